/- Own work: texts SlA, SlB, SlC, SlD, SlE, SlF, SlH, SlI, Fp, Fl, Fk, Fe, SlM, Pe, Dv, Xo, E0W, E1W, Sg, Xn, E3W, K0W, Fg2, Fg, G0W, So, put together. -/
import Derived.Calls
import Derived.Below
import Derived.OrdersHeld
import Derived.StillTail
import Derived.Laws.Cells
import Derived.Laws.Entries
import Derived.KernelRfl
import Derived.Laws.StructEq
import Derived.Laws.Pointers
import Derived.Laws.Small
import Derived.Laws.Cover3
import Derived.Laws.BitsLemmas
import Derived.Laws.Append
import Derived.Stop.BytesEq
import Derived.Laws.BytesString
import Derived.Laws.IdiomStrings
import Derived.Test.YtighbhplfjjgpaaProg
import Derived.Maps.RangeRun
import Derived.Sort.AssemblyPlain
import Derived.Laws.Bits64
import Derived.Laws.Bits64b
/- The calculus of this seat's walks (own work): a state is what is known of the frame's slots and of the heap's blocks; one law for each form of code. Nothing is said of any program here. -/
set_option linter.unusedVariables false
set_option linter.unusedSimpArgs false
namespace Go.Sl
open Go.RowKit (Below)

/-! ### What is known of a frame -/
abbrev Env := List (Nat × Value)
def look : Env → Nat → Option Value
  | [], _ => none
  | (d, v) :: E, t => bif Nat.beq d t then some v else look E t
def ev (E : Env) : Operand → Option Value
  | .tmp t => look E t
  | .const v => some v
  | .global g => some (.pointer (some ⟨g, 0, none⟩))
  | .func f => some (.func (.func f) #[] #[])
def put (E : Env) (d : Option Nat) (v : Value) : Env := match d with | some d => (d, v) :: E | none => E
/-- A frame's size, and what it has deferred. -/
structure FN where
  n : Nat
  ds : List Deferred
def dok (d : Option Nat) (n : FN) : Bool := match d with | some d => Nat.blt d n.n | none => true
structure FrOk (n : FN) (E : Env) (a : Act) : Prop where
  defers : a.defers = n.ds
  size : a.tmps.size = n.n
  known : ∀ t v, look E t = some v → a.tmps[t]? = some v

theorem FrOk.eval {n : FN} {E : Env} {a : Act} (h : FrOk n E a) {x : Operand} {v : Value} (hx : ev E x = some v) : a.eval x = v := by
  cases x with
  | tmp t => have := h.known t v hx; simp [Act.eval, this]
  | const u => simp [ev] at hx; simp [Act.eval, hx]
  | global g => simp [ev] at hx; simp [Act.eval, hx]
  | func f => simp [ev] at hx; simp [Act.eval, hx]

theorem look_put {E : Env} {d : Nat} {v : Value} {t : Nat} : look ((d, v) :: E) t = if d = t then some v else look E t := by
  show (bif Nat.beq d t then some v else look E t) = _
  by_cases h : d = t
  · subst h; simp
  · have : Nat.beq d t = false := by
      cases hb : Nat.beq d t with
      | false => rfl
      | true => exact absurd (Nat.eq_of_beq_eq_true hb) h
    simp [this, h]

theorem FrOk.put {n : FN} {E : Env} {a : Act} (h : FrOk n E a) {d : Option Nat} (hd : dok d n = true) (v : Value) : FrOk n (put E d v) (a.put d v) := by
  cases d with
  | none => exact h
  | some d =>
    have hlt : d < n.n := Nat.lt_of_succ_le (by simpa [dok, Nat.blt] using hd)
    refine ⟨h.defers, by simp [Act.put, h.size], fun t u ht => ?_⟩
    simp only [Sl.put] at ht
    rw [look_put] at ht
    simp only [Act.put, Array.getElem?_setIfInBounds, h.size]
    by_cases e : d = t
    · subst e; simp at ht; simp [hlt, ht]
    · rw [if_neg e] at ht; simp only [if_neg e]; exact h.known t u ht

/-- E' tells no more than E. -/
def SubEnv : Env → Env → Prop
  | [], _ => True
  | (t, v) :: E', E => look E t = some v ∧ SubEnv E' E
theorem SubEnv.spec {E' E : Env} (h : SubEnv E' E) : ∀ t v, look E' t = some v → look E t = some v := by
  induction E' with
  | nil => intro t v ht; cases ht
  | cons p E' ih =>
    obtain ⟨d, u⟩ := p
    intro t v ht
    rw [look_put] at ht
    by_cases e : d = t
    · subst e; simp at ht; subst ht; exact h.1
    · rw [if_neg e] at ht; exact ih h.2 t v ht
theorem frOk_same {n : FN} {E : Env} {a : Act} (h : FrOk n E a) {t : Nat} {v : Value} (ht : look E t = some v) : FrOk n ((t, v) :: E) a :=
  ⟨h.defers, h.size, fun u w hu => by
    rw [look_put] at hu
    by_cases e : t = u
    · subst e; simp at hu; subst hu; exact h.known t v ht
    · rw [if_neg e] at hu; exact h.known u w hu⟩
theorem FrOk.weaken {n : FN} {E E' : Env} {a : Act} (h : FrOk n E a) (hs : SubEnv E' E) : FrOk n E' a :=
  ⟨h.defers, h.size, fun t v ht => h.known t v (hs.spec t v ht)⟩

/-! ### What is known of the heap -/
abbrev Hp := List (List (Nat × Obj))
structure St (w0 w : World) (H : Hp) : Prop where
  below : Below w0.heap.size w0 w
  nodup : (H.flatten.map Prod.fst).Nodup
  ge : ∀ p ∈ H.flatten, w0.heap.size ≤ p.1
  has : ∀ p ∈ H.flatten, w.heap[p.1]? = some p.2

theorem St.start (w0 : World) : St w0 w0 [] := ⟨Below.refl _ _, by simp, by simp, by simp⟩
theorem St.drew {w0 w : World} {H : Hp} (h : St w0 w H) : St w0 w.drew H := ⟨h.below.drew, h.nodup, h.ge, h.has⟩
theorem St.drawn {w0 w : World} {H : Hp} (h : St w0 w H) (k : Nat) : St w0 { w with drawn := k } H :=
  ⟨⟨h.below.os, h.below.tape, h.below.output, h.below.size, h.below.block⟩, h.nodup, h.ge, h.has⟩

/-- Fewer blocks, in any order. -/
def HSub (H' H : Hp) : Prop := ∀ w0 w, St w0 w H → St w0 w H'
theorem HSub.refl (H : Hp) : HSub H H := fun _ _ h => h
theorem HSub.trans {A B C : Hp} (h : HSub A B) (k : HSub B C) : HSub A C := fun w0 w s => h w0 w (k w0 w s)
theorem HSub.of_sublist {H' H L : Hp} (hp : H.flatten.Perm L.flatten) (hs : H'.flatten.Sublist L.flatten) : HSub H' H := fun w0 w h => by
  have hm : ∀ p ∈ H'.flatten, p ∈ H.flatten := fun p hp' => hp.mem_iff.2 (hs.subset hp')
  exact ⟨h.below, (hs.map Prod.fst).nodup ((hp.map Prod.fst).nodup_iff.1 h.nodup), fun p q => h.ge p (hm p q), fun p q => h.has p (hm p q)⟩
theorem HSub.of_perm {H' H : Hp} (hp : H.flatten.Perm H'.flatten) : HSub H' H := .of_sublist hp (List.Sublist.refl _)
theorem HSub.drop (S : List (Nat × Obj)) (H : Hp) : HSub H (S :: H) := .of_sublist (List.Perm.refl _) (by simp [List.flatten_cons])
theorem HSub.cons {H' H : Hp} (S : List (Nat × Obj)) (h : ∃ L : Hp, H.flatten.Perm L.flatten ∧ H'.flatten.Sublist L.flatten) : HSub (S :: H') (S :: H) := by
  obtain ⟨L, hp, hs⟩ := h
  exact .of_sublist (L := S :: L) (by simpa using hp.append_left S) (by simpa using (List.Sublist.refl S).append hs)

/-- Where a block lies. -/
def getH : Hp → Nat → Nat → Option (Nat × Obj)
  | [], _, _ => none
  | S :: _, 0, k => S[k]?
  | _ :: H, s + 1, k => getH H s k
def setH : Hp → Nat → Nat → Obj → Hp
  | [], _, _, _ => []
  | S :: H, 0, k, o => (S.modify k fun p => (p.1, o)) :: H
  | S :: H, s + 1, k, o => S :: setH H s k o
/-- One segment told anew. -/
def setS : Hp → Nat → List (Nat × Obj) → Hp
  | [], _, _ => []
  | _ :: H, 0, X => X :: H
  | S :: H, s + 1, X => S :: setS H s X

theorem getH_mem {H : Hp} {s k : Nat} {p : Nat × Obj} (h : getH H s k = some p) : p ∈ H.flatten := by
  induction H generalizing s with
  | nil => cases h
  | cons S H ih =>
    cases s with
    | zero => simp only [getH] at h; simp [List.mem_of_getElem? h]
    | succ s => simp only [getH] at h; simp only [List.flatten_cons, List.mem_append]; exact .inr (ih h)

/-- In the worlds of W block b is o. -/
def Sees (W : World → Prop) (b : Nat) (o : Obj) : Prop := ∀ w, W w → w.heap[b]? = some o
theorem sees {w0 : World} {H : Hp} (s k : Nat) {b : Nat} {o : Obj} (h : getH H s k = some (b, o)) : Sees (fun w => St w0 w H) b o :=
  fun _ hw => hw.has _ (getH_mem h)
theorem sees_mem {w0 : World} {H : Hp} {b : Nat} {o : Obj} (h : (b, o) ∈ H.flatten) : Sees (fun w => St w0 w H) b o :=
  fun _ hw => hw.has _ h
theorem sees_old {w0 : World} {H : Hp} {b : Nat} {o : Obj} (h : w0.heap[b]? = some o) : Sees (fun w => St w0 w H) b o :=
  fun w hw => by
    have hlt : b < w0.heap.size := (Array.getElem?_eq_some_iff.1 h).1
    rw [hw.below.block b hlt]; exact h
/-- What may be read: a block that was there, or one of those that are known. -/
def Rd (w0 : World) (H : Hp) (b : Nat) (o : Obj) : Prop := Sees (fun w => St w0 w H) b o
theorem Sees.sub {w0 : World} {H H' : Hp} {b : Nat} {o : Obj} (h : Sees (fun w => St w0 w H') b o) (hs : HSub H' H) : Sees (fun w => St w0 w H) b o :=
  fun w hw => h w (hs w0 w hw)

/-! ### Worlds that are written -/
def putB (w : World) (b : Nat) (o : Obj) : World := { w with heap := w.heap.setIfInBounds b o }
theorem putB_same {w : World} {b : Nat} {o o' : Obj} (h : w.heap[b]? = some o) : (putB w b o').heap[b]? = some o' := by
  have hlt : b < w.heap.size := (Array.getElem?_eq_some_iff.1 h).1
  simp [putB, hlt]
theorem putB_other {w : World} {b c : Nat} {o : Obj} (h : c ≠ b) : (putB w b o).heap[c]? = w.heap[c]? := by
  simp only [putB, Array.getElem?_setIfInBounds]
  rw [if_neg (fun e => h e.symm)]

theorem map_modify_fst (S : List (Nat × Obj)) (k : Nat) (o : Obj) : (S.modify k fun p => (p.1, o)).map Prod.fst = S.map Prod.fst := by
  apply List.ext_getElem?
  intro i
  simp only [List.getElem?_map, List.getElem?_modify]
  cases S[i]? <;> simp
  split <;> rfl
theorem setH_keys (H : Hp) (s k : Nat) (o : Obj) : (setH H s k o).flatten.map Prod.fst = H.flatten.map Prod.fst := by
  induction H generalizing s with
  | nil => rfl
  | cons S H ih =>
    cases s with
    | zero => simp only [setH, List.flatten_cons, List.map_append]; rw [map_modify_fst]
    | succ s => simp only [setH, List.flatten_cons, List.map_append, ih s]
theorem mem_modify {S : List (Nat × Obj)} {k : Nat} {o : Obj} {p q : Nat × Obj} (hk : S[k]? = some q) (h : p ∈ S.modify k fun p => (p.1, o)) :
    p = (q.1, o) ∨ (∃ j, j ≠ k ∧ S[j]? = some p) := by
  obtain ⟨j, hj⟩ := List.mem_iff_getElem?.1 h
  rw [List.getElem?_modify] at hj
  by_cases e : k = j
  · subst e; rw [hk] at hj; simp at hj; exact .inl hj.symm
  · cases hS : S[j]? with
    | none => simp [hS] at hj
    | some r => simp [hS, e] at hj; subst hj; exact .inr ⟨j, fun h => e h.symm, hS⟩
theorem nodup_ne {S : List (Nat × Obj)} (hn : (S.map Prod.fst).Nodup) {j k : Nat} {p q : Nat × Obj} (hj : S[j]? = some p) (hk : S[k]? = some q) (hne : j ≠ k) : p.1 ≠ q.1 := by
  intro e
  have h1 : (S.map Prod.fst)[j]? = some p.1 := by simp [hj]
  have h2 : (S.map Prod.fst)[k]? = some p.1 := by simp [hk, e]
  have hlt : j < (S.map Prod.fst).length := (List.getElem?_eq_some_iff.1 h1).1
  exact hne ((List.getElem?_inj hlt hn).1 (h1.trans h2.symm))
theorem mem_setH {H : Hp} {s k : Nat} {o : Obj} {p q : Nat × Obj} (hn : (H.flatten.map Prod.fst).Nodup) (hk : getH H s k = some q) (h : p ∈ (setH H s k o).flatten) :
    p = (q.1, o) ∨ (p ∈ H.flatten ∧ p.1 ≠ q.1) := by
  induction H generalizing s with
  | nil => cases hk
  | cons S H ih =>
    have hn' := hn
    simp only [List.flatten_cons, List.map_append] at hn
    rw [List.nodup_append] at hn
    cases s with
    | zero =>
      simp only [getH] at hk
      simp only [setH, List.flatten_cons, List.mem_append] at h
      rcases h with h | h
      · rcases mem_modify hk h with h | ⟨j, hj, hS⟩
        · exact .inl h
        · exact .inr ⟨by simp [List.mem_of_getElem? hS], nodup_ne hn.1 hS hk hj⟩
      · refine .inr ⟨by simp only [List.flatten_cons, List.mem_append]; exact .inr h, fun e => ?_⟩
        exact hn.2.2 q.1 (List.mem_map.2 ⟨q, List.mem_of_getElem? hk, rfl⟩) p.1 (List.mem_map.2 ⟨p, h, rfl⟩) e.symm
    | succ s =>
      simp only [getH] at hk
      simp only [setH, List.flatten_cons, List.mem_append] at h
      rcases h with h | h
      · refine .inr ⟨by simp [h], fun e => ?_⟩
        exact hn.2.2 p.1 (List.mem_map.2 ⟨p, h, rfl⟩) q.1 (List.mem_map.2 ⟨q, getH_mem hk, rfl⟩) e
      · rcases ih hn.2.1 hk h with h | h
        · exact .inl h
        · exact .inr ⟨by simp [h.1], h.2⟩

theorem St.putB {w0 w : World} {H : Hp} (h : St w0 w H) {s k : Nat} {b : Nat} {o : Obj} (hk : getH H s k = some (b, o)) (o' : Obj) :
    St w0 (putB w b o') (setH H s k o') := by
  have hb : w0.heap.size ≤ b := h.ge _ (getH_mem hk)
  have hB := h.has _ (getH_mem hk)
  refine ⟨⟨h.below.os, h.below.tape, h.below.output, by simpa [Sl.putB] using h.below.size, fun c hc => ?_⟩, by rw [setH_keys]; exact h.nodup, fun p hp => ?_, fun p hp => ?_⟩
  · rw [putB_other (by omega)]; exact h.below.block c hc
  · rcases mem_setH h.nodup hk hp with e | e
    · rw [e]; exact hb
    · exact h.ge _ e.1
  · rcases mem_setH h.nodup hk hp with e | e
    · rw [e]; exact putB_same hB
    · rw [putB_other e.2]; exact h.has _ e.1

theorem St.alloc {w0 w : World} {H : Hp} (h : St w0 w H) (o : Obj) : St w0 (w.alloc o) ([(w.heap.size, o)] :: H) := by
  have hlt : ∀ p ∈ H.flatten, p.1 < w.heap.size := fun p hp => (Array.getElem?_eq_some_iff.1 (h.has p hp)).1
  refine ⟨h.below.alloc h.below.size o, ?_, ?_, ?_⟩
  · simp only [List.flatten_cons, List.singleton_append, List.map_cons, List.nodup_cons]
    refine ⟨fun hm => ?_, h.nodup⟩
    obtain ⟨p, hp, e⟩ := List.mem_map.1 hm
    have := hlt p hp
    omega
  · intro p hp
    simp only [List.flatten_cons, List.singleton_append, List.mem_cons] at hp
    rcases hp with rfl | hp
    · exact h.below.size
    · exact h.ge p hp
  · intro p hp
    simp only [List.flatten_cons, List.singleton_append, List.mem_cons] at hp
    rcases hp with rfl | hp
    · show (w.heap.push o)[w.heap.size]? = some o
      simp
    · rw [show (w.alloc o).heap[p.1]? = w.heap[p.1]? from Below.heap_alloc w o p.1 (hlt p hp)]; exact h.has p hp

/-! ### Judgements -/
abbrev Post := Exit → Env → Hp → Prop
def Exit.isPanic : Exit → Bool
  | .panic _ => true
  | _ => false
def lift (n : FN) (w0 : World) (Q : Post) : Exit → Act → World → Prop := fun e a w => ∃ E H, (a.defers = n.ds ∧ (Exit.isPanic e = false → FrOk n E a)) ∧ St w0 w H ∧ Q e E H
def WpC (P : Program) (n : FN) (w0 : World) (c : Code) (Q : Post) (E : Env) (H : Hp) : Prop := ∀ a w, FrOk n E a → St w0 w H → c.wp P (lift n w0 Q) a w
def WpL (P : Program) (n : FN) (w0 : World) (ops : List Oper) (Q : Post) (l : List Oper) (E : Env) (H : Hp) : Prop :=
  ∀ a w, FrOk n E a → St w0 w H → wpList P ops.toArray (lift n w0 Q) l a w
/-- One operation. -/
def OpW (P : Program) (n : FN) (w0 : World) (Q : Post) (o : Oper) (E : Env) (H : Hp) (K : Env → Hp → Prop) : Prop :=
  ∀ a w, FrOk n E a → St w0 w H → ∀ next : Act → World → Prop, (∀ E' H' a' w', FrOk n E' a' → St w0 w' H' → K E' H' → next a' w') → o.wp P a w next (lift n w0 Q)
/-- A call. -/
def FnS (P : Program) (w0 : World) (f : Nat) (args : Array Value) (H : Hp) (R : Ending → Hp → Prop) : Prop :=
  ∀ w, St w0 w H → Calls P f args w fun e w' => ∃ H', St w0 w' H' ∧ R e H'
/-- An operation that only yields a value, in each world of W. -/
def YV (P : Program) (n : FN) (E : Env) (W : World → Prop) (op : Op) (ty : Nat) (v : Value) : Prop :=
  ∀ a w, FrOk n E a → W w → ∀ d ps af g, (execOp a.eval ⟨d, op, ty, ps, af, g⟩).run P w = .ok (.value v) w

variable {P : Program} {n : FN} {w0 : World} {Q : Post} {E E' : Env} {H H' : Hp}

theorem FnS.mono {f : Nat} {args : Array Value} {R R' : Ending → Hp → Prop} (h : FnS P w0 f args H R) (hr : ∀ e H', R e H' → R' e H') : FnS P w0 f args H R' :=
  fun w hw => (h w hw).mono fun e w' ⟨H', s, r⟩ => ⟨H', s, hr e H' r⟩
theorem FnS.sub {f : Nat} {args : Array Value} {R : Ending → Hp → Prop} (hs : HSub H' H) (h : FnS P w0 f args H' R) : FnS P w0 f args H R :=
  fun w hw => h w (hs w0 w hw)
theorem perm_setS_all : ∀ (H : Hp) (k : Nat) (X : List (Nat × Obj)), H[k]? = some X → ∃ L, H.flatten.Perm (X :: L).flatten ∧ ∀ Y, (setS H k Y).flatten.Perm (Y :: L).flatten
  | [], _, _, h => by cases h
  | S :: H, 0, X, h => by simp at h; subst h; exact ⟨H, .refl _, fun _ => .refl _⟩
  | S :: H, k + 1, X, h => by
    simp only [List.getElem?_cons_succ] at h
    obtain ⟨L, h1, h2⟩ := perm_setS_all H k X h
    refine ⟨S :: L, ?_, fun Y => ?_⟩
    · simp only [List.flatten_cons] at *
      refine (h1.append_left S).trans ?_
      rw [← List.append_assoc, ← List.append_assoc]
      exact (List.perm_append_comm).append_right _
    · have h2 := h2 Y
      simp only [setS, List.flatten_cons] at *
      refine (h2.append_left S).trans ?_
      rw [← List.append_assoc, ← List.append_assoc]
      exact (List.perm_append_comm).append_right _
theorem FnS.at {f : Nat} {args : Array Value} {X : List (Nat × Obj)} {φ : Ending → List (Nat × Obj) → Prop} (k : Nat)
    (h : ∀ L, FnS P w0 f args (X :: L) fun e H' => ∃ Y, φ e Y ∧ H' = Y :: L) (hk : H[k]? = some X) :
    FnS P w0 f args H fun e H' => ∃ Y, φ e Y ∧ H' = setS H k Y := by
  obtain ⟨L, h1, h2⟩ := perm_setS_all H k X hk
  intro w hw
  refine (h L w (HSub.of_perm h1 w0 w hw)).mono ?_
  rintro e w' ⟨H', s, Y, hφ, rfl⟩
  exact ⟨_, HSub.of_perm (h2 Y).symm w0 w' s, Y, hφ, rfl⟩

/-! ### Code -/
theorem C_weaken {c : Code} (hE : SubEnv E' E) (hH : HSub H' H) (h : WpC P n w0 c Q E' H') : WpC P n w0 c Q E H :=
  fun a w ha hw => h a w (ha.weaken hE) (hH w0 w hw)
theorem C_mono {c : Code} {Q' : Post} (h : WpC P n w0 c Q' E H) (hq : ∀ e E H, Q' e E H → Q e E H) : WpC P n w0 c Q E H :=
  fun a w ha hw => wp_mono (h a w ha hw) fun e a' w' ⟨E', H', x, y, z⟩ => ⟨E', H', x, y, hq _ _ _ z⟩
@[reducible] def thenQ (K : Env → Hp → Prop) (Q : Post) : Post := fun e E H => match e with | .normal => K E H | e => Q e E H
theorem C_seq {x y : Code} (h : WpC P n w0 x (thenQ (WpC P n w0 y Q) Q) E H) : WpC P n w0 (.seq x y) Q E H := fun a w ha hw => by
  refine wp_seq (wp_mono (h a w ha hw) ?_)
  rintro e a' w' ⟨E', H', x, s, q⟩
  cases e with
  | normal => exact q a' w' (x.2 rfl) s
  | _ => exact ⟨E', H', x, s, q⟩
/-- A sequence with a cut between. -/
theorem C_cut {x y : Code} (K : Env → Hp → Prop) (h : WpC P n w0 x (thenQ K Q) E H) (hk : ∀ E H, K E H → WpC P n w0 y Q E H) : WpC P n w0 (.seq x y) Q E H :=
  C_seq (C_mono h fun e E H q => by cases e <;> first | exact hk _ _ q | exact q)
theorem C_skip (h : Q .normal E H) : WpC P n w0 .skip Q E H := fun a w ha hw => wp_skip ⟨E, H, ⟨ha.defers, fun _ => ha⟩, hw, h⟩
theorem C_ret (h : Q .ret E H) : WpC P n w0 .ret Q E H := fun a w ha hw => wp_ret ⟨E, H, ⟨ha.defers, fun _ => ha⟩, hw, h⟩
theorem C_exit {id : Nat} (h : Q (.exit id) E H) : WpC P n w0 (.exit id) Q E H := fun a w ha hw => wp_exit ⟨E, H, ⟨ha.defers, fun _ => ha⟩, hw, h⟩
theorem C_cond {c : Operand} {x y : Code} {b : Bool} (hc : ev E c = some (.bool b)) (ht : b = true → WpC P n w0 x Q E H) (hf : b = false → WpC P n w0 y Q E H) :
    WpC P n w0 (.cond c x y) Q E H := fun a w ha hw => wp_cond_split (ha.eval hc) (fun h => ht h a w ha hw) (fun h => hf h a w ha hw)
theorem C_cond_t {c : Operand} {x y : Code} (hc : ev E c = some (.bool true)) (h : WpC P n w0 x Q E H) : WpC P n w0 (.cond c x y) Q E H :=
  fun a w ha hw => wp_cond_true (ha.eval hc) (h a w ha hw)
theorem C_cond_f {c : Operand} {x y : Code} (hc : ev E c = some (.bool false)) (h : WpC P n w0 y Q E H) : WpC P n w0 (.cond c x y) Q E H :=
  fun a w ha hw => wp_cond_false (ha.eval hc) (h a w ha hw)
@[reducible] def blockQ (id : Nat) (Q : Post) : Post := fun e E H => match e with | .exit id' => if id' = id then Q .normal E H else Q (.exit id') E H | e => Q e E H
theorem C_block {id : Nat} {c : Code} (h : WpC P n w0 c (blockQ id Q) E H) : WpC P n w0 (.block id c) Q E H := fun a w ha hw => by
  refine wp_block (wp_mono (h a w ha hw) ?_)
  rintro e a' w' ⟨E', H', x, s, q⟩
  cases e with
  | exit id' =>
    simp only [blockQ] at q
    simp only [Exit.inBlock]
    split
    · rename_i e; rw [if_pos e] at q; exact ⟨E', H', ⟨x.1, fun _ => x.2 rfl⟩, s, q⟩
    · rename_i e; rw [if_neg e] at q; exact ⟨E', H', ⟨x.1, fun _ => x.2 rfl⟩, s, q⟩
  | _ => exact ⟨E', H', x, s, q⟩
/-- A loop: states i : ι between the rounds; a measure falls. -/
theorem C_loop {ι : Type} {c : Code} (Ei : ι → Env) (Hi : ι → Hp) (G : ι → Prop) (μ : ι → Nat) (i0 : ι) (h0 : G i0) (hE : SubEnv (Ei i0) E) (hH : HSub (Hi i0) H)
    (round : ∀ i, G i → WpC P n w0 c (thenQ (fun E' H' => ∃ j, G j ∧ μ j < μ i ∧ SubEnv (Ei j) E' ∧ HSub (Hi j) H') Q) (Ei i) (Hi i)) :
    WpC P n w0 (.loop c) Q E H := by
  intro a w ha hw b k cs
  have key : ∀ (m : Nat) (i : ι), G i → μ i = m → ∀ a w, FrOk n (Ei i) a → St w0 w (Hi i) →
      ∃ e a' w', lift n w0 Q e a' w' ∧ Arrives P (lone (b.at a (.code c :: .inLoop c :: k)) cs w) b k cs e a' w' := by
    intro m
    induction m using Nat.strongRecOn with
    | _ m ih =>
      intro i gi hm a w ha hw
      obtain ⟨e, a₁, w₁, hq, harr⟩ := round i gi a w ha hw b (.inLoop c :: k) cs
      obtain ⟨E₁, H₁, f1, s1, q⟩ := hq
      cases e with
      | normal =>
        obtain ⟨j, gj, hlt, hE, hH⟩ := q
        obtain ⟨e₂, a₂, w₂, hq₂, harr₂⟩ := ih (μ j) (hm ▸ hlt) j gj rfl a₁ w₁ ((f1.2 rfl).weaken hE) (hH w0 w₁ s1)
        exact ⟨e₂, a₂, w₂, hq₂, .of_steps (Steps.trans harr (.one step_inLoop)) harr₂⟩
      | exit id => exact ⟨_, a₁, w₁, ⟨E₁, H₁, f1, s1, q⟩, .pass (x := .inLoop c) rfl (fun _ _ => .inl (by simp)) harr⟩
      | goto l => exact ⟨_, a₁, w₁, ⟨E₁, H₁, f1, s1, q⟩, .pass (x := .inLoop c) rfl (fun _ _ => .inl (by simp)) harr⟩
      | ret => exact ⟨_, a₁, w₁, ⟨E₁, H₁, f1, s1, q⟩, .pass (x := .inLoop c) rfl (fun _ _ => .inl (by simp)) harr⟩
      | panic ch => exact ⟨_, a₁, w₁, ⟨E₁, H₁, f1, s1, q⟩, .pass (x := .inLoop c) rfl (fun _ _ => .inl (by simp)) harr⟩
      | outgrown => exact ⟨_, a₁, w₁, ⟨E₁, H₁, f1, s1, q⟩, .pass (x := .inLoop c) rfl (fun _ _ => .inl (by simp)) harr⟩
  obtain ⟨e, a', w', hq, harr⟩ := key (μ i0) i0 h0 rfl a w (ha.weaken hE) (hH w0 w hw)
  exact ⟨e, a', w', hq, .of_steps (.one step_loop) harr⟩
end Go.Sl

/- The calculus, second part (own work): lists of operations, regions that draw their order, and the operations that only yield a value. -/
set_option linter.unusedVariables false
set_option linter.unusedSimpArgs false
namespace Go.Sl
open Go.RowKit (Below)
variable {P : Program} {n : FN} {w0 : World} {Q : Post} {E E' : Env} {H H' HS : Hp} {W : World → Prop}

/-! ### Guards -/
def isB : Value → Bool → Bool
  | .bool c, b => bif b then c else !c
  | _, _ => false
def gv (ops : List Oper) (E : Env) (j : Nat) : Option Value := (ops[j]?).bind fun o => o.dst.bind fun d => look E d
def wE (ops : List Oper) (E : Env) : Option (Nat × Bool) → Option Bool
  | none => some true
  | some (j, b) => (gv ops E j).map fun v => isB v b
theorem wanted_of {ops : List Oper} {o : Oper} {c : Bool} (h : wE ops E o.guard = some c) {a : Act} (ha : FrOk n E a) : Region.wanted o (yielded ops.toArray a.tmps) = c := by
  unfold Region.wanted
  cases hg : o.guard with
  | none => rw [hg] at h; simp [wE] at h; simp [h]
  | some p =>
    obtain ⟨j, b⟩ := p
    rw [hg] at h
    simp only [wE, gv, Option.map_eq_some_iff] at h
    obtain ⟨v, hv, hb⟩ := h
    simp only [Option.bind_eq_some_iff] at hv
    obtain ⟨o', ho', d, hd, hl⟩ := hv
    have hk := ha.known d v hl
    simp only [yielded, List.getElem?_toArray, ho', Option.bind_some, hd, hk]
    rw [← hb]
    cases v <;> simp [isB] <;> (rename_i c'; cases b <;> cases c' <;> rfl)

/-! ### Lists -/
theorem L_nil {ops : List Oper} (h : Q .normal E H) : WpL P n w0 ops Q [] E H := fun a w ha hw => wpList_nil ⟨E, H, ⟨ha.defers, fun _ => ha⟩, hw, h⟩
theorem L_y {ops rest : List Oper} {d : Option Nat} {op : Op} {ty : Nat} {ps : String} {af : Array Edge} {g : Option (Nat × Bool)} {v : Value}
    (hg : wE ops E g = some true) (hy : YV P n E (fun w => St w0 w H) op ty v) (hd : dok d n = true) (k : WpL P n w0 ops Q rest (put E d v) H) :
    WpL P n w0 ops Q (⟨d, op, ty, ps, af, g⟩ :: rest) E H := fun a w ha hw => by
  unfold wpList
  rw [if_pos (wanted_of (o := ⟨d, op, ty, ps, af, g⟩) hg ha)]
  refine .inl ?_
  unfold Oper.wp
  rw [hy a w ha hw d ps af g]
  exact k _ _ (ha.put hd v) hw
theorem L_op {ops rest : List Oper} {o : Oper} (hg : wE ops E o.guard = some true) (h : OpW P n w0 Q o E H (fun E' H' => WpL P n w0 ops Q rest E' H')) :
    WpL P n w0 ops Q (o :: rest) E H := fun a w ha hw => by
  unfold wpList
  rw [if_pos (wanted_of hg ha)]
  exact .inl (h a w ha hw _ fun E' H' a' w' x s k => k a' w' x s)
theorem L_skip {ops rest : List Oper} {o : Oper} (hg : wE ops E o.guard = some false) (hd : dok o.dst n = true) (k : WpL P n w0 ops Q rest (put E o.dst undef) H) :
    WpL P n w0 ops Q (o :: rest) E H := fun a w ha hw => by
  unfold wpList
  rw [if_neg (by rw [wanted_of hg ha]; simp)]
  exact k _ _ (ha.put hd undef) hw
/-- A slot's truth is asked. -/
theorem L_case {ops l : List Oper} (t : Nat) {b : Bool} (h : look E t = some (.bool b)) (ht : b = true → WpL P n w0 ops Q l ((t, .bool true) :: E) H)
    (hf : b = false → WpL P n w0 ops Q l ((t, .bool false) :: E) H) : WpL P n w0 ops Q l E H := by
  cases b with
  | true => exact fun a w ha hw => ht rfl a w (frOk_same ha h) hw
  | false => exact fun a w ha hw => hf rfl a w (frOk_same ha h) hw

/-! ### Regions -/
theorem C_region {id : Nat} {l : List Oper} (h : WpL P n w0 l Q l E H) : WpC P n w0 (.region id l.toArray false) Q E H :=
  fun a w ha hw => wp_region_lit (h a w ha hw)

/-- Behind the draw, operations that only yield; then the tail, in its order. -/
def WpS (P : Program) (n : FN) (w0 : World) (ops : List Oper) (Q : Post) (tail l : List Oper) (E : Env) (H : Hp) : Prop :=
  ∀ a w, FrOk n E a → St w0 w H → wpStill P ops.toArray w (fun a' => wpList P ops.toArray (lift n w0 Q) tail a' w) l a
/-- Whatever order is drawn; what is known throughout is HS. -/
def WpH (P : Program) (n : FN) (w0 : World) (ops : List Oper) (Q : Post) (HS : Hp) (fuel : Nat) (listed : List Bool) (E : Env) (H : Hp) : Prop :=
  ∀ a w, FrOk n E a → St w0 w H → wpAnyH P .any ops.toArray (lift n w0 Q) (fun w => St w0 w HS) fuel listed.toArray a w
theorem C_regionH {id : Nat} {l : List Oper} (HS : Hp) (hm : P.follows .mixedOrders = true) (h : WpH P n w0 l Q HS l.length (List.replicate l.length false) E H) :
    WpC P n w0 (.region id l.toArray true) Q E H := fun a w ha hw => by
  refine wp_region_held (S := fun w => St w0 w HS) hm ?_
  have := h a _ ha (hw.drawn (w.drawn + 1))
  simpa using this
theorem C_regionH0 {id : Nat} {l : List Oper} (hm : P.follows .mixedOrders = true) (h : WpH P n w0 l Q H l.length (List.replicate l.length false) E H) :
    WpC P n w0 (.region id l.toArray true) Q E H := C_regionH H hm h
theorem lift_put {d : Option Nat} {v : Value} : ∀ (c : List PanicEntry) (a : Act) (w : World), lift n w0 Q (.panic c) (a.put d v) w → lift n w0 Q (.panic c) a w :=
  fun c a w ⟨E, H, x, s, q⟩ => ⟨E, H, ⟨by cases d <;> exact x.1, (fun h => by cases h)⟩, s, q⟩
theorem H_y {ops : List Oper} {fuel : Nat} {listed : List Bool} (i : Nat) {d : Option Nat} {op : Op} {ty : Nat} {ps : String} {af : Array Edge} {g : Option (Nat × Bool)} {v : Value}
    (hi : ops[i]? = some ⟨d, op, ty, ps, af, g⟩) (hs : Region.noSelect ops.toArray = true) (hf : Region.free .any ops.toArray listed.toArray i = true)
    (hr : (Region.ready .any ops.toArray listed.toArray).contains i = true) (hS : HSub HS H)
    (hg : wE ops E g = some true) (hy : YV P n E (fun w => St w0 w HS) op ty v) (hd : dok d n = true)
    (k : WpH P n w0 ops Q HS fuel (listed.set i true) (put E d v) H) : WpH P n w0 ops Q HS (fuel + 1) listed E H := fun a w ha hw => by
  refine wpAnyH_take (i := i) (oi := ⟨d, op, ty, ps, af, g⟩) (v := v) (by simpa using hi) hs hf hr lift_put (.inl ⟨wanted_of (o := ⟨d, op, ty, ps, af, g⟩) hg ha, fun w' hw' => hy a w' ha hw' d ps af g⟩) (hS w0 w hw) ?_
  have := k _ _ (ha.put hd v) hw
  simpa using this
theorem H_skip {ops : List Oper} {fuel : Nat} {listed : List Bool} (i : Nat) {o : Oper} (hi : ops[i]? = some o) (hs : Region.noSelect ops.toArray = true) (hf : Region.free .any ops.toArray listed.toArray i = true)
    (hr : (Region.ready .any ops.toArray listed.toArray).contains i = true) (hS : HSub HS H)
    (hg : wE ops E o.guard = some false) (hd : dok o.dst n = true)
    (k : WpH P n w0 ops Q HS fuel (listed.set i true) (put E o.dst undef) H) : WpH P n w0 ops Q HS (fuel + 1) listed E H := fun a w ha hw => by
  refine wpAnyH_take (i := i) (oi := o) (v := undef) (by simpa using hi) hs hf hr lift_put (.inr ⟨wanted_of hg ha, rfl⟩) (hS w0 w hw) ?_
  have := k _ _ (ha.put hd undef) hw
  simpa using this
/-- The same, shorter to write. -/
theorem HY {ops : List Oper} {fuel : Nat} {listed : List Bool} (i : Nat) {d : Option Nat} {op : Op} {ty : Nat} {ps : String} {af : Array Edge} {g : Option (Nat × Bool)} {v : Value}
    (hi : ops[i]? = some ⟨d, op, ty, ps, af, g⟩) (hS : HSub HS H) (hg : wE ops E g = some true) (hy : YV P n E (fun w => St w0 w HS) op ty v)
    (k : WpH P n w0 ops Q HS fuel (listed.set i true) (put E d v) H) (hs : Region.noSelect ops.toArray = true := by kernel_rfl) (hf : Region.free .any ops.toArray listed.toArray i = true := by kernel_rfl)
    (hr : (Region.ready .any ops.toArray listed.toArray).contains i = true := by kernel_rfl) (hd : dok d n = true := by exact rfl) : WpH P n w0 ops Q HS (fuel + 1) listed E H := H_y i hi hs hf hr hS hg hy hd k
theorem HK {ops : List Oper} {fuel : Nat} {listed : List Bool} (i : Nat) {o : Oper} (hi : ops[i]? = some o) (hS : HSub HS H) (hg : wE ops E o.guard = some false)
    (k : WpH P n w0 ops Q HS fuel (listed.set i true) (put E o.dst undef) H) (hs : Region.noSelect ops.toArray = true := by kernel_rfl) (hf : Region.free .any ops.toArray listed.toArray i = true := by kernel_rfl)
    (hr : (Region.ready .any ops.toArray listed.toArray).contains i = true := by kernel_rfl) (hd : dok o.dst n = true := by exact rfl) : WpH P n w0 ops Q HS (fuel + 1) listed E H := H_skip i hi hs hf hr hS hg hd k
theorem LY {ops rest : List Oper} {d : Option Nat} {op : Op} {ty : Nat} {ps : String} {af : Array Edge} {g : Option (Nat × Bool)} {v : Value}
    (hg : wE ops E g = some true) (hy : YV P n E (fun w => St w0 w H) op ty v) (k : WpL P n w0 ops Q rest (put E d v) H) (hd : dok d n = true := by exact rfl) :
    WpL P n w0 ops Q (⟨d, op, ty, ps, af, g⟩ :: rest) E H := L_y hg hy hd k
theorem wpOp_of_OpW {ops : List Oper} {fuel : Nat} {listed : List Bool} {i : Nat} {o : Oper} (hi : ops[i]? = some o) (hg : wE ops E o.guard = some true)
    (h : OpW P n w0 Q o E H (fun E' H' => HSub HS H' ∧ WpH P n w0 ops Q HS fuel (listed.set i true) E' H')) {a : Act} {w : World} (ha : FrOk n E a) (hw : St w0 w H) :
    wpOp P ops.toArray (lift n w0 Q) i (fun a' w' => St w0 w' HS ∧ wpAnyH P .any ops.toArray (lift n w0 Q) (fun w => St w0 w HS) fuel (listed.toArray.setIfInBounds i true) a' w') a w := by
  unfold wpOp
  rw [show ops.toArray[i]? = some o by simpa using hi]
  simp only
  rw [if_pos (wanted_of hg ha)]
  refine .inl (h a w ha hw _ fun E' H' a' w' x s k => ⟨k.1 w0 w' s, ?_⟩)
  have := k.2 a' w' x s
  simpa using this
/-- One loud operation alone may come up. -/
theorem H_one {ops : List Oper} {fuel : Nat} {listed : List Bool} (i : Nat) {o : Oper} (hi : ops[i]? = some o) (hr : Region.ready .any ops.toArray listed.toArray = [i])
    (hg : wE ops E o.guard = some true) (h : OpW P n w0 Q o E H (fun E' H' => HSub HS H' ∧ WpH P n w0 ops Q HS fuel (listed.set i true) E' H')) :
    WpH P n w0 ops Q HS (fuel + 1) listed E H := fun a w ha hw =>
  wpAnyH_all hr (by simp) fun j hj => by simp at hj; subst hj; exact wpOp_of_OpW hi hg h ha hw
/-- Two may. -/
theorem H_two {ops : List Oper} {fuel : Nat} {listed : List Bool} (i j : Nat) {o o' : Oper} (hi : ops[i]? = some o) (hj : ops[j]? = some o') (hr : Region.ready .any ops.toArray listed.toArray = [i, j])
    (hg : wE ops E o.guard = some true) (hg' : wE ops E o'.guard = some true)
    (h : OpW P n w0 Q o E H (fun E' H' => HSub HS H' ∧ WpH P n w0 ops Q HS fuel (listed.set i true) E' H'))
    (h' : OpW P n w0 Q o' E H (fun E' H' => HSub HS H' ∧ WpH P n w0 ops Q HS fuel (listed.set j true) E' H')) :
    WpH P n w0 ops Q HS (fuel + 1) listed E H := fun a w ha hw =>
  wpAnyH_all hr (by simp) fun k hk => by
    simp at hk
    rcases hk with rfl | rfl
    · exact wpOp_of_OpW hi hg h ha hw
    · exact wpOp_of_OpW hj hg' h' ha hw
theorem H_done {ops : List Oper} {fuel : Nat} {listed : List Bool} (hr : Region.ready .any ops.toArray listed.toArray = []) (h : Q .normal E H) : WpH P n w0 ops Q HS fuel listed E H :=
  fun a w ha hw => wpAnyH_done hr ⟨E, H, ⟨ha.defers, fun _ => ha⟩, hw, h⟩ fuel
theorem H_case {ops : List Oper} {fuel : Nat} {listed : List Bool} (t : Nat) {b : Bool} (h : look E t = some (.bool b)) (ht : b = true → WpH P n w0 ops Q HS fuel listed ((t, .bool true) :: E) H)
    (hf : b = false → WpH P n w0 ops Q HS fuel listed ((t, .bool false) :: E) H) : WpH P n w0 ops Q HS fuel listed E H := by
  cases b with
  | true => exact fun a w ha hw => ht rfl a w (frOk_same ha h) hw
  | false => exact fun a w ha hw => hf rfl a w (frOk_same ha h) hw

/-! ### Functions -/
def args0 : List Value → Nat → Env
  | [], _ => []
  | v :: vs, i => (i, v) :: args0 vs (i + 1)
theorem look_args0 : ∀ (vs : List Value) (i t : Nat) (v : Value), look (args0 vs i) t = some v → i ≤ t ∧ vs[t - i]? = some v
  | [], _, _, _, h => by cases h
  | u :: vs, i, t, v, h => by
    simp only [args0] at h
    rw [look_put] at h
    by_cases e : i = t
    · subst e; simp at h; simp [h]
    · rw [if_neg e] at h
      have ⟨h1, h2⟩ := look_args0 vs (i + 1) t v h
      exact ⟨by omega, by rw [show t - i = (t - (i + 1)) + 1 by omega]; simpa using h2⟩
/-- How a body may end. -/
def RV (P : Program) (w0 : World) (E : Env) (H : Hp) : List ResultVar → List Value → Prop
  | [], [] => True
  | .tmp t :: rs, v :: vs => look E t = some v ∧ RV P w0 E H rs vs
  | .cell t ty :: rs, v :: vs => (∃ p, look E t = some (.pointer (some p)) ∧ ∀ w, St w0 w H → (loadVar ty p).run P w = .ok v w) ∧ RV P w0 E H rs vs
  | _, _ => False
def pack : List Value → Value
  | [v] => v
  | vs => .tuple vs.toArray
def BodyQ (P : Program) (w0 : World) (rs : List ResultVar) (R : Ending → Hp → Prop) : Post := fun e E H => match e with
  | .normal | .ret => ∃ vs H', RV P w0 E H rs vs ∧ HSub H' H ∧ R (.returned (pack vs)) H'
  | .panic ch => R (.panicked ch) H
  | _ => False
theorem RV.length : ∀ {rs : List ResultVar} {vs : List Value}, RV P w0 E H rs vs → rs.length = vs.length
  | [], [], _ => rfl
  | .tmp _ :: _, _ :: _, h => by simp [RV.length h.2]
  | .cell _ _ :: _, _ :: _, h => by simp [RV.length h.2]
  | [], _ :: _, h => h.elim
  | .tmp _ :: _, [], h => h.elim
  | .cell _ _ :: _, [], h => h.elim
def resOf (a : Act) : ResultVar → Sem Value
  | .tmp t => pure (a.tmps.getD t undef)
  | .cell q t => do loadVar t (← asAddr (a.tmps.getD q undef))
theorem results_eq (fn : Func) (a : Act) : results fn a.tmps = (do
    let vs ← fn.results.mapM (resOf a)
    pure (if h : vs.size = 1 then vs[0] else .tuple vs)) := by
  unfold results
  congr 1
theorem mapM_RV {a : Act} {w : World} (ha : FrOk n E a) (hw : St w0 w H) : ∀ {rs : List ResultVar} {vs : List Value}, RV P w0 E H rs vs →
    (rs.mapM (resOf a)).run P w = .ok vs w
  | [], [], _ => by simp
  | .tmp t :: rs, v :: vs, h => by
    have e : a.tmps[t]? = some v := ha.known t v h.1
    have ih := mapM_RV ha hw h.2
    simp only [List.mapM_cons, Sem.run_bind, resOf, Sem.run_pure, Result.andThen_ok, ih]
    simp [e]
  | .cell t ty :: rs, v :: vs, h => by
    obtain ⟨p, hp, hl⟩ := h.1
    have e : a.tmps[t]? = some (.pointer (some p)) := ha.known t _ hp
    have ih := mapM_RV ha hw h.2
    have e' : a.tmps.getD t undef = .pointer (some p) := by simp [e]
    have e2 : (resOf a (.cell t ty)).run P w = .ok v w := by
      show (asAddr (a.tmps.getD t undef) >>= fun p => loadVar ty p).run P w = _
      rw [e', Sem.run_bind]
      show ((Sem.run P (pure p) w).andThen fun p w' => (loadVar ty p).run P w') = _
      rw [Sem.run_pure, Result.andThen_ok]
      exact hl w hw
    simp only [List.mapM_cons, Sem.run_bind, e2, Result.andThen_ok, ih, Sem.run_pure]
  | [], _ :: _, h => h.elim
  | .tmp _ :: _, [], h => h.elim
  | .cell _ _ :: _, [], h => h.elim
theorem run_results {fn : Func} {a : Act} {w : World} {vs : List Value} (ha : FrOk n E a) (hw : St w0 w H) (h : RV P w0 E H fn.results.toList vs) :
    (results fn a.tmps).run P w = .ok (pack vs) w := by
  have hm := mapM_RV ha hw h
  have hm' : (fn.results.mapM (resOf a)).run P w = .ok vs.toArray w := by
    rw [Array.mapM_eq_mapM_toList, Sem.run_map, hm]; rfl
  rw [results_eq, Sem.run_bind, hm']
  simp only [Result.andThen_ok, Sem.run_pure]
  congr 1
  match vs with
  | [] => simp [pack]
  | [v] => simp [pack]
  | _ :: _ :: _ => simp [pack]
theorem args_ok {n : Nat} {fn : Func} {vs : List Value} (hn : fn.ntmps = n) (hle : vs.length ≤ n) : FrOk ⟨n, []⟩ (args0 vs 0) { tmps := vs.toArray ++ Array.replicate (fn.ntmps - vs.toArray.size) undef, defers := [] } := by
  refine ⟨rfl, by simp [hn]; omega, fun t v ht => ?_⟩
  have ⟨_, h2⟩ := look_args0 vs 0 t v ht
  have hlt : t < vs.length := by
    rcases Nat.lt_or_ge t vs.length with h | h
    · exact h
    · simp [List.getElem?_eq_none h] at h2
  simp only [Nat.sub_zero] at h2
  rw [Array.getElem?_append_left (by simpa using hlt)]
  simpa using h2
theorem FnS_intro {n : Nat} {f : Nat} {fn : Func} {c : Code} {vs : List Value} {rs : List ResultVar} {R : Ending → Hp → Prop} (hf : P.funcs[f]? = some fn) (hb : fn.body = some c) (hn : fn.ntmps = n) (hr : fn.results.toList = rs)
    (hlen : Nat.ble vs.length n = true) (h : WpC P ⟨n, []⟩ w0 c (BodyQ P w0 rs R) (args0 vs 0) H) : FnS P w0 f vs.toArray H R := by
  intro w hw
  refine calls_of_wp hf hb ?_
  have hle : vs.length ≤ n := Nat.le_of_ble_eq_true hlen
  have ha := args_ok hn hle
  refine wp_mono (h _ w ha hw) ?_
  rintro e a' w' ⟨E', H', x, s, q⟩
  cases e with
  | normal =>
    obtain ⟨vs', H2, hrv, hs, hR⟩ := q
    exact ⟨x.1, _, run_results (x.2 rfl) s (hr ▸ hrv), H2, hs w0 w' s, hR⟩
  | ret =>
    obtain ⟨vs', H2, hrv, hs, hR⟩ := q
    exact ⟨x.1, _, run_results (x.2 rfl) s (hr ▸ hrv), H2, hs w0 w' s, hR⟩
  | panic ch => exact ⟨x.1, H', s, q⟩
  | exit id => exact q.elim
  | goto l => exact q.elim
  | outgrown => exact q.elim
end Go.Sl

/- The calculus, third part (own work): the operations that only yield a value. -/
set_option linter.unusedVariables false
set_option linter.unusedSimpArgs false
namespace Go.Sl
open Go.RowKit (Below)
variable {P : Program} {n : FN} {w0 : World} {Q : Post} {E E' : Env} {H H' HS : Hp} {W : World → Prop}

/-! ### Facts of types, for the kernel -/
def szT (P : Program) (t : TypeId) : Option Nat := (P.info? t).map (·.size)
def byT (P : Program) (t : TypeId) : Option Nat := (P.info? t).map (·.bytes)
def zeroL (P : Program) (t : TypeId) : Option (List Value) := ((P.info? t).bind (·.zero)).map fun v => v.cells.toList
def zeroT (P : Program) (t : TypeId) : Option Value := (P.info? t).bind (·.zero)
def isAggT (P : Program) (t : TypeId) : Option Bool := (P.underlying t).map fun d => match d with | .struct _ | .array _ _ => true | _ => false
def fldT (P : Program) (s : TypeId) (f : Nat) : Option Nat :=
  match P.underlying s with
  | some (.struct fs) => match fs[f]? with
    | some fd => match szT P fd.type with
      | some (_ + 1) => some fd.offset
      | _ => none
    | none => none
  | _ => none
theorem run_sizeOf {t m : Nat} (h : szT P t = some m) (w : World) : (sizeOf t).run P w = .ok m w := by
  unfold szT at h
  cases hi : P.info? t with
  | none => simp [hi] at h
  | some i => simp [hi] at h; simp [sizeOf, typeInfo, hi, h]
theorem run_isAgg {t : Nat} {b : Bool} (h : isAggT P t = some b) (w : World) : (isAgg t).run P w = .ok b w := by
  unfold isAggT at h
  cases hu : P.underlying t with
  | none => simp [hu] at h
  | some d =>
    simp only [hu, Option.map_some, Option.some.injEq] at h
    unfold isAgg
    rw [Sem.run_bind, run_underlying hu w]
    simp only [Result.andThen_ok]
    cases d <;> simp_all
theorem run_zeroValue {t : Nat} {v : Value} (h : zeroT P t = some v) (w : World) : (zeroValue t).run P w = .ok v w := by
  unfold zeroT at h
  cases hi : P.info? t with
  | none => simp [hi] at h
  | some i => simp [hi] at h; simp [zeroValue, typeInfo, hi, h]
theorem zeroT_of_L {t : Nat} {l : List Value} (h : zeroL P t = some l) : ∃ v, zeroT P t = some v ∧ v.cells.toList = l := by
  unfold zeroL at h
  unfold zeroT
  cases hz : (P.info? t).bind (·.zero) with
  | none => simp [hz] at h
  | some v => simp [hz] at h; exact ⟨v, rfl, h⟩
theorem run_bytes {t m : Nat} (h : byT P t = some m) (w : World) : ∃ i, (typeInfo t).run P w = .ok i w ∧ i.bytes = m := by
  unfold byT at h
  cases hi : P.info? t with
  | none => simp [hi] at h
  | some i => simp [hi] at h; exact ⟨i, by simp [typeInfo, hi], h⟩

/-! ### Reading memory -/
theorem cell_of_block {w : World} {b i : Nat} {l : List Value} {T : TypeId} {fr : Nat × Nat} (h : w.heap[b]? = some (.cells l.toArray T fr)) : w.cell? ⟨b, i, none⟩ = l[i]? := by
  simp [World.cell?, h]
theorem addr_add (b off j : Nat) : (⟨b, off, none⟩ : Addr).add j = ⟨b, off + j, none⟩ := by
  unfold Addr.add; split <;> simp_all
theorem run_loadCells_at {w : World} {b off m : Nat} {l : List Value} {T : TypeId} {fr : Nat × Nat} (h : w.heap[b]? = some (.cells l.toArray T fr)) (hm : off + m ≤ l.length) :
    (loadCells ⟨b, off, none⟩ m).run P w = .ok ((l.drop off).take m).toArray w := by
  have hlen : ((l.drop off).take m).length = m := by simp; omega
  have := run_loadCells_list (P := P) w ⟨b, off, none⟩ ((l.drop off).take m) (fun j v hv => by
    rw [addr_add, cell_of_block h]
    have hj : j < m := by
      rcases Nat.lt_or_ge j m with h | h
      · exact h
      · rw [List.getElem?_eq_none (by omega)] at hv; cases hv
    rw [List.getElem?_take_of_lt hj, List.getElem?_drop] at hv
    exact hv)
  rwa [hlen] at this
theorem run_loadVar1 {t : Nat} (ht : isAggT P t = some false) {w : World} {b i : Nat} {l : List Value} {T : TypeId} {fr : Nat × Nat} {v : Value}
    (h : w.heap[b]? = some (.cells l.toArray T fr)) (hv : l[i]? = some v) : (loadVar t ⟨b, i, none⟩).run P w = .ok v w := by
  have hc := (cell_of_block (i := i) h).trans hv
  simp [loadVar, run_isAgg ht, hc]
theorem run_loadVarA {t m : Nat} (ht : isAggT P t = some true) (hs : szT P t = some m) {w : World} {b i : Nat} {l : List Value} {T : TypeId} {fr : Nat × Nat}
    (h : w.heap[b]? = some (.cells l.toArray T fr)) (hm : i + m ≤ l.length) : (loadVar t ⟨b, i, none⟩).run P w = .ok (.agg ((l.drop i).take m).toArray) w := by
  simp only [loadVar, Sem.run_bind, run_isAgg ht, Result.andThen_ok, run_sizeOf hs, run_loadCells_at h hm, if_true, Sem.run_pure]

/-! ### Values -/
section
variable {x y c : Operand} {ty t t2 : Nat}
theorem y_move {v : Value} (hx : ev E x = some v) : YV P n E W (.move x) ty v := fun a w ha _ d ps af g => by
  simp [execOp, ha.eval hx]
theorem y_assign {v : Value} (hx : ev E x = some v) : YV P n E W (.assign x) ty v := fun a w ha _ d ps af g => by
  simp [execOp, ha.eval hx]
theorem y_pick_t {v : Value} (hc : ev E c = some (.bool true)) (hx : ev E x = some v) : YV P n E W (.pick c x y) ty v := fun a w ha _ d ps af g => by
  simp [execOp, ha.eval hx, ha.eval hc, asBool]
theorem y_pick_f {v : Value} (hc : ev E c = some (.bool false)) (hy : ev E y = some v) : YV P n E W (.pick c x y) ty v := fun a w ha _ d ps af g => by
  simp [execOp, ha.eval hy, ha.eval hc, asBool]
theorem y_not {b : Bool} (hx : ev E x = some (.bool b)) : YV P n E W (.unOp .not t x) ty (.bool !b) := fun a w ha _ d ps af g => by
  simp [execOp, ha.eval hx, Op.unary]
theorem y_bin {op : BinOp} {k : IntKind} {m m' : Int} {v : Value} (hx : ev E x = some (.int k m)) (hy : ev E y = some (.int k m'))
    (h : binOp op t (.int k m) (.int k m') = pure v) : YV P n E W (.binOp op t x y t2) ty v := fun a w ha _ d ps af g => by
  simp only [execOp, ha.eval hx, ha.eval hy, eqGuard_at_int, h]
  simp
theorem y_lss {k : IntKind} {m m' : Int} (hx : ev E x = some (.int k m)) (hy : ev E y = some (.int k m')) : YV P n E W (.binOp .lss t x y t2) ty (.bool (decide (m < m'))) := y_bin hx hy (binOp_lss t k m m')
theorem y_leq {k : IntKind} {m m' : Int} (hx : ev E x = some (.int k m)) (hy : ev E y = some (.int k m')) : YV P n E W (.binOp .leq t x y t2) ty (.bool (decide (m ≤ m'))) := y_bin hx hy (binOp_leq t k m m')
theorem y_gtr {k : IntKind} {m m' : Int} (hx : ev E x = some (.int k m)) (hy : ev E y = some (.int k m')) : YV P n E W (.binOp .gtr t x y t2) ty (.bool (decide (m' < m))) := y_bin hx hy (binOp_gtr t k m m')
theorem y_geq {k : IntKind} {m m' : Int} (hx : ev E x = some (.int k m)) (hy : ev E y = some (.int k m')) : YV P n E W (.binOp .geq t x y t2) ty (.bool (decide (m' ≤ m))) := y_bin hx hy (binOp_geq t k m m')
theorem y_eqi {k : IntKind} {m m' : Int} (hx : ev E x = some (.int k m)) (hy : ev E y = some (.int k m')) : YV P n E W (.binOp .eql t x y t2) ty (.bool (decide (m = m'))) := y_bin hx hy (binOp_eql t k m m')
theorem y_nei {k : IntKind} {m m' : Int} (hx : ev E x = some (.int k m)) (hy : ev E y = some (.int k m')) : YV P n E W (.binOp .neq t x y t2) ty (.bool (!decide (m = m'))) := y_bin hx hy (binOp_neq t k m m')
theorem y_add {k : IntKind} {m m' r : Int} (hx : ev E x = some (.int k m)) (hy : ev E y = some (.int k m')) (hr : k.wrap (m + m') = r) : YV P n E W (.binOp .add t x y t2) ty (.int k r) :=
  y_bin hx hy (by rw [binOp_add]; simp [Op.intArith, hr])
theorem y_sub {k : IntKind} {m m' r : Int} (hx : ev E x = some (.int k m)) (hy : ev E y = some (.int k m')) (hr : k.wrap (m - m') = r) : YV P n E W (.binOp .sub t x y t2) ty (.int k r) :=
  y_bin hx hy (by rw [binOp_sub]; simp [Op.intArith, hr])
theorem y_mul {k : IntKind} {m m' r : Int} (hx : ev E x = some (.int k m)) (hy : ev E y = some (.int k m')) (hr : k.wrap (m * m') = r) : YV P n E W (.binOp .mul t x y t2) ty (.int k r) :=
  y_bin hx hy (by rw [binOp_mul]; simp [Op.intArith, hr])
theorem y_rem {k : IntKind} {m m' r : Int} (hx : ev E x = some (.int k m)) (hy : ev E y = some (.int k m')) (h0 : m' ≠ 0) (hr : m.tmod m' = r) : YV P n E W (.binOp .rem t x y t2) ty (.int k r) :=
  y_bin hx hy (by rw [binOp_rem]; simp [Op.intDiv, h0, hr])
theorem y_quo {k : IntKind} {m m' r : Int} (hx : ev E x = some (.int k m)) (hy : ev E y = some (.int k m')) (h0 : m' ≠ 0) (hr : k.wrap (m.tdiv m') = r) : YV P n E W (.binOp .quo t x y t2) ty (.int k r) :=
  y_bin hx hy (by rw [binOp_quo]; simp [Op.intDiv, h0, hr])
theorem y_xor {k : IntKind} {m m' r : Int} (hx : ev E x = some (.int k m)) (hy : ev E y = some (.int k m')) (hr : bits .xor k m m' = r) : YV P n E W (.binOp .xor t x y t2) ty (.int k r) :=
  y_bin hx hy (by rw [binOp_xor, intBits_xor, hr])
theorem y_and {k : IntKind} {m m' r : Int} (hx : ev E x = some (.int k m)) (hy : ev E y = some (.int k m')) (hr : bits .and k m m' = r) : YV P n E W (.binOp .and t x y t2) ty (.int k r) :=
  y_bin hx hy (by rw [binOp_and, intBits_and, hr])
theorem y_shl {k k' : IntKind} {m m' r : Int} (hx : ev E x = some (.int k m)) (hy : ev E y = some (.int k' m')) (h0 : 0 ≤ m') (hr : k.wrap (m * 2 ^ (min m'.toNat k.bits)) = r) : YV P n E W (.binOp .shl t x y t2) ty (.int k r) :=
  fun a w ha _ d ps af g => by
    have h : ¬ m' < 0 := by omega
    simp only [execOp, ha.eval hx, ha.eval hy, eqGuard_at_int, binOp_shl]
    simp [Op.shift, h, hr]
theorem y_shr {k k' : IntKind} {m m' r : Int} (hx : ev E x = some (.int k m)) (hy : ev E y = some (.int k' m')) (h0 : 0 ≤ m') (hr : m.fdiv (2 ^ (min m'.toNat k.bits)) = r) : YV P n E W (.binOp .shr t x y t2) ty (.int k r) :=
  fun a w ha _ d ps af g => by
    have h : ¬ m' < 0 := by omega
    simp only [execOp, ha.eval hx, ha.eval hy, eqGuard_at_int, binOp_shr]
    simp [Op.shift, h, hr]
theorem run_equal_nilp {e : Nat} (hu : P.underlying t = some (.pointer e)) (p : Option Addr) (w : World) : (Op.equal t (.pointer p) (.pointer none)).run P w = .ok p.isNone w := by
  have key : ∀ d, (Op.equalIn (d + 1) t (.pointer p) (.pointer none)).run P w = .ok p.isNone w := fun d => by
    cases p <;> simp [Op.equalIn, run_underlying hu]
  exact key 9999
theorem y_eqp {p : Option Addr} {e : Nat} (hx : ev E x = some (.pointer p)) (hy : ev E y = some (.pointer none)) (hu : P.underlying t = some (.pointer e)) : YV P n E W (.binOp .eql t x y t2) ty (.bool p.isNone) := fun a w ha _ d ps af g => by
  have h := run_equal_nilp hu p w
  simp only [execOp, ha.eval hx, ha.eval hy, eqGuard_at_pointer, binOp]
  simp [h]
theorem y_nilCheck {p : Addr} (hx : ev E x = some (.pointer (some p))) : YV P n E W (.nilCheck x) ty (.pointer (some p)) := fun a w ha _ d ps af g => by
  simp [execOp, ha.eval hx]
theorem y_conv {src dst : Nat} {k k' : IntKind} {m r : Int} (hx : ev E x = some (.int k' m)) (hs : (P.underlying src).isSome = true) (hd : P.underlying dst = some (.int k)) (hr : k.wrap m = r) :
    YV P n E W (.convert src dst x) ty (.int k r) := fun a w ha _ d ps af g => by
  obtain ⟨d', hd'⟩ := Option.isSome_iff_exists.mp hs
  simp [execOp, ha.eval hx, convert, run_underlying hd', run_underlying hd, Conv.intToInt, hr]
theorem y_extract {vs : List Value} {i : Nat} {v : Value} (hx : ev E x = some (.tuple vs.toArray)) (hv : vs[i]? = some v) : YV P n E W (.extract x i) ty v := fun a w ha _ d ps af g => by
  simp [execOp, ha.eval hx, Instr.extract, hv]
theorem y_makeFunc {fn : Fn} {first captured : List Operand} {vs us : List Value} (h1 : first.mapM (ev E) = some vs) (h2 : captured.mapM (ev E) = some us) :
    YV P n E W (.makeFunc fn first.toArray captured.toArray) ty (.func fn vs.toArray us.toArray) := fun a w ha _ d ps af g => by
  have key : ∀ (l : List Operand) (vs : List Value), l.mapM (ev E) = some vs → l.map a.eval = vs := by
    intro l
    induction l with
    | nil => intro vs h; simp at h; simp [h]
    | cons x l ih =>
      intro vs h
      simp only [List.mapM_cons, Option.bind_eq_bind, Option.bind_eq_some_iff, Option.pure_def, Option.some.injEq] at h
      obtain ⟨v, hv, us, hus, rfl⟩ := h
      simp [ha.eval hv, ih us hus]
  simp [execOp, Instr.makeFunc, key _ _ h1, key _ _ h2]
theorem evals {a : Act} (ha : FrOk n E a) : ∀ {l : List Operand} {vs : List Value}, l.mapM (ev E) = some vs → l.map a.eval = vs := by
  intro l
  induction l with
  | nil => intro vs h; simp at h; simp [h]
  | cons x l ih =>
    intro vs h
    simp only [List.mapM_cons, Option.bind_eq_bind, Option.bind_eq_some_iff, Option.pure_def, Option.some.injEq] at h
    obtain ⟨v, hv, us, hus, rfl⟩ := h
    simp [ha.eval hv, ih hus]
theorem y_fieldAddr {s f b i off : Nat} (hx : ev E x = some (.pointer (some ⟨b, i, none⟩))) (hf : fldT P s f = some off) : YV P n E W (.fieldAddr s x f) ty (.pointer (some ⟨b, i + off, none⟩)) := fun a w ha _ d ps af g => by
  unfold fldT at hf
  cases hu : P.underlying s with
  | none => simp [hu] at hf
  | some dd =>
    rw [hu] at hf
    cases dd <;> simp at hf
    rename_i fs
    cases hfs : fs[f]? with
    | none => simp [hfs] at hf
    | some fd =>
      simp only [hfs] at hf
      cases hz : szT P fd.type with
      | none => simp [hz] at hf
      | some m =>
        cases m with
        | zero => simp [hz] at hf
        | succ m =>
          simp [hz] at hf
          simp only [execOp, ha.eval hx, Instr.fieldAt, Sem.run_bind, run_underlying hu, Result.andThen_ok, hfs, Instr.sureAddr, Sem.run_pure, fieldPlace, run_sizeOf hz]
          simp [addr_add, hf]
theorem y_indexS {e m b off len cap : Nat} {k : IntKind} {i : Int} {r : Nat} (hx : ev E x = some (.slice (some ⟨b, off, none⟩) len cap)) (hy : ev E y = some (.int k i)) (hu : P.underlying t = some (.slice e)) (hz : szT P e = some m)
    (h0 : 0 ≤ i) (h1 : i < len) (hr : off + i.toNat * m = r) : YV P n E W (.indexAddr t x y) ty (.pointer (some ⟨b, r, none⟩)) := fun a w ha _ d ps af g => by
  simp only [execOp, ha.eval hx, ha.eval hy, Instr.indexAt, asIntOf, Sem.run_bind, Sem.run_pure, Result.andThen_ok, run_underlying hu]
  rw [if_pos ⟨h0, h1⟩]
  simp only [Sem.run_bind, run_sizeOf hz, Result.andThen_ok, Sem.run_pure, addr_add, hr]
theorem y_indexA {e m b off len : Nat} {k : IntKind} {i : Int} {r : Nat} (hx : ev E x = some (.pointer (some ⟨b, off, none⟩))) (hy : ev E y = some (.int k i)) (hu : P.underlying t = some (.array len e)) (hz : szT P e = some m)
    (h0 : 0 ≤ i) (h1 : i < len) (hr : off + i.toNat * m = r) : YV P n E W (.indexAddr t x y) ty (.pointer (some ⟨b, r, none⟩)) := fun a w ha _ d ps af g => by
  simp only [execOp, ha.eval hx, ha.eval hy, Instr.indexAt, asIntOf, Sem.run_bind, Sem.run_pure, Result.andThen_ok, run_underlying hu, Instr.sureAddr]
  rw [if_pos ⟨h0, h1⟩]
  simp only [Sem.run_bind, run_sizeOf hz, Result.andThen_ok, Sem.run_pure, addr_add, hr]
theorem y_load {b i : Nat} {l : List Value} {T : TypeId} {fr : Nat × Nat} {v : Value} (hx : ev E x = some (.pointer (some ⟨b, i, none⟩))) (ht : isAggT P t = some false)
    (hs : Sees W b (.cells l.toArray T fr)) (hv : l[i]? = some v) : YV P n E W (.load t x) ty v := fun a w ha hw d ps af g => by
  simp only [execOp, ha.eval hx, Instr.loadAt, Instr.sureAddr, Sem.run_bind, Sem.run_pure, Result.andThen_ok, run_loadVar1 ht (hs w hw) hv]
theorem y_loadA {b i m : Nat} {l vs : List Value} {T : TypeId} {fr : Nat × Nat} (hx : ev E x = some (.pointer (some ⟨b, i, none⟩))) (ht : isAggT P t = some true) (hz : szT P t = some m)
    (hs : Sees W b (.cells l.toArray T fr)) (hm : i + m ≤ l.length) (hv : (l.drop i).take m = vs) : YV P n E W (.load t x) ty (.agg vs.toArray) := fun a w ha hw d ps af g => by
  simp only [execOp, ha.eval hx, Instr.loadAt, Instr.sureAddr, Sem.run_bind, Sem.run_pure, Result.andThen_ok, run_loadVarA ht hz (hs w hw) hm, hv]
end

/-! ### Builtins that only yield -/
section
variable {x y c : Operand} {ty t t2 : Nat}
def callB (b : Builtin) (args : List Operand) (tys : Array TypeId) : Op := .call { callee := .builtin b, args := args.toArray, argTypes := tys }
theorem y_builtin {b : Builtin} {args : List Operand} {tys : Array TypeId} {vs : List Value} {v : Value} (hargs : args.mapM (ev E) = some vs)
    (h : ∀ w, W w → ∀ cs, (builtin b tys ty cs vs.toArray).run P w = .ok (.value v) w) : YV P n E W (.call { callee := .builtin b, args := args.toArray, argTypes := tys }) ty v := fun a w ha hw d ps af g => by
  have e := evals ha hargs
  simp only [execOp, resolve, Sem.run_bind, Sem.run_pure, Result.andThen_ok, invoke, List.map_toArray, e]
  exact h w hw _
theorem y_lenS {p : Option Addr} {l c e : Nat} {tys : Array TypeId} (hx : ev E x = some (.slice p l c)) (h0 : tys[0]? = some t) (hu : P.underlying t = some (.slice e)) :
    YV P n E W (.call { callee := .builtin .len, args := [x].toArray, argTypes := tys }) ty (.int .i64 l) := y_builtin (vs := [.slice p l c]) (by simp [hx]) fun w hw cs => by
  simp only [builtin, Sem.run_bind, Builtin.len_, h0, List.getElem?_toArray, List.getElem?_cons_zero, run_underlying hu, Result.andThen_ok, Sem.run_pure, goInt]
theorem y_lenM {r : Nat} {kt et : Nat} {es : Array MapEntry} {ck : Nat} {tys : Array TypeId} (hx : ev E x = some (.map (some r))) (h0 : tys[0]? = some t) (hu : P.underlying t = some (.map kt et)) (hs : Sees W r (.map es ck)) :
    YV P n E W (.call { callee := .builtin .len, args := [x].toArray, argTypes := tys }) ty (.int .i64 es.size) := y_builtin (vs := [.map (some r)]) (by simp [hx]) fun w hw cs => by
  have := hs w hw
  simp only [builtin, Sem.run_bind, Builtin.len_, h0, List.getElem?_toArray, List.getElem?_cons_zero, run_underlying hu, Result.andThen_ok, Sem.run_pure, goInt, getObj, Sem.run, this]
theorem y_max {k : IntKind} {m m' : Int} {tys : Array TypeId} (hx : ev E x = some (.int k m)) (hy : ev E y = some (.int k m')) :
    YV P n E W (.call { callee := .builtin .max, args := [x, y].toArray, argTypes := tys }) ty (.int k (max m m')) := y_builtin (vs := [.int k m, .int k m']) (by simp [hx, hy]) fun w hw cs => by
  simp only [builtin, Sem.run_bind, Builtin.max_, Builtin.max2, List.foldlM_cons, List.foldlM_nil, Result.andThen_ok, Sem.run_pure]
  congr 3
  rw [Int.max_def]
  split <;> split <;> omega
end
end Go.Sl

/- The calculus, fourth part (own work): the operations that make or write memory, and calls. -/
set_option linter.unusedVariables false
set_option linter.unusedSimpArgs false
namespace Go.Sl
open Go.RowKit (Below)
variable {P : Program} {n : FN} {w0 : World} {Q : Post} {E E' : Env} {H H' HS : Hp} {W : World → Prop} {K : Env → Hp → Prop}
variable {d : Option Nat} {ty t : Nat} {ps : String} {af : Array Edge} {g : Option (Nat × Bool)} {x y : Operand}

theorem op_run {o : Oper} (hd : dok o.dst n = true) (h : ∀ a w, FrOk n E a → St w0 w H → ∃ v w' H', (execOp a.eval o).run P w = .ok (.value v) w' ∧ St w0 w' H' ∧ K (put E o.dst v) H') :
    OpW P n w0 Q o E H K := fun a w ha hw next hn => by
  obtain ⟨v, w', H', hr, s, k⟩ := h a w ha hw
  unfold Oper.wp
  rw [hr]
  exact hn _ _ _ _ (ha.put hd v) s k
theorem op_runs {o : Oper} (hd : dok o.dst n = true) (h : ∀ a w, FrOk n E a → St w0 w H → ∃ w' H', (execOp a.eval o).run P w = .ok .skip w' ∧ St w0 w' H' ∧ K (put E o.dst undef) H') :
    OpW P n w0 Q o E H K := fun a w ha hw next hn => by
  obtain ⟨w', H', hr, s, k⟩ := h a w ha hw
  unfold Oper.wp
  rw [hr]
  exact hn _ _ _ _ (ha.put hd undef) s k
theorem op_y {o : Oper} {v : Value} (hy : YV P n E (fun w => St w0 w H) o.op o.type v) (hd : dok o.dst n = true) (k : K (put E o.dst v) H) : OpW P n w0 Q o E H K :=
  op_run hd fun a w ha hw => ⟨v, w, H, hy a w ha hw o.dst o.pos o.after o.guard, hw, k⟩

/-! ### New blocks -/
theorem op_alloc {zl : List Value} (hz : zeroL P t = some zl) (hd : dok d n = true) (k : ∀ b, K (put E d (.pointer (some ⟨b, 0, none⟩))) ([(b, .cells zl.toArray t)] :: H)) :
    OpW P n w0 Q ⟨d, .alloc t, ty, ps, af, g⟩ E H K := op_run hd fun a w ha hw => by
  obtain ⟨v, hv, hl⟩ := zeroT_of_L hz
  refine ⟨.pointer (some ⟨w.heap.size, 0, none⟩), w.alloc (.cells zl.toArray t), _, ?_, hw.alloc _, k _⟩
  have hc : v.cells = zl.toArray := by rw [← hl]
  simp only [execOp, Instr.alloc, Sem.run_bind, run_zeroValue hv, Result.andThen_ok, newVar, newRow, run_newObj, Sem.run_pure, hc]
  rfl
theorem op_box {v : Value} {l : List Value} (hx : ev E x = some v) (hc : v.cells = l.toArray) (hd : dok d n = true) (k : ∀ b, K (put E d (.pointer (some ⟨b, 0, none⟩))) ([(b, .cells l.toArray t)] :: H)) :
    OpW P n w0 Q ⟨d, .box t x, ty, ps, af, g⟩ E H K := op_run hd fun a w ha hw => by
  refine ⟨.pointer (some ⟨w.heap.size, 0, none⟩), w.alloc (.cells l.toArray t), _, ?_, hw.alloc _, k _⟩
  simp only [execOp, ha.eval hx, Instr.box, Sem.run_bind, Result.andThen_ok, newVar, newRow, run_newObj, Sem.run_pure, hc]
  rfl

/-! ### Stores -/
def one (v : Value) : Bool := v.oneCell'
def spl : List Value → Nat → List Value → List Value
  | l, _, [] => l
  | l, i, v :: vs => spl (l.set i v) (i + 1) vs
theorem spl_eq : ∀ (vs l : List Value) (i : Nat), i + vs.length ≤ l.length → spl l i vs = l.take i ++ vs ++ l.drop (i + vs.length)
  | [], l, i, h => by simp [spl]
  | v :: vs, l, i, h => by
    simp only [List.length_cons] at h
    have ih := spl_eq vs (l.set i v) (i + 1) (by simp; omega)
    simp only [spl, ih]
    have h1 : (l.set i v).take (i + 1) = l.take i ++ [v] := by
      apply List.ext_getElem?
      intro j
      by_cases hj : j < i
      · rw [List.getElem?_take_of_lt (by omega), List.getElem?_set_ne (by omega), List.getElem?_append_left (by simp; omega), List.getElem?_take_of_lt hj]
      · by_cases hj2 : j = i
        · subst hj2; rw [List.getElem?_take_of_lt (by omega), List.getElem?_set_self (by omega), List.getElem?_append_right (by simp; omega), show j - (l.take j).length = 0 by simp; omega]; rfl
        · rw [List.getElem?_eq_none (by simp; omega), List.getElem?_eq_none (by simp; omega)]
    have h2 : (l.set i v).drop (i + 1 + vs.length) = l.drop (i + (vs.length + 1)) := by
      apply List.ext_getElem?
      intro j
      simp only [List.getElem?_drop]
      rw [List.getElem?_set_ne (by omega)]
      congr 1
      omega
    rw [h1, h2]
    simp
theorem setCell_putB {w : World} {b i : Nat} {l : List Value} {T : TypeId} (h : w.heap[b]? = some (.cells l.toArray T (0, 0))) (v : Value) :
    w.setCell ⟨b, i, none⟩ v = putB w b (.cells (l.set i v).toArray T (0, 0)) := by
  unfold World.setCell putB
  congr 1
  apply Array.ext_getElem?
  intro j
  rw [Array.getElem?_modify, Array.getElem?_setIfInBounds]
  obtain ⟨hlt, h'⟩ := Array.getElem?_eq_some_iff.1 h
  by_cases e : b = j
  · subst e; simp [hlt, h']
  · simp [e]
theorem putB_putB (w : World) (b : Nat) (o o' : Obj) : putB (putB w b o) b o' = putB w b o' := by
  unfold putB
  simp
theorem frozen_none {w : World} {b i : Nat} {c : Array Value} {T : TypeId} (h : w.heap[b]? = some (.cells c T (0, 0))) : w.frozen? ⟨b, i, none⟩ = false := by
  simp [World.frozen?, h]
theorem run_storeCells : ∀ (vs l : List Value) (w : World) (b i off : Nat) (T : TypeId), w.heap[b]? = some (.cells l.toArray T (0, 0)) → (∀ v ∈ vs, one v = true) → off + i + vs.length ≤ l.length →
    ∃ w', (storeCells ⟨b, off, none⟩ vs i).run P w = .ok () w' ∧ ((vs = [] ∧ w' = w) ∨ w' = putB w b (.cells (spl l (off + i) vs).toArray T (0, 0)))
  | [], l, w, b, i, off, T, h, _, _ => ⟨w, rfl, .inl ⟨rfl, rfl⟩⟩
  | v :: vs, l, w, b, i, off, T, h, ho, hlen => by
    simp only [List.length_cons] at hlen
    have hc : w.cell? ⟨b, off + i, none⟩ = some (l[off + i]'(by omega)) := by rw [cell_of_block h]; exact List.getElem?_eq_getElem _
    have hs : (store ((⟨b, off, none⟩ : Addr).add i) v).run P w = .ok () (putB w b (.cells (l.set (off + i) v).toArray T (0, 0))) := by
      rw [addr_add, run_store P w _ v _ (ho v (by simp)), hc]
      simp only [frozen_none h, Bool.false_eq_true, if_false]
      rw [setCell_putB h]
    obtain ⟨w', hw', hr⟩ := run_storeCells vs (l.set (off + i) v) (putB w b (.cells (l.set (off + i) v).toArray T (0, 0))) b (i + 1) off T (putB_same h) (fun u hu => ho u (by simp [hu])) (by simp; omega)
    refine ⟨w', ?_, .inr ?_⟩
    · unfold storeCells
      rw [Sem.run_bind, hs]
      exact hw'
    · rcases hr with ⟨e, rfl⟩ | rfl
      · subst e; rfl
      · rw [putB_putB]; simp only [spl]; rw [show off + (i + 1) = off + i + 1 by omega]
theorem putB_self {w : World} {b : Nat} {o : Obj} (h : w.heap[b]? = some o) : putB w b o = w := by
  unfold putB
  have : w.heap.setIfInBounds b o = w.heap := by
    apply Array.ext_getElem?
    intro j
    rw [Array.getElem?_setIfInBounds]
    have hlt : b < w.heap.size := (Array.getElem?_eq_some_iff.1 h).1
    by_cases e : b = j
    · subst e; simp [hlt, ← h]
    · simp [e]
  rw [this]
theorem run_storeCells' {vs l : List Value} {w : World} {b off : Nat} {T : TypeId} (h : w.heap[b]? = some (.cells l.toArray T (0, 0))) (ho : ∀ v ∈ vs, one v = true) (hlen : off + vs.length ≤ l.length) :
    (storeCells ⟨b, off, none⟩ vs).run P w = .ok () (putB w b (.cells (spl l off vs).toArray T (0, 0))) := by
  obtain ⟨w', h1, h2⟩ := run_storeCells (P := P) vs l w b 0 off T h ho (by omega)
  rw [h1]
  rcases h2 with ⟨e, rfl⟩ | rfl
  · subst e; rw [show spl l off [] = l from rfl, putB_self h]
  · simp
theorem run_storeVar {w : World} {b i m : Nat} {v : Value} {vs l : List Value} {T : TypeId} (hv : v.cells = vs.toArray) (hz : szT P t = some m) (hm : vs.length = m)
    (h : w.heap[b]? = some (.cells l.toArray T (0, 0))) (ho : ∀ v ∈ vs, one v = true) (hlen : i + m ≤ l.length) :
    (storeVar t ⟨b, i, none⟩ v).run P w = .ok () (putB w b (.cells (spl l i vs).toArray T (0, 0))) := by
  have hne : ¬ (v.cells.size ≠ m) := by simp [hv, hm]
  simp only [storeVar, Sem.run_bind, run_sizeOf hz, Result.andThen_ok]
  simp only [hne, if_false, Sem.run_bind, Sem.run_pure, Result.andThen_ok, hv]
  rw [if_neg (by simpa using hm)]
  refine run_storeCells' h ho ?_
  omega
theorem op_store {b i m : Nat} {v : Value} {vs l : List Value} {T : TypeId} (s j : Nat) (hx : ev E x = some (.pointer (some ⟨b, i, none⟩))) (hy : ev E y = some v) (hv : v.cells = vs.toArray) (hz : szT P t = some m) (hm : vs.length = m)
    (hH : getH H s j = some (b, .cells l.toArray T)) (ho : ∀ v ∈ vs, one v = true) (hlen : i + m ≤ l.length) (k : K E (setH H s j (.cells (spl l i vs).toArray T))) :
    OpW P n w0 Q ⟨none, .store t x y, ty, ps, af, g⟩ E H K := op_runs rfl fun a w ha hw => by
  have h : w.heap[b]? = some (.cells l.toArray T (0, 0)) := hw.has _ (getH_mem hH)
  refine ⟨_, _, ?_, hw.putB hH _, k⟩
  simp only [execOp, ha.eval hx, ha.eval hy, Instr.storeAt, Instr.sureAddr, Sem.run_bind, Sem.run_pure, Result.andThen_ok, run_storeVar hv hz hm h ho hlen]
/-- One cell. -/
theorem op_store1 {b i : Nat} {v : Value} {l : List Value} {T : TypeId} (s j : Nat) (hx : ev E x = some (.pointer (some ⟨b, i, none⟩))) (hy : ev E y = some v) (hv : one v = true) (hz : szT P t = some 1)
    (hH : getH H s j = some (b, .cells l.toArray T)) (hlen : i < l.length) (k : K E (setH H s j (.cells (l.set i v).toArray T))) :
    OpW P n w0 Q ⟨none, .store t x y, ty, ps, af, g⟩ E H K :=
  op_store (vs := [v]) s j hx hy (by cases v <;> first | rfl | (simp [one, Value.oneCell'] at hv)) hz rfl hH (by simpa using hv) (by omega) k

/-! ### Slices -/
def zcells (zl : List Value) (c : Nat) : List Value := (List.replicate c zl).flatten
theorem zcells_length (zl : List Value) (c : Nat) : (zcells zl c).length = c * zl.length := by simp [zcells]
theorem zcells_get (zl : List Value) : ∀ (c i : Nat), i < c * zl.length → (zcells zl c)[i]? = zl[i % zl.length]?
  | 0, i, h => by omega
  | c + 1, i, h => by
    have e : zcells zl (c + 1) = zl ++ zcells zl c := by simp [zcells, List.replicate_succ]
    rw [e]
    by_cases hi : i < zl.length
    · rw [List.getElem?_append_left hi, Nat.mod_eq_of_lt hi]
    · rw [List.getElem?_append_right (by omega)]
      rw [Nat.add_mul, Nat.one_mul] at h
      rw [zcells_get zl c (i - zl.length) (by omega)]
      congr 1
      exact (Nat.mod_eq_sub_mod (by omega)).symm
theorem rangeCells (zl : List Value) (c : Nat) : ((Array.range (c * zl.length)).map (zl.toArray[· % zl.toArray.size]!)) = (zcells zl c).toArray := by
  apply Array.ext_getElem?
  intro i
  by_cases hi : i < c * zl.length
  · have hpos : 0 < zl.length := by rcases Nat.eq_zero_or_pos zl.length with h | h <;> simp_all
    have hm : i % zl.length < zl.length := Nat.mod_lt _ hpos
    simp [hi, zcells_get zl c i hi, hm]
  · rw [Array.getElem?_eq_none (by simp; omega), Array.getElem?_eq_none (by simp [zcells_length]; omega)]
theorem op_buildSlice {e m len : Nat} {parts : List (Nat × Operand)} {vs : List (Nat × Value)} {zl l : List Value} (hp : parts.map (fun p => (p.1, ev E p.2)) = vs.map fun p => (p.1, some p.2)) (hu : P.underlying t = some (.slice e)) (hz : szT P e = some m)
    (hzl : zeroL P e = some zl) (hl : zl.length = m) (hm : len * m ≤ 16777216) (hf : Instr.fill (fun i => some (i * m, m)) (zcells zl len).toArray vs = some l.toArray) (hd : dok d n = true)
    (k : ∀ b, K (put E d (.slice (some ⟨b, 0, none⟩) len len)) ([(b, .cells l.toArray e)] :: H)) :
    OpW P n w0 Q ⟨d, .buildSlice t len parts.toArray, ty, ps, af, g⟩ E H K := op_run hd fun a w ha hw => by
  obtain ⟨v, hv, hlv⟩ := zeroT_of_L hzl
  refine ⟨.slice (some ⟨w.heap.size, 0, none⟩) len len, w.alloc (.cells l.toArray e), _, ?_, hw.alloc _, k _⟩
  have hparts : (parts.map fun (i, x) => (i, a.eval x)) = vs := by
    clear hf
    induction parts generalizing vs with
    | nil => cases vs with
      | nil => rfl
      | cons _ _ => simp at hp
    | cons p parts ih => cases vs with
      | nil => simp at hp
      | cons q vs =>
        simp only [List.map_cons, List.cons.injEq, Prod.mk.injEq] at hp
        simp only [List.map_cons, List.cons.injEq]
        exact ⟨by rw [ha.eval hp.1.2, hp.1.1], ih hp.2⟩
  have hc : v.cells = zl.toArray := by rw [← hlv]
  have hcells : ((Array.range (len * m)).map (v.cells[· % v.cells.size]!)) = (zcells zl len).toArray := by rw [← hl, hc]; exact rangeCells zl len
  have t1 : ¬ (16777216 < len * m) := by omega
  simp only [execOp, Instr.buildSlice, Sem.run_bind, run_underlying hu, Result.andThen_ok, run_sizeOf hz, List.map_toArray, hparts]
  simp only [show (2 : Nat) ^ 24 = 16777216 from rfl, gt_iff_lt, t1, if_false, Sem.run_pure, Result.andThen_ok, Sem.run_bind]
  by_cases hn : len * m = 0
  · have hz0 : zcells zl len = [] := List.eq_nil_of_length_eq_zero (by rw [zcells_length, hl, hn])
    rw [hz0] at hf
    simp only [hn, if_true, Sem.run_pure, Result.andThen_ok, show Array.range 0 = #[] from rfl, Array.map_empty, hf, newRow, Sem.run_bind, run_newObj]
    rfl
  · simp only [hn, if_false, Sem.run_bind, run_zeroValue hv, Sem.run_pure, Result.andThen_ok, hcells, hf, newRow, run_newObj]
    rfl
theorem fold_set : ∀ (vs cells : List Value) (off k : Nat), (vs.zipIdx k).foldl (fun (cs : Array Value) (p : Value × Nat) => cs.setIfInBounds (off + p.2) p.1) cells.toArray = (spl cells (off + k) vs).toArray
  | [], cells, off, k => rfl
  | v :: vs, cells, off, k => by
    simp only [List.zipIdx_cons, List.foldl_cons, List.setIfInBounds_toArray, spl]
    rw [fold_set vs (cells.set (off + k) v) off (k + 1)]
    rfl
theorem fill_cons {place : Nat → Option (Nat × Nat)} {cells vs : List Value} {i off m : Nat} {v : Value} {rest : List (Nat × Value)} {r : Option (Array Value)} (hp : place i = some (off, m)) (hv : v.cells = vs.toArray) (hm : vs.length = m) (hlen : off + m ≤ cells.length)
    (h : Instr.fill place (spl cells off vs).toArray rest = r) : Instr.fill place cells.toArray ((i, v) :: rest) = r := by
  have h1 : (decide (v.cells.size ≠ m) || decide (off + v.cells.size > cells.toArray.size)) = false := by simp [hv, hm]; omega
  have h2 : v.cells.zipIdx.foldl (fun (cs : Array Value) (p : Value × Nat) => cs.setIfInBounds (off + p.2) p.1) cells.toArray = (spl cells off vs).toArray := by
    rw [hv, ← Array.foldl_toList]
    have := fold_set vs cells off 0
    simpa using this
  simp only [Instr.fill, hp, h1]
  rw [← h, ← h2]
  rfl
theorem fill_one {m : Nat} {v : Value} {l zl : List Value} (hv : v.cells = l.toArray) (hl : l.length = m) (hzl : zl.length = m) : Instr.fill (fun i => some (i * m, m)) (zcells zl 1).toArray [(0, v)] = some l.toArray := by
  have e : zcells zl 1 = zl := by simp [zcells]
  rw [e]
  refine fill_cons (off := 0) (vs := l) (by simp) hv hl (by omega) ?_
  rw [spl_eq l zl 0 (by omega)]
  simp [Instr.fill]
  omega

/-! ### Calls -/
theorem op_call {f : Nat} {ce : Operand} {args : List Operand} {vs first cap : List Value} {tys : Array TypeId} (hf : ev E ce = some (.func (.func f) first.toArray cap.toArray)) (hargs : args.mapM (ev E) = some vs)
    (hc : ∀ args w, (callFunc f args).run P w = .ok (.enter f args) w) (hd : dok d n = true)
    (h : FnS P w0 f (first ++ vs ++ cap).toArray H fun e H' => ∃ v, e = .returned v ∧ K (put E d v) H') :
    OpW P n w0 Q ⟨d, .call { callee := .value ce, args := args.toArray, argTypes := tys }, ty, ps, af, g⟩ E H K := fun a w ha hw next hn => by
  unfold Oper.wp
  have e1 := evals ha hargs
  have e2 := ha.eval hf
  have hr : (execOp a.eval ⟨d, .call { callee := .value ce, args := args.toArray, argTypes := tys }, ty, ps, af, g⟩).run P w = .ok (.enter f (first ++ vs ++ cap).toArray) w := by
    simp only [execOp, resolve, Sem.run_bind, e2, Deferred.ofValue, Sem.run_pure, Result.andThen_ok, invoke, List.map_toArray, e1, hc]
    simp
  rw [hr]
  refine (h w hw).mono ?_
  rintro e w' ⟨H', s, v, rfl, k⟩
  exact hn _ _ _ _ (ha.put hd v) s k
end Go.Sl

/- The calculus, fifth part (own work): slices that grow, copies, slice expressions, built structs, equality of arrays, bytes and texts. -/
set_option linter.unusedVariables false
set_option linter.unusedSimpArgs false
namespace Go.Sl
open Go.RowKit (Below)
variable {P : Program} {n : FN} {w0 : World} {Q : Post} {E E' : Env} {H H' HS : Hp} {W : World → Prop} {K : Env → Hp → Prop}
variable {d : Option Nat} {ty t t2 : Nat} {ps : String} {af : Array Edge} {g : Option (Nat × Bool)} {x y c : Operand}

/-! ### Bytes -/
def u8 (b : UInt8) : Value := .int .u8 b.toNat
def bs (l : List UInt8) : List Value := l.map u8
theorem u8_of_int {m : Int} (h0 : 0 ≤ m) (h1 : m < 256) : Value.int .u8 m = u8 (UInt8.ofNat m.toNat) := by
  simp only [u8, Value.int.injEq, true_and]
  simp
  omega
/-! ### Slice expressions -/
/-! ### Built structs and arrays -/
def placesT (P : Program) (t : TypeId) : Option (List (Nat × Nat)) :=
  match P.underlying t with
  | some (.struct fs) => fs.toList.mapM fun f => (szT P f.type).map fun m => (f.offset, m)
  | _ => none
theorem run_places {w : World} : ∀ {fs : List Field} {pl : List (Nat × Nat)}, fs.mapM (fun f => (szT P f.type).map fun m => (f.offset, m)) = some pl →
    (fs.mapM (m := Sem) fun f => do pure (f.offset, ← sizeOf f.type)).run P w = .ok pl w
  | [], pl, h => by simp at h; subst h; simp
  | f :: fs, pl, h => by
    simp only [List.mapM_cons, Option.bind_eq_bind, Option.bind_eq_some_iff, Option.map_eq_some_iff, Option.pure_def, Option.some.injEq] at h
    obtain ⟨p, ⟨m, hm, rfl⟩, ql, hq, rfl⟩ := h
    simp only [List.mapM_cons, Sem.run_bind, run_sizeOf hm, Result.andThen_ok, Sem.run_pure, run_places hq]
theorem y_build {parts : List (Nat × Operand)} {vs : List (Nat × Value)} {zl l : List Value} {pl : List (Nat × Nat)} (hp : parts.map (fun p => (p.1, ev E p.2)) = vs.map fun p => (p.1, some p.2)) (hpl : placesT P t = some pl)
    (hzl : zeroL P t = some zl) (hf : Instr.fill (fun i => pl[i]?) zl.toArray vs = some l.toArray) : YV P n E W (.build t parts.toArray) ty (.agg l.toArray) := fun a w ha _ d ps af g => by
  obtain ⟨v, hv, hlv⟩ := zeroT_of_L hzl
  have hparts : (parts.map fun (i, x) => (i, a.eval x)) = vs := by
    clear hf
    induction parts generalizing vs with
    | nil => cases vs with
      | nil => rfl
      | cons _ _ => simp at hp
    | cons p parts ih => cases vs with
      | nil => simp at hp
      | cons q vs =>
        simp only [List.map_cons, List.cons.injEq, Prod.mk.injEq] at hp
        simp only [List.map_cons, List.cons.injEq]
        exact ⟨by rw [ha.eval hp.1.2, hp.1.1], ih hp.2⟩
  have hc : v.cells = zl.toArray := by rw [← hlv]
  unfold placesT at hpl
  cases hu : P.underlying t with
  | none => simp [hu] at hpl
  | some dd =>
    rw [hu] at hpl
    cases dd <;> simp at hpl
    rename_i fs
    have hm : (fs.mapM (m := Sem) fun f => do pure (f.offset, ← sizeOf f.type)).run P w = .ok pl.toArray w := by
      rw [Array.mapM_eq_mapM_toList, Sem.run_map, run_places (P := P) (w := w) (fs := fs.toList) (pl := pl) (by simpa using hpl)]; rfl
    simp only [execOp, Instr.build, Sem.run_bind, run_zeroValue hv, Result.andThen_ok, run_underlying hu, hm, List.map_toArray, hparts, hc]
    rw [show (fun x => pl.toArray[x]?) = (fun i => pl[i]?) from by funext i; simp, hf]
    rfl
theorem y_buildA {e m len : Nat} {parts : List (Nat × Operand)} {vs : List (Nat × Value)} {zl l : List Value} (hp : parts.map (fun p => (p.1, ev E p.2)) = vs.map fun p => (p.1, some p.2)) (hu : P.underlying t = some (.array len e)) (hz : szT P e = some m)
    (hzl : zeroL P t = some zl) (hf : Instr.fill (fun i => some (i * m, m)) zl.toArray vs = some l.toArray) : YV P n E W (.build t parts.toArray) ty (.agg l.toArray) := fun a w ha _ d ps af g => by
  obtain ⟨v, hv, hlv⟩ := zeroT_of_L hzl
  have hparts : (parts.map fun (i, x) => (i, a.eval x)) = vs := by
    clear hf
    induction parts generalizing vs with
    | nil => cases vs with
      | nil => rfl
      | cons _ _ => simp at hp
    | cons p parts ih => cases vs with
      | nil => simp at hp
      | cons q vs =>
        simp only [List.map_cons, List.cons.injEq, Prod.mk.injEq] at hp
        simp only [List.map_cons, List.cons.injEq]
        exact ⟨by rw [ha.eval hp.1.2, hp.1.1], ih hp.2⟩
  have hc : v.cells = zl.toArray := by rw [← hlv]
  simp only [execOp, Instr.build, Sem.run_bind, run_zeroValue hv, Result.andThen_ok, run_underlying hu, run_sizeOf hz, List.map_toArray, hparts, hc, hf, Sem.run_pure]
theorem y_build0 {l : List Value} {pl : List (Nat × Nat)} (hpl : placesT P t = some pl) (hzl : zeroL P t = some l) : YV P n E W (.build t #[]) ty (.agg l.toArray) :=
  y_build (parts := []) (vs := []) rfl hpl hzl rfl

/-! ### Slices that grow -/
structure SlG where
  b : Nat
  cap : Nat
  sp : List Value
def slV (g : Option SlG) (len : Nat) : Value := match g with | none => .slice none 0 0 | some g => .slice (some ⟨g.b, 0, none⟩) len g.cap
def slSeg (e : Nat) (g : Option SlG) (xs : List Value) : List (Nat × Obj) := match g with | none => [] | some g => [(g.b, .cells (xs ++ g.sp).toArray e)]
def slOk (sz : Nat) (g : Option SlG) (len : Nat) (xs : List Value) : Prop := xs.length = len * sz ∧ match g with | none => len = 0 | some g => xs.length + g.sp.length = g.cap * sz ∧ len ≤ g.cap

theorem growBy_le (newLen : Nat) (h : 256 ≤ newLen) : ∀ (r c : Nat), c ≤ newLen → Builtin.growBy newLen r c ≤ 2 * newLen
  | 0, c, hc => by simp [Builtin.growBy]; omega
  | r + 1, c, hc => by
    unfold Builtin.growBy
    split
    · omega
    · by_cases h2 : c + (c + 768) / 4 ≤ newLen
      · exact growBy_le newLen h r _ h2
      · have : Builtin.growBy newLen r (c + (c + 768) / 4) = c + (c + 768) / 4 := by
          cases r with
          | zero => rfl
          | succ r => unfold Builtin.growBy; rw [if_pos (by omega)]
        omega
theorem nextcap_le (newLen oldCap : Nat) (h : oldCap < newLen) : Builtin.nextslicecap newLen oldCap ≤ 2 * newLen := by
  unfold Builtin.nextslicecap
  split
  · omega
  · split
    · omega
    · exact growBy_le newLen (by omega) 4 oldCap (by omega)
theorem setH_setS : ∀ {H : Hp} {s b : Nat} {o : Obj} (o' : Obj), H[s]? = some [(b, o)] → getH H s 0 = some (b, o) ∧ setH H s 0 o' = setS H s [(b, o')]
  | [], _, _, _, _, h => by cases h
  | S :: H, 0, b, o, o', h => by simp at h; subst h; exact ⟨rfl, rfl⟩
  | S :: H, s + 1, b, o, o', h => by
    simp only [List.getElem?_cons_succ] at h
    have ⟨h1, h2⟩ := setH_setS o' h
    exact ⟨h1, by simp only [setH, setS, h2]⟩
theorem hsub_setS {H : Hp} {s : Nat} {X Y : List (Nat × Obj)} (h : H[s]? = some X) : HSub (setS H s Y) (Y :: H) := by
  obtain ⟨L, h1, h2⟩ := perm_setS_all H s X h
  have hs : HSub (Y :: L) (Y :: H) := .of_sublist (L := Y :: X :: L) (by simpa using h1.append_left Y) (by simp)
  exact (HSub.of_perm (h2 Y).symm).trans hs
theorem setS_self : ∀ {H : Hp} {s : Nat} {X : List (Nat × Obj)}, H[s]? = some X → setS H s X = H
  | [], _, _, h => by cases h
  | S :: H, 0, X, h => by simp at h; subst h; rfl
  | S :: H, s + 1, X, h => by
    simp only [List.getElem?_cons_succ] at h
    simp only [setS, setS_self h]
/-- What stands first in a slice, or in a text. -/
def Src (P : Program) (w0 : World) (H : Hp) (sz : Nat) (v : Value) (m : Nat) (vs : List Value) : Prop :=
  ∀ w, St w0 w H → (Builtin.lenOf v).run P w = .ok m w ∧ (Builtin.firstCells sz m v).run P w = .ok vs.toArray w
theorem src_slice {sz b off len cap : Nat} {l vs : List Value} {T : TypeId} {fr : Nat × Nat} (hs : Sees (fun w => St w0 w H) b (.cells l.toArray T fr)) (hl : off + len * sz ≤ l.length) (hv : (l.drop off).take (len * sz) = vs) :
    Src P w0 H sz (.slice (some ⟨b, off, none⟩) len cap) len vs := fun w hw => by
  refine ⟨rfl, ?_⟩
  simp only [Builtin.firstCells, run_loadCells_at (hs w hw) hl, hv]
theorem Src.sub {sz m : Nat} {v : Value} {vs : List Value} (h : Src P w0 H' sz v m vs) (hs : HSub H' H) : Src P w0 H sz v m vs := fun w hw => h w (hs w0 w hw)

def notIntT (P : Program) (t : TypeId) : Bool := match P.underlying t with
  | some (.int _) => false
  | some _ => true
  | none => false
theorem notInt_spec {t : Nat} (h : notIntT P t = true) : ∃ dx, P.underlying t = some dx ∧ ∀ k, dx ≠ .int k := by
  unfold notIntT at h
  cases hu : P.underlying t with
  | none => simp [hu] at h
  | some dx => exact ⟨dx, rfl, fun k e => by rw [hu, e] at h; simp at h⟩
theorem run_append {len cap m e sz bt : Nat} {base : Option Addr} {xv : Value} {t0 t1 : TypeId} {w : World} {vs : List Value}
    (hu : P.underlying t0 = some (.slice e)) (hnx : notIntT P t1 = true) (hz : szT P e = some sz) (h1 : (Builtin.lenOf xv).run P w = .ok m w) (h2 : (Builtin.firstCells sz m xv).run P w = .ok vs.toArray w) (hroom : len + m ≤ cap) :
    (Builtin.append_ #[t0, t1] ty #[.slice base len cap, xv]).run P w =
      ((match base with | some a => storeCells (a.add (len * sz)) vs | none => pure ()).run P w).andThen fun _ w' => .ok (.slice base (len + m) cap) w' := by
  obtain ⟨dx, hux, hni⟩ := notInt_spec hnx
  have q0 : (#[t0, t1] : Array TypeId)[0]? = some t0 := rfl
  have q1 : (#[t0, t1] : Array TypeId)[1]? = some t1 := rfl
  have q2 : (#[Value.slice base len cap, xv] : Array Value)[0]? = some (.slice base len cap) := rfl
  have q3 : (#[Value.slice base len cap, xv] : Array Value)[1]? = some xv := rfl
  unfold Builtin.append_
  simp only [q0, q1, q2, q3]
  rw [Sem.run_bind, run_underlying hu]
  simp only [Result.andThen_ok]
  rw [Sem.run_bind, run_sizeOf hz]
  simp only [Result.andThen_ok]
  rw [Sem.run_bind, run_underlying hux]
  simp only [Result.andThen_ok]
  rw [Sem.run_bind, Sem.run_pure]
  simp only [Result.andThen_ok]
  have fin : (Sem.run P (do
      let n ← Builtin.lenOf xv
      if len + n ≤ cap then do
          let new ← Builtin.firstCells sz n xv
          match base with
            | some a => do
              storeCells (a.add (len * sz)) new.toList
              pure (Value.slice base (len + n) cap)
            | x => pure (Value.slice base (len + n) cap)
        else pure (Value.slice base 0 0)) w) = ((match base with | some a => storeCells (a.add (len * sz)) vs | none => pure ()).run P w).andThen fun _ w' => .ok (.slice base (len + m) cap) w' := by
    simp only [Sem.run_bind, h1, Result.andThen_ok, hroom, if_true, h2]
    cases base with
    | none => simp
    | some a => simp
  cases dx
  case int k => exact absurd rfl (hni k)
  all_goals
    simp only [Bool.false_eq_true, if_false, Sem.run_bind, h1, Result.andThen_ok, hroom, if_true, Bool.not_false, h2] at fin ⊢
    exact fin
theorem run_append_grow {len cap m e sz bt : Nat} {base : Option Addr} {xv : Value} {t0 t1 : TypeId} {w : World} {vs old zl : List Value} {zv : Value}
    (hu : P.underlying t0 = some (.slice e)) (hnx : notIntT P t1 = true) (hz : szT P e = some sz) (hb : byT P e = some bt) (hbp : 0 < bt) (hzv : zeroT P e = some zv) (hzc : zv.cells = zl.toArray) (hlz : zl.length = sz)
    (h1 : (Builtin.lenOf xv).run P w = .ok m w) (h2 : ∀ k, (Builtin.firstCells sz m xv).run P { w with drawn := k } = .ok vs.toArray { w with drawn := k }) (h3 : ∀ k, (Builtin.firstCells sz len (.slice base len cap)).run P { w with drawn := k } = .ok old.toArray { w with drawn := k })
    (hroom : ¬ (len + m ≤ cap)) (hbound : (len + m) * bt ≤ 140737488355328) :
    ∃ cap' dr, len + m ≤ cap' ∧ (Builtin.append_ #[t0, t1] ty #[.slice base len cap, xv]).run P w = .ok (.slice (some ⟨w.heap.size, 0, none⟩) (len + m) cap') (World.alloc { w with drawn := dr } (.cells (old ++ vs ++ zcells zl (cap' - (len + m))).toArray e)) := by
  obtain ⟨dx, hux, hni⟩ := notInt_spec hnx
  have q0 : (#[t0, t1] : Array TypeId)[0]? = some t0 := rfl
  have q1 : (#[t0, t1] : Array TypeId)[1]? = some t1 := rfl
  have q2 : (#[Value.slice base len cap, xv] : Array Value)[0]? = some (.slice base len cap) := rfl
  have q3 : (#[Value.slice base len cap, xv] : Array Value)[1]? = some xv := rfl
  obtain ⟨i, hi, hib⟩ := run_bytes hb w
  have hbt : len + m ≤ (len + m) * bt := Nat.le_mul_of_pos_right _ hbp
  have hnext := nextcap_le (len + m) cap (by omega)
  have t2 : ¬ (Builtin.nextslicecap (len + m) cap * i.bytes > 2 ^ 48) := by
    rw [hib]
    have : Builtin.nextslicecap (len + m) cap * bt ≤ 2 * (len + m) * bt := Nat.mul_le_mul_right bt hnext
    have : 2 * (len + m) * bt = 2 * ((len + m) * bt) := Nat.mul_assoc _ _ _
    omega
  have t1' : ¬ (((len + m : Nat) : Int) > IntKind.i64.max ∧ (false = true ∨ i.bytes = 0)) := by rw [IntKind.max_i64]; omega
  obtain ⟨cap', hcap'⟩ : ∃ c, c = (Question.appendCap (len + m) cap e).cut (w.tape w.drawn (.appendCap (len + m) cap e)) := ⟨_, rfl⟩
  have hcc : len + m ≤ cap' := by rw [hcap']; simp only [Question.cut]; omega
  have hi' : ∀ w' : World, (typeInfo e).run P w' = .ok i w' := fun w' => by
    obtain ⟨i', h, _⟩ := run_bytes hb w'
    have e1 : P.info? e = some i := by
      cases hq : P.info? e with
      | none => simp [typeInfo, hq] at hi
      | some j => simp [typeInfo, hq] at hi; rw [hi]
    simp [typeInfo, e1]
  refine ⟨cap', w.drawn + 1, hcc, ?_⟩
  have hz0 : Builtin.zeroCells zv.cells (cap' - (len + m)) = (zcells zl (cap' - (len + m))).toArray := by
    unfold Builtin.zeroCells
    rw [hzc]
    exact rangeCells zl _
  unfold Builtin.append_
  simp only [q0, q1, q2, q3]
  rw [Sem.run_bind, run_underlying hu]
  simp only [Result.andThen_ok]
  rw [Sem.run_bind, run_sizeOf hz]
  simp only [Result.andThen_ok]
  rw [Sem.run_bind, run_underlying hux]
  simp only [Result.andThen_ok]
  rw [Sem.run_bind, Sem.run_pure]
  simp only [Result.andThen_ok]
  cases dx
  case int k => exact absurd rfl (hni k)
  all_goals
    simp only [Result.andThen_ok, Sem.run_bind, Sem.run_pure, Bool.false_eq_true, if_false, h1, hroom, Bool.not_false, if_true, hi']
    rw [if_neg (by simpa using t1')]
    rw [Sem.run_bind, hi' w]
    simp only [Result.andThen_ok]
    rw [if_neg t2]
    simp only [Sem.run_bind, run_choose, Question.forced, Bool.false_eq_true, if_false, Sem.run_pure, Result.andThen_ok, ← hcap', hi', run_askRoom]
    rw [h3]
    simp only [Result.andThen_ok]
    rw [h2]
    simp only [Result.andThen_ok, Sem.run_bind, run_zeroValue hzv, hz0, newRow, run_newObj, Sem.run_pure]
    simp only [List.append_toArray]
    rfl
theorem op_append {gs : Option SlG} {len m e sz bt : Nat} {xs vs zl : List Value} {xv : Value} {t0 t1 : TypeId} (s : Nat) (hx : ev E x = some (slV gs len)) (hy : ev E y = some xv) (hs : H[s]? = some (slSeg e gs xs)) (hok : slOk sz gs len xs)
    (hsrc : Src P w0 H sz xv m vs) (hm : vs.length = m * sz) (hone : ∀ v ∈ vs, one v = true)
    (hu : P.underlying t0 = some (.slice e)) (hnx : notIntT P t1 = true) (hz : szT P e = some sz) (hb : byT P e = some bt) (hbp : 0 < bt)
    (hzl : zeroL P e = some zl) (hlz : zl.length = sz) (hbound : (len + m) * bt ≤ 140737488355328) (hd : dok d n = true)
    (k : ∀ g' : Option SlG, slOk sz g' (len + m) (xs ++ vs) → K (put E d (slV g' (len + m))) (setS H s (slSeg e g' (xs ++ vs)))) :
    OpW P n w0 Q ⟨d, .call { callee := .builtin .append, args := [x, y].toArray, argTypes := #[t0, t1] }, ty, ps, af, g⟩ E H K := op_run hd fun a w ha hw => by
  obtain ⟨zv, hzv, hlv⟩ := zeroT_of_L hzl
  have hzc : zv.cells = zl.toArray := by rw [← hlv]
  obtain ⟨h1, h2⟩ := hsrc w hw
  have hev := evals (n := n) (E := E) ha (l := [x, y]) (vs := [slV gs len, xv]) (by simp [hx, hy])
  have hexec : ∀ r w', (Builtin.append_ #[t0, t1] ty #[slV gs len, xv]).run P w = .ok r w' →
      (execOp a.eval ⟨d, .call { callee := .builtin .append, args := [x, y].toArray, argTypes := #[t0, t1] }, ty, ps, af, g⟩).run P w = .ok (.value r) w' := fun r w' h => by
    simp only [execOp, resolve, Sem.run_bind, Sem.run_pure, Result.andThen_ok, invoke, List.map_toArray, hev, builtin]
    rw [show (#[slV gs len, xv] : Array Value) = [slV gs len, xv].toArray from rfl] at h
    rw [h]
    rfl
  have grow : ∀ (base : Option Addr) (cap : Nat), slV gs len = .slice base len cap → ¬ (len + m ≤ cap) →
      (∀ k, (Builtin.firstCells sz len (.slice base len cap)).run P { w with drawn := k } = .ok xs.toArray { w with drawn := k }) →
      ∃ v w' H', (execOp a.eval ⟨d, .call { callee := .builtin .append, args := [x, y].toArray, argTypes := #[t0, t1] }, ty, ps, af, g⟩).run P w = .ok (.value v) w' ∧ St w0 w' H' ∧ K (put E d v) H' := by
    intro base cap hv hroom hf
    obtain ⟨cap', dr, hc, hr⟩ := run_append_grow (P := P) (ty := ty) (base := base) (w := w) hu hnx hz hb hbp hzv hzc hlz h1 (fun k => (hsrc _ (hw.drawn k)).2) hf hroom hbound
    rw [← hv] at hr
    have hok' : slOk sz (some ⟨w.heap.size, cap', zcells zl (cap' - (len + m))⟩) (len + m) (xs ++ vs) := by
      refine ⟨by simp [hok.1, hm, Nat.add_mul], ?_, hc⟩
      simp only [List.length_append, hok.1, hm, zcells_length, hlz]
      rw [← Nat.add_mul, ← Nat.add_mul]
      congr 1
      omega
    refine ⟨_, _, _, hexec _ _ hr, ?_, k (some ⟨w.heap.size, cap', zcells zl (cap' - (len + m))⟩) hok'⟩
    exact hsub_setS hs w0 _ ((hw.drawn dr).alloc _)
  cases gs with
  | none =>
    obtain ⟨hx1, rfl⟩ := hok
    have hxs : xs = [] := List.eq_nil_of_length_eq_zero (by simpa using hx1)
    subst hxs
    by_cases hm0 : m = 0
    · subst hm0
      have hvs : vs = [] := List.eq_nil_of_length_eq_zero (by simpa using hm)
      subst hvs
      have hr := run_append (P := P) (bt := bt) (ty := ty) (base := none) (cap := 0) (len := 0) (w := w) hu hnx hz h1 h2 (Nat.le_refl 0)
      simp only [Sem.run_pure, Result.andThen_ok] at hr
      refine ⟨_, _, H, hexec _ _ hr, hw, ?_⟩
      have := k none ⟨by simp, rfl⟩
      have e0 : setS H s (slSeg e none ([] ++ [])) = H := setS_self hs
      rw [e0] at this
      exact this
    · exact grow none 0 rfl (by omega) (fun k => rfl)
  | some gg =>
    obtain ⟨hx1, hx2, hx3⟩ := hok
    have hblk : w.heap[gg.b]? = some (.cells (xs ++ gg.sp).toArray e) := hw.has _ (getH_mem (setH_setS (.cells #[] e) hs).1)
    by_cases hroom : len + m ≤ gg.cap
    · have hr := run_append (P := P) (bt := bt) (ty := ty) (base := some ⟨gg.b, 0, none⟩) (w := w) hu hnx hz h1 h2 hroom
      have hlen : len * sz + vs.length ≤ (xs ++ gg.sp).length := by
        rw [List.length_append, hx2, hm, ← Nat.add_mul]; exact Nat.mul_le_mul_right _ hroom
      simp only [addr_add, Nat.zero_add] at hr
      rw [run_storeCells' hblk hone hlen] at hr
      simp only [Result.andThen_ok] at hr
      have hs2 := setH_setS (.cells (spl (xs ++ gg.sp) (len * sz) vs).toArray e) hs
      have e1 : spl (xs ++ gg.sp) (len * sz) vs = (xs ++ vs) ++ gg.sp.drop vs.length := by
        rw [spl_eq _ _ _ hlen, ← hx1]
        rw [List.take_left' rfl, List.drop_append]
        simp
      have hok' : slOk sz (some ⟨gg.b, gg.cap, gg.sp.drop vs.length⟩) (len + m) (xs ++ vs) := by
        refine ⟨by simp [hx1, hm, Nat.add_mul], ?_, hroom⟩
        simp only [List.length_append, List.length_drop]
        rw [List.length_append, hx2] at hlen
        omega
      refine ⟨_, _, _, hexec _ _ hr, hw.putB hs2.1 _, ?_⟩
      rw [hs2.2, e1]
      exact k (some ⟨gg.b, gg.cap, gg.sp.drop vs.length⟩) hok'
    · refine grow (some ⟨gg.b, 0, none⟩) gg.cap rfl hroom (fun k => ?_)
      have hblk' : ({ w with drawn := k } : World).heap[gg.b]? = some (.cells (xs ++ gg.sp).toArray e) := hblk
      simp only [Builtin.firstCells]
      rw [run_loadCells_at hblk' (by simp; omega)]
      rw [List.drop_zero, ← hx1, List.take_left' rfl]

end Go.Sl

/- The calculus, sixth part (own work): ends of bodies, small words. -/
set_option linter.unusedVariables false
set_option linter.unusedSimpArgs false
namespace Go.Sl
open Go.RowKit (Below)
variable {P : Program} {n : FN} {w0 : World} {Q : Post} {E E' : Env} {H H' HS : Hp} {W : World → Prop} {K : Env → Hp → Prop}

theorem ones {vs : List Value} (h : vs.all one = true) : ∀ v ∈ vs, one v = true := List.all_eq_true.1 h
theorem rv_nil : RV P w0 E H [] [] := trivial
theorem rv_tmp {t : Nat} {v : Value} {rs : List ResultVar} {vs : List Value} (h : look E t = some v) (hr : RV P w0 E H rs vs) : RV P w0 E H (.tmp t :: rs) (v :: vs) := ⟨h, hr⟩
theorem rv_cellA {t ty b i m : Nat} {l us : List Value} {T : TypeId} {fr : Nat × Nat} {rs : List ResultVar} {vs : List Value} (h : look E t = some (.pointer (some ⟨b, i, none⟩))) (ht : isAggT P ty = some true) (hz : szT P ty = some m)
    (hs : Sees (fun w => St w0 w H) b (.cells l.toArray T fr)) (hm : i + m ≤ l.length) (hv : (l.drop i).take m = us) (hr : RV P w0 E H rs vs) : RV P w0 E H (.cell t ty :: rs) (.agg us.toArray :: vs) :=
  ⟨⟨_, h, fun w hw => by rw [run_loadVarA ht hz (hs w hw) hm, hv]⟩, hr⟩
theorem B_ret {rs : List ResultVar} {vs : List Value} {R : Ending → Hp → Prop} (hrv : RV P w0 E H rs vs) (hs : HSub H' H) (hR : R (.returned (pack vs)) H') : BodyQ P w0 rs R .ret E H := ⟨vs, H', hrv, hs, hR⟩
theorem B_end {rs : List ResultVar} {vs : List Value} {R : Ending → Hp → Prop} (hrv : RV P w0 E H rs vs) (hs : HSub H' H) (hR : R (.returned (pack vs)) H') : BodyQ P w0 rs R .normal E H := ⟨vs, H', hrv, hs, hR⟩
theorem wi64 {m : Int} (h0 : -9223372036854775808 ≤ m) (h1 : m ≤ 9223372036854775807) : IntKind.i64.wrap m = m := by rw [IntKind.wrap_i64]; omega
theorem wu64 {m : Int} (h0 : 0 ≤ m) (h1 : m ≤ 18446744073709551615) : IntKind.u64.wrap m = m := by simp only [IntKind.wrap, IntKind.bits, IntKind.signed]; simp; omega
theorem wu8 {m : Int} (h0 : 0 ≤ m) (h1 : m ≤ 255) : IntKind.u8.wrap m = m := by rw [IntKind.wrap_u8]; omega
theorem slOk_none {sz len : Nat} {xs : List Value} (h : slOk sz none len xs) (hl : len ≠ 0) {α : Prop} : α := absurd h.2 hl
theorem Src.up {P : Program} {w0 : World} {H : Hp} {sz m : Nat} {v : Value} {vs : List Value} {X : List (Nat × Obj)} (h : Src P w0 H sz v m vs) : Src P w0 (X :: H) sz v m vs := h.sub (HSub.drop _ _)
theorem Sees.up {b : Nat} {o : Obj} {S : List (Nat × Obj)} (h : Sees (fun w => St w0 w H) b o) : Sees (fun w => St w0 w (S :: H)) b o := h.sub (HSub.drop S H)
/-- The same, for some ghost. -/
theorem C_cutG {ι : Type} {x y : Code} (G : ι → Prop) (Ec : ι → Env) (Hc : ι → Hp) (h : WpC P n w0 x (thenQ (fun E' H' => ∃ i, G i ∧ SubEnv (Ec i) E' ∧ HSub (Hc i) H') Q) E H)
    (hk : ∀ i, G i → WpC P n w0 y Q (Ec i) (Hc i)) : WpC P n w0 (.seq x y) Q E H :=
  C_cut _ h fun E H ⟨i, g, h1, h2⟩ => C_weaken h1 h2 (hk i g)
/-- A contract of a group of segments, used behind others. -/
theorem perm_mid (F A L : Hp) : (F ++ (A ++ L)).flatten.Perm (A ++ (F ++ L)).flatten := by
  simp only [List.flatten_append]
  rw [← List.append_assoc, ← List.append_assoc]
  exact List.perm_append_comm.append_right _
theorem FnS.mid {f : Nat} {args : Array Value} {A : Hp} {φ : Ending → Hp → Prop} (F L : Hp) (h : ∀ L, FnS P w0 f args (A ++ L) fun e H' => ∃ A', φ e A' ∧ H' = A' ++ L) :
    FnS P w0 f args (F ++ (A ++ L)) fun e H' => ∃ A', φ e A' ∧ H' = F ++ (A' ++ L) := fun w hw => by
  refine (h (F ++ L) w (HSub.of_perm (perm_mid F A L) w0 w hw)).mono ?_
  rintro e w' ⟨H', s, A', hφ, rfl⟩
  exact ⟨_, HSub.of_perm (perm_mid F A' L).symm w0 w' s, A', hφ, rfl⟩
theorem flatten_sublist : ∀ {H' H : Hp}, H'.Sublist H → H'.flatten.Sublist H.flatten
  | _, _, .slnil => List.Sublist.refl _
  | _, _, .cons S h => by simp only [List.flatten_cons]; exact (flatten_sublist h).trans (List.sublist_append_right _ _)
  | _, _, .cons_cons S h => by simp only [List.flatten_cons]; exact (List.Sublist.refl S).append (flatten_sublist h)
/-- Some segments are dropped. -/
theorem hsub {H' H : Hp} (h : H'.Sublist H) : HSub H' H := .of_sublist (List.Perm.refl _) (flatten_sublist h)
/-! ### Structs of whole numbers -/
def intFieldsT (P : Program) (t : TypeId) : Option (List IntKind) :=
  match P.underlying t with
  | some (.struct fs) => if (fs.toList.zipIdx.all fun p => p.1.name != "_" && p.1.offset == p.2) && !P.stoodInHeld t then fs.toList.mapM fun f => match P.underlying f.type with | some (.int k) => some k | _ => none else none
  | _ => none
def ints (ks : List IntKind) (xs : List Int) : List Value := List.zipWith Value.int ks xs
theorem run_eqFields {d : Nat} {w : World} : ∀ (fs : List Field) (ks : List IntKind) (xs ys : List Int) (pre pre' : List Value), pre.length = pre'.length → xs.length = ks.length → ys.length = ks.length →
    (fs.zipIdx pre.length).all (fun p => p.1.name != "_" && p.1.offset == p.2) = true → fs.mapM (fun f => match P.underlying f.type with | some (.int k) => some k | _ => none) = some ks →
    (Op.eqFields (d + 1) (pre ++ ints ks xs).toArray (pre' ++ ints ks ys).toArray fs).run P w = .ok (decide (xs = ys)) w
  | [], ks, xs, ys, pre, pre', hp, hx, hy, hall, hm => by
    simp at hm; subst hm
    have := List.eq_nil_of_length_eq_zero hx
    have := List.eq_nil_of_length_eq_zero hy
    subst_vars
    simp [Op.eqFields]
  | f :: fs, ks, xs, ys, pre, pre', hp, hx, hy, hall, hm => by
    simp only [List.mapM_cons, Option.bind_eq_bind, Option.bind_eq_some_iff, Option.pure_def, Option.some.injEq] at hm
    obtain ⟨k, hk, ks', hks, rfl⟩ := hm
    cases xs with
    | nil => simp at hx
    | cons x xs => cases ys with
      | nil => simp at hy
      | cons y ys =>
        simp only [List.zipIdx_cons, List.all_cons, Bool.and_eq_true, bne_iff_ne, beq_iff_eq] at hall
        obtain ⟨⟨hn, ho⟩, hall⟩ := hall
        have hu : P.underlying f.type = some (.int k) := by
          split at hk
          · simp at hk; subst hk; assumption
          · cases hk
        have px : (part f.type (pre ++ ints (k :: ks') (x :: xs)).toArray f.offset).run P w = .ok (.int k x) w := by
          simp only [part, Sem.run_bind, isAgg, run_underlying hu, Result.andThen_ok, Sem.run_pure, Bool.false_eq_true, if_false, ho]
          simp [ints]
        have py : (part f.type (pre' ++ ints (k :: ks') (y :: ys)).toArray f.offset).run P w = .ok (.int k y) w := by
          simp only [part, Sem.run_bind, isAgg, run_underlying hu, Result.andThen_ok, Sem.run_pure, Bool.false_eq_true, if_false, ho, hp]
          simp [ints]
        have pe : (Op.equalIn (d + 1) f.type (.int k x) (.int k y)).run P w = .ok (x == y) w := run_equalIn_int w d f.type k k x y hu
        rw [Op.eqFields, if_pos hn]
        simp only [Sem.run_bind, px, py, pe, Result.andThen_ok]
        by_cases e : x = y
        · subst e
          have ih := run_eqFields (d := d) (w := w) fs ks' xs ys (pre ++ [.int k x]) (pre' ++ [.int k x]) (by simp [hp]) (by simpa using hx) (by simpa using hy) (by simpa using hall) hks
          simp only [beq_self_eq_true, Bool.not_true, Bool.false_eq_true, if_false]
          have e1 : pre ++ ints (k :: ks') (x :: xs) = pre ++ [.int k x] ++ ints ks' xs := by simp [ints]
          have e2 : pre' ++ ints (k :: ks') (x :: ys) = pre' ++ [.int k x] ++ ints ks' ys := by simp [ints]
          rw [e1, e2, ih]
          simp
        · have : (x == y) = false := by simpa using e
          simp [this, e]
section
variable {x y : Operand} {ty t t2 : Nat}
theorem run_eq_ints {ks : List IntKind} {xs ys : List Int} (hi : intFieldsT P t = some ks) (hlx : xs.length = ks.length) (hly : ys.length = ks.length) (w : World) :
    (Op.equalIn 10000 t (.agg (ints ks xs).toArray) (.agg (ints ks ys).toArray)).run P w = .ok (decide (xs = ys)) w := by
  unfold intFieldsT at hi
  cases hu : P.underlying t with
  | none => simp [hu] at hi
  | some dd =>
    rw [hu] at hi
    cases dd <;> simp only [reduceCtorEq] at hi
    rename_i fs
    split at hi
    · rename_i h
      simp only [Bool.and_eq_true, Bool.not_eq_true'] at h
      have hf : P.fieldsOf t = fs := by simp [Program.fieldsOf, hu]
      have h1 := run_equalIn_struct (P := P) w 9999 t (ints ks xs).toArray (ints ks ys).toArray (by rw [hf]; exact hu) h.2
      rw [hf] at h1
      have h2 := run_eqFields (P := P) (d := 9998) (w := w) fs.toList ks xs ys [] [] rfl hlx hly (by simpa using h.1) hi
      exact h1.trans h2
    · cases hi
theorem y_nest {ks : List IntKind} {xs ys : List Int} (hx : ev E x = some (.agg (ints ks xs).toArray)) (hy : ev E y = some (.agg (ints ks ys).toArray)) (hi : intFieldsT P t = some ks) (hg : P.eqGuardType P.depth t = false)
    (hlx : xs.length = ks.length) (hly : ys.length = ks.length) : YV P n E W (.binOp .neq t x y t2) ty (.bool (!decide (xs = ys))) := fun fr w hfr _ d ps af g => by
  simp only [execOp, hfr.eval hx, hfr.eval hy, Sem.run_bind, run_eqGuard_agg w .neq t x y _ _ hg, Result.andThen_ok]
  rw [run_neq_struct, run_eq_ints hi hlx hly w]
  rfl
end
/-- Segments that lie together may be told as one. -/
theorem hsub_flat {H H' : Hp} (h : H.flatten = H'.flatten) : HSub H' H := HSub.of_perm (by rw [h])
/-- What a contract says of a run. -/
theorem FnS.run {f : Nat} {args : Array Value} {R : Ending → Hp → Prop} (h : FnS P w0 f args [] R) : Calls P f args w0 fun e w' => Below w0.heap.size w0 w' ∧ ∃ H', R e H' :=
  (h w0 (St.start w0)).mono fun e w' ⟨H', s, r⟩ => ⟨s.below, H', r⟩
end Go.Sl

/- The copy of slices, and segments picked in another order (own work). -/
set_option linter.unusedVariables false
set_option linter.unusedSimpArgs false
namespace Go.Sl
variable {P : Program} {n : FN} {w0 : World} {Q : Post} {E E' : Env} {H H' HS : Hp} {W : World → Prop} {K : Env → Hp → Prop}
variable {d : Option Nat} {ty t t2 : Nat} {ps : String} {af : Array Edge} {g : Option (Nat × Bool)} {x y c : Operand}
def pick : List Nat → Hp → Hp
  | [], X => X
  | i :: is, X => match X[i]? with
    | some s => s :: pick is (X.eraseIdx i)
    | none => pick is X
theorem erase_perm {α : Type} : ∀ (X : List α) (i : Nat) (s : α), X[i]? = some s → X.Perm (s :: X.eraseIdx i)
  | [], _, _, h => by simp at h
  | x :: X, 0, s, h => by simp at h; subst h; exact .refl _
  | x :: X, i + 1, s, h => by
    simp only [List.getElem?_cons_succ] at h
    exact ((erase_perm X i s h).cons x).trans (.swap s x _)
theorem pick_perm : ∀ (is : List Nat) (X : Hp), X.Perm (pick is X)
  | [], X => .refl _
  | i :: is, X => by
    unfold pick
    cases h : X[i]? with
    | none => exact pick_perm is X
    | some s =>
      exact (erase_perm X i s h).trans ((pick_perm is _).cons _)
theorem hsub_pick {H' X : Hp} (is : List Nat) (e : pick is X = H') : HSub H' X := by
  subst e
  exact .of_perm (pick_perm is X).flatten
theorem y_lenV {sz m e : Nat} {gs : Option SlG} {xs : List Value} {tys : Array TypeId} (hok : slOk sz gs m xs) (hx : ev E x = some (slV gs m)) (h0 : tys[0]? = some t) (hu : P.underlying t = some (.slice e)) :
    YV P n E W (.call { callee := .builtin .len, args := [x].toArray, argTypes := tys }) ty (.int .i64 m) := by
  cases gs with
  | none => obtain rfl : m = 0 := hok.2; exact y_lenS hx h0 hu
  | some g => exact y_lenS hx h0 hu
theorem ret_bool {b b' : Bool} (h : b = b') : Ending.returned (.bool b) = .returned (.bool b') := by rw [h]
/-- What a slice holds. -/
def Holds (w0 : World) (H : Hp) (a : Option Addr) (vs : List Value) : Prop :=
  0 < vs.length → ∃ (b off : Nat) (l : List Value) (T : TypeId) (fr : Nat × Nat), a = some ⟨b, off, none⟩ ∧ Sees (fun w => St w0 w H) b (.cells l.toArray T fr) ∧ off + vs.length ≤ l.length ∧ (l.drop off).take vs.length = vs
theorem Holds.sub {H' : Hp} {a : Option Addr} {vs : List Value} (h : Holds w0 H' a vs) (hs : HSub H' H) : Holds w0 H a vs := fun hp => by
  obtain ⟨b, off, l, T, fr, h1, h2, h3, h4⟩ := h hp
  exact ⟨b, off, l, T, fr, h1, h2.sub hs, h3, h4⟩
theorem Holds.up {a : Option Addr} {vs : List Value} {X : List (Nat × Obj)} (h : Holds w0 H a vs) : Holds w0 (X :: H) a vs := h.sub (HSub.drop _ _)
theorem holds_sl {sz e s len : Nat} {g : Option SlG} {vs : List Value} (hs : H[s]? = some (slSeg e g vs)) (hok : slOk sz g len vs) : ∃ a cap, slV g len = .slice a len cap ∧ Holds w0 H a vs := by
  cases g with
  | none =>
    obtain ⟨h1, rfl⟩ := hok
    exact ⟨none, 0, rfl, fun hp => by rw [Nat.zero_mul] at h1; omega⟩
  | some g =>
    refine ⟨_, _, rfl, fun hp => ⟨g.b, 0, vs ++ g.sp, e, (0, 0), rfl, ?_, by simp, by simp⟩⟩
    exact sees_mem (List.mem_flatten.2 ⟨_, List.mem_of_getElem? hs, by simp [slSeg]⟩)
theorem holds_slice {b off : Nat} {l vs : List Value} {T : TypeId} {fr : Nat × Nat} (hs : Sees (fun w => St w0 w H) b (.cells l.toArray T fr)) (hl : off + vs.length ≤ l.length) (hv : (l.drop off).take vs.length = vs) : Holds w0 H (some ⟨b, off, none⟩) vs :=
  fun _ => ⟨b, off, l, T, fr, rfl, hs, hl, hv⟩
theorem hsub_nil1 {a : List (Nat × Obj)} {r : Hp} : HSub (a :: [] :: r) (a :: r) := hsub_flat rfl
end Go.Sl

/- Interfaces, methods called through them, strings told as bytes, and maps of numbers to true (own work). -/
set_option linter.unusedVariables false
set_option linter.unusedSimpArgs false
namespace Go.Sl
variable {P : Program} {n : FN} {w0 : World} {Q : Post} {E E' : Env} {H H' HS : Hp} {W : World → Prop} {K : Env → Hp → Prop}
variable {d : Option Nat} {ty t t2 : Nat} {ps : String} {af : Array Edge} {g : Option (Nat × Bool)} {x y c : Operand}
/-! ### Interfaces -/
def concT (P : Program) (t : TypeId) : Bool := match P.underlying t with | some (.interface _) => false | some _ => true | none => false
def ifcT (P : Program) (t : TypeId) : Bool := match P.underlying t with | some (.interface _) => true | _ => false
/-! ### Methods -/
def methT (P : Program) (t : TypeId) (name : String) : Option (FuncId × Bool) := ((P.info? t).bind fun i => i.methods.find? (·.name == name)).bind fun m => if m.path.isEmpty then m.func else none
/-- Is the receiver handed on as it is? -/
def recvT (P : Program) (t : TypeId) (p : Bool) : Bool := match P.underlying t, p with
  | some (.pointer _), p => p
  | some _, p => !p
  | none, _ => false
theorem run_eq_fn {ps rs : Array TypeId} {vr : Bool} (hu : P.underlying t = some (.func ps rs vr)) (f : Fn) (a c : Array Value) (w : World) : (Op.equal t (.func f a c) .nilFunc).run P w = .ok false w := by
  have key : ∀ k, (Op.equalIn (k + 1) t (.func f a c) .nilFunc).run P w = .ok false w := by
    intro k
    simp only [Op.equalIn, Sem.run_bind, run_underlying hu, Result.andThen_ok]
    rfl
  exact key 9999
theorem y_eqfn {pp rs : Array TypeId} {vr : Bool} {f : Fn} {p c : Array Value} (hx : ev E x = some (.func f p c)) (hy : ev E y = some .nilFunc) (hu : P.underlying t = some (.func pp rs vr)) : YV P n E W (.binOp .eql t x y t2) ty (.bool false) := fun a w ha _ d ps af g => by
  have h1 := run_eq_fn hu f p c w
  simp only [execOp, ha.eval hx, ha.eval hy, eqGuard_at_func, binOp]
  simp [h1]
/-! ### Strings told as bytes -/
/-! ### A copy from whatever may be read -/
/-- A slice value that holds bytes. -/
def SlH (w0 : World) (H : Hp) (v : Value) (u : List UInt8) : Prop := ∃ a cap, v = .slice a u.length cap ∧ Holds w0 H a (bs u)
theorem SlH.len {v : Value} {u : List UInt8} (h : SlH w0 H v u) : ∃ a cap, v = .slice a u.length cap := by
  obtain ⟨a, cap, e, _⟩ := h
  exact ⟨a, cap, e⟩
/-! ### Maps of numbers to true -/
def me (x : Int × Nat) : MapEntry := { key := .int .i64 x.1, val := .bool true, born := x.2 }
abbrev mapO (ks : List (Int × Nat)) (c : Nat) : Obj := .map (ks.map me).toArray c
def kHas (ks : List (Int × Nat)) (k : Int) : Bool := ks.any (·.1 == k)
def kPut (ks : List (Int × Nat)) (c : Nat) (k : Int) : List (Int × Nat) := if kHas ks k then ks else ks ++ [(k, c)]
def kClk (ks : List (Int × Nat)) (c : Nat) (k : Int) : Nat := if kHas ks k then c else c + 1
def kDel (ks : List (Int × Nat)) (k : Int) : List (Int × Nat) := match ks.findIdx? (·.1 == k) with | some i => ks.eraseIdx i | none => ks
theorem run_getMap {r : Nat} {es : Array MapEntry} {ck : Nat} {w : World} (h : w.heap[r]? = some (.map es ck)) : (getObj r).run P w = .ok (.map es ck) w := by
  simp only [getObj, Sem.run, h]
theorem run_setMap {r : Nat} {es : Array MapEntry} {ck : Nat} {w : World} (h : w.heap[r]? = some (.map es ck)) (o : Obj) : (setObj r o).run P w = .ok () (putB w r o) := by
  simp [setObj, Sem.run, h, putB]
end Go.Sl

/- Facts of the translation's types, for the kernel (own work, by a program of this repo). -/
namespace Go.Proofs.Ytighbhplfjjgpaa
open Go.Sl
theorem ag_23 : isAggT Try.prog 23 = some true := by kernel_rfl
theorem ag_3 : isAggT Try.prog 3 = some false := by kernel_rfl
theorem ag_33 : isAggT Try.prog 33 = some false := by kernel_rfl
theorem ag_35 : isAggT Try.prog 35 = some true := by kernel_rfl
theorem ag_48 : isAggT Try.prog 48 = some false := by kernel_rfl
theorem fl_23_0 : fldT Try.prog 23 0 = some 0 := by kernel_rfl
theorem fl_23_1 : fldT Try.prog 23 1 = some 1 := by kernel_rfl
theorem fl_35_0 : fldT Try.prog 35 0 = some 0 := by kernel_rfl
theorem fl_35_1 : fldT Try.prog 35 1 = some 1 := by kernel_rfl
theorem sz_23 : szT Try.prog 23 = some 2 := by kernel_rfl
theorem sz_3 : szT Try.prog 3 = some 1 := by kernel_rfl
theorem sz_35 : szT Try.prog 35 = some 2 := by kernel_rfl
theorem sz_48 : szT Try.prog 48 = some 1 := by kernel_rfl
theorem us_5 : (Try.prog.underlying 5).isSome = true := by kernel_rfl
theorem zl_3 : zeroL Try.prog 3 = some ([.int .i64 0]) := by kernel_rfl
theorem zl_35 : zeroL Try.prog 35 = some ([.int .i64 0, .slice none 0 0]) := by kernel_rfl
end Go.Proofs.Ytighbhplfjjgpaa

/- Facts of the translation's types, for the kernel (own work, by a program of this repo). -/
namespace Go.Proofs.Ytighbhplfjjgpaa
open Go.Sl
theorem ag_38 : isAggT Try.prog 38 = some false := by kernel_rfl
theorem pl_23 : placesT Try.prog 23 = some [(0, 1), (1, 1)] := by kernel_rfl
theorem pl_35 : placesT Try.prog 35 = some [(0, 1), (1, 1)] := by kernel_rfl
theorem pl_83 : placesT Try.prog 83 = some [(0, 1), (1, 1)] := by kernel_rfl
theorem sz_4 : szT Try.prog 4 = some 1 := by kernel_rfl
theorem sz_83 : szT Try.prog 83 = some 2 := by kernel_rfl
theorem zl_23 : zeroL Try.prog 23 = some ([.int .i64 0, .int .i64 0]) := by kernel_rfl
theorem zl_4 : zeroL Try.prog 4 = some ([.bool false]) := by kernel_rfl
theorem zl_83 : zeroL Try.prog 83 = some ([.int .u64 0, .int .i64 0]) := by kernel_rfl
end Go.Proofs.Ytighbhplfjjgpaa

/- Facts of the translation's types, for the kernel (own work, by a program of this repo). -/
namespace Go.Proofs.Ytighbhplfjjgpaa
open Go.Sl
theorem ag_25 : isAggT Try.prog 25 = some false := by kernel_rfl
theorem ag_4 : isAggT Try.prog 4 = some false := by kernel_rfl
theorem fl_83_0 : fldT Try.prog 83 0 = some 0 := by kernel_rfl
theorem fl_83_1 : fldT Try.prog 83 1 = some 1 := by kernel_rfl
end Go.Proofs.Ytighbhplfjjgpaa

/- Facts of the translation's types, for the kernel (own work, by a program of this repo). -/
namespace Go.Proofs.Ytighbhplfjjgpaa
open Go.Sl
theorem ag_87 : isAggT Try.prog 87 = some false := by kernel_rfl
theorem ag_88 : isAggT Try.prog 88 = some false := by kernel_rfl
theorem by_48 : byT Try.prog 48 = some 8 := by kernel_rfl
theorem eg_23 : Try.prog.eqGuardType Try.prog.depth 23 = false := by kernel_rfl
theorem fi_23 : intFieldsT Try.prog 23 = some [.i64, .i64] := by kernel_rfl
theorem fl_90_0 : fldT Try.prog 90 0 = some 0 := by kernel_rfl
theorem fl_90_1 : fldT Try.prog 90 1 = some 2 := by kernel_rfl
theorem fl_90_2 : fldT Try.prog 90 2 = some 3 := by kernel_rfl
theorem ni_33 : notIntT Try.prog 33 = true := by kernel_rfl
theorem pl_90 : placesT Try.prog 90 = some [(0, 2), (2, 1), (3, 1)] := by kernel_rfl
theorem zl_48 : zeroL Try.prog 48 = some ([.int .u64 0]) := by kernel_rfl
theorem zl_90 : zeroL Try.prog 90 = some ([.int .i64 0, .int .i64 0] ++ [.map none, .map none]) := by kernel_rfl
theorem zt_3 : zeroT Try.prog 3 = some (.int .i64 0) := by kernel_rfl
end Go.Proofs.Ytighbhplfjjgpaa

/- Maps of numbers to values: looked up, told anew, let go, ranged over (own work). -/
set_option linter.unusedVariables false
set_option linter.unusedSimpArgs false
namespace Go.Sl
variable {P : Program} {n : FN} {w0 : World} {Q : Post} {E E' : Env} {H H' HS : Hp} {W : World → Prop} {K : Env → Hp → Prop}
variable {d : Option Nat} {ty t t2 : Nat} {ps : String} {af : Array Edge} {g : Option (Nat × Bool)} {x y c : Operand}
/-- A map: each entry's key, value and stamp; and the clock. -/
abbrev Ge := Int × Value × Nat
def ge (ik : IntKind) (x : Ge) : MapEntry := { key := .int ik x.1, val := x.2.1, born := x.2.2 }
structure Gm where
  es : List Ge
  ck : Nat
abbrev Gm.obj (ik : IntKind) (m : Gm) : Obj := .map (m.es.map (ge ik)).toArray m.ck
abbrev Gm.new : Gm := ⟨[], 0⟩
def Gm.has (m : Gm) (k : Int) : Bool := m.es.any (·.1 == k)
def Gm.get (m : Gm) (k : Int) : Option Value := (m.es.find? (·.1 == k)).map (·.2.1)
def Gm.put (m : Gm) (k : Int) (v : Value) : Gm := if m.has k then ⟨m.es.map fun x => if x.1 = k then (k, v, x.2.2) else x, m.ck⟩ else ⟨m.es ++ [(k, v, m.ck)], m.ck + 1⟩
def Gm.del (m : Gm) (k : Int) : Gm := ⟨m.es.filter fun x => x.1 != k, m.ck⟩
/-- The entry of a key, laid if it isn't there; and its stamp. -/
def Gm.ent (m : Gm) (k : Int) (z : Value) : Gm × Nat := match m.es.find? (·.1 == k) with | some x => (m, x.2.2) | none => (⟨m.es ++ [(k, z, m.ck)], m.ck + 1⟩, m.ck)
structure Gm.ok (m : Gm) : Prop where
  keys : (m.es.map (·.1)).Nodup
  born : (m.es.map (·.2.2)).Nodup
  lt : ∀ x ∈ m.es, x.2.2 < m.ck
theorem Gm.new_ok : Gm.new.ok := ⟨by simp, by simp, by simp⟩
theorem Gm.has_get (m : Gm) (k : Int) : m.has k = (m.get k).isSome := by
  unfold Gm.has Gm.get
  rw [Option.isSome_map, Bool.eq_iff_iff, List.any_eq_true, List.find?_isSome]
theorem map_self {α : Type} {f : α → α} {l : List α} (h : ∀ x ∈ l, f x = x) : l.map f = l := (List.map_congr_left h).trans (List.map_id _)
theorem Gm.get_put (m : Gm) (k j : Int) (v : Value) : (m.put k v).get j = if j = k then some v else m.get j := by
  unfold Gm.put
  split
  · rename_i hk
    unfold Gm.has at hk
    unfold Gm.get
    simp only
    generalize m.es = l at hk
    clear m
    induction l with
    | nil => simp at hk
    | cons x l ih =>
      simp only [List.map_cons]
      by_cases e : x.1 = k
      · rw [if_pos e]
        by_cases e2 : j = k
        · subst e2; simp
        · rw [if_neg e2, List.find?_cons_of_neg (by simpa using Ne.symm e2), List.find?_cons_of_neg (by rw [e]; simpa using Ne.symm e2)]
          by_cases hl : l.any (·.1 == k) = true
          · rw [ih hl, if_neg e2]
          · have : l.map (fun x => if x.1 = k then (k, v, x.2.2) else x) = l := by
              refine map_self ?_
              intro y hy
              rw [if_neg]
              intro h
              exact hl (List.any_eq_true.2 ⟨y, hy, by simpa using h⟩)
            rw [this]
      · rw [if_neg e]
        have hl : l.any (·.1 == k) = true := by simpa [e] using hk
        by_cases e2 : x.1 = j
        · rw [List.find?_cons_of_pos (by simpa using e2), List.find?_cons_of_pos (by simpa using e2), if_neg (by rw [← e2]; exact e)]
        · rw [List.find?_cons_of_neg (by simpa using e2), List.find?_cons_of_neg (by simpa using e2), ih hl]
  · rename_i hk
    unfold Gm.get
    simp only [List.find?_append]
    by_cases e : j = k
    · subst e
      have : m.es.find? (·.1 == j) = none := by
        rw [List.find?_eq_none]
        intro y hy h
        exact hk (List.any_eq_true.2 ⟨y, hy, h⟩)
      rw [this]; simp
    · rw [if_neg e, List.find?_cons_of_neg (by simpa using Ne.symm e)]
      simp
theorem Gm.get_del (m : Gm) (k j : Int) : (m.del k).get j = if j = k then none else m.get j := by
  unfold Gm.del Gm.get
  simp only
  by_cases e : j = k
  · subst e
    rw [if_pos rfl]
    have : (m.es.filter fun x => x.1 != j).find? (·.1 == j) = none := by
      rw [List.find?_eq_none]
      intro y hy h
      rw [List.mem_filter] at hy
      simp at hy h
      exact hy.2 h
    rw [this]; rfl
  · rw [if_neg e, List.find?_filter]
    congr 2
    funext y
    by_cases h : y.1 = j
    · have : y.1 ≠ k := by rw [h]; exact e
      simp [h, e]
    · simp [h]
theorem Gm.put_ok {m : Gm} (h : m.ok) (k : Int) (v : Value) : (m.put k v).ok := by
  unfold Gm.put
  split
  · refine ⟨?_, ?_, ?_⟩
    · simp only [List.map_map]
      rw [show ((fun x : Ge => x.1) ∘ fun x : Ge => if x.1 = k then (k, v, x.2.2) else x) = (fun x : Ge => x.1) from by
        funext x; simp only [Function.comp]; split
        · rename_i e; exact e.symm
        · rfl]
      exact h.keys
    · simp only [List.map_map]
      rw [show ((fun x : Ge => x.2.2) ∘ fun x : Ge => if x.1 = k then (k, v, x.2.2) else x) = (fun x : Ge => x.2.2) from by
        funext x; simp only [Function.comp]; split <;> rfl]
      exact h.born
    · intro x hx
      simp only [List.mem_map] at hx
      obtain ⟨y, hy, rfl⟩ := hx
      have := h.lt y hy
      split <;> exact this
  · rename_i hk
    refine ⟨?_, ?_, ?_⟩
    · simp only [List.map_append, List.map_cons, List.map_nil]
      rw [List.nodup_append]
      refine ⟨h.keys, by simp, ?_⟩
      intro a ha b hb e
      simp at hb
      subst hb; subst e
      obtain ⟨y, hy, e⟩ := List.mem_map.1 ha
      exact hk (List.any_eq_true.2 ⟨y, hy, by simpa using e⟩)
    · simp only [List.map_append, List.map_cons, List.map_nil]
      rw [List.nodup_append]
      refine ⟨h.born, by simp, ?_⟩
      intro a ha b hb e
      simp at hb
      subst hb; subst e
      obtain ⟨y, hy, e⟩ := List.mem_map.1 ha
      have := h.lt y hy
      omega
    · intro x hx
      simp only [List.mem_append, List.mem_singleton] at hx
      rcases hx with hx | rfl
      · have := h.lt x hx; simp only; omega
      · simp
theorem Gm.del_ok {m : Gm} (h : m.ok) (k : Int) : (m.del k).ok :=
  ⟨((List.filter_sublist (l := m.es)).map _).nodup h.keys, ((List.filter_sublist (l := m.es)).map _).nodup h.born, fun x hx => h.lt x (List.mem_filter.1 hx).1⟩
theorem Gm.put_len (m : Gm) (k : Int) (v : Value) : (m.put k v).es.length = if (m.get k).isSome then m.es.length else m.es.length + 1 := by
  rw [← m.has_get]
  unfold Gm.put
  split <;> simp
theorem Gm.del_len {m : Gm} (h : m.ok) (k : Int) : (m.del k).es.length = if (m.get k).isSome then m.es.length - 1 else m.es.length := by
  rw [← m.has_get]
  have hn := h.keys
  unfold Gm.del Gm.has
  simp only
  generalize m.es = l at hn
  clear h m
  induction l with
  | nil => simp
  | cons x l ih =>
    simp only [List.map_cons, List.nodup_cons] at hn
    by_cases e : x.1 = k
    · have : l.filter (fun x => x.1 != k) = l := by
        rw [List.filter_eq_self]
        intro y hy
        simp only [bne_iff_ne, ne_eq]
        intro h
        exact hn.1 (List.mem_map.2 ⟨y, hy, by rw [h, e]⟩)
      simp [e, this]
    · have hi := ih hn.2
      rw [List.filter_cons_of_pos (by simpa using e), List.length_cons, hi, List.any_cons]
      simp only [show (x.1 == k) = false from by simpa using e, Bool.false_or, List.length_cons]
      split
      · rename_i h
        obtain ⟨y, hy, _⟩ := List.any_eq_true.1 h
        have := List.length_pos_of_mem hy
        omega
      · rfl
/-! ### The machine's own look -/
theorem findNow_ge (ik : IntKind) (k : Int) : ∀ (es : List Ge) (i : Nat), Instr.findNow (.int ik) (.int ik k) (es.map (ge ik)) i = some ((es.findIdx? (·.1 == k)).map fun j => (i + j, ((es[j]?).map (·.2.1)).getD undef))
  | [], i => rfl
  | x :: es, i => by
    rw [List.map_cons, Instr.findNow]
    simp only [ge, Instr.sameNow, if_true]
    rw [List.findIdx?_cons]
    by_cases h : k = x.1
    · subst h; simp
    · rw [show (k == x.1) = false from by simpa using h, show (x.1 == k) = false from by simpa using Ne.symm h]
      simp only [Bool.false_eq_true, if_false]
      rw [findNow_ge ik k es (i + 1)]
      simp only [Option.map_map]
      congr 1
      congr 1
      funext j
      simp only [Function.comp]
      rw [show i + 1 + j = i + (j + 1) by omega]
      simp
theorem run_findKeyG {ik : IntKind} {kt : Nat} (hk : P.underlying kt = some (.int ik)) (es : List Ge) (k : Int) (w : World) :
    (Instr.findKey kt (.int ik k) (es.map (ge ik))).run P w = .ok ((es.findIdx? (·.1 == k)).map fun j => (j, ((es[j]?).map (·.2.1)).getD undef)) w := by
  unfold Instr.findKey
  rw [Sem.run_bind, run_underlying hk]
  simp only [Result.andThen_ok]
  rw [findNow_ge]
  simp
theorem run_checkKeyG {ik : IntKind} {kt : Nat} (hk : P.underlying kt = some (.int ik)) (b : Bool) (k : Int) (w : World) : (Instr.checkKey b 10000 kt (.int ik k)).run P w = .ok () w := by
  have key : ∀ m, (Instr.checkKey b (m + 1) kt (.int ik k)).run P w = .ok () w := by
    intro m
    unfold Instr.checkKey
    rw [Sem.run_bind, run_underlying hk]
    rfl
  exact key 9999
theorem find_idx (es : List Ge) (k : Int) : es.find? (·.1 == k) = (es.findIdx? (·.1 == k)).bind fun i => es[i]? := by
  induction es with
  | nil => rfl
  | cons x es ih =>
    rw [List.findIdx?_cons, List.find?_cons]
    split
    · rename_i h; simp [h]
    · rename_i h
      rw [ih]
      cases es.findIdx? (·.1 == k) <;> simp [h]
theorem y_lookupG {ik : IntKind} {kt et r : Nat} {m : Gm} {k : Int} {z : Value} (hx : ev E x = some (.map (some r))) (hy : ev E y = some (.int ik k)) (hu : P.underlying t = some (.map kt et)) (hk : P.underlying kt = some (.int ik)) (hz : zeroT P et = some z) (hs : Sees W r (m.obj ik)) :
    YV P n E W (.lookup t x y false) ty ((m.get k).getD z) := fun a w ha hw d ps af g => by
  have h := run_getMap (P := P) (hs w hw)
  have hr : (Instr.lookup t (.map (some r)) (.int ik k) false).run P w = .ok ((m.get k).getD z) w := by
    unfold Instr.lookup
    rw [Sem.run_bind, run_underlying hu]
    simp only [Result.andThen_ok, Sem.run_bind, h, Sem.run_pure, run_checkKeyG hk, run_findKeyG hk]
    unfold Gm.get
    rw [find_idx]
    cases hi : m.es.findIdx? (·.1 == k) with
    | none => simp [run_zeroValue hz]
    | some i =>
      obtain ⟨hlt, _⟩ := List.findIdx?_eq_some_iff_getElem.1 hi
      simp [hlt]
  simp only [execOp, ha.eval hx, ha.eval hy]
  rw [Sem.run_bind, hr]
  rfl
theorem y_lookupG2 {ik : IntKind} {kt et r : Nat} {m : Gm} {k : Int} {z : Value} (hx : ev E x = some (.map (some r))) (hy : ev E y = some (.int ik k)) (hu : P.underlying t = some (.map kt et)) (hk : P.underlying kt = some (.int ik)) (hz : zeroT P et = some z) (hs : Sees W r (m.obj ik)) :
    YV P n E W (.lookup t x y true) ty (.tuple #[(m.get k).getD z, .bool (m.get k).isSome]) := fun a w ha hw d ps af g => by
  have h := run_getMap (P := P) (hs w hw)
  have hr : (Instr.lookup t (.map (some r)) (.int ik k) true).run P w = .ok (.tuple #[(m.get k).getD z, .bool (m.get k).isSome]) w := by
    unfold Instr.lookup
    rw [Sem.run_bind, run_underlying hu]
    simp only [Result.andThen_ok, Sem.run_bind, h, Sem.run_pure, run_checkKeyG hk, run_findKeyG hk]
    unfold Gm.get
    rw [find_idx]
    cases hi : m.es.findIdx? (·.1 == k) with
    | none => simp [run_zeroValue hz]
    | some i =>
      obtain ⟨hlt, _⟩ := List.findIdx?_eq_some_iff_getElem.1 hi
      simp [hlt]
  simp only [execOp, ha.eval hx, ha.eval hy]
  rw [Sem.run_bind, hr]
  rfl
theorem op_makeMapG (ik : IntKind) (hd : dok d n = true) (k : ∀ b, K (put E d (.map (some b))) ([(b, Gm.new.obj ik)] :: H)) : OpW P n w0 Q ⟨d, .makeMap t none, ty, ps, af, g⟩ E H K := op_run hd fun a w ha hw => by
  refine ⟨.map (some w.heap.size), w.alloc (.map #[] 0), _, ?_, hw.alloc _, k _⟩
  rfl
theorem modify_key {ik : IntKind} {es : List Ge} {k : Int} {i : Nat} (hn : (es.map (·.1)).Nodup) (h : es.findIdx? (·.1 == k) = some i) (e : MapEntry → MapEntry) (f : Ge → Ge) (he : ∀ x : Ge, x.1 = k → e (ge ik x) = ge ik (f x)) : (es.map (ge ik)).toArray.modify i e = ((es.map fun x => if x.1 = k then f x else x).map (ge ik)).toArray := by
  obtain ⟨hi, hp, _⟩ := List.findIdx?_eq_some_iff_getElem.1 h
  have hpk : es[i].1 = k := by simpa using hp
  apply Array.ext
  · simp
  · intro j h1 h2
    rw [Array.getElem_modify]
    simp only [List.getElem_toArray, List.getElem_map]
    have hj : j < es.length := by simpa using h1
    split
    · rename_i e2
      subst e2
      rw [if_pos hpk, he _ hpk]
    · rename_i e2
      rw [if_neg]
      intro hk
      have : (es.map (·.1))[i]'(by simpa using hi) = (es.map (·.1))[j]'(by simpa using hj) := by simp [hpk, hk]
      exact e2 ((List.getElem_inj hn).1 this)
theorem same_bits (ik : IntKind) (k : Int) : Instr.sameBits 10000 (Value.int ik k) (Value.int ik k) = true := by simp [Instr.sameBits]
theorem op_mapUpdateG {ik : IntKind} {kt et r : Nat} {m : Gm} {k : Int} {v : Operand} {u : Value} (s j : Nat) (hx : ev E x = some (.map (some r))) (hy : ev E y = some (.int ik k)) (hv : ev E v = some u) (hu : P.underlying t = some (.map kt et)) (hk : P.underlying kt = some (.int ik)) (ho : m.ok)
    (hH : getH H s j = some (r, m.obj ik)) (hd : dok d n = true) (kk : K (put E d undef) (setH H s j ((m.put k u).obj ik))) :
    OpW P n w0 Q ⟨d, .mapUpdate t x y v, ty, ps, af, g⟩ E H K := op_runs hd fun a w ha hw => by
  have h := hw.has _ (getH_mem hH)
  have hg := run_getMap (P := P) h
  refine ⟨_, _, ?_, hw.putB hH _, kk⟩
  have hset : ∀ o, (setObj r o).run P w = .ok () (putB w r o) := fun o => run_setMap h o
  have hr : (Instr.mapUpdate t (.map (some r)) (.int ik k) u).run P w = .ok () (putB w r ((m.put k u).obj ik)) := by
    unfold Instr.mapUpdate
    rw [Sem.run_bind, run_underlying hu]
    simp only [Result.andThen_ok, Sem.run_bind, hg, run_checkKeyG hk, run_findKeyG hk]
    have hhas : m.has k = (m.es.findIdx? (·.1 == k)).isSome := by simp [Gm.has, List.findIdx?_isSome]
    cases hi : m.es.findIdx? (·.1 == k) with
    | none =>
      have hf : m.has k = false := by rw [hhas, hi]; rfl
      simp only [Option.map_none, hset, Gm.put, hf, Bool.false_eq_true, if_false]
      congr 2
      simp [ge]
    | some i =>
      have hf : m.has k = true := by rw [hhas, hi]; rfl
      obtain ⟨hlt, hp, _⟩ := List.findIdx?_eq_some_iff_getElem.1 hi
      have hke : (m.es[i]).1 = k := by simpa using hp
      have hkey : ((((m.es.map (ge ik)).toArray[i]?).map (·.key)).getD (Value.int ik k)) = .int ik k := by
        simp [hlt, ge, hke]
      simp only [Option.map_some, Sem.run_bind, hkey, Instr.keyThatStays]
      rw [same_bits]
      simp only [if_true, Sem.run_pure, Result.andThen_ok, hset, Gm.put, hf]
      congr 2
      rw [modify_key (f := fun x => (k, u, x.2.2)) ho.keys hi]
      intro x hxk
      simp [ge]
  simp only [execOp, ha.eval hx, ha.eval hy, ha.eval hv]
  rw [Sem.run_bind, hr]
  rfl
/-! ### Ranged over -/
def itO (bm since : Nat) (seen : Array Nat) (c0 : Nat) : Obj := .mapIter (some bm) since seen c0
/-- What is left. -/
def Gm.left (m : Gm) (seen : Array Nat) : List Ge := m.es.filter fun x => !seen.contains x.2.2
theorem Gm.left_of (ik : IntKind) (m : Gm) (seen : Array Nat) : (leftOf (m.es.map (ge ik)).toArray seen).toList = (m.left seen).map (ge ik) := by
  unfold leftOf Gm.left
  rw [Array.toList_filter, List.filter_map]
  rfl
theorem op_rangeG {ik : IntKind} {kt et r : Nat} {m : Gm} (hx : ev E x = some (.map (some r))) (hu : P.underlying t = some (.map kt et)) (s j : Nat) (hH : getH H s j = some (r, m.obj ik)) (hd : dok d n = true)
    (k : ∀ b, K (put E d (.pointer (some ⟨b, 0, none⟩))) ([(b, itO r m.ck #[] m.ck)] :: H)) : OpW P n w0 Q ⟨d, .range t x, ty, ps, af, g⟩ E H K := op_run hd fun a w ha hw => by
  have h := hw.has _ (getH_mem hH)
  refine ⟨_, _, _, ?_, hw.alloc (itO r m.ck #[] m.ck), k _⟩
  have hr := run_range_map (P := P) w t kt et r (m.es.map (ge ik)).toArray m.ck hu h
  simp only [execOp, ha.eval hx]
  rw [Sem.run_bind, hr]
  rfl
theorem op_nextG {ik : IntKind} {b r since c0 : Nat} {seen : Array Nat} {m : Gm} (s j s2 j2 : Nat) (hx : ev E x = some (.pointer (some ⟨b, 0, none⟩))) (hi : getH H s j = some (b, itO r since seen c0)) (hm : getH H s2 j2 = some (r, m.obj ik)) (hold : ∀ x ∈ m.es, x.2.2 < since) (hsc : since ≤ c0) (hd : dok d n = true)
    (k0 : m.left seen = [] → K (put E d (.tuple #[.bool false])) H)
    (k1 : ∀ e ∈ m.left seen, K (put E d (.tuple #[.bool true, .int ik e.1, e.2.1])) (setH H s j (itO r since (seen.push e.2.2) m.ck))) : OpW P n w0 Q ⟨d, .next x false, ty, ps, af, g⟩ E H K := op_run hd fun a w ha hw => by
  have h1 := hw.has _ (getH_mem hi)
  have h2 := hw.has _ (getH_mem hm)
  rcases run_next_at (P := P) w ty b r since c0 seen (m.es.map (ge ik)).toArray m.ck h1 h2 (fun x hx => by
    simp only [List.mem_map] at hx
    obtain ⟨y, hy, rfl⟩ := hx
    exact hold y hy) hsc with ⟨h0, hr⟩ | ⟨e, he, w1, hw1, hr⟩
  · refine ⟨_, _, _, ?_, hw, k0 ?_⟩
    · simp only [execOp, ha.eval hx]
      rw [Sem.run_bind, hr]
      rfl
    · have := m.left_of ik seen
      rw [Array.eq_empty_of_size_eq_zero h0] at this
      simpa using this.symm
  · rw [m.left_of ik seen] at he
    obtain ⟨q, hq, rfl⟩ := List.mem_map.1 he
    have s1 : St w0 w1 H := by rcases hw1 with rfl | rfl; exact hw; exact hw.drew
    refine ⟨_, _, _, ?_, s1.putB hi (itO r since (seen.push q.2.2) m.ck), k1 q hq⟩
    simp only [execOp, ha.eval hx]
    rw [Sem.run_bind, hr]
    rfl
theorem Gm.left_new (m : Gm) : m.left #[] = m.es := by
  unfold Gm.left
  rw [List.filter_eq_self]
  intro x hx
  simp
theorem Gm.left_mem {m : Gm} {seen : Array Nat} {e : Ge} (h : e ∈ m.left seen) : e ∈ m.es := (List.mem_filter.1 h).1
theorem Gm.left_push {m : Gm} (ho : m.ok) {seen : Array Nat} {e : Ge} (h : e ∈ m.left seen) : (m.left seen).Perm (e :: m.left (seen.push e.2.2)) := by
  have hn : ((m.left seen).map (·.2.2)).Nodup := ((List.filter_sublist (l := m.es)).map _).nodup ho.born
  have e1 : m.left (seen.push e.2.2) = (m.left seen).filter fun x => x.2.2 != e.2.2 := by
    unfold Gm.left
    rw [List.filter_filter]
    congr 1
    funext x
    rw [Array.contains_push]
    by_cases hx : x.2.2 = e.2.2
    · simp [hx]
    · by_cases hs : x.2.2 ∈ seen <;> simp [hx, hs, bne]
  rw [e1]
  generalize m.left seen = l at h hn
  clear e1
  induction l with
  | nil => cases h
  | cons x l ih =>
    simp only [List.map_cons, List.nodup_cons] at hn
    rcases List.mem_cons.1 h with rfl | h
    · rw [List.filter_cons_of_neg (by simp)]
      have : l.filter (fun x => x.2.2 != e.2.2) = l := by
        rw [List.filter_eq_self]
        intro y hy
        simp only [bne_iff_ne, ne_eq]
        intro hh
        exact hn.1 (List.mem_map.2 ⟨y, hy, hh⟩)
      rw [this]
    · have hne : x.2.2 ≠ e.2.2 := fun hh => hn.1 (List.mem_map.2 ⟨e, h, hh.symm⟩)
      rw [List.filter_cons_of_pos (by simpa using hne)]
      exact ((ih h hn.2).cons x).trans (List.Perm.swap _ _ _)
theorem y_entryG {ik : IntKind} {b r since : Nat} {seen : Array Nat} {m : Gm} {e : Ge} (hx : ev E x = some (.pointer (some ⟨b, 0, none⟩))) (hi : Sees W b (itO r since (seen.push e.2.2) m.ck)) (hm : Sees W r (m.obj ik)) (ho : m.ok) (he : e ∈ m.es) :
    YV P n E W (.entry x) ty (.tuple #[.int ik e.1, e.2.1]) := fun a w ha hw d ps af g => by
  have hr := run_entry_at (P := P) w b r since seen (m.es.map (ge ik)).toArray m.ck (ge ik e) (hi w hw) (hm w hw) (by simpa using List.mem_map.2 ⟨e, he, rfl⟩) (by simpa [Function.comp_def, ge] using ho.born)
  simp only [execOp, ha.eval hx]
  rw [Sem.run_bind, hr]
  rfl
theorem y_lenG {ik : IntKind} {r : Nat} {kt et : Nat} {m : Gm} {tys : Array TypeId} (hx : ev E x = some (.map (some r))) (h0 : tys[0]? = some t) (hu : P.underlying t = some (.map kt et)) (hs : Sees W r (m.obj ik)) :
    YV P n E W (.call { callee := .builtin .len, args := [x].toArray, argTypes := tys }) ty (.int .i64 (m.es.length : Int)) := by
  have := y_lenM (P := P) (n := n) (E := E) (W := W) (x := x) (ty := ty) (es := (m.es.map (ge ik)).toArray) (ck := m.ck) hx h0 hu hs
  simpa using this
end Go.Sl

/- Numbers and where they lie, as a rising list (own work). -/
set_option linter.unusedVariables false
set_option linter.unusedSimpArgs false
namespace Go.Sl
/-- May a shape be? -/
def mayG (segs size : Int) : Bool := decide (3 ≤ segs) && decide (segs ≤ 64) && decide (1 ≤ size) && decide (size ≤ 32)
theorem mayG_spec {segs size : Int} (h : mayG segs size = true) : 3 ≤ segs ∧ segs ≤ 64 ∧ 1 ≤ size ∧ size ≤ 32 := by
  unfold mayG at h
  simp at h
  exact ⟨h.1.1.1, h.1.1.2, h.1.2, h.2⟩
def nsec (segs size : Int) : Int := if mayG segs size then 2 + segs * size else 0
/-- The segment of a sector. -/
def ofS (segs size at_ : Int) : Option Int := if mayG segs size && decide (2 ≤ at_) && decide (at_ < 2 + segs * size) then some ((at_ - 2) / size) else none
theorem ofS_spec {segs size at_ s : Int} (h : ofS segs size at_ = some s) : mayG segs size = true ∧ 2 ≤ at_ ∧ at_ < 2 + segs * size ∧ s = (at_ - 2) / size ∧ 0 ≤ s ∧ s < segs := by
  unfold ofS at h
  split at h
  · rename_i hc
    simp at hc
    have hs := mayG_spec hc.1.1
    refine ⟨hc.1.1, hc.1.2, hc.2, (Option.some.inj h).symm, ?_, ?_⟩
    · rw [← Option.some.inj h]
      exact Int.ediv_nonneg (by omega) (by omega)
    · rw [← Option.some.inj h]
      exact Int.ediv_lt_of_lt_mul (by omega) (by omega)
  · cases h
/-- Numbers, each with its sector. -/
abbrev Xl := List (Nat × Int)
def xfind (l : Xl) (k : Int) : Option Int := (l.find? fun x => (x.1 : Int) == k).map (·.2)
def xins (l : Xl) (n : Nat) (a : Int) : Xl := match l with
  | [] => [(n, a)]
  | x :: l => if n < x.1 then (n, a) :: x :: l else x :: xins l n a
def xdel (l : Xl) (n : Nat) : Xl := l.filter fun x => x.1 != n
def Xs (l : Xl) : Prop := l.Pairwise fun x y => x.1 < y.1
def cnt18 (segs size : Int) (l : Xl) (s : Int) : Nat := (l.filter fun x => ofS segs size x.2 == some s).length
def xnums (segs size : Int) (l : Xl) (s : Int) : List Nat := (l.filter fun x => ofS segs size x.2 == some s).map (·.1)
theorem xfind_ins {l : Xl} {n : Nat} {a : Int} (h : xfind l n = none) (k : Int) : xfind (xins l n a) k = if k = n then some a else xfind l k := by
  induction l with
  | nil =>
    unfold xins xfind
    by_cases e : k = n
    · simp [e]
    · rw [if_neg e, List.find?_cons_of_neg (by simpa using Ne.symm e)]
  | cons x l ih =>
    have hx : ¬ (x.1 : Int) = n := by
      intro e
      unfold xfind at h
      rw [List.find?_cons_of_pos (by simpa using e)] at h
      cases h
    have hl : xfind l n = none := by
      unfold xfind at h ⊢
      rw [List.find?_cons_of_neg (by simpa using hx)] at h
      exact h
    unfold xins
    split
    · by_cases e : k = n
      · rw [if_pos e]; unfold xfind; rw [List.find?_cons_of_pos (by simpa using e.symm)]; rfl
      · rw [if_neg e]; unfold xfind; rw [List.find?_cons_of_neg (by simpa using Ne.symm e)]
    · have := ih hl
      unfold xfind at this ⊢
      by_cases e : (x.1 : Int) = k
      · rw [List.find?_cons_of_pos (by simpa using e), List.find?_cons_of_pos (by simpa using e), if_neg (by rw [← e]; exact hx)]
      · rw [List.find?_cons_of_neg (by simpa using e), List.find?_cons_of_neg (by simpa using e)]
        exact this
theorem xfind_del (l : Xl) (n : Nat) (k : Int) : xfind (xdel l n) k = if k = n then none else xfind l k := by
  unfold xfind xdel
  rw [List.find?_filter]
  by_cases e : k = n
  · rw [if_pos e]
    have : l.find? (fun a => decide ((a.1 != n) = true ∧ ((a.1 : Int) == k) = true)) = none := by
      rw [List.find?_eq_none]
      intro x hx
      subst e
      by_cases h : x.1 = n
      · simp [h]
      · have : ¬ (x.1 : Int) = (n : Int) := by omega
        simp [this]
    rw [this]; rfl
  · rw [if_neg e]
    congr 2
    funext x
    by_cases h : (x.1 : Int) = k
    · have : x.1 ≠ n := by omega
      simp [h, this]
    · simp [h]
theorem xins_mem {l : Xl} {n : Nat} {a : Int} {x : Nat × Int} : x ∈ xins l n a ↔ x = (n, a) ∨ x ∈ l := by
  induction l with
  | nil => simp [xins]
  | cons y l ih =>
    unfold xins
    split
    · simp
    · simp only [List.mem_cons, ih]
      constructor
      · rintro (h | h | h)
        · exact .inr (.inl h)
        · exact .inl h
        · exact .inr (.inr h)
      · rintro (h | h | h)
        · exact .inr (.inl h)
        · exact .inl h
        · exact .inr (.inr h)
theorem xins_s {l : Xl} {n : Nat} {a : Int} (h : Xs l) (hn : xfind l n = none) : Xs (xins l n a) := by
  induction l with
  | nil => simp [xins, Xs]
  | cons x l ih =>
    unfold Xs at h
    rw [List.pairwise_cons] at h
    have hx : ¬ (x.1 : Int) = n := by
      intro e
      unfold xfind at hn
      rw [List.find?_cons_of_pos (by simpa using e)] at hn
      cases hn
    have hl : xfind l n = none := by
      unfold xfind at hn ⊢
      rw [List.find?_cons_of_neg (by simpa using hx)] at hn
      exact hn
    unfold xins Xs
    split
    · rename_i hlt
      rw [List.pairwise_cons, List.pairwise_cons]
      refine ⟨?_, h.1, h.2⟩
      intro y hy
      rcases List.mem_cons.1 hy with rfl | hy
      · exact hlt
      · have := h.1 y hy; simp only at *; omega
    · rename_i hlt
      rw [List.pairwise_cons]
      refine ⟨?_, ih h.2 hl⟩
      intro y hy
      rcases xins_mem.1 hy with rfl | hy
      · simp only; omega
      · exact h.1 y hy
theorem xdel_s {l : Xl} {n : Nat} (h : Xs l) : Xs (xdel l n) := h.sublist List.filter_sublist
theorem xins_len (l : Xl) (n : Nat) (a : Int) : (xins l n a).length = l.length + 1 := by
  induction l with
  | nil => rfl
  | cons x l ih => unfold xins; split <;> simp [ih]
theorem xins_cnt (segs size : Int) (l : Xl) (n : Nat) (a s : Int) : cnt18 segs size (xins l n a) s = cnt18 segs size l s + if ofS segs size a = some s then 1 else 0 := by
  unfold cnt18
  induction l with
  | nil => unfold xins; by_cases e : ofS segs size a = some s <;> simp [e]
  | cons x l ih =>
    unfold xins
    split
    · by_cases e : ofS segs size a = some s
      · rw [List.filter_cons_of_pos (by simpa using e), if_pos e]; simp
      · rw [List.filter_cons_of_neg (by simpa using e), if_neg e]; simp
    · by_cases e : ofS segs size x.2 = some s
      · rw [List.filter_cons_of_pos (by simpa using e), List.filter_cons_of_pos (by simpa using e), List.length_cons, List.length_cons, ih]; omega
      · rw [List.filter_cons_of_neg (by simpa using e), List.filter_cons_of_neg (by simpa using e), ih]
theorem xfind_mem {l : Xl} (h : Xs l) {k : Nat} {a : Int} : xfind l k = some a ↔ (k, a) ∈ l := by
  unfold xfind
  constructor
  · intro e
    cases hf : l.find? (fun x => (x.1 : Int) == k) with
    | none => rw [hf] at e; cases e
    | some q =>
      rw [hf] at e
      have h1 := List.mem_of_find?_eq_some hf
      have h2 := List.find?_some hf
      simp at h2 e
      obtain ⟨q1, q2⟩ := q
      simp only at h2 e
      have : q1 = k := by omega
      subst this; subst e
      exact h1
  · intro hm
    induction l with
    | nil => cases hm
    | cons x l ih =>
      unfold Xs at h
      rw [List.pairwise_cons] at h
      rcases List.mem_cons.1 hm with rfl | hm
      · rw [List.find?_cons_of_pos (by simp)]; rfl
      · have := h.1 _ hm
        simp only at this
        rw [List.find?_cons_of_neg (by simp; omega)]
        exact ih h.2 hm
theorem xdel_cnt {segs size : Int} {l : Xl} (h : Xs l) {n : Nat} {a : Int} (hf : xfind l n = some a) (s : Int) : cnt18 segs size (xdel l n) s + (if ofS segs size a = some s then 1 else 0) = cnt18 segs size l s := by
  have hm := (xfind_mem h).1 hf
  clear hf
  unfold cnt18 xdel
  induction l with
  | nil => cases hm
  | cons x l ih =>
    unfold Xs at h
    rw [List.pairwise_cons] at h
    rcases List.mem_cons.1 hm with rfl | hm
    · rw [List.filter_cons_of_neg (by simp)]
      have : l.filter (fun x => x.1 != n) = l := by
        rw [List.filter_eq_self]
        intro y hy
        have := h.1 y hy
        simp only at this
        simp; omega
      rw [this]
      by_cases e : ofS segs size a = some s
      · rw [if_pos e, List.filter_cons_of_pos (by simpa using e)]; simp
      · rw [if_neg e, List.filter_cons_of_neg (by simpa using e)]; rfl
    · have hlt := h.1 _ hm
      simp only at hlt
      rw [List.filter_cons_of_pos (by simp; omega)]
      have := ih h.2 hm
      by_cases e : ofS segs size x.2 = some s
      · rw [List.filter_cons_of_pos (by simpa using e), List.filter_cons_of_pos (by simpa using e), List.length_cons, List.length_cons]; omega
      · rw [List.filter_cons_of_neg (by simpa using e), List.filter_cons_of_neg (by simpa using e)]; exact this
theorem xdel_len {l : Xl} (h : Xs l) {n : Nat} {a : Int} (hf : xfind l n = some a) : (xdel l n).length + 1 = l.length := by
  have hm := (xfind_mem h).1 hf
  clear hf
  unfold xdel
  induction l with
  | nil => cases hm
  | cons x l ih =>
    unfold Xs at h
    rw [List.pairwise_cons] at h
    rcases List.mem_cons.1 hm with rfl | hm
    · rw [List.filter_cons_of_neg (by simp)]
      have : l.filter (fun x => x.1 != n) = l := by
        rw [List.filter_eq_self]
        intro y hy
        have := h.1 y hy
        simp only at this
        simp; omega
      rw [this]; rfl
    · have hlt := h.1 _ hm
      simp only at hlt
      rw [List.filter_cons_of_pos (by simp; omega), List.length_cons, List.length_cons, ih h.2 hm]
theorem cnt_le (segs size : Int) (l : Xl) (s : Int) : cnt18 segs size l s ≤ l.length := List.length_filter_le _ _
theorem nums_len (segs size : Int) (l : Xl) (s : Int) : (xnums segs size l s).length = cnt18 segs size l s := by unfold xnums cnt18; simp
/-- The document's deeds. -/
def xput (segs size : Int) (l : Xl) (n : Nat) (a : Int) (mv : Bool) : Xl × Int :=
  if n = 0 then (l, 1) else if ofS segs size a = none then (l, 2) else match xfind l n with
  | some _ => if mv then (xins (xdel l n) n a, 0) else (l, 5)
  | none => if mv then (l, 4) else (xins l n a, 0)
def xdrop (l : Xl) (n : Nat) : Xl × Int := match xfind l n with
  | some _ => (xdel l n, 0)
  | none => (l, 4)
/-! ### The program's own two maps -/
structure Xm (segs size : Int) (l : Xl) (A L : Gm) : Prop where
  okA : A.ok
  okL : L.ok
  get : ∀ k : Int, A.get k = (xfind l k).map (Value.int .i64)
  liv : ∀ s : Int, (L.get s).getD (.int .i64 0) = .int .i64 (cnt18 segs size l s : Int)
  len : A.es.length = l.length
  s : Xs l
  valid : ∀ x ∈ l, 0 < x.1 ∧ x.1 < 18446744073709551616 ∧ ofS segs size x.2 ≠ none
theorem Xm.new (segs size : Int) : Xm segs size [] Gm.new Gm.new :=
  ⟨Gm.new_ok, Gm.new_ok, fun k => rfl, fun s => rfl, rfl, List.Pairwise.nil, fun x hx => by cases hx⟩
section
variable {segs size : Int} {l : Xl} {A L : Gm} {n : Nat} {a b s t : Int}
theorem Xm.put (h : Xm segs size l A L) (h0 : n ≠ 0) (hM : n < 18446744073709551616) (hf : xfind l n = none) (ho : ofS segs size a = some s) :
    Xm segs size (xins l n a) (A.put n (.int .i64 a)) (L.put s (.int .i64 (cnt18 segs size l s + 1 : Int))) where
  okA := Gm.put_ok h.okA _ _
  okL := Gm.put_ok h.okL _ _
  get k := by
    rw [Gm.get_put, xfind_ins hf, h.get]
    by_cases e : k = n
    · rw [if_pos e, if_pos e]; rfl
    · rw [if_neg e, if_neg e]
  liv j := by
    rw [Gm.get_put, xins_cnt, ho]
    by_cases e : j = s
    · subst e; rw [if_pos rfl, if_pos rfl]; simp
    · rw [if_neg e, if_neg (fun hh => e (Option.some.inj hh).symm), h.liv]; simp
  len := by rw [Gm.put_len, xins_len, h.get, hf, h.len]; rfl
  s := xins_s h.s hf
  valid x hx := by
    rcases xins_mem.1 hx with rfl | hx
    · exact ⟨Nat.pos_of_ne_zero h0, hM, by rw [ho]; simp⟩
    · exact h.valid x hx
theorem Xm.drop (h : Xm segs size l A L) (hf : xfind l n = some b) (ho : ofS segs size b = some t) :
    Xm segs size (xdel l n) (A.del n) (L.put t (.int .i64 (cnt18 segs size l t - 1 : Int))) where
  okA := Gm.del_ok h.okA _
  okL := Gm.put_ok h.okL _ _
  get k := by
    rw [Gm.get_del, xfind_del, h.get]
    by_cases e : k = n
    · rw [if_pos e, if_pos e]; rfl
    · rw [if_neg e, if_neg e]
  liv j := by
    have hc := xdel_cnt (segs := segs) (size := size) h.s hf j
    rw [ho] at hc
    rw [Gm.get_put]
    by_cases e : j = t
    · subst e
      rw [if_pos rfl] at hc ⊢
      simp only [Option.getD_some]
      congr 1
      omega
    · rw [if_neg (fun hh => e (Option.some.inj hh).symm)] at hc
      rw [if_neg e, h.liv, ← hc]; simp
  len := by
    have := xdel_len h.s hf
    rw [Gm.del_len h.okA, h.get, hf, h.len]
    simp <;> omega
  s := xdel_s h.s
  valid x hx := h.valid x (List.mem_filter.1 hx).1
theorem Xm.move (h : Xm segs size l A L) (hf : xfind l n = some b) (hb : ofS segs size b = some t) (ho : ofS segs size a = some s) {c : Int} (hc : c = cnt18 segs size l s - (if s = t then 1 else 0)) :
    Xm segs size (xins (xdel l n) n a) (A.put n (.int .i64 a)) ((L.put t (.int .i64 (cnt18 segs size l t - 1 : Int))).put s (.int .i64 (c + 1))) where
  okA := Gm.put_ok h.okA _ _
  okL := Gm.put_ok (Gm.put_ok h.okL _ _) _ _
  get k := by
    rw [Gm.get_put, xfind_ins (by rw [xfind_del, if_pos rfl]), xfind_del, h.get]
    by_cases e : k = n
    · rw [if_pos e, if_pos e]; rfl
    · rw [if_neg e, if_neg e, if_neg e]
  liv j := by
    have hd := xdel_cnt (segs := segs) (size := size) h.s hf j
    rw [hb] at hd
    rw [Gm.get_put, Gm.get_put, xins_cnt, ho]
    by_cases e : j = s
    · subst e
      rw [if_pos rfl, if_pos rfl, hc]
      simp only [Option.getD_some]
      congr 1
      by_cases e2 : j = t
      · subst e2; rw [if_pos rfl] at hd; rw [if_pos rfl]; omega
      · rw [if_neg (fun hh => e2 (Option.some.inj hh).symm)] at hd; rw [if_neg e2]; omega
    · rw [if_neg e, if_neg (fun hh => e (Option.some.inj hh).symm)]
      by_cases e2 : j = t
      · subst e2
        rw [if_pos rfl] at hd ⊢
        simp only [Option.getD_some]
        congr 1
        omega
      · rw [if_neg (fun hh => e2 (Option.some.inj hh).symm)] at hd
        rw [if_neg e2, h.liv, ← hd] <;> simp
  len := by
    have := xdel_len h.s hf
    rw [Gm.put_len, xins_len, h.get, hf, h.len]
    simp <;> omega
  s := xins_s (xdel_s h.s) (by rw [xfind_del, if_pos rfl])
  valid x hx := by
    rcases xins_mem.1 hx with rfl | hx
    · have := h.valid _ ((xfind_mem h.s).1 hf)
      exact ⟨this.1, this.2.1, by rw [ho]; simp⟩
    · exact h.valid x (List.mem_filter.1 hx).1
end
theorem ofS_some {segs size : Int} {l : Xl} {A L : Gm} (h : Xm segs size l A L) {n : Nat} {b : Int} (hf : xfind l n = some b) : ∃ t, ofS segs size b = some t := by
  have := (h.valid _ ((xfind_mem h.s).1 hf)).2.2
  cases e : ofS segs size b with
  | none => exact absurd e this
  | some t => exact ⟨t, rfl⟩
/-- The entries, told as the list. -/
def xpair (x : Nat × Int) : Int × Value := ((x.1 : Int), .int .i64 x.2)
theorem perm_nodup {α : Type} : ∀ {l1 l2 : List α}, l1.Nodup → l2.Nodup → (∀ a, a ∈ l1 ↔ a ∈ l2) → l1.Perm l2
  | [], l2, _, _, h => by
    cases l2 with
    | nil => exact .nil
    | cons b l2 => exact absurd ((h b).2 (List.mem_cons_self ..)) (by simp)
  | a :: l1, l2, n1, n2, h => by
    obtain ⟨s, t, rfl⟩ := List.append_of_mem ((h a).1 (List.mem_cons_self ..))
    rw [List.nodup_cons] at n1
    have n3 : (a :: (s ++ t)).Nodup := (List.perm_middle).nodup_iff.1 n2
    rw [List.nodup_cons] at n3
    refine (List.Perm.cons a (perm_nodup n1.2 n3.2 fun x => ?_)).trans List.perm_middle.symm
    constructor
    · intro hx
      have := (h x).1 (List.mem_cons_of_mem _ hx)
      have hne : x ≠ a := fun e => n1.1 (e ▸ hx)
      simp only [List.mem_append, List.mem_cons] at this ⊢
      rcases this with h | h | h
      · exact .inl h
      · exact absurd h hne
      · exact .inr h
    · intro hx
      have : x ∈ s ++ a :: t := by
        simp only [List.mem_append, List.mem_cons] at hx ⊢
        rcases hx with h | h
        · exact .inl h
        · exact .inr (.inr h)
      have := (h x).2 this
      have hne : x ≠ a := fun e => n3.1 (e ▸ hx)
      exact (List.mem_cons.1 this).resolve_left hne
theorem Gm.get_mem {m : Gm} (h : m.ok) {k : Int} {v : Value} : m.get k = some v ↔ (k, v) ∈ m.es.map fun x => (x.1, x.2.1) := by
  have hn := h.keys
  unfold Gm.get
  generalize m.es = l at hn
  induction l with
  | nil => simp
  | cons x l ih =>
    simp only [List.map_cons, List.nodup_cons] at hn
    by_cases e : x.1 = k
    · rw [List.find?_cons_of_pos (by simpa using e)]
      simp only [Option.map_some, Option.some.injEq, List.map_cons, List.mem_cons, Prod.mk.injEq]
      constructor
      · intro hv; exact .inl ⟨e.symm, hv.symm⟩
      · rintro (⟨_, hv⟩ | hm)
        · exact hv.symm
        · obtain ⟨y, hy, ey⟩ := List.mem_map.1 hm
          simp only [Prod.mk.injEq] at ey
          exact absurd (List.mem_map.2 ⟨y, hy, by rw [ey.1, e]⟩) hn.1
    · rw [List.find?_cons_of_neg (by simpa using e)]
      refine (ih hn.2).trans ?_
      simp only [List.map_cons, List.mem_cons, Prod.mk.injEq]
      constructor
      · exact .inr
      · rintro (⟨hk, _⟩ | hm)
        · exact absurd hk.symm e
        · exact hm
theorem Xm.perm {segs size : Int} {l : Xl} {A L : Gm} (h : Xm segs size l A L) : (A.es.map fun x => (x.1, x.2.1)).Perm (l.map xpair) := by
  refine perm_nodup ?_ ?_ ?_
  · have : ((A.es.map fun x => (x.1, x.2.1)).map (·.1)).Nodup := by rw [List.map_map]; exact h.okA.keys
    exact List.Pairwise.of_map (·.1) (fun a b hab e => hab (by rw [e])) this
  · have : (l.map fun x => x.1).Pairwise (· < ·) := by rw [List.pairwise_map]; exact h.s
    have h2 : (l.map xpair).Pairwise fun x y => x.1 < y.1 := by
      rw [List.pairwise_map]
      exact h.s.imp fun hxy => by simp only [xpair]; omega
    exact h2.imp fun hab e => by rw [e] at hab; exact absurd hab (by omega)
  · rintro ⟨k, v⟩
    rw [← Gm.get_mem h.okA, h.get]
    constructor
    · intro e
      cases hf : xfind l k with
      | none => rw [hf] at e; cases e
      | some a =>
        rw [hf] at e
        have hk : ∃ n : Nat, k = n := by
          unfold xfind at hf
          cases hq : l.find? (fun x => (x.1 : Int) == k) with
          | none => rw [hq] at hf; cases hf
          | some q =>
            have := List.find?_some hq
            exact ⟨q.1, by simp at this; exact this.symm⟩
        obtain ⟨n, rfl⟩ := hk
        have := (xfind_mem h.s).1 hf
        exact List.mem_map.2 ⟨(n, a), this, by simp only [xpair]; rw [← Option.some.inj e]⟩
    · intro hm
      obtain ⟨⟨n, a⟩, hx, e⟩ := List.mem_map.1 hm
      simp only [xpair, Prod.mk.injEq] at e
      obtain ⟨rfl, rfl⟩ := e
      rw [(xfind_mem h.s).2 hx]; rfl
end Go.Sl

/- Devices and their power: what lies in memory, and the plain model (own work). -/
set_option linter.unusedVariables false
set_option linter.unusedSimpArgs false
namespace Go.Sl
/-- The seat's own numbers of the types, and of the method 'cut'. -/
structure DT where
  dev : Nat
  sec : Nat
  wr : Nat
  fn : Nat
  pow : Nat
  cut : Nat
abbrev ptr (b : Nat) : Value := .pointer (some ⟨b, 0, none⟩)
abbrev Sec := List UInt8
/-- What a device is. -/
structure Ab where
  S : List Sec
  Q : List (Nat × Sec)
  kept : Nat
  bytes : Nat
  lies : Bool
  out : Bool
structure Dv where
  b : Nat
  st : Nat
  pw : Nat
  g : Option SlG
  a : Ab
structure Pa where
  off : Bool
  left : Int
  fails : Bool
structure Pw where
  b : Nat
  g : Option SlG
  devs : List Nat
  a : Pa
def wcs (Q : List (Nat × Sec)) : List Value := Q.flatMap fun x => .int .i64 (x.1 : Int) :: bs x.2
def clos (t : DT) (b : Nat) : Value := .func (.func t.cut) #[ptr b] #[]
abbrev Dv.cells (d : Dv) : List Value := [ptr d.pw, .slice (some ⟨d.st, 0, none⟩) d.a.S.length d.a.S.length, slV d.g d.a.Q.length, .int .i64 (d.a.kept : Int), .int .i64 (d.a.bytes : Int), .bool d.a.lies, .bool d.a.out]
abbrev Dv.o (t : DT) (d : Dv) : List (Nat × Obj) := [(d.b, .cells d.cells.toArray t.dev)]
abbrev Dv.t (t : DT) (d : Dv) : List (Nat × Obj) := [(d.st, .cells (bs d.a.S.flatten).toArray t.sec)]
abbrev Dv.q (t : DT) (d : Dv) : List (Nat × Obj) := slSeg t.wr d.g (wcs d.a.Q)
abbrev Dv.segs (t : DT) (d : Dv) : Hp := [d.o t, d.t t, d.q t]
abbrev Pw.cells (p : Pw) : List Value := [.bool p.a.off, .int .i64 p.a.left, .bool p.a.fails, slV p.g p.devs.length]
abbrev Pw.o (t : DT) (p : Pw) : List (Nat × Obj) := [(p.b, .cells p.cells.toArray t.pow)]
abbrev Pw.q (t : DT) (p : Pw) : List (Nat × Obj) := slSeg t.fn p.g (p.devs.map (clos t))
/-! ### The model -/
def Ab.ok (a : Ab) : Prop := (∀ s ∈ a.S, s.length = 128) ∧ a.S.length ≤ 4096 ∧ (∀ x ∈ a.Q, x.1 < a.S.length ∧ x.2.length = 128) ∧ a.bytes ≤ 128
def Dv.ok (d : Dv) : Prop := d.a.ok ∧ slOk 129 d.g d.a.Q.length (wcs d.a.Q) ∧ d.a.Q.length ≤ 100000
def Pw.ok (t : DT) (p : Pw) : Prop := slOk 1 p.g p.devs.length (p.devs.map (clos t)) ∧ p.a.left ≤ 9223372036854775807
/-- What a failure makes of one write that waits. -/
def cut1 (a : Ab) (i : Nat) (x : Nat × Sec) (S : List Sec) : List Sec :=
  if i < a.kept then S.set x.1 x.2 else if i = a.kept then S.set x.1 (x.2.take a.bytes ++ (S.getD x.1 []).drop a.bytes) else S
def cutN (a : Ab) : Nat → List Sec
  | 0 => a.S
  | i + 1 => match a.Q[i]? with | none => cutN a i | some x => cut1 a i x (cutN a i)
def flushN (a : Ab) : Nat → List Sec
  | 0 => a.S
  | i + 1 => match a.Q[i]? with | none => flushN a i | some x => (flushN a i).set x.1 x.2
def Ab.cut (a : Ab) : Ab := if a.out then a else { a with S := cutN a a.Q.length, Q := [] }
def Ab.flush (a : Ab) : Ab := if a.lies then a else { a with S := flushN a a.Q.length, Q := [] }
def Dv.cut (d : Dv) : Dv := if d.a.out then d else { d with g := none, a := d.a.cut }
/-- Does power fail at the next operation? -/
def Pa.falls (p : Pa) : Bool := p.fails && decide (p.left ≤ 0)
def Pa.step (p : Pa) : Pa := if p.fails then if p.left ≤ 0 then { p with off := true, fails := false } else { p with left := p.left - 1 } else p
def Pw.step (p : Pw) : Pw := { p with a := p.a.step }
def Dv.step (p : Pa) (d : Dv) : Dv := if p.falls then d.cut else d
/-! ### Plain laws -/
theorem set_ok {S : List Sec} {n : Nat} {s : Sec} (h : ∀ s ∈ S, s.length = 128) (hs : s.length = 128) : ∀ x ∈ S.set n s, x.length = 128 := fun x hx => by
  rcases List.mem_or_eq_of_mem_set hx with h1 | rfl
  · exact h x h1
  · exact hs
theorem cut1_ok {a : Ab} (h : a.ok) {i : Nat} {x : Nat × Sec} (hx : x ∈ a.Q) {S : List Sec} (hS : ∀ s ∈ S, s.length = 128) (hl : S.length = a.S.length) : (∀ s ∈ cut1 a i x S, s.length = 128) ∧ (cut1 a i x S).length = a.S.length := by
  obtain ⟨h1, h2, h3, h4⟩ := h
  have hx2 := h3 x hx
  unfold cut1
  split
  · exact ⟨set_ok hS hx2.2, by simpa using hl⟩
  · split
    · refine ⟨set_ok hS ?_, by simpa using hl⟩
      have hlt : x.1 < S.length := by omega
      rw [show S.getD x.1 [] = S[x.1] from by simp [List.getD, hlt]]
      have := hS _ (List.getElem_mem hlt)
      simp; omega
    · exact ⟨hS, hl⟩
theorem cutN_ok {a : Ab} (h : a.ok) : ∀ i, (∀ s ∈ cutN a i, s.length = 128) ∧ (cutN a i).length = a.S.length
  | 0 => ⟨h.1, rfl⟩
  | i + 1 => by
    obtain ⟨h1, h2⟩ := cutN_ok h i
    unfold cutN
    split
    · exact ⟨h1, h2⟩
    · rename_i x hx
      exact cut1_ok h (List.mem_of_getElem? hx) h1 h2
theorem flushN_ok {a : Ab} (h : a.ok) : ∀ i, (∀ s ∈ flushN a i, s.length = 128) ∧ (flushN a i).length = a.S.length
  | 0 => ⟨h.1, rfl⟩
  | i + 1 => by
    obtain ⟨h1, h2⟩ := flushN_ok h i
    unfold flushN
    split
    · exact ⟨h1, h2⟩
    · rename_i x hx
      exact ⟨set_ok h1 (h.2.2.1 _ (List.mem_of_getElem? hx)).2, by simpa using h2⟩
theorem Ab.cut_ok {a : Ab} (h : a.ok) : a.cut.ok := by
  unfold Ab.cut
  split
  · exact h
  · obtain ⟨h1, h2⟩ := cutN_ok h a.Q.length
    exact ⟨h1, by have := h.2.1; simp only; omega, fun x hx => by simp at hx, h.2.2.2⟩
theorem Ab.flush_ok {a : Ab} (h : a.ok) : a.flush.ok := by
  unfold Ab.flush
  split
  · exact h
  · obtain ⟨h1, h2⟩ := flushN_ok h a.Q.length
    exact ⟨h1, by have := h.2.1; simp only; omega, fun x hx => by simp at hx, h.2.2.2⟩
theorem Dv.cut_ok {d : Dv} (h : d.ok) : d.cut.ok := by
  unfold Dv.cut
  split
  · exact h
  · rename_i ho
    refine ⟨Ab.cut_ok h.1, ?_⟩
    simp only [Ab.cut, ho, Bool.false_eq_true, if_false]
    exact ⟨⟨by simp [wcs], rfl⟩, by simp⟩
theorem Dv.cut_b (d : Dv) : d.cut.b = d.b := by unfold Dv.cut; split <;> rfl
theorem Dv.cut_pw (d : Dv) : d.cut.pw = d.pw := by unfold Dv.cut; split <;> rfl
theorem Dv.cut_a (d : Dv) : d.cut.a = d.a.cut := by
  unfold Dv.cut Ab.cut; split <;> simp_all
theorem Dv.step_ok {d : Dv} {p : Pa} (h : d.ok) : (d.step p).ok := by unfold Dv.step; split; exact Dv.cut_ok h; exact h
theorem Dv.step_b (d : Dv) (p : Pa) : (d.step p).b = d.b := by unfold Dv.step; split; exact d.cut_b; rfl
theorem Dv.step_pw (d : Dv) (p : Pa) : (d.step p).pw = d.pw := by unfold Dv.step; split; exact d.cut_pw; rfl
def Ab.tear (a : Ab) (k m : Int) : Ab := { a with kept := (max k 0).toNat, bytes := (min (max m 0) 128).toNat }
theorem Ab.tear_ok {a : Ab} {k m : Int} (h : a.ok) : (a.tear k m).ok := ⟨h.1, h.2.1, h.2.2.1, by simp only [Ab.tear]; omega⟩
def Pa.fail (p : Pa) (n : Int) : Pa := { p with left := n, fails := decide (0 ≤ n) }
def Pa.restart (p : Pa) : Pa := { p with off := false, fails := false }
theorem flushN_s {a : Ab} {i : Nat} {x : Nat × Sec} (hx : a.Q[i]? = some x) : flushN a (i + 1) = (flushN a i).set x.1 x.2 := by
  show (match a.Q[i]? with | none => flushN a i | some x => (flushN a i).set x.1 x.2) = _
  rw [hx]
theorem HSub.same {H' H : Hp} (h : H' = H) : HSub H' H := h ▸ HSub.refl _
def cutTo (A : List Dv) (i : Nat) : List Dv := (A.take i).map Dv.cut ++ A.drop i
/-- A device in hand, its power, and the power's other devices. -/
abbrev opn (t : DT) (d : Dv) (p : Pw) (O : List Dv) (H : Hp) : Hp := d.o t :: d.t t :: d.q t :: p.o t :: p.q t :: (O.flatMap (Dv.segs t) ++ H)
structure GOk (t : DT) (p : Pw) (L : List Dv) (d : Dv) (R : List Dv) : Prop where
  pws : ∀ x ∈ L ++ d :: R, p.b = x.pw
  devs : p.devs = (L ++ d :: R).map (·.b)
  all : ∀ x ∈ L ++ d :: R, x.ok
  pok : p.ok t
  len : (L ++ d :: R).length ≤ 1000
theorem Pw.step_ok {t : DT} {p : Pw} (h : p.ok t) : p.step.ok t := by
  refine ⟨h.1, ?_⟩
  have := h.2
  simp only [Pw.step, Pa.step]
  split
  · split <;> simp only <;> omega
  · exact this
theorem GOk.hb {t : DT} {p : Pw} {L R : List Dv} {d : Dv} (h : GOk t p L d R) : p.b = d.pw := h.pws d (by simp)
theorem GOk.dok {t : DT} {p : Pw} {L R : List Dv} {d : Dv} (h : GOk t p L d R) : d.ok := h.all d (by simp)
theorem GOk.set {t : DT} {p : Pw} {L R : List Dv} {d d' : Dv} (h : GOk t p L d R) (hb : d'.b = d.b) (hp : d'.pw = d.pw) (hok : d'.ok) : GOk t p L d' R where
  pws := fun x hx => by
    rcases List.mem_append.1 hx with h1 | h1
    · exact h.pws x (by simp [h1])
    · rcases List.mem_cons.1 h1 with rfl | h2
      · exact h.hb.trans hp.symm
      · exact h.pws x (by simp [h2])
  devs := by rw [h.devs]; simp [hb]
  all := fun x hx => by
    rcases List.mem_append.1 hx with h1 | h1
    · exact h.all x (by simp [h1])
    · rcases List.mem_cons.1 h1 with rfl | h2
      · exact hok
      · exact h.all x (by simp [h2])
  pok := h.pok
  len := by have := h.len; simpa using this
theorem GOk.setp {t : DT} {p : Pw} {L R : List Dv} {d : Dv} (h : GOk t p L d R) (a : Pa) (ha : a.left ≤ 9223372036854775807) : GOk t { p with a := a } L d R := ⟨h.pws, h.devs, h.all, ⟨h.pok.1, ha⟩, h.len⟩
theorem GOk.step {t : DT} {p : Pw} {L R : List Dv} {d : Dv} (h : GOk t p L d R) (q : Pa) : GOk t p (L.map (Dv.step q)) (d.step q) (R.map (Dv.step q)) where
  pws := fun x hx => by
    have : x ∈ (L ++ d :: R).map (Dv.step q) := by simpa using hx
    obtain ⟨y, hy, rfl⟩ := List.mem_map.1 this
    exact (h.pws y hy).trans (Dv.step_pw y q).symm
  devs := by rw [h.devs]; simp [Dv.step_b, Function.comp_def]
  all := fun x hx => by
    have : x ∈ (L ++ d :: R).map (Dv.step q) := by simpa using hx
    obtain ⟨y, hy, rfl⟩ := List.mem_map.1 this
    exact Dv.step_ok (h.all y hy)
  pok := h.pok
  len := by have := h.len; simpa using this
theorem GOk.next {t : DT} {p : Pw} {L R : List Dv} {d x : Dv} (h : GOk t p L d (x :: R)) : GOk t p (L ++ [d]) x R where
  pws := fun y hy => h.pws y (by simpa using hy)
  devs := by rw [h.devs]; simp
  all := fun y hy => h.all y (by simpa using hy)
  pok := h.pok
  len := by have := h.len; simp at this ⊢; omega
theorem GOk.back {t : DT} {p : Pw} {L R : List Dv} {d x : Dv} (h : GOk t p (L ++ [d]) x R) : GOk t p L d (x :: R) where
  pws := fun y hy => h.pws y (by simpa using hy)
  devs := by rw [h.devs]; simp
  all := fun y hy => h.all y (by simpa using hy)
  pok := h.pok
  len := by have := h.len; simp at this ⊢; omega
def Dv.wr (d : Dv) (n : Nat) (s : Sec) (g : Option SlG) : Dv := { d with g := g, a := { d.a with Q := d.a.Q ++ [(n, s)] } }
/-- A flush of all that waits. -/
def Dv.fl (d : Dv) : Dv := { d with g := none, a := { d.a with S := flushN d.a d.a.Q.length, Q := [] } }
def Ab.rot (a : Ab) (n i : Nat) (m : UInt8) : Ab := { a with S := a.S.set n ((a.S.getD n []).set i ((a.S.getD n []).getD i 0 ^^^ m)) }
/-- A sector of one byte. -/
def secOf (c : UInt8) : Sec := List.replicate 128 c
theorem secOf_len (c : UInt8) : (secOf c).length = 128 := List.length_replicate
def fillTo (c : UInt8) (i : Nat) : Sec := List.replicate i c ++ List.replicate (128 - i) 0
/-- A new device. -/
def Ab.new (k : Nat) : Ab := ⟨List.replicate k (secOf 0), [], 0, 0, false, false⟩
theorem Ab.new_ok {k : Nat} (h : k ≤ 4096) : (Ab.new k).ok := ⟨fun s hs => by simp [Ab.new] at hs; rw [hs.2]; exact secOf_len 0, by simpa [Ab.new] using h, fun x hx => by simp [Ab.new] at hx, by simp [Ab.new]⟩
def Dv.new (b st pw k : Nat) : Dv := ⟨b, st, pw, none, Ab.new k⟩
theorem Dv.new_ok {b st pw k : Nat} (h : k ≤ 4096) : (Dv.new b st pw k).ok := ⟨Ab.new_ok h, ⟨rfl, rfl⟩, by simp [Dv.new, Ab.new]⟩
def szOf (n : Int) : Nat := (min (max n 0) 4096).toNat
/-! ### What each call does, told of the abstract states -/
def Ab.down (a : Ab) (q : Pa) : Bool := a.out || q.off
def Ab.has (a : Ab) (n : Int) : Bool := decide (0 ≤ n) && decide (n < a.S.length)
def wgo (a : Ab) (q : Pa) (n : Int) : Bool := !a.down q && a.has n
def Ab.step (q : Pa) (a : Ab) : Ab := if q.falls then a.cut else a
def Ab.push (a : Ab) (n : Nat) (s : Sec) : Ab := { a with Q := a.Q ++ [(n, s)] }
def writeE (a : Ab) (q : Pa) (n : Int) : Int := if a.down q then 13 else if a.has n then (if q.falls then 13 else 0) else 2
def writeA (a : Ab) (q : Pa) (n : Int) (s : Sec) : Ab := if wgo a q n then (a.push n.toNat s).step q else a
def writeP (a : Ab) (q : Pa) (n : Int) : Pa := if wgo a q n then q.step else q
def flushE (a : Ab) (q : Pa) : Int := if a.down q then 13 else if q.falls then 13 else 0
def flushA (a : Ab) (q : Pa) : Ab := if a.down q then a else if q.falls then a.cut else a.flush
def flushP (a : Ab) (q : Pa) : Pa := if a.down q then q else q.step
/-- The other devices of a power, behind an operation that was counted (c) or not. -/
def Mv (c : Bool) (q : Pa) : List Dv → List Dv → Prop
  | [], [] => True
  | x :: xs, y :: ys => (y.b = x.b ∧ y.pw = x.pw ∧ y.a = if c then x.a.step q else x.a) ∧ Mv c q xs ys
  | _, _ => False
theorem Dv.step_a (d : Dv) (q : Pa) : (d.step q).a = d.a.step q := by unfold Dv.step Ab.step; split; exact d.cut_a; rfl
theorem Mv.same (q : Pa) : ∀ (L : List Dv), Mv false q L L
  | [] => trivial
  | _ :: L => ⟨⟨rfl, rfl, rfl⟩, Mv.same q L⟩
theorem Mv.step (q : Pa) : ∀ (L : List Dv), Mv true q L (L.map (Dv.step q))
  | [] => trivial
  | x :: L => ⟨⟨Dv.step_b x q, Dv.step_pw x q, Dv.step_a x q⟩, Mv.step q L⟩
theorem Mv.nil {c : Bool} {q : Pa} {L : List Dv} (h : Mv c q [] L) : L = [] := by cases L; rfl; exact h.elim
theorem Mv.one {c : Bool} {q : Pa} {x : Dv} {L : List Dv} (h : Mv c q [x] L) : ∃ y, L = [y] ∧ y.b = x.b ∧ y.pw = x.pw ∧ y.a = if c then x.a.step q else x.a := by
  match L, h with
  | [y], h => exact ⟨y, rfl, h.1⟩
  | [], h => exact h.elim
  | _ :: _ :: _, h => exact h.2.elim
def Ab.outs (a : Ab) (on : Bool) : Ab := if on then { a with Q := [], out := true } else { a with out := false }
def Ab.rotE (a : Ab) (n i : Int) : Bool := a.has n && (decide (0 ≤ i) && decide (i < 128))
def Ab.rots (a : Ab) (n i : Int) (m : UInt8) : Ab := if a.rotE n i then a.rot n.toNat i.toNat m else a
/-- What is stable in the document's example. -/
def awS : List Sec := [secOf 1, [2, 2] ++ List.replicate 126 0, secOf 0, secOf 0]
/-! ### What is read -/
def lastW (Q : List (Nat × Sec)) (n : Nat) : Option Sec := (Q.reverse.find? fun x => x.1 == n).map (·.2)
def Ab.read (a : Ab) (n : Nat) : Sec := (lastW a.Q n).getD (a.S.getD n [])
def noneFrom (Q : List (Nat × Sec)) (n i : Nat) : Prop := ∀ k x, i ≤ k → Q[k]? = some x → x.1 ≠ n
def readE (a : Ab) (q : Pa) (n : Int) : Int := if a.down q then 13 else if a.has n then 0 else 2
def readS (a : Ab) (q : Pa) (n : Int) : Sec := if a.down q then secOf 0 else if a.has n then a.read n.toNat else secOf 0
end Go.Sl

/- The program's map of numbers, in memory (own work). -/
set_option linter.unusedVariables false
set_option linter.unusedSimpArgs false
namespace Go.Sl
structure Xo where
  b : Nat
  r1 : Nat
  r2 : Nat
abbrev Xo.cells (o : Xo) (segs size : Int) : List Value := [.int .i64 segs, .int .i64 size, .map (some o.r1), .map (some o.r2)]
abbrev Xo.seg (t : Nat) (o : Xo) (segs size : Int) (A L : Gm) : List (Nat × Obj) := [(o.b, .cells (o.cells segs size).toArray t), (o.r1, A.obj .u64), (o.r2, L.obj .i64)]
abbrev shV (segs size : Int) : Value := .agg [Value.int .i64 segs, .int .i64 size].toArray
theorem ofS_no {segs size a : Int} (h : mayG segs size = false ∨ a < 2 ∨ 2 + segs * size ≤ a) : ofS segs size a = none := by
  unfold ofS
  rw [if_neg]
  rcases h with h | h | h
  · rw [h]; simp
  · have : decide (2 ≤ a) = false := decide_eq_false (by omega)
    rw [this]; simp
  · have : decide (a < 2 + segs * size) = false := decide_eq_false (by omega)
    rw [this]; simp
theorem ofS_yes {segs size a : Int} (h : mayG segs size = true) (h1 : 2 ≤ a) (h2 : a < 2 + segs * size) : ofS segs size a = some ((a - 2) / size) := by
  unfold ofS
  rw [h, decide_eq_true h1, decide_eq_true h2]; rfl
theorem mul_bound {segs size : Int} (h : mayG segs size = true) : 3 ≤ segs * size ∧ segs * size ≤ 2048 := by
  obtain ⟨h1, h2, h3, h4⟩ := mayG_spec h
  constructor
  · have := Int.mul_le_mul h1 h3 (by omega) (by omega)
    omega
  · have := Int.mul_le_mul h2 h4 (by omega) (by omega)
    omega
/-- Whether a shape may be is one of 0 and 2, as errors go. -/
def chkE (segs size : Int) : Int := if mayG segs size then 0 else 2
theorem xgroup {t : Nat} {o : Xo} {segs size : Int} {A L : Gm} {H : Hp} {b : Nat} {c : Obj} {l : List Value} (hl : l = o.cells segs size) : HSub (o.seg t segs size A L :: H) ([(o.b, .cells l.toArray t)] :: [(o.r2, L.obj .i64)] :: [(o.r1, A.obj .u64)] :: [(b, c)] :: H) := by
  subst hl
  refine HSub.of_sublist (L := [(o.b, .cells (o.cells segs size).toArray t)] :: [(o.r1, A.obj .u64)] :: [(o.r2, L.obj .i64)] :: [(b, c)] :: H) ?_ ?_
  · simp only [List.flatten_cons, List.cons_append, List.nil_append]
    exact (List.Perm.swap _ _ _).cons _
  · simp only [List.flatten_cons, List.cons_append, List.nil_append]
    exact List.Sublist.cons_cons _ (List.Sublist.cons_cons _ (List.Sublist.cons_cons _ (List.Sublist.cons _ (List.Sublist.refl _))))
end Go.Sl

/- walks (own work; the walks' lines by a program of this repo). -/
set_option linter.unusedVariables false
set_option linter.unusedSimpArgs false
set_option maxRecDepth 20000
namespace Go.Proofs.Ytighbhplfjjgpaa
open Go.Sl
attribute [local irreducible] BodyQ WpC WpL WpS WpH OpW FnS


theorem check_s {w0 : World} {H : Hp} (segs size : Int) : FnS Try.prog w0 9 #[shV segs size] H (fun e H' => e = .returned (.int .i64 (chkE segs size)) ∧ H' = H) := by
  refine FnS_intro (n := 21) (rs := [.tmp 2]) (vs := [shV segs size]) Try.func9 rfl Try.ntmps9 rfl rfl ?_
  refine C_seq ?_
  refine C_region ?_
  refine L_op rfl (op_box rfl rfl rfl (fun B1 => ?_))
  refine L_y rfl (y_assign rfl) rfl ?_
  refine L_nil ?_
  refine C_seq ?_
  refine C_seq ?_
  refine C_region ?_
  refine L_y rfl (y_fieldAddr rfl fl_23_0) rfl ?_
  refine L_y rfl (y_load rfl ag_3 (sees 0 0 rfl) rfl) rfl ?_
  refine L_y rfl (y_lss rfl rfl) rfl ?_
  refine L_y rfl (y_move rfl) rfl ?_
  refine L_case 6 rfl (fun hg1_4 => ?_) (fun hg1_4 => ?_)
  · skip
    refine L_skip rfl rfl ?_
    refine L_skip rfl rfl ?_
    refine L_skip rfl rfl ?_
    refine L_y rfl (y_pick_t rfl rfl) rfl ?_
    refine L_y rfl (y_move rfl) rfl ?_
    refine L_skip rfl rfl ?_
    refine L_skip rfl rfl ?_
    refine L_skip rfl rfl ?_
    refine L_y rfl (y_pick_t rfl rfl) rfl ?_
    refine L_y rfl (y_move rfl) rfl ?_
    refine L_skip rfl rfl ?_
    refine L_skip rfl rfl ?_
    refine L_skip rfl rfl ?_
    refine L_y rfl (y_pick_t rfl rfl) rfl ?_
    refine L_nil ?_
    refine C_cond_t rfl ?_
    refine C_seq ?_
    refine C_region ?_
    refine L_y rfl (y_assign rfl) rfl ?_
    refine L_nil ?_
    refine C_ret ?_
    refine B_ret (rv_tmp rfl rv_nil) (hsub (.cons _ (.refl _))) ?_
    refine ⟨congrArg (fun x => Ending.returned (Value.int .i64 x)) ?_, rfl⟩
    unfold chkE mayG
    split <;> rename_i hq <;> simp at hq <;> simp_all <;> omega
  · skip
    refine L_y rfl (y_fieldAddr rfl fl_23_0) rfl ?_
    refine L_y rfl (y_load rfl ag_3 (sees 0 0 rfl) rfl) rfl ?_
    refine L_y rfl (y_gtr rfl rfl) rfl ?_
    refine L_y rfl (y_pick_f rfl rfl) rfl ?_
    refine L_y rfl (y_move rfl) rfl ?_
    refine L_case 11 rfl (fun hg1_9 => ?_) (fun hg1_9 => ?_)
    · skip
      refine L_skip rfl rfl ?_
      refine L_skip rfl rfl ?_
      refine L_skip rfl rfl ?_
      refine L_y rfl (y_pick_t rfl rfl) rfl ?_
      refine L_y rfl (y_move rfl) rfl ?_
      refine L_skip rfl rfl ?_
      refine L_skip rfl rfl ?_
      refine L_skip rfl rfl ?_
      refine L_y rfl (y_pick_t rfl rfl) rfl ?_
      refine L_nil ?_
      refine C_cond_t rfl ?_
      refine C_seq ?_
      refine C_region ?_
      refine L_y rfl (y_assign rfl) rfl ?_
      refine L_nil ?_
      refine C_ret ?_
      refine B_ret (rv_tmp rfl rv_nil) (hsub (.cons _ (.refl _))) ?_
      refine ⟨congrArg (fun x => Ending.returned (Value.int .i64 x)) ?_, rfl⟩
      unfold chkE mayG
      split <;> rename_i hq <;> simp at hq <;> simp_all <;> omega
    · skip
      refine L_y rfl (y_fieldAddr rfl fl_23_1) rfl ?_
      refine L_y rfl (y_load rfl ag_3 (sees 0 0 rfl) rfl) rfl ?_
      refine L_y rfl (y_lss rfl rfl) rfl ?_
      refine L_y rfl (y_pick_f rfl rfl) rfl ?_
      refine L_y rfl (y_move rfl) rfl ?_
      refine L_case 16 rfl (fun hg1_14 => ?_) (fun hg1_14 => ?_)
      · skip
        refine L_skip rfl rfl ?_
        refine L_skip rfl rfl ?_
        refine L_skip rfl rfl ?_
        refine L_y rfl (y_pick_t rfl rfl) rfl ?_
        refine L_nil ?_
        refine C_cond_t rfl ?_
        refine C_seq ?_
        refine C_region ?_
        refine L_y rfl (y_assign rfl) rfl ?_
        refine L_nil ?_
        refine C_ret ?_
        refine B_ret (rv_tmp rfl rv_nil) (hsub (.cons _ (.refl _))) ?_
        refine ⟨congrArg (fun x => Ending.returned (Value.int .i64 x)) ?_, rfl⟩
        unfold chkE mayG
        split <;> rename_i hq <;> simp at hq <;> simp_all <;> omega
      · skip
        refine L_y rfl (y_fieldAddr rfl fl_23_1) rfl ?_
        refine L_y rfl (y_load rfl ag_3 (sees 0 0 rfl) rfl) rfl ?_
        refine L_y rfl (y_gtr rfl rfl) rfl ?_
        refine L_y rfl (y_pick_f rfl rfl) rfl ?_
        refine L_nil ?_
        refine C_cond rfl (fun hc0 => ?_) (fun hc0 => ?_)
        · replace hc0 := of_decide_eq_true hc0
          refine C_seq ?_
          refine C_region ?_
          refine L_y rfl (y_assign rfl) rfl ?_
          refine L_nil ?_
          refine C_ret ?_
          refine B_ret (rv_tmp rfl rv_nil) (hsub (.cons _ (.refl _))) ?_
          refine ⟨congrArg (fun x => Ending.returned (Value.int .i64 x)) ?_, rfl⟩
          unfold chkE mayG
          split <;> rename_i hq <;> simp at hq <;> simp_all <;> omega
        · replace hc0 := of_decide_eq_false hc0
          refine C_skip ?_
          refine C_seq ?_
          refine C_region ?_
          refine L_y rfl (y_assign rfl) rfl ?_
          refine L_nil ?_
          refine C_ret ?_
          refine B_ret (rv_tmp rfl rv_nil) (hsub (.cons _ (.refl _))) ?_
          refine ⟨congrArg (fun x => Ending.returned (Value.int .i64 x)) ?_, rfl⟩
          unfold chkE mayG
          split <;> rename_i hq <;> simp at hq <;> simp_all <;> omega

theorem shmay_s {w0 : World} {H : Hp} (segs size : Int) : FnS Try.prog w0 45 #[shV segs size] H (fun e H' => e = .returned (.bool (mayG segs size)) ∧ H' = H) := by
  refine FnS_intro (n := 11) (rs := [.tmp 2]) (vs := [shV segs size]) Try.func45 rfl Try.ntmps45 rfl rfl ?_
  refine C_seq ?_
  refine C_region ?_
  refine L_op rfl (op_box rfl rfl rfl (fun B1 => ?_))
  refine L_y rfl (y_assign rfl) rfl ?_
  refine L_nil ?_
  refine C_seq ?_
  refine C_region ?_
  refine L_y rfl (y_loadA rfl ag_23 sz_23 (sees 0 0 rfl) (Nat.le_of_ble_eq_true rfl) rfl) rfl ?_
  refine L_y rfl (y_build0 pl_23 zl_23) rfl ?_
  refine L_y rfl (y_nest (xs := [segs, size]) (ys := [0, 0]) rfl rfl fi_23 eg_23 rfl rfl) rfl ?_
  refine L_y rfl (y_move rfl) rfl ?_
  refine L_case 6 rfl (fun hg1_4 => ?_) (fun hg1_4 => ?_)
  · skip
    refine L_y rfl (y_loadA rfl ag_23 sz_23 (sees 0 0 rfl) (Nat.le_of_ble_eq_true rfl) rfl) rfl ?_
    refine L_op rfl (op_call rfl rfl (fun a w => Try.call9 a w) rfl ?_)
    refine (check_s segs size).mono ?_
    rintro _ _ ⟨rfl, e⟩
    obtain rfl := e.symm
    clear e
    refine ⟨_, rfl, ?_⟩
    refine L_y rfl (y_eqi rfl rfl) rfl ?_
    refine L_y rfl (y_pick_t rfl rfl) rfl ?_
    refine L_y rfl (y_assign rfl) rfl ?_
    refine L_nil ?_
    refine C_ret ?_
    refine B_ret (rv_tmp rfl rv_nil) (hsub (.cons _ (.refl _))) ?_
    refine ⟨congrArg (fun x => Ending.returned (Value.bool x)) ?_, rfl⟩
    first
    | (unfold chkE; cases mayG segs size <;> simp; done)
    | (have hz : segs = 0 ∧ size = 0 := by simpa using hg1_4
       rw [hz.1, hz.2]; rfl)
  · skip
    refine L_skip rfl rfl ?_
    refine L_skip rfl rfl ?_
    refine L_skip rfl rfl ?_
    refine L_y rfl (y_pick_f rfl rfl) rfl ?_
    refine L_y rfl (y_assign rfl) rfl ?_
    refine L_nil ?_
    refine C_ret ?_
    refine B_ret (rv_tmp rfl rv_nil) (hsub (.cons _ (.refl _))) ?_
    refine ⟨congrArg (fun x => Ending.returned (Value.bool x)) ?_, rfl⟩
    first
    | (unfold chkE; cases mayG segs size <;> simp; done)
    | (have hz : segs = 0 ∧ size = 0 := by simpa using hg1_4
       rw [hz.1, hz.2]; rfl)

theorem sectors_s {w0 : World} {H : Hp} (segs size : Int) (hm : mayG segs size = true) : FnS Try.prog w0 24 #[shV segs size] H (fun e H' => e = .returned (.int .i64 (2 + segs * size)) ∧ H' = H) := by
  obtain ⟨h1, h2, h3, h4⟩ := mayG_spec hm
  obtain ⟨m1, m2⟩ := mul_bound hm
  refine FnS_intro (n := 12) (rs := [.tmp 2]) (vs := [shV segs size]) Try.func24 rfl Try.ntmps24 rfl rfl ?_
  refine C_seq ?_
  refine C_region ?_
  refine L_op rfl (op_box rfl rfl rfl (fun B1 => ?_))
  refine L_y rfl (y_assign rfl) rfl ?_
  refine L_nil ?_
  refine C_seq ?_
  refine C_seq ?_
  refine C_region ?_
  refine L_y rfl (y_loadA rfl ag_23 sz_23 (sees 0 0 rfl) (Nat.le_of_ble_eq_true rfl) rfl) rfl ?_
  refine L_op rfl (op_call rfl rfl (fun a w => Try.call45 a w) rfl ?_)
  refine (shmay_s segs size).mono ?_
  rintro _ _ ⟨rfl, e⟩
  obtain rfl := e.symm
  clear e
  rw [hm]
  refine ⟨_, rfl, ?_⟩
  refine L_y rfl (y_not rfl) rfl ?_
  refine L_nil ?_
  refine C_cond_f rfl ?_
  refine C_skip ?_
  refine C_seq ?_
  refine C_region ?_
  refine L_y rfl (y_fieldAddr rfl fl_23_0) rfl ?_
  refine L_y rfl (y_load rfl ag_3 (sees 0 0 rfl) rfl) rfl ?_
  refine L_y rfl (y_fieldAddr rfl fl_23_1) rfl ?_
  refine L_y rfl (y_load rfl ag_3 (sees 0 0 rfl) rfl) rfl ?_
  refine L_y rfl (y_mul rfl rfl (wi64 (by omega) (by omega))) rfl ?_
  refine L_y rfl (y_add rfl rfl (wi64 (by omega) (by omega))) rfl ?_
  refine L_y rfl (y_assign rfl) rfl ?_
  refine L_nil ?_
  refine C_ret ?_
  refine B_ret (rv_tmp rfl rv_nil) (hsub (.cons _ (.refl _))) ?_
  exact ⟨rfl, rfl⟩

theorem most_s {w0 : World} {H : Hp} (segs size : Int) (hm : mayG segs size = true) : FnS Try.prog w0 43 #[shV segs size] H (fun e H' => e = .returned (.int .i64 ((segs - 2) * size)) ∧ H' = H) := by
  obtain ⟨h1, h2, h3, h4⟩ := mayG_spec hm
  obtain ⟨m1, m2⟩ := mul_bound hm
  have m3 : (segs - 2) * size = segs * size - 2 * size := Int.sub_mul ..
  refine FnS_intro (n := 12) (rs := [.tmp 2]) (vs := [shV segs size]) Try.func43 rfl Try.ntmps43 rfl rfl ?_
  refine C_seq ?_
  refine C_region ?_
  refine L_op rfl (op_box rfl rfl rfl (fun B1 => ?_))
  refine L_y rfl (y_assign rfl) rfl ?_
  refine L_nil ?_
  refine C_seq ?_
  refine C_seq ?_
  refine C_region ?_
  refine L_y rfl (y_loadA rfl ag_23 sz_23 (sees 0 0 rfl) (Nat.le_of_ble_eq_true rfl) rfl) rfl ?_
  refine L_op rfl (op_call rfl rfl (fun a w => Try.call45 a w) rfl ?_)
  refine (shmay_s segs size).mono ?_
  rintro _ _ ⟨rfl, e⟩
  obtain rfl := e.symm
  clear e
  rw [hm]
  refine ⟨_, rfl, ?_⟩
  refine L_y rfl (y_not rfl) rfl ?_
  refine L_nil ?_
  refine C_cond_f rfl ?_
  refine C_skip ?_
  refine C_seq ?_
  refine C_region ?_
  refine L_y rfl (y_fieldAddr rfl fl_23_0) rfl ?_
  refine L_y rfl (y_load rfl ag_3 (sees 0 0 rfl) rfl) rfl ?_
  refine L_y rfl (y_sub rfl rfl (wi64 (by omega) (by omega))) rfl ?_
  refine L_y rfl (y_fieldAddr rfl fl_23_1) rfl ?_
  refine L_y rfl (y_load rfl ag_3 (sees 0 0 rfl) rfl) rfl ?_
  refine L_y rfl (y_mul rfl rfl (wi64 (by omega) (by omega))) rfl ?_
  refine L_y rfl (y_assign rfl) rfl ?_
  refine L_nil ?_
  refine C_ret ?_
  refine B_ret (rv_tmp rfl rv_nil) (hsub (.cons _ (.refl _))) ?_
  exact ⟨rfl, rfl⟩

theorem of_n {w0 : World} {H : Hp} (segs size : Int) (hm : mayG segs size = false) (a : Int) : FnS Try.prog w0 44 #[shV segs size, .int .i64 a] H (fun e H' => e = .returned (.tuple #[.int .i64 0, .int .i64 0, .bool false]) ∧ H' = H) := by
  refine FnS_intro (n := 31) (rs := [.tmp 4, .tmp 5, .tmp 6]) (vs := [shV segs size, .int .i64 a]) Try.func44 rfl Try.ntmps44 rfl rfl ?_
  refine C_seq ?_
  refine C_region ?_
  refine L_op rfl (op_box rfl rfl rfl (fun B1 => ?_))
  refine L_y rfl (y_assign rfl) rfl ?_
  refine L_y rfl (y_assign rfl) rfl ?_
  refine L_y rfl (y_assign rfl) rfl ?_
  refine L_nil ?_
  refine C_seq ?_
  refine C_seq ?_
  refine C_region ?_
  refine L_y rfl (y_loadA rfl ag_23 sz_23 (sees 0 0 rfl) (Nat.le_of_ble_eq_true rfl) rfl) rfl ?_
  refine L_op rfl (op_call rfl rfl (fun a w => Try.call45 a w) rfl ?_)
  refine (shmay_s segs size).mono ?_
  rintro _ _ ⟨rfl, e⟩
  obtain rfl := e.symm
  clear e
  rw [hm]
  refine ⟨_, rfl, ?_⟩
  refine L_y rfl (y_not rfl) rfl ?_
  refine L_y rfl (y_move rfl) rfl ?_
  refine L_skip rfl rfl ?_
  refine L_skip rfl rfl ?_
  refine L_y rfl (y_pick_t rfl rfl) rfl ?_
  refine L_y rfl (y_move rfl) rfl ?_
  refine L_skip rfl rfl ?_
  refine L_skip rfl rfl ?_
  refine L_skip rfl rfl ?_
  refine L_skip rfl rfl ?_
  refine L_y rfl (y_pick_t rfl rfl) rfl ?_
  refine L_nil ?_
  refine C_cond_t rfl ?_
  refine C_seq ?_
  refine C_region ?_
  refine L_y rfl (y_assign rfl) rfl ?_
  refine L_y rfl (y_assign rfl) rfl ?_
  refine L_y rfl (y_assign rfl) rfl ?_
  refine L_nil ?_
  refine C_ret ?_
  refine B_ret (rv_tmp rfl (rv_tmp rfl (rv_tmp rfl rv_nil))) (hsub (.cons _ (.refl _))) ?_
  exact ⟨rfl, rfl⟩

theorem of_o {w0 : World} {H : Hp} (segs size : Int) (hm : mayG segs size = true) (a : Int) (ho : a < 2 ∨ 2 + segs * size ≤ a) : FnS Try.prog w0 44 #[shV segs size, .int .i64 a] H (fun e H' => e = .returned (.tuple #[.int .i64 0, .int .i64 0, .bool false]) ∧ H' = H) := by
  obtain ⟨h1, h2, h3, h4⟩ := mayG_spec hm
  obtain ⟨m1, m2⟩ := mul_bound hm
  refine FnS_intro (n := 31) (rs := [.tmp 4, .tmp 5, .tmp 6]) (vs := [shV segs size, .int .i64 a]) Try.func44 rfl Try.ntmps44 rfl rfl ?_
  refine C_seq ?_
  refine C_region ?_
  refine L_op rfl (op_box rfl rfl rfl (fun B1 => ?_))
  refine L_y rfl (y_assign rfl) rfl ?_
  refine L_y rfl (y_assign rfl) rfl ?_
  refine L_y rfl (y_assign rfl) rfl ?_
  refine L_nil ?_
  refine C_seq ?_
  refine C_seq ?_
  refine C_region ?_
  refine L_y rfl (y_loadA rfl ag_23 sz_23 (sees 0 0 rfl) (Nat.le_of_ble_eq_true rfl) rfl) rfl ?_
  refine L_op rfl (op_call rfl rfl (fun a w => Try.call45 a w) rfl ?_)
  refine (shmay_s segs size).mono ?_
  rintro _ _ ⟨rfl, e⟩
  obtain rfl := e.symm
  clear e
  rw [hm]
  refine ⟨_, rfl, ?_⟩
  refine L_y rfl (y_not rfl) rfl ?_
  refine L_y rfl (y_move rfl) rfl ?_
  refine L_y rfl (y_move rfl) rfl ?_
  refine L_y rfl (y_lss rfl rfl) rfl ?_
  refine L_y rfl (y_pick_f rfl rfl) rfl ?_
  refine L_y rfl (y_move rfl) rfl ?_
  refine L_case 15 rfl (fun hg1_8 => ?_) (fun hg1_8 => ?_)
  · skip
    refine L_skip rfl rfl ?_
    refine L_skip rfl rfl ?_
    refine L_skip rfl rfl ?_
    refine L_skip rfl rfl ?_
    refine L_y rfl (y_pick_t rfl rfl) rfl ?_
    refine L_nil ?_
    refine C_cond_t rfl ?_
    refine C_seq ?_
    refine C_region ?_
    refine L_y rfl (y_assign rfl) rfl ?_
    refine L_y rfl (y_assign rfl) rfl ?_
    refine L_y rfl (y_assign rfl) rfl ?_
    refine L_nil ?_
    refine C_ret ?_
    refine B_ret (rv_tmp rfl (rv_tmp rfl (rv_tmp rfl rv_nil))) (hsub (.cons _ (.refl _))) ?_
    exact ⟨rfl, rfl⟩
  · replace hg1_8 := of_decide_eq_false hg1_8
    refine L_y rfl (y_move rfl) rfl ?_
    refine L_y rfl (y_loadA rfl ag_23 sz_23 (sees 0 0 rfl) (Nat.le_of_ble_eq_true rfl) rfl) rfl ?_
    refine L_op rfl (op_call rfl rfl (fun a w => Try.call24 a w) rfl ?_)
    refine (sectors_s segs size hm).mono ?_
    rintro _ _ ⟨rfl, e⟩
    obtain rfl := e.symm
    clear e
    refine ⟨_, rfl, ?_⟩
    refine L_y rfl (y_geq rfl rfl) rfl ?_
    refine L_y rfl (y_pick_f rfl rfl) rfl ?_
    refine L_nil ?_
    refine C_cond rfl (fun hc0 => ?_) (fun hc0 => absurd (of_decide_eq_false hc0) (by omega))
    refine C_seq ?_
    refine C_region ?_
    refine L_y rfl (y_assign rfl) rfl ?_
    refine L_y rfl (y_assign rfl) rfl ?_
    refine L_y rfl (y_assign rfl) rfl ?_
    refine L_nil ?_
    refine C_ret ?_
    refine B_ret (rv_tmp rfl (rv_tmp rfl (rv_tmp rfl rv_nil))) (hsub (.cons _ (.refl _))) ?_
    exact ⟨rfl, rfl⟩

theorem of_y {w0 : World} {H : Hp} (segs size : Int) (hm : mayG segs size = true) (a : Int) (ho : 2 ≤ a) (hp : a < 2 + segs * size) : FnS Try.prog w0 44 #[shV segs size, .int .i64 a] H (fun e H' => e = .returned (.tuple #[.int .i64 ((a - 2) / size), .int .i64 ((a - 2) % size), .bool true]) ∧ H' = H) := by
  obtain ⟨h1, h2, h3, h4⟩ := mayG_spec hm
  obtain ⟨m1, m2⟩ := mul_bound hm
  have q0 : 0 ≤ (a - 2) / size := Int.ediv_nonneg (by omega) (by omega)
  have q1 : (a - 2) / size ≤ a - 2 := Int.ediv_le_self _ (by omega)
  have q2 : 0 ≤ (a - 2) % size := Int.emod_nonneg _ (by omega)
  have q3 : (a - 2) % size < size := Int.emod_lt_of_pos _ (by omega)
  refine FnS_intro (n := 31) (rs := [.tmp 4, .tmp 5, .tmp 6]) (vs := [shV segs size, .int .i64 a]) Try.func44 rfl Try.ntmps44 rfl rfl ?_
  refine C_seq ?_
  refine C_region ?_
  refine L_op rfl (op_box rfl rfl rfl (fun B1 => ?_))
  refine L_y rfl (y_assign rfl) rfl ?_
  refine L_y rfl (y_assign rfl) rfl ?_
  refine L_y rfl (y_assign rfl) rfl ?_
  refine L_nil ?_
  refine C_seq ?_
  refine C_seq ?_
  refine C_region ?_
  refine L_y rfl (y_loadA rfl ag_23 sz_23 (sees 0 0 rfl) (Nat.le_of_ble_eq_true rfl) rfl) rfl ?_
  refine L_op rfl (op_call rfl rfl (fun a w => Try.call45 a w) rfl ?_)
  refine (shmay_s segs size).mono ?_
  rintro _ _ ⟨rfl, e⟩
  obtain rfl := e.symm
  clear e
  rw [hm]
  refine ⟨_, rfl, ?_⟩
  refine L_y rfl (y_not rfl) rfl ?_
  refine L_y rfl (y_move rfl) rfl ?_
  refine L_y rfl (y_move rfl) rfl ?_
  refine L_y rfl (y_lss rfl rfl) rfl ?_
  refine L_y rfl (y_pick_f rfl rfl) rfl ?_
  refine L_y rfl (y_move rfl) rfl ?_
  refine L_case 15 rfl (fun hg1_8 => ?_) (fun hg1_8 => ?_)
  · exact absurd (of_decide_eq_true hg1_8) (by omega)
  · skip
    refine L_y rfl (y_move rfl) rfl ?_
    refine L_y rfl (y_loadA rfl ag_23 sz_23 (sees 0 0 rfl) (Nat.le_of_ble_eq_true rfl) rfl) rfl ?_
    refine L_op rfl (op_call rfl rfl (fun a w => Try.call24 a w) rfl ?_)
    refine (sectors_s segs size hm).mono ?_
    rintro _ _ ⟨rfl, e⟩
    obtain rfl := e.symm
    clear e
    refine ⟨_, rfl, ?_⟩
    refine L_y rfl (y_geq rfl rfl) rfl ?_
    refine L_y rfl (y_pick_f rfl rfl) rfl ?_
    refine L_nil ?_
    refine C_cond rfl (fun hc0 => absurd (of_decide_eq_true hc0) (by omega)) (fun hc0 => ?_)
    refine C_skip ?_
    refine C_seq ?_
    refine C_region ?_
    refine L_y rfl (y_move rfl) rfl ?_
    refine L_y rfl (y_sub rfl rfl (wi64 (by omega) (by omega))) rfl ?_
    refine L_y rfl (y_assign rfl) rfl ?_
    refine L_nil ?_
    refine C_seq ?_
    refine C_regionH0 (by kernel_rfl) ?_
    refine H_y 0 rfl (by kernel_rfl) (by kernel_rfl) (by kernel_rfl) (HSub.refl _) rfl (y_move rfl) rfl ?_
    refine H_y 1 rfl (by kernel_rfl) (by kernel_rfl) (by kernel_rfl) (HSub.refl _) rfl (y_fieldAddr rfl fl_23_1) rfl ?_
    refine H_y 2 rfl (by kernel_rfl) (by kernel_rfl) (by kernel_rfl) (HSub.refl _) rfl (y_load rfl ag_3 (sees 0 0 rfl) rfl) rfl ?_
    refine H_y 3 rfl (by kernel_rfl) (by kernel_rfl) (by kernel_rfl) (HSub.refl _) rfl (y_quo rfl rfl (by omega) (show _ = ((a - 2) / size : Int) from by rw [Int.tdiv_eq_ediv_of_nonneg (by omega)]; exact wi64 (by omega) (by omega))) rfl ?_
    refine H_y 4 rfl (by kernel_rfl) (by kernel_rfl) (by kernel_rfl) (HSub.refl _) rfl (y_move rfl) rfl ?_
    refine H_y 5 rfl (by kernel_rfl) (by kernel_rfl) (by kernel_rfl) (HSub.refl _) rfl (y_fieldAddr rfl fl_23_1) rfl ?_
    refine H_y 6 rfl (by kernel_rfl) (by kernel_rfl) (by kernel_rfl) (HSub.refl _) rfl (y_load rfl ag_3 (sees 0 0 rfl) rfl) rfl ?_
    refine H_y 7 rfl (by kernel_rfl) (by kernel_rfl) (by kernel_rfl) (HSub.refl _) rfl (y_rem rfl rfl (by omega) (show _ = ((a - 2) % size : Int) from by rw [Int.tmod_eq_emod_of_nonneg (by omega)])) rfl ?_
    refine H_y 8 rfl (by kernel_rfl) (by kernel_rfl) (by kernel_rfl) (HSub.refl _) rfl (y_assign rfl) rfl ?_
    refine H_y 9 rfl (by kernel_rfl) (by kernel_rfl) (by kernel_rfl) (HSub.refl _) rfl (y_assign rfl) rfl ?_
    refine H_y 10 rfl (by kernel_rfl) (by kernel_rfl) (by kernel_rfl) (HSub.refl _) rfl (y_assign rfl) rfl ?_
    refine H_done (by kernel_rfl) ?_
    refine C_ret ?_
    refine B_ret (rv_tmp rfl (rv_tmp rfl (rv_tmp rfl rv_nil))) (hsub (.cons _ (.refl _))) ?_
    exact ⟨rfl, rfl⟩

theorem of_s {w0 : World} {H : Hp} (segs size a : Int) : FnS Try.prog w0 44 #[shV segs size, .int .i64 a] H (fun e H' => e = .returned (.tuple #[.int .i64 ((ofS segs size a).getD 0), .int .i64 (if (ofS segs size a).isSome then (a - 2) % size else 0), .bool (ofS segs size a).isSome]) ∧ H' = H) := by
  cases hm : mayG segs size with
  | false => rw [ofS_no (.inl hm)]; exact of_n segs size hm a
  | true =>
    by_cases h1 : a < 2 ∨ 2 + segs * size ≤ a
    · rw [ofS_no (.inr h1)]; exact of_o segs size hm a h1
    · rw [ofS_yes hm (by omega) (by omega)]; exact of_y segs size hm a (by omega) (by omega)

end Go.Proofs.Ytighbhplfjjgpaa

/- walks (own work; the walks' lines by a program of this repo). -/
set_option linter.unusedVariables false
set_option linter.unusedSimpArgs false
set_option maxRecDepth 20000
namespace Go.Proofs.Ytighbhplfjjgpaa
open Go.Sl
attribute [local irreducible] BodyQ WpC WpL WpS WpH OpW FnS


theorem xnew_s {w0 : World} {H : Hp} (segs size : Int) : FnS Try.prog w0 28 #[shV segs size] H (fun e H' => ∃ o : Xo, e = .returned (ptr o.b) ∧ H' = o.seg 90 segs size Gm.new Gm.new :: H) := by
  refine FnS_intro (n := 8) (rs := [.tmp 2]) (vs := [shV segs size]) Try.func28 rfl Try.ntmps28 rfl rfl ?_
  refine C_seq ?_
  refine C_region ?_
  refine L_op rfl (op_box rfl rfl rfl (fun B1 => ?_))
  refine L_y rfl (y_assign rfl) rfl ?_
  refine L_nil ?_
  refine C_seq ?_
  refine C_region ?_
  refine L_y rfl (y_loadA rfl ag_23 sz_23 (sees 0 0 rfl) (Nat.le_of_ble_eq_true rfl) rfl) rfl ?_
  refine L_op rfl (op_makeMapG .u64 rfl (fun B2 => ?_))
  refine L_op rfl (op_makeMapG .i64 rfl (fun B3 => ?_))
  refine L_y rfl (y_build (vs := [(0, _), (1, _), (2, _)]) (l := [.int .i64 segs, .int .i64 size, .map (some B2), .map (some B3)]) rfl pl_90 zl_90 (fill_cons (off := 0) (m := 2) (vs := [_, _]) rfl rfl rfl (Nat.le_of_ble_eq_true rfl) (fill_cons (off := 2) (m := 1) (vs := [_]) rfl rfl rfl (Nat.le_of_ble_eq_true rfl) (fill_cons (off := 3) (m := 1) (vs := [_]) rfl rfl rfl (Nat.le_of_ble_eq_true rfl) rfl)))) rfl ?_
  refine L_op rfl (op_box rfl rfl rfl (fun B4 => ?_))
  refine L_y rfl (y_assign rfl) rfl ?_
  refine L_nil ?_
  refine C_ret ?_
  refine B_ret (rv_tmp rfl rv_nil) (xgroup (o := ⟨B4, B2, B3⟩) rfl) ?_
  exact ⟨⟨B4, B2, B3⟩, rfl, rfl⟩

theorem slot_0 {w0 : World} {H : Hp} {o : Xo} {segs size : Int} {A L : Gm} (n : Nat) (a : Int) (h0 : n = 0) : FnS Try.prog w0 46 #[ptr o.b, .int .u64 (n : Int), .int .i64 a] (o.seg 90 segs size A L :: H) (fun e H' => e = .returned (.tuple #[.int .i64 0, .int .i64 1]) ∧ H' = o.seg 90 segs size A L :: H) := by
  refine FnS_intro (n := 30) (rs := [.tmp 6, .tmp 7]) (vs := [ptr o.b, .int .u64 (n : Int), .int .i64 a]) Try.func46 rfl Try.ntmps46 rfl rfl ?_
  refine C_seq ?_
  refine C_region ?_
  refine L_y rfl (y_assign rfl) rfl ?_
  refine L_y rfl (y_assign rfl) rfl ?_
  refine L_nil ?_
  refine C_seq ?_
  refine C_seq ?_
  refine C_region ?_
  refine L_y rfl (y_move rfl) rfl ?_
  refine L_y rfl (y_eqp rfl rfl Try.underlying29) rfl ?_
  refine L_y rfl (y_move rfl) rfl ?_
  refine L_y rfl (y_move rfl) rfl ?_
  refine L_y rfl (y_eqi rfl rfl) rfl ?_
  refine L_y rfl (y_pick_f rfl rfl) rfl ?_
  refine L_nil ?_
  refine C_cond rfl (fun hc0 => ?_) (fun hc0 => absurd hc0 (by simp [h0]))
  refine C_seq ?_
  refine C_region ?_
  refine L_y rfl (y_assign rfl) rfl ?_
  refine L_y rfl (y_assign rfl) rfl ?_
  refine L_nil ?_
  refine C_ret ?_
  refine B_ret (rv_tmp rfl (rv_tmp rfl rv_nil)) ((hsub (.cons_cons _ (.refl _))).trans (hsub_pick [0] rfl)) ?_
  exact ⟨rfl, rfl⟩

theorem slot_n {w0 : World} {H : Hp} {o : Xo} {segs size : Int} {A L : Gm} (n : Nat) (a : Int) (h0 : n ≠ 0) : FnS Try.prog w0 46 #[ptr o.b, .int .u64 (n : Int), .int .i64 a] (o.seg 90 segs size A L :: H) (fun e H' => e = .returned (.tuple #[.int .i64 ((ofS segs size a).getD 0), .int .i64 (if (ofS segs size a).isSome then 0 else 2)]) ∧ H' = o.seg 90 segs size A L :: H) := by
  refine FnS_intro (n := 30) (rs := [.tmp 6, .tmp 7]) (vs := [ptr o.b, .int .u64 (n : Int), .int .i64 a]) Try.func46 rfl Try.ntmps46 rfl rfl ?_
  refine C_seq ?_
  refine C_region ?_
  refine L_y rfl (y_assign rfl) rfl ?_
  refine L_y rfl (y_assign rfl) rfl ?_
  refine L_nil ?_
  refine C_seq ?_
  refine C_seq ?_
  refine C_region ?_
  refine L_y rfl (y_move rfl) rfl ?_
  refine L_y rfl (y_eqp rfl rfl Try.underlying29) rfl ?_
  refine L_y rfl (y_move rfl) rfl ?_
  refine L_y rfl (y_move rfl) rfl ?_
  refine L_y rfl (y_eqi rfl rfl) rfl ?_
  refine L_y rfl (y_pick_f rfl rfl) rfl ?_
  refine L_nil ?_
  refine C_cond rfl (fun hc0 => absurd hc0 (by simp <;> omega)) (fun hc0 => ?_)
  refine C_skip ?_
  refine C_seq ?_
  refine C_region ?_
  refine L_y rfl (y_move rfl) rfl ?_
  refine L_y rfl (y_nilCheck rfl) rfl ?_
  refine L_y rfl (y_fieldAddr rfl fl_90_0) rfl ?_
  refine L_y rfl (y_loadA rfl ag_23 sz_23 (sees 0 0 rfl) (Nat.le_of_ble_eq_true rfl) rfl) rfl ?_
  refine L_y rfl (y_move rfl) rfl ?_
  refine L_op rfl (op_call rfl rfl (fun a w => Try.call44 a w) rfl ?_)
  refine (of_s segs size a).mono ?_
  rintro _ _ ⟨rfl, e⟩
  obtain rfl := e.symm
  clear e
  refine ⟨_, rfl, ?_⟩
  refine L_y rfl (y_move rfl) rfl ?_
  refine L_y rfl (y_extract rfl rfl) rfl ?_
  refine L_y rfl (y_extract rfl rfl) rfl ?_
  refine L_y rfl (y_extract rfl rfl) rfl ?_
  refine L_y rfl (y_assign rfl) rfl ?_
  refine L_y rfl (y_assign rfl) rfl ?_
  refine L_y rfl (y_assign rfl) rfl ?_
  refine L_nil ?_
  refine C_seq ?_
  refine C_seq ?_
  refine C_region ?_
  refine L_y rfl (y_move rfl) rfl ?_
  refine L_y rfl (y_not rfl) rfl ?_
  refine L_nil ?_
  refine C_cond rfl (fun hc1 => ?_) (fun hc1 => ?_)
  · skip
    refine C_seq ?_
    refine C_region ?_
    refine L_y rfl (y_assign rfl) rfl ?_
    refine L_y rfl (y_assign rfl) rfl ?_
    refine L_nil ?_
    refine C_ret ?_
    refine B_ret (rv_tmp rfl (rv_tmp rfl rv_nil)) ((hsub (.cons_cons _ (.refl _))).trans (hsub_pick [0] rfl)) ?_
    refine ⟨?_, rfl⟩
    cases hq : ofS segs size a <;> rw [hq] at hc1 <;> first | rfl | exact absurd hc1 (by simp)
  · skip
    refine C_skip ?_
    refine C_seq ?_
    refine C_region ?_
    refine L_y rfl (y_move rfl) rfl ?_
    refine L_y rfl (y_assign rfl) rfl ?_
    refine L_y rfl (y_assign rfl) rfl ?_
    refine L_nil ?_
    refine C_ret ?_
    refine B_ret (rv_tmp rfl (rv_tmp rfl rv_nil)) ((hsub (.cons_cons _ (.refl _))).trans (hsub_pick [0] rfl)) ?_
    refine ⟨?_, rfl⟩
    cases hq : ofS segs size a <;> rw [hq] at hc1 <;> first | rfl | exact absurd hc1 (by simp)

theorem xput_0 {w0 : World} {H : Hp} {o : Xo} {segs size : Int} {l : Xl} {A L : Gm} (h : Xm segs size l A L) (n : Nat) (hn : n < 18446744073709551616) (a : Int) (hl : l.length < 4611686018427387904) (h0 : n = 0) : FnS Try.prog w0 30 #[ptr o.b, .int .u64 (n : Int), .int .i64 a] (o.seg 90 segs size A L :: H) (fun e H' => e = .returned (.int .i64 (xput segs size l n a false).2) ∧ ∃ A' L', Xm segs size (xput segs size l n a false).1 A' L' ∧ H' = o.seg 90 segs size A' L' :: H) := by
  refine FnS_intro (n := 44) (rs := [.tmp 6]) (vs := [ptr o.b, .int .u64 (n : Int), .int .i64 a]) Try.func30 rfl Try.ntmps30 rfl rfl ?_
  refine C_seq ?_
  refine C_region ?_
  refine L_y rfl (y_assign rfl) rfl ?_
  refine L_nil ?_
  refine C_seq ?_
  refine C_region ?_
  refine L_y rfl (y_move rfl) rfl ?_
  refine L_y rfl (y_move rfl) rfl ?_
  refine L_y rfl (y_move rfl) rfl ?_
  refine L_op rfl (op_call rfl rfl (fun a w => Try.call46 a w) rfl ?_)
  refine (slot_0 n a h0).mono ?_
  rintro _ _ ⟨rfl, rfl⟩
  refine ⟨_, rfl, ?_⟩
  refine L_y rfl (y_move rfl) rfl ?_
  refine L_y rfl (y_extract rfl rfl) rfl ?_
  refine L_y rfl (y_extract rfl rfl) rfl ?_
  refine L_y rfl (y_assign rfl) rfl ?_
  refine L_y rfl (y_assign rfl) rfl ?_
  refine L_nil ?_
  refine C_seq ?_
  refine C_seq ?_
  refine C_region ?_
  refine L_y rfl (y_move rfl) rfl ?_
  refine L_y rfl (y_nei rfl rfl) rfl ?_
  refine L_nil ?_
  refine C_cond_t rfl ?_
  refine C_seq ?_
  refine C_region ?_
  refine L_y rfl (y_move rfl) rfl ?_
  refine L_y rfl (y_assign rfl) rfl ?_
  refine L_nil ?_
  refine C_ret ?_
  refine B_ret (rv_tmp rfl rv_nil) ((hsub (.cons_cons _ (.refl _))).trans (hsub_pick [0] rfl)) ?_
  have e4 : xput segs size l n a false = (l, 1) := by simp [xput, h0]
  rw [e4]
  exact ⟨rfl, A, L, h, rfl⟩

theorem xput_r {w0 : World} {H : Hp} {o : Xo} {segs size : Int} {l : Xl} {A L : Gm} (h : Xm segs size l A L) (n : Nat) (hn : n < 18446744073709551616) (a : Int) (hl : l.length < 4611686018427387904) (h0 : n ≠ 0) (ho : ofS segs size a = none) : FnS Try.prog w0 30 #[ptr o.b, .int .u64 (n : Int), .int .i64 a] (o.seg 90 segs size A L :: H) (fun e H' => e = .returned (.int .i64 (xput segs size l n a false).2) ∧ ∃ A' L', Xm segs size (xput segs size l n a false).1 A' L' ∧ H' = o.seg 90 segs size A' L' :: H) := by
  refine FnS_intro (n := 44) (rs := [.tmp 6]) (vs := [ptr o.b, .int .u64 (n : Int), .int .i64 a]) Try.func30 rfl Try.ntmps30 rfl rfl ?_
  refine C_seq ?_
  refine C_region ?_
  refine L_y rfl (y_assign rfl) rfl ?_
  refine L_nil ?_
  refine C_seq ?_
  refine C_region ?_
  refine L_y rfl (y_move rfl) rfl ?_
  refine L_y rfl (y_move rfl) rfl ?_
  refine L_y rfl (y_move rfl) rfl ?_
  refine L_op rfl (op_call rfl rfl (fun a w => Try.call46 a w) rfl ?_)
  have hz := slot_n (w0 := w0) (H := H) (o := o) (segs := segs) (size := size) (A := A) (L := L) n a h0
  rw [ho] at hz
  try simp only [Option.getD_some, Option.isSome_some, if_true] at hz
  refine hz.mono ?_
  rintro _ _ ⟨rfl, rfl⟩
  refine ⟨_, rfl, ?_⟩
  refine L_y rfl (y_move rfl) rfl ?_
  refine L_y rfl (y_extract rfl rfl) rfl ?_
  refine L_y rfl (y_extract rfl rfl) rfl ?_
  refine L_y rfl (y_assign rfl) rfl ?_
  refine L_y rfl (y_assign rfl) rfl ?_
  refine L_nil ?_
  refine C_seq ?_
  refine C_seq ?_
  refine C_region ?_
  refine L_y rfl (y_move rfl) rfl ?_
  refine L_y rfl (y_nei rfl rfl) rfl ?_
  refine L_nil ?_
  refine C_cond_t rfl ?_
  refine C_seq ?_
  refine C_region ?_
  refine L_y rfl (y_move rfl) rfl ?_
  refine L_y rfl (y_assign rfl) rfl ?_
  refine L_nil ?_
  refine C_ret ?_
  refine B_ret (rv_tmp rfl rv_nil) ((hsub (.cons_cons _ (.refl _))).trans (hsub_pick [0] rfl)) ?_
  have e4 : xput segs size l n a false = (l, 2) := by simp [xput, h0, ho]
  rw [e4]
  exact ⟨rfl, A, L, h, rfl⟩

theorem xput_t {w0 : World} {H : Hp} {o : Xo} {segs size : Int} {l : Xl} {A L : Gm} (h : Xm segs size l A L) (n : Nat) (hn : n < 18446744073709551616) (a : Int) (hl : l.length < 4611686018427387904) (h0 : n ≠ 0) {s : Int} (ho : ofS segs size a = some s) {b : Int} (hf : xfind l n = some b) : FnS Try.prog w0 30 #[ptr o.b, .int .u64 (n : Int), .int .i64 a] (o.seg 90 segs size A L :: H) (fun e H' => e = .returned (.int .i64 (xput segs size l n a false).2) ∧ ∃ A' L', Xm segs size (xput segs size l n a false).1 A' L' ∧ H' = o.seg 90 segs size A' L' :: H) := by
  refine FnS_intro (n := 44) (rs := [.tmp 6]) (vs := [ptr o.b, .int .u64 (n : Int), .int .i64 a]) Try.func30 rfl Try.ntmps30 rfl rfl ?_
  refine C_seq ?_
  refine C_region ?_
  refine L_y rfl (y_assign rfl) rfl ?_
  refine L_nil ?_
  refine C_seq ?_
  refine C_region ?_
  refine L_y rfl (y_move rfl) rfl ?_
  refine L_y rfl (y_move rfl) rfl ?_
  refine L_y rfl (y_move rfl) rfl ?_
  refine L_op rfl (op_call rfl rfl (fun a w => Try.call46 a w) rfl ?_)
  have hz := slot_n (w0 := w0) (H := H) (o := o) (segs := segs) (size := size) (A := A) (L := L) n a h0
  rw [ho] at hz
  try simp only [Option.getD_some, Option.isSome_some, if_true] at hz
  refine hz.mono ?_
  rintro _ _ ⟨rfl, rfl⟩
  refine ⟨_, rfl, ?_⟩
  refine L_y rfl (y_move rfl) rfl ?_
  refine L_y rfl (y_extract rfl rfl) rfl ?_
  refine L_y rfl (y_extract rfl rfl) rfl ?_
  refine L_y rfl (y_assign rfl) rfl ?_
  refine L_y rfl (y_assign rfl) rfl ?_
  refine L_nil ?_
  refine C_seq ?_
  refine C_seq ?_
  refine C_region ?_
  refine L_y rfl (y_move rfl) rfl ?_
  refine L_y rfl (y_nei rfl rfl) rfl ?_
  refine L_nil ?_
  refine C_cond_f rfl ?_
  refine C_skip ?_
  refine C_seq ?_
  refine C_seq ?_
  refine C_region ?_
  refine L_y rfl (y_move rfl) rfl ?_
  refine L_y rfl (y_nilCheck rfl) rfl ?_
  refine L_y rfl (y_fieldAddr rfl fl_90_1) rfl ?_
  refine L_y rfl (y_load rfl ag_87 (sees 0 0 rfl) rfl) rfl ?_
  refine L_y rfl (y_move rfl) rfl ?_
  refine L_y rfl (y_lookupG2 rfl rfl Try.underlying87 Try.underlying48 zt_3 (sees 0 1 rfl)) rfl ?_
  rw [h.get, hf]
  refine L_y rfl (y_move rfl) rfl ?_
  refine L_y rfl (y_extract rfl rfl) rfl ?_
  refine L_y rfl (y_extract rfl rfl) rfl ?_
  refine L_y rfl (y_assign rfl) rfl ?_
  refine L_y rfl (y_assign rfl) rfl ?_
  refine L_nil ?_
  refine C_seq ?_
  refine C_region ?_
  refine L_y rfl (y_move rfl) rfl ?_
  refine L_nil ?_
  refine C_cond_t rfl ?_
  refine C_seq ?_
  refine C_region ?_
  refine L_y rfl (y_assign rfl) rfl ?_
  refine L_nil ?_
  refine C_ret ?_
  refine B_ret (rv_tmp rfl rv_nil) ((hsub (.cons_cons _ (.refl _))).trans (hsub_pick [0] rfl)) ?_
  have e4 : xput segs size l n a false = (l, 5) := by simp [xput, h0, ho, hf]
  rw [e4]
  exact ⟨rfl, A, L, h, rfl⟩

theorem xput_y {w0 : World} {H : Hp} {o : Xo} {segs size : Int} {l : Xl} {A L : Gm} (h : Xm segs size l A L) (n : Nat) (hn : n < 18446744073709551616) (a : Int) (hl : l.length < 4611686018427387904) (h0 : n ≠ 0) {s : Int} (ho : ofS segs size a = some s) (hf : xfind l n = none) : FnS Try.prog w0 30 #[ptr o.b, .int .u64 (n : Int), .int .i64 a] (o.seg 90 segs size A L :: H) (fun e H' => e = .returned (.int .i64 (xput segs size l n a false).2) ∧ ∃ A' L', Xm segs size (xput segs size l n a false).1 A' L' ∧ H' = o.seg 90 segs size A' L' :: H) := by
  have hc := cnt_le segs size l s
  refine FnS_intro (n := 44) (rs := [.tmp 6]) (vs := [ptr o.b, .int .u64 (n : Int), .int .i64 a]) Try.func30 rfl Try.ntmps30 rfl rfl ?_
  refine C_seq ?_
  refine C_region ?_
  refine L_y rfl (y_assign rfl) rfl ?_
  refine L_nil ?_
  refine C_seq ?_
  refine C_region ?_
  refine L_y rfl (y_move rfl) rfl ?_
  refine L_y rfl (y_move rfl) rfl ?_
  refine L_y rfl (y_move rfl) rfl ?_
  refine L_op rfl (op_call rfl rfl (fun a w => Try.call46 a w) rfl ?_)
  have hz := slot_n (w0 := w0) (H := H) (o := o) (segs := segs) (size := size) (A := A) (L := L) n a h0
  rw [ho] at hz
  try simp only [Option.getD_some, Option.isSome_some, if_true] at hz
  refine hz.mono ?_
  rintro _ _ ⟨rfl, rfl⟩
  refine ⟨_, rfl, ?_⟩
  refine L_y rfl (y_move rfl) rfl ?_
  refine L_y rfl (y_extract rfl rfl) rfl ?_
  refine L_y rfl (y_extract rfl rfl) rfl ?_
  refine L_y rfl (y_assign rfl) rfl ?_
  refine L_y rfl (y_assign rfl) rfl ?_
  refine L_nil ?_
  refine C_seq ?_
  refine C_seq ?_
  refine C_region ?_
  refine L_y rfl (y_move rfl) rfl ?_
  refine L_y rfl (y_nei rfl rfl) rfl ?_
  refine L_nil ?_
  refine C_cond_f rfl ?_
  refine C_skip ?_
  refine C_seq ?_
  refine C_seq ?_
  refine C_region ?_
  refine L_y rfl (y_move rfl) rfl ?_
  refine L_y rfl (y_nilCheck rfl) rfl ?_
  refine L_y rfl (y_fieldAddr rfl fl_90_1) rfl ?_
  refine L_y rfl (y_load rfl ag_87 (sees 0 0 rfl) rfl) rfl ?_
  refine L_y rfl (y_move rfl) rfl ?_
  refine L_y rfl (y_lookupG2 rfl rfl Try.underlying87 Try.underlying48 zt_3 (sees 0 1 rfl)) rfl ?_
  rw [h.get, hf]
  refine L_y rfl (y_move rfl) rfl ?_
  refine L_y rfl (y_extract rfl rfl) rfl ?_
  refine L_y rfl (y_extract rfl rfl) rfl ?_
  refine L_y rfl (y_assign rfl) rfl ?_
  refine L_y rfl (y_assign rfl) rfl ?_
  refine L_nil ?_
  refine C_seq ?_
  refine C_region ?_
  refine L_y rfl (y_move rfl) rfl ?_
  refine L_nil ?_
  refine C_cond_f rfl ?_
  refine C_skip ?_
  refine C_seq ?_
  refine C_region ?_
  refine L_y rfl (y_move rfl) rfl ?_
  refine L_y rfl (y_nilCheck rfl) rfl ?_
  refine L_y rfl (y_fieldAddr rfl fl_90_1) rfl ?_
  refine L_y rfl (y_load rfl ag_87 (sees 0 0 rfl) rfl) rfl ?_
  refine L_y rfl (y_move rfl) rfl ?_
  refine L_y rfl (y_move rfl) rfl ?_
  refine L_op rfl (op_mapUpdateG 0 1 rfl rfl rfl Try.underlying87 Try.underlying48 h.okA rfl rfl ?_)
  refine L_nil ?_
  refine C_seq ?_
  refine C_region ?_
  refine L_y rfl (y_move rfl) rfl ?_
  refine L_y rfl (y_nilCheck rfl) rfl ?_
  refine L_y rfl (y_fieldAddr rfl fl_90_2) rfl ?_
  refine L_y rfl (y_load rfl ag_88 (sees 0 0 rfl) rfl) rfl ?_
  refine L_y rfl (y_move rfl) rfl ?_
  refine L_y rfl (y_lookupG rfl rfl Try.underlying88 Try.underlying3 zt_3 (sees 0 2 rfl)) rfl ?_
  rw [h.liv]
  refine L_y rfl (y_add rfl rfl (wi64 (by omega) (by omega))) rfl ?_
  refine L_op rfl (op_mapUpdateG 0 2 rfl rfl rfl Try.underlying88 Try.underlying3 h.okL rfl rfl ?_)
  refine L_nil ?_
  refine C_seq ?_
  refine C_region ?_
  refine L_y rfl (y_assign rfl) rfl ?_
  refine L_nil ?_
  refine C_ret ?_
  refine B_ret (rv_tmp rfl rv_nil) ((hsub (.cons_cons _ (.refl _))).trans (hsub_pick [0] rfl)) ?_
  have e4 : xput segs size l n a false = (xins l n a, 0) := by simp [xput, h0, ho, hf]
  rw [e4]
  exact ⟨rfl, _, _, h.put h0 hn hf ho, rfl⟩

theorem xput_s {w0 : World} {H : Hp} {o : Xo} {segs size : Int} {l : Xl} {A L : Gm} (h : Xm segs size l A L) (n : Nat) (hn : n < 18446744073709551616) (a : Int) (hl : l.length < 4611686018427387904) : FnS Try.prog w0 30 #[ptr o.b, .int .u64 (n : Int), .int .i64 a] (o.seg 90 segs size A L :: H) (fun e H' => e = .returned (.int .i64 (xput segs size l n a false).2) ∧ ∃ A' L', Xm segs size (xput segs size l n a false).1 A' L' ∧ H' = o.seg 90 segs size A' L' :: H) := by
  by_cases h0 : n = 0
  · exact xput_0 h n hn a hl h0
  · cases ho : ofS segs size a with
    | none => exact xput_r h n hn a hl h0 ho
    | some s =>
      cases hf : xfind l n with
      | some b => exact xput_t h n hn a hl h0 ho hf
      | none => exact xput_y h n hn a hl h0 ho hf

theorem xat_s {w0 : World} {H : Hp} {o : Xo} {segs size : Int} {l : Xl} {A L : Gm} (h : Xm segs size l A L) (n : Nat) : FnS Try.prog w0 33 #[ptr o.b, .int .u64 (n : Int)] (o.seg 90 segs size A L :: H) (fun e H' => e = .returned (.tuple #[.int .i64 ((xfind l n).getD 0), .bool (xfind l n).isSome]) ∧ H' = o.seg 90 segs size A L :: H) := by
  refine FnS_intro (n := 21) (rs := [.tmp 4, .tmp 5]) (vs := [ptr o.b, .int .u64 (n : Int)]) Try.func33 rfl Try.ntmps33 rfl rfl ?_
  refine C_seq ?_
  refine C_region ?_
  refine L_y rfl (y_assign rfl) rfl ?_
  refine L_y rfl (y_assign rfl) rfl ?_
  refine L_nil ?_
  refine C_seq ?_
  refine C_seq ?_
  refine C_region ?_
  refine L_y rfl (y_move rfl) rfl ?_
  refine L_y rfl (y_eqp rfl rfl Try.underlying29) rfl ?_
  refine L_nil ?_
  refine C_cond_f rfl ?_
  refine C_skip ?_
  refine C_seq ?_
  refine C_region ?_
  refine L_y rfl (y_move rfl) rfl ?_
  refine L_y rfl (y_nilCheck rfl) rfl ?_
  refine L_y rfl (y_fieldAddr rfl fl_90_1) rfl ?_
  refine L_y rfl (y_load rfl ag_87 (sees 0 0 rfl) rfl) rfl ?_
  refine L_y rfl (y_move rfl) rfl ?_
  refine L_y rfl (y_lookupG2 rfl rfl Try.underlying87 Try.underlying48 zt_3 (sees 0 1 rfl)) rfl ?_
  refine L_y rfl (y_move rfl) rfl ?_
  refine L_y rfl (y_extract rfl rfl) rfl ?_
  refine L_y rfl (y_extract rfl rfl) rfl ?_
  refine L_y rfl (y_assign rfl) rfl ?_
  refine L_y rfl (y_assign rfl) rfl ?_
  refine L_nil ?_
  refine C_seq ?_
  refine C_region ?_
  refine L_y rfl (y_move rfl) rfl ?_
  refine L_y rfl (y_move rfl) rfl ?_
  refine L_y rfl (y_assign rfl) rfl ?_
  refine L_y rfl (y_assign rfl) rfl ?_
  refine L_nil ?_
  refine C_ret ?_
  refine B_ret (rv_tmp rfl (rv_tmp rfl rv_nil)) ((hsub (.cons_cons _ (.refl _))).trans (hsub_pick [0] rfl)) ?_
  refine ⟨?_, rfl⟩
  rw [h.get]
  cases xfind l n <;> rfl

theorem xlen_s {w0 : World} {H : Hp} {o : Xo} {segs size : Int} {l : Xl} {A L : Gm} (h : Xm segs size l A L) : FnS Try.prog w0 15 #[ptr o.b] (o.seg 90 segs size A L :: H) (fun e H' => e = .returned (.int .i64 (l.length : Int)) ∧ H' = o.seg 90 segs size A L :: H) := by
  refine FnS_intro (n := 10) (rs := [.tmp 2]) (vs := [ptr o.b]) Try.func15 rfl Try.ntmps15 rfl rfl ?_
  refine C_seq ?_
  refine C_region ?_
  refine L_y rfl (y_assign rfl) rfl ?_
  refine L_nil ?_
  refine C_seq ?_
  refine C_seq ?_
  refine C_region ?_
  refine L_y rfl (y_move rfl) rfl ?_
  refine L_y rfl (y_eqp rfl rfl Try.underlying29) rfl ?_
  refine L_nil ?_
  refine C_cond_f rfl ?_
  refine C_skip ?_
  refine C_seq ?_
  refine C_region ?_
  refine L_y rfl (y_move rfl) rfl ?_
  refine L_y rfl (y_nilCheck rfl) rfl ?_
  refine L_y rfl (y_fieldAddr rfl fl_90_1) rfl ?_
  refine L_y rfl (y_load rfl ag_87 (sees 0 0 rfl) rfl) rfl ?_
  refine L_y rfl (y_lenG rfl rfl Try.underlying87 (sees 0 1 rfl)) rfl ?_
  refine L_y rfl (y_assign rfl) rfl ?_
  refine L_nil ?_
  refine C_ret ?_
  refine B_ret (rv_tmp rfl rv_nil) ((hsub (.cons_cons _ (.refl _))).trans (hsub_pick [0] rfl)) ?_
  exact ⟨by rw [h.len]; rfl, rfl⟩

theorem xlive_s {w0 : World} {H : Hp} {o : Xo} {segs size : Int} {l : Xl} {A L : Gm} (h : Xm segs size l A L) (s : Int) : FnS Try.prog w0 20 #[ptr o.b, .int .i64 s] (o.seg 90 segs size A L :: H) (fun e H' => e = .returned (.int .i64 (cnt18 segs size l s : Int)) ∧ H' = o.seg 90 segs size A L :: H) := by
  refine FnS_intro (n := 13) (rs := [.tmp 4]) (vs := [ptr o.b, .int .i64 s]) Try.func20 rfl Try.ntmps20 rfl rfl ?_
  refine C_seq ?_
  refine C_region ?_
  refine L_y rfl (y_assign rfl) rfl ?_
  refine L_nil ?_
  refine C_seq ?_
  refine C_seq ?_
  refine C_region ?_
  refine L_y rfl (y_move rfl) rfl ?_
  refine L_y rfl (y_eqp rfl rfl Try.underlying29) rfl ?_
  refine L_nil ?_
  refine C_cond_f rfl ?_
  refine C_skip ?_
  refine C_seq ?_
  refine C_region ?_
  refine L_y rfl (y_move rfl) rfl ?_
  refine L_y rfl (y_nilCheck rfl) rfl ?_
  refine L_y rfl (y_fieldAddr rfl fl_90_2) rfl ?_
  refine L_y rfl (y_load rfl ag_88 (sees 0 0 rfl) rfl) rfl ?_
  refine L_y rfl (y_move rfl) rfl ?_
  refine L_y rfl (y_lookupG rfl rfl Try.underlying88 Try.underlying3 zt_3 (sees 0 2 rfl)) rfl ?_
  refine L_y rfl (y_assign rfl) rfl ?_
  refine L_nil ?_
  refine C_ret ?_
  refine B_ret (rv_tmp rfl rv_nil) ((hsub (.cons_cons _ (.refl _))).trans (hsub_pick [0] rfl)) ?_
  exact ⟨by rw [h.liv]; rfl, rfl⟩

end Go.Proofs.Ytighbhplfjjgpaa

/- A row of numbers in memory, and the plain sort (own work). -/
set_option linter.unusedVariables false
set_option linter.unusedSimpArgs false
namespace Go.Sl
open Go.Sort (swp)
def us (l : List Nat) : List Value := l.map fun x : Nat => Value.int .u64 (x : Int)
theorem us_len (l : List Nat) : (us l).length = l.length := by simp [us]
def ltN (x y : Nat) : Bool := decide (x < y)
theorem us_at {d : Array Nat} {sp : List Value} {i : Nat} (h : i < d.size) : (us d.toList ++ sp)[i]? = some (.int .u64 ((d[i]! : Nat) : Int)) := by
  rw [List.getElem?_append_left (by simpa [us] using h)]
  simp [us, h]
theorem us_set {d : Array Nat} {sp : List Value} {i v : Nat} (h : i < d.size) : (us d.toList ++ sp).set i (.int .u64 (v : Int)) = us (d.setIfInBounds i v).toList ++ sp := by
  rw [List.set_append_left _ _ (by simpa [us] using h)]
  congr 1
  simp [us, List.map_set]
theorem us_swp {d : Array Nat} {sp : List Value} {i j : Nat} (hi : i < d.size) (hj : j < d.size) : ((us d.toList ++ sp).set i (.int .u64 ((d[j]! : Nat) : Int))).set j (.int .u64 ((d[i]! : Nat) : Int)) = us (swp d i j).toList ++ sp := by
  rw [us_set hi, us_set (by simpa using hj)]
  rfl
theorem swp_size (d : Array Nat) (i j : Nat) : (swp d i j).size = d.size := by simp [swp]
abbrev useg (t sb : Nat) (d : Array Nat) (sp : List Value) : List (Nat × Obj) := [(sb, .cells (us d.toList ++ sp).toArray t)]
theorem us_lt {d : Array Nat} {sp : List Value} {i : Nat} (h : i < d.size) : i < (us d.toList ++ sp).length := by
  rw [List.length_append, us_len]; simp; omega
/-! ### insertionSort, as the code has it -/
theorem ins_step {a j : Nat} {d : Array Nat} (h : a < j) (hl : ltN d[j]! d[j - 1]! = true) : Go.Sort.insInner ltN a j d = Go.Sort.insInner ltN a (j - 1) (swp d j (j - 1)) := by
  cases j with
  | zero => omega
  | succ j =>
    rw [Go.Sort.insInner, if_pos]
    · rfl
    · simp only [Nat.add_sub_cancel] at hl
      simp [hl]; omega
theorem ins_stop {a j : Nat} {d : Array Nat} (h : ¬ a < j ∨ ltN d[j]! d[j - 1]! = false) : Go.Sort.insInner ltN a j d = d := by
  cases j with
  | zero => rfl
  | succ j =>
    rw [Go.Sort.insInner, if_neg]
    rcases h with h | h
    · simp; omega
    · simp only [Nat.add_sub_cancel] at h
      simp [h]
theorem ins_next {a b i : Nat} {d : Array Nat} (h : i < b) : Go.Sort.insOuter ltN a b i d = Go.Sort.insOuter ltN a b (i + 1) (Go.Sort.insInner ltN a i d) := by
  rw [Go.Sort.insOuter, if_pos h]
theorem ins_over {a b i : Nat} {d : Array Nat} (h : ¬ i < b) : Go.Sort.insOuter ltN a b i d = d := by
  rw [Go.Sort.insOuter, if_neg h]
theorem swo_N : Go.Sort.SWO ltN := ⟨fun x => by simp [ltN], fun x y z h1 h2 => by simp [ltN] at *; omega, fun x y z h1 h2 => by simp [ltN] at *; omega⟩
/-! ### bits.Len -/
section
variable {P : Program} {n : FN} {E : Env} {W : World → Prop} {ty t : Nat} {x y : Operand}
theorem y_indexStr {s : ByteArray} {k : IntKind} {i : Int} {b : UInt8} (hx : ev E x = some (.string s)) (hy : ev E y = some (.int k i)) (hu : P.underlying t = some .string) (h0 : 0 ≤ i) (hb : s[i.toNat]? = some b) : YV P n E W (.index t x y) ty (.int .u8 (b.toNat : Int)) := fun a w ha _ d ps af g => by
  have hr : (Instr.index t (.string s) (.int k i)).run P w = .ok (.int .u8 (b.toNat : Int)) w := by
    unfold Instr.index
    simp only [asIntOf, Sem.run_bind, Sem.run_pure, Result.andThen_ok, run_underlying hu]
    rw [if_pos h0, hb]
    rfl
  simp only [execOp, ha.eval hx, ha.eval hy]
  rw [Sem.run_bind, hr]
  rfl
end
def len8 : ByteArray := ⟨((List.range 256).map fun i => UInt8.ofNat (Go.Sort.bitsLen i)).toArray⟩
theorem len8_size : len8.size = 256 := by
  show (((List.range 256).map fun i => UInt8.ofNat (Go.Sort.bitsLen i)).toArray).size = 256
  rw [List.size_toArray, List.length_map, List.length_range]
theorem len8_at {i : Nat} (h : i < 256) : len8[i]? = some (UInt8.ofNat (Go.Sort.bitsLen i)) := by
  rw [getElem?_pos len8 i (by rw [len8_size]; exact h), ByteArray.getElem_eq_getElem_data]
  have : len8.data = ((List.range 256).map fun i => UInt8.ofNat (Go.Sort.bitsLen i)).toArray := rfl
  simp only [this, List.getElem_toArray, List.getElem_map, List.getElem_range]
theorem bits_small {i : Nat} (h : i < 256) : Go.Sort.bitsLen i ≤ 8 := by
  unfold Go.Sort.bitsLen
  split
  · omega
  · rename_i h0
    have : Nat.log2 i < 8 := (Nat.log2_lt h0).2 (by simpa using h)
    omega
theorem bits_shift {x : Nat} (h : 256 ≤ x) : Go.Sort.bitsLen (x / 256) + 8 = Go.Sort.bitsLen x := by
  unfold Go.Sort.bitsLen
  have h0 : x / 256 ≠ 0 := by omega
  rw [if_neg h0, if_neg (by omega)]
  have e : (x / 256).log2 + 8 = x.log2 := by
    symm
    rw [Nat.log2_eq_iff (by omega)]
    have h1 := Nat.log2_self_le h0
    have h2 := Nat.lt_log2_self (n := x / 256)
    rw [Nat.pow_succ] at h2
    constructor
    · rw [Nat.pow_add]; omega
    · rw [Nat.pow_succ, Nat.pow_add]; omega
  omega
/-- What a row sorted in place holds. -/
theorem perm_sorted : ∀ {l1 l2 : List Nat}, l1.Pairwise (· ≤ ·) → l2.Pairwise (· ≤ ·) → l1.Perm l2 → l1 = l2
  | [], l2, _, _, h => (List.Perm.eq_nil h.symm).symm
  | a :: l1, [], _, _, h => by have := h.length_eq; simp at this
  | a :: l1, b :: l2, h1, h2, h => by
    rw [List.pairwise_cons] at h1 h2
    have ha : a ∈ b :: l2 := h.mem_iff.1 (List.mem_cons_self ..)
    have hb : b ∈ a :: l1 := h.mem_iff.2 (List.mem_cons_self ..)
    have e1 : b ≤ a := by rcases List.mem_cons.1 ha with e | m; exact Nat.le_of_eq e.symm; exact h2.1 a m
    have e2 : a ≤ b := by rcases List.mem_cons.1 hb with e | m; exact Nat.le_of_eq e.symm; exact h1.1 b m
    have e : a = b := Nat.le_antisymm e2 e1
    subst e
    rw [perm_sorted h1.2 h2.2 h.cons_inv]
theorem sorted_list {d r : Array Nat} {l : List Nat} (hp : Go.Sort.PermIn 0 d.size d r) (hs : Go.Sort.SortedIn ltN 0 d.size r) (hd : d.toList.Perm l) (hl : l.Pairwise (· ≤ ·)) : r.toList = l := by
  obtain ⟨hz, _, hpp⟩ := hp
  refine perm_sorted ?_ hl ?_
  · rw [List.pairwise_iff_getElem]
    intro i j hi hj hij
    have := hs i j (Nat.zero_le _) hij (by rw [← hz]; simpa using hj)
    simp only [ltN, decide_eq_false_iff_not] at this
    have h1 : i < r.size := by simpa using hi
    have h2 : j < r.size := by simpa using hj
    rw [getElem!_pos r i h1, getElem!_pos r j h2] at this
    simpa using Nat.le_of_not_lt this
  · have e1 : r.extract 0 d.size = r := by rw [← hz]; simp
    have e2 : d.extract 0 d.size = d := by simp
    rw [e1, e2] at hpp
    exact hpp.trans hd
end Go.Sl

/- The numbers of a segment, collected in whatever order (own work). -/
set_option linter.unusedVariables false
set_option linter.unusedSimpArgs false
namespace Go.Sl
def unx (p : Int × Value) : Nat × Int := (p.1.toNat, match p.2 with | .int _ v => v | _ => 0)
theorem unx_xpair (x : Nat × Int) : unx (xpair x) = x := by simp [unx, xpair]
theorem vis_perm {v l : Xl} (h : (v.map xpair).Perm (l.map xpair)) : v.Perm l := by
  have := h.map unx
  rw [List.map_map, List.map_map, show unx ∘ xpair = id from funext unx_xpair, List.map_id, List.map_id] at this
  exact this
theorem xnums_perm {segs size : Int} {v l : Xl} (h : v.Perm l) (s : Int) : (xnums segs size v s).Perm (xnums segs size l s) := (h.filter _).map _
theorem xnums_sorted {segs size : Int} {l : Xl} (h : Xs l) (s : Int) : (xnums segs size l s).Pairwise (· ≤ ·) := by
  unfold xnums
  rw [List.pairwise_map]
  exact (h.sublist List.filter_sublist).imp fun hxy => Nat.le_of_lt hxy
theorem xnums_snoc {segs size : Int} {v : Xl} {q : Nat × Int} (s : Int) : xnums segs size (v ++ [q]) s = xnums segs size v s ++ (if ofS segs size q.2 = some s then [q.1] else []) := by
  unfold xnums
  rw [List.filter_append, List.map_append]
  congr 1
  by_cases e : ofS segs size q.2 = some s <;> simp [e]
abbrev kv (x : Ge) : Int × Value := (x.1, x.2.1)
section
variable {v l : Xl} {A : Gm} {seen : Array Nat} {e : Ge} {q : Nat × Int}
theorem left_in (h : (v.map xpair ++ (A.left seen).map kv).Perm (l.map xpair)) (he : e ∈ A.left seen) : ∃ q, q ∈ l ∧ e.1 = (q.1 : Int) ∧ e.2.1 = .int .i64 q.2 := by
  have h1 : kv e ∈ l.map xpair := h.mem_iff.1 (List.mem_append_right _ (List.mem_map.2 ⟨e, he, rfl⟩))
  obtain ⟨q, hq, e2⟩ := List.mem_map.1 h1
  simp only [xpair, kv, Prod.mk.injEq] at e2
  exact ⟨q, hq, e2.1.symm, e2.2.symm⟩
theorem left_next (ho : A.ok) (h : (v.map xpair ++ (A.left seen).map kv).Perm (l.map xpair)) (he : e ∈ A.left seen) (h1 : e.1 = (q.1 : Int)) (h2 : e.2.1 = .int .i64 q.2) : ((v ++ [q]).map xpair ++ (A.left (seen.push e.2.2)).map kv).Perm (l.map xpair) := by
  refine List.Perm.trans ?_ h
  rw [List.map_append, List.append_assoc]
  refine List.Perm.append_left _ ?_
  have := (Gm.left_push ho he).map kv
  refine List.Perm.trans ?_ this.symm
  rw [List.map_cons]
  have e3 : kv e = xpair q := by simp only [kv, xpair, h1, h2]
  rw [List.map_cons, e3]
  exact List.Perm.refl _
theorem left_start (h : (A.es.map fun x => (x.1, x.2.1)).Perm (l.map xpair)) : (([] : Xl).map xpair ++ (A.left #[]).map kv).Perm (l.map xpair) := by
  rw [Gm.left_new]
  exact h
theorem left_len (h : (v.map xpair ++ (A.left seen).map kv).Perm (l.map xpair)) : v.length ≤ l.length := by
  have := h.length_eq
  simp at this
  omega
theorem left_end (h : (v.map xpair ++ (A.left seen).map kv).Perm (l.map xpair)) (h0 : A.left seen = []) : v.Perm l := by
  rw [h0] at h
  simp only [List.map_nil, List.append_nil] at h
  exact vis_perm h
theorem left_less (ho : A.ok) (he : e ∈ A.left seen) : (A.left (seen.push e.2.2)).length < (A.left seen).length := by
  have := (Gm.left_push ho he).length_eq
  simp at this
  omega
end
theorem us_append (a b : List Nat) : us (a ++ b) = us a ++ us b := by simp [us]
/-! ### The used segment in which the fewest lie -/
def vic (p : Nat → Bool) (c : Nat → Nat) : Nat → Option Nat
  | 0 => none
  | k + 1 => match vic p c k with
    | none => if p k then some k else none
    | some b => if p k && decide (c k < c b) then some k else some b
section
variable {p : Nat → Bool} {c : Nat → Nat} {k b : Nat}
theorem vic_no (h : p k = false) : vic p c (k + 1) = vic p c k := by
  rw [vic]
  cases vic p c k <;> simp [h]
theorem vic_first (h : p k = true) (h2 : vic p c k = none) : vic p c (k + 1) = some k := by rw [vic, h2]; simp [h]
theorem vic_less (h : p k = true) (h2 : vic p c k = some b) (h3 : c k < c b) : vic p c (k + 1) = some k := by rw [vic, h2]; simp [h, h3]
theorem vic_not (h : p k = true) (h2 : vic p c k = some b) (h3 : ¬ c k < c b) : vic p c (k + 1) = vic p c k := by rw [vic, h2]; simp [h, h3]
/-- What it is: used, and none that is used has fewer, nor as few ahead of it. -/
theorem vic_spec : ∀ {n b : Nat}, vic p c n = some b → b < n ∧ p b = true ∧ ∀ j, j < n → p j = true → c b ≤ c j ∧ (c j = c b → b ≤ j)
  | 0, b, h => by cases h
  | n + 1, b, h => by
    rw [vic] at h
    cases hv : vic p c n with
    | none =>
      rw [hv] at h
      simp only at h
      split at h
      · rename_i hp
        obtain rfl := Option.some.inj h
        refine ⟨by omega, hp, fun j hj hpj => ?_⟩
        rcases Nat.lt_or_ge j n with h1 | h1
        · exact absurd hpj (by rw [vic_none hv j h1]; decide)
        · have : j = n := by omega
          subst this
          exact ⟨Nat.le_refl _, fun _ => Nat.le_refl _⟩
      · cases h
    | some q =>
      rw [hv] at h
      simp only at h
      obtain ⟨h1, h2, h3⟩ := vic_spec hv
      split at h
      · rename_i hp
        simp only [Bool.and_eq_true, decide_eq_true_eq] at hp
        obtain rfl := Option.some.inj h
        refine ⟨by omega, hp.1, fun j hj hpj => ?_⟩
        rcases Nat.lt_or_ge j n with hl | hl
        · have := h3 j hl hpj
          exact ⟨by omega, fun e => by omega⟩
        · have : j = n := by omega
          subst this
          exact ⟨Nat.le_refl _, fun _ => Nat.le_refl _⟩
      · rename_i hp
        obtain rfl := Option.some.inj h
        refine ⟨by omega, h2, fun j hj hpj => ?_⟩
        rcases Nat.lt_or_ge j n with hl | hl
        · exact h3 j hl hpj
        · have : j = n := by omega
          subst this
          simp only [hpj, Bool.true_and, decide_eq_true_eq] at hp
          exact ⟨by omega, fun e => by omega⟩
where
  vic_none : ∀ {n : Nat}, vic p c n = none → ∀ j, j < n → p j = false
  | 0, _, j, hj => by omega
  | n + 1, h, j, hj => by
    rw [vic] at h
    cases hv : vic p c n with
    | some q => rw [hv] at h; simp only at h; split at h <;> cases h
    | none =>
      rw [hv] at h
      simp only at h
      split at h
      · cases h
      · rename_i hp
        rcases Nat.lt_or_ge j n with h1 | h1
        · exact vic_none hv j h1
        · have : j = n := by omega
          subst this
          simpa using hp
end
theorem hsub_nilx {r : Hp} : HSub ([] :: r) r := hsub_flat rfl
end Go.Sl

/- walks (own work; the walks' lines by a program of this repo). -/
set_option linter.unusedVariables false
set_option linter.unusedSimpArgs false
set_option maxRecDepth 20000
namespace Go.Proofs.Ytighbhplfjjgpaa
open Go.Sl
attribute [local irreducible] BodyQ WpC WpL WpS WpH OpW FnS


set_option maxHeartbeats 1000000 in

theorem victim_y {w0 : World} {H : Hp} {o : Xo} {segs size : Int} {l : Xl} {A L : Gm} (h : Xm segs size l A L) {f : Nat} {cap : List Value} {C : Nat → List (Nat × Obj)} {p : Nat → Bool} (hcf : ∀ args w, (callFunc f args).run Try.prog w = .ok (.enter f args) w) (hcl : ∀ k : Nat, (k : Int) < segs → ∀ H1, HSub H H1 → FnS Try.prog w0 f ([Value.int .i64 (k : Int)] ++ cap).toArray (C k :: H1) (fun e H2 => e = .returned (.bool (p k)) ∧ H2 = C (k + 1) :: H1)) (hm : mayG segs size = true) : FnS Try.prog w0 40 #[ptr o.b, (.func (.func f) #[] cap.toArray)] (C 0 :: o.seg 90 segs size A L :: H) (fun e H' => e = .returned (.tuple #[.int .i64 (((vic p (fun j => cnt18 segs size l (j : Int)) segs.toNat).getD 0 : Nat) : Int), .bool (vic p (fun j => cnt18 segs size l (j : Int)) segs.toNat).isSome]) ∧ H' = C segs.toNat :: o.seg 90 segs size A L :: H) := by
  obtain ⟨g1, g2, g3, g4⟩ := mayG_spec hm
  refine FnS_intro (n := 57) (rs := [.tmp 4, .tmp 5]) (vs := [ptr o.b, (.func (.func f) #[] cap.toArray)]) Try.func40 rfl Try.ntmps40 rfl rfl ?_
  refine C_seq ?_
  refine C_region ?_
  refine L_y rfl (y_assign rfl) rfl ?_
  refine L_y rfl (y_assign rfl) rfl ?_
  refine L_nil ?_
  refine C_seq ?_
  refine C_seq ?_
  refine C_region ?_
  refine L_y rfl (y_move rfl) rfl ?_
  refine L_y rfl (y_eqp rfl rfl Try.underlying29) rfl ?_
  refine L_y rfl (y_move rfl) rfl ?_
  refine L_y rfl (y_move rfl) rfl ?_
  refine L_y rfl (y_eqfn rfl rfl Try.underlying38) rfl ?_
  refine L_y rfl (y_pick_f rfl rfl) rfl ?_
  refine L_y rfl (y_move rfl) rfl ?_
  refine L_y rfl (y_move rfl) rfl ?_
  refine L_y rfl (y_nilCheck rfl) rfl ?_
  refine L_y rfl (y_fieldAddr rfl fl_90_0) rfl ?_
  refine L_y rfl (y_loadA rfl ag_23 sz_23 (sees 1 0 rfl) (Nat.le_of_ble_eq_true rfl) rfl) rfl ?_
  refine L_op rfl (op_call rfl rfl (fun a w => Try.call9 a w) rfl ?_)
  refine (check_s segs size).mono ?_
  rintro _ _ ⟨rfl, e⟩
  obtain rfl := e.symm
  clear e
  rw [show chkE segs size = 0 from by unfold chkE; rw [hm]; rfl]
  refine ⟨_, rfl, ?_⟩
  refine L_y rfl (y_nei rfl rfl) rfl ?_
  refine L_y rfl (y_pick_f rfl rfl) rfl ?_
  refine L_nil ?_
  refine C_cond_f rfl ?_
  refine C_skip ?_
  refine C_seq ?_
  refine C_region ?_
  refine L_y rfl (y_assign rfl) rfl ?_
  refine L_y rfl (y_assign rfl) rfl ?_
  refine L_nil ?_
  refine C_seq ?_
  refine C_seq ?_
  refine C_region ?_
  refine L_y rfl (y_move rfl) rfl ?_
  refine L_y rfl (y_nilCheck rfl) rfl ?_
  refine L_y rfl (y_fieldAddr rfl fl_90_0) rfl ?_
  refine L_y rfl (y_fieldAddr rfl fl_23_0) rfl ?_
  refine L_y rfl (y_load rfl ag_3 (sees 1 0 rfl) rfl) rfl ?_
  refine L_y rfl (y_move rfl) rfl ?_
  refine L_nil ?_
  refine C_block ?_
  refine C_loop (ι := Nat) (fun k => [(0, ptr o.b), (1, (.func (.func f) #[] cap.toArray)), (6, .int .i64 ((((vic p (fun j => cnt18 segs size l (j : Int)) k).getD 0 : Nat)) : Int)), (7, .bool (vic p (fun j => cnt18 segs size l (j : Int)) k).isSome), (27, .int .i64 segs), (28, .int .i64 (k : Int))]) (fun k => C k :: o.seg 90 segs size A L :: H) (fun k => (k : Int) ≤ segs) (fun k => segs.toNat - k) 0 (by omega) ⟨rfl, rfl, rfl, rfl, rfl, rfl, trivial⟩ ((hsub (.cons_cons _ (.cons_cons _ (.refl _)))).trans (hsub_pick [0, 0] rfl)) (fun k hk => ?_)
  skip
  refine C_seq ?_
  refine C_region ?_
  refine L_y rfl (y_lss rfl rfl) rfl ?_
  refine L_nil ?_
  refine C_seq ?_
  refine C_cond rfl (fun hc1 => ?_) (fun hc1 => ?_)
  · replace hc1 : (k : Int) < segs := of_decide_eq_true hc1
    refine C_skip ?_
    refine C_seq ?_
    refine C_block ?_
    refine C_seq ?_
    refine C_region ?_
    refine L_y rfl (y_move rfl) rfl ?_
    refine L_y rfl (y_assign rfl) rfl ?_
    refine L_nil ?_
    refine C_seq ?_
    refine C_regionH (o.seg 90 segs size A L :: H) (by kernel_rfl) ?_
    refine H_y 0 rfl (by kernel_rfl) (by kernel_rfl) (by kernel_rfl) (((hsub (.cons_cons _ (.cons _ (.refl _)))).trans (hsub_pick [1] rfl))) rfl (y_move rfl) rfl ?_
    refine H_y 1 rfl (by kernel_rfl) (by kernel_rfl) (by kernel_rfl) (((hsub (.cons_cons _ (.cons _ (.refl _)))).trans (hsub_pick [1] rfl))) rfl (y_move rfl) rfl ?_
    refine H_one 2 rfl (by kernel_rfl) rfl (op_call (f := f) (first := []) (cap := cap) rfl rfl hcf rfl ?_)
    refine FnS.mono (hcl k (by omega) _ (HSub.drop _ _)) ?_
    rintro _ _ ⟨rfl, rfl⟩
    refine ⟨_, rfl, ?_⟩
    refine ⟨((hsub (.cons_cons _ (.cons _ (.refl _)))).trans (hsub_pick [1] rfl)), ?_⟩
    refine H_y 3 rfl (by kernel_rfl) (by kernel_rfl) (by kernel_rfl) (((hsub (.cons_cons _ (.cons _ (.refl _)))).trans (hsub_pick [1] rfl))) rfl (y_move rfl) rfl ?_
    refine H_case 34 rfl (fun hg7_4 => ?_) (fun hg7_4 => ?_)
    · have hpk : p k = true := hg7_4
      refine H_y 4 rfl (by kernel_rfl) (by kernel_rfl) (by kernel_rfl) (((hsub (.cons_cons _ (.cons _ (.refl _)))).trans (hsub_pick [1] rfl))) rfl (y_move rfl) rfl ?_
      refine H_y 5 rfl (by kernel_rfl) (by kernel_rfl) (by kernel_rfl) (((hsub (.cons_cons _ (.cons _ (.refl _)))).trans (hsub_pick [1] rfl))) rfl (y_not rfl) rfl ?_
      refine H_y 6 rfl (by kernel_rfl) (by kernel_rfl) (by kernel_rfl) (((hsub (.cons_cons _ (.cons _ (.refl _)))).trans (hsub_pick [1] rfl))) rfl (y_move rfl) rfl ?_
      refine H_case 37 rfl (fun hg7_7 => ?_) (fun hg7_7 => ?_)
      · have hv : (vic p (fun j => cnt18 segs size l (j : Int)) k) = none := by simpa using hg7_7
        refine H_skip 7 rfl (by kernel_rfl) (by kernel_rfl) (by kernel_rfl) (((hsub (.cons_cons _ (.cons _ (.refl _)))).trans (hsub_pick [1] rfl))) rfl rfl ?_
        refine H_skip 8 rfl (by kernel_rfl) (by kernel_rfl) (by kernel_rfl) (((hsub (.cons_cons _ (.cons _ (.refl _)))).trans (hsub_pick [1] rfl))) rfl rfl ?_
        refine H_skip 9 rfl (by kernel_rfl) (by kernel_rfl) (by kernel_rfl) (((hsub (.cons_cons _ (.cons _ (.refl _)))).trans (hsub_pick [1] rfl))) rfl rfl ?_
        refine H_skip 10 rfl (by kernel_rfl) (by kernel_rfl) (by kernel_rfl) (((hsub (.cons_cons _ (.cons _ (.refl _)))).trans (hsub_pick [1] rfl))) rfl rfl ?_
        refine H_skip 11 rfl (by kernel_rfl) (by kernel_rfl) (by kernel_rfl) (((hsub (.cons_cons _ (.cons _ (.refl _)))).trans (hsub_pick [1] rfl))) rfl rfl ?_
        refine H_skip 12 rfl (by kernel_rfl) (by kernel_rfl) (by kernel_rfl) (((hsub (.cons_cons _ (.cons _ (.refl _)))).trans (hsub_pick [1] rfl))) rfl rfl ?_
        refine H_skip 13 rfl (by kernel_rfl) (by kernel_rfl) (by kernel_rfl) (((hsub (.cons_cons _ (.cons _ (.refl _)))).trans (hsub_pick [1] rfl))) rfl rfl ?_
        refine H_skip 14 rfl (by kernel_rfl) (by kernel_rfl) (by kernel_rfl) (((hsub (.cons_cons _ (.cons _ (.refl _)))).trans (hsub_pick [1] rfl))) rfl rfl ?_
        refine H_skip 15 rfl (by kernel_rfl) (by kernel_rfl) (by kernel_rfl) (((hsub (.cons_cons _ (.cons _ (.refl _)))).trans (hsub_pick [1] rfl))) rfl rfl ?_
        refine H_skip 16 rfl (by kernel_rfl) (by kernel_rfl) (by kernel_rfl) (((hsub (.cons_cons _ (.cons _ (.refl _)))).trans (hsub_pick [1] rfl))) rfl rfl ?_
        refine H_skip 17 rfl (by kernel_rfl) (by kernel_rfl) (by kernel_rfl) (((hsub (.cons_cons _ (.cons _ (.refl _)))).trans (hsub_pick [1] rfl))) rfl rfl ?_
        refine H_skip 18 rfl (by kernel_rfl) (by kernel_rfl) (by kernel_rfl) (((hsub (.cons_cons _ (.cons _ (.refl _)))).trans (hsub_pick [1] rfl))) rfl rfl ?_
        refine H_skip 19 rfl (by kernel_rfl) (by kernel_rfl) (by kernel_rfl) (((hsub (.cons_cons _ (.cons _ (.refl _)))).trans (hsub_pick [1] rfl))) rfl rfl ?_
        refine H_y 20 rfl (by kernel_rfl) (by kernel_rfl) (by kernel_rfl) (((hsub (.cons_cons _ (.cons _ (.refl _)))).trans (hsub_pick [1] rfl))) rfl (y_pick_t rfl rfl) rfl ?_
        refine H_y 21 rfl (by kernel_rfl) (by kernel_rfl) (by kernel_rfl) (((hsub (.cons_cons _ (.cons _ (.refl _)))).trans (hsub_pick [1] rfl))) rfl (y_pick_t rfl rfl) rfl ?_
        refine H_done (by kernel_rfl) ?_
        refine C_cond_t rfl ?_
        refine C_region ?_
        refine L_y rfl (y_move rfl) rfl ?_
        refine L_y rfl (y_assign rfl) rfl ?_
        refine L_y rfl (y_assign rfl) rfl ?_
        refine L_nil ?_
        refine C_region ?_
        refine L_y rfl (y_add rfl rfl (wi64 (by omega) (by omega))) rfl ?_
        refine L_y rfl (y_move rfl) rfl ?_
        refine L_nil ?_
        have hx : (vic p (fun j => cnt18 segs size l (j : Int)) (k + 1)) = some k := by first | exact vic_first hpk hv | exact vic_less hpk hv hless
        refine ⟨k + 1, by omega, by omega, ?_⟩
        try dsimp only
        rw [hx]
        exact ⟨⟨rfl, rfl, rfl, rfl, rfl, rfl, trivial⟩, ((hsub (.cons_cons _ (.cons_cons _ (.refl _)))).trans (hsub_pick [0, 0] rfl))⟩
      · obtain ⟨b, hv⟩ : ∃ b, (vic p (fun j => cnt18 segs size l (j : Int)) k) = some b := Option.isSome_iff_exists.1 (by simpa using hg7_7)
        refine H_y 7 rfl (by kernel_rfl) (by kernel_rfl) (by kernel_rfl) (((hsub (.cons_cons _ (.cons _ (.refl _)))).trans (hsub_pick [1] rfl))) rfl (y_move rfl) rfl ?_
        refine H_y 8 rfl (by kernel_rfl) (by kernel_rfl) (by kernel_rfl) (((hsub (.cons_cons _ (.cons _ (.refl _)))).trans (hsub_pick [1] rfl))) rfl (y_nilCheck rfl) rfl ?_
        refine H_y 9 rfl (by kernel_rfl) (by kernel_rfl) (by kernel_rfl) (((hsub (.cons_cons _ (.cons _ (.refl _)))).trans (hsub_pick [1] rfl))) rfl (y_fieldAddr rfl fl_90_2) rfl ?_
        refine H_y 10 rfl (by kernel_rfl) (by kernel_rfl) (by kernel_rfl) (((hsub (.cons_cons _ (.cons _ (.refl _)))).trans (hsub_pick [1] rfl))) rfl (y_load rfl ag_88 (sees 0 0 rfl) rfl) rfl ?_
        refine H_y 11 rfl (by kernel_rfl) (by kernel_rfl) (by kernel_rfl) (((hsub (.cons_cons _ (.cons _ (.refl _)))).trans (hsub_pick [1] rfl))) rfl (y_move rfl) rfl ?_
        refine H_y 12 rfl (by kernel_rfl) (by kernel_rfl) (by kernel_rfl) (((hsub (.cons_cons _ (.cons _ (.refl _)))).trans (hsub_pick [1] rfl))) rfl (y_lookupG rfl rfl Try.underlying88 Try.underlying3 zt_3 (sees 0 2 rfl)) rfl ?_
        refine H_y 13 rfl (by kernel_rfl) (by kernel_rfl) (by kernel_rfl) (((hsub (.cons_cons _ (.cons _ (.refl _)))).trans (hsub_pick [1] rfl))) rfl (y_move rfl) rfl ?_
        refine H_y 14 rfl (by kernel_rfl) (by kernel_rfl) (by kernel_rfl) (((hsub (.cons_cons _ (.cons _ (.refl _)))).trans (hsub_pick [1] rfl))) rfl (y_nilCheck rfl) rfl ?_
        refine H_y 15 rfl (by kernel_rfl) (by kernel_rfl) (by kernel_rfl) (((hsub (.cons_cons _ (.cons _ (.refl _)))).trans (hsub_pick [1] rfl))) rfl (y_fieldAddr rfl fl_90_2) rfl ?_
        refine H_y 16 rfl (by kernel_rfl) (by kernel_rfl) (by kernel_rfl) (((hsub (.cons_cons _ (.cons _ (.refl _)))).trans (hsub_pick [1] rfl))) rfl (y_load rfl ag_88 (sees 0 0 rfl) rfl) rfl ?_
        refine H_y 17 rfl (by kernel_rfl) (by kernel_rfl) (by kernel_rfl) (((hsub (.cons_cons _ (.cons _ (.refl _)))).trans (hsub_pick [1] rfl))) rfl (y_move rfl) rfl ?_
        refine H_y 18 rfl (by kernel_rfl) (by kernel_rfl) (by kernel_rfl) (((hsub (.cons_cons _ (.cons _ (.refl _)))).trans (hsub_pick [1] rfl))) rfl (y_lookupG rfl rfl Try.underlying88 Try.underlying3 zt_3 (sees 0 2 rfl)) rfl ?_
        rw [h.liv, h.liv]
        refine H_y 19 rfl (by kernel_rfl) (by kernel_rfl) (by kernel_rfl) (((hsub (.cons_cons _ (.cons _ (.refl _)))).trans (hsub_pick [1] rfl))) rfl (y_lss rfl rfl) rfl ?_
        refine H_y 20 rfl (by kernel_rfl) (by kernel_rfl) (by kernel_rfl) (((hsub (.cons_cons _ (.cons _ (.refl _)))).trans (hsub_pick [1] rfl))) rfl (y_pick_f rfl rfl) rfl ?_
        refine H_y 21 rfl (by kernel_rfl) (by kernel_rfl) (by kernel_rfl) (((hsub (.cons_cons _ (.cons _ (.refl _)))).trans (hsub_pick [1] rfl))) rfl (y_pick_t rfl rfl) rfl ?_
        refine H_done (by kernel_rfl) ?_
        refine C_cond rfl (fun hc2 => ?_) (fun hc2 => ?_)
        · have hless : cnt18 segs size l (k : Int) < cnt18 segs size l (b : Int) := by have h5 := of_decide_eq_true hc2; rw [hv] at h5; exact Int.ofNat_lt.1 h5
          refine C_region ?_
          refine L_y rfl (y_move rfl) rfl ?_
          refine L_y rfl (y_assign rfl) rfl ?_
          refine L_y rfl (y_assign rfl) rfl ?_
          refine L_nil ?_
          refine C_region ?_
          refine L_y rfl (y_add rfl rfl (wi64 (by omega) (by omega))) rfl ?_
          refine L_y rfl (y_move rfl) rfl ?_
          refine L_nil ?_
          have hx : (vic p (fun j => cnt18 segs size l (j : Int)) (k + 1)) = some k := by first | exact vic_first hpk hv | exact vic_less hpk hv hless
          refine ⟨k + 1, by omega, by omega, ?_⟩
          try dsimp only
          rw [hx]
          exact ⟨⟨rfl, rfl, rfl, rfl, rfl, rfl, trivial⟩, ((hsub (.cons_cons _ (.cons_cons _ (.refl _)))).trans (hsub_pick [0, 0] rfl))⟩
        · have hless : ¬ cnt18 segs size l (k : Int) < cnt18 segs size l (b : Int) := by have h5 := of_decide_eq_false hc2; rw [hv] at h5; exact fun h6 => h5 (Int.ofNat_lt.2 h6)
          refine C_skip ?_
          refine C_region ?_
          refine L_y rfl (y_add rfl rfl (wi64 (by omega) (by omega))) rfl ?_
          refine L_y rfl (y_move rfl) rfl ?_
          refine L_nil ?_
          have hx : (vic p (fun j => cnt18 segs size l (j : Int)) (k + 1)) = (vic p (fun j => cnt18 segs size l (j : Int)) k) := by first | exact vic_no hpk | exact vic_not hpk hv hless
          refine ⟨k + 1, by omega, by omega, ?_⟩
          try dsimp only
          rw [hx]
          exact ⟨⟨rfl, rfl, rfl, rfl, rfl, rfl, trivial⟩, ((hsub (.cons_cons _ (.cons_cons _ (.refl _)))).trans (hsub_pick [0, 0] rfl))⟩
    · have hpk : p k = false := hg7_4
      refine H_skip 4 rfl (by kernel_rfl) (by kernel_rfl) (by kernel_rfl) (((hsub (.cons_cons _ (.cons _ (.refl _)))).trans (hsub_pick [1] rfl))) rfl rfl ?_
      refine H_skip 5 rfl (by kernel_rfl) (by kernel_rfl) (by kernel_rfl) (((hsub (.cons_cons _ (.cons _ (.refl _)))).trans (hsub_pick [1] rfl))) rfl rfl ?_
      refine H_skip 6 rfl (by kernel_rfl) (by kernel_rfl) (by kernel_rfl) (((hsub (.cons_cons _ (.cons _ (.refl _)))).trans (hsub_pick [1] rfl))) rfl rfl ?_
      refine H_skip 7 rfl (by kernel_rfl) (by kernel_rfl) (by kernel_rfl) (((hsub (.cons_cons _ (.cons _ (.refl _)))).trans (hsub_pick [1] rfl))) rfl rfl ?_
      refine H_skip 8 rfl (by kernel_rfl) (by kernel_rfl) (by kernel_rfl) (((hsub (.cons_cons _ (.cons _ (.refl _)))).trans (hsub_pick [1] rfl))) rfl rfl ?_
      refine H_skip 9 rfl (by kernel_rfl) (by kernel_rfl) (by kernel_rfl) (((hsub (.cons_cons _ (.cons _ (.refl _)))).trans (hsub_pick [1] rfl))) rfl rfl ?_
      refine H_skip 10 rfl (by kernel_rfl) (by kernel_rfl) (by kernel_rfl) (((hsub (.cons_cons _ (.cons _ (.refl _)))).trans (hsub_pick [1] rfl))) rfl rfl ?_
      refine H_skip 11 rfl (by kernel_rfl) (by kernel_rfl) (by kernel_rfl) (((hsub (.cons_cons _ (.cons _ (.refl _)))).trans (hsub_pick [1] rfl))) rfl rfl ?_
      refine H_skip 12 rfl (by kernel_rfl) (by kernel_rfl) (by kernel_rfl) (((hsub (.cons_cons _ (.cons _ (.refl _)))).trans (hsub_pick [1] rfl))) rfl rfl ?_
      refine H_skip 13 rfl (by kernel_rfl) (by kernel_rfl) (by kernel_rfl) (((hsub (.cons_cons _ (.cons _ (.refl _)))).trans (hsub_pick [1] rfl))) rfl rfl ?_
      refine H_skip 14 rfl (by kernel_rfl) (by kernel_rfl) (by kernel_rfl) (((hsub (.cons_cons _ (.cons _ (.refl _)))).trans (hsub_pick [1] rfl))) rfl rfl ?_
      refine H_skip 15 rfl (by kernel_rfl) (by kernel_rfl) (by kernel_rfl) (((hsub (.cons_cons _ (.cons _ (.refl _)))).trans (hsub_pick [1] rfl))) rfl rfl ?_
      refine H_skip 16 rfl (by kernel_rfl) (by kernel_rfl) (by kernel_rfl) (((hsub (.cons_cons _ (.cons _ (.refl _)))).trans (hsub_pick [1] rfl))) rfl rfl ?_
      refine H_skip 17 rfl (by kernel_rfl) (by kernel_rfl) (by kernel_rfl) (((hsub (.cons_cons _ (.cons _ (.refl _)))).trans (hsub_pick [1] rfl))) rfl rfl ?_
      refine H_skip 18 rfl (by kernel_rfl) (by kernel_rfl) (by kernel_rfl) (((hsub (.cons_cons _ (.cons _ (.refl _)))).trans (hsub_pick [1] rfl))) rfl rfl ?_
      refine H_skip 19 rfl (by kernel_rfl) (by kernel_rfl) (by kernel_rfl) (((hsub (.cons_cons _ (.cons _ (.refl _)))).trans (hsub_pick [1] rfl))) rfl rfl ?_
      refine H_skip 20 rfl (by kernel_rfl) (by kernel_rfl) (by kernel_rfl) (((hsub (.cons_cons _ (.cons _ (.refl _)))).trans (hsub_pick [1] rfl))) rfl rfl ?_
      refine H_y 21 rfl (by kernel_rfl) (by kernel_rfl) (by kernel_rfl) (((hsub (.cons_cons _ (.cons _ (.refl _)))).trans (hsub_pick [1] rfl))) rfl (y_pick_f rfl rfl) rfl ?_
      refine H_done (by kernel_rfl) ?_
      refine C_cond_f rfl ?_
      refine C_skip ?_
      refine C_region ?_
      refine L_y rfl (y_add rfl rfl (wi64 (by omega) (by omega))) rfl ?_
      refine L_y rfl (y_move rfl) rfl ?_
      refine L_nil ?_
      have hx : (vic p (fun j => cnt18 segs size l (j : Int)) (k + 1)) = (vic p (fun j => cnt18 segs size l (j : Int)) k) := by first | exact vic_no hpk | exact vic_not hpk hv hless
      refine ⟨k + 1, by omega, by omega, ?_⟩
      try dsimp only
      rw [hx]
      exact ⟨⟨rfl, rfl, rfl, rfl, rfl, rfl, trivial⟩, ((hsub (.cons_cons _ (.cons_cons _ (.refl _)))).trans (hsub_pick [0, 0] rfl))⟩
  · replace hc1 : ¬ (k : Int) < segs := of_decide_eq_false hc1
    refine C_exit ?_
    refine C_seq ?_
    have hk2 : k = segs.toNat := by omega
    subst hk2
    refine C_region ?_
    refine L_y rfl (y_move rfl) rfl ?_
    refine L_y rfl (y_move rfl) rfl ?_
    refine L_y rfl (y_assign rfl) rfl ?_
    refine L_y rfl (y_assign rfl) rfl ?_
    refine L_nil ?_
    refine C_ret ?_
    refine B_ret (rv_tmp rfl (rv_tmp rfl rv_nil)) ((hsub (.cons_cons _ (.cons_cons _ (.refl _)))).trans (hsub_pick [0, 0] rfl)) ?_
    exact ⟨rfl, rfl⟩

end Go.Proofs.Ytighbhplfjjgpaa

/- walks (own work; the walks' lines by a program of this repo). -/
set_option linter.unusedVariables false
set_option linter.unusedSimpArgs false
set_option maxRecDepth 20000
namespace Go.Proofs.Ytighbhplfjjgpaa
open Go.Sl
attribute [local irreducible] BodyQ WpC WpL WpS WpH OpW FnS


theorem enough_y {w0 : World} {H : Hp} (segs size live : Int) (hm : mayG segs size = true) : FnS Try.prog w0 14 #[.int .i64 live, shV segs size] H (fun e H' => e = .returned (.bool (decide (0 ≤ live) && decide (live ≤ (segs - 2) * size))) ∧ H' = H) := by
  refine FnS_intro (n := 18) (rs := [.tmp 4]) (vs := [.int .i64 live, shV segs size]) Try.func14 rfl Try.ntmps14 rfl rfl ?_
  refine C_seq ?_
  refine C_region ?_
  refine L_op rfl (op_box rfl rfl rfl (fun B1 => ?_))
  refine L_y rfl (y_assign rfl) rfl ?_
  refine L_nil ?_
  refine C_seq ?_
  refine C_region ?_
  refine L_y rfl (y_loadA rfl ag_23 sz_23 (sees 0 0 rfl) (Nat.le_of_ble_eq_true rfl) rfl) rfl ?_
  refine L_op rfl (op_call rfl rfl (fun a w => Try.call9 a w) rfl ?_)
  refine (check_s segs size).mono ?_
  rintro _ _ ⟨rfl, e⟩
  obtain rfl := e.symm
  clear e
  rw [show chkE segs size = 0 from by unfold chkE; rw [hm]; rfl]
  refine ⟨_, rfl, ?_⟩
  refine L_y rfl (y_eqi rfl rfl) rfl ?_
  refine L_y rfl (y_move rfl) rfl ?_
  refine L_y rfl (y_move rfl) rfl ?_
  refine L_y rfl (y_geq rfl rfl) rfl ?_
  refine L_y rfl (y_pick_t rfl rfl) rfl ?_
  refine L_y rfl (y_move rfl) rfl ?_
  refine L_case 12 rfl (fun hg1_8 => ?_) (fun hg1_8 => ?_)
  · have h0 : 0 ≤ live := of_decide_eq_true hg1_8
    refine L_y rfl (y_move rfl) rfl ?_
    refine L_y rfl (y_loadA rfl ag_23 sz_23 (sees 0 0 rfl) (Nat.le_of_ble_eq_true rfl) rfl) rfl ?_
    refine L_op rfl (op_call rfl rfl (fun a w => Try.call43 a w) rfl ?_)
    refine (most_s segs size hm).mono ?_
    rintro _ _ ⟨rfl, e⟩
    obtain rfl := e.symm
    clear e
    refine ⟨_, rfl, ?_⟩
    refine L_y rfl (y_leq rfl rfl) rfl ?_
    refine L_y rfl (y_pick_t rfl rfl) rfl ?_
    refine L_y rfl (y_assign rfl) rfl ?_
    refine L_nil ?_
    refine C_ret ?_
    refine B_ret (rv_tmp rfl rv_nil) (hsub (.cons _ (.refl _))) ?_
    refine ⟨congrArg (fun b => Ending.returned (Value.bool b)) ?_, rfl⟩
    simp [h0]
  · have h0 : ¬ 0 ≤ live := of_decide_eq_false hg1_8
    refine L_skip rfl rfl ?_
    refine L_skip rfl rfl ?_
    refine L_skip rfl rfl ?_
    refine L_skip rfl rfl ?_
    refine L_y rfl (y_pick_f rfl rfl) rfl ?_
    refine L_y rfl (y_assign rfl) rfl ?_
    refine L_nil ?_
    refine C_ret ?_
    refine B_ret (rv_tmp rfl rv_nil) (hsub (.cons _ (.refl _))) ?_
    refine ⟨congrArg (fun b => Ending.returned (Value.bool b)) ?_, rfl⟩
    simp [h0]

theorem choose1_s {w0 : World} {H : Hp} {bh bu fu : Nat} {cu : List Value} {head k : Int} {b : Bool} (hh : Sees (fun w => St w0 w H) bh (.cells [Value.int .i64 head].toArray 3)) (hb : Sees (fun w => St w0 w H) bu (.cells [Value.func (.func fu) #[] cu.toArray].toArray 38)) (hcf : ∀ args w, (callFunc fu args).run Try.prog w = .ok (.enter fu args) w) (hu : FnS Try.prog w0 fu ([Value.int .i64 k] ++ cu).toArray H (fun e H2 => e = .returned (.bool b) ∧ H2 = H)) : FnS Try.prog w0 41 #[.int .i64 k, ptr bh, ptr bu] H (fun e H' => e = .returned (.bool (!decide (k = head) && b)) ∧ H' = H) := by
  refine FnS_intro (n := 13) (rs := [.tmp 4]) (vs := [.int .i64 k, ptr bh, ptr bu]) Try.func41 rfl Try.ntmps41 rfl rfl ?_
  refine C_seq ?_
  refine C_region ?_
  refine L_y rfl (y_assign rfl) rfl ?_
  refine L_nil ?_
  refine C_seq ?_
  refine C_region ?_
  refine L_y rfl (y_move rfl) rfl ?_
  refine L_y rfl (y_load rfl ag_3 (hh) rfl) rfl ?_
  refine L_y rfl (y_nei rfl rfl) rfl ?_
  refine L_y rfl (y_move rfl) rfl ?_
  refine L_case 8 rfl (fun hg1_4 => ?_) (fun hg1_4 => ?_)
  · have h0 : ¬ k = head := by simpa using hg1_4
    refine L_y rfl (y_load rfl ag_38 (hb) rfl) rfl ?_
    refine L_y rfl (y_move rfl) rfl ?_
    refine L_op rfl (op_call (f := fu) (first := []) (cap := cu) rfl rfl hcf rfl ?_)
    refine FnS.mono hu ?_
    rintro _ _ ⟨rfl, e⟩
    obtain rfl := e.symm
    clear e
    refine ⟨_, rfl, ?_⟩
    refine L_y rfl (y_pick_t rfl rfl) rfl ?_
    refine L_y rfl (y_assign rfl) rfl ?_
    refine L_nil ?_
    refine C_ret ?_
    refine B_ret (rv_tmp rfl rv_nil) (hsub (.refl _)) ?_
    refine ⟨congrArg (fun b => Ending.returned (Value.bool b)) ?_, rfl⟩
    simp [h0]
  · have h0 : k = head := by simpa using hg1_4
    refine L_skip rfl rfl ?_
    refine L_skip rfl rfl ?_
    refine L_skip rfl rfl ?_
    refine L_y rfl (y_pick_f rfl rfl) rfl ?_
    refine L_y rfl (y_assign rfl) rfl ?_
    refine L_nil ?_
    refine C_ret ?_
    refine B_ret (rv_tmp rfl rv_nil) (hsub (.refl _)) ?_
    refine ⟨congrArg (fun b => Ending.returned (Value.bool b)) ?_, rfl⟩
    simp [h0]

end Go.Proofs.Ytighbhplfjjgpaa

/- Facts of the translation's types, for the kernel (own work, by a program of this repo). -/
namespace Go.Proofs.Ytighbhplfjjgpaa
open Go.Sl
theorem ag_168 : isAggT Try.prog 168 = some false := by kernel_rfl
theorem sz_168 : szT Try.prog 168 = some 1 := by kernel_rfl
theorem us_144 : (Try.prog.underlying 144).isSome = true := by kernel_rfl
theorem us_3 : (Try.prog.underlying 3).isSome = true := by kernel_rfl
theorem zl_168 : zeroL Try.prog 168 = some ([.int .u64 0]) := by kernel_rfl
end Go.Proofs.Ytighbhplfjjgpaa

/- Facts of the translation's types, for the kernel (own work, by a program of this repo). -/
namespace Go.Proofs.Ytighbhplfjjgpaa
open Go.Sl
theorem us_48 : (Try.prog.underlying 48).isSome = true := by kernel_rfl
end Go.Proofs.Ytighbhplfjjgpaa

/- walks (own work; the walks' lines by a program of this repo). -/
set_option linter.unusedVariables false
set_option linter.unusedSimpArgs false
set_option maxRecDepth 20000
namespace Go.Proofs.Ytighbhplfjjgpaa
open Go.Sl
attribute [local irreducible] BodyQ WpC WpL WpS WpH OpW FnS


theorem isnan_u {w0 : World} {H : Hp} (x : Int) : FnS Try.prog w0 101 #[.int .u64 x] H (fun e H' => e = .returned (.bool false) ∧ H' = H) := by
  refine FnS_intro (n := 6) (rs := [.tmp 2]) (vs := [.int .u64 x]) Try.func101 rfl Try.ntmps101 rfl rfl ?_
  refine C_seq ?_
  refine C_region ?_
  refine L_y rfl (y_assign rfl) rfl ?_
  refine L_nil ?_
  refine C_seq ?_
  refine C_region ?_
  refine L_y rfl (y_move rfl) rfl ?_
  refine L_y rfl (y_move rfl) rfl ?_
  refine L_y rfl (y_nei rfl rfl) rfl ?_
  refine L_y rfl (y_assign rfl) rfl ?_
  refine L_nil ?_
  refine C_ret ?_
  refine B_ret (rv_tmp rfl rv_nil) (HSub.refl _) ?_
  refine ⟨congrArg (fun b => Ending.returned (.bool b)) ?_, rfl⟩
  simp

theorem less_u {w0 : World} {H : Hp} (x y : Nat) : FnS Try.prog w0 89 #[.int .u64 (x : Int), .int .u64 (y : Int)] H (fun e H' => e = .returned (.bool (ltN x y)) ∧ H' = H) := by
  refine FnS_intro (n := 17) (rs := [.tmp 4]) (vs := [.int .u64 (x : Int), .int .u64 (y : Int)]) Try.func89 rfl Try.ntmps89 rfl rfl ?_
  refine C_seq ?_
  refine C_region ?_
  refine L_y rfl (y_assign rfl) rfl ?_
  refine L_nil ?_
  refine C_seq ?_
  refine C_region ?_
  refine L_y rfl (y_move rfl) rfl ?_
  refine L_op rfl (op_call rfl rfl (fun a w => Try.call101 a w) rfl ?_)
  refine (isnan_u _).mono ?_
  rintro _ _ ⟨rfl, e⟩
  obtain rfl := e.symm
  clear e
  refine ⟨_, rfl, ?_⟩
  refine L_y rfl (y_move rfl) rfl ?_
  refine L_skip rfl rfl ?_
  refine L_skip rfl rfl ?_
  refine L_skip rfl rfl ?_
  refine L_y rfl (y_pick_f rfl rfl) rfl ?_
  refine L_y rfl (y_move rfl) rfl ?_
  refine L_y rfl (y_move rfl) rfl ?_
  refine L_y rfl (y_move rfl) rfl ?_
  refine L_y rfl (y_lss rfl rfl) rfl ?_
  refine L_y rfl (y_pick_f rfl rfl) rfl ?_
  refine L_y rfl (y_assign rfl) rfl ?_
  refine L_nil ?_
  refine C_ret ?_
  refine B_ret (rv_tmp rfl rv_nil) (HSub.refl _) ?_
  refine ⟨congrArg (fun b => Ending.returned (.bool b)) ?_, rfl⟩
  simp [ltN]

theorem insert_u {w0 : World} {H : Hp} {sb n cap : Nat} {sp : List Value} (d : Array Nat) (hd : d.size = n) (hn : n < 4611686018427387904) (a b : Nat) (hab : a ≤ b) (hb : b ≤ n) : FnS Try.prog w0 83 #[(.slice (some ⟨sb, 0, none⟩) n cap), .int .i64 (a : Int), .int .i64 (b : Int)] (useg 48 sb d sp :: H) (fun e H' => e = .returned (.tuple #[]) ∧ H' = useg 48 sb (Go.Sort.insertionSort ltN d a b) sp :: H) := by
  refine FnS_intro (n := 49) (rs := []) (vs := [(.slice (some ⟨sb, 0, none⟩) n cap), .int .i64 (a : Int), .int .i64 (b : Int)]) Try.func83 rfl Try.ntmps83 rfl rfl ?_
  refine C_seq ?_
  refine C_region ?_
  refine L_y rfl (y_move rfl) rfl ?_
  refine L_y rfl (y_add rfl rfl (show _ = ((a + 1 : Nat) : Int) from by rw [wi64 (by omega) (by omega)]; omega)) rfl ?_
  refine L_y rfl (y_assign rfl) rfl ?_
  refine L_nil ?_
  refine C_block ?_
  refine C_loop (ι := Array Nat × Nat) (fun i => [(0, (.slice (some ⟨sb, 0, none⟩) n cap)), (1, .int .i64 (a : Int)), (2, .int .i64 (b : Int)), (6, .int .i64 (i.2 : Int))]) (fun i => useg 48 sb i.1 sp :: H) (fun i => i.1.size = n ∧ a < i.2 ∧ i.2 ≤ n + 1 ∧ Go.Sort.insOuter ltN a b i.2 i.1 = Go.Sort.insertionSort ltN d a b) (fun i => b - i.2) (d, a + 1) ⟨hd, Nat.lt_succ_self _, by simp only; omega, rfl⟩ ⟨rfl, rfl, rfl, rfl, trivial⟩ ((hsub (.cons_cons _ (.refl _))).trans (hsub_pick [0] rfl)) (fun i hi => ?_)
  obtain ⟨d1, i⟩ := i
  obtain ⟨hs1, hai, hin, hr1⟩ := hi
  try simp only at hs1 hai hin hr1
  try dsimp only
  refine C_seq ?_
  refine C_seq ?_
  refine C_region ?_
  refine L_y rfl (y_move rfl) rfl ?_
  refine L_y rfl (y_move rfl) rfl ?_
  refine L_y rfl (y_lss rfl rfl) rfl ?_
  refine L_nil ?_
  refine C_cond rfl (fun hc0 => ?_) (fun hc0 => ?_)
  · replace hc0 : i < b := by have := of_decide_eq_true hc0; omega
    refine C_skip ?_
    refine C_seq ?_
    refine C_block ?_
    refine C_seq ?_
    refine C_region ?_
    refine L_y rfl (y_move rfl) rfl ?_
    refine L_y rfl (y_assign rfl) rfl ?_
    refine L_nil ?_
    refine C_block ?_
    refine C_loop (ι := Array Nat × Nat) (fun j => [(0, (.slice (some ⟨sb, 0, none⟩) n cap)), (1, .int .i64 (a : Int)), (2, .int .i64 (b : Int)), (6, .int .i64 (i : Int)), (7, .int .i64 (j.2 : Int))]) (fun j => useg 48 sb j.1 sp :: H) (fun j => j.1.size = n ∧ a ≤ j.2 ∧ j.2 ≤ i ∧ Go.Sort.insInner ltN a j.2 j.1 = Go.Sort.insInner ltN a i d1) (fun j => j.2) (d1, i) ⟨hs1, by simp only; omega, Nat.le_refl _, rfl⟩ ⟨rfl, rfl, rfl, rfl, rfl, trivial⟩ ((hsub (.cons_cons _ (.refl _))).trans (hsub_pick [0] rfl)) (fun j hj => ?_)
    obtain ⟨d2, j⟩ := j
    obtain ⟨hs2, haj, hji, hr2⟩ := hj
    try simp only at hs2 haj hji hr2
    try dsimp only
    refine C_seq ?_
    refine C_seq ?_
    refine C_regionH0 (by kernel_rfl) ?_
    refine H_y 0 rfl (by kernel_rfl) (by kernel_rfl) (by kernel_rfl) (HSub.refl _) rfl (y_move rfl) rfl ?_
    refine H_y 1 rfl (by kernel_rfl) (by kernel_rfl) (by kernel_rfl) (HSub.refl _) rfl (y_move rfl) rfl ?_
    refine H_y 2 rfl (by kernel_rfl) (by kernel_rfl) (by kernel_rfl) (HSub.refl _) rfl (y_gtr rfl rfl) rfl ?_
    refine H_y 3 rfl (by kernel_rfl) (by kernel_rfl) (by kernel_rfl) (HSub.refl _) rfl (y_move rfl) rfl ?_
    refine H_case 19 rfl (fun hg4_4 => ?_) (fun hg4_4 => ?_)
    · have hja : a < j := by have := of_decide_eq_true hg4_4; omega
      refine H_y 4 rfl (by kernel_rfl) (by kernel_rfl) (by kernel_rfl) (HSub.refl _) rfl (y_move rfl) rfl ?_
      refine H_y 5 rfl (by kernel_rfl) (by kernel_rfl) (by kernel_rfl) (HSub.refl _) rfl (y_move rfl) rfl ?_
      refine H_y 6 rfl (by kernel_rfl) (by kernel_rfl) (by kernel_rfl) (HSub.refl _) rfl (y_indexS rfl rfl Try.underlying33 sz_48 (by omega) (by omega) (show _ = j from by simp)) rfl ?_
      refine H_y 7 rfl (by kernel_rfl) (by kernel_rfl) (by kernel_rfl) (HSub.refl _) rfl (y_load rfl ag_48 (sees 0 0 rfl) (us_at (by omega))) rfl ?_
      refine H_y 8 rfl (by kernel_rfl) (by kernel_rfl) (by kernel_rfl) (HSub.refl _) rfl (y_move rfl) rfl ?_
      refine H_y 9 rfl (by kernel_rfl) (by kernel_rfl) (by kernel_rfl) (HSub.refl _) rfl (y_move rfl) rfl ?_
      refine H_y 10 rfl (by kernel_rfl) (by kernel_rfl) (by kernel_rfl) (HSub.refl _) rfl (y_sub rfl rfl (show _ = ((j - 1 : Nat) : Int) from by rw [wi64 (by omega) (by omega)]; omega)) rfl ?_
      refine H_y 11 rfl (by kernel_rfl) (by kernel_rfl) (by kernel_rfl) (HSub.refl _) rfl (y_indexS rfl rfl Try.underlying33 sz_48 (by omega) (by omega) (show _ = j - 1 from by simp)) rfl ?_
      refine H_y 12 rfl (by kernel_rfl) (by kernel_rfl) (by kernel_rfl) (HSub.refl _) rfl (y_load rfl ag_48 (sees 0 0 rfl) (us_at (by omega))) rfl ?_
      refine H_one 13 rfl (by kernel_rfl) rfl (op_call rfl rfl (fun a w => Try.call89 a w) rfl ?_)
      refine (less_u (d2[j]!) (d2[j - 1]!)).mono ?_
      rintro _ _ ⟨rfl, e⟩
      obtain rfl := e.symm
      clear e
      refine ⟨_, rfl, ?_⟩
      refine ⟨HSub.refl _, ?_⟩
      refine H_y 14 rfl (by kernel_rfl) (by kernel_rfl) (by kernel_rfl) (HSub.refl _) rfl (y_pick_t rfl rfl) rfl ?_
      refine H_done (by kernel_rfl) ?_
      refine C_cond rfl (fun hc1 => ?_) (fun hc1 => ?_)
      · have hlt : ltN d2[j]! d2[j - 1]! = true := hc1
        refine C_skip ?_
        refine C_seq ?_
        refine C_block ?_
        refine C_regionH H (by kernel_rfl) ?_
        refine H_y 0 rfl (by kernel_rfl) (by kernel_rfl) (by kernel_rfl) ((hsub (.cons _ (.refl _)))) rfl (y_move rfl) rfl ?_
        refine H_y 1 rfl (by kernel_rfl) (by kernel_rfl) (by kernel_rfl) ((hsub (.cons _ (.refl _)))) rfl (y_move rfl) rfl ?_
        refine H_y 2 rfl (by kernel_rfl) (by kernel_rfl) (by kernel_rfl) ((hsub (.cons _ (.refl _)))) rfl (y_move rfl) rfl ?_
        refine H_y 3 rfl (by kernel_rfl) (by kernel_rfl) (by kernel_rfl) ((hsub (.cons _ (.refl _)))) rfl (y_move rfl) rfl ?_
        refine H_y 4 rfl (by kernel_rfl) (by kernel_rfl) (by kernel_rfl) ((hsub (.cons _ (.refl _)))) rfl (y_sub rfl rfl (show _ = ((j - 1 : Nat) : Int) from by rw [wi64 (by omega) (by omega)]; omega)) rfl ?_
        refine H_y 5 rfl (by kernel_rfl) (by kernel_rfl) (by kernel_rfl) ((hsub (.cons _ (.refl _)))) rfl (y_move rfl) rfl ?_
        refine H_y 6 rfl (by kernel_rfl) (by kernel_rfl) (by kernel_rfl) ((hsub (.cons _ (.refl _)))) rfl (y_move rfl) rfl ?_
        refine H_y 7 rfl (by kernel_rfl) (by kernel_rfl) (by kernel_rfl) ((hsub (.cons _ (.refl _)))) rfl (y_sub rfl rfl (show _ = ((j - 1 : Nat) : Int) from by rw [wi64 (by omega) (by omega)]; omega)) rfl ?_
        refine H_y 8 rfl (by kernel_rfl) (by kernel_rfl) (by kernel_rfl) ((hsub (.cons _ (.refl _)))) rfl (y_indexS rfl rfl Try.underlying33 sz_48 (by omega) (by omega) (show _ = j - 1 from by simp)) rfl ?_
        refine H_y 10 rfl (by kernel_rfl) (by kernel_rfl) (by kernel_rfl) ((hsub (.cons _ (.refl _)))) rfl (y_move rfl) rfl ?_
        refine H_y 11 rfl (by kernel_rfl) (by kernel_rfl) (by kernel_rfl) ((hsub (.cons _ (.refl _)))) rfl (y_move rfl) rfl ?_
        refine H_y 12 rfl (by kernel_rfl) (by kernel_rfl) (by kernel_rfl) ((hsub (.cons _ (.refl _)))) rfl (y_indexS rfl rfl Try.underlying33 sz_48 (by omega) (by omega) (show _ = j from by simp)) rfl ?_
        refine H_two 9 13 rfl rfl (by kernel_rfl) rfl rfl ?_ ?_
        · refine op_y (y_load rfl ag_48 (sees 0 0 rfl) (us_at (by omega))) rfl ?_
          refine ⟨(hsub (.cons _ (.refl _))), ?_⟩
          refine H_one 13 rfl (by kernel_rfl) rfl (op_y (y_load rfl ag_48 (sees 0 0 rfl) (us_at (by omega))) rfl ?_)
          refine ⟨(hsub (.cons _ (.refl _))), ?_⟩
          refine H_y 14 rfl (by kernel_rfl) (by kernel_rfl) (by kernel_rfl) ((hsub (.cons _ (.refl _)))) rfl (y_indexS rfl rfl Try.underlying33 sz_48 (by omega) (by omega) (show _ = j from by simp)) rfl ?_
          refine H_one 15 rfl (by kernel_rfl) rfl (op_store1 0 0 rfl rfl rfl sz_48 rfl (us_lt (by omega)) ?_)
          refine ⟨(hsub (.cons _ (.refl _))), ?_⟩
          refine H_y 16 rfl (by kernel_rfl) (by kernel_rfl) (by kernel_rfl) ((hsub (.cons _ (.refl _)))) rfl (y_indexS rfl rfl Try.underlying33 sz_48 (by omega) (by omega) (show _ = j - 1 from by simp)) rfl ?_
          refine H_one 17 rfl (by kernel_rfl) rfl (op_store1 0 0 rfl rfl rfl sz_48 rfl (by rw [List.length_set]; exact us_lt (by omega)) ?_)
          refine ⟨(hsub (.cons _ (.refl _))), ?_⟩
          refine H_done (by kernel_rfl) ?_
          rw [us_swp (by omega) (by omega)]
          refine C_region ?_
          refine L_y rfl (y_move rfl) rfl ?_
          refine L_y rfl (y_sub rfl rfl (show _ = ((j - 1 : Nat) : Int) from by rw [wi64 (by omega) (by omega)]; omega)) rfl ?_
          refine L_y rfl (y_assign rfl) rfl ?_
          refine L_nil ?_
          refine ⟨(Go.Sort.swp d2 j (j - 1), j - 1), ⟨by simp only; rw [swp_size]; exact hs2, by simp only; omega, by simp only; omega, by simp only; rw [← hr2, ins_step hja hlt]⟩, by simp only; omega, ⟨rfl, rfl, rfl, rfl, rfl, trivial⟩, ((hsub (.cons_cons _ (.refl _))).trans (hsub_pick [0] rfl))⟩
        · refine op_y (y_load rfl ag_48 (sees 0 0 rfl) (us_at (by omega))) rfl ?_
          refine ⟨(hsub (.cons _ (.refl _))), ?_⟩
          refine H_one 9 rfl (by kernel_rfl) rfl (op_y (y_load rfl ag_48 (sees 0 0 rfl) (us_at (by omega))) rfl ?_)
          refine ⟨(hsub (.cons _ (.refl _))), ?_⟩
          refine H_y 14 rfl (by kernel_rfl) (by kernel_rfl) (by kernel_rfl) ((hsub (.cons _ (.refl _)))) rfl (y_indexS rfl rfl Try.underlying33 sz_48 (by omega) (by omega) (show _ = j from by simp)) rfl ?_
          refine H_one 15 rfl (by kernel_rfl) rfl (op_store1 0 0 rfl rfl rfl sz_48 rfl (us_lt (by omega)) ?_)
          refine ⟨(hsub (.cons _ (.refl _))), ?_⟩
          refine H_y 16 rfl (by kernel_rfl) (by kernel_rfl) (by kernel_rfl) ((hsub (.cons _ (.refl _)))) rfl (y_indexS rfl rfl Try.underlying33 sz_48 (by omega) (by omega) (show _ = j - 1 from by simp)) rfl ?_
          refine H_one 17 rfl (by kernel_rfl) rfl (op_store1 0 0 rfl rfl rfl sz_48 rfl (by rw [List.length_set]; exact us_lt (by omega)) ?_)
          refine ⟨(hsub (.cons _ (.refl _))), ?_⟩
          refine H_done (by kernel_rfl) ?_
          rw [us_swp (by omega) (by omega)]
          refine C_region ?_
          refine L_y rfl (y_move rfl) rfl ?_
          refine L_y rfl (y_sub rfl rfl (show _ = ((j - 1 : Nat) : Int) from by rw [wi64 (by omega) (by omega)]; omega)) rfl ?_
          refine L_y rfl (y_assign rfl) rfl ?_
          refine L_nil ?_
          refine ⟨(Go.Sort.swp d2 j (j - 1), j - 1), ⟨by simp only; rw [swp_size]; exact hs2, by simp only; omega, by simp only; omega, by simp only; rw [← hr2, ins_step hja hlt]⟩, by simp only; omega, ⟨rfl, rfl, rfl, rfl, rfl, trivial⟩, ((hsub (.cons_cons _ (.refl _))).trans (hsub_pick [0] rfl))⟩
      · have hfin : Go.Sort.insInner ltN a i d1 = d2 := by rw [← hr2]; exact ins_stop (.inr hc1)
        refine C_exit ?_
        refine C_region ?_
        refine L_y rfl (y_move rfl) rfl ?_
        refine L_y rfl (y_add rfl rfl (show _ = ((i + 1 : Nat) : Int) from by rw [wi64 (by omega) (by omega)]; omega)) rfl ?_
        refine L_y rfl (y_assign rfl) rfl ?_
        refine L_nil ?_
        exact ⟨(d2, i + 1), ⟨hs2, by simp only; omega, by simp only; omega, by rw [← hr1, ins_next hc0, hfin]⟩, by simp only; omega, ⟨rfl, rfl, rfl, rfl, trivial⟩, ((hsub (.cons_cons _ (.refl _))).trans (hsub_pick [0] rfl))⟩
    · have hja : ¬ a < j := by have := of_decide_eq_false hg4_4; omega
      have hfin : Go.Sort.insInner ltN a i d1 = d2 := by rw [← hr2]; exact ins_stop (.inl hja)
      refine H_skip 4 rfl (by kernel_rfl) (by kernel_rfl) (by kernel_rfl) (HSub.refl _) rfl rfl ?_
      refine H_skip 5 rfl (by kernel_rfl) (by kernel_rfl) (by kernel_rfl) (HSub.refl _) rfl rfl ?_
      refine H_skip 6 rfl (by kernel_rfl) (by kernel_rfl) (by kernel_rfl) (HSub.refl _) rfl rfl ?_
      refine H_skip 7 rfl (by kernel_rfl) (by kernel_rfl) (by kernel_rfl) (HSub.refl _) rfl rfl ?_
      refine H_skip 8 rfl (by kernel_rfl) (by kernel_rfl) (by kernel_rfl) (HSub.refl _) rfl rfl ?_
      refine H_skip 9 rfl (by kernel_rfl) (by kernel_rfl) (by kernel_rfl) (HSub.refl _) rfl rfl ?_
      refine H_skip 10 rfl (by kernel_rfl) (by kernel_rfl) (by kernel_rfl) (HSub.refl _) rfl rfl ?_
      refine H_skip 11 rfl (by kernel_rfl) (by kernel_rfl) (by kernel_rfl) (HSub.refl _) rfl rfl ?_
      refine H_skip 12 rfl (by kernel_rfl) (by kernel_rfl) (by kernel_rfl) (HSub.refl _) rfl rfl ?_
      refine H_skip 13 rfl (by kernel_rfl) (by kernel_rfl) (by kernel_rfl) (HSub.refl _) rfl rfl ?_
      refine H_y 14 rfl (by kernel_rfl) (by kernel_rfl) (by kernel_rfl) (HSub.refl _) rfl (y_pick_f rfl rfl) rfl ?_
      refine H_done (by kernel_rfl) ?_
      refine C_cond_f rfl ?_
      refine C_exit ?_
      refine C_region ?_
      refine L_y rfl (y_move rfl) rfl ?_
      refine L_y rfl (y_add rfl rfl (show _ = ((i + 1 : Nat) : Int) from by rw [wi64 (by omega) (by omega)]; omega)) rfl ?_
      refine L_y rfl (y_assign rfl) rfl ?_
      refine L_nil ?_
      exact ⟨(d2, i + 1), ⟨hs2, by simp only; omega, by simp only; omega, by rw [← hr1, ins_next hc0, hfin]⟩, by simp only; omega, ⟨rfl, rfl, rfl, rfl, trivial⟩, ((hsub (.cons_cons _ (.refl _))).trans (hsub_pick [0] rfl))⟩
  · replace hc0 : ¬ i < b := by have := of_decide_eq_false hc0; omega
    refine C_exit ?_
    refine B_end rv_nil ((hsub (.cons_cons _ (.refl _))).trans (hsub_pick [0] rfl)) ?_
    refine ⟨rfl, ?_⟩
    rw [← hr1, ins_over hc0]
    rfl

end Go.Proofs.Ytighbhplfjjgpaa

/- The rest of slices.Sort, as the code has it: each round of each loop (own work). -/
set_option linter.unusedVariables false
set_option linter.unusedSimpArgs false
namespace Go.Sl
open Go.Sort (swp)
theorem ix0 (x : Nat) : 0 + ((x : Nat) : Int).toNat * 1 = x := by simp
section
variable {hi first root : Nat} {d : Array Nat}
theorem sd_stop (h : hi ≤ 2 * root + 1) : Go.Sort.siftDown ltN hi first root d = d := by rw [Go.Sort.siftDown, dif_pos h]
theorem sd_2 (h : 2 * root + 2 < hi) (hl : ltN d[first + (2 * root + 1)]! d[first + (2 * root + 2)]! = true) (hg : ltN d[first + root]! d[first + (2 * root + 2)]! = true) :
    Go.Sort.siftDown ltN hi first root d = Go.Sort.siftDown ltN hi first (2 * root + 2) (swp d (first + root) (first + (2 * root + 2))) := by
  have hl' : ltN d[first + (2 * root + 1)]! d[first + (2 * root + 1) + 1]! = true := hl
  rw [Go.Sort.siftDown, dif_neg (by omega), if_pos (by rw [hl', decide_eq_true (by omega : 2 * root + 1 + 1 < hi)]; rfl), if_neg (by rw [hg]; decide), dif_pos h]
theorem sd_2s (h : 2 * root + 2 < hi) (hl : ltN d[first + (2 * root + 1)]! d[first + (2 * root + 2)]! = true) (hg : ltN d[first + root]! d[first + (2 * root + 2)]! = false) :
    Go.Sort.siftDown ltN hi first root d = d := by
  have hl' : ltN d[first + (2 * root + 1)]! d[first + (2 * root + 1) + 1]! = true := hl
  rw [Go.Sort.siftDown, dif_neg (by omega), if_pos (by rw [hl', decide_eq_true (by omega : 2 * root + 1 + 1 < hi)]; rfl), if_pos (by rw [hg]; rfl)]
theorem sd_1 (h : 2 * root + 1 < hi) (hn : ¬ 2 * root + 2 < hi ∨ ltN d[first + (2 * root + 1)]! d[first + (2 * root + 2)]! = false) (hg : ltN d[first + root]! d[first + (2 * root + 1)]! = true) :
    Go.Sort.siftDown ltN hi first root d = Go.Sort.siftDown ltN hi first (2 * root + 1) (swp d (first + root) (first + (2 * root + 1))) := by
  have hc : ¬ ((decide (2 * root + 1 + 1 < hi) && ltN d[first + (2 * root + 1)]! d[first + (2 * root + 1) + 1]!) = true) := by
    rcases hn with hn | hn
    · rw [decide_eq_false (by omega : ¬ 2 * root + 1 + 1 < hi)]; simp
    · have hn' : ltN d[first + (2 * root + 1)]! d[first + (2 * root + 1) + 1]! = false := hn
      rw [hn']; simp
  rw [Go.Sort.siftDown, dif_neg (by omega), if_neg hc, if_neg (by rw [hg]; decide)]
theorem sd_1s (h : 2 * root + 1 < hi) (hn : ¬ 2 * root + 2 < hi ∨ ltN d[first + (2 * root + 1)]! d[first + (2 * root + 2)]! = false) (hg : ltN d[first + root]! d[first + (2 * root + 1)]! = false) :
    Go.Sort.siftDown ltN hi first root d = d := by
  have hc : ¬ ((decide (2 * root + 1 + 1 < hi) && ltN d[first + (2 * root + 1)]! d[first + (2 * root + 1) + 1]!) = true) := by
    rcases hn with hn | hn
    · rw [decide_eq_false (by omega : ¬ 2 * root + 1 + 1 < hi)]; simp
    · have hn' : ltN d[first + (2 * root + 1)]! d[first + (2 * root + 1) + 1]! = false := hn
      rw [hn']; simp
  rw [Go.Sort.siftDown, dif_neg (by omega), if_neg hc, if_pos (by rw [hg]; rfl)]
end
theorem sd_size (hi first : Nat) : ∀ (m root : Nat) (d : Array Nat), hi - root ≤ m → (Go.Sort.siftDown ltN hi first root d).size = d.size := by
  intro m
  induction m with
  | zero => intro root d h; rw [sd_stop (by omega)]
  | succ m ih =>
    intro root d h
    rw [Go.Sort.siftDown]
    split
    · rfl
    · split
      · split
        · rfl
        · split
          · rw [ih _ _ (by omega), swp_size]
          · rfl
      · split
        · rfl
        · rw [ih _ _ (by omega), swp_size]
section
variable {a b i j i2 j2 n : Nat} {d d2 : Array Nat} {p : Nat → Bool}
theorem su_go (h : i ≤ j) (hp : p d[i]! = true) : Go.Sort.scanUp p d j i = Go.Sort.scanUp p d j (i + 1) := by rw [Go.Sort.scanUp, if_pos (by rw [hp, decide_eq_true h]; rfl)]
theorem su_stop (h : ¬ i ≤ j ∨ p d[i]! = false) : Go.Sort.scanUp p d j i = i := by
  rw [Go.Sort.scanUp, if_neg]
  rcases h with h | h
  · rw [decide_eq_false h]; simp
  · rw [h]; simp
theorem sn_go (h : i ≤ j) (hi : 1 ≤ i) (hp : p d[j]! = true) : Go.Sort.scanDown p d i j = Go.Sort.scanDown p d i (j - 1) := by
  cases j with
  | zero => omega
  | succ j => rw [Go.Sort.scanDown, if_pos (by rw [hp, decide_eq_true h]; rfl)]; rfl
theorem sn_stop (h : ¬ i ≤ j ∨ p d[j]! = false) : Go.Sort.scanDown p d i j = j := by
  cases j with
  | zero => rfl
  | succ j =>
    rw [Go.Sort.scanDown, if_neg]
    rcases h with h | h
    · rw [decide_eq_false h]; simp
    · rw [h]; simp
abbrev upP (a : Nat) (d : Array Nat) : Nat → Bool := fun x => ltN x d[a]!
abbrev dnP (a : Nat) (d : Array Nat) : Nat → Bool := fun x => !ltN x d[a]!
abbrev upE (a : Nat) (d : Array Nat) : Nat → Bool := fun x => !ltN d[a]! x
abbrev dnE (a : Nat) (d : Array Nat) : Nat → Bool := fun x => ltN d[a]! x
theorem pl_stop (h1 : Go.Sort.scanUp (upP a d) d j i = i2) (h2 : Go.Sort.scanDown (dnP a d) d i2 j = j2) (h : j2 < i2) : Go.Sort.partLoop ltN a i j d = (j2, d) := by
  rw [Go.Sort.partLoop_eq, h1, h2, if_pos h]
theorem pl_go (h1 : Go.Sort.scanUp (upP a d) d j i = i2) (h2 : Go.Sort.scanDown (dnP a d) d i2 j = j2) (h : ¬ j2 < i2) : Go.Sort.partLoop ltN a i j d = Go.Sort.partLoop ltN a (i2 + 1) (j2 - 1) (swp d i2 j2) := by
  rw [Go.Sort.partLoop_eq, h1, h2, if_neg h]
theorem pe_stop (h1 : Go.Sort.scanUp (upE a d) d j i = i2) (h2 : Go.Sort.scanDown (dnE a d) d i2 j = j2) (h : j2 < i2) : Go.Sort.partEqLoop ltN a i j d = (i2, d) := by
  rw [Go.Sort.partEqLoop_eq, h1, h2, if_pos h]
theorem pe_go (h1 : Go.Sort.scanUp (upE a d) d j i = i2) (h2 : Go.Sort.scanDown (dnE a d) d i2 j = j2) (h : ¬ j2 < i2) : Go.Sort.partEqLoop ltN a i j d = Go.Sort.partEqLoop ltN a (i2 + 1) (j2 - 1) (swp d i2 j2) := by
  rw [Go.Sort.partEqLoop_eq, h1, h2, if_neg h]
variable {d1 : Array Nat} {pivot : Nat}
theorem pt_t (hd1 : d1 = swp d a pivot) (h1 : Go.Sort.scanUp (upP a d1) d1 (b - 1) (a + 1) = i) (h2 : Go.Sort.scanDown (dnP a d1) d1 i (b - 1) = j) (h : j < i) : Go.Sort.partition ltN d a b pivot = (j, true, swp d1 j a) := by
  subst hd1
  unfold Go.Sort.partition
  simp only
  rw [h1, h2, if_pos h]
theorem pt_f (hd1 : d1 = swp d a pivot) (h1 : Go.Sort.scanUp (upP a d1) d1 (b - 1) (a + 1) = i) (h2 : Go.Sort.scanDown (dnP a d1) d1 i (b - 1) = j) (h : ¬ j < i) (hl : Go.Sort.partLoop ltN a (i + 1) (j - 1) (swp d1 i j) = (j2, d2)) : Go.Sort.partition ltN d a b pivot = (j2, false, swp d2 j2 a) := by
  subst hd1
  unfold Go.Sort.partition
  simp only
  rw [h1, h2, if_neg h, hl]
theorem pq_eq (hd1 : d1 = swp d a pivot) : Go.Sort.partitionEqual ltN d a b pivot = Go.Sort.partEqLoop ltN a (a + 1) (b - 1) d1 := by
  subst hd1
  rfl
/-! ### partialInsertionSort -/
theorem ss_go (h : i < b) (hp : ltN d[i]! d[i - 1]! = false) : Go.Sort.scanSorted ltN d b i = Go.Sort.scanSorted ltN d b (i + 1) := by rw [Go.Sort.scanSorted, if_pos (by rw [hp, decide_eq_true h]; rfl)]
theorem ss_stop (h : ¬ i < b ∨ ltN d[i]! d[i - 1]! = true) : Go.Sort.scanSorted ltN d b i = i := by
  rw [Go.Sort.scanSorted, if_neg]
  rcases h with h | h
  · rw [decide_eq_false h]; simp
  · rw [h]; simp
theorem sw_stop (h : j = 0 ∨ ltN d[j]! d[j - 1]! = false) : Go.Sort.shiftDown ltN j d = d := by
  cases j with
  | zero => rfl
  | succ j =>
    rcases h with h | h
    · omega
    · simp only [Nat.add_sub_cancel] at h
      rw [Go.Sort.shiftDown, if_pos (by rw [h]; rfl)]
theorem sw_go (h0 : 1 ≤ j) (h : ltN d[j]! d[j - 1]! = true) : Go.Sort.shiftDown ltN j d = Go.Sort.shiftDown ltN (j - 1) (swp d j (j - 1)) := by
  cases j with
  | zero => omega
  | succ j =>
    simp only [Nat.add_sub_cancel] at h
    rw [Go.Sort.shiftDown, if_neg (by rw [h]; decide)]
    rfl
theorem sp_stop (h : ¬ j < b ∨ ltN d[j]! d[j - 1]! = false) : Go.Sort.shiftUp ltN b j d = d := by
  rw [Go.Sort.shiftUp]
  split
  · rename_i hb
    rcases h with h | h
    · exact absurd hb h
    · rw [if_pos (by rw [h]; rfl)]
  · rfl
theorem sp_go (h0 : j < b) (h : ltN d[j]! d[j - 1]! = true) : Go.Sort.shiftUp ltN b j d = Go.Sort.shiftUp ltN b (j + 1) (swp d j (j - 1)) := by
  rw [Go.Sort.shiftUp, if_pos h0, if_neg (by rw [h]; decide)]
theorem pi_true {s : Nat} (h1 : Go.Sort.scanSorted ltN d b i = i2) (h : i2 = b) : Go.Sort.partialIns ltN a b (s + 1) i d = (d, true) := by
  rw [Go.Sort.partialIns]
  simp only
  rw [h1, if_pos h]
theorem pi_short {s : Nat} (h1 : Go.Sort.scanSorted ltN d b i = i2) (h : ¬ i2 = b) (h5 : b - a < 50) : Go.Sort.partialIns ltN a b (s + 1) i d = (d, false) := by
  rw [Go.Sort.partialIns]
  simp only
  rw [h1, if_neg h, if_pos h5]
theorem pi_go {s : Nat} {da db dc : Array Nat} (h1 : Go.Sort.scanSorted ltN d b i = i2) (h : ¬ i2 = b) (h5 : ¬ b - a < 50) (ha : da = swp d i2 (i2 - 1)) (hb : db = if 2 ≤ i2 - a then Go.Sort.shiftDown ltN (i2 - 1) da else da) (hc : dc = if 2 ≤ b - i2 then Go.Sort.shiftUp ltN b (i2 + 1) db else db) :
    Go.Sort.partialIns ltN a b (s + 1) i d = Go.Sort.partialIns ltN a b s i2 dc := by
  subst ha; subst hb; subst hc
  rw [Go.Sort.partialIns]
  simp only
  rw [h1, if_neg h, if_neg h5]
end
/-! ### bits, patterns -/
theorem rev_go {i j : Nat} {d : Array Nat} (h : i < j) : Go.Sort.reverseLoop i j d = Go.Sort.reverseLoop (i + 1) (j - 1) (swp d i j) := by rw [Go.Sort.reverseLoop, if_pos h]
theorem rev_stop {i j : Nat} {d : Array Nat} (h : ¬ i < j) : Go.Sort.reverseLoop i j d = d := by rw [Go.Sort.reverseLoop, if_neg h]
theorem xor_u64 {x y : Nat} (hx : x < 18446744073709551616) (hy : y < 18446744073709551616) : (x ^^^ y) < 18446744073709551616 := by
  have p : (18446744073709551616 : Nat) = 2 ^ 64 := by decide
  rw [p] at hx hy ⊢
  exact Nat.xor_lt_two_pow hx hy
theorem shl_u64 {x k : Nat} : IntKind.u64.wrap ((x : Int) * 2 ^ k) = ((x * 2 ^ k % 18446744073709551616 : Nat) : Int) := by
  simp only [IntKind.wrap, IntKind.bits, IntKind.signed]
  simp
theorem pow_bits {x : Nat} (h0 : 0 < x) (h : x < 65536) : 1 ≤ 2 ^ Go.Sort.bitsLen x ∧ 2 ^ Go.Sort.bitsLen x ≤ 2 * x ∧ Go.Sort.bitsLen x ≤ 17 := by
  refine ⟨Nat.one_le_two_pow, Go.Sort.two_pow_bitsLen_le h0, ?_⟩
  exact (Go.Sort.bitsLen_le_iff x 17).2 (by omega)
theorem bits_le {x : Nat} (h : x < 65536) : Go.Sort.bitsLen x ≤ 16 := (Go.Sort.bitsLen_le_iff x 16).2 (by omega)
/-- What is asked of what comes back: the part sorted, all else as it was. -/
abbrev Srt (a b : Nat) (d d' : Array Nat) : Prop := Go.Sort.PermIn a b d d' ∧ Go.Sort.SortedIn ltN a b d'
end Go.Sl

