/- Own work: texts SlA, SlB, SlC, SlD, SlE, SlF, SlH, SlI, Fc, Wi, Dv, Dw, Xc, XlW, WiW, XpW, XuW, Du, SlU, put together. -/
import Derived.Calls
import Derived.Below
import Derived.OrdersHeld
import Derived.StillTail
import Derived.Laws.Cells
import Derived.Laws.Entries
import Derived.KernelRfl
import Derived.Laws.StructEq
import Derived.Laws.Pointers
import Derived.Laws.Small
import Derived.Laws.Cover3
import Derived.Laws.BitsLemmas
import Derived.Laws.Append
import Derived.Stop.BytesEq
import Derived.Laws.BytesString
import Derived.Laws.IdiomStrings
import Derived.Test.YtighbhplfjjgpaaProg
/- The calculus of this seat's walks (own work): a state is what is known of the frame's slots and of the heap's blocks; one law for each form of code. Nothing is said of any program here. -/
set_option linter.unusedVariables false
set_option linter.unusedSimpArgs false
namespace Go.Sl
open Go.RowKit (Below)

/-! ### What is known of a frame -/
abbrev Env := List (Nat × Value)
def look : Env → Nat → Option Value
  | [], _ => none
  | (d, v) :: E, t => bif Nat.beq d t then some v else look E t
def ev (E : Env) : Operand → Option Value
  | .tmp t => look E t
  | .const v => some v
  | .global g => some (.pointer (some ⟨g, 0, none⟩))
  | .func f => some (.func (.func f) #[] #[])
def put (E : Env) (d : Option Nat) (v : Value) : Env := match d with | some d => (d, v) :: E | none => E
/-- A frame's size, and what it has deferred. -/
structure FN where
  n : Nat
  ds : List Deferred
def dok (d : Option Nat) (n : FN) : Bool := match d with | some d => Nat.blt d n.n | none => true
structure FrOk (n : FN) (E : Env) (a : Act) : Prop where
  defers : a.defers = n.ds
  size : a.tmps.size = n.n
  known : ∀ t v, look E t = some v → a.tmps[t]? = some v

theorem FrOk.eval {n : FN} {E : Env} {a : Act} (h : FrOk n E a) {x : Operand} {v : Value} (hx : ev E x = some v) : a.eval x = v := by
  cases x with
  | tmp t => have := h.known t v hx; simp [Act.eval, this]
  | const u => simp [ev] at hx; simp [Act.eval, hx]
  | global g => simp [ev] at hx; simp [Act.eval, hx]
  | func f => simp [ev] at hx; simp [Act.eval, hx]

theorem look_put {E : Env} {d : Nat} {v : Value} {t : Nat} : look ((d, v) :: E) t = if d = t then some v else look E t := by
  show (bif Nat.beq d t then some v else look E t) = _
  by_cases h : d = t
  · subst h; simp
  · have : Nat.beq d t = false := by
      cases hb : Nat.beq d t with
      | false => rfl
      | true => exact absurd (Nat.eq_of_beq_eq_true hb) h
    simp [this, h]

theorem FrOk.put {n : FN} {E : Env} {a : Act} (h : FrOk n E a) {d : Option Nat} (hd : dok d n = true) (v : Value) : FrOk n (put E d v) (a.put d v) := by
  cases d with
  | none => exact h
  | some d =>
    have hlt : d < n.n := Nat.lt_of_succ_le (by simpa [dok, Nat.blt] using hd)
    refine ⟨h.defers, by simp [Act.put, h.size], fun t u ht => ?_⟩
    simp only [Sl.put] at ht
    rw [look_put] at ht
    simp only [Act.put, Array.getElem?_setIfInBounds, h.size]
    by_cases e : d = t
    · subst e; simp at ht; simp [hlt, ht]
    · rw [if_neg e] at ht; simp only [if_neg e]; exact h.known t u ht

/-- E' tells no more than E. -/
def SubEnv : Env → Env → Prop
  | [], _ => True
  | (t, v) :: E', E => look E t = some v ∧ SubEnv E' E
theorem SubEnv.spec {E' E : Env} (h : SubEnv E' E) : ∀ t v, look E' t = some v → look E t = some v := by
  induction E' with
  | nil => intro t v ht; cases ht
  | cons p E' ih =>
    obtain ⟨d, u⟩ := p
    intro t v ht
    rw [look_put] at ht
    by_cases e : d = t
    · subst e; simp at ht; subst ht; exact h.1
    · rw [if_neg e] at ht; exact ih h.2 t v ht
theorem frOk_same {n : FN} {E : Env} {a : Act} (h : FrOk n E a) {t : Nat} {v : Value} (ht : look E t = some v) : FrOk n ((t, v) :: E) a :=
  ⟨h.defers, h.size, fun u w hu => by
    rw [look_put] at hu
    by_cases e : t = u
    · subst e; simp at hu; subst hu; exact h.known t v ht
    · rw [if_neg e] at hu; exact h.known u w hu⟩
theorem FrOk.weaken {n : FN} {E E' : Env} {a : Act} (h : FrOk n E a) (hs : SubEnv E' E) : FrOk n E' a :=
  ⟨h.defers, h.size, fun t v ht => h.known t v (hs.spec t v ht)⟩

/-! ### What is known of the heap -/
abbrev Hp := List (List (Nat × Obj))
structure St (w0 w : World) (H : Hp) : Prop where
  below : Below w0.heap.size w0 w
  nodup : (H.flatten.map Prod.fst).Nodup
  ge : ∀ p ∈ H.flatten, w0.heap.size ≤ p.1
  has : ∀ p ∈ H.flatten, w.heap[p.1]? = some p.2

theorem St.start (w0 : World) : St w0 w0 [] := ⟨Below.refl _ _, by simp, by simp, by simp⟩
theorem St.drew {w0 w : World} {H : Hp} (h : St w0 w H) : St w0 w.drew H := ⟨h.below.drew, h.nodup, h.ge, h.has⟩
theorem St.drawn {w0 w : World} {H : Hp} (h : St w0 w H) (k : Nat) : St w0 { w with drawn := k } H :=
  ⟨⟨h.below.os, h.below.tape, h.below.output, h.below.size, h.below.block⟩, h.nodup, h.ge, h.has⟩

/-- Fewer blocks, in any order. -/
def HSub (H' H : Hp) : Prop := ∀ w0 w, St w0 w H → St w0 w H'
theorem HSub.refl (H : Hp) : HSub H H := fun _ _ h => h
theorem HSub.trans {A B C : Hp} (h : HSub A B) (k : HSub B C) : HSub A C := fun w0 w s => h w0 w (k w0 w s)
theorem HSub.of_sublist {H' H L : Hp} (hp : H.flatten.Perm L.flatten) (hs : H'.flatten.Sublist L.flatten) : HSub H' H := fun w0 w h => by
  have hm : ∀ p ∈ H'.flatten, p ∈ H.flatten := fun p hp' => hp.mem_iff.2 (hs.subset hp')
  exact ⟨h.below, (hs.map Prod.fst).nodup ((hp.map Prod.fst).nodup_iff.1 h.nodup), fun p q => h.ge p (hm p q), fun p q => h.has p (hm p q)⟩
theorem HSub.of_perm {H' H : Hp} (hp : H.flatten.Perm H'.flatten) : HSub H' H := .of_sublist hp (List.Sublist.refl _)
theorem HSub.drop (S : List (Nat × Obj)) (H : Hp) : HSub H (S :: H) := .of_sublist (List.Perm.refl _) (by simp [List.flatten_cons])
theorem HSub.cons {H' H : Hp} (S : List (Nat × Obj)) (h : ∃ L : Hp, H.flatten.Perm L.flatten ∧ H'.flatten.Sublist L.flatten) : HSub (S :: H') (S :: H) := by
  obtain ⟨L, hp, hs⟩ := h
  exact .of_sublist (L := S :: L) (by simpa using hp.append_left S) (by simpa using (List.Sublist.refl S).append hs)

/-- Where a block lies. -/
def getH : Hp → Nat → Nat → Option (Nat × Obj)
  | [], _, _ => none
  | S :: _, 0, k => S[k]?
  | _ :: H, s + 1, k => getH H s k
def setH : Hp → Nat → Nat → Obj → Hp
  | [], _, _, _ => []
  | S :: H, 0, k, o => (S.modify k fun p => (p.1, o)) :: H
  | S :: H, s + 1, k, o => S :: setH H s k o
/-- One segment told anew. -/
def setS : Hp → Nat → List (Nat × Obj) → Hp
  | [], _, _ => []
  | _ :: H, 0, X => X :: H
  | S :: H, s + 1, X => S :: setS H s X

theorem getH_mem {H : Hp} {s k : Nat} {p : Nat × Obj} (h : getH H s k = some p) : p ∈ H.flatten := by
  induction H generalizing s with
  | nil => cases h
  | cons S H ih =>
    cases s with
    | zero => simp only [getH] at h; simp [List.mem_of_getElem? h]
    | succ s => simp only [getH] at h; simp only [List.flatten_cons, List.mem_append]; exact .inr (ih h)

/-- In the worlds of W block b is o. -/
def Sees (W : World → Prop) (b : Nat) (o : Obj) : Prop := ∀ w, W w → w.heap[b]? = some o
theorem sees {w0 : World} {H : Hp} (s k : Nat) {b : Nat} {o : Obj} (h : getH H s k = some (b, o)) : Sees (fun w => St w0 w H) b o :=
  fun _ hw => hw.has _ (getH_mem h)
theorem sees_mem {w0 : World} {H : Hp} {b : Nat} {o : Obj} (h : (b, o) ∈ H.flatten) : Sees (fun w => St w0 w H) b o :=
  fun _ hw => hw.has _ h
theorem sees_old {w0 : World} {H : Hp} {b : Nat} {o : Obj} (h : w0.heap[b]? = some o) : Sees (fun w => St w0 w H) b o :=
  fun w hw => by
    have hlt : b < w0.heap.size := (Array.getElem?_eq_some_iff.1 h).1
    rw [hw.below.block b hlt]; exact h
/-- What may be read: a block that was there, or one of those that are known. -/
def Rd (w0 : World) (H : Hp) (b : Nat) (o : Obj) : Prop := Sees (fun w => St w0 w H) b o
theorem Sees.sub {w0 : World} {H H' : Hp} {b : Nat} {o : Obj} (h : Sees (fun w => St w0 w H') b o) (hs : HSub H' H) : Sees (fun w => St w0 w H) b o :=
  fun w hw => h w (hs w0 w hw)

/-! ### Worlds that are written -/
def putB (w : World) (b : Nat) (o : Obj) : World := { w with heap := w.heap.setIfInBounds b o }
theorem putB_same {w : World} {b : Nat} {o o' : Obj} (h : w.heap[b]? = some o) : (putB w b o').heap[b]? = some o' := by
  have hlt : b < w.heap.size := (Array.getElem?_eq_some_iff.1 h).1
  simp [putB, hlt]
theorem putB_other {w : World} {b c : Nat} {o : Obj} (h : c ≠ b) : (putB w b o).heap[c]? = w.heap[c]? := by
  simp only [putB, Array.getElem?_setIfInBounds]
  rw [if_neg (fun e => h e.symm)]

theorem map_modify_fst (S : List (Nat × Obj)) (k : Nat) (o : Obj) : (S.modify k fun p => (p.1, o)).map Prod.fst = S.map Prod.fst := by
  apply List.ext_getElem?
  intro i
  simp only [List.getElem?_map, List.getElem?_modify]
  cases S[i]? <;> simp
  split <;> rfl
theorem setH_keys (H : Hp) (s k : Nat) (o : Obj) : (setH H s k o).flatten.map Prod.fst = H.flatten.map Prod.fst := by
  induction H generalizing s with
  | nil => rfl
  | cons S H ih =>
    cases s with
    | zero => simp only [setH, List.flatten_cons, List.map_append]; rw [map_modify_fst]
    | succ s => simp only [setH, List.flatten_cons, List.map_append, ih s]
theorem mem_modify {S : List (Nat × Obj)} {k : Nat} {o : Obj} {p q : Nat × Obj} (hk : S[k]? = some q) (h : p ∈ S.modify k fun p => (p.1, o)) :
    p = (q.1, o) ∨ (∃ j, j ≠ k ∧ S[j]? = some p) := by
  obtain ⟨j, hj⟩ := List.mem_iff_getElem?.1 h
  rw [List.getElem?_modify] at hj
  by_cases e : k = j
  · subst e; rw [hk] at hj; simp at hj; exact .inl hj.symm
  · cases hS : S[j]? with
    | none => simp [hS] at hj
    | some r => simp [hS, e] at hj; subst hj; exact .inr ⟨j, fun h => e h.symm, hS⟩
theorem nodup_ne {S : List (Nat × Obj)} (hn : (S.map Prod.fst).Nodup) {j k : Nat} {p q : Nat × Obj} (hj : S[j]? = some p) (hk : S[k]? = some q) (hne : j ≠ k) : p.1 ≠ q.1 := by
  intro e
  have h1 : (S.map Prod.fst)[j]? = some p.1 := by simp [hj]
  have h2 : (S.map Prod.fst)[k]? = some p.1 := by simp [hk, e]
  have hlt : j < (S.map Prod.fst).length := (List.getElem?_eq_some_iff.1 h1).1
  exact hne ((List.getElem?_inj hlt hn).1 (h1.trans h2.symm))
theorem mem_setH {H : Hp} {s k : Nat} {o : Obj} {p q : Nat × Obj} (hn : (H.flatten.map Prod.fst).Nodup) (hk : getH H s k = some q) (h : p ∈ (setH H s k o).flatten) :
    p = (q.1, o) ∨ (p ∈ H.flatten ∧ p.1 ≠ q.1) := by
  induction H generalizing s with
  | nil => cases hk
  | cons S H ih =>
    have hn' := hn
    simp only [List.flatten_cons, List.map_append] at hn
    rw [List.nodup_append] at hn
    cases s with
    | zero =>
      simp only [getH] at hk
      simp only [setH, List.flatten_cons, List.mem_append] at h
      rcases h with h | h
      · rcases mem_modify hk h with h | ⟨j, hj, hS⟩
        · exact .inl h
        · exact .inr ⟨by simp [List.mem_of_getElem? hS], nodup_ne hn.1 hS hk hj⟩
      · refine .inr ⟨by simp only [List.flatten_cons, List.mem_append]; exact .inr h, fun e => ?_⟩
        exact hn.2.2 q.1 (List.mem_map.2 ⟨q, List.mem_of_getElem? hk, rfl⟩) p.1 (List.mem_map.2 ⟨p, h, rfl⟩) e.symm
    | succ s =>
      simp only [getH] at hk
      simp only [setH, List.flatten_cons, List.mem_append] at h
      rcases h with h | h
      · refine .inr ⟨by simp [h], fun e => ?_⟩
        exact hn.2.2 p.1 (List.mem_map.2 ⟨p, h, rfl⟩) q.1 (List.mem_map.2 ⟨q, getH_mem hk, rfl⟩) e
      · rcases ih hn.2.1 hk h with h | h
        · exact .inl h
        · exact .inr ⟨by simp [h.1], h.2⟩

theorem St.putB {w0 w : World} {H : Hp} (h : St w0 w H) {s k : Nat} {b : Nat} {o : Obj} (hk : getH H s k = some (b, o)) (o' : Obj) :
    St w0 (putB w b o') (setH H s k o') := by
  have hb : w0.heap.size ≤ b := h.ge _ (getH_mem hk)
  have hB := h.has _ (getH_mem hk)
  refine ⟨⟨h.below.os, h.below.tape, h.below.output, by simpa [Sl.putB] using h.below.size, fun c hc => ?_⟩, by rw [setH_keys]; exact h.nodup, fun p hp => ?_, fun p hp => ?_⟩
  · rw [putB_other (by omega)]; exact h.below.block c hc
  · rcases mem_setH h.nodup hk hp with e | e
    · rw [e]; exact hb
    · exact h.ge _ e.1
  · rcases mem_setH h.nodup hk hp with e | e
    · rw [e]; exact putB_same hB
    · rw [putB_other e.2]; exact h.has _ e.1

theorem St.alloc {w0 w : World} {H : Hp} (h : St w0 w H) (o : Obj) : St w0 (w.alloc o) ([(w.heap.size, o)] :: H) := by
  have hlt : ∀ p ∈ H.flatten, p.1 < w.heap.size := fun p hp => (Array.getElem?_eq_some_iff.1 (h.has p hp)).1
  refine ⟨h.below.alloc h.below.size o, ?_, ?_, ?_⟩
  · simp only [List.flatten_cons, List.singleton_append, List.map_cons, List.nodup_cons]
    refine ⟨fun hm => ?_, h.nodup⟩
    obtain ⟨p, hp, e⟩ := List.mem_map.1 hm
    have := hlt p hp
    omega
  · intro p hp
    simp only [List.flatten_cons, List.singleton_append, List.mem_cons] at hp
    rcases hp with rfl | hp
    · exact h.below.size
    · exact h.ge p hp
  · intro p hp
    simp only [List.flatten_cons, List.singleton_append, List.mem_cons] at hp
    rcases hp with rfl | hp
    · show (w.heap.push o)[w.heap.size]? = some o
      simp
    · rw [show (w.alloc o).heap[p.1]? = w.heap[p.1]? from Below.heap_alloc w o p.1 (hlt p hp)]; exact h.has p hp

/-! ### Judgements -/
abbrev Post := Exit → Env → Hp → Prop
def Exit.isPanic : Exit → Bool
  | .panic _ => true
  | _ => false
def lift (n : FN) (w0 : World) (Q : Post) : Exit → Act → World → Prop := fun e a w => ∃ E H, (a.defers = n.ds ∧ (Exit.isPanic e = false → FrOk n E a)) ∧ St w0 w H ∧ Q e E H
def WpC (P : Program) (n : FN) (w0 : World) (c : Code) (Q : Post) (E : Env) (H : Hp) : Prop := ∀ a w, FrOk n E a → St w0 w H → c.wp P (lift n w0 Q) a w
def WpL (P : Program) (n : FN) (w0 : World) (ops : List Oper) (Q : Post) (l : List Oper) (E : Env) (H : Hp) : Prop :=
  ∀ a w, FrOk n E a → St w0 w H → wpList P ops.toArray (lift n w0 Q) l a w
/-- One operation. -/
def OpW (P : Program) (n : FN) (w0 : World) (Q : Post) (o : Oper) (E : Env) (H : Hp) (K : Env → Hp → Prop) : Prop :=
  ∀ a w, FrOk n E a → St w0 w H → ∀ next : Act → World → Prop, (∀ E' H' a' w', FrOk n E' a' → St w0 w' H' → K E' H' → next a' w') → o.wp P a w next (lift n w0 Q)
/-- A call. -/
def FnS (P : Program) (w0 : World) (f : Nat) (args : Array Value) (H : Hp) (R : Ending → Hp → Prop) : Prop :=
  ∀ w, St w0 w H → Calls P f args w fun e w' => ∃ H', St w0 w' H' ∧ R e H'
/-- An operation that only yields a value, in each world of W. -/
def YV (P : Program) (n : FN) (E : Env) (W : World → Prop) (op : Op) (ty : Nat) (v : Value) : Prop :=
  ∀ a w, FrOk n E a → W w → ∀ d ps af g, (execOp a.eval ⟨d, op, ty, ps, af, g⟩).run P w = .ok (.value v) w

variable {P : Program} {n : FN} {w0 : World} {Q : Post} {E E' : Env} {H H' : Hp}

theorem FnS.mono {f : Nat} {args : Array Value} {R R' : Ending → Hp → Prop} (h : FnS P w0 f args H R) (hr : ∀ e H', R e H' → R' e H') : FnS P w0 f args H R' :=
  fun w hw => (h w hw).mono fun e w' ⟨H', s, r⟩ => ⟨H', s, hr e H' r⟩
theorem FnS.sub {f : Nat} {args : Array Value} {R : Ending → Hp → Prop} (hs : HSub H' H) (h : FnS P w0 f args H' R) : FnS P w0 f args H R :=
  fun w hw => h w (hs w0 w hw)
theorem perm_setS_all : ∀ (H : Hp) (k : Nat) (X : List (Nat × Obj)), H[k]? = some X → ∃ L, H.flatten.Perm (X :: L).flatten ∧ ∀ Y, (setS H k Y).flatten.Perm (Y :: L).flatten
  | [], _, _, h => by cases h
  | S :: H, 0, X, h => by simp at h; subst h; exact ⟨H, .refl _, fun _ => .refl _⟩
  | S :: H, k + 1, X, h => by
    simp only [List.getElem?_cons_succ] at h
    obtain ⟨L, h1, h2⟩ := perm_setS_all H k X h
    refine ⟨S :: L, ?_, fun Y => ?_⟩
    · simp only [List.flatten_cons] at *
      refine (h1.append_left S).trans ?_
      rw [← List.append_assoc, ← List.append_assoc]
      exact (List.perm_append_comm).append_right _
    · have h2 := h2 Y
      simp only [setS, List.flatten_cons] at *
      refine (h2.append_left S).trans ?_
      rw [← List.append_assoc, ← List.append_assoc]
      exact (List.perm_append_comm).append_right _
theorem FnS.at {f : Nat} {args : Array Value} {X : List (Nat × Obj)} {φ : Ending → List (Nat × Obj) → Prop} (k : Nat)
    (h : ∀ L, FnS P w0 f args (X :: L) fun e H' => ∃ Y, φ e Y ∧ H' = Y :: L) (hk : H[k]? = some X) :
    FnS P w0 f args H fun e H' => ∃ Y, φ e Y ∧ H' = setS H k Y := by
  obtain ⟨L, h1, h2⟩ := perm_setS_all H k X hk
  intro w hw
  refine (h L w (HSub.of_perm h1 w0 w hw)).mono ?_
  rintro e w' ⟨H', s, Y, hφ, rfl⟩
  exact ⟨_, HSub.of_perm (h2 Y).symm w0 w' s, Y, hφ, rfl⟩

/-! ### Code -/
theorem C_weaken {c : Code} (hE : SubEnv E' E) (hH : HSub H' H) (h : WpC P n w0 c Q E' H') : WpC P n w0 c Q E H :=
  fun a w ha hw => h a w (ha.weaken hE) (hH w0 w hw)
theorem C_mono {c : Code} {Q' : Post} (h : WpC P n w0 c Q' E H) (hq : ∀ e E H, Q' e E H → Q e E H) : WpC P n w0 c Q E H :=
  fun a w ha hw => wp_mono (h a w ha hw) fun e a' w' ⟨E', H', x, y, z⟩ => ⟨E', H', x, y, hq _ _ _ z⟩
@[reducible] def thenQ (K : Env → Hp → Prop) (Q : Post) : Post := fun e E H => match e with | .normal => K E H | e => Q e E H
theorem C_seq {x y : Code} (h : WpC P n w0 x (thenQ (WpC P n w0 y Q) Q) E H) : WpC P n w0 (.seq x y) Q E H := fun a w ha hw => by
  refine wp_seq (wp_mono (h a w ha hw) ?_)
  rintro e a' w' ⟨E', H', x, s, q⟩
  cases e with
  | normal => exact q a' w' (x.2 rfl) s
  | _ => exact ⟨E', H', x, s, q⟩
/-- A sequence with a cut between. -/
theorem C_cut {x y : Code} (K : Env → Hp → Prop) (h : WpC P n w0 x (thenQ K Q) E H) (hk : ∀ E H, K E H → WpC P n w0 y Q E H) : WpC P n w0 (.seq x y) Q E H :=
  C_seq (C_mono h fun e E H q => by cases e <;> first | exact hk _ _ q | exact q)
theorem C_skip (h : Q .normal E H) : WpC P n w0 .skip Q E H := fun a w ha hw => wp_skip ⟨E, H, ⟨ha.defers, fun _ => ha⟩, hw, h⟩
theorem C_ret (h : Q .ret E H) : WpC P n w0 .ret Q E H := fun a w ha hw => wp_ret ⟨E, H, ⟨ha.defers, fun _ => ha⟩, hw, h⟩
theorem C_exit {id : Nat} (h : Q (.exit id) E H) : WpC P n w0 (.exit id) Q E H := fun a w ha hw => wp_exit ⟨E, H, ⟨ha.defers, fun _ => ha⟩, hw, h⟩
theorem C_cond {c : Operand} {x y : Code} {b : Bool} (hc : ev E c = some (.bool b)) (ht : b = true → WpC P n w0 x Q E H) (hf : b = false → WpC P n w0 y Q E H) :
    WpC P n w0 (.cond c x y) Q E H := fun a w ha hw => wp_cond_split (ha.eval hc) (fun h => ht h a w ha hw) (fun h => hf h a w ha hw)
theorem C_cond_t {c : Operand} {x y : Code} (hc : ev E c = some (.bool true)) (h : WpC P n w0 x Q E H) : WpC P n w0 (.cond c x y) Q E H :=
  fun a w ha hw => wp_cond_true (ha.eval hc) (h a w ha hw)
theorem C_cond_f {c : Operand} {x y : Code} (hc : ev E c = some (.bool false)) (h : WpC P n w0 y Q E H) : WpC P n w0 (.cond c x y) Q E H :=
  fun a w ha hw => wp_cond_false (ha.eval hc) (h a w ha hw)
@[reducible] def blockQ (id : Nat) (Q : Post) : Post := fun e E H => match e with | .exit id' => if id' = id then Q .normal E H else Q (.exit id') E H | e => Q e E H
theorem C_block {id : Nat} {c : Code} (h : WpC P n w0 c (blockQ id Q) E H) : WpC P n w0 (.block id c) Q E H := fun a w ha hw => by
  refine wp_block (wp_mono (h a w ha hw) ?_)
  rintro e a' w' ⟨E', H', x, s, q⟩
  cases e with
  | exit id' =>
    simp only [blockQ] at q
    simp only [Exit.inBlock]
    split
    · rename_i e; rw [if_pos e] at q; exact ⟨E', H', ⟨x.1, fun _ => x.2 rfl⟩, s, q⟩
    · rename_i e; rw [if_neg e] at q; exact ⟨E', H', ⟨x.1, fun _ => x.2 rfl⟩, s, q⟩
  | _ => exact ⟨E', H', x, s, q⟩
/-- A loop: states i : ι between the rounds; a measure falls. -/
theorem C_loop {ι : Type} {c : Code} (Ei : ι → Env) (Hi : ι → Hp) (G : ι → Prop) (μ : ι → Nat) (i0 : ι) (h0 : G i0) (hE : SubEnv (Ei i0) E) (hH : HSub (Hi i0) H)
    (round : ∀ i, G i → WpC P n w0 c (thenQ (fun E' H' => ∃ j, G j ∧ μ j < μ i ∧ SubEnv (Ei j) E' ∧ HSub (Hi j) H') Q) (Ei i) (Hi i)) :
    WpC P n w0 (.loop c) Q E H := by
  intro a w ha hw b k cs
  have key : ∀ (m : Nat) (i : ι), G i → μ i = m → ∀ a w, FrOk n (Ei i) a → St w0 w (Hi i) →
      ∃ e a' w', lift n w0 Q e a' w' ∧ Arrives P (lone (b.at a (.code c :: .inLoop c :: k)) cs w) b k cs e a' w' := by
    intro m
    induction m using Nat.strongRecOn with
    | _ m ih =>
      intro i gi hm a w ha hw
      obtain ⟨e, a₁, w₁, hq, harr⟩ := round i gi a w ha hw b (.inLoop c :: k) cs
      obtain ⟨E₁, H₁, f1, s1, q⟩ := hq
      cases e with
      | normal =>
        obtain ⟨j, gj, hlt, hE, hH⟩ := q
        obtain ⟨e₂, a₂, w₂, hq₂, harr₂⟩ := ih (μ j) (hm ▸ hlt) j gj rfl a₁ w₁ ((f1.2 rfl).weaken hE) (hH w0 w₁ s1)
        exact ⟨e₂, a₂, w₂, hq₂, .of_steps (Steps.trans harr (.one step_inLoop)) harr₂⟩
      | exit id => exact ⟨_, a₁, w₁, ⟨E₁, H₁, f1, s1, q⟩, .pass (x := .inLoop c) rfl (fun _ _ => .inl (by simp)) harr⟩
      | goto l => exact ⟨_, a₁, w₁, ⟨E₁, H₁, f1, s1, q⟩, .pass (x := .inLoop c) rfl (fun _ _ => .inl (by simp)) harr⟩
      | ret => exact ⟨_, a₁, w₁, ⟨E₁, H₁, f1, s1, q⟩, .pass (x := .inLoop c) rfl (fun _ _ => .inl (by simp)) harr⟩
      | panic ch => exact ⟨_, a₁, w₁, ⟨E₁, H₁, f1, s1, q⟩, .pass (x := .inLoop c) rfl (fun _ _ => .inl (by simp)) harr⟩
      | outgrown => exact ⟨_, a₁, w₁, ⟨E₁, H₁, f1, s1, q⟩, .pass (x := .inLoop c) rfl (fun _ _ => .inl (by simp)) harr⟩
  obtain ⟨e, a', w', hq, harr⟩ := key (μ i0) i0 h0 rfl a w (ha.weaken hE) (hH w0 w hw)
  exact ⟨e, a', w', hq, .of_steps (.one step_loop) harr⟩
end Go.Sl

/- The calculus, second part (own work): lists of operations, regions that draw their order, and the operations that only yield a value. -/
set_option linter.unusedVariables false
set_option linter.unusedSimpArgs false
namespace Go.Sl
open Go.RowKit (Below)
variable {P : Program} {n : FN} {w0 : World} {Q : Post} {E E' : Env} {H H' HS : Hp} {W : World → Prop}

/-! ### Guards -/
def isB : Value → Bool → Bool
  | .bool c, b => bif b then c else !c
  | _, _ => false
def gv (ops : List Oper) (E : Env) (j : Nat) : Option Value := (ops[j]?).bind fun o => o.dst.bind fun d => look E d
def wE (ops : List Oper) (E : Env) : Option (Nat × Bool) → Option Bool
  | none => some true
  | some (j, b) => (gv ops E j).map fun v => isB v b
theorem wanted_of {ops : List Oper} {o : Oper} {c : Bool} (h : wE ops E o.guard = some c) {a : Act} (ha : FrOk n E a) : Region.wanted o (yielded ops.toArray a.tmps) = c := by
  unfold Region.wanted
  cases hg : o.guard with
  | none => rw [hg] at h; simp [wE] at h; simp [h]
  | some p =>
    obtain ⟨j, b⟩ := p
    rw [hg] at h
    simp only [wE, gv, Option.map_eq_some_iff] at h
    obtain ⟨v, hv, hb⟩ := h
    simp only [Option.bind_eq_some_iff] at hv
    obtain ⟨o', ho', d, hd, hl⟩ := hv
    have hk := ha.known d v hl
    simp only [yielded, List.getElem?_toArray, ho', Option.bind_some, hd, hk]
    rw [← hb]
    cases v <;> simp [isB] <;> (rename_i c'; cases b <;> cases c' <;> rfl)

/-! ### Lists -/
theorem L_nil {ops : List Oper} (h : Q .normal E H) : WpL P n w0 ops Q [] E H := fun a w ha hw => wpList_nil ⟨E, H, ⟨ha.defers, fun _ => ha⟩, hw, h⟩
theorem L_y {ops rest : List Oper} {d : Option Nat} {op : Op} {ty : Nat} {ps : String} {af : Array Edge} {g : Option (Nat × Bool)} {v : Value}
    (hg : wE ops E g = some true) (hy : YV P n E (fun w => St w0 w H) op ty v) (hd : dok d n = true) (k : WpL P n w0 ops Q rest (put E d v) H) :
    WpL P n w0 ops Q (⟨d, op, ty, ps, af, g⟩ :: rest) E H := fun a w ha hw => by
  unfold wpList
  rw [if_pos (wanted_of (o := ⟨d, op, ty, ps, af, g⟩) hg ha)]
  refine .inl ?_
  unfold Oper.wp
  rw [hy a w ha hw d ps af g]
  exact k _ _ (ha.put hd v) hw
theorem L_op {ops rest : List Oper} {o : Oper} (hg : wE ops E o.guard = some true) (h : OpW P n w0 Q o E H (fun E' H' => WpL P n w0 ops Q rest E' H')) :
    WpL P n w0 ops Q (o :: rest) E H := fun a w ha hw => by
  unfold wpList
  rw [if_pos (wanted_of hg ha)]
  exact .inl (h a w ha hw _ fun E' H' a' w' x s k => k a' w' x s)
theorem L_skip {ops rest : List Oper} {o : Oper} (hg : wE ops E o.guard = some false) (hd : dok o.dst n = true) (k : WpL P n w0 ops Q rest (put E o.dst undef) H) :
    WpL P n w0 ops Q (o :: rest) E H := fun a w ha hw => by
  unfold wpList
  rw [if_neg (by rw [wanted_of hg ha]; simp)]
  exact k _ _ (ha.put hd undef) hw
/-- A slot's truth is asked. -/
theorem L_case {ops l : List Oper} (t : Nat) {b : Bool} (h : look E t = some (.bool b)) (ht : b = true → WpL P n w0 ops Q l ((t, .bool true) :: E) H)
    (hf : b = false → WpL P n w0 ops Q l ((t, .bool false) :: E) H) : WpL P n w0 ops Q l E H := by
  cases b with
  | true => exact fun a w ha hw => ht rfl a w (frOk_same ha h) hw
  | false => exact fun a w ha hw => hf rfl a w (frOk_same ha h) hw

/-! ### Regions -/
theorem C_region {id : Nat} {l : List Oper} (h : WpL P n w0 l Q l E H) : WpC P n w0 (.region id l.toArray false) Q E H :=
  fun a w ha hw => wp_region_lit (h a w ha hw)

/-- Behind the draw, operations that only yield; then the tail, in its order. -/
def WpS (P : Program) (n : FN) (w0 : World) (ops : List Oper) (Q : Post) (tail l : List Oper) (E : Env) (H : Hp) : Prop :=
  ∀ a w, FrOk n E a → St w0 w H → wpStill P ops.toArray w (fun a' => wpList P ops.toArray (lift n w0 Q) tail a' w) l a
theorem C_regionT {id : Nat} {l : List Oper} (m : Nat) (hm : P.follows .mixedOrders = true) (hB : Region.lexTailB .any l.toArray m = true)
    (h : WpS P n w0 l Q (l.drop m) (l.take m) E H) : WpC P n w0 (.region id l.toArray true) Q E H :=
  fun a w ha hw => wp_region_still_tail m hm hB (h a _ ha (hw.drawn _))
theorem S_nil {ops tail : List Oper} (h : WpL P n w0 ops Q tail E H) : WpS P n w0 ops Q tail [] E H := fun a w ha hw => h a w ha hw
theorem S_y {ops tail rest : List Oper} {d : Option Nat} {op : Op} {ty : Nat} {ps : String} {af : Array Edge} {g : Option (Nat × Bool)} {v : Value}
    (hg : wE ops E g = some true) (hy : YV P n E (fun w => St w0 w H) op ty v) (hd : dok d n = true) (k : WpS P n w0 ops Q tail rest (put E d v) H) :
    WpS P n w0 ops Q tail (⟨d, op, ty, ps, af, g⟩ :: rest) E H := fun a w ha hw => by
  unfold wpStill
  rw [if_pos (wanted_of (o := ⟨d, op, ty, ps, af, g⟩) hg ha)]
  unfold Oper.still
  rw [hy a w ha hw d ps af g]
  exact ⟨rfl, k _ _ (ha.put hd v) hw⟩
/-- Whatever order is drawn; what is known throughout is HS. -/
def WpH (P : Program) (n : FN) (w0 : World) (ops : List Oper) (Q : Post) (HS : Hp) (fuel : Nat) (listed : List Bool) (E : Env) (H : Hp) : Prop :=
  ∀ a w, FrOk n E a → St w0 w H → wpAnyH P .any ops.toArray (lift n w0 Q) (fun w => St w0 w HS) fuel listed.toArray a w
theorem C_regionH {id : Nat} {l : List Oper} (HS : Hp) (hm : P.follows .mixedOrders = true) (h : WpH P n w0 l Q HS l.length (List.replicate l.length false) E H) :
    WpC P n w0 (.region id l.toArray true) Q E H := fun a w ha hw => by
  refine wp_region_held (S := fun w => St w0 w HS) hm ?_
  have := h a _ ha (hw.drawn (w.drawn + 1))
  simpa using this
theorem C_regionH0 {id : Nat} {l : List Oper} (hm : P.follows .mixedOrders = true) (h : WpH P n w0 l Q H l.length (List.replicate l.length false) E H) :
    WpC P n w0 (.region id l.toArray true) Q E H := C_regionH H hm h
theorem lift_put {d : Option Nat} {v : Value} : ∀ (c : List PanicEntry) (a : Act) (w : World), lift n w0 Q (.panic c) (a.put d v) w → lift n w0 Q (.panic c) a w :=
  fun c a w ⟨E, H, x, s, q⟩ => ⟨E, H, ⟨by cases d <;> exact x.1, (fun h => by cases h)⟩, s, q⟩
theorem H_y {ops : List Oper} {fuel : Nat} {listed : List Bool} (i : Nat) {d : Option Nat} {op : Op} {ty : Nat} {ps : String} {af : Array Edge} {g : Option (Nat × Bool)} {v : Value}
    (hi : ops[i]? = some ⟨d, op, ty, ps, af, g⟩) (hs : Region.noSelect ops.toArray = true) (hf : Region.free .any ops.toArray listed.toArray i = true)
    (hr : (Region.ready .any ops.toArray listed.toArray).contains i = true) (hS : HSub HS H)
    (hg : wE ops E g = some true) (hy : YV P n E (fun w => St w0 w HS) op ty v) (hd : dok d n = true)
    (k : WpH P n w0 ops Q HS fuel (listed.set i true) (put E d v) H) : WpH P n w0 ops Q HS (fuel + 1) listed E H := fun a w ha hw => by
  refine wpAnyH_take (i := i) (oi := ⟨d, op, ty, ps, af, g⟩) (v := v) (by simpa using hi) hs hf hr lift_put (.inl ⟨wanted_of (o := ⟨d, op, ty, ps, af, g⟩) hg ha, fun w' hw' => hy a w' ha hw' d ps af g⟩) (hS w0 w hw) ?_
  have := k _ _ (ha.put hd v) hw
  simpa using this
theorem H_skip {ops : List Oper} {fuel : Nat} {listed : List Bool} (i : Nat) {o : Oper} (hi : ops[i]? = some o) (hs : Region.noSelect ops.toArray = true) (hf : Region.free .any ops.toArray listed.toArray i = true)
    (hr : (Region.ready .any ops.toArray listed.toArray).contains i = true) (hS : HSub HS H)
    (hg : wE ops E o.guard = some false) (hd : dok o.dst n = true)
    (k : WpH P n w0 ops Q HS fuel (listed.set i true) (put E o.dst undef) H) : WpH P n w0 ops Q HS (fuel + 1) listed E H := fun a w ha hw => by
  refine wpAnyH_take (i := i) (oi := o) (v := undef) (by simpa using hi) hs hf hr lift_put (.inr ⟨wanted_of hg ha, rfl⟩) (hS w0 w hw) ?_
  have := k _ _ (ha.put hd undef) hw
  simpa using this
/-- The same, shorter to write. -/
theorem HY {ops : List Oper} {fuel : Nat} {listed : List Bool} (i : Nat) {d : Option Nat} {op : Op} {ty : Nat} {ps : String} {af : Array Edge} {g : Option (Nat × Bool)} {v : Value}
    (hi : ops[i]? = some ⟨d, op, ty, ps, af, g⟩) (hS : HSub HS H) (hg : wE ops E g = some true) (hy : YV P n E (fun w => St w0 w HS) op ty v)
    (k : WpH P n w0 ops Q HS fuel (listed.set i true) (put E d v) H) (hs : Region.noSelect ops.toArray = true := by kernel_rfl) (hf : Region.free .any ops.toArray listed.toArray i = true := by kernel_rfl)
    (hr : (Region.ready .any ops.toArray listed.toArray).contains i = true := by kernel_rfl) (hd : dok d n = true := by exact rfl) : WpH P n w0 ops Q HS (fuel + 1) listed E H := H_y i hi hs hf hr hS hg hy hd k
theorem HK {ops : List Oper} {fuel : Nat} {listed : List Bool} (i : Nat) {o : Oper} (hi : ops[i]? = some o) (hS : HSub HS H) (hg : wE ops E o.guard = some false)
    (k : WpH P n w0 ops Q HS fuel (listed.set i true) (put E o.dst undef) H) (hs : Region.noSelect ops.toArray = true := by kernel_rfl) (hf : Region.free .any ops.toArray listed.toArray i = true := by kernel_rfl)
    (hr : (Region.ready .any ops.toArray listed.toArray).contains i = true := by kernel_rfl) (hd : dok o.dst n = true := by exact rfl) : WpH P n w0 ops Q HS (fuel + 1) listed E H := H_skip i hi hs hf hr hS hg hd k
theorem LY {ops rest : List Oper} {d : Option Nat} {op : Op} {ty : Nat} {ps : String} {af : Array Edge} {g : Option (Nat × Bool)} {v : Value}
    (hg : wE ops E g = some true) (hy : YV P n E (fun w => St w0 w H) op ty v) (k : WpL P n w0 ops Q rest (put E d v) H) (hd : dok d n = true := by exact rfl) :
    WpL P n w0 ops Q (⟨d, op, ty, ps, af, g⟩ :: rest) E H := L_y hg hy hd k
theorem wpOp_of_OpW {ops : List Oper} {fuel : Nat} {listed : List Bool} {i : Nat} {o : Oper} (hi : ops[i]? = some o) (hg : wE ops E o.guard = some true)
    (h : OpW P n w0 Q o E H (fun E' H' => HSub HS H' ∧ WpH P n w0 ops Q HS fuel (listed.set i true) E' H')) {a : Act} {w : World} (ha : FrOk n E a) (hw : St w0 w H) :
    wpOp P ops.toArray (lift n w0 Q) i (fun a' w' => St w0 w' HS ∧ wpAnyH P .any ops.toArray (lift n w0 Q) (fun w => St w0 w HS) fuel (listed.toArray.setIfInBounds i true) a' w') a w := by
  unfold wpOp
  rw [show ops.toArray[i]? = some o by simpa using hi]
  simp only
  rw [if_pos (wanted_of hg ha)]
  refine .inl (h a w ha hw _ fun E' H' a' w' x s k => ⟨k.1 w0 w' s, ?_⟩)
  have := k.2 a' w' x s
  simpa using this
/-- One loud operation alone may come up. -/
theorem H_one {ops : List Oper} {fuel : Nat} {listed : List Bool} (i : Nat) {o : Oper} (hi : ops[i]? = some o) (hr : Region.ready .any ops.toArray listed.toArray = [i])
    (hg : wE ops E o.guard = some true) (h : OpW P n w0 Q o E H (fun E' H' => HSub HS H' ∧ WpH P n w0 ops Q HS fuel (listed.set i true) E' H')) :
    WpH P n w0 ops Q HS (fuel + 1) listed E H := fun a w ha hw =>
  wpAnyH_all hr (by simp) fun j hj => by simp at hj; subst hj; exact wpOp_of_OpW hi hg h ha hw
/-- Two may. -/
theorem H_two {ops : List Oper} {fuel : Nat} {listed : List Bool} (i j : Nat) {o o' : Oper} (hi : ops[i]? = some o) (hj : ops[j]? = some o') (hr : Region.ready .any ops.toArray listed.toArray = [i, j])
    (hg : wE ops E o.guard = some true) (hg' : wE ops E o'.guard = some true)
    (h : OpW P n w0 Q o E H (fun E' H' => HSub HS H' ∧ WpH P n w0 ops Q HS fuel (listed.set i true) E' H'))
    (h' : OpW P n w0 Q o' E H (fun E' H' => HSub HS H' ∧ WpH P n w0 ops Q HS fuel (listed.set j true) E' H')) :
    WpH P n w0 ops Q HS (fuel + 1) listed E H := fun a w ha hw =>
  wpAnyH_all hr (by simp) fun k hk => by
    simp at hk
    rcases hk with rfl | rfl
    · exact wpOp_of_OpW hi hg h ha hw
    · exact wpOp_of_OpW hj hg' h' ha hw
theorem H_done {ops : List Oper} {fuel : Nat} {listed : List Bool} (hr : Region.ready .any ops.toArray listed.toArray = []) (h : Q .normal E H) : WpH P n w0 ops Q HS fuel listed E H :=
  fun a w ha hw => wpAnyH_done hr ⟨E, H, ⟨ha.defers, fun _ => ha⟩, hw, h⟩ fuel
theorem H_case {ops : List Oper} {fuel : Nat} {listed : List Bool} (t : Nat) {b : Bool} (h : look E t = some (.bool b)) (ht : b = true → WpH P n w0 ops Q HS fuel listed ((t, .bool true) :: E) H)
    (hf : b = false → WpH P n w0 ops Q HS fuel listed ((t, .bool false) :: E) H) : WpH P n w0 ops Q HS fuel listed E H := by
  cases b with
  | true => exact fun a w ha hw => ht rfl a w (frOk_same ha h) hw
  | false => exact fun a w ha hw => hf rfl a w (frOk_same ha h) hw

/-! ### Functions -/
def args0 : List Value → Nat → Env
  | [], _ => []
  | v :: vs, i => (i, v) :: args0 vs (i + 1)
theorem look_args0 : ∀ (vs : List Value) (i t : Nat) (v : Value), look (args0 vs i) t = some v → i ≤ t ∧ vs[t - i]? = some v
  | [], _, _, _, h => by cases h
  | u :: vs, i, t, v, h => by
    simp only [args0] at h
    rw [look_put] at h
    by_cases e : i = t
    · subst e; simp at h; simp [h]
    · rw [if_neg e] at h
      have ⟨h1, h2⟩ := look_args0 vs (i + 1) t v h
      exact ⟨by omega, by rw [show t - i = (t - (i + 1)) + 1 by omega]; simpa using h2⟩
/-- How a body may end. -/
def RV (P : Program) (w0 : World) (E : Env) (H : Hp) : List ResultVar → List Value → Prop
  | [], [] => True
  | .tmp t :: rs, v :: vs => look E t = some v ∧ RV P w0 E H rs vs
  | .cell t ty :: rs, v :: vs => (∃ p, look E t = some (.pointer (some p)) ∧ ∀ w, St w0 w H → (loadVar ty p).run P w = .ok v w) ∧ RV P w0 E H rs vs
  | _, _ => False
def pack : List Value → Value
  | [v] => v
  | vs => .tuple vs.toArray
def BodyQ (P : Program) (w0 : World) (rs : List ResultVar) (R : Ending → Hp → Prop) : Post := fun e E H => match e with
  | .normal | .ret => ∃ vs H', RV P w0 E H rs vs ∧ HSub H' H ∧ R (.returned (pack vs)) H'
  | .panic ch => R (.panicked ch) H
  | _ => False
theorem RV.length : ∀ {rs : List ResultVar} {vs : List Value}, RV P w0 E H rs vs → rs.length = vs.length
  | [], [], _ => rfl
  | .tmp _ :: _, _ :: _, h => by simp [RV.length h.2]
  | .cell _ _ :: _, _ :: _, h => by simp [RV.length h.2]
  | [], _ :: _, h => h.elim
  | .tmp _ :: _, [], h => h.elim
  | .cell _ _ :: _, [], h => h.elim
def resOf (a : Act) : ResultVar → Sem Value
  | .tmp t => pure (a.tmps.getD t undef)
  | .cell q t => do loadVar t (← asAddr (a.tmps.getD q undef))
theorem results_eq (fn : Func) (a : Act) : results fn a.tmps = (do
    let vs ← fn.results.mapM (resOf a)
    pure (if h : vs.size = 1 then vs[0] else .tuple vs)) := by
  unfold results
  congr 1
theorem mapM_RV {a : Act} {w : World} (ha : FrOk n E a) (hw : St w0 w H) : ∀ {rs : List ResultVar} {vs : List Value}, RV P w0 E H rs vs →
    (rs.mapM (resOf a)).run P w = .ok vs w
  | [], [], _ => by simp
  | .tmp t :: rs, v :: vs, h => by
    have e : a.tmps[t]? = some v := ha.known t v h.1
    have ih := mapM_RV ha hw h.2
    simp only [List.mapM_cons, Sem.run_bind, resOf, Sem.run_pure, Result.andThen_ok, ih]
    simp [e]
  | .cell t ty :: rs, v :: vs, h => by
    obtain ⟨p, hp, hl⟩ := h.1
    have e : a.tmps[t]? = some (.pointer (some p)) := ha.known t _ hp
    have ih := mapM_RV ha hw h.2
    have e' : a.tmps.getD t undef = .pointer (some p) := by simp [e]
    have e2 : (resOf a (.cell t ty)).run P w = .ok v w := by
      show (asAddr (a.tmps.getD t undef) >>= fun p => loadVar ty p).run P w = _
      rw [e', Sem.run_bind]
      show ((Sem.run P (pure p) w).andThen fun p w' => (loadVar ty p).run P w') = _
      rw [Sem.run_pure, Result.andThen_ok]
      exact hl w hw
    simp only [List.mapM_cons, Sem.run_bind, e2, Result.andThen_ok, ih, Sem.run_pure]
  | [], _ :: _, h => h.elim
  | .tmp _ :: _, [], h => h.elim
  | .cell _ _ :: _, [], h => h.elim
theorem run_results {fn : Func} {a : Act} {w : World} {vs : List Value} (ha : FrOk n E a) (hw : St w0 w H) (h : RV P w0 E H fn.results.toList vs) :
    (results fn a.tmps).run P w = .ok (pack vs) w := by
  have hm := mapM_RV ha hw h
  have hm' : (fn.results.mapM (resOf a)).run P w = .ok vs.toArray w := by
    rw [Array.mapM_eq_mapM_toList, Sem.run_map, hm]; rfl
  rw [results_eq, Sem.run_bind, hm']
  simp only [Result.andThen_ok, Sem.run_pure]
  congr 1
  match vs with
  | [] => simp [pack]
  | [v] => simp [pack]
  | _ :: _ :: _ => simp [pack]
theorem args_ok {n : Nat} {fn : Func} {vs : List Value} (hn : fn.ntmps = n) (hle : vs.length ≤ n) : FrOk ⟨n, []⟩ (args0 vs 0) { tmps := vs.toArray ++ Array.replicate (fn.ntmps - vs.toArray.size) undef, defers := [] } := by
  refine ⟨rfl, by simp [hn]; omega, fun t v ht => ?_⟩
  have ⟨_, h2⟩ := look_args0 vs 0 t v ht
  have hlt : t < vs.length := by
    rcases Nat.lt_or_ge t vs.length with h | h
    · exact h
    · simp [List.getElem?_eq_none h] at h2
  simp only [Nat.sub_zero] at h2
  rw [Array.getElem?_append_left (by simpa using hlt)]
  simpa using h2
theorem FnS_intro {n : Nat} {f : Nat} {fn : Func} {c : Code} {vs : List Value} {rs : List ResultVar} {R : Ending → Hp → Prop} (hf : P.funcs[f]? = some fn) (hb : fn.body = some c) (hn : fn.ntmps = n) (hr : fn.results.toList = rs)
    (hlen : Nat.ble vs.length n = true) (h : WpC P ⟨n, []⟩ w0 c (BodyQ P w0 rs R) (args0 vs 0) H) : FnS P w0 f vs.toArray H R := by
  intro w hw
  refine calls_of_wp hf hb ?_
  have hle : vs.length ≤ n := Nat.le_of_ble_eq_true hlen
  have ha := args_ok hn hle
  refine wp_mono (h _ w ha hw) ?_
  rintro e a' w' ⟨E', H', x, s, q⟩
  cases e with
  | normal =>
    obtain ⟨vs', H2, hrv, hs, hR⟩ := q
    exact ⟨x.1, _, run_results (x.2 rfl) s (hr ▸ hrv), H2, hs w0 w' s, hR⟩
  | ret =>
    obtain ⟨vs', H2, hrv, hs, hR⟩ := q
    exact ⟨x.1, _, run_results (x.2 rfl) s (hr ▸ hrv), H2, hs w0 w' s, hR⟩
  | panic ch => exact ⟨x.1, H', s, q⟩
  | exit id => exact q.elim
  | goto l => exact q.elim
  | outgrown => exact q.elim
end Go.Sl

/- The calculus, third part (own work): the operations that only yield a value. -/
set_option linter.unusedVariables false
set_option linter.unusedSimpArgs false
namespace Go.Sl
open Go.RowKit (Below)
variable {P : Program} {n : FN} {w0 : World} {Q : Post} {E E' : Env} {H H' HS : Hp} {W : World → Prop}

/-! ### Facts of types, for the kernel -/
def szT (P : Program) (t : TypeId) : Option Nat := (P.info? t).map (·.size)
def byT (P : Program) (t : TypeId) : Option Nat := (P.info? t).map (·.bytes)
def zeroL (P : Program) (t : TypeId) : Option (List Value) := ((P.info? t).bind (·.zero)).map fun v => v.cells.toList
def zeroT (P : Program) (t : TypeId) : Option Value := (P.info? t).bind (·.zero)
def isAggT (P : Program) (t : TypeId) : Option Bool := (P.underlying t).map fun d => match d with | .struct _ | .array _ _ => true | _ => false
def fldT (P : Program) (s : TypeId) (f : Nat) : Option Nat :=
  match P.underlying s with
  | some (.struct fs) => match fs[f]? with
    | some fd => match szT P fd.type with
      | some (_ + 1) => some fd.offset
      | _ => none
    | none => none
  | _ => none
theorem run_sizeOf {t m : Nat} (h : szT P t = some m) (w : World) : (sizeOf t).run P w = .ok m w := by
  unfold szT at h
  cases hi : P.info? t with
  | none => simp [hi] at h
  | some i => simp [hi] at h; simp [sizeOf, typeInfo, hi, h]
theorem run_isAgg {t : Nat} {b : Bool} (h : isAggT P t = some b) (w : World) : (isAgg t).run P w = .ok b w := by
  unfold isAggT at h
  cases hu : P.underlying t with
  | none => simp [hu] at h
  | some d =>
    simp only [hu, Option.map_some, Option.some.injEq] at h
    unfold isAgg
    rw [Sem.run_bind, run_underlying hu w]
    simp only [Result.andThen_ok]
    cases d <;> simp_all
theorem run_zeroValue {t : Nat} {v : Value} (h : zeroT P t = some v) (w : World) : (zeroValue t).run P w = .ok v w := by
  unfold zeroT at h
  cases hi : P.info? t with
  | none => simp [hi] at h
  | some i => simp [hi] at h; simp [zeroValue, typeInfo, hi, h]
theorem zeroT_of_L {t : Nat} {l : List Value} (h : zeroL P t = some l) : ∃ v, zeroT P t = some v ∧ v.cells.toList = l := by
  unfold zeroL at h
  unfold zeroT
  cases hz : (P.info? t).bind (·.zero) with
  | none => simp [hz] at h
  | some v => simp [hz] at h; exact ⟨v, rfl, h⟩
theorem run_bytes {t m : Nat} (h : byT P t = some m) (w : World) : ∃ i, (typeInfo t).run P w = .ok i w ∧ i.bytes = m := by
  unfold byT at h
  cases hi : P.info? t with
  | none => simp [hi] at h
  | some i => simp [hi] at h; exact ⟨i, by simp [typeInfo, hi], h⟩

/-! ### Reading memory -/
theorem cell_of_block {w : World} {b i : Nat} {l : List Value} {T : TypeId} {fr : Nat × Nat} (h : w.heap[b]? = some (.cells l.toArray T fr)) : w.cell? ⟨b, i, none⟩ = l[i]? := by
  simp [World.cell?, h]
theorem addr_add (b off j : Nat) : (⟨b, off, none⟩ : Addr).add j = ⟨b, off + j, none⟩ := by
  unfold Addr.add; split <;> simp_all
theorem run_loadCells_at {w : World} {b off m : Nat} {l : List Value} {T : TypeId} {fr : Nat × Nat} (h : w.heap[b]? = some (.cells l.toArray T fr)) (hm : off + m ≤ l.length) :
    (loadCells ⟨b, off, none⟩ m).run P w = .ok ((l.drop off).take m).toArray w := by
  have hlen : ((l.drop off).take m).length = m := by simp; omega
  have := run_loadCells_list (P := P) w ⟨b, off, none⟩ ((l.drop off).take m) (fun j v hv => by
    rw [addr_add, cell_of_block h]
    have hj : j < m := by
      rcases Nat.lt_or_ge j m with h | h
      · exact h
      · rw [List.getElem?_eq_none (by omega)] at hv; cases hv
    rw [List.getElem?_take_of_lt hj, List.getElem?_drop] at hv
    exact hv)
  rwa [hlen] at this
theorem run_loadVar1 {t : Nat} (ht : isAggT P t = some false) {w : World} {b i : Nat} {l : List Value} {T : TypeId} {fr : Nat × Nat} {v : Value}
    (h : w.heap[b]? = some (.cells l.toArray T fr)) (hv : l[i]? = some v) : (loadVar t ⟨b, i, none⟩).run P w = .ok v w := by
  have hc := (cell_of_block (i := i) h).trans hv
  simp [loadVar, run_isAgg ht, hc]
theorem run_loadVarA {t m : Nat} (ht : isAggT P t = some true) (hs : szT P t = some m) {w : World} {b i : Nat} {l : List Value} {T : TypeId} {fr : Nat × Nat}
    (h : w.heap[b]? = some (.cells l.toArray T fr)) (hm : i + m ≤ l.length) : (loadVar t ⟨b, i, none⟩).run P w = .ok (.agg ((l.drop i).take m).toArray) w := by
  simp only [loadVar, Sem.run_bind, run_isAgg ht, Result.andThen_ok, run_sizeOf hs, run_loadCells_at h hm, if_true, Sem.run_pure]

/-! ### Values -/
section
variable {x y c : Operand} {ty t t2 : Nat}
theorem y_move {v : Value} (hx : ev E x = some v) : YV P n E W (.move x) ty v := fun a w ha _ d ps af g => by
  simp [execOp, ha.eval hx]
theorem y_assign {v : Value} (hx : ev E x = some v) : YV P n E W (.assign x) ty v := fun a w ha _ d ps af g => by
  simp [execOp, ha.eval hx]
theorem y_pick_t {v : Value} (hc : ev E c = some (.bool true)) (hx : ev E x = some v) : YV P n E W (.pick c x y) ty v := fun a w ha _ d ps af g => by
  simp [execOp, ha.eval hx, ha.eval hc, asBool]
theorem y_pick_f {v : Value} (hc : ev E c = some (.bool false)) (hy : ev E y = some v) : YV P n E W (.pick c x y) ty v := fun a w ha _ d ps af g => by
  simp [execOp, ha.eval hy, ha.eval hc, asBool]
theorem y_not {b : Bool} (hx : ev E x = some (.bool b)) : YV P n E W (.unOp .not t x) ty (.bool !b) := fun a w ha _ d ps af g => by
  simp [execOp, ha.eval hx, Op.unary]
theorem y_bin {op : BinOp} {k : IntKind} {m m' : Int} {v : Value} (hx : ev E x = some (.int k m)) (hy : ev E y = some (.int k m'))
    (h : binOp op t (.int k m) (.int k m') = pure v) : YV P n E W (.binOp op t x y t2) ty v := fun a w ha _ d ps af g => by
  simp only [execOp, ha.eval hx, ha.eval hy, eqGuard_at_int, h]
  simp
theorem y_lss {k : IntKind} {m m' : Int} (hx : ev E x = some (.int k m)) (hy : ev E y = some (.int k m')) : YV P n E W (.binOp .lss t x y t2) ty (.bool (decide (m < m'))) := y_bin hx hy (binOp_lss t k m m')
theorem y_leq {k : IntKind} {m m' : Int} (hx : ev E x = some (.int k m)) (hy : ev E y = some (.int k m')) : YV P n E W (.binOp .leq t x y t2) ty (.bool (decide (m ≤ m'))) := y_bin hx hy (binOp_leq t k m m')
theorem y_gtr {k : IntKind} {m m' : Int} (hx : ev E x = some (.int k m)) (hy : ev E y = some (.int k m')) : YV P n E W (.binOp .gtr t x y t2) ty (.bool (decide (m' < m))) := y_bin hx hy (binOp_gtr t k m m')
theorem y_geq {k : IntKind} {m m' : Int} (hx : ev E x = some (.int k m)) (hy : ev E y = some (.int k m')) : YV P n E W (.binOp .geq t x y t2) ty (.bool (decide (m' ≤ m))) := y_bin hx hy (binOp_geq t k m m')
theorem y_eqi {k : IntKind} {m m' : Int} (hx : ev E x = some (.int k m)) (hy : ev E y = some (.int k m')) : YV P n E W (.binOp .eql t x y t2) ty (.bool (decide (m = m'))) := y_bin hx hy (binOp_eql t k m m')
theorem y_nei {k : IntKind} {m m' : Int} (hx : ev E x = some (.int k m)) (hy : ev E y = some (.int k m')) : YV P n E W (.binOp .neq t x y t2) ty (.bool (!decide (m = m'))) := y_bin hx hy (binOp_neq t k m m')
theorem y_add {k : IntKind} {m m' r : Int} (hx : ev E x = some (.int k m)) (hy : ev E y = some (.int k m')) (hr : k.wrap (m + m') = r) : YV P n E W (.binOp .add t x y t2) ty (.int k r) :=
  y_bin hx hy (by rw [binOp_add]; simp [Op.intArith, hr])
theorem y_sub {k : IntKind} {m m' r : Int} (hx : ev E x = some (.int k m)) (hy : ev E y = some (.int k m')) (hr : k.wrap (m - m') = r) : YV P n E W (.binOp .sub t x y t2) ty (.int k r) :=
  y_bin hx hy (by rw [binOp_sub]; simp [Op.intArith, hr])
theorem y_mul {k : IntKind} {m m' r : Int} (hx : ev E x = some (.int k m)) (hy : ev E y = some (.int k m')) (hr : k.wrap (m * m') = r) : YV P n E W (.binOp .mul t x y t2) ty (.int k r) :=
  y_bin hx hy (by rw [binOp_mul]; simp [Op.intArith, hr])
theorem y_rem {k : IntKind} {m m' r : Int} (hx : ev E x = some (.int k m)) (hy : ev E y = some (.int k m')) (h0 : m' ≠ 0) (hr : m.tmod m' = r) : YV P n E W (.binOp .rem t x y t2) ty (.int k r) :=
  y_bin hx hy (by rw [binOp_rem]; simp [Op.intDiv, h0, hr])
theorem y_quo {k : IntKind} {m m' r : Int} (hx : ev E x = some (.int k m)) (hy : ev E y = some (.int k m')) (h0 : m' ≠ 0) (hr : k.wrap (m.tdiv m') = r) : YV P n E W (.binOp .quo t x y t2) ty (.int k r) :=
  y_bin hx hy (by rw [binOp_quo]; simp [Op.intDiv, h0, hr])
theorem y_xor {k : IntKind} {m m' r : Int} (hx : ev E x = some (.int k m)) (hy : ev E y = some (.int k m')) (hr : bits .xor k m m' = r) : YV P n E W (.binOp .xor t x y t2) ty (.int k r) :=
  y_bin hx hy (by rw [binOp_xor, intBits_xor, hr])
theorem y_or {k : IntKind} {m m' r : Int} (hx : ev E x = some (.int k m)) (hy : ev E y = some (.int k m')) (hr : bits .or k m m' = r) : YV P n E W (.binOp .or t x y t2) ty (.int k r) :=
  y_bin hx hy (by rw [binOp_or, intBits_or, hr])
theorem y_and {k : IntKind} {m m' r : Int} (hx : ev E x = some (.int k m)) (hy : ev E y = some (.int k m')) (hr : bits .and k m m' = r) : YV P n E W (.binOp .and t x y t2) ty (.int k r) :=
  y_bin hx hy (by rw [binOp_and, intBits_and, hr])
theorem y_shl {k k' : IntKind} {m m' r : Int} (hx : ev E x = some (.int k m)) (hy : ev E y = some (.int k' m')) (h0 : 0 ≤ m') (hr : k.wrap (m * 2 ^ (min m'.toNat k.bits)) = r) : YV P n E W (.binOp .shl t x y t2) ty (.int k r) :=
  fun a w ha _ d ps af g => by
    have h : ¬ m' < 0 := by omega
    simp only [execOp, ha.eval hx, ha.eval hy, eqGuard_at_int, binOp_shl]
    simp [Op.shift, h, hr]
theorem y_shr {k k' : IntKind} {m m' r : Int} (hx : ev E x = some (.int k m)) (hy : ev E y = some (.int k' m')) (h0 : 0 ≤ m') (hr : m.fdiv (2 ^ (min m'.toNat k.bits)) = r) : YV P n E W (.binOp .shr t x y t2) ty (.int k r) :=
  fun a w ha _ d ps af g => by
    have h : ¬ m' < 0 := by omega
    simp only [execOp, ha.eval hx, ha.eval hy, eqGuard_at_int, binOp_shr]
    simp [Op.shift, h, hr]
theorem run_equal_nilp {e : Nat} (hu : P.underlying t = some (.pointer e)) (p : Option Addr) (w : World) : (Op.equal t (.pointer p) (.pointer none)).run P w = .ok p.isNone w := by
  have key : ∀ d, (Op.equalIn (d + 1) t (.pointer p) (.pointer none)).run P w = .ok p.isNone w := fun d => by
    cases p <;> simp [Op.equalIn, run_underlying hu]
  exact key 9999
theorem y_eqp {p : Option Addr} {e : Nat} (hx : ev E x = some (.pointer p)) (hy : ev E y = some (.pointer none)) (hu : P.underlying t = some (.pointer e)) : YV P n E W (.binOp .eql t x y t2) ty (.bool p.isNone) := fun a w ha _ d ps af g => by
  have h := run_equal_nilp hu p w
  simp only [execOp, ha.eval hx, ha.eval hy, eqGuard_at_pointer, binOp]
  simp [h]
theorem y_eqs {p : Option Addr} {l c e : Nat} (hx : ev E x = some (.slice p l c)) (hy : ev E y = some (.slice none 0 0)) (hu : P.underlying t = some (.slice e)) : YV P n E W (.binOp .eql t x y t2) ty (.bool p.isNone) := fun a w ha _ d ps af g => by
  have h := run_equal_slice_nil (P := P) w t e p l c hu
  simp only [execOp, ha.eval hx, ha.eval hy, eqGuard_at_slice, binOp]
  simp [h]
theorem y_nilCheck {p : Addr} (hx : ev E x = some (.pointer (some p))) : YV P n E W (.nilCheck x) ty (.pointer (some p)) := fun a w ha _ d ps af g => by
  simp [execOp, ha.eval hx]
theorem y_conv {src dst : Nat} {k k' : IntKind} {m r : Int} (hx : ev E x = some (.int k' m)) (hs : (P.underlying src).isSome = true) (hd : P.underlying dst = some (.int k)) (hr : k.wrap m = r) :
    YV P n E W (.convert src dst x) ty (.int k r) := fun a w ha _ d ps af g => by
  obtain ⟨d', hd'⟩ := Option.isSome_iff_exists.mp hs
  simp [execOp, ha.eval hx, convert, run_underlying hd', run_underlying hd, Conv.intToInt, hr]
theorem y_extract {vs : List Value} {i : Nat} {v : Value} (hx : ev E x = some (.tuple vs.toArray)) (hv : vs[i]? = some v) : YV P n E W (.extract x i) ty v := fun a w ha _ d ps af g => by
  simp [execOp, ha.eval hx, Instr.extract, hv]
theorem y_makeFunc {fn : Fn} {first captured : List Operand} {vs us : List Value} (h1 : first.mapM (ev E) = some vs) (h2 : captured.mapM (ev E) = some us) :
    YV P n E W (.makeFunc fn first.toArray captured.toArray) ty (.func fn vs.toArray us.toArray) := fun a w ha _ d ps af g => by
  have key : ∀ (l : List Operand) (vs : List Value), l.mapM (ev E) = some vs → l.map a.eval = vs := by
    intro l
    induction l with
    | nil => intro vs h; simp at h; simp [h]
    | cons x l ih =>
      intro vs h
      simp only [List.mapM_cons, Option.bind_eq_bind, Option.bind_eq_some_iff, Option.pure_def, Option.some.injEq] at h
      obtain ⟨v, hv, us, hus, rfl⟩ := h
      simp [ha.eval hv, ih us hus]
  simp [execOp, Instr.makeFunc, key _ _ h1, key _ _ h2]
theorem evals {a : Act} (ha : FrOk n E a) : ∀ {l : List Operand} {vs : List Value}, l.mapM (ev E) = some vs → l.map a.eval = vs := by
  intro l
  induction l with
  | nil => intro vs h; simp at h; simp [h]
  | cons x l ih =>
    intro vs h
    simp only [List.mapM_cons, Option.bind_eq_bind, Option.bind_eq_some_iff, Option.pure_def, Option.some.injEq] at h
    obtain ⟨v, hv, us, hus, rfl⟩ := h
    simp [ha.eval hv, ih hus]
theorem y_makeIface {xt : Nat} {v : Value} {dd : TypeDesc} (hx : ev E x = some v) (hu : P.underlying xt = some dd) (hn : (match dd with | .interface _ => true | _ => false) = false) :
    YV P n E W (.makeInterface xt x) ty (.iface xt v) := fun a w ha _ d ps af g => by
  simp only [execOp, ha.eval hx, Instr.makeInterface, Sem.run_bind, run_underlying hu, Result.andThen_ok]
  cases dd <;> first | (simp at hn; done) | rfl
theorem y_fieldAddr {s f b i off : Nat} (hx : ev E x = some (.pointer (some ⟨b, i, none⟩))) (hf : fldT P s f = some off) : YV P n E W (.fieldAddr s x f) ty (.pointer (some ⟨b, i + off, none⟩)) := fun a w ha _ d ps af g => by
  unfold fldT at hf
  cases hu : P.underlying s with
  | none => simp [hu] at hf
  | some dd =>
    rw [hu] at hf
    cases dd <;> simp at hf
    rename_i fs
    cases hfs : fs[f]? with
    | none => simp [hfs] at hf
    | some fd =>
      simp only [hfs] at hf
      cases hz : szT P fd.type with
      | none => simp [hz] at hf
      | some m =>
        cases m with
        | zero => simp [hz] at hf
        | succ m =>
          simp [hz] at hf
          simp only [execOp, ha.eval hx, Instr.fieldAt, Sem.run_bind, run_underlying hu, Result.andThen_ok, hfs, Instr.sureAddr, Sem.run_pure, fieldPlace, run_sizeOf hz]
          simp [addr_add, hf]
theorem y_indexS {e m b off len cap : Nat} {k : IntKind} {i : Int} {r : Nat} (hx : ev E x = some (.slice (some ⟨b, off, none⟩) len cap)) (hy : ev E y = some (.int k i)) (hu : P.underlying t = some (.slice e)) (hz : szT P e = some m)
    (h0 : 0 ≤ i) (h1 : i < len) (hr : off + i.toNat * m = r) : YV P n E W (.indexAddr t x y) ty (.pointer (some ⟨b, r, none⟩)) := fun a w ha _ d ps af g => by
  simp only [execOp, ha.eval hx, ha.eval hy, Instr.indexAt, asIntOf, Sem.run_bind, Sem.run_pure, Result.andThen_ok, run_underlying hu]
  rw [if_pos ⟨h0, h1⟩]
  simp only [Sem.run_bind, run_sizeOf hz, Result.andThen_ok, Sem.run_pure, addr_add, hr]
theorem y_indexA {e m b off len : Nat} {k : IntKind} {i : Int} {r : Nat} (hx : ev E x = some (.pointer (some ⟨b, off, none⟩))) (hy : ev E y = some (.int k i)) (hu : P.underlying t = some (.array len e)) (hz : szT P e = some m)
    (h0 : 0 ≤ i) (h1 : i < len) (hr : off + i.toNat * m = r) : YV P n E W (.indexAddr t x y) ty (.pointer (some ⟨b, r, none⟩)) := fun a w ha _ d ps af g => by
  simp only [execOp, ha.eval hx, ha.eval hy, Instr.indexAt, asIntOf, Sem.run_bind, Sem.run_pure, Result.andThen_ok, run_underlying hu, Instr.sureAddr]
  rw [if_pos ⟨h0, h1⟩]
  simp only [Sem.run_bind, run_sizeOf hz, Result.andThen_ok, Sem.run_pure, addr_add, hr]
theorem y_load {b i : Nat} {l : List Value} {T : TypeId} {fr : Nat × Nat} {v : Value} (hx : ev E x = some (.pointer (some ⟨b, i, none⟩))) (ht : isAggT P t = some false)
    (hs : Sees W b (.cells l.toArray T fr)) (hv : l[i]? = some v) : YV P n E W (.load t x) ty v := fun a w ha hw d ps af g => by
  simp only [execOp, ha.eval hx, Instr.loadAt, Instr.sureAddr, Sem.run_bind, Sem.run_pure, Result.andThen_ok, run_loadVar1 ht (hs w hw) hv]
theorem y_loadA {b i m : Nat} {l vs : List Value} {T : TypeId} {fr : Nat × Nat} (hx : ev E x = some (.pointer (some ⟨b, i, none⟩))) (ht : isAggT P t = some true) (hz : szT P t = some m)
    (hs : Sees W b (.cells l.toArray T fr)) (hm : i + m ≤ l.length) (hv : (l.drop i).take m = vs) : YV P n E W (.load t x) ty (.agg vs.toArray) := fun a w ha hw d ps af g => by
  simp only [execOp, ha.eval hx, Instr.loadAt, Instr.sureAddr, Sem.run_bind, Sem.run_pure, Result.andThen_ok, run_loadVarA ht hz (hs w hw) hm, hv]
end

/-! ### Builtins that only yield -/
section
variable {x y c : Operand} {ty t t2 : Nat}
def callB (b : Builtin) (args : List Operand) (tys : Array TypeId) : Op := .call { callee := .builtin b, args := args.toArray, argTypes := tys }
theorem y_builtin {b : Builtin} {args : List Operand} {tys : Array TypeId} {vs : List Value} {v : Value} (hargs : args.mapM (ev E) = some vs)
    (h : ∀ w, W w → ∀ cs, (builtin b tys ty cs vs.toArray).run P w = .ok (.value v) w) : YV P n E W (.call { callee := .builtin b, args := args.toArray, argTypes := tys }) ty v := fun a w ha hw d ps af g => by
  have e := evals ha hargs
  simp only [execOp, resolve, Sem.run_bind, Sem.run_pure, Result.andThen_ok, invoke, List.map_toArray, e]
  exact h w hw _
theorem y_lenS {p : Option Addr} {l c e : Nat} {tys : Array TypeId} (hx : ev E x = some (.slice p l c)) (h0 : tys[0]? = some t) (hu : P.underlying t = some (.slice e)) :
    YV P n E W (.call { callee := .builtin .len, args := [x].toArray, argTypes := tys }) ty (.int .i64 l) := y_builtin (vs := [.slice p l c]) (by simp [hx]) fun w hw cs => by
  simp only [builtin, Sem.run_bind, Builtin.len_, h0, List.getElem?_toArray, List.getElem?_cons_zero, run_underlying hu, Result.andThen_ok, Sem.run_pure, goInt]
theorem y_lenM {r : Nat} {kt et : Nat} {es : Array MapEntry} {ck : Nat} {tys : Array TypeId} (hx : ev E x = some (.map (some r))) (h0 : tys[0]? = some t) (hu : P.underlying t = some (.map kt et)) (hs : Sees W r (.map es ck)) :
    YV P n E W (.call { callee := .builtin .len, args := [x].toArray, argTypes := tys }) ty (.int .i64 es.size) := y_builtin (vs := [.map (some r)]) (by simp [hx]) fun w hw cs => by
  have := hs w hw
  simp only [builtin, Sem.run_bind, Builtin.len_, h0, List.getElem?_toArray, List.getElem?_cons_zero, run_underlying hu, Result.andThen_ok, Sem.run_pure, goInt, getObj, Sem.run, this]
theorem y_min {k : IntKind} {m m' : Int} {tys : Array TypeId} (hx : ev E x = some (.int k m)) (hy : ev E y = some (.int k m')) :
    YV P n E W (.call { callee := .builtin .min, args := [x, y].toArray, argTypes := tys }) ty (.int k (min m m')) := y_builtin (vs := [.int k m, .int k m']) (by simp [hx, hy]) fun w hw cs => by
  simp only [builtin, Sem.run_bind, Builtin.min_, Builtin.min2, List.foldlM_cons, List.foldlM_nil, Result.andThen_ok, Sem.run_pure]
  congr 3
  rw [Int.min_def]
  split <;> split <;> omega
theorem y_max {k : IntKind} {m m' : Int} {tys : Array TypeId} (hx : ev E x = some (.int k m)) (hy : ev E y = some (.int k m')) :
    YV P n E W (.call { callee := .builtin .max, args := [x, y].toArray, argTypes := tys }) ty (.int k (max m m')) := y_builtin (vs := [.int k m, .int k m']) (by simp [hx, hy]) fun w hw cs => by
  simp only [builtin, Sem.run_bind, Builtin.max_, Builtin.max2, List.foldlM_cons, List.foldlM_nil, Result.andThen_ok, Sem.run_pure]
  congr 3
  rw [Int.max_def]
  split <;> split <;> omega
end
end Go.Sl

/- The calculus, fourth part (own work): the operations that make or write memory, and calls. -/
set_option linter.unusedVariables false
set_option linter.unusedSimpArgs false
namespace Go.Sl
open Go.RowKit (Below)
variable {P : Program} {n : FN} {w0 : World} {Q : Post} {E E' : Env} {H H' HS : Hp} {W : World → Prop} {K : Env → Hp → Prop}
variable {d : Option Nat} {ty t : Nat} {ps : String} {af : Array Edge} {g : Option (Nat × Bool)} {x y : Operand}

theorem op_run {o : Oper} (hd : dok o.dst n = true) (h : ∀ a w, FrOk n E a → St w0 w H → ∃ v w' H', (execOp a.eval o).run P w = .ok (.value v) w' ∧ St w0 w' H' ∧ K (put E o.dst v) H') :
    OpW P n w0 Q o E H K := fun a w ha hw next hn => by
  obtain ⟨v, w', H', hr, s, k⟩ := h a w ha hw
  unfold Oper.wp
  rw [hr]
  exact hn _ _ _ _ (ha.put hd v) s k
theorem op_runs {o : Oper} (hd : dok o.dst n = true) (h : ∀ a w, FrOk n E a → St w0 w H → ∃ w' H', (execOp a.eval o).run P w = .ok .skip w' ∧ St w0 w' H' ∧ K (put E o.dst undef) H') :
    OpW P n w0 Q o E H K := fun a w ha hw next hn => by
  obtain ⟨w', H', hr, s, k⟩ := h a w ha hw
  unfold Oper.wp
  rw [hr]
  exact hn _ _ _ _ (ha.put hd undef) s k
theorem op_y {o : Oper} {v : Value} (hy : YV P n E (fun w => St w0 w H) o.op o.type v) (hd : dok o.dst n = true) (k : K (put E o.dst v) H) : OpW P n w0 Q o E H K :=
  op_run hd fun a w ha hw => ⟨v, w, H, hy a w ha hw o.dst o.pos o.after o.guard, hw, k⟩

/-! ### New blocks -/
theorem op_alloc {zl : List Value} (hz : zeroL P t = some zl) (hd : dok d n = true) (k : ∀ b, K (put E d (.pointer (some ⟨b, 0, none⟩))) ([(b, .cells zl.toArray t)] :: H)) :
    OpW P n w0 Q ⟨d, .alloc t, ty, ps, af, g⟩ E H K := op_run hd fun a w ha hw => by
  obtain ⟨v, hv, hl⟩ := zeroT_of_L hz
  refine ⟨.pointer (some ⟨w.heap.size, 0, none⟩), w.alloc (.cells zl.toArray t), _, ?_, hw.alloc _, k _⟩
  have hc : v.cells = zl.toArray := by rw [← hl]
  simp only [execOp, Instr.alloc, Sem.run_bind, run_zeroValue hv, Result.andThen_ok, newVar, newRow, run_newObj, Sem.run_pure, hc]
  rfl
theorem op_box {v : Value} {l : List Value} (hx : ev E x = some v) (hc : v.cells = l.toArray) (hd : dok d n = true) (k : ∀ b, K (put E d (.pointer (some ⟨b, 0, none⟩))) ([(b, .cells l.toArray t)] :: H)) :
    OpW P n w0 Q ⟨d, .box t x, ty, ps, af, g⟩ E H K := op_run hd fun a w ha hw => by
  refine ⟨.pointer (some ⟨w.heap.size, 0, none⟩), w.alloc (.cells l.toArray t), _, ?_, hw.alloc _, k _⟩
  simp only [execOp, ha.eval hx, Instr.box, Sem.run_bind, Result.andThen_ok, newVar, newRow, run_newObj, Sem.run_pure, hc]
  rfl

/-! ### Stores -/
def one (v : Value) : Bool := v.oneCell'
def spl : List Value → Nat → List Value → List Value
  | l, _, [] => l
  | l, i, v :: vs => spl (l.set i v) (i + 1) vs
theorem spl_eq : ∀ (vs l : List Value) (i : Nat), i + vs.length ≤ l.length → spl l i vs = l.take i ++ vs ++ l.drop (i + vs.length)
  | [], l, i, h => by simp [spl]
  | v :: vs, l, i, h => by
    simp only [List.length_cons] at h
    have ih := spl_eq vs (l.set i v) (i + 1) (by simp; omega)
    simp only [spl, ih]
    have h1 : (l.set i v).take (i + 1) = l.take i ++ [v] := by
      apply List.ext_getElem?
      intro j
      by_cases hj : j < i
      · rw [List.getElem?_take_of_lt (by omega), List.getElem?_set_ne (by omega), List.getElem?_append_left (by simp; omega), List.getElem?_take_of_lt hj]
      · by_cases hj2 : j = i
        · subst hj2; rw [List.getElem?_take_of_lt (by omega), List.getElem?_set_self (by omega), List.getElem?_append_right (by simp; omega), show j - (l.take j).length = 0 by simp; omega]; rfl
        · rw [List.getElem?_eq_none (by simp; omega), List.getElem?_eq_none (by simp; omega)]
    have h2 : (l.set i v).drop (i + 1 + vs.length) = l.drop (i + (vs.length + 1)) := by
      apply List.ext_getElem?
      intro j
      simp only [List.getElem?_drop]
      rw [List.getElem?_set_ne (by omega)]
      congr 1
      omega
    rw [h1, h2]
    simp
theorem setCell_putB {w : World} {b i : Nat} {l : List Value} {T : TypeId} (h : w.heap[b]? = some (.cells l.toArray T (0, 0))) (v : Value) :
    w.setCell ⟨b, i, none⟩ v = putB w b (.cells (l.set i v).toArray T (0, 0)) := by
  unfold World.setCell putB
  congr 1
  apply Array.ext_getElem?
  intro j
  rw [Array.getElem?_modify, Array.getElem?_setIfInBounds]
  obtain ⟨hlt, h'⟩ := Array.getElem?_eq_some_iff.1 h
  by_cases e : b = j
  · subst e; simp [hlt, h']
  · simp [e]
theorem putB_putB (w : World) (b : Nat) (o o' : Obj) : putB (putB w b o) b o' = putB w b o' := by
  unfold putB
  simp
theorem frozen_none {w : World} {b i : Nat} {c : Array Value} {T : TypeId} (h : w.heap[b]? = some (.cells c T (0, 0))) : w.frozen? ⟨b, i, none⟩ = false := by
  simp [World.frozen?, h]
theorem run_storeCells : ∀ (vs l : List Value) (w : World) (b i off : Nat) (T : TypeId), w.heap[b]? = some (.cells l.toArray T (0, 0)) → (∀ v ∈ vs, one v = true) → off + i + vs.length ≤ l.length →
    ∃ w', (storeCells ⟨b, off, none⟩ vs i).run P w = .ok () w' ∧ ((vs = [] ∧ w' = w) ∨ w' = putB w b (.cells (spl l (off + i) vs).toArray T (0, 0)))
  | [], l, w, b, i, off, T, h, _, _ => ⟨w, rfl, .inl ⟨rfl, rfl⟩⟩
  | v :: vs, l, w, b, i, off, T, h, ho, hlen => by
    simp only [List.length_cons] at hlen
    have hc : w.cell? ⟨b, off + i, none⟩ = some (l[off + i]'(by omega)) := by rw [cell_of_block h]; exact List.getElem?_eq_getElem _
    have hs : (store ((⟨b, off, none⟩ : Addr).add i) v).run P w = .ok () (putB w b (.cells (l.set (off + i) v).toArray T (0, 0))) := by
      rw [addr_add, run_store P w _ v _ (ho v (by simp)), hc]
      simp only [frozen_none h, Bool.false_eq_true, if_false]
      rw [setCell_putB h]
    obtain ⟨w', hw', hr⟩ := run_storeCells vs (l.set (off + i) v) (putB w b (.cells (l.set (off + i) v).toArray T (0, 0))) b (i + 1) off T (putB_same h) (fun u hu => ho u (by simp [hu])) (by simp; omega)
    refine ⟨w', ?_, .inr ?_⟩
    · unfold storeCells
      rw [Sem.run_bind, hs]
      exact hw'
    · rcases hr with ⟨e, rfl⟩ | rfl
      · subst e; rfl
      · rw [putB_putB]; simp only [spl]; rw [show off + (i + 1) = off + i + 1 by omega]
theorem putB_self {w : World} {b : Nat} {o : Obj} (h : w.heap[b]? = some o) : putB w b o = w := by
  unfold putB
  have : w.heap.setIfInBounds b o = w.heap := by
    apply Array.ext_getElem?
    intro j
    rw [Array.getElem?_setIfInBounds]
    have hlt : b < w.heap.size := (Array.getElem?_eq_some_iff.1 h).1
    by_cases e : b = j
    · subst e; simp [hlt, ← h]
    · simp [e]
  rw [this]
theorem run_storeCells' {vs l : List Value} {w : World} {b off : Nat} {T : TypeId} (h : w.heap[b]? = some (.cells l.toArray T (0, 0))) (ho : ∀ v ∈ vs, one v = true) (hlen : off + vs.length ≤ l.length) :
    (storeCells ⟨b, off, none⟩ vs).run P w = .ok () (putB w b (.cells (spl l off vs).toArray T (0, 0))) := by
  obtain ⟨w', h1, h2⟩ := run_storeCells (P := P) vs l w b 0 off T h ho (by omega)
  rw [h1]
  rcases h2 with ⟨e, rfl⟩ | rfl
  · subst e; rw [show spl l off [] = l from rfl, putB_self h]
  · simp
theorem run_storeVar {w : World} {b i m : Nat} {v : Value} {vs l : List Value} {T : TypeId} (hv : v.cells = vs.toArray) (hz : szT P t = some m) (hm : vs.length = m)
    (h : w.heap[b]? = some (.cells l.toArray T (0, 0))) (ho : ∀ v ∈ vs, one v = true) (hlen : i + m ≤ l.length) :
    (storeVar t ⟨b, i, none⟩ v).run P w = .ok () (putB w b (.cells (spl l i vs).toArray T (0, 0))) := by
  have hne : ¬ (v.cells.size ≠ m) := by simp [hv, hm]
  simp only [storeVar, Sem.run_bind, run_sizeOf hz, Result.andThen_ok]
  simp only [hne, if_false, Sem.run_bind, Sem.run_pure, Result.andThen_ok, hv]
  rw [if_neg (by simpa using hm)]
  refine run_storeCells' h ho ?_
  omega
theorem op_store {b i m : Nat} {v : Value} {vs l : List Value} {T : TypeId} (s j : Nat) (hx : ev E x = some (.pointer (some ⟨b, i, none⟩))) (hy : ev E y = some v) (hv : v.cells = vs.toArray) (hz : szT P t = some m) (hm : vs.length = m)
    (hH : getH H s j = some (b, .cells l.toArray T)) (ho : ∀ v ∈ vs, one v = true) (hlen : i + m ≤ l.length) (k : K E (setH H s j (.cells (spl l i vs).toArray T))) :
    OpW P n w0 Q ⟨none, .store t x y, ty, ps, af, g⟩ E H K := op_runs rfl fun a w ha hw => by
  have h : w.heap[b]? = some (.cells l.toArray T (0, 0)) := hw.has _ (getH_mem hH)
  refine ⟨_, _, ?_, hw.putB hH _, k⟩
  simp only [execOp, ha.eval hx, ha.eval hy, Instr.storeAt, Instr.sureAddr, Sem.run_bind, Sem.run_pure, Result.andThen_ok, run_storeVar hv hz hm h ho hlen]
/-- One cell. -/
theorem op_store1 {b i : Nat} {v : Value} {l : List Value} {T : TypeId} (s j : Nat) (hx : ev E x = some (.pointer (some ⟨b, i, none⟩))) (hy : ev E y = some v) (hv : one v = true) (hz : szT P t = some 1)
    (hH : getH H s j = some (b, .cells l.toArray T)) (hlen : i < l.length) (k : K E (setH H s j (.cells (l.set i v).toArray T))) :
    OpW P n w0 Q ⟨none, .store t x y, ty, ps, af, g⟩ E H K :=
  op_store (vs := [v]) s j hx hy (by cases v <;> first | rfl | (simp [one, Value.oneCell'] at hv)) hz rfl hH (by simpa using hv) (by omega) k

/-! ### Slices -/
def zcells (zl : List Value) (c : Nat) : List Value := (List.replicate c zl).flatten
theorem zcells_length (zl : List Value) (c : Nat) : (zcells zl c).length = c * zl.length := by simp [zcells]
theorem zcells_get (zl : List Value) : ∀ (c i : Nat), i < c * zl.length → (zcells zl c)[i]? = zl[i % zl.length]?
  | 0, i, h => by omega
  | c + 1, i, h => by
    have e : zcells zl (c + 1) = zl ++ zcells zl c := by simp [zcells, List.replicate_succ]
    rw [e]
    by_cases hi : i < zl.length
    · rw [List.getElem?_append_left hi, Nat.mod_eq_of_lt hi]
    · rw [List.getElem?_append_right (by omega)]
      rw [Nat.add_mul, Nat.one_mul] at h
      rw [zcells_get zl c (i - zl.length) (by omega)]
      congr 1
      exact (Nat.mod_eq_sub_mod (by omega)).symm
theorem rangeCells (zl : List Value) (c : Nat) : ((Array.range (c * zl.length)).map (zl.toArray[· % zl.toArray.size]!)) = (zcells zl c).toArray := by
  apply Array.ext_getElem?
  intro i
  by_cases hi : i < c * zl.length
  · have hpos : 0 < zl.length := by rcases Nat.eq_zero_or_pos zl.length with h | h <;> simp_all
    have hm : i % zl.length < zl.length := Nat.mod_lt _ hpos
    simp [hi, zcells_get zl c i hi, hm]
  · rw [Array.getElem?_eq_none (by simp; omega), Array.getElem?_eq_none (by simp [zcells_length]; omega)]
theorem op_makeSlice {e m bs : Nat} {zl : List Value} {len : Int} (hx : ev E x = some (.int .i64 len)) (hu : P.underlying t = some (.slice e)) (hb : byT P e = some bs) (hz : szT P e = some m) (hzl : zeroL P e = some zl) (hl : zl.length = m)
    (h0 : 0 ≤ len) (hr : bs * len ≤ 281474976710656) (h63 : len ≤ 9223372036854775807) (hd : dok d n = true) (k : ∀ b, K (put E d (.slice (some ⟨b, 0, none⟩) len.toNat len.toNat)) ([(b, .cells (zcells zl len.toNat).toArray e)] :: H)) :
    OpW P n w0 Q ⟨d, .makeSlice t x x, ty, ps, af, g⟩ E H K := op_run hd fun a w ha hw => by
  obtain ⟨v, hv, hlv⟩ := zeroT_of_L hzl
  obtain ⟨i, hi, hib⟩ := run_bytes hb w
  have hw64 : IntKind.i64.wrap len = len := by rw [IntKind.wrap_i64]; omega
  refine ⟨.slice (some ⟨w.heap.size, 0, none⟩) len.toNat len.toNat, w.alloc (.cells (zcells zl len.toNat).toArray e), _, ?_, hw.alloc _, k _⟩
  have hc : v.cells = zl.toArray := by rw [← hlv]
  have hcells : ((Array.range (len.toNat * m)).map (v.cells[· % v.cells.size]!)) = (zcells zl len.toNat).toArray := by rw [← hl, hc]; exact rangeCells zl len.toNat
  have t1 : (decide (len < 0)) = false := by simp; omega
  have t2 : ¬ ((2 : Int) ^ 48 < (i.bytes : Int) * len) := by rw [hib]; omega
  simp only [execOp, ha.eval hx, Instr.makeSlice, asInt, asIntOf, Sem.run_bind, Sem.run_pure, Result.andThen_ok, run_underlying hu, hi, hw64]
  simp only [t1, t2, gt_iff_lt, Bool.false_or, decide_false, Int.lt_irrefl, Bool.or_self, Bool.false_eq_true, if_false, Sem.run_bind, Sem.run_pure, Result.andThen_ok, run_askRoom, run_sizeOf hz]
  by_cases hn : len.toNat * m = 0
  · have hz0 : zcells zl len.toNat = [] := List.eq_nil_of_length_eq_zero (by rw [zcells_length, hl, hn])
    simp only [hn, if_true, Sem.run_pure, Result.andThen_ok, newRow, Sem.run_bind, run_newObj, hz0, show Array.range 0 = #[] from rfl, Array.map_empty]
    rfl
  · simp only [hn, if_false, Sem.run_bind, run_zeroValue hv, Sem.run_pure, Result.andThen_ok, newRow, run_newObj, hcells]
    rfl
theorem op_buildSlice {e m len : Nat} {parts : List (Nat × Operand)} {vs : List (Nat × Value)} {zl l : List Value} (hp : parts.map (fun p => (p.1, ev E p.2)) = vs.map fun p => (p.1, some p.2)) (hu : P.underlying t = some (.slice e)) (hz : szT P e = some m)
    (hzl : zeroL P e = some zl) (hl : zl.length = m) (hm : len * m ≤ 16777216) (hf : Instr.fill (fun i => some (i * m, m)) (zcells zl len).toArray vs = some l.toArray) (hd : dok d n = true)
    (k : ∀ b, K (put E d (.slice (some ⟨b, 0, none⟩) len len)) ([(b, .cells l.toArray e)] :: H)) :
    OpW P n w0 Q ⟨d, .buildSlice t len parts.toArray, ty, ps, af, g⟩ E H K := op_run hd fun a w ha hw => by
  obtain ⟨v, hv, hlv⟩ := zeroT_of_L hzl
  refine ⟨.slice (some ⟨w.heap.size, 0, none⟩) len len, w.alloc (.cells l.toArray e), _, ?_, hw.alloc _, k _⟩
  have hparts : (parts.map fun (i, x) => (i, a.eval x)) = vs := by
    clear hf
    induction parts generalizing vs with
    | nil => cases vs with
      | nil => rfl
      | cons _ _ => simp at hp
    | cons p parts ih => cases vs with
      | nil => simp at hp
      | cons q vs =>
        simp only [List.map_cons, List.cons.injEq, Prod.mk.injEq] at hp
        simp only [List.map_cons, List.cons.injEq]
        exact ⟨by rw [ha.eval hp.1.2, hp.1.1], ih hp.2⟩
  have hc : v.cells = zl.toArray := by rw [← hlv]
  have hcells : ((Array.range (len * m)).map (v.cells[· % v.cells.size]!)) = (zcells zl len).toArray := by rw [← hl, hc]; exact rangeCells zl len
  have t1 : ¬ (16777216 < len * m) := by omega
  simp only [execOp, Instr.buildSlice, Sem.run_bind, run_underlying hu, Result.andThen_ok, run_sizeOf hz, List.map_toArray, hparts]
  simp only [show (2 : Nat) ^ 24 = 16777216 from rfl, gt_iff_lt, t1, if_false, Sem.run_pure, Result.andThen_ok, Sem.run_bind]
  by_cases hn : len * m = 0
  · have hz0 : zcells zl len = [] := List.eq_nil_of_length_eq_zero (by rw [zcells_length, hl, hn])
    rw [hz0] at hf
    simp only [hn, if_true, Sem.run_pure, Result.andThen_ok, show Array.range 0 = #[] from rfl, Array.map_empty, hf, newRow, Sem.run_bind, run_newObj]
    rfl
  · simp only [hn, if_false, Sem.run_bind, run_zeroValue hv, Sem.run_pure, Result.andThen_ok, hcells, hf, newRow, run_newObj]
    rfl
theorem fold_set : ∀ (vs cells : List Value) (off k : Nat), (vs.zipIdx k).foldl (fun (cs : Array Value) (p : Value × Nat) => cs.setIfInBounds (off + p.2) p.1) cells.toArray = (spl cells (off + k) vs).toArray
  | [], cells, off, k => rfl
  | v :: vs, cells, off, k => by
    simp only [List.zipIdx_cons, List.foldl_cons, List.setIfInBounds_toArray, spl]
    rw [fold_set vs (cells.set (off + k) v) off (k + 1)]
    rfl
theorem fill_cons {place : Nat → Option (Nat × Nat)} {cells vs : List Value} {i off m : Nat} {v : Value} {rest : List (Nat × Value)} {r : Option (Array Value)} (hp : place i = some (off, m)) (hv : v.cells = vs.toArray) (hm : vs.length = m) (hlen : off + m ≤ cells.length)
    (h : Instr.fill place (spl cells off vs).toArray rest = r) : Instr.fill place cells.toArray ((i, v) :: rest) = r := by
  have h1 : (decide (v.cells.size ≠ m) || decide (off + v.cells.size > cells.toArray.size)) = false := by simp [hv, hm]; omega
  have h2 : v.cells.zipIdx.foldl (fun (cs : Array Value) (p : Value × Nat) => cs.setIfInBounds (off + p.2) p.1) cells.toArray = (spl cells off vs).toArray := by
    rw [hv, ← Array.foldl_toList]
    have := fold_set vs cells off 0
    simpa using this
  simp only [Instr.fill, hp, h1]
  rw [← h, ← h2]
  rfl
theorem fill_one {m : Nat} {v : Value} {l zl : List Value} (hv : v.cells = l.toArray) (hl : l.length = m) (hzl : zl.length = m) : Instr.fill (fun i => some (i * m, m)) (zcells zl 1).toArray [(0, v)] = some l.toArray := by
  have e : zcells zl 1 = zl := by simp [zcells]
  rw [e]
  refine fill_cons (off := 0) (vs := l) (by simp) hv hl (by omega) ?_
  rw [spl_eq l zl 0 (by omega)]
  simp [Instr.fill]
  omega

/-! ### Calls -/
theorem op_call {f : Nat} {ce : Operand} {args : List Operand} {vs first cap : List Value} {tys : Array TypeId} (hf : ev E ce = some (.func (.func f) first.toArray cap.toArray)) (hargs : args.mapM (ev E) = some vs)
    (hc : ∀ args w, (callFunc f args).run P w = .ok (.enter f args) w) (hd : dok d n = true)
    (h : FnS P w0 f (first ++ vs ++ cap).toArray H fun e H' => ∃ v, e = .returned v ∧ K (put E d v) H') :
    OpW P n w0 Q ⟨d, .call { callee := .value ce, args := args.toArray, argTypes := tys }, ty, ps, af, g⟩ E H K := fun a w ha hw next hn => by
  unfold Oper.wp
  have e1 := evals ha hargs
  have e2 := ha.eval hf
  have hr : (execOp a.eval ⟨d, .call { callee := .value ce, args := args.toArray, argTypes := tys }, ty, ps, af, g⟩).run P w = .ok (.enter f (first ++ vs ++ cap).toArray) w := by
    simp only [execOp, resolve, Sem.run_bind, e2, Deferred.ofValue, Sem.run_pure, Result.andThen_ok, invoke, List.map_toArray, e1, hc]
    simp
  rw [hr]
  refine (h w hw).mono ?_
  rintro e w' ⟨H', s, v, rfl, k⟩
  exact hn _ _ _ _ (ha.put hd v) s k
end Go.Sl

/- The calculus, fifth part (own work): slices that grow, copies, slice expressions, built structs, equality of arrays, bytes and texts. -/
set_option linter.unusedVariables false
set_option linter.unusedSimpArgs false
namespace Go.Sl
open Go.RowKit (Below)
variable {P : Program} {n : FN} {w0 : World} {Q : Post} {E E' : Env} {H H' HS : Hp} {W : World → Prop} {K : Env → Hp → Prop}
variable {d : Option Nat} {ty t t2 : Nat} {ps : String} {af : Array Edge} {g : Option (Nat × Bool)} {x y c : Operand}

/-! ### Bytes -/
def u8 (b : UInt8) : Value := .int .u8 b.toNat
def bs (l : List UInt8) : List Value := l.map u8
theorem bs_length (l : List UInt8) : (bs l).length = l.length := by simp [bs]
theorem bs_get (l : List UInt8) (i : Nat) : (bs l)[i]? = (l[i]?).map u8 := by simp [bs]
theorem bs_append (l m : List UInt8) : bs (l ++ m) = bs l ++ bs m := by simp [bs]
theorem bs_take (l : List UInt8) (i : Nat) : (bs l).take i = bs (l.take i) := by simp [bs]
theorem bs_drop (l : List UInt8) (i : Nat) : (bs l).drop i = bs (l.drop i) := by simp [bs]
theorem bs_set (l : List UInt8) (i : Nat) (b : UInt8) : (bs l).set i (u8 b) = bs (l.set i b) := by simp [bs]
theorem bs_one (l : List UInt8) : ∀ v ∈ bs l, one v = true := by
  intro v hv
  simp only [bs, List.mem_map] at hv
  obtain ⟨b, _, rfl⟩ := hv
  rfl
theorem u8_of_int {m : Int} (h0 : 0 ≤ m) (h1 : m < 256) : Value.int .u8 m = u8 (UInt8.ofNat m.toNat) := by
  simp only [u8, Value.int.injEq, true_and]
  simp
  omega
theorem spl_bs {vs l : List UInt8} {i : Nat} (h : i + vs.length ≤ l.length) : spl (bs l) i (bs vs) = bs (l.take i ++ vs ++ l.drop (i + vs.length)) := by
  rw [spl_eq _ _ _ (by simpa [bs_length] using h)]
  simp [bs]
theorem y_nea {e : Nat} {m : Nat} {a b : List UInt8} (hx : ev E x = some (.agg (bs a).toArray)) (hy : ev E y = some (.agg (bs b).toArray)) (hu : P.underlying t = some (.array m e)) (he : P.underlying e = some (.int .u8)) (hz : szT P e = some 1)
    (hg : P.eqGuardType P.depth t = false) (ha : a.length = m) (hb : b.length = m) : YV P n E W (.binOp .neq t x y t2) ty (.bool (!decide (a = b))) := fun fr w hfr _ d ps af g => by
  have h := run_equalIn_bytes (P := P) w 9998 t e m hu he (fun w => run_sizeOf hz w) a b ha hb
  have h' : (Op.equalIn 10000 t (.agg (bs a).toArray) (.agg (bs b).toArray)).run P w = .ok (a == b) w := h
  simp only [execOp, hfr.eval hx, hfr.eval hy, Sem.run_bind, run_eqGuard_agg w .neq t x y _ _ hg, Result.andThen_ok]
  rw [run_neq_struct, h']
  simp only [Result.andThen_ok, Sem.run_pure]
  congr 4
  rw [Bool.eq_iff_iff]; simp
/-! ### Slice expressions -/
theorem run_bound {k : IntKind} {i : Int} {m : Nat} {code : BoundsCode} (h0 : 0 ≤ i) (h1 : i ≤ m) (w : World) : (Instr.sliceBound (.int k i) m code).run P w = .ok i.toNat w := by
  simp only [Instr.sliceBound, asIntOf, Sem.run_bind, Sem.run_pure, Result.andThen_ok]
  rw [if_pos ⟨h0, h1⟩]
  rfl
/-- 'a[lo:hi]' of an array behind a pointer; each bound may lack. -/
theorem y_sliceA {e m len b off : Nat} {k k' : IntKind} {lo hi : Int} {r : Nat} (hx : ev E x = some (.pointer (some ⟨b, off, none⟩))) (hy : ev E y = some (.int k lo)) (hc : ev E c = some (.int k' hi))
    (hu : P.underlying t = some (.array len e)) (hz : szT P e = some m) (h0 : 0 ≤ lo) (h1 : lo ≤ hi) (h2 : hi ≤ len) (hr : (if len = lo.toNat then off else off + lo.toNat * m) = r) :
    YV P n E W (.slice t x (some y) (some c) none) ty (.slice (some ⟨b, r, none⟩) (hi.toNat - lo.toNat) (len - lo.toNat)) := fun a w ha _ d ps af g => by
  have b1 := fun code => run_bound (P := P) (k := k') (code := code) (show 0 ≤ hi by omega) h2 w
  have b2 := fun code => run_bound (P := P) (k := k) (m := hi.toNat) (code := code) h0 (by omega) w
  simp only [execOp, ha.eval hx, ha.eval hy, ha.eval hc, Option.map_some, Option.map_none, Instr.sliceAt, Sem.run_bind, run_underlying hu, Result.andThen_ok, Instr.sureAddr, Instr.sliceBounds, if_true, b1, b2, Sem.run_pure, run_sizeOf hz, Option.isSome_none, Bool.false_eq_true, if_false]
  rw [← hr]
  simp only [addr_add]
  split <;> rfl
theorem y_sliceA_lo {e m len b off : Nat} {k : IntKind} {lo : Int} {r : Nat} (hx : ev E x = some (.pointer (some ⟨b, off, none⟩))) (hy : ev E y = some (.int k lo))
    (hu : P.underlying t = some (.array len e)) (hz : szT P e = some m) (h0 : 0 ≤ lo) (h1 : lo ≤ len) (hr : (if len = lo.toNat then off else off + lo.toNat * m) = r) :
    YV P n E W (.slice t x (some y) none none) ty (.slice (some ⟨b, r, none⟩) (len - lo.toNat) (len - lo.toNat)) := fun a w ha _ d ps af g => by
  have b2 := fun code => run_bound (P := P) (k := k) (m := len) (code := code) h0 (by omega) w
  simp only [execOp, ha.eval hx, ha.eval hy, Option.map_some, Option.map_none, Instr.sliceAt, Sem.run_bind, run_underlying hu, Result.andThen_ok, Instr.sureAddr, Instr.sliceBounds, if_true, b2, Sem.run_pure, run_sizeOf hz, Option.isSome_none, Bool.false_eq_true, if_false]
  rw [← hr]
  simp only [addr_add]
  split <;> rfl
theorem y_sliceA_hi {e m len b off : Nat} {k' : IntKind} {hi : Int} (hx : ev E x = some (.pointer (some ⟨b, off, none⟩))) (hc : ev E c = some (.int k' hi))
    (hu : P.underlying t = some (.array len e)) (hz : szT P e = some m) (h1 : 0 ≤ hi) (h2 : hi ≤ len) :
    YV P n E W (.slice t x none (some c) none) ty (.slice (some ⟨b, off, none⟩) hi.toNat len) := fun a w ha _ d ps af g => by
  have b1 := fun code => run_bound (P := P) (k := k') (code := code) h1 h2 w
  simp only [execOp, ha.eval hx, ha.eval hc, Option.map_some, Option.map_none, Instr.sliceAt, Sem.run_bind, run_underlying hu, Result.andThen_ok, Instr.sureAddr, Instr.sliceBounds, if_true, b1, Sem.run_pure, run_sizeOf hz, Option.isSome_none, Bool.false_eq_true, if_false]
  simp only [addr_add, Nat.zero_mul, Nat.add_zero, Nat.sub_zero, ite_self]
theorem y_sliceA_all {e m len b off : Nat} (hx : ev E x = some (.pointer (some ⟨b, off, none⟩))) (hu : P.underlying t = some (.array len e)) (hz : szT P e = some m) :
    YV P n E W (.slice t x none none none) ty (.slice (some ⟨b, off, none⟩) len len) := fun a w ha _ d ps af g => by
  simp only [execOp, ha.eval hx, Option.map_none, Instr.sliceAt, Sem.run_bind, run_underlying hu, Result.andThen_ok, Instr.sureAddr, Instr.sliceBounds, if_true, Sem.run_pure, run_sizeOf hz, Option.isSome_none, Bool.false_eq_true, if_false]
  simp only [addr_add, Nat.zero_mul, Nat.add_zero, Nat.sub_zero, ite_self]

/-! ### Built structs and arrays -/
def placesT (P : Program) (t : TypeId) : Option (List (Nat × Nat)) :=
  match P.underlying t with
  | some (.struct fs) => fs.toList.mapM fun f => (szT P f.type).map fun m => (f.offset, m)
  | _ => none
theorem run_places {w : World} : ∀ {fs : List Field} {pl : List (Nat × Nat)}, fs.mapM (fun f => (szT P f.type).map fun m => (f.offset, m)) = some pl →
    (fs.mapM (m := Sem) fun f => do pure (f.offset, ← sizeOf f.type)).run P w = .ok pl w
  | [], pl, h => by simp at h; subst h; simp
  | f :: fs, pl, h => by
    simp only [List.mapM_cons, Option.bind_eq_bind, Option.bind_eq_some_iff, Option.map_eq_some_iff, Option.pure_def, Option.some.injEq] at h
    obtain ⟨p, ⟨m, hm, rfl⟩, ql, hq, rfl⟩ := h
    simp only [List.mapM_cons, Sem.run_bind, run_sizeOf hm, Result.andThen_ok, Sem.run_pure, run_places hq]
theorem y_build {parts : List (Nat × Operand)} {vs : List (Nat × Value)} {zl l : List Value} {pl : List (Nat × Nat)} (hp : parts.map (fun p => (p.1, ev E p.2)) = vs.map fun p => (p.1, some p.2)) (hpl : placesT P t = some pl)
    (hzl : zeroL P t = some zl) (hf : Instr.fill (fun i => pl[i]?) zl.toArray vs = some l.toArray) : YV P n E W (.build t parts.toArray) ty (.agg l.toArray) := fun a w ha _ d ps af g => by
  obtain ⟨v, hv, hlv⟩ := zeroT_of_L hzl
  have hparts : (parts.map fun (i, x) => (i, a.eval x)) = vs := by
    clear hf
    induction parts generalizing vs with
    | nil => cases vs with
      | nil => rfl
      | cons _ _ => simp at hp
    | cons p parts ih => cases vs with
      | nil => simp at hp
      | cons q vs =>
        simp only [List.map_cons, List.cons.injEq, Prod.mk.injEq] at hp
        simp only [List.map_cons, List.cons.injEq]
        exact ⟨by rw [ha.eval hp.1.2, hp.1.1], ih hp.2⟩
  have hc : v.cells = zl.toArray := by rw [← hlv]
  unfold placesT at hpl
  cases hu : P.underlying t with
  | none => simp [hu] at hpl
  | some dd =>
    rw [hu] at hpl
    cases dd <;> simp at hpl
    rename_i fs
    have hm : (fs.mapM (m := Sem) fun f => do pure (f.offset, ← sizeOf f.type)).run P w = .ok pl.toArray w := by
      rw [Array.mapM_eq_mapM_toList, Sem.run_map, run_places (P := P) (w := w) (fs := fs.toList) (pl := pl) (by simpa using hpl)]; rfl
    simp only [execOp, Instr.build, Sem.run_bind, run_zeroValue hv, Result.andThen_ok, run_underlying hu, hm, List.map_toArray, hparts, hc]
    rw [show (fun x => pl.toArray[x]?) = (fun i => pl[i]?) from by funext i; simp, hf]
    rfl
theorem y_buildA {e m len : Nat} {parts : List (Nat × Operand)} {vs : List (Nat × Value)} {zl l : List Value} (hp : parts.map (fun p => (p.1, ev E p.2)) = vs.map fun p => (p.1, some p.2)) (hu : P.underlying t = some (.array len e)) (hz : szT P e = some m)
    (hzl : zeroL P t = some zl) (hf : Instr.fill (fun i => some (i * m, m)) zl.toArray vs = some l.toArray) : YV P n E W (.build t parts.toArray) ty (.agg l.toArray) := fun a w ha _ d ps af g => by
  obtain ⟨v, hv, hlv⟩ := zeroT_of_L hzl
  have hparts : (parts.map fun (i, x) => (i, a.eval x)) = vs := by
    clear hf
    induction parts generalizing vs with
    | nil => cases vs with
      | nil => rfl
      | cons _ _ => simp at hp
    | cons p parts ih => cases vs with
      | nil => simp at hp
      | cons q vs =>
        simp only [List.map_cons, List.cons.injEq, Prod.mk.injEq] at hp
        simp only [List.map_cons, List.cons.injEq]
        exact ⟨by rw [ha.eval hp.1.2, hp.1.1], ih hp.2⟩
  have hc : v.cells = zl.toArray := by rw [← hlv]
  simp only [execOp, Instr.build, Sem.run_bind, run_zeroValue hv, Result.andThen_ok, run_underlying hu, run_sizeOf hz, List.map_toArray, hparts, hc, hf, Sem.run_pure]
theorem y_buildA0 {e m len : Nat} {l : List Value} (hu : P.underlying t = some (.array len e)) (hz : szT P e = some m) (hzl : zeroL P t = some l) : YV P n E W (.build t #[]) ty (.agg l.toArray) :=
  y_buildA (parts := []) (vs := []) rfl hu hz hzl rfl
theorem y_build0 {l : List Value} {pl : List (Nat × Nat)} (hpl : placesT P t = some pl) (hzl : zeroL P t = some l) : YV P n E W (.build t #[]) ty (.agg l.toArray) :=
  y_build (parts := []) (vs := []) rfl hpl hzl rfl

/-! ### Slices that grow -/
structure SlG where
  b : Nat
  cap : Nat
  sp : List Value
def slV (g : Option SlG) (len : Nat) : Value := match g with | none => .slice none 0 0 | some g => .slice (some ⟨g.b, 0, none⟩) len g.cap
def slSeg (e : Nat) (g : Option SlG) (xs : List Value) : List (Nat × Obj) := match g with | none => [] | some g => [(g.b, .cells (xs ++ g.sp).toArray e)]
def slOk (sz : Nat) (g : Option SlG) (len : Nat) (xs : List Value) : Prop := xs.length = len * sz ∧ match g with | none => len = 0 | some g => xs.length + g.sp.length = g.cap * sz ∧ len ≤ g.cap

theorem growBy_le (newLen : Nat) (h : 256 ≤ newLen) : ∀ (r c : Nat), c ≤ newLen → Builtin.growBy newLen r c ≤ 2 * newLen
  | 0, c, hc => by simp [Builtin.growBy]; omega
  | r + 1, c, hc => by
    unfold Builtin.growBy
    split
    · omega
    · by_cases h2 : c + (c + 768) / 4 ≤ newLen
      · exact growBy_le newLen h r _ h2
      · have : Builtin.growBy newLen r (c + (c + 768) / 4) = c + (c + 768) / 4 := by
          cases r with
          | zero => rfl
          | succ r => unfold Builtin.growBy; rw [if_pos (by omega)]
        omega
theorem nextcap_le (newLen oldCap : Nat) (h : oldCap < newLen) : Builtin.nextslicecap newLen oldCap ≤ 2 * newLen := by
  unfold Builtin.nextslicecap
  split
  · omega
  · split
    · omega
    · exact growBy_le newLen (by omega) 4 oldCap (by omega)
theorem setH_setS : ∀ {H : Hp} {s b : Nat} {o : Obj} (o' : Obj), H[s]? = some [(b, o)] → getH H s 0 = some (b, o) ∧ setH H s 0 o' = setS H s [(b, o')]
  | [], _, _, _, _, h => by cases h
  | S :: H, 0, b, o, o', h => by simp at h; subst h; exact ⟨rfl, rfl⟩
  | S :: H, s + 1, b, o, o', h => by
    simp only [List.getElem?_cons_succ] at h
    have ⟨h1, h2⟩ := setH_setS o' h
    exact ⟨h1, by simp only [setH, setS, h2]⟩
theorem hsub_setS {H : Hp} {s : Nat} {X Y : List (Nat × Obj)} (h : H[s]? = some X) : HSub (setS H s Y) (Y :: H) := by
  obtain ⟨L, h1, h2⟩ := perm_setS_all H s X h
  have hs : HSub (Y :: L) (Y :: H) := .of_sublist (L := Y :: X :: L) (by simpa using h1.append_left Y) (by simp)
  exact (HSub.of_perm (h2 Y).symm).trans hs
theorem setS_self : ∀ {H : Hp} {s : Nat} {X : List (Nat × Obj)}, H[s]? = some X → setS H s X = H
  | [], _, _, h => by cases h
  | S :: H, 0, X, h => by simp at h; subst h; rfl
  | S :: H, s + 1, X, h => by
    simp only [List.getElem?_cons_succ] at h
    simp only [setS, setS_self h]
/-- What stands first in a slice, or in a text. -/
def Src (P : Program) (w0 : World) (H : Hp) (sz : Nat) (v : Value) (m : Nat) (vs : List Value) : Prop :=
  ∀ w, St w0 w H → (Builtin.lenOf v).run P w = .ok m w ∧ (Builtin.firstCells sz m v).run P w = .ok vs.toArray w
theorem src_slice {sz b off len cap : Nat} {l vs : List Value} {T : TypeId} {fr : Nat × Nat} (hs : Sees (fun w => St w0 w H) b (.cells l.toArray T fr)) (hl : off + len * sz ≤ l.length) (hv : (l.drop off).take (len * sz) = vs) :
    Src P w0 H sz (.slice (some ⟨b, off, none⟩) len cap) len vs := fun w hw => by
  refine ⟨rfl, ?_⟩
  simp only [Builtin.firstCells, run_loadCells_at (hs w hw) hl, hv]
theorem src_nil {sz len cap : Nat} : Src P w0 H sz (.slice none len cap) len [] := fun w hw => ⟨rfl, rfl⟩
theorem Src.sub {sz m : Nat} {v : Value} {vs : List Value} (h : Src P w0 H' sz v m vs) (hs : HSub H' H) : Src P w0 H sz v m vs := fun w hw => h w (hs w0 w hw)

def notIntT (P : Program) (t : TypeId) : Bool := match P.underlying t with
  | some (.int _) => false
  | some _ => true
  | none => false
theorem notInt_spec {t : Nat} (h : notIntT P t = true) : ∃ dx, P.underlying t = some dx ∧ ∀ k, dx ≠ .int k := by
  unfold notIntT at h
  cases hu : P.underlying t with
  | none => simp [hu] at h
  | some dx => exact ⟨dx, rfl, fun k e => by rw [hu, e] at h; simp at h⟩
theorem run_append {len cap m e sz bt : Nat} {base : Option Addr} {xv : Value} {t0 t1 : TypeId} {w : World} {vs : List Value}
    (hu : P.underlying t0 = some (.slice e)) (hnx : notIntT P t1 = true) (hz : szT P e = some sz) (h1 : (Builtin.lenOf xv).run P w = .ok m w) (h2 : (Builtin.firstCells sz m xv).run P w = .ok vs.toArray w) (hroom : len + m ≤ cap) :
    (Builtin.append_ #[t0, t1] ty #[.slice base len cap, xv]).run P w =
      ((match base with | some a => storeCells (a.add (len * sz)) vs | none => pure ()).run P w).andThen fun _ w' => .ok (.slice base (len + m) cap) w' := by
  obtain ⟨dx, hux, hni⟩ := notInt_spec hnx
  have q0 : (#[t0, t1] : Array TypeId)[0]? = some t0 := rfl
  have q1 : (#[t0, t1] : Array TypeId)[1]? = some t1 := rfl
  have q2 : (#[Value.slice base len cap, xv] : Array Value)[0]? = some (.slice base len cap) := rfl
  have q3 : (#[Value.slice base len cap, xv] : Array Value)[1]? = some xv := rfl
  unfold Builtin.append_
  simp only [q0, q1, q2, q3]
  rw [Sem.run_bind, run_underlying hu]
  simp only [Result.andThen_ok]
  rw [Sem.run_bind, run_sizeOf hz]
  simp only [Result.andThen_ok]
  rw [Sem.run_bind, run_underlying hux]
  simp only [Result.andThen_ok]
  rw [Sem.run_bind, Sem.run_pure]
  simp only [Result.andThen_ok]
  have fin : (Sem.run P (do
      let n ← Builtin.lenOf xv
      if len + n ≤ cap then do
          let new ← Builtin.firstCells sz n xv
          match base with
            | some a => do
              storeCells (a.add (len * sz)) new.toList
              pure (Value.slice base (len + n) cap)
            | x => pure (Value.slice base (len + n) cap)
        else pure (Value.slice base 0 0)) w) = ((match base with | some a => storeCells (a.add (len * sz)) vs | none => pure ()).run P w).andThen fun _ w' => .ok (.slice base (len + m) cap) w' := by
    simp only [Sem.run_bind, h1, Result.andThen_ok, hroom, if_true, h2]
    cases base with
    | none => simp
    | some a => simp
  cases dx
  case int k => exact absurd rfl (hni k)
  all_goals
    simp only [Bool.false_eq_true, if_false, Sem.run_bind, h1, Result.andThen_ok, hroom, if_true, Bool.not_false, h2] at fin ⊢
    exact fin
theorem run_append_grow {len cap m e sz bt : Nat} {base : Option Addr} {xv : Value} {t0 t1 : TypeId} {w : World} {vs old zl : List Value} {zv : Value}
    (hu : P.underlying t0 = some (.slice e)) (hnx : notIntT P t1 = true) (hz : szT P e = some sz) (hb : byT P e = some bt) (hbp : 0 < bt) (hzv : zeroT P e = some zv) (hzc : zv.cells = zl.toArray) (hlz : zl.length = sz)
    (h1 : (Builtin.lenOf xv).run P w = .ok m w) (h2 : ∀ k, (Builtin.firstCells sz m xv).run P { w with drawn := k } = .ok vs.toArray { w with drawn := k }) (h3 : ∀ k, (Builtin.firstCells sz len (.slice base len cap)).run P { w with drawn := k } = .ok old.toArray { w with drawn := k })
    (hroom : ¬ (len + m ≤ cap)) (hbound : (len + m) * bt ≤ 140737488355328) :
    ∃ cap' dr, len + m ≤ cap' ∧ (Builtin.append_ #[t0, t1] ty #[.slice base len cap, xv]).run P w = .ok (.slice (some ⟨w.heap.size, 0, none⟩) (len + m) cap') (World.alloc { w with drawn := dr } (.cells (old ++ vs ++ zcells zl (cap' - (len + m))).toArray e)) := by
  obtain ⟨dx, hux, hni⟩ := notInt_spec hnx
  have q0 : (#[t0, t1] : Array TypeId)[0]? = some t0 := rfl
  have q1 : (#[t0, t1] : Array TypeId)[1]? = some t1 := rfl
  have q2 : (#[Value.slice base len cap, xv] : Array Value)[0]? = some (.slice base len cap) := rfl
  have q3 : (#[Value.slice base len cap, xv] : Array Value)[1]? = some xv := rfl
  obtain ⟨i, hi, hib⟩ := run_bytes hb w
  have hbt : len + m ≤ (len + m) * bt := Nat.le_mul_of_pos_right _ hbp
  have hnext := nextcap_le (len + m) cap (by omega)
  have t2 : ¬ (Builtin.nextslicecap (len + m) cap * i.bytes > 2 ^ 48) := by
    rw [hib]
    have : Builtin.nextslicecap (len + m) cap * bt ≤ 2 * (len + m) * bt := Nat.mul_le_mul_right bt hnext
    have : 2 * (len + m) * bt = 2 * ((len + m) * bt) := Nat.mul_assoc _ _ _
    omega
  have t1' : ¬ (((len + m : Nat) : Int) > IntKind.i64.max ∧ (false = true ∨ i.bytes = 0)) := by rw [IntKind.max_i64]; omega
  obtain ⟨cap', hcap'⟩ : ∃ c, c = (Question.appendCap (len + m) cap e).cut (w.tape w.drawn (.appendCap (len + m) cap e)) := ⟨_, rfl⟩
  have hcc : len + m ≤ cap' := by rw [hcap']; simp only [Question.cut]; omega
  have hi' : ∀ w' : World, (typeInfo e).run P w' = .ok i w' := fun w' => by
    obtain ⟨i', h, _⟩ := run_bytes hb w'
    have e1 : P.info? e = some i := by
      cases hq : P.info? e with
      | none => simp [typeInfo, hq] at hi
      | some j => simp [typeInfo, hq] at hi; rw [hi]
    simp [typeInfo, e1]
  refine ⟨cap', w.drawn + 1, hcc, ?_⟩
  have hz0 : Builtin.zeroCells zv.cells (cap' - (len + m)) = (zcells zl (cap' - (len + m))).toArray := by
    unfold Builtin.zeroCells
    rw [hzc]
    exact rangeCells zl _
  unfold Builtin.append_
  simp only [q0, q1, q2, q3]
  rw [Sem.run_bind, run_underlying hu]
  simp only [Result.andThen_ok]
  rw [Sem.run_bind, run_sizeOf hz]
  simp only [Result.andThen_ok]
  rw [Sem.run_bind, run_underlying hux]
  simp only [Result.andThen_ok]
  rw [Sem.run_bind, Sem.run_pure]
  simp only [Result.andThen_ok]
  cases dx
  case int k => exact absurd rfl (hni k)
  all_goals
    simp only [Result.andThen_ok, Sem.run_bind, Sem.run_pure, Bool.false_eq_true, if_false, h1, hroom, Bool.not_false, if_true, hi']
    rw [if_neg (by simpa using t1')]
    rw [Sem.run_bind, hi' w]
    simp only [Result.andThen_ok]
    rw [if_neg t2]
    simp only [Sem.run_bind, run_choose, Question.forced, Bool.false_eq_true, if_false, Sem.run_pure, Result.andThen_ok, ← hcap', hi', run_askRoom]
    rw [h3]
    simp only [Result.andThen_ok]
    rw [h2]
    simp only [Result.andThen_ok, Sem.run_bind, run_zeroValue hzv, hz0, newRow, run_newObj, Sem.run_pure]
    simp only [List.append_toArray]
    rfl
theorem op_append {gs : Option SlG} {len m e sz bt : Nat} {xs vs zl : List Value} {xv : Value} {t0 t1 : TypeId} (s : Nat) (hx : ev E x = some (slV gs len)) (hy : ev E y = some xv) (hs : H[s]? = some (slSeg e gs xs)) (hok : slOk sz gs len xs)
    (hsrc : Src P w0 H sz xv m vs) (hm : vs.length = m * sz) (hone : ∀ v ∈ vs, one v = true)
    (hu : P.underlying t0 = some (.slice e)) (hnx : notIntT P t1 = true) (hz : szT P e = some sz) (hb : byT P e = some bt) (hbp : 0 < bt)
    (hzl : zeroL P e = some zl) (hlz : zl.length = sz) (hbound : (len + m) * bt ≤ 140737488355328) (hd : dok d n = true)
    (k : ∀ g' : Option SlG, slOk sz g' (len + m) (xs ++ vs) → K (put E d (slV g' (len + m))) (setS H s (slSeg e g' (xs ++ vs)))) :
    OpW P n w0 Q ⟨d, .call { callee := .builtin .append, args := [x, y].toArray, argTypes := #[t0, t1] }, ty, ps, af, g⟩ E H K := op_run hd fun a w ha hw => by
  obtain ⟨zv, hzv, hlv⟩ := zeroT_of_L hzl
  have hzc : zv.cells = zl.toArray := by rw [← hlv]
  obtain ⟨h1, h2⟩ := hsrc w hw
  have hev := evals (n := n) (E := E) ha (l := [x, y]) (vs := [slV gs len, xv]) (by simp [hx, hy])
  have hexec : ∀ r w', (Builtin.append_ #[t0, t1] ty #[slV gs len, xv]).run P w = .ok r w' →
      (execOp a.eval ⟨d, .call { callee := .builtin .append, args := [x, y].toArray, argTypes := #[t0, t1] }, ty, ps, af, g⟩).run P w = .ok (.value r) w' := fun r w' h => by
    simp only [execOp, resolve, Sem.run_bind, Sem.run_pure, Result.andThen_ok, invoke, List.map_toArray, hev, builtin]
    rw [show (#[slV gs len, xv] : Array Value) = [slV gs len, xv].toArray from rfl] at h
    rw [h]
    rfl
  have grow : ∀ (base : Option Addr) (cap : Nat), slV gs len = .slice base len cap → ¬ (len + m ≤ cap) →
      (∀ k, (Builtin.firstCells sz len (.slice base len cap)).run P { w with drawn := k } = .ok xs.toArray { w with drawn := k }) →
      ∃ v w' H', (execOp a.eval ⟨d, .call { callee := .builtin .append, args := [x, y].toArray, argTypes := #[t0, t1] }, ty, ps, af, g⟩).run P w = .ok (.value v) w' ∧ St w0 w' H' ∧ K (put E d v) H' := by
    intro base cap hv hroom hf
    obtain ⟨cap', dr, hc, hr⟩ := run_append_grow (P := P) (ty := ty) (base := base) (w := w) hu hnx hz hb hbp hzv hzc hlz h1 (fun k => (hsrc _ (hw.drawn k)).2) hf hroom hbound
    rw [← hv] at hr
    have hok' : slOk sz (some ⟨w.heap.size, cap', zcells zl (cap' - (len + m))⟩) (len + m) (xs ++ vs) := by
      refine ⟨by simp [hok.1, hm, Nat.add_mul], ?_, hc⟩
      simp only [List.length_append, hok.1, hm, zcells_length, hlz]
      rw [← Nat.add_mul, ← Nat.add_mul]
      congr 1
      omega
    refine ⟨_, _, _, hexec _ _ hr, ?_, k (some ⟨w.heap.size, cap', zcells zl (cap' - (len + m))⟩) hok'⟩
    exact hsub_setS hs w0 _ ((hw.drawn dr).alloc _)
  cases gs with
  | none =>
    obtain ⟨hx1, rfl⟩ := hok
    have hxs : xs = [] := List.eq_nil_of_length_eq_zero (by simpa using hx1)
    subst hxs
    by_cases hm0 : m = 0
    · subst hm0
      have hvs : vs = [] := List.eq_nil_of_length_eq_zero (by simpa using hm)
      subst hvs
      have hr := run_append (P := P) (bt := bt) (ty := ty) (base := none) (cap := 0) (len := 0) (w := w) hu hnx hz h1 h2 (Nat.le_refl 0)
      simp only [Sem.run_pure, Result.andThen_ok] at hr
      refine ⟨_, _, H, hexec _ _ hr, hw, ?_⟩
      have := k none ⟨by simp, rfl⟩
      have e0 : setS H s (slSeg e none ([] ++ [])) = H := setS_self hs
      rw [e0] at this
      exact this
    · exact grow none 0 rfl (by omega) (fun k => rfl)
  | some gg =>
    obtain ⟨hx1, hx2, hx3⟩ := hok
    have hblk : w.heap[gg.b]? = some (.cells (xs ++ gg.sp).toArray e) := hw.has _ (getH_mem (setH_setS (.cells #[] e) hs).1)
    by_cases hroom : len + m ≤ gg.cap
    · have hr := run_append (P := P) (bt := bt) (ty := ty) (base := some ⟨gg.b, 0, none⟩) (w := w) hu hnx hz h1 h2 hroom
      have hlen : len * sz + vs.length ≤ (xs ++ gg.sp).length := by
        rw [List.length_append, hx2, hm, ← Nat.add_mul]; exact Nat.mul_le_mul_right _ hroom
      simp only [addr_add, Nat.zero_add] at hr
      rw [run_storeCells' hblk hone hlen] at hr
      simp only [Result.andThen_ok] at hr
      have hs2 := setH_setS (.cells (spl (xs ++ gg.sp) (len * sz) vs).toArray e) hs
      have e1 : spl (xs ++ gg.sp) (len * sz) vs = (xs ++ vs) ++ gg.sp.drop vs.length := by
        rw [spl_eq _ _ _ hlen, ← hx1]
        rw [List.take_left' rfl, List.drop_append]
        simp
      have hok' : slOk sz (some ⟨gg.b, gg.cap, gg.sp.drop vs.length⟩) (len + m) (xs ++ vs) := by
        refine ⟨by simp [hx1, hm, Nat.add_mul], ?_, hroom⟩
        simp only [List.length_append, List.length_drop]
        rw [List.length_append, hx2] at hlen
        omega
      refine ⟨_, _, _, hexec _ _ hr, hw.putB hs2.1 _, ?_⟩
      rw [hs2.2, e1]
      exact k (some ⟨gg.b, gg.cap, gg.sp.drop vs.length⟩) hok'
    · refine grow (some ⟨gg.b, 0, none⟩) gg.cap rfl hroom (fun k => ?_)
      have hblk' : ({ w with drawn := k } : World).heap[gg.b]? = some (.cells (xs ++ gg.sp).toArray e) := hblk
      simp only [Builtin.firstCells]
      rw [run_loadCells_at hblk' (by simp; omega)]
      rw [List.drop_zero, ← hx1, List.take_left' rfl]

end Go.Sl

/- The calculus, sixth part (own work): ends of bodies, small words. -/
set_option linter.unusedVariables false
set_option linter.unusedSimpArgs false
namespace Go.Sl
open Go.RowKit (Below)
variable {P : Program} {n : FN} {w0 : World} {Q : Post} {E E' : Env} {H H' HS : Hp} {W : World → Prop} {K : Env → Hp → Prop}

theorem ones {vs : List Value} (h : vs.all one = true) : ∀ v ∈ vs, one v = true := List.all_eq_true.1 h
theorem rv_nil : RV P w0 E H [] [] := trivial
theorem rv_tmp {t : Nat} {v : Value} {rs : List ResultVar} {vs : List Value} (h : look E t = some v) (hr : RV P w0 E H rs vs) : RV P w0 E H (.tmp t :: rs) (v :: vs) := ⟨h, hr⟩
theorem rv_cellA {t ty b i m : Nat} {l us : List Value} {T : TypeId} {fr : Nat × Nat} {rs : List ResultVar} {vs : List Value} (h : look E t = some (.pointer (some ⟨b, i, none⟩))) (ht : isAggT P ty = some true) (hz : szT P ty = some m)
    (hs : Sees (fun w => St w0 w H) b (.cells l.toArray T fr)) (hm : i + m ≤ l.length) (hv : (l.drop i).take m = us) (hr : RV P w0 E H rs vs) : RV P w0 E H (.cell t ty :: rs) (.agg us.toArray :: vs) :=
  ⟨⟨_, h, fun w hw => by rw [run_loadVarA ht hz (hs w hw) hm, hv]⟩, hr⟩
theorem rv_cell1 {t ty b i : Nat} {v : Value} {l : List Value} {T : TypeId} {fr : Nat × Nat} {rs : List ResultVar} {vs : List Value} (h : look E t = some (.pointer (some ⟨b, i, none⟩))) (ht : isAggT P ty = some false)
    (hs : Sees (fun w => St w0 w H) b (.cells l.toArray T fr)) (hv : l[i]? = some v) (hr : RV P w0 E H rs vs) : RV P w0 E H (.cell t ty :: rs) (v :: vs) :=
  ⟨⟨_, h, fun w hw => run_loadVar1 ht (hs w hw) hv⟩, hr⟩
theorem B_ret {rs : List ResultVar} {vs : List Value} {R : Ending → Hp → Prop} (hrv : RV P w0 E H rs vs) (hs : HSub H' H) (hR : R (.returned (pack vs)) H') : BodyQ P w0 rs R .ret E H := ⟨vs, H', hrv, hs, hR⟩
theorem B_end {rs : List ResultVar} {vs : List Value} {R : Ending → Hp → Prop} (hrv : RV P w0 E H rs vs) (hs : HSub H' H) (hR : R (.returned (pack vs)) H') : BodyQ P w0 rs R .normal E H := ⟨vs, H', hrv, hs, hR⟩
theorem wi64 {m : Int} (h0 : -9223372036854775808 ≤ m) (h1 : m ≤ 9223372036854775807) : IntKind.i64.wrap m = m := by rw [IntKind.wrap_i64]; omega
theorem wu64 {m : Int} (h0 : 0 ≤ m) (h1 : m ≤ 18446744073709551615) : IntKind.u64.wrap m = m := by simp only [IntKind.wrap, IntKind.bits, IntKind.signed]; simp; omega
theorem wu8 {m : Int} (h0 : 0 ≤ m) (h1 : m ≤ 255) : IntKind.u8.wrap m = m := by rw [IntKind.wrap_u8]; omega
theorem slOk_none {sz len : Nat} {xs : List Value} (h : slOk sz none len xs) (hl : len ≠ 0) {α : Prop} : α := absurd h.2 hl
theorem Src.up {P : Program} {w0 : World} {H : Hp} {sz m : Nat} {v : Value} {vs : List Value} {X : List (Nat × Obj)} (h : Src P w0 H sz v m vs) : Src P w0 (X :: H) sz v m vs := h.sub (HSub.drop _ _)
theorem Sees.up {b : Nat} {o : Obj} {S : List (Nat × Obj)} (h : Sees (fun w => St w0 w H) b o) : Sees (fun w => St w0 w (S :: H)) b o := h.sub (HSub.drop S H)
/-- The same, for some ghost. -/
theorem C_cutG {ι : Type} {x y : Code} (G : ι → Prop) (Ec : ι → Env) (Hc : ι → Hp) (h : WpC P n w0 x (thenQ (fun E' H' => ∃ i, G i ∧ SubEnv (Ec i) E' ∧ HSub (Hc i) H') Q) E H)
    (hk : ∀ i, G i → WpC P n w0 y Q (Ec i) (Hc i)) : WpC P n w0 (.seq x y) Q E H :=
  C_cut _ h fun E H ⟨i, g, h1, h2⟩ => C_weaken h1 h2 (hk i g)
/-- A contract of a group of segments, used behind others. -/
theorem perm_mid (F A L : Hp) : (F ++ (A ++ L)).flatten.Perm (A ++ (F ++ L)).flatten := by
  simp only [List.flatten_append]
  rw [← List.append_assoc, ← List.append_assoc]
  exact List.perm_append_comm.append_right _
theorem FnS.mid {f : Nat} {args : Array Value} {A : Hp} {φ : Ending → Hp → Prop} (F L : Hp) (h : ∀ L, FnS P w0 f args (A ++ L) fun e H' => ∃ A', φ e A' ∧ H' = A' ++ L) :
    FnS P w0 f args (F ++ (A ++ L)) fun e H' => ∃ A', φ e A' ∧ H' = F ++ (A' ++ L) := fun w hw => by
  refine (h (F ++ L) w (HSub.of_perm (perm_mid F A L) w0 w hw)).mono ?_
  rintro e w' ⟨H', s, A', hφ, rfl⟩
  exact ⟨_, HSub.of_perm (perm_mid F A' L).symm w0 w' s, A', hφ, rfl⟩
theorem flatten_sublist : ∀ {H' H : Hp}, H'.Sublist H → H'.flatten.Sublist H.flatten
  | _, _, .slnil => List.Sublist.refl _
  | _, _, .cons S h => by simp only [List.flatten_cons]; exact (flatten_sublist h).trans (List.sublist_append_right _ _)
  | _, _, .cons_cons S h => by simp only [List.flatten_cons]; exact (List.Sublist.refl S).append (flatten_sublist h)
/-- Some segments are dropped. -/
theorem hsub {H' H : Hp} (h : H'.Sublist H) : HSub H' H := .of_sublist (List.Perm.refl _) (flatten_sublist h)
theorem FnS.weak {f : Nat} {args : Array Value} {R R' : Ending → Hp → Prop} (h : FnS P w0 f args H R) (hr : ∀ e H', R e H' → ∃ H2, HSub H2 H' ∧ R' e H2) : FnS P w0 f args H R' :=
  fun w hw => (h w hw).mono fun e w' ⟨H', s, r⟩ => let ⟨H2, hs, r2⟩ := hr e H' r; ⟨H2, hs w0 w' s, r2⟩
/-! ### Structs of whole numbers -/
def intFieldsT (P : Program) (t : TypeId) : Option (List IntKind) :=
  match P.underlying t with
  | some (.struct fs) => if (fs.toList.zipIdx.all fun p => p.1.name != "_" && p.1.offset == p.2) && !P.stoodInHeld t then fs.toList.mapM fun f => match P.underlying f.type with | some (.int k) => some k | _ => none else none
  | _ => none
def ints (ks : List IntKind) (xs : List Int) : List Value := List.zipWith Value.int ks xs
theorem run_eqFields {d : Nat} {w : World} : ∀ (fs : List Field) (ks : List IntKind) (xs ys : List Int) (pre pre' : List Value), pre.length = pre'.length → xs.length = ks.length → ys.length = ks.length →
    (fs.zipIdx pre.length).all (fun p => p.1.name != "_" && p.1.offset == p.2) = true → fs.mapM (fun f => match P.underlying f.type with | some (.int k) => some k | _ => none) = some ks →
    (Op.eqFields (d + 1) (pre ++ ints ks xs).toArray (pre' ++ ints ks ys).toArray fs).run P w = .ok (decide (xs = ys)) w
  | [], ks, xs, ys, pre, pre', hp, hx, hy, hall, hm => by
    simp at hm; subst hm
    have := List.eq_nil_of_length_eq_zero hx
    have := List.eq_nil_of_length_eq_zero hy
    subst_vars
    simp [Op.eqFields]
  | f :: fs, ks, xs, ys, pre, pre', hp, hx, hy, hall, hm => by
    simp only [List.mapM_cons, Option.bind_eq_bind, Option.bind_eq_some_iff, Option.pure_def, Option.some.injEq] at hm
    obtain ⟨k, hk, ks', hks, rfl⟩ := hm
    cases xs with
    | nil => simp at hx
    | cons x xs => cases ys with
      | nil => simp at hy
      | cons y ys =>
        simp only [List.zipIdx_cons, List.all_cons, Bool.and_eq_true, bne_iff_ne, beq_iff_eq] at hall
        obtain ⟨⟨hn, ho⟩, hall⟩ := hall
        have hu : P.underlying f.type = some (.int k) := by
          split at hk
          · simp at hk; subst hk; assumption
          · cases hk
        have px : (part f.type (pre ++ ints (k :: ks') (x :: xs)).toArray f.offset).run P w = .ok (.int k x) w := by
          simp only [part, Sem.run_bind, isAgg, run_underlying hu, Result.andThen_ok, Sem.run_pure, Bool.false_eq_true, if_false, ho]
          simp [ints]
        have py : (part f.type (pre' ++ ints (k :: ks') (y :: ys)).toArray f.offset).run P w = .ok (.int k y) w := by
          simp only [part, Sem.run_bind, isAgg, run_underlying hu, Result.andThen_ok, Sem.run_pure, Bool.false_eq_true, if_false, ho, hp]
          simp [ints]
        have pe : (Op.equalIn (d + 1) f.type (.int k x) (.int k y)).run P w = .ok (x == y) w := run_equalIn_int w d f.type k k x y hu
        rw [Op.eqFields, if_pos hn]
        simp only [Sem.run_bind, px, py, pe, Result.andThen_ok]
        by_cases e : x = y
        · subst e
          have ih := run_eqFields (d := d) (w := w) fs ks' xs ys (pre ++ [.int k x]) (pre' ++ [.int k x]) (by simp [hp]) (by simpa using hx) (by simpa using hy) (by simpa using hall) hks
          simp only [beq_self_eq_true, Bool.not_true, Bool.false_eq_true, if_false]
          have e1 : pre ++ ints (k :: ks') (x :: xs) = pre ++ [.int k x] ++ ints ks' xs := by simp [ints]
          have e2 : pre' ++ ints (k :: ks') (x :: ys) = pre' ++ [.int k x] ++ ints ks' ys := by simp [ints]
          rw [e1, e2, ih]
          simp
        · have : (x == y) = false := by simpa using e
          simp [this, e]
section
variable {x y : Operand} {ty t t2 : Nat}
theorem run_eq_ints {ks : List IntKind} {xs ys : List Int} (hi : intFieldsT P t = some ks) (hlx : xs.length = ks.length) (hly : ys.length = ks.length) (w : World) :
    (Op.equalIn 10000 t (.agg (ints ks xs).toArray) (.agg (ints ks ys).toArray)).run P w = .ok (decide (xs = ys)) w := by
  unfold intFieldsT at hi
  cases hu : P.underlying t with
  | none => simp [hu] at hi
  | some dd =>
    rw [hu] at hi
    cases dd <;> simp only [reduceCtorEq] at hi
    rename_i fs
    split at hi
    · rename_i h
      simp only [Bool.and_eq_true, Bool.not_eq_true'] at h
      have hf : P.fieldsOf t = fs := by simp [Program.fieldsOf, hu]
      have h1 := run_equalIn_struct (P := P) w 9999 t (ints ks xs).toArray (ints ks ys).toArray (by rw [hf]; exact hu) h.2
      rw [hf] at h1
      have h2 := run_eqFields (P := P) (d := 9998) (w := w) fs.toList ks xs ys [] [] rfl hlx hly (by simpa using h.1) hi
      exact h1.trans h2
    · cases hi
theorem y_nest {ks : List IntKind} {xs ys : List Int} (hx : ev E x = some (.agg (ints ks xs).toArray)) (hy : ev E y = some (.agg (ints ks ys).toArray)) (hi : intFieldsT P t = some ks) (hg : P.eqGuardType P.depth t = false)
    (hlx : xs.length = ks.length) (hly : ys.length = ks.length) : YV P n E W (.binOp .neq t x y t2) ty (.bool (!decide (xs = ys))) := fun fr w hfr _ d ps af g => by
  simp only [execOp, hfr.eval hx, hfr.eval hy, Sem.run_bind, run_eqGuard_agg w .neq t x y _ _ hg, Result.andThen_ok]
  rw [run_neq_struct, run_eq_ints hi hlx hly w]
  rfl
end
/-- Segments that lie together may be told as one. -/
theorem hsub_flat {H H' : Hp} (h : H.flatten = H'.flatten) : HSub H' H := HSub.of_perm (by rw [h])
/-- What a contract says of a run. -/
theorem FnS.run {f : Nat} {args : Array Value} {R : Ending → Hp → Prop} (h : FnS P w0 f args [] R) : Calls P f args w0 fun e w' => Below w0.heap.size w0 w' ∧ ∃ H', R e H' :=
  (h w0 (St.start w0)).mono fun e w' ⟨H', s, r⟩ => ⟨s.below, H', r⟩
end Go.Sl

/- The copy of slices, and segments picked in another order (own work). -/
set_option linter.unusedVariables false
set_option linter.unusedSimpArgs false
namespace Go.Sl
variable {P : Program} {n : FN} {w0 : World} {Q : Post} {E E' : Env} {H H' HS : Hp} {W : World → Prop} {K : Env → Hp → Prop}
variable {d : Option Nat} {ty t t2 : Nat} {ps : String} {af : Array Edge} {g : Option (Nat × Bool)} {x y c : Operand}
def pick : List Nat → Hp → Hp
  | [], X => X
  | i :: is, X => match X[i]? with
    | some s => s :: pick is (X.eraseIdx i)
    | none => pick is X
theorem erase_perm {α : Type} : ∀ (X : List α) (i : Nat) (s : α), X[i]? = some s → X.Perm (s :: X.eraseIdx i)
  | [], _, _, h => by simp at h
  | x :: X, 0, s, h => by simp at h; subst h; exact .refl _
  | x :: X, i + 1, s, h => by
    simp only [List.getElem?_cons_succ] at h
    exact ((erase_perm X i s h).cons x).trans (.swap s x _)
theorem pick_perm : ∀ (is : List Nat) (X : Hp), X.Perm (pick is X)
  | [], X => .refl _
  | i :: is, X => by
    unfold pick
    cases h : X[i]? with
    | none => exact pick_perm is X
    | some s =>
      exact (erase_perm X i s h).trans ((pick_perm is _).cons _)
theorem hsub_pick {H' X : Hp} (is : List Nat) (e : pick is X = H') : HSub H' X := by
  subst e
  exact .of_perm (pick_perm is X).flatten
theorem op_copy {e m b off dl dc sl sc b2 off2 : Nat} {l l2 vs : List Value} {T T2 : TypeId} {fr : Nat × Nat} {t0 t1 : TypeId} (s j : Nat) (hx : ev E x = some (.slice (some ⟨b, off, none⟩) dl dc)) (hy : ev E y = some (.slice (some ⟨b2, off2, none⟩) sl sc))
    (hu : P.underlying t0 = some (.slice e)) (hz : szT P e = some m) (hs : Sees (fun w => St w0 w H) b2 (.cells l2.toArray T2 fr)) (hl2 : off2 + min sl dl * m ≤ l2.length) (hvs : (l2.drop off2).take (min sl dl * m) = vs)
    (hH : getH H s j = some (b, .cells l.toArray T)) (ho : ∀ v ∈ vs, one v = true) (hlen : off + min sl dl * m ≤ l.length) (hd : dok d n = true)
    (k : K (put E d (.int .i64 ((min sl dl : Nat) : Int))) (setH H s j (.cells (spl l off vs).toArray T))) :
    OpW P n w0 Q ⟨d, .call { callee := .builtin .copy, args := [x, y].toArray, argTypes := #[t0, t1] }, ty, ps, af, g⟩ E H K := op_run hd fun a w ha hw => by
  have h : w.heap[b]? = some (.cells l.toArray T (0, 0)) := hw.has _ (getH_mem hH)
  have hv : vs.length = min sl dl * m := by rw [← hvs]; simp; omega
  refine ⟨_, _, _, ?_, hw.putB hH _, k⟩
  have h1 := run_loadCells_at (P := P) (hs w hw) hl2
  rw [hvs] at h1
  have h2 := run_storeCells' (P := P) h ho (off := off) (by omega)
  have hev := evals (n := n) (E := E) ha (l := [x, y]) (vs := [.slice (some ⟨b, off, none⟩) dl dc, .slice (some ⟨b2, off2, none⟩) sl sc]) (by simp [hx, hy])
  have hr : (Builtin.copy_ #[t0, t1] ty #[.slice (some ⟨b, off, none⟩) dl dc, .slice (some ⟨b2, off2, none⟩) sl sc]).run P w = .ok (.int .i64 ((min sl dl : Nat) : Int)) (putB w b (.cells (spl l off vs).toArray T (0, 0))) := by
    have q0 : (#[t0, t1] : Array TypeId)[0]? = some t0 := rfl
    have q2 : (#[Value.slice (some ⟨b, off, none⟩) dl dc, .slice (some ⟨b2, off2, none⟩) sl sc] : Array Value)[0]? = some (.slice (some ⟨b, off, none⟩) dl dc) := rfl
    have q3 : (#[Value.slice (some ⟨b, off, none⟩) dl dc, .slice (some ⟨b2, off2, none⟩) sl sc] : Array Value)[1]? = some (.slice (some ⟨b2, off2, none⟩) sl sc) := rfl
    unfold Builtin.copy_
    simp only [q0, q2, q3]
    rw [Sem.run_bind, run_underlying hu]
    simp only [Result.andThen_ok]
    rw [Sem.run_bind, show (Builtin.lenOf (.slice (some ⟨b2, off2, none⟩) sl sc)).run P w = .ok sl w from rfl]
    simp only [Result.andThen_ok]
    rw [Sem.run_bind, run_sizeOf hz]
    simp only [Result.andThen_ok, Sem.run_bind, Builtin.firstCells]
    rw [show Nat.min sl dl * m = min sl dl * m from rfl, h1]
    simp only [Result.andThen_ok, h2, Sem.run_pure]
    rfl
  simp only [execOp, resolve, Sem.run_bind, Sem.run_pure, Result.andThen_ok, invoke, List.map_toArray, hev, builtin]
  rw [show (#[Value.slice (some ⟨b, off, none⟩) dl dc, .slice (some ⟨b2, off2, none⟩) sl sc] : Array Value) = [Value.slice (some ⟨b, off, none⟩) dl dc, .slice (some ⟨b2, off2, none⟩) sl sc].toArray from rfl] at hr
  rw [hr]
  rfl
theorem y_lenV {sz m e : Nat} {gs : Option SlG} {xs : List Value} {tys : Array TypeId} (hok : slOk sz gs m xs) (hx : ev E x = some (slV gs m)) (h0 : tys[0]? = some t) (hu : P.underlying t = some (.slice e)) :
    YV P n E W (.call { callee := .builtin .len, args := [x].toArray, argTypes := tys }) ty (.int .i64 m) := by
  cases gs with
  | none => obtain rfl : m = 0 := hok.2; exact y_lenS hx h0 hu
  | some g => exact y_lenS hx h0 hu
theorem spl_all {l vs : List Value} (h : l.length = vs.length) : spl l 0 vs = vs := by
  rw [spl_eq vs l 0 (by omega)]
  simp [h]
/-- A store of a whole block. -/
theorem op_storeA {b m : Nat} {v : Value} {vs l : List Value} {T : TypeId} (s j : Nat) (hx : ev E x = some (.pointer (some ⟨b, 0, none⟩))) (hy : ev E y = some v) (hv : v.cells = vs.toArray) (hz : szT P t = some m) (hm : vs.length = m)
    (hH : getH H s j = some (b, .cells l.toArray T)) (ho : ∀ v ∈ vs, one v = true) (hlen : l.length = m) (k : K E (setH H s j (.cells vs.toArray T))) :
    OpW P n w0 Q ⟨none, .store t x y, ty, ps, af, g⟩ E H K :=
  op_store s j hx hy hv hz hm hH ho (by omega) (by rw [spl_all (by omega)]; exact k)
theorem bs_whole (u : List UInt8) {k : Nat} (h : u.length = k) : (bs u).take k = bs u := List.take_of_length_le (by rw [bs_length]; omega)
theorem bs_whole0 (u : List UInt8) {k : Nat} (h : u.length = k) : ((bs u).drop 0).take k = bs u := by rw [List.drop_zero, bs_whole u h]
theorem ret_bool {b b' : Bool} (h : b = b') : Ending.returned (.bool b) = .returned (.bool b') := by rw [h]
theorem ret_int {k : IntKind} {b b' : Int} (h : b = b') : Ending.returned (.int k b) = .returned (.int k b') := by rw [h]
/-- What a slice holds. -/
def Holds (w0 : World) (H : Hp) (a : Option Addr) (vs : List Value) : Prop :=
  0 < vs.length → ∃ (b off : Nat) (l : List Value) (T : TypeId) (fr : Nat × Nat), a = some ⟨b, off, none⟩ ∧ Sees (fun w => St w0 w H) b (.cells l.toArray T fr) ∧ off + vs.length ≤ l.length ∧ (l.drop off).take vs.length = vs
theorem Holds.sub {H' : Hp} {a : Option Addr} {vs : List Value} (h : Holds w0 H' a vs) (hs : HSub H' H) : Holds w0 H a vs := fun hp => by
  obtain ⟨b, off, l, T, fr, h1, h2, h3, h4⟩ := h hp
  exact ⟨b, off, l, T, fr, h1, h2.sub hs, h3, h4⟩
theorem Holds.up {a : Option Addr} {vs : List Value} {X : List (Nat × Obj)} (h : Holds w0 H a vs) : Holds w0 (X :: H) a vs := h.sub (HSub.drop _ _)
theorem holds_sl {sz e s len : Nat} {g : Option SlG} {vs : List Value} (hs : H[s]? = some (slSeg e g vs)) (hok : slOk sz g len vs) : ∃ a cap, slV g len = .slice a len cap ∧ Holds w0 H a vs := by
  cases g with
  | none =>
    obtain ⟨h1, rfl⟩ := hok
    exact ⟨none, 0, rfl, fun hp => by rw [Nat.zero_mul] at h1; omega⟩
  | some g =>
    refine ⟨_, _, rfl, fun hp => ⟨g.b, 0, vs ++ g.sp, e, (0, 0), rfl, ?_, by simp, by simp⟩⟩
    exact sees_mem (List.mem_flatten.2 ⟨_, List.mem_of_getElem? hs, by simp [slSeg]⟩)
theorem holds_slice {b off : Nat} {l vs : List Value} {T : TypeId} {fr : Nat × Nat} (hs : Sees (fun w => St w0 w H) b (.cells l.toArray T fr)) (hl : off + vs.length ≤ l.length) (hv : (l.drop off).take vs.length = vs) : Holds w0 H (some ⟨b, off, none⟩) vs :=
  fun _ => ⟨b, off, l, T, fr, rfl, hs, hl, hv⟩
theorem hsub_nil1 {a : List (Nat × Obj)} {r : Hp} : HSub (a :: [] :: r) (a :: r) := hsub_flat rfl
theorem hsub_nil2 {a b : List (Nat × Obj)} {r : Hp} : HSub (a :: b :: [] :: r) (a :: b :: r) := hsub_flat rfl
end Go.Sl

/- Interfaces, methods called through them, strings told as bytes, and maps of numbers to true (own work). -/
set_option linter.unusedVariables false
set_option linter.unusedSimpArgs false
namespace Go.Sl
variable {P : Program} {n : FN} {w0 : World} {Q : Post} {E E' : Env} {H H' HS : Hp} {W : World → Prop} {K : Env → Hp → Prop}
variable {d : Option Nat} {ty t t2 : Nat} {ps : String} {af : Array Edge} {g : Option (Nat × Bool)} {x y c : Operand}
/-! ### Interfaces -/
def concT (P : Program) (t : TypeId) : Bool := match P.underlying t with | some (.interface _) => false | some _ => true | none => false
def ifcT (P : Program) (t : TypeId) : Bool := match P.underlying t with | some (.interface _) => true | _ => false
theorem run_eq_ifnil {u : Nat} {v : Value} (h : ifcT P t = true) (w : World) : (Op.equal t (.iface u v) .nilIface).run P w = .ok false w := by
  unfold ifcT at h
  cases hu : P.underlying t with
  | none => simp [hu] at h
  | some d =>
    cases d <;> simp [hu] at h
    rename_i ms
    have key : ∀ k, (Op.equalIn (k + 1) t (.iface u v) .nilIface).run P w = .ok false w := by
      intro k
      simp only [Op.equalIn, Sem.run_bind, run_underlying hu, Result.andThen_ok]
      rfl
    exact key 9999
/-! ### Methods -/
def methT (P : Program) (t : TypeId) (name : String) : Option (FuncId × Bool) := ((P.info? t).bind fun i => i.methods.find? (·.name == name)).bind fun m => if m.path.isEmpty then m.func else none
/-- Is the receiver handed on as it is? -/
def recvT (P : Program) (t : TypeId) (p : Bool) : Bool := match P.underlying t, p with
  | some (.pointer _), p => p
  | some _, p => !p
  | none, _ => false
theorem run_method {f k : Nat} {b : Bool} {name : String} {v : Value} (h : methT P t name = some (f, b)) (hr : recvT P t b = true) (w : World) : (method (k + 1) t v name).run P w = .ok (f, v) w := by
  unfold methT at h
  cases hi : P.info? t with
  | none => simp [hi] at h
  | some i =>
    simp only [hi, Option.bind_some] at h
    cases hm : i.methods.find? (·.name == name) with
    | none => simp [hm] at h
    | some m =>
      simp only [hm, Option.bind_some] at h
      split at h
      case isFalse => cases h
      rename_i he
      have hp : m.path.toList = [] := by simpa using he
      have hti : (typeInfo t).run P w = .ok i w := by simp [typeInfo, hi]
      unfold method
      rw [Sem.run_bind, hti]
      simp only [Result.andThen_ok, hm, hp, follow, Sem.run_bind, Sem.run_pure, h]
      unfold recvT at hr
      cases hu : P.underlying t with
      | none => simp [hu] at hr
      | some u =>
        unfold receiverAt
        rw [Sem.run_bind, run_underlying hu]
        simp only [Result.andThen_ok]
        cases u <;> cases b <;> simp_all [Place.get]
theorem run_nilAhead {f k : Nat} {b : Bool} {name : String} {v : Value} (h : methT P t name = some (f, b)) (hr : recvT P t b = true) (w : World) : (nilAhead (k + 1) t v name).run P w = .ok (some false) w := by
  unfold methT at h
  cases hi : P.info? t with
  | none => simp [hi] at h
  | some i =>
    simp only [hi, Option.bind_some] at h
    cases hm : i.methods.find? (·.name == name) with
    | none => simp [hm] at h
    | some m =>
      simp only [hm, Option.bind_some] at h
      split at h
      case isFalse => cases h
      rename_i he
      have hp : m.path.toList = [] := by simpa using he
      have hti : (typeInfo t).run P w = .ok i w := by simp [typeInfo, hi]
      unfold nilAhead
      rw [Sem.run_bind, hti]
      simp only [Result.andThen_ok, hm, hp, followBlind, Sem.run_bind, Sem.run_pure, h]
      unfold recvT at hr
      cases hu : P.underlying t with
      | none => simp [hu] at hr
      | some u =>
        cases b
        · simp only [Sem.run_bind, run_underlying hu, Result.andThen_ok]
          cases u <;> simp_all
        · simp
theorem y_nilCheckM {name : String} {u f : Nat} {b : Bool} {v : Value} {cap : Array Value} (hx : ev E x = some (.func (.method name) #[.iface u v] cap)) (h : methT P u name = some (f, b)) (hr : recvT P u b = true) :
    YV P n E W (.nilCheck x) ty (.func (.method name) #[.iface u v] cap) := fun a w ha _ d ps af g => by
  have hp : (program).run P w = .ok P w := rfl
  have e3 : (#[Value.iface u v] : Array Value)[0]? = some (.iface u v) := rfl
  simp only [execOp, ha.eval hx, e3, Sem.run_bind, hp, Result.andThen_ok]
  rw [show P.types.size + Made.depth = (P.types.size + 99) + 1 from rfl, run_nilAhead h hr]
  rfl
theorem y_eqIf {u : Nat} {v : Value} (hx : ev E x = some (.iface u v)) (hy : ev E y = some .nilIface) (h : ifcT P t = true) : YV P n E W (.binOp .eql t x y t2) ty (.bool false) := fun a w ha _ d ps af g => by
  have h1 := run_eq_ifnil (u := u) (v := v) h w
  simp only [execOp, ha.eval hx, ha.eval hy, eqGuard_at_iface, binOp]
  simp [h1]
theorem run_eq_fn {ps rs : Array TypeId} {vr : Bool} (hu : P.underlying t = some (.func ps rs vr)) (f : Fn) (a c : Array Value) (w : World) : (Op.equal t (.func f a c) .nilFunc).run P w = .ok false w := by
  have key : ∀ k, (Op.equalIn (k + 1) t (.func f a c) .nilFunc).run P w = .ok false w := by
    intro k
    simp only [Op.equalIn, Sem.run_bind, run_underlying hu, Result.andThen_ok]
    rfl
  exact key 9999
theorem run_eq_fn0 {ps rs : Array TypeId} {vr : Bool} (hu : P.underlying t = some (.func ps rs vr)) (w : World) : (Op.equal t .nilFunc .nilFunc).run P w = .ok true w := by
  have key : ∀ k, (Op.equalIn (k + 1) t .nilFunc .nilFunc).run P w = .ok true w := by
    intro k
    simp only [Op.equalIn, Sem.run_bind, run_underlying hu, Result.andThen_ok]
    rfl
  exact key 9999
theorem y_eqfn {pp rs : Array TypeId} {vr : Bool} {f : Fn} {p c : Array Value} (hx : ev E x = some (.func f p c)) (hy : ev E y = some .nilFunc) (hu : P.underlying t = some (.func pp rs vr)) : YV P n E W (.binOp .eql t x y t2) ty (.bool false) := fun a w ha _ d ps af g => by
  have h1 := run_eq_fn hu f p c w
  simp only [execOp, ha.eval hx, ha.eval hy, eqGuard_at_func, binOp]
  simp [h1]
theorem y_nefn {pp rs : Array TypeId} {vr : Bool} {f : Fn} {p c : Array Value} (hx : ev E x = some (.func f p c)) (hy : ev E y = some .nilFunc) (hu : P.underlying t = some (.func pp rs vr)) : YV P n E W (.binOp .neq t x y t2) ty (.bool true) := fun a w ha _ d ps af g => by
  have h1 := run_eq_fn hu f p c w
  simp only [execOp, ha.eval hx, ha.eval hy, eqGuard_at_func, binOp]
  simp [h1]
theorem y_nefn0 {pp rs : Array TypeId} {vr : Bool} (hx : ev E x = some .nilFunc) (hy : ev E y = some .nilFunc) (hu : P.underlying t = some (.func pp rs vr)) : YV P n E W (.binOp .neq t x y t2) ty (.bool false) := fun a w ha _ d ps af g => by
  have h1 := run_eq_fn0 hu w
  simp only [execOp, ha.eval hx, ha.eval hy, eqGuard_at_nilFunc, binOp]
  simp [h1]
theorem op_invoke {f u : Nat} {b : Bool} {ce : Operand} {name : String} {v : Value} {args : List Operand} {vs : List Value} {tys : Array TypeId} (hf : ev E ce = some (.iface u v)) (hargs : args.mapM (ev E) = some vs)
    (hm : methT P u name = some (f, b)) (hr : recvT P u b = true) (hc : ∀ args w, (callFunc f args).run P w = .ok (.enter f args) w) (hd : dok d n = true)
    (h : FnS P w0 f (v :: vs).toArray H fun e H' => ∃ v, e = .returned v ∧ K (put E d v) H') :
    OpW P n w0 Q ⟨d, .call { callee := .invoke ce name, args := args.toArray, argTypes := tys }, ty, ps, af, g⟩ E H K := fun a w ha hw next hn => by
  unfold Oper.wp
  have e1 := evals ha hargs
  have e2 := ha.eval hf
  have hr : (execOp a.eval ⟨d, .call { callee := .invoke ce name, args := args.toArray, argTypes := tys }, ty, ps, af, g⟩).run P w = .ok (.enter f (v :: vs).toArray) w := by
    have hp : (program).run P w = .ok P w := rfl
    have e3 : (#[Value.iface u v] ++ vs.toArray)[0]? = some (.iface u v) := by simp
    have e4 : (#[Value.iface u v] ++ vs.toArray).extract 1 (#[Value.iface u v] ++ vs.toArray).size = vs.toArray := by
      apply Array.ext'
      simp
    simp only [execOp, resolve, Sem.run_bind, e2, Sem.run_pure, Result.andThen_ok, invoke, List.map_toArray, e1, e3, e4, callMethod, hp]
    rw [show P.types.size + Made.depth = (P.types.size + 99) + 1 from rfl, run_method hm hr]
    simp only [Result.andThen_ok, hc]
    simp
  rw [hr]
  refine (h w hw).mono ?_
  rintro e w' ⟨H', s, v, rfl, k⟩
  exact hn _ _ _ _ (ha.put hd v) s k
/-! ### Strings told as bytes -/
theorem y_sliceA2 {e m len b off : Nat} {k k' : IntKind} {lo hi : Int} {r q q' : Nat} (hx : ev E x = some (.pointer (some ⟨b, off, none⟩))) (hy : ev E y = some (.int k lo)) (hc : ev E c = some (.int k' hi))
    (hu : P.underlying t = some (.array len e)) (hz : szT P e = some m) (h0 : 0 ≤ lo) (h1 : lo ≤ hi) (h2 : hi ≤ len) (hr : (if len = lo.toNat then off else off + lo.toNat * m) = r) (hq : hi.toNat - lo.toNat = q) (hq' : len - lo.toNat = q') :
    YV P n E W (.slice t x (some y) (some c) none) ty (.slice (some ⟨b, r, none⟩) q q') := by
  subst hq; subst hq'
  exact y_sliceA hx hy hc hu hz h0 h1 h2 hr
/-! ### A copy from whatever may be read -/
theorem op_copyS {e m b off dl dc sl : Nat} {l vs : List Value} {v : Value} {T : TypeId} {t0 t1 : TypeId} (s j : Nat) (hx : ev E x = some (.slice (some ⟨b, off, none⟩) dl dc)) (hy : ev E y = some v)
    (hu : P.underlying t0 = some (.slice e)) (hz : szT P e = some m) (hs : Src P w0 H m v sl vs) (hle : sl ≤ dl) (hvl : vs.length = sl * m)
    (hH : getH H s j = some (b, .cells l.toArray T)) (ho : ∀ v ∈ vs, one v = true) (hlen : off + sl * m ≤ l.length) (hd : dok d n = true)
    (k : K (put E d (.int .i64 (sl : Int))) (setH H s j (.cells (spl l off vs).toArray T))) :
    OpW P n w0 Q ⟨d, .call { callee := .builtin .copy, args := [x, y].toArray, argTypes := #[t0, t1] }, ty, ps, af, g⟩ E H K := op_run hd fun a w ha hw => by
  have h : w.heap[b]? = some (.cells l.toArray T (0, 0)) := hw.has _ (getH_mem hH)
  refine ⟨_, _, _, ?_, hw.putB hH _, k⟩
  obtain ⟨h0, h1⟩ := hs w hw
  have h2 := run_storeCells' (P := P) h ho (off := off) (by omega)
  have hev := evals (n := n) (E := E) ha (l := [x, y]) (vs := [.slice (some ⟨b, off, none⟩) dl dc, v]) (by simp [hx, hy])
  have hr : (Builtin.copy_ #[t0, t1] ty #[.slice (some ⟨b, off, none⟩) dl dc, v]).run P w = .ok (.int .i64 (sl : Int)) (putB w b (.cells (spl l off vs).toArray T (0, 0))) := by
    have q0 : (#[t0, t1] : Array TypeId)[0]? = some t0 := rfl
    have q2 : (#[Value.slice (some ⟨b, off, none⟩) dl dc, v] : Array Value)[0]? = some (.slice (some ⟨b, off, none⟩) dl dc) := rfl
    have q3 : (#[Value.slice (some ⟨b, off, none⟩) dl dc, v] : Array Value)[1]? = some v := rfl
    unfold Builtin.copy_
    simp only [q0, q2, q3]
    rw [Sem.run_bind, run_underlying hu]
    simp only [Result.andThen_ok]
    rw [Sem.run_bind, h0]
    simp only [Result.andThen_ok]
    rw [Sem.run_bind, run_sizeOf hz]
    simp only [Result.andThen_ok, Sem.run_bind]
    rw [show Nat.min sl dl = sl from Nat.min_eq_left hle, h1]
    simp only [Result.andThen_ok, h2, Sem.run_pure]
    rfl
  simp only [execOp, resolve, Sem.run_bind, Sem.run_pure, Result.andThen_ok, invoke, List.map_toArray, hev, builtin]
  rw [show (#[Value.slice (some ⟨b, off, none⟩) dl dc, v] : Array Value) = [Value.slice (some ⟨b, off, none⟩) dl dc, v].toArray from rfl] at hr
  rw [hr]
  rfl
theorem src_holds {sz n cap : Nat} {a : Option Addr} {vs : List Value} (hp : P = P) (h : Holds w0 H a vs) (hl : vs.length = n * sz) (hn : a = none → n = 0) : Src P w0 H sz (.slice a n cap) n vs := by
  cases a with
  | none =>
    have := hn rfl
    subst this
    have : vs = [] := List.eq_nil_of_length_eq_zero (by omega)
    subst this
    exact src_nil
  | some x =>
    by_cases h0 : 0 < vs.length
    · obtain ⟨b, off, l, T, fr, e, h1, h2, h3⟩ := h h0
      cases e
      exact src_slice h1 (by omega) (by rw [← hl]; exact h3)
    · have : vs = [] := List.eq_nil_of_length_eq_zero (by omega)
      subst this
      intro w hw
      refine ⟨rfl, ?_⟩
      have hz : n * sz = 0 := by simpa using hl.symm
      simp only [Builtin.firstCells, hz]
      exact run_loadCells_list (P := P) w x [] (fun j v hj => by simp at hj)
theorem src_bytes {n cap : Nat} {a : Option Addr} {u : List UInt8} (h : Holds w0 H a (bs u)) (hl : u.length = n) : Src P w0 H 1 (.slice a n cap) n (bs u) := by
  subst hl
  refine src_holds rfl h (by rw [bs_length, Nat.mul_one]) fun e => ?_
  subst e
  rcases Nat.eq_zero_or_pos u.length with h0 | h0
  · exact h0
  · obtain ⟨b, off, l, T, fr, e, _⟩ := h (by rw [bs_length]; exact h0)
    cases e
theorem holds_bytes {b off T : Nat} {fr : Nat × Nat} {l : List Value} {u : List UInt8} (hs : Sees (fun w => St w0 w H) b (.cells l.toArray T fr)) (hv : (l.drop off).take u.length = bs u) : Holds w0 H (some ⟨b, off, none⟩) (bs u) := fun h0 => by
  have h2 : ((l.drop off).take u.length).length = u.length := by rw [hv, bs_length]
  rw [List.length_take, List.length_drop] at h2
  rw [bs_length] at h0
  exact ⟨b, off, l, T, fr, rfl, hs, by rw [bs_length]; omega, by rw [bs_length]; exact hv⟩
/-- A slice value that holds bytes. -/
def SlH (w0 : World) (H : Hp) (v : Value) (u : List UInt8) : Prop := ∃ a cap, v = .slice a u.length cap ∧ Holds w0 H a (bs u)
theorem slh_v {g : Option SlG} {n e : Nat} {u : List UInt8} (k : Nat) (hs : H[k]? = some (slSeg e g (bs u))) (hok : slOk 1 g n (bs u)) (hn : u.length = n) : SlH w0 H (slV g n) u := by
  subst hn
  obtain ⟨a, cap, e1, h1⟩ := holds_sl (w0 := w0) hs hok
  exact ⟨a, cap, e1, h1⟩
theorem SlH.len {v : Value} {u : List UInt8} (h : SlH w0 H v u) : ∃ a cap, v = .slice a u.length cap := by
  obtain ⟨a, cap, e, _⟩ := h
  exact ⟨a, cap, e⟩
/-! ### Maps of numbers to true -/
def me (x : Int × Nat) : MapEntry := { key := .int .i64 x.1, val := .bool true, born := x.2 }
abbrev mapO (ks : List (Int × Nat)) (c : Nat) : Obj := .map (ks.map me).toArray c
def kHas (ks : List (Int × Nat)) (k : Int) : Bool := ks.any (·.1 == k)
def kPut (ks : List (Int × Nat)) (c : Nat) (k : Int) : List (Int × Nat) := if kHas ks k then ks else ks ++ [(k, c)]
def kClk (ks : List (Int × Nat)) (c : Nat) (k : Int) : Nat := if kHas ks k then c else c + 1
def kDel (ks : List (Int × Nat)) (k : Int) : List (Int × Nat) := match ks.findIdx? (·.1 == k) with | some i => ks.eraseIdx i | none => ks
theorem findNow_me (k : Int) : ∀ (ks : List (Int × Nat)) (i : Nat), Instr.findNow (.int .i64) (.int .i64 k) (ks.map me) i = some ((ks.findIdx? (·.1 == k)).map fun j => (i + j, .bool true))
  | [], i => rfl
  | x :: ks, i => by
    rw [List.map_cons, Instr.findNow]
    simp only [me, Instr.sameNow, if_true]
    rw [List.findIdx?_cons]
    by_cases h : k = x.1
    · subst h; simp
    · rw [show (k == x.1) = false from by simpa using h, show (x.1 == k) = false from by simpa using Ne.symm h]
      simp only [Bool.false_eq_true, if_false]
      rw [findNow_me k ks (i + 1)]
      simp only [Option.map_map]
      congr 1
      congr 1
      funext j
      simp only [Function.comp]
      rw [show i + 1 + j = i + (j + 1) by omega]
theorem run_findKey {kt : Nat} (hk : P.underlying kt = some (.int .i64)) (ks : List (Int × Nat)) (k : Int) (w : World) :
    (Instr.findKey kt (.int .i64 k) (ks.map me)).run P w = .ok ((ks.findIdx? (·.1 == k)).map fun j => (j, .bool true)) w := by
  unfold Instr.findKey
  rw [Sem.run_bind, run_underlying hk]
  simp only [Result.andThen_ok]
  rw [findNow_me]
  simp
theorem run_checkKey {kt : Nat} (hk : P.underlying kt = some (.int .i64)) (b : Bool) (k : Int) (w : World) : (Instr.checkKey b 10000 kt (.int .i64 k)).run P w = .ok () w := by
  have key : ∀ m, (Instr.checkKey b (m + 1) kt (.int .i64 k)).run P w = .ok () w := by
    intro m
    unfold Instr.checkKey
    rw [Sem.run_bind, run_underlying hk]
    rfl
  exact key 9999
theorem has_idx (ks : List (Int × Nat)) (k : Int) : kHas ks k = (ks.findIdx? (·.1 == k)).isSome := by
  simp [kHas, List.findIdx?_isSome]
theorem run_getMap {r : Nat} {es : Array MapEntry} {ck : Nat} {w : World} (h : w.heap[r]? = some (.map es ck)) : (getObj r).run P w = .ok (.map es ck) w := by
  simp only [getObj, Sem.run, h]
theorem run_setMap {r : Nat} {es : Array MapEntry} {ck : Nat} {w : World} (h : w.heap[r]? = some (.map es ck)) (o : Obj) : (setObj r o).run P w = .ok () (putB w r o) := by
  simp [setObj, Sem.run, h, putB]
theorem y_lookup {kt et r ck : Nat} {ks : List (Int × Nat)} {k : Int} (hx : ev E x = some (.map (some r))) (hy : ev E y = some (.int .i64 k)) (hu : P.underlying t = some (.map kt et)) (hk : P.underlying kt = some (.int .i64)) (hz : zeroT P et = some (.bool false)) (hs : Sees W r (mapO ks ck)) :
    YV P n E W (.lookup t x y false) ty (.bool (kHas ks k)) := fun a w ha hw d ps af g => by
  have h := run_getMap (P := P) (hs w hw)
  have hr : (Instr.lookup t (.map (some r)) (.int .i64 k) false).run P w = .ok (.bool (kHas ks k)) w := by
    unfold Instr.lookup
    rw [Sem.run_bind, run_underlying hu]
    simp only [Result.andThen_ok, Sem.run_bind, h, Sem.run_pure, run_checkKey hk, run_findKey hk]
    rw [has_idx]
    cases hi : ks.findIdx? (·.1 == k) with
    | none => simp [run_zeroValue hz]
    | some i => simp
  simp only [execOp, ha.eval hx, ha.eval hy]
  rw [Sem.run_bind, hr]
  rfl
theorem op_makeMap (hd : dok d n = true) (k : ∀ b, K (put E d (.map (some b))) ([(b, mapO [] 0)] :: H)) : OpW P n w0 Q ⟨d, .makeMap t none, ty, ps, af, g⟩ E H K := op_run hd fun a w ha hw => by
  refine ⟨.map (some w.heap.size), w.alloc (.map #[] 0), _, ?_, hw.alloc _, k _⟩
  rfl
theorem modify_same {ks : List (Int × Nat)} {k : Int} {i : Nat} (h : ks.findIdx? (·.1 == k) = some i) (e : MapEntry → MapEntry) (he : ∀ b, e (me (k, b)) = me (k, b)) : (ks.map me).toArray.modify i e = (ks.map me).toArray := by
  obtain ⟨hi, hp, _⟩ := List.findIdx?_eq_some_iff_getElem.1 h
  apply Array.ext
  · simp
  · intro j h1 h2
    rw [Array.getElem_modify]
    split
    · rename_i e2
      subst e2
      have : ks[i] = (k, (ks[i]).2) := by
        have : (ks[i]).1 = k := by simpa using hp
        rw [← this]
      simp only [List.getElem_toArray, List.getElem_map]
      rw [this]
      exact he _
    · rfl
theorem op_mapUpdate {kt et r ck : Nat} {ks : List (Int × Nat)} {k : Int} {v : Operand} (s j : Nat) (hx : ev E x = some (.map (some r))) (hy : ev E y = some (.int .i64 k)) (hv : ev E v = some (.bool true)) (hu : P.underlying t = some (.map kt et)) (hk : P.underlying kt = some (.int .i64))
    (hH : getH H s j = some (r, mapO ks ck)) (hd : dok d n = true) (kk : K (put E d undef) (setH H s j (mapO (kPut ks ck k) (kClk ks ck k)))) :
    OpW P n w0 Q ⟨d, .mapUpdate t x y v, ty, ps, af, g⟩ E H K := op_runs hd fun a w ha hw => by
  have h := hw.has _ (getH_mem hH)
  have hg := run_getMap (P := P) h
  refine ⟨_, _, ?_, hw.putB hH _, kk⟩
  have hset : ∀ o, (setObj r o).run P w = .ok () (putB w r o) := fun o => run_setMap h o
  have hr : (Instr.mapUpdate t (.map (some r)) (.int .i64 k) (.bool true)).run P w = .ok () (putB w r (mapO (kPut ks ck k) (kClk ks ck k))) := by
    unfold Instr.mapUpdate
    rw [Sem.run_bind, run_underlying hu]
    simp only [Result.andThen_ok, Sem.run_bind, hg, run_checkKey hk, run_findKey hk]
    cases hi : ks.findIdx? (·.1 == k) with
    | none =>
      have hf : kHas ks k = false := by rw [has_idx, hi]; rfl
      simp only [Option.map_none, hset, kPut, kClk, hf, Bool.false_eq_true, if_false]
      congr 2
      simp [me]
    | some i =>
      have hf : kHas ks k = true := by rw [has_idx, hi]; rfl
      obtain ⟨hlt, hp, _⟩ := List.findIdx?_eq_some_iff_getElem.1 hi
      have hke : (ks[i]).1 = k := by simpa using hp
      have hkey : ((((ks.map me).toArray[i]?).map (·.key)).getD (Value.int .i64 k)) = .int .i64 k := by
        simp [hlt, me, hke]
      simp only [Option.map_some, Sem.run_bind, hkey, Instr.keyThatStays]
      rw [show Instr.sameBits 10000 (Value.int .i64 k) (Value.int .i64 k) = true from by simp [Instr.sameBits]]
      simp only [if_true, Sem.run_pure, Result.andThen_ok, hset, kPut, kClk, hf]
      congr 2
      rw [modify_same hi]
      intro b; rfl
  simp only [execOp, ha.eval hx, ha.eval hy, ha.eval hv]
  rw [Sem.run_bind, hr]
  rfl
theorem map_eraseIdx {α β : Type} (f : α → β) : ∀ (l : List α) (i : Nat), (l.map f).eraseIdx i = (l.eraseIdx i).map f
  | [], _ => rfl
  | _ :: _, 0 => rfl
  | a :: l, i + 1 => by simp [map_eraseIdx f l i]
theorem op_delete {kt et r ck : Nat} {ks : List (Int × Nat)} {k : Int} {t0 : TypeId} {tys : Array TypeId} (s j : Nat) (hx : ev E x = some (.map (some r))) (hy : ev E y = some (.int .i64 k)) (h0 : tys[0]? = some t0) (hu : P.underlying t0 = some (.map kt et)) (hk : P.underlying kt = some (.int .i64))
    (hH : getH H s j = some (r, mapO ks ck)) (hd : dok d n = true) (kk : K (put E d (.tuple #[])) (setH H s j (mapO (kDel ks k) ck))) :
    OpW P n w0 Q ⟨d, .call { callee := .builtin .delete, args := [x, y].toArray, argTypes := tys }, ty, ps, af, g⟩ E H K := op_run hd fun a w ha hw => by
  have h := hw.has _ (getH_mem hH)
  have hg := run_getMap (P := P) h
  have hset : ∀ o, (setObj r o).run P w = .ok () (putB w r o) := fun o => run_setMap h o
  refine ⟨_, _, _, ?_, hw.putB hH _, kk⟩
  have hev := evals (n := n) (E := E) ha (l := [x, y]) (vs := [.map (some r), .int .i64 k]) (by simp [hx, hy])
  have hr : (Builtin.delete_ tys ty #[.map (some r), .int .i64 k]).run P w = .ok (.tuple #[]) (putB w r (mapO (kDel ks k) ck)) := by
    have q1 : (#[Value.map (some r), .int .i64 k] : Array Value)[0]? = some (.map (some r)) := rfl
    have q2 : (#[Value.map (some r), .int .i64 k] : Array Value)[1]? = some (.int .i64 k) := rfl
    unfold Builtin.delete_
    simp only [h0, q1, q2]
    rw [Sem.run_bind, run_underlying hu]
    simp only [Result.andThen_ok, Sem.run_bind, hg, run_checkKey hk, run_findKey hk]
    cases hi : ks.findIdx? (·.1 == k) with
    | none => simp only [Option.map_none, Sem.run_bind, hset, kDel, hi, Result.andThen_ok, Sem.run_pure]
    | some i =>
      obtain ⟨hlt, _⟩ := List.findIdx?_eq_some_iff_getElem.1 hi
      have he : ((ks.map me).toArray.eraseIdxIfInBounds i) = (List.map me (ks.eraseIdx i)).toArray := by
        simp [Array.eraseIdxIfInBounds, hlt, map_eraseIdx]
      simp only [Option.map_some, Sem.run_bind, he, hset, kDel, hi, Result.andThen_ok, Sem.run_pure]
  simp only [execOp, resolve, Sem.run_bind, Sem.run_pure, Result.andThen_ok, invoke, List.map_toArray, hev, builtin]
  rw [show ([Value.map (some r), .int .i64 k].toArray) = #[Value.map (some r), .int .i64 k] from rfl, hr]
  rfl
end Go.Sl

/- Facts of the translation's types, for the kernel (own work, by a program of this repo). -/
namespace Go.Proofs.Ytighbhplfjjgpaa
open Go.Sl
theorem ag_1 : isAggT Try.prog 1 = some false := by kernel_rfl
theorem ag_103 : isAggT Try.prog 103 = some false := by kernel_rfl
theorem ag_106 : isAggT Try.prog 106 = some false := by kernel_rfl
theorem ag_108 : isAggT Try.prog 108 = some true := by kernel_rfl
theorem ag_114 : isAggT Try.prog 114 = some true := by kernel_rfl
theorem ag_130 : isAggT Try.prog 130 = some true := by kernel_rfl
theorem ag_137 : isAggT Try.prog 137 = some true := by kernel_rfl
theorem ag_23 : isAggT Try.prog 23 = some true := by kernel_rfl
theorem ag_27 : isAggT Try.prog 27 = some false := by kernel_rfl
theorem ag_3 : isAggT Try.prog 3 = some false := by kernel_rfl
theorem ag_33 : isAggT Try.prog 33 = some false := by kernel_rfl
theorem ag_35 : isAggT Try.prog 35 = some true := by kernel_rfl
theorem ag_4 : isAggT Try.prog 4 = some false := by kernel_rfl
theorem ag_48 : isAggT Try.prog 48 = some false := by kernel_rfl
theorem ag_5 : isAggT Try.prog 5 = some false := by kernel_rfl
theorem ag_52 : isAggT Try.prog 52 = some false := by kernel_rfl
theorem ag_54 : isAggT Try.prog 54 = some false := by kernel_rfl
theorem ag_56 : isAggT Try.prog 56 = some false := by kernel_rfl
theorem ag_59 : isAggT Try.prog 59 = some false := by kernel_rfl
theorem ag_61 : isAggT Try.prog 61 = some false := by kernel_rfl
theorem ag_64 : isAggT Try.prog 64 = some true := by kernel_rfl
theorem ag_95 : isAggT Try.prog 95 = some false := by kernel_rfl
theorem ag_98 : isAggT Try.prog 98 = some false := by kernel_rfl
theorem ag_99 : isAggT Try.prog 99 = some false := by kernel_rfl
theorem by_1 : byT Try.prog 1 = some 8 := by kernel_rfl
theorem by_114 : byT Try.prog 114 = some 128 := by kernel_rfl
theorem by_130 : byT Try.prog 130 = some 136 := by kernel_rfl
theorem by_3 : byT Try.prog 3 = some 8 := by kernel_rfl
theorem by_48 : byT Try.prog 48 = some 8 := by kernel_rfl
theorem by_5 : byT Try.prog 5 = some 1 := by kernel_rfl
theorem eg_114 : Try.prog.eqGuardType Try.prog.depth 114 = false := by kernel_rfl
theorem fl_101_0 : fldT Try.prog 101 0 = some 0 := by kernel_rfl
theorem fl_101_1 : fldT Try.prog 101 1 = some 1 := by kernel_rfl
theorem fl_101_2 : fldT Try.prog 101 2 = some 2 := by kernel_rfl
theorem fl_101_3 : fldT Try.prog 101 3 = some 3 := by kernel_rfl
theorem fl_101_4 : fldT Try.prog 101 4 = some 4 := by kernel_rfl
theorem fl_101_6 : fldT Try.prog 101 6 = some 6 := by kernel_rfl
theorem fl_105_0 : fldT Try.prog 105 0 = some 0 := by kernel_rfl
theorem fl_105_1 : fldT Try.prog 105 1 = some 1 := by kernel_rfl
theorem fl_105_2 : fldT Try.prog 105 2 = some 2 := by kernel_rfl
theorem fl_105_3 : fldT Try.prog 105 3 = some 4 := by kernel_rfl
theorem fl_105_4 : fldT Try.prog 105 4 = some 5 := by kernel_rfl
theorem fl_105_5 : fldT Try.prog 105 5 = some 6 := by kernel_rfl
theorem fl_105_6 : fldT Try.prog 105 6 = some 7 := by kernel_rfl
theorem fl_108_0 : fldT Try.prog 108 0 = some 0 := by kernel_rfl
theorem fl_108_1 : fldT Try.prog 108 1 = some 1 := by kernel_rfl
theorem fl_111_0 : fldT Try.prog 111 0 = some 0 := by kernel_rfl
theorem fl_111_1 : fldT Try.prog 111 1 = some 4 := by kernel_rfl
theorem fl_111_2 : fldT Try.prog 111 2 = some 5 := by kernel_rfl
theorem fl_130_0 : fldT Try.prog 130 0 = some 0 := by kernel_rfl
theorem fl_130_1 : fldT Try.prog 130 1 = some 1 := by kernel_rfl
theorem fl_23_0 : fldT Try.prog 23 0 = some 0 := by kernel_rfl
theorem fl_23_1 : fldT Try.prog 23 1 = some 1 := by kernel_rfl
theorem fl_35_0 : fldT Try.prog 35 0 = some 0 := by kernel_rfl
theorem fl_35_1 : fldT Try.prog 35 1 = some 1 := by kernel_rfl
theorem fl_97_0 : fldT Try.prog 97 0 = some 0 := by kernel_rfl
theorem fl_97_1 : fldT Try.prog 97 1 = some 1 := by kernel_rfl
theorem fl_97_2 : fldT Try.prog 97 2 = some 2 := by kernel_rfl
theorem fl_97_3 : fldT Try.prog 97 3 = some 3 := by kernel_rfl
theorem if_103 : ifcT Try.prog 103 = true := by kernel_rfl
theorem me_67_Sum : methT Try.prog 67 "Sum" = some (121, false) := by kernel_rfl
theorem ni_145 : notIntT Try.prog 145 = true := by kernel_rfl
theorem ni_71 : notIntT Try.prog 71 = true := by kernel_rfl
theorem ni_95 : notIntT Try.prog 95 = true := by kernel_rfl
theorem ni_99 : notIntT Try.prog 99 = true := by kernel_rfl
theorem pl_101 : placesT Try.prog 101 = some [(0, 1), (1, 1), (2, 1), (3, 1), (4, 1), (5, 1), (6, 1)] := by kernel_rfl
theorem pl_105 : placesT Try.prog 105 = some [(0, 1), (1, 1), (2, 2), (4, 1), (5, 1), (6, 1), (7, 1)] := by kernel_rfl
theorem pl_108 : placesT Try.prog 108 = some [(0, 1), (1, 1)] := by kernel_rfl
theorem pl_111 : placesT Try.prog 111 = some [(0, 4), (4, 1), (5, 1)] := by kernel_rfl
theorem pl_130 : placesT Try.prog 130 = some [(0, 1), (1, 128)] := by kernel_rfl
theorem pl_23 : placesT Try.prog 23 = some [(0, 1), (1, 1)] := by kernel_rfl
theorem pl_67 : placesT Try.prog 67 = some [(0, 32), (32, 1), (33, 32)] := by kernel_rfl
theorem pl_97 : placesT Try.prog 97 = some [(0, 1), (1, 1), (2, 1), (3, 1)] := by kernel_rfl
theorem rc_67 : recvT Try.prog 67 false = true := by kernel_rfl
theorem sz_1 : szT Try.prog 1 = some 1 := by kernel_rfl
theorem sz_108 : szT Try.prog 108 = some 2 := by kernel_rfl
theorem sz_114 : szT Try.prog 114 = some 128 := by kernel_rfl
theorem sz_130 : szT Try.prog 130 = some 129 := by kernel_rfl
theorem sz_137 : szT Try.prog 137 = some 16 := by kernel_rfl
theorem sz_23 : szT Try.prog 23 = some 2 := by kernel_rfl
theorem sz_27 : szT Try.prog 27 = some 1 := by kernel_rfl
theorem sz_3 : szT Try.prog 3 = some 1 := by kernel_rfl
theorem sz_35 : szT Try.prog 35 = some 2 := by kernel_rfl
theorem sz_4 : szT Try.prog 4 = some 1 := by kernel_rfl
theorem sz_48 : szT Try.prog 48 = some 1 := by kernel_rfl
theorem sz_5 : szT Try.prog 5 = some 1 := by kernel_rfl
theorem sz_54 : szT Try.prog 54 = some 1 := by kernel_rfl
theorem sz_56 : szT Try.prog 56 = some 1 := by kernel_rfl
theorem sz_64 : szT Try.prog 64 = some 32 := by kernel_rfl
theorem sz_95 : szT Try.prog 95 = some 1 := by kernel_rfl
theorem sz_99 : szT Try.prog 99 = some 1 := by kernel_rfl
theorem us_3 : (Try.prog.underlying 3).isSome = true := by kernel_rfl
theorem us_48 : (Try.prog.underlying 48).isSome = true := by kernel_rfl
theorem us_5 : (Try.prog.underlying 5).isSome = true := by kernel_rfl
theorem zl_1 : zeroL Try.prog 1 = some ([.nilFunc]) := by kernel_rfl
theorem zl_101 : zeroL Try.prog 101 = some ([.pointer none, .slice none 0 0, .slice none 0 0, .int .i64 0, .int .i64 0, .bool false, .bool false]) := by kernel_rfl
theorem zl_105 : zeroL Try.prog 105 = some ([.pointer none, .nilIface] ++ [.int .i64 0, .int .i64 0] ++ [.slice none 0 0, .int .i64 0, .int .i64 0, .int .u64 0]) := by kernel_rfl
theorem zl_108 : zeroL Try.prog 108 = some ([.pointer none, .map none]) := by kernel_rfl
theorem zl_111 : zeroL Try.prog 111 = some (((List.replicate 2 (([.pointer none, .map none]))).flatten) ++ [.int .i64 0, .nilFunc]) := by kernel_rfl
theorem zl_114 : zeroL Try.prog 114 = some (List.replicate 128 (.int .u8 0)) := by kernel_rfl
theorem zl_130 : zeroL Try.prog 130 = some ([.int .i64 0] ++ (List.replicate 128 (.int .u8 0))) := by kernel_rfl
theorem zl_137 : zeroL Try.prog 137 = some (List.replicate 16 (.int .u8 0)) := by kernel_rfl
theorem zl_155 : zeroL Try.prog 155 = some (List.replicate 2 (.bool false)) := by kernel_rfl
theorem zl_23 : zeroL Try.prog 23 = some ([.int .i64 0, .int .i64 0]) := by kernel_rfl
theorem zl_27 : zeroL Try.prog 27 = some ([.int .i64 0]) := by kernel_rfl
theorem zl_3 : zeroL Try.prog 3 = some ([.int .i64 0]) := by kernel_rfl
theorem zl_35 : zeroL Try.prog 35 = some ([.int .i64 0, .slice none 0 0]) := by kernel_rfl
theorem zl_48 : zeroL Try.prog 48 = some ([.int .u64 0]) := by kernel_rfl
theorem zl_5 : zeroL Try.prog 5 = some ([.int .u8 0]) := by kernel_rfl
theorem zl_54 : zeroL Try.prog 54 = some ([.pointer none]) := by kernel_rfl
theorem zl_56 : zeroL Try.prog 56 = some ([.pointer none]) := by kernel_rfl
theorem zl_64 : zeroL Try.prog 64 = some (List.replicate 32 (.int .u8 0)) := by kernel_rfl
theorem zl_67 : zeroL Try.prog 67 = some ((List.replicate 32 (.int .u8 0)) ++ [.int .u64 0] ++ (List.replicate 32 (.int .u8 0))) := by kernel_rfl
theorem zl_97 : zeroL Try.prog 97 = some ([.bool false, .int .i64 0, .bool false, .slice none 0 0]) := by kernel_rfl
theorem zt_4 : zeroT Try.prog 4 = some (.bool false) := by kernel_rfl
end Go.Proofs.Ytighbhplfjjgpaa

/- Numbers as bytes, the highest first (own work): plain facts. -/
set_option linter.unusedVariables false
namespace Go.Sl
/-- The bytes of a number, so many. -/
def be (n k : Nat) : List UInt8 := (List.range k).map fun i => UInt8.ofNat (n / 256 ^ (k - 1 - i) % 256)
def val (l : List UInt8) : Nat := l.foldl (fun a b => a * 256 + b.toNat) 0
theorem be_length (n k : Nat) : (be n k).length = k := by simp [be]
theorem val_snoc (l : List UInt8) (b : UInt8) : val (l ++ [b]) = val l * 256 + b.toNat := by simp [val]
theorem val_lt (l : List UInt8) : val l < 256 ^ l.length := by
  suffices h : ∀ (l : List UInt8) (a : Nat), l.foldl (fun a b => a * 256 + b.toNat) a < (a + 1) * 256 ^ l.length by simpa [val] using h l 0
  intro l
  induction l with
  | nil => intro a; simp
  | cons b l ih =>
    intro a
    simp only [List.foldl_cons, List.length_cons]
    have h1 := ih (a * 256 + b.toNat)
    have hb := b.toNat_lt
    have h2 : (a * 256 + b.toNat + 1) * 256 ^ l.length ≤ ((a + 1) * 256) * 256 ^ l.length := Nat.mul_le_mul_right _ (by omega)
    calc _ < _ := h1
      _ ≤ _ := h2
      _ = (a + 1) * 256 ^ (l.length + 1) := by rw [Nat.pow_succ, Nat.mul_assoc, Nat.mul_comm 256]
theorem be_get {n k i : Nat} (h : i < k) : (be n k)[i]? = some (UInt8.ofNat (n / 256 ^ (k - 1 - i) % 256)) := by simp [be, h]
theorem be_zero (n : Nat) : be n 0 = [] := rfl
theorem be_succ (n k : Nat) : be n (k + 1) = be (n / 256) k ++ [UInt8.ofNat (n % 256)] := by
  apply List.ext_getElem?
  intro i
  by_cases h : i < k
  · rw [be_get (by omega), List.getElem?_append_left (by simp [be_length, h]), be_get h]
    congr 3
    rw [Nat.div_div_eq_div_mul]
    congr 1
    rw [show k + 1 - 1 - i = (k - 1 - i) + 1 by omega, Nat.pow_succ, Nat.mul_comm]
  · by_cases h2 : i = k
    · subst h2
      rw [be_get (by omega), List.getElem?_append_right (by simp [be_length])]
      simp [be_length]
    · rw [List.getElem?_eq_none (by simp [be_length]; omega), List.getElem?_eq_none (by simp [be_length]; omega)]
theorem val_be (k : Nat) : ∀ n, val (be n k) = n % 256 ^ k := by
  induction k with
  | zero => intro n; simp [be_zero, val, Nat.mod_one]
  | succ k ih =>
    intro n
    rw [be_succ, val_snoc, ih]
    have h1 : (UInt8.ofNat (n % 256)).toNat = n % 256 := by simp
    rw [h1, Nat.pow_succ, Nat.mul_comm (256 ^ k) 256, Nat.mod_mul]
    omega
theorem put_byte {n k i : Nat} (h : i < k) (hk : k ≤ 8) :
    IntKind.u8.wrap (((n : Nat) : Int).fdiv (2 ^ (min ((8 * ((k : Int) - 1 - i)).toNat) IntKind.u64.bits))) = ((UInt8.ofNat (n / 256 ^ (k - 1 - i) % 256)).toNat : Int) := by
  have e1 : (8 * ((k : Int) - 1 - i)).toNat = 8 * (k - 1 - i) := by omega
  have e2 : min (8 * (k - 1 - i)) IntKind.u64.bits = 8 * (k - 1 - i) := by simp [IntKind.bits]; omega
  rw [e1, e2, IntKind.wrap_u8]
  have e3 : ((n : Nat) : Int).fdiv (2 ^ (8 * (k - 1 - i))) = ((n / 256 ^ (k - 1 - i) : Nat) : Int) := by
    rw [Int.fdiv_eq_ediv_of_nonneg _ (Int.pow_nonneg (by decide))]
    rw [show (256 : Nat) ^ (k - 1 - i) = 2 ^ (8 * (k - 1 - i)) by rw [Nat.pow_mul]]
    norm_cast
  rw [e3]
  simp
theorem put_step {l : List UInt8} {k i : Nat} {b : UInt8} (hl : l.length = k) (hi : i < k) (hb : l[i]? = some b) :
    (bs (l.take i ++ List.replicate (k - i) 0)).set i (u8 b) = bs (l.take (i + 1) ++ List.replicate (k - (i + 1)) 0) := by
  rw [bs_set]
  congr 1
  apply List.ext_getElem?
  intro j
  rw [List.getElem?_set]
  by_cases h1 : i = j
  · subst h1
    rw [if_pos rfl, if_pos (by simp; omega), List.getElem?_append_left (by simp; omega), List.getElem?_take_of_lt (by omega), hb]
  · rw [if_neg h1]
    by_cases h2 : j < i
    · rw [List.getElem?_append_left (by simp; omega), List.getElem?_append_left (by simp; omega), List.getElem?_take_of_lt h2, List.getElem?_take_of_lt (by omega)]
    · rw [List.getElem?_append_right (by simp; omega), List.getElem?_append_right (by simp; omega)]
      simp only [List.getElem?_replicate, List.length_take]
      congr 1
      simp
      omega
theorem zc8 (k : Nat) : zcells [.int .u8 0] k = bs (List.replicate k 0) := by
  unfold zcells
  induction k with
  | zero => rfl
  | succ k ih => rw [List.replicate_succ, List.flatten_cons, ih, List.replicate_succ]; rfl
theorem get_step {a : Nat} {b : UInt8} (h : a < 256 ^ 7) : bits .or .u64 (IntKind.u64.wrap ((a : Int) * 2 ^ (min (8 : Int).toNat IntKind.u64.bits))) (b.toNat : Int) = ((a * 256 + b.toNat : Nat) : Int) := by
  have hb := b.toNat_lt
  have e1 : (min (8 : Int).toNat IntKind.u64.bits) = 8 := by decide
  rw [e1]
  have e2 : IntKind.u64.wrap ((a : Int) * 2 ^ 8) = ((a * 256 : Nat) : Int) := by
    rw [wu64 (by omega) (by omega)]
    omega
  rw [e2]
  have e3 : (BitVec.ofInt 64 ((a * 256 : Nat) : Int) ||| BitVec.ofInt 64 ((b.toNat : Nat) : Int)).toNat = a * 256 + b.toNat := by
    simp only [BitVec.ofInt_natCast, BitVec.toNat_or, BitVec.toNat_ofNat]
    rw [Nat.mod_eq_of_lt (by omega), Nat.mod_eq_of_lt (by omega)]
    rw [show a * 256 = a <<< 8 by simp [Nat.shiftLeft_eq], Nat.shiftLeft_add_eq_or_of_lt (by omega)]
  show IntKind.u64.wrap ((BitVec.ofInt 64 ((a * 256 : Nat) : Int) ||| BitVec.ofInt 64 ((b.toNat : Nat) : Int)).toNat : Int) = _
  rw [e3]
  exact wu64 (by omega) (by omega)
theorem getb {l : List Value} {off m i : Nat} {u : List UInt8} (h : (l.drop off).take m = bs u) (hi : i < m) (hu : u.length = m) : l[off + ((i : Nat) : Int).toNat * 1]? = some (u8 (u.getD i 0)) := by
  have h1 : ((l.drop off).take m)[i]? = some (u8 (u.getD i 0)) := by
    rw [h, bs_get]
    simp [List.getD, List.getElem?_eq_getElem (show i < u.length by omega)]
  rw [List.getElem?_take_of_lt hi, List.getElem?_drop] at h1
  simpa using h1
theorem val_take {u : List UInt8} {i : Nat} (h : i < u.length) : val (u.take (i + 1)) = val (u.take i) * 256 + (u.getD i 0).toNat := by
  rw [List.take_succ_eq_append_getElem h, val_snoc]
  simp [List.getD, List.getElem?_eq_getElem h]
theorem val_take_lt {u : List UInt8} {i : Nat} (h : i ≤ 7) : val (u.take i) < 256 ^ 7 := by
  have h1 := val_lt (u.take i)
  have h2 : (256 : Nat) ^ (u.take i).length ≤ 256 ^ 7 := Nat.pow_le_pow_right (by decide) (by simp; omega)
  omega
theorem HSub.of_eq {H H' : Hp} (h : H' = H) : HSub H' H := by rw [h]; exact HSub.refl _
end Go.Sl

/- Devices and their power: what lies in memory, and the plain model (own work). -/
set_option linter.unusedVariables false
set_option linter.unusedSimpArgs false
namespace Go.Sl
/-- The seat's own numbers of the types, and of the method 'cut'. -/
structure DT where
  dev : Nat
  sec : Nat
  wr : Nat
  fn : Nat
  pow : Nat
  cut : Nat
abbrev ptr (b : Nat) : Value := .pointer (some ⟨b, 0, none⟩)
abbrev Sec := List UInt8
/-- What a device is. -/
structure Ab where
  S : List Sec
  Q : List (Nat × Sec)
  kept : Nat
  bytes : Nat
  lies : Bool
  out : Bool
structure Dv where
  b : Nat
  st : Nat
  pw : Nat
  g : Option SlG
  a : Ab
structure Pa where
  off : Bool
  left : Int
  fails : Bool
structure Pw where
  b : Nat
  g : Option SlG
  devs : List Nat
  a : Pa
theorem one_slV (g : Option SlG) (k : Nat) : one (slV g k) = true := by cases g <;> rfl
def wcs (Q : List (Nat × Sec)) : List Value := Q.flatMap fun x => .int .i64 (x.1 : Int) :: bs x.2
def clos (t : DT) (b : Nat) : Value := .func (.func t.cut) #[ptr b] #[]
abbrev Dv.cells (d : Dv) : List Value := [ptr d.pw, .slice (some ⟨d.st, 0, none⟩) d.a.S.length d.a.S.length, slV d.g d.a.Q.length, .int .i64 (d.a.kept : Int), .int .i64 (d.a.bytes : Int), .bool d.a.lies, .bool d.a.out]
abbrev Dv.o (t : DT) (d : Dv) : List (Nat × Obj) := [(d.b, .cells d.cells.toArray t.dev)]
abbrev Dv.t (t : DT) (d : Dv) : List (Nat × Obj) := [(d.st, .cells (bs d.a.S.flatten).toArray t.sec)]
abbrev Dv.q (t : DT) (d : Dv) : List (Nat × Obj) := slSeg t.wr d.g (wcs d.a.Q)
abbrev Dv.segs (t : DT) (d : Dv) : Hp := [d.o t, d.t t, d.q t]
abbrev Pw.cells (p : Pw) : List Value := [.bool p.a.off, .int .i64 p.a.left, .bool p.a.fails, slV p.g p.devs.length]
abbrev Pw.o (t : DT) (p : Pw) : List (Nat × Obj) := [(p.b, .cells p.cells.toArray t.pow)]
abbrev Pw.q (t : DT) (p : Pw) : List (Nat × Obj) := slSeg t.fn p.g (p.devs.map (clos t))
/-! ### The model -/
def Ab.ok (a : Ab) : Prop := (∀ s ∈ a.S, s.length = 128) ∧ a.S.length ≤ 4096 ∧ (∀ x ∈ a.Q, x.1 < a.S.length ∧ x.2.length = 128) ∧ a.bytes ≤ 128
def Dv.ok (d : Dv) : Prop := d.a.ok ∧ slOk 129 d.g d.a.Q.length (wcs d.a.Q) ∧ d.a.Q.length ≤ 100000
def Pw.ok (t : DT) (p : Pw) : Prop := slOk 1 p.g p.devs.length (p.devs.map (clos t)) ∧ p.a.left ≤ 9223372036854775807
/-- What a failure makes of one write that waits. -/
def cut1 (a : Ab) (i : Nat) (x : Nat × Sec) (S : List Sec) : List Sec :=
  if i < a.kept then S.set x.1 x.2 else if i = a.kept then S.set x.1 (x.2.take a.bytes ++ (S.getD x.1 []).drop a.bytes) else S
def cutN (a : Ab) : Nat → List Sec
  | 0 => a.S
  | i + 1 => match a.Q[i]? with | none => cutN a i | some x => cut1 a i x (cutN a i)
def flushN (a : Ab) : Nat → List Sec
  | 0 => a.S
  | i + 1 => match a.Q[i]? with | none => flushN a i | some x => (flushN a i).set x.1 x.2
def Ab.cut (a : Ab) : Ab := if a.out then a else { a with S := cutN a a.Q.length, Q := [] }
def Ab.flush (a : Ab) : Ab := if a.lies then a else { a with S := flushN a a.Q.length, Q := [] }
def Dv.cut (d : Dv) : Dv := if d.a.out then d else { d with g := none, a := d.a.cut }
/-- Does power fail at the next operation? -/
def Pa.falls (p : Pa) : Bool := p.fails && decide (p.left ≤ 0)
def Pa.step (p : Pa) : Pa := if p.fails then if p.left ≤ 0 then { p with off := true, fails := false } else { p with left := p.left - 1 } else p
def Pw.step (p : Pw) : Pw := { p with a := p.a.step }
def Dv.step (p : Pa) (d : Dv) : Dv := if p.falls then d.cut else d
/-! ### Plain laws -/
theorem flat_len {S : List Sec} (h : ∀ s ∈ S, s.length = 128) : S.flatten.length = S.length * 128 := by
  induction S with
  | nil => rfl
  | cons s S ih => simp only [List.flatten_cons, List.length_append, List.length_cons, ih (fun s hs => h s (by simp [hs])), h s (by simp)]; omega
theorem flat_drop : ∀ {S : List Sec} (n : Nat), (∀ s ∈ S, s.length = 128) → S.flatten.drop (n * 128) = (S.drop n).flatten
  | [], n, h => by simp
  | s :: S, 0, h => by simp
  | s :: S, n + 1, h => by
    rw [List.flatten_cons, List.drop_succ_cons, ← flat_drop n (fun s hs => h s (by simp [hs])), List.drop_append, h s (by simp), List.drop_of_length_le (by rw [h s (by simp)]; omega), List.nil_append, show (n + 1) * 128 - 128 = n * 128 by omega]
theorem flat_sec {S : List Sec} {n : Nat} {s : Sec} (h : ∀ s ∈ S, s.length = 128) (hn : S[n]? = some s) : (S.flatten.drop (n * 128)).take 128 = s := by
  obtain ⟨hl, rfl⟩ := List.getElem?_eq_some_iff.1 hn
  rw [flat_drop n h, List.drop_eq_getElem_cons hl, List.flatten_cons, List.take_left' (h _ (List.getElem_mem hl))]
theorem flat_take {S : List Sec} (n : Nat) (h : ∀ s ∈ S, s.length = 128) (hn : n ≤ S.length) : S.flatten.take (n * 128) = (S.take n).flatten := by
  have e : S.flatten = (S.take n).flatten ++ (S.drop n).flatten := by rw [← List.flatten_append, List.take_append_drop]
  have l := flat_len (S := S.take n) (fun s hs => h s (List.mem_of_mem_take hs))
  rw [e, List.take_left' (by rw [l]; simp; omega)]
theorem flat_next {S : List Sec} (n : Nat) (h : ∀ s ∈ S, s.length = 128) : S.flatten.drop (n * 128 + 128) = (S.drop (n + 1)).flatten := by
  rw [show n * 128 + 128 = (n + 1) * 128 by omega, flat_drop _ h]
theorem flat_set {S : List Sec} {n : Nat} {s : Sec} (h : ∀ s ∈ S, s.length = 128) (hn : n < S.length) : (S.set n s).flatten = S.flatten.take (n * 128) ++ s ++ S.flatten.drop (n * 128 + 128) := by
  rw [flat_take n h (by omega), flat_next n h, List.set_eq_take_append_cons_drop, if_pos hn]
  simp
theorem flat_spl {S : List Sec} {n : Nat} {s : Sec} (h : ∀ s ∈ S, s.length = 128) (hn : n < S.length) (hs : s.length = 128) : spl (bs S.flatten) (n * 128) (bs s) = bs (S.set n s).flatten := by
  have := flat_len h
  rw [spl_bs (by omega), flat_set h hn, hs]
/-- The first bytes of a sector. -/
theorem flat_torn {S : List Sec} {n k : Nat} {s o : Sec} (h : ∀ s ∈ S, s.length = 128) (hn : S[n]? = some o) (hs : s.length = 128) (hk : k ≤ 128) : spl (bs S.flatten) (n * 128) (bs (s.take k)) = bs (S.set n (s.take k ++ o.drop k)).flatten := by
  obtain ⟨hl, rfl⟩ := List.getElem?_eq_some_iff.1 hn
  have hlen := flat_len h
  have ho := h _ (List.getElem_mem hl)
  have hk2 : (s.take k).length = k := by simp; omega
  rw [spl_bs (by rw [hk2, hlen]; omega), flat_set h hl, hk2]
  have e : S.flatten.drop (n * 128 + k) = (S[n]).drop k ++ S.flatten.drop (n * 128 + 128) := by
    rw [← List.drop_drop, flat_drop n h, List.drop_eq_getElem_cons hl, List.flatten_cons, List.drop_append_of_le_length (by omega), flat_next n h]
  rw [e]
  simp
theorem set_ok {S : List Sec} {n : Nat} {s : Sec} (h : ∀ s ∈ S, s.length = 128) (hs : s.length = 128) : ∀ x ∈ S.set n s, x.length = 128 := fun x hx => by
  rcases List.mem_or_eq_of_mem_set hx with h1 | rfl
  · exact h x h1
  · exact hs
theorem wcs_len {Q : List (Nat × Sec)} (h : ∀ x ∈ Q, x.2.length = 128) : (wcs Q).length = Q.length * 129 := by
  induction Q with
  | nil => rfl
  | cons x Q ih =>
    have := ih (fun x hx => h x (by simp [hx]))
    simp only [wcs, List.flatMap_cons, List.length_append, List.length_cons, bs_length, h x (by simp)] at this ⊢
    omega
theorem wcs_append (Q R : List (Nat × Sec)) : wcs (Q ++ R) = wcs Q ++ wcs R := by simp [wcs]
theorem wcs_one (n : Nat) (s : Sec) : wcs [(n, s)] = .int .i64 (n : Int) :: bs s := by simp [wcs]
theorem wcs_get : ∀ {Q : List (Nat × Sec)} {i : Nat} {x : Nat × Sec} (sp : List Value), (∀ x ∈ Q, x.2.length = 128) → Q[i]? = some x → ((wcs Q ++ sp).drop (i * 129)).take 129 = .int .i64 (x.1 : Int) :: bs x.2
  | [], i, x, sp, h, hi => by simp at hi
  | y :: Q, 0, x, sp, h, hi => by
    simp at hi; subst hi
    simp only [wcs, List.flatMap_cons, Nat.zero_mul, List.drop_zero, List.append_assoc]
    rw [List.take_left' (by simp [bs_length, h y (by simp)])]
  | y :: Q, i + 1, x, sp, h, hi => by
    simp only [List.getElem?_cons_succ] at hi
    have := wcs_get sp (fun x hx => h x (by simp [hx])) hi
    rw [← this]
    simp only [wcs, List.flatMap_cons, List.append_assoc]
    rw [show (i + 1) * 129 = 129 + i * 129 by omega, ← List.drop_drop, List.drop_left' (by simp [bs_length, h y (by simp)])]
theorem cut1_ok {a : Ab} (h : a.ok) {i : Nat} {x : Nat × Sec} (hx : x ∈ a.Q) {S : List Sec} (hS : ∀ s ∈ S, s.length = 128) (hl : S.length = a.S.length) : (∀ s ∈ cut1 a i x S, s.length = 128) ∧ (cut1 a i x S).length = a.S.length := by
  obtain ⟨h1, h2, h3, h4⟩ := h
  have hx2 := h3 x hx
  unfold cut1
  split
  · exact ⟨set_ok hS hx2.2, by simpa using hl⟩
  · split
    · refine ⟨set_ok hS ?_, by simpa using hl⟩
      have hlt : x.1 < S.length := by omega
      rw [show S.getD x.1 [] = S[x.1] from by simp [List.getD, hlt]]
      have := hS _ (List.getElem_mem hlt)
      simp; omega
    · exact ⟨hS, hl⟩
theorem cutN_ok {a : Ab} (h : a.ok) : ∀ i, (∀ s ∈ cutN a i, s.length = 128) ∧ (cutN a i).length = a.S.length
  | 0 => ⟨h.1, rfl⟩
  | i + 1 => by
    obtain ⟨h1, h2⟩ := cutN_ok h i
    unfold cutN
    split
    · exact ⟨h1, h2⟩
    · rename_i x hx
      exact cut1_ok h (List.mem_of_getElem? hx) h1 h2
theorem flushN_ok {a : Ab} (h : a.ok) : ∀ i, (∀ s ∈ flushN a i, s.length = 128) ∧ (flushN a i).length = a.S.length
  | 0 => ⟨h.1, rfl⟩
  | i + 1 => by
    obtain ⟨h1, h2⟩ := flushN_ok h i
    unfold flushN
    split
    · exact ⟨h1, h2⟩
    · rename_i x hx
      exact ⟨set_ok h1 (h.2.2.1 _ (List.mem_of_getElem? hx)).2, by simpa using h2⟩
theorem Ab.cut_ok {a : Ab} (h : a.ok) : a.cut.ok := by
  unfold Ab.cut
  split
  · exact h
  · obtain ⟨h1, h2⟩ := cutN_ok h a.Q.length
    exact ⟨h1, by have := h.2.1; simp only; omega, fun x hx => by simp at hx, h.2.2.2⟩
theorem Ab.flush_ok {a : Ab} (h : a.ok) : a.flush.ok := by
  unfold Ab.flush
  split
  · exact h
  · obtain ⟨h1, h2⟩ := flushN_ok h a.Q.length
    exact ⟨h1, by have := h.2.1; simp only; omega, fun x hx => by simp at hx, h.2.2.2⟩
theorem Dv.cut_ok {d : Dv} (h : d.ok) : d.cut.ok := by
  unfold Dv.cut
  split
  · exact h
  · rename_i ho
    refine ⟨Ab.cut_ok h.1, ?_⟩
    simp only [Ab.cut, ho, Bool.false_eq_true, if_false]
    exact ⟨⟨by simp [wcs], rfl⟩, by simp⟩
theorem Dv.cut_b (d : Dv) : d.cut.b = d.b := by unfold Dv.cut; split <;> rfl
theorem Dv.cut_pw (d : Dv) : d.cut.pw = d.pw := by unfold Dv.cut; split <;> rfl
theorem Dv.cut_a (d : Dv) : d.cut.a = d.a.cut := by
  unfold Dv.cut Ab.cut; split <;> simp_all
theorem Dv.step_ok {d : Dv} {p : Pa} (h : d.ok) : (d.step p).ok := by unfold Dv.step; split; exact Dv.cut_ok h; exact h
theorem Dv.step_b (d : Dv) (p : Pa) : (d.step p).b = d.b := by unfold Dv.step; split; exact d.cut_b; rfl
theorem Dv.step_pw (d : Dv) (p : Pa) : (d.step p).pw = d.pw := by unfold Dv.step; split; exact d.cut_pw; rfl
def Ab.tear (a : Ab) (k m : Int) : Ab := { a with kept := (max k 0).toNat, bytes := (min (max m 0) 128).toNat }
theorem Ab.tear_ok {a : Ab} {k m : Int} (h : a.ok) : (a.tear k m).ok := ⟨h.1, h.2.1, h.2.2.1, by simp only [Ab.tear]; omega⟩
def Pa.fail (p : Pa) (n : Int) : Pa := { p with left := n, fails := decide (0 ≤ n) }
def Pa.restart (p : Pa) : Pa := { p with off := false, fails := false }
theorem cutN_s1 {a : Ab} {i : Nat} {x : Nat × Sec} (hx : a.Q[i]? = some x) (h : i < a.kept) : cutN a (i + 1) = (cutN a i).set x.1 x.2 := by
  show (match a.Q[i]? with | none => cutN a i | some x => cut1 a i x (cutN a i)) = _
  rw [hx]; simp [cut1, h]
theorem cutN_s2 {a : Ab} {i : Nat} {x : Nat × Sec} (hx : a.Q[i]? = some x) (h : i = a.kept) : cutN a (i + 1) = (cutN a i).set x.1 (x.2.take a.bytes ++ ((cutN a i).getD x.1 []).drop a.bytes) := by
  show (match a.Q[i]? with | none => cutN a i | some x => cut1 a i x (cutN a i)) = _
  rw [hx]; simp [cut1, h]
theorem cutN_s3 {a : Ab} {i : Nat} {x : Nat × Sec} (hx : a.Q[i]? = some x) (h : ¬ i < a.kept) (h2 : ¬ i = a.kept) : cutN a (i + 1) = cutN a i := by
  show (match a.Q[i]? with | none => cutN a i | some x => cut1 a i x (cutN a i)) = _
  rw [hx]; simp [cut1, h, h2]
theorem flushN_s {a : Ab} {i : Nat} {x : Nat × Sec} (hx : a.Q[i]? = some x) : flushN a (i + 1) = (flushN a i).set x.1 x.2 := by
  show (match a.Q[i]? with | none => flushN a i | some x => (flushN a i).set x.1 x.2) = _
  rw [hx]
theorem Dv.cut_segs (t : DT) {b st pw : Nat} {g : Option SlG} {a : Ab} (h : a.ok) (ho : a.out = false) : (Dv.cut ⟨b, st, pw, g, a⟩).o t = [(b, .cells #[ptr pw, .slice (some ⟨st, 0, none⟩) a.S.length a.S.length, .slice none 0 0, .int .i64 (a.kept : Int), .int .i64 (a.bytes : Int), .bool a.lies, .bool a.out] t.dev)] ∧
    (Dv.cut ⟨b, st, pw, g, a⟩).t t = [(st, .cells (bs (cutN a a.Q.length).flatten).toArray t.sec)] ∧ (Dv.cut ⟨b, st, pw, g, a⟩).q t = [] := by
  have := (cutN_ok h a.Q.length).2
  simp [Dv.cut, Dv.o, Dv.t, Dv.q, Dv.cells, Ab.cut, ho, this, slV, slSeg]
theorem one_wr (n : Nat) (s : Sec) : ∀ v ∈ Value.int .i64 (n : Int) :: bs s, one v = true := fun v hv => by
  rcases List.mem_cons.1 hv with rfl | h
  · rfl
  · exact bs_one _ v h
theorem HSub.same {H' H : Hp} (h : H' = H) : HSub H' H := h ▸ HSub.refl _
def cutTo (A : List Dv) (i : Nat) : List Dv := (A.take i).map Dv.cut ++ A.drop i
theorem cutTo_split (t : DT) {A : List Dv} {i : Nat} {x : Dv} (hx : A[i]? = some x) (po pq : List (Nat × Obj)) (H : Hp) :
    po :: pq :: ((cutTo A i).flatMap (Dv.segs t) ++ H) = (po :: pq :: ((A.take i).map Dv.cut).flatMap (Dv.segs t)) ++ ([x.o t, x.t t, x.q t] ++ ((A.drop (i + 1)).flatMap (Dv.segs t) ++ H)) := by
  obtain ⟨hi, rfl⟩ := List.getElem?_eq_some_iff.1 hx
  rw [cutTo, List.drop_eq_getElem_cons hi]
  simp only [List.flatMap_append, List.flatMap_cons, List.map_append, List.map_cons, List.map_nil, List.cons_append, List.append_assoc, List.nil_append, List.flatMap_nil, List.append_nil]
theorem cutTo_join (t : DT) {A : List Dv} {i : Nat} {x : Dv} (hx : A[i]? = some x) (po pq : List (Nat × Obj)) (H : Hp) :
    (po :: pq :: ((A.take i).map Dv.cut).flatMap (Dv.segs t)) ++ ([x.cut.o t, x.cut.t t, x.cut.q t] ++ ((A.drop (i + 1)).flatMap (Dv.segs t) ++ H)) = po :: pq :: ((cutTo A (i + 1)).flatMap (Dv.segs t) ++ H) := by
  obtain ⟨hi, rfl⟩ := List.getElem?_eq_some_iff.1 hx
  rw [cutTo, List.take_succ_eq_append_getElem hi]
  simp only [List.flatMap_append, List.flatMap_cons, List.map_append, List.map_cons, List.map_nil, List.cons_append, List.append_assoc, List.nil_append, List.flatMap_nil, List.append_nil]
theorem cutTo_all (A : List Dv) : cutTo A A.length = A.map Dv.cut := by simp [cutTo]
theorem step_map {A : List Dv} {p : Pa} (h : p.falls = true) : A.map (Dv.step p) = A.map Dv.cut := by
  apply List.map_congr_left; intro d _; simp [Dv.step, h]
theorem step_map0 {A : List Dv} {p : Pa} (h : p.falls = false) : A.map (Dv.step p) = A := by
  rw [show (Dv.step p) = id from funext fun d => by simp [Dv.step, h]]; simp
/-- The device in hand, ahead. -/
theorem open_perm (t : DT) (L R : List Dv) (d : Dv) (po pq : List (Nat × Obj)) (H : Hp) : (po :: pq :: ((L ++ d :: R).flatMap (Dv.segs t) ++ H)).Perm (d.o t :: d.t t :: d.q t :: po :: pq :: ((L ++ R).flatMap (Dv.segs t) ++ H)) := by
  have : (po :: pq :: ((L ++ d :: R).flatMap (Dv.segs t) ++ H)) = (po :: pq :: L.flatMap (Dv.segs t)) ++ ([d.o t, d.t t, d.q t] ++ (R.flatMap (Dv.segs t) ++ H)) := by simp [List.flatMap_append, Dv.segs]
  rw [this]
  refine (List.perm_append_comm_assoc _ _ _).trans ?_
  simp [List.flatMap_append]
theorem mem_segs (t : DT) {A : List Dv} {d : Dv} (h : d ∈ A) (po pq : List (Nat × Obj)) (H : Hp) : (d.b, Obj.cells d.cells.toArray t.dev) ∈ (po :: pq :: (A.flatMap (Dv.segs t) ++ H)).flatten := by
  simp only [List.mem_flatten]
  refine ⟨d.o t, ?_, by simp⟩
  simp only [List.mem_cons, List.mem_append, List.mem_flatMap]
  exact .inr (.inr (.inl ⟨d, h, by simp [Dv.segs]⟩))
/-- A device in hand, its power, and the power's other devices. -/
abbrev opn (t : DT) (d : Dv) (p : Pw) (O : List Dv) (H : Hp) : Hp := d.o t :: d.t t :: d.q t :: p.o t :: p.q t :: (O.flatMap (Dv.segs t) ++ H)
structure GOk (t : DT) (p : Pw) (L : List Dv) (d : Dv) (R : List Dv) : Prop where
  pws : ∀ x ∈ L ++ d :: R, p.b = x.pw
  devs : p.devs = (L ++ d :: R).map (·.b)
  all : ∀ x ∈ L ++ d :: R, x.ok
  pok : p.ok t
  len : (L ++ d :: R).length ≤ 1000
theorem Pw.step_ok {t : DT} {p : Pw} (h : p.ok t) : p.step.ok t := by
  refine ⟨h.1, ?_⟩
  have := h.2
  simp only [Pw.step, Pa.step]
  split
  · split <;> simp only <;> omega
  · exact this
theorem GOk.hb {t : DT} {p : Pw} {L R : List Dv} {d : Dv} (h : GOk t p L d R) : p.b = d.pw := h.pws d (by simp)
theorem GOk.dok {t : DT} {p : Pw} {L R : List Dv} {d : Dv} (h : GOk t p L d R) : d.ok := h.all d (by simp)
theorem GOk.set {t : DT} {p : Pw} {L R : List Dv} {d d' : Dv} (h : GOk t p L d R) (hb : d'.b = d.b) (hp : d'.pw = d.pw) (hok : d'.ok) : GOk t p L d' R where
  pws := fun x hx => by
    rcases List.mem_append.1 hx with h1 | h1
    · exact h.pws x (by simp [h1])
    · rcases List.mem_cons.1 h1 with rfl | h2
      · exact h.hb.trans hp.symm
      · exact h.pws x (by simp [h2])
  devs := by rw [h.devs]; simp [hb]
  all := fun x hx => by
    rcases List.mem_append.1 hx with h1 | h1
    · exact h.all x (by simp [h1])
    · rcases List.mem_cons.1 h1 with rfl | h2
      · exact hok
      · exact h.all x (by simp [h2])
  pok := h.pok
  len := by have := h.len; simpa using this
theorem GOk.setp {t : DT} {p : Pw} {L R : List Dv} {d : Dv} (h : GOk t p L d R) (a : Pa) (ha : a.left ≤ 9223372036854775807) : GOk t { p with a := a } L d R := ⟨h.pws, h.devs, h.all, ⟨h.pok.1, ha⟩, h.len⟩
theorem GOk.step {t : DT} {p : Pw} {L R : List Dv} {d : Dv} (h : GOk t p L d R) (q : Pa) : GOk t p (L.map (Dv.step q)) (d.step q) (R.map (Dv.step q)) where
  pws := fun x hx => by
    have : x ∈ (L ++ d :: R).map (Dv.step q) := by simpa using hx
    obtain ⟨y, hy, rfl⟩ := List.mem_map.1 this
    exact (h.pws y hy).trans (Dv.step_pw y q).symm
  devs := by rw [h.devs]; simp [Dv.step_b, Function.comp_def]
  all := fun x hx => by
    have : x ∈ (L ++ d :: R).map (Dv.step q) := by simpa using hx
    obtain ⟨y, hy, rfl⟩ := List.mem_map.1 this
    exact Dv.step_ok (h.all y hy)
  pok := h.pok
  len := by have := h.len; simpa using this
theorem GOk.stepp {t : DT} {p : Pw} {L R : List Dv} {d : Dv} (h : GOk t p L d R) : GOk t p.step L d R := ⟨h.pws, h.devs, h.all, Pw.step_ok h.pok, h.len⟩
theorem GOk.next {t : DT} {p : Pw} {L R : List Dv} {d x : Dv} (h : GOk t p L d (x :: R)) : GOk t p (L ++ [d]) x R where
  pws := fun y hy => h.pws y (by simpa using hy)
  devs := by rw [h.devs]; simp
  all := fun y hy => h.all y (by simpa using hy)
  pok := h.pok
  len := by have := h.len; simp at this ⊢; omega
theorem GOk.back {t : DT} {p : Pw} {L R : List Dv} {d x : Dv} (h : GOk t p (L ++ [d]) x R) : GOk t p L d (x :: R) where
  pws := fun y hy => h.pws y (by simpa using hy)
  devs := by rw [h.devs]; simp
  all := fun y hy => h.all y (by simpa using hy)
  pok := h.pok
  len := by have := h.len; simp at this ⊢; omega
def Dv.wr (d : Dv) (n : Nat) (s : Sec) (g : Option SlG) : Dv := { d with g := g, a := { d.a with Q := d.a.Q ++ [(n, s)] } }
theorem Dv.wr_ok {d : Dv} {n : Nat} {s : Sec} {g : Option SlG} (h : d.ok) (hn : n < d.a.S.length) (hs : s.length = 128) (hq : d.a.Q.length < 100000) (hg : slOk 129 g (d.a.Q.length + 1) (wcs d.a.Q ++ (.int .i64 (n : Int) :: bs s))) : (d.wr n s g).ok := by
  obtain ⟨⟨h1, h2, h3, h4⟩, h5, h6⟩ := h
  refine ⟨⟨h1, h2, fun x hx => ?_, h4⟩, ?_, ?_⟩
  · simp only [Dv.wr] at hx ⊢
    rcases List.mem_append.1 hx with h | h
    · exact h3 x h
    · simp at h; subst h; exact ⟨hn, hs⟩
  · simp only [Dv.wr]
    rw [wcs_append, wcs_one, List.length_append]
    exact hg
  · simp only [Dv.wr, List.length_append, List.length_cons, List.length_nil]; omega
theorem fill_wr {n : Int} {s : Sec} (hs : s.length = 128) : Instr.fill (fun i => [((0 : Nat), (1 : Nat)), (1, 128)][i]?) ([Value.int .i64 0] ++ List.replicate 128 (Value.int .u8 0)).toArray [(0, .int .i64 n), (1, .agg (bs s).toArray)] = some (.int .i64 n :: bs s).toArray := by
  refine fill_cons (off := 0) (m := 1) (vs := [_]) rfl rfl rfl (by simp) (fill_cons (off := 1) (m := 128) (vs := bs s) rfl rfl (by rw [bs_length, hs]) (by simp [spl]) ?_)
  simp only [spl, Instr.fill]
  rw [spl_eq _ _ _ (by simp [bs_length, hs])]
  simp [bs_length, hs]
/-- A flush of all that waits. -/
def Dv.fl (d : Dv) : Dv := { d with g := none, a := { d.a with S := flushN d.a d.a.Q.length, Q := [] } }
def Ab.rot (a : Ab) (n i : Nat) (m : UInt8) : Ab := { a with S := a.S.set n ((a.S.getD n []).set i ((a.S.getD n []).getD i 0 ^^^ m)) }
theorem Ab.rot_ok {a : Ab} {n i : Nat} {m : UInt8} (h : a.ok) (hn : n < a.S.length) : (a.rot n i m).ok := by
  obtain ⟨h1, h2, h3, h4⟩ := h
  refine ⟨set_ok h1 ?_, by simpa [Ab.rot] using h2, by simpa [Ab.rot] using h3, h4⟩
  rw [List.length_set, show a.S.getD n [] = a.S[n] from by simp [List.getD, hn]]
  exact h1 _ (List.getElem_mem hn)
/-- A sector of one byte. -/
def secOf (c : UInt8) : Sec := List.replicate 128 c
theorem secOf_len (c : UInt8) : (secOf c).length = 128 := List.length_replicate
def fillTo (c : UInt8) (i : Nat) : Sec := List.replicate i c ++ List.replicate (128 - i) 0
theorem zsec : List.replicate 128 (Value.int .u8 0) = bs (secOf 0) := by simp [secOf, bs, u8]
theorem zsecs (k : Nat) : zcells (List.replicate 128 (Value.int .u8 0)) k = bs (List.replicate k (secOf 0)).flatten := by
  rw [zsec]
  unfold zcells
  induction k with
  | zero => rfl
  | succ k ih => rw [List.replicate_succ, List.replicate_succ, List.flatten_cons, List.flatten_cons, bs_append, ih]
/-- A new device. -/
def Ab.new (k : Nat) : Ab := ⟨List.replicate k (secOf 0), [], 0, 0, false, false⟩
theorem Ab.new_ok {k : Nat} (h : k ≤ 4096) : (Ab.new k).ok := ⟨fun s hs => by simp [Ab.new] at hs; rw [hs.2]; exact secOf_len 0, by simpa [Ab.new] using h, fun x hx => by simp [Ab.new] at hx, by simp [Ab.new]⟩
def Dv.new (b st pw k : Nat) : Dv := ⟨b, st, pw, none, Ab.new k⟩
theorem Dv.new_ok {b st pw k : Nat} (h : k ≤ 4096) : (Dv.new b st pw k).ok := ⟨Ab.new_ok h, ⟨rfl, rfl⟩, by simp [Dv.new, Ab.new]⟩
def szOf (n : Int) : Nat := (min (max n 0) 4096).toNat
/-! ### What each call does, told of the abstract states -/
def Ab.down (a : Ab) (q : Pa) : Bool := a.out || q.off
def Ab.has (a : Ab) (n : Int) : Bool := decide (0 ≤ n) && decide (n < a.S.length)
def wgo (a : Ab) (q : Pa) (n : Int) : Bool := !a.down q && a.has n
def Ab.step (q : Pa) (a : Ab) : Ab := if q.falls then a.cut else a
def Ab.push (a : Ab) (n : Nat) (s : Sec) : Ab := { a with Q := a.Q ++ [(n, s)] }
def writeE (a : Ab) (q : Pa) (n : Int) : Int := if a.down q then 13 else if a.has n then (if q.falls then 13 else 0) else 2
def writeA (a : Ab) (q : Pa) (n : Int) (s : Sec) : Ab := if wgo a q n then (a.push n.toNat s).step q else a
def writeP (a : Ab) (q : Pa) (n : Int) : Pa := if wgo a q n then q.step else q
def flushE (a : Ab) (q : Pa) : Int := if a.down q then 13 else if q.falls then 13 else 0
def flushA (a : Ab) (q : Pa) : Ab := if a.down q then a else if q.falls then a.cut else a.flush
def flushP (a : Ab) (q : Pa) : Pa := if a.down q then q else q.step
/-- The other devices of a power, behind an operation that was counted (c) or not. -/
def Mv (c : Bool) (q : Pa) : List Dv → List Dv → Prop
  | [], [] => True
  | x :: xs, y :: ys => (y.b = x.b ∧ y.pw = x.pw ∧ y.a = if c then x.a.step q else x.a) ∧ Mv c q xs ys
  | _, _ => False
theorem Dv.step_a (d : Dv) (q : Pa) : (d.step q).a = d.a.step q := by unfold Dv.step Ab.step; split; exact d.cut_a; rfl
theorem Mv.same (q : Pa) : ∀ (L : List Dv), Mv false q L L
  | [] => trivial
  | _ :: L => ⟨⟨rfl, rfl, rfl⟩, Mv.same q L⟩
theorem Mv.step (q : Pa) : ∀ (L : List Dv), Mv true q L (L.map (Dv.step q))
  | [] => trivial
  | x :: L => ⟨⟨Dv.step_b x q, Dv.step_pw x q, Dv.step_a x q⟩, Mv.step q L⟩
theorem Mv.nil {c : Bool} {q : Pa} {L : List Dv} (h : Mv c q [] L) : L = [] := by cases L; rfl; exact h.elim
theorem Mv.one {c : Bool} {q : Pa} {x : Dv} {L : List Dv} (h : Mv c q [x] L) : ∃ y, L = [y] ∧ y.b = x.b ∧ y.pw = x.pw ∧ y.a = if c then x.a.step q else x.a := by
  match L, h with
  | [y], h => exact ⟨y, rfl, h.1⟩
  | [], h => exact h.elim
  | _ :: _ :: _, h => exact h.2.elim
def Ab.outs (a : Ab) (on : Bool) : Ab := if on then { a with Q := [], out := true } else { a with out := false }
def Ab.rotE (a : Ab) (n i : Int) : Bool := a.has n && (decide (0 ≤ i) && decide (i < 128))
def Ab.rots (a : Ab) (n i : Int) (m : UInt8) : Ab := if a.rotE n i then a.rot n.toNat i.toNat m else a
/-- What is stable in the document's example. -/
def awS : List Sec := [secOf 1, [2, 2] ++ List.replicate 126 0, secOf 0, secOf 0]
/-! ### What is read -/
def lastW (Q : List (Nat × Sec)) (n : Nat) : Option Sec := (Q.reverse.find? fun x => x.1 == n).map (·.2)
def Ab.read (a : Ab) (n : Nat) : Sec := (lastW a.Q n).getD (a.S.getD n [])
def noneFrom (Q : List (Nat × Sec)) (n i : Nat) : Prop := ∀ k x, i ≤ k → Q[k]? = some x → x.1 ≠ n
theorem noneFrom_len (Q : List (Nat × Sec)) (n : Nat) : noneFrom Q n Q.length := fun k x hk hx => by
  have := (List.getElem?_eq_some_iff.1 hx).1; omega
theorem noneFrom_step {Q : List (Nat × Sec)} {n i : Nat} {x : Nat × Sec} (h : noneFrom Q n (i + 1)) (hx : Q[i]? = some x) (hn : x.1 ≠ n) : noneFrom Q n i := fun k y hk hy => by
  by_cases e : k = i
  · subst e; rw [hx] at hy; cases hy; exact hn
  · exact h k y (by omega) hy
theorem lastW_none {Q : List (Nat × Sec)} {n : Nat} (h : noneFrom Q n 0) : lastW Q n = none := by
  have : (Q.reverse.find? fun x => x.1 == n) = none := by
    rw [List.find?_eq_none]
    intro x hx
    obtain ⟨k, hk, rfl⟩ := List.getElem_of_mem (List.mem_reverse.1 hx)
    simpa using h k _ (Nat.zero_le _) (List.getElem?_eq_getElem hk)
  rw [lastW, this]; rfl
theorem lastW_found {Q : List (Nat × Sec)} {n i : Nat} {x : Nat × Sec} (h : noneFrom Q n (i + 1)) (hx : Q[i]? = some x) (hn : x.1 = n) : lastW Q n = some x.2 := by
  obtain ⟨hi, rfl⟩ := List.getElem?_eq_some_iff.1 hx
  have e : Q.reverse = (Q.drop (i + 1)).reverse ++ (Q[i] :: (Q.take i).reverse) := by
    conv => lhs; rw [← List.take_append_drop i Q, List.drop_eq_getElem_cons hi]
    simp
  have h0 : ((Q.drop (i + 1)).reverse.find? fun x => x.1 == n) = none := by
    rw [List.find?_eq_none]
    intro x hx
    obtain ⟨k, hk, rfl⟩ := List.getElem_of_mem (List.mem_reverse.1 hx)
    rw [List.getElem_drop]
    simpa using h (i + 1 + k) _ (by omega) (List.getElem?_eq_getElem (by rw [List.length_drop] at hk; omega))
  rw [lastW, e, List.find?_append, h0]
  simp [hn]
def readE (a : Ab) (q : Pa) (n : Int) : Int := if a.down q then 13 else if a.has n then 0 else 2
def readS (a : Ab) (q : Pa) (n : Int) : Sec := if a.down q then secOf 0 else if a.has n then a.read n.toNat else secOf 0
theorem Ab.read_len {a : Ab} {n : Nat} (h : a.ok) (hn : n < a.S.length) : (a.read n).length = 128 := by
  unfold Ab.read
  cases hl : lastW a.Q n with
  | none => rw [Option.getD_none, show a.S.getD n [] = a.S[n] from by simp [List.getD, hn]]; exact h.1 _ (List.getElem_mem hn)
  | some s =>
    unfold lastW at hl
    cases hf : a.Q.reverse.find? (fun x => x.1 == n) with
    | none => rw [hf] at hl; cases hl
    | some x =>
      rw [hf] at hl; cases hl
      exact (h.2.2.1 x (List.mem_reverse.1 (List.mem_of_find?_eq_some hf))).2
theorem readS_len {a : Ab} {q : Pa} {n : Int} (h : a.ok) : (readS a q n).length = 128 := by
  unfold readS
  split
  · exact secOf_len 0
  · split
    · rename_i hh
      have : 0 ≤ n ∧ n < a.S.length := by simpa [Ab.has] using hh
      exact Ab.read_len h (by omega)
    · exact secOf_len 0
end Go.Sl

/- Plain laws for the statements on devices (own work). -/
set_option linter.unusedVariables false
set_option linter.unusedSimpArgs false
namespace Go.Sl
/-! ### DeviceTears -/
def tq (m : Nat) : List (Nat × Sec) := (List.range m).map fun j => (j, secOf (UInt8.ofNat (j + 1)))
def tearA (K B m : Nat) : Ab := { (Ab.new 12).tear K B with Q := tq m }
def tearS (K B m : Nat) : List Sec := cutN (tearA K B m) m
def tsec (K B m i : Nat) : Sec := if i < m then (if i < K then secOf (UInt8.ofNat (i + 1)) else if i = K then (secOf (UInt8.ofNat (i + 1))).take (min B 128) ++ (secOf 0).drop (min B 128) else secOf 0) else secOf 0
def tbyte (K B m i j : Nat) : UInt8 := if i < m ∧ (i < K ∨ i = K ∧ j < B) then UInt8.ofNat (i + 1) else 0
/-! ### DeviceRots -/
abbrev q0 : Pa := ⟨false, 0, false⟩
def rq (c : UInt8) (m : Nat) : List (Nat × Sec) := (List.range m).map fun j => (j, secOf c)
def rotA (c : UInt8) (m : Nat) : Ab := { Ab.new 6 with Q := rq c m }
def rotS (c : UInt8) : List Sec := List.replicate 6 (secOf c)
def rotF (c : UInt8) : Ab := { Ab.new 6 with S := rotS c }
def rotT (c : UInt8) (n k : Nat) (m : UInt8) : List Sec := (rotS c).set n ((secOf c).set k (c ^^^ m))
def rotG (c : UInt8) (n k : Nat) (m : UInt8) : Ab := { rotF c with S := rotT c n k m }
def rbyte (c : UInt8) (n k : Nat) (m : UInt8) (i j : Nat) : UInt8 := if i = n ∧ j = k then c ^^^ m else c
/-! ### DeviceApart -/
def apS (c : UInt8) (K : Nat) : List Sec := (List.replicate K (secOf 0)).set 0 (secOf c)
def apF (c : UInt8) (K : Nat) : Ab := { Ab.new K with S := apS c K }
/-! ### Deeds -/
structure DeedM where
  on : Int
  kind : Int
  n : Int
  m : Int
  c : UInt8
def dcells (x : DeedM) : List Value := [.int .i64 x.on, .int .i64 x.kind, .int .i64 x.n, .int .i64 x.m, .int .u8 (x.c.toNat : Int)]
def deeds (ds : List DeedM) : List Value := (ds.map dcells).flatten
/-! ### What a flush makes stable is what was read -/
theorem lastW_snoc (Q : List (Nat × Sec)) (x : Nat × Sec) (k : Nat) : lastW (Q ++ [x]) k = if x.1 = k then some x.2 else lastW Q k := by
  unfold lastW
  rw [List.reverse_append, List.reverse_singleton, List.singleton_append, List.find?_cons]
  by_cases h : x.1 = k
  · simp [h]
  · have : (x.1 == k) = false := by simpa using h
    simp [h, this]
theorem flushN_get {a : Ab} (h : a.ok) {k : Nat} (hk : k < a.S.length) : ∀ m, m ≤ a.Q.length → (flushN a m)[k]? = some ((lastW (a.Q.take m) k).getD (a.S.getD k []))
  | 0, _ => by
    show a.S[k]? = _
    rw [List.take_zero, show lastW [] k = none from rfl, Option.getD_none]
    simp [List.getD, hk]
  | m + 1, hm => by
    have ih := flushN_get h hk m (by omega)
    obtain ⟨x, hx⟩ : ∃ x, a.Q[m]? = some x := ⟨_, List.getElem?_eq_getElem (by omega)⟩
    rw [flushN_s hx, show a.Q.take (m + 1) = a.Q.take m ++ [x] from by rw [List.take_add_one, hx]; rfl, lastW_snoc]
    by_cases e : x.1 = k
    · subst e
      rw [List.getElem?_set_self (by rw [(flushN_ok h m).2]; exact hk), if_pos rfl]; rfl
    · rw [List.getElem?_set_ne e, if_neg e, ih]
/-! ### DeviceLies -/
def okN (x : DeedM) : Prop := 0 ≤ x.n ∧ x.n < 20
instance (x : DeedM) : Decidable (okN x) := inferInstanceAs (Decidable (0 ≤ x.n ∧ x.n < 20))
def wq1 (x : DeedM) : List (Nat × Sec) := if okN x then [(x.n.toNat, secOf x.c)] else []
def lq (ds : List DeedM) (i : Nat) : List (Nat × Sec) := (ds.take i).flatMap wq1
def S20 : List Sec := List.replicate 20 (secOf 0)
def lA (ds : List DeedM) (i : Nat) : Ab := ⟨S20, lq ds i, 0, 0, true, false⟩
def nowS (ds : List DeedM) (k : Nat) : List Sec := (List.range k).map (lA ds ds.length).read
def lC (ds : List DeedM) : Ab := ⟨nowS ds 20, [], 0, 0, false, false⟩
/-! ### DeviceReads, DeviceFlushes: what is read behind a write, behind a flush -/
theorem read_push (a : Ab) (n : Nat) (s : Sec) (k : Nat) : (a.push n s).read k = if n = k then s else a.read k := by
  simp only [Ab.read, Ab.push, lastW_snoc]
  by_cases h : n = k
  · simp [h]
  · simp [h]
theorem read_flush {a : Ab} (h : a.ok) (hl : a.lies = false) {k : Nat} (hk : k < a.S.length) : a.flush.read k = a.read k := by
  have e := flushN_get h hk a.Q.length (Nat.le_refl _)
  rw [List.take_length] at e
  simp only [Ab.flush, hl, Bool.false_eq_true, if_false, Ab.read, show lastW [] k = none from rfl, Option.getD_none, List.getD, e, Option.getD_some]
theorem has_flush {a : Ab} (h : a.ok) (hl : a.lies = false) : a.flush.S.length = a.S.length := by
  simp only [Ab.flush, hl, Bool.false_eq_true, if_false, (flushN_ok h _).2]
/-- A device that is whole and is read as W. -/
structure RdW (K : Nat) (W : List Sec) (a : Ab) (m : Nat) : Prop where
  ok : a.ok
  len : a.S.length = K
  out : a.out = false
  lies : a.lies = false
  many : a.Q.length ≤ m
  wlen : W.length = K
  read : ∀ k s, W[k]? = some s → a.read k = s
theorem RdW.new {K : Nat} (h : K ≤ 4096) : RdW K (List.replicate K (secOf 0)) (Ab.new K) 0 := ⟨Ab.new_ok h, by simp [Ab.new], rfl, rfl, Nat.le_refl _, by simp, fun k s hs => by
  have : k < K := by have := (List.getElem?_eq_some_iff.1 hs).1; simpa using this
  rw [List.getElem?_replicate, if_pos this] at hs; cases hs
  simp [Ab.read, Ab.new, lastW, List.getD, this]⟩
theorem RdW.write {K n m : Nat} {W : List Sec} {a : Ab} {s : Sec} (h : RdW K W a m) (hn : n < K) (hs : s.length = 128) : RdW K (W.set n s) (a.push n s) (m + 1) := by
  obtain ⟨h1, h2, h3, h4, h5, h6, h7⟩ := h
  refine ⟨⟨h1.1, h1.2.1, fun x hx => ?_, h1.2.2.2⟩, h2, h3, h4, by simp [Ab.push]; omega, by simpa using h6, fun k t ht => ?_⟩
  · rcases List.mem_append.1 hx with hx | hx
    · exact h1.2.2.1 x hx
    · simp at hx; subst hx; exact ⟨by simp only [Ab.push]; omega, hs⟩
  · rw [read_push]
    by_cases e : n = k
    · subst e
      rw [List.getElem?_set_self (by omega)] at ht; cases ht; simp
    · rw [List.getElem?_set_ne e] at ht
      rw [if_neg e]; exact h7 k t ht
theorem RdW.flush {K m : Nat} {W : List Sec} {a : Ab} (h : RdW K W a m) : RdW K W a.flush 0 := by
  obtain ⟨h1, h2, h3, h4, h5, h6, h7⟩ := h
  refine ⟨Ab.flush_ok h1, by rw [has_flush h1 h4, h2], by simp [Ab.flush, h4, h3], by simp [Ab.flush, h4], by simp [Ab.flush, h4], h6, fun k t ht => ?_⟩
  rw [read_flush h1 h4 (by have := (List.getElem?_eq_some_iff.1 ht).1; omega)]
  exact h7 k t ht
theorem RdW.has {K m : Nat} {W : List Sec} {a : Ab} (h : RdW K W a m) (n : Int) : a.has n = (decide (0 ≤ n) && decide (n < K)) := by simp only [Ab.has, h.len]
theorem RdW.writes {K m : Nat} {W : List Sec} {a : Ab} (h : RdW K W a m) (n : Int) (s : Sec) : writeE a q0 n = (if 0 ≤ n ∧ n < K then 0 else 2) ∧ writeA a q0 n s = (if 0 ≤ n ∧ n < K then a.push n.toNat s else a) ∧ writeP a q0 n = q0 := by
  have hd : a.down q0 = false := by simp [Ab.down, h.out]
  have hf : q0.falls = false := rfl
  simp only [writeE, writeA, writeP, wgo, hd, h.has, hf, Ab.step, Bool.not_false, Bool.true_and, Bool.false_eq_true, if_false]
  by_cases hn : 0 ≤ n ∧ n < K
  · simp [hn]; rfl
  · have : (decide (0 ≤ n) && decide (n < (K : Int))) = false := by simp; omega
    simp [this, hn]
theorem RdW.reads {K m k : Nat} {W : List Sec} {a : Ab} {s : Sec} (h : RdW K W a m) (hk : W[k]? = some s) : readS a q0 (k : Int) = s ∧ readE a q0 (k : Int) = 0 := by
  have hd : a.down q0 = false := by simp [Ab.down, h.out]
  have hlt : k < K := by have := (List.getElem?_eq_some_iff.1 hk).1; have := h.wlen; omega
  have hh : a.has (k : Int) = true := by rw [h.has]; simp; omega
  simp only [readS, readE, hd, hh, Bool.false_eq_true, if_false, if_true, Int.toNat_natCast, and_true]
  exact h.read k s hk
theorem RdW.mono {K m m' : Nat} {W : List Sec} {a : Ab} (h : RdW K W a m) (hm : m ≤ m') : RdW K W a m' := ⟨h.ok, h.len, h.out, h.lies, Nat.le_trans h.many hm, h.wlen, h.read⟩
/-! ### DeviceFlushes -/
theorem RdW.stable {K : Nat} {W : List Sec} {a : Ab} (h : RdW K W a 0) : a.Q = [] ∧ a.S = W := by
  have hq : a.Q = [] := List.eq_nil_of_length_eq_zero (Nat.le_zero.1 h.many)
  refine ⟨hq, ?_⟩
  apply List.ext_getElem?
  intro k
  by_cases hk : k < K
  · have h1 : a.read k = W[k]'(by rw [h.wlen]; exact hk) := h.read k _ (List.getElem?_eq_getElem _)
    rw [List.getElem?_eq_getElem (show k < W.length from by rw [h.wlen]; exact hk), ← h1]
    simp only [Ab.read, hq, show lastW [] k = none from rfl, Option.getD_none, List.getD]
    rw [List.getElem?_eq_getElem (by rw [h.len]; exact hk)]; rfl
  · rw [List.getElem?_eq_none (by rw [h.len]; omega), List.getElem?_eq_none (by rw [h.wlen]; omega)]
abbrev qF : Pa := ⟨false, 0, true⟩
abbrev qX : Pa := ⟨true, 0, false⟩
/-- Power fails at a flush of what is flushed: nothing changes. -/
theorem RdW.fails {K : Nat} {W : List Sec} {a : Ab} (h : RdW K W a 0) (k m : Int) : flushE (a.tear k m) qF = 13 ∧ flushA (a.tear k m) qF = a.tear k m ∧ flushP (a.tear k m) qF = qX := by
  obtain ⟨hq, hs⟩ := h.stable
  have hd : (a.tear k m).down qF = false := by simp [Ab.down, Ab.tear, h.out]
  have hf : qF.falls = true := rfl
  have hc : (a.tear k m).cut = a.tear k m := by
    have ho : (a.tear k m).out = false := h.out
    have hq2 : (a.tear k m).Q = [] := hq
    generalize a.tear k m = y at ho hq2
    cases y
    simp only at ho hq2
    subst ho; subst hq2
    rfl
  simp only [flushE, flushA, flushP, hd, hf, hc, Bool.false_eq_true, if_false, if_true, true_and]
  rfl
theorem RdW.tear {K m : Nat} {W : List Sec} {a : Ab} (h : RdW K W a m) (k b : Int) : RdW K W (a.tear k b) m := ⟨Ab.tear_ok h.ok, h.len, h.out, h.lies, h.many, h.wlen, h.read⟩
end Go.Sl

/- Sealed sectors (own work): the little sum, the packed sector, what it is sealed of; plain laws. -/
set_option linter.unusedVariables false
set_option linter.unusedSimpArgs false
namespace Go.Sl
abbrev M64 : Nat := 18446744073709551616
theorem wu64_mod (n : Nat) : IntKind.u64.wrap (n : Int) = ((n % M64 : Nat) : Int) := by
  simp only [IntKind.wrap, IntKind.bits, IntKind.signed]; simp
theorem wu64_add (a b : Nat) : IntKind.u64.wrap ((a : Int) + (b : Int)) = (((a + b) % M64 : Nat) : Int) := by rw [← Int.natCast_add, wu64_mod]
theorem wu64_mul (a b : Nat) : IntKind.u64.wrap ((a : Int) * (b : Int)) = (((a * b) % M64 : Nat) : Int) := by rw [← Int.natCast_mul, wu64_mod]
def l1s (x : Nat) (b : UInt8) : Nat := ((x + b.toNat) % M64) * 1099511628211 % M64
def l2s (x : Nat) (b : UInt8) : Nat := (((x + b.toNat) % M64 + 1) % M64) * 1099511628211 % M64
def lsX (x : Nat) : Nat → Nat
  | 0 => x
  | i + 1 => (lsX x i * 6364136223846793005 % M64 + 1442695040888963407) % M64
def litO (x : Nat) : List UInt8 := (List.range 16).map fun i => UInt8.ofNat (lsX x (i + 1) / 72057594037927936)
def ls1 (x : Nat) (k : List UInt8) : Nat := k.foldl l1s x
def ls2 (x : Nat) (u : List UInt8) : Nat := u.foldl l2s x
/-- The little cipher's sum. -/
def litSum (k u : List UInt8) : List UInt8 := litO (ls2 (ls1 (u.length % M64) k) u)
theorem litO_len (x : Nat) : (litO x).length = 16 := by simp [litO]
theorem litSum_len (k u : List UInt8) : (litSum k u).length = 16 := litO_len _
theorem foldl_take {α : Type} (f : α → UInt8 → α) (x : α) {k : List UInt8} {i : Nat} (h : i < k.length) : (k.take (i + 1)).foldl f x = f ((k.take i).foldl f x) (k.getD i 0) := by
  rw [List.take_succ_eq_append_getElem h, List.foldl_append]
  simp [List.getD, h]
theorem ls1_step {x : Nat} {k : List UInt8} {i : Nat} (h : i < k.length) : IntKind.u64.wrap (IntKind.u64.wrap (((ls1 x (k.take i) : Nat) : Int) + ((k.getD i 0).toNat : Int)) * 1099511628211) = ((ls1 x (k.take (i + 1)) : Nat) : Int) := by
  rw [wu64_add, show (1099511628211 : Int) = ((1099511628211 : Nat) : Int) from rfl, wu64_mul, ls1, ls1, foldl_take _ _ h]; rfl
theorem ls2_step {x : Nat} {k : List UInt8} {i : Nat} (h : i < k.length) : IntKind.u64.wrap (IntKind.u64.wrap (IntKind.u64.wrap (((ls2 x (k.take i) : Nat) : Int) + ((k.getD i 0).toNat : Int)) + 1) * 1099511628211) = ((ls2 x (k.take (i + 1)) : Nat) : Int) := by
  rw [wu64_add, show (1 : Int) = ((1 : Nat) : Int) from rfl, wu64_add, show (1099511628211 : Int) = ((1099511628211 : Nat) : Int) from rfl, wu64_mul, ls2, ls2, foldl_take _ _ h]; rfl
theorem lsX_step (x i : Nat) : IntKind.u64.wrap (IntKind.u64.wrap (((lsX x i : Nat) : Int) * 6364136223846793005) + 1442695040888963407) = ((lsX x (i + 1) : Nat) : Int) := by
  rw [show (6364136223846793005 : Int) = ((6364136223846793005 : Nat) : Int) from rfl, wu64_mul, show (1442695040888963407 : Int) = ((1442695040888963407 : Nat) : Int) from rfl, wu64_add]; rfl
theorem lsX_lt (x i : Nat) : lsX x (i + 1) < M64 := Nat.mod_lt _ (by decide)
theorem lit_byte (x i : Nat) : IntKind.u8.wrap (((lsX x (i + 1) : Nat) : Int).fdiv (2 ^ (min (56 : Int).toNat IntKind.u64.bits))) = ((UInt8.ofNat (lsX x (i + 1) / 72057594037927936)).toNat : Int) := by
  have h : lsX x (i + 1) < 18446744073709551616 := lsX_lt x i
  have e1 : (min (56 : Int).toNat IntKind.u64.bits) = 56 := by decide
  rw [e1, Int.fdiv_eq_ediv_of_nonneg _ (by decide), show ((2 : Int) ^ 56) = ((72057594037927936 : Nat) : Int) from by decide, ← Int.natCast_ediv]
  have h2 : lsX x (i + 1) / 72057594037927936 < 256 := by omega
  rw [wu8 (by omega) (by omega)]
  simp
  omega
theorem litO_get {x i : Nat} (h : i < 16) : (litO x)[i]? = some (UInt8.ofNat (lsX x (i + 1) / 72057594037927936)) := by simp [litO, h]
/-! ### The sealed sector -/
def K0 : List UInt8 := List.replicate 32 0
theorem K0_len : K0.length = 32 := rfl
/-- What stands behind the sum. -/
def restS (gen : Nat) (body : List UInt8) : List UInt8 := be gen 8 ++ (UInt8.ofNat body.length :: (body ++ List.replicate (103 - body.length) 0))
def sumS (a : Nat) (s : List UInt8) : List UInt8 := litSum K0 (be a 4 ++ s.drop 16)
def packS (a gen : Nat) (body : List UInt8) : Sec := sumS a (List.replicate 16 0 ++ restS gen body) ++ restS gen body
abbrev packOk (a : Int) (body : List UInt8) : Prop := 0 ≤ a ∧ a < 4096 ∧ body.length ≤ 103
def genS (s : Sec) : Nat := val ((s.drop 16).take 8)
def lenS (s : Sec) : Nat := (s.getD 24 0).toNat
def bodyS (s : Sec) : List UInt8 := (s.drop 25).take (lenS s)
/-- Is it sealed at the place? -/
abbrev isS (a : Int) (s : Sec) : Prop := lenS s ≤ 103 ∧ 0 ≤ a ∧ a < 4096 ∧ packS a.toNat (genS s) (bodyS s) = s
theorem sumS_len (a : Nat) (s : List UInt8) : (sumS a s).length = 16 := litSum_len _ _
theorem restS_len {gen : Nat} {body : List UInt8} (h : body.length ≤ 103) : (restS gen body).length = 112 := by simp [restS, be_length]; omega
theorem packS_len {a gen : Nat} {body : List UInt8} (h : body.length ≤ 103) : (packS a gen body).length = 128 := by rw [packS, List.length_append, sumS_len, restS_len h]
theorem packS_drop (a gen : Nat) (body : List UInt8) : (packS a gen body).drop 16 = restS gen body := by rw [packS, List.drop_left' (sumS_len _ _)]
theorem packS_gen {a gen : Nat} {body : List UInt8} (h : gen < M64) : genS (packS a gen body) = gen := by
  rw [genS, packS_drop, restS, List.take_left' (be_length _ _), val_be]
  exact Nat.mod_eq_of_lt h
theorem rest_getD {gen : Nat} {body : List UInt8} (s : List UInt8) (hs : s.length = 16) : (s ++ restS gen body).getD 24 0 = UInt8.ofNat body.length := by
  have : (s ++ restS gen body)[24]? = some (UInt8.ofNat body.length) := by
    rw [List.getElem?_append_right (by omega), restS, List.getElem?_append_right (by rw [be_length]; omega), be_length, hs]
    rfl
  simp [List.getD, this]
theorem packS_lenS {a gen : Nat} {body : List UInt8} (h : body.length ≤ 103) : lenS (packS a gen body) = body.length := by
  rw [lenS, packS, rest_getD _ (sumS_len _ _)]
  simp; omega
theorem packS_body {a gen : Nat} {body : List UInt8} (h : body.length ≤ 103) : bodyS (packS a gen body) = body := by
  rw [bodyS, packS_lenS h, show 25 = 16 + 9 by omega, ← List.drop_drop, packS_drop, restS]
  rw [show be gen 8 ++ (UInt8.ofNat body.length :: (body ++ List.replicate (103 - body.length) 0)) = (be gen 8 ++ [UInt8.ofNat body.length]) ++ (body ++ List.replicate (103 - body.length) 0) by simp]
  rw [List.drop_left' (by simp [be_length]), List.take_left' rfl]
theorem packS_isS {a : Int} {gen : Nat} {body : List UInt8} (h : packOk a body) (hg : gen < M64) : isS a (packS a.toNat gen body) := by
  obtain ⟨h1, h2, h3⟩ := h
  refine ⟨by rw [packS_lenS h3]; exact h3, h1, h2, ?_⟩
  rw [packS_gen hg, packS_body h3]
theorem genS_lt {s : Sec} : genS s < M64 := by
  have h1 := val_lt ((s.drop 16).take 8)
  have h2 : (256 : Nat) ^ ((s.drop 16).take 8).length ≤ 256 ^ 8 := Nat.pow_le_pow_right (by decide) (by simp; omega)
  exact Nat.lt_of_lt_of_le h1 h2
theorem bodyS_len {s : Sec} (hs : s.length = 128) (h : lenS s ≤ 103) : (bodyS s).length = lenS s := by simp [bodyS]; omega
theorem w8n {n : Nat} (h : n < 256) : IntKind.u8.wrap (n : Int) = ((UInt8.ofNat n).toNat : Int) := by rw [wu8 (by omega) (by omega)]; simp; omega
/-! ### A sector while it is packed -/
def pS1 (gen : Nat) : List UInt8 := List.replicate 16 0 ++ (be gen 8 ++ List.replicate 104 0)
def pS2 (gen n : Nat) : List UInt8 := List.replicate 16 0 ++ (be gen 8 ++ (UInt8.ofNat n :: List.replicate 103 0))
def pS3 (gen : Nat) (body : List UInt8) : List UInt8 := List.replicate 16 0 ++ restS gen body
theorem pS1_len (gen : Nat) : (pS1 gen).length = 128 := by simp [pS1, be_length]
theorem pS2_len (gen n : Nat) : (pS2 gen n).length = 128 := by simp [pS2, be_length]
theorem pS3_len {gen : Nat} {body : List UInt8} (h : body.length ≤ 103) : (pS3 gen body).length = 128 := by rw [pS3, List.length_append, restS_len h]; rfl
theorem pk1 (gen : Nat) : spl (bs (secOf 0)) 16 (bs (be gen 8)) = bs (pS1 gen) := by
  rw [spl_bs (by simp [be_length, secOf]), be_length]
  simp [secOf, pS1]
theorem pk2 {gen n : Nat} : (bs (pS1 gen)).set 24 (.int .u8 ((UInt8.ofNat n).toNat : Int)) = bs (pS2 gen n) := by
  rw [show (Value.int .u8 ((UInt8.ofNat n).toNat : Int)) = u8 (UInt8.ofNat n) from rfl, bs_set, pS1, pS2, List.set_append_right _ _ (by simp), List.set_append_right _ _ (by simp [be_length])]
  simp [be_length, List.replicate_succ]
theorem pk3 {gen : Nat} {body : List UInt8} (h : body.length ≤ 103) : spl (bs (pS2 gen body.length)) 25 (bs body) = bs (pS3 gen body) := by
  have e : pS2 gen body.length = (List.replicate 16 0 ++ (be gen 8 ++ [UInt8.ofNat body.length])) ++ List.replicate 103 0 := by simp [pS2]
  have hl : (List.replicate 16 (0 : UInt8) ++ (be gen 8 ++ [UInt8.ofNat body.length])).length = 25 := by simp [be_length]
  rw [spl_bs (by rw [pS2_len]; omega)]
  congr 1
  rw [e, List.take_left' hl, ← List.drop_drop, List.drop_left' hl, List.drop_replicate]
  simp [pS3, restS]
theorem pk4 {gen : Nat} {body x : List UInt8} (hx : x.length = 16) : spl (bs (pS3 gen body)) 0 (bs x) = bs (x ++ restS gen body) := by
  rw [spl_bs (by simp [pS3, hx])]
  congr 1
  rw [pS3, hx, Nat.zero_add, List.drop_left' (by simp)]
  simp
theorem pS3_sum {a gen : Nat} {body : List UInt8} : sumS a (pS3 gen body) ++ restS gen body = packS a gen body := rfl
/-! ### What both tell -/
def packR (a : Int) (gen : Nat) (body : List UInt8) : Sec := if packOk a body then packS a.toNat gen body else secOf 0
def unpG (a : Int) (s : Sec) : Nat := if isS a s then genS s else 0
def unpB (a : Int) (s : Sec) : List UInt8 := if isS a s then bodyS s else []
theorem packR_len (a : Int) (gen : Nat) (body : List UInt8) : (packR a gen body).length = 128 := by
  unfold packR; split
  · rename_i h; exact packS_len h.2.2
  · exact secOf_len 0
/-! ### The document's packing -/
theorem map_set {α : Type} (f f' : Nat → α) (n i : Nat) (h : ∀ j, j ≠ i → f j = f' j) : ((List.range n).map f).set i (f' i) = (List.range n).map f' := by
  apply List.ext_getElem?
  intro j
  rw [List.getElem?_set]
  by_cases hj : i = j
  · subst hj
    by_cases hi : i < n <;> simp [hi]
  · simp only [hj, if_false, List.getElem?_map]
    by_cases hi : j < n
    · simp [hi, h j (Ne.symm hj)]
    · simp [List.getElem?_eq_none (show (List.range n).length ≤ j by simp; omega)]
def rB (gen k : Nat) : List UInt8 := (List.range 8).map fun j => if 8 ≤ j + k then UInt8.ofNat (gen / 256 ^ (7 - j) % 256) else 0
def rP0 (gen k : Nat) : List UInt8 := List.replicate 16 0 ++ (rB gen k ++ List.replicate 104 0)
def rP2 (gen : Nat) (body : List UInt8) (i : Nat) : List UInt8 := (List.replicate 16 0 ++ (be gen 8 ++ [UInt8.ofNat body.length])) ++ ((body.take i ++ List.replicate (103 - i) 0) ++ [])
def rP4 (gen : Nat) (body x : List UInt8) (i : Nat) : List UInt8 := [] ++ ((x.take i ++ List.replicate (16 - i) 0) ++ restS gen body)
/-! ### Laws -/
/-- The document's example. -/
abbrev abc : List UInt8 := [97, 98, 99]
def abcS : Sec := packS 5 7 abc
end Go.Sl

/- walks (own work; the walks' lines by a program of this repo). -/
set_option linter.unusedVariables false
set_option linter.unusedSimpArgs false
set_option maxRecDepth 20000
namespace Go.Proofs.Ytighbhplfjjgpaa
open Go.Sl
attribute [local irreducible] BodyQ WpC WpL WpS WpH OpW FnS


theorem litsum_s {w0 : World} {H : Hp} {b off cap T : Nat} {fr : Nat × Nat} {l : List Value} (u : List UInt8) (hs : Sees (fun w => St w0 w H) b (.cells l.toArray T fr)) (hv : (l.drop off).take u.length = bs u) (hu : u.length ≤ 100000) (k : List UInt8) (hk : k.length = 32) : FnS Try.prog w0 122 #[.agg (bs k).toArray, .slice (some ⟨b, off, none⟩) u.length cap] H (fun e H' => e = .returned (.agg (bs (litSum k u)).toArray) ∧ H' = H) := by
  refine FnS_intro (n := 52) (rs := [.cell 4 137]) (vs := [.agg (bs k).toArray, .slice (some ⟨b, off, none⟩) u.length cap]) Try.func122 rfl Try.ntmps122 rfl rfl ?_
  refine C_seq (C_region ?_)
  refine L_op rfl (op_box rfl rfl rfl (fun B1 => ?_))
  refine L_op rfl (op_alloc zl_137 rfl (fun B2 => ?_))
  refine L_nil (C_seq (C_region (LY rfl (y_move rfl) ?_)))
  refine LY rfl (y_lenS rfl rfl Try.underlying71) ?_
  refine LY rfl (y_conv rfl us_3 Try.underlying48 (wu64_mod _)) ?_
  refine LY rfl (y_assign rfl) (L_nil (C_seq (C_seq (C_region (LY rfl (y_assign rfl) (L_nil (C_block ?_)))))))
  refine C_loop (ι := Nat) (fun i => [(5, .int .u64 ((ls1 (u.length % M64) (k.take i) : Nat) : Int)), (6, .int .i64 (i : Int)), (1, .slice (some ⟨b, off, none⟩) u.length cap), (2, .pointer (some ⟨B1, 0, none⟩)), (4, .pointer (some ⟨B2, 0, none⟩))]) (fun i => [(B2, .cells (List.replicate 16 (Value.int .u8 0)).toArray 137)] :: [(B1, .cells (bs k).toArray 64)] :: H) (fun i => i ≤ 32) (fun i => 32 - i) 0 (Nat.zero_le _) ⟨rfl, rfl, rfl, rfl, rfl, trivial⟩ (HSub.refl _) (fun i hi => ?_)
  skip
  refine C_seq (C_seq (C_region (LY rfl (y_move rfl) (LY rfl (y_lss rfl rfl) (L_nil ?_)))))
  refine C_cond rfl (fun hc0 => ?_) (fun hc0 => ?_)
  · replace hc0 := of_decide_eq_true hc0
    refine C_skip (C_seq (C_block (C_region (LY rfl (y_move rfl) (LY rfl (y_move rfl) ?_)))))
    refine LY rfl (y_indexA rfl rfl Try.underlying64 sz_5 (by omega) (by omega) rfl) ?_
    refine LY rfl (y_load rfl ag_5 (sees 1 0 rfl) (getb (bs_whole0 k hk) (by omega) hk)) ?_
    have hb := (k.getD i 0).toNat_lt
    refine LY rfl (y_conv rfl us_5 Try.underlying48 (wu64 (by omega) (by omega))) ?_
    refine LY rfl (y_add rfl rfl rfl) ?_
    refine LY rfl (y_mul rfl rfl (ls1_step (by omega))) ?_
    refine LY rfl (y_assign rfl) (L_nil (C_region (LY rfl (y_move rfl) ?_)))
    refine LY rfl (y_add rfl rfl (wi64 (by omega) (by omega))) ?_
    refine LY rfl (y_assign rfl) (L_nil ?_)
    exact ⟨i + 1, by omega, by omega, ⟨rfl, rfl, rfl, rfl, rfl, trivial⟩, HSub.refl _⟩
  · replace hc0 := of_decide_eq_false hc0
    refine C_exit (C_seq (C_seq ?_))
    obtain rfl : i = 32 := by omega
    rw [show k.take 32 = k from List.take_of_length_le (by omega)]
    refine C_region (LY rfl (y_assign rfl) (L_nil (C_block ?_)))
    refine C_loop (ι := Nat) (fun i => [(5, .int .u64 ((ls2 (ls1 (u.length % M64) k) (u.take i) : Nat) : Int)), (7, .int .i64 (i : Int)), (1, .slice (some ⟨b, off, none⟩) u.length cap), (4, .pointer (some ⟨B2, 0, none⟩))]) (fun i => [(B2, .cells (List.replicate 16 (Value.int .u8 0)).toArray 137)] :: H) (fun i => i ≤ u.length) (fun i => u.length - i) 0 (Nat.zero_le _) ⟨by rw [show ls2 (ls1 (u.length % M64) k) (u.take 0) = (ls1 (u.length % M64) k) from by rw [List.take_zero]; exact List.foldl_nil]; rfl, rfl, rfl, rfl, trivial⟩ (hsub (.cons_cons _ (.cons _ (.refl _)))) (fun i hi => ?_)
    skip
    refine C_seq (C_seq (C_region (LY rfl (y_move rfl) (LY rfl (y_move rfl) ?_))))
    refine LY rfl (y_lenS rfl rfl Try.underlying71) ?_
    refine LY rfl (y_lss rfl rfl) (L_nil ?_)
    refine C_cond rfl (fun hc1 => ?_) (fun hc1 => ?_)
    · replace hc1 := of_decide_eq_true hc1
      refine C_skip (C_seq (C_block (C_region (LY rfl (y_move rfl) (LY rfl (y_move rfl) (LY rfl (y_move rfl) ?_))))))
      refine LY rfl (y_indexS rfl rfl Try.underlying71 sz_5 (by omega) (by omega) rfl) ?_
      refine LY rfl (y_load rfl ag_5 (hs.up) (getb hv (by omega) rfl)) ?_
      have hb := (u.getD i 0).toNat_lt
      refine LY rfl (y_conv rfl us_5 Try.underlying48 (wu64 (by omega) (by omega))) ?_
      refine LY rfl (y_add rfl rfl rfl) ?_
      refine LY rfl (y_add rfl rfl rfl) ?_
      refine LY rfl (y_mul rfl rfl (ls2_step (by omega))) ?_
      refine LY rfl (y_assign rfl) (L_nil (C_region (LY rfl (y_move rfl) ?_)))
      refine LY rfl (y_add rfl rfl (wi64 (by omega) (by omega))) ?_
      refine LY rfl (y_assign rfl) (L_nil ?_)
      exact ⟨i + 1, by omega, by omega, ⟨rfl, rfl, rfl, rfl, trivial⟩, HSub.refl _⟩
    · replace hc1 := of_decide_eq_false hc1
      refine C_exit (C_seq ?_)
      obtain rfl : i = u.length := by omega
      rw [List.take_length]
      refine C_region ?_
      refine L_op rfl (op_alloc zl_137 rfl (fun B3 => ?_))
      refine L_nil (C_seq (C_seq (C_region (LY rfl (y_assign rfl) (L_nil (C_block ?_))))))
      refine C_loop (ι := Nat) (fun i => [(5, .int .u64 ((lsX (ls2 (ls1 (u.length % M64) k) u) i : Nat) : Int)), (9, .int .i64 (i : Int)), (8, .pointer (some ⟨B3, 0, none⟩)), (4, .pointer (some ⟨B2, 0, none⟩))]) (fun i => [(B3, .cells (bs ((litO (ls2 (ls1 (u.length % M64) k) u)).take i ++ List.replicate (16 - i) 0)).toArray 137)] :: [(B2, .cells (List.replicate 16 (Value.int .u8 0)).toArray 137)] :: H) (fun i => i ≤ 16) (fun i => 16 - i) 0 (Nat.zero_le _) ⟨by rw [show lsX (ls2 (ls1 (u.length % M64) k) u) 0 = (ls2 (ls1 (u.length % M64) k) u) from lsX.eq_1 _]; rfl, rfl, rfl, rfl, trivial⟩ (HSub.of_eq rfl) (fun i hi => ?_)
      skip
      refine C_seq (C_seq (C_region (LY rfl (y_move rfl) (LY rfl (y_lss rfl rfl) (L_nil ?_)))))
      refine C_cond rfl (fun hc2 => ?_) (fun hc2 => ?_)
      · replace hc2 := of_decide_eq_true hc2
        refine C_skip (C_seq (C_block (C_seq (C_region (LY rfl (y_move rfl) ?_)))))
        refine LY rfl (y_mul rfl rfl rfl) ?_
        refine LY rfl (y_add rfl rfl (lsX_step _ _)) ?_
        refine LY rfl (y_assign rfl) (L_nil (C_region (LY rfl (y_move rfl) (LY rfl (y_move rfl) ?_))))
        refine LY rfl (y_shr rfl rfl (by decide) rfl) ?_
        refine LY rfl (y_conv rfl us_48 Try.underlying5 (lit_byte _ _)) ?_
        refine LY rfl (y_indexA rfl rfl Try.underlying137 sz_5 (by omega) (by omega) (show _ = i from by simp)) ?_
        refine L_op rfl (op_store1 0 0 rfl rfl rfl sz_5 rfl (by simp [bs_length, litO_len]; omega) ?_)
        refine L_nil (C_region (LY rfl (y_move rfl) ?_))
        refine LY rfl (y_add rfl rfl (wi64 (by omega) (by omega))) ?_
        refine LY rfl (y_assign rfl) (L_nil ?_)
        exact ⟨i + 1, by omega, by omega, ⟨rfl, rfl, rfl, rfl, trivial⟩, HSub.of_eq (by rw [← put_step (litO_len _) (by omega) (litO_get (by omega))]; rfl)⟩
      · replace hc2 := of_decide_eq_false hc2
        refine C_exit (C_seq ?_)
        obtain rfl : i = 16 := by omega
        rw [show (litO (ls2 (ls1 (u.length % M64) k) u)).take 16 ++ List.replicate (16 - 16) 0 = litSum k u from by rw [List.take_of_length_le (by rw [litO_len]; exact Nat.le_refl _)]; simp [litSum]]
        refine C_region ?_
        refine LY rfl (y_loadA rfl ag_137 sz_137 (sees 0 0 rfl) (by rw [bs_length, litSum_len]; decide) (bs_whole0 _ (litSum_len _ _))) ?_
        refine L_op rfl (op_storeA 1 0 rfl rfl rfl sz_137 (by rw [bs_length, litSum_len]) rfl (bs_one _) rfl ?_)
        refine L_nil (C_ret ?_)
        refine B_ret (rv_cellA rfl ag_137 sz_137 (sees 1 0 rfl) (by rw [bs_length, litSum_len]; decide) (bs_whole0 _ (litSum_len _ _)) rv_nil) (hsub (.cons _ (.cons _ (.refl _)))) ?_
        exact ⟨rfl, rfl⟩

theorem litm_s {w0 : World} {H : Hp} (zc : List Value) {b off cap T : Nat} {fr : Nat × Nat} {l : List Value} (u : List UInt8) (hs : Sees (fun w => St w0 w H) b (.cells l.toArray T fr)) (hv : (l.drop off).take u.length = bs u) (hu : u.length ≤ 100000) (k : List UInt8) (hk : k.length = 32) : FnS Try.prog w0 121 #[.agg zc.toArray, .agg (bs k).toArray, .slice (some ⟨b, off, none⟩) u.length cap] H (fun e H' => e = .returned (.agg (bs (litSum k u)).toArray) ∧ H' = H) := by
  refine FnS_intro (n := 10) (rs := [.cell 6 137]) (vs := [.agg zc.toArray, .agg (bs k).toArray, .slice (some ⟨b, off, none⟩) u.length cap]) Try.func121 rfl Try.ntmps121 rfl rfl ?_
  refine C_seq (C_region ?_)
  refine L_op rfl (op_box rfl rfl rfl (fun B1 => ?_))
  refine L_op rfl (op_box rfl rfl rfl (fun B2 => ?_))
  refine L_op rfl (op_alloc zl_137 rfl (fun B3 => ?_))
  refine L_nil (C_seq (C_region ?_))
  refine LY rfl (y_loadA rfl ag_64 sz_64 (sees 1 0 rfl) (by rw [bs_length, hk]; decide) (bs_whole0 _ hk)) ?_
  refine LY rfl (y_move rfl) ?_
  refine L_op rfl (op_call rfl rfl (fun a w => Try.call122 a w) rfl ?_)
  refine (litsum_s u (hs.up.up.up) hv hu k hk).mono ?_
  rintro _ _ ⟨rfl, rfl⟩
  refine ⟨_, rfl, ?_⟩
  refine L_op rfl (op_storeA 0 0 rfl rfl rfl sz_137 (by rw [bs_length, litSum_len]) rfl (bs_one _) rfl ?_)
  refine L_nil (C_ret ?_)
  refine B_ret (rv_cellA rfl ag_137 sz_137 (sees 0 0 rfl) (by rw [bs_length, litSum_len]; decide) (bs_whole0 _ (litSum_len _ _)) rv_nil) (hsub (.cons _ (.cons _ (.cons _ (.refl _))))) ?_
  exact ⟨rfl, rfl⟩

end Go.Proofs.Ytighbhplfjjgpaa

/- walks (own work; the walks' lines by a program of this repo). -/
set_option linter.unusedVariables false
set_option linter.unusedSimpArgs false
set_option maxRecDepth 20000
namespace Go.Proofs.Ytighbhplfjjgpaa
open Go.Sl
attribute [local irreducible] BodyQ WpC WpL WpS WpH OpW FnS


theorem put_s {w0 : World} {H : Hp} (m k : Nat) (hm : m < 18446744073709551616) (hk1 : 1 ≤ k) (hk : k ≤ 8) : FnS Try.prog w0 68 #[.int .u64 (m : Int), .int .i64 (k : Int)] H (fun e H' => ∃ b, e = .returned (.slice (some ⟨b, 0, none⟩) k k) ∧ H' = [(b, .cells (bs (be m k)).toArray 5)] :: H) := by
  refine FnS_intro (n := 34) (rs := [.tmp 4]) (vs := [.int .u64 (m : Int), .int .i64 (k : Int)]) Try.func68 rfl Try.ntmps68 rfl rfl ?_
  refine C_seq (C_region (LY rfl (y_assign rfl) (L_nil (C_seq (C_seq (C_region (LY rfl (y_move rfl) (LY rfl (y_lss rfl rfl) (LY rfl (y_move rfl) ?_)))))))))
  refine L_case 9 rfl (fun hg1_3 => ?_) (fun hg1_3 => ?_)
  · exact absurd (of_decide_eq_true hg1_3) (by omega)
  · skip
    refine LY rfl (y_move rfl) ?_
    refine LY rfl (y_gtr rfl rfl) ?_
    refine LY rfl (y_pick_f rfl rfl) (L_nil ?_)
    refine C_cond rfl (fun hc0 => absurd hc0 (by simp <;> omega)) (fun hc0 => ?_)
    refine C_skip (C_seq (C_region (LY rfl (y_move rfl) ?_)))
    refine L_op rfl (op_makeSlice rfl Try.underlying71 by_5 sz_5 zl_5 rfl (by omega) (by omega) (by omega) rfl (fun B1 => ?_))
    refine LY rfl (y_assign rfl) (L_nil (C_seq (C_seq (C_region (LY rfl (y_move rfl) ?_)))))
    refine LY rfl (y_lenS rfl rfl Try.underlying71) ?_
    refine LY rfl (y_move rfl) (L_nil (C_block ?_))
    refine C_loop (ι := Nat) (fun i => [(0, .int .u64 (m : Int)), (1, .int .i64 (k : Int)), (5, .slice (some ⟨B1, 0, none⟩) k k), (16, .int .i64 (k : Int)), (17, .int .i64 (i : Int))]) (fun i => [(B1, .cells (bs ((be m k).take i ++ List.replicate (k - i) 0)).toArray 5)] :: H) (fun i => i ≤ k) (fun i => k - i) 0 (Nat.zero_le _) ⟨rfl, rfl, rfl, rfl, rfl, trivial⟩ (HSub.of_eq (by simp [zc8])) (fun i hi => ?_)
    skip
    refine C_seq (C_region (LY rfl (y_lss rfl rfl) (L_nil (C_seq ?_))))
    refine C_cond rfl (fun hc1 => ?_) (fun hc1 => ?_)
    · replace hc1 := of_decide_eq_true hc1
      refine C_skip (C_seq (C_block (C_seq (C_region (LY rfl (y_move rfl) (LY rfl (y_assign rfl) (L_nil (C_region (LY rfl (y_move rfl) (LY rfl (y_move rfl) (LY rfl (y_move rfl) (LY rfl (y_move rfl) ?_))))))))))))
      refine LY rfl (y_sub rfl rfl (wi64 (by omega) (by omega))) ?_
      refine LY rfl (y_move rfl) ?_
      refine LY rfl (y_sub rfl rfl (wi64 (by omega) (by omega))) ?_
      refine LY rfl (y_conv rfl us_3 Try.underlying144 (wu64 (by omega) (by omega))) ?_
      refine LY rfl (y_mul rfl rfl (wu64 (by omega) (by omega))) ?_
      refine LY rfl (y_shr rfl rfl (by omega) rfl) ?_
      refine LY rfl (y_conv rfl us_48 Try.underlying5 (put_byte (by omega) hk)) ?_
      refine LY rfl (y_indexS rfl rfl Try.underlying71 sz_5 (by omega) (by omega) (show _ = i from by simp)) ?_
      refine L_op rfl (op_store1 0 0 rfl rfl rfl sz_5 rfl (by simp [bs_length, be_length]; omega) ?_)
      refine L_nil (C_region ?_)
      refine LY rfl (y_add rfl rfl (wi64 (by omega) (by omega))) ?_
      refine LY rfl (y_move rfl) (L_nil ?_)
      exact ⟨i + 1, by omega, by omega, ⟨rfl, rfl, rfl, rfl, rfl, trivial⟩, HSub.of_eq (by rw [← put_step (be_length m k) (by omega) (be_get (by omega))]; rfl)⟩
    · replace hc1 := of_decide_eq_false hc1
      refine C_exit (C_seq (C_region (LY rfl (y_move rfl) (LY rfl (y_assign rfl) (L_nil (C_ret ?_))))))
      refine B_ret (rv_tmp rfl rv_nil) (HSub.refl _) ?_
      obtain rfl : i = k := by omega
      exact ⟨B1, rfl, by simp [List.take_of_length_le, be_length]⟩

theorem get_s0 {w0 : World} {H : Hp} {b off cap T : Nat} {fr : Nat × Nat} {l : List Value} (u : List UInt8) (hs : Sees (fun w => St w0 w H) b (.cells l.toArray T fr)) (hv : (l.drop off).take u.length = bs u) (h1 : 1 ≤ u.length) (h8 : u.length ≤ 8) : FnS Try.prog w0 64 #[.slice (some ⟨b, off, none⟩) u.length cap] H (fun e H' => e = .returned (.tuple #[.int .u64 (val u : Int), .bool true]) ∧ H' = H) := by
  refine FnS_intro (n := 28) (rs := [.tmp 2, .tmp 3]) (vs := [.slice (some ⟨b, off, none⟩) u.length cap]) Try.func64 rfl Try.ntmps64 rfl rfl ?_
  refine C_seq (C_region (LY rfl (y_assign rfl) (LY rfl (y_assign rfl) (L_nil (C_seq (C_seq (C_region (LY rfl (y_move rfl) ?_))))))))
  refine LY rfl (y_lenS rfl rfl Try.underlying71) ?_
  refine LY rfl (y_lss rfl rfl) (LY rfl (y_move rfl) ?_)
  refine L_case 10 rfl (fun hg1_4 => ?_) (fun hg1_4 => ?_)
  · exact absurd (of_decide_eq_true hg1_4) (by omega)
  · skip
    refine LY rfl (y_move rfl) ?_
    refine LY rfl (y_lenS rfl rfl Try.underlying71) ?_
    refine LY rfl (y_gtr rfl rfl) ?_
    refine LY rfl (y_pick_f rfl rfl) (L_nil ?_)
    refine C_cond rfl (fun hc0 => absurd hc0 (by simp <;> omega)) (fun hc0 => ?_)
    refine C_skip (C_seq (C_region (LY rfl (y_assign rfl) (L_nil (C_seq (C_seq (C_region (LY rfl (y_move rfl) ?_))))))))
    refine LY rfl (y_lenS rfl rfl Try.underlying71) ?_
    refine LY rfl (y_move rfl) (L_nil (C_block ?_))
    refine C_loop (ι := Nat) (fun i => [(4, .int .u64 ((val (u.take i) : Nat) : Int)), (15, .slice (some ⟨b, off, none⟩) u.length cap), (16, .int .i64 (u.length : Int)), (17, .int .i64 (i : Int))]) (fun i => H) (fun i => i ≤ u.length) (fun i => u.length - i) 0 (Nat.zero_le _) ⟨rfl, rfl, rfl, rfl, trivial⟩ (HSub.refl _) (fun i hi => ?_)
    skip
    refine C_seq (C_region (LY rfl (y_lss rfl rfl) (L_nil (C_seq ?_))))
    refine C_cond rfl (fun hc1 => ?_) (fun hc1 => ?_)
    · replace hc1 := of_decide_eq_true hc1
      refine C_skip (C_seq (C_block (C_seq (C_region ?_))))
      refine LY rfl (y_indexS rfl rfl Try.underlying71 sz_5 (by omega) (by omega) rfl) ?_
      refine LY rfl (y_load rfl ag_5 (hs) (getb hv (by omega) rfl)) ?_
      refine LY rfl (y_assign rfl) (L_nil (C_region (LY rfl (y_move rfl) ?_)))
      have hb := (u.getD i 0).toNat_lt
      refine LY rfl (y_shl rfl rfl (by decide) rfl) ?_
      refine LY rfl (y_move rfl) ?_
      refine LY rfl (y_conv rfl us_5 Try.underlying48 (wu64 (by omega) (by omega))) ?_
      refine LY rfl (y_or rfl rfl (get_step (val_take_lt (by omega)))) ?_
      refine LY rfl (y_assign rfl) (L_nil (C_region ?_))
      refine LY rfl (y_add rfl rfl (wi64 (by omega) (by omega))) ?_
      refine LY rfl (y_move rfl) (L_nil ?_)
      refine ⟨i + 1, by omega, by omega, ⟨?_, rfl, rfl, rfl, trivial⟩, HSub.refl _⟩
      rw [val_take (by omega)]
      rfl
    · replace hc1 := of_decide_eq_false hc1
      refine C_exit (C_seq (C_region (LY rfl (y_move rfl) (LY rfl (y_assign rfl) (LY rfl (y_assign rfl) (L_nil (C_ret ?_)))))))
      refine B_ret (rv_tmp rfl (rv_tmp rfl rv_nil)) (HSub.refl _) ?_
      obtain rfl : i = u.length := by omega
      exact ⟨by rw [List.take_length]; rfl, rfl⟩

theorem get_s {w0 : World} {H : Hp} {b off cap T len : Nat} {fr : Nat × Nat} {l : List Value} (u : List UInt8) (hs : Sees (fun w => St w0 w H) b (.cells l.toArray T fr)) (hv : (l.drop off).take len = bs u) (hu : u.length = len) (h1 : 1 ≤ len) (h8 : len ≤ 8) : FnS Try.prog w0 64 #[.slice (some ⟨b, off, none⟩) len cap] H (fun e H' => e = .returned (.tuple #[.int .u64 (val u : Int), .bool true]) ∧ H' = H) := by
  subst hu
  exact get_s0 u hs hv h1 h8

end Go.Proofs.Ytighbhplfjjgpaa

/- walks (own work; the walks' lines by a program of this repo). -/
set_option linter.unusedVariables false
set_option linter.unusedSimpArgs false
set_option maxRecDepth 20000
namespace Go.Proofs.Ytighbhplfjjgpaa
open Go.Sl
attribute [local irreducible] BodyQ WpC WpL WpS WpH OpW FnS


theorem place_s {w0 : World} {H : Hp} (a : Int) : FnS Try.prog w0 67 #[.int .i64 a] H (fun e H' => e = .returned (.bool (decide (0 ≤ a ∧ a < 4096))) ∧ H' = H) := by
  refine FnS_intro (n := 9) (rs := [.tmp 2]) (vs := [.int .i64 a]) Try.func67 rfl Try.ntmps67 rfl rfl ?_
  refine C_seq (C_region (LY rfl (y_assign rfl) (L_nil (C_seq (C_region (LY rfl (y_move rfl) ?_))))))
  refine LY rfl (y_geq rfl rfl) ?_
  refine LY rfl (y_move rfl) ?_
  refine L_case 5 rfl (fun hg1_3 => ?_) (fun hg1_3 => ?_)
  · skip
    refine LY rfl (y_move rfl) (LY rfl (y_lss rfl rfl) (LY rfl (y_pick_t rfl rfl) (LY rfl (y_assign rfl) (L_nil (C_ret ?_)))))
    refine B_ret (rv_tmp rfl rv_nil) (HSub.refl _) ?_
    refine ⟨ret_bool ?_, rfl⟩
    simp_all <;> omega
  · skip
    refine L_skip rfl rfl (L_skip rfl rfl (LY rfl (y_pick_f rfl rfl) (LY rfl (y_assign rfl) (L_nil (C_ret ?_)))))
    refine B_ret (rv_tmp rfl rv_nil) (HSub.refl _) ?_
    refine ⟨ret_bool ?_, rfl⟩
    simp_all <;> omega

theorem place_t {w0 : World} {H : Hp} {a : Int} (h : (0 ≤ a ∧ a < 4096)) : FnS Try.prog w0 67 #[.int .i64 a] H (fun e H' => e = .returned (.bool true) ∧ H' = H) := (place_s a).mono fun e H' ⟨h1, h2⟩ => ⟨h1.trans (ret_bool (by simp [h])), h2⟩

theorem place_f {w0 : World} {H : Hp} {a : Int} (h : ¬ (0 ≤ a ∧ a < 4096)) : FnS Try.prog w0 67 #[.int .i64 a] H (fun e H' => e = .returned (.bool false) ∧ H' = H) := (place_s a).mono fun e H' ⟨h1, h2⟩ => ⟨h1.trans (ret_bool (by simp [h])), h2⟩

theorem sum_s {w0 : World} {H : Hp} {zc : List Value} (a : Nat) (ha : a < 4096) (s : List UInt8) (hs : s.length = 128) : FnS Try.prog w0 69 #[.iface 67 (.agg zc.toArray), .int .i64 (a : Int), .agg (bs s).toArray] H (fun e H' => e = .returned (.agg (bs (sumS a s)).toArray) ∧ H' = H) := by
  refine FnS_intro (n := 20) (rs := [.cell 6 137]) (vs := [.iface 67 (.agg zc.toArray), .int .i64 (a : Int), .agg (bs s).toArray]) Try.func69 rfl Try.ntmps69 rfl rfl ?_
  refine C_seq (C_region ?_)
  refine L_op rfl (op_box rfl rfl rfl (fun B1 => ?_))
  refine L_op rfl (op_alloc zl_137 rfl (fun B2 => ?_))
  refine L_nil (C_seq (C_region (LY rfl (y_move rfl) ?_)))
  refine LY rfl (y_conv rfl us_3 Try.underlying48 (wu64 (by omega) (by omega))) ?_
  refine L_op rfl (op_call rfl rfl (fun a w => Try.call68 a w) rfl ?_)
  refine (put_s a 4 (by omega) (by decide) (by decide)).mono ?_
  rintro _ _ ⟨BP, rfl, rfl⟩
  refine ⟨_, rfl, ?_⟩
  refine LY rfl (y_assign rfl) (L_nil (C_seq ?_))
  refine C_regionH H (by kernel_rfl) ?_
  refine HY 0 rfl (hsub (.cons _ (.cons _ (.cons _ (.refl _))))) rfl (y_move rfl) ?_
  refine HY 1 rfl (hsub (.cons _ (.cons _ (.cons _ (.refl _))))) rfl (y_buildA0 Try.underlying64 sz_5 zl_64) ?_
  refine HY 2 rfl (hsub (.cons _ (.cons _ (.cons _ (.refl _))))) rfl (y_move rfl) ?_
  refine HY 3 rfl (hsub (.cons _ (.cons _ (.cons _ (.refl _))))) rfl (y_sliceA_lo rfl rfl Try.underlying114 sz_5 (by omega) (by omega) (show _ = 16 from rfl)) ?_
  refine HY 5 rfl (hsub (.cons _ (.cons _ (.cons _ (.refl _))))) rfl (y_makeFunc rfl rfl) ?_
  refine HY 6 rfl (hsub (.cons _ (.cons _ (.cons _ (.refl _))))) rfl (y_nilCheckM rfl me_67_Sum rc_67) ?_
  refine HY 7 rfl (hsub (.cons _ (.cons _ (.cons _ (.refl _))))) rfl (y_move rfl) ?_
  refine H_one 4 rfl (by kernel_rfl) rfl (op_append (gs := some ⟨BP, 4, []⟩) (len := 4) (m := 112) (xs := bs (be a 4)) (vs := bs (s.drop 16)) 0 rfl rfl (by simp [slSeg, setS]) ⟨by simp [bs_length, be_length], by simp [bs_length, be_length]⟩ (src_slice (sees 2 0 rfl) (by rw [bs_length, hs]; decide) (by rw [bs_drop, bs_take, List.take_of_length_le (by simp [hs])])) (by simp [bs_length, hs]) (bs_one _) Try.underlying71 ni_71 sz_5 by_5 (by decide) zl_5 rfl (by decide) rfl (fun g hg => ?_))
  rw [← bs_append] at hg ⊢
  rw [show 4 + 112 = (be a 4 ++ s.drop 16).length from by simp [be_length, hs]]
  cases g with
  | none => exact slOk_none hg (by decide)
  | some g => ?_
  refine ⟨hsub (.cons _ (.cons _ (.cons _ (.refl _)))), ?_⟩
  refine H_one 8 rfl (by kernel_rfl) rfl (op_invoke rfl rfl me_67_Sum rc_67 (fun a w => Try.call121 a w) rfl ?_)
  refine FnS.mono (litm_s (l := bs (be a 4 ++ s.drop 16) ++ g.sp) (off := 0) zc (be a 4 ++ s.drop 16) (by exact sees 0 0 rfl) (by rw [List.drop_zero, List.take_left' (bs_length _)]) (by simp [be_length, hs]) K0 K0_len) ?_
  rintro _ _ ⟨rfl, rfl⟩
  refine ⟨_, rfl, ?_⟩
  refine ⟨hsub (.cons _ (.cons _ (.cons _ (.refl _)))), ?_⟩
  refine H_one 9 rfl (by kernel_rfl) rfl (op_storeA 1 0 rfl rfl rfl sz_137 (by rw [bs_length, litSum_len]) rfl (bs_one _) rfl ?_)
  refine ⟨hsub (.cons _ (.cons _ (.cons _ (.refl _)))), ?_⟩
  refine H_done (by kernel_rfl) ?_
  refine C_ret ?_
  refine B_ret (rv_cellA rfl ag_137 sz_137 (sees 1 0 rfl) (by rw [bs_length, litSum_len]; decide) (bs_whole0 _ (litSum_len _ _)) rv_nil) (hsub (.cons _ (.cons _ (.cons _ (.refl _))))) ?_
  exact ⟨rfl, rfl⟩

theorem pack_ok {w0 : World} {H : Hp} {zc : List Value} {pa : Option Addr} {cap : Nat} (gen : Nat) (hg : gen < M64) (body : List UInt8) (hB : Holds w0 H pa (bs body)) (a : Nat) (ha : a < 4096) (hl : body.length ≤ 103) : FnS Try.prog w0 55 #[.iface 67 (.agg zc.toArray), .int .i64 (a : Int), .int .u64 (gen : Int), .slice pa body.length cap] H (fun e H' => e = .returned (.tuple #[.agg (bs (packS a gen body)).toArray, .bool true]) ∧ H' = H) := by
  have hp : 0 ≤ (a : Int) ∧ (a : Int) < 4096 := by omega
  simp only [M64] at hg
  refine FnS_intro (n := 44) (rs := [.cell 8 114, .tmp 9]) (vs := [.iface 67 (.agg zc.toArray), .int .i64 (a : Int), .int .u64 (gen : Int), .slice pa body.length cap]) Try.func55 rfl Try.ntmps55 rfl rfl ?_
  refine C_seq (C_region ?_)
  refine L_op rfl (op_alloc zl_114 rfl (fun B1 => ?_))
  refine LY rfl (y_assign rfl) (L_nil (C_seq (C_region ?_)))
  refine L_op rfl (op_alloc zl_114 rfl (fun B2 => ?_))
  refine L_nil ?_
  rw [zsec]
  refine C_seq (C_seq (C_region (LY rfl (y_move rfl) ?_)))
  refine LY rfl (y_eqIf rfl rfl if_103) ?_
  refine LY rfl (y_move rfl) (LY rfl (y_move rfl) ?_)
  refine L_op rfl (op_call rfl rfl (fun a w => Try.call67 a w) rfl ?_)
  refine (place_t hp).mono ?_
  rintro _ _ ⟨rfl, rfl⟩
  refine ⟨_, rfl, ?_⟩
  refine LY rfl (y_not rfl) (LY rfl (y_pick_f rfl rfl) (LY rfl (y_move rfl) (LY rfl (y_move rfl) ?_)))
  refine LY rfl (y_lenS rfl rfl Try.underlying71) ?_
  refine LY rfl (y_gtr rfl rfl) ?_
  refine LY rfl (y_pick_f rfl rfl) (L_nil ?_)
  refine C_cond rfl (fun hc0 => absurd hc0 (by simp <;> omega)) (fun hc0 => ?_)
  refine C_skip (C_seq ?_)
  refine C_regionH H (by kernel_rfl) ?_
  refine HY 0 rfl (hsub (.cons _ (.cons _ (.refl _)))) rfl (y_sliceA_lo rfl rfl Try.underlying114 sz_5 (by omega) (by omega) (show _ = 16 from rfl)) ?_
  refine HY 1 rfl (hsub (.cons _ (.cons _ (.refl _)))) rfl (y_move rfl) ?_
  refine H_one 2 rfl (by kernel_rfl) rfl (op_call rfl rfl (fun a w => Try.call68 a w) rfl ?_)
  refine (put_s gen 8 (by omega) (by decide) (by decide)).mono ?_
  rintro _ _ ⟨BP, rfl, rfl⟩
  refine ⟨_, rfl, ?_⟩
  refine ⟨hsub (.cons _ (.cons _ (.cons _ (.refl _)))), ?_⟩
  refine H_one 3 rfl (by kernel_rfl) rfl (op_copyS (vs := bs (be gen 8)) 1 0 rfl rfl Try.underlying71 sz_5 (src_bytes (holds_bytes (sees 0 0 rfl) (by rw [List.drop_zero, List.take_of_length_le (by rw [bs_length, be_length]; decide)])) (be_length _ _)) (by decide) (by rw [bs_length, be_length, Nat.mul_one]) rfl (bs_one _) (by rw [bs_length]; rw [secOf_len]; decide) rfl ?_)
  rw [pk1]
  refine ⟨hsub (.cons _ (.cons _ (.cons _ (.refl _)))), ?_⟩
  refine H_done (by kernel_rfl) ?_
  refine C_seq (C_region (LY rfl (y_move rfl) ?_))
  refine LY rfl (y_lenS rfl rfl Try.underlying71) ?_
  refine LY rfl (y_conv rfl us_3 Try.underlying5 (w8n (by omega))) ?_
  refine LY rfl (y_indexA rfl rfl Try.underlying114 sz_5 (by omega) (by omega) (show _ = 24 from rfl)) ?_
  refine L_op rfl (op_store1 1 0 rfl rfl rfl sz_5 rfl (by rw [bs_length, pS1_len]; decide) ?_)
  refine L_nil ?_
  rw [pk2]
  refine C_seq (C_region ?_)
  refine LY rfl (y_sliceA_lo rfl rfl Try.underlying114 sz_5 (by omega) (by omega) (show _ = 25 from rfl)) ?_
  refine LY rfl (y_move rfl) ?_
  refine L_op rfl (op_copyS (vs := bs body) 1 0 rfl rfl Try.underlying71 sz_5 (src_bytes (hB.up.up.up) rfl) (by show _ ≤ 103; omega) (by rw [bs_length, Nat.mul_one]) rfl (bs_one _) (by rw [bs_length]; rw [pS2_len]; omega) rfl ?_)
  rw [pk3 hl]
  refine L_nil (C_seq (C_region (LY rfl (y_move rfl) (LY rfl (y_move rfl) ?_))))
  refine LY rfl (y_loadA rfl ag_114 sz_114 (sees 1 0 rfl) (by rw [bs_length, pS3_len hl]; decide) (bs_whole0 _ (pS3_len hl))) ?_
  refine L_op rfl (op_call rfl rfl (fun a w => Try.call69 a w) rfl ?_)
  refine (sum_s a ha (pS3 gen body) (pS3_len hl)).mono ?_
  rintro _ _ ⟨rfl, rfl⟩
  refine ⟨_, rfl, ?_⟩
  refine L_op rfl (op_alloc zl_137 rfl (fun B3 => ?_))
  refine L_op rfl (op_storeA 0 0 rfl rfl rfl sz_137 (by rw [bs_length, sumS_len]) rfl (bs_one _) rfl ?_)
  refine L_nil (C_seq ?_)
  refine C_regionT 2 (by kernel_rfl) (by kernel_rfl) ?_
  refine S_y rfl (y_sliceA_all rfl Try.underlying114 sz_5) rfl ?_
  refine S_y rfl (y_sliceA_all rfl Try.underlying137 sz_5) rfl ?_
  refine S_nil ?_
  refine L_op rfl (op_copyS (vs := bs (sumS a (pS3 gen body))) 2 0 rfl rfl Try.underlying71 sz_5 (src_bytes (holds_bytes (sees 0 0 rfl) (bs_whole0 _ rfl)) (sumS_len _ _)) (by decide) (by rw [bs_length, sumS_len, Nat.mul_one]) rfl (bs_one _) (by rw [bs_length]; rw [pS3_len hl]; decide) rfl ?_)
  rw [pk4 (sumS_len _ _), pS3_sum]
  refine L_nil (C_seq (C_region ?_))
  refine LY rfl (y_loadA rfl ag_114 sz_114 (sees 2 0 rfl) (by rw [bs_length, packS_len hl]; decide) (bs_whole0 _ (packS_len hl))) ?_
  refine L_op rfl (op_storeA 3 0 rfl rfl rfl sz_114 (by rw [bs_length, packS_len hl]) rfl (bs_one _) (by rw [bs_length, secOf_len]) ?_)
  refine LY rfl (y_assign rfl) (L_nil (C_ret ?_))
  refine B_ret (rv_cellA rfl ag_114 sz_114 (sees 3 0 rfl) (by rw [bs_length, packS_len hl]; decide) (bs_whole0 _ (packS_len hl)) (rv_tmp rfl rv_nil)) (hsub (.cons _ (.cons _ (.cons _ (.cons _ (.refl _)))))) ?_
  exact ⟨rfl, rfl⟩

theorem pack_f1 {w0 : World} {H : Hp} {zc : List Value} {pa : Option Addr} {cap : Nat} (gen : Nat) (hg : gen < M64) (body : List UInt8) (hB : Holds w0 H pa (bs body)) (a : Int) (hp : ¬ (0 ≤ a ∧ a < 4096)) : FnS Try.prog w0 55 #[.iface 67 (.agg zc.toArray), .int .i64 a, .int .u64 (gen : Int), .slice pa body.length cap] H (fun e H' => e = .returned (.tuple #[.agg (bs (secOf 0)).toArray, .bool false]) ∧ H' = H) := by
  refine FnS_intro (n := 44) (rs := [.cell 8 114, .tmp 9]) (vs := [.iface 67 (.agg zc.toArray), .int .i64 a, .int .u64 (gen : Int), .slice pa body.length cap]) Try.func55 rfl Try.ntmps55 rfl rfl ?_
  refine C_seq (C_region ?_)
  refine L_op rfl (op_alloc zl_114 rfl (fun B1 => ?_))
  refine LY rfl (y_assign rfl) (L_nil (C_seq (C_region ?_)))
  refine L_op rfl (op_alloc zl_114 rfl (fun B2 => ?_))
  refine L_nil ?_
  rw [zsec]
  refine C_seq (C_seq (C_region (LY rfl (y_move rfl) ?_)))
  refine LY rfl (y_eqIf rfl rfl if_103) ?_
  refine LY rfl (y_move rfl) (LY rfl (y_move rfl) ?_)
  refine L_op rfl (op_call rfl rfl (fun a w => Try.call67 a w) rfl ?_)
  refine (place_f hp).mono ?_
  rintro _ _ ⟨rfl, rfl⟩
  refine ⟨_, rfl, ?_⟩
  refine LY rfl (y_not rfl) (LY rfl (y_pick_f rfl rfl) (LY rfl (y_move rfl) (L_skip rfl rfl (L_skip rfl rfl (L_skip rfl rfl (LY rfl (y_pick_t rfl rfl) (L_nil (C_cond_t rfl (C_seq (C_region ?_))))))))))
  refine LY rfl (y_loadA rfl ag_114 sz_114 (sees 0 0 rfl) (by rw [bs_length, secOf_len]; decide) (bs_whole0 _ (secOf_len 0))) ?_
  refine L_op rfl (op_storeA 1 0 rfl rfl rfl sz_114 (by rw [bs_length, secOf_len]) rfl (bs_one _) (by rw [bs_length, secOf_len]) ?_)
  refine LY rfl (y_assign rfl) (L_nil (C_ret ?_))
  refine B_ret (rv_cellA rfl ag_114 sz_114 (sees 1 0 rfl) (by rw [bs_length, secOf_len]; decide) (bs_whole0 _ (secOf_len 0)) (rv_tmp rfl rv_nil)) (hsub (.cons _ (.cons _ (.refl _)))) ?_
  exact ⟨rfl, rfl⟩

theorem pack_f2 {w0 : World} {H : Hp} {zc : List Value} {pa : Option Addr} {cap : Nat} (gen : Nat) (hg : gen < M64) (body : List UInt8) (hB : Holds w0 H pa (bs body)) (a : Int) (hp : 0 ≤ a ∧ a < 4096) (hl : ¬ body.length ≤ 103) : FnS Try.prog w0 55 #[.iface 67 (.agg zc.toArray), .int .i64 a, .int .u64 (gen : Int), .slice pa body.length cap] H (fun e H' => e = .returned (.tuple #[.agg (bs (secOf 0)).toArray, .bool false]) ∧ H' = H) := by
  refine FnS_intro (n := 44) (rs := [.cell 8 114, .tmp 9]) (vs := [.iface 67 (.agg zc.toArray), .int .i64 a, .int .u64 (gen : Int), .slice pa body.length cap]) Try.func55 rfl Try.ntmps55 rfl rfl ?_
  refine C_seq (C_region ?_)
  refine L_op rfl (op_alloc zl_114 rfl (fun B1 => ?_))
  refine LY rfl (y_assign rfl) (L_nil (C_seq (C_region ?_)))
  refine L_op rfl (op_alloc zl_114 rfl (fun B2 => ?_))
  refine L_nil ?_
  rw [zsec]
  refine C_seq (C_seq (C_region (LY rfl (y_move rfl) ?_)))
  refine LY rfl (y_eqIf rfl rfl if_103) ?_
  refine LY rfl (y_move rfl) (LY rfl (y_move rfl) ?_)
  refine L_op rfl (op_call rfl rfl (fun a w => Try.call67 a w) rfl ?_)
  refine (place_t hp).mono ?_
  rintro _ _ ⟨rfl, rfl⟩
  refine ⟨_, rfl, ?_⟩
  refine LY rfl (y_not rfl) (LY rfl (y_pick_f rfl rfl) (LY rfl (y_move rfl) (LY rfl (y_move rfl) ?_)))
  refine LY rfl (y_lenS rfl rfl Try.underlying71) ?_
  refine LY rfl (y_gtr rfl rfl) ?_
  refine LY rfl (y_pick_f rfl rfl) (L_nil ?_)
  refine C_cond rfl (fun hc0 => ?_) (fun hc0 => absurd hc0 (by simp <;> omega))
  refine C_seq (C_region ?_)
  refine LY rfl (y_loadA rfl ag_114 sz_114 (sees 0 0 rfl) (by rw [bs_length, secOf_len]; decide) (bs_whole0 _ (secOf_len 0))) ?_
  refine L_op rfl (op_storeA 1 0 rfl rfl rfl sz_114 (by rw [bs_length, secOf_len]) rfl (bs_one _) (by rw [bs_length, secOf_len]) ?_)
  refine LY rfl (y_assign rfl) (L_nil (C_ret ?_))
  refine B_ret (rv_cellA rfl ag_114 sz_114 (sees 1 0 rfl) (by rw [bs_length, secOf_len]; decide) (bs_whole0 _ (secOf_len 0)) (rv_tmp rfl rv_nil)) (hsub (.cons _ (.cons _ (.refl _)))) ?_
  exact ⟨rfl, rfl⟩

theorem pack_no {w0 : World} {H : Hp} {zc : List Value} {pa : Option Addr} {cap : Nat} (gen : Nat) (hg : gen < M64) (body : List UInt8) (hB : Holds w0 H pa (bs body)) (a : Int) (h : ¬ packOk a body) : FnS Try.prog w0 55 #[.iface 67 (.agg zc.toArray), .int .i64 a, .int .u64 (gen : Int), .slice pa body.length cap] H (fun e H' => e = .returned (.tuple #[.agg (bs (secOf 0)).toArray, .bool false]) ∧ H' = H) := by
  by_cases hp : 0 ≤ a ∧ a < 4096
  · exact pack_f2 gen hg body hB a hp fun hl => h ⟨hp.1, hp.2, hl⟩
  · exact pack_f1 gen hg body hB a hp

end Go.Proofs.Ytighbhplfjjgpaa

/- walks (own work; the walks' lines by a program of this repo). -/
set_option linter.unusedVariables false
set_option linter.unusedSimpArgs false
set_option maxRecDepth 20000
namespace Go.Proofs.Ytighbhplfjjgpaa
open Go.Sl
attribute [local irreducible] BodyQ WpC WpL WpS WpH OpW FnS


theorem pack_r {w0 : World} {H : Hp} {zc : List Value} {pa : Option Addr} {cap : Nat} (gen : Nat) (hg : gen < M64) (body : List UInt8) (hB : Holds w0 H pa (bs body)) (a : Int) : FnS Try.prog w0 55 #[.iface 67 (.agg zc.toArray), .int .i64 a, .int .u64 (gen : Int), .slice pa body.length cap] H (fun e H' => e = .returned (.tuple #[.agg (bs (packR a gen body)).toArray, .bool (decide (packOk a body))]) ∧ H' = H) := by
  by_cases h : packOk a body
  · obtain ⟨m, rfl⟩ : ∃ m : Nat, a = m := ⟨a.toNat, by omega⟩
    refine (pack_ok gen hg body hB m (by have := h.2.1; omega) h.2.2).mono ?_
    rintro _ _ ⟨rfl, rfl⟩
    exact ⟨by rw [show packR ((m : Nat) : Int) gen body = packS m gen body from if_pos h, decide_eq_true h], rfl⟩
  · refine (pack_no gen hg body hB a h).mono ?_
    rintro _ _ ⟨rfl, rfl⟩
    exact ⟨by rw [show packR a gen body = secOf 0 from if_neg h, decide_eq_false h], rfl⟩

theorem pack_v {zc : List Value} {w0 : World} {H : Hp} {v : Value} (gen : Nat) (hg : gen < M64) (body : List UInt8) (hv : SlH w0 H v body) (a : Int) : FnS Try.prog w0 55 #[.iface 67 (.agg zc.toArray), .int .i64 a, .int .u64 (gen : Int), v] H (fun e H' => e = .returned (.tuple #[.agg (bs (packR a gen body)).toArray, .bool (decide (packOk a body))]) ∧ H' = H) := by
  obtain ⟨pa, cap, rfl, hB⟩ := hv
  exact pack_r gen hg body hB a

theorem cloneb_s {w0 : World} {H : Hp} {x : Addr} {m cap : Nat} (vs : List Value) (hs : Src Try.prog w0 H 1 (.slice (some x) m cap) m vs) (hv : vs.length = m * 1) (ho : ∀ v ∈ vs, one v = true) (hm : m ≤ 100000) : FnS Try.prog w0 65 #[.slice (some x) m cap] H (fun e H' => ∃ g, slOk 1 g m vs ∧ e = .returned (slV g m) ∧ H' = slSeg 5 g vs :: H) := by
  refine FnS_intro (n := 8) (rs := [.tmp 2]) (vs := [.slice (some x) m cap]) Try.func65 rfl Try.ntmps65 rfl rfl ?_
  refine C_seq (C_region (LY rfl (y_assign rfl) (L_nil (C_seq (C_seq (C_region (LY rfl (y_move rfl) ?_)))))))
  refine LY rfl (y_eqs rfl rfl Try.underlying71) ?_
  refine L_nil (C_cond_f rfl (C_skip (C_seq (C_region ?_))))
  refine L_op rfl (op_buildSlice (vs := []) rfl Try.underlying71 sz_5 zl_5 rfl (by decide) rfl rfl (fun B1 => ?_))
  refine LY rfl (y_move rfl) ?_
  refine L_op rfl (op_append (gs := some ⟨B1, 0, []⟩) (len := 0) (m := m) (xs := []) (vs := vs) 0 rfl rfl rfl ⟨rfl, rfl, Nat.le_refl _⟩ hs.up hv ho Try.underlying71 ni_71 sz_5 by_5 (by decide) zl_5 rfl (by omega) rfl (fun g hg => ?_))
  rw [Nat.zero_add, List.nil_append] at hg ⊢
  refine LY rfl (y_assign rfl) (L_nil (C_ret ?_))
  refine B_ret (rv_tmp rfl rv_nil) (HSub.refl _) ?_
  exact ⟨g, hg, rfl, rfl⟩

theorem unp_l {w0 : World} {H : Hp} {zc : List Value} (a : Int) (s : Sec) (hs : s.length = 128) (hl : ¬ lenS s ≤ 103) : FnS Try.prog w0 53 #[.iface 67 (.agg zc.toArray), .int .i64 a, .agg (bs s).toArray] H (fun e H' => e = .returned (.tuple #[.int .u64 0, .slice none 0 0, .bool false]) ∧ H' = H) := by
  refine FnS_intro (n := 47) (rs := [.tmp 6, .tmp 7, .tmp 8]) (vs := [.iface 67 (.agg zc.toArray), .int .i64 a, .agg (bs s).toArray]) Try.func53 rfl Try.ntmps53 rfl rfl ?_
  refine C_seq (C_region ?_)
  refine L_op rfl (op_box rfl rfl rfl (fun B1 => ?_))
  refine LY rfl (y_assign rfl) (LY rfl (y_assign rfl) (LY rfl (y_assign rfl) (L_nil (C_seq ?_))))
  have hb := (s.getD 24 0).toNat_lt
  have h24 : (bs s)[24]? = some (u8 (s.getD 24 0)) := by rw [bs_get]; simp [List.getD, show 24 < s.length by omega]
  refine C_region ?_
  refine LY rfl (y_indexA rfl rfl Try.underlying114 sz_5 (by omega) (by omega) (show _ = 24 from rfl)) ?_
  refine LY rfl (y_load rfl ag_5 (sees 0 0 rfl) h24) ?_
  refine LY rfl (y_conv rfl us_5 Try.underlying3 (show _ = ((lenS s : Nat) : Int) from wi64 (by omega) (by omega))) ?_
  refine LY rfl (y_assign rfl) (L_nil (C_seq (C_seq ?_)))
  have hl0 : lenS s < 256 := hb
  refine C_region (LY rfl (y_move rfl) ?_)
  refine LY rfl (y_eqIf rfl rfl if_103) ?_
  refine LY rfl (y_move rfl) (LY rfl (y_move rfl) ?_)
  refine LY rfl (y_gtr rfl rfl) ?_
  refine LY rfl (y_pick_f rfl rfl) (L_nil ?_)
  refine C_cond rfl (fun hc0 => ?_) (fun hc0 => absurd hc0 (by simp <;> omega))
  refine C_seq (C_region (LY rfl (y_assign rfl) (LY rfl (y_assign rfl) (LY rfl (y_assign rfl) (L_nil (C_ret ?_))))))
  refine B_ret (rv_tmp rfl (rv_tmp rfl (rv_tmp rfl rv_nil))) (hsub (.cons _ (.refl _))) ?_
  exact ⟨rfl, rfl⟩

theorem unp_n1 {w0 : World} {H : Hp} {zc : List Value} (a : Int) (s : Sec) (hs : s.length = 128) (hl : lenS s ≤ 103) (hp : ¬ packOk a (bodyS s)) : FnS Try.prog w0 53 #[.iface 67 (.agg zc.toArray), .int .i64 a, .agg (bs s).toArray] H (fun e H' => e = .returned (.tuple #[.int .u64 0, .slice none 0 0, .bool false]) ∧ H' = H) := by
  refine FnS_intro (n := 47) (rs := [.tmp 6, .tmp 7, .tmp 8]) (vs := [.iface 67 (.agg zc.toArray), .int .i64 a, .agg (bs s).toArray]) Try.func53 rfl Try.ntmps53 rfl rfl ?_
  refine C_seq (C_region ?_)
  refine L_op rfl (op_box rfl rfl rfl (fun B1 => ?_))
  refine LY rfl (y_assign rfl) (LY rfl (y_assign rfl) (LY rfl (y_assign rfl) (L_nil (C_seq ?_))))
  have hb := (s.getD 24 0).toNat_lt
  have h24 : (bs s)[24]? = some (u8 (s.getD 24 0)) := by rw [bs_get]; simp [List.getD, show 24 < s.length by omega]
  refine C_region ?_
  refine LY rfl (y_indexA rfl rfl Try.underlying114 sz_5 (by omega) (by omega) (show _ = 24 from rfl)) ?_
  refine LY rfl (y_load rfl ag_5 (sees 0 0 rfl) h24) ?_
  refine LY rfl (y_conv rfl us_5 Try.underlying3 (show _ = ((lenS s : Nat) : Int) from wi64 (by omega) (by omega))) ?_
  refine LY rfl (y_assign rfl) (L_nil (C_seq (C_seq ?_)))
  have hl0 : lenS s < 256 := hb
  refine C_region (LY rfl (y_move rfl) ?_)
  refine LY rfl (y_eqIf rfl rfl if_103) ?_
  refine LY rfl (y_move rfl) (LY rfl (y_move rfl) ?_)
  refine LY rfl (y_gtr rfl rfl) ?_
  refine LY rfl (y_pick_f rfl rfl) (L_nil ?_)
  refine C_cond rfl (fun hc0 => absurd hc0 (by simp <;> omega)) (fun hc0 => ?_)
  refine C_skip (C_seq (C_region ?_))
  refine LY rfl (y_sliceA2 (r := 16) (q := 8) (q' := 112) rfl rfl rfl Try.underlying114 sz_5 (by decide) (by decide) (by decide) rfl rfl rfl) ?_
  refine L_op rfl (op_call rfl rfl (fun a w => Try.call64 a w) rfl ?_)
  refine FnS.mono (get_s ((s.drop 16).take 8) (sees 0 0 rfl) (by rw [bs_drop, bs_take]) (by simp [hs]) (by decide) (by decide)) ?_
  rintro _ _ ⟨rfl, rfl⟩
  refine ⟨_, rfl, ?_⟩
  refine LY rfl (y_move rfl) (LY rfl (y_extract rfl rfl) (LY rfl (y_extract rfl rfl) (LY rfl (y_assign rfl) (L_nil (C_seq (C_region (LY rfl (y_move rfl) ?_)))))))
  refine LY rfl (y_add rfl rfl (show _ = ((25 + lenS s : Nat) : Int) from by rw [wi64 (by omega) (by omega)]; omega)) ?_
  refine LY rfl (y_sliceA2 (r := 25) (q := lenS s) (q' := 103) rfl rfl rfl Try.underlying114 sz_5 (by decide) (by omega) (by omega) rfl (by omega) rfl) ?_
  refine L_op rfl (op_call rfl rfl (fun a w => Try.call65 a w) rfl ?_)
  refine (cloneb_s (bs (bodyS s)) (src_slice (sees 0 0 rfl) (by rw [bs_length, hs]; omega) (by rw [Nat.mul_one, bs_drop, bs_take]; rfl)) (by rw [bs_length, bodyS_len hs hl, Nat.mul_one]) (bs_one _) (by omega)).mono ?_
  rintro _ _ ⟨g, hgo, rfl, rfl⟩
  refine ⟨_, rfl, ?_⟩
  refine LY rfl (y_assign rfl) (L_nil (C_seq (C_seq (C_region (LY rfl (y_move rfl) (LY rfl (y_move rfl) (LY rfl (y_move rfl) (LY rfl (y_move rfl) ?_))))))))
  refine L_op rfl (op_call rfl rfl (fun a w => Try.call55 a w) rfl ?_)
  refine FnS.mono (pack_v (genS s) genS_lt (bodyS s) (slh_v 0 rfl hgo (bodyS_len hs hl)) a) ?_
  rintro _ _ ⟨rfl, rfl⟩
  rw [show decide (packOk a (bodyS s)) = false from by simp [hp]]
  refine ⟨_, rfl, ?_⟩
  refine LY rfl (y_move rfl) (LY rfl (y_extract rfl rfl) (LY rfl (y_extract rfl rfl) ?_))
  refine L_op rfl (op_alloc zl_114 rfl (fun B2 => ?_))
  refine L_op rfl (op_storeA 0 0 rfl rfl rfl sz_114 (by rw [bs_length, packR_len]) rfl (bs_one _) (by simp) ?_)
  refine LY rfl (y_assign rfl) (L_nil (C_seq (C_region (LY rfl (y_move rfl) (LY rfl (y_not rfl) (LY rfl (y_move rfl) (L_skip rfl rfl (L_skip rfl rfl (L_skip rfl rfl (LY rfl (y_pick_t rfl rfl) (L_nil (C_cond_t rfl (C_seq (C_region (LY rfl (y_assign rfl) (LY rfl (y_assign rfl) (LY rfl (y_assign rfl) (L_nil (C_ret ?_)))))))))))))))))))
  refine B_ret (rv_tmp rfl (rv_tmp rfl (rv_tmp rfl rv_nil))) (hsub (.cons _ (.cons _ (.cons _ (.refl _))))) ?_
  exact ⟨rfl, rfl⟩

theorem unp_n2 {w0 : World} {H : Hp} {zc : List Value} (a : Int) (s : Sec) (hs : s.length = 128) (hl : lenS s ≤ 103) (hp : packOk a (bodyS s)) (hne : ¬ packR a (genS s) (bodyS s) = s) : FnS Try.prog w0 53 #[.iface 67 (.agg zc.toArray), .int .i64 a, .agg (bs s).toArray] H (fun e H' => e = .returned (.tuple #[.int .u64 0, .slice none 0 0, .bool false]) ∧ H' = H) := by
  refine FnS_intro (n := 47) (rs := [.tmp 6, .tmp 7, .tmp 8]) (vs := [.iface 67 (.agg zc.toArray), .int .i64 a, .agg (bs s).toArray]) Try.func53 rfl Try.ntmps53 rfl rfl ?_
  refine C_seq (C_region ?_)
  refine L_op rfl (op_box rfl rfl rfl (fun B1 => ?_))
  refine LY rfl (y_assign rfl) (LY rfl (y_assign rfl) (LY rfl (y_assign rfl) (L_nil (C_seq ?_))))
  have hb := (s.getD 24 0).toNat_lt
  have h24 : (bs s)[24]? = some (u8 (s.getD 24 0)) := by rw [bs_get]; simp [List.getD, show 24 < s.length by omega]
  refine C_region ?_
  refine LY rfl (y_indexA rfl rfl Try.underlying114 sz_5 (by omega) (by omega) (show _ = 24 from rfl)) ?_
  refine LY rfl (y_load rfl ag_5 (sees 0 0 rfl) h24) ?_
  refine LY rfl (y_conv rfl us_5 Try.underlying3 (show _ = ((lenS s : Nat) : Int) from wi64 (by omega) (by omega))) ?_
  refine LY rfl (y_assign rfl) (L_nil (C_seq (C_seq ?_)))
  have hl0 : lenS s < 256 := hb
  refine C_region (LY rfl (y_move rfl) ?_)
  refine LY rfl (y_eqIf rfl rfl if_103) ?_
  refine LY rfl (y_move rfl) (LY rfl (y_move rfl) ?_)
  refine LY rfl (y_gtr rfl rfl) ?_
  refine LY rfl (y_pick_f rfl rfl) (L_nil ?_)
  refine C_cond rfl (fun hc0 => absurd hc0 (by simp <;> omega)) (fun hc0 => ?_)
  refine C_skip (C_seq (C_region ?_))
  refine LY rfl (y_sliceA2 (r := 16) (q := 8) (q' := 112) rfl rfl rfl Try.underlying114 sz_5 (by decide) (by decide) (by decide) rfl rfl rfl) ?_
  refine L_op rfl (op_call rfl rfl (fun a w => Try.call64 a w) rfl ?_)
  refine FnS.mono (get_s ((s.drop 16).take 8) (sees 0 0 rfl) (by rw [bs_drop, bs_take]) (by simp [hs]) (by decide) (by decide)) ?_
  rintro _ _ ⟨rfl, rfl⟩
  refine ⟨_, rfl, ?_⟩
  refine LY rfl (y_move rfl) (LY rfl (y_extract rfl rfl) (LY rfl (y_extract rfl rfl) (LY rfl (y_assign rfl) (L_nil (C_seq (C_region (LY rfl (y_move rfl) ?_)))))))
  refine LY rfl (y_add rfl rfl (show _ = ((25 + lenS s : Nat) : Int) from by rw [wi64 (by omega) (by omega)]; omega)) ?_
  refine LY rfl (y_sliceA2 (r := 25) (q := lenS s) (q' := 103) rfl rfl rfl Try.underlying114 sz_5 (by decide) (by omega) (by omega) rfl (by omega) rfl) ?_
  refine L_op rfl (op_call rfl rfl (fun a w => Try.call65 a w) rfl ?_)
  refine (cloneb_s (bs (bodyS s)) (src_slice (sees 0 0 rfl) (by rw [bs_length, hs]; omega) (by rw [Nat.mul_one, bs_drop, bs_take]; rfl)) (by rw [bs_length, bodyS_len hs hl, Nat.mul_one]) (bs_one _) (by omega)).mono ?_
  rintro _ _ ⟨g, hgo, rfl, rfl⟩
  refine ⟨_, rfl, ?_⟩
  refine LY rfl (y_assign rfl) (L_nil (C_seq (C_seq (C_region (LY rfl (y_move rfl) (LY rfl (y_move rfl) (LY rfl (y_move rfl) (LY rfl (y_move rfl) ?_))))))))
  refine L_op rfl (op_call rfl rfl (fun a w => Try.call55 a w) rfl ?_)
  refine FnS.mono (pack_v (genS s) genS_lt (bodyS s) (slh_v 0 rfl hgo (bodyS_len hs hl)) a) ?_
  rintro _ _ ⟨rfl, rfl⟩
  rw [show decide (packOk a (bodyS s)) = true from by simp [hp]]
  refine ⟨_, rfl, ?_⟩
  refine LY rfl (y_move rfl) (LY rfl (y_extract rfl rfl) (LY rfl (y_extract rfl rfl) ?_))
  refine L_op rfl (op_alloc zl_114 rfl (fun B2 => ?_))
  refine L_op rfl (op_storeA 0 0 rfl rfl rfl sz_114 (by rw [bs_length, packR_len]) rfl (bs_one _) (by simp) ?_)
  refine LY rfl (y_assign rfl) (L_nil (C_seq (C_region (LY rfl (y_move rfl) (LY rfl (y_not rfl) (LY rfl (y_move rfl) ?_))))))
  refine LY rfl (y_loadA rfl ag_114 sz_114 (sees 0 0 rfl) (by rw [bs_length, packR_len]; decide) (bs_whole0 _ (packR_len _ _ _))) ?_
  refine LY rfl (y_loadA rfl ag_114 sz_114 (sees 2 0 rfl) (by rw [bs_length, hs]; decide) (bs_whole0 _ hs)) ?_
  refine LY rfl (y_nea rfl rfl Try.underlying114 Try.underlying5 sz_5 eg_114 (packR_len _ _ _) hs) ?_
  refine LY rfl (y_pick_f rfl rfl) (L_nil ?_)
  refine C_cond rfl (fun hc1 => ?_) (fun hc1 => absurd hc1 (by simp [hne]))
  refine C_seq (C_region (LY rfl (y_assign rfl) (LY rfl (y_assign rfl) (LY rfl (y_assign rfl) (L_nil (C_ret ?_))))))
  refine B_ret (rv_tmp rfl (rv_tmp rfl (rv_tmp rfl rv_nil))) (hsub (.cons _ (.cons _ (.cons _ (.refl _))))) ?_
  exact ⟨rfl, rfl⟩

theorem unp_y {w0 : World} {H : Hp} {zc : List Value} (a : Int) (s : Sec) (hs : s.length = 128) (hl : lenS s ≤ 103) (hp : packOk a (bodyS s)) (he : packR a (genS s) (bodyS s) = s) : FnS Try.prog w0 53 #[.iface 67 (.agg zc.toArray), .int .i64 a, .agg (bs s).toArray] H (fun e H' => ∃ g, slOk 1 g (lenS s) (bs (bodyS s)) ∧ e = .returned (.tuple #[.int .u64 ((genS s : Nat) : Int), slV g (lenS s), .bool true]) ∧ H' = slSeg 5 g (bs (bodyS s)) :: H) := by
  refine FnS_intro (n := 47) (rs := [.tmp 6, .tmp 7, .tmp 8]) (vs := [.iface 67 (.agg zc.toArray), .int .i64 a, .agg (bs s).toArray]) Try.func53 rfl Try.ntmps53 rfl rfl ?_
  refine C_seq (C_region ?_)
  refine L_op rfl (op_box rfl rfl rfl (fun B1 => ?_))
  refine LY rfl (y_assign rfl) (LY rfl (y_assign rfl) (LY rfl (y_assign rfl) (L_nil (C_seq ?_))))
  have hb := (s.getD 24 0).toNat_lt
  have h24 : (bs s)[24]? = some (u8 (s.getD 24 0)) := by rw [bs_get]; simp [List.getD, show 24 < s.length by omega]
  refine C_region ?_
  refine LY rfl (y_indexA rfl rfl Try.underlying114 sz_5 (by omega) (by omega) (show _ = 24 from rfl)) ?_
  refine LY rfl (y_load rfl ag_5 (sees 0 0 rfl) h24) ?_
  refine LY rfl (y_conv rfl us_5 Try.underlying3 (show _ = ((lenS s : Nat) : Int) from wi64 (by omega) (by omega))) ?_
  refine LY rfl (y_assign rfl) (L_nil (C_seq (C_seq ?_)))
  have hl0 : lenS s < 256 := hb
  refine C_region (LY rfl (y_move rfl) ?_)
  refine LY rfl (y_eqIf rfl rfl if_103) ?_
  refine LY rfl (y_move rfl) (LY rfl (y_move rfl) ?_)
  refine LY rfl (y_gtr rfl rfl) ?_
  refine LY rfl (y_pick_f rfl rfl) (L_nil ?_)
  refine C_cond rfl (fun hc0 => absurd hc0 (by simp <;> omega)) (fun hc0 => ?_)
  refine C_skip (C_seq (C_region ?_))
  refine LY rfl (y_sliceA2 (r := 16) (q := 8) (q' := 112) rfl rfl rfl Try.underlying114 sz_5 (by decide) (by decide) (by decide) rfl rfl rfl) ?_
  refine L_op rfl (op_call rfl rfl (fun a w => Try.call64 a w) rfl ?_)
  refine FnS.mono (get_s ((s.drop 16).take 8) (sees 0 0 rfl) (by rw [bs_drop, bs_take]) (by simp [hs]) (by decide) (by decide)) ?_
  rintro _ _ ⟨rfl, rfl⟩
  refine ⟨_, rfl, ?_⟩
  refine LY rfl (y_move rfl) (LY rfl (y_extract rfl rfl) (LY rfl (y_extract rfl rfl) (LY rfl (y_assign rfl) (L_nil (C_seq (C_region (LY rfl (y_move rfl) ?_)))))))
  refine LY rfl (y_add rfl rfl (show _ = ((25 + lenS s : Nat) : Int) from by rw [wi64 (by omega) (by omega)]; omega)) ?_
  refine LY rfl (y_sliceA2 (r := 25) (q := lenS s) (q' := 103) rfl rfl rfl Try.underlying114 sz_5 (by decide) (by omega) (by omega) rfl (by omega) rfl) ?_
  refine L_op rfl (op_call rfl rfl (fun a w => Try.call65 a w) rfl ?_)
  refine (cloneb_s (bs (bodyS s)) (src_slice (sees 0 0 rfl) (by rw [bs_length, hs]; omega) (by rw [Nat.mul_one, bs_drop, bs_take]; rfl)) (by rw [bs_length, bodyS_len hs hl, Nat.mul_one]) (bs_one _) (by omega)).mono ?_
  rintro _ _ ⟨g, hgo, rfl, rfl⟩
  refine ⟨_, rfl, ?_⟩
  refine LY rfl (y_assign rfl) (L_nil (C_seq (C_seq (C_region (LY rfl (y_move rfl) (LY rfl (y_move rfl) (LY rfl (y_move rfl) (LY rfl (y_move rfl) ?_))))))))
  refine L_op rfl (op_call rfl rfl (fun a w => Try.call55 a w) rfl ?_)
  refine FnS.mono (pack_v (genS s) genS_lt (bodyS s) (slh_v 0 rfl hgo (bodyS_len hs hl)) a) ?_
  rintro _ _ ⟨rfl, rfl⟩
  rw [show decide (packOk a (bodyS s)) = true from by simp [hp]]
  refine ⟨_, rfl, ?_⟩
  refine LY rfl (y_move rfl) (LY rfl (y_extract rfl rfl) (LY rfl (y_extract rfl rfl) ?_))
  refine L_op rfl (op_alloc zl_114 rfl (fun B2 => ?_))
  refine L_op rfl (op_storeA 0 0 rfl rfl rfl sz_114 (by rw [bs_length, packR_len]) rfl (bs_one _) (by simp) ?_)
  refine LY rfl (y_assign rfl) (L_nil (C_seq (C_region (LY rfl (y_move rfl) (LY rfl (y_not rfl) (LY rfl (y_move rfl) ?_))))))
  refine LY rfl (y_loadA rfl ag_114 sz_114 (sees 0 0 rfl) (by rw [bs_length, packR_len]; decide) (bs_whole0 _ (packR_len _ _ _))) ?_
  refine LY rfl (y_loadA rfl ag_114 sz_114 (sees 2 0 rfl) (by rw [bs_length, hs]; decide) (bs_whole0 _ hs)) ?_
  refine LY rfl (y_nea rfl rfl Try.underlying114 Try.underlying5 sz_5 eg_114 (packR_len _ _ _) hs) ?_
  refine LY rfl (y_pick_f rfl rfl) (L_nil ?_)
  refine C_cond rfl (fun hc1 => absurd hc1 (by simp [he])) (fun hc1 => ?_)
  refine C_skip (C_seq (C_region (LY rfl (y_move rfl) (LY rfl (y_move rfl) (LY rfl (y_assign rfl) (LY rfl (y_assign rfl) (LY rfl (y_assign rfl) (L_nil (C_ret ?_)))))))))
  refine B_ret (rv_tmp rfl (rv_tmp rfl (rv_tmp rfl rv_nil))) (hsub (.cons _ (.cons_cons _ (.cons _ (.refl _))))) ?_
  exact ⟨g, hgo, rfl, rfl⟩

theorem unpack_u {w0 : World} {H : Hp} {zc : List Value} (a : Int) (s : Sec) (hs : s.length = 128) : FnS Try.prog w0 53 #[.iface 67 (.agg zc.toArray), .int .i64 a, .agg (bs s).toArray] H (fun e H' => ∃ g, slOk 1 g (unpB a s).length (bs (unpB a s)) ∧ e = .returned (.tuple #[.int .u64 ((unpG a s : Nat) : Int), slV g (unpB a s).length, .bool (decide (isS a s))]) ∧ H' = slSeg 5 g (bs (unpB a s)) :: H) := by
  by_cases hi : isS a s
  · have hp : packOk a (bodyS s) := ⟨hi.2.1, hi.2.2.1, by rw [bodyS_len hs hi.1]; exact hi.1⟩
    refine (unp_y a s hs hi.1 hp (by rw [packR, if_pos hp]; exact hi.2.2.2)).mono ?_
    rintro _ _ ⟨g, h1, rfl, rfl⟩
    rw [unpB, unpG, if_pos hi, if_pos hi, bodyS_len hs hi.1]
    exact ⟨g, h1, by simp [hi], rfl⟩
  · have key : FnS Try.prog w0 53 #[.iface 67 (.agg zc.toArray), .int .i64 a, .agg (bs s).toArray] H (fun e H' => e = .returned (.tuple #[.int .u64 0, .slice none 0 0, .bool false]) ∧ H' = H) := by
      by_cases hl : lenS s ≤ 103
      · by_cases hp : packOk a (bodyS s)
        · exact unp_n2 a s hs hl hp fun he => hi ⟨hl, hp.1, hp.2.1, by rw [packR, if_pos hp] at he; exact he⟩
        · exact unp_n1 a s hs hl hp
      · exact unp_l a s hs hl
    refine key.weak ?_
    rintro _ _ ⟨rfl, e⟩
    obtain rfl := e.symm
    rw [unpB, unpG, if_neg hi, if_neg hi]
    exact ⟨[] :: H, hsub_flat rfl, none, ⟨rfl, rfl⟩, by simp [hi, slV], rfl⟩

end Go.Proofs.Ytighbhplfjjgpaa

/- Two devices, of one power or each of its own: one segment in memory, one abstract state (own work). -/
set_option linter.unusedVariables false
set_option linter.unusedSimpArgs false
namespace Go.Sl
structure Duo where
  x : Dv
  y : Dv
  p : Pw
  q : Option Pw
/-- The abstract state: two devices, a power, and the second one's own power. -/
structure Da where
  a : Ab
  b : Ab
  p : Pa
  q : Option Pa
def Duo.qs (t : DT) : Option Pw → Hp
  | none => []
  | some q => [q.o t, q.q t]
def Duo.hp (t : DT) (D : Duo) : Hp := [D.x.o t, D.x.t t, D.x.q t, D.p.o t, D.p.q t, D.y.o t, D.y.t t, D.y.q t] ++ Duo.qs t D.q
def Duo.seg (t : DT) (D : Duo) : List (Nat × Obj) := (D.hp t).flatten
def Duo.dev (D : Duo) : Bool → Dv
  | false => D.x
  | true => D.y
def Duo.pow (D : Duo) : Bool → Pw
  | false => D.p
  | true => D.q.getD D.p
def Duo.da (D : Duo) : Da := ⟨D.x.a, D.y.a, D.p.a, D.q.map (·.a)⟩
def Duo.ok (t : DT) (D : Duo) : Prop := match D.q with
  | none => GOk t D.p [] D.x [D.y]
  | some q => GOk t D.p [] D.x [] ∧ GOk t q [] D.y []
def Da.dev (A : Da) : Bool → Ab
  | false => A.a
  | true => A.b
def Da.pow (A : Da) : Bool → Pa
  | false => A.p
  | true => A.q.getD A.p
def Da.setd (A : Da) (i : Bool) (x : Ab) : Da := match i with
  | false => { A with a := x }
  | true => { A with b := x }
def Da.setp (A : Da) (i : Bool) (x : Pa) : Da := match i, A.q with
  | true, some _ => { A with q := some x }
  | _, _ => { A with p := x }
/-- The other device of the same power, behind an operation that was counted (c) or not. -/
def Da.oth (A : Da) (i c : Bool) : Da := if c && A.q.isNone then A.setd (!i) ((A.dev (!i)).step (A.pow i)) else A
def Da.write (A : Da) (i : Bool) (n : Int) (s : Sec) : Da := ((A.oth i (wgo (A.dev i) (A.pow i) n)).setd i (writeA (A.dev i) (A.pow i) n s)).setp i (writeP (A.dev i) (A.pow i) n)
def Da.flush (A : Da) (i : Bool) : Da := ((A.oth i (!(A.dev i).down (A.pow i))).setd i (flushA (A.dev i) (A.pow i))).setp i (flushP (A.dev i) (A.pow i))
def Da.wE (A : Da) (i : Bool) (n : Int) : Int := writeE (A.dev i) (A.pow i) n
def Da.fE (A : Da) (i : Bool) : Int := flushE (A.dev i) (A.pow i)
def Da.rS (A : Da) (i : Bool) (n : Int) : Sec := readS (A.dev i) (A.pow i) n
def Da.rE (A : Da) (i : Bool) (n : Int) : Int := readE (A.dev i) (A.pow i) n
theorem Da.setd_self (A : Da) (i : Bool) : A.setd i (A.dev i) = A := by cases i <;> rfl
theorem Da.setp_self (A : Da) (i : Bool) : A.setp i (A.pow i) = A := by
  obtain ⟨a, b, p, q⟩ := A
  cases i <;> cases q <;> rfl
theorem Duo.da_dev (D : Duo) (i : Bool) : (D.dev i).a = D.da.dev i := by cases i <;> rfl
theorem Duo.da_pow (D : Duo) (i : Bool) : (D.pow i).a = D.da.pow i := by
  obtain ⟨x, y, p, q⟩ := D
  cases i <;> cases q <;> rfl
theorem Duo.hsub2 (t : DT) (D : Duo) (H : Hp) : HSub (D.seg t :: H) (D.hp t ++ H) := hsub_flat (by rw [List.flatten_append]; rfl)
theorem Duo.flat (t : DT) (D : Duo) (H : Hp) : (D.hp t ++ H).flatten = (D.seg t :: H).flatten := by rw [List.flatten_append]; rfl
theorem Duo.pick (t : DT) (D : Duo) {H Y : Hp} (is : List Nat) (e : pick is (D.hp t ++ H) = Y) : Y.flatten.Perm (D.seg t :: H).flatten := by
  subst e
  rw [← Duo.flat]
  exact (pick_perm is _).flatten.symm
theorem Duo.view (t : DT) {D : Duo} (h : D.ok t) (i : Bool) (H : Hp) : ∃ L R X, GOk t (D.pow i) L (D.dev i) R ∧ (opn t (D.dev i) (D.pow i) (L ++ R) X).flatten.Perm (D.seg t :: H).flatten ∧
    ∀ c d' p' L' R', GOk t p' L' d' R' → d'.b = (D.dev i).b → p'.b = (D.pow i).b → Mv c (D.pow i).a L L' → Mv c (D.pow i).a R R' →
      ∃ D' : Duo, D'.ok t ∧ D'.x.b = D.x.b ∧ D'.y.b = D.y.b ∧ D'.p.b = D.p.b ∧ D'.da = ((D.da.oth i c).setd i d'.a).setp i p'.a ∧ HSub (D'.seg t :: H) (opn t d' p' (L' ++ R') X) := by
  obtain ⟨x, y, p, q⟩ := D
  cases q with
  | none =>
    have hG : GOk t p [] x [y] := h
    cases i with
    | false =>
      refine ⟨[], [y], H, hG, Duo.pick t _ [] rfl, ?_⟩
      intro c d' p' L' R' g1 g2 g3 g4 g5
      obtain rfl := g4.nil
      obtain ⟨y', rfl, e1, e2, e3⟩ := g5.one
      refine ⟨⟨d', y', p', none⟩, g1, g2, e1, g3, ?_, (Duo.hsub2 t _ H).trans (hsub_pick [] rfl)⟩
      cases c <;> simp_all [Duo.da, Da.oth, Da.setd, Da.setp, Da.dev, Da.pow, Duo.pow]
    | true =>
      refine ⟨[x], [], H, hG.next, Duo.pick t _ [5, 5, 5, 3, 3] rfl, ?_⟩
      intro c d' p' L' R' g1 g2 g3 g4 g5
      obtain rfl := g5.nil
      obtain ⟨y', rfl, e1, e2, e3⟩ := g4.one
      refine ⟨⟨y', d', p', none⟩, g1.back, e1, g2, g3, ?_, (Duo.hsub2 t _ H).trans (hsub_pick [5, 5, 5, 3, 3] rfl)⟩
      cases c <;> simp_all [Duo.da, Da.oth, Da.setd, Da.setp, Da.dev, Da.pow, Duo.pow]
  | some q =>
    obtain ⟨h1, h2⟩ := h
    simp only at h1 h2
    cases i with
    | false =>
      refine ⟨[], [], y.o t :: y.t t :: y.q t :: q.o t :: q.q t :: H, h1, Duo.pick t _ [] rfl, ?_⟩
      intro c d' p' L' R' g1 g2 g3 g4 g5
      obtain rfl := g4.nil
      obtain rfl := g5.nil
      exact ⟨⟨d', y, p', some q⟩, ⟨g1, h2⟩, g2, rfl, g3, by cases c <;> rfl, (Duo.hsub2 t _ H).trans (hsub_pick [] rfl)⟩
    | true =>
      refine ⟨[], [], x.o t :: x.t t :: x.q t :: p.o t :: p.q t :: H, h2, Duo.pick t _ [5, 5, 5, 5, 5] rfl, ?_⟩
      intro c d' p' L' R' g1 g2 g3 g4 g5
      obtain rfl := g4.nil
      obtain rfl := g5.nil
      exact ⟨⟨x, d', p, some p'⟩, ⟨h1, g1⟩, rfl, g2, rfl, by cases c <;> rfl, (Duo.hsub2 t _ H).trans (hsub_pick [5, 5, 5, 5, 5] rfl)⟩
/-- Two devices, at such blocks, of such an abstract state. -/
structure Two (t : DT) (D : Duo) (A : Da) (bx bys bp : Nat) : Prop where
  ok : D.ok t
  da : D.da = A
  x : D.x.b = bx
  y : D.y.b = bys
  p : D.p.b = bp
abbrev sel (bx bys : Nat) (i : Bool) : Nat := if i then bys else bx
theorem Two.b {t : DT} {D : Duo} {A : Da} {bx bys bp : Nat} (h : Two t D A bx bys bp) (i : Bool) : (D.dev i).b = sel bx bys i := by
  cases i
  · exact h.x
  · exact h.y
theorem Two.dev {t : DT} {D : Duo} {A : Da} {bx bys bp : Nat} (h : Two t D A bx bys bp) (i : Bool) : (D.dev i).a = A.dev i := by rw [D.da_dev, h.da]
theorem Two.pow {t : DT} {D : Duo} {A : Da} {bx bys bp : Nat} (h : Two t D A bx bys bp) (i : Bool) : (D.pow i).a = A.pow i := by rw [D.da_pow, h.da]
theorem Two.aok {t : DT} {D : Duo} {A : Da} {bx bys bp : Nat} (h : Two t D A bx bys bp) (i : Bool) : (A.dev i).ok ∧ (A.dev i).Q.length ≤ 100000 := by
  obtain ⟨L, R, X, hG, _⟩ := Duo.view t h.ok i []
  rw [← h.dev i]
  exact ⟨hG.dok.1, hG.dok.2.2⟩
/-- One view for all calls: what a call does to a device in hand it does to the two. -/
theorem Two.view {t : DT} {D : Duo} {A : Da} {bx bys bp : Nat} (h : Two t D A bx bys bp) (i : Bool) (H : Hp) : ∃ d p L R X, GOk t p L d R ∧ d.b = sel bx bys i ∧ d.a = A.dev i ∧ p.a = A.pow i ∧ (i = false → p.b = bp) ∧ (opn t d p (L ++ R) X).flatten.Perm (D.seg t :: H).flatten ∧
    ∀ c d' p' L' R', GOk t p' L' d' R' → d'.b = sel bx bys i → p'.b = p.b → Mv c (A.pow i) L L' → Mv c (A.pow i) R R' →
      ∃ D' : Duo, Two t D' (((A.oth i c).setd i d'.a).setp i p'.a) bx bys bp ∧ HSub (D'.seg t :: H) (opn t d' p' (L' ++ R') X) := by
  obtain ⟨L, R, X, hG, h1, h3⟩ := Duo.view t h.ok i H
  refine ⟨D.dev i, D.pow i, L, R, X, hG, h.b i, h.dev i, h.pow i, fun e => by subst e; exact h.p, h1, ?_⟩
  intro c d' p' L' R' g1 g2 g3 g4 g5
  obtain ⟨D', k1, k2, k3, k4, k5, k6⟩ := h3 c d' p' L' R' g1 (g2.trans (h.b i).symm) g3 (h.pow i ▸ g4) (h.pow i ▸ g5)
  exact ⟨D', ⟨k1, by rw [k5, h.da], k2.trans h.x, k3.trans h.y, k4.trans h.p⟩, k6⟩
theorem Two.to {t : DT} {D : Duo} {A B : Da} {bx bys bp : Nat} (h : Two t D A bx bys bp) (e : A = B) : Two t D B bx bys bp := e ▸ h
theorem Da.setd_pow (A : Da) (i j : Bool) (x : Ab) : (A.setd i x).pow j = A.pow j := by cases i <;> cases j <;> rfl
theorem Da.setd_setp (A : Da) (i : Bool) (x : Ab) : (A.setd i x).setp i (A.pow i) = A.setd i x := by
  have := Da.setp_self (A.setd i x) i
  rwa [Da.setd_pow] at this
theorem Ab.cut_many (a : Ab) : a.cut.Q.length ≤ a.Q.length := by unfold Ab.cut; split <;> simp
theorem Ab.step_many (a : Ab) (q : Pa) : (a.step q).Q.length ≤ a.Q.length := by unfold Ab.step; split; exact a.cut_many; exact Nat.le_refl _
theorem writeA_many (a : Ab) (q : Pa) (n : Int) (s : Sec) : (writeA a q n s).Q.length ≤ a.Q.length + 1 := by
  unfold writeA; split
  · refine Nat.le_trans (Ab.step_many _ _) ?_; simp [Ab.push]
  · omega
theorem Da.setp_dev (A : Da) (i j : Bool) (x : Pa) : (A.setp i x).dev j = A.dev j := by obtain ⟨a, b, p, q⟩ := A; cases i <;> cases j <;> cases q <;> rfl
theorem Da.setd_same (A : Da) (i : Bool) (x : Ab) : (A.setd i x).dev i = x := by cases i <;> rfl
theorem Da.setd_other (A : Da) {i j : Bool} (x : Ab) (h : j ≠ i) : (A.setd i x).dev j = A.dev j := by cases i <;> cases j <;> first | rfl | exact absurd rfl h
theorem Da.oth_many (A : Da) (i c j : Bool) : ((A.oth i c).dev j).Q.length ≤ (A.dev j).Q.length := by
  unfold Da.oth; split
  · by_cases h : j = !i
    · subst h; rw [Da.setd_same]; exact Ab.step_many _ _
    · rw [Da.setd_other _ _ h]; exact Nat.le_refl _
  · exact Nat.le_refl _
theorem Da.write_many (A : Da) (i : Bool) (n : Int) (s : Sec) (j : Bool) : ((A.write i n s).dev j).Q.length ≤ (A.dev j).Q.length + 1 := by
  unfold Da.write
  rw [Da.setp_dev]
  by_cases h : j = i
  · subst h; rw [Da.setd_same]; exact writeA_many _ _ _ _
  · rw [Da.setd_other _ _ h]; exact Nat.le_succ_of_le (Da.oth_many _ _ _ _)
/-- Power that doesn't fail. -/
def Da.calm (A : Da) : Prop := A.p.off = false ∧ A.p.fails = false ∧ ∀ q, A.q = some q → q.off = false ∧ q.fails = false
theorem Da.calm_pow {A : Da} (h : A.calm) (i : Bool) : (A.pow i).off = false ∧ (A.pow i).fails = false := by
  obtain ⟨a, b, p, q⟩ := A
  obtain ⟨h1, h2, h3⟩ := h
  cases i
  · exact ⟨h1, h2⟩
  · cases q
    · exact ⟨h1, h2⟩
    · exact h3 _ rfl
theorem Pa.calm_step {q : Pa} (h : q.fails = false) : q.step = q ∧ q.falls = false := by simp [Pa.step, Pa.falls, h]
theorem Da.calm_setd {A : Da} (h : A.calm) (i : Bool) (x : Ab) : (A.setd i x).calm := by cases i <;> exact h
theorem Da.oth_calm {A : Da} (h : A.calm) (i c : Bool) : A.oth i c = A := by
  unfold Da.oth
  split
  · rw [show ((A.dev (!i)).step (A.pow i)) = A.dev (!i) from by simp [Ab.step, (Pa.calm_step (Da.calm_pow h i).2).2], Da.setd_self]
  · rfl
theorem Da.write_calm {A : Da} (h : A.calm) (i : Bool) (n : Int) (s : Sec) : A.write i n s = (if !(A.dev i).out && (A.dev i).has n then A.setd i ((A.dev i).push n.toNat s) else A) ∧ A.wE i n = (if (A.dev i).out then 13 else if (A.dev i).has n then 0 else 2) := by
  obtain ⟨h1, h2⟩ := Da.calm_pow h i
  obtain ⟨h3, h4⟩ := Pa.calm_step h2
  constructor
  · unfold Da.write
    rw [Da.oth_calm h]
    have e : writeP (A.dev i) (A.pow i) n = A.pow i := by unfold writeP; split <;> simp [h3]
    rw [e, Da.setd_setp]
    unfold writeA wgo Ab.down
    rw [h1, Bool.or_false]
    split
    · simp [Ab.step, h4]
    · exact Da.setd_self _ _
  · unfold Da.wE writeE Ab.down
    rw [h1, Bool.or_false, h4]
    simp
theorem Da.flush_calm {A : Da} (h : A.calm) (i : Bool) : A.flush i = (if (A.dev i).out then A else A.setd i (A.dev i).flush) ∧ A.fE i = (if (A.dev i).out then 13 else 0) := by
  obtain ⟨h1, h2⟩ := Da.calm_pow h i
  obtain ⟨h3, h4⟩ := Pa.calm_step h2
  constructor
  · unfold Da.flush
    rw [Da.oth_calm h]
    have e : flushP (A.dev i) (A.pow i) = A.pow i := by unfold flushP; split <;> simp [h3]
    rw [e, Da.setd_setp]
    unfold flushA Ab.down
    rw [h1, Bool.or_false, h4]
    split
    · exact Da.setd_self _ _
    · simp
  · unfold Da.fE flushE Ab.down
    rw [h1, Bool.or_false, h4]
    simp
theorem Da.read_calm {A : Da} (h : A.calm) (i : Bool) (n : Int) : A.rS i n = (if (A.dev i).out then secOf 0 else if (A.dev i).has n then (A.dev i).read n.toNat else secOf 0) ∧ A.rE i n = (if (A.dev i).out then 13 else if (A.dev i).has n then 0 else 2) := by
  obtain ⟨h1, h2⟩ := Da.calm_pow h i
  unfold Da.rS Da.rE readS readE Ab.down
  rw [h1, Bool.or_false]
  exact ⟨rfl, rfl⟩
end Go.Sl

/- Loops round by round (own work). -/
set_option linter.unusedVariables false
namespace Go.Sl
variable {P : Program} {n : FN} {w0 : World} {Q : Post} {E : Env} {H : Hp}
/-- Within a loop, ahead of a round. -/
def WpIn (P : Program) (n : FN) (w0 : World) (c : Code) (Q : Post) (E : Env) (H : Hp) : Prop := ∀ a w, FrOk n E a → St w0 w H → ∀ b k cs,
  ∃ e a' w', lift n w0 Q e a' w' ∧ Arrives P (lone (b.at a (.code c :: .inLoop c :: k)) cs w) b k cs e a' w'
theorem C_loopIn {c : Code} (h : WpIn P n w0 c Q E H) : WpC P n w0 (.loop c) Q E H := by
  intro a w ha hw b k cs
  obtain ⟨e, a', w', hq, harr⟩ := h a w ha hw b k cs
  exact ⟨e, a', w', hq, .of_steps (.one step_loop) harr⟩
theorem In_round {c : Code} (h : WpC P n w0 c (thenQ (fun E' H' => WpIn P n w0 c Q E' H') Q) E H) : WpIn P n w0 c Q E H := by
  intro a w ha hw b k cs
  obtain ⟨e, a₁, w₁, hq, harr⟩ := h a w ha hw b (.inLoop c :: k) cs
  obtain ⟨E₁, H₁, f1, s1, q⟩ := hq
  cases e with
  | normal =>
    obtain ⟨e₂, a₂, w₂, hq₂, harr₂⟩ := q a₁ w₁ (f1.2 rfl) s1 b k cs
    exact ⟨e₂, a₂, w₂, hq₂, .of_steps (Steps.trans harr (.one step_inLoop)) harr₂⟩
  | exit id => exact ⟨_, a₁, w₁, ⟨E₁, H₁, f1, s1, q⟩, .pass (x := .inLoop c) rfl (fun _ _ => .inl (by simp)) harr⟩
  | goto l => exact ⟨_, a₁, w₁, ⟨E₁, H₁, f1, s1, q⟩, .pass (x := .inLoop c) rfl (fun _ _ => .inl (by simp)) harr⟩
  | ret => exact ⟨_, a₁, w₁, ⟨E₁, H₁, f1, s1, q⟩, .pass (x := .inLoop c) rfl (fun _ _ => .inl (by simp)) harr⟩
  | panic ch => exact ⟨_, a₁, w₁, ⟨E₁, H₁, f1, s1, q⟩, .pass (x := .inLoop c) rfl (fun _ _ => .inl (by simp)) harr⟩
  | outgrown => exact ⟨_, a₁, w₁, ⟨E₁, H₁, f1, s1, q⟩, .pass (x := .inLoop c) rfl (fun _ _ => .inl (by simp)) harr⟩
/-- Any of these loud operations may come up. -/
def HAll (P : Program) (n : FN) (w0 : World) (ops : List Oper) (Q : Post) (HS : Hp) (fuel : Nat) (listed : List Bool) (E : Env) (H : Hp) : List Nat → Prop
  | [] => True
  | k :: ks => (∃ o, ops[k]? = some o ∧ wE ops E o.guard = some true ∧ OpW P n w0 Q o E H (fun E' H' => HSub HS H' ∧ WpH P n w0 ops Q HS fuel (listed.set k true) E' H')) ∧ HAll P n w0 ops Q HS fuel listed E H ks
end Go.Sl

