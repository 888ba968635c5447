/- The calculus of this seat's walks (own work): a state is what is known of the frame's slots and of the heap's blocks; one law for each form of code. Nothing is said of any program here. -/
import Derived.Calls
import Derived.Below
import Derived.OrdersHeld
import Derived.StillTail
import Derived.Laws.Cells
import Derived.Laws.Entries
import Derived.KernelRfl
set_option linter.unusedVariables false
set_option linter.unusedSimpArgs false
namespace Go.Sl
open Go.RowKit (Below)

/-! ### What is known of a frame -/
abbrev Env := List (Nat × Value)
def look : Env → Nat → Option Value
  | [], _ => none
  | (d, v) :: E, t => bif Nat.beq d t then some v else look E t
def ev (E : Env) : Operand → Option Value
  | .tmp t => look E t
  | .const v => some v
  | .global g => some (.pointer (some ⟨g, 0, none⟩))
  | .func f => some (.func (.func f) #[] #[])
def put (E : Env) (d : Option Nat) (v : Value) : Env := match d with | some d => (d, v) :: E | none => E
/-- A frame's size, and what it has deferred. -/
structure FN where
  n : Nat
  ds : List Deferred
def dok (d : Option Nat) (n : FN) : Bool := match d with | some d => Nat.blt d n.n | none => true
structure FrOk (n : FN) (E : Env) (a : Act) : Prop where
  defers : a.defers = n.ds
  size : a.tmps.size = n.n
  known : ∀ t v, look E t = some v → a.tmps[t]? = some v

theorem FrOk.eval {n : FN} {E : Env} {a : Act} (h : FrOk n E a) {x : Operand} {v : Value} (hx : ev E x = some v) : a.eval x = v := by
  cases x with
  | tmp t => have := h.known t v hx; simp [Act.eval, this]
  | const u => simp [ev] at hx; simp [Act.eval, hx]
  | global g => simp [ev] at hx; simp [Act.eval, hx]
  | func f => simp [ev] at hx; simp [Act.eval, hx]

theorem look_put {E : Env} {d : Nat} {v : Value} {t : Nat} : look ((d, v) :: E) t = if d = t then some v else look E t := by
  show (bif Nat.beq d t then some v else look E t) = _
  by_cases h : d = t
  · subst h; simp
  · have : Nat.beq d t = false := by
      cases hb : Nat.beq d t with
      | false => rfl
      | true => exact absurd (Nat.eq_of_beq_eq_true hb) h
    simp [this, h]

theorem FrOk.put {n : FN} {E : Env} {a : Act} (h : FrOk n E a) {d : Option Nat} (hd : dok d n = true) (v : Value) : FrOk n (put E d v) (a.put d v) := by
  cases d with
  | none => exact h
  | some d =>
    have hlt : d < n.n := Nat.lt_of_succ_le (by simpa [dok, Nat.blt] using hd)
    refine ⟨h.defers, by simp [Act.put, h.size], fun t u ht => ?_⟩
    simp only [Sl.put] at ht
    rw [look_put] at ht
    simp only [Act.put, Array.getElem?_setIfInBounds, h.size]
    by_cases e : d = t
    · subst e; simp at ht; simp [hlt, ht]
    · rw [if_neg e] at ht; simp only [if_neg e]; exact h.known t u ht

/-- E' tells no more than E. -/
def SubEnv : Env → Env → Prop
  | [], _ => True
  | (t, v) :: E', E => look E t = some v ∧ SubEnv E' E
theorem SubEnv.spec {E' E : Env} (h : SubEnv E' E) : ∀ t v, look E' t = some v → look E t = some v := by
  induction E' with
  | nil => intro t v ht; cases ht
  | cons p E' ih =>
    obtain ⟨d, u⟩ := p
    intro t v ht
    rw [look_put] at ht
    by_cases e : d = t
    · subst e; simp at ht; subst ht; exact h.1
    · rw [if_neg e] at ht; exact ih h.2 t v ht
theorem frOk_same {n : FN} {E : Env} {a : Act} (h : FrOk n E a) {t : Nat} {v : Value} (ht : look E t = some v) : FrOk n ((t, v) :: E) a :=
  ⟨h.defers, h.size, fun u w hu => by
    rw [look_put] at hu
    by_cases e : t = u
    · subst e; simp at hu; subst hu; exact h.known t v ht
    · rw [if_neg e] at hu; exact h.known u w hu⟩
theorem FrOk.weaken {n : FN} {E E' : Env} {a : Act} (h : FrOk n E a) (hs : SubEnv E' E) : FrOk n E' a :=
  ⟨h.defers, h.size, fun t v ht => h.known t v (hs.spec t v ht)⟩

/-! ### What is known of the heap -/
abbrev Hp := List (List (Nat × Obj))
structure St (w0 w : World) (H : Hp) : Prop where
  below : Below w0.heap.size w0 w
  nodup : (H.flatten.map Prod.fst).Nodup
  ge : ∀ p ∈ H.flatten, w0.heap.size ≤ p.1
  has : ∀ p ∈ H.flatten, w.heap[p.1]? = some p.2

theorem St.start (w0 : World) : St w0 w0 [] := ⟨Below.refl _ _, by simp, by simp, by simp⟩
theorem St.drew {w0 w : World} {H : Hp} (h : St w0 w H) : St w0 w.drew H := ⟨h.below.drew, h.nodup, h.ge, h.has⟩
theorem St.drawn {w0 w : World} {H : Hp} (h : St w0 w H) (k : Nat) : St w0 { w with drawn := k } H :=
  ⟨⟨h.below.os, h.below.tape, h.below.output, h.below.size, h.below.block⟩, h.nodup, h.ge, h.has⟩

/-- Fewer blocks, in any order. -/
def HSub (H' H : Hp) : Prop := ∀ w0 w, St w0 w H → St w0 w H'
theorem HSub.refl (H : Hp) : HSub H H := fun _ _ h => h
theorem HSub.trans {A B C : Hp} (h : HSub A B) (k : HSub B C) : HSub A C := fun w0 w s => h w0 w (k w0 w s)
theorem HSub.of_sublist {H' H L : Hp} (hp : H.flatten.Perm L.flatten) (hs : H'.flatten.Sublist L.flatten) : HSub H' H := fun w0 w h => by
  have hm : ∀ p ∈ H'.flatten, p ∈ H.flatten := fun p hp' => hp.mem_iff.2 (hs.subset hp')
  exact ⟨h.below, (hs.map Prod.fst).nodup ((hp.map Prod.fst).nodup_iff.1 h.nodup), fun p q => h.ge p (hm p q), fun p q => h.has p (hm p q)⟩
theorem HSub.of_perm {H' H : Hp} (hp : H.flatten.Perm H'.flatten) : HSub H' H := .of_sublist hp (List.Sublist.refl _)
theorem HSub.drop (S : List (Nat × Obj)) (H : Hp) : HSub H (S :: H) := .of_sublist (List.Perm.refl _) (by simp [List.flatten_cons])
theorem HSub.cons {H' H : Hp} (S : List (Nat × Obj)) (h : ∃ L : Hp, H.flatten.Perm L.flatten ∧ H'.flatten.Sublist L.flatten) : HSub (S :: H') (S :: H) := by
  obtain ⟨L, hp, hs⟩ := h
  exact .of_sublist (L := S :: L) (by simpa using hp.append_left S) (by simpa using (List.Sublist.refl S).append hs)

/-- Where a block lies. -/
def getH : Hp → Nat → Nat → Option (Nat × Obj)
  | [], _, _ => none
  | S :: _, 0, k => S[k]?
  | _ :: H, s + 1, k => getH H s k
def setH : Hp → Nat → Nat → Obj → Hp
  | [], _, _, _ => []
  | S :: H, 0, k, o => (S.modify k fun p => (p.1, o)) :: H
  | S :: H, s + 1, k, o => S :: setH H s k o
/-- One segment told anew. -/
def setS : Hp → Nat → List (Nat × Obj) → Hp
  | [], _, _ => []
  | _ :: H, 0, X => X :: H
  | S :: H, s + 1, X => S :: setS H s X

theorem getH_mem {H : Hp} {s k : Nat} {p : Nat × Obj} (h : getH H s k = some p) : p ∈ H.flatten := by
  induction H generalizing s with
  | nil => cases h
  | cons S H ih =>
    cases s with
    | zero => simp only [getH] at h; simp [List.mem_of_getElem? h]
    | succ s => simp only [getH] at h; simp only [List.flatten_cons, List.mem_append]; exact .inr (ih h)

/-- In the worlds of W block b is o. -/
def Sees (W : World → Prop) (b : Nat) (o : Obj) : Prop := ∀ w, W w → w.heap[b]? = some o
theorem sees {w0 : World} {H : Hp} (s k : Nat) {b : Nat} {o : Obj} (h : getH H s k = some (b, o)) : Sees (fun w => St w0 w H) b o :=
  fun _ hw => hw.has _ (getH_mem h)
theorem sees_mem {w0 : World} {H : Hp} {b : Nat} {o : Obj} (h : (b, o) ∈ H.flatten) : Sees (fun w => St w0 w H) b o :=
  fun _ hw => hw.has _ h
theorem sees_old {w0 : World} {H : Hp} {b : Nat} {o : Obj} (h : w0.heap[b]? = some o) : Sees (fun w => St w0 w H) b o :=
  fun w hw => by
    have hlt : b < w0.heap.size := (Array.getElem?_eq_some_iff.1 h).1
    rw [hw.below.block b hlt]; exact h
/-- What may be read: a block that was there, or one of those that are known. -/
def Rd (w0 : World) (H : Hp) (b : Nat) (o : Obj) : Prop := Sees (fun w => St w0 w H) b o
theorem Sees.sub {w0 : World} {H H' : Hp} {b : Nat} {o : Obj} (h : Sees (fun w => St w0 w H') b o) (hs : HSub H' H) : Sees (fun w => St w0 w H) b o :=
  fun w hw => h w (hs w0 w hw)

/-! ### Worlds that are written -/
def putB (w : World) (b : Nat) (o : Obj) : World := { w with heap := w.heap.setIfInBounds b o }
theorem putB_same {w : World} {b : Nat} {o o' : Obj} (h : w.heap[b]? = some o) : (putB w b o').heap[b]? = some o' := by
  have hlt : b < w.heap.size := (Array.getElem?_eq_some_iff.1 h).1
  simp [putB, hlt]
theorem putB_other {w : World} {b c : Nat} {o : Obj} (h : c ≠ b) : (putB w b o).heap[c]? = w.heap[c]? := by
  simp only [putB, Array.getElem?_setIfInBounds]
  rw [if_neg (fun e => h e.symm)]

theorem map_modify_fst (S : List (Nat × Obj)) (k : Nat) (o : Obj) : (S.modify k fun p => (p.1, o)).map Prod.fst = S.map Prod.fst := by
  apply List.ext_getElem?
  intro i
  simp only [List.getElem?_map, List.getElem?_modify]
  cases S[i]? <;> simp
  split <;> rfl
theorem setH_keys (H : Hp) (s k : Nat) (o : Obj) : (setH H s k o).flatten.map Prod.fst = H.flatten.map Prod.fst := by
  induction H generalizing s with
  | nil => rfl
  | cons S H ih =>
    cases s with
    | zero => simp only [setH, List.flatten_cons, List.map_append]; rw [map_modify_fst]
    | succ s => simp only [setH, List.flatten_cons, List.map_append, ih s]
theorem mem_modify {S : List (Nat × Obj)} {k : Nat} {o : Obj} {p q : Nat × Obj} (hk : S[k]? = some q) (h : p ∈ S.modify k fun p => (p.1, o)) :
    p = (q.1, o) ∨ (∃ j, j ≠ k ∧ S[j]? = some p) := by
  obtain ⟨j, hj⟩ := List.mem_iff_getElem?.1 h
  rw [List.getElem?_modify] at hj
  by_cases e : k = j
  · subst e; rw [hk] at hj; simp at hj; exact .inl hj.symm
  · cases hS : S[j]? with
    | none => simp [hS] at hj
    | some r => simp [hS, e] at hj; subst hj; exact .inr ⟨j, fun h => e h.symm, hS⟩
theorem nodup_ne {S : List (Nat × Obj)} (hn : (S.map Prod.fst).Nodup) {j k : Nat} {p q : Nat × Obj} (hj : S[j]? = some p) (hk : S[k]? = some q) (hne : j ≠ k) : p.1 ≠ q.1 := by
  intro e
  have h1 : (S.map Prod.fst)[j]? = some p.1 := by simp [hj]
  have h2 : (S.map Prod.fst)[k]? = some p.1 := by simp [hk, e]
  have hlt : j < (S.map Prod.fst).length := (List.getElem?_eq_some_iff.1 h1).1
  exact hne ((List.getElem?_inj hlt hn).1 (h1.trans h2.symm))
theorem mem_setH {H : Hp} {s k : Nat} {o : Obj} {p q : Nat × Obj} (hn : (H.flatten.map Prod.fst).Nodup) (hk : getH H s k = some q) (h : p ∈ (setH H s k o).flatten) :
    p = (q.1, o) ∨ (p ∈ H.flatten ∧ p.1 ≠ q.1) := by
  induction H generalizing s with
  | nil => cases hk
  | cons S H ih =>
    have hn' := hn
    simp only [List.flatten_cons, List.map_append] at hn
    rw [List.nodup_append] at hn
    cases s with
    | zero =>
      simp only [getH] at hk
      simp only [setH, List.flatten_cons, List.mem_append] at h
      rcases h with h | h
      · rcases mem_modify hk h with h | ⟨j, hj, hS⟩
        · exact .inl h
        · exact .inr ⟨by simp [List.mem_of_getElem? hS], nodup_ne hn.1 hS hk hj⟩
      · refine .inr ⟨by simp only [List.flatten_cons, List.mem_append]; exact .inr h, fun e => ?_⟩
        exact hn.2.2 q.1 (List.mem_map.2 ⟨q, List.mem_of_getElem? hk, rfl⟩) p.1 (List.mem_map.2 ⟨p, h, rfl⟩) e.symm
    | succ s =>
      simp only [getH] at hk
      simp only [setH, List.flatten_cons, List.mem_append] at h
      rcases h with h | h
      · refine .inr ⟨by simp [h], fun e => ?_⟩
        exact hn.2.2 p.1 (List.mem_map.2 ⟨p, h, rfl⟩) q.1 (List.mem_map.2 ⟨q, getH_mem hk, rfl⟩) e
      · rcases ih hn.2.1 hk h with h | h
        · exact .inl h
        · exact .inr ⟨by simp [h.1], h.2⟩

theorem St.putB {w0 w : World} {H : Hp} (h : St w0 w H) {s k : Nat} {b : Nat} {o : Obj} (hk : getH H s k = some (b, o)) (o' : Obj) :
    St w0 (putB w b o') (setH H s k o') := by
  have hb : w0.heap.size ≤ b := h.ge _ (getH_mem hk)
  have hB := h.has _ (getH_mem hk)
  refine ⟨⟨h.below.os, h.below.tape, h.below.output, by simpa [Sl.putB] using h.below.size, fun c hc => ?_⟩, by rw [setH_keys]; exact h.nodup, fun p hp => ?_, fun p hp => ?_⟩
  · rw [putB_other (by omega)]; exact h.below.block c hc
  · rcases mem_setH h.nodup hk hp with e | e
    · rw [e]; exact hb
    · exact h.ge _ e.1
  · rcases mem_setH h.nodup hk hp with e | e
    · rw [e]; exact putB_same hB
    · rw [putB_other e.2]; exact h.has _ e.1

theorem St.alloc {w0 w : World} {H : Hp} (h : St w0 w H) (o : Obj) : St w0 (w.alloc o) ([(w.heap.size, o)] :: H) := by
  have hlt : ∀ p ∈ H.flatten, p.1 < w.heap.size := fun p hp => (Array.getElem?_eq_some_iff.1 (h.has p hp)).1
  refine ⟨h.below.alloc h.below.size o, ?_, ?_, ?_⟩
  · simp only [List.flatten_cons, List.singleton_append, List.map_cons, List.nodup_cons]
    refine ⟨fun hm => ?_, h.nodup⟩
    obtain ⟨p, hp, e⟩ := List.mem_map.1 hm
    have := hlt p hp
    omega
  · intro p hp
    simp only [List.flatten_cons, List.singleton_append, List.mem_cons] at hp
    rcases hp with rfl | hp
    · exact h.below.size
    · exact h.ge p hp
  · intro p hp
    simp only [List.flatten_cons, List.singleton_append, List.mem_cons] at hp
    rcases hp with rfl | hp
    · show (w.heap.push o)[w.heap.size]? = some o
      simp
    · rw [show (w.alloc o).heap[p.1]? = w.heap[p.1]? from Below.heap_alloc w o p.1 (hlt p hp)]; exact h.has p hp

/-! ### Judgements -/
abbrev Post := Exit → Env → Hp → Prop
def Exit.isPanic : Exit → Bool
  | .panic _ => true
  | _ => false
def lift (n : FN) (w0 : World) (Q : Post) : Exit → Act → World → Prop := fun e a w => ∃ E H, (a.defers = n.ds ∧ (Exit.isPanic e = false → FrOk n E a)) ∧ St w0 w H ∧ Q e E H
def WpC (P : Program) (n : FN) (w0 : World) (c : Code) (Q : Post) (E : Env) (H : Hp) : Prop := ∀ a w, FrOk n E a → St w0 w H → c.wp P (lift n w0 Q) a w
def WpL (P : Program) (n : FN) (w0 : World) (ops : List Oper) (Q : Post) (l : List Oper) (E : Env) (H : Hp) : Prop :=
  ∀ a w, FrOk n E a → St w0 w H → wpList P ops.toArray (lift n w0 Q) l a w
/-- One operation. -/
def OpW (P : Program) (n : FN) (w0 : World) (Q : Post) (o : Oper) (E : Env) (H : Hp) (K : Env → Hp → Prop) : Prop :=
  ∀ a w, FrOk n E a → St w0 w H → ∀ next : Act → World → Prop, (∀ E' H' a' w', FrOk n E' a' → St w0 w' H' → K E' H' → next a' w') → o.wp P a w next (lift n w0 Q)
/-- A call. -/
def FnS (P : Program) (w0 : World) (f : Nat) (args : Array Value) (H : Hp) (R : Ending → Hp → Prop) : Prop :=
  ∀ w, St w0 w H → Calls P f args w fun e w' => ∃ H', St w0 w' H' ∧ R e H'
/-- An operation that only yields a value, in each world of W. -/
def YV (P : Program) (n : FN) (E : Env) (W : World → Prop) (op : Op) (ty : Nat) (v : Value) : Prop :=
  ∀ a w, FrOk n E a → W w → ∀ d ps af g, (execOp a.eval ⟨d, op, ty, ps, af, g⟩).run P w = .ok (.value v) w

variable {P : Program} {n : FN} {w0 : World} {Q : Post} {E E' : Env} {H H' : Hp}

theorem FnS.mono {f : Nat} {args : Array Value} {R R' : Ending → Hp → Prop} (h : FnS P w0 f args H R) (hr : ∀ e H', R e H' → R' e H') : FnS P w0 f args H R' :=
  fun w hw => (h w hw).mono fun e w' ⟨H', s, r⟩ => ⟨H', s, hr e H' r⟩
theorem FnS.sub {f : Nat} {args : Array Value} {R : Ending → Hp → Prop} (hs : HSub H' H) (h : FnS P w0 f args H' R) : FnS P w0 f args H R :=
  fun w hw => h w (hs w0 w hw)
/-- A contract that is told of one segment ahead of all others, used of segment k. -/
theorem perm_setS : ∀ (H : Hp) (k : Nat) (X Y : List (Nat × Obj)), H[k]? = some X → ∃ L, H.flatten.Perm (X :: L).flatten ∧ (setS H k Y).flatten.Perm (Y :: L).flatten
  | [], _, _, _, h => by cases h
  | S :: H, 0, X, Y, h => by simp at h; subst h; exact ⟨H, .refl _, .refl _⟩
  | S :: H, k + 1, X, Y, h => by
    simp only [List.getElem?_cons_succ] at h
    obtain ⟨L, h1, h2⟩ := perm_setS H k X Y h
    refine ⟨S :: L, ?_, ?_⟩
    · simp only [List.flatten_cons] at *
      refine (h1.append_left S).trans ?_
      rw [← List.append_assoc, ← List.append_assoc]
      exact (List.perm_append_comm).append_right _
    · simp only [setS, List.flatten_cons] at *
      refine (h2.append_left S).trans ?_
      rw [← List.append_assoc, ← List.append_assoc]
      exact (List.perm_append_comm).append_right _
theorem perm_setS_all : ∀ (H : Hp) (k : Nat) (X : List (Nat × Obj)), H[k]? = some X → ∃ L, H.flatten.Perm (X :: L).flatten ∧ ∀ Y, (setS H k Y).flatten.Perm (Y :: L).flatten
  | [], _, _, h => by cases h
  | S :: H, 0, X, h => by simp at h; subst h; exact ⟨H, .refl _, fun _ => .refl _⟩
  | S :: H, k + 1, X, h => by
    simp only [List.getElem?_cons_succ] at h
    obtain ⟨L, h1, h2⟩ := perm_setS_all H k X h
    refine ⟨S :: L, ?_, fun Y => ?_⟩
    · simp only [List.flatten_cons] at *
      refine (h1.append_left S).trans ?_
      rw [← List.append_assoc, ← List.append_assoc]
      exact (List.perm_append_comm).append_right _
    · have h2 := h2 Y
      simp only [setS, List.flatten_cons] at *
      refine (h2.append_left S).trans ?_
      rw [← List.append_assoc, ← List.append_assoc]
      exact (List.perm_append_comm).append_right _
theorem FnS.at {f : Nat} {args : Array Value} {X : List (Nat × Obj)} {φ : Ending → List (Nat × Obj) → Prop} (k : Nat)
    (h : ∀ L, FnS P w0 f args (X :: L) fun e H' => ∃ Y, φ e Y ∧ H' = Y :: L) (hk : H[k]? = some X) :
    FnS P w0 f args H fun e H' => ∃ Y, φ e Y ∧ H' = setS H k Y := by
  obtain ⟨L, h1, h2⟩ := perm_setS_all H k X hk
  intro w hw
  refine (h L w (HSub.of_perm h1 w0 w hw)).mono ?_
  rintro e w' ⟨H', s, Y, hφ, rfl⟩
  exact ⟨_, HSub.of_perm (h2 Y).symm w0 w' s, Y, hφ, rfl⟩

/-! ### Code -/
theorem C_weaken {c : Code} (hE : SubEnv E' E) (hH : HSub H' H) (h : WpC P n w0 c Q E' H') : WpC P n w0 c Q E H :=
  fun a w ha hw => h a w (ha.weaken hE) (hH w0 w hw)
theorem C_mono {c : Code} {Q' : Post} (h : WpC P n w0 c Q' E H) (hq : ∀ e E H, Q' e E H → Q e E H) : WpC P n w0 c Q E H :=
  fun a w ha hw => wp_mono (h a w ha hw) fun e a' w' ⟨E', H', x, y, z⟩ => ⟨E', H', x, y, hq _ _ _ z⟩
@[reducible] def thenQ (K : Env → Hp → Prop) (Q : Post) : Post := fun e E H => match e with | .normal => K E H | e => Q e E H
theorem C_seq {x y : Code} (h : WpC P n w0 x (thenQ (WpC P n w0 y Q) Q) E H) : WpC P n w0 (.seq x y) Q E H := fun a w ha hw => by
  refine wp_seq (wp_mono (h a w ha hw) ?_)
  rintro e a' w' ⟨E', H', x, s, q⟩
  cases e with
  | normal => exact q a' w' (x.2 rfl) s
  | _ => exact ⟨E', H', x, s, q⟩
/-- A sequence with a cut between. -/
theorem C_cut {x y : Code} (K : Env → Hp → Prop) (h : WpC P n w0 x (thenQ K Q) E H) (hk : ∀ E H, K E H → WpC P n w0 y Q E H) : WpC P n w0 (.seq x y) Q E H :=
  C_seq (C_mono h fun e E H q => by cases e <;> first | exact hk _ _ q | exact q)
theorem C_skip (h : Q .normal E H) : WpC P n w0 .skip Q E H := fun a w ha hw => wp_skip ⟨E, H, ⟨ha.defers, fun _ => ha⟩, hw, h⟩
theorem C_ret (h : Q .ret E H) : WpC P n w0 .ret Q E H := fun a w ha hw => wp_ret ⟨E, H, ⟨ha.defers, fun _ => ha⟩, hw, h⟩
theorem C_exit {id : Nat} (h : Q (.exit id) E H) : WpC P n w0 (.exit id) Q E H := fun a w ha hw => wp_exit ⟨E, H, ⟨ha.defers, fun _ => ha⟩, hw, h⟩
theorem C_cond {c : Operand} {x y : Code} {b : Bool} (hc : ev E c = some (.bool b)) (ht : b = true → WpC P n w0 x Q E H) (hf : b = false → WpC P n w0 y Q E H) :
    WpC P n w0 (.cond c x y) Q E H := fun a w ha hw => wp_cond_split (ha.eval hc) (fun h => ht h a w ha hw) (fun h => hf h a w ha hw)
theorem C_cond_t {c : Operand} {x y : Code} (hc : ev E c = some (.bool true)) (h : WpC P n w0 x Q E H) : WpC P n w0 (.cond c x y) Q E H :=
  fun a w ha hw => wp_cond_true (ha.eval hc) (h a w ha hw)
theorem C_cond_f {c : Operand} {x y : Code} (hc : ev E c = some (.bool false)) (h : WpC P n w0 y Q E H) : WpC P n w0 (.cond c x y) Q E H :=
  fun a w ha hw => wp_cond_false (ha.eval hc) (h a w ha hw)
@[reducible] def blockQ (id : Nat) (Q : Post) : Post := fun e E H => match e with | .exit id' => if id' = id then Q .normal E H else Q (.exit id') E H | e => Q e E H
theorem C_block {id : Nat} {c : Code} (h : WpC P n w0 c (blockQ id Q) E H) : WpC P n w0 (.block id c) Q E H := fun a w ha hw => by
  refine wp_block (wp_mono (h a w ha hw) ?_)
  rintro e a' w' ⟨E', H', x, s, q⟩
  cases e with
  | exit id' =>
    simp only [blockQ] at q
    simp only [Exit.inBlock]
    split
    · rename_i e; rw [if_pos e] at q; exact ⟨E', H', ⟨x.1, fun _ => x.2 rfl⟩, s, q⟩
    · rename_i e; rw [if_neg e] at q; exact ⟨E', H', ⟨x.1, fun _ => x.2 rfl⟩, s, q⟩
  | _ => exact ⟨E', H', x, s, q⟩
/-- A loop: states i : ι between the rounds; a measure falls. -/
theorem C_loop {ι : Type} {c : Code} (Ei : ι → Env) (Hi : ι → Hp) (G : ι → Prop) (μ : ι → Nat) (i0 : ι) (h0 : G i0) (hE : SubEnv (Ei i0) E) (hH : HSub (Hi i0) H)
    (round : ∀ i, G i → WpC P n w0 c (thenQ (fun E' H' => ∃ j, G j ∧ μ j < μ i ∧ SubEnv (Ei j) E' ∧ HSub (Hi j) H') Q) (Ei i) (Hi i)) :
    WpC P n w0 (.loop c) Q E H := by
  intro a w ha hw b k cs
  have key : ∀ (m : Nat) (i : ι), G i → μ i = m → ∀ a w, FrOk n (Ei i) a → St w0 w (Hi i) →
      ∃ e a' w', lift n w0 Q e a' w' ∧ Arrives P (lone (b.at a (.code c :: .inLoop c :: k)) cs w) b k cs e a' w' := by
    intro m
    induction m using Nat.strongRecOn with
    | _ m ih =>
      intro i gi hm a w ha hw
      obtain ⟨e, a₁, w₁, hq, harr⟩ := round i gi a w ha hw b (.inLoop c :: k) cs
      obtain ⟨E₁, H₁, f1, s1, q⟩ := hq
      cases e with
      | normal =>
        obtain ⟨j, gj, hlt, hE, hH⟩ := q
        obtain ⟨e₂, a₂, w₂, hq₂, harr₂⟩ := ih (μ j) (hm ▸ hlt) j gj rfl a₁ w₁ ((f1.2 rfl).weaken hE) (hH w0 w₁ s1)
        exact ⟨e₂, a₂, w₂, hq₂, .of_steps (Steps.trans harr (.one step_inLoop)) harr₂⟩
      | exit id => exact ⟨_, a₁, w₁, ⟨E₁, H₁, f1, s1, q⟩, .pass (x := .inLoop c) rfl (fun _ _ => .inl (by simp)) harr⟩
      | goto l => exact ⟨_, a₁, w₁, ⟨E₁, H₁, f1, s1, q⟩, .pass (x := .inLoop c) rfl (fun _ _ => .inl (by simp)) harr⟩
      | ret => exact ⟨_, a₁, w₁, ⟨E₁, H₁, f1, s1, q⟩, .pass (x := .inLoop c) rfl (fun _ _ => .inl (by simp)) harr⟩
      | panic ch => exact ⟨_, a₁, w₁, ⟨E₁, H₁, f1, s1, q⟩, .pass (x := .inLoop c) rfl (fun _ _ => .inl (by simp)) harr⟩
      | outgrown => exact ⟨_, a₁, w₁, ⟨E₁, H₁, f1, s1, q⟩, .pass (x := .inLoop c) rfl (fun _ _ => .inl (by simp)) harr⟩
  obtain ⟨e, a', w', hq, harr⟩ := key (μ i0) i0 h0 rfl a w (ha.weaken hE) (hH w0 w hw)
  exact ⟨e, a', w', hq, .of_steps (.one step_loop) harr⟩
end Go.Sl
