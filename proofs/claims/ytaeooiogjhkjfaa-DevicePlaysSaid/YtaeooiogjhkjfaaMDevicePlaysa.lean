/- Own work: texts SlA, SlB, SlC, SlD, SlE, SlF, Fa, SlH, SlI, F8, Dv, Dw, Du, Dx, R8, SlU, Q0W, Q1W, Wi, put together. -/
import Derived.Calls
import Derived.Below
import Derived.OrdersHeld
import Derived.StillTail
import Derived.Laws.Cells
import Derived.Laws.Entries
import Derived.KernelRfl
import Derived.Laws.StructEq
import Derived.Laws.Pointers
import Derived.Laws.Small
import Derived.Laws.Cover3
import Derived.Laws.BitsLemmas
import Derived.Laws.Append
import Derived.Stop.BytesEq
import Derived.Laws.BytesString
import Derived.Test.YtaeooiogjhkjfaaProg
import Derived.Laws.IdiomStrings
/- The calculus of this seat's walks (own work): a state is what is known of the frame's slots and of the heap's blocks; one law for each form of code. Nothing is said of any program here. -/
set_option linter.unusedVariables false
set_option linter.unusedSimpArgs false
namespace Go.Sl
open Go.RowKit (Below)

/-! ### What is known of a frame -/
abbrev Env := List (Nat × Value)
def look : Env → Nat → Option Value
  | [], _ => none
  | (d, v) :: E, t => bif Nat.beq d t then some v else look E t
def ev (E : Env) : Operand → Option Value
  | .tmp t => look E t
  | .const v => some v
  | .global g => some (.pointer (some ⟨g, 0, none⟩))
  | .func f => some (.func (.func f) #[] #[])
def put (E : Env) (d : Option Nat) (v : Value) : Env := match d with | some d => (d, v) :: E | none => E
/-- A frame's size, and what it has deferred. -/
structure FN where
  n : Nat
  ds : List Deferred
def dok (d : Option Nat) (n : FN) : Bool := match d with | some d => Nat.blt d n.n | none => true
structure FrOk (n : FN) (E : Env) (a : Act) : Prop where
  defers : a.defers = n.ds
  size : a.tmps.size = n.n
  known : ∀ t v, look E t = some v → a.tmps[t]? = some v

theorem FrOk.eval {n : FN} {E : Env} {a : Act} (h : FrOk n E a) {x : Operand} {v : Value} (hx : ev E x = some v) : a.eval x = v := by
  cases x with
  | tmp t => have := h.known t v hx; simp [Act.eval, this]
  | const u => simp [ev] at hx; simp [Act.eval, hx]
  | global g => simp [ev] at hx; simp [Act.eval, hx]
  | func f => simp [ev] at hx; simp [Act.eval, hx]

theorem look_put {E : Env} {d : Nat} {v : Value} {t : Nat} : look ((d, v) :: E) t = if d = t then some v else look E t := by
  show (bif Nat.beq d t then some v else look E t) = _
  by_cases h : d = t
  · subst h; simp
  · have : Nat.beq d t = false := by
      cases hb : Nat.beq d t with
      | false => rfl
      | true => exact absurd (Nat.eq_of_beq_eq_true hb) h
    simp [this, h]

theorem FrOk.put {n : FN} {E : Env} {a : Act} (h : FrOk n E a) {d : Option Nat} (hd : dok d n = true) (v : Value) : FrOk n (put E d v) (a.put d v) := by
  cases d with
  | none => exact h
  | some d =>
    have hlt : d < n.n := Nat.lt_of_succ_le (by simpa [dok, Nat.blt] using hd)
    refine ⟨h.defers, by simp [Act.put, h.size], fun t u ht => ?_⟩
    simp only [Sl.put] at ht
    rw [look_put] at ht
    simp only [Act.put, Array.getElem?_setIfInBounds, h.size]
    by_cases e : d = t
    · subst e; simp at ht; simp [hlt, ht]
    · rw [if_neg e] at ht; simp only [if_neg e]; exact h.known t u ht

/-- E' tells no more than E. -/
def SubEnv : Env → Env → Prop
  | [], _ => True
  | (t, v) :: E', E => look E t = some v ∧ SubEnv E' E
theorem SubEnv.spec {E' E : Env} (h : SubEnv E' E) : ∀ t v, look E' t = some v → look E t = some v := by
  induction E' with
  | nil => intro t v ht; cases ht
  | cons p E' ih =>
    obtain ⟨d, u⟩ := p
    intro t v ht
    rw [look_put] at ht
    by_cases e : d = t
    · subst e; simp at ht; subst ht; exact h.1
    · rw [if_neg e] at ht; exact ih h.2 t v ht
theorem frOk_same {n : FN} {E : Env} {a : Act} (h : FrOk n E a) {t : Nat} {v : Value} (ht : look E t = some v) : FrOk n ((t, v) :: E) a :=
  ⟨h.defers, h.size, fun u w hu => by
    rw [look_put] at hu
    by_cases e : t = u
    · subst e; simp at hu; subst hu; exact h.known t v ht
    · rw [if_neg e] at hu; exact h.known u w hu⟩
theorem FrOk.weaken {n : FN} {E E' : Env} {a : Act} (h : FrOk n E a) (hs : SubEnv E' E) : FrOk n E' a :=
  ⟨h.defers, h.size, fun t v ht => h.known t v (hs.spec t v ht)⟩

/-! ### What is known of the heap -/
abbrev Hp := List (List (Nat × Obj))
structure St (w0 w : World) (H : Hp) : Prop where
  below : Below w0.heap.size w0 w
  nodup : (H.flatten.map Prod.fst).Nodup
  ge : ∀ p ∈ H.flatten, w0.heap.size ≤ p.1
  has : ∀ p ∈ H.flatten, w.heap[p.1]? = some p.2

theorem St.start (w0 : World) : St w0 w0 [] := ⟨Below.refl _ _, by simp, by simp, by simp⟩
theorem St.drawn {w0 w : World} {H : Hp} (h : St w0 w H) (k : Nat) : St w0 { w with drawn := k } H :=
  ⟨⟨h.below.os, h.below.tape, h.below.output, h.below.size, h.below.block⟩, h.nodup, h.ge, h.has⟩

/-- Fewer blocks, in any order. -/
def HSub (H' H : Hp) : Prop := ∀ w0 w, St w0 w H → St w0 w H'
theorem HSub.refl (H : Hp) : HSub H H := fun _ _ h => h
theorem HSub.trans {A B C : Hp} (h : HSub A B) (k : HSub B C) : HSub A C := fun w0 w s => h w0 w (k w0 w s)
theorem HSub.of_sublist {H' H L : Hp} (hp : H.flatten.Perm L.flatten) (hs : H'.flatten.Sublist L.flatten) : HSub H' H := fun w0 w h => by
  have hm : ∀ p ∈ H'.flatten, p ∈ H.flatten := fun p hp' => hp.mem_iff.2 (hs.subset hp')
  exact ⟨h.below, (hs.map Prod.fst).nodup ((hp.map Prod.fst).nodup_iff.1 h.nodup), fun p q => h.ge p (hm p q), fun p q => h.has p (hm p q)⟩
theorem HSub.of_perm {H' H : Hp} (hp : H.flatten.Perm H'.flatten) : HSub H' H := .of_sublist hp (List.Sublist.refl _)
theorem HSub.drop (S : List (Nat × Obj)) (H : Hp) : HSub H (S :: H) := .of_sublist (List.Perm.refl _) (by simp [List.flatten_cons])
theorem HSub.cons {H' H : Hp} (S : List (Nat × Obj)) (h : ∃ L : Hp, H.flatten.Perm L.flatten ∧ H'.flatten.Sublist L.flatten) : HSub (S :: H') (S :: H) := by
  obtain ⟨L, hp, hs⟩ := h
  exact .of_sublist (L := S :: L) (by simpa using hp.append_left S) (by simpa using (List.Sublist.refl S).append hs)

/-- Where a block lies. -/
def getH : Hp → Nat → Nat → Option (Nat × Obj)
  | [], _, _ => none
  | S :: _, 0, k => S[k]?
  | _ :: H, s + 1, k => getH H s k
def setH : Hp → Nat → Nat → Obj → Hp
  | [], _, _, _ => []
  | S :: H, 0, k, o => (S.modify k fun p => (p.1, o)) :: H
  | S :: H, s + 1, k, o => S :: setH H s k o
/-- One segment told anew. -/
def setS : Hp → Nat → List (Nat × Obj) → Hp
  | [], _, _ => []
  | _ :: H, 0, X => X :: H
  | S :: H, s + 1, X => S :: setS H s X

theorem getH_mem {H : Hp} {s k : Nat} {p : Nat × Obj} (h : getH H s k = some p) : p ∈ H.flatten := by
  induction H generalizing s with
  | nil => cases h
  | cons S H ih =>
    cases s with
    | zero => simp only [getH] at h; simp [List.mem_of_getElem? h]
    | succ s => simp only [getH] at h; simp only [List.flatten_cons, List.mem_append]; exact .inr (ih h)

/-- In the worlds of W block b is o. -/
def Sees (W : World → Prop) (b : Nat) (o : Obj) : Prop := ∀ w, W w → w.heap[b]? = some o
theorem sees {w0 : World} {H : Hp} (s k : Nat) {b : Nat} {o : Obj} (h : getH H s k = some (b, o)) : Sees (fun w => St w0 w H) b o :=
  fun _ hw => hw.has _ (getH_mem h)
theorem sees_mem {w0 : World} {H : Hp} {b : Nat} {o : Obj} (h : (b, o) ∈ H.flatten) : Sees (fun w => St w0 w H) b o :=
  fun _ hw => hw.has _ h
theorem sees_old {w0 : World} {H : Hp} {b : Nat} {o : Obj} (h : w0.heap[b]? = some o) : Sees (fun w => St w0 w H) b o :=
  fun w hw => by
    have hlt : b < w0.heap.size := (Array.getElem?_eq_some_iff.1 h).1
    rw [hw.below.block b hlt]; exact h
/-- What may be read: a block that was there, or one of those that are known. -/
def Rd (w0 : World) (H : Hp) (b : Nat) (o : Obj) : Prop := Sees (fun w => St w0 w H) b o
theorem Sees.sub {w0 : World} {H H' : Hp} {b : Nat} {o : Obj} (h : Sees (fun w => St w0 w H') b o) (hs : HSub H' H) : Sees (fun w => St w0 w H) b o :=
  fun w hw => h w (hs w0 w hw)

/-! ### Worlds that are written -/
def putB (w : World) (b : Nat) (o : Obj) : World := { w with heap := w.heap.setIfInBounds b o }
theorem putB_same {w : World} {b : Nat} {o o' : Obj} (h : w.heap[b]? = some o) : (putB w b o').heap[b]? = some o' := by
  have hlt : b < w.heap.size := (Array.getElem?_eq_some_iff.1 h).1
  simp [putB, hlt]
theorem putB_other {w : World} {b c : Nat} {o : Obj} (h : c ≠ b) : (putB w b o).heap[c]? = w.heap[c]? := by
  simp only [putB, Array.getElem?_setIfInBounds]
  rw [if_neg (fun e => h e.symm)]

theorem map_modify_fst (S : List (Nat × Obj)) (k : Nat) (o : Obj) : (S.modify k fun p => (p.1, o)).map Prod.fst = S.map Prod.fst := by
  apply List.ext_getElem?
  intro i
  simp only [List.getElem?_map, List.getElem?_modify]
  cases S[i]? <;> simp
  split <;> rfl
theorem setH_keys (H : Hp) (s k : Nat) (o : Obj) : (setH H s k o).flatten.map Prod.fst = H.flatten.map Prod.fst := by
  induction H generalizing s with
  | nil => rfl
  | cons S H ih =>
    cases s with
    | zero => simp only [setH, List.flatten_cons, List.map_append]; rw [map_modify_fst]
    | succ s => simp only [setH, List.flatten_cons, List.map_append, ih s]
theorem mem_modify {S : List (Nat × Obj)} {k : Nat} {o : Obj} {p q : Nat × Obj} (hk : S[k]? = some q) (h : p ∈ S.modify k fun p => (p.1, o)) :
    p = (q.1, o) ∨ (∃ j, j ≠ k ∧ S[j]? = some p) := by
  obtain ⟨j, hj⟩ := List.mem_iff_getElem?.1 h
  rw [List.getElem?_modify] at hj
  by_cases e : k = j
  · subst e; rw [hk] at hj; simp at hj; exact .inl hj.symm
  · cases hS : S[j]? with
    | none => simp [hS] at hj
    | some r => simp [hS, e] at hj; subst hj; exact .inr ⟨j, fun h => e h.symm, hS⟩
theorem nodup_ne {S : List (Nat × Obj)} (hn : (S.map Prod.fst).Nodup) {j k : Nat} {p q : Nat × Obj} (hj : S[j]? = some p) (hk : S[k]? = some q) (hne : j ≠ k) : p.1 ≠ q.1 := by
  intro e
  have h1 : (S.map Prod.fst)[j]? = some p.1 := by simp [hj]
  have h2 : (S.map Prod.fst)[k]? = some p.1 := by simp [hk, e]
  have hlt : j < (S.map Prod.fst).length := (List.getElem?_eq_some_iff.1 h1).1
  exact hne ((List.getElem?_inj hlt hn).1 (h1.trans h2.symm))
theorem mem_setH {H : Hp} {s k : Nat} {o : Obj} {p q : Nat × Obj} (hn : (H.flatten.map Prod.fst).Nodup) (hk : getH H s k = some q) (h : p ∈ (setH H s k o).flatten) :
    p = (q.1, o) ∨ (p ∈ H.flatten ∧ p.1 ≠ q.1) := by
  induction H generalizing s with
  | nil => cases hk
  | cons S H ih =>
    have hn' := hn
    simp only [List.flatten_cons, List.map_append] at hn
    rw [List.nodup_append] at hn
    cases s with
    | zero =>
      simp only [getH] at hk
      simp only [setH, List.flatten_cons, List.mem_append] at h
      rcases h with h | h
      · rcases mem_modify hk h with h | ⟨j, hj, hS⟩
        · exact .inl h
        · exact .inr ⟨by simp [List.mem_of_getElem? hS], nodup_ne hn.1 hS hk hj⟩
      · refine .inr ⟨by simp only [List.flatten_cons, List.mem_append]; exact .inr h, fun e => ?_⟩
        exact hn.2.2 q.1 (List.mem_map.2 ⟨q, List.mem_of_getElem? hk, rfl⟩) p.1 (List.mem_map.2 ⟨p, h, rfl⟩) e.symm
    | succ s =>
      simp only [getH] at hk
      simp only [setH, List.flatten_cons, List.mem_append] at h
      rcases h with h | h
      · refine .inr ⟨by simp [h], fun e => ?_⟩
        exact hn.2.2 p.1 (List.mem_map.2 ⟨p, h, rfl⟩) q.1 (List.mem_map.2 ⟨q, getH_mem hk, rfl⟩) e
      · rcases ih hn.2.1 hk h with h | h
        · exact .inl h
        · exact .inr ⟨by simp [h.1], h.2⟩

theorem St.putB {w0 w : World} {H : Hp} (h : St w0 w H) {s k : Nat} {b : Nat} {o : Obj} (hk : getH H s k = some (b, o)) (o' : Obj) :
    St w0 (putB w b o') (setH H s k o') := by
  have hb : w0.heap.size ≤ b := h.ge _ (getH_mem hk)
  have hB := h.has _ (getH_mem hk)
  refine ⟨⟨h.below.os, h.below.tape, h.below.output, by simpa [Sl.putB] using h.below.size, fun c hc => ?_⟩, by rw [setH_keys]; exact h.nodup, fun p hp => ?_, fun p hp => ?_⟩
  · rw [putB_other (by omega)]; exact h.below.block c hc
  · rcases mem_setH h.nodup hk hp with e | e
    · rw [e]; exact hb
    · exact h.ge _ e.1
  · rcases mem_setH h.nodup hk hp with e | e
    · rw [e]; exact putB_same hB
    · rw [putB_other e.2]; exact h.has _ e.1

theorem St.alloc {w0 w : World} {H : Hp} (h : St w0 w H) (o : Obj) : St w0 (w.alloc o) ([(w.heap.size, o)] :: H) := by
  have hlt : ∀ p ∈ H.flatten, p.1 < w.heap.size := fun p hp => (Array.getElem?_eq_some_iff.1 (h.has p hp)).1
  refine ⟨h.below.alloc h.below.size o, ?_, ?_, ?_⟩
  · simp only [List.flatten_cons, List.singleton_append, List.map_cons, List.nodup_cons]
    refine ⟨fun hm => ?_, h.nodup⟩
    obtain ⟨p, hp, e⟩ := List.mem_map.1 hm
    have := hlt p hp
    omega
  · intro p hp
    simp only [List.flatten_cons, List.singleton_append, List.mem_cons] at hp
    rcases hp with rfl | hp
    · exact h.below.size
    · exact h.ge p hp
  · intro p hp
    simp only [List.flatten_cons, List.singleton_append, List.mem_cons] at hp
    rcases hp with rfl | hp
    · show (w.heap.push o)[w.heap.size]? = some o
      simp
    · rw [show (w.alloc o).heap[p.1]? = w.heap[p.1]? from Below.heap_alloc w o p.1 (hlt p hp)]; exact h.has p hp

/-! ### Judgements -/
abbrev Post := Exit → Env → Hp → Prop
def Exit.isPanic : Exit → Bool
  | .panic _ => true
  | _ => false
def lift (n : FN) (w0 : World) (Q : Post) : Exit → Act → World → Prop := fun e a w => ∃ E H, (a.defers = n.ds ∧ (Exit.isPanic e = false → FrOk n E a)) ∧ St w0 w H ∧ Q e E H
def WpC (P : Program) (n : FN) (w0 : World) (c : Code) (Q : Post) (E : Env) (H : Hp) : Prop := ∀ a w, FrOk n E a → St w0 w H → c.wp P (lift n w0 Q) a w
def WpL (P : Program) (n : FN) (w0 : World) (ops : List Oper) (Q : Post) (l : List Oper) (E : Env) (H : Hp) : Prop :=
  ∀ a w, FrOk n E a → St w0 w H → wpList P ops.toArray (lift n w0 Q) l a w
/-- One operation. -/
def OpW (P : Program) (n : FN) (w0 : World) (Q : Post) (o : Oper) (E : Env) (H : Hp) (K : Env → Hp → Prop) : Prop :=
  ∀ a w, FrOk n E a → St w0 w H → ∀ next : Act → World → Prop, (∀ E' H' a' w', FrOk n E' a' → St w0 w' H' → K E' H' → next a' w') → o.wp P a w next (lift n w0 Q)
/-- A call. -/
def FnS (P : Program) (w0 : World) (f : Nat) (args : Array Value) (H : Hp) (R : Ending → Hp → Prop) : Prop :=
  ∀ w, St w0 w H → Calls P f args w fun e w' => ∃ H', St w0 w' H' ∧ R e H'
/-- An operation that only yields a value, in each world of W. -/
def YV (P : Program) (n : FN) (E : Env) (W : World → Prop) (op : Op) (ty : Nat) (v : Value) : Prop :=
  ∀ a w, FrOk n E a → W w → ∀ d ps af g, (execOp a.eval ⟨d, op, ty, ps, af, g⟩).run P w = .ok (.value v) w

variable {P : Program} {n : FN} {w0 : World} {Q : Post} {E E' : Env} {H H' : Hp}

theorem FnS.mono {f : Nat} {args : Array Value} {R R' : Ending → Hp → Prop} (h : FnS P w0 f args H R) (hr : ∀ e H', R e H' → R' e H') : FnS P w0 f args H R' :=
  fun w hw => (h w hw).mono fun e w' ⟨H', s, r⟩ => ⟨H', s, hr e H' r⟩
theorem FnS.sub {f : Nat} {args : Array Value} {R : Ending → Hp → Prop} (hs : HSub H' H) (h : FnS P w0 f args H' R) : FnS P w0 f args H R :=
  fun w hw => h w (hs w0 w hw)
theorem perm_setS_all : ∀ (H : Hp) (k : Nat) (X : List (Nat × Obj)), H[k]? = some X → ∃ L, H.flatten.Perm (X :: L).flatten ∧ ∀ Y, (setS H k Y).flatten.Perm (Y :: L).flatten
  | [], _, _, h => by cases h
  | S :: H, 0, X, h => by simp at h; subst h; exact ⟨H, .refl _, fun _ => .refl _⟩
  | S :: H, k + 1, X, h => by
    simp only [List.getElem?_cons_succ] at h
    obtain ⟨L, h1, h2⟩ := perm_setS_all H k X h
    refine ⟨S :: L, ?_, fun Y => ?_⟩
    · simp only [List.flatten_cons] at *
      refine (h1.append_left S).trans ?_
      rw [← List.append_assoc, ← List.append_assoc]
      exact (List.perm_append_comm).append_right _
    · have h2 := h2 Y
      simp only [setS, List.flatten_cons] at *
      refine (h2.append_left S).trans ?_
      rw [← List.append_assoc, ← List.append_assoc]
      exact (List.perm_append_comm).append_right _
theorem FnS.at {f : Nat} {args : Array Value} {X : List (Nat × Obj)} {φ : Ending → List (Nat × Obj) → Prop} (k : Nat)
    (h : ∀ L, FnS P w0 f args (X :: L) fun e H' => ∃ Y, φ e Y ∧ H' = Y :: L) (hk : H[k]? = some X) :
    FnS P w0 f args H fun e H' => ∃ Y, φ e Y ∧ H' = setS H k Y := by
  obtain ⟨L, h1, h2⟩ := perm_setS_all H k X hk
  intro w hw
  refine (h L w (HSub.of_perm h1 w0 w hw)).mono ?_
  rintro e w' ⟨H', s, Y, hφ, rfl⟩
  exact ⟨_, HSub.of_perm (h2 Y).symm w0 w' s, Y, hφ, rfl⟩

/-! ### Code -/
theorem C_weaken {c : Code} (hE : SubEnv E' E) (hH : HSub H' H) (h : WpC P n w0 c Q E' H') : WpC P n w0 c Q E H :=
  fun a w ha hw => h a w (ha.weaken hE) (hH w0 w hw)
theorem C_mono {c : Code} {Q' : Post} (h : WpC P n w0 c Q' E H) (hq : ∀ e E H, Q' e E H → Q e E H) : WpC P n w0 c Q E H :=
  fun a w ha hw => wp_mono (h a w ha hw) fun e a' w' ⟨E', H', x, y, z⟩ => ⟨E', H', x, y, hq _ _ _ z⟩
@[reducible] def thenQ (K : Env → Hp → Prop) (Q : Post) : Post := fun e E H => match e with | .normal => K E H | e => Q e E H
theorem C_seq {x y : Code} (h : WpC P n w0 x (thenQ (WpC P n w0 y Q) Q) E H) : WpC P n w0 (.seq x y) Q E H := fun a w ha hw => by
  refine wp_seq (wp_mono (h a w ha hw) ?_)
  rintro e a' w' ⟨E', H', x, s, q⟩
  cases e with
  | normal => exact q a' w' (x.2 rfl) s
  | _ => exact ⟨E', H', x, s, q⟩
/-- A sequence with a cut between. -/
theorem C_cut {x y : Code} (K : Env → Hp → Prop) (h : WpC P n w0 x (thenQ K Q) E H) (hk : ∀ E H, K E H → WpC P n w0 y Q E H) : WpC P n w0 (.seq x y) Q E H :=
  C_seq (C_mono h fun e E H q => by cases e <;> first | exact hk _ _ q | exact q)
theorem C_skip (h : Q .normal E H) : WpC P n w0 .skip Q E H := fun a w ha hw => wp_skip ⟨E, H, ⟨ha.defers, fun _ => ha⟩, hw, h⟩
theorem C_ret (h : Q .ret E H) : WpC P n w0 .ret Q E H := fun a w ha hw => wp_ret ⟨E, H, ⟨ha.defers, fun _ => ha⟩, hw, h⟩
theorem C_exit {id : Nat} (h : Q (.exit id) E H) : WpC P n w0 (.exit id) Q E H := fun a w ha hw => wp_exit ⟨E, H, ⟨ha.defers, fun _ => ha⟩, hw, h⟩
theorem C_cond {c : Operand} {x y : Code} {b : Bool} (hc : ev E c = some (.bool b)) (ht : b = true → WpC P n w0 x Q E H) (hf : b = false → WpC P n w0 y Q E H) :
    WpC P n w0 (.cond c x y) Q E H := fun a w ha hw => wp_cond_split (ha.eval hc) (fun h => ht h a w ha hw) (fun h => hf h a w ha hw)
theorem C_cond_t {c : Operand} {x y : Code} (hc : ev E c = some (.bool true)) (h : WpC P n w0 x Q E H) : WpC P n w0 (.cond c x y) Q E H :=
  fun a w ha hw => wp_cond_true (ha.eval hc) (h a w ha hw)
theorem C_cond_f {c : Operand} {x y : Code} (hc : ev E c = some (.bool false)) (h : WpC P n w0 y Q E H) : WpC P n w0 (.cond c x y) Q E H :=
  fun a w ha hw => wp_cond_false (ha.eval hc) (h a w ha hw)
@[reducible] def blockQ (id : Nat) (Q : Post) : Post := fun e E H => match e with | .exit id' => if id' = id then Q .normal E H else Q (.exit id') E H | e => Q e E H
theorem C_block {id : Nat} {c : Code} (h : WpC P n w0 c (blockQ id Q) E H) : WpC P n w0 (.block id c) Q E H := fun a w ha hw => by
  refine wp_block (wp_mono (h a w ha hw) ?_)
  rintro e a' w' ⟨E', H', x, s, q⟩
  cases e with
  | exit id' =>
    simp only [blockQ] at q
    simp only [Exit.inBlock]
    split
    · rename_i e; rw [if_pos e] at q; exact ⟨E', H', ⟨x.1, fun _ => x.2 rfl⟩, s, q⟩
    · rename_i e; rw [if_neg e] at q; exact ⟨E', H', ⟨x.1, fun _ => x.2 rfl⟩, s, q⟩
  | _ => exact ⟨E', H', x, s, q⟩
/-- A loop: states i : ι between the rounds; a measure falls. -/
theorem C_loop {ι : Type} {c : Code} (Ei : ι → Env) (Hi : ι → Hp) (G : ι → Prop) (μ : ι → Nat) (i0 : ι) (h0 : G i0) (hE : SubEnv (Ei i0) E) (hH : HSub (Hi i0) H)
    (round : ∀ i, G i → WpC P n w0 c (thenQ (fun E' H' => ∃ j, G j ∧ μ j < μ i ∧ SubEnv (Ei j) E' ∧ HSub (Hi j) H') Q) (Ei i) (Hi i)) :
    WpC P n w0 (.loop c) Q E H := by
  intro a w ha hw b k cs
  have key : ∀ (m : Nat) (i : ι), G i → μ i = m → ∀ a w, FrOk n (Ei i) a → St w0 w (Hi i) →
      ∃ e a' w', lift n w0 Q e a' w' ∧ Arrives P (lone (b.at a (.code c :: .inLoop c :: k)) cs w) b k cs e a' w' := by
    intro m
    induction m using Nat.strongRecOn with
    | _ m ih =>
      intro i gi hm a w ha hw
      obtain ⟨e, a₁, w₁, hq, harr⟩ := round i gi a w ha hw b (.inLoop c :: k) cs
      obtain ⟨E₁, H₁, f1, s1, q⟩ := hq
      cases e with
      | normal =>
        obtain ⟨j, gj, hlt, hE, hH⟩ := q
        obtain ⟨e₂, a₂, w₂, hq₂, harr₂⟩ := ih (μ j) (hm ▸ hlt) j gj rfl a₁ w₁ ((f1.2 rfl).weaken hE) (hH w0 w₁ s1)
        exact ⟨e₂, a₂, w₂, hq₂, .of_steps (Steps.trans harr (.one step_inLoop)) harr₂⟩
      | exit id => exact ⟨_, a₁, w₁, ⟨E₁, H₁, f1, s1, q⟩, .pass (x := .inLoop c) rfl (fun _ _ => .inl (by simp)) harr⟩
      | goto l => exact ⟨_, a₁, w₁, ⟨E₁, H₁, f1, s1, q⟩, .pass (x := .inLoop c) rfl (fun _ _ => .inl (by simp)) harr⟩
      | ret => exact ⟨_, a₁, w₁, ⟨E₁, H₁, f1, s1, q⟩, .pass (x := .inLoop c) rfl (fun _ _ => .inl (by simp)) harr⟩
      | panic ch => exact ⟨_, a₁, w₁, ⟨E₁, H₁, f1, s1, q⟩, .pass (x := .inLoop c) rfl (fun _ _ => .inl (by simp)) harr⟩
      | outgrown => exact ⟨_, a₁, w₁, ⟨E₁, H₁, f1, s1, q⟩, .pass (x := .inLoop c) rfl (fun _ _ => .inl (by simp)) harr⟩
  obtain ⟨e, a', w', hq, harr⟩ := key (μ i0) i0 h0 rfl a w (ha.weaken hE) (hH w0 w hw)
  exact ⟨e, a', w', hq, .of_steps (.one step_loop) harr⟩
end Go.Sl

/- The calculus, second part (own work): lists of operations, regions that draw their order, and the operations that only yield a value. -/
set_option linter.unusedVariables false
set_option linter.unusedSimpArgs false
namespace Go.Sl
open Go.RowKit (Below)
variable {P : Program} {n : FN} {w0 : World} {Q : Post} {E E' : Env} {H H' HS : Hp} {W : World → Prop}

/-! ### Guards -/
def isB : Value → Bool → Bool
  | .bool c, b => bif b then c else !c
  | _, _ => false
def gv (ops : List Oper) (E : Env) (j : Nat) : Option Value := (ops[j]?).bind fun o => o.dst.bind fun d => look E d
def wE (ops : List Oper) (E : Env) : Option (Nat × Bool) → Option Bool
  | none => some true
  | some (j, b) => (gv ops E j).map fun v => isB v b
theorem wanted_of {ops : List Oper} {o : Oper} {c : Bool} (h : wE ops E o.guard = some c) {a : Act} (ha : FrOk n E a) : Region.wanted o (yielded ops.toArray a.tmps) = c := by
  unfold Region.wanted
  cases hg : o.guard with
  | none => rw [hg] at h; simp [wE] at h; simp [h]
  | some p =>
    obtain ⟨j, b⟩ := p
    rw [hg] at h
    simp only [wE, gv, Option.map_eq_some_iff] at h
    obtain ⟨v, hv, hb⟩ := h
    simp only [Option.bind_eq_some_iff] at hv
    obtain ⟨o', ho', d, hd, hl⟩ := hv
    have hk := ha.known d v hl
    simp only [yielded, List.getElem?_toArray, ho', Option.bind_some, hd, hk]
    rw [← hb]
    cases v <;> simp [isB] <;> (rename_i c'; cases b <;> cases c' <;> rfl)

/-! ### Lists -/
theorem L_nil {ops : List Oper} (h : Q .normal E H) : WpL P n w0 ops Q [] E H := fun a w ha hw => wpList_nil ⟨E, H, ⟨ha.defers, fun _ => ha⟩, hw, h⟩
theorem L_y {ops rest : List Oper} {d : Option Nat} {op : Op} {ty : Nat} {ps : String} {af : Array Edge} {g : Option (Nat × Bool)} {v : Value}
    (hg : wE ops E g = some true) (hy : YV P n E (fun w => St w0 w H) op ty v) (hd : dok d n = true) (k : WpL P n w0 ops Q rest (put E d v) H) :
    WpL P n w0 ops Q (⟨d, op, ty, ps, af, g⟩ :: rest) E H := fun a w ha hw => by
  unfold wpList
  rw [if_pos (wanted_of (o := ⟨d, op, ty, ps, af, g⟩) hg ha)]
  refine .inl ?_
  unfold Oper.wp
  rw [hy a w ha hw d ps af g]
  exact k _ _ (ha.put hd v) hw
theorem L_op {ops rest : List Oper} {o : Oper} (hg : wE ops E o.guard = some true) (h : OpW P n w0 Q o E H (fun E' H' => WpL P n w0 ops Q rest E' H')) :
    WpL P n w0 ops Q (o :: rest) E H := fun a w ha hw => by
  unfold wpList
  rw [if_pos (wanted_of hg ha)]
  exact .inl (h a w ha hw _ fun E' H' a' w' x s k => k a' w' x s)
theorem L_skip {ops rest : List Oper} {o : Oper} (hg : wE ops E o.guard = some false) (hd : dok o.dst n = true) (k : WpL P n w0 ops Q rest (put E o.dst undef) H) :
    WpL P n w0 ops Q (o :: rest) E H := fun a w ha hw => by
  unfold wpList
  rw [if_neg (by rw [wanted_of hg ha]; simp)]
  exact k _ _ (ha.put hd undef) hw
/-- A slot's truth is asked. -/
theorem L_case {ops l : List Oper} (t : Nat) {b : Bool} (h : look E t = some (.bool b)) (ht : b = true → WpL P n w0 ops Q l ((t, .bool true) :: E) H)
    (hf : b = false → WpL P n w0 ops Q l ((t, .bool false) :: E) H) : WpL P n w0 ops Q l E H := by
  cases b with
  | true => exact fun a w ha hw => ht rfl a w (frOk_same ha h) hw
  | false => exact fun a w ha hw => hf rfl a w (frOk_same ha h) hw

/-! ### Regions -/
theorem C_region {id : Nat} {l : List Oper} (h : WpL P n w0 l Q l E H) : WpC P n w0 (.region id l.toArray false) Q E H :=
  fun a w ha hw => wp_region_lit (h a w ha hw)

/-- Behind the draw, operations that only yield; then the tail, in its order. -/
def WpS (P : Program) (n : FN) (w0 : World) (ops : List Oper) (Q : Post) (tail l : List Oper) (E : Env) (H : Hp) : Prop :=
  ∀ a w, FrOk n E a → St w0 w H → wpStill P ops.toArray w (fun a' => wpList P ops.toArray (lift n w0 Q) tail a' w) l a
theorem C_regionT {id : Nat} {l : List Oper} (m : Nat) (hm : P.follows .mixedOrders = true) (hB : Region.lexTailB .any l.toArray m = true)
    (h : WpS P n w0 l Q (l.drop m) (l.take m) E H) : WpC P n w0 (.region id l.toArray true) Q E H :=
  fun a w ha hw => wp_region_still_tail m hm hB (h a _ ha (hw.drawn _))
theorem S_nil {ops tail : List Oper} (h : WpL P n w0 ops Q tail E H) : WpS P n w0 ops Q tail [] E H := fun a w ha hw => h a w ha hw
theorem S_y {ops tail rest : List Oper} {d : Option Nat} {op : Op} {ty : Nat} {ps : String} {af : Array Edge} {g : Option (Nat × Bool)} {v : Value}
    (hg : wE ops E g = some true) (hy : YV P n E (fun w => St w0 w H) op ty v) (hd : dok d n = true) (k : WpS P n w0 ops Q tail rest (put E d v) H) :
    WpS P n w0 ops Q tail (⟨d, op, ty, ps, af, g⟩ :: rest) E H := fun a w ha hw => by
  unfold wpStill
  rw [if_pos (wanted_of (o := ⟨d, op, ty, ps, af, g⟩) hg ha)]
  unfold Oper.still
  rw [hy a w ha hw d ps af g]
  exact ⟨rfl, k _ _ (ha.put hd v) hw⟩
/-- Whatever order is drawn; what is known throughout is HS. -/
def WpH (P : Program) (n : FN) (w0 : World) (ops : List Oper) (Q : Post) (HS : Hp) (fuel : Nat) (listed : List Bool) (E : Env) (H : Hp) : Prop :=
  ∀ a w, FrOk n E a → St w0 w H → wpAnyH P .any ops.toArray (lift n w0 Q) (fun w => St w0 w HS) fuel listed.toArray a w
theorem C_regionH {id : Nat} {l : List Oper} (HS : Hp) (hm : P.follows .mixedOrders = true) (h : WpH P n w0 l Q HS l.length (List.replicate l.length false) E H) :
    WpC P n w0 (.region id l.toArray true) Q E H := fun a w ha hw => by
  refine wp_region_held (S := fun w => St w0 w HS) hm ?_
  have := h a _ ha (hw.drawn (w.drawn + 1))
  simpa using this
theorem C_regionH0 {id : Nat} {l : List Oper} (hm : P.follows .mixedOrders = true) (h : WpH P n w0 l Q H l.length (List.replicate l.length false) E H) :
    WpC P n w0 (.region id l.toArray true) Q E H := C_regionH H hm h
theorem lift_put {d : Option Nat} {v : Value} : ∀ (c : List PanicEntry) (a : Act) (w : World), lift n w0 Q (.panic c) (a.put d v) w → lift n w0 Q (.panic c) a w :=
  fun c a w ⟨E, H, x, s, q⟩ => ⟨E, H, ⟨by cases d <;> exact x.1, (fun h => by cases h)⟩, s, q⟩
theorem H_y {ops : List Oper} {fuel : Nat} {listed : List Bool} (i : Nat) {d : Option Nat} {op : Op} {ty : Nat} {ps : String} {af : Array Edge} {g : Option (Nat × Bool)} {v : Value}
    (hi : ops[i]? = some ⟨d, op, ty, ps, af, g⟩) (hs : Region.noSelect ops.toArray = true) (hf : Region.free .any ops.toArray listed.toArray i = true)
    (hr : (Region.ready .any ops.toArray listed.toArray).contains i = true) (hS : HSub HS H)
    (hg : wE ops E g = some true) (hy : YV P n E (fun w => St w0 w HS) op ty v) (hd : dok d n = true)
    (k : WpH P n w0 ops Q HS fuel (listed.set i true) (put E d v) H) : WpH P n w0 ops Q HS (fuel + 1) listed E H := fun a w ha hw => by
  refine wpAnyH_take (i := i) (oi := ⟨d, op, ty, ps, af, g⟩) (v := v) (by simpa using hi) hs hf hr lift_put (.inl ⟨wanted_of (o := ⟨d, op, ty, ps, af, g⟩) hg ha, fun w' hw' => hy a w' ha hw' d ps af g⟩) (hS w0 w hw) ?_
  have := k _ _ (ha.put hd v) hw
  simpa using this
theorem H_skip {ops : List Oper} {fuel : Nat} {listed : List Bool} (i : Nat) {o : Oper} (hi : ops[i]? = some o) (hs : Region.noSelect ops.toArray = true) (hf : Region.free .any ops.toArray listed.toArray i = true)
    (hr : (Region.ready .any ops.toArray listed.toArray).contains i = true) (hS : HSub HS H)
    (hg : wE ops E o.guard = some false) (hd : dok o.dst n = true)
    (k : WpH P n w0 ops Q HS fuel (listed.set i true) (put E o.dst undef) H) : WpH P n w0 ops Q HS (fuel + 1) listed E H := fun a w ha hw => by
  refine wpAnyH_take (i := i) (oi := o) (v := undef) (by simpa using hi) hs hf hr lift_put (.inr ⟨wanted_of hg ha, rfl⟩) (hS w0 w hw) ?_
  have := k _ _ (ha.put hd undef) hw
  simpa using this
/-- The same, shorter to write. -/
theorem HY {ops : List Oper} {fuel : Nat} {listed : List Bool} (i : Nat) {d : Option Nat} {op : Op} {ty : Nat} {ps : String} {af : Array Edge} {g : Option (Nat × Bool)} {v : Value}
    (hi : ops[i]? = some ⟨d, op, ty, ps, af, g⟩) (hS : HSub HS H) (hg : wE ops E g = some true) (hy : YV P n E (fun w => St w0 w HS) op ty v)
    (k : WpH P n w0 ops Q HS fuel (listed.set i true) (put E d v) H) (hs : Region.noSelect ops.toArray = true := by kernel_rfl) (hf : Region.free .any ops.toArray listed.toArray i = true := by kernel_rfl)
    (hr : (Region.ready .any ops.toArray listed.toArray).contains i = true := by kernel_rfl) (hd : dok d n = true := by exact rfl) : WpH P n w0 ops Q HS (fuel + 1) listed E H := H_y i hi hs hf hr hS hg hy hd k
theorem HK {ops : List Oper} {fuel : Nat} {listed : List Bool} (i : Nat) {o : Oper} (hi : ops[i]? = some o) (hS : HSub HS H) (hg : wE ops E o.guard = some false)
    (k : WpH P n w0 ops Q HS fuel (listed.set i true) (put E o.dst undef) H) (hs : Region.noSelect ops.toArray = true := by kernel_rfl) (hf : Region.free .any ops.toArray listed.toArray i = true := by kernel_rfl)
    (hr : (Region.ready .any ops.toArray listed.toArray).contains i = true := by kernel_rfl) (hd : dok o.dst n = true := by exact rfl) : WpH P n w0 ops Q HS (fuel + 1) listed E H := H_skip i hi hs hf hr hS hg hd k
theorem LY {ops rest : List Oper} {d : Option Nat} {op : Op} {ty : Nat} {ps : String} {af : Array Edge} {g : Option (Nat × Bool)} {v : Value}
    (hg : wE ops E g = some true) (hy : YV P n E (fun w => St w0 w H) op ty v) (k : WpL P n w0 ops Q rest (put E d v) H) (hd : dok d n = true := by exact rfl) :
    WpL P n w0 ops Q (⟨d, op, ty, ps, af, g⟩ :: rest) E H := L_y hg hy hd k
theorem wpOp_of_OpW {ops : List Oper} {fuel : Nat} {listed : List Bool} {i : Nat} {o : Oper} (hi : ops[i]? = some o) (hg : wE ops E o.guard = some true)
    (h : OpW P n w0 Q o E H (fun E' H' => HSub HS H' ∧ WpH P n w0 ops Q HS fuel (listed.set i true) E' H')) {a : Act} {w : World} (ha : FrOk n E a) (hw : St w0 w H) :
    wpOp P ops.toArray (lift n w0 Q) i (fun a' w' => St w0 w' HS ∧ wpAnyH P .any ops.toArray (lift n w0 Q) (fun w => St w0 w HS) fuel (listed.toArray.setIfInBounds i true) a' w') a w := by
  unfold wpOp
  rw [show ops.toArray[i]? = some o by simpa using hi]
  simp only
  rw [if_pos (wanted_of hg ha)]
  refine .inl (h a w ha hw _ fun E' H' a' w' x s k => ⟨k.1 w0 w' s, ?_⟩)
  have := k.2 a' w' x s
  simpa using this
/-- One loud operation alone may come up. -/
theorem H_one {ops : List Oper} {fuel : Nat} {listed : List Bool} (i : Nat) {o : Oper} (hi : ops[i]? = some o) (hr : Region.ready .any ops.toArray listed.toArray = [i])
    (hg : wE ops E o.guard = some true) (h : OpW P n w0 Q o E H (fun E' H' => HSub HS H' ∧ WpH P n w0 ops Q HS fuel (listed.set i true) E' H')) :
    WpH P n w0 ops Q HS (fuel + 1) listed E H := fun a w ha hw =>
  wpAnyH_all hr (by simp) fun j hj => by simp at hj; subst hj; exact wpOp_of_OpW hi hg h ha hw
/-- Two may. -/
theorem H_two {ops : List Oper} {fuel : Nat} {listed : List Bool} (i j : Nat) {o o' : Oper} (hi : ops[i]? = some o) (hj : ops[j]? = some o') (hr : Region.ready .any ops.toArray listed.toArray = [i, j])
    (hg : wE ops E o.guard = some true) (hg' : wE ops E o'.guard = some true)
    (h : OpW P n w0 Q o E H (fun E' H' => HSub HS H' ∧ WpH P n w0 ops Q HS fuel (listed.set i true) E' H'))
    (h' : OpW P n w0 Q o' E H (fun E' H' => HSub HS H' ∧ WpH P n w0 ops Q HS fuel (listed.set j true) E' H')) :
    WpH P n w0 ops Q HS (fuel + 1) listed E H := fun a w ha hw =>
  wpAnyH_all hr (by simp) fun k hk => by
    simp at hk
    rcases hk with rfl | rfl
    · exact wpOp_of_OpW hi hg h ha hw
    · exact wpOp_of_OpW hj hg' h' ha hw
theorem H_done {ops : List Oper} {fuel : Nat} {listed : List Bool} (hr : Region.ready .any ops.toArray listed.toArray = []) (h : Q .normal E H) : WpH P n w0 ops Q HS fuel listed E H :=
  fun a w ha hw => wpAnyH_done hr ⟨E, H, ⟨ha.defers, fun _ => ha⟩, hw, h⟩ fuel
theorem H_case {ops : List Oper} {fuel : Nat} {listed : List Bool} (t : Nat) {b : Bool} (h : look E t = some (.bool b)) (ht : b = true → WpH P n w0 ops Q HS fuel listed ((t, .bool true) :: E) H)
    (hf : b = false → WpH P n w0 ops Q HS fuel listed ((t, .bool false) :: E) H) : WpH P n w0 ops Q HS fuel listed E H := by
  cases b with
  | true => exact fun a w ha hw => ht rfl a w (frOk_same ha h) hw
  | false => exact fun a w ha hw => hf rfl a w (frOk_same ha h) hw

/-! ### Functions -/
def args0 : List Value → Nat → Env
  | [], _ => []
  | v :: vs, i => (i, v) :: args0 vs (i + 1)
theorem look_args0 : ∀ (vs : List Value) (i t : Nat) (v : Value), look (args0 vs i) t = some v → i ≤ t ∧ vs[t - i]? = some v
  | [], _, _, _, h => by cases h
  | u :: vs, i, t, v, h => by
    simp only [args0] at h
    rw [look_put] at h
    by_cases e : i = t
    · subst e; simp at h; simp [h]
    · rw [if_neg e] at h
      have ⟨h1, h2⟩ := look_args0 vs (i + 1) t v h
      exact ⟨by omega, by rw [show t - i = (t - (i + 1)) + 1 by omega]; simpa using h2⟩
/-- How a body may end. -/
def RV (P : Program) (w0 : World) (E : Env) (H : Hp) : List ResultVar → List Value → Prop
  | [], [] => True
  | .tmp t :: rs, v :: vs => look E t = some v ∧ RV P w0 E H rs vs
  | .cell t ty :: rs, v :: vs => (∃ p, look E t = some (.pointer (some p)) ∧ ∀ w, St w0 w H → (loadVar ty p).run P w = .ok v w) ∧ RV P w0 E H rs vs
  | _, _ => False
def pack : List Value → Value
  | [v] => v
  | vs => .tuple vs.toArray
def BodyQ (P : Program) (w0 : World) (rs : List ResultVar) (R : Ending → Hp → Prop) : Post := fun e E H => match e with
  | .normal | .ret => ∃ vs H', RV P w0 E H rs vs ∧ HSub H' H ∧ R (.returned (pack vs)) H'
  | .panic ch => R (.panicked ch) H
  | _ => False
theorem RV.length : ∀ {rs : List ResultVar} {vs : List Value}, RV P w0 E H rs vs → rs.length = vs.length
  | [], [], _ => rfl
  | .tmp _ :: _, _ :: _, h => by simp [RV.length h.2]
  | .cell _ _ :: _, _ :: _, h => by simp [RV.length h.2]
  | [], _ :: _, h => h.elim
  | .tmp _ :: _, [], h => h.elim
  | .cell _ _ :: _, [], h => h.elim
def resOf (a : Act) : ResultVar → Sem Value
  | .tmp t => pure (a.tmps.getD t undef)
  | .cell q t => do loadVar t (← asAddr (a.tmps.getD q undef))
theorem results_eq (fn : Func) (a : Act) : results fn a.tmps = (do
    let vs ← fn.results.mapM (resOf a)
    pure (if h : vs.size = 1 then vs[0] else .tuple vs)) := by
  unfold results
  congr 1
theorem mapM_RV {a : Act} {w : World} (ha : FrOk n E a) (hw : St w0 w H) : ∀ {rs : List ResultVar} {vs : List Value}, RV P w0 E H rs vs →
    (rs.mapM (resOf a)).run P w = .ok vs w
  | [], [], _ => by simp
  | .tmp t :: rs, v :: vs, h => by
    have e : a.tmps[t]? = some v := ha.known t v h.1
    have ih := mapM_RV ha hw h.2
    simp only [List.mapM_cons, Sem.run_bind, resOf, Sem.run_pure, Result.andThen_ok, ih]
    simp [e]
  | .cell t ty :: rs, v :: vs, h => by
    obtain ⟨p, hp, hl⟩ := h.1
    have e : a.tmps[t]? = some (.pointer (some p)) := ha.known t _ hp
    have ih := mapM_RV ha hw h.2
    have e' : a.tmps.getD t undef = .pointer (some p) := by simp [e]
    have e2 : (resOf a (.cell t ty)).run P w = .ok v w := by
      show (asAddr (a.tmps.getD t undef) >>= fun p => loadVar ty p).run P w = _
      rw [e', Sem.run_bind]
      show ((Sem.run P (pure p) w).andThen fun p w' => (loadVar ty p).run P w') = _
      rw [Sem.run_pure, Result.andThen_ok]
      exact hl w hw
    simp only [List.mapM_cons, Sem.run_bind, e2, Result.andThen_ok, ih, Sem.run_pure]
  | [], _ :: _, h => h.elim
  | .tmp _ :: _, [], h => h.elim
  | .cell _ _ :: _, [], h => h.elim
theorem run_results {fn : Func} {a : Act} {w : World} {vs : List Value} (ha : FrOk n E a) (hw : St w0 w H) (h : RV P w0 E H fn.results.toList vs) :
    (results fn a.tmps).run P w = .ok (pack vs) w := by
  have hm := mapM_RV ha hw h
  have hm' : (fn.results.mapM (resOf a)).run P w = .ok vs.toArray w := by
    rw [Array.mapM_eq_mapM_toList, Sem.run_map, hm]; rfl
  rw [results_eq, Sem.run_bind, hm']
  simp only [Result.andThen_ok, Sem.run_pure]
  congr 1
  match vs with
  | [] => simp [pack]
  | [v] => simp [pack]
  | _ :: _ :: _ => simp [pack]
theorem args_ok {n : Nat} {fn : Func} {vs : List Value} (hn : fn.ntmps = n) (hle : vs.length ≤ n) : FrOk ⟨n, []⟩ (args0 vs 0) { tmps := vs.toArray ++ Array.replicate (fn.ntmps - vs.toArray.size) undef, defers := [] } := by
  refine ⟨rfl, by simp [hn]; omega, fun t v ht => ?_⟩
  have ⟨_, h2⟩ := look_args0 vs 0 t v ht
  have hlt : t < vs.length := by
    rcases Nat.lt_or_ge t vs.length with h | h
    · exact h
    · simp [List.getElem?_eq_none h] at h2
  simp only [Nat.sub_zero] at h2
  rw [Array.getElem?_append_left (by simpa using hlt)]
  simpa using h2
theorem FnS_intro {n : Nat} {f : Nat} {fn : Func} {c : Code} {vs : List Value} {rs : List ResultVar} {R : Ending → Hp → Prop} (hf : P.funcs[f]? = some fn) (hb : fn.body = some c) (hn : fn.ntmps = n) (hr : fn.results.toList = rs)
    (hlen : Nat.ble vs.length n = true) (h : WpC P ⟨n, []⟩ w0 c (BodyQ P w0 rs R) (args0 vs 0) H) : FnS P w0 f vs.toArray H R := by
  intro w hw
  refine calls_of_wp hf hb ?_
  have hle : vs.length ≤ n := Nat.le_of_ble_eq_true hlen
  have ha := args_ok hn hle
  refine wp_mono (h _ w ha hw) ?_
  rintro e a' w' ⟨E', H', x, s, q⟩
  cases e with
  | normal =>
    obtain ⟨vs', H2, hrv, hs, hR⟩ := q
    exact ⟨x.1, _, run_results (x.2 rfl) s (hr ▸ hrv), H2, hs w0 w' s, hR⟩
  | ret =>
    obtain ⟨vs', H2, hrv, hs, hR⟩ := q
    exact ⟨x.1, _, run_results (x.2 rfl) s (hr ▸ hrv), H2, hs w0 w' s, hR⟩
  | panic ch => exact ⟨x.1, H', s, q⟩
  | exit id => exact q.elim
  | goto l => exact q.elim
  | outgrown => exact q.elim
end Go.Sl

/- The calculus, third part (own work): the operations that only yield a value. -/
set_option linter.unusedVariables false
set_option linter.unusedSimpArgs false
namespace Go.Sl
open Go.RowKit (Below)
variable {P : Program} {n : FN} {w0 : World} {Q : Post} {E E' : Env} {H H' HS : Hp} {W : World → Prop}

/-! ### Facts of types, for the kernel -/
def szT (P : Program) (t : TypeId) : Option Nat := (P.info? t).map (·.size)
def byT (P : Program) (t : TypeId) : Option Nat := (P.info? t).map (·.bytes)
def zeroL (P : Program) (t : TypeId) : Option (List Value) := ((P.info? t).bind (·.zero)).map fun v => v.cells.toList
def zeroT (P : Program) (t : TypeId) : Option Value := (P.info? t).bind (·.zero)
def isAggT (P : Program) (t : TypeId) : Option Bool := (P.underlying t).map fun d => match d with | .struct _ | .array _ _ => true | _ => false
def fldT (P : Program) (s : TypeId) (f : Nat) : Option Nat :=
  match P.underlying s with
  | some (.struct fs) => match fs[f]? with
    | some fd => match szT P fd.type with
      | some (_ + 1) => some fd.offset
      | _ => none
    | none => none
  | _ => none
theorem run_sizeOf {t m : Nat} (h : szT P t = some m) (w : World) : (sizeOf t).run P w = .ok m w := by
  unfold szT at h
  cases hi : P.info? t with
  | none => simp [hi] at h
  | some i => simp [hi] at h; simp [sizeOf, typeInfo, hi, h]
theorem run_isAgg {t : Nat} {b : Bool} (h : isAggT P t = some b) (w : World) : (isAgg t).run P w = .ok b w := by
  unfold isAggT at h
  cases hu : P.underlying t with
  | none => simp [hu] at h
  | some d =>
    simp only [hu, Option.map_some, Option.some.injEq] at h
    unfold isAgg
    rw [Sem.run_bind, run_underlying hu w]
    simp only [Result.andThen_ok]
    cases d <;> simp_all
theorem run_zeroValue {t : Nat} {v : Value} (h : zeroT P t = some v) (w : World) : (zeroValue t).run P w = .ok v w := by
  unfold zeroT at h
  cases hi : P.info? t with
  | none => simp [hi] at h
  | some i => simp [hi] at h; simp [zeroValue, typeInfo, hi, h]
theorem zeroT_of_L {t : Nat} {l : List Value} (h : zeroL P t = some l) : ∃ v, zeroT P t = some v ∧ v.cells.toList = l := by
  unfold zeroL at h
  unfold zeroT
  cases hz : (P.info? t).bind (·.zero) with
  | none => simp [hz] at h
  | some v => simp [hz] at h; exact ⟨v, rfl, h⟩
theorem run_bytes {t m : Nat} (h : byT P t = some m) (w : World) : ∃ i, (typeInfo t).run P w = .ok i w ∧ i.bytes = m := by
  unfold byT at h
  cases hi : P.info? t with
  | none => simp [hi] at h
  | some i => simp [hi] at h; exact ⟨i, by simp [typeInfo, hi], h⟩

/-! ### Reading memory -/
theorem cell_of_block {w : World} {b i : Nat} {l : List Value} {T : TypeId} {fr : Nat × Nat} (h : w.heap[b]? = some (.cells l.toArray T fr)) : w.cell? ⟨b, i, none⟩ = l[i]? := by
  simp [World.cell?, h]
theorem addr_add (b off j : Nat) : (⟨b, off, none⟩ : Addr).add j = ⟨b, off + j, none⟩ := by
  unfold Addr.add; split <;> simp_all
theorem run_loadCells_at {w : World} {b off m : Nat} {l : List Value} {T : TypeId} {fr : Nat × Nat} (h : w.heap[b]? = some (.cells l.toArray T fr)) (hm : off + m ≤ l.length) :
    (loadCells ⟨b, off, none⟩ m).run P w = .ok ((l.drop off).take m).toArray w := by
  have hlen : ((l.drop off).take m).length = m := by simp; omega
  have := run_loadCells_list (P := P) w ⟨b, off, none⟩ ((l.drop off).take m) (fun j v hv => by
    rw [addr_add, cell_of_block h]
    have hj : j < m := by
      rcases Nat.lt_or_ge j m with h | h
      · exact h
      · rw [List.getElem?_eq_none (by omega)] at hv; cases hv
    rw [List.getElem?_take_of_lt hj, List.getElem?_drop] at hv
    exact hv)
  rwa [hlen] at this
theorem run_loadVar1 {t : Nat} (ht : isAggT P t = some false) {w : World} {b i : Nat} {l : List Value} {T : TypeId} {fr : Nat × Nat} {v : Value}
    (h : w.heap[b]? = some (.cells l.toArray T fr)) (hv : l[i]? = some v) : (loadVar t ⟨b, i, none⟩).run P w = .ok v w := by
  have hc := (cell_of_block (i := i) h).trans hv
  simp [loadVar, run_isAgg ht, hc]
theorem run_loadVarA {t m : Nat} (ht : isAggT P t = some true) (hs : szT P t = some m) {w : World} {b i : Nat} {l : List Value} {T : TypeId} {fr : Nat × Nat}
    (h : w.heap[b]? = some (.cells l.toArray T fr)) (hm : i + m ≤ l.length) : (loadVar t ⟨b, i, none⟩).run P w = .ok (.agg ((l.drop i).take m).toArray) w := by
  simp only [loadVar, Sem.run_bind, run_isAgg ht, Result.andThen_ok, run_sizeOf hs, run_loadCells_at h hm, if_true, Sem.run_pure]

/-! ### Values -/
section
variable {x y c : Operand} {ty t t2 : Nat}
theorem y_move {v : Value} (hx : ev E x = some v) : YV P n E W (.move x) ty v := fun a w ha _ d ps af g => by
  simp [execOp, ha.eval hx]
theorem y_assign {v : Value} (hx : ev E x = some v) : YV P n E W (.assign x) ty v := fun a w ha _ d ps af g => by
  simp [execOp, ha.eval hx]
theorem y_pick_t {v : Value} (hc : ev E c = some (.bool true)) (hx : ev E x = some v) : YV P n E W (.pick c x y) ty v := fun a w ha _ d ps af g => by
  simp [execOp, ha.eval hx, ha.eval hc, asBool]
theorem y_pick_f {v : Value} (hc : ev E c = some (.bool false)) (hy : ev E y = some v) : YV P n E W (.pick c x y) ty v := fun a w ha _ d ps af g => by
  simp [execOp, ha.eval hy, ha.eval hc, asBool]
theorem y_not {b : Bool} (hx : ev E x = some (.bool b)) : YV P n E W (.unOp .not t x) ty (.bool !b) := fun a w ha _ d ps af g => by
  simp [execOp, ha.eval hx, Op.unary]
theorem y_bin {op : BinOp} {k : IntKind} {m m' : Int} {v : Value} (hx : ev E x = some (.int k m)) (hy : ev E y = some (.int k m'))
    (h : binOp op t (.int k m) (.int k m') = pure v) : YV P n E W (.binOp op t x y t2) ty v := fun a w ha _ d ps af g => by
  simp only [execOp, ha.eval hx, ha.eval hy, eqGuard_at_int, h]
  simp
theorem y_lss {k : IntKind} {m m' : Int} (hx : ev E x = some (.int k m)) (hy : ev E y = some (.int k m')) : YV P n E W (.binOp .lss t x y t2) ty (.bool (decide (m < m'))) := y_bin hx hy (binOp_lss t k m m')
theorem y_gtr {k : IntKind} {m m' : Int} (hx : ev E x = some (.int k m)) (hy : ev E y = some (.int k m')) : YV P n E W (.binOp .gtr t x y t2) ty (.bool (decide (m' < m))) := y_bin hx hy (binOp_gtr t k m m')
theorem y_geq {k : IntKind} {m m' : Int} (hx : ev E x = some (.int k m)) (hy : ev E y = some (.int k m')) : YV P n E W (.binOp .geq t x y t2) ty (.bool (decide (m' ≤ m))) := y_bin hx hy (binOp_geq t k m m')
theorem y_eqi {k : IntKind} {m m' : Int} (hx : ev E x = some (.int k m)) (hy : ev E y = some (.int k m')) : YV P n E W (.binOp .eql t x y t2) ty (.bool (decide (m = m'))) := y_bin hx hy (binOp_eql t k m m')
theorem y_nei {k : IntKind} {m m' : Int} (hx : ev E x = some (.int k m)) (hy : ev E y = some (.int k m')) : YV P n E W (.binOp .neq t x y t2) ty (.bool (!decide (m = m'))) := y_bin hx hy (binOp_neq t k m m')
theorem y_add {k : IntKind} {m m' r : Int} (hx : ev E x = some (.int k m)) (hy : ev E y = some (.int k m')) (hr : k.wrap (m + m') = r) : YV P n E W (.binOp .add t x y t2) ty (.int k r) :=
  y_bin hx hy (by rw [binOp_add]; simp [Op.intArith, hr])
theorem y_sub {k : IntKind} {m m' r : Int} (hx : ev E x = some (.int k m)) (hy : ev E y = some (.int k m')) (hr : k.wrap (m - m') = r) : YV P n E W (.binOp .sub t x y t2) ty (.int k r) :=
  y_bin hx hy (by rw [binOp_sub]; simp [Op.intArith, hr])
theorem y_rem {k : IntKind} {m m' r : Int} (hx : ev E x = some (.int k m)) (hy : ev E y = some (.int k m')) (h0 : m' ≠ 0) (hr : m.tmod m' = r) : YV P n E W (.binOp .rem t x y t2) ty (.int k r) :=
  y_bin hx hy (by rw [binOp_rem]; simp [Op.intDiv, h0, hr])
theorem y_xor {k : IntKind} {m m' r : Int} (hx : ev E x = some (.int k m)) (hy : ev E y = some (.int k m')) (hr : bits .xor k m m' = r) : YV P n E W (.binOp .xor t x y t2) ty (.int k r) :=
  y_bin hx hy (by rw [binOp_xor, intBits_xor, hr])
theorem y_eqb {b c : Bool} (hx : ev E x = some (.bool b)) (hy : ev E y = some (.bool c)) (hu : P.underlying t = some .bool) : YV P n E W (.binOp .eql t x y t2) ty (.bool (b == c)) := fun a w ha _ d ps af g => by
  have h := run_equal_bool (P := P) w t b c hu
  simp only [execOp, ha.eval hx, ha.eval hy, eqGuard_at_bool, binOp]
  simp [h]
theorem run_equal_nilp {e : Nat} (hu : P.underlying t = some (.pointer e)) (p : Option Addr) (w : World) : (Op.equal t (.pointer p) (.pointer none)).run P w = .ok p.isNone w := by
  have key : ∀ d, (Op.equalIn (d + 1) t (.pointer p) (.pointer none)).run P w = .ok p.isNone w := fun d => by
    cases p <;> simp [Op.equalIn, run_underlying hu]
  exact key 9999
theorem y_eqp {p : Option Addr} {e : Nat} (hx : ev E x = some (.pointer p)) (hy : ev E y = some (.pointer none)) (hu : P.underlying t = some (.pointer e)) : YV P n E W (.binOp .eql t x y t2) ty (.bool p.isNone) := fun a w ha _ d ps af g => by
  have h := run_equal_nilp hu p w
  simp only [execOp, ha.eval hx, ha.eval hy, eqGuard_at_pointer, binOp]
  simp [h]
theorem y_nep {p : Option Addr} {e : Nat} (hx : ev E x = some (.pointer p)) (hy : ev E y = some (.pointer none)) (hu : P.underlying t = some (.pointer e)) : YV P n E W (.binOp .neq t x y t2) ty (.bool (!p.isNone)) := fun a w ha _ d ps af g => by
  have h := run_equal_nilp hu p w
  simp only [execOp, ha.eval hx, ha.eval hy, eqGuard_at_pointer, binOp]
  simp [h]
theorem y_eqs {p : Option Addr} {l c e : Nat} (hx : ev E x = some (.slice p l c)) (hy : ev E y = some (.slice none 0 0)) (hu : P.underlying t = some (.slice e)) : YV P n E W (.binOp .eql t x y t2) ty (.bool p.isNone) := fun a w ha _ d ps af g => by
  have h := run_equal_slice_nil (P := P) w t e p l c hu
  simp only [execOp, ha.eval hx, ha.eval hy, eqGuard_at_slice, binOp]
  simp [h]
theorem y_nilCheck {p : Addr} (hx : ev E x = some (.pointer (some p))) : YV P n E W (.nilCheck x) ty (.pointer (some p)) := fun a w ha _ d ps af g => by
  simp [execOp, ha.eval hx]
theorem y_extract {vs : List Value} {i : Nat} {v : Value} (hx : ev E x = some (.tuple vs.toArray)) (hv : vs[i]? = some v) : YV P n E W (.extract x i) ty v := fun a w ha _ d ps af g => by
  simp [execOp, ha.eval hx, Instr.extract, hv]
theorem y_makeFunc {fn : Fn} {first captured : List Operand} {vs us : List Value} (h1 : first.mapM (ev E) = some vs) (h2 : captured.mapM (ev E) = some us) :
    YV P n E W (.makeFunc fn first.toArray captured.toArray) ty (.func fn vs.toArray us.toArray) := fun a w ha _ d ps af g => by
  have key : ∀ (l : List Operand) (vs : List Value), l.mapM (ev E) = some vs → l.map a.eval = vs := by
    intro l
    induction l with
    | nil => intro vs h; simp at h; simp [h]
    | cons x l ih =>
      intro vs h
      simp only [List.mapM_cons, Option.bind_eq_bind, Option.bind_eq_some_iff, Option.pure_def, Option.some.injEq] at h
      obtain ⟨v, hv, us, hus, rfl⟩ := h
      simp [ha.eval hv, ih us hus]
  simp [execOp, Instr.makeFunc, key _ _ h1, key _ _ h2]
theorem evals {a : Act} (ha : FrOk n E a) : ∀ {l : List Operand} {vs : List Value}, l.mapM (ev E) = some vs → l.map a.eval = vs := by
  intro l
  induction l with
  | nil => intro vs h; simp at h; simp [h]
  | cons x l ih =>
    intro vs h
    simp only [List.mapM_cons, Option.bind_eq_bind, Option.bind_eq_some_iff, Option.pure_def, Option.some.injEq] at h
    obtain ⟨v, hv, us, hus, rfl⟩ := h
    simp [ha.eval hv, ih hus]
theorem y_fieldAddr {s f b i off : Nat} (hx : ev E x = some (.pointer (some ⟨b, i, none⟩))) (hf : fldT P s f = some off) : YV P n E W (.fieldAddr s x f) ty (.pointer (some ⟨b, i + off, none⟩)) := fun a w ha _ d ps af g => by
  unfold fldT at hf
  cases hu : P.underlying s with
  | none => simp [hu] at hf
  | some dd =>
    rw [hu] at hf
    cases dd <;> simp at hf
    rename_i fs
    cases hfs : fs[f]? with
    | none => simp [hfs] at hf
    | some fd =>
      simp only [hfs] at hf
      cases hz : szT P fd.type with
      | none => simp [hz] at hf
      | some m =>
        cases m with
        | zero => simp [hz] at hf
        | succ m =>
          simp [hz] at hf
          simp only [execOp, ha.eval hx, Instr.fieldAt, Sem.run_bind, run_underlying hu, Result.andThen_ok, hfs, Instr.sureAddr, Sem.run_pure, fieldPlace, run_sizeOf hz]
          simp [addr_add, hf]
theorem y_indexS {e m b off len cap : Nat} {k : IntKind} {i : Int} {r : Nat} (hx : ev E x = some (.slice (some ⟨b, off, none⟩) len cap)) (hy : ev E y = some (.int k i)) (hu : P.underlying t = some (.slice e)) (hz : szT P e = some m)
    (h0 : 0 ≤ i) (h1 : i < len) (hr : off + i.toNat * m = r) : YV P n E W (.indexAddr t x y) ty (.pointer (some ⟨b, r, none⟩)) := fun a w ha _ d ps af g => by
  simp only [execOp, ha.eval hx, ha.eval hy, Instr.indexAt, asIntOf, Sem.run_bind, Sem.run_pure, Result.andThen_ok, run_underlying hu]
  rw [if_pos ⟨h0, h1⟩]
  simp only [Sem.run_bind, run_sizeOf hz, Result.andThen_ok, Sem.run_pure, addr_add, hr]
theorem y_indexA {e m b off len : Nat} {k : IntKind} {i : Int} {r : Nat} (hx : ev E x = some (.pointer (some ⟨b, off, none⟩))) (hy : ev E y = some (.int k i)) (hu : P.underlying t = some (.array len e)) (hz : szT P e = some m)
    (h0 : 0 ≤ i) (h1 : i < len) (hr : off + i.toNat * m = r) : YV P n E W (.indexAddr t x y) ty (.pointer (some ⟨b, r, none⟩)) := fun a w ha _ d ps af g => by
  simp only [execOp, ha.eval hx, ha.eval hy, Instr.indexAt, asIntOf, Sem.run_bind, Sem.run_pure, Result.andThen_ok, run_underlying hu, Instr.sureAddr]
  rw [if_pos ⟨h0, h1⟩]
  simp only [Sem.run_bind, run_sizeOf hz, Result.andThen_ok, Sem.run_pure, addr_add, hr]
theorem y_load {b i : Nat} {l : List Value} {T : TypeId} {fr : Nat × Nat} {v : Value} (hx : ev E x = some (.pointer (some ⟨b, i, none⟩))) (ht : isAggT P t = some false)
    (hs : Sees W b (.cells l.toArray T fr)) (hv : l[i]? = some v) : YV P n E W (.load t x) ty v := fun a w ha hw d ps af g => by
  simp only [execOp, ha.eval hx, Instr.loadAt, Instr.sureAddr, Sem.run_bind, Sem.run_pure, Result.andThen_ok, run_loadVar1 ht (hs w hw) hv]
theorem y_loadA {b i m : Nat} {l vs : List Value} {T : TypeId} {fr : Nat × Nat} (hx : ev E x = some (.pointer (some ⟨b, i, none⟩))) (ht : isAggT P t = some true) (hz : szT P t = some m)
    (hs : Sees W b (.cells l.toArray T fr)) (hm : i + m ≤ l.length) (hv : (l.drop i).take m = vs) : YV P n E W (.load t x) ty (.agg vs.toArray) := fun a w ha hw d ps af g => by
  simp only [execOp, ha.eval hx, Instr.loadAt, Instr.sureAddr, Sem.run_bind, Sem.run_pure, Result.andThen_ok, run_loadVarA ht hz (hs w hw) hm, hv]
end

/-! ### Builtins that only yield -/
section
variable {x y c : Operand} {ty t t2 : Nat}
def callB (b : Builtin) (args : List Operand) (tys : Array TypeId) : Op := .call { callee := .builtin b, args := args.toArray, argTypes := tys }
theorem y_builtin {b : Builtin} {args : List Operand} {tys : Array TypeId} {vs : List Value} {v : Value} (hargs : args.mapM (ev E) = some vs)
    (h : ∀ w, W w → ∀ cs, (builtin b tys ty cs vs.toArray).run P w = .ok (.value v) w) : YV P n E W (.call { callee := .builtin b, args := args.toArray, argTypes := tys }) ty v := fun a w ha hw d ps af g => by
  have e := evals ha hargs
  simp only [execOp, resolve, Sem.run_bind, Sem.run_pure, Result.andThen_ok, invoke, List.map_toArray, e]
  exact h w hw _
theorem y_lenS {p : Option Addr} {l c e : Nat} {tys : Array TypeId} (hx : ev E x = some (.slice p l c)) (h0 : tys[0]? = some t) (hu : P.underlying t = some (.slice e)) :
    YV P n E W (.call { callee := .builtin .len, args := [x].toArray, argTypes := tys }) ty (.int .i64 l) := y_builtin (vs := [.slice p l c]) (by simp [hx]) fun w hw cs => by
  simp only [builtin, Sem.run_bind, Builtin.len_, h0, List.getElem?_toArray, List.getElem?_cons_zero, run_underlying hu, Result.andThen_ok, Sem.run_pure, goInt]
theorem y_min {k : IntKind} {m m' : Int} {tys : Array TypeId} (hx : ev E x = some (.int k m)) (hy : ev E y = some (.int k m')) :
    YV P n E W (.call { callee := .builtin .min, args := [x, y].toArray, argTypes := tys }) ty (.int k (min m m')) := y_builtin (vs := [.int k m, .int k m']) (by simp [hx, hy]) fun w hw cs => by
  simp only [builtin, Sem.run_bind, Builtin.min_, Builtin.min2, List.foldlM_cons, List.foldlM_nil, Result.andThen_ok, Sem.run_pure]
  congr 3
  rw [Int.min_def]
  split <;> split <;> omega
theorem y_max {k : IntKind} {m m' : Int} {tys : Array TypeId} (hx : ev E x = some (.int k m)) (hy : ev E y = some (.int k m')) :
    YV P n E W (.call { callee := .builtin .max, args := [x, y].toArray, argTypes := tys }) ty (.int k (max m m')) := y_builtin (vs := [.int k m, .int k m']) (by simp [hx, hy]) fun w hw cs => by
  simp only [builtin, Sem.run_bind, Builtin.max_, Builtin.max2, List.foldlM_cons, List.foldlM_nil, Result.andThen_ok, Sem.run_pure]
  congr 3
  rw [Int.max_def]
  split <;> split <;> omega
end
end Go.Sl

/- The calculus, fourth part (own work): the operations that make or write memory, and calls. -/
set_option linter.unusedVariables false
set_option linter.unusedSimpArgs false
namespace Go.Sl
open Go.RowKit (Below)
variable {P : Program} {n : FN} {w0 : World} {Q : Post} {E E' : Env} {H H' HS : Hp} {W : World → Prop} {K : Env → Hp → Prop}
variable {d : Option Nat} {ty t : Nat} {ps : String} {af : Array Edge} {g : Option (Nat × Bool)} {x y : Operand}

theorem op_run {o : Oper} (hd : dok o.dst n = true) (h : ∀ a w, FrOk n E a → St w0 w H → ∃ v w' H', (execOp a.eval o).run P w = .ok (.value v) w' ∧ St w0 w' H' ∧ K (put E o.dst v) H') :
    OpW P n w0 Q o E H K := fun a w ha hw next hn => by
  obtain ⟨v, w', H', hr, s, k⟩ := h a w ha hw
  unfold Oper.wp
  rw [hr]
  exact hn _ _ _ _ (ha.put hd v) s k
theorem op_runs {o : Oper} (hd : dok o.dst n = true) (h : ∀ a w, FrOk n E a → St w0 w H → ∃ w' H', (execOp a.eval o).run P w = .ok .skip w' ∧ St w0 w' H' ∧ K (put E o.dst undef) H') :
    OpW P n w0 Q o E H K := fun a w ha hw next hn => by
  obtain ⟨w', H', hr, s, k⟩ := h a w ha hw
  unfold Oper.wp
  rw [hr]
  exact hn _ _ _ _ (ha.put hd undef) s k
theorem op_y {o : Oper} {v : Value} (hy : YV P n E (fun w => St w0 w H) o.op o.type v) (hd : dok o.dst n = true) (k : K (put E o.dst v) H) : OpW P n w0 Q o E H K :=
  op_run hd fun a w ha hw => ⟨v, w, H, hy a w ha hw o.dst o.pos o.after o.guard, hw, k⟩

/-! ### New blocks -/
theorem op_alloc {zl : List Value} (hz : zeroL P t = some zl) (hd : dok d n = true) (k : ∀ b, K (put E d (.pointer (some ⟨b, 0, none⟩))) ([(b, .cells zl.toArray t)] :: H)) :
    OpW P n w0 Q ⟨d, .alloc t, ty, ps, af, g⟩ E H K := op_run hd fun a w ha hw => by
  obtain ⟨v, hv, hl⟩ := zeroT_of_L hz
  refine ⟨.pointer (some ⟨w.heap.size, 0, none⟩), w.alloc (.cells zl.toArray t), _, ?_, hw.alloc _, k _⟩
  have hc : v.cells = zl.toArray := by rw [← hl]
  simp only [execOp, Instr.alloc, Sem.run_bind, run_zeroValue hv, Result.andThen_ok, newVar, newRow, run_newObj, Sem.run_pure, hc]
  rfl
theorem op_box {v : Value} {l : List Value} (hx : ev E x = some v) (hc : v.cells = l.toArray) (hd : dok d n = true) (k : ∀ b, K (put E d (.pointer (some ⟨b, 0, none⟩))) ([(b, .cells l.toArray t)] :: H)) :
    OpW P n w0 Q ⟨d, .box t x, ty, ps, af, g⟩ E H K := op_run hd fun a w ha hw => by
  refine ⟨.pointer (some ⟨w.heap.size, 0, none⟩), w.alloc (.cells l.toArray t), _, ?_, hw.alloc _, k _⟩
  simp only [execOp, ha.eval hx, Instr.box, Sem.run_bind, Result.andThen_ok, newVar, newRow, run_newObj, Sem.run_pure, hc]
  rfl

/-! ### Stores -/
def one (v : Value) : Bool := v.oneCell'
def spl : List Value → Nat → List Value → List Value
  | l, _, [] => l
  | l, i, v :: vs => spl (l.set i v) (i + 1) vs
theorem spl_eq : ∀ (vs l : List Value) (i : Nat), i + vs.length ≤ l.length → spl l i vs = l.take i ++ vs ++ l.drop (i + vs.length)
  | [], l, i, h => by simp [spl]
  | v :: vs, l, i, h => by
    simp only [List.length_cons] at h
    have ih := spl_eq vs (l.set i v) (i + 1) (by simp; omega)
    simp only [spl, ih]
    have h1 : (l.set i v).take (i + 1) = l.take i ++ [v] := by
      apply List.ext_getElem?
      intro j
      by_cases hj : j < i
      · rw [List.getElem?_take_of_lt (by omega), List.getElem?_set_ne (by omega), List.getElem?_append_left (by simp; omega), List.getElem?_take_of_lt hj]
      · by_cases hj2 : j = i
        · subst hj2; rw [List.getElem?_take_of_lt (by omega), List.getElem?_set_self (by omega), List.getElem?_append_right (by simp; omega), show j - (l.take j).length = 0 by simp; omega]; rfl
        · rw [List.getElem?_eq_none (by simp; omega), List.getElem?_eq_none (by simp; omega)]
    have h2 : (l.set i v).drop (i + 1 + vs.length) = l.drop (i + (vs.length + 1)) := by
      apply List.ext_getElem?
      intro j
      simp only [List.getElem?_drop]
      rw [List.getElem?_set_ne (by omega)]
      congr 1
      omega
    rw [h1, h2]
    simp
theorem setCell_putB {w : World} {b i : Nat} {l : List Value} {T : TypeId} (h : w.heap[b]? = some (.cells l.toArray T (0, 0))) (v : Value) :
    w.setCell ⟨b, i, none⟩ v = putB w b (.cells (l.set i v).toArray T (0, 0)) := by
  unfold World.setCell putB
  congr 1
  apply Array.ext_getElem?
  intro j
  rw [Array.getElem?_modify, Array.getElem?_setIfInBounds]
  obtain ⟨hlt, h'⟩ := Array.getElem?_eq_some_iff.1 h
  by_cases e : b = j
  · subst e; simp [hlt, h']
  · simp [e]
theorem putB_putB (w : World) (b : Nat) (o o' : Obj) : putB (putB w b o) b o' = putB w b o' := by
  unfold putB
  simp
theorem frozen_none {w : World} {b i : Nat} {c : Array Value} {T : TypeId} (h : w.heap[b]? = some (.cells c T (0, 0))) : w.frozen? ⟨b, i, none⟩ = false := by
  simp [World.frozen?, h]
theorem run_storeCells : ∀ (vs l : List Value) (w : World) (b i off : Nat) (T : TypeId), w.heap[b]? = some (.cells l.toArray T (0, 0)) → (∀ v ∈ vs, one v = true) → off + i + vs.length ≤ l.length →
    ∃ w', (storeCells ⟨b, off, none⟩ vs i).run P w = .ok () w' ∧ ((vs = [] ∧ w' = w) ∨ w' = putB w b (.cells (spl l (off + i) vs).toArray T (0, 0)))
  | [], l, w, b, i, off, T, h, _, _ => ⟨w, rfl, .inl ⟨rfl, rfl⟩⟩
  | v :: vs, l, w, b, i, off, T, h, ho, hlen => by
    simp only [List.length_cons] at hlen
    have hc : w.cell? ⟨b, off + i, none⟩ = some (l[off + i]'(by omega)) := by rw [cell_of_block h]; exact List.getElem?_eq_getElem _
    have hs : (store ((⟨b, off, none⟩ : Addr).add i) v).run P w = .ok () (putB w b (.cells (l.set (off + i) v).toArray T (0, 0))) := by
      rw [addr_add, run_store P w _ v _ (ho v (by simp)), hc]
      simp only [frozen_none h, Bool.false_eq_true, if_false]
      rw [setCell_putB h]
    obtain ⟨w', hw', hr⟩ := run_storeCells vs (l.set (off + i) v) (putB w b (.cells (l.set (off + i) v).toArray T (0, 0))) b (i + 1) off T (putB_same h) (fun u hu => ho u (by simp [hu])) (by simp; omega)
    refine ⟨w', ?_, .inr ?_⟩
    · unfold storeCells
      rw [Sem.run_bind, hs]
      exact hw'
    · rcases hr with ⟨e, rfl⟩ | rfl
      · subst e; rfl
      · rw [putB_putB]; simp only [spl]; rw [show off + (i + 1) = off + i + 1 by omega]
theorem putB_self {w : World} {b : Nat} {o : Obj} (h : w.heap[b]? = some o) : putB w b o = w := by
  unfold putB
  have : w.heap.setIfInBounds b o = w.heap := by
    apply Array.ext_getElem?
    intro j
    rw [Array.getElem?_setIfInBounds]
    have hlt : b < w.heap.size := (Array.getElem?_eq_some_iff.1 h).1
    by_cases e : b = j
    · subst e; simp [hlt, ← h]
    · simp [e]
  rw [this]
theorem run_storeCells' {vs l : List Value} {w : World} {b off : Nat} {T : TypeId} (h : w.heap[b]? = some (.cells l.toArray T (0, 0))) (ho : ∀ v ∈ vs, one v = true) (hlen : off + vs.length ≤ l.length) :
    (storeCells ⟨b, off, none⟩ vs).run P w = .ok () (putB w b (.cells (spl l off vs).toArray T (0, 0))) := by
  obtain ⟨w', h1, h2⟩ := run_storeCells (P := P) vs l w b 0 off T h ho (by omega)
  rw [h1]
  rcases h2 with ⟨e, rfl⟩ | rfl
  · subst e; rw [show spl l off [] = l from rfl, putB_self h]
  · simp
theorem run_storeVar {w : World} {b i m : Nat} {v : Value} {vs l : List Value} {T : TypeId} (hv : v.cells = vs.toArray) (hz : szT P t = some m) (hm : vs.length = m)
    (h : w.heap[b]? = some (.cells l.toArray T (0, 0))) (ho : ∀ v ∈ vs, one v = true) (hlen : i + m ≤ l.length) :
    (storeVar t ⟨b, i, none⟩ v).run P w = .ok () (putB w b (.cells (spl l i vs).toArray T (0, 0))) := by
  have hne : ¬ (v.cells.size ≠ m) := by simp [hv, hm]
  simp only [storeVar, Sem.run_bind, run_sizeOf hz, Result.andThen_ok]
  simp only [hne, if_false, Sem.run_bind, Sem.run_pure, Result.andThen_ok, hv]
  rw [if_neg (by simpa using hm)]
  refine run_storeCells' h ho ?_
  omega
theorem op_store {b i m : Nat} {v : Value} {vs l : List Value} {T : TypeId} (s j : Nat) (hx : ev E x = some (.pointer (some ⟨b, i, none⟩))) (hy : ev E y = some v) (hv : v.cells = vs.toArray) (hz : szT P t = some m) (hm : vs.length = m)
    (hH : getH H s j = some (b, .cells l.toArray T)) (ho : ∀ v ∈ vs, one v = true) (hlen : i + m ≤ l.length) (k : K E (setH H s j (.cells (spl l i vs).toArray T))) :
    OpW P n w0 Q ⟨none, .store t x y, ty, ps, af, g⟩ E H K := op_runs rfl fun a w ha hw => by
  have h : w.heap[b]? = some (.cells l.toArray T (0, 0)) := hw.has _ (getH_mem hH)
  refine ⟨_, _, ?_, hw.putB hH _, k⟩
  simp only [execOp, ha.eval hx, ha.eval hy, Instr.storeAt, Instr.sureAddr, Sem.run_bind, Sem.run_pure, Result.andThen_ok, run_storeVar hv hz hm h ho hlen]
/-- One cell. -/
theorem op_store1 {b i : Nat} {v : Value} {l : List Value} {T : TypeId} (s j : Nat) (hx : ev E x = some (.pointer (some ⟨b, i, none⟩))) (hy : ev E y = some v) (hv : one v = true) (hz : szT P t = some 1)
    (hH : getH H s j = some (b, .cells l.toArray T)) (hlen : i < l.length) (k : K E (setH H s j (.cells (l.set i v).toArray T))) :
    OpW P n w0 Q ⟨none, .store t x y, ty, ps, af, g⟩ E H K :=
  op_store (vs := [v]) s j hx hy (by cases v <;> first | rfl | (simp [one, Value.oneCell'] at hv)) hz rfl hH (by simpa using hv) (by omega) k

/-! ### Slices -/
def zcells (zl : List Value) (c : Nat) : List Value := (List.replicate c zl).flatten
theorem zcells_length (zl : List Value) (c : Nat) : (zcells zl c).length = c * zl.length := by simp [zcells]
theorem zcells_get (zl : List Value) : ∀ (c i : Nat), i < c * zl.length → (zcells zl c)[i]? = zl[i % zl.length]?
  | 0, i, h => by omega
  | c + 1, i, h => by
    have e : zcells zl (c + 1) = zl ++ zcells zl c := by simp [zcells, List.replicate_succ]
    rw [e]
    by_cases hi : i < zl.length
    · rw [List.getElem?_append_left hi, Nat.mod_eq_of_lt hi]
    · rw [List.getElem?_append_right (by omega)]
      rw [Nat.add_mul, Nat.one_mul] at h
      rw [zcells_get zl c (i - zl.length) (by omega)]
      congr 1
      exact (Nat.mod_eq_sub_mod (by omega)).symm
theorem rangeCells (zl : List Value) (c : Nat) : ((Array.range (c * zl.length)).map (zl.toArray[· % zl.toArray.size]!)) = (zcells zl c).toArray := by
  apply Array.ext_getElem?
  intro i
  by_cases hi : i < c * zl.length
  · have hpos : 0 < zl.length := by rcases Nat.eq_zero_or_pos zl.length with h | h <;> simp_all
    have hm : i % zl.length < zl.length := Nat.mod_lt _ hpos
    simp [hi, zcells_get zl c i hi, hm]
  · rw [Array.getElem?_eq_none (by simp; omega), Array.getElem?_eq_none (by simp [zcells_length]; omega)]
theorem op_makeSlice {e m bs : Nat} {zl : List Value} {len : Int} (hx : ev E x = some (.int .i64 len)) (hu : P.underlying t = some (.slice e)) (hb : byT P e = some bs) (hz : szT P e = some m) (hzl : zeroL P e = some zl) (hl : zl.length = m)
    (h0 : 0 ≤ len) (hr : bs * len ≤ 281474976710656) (h63 : len ≤ 9223372036854775807) (hd : dok d n = true) (k : ∀ b, K (put E d (.slice (some ⟨b, 0, none⟩) len.toNat len.toNat)) ([(b, .cells (zcells zl len.toNat).toArray e)] :: H)) :
    OpW P n w0 Q ⟨d, .makeSlice t x x, ty, ps, af, g⟩ E H K := op_run hd fun a w ha hw => by
  obtain ⟨v, hv, hlv⟩ := zeroT_of_L hzl
  obtain ⟨i, hi, hib⟩ := run_bytes hb w
  have hw64 : IntKind.i64.wrap len = len := by rw [IntKind.wrap_i64]; omega
  refine ⟨.slice (some ⟨w.heap.size, 0, none⟩) len.toNat len.toNat, w.alloc (.cells (zcells zl len.toNat).toArray e), _, ?_, hw.alloc _, k _⟩
  have hc : v.cells = zl.toArray := by rw [← hlv]
  have hcells : ((Array.range (len.toNat * m)).map (v.cells[· % v.cells.size]!)) = (zcells zl len.toNat).toArray := by rw [← hl, hc]; exact rangeCells zl len.toNat
  have t1 : (decide (len < 0)) = false := by simp; omega
  have t2 : ¬ ((2 : Int) ^ 48 < (i.bytes : Int) * len) := by rw [hib]; omega
  simp only [execOp, ha.eval hx, Instr.makeSlice, asInt, asIntOf, Sem.run_bind, Sem.run_pure, Result.andThen_ok, run_underlying hu, hi, hw64]
  simp only [t1, t2, gt_iff_lt, Bool.false_or, decide_false, Int.lt_irrefl, Bool.or_self, Bool.false_eq_true, if_false, Sem.run_bind, Sem.run_pure, Result.andThen_ok, run_askRoom, run_sizeOf hz]
  by_cases hn : len.toNat * m = 0
  · have hz0 : zcells zl len.toNat = [] := List.eq_nil_of_length_eq_zero (by rw [zcells_length, hl, hn])
    simp only [hn, if_true, Sem.run_pure, Result.andThen_ok, newRow, Sem.run_bind, run_newObj, hz0, show Array.range 0 = #[] from rfl, Array.map_empty]
    rfl
  · simp only [hn, if_false, Sem.run_bind, run_zeroValue hv, Sem.run_pure, Result.andThen_ok, newRow, run_newObj, hcells]
    rfl
theorem op_buildSlice {e m len : Nat} {parts : List (Nat × Operand)} {vs : List (Nat × Value)} {zl l : List Value} (hp : parts.map (fun p => (p.1, ev E p.2)) = vs.map fun p => (p.1, some p.2)) (hu : P.underlying t = some (.slice e)) (hz : szT P e = some m)
    (hzl : zeroL P e = some zl) (hl : zl.length = m) (hm : len * m ≤ 16777216) (hf : Instr.fill (fun i => some (i * m, m)) (zcells zl len).toArray vs = some l.toArray) (hd : dok d n = true)
    (k : ∀ b, K (put E d (.slice (some ⟨b, 0, none⟩) len len)) ([(b, .cells l.toArray e)] :: H)) :
    OpW P n w0 Q ⟨d, .buildSlice t len parts.toArray, ty, ps, af, g⟩ E H K := op_run hd fun a w ha hw => by
  obtain ⟨v, hv, hlv⟩ := zeroT_of_L hzl
  refine ⟨.slice (some ⟨w.heap.size, 0, none⟩) len len, w.alloc (.cells l.toArray e), _, ?_, hw.alloc _, k _⟩
  have hparts : (parts.map fun (i, x) => (i, a.eval x)) = vs := by
    clear hf
    induction parts generalizing vs with
    | nil => cases vs with
      | nil => rfl
      | cons _ _ => simp at hp
    | cons p parts ih => cases vs with
      | nil => simp at hp
      | cons q vs =>
        simp only [List.map_cons, List.cons.injEq, Prod.mk.injEq] at hp
        simp only [List.map_cons, List.cons.injEq]
        exact ⟨by rw [ha.eval hp.1.2, hp.1.1], ih hp.2⟩
  have hc : v.cells = zl.toArray := by rw [← hlv]
  have hcells : ((Array.range (len * m)).map (v.cells[· % v.cells.size]!)) = (zcells zl len).toArray := by rw [← hl, hc]; exact rangeCells zl len
  have t1 : ¬ (16777216 < len * m) := by omega
  simp only [execOp, Instr.buildSlice, Sem.run_bind, run_underlying hu, Result.andThen_ok, run_sizeOf hz, List.map_toArray, hparts]
  simp only [show (2 : Nat) ^ 24 = 16777216 from rfl, gt_iff_lt, t1, if_false, Sem.run_pure, Result.andThen_ok, Sem.run_bind]
  by_cases hn : len * m = 0
  · have hz0 : zcells zl len = [] := List.eq_nil_of_length_eq_zero (by rw [zcells_length, hl, hn])
    rw [hz0] at hf
    simp only [hn, if_true, Sem.run_pure, Result.andThen_ok, show Array.range 0 = #[] from rfl, Array.map_empty, hf, newRow, Sem.run_bind, run_newObj]
    rfl
  · simp only [hn, if_false, Sem.run_bind, run_zeroValue hv, Sem.run_pure, Result.andThen_ok, hcells, hf, newRow, run_newObj]
    rfl
theorem fold_set : ∀ (vs cells : List Value) (off k : Nat), (vs.zipIdx k).foldl (fun (cs : Array Value) (p : Value × Nat) => cs.setIfInBounds (off + p.2) p.1) cells.toArray = (spl cells (off + k) vs).toArray
  | [], cells, off, k => rfl
  | v :: vs, cells, off, k => by
    simp only [List.zipIdx_cons, List.foldl_cons, List.setIfInBounds_toArray, spl]
    rw [fold_set vs (cells.set (off + k) v) off (k + 1)]
    rfl
theorem fill_cons {place : Nat → Option (Nat × Nat)} {cells vs : List Value} {i off m : Nat} {v : Value} {rest : List (Nat × Value)} {r : Option (Array Value)} (hp : place i = some (off, m)) (hv : v.cells = vs.toArray) (hm : vs.length = m) (hlen : off + m ≤ cells.length)
    (h : Instr.fill place (spl cells off vs).toArray rest = r) : Instr.fill place cells.toArray ((i, v) :: rest) = r := by
  have h1 : (decide (v.cells.size ≠ m) || decide (off + v.cells.size > cells.toArray.size)) = false := by simp [hv, hm]; omega
  have h2 : v.cells.zipIdx.foldl (fun (cs : Array Value) (p : Value × Nat) => cs.setIfInBounds (off + p.2) p.1) cells.toArray = (spl cells off vs).toArray := by
    rw [hv, ← Array.foldl_toList]
    have := fold_set vs cells off 0
    simpa using this
  simp only [Instr.fill, hp, h1]
  rw [← h, ← h2]
  rfl
theorem fill_one {m : Nat} {v : Value} {l zl : List Value} (hv : v.cells = l.toArray) (hl : l.length = m) (hzl : zl.length = m) : Instr.fill (fun i => some (i * m, m)) (zcells zl 1).toArray [(0, v)] = some l.toArray := by
  have e : zcells zl 1 = zl := by simp [zcells]
  rw [e]
  refine fill_cons (off := 0) (vs := l) (by simp) hv hl (by omega) ?_
  rw [spl_eq l zl 0 (by omega)]
  simp [Instr.fill]
  omega

/-! ### Calls -/
theorem op_call {f : Nat} {ce : Operand} {args : List Operand} {vs first cap : List Value} {tys : Array TypeId} (hf : ev E ce = some (.func (.func f) first.toArray cap.toArray)) (hargs : args.mapM (ev E) = some vs)
    (hc : ∀ args w, (callFunc f args).run P w = .ok (.enter f args) w) (hd : dok d n = true)
    (h : FnS P w0 f (first ++ vs ++ cap).toArray H fun e H' => ∃ v, e = .returned v ∧ K (put E d v) H') :
    OpW P n w0 Q ⟨d, .call { callee := .value ce, args := args.toArray, argTypes := tys }, ty, ps, af, g⟩ E H K := fun a w ha hw next hn => by
  unfold Oper.wp
  have e1 := evals ha hargs
  have e2 := ha.eval hf
  have hr : (execOp a.eval ⟨d, .call { callee := .value ce, args := args.toArray, argTypes := tys }, ty, ps, af, g⟩).run P w = .ok (.enter f (first ++ vs ++ cap).toArray) w := by
    simp only [execOp, resolve, Sem.run_bind, e2, Deferred.ofValue, Sem.run_pure, Result.andThen_ok, invoke, List.map_toArray, e1, hc]
    simp
  rw [hr]
  refine (h w hw).mono ?_
  rintro e w' ⟨H', s, v, rfl, k⟩
  exact hn _ _ _ _ (ha.put hd v) s k
end Go.Sl

/- The calculus, fifth part (own work): slices that grow, copies, slice expressions, built structs, equality of arrays, bytes and texts. -/
set_option linter.unusedVariables false
set_option linter.unusedSimpArgs false
namespace Go.Sl
open Go.RowKit (Below)
variable {P : Program} {n : FN} {w0 : World} {Q : Post} {E E' : Env} {H H' HS : Hp} {W : World → Prop} {K : Env → Hp → Prop}
variable {d : Option Nat} {ty t t2 : Nat} {ps : String} {af : Array Edge} {g : Option (Nat × Bool)} {x y c : Operand}

/-! ### Bytes -/
def u8 (b : UInt8) : Value := .int .u8 b.toNat
def bs (l : List UInt8) : List Value := l.map u8
theorem bs_length (l : List UInt8) : (bs l).length = l.length := by simp [bs]
theorem bs_get (l : List UInt8) (i : Nat) : (bs l)[i]? = (l[i]?).map u8 := by simp [bs]
theorem bs_append (l m : List UInt8) : bs (l ++ m) = bs l ++ bs m := by simp [bs]
theorem bs_take (l : List UInt8) (i : Nat) : (bs l).take i = bs (l.take i) := by simp [bs]
theorem bs_drop (l : List UInt8) (i : Nat) : (bs l).drop i = bs (l.drop i) := by simp [bs]
theorem bs_set (l : List UInt8) (i : Nat) (b : UInt8) : (bs l).set i (u8 b) = bs (l.set i b) := by simp [bs]
theorem bs_one (l : List UInt8) : ∀ v ∈ bs l, one v = true := by
  intro v hv
  simp only [bs, List.mem_map] at hv
  obtain ⟨b, _, rfl⟩ := hv
  rfl
theorem u8_of_int {m : Int} (h0 : 0 ≤ m) (h1 : m < 256) : Value.int .u8 m = u8 (UInt8.ofNat m.toNat) := by
  simp only [u8, Value.int.injEq, true_and]
  simp
  omega
theorem spl_bs {vs l : List UInt8} {i : Nat} (h : i + vs.length ≤ l.length) : spl (bs l) i (bs vs) = bs (l.take i ++ vs ++ l.drop (i + vs.length)) := by
  rw [spl_eq _ _ _ (by simpa [bs_length] using h)]
  simp [bs]
theorem y_eqa {e : Nat} {m : Nat} {a b : List UInt8} (hx : ev E x = some (.agg (bs a).toArray)) (hy : ev E y = some (.agg (bs b).toArray)) (hu : P.underlying t = some (.array m e)) (he : P.underlying e = some (.int .u8)) (hz : szT P e = some 1)
    (hg : P.eqGuardType P.depth t = false) (ha : a.length = m) (hb : b.length = m) : YV P n E W (.binOp .eql t x y t2) ty (.bool (decide (a = b))) := fun fr w hfr _ d ps af g => by
  have h := run_eql_bytes (P := P) w t e m hu he (fun w => run_sizeOf hz w) a b ha hb
  simp only [execOp, hfr.eval hx, hfr.eval hy, Sem.run_bind, run_eqGuard_agg w .eql t x y _ _ hg, Result.andThen_ok]
  rw [show (binOp BinOp.eql t (Value.agg (bs a).toArray) (Value.agg (bs b).toArray)).run P w = .ok (.bool (a == b)) w from h]
  simp only [Result.andThen_ok, Sem.run_pure]
  congr 3
  rw [Bool.eq_iff_iff]; simp
theorem y_nea {e : Nat} {m : Nat} {a b : List UInt8} (hx : ev E x = some (.agg (bs a).toArray)) (hy : ev E y = some (.agg (bs b).toArray)) (hu : P.underlying t = some (.array m e)) (he : P.underlying e = some (.int .u8)) (hz : szT P e = some 1)
    (hg : P.eqGuardType P.depth t = false) (ha : a.length = m) (hb : b.length = m) : YV P n E W (.binOp .neq t x y t2) ty (.bool (!decide (a = b))) := fun fr w hfr _ d ps af g => by
  have h := run_equalIn_bytes (P := P) w 9998 t e m hu he (fun w => run_sizeOf hz w) a b ha hb
  have h' : (Op.equalIn 10000 t (.agg (bs a).toArray) (.agg (bs b).toArray)).run P w = .ok (a == b) w := h
  simp only [execOp, hfr.eval hx, hfr.eval hy, Sem.run_bind, run_eqGuard_agg w .neq t x y _ _ hg, Result.andThen_ok]
  rw [run_neq_struct, h']
  simp only [Result.andThen_ok, Sem.run_pure]
  congr 4
  rw [Bool.eq_iff_iff]; simp
/-! ### Slice expressions -/
theorem run_bound {k : IntKind} {i : Int} {m : Nat} {code : BoundsCode} (h0 : 0 ≤ i) (h1 : i ≤ m) (w : World) : (Instr.sliceBound (.int k i) m code).run P w = .ok i.toNat w := by
  simp only [Instr.sliceBound, asIntOf, Sem.run_bind, Sem.run_pure, Result.andThen_ok]
  rw [if_pos ⟨h0, h1⟩]
  rfl
theorem y_sliceA_hi {e m len b off : Nat} {k' : IntKind} {hi : Int} (hx : ev E x = some (.pointer (some ⟨b, off, none⟩))) (hc : ev E c = some (.int k' hi))
    (hu : P.underlying t = some (.array len e)) (hz : szT P e = some m) (h1 : 0 ≤ hi) (h2 : hi ≤ len) :
    YV P n E W (.slice t x none (some c) none) ty (.slice (some ⟨b, off, none⟩) hi.toNat len) := fun a w ha _ d ps af g => by
  have b1 := fun code => run_bound (P := P) (k := k') (code := code) h1 h2 w
  simp only [execOp, ha.eval hx, ha.eval hc, Option.map_some, Option.map_none, Instr.sliceAt, Sem.run_bind, run_underlying hu, Result.andThen_ok, Instr.sureAddr, Instr.sliceBounds, if_true, b1, Sem.run_pure, run_sizeOf hz, Option.isSome_none, Bool.false_eq_true, if_false]
  simp only [addr_add, Nat.zero_mul, Nat.add_zero, Nat.sub_zero, ite_self]
theorem y_sliceA_all {e m len b off : Nat} (hx : ev E x = some (.pointer (some ⟨b, off, none⟩))) (hu : P.underlying t = some (.array len e)) (hz : szT P e = some m) :
    YV P n E W (.slice t x none none none) ty (.slice (some ⟨b, off, none⟩) len len) := fun a w ha _ d ps af g => by
  simp only [execOp, ha.eval hx, Option.map_none, Instr.sliceAt, Sem.run_bind, run_underlying hu, Result.andThen_ok, Instr.sureAddr, Instr.sliceBounds, if_true, Sem.run_pure, run_sizeOf hz, Option.isSome_none, Bool.false_eq_true, if_false]
  simp only [addr_add, Nat.zero_mul, Nat.add_zero, Nat.sub_zero, ite_self]

/-! ### Built structs and arrays -/
def placesT (P : Program) (t : TypeId) : Option (List (Nat × Nat)) :=
  match P.underlying t with
  | some (.struct fs) => fs.toList.mapM fun f => (szT P f.type).map fun m => (f.offset, m)
  | _ => none
theorem run_places {w : World} : ∀ {fs : List Field} {pl : List (Nat × Nat)}, fs.mapM (fun f => (szT P f.type).map fun m => (f.offset, m)) = some pl →
    (fs.mapM (m := Sem) fun f => do pure (f.offset, ← sizeOf f.type)).run P w = .ok pl w
  | [], pl, h => by simp at h; subst h; simp
  | f :: fs, pl, h => by
    simp only [List.mapM_cons, Option.bind_eq_bind, Option.bind_eq_some_iff, Option.map_eq_some_iff, Option.pure_def, Option.some.injEq] at h
    obtain ⟨p, ⟨m, hm, rfl⟩, ql, hq, rfl⟩ := h
    simp only [List.mapM_cons, Sem.run_bind, run_sizeOf hm, Result.andThen_ok, Sem.run_pure, run_places hq]
theorem y_build {parts : List (Nat × Operand)} {vs : List (Nat × Value)} {zl l : List Value} {pl : List (Nat × Nat)} (hp : parts.map (fun p => (p.1, ev E p.2)) = vs.map fun p => (p.1, some p.2)) (hpl : placesT P t = some pl)
    (hzl : zeroL P t = some zl) (hf : Instr.fill (fun i => pl[i]?) zl.toArray vs = some l.toArray) : YV P n E W (.build t parts.toArray) ty (.agg l.toArray) := fun a w ha _ d ps af g => by
  obtain ⟨v, hv, hlv⟩ := zeroT_of_L hzl
  have hparts : (parts.map fun (i, x) => (i, a.eval x)) = vs := by
    clear hf
    induction parts generalizing vs with
    | nil => cases vs with
      | nil => rfl
      | cons _ _ => simp at hp
    | cons p parts ih => cases vs with
      | nil => simp at hp
      | cons q vs =>
        simp only [List.map_cons, List.cons.injEq, Prod.mk.injEq] at hp
        simp only [List.map_cons, List.cons.injEq]
        exact ⟨by rw [ha.eval hp.1.2, hp.1.1], ih hp.2⟩
  have hc : v.cells = zl.toArray := by rw [← hlv]
  unfold placesT at hpl
  cases hu : P.underlying t with
  | none => simp [hu] at hpl
  | some dd =>
    rw [hu] at hpl
    cases dd <;> simp at hpl
    rename_i fs
    have hm : (fs.mapM (m := Sem) fun f => do pure (f.offset, ← sizeOf f.type)).run P w = .ok pl.toArray w := by
      rw [Array.mapM_eq_mapM_toList, Sem.run_map, run_places (P := P) (w := w) (fs := fs.toList) (pl := pl) (by simpa using hpl)]; rfl
    simp only [execOp, Instr.build, Sem.run_bind, run_zeroValue hv, Result.andThen_ok, run_underlying hu, hm, List.map_toArray, hparts, hc]
    rw [show (fun x => pl.toArray[x]?) = (fun i => pl[i]?) from by funext i; simp, hf]
    rfl
theorem y_buildA {e m len : Nat} {parts : List (Nat × Operand)} {vs : List (Nat × Value)} {zl l : List Value} (hp : parts.map (fun p => (p.1, ev E p.2)) = vs.map fun p => (p.1, some p.2)) (hu : P.underlying t = some (.array len e)) (hz : szT P e = some m)
    (hzl : zeroL P t = some zl) (hf : Instr.fill (fun i => some (i * m, m)) zl.toArray vs = some l.toArray) : YV P n E W (.build t parts.toArray) ty (.agg l.toArray) := fun a w ha _ d ps af g => by
  obtain ⟨v, hv, hlv⟩ := zeroT_of_L hzl
  have hparts : (parts.map fun (i, x) => (i, a.eval x)) = vs := by
    clear hf
    induction parts generalizing vs with
    | nil => cases vs with
      | nil => rfl
      | cons _ _ => simp at hp
    | cons p parts ih => cases vs with
      | nil => simp at hp
      | cons q vs =>
        simp only [List.map_cons, List.cons.injEq, Prod.mk.injEq] at hp
        simp only [List.map_cons, List.cons.injEq]
        exact ⟨by rw [ha.eval hp.1.2, hp.1.1], ih hp.2⟩
  have hc : v.cells = zl.toArray := by rw [← hlv]
  simp only [execOp, Instr.build, Sem.run_bind, run_zeroValue hv, Result.andThen_ok, run_underlying hu, run_sizeOf hz, List.map_toArray, hparts, hc, hf, Sem.run_pure]
theorem y_buildA0 {e m len : Nat} {l : List Value} (hu : P.underlying t = some (.array len e)) (hz : szT P e = some m) (hzl : zeroL P t = some l) : YV P n E W (.build t #[]) ty (.agg l.toArray) :=
  y_buildA (parts := []) (vs := []) rfl hu hz hzl rfl
theorem y_build0 {l : List Value} {pl : List (Nat × Nat)} (hpl : placesT P t = some pl) (hzl : zeroL P t = some l) : YV P n E W (.build t #[]) ty (.agg l.toArray) :=
  y_build (parts := []) (vs := []) rfl hpl hzl rfl

/-! ### Slices that grow -/
structure SlG where
  b : Nat
  cap : Nat
  sp : List Value
def slV (g : Option SlG) (len : Nat) : Value := match g with | none => .slice none 0 0 | some g => .slice (some ⟨g.b, 0, none⟩) len g.cap
def slSeg (e : Nat) (g : Option SlG) (xs : List Value) : List (Nat × Obj) := match g with | none => [] | some g => [(g.b, .cells (xs ++ g.sp).toArray e)]
def slOk (sz : Nat) (g : Option SlG) (len : Nat) (xs : List Value) : Prop := xs.length = len * sz ∧ match g with | none => len = 0 | some g => xs.length + g.sp.length = g.cap * sz ∧ len ≤ g.cap

theorem growBy_le (newLen : Nat) (h : 256 ≤ newLen) : ∀ (r c : Nat), c ≤ newLen → Builtin.growBy newLen r c ≤ 2 * newLen
  | 0, c, hc => by simp [Builtin.growBy]; omega
  | r + 1, c, hc => by
    unfold Builtin.growBy
    split
    · omega
    · by_cases h2 : c + (c + 768) / 4 ≤ newLen
      · exact growBy_le newLen h r _ h2
      · have : Builtin.growBy newLen r (c + (c + 768) / 4) = c + (c + 768) / 4 := by
          cases r with
          | zero => rfl
          | succ r => unfold Builtin.growBy; rw [if_pos (by omega)]
        omega
theorem nextcap_le (newLen oldCap : Nat) (h : oldCap < newLen) : Builtin.nextslicecap newLen oldCap ≤ 2 * newLen := by
  unfold Builtin.nextslicecap
  split
  · omega
  · split
    · omega
    · exact growBy_le newLen (by omega) 4 oldCap (by omega)
theorem setH_setS : ∀ {H : Hp} {s b : Nat} {o : Obj} (o' : Obj), H[s]? = some [(b, o)] → getH H s 0 = some (b, o) ∧ setH H s 0 o' = setS H s [(b, o')]
  | [], _, _, _, _, h => by cases h
  | S :: H, 0, b, o, o', h => by simp at h; subst h; exact ⟨rfl, rfl⟩
  | S :: H, s + 1, b, o, o', h => by
    simp only [List.getElem?_cons_succ] at h
    have ⟨h1, h2⟩ := setH_setS o' h
    exact ⟨h1, by simp only [setH, setS, h2]⟩
theorem hsub_setS {H : Hp} {s : Nat} {X Y : List (Nat × Obj)} (h : H[s]? = some X) : HSub (setS H s Y) (Y :: H) := by
  obtain ⟨L, h1, h2⟩ := perm_setS_all H s X h
  have hs : HSub (Y :: L) (Y :: H) := .of_sublist (L := Y :: X :: L) (by simpa using h1.append_left Y) (by simp)
  exact (HSub.of_perm (h2 Y).symm).trans hs
theorem setS_self : ∀ {H : Hp} {s : Nat} {X : List (Nat × Obj)}, H[s]? = some X → setS H s X = H
  | [], _, _, h => by cases h
  | S :: H, 0, X, h => by simp at h; subst h; rfl
  | S :: H, s + 1, X, h => by
    simp only [List.getElem?_cons_succ] at h
    simp only [setS, setS_self h]
/-- What stands first in a slice, or in a text. -/
def Src (P : Program) (w0 : World) (H : Hp) (sz : Nat) (v : Value) (m : Nat) (vs : List Value) : Prop :=
  ∀ w, St w0 w H → (Builtin.lenOf v).run P w = .ok m w ∧ (Builtin.firstCells sz m v).run P w = .ok vs.toArray w
theorem src_slice {sz b off len cap : Nat} {l vs : List Value} {T : TypeId} {fr : Nat × Nat} (hs : Sees (fun w => St w0 w H) b (.cells l.toArray T fr)) (hl : off + len * sz ≤ l.length) (hv : (l.drop off).take (len * sz) = vs) :
    Src P w0 H sz (.slice (some ⟨b, off, none⟩) len cap) len vs := fun w hw => by
  refine ⟨rfl, ?_⟩
  simp only [Builtin.firstCells, run_loadCells_at (hs w hw) hl, hv]
theorem src_nil {sz len cap : Nat} : Src P w0 H sz (.slice none len cap) len [] := fun w hw => ⟨rfl, rfl⟩
theorem Src.sub {sz m : Nat} {v : Value} {vs : List Value} (h : Src P w0 H' sz v m vs) (hs : HSub H' H) : Src P w0 H sz v m vs := fun w hw => h w (hs w0 w hw)

def notIntT (P : Program) (t : TypeId) : Bool := match P.underlying t with
  | some (.int _) => false
  | some _ => true
  | none => false
theorem notInt_spec {t : Nat} (h : notIntT P t = true) : ∃ dx, P.underlying t = some dx ∧ ∀ k, dx ≠ .int k := by
  unfold notIntT at h
  cases hu : P.underlying t with
  | none => simp [hu] at h
  | some dx => exact ⟨dx, rfl, fun k e => by rw [hu, e] at h; simp at h⟩
theorem run_append {len cap m e sz bt : Nat} {base : Option Addr} {xv : Value} {t0 t1 : TypeId} {w : World} {vs : List Value}
    (hu : P.underlying t0 = some (.slice e)) (hnx : notIntT P t1 = true) (hz : szT P e = some sz) (h1 : (Builtin.lenOf xv).run P w = .ok m w) (h2 : (Builtin.firstCells sz m xv).run P w = .ok vs.toArray w) (hroom : len + m ≤ cap) :
    (Builtin.append_ #[t0, t1] ty #[.slice base len cap, xv]).run P w =
      ((match base with | some a => storeCells (a.add (len * sz)) vs | none => pure ()).run P w).andThen fun _ w' => .ok (.slice base (len + m) cap) w' := by
  obtain ⟨dx, hux, hni⟩ := notInt_spec hnx
  have q0 : (#[t0, t1] : Array TypeId)[0]? = some t0 := rfl
  have q1 : (#[t0, t1] : Array TypeId)[1]? = some t1 := rfl
  have q2 : (#[Value.slice base len cap, xv] : Array Value)[0]? = some (.slice base len cap) := rfl
  have q3 : (#[Value.slice base len cap, xv] : Array Value)[1]? = some xv := rfl
  unfold Builtin.append_
  simp only [q0, q1, q2, q3]
  rw [Sem.run_bind, run_underlying hu]
  simp only [Result.andThen_ok]
  rw [Sem.run_bind, run_sizeOf hz]
  simp only [Result.andThen_ok]
  rw [Sem.run_bind, run_underlying hux]
  simp only [Result.andThen_ok]
  rw [Sem.run_bind, Sem.run_pure]
  simp only [Result.andThen_ok]
  have fin : (Sem.run P (do
      let n ← Builtin.lenOf xv
      if len + n ≤ cap then do
          let new ← Builtin.firstCells sz n xv
          match base with
            | some a => do
              storeCells (a.add (len * sz)) new.toList
              pure (Value.slice base (len + n) cap)
            | x => pure (Value.slice base (len + n) cap)
        else pure (Value.slice base 0 0)) w) = ((match base with | some a => storeCells (a.add (len * sz)) vs | none => pure ()).run P w).andThen fun _ w' => .ok (.slice base (len + m) cap) w' := by
    simp only [Sem.run_bind, h1, Result.andThen_ok, hroom, if_true, h2]
    cases base with
    | none => simp
    | some a => simp
  cases dx
  case int k => exact absurd rfl (hni k)
  all_goals
    simp only [Bool.false_eq_true, if_false, Sem.run_bind, h1, Result.andThen_ok, hroom, if_true, Bool.not_false, h2] at fin ⊢
    exact fin
theorem run_append_grow {len cap m e sz bt : Nat} {base : Option Addr} {xv : Value} {t0 t1 : TypeId} {w : World} {vs old zl : List Value} {zv : Value}
    (hu : P.underlying t0 = some (.slice e)) (hnx : notIntT P t1 = true) (hz : szT P e = some sz) (hb : byT P e = some bt) (hbp : 0 < bt) (hzv : zeroT P e = some zv) (hzc : zv.cells = zl.toArray) (hlz : zl.length = sz)
    (h1 : (Builtin.lenOf xv).run P w = .ok m w) (h2 : ∀ k, (Builtin.firstCells sz m xv).run P { w with drawn := k } = .ok vs.toArray { w with drawn := k }) (h3 : ∀ k, (Builtin.firstCells sz len (.slice base len cap)).run P { w with drawn := k } = .ok old.toArray { w with drawn := k })
    (hroom : ¬ (len + m ≤ cap)) (hbound : (len + m) * bt ≤ 140737488355328) :
    ∃ cap' dr, len + m ≤ cap' ∧ (Builtin.append_ #[t0, t1] ty #[.slice base len cap, xv]).run P w = .ok (.slice (some ⟨w.heap.size, 0, none⟩) (len + m) cap') (World.alloc { w with drawn := dr } (.cells (old ++ vs ++ zcells zl (cap' - (len + m))).toArray e)) := by
  obtain ⟨dx, hux, hni⟩ := notInt_spec hnx
  have q0 : (#[t0, t1] : Array TypeId)[0]? = some t0 := rfl
  have q1 : (#[t0, t1] : Array TypeId)[1]? = some t1 := rfl
  have q2 : (#[Value.slice base len cap, xv] : Array Value)[0]? = some (.slice base len cap) := rfl
  have q3 : (#[Value.slice base len cap, xv] : Array Value)[1]? = some xv := rfl
  obtain ⟨i, hi, hib⟩ := run_bytes hb w
  have hbt : len + m ≤ (len + m) * bt := Nat.le_mul_of_pos_right _ hbp
  have hnext := nextcap_le (len + m) cap (by omega)
  have t2 : ¬ (Builtin.nextslicecap (len + m) cap * i.bytes > 2 ^ 48) := by
    rw [hib]
    have : Builtin.nextslicecap (len + m) cap * bt ≤ 2 * (len + m) * bt := Nat.mul_le_mul_right bt hnext
    have : 2 * (len + m) * bt = 2 * ((len + m) * bt) := Nat.mul_assoc _ _ _
    omega
  have t1' : ¬ (((len + m : Nat) : Int) > IntKind.i64.max ∧ (false = true ∨ i.bytes = 0)) := by rw [IntKind.max_i64]; omega
  obtain ⟨cap', hcap'⟩ : ∃ c, c = (Question.appendCap (len + m) cap e).cut (w.tape w.drawn (.appendCap (len + m) cap e)) := ⟨_, rfl⟩
  have hcc : len + m ≤ cap' := by rw [hcap']; simp only [Question.cut]; omega
  have hi' : ∀ w' : World, (typeInfo e).run P w' = .ok i w' := fun w' => by
    obtain ⟨i', h, _⟩ := run_bytes hb w'
    have e1 : P.info? e = some i := by
      cases hq : P.info? e with
      | none => simp [typeInfo, hq] at hi
      | some j => simp [typeInfo, hq] at hi; rw [hi]
    simp [typeInfo, e1]
  refine ⟨cap', w.drawn + 1, hcc, ?_⟩
  have hz0 : Builtin.zeroCells zv.cells (cap' - (len + m)) = (zcells zl (cap' - (len + m))).toArray := by
    unfold Builtin.zeroCells
    rw [hzc]
    exact rangeCells zl _
  unfold Builtin.append_
  simp only [q0, q1, q2, q3]
  rw [Sem.run_bind, run_underlying hu]
  simp only [Result.andThen_ok]
  rw [Sem.run_bind, run_sizeOf hz]
  simp only [Result.andThen_ok]
  rw [Sem.run_bind, run_underlying hux]
  simp only [Result.andThen_ok]
  rw [Sem.run_bind, Sem.run_pure]
  simp only [Result.andThen_ok]
  cases dx
  case int k => exact absurd rfl (hni k)
  all_goals
    simp only [Result.andThen_ok, Sem.run_bind, Sem.run_pure, Bool.false_eq_true, if_false, h1, hroom, Bool.not_false, if_true, hi']
    rw [if_neg (by simpa using t1')]
    rw [Sem.run_bind, hi' w]
    simp only [Result.andThen_ok]
    rw [if_neg t2]
    simp only [Sem.run_bind, run_choose, Question.forced, Bool.false_eq_true, if_false, Sem.run_pure, Result.andThen_ok, ← hcap', hi', run_askRoom]
    rw [h3]
    simp only [Result.andThen_ok]
    rw [h2]
    simp only [Result.andThen_ok, Sem.run_bind, run_zeroValue hzv, hz0, newRow, run_newObj, Sem.run_pure]
    simp only [List.append_toArray]
    rfl
theorem op_append {gs : Option SlG} {len m e sz bt : Nat} {xs vs zl : List Value} {xv : Value} {t0 t1 : TypeId} (s : Nat) (hx : ev E x = some (slV gs len)) (hy : ev E y = some xv) (hs : H[s]? = some (slSeg e gs xs)) (hok : slOk sz gs len xs)
    (hsrc : Src P w0 H sz xv m vs) (hm : vs.length = m * sz) (hone : ∀ v ∈ vs, one v = true)
    (hu : P.underlying t0 = some (.slice e)) (hnx : notIntT P t1 = true) (hz : szT P e = some sz) (hb : byT P e = some bt) (hbp : 0 < bt)
    (hzl : zeroL P e = some zl) (hlz : zl.length = sz) (hbound : (len + m) * bt ≤ 140737488355328) (hd : dok d n = true)
    (k : ∀ g' : Option SlG, slOk sz g' (len + m) (xs ++ vs) → K (put E d (slV g' (len + m))) (setS H s (slSeg e g' (xs ++ vs)))) :
    OpW P n w0 Q ⟨d, .call { callee := .builtin .append, args := [x, y].toArray, argTypes := #[t0, t1] }, ty, ps, af, g⟩ E H K := op_run hd fun a w ha hw => by
  obtain ⟨zv, hzv, hlv⟩ := zeroT_of_L hzl
  have hzc : zv.cells = zl.toArray := by rw [← hlv]
  obtain ⟨h1, h2⟩ := hsrc w hw
  have hev := evals (n := n) (E := E) ha (l := [x, y]) (vs := [slV gs len, xv]) (by simp [hx, hy])
  have hexec : ∀ r w', (Builtin.append_ #[t0, t1] ty #[slV gs len, xv]).run P w = .ok r w' →
      (execOp a.eval ⟨d, .call { callee := .builtin .append, args := [x, y].toArray, argTypes := #[t0, t1] }, ty, ps, af, g⟩).run P w = .ok (.value r) w' := fun r w' h => by
    simp only [execOp, resolve, Sem.run_bind, Sem.run_pure, Result.andThen_ok, invoke, List.map_toArray, hev, builtin]
    rw [show (#[slV gs len, xv] : Array Value) = [slV gs len, xv].toArray from rfl] at h
    rw [h]
    rfl
  have grow : ∀ (base : Option Addr) (cap : Nat), slV gs len = .slice base len cap → ¬ (len + m ≤ cap) →
      (∀ k, (Builtin.firstCells sz len (.slice base len cap)).run P { w with drawn := k } = .ok xs.toArray { w with drawn := k }) →
      ∃ v w' H', (execOp a.eval ⟨d, .call { callee := .builtin .append, args := [x, y].toArray, argTypes := #[t0, t1] }, ty, ps, af, g⟩).run P w = .ok (.value v) w' ∧ St w0 w' H' ∧ K (put E d v) H' := by
    intro base cap hv hroom hf
    obtain ⟨cap', dr, hc, hr⟩ := run_append_grow (P := P) (ty := ty) (base := base) (w := w) hu hnx hz hb hbp hzv hzc hlz h1 (fun k => (hsrc _ (hw.drawn k)).2) hf hroom hbound
    rw [← hv] at hr
    have hok' : slOk sz (some ⟨w.heap.size, cap', zcells zl (cap' - (len + m))⟩) (len + m) (xs ++ vs) := by
      refine ⟨by simp [hok.1, hm, Nat.add_mul], ?_, hc⟩
      simp only [List.length_append, hok.1, hm, zcells_length, hlz]
      rw [← Nat.add_mul, ← Nat.add_mul]
      congr 1
      omega
    refine ⟨_, _, _, hexec _ _ hr, ?_, k (some ⟨w.heap.size, cap', zcells zl (cap' - (len + m))⟩) hok'⟩
    exact hsub_setS hs w0 _ ((hw.drawn dr).alloc _)
  cases gs with
  | none =>
    obtain ⟨hx1, rfl⟩ := hok
    have hxs : xs = [] := List.eq_nil_of_length_eq_zero (by simpa using hx1)
    subst hxs
    by_cases hm0 : m = 0
    · subst hm0
      have hvs : vs = [] := List.eq_nil_of_length_eq_zero (by simpa using hm)
      subst hvs
      have hr := run_append (P := P) (bt := bt) (ty := ty) (base := none) (cap := 0) (len := 0) (w := w) hu hnx hz h1 h2 (Nat.le_refl 0)
      simp only [Sem.run_pure, Result.andThen_ok] at hr
      refine ⟨_, _, H, hexec _ _ hr, hw, ?_⟩
      have := k none ⟨by simp, rfl⟩
      have e0 : setS H s (slSeg e none ([] ++ [])) = H := setS_self hs
      rw [e0] at this
      exact this
    · exact grow none 0 rfl (by omega) (fun k => rfl)
  | some gg =>
    obtain ⟨hx1, hx2, hx3⟩ := hok
    have hblk : w.heap[gg.b]? = some (.cells (xs ++ gg.sp).toArray e) := hw.has _ (getH_mem (setH_setS (.cells #[] e) hs).1)
    by_cases hroom : len + m ≤ gg.cap
    · have hr := run_append (P := P) (bt := bt) (ty := ty) (base := some ⟨gg.b, 0, none⟩) (w := w) hu hnx hz h1 h2 hroom
      have hlen : len * sz + vs.length ≤ (xs ++ gg.sp).length := by
        rw [List.length_append, hx2, hm, ← Nat.add_mul]; exact Nat.mul_le_mul_right _ hroom
      simp only [addr_add, Nat.zero_add] at hr
      rw [run_storeCells' hblk hone hlen] at hr
      simp only [Result.andThen_ok] at hr
      have hs2 := setH_setS (.cells (spl (xs ++ gg.sp) (len * sz) vs).toArray e) hs
      have e1 : spl (xs ++ gg.sp) (len * sz) vs = (xs ++ vs) ++ gg.sp.drop vs.length := by
        rw [spl_eq _ _ _ hlen, ← hx1]
        rw [List.take_left' rfl, List.drop_append]
        simp
      have hok' : slOk sz (some ⟨gg.b, gg.cap, gg.sp.drop vs.length⟩) (len + m) (xs ++ vs) := by
        refine ⟨by simp [hx1, hm, Nat.add_mul], ?_, hroom⟩
        simp only [List.length_append, List.length_drop]
        rw [List.length_append, hx2] at hlen
        omega
      refine ⟨_, _, _, hexec _ _ hr, hw.putB hs2.1 _, ?_⟩
      rw [hs2.2, e1]
      exact k (some ⟨gg.b, gg.cap, gg.sp.drop vs.length⟩) hok'
    · refine grow (some ⟨gg.b, 0, none⟩) gg.cap rfl hroom (fun k => ?_)
      have hblk' : ({ w with drawn := k } : World).heap[gg.b]? = some (.cells (xs ++ gg.sp).toArray e) := hblk
      simp only [Builtin.firstCells]
      rw [run_loadCells_at hblk' (by simp; omega)]
      rw [List.drop_zero, ← hx1, List.take_left' rfl]

end Go.Sl

/- The calculus, sixth part (own work): ends of bodies, small words. -/
set_option linter.unusedVariables false
set_option linter.unusedSimpArgs false
namespace Go.Sl
open Go.RowKit (Below)
variable {P : Program} {n : FN} {w0 : World} {Q : Post} {E E' : Env} {H H' HS : Hp} {W : World → Prop} {K : Env → Hp → Prop}

theorem ones {vs : List Value} (h : vs.all one = true) : ∀ v ∈ vs, one v = true := List.all_eq_true.1 h
theorem rv_nil : RV P w0 E H [] [] := trivial
theorem rv_tmp {t : Nat} {v : Value} {rs : List ResultVar} {vs : List Value} (h : look E t = some v) (hr : RV P w0 E H rs vs) : RV P w0 E H (.tmp t :: rs) (v :: vs) := ⟨h, hr⟩
theorem rv_cellA {t ty b i m : Nat} {l us : List Value} {T : TypeId} {fr : Nat × Nat} {rs : List ResultVar} {vs : List Value} (h : look E t = some (.pointer (some ⟨b, i, none⟩))) (ht : isAggT P ty = some true) (hz : szT P ty = some m)
    (hs : Sees (fun w => St w0 w H) b (.cells l.toArray T fr)) (hm : i + m ≤ l.length) (hv : (l.drop i).take m = us) (hr : RV P w0 E H rs vs) : RV P w0 E H (.cell t ty :: rs) (.agg us.toArray :: vs) :=
  ⟨⟨_, h, fun w hw => by rw [run_loadVarA ht hz (hs w hw) hm, hv]⟩, hr⟩
theorem rv_cell1 {t ty b i : Nat} {v : Value} {l : List Value} {T : TypeId} {fr : Nat × Nat} {rs : List ResultVar} {vs : List Value} (h : look E t = some (.pointer (some ⟨b, i, none⟩))) (ht : isAggT P ty = some false)
    (hs : Sees (fun w => St w0 w H) b (.cells l.toArray T fr)) (hv : l[i]? = some v) (hr : RV P w0 E H rs vs) : RV P w0 E H (.cell t ty :: rs) (v :: vs) :=
  ⟨⟨_, h, fun w hw => run_loadVar1 ht (hs w hw) hv⟩, hr⟩
theorem B_ret {rs : List ResultVar} {vs : List Value} {R : Ending → Hp → Prop} (hrv : RV P w0 E H rs vs) (hs : HSub H' H) (hR : R (.returned (pack vs)) H') : BodyQ P w0 rs R .ret E H := ⟨vs, H', hrv, hs, hR⟩
theorem B_end {rs : List ResultVar} {vs : List Value} {R : Ending → Hp → Prop} (hrv : RV P w0 E H rs vs) (hs : HSub H' H) (hR : R (.returned (pack vs)) H') : BodyQ P w0 rs R .normal E H := ⟨vs, H', hrv, hs, hR⟩
theorem wi64 {m : Int} (h0 : -9223372036854775808 ≤ m) (h1 : m ≤ 9223372036854775807) : IntKind.i64.wrap m = m := by rw [IntKind.wrap_i64]; omega
theorem slOk_none {sz len : Nat} {xs : List Value} (h : slOk sz none len xs) (hl : len ≠ 0) {α : Prop} : α := absurd h.2 hl
theorem Src.up {P : Program} {w0 : World} {H : Hp} {sz m : Nat} {v : Value} {vs : List Value} {X : List (Nat × Obj)} (h : Src P w0 H sz v m vs) : Src P w0 (X :: H) sz v m vs := h.sub (HSub.drop _ _)
theorem Sees.up {b : Nat} {o : Obj} {S : List (Nat × Obj)} (h : Sees (fun w => St w0 w H) b o) : Sees (fun w => St w0 w (S :: H)) b o := h.sub (HSub.drop S H)
/-- The same, for some ghost. -/
theorem C_cutG {ι : Type} {x y : Code} (G : ι → Prop) (Ec : ι → Env) (Hc : ι → Hp) (h : WpC P n w0 x (thenQ (fun E' H' => ∃ i, G i ∧ SubEnv (Ec i) E' ∧ HSub (Hc i) H') Q) E H)
    (hk : ∀ i, G i → WpC P n w0 y Q (Ec i) (Hc i)) : WpC P n w0 (.seq x y) Q E H :=
  C_cut _ h fun E H ⟨i, g, h1, h2⟩ => C_weaken h1 h2 (hk i g)
/-- A contract of a group of segments, used behind others. -/
theorem perm_mid (F A L : Hp) : (F ++ (A ++ L)).flatten.Perm (A ++ (F ++ L)).flatten := by
  simp only [List.flatten_append]
  rw [← List.append_assoc, ← List.append_assoc]
  exact List.perm_append_comm.append_right _
theorem FnS.mid {f : Nat} {args : Array Value} {A : Hp} {φ : Ending → Hp → Prop} (F L : Hp) (h : ∀ L, FnS P w0 f args (A ++ L) fun e H' => ∃ A', φ e A' ∧ H' = A' ++ L) :
    FnS P w0 f args (F ++ (A ++ L)) fun e H' => ∃ A', φ e A' ∧ H' = F ++ (A' ++ L) := fun w hw => by
  refine (h (F ++ L) w (HSub.of_perm (perm_mid F A L) w0 w hw)).mono ?_
  rintro e w' ⟨H', s, A', hφ, rfl⟩
  exact ⟨_, HSub.of_perm (perm_mid F A' L).symm w0 w' s, A', hφ, rfl⟩
theorem flatten_sublist : ∀ {H' H : Hp}, H'.Sublist H → H'.flatten.Sublist H.flatten
  | _, _, .slnil => List.Sublist.refl _
  | _, _, .cons S h => by simp only [List.flatten_cons]; exact (flatten_sublist h).trans (List.sublist_append_right _ _)
  | _, _, .cons_cons S h => by simp only [List.flatten_cons]; exact (List.Sublist.refl S).append (flatten_sublist h)
/-- Some segments are dropped. -/
theorem hsub {H' H : Hp} (h : H'.Sublist H) : HSub H' H := .of_sublist (List.Perm.refl _) (flatten_sublist h)
theorem FnS.weak {f : Nat} {args : Array Value} {R R' : Ending → Hp → Prop} (h : FnS P w0 f args H R) (hr : ∀ e H', R e H' → ∃ H2, HSub H2 H' ∧ R' e H2) : FnS P w0 f args H R' :=
  fun w hw => (h w hw).mono fun e w' ⟨H', s, r⟩ => let ⟨H2, hs, r2⟩ := hr e H' r; ⟨H2, hs w0 w' s, r2⟩
/-! ### Structs of whole numbers -/
def intFieldsT (P : Program) (t : TypeId) : Option (List IntKind) :=
  match P.underlying t with
  | some (.struct fs) => if (fs.toList.zipIdx.all fun p => p.1.name != "_" && p.1.offset == p.2) && !P.stoodInHeld t then fs.toList.mapM fun f => match P.underlying f.type with | some (.int k) => some k | _ => none else none
  | _ => none
def ints (ks : List IntKind) (xs : List Int) : List Value := List.zipWith Value.int ks xs
section
variable {x y : Operand} {ty t t2 : Nat}
end
/-- Segments that lie together may be told as one. -/
theorem hsub_flat {H H' : Hp} (h : H.flatten = H'.flatten) : HSub H' H := HSub.of_perm (by rw [h])
/-- What a contract says of a run. -/
theorem FnS.run {f : Nat} {args : Array Value} {R : Ending → Hp → Prop} (h : FnS P w0 f args [] R) : Calls P f args w0 fun e w' => Below w0.heap.size w0 w' ∧ ∃ H', R e H' :=
  (h w0 (St.start w0)).mono fun e w' ⟨H', s, r⟩ => ⟨s.below, H', r⟩
end Go.Sl

/- Facts of the translation's types, for the kernel (own work, by a program of this repo). -/
namespace Go.Proofs.Ytaeooiogjhkjfaa
open Go.Sl
theorem ag_1 : isAggT Try.prog 1 = some false := by kernel_rfl
theorem ag_111 : isAggT Try.prog 111 = some false := by kernel_rfl
theorem ag_114 : isAggT Try.prog 114 = some false := by kernel_rfl
theorem ag_142 : isAggT Try.prog 142 = some true := by kernel_rfl
theorem ag_24 : isAggT Try.prog 24 = some false := by kernel_rfl
theorem ag_3 : isAggT Try.prog 3 = some false := by kernel_rfl
theorem ag_38 : isAggT Try.prog 38 = some true := by kernel_rfl
theorem ag_4 : isAggT Try.prog 4 = some false := by kernel_rfl
theorem ag_43 : isAggT Try.prog 43 = some false := by kernel_rfl
theorem ag_5 : isAggT Try.prog 5 = some false := by kernel_rfl
theorem ag_53 : isAggT Try.prog 53 = some false := by kernel_rfl
theorem by_1 : byT Try.prog 1 = some 8 := by kernel_rfl
theorem by_142 : byT Try.prog 142 = some 136 := by kernel_rfl
theorem by_38 : byT Try.prog 38 = some 128 := by kernel_rfl
theorem eg_38 : Try.prog.eqGuardType Try.prog.depth 38 = false := by kernel_rfl
theorem fl_113_0 : fldT Try.prog 113 0 = some 0 := by kernel_rfl
theorem fl_113_1 : fldT Try.prog 113 1 = some 1 := by kernel_rfl
theorem fl_113_2 : fldT Try.prog 113 2 = some 2 := by kernel_rfl
theorem fl_113_3 : fldT Try.prog 113 3 = some 3 := by kernel_rfl
theorem fl_116_0 : fldT Try.prog 116 0 = some 0 := by kernel_rfl
theorem fl_116_1 : fldT Try.prog 116 1 = some 1 := by kernel_rfl
theorem fl_116_2 : fldT Try.prog 116 2 = some 2 := by kernel_rfl
theorem fl_116_3 : fldT Try.prog 116 3 = some 3 := by kernel_rfl
theorem fl_116_4 : fldT Try.prog 116 4 = some 4 := by kernel_rfl
theorem fl_116_5 : fldT Try.prog 116 5 = some 5 := by kernel_rfl
theorem fl_116_6 : fldT Try.prog 116 6 = some 6 := by kernel_rfl
theorem fl_142_0 : fldT Try.prog 142 0 = some 0 := by kernel_rfl
theorem fl_142_1 : fldT Try.prog 142 1 = some 1 := by kernel_rfl
theorem ni_111 : notIntT Try.prog 111 = true := by kernel_rfl
theorem ni_114 : notIntT Try.prog 114 = true := by kernel_rfl
theorem ni_43 : notIntT Try.prog 43 = true := by kernel_rfl
theorem pl_113 : placesT Try.prog 113 = some [(0, 1), (1, 1), (2, 1), (3, 1)] := by kernel_rfl
theorem pl_116 : placesT Try.prog 116 = some [(0, 1), (1, 1), (2, 1), (3, 1), (4, 1), (5, 1), (6, 1)] := by kernel_rfl
theorem pl_142 : placesT Try.prog 142 = some [(0, 1), (1, 128)] := by kernel_rfl
theorem sz_1 : szT Try.prog 1 = some 1 := by kernel_rfl
theorem sz_111 : szT Try.prog 111 = some 1 := by kernel_rfl
theorem sz_114 : szT Try.prog 114 = some 1 := by kernel_rfl
theorem sz_142 : szT Try.prog 142 = some 129 := by kernel_rfl
theorem sz_3 : szT Try.prog 3 = some 1 := by kernel_rfl
theorem sz_38 : szT Try.prog 38 = some 128 := by kernel_rfl
theorem sz_4 : szT Try.prog 4 = some 1 := by kernel_rfl
theorem sz_5 : szT Try.prog 5 = some 1 := by kernel_rfl
theorem sz_53 : szT Try.prog 53 = some 1 := by kernel_rfl
theorem zl_1 : zeroL Try.prog 1 = some ([.nilFunc]) := by kernel_rfl
theorem zl_113 : zeroL Try.prog 113 = some ([.bool false, .int .i64 0, .bool false, .slice none 0 0]) := by kernel_rfl
theorem zl_116 : zeroL Try.prog 116 = some ([.pointer none, .slice none 0 0, .slice none 0 0, .int .i64 0, .int .i64 0, .bool false, .bool false]) := by kernel_rfl
theorem zl_142 : zeroL Try.prog 142 = some ([.int .i64 0] ++ (List.replicate 128 (.int .u8 0))) := by kernel_rfl
theorem zl_38 : zeroL Try.prog 38 = some (List.replicate 128 (.int .u8 0)) := by kernel_rfl
theorem zl_53 : zeroL Try.prog 53 = some ([.int .i64 0]) := by kernel_rfl
end Go.Proofs.Ytaeooiogjhkjfaa

/- The copy of slices, and segments picked in another order (own work). -/
set_option linter.unusedVariables false
set_option linter.unusedSimpArgs false
namespace Go.Sl
variable {P : Program} {n : FN} {w0 : World} {Q : Post} {E E' : Env} {H H' HS : Hp} {W : World → Prop} {K : Env → Hp → Prop}
variable {d : Option Nat} {ty t t2 : Nat} {ps : String} {af : Array Edge} {g : Option (Nat × Bool)} {x y c : Operand}
def pick : List Nat → Hp → Hp
  | [], X => X
  | i :: is, X => match X[i]? with
    | some s => s :: pick is (X.eraseIdx i)
    | none => pick is X
theorem erase_perm {α : Type} : ∀ (X : List α) (i : Nat) (s : α), X[i]? = some s → X.Perm (s :: X.eraseIdx i)
  | [], _, _, h => by simp at h
  | x :: X, 0, s, h => by simp at h; subst h; exact .refl _
  | x :: X, i + 1, s, h => by
    simp only [List.getElem?_cons_succ] at h
    exact ((erase_perm X i s h).cons x).trans (.swap s x _)
theorem pick_perm : ∀ (is : List Nat) (X : Hp), X.Perm (pick is X)
  | [], X => .refl _
  | i :: is, X => by
    unfold pick
    cases h : X[i]? with
    | none => exact pick_perm is X
    | some s =>
      exact (erase_perm X i s h).trans ((pick_perm is _).cons _)
theorem hsub_pick {H' X : Hp} (is : List Nat) (e : pick is X = H') : HSub H' X := by
  subst e
  exact .of_perm (pick_perm is X).flatten
theorem op_copy {e m b off dl dc sl sc b2 off2 : Nat} {l l2 vs : List Value} {T T2 : TypeId} {fr : Nat × Nat} {t0 t1 : TypeId} (s j : Nat) (hx : ev E x = some (.slice (some ⟨b, off, none⟩) dl dc)) (hy : ev E y = some (.slice (some ⟨b2, off2, none⟩) sl sc))
    (hu : P.underlying t0 = some (.slice e)) (hz : szT P e = some m) (hs : Sees (fun w => St w0 w H) b2 (.cells l2.toArray T2 fr)) (hl2 : off2 + min sl dl * m ≤ l2.length) (hvs : (l2.drop off2).take (min sl dl * m) = vs)
    (hH : getH H s j = some (b, .cells l.toArray T)) (ho : ∀ v ∈ vs, one v = true) (hlen : off + min sl dl * m ≤ l.length) (hd : dok d n = true)
    (k : K (put E d (.int .i64 ((min sl dl : Nat) : Int))) (setH H s j (.cells (spl l off vs).toArray T))) :
    OpW P n w0 Q ⟨d, .call { callee := .builtin .copy, args := [x, y].toArray, argTypes := #[t0, t1] }, ty, ps, af, g⟩ E H K := op_run hd fun a w ha hw => by
  have h : w.heap[b]? = some (.cells l.toArray T (0, 0)) := hw.has _ (getH_mem hH)
  have hv : vs.length = min sl dl * m := by rw [← hvs]; simp; omega
  refine ⟨_, _, _, ?_, hw.putB hH _, k⟩
  have h1 := run_loadCells_at (P := P) (hs w hw) hl2
  rw [hvs] at h1
  have h2 := run_storeCells' (P := P) h ho (off := off) (by omega)
  have hev := evals (n := n) (E := E) ha (l := [x, y]) (vs := [.slice (some ⟨b, off, none⟩) dl dc, .slice (some ⟨b2, off2, none⟩) sl sc]) (by simp [hx, hy])
  have hr : (Builtin.copy_ #[t0, t1] ty #[.slice (some ⟨b, off, none⟩) dl dc, .slice (some ⟨b2, off2, none⟩) sl sc]).run P w = .ok (.int .i64 ((min sl dl : Nat) : Int)) (putB w b (.cells (spl l off vs).toArray T (0, 0))) := by
    have q0 : (#[t0, t1] : Array TypeId)[0]? = some t0 := rfl
    have q2 : (#[Value.slice (some ⟨b, off, none⟩) dl dc, .slice (some ⟨b2, off2, none⟩) sl sc] : Array Value)[0]? = some (.slice (some ⟨b, off, none⟩) dl dc) := rfl
    have q3 : (#[Value.slice (some ⟨b, off, none⟩) dl dc, .slice (some ⟨b2, off2, none⟩) sl sc] : Array Value)[1]? = some (.slice (some ⟨b2, off2, none⟩) sl sc) := rfl
    unfold Builtin.copy_
    simp only [q0, q2, q3]
    rw [Sem.run_bind, run_underlying hu]
    simp only [Result.andThen_ok]
    rw [Sem.run_bind, show (Builtin.lenOf (.slice (some ⟨b2, off2, none⟩) sl sc)).run P w = .ok sl w from rfl]
    simp only [Result.andThen_ok]
    rw [Sem.run_bind, run_sizeOf hz]
    simp only [Result.andThen_ok, Sem.run_bind, Builtin.firstCells]
    rw [show Nat.min sl dl * m = min sl dl * m from rfl, h1]
    simp only [Result.andThen_ok, h2, Sem.run_pure]
    rfl
  simp only [execOp, resolve, Sem.run_bind, Sem.run_pure, Result.andThen_ok, invoke, List.map_toArray, hev, builtin]
  rw [show (#[Value.slice (some ⟨b, off, none⟩) dl dc, .slice (some ⟨b2, off2, none⟩) sl sc] : Array Value) = [Value.slice (some ⟨b, off, none⟩) dl dc, .slice (some ⟨b2, off2, none⟩) sl sc].toArray from rfl] at hr
  rw [hr]
  rfl
theorem y_lenV {sz m e : Nat} {gs : Option SlG} {xs : List Value} {tys : Array TypeId} (hok : slOk sz gs m xs) (hx : ev E x = some (slV gs m)) (h0 : tys[0]? = some t) (hu : P.underlying t = some (.slice e)) :
    YV P n E W (.call { callee := .builtin .len, args := [x].toArray, argTypes := tys }) ty (.int .i64 m) := by
  cases gs with
  | none => obtain rfl : m = 0 := hok.2; exact y_lenS hx h0 hu
  | some g => exact y_lenS hx h0 hu
theorem spl_all {l vs : List Value} (h : l.length = vs.length) : spl l 0 vs = vs := by
  rw [spl_eq vs l 0 (by omega)]
  simp [h]
/-- A store of a whole block. -/
theorem op_storeA {b m : Nat} {v : Value} {vs l : List Value} {T : TypeId} (s j : Nat) (hx : ev E x = some (.pointer (some ⟨b, 0, none⟩))) (hy : ev E y = some v) (hv : v.cells = vs.toArray) (hz : szT P t = some m) (hm : vs.length = m)
    (hH : getH H s j = some (b, .cells l.toArray T)) (ho : ∀ v ∈ vs, one v = true) (hlen : l.length = m) (k : K E (setH H s j (.cells vs.toArray T))) :
    OpW P n w0 Q ⟨none, .store t x y, ty, ps, af, g⟩ E H K :=
  op_store s j hx hy hv hz hm hH ho (by omega) (by rw [spl_all (by omega)]; exact k)
theorem bs_whole (u : List UInt8) {k : Nat} (h : u.length = k) : (bs u).take k = bs u := List.take_of_length_le (by rw [bs_length]; omega)
theorem bs_whole0 (u : List UInt8) {k : Nat} (h : u.length = k) : ((bs u).drop 0).take k = bs u := by rw [List.drop_zero, bs_whole u h]
theorem ret_bool {b b' : Bool} (h : b = b') : Ending.returned (.bool b) = .returned (.bool b') := by rw [h]
theorem ret_int {k : IntKind} {b b' : Int} (h : b = b') : Ending.returned (.int k b) = .returned (.int k b') := by rw [h]
/-- What a slice holds. -/
def Holds (w0 : World) (H : Hp) (a : Option Addr) (vs : List Value) : Prop :=
  0 < vs.length → ∃ (b off : Nat) (l : List Value) (T : TypeId) (fr : Nat × Nat), a = some ⟨b, off, none⟩ ∧ Sees (fun w => St w0 w H) b (.cells l.toArray T fr) ∧ off + vs.length ≤ l.length ∧ (l.drop off).take vs.length = vs
theorem Holds.sub {H' : Hp} {a : Option Addr} {vs : List Value} (h : Holds w0 H' a vs) (hs : HSub H' H) : Holds w0 H a vs := fun hp => by
  obtain ⟨b, off, l, T, fr, h1, h2, h3, h4⟩ := h hp
  exact ⟨b, off, l, T, fr, h1, h2.sub hs, h3, h4⟩
theorem Holds.up {a : Option Addr} {vs : List Value} {X : List (Nat × Obj)} (h : Holds w0 H a vs) : Holds w0 (X :: H) a vs := h.sub (HSub.drop _ _)
theorem holds_sl {sz e s len : Nat} {g : Option SlG} {vs : List Value} (hs : H[s]? = some (slSeg e g vs)) (hok : slOk sz g len vs) : ∃ a cap, slV g len = .slice a len cap ∧ Holds w0 H a vs := by
  cases g with
  | none =>
    obtain ⟨h1, rfl⟩ := hok
    exact ⟨none, 0, rfl, fun hp => by rw [Nat.zero_mul] at h1; omega⟩
  | some g =>
    refine ⟨_, _, rfl, fun hp => ⟨g.b, 0, vs ++ g.sp, e, (0, 0), rfl, ?_, by simp, by simp⟩⟩
    exact sees_mem (List.mem_flatten.2 ⟨_, List.mem_of_getElem? hs, by simp [slSeg]⟩)
theorem holds_slice {b off : Nat} {l vs : List Value} {T : TypeId} {fr : Nat × Nat} (hs : Sees (fun w => St w0 w H) b (.cells l.toArray T fr)) (hl : off + vs.length ≤ l.length) (hv : (l.drop off).take vs.length = vs) : Holds w0 H (some ⟨b, off, none⟩) vs :=
  fun _ => ⟨b, off, l, T, fr, rfl, hs, hl, hv⟩
theorem hsub_nil1 {a : List (Nat × Obj)} {r : Hp} : HSub (a :: [] :: r) (a :: r) := hsub_flat rfl
theorem hsub_nil2 {a b : List (Nat × Obj)} {r : Hp} : HSub (a :: b :: [] :: r) (a :: b :: r) := hsub_flat rfl
end Go.Sl

/- Interfaces, methods called through them, strings told as bytes, and maps of numbers to true (own work). -/
set_option linter.unusedVariables false
set_option linter.unusedSimpArgs false
namespace Go.Sl
variable {P : Program} {n : FN} {w0 : World} {Q : Post} {E E' : Env} {H H' HS : Hp} {W : World → Prop} {K : Env → Hp → Prop}
variable {d : Option Nat} {ty t t2 : Nat} {ps : String} {af : Array Edge} {g : Option (Nat × Bool)} {x y c : Operand}
/-! ### Interfaces -/
def concT (P : Program) (t : TypeId) : Bool := match P.underlying t with | some (.interface _) => false | some _ => true | none => false
def ifcT (P : Program) (t : TypeId) : Bool := match P.underlying t with | some (.interface _) => true | _ => false
/-! ### Methods -/
def methT (P : Program) (t : TypeId) (name : String) : Option (FuncId × Bool) := ((P.info? t).bind fun i => i.methods.find? (·.name == name)).bind fun m => if m.path.isEmpty then m.func else none
/-- Is the receiver handed on as it is? -/
def recvT (P : Program) (t : TypeId) (p : Bool) : Bool := match P.underlying t, p with
  | some (.pointer _), p => p
  | some _, p => !p
  | none, _ => false
/-! ### Strings told as bytes -/
/-! ### A copy from whatever may be read -/
/-- A slice value that holds bytes. -/
def SlH (w0 : World) (H : Hp) (v : Value) (u : List UInt8) : Prop := ∃ a cap, v = .slice a u.length cap ∧ Holds w0 H a (bs u)
theorem SlH.len {v : Value} {u : List UInt8} (h : SlH w0 H v u) : ∃ a cap, v = .slice a u.length cap := by
  obtain ⟨a, cap, e, _⟩ := h
  exact ⟨a, cap, e⟩
/-! ### Maps of numbers to true -/
def me (x : Int × Nat) : MapEntry := { key := .int .i64 x.1, val := .bool true, born := x.2 }
abbrev mapO (ks : List (Int × Nat)) (c : Nat) : Obj := .map (ks.map me).toArray c
def kHas (ks : List (Int × Nat)) (k : Int) : Bool := ks.any (·.1 == k)
def kPut (ks : List (Int × Nat)) (c : Nat) (k : Int) : List (Int × Nat) := if kHas ks k then ks else ks ++ [(k, c)]
def kClk (ks : List (Int × Nat)) (c : Nat) (k : Int) : Nat := if kHas ks k then c else c + 1
def kDel (ks : List (Int × Nat)) (k : Int) : List (Int × Nat) := match ks.findIdx? (·.1 == k) with | some i => ks.eraseIdx i | none => ks
end Go.Sl

/- Facts of the translation's types, for the kernel (own work, by a program of this repo). -/
namespace Go.Proofs.Ytaeooiogjhkjfaa
open Go.Sl
theorem ag_148 : isAggT Try.prog 148 = some true := by kernel_rfl
theorem ag_27 : isAggT Try.prog 27 = some false := by kernel_rfl
theorem ag_30 : isAggT Try.prog 30 = some false := by kernel_rfl
theorem ag_33 : isAggT Try.prog 33 = some false := by kernel_rfl
theorem ag_36 : isAggT Try.prog 36 = some true := by kernel_rfl
theorem ag_44 : isAggT Try.prog 44 = some false := by kernel_rfl
theorem by_148 : byT Try.prog 148 = some 136 := by kernel_rfl
theorem by_33 : byT Try.prog 33 = some 8 := by kernel_rfl
theorem fl_148_0 : fldT Try.prog 148 0 = some 0 := by kernel_rfl
theorem fl_148_1 : fldT Try.prog 148 1 = some 1 := by kernel_rfl
theorem fl_29_0 : fldT Try.prog 29 0 = some 0 := by kernel_rfl
theorem fl_29_1 : fldT Try.prog 29 1 = some 1 := by kernel_rfl
theorem fl_29_2 : fldT Try.prog 29 2 = some 2 := by kernel_rfl
theorem fl_36_0 : fldT Try.prog 36 0 = some 0 := by kernel_rfl
theorem fl_36_1 : fldT Try.prog 36 1 = some 1 := by kernel_rfl
theorem fl_36_2 : fldT Try.prog 36 2 = some 2 := by kernel_rfl
theorem fl_36_3 : fldT Try.prog 36 3 = some 3 := by kernel_rfl
theorem fl_36_4 : fldT Try.prog 36 4 = some 4 := by kernel_rfl
theorem fl_46_0 : fldT Try.prog 46 0 = some 0 := by kernel_rfl
theorem fl_46_1 : fldT Try.prog 46 1 = some 1 := by kernel_rfl
theorem fl_46_2 : fldT Try.prog 46 2 = some 2 := by kernel_rfl
theorem fl_46_3 : fldT Try.prog 46 3 = some 3 := by kernel_rfl
theorem fl_46_4 : fldT Try.prog 46 4 = some 4 := by kernel_rfl
theorem fl_46_5 : fldT Try.prog 46 5 = some 5 := by kernel_rfl
theorem ni_27 : notIntT Try.prog 27 = true := by kernel_rfl
theorem ni_44 : notIntT Try.prog 44 = true := by kernel_rfl
theorem pl_148 : placesT Try.prog 148 = some [(0, 1), (1, 128)] := by kernel_rfl
theorem pl_29 : placesT Try.prog 29 = some [(0, 1), (1, 1), (2, 1)] := by kernel_rfl
theorem pl_46 : placesT Try.prog 46 = some [(0, 1), (1, 1), (2, 1), (3, 1), (4, 1), (5, 1)] := by kernel_rfl
theorem sz_148 : szT Try.prog 148 = some 129 := by kernel_rfl
theorem sz_27 : szT Try.prog 27 = some 1 := by kernel_rfl
theorem sz_30 : szT Try.prog 30 = some 1 := by kernel_rfl
theorem sz_33 : szT Try.prog 33 = some 1 := by kernel_rfl
theorem sz_36 : szT Try.prog 36 = some 5 := by kernel_rfl
theorem sz_44 : szT Try.prog 44 = some 1 := by kernel_rfl
theorem zl_148 : zeroL Try.prog 148 = some ([.int .i64 0] ++ (List.replicate 128 (.int .u8 0))) := by kernel_rfl
theorem zl_29 : zeroL Try.prog 29 = some ([.slice none 0 0, .bool false, .int .i64 0]) := by kernel_rfl
theorem zl_30 : zeroL Try.prog 30 = some ([.pointer none]) := by kernel_rfl
theorem zl_33 : zeroL Try.prog 33 = some ([.pointer none]) := by kernel_rfl
theorem zl_46 : zeroL Try.prog 46 = some ([.slice none 0 0, .slice none 0 0, .int .i64 0, .int .i64 0, .bool false, .bool false]) := by kernel_rfl
end Go.Proofs.Ytaeooiogjhkjfaa

/- Devices and their power: what lies in memory, and the plain model (own work). -/
set_option linter.unusedVariables false
set_option linter.unusedSimpArgs false
namespace Go.Sl
/-- The seat's own numbers of the types, and of the method 'cut'. -/
structure DT where
  dev : Nat
  sec : Nat
  wr : Nat
  fn : Nat
  pow : Nat
  cut : Nat
abbrev ptr (b : Nat) : Value := .pointer (some ⟨b, 0, none⟩)
abbrev Sec := List UInt8
/-- What a device is. -/
structure Ab where
  S : List Sec
  Q : List (Nat × Sec)
  kept : Nat
  bytes : Nat
  lies : Bool
  out : Bool
structure Dv where
  b : Nat
  st : Nat
  pw : Nat
  g : Option SlG
  a : Ab
structure Pa where
  off : Bool
  left : Int
  fails : Bool
structure Pw where
  b : Nat
  g : Option SlG
  devs : List Nat
  a : Pa
theorem one_slV (g : Option SlG) (k : Nat) : one (slV g k) = true := by cases g <;> rfl
def wcs (Q : List (Nat × Sec)) : List Value := Q.flatMap fun x => .int .i64 (x.1 : Int) :: bs x.2
def clos (t : DT) (b : Nat) : Value := .func (.func t.cut) #[ptr b] #[]
abbrev Dv.cells (d : Dv) : List Value := [ptr d.pw, .slice (some ⟨d.st, 0, none⟩) d.a.S.length d.a.S.length, slV d.g d.a.Q.length, .int .i64 (d.a.kept : Int), .int .i64 (d.a.bytes : Int), .bool d.a.lies, .bool d.a.out]
abbrev Dv.o (t : DT) (d : Dv) : List (Nat × Obj) := [(d.b, .cells d.cells.toArray t.dev)]
abbrev Dv.t (t : DT) (d : Dv) : List (Nat × Obj) := [(d.st, .cells (bs d.a.S.flatten).toArray t.sec)]
abbrev Dv.q (t : DT) (d : Dv) : List (Nat × Obj) := slSeg t.wr d.g (wcs d.a.Q)
abbrev Dv.segs (t : DT) (d : Dv) : Hp := [d.o t, d.t t, d.q t]
abbrev Pw.cells (p : Pw) : List Value := [.bool p.a.off, .int .i64 p.a.left, .bool p.a.fails, slV p.g p.devs.length]
abbrev Pw.o (t : DT) (p : Pw) : List (Nat × Obj) := [(p.b, .cells p.cells.toArray t.pow)]
abbrev Pw.q (t : DT) (p : Pw) : List (Nat × Obj) := slSeg t.fn p.g (p.devs.map (clos t))
/-! ### The model -/
def Ab.ok (a : Ab) : Prop := (∀ s ∈ a.S, s.length = 128) ∧ a.S.length ≤ 4096 ∧ (∀ x ∈ a.Q, x.1 < a.S.length ∧ x.2.length = 128) ∧ a.bytes ≤ 128
def Dv.ok (d : Dv) : Prop := d.a.ok ∧ slOk 129 d.g d.a.Q.length (wcs d.a.Q) ∧ d.a.Q.length ≤ 100000
def Pw.ok (t : DT) (p : Pw) : Prop := slOk 1 p.g p.devs.length (p.devs.map (clos t)) ∧ p.a.left ≤ 9223372036854775807
/-- What a failure makes of one write that waits. -/
def cut1 (a : Ab) (i : Nat) (x : Nat × Sec) (S : List Sec) : List Sec :=
  if i < a.kept then S.set x.1 x.2 else if i = a.kept then S.set x.1 (x.2.take a.bytes ++ (S.getD x.1 []).drop a.bytes) else S
def cutN (a : Ab) : Nat → List Sec
  | 0 => a.S
  | i + 1 => match a.Q[i]? with | none => cutN a i | some x => cut1 a i x (cutN a i)
def flushN (a : Ab) : Nat → List Sec
  | 0 => a.S
  | i + 1 => match a.Q[i]? with | none => flushN a i | some x => (flushN a i).set x.1 x.2
def Ab.cut (a : Ab) : Ab := if a.out then a else { a with S := cutN a a.Q.length, Q := [] }
def Ab.flush (a : Ab) : Ab := if a.lies then a else { a with S := flushN a a.Q.length, Q := [] }
def Dv.cut (d : Dv) : Dv := if d.a.out then d else { d with g := none, a := d.a.cut }
/-- Does power fail at the next operation? -/
def Pa.falls (p : Pa) : Bool := p.fails && decide (p.left ≤ 0)
def Pa.step (p : Pa) : Pa := if p.fails then if p.left ≤ 0 then { p with off := true, fails := false } else { p with left := p.left - 1 } else p
def Pw.step (p : Pw) : Pw := { p with a := p.a.step }
def Dv.step (p : Pa) (d : Dv) : Dv := if p.falls then d.cut else d
/-! ### Plain laws -/
theorem flat_len {S : List Sec} (h : ∀ s ∈ S, s.length = 128) : S.flatten.length = S.length * 128 := by
  induction S with
  | nil => rfl
  | cons s S ih => simp only [List.flatten_cons, List.length_append, List.length_cons, ih (fun s hs => h s (by simp [hs])), h s (by simp)]; omega
theorem flat_drop : ∀ {S : List Sec} (n : Nat), (∀ s ∈ S, s.length = 128) → S.flatten.drop (n * 128) = (S.drop n).flatten
  | [], n, h => by simp
  | s :: S, 0, h => by simp
  | s :: S, n + 1, h => by
    rw [List.flatten_cons, List.drop_succ_cons, ← flat_drop n (fun s hs => h s (by simp [hs])), List.drop_append, h s (by simp), List.drop_of_length_le (by rw [h s (by simp)]; omega), List.nil_append, show (n + 1) * 128 - 128 = n * 128 by omega]
theorem flat_sec {S : List Sec} {n : Nat} {s : Sec} (h : ∀ s ∈ S, s.length = 128) (hn : S[n]? = some s) : (S.flatten.drop (n * 128)).take 128 = s := by
  obtain ⟨hl, rfl⟩ := List.getElem?_eq_some_iff.1 hn
  rw [flat_drop n h, List.drop_eq_getElem_cons hl, List.flatten_cons, List.take_left' (h _ (List.getElem_mem hl))]
theorem flat_take {S : List Sec} (n : Nat) (h : ∀ s ∈ S, s.length = 128) (hn : n ≤ S.length) : S.flatten.take (n * 128) = (S.take n).flatten := by
  have e : S.flatten = (S.take n).flatten ++ (S.drop n).flatten := by rw [← List.flatten_append, List.take_append_drop]
  have l := flat_len (S := S.take n) (fun s hs => h s (List.mem_of_mem_take hs))
  rw [e, List.take_left' (by rw [l]; simp; omega)]
theorem flat_next {S : List Sec} (n : Nat) (h : ∀ s ∈ S, s.length = 128) : S.flatten.drop (n * 128 + 128) = (S.drop (n + 1)).flatten := by
  rw [show n * 128 + 128 = (n + 1) * 128 by omega, flat_drop _ h]
theorem flat_set {S : List Sec} {n : Nat} {s : Sec} (h : ∀ s ∈ S, s.length = 128) (hn : n < S.length) : (S.set n s).flatten = S.flatten.take (n * 128) ++ s ++ S.flatten.drop (n * 128 + 128) := by
  rw [flat_take n h (by omega), flat_next n h, List.set_eq_take_append_cons_drop, if_pos hn]
  simp
theorem flat_spl {S : List Sec} {n : Nat} {s : Sec} (h : ∀ s ∈ S, s.length = 128) (hn : n < S.length) (hs : s.length = 128) : spl (bs S.flatten) (n * 128) (bs s) = bs (S.set n s).flatten := by
  have := flat_len h
  rw [spl_bs (by omega), flat_set h hn, hs]
/-- The first bytes of a sector. -/
theorem flat_torn {S : List Sec} {n k : Nat} {s o : Sec} (h : ∀ s ∈ S, s.length = 128) (hn : S[n]? = some o) (hs : s.length = 128) (hk : k ≤ 128) : spl (bs S.flatten) (n * 128) (bs (s.take k)) = bs (S.set n (s.take k ++ o.drop k)).flatten := by
  obtain ⟨hl, rfl⟩ := List.getElem?_eq_some_iff.1 hn
  have hlen := flat_len h
  have ho := h _ (List.getElem_mem hl)
  have hk2 : (s.take k).length = k := by simp; omega
  rw [spl_bs (by rw [hk2, hlen]; omega), flat_set h hl, hk2]
  have e : S.flatten.drop (n * 128 + k) = (S[n]).drop k ++ S.flatten.drop (n * 128 + 128) := by
    rw [← List.drop_drop, flat_drop n h, List.drop_eq_getElem_cons hl, List.flatten_cons, List.drop_append_of_le_length (by omega), flat_next n h]
  rw [e]
  simp
theorem flat_byte {S : List Sec} {n i : Nat} {s : Sec} {v : UInt8} (h : ∀ s ∈ S, s.length = 128) (hn : S[n]? = some s) (hi : i < 128) : S.flatten.set (n * 128 + i) v = (S.set n (s.set i v)).flatten := by
  obtain ⟨hl, rfl⟩ := List.getElem?_eq_some_iff.1 hn
  have hlen := flat_len h
  have ho := h _ (List.getElem_mem hl)
  rw [flat_set h hl]
  have e : S.flatten = S.flatten.take (n * 128) ++ (S[n] ++ S.flatten.drop (n * 128 + 128)) := by
    conv => lhs; rw [← List.take_append_drop (n * 128) S.flatten]
    congr 1
    rw [flat_drop n h, flat_next n h, List.drop_eq_getElem_cons hl, List.flatten_cons]
  have ht : (S.flatten.take (n * 128)).length = n * 128 := by rw [List.length_take, hlen]; omega
  conv => lhs; rw [e]
  rw [List.set_append_right _ _ (by omega), List.set_append_left _ _ (by omega), List.append_assoc, ht]
  congr 3
  omega
theorem set_ok {S : List Sec} {n : Nat} {s : Sec} (h : ∀ s ∈ S, s.length = 128) (hs : s.length = 128) : ∀ x ∈ S.set n s, x.length = 128 := fun x hx => by
  rcases List.mem_or_eq_of_mem_set hx with h1 | rfl
  · exact h x h1
  · exact hs
theorem wcs_len {Q : List (Nat × Sec)} (h : ∀ x ∈ Q, x.2.length = 128) : (wcs Q).length = Q.length * 129 := by
  induction Q with
  | nil => rfl
  | cons x Q ih =>
    have := ih (fun x hx => h x (by simp [hx]))
    simp only [wcs, List.flatMap_cons, List.length_append, List.length_cons, bs_length, h x (by simp)] at this ⊢
    omega
theorem wcs_append (Q R : List (Nat × Sec)) : wcs (Q ++ R) = wcs Q ++ wcs R := by simp [wcs]
theorem wcs_one (n : Nat) (s : Sec) : wcs [(n, s)] = .int .i64 (n : Int) :: bs s := by simp [wcs]
theorem wcs_get : ∀ {Q : List (Nat × Sec)} {i : Nat} {x : Nat × Sec} (sp : List Value), (∀ x ∈ Q, x.2.length = 128) → Q[i]? = some x → ((wcs Q ++ sp).drop (i * 129)).take 129 = .int .i64 (x.1 : Int) :: bs x.2
  | [], i, x, sp, h, hi => by simp at hi
  | y :: Q, 0, x, sp, h, hi => by
    simp at hi; subst hi
    simp only [wcs, List.flatMap_cons, Nat.zero_mul, List.drop_zero, List.append_assoc]
    rw [List.take_left' (by simp [bs_length, h y (by simp)])]
  | y :: Q, i + 1, x, sp, h, hi => by
    simp only [List.getElem?_cons_succ] at hi
    have := wcs_get sp (fun x hx => h x (by simp [hx])) hi
    rw [← this]
    simp only [wcs, List.flatMap_cons, List.append_assoc]
    rw [show (i + 1) * 129 = 129 + i * 129 by omega, ← List.drop_drop, List.drop_left' (by simp [bs_length, h y (by simp)])]
theorem cut1_ok {a : Ab} (h : a.ok) {i : Nat} {x : Nat × Sec} (hx : x ∈ a.Q) {S : List Sec} (hS : ∀ s ∈ S, s.length = 128) (hl : S.length = a.S.length) : (∀ s ∈ cut1 a i x S, s.length = 128) ∧ (cut1 a i x S).length = a.S.length := by
  obtain ⟨h1, h2, h3, h4⟩ := h
  have hx2 := h3 x hx
  unfold cut1
  split
  · exact ⟨set_ok hS hx2.2, by simpa using hl⟩
  · split
    · refine ⟨set_ok hS ?_, by simpa using hl⟩
      have hlt : x.1 < S.length := by omega
      rw [show S.getD x.1 [] = S[x.1] from by simp [List.getD, hlt]]
      have := hS _ (List.getElem_mem hlt)
      simp; omega
    · exact ⟨hS, hl⟩
theorem cutN_ok {a : Ab} (h : a.ok) : ∀ i, (∀ s ∈ cutN a i, s.length = 128) ∧ (cutN a i).length = a.S.length
  | 0 => ⟨h.1, rfl⟩
  | i + 1 => by
    obtain ⟨h1, h2⟩ := cutN_ok h i
    unfold cutN
    split
    · exact ⟨h1, h2⟩
    · rename_i x hx
      exact cut1_ok h (List.mem_of_getElem? hx) h1 h2
theorem flushN_ok {a : Ab} (h : a.ok) : ∀ i, (∀ s ∈ flushN a i, s.length = 128) ∧ (flushN a i).length = a.S.length
  | 0 => ⟨h.1, rfl⟩
  | i + 1 => by
    obtain ⟨h1, h2⟩ := flushN_ok h i
    unfold flushN
    split
    · exact ⟨h1, h2⟩
    · rename_i x hx
      exact ⟨set_ok h1 (h.2.2.1 _ (List.mem_of_getElem? hx)).2, by simpa using h2⟩
theorem Ab.cut_ok {a : Ab} (h : a.ok) : a.cut.ok := by
  unfold Ab.cut
  split
  · exact h
  · obtain ⟨h1, h2⟩ := cutN_ok h a.Q.length
    exact ⟨h1, by have := h.2.1; simp only; omega, fun x hx => by simp at hx, h.2.2.2⟩
theorem Ab.flush_ok {a : Ab} (h : a.ok) : a.flush.ok := by
  unfold Ab.flush
  split
  · exact h
  · obtain ⟨h1, h2⟩ := flushN_ok h a.Q.length
    exact ⟨h1, by have := h.2.1; simp only; omega, fun x hx => by simp at hx, h.2.2.2⟩
theorem Dv.cut_ok {d : Dv} (h : d.ok) : d.cut.ok := by
  unfold Dv.cut
  split
  · exact h
  · rename_i ho
    refine ⟨Ab.cut_ok h.1, ?_⟩
    simp only [Ab.cut, ho, Bool.false_eq_true, if_false]
    exact ⟨⟨by simp [wcs], rfl⟩, by simp⟩
theorem Dv.cut_b (d : Dv) : d.cut.b = d.b := by unfold Dv.cut; split <;> rfl
theorem Dv.cut_pw (d : Dv) : d.cut.pw = d.pw := by unfold Dv.cut; split <;> rfl
theorem Dv.cut_a (d : Dv) : d.cut.a = d.a.cut := by
  unfold Dv.cut Ab.cut; split <;> simp_all
theorem Dv.step_ok {d : Dv} {p : Pa} (h : d.ok) : (d.step p).ok := by unfold Dv.step; split; exact Dv.cut_ok h; exact h
theorem Dv.step_b (d : Dv) (p : Pa) : (d.step p).b = d.b := by unfold Dv.step; split; exact d.cut_b; rfl
theorem Dv.step_pw (d : Dv) (p : Pa) : (d.step p).pw = d.pw := by unfold Dv.step; split; exact d.cut_pw; rfl
def Ab.tear (a : Ab) (k m : Int) : Ab := { a with kept := (max k 0).toNat, bytes := (min (max m 0) 128).toNat }
theorem Ab.tear_ok {a : Ab} {k m : Int} (h : a.ok) : (a.tear k m).ok := ⟨h.1, h.2.1, h.2.2.1, by simp only [Ab.tear]; omega⟩
def Pa.fail (p : Pa) (n : Int) : Pa := { p with left := n, fails := decide (0 ≤ n) }
def Pa.restart (p : Pa) : Pa := { p with off := false, fails := false }
theorem cutN_s1 {a : Ab} {i : Nat} {x : Nat × Sec} (hx : a.Q[i]? = some x) (h : i < a.kept) : cutN a (i + 1) = (cutN a i).set x.1 x.2 := by
  show (match a.Q[i]? with | none => cutN a i | some x => cut1 a i x (cutN a i)) = _
  rw [hx]; simp [cut1, h]
theorem cutN_s2 {a : Ab} {i : Nat} {x : Nat × Sec} (hx : a.Q[i]? = some x) (h : i = a.kept) : cutN a (i + 1) = (cutN a i).set x.1 (x.2.take a.bytes ++ ((cutN a i).getD x.1 []).drop a.bytes) := by
  show (match a.Q[i]? with | none => cutN a i | some x => cut1 a i x (cutN a i)) = _
  rw [hx]; simp [cut1, h]
theorem cutN_s3 {a : Ab} {i : Nat} {x : Nat × Sec} (hx : a.Q[i]? = some x) (h : ¬ i < a.kept) (h2 : ¬ i = a.kept) : cutN a (i + 1) = cutN a i := by
  show (match a.Q[i]? with | none => cutN a i | some x => cut1 a i x (cutN a i)) = _
  rw [hx]; simp [cut1, h, h2]
theorem flushN_s {a : Ab} {i : Nat} {x : Nat × Sec} (hx : a.Q[i]? = some x) : flushN a (i + 1) = (flushN a i).set x.1 x.2 := by
  show (match a.Q[i]? with | none => flushN a i | some x => (flushN a i).set x.1 x.2) = _
  rw [hx]
theorem Dv.cut_segs (t : DT) {b st pw : Nat} {g : Option SlG} {a : Ab} (h : a.ok) (ho : a.out = false) : (Dv.cut ⟨b, st, pw, g, a⟩).o t = [(b, .cells #[ptr pw, .slice (some ⟨st, 0, none⟩) a.S.length a.S.length, .slice none 0 0, .int .i64 (a.kept : Int), .int .i64 (a.bytes : Int), .bool a.lies, .bool a.out] t.dev)] ∧
    (Dv.cut ⟨b, st, pw, g, a⟩).t t = [(st, .cells (bs (cutN a a.Q.length).flatten).toArray t.sec)] ∧ (Dv.cut ⟨b, st, pw, g, a⟩).q t = [] := by
  have := (cutN_ok h a.Q.length).2
  simp [Dv.cut, Dv.o, Dv.t, Dv.q, Dv.cells, Ab.cut, ho, this, slV, slSeg]
theorem one_wr (n : Nat) (s : Sec) : ∀ v ∈ Value.int .i64 (n : Int) :: bs s, one v = true := fun v hv => by
  rcases List.mem_cons.1 hv with rfl | h
  · rfl
  · exact bs_one _ v h
theorem HSub.same {H' H : Hp} (h : H' = H) : HSub H' H := h ▸ HSub.refl _
def cutTo (A : List Dv) (i : Nat) : List Dv := (A.take i).map Dv.cut ++ A.drop i
theorem cutTo_split (t : DT) {A : List Dv} {i : Nat} {x : Dv} (hx : A[i]? = some x) (po pq : List (Nat × Obj)) (H : Hp) :
    po :: pq :: ((cutTo A i).flatMap (Dv.segs t) ++ H) = (po :: pq :: ((A.take i).map Dv.cut).flatMap (Dv.segs t)) ++ ([x.o t, x.t t, x.q t] ++ ((A.drop (i + 1)).flatMap (Dv.segs t) ++ H)) := by
  obtain ⟨hi, rfl⟩ := List.getElem?_eq_some_iff.1 hx
  rw [cutTo, List.drop_eq_getElem_cons hi]
  simp only [List.flatMap_append, List.flatMap_cons, List.map_append, List.map_cons, List.map_nil, List.cons_append, List.append_assoc, List.nil_append, List.flatMap_nil, List.append_nil]
theorem cutTo_join (t : DT) {A : List Dv} {i : Nat} {x : Dv} (hx : A[i]? = some x) (po pq : List (Nat × Obj)) (H : Hp) :
    (po :: pq :: ((A.take i).map Dv.cut).flatMap (Dv.segs t)) ++ ([x.cut.o t, x.cut.t t, x.cut.q t] ++ ((A.drop (i + 1)).flatMap (Dv.segs t) ++ H)) = po :: pq :: ((cutTo A (i + 1)).flatMap (Dv.segs t) ++ H) := by
  obtain ⟨hi, rfl⟩ := List.getElem?_eq_some_iff.1 hx
  rw [cutTo, List.take_succ_eq_append_getElem hi]
  simp only [List.flatMap_append, List.flatMap_cons, List.map_append, List.map_cons, List.map_nil, List.cons_append, List.append_assoc, List.nil_append, List.flatMap_nil, List.append_nil]
theorem cutTo_all (A : List Dv) : cutTo A A.length = A.map Dv.cut := by simp [cutTo]
theorem step_map {A : List Dv} {p : Pa} (h : p.falls = true) : A.map (Dv.step p) = A.map Dv.cut := by
  apply List.map_congr_left; intro d _; simp [Dv.step, h]
theorem step_map0 {A : List Dv} {p : Pa} (h : p.falls = false) : A.map (Dv.step p) = A := by
  rw [show (Dv.step p) = id from funext fun d => by simp [Dv.step, h]]; simp
/-- The device in hand, ahead. -/
theorem open_perm (t : DT) (L R : List Dv) (d : Dv) (po pq : List (Nat × Obj)) (H : Hp) : (po :: pq :: ((L ++ d :: R).flatMap (Dv.segs t) ++ H)).Perm (d.o t :: d.t t :: d.q t :: po :: pq :: ((L ++ R).flatMap (Dv.segs t) ++ H)) := by
  have : (po :: pq :: ((L ++ d :: R).flatMap (Dv.segs t) ++ H)) = (po :: pq :: L.flatMap (Dv.segs t)) ++ ([d.o t, d.t t, d.q t] ++ (R.flatMap (Dv.segs t) ++ H)) := by simp [List.flatMap_append, Dv.segs]
  rw [this]
  refine (List.perm_append_comm_assoc _ _ _).trans ?_
  simp [List.flatMap_append]
theorem mem_segs (t : DT) {A : List Dv} {d : Dv} (h : d ∈ A) (po pq : List (Nat × Obj)) (H : Hp) : (d.b, Obj.cells d.cells.toArray t.dev) ∈ (po :: pq :: (A.flatMap (Dv.segs t) ++ H)).flatten := by
  simp only [List.mem_flatten]
  refine ⟨d.o t, ?_, by simp⟩
  simp only [List.mem_cons, List.mem_append, List.mem_flatMap]
  exact .inr (.inr (.inl ⟨d, h, by simp [Dv.segs]⟩))
/-- A device in hand, its power, and the power's other devices. -/
abbrev opn (t : DT) (d : Dv) (p : Pw) (O : List Dv) (H : Hp) : Hp := d.o t :: d.t t :: d.q t :: p.o t :: p.q t :: (O.flatMap (Dv.segs t) ++ H)
structure GOk (t : DT) (p : Pw) (L : List Dv) (d : Dv) (R : List Dv) : Prop where
  pws : ∀ x ∈ L ++ d :: R, p.b = x.pw
  devs : p.devs = (L ++ d :: R).map (·.b)
  all : ∀ x ∈ L ++ d :: R, x.ok
  pok : p.ok t
  len : (L ++ d :: R).length ≤ 1000
theorem Pw.step_ok {t : DT} {p : Pw} (h : p.ok t) : p.step.ok t := by
  refine ⟨h.1, ?_⟩
  have := h.2
  simp only [Pw.step, Pa.step]
  split
  · split <;> simp only <;> omega
  · exact this
theorem GOk.hb {t : DT} {p : Pw} {L R : List Dv} {d : Dv} (h : GOk t p L d R) : p.b = d.pw := h.pws d (by simp)
theorem GOk.dok {t : DT} {p : Pw} {L R : List Dv} {d : Dv} (h : GOk t p L d R) : d.ok := h.all d (by simp)
theorem GOk.set {t : DT} {p : Pw} {L R : List Dv} {d d' : Dv} (h : GOk t p L d R) (hb : d'.b = d.b) (hp : d'.pw = d.pw) (hok : d'.ok) : GOk t p L d' R where
  pws := fun x hx => by
    rcases List.mem_append.1 hx with h1 | h1
    · exact h.pws x (by simp [h1])
    · rcases List.mem_cons.1 h1 with rfl | h2
      · exact h.hb.trans hp.symm
      · exact h.pws x (by simp [h2])
  devs := by rw [h.devs]; simp [hb]
  all := fun x hx => by
    rcases List.mem_append.1 hx with h1 | h1
    · exact h.all x (by simp [h1])
    · rcases List.mem_cons.1 h1 with rfl | h2
      · exact hok
      · exact h.all x (by simp [h2])
  pok := h.pok
  len := by have := h.len; simpa using this
theorem GOk.setp {t : DT} {p : Pw} {L R : List Dv} {d : Dv} (h : GOk t p L d R) (a : Pa) (ha : a.left ≤ 9223372036854775807) : GOk t { p with a := a } L d R := ⟨h.pws, h.devs, h.all, ⟨h.pok.1, ha⟩, h.len⟩
theorem GOk.step {t : DT} {p : Pw} {L R : List Dv} {d : Dv} (h : GOk t p L d R) (q : Pa) : GOk t p (L.map (Dv.step q)) (d.step q) (R.map (Dv.step q)) where
  pws := fun x hx => by
    have : x ∈ (L ++ d :: R).map (Dv.step q) := by simpa using hx
    obtain ⟨y, hy, rfl⟩ := List.mem_map.1 this
    exact (h.pws y hy).trans (Dv.step_pw y q).symm
  devs := by rw [h.devs]; simp [Dv.step_b, Function.comp_def]
  all := fun x hx => by
    have : x ∈ (L ++ d :: R).map (Dv.step q) := by simpa using hx
    obtain ⟨y, hy, rfl⟩ := List.mem_map.1 this
    exact Dv.step_ok (h.all y hy)
  pok := h.pok
  len := by have := h.len; simpa using this
theorem GOk.stepp {t : DT} {p : Pw} {L R : List Dv} {d : Dv} (h : GOk t p L d R) : GOk t p.step L d R := ⟨h.pws, h.devs, h.all, Pw.step_ok h.pok, h.len⟩
theorem GOk.next {t : DT} {p : Pw} {L R : List Dv} {d x : Dv} (h : GOk t p L d (x :: R)) : GOk t p (L ++ [d]) x R where
  pws := fun y hy => h.pws y (by simpa using hy)
  devs := by rw [h.devs]; simp
  all := fun y hy => h.all y (by simpa using hy)
  pok := h.pok
  len := by have := h.len; simp at this ⊢; omega
theorem GOk.back {t : DT} {p : Pw} {L R : List Dv} {d x : Dv} (h : GOk t p (L ++ [d]) x R) : GOk t p L d (x :: R) where
  pws := fun y hy => h.pws y (by simpa using hy)
  devs := by rw [h.devs]; simp
  all := fun y hy => h.all y (by simpa using hy)
  pok := h.pok
  len := by have := h.len; simp at this ⊢; omega
theorem step0 {d : Dv} {q : Pa} (h : q.falls = false) : d.step q = d := by simp [Dv.step, h]
def Dv.wr (d : Dv) (n : Nat) (s : Sec) (g : Option SlG) : Dv := { d with g := g, a := { d.a with Q := d.a.Q ++ [(n, s)] } }
theorem Dv.wr_ok {d : Dv} {n : Nat} {s : Sec} {g : Option SlG} (h : d.ok) (hn : n < d.a.S.length) (hs : s.length = 128) (hq : d.a.Q.length < 100000) (hg : slOk 129 g (d.a.Q.length + 1) (wcs d.a.Q ++ (.int .i64 (n : Int) :: bs s))) : (d.wr n s g).ok := by
  obtain ⟨⟨h1, h2, h3, h4⟩, h5, h6⟩ := h
  refine ⟨⟨h1, h2, fun x hx => ?_, h4⟩, ?_, ?_⟩
  · simp only [Dv.wr] at hx ⊢
    rcases List.mem_append.1 hx with h | h
    · exact h3 x h
    · simp at h; subst h; exact ⟨hn, hs⟩
  · simp only [Dv.wr]
    rw [wcs_append, wcs_one, List.length_append]
    exact hg
  · simp only [Dv.wr, List.length_append, List.length_cons, List.length_nil]; omega
theorem fill_wr {n : Int} {s : Sec} (hs : s.length = 128) : Instr.fill (fun i => [((0 : Nat), (1 : Nat)), (1, 128)][i]?) ([Value.int .i64 0] ++ List.replicate 128 (Value.int .u8 0)).toArray [(0, .int .i64 n), (1, .agg (bs s).toArray)] = some (.int .i64 n :: bs s).toArray := by
  refine fill_cons (off := 0) (m := 1) (vs := [_]) rfl rfl rfl (by simp) (fill_cons (off := 1) (m := 128) (vs := bs s) rfl rfl (by rw [bs_length, hs]) (by simp [spl]) ?_)
  simp only [spl, Instr.fill]
  rw [spl_eq _ _ _ (by simp [bs_length, hs])]
  simp [bs_length, hs]
/-- A flush of all that waits. -/
def Dv.fl (d : Dv) : Dv := { d with g := none, a := { d.a with S := flushN d.a d.a.Q.length, Q := [] } }
theorem Dv.fl_ok {d : Dv} (h : d.ok) : d.fl.ok := by
  obtain ⟨h1, h2⟩ := flushN_ok h.1 d.a.Q.length
  exact ⟨⟨h1, by have := h.1.2.1; simp only [Dv.fl]; omega, fun x hx => by simp [Dv.fl] at hx, h.1.2.2.2⟩, ⟨by simp [Dv.fl, wcs], rfl⟩, by simp [Dv.fl]⟩
theorem Dv.fl_segs (t : DT) {b st pw : Nat} {g : Option SlG} {a : Ab} (h : a.ok) : (Dv.fl ⟨b, st, pw, g, a⟩).o t = [(b, .cells #[ptr pw, .slice (some ⟨st, 0, none⟩) a.S.length a.S.length, .slice none 0 0, .int .i64 (a.kept : Int), .int .i64 (a.bytes : Int), .bool a.lies, .bool a.out] t.dev)] ∧
    (Dv.fl ⟨b, st, pw, g, a⟩).t t = [(st, .cells (bs (flushN a a.Q.length).flatten).toArray t.sec)] ∧ (Dv.fl ⟨b, st, pw, g, a⟩).q t = [] := by
  have := (flushN_ok h a.Q.length).2
  simp [Dv.fl, Dv.o, Dv.t, Dv.q, Dv.cells, this, slV, slSeg]
theorem flat_at {S : List Sec} {n i : Nat} {s : Sec} (h : ∀ s ∈ S, s.length = 128) (hn : S[n]? = some s) (hi : i < 128) : S.flatten[n * 128 + i]? = s[i]? := by
  have := flat_sec h hn
  rw [← this, List.getElem?_take_of_lt hi, List.getElem?_drop]
theorem bits_xor8 (a b : UInt8) : bits .xor .u8 (a.toNat : Int) (b.toNat : Int) = ((a ^^^ b).toNat : Int) := by
  have ha := a.toNat_lt
  have hb := b.toNat_lt
  have hx : a.toNat ^^^ b.toNat < 2 ^ 8 := Nat.xor_lt_two_pow ha hb
  simp [bits]
  rw [Nat.mod_eq_of_lt (show a.toNat < 2 ^ IntKind.u8.bits from ha), Nat.mod_eq_of_lt (show b.toNat < 2 ^ IntKind.u8.bits from hb), IntKind.wrap_u8]
  omega
def Ab.rot (a : Ab) (n i : Nat) (m : UInt8) : Ab := { a with S := a.S.set n ((a.S.getD n []).set i ((a.S.getD n []).getD i 0 ^^^ m)) }
theorem Ab.rot_ok {a : Ab} {n i : Nat} {m : UInt8} (h : a.ok) (hn : n < a.S.length) : (a.rot n i m).ok := by
  obtain ⟨h1, h2, h3, h4⟩ := h
  refine ⟨set_ok h1 ?_, by simpa [Ab.rot] using h2, by simpa [Ab.rot] using h3, h4⟩
  rw [List.length_set, show a.S.getD n [] = a.S[n] from by simp [List.getD, hn]]
  exact h1 _ (List.getElem_mem hn)
/-- A sector of one byte. -/
def secOf (c : UInt8) : Sec := List.replicate 128 c
theorem secOf_len (c : UInt8) : (secOf c).length = 128 := List.length_replicate
def fillTo (c : UInt8) (i : Nat) : Sec := List.replicate i c ++ List.replicate (128 - i) 0
theorem fillTo_step {c : UInt8} {i : Nat} (h : i < 128) : (fillTo c i).set i c = fillTo c (i + 1) := by
  unfold fillTo
  rw [List.set_append_right _ _ (by simp), List.length_replicate, Nat.sub_self, show 128 - i = (128 - (i + 1)) + 1 by omega, List.replicate_succ, List.set_cons_zero, List.replicate_succ']
  simp
theorem fillTo_len {c : UInt8} {i : Nat} (h : i ≤ 128) : (fillTo c i).length = 128 := by simp [fillTo]; omega
theorem fillTo_all (c : UInt8) : fillTo c 128 = secOf c := by simp [fillTo, secOf]
theorem zsec : List.replicate 128 (Value.int .u8 0) = bs (secOf 0) := by simp [secOf, bs, u8]
theorem zsecs (k : Nat) : zcells (List.replicate 128 (Value.int .u8 0)) k = bs (List.replicate k (secOf 0)).flatten := by
  rw [zsec]
  unfold zcells
  induction k with
  | zero => rfl
  | succ k ih => rw [List.replicate_succ, List.replicate_succ, List.flatten_cons, List.flatten_cons, bs_append, ih]
theorem sec_at {l : List Value} {off n i : Nat} {A : List Sec} {s : Sec} (hA : ∀ s ∈ A, s.length = 128) (hv : (l.drop off).take (bs A.flatten).length = bs A.flatten) (hi : A[i]? = some s) : (l.drop (off + i * 128)).take 128 = bs s := by
  have hl := flat_len hA
  obtain ⟨hlt, _⟩ := List.getElem?_eq_some_iff.1 hi
  rw [← flat_sec hA hi, ← bs_take, ← bs_drop, ← hv, List.drop_take, List.take_take, List.drop_drop, bs_length, hl]
  congr 1
  omega
theorem same_step {A B : List Sec} {i : Nat} {s t : Sec} (h : A.take i = B.take i) (hA : A[i]? = some s) (hB : B[i]? = some t) (e : s = t) : A.take (i + 1) = B.take (i + 1) := by
  rw [List.take_add_one, List.take_add_one, h, hA, hB, e]
/-- A new device. -/
def Ab.new (k : Nat) : Ab := ⟨List.replicate k (secOf 0), [], 0, 0, false, false⟩
theorem Ab.new_ok {k : Nat} (h : k ≤ 4096) : (Ab.new k).ok := ⟨fun s hs => by simp [Ab.new] at hs; rw [hs.2]; exact secOf_len 0, by simpa [Ab.new] using h, fun x hx => by simp [Ab.new] at hx, by simp [Ab.new]⟩
def Dv.new (b st pw k : Nat) : Dv := ⟨b, st, pw, none, Ab.new k⟩
theorem Dv.new_ok {b st pw k : Nat} (h : k ≤ 4096) : (Dv.new b st pw k).ok := ⟨Ab.new_ok h, ⟨rfl, rfl⟩, by simp [Dv.new, Ab.new]⟩
def szOf (n : Int) : Nat := (min (max n 0) 4096).toNat
/-! ### What each call does, told of the abstract states -/
def Ab.down (a : Ab) (q : Pa) : Bool := a.out || q.off
def Ab.has (a : Ab) (n : Int) : Bool := decide (0 ≤ n) && decide (n < a.S.length)
def wgo (a : Ab) (q : Pa) (n : Int) : Bool := !a.down q && a.has n
def Ab.step (q : Pa) (a : Ab) : Ab := if q.falls then a.cut else a
def Ab.push (a : Ab) (n : Nat) (s : Sec) : Ab := { a with Q := a.Q ++ [(n, s)] }
def writeE (a : Ab) (q : Pa) (n : Int) : Int := if a.down q then 13 else if a.has n then (if q.falls then 13 else 0) else 2
def writeA (a : Ab) (q : Pa) (n : Int) (s : Sec) : Ab := if wgo a q n then (a.push n.toNat s).step q else a
def writeP (a : Ab) (q : Pa) (n : Int) : Pa := if wgo a q n then q.step else q
def flushE (a : Ab) (q : Pa) : Int := if a.down q then 13 else if q.falls then 13 else 0
def flushA (a : Ab) (q : Pa) : Ab := if a.down q then a else if q.falls then a.cut else a.flush
def flushP (a : Ab) (q : Pa) : Pa := if a.down q then q else q.step
/-- The other devices of a power, behind an operation that was counted (c) or not. -/
def Mv (c : Bool) (q : Pa) : List Dv → List Dv → Prop
  | [], [] => True
  | x :: xs, y :: ys => (y.b = x.b ∧ y.pw = x.pw ∧ y.a = if c then x.a.step q else x.a) ∧ Mv c q xs ys
  | _, _ => False
theorem Dv.step_a (d : Dv) (q : Pa) : (d.step q).a = d.a.step q := by unfold Dv.step Ab.step; split; exact d.cut_a; rfl
theorem Mv.same (q : Pa) : ∀ (L : List Dv), Mv false q L L
  | [] => trivial
  | _ :: L => ⟨⟨rfl, rfl, rfl⟩, Mv.same q L⟩
theorem Mv.step (q : Pa) : ∀ (L : List Dv), Mv true q L (L.map (Dv.step q))
  | [] => trivial
  | x :: L => ⟨⟨Dv.step_b x q, Dv.step_pw x q, Dv.step_a x q⟩, Mv.step q L⟩
theorem Mv.nil {c : Bool} {q : Pa} {L : List Dv} (h : Mv c q [] L) : L = [] := by cases L; rfl; exact h.elim
theorem Mv.one {c : Bool} {q : Pa} {x : Dv} {L : List Dv} (h : Mv c q [x] L) : ∃ y, L = [y] ∧ y.b = x.b ∧ y.pw = x.pw ∧ y.a = if c then x.a.step q else x.a := by
  match L, h with
  | [y], h => exact ⟨y, rfl, h.1⟩
  | [], h => exact h.elim
  | _ :: _ :: _, h => exact h.2.elim
theorem Dv.fl_a {d : Dv} (h : d.a.lies = false) : d.fl.a = d.a.flush := by simp [Dv.fl, Ab.flush, h]
def Ab.outs (a : Ab) (on : Bool) : Ab := if on then { a with Q := [], out := true } else { a with out := false }
theorem Ab.out_ok {d : Dv} (h : d.ok) : ({ d with g := none, a := { d.a with Q := [], out := true } } : Dv).ok := ⟨⟨h.1.1, h.1.2.1, fun x hx => by simp at hx, h.1.2.2.2⟩, ⟨rfl, rfl⟩, by simp⟩
def Ab.rotE (a : Ab) (n i : Int) : Bool := a.has n && (decide (0 ≤ i) && decide (i < 128))
def Ab.rots (a : Ab) (n i : Int) (m : UInt8) : Ab := if a.rotE n i then a.rot n.toNat i.toNat m else a
/-- What is stable in the document's example. -/
def awS : List Sec := [secOf 1, [2, 2] ++ List.replicate 126 0, secOf 0, secOf 0]
theorem awS_ok : ∀ s ∈ awS, s.length = 128 := fun s hs => by
  simp only [awS, List.mem_cons, List.not_mem_nil, or_false] at hs
  rcases hs with rfl | rfl | rfl | rfl <;> simp [secOf]
theorem awS_len : awS.flatten.length = 512 := flat_len awS_ok
/-! ### What is read -/
def lastW (Q : List (Nat × Sec)) (n : Nat) : Option Sec := (Q.reverse.find? fun x => x.1 == n).map (·.2)
def Ab.read (a : Ab) (n : Nat) : Sec := (lastW a.Q n).getD (a.S.getD n [])
def noneFrom (Q : List (Nat × Sec)) (n i : Nat) : Prop := ∀ k x, i ≤ k → Q[k]? = some x → x.1 ≠ n
theorem noneFrom_len (Q : List (Nat × Sec)) (n : Nat) : noneFrom Q n Q.length := fun k x hk hx => by
  have := (List.getElem?_eq_some_iff.1 hx).1; omega
theorem noneFrom_step {Q : List (Nat × Sec)} {n i : Nat} {x : Nat × Sec} (h : noneFrom Q n (i + 1)) (hx : Q[i]? = some x) (hn : x.1 ≠ n) : noneFrom Q n i := fun k y hk hy => by
  by_cases e : k = i
  · subst e; rw [hx] at hy; cases hy; exact hn
  · exact h k y (by omega) hy
theorem lastW_none {Q : List (Nat × Sec)} {n : Nat} (h : noneFrom Q n 0) : lastW Q n = none := by
  have : (Q.reverse.find? fun x => x.1 == n) = none := by
    rw [List.find?_eq_none]
    intro x hx
    obtain ⟨k, hk, rfl⟩ := List.getElem_of_mem (List.mem_reverse.1 hx)
    simpa using h k _ (Nat.zero_le _) (List.getElem?_eq_getElem hk)
  rw [lastW, this]; rfl
theorem lastW_found {Q : List (Nat × Sec)} {n i : Nat} {x : Nat × Sec} (h : noneFrom Q n (i + 1)) (hx : Q[i]? = some x) (hn : x.1 = n) : lastW Q n = some x.2 := by
  obtain ⟨hi, rfl⟩ := List.getElem?_eq_some_iff.1 hx
  have e : Q.reverse = (Q.drop (i + 1)).reverse ++ (Q[i] :: (Q.take i).reverse) := by
    conv => lhs; rw [← List.take_append_drop i Q, List.drop_eq_getElem_cons hi]
    simp
  have h0 : ((Q.drop (i + 1)).reverse.find? fun x => x.1 == n) = none := by
    rw [List.find?_eq_none]
    intro x hx
    obtain ⟨k, hk, rfl⟩ := List.getElem_of_mem (List.mem_reverse.1 hx)
    rw [List.getElem_drop]
    simpa using h (i + 1 + k) _ (by omega) (List.getElem?_eq_getElem (by rw [List.length_drop] at hk; omega))
  rw [lastW, e, List.find?_append, h0]
  simp [hn]
def readE (a : Ab) (q : Pa) (n : Int) : Int := if a.down q then 13 else if a.has n then 0 else 2
def readS (a : Ab) (q : Pa) (n : Int) : Sec := if a.down q then secOf 0 else if a.has n then a.read n.toNat else secOf 0
theorem Ab.read_len {a : Ab} {n : Nat} (h : a.ok) (hn : n < a.S.length) : (a.read n).length = 128 := by
  unfold Ab.read
  cases hl : lastW a.Q n with
  | none => rw [Option.getD_none, show a.S.getD n [] = a.S[n] from by simp [List.getD, hn]]; exact h.1 _ (List.getElem_mem hn)
  | some s =>
    unfold lastW at hl
    cases hf : a.Q.reverse.find? (fun x => x.1 == n) with
    | none => rw [hf] at hl; cases hl
    | some x =>
      rw [hf] at hl; cases hl
      exact (h.2.2.1 x (List.mem_reverse.1 (List.mem_of_find?_eq_some hf))).2
theorem readS_len {a : Ab} {q : Pa} {n : Int} (h : a.ok) : (readS a q n).length = 128 := by
  unfold readS
  split
  · exact secOf_len 0
  · split
    · rename_i hh
      have : 0 ≤ n ∧ n < a.S.length := by simpa [Ab.has] using hh
      exact Ab.read_len h (by omega)
    · exact secOf_len 0
end Go.Sl

/- Plain laws for the statements on devices (own work). -/
set_option linter.unusedVariables false
set_option linter.unusedSimpArgs false
namespace Go.Sl
/-! ### DeviceTears -/
def tq (m : Nat) : List (Nat × Sec) := (List.range m).map fun j => (j, secOf (UInt8.ofNat (j + 1)))
def tearA (K B m : Nat) : Ab := { (Ab.new 12).tear K B with Q := tq m }
def tearS (K B m : Nat) : List Sec := cutN (tearA K B m) m
def tsec (K B m i : Nat) : Sec := if i < m then (if i < K then secOf (UInt8.ofNat (i + 1)) else if i = K then (secOf (UInt8.ofNat (i + 1))).take (min B 128) ++ (secOf 0).drop (min B 128) else secOf 0) else secOf 0
def tbyte (K B m i j : Nat) : UInt8 := if i < m ∧ (i < K ∨ i = K ∧ j < B) then UInt8.ofNat (i + 1) else 0
/-! ### DeviceRots -/
abbrev q0 : Pa := ⟨false, 0, false⟩
def rq (c : UInt8) (m : Nat) : List (Nat × Sec) := (List.range m).map fun j => (j, secOf c)
def rotA (c : UInt8) (m : Nat) : Ab := { Ab.new 6 with Q := rq c m }
def rotS (c : UInt8) : List Sec := List.replicate 6 (secOf c)
def rotF (c : UInt8) : Ab := { Ab.new 6 with S := rotS c }
def rotT (c : UInt8) (n k : Nat) (m : UInt8) : List Sec := (rotS c).set n ((secOf c).set k (c ^^^ m))
def rotG (c : UInt8) (n k : Nat) (m : UInt8) : Ab := { rotF c with S := rotT c n k m }
def rbyte (c : UInt8) (n k : Nat) (m : UInt8) (i j : Nat) : UInt8 := if i = n ∧ j = k then c ^^^ m else c
/-! ### DeviceApart -/
def apS (c : UInt8) (K : Nat) : List Sec := (List.replicate K (secOf 0)).set 0 (secOf c)
def apF (c : UInt8) (K : Nat) : Ab := { Ab.new K with S := apS c K }
/-! ### Deeds -/
structure DeedM where
  on : Int
  kind : Int
  n : Int
  m : Int
  c : UInt8
def dcells (x : DeedM) : List Value := [.int .i64 x.on, .int .i64 x.kind, .int .i64 x.n, .int .i64 x.m, .int .u8 (x.c.toNat : Int)]
def deeds (ds : List DeedM) : List Value := (ds.map dcells).flatten
theorem deeds_len (ds : List DeedM) : (deeds ds).length = ds.length * 5 := by
  induction ds with
  | nil => rfl
  | cons x ds ih => simp only [deeds, List.map_cons, List.flatten_cons, List.length_append, List.length_cons] at ih ⊢; rw [ih]; simp [dcells]; omega
theorem deeds_get : ∀ {ds : List DeedM} {i j : Nat} {x : DeedM}, ds[i]? = some x → j < 5 → (deeds ds)[i * 5 + j]? = (dcells x)[j]?
  | [], i, j, x, h, _ => by simp at h
  | y :: ds, 0, j, x, h, hj => by
    simp at h; subst h
    simp only [deeds, List.map_cons, List.flatten_cons, Nat.zero_mul, Nat.zero_add]
    rw [List.getElem?_append_left (by simp [dcells]; omega)]
  | y :: ds, i + 1, j, x, h, hj => by
    simp only [List.getElem?_cons_succ] at h
    have := deeds_get h hj
    simp only [deeds, List.map_cons, List.flatten_cons] at this ⊢
    rw [List.getElem?_append_right (by simp [dcells]; omega), ← this]
    congr 1
    simp [dcells]; omega
/-- A cell of a deed that came in. -/
theorem deed_at {l : List Value} {off i j : Nat} {ds : List DeedM} {x : DeedM} (hv : (l.drop off).take (deeds ds).length = deeds ds) (hi : ds[i]? = some x) (hj : j < 5) : l[off + i * 5 + j]? = (dcells x)[j]? := by
  have hlt := (List.getElem?_eq_some_iff.1 hi).1
  rw [← deeds_get hi hj, ← hv, List.getElem?_take_of_lt (by rw [deeds_len]; omega), List.getElem?_drop, Nat.add_assoc]
/-! ### What a flush makes stable is what was read -/
theorem lastW_snoc (Q : List (Nat × Sec)) (x : Nat × Sec) (k : Nat) : lastW (Q ++ [x]) k = if x.1 = k then some x.2 else lastW Q k := by
  unfold lastW
  rw [List.reverse_append, List.reverse_singleton, List.singleton_append, List.find?_cons]
  by_cases h : x.1 = k
  · simp [h]
  · have : (x.1 == k) = false := by simpa using h
    simp [h, this]
theorem flushN_get {a : Ab} (h : a.ok) {k : Nat} (hk : k < a.S.length) : ∀ m, m ≤ a.Q.length → (flushN a m)[k]? = some ((lastW (a.Q.take m) k).getD (a.S.getD k []))
  | 0, _ => by
    show a.S[k]? = _
    rw [List.take_zero, show lastW [] k = none from rfl, Option.getD_none]
    simp [List.getD, hk]
  | m + 1, hm => by
    have ih := flushN_get h hk m (by omega)
    obtain ⟨x, hx⟩ : ∃ x, a.Q[m]? = some x := ⟨_, List.getElem?_eq_getElem (by omega)⟩
    rw [flushN_s hx, show a.Q.take (m + 1) = a.Q.take m ++ [x] from by rw [List.take_add_one, hx]; rfl, lastW_snoc]
    by_cases e : x.1 = k
    · subst e
      rw [List.getElem?_set_self (by rw [(flushN_ok h m).2]; exact hk), if_pos rfl]; rfl
    · rw [List.getElem?_set_ne e, if_neg e, ih]
/-! ### DeviceLies -/
def okN (x : DeedM) : Prop := 0 ≤ x.n ∧ x.n < 20
instance (x : DeedM) : Decidable (okN x) := inferInstanceAs (Decidable (0 ≤ x.n ∧ x.n < 20))
def wq1 (x : DeedM) : List (Nat × Sec) := if okN x then [(x.n.toNat, secOf x.c)] else []
def lq (ds : List DeedM) (i : Nat) : List (Nat × Sec) := (ds.take i).flatMap wq1
def S20 : List Sec := List.replicate 20 (secOf 0)
def lA (ds : List DeedM) (i : Nat) : Ab := ⟨S20, lq ds i, 0, 0, true, false⟩
def nowS (ds : List DeedM) (k : Nat) : List Sec := (List.range k).map (lA ds ds.length).read
def lC (ds : List DeedM) : Ab := ⟨nowS ds 20, [], 0, 0, false, false⟩
/-! ### DeviceReads, DeviceFlushes: what is read behind a write, behind a flush -/
theorem read_push (a : Ab) (n : Nat) (s : Sec) (k : Nat) : (a.push n s).read k = if n = k then s else a.read k := by
  simp only [Ab.read, Ab.push, lastW_snoc]
  by_cases h : n = k
  · simp [h]
  · simp [h]
theorem read_flush {a : Ab} (h : a.ok) (hl : a.lies = false) {k : Nat} (hk : k < a.S.length) : a.flush.read k = a.read k := by
  have e := flushN_get h hk a.Q.length (Nat.le_refl _)
  rw [List.take_length] at e
  simp only [Ab.flush, hl, Bool.false_eq_true, if_false, Ab.read, show lastW [] k = none from rfl, Option.getD_none, List.getD, e, Option.getD_some]
theorem has_flush {a : Ab} (h : a.ok) (hl : a.lies = false) : a.flush.S.length = a.S.length := by
  simp only [Ab.flush, hl, Bool.false_eq_true, if_false, (flushN_ok h _).2]
/-- A device that is whole and is read as W. -/
structure RdW (K : Nat) (W : List Sec) (a : Ab) (m : Nat) : Prop where
  ok : a.ok
  len : a.S.length = K
  out : a.out = false
  lies : a.lies = false
  many : a.Q.length ≤ m
  wlen : W.length = K
  read : ∀ k s, W[k]? = some s → a.read k = s
theorem RdW.new {K : Nat} (h : K ≤ 4096) : RdW K (List.replicate K (secOf 0)) (Ab.new K) 0 := ⟨Ab.new_ok h, by simp [Ab.new], rfl, rfl, Nat.le_refl _, by simp, fun k s hs => by
  have : k < K := by have := (List.getElem?_eq_some_iff.1 hs).1; simpa using this
  rw [List.getElem?_replicate, if_pos this] at hs; cases hs
  simp [Ab.read, Ab.new, lastW, List.getD, this]⟩
theorem RdW.write {K n m : Nat} {W : List Sec} {a : Ab} {s : Sec} (h : RdW K W a m) (hn : n < K) (hs : s.length = 128) : RdW K (W.set n s) (a.push n s) (m + 1) := by
  obtain ⟨h1, h2, h3, h4, h5, h6, h7⟩ := h
  refine ⟨⟨h1.1, h1.2.1, fun x hx => ?_, h1.2.2.2⟩, h2, h3, h4, by simp [Ab.push]; omega, by simpa using h6, fun k t ht => ?_⟩
  · rcases List.mem_append.1 hx with hx | hx
    · exact h1.2.2.1 x hx
    · simp at hx; subst hx; exact ⟨by simp only [Ab.push]; omega, hs⟩
  · rw [read_push]
    by_cases e : n = k
    · subst e
      rw [List.getElem?_set_self (by omega)] at ht; cases ht; simp
    · rw [List.getElem?_set_ne e] at ht
      rw [if_neg e]; exact h7 k t ht
theorem RdW.flush {K m : Nat} {W : List Sec} {a : Ab} (h : RdW K W a m) : RdW K W a.flush 0 := by
  obtain ⟨h1, h2, h3, h4, h5, h6, h7⟩ := h
  refine ⟨Ab.flush_ok h1, by rw [has_flush h1 h4, h2], by simp [Ab.flush, h4, h3], by simp [Ab.flush, h4], by simp [Ab.flush, h4], h6, fun k t ht => ?_⟩
  rw [read_flush h1 h4 (by have := (List.getElem?_eq_some_iff.1 ht).1; omega)]
  exact h7 k t ht
theorem RdW.has {K m : Nat} {W : List Sec} {a : Ab} (h : RdW K W a m) (n : Int) : a.has n = (decide (0 ≤ n) && decide (n < K)) := by simp only [Ab.has, h.len]
theorem RdW.writes {K m : Nat} {W : List Sec} {a : Ab} (h : RdW K W a m) (n : Int) (s : Sec) : writeE a q0 n = (if 0 ≤ n ∧ n < K then 0 else 2) ∧ writeA a q0 n s = (if 0 ≤ n ∧ n < K then a.push n.toNat s else a) ∧ writeP a q0 n = q0 := by
  have hd : a.down q0 = false := by simp [Ab.down, h.out]
  have hf : q0.falls = false := rfl
  simp only [writeE, writeA, writeP, wgo, hd, h.has, hf, Ab.step, Bool.not_false, Bool.true_and, Bool.false_eq_true, if_false]
  by_cases hn : 0 ≤ n ∧ n < K
  · simp [hn]; rfl
  · have : (decide (0 ≤ n) && decide (n < (K : Int))) = false := by simp; omega
    simp [this, hn]
theorem RdW.reads {K m k : Nat} {W : List Sec} {a : Ab} {s : Sec} (h : RdW K W a m) (hk : W[k]? = some s) : readS a q0 (k : Int) = s ∧ readE a q0 (k : Int) = 0 := by
  have hd : a.down q0 = false := by simp [Ab.down, h.out]
  have hlt : k < K := by have := (List.getElem?_eq_some_iff.1 hk).1; have := h.wlen; omega
  have hh : a.has (k : Int) = true := by rw [h.has]; simp; omega
  simp only [readS, readE, hd, hh, Bool.false_eq_true, if_false, if_true, Int.toNat_natCast, and_true]
  exact h.read k s hk
theorem RdW.mono {K m m' : Nat} {W : List Sec} {a : Ab} (h : RdW K W a m) (hm : m ≤ m') : RdW K W a m' := ⟨h.ok, h.len, h.out, h.lies, Nat.le_trans h.many hm, h.wlen, h.read⟩
/-! ### DeviceFlushes -/
theorem RdW.stable {K : Nat} {W : List Sec} {a : Ab} (h : RdW K W a 0) : a.Q = [] ∧ a.S = W := by
  have hq : a.Q = [] := List.eq_nil_of_length_eq_zero (Nat.le_zero.1 h.many)
  refine ⟨hq, ?_⟩
  apply List.ext_getElem?
  intro k
  by_cases hk : k < K
  · have h1 : a.read k = W[k]'(by rw [h.wlen]; exact hk) := h.read k _ (List.getElem?_eq_getElem _)
    rw [List.getElem?_eq_getElem (show k < W.length from by rw [h.wlen]; exact hk), ← h1]
    simp only [Ab.read, hq, show lastW [] k = none from rfl, Option.getD_none, List.getD]
    rw [List.getElem?_eq_getElem (by rw [h.len]; exact hk)]; rfl
  · rw [List.getElem?_eq_none (by rw [h.len]; omega), List.getElem?_eq_none (by rw [h.wlen]; omega)]
abbrev qF : Pa := ⟨false, 0, true⟩
abbrev qX : Pa := ⟨true, 0, false⟩
/-- Power fails at a flush of what is flushed: nothing changes. -/
theorem RdW.fails {K : Nat} {W : List Sec} {a : Ab} (h : RdW K W a 0) (k m : Int) : flushE (a.tear k m) qF = 13 ∧ flushA (a.tear k m) qF = a.tear k m ∧ flushP (a.tear k m) qF = qX := by
  obtain ⟨hq, hs⟩ := h.stable
  have hd : (a.tear k m).down qF = false := by simp [Ab.down, Ab.tear, h.out]
  have hf : qF.falls = true := rfl
  have hc : (a.tear k m).cut = a.tear k m := by
    have ho : (a.tear k m).out = false := h.out
    have hq2 : (a.tear k m).Q = [] := hq
    generalize a.tear k m = y at ho hq2
    cases y
    simp only at ho hq2
    subst ho; subst hq2
    rfl
  simp only [flushE, flushA, flushP, hd, hf, hc, Bool.false_eq_true, if_false, if_true, true_and]
  rfl
theorem RdW.tear {K m : Nat} {W : List Sec} {a : Ab} (h : RdW K W a m) (k b : Int) : RdW K W (a.tear k b) m := ⟨Ab.tear_ok h.ok, h.len, h.out, h.lies, h.many, h.wlen, h.read⟩
end Go.Sl

/- Two devices, of one power or each of its own: one segment in memory, one abstract state (own work). -/
set_option linter.unusedVariables false
set_option linter.unusedSimpArgs false
namespace Go.Sl
structure Duo where
  x : Dv
  y : Dv
  p : Pw
  q : Option Pw
/-- The abstract state: two devices, a power, and the second one's own power. -/
structure Da where
  a : Ab
  b : Ab
  p : Pa
  q : Option Pa
def Duo.qs (t : DT) : Option Pw → Hp
  | none => []
  | some q => [q.o t, q.q t]
def Duo.hp (t : DT) (D : Duo) : Hp := [D.x.o t, D.x.t t, D.x.q t, D.p.o t, D.p.q t, D.y.o t, D.y.t t, D.y.q t] ++ Duo.qs t D.q
def Duo.seg (t : DT) (D : Duo) : List (Nat × Obj) := (D.hp t).flatten
def Duo.dev (D : Duo) : Bool → Dv
  | false => D.x
  | true => D.y
def Duo.pow (D : Duo) : Bool → Pw
  | false => D.p
  | true => D.q.getD D.p
def Duo.da (D : Duo) : Da := ⟨D.x.a, D.y.a, D.p.a, D.q.map (·.a)⟩
def Duo.ok (t : DT) (D : Duo) : Prop := match D.q with
  | none => GOk t D.p [] D.x [D.y]
  | some q => GOk t D.p [] D.x [] ∧ GOk t q [] D.y []
def Da.dev (A : Da) : Bool → Ab
  | false => A.a
  | true => A.b
def Da.pow (A : Da) : Bool → Pa
  | false => A.p
  | true => A.q.getD A.p
def Da.setd (A : Da) (i : Bool) (x : Ab) : Da := match i with
  | false => { A with a := x }
  | true => { A with b := x }
def Da.setp (A : Da) (i : Bool) (x : Pa) : Da := match i, A.q with
  | true, some _ => { A with q := some x }
  | _, _ => { A with p := x }
/-- The other device of the same power, behind an operation that was counted (c) or not. -/
def Da.oth (A : Da) (i c : Bool) : Da := if c && A.q.isNone then A.setd (!i) ((A.dev (!i)).step (A.pow i)) else A
def Da.write (A : Da) (i : Bool) (n : Int) (s : Sec) : Da := ((A.oth i (wgo (A.dev i) (A.pow i) n)).setd i (writeA (A.dev i) (A.pow i) n s)).setp i (writeP (A.dev i) (A.pow i) n)
def Da.flush (A : Da) (i : Bool) : Da := ((A.oth i (!(A.dev i).down (A.pow i))).setd i (flushA (A.dev i) (A.pow i))).setp i (flushP (A.dev i) (A.pow i))
def Da.wE (A : Da) (i : Bool) (n : Int) : Int := writeE (A.dev i) (A.pow i) n
def Da.fE (A : Da) (i : Bool) : Int := flushE (A.dev i) (A.pow i)
def Da.rS (A : Da) (i : Bool) (n : Int) : Sec := readS (A.dev i) (A.pow i) n
def Da.rE (A : Da) (i : Bool) (n : Int) : Int := readE (A.dev i) (A.pow i) n
theorem Da.setd_self (A : Da) (i : Bool) : A.setd i (A.dev i) = A := by cases i <;> rfl
theorem Da.setp_self (A : Da) (i : Bool) : A.setp i (A.pow i) = A := by
  obtain ⟨a, b, p, q⟩ := A
  cases i <;> cases q <;> rfl
theorem Duo.da_dev (D : Duo) (i : Bool) : (D.dev i).a = D.da.dev i := by cases i <;> rfl
theorem Duo.da_pow (D : Duo) (i : Bool) : (D.pow i).a = D.da.pow i := by
  obtain ⟨x, y, p, q⟩ := D
  cases i <;> cases q <;> rfl
theorem Duo.hsub2 (t : DT) (D : Duo) (H : Hp) : HSub (D.seg t :: H) (D.hp t ++ H) := hsub_flat (by rw [List.flatten_append]; rfl)
theorem Duo.flat (t : DT) (D : Duo) (H : Hp) : (D.hp t ++ H).flatten = (D.seg t :: H).flatten := by rw [List.flatten_append]; rfl
theorem Duo.pick (t : DT) (D : Duo) {H Y : Hp} (is : List Nat) (e : pick is (D.hp t ++ H) = Y) : Y.flatten.Perm (D.seg t :: H).flatten := by
  subst e
  rw [← Duo.flat]
  exact (pick_perm is _).flatten.symm
theorem HSub.under {A B : Hp} (S : List (Nat × Obj)) (h : B.flatten.Perm A.flatten) : HSub (S :: A) (S :: B) := .of_perm (by simpa using h.append_left S)
theorem Duo.view (t : DT) {D : Duo} (h : D.ok t) (i : Bool) (H : Hp) : ∃ L R X, GOk t (D.pow i) L (D.dev i) R ∧ (opn t (D.dev i) (D.pow i) (L ++ R) X).flatten.Perm (D.seg t :: H).flatten ∧
    ∀ c d' p' L' R', GOk t p' L' d' R' → d'.b = (D.dev i).b → p'.b = (D.pow i).b → Mv c (D.pow i).a L L' → Mv c (D.pow i).a R R' →
      ∃ D' : Duo, D'.ok t ∧ D'.x.b = D.x.b ∧ D'.y.b = D.y.b ∧ D'.p.b = D.p.b ∧ D'.da = ((D.da.oth i c).setd i d'.a).setp i p'.a ∧ HSub (D'.seg t :: H) (opn t d' p' (L' ++ R') X) := by
  obtain ⟨x, y, p, q⟩ := D
  cases q with
  | none =>
    have hG : GOk t p [] x [y] := h
    cases i with
    | false =>
      refine ⟨[], [y], H, hG, Duo.pick t _ [] rfl, ?_⟩
      intro c d' p' L' R' g1 g2 g3 g4 g5
      obtain rfl := g4.nil
      obtain ⟨y', rfl, e1, e2, e3⟩ := g5.one
      refine ⟨⟨d', y', p', none⟩, g1, g2, e1, g3, ?_, (Duo.hsub2 t _ H).trans (hsub_pick [] rfl)⟩
      cases c <;> simp_all [Duo.da, Da.oth, Da.setd, Da.setp, Da.dev, Da.pow, Duo.pow]
    | true =>
      refine ⟨[x], [], H, hG.next, Duo.pick t _ [5, 5, 5, 3, 3] rfl, ?_⟩
      intro c d' p' L' R' g1 g2 g3 g4 g5
      obtain rfl := g5.nil
      obtain ⟨y', rfl, e1, e2, e3⟩ := g4.one
      refine ⟨⟨y', d', p', none⟩, g1.back, e1, g2, g3, ?_, (Duo.hsub2 t _ H).trans (hsub_pick [5, 5, 5, 3, 3] rfl)⟩
      cases c <;> simp_all [Duo.da, Da.oth, Da.setd, Da.setp, Da.dev, Da.pow, Duo.pow]
  | some q =>
    obtain ⟨h1, h2⟩ := h
    simp only at h1 h2
    cases i with
    | false =>
      refine ⟨[], [], y.o t :: y.t t :: y.q t :: q.o t :: q.q t :: H, h1, Duo.pick t _ [] rfl, ?_⟩
      intro c d' p' L' R' g1 g2 g3 g4 g5
      obtain rfl := g4.nil
      obtain rfl := g5.nil
      exact ⟨⟨d', y, p', some q⟩, ⟨g1, h2⟩, g2, rfl, g3, by cases c <;> rfl, (Duo.hsub2 t _ H).trans (hsub_pick [] rfl)⟩
    | true =>
      refine ⟨[], [], x.o t :: x.t t :: x.q t :: p.o t :: p.q t :: H, h2, Duo.pick t _ [5, 5, 5, 5, 5] rfl, ?_⟩
      intro c d' p' L' R' g1 g2 g3 g4 g5
      obtain rfl := g4.nil
      obtain rfl := g5.nil
      exact ⟨⟨x, d', p, some p'⟩, ⟨h1, g1⟩, rfl, g2, rfl, by cases c <;> rfl, (Duo.hsub2 t _ H).trans (hsub_pick [5, 5, 5, 5, 5] rfl)⟩
/-- Two devices, at such blocks, of such an abstract state. -/
structure Two (t : DT) (D : Duo) (A : Da) (bx bys bp : Nat) : Prop where
  ok : D.ok t
  da : D.da = A
  x : D.x.b = bx
  y : D.y.b = bys
  p : D.p.b = bp
abbrev sel (bx bys : Nat) (i : Bool) : Nat := if i then bys else bx
theorem Two.b {t : DT} {D : Duo} {A : Da} {bx bys bp : Nat} (h : Two t D A bx bys bp) (i : Bool) : (D.dev i).b = sel bx bys i := by
  cases i
  · exact h.x
  · exact h.y
theorem Two.dev {t : DT} {D : Duo} {A : Da} {bx bys bp : Nat} (h : Two t D A bx bys bp) (i : Bool) : (D.dev i).a = A.dev i := by rw [D.da_dev, h.da]
theorem Two.pow {t : DT} {D : Duo} {A : Da} {bx bys bp : Nat} (h : Two t D A bx bys bp) (i : Bool) : (D.pow i).a = A.pow i := by rw [D.da_pow, h.da]
theorem Two.aok {t : DT} {D : Duo} {A : Da} {bx bys bp : Nat} (h : Two t D A bx bys bp) (i : Bool) : (A.dev i).ok ∧ (A.dev i).Q.length ≤ 100000 := by
  obtain ⟨L, R, X, hG, _⟩ := Duo.view t h.ok i []
  rw [← h.dev i]
  exact ⟨hG.dok.1, hG.dok.2.2⟩
/-- One view for all calls: what a call does to a device in hand it does to the two. -/
theorem Two.view {t : DT} {D : Duo} {A : Da} {bx bys bp : Nat} (h : Two t D A bx bys bp) (i : Bool) (H : Hp) : ∃ d p L R X, GOk t p L d R ∧ d.b = sel bx bys i ∧ d.a = A.dev i ∧ p.a = A.pow i ∧ (i = false → p.b = bp) ∧ (opn t d p (L ++ R) X).flatten.Perm (D.seg t :: H).flatten ∧
    ∀ c d' p' L' R', GOk t p' L' d' R' → d'.b = sel bx bys i → p'.b = p.b → Mv c (A.pow i) L L' → Mv c (A.pow i) R R' →
      ∃ D' : Duo, Two t D' (((A.oth i c).setd i d'.a).setp i p'.a) bx bys bp ∧ HSub (D'.seg t :: H) (opn t d' p' (L' ++ R') X) := by
  obtain ⟨L, R, X, hG, h1, h3⟩ := Duo.view t h.ok i H
  refine ⟨D.dev i, D.pow i, L, R, X, hG, h.b i, h.dev i, h.pow i, fun e => by subst e; exact h.p, h1, ?_⟩
  intro c d' p' L' R' g1 g2 g3 g4 g5
  obtain ⟨D', k1, k2, k3, k4, k5, k6⟩ := h3 c d' p' L' R' g1 (g2.trans (h.b i).symm) g3 (h.pow i ▸ g4) (h.pow i ▸ g5)
  exact ⟨D', ⟨k1, by rw [k5, h.da], k2.trans h.x, k3.trans h.y, k4.trans h.p⟩, k6⟩
theorem Two.to {t : DT} {D : Duo} {A B : Da} {bx bys bp : Nat} (h : Two t D A bx bys bp) (e : A = B) : Two t D B bx bys bp := e ▸ h
theorem Da.oth_f (A : Da) (i : Bool) : A.oth i false = A := rfl
theorem Da.setd_pow (A : Da) (i j : Bool) (x : Ab) : (A.setd i x).pow j = A.pow j := by cases i <;> cases j <;> rfl
theorem Da.setd_setp (A : Da) (i : Bool) (x : Ab) : (A.setd i x).setp i (A.pow i) = A.setd i x := by
  have := Da.setp_self (A.setd i x) i
  rwa [Da.setd_pow] at this
theorem Ab.cut_many (a : Ab) : a.cut.Q.length ≤ a.Q.length := by unfold Ab.cut; split <;> simp
theorem Ab.step_many (a : Ab) (q : Pa) : (a.step q).Q.length ≤ a.Q.length := by unfold Ab.step; split; exact a.cut_many; exact Nat.le_refl _
theorem Ab.flush_many (a : Ab) : a.flush.Q.length ≤ a.Q.length := by unfold Ab.flush; split <;> simp
theorem writeA_many (a : Ab) (q : Pa) (n : Int) (s : Sec) : (writeA a q n s).Q.length ≤ a.Q.length + 1 := by
  unfold writeA; split
  · refine Nat.le_trans (Ab.step_many _ _) ?_; simp [Ab.push]
  · omega
theorem flushA_many (a : Ab) (q : Pa) : (flushA a q).Q.length ≤ a.Q.length := by
  unfold flushA; split
  · exact Nat.le_refl _
  · split
    · exact a.cut_many
    · exact a.flush_many
theorem Da.setp_dev (A : Da) (i j : Bool) (x : Pa) : (A.setp i x).dev j = A.dev j := by obtain ⟨a, b, p, q⟩ := A; cases i <;> cases j <;> cases q <;> rfl
theorem Da.setd_same (A : Da) (i : Bool) (x : Ab) : (A.setd i x).dev i = x := by cases i <;> rfl
theorem Da.setd_other (A : Da) {i j : Bool} (x : Ab) (h : j ≠ i) : (A.setd i x).dev j = A.dev j := by cases i <;> cases j <;> first | rfl | exact absurd rfl h
theorem Da.oth_many (A : Da) (i c j : Bool) : ((A.oth i c).dev j).Q.length ≤ (A.dev j).Q.length := by
  unfold Da.oth; split
  · by_cases h : j = !i
    · subst h; rw [Da.setd_same]; exact Ab.step_many _ _
    · rw [Da.setd_other _ _ h]; exact Nat.le_refl _
  · exact Nat.le_refl _
theorem Da.flush_many (A : Da) (i j : Bool) : ((A.flush i).dev j).Q.length ≤ (A.dev j).Q.length := by
  unfold Da.flush
  rw [Da.setp_dev]
  by_cases h : j = i
  · subst h; rw [Da.setd_same]; exact flushA_many _ _
  · rw [Da.setd_other _ _ h]; exact Da.oth_many _ _ _ _
/-- Power that doesn't fail. -/
def Da.calm (A : Da) : Prop := A.p.off = false ∧ A.p.fails = false ∧ ∀ q, A.q = some q → q.off = false ∧ q.fails = false
end Go.Sl

/- Plain laws of two devices of one power (own work). -/
set_option linter.unusedVariables false
set_option linter.unusedSimpArgs false
namespace Go.Sl
/-- Two devices of three sectors, of one power, that are there and don't lie. -/
structure Mid (A : Da) (k : Nat) (p : Pa) : Prop where
  p : A.p = p
  q : A.q = none
  len : ∀ i, (A.dev i).S.length = 3
  out : ∀ i, (A.dev i).out = false
  lies : ∀ i, (A.dev i).lies = false
  many : ∀ i, (A.dev i).Q.length ≤ k
theorem Mid.pow {A : Da} {k : Nat} {p : Pa} (h : Mid A k p) (i : Bool) : A.pow i = p := by
  obtain ⟨a, b, q, r⟩ := A
  obtain ⟨rfl, rfl, h⟩ := h
  cases i <;> rfl
theorem Mid.new (p : Pa) : Mid ⟨Ab.new 3, Ab.new 3, p, none⟩ 0 p := ⟨rfl, rfl, fun i => by cases i <;> rfl, fun i => by cases i <;> rfl, fun i => by cases i <;> rfl, fun i => by cases i <;> exact Nat.le_refl _⟩
theorem Mid.setp {A : Da} {k : Nat} {p : Pa} (h : Mid A k p) (x : Pa) : Mid { A with p := x } k x := ⟨rfl, h.q, h.len, h.out, h.lies, h.many⟩
theorem Mid.down {A : Da} {k : Nat} {p : Pa} (h : Mid A k p) (hoff : p.off = true) (i : Bool) (m : Int) (s : Sec) : A.wE i m = 13 ∧ A.write i m s = A ∧ A.fE i = 13 ∧ A.flush i = A ∧ A.rE i m = 13 := by
  have e : Ab.down (A.dev i) p = true := by simp [Ab.down, hoff]
  have e2 : Ab.down (A.dev i) (A.pow i) = true := by rw [h.pow i, e]
  refine ⟨by simp [Da.wE, writeE, e2], ?_, by simp [Da.fE, flushE, e2], ?_, by simp [Da.rE, readE, e2]⟩
  · have w : wgo (A.dev i) (A.pow i) m = false := by simp [wgo, e2]
    simp only [Da.write, w, Da.oth_f, writeA, writeP, if_false, Bool.false_eq_true, Da.setd_self, Da.setp_self]
  · simp only [Da.flush, e2, Bool.not_true, Da.oth_f, flushA, flushP, if_true, Da.setd_self, Da.setp_self]
theorem Mid.mono {A : Da} {k k' : Nat} {p : Pa} (h : Mid A k p) (hk : k ≤ k') : Mid A k' p := ⟨h.p, h.q, h.len, h.out, h.lies, fun i => Nat.le_trans (h.many i) hk⟩
abbrev qN (n : Nat) : Pa := ⟨false, (n : Int), true⟩
/-! ### A device that is out -/
def oS (c : UInt8) : List Sec := (List.replicate 20 (secOf 0)).set 3 (secOf c)
def oF (c : UInt8) : Ab := { Ab.new 20 with S := oS c }
def oO (c : UInt8) : Ab := { oF c with out := true }
end Go.Sl

/- The document's two devices of one power, in memory (own work). -/
set_option linter.unusedVariables false
set_option linter.unusedSimpArgs false
namespace Go.Sl
structure RT where
  dev : Nat
  sec : Nat
  wr : Nat
  ptr : Nat
  pow : Nat
structure Rv where
  b : Nat
  st : Nat
  g : Option SlG
  a : Ab
abbrev rcells (st : Nat) (g : Option SlG) (a : Ab) : List Value := [.slice (some ⟨st, 0, none⟩) a.S.length a.S.length, slV g a.Q.length, .int .i64 (a.kept : Int), .int .i64 (a.bytes : Int), .bool a.lies, .bool a.out]
abbrev Rv.o (t : RT) (d : Rv) : List (Nat × Obj) := [(d.b, .cells (rcells d.st d.g d.a).toArray t.dev)]
abbrev Rv.t (t : RT) (d : Rv) : List (Nat × Obj) := [(d.st, .cells (bs d.a.S.flatten).toArray t.sec)]
abbrev Rv.q (t : RT) (d : Rv) : List (Nat × Obj) := slSeg t.wr d.g (wcs d.a.Q)
def Rv.ok (d : Rv) : Prop := d.a.ok ∧ slOk 129 d.g d.a.Q.length (wcs d.a.Q) ∧ d.a.Q.length ≤ 100000
def Rv.cut (d : Rv) : Rv := if d.a.out then d else { d with g := none, a := d.a.cut }
theorem Rv.cut_b (d : Rv) : d.cut.b = d.b := by unfold Rv.cut; split <;> rfl
theorem Rv.cut_a (d : Rv) : d.cut.a = d.a.cut := by unfold Rv.cut Ab.cut; split <;> simp_all
theorem Rv.cut_ok {d : Rv} (h : d.ok) : d.cut.ok := by
  unfold Rv.cut
  split
  · exact h
  · rename_i ho
    refine ⟨Ab.cut_ok h.1, ?_⟩
    simp only [Ab.cut, ho, Bool.false_eq_true, if_false]
    exact ⟨⟨by simp [wcs], rfl⟩, by simp⟩
theorem Rv.cut_segs (t : RT) {b st : Nat} {g : Option SlG} {a : Ab} (h : a.ok) (ho : a.out = false) : (Rv.cut ⟨b, st, g, a⟩).o t = [(b, .cells #[.slice (some ⟨st, 0, none⟩) a.S.length a.S.length, .slice none 0 0, .int .i64 (a.kept : Int), .int .i64 (a.bytes : Int), .bool a.lies, .bool a.out] t.dev)] ∧
    (Rv.cut ⟨b, st, g, a⟩).t t = [(st, .cells (bs (cutN a a.Q.length).flatten).toArray t.sec)] ∧ (Rv.cut ⟨b, st, g, a⟩).q t = [] := by
  have := (cutN_ok h a.Q.length).2
  simp [Rv.cut, Rv.o, Rv.t, Rv.q, Ab.cut, ho, this, slV, slSeg]
theorem Rv.cut_out {d : Rv} (h : d.a.out = true) : d.cut = d := by unfold Rv.cut; rw [if_pos h]
/-- The power, and its row of devices. -/
abbrev rpo (t : RT) (b : Nat) (g : SlG) (off : Bool) (left : Int) : List (Nat × Obj) := [(b, .cells [slV (some g) 2, .bool off, .int .i64 left].toArray t.pow)]
abbrev rpq (t : RT) (g : SlG) (x y : Nat) : List (Nat × Obj) := slSeg t.ptr (some g) [ptr x, ptr y]
/-- Behind how many operations power fails; -1: at none. -/
def lf (p : Pa) : Int := if p.fails then p.left else -1
def Pa.fit (p : Pa) : Prop := p.fails = true → 0 ≤ p.left
theorem lf_falls {p : Pa} (h : p.fit) : p.falls = decide (lf p = 0) := by
  unfold Pa.falls lf
  cases hf : p.fails with
  | false => simp
  | true =>
    have := h hf
    simp only [Bool.true_and, if_true, decide_eq_decide]
    omega
theorem lf_lo {p : Pa} (h : p.fit) : -1 ≤ lf p := by
  unfold lf
  split
  · rename_i hf; have := h hf; omega
  · omega
/-- What step leaves of it. -/
theorem lf_step {p : Pa} (h : p.fit) : lf p.step = (if lf p < 0 then lf p else lf p - 1) ∧ p.step.fit ∧ (p.falls = false → p.step.off = p.off) ∧ (p.falls = true → p.step.off = true) := by
  obtain ⟨off, left, fails⟩ := p
  cases fails with
  | false => exact ⟨rfl, fun h => (by cases h), fun _ => rfl, fun h => (by cases h)⟩
  | true =>
    have h0 : 0 ≤ left := h rfl
    by_cases h1 : left ≤ 0
    · have e : Pa.step ⟨off, left, true⟩ = ⟨true, left, false⟩ := by simp [Pa.step, h1]
      rw [e]
      refine ⟨?_, fun h => (by cases h), fun h => ?_, fun _ => rfl⟩
      · show (-1 : Int) = if left < 0 then left else left - 1
        rw [if_neg (by omega)]; omega
      · simp [Pa.falls, h1] at h
    · have e : Pa.step ⟨off, left, true⟩ = ⟨off, left - 1, true⟩ := by simp [Pa.step, h1]
      rw [e]
      refine ⟨?_, fun _ => by simp only; omega, fun _ => rfl, fun h => ?_⟩
      · show left - 1 = if left < 0 then left else left - 1
        rw [if_neg (by omega)]
      · simp [Pa.falls, h1] at h
theorem torn_step {w o : Sec} {j : Nat} (hw : w.length = 128) (ho : o.length = 128) (hj : j < 128) : (w.take j ++ o.drop j).set j (w.getD j 0) = w.take (j + 1) ++ o.drop (j + 1) := by
  have hlt : j < w.length := by omega
  have h1 : (w.take j).length = j := by rw [List.length_take]; omega
  rw [List.set_append_right _ _ (by omega), h1, Nat.sub_self, List.drop_eq_getElem_cons (by omega : j < o.length), List.set_cons_zero, List.take_add_one, List.getElem?_eq_getElem hlt, Option.toList_some, List.append_assoc]
  simp [List.getD, hlt]
theorem torn_len {w o : Sec} {j : Nat} (hw : w.length = 128) (ho : o.length = 128) (hj : j ≤ 128) : (w.take j ++ o.drop j).length = 128 := by
  rw [List.length_append, List.length_take, List.length_drop]; omega
/-! ### What the deeds keep -/
def Ab.fit (a : Ab) : Prop := a.out = true → a.Q = []
theorem Ab.cut_fit {a : Ab} (h : a.fit) : a.cut.fit := by
  unfold Ab.cut
  split
  · exact h
  · rename_i ho; intro h2; exact absurd h2 ho
theorem Ab.step_fit {a : Ab} {q : Pa} (h : a.fit) : (a.step q).fit := by unfold Ab.step; split; exact Ab.cut_fit h; exact h
theorem Ab.flush_fit {a : Ab} (h : a.fit) : a.flush.fit := by
  unfold Ab.flush
  split
  · exact h
  · intro _; rfl
/-- The last of the first writes that wait. -/
def nowK (a : Ab) (n k : Nat) : Sec := (lastW (a.Q.take k) n).getD (a.S.getD n [])
theorem nowK_next {a : Ab} {n k : Nat} {x : Nat × Sec} (h : a.Q[k]? = some x) : nowK a n (k + 1) = if x.1 = n then x.2 else nowK a n k := by
  unfold nowK
  rw [List.take_add_one, h, Option.toList_some, lastW_snoc]
  split <;> rfl
theorem nowK_all (a : Ab) (n : Nat) : nowK a n a.Q.length = a.read n := by unfold nowK Ab.read; rw [List.take_length]
theorem nowK_0 (a : Ab) (n : Nat) : nowK a n 0 = a.S.getD n [] := rfl
theorem nowK_len {a : Ab} (h : a.ok) {n : Nat} (hn : n < a.S.length) : ∀ k, k ≤ a.Q.length → (nowK a n k).length = 128
  | 0, _ => by rw [nowK_0, show a.S.getD n [] = a.S[n] from by simp [List.getD, hn]]; exact h.1 _ (List.getElem_mem hn)
  | k + 1, hk => by
    obtain ⟨x, hx⟩ : ∃ x, a.Q[k]? = some x := ⟨_, List.getElem?_eq_getElem (by omega)⟩
    rw [nowK_next hx]
    split
    · exact (h.2.2.1 _ (List.mem_of_getElem? hx)).2
    · exact nowK_len h hn k (by omega)
theorem Rv.push_ok {d : Rv} {n : Nat} {s : Sec} {g : Option SlG} (h : d.ok) (hn : n < d.a.S.length) (hs : s.length = 128) (hq : d.a.Q.length < 100000) (hg : slOk 129 g (d.a.push n s).Q.length (wcs (d.a.push n s).Q)) : Rv.ok ⟨d.b, d.st, g, d.a.push n s⟩ := by
  obtain ⟨⟨h1, h2, h3, h4⟩, h5, h6⟩ := h
  refine ⟨⟨h1, h2, fun x hx => ?_, h4⟩, hg, ?_⟩
  · simp only [Ab.push] at hx ⊢
    rcases List.mem_append.1 hx with h | h
    · exact h3 x h
    · simp at h; subst h; exact ⟨hn, hs⟩
  · simp only [Ab.push, List.length_append, List.length_cons, List.length_nil]; omega
/-- A flush of all that waits. -/
def Rv.fl (d : Rv) : Rv := { d with g := none, a := { d.a with S := flushN d.a d.a.Q.length, Q := [] } }
theorem Rv.fl_ok {d : Rv} (h : d.ok) : d.fl.ok := by
  obtain ⟨h1, h2⟩ := flushN_ok h.1 d.a.Q.length
  exact ⟨⟨h1, by have := h.1.2.1; simp only [Rv.fl]; omega, fun x hx => by simp [Rv.fl] at hx, h.1.2.2.2⟩, ⟨by simp [Rv.fl, wcs], rfl⟩, by simp [Rv.fl]⟩
theorem Rv.fl_segs (t : RT) {b st : Nat} {g : Option SlG} {a : Ab} (h : a.ok) : (Rv.fl ⟨b, st, g, a⟩).o t = [(b, .cells #[.slice (some ⟨st, 0, none⟩) a.S.length a.S.length, .slice none 0 0, .int .i64 (a.kept : Int), .int .i64 (a.bytes : Int), .bool a.lies, .bool a.out] t.dev)] ∧
    (Rv.fl ⟨b, st, g, a⟩).t t = [(st, .cells (bs (flushN a a.Q.length).flatten).toArray t.sec)] ∧ (Rv.fl ⟨b, st, g, a⟩).q t = [] := by
  have := (flushN_ok h a.Q.length).2
  simp [Rv.fl, Rv.o, Rv.t, Rv.q, this, slV, slSeg]
theorem Rv.fl_a {d : Rv} (h : d.a.lies = false) : d.fl.a = d.a.flush := by simp [Rv.fl, Ab.flush, h]
theorem Rv.set_ok {d : Rv} {a : Ab} (h : d.ok) (ha : a.ok) (hQ : a.Q = d.a.Q) : Rv.ok { d with a := a } := ⟨ha, by simp only; rw [hQ]; exact h.2.1, by simp only; rw [hQ]; exact h.2.2⟩
/-! ### Deeds -/
def odd8 (c : UInt8) : Bool := decide ((c.toNat : Int).tmod 2 = 1)
def dE (A : Da) (i : Bool) (k n m : Int) : Int := if k = 0 then A.wE i n else if k = 1 then A.fE i else if k = 2 then A.rE i n else if k = 6 then (if (A.dev i).rotE n m then 1 else 0) else 0
def dS (A : Da) (i : Bool) (k n : Int) : Sec := if k = 2 then A.rS i n else secOf 0
def dA (A : Da) (i : Bool) (k n m : Int) (c : UInt8) : Da :=
  if k = 0 then A.write i n (secOf c) else if k = 1 then A.flush i else if k = 2 then A else if k = 3 then A.setd i ((A.dev i).tear n m) else if k = 4 then A.setd i { A.dev i with lies := odd8 c }
  else if k = 5 then A.setd i ((A.dev i).outs (odd8 c)) else if k = 6 then A.setd i ((A.dev i).rots n m c) else if k = 7 then { A with p := A.p.fail n } else if k = 8 then { A with p := A.p.restart } else A
theorem dS_len {A : Da} {i : Bool} {k n : Int} (h : (A.dev i).ok) : (dS A i k n).length = 128 := by
  unfold dS
  split
  · exact readS_len h
  · exact secOf_len 0
/-- What holds of the two throughout. -/
structure Ok8 (A : Da) (m : Nat) : Prop where
  q : A.q = none
  fa : A.a.fit
  fb : A.b.fit
  fp : A.p.fit
  la : A.a.Q.length ≤ m
  lb : A.b.Q.length ≤ m
  lp : A.p.left ≤ 9223372036854775807
theorem Ok8.dev {A : Da} {m : Nat} (h : Ok8 A m) (i : Bool) : (A.dev i).fit ∧ (A.dev i).Q.length ≤ m := by
  cases i
  · exact ⟨h.fa, h.la⟩
  · exact ⟨h.fb, h.lb⟩
theorem Ok8.setd {A : Da} {m : Nat} (h : Ok8 A m) (i : Bool) {x : Ab} (hf : x.fit) (hl : x.Q.length ≤ m) : Ok8 (A.setd i x) m := by
  cases i
  · exact ⟨h.q, hf, h.fb, h.fp, hl, h.lb, h.lp⟩
  · exact ⟨h.q, h.fa, hf, h.fp, h.la, hl, h.lp⟩
theorem Ok8.setp {A : Da} {m : Nat} (h : Ok8 A m) (i : Bool) {p : Pa} (hf : p.fit) (hl : p.left ≤ 9223372036854775807) : Ok8 (A.setp i p) m := by
  obtain ⟨a, b, p0, q⟩ := A
  obtain rfl : q = none := h.q
  cases i <;> exact ⟨rfl, h.fa, h.fb, hf, h.la, h.lb, hl⟩
theorem Ok8.mono {A : Da} {m n : Nat} (h : Ok8 A m) (hn : m ≤ n) : Ok8 A n := ⟨h.q, h.fa, h.fb, h.fp, Nat.le_trans h.la hn, Nat.le_trans h.lb hn, h.lp⟩
theorem Ok8.pow {A : Da} {m : Nat} (h : Ok8 A m) (i : Bool) : A.pow i = A.p := by
  obtain ⟨a, b, p0, q⟩ := A
  obtain rfl : q = none := h.q
  cases i <;> rfl
theorem Ok8.oth {A : Da} {m : Nat} (h : Ok8 A m) (i c : Bool) : Ok8 (A.oth i c) m := by
  unfold Da.oth
  split
  · exact h.setd _ (Ab.step_fit (h.dev _).1) (Nat.le_trans (Ab.step_many _ _) (h.dev _).2)
  · exact h
theorem step_left {p : Pa} (h : p.fit) (hl : p.left ≤ 9223372036854775807) : p.step.left ≤ 9223372036854775807 := by
  unfold Pa.step
  split
  · split <;> simp only <;> omega
  · exact hl
theorem push_fit {a : Ab} {n : Nat} {s : Sec} {q : Pa} {k : Int} (h : wgo a q k = true) : (a.push n s).fit := by
  intro ho
  unfold wgo Ab.down at h
  rw [show a.out = true from ho] at h
  simp at h
theorem writeA_fit {a : Ab} {q : Pa} {n : Int} {s : Sec} (h : a.fit) : (writeA a q n s).fit := by
  unfold writeA
  split
  · rename_i hw; exact Ab.step_fit (push_fit hw)
  · exact h
theorem flushA_fit {a : Ab} {q : Pa} (h : a.fit) : (flushA a q).fit := by
  unfold flushA
  split
  · exact h
  · split
    · exact Ab.cut_fit h
    · exact Ab.flush_fit h
theorem Ok8.write {A : Da} {m : Nat} (h : Ok8 A m) (i : Bool) (n : Int) (s : Sec) : Ok8 (A.write i n s) (m + 1) := by
  unfold Da.write
  have e := h.pow i
  have h1 := ((h.oth i (wgo (A.dev i) (A.pow i) n)).mono (Nat.le_succ m)).setd i (x := writeA (A.dev i) (A.pow i) n s) (writeA_fit (h.dev i).1) (Nat.le_trans (writeA_many _ _ _ _) (Nat.succ_le_succ (h.dev i).2))
  refine h1.setp i ?_ ?_
  · unfold writeP; split
    · rw [e]; exact (lf_step h.fp).2.1
    · rw [e]; exact h.fp
  · unfold writeP; split
    · rw [e]; exact step_left h.fp h.lp
    · rw [e]; exact h.lp
theorem Ok8.flush {A : Da} {m : Nat} (h : Ok8 A m) (i : Bool) : Ok8 (A.flush i) m := by
  unfold Da.flush
  have e := h.pow i
  have h1 := (h.oth i (!(A.dev i).down (A.pow i))).setd i (x := flushA (A.dev i) (A.pow i)) (flushA_fit (h.dev i).1) (Nat.le_trans (flushA_many _ _) (h.dev i).2)
  refine h1.setp i ?_ ?_
  · unfold flushP; split
    · rw [e]; exact h.fp
    · rw [e]; exact (lf_step h.fp).2.1
  · unfold flushP; split
    · rw [e]; exact h.lp
    · rw [e]; exact step_left h.fp h.lp
theorem Ok8.deed {A : Da} {m : Nat} (h : Ok8 A m) (i : Bool) (k n j : Int) (c : UInt8) (hn : n ≤ 9223372036854775807) : Ok8 (dA A i k n j c) (m + 1) := by
  have h' := h.mono (Nat.le_succ m)
  have hd := h'.dev i
  unfold dA
  split
  · exact h.write i n _
  · split
    · exact (h.flush i).mono (Nat.le_succ m)
    · split
      · exact h'
      · split
        · exact h'.setd i (fun ho => hd.1 ho) hd.2
        · split
          · exact h'.setd i (fun ho => hd.1 ho) hd.2
          · split
            · refine h'.setd i ?_ ?_
              · unfold Ab.outs; split
                · exact fun _ => rfl
                · exact fun ho => by cases ho
              · unfold Ab.outs; split
                · simp
                · exact hd.2
            · split
              · refine h'.setd i ?_ ?_
                · unfold Ab.rots; split
                  · exact fun ho => hd.1 ho
                  · exact hd.1
                · unfold Ab.rots; split
                  · exact hd.2
                  · exact hd.2
              · split
                · exact ⟨h'.q, h'.fa, h'.fb, fun hf => by simpa [Pa.fail] using hf, h'.la, h'.lb, hn⟩
                · split
                  · exact ⟨h'.q, h'.fa, h'.fb, fun hf => by simp [Pa.restart] at hf, h'.la, h'.lb, h'.lp⟩
                  · exact h'
/-! ### The memory that all calls see -/
abbrev RH (t : RT) (d e : Rv) (pb : Nat) (gl : SlG) (off : Bool) (left : Int) (x y : Nat) (H : Hp) : Hp := d.o t :: d.t t :: d.q t :: e.o t :: e.t t :: e.q t :: rpo t pb gl off left :: rpq t gl x y :: H
def Ord8 (x y a b : Nat) : Prop := (x = a ∧ y = b) ∨ (x = b ∧ y = a)
theorem wcs_n {Q : List (Nat × Sec)} {i : Nat} {x : Nat × Sec} (sp : List Value) (hQ : ∀ x ∈ Q, x.2.length = 128) (hx : Q[i]? = some x) : (wcs Q ++ sp)[i * 129]? = some (.int .i64 (x.1 : Int)) := by
  have h := congrArg (·[0]?) (wcs_get sp hQ hx)
  simp only [List.getElem?_take_of_lt (by decide : 0 < 129), List.getElem?_drop, Nat.add_zero, List.getElem?_cons_zero] at h
  exact h
theorem wcs_n0 {Q : List (Nat × Sec)} {i : Nat} {x : Nat × Sec} (sp : List Value) (hQ : ∀ x ∈ Q, x.2.length = 128) (hx : Q[i]? = some x) : (wcs Q ++ sp)[i * 129 + 0]? = some (.int .i64 (x.1 : Int)) := by
  rw [Nat.add_zero]; exact wcs_n sp hQ hx
theorem wcs_s {Q : List (Nat × Sec)} {i : Nat} {x : Nat × Sec} (sp : List Value) (hQ : ∀ x ∈ Q, x.2.length = 128) (hx : Q[i]? = some x) : ((wcs Q ++ sp).drop (i * 129 + 1)).take 128 = bs x.2 := by
  have h := congrArg (List.drop 1) (wcs_get sp hQ hx)
  rw [List.drop_take, List.drop_drop] at h
  exact h
theorem wcs_ones (Q : List (Nat × Sec)) : ∀ v ∈ wcs Q, one v = true := fun v hv => by
  obtain ⟨x, _, h⟩ := List.mem_flatMap.1 hv
  exact one_wr _ _ v h
/-! ### What a call answers, and does to the device in hand, the other one and the power -/
theorem wr_dn {a : Ab} {p : Pa} (h : a.down p = true) (n : Int) (s : Sec) : writeE a p n = 13 ∧ writeA a p n s = a ∧ wgo a p n = false ∧ writeP a p n = p := by simp [writeE, writeA, writeP, wgo, h]
theorem wr_far {a : Ab} {p : Pa} (h : a.down p = false) {n : Int} (hn : a.has n = false) (s : Sec) : writeE a p n = 2 ∧ writeA a p n s = a ∧ wgo a p n = false ∧ writeP a p n = p := by simp [writeE, writeA, writeP, wgo, h, hn]
theorem wr_go {a : Ab} {p : Pa} (h : a.down p = false) {n : Int} (hn : a.has n = true) (s : Sec) : writeE a p n = (if p.falls then 13 else 0) ∧ writeA a p n s = (a.push n.toNat s).step p ∧ wgo a p n = true ∧ writeP a p n = p.step := by simp [writeE, writeA, writeP, wgo, h, hn]
theorem fl_dn {a : Ab} {p : Pa} (h : a.down p = true) : flushE a p = 13 ∧ flushA a p = a ∧ flushP a p = p := by simp [flushE, flushA, flushP, h]
theorem fl_go {a : Ab} {p : Pa} (h : a.down p = false) : flushE a p = (if p.falls then 13 else 0) ∧ flushA a p = (if p.falls then a.cut else a.flush) ∧ flushP a p = p.step := by simp [flushE, flushA, flushP, h]
theorem rd_dn {a : Ab} {p : Pa} (h : a.down p = true) (n : Int) : readE a p n = 13 ∧ readS a p n = secOf 0 := by simp [readE, readS, h]
theorem rd_far {a : Ab} {p : Pa} (h : a.down p = false) {n : Int} (hn : a.has n = false) : readE a p n = 2 ∧ readS a p n = secOf 0 := by simp [readE, readS, h, hn]
theorem rd_go {a : Ab} {p : Pa} (h : a.down p = false) {n : Int} (hn : a.has n = true) : readE a p n = 0 ∧ readS a p n = a.read n.toNat := by simp [readE, readS, h, hn]
theorem down_or {a : Ab} {p : Pa} : (a.down p = true ∧ p.off = true) ∨ (a.down p = true ∧ p.off = false ∧ a.out = true) ∨ (a.down p = false ∧ p.off = false ∧ a.out = false) := by
  unfold Ab.down
  cases p.off <;> cases a.out <;> simp
theorem has_or {a : Ab} {n : Int} : (a.has n = false ∧ ¬ (0 ≤ n ∧ n < a.S.length)) ∨ (∃ k : Nat, n = (k : Int) ∧ k < a.S.length ∧ a.has n = true) := by
  by_cases h : 0 ≤ n ∧ n < a.S.length
  · obtain ⟨k, rfl⟩ := Int.eq_ofNat_of_zero_le h.1
    exact .inr ⟨k, rfl, by omega, by simp [Ab.has]; omega⟩
  · refine .inl ⟨?_, h⟩
    simp [Ab.has]; omega
structure Res8 (d e d' e' : Rv) (B : Ab) (c : Bool) (p : Pa) : Prop where
  dok : d'.ok
  eok : e'.ok
  db : d'.b = d.b
  eb : e'.b = e.b
  da : d'.a = B
  ea : e'.a = if c then e.a.step p else e.a
theorem Res8.same {d e : Rv} (hd : d.ok) (he : e.ok) (p : Pa) : Res8 d e d e d.a false p := ⟨hd, he, rfl, rfl, rfl, rfl⟩
theorem Res8.mine {d d' e : Rv} {B : Ab} (hd : d'.ok) (he : e.ok) (hb : d'.b = d.b) (ha : d'.a = B) (p : Pa) : Res8 d e d' e B false p := ⟨hd, he, hb, rfl, ha, rfl⟩
theorem Res8.set {d e : Rv} (B : Ab) (hd : d.ok) (he : e.ok) (hB : B.ok) (hQ : B.Q = d.a.Q) (p : Pa) : Res8 d e { d with a := B } e B false p := ⟨Rv.set_ok hd hB hQ, he, rfl, rfl, rfl, rfl⟩
theorem step_f {a : Ab} {p : Pa} (h : p.falls = false) : a.step p = a := by simp [Ab.step, h]
theorem step_t {a : Ab} {p : Pa} (h : p.falls = true) : a.step p = a.cut := by simp [Ab.step, h]
theorem Res8.still {d d' e : Rv} {B : Ab} {p : Pa} (hd : d'.ok) (he : e.ok) (hb : d'.b = d.b) (ha : d'.a = B) (hf : p.falls = false) : Res8 d e d' e B true p := ⟨hd, he, hb, rfl, ha, by rw [step_f hf]; simp⟩
theorem Res8.cuts {d d' e : Rv} {B : Ab} {p : Pa} (hd : d'.ok) (he : e.ok) (hb : d'.b = d.b) (ha : d'.a.cut = B) (hf : p.falls = true) : Res8 d e d'.cut e.cut B true p := ⟨Rv.cut_ok hd, Rv.cut_ok he, (Rv.cut_b _).trans hb, Rv.cut_b _, (Rv.cut_a _).trans ha, by rw [step_t hf]; simpa using Rv.cut_a e⟩
/-- Both devices of the document stand for a state of the two. -/
structure R8s (R : Rv × Rv) (A : Da) (rx ry : Nat) : Prop where
  xok : R.1.ok
  yok : R.2.ok
  xa : R.1.a = A.a
  ya : R.2.a = A.b
  xb : R.1.b = rx
  yb : R.2.b = ry
theorem R8s.view {R : Rv × Rv} {A : Da} {rx ry : Nat} (h : R8s R A rx ry) (hq : A.q = none) (i : Bool) (t : RT) (pb : Nat) (gl : SlG) (H : Hp) : ∃ d e : Rv, d.ok ∧ e.ok ∧ d.b = sel rx ry i ∧ d.a = A.dev i ∧ Ord8 rx ry d.b e.b ∧ (∀ off left, HSub (RH t d e pb gl off left rx ry H) (RH t R.1 R.2 pb gl off left rx ry H)) ∧
    ∀ B c p' d' e', Res8 d e d' e' B c A.p → ∃ R', R8s R' (((A.oth i c).setd i B).setp i p') rx ry ∧ ∀ off left, HSub (RH t R'.1 R'.2 pb gl off left rx ry H) (RH t d' e' pb gl off left rx ry H) := by
  obtain ⟨a, b, p, q⟩ := A
  obtain rfl : q = none := hq
  obtain ⟨h1, h2, h3, h4, h5, h6⟩ := h
  simp only at h3 h4
  cases i
  · refine ⟨R.1, R.2, h1, h2, h5, h3, .inl ⟨h5.symm, h6.symm⟩, fun _ _ => HSub.refl _, ?_⟩
    rintro B c p' d' e' ⟨k1, k2, k3, k4, k5, k6⟩
    refine ⟨(d', e'), ⟨k1, k2, ?_, ?_, k3.trans h5, k4.trans h6⟩, fun _ _ => HSub.refl _⟩
    · cases c <;> exact k5
    · rw [h4] at k6
      cases c <;> exact k6
  · refine ⟨R.2, R.1, h2, h1, h6, h4, .inr ⟨h5.symm, h6.symm⟩, fun _ _ => hsub_pick [3, 3, 3] rfl, ?_⟩
    rintro B c p' d' e' ⟨k1, k2, k3, k4, k5, k6⟩
    refine ⟨(e', d'), ⟨k2, k1, ?_, ?_, k4.trans h5, k3.trans h6⟩, fun _ _ => hsub_pick [3, 3, 3] rfl⟩
    · rw [h3] at k6
      cases c <;> exact k6
    · cases c <;> exact k5
/-! ### One deed, at a device -/
def e1 (a : Ab) (p : Pa) (k n m : Int) : Int := if k = 0 then writeE a p n else if k = 1 then flushE a p else if k = 2 then readE a p n else if k = 6 then (if a.rotE n m then 1 else 0) else 0
def s1 (a : Ab) (p : Pa) (k n : Int) : Sec := if k = 2 then readS a p n else secOf 0
def a1 (a : Ab) (p : Pa) (k n m : Int) (c : UInt8) : Ab := if k = 0 then writeA a p n (secOf c) else if k = 1 then flushA a p else if k = 3 then a.tear n m else if k = 4 then { a with lies := odd8 c } else if k = 5 then a.outs (odd8 c) else if k = 6 then a.rots n m c else a
def c1 (a : Ab) (p : Pa) (k n : Int) : Bool := if k = 0 then wgo a p n else if k = 1 then !a.down p else false
def p1 (a : Ab) (p : Pa) (k n : Int) : Pa := if k = 0 then writeP a p n else if k = 1 then flushP a p else if k = 7 then p.fail n else if k = 8 then p.restart else p
theorem Da.pow_none {A : Da} (hq : A.q = none) (i : Bool) : A.pow i = A.p := by
  obtain ⟨a, b, p, q⟩ := A
  obtain rfl : q = none := hq
  cases i <;> rfl
theorem Da.setp_none {A : Da} (hq : A.q = none) (i : Bool) (x : Pa) : A.setp i x = { A with p := x } := by
  obtain ⟨a, b, p, q⟩ := A
  obtain rfl : q = none := hq
  cases i <;> rfl
theorem Da.setd_q (A : Da) (i : Bool) (x : Ab) : (A.setd i x).q = A.q := by cases i <;> rfl
theorem Da.oth_q (A : Da) (i c : Bool) : (A.oth i c).q = A.q := by unfold Da.oth; split; exact Da.setd_q _ _ _; rfl
theorem d1_eq {A : Da} (hq : A.q = none) (i : Bool) (k n m : Int) (c : UInt8) : dE A i k n m = e1 (A.dev i) A.p k n m ∧ dS A i k n = s1 (A.dev i) A.p k n ∧ dA A i k n m c = ((A.oth i (c1 (A.dev i) A.p k n)).setd i (a1 (A.dev i) A.p k n m c)).setp i (p1 (A.dev i) A.p k n) ∧ (dA A i k n m c).p = p1 (A.dev i) A.p k n := by
  have hpw := Da.pow_none hq i
  have hA : dA A i k n m c = ((A.oth i (c1 (A.dev i) A.p k n)).setd i (a1 (A.dev i) A.p k n m c)).setp i (p1 (A.dev i) A.p k n) := by
    have hs : ∀ x, (A.setd i x).setp i A.p = A.setd i x := fun x => by have := Da.setd_setp A i x; rwa [hpw] at this
    have hp : ∀ x, A.setp i x = { A with p := x } := fun x => Da.setp_none hq i x
    unfold dA c1 a1 p1
    by_cases h0 : k = 0
    · subst h0; simp only [if_true, Da.write, hpw]
    by_cases h1 : k = 1
    · subst h1; simp only [if_true, Da.flush, hpw, Int.one_ne_zero, if_false]
    simp only [h0, h1, if_false, Da.oth_f]
    by_cases h2 : k = 2
    · subst h2
      have e : A.setp i A.p = A := by have := Da.setp_self A i; rwa [hpw] at this
      simp [Da.setd_self, e]
    by_cases h3 : k = 3
    · subst h3; simp [hs]
    by_cases h4 : k = 4
    · subst h4; simp [hs]
    by_cases h5 : k = 5
    · subst h5; simp [hs]
    by_cases h6 : k = 6
    · subst h6; simp [hs]
    by_cases h7 : k = 7
    · subst h7; simp [Da.setd_self, hp]
    by_cases h8 : k = 8
    · subst h8; simp [Da.setd_self, hp]
    have e : A.setp i A.p = A := by have := Da.setp_self A i; rwa [hpw] at this
    simp [h2, h3, h4, h5, h6, h7, h8, Da.setd_self, e]
  refine ⟨?_, ?_, hA, ?_⟩
  · simp only [dE, e1, Da.wE, Da.fE, Da.rE, hpw]
  · simp only [dS, s1, Da.rS, hpw]
  · rw [hA, Da.setp_none (by rw [Da.setd_q, Da.oth_q]; exact hq)]
theorem lf_fail (p : Pa) (n : Int) : lf (p.fail n) = max n (-1) := by
  unfold lf Pa.fail
  by_cases h : 0 ≤ n
  · simp only [h, decide_true, if_true]; omega
  · simp only [h, decide_false, Bool.false_eq_true, if_false]; omega
theorem none1 {a : Ab} {p : Pa} {k n j : Int} {c : UInt8} (h0 : ¬ k = 0) (h1 : ¬ k = 1) (h2 : ¬ k = 2) (h3 : ¬ k = 3) (h4 : ¬ k = 4) (h5 : ¬ k = 5) (h6 : ¬ k = 6) (h7 : ¬ k = 7) (h8 : ¬ k = 8) : e1 a p k n j = 0 ∧ s1 a p k n = secOf 0 ∧ a1 a p k n j c = a ∧ c1 a p k n = false ∧ p1 a p k n = p := by
  simp [e1, s1, a1, c1, p1, h0, h1, h2, h3, h4, h5, h6, h7, h8]
theorem none2 {A : Da} {i : Bool} {k n j : Int} {c : UInt8} (h0 : ¬ k = 0) (h1 : ¬ k = 1) (h2 : ¬ k = 2) (h3 : ¬ k = 3) (h4 : ¬ k = 4) (h5 : ¬ k = 5) (h6 : ¬ k = 6) (h7 : ¬ k = 7) (h8 : ¬ k = 8) : dE A i k n j = 0 ∧ dS A i k n = secOf 0 ∧ dA A i k n j c = A := by
  simp [dE, dS, dA, h0, h1, h2, h3, h4, h5, h6, h7, h8]
theorem lf_hi {p : Pa} (h : p.left ≤ 9223372036854775807) : lf p ≤ 9223372036854775807 := by
  unfold lf; split <;> omega
theorem Rv.new_ok {b st k : Nat} (h : k ≤ 4096) : Rv.ok ⟨b, st, none, Ab.new k⟩ := ⟨Ab.new_ok h, ⟨rfl, rfl⟩, by simp [Ab.new]⟩
theorem Ok8.new (x y : Nat) : Ok8 ⟨Ab.new x, Ab.new y, ⟨false, 0, false⟩, none⟩ 0 := ⟨rfl, fun _ => rfl, fun _ => rfl, fun h => (by cases h), Nat.le_refl _, Nat.le_refl _, (by simp only; decide)⟩
def zi (z : Bool) : Nat := if z then 1 else 0
theorem zi_lt (z : Bool) : zi z < 2 := by cases z <;> decide
theorem slV_ex {sz len : Nat} {g : Option SlG} {xs : List Value} (h : slOk sz g len xs) : ∃ a cap, slV g len = .slice a len cap := by
  cases g with
  | none => exact ⟨none, 0, by rw [h.2]; rfl⟩
  | some g => exact ⟨_, _, rfl⟩
theorem deed_row {l : List Value} {off i : Nat} {ds : List DeedM} {x : DeedM} (hv : (l.drop off).take (deeds ds).length = deeds ds) (hi : ds[i]? = some x) : (l.drop (off + i * 5)).take 5 = dcells x := by
  apply List.ext_getElem?
  intro j
  by_cases hj : j < 5
  · rw [List.getElem?_take_of_lt hj, List.getElem?_drop, deed_at hv hi hj]
  · rw [List.getElem?_eq_none (by rw [List.length_take]; omega), List.getElem?_eq_none (by simp [dcells]; omega)]
theorem szOf4 (n : Int) : szOf n ≤ 4096 := by unfold szOf; omega
end Go.Sl

/- Loops round by round (own work). -/
set_option linter.unusedVariables false
namespace Go.Sl
variable {P : Program} {n : FN} {w0 : World} {Q : Post} {E : Env} {H : Hp}
/-- Within a loop, ahead of a round. -/
def WpIn (P : Program) (n : FN) (w0 : World) (c : Code) (Q : Post) (E : Env) (H : Hp) : Prop := ∀ a w, FrOk n E a → St w0 w H → ∀ b k cs,
  ∃ e a' w', lift n w0 Q e a' w' ∧ Arrives P (lone (b.at a (.code c :: .inLoop c :: k)) cs w) b k cs e a' w'
theorem C_loopIn {c : Code} (h : WpIn P n w0 c Q E H) : WpC P n w0 (.loop c) Q E H := by
  intro a w ha hw b k cs
  obtain ⟨e, a', w', hq, harr⟩ := h a w ha hw b k cs
  exact ⟨e, a', w', hq, .of_steps (.one step_loop) harr⟩
theorem In_round {c : Code} (h : WpC P n w0 c (thenQ (fun E' H' => WpIn P n w0 c Q E' H') Q) E H) : WpIn P n w0 c Q E H := by
  intro a w ha hw b k cs
  obtain ⟨e, a₁, w₁, hq, harr⟩ := h a w ha hw b (.inLoop c :: k) cs
  obtain ⟨E₁, H₁, f1, s1, q⟩ := hq
  cases e with
  | normal =>
    obtain ⟨e₂, a₂, w₂, hq₂, harr₂⟩ := q a₁ w₁ (f1.2 rfl) s1 b k cs
    exact ⟨e₂, a₂, w₂, hq₂, .of_steps (Steps.trans harr (.one step_inLoop)) harr₂⟩
  | exit id => exact ⟨_, a₁, w₁, ⟨E₁, H₁, f1, s1, q⟩, .pass (x := .inLoop c) rfl (fun _ _ => .inl (by simp)) harr⟩
  | goto l => exact ⟨_, a₁, w₁, ⟨E₁, H₁, f1, s1, q⟩, .pass (x := .inLoop c) rfl (fun _ _ => .inl (by simp)) harr⟩
  | ret => exact ⟨_, a₁, w₁, ⟨E₁, H₁, f1, s1, q⟩, .pass (x := .inLoop c) rfl (fun _ _ => .inl (by simp)) harr⟩
  | panic ch => exact ⟨_, a₁, w₁, ⟨E₁, H₁, f1, s1, q⟩, .pass (x := .inLoop c) rfl (fun _ _ => .inl (by simp)) harr⟩
  | outgrown => exact ⟨_, a₁, w₁, ⟨E₁, H₁, f1, s1, q⟩, .pass (x := .inLoop c) rfl (fun _ _ => .inl (by simp)) harr⟩
/-- Any of these loud operations may come up. -/
def HAll (P : Program) (n : FN) (w0 : World) (ops : List Oper) (Q : Post) (HS : Hp) (fuel : Nat) (listed : List Bool) (E : Env) (H : Hp) : List Nat → Prop
  | [] => True
  | k :: ks => (∃ o, ops[k]? = some o ∧ wE ops E o.guard = some true ∧ OpW P n w0 Q o E H (fun E' H' => HSub HS H' ∧ WpH P n w0 ops Q HS fuel (listed.set k true) E' H')) ∧ HAll P n w0 ops Q HS fuel listed E H ks
theorem HAll.mem {HS : Hp} {ops : List Oper} {fuel : Nat} {listed : List Bool} : ∀ {is : List Nat} {k : Nat}, HAll P n w0 ops Q HS fuel listed E H is → k ∈ is →
    ∃ o, ops[k]? = some o ∧ wE ops E o.guard = some true ∧ OpW P n w0 Q o E H (fun E' H' => HSub HS H' ∧ WpH P n w0 ops Q HS fuel (listed.set k true) E' H')
  | [], _, _, h => by simp at h
  | j :: is, k, h, hk => by
    rcases List.mem_cons.1 hk with rfl | h2
    · exact h.1
    · exact HAll.mem h.2 h2
theorem H_many {HS : Hp} {ops : List Oper} {fuel : Nat} {listed : List Bool} (is : List Nat) (hr : Region.ready .any ops.toArray listed.toArray = is) (hne : is ≠ []) (h : HAll P n w0 ops Q HS fuel listed E H is) :
    WpH P n w0 ops Q HS (fuel + 1) listed E H := fun a w ha hw =>
  wpAnyH_all hr hne fun k hk => by
    obtain ⟨o, hi, hg, h1⟩ := h.mem hk
    exact wpOp_of_OpW hi hg h1 ha hw
end Go.Sl

/- walks (own work; the walks' lines by a program of this repo). -/
set_option linter.unusedVariables false
set_option linter.unusedSimpArgs false
set_option maxRecDepth 20000
namespace Go.Proofs.Ytaeooiogjhkjfaa
open Go.Sl
attribute [local irreducible] BodyQ WpC WpL WpS WpH OpW FnS

abbrev rt : RT := ⟨46, 38, 148, 33, 29⟩

theorem rstep_s {w0 : World} {H : Hp} {pb : Nat} {gl : SlG} {off : Bool} (left : Int) (h1 : -1 ≤ left) (h2 : left ≤ 9223372036854775807) : FnS Try.prog w0 91 #[ptr pb] (rpo rt pb gl off left :: H) (fun e H' => e = .returned (.bool (decide (left = 0))) ∧ H' = rpo rt pb gl off (if left < 0 then left else left - 1) :: H) := by
  refine FnS_intro (n := 20) (rs := [.tmp 2]) (vs := [ptr pb]) Try.func91 rfl Try.ntmps91 rfl rfl ?_
  refine C_seq ?_
  refine C_region ?_
  refine L_y rfl (y_assign rfl) rfl ?_
  refine L_nil ?_
  refine C_seq ?_
  refine C_seq ?_
  refine C_region ?_
  refine L_y rfl (y_move rfl) rfl ?_
  refine L_y rfl (y_nilCheck rfl) rfl ?_
  refine L_y rfl (y_fieldAddr rfl fl_29_2) rfl ?_
  refine L_y rfl (y_load rfl ag_3 (sees 0 0 rfl) rfl) rfl ?_
  refine L_y rfl (y_lss rfl rfl) rfl ?_
  refine L_nil ?_
  refine C_cond rfl (fun hc0 => ?_) (fun hc0 => ?_)
  · replace hc0 : left < 0 := of_decide_eq_true hc0
    refine C_seq ?_
    refine C_region ?_
    refine L_y rfl (y_assign rfl) rfl ?_
    refine L_nil ?_
    refine C_ret ?_
    refine B_ret (rv_tmp rfl rv_nil) ((hsub (.cons_cons _ (.refl _))).trans (hsub_pick [0] rfl)) ?_
    first
    | (rw [if_pos hc0]; exact ⟨ret_bool (decide_eq_false (by omega)).symm, rfl⟩)
    | (rw [if_neg hc0]; refine ⟨ret_bool ?_, rfl⟩; simp only [decide_eq_decide]; omega)
  · replace hc0 : ¬ left < 0 := of_decide_eq_false hc0
    refine C_skip ?_
    refine C_seq ?_
    refine C_region ?_
    refine L_y rfl (y_move rfl) rfl ?_
    refine L_y rfl (y_nilCheck rfl) rfl ?_
    refine L_y rfl (y_fieldAddr rfl fl_29_2) rfl ?_
    refine L_y rfl (y_load rfl ag_3 (sees 0 0 rfl) rfl) rfl ?_
    refine L_y rfl (y_sub rfl rfl (wi64 (by omega) (by omega))) rfl ?_
    refine L_y rfl (y_nilCheck rfl) rfl ?_
    refine L_y rfl (y_fieldAddr rfl fl_29_2) rfl ?_
    refine L_op rfl (op_store1 0 0 rfl rfl rfl sz_3 rfl (Nat.le_of_ble_eq_true rfl) ?_)
    refine L_nil ?_
    refine C_seq ?_
    refine C_region ?_
    refine L_y rfl (y_move rfl) rfl ?_
    refine L_y rfl (y_nilCheck rfl) rfl ?_
    refine L_y rfl (y_fieldAddr rfl fl_29_2) rfl ?_
    refine L_y rfl (y_load rfl ag_3 (sees 0 0 rfl) rfl) rfl ?_
    refine L_y rfl (y_lss rfl rfl) rfl ?_
    refine L_y rfl (y_assign rfl) rfl ?_
    refine L_nil ?_
    refine C_ret ?_
    refine B_ret (rv_tmp rfl rv_nil) ((hsub (.cons_cons _ (.refl _))).trans (hsub_pick [0] rfl)) ?_
    first
    | (rw [if_pos hc0]; exact ⟨ret_bool (decide_eq_false (by omega)).symm, rfl⟩)
    | (rw [if_neg hc0]; refine ⟨ret_bool ?_, rfl⟩; simp only [decide_eq_decide]; omega)

end Go.Proofs.Ytaeooiogjhkjfaa

/- walks (own work; the walks' lines by a program of this repo). -/
set_option linter.unusedVariables false
set_option linter.unusedSimpArgs false
set_option maxRecDepth 20000
namespace Go.Proofs.Ytaeooiogjhkjfaa
open Go.Sl
attribute [local irreducible] BodyQ WpC WpL WpS WpH OpW FnS



set_option maxHeartbeats 4000000 in

theorem rfall_x {w0 : World} {H : Hp} {pb : Nat} {gl : SlG} {off : Bool} {left : Int} {xb xst yb yst : Nat} {xg yg : Option SlG} {xa ya : Ab} (hx : (⟨xb, xst, xg, xa⟩ : Rv).ok) (hy : (⟨yb, yst, yg, ya⟩ : Rv).ok) : FnS Try.prog w0 92 #[ptr pb] (Rv.o rt (⟨xb, xst, xg, xa⟩ : Rv) :: Rv.t rt (⟨xb, xst, xg, xa⟩ : Rv) :: Rv.q rt (⟨xb, xst, xg, xa⟩ : Rv) :: Rv.o rt (⟨yb, yst, yg, ya⟩ : Rv) :: Rv.t rt (⟨yb, yst, yg, ya⟩ : Rv) :: Rv.q rt (⟨yb, yst, yg, ya⟩ : Rv) :: rpo rt pb gl off left :: rpq rt gl xb yb :: H) (fun e H' => e = .returned (.tuple #[]) ∧ H' = Rv.o rt (Rv.cut (⟨xb, xst, xg, xa⟩ : Rv)) :: Rv.t rt (Rv.cut (⟨xb, xst, xg, xa⟩ : Rv)) :: Rv.q rt (Rv.cut (⟨xb, xst, xg, xa⟩ : Rv)) :: Rv.o rt (Rv.cut (⟨yb, yst, yg, ya⟩ : Rv)) :: Rv.t rt (Rv.cut (⟨yb, yst, yg, ya⟩ : Rv)) :: Rv.q rt (Rv.cut (⟨yb, yst, yg, ya⟩ : Rv)) :: rpo rt pb gl true left :: rpq rt gl xb yb :: H) := by
  obtain ⟨hxa, hxq, hxl⟩ := hx
  obtain ⟨hya, hyq, hyl⟩ := hy
  simp only at hxa hxq hxl hya hyq hyl
  refine FnS_intro (n := 101) (rs := []) (vs := [ptr pb]) Try.func92 rfl Try.ntmps92 rfl rfl ?_
  refine C_seq ?_
  refine C_region ?_
  refine L_y rfl (y_move rfl) rfl ?_
  refine L_y rfl (y_nilCheck rfl) rfl ?_
  refine L_y rfl (y_fieldAddr rfl fl_29_1) rfl ?_
  refine L_op rfl (op_store1 6 0 rfl rfl rfl sz_4 rfl (Nat.le_of_ble_eq_true rfl) ?_)
  refine L_nil ?_
  refine C_seq ?_
  refine C_region ?_
  refine L_y rfl (y_assign rfl) rfl ?_
  refine L_nil ?_
  refine C_block ?_
  refine C_loopIn (In_round ?_)
  refine C_seq ?_
  refine C_seq ?_
  refine C_region ?_
  refine L_y rfl (y_move rfl) rfl ?_
  refine L_y rfl (y_move rfl) rfl ?_
  refine L_y rfl (y_nilCheck rfl) rfl ?_
  refine L_y rfl (y_fieldAddr rfl fl_29_0) rfl ?_
  refine L_y rfl (y_load rfl ag_27 (sees 6 0 rfl) rfl) rfl ?_
  refine L_y rfl (y_lenS rfl rfl Try.underlying27) rfl ?_
  refine L_y rfl (y_lss rfl rfl) rfl ?_
  refine L_nil ?_
  refine C_cond_t rfl ?_
  refine C_skip ?_
  refine C_seq ?_
  refine C_block ?_
  refine C_seq ?_
  refine C_region ?_
  refine L_y rfl (y_move rfl) rfl ?_
  refine L_y rfl (y_nilCheck rfl) rfl ?_
  refine L_y rfl (y_fieldAddr rfl fl_29_0) rfl ?_
  refine L_y rfl (y_load rfl ag_27 (sees 6 0 rfl) rfl) rfl ?_
  refine L_y rfl (y_move rfl) rfl ?_
  refine L_y rfl (y_indexS rfl rfl Try.underlying27 sz_33 (by omega) (by omega) (show _ = 0 from rfl)) rfl ?_
  refine L_y rfl (y_load rfl ag_33 (sees 7 0 rfl) rfl) rfl ?_
  refine L_y rfl (y_assign rfl) rfl ?_
  refine L_nil ?_
  refine C_seq ?_
  refine C_seq ?_
  refine C_region ?_
  refine L_y rfl (y_move rfl) rfl ?_
  refine L_y rfl (y_nilCheck rfl) rfl ?_
  refine L_y rfl (y_fieldAddr rfl fl_46_5) rfl ?_
  refine L_y rfl (y_load rfl ag_4 (sees 0 0 rfl) rfl) rfl ?_
  refine L_nil ?_
  refine C_cond rfl (fun hc1 => ?_) (fun hc1 => ?_)
  · have hox : xa.out = true := hc1
    refine C_exit ?_
    refine C_region ?_
    refine L_y rfl (y_move rfl) rfl ?_
    refine L_y rfl (y_add rfl rfl (show _ = (1 : Int) from rfl)) rfl ?_
    refine L_y rfl (y_assign rfl) rfl ?_
    refine L_nil ?_
    refine In_round ?_
    refine C_seq ?_
    refine C_seq ?_
    refine C_region ?_
    refine L_y rfl (y_move rfl) rfl ?_
    refine L_y rfl (y_move rfl) rfl ?_
    refine L_y rfl (y_nilCheck rfl) rfl ?_
    refine L_y rfl (y_fieldAddr rfl fl_29_0) rfl ?_
    refine L_y rfl (y_load rfl ag_27 (sees 6 0 rfl) rfl) rfl ?_
    refine L_y rfl (y_lenS rfl rfl Try.underlying27) rfl ?_
    refine L_y rfl (y_lss rfl rfl) rfl ?_
    refine L_nil ?_
    refine C_cond_t rfl ?_
    refine C_skip ?_
    refine C_seq ?_
    refine C_block ?_
    refine C_seq ?_
    refine C_region ?_
    refine L_y rfl (y_move rfl) rfl ?_
    refine L_y rfl (y_nilCheck rfl) rfl ?_
    refine L_y rfl (y_fieldAddr rfl fl_29_0) rfl ?_
    refine L_y rfl (y_load rfl ag_27 (sees 6 0 rfl) rfl) rfl ?_
    refine L_y rfl (y_move rfl) rfl ?_
    refine L_y rfl (y_indexS rfl rfl Try.underlying27 sz_33 (by omega) (by omega) (show _ = 1 from rfl)) rfl ?_
    refine L_y rfl (y_load rfl ag_33 (sees 7 0 rfl) rfl) rfl ?_
    refine L_y rfl (y_assign rfl) rfl ?_
    refine L_nil ?_
    refine C_seq ?_
    refine C_seq ?_
    refine C_region ?_
    refine L_y rfl (y_move rfl) rfl ?_
    refine L_y rfl (y_nilCheck rfl) rfl ?_
    refine L_y rfl (y_fieldAddr rfl fl_46_5) rfl ?_
    refine L_y rfl (y_load rfl ag_4 (sees 3 0 rfl) rfl) rfl ?_
    refine L_nil ?_
    refine C_cond rfl (fun hc1 => ?_) (fun hc1 => ?_)
    · have hoy : ya.out = true := hc1
      refine C_exit ?_
      refine C_region ?_
      refine L_y rfl (y_move rfl) rfl ?_
      refine L_y rfl (y_add rfl rfl (show _ = (2 : Int) from rfl)) rfl ?_
      refine L_y rfl (y_assign rfl) rfl ?_
      refine L_nil ?_
      refine In_round ?_
      refine C_seq ?_
      refine C_seq ?_
      refine C_region ?_
      refine L_y rfl (y_move rfl) rfl ?_
      refine L_y rfl (y_move rfl) rfl ?_
      refine L_y rfl (y_nilCheck rfl) rfl ?_
      refine L_y rfl (y_fieldAddr rfl fl_29_0) rfl ?_
      refine L_y rfl (y_load rfl ag_27 (sees 6 0 rfl) rfl) rfl ?_
      refine L_y rfl (y_lenS rfl rfl Try.underlying27) rfl ?_
      refine L_y rfl (y_lss rfl rfl) rfl ?_
      refine L_nil ?_
      refine C_cond_f rfl ?_
      refine C_exit ?_
      refine B_end rv_nil ((hsub_flat rfl : HSub ([(xb, .cells [.slice (some ⟨xst, 0, none⟩) xa.S.length xa.S.length, slV xg xa.Q.length, .int .i64 (xa.kept : Int), .int .i64 (xa.bytes : Int), .bool xa.lies, .bool xa.out].toArray 46)] :: [(xst, .cells (bs (xa.S).flatten).toArray 38)] :: slSeg 148 xg (wcs xa.Q) :: [(yb, .cells [.slice (some ⟨yst, 0, none⟩) ya.S.length ya.S.length, slV yg ya.Q.length, .int .i64 (ya.kept : Int), .int .i64 (ya.bytes : Int), .bool ya.lies, .bool ya.out].toArray 46)] :: [(yst, .cells (bs (ya.S).flatten).toArray 38)] :: slSeg 148 yg (wcs ya.Q) :: rpo rt pb gl true left :: rpq rt gl xb yb :: H) ([(xb, .cells [.slice (some ⟨xst, 0, none⟩) xa.S.length xa.S.length, slV xg xa.Q.length, .int .i64 (xa.kept : Int), .int .i64 (xa.bytes : Int), .bool xa.lies, .bool xa.out].toArray 46)] :: [(xst, .cells (bs (xa.S).flatten).toArray 38)] :: slSeg 148 xg (wcs xa.Q) :: [(yb, .cells [.slice (some ⟨yst, 0, none⟩) ya.S.length ya.S.length, slV yg ya.Q.length, .int .i64 (ya.kept : Int), .int .i64 (ya.bytes : Int), .bool ya.lies, .bool ya.out].toArray 46)] :: [(yst, .cells (bs (ya.S).flatten).toArray 38)] :: slSeg 148 yg (wcs ya.Q) :: rpo rt pb gl true left :: rpq rt gl xb yb :: H)).trans ((hsub (.cons_cons _ (.cons_cons _ (.cons_cons _ (.cons_cons _ (.cons_cons _ (.cons_cons _ (.cons_cons _ (.cons_cons _ (.refl _)))))))))).trans (hsub_pick [0, 0, 0, 0, 0, 0, 0, 0] rfl))) ?_
      rw [show Rv.cut (⟨xb, xst, xg, xa⟩ : Rv) = (⟨xb, xst, xg, xa⟩ : Rv) from Rv.cut_out hox]
      rw [show Rv.cut (⟨yb, yst, yg, ya⟩ : Rv) = (⟨yb, yst, yg, ya⟩ : Rv) from Rv.cut_out hoy]
      exact ⟨rfl, rfl⟩
    · have hoy : ya.out = false := hc1
      refine C_skip ?_
      refine C_seq ?_
      refine C_seq ?_
      refine C_region ?_
      refine L_y rfl (y_assign rfl) rfl ?_
      refine L_nil ?_
      refine C_block ?_
      refine C_loop (ι := Nat) (fun k => [(0, ptr pb), (2, .int .i64 1), (3, ptr yb), (4, .int .i64 (k : Int))]) (fun k => [(yb, .cells [.slice (some ⟨yst, 0, none⟩) ya.S.length ya.S.length, slV yg ya.Q.length, .int .i64 (ya.kept : Int), .int .i64 (ya.bytes : Int), .bool ya.lies, .bool ya.out].toArray 46)] :: [(yst, .cells (bs (cutN ya k).flatten).toArray 38)] :: slSeg 148 yg (wcs ya.Q) :: [(xb, .cells [.slice (some ⟨xst, 0, none⟩) xa.S.length xa.S.length, slV xg xa.Q.length, .int .i64 (xa.kept : Int), .int .i64 (xa.bytes : Int), .bool xa.lies, .bool xa.out].toArray 46)] :: [(xst, .cells (bs (xa.S).flatten).toArray 38)] :: slSeg 148 xg (wcs xa.Q) :: rpo rt pb gl true left :: rpq rt gl xb yb :: H) (fun k => k ≤ ya.Q.length) (fun k => ya.Q.length - k) 0 (Nat.zero_le _) ⟨rfl, rfl, rfl, rfl, trivial⟩ ((hsub (.cons_cons _ (.cons_cons _ (.cons_cons _ (.cons_cons _ (.cons_cons _ (.cons_cons _ (.cons_cons _ (.cons_cons _ (.refl _)))))))))).trans (hsub_pick [3, 3, 3, 0, 0, 0, 0, 0] rfl)) (fun k hk => ?_)
      skip
      refine C_seq ?_
      refine C_seq ?_
      refine C_region ?_
      refine L_y rfl (y_move rfl) rfl ?_
      refine L_y rfl (y_move rfl) rfl ?_
      refine L_y rfl (y_nilCheck rfl) rfl ?_
      refine L_y rfl (y_fieldAddr rfl fl_46_1) rfl ?_
      refine L_y rfl (y_load rfl ag_44 (sees 0 0 rfl) rfl) rfl ?_
      refine L_y rfl (y_lenV hyq rfl rfl Try.underlying44) rfl ?_
      refine L_y rfl (y_lss rfl rfl) rfl ?_
      refine L_nil ?_
      refine C_cond rfl (fun hc2 => ?_) (fun hc2 => ?_)
      · replace hc2 : k < ya.Q.length := by have := of_decide_eq_true hc2; omega
        obtain ⟨x, hx⟩ : ∃ x, ya.Q[k]? = some x := ⟨_, List.getElem?_eq_getElem (by omega)⟩
        have hxm := hya.2.2.1 x (List.mem_of_getElem? hx)
        obtain ⟨hS1, hS2⟩ := cutN_ok hya k
        have hfl := flat_len hS1
        have hQ : ∀ x ∈ ya.Q, x.2.length = 128 := fun x hx => (hya.2.2.1 x hx).2
        have hwl := wcs_len hQ
        have hQl := hyl
        cases yg with
        | none => exact absurd hyq.2 (by first | omega | (simp only; omega))
        | some yg => ?_
        refine C_skip ?_
        refine C_seq ?_
        refine C_block ?_
        refine C_seq ?_
        refine C_region ?_
        refine L_y rfl (y_move rfl) rfl ?_
        refine L_y rfl (y_nilCheck rfl) rfl ?_
        refine L_y rfl (y_fieldAddr rfl fl_46_1) rfl ?_
        refine L_y rfl (y_load rfl ag_44 (sees 0 0 rfl) rfl) rfl ?_
        refine L_y rfl (y_move rfl) rfl ?_
        refine L_y rfl (y_indexS rfl rfl Try.underlying44 sz_148 (by omega) (by omega) (show _ = k * 129 from by simp)) rfl ?_
        refine L_y rfl (y_loadA rfl ag_148 sz_148 (sees 2 0 rfl) (by rw [List.length_append, hwl]; omega) (wcs_get _ hQ hx)) rfl ?_
        refine L_op rfl (op_alloc zl_148 rfl (fun B1 => ?_))
        refine L_op rfl (op_storeA 0 0 rfl rfl rfl sz_148 (by simp [bs_length, hxm.2]) rfl (one_wr _ _) rfl ?_)
        refine L_nil ?_
        refine C_seq ?_
        refine C_region ?_
        refine L_y rfl (y_move rfl) rfl ?_
        refine L_y rfl (y_move rfl) rfl ?_
        refine L_y rfl (y_nilCheck rfl) rfl ?_
        refine L_y rfl (y_fieldAddr rfl fl_46_2) rfl ?_
        refine L_y rfl (y_load rfl ag_3 (sees 1 0 rfl) rfl) rfl ?_
        refine L_y rfl (y_lss rfl rfl) rfl ?_
        refine L_nil ?_
        refine C_cond rfl (fun hc3 => ?_) (fun hc3 => ?_)
        · replace hc3 : k < ya.kept := by have := of_decide_eq_true hc3; omega
          refine C_regionT 9 (by kernel_rfl) (by kernel_rfl) ?_
          refine S_y rfl (y_move rfl) rfl ?_
          refine S_y rfl (y_nilCheck rfl) rfl ?_
          refine S_y rfl (y_fieldAddr rfl fl_46_0) rfl ?_
          refine S_y rfl (y_load rfl ag_43 (sees 1 0 rfl) rfl) rfl ?_
          refine S_y rfl (y_fieldAddr rfl fl_148_0) rfl ?_
          refine S_y rfl (y_load rfl ag_3 (sees 0 0 rfl) rfl) rfl ?_
          refine S_y rfl (y_fieldAddr rfl fl_148_1) rfl ?_
          refine S_y rfl (y_loadA rfl ag_38 sz_38 (sees 0 0 rfl) (by simp [bs_length, hxm.2]) (bs_whole x.2 hxm.2)) rfl ?_
          refine S_y rfl (y_indexS rfl rfl Try.underlying43 sz_38 (by omega) (by first | omega | (simp only; omega)) (show _ = x.1 * 128 from by simp)) rfl ?_
          refine S_nil ?_
          refine L_op rfl (op_store 2 0 rfl rfl rfl sz_38 (by rw [bs_length, hxm.2]) rfl (bs_one _) (by rw [bs_length, hfl]; omega) ?_)
          rw [flat_spl hS1 (by omega) hxm.2, ← cutN_s1 hx hc3]
          refine L_nil ?_
          refine C_region ?_
          refine L_y rfl (y_move rfl) rfl ?_
          refine L_y rfl (y_add rfl rfl (show _ = ((k + 1 : Nat) : Int) from by rw [wi64 (by omega) (by omega)]; omega)) rfl ?_
          refine L_y rfl (y_assign rfl) rfl ?_
          refine L_nil ?_
          exact ⟨k + 1, by omega, by omega, ⟨rfl, rfl, rfl, rfl, trivial⟩, ((hsub (.cons_cons _ (.cons_cons _ (.cons_cons _ (.cons_cons _ (.cons_cons _ (.cons_cons _ (.cons_cons _ (.cons_cons _ (.cons _ (.refl _))))))))))).trans (hsub_pick [1, 1, 1, 1, 1, 1, 1, 1] rfl))⟩
        · replace hc3 : ¬ k < ya.kept := by have := of_decide_eq_false hc3; omega
          refine C_seq ?_
          refine C_region ?_
          refine L_y rfl (y_move rfl) rfl ?_
          refine L_y rfl (y_move rfl) rfl ?_
          refine L_y rfl (y_nilCheck rfl) rfl ?_
          refine L_y rfl (y_fieldAddr rfl fl_46_2) rfl ?_
          refine L_y rfl (y_load rfl ag_3 (sees 1 0 rfl) rfl) rfl ?_
          refine L_y rfl (y_eqi rfl rfl) rfl ?_
          refine L_nil ?_
          refine C_cond rfl (fun hc4 => ?_) (fun hc4 => ?_)
          · replace hc4 : k = ya.kept := by have := of_decide_eq_true hc4; omega
            obtain ⟨o, ho2⟩ : ∃ o, (cutN ya k)[x.1]? = some o := ⟨_, List.getElem?_eq_getElem (by omega)⟩
            have ho1 : o.length = 128 := hS1 _ (List.mem_of_getElem? ho2)
            refine C_seq ?_
            refine C_regionH0 (by kernel_rfl) ?_
            refine H_y 0 rfl (by kernel_rfl) (by kernel_rfl) (by kernel_rfl) (HSub.refl _) rfl (y_move rfl) rfl ?_
            refine H_y 1 rfl (by kernel_rfl) (by kernel_rfl) (by kernel_rfl) (HSub.refl _) rfl (y_nilCheck rfl) rfl ?_
            refine H_y 2 rfl (by kernel_rfl) (by kernel_rfl) (by kernel_rfl) (HSub.refl _) rfl (y_fieldAddr rfl fl_46_0) rfl ?_
            refine H_y 3 rfl (by kernel_rfl) (by kernel_rfl) (by kernel_rfl) (HSub.refl _) rfl (y_load rfl ag_43 (sees 1 0 rfl) rfl) rfl ?_
            refine H_y 4 rfl (by kernel_rfl) (by kernel_rfl) (by kernel_rfl) (HSub.refl _) rfl (y_fieldAddr rfl fl_148_0) rfl ?_
            refine H_y 5 rfl (by kernel_rfl) (by kernel_rfl) (by kernel_rfl) (HSub.refl _) rfl (y_load rfl ag_3 (sees 0 0 rfl) rfl) rfl ?_
            refine H_y 6 rfl (by kernel_rfl) (by kernel_rfl) (by kernel_rfl) (HSub.refl _) rfl (y_indexS rfl rfl Try.underlying43 sz_38 (by omega) (by first | omega | (simp only; omega)) (show _ = x.1 * 128 from by simp)) rfl ?_
            refine H_y 7 rfl (by kernel_rfl) (by kernel_rfl) (by kernel_rfl) (HSub.refl _) rfl (y_loadA rfl ag_38 sz_38 (sees 2 0 rfl) (by rw [bs_length, hfl]; omega) (show ((bs _).drop (x.1 * 128)).take 128 = bs o from by rw [bs_drop, bs_take, flat_sec hS1 ho2])) rfl ?_
            refine H_one 8 rfl (by kernel_rfl) rfl (op_alloc zl_38 rfl (fun B2 => ?_))
            refine ⟨hsub (.cons _ (.refl _)), ?_⟩
            refine H_one 9 rfl (by kernel_rfl) rfl (op_storeA 0 0 rfl rfl rfl sz_38 (by rw [bs_length, ho1]) rfl (bs_one _) rfl ?_)
            refine ⟨hsub (.cons _ (.refl _)), ?_⟩
            refine H_done (by kernel_rfl) ?_
            refine C_seq ?_
            refine C_seq ?_
            rw [show bs o = bs (x.2.take 0 ++ o.drop 0) from by simp]
            refine C_region ?_
            refine L_y rfl (y_assign rfl) rfl ?_
            refine L_nil ?_
            refine C_block ?_
            refine C_loop (ι := Nat) (fun j => [(0, ptr pb), (2, .int .i64 1), (3, ptr yb), (4, .int .i64 (k : Int)), (5, ptr B1), (6, ptr B2), (7, .int .i64 (j : Int))]) (fun j => [(B1, .cells (.int .i64 (x.1 : Int) :: bs x.2).toArray 148)] :: [(B2, .cells (bs (x.2.take j ++ o.drop j)).toArray 38)] :: [(yb, .cells [.slice (some ⟨yst, 0, none⟩) ya.S.length ya.S.length, slV yg ya.Q.length, .int .i64 (ya.kept : Int), .int .i64 (ya.bytes : Int), .bool ya.lies, .bool ya.out].toArray 46)] :: [(yst, .cells (bs (cutN ya k).flatten).toArray 38)] :: slSeg 148 yg (wcs ya.Q) :: [(xb, .cells [.slice (some ⟨xst, 0, none⟩) xa.S.length xa.S.length, slV xg xa.Q.length, .int .i64 (xa.kept : Int), .int .i64 (xa.bytes : Int), .bool xa.lies, .bool xa.out].toArray 46)] :: [(xst, .cells (bs (xa.S).flatten).toArray 38)] :: slSeg 148 xg (wcs xa.Q) :: rpo rt pb gl true left :: rpq rt gl xb yb :: H) (fun j => j ≤ ya.bytes) (fun j => ya.bytes - j) 0 (Nat.zero_le _) ⟨rfl, rfl, rfl, rfl, rfl, rfl, rfl, trivial⟩ ((hsub (.cons_cons _ (.cons_cons _ (.cons_cons _ (.cons_cons _ (.cons_cons _ (.cons_cons _ (.cons_cons _ (.cons_cons _ (.cons_cons _ (.cons_cons _ (.refl _)))))))))))).trans (hsub_pick [1, 0, 0, 0, 0, 0, 0, 0, 0, 0] rfl)) (fun j hj => ?_)
            have hbl : (x.2.take j ++ o.drop j).length = 128 := torn_len hxm.2 ho1 (by have := hya.2.2.2; omega)
            refine C_seq ?_
            refine C_seq ?_
            refine C_region ?_
            refine L_y rfl (y_move rfl) rfl ?_
            refine L_y rfl (y_move rfl) rfl ?_
            refine L_y rfl (y_nilCheck rfl) rfl ?_
            refine L_y rfl (y_fieldAddr rfl fl_46_3) rfl ?_
            refine L_y rfl (y_load rfl ag_3 (sees 2 0 rfl) rfl) rfl ?_
            refine L_y rfl (y_lss rfl rfl) rfl ?_
            refine L_nil ?_
            refine C_cond rfl (fun hc5 => ?_) (fun hc5 => ?_)
            · replace hc5 : j < ya.bytes := by have := of_decide_eq_true hc5; omega
              have hj8 : j < 128 := by have := hya.2.2.2; omega
              refine C_skip ?_
              refine C_seq ?_
              refine C_block ?_
              refine C_region ?_
              refine L_y rfl (y_move rfl) rfl ?_
              refine L_y rfl (y_move rfl) rfl ?_
              refine L_y rfl (y_fieldAddr rfl fl_148_1) rfl ?_
              refine L_y rfl (y_indexA rfl rfl Try.underlying38 sz_5 (by omega) (by omega) (show _ = 1 + j from by simp)) rfl ?_
              refine L_y rfl (y_load rfl ag_5 (sees 0 0 rfl) (show _ = some (u8 (x.2.getD j 0)) from by rw [Nat.add_comm, List.getElem?_cons_succ, bs_get, List.getElem?_eq_getElem (by omega)]; simp [List.getD, show j < x.2.length by omega])) rfl ?_
              refine L_y rfl (y_indexA rfl rfl Try.underlying38 sz_5 (by omega) (by omega) (show _ = j from by simp)) rfl ?_
              refine L_op rfl (op_store1 1 0 rfl rfl rfl sz_5 rfl (by rw [bs_length, hbl]; omega) ?_)
              refine L_nil ?_
              rw [bs_set, torn_step hxm.2 ho1 hj8]
              refine C_region ?_
              refine L_y rfl (y_move rfl) rfl ?_
              refine L_y rfl (y_add rfl rfl (show _ = ((j + 1 : Nat) : Int) from by rw [wi64 (by omega) (by omega)]; omega)) rfl ?_
              refine L_y rfl (y_assign rfl) rfl ?_
              refine L_nil ?_
              exact ⟨j + 1, by omega, by omega, ⟨rfl, rfl, rfl, rfl, rfl, rfl, rfl, trivial⟩, ((hsub (.cons_cons _ (.cons_cons _ (.cons_cons _ (.cons_cons _ (.cons_cons _ (.cons_cons _ (.cons_cons _ (.cons_cons _ (.cons_cons _ (.cons_cons _ (.refl _)))))))))))).trans (hsub_pick [0, 0, 0, 0, 0, 0, 0, 0, 0, 0] rfl))⟩
            · obtain rfl : j = ya.bytes := by have := of_decide_eq_false hc5; omega
              refine C_exit ?_
              refine C_regionT 8 (by kernel_rfl) (by kernel_rfl) ?_
              refine S_y rfl (y_move rfl) rfl ?_
              refine S_y rfl (y_nilCheck rfl) rfl ?_
              refine S_y rfl (y_fieldAddr rfl fl_46_0) rfl ?_
              refine S_y rfl (y_load rfl ag_43 (sees 2 0 rfl) rfl) rfl ?_
              refine S_y rfl (y_fieldAddr rfl fl_148_0) rfl ?_
              refine S_y rfl (y_load rfl ag_3 (sees 0 0 rfl) rfl) rfl ?_
              refine S_y rfl (y_loadA rfl ag_38 sz_38 (sees 1 0 rfl) (by rw [bs_length, hbl]; omega) (bs_whole0 _ hbl)) rfl ?_
              refine S_y rfl (y_indexS rfl rfl Try.underlying43 sz_38 (by omega) (by first | omega | (simp only; omega)) (show _ = x.1 * 128 from by simp)) rfl ?_
              refine S_nil ?_
              refine L_op rfl (op_store 3 0 rfl rfl rfl sz_38 (by rw [bs_length, hbl]) rfl (bs_one _) (by rw [bs_length, hfl]; omega) ?_)
              rw [flat_spl hS1 (by omega) hbl, show (cutN ya k).set x.1 (x.2.take ya.bytes ++ o.drop ya.bytes) = cutN ya (k + 1) from by rw [cutN_s2 hx hc4]; simp [List.getD, ho2]]
              refine L_nil ?_
              refine C_region ?_
              refine L_y rfl (y_move rfl) rfl ?_
              refine L_y rfl (y_add rfl rfl (show _ = ((k + 1 : Nat) : Int) from by rw [wi64 (by omega) (by omega)]; omega)) rfl ?_
              refine L_y rfl (y_assign rfl) rfl ?_
              refine L_nil ?_
              exact ⟨k + 1, by omega, by omega, ⟨rfl, rfl, rfl, rfl, trivial⟩, ((hsub (.cons_cons _ (.cons_cons _ (.cons_cons _ (.cons_cons _ (.cons_cons _ (.cons_cons _ (.cons_cons _ (.cons_cons _ (.cons _ (.cons _ (.refl _)))))))))))).trans (hsub_pick [2, 2, 2, 2, 2, 2, 2, 2] rfl))⟩
          · replace hc4 : ¬ k = ya.kept := by have := of_decide_eq_false hc4; omega
            rw [← cutN_s3 hx hc3 hc4]
            refine C_skip ?_
            refine C_region ?_
            refine L_y rfl (y_move rfl) rfl ?_
            refine L_y rfl (y_add rfl rfl (show _ = ((k + 1 : Nat) : Int) from by rw [wi64 (by omega) (by omega)]; omega)) rfl ?_
            refine L_y rfl (y_assign rfl) rfl ?_
            refine L_nil ?_
            exact ⟨k + 1, by omega, by omega, ⟨rfl, rfl, rfl, rfl, trivial⟩, ((hsub (.cons_cons _ (.cons_cons _ (.cons_cons _ (.cons_cons _ (.cons_cons _ (.cons_cons _ (.cons_cons _ (.cons_cons _ (.cons _ (.refl _))))))))))).trans (hsub_pick [1, 1, 1, 1, 1, 1, 1, 1] rfl))⟩
      · obtain rfl : k = ya.Q.length := by have := of_decide_eq_false hc2; omega
        refine C_exit ?_
        refine C_region ?_
        refine L_y rfl (y_move rfl) rfl ?_
        refine L_y rfl (y_nilCheck rfl) rfl ?_
        refine L_y rfl (y_fieldAddr rfl fl_46_1) rfl ?_
        refine L_op rfl (op_store1 0 0 rfl rfl rfl sz_44 rfl (Nat.le_of_ble_eq_true rfl) ?_)
        refine L_nil ?_
        refine C_region ?_
        refine L_y rfl (y_move rfl) rfl ?_
        refine L_y rfl (y_add rfl rfl (show _ = (2 : Int) from rfl)) rfl ?_
        refine L_y rfl (y_assign rfl) rfl ?_
        refine L_nil ?_
        refine In_round ?_
        refine C_seq ?_
        refine C_seq ?_
        refine C_region ?_
        refine L_y rfl (y_move rfl) rfl ?_
        refine L_y rfl (y_move rfl) rfl ?_
        refine L_y rfl (y_nilCheck rfl) rfl ?_
        refine L_y rfl (y_fieldAddr rfl fl_29_0) rfl ?_
        refine L_y rfl (y_load rfl ag_27 (sees 6 0 rfl) rfl) rfl ?_
        refine L_y rfl (y_lenS rfl rfl Try.underlying27) rfl ?_
        refine L_y rfl (y_lss rfl rfl) rfl ?_
        refine L_nil ?_
        refine C_cond_f rfl ?_
        refine C_exit ?_
        refine B_end rv_nil ((hsub_flat rfl : HSub ([(xb, .cells [.slice (some ⟨xst, 0, none⟩) xa.S.length xa.S.length, slV xg xa.Q.length, .int .i64 (xa.kept : Int), .int .i64 (xa.bytes : Int), .bool xa.lies, .bool xa.out].toArray 46)] :: [(xst, .cells (bs (xa.S).flatten).toArray 38)] :: slSeg 148 xg (wcs xa.Q) :: [(yb, .cells [.slice (some ⟨yst, 0, none⟩) ya.S.length ya.S.length, .slice none 0 0, .int .i64 (ya.kept : Int), .int .i64 (ya.bytes : Int), .bool ya.lies, .bool ya.out].toArray 46)] :: [(yst, .cells (bs (cutN ya ya.Q.length).flatten).toArray 38)] :: ([] : List (Nat × Obj)) :: rpo rt pb gl true left :: rpq rt gl xb yb :: H) ([(xb, .cells [.slice (some ⟨xst, 0, none⟩) xa.S.length xa.S.length, slV xg xa.Q.length, .int .i64 (xa.kept : Int), .int .i64 (xa.bytes : Int), .bool xa.lies, .bool xa.out].toArray 46)] :: [(xst, .cells (bs (xa.S).flatten).toArray 38)] :: slSeg 148 xg (wcs xa.Q) :: [(yb, .cells [.slice (some ⟨yst, 0, none⟩) ya.S.length ya.S.length, .slice none 0 0, .int .i64 (ya.kept : Int), .int .i64 (ya.bytes : Int), .bool ya.lies, .bool ya.out].toArray 46)] :: [(yst, .cells (bs (cutN ya ya.Q.length).flatten).toArray 38)] :: rpo rt pb gl true left :: rpq rt gl xb yb :: H)).trans ((hsub (.cons_cons _ (.cons_cons _ (.cons_cons _ (.cons_cons _ (.cons_cons _ (.cons_cons _ (.cons_cons _ (.cons _ (.refl _)))))))))).trans (hsub_pick [3, 3, 3, 0, 0, 1, 1] rfl))) ?_
        rw [show Rv.cut (⟨xb, xst, xg, xa⟩ : Rv) = (⟨xb, xst, xg, xa⟩ : Rv) from Rv.cut_out hox]
        obtain ⟨y1, y2, y3⟩ := Rv.cut_segs rt (b := yb) (st := yst) (g := yg) hya hoy
        rw [y1, y2, y3]
        exact ⟨rfl, rfl⟩
  · have hox : xa.out = false := hc1
    refine C_skip ?_
    refine C_seq ?_
    refine C_seq ?_
    refine C_region ?_
    refine L_y rfl (y_assign rfl) rfl ?_
    refine L_nil ?_
    refine C_block ?_
    refine C_loop (ι := Nat) (fun k => [(0, ptr pb), (2, .int .i64 0), (3, ptr xb), (4, .int .i64 (k : Int))]) (fun k => [(xb, .cells [.slice (some ⟨xst, 0, none⟩) xa.S.length xa.S.length, slV xg xa.Q.length, .int .i64 (xa.kept : Int), .int .i64 (xa.bytes : Int), .bool xa.lies, .bool xa.out].toArray 46)] :: [(xst, .cells (bs (cutN xa k).flatten).toArray 38)] :: slSeg 148 xg (wcs xa.Q) :: [(yb, .cells [.slice (some ⟨yst, 0, none⟩) ya.S.length ya.S.length, slV yg ya.Q.length, .int .i64 (ya.kept : Int), .int .i64 (ya.bytes : Int), .bool ya.lies, .bool ya.out].toArray 46)] :: [(yst, .cells (bs (ya.S).flatten).toArray 38)] :: slSeg 148 yg (wcs ya.Q) :: rpo rt pb gl true left :: rpq rt gl xb yb :: H) (fun k => k ≤ xa.Q.length) (fun k => xa.Q.length - k) 0 (Nat.zero_le _) ⟨rfl, rfl, rfl, rfl, trivial⟩ ((hsub (.cons_cons _ (.cons_cons _ (.cons_cons _ (.cons_cons _ (.cons_cons _ (.cons_cons _ (.cons_cons _ (.cons_cons _ (.refl _)))))))))).trans (hsub_pick [0, 0, 0, 0, 0, 0, 0, 0] rfl)) (fun k hk => ?_)
    skip
    refine C_seq ?_
    refine C_seq ?_
    refine C_region ?_
    refine L_y rfl (y_move rfl) rfl ?_
    refine L_y rfl (y_move rfl) rfl ?_
    refine L_y rfl (y_nilCheck rfl) rfl ?_
    refine L_y rfl (y_fieldAddr rfl fl_46_1) rfl ?_
    refine L_y rfl (y_load rfl ag_44 (sees 0 0 rfl) rfl) rfl ?_
    refine L_y rfl (y_lenV hxq rfl rfl Try.underlying44) rfl ?_
    refine L_y rfl (y_lss rfl rfl) rfl ?_
    refine L_nil ?_
    refine C_cond rfl (fun hc2 => ?_) (fun hc2 => ?_)
    · replace hc2 : k < xa.Q.length := by have := of_decide_eq_true hc2; omega
      obtain ⟨x, hx⟩ : ∃ x, xa.Q[k]? = some x := ⟨_, List.getElem?_eq_getElem (by omega)⟩
      have hxm := hxa.2.2.1 x (List.mem_of_getElem? hx)
      obtain ⟨hS1, hS2⟩ := cutN_ok hxa k
      have hfl := flat_len hS1
      have hQ : ∀ x ∈ xa.Q, x.2.length = 128 := fun x hx => (hxa.2.2.1 x hx).2
      have hwl := wcs_len hQ
      have hQl := hxl
      cases xg with
      | none => exact absurd hxq.2 (by first | omega | (simp only; omega))
      | some xg => ?_
      refine C_skip ?_
      refine C_seq ?_
      refine C_block ?_
      refine C_seq ?_
      refine C_region ?_
      refine L_y rfl (y_move rfl) rfl ?_
      refine L_y rfl (y_nilCheck rfl) rfl ?_
      refine L_y rfl (y_fieldAddr rfl fl_46_1) rfl ?_
      refine L_y rfl (y_load rfl ag_44 (sees 0 0 rfl) rfl) rfl ?_
      refine L_y rfl (y_move rfl) rfl ?_
      refine L_y rfl (y_indexS rfl rfl Try.underlying44 sz_148 (by omega) (by omega) (show _ = k * 129 from by simp)) rfl ?_
      refine L_y rfl (y_loadA rfl ag_148 sz_148 (sees 2 0 rfl) (by rw [List.length_append, hwl]; omega) (wcs_get _ hQ hx)) rfl ?_
      refine L_op rfl (op_alloc zl_148 rfl (fun B3 => ?_))
      refine L_op rfl (op_storeA 0 0 rfl rfl rfl sz_148 (by simp [bs_length, hxm.2]) rfl (one_wr _ _) rfl ?_)
      refine L_nil ?_
      refine C_seq ?_
      refine C_region ?_
      refine L_y rfl (y_move rfl) rfl ?_
      refine L_y rfl (y_move rfl) rfl ?_
      refine L_y rfl (y_nilCheck rfl) rfl ?_
      refine L_y rfl (y_fieldAddr rfl fl_46_2) rfl ?_
      refine L_y rfl (y_load rfl ag_3 (sees 1 0 rfl) rfl) rfl ?_
      refine L_y rfl (y_lss rfl rfl) rfl ?_
      refine L_nil ?_
      refine C_cond rfl (fun hc3 => ?_) (fun hc3 => ?_)
      · replace hc3 : k < xa.kept := by have := of_decide_eq_true hc3; omega
        refine C_regionT 9 (by kernel_rfl) (by kernel_rfl) ?_
        refine S_y rfl (y_move rfl) rfl ?_
        refine S_y rfl (y_nilCheck rfl) rfl ?_
        refine S_y rfl (y_fieldAddr rfl fl_46_0) rfl ?_
        refine S_y rfl (y_load rfl ag_43 (sees 1 0 rfl) rfl) rfl ?_
        refine S_y rfl (y_fieldAddr rfl fl_148_0) rfl ?_
        refine S_y rfl (y_load rfl ag_3 (sees 0 0 rfl) rfl) rfl ?_
        refine S_y rfl (y_fieldAddr rfl fl_148_1) rfl ?_
        refine S_y rfl (y_loadA rfl ag_38 sz_38 (sees 0 0 rfl) (by simp [bs_length, hxm.2]) (bs_whole x.2 hxm.2)) rfl ?_
        refine S_y rfl (y_indexS rfl rfl Try.underlying43 sz_38 (by omega) (by first | omega | (simp only; omega)) (show _ = x.1 * 128 from by simp)) rfl ?_
        refine S_nil ?_
        refine L_op rfl (op_store 2 0 rfl rfl rfl sz_38 (by rw [bs_length, hxm.2]) rfl (bs_one _) (by rw [bs_length, hfl]; omega) ?_)
        rw [flat_spl hS1 (by omega) hxm.2, ← cutN_s1 hx hc3]
        refine L_nil ?_
        refine C_region ?_
        refine L_y rfl (y_move rfl) rfl ?_
        refine L_y rfl (y_add rfl rfl (show _ = ((k + 1 : Nat) : Int) from by rw [wi64 (by omega) (by omega)]; omega)) rfl ?_
        refine L_y rfl (y_assign rfl) rfl ?_
        refine L_nil ?_
        exact ⟨k + 1, by omega, by omega, ⟨rfl, rfl, rfl, rfl, trivial⟩, ((hsub (.cons_cons _ (.cons_cons _ (.cons_cons _ (.cons_cons _ (.cons_cons _ (.cons_cons _ (.cons_cons _ (.cons_cons _ (.cons _ (.refl _))))))))))).trans (hsub_pick [1, 1, 1, 1, 1, 1, 1, 1] rfl))⟩
      · replace hc3 : ¬ k < xa.kept := by have := of_decide_eq_false hc3; omega
        refine C_seq ?_
        refine C_region ?_
        refine L_y rfl (y_move rfl) rfl ?_
        refine L_y rfl (y_move rfl) rfl ?_
        refine L_y rfl (y_nilCheck rfl) rfl ?_
        refine L_y rfl (y_fieldAddr rfl fl_46_2) rfl ?_
        refine L_y rfl (y_load rfl ag_3 (sees 1 0 rfl) rfl) rfl ?_
        refine L_y rfl (y_eqi rfl rfl) rfl ?_
        refine L_nil ?_
        refine C_cond rfl (fun hc4 => ?_) (fun hc4 => ?_)
        · replace hc4 : k = xa.kept := by have := of_decide_eq_true hc4; omega
          obtain ⟨o, ho2⟩ : ∃ o, (cutN xa k)[x.1]? = some o := ⟨_, List.getElem?_eq_getElem (by omega)⟩
          have ho1 : o.length = 128 := hS1 _ (List.mem_of_getElem? ho2)
          refine C_seq ?_
          refine C_regionH0 (by kernel_rfl) ?_
          refine H_y 0 rfl (by kernel_rfl) (by kernel_rfl) (by kernel_rfl) (HSub.refl _) rfl (y_move rfl) rfl ?_
          refine H_y 1 rfl (by kernel_rfl) (by kernel_rfl) (by kernel_rfl) (HSub.refl _) rfl (y_nilCheck rfl) rfl ?_
          refine H_y 2 rfl (by kernel_rfl) (by kernel_rfl) (by kernel_rfl) (HSub.refl _) rfl (y_fieldAddr rfl fl_46_0) rfl ?_
          refine H_y 3 rfl (by kernel_rfl) (by kernel_rfl) (by kernel_rfl) (HSub.refl _) rfl (y_load rfl ag_43 (sees 1 0 rfl) rfl) rfl ?_
          refine H_y 4 rfl (by kernel_rfl) (by kernel_rfl) (by kernel_rfl) (HSub.refl _) rfl (y_fieldAddr rfl fl_148_0) rfl ?_
          refine H_y 5 rfl (by kernel_rfl) (by kernel_rfl) (by kernel_rfl) (HSub.refl _) rfl (y_load rfl ag_3 (sees 0 0 rfl) rfl) rfl ?_
          refine H_y 6 rfl (by kernel_rfl) (by kernel_rfl) (by kernel_rfl) (HSub.refl _) rfl (y_indexS rfl rfl Try.underlying43 sz_38 (by omega) (by first | omega | (simp only; omega)) (show _ = x.1 * 128 from by simp)) rfl ?_
          refine H_y 7 rfl (by kernel_rfl) (by kernel_rfl) (by kernel_rfl) (HSub.refl _) rfl (y_loadA rfl ag_38 sz_38 (sees 2 0 rfl) (by rw [bs_length, hfl]; omega) (show ((bs _).drop (x.1 * 128)).take 128 = bs o from by rw [bs_drop, bs_take, flat_sec hS1 ho2])) rfl ?_
          refine H_one 8 rfl (by kernel_rfl) rfl (op_alloc zl_38 rfl (fun B4 => ?_))
          refine ⟨hsub (.cons _ (.refl _)), ?_⟩
          refine H_one 9 rfl (by kernel_rfl) rfl (op_storeA 0 0 rfl rfl rfl sz_38 (by rw [bs_length, ho1]) rfl (bs_one _) rfl ?_)
          refine ⟨hsub (.cons _ (.refl _)), ?_⟩
          refine H_done (by kernel_rfl) ?_
          refine C_seq ?_
          refine C_seq ?_
          rw [show bs o = bs (x.2.take 0 ++ o.drop 0) from by simp]
          refine C_region ?_
          refine L_y rfl (y_assign rfl) rfl ?_
          refine L_nil ?_
          refine C_block ?_
          refine C_loop (ι := Nat) (fun j => [(0, ptr pb), (2, .int .i64 0), (3, ptr xb), (4, .int .i64 (k : Int)), (5, ptr B3), (6, ptr B4), (7, .int .i64 (j : Int))]) (fun j => [(B3, .cells (.int .i64 (x.1 : Int) :: bs x.2).toArray 148)] :: [(B4, .cells (bs (x.2.take j ++ o.drop j)).toArray 38)] :: [(xb, .cells [.slice (some ⟨xst, 0, none⟩) xa.S.length xa.S.length, slV xg xa.Q.length, .int .i64 (xa.kept : Int), .int .i64 (xa.bytes : Int), .bool xa.lies, .bool xa.out].toArray 46)] :: [(xst, .cells (bs (cutN xa k).flatten).toArray 38)] :: slSeg 148 xg (wcs xa.Q) :: [(yb, .cells [.slice (some ⟨yst, 0, none⟩) ya.S.length ya.S.length, slV yg ya.Q.length, .int .i64 (ya.kept : Int), .int .i64 (ya.bytes : Int), .bool ya.lies, .bool ya.out].toArray 46)] :: [(yst, .cells (bs (ya.S).flatten).toArray 38)] :: slSeg 148 yg (wcs ya.Q) :: rpo rt pb gl true left :: rpq rt gl xb yb :: H) (fun j => j ≤ xa.bytes) (fun j => xa.bytes - j) 0 (Nat.zero_le _) ⟨rfl, rfl, rfl, rfl, rfl, rfl, rfl, trivial⟩ ((hsub (.cons_cons _ (.cons_cons _ (.cons_cons _ (.cons_cons _ (.cons_cons _ (.cons_cons _ (.cons_cons _ (.cons_cons _ (.cons_cons _ (.cons_cons _ (.refl _)))))))))))).trans (hsub_pick [1, 0, 0, 0, 0, 0, 0, 0, 0, 0] rfl)) (fun j hj => ?_)
          have hbl : (x.2.take j ++ o.drop j).length = 128 := torn_len hxm.2 ho1 (by have := hxa.2.2.2; omega)
          refine C_seq ?_
          refine C_seq ?_
          refine C_region ?_
          refine L_y rfl (y_move rfl) rfl ?_
          refine L_y rfl (y_move rfl) rfl ?_
          refine L_y rfl (y_nilCheck rfl) rfl ?_
          refine L_y rfl (y_fieldAddr rfl fl_46_3) rfl ?_
          refine L_y rfl (y_load rfl ag_3 (sees 2 0 rfl) rfl) rfl ?_
          refine L_y rfl (y_lss rfl rfl) rfl ?_
          refine L_nil ?_
          refine C_cond rfl (fun hc5 => ?_) (fun hc5 => ?_)
          · replace hc5 : j < xa.bytes := by have := of_decide_eq_true hc5; omega
            have hj8 : j < 128 := by have := hxa.2.2.2; omega
            refine C_skip ?_
            refine C_seq ?_
            refine C_block ?_
            refine C_region ?_
            refine L_y rfl (y_move rfl) rfl ?_
            refine L_y rfl (y_move rfl) rfl ?_
            refine L_y rfl (y_fieldAddr rfl fl_148_1) rfl ?_
            refine L_y rfl (y_indexA rfl rfl Try.underlying38 sz_5 (by omega) (by omega) (show _ = 1 + j from by simp)) rfl ?_
            refine L_y rfl (y_load rfl ag_5 (sees 0 0 rfl) (show _ = some (u8 (x.2.getD j 0)) from by rw [Nat.add_comm, List.getElem?_cons_succ, bs_get, List.getElem?_eq_getElem (by omega)]; simp [List.getD, show j < x.2.length by omega])) rfl ?_
            refine L_y rfl (y_indexA rfl rfl Try.underlying38 sz_5 (by omega) (by omega) (show _ = j from by simp)) rfl ?_
            refine L_op rfl (op_store1 1 0 rfl rfl rfl sz_5 rfl (by rw [bs_length, hbl]; omega) ?_)
            refine L_nil ?_
            rw [bs_set, torn_step hxm.2 ho1 hj8]
            refine C_region ?_
            refine L_y rfl (y_move rfl) rfl ?_
            refine L_y rfl (y_add rfl rfl (show _ = ((j + 1 : Nat) : Int) from by rw [wi64 (by omega) (by omega)]; omega)) rfl ?_
            refine L_y rfl (y_assign rfl) rfl ?_
            refine L_nil ?_
            exact ⟨j + 1, by omega, by omega, ⟨rfl, rfl, rfl, rfl, rfl, rfl, rfl, trivial⟩, ((hsub (.cons_cons _ (.cons_cons _ (.cons_cons _ (.cons_cons _ (.cons_cons _ (.cons_cons _ (.cons_cons _ (.cons_cons _ (.cons_cons _ (.cons_cons _ (.refl _)))))))))))).trans (hsub_pick [0, 0, 0, 0, 0, 0, 0, 0, 0, 0] rfl))⟩
          · obtain rfl : j = xa.bytes := by have := of_decide_eq_false hc5; omega
            refine C_exit ?_
            refine C_regionT 8 (by kernel_rfl) (by kernel_rfl) ?_
            refine S_y rfl (y_move rfl) rfl ?_
            refine S_y rfl (y_nilCheck rfl) rfl ?_
            refine S_y rfl (y_fieldAddr rfl fl_46_0) rfl ?_
            refine S_y rfl (y_load rfl ag_43 (sees 2 0 rfl) rfl) rfl ?_
            refine S_y rfl (y_fieldAddr rfl fl_148_0) rfl ?_
            refine S_y rfl (y_load rfl ag_3 (sees 0 0 rfl) rfl) rfl ?_
            refine S_y rfl (y_loadA rfl ag_38 sz_38 (sees 1 0 rfl) (by rw [bs_length, hbl]; omega) (bs_whole0 _ hbl)) rfl ?_
            refine S_y rfl (y_indexS rfl rfl Try.underlying43 sz_38 (by omega) (by first | omega | (simp only; omega)) (show _ = x.1 * 128 from by simp)) rfl ?_
            refine S_nil ?_
            refine L_op rfl (op_store 3 0 rfl rfl rfl sz_38 (by rw [bs_length, hbl]) rfl (bs_one _) (by rw [bs_length, hfl]; omega) ?_)
            rw [flat_spl hS1 (by omega) hbl, show (cutN xa k).set x.1 (x.2.take xa.bytes ++ o.drop xa.bytes) = cutN xa (k + 1) from by rw [cutN_s2 hx hc4]; simp [List.getD, ho2]]
            refine L_nil ?_
            refine C_region ?_
            refine L_y rfl (y_move rfl) rfl ?_
            refine L_y rfl (y_add rfl rfl (show _ = ((k + 1 : Nat) : Int) from by rw [wi64 (by omega) (by omega)]; omega)) rfl ?_
            refine L_y rfl (y_assign rfl) rfl ?_
            refine L_nil ?_
            exact ⟨k + 1, by omega, by omega, ⟨rfl, rfl, rfl, rfl, trivial⟩, ((hsub (.cons_cons _ (.cons_cons _ (.cons_cons _ (.cons_cons _ (.cons_cons _ (.cons_cons _ (.cons_cons _ (.cons_cons _ (.cons _ (.cons _ (.refl _)))))))))))).trans (hsub_pick [2, 2, 2, 2, 2, 2, 2, 2] rfl))⟩
        · replace hc4 : ¬ k = xa.kept := by have := of_decide_eq_false hc4; omega
          rw [← cutN_s3 hx hc3 hc4]
          refine C_skip ?_
          refine C_region ?_
          refine L_y rfl (y_move rfl) rfl ?_
          refine L_y rfl (y_add rfl rfl (show _ = ((k + 1 : Nat) : Int) from by rw [wi64 (by omega) (by omega)]; omega)) rfl ?_
          refine L_y rfl (y_assign rfl) rfl ?_
          refine L_nil ?_
          exact ⟨k + 1, by omega, by omega, ⟨rfl, rfl, rfl, rfl, trivial⟩, ((hsub (.cons_cons _ (.cons_cons _ (.cons_cons _ (.cons_cons _ (.cons_cons _ (.cons_cons _ (.cons_cons _ (.cons_cons _ (.cons _ (.refl _))))))))))).trans (hsub_pick [1, 1, 1, 1, 1, 1, 1, 1] rfl))⟩
    · obtain rfl : k = xa.Q.length := by have := of_decide_eq_false hc2; omega
      refine C_exit ?_
      refine C_region ?_
      refine L_y rfl (y_move rfl) rfl ?_
      refine L_y rfl (y_nilCheck rfl) rfl ?_
      refine L_y rfl (y_fieldAddr rfl fl_46_1) rfl ?_
      refine L_op rfl (op_store1 0 0 rfl rfl rfl sz_44 rfl (Nat.le_of_ble_eq_true rfl) ?_)
      refine L_nil ?_
      refine C_region ?_
      refine L_y rfl (y_move rfl) rfl ?_
      refine L_y rfl (y_add rfl rfl (show _ = (1 : Int) from rfl)) rfl ?_
      refine L_y rfl (y_assign rfl) rfl ?_
      refine L_nil ?_
      refine In_round ?_
      refine C_seq ?_
      refine C_seq ?_
      refine C_region ?_
      refine L_y rfl (y_move rfl) rfl ?_
      refine L_y rfl (y_move rfl) rfl ?_
      refine L_y rfl (y_nilCheck rfl) rfl ?_
      refine L_y rfl (y_fieldAddr rfl fl_29_0) rfl ?_
      refine L_y rfl (y_load rfl ag_27 (sees 6 0 rfl) rfl) rfl ?_
      refine L_y rfl (y_lenS rfl rfl Try.underlying27) rfl ?_
      refine L_y rfl (y_lss rfl rfl) rfl ?_
      refine L_nil ?_
      refine C_cond_t rfl ?_
      refine C_skip ?_
      refine C_seq ?_
      refine C_block ?_
      refine C_seq ?_
      refine C_region ?_
      refine L_y rfl (y_move rfl) rfl ?_
      refine L_y rfl (y_nilCheck rfl) rfl ?_
      refine L_y rfl (y_fieldAddr rfl fl_29_0) rfl ?_
      refine L_y rfl (y_load rfl ag_27 (sees 6 0 rfl) rfl) rfl ?_
      refine L_y rfl (y_move rfl) rfl ?_
      refine L_y rfl (y_indexS rfl rfl Try.underlying27 sz_33 (by omega) (by omega) (show _ = 1 from rfl)) rfl ?_
      refine L_y rfl (y_load rfl ag_33 (sees 7 0 rfl) rfl) rfl ?_
      refine L_y rfl (y_assign rfl) rfl ?_
      refine L_nil ?_
      refine C_seq ?_
      refine C_seq ?_
      refine C_region ?_
      refine L_y rfl (y_move rfl) rfl ?_
      refine L_y rfl (y_nilCheck rfl) rfl ?_
      refine L_y rfl (y_fieldAddr rfl fl_46_5) rfl ?_
      refine L_y rfl (y_load rfl ag_4 (sees 3 0 rfl) rfl) rfl ?_
      refine L_nil ?_
      refine C_cond rfl (fun hc1 => ?_) (fun hc1 => ?_)
      · have hoy : ya.out = true := hc1
        refine C_exit ?_
        refine C_region ?_
        refine L_y rfl (y_move rfl) rfl ?_
        refine L_y rfl (y_add rfl rfl (show _ = (2 : Int) from rfl)) rfl ?_
        refine L_y rfl (y_assign rfl) rfl ?_
        refine L_nil ?_
        refine In_round ?_
        refine C_seq ?_
        refine C_seq ?_
        refine C_region ?_
        refine L_y rfl (y_move rfl) rfl ?_
        refine L_y rfl (y_move rfl) rfl ?_
        refine L_y rfl (y_nilCheck rfl) rfl ?_
        refine L_y rfl (y_fieldAddr rfl fl_29_0) rfl ?_
        refine L_y rfl (y_load rfl ag_27 (sees 6 0 rfl) rfl) rfl ?_
        refine L_y rfl (y_lenS rfl rfl Try.underlying27) rfl ?_
        refine L_y rfl (y_lss rfl rfl) rfl ?_
        refine L_nil ?_
        refine C_cond_f rfl ?_
        refine C_exit ?_
        refine B_end rv_nil ((hsub_flat rfl : HSub ([(xb, .cells [.slice (some ⟨xst, 0, none⟩) xa.S.length xa.S.length, .slice none 0 0, .int .i64 (xa.kept : Int), .int .i64 (xa.bytes : Int), .bool xa.lies, .bool xa.out].toArray 46)] :: [(xst, .cells (bs (cutN xa xa.Q.length).flatten).toArray 38)] :: ([] : List (Nat × Obj)) :: [(yb, .cells [.slice (some ⟨yst, 0, none⟩) ya.S.length ya.S.length, slV yg ya.Q.length, .int .i64 (ya.kept : Int), .int .i64 (ya.bytes : Int), .bool ya.lies, .bool ya.out].toArray 46)] :: [(yst, .cells (bs (ya.S).flatten).toArray 38)] :: slSeg 148 yg (wcs ya.Q) :: rpo rt pb gl true left :: rpq rt gl xb yb :: H) ([(xb, .cells [.slice (some ⟨xst, 0, none⟩) xa.S.length xa.S.length, .slice none 0 0, .int .i64 (xa.kept : Int), .int .i64 (xa.bytes : Int), .bool xa.lies, .bool xa.out].toArray 46)] :: [(xst, .cells (bs (cutN xa xa.Q.length).flatten).toArray 38)] :: [(yb, .cells [.slice (some ⟨yst, 0, none⟩) ya.S.length ya.S.length, slV yg ya.Q.length, .int .i64 (ya.kept : Int), .int .i64 (ya.bytes : Int), .bool ya.lies, .bool ya.out].toArray 46)] :: [(yst, .cells (bs (ya.S).flatten).toArray 38)] :: slSeg 148 yg (wcs ya.Q) :: rpo rt pb gl true left :: rpq rt gl xb yb :: H)).trans ((hsub (.cons_cons _ (.cons_cons _ (.cons_cons _ (.cons_cons _ (.cons_cons _ (.cons_cons _ (.cons_cons _ (.cons _ (.refl _)))))))))).trans (hsub_pick [0, 0, 1, 1, 1, 1, 1] rfl))) ?_
        obtain ⟨x1, x2, x3⟩ := Rv.cut_segs rt (b := xb) (st := xst) (g := xg) hxa hox
        rw [x1, x2, x3]
        rw [show Rv.cut (⟨yb, yst, yg, ya⟩ : Rv) = (⟨yb, yst, yg, ya⟩ : Rv) from Rv.cut_out hoy]
        exact ⟨rfl, rfl⟩
      · have hoy : ya.out = false := hc1
        refine C_skip ?_
        refine C_seq ?_
        refine C_seq ?_
        refine C_region ?_
        refine L_y rfl (y_assign rfl) rfl ?_
        refine L_nil ?_
        refine C_block ?_
        refine C_loop (ι := Nat) (fun k => [(0, ptr pb), (2, .int .i64 1), (3, ptr yb), (4, .int .i64 (k : Int))]) (fun k => [(yb, .cells [.slice (some ⟨yst, 0, none⟩) ya.S.length ya.S.length, slV yg ya.Q.length, .int .i64 (ya.kept : Int), .int .i64 (ya.bytes : Int), .bool ya.lies, .bool ya.out].toArray 46)] :: [(yst, .cells (bs (cutN ya k).flatten).toArray 38)] :: slSeg 148 yg (wcs ya.Q) :: [(xb, .cells [.slice (some ⟨xst, 0, none⟩) xa.S.length xa.S.length, .slice none 0 0, .int .i64 (xa.kept : Int), .int .i64 (xa.bytes : Int), .bool xa.lies, .bool xa.out].toArray 46)] :: [(xst, .cells (bs (cutN xa xa.Q.length).flatten).toArray 38)] :: rpo rt pb gl true left :: rpq rt gl xb yb :: H) (fun k => k ≤ ya.Q.length) (fun k => ya.Q.length - k) 0 (Nat.zero_le _) ⟨rfl, rfl, rfl, rfl, trivial⟩ ((hsub (.cons_cons _ (.cons_cons _ (.cons_cons _ (.cons_cons _ (.cons_cons _ (.cons_cons _ (.cons_cons _ (.cons _ (.refl _)))))))))).trans (hsub_pick [3, 3, 3, 0, 0, 1, 1] rfl)) (fun k hk => ?_)
        skip
        refine C_seq ?_
        refine C_seq ?_
        refine C_region ?_
        refine L_y rfl (y_move rfl) rfl ?_
        refine L_y rfl (y_move rfl) rfl ?_
        refine L_y rfl (y_nilCheck rfl) rfl ?_
        refine L_y rfl (y_fieldAddr rfl fl_46_1) rfl ?_
        refine L_y rfl (y_load rfl ag_44 (sees 0 0 rfl) rfl) rfl ?_
        refine L_y rfl (y_lenV hyq rfl rfl Try.underlying44) rfl ?_
        refine L_y rfl (y_lss rfl rfl) rfl ?_
        refine L_nil ?_
        refine C_cond rfl (fun hc2 => ?_) (fun hc2 => ?_)
        · replace hc2 : k < ya.Q.length := by have := of_decide_eq_true hc2; omega
          obtain ⟨x, hx⟩ : ∃ x, ya.Q[k]? = some x := ⟨_, List.getElem?_eq_getElem (by omega)⟩
          have hxm := hya.2.2.1 x (List.mem_of_getElem? hx)
          obtain ⟨hS1, hS2⟩ := cutN_ok hya k
          have hfl := flat_len hS1
          have hQ : ∀ x ∈ ya.Q, x.2.length = 128 := fun x hx => (hya.2.2.1 x hx).2
          have hwl := wcs_len hQ
          have hQl := hyl
          cases yg with
          | none => exact absurd hyq.2 (by first | omega | (simp only; omega))
          | some yg => ?_
          refine C_skip ?_
          refine C_seq ?_
          refine C_block ?_
          refine C_seq ?_
          refine C_region ?_
          refine L_y rfl (y_move rfl) rfl ?_
          refine L_y rfl (y_nilCheck rfl) rfl ?_
          refine L_y rfl (y_fieldAddr rfl fl_46_1) rfl ?_
          refine L_y rfl (y_load rfl ag_44 (sees 0 0 rfl) rfl) rfl ?_
          refine L_y rfl (y_move rfl) rfl ?_
          refine L_y rfl (y_indexS rfl rfl Try.underlying44 sz_148 (by omega) (by omega) (show _ = k * 129 from by simp)) rfl ?_
          refine L_y rfl (y_loadA rfl ag_148 sz_148 (sees 2 0 rfl) (by rw [List.length_append, hwl]; omega) (wcs_get _ hQ hx)) rfl ?_
          refine L_op rfl (op_alloc zl_148 rfl (fun B5 => ?_))
          refine L_op rfl (op_storeA 0 0 rfl rfl rfl sz_148 (by simp [bs_length, hxm.2]) rfl (one_wr _ _) rfl ?_)
          refine L_nil ?_
          refine C_seq ?_
          refine C_region ?_
          refine L_y rfl (y_move rfl) rfl ?_
          refine L_y rfl (y_move rfl) rfl ?_
          refine L_y rfl (y_nilCheck rfl) rfl ?_
          refine L_y rfl (y_fieldAddr rfl fl_46_2) rfl ?_
          refine L_y rfl (y_load rfl ag_3 (sees 1 0 rfl) rfl) rfl ?_
          refine L_y rfl (y_lss rfl rfl) rfl ?_
          refine L_nil ?_
          refine C_cond rfl (fun hc3 => ?_) (fun hc3 => ?_)
          · replace hc3 : k < ya.kept := by have := of_decide_eq_true hc3; omega
            refine C_regionT 9 (by kernel_rfl) (by kernel_rfl) ?_
            refine S_y rfl (y_move rfl) rfl ?_
            refine S_y rfl (y_nilCheck rfl) rfl ?_
            refine S_y rfl (y_fieldAddr rfl fl_46_0) rfl ?_
            refine S_y rfl (y_load rfl ag_43 (sees 1 0 rfl) rfl) rfl ?_
            refine S_y rfl (y_fieldAddr rfl fl_148_0) rfl ?_
            refine S_y rfl (y_load rfl ag_3 (sees 0 0 rfl) rfl) rfl ?_
            refine S_y rfl (y_fieldAddr rfl fl_148_1) rfl ?_
            refine S_y rfl (y_loadA rfl ag_38 sz_38 (sees 0 0 rfl) (by simp [bs_length, hxm.2]) (bs_whole x.2 hxm.2)) rfl ?_
            refine S_y rfl (y_indexS rfl rfl Try.underlying43 sz_38 (by omega) (by first | omega | (simp only; omega)) (show _ = x.1 * 128 from by simp)) rfl ?_
            refine S_nil ?_
            refine L_op rfl (op_store 2 0 rfl rfl rfl sz_38 (by rw [bs_length, hxm.2]) rfl (bs_one _) (by rw [bs_length, hfl]; omega) ?_)
            rw [flat_spl hS1 (by omega) hxm.2, ← cutN_s1 hx hc3]
            refine L_nil ?_
            refine C_region ?_
            refine L_y rfl (y_move rfl) rfl ?_
            refine L_y rfl (y_add rfl rfl (show _ = ((k + 1 : Nat) : Int) from by rw [wi64 (by omega) (by omega)]; omega)) rfl ?_
            refine L_y rfl (y_assign rfl) rfl ?_
            refine L_nil ?_
            exact ⟨k + 1, by omega, by omega, ⟨rfl, rfl, rfl, rfl, trivial⟩, ((hsub (.cons_cons _ (.cons_cons _ (.cons_cons _ (.cons_cons _ (.cons_cons _ (.cons_cons _ (.cons_cons _ (.cons _ (.refl _)))))))))).trans (hsub_pick [1, 1, 1, 1, 1, 1, 1] rfl))⟩
          · replace hc3 : ¬ k < ya.kept := by have := of_decide_eq_false hc3; omega
            refine C_seq ?_
            refine C_region ?_
            refine L_y rfl (y_move rfl) rfl ?_
            refine L_y rfl (y_move rfl) rfl ?_
            refine L_y rfl (y_nilCheck rfl) rfl ?_
            refine L_y rfl (y_fieldAddr rfl fl_46_2) rfl ?_
            refine L_y rfl (y_load rfl ag_3 (sees 1 0 rfl) rfl) rfl ?_
            refine L_y rfl (y_eqi rfl rfl) rfl ?_
            refine L_nil ?_
            refine C_cond rfl (fun hc4 => ?_) (fun hc4 => ?_)
            · replace hc4 : k = ya.kept := by have := of_decide_eq_true hc4; omega
              obtain ⟨o, ho2⟩ : ∃ o, (cutN ya k)[x.1]? = some o := ⟨_, List.getElem?_eq_getElem (by omega)⟩
              have ho1 : o.length = 128 := hS1 _ (List.mem_of_getElem? ho2)
              refine C_seq ?_
              refine C_regionH0 (by kernel_rfl) ?_
              refine H_y 0 rfl (by kernel_rfl) (by kernel_rfl) (by kernel_rfl) (HSub.refl _) rfl (y_move rfl) rfl ?_
              refine H_y 1 rfl (by kernel_rfl) (by kernel_rfl) (by kernel_rfl) (HSub.refl _) rfl (y_nilCheck rfl) rfl ?_
              refine H_y 2 rfl (by kernel_rfl) (by kernel_rfl) (by kernel_rfl) (HSub.refl _) rfl (y_fieldAddr rfl fl_46_0) rfl ?_
              refine H_y 3 rfl (by kernel_rfl) (by kernel_rfl) (by kernel_rfl) (HSub.refl _) rfl (y_load rfl ag_43 (sees 1 0 rfl) rfl) rfl ?_
              refine H_y 4 rfl (by kernel_rfl) (by kernel_rfl) (by kernel_rfl) (HSub.refl _) rfl (y_fieldAddr rfl fl_148_0) rfl ?_
              refine H_y 5 rfl (by kernel_rfl) (by kernel_rfl) (by kernel_rfl) (HSub.refl _) rfl (y_load rfl ag_3 (sees 0 0 rfl) rfl) rfl ?_
              refine H_y 6 rfl (by kernel_rfl) (by kernel_rfl) (by kernel_rfl) (HSub.refl _) rfl (y_indexS rfl rfl Try.underlying43 sz_38 (by omega) (by first | omega | (simp only; omega)) (show _ = x.1 * 128 from by simp)) rfl ?_
              refine H_y 7 rfl (by kernel_rfl) (by kernel_rfl) (by kernel_rfl) (HSub.refl _) rfl (y_loadA rfl ag_38 sz_38 (sees 2 0 rfl) (by rw [bs_length, hfl]; omega) (show ((bs _).drop (x.1 * 128)).take 128 = bs o from by rw [bs_drop, bs_take, flat_sec hS1 ho2])) rfl ?_
              refine H_one 8 rfl (by kernel_rfl) rfl (op_alloc zl_38 rfl (fun B6 => ?_))
              refine ⟨hsub (.cons _ (.refl _)), ?_⟩
              refine H_one 9 rfl (by kernel_rfl) rfl (op_storeA 0 0 rfl rfl rfl sz_38 (by rw [bs_length, ho1]) rfl (bs_one _) rfl ?_)
              refine ⟨hsub (.cons _ (.refl _)), ?_⟩
              refine H_done (by kernel_rfl) ?_
              refine C_seq ?_
              refine C_seq ?_
              rw [show bs o = bs (x.2.take 0 ++ o.drop 0) from by simp]
              refine C_region ?_
              refine L_y rfl (y_assign rfl) rfl ?_
              refine L_nil ?_
              refine C_block ?_
              refine C_loop (ι := Nat) (fun j => [(0, ptr pb), (2, .int .i64 1), (3, ptr yb), (4, .int .i64 (k : Int)), (5, ptr B5), (6, ptr B6), (7, .int .i64 (j : Int))]) (fun j => [(B5, .cells (.int .i64 (x.1 : Int) :: bs x.2).toArray 148)] :: [(B6, .cells (bs (x.2.take j ++ o.drop j)).toArray 38)] :: [(yb, .cells [.slice (some ⟨yst, 0, none⟩) ya.S.length ya.S.length, slV yg ya.Q.length, .int .i64 (ya.kept : Int), .int .i64 (ya.bytes : Int), .bool ya.lies, .bool ya.out].toArray 46)] :: [(yst, .cells (bs (cutN ya k).flatten).toArray 38)] :: slSeg 148 yg (wcs ya.Q) :: [(xb, .cells [.slice (some ⟨xst, 0, none⟩) xa.S.length xa.S.length, .slice none 0 0, .int .i64 (xa.kept : Int), .int .i64 (xa.bytes : Int), .bool xa.lies, .bool xa.out].toArray 46)] :: [(xst, .cells (bs (cutN xa xa.Q.length).flatten).toArray 38)] :: rpo rt pb gl true left :: rpq rt gl xb yb :: H) (fun j => j ≤ ya.bytes) (fun j => ya.bytes - j) 0 (Nat.zero_le _) ⟨rfl, rfl, rfl, rfl, rfl, rfl, rfl, trivial⟩ ((hsub (.cons_cons _ (.cons_cons _ (.cons_cons _ (.cons_cons _ (.cons_cons _ (.cons_cons _ (.cons_cons _ (.cons_cons _ (.cons_cons _ (.refl _))))))))))).trans (hsub_pick [1, 0, 0, 0, 0, 0, 0, 0, 0] rfl)) (fun j hj => ?_)
              have hbl : (x.2.take j ++ o.drop j).length = 128 := torn_len hxm.2 ho1 (by have := hya.2.2.2; omega)
              refine C_seq ?_
              refine C_seq ?_
              refine C_region ?_
              refine L_y rfl (y_move rfl) rfl ?_
              refine L_y rfl (y_move rfl) rfl ?_
              refine L_y rfl (y_nilCheck rfl) rfl ?_
              refine L_y rfl (y_fieldAddr rfl fl_46_3) rfl ?_
              refine L_y rfl (y_load rfl ag_3 (sees 2 0 rfl) rfl) rfl ?_
              refine L_y rfl (y_lss rfl rfl) rfl ?_
              refine L_nil ?_
              refine C_cond rfl (fun hc5 => ?_) (fun hc5 => ?_)
              · replace hc5 : j < ya.bytes := by have := of_decide_eq_true hc5; omega
                have hj8 : j < 128 := by have := hya.2.2.2; omega
                refine C_skip ?_
                refine C_seq ?_
                refine C_block ?_
                refine C_region ?_
                refine L_y rfl (y_move rfl) rfl ?_
                refine L_y rfl (y_move rfl) rfl ?_
                refine L_y rfl (y_fieldAddr rfl fl_148_1) rfl ?_
                refine L_y rfl (y_indexA rfl rfl Try.underlying38 sz_5 (by omega) (by omega) (show _ = 1 + j from by simp)) rfl ?_
                refine L_y rfl (y_load rfl ag_5 (sees 0 0 rfl) (show _ = some (u8 (x.2.getD j 0)) from by rw [Nat.add_comm, List.getElem?_cons_succ, bs_get, List.getElem?_eq_getElem (by omega)]; simp [List.getD, show j < x.2.length by omega])) rfl ?_
                refine L_y rfl (y_indexA rfl rfl Try.underlying38 sz_5 (by omega) (by omega) (show _ = j from by simp)) rfl ?_
                refine L_op rfl (op_store1 1 0 rfl rfl rfl sz_5 rfl (by rw [bs_length, hbl]; omega) ?_)
                refine L_nil ?_
                rw [bs_set, torn_step hxm.2 ho1 hj8]
                refine C_region ?_
                refine L_y rfl (y_move rfl) rfl ?_
                refine L_y rfl (y_add rfl rfl (show _ = ((j + 1 : Nat) : Int) from by rw [wi64 (by omega) (by omega)]; omega)) rfl ?_
                refine L_y rfl (y_assign rfl) rfl ?_
                refine L_nil ?_
                exact ⟨j + 1, by omega, by omega, ⟨rfl, rfl, rfl, rfl, rfl, rfl, rfl, trivial⟩, ((hsub (.cons_cons _ (.cons_cons _ (.cons_cons _ (.cons_cons _ (.cons_cons _ (.cons_cons _ (.cons_cons _ (.cons_cons _ (.cons_cons _ (.refl _))))))))))).trans (hsub_pick [0, 0, 0, 0, 0, 0, 0, 0, 0] rfl))⟩
              · obtain rfl : j = ya.bytes := by have := of_decide_eq_false hc5; omega
                refine C_exit ?_
                refine C_regionT 8 (by kernel_rfl) (by kernel_rfl) ?_
                refine S_y rfl (y_move rfl) rfl ?_
                refine S_y rfl (y_nilCheck rfl) rfl ?_
                refine S_y rfl (y_fieldAddr rfl fl_46_0) rfl ?_
                refine S_y rfl (y_load rfl ag_43 (sees 2 0 rfl) rfl) rfl ?_
                refine S_y rfl (y_fieldAddr rfl fl_148_0) rfl ?_
                refine S_y rfl (y_load rfl ag_3 (sees 0 0 rfl) rfl) rfl ?_
                refine S_y rfl (y_loadA rfl ag_38 sz_38 (sees 1 0 rfl) (by rw [bs_length, hbl]; omega) (bs_whole0 _ hbl)) rfl ?_
                refine S_y rfl (y_indexS rfl rfl Try.underlying43 sz_38 (by omega) (by first | omega | (simp only; omega)) (show _ = x.1 * 128 from by simp)) rfl ?_
                refine S_nil ?_
                refine L_op rfl (op_store 3 0 rfl rfl rfl sz_38 (by rw [bs_length, hbl]) rfl (bs_one _) (by rw [bs_length, hfl]; omega) ?_)
                rw [flat_spl hS1 (by omega) hbl, show (cutN ya k).set x.1 (x.2.take ya.bytes ++ o.drop ya.bytes) = cutN ya (k + 1) from by rw [cutN_s2 hx hc4]; simp [List.getD, ho2]]
                refine L_nil ?_
                refine C_region ?_
                refine L_y rfl (y_move rfl) rfl ?_
                refine L_y rfl (y_add rfl rfl (show _ = ((k + 1 : Nat) : Int) from by rw [wi64 (by omega) (by omega)]; omega)) rfl ?_
                refine L_y rfl (y_assign rfl) rfl ?_
                refine L_nil ?_
                exact ⟨k + 1, by omega, by omega, ⟨rfl, rfl, rfl, rfl, trivial⟩, ((hsub (.cons_cons _ (.cons_cons _ (.cons_cons _ (.cons_cons _ (.cons_cons _ (.cons_cons _ (.cons_cons _ (.cons _ (.cons _ (.refl _))))))))))).trans (hsub_pick [2, 2, 2, 2, 2, 2, 2] rfl))⟩
            · replace hc4 : ¬ k = ya.kept := by have := of_decide_eq_false hc4; omega
              rw [← cutN_s3 hx hc3 hc4]
              refine C_skip ?_
              refine C_region ?_
              refine L_y rfl (y_move rfl) rfl ?_
              refine L_y rfl (y_add rfl rfl (show _ = ((k + 1 : Nat) : Int) from by rw [wi64 (by omega) (by omega)]; omega)) rfl ?_
              refine L_y rfl (y_assign rfl) rfl ?_
              refine L_nil ?_
              exact ⟨k + 1, by omega, by omega, ⟨rfl, rfl, rfl, rfl, trivial⟩, ((hsub (.cons_cons _ (.cons_cons _ (.cons_cons _ (.cons_cons _ (.cons_cons _ (.cons_cons _ (.cons_cons _ (.cons _ (.refl _)))))))))).trans (hsub_pick [1, 1, 1, 1, 1, 1, 1] rfl))⟩
        · obtain rfl : k = ya.Q.length := by have := of_decide_eq_false hc2; omega
          refine C_exit ?_
          refine C_region ?_
          refine L_y rfl (y_move rfl) rfl ?_
          refine L_y rfl (y_nilCheck rfl) rfl ?_
          refine L_y rfl (y_fieldAddr rfl fl_46_1) rfl ?_
          refine L_op rfl (op_store1 0 0 rfl rfl rfl sz_44 rfl (Nat.le_of_ble_eq_true rfl) ?_)
          refine L_nil ?_
          refine C_region ?_
          refine L_y rfl (y_move rfl) rfl ?_
          refine L_y rfl (y_add rfl rfl (show _ = (2 : Int) from rfl)) rfl ?_
          refine L_y rfl (y_assign rfl) rfl ?_
          refine L_nil ?_
          refine In_round ?_
          refine C_seq ?_
          refine C_seq ?_
          refine C_region ?_
          refine L_y rfl (y_move rfl) rfl ?_
          refine L_y rfl (y_move rfl) rfl ?_
          refine L_y rfl (y_nilCheck rfl) rfl ?_
          refine L_y rfl (y_fieldAddr rfl fl_29_0) rfl ?_
          refine L_y rfl (y_load rfl ag_27 (sees 5 0 rfl) rfl) rfl ?_
          refine L_y rfl (y_lenS rfl rfl Try.underlying27) rfl ?_
          refine L_y rfl (y_lss rfl rfl) rfl ?_
          refine L_nil ?_
          refine C_cond_f rfl ?_
          refine C_exit ?_
          refine B_end rv_nil ((hsub_flat rfl : HSub ([(xb, .cells [.slice (some ⟨xst, 0, none⟩) xa.S.length xa.S.length, .slice none 0 0, .int .i64 (xa.kept : Int), .int .i64 (xa.bytes : Int), .bool xa.lies, .bool xa.out].toArray 46)] :: [(xst, .cells (bs (cutN xa xa.Q.length).flatten).toArray 38)] :: ([] : List (Nat × Obj)) :: [(yb, .cells [.slice (some ⟨yst, 0, none⟩) ya.S.length ya.S.length, .slice none 0 0, .int .i64 (ya.kept : Int), .int .i64 (ya.bytes : Int), .bool ya.lies, .bool ya.out].toArray 46)] :: [(yst, .cells (bs (cutN ya ya.Q.length).flatten).toArray 38)] :: ([] : List (Nat × Obj)) :: rpo rt pb gl true left :: rpq rt gl xb yb :: H) ([(xb, .cells [.slice (some ⟨xst, 0, none⟩) xa.S.length xa.S.length, .slice none 0 0, .int .i64 (xa.kept : Int), .int .i64 (xa.bytes : Int), .bool xa.lies, .bool xa.out].toArray 46)] :: [(xst, .cells (bs (cutN xa xa.Q.length).flatten).toArray 38)] :: [(yb, .cells [.slice (some ⟨yst, 0, none⟩) ya.S.length ya.S.length, .slice none 0 0, .int .i64 (ya.kept : Int), .int .i64 (ya.bytes : Int), .bool ya.lies, .bool ya.out].toArray 46)] :: [(yst, .cells (bs (cutN ya ya.Q.length).flatten).toArray 38)] :: rpo rt pb gl true left :: rpq rt gl xb yb :: H)).trans ((hsub (.cons_cons _ (.cons_cons _ (.cons_cons _ (.cons_cons _ (.cons_cons _ (.cons_cons _ (.cons _ (.refl _))))))))).trans (hsub_pick [3, 3, 0, 0, 1, 1] rfl))) ?_
          obtain ⟨x1, x2, x3⟩ := Rv.cut_segs rt (b := xb) (st := xst) (g := xg) hxa hox
          rw [x1, x2, x3]
          obtain ⟨y1, y2, y3⟩ := Rv.cut_segs rt (b := yb) (st := yst) (g := yg) hya hoy
          rw [y1, y2, y3]
          exact ⟨rfl, rfl⟩

end Go.Proofs.Ytaeooiogjhkjfaa

/- Numbers as bytes, the highest first (own work): plain facts. -/
set_option linter.unusedVariables false
namespace Go.Sl
/-- The bytes of a number, so many. -/
def be (n k : Nat) : List UInt8 := (List.range k).map fun i => UInt8.ofNat (n / 256 ^ (k - 1 - i) % 256)
def val (l : List UInt8) : Nat := l.foldl (fun a b => a * 256 + b.toNat) 0
theorem src_sl {P : Program} {w0 : World} {H : Hp} {e sz len s : Nat} {gs : Option SlG} {xs : List Value} (hs : H[s]? = some (slSeg e gs xs)) (hok : slOk sz gs len xs) : Src P w0 H sz (slV gs len) len xs := by
  cases gs with
  | none =>
    obtain ⟨h1, rfl⟩ := hok
    have : xs = [] := List.eq_nil_of_length_eq_zero (by simpa using h1)
    subst this
    exact src_nil
  | some g =>
    obtain ⟨h1, h2, h3⟩ := hok
    refine src_slice (sees_mem (List.mem_flatten.2 ⟨_, List.mem_of_getElem? hs, List.mem_singleton.2 rfl⟩)) ?_ ?_
    · simp; omega
    · rw [List.drop_zero, ← h1, List.take_left' rfl]
end Go.Sl

