/- Own work: texts Rg, Rc, Re, put together. -/
import Derived.Carry
import Derived.Deep.Slices
import Derived.Test.YtighbhplfjjgpaaMCompactCarriedf
/- What a row tells of its arguments, for flat types (integers, bools, structs and arrays of these) and slices of them (own work). -/
set_option linter.unusedVariables false
set_option linter.unusedSimpArgs false
namespace Go.Sl
open Go.RowKit
inductive Sc where
  | int (k : IntKind)
  | bool
def Sc.fit : Sc → Value → Prop
  | .int k, v => ∃ n, v = .int k n ∧ (Lit.int k n).wf = true
  | .bool, v => ∃ b, v = .bool b
/-- A row of cells fits a row of scalars. -/
def Fits : List Sc → List Value → Prop
  | [], [] => True
  | s :: ss, v :: vs => s.fit v ∧ Fits ss vs
  | _, _ => False
theorem Fits.length : ∀ {ss : List Sc} {vs : List Value}, Fits ss vs → vs.length = ss.length
  | [], [], _ => rfl
  | _ :: _, _ :: _, h => by simp [Fits.length h.2]
  | [], _ :: _, h => h.elim
  | _ :: _, [], h => h.elim
theorem Fits.append : ∀ {ss tt : List Sc} {vs us : List Value}, Fits ss vs → Fits tt us → Fits (ss ++ tt) (vs ++ us)
  | [], _, [], _, _, h => h
  | _ :: _, _, _ :: _, _, h, k => ⟨h.1, Fits.append h.2 k⟩
  | [], _, _ :: _, _, h, _ => h.elim
  | _ :: _, _, [], _, h, _ => h.elim
theorem Fits.cons_iff {s : Sc} {ss : List Sc} {vs : List Value} : Fits (s :: ss) vs ↔ ∃ v us, vs = v :: us ∧ s.fit v ∧ Fits ss us := by
  cases vs with
  | nil => simp [Fits]
  | cons v us =>
    refine ⟨fun h => ⟨v, us, rfl, h⟩, fun ⟨v', us', e, h⟩ => ?_⟩
    obtain ⟨rfl, rfl⟩ := List.cons.inj e
    exact h
theorem Fits.nil_iff {vs : List Value} : Fits [] vs ↔ vs = [] := by cases vs <;> simp [Fits]
theorem Fits.split : ∀ {ss tt : List Sc} {vs : List Value}, Fits (ss ++ tt) vs → ∃ a b, vs = a ++ b ∧ Fits ss a ∧ Fits tt b
  | [], _, vs, h => ⟨[], vs, rfl, trivial, h⟩
  | s :: ss, tt, vs, h => by
    obtain ⟨v, us, rfl, h1, h2⟩ := Fits.cons_iff.1 h
    obtain ⟨a, b, rfl, h3, h4⟩ := Fits.split (ss := ss) h2
    exact ⟨v :: a, b, rfl, ⟨h1, h3⟩, h4⟩
/-- A row of bytes. -/
theorem Fits.bytes : ∀ {n : Nat} {vs : List Value}, Fits (List.replicate n (.int .u8)) vs → ∃ u : List UInt8, vs = bs u ∧ u.length = n
  | 0, vs, h => ⟨[], by rw [Fits.nil_iff.1 h]; rfl, rfl⟩
  | n + 1, vs, h => by
    rw [List.replicate_succ] at h
    obtain ⟨v, us, rfl, ⟨m, rfl, hm⟩, h2⟩ := Fits.cons_iff.1 h
    obtain ⟨u, rfl, rfl⟩ := Fits.bytes h2
    have hb := bounds_u8 hm
    refine ⟨UInt8.ofNat m.toNat :: u, ?_, rfl⟩
    rw [u8_of_int (by omega) (by omega)]; rfl
def flatF (P : Program) (g : TypeId → Option (List Sc)) : List Field → Nat → Option (List Sc)
  | [], _ => some []
  | f :: fs, off => if f.offset = off then (g f.type).bind fun l => if P.cellsOf f.type = l.length then (flatF P g fs (off + l.length)).map (l ++ ·) else none else none
def flatT (P : Program) : Nat → TypeId → Option (List Sc)
  | 0, _ => none
  | d + 1, t => match P.underlying t with
    | some (.int k) => some [.int k]
    | some .bool => some [.bool]
    | some (.struct fs) => (flatF P (flatT P d) fs.toList 0).bind fun l => if P.cellsOf t = l.length then some l else none
    | some (.array n e) => (flatT P d e).bind fun l => if P.cellsOf e = l.length ∧ P.cellsOf t = n * l.length then some (List.replicate n l).flatten else none
    | _ => none
theorem flatF_fits {P : Program} {g : TypeId → Option (List Sc)} {cs : List Value} : ∀ {fs : List Field} {off : Nat} {sh : List Sc}, flatF P g fs off = some sh →
    (∀ f ∈ fs, ∀ l, g f.type = some l → Fits l ((cs.drop f.offset).take (P.cellsOf f.type))) → Fits sh ((cs.drop off).take sh.length)
  | [], off, sh, h, _ => by
    simp only [flatF, Option.some.injEq] at h
    subst h; simp [Fits]
  | f :: fs, off, sh, h, hf => by
    unfold flatF at h
    split at h
    · rename_i ho
      cases hg : g f.type with
      | none => simp [hg] at h
      | some l =>
        rw [hg] at h; simp only [Option.bind_some] at h
        split at h
        · rename_i hc
          cases hr : flatF P g fs (off + l.length) with
          | none => simp [hr] at h
          | some l2 =>
            simp only [hr, Option.map_some, Option.some.injEq] at h
            subst h
            have h1 := hf f (by simp) l hg
            have h2 := flatF_fits hr (fun f' hf' => hf f' (by simp [hf']))
            rw [ho, hc] at h1
            have h3 := Fits.append h1 h2
            rw [List.length_append, List.take_add, List.drop_drop]
            exact h3
        · cases h
    · cases h
section
variable {H : Type} {enc : TypeId × Value → H} {P : Program} {w : World} {base : Nat} {spare : Nat → Bool} {held : Bool}
theorem arr_fits {l : List Sc} : ∀ {n : Nat} {cs : List Value}, cs.length = n * l.length → (∀ i, i < n → Fits l ((cs.drop (i * l.length)).take l.length)) → Fits (List.replicate n l).flatten cs
  | 0, cs, h, _ => by simp at h; subst h; simp [Fits]
  | n + 1, cs, h, hi => by
    rw [Nat.add_mul, Nat.one_mul] at h
    have h0 := hi 0 (by omega)
    rw [Nat.zero_mul, List.drop_zero] at h0
    have h1 := arr_fits (l := l) (n := n) (cs := cs.drop l.length) (by simp; omega) (fun i hi' => by
      have := hi (i + 1) (by omega)
      rw [List.drop_drop, show l.length + i * l.length = (i + 1) * l.length from by rw [Nat.add_mul, Nat.one_mul, Nat.add_comm]]
      exact this)
    have h2 := Fits.append h0 h1
    rw [List.take_append_drop] at h2
    rw [List.replicate_succ, List.flatten_cons]
    exact h2
theorem flat_trod : ∀ {d : Nat} {t : TypeId} {sh : List Sc}, flatT P d t = some sh → ∀ {fuel : Nat} {cs : List Value} {x : DataW H × List MemPlace}, DataW.trod enc P w base spare held fuel t cs = some x → Fits sh cs
  | 0, _, _, h, _, _, _, _ => by simp [flatT] at h
  | d + 1, t, sh, h, fuel, cs, x, hx => by
    unfold flatT at h
    split at h
    · rename_i k hu
      obtain ⟨n, rfl, _, hw⟩ := DataW.trod_int hu hx
      simp only [Option.some.injEq] at h; subst h
      exact ⟨⟨n, rfl, hw⟩, trivial⟩
    · rename_i hu
      obtain ⟨b, rfl, _⟩ := DataW.trod_bool hu hx
      simp only [Option.some.injEq] at h; subst h
      exact ⟨⟨b, rfl⟩, trivial⟩
    · rename_i fs hu
      obtain ⟨xs, n, _, _, hl, hlen, hf⟩ := DataW.trod_struct hu hx
      cases hF : flatF P (flatT P d) fs.toList 0 with
      | none => simp [hF] at h
      | some l =>
        simp only [hF, Option.bind_some] at h
        split at h
        · rename_i hc
          simp only [Option.some.injEq] at h; subst h
          have := flatF_fits (cs := cs) hF (fun f hfm l' hl' => by
            obtain ⟨i, hi, rfl⟩ := List.getElem_of_mem hfm
            have h1 := hf i _ (by rw [← Array.getElem?_toList]; exact List.getElem?_eq_getElem hi)
            have h2 : i < xs.length := by rw [hlen]; simpa using hi
            rw [List.getElem?_eq_getElem h2] at h1
            exact flat_trod hl' h1)
          rw [List.drop_zero, List.take_of_length_le (by omega)] at this
          exact this
        · cases h
    · rename_i n e hu
      obtain ⟨xs, m, _, _, hl, hlen, hf⟩ := DataW.trod_array hu hx
      cases hF : flatT P d e with
      | none => simp [hF] at h
      | some l =>
        simp only [hF, Option.bind_some] at h
        split at h
        · rename_i hc
          simp only [Option.some.injEq] at h; subst h
          refine arr_fits (by rw [hl, hc.2]) (fun i hi => ?_)
          have h1 := hf i hi
          have h2 : i < xs.length := by omega
          rw [List.getElem?_eq_getElem h2, hc.1] at h1
          exact flat_trod hF h1
        · cases h
    · cases h
/-- What is told of a slice that came in. -/
def InS (w : World) (sh : List Sc) (a : Option Addr) (len cap : Nat) : Prop :=
  (a = none ∧ len = 0 ∧ cap = 0) ∨ ∃ (x : Addr), a = some x ∧ len ≤ cap ∧ cap ≤ maxLen ∧
    (0 < len → ∃ (b off : Nat) (l : List Value) (T : TypeId) (fr : Nat × Nat), x = ⟨b, off, none⟩ ∧ w.heap[b]? = some (.cells l.toArray T fr) ∧ off + len * sh.length ≤ l.length ∧
      ∀ i, i < len → Fits sh ((l.drop (off + i * sh.length)).take sh.length))
theorem cell_block {w : World} {b off : Nat} {spot : Option Nat} {v : Value} (h : w.cell? ⟨b, off, spot⟩ = some v) : spot = none ∧ ∃ (l : List Value) (T : TypeId) (fr : Nat × Nat), w.heap[b]? = some (.cells l.toArray T fr) := by
  have hs : spot = none := by
    unfold World.cell? at h
    cases spot with
    | none => rfl
    | some s => split at h <;> simp at h
  subst hs
  refine ⟨rfl, ?_⟩
  cases hb : w.heap[b]? with
  | none => simp [World.cell?, hb] at h
  | some o =>
    cases o with
    | cells c T fr => exact ⟨c.toList, T, fr, by simp⟩
    | _ => simp [World.cell?, hb] at h
theorem flat_slice {d : Nat} {t e : TypeId} {sh : List Sc} {a : Option Addr} {len cap : Nat} {D : DataW H} {ps : List MemPlace} (ht : P.underlying t = some (.slice e)) (h : flatT P d e = some sh) (hc : P.cellsOf e = sh.length) (hp : 0 < sh.length)
    (hT : DataW.Trod enc P w base (fun _ => true) held t (.slice a len cap) D ps) : InS w sh a len cap := by
  obtain ⟨fuel, hf⟩ := hT
  rcases Go.Deep.open_slice ht hf with ⟨hcs, _⟩ | ⟨x, len', cap', m, n, DD, Pl, hcs, _, hl, hm, hmm, _, hx⟩
  · simp [Value.cells] at hcs
    exact .inl hcs
  · simp [Value.cells] at hcs
    obtain ⟨rfl, rfl, rfl⟩ := hcs
    refine .inr ⟨x, rfl, hl, hm, fun hpos => ?_⟩
    simp only [if_true] at hmm
    subst hmm
    rw [hc] at hx
    obtain ⟨b, off, spot⟩ := x
    obtain ⟨cs1, f1, f2⟩ := hx 0 (by omega)
    obtain ⟨_, f3, f4⟩ := World.cells?_some f1
    have f5 := f4 0 hp
    rw [List.getElem?_eq_getElem (by omega), show (Addr.add (Addr.add ⟨b, off, spot⟩ (0 * sh.length)) 0) = ⟨b, off, spot⟩ from by simp [Addr.add]] at f5
    obtain ⟨rfl, l, T, fr, hb⟩ := cell_block f5
    have hcell : ∀ i, i < len → ∃ cs', cs'.length = sh.length ∧ Fits sh cs' ∧ ∀ j, j < sh.length → w.cell? ⟨b, off + (i * sh.length + j), none⟩ = cs'[j]? := fun i hi => by
      obtain ⟨cs', h1, h2⟩ := hx i (by omega)
      obtain ⟨_, h3, h4⟩ := World.cells?_some h1
      exact ⟨cs', h3, flat_trod h h2, fun j hj => by have := h4 j hj; rw [addr_add, addr_add] at this; simpa [Nat.add_assoc] using this⟩
    have hget : ∀ i, i < len → ∀ j, j < sh.length → ∃ v, l[off + (i * sh.length + j)]? = some v ∧ w.cell? ⟨b, off + (i * sh.length + j), none⟩ = some v := fun i hi j hj => by
      obtain ⟨cs', h1, h2, h3⟩ := hcell i hi
      have h4 := h3 j hj
      rw [List.getElem?_eq_getElem (by omega)] at h4
      refine ⟨_, ?_, h4⟩
      simpa [World.cell?, hb] using h4
    have hle : off + len * sh.length ≤ l.length := by
      obtain ⟨v, h1, _⟩ := hget (len - 1) (by omega) (sh.length - 1) (by omega)
      have h2 := (List.getElem?_eq_some_iff.1 h1).1
      have h3 : (len - 1) * sh.length + sh.length = len * sh.length := by
        rw [← Nat.succ_mul]; congr 1; omega
      omega
    refine ⟨b, off, l, T, fr, rfl, hb, hle, fun i hi => ?_⟩
    obtain ⟨cs', h1, h2, h3⟩ := hcell i hi
    have : (l.drop (off + i * sh.length)).take sh.length = cs' := by
      apply List.ext_getElem?
      intro j
      by_cases hj : j < sh.length
      · rw [List.getElem?_take_of_lt hj, List.getElem?_drop, ← h3 j hj]
        obtain ⟨v, k1, k2⟩ := hget i hi j hj
        rw [k2, Nat.add_assoc, k1]
      · have hc : i * sh.length + sh.length ≤ len * sh.length := by
          rw [← Nat.succ_mul]; exact Nat.mul_le_mul_right _ hi
        rw [List.getElem?_eq_none (by simp; omega), List.getElem?_eq_none (by omega)]
    rw [this]; exact h2
/-- The same, told as one row of elements. -/
theorem inS_rows {w : World} {sh : List Sc} {α : Type} {f : α → List Value} (hf : ∀ cs, Fits sh cs → ∃ x, cs = f x) : ∀ {len : Nat} {l : List Value} {off : Nat}, off + len * sh.length ≤ l.length →
    (∀ i, i < len → Fits sh ((l.drop (off + i * sh.length)).take sh.length)) → ∃ xs : List α, xs.length = len ∧ (l.drop off).take (len * sh.length) = (xs.map f).flatten
  | 0, l, off, _, _ => ⟨[], rfl, by simp⟩
  | len + 1, l, off, hl, h => by
    have h0 := h 0 (by omega)
    rw [Nat.zero_mul, Nat.add_zero] at h0
    obtain ⟨x, hx⟩ := hf _ h0
    rw [Nat.succ_mul] at hl
    obtain ⟨xs, h1, h2⟩ := inS_rows (w := w) hf (len := len) (l := l) (off := off + sh.length) (by omega) (fun i hi => by
      have := h (i + 1) (by omega)
      rw [Nat.succ_mul] at this
      rw [show off + sh.length + i * sh.length = off + (i * sh.length + sh.length) from by omega]
      exact this)
    refine ⟨x :: xs, by simp [h1], ?_⟩
    rw [Nat.succ_mul, Nat.add_comm (len * sh.length), List.take_add, List.drop_drop, hx, h2]
    rfl
end
end Go.Sl

/- Rows over slices of numbers, with or without sectors (own work). -/
set_option linter.unusedVariables false
namespace Go.Sl
open Go.RowKit
end Go.Sl

/- Rows over a slice of deeds on numbers (own work). -/
set_option linter.unusedVariables false
namespace Go.Sl
open Go.RowKit
theorem in_bos {w : World} {a : Option Addr} {len cap : Nat} (h : InS w [.bool] a len cap) : ∃ ds : List Bool, len = ds.length ∧ Holds w [] a (bos ds) := by
  rcases h with ⟨rfl, rfl, rfl⟩ | ⟨x, rfl, h1, h2, h3⟩
  · exact ⟨[], rfl, fun hp => by simp [bos] at hp⟩
  · rcases Nat.eq_zero_or_pos len with rfl | hp
    · exact ⟨[], rfl, fun hp => by simp [bos] at hp⟩
    · obtain ⟨b, off, l, T, fr, rfl, hb, hl, hf⟩ := h3 hp
      obtain ⟨ds, hd, ht⟩ := inS_rows (w := w) (f := fun b : Bool => [Value.bool b]) (fun cs hc => by
        obtain ⟨_, _, rfl, ⟨a, rfl⟩, g1⟩ := Fits.cons_iff.1 hc
        obtain rfl := Fits.nil_iff.1 g1
        exact ⟨a, rfl⟩) hl hf
      have e : (ds.map fun b : Bool => [Value.bool b]).flatten = bos ds := by
        clear ht hd
        induction ds with
        | nil => rfl
        | cons x l ih => simp only [List.map_cons, List.flatten_cons, ih]; rfl
      refine ⟨ds, hd.symm, fun _ => ⟨b, off, l, T, fr, rfl, sees_old hb, ?_, ?_⟩⟩
      · rw [bos_len, hd]; simpa using hl
      · rw [bos_len, hd, ← e]; simpa using ht
end Go.Sl

