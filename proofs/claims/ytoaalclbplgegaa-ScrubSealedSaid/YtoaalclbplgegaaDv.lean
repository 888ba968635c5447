/- Devices and their power: what lies in memory, and the plain model (own work). -/
import Derived.Test.YtoaalclbplgegaaSlH
set_option linter.unusedVariables false
set_option linter.unusedSimpArgs false
namespace Go.Sl
/-- The seat's own numbers of the types, and of the method 'cut'. -/
structure DT where
  dev : Nat
  sec : Nat
  wr : Nat
  fn : Nat
  pow : Nat
  cut : Nat
abbrev ptr (b : Nat) : Value := .pointer (some ⟨b, 0, none⟩)
abbrev Sec := List UInt8
/-- What a device is. -/
structure Ab where
  S : List Sec
  Q : List (Nat × Sec)
  kept : Nat
  bytes : Nat
  lies : Bool
  out : Bool
structure Dv where
  b : Nat
  st : Nat
  pw : Nat
  g : Option SlG
  a : Ab
structure Pa where
  off : Bool
  left : Int
  fails : Bool
structure Pw where
  b : Nat
  g : Option SlG
  devs : List Nat
  a : Pa
theorem one_slV (g : Option SlG) (k : Nat) : one (slV g k) = true := by cases g <;> rfl
def wcs (Q : List (Nat × Sec)) : List Value := Q.flatMap fun x => .int .i64 (x.1 : Int) :: bs x.2
def clos (t : DT) (b : Nat) : Value := .func (.func t.cut) #[ptr b] #[]
abbrev Dv.cells (d : Dv) : List Value := [ptr d.pw, .slice (some ⟨d.st, 0, none⟩) d.a.S.length d.a.S.length, slV d.g d.a.Q.length, .int .i64 (d.a.kept : Int), .int .i64 (d.a.bytes : Int), .bool d.a.lies, .bool d.a.out]
abbrev Dv.o (t : DT) (d : Dv) : List (Nat × Obj) := [(d.b, .cells d.cells.toArray t.dev)]
abbrev Dv.t (t : DT) (d : Dv) : List (Nat × Obj) := [(d.st, .cells (bs d.a.S.flatten).toArray t.sec)]
abbrev Dv.q (t : DT) (d : Dv) : List (Nat × Obj) := slSeg t.wr d.g (wcs d.a.Q)
abbrev Dv.segs (t : DT) (d : Dv) : Hp := [d.o t, d.t t, d.q t]
abbrev Pw.cells (p : Pw) : List Value := [.bool p.a.off, .int .i64 p.a.left, .bool p.a.fails, slV p.g p.devs.length]
abbrev Pw.o (t : DT) (p : Pw) : List (Nat × Obj) := [(p.b, .cells p.cells.toArray t.pow)]
abbrev Pw.q (t : DT) (p : Pw) : List (Nat × Obj) := slSeg t.fn p.g (p.devs.map (clos t))
/-! ### The model -/
def Ab.ok (a : Ab) : Prop := (∀ s ∈ a.S, s.length = 128) ∧ a.S.length ≤ 4096 ∧ (∀ x ∈ a.Q, x.1 < a.S.length ∧ x.2.length = 128) ∧ a.bytes ≤ 128
def Dv.ok (d : Dv) : Prop := d.a.ok ∧ slOk 129 d.g d.a.Q.length (wcs d.a.Q) ∧ d.a.Q.length ≤ 100000
def Pw.ok (t : DT) (p : Pw) : Prop := slOk 1 p.g p.devs.length (p.devs.map (clos t)) ∧ p.a.left ≤ 9223372036854775807
/-- What a failure makes of one write that waits. -/
def cut1 (a : Ab) (i : Nat) (x : Nat × Sec) (S : List Sec) : List Sec :=
  if i < a.kept then S.set x.1 x.2 else if i = a.kept then S.set x.1 (x.2.take a.bytes ++ (S.getD x.1 []).drop a.bytes) else S
def cutN (a : Ab) : Nat → List Sec
  | 0 => a.S
  | i + 1 => match a.Q[i]? with | none => cutN a i | some x => cut1 a i x (cutN a i)
def flushN (a : Ab) : Nat → List Sec
  | 0 => a.S
  | i + 1 => match a.Q[i]? with | none => flushN a i | some x => (flushN a i).set x.1 x.2
def Ab.cut (a : Ab) : Ab := if a.out then a else { a with S := cutN a a.Q.length, Q := [] }
def Ab.flush (a : Ab) : Ab := if a.lies then a else { a with S := flushN a a.Q.length, Q := [] }
def Dv.cut (d : Dv) : Dv := if d.a.out then d else { d with g := none, a := d.a.cut }
/-- Does power fail at the next operation? -/
def Pa.falls (p : Pa) : Bool := p.fails && decide (p.left ≤ 0)
def Pa.step (p : Pa) : Pa := if p.fails then if p.left ≤ 0 then { p with off := true, fails := false } else { p with left := p.left - 1 } else p
def Pw.step (p : Pw) : Pw := { p with a := p.a.step }
def Dv.step (p : Pa) (d : Dv) : Dv := if p.falls then d.cut else d
/-! ### Plain laws -/
theorem flat_len {S : List Sec} (h : ∀ s ∈ S, s.length = 128) : S.flatten.length = S.length * 128 := by
  induction S with
  | nil => rfl
  | cons s S ih => simp only [List.flatten_cons, List.length_append, List.length_cons, ih (fun s hs => h s (by simp [hs])), h s (by simp)]; omega
theorem flat_drop : ∀ {S : List Sec} (n : Nat), (∀ s ∈ S, s.length = 128) → S.flatten.drop (n * 128) = (S.drop n).flatten
  | [], n, h => by simp
  | s :: S, 0, h => by simp
  | s :: S, n + 1, h => by
    rw [List.flatten_cons, List.drop_succ_cons, ← flat_drop n (fun s hs => h s (by simp [hs])), List.drop_append, h s (by simp), List.drop_of_length_le (by rw [h s (by simp)]; omega), List.nil_append, show (n + 1) * 128 - 128 = n * 128 by omega]
theorem flat_sec {S : List Sec} {n : Nat} {s : Sec} (h : ∀ s ∈ S, s.length = 128) (hn : S[n]? = some s) : (S.flatten.drop (n * 128)).take 128 = s := by
  obtain ⟨hl, rfl⟩ := List.getElem?_eq_some_iff.1 hn
  rw [flat_drop n h, List.drop_eq_getElem_cons hl, List.flatten_cons, List.take_left' (h _ (List.getElem_mem hl))]
theorem flat_take {S : List Sec} (n : Nat) (h : ∀ s ∈ S, s.length = 128) (hn : n ≤ S.length) : S.flatten.take (n * 128) = (S.take n).flatten := by
  have e : S.flatten = (S.take n).flatten ++ (S.drop n).flatten := by rw [← List.flatten_append, List.take_append_drop]
  have l := flat_len (S := S.take n) (fun s hs => h s (List.mem_of_mem_take hs))
  rw [e, List.take_left' (by rw [l]; simp; omega)]
theorem flat_next {S : List Sec} (n : Nat) (h : ∀ s ∈ S, s.length = 128) : S.flatten.drop (n * 128 + 128) = (S.drop (n + 1)).flatten := by
  rw [show n * 128 + 128 = (n + 1) * 128 by omega, flat_drop _ h]
theorem flat_set {S : List Sec} {n : Nat} {s : Sec} (h : ∀ s ∈ S, s.length = 128) (hn : n < S.length) : (S.set n s).flatten = S.flatten.take (n * 128) ++ s ++ S.flatten.drop (n * 128 + 128) := by
  rw [flat_take n h (by omega), flat_next n h, List.set_eq_take_append_cons_drop, if_pos hn]
  simp
theorem flat_spl {S : List Sec} {n : Nat} {s : Sec} (h : ∀ s ∈ S, s.length = 128) (hn : n < S.length) (hs : s.length = 128) : spl (bs S.flatten) (n * 128) (bs s) = bs (S.set n s).flatten := by
  have := flat_len h
  rw [spl_bs (by omega), flat_set h hn, hs]
/-- The first bytes of a sector. -/
theorem flat_torn {S : List Sec} {n k : Nat} {s o : Sec} (h : ∀ s ∈ S, s.length = 128) (hn : S[n]? = some o) (hs : s.length = 128) (hk : k ≤ 128) : spl (bs S.flatten) (n * 128) (bs (s.take k)) = bs (S.set n (s.take k ++ o.drop k)).flatten := by
  obtain ⟨hl, rfl⟩ := List.getElem?_eq_some_iff.1 hn
  have hlen := flat_len h
  have ho := h _ (List.getElem_mem hl)
  have hk2 : (s.take k).length = k := by simp; omega
  rw [spl_bs (by rw [hk2, hlen]; omega), flat_set h hl, hk2]
  have e : S.flatten.drop (n * 128 + k) = (S[n]).drop k ++ S.flatten.drop (n * 128 + 128) := by
    rw [← List.drop_drop, flat_drop n h, List.drop_eq_getElem_cons hl, List.flatten_cons, List.drop_append_of_le_length (by omega), flat_next n h]
  rw [e]
  simp
theorem flat_byte {S : List Sec} {n i : Nat} {s : Sec} {v : UInt8} (h : ∀ s ∈ S, s.length = 128) (hn : S[n]? = some s) (hi : i < 128) : S.flatten.set (n * 128 + i) v = (S.set n (s.set i v)).flatten := by
  obtain ⟨hl, rfl⟩ := List.getElem?_eq_some_iff.1 hn
  have hlen := flat_len h
  have ho := h _ (List.getElem_mem hl)
  rw [flat_set h hl]
  have e : S.flatten = S.flatten.take (n * 128) ++ (S[n] ++ S.flatten.drop (n * 128 + 128)) := by
    conv => lhs; rw [← List.take_append_drop (n * 128) S.flatten]
    congr 1
    rw [flat_drop n h, flat_next n h, List.drop_eq_getElem_cons hl, List.flatten_cons]
  have ht : (S.flatten.take (n * 128)).length = n * 128 := by rw [List.length_take, hlen]; omega
  conv => lhs; rw [e]
  rw [List.set_append_right _ _ (by omega), List.set_append_left _ _ (by omega), List.append_assoc, ht]
  congr 3
  omega
theorem set_ok {S : List Sec} {n : Nat} {s : Sec} (h : ∀ s ∈ S, s.length = 128) (hs : s.length = 128) : ∀ x ∈ S.set n s, x.length = 128 := fun x hx => by
  rcases List.mem_or_eq_of_mem_set hx with h1 | rfl
  · exact h x h1
  · exact hs
theorem wcs_len {Q : List (Nat × Sec)} (h : ∀ x ∈ Q, x.2.length = 128) : (wcs Q).length = Q.length * 129 := by
  induction Q with
  | nil => rfl
  | cons x Q ih =>
    have := ih (fun x hx => h x (by simp [hx]))
    simp only [wcs, List.flatMap_cons, List.length_append, List.length_cons, bs_length, h x (by simp)] at this ⊢
    omega
theorem wcs_append (Q R : List (Nat × Sec)) : wcs (Q ++ R) = wcs Q ++ wcs R := by simp [wcs]
theorem wcs_one (n : Nat) (s : Sec) : wcs [(n, s)] = .int .i64 (n : Int) :: bs s := by simp [wcs]
theorem wcs_get : ∀ {Q : List (Nat × Sec)} {i : Nat} {x : Nat × Sec} (sp : List Value), (∀ x ∈ Q, x.2.length = 128) → Q[i]? = some x → ((wcs Q ++ sp).drop (i * 129)).take 129 = .int .i64 (x.1 : Int) :: bs x.2
  | [], i, x, sp, h, hi => by simp at hi
  | y :: Q, 0, x, sp, h, hi => by
    simp at hi; subst hi
    simp only [wcs, List.flatMap_cons, Nat.zero_mul, List.drop_zero, List.append_assoc]
    rw [List.take_left' (by simp [bs_length, h y (by simp)])]
  | y :: Q, i + 1, x, sp, h, hi => by
    simp only [List.getElem?_cons_succ] at hi
    have := wcs_get sp (fun x hx => h x (by simp [hx])) hi
    rw [← this]
    simp only [wcs, List.flatMap_cons, List.append_assoc]
    rw [show (i + 1) * 129 = 129 + i * 129 by omega, ← List.drop_drop, List.drop_left' (by simp [bs_length, h y (by simp)])]
theorem cut1_ok {a : Ab} (h : a.ok) {i : Nat} {x : Nat × Sec} (hx : x ∈ a.Q) {S : List Sec} (hS : ∀ s ∈ S, s.length = 128) (hl : S.length = a.S.length) : (∀ s ∈ cut1 a i x S, s.length = 128) ∧ (cut1 a i x S).length = a.S.length := by
  obtain ⟨h1, h2, h3, h4⟩ := h
  have hx2 := h3 x hx
  unfold cut1
  split
  · exact ⟨set_ok hS hx2.2, by simpa using hl⟩
  · split
    · refine ⟨set_ok hS ?_, by simpa using hl⟩
      have hlt : x.1 < S.length := by omega
      rw [show S.getD x.1 [] = S[x.1] from by simp [List.getD, hlt]]
      have := hS _ (List.getElem_mem hlt)
      simp; omega
    · exact ⟨hS, hl⟩
theorem cutN_ok {a : Ab} (h : a.ok) : ∀ i, (∀ s ∈ cutN a i, s.length = 128) ∧ (cutN a i).length = a.S.length
  | 0 => ⟨h.1, rfl⟩
  | i + 1 => by
    obtain ⟨h1, h2⟩ := cutN_ok h i
    unfold cutN
    split
    · exact ⟨h1, h2⟩
    · rename_i x hx
      exact cut1_ok h (List.mem_of_getElem? hx) h1 h2
theorem flushN_ok {a : Ab} (h : a.ok) : ∀ i, (∀ s ∈ flushN a i, s.length = 128) ∧ (flushN a i).length = a.S.length
  | 0 => ⟨h.1, rfl⟩
  | i + 1 => by
    obtain ⟨h1, h2⟩ := flushN_ok h i
    unfold flushN
    split
    · exact ⟨h1, h2⟩
    · rename_i x hx
      exact ⟨set_ok h1 (h.2.2.1 _ (List.mem_of_getElem? hx)).2, by simpa using h2⟩
theorem Ab.cut_ok {a : Ab} (h : a.ok) : a.cut.ok := by
  unfold Ab.cut
  split
  · exact h
  · obtain ⟨h1, h2⟩ := cutN_ok h a.Q.length
    exact ⟨h1, by have := h.2.1; simp only; omega, fun x hx => by simp at hx, h.2.2.2⟩
theorem Ab.flush_ok {a : Ab} (h : a.ok) : a.flush.ok := by
  unfold Ab.flush
  split
  · exact h
  · obtain ⟨h1, h2⟩ := flushN_ok h a.Q.length
    exact ⟨h1, by have := h.2.1; simp only; omega, fun x hx => by simp at hx, h.2.2.2⟩
theorem Dv.cut_ok {d : Dv} (h : d.ok) : d.cut.ok := by
  unfold Dv.cut
  split
  · exact h
  · rename_i ho
    refine ⟨Ab.cut_ok h.1, ?_⟩
    simp only [Ab.cut, ho, Bool.false_eq_true, if_false]
    exact ⟨⟨by simp [wcs], rfl⟩, by simp⟩
theorem Dv.cut_b (d : Dv) : d.cut.b = d.b := by unfold Dv.cut; split <;> rfl
theorem Dv.cut_st (d : Dv) : d.cut.st = d.st := by unfold Dv.cut; split <;> rfl
theorem Dv.cut_pw (d : Dv) : d.cut.pw = d.pw := by unfold Dv.cut; split <;> rfl
theorem Dv.cut_a (d : Dv) : d.cut.a = d.a.cut := by
  unfold Dv.cut Ab.cut; split <;> simp_all
theorem Dv.step_ok {d : Dv} {p : Pa} (h : d.ok) : (d.step p).ok := by unfold Dv.step; split; exact Dv.cut_ok h; exact h
theorem Dv.step_b (d : Dv) (p : Pa) : (d.step p).b = d.b := by unfold Dv.step; split; exact d.cut_b; rfl
theorem Dv.step_pw (d : Dv) (p : Pa) : (d.step p).pw = d.pw := by unfold Dv.step; split; exact d.cut_pw; rfl
def Ab.tear (a : Ab) (k m : Int) : Ab := { a with kept := (max k 0).toNat, bytes := (min (max m 0) 128).toNat }
theorem Ab.tear_ok {a : Ab} {k m : Int} (h : a.ok) : (a.tear k m).ok := ⟨h.1, h.2.1, h.2.2.1, by simp only [Ab.tear]; omega⟩
def Pa.fail (p : Pa) (n : Int) : Pa := { p with left := n, fails := decide (0 ≤ n) }
def Pa.restart (p : Pa) : Pa := { p with off := false, fails := false }
theorem cutN_s1 {a : Ab} {i : Nat} {x : Nat × Sec} (hx : a.Q[i]? = some x) (h : i < a.kept) : cutN a (i + 1) = (cutN a i).set x.1 x.2 := by
  show (match a.Q[i]? with | none => cutN a i | some x => cut1 a i x (cutN a i)) = _
  rw [hx]; simp [cut1, h]
theorem cutN_s2 {a : Ab} {i : Nat} {x : Nat × Sec} (hx : a.Q[i]? = some x) (h : i = a.kept) : cutN a (i + 1) = (cutN a i).set x.1 (x.2.take a.bytes ++ ((cutN a i).getD x.1 []).drop a.bytes) := by
  show (match a.Q[i]? with | none => cutN a i | some x => cut1 a i x (cutN a i)) = _
  rw [hx]; simp [cut1, h]
theorem cutN_s3 {a : Ab} {i : Nat} {x : Nat × Sec} (hx : a.Q[i]? = some x) (h : ¬ i < a.kept) (h2 : ¬ i = a.kept) : cutN a (i + 1) = cutN a i := by
  show (match a.Q[i]? with | none => cutN a i | some x => cut1 a i x (cutN a i)) = _
  rw [hx]; simp [cut1, h, h2]
theorem flushN_s {a : Ab} {i : Nat} {x : Nat × Sec} (hx : a.Q[i]? = some x) : flushN a (i + 1) = (flushN a i).set x.1 x.2 := by
  show (match a.Q[i]? with | none => flushN a i | some x => (flushN a i).set x.1 x.2) = _
  rw [hx]
theorem Dv.cut_segs (t : DT) {b st pw : Nat} {g : Option SlG} {a : Ab} (h : a.ok) (ho : a.out = false) : (Dv.cut ⟨b, st, pw, g, a⟩).o t = [(b, .cells #[ptr pw, .slice (some ⟨st, 0, none⟩) a.S.length a.S.length, .slice none 0 0, .int .i64 (a.kept : Int), .int .i64 (a.bytes : Int), .bool a.lies, .bool a.out] t.dev)] ∧
    (Dv.cut ⟨b, st, pw, g, a⟩).t t = [(st, .cells (bs (cutN a a.Q.length).flatten).toArray t.sec)] ∧ (Dv.cut ⟨b, st, pw, g, a⟩).q t = [] := by
  have := (cutN_ok h a.Q.length).2
  simp [Dv.cut, Dv.o, Dv.t, Dv.q, Dv.cells, Ab.cut, ho, this, slV, slSeg]
theorem one_wr (n : Nat) (s : Sec) : ∀ v ∈ Value.int .i64 (n : Int) :: bs s, one v = true := fun v hv => by
  rcases List.mem_cons.1 hv with rfl | h
  · rfl
  · exact bs_one _ v h
theorem HSub.same {H' H : Hp} (h : H' = H) : HSub H' H := h ▸ HSub.refl _
def cutTo (A : List Dv) (i : Nat) : List Dv := (A.take i).map Dv.cut ++ A.drop i
theorem cutTo_split (t : DT) {A : List Dv} {i : Nat} {x : Dv} (hx : A[i]? = some x) (po pq : List (Nat × Obj)) (H : Hp) :
    po :: pq :: ((cutTo A i).flatMap (Dv.segs t) ++ H) = (po :: pq :: ((A.take i).map Dv.cut).flatMap (Dv.segs t)) ++ ([x.o t, x.t t, x.q t] ++ ((A.drop (i + 1)).flatMap (Dv.segs t) ++ H)) := by
  obtain ⟨hi, rfl⟩ := List.getElem?_eq_some_iff.1 hx
  rw [cutTo, List.drop_eq_getElem_cons hi]
  simp only [List.flatMap_append, List.flatMap_cons, List.map_append, List.map_cons, List.map_nil, List.cons_append, List.append_assoc, List.nil_append, List.flatMap_nil, List.append_nil]
theorem cutTo_join (t : DT) {A : List Dv} {i : Nat} {x : Dv} (hx : A[i]? = some x) (po pq : List (Nat × Obj)) (H : Hp) :
    (po :: pq :: ((A.take i).map Dv.cut).flatMap (Dv.segs t)) ++ ([x.cut.o t, x.cut.t t, x.cut.q t] ++ ((A.drop (i + 1)).flatMap (Dv.segs t) ++ H)) = po :: pq :: ((cutTo A (i + 1)).flatMap (Dv.segs t) ++ H) := by
  obtain ⟨hi, rfl⟩ := List.getElem?_eq_some_iff.1 hx
  rw [cutTo, List.take_succ_eq_append_getElem hi]
  simp only [List.flatMap_append, List.flatMap_cons, List.map_append, List.map_cons, List.map_nil, List.cons_append, List.append_assoc, List.nil_append, List.flatMap_nil, List.append_nil]
theorem cutTo_all (A : List Dv) : cutTo A A.length = A.map Dv.cut := by simp [cutTo]
theorem step_map {A : List Dv} {p : Pa} (h : p.falls = true) : A.map (Dv.step p) = A.map Dv.cut := by
  apply List.map_congr_left; intro d _; simp [Dv.step, h]
theorem step_map0 {A : List Dv} {p : Pa} (h : p.falls = false) : A.map (Dv.step p) = A := by
  rw [show (Dv.step p) = id from funext fun d => by simp [Dv.step, h]]; simp
/-- The device in hand, ahead. -/
theorem open_perm (t : DT) (L R : List Dv) (d : Dv) (po pq : List (Nat × Obj)) (H : Hp) : (po :: pq :: ((L ++ d :: R).flatMap (Dv.segs t) ++ H)).Perm (d.o t :: d.t t :: d.q t :: po :: pq :: ((L ++ R).flatMap (Dv.segs t) ++ H)) := by
  have : (po :: pq :: ((L ++ d :: R).flatMap (Dv.segs t) ++ H)) = (po :: pq :: L.flatMap (Dv.segs t)) ++ ([d.o t, d.t t, d.q t] ++ (R.flatMap (Dv.segs t) ++ H)) := by simp [List.flatMap_append, Dv.segs]
  rw [this]
  refine (List.perm_append_comm_assoc _ _ _).trans ?_
  simp [List.flatMap_append]
theorem mem_segs (t : DT) {A : List Dv} {d : Dv} (h : d ∈ A) (po pq : List (Nat × Obj)) (H : Hp) : (d.b, Obj.cells d.cells.toArray t.dev) ∈ (po :: pq :: (A.flatMap (Dv.segs t) ++ H)).flatten := by
  simp only [List.mem_flatten]
  refine ⟨d.o t, ?_, by simp⟩
  simp only [List.mem_cons, List.mem_append, List.mem_flatMap]
  exact .inr (.inr (.inl ⟨d, h, by simp [Dv.segs]⟩))
/-- A device in hand, its power, and the power's other devices. -/
abbrev opn (t : DT) (d : Dv) (p : Pw) (O : List Dv) (H : Hp) : Hp := d.o t :: d.t t :: d.q t :: p.o t :: p.q t :: (O.flatMap (Dv.segs t) ++ H)
structure GOk (t : DT) (p : Pw) (L : List Dv) (d : Dv) (R : List Dv) : Prop where
  pws : ∀ x ∈ L ++ d :: R, p.b = x.pw
  devs : p.devs = (L ++ d :: R).map (·.b)
  all : ∀ x ∈ L ++ d :: R, x.ok
  pok : p.ok t
  len : (L ++ d :: R).length ≤ 1000
theorem Pw.step_ok {t : DT} {p : Pw} (h : p.ok t) : p.step.ok t := by
  refine ⟨h.1, ?_⟩
  have := h.2
  simp only [Pw.step, Pa.step]
  split
  · split <;> simp only <;> omega
  · exact this
theorem GOk.hb {t : DT} {p : Pw} {L R : List Dv} {d : Dv} (h : GOk t p L d R) : p.b = d.pw := h.pws d (by simp)
theorem GOk.dok {t : DT} {p : Pw} {L R : List Dv} {d : Dv} (h : GOk t p L d R) : d.ok := h.all d (by simp)
theorem GOk.set {t : DT} {p : Pw} {L R : List Dv} {d d' : Dv} (h : GOk t p L d R) (hb : d'.b = d.b) (hp : d'.pw = d.pw) (hok : d'.ok) : GOk t p L d' R where
  pws := fun x hx => by
    rcases List.mem_append.1 hx with h1 | h1
    · exact h.pws x (by simp [h1])
    · rcases List.mem_cons.1 h1 with rfl | h2
      · exact h.hb.trans hp.symm
      · exact h.pws x (by simp [h2])
  devs := by rw [h.devs]; simp [hb]
  all := fun x hx => by
    rcases List.mem_append.1 hx with h1 | h1
    · exact h.all x (by simp [h1])
    · rcases List.mem_cons.1 h1 with rfl | h2
      · exact hok
      · exact h.all x (by simp [h2])
  pok := h.pok
  len := by have := h.len; simpa using this
theorem GOk.setp {t : DT} {p : Pw} {L R : List Dv} {d : Dv} (h : GOk t p L d R) (a : Pa) (ha : a.left ≤ 9223372036854775807) : GOk t { p with a := a } L d R := ⟨h.pws, h.devs, h.all, ⟨h.pok.1, ha⟩, h.len⟩
theorem GOk.step {t : DT} {p : Pw} {L R : List Dv} {d : Dv} (h : GOk t p L d R) (q : Pa) : GOk t p (L.map (Dv.step q)) (d.step q) (R.map (Dv.step q)) where
  pws := fun x hx => by
    have : x ∈ (L ++ d :: R).map (Dv.step q) := by simpa using hx
    obtain ⟨y, hy, rfl⟩ := List.mem_map.1 this
    exact (h.pws y hy).trans (Dv.step_pw y q).symm
  devs := by rw [h.devs]; simp [Dv.step_b, Function.comp_def]
  all := fun x hx => by
    have : x ∈ (L ++ d :: R).map (Dv.step q) := by simpa using hx
    obtain ⟨y, hy, rfl⟩ := List.mem_map.1 this
    exact Dv.step_ok (h.all y hy)
  pok := h.pok
  len := by have := h.len; simpa using this
theorem GOk.stepp {t : DT} {p : Pw} {L R : List Dv} {d : Dv} (h : GOk t p L d R) : GOk t p.step L d R := ⟨h.pws, h.devs, h.all, Pw.step_ok h.pok, h.len⟩
theorem GOk.next {t : DT} {p : Pw} {L R : List Dv} {d x : Dv} (h : GOk t p L d (x :: R)) : GOk t p (L ++ [d]) x R where
  pws := fun y hy => h.pws y (by simpa using hy)
  devs := by rw [h.devs]; simp
  all := fun y hy => h.all y (by simpa using hy)
  pok := h.pok
  len := by have := h.len; simp at this ⊢; omega
theorem GOk.back {t : DT} {p : Pw} {L R : List Dv} {d x : Dv} (h : GOk t p (L ++ [d]) x R) : GOk t p L d (x :: R) where
  pws := fun y hy => h.pws y (by simpa using hy)
  devs := by rw [h.devs]; simp
  all := fun y hy => h.all y (by simpa using hy)
  pok := h.pok
  len := by have := h.len; simp at this ⊢; omega
theorem step0 {d : Dv} {q : Pa} (h : q.falls = false) : d.step q = d := by simp [Dv.step, h]
theorem step1 {d : Dv} {q : Pa} (h : q.falls = true) : d.step q = d.cut := by simp [Dv.step, h]
def Dv.wr (d : Dv) (n : Nat) (s : Sec) (g : Option SlG) : Dv := { d with g := g, a := { d.a with Q := d.a.Q ++ [(n, s)] } }
theorem Dv.wr_ok {d : Dv} {n : Nat} {s : Sec} {g : Option SlG} (h : d.ok) (hn : n < d.a.S.length) (hs : s.length = 128) (hq : d.a.Q.length < 100000) (hg : slOk 129 g (d.a.Q.length + 1) (wcs d.a.Q ++ (.int .i64 (n : Int) :: bs s))) : (d.wr n s g).ok := by
  obtain ⟨⟨h1, h2, h3, h4⟩, h5, h6⟩ := h
  refine ⟨⟨h1, h2, fun x hx => ?_, h4⟩, ?_, ?_⟩
  · simp only [Dv.wr] at hx ⊢
    rcases List.mem_append.1 hx with h | h
    · exact h3 x h
    · simp at h; subst h; exact ⟨hn, hs⟩
  · simp only [Dv.wr]
    rw [wcs_append, wcs_one, List.length_append]
    exact hg
  · simp only [Dv.wr, List.length_append, List.length_cons, List.length_nil]; omega
theorem fill_wr {n : Int} {s : Sec} (hs : s.length = 128) : Instr.fill (fun i => [((0 : Nat), (1 : Nat)), (1, 128)][i]?) ([Value.int .i64 0] ++ List.replicate 128 (Value.int .u8 0)).toArray [(0, .int .i64 n), (1, .agg (bs s).toArray)] = some (.int .i64 n :: bs s).toArray := by
  refine fill_cons (off := 0) (m := 1) (vs := [_]) rfl rfl rfl (by simp) (fill_cons (off := 1) (m := 128) (vs := bs s) rfl rfl (by rw [bs_length, hs]) (by simp [spl]) ?_)
  simp only [spl, Instr.fill]
  rw [spl_eq _ _ _ (by simp [bs_length, hs])]
  simp [bs_length, hs]
/-- A flush of all that waits. -/
def Dv.fl (d : Dv) : Dv := { d with g := none, a := { d.a with S := flushN d.a d.a.Q.length, Q := [] } }
theorem Dv.fl_ok {d : Dv} (h : d.ok) : d.fl.ok := by
  obtain ⟨h1, h2⟩ := flushN_ok h.1 d.a.Q.length
  exact ⟨⟨h1, by have := h.1.2.1; simp only [Dv.fl]; omega, fun x hx => by simp [Dv.fl] at hx, h.1.2.2.2⟩, ⟨by simp [Dv.fl, wcs], rfl⟩, by simp [Dv.fl]⟩
theorem Dv.fl_segs (t : DT) {b st pw : Nat} {g : Option SlG} {a : Ab} (h : a.ok) : (Dv.fl ⟨b, st, pw, g, a⟩).o t = [(b, .cells #[ptr pw, .slice (some ⟨st, 0, none⟩) a.S.length a.S.length, .slice none 0 0, .int .i64 (a.kept : Int), .int .i64 (a.bytes : Int), .bool a.lies, .bool a.out] t.dev)] ∧
    (Dv.fl ⟨b, st, pw, g, a⟩).t t = [(st, .cells (bs (flushN a a.Q.length).flatten).toArray t.sec)] ∧ (Dv.fl ⟨b, st, pw, g, a⟩).q t = [] := by
  have := (flushN_ok h a.Q.length).2
  simp [Dv.fl, Dv.o, Dv.t, Dv.q, Dv.cells, this, slV, slSeg]
theorem flat_at {S : List Sec} {n i : Nat} {s : Sec} (h : ∀ s ∈ S, s.length = 128) (hn : S[n]? = some s) (hi : i < 128) : S.flatten[n * 128 + i]? = s[i]? := by
  have := flat_sec h hn
  rw [← this, List.getElem?_take_of_lt hi, List.getElem?_drop]
theorem bits_xor8 (a b : UInt8) : bits .xor .u8 (a.toNat : Int) (b.toNat : Int) = ((a ^^^ b).toNat : Int) := by
  have ha := a.toNat_lt
  have hb := b.toNat_lt
  have hx : a.toNat ^^^ b.toNat < 2 ^ 8 := Nat.xor_lt_two_pow ha hb
  simp [bits]
  rw [Nat.mod_eq_of_lt (show a.toNat < 2 ^ IntKind.u8.bits from ha), Nat.mod_eq_of_lt (show b.toNat < 2 ^ IntKind.u8.bits from hb), IntKind.wrap_u8]
  omega
def Ab.rot (a : Ab) (n i : Nat) (m : UInt8) : Ab := { a with S := a.S.set n ((a.S.getD n []).set i ((a.S.getD n []).getD i 0 ^^^ m)) }
theorem Ab.rot_ok {a : Ab} {n i : Nat} {m : UInt8} (h : a.ok) (hn : n < a.S.length) : (a.rot n i m).ok := by
  obtain ⟨h1, h2, h3, h4⟩ := h
  refine ⟨set_ok h1 ?_, by simpa [Ab.rot] using h2, by simpa [Ab.rot] using h3, h4⟩
  rw [List.length_set, show a.S.getD n [] = a.S[n] from by simp [List.getD, hn]]
  exact h1 _ (List.getElem_mem hn)
/-- A sector of one byte. -/
def secOf (c : UInt8) : Sec := List.replicate 128 c
theorem secOf_len (c : UInt8) : (secOf c).length = 128 := List.length_replicate
def fillTo (c : UInt8) (i : Nat) : Sec := List.replicate i c ++ List.replicate (128 - i) 0
theorem fillTo_step {c : UInt8} {i : Nat} (h : i < 128) : (fillTo c i).set i c = fillTo c (i + 1) := by
  unfold fillTo
  rw [List.set_append_right _ _ (by simp), List.length_replicate, Nat.sub_self, show 128 - i = (128 - (i + 1)) + 1 by omega, List.replicate_succ, List.set_cons_zero, List.replicate_succ']
  simp
theorem fillTo_len {c : UInt8} {i : Nat} (h : i ≤ 128) : (fillTo c i).length = 128 := by simp [fillTo]; omega
theorem fillTo_all (c : UInt8) : fillTo c 128 = secOf c := by simp [fillTo, secOf]
theorem zsec : List.replicate 128 (Value.int .u8 0) = bs (secOf 0) := by simp [secOf, bs, u8]
theorem zsecs (k : Nat) : zcells (List.replicate 128 (Value.int .u8 0)) k = bs (List.replicate k (secOf 0)).flatten := by
  rw [zsec]
  unfold zcells
  induction k with
  | zero => rfl
  | succ k ih => rw [List.replicate_succ, List.replicate_succ, List.flatten_cons, List.flatten_cons, bs_append, ih]
theorem sec_at {l : List Value} {off n i : Nat} {A : List Sec} {s : Sec} (hA : ∀ s ∈ A, s.length = 128) (hv : (l.drop off).take (bs A.flatten).length = bs A.flatten) (hi : A[i]? = some s) : (l.drop (off + i * 128)).take 128 = bs s := by
  have hl := flat_len hA
  obtain ⟨hlt, _⟩ := List.getElem?_eq_some_iff.1 hi
  rw [← flat_sec hA hi, ← bs_take, ← bs_drop, ← hv, List.drop_take, List.take_take, List.drop_drop, bs_length, hl]
  congr 1
  omega
theorem same_step {A B : List Sec} {i : Nat} {s t : Sec} (h : A.take i = B.take i) (hA : A[i]? = some s) (hB : B[i]? = some t) (e : s = t) : A.take (i + 1) = B.take (i + 1) := by
  rw [List.take_add_one, List.take_add_one, h, hA, hB, e]
/-- A new device. -/
def Ab.new (k : Nat) : Ab := ⟨List.replicate k (secOf 0), [], 0, 0, false, false⟩
theorem Ab.new_ok {k : Nat} (h : k ≤ 4096) : (Ab.new k).ok := ⟨fun s hs => by simp [Ab.new] at hs; rw [hs.2]; exact secOf_len 0, by simpa [Ab.new] using h, fun x hx => by simp [Ab.new] at hx, by simp [Ab.new]⟩
def Dv.new (b st pw k : Nat) : Dv := ⟨b, st, pw, none, Ab.new k⟩
theorem Dv.new_ok {b st pw k : Nat} (h : k ≤ 4096) : (Dv.new b st pw k).ok := ⟨Ab.new_ok h, ⟨rfl, rfl⟩, by simp [Dv.new, Ab.new]⟩
def szOf (n : Int) : Nat := (min (max n 0) 4096).toNat
/-! ### What each call does, told of the abstract states -/
def Ab.down (a : Ab) (q : Pa) : Bool := a.out || q.off
def Ab.has (a : Ab) (n : Int) : Bool := decide (0 ≤ n) && decide (n < a.S.length)
def wgo (a : Ab) (q : Pa) (n : Int) : Bool := !a.down q && a.has n
def Ab.step (q : Pa) (a : Ab) : Ab := if q.falls then a.cut else a
def Ab.push (a : Ab) (n : Nat) (s : Sec) : Ab := { a with Q := a.Q ++ [(n, s)] }
def writeE (a : Ab) (q : Pa) (n : Int) : Int := if a.down q then 13 else if a.has n then (if q.falls then 13 else 0) else 2
def writeA (a : Ab) (q : Pa) (n : Int) (s : Sec) : Ab := if wgo a q n then (a.push n.toNat s).step q else a
def writeP (a : Ab) (q : Pa) (n : Int) : Pa := if wgo a q n then q.step else q
def flushE (a : Ab) (q : Pa) : Int := if a.down q then 13 else if q.falls then 13 else 0
def flushA (a : Ab) (q : Pa) : Ab := if a.down q then a else if q.falls then a.cut else a.flush
def flushP (a : Ab) (q : Pa) : Pa := if a.down q then q else q.step
/-- The other devices of a power, behind an operation that was counted (c) or not. -/
def Mv (c : Bool) (q : Pa) : List Dv → List Dv → Prop
  | [], [] => True
  | x :: xs, y :: ys => (y.b = x.b ∧ y.pw = x.pw ∧ y.a = if c then x.a.step q else x.a) ∧ Mv c q xs ys
  | _, _ => False
theorem Dv.step_a (d : Dv) (q : Pa) : (d.step q).a = d.a.step q := by unfold Dv.step Ab.step; split; exact d.cut_a; rfl
theorem Mv.same (q : Pa) : ∀ (L : List Dv), Mv false q L L
  | [] => trivial
  | _ :: L => ⟨⟨rfl, rfl, rfl⟩, Mv.same q L⟩
theorem Mv.step (q : Pa) : ∀ (L : List Dv), Mv true q L (L.map (Dv.step q))
  | [] => trivial
  | x :: L => ⟨⟨Dv.step_b x q, Dv.step_pw x q, Dv.step_a x q⟩, Mv.step q L⟩
theorem Mv.nil {c : Bool} {q : Pa} {L : List Dv} (h : Mv c q [] L) : L = [] := by cases L; rfl; exact h.elim
theorem Mv.one {c : Bool} {q : Pa} {x : Dv} {L : List Dv} (h : Mv c q [x] L) : ∃ y, L = [y] ∧ y.b = x.b ∧ y.pw = x.pw ∧ y.a = if c then x.a.step q else x.a := by
  match L, h with
  | [y], h => exact ⟨y, rfl, h.1⟩
  | [], h => exact h.elim
  | _ :: _ :: _, h => exact h.2.elim
theorem Dv.fl_a {d : Dv} (h : d.a.lies = false) : d.fl.a = d.a.flush := by simp [Dv.fl, Ab.flush, h]
def Ab.outs (a : Ab) (on : Bool) : Ab := if on then { a with Q := [], out := true } else { a with out := false }
theorem Ab.out_ok {d : Dv} (h : d.ok) : ({ d with g := none, a := { d.a with Q := [], out := true } } : Dv).ok := ⟨⟨h.1.1, h.1.2.1, fun x hx => by simp at hx, h.1.2.2.2⟩, ⟨rfl, rfl⟩, by simp⟩
def Ab.rotE (a : Ab) (n i : Int) : Bool := a.has n && (decide (0 ≤ i) && decide (i < 128))
def Ab.rots (a : Ab) (n i : Int) (m : UInt8) : Ab := if a.rotE n i then a.rot n.toNat i.toNat m else a
/-- What is stable in the document's example. -/
def awS : List Sec := [secOf 1, [2, 2] ++ List.replicate 126 0, secOf 0, secOf 0]
theorem awS_ok : ∀ s ∈ awS, s.length = 128 := fun s hs => by
  simp only [awS, List.mem_cons, List.not_mem_nil, or_false] at hs
  rcases hs with rfl | rfl | rfl | rfl <;> simp [secOf]
theorem awS_len : awS.flatten.length = 512 := flat_len awS_ok
/-! ### What is read -/
def lastW (Q : List (Nat × Sec)) (n : Nat) : Option Sec := (Q.reverse.find? fun x => x.1 == n).map (·.2)
def Ab.read (a : Ab) (n : Nat) : Sec := (lastW a.Q n).getD (a.S.getD n [])
def noneFrom (Q : List (Nat × Sec)) (n i : Nat) : Prop := ∀ k x, i ≤ k → Q[k]? = some x → x.1 ≠ n
theorem noneFrom_len (Q : List (Nat × Sec)) (n : Nat) : noneFrom Q n Q.length := fun k x hk hx => by
  have := (List.getElem?_eq_some_iff.1 hx).1; omega
theorem noneFrom_step {Q : List (Nat × Sec)} {n i : Nat} {x : Nat × Sec} (h : noneFrom Q n (i + 1)) (hx : Q[i]? = some x) (hn : x.1 ≠ n) : noneFrom Q n i := fun k y hk hy => by
  by_cases e : k = i
  · subst e; rw [hx] at hy; cases hy; exact hn
  · exact h k y (by omega) hy
theorem lastW_none {Q : List (Nat × Sec)} {n : Nat} (h : noneFrom Q n 0) : lastW Q n = none := by
  have : (Q.reverse.find? fun x => x.1 == n) = none := by
    rw [List.find?_eq_none]
    intro x hx
    obtain ⟨k, hk, rfl⟩ := List.getElem_of_mem (List.mem_reverse.1 hx)
    simpa using h k _ (Nat.zero_le _) (List.getElem?_eq_getElem hk)
  rw [lastW, this]; rfl
theorem lastW_found {Q : List (Nat × Sec)} {n i : Nat} {x : Nat × Sec} (h : noneFrom Q n (i + 1)) (hx : Q[i]? = some x) (hn : x.1 = n) : lastW Q n = some x.2 := by
  obtain ⟨hi, rfl⟩ := List.getElem?_eq_some_iff.1 hx
  have e : Q.reverse = (Q.drop (i + 1)).reverse ++ (Q[i] :: (Q.take i).reverse) := by
    conv => lhs; rw [← List.take_append_drop i Q, List.drop_eq_getElem_cons hi]
    simp
  have h0 : ((Q.drop (i + 1)).reverse.find? fun x => x.1 == n) = none := by
    rw [List.find?_eq_none]
    intro x hx
    obtain ⟨k, hk, rfl⟩ := List.getElem_of_mem (List.mem_reverse.1 hx)
    rw [List.getElem_drop]
    simpa using h (i + 1 + k) _ (by omega) (List.getElem?_eq_getElem (by rw [List.length_drop] at hk; omega))
  rw [lastW, e, List.find?_append, h0]
  simp [hn]
def readE (a : Ab) (q : Pa) (n : Int) : Int := if a.down q then 13 else if a.has n then 0 else 2
def readS (a : Ab) (q : Pa) (n : Int) : Sec := if a.down q then secOf 0 else if a.has n then a.read n.toNat else secOf 0
theorem Ab.read_len {a : Ab} {n : Nat} (h : a.ok) (hn : n < a.S.length) : (a.read n).length = 128 := by
  unfold Ab.read
  cases hl : lastW a.Q n with
  | none => rw [Option.getD_none, show a.S.getD n [] = a.S[n] from by simp [List.getD, hn]]; exact h.1 _ (List.getElem_mem hn)
  | some s =>
    unfold lastW at hl
    cases hf : a.Q.reverse.find? (fun x => x.1 == n) with
    | none => rw [hf] at hl; cases hl
    | some x =>
      rw [hf] at hl; cases hl
      exact (h.2.2.1 x (List.mem_reverse.1 (List.mem_of_find?_eq_some hf))).2
theorem readS_len {a : Ab} {q : Pa} {n : Int} (h : a.ok) : (readS a q n).length = 128 := by
  unfold readS
  split
  · exact secOf_len 0
  · split
    · rename_i hh
      have : 0 ≤ n ∧ n < a.S.length := by simpa [Ab.has] using hh
      exact Ab.read_len h (by omega)
    · exact secOf_len 0
end Go.Sl
