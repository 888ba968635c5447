/- Own work: texts Po, Pq, Ac, Fg, Se, L7W, Rw, Rg, Rs, put together. -/
import Derived.Test.YtjjiclgbdenkkaaProg
import Derived.ShutString
import Derived.OpenShut
import Derived.Carry
import Derived.Deep.Slices
import Derived.Test.YtjjiclgbdenkkaaMMirrorFlushd
/- The document's mirror: two lists that are there, or not: the plain model, and what a mirror has to do with it (own work). -/
set_option linter.unusedVariables false
set_option linter.unusedSimpArgs false
namespace Go.Sl
/-! ### Keys -/
section
variable {ks : List (Int × Nat)} {k j : Int} {c : Nat}
theorem kDel_erase (ks : List (Int × Nat)) (k : Int) : kDel ks k = ks.eraseP (·.1 == k) := by
  rw [List.eraseP_eq_eraseIdx]
  unfold kDel
  cases ks.findIdx? (·.1 == k) <;> rfl
def kOk (ks : List (Int × Nat)) : Prop := (ks.map (·.1)).Nodup
theorem kHas_mem : kHas ks k = true ↔ k ∈ ks.map (·.1) := by
  unfold kHas
  rw [List.any_eq_true, List.mem_map]
  refine ⟨fun ⟨x, h, e⟩ => ⟨x, h, by simpa using e⟩, fun ⟨x, h, e⟩ => ⟨x, h, by simpa using e⟩⟩
theorem kHas_put : kHas (kPut ks c k) j = (kHas ks j || decide (j = k)) := by
  unfold kPut
  split
  · rename_i h
    by_cases e : j = k
    · subst e; simp [h]
    · simp [e]
  · unfold kHas
    rw [List.any_append]
    simp only [List.any_cons, List.any_nil, Bool.or_false]
    congr 1
    by_cases e : j = k
    · subst e; simp
    · simp [e, Ne.symm e]
theorem kOk.put (h : kOk ks) : kOk (kPut ks c k) := by
  unfold kPut
  split
  · exact h
  · rename_i hn
    have hn2 : k ∉ ks.map (·.1) := fun h => hn (kHas_mem.2 h)
    unfold kOk
    rw [List.map_append, List.nodup_append]
    refine ⟨h, by simp, fun a ha b hb => ?_⟩
    simp at hb
    subst hb
    intro e; subst e
    exact hn2 ha
theorem kOk.del (h : kOk ks) : kOk (kDel ks k) := by
  rw [kDel_erase]
  unfold kOk at h ⊢
  exact List.Sublist.nodup (List.Sublist.map _ List.eraseP_sublist) h
theorem kHas_del : ∀ {ks : List (Int × Nat)}, kOk ks → kHas (kDel ks k) j = (kHas ks j && !decide (j = k))
  | [], _ => by simp [kDel, kHas]
  | x :: ks, h => by
    rw [kDel_erase, List.eraseP_cons]
    unfold kOk at h
    rw [List.map_cons, List.nodup_cons] at h
    by_cases e : x.1 = k
    · have hb : (x.1 == k) = true := by simpa using e
      rw [hb]
      simp only [cond_true, if_true]
      unfold kHas
      rw [List.any_cons]
      by_cases ej : j = k
      · have : ks.any (fun x => x.1 == k) = false := by
          rw [← Bool.not_eq_true]
          intro hc
          exact h.1 (e ▸ kHas_mem.1 hc)
        subst ej
        rw [this]; simp
      · have : (x.1 == j) = false := by simp; omega
        rw [this]; simp [ej]
    · have hb : (x.1 == k) = false := by simpa using e
      rw [hb]
      have ih := kHas_del (ks := ks) h.2
      rw [kDel_erase] at ih
      unfold kHas at ih ⊢
      simp only [cond_false, Bool.false_eq_true, if_false]
      rw [List.any_cons, List.any_cons, ih]
      by_cases ej : j = k
      · subst ej; rw [hb]; simp
      · simp [ej]
theorem kPut_len : (kPut ks c k).length = ks.length + (if kHas ks k then 0 else 1) := by
  unfold kPut; split <;> simp
theorem kDel_len2 : (kDel ks k).length + (if kHas ks k then 1 else 0) = ks.length := by
  rw [kDel_erase]
  split
  · rename_i h
    have h2 := kHas_mem.1 h
    obtain ⟨x, hx, e⟩ := List.mem_map.1 h2
    have := List.length_eraseP_of_mem (p := fun y : Int × Nat => y.1 == k) hx (by simpa using e)
    have hp : 0 < ks.length := List.length_pos_of_mem hx
    omega
  · rename_i h
    rw [List.eraseP_of_forall_not]
    · rfl
    · intro a ha hc
      exact h (kHas_mem.2 (List.mem_map.2 ⟨a, ha, by simpa using hc⟩))
end
/-! ### The document's mirror -/
structure Rs where
  l : List Sec
  o : Bool
  s : List Bool
structure Rm where
  x : Rs
  y : Rs
def Rm.sd (r : Rm) : Bool → Rs
  | false => r.x
  | true => r.y
def Rm.put (r : Rm) (i : Bool) (z : Rs) : Rm := match i with
  | false => { r with x := z }
  | true => { r with y := z }
def Rs.at (r : Rs) (n : Nat) : Sec := r.l.getD n []
def Rs.old (r : Rs) (n : Nat) : Bool := r.s.getD n false
def Rs.tells (r : Rs) (p : Int → Sec → Bool) (n : Nat) : Bool := !r.old n && p n (r.at n)
def Rm.has (r : Rm) (n : Int) : Bool := decide (0 ≤ n) && decide (n < r.x.l.length)
def Rm.readE (r : Rm) (p : Int → Sec → Bool) (n : Int) : Int :=
  if r.has n then (if r.x.o && r.y.o then 13 else if !r.x.o && r.x.tells p n.toNat then 0 else if !r.y.o && r.y.tells p n.toNat then 0 else 9) else 2
def Rm.readS (r : Rm) (p : Int → Sec → Bool) (n : Int) : Sec :=
  if r.has n then (if !r.x.o && r.x.tells p n.toNat then r.x.at n.toNat else if !r.y.o && r.y.tells p n.toNat then r.y.at n.toNat else secOf 0) else secOf 0
def Rs.wl (r : Rs) (n : Nat) (s : Sec) : Rs := { r with l := if r.o then r.l else r.l.set n s }
def Rs.wr (r : Rs) (n : Nat) (s : Sec) : Rs := { r.wl n s with s := r.s.set n r.o }
def Rm.writeE (r : Rm) (n : Int) : Int := if r.has n then (if r.x.o && r.y.o then 13 else 0) else 2
def Rm.write (r : Rm) (n : Int) (s : Sec) : Rm := if r.has n && !(r.x.o && r.y.o) then ⟨r.x.wr n.toNat s, r.y.wr n.toNat s⟩ else r
def Rm.healTo (r : Rm) (p : Int → Sec → Bool) (n : Int) : Option Bool :=
  if r.has n && (!r.x.o && !r.y.o) then
    (if r.x.tells p n.toNat then (if r.y.tells p n.toNat && decide (r.x.at n.toNat = r.y.at n.toNat) then none else some true) else if r.y.tells p n.toNat then some false else none)
  else none
def Rm.healR (r : Rm) (p : Int → Sec → Bool) (n : Int) : Int × Int :=
  if r.has n then (if !r.x.o && !r.y.o then
    (if r.x.tells p n.toNat then (if r.y.tells p n.toNat && decide (r.x.at n.toNat = r.y.at n.toNat) then (0, 0) else (1, 0)) else if r.y.tells p n.toNat then (1, 0) else (2, 0))
  else (0, 13)) else (0, 2)
def Rs.copy (r : Rs) (n : Nat) (s : Sec) : Rs := { r with l := r.l.set n s, s := r.s.set n false }
def Rm.heal (r : Rm) (p : Int → Sec → Bool) (n : Int) : Rm := match r.healTo p n with
  | none => r
  | some i => r.put i ((r.sd i).copy n.toNat ((r.sd (!i)).at n.toNat))
def Rm.both (r : Rm) (p : Int → Sec → Bool) (n : Int) : List Sec :=
  if r.has n then (if !r.x.o && p n (r.x.at n.toNat) then [r.x.at n.toNat] else []) ++ (if !r.y.o && p n (r.y.at n.toNat) then [r.y.at n.toNat] else []) else []
def Rs.cnt (r : Rs) : Nat := r.s.countP id
def Rm.sy1 (p : Int → Sec → Bool) (i : Bool) (r : Rm) (n : Nat) : Rm :=
  if (r.sd i).old n && (r.sd (!i)).tells p n then r.put i ((r.sd i).copy n ((r.sd (!i)).at n)) else r
def Rm.syN (p : Int → Sec → Bool) (i : Bool) (r : Rm) : Nat → Rm
  | 0 => r
  | k + 1 => Rm.sy1 p i (Rm.syN p i r k) k
def Rm.syncQ (r : Rm) (p : Int → Sec → Bool) : Rm := Rm.syN p true (Rm.syN p false r r.x.l.length) r.x.l.length
def Rm.sync (r : Rm) (p : Int → Sec → Bool) : Rm := if !r.x.o && !r.y.o then r.syncQ p else r
def Rm.syncE (r : Rm) (p : Int → Sec → Bool) : Int := if !r.x.o && !r.y.o then (if (r.syncQ p).x.cnt + (r.syncQ p).y.cnt = 0 then 0 else 9) else 13
def Rm.outs (r : Rm) (i on : Bool) : Rm := r.put i { r.sd i with o := on }
def Rm.rot (r : Rm) (i : Bool) (n : Int) (j : Nat) (c : UInt8) : Rm := if r.has n then r.put i { r.sd i with l := (r.sd i).l.set n.toNat (rotB ((r.sd i).at n.toNat) j c) } else r
def Rm.new (K : Nat) (a b : Bool) : Rm := ⟨⟨List.replicate K (secOf 0), a, List.replicate K a⟩, ⟨List.replicate K (secOf 0), b, List.replicate K b⟩⟩
theorem Rs.wl_out {z : Rs} {n : Nat} {s : Sec} (h : z.o = true) : z.wl n s = z := by cases z; simp_all [Rs.wl]
theorem Rs.wl_in {z : Rs} {n : Nat} {s : Sec} (h : z.o = false) : z.wl n s = { z with l := z.l.set n s } := by cases z; simp_all [Rs.wl]
theorem tf (b : Bool) : b = false ∨ b = true := by cases b <;> simp
/-! ### One side -/
structure Side (r : Rs) (a : Ab) (ks : List (Int × Nat)) (K k : Nat) : Prop where
  ok : a.ok
  len : a.S.length = K
  lies : a.lies = false
  out : a.out = r.o
  many : a.Q.length ≤ k
  none : r.o = true → a.Q = []
  rlen : r.l.length = K
  slen : r.s.length = K
  lok : ∀ s ∈ r.l, s.length = 128
  read : ∀ j s, r.l[j]? = some s → a.read j = s
  kok : kOk ks
  has : ∀ n : Int, kHas ks n = (decide (0 ≤ n) && r.s.getD n.toNat false)
  cnt : ks.length = r.cnt
section
variable {r : Rs} {a : Ab} {ks : List (Int × Nat)} {K k n : Nat} {s : Sec}
theorem Side.rd (h : Side r a ks K k) (ho : r.o = false) : RdW K r.l a k := ⟨h.ok, h.len, h.out.trans ho, h.lies, h.many, h.rlen, h.read⟩
theorem Side.mono {k' : Nat} (h : Side r a ks K k) (hk : k ≤ k') : Side r a ks K k' := { h with many := Nat.le_trans h.many hk }
theorem Side.idle (h : Side r a ks K k) (ho : r.o = true) : Side r a ks K 0 := { h with many := by rw [h.none ho]; exact Nat.le_refl _ }
theorem Side.atlen (h : Side r a ks K k) (hn : n < K) : (r.at n).length = 128 := by
  have hl : n < r.l.length := by have := h.rlen; omega
  exact h.lok _ (by rw [Rs.at, List.getD_eq_getElem?_getD, List.getElem?_eq_getElem hl]; exact List.getElem_mem hl)
theorem Side.get (h : Side r a ks K k) (hn : n < K) : r.l[n]? = some (r.at n) := by
  have hl : n < r.l.length := by have := h.rlen; omega
  rw [Rs.at, List.getD_eq_getElem?_getD, List.getElem?_eq_getElem hl]; rfl
theorem Side.push (h : Side r a ks K k) (ho : r.o = false) (hn : n < K) (hs : s.length = 128) : Side { r with l := r.l.set n s } (a.push n s) ks K (k + 1) := by
  have w := (h.rd ho).write hn hs
  exact ⟨w.ok, w.len, w.lies, h.out, w.many, (fun h2 => by rw [ho] at h2; cases h2), w.wlen, h.slen, set_ok2 h.lok hs, w.read, h.kok, h.has, h.cnt⟩
theorem Side.flush (h : Side r a ks K k) (ho : r.o = false) : Side r a.flush ks K 0 := by
  have w := (h.rd ho).flush
  exact ⟨w.ok, w.len, w.lies, w.out.trans ho.symm, w.many, (fun h2 => by rw [ho] at h2; cases h2), w.wlen, h.slen, h.lok, w.read, h.kok, h.has, h.cnt⟩
theorem getD_set {l : List Bool} {n j : Nat} {b : Bool} (hn : n < l.length) : (l.set n b).getD j false = if j = n then b else l.getD j false := by
  rw [List.getD_eq_getElem?_getD, List.getD_eq_getElem?_getD, List.getElem?_set]
  by_cases e : n = j
  · subst e; simp [hn]
  · simp [e, Ne.symm e]
theorem countP_set2 {l : List Bool} {n : Nat} {b : Bool} (hn : n < l.length) : (l.set n b).countP id + (if l.getD n false then 1 else 0) = l.countP id + (if b then 1 else 0) := by
  have := List.countP_set (p := id) (a := b) hn
  have hg : l.getD n false = l[n] := by rw [List.getD_eq_getElem?_getD, List.getElem?_eq_getElem hn]; rfl
  have hp : l[n] = true → 0 < l.countP id := fun h => List.countP_pos_iff.2 ⟨_, List.getElem_mem hn, h⟩
  rw [hg, this]
  simp only [id]
  cases hb : l[n]
  · simp
  · have := hp hb
    simp; omega
theorem Side.unmark (h : Side r a ks K k) (hn : n < K) : Side { r with s := r.s.set n false } a (kDel ks n) K k := by
  have hl : n < r.s.length := by have := h.slen; omega
  refine { h with slen := by simpa using h.slen, kok := h.kok.del, has := fun j => ?_, cnt := ?_ }
  · rw [kHas_del h.kok, h.has]
    simp only
    rw [getD_set hl]
    by_cases hj : 0 ≤ j
    · obtain ⟨j, rfl⟩ : ∃ m : Nat, j = m := ⟨j.toNat, by omega⟩
      simp only [Int.toNat_natCast]
      by_cases e : j = n
      · subst e; simp
      · have : ¬ ((j : Int) = n) := by omega
        simp [e, this]
    · simp [hj]
  · have h1 := kDel_len2 (ks := ks) (k := (n : Int))
    have h2 := countP_set2 (b := false) hl
    have h3 := h.has (n : Int)
    have h4 := h.cnt
    simp only [Int.toNat_natCast] at h3
    rw [show decide ((0 : Int) ≤ n) = true from by simp, Bool.true_and] at h3
    rw [h3] at h1
    simp only [Rs.cnt] at h4 ⊢
    simp only [Bool.false_eq_true, if_false] at h2
    omega
theorem Side.mark {c : Nat} (h : Side r a ks K k) (hn : n < K) : Side { r with s := r.s.set n true } a (kPut ks c n) K k := by
  have hl : n < r.s.length := by have := h.slen; omega
  refine { h with slen := by simpa using h.slen, kok := h.kok.put, has := fun j => ?_, cnt := ?_ }
  · rw [kHas_put, h.has]
    simp only
    rw [getD_set hl]
    by_cases hj : 0 ≤ j
    · obtain ⟨j, rfl⟩ : ∃ m : Nat, j = m := ⟨j.toNat, by omega⟩
      simp only [Int.toNat_natCast]
      by_cases e : j = n
      · subst e; simp
      · have : ¬ ((j : Int) = n) := by omega
        simp [e, this]
    · have : ¬ (j = (n : Int)) := by omega
      simp [hj, this]
  · have h1 := kPut_len (ks := ks) (k := (n : Int)) (c := c)
    have h2 := countP_set2 (b := true) hl
    have h3 := h.has (n : Int)
    have h4 := h.cnt
    simp only [Int.toNat_natCast] at h3
    rw [show decide ((0 : Int) ≤ n) = true from by simp, Bool.true_and] at h3
    rw [h3] at h1
    simp only [Rs.cnt] at h4 ⊢
    simp only [if_true] at h2
    cases hb : r.s.getD n false
    · rw [hb] at h1 h2; simp at h1 h2; omega
    · rw [hb] at h1 h2; simp at h1 h2; omega
theorem Side.stable (h : Side r a ks K 0) : a.Q = [] ∧ a.S = r.l := by
  have hq : a.Q = [] := List.eq_nil_of_length_eq_zero (Nat.le_zero.1 h.many)
  refine ⟨hq, ?_⟩
  apply List.ext_getElem?
  intro j
  by_cases hj : j < K
  · have g := h.get hj
    have := h.read j _ g
    rw [g, ← this]
    have hl : j < a.S.length := by have := h.len; omega
    simp [Ab.read, hq, lastW, List.getD, hl]
  · rw [List.getElem?_eq_none (by have := h.len; omega), List.getElem?_eq_none (by have := h.rlen; omega)]
theorem read_nil {a : Ab} (h : a.Q = []) (n : Nat) : a.read n = a.S.getD n [] := by simp [Ab.read, h, lastW]
theorem Side.outs {on : Bool} (h : Side r a ks K 0) : Side { r with o := on } (a.outs on) ks K 0 := by
  obtain ⟨hq, hS⟩ := h.stable
  have e : a.outs on = { a with out := on } := by cases on <;> simp [Ab.outs, hq]
  rw [e]
  exact ⟨h.ok, h.len, h.lies, rfl, h.many, fun _ => hq, h.rlen, h.slen, h.lok, h.read, h.kok, h.has, h.cnt⟩
theorem Side.rot {j : Nat} {c : UInt8} (h : Side r a ks K 0) (hn : n < K) : Side { r with l := r.l.set n (rotB (r.at n) j c) } (a.rot n j c) ks K 0 := by
  obtain ⟨hq, hS⟩ := h.stable
  have g := h.get hn
  have hg : a.S.getD n [] = r.at n := by rw [hS]; rfl
  refine ⟨Ab.rot_ok h.ok (by rw [h.len]; exact hn), by simp [Ab.rot, h.len], h.lies, h.out, by simp [Ab.rot, hq], fun _ => hq, by simpa using h.rlen, h.slen, set_ok2 h.lok (rotB_len.trans (h.atlen hn)), fun i u hu => ?_, h.kok, h.has, h.cnt⟩
  rw [read_nil (by simpa [Ab.rot] using hq)]
  simp only [Ab.rot]
  rw [hg, hS]
  simp only at hu
  rw [show (r.at n).set j ((r.at n).getD j 0 ^^^ c) = rotB (r.at n) j c from rfl, List.getD_eq_getElem?_getD, hu]; rfl
end
/-! ### Both -/
structure Rel (A : Da) (m : Mi) (r : Rm) (K k0 k1 : Nat) : Prop where
  calm : A.calm
  x : Side r.x A.a m.k0 K k0
  y : Side r.y A.b m.k1 K k1
  n : m.n = K
section
variable {A : Da} {m : Mi} {r : Rm} {K k0 k1 : Nat} {s : Sec} {ask : Da → Bool → Bool} {p : Int → Sec → Bool}
theorem Rel.sd (h : Rel A m r K k0 k1) (i : Bool) : Side (r.sd i) (A.dev i) (m.ks i) K (pick2 i k0 k1) := by
  cases i
  · exact h.x
  · exact h.y
theorem Rel.mono {j0 j1 : Nat} (h : Rel A m r K k0 k1) (h0 : k0 ≤ j0) (h1 : k1 ≤ j1) : Rel A m r K j0 j1 := ⟨h.calm, h.x.mono h0, h.y.mono h1, h.n⟩
theorem Rel.thr (h : Rel A m r K k0 k1) (i : Bool) : Sl.thr A i = !(r.sd i).o := by
  unfold Sl.thr Ab.down
  rw [(h.sd i).out, (Da.calm_pow h.calm i).1]
  simp
theorem Rel.has (h : Rel A m r K k0 k1) (n : Int) : m.has n = r.has n := by
  unfold Mi.has Rm.has
  rw [h.n, h.x.rlen]
theorem Rel.hasK (h : Rel A m r K k0 k1) (n : Int) : r.has n = (decide (0 ≤ n) && decide (n < K)) := by
  unfold Rm.has
  rw [h.x.rlen]
theorem Rel.reads (h : Rel A m r K k0 k1) (i : Bool) {n : Nat} (hn : n < K) (ho : (r.sd i).o = false) : A.rS i (n : Int) = (r.sd i).at n ∧ A.rE i (n : Int) = 0 := by
  obtain ⟨h1, h2⟩ := Da.read_calm h.calm i (n : Int)
  have hd := h.sd i
  have hh : (A.dev i).has (n : Int) = true := by simp only [Ab.has, hd.len]; simp; omega
  rw [h1, h2, hd.out, ho, hh]
  exact ⟨by simpa using hd.read n _ (hd.get hn), rfl⟩
theorem Rel.writes (h : Rel A m r K k0 k1) (i : Bool) {n : Nat} (hn : n < K) (ho : (r.sd i).o = false) : A.wE i (n : Int) = 0 ∧ A.write i (n : Int) s = A.setd i ((A.dev i).push n s) := by
  obtain ⟨h1, h2⟩ := Da.write_calm h.calm i (n : Int) s
  have hd := h.sd i
  have hh : (A.dev i).has (n : Int) = true := by simp only [Ab.has, hd.len]; simp; omega
  rw [hd.out, ho, hh] at h1 h2
  exact ⟨by simpa using h2, by simpa using h1⟩
theorem Rel.setd (h : Rel A m r K k0 k1) (i : Bool) {z : Rs} {a : Ab} {k : Nat} (hs : Side z a (m.ks i) K k) : Rel (A.setd i a) m (r.put i z) K (if i then k0 else k) (if i then k else k1) := by
  have hc := Da.calm_setd h.calm i a
  cases i
  · exact ⟨hc, hs, h.y, h.n⟩
  · exact ⟨hc, h.x, hs, h.n⟩
/-- A side's part of a write. -/
def AskRel (n : Int) (s : Sec) (ask : Da → Bool → Bool) : Prop := ∀ A m r K k0 k1, Rel A m r K k0 k1 → ∀ i, (r.sd i).o = false → m.has n = true → ask A i = false → (r.sd i).l[n.toNat]? = some s
theorem Rel.side (h : Rel A m r K k0 k1) (i : Bool) {n : Nat} (hn : n < K) (hs : s.length = 128) (ha : AskRel n s ask) :
    pd A i ask n = !(r.sd i).o ∧ Rel (pA A i ask n s) m (r.put i ((r.sd i).wl n s)) K (if i then k0 else k0 + 1) (if i then k1 + 1 else k1) := by
  have hm : m.has (n : Int) = true := by rw [h.has, h.hasK]; simp; omega
  unfold pd pA
  rw [h.thr i]
  cases ho : (r.sd i).o
  · have ew := Rs.wl_in (n := n) (s := s) ho
    rw [ew]
    simp only [Bool.not_false, Bool.true_and, Bool.false_eq_true, if_false]
    obtain ⟨w1, w2⟩ := h.writes (s := s) i hn ho
    cases hk : ask A i
    · have hX := ha _ _ _ _ _ _ h i ho hm hk
      rw [Int.toNat_natCast] at hX
      refine ⟨by simp, ?_⟩
      simp only [Bool.false_eq_true, if_false]
      rw [set_self hX]
      have e : r.put i (r.sd i) = r := by cases i <;> rfl
      rw [show ({ r.sd i with l := (r.sd i).l } : Rs) = r.sd i from rfl, e]
      cases i
      · exact h.mono (Nat.le_succ _) (Nat.le_refl _)
      · exact h.mono (Nat.le_refl _) (Nat.le_succ _)
    · refine ⟨by simp [w1], ?_⟩
      simp only [if_true]
      rw [w2]
      have := h.setd i ((h.sd i).push ho hn hs)
      cases i <;> exact this
  · have ew := Rs.wl_out (n := n) (s := s) ho
    have e : r.put i (r.sd i) = r := by cases i <;> rfl
    rw [ew, e]
    simp only [Bool.not_true, Bool.false_and, Bool.false_eq_true, if_false, if_true]
    refine ⟨trivial, ?_⟩
    cases i
    · exact h.mono (Nat.le_succ _) (Nat.le_refl _)
    · exact h.mono (Nat.le_refl _) (Nat.le_succ _)
theorem Rel.put (h : Rel A m r K k0 k1) (n : Int) (hs : s.length = 128) (ha : AskRel n s ask) :
    putE m A ask n s = r.writeE n ∧ Rel (putDa m A ask n s) (putm m A ask n s) (r.write n s) K (k0 + 1) (k1 + 1) := by
  unfold putE putDa putm Rm.writeE Rm.write
  rw [h.has]
  cases hb : r.has n
  · simp only [Bool.false_eq_true, if_false, Bool.false_and]
    exact ⟨trivial, h.mono (Nat.le_succ _) (Nat.le_succ _)⟩
  · rw [h.hasK] at hb
    obtain ⟨n, rfl⟩ : ∃ k : Nat, n = k := ⟨n.toNat, by simp at hb; omega⟩
    have hn : n < K := by simp at hb; omega
    obtain ⟨d0, v0⟩ := h.side false hn hs ha
    simp only [Bool.false_eq_true, if_false] at v0
    obtain ⟨d1, v1⟩ := v0.side true hn hs ha
    simp only [if_true] at v1
    have e1 : ((r.put false ((r.sd false).wl n s)).sd true) = r.y := rfl
    rw [e1] at d1 v1
    have eD0 : putD A ask n s false = !r.x.o := d0
    have eD1 : putD A ask n s true = !r.y.o := d1
    rw [eD0, eD1]
    simp only [if_true, Bool.true_and, Int.toNat_natCast]
    have e2 : (Rm.put (r.put false ((r.sd false).wl n s)) true (r.y.wl n s)) = ⟨r.x.wl n s, r.y.wl n s⟩ := rfl
    rw [e2] at v1
    unfold putA
    cases hx : r.x.o <;> cases hy : r.y.o
    all_goals simp only [Bool.not_false, Bool.not_true, Bool.or_true, Bool.true_or, Bool.or_false, Bool.false_or, Bool.and_self, Bool.and_true, Bool.and_false, Bool.true_and, Bool.false_and, if_true, if_false, Bool.false_eq_true, Bool.or_self]
    · refine ⟨trivial, v1.calm, ?_, ?_, v1.n⟩
      · have := v1.x.unmark hn; simp only [Rs.wr, hx]; exact this
      · have := v1.y.unmark hn; simp only [Rs.wr, hy]; exact this
    · refine ⟨trivial, v1.calm, ?_, ?_, v1.n⟩
      · have := v1.x.unmark hn; simp only [Rs.wr, hx]; exact this
      · have := v1.y.mark (c := m.c1) hn; simp only [Rs.wr, hy]; exact this
    · refine ⟨trivial, v1.calm, ?_, ?_, v1.n⟩
      · have := v1.x.mark (c := m.c0) hn; simp only [Rs.wr, hx]; exact this
      · have := v1.y.unmark hn; simp only [Rs.wr, hy]; exact this
    · refine ⟨trivial, ?_⟩
      have e3 : (⟨r.x.wl n s, r.y.wl n s⟩ : Rm) = r := by rw [Rs.wl_out hx, Rs.wl_out hy]
      rw [e3] at v1
      exact v1
theorem Rel.flush1 (h : Rel A m r K k0 k1) (i : Bool) (ho : (r.sd i).o = false) : A.fE i = 0 ∧ Rel (A.flush i) m r K (if i then k0 else 0) (if i then 0 else k1) := by
  obtain ⟨h1, h2⟩ := Da.flush_calm h.calm i
  rw [(h.sd i).out, ho] at h1 h2
  refine ⟨by simpa using h2, ?_⟩
  have hw : A.flush i = A.setd i (A.dev i).flush := by simpa using h1
  rw [hw]
  have := h.setd i ((h.sd i).flush ho)
  have e : r.put i (r.sd i) = r := by cases i <;> rfl
  rw [e] at this
  exact this
theorem Rel.mfl (h : Rel A m r K k0 k1) : (Sl.mfl A).2 = (if r.x.o && r.y.o then 13 else 0) ∧ Rel (Sl.mfl A).1 m r K 0 0 := by
  unfold Sl.mfl fl1
  rw [h.thr false, h.thr true]
  show _ = (if (r.sd false).o && (r.sd true).o then 13 else 0) ∧ _
  cases hx : (r.sd false).o <;> cases hy : (r.sd true).o
  all_goals simp only [Bool.not_false, Bool.not_true, if_true, if_false, Bool.false_eq_true, Bool.and_self, Bool.and_true, Bool.and_false]
  · obtain ⟨e0, v0⟩ := h.flush1 false hx
    obtain ⟨e1, v1⟩ := v0.flush1 true hy
    simp only [Bool.false_eq_true, if_false, if_true] at v1
    rw [e0]
    simp only [if_true]
    rw [e1]
    exact ⟨by simp, v1⟩
  · obtain ⟨e0, v0⟩ := h.flush1 false hx
    simp only [Bool.false_eq_true, if_false] at v0
    rw [e0]
    exact ⟨by simp, v0.calm, v0.x, v0.y.idle hy, v0.n⟩
  · obtain ⟨e1, v1⟩ := h.flush1 true hy
    simp only [if_true] at v1
    rw [e1]
    exact ⟨by simp, v1.calm, v1.x.idle hx, v1.y, v1.n⟩
  · exact ⟨trivial, h.calm, h.x.idle hx, h.y.idle hy, h.n⟩
theorem Rel.okAt (h : Rel A m r K k0 k1) (i : Bool) {n : Nat} (hn : n < K) (ho : (r.sd i).o = false) : Sl.okAt A i (m.ks i) p n = (r.sd i).tells p n := by
  obtain ⟨r0, e0⟩ := h.reads i hn ho
  unfold Sl.okAt Rs.tells Rs.old
  rw [r0, e0, (h.sd i).has]
  simp
theorem Rel.read (h : Rel A m r K k0 k1) (n : Int) : mrE m A p n = r.readE p n ∧ mrS m A p n = r.readS p n := by
  unfold mrE mrS Rm.readE Rm.readS
  rw [h.has]
  cases hb : r.has n
  · simp
  · rw [h.hasK] at hb
    obtain ⟨n, rfl⟩ : ∃ k : Nat, n = k := ⟨n.toNat, by simp at hb; omega⟩
    have hn : n < K := by simp at hb; omega
    rw [h.thr false, h.thr true]
    have a0 := h.okAt (p := p) false hn
    have a1 := h.okAt (p := p) true hn
    have r0 := h.reads false hn
    have r1 := h.reads true hn
    simp only [Int.toNat_natCast, if_true]
    show (if (!r.x.o || !r.y.o) = true then _ else _) = _ ∧ _
    simp only [Rm.sd] at a0 a1 r0 r1 ⊢
    simp only [Mi.ks] at a0 a1
    rcases tf r.x.o with hx | hx <;> rcases tf r.y.o with hy | hy
    · rw [a0 hx, a1 hy, (r0 hx).1, (r1 hy).1]; simp [hx, hy]
    · rw [a0 hx, (r0 hx).1]; simp [hx, hy]
    · rw [a1 hy, (r1 hy).1]; simp [hx, hy]
    · simp [hx, hy]
theorem Rel.copy (h : Rel A m r K k0 k1) (i : Bool) {n : Nat} (hn : n < K) (ho : (r.sd i).o = false) (hs : s.length = 128) :
    A.wE i n = 0 ∧ Rel (A.write i n s) (m.del i n) (r.put i ((r.sd i).copy n s)) K (if i then k0 else k0 + 1) (if i then k1 + 1 else k1) := by
  obtain ⟨w1, w2⟩ := h.writes (s := s) i hn ho
  refine ⟨w1, ?_⟩
  rw [w2]
  have hc := Da.calm_setd h.calm i ((A.dev i).push n s)
  have := ((h.sd i).push ho hn hs).unmark hn
  cases i
  · exact ⟨hc, this, h.y, h.n⟩
  · exact ⟨hc, h.x, this, h.n⟩
theorem Rel.heal (h : Rel A m r K k0 k1) (n : Int) : Sl.healR m A p n = r.healR p n ∧ Rel (healA m A p n) (healM m A p n) (r.heal p n) K (k0 + 1) (k1 + 1) := by
  have hr : Sl.healR m A p n = r.healR p n ∧ Sl.healTo m A p n = r.healTo p n := by
    unfold Sl.healR Sl.healTo Rm.healR Rm.healTo
    rw [h.has]
    cases hb : r.has n
    · simp
    · rw [h.hasK] at hb
      obtain ⟨n, rfl⟩ : ∃ k : Nat, n = k := ⟨n.toNat, by simp at hb; omega⟩
      have hn : n < K := by simp at hb; omega
      rw [h.thr false, h.thr true]
      simp only [Rm.sd, Int.toNat_natCast, if_true]
      rcases tf r.x.o with hx | hx <;> rcases tf r.y.o with hy | hy
      · obtain ⟨r0, _⟩ := h.reads false hn hx
        obtain ⟨r1, _⟩ := h.reads true hn hy
        have g0 : hg0 m A p n = r.x.tells p n := by unfold hg0 Rs.tells Rs.old; rw [r0, h.x.has]; simp [Rm.sd]
        have g1 : hg1 m A p n = r.y.tells p n := by unfold hg1 Rs.tells Rs.old; rw [r1, h.y.has]; simp [Rm.sd]
        rw [g0, g1, r0, r1]
        exact ⟨rfl, rfl⟩
      all_goals simp [hx, hy]
  refine ⟨hr.1, ?_⟩
  unfold healA healM Rm.heal
  rw [hr.2]
  cases ht : r.healTo p n with
  | none => exact h.mono (Nat.le_succ _) (Nat.le_succ _)
  | some i =>
    have hb : r.has n = true ∧ r.x.o = false ∧ r.y.o = false := by
      unfold Rm.healTo at ht
      split at ht
      · rename_i h2; simp at h2; exact h2
      · cases ht
    obtain ⟨hb, hx, hy⟩ := hb
    rw [h.hasK] at hb
    obtain ⟨n, rfl⟩ : ∃ k : Nat, n = k := ⟨n.toNat, by simp at hb; omega⟩
    have hn : n < K := by simp at hb; omega
    have ho : ∀ i, (r.sd i).o = false := fun i => by cases i; exact hx; exact hy
    dsimp only
    rw [(h.reads (!i) hn (ho _)).1, Int.toNat_natCast]
    obtain ⟨w1, w2⟩ := h.copy i hn (ho i) ((h.sd (!i)).atlen hn)
    rw [w1]
    simp only [if_true]
    have e : (if i = true then { m with k1 := kDel m.k1 n } else { m with k0 := kDel m.k0 n }) = m.del i n := by cases i <;> rfl
    rw [e]
    refine w2.mono ?_ ?_ <;> cases i <;> simp
theorem Rel.both (h : Rel A m r K k0 k1) (n : Int) : bothS m A p n = r.both p n := by
  unfold bothS Rm.both
  rw [h.has]
  cases hb : r.has n
  · simp
  · rw [h.hasK] at hb
    obtain ⟨n, rfl⟩ : ∃ k : Nat, n = k := ⟨n.toNat, by simp at hb; omega⟩
    have hn : n < K := by simp at hb; omega
    rw [h.thr false, h.thr true]
    simp only [Rm.sd, Int.toNat_natCast, if_true]
    have r0 := h.reads false hn
    have r1 := h.reads true hn
    simp only [Rm.sd] at r0 r1
    rcases tf r.x.o with hx | hx <;> rcases tf r.y.o with hy | hy
    · rw [(r0 hx).1, (r0 hx).2, (r1 hy).1, (r1 hy).2]; simp [hx, hy]
    · rw [(r0 hx).1, (r0 hx).2]; simp [hx, hy]
    · rw [(r1 hy).1, (r1 hy).2]; simp [hx, hy]
    · simp [hx, hy]
theorem Rm.sd_put (r : Rm) (i : Bool) (z : Rs) : (r.put i z).sd i = z := by cases i <;> rfl
theorem Rm.sd_put2 (r : Rm) (i : Bool) (z : Rs) : (r.put i z).sd (!i) = r.sd (!i) := by cases i <;> rfl
theorem Rel.sy1 (h : Rel A m r K k0 k1) (i : Bool) {n : Nat} (hn : n < K) (ho : ∀ i, (r.sd i).o = false) :
    Rel (Sl.sy1 p i (A, m) n).1 (Sl.sy1 p i (A, m) n).2 (Rm.sy1 p i r n) K (k0 + 1) (k1 + 1) ∧ ∀ j, ((Rm.sy1 p i r n).sd j).o = false := by
  have e : syOk m A p i n = ((r.sd i).old n && (r.sd (!i)).tells p n) := by
    unfold syOk Rs.tells Rs.old
    obtain ⟨r0, e0⟩ := h.reads (!i) hn (ho _)
    rw [r0, e0, (h.sd i).has, (h.sd (!i)).has]
    simp [Bool.and_assoc]
  unfold Sl.sy1 Rm.sy1
  simp only
  rw [e]
  split
  · obtain ⟨w1, w2⟩ := h.copy i hn (ho i) ((h.sd (!i)).atlen hn)
    rw [(h.reads (!i) hn (ho _)).1, w1]
    simp only [if_true]
    refine ⟨w2.mono (by cases i <;> simp) (by cases i <;> simp), fun j => ?_⟩
    by_cases hj : j = i
    · subst hj; rw [Rm.sd_put]; exact ho j
    · obtain rfl : j = !i := by cases i <;> cases j <;> simp_all
      rw [Rm.sd_put2]; exact ho _
  · exact ⟨h.mono (Nat.le_succ _) (Nat.le_succ _), ho⟩
theorem Rel.syN (h : Rel A m r K k0 k1) (i : Bool) (ho : ∀ i, (r.sd i).o = false) : ∀ k, k ≤ K →
    Rel (Sl.syN p i (A, m) k).1 (Sl.syN p i (A, m) k).2 (Rm.syN p i r k) K (k0 + k) (k1 + k) ∧ ∀ j, ((Rm.syN p i r k).sd j).o = false
  | 0, _ => ⟨h, ho⟩
  | k + 1, hk => by
    obtain ⟨v, ho2⟩ := Rel.syN h i ho k (by omega)
    exact v.sy1 i (by omega) ho2
theorem Rel.sync (h : Rel A m r K k0 k1) : Sl.syncE m A p = r.syncE p ∧ Rel (syncA m A p) (syncM m A p) (r.sync p) K k0 k1 := by
  unfold Sl.syncE syncA syncM Rm.syncE Rm.sync
  rw [h.thr false, h.thr true]
  simp only [Rm.sd]
  rcases tf r.x.o with hx | hx <;> rcases tf r.y.o with hy | hy
  all_goals simp only [hx, hy, Bool.not_false, Bool.not_true, Bool.and_self, Bool.and_true, Bool.and_false, if_true, if_false, Bool.false_eq_true]
  · have ho : ∀ i, (r.sd i).o = false := fun i => by cases i; exact hx; exact hy
    obtain ⟨v, ho2⟩ := h.syN (p := p) false ho K (Nat.le_refl _)
    obtain ⟨v2, ho3⟩ := v.syN (p := p) true ho2 K (Nat.le_refl _)
    have e : syncQ m A p = ((Sl.syN p true ((Sl.syN p false (A, m) K).1, (Sl.syN p false (A, m) K).2) K)) := by unfold syncQ; rw [h.n]
    have e2 : r.syncQ p = Rm.syN p true (Rm.syN p false r K) K := by unfold Rm.syncQ; rw [h.x.rlen]
    rw [← e, ← e2] at v2
    refine ⟨?_, (v2.mfl.2).mono (Nat.zero_le _) (Nat.zero_le _)⟩
    rw [v2.x.cnt, v2.y.cnt]
  all_goals exact ⟨trivial, h⟩
theorem Rel.outs (h : Rel A m r K 0 0) (i on : Bool) : Rel (A.setd i ((A.dev i).outs on)) m (r.outs i on) K 0 0 := by
  have hs : Side (r.sd i) (A.dev i) (m.ks i) K 0 := by have := h.sd i; cases i <;> exact this
  have := h.setd i hs.outs (a := (A.dev i).outs on)
  cases i <;> exact this
theorem Rel.rot (h : Rel A m r K 0 0) (i : Bool) (n : Int) {j : Nat} {c : UInt8} (hj : j < 128) : (A.dev i).rotE n j = r.has n ∧ Rel (A.setd i ((A.dev i).rots n j c)) m (r.rot i n j c) K 0 0 := by
  have hs : Side (r.sd i) (A.dev i) (m.ks i) K 0 := by have := h.sd i; cases i <;> exact this
  have e : (A.dev i).rotE n j = r.has n := by
    unfold Ab.rotE Ab.has
    rw [hs.len, h.hasK]
    have : (decide ((0 : Int) ≤ j) && decide ((j : Int) < 128)) = true := by simp; omega
    rw [this, Bool.and_true]
  refine ⟨e, ?_⟩
  unfold Ab.rots Rm.rot
  rw [e]
  cases hb : r.has n
  · simp only [Bool.false_eq_true, if_false]
    rw [Da.setd_self]; exact h
  · rw [h.hasK] at hb
    obtain ⟨n, rfl⟩ : ∃ k : Nat, n = k := ⟨n.toNat, by simp at hb; omega⟩
    have hn : n < K := by simp at hb; omega
    simp only [if_true, Int.toNat_natCast]
    have := h.setd i (hs.rot hn (j := j) (c := c))
    cases i <;> exact this
end
end Go.Sl

/- A mirror and the document's mirror: what is kept (own work). -/
set_option linter.unusedVariables false
set_option linter.unusedSimpArgs false
namespace Go.Sl
structure Mq (t : DT) (gv : Value) (D : Duo) (A : Da) (m : Mi) (r : Rm) (K k0 k1 mb bx bys bp : Nat) : Prop where
  two : Two t D A bx bys bp
  rel : Rel A m r K k0 k1
  mb : m.b = mb
  bx : m.bx = bx
  bys : m.bys = bys
  gv : m.gv = gv
def MSame (m m' : Mi) : Prop := m'.b = m.b ∧ m'.bx = m.bx ∧ m'.bys = m.bys ∧ m'.gv = m.gv
theorem putm_same (m : Mi) (A : Da) (ask : Da → Bool → Bool) (n : Int) (s : Sec) : MSame m (putm m A ask n s) := by
  unfold putm MSame
  split
  · exact ⟨rfl, rfl, rfl, rfl⟩
  · exact ⟨rfl, rfl, rfl, rfl⟩
section
variable {t : DT} {gv : Value} {D D' : Duo} {A A' : Da} {m m' : Mi} {r r' : Rm} {K k0 k1 j0 j1 mb bx bys bp : Nat} {p : Int → Sec → Bool}
theorem Mq.with (h : Mq t gv D A m r K k0 k1 mb bx bys bp) (hT : Two t D' A' m.bx m.bys bp) (v : Rel A' m' r' K j0 j1) (e : MSame m m') : Mq t gv D' A' m' r' K j0 j1 mb bx bys bp :=
  ⟨by rw [h.bx, h.bys] at hT; exact hT, v, e.1.trans h.mb, e.2.1.trans h.bx, e.2.2.1.trans h.bys, e.2.2.2.trans h.gv⟩
theorem Mq.many {c : Nat} (h : Mq t gv D A m r K k0 k1 mb bx bys bp) (h0 : k0 ≤ c) (h1 : k1 ≤ c) (i : Bool) : (A.dev i).Q.length ≤ c := by
  cases i
  · exact Nat.le_trans (h.rel.sd false).many h0
  · exact Nat.le_trans (h.rel.sd true).many h1
theorem Mq.mono (h : Mq t gv D A m r K k0 k1 mb bx bys bp) (h0 : k0 ≤ j0) (h1 : k1 ≤ j1) : Mq t gv D A m r K j0 j1 mb bx bys bp := ⟨h.two, h.rel.mono h0 h1, h.mb, h.bx, h.bys, h.gv⟩
end
theorem stN_ok (K : Nat) : kOk (stN K) := by
  unfold kOk stN
  rw [List.map_map]
  unfold List.Nodup
  rw [List.pairwise_map]
  exact List.Pairwise.imp (fun h => by simp; omega) (List.pairwise_lt_range (n := K))
theorem Side.new {K : Nat} (hK : K ≤ 4096) (o : Bool) : Side ⟨List.replicate K (secOf 0), o, List.replicate K o⟩ ((Ab.new K).outs o) (stale0 (!o) K) K 0 := by
  have w := RdW.new hK
  have e : (Ab.new K).outs o = { Ab.new K with out := o } := by cases o <;> rfl
  rw [e]
  refine ⟨w.ok, w.len, rfl, rfl, Nat.le_refl _, fun _ => rfl, by simp, by simp, fun s hs => by rw [List.eq_of_mem_replicate hs]; exact secOf_len _, w.read, ?_, fun n => ?_, ?_⟩
  · unfold stale0; split
    · exact List.nodup_nil
    · exact stN_ok K
  · cases o
    · simp only [Bool.not_false, stale0, if_true]
      rw [show kHas [] n = false from rfl, List.getD_eq_getElem?_getD, List.getElem?_replicate]
      split <;> simp
    · simp only [Bool.not_true, stale0, Bool.false_eq_true, if_false]
      rw [stN_has, List.getD_eq_getElem?_getD, List.getElem?_replicate]
      by_cases h0 : 0 ≤ n
      · by_cases h1 : n < K
        · rw [if_pos (by omega)]; simp [h0, h1]
        · rw [if_neg (by omega)]; simp [h1]
      · simp [h0]
  · cases o
    · simp [stale0, Rs.cnt, List.countP_replicate]
    · simp [stale0, Rs.cnt, stN, List.countP_replicate]
theorem Rel.new {A : Da} {K : Nat} {a b : Bool} (hK : K ≤ 4096) (hc : A.calm) (hx : A.a = (Ab.new K).outs a) (hy : A.b = (Ab.new K).outs b) (bx bys : Nat) (gv : Value) (mb r0 r1 : Nat) : Rel A (mnew A bx bys gv mb r0 r1) (Rm.new K a b) K 0 0 := by
  have la : A.a.S.length = K := by rw [hx]; cases a <;> simp [Ab.outs, Ab.new]
  have lb : A.b.S.length = K := by rw [hy]; cases b <;> simp [Ab.outs, Ab.new]
  have oa : A.a.out = a := by rw [hx]; cases a <;> rfl
  have ob : A.b.out = b := by rw [hy]; cases b <;> rfl
  have ta : Sl.thr A false = !a := by unfold Sl.thr Ab.down; rw [(Da.calm_pow hc false).1, show A.dev false = A.a from rfl, oa]; simp
  have tb : Sl.thr A true = !b := by unfold Sl.thr Ab.down; rw [(Da.calm_pow hc true).1, show A.dev true = A.b from rfl, ob]; simp
  have hm : min A.a.S.length A.b.S.length = K := by omega
  refine ⟨hc, ?_, ?_, hm⟩
  · show Side _ A.a (stale0 (Sl.thr A false) (min A.a.S.length A.b.S.length)) K 0
    rw [hm, ta, hx]; exact Side.new hK a
  · show Side _ A.b (stale0 (Sl.thr A true) (min A.a.S.length A.b.S.length)) K 0
    rw [hm, tb, hy]; exact Side.new hK b
theorem Rm.readS_len {A : Da} {m : Mi} {r : Rm} {K k0 k1 : Nat} {p : Int → Sec → Bool} (h : Rel A m r K k0 k1) (n : Int) : (r.readS p n).length = 128 := by
  unfold Rm.readS
  split
  · rename_i hb
    rw [h.hasK] at hb
    have hn : n.toNat < K := by simp at hb; omega
    split
    · exact h.x.atlen hn
    · split
      · exact h.y.atlen hn
      · exact secOf_len _
  · exact secOf_len _
/-! ### One device is enough -/
structure One (r : Rm) (want : List Sec) (p : Int → Sec → Bool) (K : Nat) : Prop where
  out : r.x.o = false
  new : ∀ n, r.x.old n = false
  len : r.x.l.length = K
  wlen : want.length = K
  ok : ∀ n : Nat, n < K → p n (want.getD n []) = true → r.x.at n = want.getD n []
section
variable {r : Rm} {want : List Sec} {p : Int → Sec → Bool} {K : Nat} {s : Sec}
theorem One.put {i : Bool} {z : Rs} (h : One r want p K) : One (r.put true z) want p K := ⟨h.out, h.new, h.len, h.wlen, h.ok⟩
theorem One.write (h : One r want p K) {n : Nat} (hn : n < K) : One (r.write n s) (want.set n s) p K ∧ r.writeE n = 0 := by
  have hb : r.has n = true := by unfold Rm.has; rw [h.len]; simp; omega
  have e : r.write n s = ⟨r.x.wr n s, r.y.wr n s⟩ := by unfold Rm.write; rw [hb, h.out]; simp
  refine ⟨?_, by unfold Rm.writeE; rw [hb, h.out]; simp⟩
  rw [e]
  have ew : r.x.wr n s = { r.x with l := r.x.l.set n s, s := r.x.s.set n false } := by unfold Rs.wr; rw [Rs.wl_in h.out, h.out]; simp only [h.out]
  rw [ew]
  refine ⟨h.out, fun j => ?_, by simpa using h.len, by simpa using h.wlen, fun j hj hp => ?_⟩
  · have := h.new j
    unfold Rs.old at this ⊢
    simp only
    rw [List.getD_eq_getElem?_getD] at this ⊢
    rw [List.getElem?_set]
    split
    · split <;> rfl
    · exact this
  · simp only [Rs.at]
    rw [List.getD_eq_getElem?_getD, List.getD_eq_getElem?_getD, List.getElem?_set, List.getElem?_set, h.len, h.wlen]
    by_cases ej : n = j
    · subst ej; simp [hn]
    · have := h.ok j hj (by rw [List.getD_eq_getElem?_getD, List.getElem?_set_ne ej, ← List.getD_eq_getElem?_getD] at hp; exact hp)
      simp only [ej, if_false]
      simpa [Rs.at, List.getD_eq_getElem?_getD] using this
theorem One.syN_x (h : One r want p K) : ∀ k, Rm.syN p false r k = r
  | 0 => rfl
  | k + 1 => by
    show Rm.sy1 p false (Rm.syN p false r k) k = r
    rw [One.syN_x h k]
    unfold Rm.sy1
    rw [show (r.sd false).old k = false from h.new k]
    rfl
theorem Rm.syN_y (r : Rm) (p : Int → Sec → Bool) : ∀ k, ∃ z, Rm.syN p true r k = r.put true z
  | 0 => ⟨r.y, rfl⟩
  | k + 1 => by
    obtain ⟨z, e⟩ := Rm.syN_y r p k
    show ∃ z, Rm.sy1 p true (Rm.syN p true r k) k = _
    rw [e]
    unfold Rm.sy1
    split
    · exact ⟨_, rfl⟩
    · exact ⟨z, rfl⟩
theorem One.sync (h : One r want p K) : One (r.sync p) want p K := by
  unfold Rm.sync
  split
  · unfold Rm.syncQ
    rw [h.syN_x]
    obtain ⟨z, e⟩ := Rm.syN_y r p r.x.l.length
    rw [e]
    exact h.put (i := true)
  · exact h
theorem One.heal (h : One r want p K) (n : Int) : One (r.heal p n) want p K := by
  unfold Rm.heal
  cases ht : r.healTo p n with
  | none => exact h
  | some i =>
    cases i
    · have hb : r.has n = true ∧ r.x.tells p n.toNat = false := by
        unfold Rm.healTo at ht
        split at ht
        · rename_i h2
          split at ht
          · split at ht <;> cases ht
          · rename_i h3; simp at h2; exact ⟨h2.1, by simpa using h3⟩
        · cases ht
      obtain ⟨hb, hx⟩ := hb
      unfold Rm.has at hb
      rw [h.len] at hb
      obtain ⟨n, rfl⟩ : ∃ k : Nat, n = k := ⟨n.toNat, by simp at hb; omega⟩
      have hn : n < K := by simp at hb; omega
      simp only [Int.toNat_natCast] at hx ⊢
      have hp : p n (r.x.at n) = false := by unfold Rs.tells at hx; rw [h.new n] at hx; simpa using hx
      refine ⟨h.out, fun j => ?_, by simpa [Rm.put, Rs.copy, Rm.sd] using h.len, h.wlen, fun j hj hq => ?_⟩
      · have := h.new j
        unfold Rs.old at this ⊢
        simp only [Rm.put, Rs.copy, Rm.sd]
        rw [List.getD_eq_getElem?_getD] at this ⊢
        rw [List.getElem?_set]
        split
        · split <;> rfl
        · exact this
      · have hj2 := h.ok j hj hq
        by_cases ej : n = j
        · subst ej
          rw [hj2, hq] at hp; cases hp
        · simp only [Rm.put, Rs.copy, Rm.sd, Rs.at] at hj2 ⊢
          rw [List.getD_eq_getElem?_getD, List.getElem?_set_ne ej, ← List.getD_eq_getElem?_getD]; exact hj2
    · exact h.put (i := true)
theorem One.outs (h : One r want p K) (on : Bool) : One (r.outs true on) want p K := h.put (i := true)
theorem One.rot (h : One r want p K) (n : Int) (j : Nat) (c : UInt8) : One (r.rot true n j c) want p K := by
  unfold Rm.rot
  split
  · exact h.put (i := true)
  · exact h
/-- What the law asks at the end. -/
theorem One.tells (h : One r want p K) {n : Nat} (hn : n < K) : (p n (want.getD n []) = true → r.readE p n = 0 ∧ r.readS p n = want.getD n []) ∧ (p n (want.getD n []) = false → r.readE p n = 0 → r.readS p n ≠ want.getD n []) := by
  have hb : r.has n = true := by unfold Rm.has; rw [h.len]; simp; omega
  have hx : r.x.tells p n = p n (r.x.at n) := by unfold Rs.tells; rw [h.new]; simp
  unfold Rm.readE Rm.readS
  rw [hb, h.out]
  simp only [if_true, Int.toNat_natCast, Bool.false_and, Bool.false_eq_true, if_false, Bool.not_false, Bool.true_and]
  rw [hx]
  refine ⟨fun hp => ?_, fun hp he hs => ?_⟩
  · rw [h.ok n hn hp, hp]
    simp
  · split at he
    · rename_i h1
      rw [if_pos h1] at hs
      rw [hs, hp] at h1; cases h1
    · rename_i h1
      split at he
      · rename_i h2
        rw [if_neg h1, if_pos h2] at hs
        simp only [Bool.and_eq_true, Rs.tells] at h2
        rw [hs, hp] at h2; simp at h2
      · cases he
end
end Go.Sl

/- The acts of the mirror's laws (own work). -/
set_option linter.unusedVariables false
set_option linter.unusedSimpArgs false
namespace Go.Sl
structure ActM where
  kind : Int
  n : Int
  x : UInt8
  y : UInt8
  on : Bool
abbrev acells (a : ActM) : List Value := [.int .i64 a.kind, .int .i64 a.n, .int .u8 (a.x.toNat : Int), .int .u8 (a.y.toNat : Int), .bool a.on]
def acts (l : List ActM) : List Value := (l.map acells).flatten
/-- What is kept through MirrorOne. -/
structure OneS (r : Rm) (want : List Sec) (p : Int → Sec → Bool) (K : Nat) : Prop where
  one : One r want p K
  wok : ∀ s ∈ want, s.length = 128
theorem want_get {want : List Sec} {K n : Nat} (h : want.length = K) (hn : n < K) : want[n]? = some (want.getD n []) := by
  rw [List.getD_eq_getElem?_getD, List.getElem?_eq_getElem (by omega)]; rfl
theorem want_len {want : List Sec} {K n : Nat} (h : want.length = K) (hn : n < K) (ok : ∀ s ∈ want, s.length = 128) : (want.getD n []).length = 128 := ok _ (List.mem_of_getElem? (want_get h hn))
end Go.Sl

/- Facts of the translation's types, for the kernel (own work, by a program of this repo). -/
namespace Go.Proofs.Ytjjiclgbdenkkaa
open Go.Sl
theorem ag_47 : isAggT Try.prog 47 = some true := by kernel_rfl
theorem sz_47 : szT Try.prog 47 = some 512 := by kernel_rfl
theorem zl_47 : zeroL Try.prog 47 = some ((List.replicate 4 ((List.replicate 128 (.int .u8 0)))).flatten) := by kernel_rfl
end Go.Proofs.Ytjjiclgbdenkkaa

/- Sealed sectors of one byte's copies, some of them spoilt (own work). -/
set_option linter.unusedVariables false
set_option linter.unusedSimpArgs false
namespace Go.Sl
def b8 (n : Int) : UInt8 := UInt8.ofNat (n % 256).toNat
def sealL (n : Int) (x : UInt8) : Sec := b8 n :: List.replicate 127 x
theorem sealL_len (n : Int) (x : UInt8) : (sealL n x).length = 128 := by simp [sealL]
def healP (n : Int) (s : Sec) : Bool := (decide (s = sealL n (s.getD 1 0)) && decide (s.getD 1 0 = s.getD 2 0)) && decide (s.getD 2 0 = s.getD 3 0)
theorem seal_at (n : Int) (x : UInt8) {j : Nat} (h0 : 0 < j) (h : j < 128) : (sealL n x)[j]? = some x := by
  obtain ⟨j, rfl⟩ : ∃ k, j = k + 1 := ⟨j - 1, by omega⟩
  rw [sealL, List.getElem?_cons_succ, List.getElem?_replicate, if_pos (by omega)]
theorem seal_getD (n : Int) (x : UInt8) {j : Nat} (h0 : 0 < j) (h : j < 128) : (sealL n x).getD j 0 = x := by
  rw [List.getD, seal_at n x h0 h]; rfl
theorem healP_seal (n : Int) (x : UInt8) : healP n (sealL n x) = true := by
  unfold healP
  rw [seal_getD n x (by decide) (by decide), seal_getD n x (by decide) (by decide), seal_getD n x (by decide) (by decide)]
  simp
theorem xor_self_zero {a c : UInt8} (h : a ^^^ c = a) : c = 0 := by
  have h2 := congrArg (a ^^^ ·) h
  simpa [← UInt8.xor_assoc] using h2
theorem healP_rot {n : Int} {x c : UInt8} {j : Nat} (hj : j < 128) (hc : c ≠ 0) : healP n (rotB (sealL n x) j c) = false := by
  have key : ¬ (rotB (sealL n x) j c = sealL n ((rotB (sealL n x) j c).getD 1 0)) := fun h => by
    have hl := sealL_len n x
    have self : (rotB (sealL n x) j c)[j]? = some ((sealL n x).getD j 0 ^^^ c) := by unfold rotB; rw [List.getElem?_set_self (by omega)]
    have other : ∀ i, i ≠ j → (rotB (sealL n x) j c)[i]? = (sealL n x)[i]? := fun i hi => by unfold rotB; rw [List.getElem?_set_ne (by omega)]
    rcases Nat.eq_zero_or_pos j with rfl | hp
    · have h0 := congrArg (fun l => l[0]?) h
      rw [self] at h0
      have : (sealL n x).getD 0 0 = b8 n := rfl
      rw [this] at h0
      have h1 : (sealL n ((rotB (sealL n x) 0 c).getD 1 0))[0]? = some (b8 n) := rfl
      rw [h1] at h0
      exact hc (xor_self_zero (Option.some.inj h0))
    · rw [seal_getD n x hp hj] at self
      by_cases h1 : j = 1
      · subst h1
        have g1 : (rotB (sealL n x) 1 c).getD 1 0 = x ^^^ c := by rw [List.getD, self]; rfl
        have h2 := congrArg (fun l => l[2]?) h
        rw [other 2 (by decide), seal_at n x (by decide) (by decide), g1, seal_at n _ (by decide) (by decide)] at h2
        exact hc (xor_self_zero (Option.some.inj h2).symm)
      · have g1 : (rotB (sealL n x) j c).getD 1 0 = x := by rw [List.getD, other 1 (by omega), seal_at n x (by decide) (by decide)]; rfl
        have h2 := congrArg (fun l => l[j]?) h
        rw [self, g1, seal_at n x hp hj] at h2
        exact hc (xor_self_zero (Option.some.inj h2))
  unfold healP
  rw [decide_eq_false key]
  rfl
/-! ### What was written -/
def wS (dd : List UInt8) (k : Nat) : List Sec := (List.range dd.length).map fun (i : Nat) => if i < k then sealL (i : Int) (dd.getD i 0) else secOf 0
theorem wS_len (dd : List UInt8) (k : Nat) : (wS dd k).length = dd.length := by simp [wS]
theorem wS_ok (dd : List UInt8) (k : Nat) : ∀ s ∈ wS dd k, s.length = 128 := fun s hs => by
  obtain ⟨i, _, rfl⟩ := List.mem_map.1 hs
  split
  · exact sealL_len _ _
  · exact secOf_len _
def allS (dd : List UInt8) : List Sec := wS dd dd.length
theorem allS_at {dd : List UInt8} {i : Nat} (h : i < dd.length) : (allS dd)[i]? = some (sealL (i : Int) (dd.getD i 0)) := by
  simp [allS, wS, h]
/-- The places that are spoilt, told by a map. -/
def nHas (ks : List (Int × Nat)) (k : Nat) : Nat := ((List.range k).filter fun (i : Nat) => kHas ks (i : Int)).length
structure Rotten (dd : List UInt8) (c : UInt8) (ks : List (Int × Nat)) (R : List Sec) : Prop where
  len : R.length = dd.length
  ok : ∀ s ∈ R, s.length = 128
  same : ∀ i, i < dd.length → kHas ks (i : Int) = false → R[i]? = some (sealL (i : Int) (dd.getD i 0))
  rot : ∀ i, i < dd.length → kHas ks (i : Int) = true → c ≠ 0 ∧ ∃ j, j < 128 ∧ R[i]? = some (rotB (sealL (i : Int) (dd.getD i 0)) j c)
  cnt : nHas ks dd.length = ks.length
theorem nHas_nil (k : Nat) : nHas [] k = 0 := by
  unfold nHas
  rw [List.length_eq_zero_iff, List.filter_eq_nil_iff]
  intro i _
  simp [kHas]
theorem Rotten.nil (dd : List UInt8) (c : UInt8) : Rotten dd c [] (allS dd) :=
  ⟨wS_len _ _, wS_ok _ _, fun i hi _ => allS_at hi, fun i _ h => by simp [kHas] at h, nHas_nil _⟩
theorem kHas_app {ks : List (Int × Nat)} {c n i : Nat} : kHas (ks ++ [((n : Int), c)]) (i : Int) = (kHas ks (i : Int) || decide (i = n)) := by
  unfold kHas
  rw [List.any_append]
  congr 1
  have := kHas_one (t := n) (c := c) (j := i)
  unfold kHas at this
  exact this
theorem nHas_app {ks : List (Int × Nat)} {c n : Nat} (h : kHas ks (n : Int) = false) : ∀ k, nHas (ks ++ [((n : Int), c)]) k = nHas ks k + (if n < k then 1 else 0)
  | 0 => rfl
  | k + 1 => by
    have ih := nHas_app (c := c) h k
    unfold nHas at ih ⊢
    rw [List.range_succ, List.filter_append, List.filter_append, List.length_append, List.length_append, ih]
    by_cases hk : k = n
    · subst hk
      simp [kHas_app, h]
    · by_cases hb : kHas ks (k : Int) = true
      · have : (n < k + 1) ↔ n < k := by omega
        simp [kHas_app, hb, hk, this]; omega
      · have : (n < k + 1) ↔ n < k := by omega
        simp [kHas_app, hb, hk, this]
theorem kPut_new {ks : List (Int × Nat)} {c n : Nat} (h : kHas ks (n : Int) = false) : kPut ks c (n : Int) = ks ++ [((n : Int), c)] := by unfold kPut; rw [h]; rfl
theorem Rotten.put {dd : List UInt8} {c : UInt8} {ks : List (Int × Nat)} {R : List Sec} {n j ck : Nat} (h : Rotten dd c ks R) (hn : n < dd.length) (hk : kHas ks (n : Int) = false) (hj : j < 128) (hc : c ≠ 0) :
    Rotten dd c (kPut ks ck (n : Int)) (R.set n (rotB (sealL (n : Int) (dd.getD n 0)) j c)) := by
  rw [kPut_new hk]
  have hl := h.len
  refine ⟨by simp [hl], set_ok2 h.ok (rotB_len.trans (sealL_len _ _)), fun i hi hf => ?_, fun i hi hf => ?_, ?_⟩
  · rw [kHas_app] at hf
    have h1 : kHas ks (i : Int) = false := by cases hq : kHas ks (i : Int) <;> simp_all
    have h2 : i ≠ n := fun e => by subst e; simp at hf
    rw [List.getElem?_set_ne (by omega)]
    exact h.same i hi h1
  · by_cases e : i = n
    · subst e
      exact ⟨hc, j, hj, by rw [List.getElem?_set_self (by omega)]⟩
    · rw [kHas_app] at hf
      have h1 : kHas ks (i : Int) = true := by simpa [e] using hf
      rw [List.getElem?_set_ne (by omega)]
      exact h.rot i hi h1
  · rw [nHas_app hk, h.cnt, if_pos hn]; simp
section
variable {dd : List UInt8} {c : UInt8} {ks : List (Int × Nat)} {R : List Sec}
theorem Rotten.gt (h : Rotten dd c ks R) {i : Nat} (hi : i < dd.length) : ∃ r, Sl.gt R i = r ∧ healP (i : Int) r = !kHas ks (i : Int) ∧ (kHas ks (i : Int) = false → r = sealL (i : Int) (dd.getD i 0)) := by
  cases hk : kHas ks (i : Int)
  · have := gt_is (h.same i hi hk)
    exact ⟨_, this, healP_seal _ _, fun _ => rfl⟩
  · obtain ⟨hc, j, hj, e⟩ := h.rot i hi hk
    exact ⟨_, gt_is e, healP_rot hj hc, fun h => by cases h⟩
theorem nHas_succ (ks : List (Int × Nat)) (k : Nat) : nHas ks (k + 1) = nHas ks k + (if kHas ks (k : Int) then 1 else 0) := by
  unfold nHas
  rw [List.range_succ, List.filter_append, List.length_append]
  cases hq : kHas ks (k : Int) <;> simp [hq]
theorem Rotten.rK (h : Rotten dd c ks R) (f : Bool) : ∀ k : Nat, k ≤ dd.length → Sl.rK healP (if f then R else allS dd) (if f then allS dd else R) k = ((k : Int) - (nHas ks k : Int), (nHas ks k : Int), 0)
  | 0, _ => rfl
  | k + 1, hk => by
    have ih := h.rK f k (by omega)
    obtain ⟨r, e, hp, hs⟩ := h.gt (show k < dd.length by omega)
    have e2 := gt_is (allS_at (dd := dd) (show k < dd.length by omega))
    have hC1 : hC healP k (Sl.gt (if f then R else allS dd) k) (Sl.gt (if f then allS dd else R) k) = (if kHas ks (k : Int) then 1 else 0) := by
      have hw := healP_seal (k : Int) (dd.getD k 0)
      cases hq : kHas ks (k : Int)
      · have hr := hs hq
        rw [hr] at e
        cases f
        · simp only [Bool.false_eq_true, if_false]; rw [e, e2]; unfold hC; rw [hw]; simp
        · simp only [if_true]; rw [e, e2]; unfold hC; rw [hw]; simp
      · rw [hq] at hp
        cases f
        · simp only [Bool.false_eq_true, if_false]; rw [e, e2]; unfold hC; rw [hw, hp]; simp
        · simp only [if_true]; rw [e, e2]; unfold hC; rw [hw, hp]; simp
    show Sl.cnt _ _ = _
    rw [ih, hC1, nHas_succ]
    cases kHas ks (k : Int)
    · simp [Sl.cnt]; omega
    · simp [Sl.cnt]; omega
theorem Rotten.end (h : Rotten dd c ks R) (f : Bool) {i : Nat} (hi : i < dd.length) : (if f then XK healP R (allS dd) dd.length dd.length else YK healP (allS dd) R dd.length dd.length)[i]? = some (sealL (i : Int) (dd.getD i 0)) := by
  obtain ⟨r, e, hp, hs⟩ := h.gt hi
  have e2 := gt_is (allS_at (dd := dd) hi)
  have hw := healP_seal (i : Int) (dd.getD i 0)
  cases f
  · simp only [Bool.false_eq_true, if_false]
    rw [YK_get hi, if_pos hi, e, e2, hY, hw]; rfl
  · simp only [if_true]
    rw [XK_get hi, if_pos hi, e, e2, hX, hp, hw]
    cases hq : kHas ks (i : Int)
    · simp [hs hq]
    · simp
theorem Rotten.all (h : Rotten dd c ks R) (f : Bool) : Sl.rK healP (if f then R else allS dd) (if f then allS dd else R) dd.length = ((dd.length : Int) - (ks.length : Int), (ks.length : Int), 0) := by
  rw [h.rK f dd.length (Nat.le_refl _), h.cnt]
end
def fillS (x : UInt8) (i : Nat) : Sec := List.replicate i x ++ List.replicate (128 - i) 0
end Go.Sl
namespace Go.Sl
theorem byte_at {l : List Value} {off i : Nat} {u : List UInt8} (hv : (l.drop off).take u.length = bs u) (hi : i < u.length) : l[off + i * 1]? = some (Value.int .u8 ((u.getD i 0).toNat : Int)) := by
  have h1 : ((l.drop off).take u.length)[i]? = (bs u)[i]? := by rw [hv]
  rw [List.getElem?_take_of_lt hi, List.getElem?_drop, bs_getD hi] at h1
  rw [Nat.mul_one]; exact h1
end Go.Sl
namespace Go.Sl
end Go.Sl

/- walks (own work; the walks' lines by a program of this repo). -/
set_option linter.unusedVariables false
set_option linter.unusedSimpArgs false
set_option maxRecDepth 20000
namespace Go.Proofs.Ytjjiclgbdenkkaa
open Go.Sl
attribute [local irreducible] BodyQ WpC WpL WpS WpH OpW FnS



set_option maxHeartbeats 4000000 in

theorem mflush_s {w0 : World} {H : Hp} {pa : Option Addr} {ca : Nat} {ll : List UInt8} (hA : Holds w0 H pa (bs ll)) (a b c : Nat) (ha : a < 256) (hb : b < 256) (hc : c < 256) : FnS Try.prog w0 4 #[.slice pa ll.length ca, .int .u8 (a : Int), .int .u8 (c : Int), .int .u8 (b : Int)] H (fun e H' => e = .returned (.bool true)) := by
  refine FnS_intro (n := 133) (rs := [.tmp 8]) (vs := [.slice pa ll.length ca, .int .u8 (a : Int), .int .u8 (c : Int), .int .u8 (b : Int)]) Try.func4 rfl Try.ntmps4 rfl rfl ?_
  refine C_seq ?_
  refine C_region ?_
  refine L_y rfl (y_assign rfl) rfl ?_
  refine L_nil ?_
  refine C_seq ?_
  refine C_seq ?_
  refine C_region ?_
  refine L_op rfl (op_call rfl rfl (fun a w => Try.call15 a w) rfl ?_)
  refine awake09_s.mono ?_
  rintro _ _ ⟨rfl, e⟩
  obtain rfl := e.symm
  clear e
  refine ⟨_, rfl, ?_⟩
  refine L_y rfl (y_not rfl) rfl ?_
  refine L_nil ?_
  refine C_cond_f rfl ?_
  refine C_skip ?_
  refine C_seq ?_
  refine C_seq ?_
  refine C_region ?_
  refine L_y rfl (y_move rfl) rfl ?_
  refine L_y rfl (y_lenS rfl rfl Try.underlying22) rfl ?_
  refine L_y rfl (y_gtr rfl rfl) rfl ?_
  refine L_nil ?_
  refine C_cond rfl (fun hc1 => ?_) (fun hc1 => ?_)
  · replace hc1 := of_decide_eq_true hc1
    refine C_seq ?_
    refine C_region ?_
    refine L_y rfl (y_assign rfl) rfl ?_
    refine L_nil ?_
    refine C_ret ?_
    refine B_ret (rv_tmp rfl rv_nil) (HSub.refl _) ?_
    first | rfl | exact ret_bool (by simp)
  · replace hc1 := of_decide_eq_false hc1
    refine C_skip ?_
    refine C_seq ?_
    refine C_region ?_
    refine L_op rfl (op_call rfl rfl (fun a w => Try.call26 a w) rfl ?_)
    refine newpower_l.mono ?_
    rintro _ _ ⟨p1, hpk1, hdv1, hP1, rfl, rfl⟩
    refine ⟨_, rfl, ?_⟩
    refine L_y rfl (y_assign rfl) rfl ?_
    refine L_nil ?_
    refine C_seq ?_
    refine C_region ?_
    refine L_y rfl (y_move rfl) rfl ?_
    refine L_op rfl (op_call rfl rfl (fun a w => Try.call16 a w) rfl ?_)
    refine ((new_l (H := (H)) (rfl : p1.b = _) hpk1 hdv1 4).sub (hsub_pick [0, 0] rfl)).mono ?_
    rintro _ _ ⟨d91, p91, hG91, pb91, ha91, hq91, rfl, rfl⟩
    have hA91 : d91.a = Ab.new 4 := by rw [ha91] <;> (rfl)
    have hP91 : p91.a = _ := hq91.trans hP1
    have hb91 : d91.b = d91.b := rfl
    refine ⟨_, rfl, ?_⟩
    refine L_y rfl (y_move rfl) rfl ?_
    refine L_op rfl (op_call rfl rfl (fun a w => Try.call16 a w) rfl ?_)
    refine ((newtwo_d hG91 pb91 rfl 4).sub (hsub_pick [0, 0, 0, 0, 0] rfl)).mono ?_
    rintro _ _ ⟨by1, D1, h1, rfl, rfl⟩
    replace h1 := h1.to (B := ⟨Ab.new 4, Ab.new 4, ⟨false, 0, false⟩, none⟩) (by rw [hA91, hP91] <;> (rfl))
    refine ⟨_, rfl, ?_⟩
    refine L_y rfl (y_assign rfl) rfl ?_
    refine L_y rfl (y_assign rfl) rfl ?_
    refine L_nil ?_
    refine C_seq ?_
    refine C_region ?_
    refine L_y rfl (y_move rfl) rfl ?_
    refine L_y rfl (y_move rfl) rfl ?_
    refine L_op rfl (op_call rfl rfl (fun a w => Try.call17 a w) rfl ?_)
    refine (FnS.sub (hsub_pick [0] rfl) (mnew_fn (f := 27) (cap := []) h1)).mono ?_
    rintro _ _ ⟨mb, r0, r1, rfl, rfl⟩
    obtain ⟨m, hm, hmb, hmx, hmy, hmn⟩ : ∃ m, mnew ⟨Ab.new 4, Ab.new 4, ⟨false, 0, false⟩, none⟩ d91.b by1 (.func (.func 27) #[] ([] : List Value).toArray) mb r0 r1 = m ∧ m.b = mb ∧ m.bx = d91.b ∧ m.bys = by1 ∧ m.n = 4 := ⟨_, rfl, rfl, rfl, rfl, rfl⟩
    rw [hm]
    refine ⟨_, rfl, ?_⟩
    refine L_y rfl (y_assign rfl) rfl ?_
    refine L_nil ?_
    refine C_seq ?_
    refine C_region ?_
    refine L_y rfl (y_move rfl) rfl ?_
    refine L_y rfl (y_move rfl) rfl ?_
    refine L_y rfl (y_conv rfl us_5 Try.underlying3 (wi64 (by omega) (by omega))) rfl ?_
    refine L_y rfl (y_rem rfl rfl (by decide) (show _ = ((c % 4 : Nat) : Int) from rfl)) rfl ?_
    refine L_y rfl (y_move rfl) rfl ?_
    refine L_y rfl (y_conv rfl us_5 Try.underlying3 (wi64 (by omega) (by omega))) rfl ?_
    refine L_y rfl (y_rem rfl rfl (by decide) (show _ = ((b % 129 : Nat) : Int) from rfl)) rfl ?_
    refine L_op rfl (op_call rfl rfl (fun a w => Try.call28 a w) rfl ?_)
    refine ((tear_d h1 false ((c % 4 : Nat) : Int) ((b % 129 : Nat) : Int)).sub (hsub_pick [1] rfl)).mono ?_
    rintro _ _ ⟨rfl, D2, h2, rfl⟩
    refine ⟨_, rfl, ?_⟩
    refine L_nil ?_
    refine C_seq ?_
    refine C_region ?_
    refine L_y rfl (y_move rfl) rfl ?_
    refine L_y rfl (y_move rfl) rfl ?_
    refine L_y rfl (y_conv rfl us_5 Try.underlying3 (wi64 (by omega) (by omega))) rfl ?_
    refine L_y rfl (y_rem rfl rfl (by decide) (show _ = ((a % 16 : Nat) : Int) from rfl)) rfl ?_
    refine L_op rfl (op_call rfl rfl (fun a w => Try.call29 a w) rfl ?_)
    refine ((fail_d h2 ((a % 16 : Nat) : Int) (by omega)).sub (hsub_pick [0] rfl)).mono ?_
    rintro _ _ ⟨rfl, D3, h3, rfl⟩
    refine ⟨_, rfl, ?_⟩
    refine L_nil ?_
    refine C_seq ?_
    refine C_region ?_
    refine L_op rfl (op_alloc zl_47 rfl (fun dn => ?_))
    rw [show (List.replicate 4 (List.replicate 128 (Value.int .u8 0))).flatten = bs (List.replicate 4 (secOf 0)).flatten from zsecs 4]
    refine L_nil ?_
    refine C_seq ?_
    refine C_region ?_
    refine L_y rfl (y_loadA rfl ag_47 sz_47 (sees 0 0 rfl) (by first | (rw [bs_length, flat_len (show ∀ s ∈ (List.replicate 4 (secOf 0)), s.length = 128 from fun s hs => by rw [List.eq_of_mem_replicate hs]; exact secOf_len _), List.length_replicate]; done) | (rw [bs_length, flat_len (show ∀ s ∈ (List.replicate 4 (secOf 0)), s.length = 128 from fun s hs => by rw [List.eq_of_mem_replicate hs]; exact secOf_len _), List.length_replicate]; decide)) (bs_whole0 _ (by first | (rw [flat_len (show ∀ s ∈ (List.replicate 4 (secOf 0)), s.length = 128 from fun s hs => by rw [List.eq_of_mem_replicate hs]; exact secOf_len _), List.length_replicate]; done) | (rw [flat_len (show ∀ s ∈ (List.replicate 4 (secOf 0)), s.length = 128 from fun s hs => by rw [List.eq_of_mem_replicate hs]; exact secOf_len _), List.length_replicate]; decide)))) rfl ?_
    refine L_op rfl (op_alloc zl_47 rfl (fun nw => ?_))
    rw [show (List.replicate 4 (List.replicate 128 (Value.int .u8 0))).flatten = bs (List.replicate 4 (secOf 0)).flatten from zsecs 4]
    refine L_op rfl (op_storeA 0 0 rfl rfl rfl sz_47 (by rw [bs_length, flat_len (show ∀ s ∈ (List.replicate 4 (secOf 0)), s.length = 128 from fun s hs => by rw [List.eq_of_mem_replicate hs]; exact secOf_len _), List.length_replicate]) rfl (bs_one _) (by first | (rw [bs_length, flat_len (show ∀ s ∈ (List.replicate 4 (secOf 0)), s.length = 128 from fun s hs => by rw [List.eq_of_mem_replicate hs]; exact secOf_len _), List.length_replicate]; done) | (rw [bs_length, flat_len (by assumption), hd4]; done) | simp) ?_)
    refine L_nil ?_
    refine C_seq ?_
    refine C_seq ?_
    refine C_region ?_
    refine L_y rfl (y_assign rfl) rfl ?_
    refine L_nil ?_
    refine C_block ?_
    refine C_loop (ι := Duo × Da × Mi × List Sec × Nat) (fun i => [(0, .slice pa ll.length ca), (10, ptr d91.b), (11, ptr by1), (12, ptr mb), (13, ptr dn), (14, ptr nw), (15, .int .i64 (i.2.2.2.2 : Int))]) (fun i => i.2.2.1.seg 110 :: i.1.seg dt :: [(dn, .cells (bs i.2.2.2.1.flatten).toArray 47)] :: [(nw, .cells (bs i.2.2.2.1.flatten).toArray 47)] :: H) (fun i => Two dt i.1 i.2.1 d91.b by1 p1.b ∧ Fq i.2.1 i.2.2.2.1 ∧ (i.2.2.1.b = mb ∧ i.2.2.1.bx = d91.b ∧ i.2.2.1.bys = by1 ∧ i.2.2.1.n = 4) ∧ (∀ s ∈ i.2.2.2.1, s.length = 128) ∧ i.2.2.2.2 ≤ ll.length) (fun i => ll.length - i.2.2.2.2) (_, _, _, (List.replicate 4 (secOf 0)), 0) ⟨h3, Fq.start rfl, ⟨hmb, hmx, hmy, hmn⟩, (show ∀ s ∈ (List.replicate 4 (secOf 0)), s.length = 128 from fun s hs => by rw [List.eq_of_mem_replicate hs]; exact secOf_len _), Nat.zero_le _⟩ ⟨rfl, rfl, rfl, rfl, rfl, rfl, rfl, trivial⟩ ((hsub (.cons_cons _ (.cons_cons _ (.cons_cons _ (.cons_cons _ (.refl _)))))).trans (hsub_pick [3, 2, 1, 0] rfl)) (fun i hi => ?_)
    clear hmb hmx hmy hmn
    obtain ⟨D, A, m2, d, i⟩ := i
    obtain ⟨hT, hF, ⟨hmb, hmx, hmy, hmn⟩, hdo, hi⟩ := hi
    simp only at hT hF hmb hmx hmy hmn hdo hi
    dsimp only
    have hd4 := hF.len
    refine C_seq ?_
    refine C_seq ?_
    refine C_region ?_
    refine L_y rfl (y_move rfl) rfl ?_
    refine L_y rfl (y_move rfl) rfl ?_
    refine L_y rfl (y_lenS rfl rfl Try.underlying22) rfl ?_
    refine L_y rfl (y_lss rfl rfl) rfl ?_
    refine L_nil ?_
    refine C_cond rfl (fun hc2 => ?_) (fun hc2 => ?_)
    · replace hc2 : i < ll.length := by have := of_decide_eq_true hc2; omega
      obtain ⟨t, hne⟩ : ∃ t, (ll.getD i 0).toNat % 4 = t := ⟨_, rfl⟩
      have ht4 : t < 4 := by omega
      have hb := (ll.getD i 0).toNat_lt
      obtain ⟨b1, o1, l1, T1, fr1, rfl, hs1, hle1, hv1⟩ := hA (by rw [bs_length]; omega)
      rw [bs_length] at hle1 hv1
      refine C_skip ?_
      refine C_seq ?_
      refine C_block ?_
      refine C_seq ?_
      refine C_region ?_
      refine L_y rfl (y_move rfl) rfl ?_
      refine L_y rfl (y_conv rfl us_3 Try.underlying5 (show _ = ((i : Nat) : Int) from wu8 (by omega) (by omega))) rfl ?_
      refine L_y rfl (y_add rfl rfl (show _ = (((UInt8.ofNat (i + 1)).toNat : Nat) : Int) from by rw [wu8 (by omega) (by omega)]; simp; omega)) rfl ?_
      refine L_y rfl (y_move rfl) rfl ?_
      refine L_y rfl (y_move rfl) rfl ?_
      refine L_y rfl (y_indexS rfl rfl Try.underlying22 sz_5 (by omega) (by omega) (show _ = o1 + i * 1 from by simp)) rfl ?_
      refine L_y rfl (y_load rfl ag_5 (hs1.up.up.up.up) (byte_at hv1 hc2)) rfl ?_
      refine L_op rfl (op_call rfl rfl (fun a w => Try.call20 a w) rfl ?_)
      refine (sector3_s (UInt8.ofNat (i + 1)) (ll.getD i 0)).mono ?_
      rintro _ _ ⟨rfl, e⟩
      obtain rfl := e.symm
      clear e
      refine ⟨_, rfl, ?_⟩
      refine L_op rfl (op_alloc zl_32 rfl (fun B3 => ?_))
      refine L_op rfl (op_storeA 0 0 rfl rfl rfl sz_32 (by rw [bs_length, sec3_len _ _ _]) rfl (bs_one _) (by simp) ?_)
      refine L_nil ?_
      refine C_seq ?_
      refine C_regionH ([(B3, .cells (bs (sec3 (UInt8.ofNat (i + 1)) (ll.getD i 0) 9)).toArray 32)] :: H) (by kernel_rfl) ?_
      refine H_y 0 rfl (by kernel_rfl) (by kernel_rfl) (by kernel_rfl) (((hsub (.cons_cons _ (.cons _ (.cons _ (.cons _ (.cons _ (.refl _))))))).trans (hsub_pick [0] rfl))) rfl (y_move rfl) rfl ?_
      refine H_y 1 rfl (by kernel_rfl) (by kernel_rfl) (by kernel_rfl) (((hsub (.cons_cons _ (.cons _ (.cons _ (.cons _ (.cons _ (.refl _))))))).trans (hsub_pick [0] rfl))) rfl (y_move rfl) rfl ?_
      refine H_y 2 rfl (by kernel_rfl) (by kernel_rfl) (by kernel_rfl) (((hsub (.cons_cons _ (.cons _ (.cons _ (.cons _ (.cons _ (.refl _))))))).trans (hsub_pick [0] rfl))) rfl (y_indexS rfl rfl Try.underlying22 sz_5 (by omega) (by omega) (show _ = o1 + i * 1 from by simp)) rfl ?_
      refine H_y 3 rfl (by kernel_rfl) (by kernel_rfl) (by kernel_rfl) (((hsub (.cons_cons _ (.cons _ (.cons _ (.cons _ (.cons _ (.refl _))))))).trans (hsub_pick [0] rfl))) rfl (y_load rfl ag_5 (hs1.up) (byte_at hv1 hc2)) rfl ?_
      refine H_y 4 rfl (by kernel_rfl) (by kernel_rfl) (by kernel_rfl) (((hsub (.cons_cons _ (.cons _ (.cons _ (.cons _ (.cons _ (.refl _))))))).trans (hsub_pick [0] rfl))) rfl (y_conv rfl us_5 Try.underlying3 (wi64 (by omega) (by omega))) rfl ?_
      refine H_y 5 rfl (by kernel_rfl) (by kernel_rfl) (by kernel_rfl) (((hsub (.cons_cons _ (.cons _ (.cons _ (.cons _ (.cons _ (.refl _))))))).trans (hsub_pick [0] rfl))) rfl (y_rem rfl rfl (by decide) (show _ = ((t : Nat) : Int) from by rw [← hne]; rfl)) rfl ?_
      refine H_y 6 rfl (by kernel_rfl) (by kernel_rfl) (by kernel_rfl) (((hsub (.cons_cons _ (.cons _ (.cons _ (.cons _ (.cons _ (.refl _))))))).trans (hsub_pick [0] rfl))) rfl (y_loadA rfl ag_32 sz_32 (sees 0 0 rfl) (by rw [bs_length, sec3_len _ _ _]; decide) (bs_whole0 _ (sec3_len _ _ _))) rfl ?_
      refine H_y 7 rfl (by kernel_rfl) (by kernel_rfl) (by kernel_rfl) (((hsub (.cons_cons _ (.cons _ (.cons _ (.cons _ (.cons _ (.refl _))))))).trans (hsub_pick [0] rfl))) rfl (y_indexA rfl rfl Try.underlying47 sz_32 (by omega) (by omega) (show _ = t * 128 from by simp)) rfl ?_
      refine H_one 8 rfl (by kernel_rfl) rfl (op_store 4 0 rfl rfl rfl sz_32 (by rw [bs_length, sec3_len]) rfl (bs_one _) (by rw [bs_length, flat_len hdo, hd4]; omega) ?_)
      rw [flat_spl hdo (by rw [hd4]; omega) (sec3_len _ _ _)]
      refine ⟨((hsub (.cons_cons _ (.cons _ (.cons _ (.cons _ (.cons _ (.refl _))))))).trans (hsub_pick [0] rfl)), ?_⟩
      refine H_done (by kernel_rfl) ?_
      refine C_seq ?_
      refine C_seq ?_
      refine C_regionH ([(B3, .cells (bs (sec3 (UInt8.ofNat (i + 1)) (ll.getD i 0) 9)).toArray 32)] :: H) (by kernel_rfl) ?_
      refine H_y 0 rfl (by kernel_rfl) (by kernel_rfl) (by kernel_rfl) (((hsub (.cons_cons _ (.cons _ (.cons _ (.cons _ (.cons _ (.refl _))))))).trans (hsub_pick [0] rfl))) rfl (y_move rfl) rfl ?_
      refine H_y 1 rfl (by kernel_rfl) (by kernel_rfl) (by kernel_rfl) (((hsub (.cons_cons _ (.cons _ (.cons _ (.cons _ (.cons _ (.refl _))))))).trans (hsub_pick [0] rfl))) rfl (y_move rfl) rfl ?_
      refine H_y 2 rfl (by kernel_rfl) (by kernel_rfl) (by kernel_rfl) (((hsub (.cons_cons _ (.cons _ (.cons _ (.cons _ (.cons _ (.refl _))))))).trans (hsub_pick [0] rfl))) rfl (y_move rfl) rfl ?_
      refine H_y 3 rfl (by kernel_rfl) (by kernel_rfl) (by kernel_rfl) (((hsub (.cons_cons _ (.cons _ (.cons _ (.cons _ (.cons _ (.refl _))))))).trans (hsub_pick [0] rfl))) rfl (y_indexS rfl rfl Try.underlying22 sz_5 (by omega) (by omega) (show _ = o1 + i * 1 from by simp)) rfl ?_
      refine H_y 4 rfl (by kernel_rfl) (by kernel_rfl) (by kernel_rfl) (((hsub (.cons_cons _ (.cons _ (.cons _ (.cons _ (.cons _ (.refl _))))))).trans (hsub_pick [0] rfl))) rfl (y_load rfl ag_5 (hs1.up) (byte_at hv1 hc2)) rfl ?_
      refine H_y 5 rfl (by kernel_rfl) (by kernel_rfl) (by kernel_rfl) (((hsub (.cons_cons _ (.cons _ (.cons _ (.cons _ (.cons _ (.refl _))))))).trans (hsub_pick [0] rfl))) rfl (y_conv rfl us_5 Try.underlying3 (wi64 (by omega) (by omega))) rfl ?_
      refine H_y 6 rfl (by kernel_rfl) (by kernel_rfl) (by kernel_rfl) (((hsub (.cons_cons _ (.cons _ (.cons _ (.cons _ (.cons _ (.refl _))))))).trans (hsub_pick [0] rfl))) rfl (y_rem rfl rfl (by decide) (show _ = ((t : Nat) : Int) from by rw [← hne]; rfl)) rfl ?_
      refine H_y 7 rfl (by kernel_rfl) (by kernel_rfl) (by kernel_rfl) (((hsub (.cons_cons _ (.cons _ (.cons _ (.cons _ (.cons _ (.refl _))))))).trans (hsub_pick [0] rfl))) rfl (y_loadA rfl ag_32 sz_32 (sees 0 0 rfl) (by rw [bs_length, sec3_len _ _ _]; decide) (bs_whole0 _ (sec3_len _ _ _))) rfl ?_
      refine H_one 8 rfl (by kernel_rfl) rfl (op_call rfl rfl (fun a w => Try.call19 a w) rfl ?_)
      refine (FnS.sub (hsub_pick [1, 1] rfl) (mwrite_b hmb hmx hmy hT (t : Int) (sec3 (UInt8.ofNat (i + 1)) (ll.getD i 0) 9) (sec3_len _ _ _) (fun i => by obtain ⟨⟨_, _, _, rfl, _⟩, _⟩ := hF; cases i <;> exact Nat.lt_of_sub_pos (by decide : 0 < 99990 - 0)))).mono ?_
      rintro _ _ ⟨e4, D3, hT3, rfl⟩
      have hR := hF.round hmn ht4 (sec3 (UInt8.ofNat (i + 1)) (ll.getD i 0) 9)
      obtain ⟨m3, hm3, q1, q2, q3, q4⟩ : ∃ m3, putm m2 A askAll (t : Int) (sec3 (UInt8.ofNat (i + 1)) (ll.getD i 0) 9) = m3 ∧ m3.b = mb ∧ m3.bx = d91.b ∧ m3.bys = by1 ∧ m3.n = 4 := ⟨_, rfl, (putm_same _ _ _ _ _).1.trans hmb, (putm_same _ _ _ _ _).2.1.trans hmx, (putm_same _ _ _ _ _).2.2.1.trans hmy, (by unfold putm; split <;> exact hmn)⟩
      rw [hm3]
      generalize putDa m2 A askAll (t : Int) (sec3 (UInt8.ofNat (i + 1)) (ll.getD i 0) 9) = A3 at hT3 hR
      generalize putE m2 A askAll (t : Int) (sec3 (UInt8.ofNat (i + 1)) (ll.getD i 0) 9) = E1 at e4 hR
      obtain rfl := e4
      refine ⟨_, rfl, ?_⟩
      refine ⟨((hsub (.cons_cons _ (.cons _ (.cons _ (.cons _ (.cons _ (.refl _))))))).trans (hsub_pick [2] rfl)), ?_⟩
      refine H_y 9 rfl (by kernel_rfl) (by kernel_rfl) (by kernel_rfl) (((hsub (.cons_cons _ (.cons _ (.cons _ (.cons _ (.cons _ (.refl _))))))).trans (hsub_pick [2] rfl))) rfl (y_nei rfl rfl) rfl ?_
      refine H_y 10 rfl (by kernel_rfl) (by kernel_rfl) (by kernel_rfl) (((hsub (.cons_cons _ (.cons _ (.cons _ (.cons _ (.cons _ (.refl _))))))).trans (hsub_pick [2] rfl))) rfl (y_move rfl) rfl ?_
      refine H_case 79 rfl (fun hg17_11 => ?_) (fun hg17_11 => ?_)
      · have hP : Fp A3 d (d.set t (sec3 (UInt8.ofNat (i + 1)) (ll.getD i 0) 9)) := hR.elim (fun h => h.2) (fun h => absurd hg17_11 (by rw [h.1]; decide))
        refine H_skip 11 rfl (by kernel_rfl) (by kernel_rfl) (by kernel_rfl) (((hsub (.cons_cons _ (.cons _ (.cons _ (.cons _ (.cons _ (.refl _))))))).trans (hsub_pick [2] rfl))) rfl rfl ?_
        refine H_skip 12 rfl (by kernel_rfl) (by kernel_rfl) (by kernel_rfl) (((hsub (.cons_cons _ (.cons _ (.cons _ (.cons _ (.cons _ (.refl _))))))).trans (hsub_pick [2] rfl))) rfl rfl ?_
        refine H_skip 13 rfl (by kernel_rfl) (by kernel_rfl) (by kernel_rfl) (((hsub (.cons_cons _ (.cons _ (.cons _ (.cons _ (.cons _ (.refl _))))))).trans (hsub_pick [2] rfl))) rfl rfl ?_
        refine H_y 14 rfl (by kernel_rfl) (by kernel_rfl) (by kernel_rfl) (((hsub (.cons_cons _ (.cons _ (.cons _ (.cons _ (.cons _ (.refl _))))))).trans (hsub_pick [2] rfl))) rfl (y_pick_t rfl rfl) rfl ?_
        refine H_done (by kernel_rfl) ?_
        refine C_cond_t rfl ?_
        refine C_exit ?_
        refine C_seq ?_
        refine C_region ?_
        refine L_y rfl (y_move rfl) rfl ?_
        refine L_op rfl (op_call rfl rfl (fun a w => Try.call30 a w) rfl ?_)
        refine (FnS.sub (hsub_pick [1] rfl) (dump_d hT3 false)).mono ?_
        rintro _ _ ⟨gx, hgx, rfl, rfl⟩
        have hlx := (hP).la
        have okx := (Two.oks hT3 false).1
        obtain ⟨Zx, hZx⟩ : ∃ Z, (Da.dev A3 false).S = Z := ⟨_, rfl⟩
        rw [hZx] at hgx okx ⊢
        replace hlx : Zx.length = 4 := by rw [← hZx]; exact hlx
        rw [hlx] at hgx ⊢
        have hfx := flat_len okx
        rw [hlx] at hfx
        cases gx with
        | none => exact slOk_none hgx (by decide)
        | some gx => ?_
        refine ⟨_, rfl, ?_⟩
        refine L_y rfl (y_move rfl) rfl ?_
        refine L_op rfl (op_call rfl rfl (fun a w => Try.call30 a w) rfl ?_)
        refine (FnS.sub (hsub_pick [1] rfl) (dump_d hT3 true)).mono ?_
        rintro _ _ ⟨gy, hgy, rfl, rfl⟩
        have hly := (hP).lb
        have oky := (Two.oks hT3 true).1
        obtain ⟨Zy, hZy⟩ : ∃ Z, (Da.dev A3 true).S = Z := ⟨_, rfl⟩
        rw [hZy] at hgy oky ⊢
        replace hly : Zy.length = 4 := by rw [← hZy]; exact hly
        rw [hly] at hgy ⊢
        have hfy := flat_len oky
        rw [hly] at hfy
        cases gy with
        | none => exact slOk_none hgy (by decide)
        | some gy => ?_
        refine ⟨_, rfl, ?_⟩
        refine L_y rfl (y_assign rfl) rfl ?_
        refine L_y rfl (y_assign rfl) rfl ?_
        refine L_nil ?_
        refine C_seq ?_
        refine C_seq ?_
        refine C_region ?_
        refine L_y rfl (y_assign rfl) rfl ?_
        refine L_nil ?_
        refine C_block ?_
        refine C_loop (ι := Nat) (fun k => [(13, ptr dn), (14, ptr nw), (17, slV (some gx) 4), (18, slV (some gy) 4), (19, .int .i64 (k : Int))]) (fun k => slSeg 32 (some gx) (bs Zx.flatten) :: slSeg 32 (some gy) (bs Zy.flatten) :: [(dn, .cells (bs d.flatten).toArray 47)] :: [(nw, .cells (bs (d.set t (sec3 (UInt8.ofNat (i + 1)) (ll.getD i 0) 9)).flatten).toArray 47)] :: H) (fun k => k ≤ 4) (fun k => 4 - k) 0 (Nat.zero_le _) ⟨rfl, rfl, rfl, rfl, rfl, trivial⟩ ((hsub (.cons_cons _ (.cons_cons _ (.cons_cons _ (.cons_cons _ (.cons _ (.cons _ (.cons _ (.refl _))))))))).trans (hsub_pick [2, 0, 3, 3] rfl)) (fun k hk => ?_)
        have hX := (hP).x k
        have hY := (hP).y k
        rw [show (Da.a _).S = Zx from hZx] at hX
        rw [show (Da.b _).S = Zy from hZy] at hY
        have hnl : (d.set t (sec3 (UInt8.ofNat (i + 1)) (ll.getD i 0) 9)).length = 4 := by simp [hd4]
        refine C_seq ?_
        refine C_seq ?_
        refine C_region ?_
        refine L_y rfl (y_move rfl) rfl ?_
        refine L_y rfl (y_lss rfl rfl) rfl ?_
        refine L_nil ?_
        refine C_cond rfl (fun hc4 => ?_) (fun hc4 => ?_)
        · have hk4 : k < 4 := by have := of_decide_eq_true hc4; omega
          refine C_skip ?_
          refine C_seq ?_
          refine C_block ?_
          refine C_seq ?_
          refine C_regionH0 (by kernel_rfl) ?_
          refine H_y 0 rfl (by kernel_rfl) (by kernel_rfl) (by kernel_rfl) (HSub.refl _) rfl (y_move rfl) rfl ?_
          refine H_y 1 rfl (by kernel_rfl) (by kernel_rfl) (by kernel_rfl) (HSub.refl _) rfl (y_move rfl) rfl ?_
          refine H_y 2 rfl (by kernel_rfl) (by kernel_rfl) (by kernel_rfl) (HSub.refl _) rfl (y_indexS rfl rfl Try.underlying40 sz_32 (by omega) (by omega) (show _ = 0 + k * 128 from by simp)) rfl ?_
          refine H_y 3 rfl (by kernel_rfl) (by kernel_rfl) (by kernel_rfl) (HSub.refl _) rfl (y_loadA rfl ag_32 sz_32 (sees 0 0 rfl) (by rw [List.length_append, bs_length, hfx]; omega) (show ((bs Zx.flatten ++ _).drop (0 + k * 128)).take 128 = _ from sec_at (n := 0) okx (by simp) (want_get hlx hk4))) rfl ?_
          refine H_y 4 rfl (by kernel_rfl) (by kernel_rfl) (by kernel_rfl) (HSub.refl _) rfl (y_move rfl) rfl ?_
          refine H_y 5 rfl (by kernel_rfl) (by kernel_rfl) (by kernel_rfl) (HSub.refl _) rfl (y_indexA rfl rfl Try.underlying47 sz_32 (by omega) (by omega) (show _ = 0 + k * 128 from by simp)) rfl ?_
          refine H_y 6 rfl (by kernel_rfl) (by kernel_rfl) (by kernel_rfl) (HSub.refl _) rfl (y_loadA rfl ag_32 sz_32 (sees 2 0 rfl) (by rw [bs_length, flat_len hdo, hd4]; omega) (show ((bs d.flatten).drop (0 + k * 128)).take 128 = _ from sec_at (n := 0) hdo (by simp) (want_get hd4 hk4))) rfl ?_
          refine H_y 7 rfl (by kernel_rfl) (by kernel_rfl) (by kernel_rfl) (HSub.refl _) rfl (y_nea rfl rfl Try.underlying32 Try.underlying5 sz_5 eg_32 (want_len hlx hk4 okx) (want_len hd4 hk4 hdo)) rfl ?_
          refine H_y 8 rfl (by kernel_rfl) (by kernel_rfl) (by kernel_rfl) (HSub.refl _) rfl (y_move rfl) rfl ?_
          refine H_case 101 rfl (fun hg23_9 => ?_) (fun hg23_9 => ?_)
          · skip
            refine H_y 9 rfl (by kernel_rfl) (by kernel_rfl) (by kernel_rfl) (HSub.refl _) rfl (y_move rfl) rfl ?_
            refine H_y 10 rfl (by kernel_rfl) (by kernel_rfl) (by kernel_rfl) (HSub.refl _) rfl (y_indexA rfl rfl Try.underlying47 sz_32 (by omega) (by omega) (show _ = 0 + k * 128 from by simp)) rfl ?_
            refine H_y 11 rfl (by kernel_rfl) (by kernel_rfl) (by kernel_rfl) (HSub.refl _) rfl (y_loadA rfl ag_32 sz_32 (sees 3 0 rfl) (by rw [bs_length, flat_len (set_ok2 hdo (sec3_len _ _ _)), hnl]; omega) (show ((bs (d.set t (sec3 (UInt8.ofNat (i + 1)) (ll.getD i 0) 9)).flatten).drop (0 + k * 128)).take 128 = _ from sec_at (n := 0) (set_ok2 hdo (sec3_len _ _ _)) (by simp) (want_get hnl hk4))) rfl ?_
            refine H_y 12 rfl (by kernel_rfl) (by kernel_rfl) (by kernel_rfl) (HSub.refl _) rfl (y_move rfl) rfl ?_
            refine H_y 13 rfl (by kernel_rfl) (by kernel_rfl) (by kernel_rfl) (HSub.refl _) rfl (y_indexA rfl rfl Try.underlying47 sz_32 (by omega) (by omega) (show _ = 0 + k * 128 from by simp)) rfl ?_
            refine H_y 14 rfl (by kernel_rfl) (by kernel_rfl) (by kernel_rfl) (HSub.refl _) rfl (y_loadA rfl ag_32 sz_32 (sees 2 0 rfl) (by rw [bs_length, flat_len hdo, hd4]; omega) (show ((bs d.flatten).drop (0 + k * 128)).take 128 = _ from sec_at (n := 0) hdo (by simp) (want_get hd4 hk4))) rfl ?_
            refine H_y 15 rfl (by kernel_rfl) (by kernel_rfl) (by kernel_rfl) (HSub.refl _) rfl (y_eqa rfl rfl Try.underlying32 Try.underlying5 sz_5 eg_32 (want_len hnl hk4 (set_ok2 hdo (sec3_len _ _ _))) (want_len hd4 hk4 hdo)) rfl ?_
            refine H_y 16 rfl (by kernel_rfl) (by kernel_rfl) (by kernel_rfl) (HSub.refl _) rfl (y_pick_t rfl rfl) rfl ?_
            refine H_y 17 rfl (by kernel_rfl) (by kernel_rfl) (by kernel_rfl) (HSub.refl _) rfl (y_move rfl) rfl ?_
            refine H_case 110 rfl (fun hg23_18 => ?_) (fun hg23_18 => ?_)
            · exact absurd (hX (of_decide_eq_true hg23_18)) (by simpa using hg23_9)
            · skip
              refine H_y 18 rfl (by kernel_rfl) (by kernel_rfl) (by kernel_rfl) (HSub.refl _) rfl (y_move rfl) rfl ?_
              refine H_y 19 rfl (by kernel_rfl) (by kernel_rfl) (by kernel_rfl) (HSub.refl _) rfl (y_move rfl) rfl ?_
              refine H_y 20 rfl (by kernel_rfl) (by kernel_rfl) (by kernel_rfl) (HSub.refl _) rfl (y_indexS rfl rfl Try.underlying40 sz_32 (by omega) (by omega) (show _ = 0 + k * 128 from by simp)) rfl ?_
              refine H_y 21 rfl (by kernel_rfl) (by kernel_rfl) (by kernel_rfl) (HSub.refl _) rfl (y_loadA rfl ag_32 sz_32 (sees 1 0 rfl) (by rw [List.length_append, bs_length, hfy]; omega) (show ((bs Zy.flatten ++ _).drop (0 + k * 128)).take 128 = _ from sec_at (n := 0) oky (by simp) (want_get hly hk4))) rfl ?_
              refine H_y 22 rfl (by kernel_rfl) (by kernel_rfl) (by kernel_rfl) (HSub.refl _) rfl (y_move rfl) rfl ?_
              refine H_y 23 rfl (by kernel_rfl) (by kernel_rfl) (by kernel_rfl) (HSub.refl _) rfl (y_indexA rfl rfl Try.underlying47 sz_32 (by omega) (by omega) (show _ = 0 + k * 128 from by simp)) rfl ?_
              refine H_y 24 rfl (by kernel_rfl) (by kernel_rfl) (by kernel_rfl) (HSub.refl _) rfl (y_loadA rfl ag_32 sz_32 (sees 2 0 rfl) (by rw [bs_length, flat_len hdo, hd4]; omega) (show ((bs d.flatten).drop (0 + k * 128)).take 128 = _ from sec_at (n := 0) hdo (by simp) (want_get hd4 hk4))) rfl ?_
              refine H_y 25 rfl (by kernel_rfl) (by kernel_rfl) (by kernel_rfl) (HSub.refl _) rfl (y_nea rfl rfl Try.underlying32 Try.underlying5 sz_5 eg_32 (want_len hly hk4 oky) (want_len hd4 hk4 hdo)) rfl ?_
              refine H_y 26 rfl (by kernel_rfl) (by kernel_rfl) (by kernel_rfl) (HSub.refl _) rfl (y_move rfl) rfl ?_
              refine H_case 119 rfl (fun hg23_27 => ?_) (fun hg23_27 => ?_)
              · skip
                refine H_y 27 rfl (by kernel_rfl) (by kernel_rfl) (by kernel_rfl) (HSub.refl _) rfl (y_move rfl) rfl ?_
                refine H_y 28 rfl (by kernel_rfl) (by kernel_rfl) (by kernel_rfl) (HSub.refl _) rfl (y_move rfl) rfl ?_
                refine H_y 29 rfl (by kernel_rfl) (by kernel_rfl) (by kernel_rfl) (HSub.refl _) rfl (y_indexS rfl rfl Try.underlying40 sz_32 (by omega) (by omega) (show _ = 0 + k * 128 from by simp)) rfl ?_
                refine H_y 30 rfl (by kernel_rfl) (by kernel_rfl) (by kernel_rfl) (HSub.refl _) rfl (y_loadA rfl ag_32 sz_32 (sees 1 0 rfl) (by rw [List.length_append, bs_length, hfy]; omega) (show ((bs Zy.flatten ++ _).drop (0 + k * 128)).take 128 = _ from sec_at (n := 0) oky (by simp) (want_get hly hk4))) rfl ?_
                refine H_y 31 rfl (by kernel_rfl) (by kernel_rfl) (by kernel_rfl) (HSub.refl _) rfl (y_move rfl) rfl ?_
                refine H_y 32 rfl (by kernel_rfl) (by kernel_rfl) (by kernel_rfl) (HSub.refl _) rfl (y_indexA rfl rfl Try.underlying47 sz_32 (by omega) (by omega) (show _ = 0 + k * 128 from by simp)) rfl ?_
                refine H_y 33 rfl (by kernel_rfl) (by kernel_rfl) (by kernel_rfl) (HSub.refl _) rfl (y_loadA rfl ag_32 sz_32 (sees 3 0 rfl) (by rw [bs_length, flat_len (set_ok2 hdo (sec3_len _ _ _)), hnl]; omega) (show ((bs (d.set t (sec3 (UInt8.ofNat (i + 1)) (ll.getD i 0) 9)).flatten).drop (0 + k * 128)).take 128 = _ from sec_at (n := 0) (set_ok2 hdo (sec3_len _ _ _)) (by simp) (want_get hnl hk4))) rfl ?_
                refine H_y 34 rfl (by kernel_rfl) (by kernel_rfl) (by kernel_rfl) (HSub.refl _) rfl (y_nea rfl rfl Try.underlying32 Try.underlying5 sz_5 eg_32 (want_len hly hk4 oky) (want_len hnl hk4 (set_ok2 hdo (sec3_len _ _ _)))) rfl ?_
                refine H_y 35 rfl (by kernel_rfl) (by kernel_rfl) (by kernel_rfl) (HSub.refl _) rfl (y_pick_t rfl rfl) rfl ?_
                refine H_y 36 rfl (by kernel_rfl) (by kernel_rfl) (by kernel_rfl) (HSub.refl _) rfl (y_pick_f rfl rfl) rfl ?_
                refine H_done (by kernel_rfl) ?_
                refine C_cond rfl (fun hc5 => absurd hc5 (by rcases hY with h1 | h1 <;> simp_all)) (fun hc5 => ?_)
                refine C_skip ?_
                refine C_region ?_
                refine L_y rfl (y_move rfl) rfl ?_
                refine L_y rfl (y_add rfl rfl (wi64 (by omega) (by omega))) rfl ?_
                refine L_y rfl (y_assign rfl) rfl ?_
                refine L_nil ?_
                exact ⟨k + 1, by omega, by omega, ⟨rfl, rfl, rfl, rfl, rfl, trivial⟩, ((hsub (.cons_cons _ (.cons_cons _ (.cons_cons _ (.cons_cons _ (.refl _)))))).trans (hsub_pick [0, 0, 0, 0] rfl))⟩
              · skip
                refine H_skip 27 rfl (by kernel_rfl) (by kernel_rfl) (by kernel_rfl) (HSub.refl _) rfl rfl ?_
                refine H_skip 28 rfl (by kernel_rfl) (by kernel_rfl) (by kernel_rfl) (HSub.refl _) rfl rfl ?_
                refine H_skip 29 rfl (by kernel_rfl) (by kernel_rfl) (by kernel_rfl) (HSub.refl _) rfl rfl ?_
                refine H_skip 30 rfl (by kernel_rfl) (by kernel_rfl) (by kernel_rfl) (HSub.refl _) rfl rfl ?_
                refine H_skip 31 rfl (by kernel_rfl) (by kernel_rfl) (by kernel_rfl) (HSub.refl _) rfl rfl ?_
                refine H_skip 32 rfl (by kernel_rfl) (by kernel_rfl) (by kernel_rfl) (HSub.refl _) rfl rfl ?_
                refine H_skip 33 rfl (by kernel_rfl) (by kernel_rfl) (by kernel_rfl) (HSub.refl _) rfl rfl ?_
                refine H_skip 34 rfl (by kernel_rfl) (by kernel_rfl) (by kernel_rfl) (HSub.refl _) rfl rfl ?_
                refine H_y 35 rfl (by kernel_rfl) (by kernel_rfl) (by kernel_rfl) (HSub.refl _) rfl (y_pick_f rfl rfl) rfl ?_
                refine H_y 36 rfl (by kernel_rfl) (by kernel_rfl) (by kernel_rfl) (HSub.refl _) rfl (y_pick_f rfl rfl) rfl ?_
                refine H_done (by kernel_rfl) ?_
                refine C_cond_f rfl ?_
                refine C_skip ?_
                refine C_region ?_
                refine L_y rfl (y_move rfl) rfl ?_
                refine L_y rfl (y_add rfl rfl (wi64 (by omega) (by omega))) rfl ?_
                refine L_y rfl (y_assign rfl) rfl ?_
                refine L_nil ?_
                exact ⟨k + 1, by omega, by omega, ⟨rfl, rfl, rfl, rfl, rfl, trivial⟩, ((hsub (.cons_cons _ (.cons_cons _ (.cons_cons _ (.cons_cons _ (.refl _)))))).trans (hsub_pick [0, 0, 0, 0] rfl))⟩
          · skip
            refine H_skip 9 rfl (by kernel_rfl) (by kernel_rfl) (by kernel_rfl) (HSub.refl _) rfl rfl ?_
            refine H_skip 10 rfl (by kernel_rfl) (by kernel_rfl) (by kernel_rfl) (HSub.refl _) rfl rfl ?_
            refine H_skip 11 rfl (by kernel_rfl) (by kernel_rfl) (by kernel_rfl) (HSub.refl _) rfl rfl ?_
            refine H_skip 12 rfl (by kernel_rfl) (by kernel_rfl) (by kernel_rfl) (HSub.refl _) rfl rfl ?_
            refine H_skip 13 rfl (by kernel_rfl) (by kernel_rfl) (by kernel_rfl) (HSub.refl _) rfl rfl ?_
            refine H_skip 14 rfl (by kernel_rfl) (by kernel_rfl) (by kernel_rfl) (HSub.refl _) rfl rfl ?_
            refine H_skip 15 rfl (by kernel_rfl) (by kernel_rfl) (by kernel_rfl) (HSub.refl _) rfl rfl ?_
            refine H_y 16 rfl (by kernel_rfl) (by kernel_rfl) (by kernel_rfl) (HSub.refl _) rfl (y_pick_f rfl rfl) rfl ?_
            refine H_y 17 rfl (by kernel_rfl) (by kernel_rfl) (by kernel_rfl) (HSub.refl _) rfl (y_move rfl) rfl ?_
            refine H_y 18 rfl (by kernel_rfl) (by kernel_rfl) (by kernel_rfl) (HSub.refl _) rfl (y_move rfl) rfl ?_
            refine H_y 19 rfl (by kernel_rfl) (by kernel_rfl) (by kernel_rfl) (HSub.refl _) rfl (y_move rfl) rfl ?_
            refine H_y 20 rfl (by kernel_rfl) (by kernel_rfl) (by kernel_rfl) (HSub.refl _) rfl (y_indexS rfl rfl Try.underlying40 sz_32 (by omega) (by omega) (show _ = 0 + k * 128 from by simp)) rfl ?_
            refine H_y 21 rfl (by kernel_rfl) (by kernel_rfl) (by kernel_rfl) (HSub.refl _) rfl (y_loadA rfl ag_32 sz_32 (sees 1 0 rfl) (by rw [List.length_append, bs_length, hfy]; omega) (show ((bs Zy.flatten ++ _).drop (0 + k * 128)).take 128 = _ from sec_at (n := 0) oky (by simp) (want_get hly hk4))) rfl ?_
            refine H_y 22 rfl (by kernel_rfl) (by kernel_rfl) (by kernel_rfl) (HSub.refl _) rfl (y_move rfl) rfl ?_
            refine H_y 23 rfl (by kernel_rfl) (by kernel_rfl) (by kernel_rfl) (HSub.refl _) rfl (y_indexA rfl rfl Try.underlying47 sz_32 (by omega) (by omega) (show _ = 0 + k * 128 from by simp)) rfl ?_
            refine H_y 24 rfl (by kernel_rfl) (by kernel_rfl) (by kernel_rfl) (HSub.refl _) rfl (y_loadA rfl ag_32 sz_32 (sees 2 0 rfl) (by rw [bs_length, flat_len hdo, hd4]; omega) (show ((bs d.flatten).drop (0 + k * 128)).take 128 = _ from sec_at (n := 0) hdo (by simp) (want_get hd4 hk4))) rfl ?_
            refine H_y 25 rfl (by kernel_rfl) (by kernel_rfl) (by kernel_rfl) (HSub.refl _) rfl (y_nea rfl rfl Try.underlying32 Try.underlying5 sz_5 eg_32 (want_len hly hk4 oky) (want_len hd4 hk4 hdo)) rfl ?_
            refine H_y 26 rfl (by kernel_rfl) (by kernel_rfl) (by kernel_rfl) (HSub.refl _) rfl (y_move rfl) rfl ?_
            refine H_case 119 rfl (fun hg23_27 => ?_) (fun hg23_27 => ?_)
            · skip
              refine H_y 27 rfl (by kernel_rfl) (by kernel_rfl) (by kernel_rfl) (HSub.refl _) rfl (y_move rfl) rfl ?_
              refine H_y 28 rfl (by kernel_rfl) (by kernel_rfl) (by kernel_rfl) (HSub.refl _) rfl (y_move rfl) rfl ?_
              refine H_y 29 rfl (by kernel_rfl) (by kernel_rfl) (by kernel_rfl) (HSub.refl _) rfl (y_indexS rfl rfl Try.underlying40 sz_32 (by omega) (by omega) (show _ = 0 + k * 128 from by simp)) rfl ?_
              refine H_y 30 rfl (by kernel_rfl) (by kernel_rfl) (by kernel_rfl) (HSub.refl _) rfl (y_loadA rfl ag_32 sz_32 (sees 1 0 rfl) (by rw [List.length_append, bs_length, hfy]; omega) (show ((bs Zy.flatten ++ _).drop (0 + k * 128)).take 128 = _ from sec_at (n := 0) oky (by simp) (want_get hly hk4))) rfl ?_
              refine H_y 31 rfl (by kernel_rfl) (by kernel_rfl) (by kernel_rfl) (HSub.refl _) rfl (y_move rfl) rfl ?_
              refine H_y 32 rfl (by kernel_rfl) (by kernel_rfl) (by kernel_rfl) (HSub.refl _) rfl (y_indexA rfl rfl Try.underlying47 sz_32 (by omega) (by omega) (show _ = 0 + k * 128 from by simp)) rfl ?_
              refine H_y 33 rfl (by kernel_rfl) (by kernel_rfl) (by kernel_rfl) (HSub.refl _) rfl (y_loadA rfl ag_32 sz_32 (sees 3 0 rfl) (by rw [bs_length, flat_len (set_ok2 hdo (sec3_len _ _ _)), hnl]; omega) (show ((bs (d.set t (sec3 (UInt8.ofNat (i + 1)) (ll.getD i 0) 9)).flatten).drop (0 + k * 128)).take 128 = _ from sec_at (n := 0) (set_ok2 hdo (sec3_len _ _ _)) (by simp) (want_get hnl hk4))) rfl ?_
              refine H_y 34 rfl (by kernel_rfl) (by kernel_rfl) (by kernel_rfl) (HSub.refl _) rfl (y_nea rfl rfl Try.underlying32 Try.underlying5 sz_5 eg_32 (want_len hly hk4 oky) (want_len hnl hk4 (set_ok2 hdo (sec3_len _ _ _)))) rfl ?_
              refine H_y 35 rfl (by kernel_rfl) (by kernel_rfl) (by kernel_rfl) (HSub.refl _) rfl (y_pick_t rfl rfl) rfl ?_
              refine H_y 36 rfl (by kernel_rfl) (by kernel_rfl) (by kernel_rfl) (HSub.refl _) rfl (y_pick_f rfl rfl) rfl ?_
              refine H_done (by kernel_rfl) ?_
              refine C_cond rfl (fun hc5 => absurd hc5 (by rcases hY with h1 | h1 <;> simp_all)) (fun hc5 => ?_)
              refine C_skip ?_
              refine C_region ?_
              refine L_y rfl (y_move rfl) rfl ?_
              refine L_y rfl (y_add rfl rfl (wi64 (by omega) (by omega))) rfl ?_
              refine L_y rfl (y_assign rfl) rfl ?_
              refine L_nil ?_
              exact ⟨k + 1, by omega, by omega, ⟨rfl, rfl, rfl, rfl, rfl, trivial⟩, ((hsub (.cons_cons _ (.cons_cons _ (.cons_cons _ (.cons_cons _ (.refl _)))))).trans (hsub_pick [0, 0, 0, 0] rfl))⟩
            · skip
              refine H_skip 27 rfl (by kernel_rfl) (by kernel_rfl) (by kernel_rfl) (HSub.refl _) rfl rfl ?_
              refine H_skip 28 rfl (by kernel_rfl) (by kernel_rfl) (by kernel_rfl) (HSub.refl _) rfl rfl ?_
              refine H_skip 29 rfl (by kernel_rfl) (by kernel_rfl) (by kernel_rfl) (HSub.refl _) rfl rfl ?_
              refine H_skip 30 rfl (by kernel_rfl) (by kernel_rfl) (by kernel_rfl) (HSub.refl _) rfl rfl ?_
              refine H_skip 31 rfl (by kernel_rfl) (by kernel_rfl) (by kernel_rfl) (HSub.refl _) rfl rfl ?_
              refine H_skip 32 rfl (by kernel_rfl) (by kernel_rfl) (by kernel_rfl) (HSub.refl _) rfl rfl ?_
              refine H_skip 33 rfl (by kernel_rfl) (by kernel_rfl) (by kernel_rfl) (HSub.refl _) rfl rfl ?_
              refine H_skip 34 rfl (by kernel_rfl) (by kernel_rfl) (by kernel_rfl) (HSub.refl _) rfl rfl ?_
              refine H_y 35 rfl (by kernel_rfl) (by kernel_rfl) (by kernel_rfl) (HSub.refl _) rfl (y_pick_f rfl rfl) rfl ?_
              refine H_y 36 rfl (by kernel_rfl) (by kernel_rfl) (by kernel_rfl) (HSub.refl _) rfl (y_pick_f rfl rfl) rfl ?_
              refine H_done (by kernel_rfl) ?_
              refine C_cond_f rfl ?_
              refine C_skip ?_
              refine C_region ?_
              refine L_y rfl (y_move rfl) rfl ?_
              refine L_y rfl (y_add rfl rfl (wi64 (by omega) (by omega))) rfl ?_
              refine L_y rfl (y_assign rfl) rfl ?_
              refine L_nil ?_
              exact ⟨k + 1, by omega, by omega, ⟨rfl, rfl, rfl, rfl, rfl, trivial⟩, ((hsub (.cons_cons _ (.cons_cons _ (.cons_cons _ (.cons_cons _ (.refl _)))))).trans (hsub_pick [0, 0, 0, 0] rfl))⟩
        · replace hc4 := of_decide_eq_false hc4
          refine C_exit ?_
          refine C_seq ?_
          refine C_region ?_
          refine L_y rfl (y_move rfl) rfl ?_
          refine L_y rfl (y_lenV hgx rfl rfl Try.underlying40) rfl ?_
          refine L_y rfl (y_eqi rfl rfl) rfl ?_
          refine L_y rfl (y_assign rfl) rfl ?_
          refine L_nil ?_
          refine C_ret ?_
          refine B_ret (rv_tmp rfl rv_nil) (HSub.refl _) ?_
          first | rfl | exact ret_bool (by simp)
      · skip
        refine H_y 11 rfl (by kernel_rfl) (by kernel_rfl) (by kernel_rfl) (((hsub (.cons_cons _ (.cons _ (.cons _ (.cons _ (.cons _ (.refl _))))))).trans (hsub_pick [2] rfl))) rfl (y_move rfl) rfl ?_
        refine H_one 12 rfl (by kernel_rfl) rfl (op_call rfl rfl (fun a w => Try.call21 a w) rfl ?_)
        refine (FnS.sub (hsub_pick [0, 0] rfl) (mflush_b q1 q2 q3 hT3)).mono ?_
        rintro _ _ ⟨e4, D4, hT4, rfl⟩
        have hR2 : (mfl A3).2 = 13 ∧ Fp (mfl A3).1 d (d.set t (sec3 (UInt8.ofNat (i + 1)) (ll.getD i 0) 9)) ∨ (mfl A3).2 = 0 ∧ Fq (mfl A3).1 (d.set t (sec3 (UInt8.ofNat (i + 1)) (ll.getD i 0) 9)) := hR.elim (fun h1 => absurd hg17_11 (by rw [h1.1]; decide)) (fun h2 => h2.2)
        generalize (mfl A3).1 = A4 at hT4 hR2
        generalize (mfl A3).2 = E2 at e4 hR2
        obtain rfl := e4
        refine ⟨_, rfl, ?_⟩
        refine ⟨((hsub (.cons_cons _ (.cons _ (.cons _ (.cons _ (.cons _ (.refl _))))))).trans (hsub_pick [2] rfl)), ?_⟩
        refine H_y 13 rfl (by kernel_rfl) (by kernel_rfl) (by kernel_rfl) (((hsub (.cons_cons _ (.cons _ (.cons _ (.cons _ (.cons _ (.refl _))))))).trans (hsub_pick [2] rfl))) rfl (y_nei rfl rfl) rfl ?_
        refine H_y 14 rfl (by kernel_rfl) (by kernel_rfl) (by kernel_rfl) (((hsub (.cons_cons _ (.cons _ (.cons _ (.cons _ (.cons _ (.refl _))))))).trans (hsub_pick [2] rfl))) rfl (y_pick_f rfl rfl) rfl ?_
        refine H_done (by kernel_rfl) ?_
        refine C_cond rfl (fun hc3 => ?_) (fun hc3 => ?_)
        · have hP2 : Fp A4 d (d.set t (sec3 (UInt8.ofNat (i + 1)) (ll.getD i 0) 9)) := hR2.elim (fun h => h.2) (fun h => absurd hc3 (by rw [h.1]; decide))
          refine C_exit ?_
          refine C_seq ?_
          refine C_region ?_
          refine L_y rfl (y_move rfl) rfl ?_
          refine L_op rfl (op_call rfl rfl (fun a w => Try.call30 a w) rfl ?_)
          refine (FnS.sub (hsub_pick [1] rfl) (dump_d hT4 false)).mono ?_
          rintro _ _ ⟨gx, hgx, rfl, rfl⟩
          have hlx := (hP2).la
          have okx := (Two.oks hT4 false).1
          obtain ⟨Zx, hZx⟩ : ∃ Z, (Da.dev A4 false).S = Z := ⟨_, rfl⟩
          rw [hZx] at hgx okx ⊢
          replace hlx : Zx.length = 4 := by rw [← hZx]; exact hlx
          rw [hlx] at hgx ⊢
          have hfx := flat_len okx
          rw [hlx] at hfx
          cases gx with
          | none => exact slOk_none hgx (by decide)
          | some gx => ?_
          refine ⟨_, rfl, ?_⟩
          refine L_y rfl (y_move rfl) rfl ?_
          refine L_op rfl (op_call rfl rfl (fun a w => Try.call30 a w) rfl ?_)
          refine (FnS.sub (hsub_pick [1] rfl) (dump_d hT4 true)).mono ?_
          rintro _ _ ⟨gy, hgy, rfl, rfl⟩
          have hly := (hP2).lb
          have oky := (Two.oks hT4 true).1
          obtain ⟨Zy, hZy⟩ : ∃ Z, (Da.dev A4 true).S = Z := ⟨_, rfl⟩
          rw [hZy] at hgy oky ⊢
          replace hly : Zy.length = 4 := by rw [← hZy]; exact hly
          rw [hly] at hgy ⊢
          have hfy := flat_len oky
          rw [hly] at hfy
          cases gy with
          | none => exact slOk_none hgy (by decide)
          | some gy => ?_
          refine ⟨_, rfl, ?_⟩
          refine L_y rfl (y_assign rfl) rfl ?_
          refine L_y rfl (y_assign rfl) rfl ?_
          refine L_nil ?_
          refine C_seq ?_
          refine C_seq ?_
          refine C_region ?_
          refine L_y rfl (y_assign rfl) rfl ?_
          refine L_nil ?_
          refine C_block ?_
          refine C_loop (ι := Nat) (fun k => [(13, ptr dn), (14, ptr nw), (17, slV (some gx) 4), (18, slV (some gy) 4), (19, .int .i64 (k : Int))]) (fun k => slSeg 32 (some gx) (bs Zx.flatten) :: slSeg 32 (some gy) (bs Zy.flatten) :: [(dn, .cells (bs d.flatten).toArray 47)] :: [(nw, .cells (bs (d.set t (sec3 (UInt8.ofNat (i + 1)) (ll.getD i 0) 9)).flatten).toArray 47)] :: H) (fun k => k ≤ 4) (fun k => 4 - k) 0 (Nat.zero_le _) ⟨rfl, rfl, rfl, rfl, rfl, trivial⟩ ((hsub (.cons_cons _ (.cons_cons _ (.cons_cons _ (.cons_cons _ (.cons _ (.cons _ (.cons _ (.refl _))))))))).trans (hsub_pick [2, 0, 3, 3] rfl)) (fun k hk => ?_)
          have hX := (hP2).x k
          have hY := (hP2).y k
          rw [show (Da.a _).S = Zx from hZx] at hX
          rw [show (Da.b _).S = Zy from hZy] at hY
          have hnl : (d.set t (sec3 (UInt8.ofNat (i + 1)) (ll.getD i 0) 9)).length = 4 := by simp [hd4]
          refine C_seq ?_
          refine C_seq ?_
          refine C_region ?_
          refine L_y rfl (y_move rfl) rfl ?_
          refine L_y rfl (y_lss rfl rfl) rfl ?_
          refine L_nil ?_
          refine C_cond rfl (fun hc4 => ?_) (fun hc4 => ?_)
          · have hk4 : k < 4 := by have := of_decide_eq_true hc4; omega
            refine C_skip ?_
            refine C_seq ?_
            refine C_block ?_
            refine C_seq ?_
            refine C_regionH0 (by kernel_rfl) ?_
            refine H_y 0 rfl (by kernel_rfl) (by kernel_rfl) (by kernel_rfl) (HSub.refl _) rfl (y_move rfl) rfl ?_
            refine H_y 1 rfl (by kernel_rfl) (by kernel_rfl) (by kernel_rfl) (HSub.refl _) rfl (y_move rfl) rfl ?_
            refine H_y 2 rfl (by kernel_rfl) (by kernel_rfl) (by kernel_rfl) (HSub.refl _) rfl (y_indexS rfl rfl Try.underlying40 sz_32 (by omega) (by omega) (show _ = 0 + k * 128 from by simp)) rfl ?_
            refine H_y 3 rfl (by kernel_rfl) (by kernel_rfl) (by kernel_rfl) (HSub.refl _) rfl (y_loadA rfl ag_32 sz_32 (sees 0 0 rfl) (by rw [List.length_append, bs_length, hfx]; omega) (show ((bs Zx.flatten ++ _).drop (0 + k * 128)).take 128 = _ from sec_at (n := 0) okx (by simp) (want_get hlx hk4))) rfl ?_
            refine H_y 4 rfl (by kernel_rfl) (by kernel_rfl) (by kernel_rfl) (HSub.refl _) rfl (y_move rfl) rfl ?_
            refine H_y 5 rfl (by kernel_rfl) (by kernel_rfl) (by kernel_rfl) (HSub.refl _) rfl (y_indexA rfl rfl Try.underlying47 sz_32 (by omega) (by omega) (show _ = 0 + k * 128 from by simp)) rfl ?_
            refine H_y 6 rfl (by kernel_rfl) (by kernel_rfl) (by kernel_rfl) (HSub.refl _) rfl (y_loadA rfl ag_32 sz_32 (sees 2 0 rfl) (by rw [bs_length, flat_len hdo, hd4]; omega) (show ((bs d.flatten).drop (0 + k * 128)).take 128 = _ from sec_at (n := 0) hdo (by simp) (want_get hd4 hk4))) rfl ?_
            refine H_y 7 rfl (by kernel_rfl) (by kernel_rfl) (by kernel_rfl) (HSub.refl _) rfl (y_nea rfl rfl Try.underlying32 Try.underlying5 sz_5 eg_32 (want_len hlx hk4 okx) (want_len hd4 hk4 hdo)) rfl ?_
            refine H_y 8 rfl (by kernel_rfl) (by kernel_rfl) (by kernel_rfl) (HSub.refl _) rfl (y_move rfl) rfl ?_
            refine H_case 101 rfl (fun hg23_9 => ?_) (fun hg23_9 => ?_)
            · skip
              refine H_y 9 rfl (by kernel_rfl) (by kernel_rfl) (by kernel_rfl) (HSub.refl _) rfl (y_move rfl) rfl ?_
              refine H_y 10 rfl (by kernel_rfl) (by kernel_rfl) (by kernel_rfl) (HSub.refl _) rfl (y_indexA rfl rfl Try.underlying47 sz_32 (by omega) (by omega) (show _ = 0 + k * 128 from by simp)) rfl ?_
              refine H_y 11 rfl (by kernel_rfl) (by kernel_rfl) (by kernel_rfl) (HSub.refl _) rfl (y_loadA rfl ag_32 sz_32 (sees 3 0 rfl) (by rw [bs_length, flat_len (set_ok2 hdo (sec3_len _ _ _)), hnl]; omega) (show ((bs (d.set t (sec3 (UInt8.ofNat (i + 1)) (ll.getD i 0) 9)).flatten).drop (0 + k * 128)).take 128 = _ from sec_at (n := 0) (set_ok2 hdo (sec3_len _ _ _)) (by simp) (want_get hnl hk4))) rfl ?_
              refine H_y 12 rfl (by kernel_rfl) (by kernel_rfl) (by kernel_rfl) (HSub.refl _) rfl (y_move rfl) rfl ?_
              refine H_y 13 rfl (by kernel_rfl) (by kernel_rfl) (by kernel_rfl) (HSub.refl _) rfl (y_indexA rfl rfl Try.underlying47 sz_32 (by omega) (by omega) (show _ = 0 + k * 128 from by simp)) rfl ?_
              refine H_y 14 rfl (by kernel_rfl) (by kernel_rfl) (by kernel_rfl) (HSub.refl _) rfl (y_loadA rfl ag_32 sz_32 (sees 2 0 rfl) (by rw [bs_length, flat_len hdo, hd4]; omega) (show ((bs d.flatten).drop (0 + k * 128)).take 128 = _ from sec_at (n := 0) hdo (by simp) (want_get hd4 hk4))) rfl ?_
              refine H_y 15 rfl (by kernel_rfl) (by kernel_rfl) (by kernel_rfl) (HSub.refl _) rfl (y_eqa rfl rfl Try.underlying32 Try.underlying5 sz_5 eg_32 (want_len hnl hk4 (set_ok2 hdo (sec3_len _ _ _))) (want_len hd4 hk4 hdo)) rfl ?_
              refine H_y 16 rfl (by kernel_rfl) (by kernel_rfl) (by kernel_rfl) (HSub.refl _) rfl (y_pick_t rfl rfl) rfl ?_
              refine H_y 17 rfl (by kernel_rfl) (by kernel_rfl) (by kernel_rfl) (HSub.refl _) rfl (y_move rfl) rfl ?_
              refine H_case 110 rfl (fun hg23_18 => ?_) (fun hg23_18 => ?_)
              · exact absurd (hX (of_decide_eq_true hg23_18)) (by simpa using hg23_9)
              · skip
                refine H_y 18 rfl (by kernel_rfl) (by kernel_rfl) (by kernel_rfl) (HSub.refl _) rfl (y_move rfl) rfl ?_
                refine H_y 19 rfl (by kernel_rfl) (by kernel_rfl) (by kernel_rfl) (HSub.refl _) rfl (y_move rfl) rfl ?_
                refine H_y 20 rfl (by kernel_rfl) (by kernel_rfl) (by kernel_rfl) (HSub.refl _) rfl (y_indexS rfl rfl Try.underlying40 sz_32 (by omega) (by omega) (show _ = 0 + k * 128 from by simp)) rfl ?_
                refine H_y 21 rfl (by kernel_rfl) (by kernel_rfl) (by kernel_rfl) (HSub.refl _) rfl (y_loadA rfl ag_32 sz_32 (sees 1 0 rfl) (by rw [List.length_append, bs_length, hfy]; omega) (show ((bs Zy.flatten ++ _).drop (0 + k * 128)).take 128 = _ from sec_at (n := 0) oky (by simp) (want_get hly hk4))) rfl ?_
                refine H_y 22 rfl (by kernel_rfl) (by kernel_rfl) (by kernel_rfl) (HSub.refl _) rfl (y_move rfl) rfl ?_
                refine H_y 23 rfl (by kernel_rfl) (by kernel_rfl) (by kernel_rfl) (HSub.refl _) rfl (y_indexA rfl rfl Try.underlying47 sz_32 (by omega) (by omega) (show _ = 0 + k * 128 from by simp)) rfl ?_
                refine H_y 24 rfl (by kernel_rfl) (by kernel_rfl) (by kernel_rfl) (HSub.refl _) rfl (y_loadA rfl ag_32 sz_32 (sees 2 0 rfl) (by rw [bs_length, flat_len hdo, hd4]; omega) (show ((bs d.flatten).drop (0 + k * 128)).take 128 = _ from sec_at (n := 0) hdo (by simp) (want_get hd4 hk4))) rfl ?_
                refine H_y 25 rfl (by kernel_rfl) (by kernel_rfl) (by kernel_rfl) (HSub.refl _) rfl (y_nea rfl rfl Try.underlying32 Try.underlying5 sz_5 eg_32 (want_len hly hk4 oky) (want_len hd4 hk4 hdo)) rfl ?_
                refine H_y 26 rfl (by kernel_rfl) (by kernel_rfl) (by kernel_rfl) (HSub.refl _) rfl (y_move rfl) rfl ?_
                refine H_case 119 rfl (fun hg23_27 => ?_) (fun hg23_27 => ?_)
                · skip
                  refine H_y 27 rfl (by kernel_rfl) (by kernel_rfl) (by kernel_rfl) (HSub.refl _) rfl (y_move rfl) rfl ?_
                  refine H_y 28 rfl (by kernel_rfl) (by kernel_rfl) (by kernel_rfl) (HSub.refl _) rfl (y_move rfl) rfl ?_
                  refine H_y 29 rfl (by kernel_rfl) (by kernel_rfl) (by kernel_rfl) (HSub.refl _) rfl (y_indexS rfl rfl Try.underlying40 sz_32 (by omega) (by omega) (show _ = 0 + k * 128 from by simp)) rfl ?_
                  refine H_y 30 rfl (by kernel_rfl) (by kernel_rfl) (by kernel_rfl) (HSub.refl _) rfl (y_loadA rfl ag_32 sz_32 (sees 1 0 rfl) (by rw [List.length_append, bs_length, hfy]; omega) (show ((bs Zy.flatten ++ _).drop (0 + k * 128)).take 128 = _ from sec_at (n := 0) oky (by simp) (want_get hly hk4))) rfl ?_
                  refine H_y 31 rfl (by kernel_rfl) (by kernel_rfl) (by kernel_rfl) (HSub.refl _) rfl (y_move rfl) rfl ?_
                  refine H_y 32 rfl (by kernel_rfl) (by kernel_rfl) (by kernel_rfl) (HSub.refl _) rfl (y_indexA rfl rfl Try.underlying47 sz_32 (by omega) (by omega) (show _ = 0 + k * 128 from by simp)) rfl ?_
                  refine H_y 33 rfl (by kernel_rfl) (by kernel_rfl) (by kernel_rfl) (HSub.refl _) rfl (y_loadA rfl ag_32 sz_32 (sees 3 0 rfl) (by rw [bs_length, flat_len (set_ok2 hdo (sec3_len _ _ _)), hnl]; omega) (show ((bs (d.set t (sec3 (UInt8.ofNat (i + 1)) (ll.getD i 0) 9)).flatten).drop (0 + k * 128)).take 128 = _ from sec_at (n := 0) (set_ok2 hdo (sec3_len _ _ _)) (by simp) (want_get hnl hk4))) rfl ?_
                  refine H_y 34 rfl (by kernel_rfl) (by kernel_rfl) (by kernel_rfl) (HSub.refl _) rfl (y_nea rfl rfl Try.underlying32 Try.underlying5 sz_5 eg_32 (want_len hly hk4 oky) (want_len hnl hk4 (set_ok2 hdo (sec3_len _ _ _)))) rfl ?_
                  refine H_y 35 rfl (by kernel_rfl) (by kernel_rfl) (by kernel_rfl) (HSub.refl _) rfl (y_pick_t rfl rfl) rfl ?_
                  refine H_y 36 rfl (by kernel_rfl) (by kernel_rfl) (by kernel_rfl) (HSub.refl _) rfl (y_pick_f rfl rfl) rfl ?_
                  refine H_done (by kernel_rfl) ?_
                  refine C_cond rfl (fun hc5 => absurd hc5 (by rcases hY with h1 | h1 <;> simp_all)) (fun hc5 => ?_)
                  refine C_skip ?_
                  refine C_region ?_
                  refine L_y rfl (y_move rfl) rfl ?_
                  refine L_y rfl (y_add rfl rfl (wi64 (by omega) (by omega))) rfl ?_
                  refine L_y rfl (y_assign rfl) rfl ?_
                  refine L_nil ?_
                  exact ⟨k + 1, by omega, by omega, ⟨rfl, rfl, rfl, rfl, rfl, trivial⟩, ((hsub (.cons_cons _ (.cons_cons _ (.cons_cons _ (.cons_cons _ (.refl _)))))).trans (hsub_pick [0, 0, 0, 0] rfl))⟩
                · skip
                  refine H_skip 27 rfl (by kernel_rfl) (by kernel_rfl) (by kernel_rfl) (HSub.refl _) rfl rfl ?_
                  refine H_skip 28 rfl (by kernel_rfl) (by kernel_rfl) (by kernel_rfl) (HSub.refl _) rfl rfl ?_
                  refine H_skip 29 rfl (by kernel_rfl) (by kernel_rfl) (by kernel_rfl) (HSub.refl _) rfl rfl ?_
                  refine H_skip 30 rfl (by kernel_rfl) (by kernel_rfl) (by kernel_rfl) (HSub.refl _) rfl rfl ?_
                  refine H_skip 31 rfl (by kernel_rfl) (by kernel_rfl) (by kernel_rfl) (HSub.refl _) rfl rfl ?_
                  refine H_skip 32 rfl (by kernel_rfl) (by kernel_rfl) (by kernel_rfl) (HSub.refl _) rfl rfl ?_
                  refine H_skip 33 rfl (by kernel_rfl) (by kernel_rfl) (by kernel_rfl) (HSub.refl _) rfl rfl ?_
                  refine H_skip 34 rfl (by kernel_rfl) (by kernel_rfl) (by kernel_rfl) (HSub.refl _) rfl rfl ?_
                  refine H_y 35 rfl (by kernel_rfl) (by kernel_rfl) (by kernel_rfl) (HSub.refl _) rfl (y_pick_f rfl rfl) rfl ?_
                  refine H_y 36 rfl (by kernel_rfl) (by kernel_rfl) (by kernel_rfl) (HSub.refl _) rfl (y_pick_f rfl rfl) rfl ?_
                  refine H_done (by kernel_rfl) ?_
                  refine C_cond_f rfl ?_
                  refine C_skip ?_
                  refine C_region ?_
                  refine L_y rfl (y_move rfl) rfl ?_
                  refine L_y rfl (y_add rfl rfl (wi64 (by omega) (by omega))) rfl ?_
                  refine L_y rfl (y_assign rfl) rfl ?_
                  refine L_nil ?_
                  exact ⟨k + 1, by omega, by omega, ⟨rfl, rfl, rfl, rfl, rfl, trivial⟩, ((hsub (.cons_cons _ (.cons_cons _ (.cons_cons _ (.cons_cons _ (.refl _)))))).trans (hsub_pick [0, 0, 0, 0] rfl))⟩
            · skip
              refine H_skip 9 rfl (by kernel_rfl) (by kernel_rfl) (by kernel_rfl) (HSub.refl _) rfl rfl ?_
              refine H_skip 10 rfl (by kernel_rfl) (by kernel_rfl) (by kernel_rfl) (HSub.refl _) rfl rfl ?_
              refine H_skip 11 rfl (by kernel_rfl) (by kernel_rfl) (by kernel_rfl) (HSub.refl _) rfl rfl ?_
              refine H_skip 12 rfl (by kernel_rfl) (by kernel_rfl) (by kernel_rfl) (HSub.refl _) rfl rfl ?_
              refine H_skip 13 rfl (by kernel_rfl) (by kernel_rfl) (by kernel_rfl) (HSub.refl _) rfl rfl ?_
              refine H_skip 14 rfl (by kernel_rfl) (by kernel_rfl) (by kernel_rfl) (HSub.refl _) rfl rfl ?_
              refine H_skip 15 rfl (by kernel_rfl) (by kernel_rfl) (by kernel_rfl) (HSub.refl _) rfl rfl ?_
              refine H_y 16 rfl (by kernel_rfl) (by kernel_rfl) (by kernel_rfl) (HSub.refl _) rfl (y_pick_f rfl rfl) rfl ?_
              refine H_y 17 rfl (by kernel_rfl) (by kernel_rfl) (by kernel_rfl) (HSub.refl _) rfl (y_move rfl) rfl ?_
              refine H_y 18 rfl (by kernel_rfl) (by kernel_rfl) (by kernel_rfl) (HSub.refl _) rfl (y_move rfl) rfl ?_
              refine H_y 19 rfl (by kernel_rfl) (by kernel_rfl) (by kernel_rfl) (HSub.refl _) rfl (y_move rfl) rfl ?_
              refine H_y 20 rfl (by kernel_rfl) (by kernel_rfl) (by kernel_rfl) (HSub.refl _) rfl (y_indexS rfl rfl Try.underlying40 sz_32 (by omega) (by omega) (show _ = 0 + k * 128 from by simp)) rfl ?_
              refine H_y 21 rfl (by kernel_rfl) (by kernel_rfl) (by kernel_rfl) (HSub.refl _) rfl (y_loadA rfl ag_32 sz_32 (sees 1 0 rfl) (by rw [List.length_append, bs_length, hfy]; omega) (show ((bs Zy.flatten ++ _).drop (0 + k * 128)).take 128 = _ from sec_at (n := 0) oky (by simp) (want_get hly hk4))) rfl ?_
              refine H_y 22 rfl (by kernel_rfl) (by kernel_rfl) (by kernel_rfl) (HSub.refl _) rfl (y_move rfl) rfl ?_
              refine H_y 23 rfl (by kernel_rfl) (by kernel_rfl) (by kernel_rfl) (HSub.refl _) rfl (y_indexA rfl rfl Try.underlying47 sz_32 (by omega) (by omega) (show _ = 0 + k * 128 from by simp)) rfl ?_
              refine H_y 24 rfl (by kernel_rfl) (by kernel_rfl) (by kernel_rfl) (HSub.refl _) rfl (y_loadA rfl ag_32 sz_32 (sees 2 0 rfl) (by rw [bs_length, flat_len hdo, hd4]; omega) (show ((bs d.flatten).drop (0 + k * 128)).take 128 = _ from sec_at (n := 0) hdo (by simp) (want_get hd4 hk4))) rfl ?_
              refine H_y 25 rfl (by kernel_rfl) (by kernel_rfl) (by kernel_rfl) (HSub.refl _) rfl (y_nea rfl rfl Try.underlying32 Try.underlying5 sz_5 eg_32 (want_len hly hk4 oky) (want_len hd4 hk4 hdo)) rfl ?_
              refine H_y 26 rfl (by kernel_rfl) (by kernel_rfl) (by kernel_rfl) (HSub.refl _) rfl (y_move rfl) rfl ?_
              refine H_case 119 rfl (fun hg23_27 => ?_) (fun hg23_27 => ?_)
              · skip
                refine H_y 27 rfl (by kernel_rfl) (by kernel_rfl) (by kernel_rfl) (HSub.refl _) rfl (y_move rfl) rfl ?_
                refine H_y 28 rfl (by kernel_rfl) (by kernel_rfl) (by kernel_rfl) (HSub.refl _) rfl (y_move rfl) rfl ?_
                refine H_y 29 rfl (by kernel_rfl) (by kernel_rfl) (by kernel_rfl) (HSub.refl _) rfl (y_indexS rfl rfl Try.underlying40 sz_32 (by omega) (by omega) (show _ = 0 + k * 128 from by simp)) rfl ?_
                refine H_y 30 rfl (by kernel_rfl) (by kernel_rfl) (by kernel_rfl) (HSub.refl _) rfl (y_loadA rfl ag_32 sz_32 (sees 1 0 rfl) (by rw [List.length_append, bs_length, hfy]; omega) (show ((bs Zy.flatten ++ _).drop (0 + k * 128)).take 128 = _ from sec_at (n := 0) oky (by simp) (want_get hly hk4))) rfl ?_
                refine H_y 31 rfl (by kernel_rfl) (by kernel_rfl) (by kernel_rfl) (HSub.refl _) rfl (y_move rfl) rfl ?_
                refine H_y 32 rfl (by kernel_rfl) (by kernel_rfl) (by kernel_rfl) (HSub.refl _) rfl (y_indexA rfl rfl Try.underlying47 sz_32 (by omega) (by omega) (show _ = 0 + k * 128 from by simp)) rfl ?_
                refine H_y 33 rfl (by kernel_rfl) (by kernel_rfl) (by kernel_rfl) (HSub.refl _) rfl (y_loadA rfl ag_32 sz_32 (sees 3 0 rfl) (by rw [bs_length, flat_len (set_ok2 hdo (sec3_len _ _ _)), hnl]; omega) (show ((bs (d.set t (sec3 (UInt8.ofNat (i + 1)) (ll.getD i 0) 9)).flatten).drop (0 + k * 128)).take 128 = _ from sec_at (n := 0) (set_ok2 hdo (sec3_len _ _ _)) (by simp) (want_get hnl hk4))) rfl ?_
                refine H_y 34 rfl (by kernel_rfl) (by kernel_rfl) (by kernel_rfl) (HSub.refl _) rfl (y_nea rfl rfl Try.underlying32 Try.underlying5 sz_5 eg_32 (want_len hly hk4 oky) (want_len hnl hk4 (set_ok2 hdo (sec3_len _ _ _)))) rfl ?_
                refine H_y 35 rfl (by kernel_rfl) (by kernel_rfl) (by kernel_rfl) (HSub.refl _) rfl (y_pick_t rfl rfl) rfl ?_
                refine H_y 36 rfl (by kernel_rfl) (by kernel_rfl) (by kernel_rfl) (HSub.refl _) rfl (y_pick_f rfl rfl) rfl ?_
                refine H_done (by kernel_rfl) ?_
                refine C_cond rfl (fun hc5 => absurd hc5 (by rcases hY with h1 | h1 <;> simp_all)) (fun hc5 => ?_)
                refine C_skip ?_
                refine C_region ?_
                refine L_y rfl (y_move rfl) rfl ?_
                refine L_y rfl (y_add rfl rfl (wi64 (by omega) (by omega))) rfl ?_
                refine L_y rfl (y_assign rfl) rfl ?_
                refine L_nil ?_
                exact ⟨k + 1, by omega, by omega, ⟨rfl, rfl, rfl, rfl, rfl, trivial⟩, ((hsub (.cons_cons _ (.cons_cons _ (.cons_cons _ (.cons_cons _ (.refl _)))))).trans (hsub_pick [0, 0, 0, 0] rfl))⟩
              · skip
                refine H_skip 27 rfl (by kernel_rfl) (by kernel_rfl) (by kernel_rfl) (HSub.refl _) rfl rfl ?_
                refine H_skip 28 rfl (by kernel_rfl) (by kernel_rfl) (by kernel_rfl) (HSub.refl _) rfl rfl ?_
                refine H_skip 29 rfl (by kernel_rfl) (by kernel_rfl) (by kernel_rfl) (HSub.refl _) rfl rfl ?_
                refine H_skip 30 rfl (by kernel_rfl) (by kernel_rfl) (by kernel_rfl) (HSub.refl _) rfl rfl ?_
                refine H_skip 31 rfl (by kernel_rfl) (by kernel_rfl) (by kernel_rfl) (HSub.refl _) rfl rfl ?_
                refine H_skip 32 rfl (by kernel_rfl) (by kernel_rfl) (by kernel_rfl) (HSub.refl _) rfl rfl ?_
                refine H_skip 33 rfl (by kernel_rfl) (by kernel_rfl) (by kernel_rfl) (HSub.refl _) rfl rfl ?_
                refine H_skip 34 rfl (by kernel_rfl) (by kernel_rfl) (by kernel_rfl) (HSub.refl _) rfl rfl ?_
                refine H_y 35 rfl (by kernel_rfl) (by kernel_rfl) (by kernel_rfl) (HSub.refl _) rfl (y_pick_f rfl rfl) rfl ?_
                refine H_y 36 rfl (by kernel_rfl) (by kernel_rfl) (by kernel_rfl) (HSub.refl _) rfl (y_pick_f rfl rfl) rfl ?_
                refine H_done (by kernel_rfl) ?_
                refine C_cond_f rfl ?_
                refine C_skip ?_
                refine C_region ?_
                refine L_y rfl (y_move rfl) rfl ?_
                refine L_y rfl (y_add rfl rfl (wi64 (by omega) (by omega))) rfl ?_
                refine L_y rfl (y_assign rfl) rfl ?_
                refine L_nil ?_
                exact ⟨k + 1, by omega, by omega, ⟨rfl, rfl, rfl, rfl, rfl, trivial⟩, ((hsub (.cons_cons _ (.cons_cons _ (.cons_cons _ (.cons_cons _ (.refl _)))))).trans (hsub_pick [0, 0, 0, 0] rfl))⟩
          · replace hc4 := of_decide_eq_false hc4
            refine C_exit ?_
            refine C_seq ?_
            refine C_region ?_
            refine L_y rfl (y_move rfl) rfl ?_
            refine L_y rfl (y_lenV hgx rfl rfl Try.underlying40) rfl ?_
            refine L_y rfl (y_eqi rfl rfl) rfl ?_
            refine L_y rfl (y_assign rfl) rfl ?_
            refine L_nil ?_
            refine C_ret ?_
            refine B_ret (rv_tmp rfl rv_nil) (HSub.refl _) ?_
            first | rfl | exact ret_bool (by simp)
        · have hFq : Fq A4 (d.set t (sec3 (UInt8.ofNat (i + 1)) (ll.getD i 0) 9)) := hR2.elim (fun h => absurd hc3 (by rw [h.1]; decide)) (fun h => h.2)
          refine C_skip ?_
          refine C_region ?_
          refine L_y rfl (y_loadA rfl ag_47 sz_47 (sees 4 0 rfl) (by first | (rw [bs_length, flat_len (set_ok2 hdo (sec3_len _ _ _)), List.length_set, hd4]; done) | (rw [bs_length, flat_len (set_ok2 hdo (sec3_len _ _ _)), List.length_set, hd4]; decide)) (bs_whole0 _ (by first | (rw [flat_len (set_ok2 hdo (sec3_len _ _ _)), List.length_set, hd4]; done) | (rw [flat_len (set_ok2 hdo (sec3_len _ _ _)), List.length_set, hd4]; decide)))) rfl ?_
          refine L_op rfl (op_storeA 3 0 rfl rfl rfl sz_47 (by rw [bs_length, flat_len (set_ok2 hdo (sec3_len _ _ _)), List.length_set, hd4]) rfl (bs_one _) (by first | (rw [bs_length, flat_len (set_ok2 hdo (sec3_len _ _ _)), List.length_set, hd4]; done) | (rw [bs_length, flat_len (by assumption), hd4]; done) | simp) ?_)
          refine L_nil ?_
          refine C_region ?_
          refine L_y rfl (y_move rfl) rfl ?_
          refine L_y rfl (y_add rfl rfl (wi64 (by omega) (by omega))) rfl ?_
          refine L_y rfl (y_assign rfl) rfl ?_
          refine L_nil ?_
          exact ⟨(D4, _, m3, d.set t (sec3 (UInt8.ofNat (i + 1)) (ll.getD i 0) 9), i + 1), ⟨hT4, hFq, ⟨q1, q2, q3, q4⟩, set_ok2 hdo (sec3_len _ _ _), by simp only; omega⟩, by simp only; omega, ⟨rfl, rfl, rfl, rfl, rfl, rfl, rfl, trivial⟩, ((hsub (.cons_cons _ (.cons_cons _ (.cons_cons _ (.cons_cons _ (.cons _ (.refl _))))))).trans (hsub_pick [0, 0, 1, 1] rfl))⟩
    · replace hc2 := of_decide_eq_false hc2
      refine C_exit ?_
      refine C_seq ?_
      refine C_region ?_
      refine L_y rfl (y_move rfl) rfl ?_
      refine L_op rfl (op_call rfl rfl (fun a w => Try.call30 a w) rfl ?_)
      refine (FnS.sub (hsub_pick [1] rfl) (dump_d hT false)).mono ?_
      rintro _ _ ⟨gx, hgx, rfl, rfl⟩
      have hlx := (hF.post).la
      have okx := (Two.oks hT false).1
      obtain ⟨Zx, hZx⟩ : ∃ Z, (Da.dev A false).S = Z := ⟨_, rfl⟩
      rw [hZx] at hgx okx ⊢
      replace hlx : Zx.length = 4 := by rw [← hZx]; exact hlx
      rw [hlx] at hgx ⊢
      have hfx := flat_len okx
      rw [hlx] at hfx
      cases gx with
      | none => exact slOk_none hgx (by decide)
      | some gx => ?_
      refine ⟨_, rfl, ?_⟩
      refine L_y rfl (y_move rfl) rfl ?_
      refine L_op rfl (op_call rfl rfl (fun a w => Try.call30 a w) rfl ?_)
      refine (FnS.sub (hsub_pick [1] rfl) (dump_d hT true)).mono ?_
      rintro _ _ ⟨gy, hgy, rfl, rfl⟩
      have hly := (hF.post).lb
      have oky := (Two.oks hT true).1
      obtain ⟨Zy, hZy⟩ : ∃ Z, (Da.dev A true).S = Z := ⟨_, rfl⟩
      rw [hZy] at hgy oky ⊢
      replace hly : Zy.length = 4 := by rw [← hZy]; exact hly
      rw [hly] at hgy ⊢
      have hfy := flat_len oky
      rw [hly] at hfy
      cases gy with
      | none => exact slOk_none hgy (by decide)
      | some gy => ?_
      refine ⟨_, rfl, ?_⟩
      refine L_y rfl (y_assign rfl) rfl ?_
      refine L_y rfl (y_assign rfl) rfl ?_
      refine L_nil ?_
      refine C_seq ?_
      refine C_seq ?_
      refine C_region ?_
      refine L_y rfl (y_assign rfl) rfl ?_
      refine L_nil ?_
      refine C_block ?_
      refine C_loop (ι := Nat) (fun k => [(13, ptr dn), (14, ptr nw), (17, slV (some gx) 4), (18, slV (some gy) 4), (19, .int .i64 (k : Int))]) (fun k => slSeg 32 (some gx) (bs Zx.flatten) :: slSeg 32 (some gy) (bs Zy.flatten) :: [(dn, .cells (bs d.flatten).toArray 47)] :: [(nw, .cells (bs d.flatten).toArray 47)] :: H) (fun k => k ≤ 4) (fun k => 4 - k) 0 (Nat.zero_le _) ⟨rfl, rfl, rfl, rfl, rfl, trivial⟩ ((hsub (.cons_cons _ (.cons_cons _ (.cons_cons _ (.cons_cons _ (.cons _ (.cons _ (.refl _)))))))).trans (hsub_pick [2, 0, 2, 2] rfl)) (fun k hk => ?_)
      have hX := (hF.post).x k
      have hY := (hF.post).y k
      rw [show (Da.a _).S = Zx from hZx] at hX
      rw [show (Da.b _).S = Zy from hZy] at hY
      have hnl : d.length = 4 := by simp [hd4]
      refine C_seq ?_
      refine C_seq ?_
      refine C_region ?_
      refine L_y rfl (y_move rfl) rfl ?_
      refine L_y rfl (y_lss rfl rfl) rfl ?_
      refine L_nil ?_
      refine C_cond rfl (fun hc4 => ?_) (fun hc4 => ?_)
      · have hk4 : k < 4 := by have := of_decide_eq_true hc4; omega
        refine C_skip ?_
        refine C_seq ?_
        refine C_block ?_
        refine C_seq ?_
        refine C_regionH0 (by kernel_rfl) ?_
        refine H_y 0 rfl (by kernel_rfl) (by kernel_rfl) (by kernel_rfl) (HSub.refl _) rfl (y_move rfl) rfl ?_
        refine H_y 1 rfl (by kernel_rfl) (by kernel_rfl) (by kernel_rfl) (HSub.refl _) rfl (y_move rfl) rfl ?_
        refine H_y 2 rfl (by kernel_rfl) (by kernel_rfl) (by kernel_rfl) (HSub.refl _) rfl (y_indexS rfl rfl Try.underlying40 sz_32 (by omega) (by omega) (show _ = 0 + k * 128 from by simp)) rfl ?_
        refine H_y 3 rfl (by kernel_rfl) (by kernel_rfl) (by kernel_rfl) (HSub.refl _) rfl (y_loadA rfl ag_32 sz_32 (sees 0 0 rfl) (by rw [List.length_append, bs_length, hfx]; omega) (show ((bs Zx.flatten ++ _).drop (0 + k * 128)).take 128 = _ from sec_at (n := 0) okx (by simp) (want_get hlx hk4))) rfl ?_
        refine H_y 4 rfl (by kernel_rfl) (by kernel_rfl) (by kernel_rfl) (HSub.refl _) rfl (y_move rfl) rfl ?_
        refine H_y 5 rfl (by kernel_rfl) (by kernel_rfl) (by kernel_rfl) (HSub.refl _) rfl (y_indexA rfl rfl Try.underlying47 sz_32 (by omega) (by omega) (show _ = 0 + k * 128 from by simp)) rfl ?_
        refine H_y 6 rfl (by kernel_rfl) (by kernel_rfl) (by kernel_rfl) (HSub.refl _) rfl (y_loadA rfl ag_32 sz_32 (sees 2 0 rfl) (by rw [bs_length, flat_len hdo, hd4]; omega) (show ((bs d.flatten).drop (0 + k * 128)).take 128 = _ from sec_at (n := 0) hdo (by simp) (want_get hd4 hk4))) rfl ?_
        refine H_y 7 rfl (by kernel_rfl) (by kernel_rfl) (by kernel_rfl) (HSub.refl _) rfl (y_nea rfl rfl Try.underlying32 Try.underlying5 sz_5 eg_32 (want_len hlx hk4 okx) (want_len hd4 hk4 hdo)) rfl ?_
        refine H_y 8 rfl (by kernel_rfl) (by kernel_rfl) (by kernel_rfl) (HSub.refl _) rfl (y_move rfl) rfl ?_
        refine H_case 101 rfl (fun hg23_9 => ?_) (fun hg23_9 => ?_)
        · skip
          refine H_y 9 rfl (by kernel_rfl) (by kernel_rfl) (by kernel_rfl) (HSub.refl _) rfl (y_move rfl) rfl ?_
          refine H_y 10 rfl (by kernel_rfl) (by kernel_rfl) (by kernel_rfl) (HSub.refl _) rfl (y_indexA rfl rfl Try.underlying47 sz_32 (by omega) (by omega) (show _ = 0 + k * 128 from by simp)) rfl ?_
          refine H_y 11 rfl (by kernel_rfl) (by kernel_rfl) (by kernel_rfl) (HSub.refl _) rfl (y_loadA rfl ag_32 sz_32 (sees 3 0 rfl) (by rw [bs_length, flat_len hdo, hnl]; omega) (show ((bs d.flatten).drop (0 + k * 128)).take 128 = _ from sec_at (n := 0) hdo (by simp) (want_get hnl hk4))) rfl ?_
          refine H_y 12 rfl (by kernel_rfl) (by kernel_rfl) (by kernel_rfl) (HSub.refl _) rfl (y_move rfl) rfl ?_
          refine H_y 13 rfl (by kernel_rfl) (by kernel_rfl) (by kernel_rfl) (HSub.refl _) rfl (y_indexA rfl rfl Try.underlying47 sz_32 (by omega) (by omega) (show _ = 0 + k * 128 from by simp)) rfl ?_
          refine H_y 14 rfl (by kernel_rfl) (by kernel_rfl) (by kernel_rfl) (HSub.refl _) rfl (y_loadA rfl ag_32 sz_32 (sees 2 0 rfl) (by rw [bs_length, flat_len hdo, hd4]; omega) (show ((bs d.flatten).drop (0 + k * 128)).take 128 = _ from sec_at (n := 0) hdo (by simp) (want_get hd4 hk4))) rfl ?_
          refine H_y 15 rfl (by kernel_rfl) (by kernel_rfl) (by kernel_rfl) (HSub.refl _) rfl (y_eqa rfl rfl Try.underlying32 Try.underlying5 sz_5 eg_32 (want_len hnl hk4 hdo) (want_len hd4 hk4 hdo)) rfl ?_
          refine H_y 16 rfl (by kernel_rfl) (by kernel_rfl) (by kernel_rfl) (HSub.refl _) rfl (y_pick_t rfl rfl) rfl ?_
          refine H_y 17 rfl (by kernel_rfl) (by kernel_rfl) (by kernel_rfl) (HSub.refl _) rfl (y_move rfl) rfl ?_
          refine H_case 110 rfl (fun hg23_18 => ?_) (fun hg23_18 => ?_)
          · exact absurd (hX (of_decide_eq_true hg23_18)) (by simpa using hg23_9)
          · skip
            refine H_y 18 rfl (by kernel_rfl) (by kernel_rfl) (by kernel_rfl) (HSub.refl _) rfl (y_move rfl) rfl ?_
            refine H_y 19 rfl (by kernel_rfl) (by kernel_rfl) (by kernel_rfl) (HSub.refl _) rfl (y_move rfl) rfl ?_
            refine H_y 20 rfl (by kernel_rfl) (by kernel_rfl) (by kernel_rfl) (HSub.refl _) rfl (y_indexS rfl rfl Try.underlying40 sz_32 (by omega) (by omega) (show _ = 0 + k * 128 from by simp)) rfl ?_
            refine H_y 21 rfl (by kernel_rfl) (by kernel_rfl) (by kernel_rfl) (HSub.refl _) rfl (y_loadA rfl ag_32 sz_32 (sees 1 0 rfl) (by rw [List.length_append, bs_length, hfy]; omega) (show ((bs Zy.flatten ++ _).drop (0 + k * 128)).take 128 = _ from sec_at (n := 0) oky (by simp) (want_get hly hk4))) rfl ?_
            refine H_y 22 rfl (by kernel_rfl) (by kernel_rfl) (by kernel_rfl) (HSub.refl _) rfl (y_move rfl) rfl ?_
            refine H_y 23 rfl (by kernel_rfl) (by kernel_rfl) (by kernel_rfl) (HSub.refl _) rfl (y_indexA rfl rfl Try.underlying47 sz_32 (by omega) (by omega) (show _ = 0 + k * 128 from by simp)) rfl ?_
            refine H_y 24 rfl (by kernel_rfl) (by kernel_rfl) (by kernel_rfl) (HSub.refl _) rfl (y_loadA rfl ag_32 sz_32 (sees 2 0 rfl) (by rw [bs_length, flat_len hdo, hd4]; omega) (show ((bs d.flatten).drop (0 + k * 128)).take 128 = _ from sec_at (n := 0) hdo (by simp) (want_get hd4 hk4))) rfl ?_
            refine H_y 25 rfl (by kernel_rfl) (by kernel_rfl) (by kernel_rfl) (HSub.refl _) rfl (y_nea rfl rfl Try.underlying32 Try.underlying5 sz_5 eg_32 (want_len hly hk4 oky) (want_len hd4 hk4 hdo)) rfl ?_
            refine H_y 26 rfl (by kernel_rfl) (by kernel_rfl) (by kernel_rfl) (HSub.refl _) rfl (y_move rfl) rfl ?_
            refine H_case 119 rfl (fun hg23_27 => ?_) (fun hg23_27 => ?_)
            · skip
              refine H_y 27 rfl (by kernel_rfl) (by kernel_rfl) (by kernel_rfl) (HSub.refl _) rfl (y_move rfl) rfl ?_
              refine H_y 28 rfl (by kernel_rfl) (by kernel_rfl) (by kernel_rfl) (HSub.refl _) rfl (y_move rfl) rfl ?_
              refine H_y 29 rfl (by kernel_rfl) (by kernel_rfl) (by kernel_rfl) (HSub.refl _) rfl (y_indexS rfl rfl Try.underlying40 sz_32 (by omega) (by omega) (show _ = 0 + k * 128 from by simp)) rfl ?_
              refine H_y 30 rfl (by kernel_rfl) (by kernel_rfl) (by kernel_rfl) (HSub.refl _) rfl (y_loadA rfl ag_32 sz_32 (sees 1 0 rfl) (by rw [List.length_append, bs_length, hfy]; omega) (show ((bs Zy.flatten ++ _).drop (0 + k * 128)).take 128 = _ from sec_at (n := 0) oky (by simp) (want_get hly hk4))) rfl ?_
              refine H_y 31 rfl (by kernel_rfl) (by kernel_rfl) (by kernel_rfl) (HSub.refl _) rfl (y_move rfl) rfl ?_
              refine H_y 32 rfl (by kernel_rfl) (by kernel_rfl) (by kernel_rfl) (HSub.refl _) rfl (y_indexA rfl rfl Try.underlying47 sz_32 (by omega) (by omega) (show _ = 0 + k * 128 from by simp)) rfl ?_
              refine H_y 33 rfl (by kernel_rfl) (by kernel_rfl) (by kernel_rfl) (HSub.refl _) rfl (y_loadA rfl ag_32 sz_32 (sees 3 0 rfl) (by rw [bs_length, flat_len hdo, hnl]; omega) (show ((bs d.flatten).drop (0 + k * 128)).take 128 = _ from sec_at (n := 0) hdo (by simp) (want_get hnl hk4))) rfl ?_
              refine H_y 34 rfl (by kernel_rfl) (by kernel_rfl) (by kernel_rfl) (HSub.refl _) rfl (y_nea rfl rfl Try.underlying32 Try.underlying5 sz_5 eg_32 (want_len hly hk4 oky) (want_len hnl hk4 hdo)) rfl ?_
              refine H_y 35 rfl (by kernel_rfl) (by kernel_rfl) (by kernel_rfl) (HSub.refl _) rfl (y_pick_t rfl rfl) rfl ?_
              refine H_y 36 rfl (by kernel_rfl) (by kernel_rfl) (by kernel_rfl) (HSub.refl _) rfl (y_pick_f rfl rfl) rfl ?_
              refine H_done (by kernel_rfl) ?_
              refine C_cond rfl (fun hc5 => absurd hc5 (by rcases hY with h1 | h1 <;> simp_all)) (fun hc5 => ?_)
              refine C_skip ?_
              refine C_region ?_
              refine L_y rfl (y_move rfl) rfl ?_
              refine L_y rfl (y_add rfl rfl (wi64 (by omega) (by omega))) rfl ?_
              refine L_y rfl (y_assign rfl) rfl ?_
              refine L_nil ?_
              exact ⟨k + 1, by omega, by omega, ⟨rfl, rfl, rfl, rfl, rfl, trivial⟩, ((hsub (.cons_cons _ (.cons_cons _ (.cons_cons _ (.cons_cons _ (.refl _)))))).trans (hsub_pick [0, 0, 0, 0] rfl))⟩
            · skip
              refine H_skip 27 rfl (by kernel_rfl) (by kernel_rfl) (by kernel_rfl) (HSub.refl _) rfl rfl ?_
              refine H_skip 28 rfl (by kernel_rfl) (by kernel_rfl) (by kernel_rfl) (HSub.refl _) rfl rfl ?_
              refine H_skip 29 rfl (by kernel_rfl) (by kernel_rfl) (by kernel_rfl) (HSub.refl _) rfl rfl ?_
              refine H_skip 30 rfl (by kernel_rfl) (by kernel_rfl) (by kernel_rfl) (HSub.refl _) rfl rfl ?_
              refine H_skip 31 rfl (by kernel_rfl) (by kernel_rfl) (by kernel_rfl) (HSub.refl _) rfl rfl ?_
              refine H_skip 32 rfl (by kernel_rfl) (by kernel_rfl) (by kernel_rfl) (HSub.refl _) rfl rfl ?_
              refine H_skip 33 rfl (by kernel_rfl) (by kernel_rfl) (by kernel_rfl) (HSub.refl _) rfl rfl ?_
              refine H_skip 34 rfl (by kernel_rfl) (by kernel_rfl) (by kernel_rfl) (HSub.refl _) rfl rfl ?_
              refine H_y 35 rfl (by kernel_rfl) (by kernel_rfl) (by kernel_rfl) (HSub.refl _) rfl (y_pick_f rfl rfl) rfl ?_
              refine H_y 36 rfl (by kernel_rfl) (by kernel_rfl) (by kernel_rfl) (HSub.refl _) rfl (y_pick_f rfl rfl) rfl ?_
              refine H_done (by kernel_rfl) ?_
              refine C_cond_f rfl ?_
              refine C_skip ?_
              refine C_region ?_
              refine L_y rfl (y_move rfl) rfl ?_
              refine L_y rfl (y_add rfl rfl (wi64 (by omega) (by omega))) rfl ?_
              refine L_y rfl (y_assign rfl) rfl ?_
              refine L_nil ?_
              exact ⟨k + 1, by omega, by omega, ⟨rfl, rfl, rfl, rfl, rfl, trivial⟩, ((hsub (.cons_cons _ (.cons_cons _ (.cons_cons _ (.cons_cons _ (.refl _)))))).trans (hsub_pick [0, 0, 0, 0] rfl))⟩
        · skip
          refine H_skip 9 rfl (by kernel_rfl) (by kernel_rfl) (by kernel_rfl) (HSub.refl _) rfl rfl ?_
          refine H_skip 10 rfl (by kernel_rfl) (by kernel_rfl) (by kernel_rfl) (HSub.refl _) rfl rfl ?_
          refine H_skip 11 rfl (by kernel_rfl) (by kernel_rfl) (by kernel_rfl) (HSub.refl _) rfl rfl ?_
          refine H_skip 12 rfl (by kernel_rfl) (by kernel_rfl) (by kernel_rfl) (HSub.refl _) rfl rfl ?_
          refine H_skip 13 rfl (by kernel_rfl) (by kernel_rfl) (by kernel_rfl) (HSub.refl _) rfl rfl ?_
          refine H_skip 14 rfl (by kernel_rfl) (by kernel_rfl) (by kernel_rfl) (HSub.refl _) rfl rfl ?_
          refine H_skip 15 rfl (by kernel_rfl) (by kernel_rfl) (by kernel_rfl) (HSub.refl _) rfl rfl ?_
          refine H_y 16 rfl (by kernel_rfl) (by kernel_rfl) (by kernel_rfl) (HSub.refl _) rfl (y_pick_f rfl rfl) rfl ?_
          refine H_y 17 rfl (by kernel_rfl) (by kernel_rfl) (by kernel_rfl) (HSub.refl _) rfl (y_move rfl) rfl ?_
          refine H_y 18 rfl (by kernel_rfl) (by kernel_rfl) (by kernel_rfl) (HSub.refl _) rfl (y_move rfl) rfl ?_
          refine H_y 19 rfl (by kernel_rfl) (by kernel_rfl) (by kernel_rfl) (HSub.refl _) rfl (y_move rfl) rfl ?_
          refine H_y 20 rfl (by kernel_rfl) (by kernel_rfl) (by kernel_rfl) (HSub.refl _) rfl (y_indexS rfl rfl Try.underlying40 sz_32 (by omega) (by omega) (show _ = 0 + k * 128 from by simp)) rfl ?_
          refine H_y 21 rfl (by kernel_rfl) (by kernel_rfl) (by kernel_rfl) (HSub.refl _) rfl (y_loadA rfl ag_32 sz_32 (sees 1 0 rfl) (by rw [List.length_append, bs_length, hfy]; omega) (show ((bs Zy.flatten ++ _).drop (0 + k * 128)).take 128 = _ from sec_at (n := 0) oky (by simp) (want_get hly hk4))) rfl ?_
          refine H_y 22 rfl (by kernel_rfl) (by kernel_rfl) (by kernel_rfl) (HSub.refl _) rfl (y_move rfl) rfl ?_
          refine H_y 23 rfl (by kernel_rfl) (by kernel_rfl) (by kernel_rfl) (HSub.refl _) rfl (y_indexA rfl rfl Try.underlying47 sz_32 (by omega) (by omega) (show _ = 0 + k * 128 from by simp)) rfl ?_
          refine H_y 24 rfl (by kernel_rfl) (by kernel_rfl) (by kernel_rfl) (HSub.refl _) rfl (y_loadA rfl ag_32 sz_32 (sees 2 0 rfl) (by rw [bs_length, flat_len hdo, hd4]; omega) (show ((bs d.flatten).drop (0 + k * 128)).take 128 = _ from sec_at (n := 0) hdo (by simp) (want_get hd4 hk4))) rfl ?_
          refine H_y 25 rfl (by kernel_rfl) (by kernel_rfl) (by kernel_rfl) (HSub.refl _) rfl (y_nea rfl rfl Try.underlying32 Try.underlying5 sz_5 eg_32 (want_len hly hk4 oky) (want_len hd4 hk4 hdo)) rfl ?_
          refine H_y 26 rfl (by kernel_rfl) (by kernel_rfl) (by kernel_rfl) (HSub.refl _) rfl (y_move rfl) rfl ?_
          refine H_case 119 rfl (fun hg23_27 => ?_) (fun hg23_27 => ?_)
          · skip
            refine H_y 27 rfl (by kernel_rfl) (by kernel_rfl) (by kernel_rfl) (HSub.refl _) rfl (y_move rfl) rfl ?_
            refine H_y 28 rfl (by kernel_rfl) (by kernel_rfl) (by kernel_rfl) (HSub.refl _) rfl (y_move rfl) rfl ?_
            refine H_y 29 rfl (by kernel_rfl) (by kernel_rfl) (by kernel_rfl) (HSub.refl _) rfl (y_indexS rfl rfl Try.underlying40 sz_32 (by omega) (by omega) (show _ = 0 + k * 128 from by simp)) rfl ?_
            refine H_y 30 rfl (by kernel_rfl) (by kernel_rfl) (by kernel_rfl) (HSub.refl _) rfl (y_loadA rfl ag_32 sz_32 (sees 1 0 rfl) (by rw [List.length_append, bs_length, hfy]; omega) (show ((bs Zy.flatten ++ _).drop (0 + k * 128)).take 128 = _ from sec_at (n := 0) oky (by simp) (want_get hly hk4))) rfl ?_
            refine H_y 31 rfl (by kernel_rfl) (by kernel_rfl) (by kernel_rfl) (HSub.refl _) rfl (y_move rfl) rfl ?_
            refine H_y 32 rfl (by kernel_rfl) (by kernel_rfl) (by kernel_rfl) (HSub.refl _) rfl (y_indexA rfl rfl Try.underlying47 sz_32 (by omega) (by omega) (show _ = 0 + k * 128 from by simp)) rfl ?_
            refine H_y 33 rfl (by kernel_rfl) (by kernel_rfl) (by kernel_rfl) (HSub.refl _) rfl (y_loadA rfl ag_32 sz_32 (sees 3 0 rfl) (by rw [bs_length, flat_len hdo, hnl]; omega) (show ((bs d.flatten).drop (0 + k * 128)).take 128 = _ from sec_at (n := 0) hdo (by simp) (want_get hnl hk4))) rfl ?_
            refine H_y 34 rfl (by kernel_rfl) (by kernel_rfl) (by kernel_rfl) (HSub.refl _) rfl (y_nea rfl rfl Try.underlying32 Try.underlying5 sz_5 eg_32 (want_len hly hk4 oky) (want_len hnl hk4 hdo)) rfl ?_
            refine H_y 35 rfl (by kernel_rfl) (by kernel_rfl) (by kernel_rfl) (HSub.refl _) rfl (y_pick_t rfl rfl) rfl ?_
            refine H_y 36 rfl (by kernel_rfl) (by kernel_rfl) (by kernel_rfl) (HSub.refl _) rfl (y_pick_f rfl rfl) rfl ?_
            refine H_done (by kernel_rfl) ?_
            refine C_cond rfl (fun hc5 => absurd hc5 (by rcases hY with h1 | h1 <;> simp_all)) (fun hc5 => ?_)
            refine C_skip ?_
            refine C_region ?_
            refine L_y rfl (y_move rfl) rfl ?_
            refine L_y rfl (y_add rfl rfl (wi64 (by omega) (by omega))) rfl ?_
            refine L_y rfl (y_assign rfl) rfl ?_
            refine L_nil ?_
            exact ⟨k + 1, by omega, by omega, ⟨rfl, rfl, rfl, rfl, rfl, trivial⟩, ((hsub (.cons_cons _ (.cons_cons _ (.cons_cons _ (.cons_cons _ (.refl _)))))).trans (hsub_pick [0, 0, 0, 0] rfl))⟩
          · skip
            refine H_skip 27 rfl (by kernel_rfl) (by kernel_rfl) (by kernel_rfl) (HSub.refl _) rfl rfl ?_
            refine H_skip 28 rfl (by kernel_rfl) (by kernel_rfl) (by kernel_rfl) (HSub.refl _) rfl rfl ?_
            refine H_skip 29 rfl (by kernel_rfl) (by kernel_rfl) (by kernel_rfl) (HSub.refl _) rfl rfl ?_
            refine H_skip 30 rfl (by kernel_rfl) (by kernel_rfl) (by kernel_rfl) (HSub.refl _) rfl rfl ?_
            refine H_skip 31 rfl (by kernel_rfl) (by kernel_rfl) (by kernel_rfl) (HSub.refl _) rfl rfl ?_
            refine H_skip 32 rfl (by kernel_rfl) (by kernel_rfl) (by kernel_rfl) (HSub.refl _) rfl rfl ?_
            refine H_skip 33 rfl (by kernel_rfl) (by kernel_rfl) (by kernel_rfl) (HSub.refl _) rfl rfl ?_
            refine H_skip 34 rfl (by kernel_rfl) (by kernel_rfl) (by kernel_rfl) (HSub.refl _) rfl rfl ?_
            refine H_y 35 rfl (by kernel_rfl) (by kernel_rfl) (by kernel_rfl) (HSub.refl _) rfl (y_pick_f rfl rfl) rfl ?_
            refine H_y 36 rfl (by kernel_rfl) (by kernel_rfl) (by kernel_rfl) (HSub.refl _) rfl (y_pick_f rfl rfl) rfl ?_
            refine H_done (by kernel_rfl) ?_
            refine C_cond_f rfl ?_
            refine C_skip ?_
            refine C_region ?_
            refine L_y rfl (y_move rfl) rfl ?_
            refine L_y rfl (y_add rfl rfl (wi64 (by omega) (by omega))) rfl ?_
            refine L_y rfl (y_assign rfl) rfl ?_
            refine L_nil ?_
            exact ⟨k + 1, by omega, by omega, ⟨rfl, rfl, rfl, rfl, rfl, trivial⟩, ((hsub (.cons_cons _ (.cons_cons _ (.cons_cons _ (.cons_cons _ (.refl _)))))).trans (hsub_pick [0, 0, 0, 0] rfl))⟩
      · replace hc4 := of_decide_eq_false hc4
        refine C_exit ?_
        refine C_seq ?_
        refine C_region ?_
        refine L_y rfl (y_move rfl) rfl ?_
        refine L_y rfl (y_lenV hgx rfl rfl Try.underlying40) rfl ?_
        refine L_y rfl (y_eqi rfl rfl) rfl ?_
        refine L_y rfl (y_assign rfl) rfl ?_
        refine L_nil ?_
        refine C_ret ?_
        refine B_ret (rv_tmp rfl rv_nil) (HSub.refl _) ?_
        first | rfl | exact ret_bool (by simp)

end Go.Proofs.Ytjjiclgbdenkkaa

/- From a row's reading of a slice of bytes to what a walk asks (own work). -/
set_option linter.unusedVariables false
namespace Go.Sl
open Go.RowKit
end Go.Sl

/- What a row tells of its arguments, for flat types (integers, bools, structs and arrays of these) and slices of them (own work). -/
set_option linter.unusedVariables false
set_option linter.unusedSimpArgs false
namespace Go.Sl
open Go.RowKit
inductive Sc where
  | int (k : IntKind)
  | bool
def Sc.fit : Sc → Value → Prop
  | .int k, v => ∃ n, v = .int k n ∧ (Lit.int k n).wf = true
  | .bool, v => ∃ b, v = .bool b
/-- A row of cells fits a row of scalars. -/
def Fits : List Sc → List Value → Prop
  | [], [] => True
  | s :: ss, v :: vs => s.fit v ∧ Fits ss vs
  | _, _ => False
theorem Fits.length : ∀ {ss : List Sc} {vs : List Value}, Fits ss vs → vs.length = ss.length
  | [], [], _ => rfl
  | _ :: _, _ :: _, h => by simp [Fits.length h.2]
  | [], _ :: _, h => h.elim
  | _ :: _, [], h => h.elim
theorem Fits.append : ∀ {ss tt : List Sc} {vs us : List Value}, Fits ss vs → Fits tt us → Fits (ss ++ tt) (vs ++ us)
  | [], _, [], _, _, h => h
  | _ :: _, _, _ :: _, _, h, k => ⟨h.1, Fits.append h.2 k⟩
  | [], _, _ :: _, _, h, _ => h.elim
  | _ :: _, _, [], _, h, _ => h.elim
theorem Fits.cons_iff {s : Sc} {ss : List Sc} {vs : List Value} : Fits (s :: ss) vs ↔ ∃ v us, vs = v :: us ∧ s.fit v ∧ Fits ss us := by
  cases vs with
  | nil => simp [Fits]
  | cons v us =>
    refine ⟨fun h => ⟨v, us, rfl, h⟩, fun ⟨v', us', e, h⟩ => ?_⟩
    obtain ⟨rfl, rfl⟩ := List.cons.inj e
    exact h
theorem Fits.nil_iff {vs : List Value} : Fits [] vs ↔ vs = [] := by cases vs <;> simp [Fits]
theorem Fits.split : ∀ {ss tt : List Sc} {vs : List Value}, Fits (ss ++ tt) vs → ∃ a b, vs = a ++ b ∧ Fits ss a ∧ Fits tt b
  | [], _, vs, h => ⟨[], vs, rfl, trivial, h⟩
  | s :: ss, tt, vs, h => by
    obtain ⟨v, us, rfl, h1, h2⟩ := Fits.cons_iff.1 h
    obtain ⟨a, b, rfl, h3, h4⟩ := Fits.split (ss := ss) h2
    exact ⟨v :: a, b, rfl, ⟨h1, h3⟩, h4⟩
/-- A row of bytes. -/
theorem Fits.bytes : ∀ {n : Nat} {vs : List Value}, Fits (List.replicate n (.int .u8)) vs → ∃ u : List UInt8, vs = bs u ∧ u.length = n
  | 0, vs, h => ⟨[], by rw [Fits.nil_iff.1 h]; rfl, rfl⟩
  | n + 1, vs, h => by
    rw [List.replicate_succ] at h
    obtain ⟨v, us, rfl, ⟨m, rfl, hm⟩, h2⟩ := Fits.cons_iff.1 h
    obtain ⟨u, rfl, rfl⟩ := Fits.bytes h2
    have hb := bounds_u8 hm
    refine ⟨UInt8.ofNat m.toNat :: u, ?_, rfl⟩
    rw [u8_of_int (by omega) (by omega)]; rfl
def flatF (P : Program) (g : TypeId → Option (List Sc)) : List Field → Nat → Option (List Sc)
  | [], _ => some []
  | f :: fs, off => if f.offset = off then (g f.type).bind fun l => if P.cellsOf f.type = l.length then (flatF P g fs (off + l.length)).map (l ++ ·) else none else none
def flatT (P : Program) : Nat → TypeId → Option (List Sc)
  | 0, _ => none
  | d + 1, t => match P.underlying t with
    | some (.int k) => some [.int k]
    | some .bool => some [.bool]
    | some (.struct fs) => (flatF P (flatT P d) fs.toList 0).bind fun l => if P.cellsOf t = l.length then some l else none
    | some (.array n e) => (flatT P d e).bind fun l => if P.cellsOf e = l.length ∧ P.cellsOf t = n * l.length then some (List.replicate n l).flatten else none
    | _ => none
theorem flatF_fits {P : Program} {g : TypeId → Option (List Sc)} {cs : List Value} : ∀ {fs : List Field} {off : Nat} {sh : List Sc}, flatF P g fs off = some sh →
    (∀ f ∈ fs, ∀ l, g f.type = some l → Fits l ((cs.drop f.offset).take (P.cellsOf f.type))) → Fits sh ((cs.drop off).take sh.length)
  | [], off, sh, h, _ => by
    simp only [flatF, Option.some.injEq] at h
    subst h; simp [Fits]
  | f :: fs, off, sh, h, hf => by
    unfold flatF at h
    split at h
    · rename_i ho
      cases hg : g f.type with
      | none => simp [hg] at h
      | some l =>
        rw [hg] at h; simp only [Option.bind_some] at h
        split at h
        · rename_i hc
          cases hr : flatF P g fs (off + l.length) with
          | none => simp [hr] at h
          | some l2 =>
            simp only [hr, Option.map_some, Option.some.injEq] at h
            subst h
            have h1 := hf f (by simp) l hg
            have h2 := flatF_fits hr (fun f' hf' => hf f' (by simp [hf']))
            rw [ho, hc] at h1
            have h3 := Fits.append h1 h2
            rw [List.length_append, List.take_add, List.drop_drop]
            exact h3
        · cases h
    · cases h
section
variable {H : Type} {enc : TypeId × Value → H} {P : Program} {w : World} {base : Nat} {spare : Nat → Bool} {held : Bool}
theorem arr_fits {l : List Sc} : ∀ {n : Nat} {cs : List Value}, cs.length = n * l.length → (∀ i, i < n → Fits l ((cs.drop (i * l.length)).take l.length)) → Fits (List.replicate n l).flatten cs
  | 0, cs, h, _ => by simp at h; subst h; simp [Fits]
  | n + 1, cs, h, hi => by
    rw [Nat.add_mul, Nat.one_mul] at h
    have h0 := hi 0 (by omega)
    rw [Nat.zero_mul, List.drop_zero] at h0
    have h1 := arr_fits (l := l) (n := n) (cs := cs.drop l.length) (by simp; omega) (fun i hi' => by
      have := hi (i + 1) (by omega)
      rw [List.drop_drop, show l.length + i * l.length = (i + 1) * l.length from by rw [Nat.add_mul, Nat.one_mul, Nat.add_comm]]
      exact this)
    have h2 := Fits.append h0 h1
    rw [List.take_append_drop] at h2
    rw [List.replicate_succ, List.flatten_cons]
    exact h2
theorem flat_trod : ∀ {d : Nat} {t : TypeId} {sh : List Sc}, flatT P d t = some sh → ∀ {fuel : Nat} {cs : List Value} {x : DataW H × List MemPlace}, DataW.trod enc P w base spare held fuel t cs = some x → Fits sh cs
  | 0, _, _, h, _, _, _, _ => by simp [flatT] at h
  | d + 1, t, sh, h, fuel, cs, x, hx => by
    unfold flatT at h
    split at h
    · rename_i k hu
      obtain ⟨n, rfl, _, hw⟩ := DataW.trod_int hu hx
      simp only [Option.some.injEq] at h; subst h
      exact ⟨⟨n, rfl, hw⟩, trivial⟩
    · rename_i hu
      obtain ⟨b, rfl, _⟩ := DataW.trod_bool hu hx
      simp only [Option.some.injEq] at h; subst h
      exact ⟨⟨b, rfl⟩, trivial⟩
    · rename_i fs hu
      obtain ⟨xs, n, _, _, hl, hlen, hf⟩ := DataW.trod_struct hu hx
      cases hF : flatF P (flatT P d) fs.toList 0 with
      | none => simp [hF] at h
      | some l =>
        simp only [hF, Option.bind_some] at h
        split at h
        · rename_i hc
          simp only [Option.some.injEq] at h; subst h
          have := flatF_fits (cs := cs) hF (fun f hfm l' hl' => by
            obtain ⟨i, hi, rfl⟩ := List.getElem_of_mem hfm
            have h1 := hf i _ (by rw [← Array.getElem?_toList]; exact List.getElem?_eq_getElem hi)
            have h2 : i < xs.length := by rw [hlen]; simpa using hi
            rw [List.getElem?_eq_getElem h2] at h1
            exact flat_trod hl' h1)
          rw [List.drop_zero, List.take_of_length_le (by omega)] at this
          exact this
        · cases h
    · rename_i n e hu
      obtain ⟨xs, m, _, _, hl, hlen, hf⟩ := DataW.trod_array hu hx
      cases hF : flatT P d e with
      | none => simp [hF] at h
      | some l =>
        simp only [hF, Option.bind_some] at h
        split at h
        · rename_i hc
          simp only [Option.some.injEq] at h; subst h
          refine arr_fits (by rw [hl, hc.2]) (fun i hi => ?_)
          have h1 := hf i hi
          have h2 : i < xs.length := by omega
          rw [List.getElem?_eq_getElem h2, hc.1] at h1
          exact flat_trod hF h1
        · cases h
    · cases h
/-- What is told of a slice that came in. -/
def InS (w : World) (sh : List Sc) (a : Option Addr) (len cap : Nat) : Prop :=
  (a = none ∧ len = 0 ∧ cap = 0) ∨ ∃ (x : Addr), a = some x ∧ len ≤ cap ∧ cap ≤ maxLen ∧
    (0 < len → ∃ (b off : Nat) (l : List Value) (T : TypeId) (fr : Nat × Nat), x = ⟨b, off, none⟩ ∧ w.heap[b]? = some (.cells l.toArray T fr) ∧ off + len * sh.length ≤ l.length ∧
      ∀ i, i < len → Fits sh ((l.drop (off + i * sh.length)).take sh.length))
theorem cell_block {w : World} {b off : Nat} {spot : Option Nat} {v : Value} (h : w.cell? ⟨b, off, spot⟩ = some v) : spot = none ∧ ∃ (l : List Value) (T : TypeId) (fr : Nat × Nat), w.heap[b]? = some (.cells l.toArray T fr) := by
  have hs : spot = none := by
    unfold World.cell? at h
    cases spot with
    | none => rfl
    | some s => split at h <;> simp at h
  subst hs
  refine ⟨rfl, ?_⟩
  cases hb : w.heap[b]? with
  | none => simp [World.cell?, hb] at h
  | some o =>
    cases o with
    | cells c T fr => exact ⟨c.toList, T, fr, by simp⟩
    | _ => simp [World.cell?, hb] at h
theorem flat_slice {d : Nat} {t e : TypeId} {sh : List Sc} {a : Option Addr} {len cap : Nat} {D : DataW H} {ps : List MemPlace} (ht : P.underlying t = some (.slice e)) (h : flatT P d e = some sh) (hc : P.cellsOf e = sh.length) (hp : 0 < sh.length)
    (hT : DataW.Trod enc P w base (fun _ => true) held t (.slice a len cap) D ps) : InS w sh a len cap := by
  obtain ⟨fuel, hf⟩ := hT
  rcases Go.Deep.open_slice ht hf with ⟨hcs, _⟩ | ⟨x, len', cap', m, n, DD, Pl, hcs, _, hl, hm, hmm, _, hx⟩
  · simp [Value.cells] at hcs
    exact .inl hcs
  · simp [Value.cells] at hcs
    obtain ⟨rfl, rfl, rfl⟩ := hcs
    refine .inr ⟨x, rfl, hl, hm, fun hpos => ?_⟩
    simp only [if_true] at hmm
    subst hmm
    rw [hc] at hx
    obtain ⟨b, off, spot⟩ := x
    obtain ⟨cs1, f1, f2⟩ := hx 0 (by omega)
    obtain ⟨_, f3, f4⟩ := World.cells?_some f1
    have f5 := f4 0 hp
    rw [List.getElem?_eq_getElem (by omega), show (Addr.add (Addr.add ⟨b, off, spot⟩ (0 * sh.length)) 0) = ⟨b, off, spot⟩ from by simp [Addr.add]] at f5
    obtain ⟨rfl, l, T, fr, hb⟩ := cell_block f5
    have hcell : ∀ i, i < len → ∃ cs', cs'.length = sh.length ∧ Fits sh cs' ∧ ∀ j, j < sh.length → w.cell? ⟨b, off + (i * sh.length + j), none⟩ = cs'[j]? := fun i hi => by
      obtain ⟨cs', h1, h2⟩ := hx i (by omega)
      obtain ⟨_, h3, h4⟩ := World.cells?_some h1
      exact ⟨cs', h3, flat_trod h h2, fun j hj => by have := h4 j hj; rw [addr_add, addr_add] at this; simpa [Nat.add_assoc] using this⟩
    have hget : ∀ i, i < len → ∀ j, j < sh.length → ∃ v, l[off + (i * sh.length + j)]? = some v ∧ w.cell? ⟨b, off + (i * sh.length + j), none⟩ = some v := fun i hi j hj => by
      obtain ⟨cs', h1, h2, h3⟩ := hcell i hi
      have h4 := h3 j hj
      rw [List.getElem?_eq_getElem (by omega)] at h4
      refine ⟨_, ?_, h4⟩
      simpa [World.cell?, hb] using h4
    have hle : off + len * sh.length ≤ l.length := by
      obtain ⟨v, h1, _⟩ := hget (len - 1) (by omega) (sh.length - 1) (by omega)
      have h2 := (List.getElem?_eq_some_iff.1 h1).1
      have h3 : (len - 1) * sh.length + sh.length = len * sh.length := by
        rw [← Nat.succ_mul]; congr 1; omega
      omega
    refine ⟨b, off, l, T, fr, rfl, hb, hle, fun i hi => ?_⟩
    obtain ⟨cs', h1, h2, h3⟩ := hcell i hi
    have : (l.drop (off + i * sh.length)).take sh.length = cs' := by
      apply List.ext_getElem?
      intro j
      by_cases hj : j < sh.length
      · rw [List.getElem?_take_of_lt hj, List.getElem?_drop, ← h3 j hj]
        obtain ⟨v, k1, k2⟩ := hget i hi j hj
        rw [k2, Nat.add_assoc, k1]
      · have hc : i * sh.length + sh.length ≤ len * sh.length := by
          rw [← Nat.succ_mul]; exact Nat.mul_le_mul_right _ hi
        rw [List.getElem?_eq_none (by simp; omega), List.getElem?_eq_none (by omega)]
    rw [this]; exact h2
/-- The same, told as one row of elements. -/
theorem inS_rows {w : World} {sh : List Sc} {α : Type} {f : α → List Value} (hf : ∀ cs, Fits sh cs → ∃ x, cs = f x) : ∀ {len : Nat} {l : List Value} {off : Nat}, off + len * sh.length ≤ l.length →
    (∀ i, i < len → Fits sh ((l.drop (off + i * sh.length)).take sh.length)) → ∃ xs : List α, xs.length = len ∧ (l.drop off).take (len * sh.length) = (xs.map f).flatten
  | 0, l, off, _, _ => ⟨[], rfl, by simp⟩
  | len + 1, l, off, hl, h => by
    have h0 := h 0 (by omega)
    rw [Nat.zero_mul, Nat.add_zero] at h0
    obtain ⟨x, hx⟩ := hf _ h0
    rw [Nat.succ_mul] at hl
    obtain ⟨xs, h1, h2⟩ := inS_rows (w := w) hf (len := len) (l := l) (off := off + sh.length) (by omega) (fun i hi => by
      have := h (i + 1) (by omega)
      rw [Nat.succ_mul] at this
      rw [show off + sh.length + i * sh.length = off + (i * sh.length + sh.length) from by omega]
      exact this)
    refine ⟨x :: xs, by simp [h1], ?_⟩
    rw [Nat.succ_mul, Nat.add_comm (len * sh.length), List.take_add, List.drop_drop, hx, h2]
    rfl
end
end Go.Sl

/- Rows over bytes (own work). -/
set_option linter.unusedVariables false
namespace Go.Sl
open Go.RowKit
theorem in_byts {w : World} {a : Option Addr} {len cap : Nat} (h : InS w [.int .u8] a len cap) : ∃ u : List UInt8, len = u.length ∧ Holds w [] a (bs u) := by
  rcases h with ⟨rfl, rfl, rfl⟩ | ⟨x, rfl, h1, h2, h3⟩
  · exact ⟨[], rfl, fun hp => by simp [bs] at hp⟩
  · rcases Nat.eq_zero_or_pos len with rfl | hp
    · exact ⟨[], rfl, fun hp => by simp [bs] at hp⟩
    · obtain ⟨b, off, l, T, fr, rfl, hb, hl, hf⟩ := h3 hp
      have hone : ∀ cs, Fits [.int .u8] cs → ∃ x : UInt8, cs = (fun b => [u8 b]) x := fun cs hc => by
        obtain ⟨u, rfl, hu⟩ := Fits.bytes (n := 1) hc
        match u, hu with
        | [x], _ => exact ⟨x, rfl⟩
      obtain ⟨ds, hd, ht⟩ := inS_rows (w := w) (f := fun b : UInt8 => [u8 b]) hone hl hf
      have he : (ds.map fun b => [u8 b]).flatten = bs ds := by
        clear ht hd
        induction ds with
        | nil => rfl
        | cons x ds ih => rw [List.map_cons, List.flatten_cons, ih]; rfl
      rw [he] at ht
      refine ⟨ds, hd.symm, fun _ => ⟨b, off, l, T, fr, rfl, sees_old hb, ?_, ?_⟩⟩
      · rw [bs_length, hd]; simpa using hl
      · rw [bs_length, hd]; simpa using ht
end Go.Sl

