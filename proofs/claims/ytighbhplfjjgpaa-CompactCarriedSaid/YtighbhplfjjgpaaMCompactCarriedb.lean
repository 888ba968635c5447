/- Own work: texts Mi, Sb, Mv, Fa, DrW, DcW, DoW, DwW, DfW, DtW, DmW, SlR, DeW, DlW, DuW, Fb, MsW, MrW, put together. -/
import Derived.Test.YtighbhplfjjgpaaProg
import Derived.RangeFuncRecord
import Derived.RangeFuncSeq
import Derived.TacticsIn
import Derived.Test.YtighbhplfjjgpaaMCompactCarrieda
/- A mirror: what lies in memory, and the plain model (own work). -/
set_option linter.unusedVariables false
set_option linter.unusedSimpArgs false
namespace Go.Sl
section
variable {P : Program} {n : FN} {w0 : World} {Q : Post} {E E' : Env} {H H' HS : Hp} {K : Env → Hp → Prop}
variable {d : Option Nat} {ty t t2 : Nat} {ps : String} {af : Array Edge} {g : Option (Nat × Bool)} {x y c : Operand}
theorem op_weaken {o : Oper} (hs : HSub H' H) (h : OpW P n w0 Q o E H' K) : OpW P n w0 Q o E H K := fun a w ha hw next hn => h a w ha (hs w0 w hw) next hn
/-- An append to nothing. -/
theorem op_append0 {m e sz bt : Nat} {vs zl : List Value} {xv : Value} {t0 t1 : TypeId} (hx : ev E x = some (.slice none 0 0)) (hy : ev E y = some xv)
    (hsrc : Src P w0 H sz xv m vs) (hm : vs.length = m * sz) (hone : ∀ v ∈ vs, one v = true)
    (hu : P.underlying t0 = some (.slice e)) (hnx : notIntT P t1 = true) (hz : szT P e = some sz) (hb : byT P e = some bt) (hbp : 0 < bt)
    (hzl : zeroL P e = some zl) (hlz : zl.length = sz) (hbound : m * bt ≤ 140737488355328) (hd : dok d n = true)
    (k : ∀ g' : Option SlG, slOk sz g' m vs → K (put E d (slV g' m)) (slSeg e g' vs :: H)) :
    OpW P n w0 Q ⟨d, .call { callee := .builtin .append, args := [x, y].toArray, argTypes := #[t0, t1] }, ty, ps, af, g⟩ E H K := by
  refine op_weaken (H' := [] :: H) (hsub_flat rfl) ?_
  refine op_append (gs := none) (len := 0) (m := m) (xs := []) (vs := vs) 0 hx hy rfl ⟨by simp, rfl⟩ (hsrc.sub (HSub.drop _ _)) hm hone hu hnx hz hb hbp hzl hlz (by simpa using hbound) hd (fun g' hg' => ?_)
  rw [Nat.zero_add, List.nil_append] at hg' ⊢
  exact k g' hg'
end
structure Mi where
  b : Nat
  r0 : Nat
  r1 : Nat
  bx : Nat
  bys : Nat
  n : Nat
  gv : Value
  k0 : List (Int × Nat)
  c0 : Nat
  k1 : List (Int × Nat)
  c1 : Nat
abbrev Mi.cells (m : Mi) : List Value := [ptr m.bx, .map (some m.r0), ptr m.bys, .map (some m.r1), .int .i64 (m.n : Int), m.gv]
abbrev Mi.seg (t : Nat) (m : Mi) : List (Nat × Obj) := [(m.b, .cells m.cells.toArray t), (m.r0, mapO m.k0 m.c0), (m.r1, mapO m.k1 m.c1)]
def Mi.has (m : Mi) (n : Int) : Bool := decide (0 ≤ n) && decide (n < m.n)
/-- Is a device there? -/
def thr (A : Da) (i : Bool) : Bool := !(A.dev i).down (A.pow i)
theorem rE_thr (A : Da) (i : Bool) (n : Int) : decide (A.rE i n = 13) = !thr A i := by
  unfold Da.rE readE thr
  cases h : (A.dev i).down (A.pow i)
  · simp only [Bool.false_eq_true, if_false]
    split <;> simp
  · simp
theorem rE_neq (A : Da) (i : Bool) (n : Int) : (!decide (A.rE i n = 13)) = thr A i := by rw [rE_thr, Bool.not_not]
def pres (p q : Bool) : List Int := (if p then [0] else []) ++ (if q then [1] else [])
def intl (l : List Int) : List Value := l.map (Value.int .i64)
/-- A function that tells which sectors may stand where. -/
def GoodAt (P : Program) (w0 : World) (H : Hp) (gv : Value) (p : Int → Sec → Bool) : Prop :=
  (gv = .nilFunc ∧ p = fun _ _ => false) ∨ ∃ f cap, gv = .func (.func f) #[] (List.toArray cap) ∧ (∀ args w, (callFunc f args).run P w = .ok (.enter f args) w) ∧
    ∀ H' n s, HSub H H' → s.length = 128 → FnS P w0 f ([Value.int .i64 n, Value.agg (bs s).toArray] ++ cap).toArray H' (fun e H2 => e = .returned (.bool (p n s)) ∧ H2 = H')
theorem GoodAt.sub {P : Program} {w0 : World} {H H' : Hp} {gv : Value} {p : Int → Sec → Bool} (h : GoodAt P w0 H gv p) (hs : HSub H H') : GoodAt P w0 H' gv p := by
  rcases h with h | ⟨f, cap, h1, h2, h3⟩
  · exact .inl h
  · exact .inr ⟨f, cap, h1, h2, fun H2 n s hs2 hl => h3 H2 n s (hs.trans hs2) hl⟩
/-- Does the side i tell what stands at n? -/
def okAt (A : Da) (i : Bool) (ks : List (Int × Nat)) (p : Int → Sec → Bool) (n : Int) : Bool := decide (A.rE i n = 0) && !kHas ks n && p n (A.rS i n)
def mrE (m : Mi) (A : Da) (p : Int → Sec → Bool) (n : Int) : Int :=
  if m.has n then (if thr A false || thr A true then (if thr A false && okAt A false m.k0 p n then 0 else if thr A true && okAt A true m.k1 p n then 0 else 9) else 13) else 2
def mrS (m : Mi) (A : Da) (p : Int → Sec → Bool) (n : Int) : Sec :=
  if m.has n then (if thr A false && okAt A false m.k0 p n then A.rS false n else if thr A true && okAt A true m.k1 p n then A.rS true n else secOf 0) else secOf 0
theorem rS_len {A : Da} (i : Bool) {n : Int} (h : ∀ i, (A.dev i).ok) : (A.rS i n).length = 128 := readS_len (h i)
theorem Two.oks {t : DT} {D : Duo} {A : Da} {bx bys bp : Nat} (h : Two t D A bx bys bp) (i : Bool) : (A.dev i).ok := (h.aok i).1
/-! ### Writes to both -/
def pd (A : Da) (i : Bool) (ask : Da → Bool → Bool) (n : Int) : Bool := thr A i && (!ask A i || decide (A.wE i n = 0))
def pA (A : Da) (i : Bool) (ask : Da → Bool → Bool) (n : Int) (s : Sec) : Da := if thr A i && ask A i then A.write i n s else A
def putA (A : Da) (ask : Da → Bool → Bool) (n : Int) (s : Sec) : Da := pA (pA A false ask n s) true ask n s
def putD (A : Da) (ask : Da → Bool → Bool) (n : Int) (s : Sec) : Bool → Bool
  | false => pd A false ask n
  | true => pd (pA A false ask n s) true ask n
def Mi.mark (m : Mi) (n : Int) (x y : Bool) : Mi := { m with
  k0 := if x then kDel m.k0 n else kPut m.k0 m.c0 n, c0 := if x then m.c0 else kClk m.k0 m.c0 n
  k1 := if y then kDel m.k1 n else kPut m.k1 m.c1 n, c1 := if y then m.c1 else kClk m.k1 m.c1 n }
def putm (m : Mi) (A : Da) (ask : Da → Bool → Bool) (n : Int) (s : Sec) : Mi := if m.has n && (putD A ask n s false || putD A ask n s true) then m.mark n (putD A ask n s false) (putD A ask n s true) else m
def putE (m : Mi) (A : Da) (ask : Da → Bool → Bool) (n : Int) (s : Sec) : Int := if m.has n then (if putD A ask n s false || putD A ask n s true then 0 else 13) else 2
def putDa (m : Mi) (A : Da) (ask : Da → Bool → Bool) (n : Int) (s : Sec) : Da := if m.has n then putA A ask n s else A
/-- A function that tells whether a side is asked for it. -/
def AskAt (P : Program) (t : DT) (tm : Nat) (w0 : World) (H : Hp) (m : Mi) (bp : Nat) (fa : Nat) (cap : List Value) (ask : Da → Bool → Bool) : Prop :=
  (∀ args w, (callFunc fa args).run P w = .ok (.enter fa args) w) ∧ ∀ (i : Bool) D A X, Two t D A m.bx m.bys bp → HSub H X →
    FnS P w0 fa ([Value.pointer (some ⟨m.b, if i then 2 else 0, none⟩)] ++ cap).toArray (m.seg tm :: D.seg t :: X) (fun e H2 => e = .returned (.bool (ask A i)) ∧ H2 = m.seg tm :: D.seg t :: X)
theorem AskAt.sub {P : Program} {t : DT} {tm : Nat} {w0 : World} {H H' : Hp} {m : Mi} {bp fa : Nat} {cap : List Value} {ask : Da → Bool → Bool} (h : AskAt P t tm w0 H m bp fa cap ask) (hs : HSub H H') : AskAt P t tm w0 H' m bp fa cap ask :=
  ⟨h.1, fun i D A X h1 h2 => h.2 i D A X h1 (hs.trans h2)⟩
def askAll : Da → Bool → Bool := fun _ _ => true
def askNew (n : Int) (s : Sec) : Da → Bool → Bool := fun A i => !decide (A.rE i n = 0) || !decide (A.rS i n = s)
/-! ### A flush of both -/
def fl1 (q : Da × Int) (i : Bool) : Da × Int := (q.1.flush i, if q.1.fE i = 0 then q.2 else 13)
def mfl (A : Da) : Da × Int :=
  if thr A false then (if thr A true then fl1 (fl1 (A, 0) false) true else fl1 (A, 0) false) else (if thr A true then fl1 (A, 0) true else (A, 13))
/-! ### Heal -/
def hg0 (m : Mi) (A : Da) (p : Int → Sec → Bool) (n : Int) : Bool := !kHas m.k0 n && p n (A.rS false n)
def hg1 (m : Mi) (A : Da) (p : Int → Sec → Bool) (n : Int) : Bool := !kHas m.k1 n && p n (A.rS true n)
/-- What is done: none, or a write to a side. -/
def healTo (m : Mi) (A : Da) (p : Int → Sec → Bool) (n : Int) : Option Bool :=
  if m.has n && (thr A false && thr A true) then
    (if hg0 m A p n then (if hg1 m A p n && decide (A.rS false n = A.rS true n) then none else some true) else if hg1 m A p n then some false else none)
  else none
def healR (m : Mi) (A : Da) (p : Int → Sec → Bool) (n : Int) : Int × Int :=
  if m.has n then (if thr A false && thr A true then
    (if hg0 m A p n then (if hg1 m A p n && decide (A.rS false n = A.rS true n) then (0, 0) else (1, 0)) else if hg1 m A p n then (1, 0) else (2, 0))
  else (0, 13)) else (0, 2)
def healA (m : Mi) (A : Da) (p : Int → Sec → Bool) (n : Int) : Da := match healTo m A p n with
  | none => A
  | some i => A.write i n (A.rS (!i) n)
def healM (m : Mi) (A : Da) (p : Int → Sec → Bool) (n : Int) : Mi := match healTo m A p n with
  | none => m
  | some i => if A.wE i n = 0 then (if i then { m with k1 := kDel m.k1 n } else { m with k0 := kDel m.k0 n }) else m
/-! ### Both -/
def bothS (m : Mi) (A : Da) (p : Int → Sec → Bool) (n : Int) : List Sec :=
  if m.has n then (if thr A false && (decide (A.rE false n = 0) && p n (A.rS false n)) then [A.rS false n] else []) ++ (if thr A true && (decide (A.rE true n = 0) && p n (A.rS true n)) then [A.rS true n] else []) else []
/-! ### A new mirror -/
theorem y_minN {P : Program} {n : FN} {E : Env} {W : World → Prop} {x y : Operand} {ty : Nat} {a b : Nat} {tys : Array TypeId} (hx : ev E x = some (.int .i64 (a : Int))) (hy : ev E y = some (.int .i64 (b : Int))) :
    YV P n E W (.call { callee := .builtin .min, args := [x, y].toArray, argTypes := tys }) ty (.int .i64 ((min a b : Nat) : Int)) := by
  have h := y_min (P := P) (n := n) (W := W) (ty := ty) (tys := tys) hx hy
  rwa [show min (a : Int) (b : Int) = ((min a b : Nat) : Int) from by omega] at h
/-- What is stale of a side of which so many places were looked at. -/
def stN (j : Nat) : List (Int × Nat) := (List.range j).map fun (i : Nat) => ((i : Int), i)
theorem stN_has (j : Nat) (k : Int) : kHas (stN j) k = (decide (0 ≤ k) && decide (k < j)) := by
  unfold kHas stN
  rw [List.any_map]
  by_cases h : 0 ≤ k ∧ k < j
  · have : ((List.range j).any ((fun x : Int × Nat => x.1 == k) ∘ fun i : Nat => ((i : Int), i))) = true := by
      rw [List.any_eq_true]
      exact ⟨k.toNat, List.mem_range.2 (by omega), by simp; omega⟩
    rw [this]; simp; omega
  · have : ((List.range j).any ((fun x : Int × Nat => x.1 == k) ∘ fun i : Nat => ((i : Int), i))) = false := by
      rw [List.any_eq_false]
      intro x hx
      have := List.mem_range.1 hx
      simp; omega
    rw [this]; simp; omega
theorem stN_put (j : Nat) : kPut (stN j) j (j : Int) = stN (j + 1) ∧ kClk (stN j) j (j : Int) = j + 1 := by
  have h : kHas (stN j) (j : Int) = false := by rw [stN_has]; simp
  exact ⟨by rw [kPut, h]; simp [stN, List.range_succ], by rw [kClk, h]; simp⟩
def stale0 (t : Bool) (n : Nat) : List (Int × Nat) := if t then [] else stN n
def mnew (A : Da) (bx bys : Nat) (gv : Value) (b r0 r1 : Nat) : Mi :=
  ⟨b, r0, r1, bx, bys, min A.a.S.length A.b.S.length, gv, stale0 (thr A false) (min A.a.S.length A.b.S.length), (if thr A false then 0 else min A.a.S.length A.b.S.length), stale0 (thr A true) (min A.a.S.length A.b.S.length), (if thr A true then 0 else min A.a.S.length A.b.S.length)⟩
end Go.Sl

/- Scrubbing a mirror: the plain model (own work). -/
set_option linter.unusedVariables false
set_option linter.unusedSimpArgs false
namespace Go.Sl
/-- The little rule of the laws. -/
def goodP (n : Int) (s : Sec) : Bool := !decide ((IntKind.i64.wrap (((s.getD 0 0).toNat : Int) + ((s.getD 1 0).toNat : Int) + n)).tmod 4 = 3)
abbrev Rp := Int × Int × Int
def cnt (r : Rp) (h : Int × Int) : Rp := if h.2 = 0 then (if h.1 = 0 then (r.1 + 1, r.2.1, r.2.2) else if h.1 = 1 then (r.1, r.2.1 + 1, r.2.2) else if h.1 = 2 then (r.1, r.2.1, r.2.2 + 1) else r) else r
abbrev wcells (mb : Nat) (nx : Int) (r : Rp) : List Value := [ptr mb, .int .i64 nx, .int .i64 r.1, .int .i64 r.2.1, .int .i64 r.2.2]
/-- What is there behind so many steps. -/
def scr (m : Mi) (A : Da) (p : Int → Sec → Bool) : Nat → Da × Mi × Rp
  | 0 => (A, m, (0, 0, 0))
  | k + 1 => let q := scr m A p k
    (healA q.2.1 q.1 p k, healM q.2.1 q.1 p k, cnt q.2.2 (healR q.2.1 q.1 p k))
theorem healM_same (m : Mi) (A : Da) (p : Int → Sec → Bool) (n : Int) : (healM m A p n).b = m.b ∧ (healM m A p n).bx = m.bx ∧ (healM m A p n).bys = m.bys ∧ (healM m A p n).n = m.n ∧ (healM m A p n).gv = m.gv := by
  unfold healM
  split
  · exact ⟨rfl, rfl, rfl, rfl, rfl⟩
  · split
    · split <;> exact ⟨rfl, rfl, rfl, rfl, rfl⟩
    · exact ⟨rfl, rfl, rfl, rfl, rfl⟩
theorem scr_same (m : Mi) (A : Da) (p : Int → Sec → Bool) : ∀ k, (scr m A p k).2.1.b = m.b ∧ (scr m A p k).2.1.bx = m.bx ∧ (scr m A p k).2.1.bys = m.bys ∧ (scr m A p k).2.1.n = m.n ∧ (scr m A p k).2.1.gv = m.gv
  | 0 => ⟨rfl, rfl, rfl, rfl, rfl⟩
  | k + 1 => by
    obtain ⟨h1, h2, h3, h4, h5⟩ := scr_same m A p k
    obtain ⟨g1, g2, g3, g4, g5⟩ := healM_same (scr m A p k).2.1 (scr m A p k).1 p k
    exact ⟨g1.trans h1, g2.trans h2, g3.trans h3, g4.trans h4, g5.trans h5⟩
/-! ### Two devices that are there, and don't lie, while power doesn't fail: what is read of each -/
structure Vw (A : Da) (K : Nat) (X Y : List Sec) (k0 k1 : Nat) : Prop where
  calm : A.calm
  a : RdW K X A.a k0
  b : RdW K Y A.b k1
abbrev pick2 {α : Type} (i : Bool) (x y : α) : α := if i then y else x
theorem Vw.dev {A : Da} {K : Nat} {X Y : List Sec} {k0 k1 : Nat} (h : Vw A K X Y k0 k1) (i : Bool) : RdW K (pick2 i X Y) (A.dev i) (pick2 i k0 k1) := by
  cases i
  · exact h.a
  · exact h.b
theorem Vw.new {K : Nat} (h : K ≤ 4096) (q : Option Pa) (hq : q = none ∨ q = some q0) : Vw ⟨Ab.new K, Ab.new K, q0, q⟩ K (List.replicate K (secOf 0)) (List.replicate K (secOf 0)) 0 0 :=
  ⟨⟨rfl, rfl, fun x hx => by rcases hq with rfl | rfl <;> simp at hx; subst hx; exact ⟨rfl, rfl⟩⟩, RdW.new h, RdW.new h⟩
theorem Vw.thr {A : Da} {K : Nat} {X Y : List Sec} {k0 k1 : Nat} (h : Vw A K X Y k0 k1) (i : Bool) : thr A i = true := by
  unfold Sl.thr Ab.down
  rw [(h.dev i).out, (Da.calm_pow h.calm i).1]
  rfl
theorem Vw.reads {A : Da} {K : Nat} {X Y : List Sec} {k0 k1 n : Nat} {s : Sec} (h : Vw A K X Y k0 k1) (i : Bool) (hs : (pick2 i X Y)[n]? = some s) : A.rS i (n : Int) = s ∧ A.rE i (n : Int) = 0 := by
  have hd := h.dev i
  have hk : n < K := by rw [← hd.wlen]; exact (List.getElem?_eq_some_iff.1 hs).1
  obtain ⟨h1, h2⟩ := Da.read_calm h.calm i (n : Int)
  have hh : (A.dev i).has (n : Int) = true := by rw [hd.has]; simp; omega
  rw [h1, h2, hd.out, hh]
  exact ⟨by simpa using hd.read n s hs, rfl⟩
theorem Da.write_calm2 {A : Da} (h : A.calm) (i : Bool) (n : Int) (s : Sec) : (A.write i n s).calm := by
  rw [(Da.write_calm h i n s).1]
  split
  · exact Da.calm_setd h i _
  · exact h
theorem Vw.write {A : Da} {K : Nat} {X Y : List Sec} {k0 k1 n : Nat} {s : Sec} (h : Vw A K X Y k0 k1) (i : Bool) (hn : n < K) (hs : s.length = 128) :
    A.wE i (n : Int) = 0 ∧ Vw (A.write i (n : Int) s) K (if i then X else X.set n s) (if i then Y.set n s else Y) (if i then k0 else k0 + 1) (if i then k1 + 1 else k1) := by
  have hd := h.dev i
  obtain ⟨h1, h2⟩ := Da.write_calm h.calm i (n : Int) s
  have hh : (A.dev i).has (n : Int) = true := by rw [hd.has]; simp; omega
  rw [hd.out, hh] at h1 h2
  refine ⟨by simpa using h2, ?_⟩
  have hw : A.write i (n : Int) s = A.setd i ((A.dev i).push n s) := by simpa using h1
  have hc := Da.write_calm2 h.calm i (n : Int) s
  rw [hw] at hc ⊢
  cases i
  · exact ⟨hc, h.a.write hn hs, h.b⟩
  · exact ⟨hc, h.a, h.b.write hn hs⟩
theorem Vw.flush {A : Da} {K : Nat} {X Y : List Sec} {k0 k1 : Nat} (h : Vw A K X Y k0 k1) (i : Bool) : A.fE i = 0 ∧ Vw (A.flush i) K X Y (if i then k0 else 0) (if i then 0 else k1) := by
  have hd := h.dev i
  obtain ⟨h1, h2⟩ := Da.flush_calm h.calm i
  rw [hd.out] at h1 h2
  refine ⟨by simpa using h2, ?_⟩
  have hw : A.flush i = A.setd i (A.dev i).flush := by simpa using h1
  have hc := Da.calm_setd h.calm i (A.dev i).flush
  rw [hw]
  cases i
  · exact ⟨hc, h.a.flush, h.b⟩
  · exact ⟨hc, h.a, h.b.flush⟩
theorem Vw.mono {A : Da} {K : Nat} {X Y : List Sec} {k0 k1 j0 j1 : Nat} (h : Vw A K X Y k0 k1) (h0 : k0 ≤ j0) (h1 : k1 ≤ j1) : Vw A K X Y j0 j1 := ⟨h.calm, h.a.mono h0, h.b.mono h1⟩
/-! ### What a scrub makes of them -/
def hX (p : Int → Sec → Bool) (n : Nat) (a b : Sec) : Sec := if p n a then a else if p n b then b else a
def hY (p : Int → Sec → Bool) (n : Nat) (a b : Sec) : Sec := if p n a then a else b
def hC (p : Int → Sec → Bool) (n : Nat) (a b : Sec) : Int := if p n a then (if p n b && decide (a = b) then 0 else 1) else if p n b then 1 else 2
def gt (X : List Sec) (j : Nat) : Sec := X.getD j []
def XK (p : Int → Sec → Bool) (X Y : List Sec) (K k : Nat) : List Sec := (List.range K).map fun j => if j < k then hX p j (gt X j) (gt Y j) else gt X j
def YK (p : Int → Sec → Bool) (X Y : List Sec) (K k : Nat) : List Sec := (List.range K).map fun j => if j < k then hY p j (gt X j) (gt Y j) else gt Y j
def rK (p : Int → Sec → Bool) (X Y : List Sec) : Nat → Rp
  | 0 => (0, 0, 0)
  | k + 1 => cnt (rK p X Y k) (hC p k (gt X k) (gt Y k), 0)
theorem XK_get {p : Int → Sec → Bool} {X Y : List Sec} {K k j : Nat} (h : j < K) : (XK p X Y K k)[j]? = some (if j < k then hX p j (gt X j) (gt Y j) else gt X j) := by simp [XK, h]
theorem YK_get {p : Int → Sec → Bool} {X Y : List Sec} {K k j : Nat} (h : j < K) : (YK p X Y K k)[j]? = some (if j < k then hY p j (gt X j) (gt Y j) else gt Y j) := by simp [YK, h]
theorem XK_0 {p : Int → Sec → Bool} {X Y : List Sec} {K : Nat} (h : X.length = K) : XK p X Y K 0 = X := by
  apply List.ext_getElem?
  intro j
  by_cases hj : j < K
  · rw [XK_get hj]; simp [gt, List.getD, show j < X.length by omega]
  · rw [List.getElem?_eq_none (by simp [XK]; omega), List.getElem?_eq_none (by omega)]
theorem YK_0 {p : Int → Sec → Bool} {X Y : List Sec} {K : Nat} (h : Y.length = K) : YK p X Y K 0 = Y := by
  apply List.ext_getElem?
  intro j
  by_cases hj : j < K
  · rw [YK_get hj]; simp [gt, List.getD, show j < Y.length by omega]
  · rw [List.getElem?_eq_none (by simp [YK]; omega), List.getElem?_eq_none (by omega)]
theorem map_range_set {α : Type} (f f' : Nat → α) (n i : Nat) (h : ∀ j, j ≠ i → f j = f' j) : ((List.range n).map f).set i (f' i) = (List.range n).map f' := by
  apply List.ext_getElem?
  intro j
  rw [List.getElem?_set]
  by_cases hj : i = j
  · subst hj
    by_cases hi : i < n <;> simp [hi]
  · simp only [hj, if_false, List.getElem?_map]
    by_cases hi : j < n
    · simp [hi, h j (Ne.symm hj)]
    · simp [List.getElem?_eq_none (show (List.range n).length ≤ j by simp; omega)]
theorem XK_set (p : Int → Sec → Bool) (X Y : List Sec) (K k : Nat) : (XK p X Y K k).set k (hX p k (gt X k) (gt Y k)) = XK p X Y K (k + 1) := by
  have := map_range_set (fun j => if j < k then hX p j (gt X j) (gt Y j) else gt X j) (fun j => if j < k + 1 then hX p j (gt X j) (gt Y j) else gt X j) K k (fun j hj => by
    by_cases h1 : j < k
    · simp [h1, show j < k + 1 by omega]
    · simp [h1, show ¬ j < k + 1 by omega])
  simp only [Nat.lt_succ_self, if_true] at this
  exact this
theorem YK_set (p : Int → Sec → Bool) (X Y : List Sec) (K k : Nat) : (YK p X Y K k).set k (hY p k (gt X k) (gt Y k)) = YK p X Y K (k + 1) := by
  have := map_range_set (fun j => if j < k then hY p j (gt X j) (gt Y j) else gt Y j) (fun j => if j < k + 1 then hY p j (gt X j) (gt Y j) else gt Y j) K k (fun j hj => by
    by_cases h1 : j < k
    · simp [h1, show j < k + 1 by omega]
    · simp [h1, show ¬ j < k + 1 by omega])
  simp only [Nat.lt_succ_self, if_true] at this
  exact this
theorem set_self {α : Type} {l : List α} {k : Nat} {x : α} (h : l[k]? = some x) : l.set k x = l := by
  obtain ⟨hk, rfl⟩ := List.getElem?_eq_some_iff.1 h
  simp
/-- A step of a scrub of two that are there, nothing stale. -/
theorem Vw.heal {A : Da} {K : Nat} {X Y : List Sec} {k0 k1 n : Nat} {m : Mi} {p : Int → Sec → Bool} {a b : Sec} (h : Vw A K X Y k0 k1) (hm : m.n = K) (hk0 : m.k0 = []) (hk1 : m.k1 = []) (ha : X[n]? = some a) (hb : Y[n]? = some b) (hla : a.length = 128) (hlb : b.length = 128) :
    healR m A p n = (hC p n a b, 0) ∧ (healM m A p n).k0 = [] ∧ (healM m A p n).k1 = [] ∧ Vw (healA m A p n) K (X.set n (hX p n a b)) (Y.set n (hY p n a b)) (k0 + 1) (k1 + 1) := by
  have hn : n < K := by rw [← h.a.wlen]; exact (List.getElem?_eq_some_iff.1 ha).1
  obtain ⟨ra, ea⟩ := h.reads false ha
  obtain ⟨rb, eb⟩ := h.reads true hb
  have hh : m.has (n : Int) = true := by simp [Mi.has, hm, hn]
  have t0 := h.thr false
  have t1 := h.thr true
  have g0 : hg0 m A p n = p n a := by simp [Sl.hg0, hk0, kHas, ra]
  have g1 : hg1 m A p n = p n b := by simp [Sl.hg1, hk1, kHas, rb]
  have w0 := h.write (n := n) (s := b) false hn hlb
  have w1 := h.write (n := n) (s := a) true hn hla
  have sa := set_self ha
  have sb := set_self hb
  unfold healR healM healA healTo
  rw [hh, t0, t1, g0, g1, ra, rb]
  cases hp : p n a
  · cases hq : p n b
    · refine ⟨by simp [hC, hp, hq], by simp [hk0], by simp [hk1], ?_⟩
      simp only [Bool.false_eq_true, if_false, Bool.and_self, if_true, hX, hY, hp, hq, sa, sb]
      exact h.mono (Nat.le_succ _) (Nat.le_succ _)
    · refine ⟨by simp [hC, hp, hq], ?_, ?_, ?_⟩
      · simp [w0.1, hk0, kDel]
      · simp [w0.1, hk1]
      · simp only [Bool.false_eq_true, if_false, Bool.and_self, if_true, hX, hY, hp, hq, sb, Bool.not_false, rb]
        exact w0.2.mono (Nat.le_refl _) (Nat.le_succ _)
  · by_cases hq : (p n b && decide (a = b)) = true
    · have hab : a = b := by simp at hq; exact hq.2
      refine ⟨by simp [hC, hp, hq], by simp [hq, hk0], by simp [hq, hk1], ?_⟩
      simp only [hq, if_true, Bool.and_self, hX, hY, hp, sa]
      rw [hab, sb]
      exact h.mono (Nat.le_succ _) (Nat.le_succ _)
    · refine ⟨by simp [hC, hp, hq], ?_, ?_, ?_⟩
      · simp [hq, w1.1, hk0]
      · simp [hq, w1.1, hk1, kDel]
      · simp only [hq, Bool.false_eq_true, if_false, if_true, Bool.and_self, hX, hY, hp, sa, Bool.not_true, ra]
        exact (show Vw _ K X (Y.set n a) k0 (k1 + 1) from w1.2).mono (Nat.le_succ _) (Nat.le_refl _)
theorem gt_get {X : List Sec} {j K : Nat} (h : X.length = K) (hj : j < K) : X[j]? = some (gt X j) := by simp [gt, List.getD, show j < X.length by omega]
theorem scr_view {A : Da} {K : Nat} {X Y : List Sec} {k0 k1 : Nat} {m : Mi} {p : Int → Sec → Bool} (h : Vw A K X Y k0 k1) (hm : m.n = K) (hk0 : m.k0 = []) (hk1 : m.k1 = []) (hX : ∀ s ∈ X, s.length = 128) (hY : ∀ s ∈ Y, s.length = 128) :
    ∀ k, k ≤ K → Vw (scr m A p k).1 K (XK p X Y K k) (YK p X Y K k) (k0 + k) (k1 + k) ∧ (scr m A p k).2.1.k0 = [] ∧ (scr m A p k).2.1.k1 = [] ∧ (scr m A p k).2.2 = rK p X Y k
  | 0, _ => ⟨by rw [XK_0 h.a.wlen, YK_0 h.b.wlen]; exact h, hk0, hk1, rfl⟩
  | k + 1, hk => by
    obtain ⟨v, e0, e1, e2⟩ := scr_view h hm hk0 hk1 hX hY k (by omega)
    have ga := gt_get h.a.wlen (show k < K by omega)
    have gb := gt_get h.b.wlen (show k < K by omega)
    have xa : (XK p X Y K k)[k]? = some (gt X k) := by rw [XK_get (by omega)]; simp
    have xb : (YK p X Y K k)[k]? = some (gt Y k) := by rw [YK_get (by omega)]; simp
    obtain ⟨s1, s2, s3, s4, s5⟩ := scr_same m A p k
    obtain ⟨r1, r2, r3, r4⟩ := v.heal (p := p) (s4.trans hm) e0 e1 xa xb (hX _ (List.mem_of_getElem? ga)) (hY _ (List.mem_of_getElem? gb))
    refine ⟨?_, r2, r3, ?_⟩
    · rw [XK_set, YK_set] at r4; exact r4
    · show cnt (scr m A p k).2.2 (healR (scr m A p k).2.1 (scr m A p k).1 p k) = _
      rw [r1, e2]; rfl
/-! ### What the laws write -/
def sec2 (x : UInt8 × UInt8) : Sec := x.1 :: x.2 :: List.replicate 126 0
/-- Pairs of bytes, as they lie. -/
def pb (l : List (UInt8 × UInt8)) : List UInt8 := l.flatMap fun x => [x.1, x.2]
def prX (la : List (UInt8 × UInt8)) (n : Nat) : List Sec := (la.take n).map sec2
/-- The places that were written, and the others. -/
def wX (la : List (UInt8 × UInt8)) (n i : Nat) : List Sec := prX la i ++ List.replicate (n - i) (secOf 0)
def rsel (r : Rp) (j : Nat) : Int := if j = 0 then r.1 else if j = 1 then r.2.1 else r.2.2
theorem XK_ok {p : Int → Sec → Bool} {X Y : List Sec} {K k : Nat} (hX : ∀ s ∈ X, s.length = 128) (hY : ∀ s ∈ Y, s.length = 128) (lX : X.length = K) (lY : Y.length = K) : ∀ s ∈ XK p X Y K k, s.length = 128 := fun s hs => by
  obtain ⟨j, hj, rfl⟩ := List.mem_map.1 hs
  have hj := List.mem_range.1 hj
  have a := hX _ (List.mem_of_getElem? (gt_get lX hj))
  have b := hY _ (List.mem_of_getElem? (gt_get lY hj))
  split
  · unfold Sl.hX; split
    · exact a
    · split
      · exact b
      · exact a
  · exact a
theorem YK_ok {p : Int → Sec → Bool} {X Y : List Sec} {K k : Nat} (hX : ∀ s ∈ X, s.length = 128) (hY : ∀ s ∈ Y, s.length = 128) (lX : X.length = K) (lY : Y.length = K) : ∀ s ∈ YK p X Y K k, s.length = 128 := fun s hs => by
  obtain ⟨j, hj, rfl⟩ := List.mem_map.1 hs
  have hj := List.mem_range.1 hj
  have a := hX _ (List.mem_of_getElem? (gt_get lX hj))
  have b := hY _ (List.mem_of_getElem? (gt_get lY hj))
  split
  · unfold Sl.hY; split
    · exact a
    · exact b
  · exact b
/-- A mirror of two that are there, nothing stale. -/
structure Ms (t : DT) (gv : Value) (D : Duo) (A : Da) (m : Mi) (K : Nat) (X Y : List Sec) (k0 k1 : Nat) (mb bx bys bp : Nat) : Prop where
  two : Two t D A bx bys bp
  vw : Vw A K X Y k0 k1
  mb : m.b = mb
  bx : m.bx = bx
  bys : m.bys = bys
  n : m.n = K
  s0 : m.k0 = []
  s1 : m.k1 = []
  gv : m.gv = gv
  okX : ∀ s ∈ X, s.length = 128
  okY : ∀ s ∈ Y, s.length = 128
theorem Ms.scr {t : DT} {gv : Value} {D D' : Duo} {A : Da} {m : Mi} {K : Nat} {X Y : List Sec} {k0 k1 mb bx bys bp : Nat} {p : Int → Sec → Bool} (h : Ms t gv D A m K X Y k0 k1 mb bx bys bp) (hT : Two t D' (Sl.scr m A p m.n).1 m.bx m.bys bp) :
    (Sl.scr m A p m.n).2.2 = rK p X Y K ∧ Ms t gv D' (Sl.scr m A p m.n).1 (Sl.scr m A p m.n).2.1 K (XK p X Y K K) (YK p X Y K K) (k0 + K) (k1 + K) mb bx bys bp := by
  have hn := h.n
  rw [hn] at hT ⊢
  obtain ⟨v, e0, e1, e2⟩ := scr_view (p := p) h.vw h.n h.s0 h.s1 h.okX h.okY K (Nat.le_refl _)
  obtain ⟨s1, s2, s3, s4, s5⟩ := scr_same m A p K
  rw [h.bx, h.bys] at hT
  exact ⟨e2, hT, v, s1.trans h.mb, s2.trans h.bx, s3.trans h.bys, s4.trans h.n, e0, e1, s5.trans h.gv, XK_ok h.okX h.okY h.vw.a.wlen h.vw.b.wlen, YK_ok h.okX h.okY h.vw.a.wlen h.vw.b.wlen⟩
theorem Ms.many {t : DT} {gv : Value} {D : Duo} {A : Da} {m : Mi} {K : Nat} {X Y : List Sec} {k0 k1 mb bx bys bp k : Nat} (h : Ms t gv D A m K X Y k0 k1 mb bx bys bp) (h0 : k0 ≤ k) (h1 : k1 ≤ k) (i : Bool) : (A.dev i).Q.length ≤ k := by
  have := (h.vw.dev i).many
  cases i
  · exact Nat.le_trans this h0
  · exact Nat.le_trans this h1
/-! ### Scrubbed again -/
end Go.Sl

/- A mirror of two that are there: what is written, flushed, spoilt, and new (own work). -/
set_option linter.unusedVariables false
set_option linter.unusedSimpArgs false
namespace Go.Sl
section
variable {A : Da} {K : Nat} {X Y : List Sec} {k0 k1 n : Nat} {s : Sec} {ask : Da → Bool → Bool}
theorem Vw.side (h : Vw A K X Y k0 k1) (i : Bool) (hn : n < K) (hs : s.length = 128) (ha : ask A i = false → (pick2 i X Y)[n]? = some s) :
    pd A i ask n = true ∧ Vw (pA A i ask n s) K (if i then X else X.set n s) (if i then Y.set n s else Y) (if i then k0 else k0 + 1) (if i then k1 + 1 else k1) := by
  obtain ⟨w1, w2⟩ := h.write (n := n) (s := s) i hn hs
  unfold pd pA
  rw [h.thr i]
  cases hk : ask A i
  · have hX := ha hk
    refine ⟨by simp, ?_⟩
    simp only [Bool.and_false, Bool.false_eq_true, if_false]
    cases i
    · simp only [pick2, Bool.false_eq_true, if_false] at hX ⊢
      rw [set_self hX]
      exact h.mono (Nat.le_succ _) (Nat.le_refl _)
    · simp only [pick2, if_true] at hX ⊢
      rw [set_self hX]
      exact h.mono (Nat.le_refl _) (Nat.le_succ _)
  · refine ⟨by simp [w1], ?_⟩
    simp only [Bool.and_self, if_true]
    exact w2
/-- Is it asked for only where something else stands? -/
def AskOk (K : Nat) (n : Nat) (s : Sec) (ask : Da → Bool → Bool) : Prop := ∀ A X Y k0 k1, Vw A K X Y k0 k1 → ∀ i, ask A i = false → (pick2 i X Y)[n]? = some s
theorem askok_all (K n : Nat) (s : Sec) : AskOk K n s askAll := fun A X Y k0 k1 h i hi => by cases hi
theorem Vw.put (h : Vw A K X Y k0 k1) {m : Mi} (hm : m.n = K) (z0 : m.k0 = []) (z1 : m.k1 = []) (hn : n < K) (hs : s.length = 128) (ha : AskOk K n s ask) :
    putE m A ask n s = 0 ∧ putm m A ask n s = m ∧ Vw (putDa m A ask n s) K (X.set n s) (Y.set n s) (k0 + 1) (k1 + 1) := by
  obtain ⟨d0, v0⟩ := h.side (n := n) (s := s) (ask := ask) false hn hs (ha _ _ _ _ _ h false)
  simp only [Bool.false_eq_true, if_false] at v0
  obtain ⟨d1, v1⟩ := v0.side (n := n) (s := s) (ask := ask) true hn hs (ha _ _ _ _ _ v0 true)
  simp only [if_true] at v1
  have hh : m.has (n : Int) = true := by simp [Mi.has]; omega
  refine ⟨?_, ?_, ?_⟩
  · unfold putE putD; rw [hh, d0]; rfl
  · unfold putm putD; rw [hh, d0, d1]
    obtain ⟨b, r0, r1, bx, bys, n', gv, l0, c0, l1, c1⟩ := m
    simp only at z0 z1
    subst z0 z1
    rfl
  · unfold putDa putA; rw [hh]; exact v1
theorem Vw.mfl (h : Vw A K X Y k0 k1) : (Sl.mfl A).2 = 0 ∧ Vw (Sl.mfl A).1 K X Y 0 0 := by
  obtain ⟨e0, v0⟩ := h.flush false
  simp only [Bool.false_eq_true, if_false] at v0
  obtain ⟨e1, v1⟩ := v0.flush true
  simp only [if_true] at v1
  unfold Sl.mfl fl1
  rw [h.thr false, h.thr true]
  simp only [if_true, e0, e1]
  exact ⟨trivial, v1⟩
/-- A byte of a sector is spoilt. -/
def rotB (s : Sec) (j : Nat) (c : UInt8) : Sec := s.set j (s.getD j 0 ^^^ c)
theorem RdW.rot {a : Ab} {W : List Sec} {j : Nat} {c : UInt8} (h : RdW K W a 0) (hn : W[n]? = some s) : RdW K (W.set n (rotB s j c)) (a.rot n j c) 0 := by
  obtain ⟨hq, hS⟩ := h.stable
  have hlt : n < K := by have := (List.getElem?_eq_some_iff.1 hn).1; have := h.wlen; omega
  have hg : a.S.getD n [] = s := by rw [hS]; simp [List.getD, hn]
  refine ⟨Ab.rot_ok h.ok (by rw [h.len]; exact hlt), by simp [Ab.rot, h.len], h.out, h.lies, by simp [Ab.rot, hq], by simpa using h.wlen, fun k u hk => ?_⟩
  have : (a.rot n j c).read k = (W.set n (rotB s j c)).getD k [] := by
    simp only [Ab.read, Ab.rot, hq, lastW, List.reverse_nil, List.find?_nil, Option.map_none, Option.getD_none, hg]
    rw [hS]; rfl
  rw [this]; simp [List.getD, hk]
theorem Vw.rot {i : Bool} {j : Nat} {c : UInt8} (h : Vw A K X Y 0 0) (hn : (pick2 i X Y)[n]? = some s) (hj : j < 128) :
    (A.dev i).rotE (n : Int) (j : Int) = true ∧ Vw (A.setd i ((A.dev i).rots (n : Int) (j : Int) c)) K (if i then X else X.set n (rotB s j c)) (if i then Y.set n (rotB s j c) else Y) 0 0 := by
  have hd := h.dev i
  have hlt : n < K := by have := (List.getElem?_eq_some_iff.1 hn).1; have := hd.wlen; omega
  have e : (A.dev i).rotE (n : Int) (j : Int) = true := by unfold Ab.rotE; rw [hd.has]; simp; omega
  refine ⟨e, ?_⟩
  unfold Ab.rots
  rw [e]
  simp only [if_true, Int.toNat_natCast]
  have hc := Da.calm_setd h.calm i ((A.dev i).rot n j c)
  cases i
  · exact ⟨hc, h.a.rot hn, h.b⟩
  · exact ⟨hc, h.a, h.b.rot hn⟩
end
section
variable {t : DT} {gv : Value} {D D' : Duo} {A A' : Da} {m : Mi} {K : Nat} {X Y X' Y' : List Sec} {k0 k1 j0 j1 mb bx bys bp : Nat} {p : Int → Sec → Bool} {n : Nat} {u v s : Sec}
theorem Ms.with {bq : Nat} (h : Ms t gv D A m K X Y k0 k1 mb bx bys bp) (hT : Two t D' A' bx bys bq) (hv : Vw A' K X' Y' j0 j1) (hx : ∀ s ∈ X', s.length = 128) (hy : ∀ s ∈ Y', s.length = 128) : Ms t gv D' A' m K X' Y' j0 j1 mb bx bys bq :=
  ⟨hT, hv, h.mb, h.bx, h.bys, h.n, h.s0, h.s1, h.gv, hx, hy⟩
theorem set_ok2 {X : List Sec} (h : ∀ s ∈ X, s.length = 128) (hs : s.length = 128) : ∀ u ∈ X.set n s, u.length = 128 := fun u hu => by
  rcases List.mem_or_eq_of_mem_set hu with h1 | rfl
  · exact h u h1
  · exact hs
/-- A mirror that has just been made of two. -/
theorem Ms.new (hT : Two t D A bx bys bp) (hv : Vw A K X Y k0 k1) (b r0 r1 : Nat) (hX : ∀ s ∈ X, s.length = 128) (hY : ∀ s ∈ Y, s.length = 128) : Ms t gv D A (mnew A bx bys gv b r0 r1) K X Y k0 k1 b bx bys bp := by
  have ht0 := hv.thr false
  have ht1 := hv.thr true
  have hl0 := hv.a.len
  have hl1 := hv.b.len
  refine ⟨hT, hv, rfl, rfl, rfl, ?_, ?_, ?_, rfl, hX, hY⟩
  · show min _ _ = _; rw [hl0, hl1]; omega
  · show stale0 _ _ = []; rw [ht0]; rfl
  · show stale0 _ _ = []; rw [ht1]; rfl
end
end Go.Sl

/- Facts of the translation's types, for the kernel (own work, by a program of this repo). -/
namespace Go.Proofs.Ytighbhplfjjgpaa
open Go.Sl
end Go.Proofs.Ytighbhplfjjgpaa

/- walks (own work; the walks' lines by a program of this repo). -/
set_option linter.unusedVariables false
set_option linter.unusedSimpArgs false
set_option maxRecDepth 20000
namespace Go.Proofs.Ytighbhplfjjgpaa
open Go.Sl
attribute [local irreducible] BodyQ WpC WpL WpS WpH OpW FnS

abbrev dt : DT := ⟨101, 114, 130, 1, 97, 48⟩

theorem down_s {w0 : World} {H : Hp} (d : Dv) (p : Pw) (hD : Sees (fun w => St w0 w H) d.b (.cells d.cells.toArray dt.dev)) (hP : Sees (fun w => St w0 w H) d.pw (.cells p.cells.toArray dt.pow)) : FnS Try.prog w0 79 #[ptr d.b] H (fun e H' => e = .returned (.bool (d.a.out || p.a.off)) ∧ H' = H) := by
  refine FnS_intro (n := 16) (rs := [.tmp 2]) (vs := [ptr d.b]) Try.func79 rfl Try.ntmps79 rfl rfl ?_
  refine C_seq (C_region (LY rfl (y_assign rfl) (L_nil (C_seq (C_region (LY rfl (y_move rfl) (LY rfl (y_nilCheck rfl) (LY rfl (y_fieldAddr rfl fl_101_6) ?_))))))))
  refine LY rfl (y_load rfl ag_4 (hD) rfl) ?_
  refine LY rfl (y_move rfl) ?_
  refine L_case 7 rfl (fun hg1_5 => ?_) (fun hg1_5 => ?_)
  · skip
    refine L_skip rfl rfl (L_skip rfl rfl (L_skip rfl rfl (L_skip rfl rfl (L_skip rfl rfl (L_skip rfl rfl (L_skip rfl rfl (LY rfl (y_pick_t rfl rfl) (LY rfl (y_assign rfl) (L_nil (C_ret ?_))))))))))
    refine B_ret (rv_tmp rfl rv_nil) (HSub.refl _) ?_
    refine ⟨ret_bool ?_, rfl⟩
    simp_all
  · skip
    refine LY rfl (y_move rfl) (LY rfl (y_nilCheck rfl) (LY rfl (y_fieldAddr rfl fl_101_0) ?_))
    refine LY rfl (y_load rfl ag_52 (hD) rfl) ?_
    refine LY rfl (y_nilCheck rfl) (LY rfl (y_fieldAddr rfl fl_97_0) ?_)
    refine LY rfl (y_load rfl ag_4 (hP) rfl) ?_
    refine LY rfl (y_pick_f rfl rfl) (LY rfl (y_assign rfl) (L_nil (C_ret ?_)))
    refine B_ret (rv_tmp rfl rv_nil) (HSub.refl _) ?_
    refine ⟨ret_bool ?_, rfl⟩
    simp_all

theorem there_s {w0 : World} {H : Hp} (d : Dv) (n : Int) (hD : Sees (fun w => St w0 w H) d.b (.cells d.cells.toArray dt.dev)) : FnS Try.prog w0 80 #[ptr d.b, .int .i64 n] H (fun e H' => e = .returned (.bool (decide (0 ≤ n) && decide (n < d.a.S.length))) ∧ H' = H) := by
  refine FnS_intro (n := 16) (rs := [.tmp 4]) (vs := [ptr d.b, .int .i64 n]) Try.func80 rfl Try.ntmps80 rfl rfl ?_
  refine C_seq (C_region (LY rfl (y_assign rfl) (L_nil (C_seq (C_region (LY rfl (y_move rfl) ?_))))))
  refine LY rfl (y_geq rfl rfl) ?_
  refine LY rfl (y_move rfl) ?_
  refine L_case 7 rfl (fun hg1_3 => ?_) (fun hg1_3 => ?_)
  · skip
    refine LY rfl (y_move rfl) (LY rfl (y_move rfl) (LY rfl (y_nilCheck rfl) (LY rfl (y_fieldAddr rfl fl_101_1) ?_)))
    refine LY rfl (y_load rfl ag_98 (hD) rfl) ?_
    refine LY rfl (y_lenS rfl rfl Try.underlying98) ?_
    refine LY rfl (y_lss rfl rfl) (LY rfl (y_pick_t rfl rfl) (LY rfl (y_assign rfl) (L_nil (C_ret ?_))))
    refine B_ret (rv_tmp rfl rv_nil) (HSub.refl _) ?_
    refine ⟨ret_bool ?_, rfl⟩
    simp_all <;> omega
  · skip
    refine L_skip rfl rfl (L_skip rfl rfl (L_skip rfl rfl (L_skip rfl rfl (L_skip rfl rfl (L_skip rfl rfl (L_skip rfl rfl (LY rfl (y_pick_f rfl rfl) (LY rfl (y_assign rfl) (L_nil (C_ret ?_))))))))))
    refine B_ret (rv_tmp rfl rv_nil) (HSub.refl _) ?_
    refine ⟨ret_bool ?_, rfl⟩
    simp_all <;> omega

theorem len_s {w0 : World} {H : Hp} (d : Dv) (hD : Sees (fun w => St w0 w H) d.b (.cells d.cells.toArray dt.dev)) : FnS Try.prog w0 50 #[ptr d.b] H (fun e H' => e = .returned (.int .i64 (d.a.S.length : Int)) ∧ H' = H) := by
  refine FnS_intro (n := 10) (rs := [.tmp 2]) (vs := [ptr d.b]) Try.func50 rfl Try.ntmps50 rfl rfl ?_
  refine C_seq (C_region (LY rfl (y_assign rfl) (L_nil (C_seq (C_seq (C_region (LY rfl (y_move rfl) ?_)))))))
  refine LY rfl (y_eqp rfl rfl Try.underlying54) ?_
  refine L_nil (C_cond_f rfl (C_skip (C_seq (C_region (LY rfl (y_move rfl) (LY rfl (y_nilCheck rfl) (LY rfl (y_fieldAddr rfl fl_101_1) ?_)))))))
  refine LY rfl (y_load rfl ag_98 (hD) rfl) ?_
  refine LY rfl (y_lenS rfl rfl Try.underlying98) ?_
  refine LY rfl (y_assign rfl) (L_nil (C_ret ?_))
  refine B_ret (rv_tmp rfl rv_nil) (HSub.refl _) ?_
  exact ⟨rfl, rfl⟩

end Go.Proofs.Ytighbhplfjjgpaa

/- walks (own work; the walks' lines by a program of this repo). -/
set_option linter.unusedVariables false
set_option linter.unusedSimpArgs false
set_option maxRecDepth 20000
namespace Go.Proofs.Ytighbhplfjjgpaa
open Go.Sl
attribute [local irreducible] BodyQ WpC WpL WpS WpH OpW FnS


theorem cut_out {w0 : World} {H : Hp} (d : Dv) (hD : Sees (fun w => St w0 w H) d.b (.cells d.cells.toArray dt.dev)) (ho : d.a.out = true) : FnS Try.prog w0 48 #[ptr d.b] H (fun e H' => e = .returned (.tuple #[]) ∧ H' = H) := by
  refine FnS_intro (n := 58) (rs := []) (vs := [ptr d.b]) Try.func48 rfl Try.ntmps48 rfl rfl ?_
  refine C_seq (C_seq (C_region (LY rfl (y_move rfl) (LY rfl (y_nilCheck rfl) (LY rfl (y_fieldAddr rfl fl_101_6) ?_)))))
  refine LY rfl (y_load rfl ag_4 (hD) rfl) ?_
  refine L_nil ?_
  refine C_cond rfl (fun hc0 => ?_) (fun hc0 => absurd (ho.symm.trans hc0) (by simp))
  refine C_ret ?_
  refine B_ret rv_nil (HSub.refl _) ?_
  exact ⟨rfl, rfl⟩

theorem cut_in {w0 : World} {H : Hp} {b st pw : Nat} {g : Option SlG} {a : Ab} (hd : Dv.ok ⟨b, st, pw, g, a⟩) (ho : a.out = false) : FnS Try.prog w0 48 #[ptr b] (Dv.o dt ⟨b, st, pw, g, a⟩ :: Dv.t dt ⟨b, st, pw, g, a⟩ :: Dv.q dt ⟨b, st, pw, g, a⟩ :: H) (fun e H' => e = .returned (.tuple #[]) ∧ H' = (Dv.cut ⟨b, st, pw, g, a⟩).o dt :: (Dv.cut ⟨b, st, pw, g, a⟩).t dt :: (Dv.cut ⟨b, st, pw, g, a⟩).q dt :: H) := by
  obtain ⟨hok, hq, hQl⟩ := hd
  simp only at hok hq hQl
  refine FnS_intro (n := 58) (rs := []) (vs := [ptr b]) Try.func48 rfl Try.ntmps48 rfl rfl ?_
  refine C_seq (C_seq (C_region (LY rfl (y_move rfl) (LY rfl (y_nilCheck rfl) (LY rfl (y_fieldAddr rfl fl_101_6) (LY rfl (y_load rfl ag_4 (sees 0 0 rfl) rfl) (L_nil ?_)))))))
  refine C_cond rfl (fun hc0 => absurd (ho.symm.trans hc0) (by simp)) (fun hc0 => ?_)
  refine C_skip (C_seq (C_seq (C_region (LY rfl (y_move rfl) (LY rfl (y_nilCheck rfl) (LY rfl (y_fieldAddr rfl fl_101_2) (LY rfl (y_load rfl ag_99 (sees 0 0 rfl) rfl) ?_)))))))
  refine LY rfl (y_lenV hq rfl rfl Try.underlying99) ?_
  refine LY rfl (y_move rfl) (L_nil (C_block ?_))
  refine C_loop (ι := Nat) (fun i => [(0, ptr b), (11, slV g a.Q.length), (12, .int .i64 (a.Q.length : Int)), (13, .int .i64 (i : Int))]) (fun i => [(b, .cells (Dv.cells ⟨b, st, pw, g, a⟩).toArray dt.dev)] :: [(st, .cells (bs (cutN a i).flatten).toArray 114)] :: slSeg 130 g (wcs a.Q) :: H) (fun i => i ≤ a.Q.length) (fun i => a.Q.length - i) 0 (Nat.zero_le _) ⟨rfl, rfl, rfl, rfl, trivial⟩ (HSub.refl _) (fun i hi => ?_)
  skip
  refine C_seq (C_region (LY rfl (y_lss rfl rfl) (L_nil (C_seq ?_))))
  refine C_cond rfl (fun hc1 => ?_) (fun hc1 => ?_)
  · replace hc1 := of_decide_eq_true hc1
    refine C_skip (C_seq (C_block (C_seq ?_)))
    obtain ⟨x, hx⟩ : ∃ x, a.Q[i]? = some x := ⟨_, List.getElem?_eq_getElem (by omega)⟩
    have hxm := hok.2.2.1 x (List.mem_of_getElem? hx)
    obtain ⟨hS1, hS2⟩ := cutN_ok hok i
    have hfl := flat_len hS1
    have hQ : ∀ x ∈ a.Q, x.2.length = 128 := fun x hx => (hok.2.2.1 x hx).2
    cases g with
    | none => exact absurd hq.2 (by simp only; omega)
    | some g => ?_
    have hwl := wcs_len hQ
    refine C_region (LY rfl (y_move rfl) ?_)
    refine LY rfl (y_indexS rfl rfl Try.underlying99 sz_130 (by omega) (by omega) (show _ = i * 129 from by simp)) ?_
    refine LY rfl (y_loadA rfl ag_130 sz_130 (sees 2 0 rfl) (by rw [List.length_append, hwl]; omega) (wcs_get _ hQ hx)) ?_
    refine L_op rfl (op_alloc zl_130 rfl (fun B1 => ?_))
    refine LY rfl (y_assign rfl) ?_
    refine L_op rfl (op_storeA 0 0 rfl rfl rfl sz_130 (by simp [bs_length, hxm.2]) rfl (one_wr _ _) rfl ?_)
    refine L_nil (C_seq (C_region (LY rfl (y_move rfl) (LY rfl (y_move rfl) (LY rfl (y_nilCheck rfl) (LY rfl (y_fieldAddr rfl fl_101_3) (LY rfl (y_load rfl ag_3 (sees 1 0 rfl) rfl) (LY rfl (y_lss rfl rfl) (L_nil ?_)))))))))
    refine C_cond rfl (fun hc2 => ?_) (fun hc2 => ?_)
    · replace hc2 := of_decide_eq_true hc2
      simp only at hc2
      refine C_regionT 9 (by kernel_rfl) (by kernel_rfl) ?_
      refine S_y rfl (y_move rfl) rfl ?_
      refine S_y rfl (y_nilCheck rfl) rfl ?_
      refine S_y rfl (y_fieldAddr rfl fl_101_1) rfl ?_
      refine S_y rfl (y_load rfl ag_98 (sees 1 0 rfl) rfl) rfl ?_
      refine S_y rfl (y_fieldAddr rfl fl_130_0) rfl ?_
      refine S_y rfl (y_load rfl ag_3 (sees 0 0 rfl) rfl) rfl ?_
      refine S_y rfl (y_fieldAddr rfl fl_130_1) rfl ?_
      refine S_y rfl (y_loadA rfl ag_114 sz_114 (sees 0 0 rfl) (by simp [bs_length, hxm.2]) (bs_whole x.2 hxm.2)) rfl ?_
      refine S_y rfl (y_indexS rfl rfl Try.underlying98 sz_114 (by omega) (by simp only; omega) (show _ = x.1 * 128 from by simp)) rfl ?_
      refine S_nil ?_
      refine L_op rfl (op_store 2 0 rfl rfl rfl sz_114 (by rw [bs_length, hxm.2]) rfl (bs_one _) (by rw [bs_length, hfl]; omega) ?_)
      rw [flat_spl hS1 (by omega) hxm.2, ← cutN_s1 hx (by omega)]
      refine L_nil (C_region ?_)
      refine LY rfl (y_add rfl rfl (wi64 (by omega) (by omega))) ?_
      refine LY rfl (y_move rfl) (L_nil ?_)
      exact ⟨i + 1, by omega, by omega, ⟨rfl, rfl, rfl, rfl, trivial⟩, hsub (.cons _ (.refl _))⟩
    · replace hc2 := of_decide_eq_false hc2
      simp only at hc2
      refine C_seq (C_region (LY rfl (y_move rfl) (LY rfl (y_move rfl) (LY rfl (y_nilCheck rfl) (LY rfl (y_fieldAddr rfl fl_101_3) (LY rfl (y_load rfl ag_3 (sees 1 0 rfl) rfl) (LY rfl (y_eqi rfl rfl) (L_nil ?_))))))))
      refine C_cond rfl (fun hc3 => ?_) (fun hc3 => ?_)
      · replace hc3 := of_decide_eq_true hc3
        simp only at hc3
        refine C_regionT 14 (by kernel_rfl) (by kernel_rfl) ?_
        refine S_y rfl (y_move rfl) rfl ?_
        refine S_y rfl (y_nilCheck rfl) rfl ?_
        refine S_y rfl (y_fieldAddr rfl fl_101_1) rfl ?_
        refine S_y rfl (y_load rfl ag_98 (sees 1 0 rfl) rfl) rfl ?_
        refine S_y rfl (y_fieldAddr rfl fl_130_0) rfl ?_
        refine S_y rfl (y_load rfl ag_3 (sees 0 0 rfl) rfl) rfl ?_
        refine S_y rfl (y_indexS rfl rfl Try.underlying98 sz_114 (by omega) (by simp only; omega) (show _ = x.1 * 128 from by simp)) rfl ?_
        refine S_y rfl (y_move rfl) rfl ?_
        refine S_y rfl (y_nilCheck rfl) rfl ?_
        refine S_y rfl (y_fieldAddr rfl fl_101_4) rfl ?_
        refine S_y rfl (y_load rfl ag_3 (sees 1 0 rfl) rfl) rfl ?_
        refine S_y rfl (y_sliceA_hi rfl rfl Try.underlying114 sz_5 (by simp only; omega) (by have := hok.2.2.2; simp only; omega)) rfl ?_
        refine S_y rfl (y_fieldAddr rfl fl_130_1) rfl ?_
        refine S_y rfl (y_sliceA_all rfl Try.underlying114 sz_5) rfl ?_
        refine S_nil ?_
        refine L_op rfl (op_copy (b2 := B1) (off2 := 1) (sl := 128) (vs := bs (x.2.take a.bytes)) 2 0 rfl rfl Try.underlying71 sz_5 (sees 0 0 rfl) (show 1 + min 128 a.bytes * 1 ≤ (Value.int .i64 (x.1 : Int) :: bs x.2).length from by rw [List.length_cons, bs_length, hxm.2]; omega) (show ((Value.int .i64 (x.1 : Int) :: bs x.2).drop 1).take (min 128 ((a.bytes : Int).toNat) * 1) = bs (x.2.take a.bytes) from by rw [show min 128 ((a.bytes : Int).toNat) = a.bytes from by have := hok.2.2.2; omega, Nat.mul_one, show (Value.int .i64 (x.1 : Int) :: bs x.2).drop 1 = bs x.2 from rfl, bs_take]) rfl (bs_one _) (by rw [bs_length, hfl]; simp only; have := hok.2.2.2; omega) rfl ?_)
        obtain ⟨o, ho2⟩ : ∃ o, (cutN a i)[x.1]? = some o := ⟨_, List.getElem?_eq_getElem (by omega)⟩
        have e2 := cutN_s2 hx (by omega)
        rw [show (cutN a i).getD x.1 [] = o from by simp [List.getD, ho2]] at e2
        rw [flat_torn hS1 ho2 hxm.2 hok.2.2.2, ← e2]
        refine L_nil (C_region ?_)
        refine LY rfl (y_add rfl rfl (wi64 (by omega) (by omega))) ?_
        refine LY rfl (y_move rfl) (L_nil ?_)
        exact ⟨i + 1, by omega, by omega, ⟨rfl, rfl, rfl, rfl, trivial⟩, hsub (.cons _ (.refl _))⟩
      · replace hc3 := of_decide_eq_false hc3
        simp only at hc3
        rw [← cutN_s3 hx (by omega) (by omega)]
        refine C_skip (C_region ?_)
        refine LY rfl (y_add rfl rfl (wi64 (by omega) (by omega))) ?_
        refine LY rfl (y_move rfl) (L_nil ?_)
        exact ⟨i + 1, by omega, by omega, ⟨rfl, rfl, rfl, rfl, trivial⟩, hsub (.cons _ (.refl _))⟩
  · replace hc1 := of_decide_eq_false hc1
    refine C_exit ?_
    obtain rfl : i = a.Q.length := by omega
    refine C_region (LY rfl (y_move rfl) (LY rfl (y_nilCheck rfl) (LY rfl (y_fieldAddr rfl fl_101_2) ?_)))
    refine L_op rfl (op_store1 0 0 rfl rfl rfl sz_99 rfl (Nat.le_of_ble_eq_true rfl) ?_)
    refine L_nil ?_
    refine B_end rv_nil ((hsub_flat rfl : HSub (_ :: _ :: [] :: H) (_ :: _ :: H)).trans (hsub (.cons_cons _ (.cons_cons _ (.cons _ (.refl _)))))) ?_
    obtain ⟨e1, e2, e3⟩ := Dv.cut_segs dt (b := b) (st := st) (pw := pw) (g := g) hok ho
    rw [e1, e2, e3]
    exact ⟨rfl, rfl⟩

theorem cut_s {w0 : World} {H : Hp} (d : Dv) (hd : d.ok) : FnS Try.prog w0 48 #[ptr d.b] (d.o dt :: d.t dt :: d.q dt :: H) (fun e H' => e = .returned (.tuple #[]) ∧ H' = d.cut.o dt :: d.cut.t dt :: d.cut.q dt :: H) := by
  cases ho : d.a.out with
  | false => exact cut_in hd ho
  | true =>
    refine (cut_out d (sees 0 0 rfl) ho).mono ?_
    rintro _ _ ⟨rfl, rfl⟩
    rw [show d.cut = d from by simp [Dv.cut, ho]]
    exact ⟨rfl, rfl⟩

end Go.Proofs.Ytighbhplfjjgpaa

/- walks (own work; the walks' lines by a program of this repo). -/
set_option linter.unusedVariables false
set_option linter.unusedSimpArgs false
set_option maxRecDepth 20000
namespace Go.Proofs.Ytighbhplfjjgpaa
open Go.Sl
attribute [local irreducible] BodyQ WpC WpL WpS WpH OpW FnS


theorem cutstep {w0 : World} {H : Hp} {A : List Dv} {i : Nat} {x : Dv} (hx : A[i]? = some x) (hok : x.ok) (po pq : List (Nat × Obj)) : FnS Try.prog w0 48 #[ptr x.b] (po :: pq :: ((cutTo A i).flatMap (Dv.segs dt) ++ H)) (fun e H' => e = .returned (.tuple #[]) ∧ H' = po :: pq :: ((cutTo A (i + 1)).flatMap (Dv.segs dt) ++ H)) := by
  rw [cutTo_split dt hx]
  refine (FnS.mid (φ := fun e A' => e = .returned (.tuple #[]) ∧ A' = [x.cut.o dt, x.cut.t dt, x.cut.q dt]) _ _ fun L => (cut_s x hok).mono ?_).mono ?_
  · rintro _ _ ⟨rfl, rfl⟩; exact ⟨_, ⟨rfl, rfl⟩, rfl⟩
  · rintro _ _ ⟨_, ⟨rfl, rfl⟩, rfl⟩; exact ⟨rfl, cutTo_join dt hx po pq H⟩

theorem operate_c {w0 : World} {H : Hp} {A : List Dv} {d : Dv} (hd : d ∈ A) {pg : Option SlG} {devs : List Nat} {off fails : Bool} {left : Int} (hdev : devs = A.map (·.b)) (hok : ∀ x ∈ A, x.ok) (hp : Pw.ok dt ⟨d.pw, pg, devs, ⟨off, left, fails⟩⟩) (hA : A.length ≤ 1000) : FnS Try.prog w0 95 #[ptr d.b] (Pw.o dt ⟨d.pw, pg, devs, ⟨off, left, fails⟩⟩ :: Pw.q dt ⟨d.pw, pg, devs, ⟨off, left, fails⟩⟩ :: (A.flatMap (Dv.segs dt) ++ H)) (fun e H' => e = .returned (.bool (!(Pa.falls ⟨off, left, fails⟩))) ∧ H' = (Pw.step ⟨d.pw, pg, devs, ⟨off, left, fails⟩⟩).o dt :: (Pw.step ⟨d.pw, pg, devs, ⟨off, left, fails⟩⟩).q dt :: ((A.map (Dv.step ⟨off, left, fails⟩)).flatMap (Dv.segs dt) ++ H)) := by
  obtain ⟨hpg, hleft⟩ := hp
  simp only at hpg hleft hdev
  have hlen : devs.length = A.length := by rw [hdev]; simp
  have hD := sees_mem (w0 := w0) (mem_segs dt hd (Pw.o dt ⟨d.pw, pg, devs, ⟨off, left, fails⟩⟩) (Pw.q dt ⟨d.pw, pg, devs, ⟨off, left, fails⟩⟩) H)
  refine FnS_intro (n := 45) (rs := [.tmp 2]) (vs := [ptr d.b]) Try.func95 rfl Try.ntmps95 rfl rfl ?_
  refine C_seq (C_region (LY rfl (y_assign rfl) (L_nil (C_seq (C_region (LY rfl (y_move rfl) (LY rfl (y_nilCheck rfl) (LY rfl (y_fieldAddr rfl fl_101_0) ?_))))))))
  refine LY rfl (y_load rfl ag_52 (hD) rfl) ?_
  refine LY rfl (y_assign rfl) (L_nil (C_seq (C_seq (C_region (LY rfl (y_move rfl) (LY rfl (y_nilCheck rfl) (LY rfl (y_fieldAddr rfl fl_97_2) (LY rfl (y_load rfl ag_4 (sees 0 0 rfl) rfl) (LY rfl (y_not rfl) (L_nil ?_))))))))))
  refine C_cond rfl (fun hc0 => ?_) (fun hc0 => ?_)
  · have hfl : fails = false := by simpa using hc0
    refine C_seq (C_region (LY rfl (y_assign rfl) (L_nil (C_ret ?_))))
    refine B_ret (rv_tmp rfl rv_nil) (HSub.refl _) ?_
    first
    | (subst hfl; exact ⟨rfl, by simp [Pw.step, Pa.step, Pa.falls, step_map0]⟩)
    | (subst hfl; have hl0 : ¬ left ≤ 0 := by omega
       exact ⟨ret_bool (by simp [Pa.falls, hl0]), by rw [step_map0 (by simp [Pa.falls, hl0])]; simp only [Pw.step, Pa.step, hl0, if_true, if_false]; rfl⟩)
    | (subst hfl; have hl0 : left ≤ 0 := by omega
       refine ⟨ret_bool (by simp [Pa.falls, hl0]), ?_⟩; rw [hlen, cutTo_all, step_map (by simp [Pa.falls, hl0])]; simp [Pw.step, Pa.step, hl0])
  · have hfl : fails = true := by simpa using hc0
    refine C_skip (C_seq (C_seq (C_region (LY rfl (y_move rfl) (LY rfl (y_nilCheck rfl) (LY rfl (y_fieldAddr rfl fl_97_1) (LY rfl (y_load rfl ag_3 (sees 0 0 rfl) rfl) ?_)))))))
    refine LY rfl (y_gtr rfl rfl) ?_
    refine L_nil ?_
    refine C_cond rfl (fun hc1 => ?_) (fun hc1 => ?_)
    · replace hc1 := of_decide_eq_true hc1
      simp only at hc1
      refine C_seq (C_region (LY rfl (y_move rfl) (LY rfl (y_nilCheck rfl) (LY rfl (y_fieldAddr rfl fl_97_1) (LY rfl (y_load rfl ag_3 (sees 0 0 rfl) rfl) ?_)))))
      refine LY rfl (y_sub rfl rfl (wi64 (by simp only; omega) (by simp only; omega))) ?_
      refine LY rfl (y_nilCheck rfl) (LY rfl (y_fieldAddr rfl fl_97_1) ?_)
      refine L_op rfl (op_store1 0 0 rfl rfl rfl sz_3 rfl (Nat.le_of_ble_eq_true rfl) ?_)
      refine L_nil (C_seq (C_region (LY rfl (y_assign rfl) (L_nil (C_ret ?_)))))
      refine B_ret (rv_tmp rfl rv_nil) (HSub.refl _) ?_
      first
      | (subst hfl; exact ⟨rfl, by simp [Pw.step, Pa.step, Pa.falls, step_map0]⟩)
      | (subst hfl; have hl0 : ¬ left ≤ 0 := by omega
         exact ⟨ret_bool (by simp [Pa.falls, hl0]), by rw [step_map0 (by simp [Pa.falls, hl0])]; simp only [Pw.step, Pa.step, hl0, if_true, if_false]; rfl⟩)
      | (subst hfl; have hl0 : left ≤ 0 := by omega
         refine ⟨ret_bool (by simp [Pa.falls, hl0]), ?_⟩; rw [hlen, cutTo_all, step_map (by simp [Pa.falls, hl0])]; simp [Pw.step, Pa.step, hl0])
    · replace hc1 := of_decide_eq_false hc1
      simp only at hc1
      refine C_skip (C_seq (C_region (LY rfl (y_move rfl) (LY rfl (y_move rfl) (LY rfl (y_nilCheck rfl) (LY rfl (y_fieldAddr rfl fl_97_0) ?_))))))
      refine L_op rfl (op_store1 0 0 rfl rfl rfl sz_4 rfl (Nat.le_of_ble_eq_true rfl) ?_)
      refine LY rfl (y_nilCheck rfl) (LY rfl (y_fieldAddr rfl fl_97_2) ?_)
      refine L_op rfl (op_store1 0 0 rfl rfl rfl sz_4 rfl (Nat.le_of_ble_eq_true rfl) ?_)
      refine L_nil (C_seq (C_seq (C_region (LY rfl (y_move rfl) (LY rfl (y_nilCheck rfl) (LY rfl (y_fieldAddr rfl fl_97_3) (LY rfl (y_load rfl ag_95 (sees 0 0 rfl) rfl) ?_)))))))
      refine LY rfl (y_lenV hpg rfl rfl Try.underlying95) ?_
      refine LY rfl (y_move rfl) (L_nil (C_block ?_))
      refine C_loop (ι := Nat) (fun i => [(36, slV pg devs.length), (37, .int .i64 (devs.length : Int)), (38, .int .i64 (i : Int))]) (fun i => [(d.pw, .cells (Pw.cells ⟨d.pw, pg, devs, ⟨true, left, false⟩⟩).toArray dt.pow)] :: slSeg 1 pg (devs.map (clos dt)) :: ((cutTo A i).flatMap (Dv.segs dt) ++ H)) (fun i => i ≤ devs.length) (fun i => devs.length - i) 0 (Nat.zero_le _) ⟨rfl, rfl, rfl, trivial⟩ (HSub.same (by simp [cutTo]; rfl)) (fun i hi => ?_)
      skip
      refine C_seq (C_region (LY rfl (y_lss rfl rfl) (L_nil (C_seq ?_))))
      refine C_cond rfl (fun hc2 => ?_) (fun hc2 => ?_)
      · replace hc2 := of_decide_eq_true hc2
        refine C_skip (C_seq (C_block (C_seq ?_)))
        obtain ⟨x, hx⟩ : ∃ x, A[i]? = some x := ⟨_, List.getElem?_eq_getElem (by omega)⟩
        cases pg with
        | none => exact absurd hpg.2 (by omega)
        | some pg => ?_
        refine C_region ?_
        refine LY rfl (y_indexS rfl rfl Try.underlying95 sz_1 (by omega) (by omega) rfl) ?_
        refine LY rfl (y_load rfl ag_1 (sees 1 0 rfl) (show _ = some (clos dt x.b) from by rw [show (0 + ((i : Int)).toNat * 1) = i from by omega, List.getElem?_append_left (by simp; omega), hdev]; simp [hx])) ?_
        refine LY rfl (y_assign rfl) (L_nil (C_region (LY rfl (y_move rfl) ?_)))
        refine L_op rfl (op_call rfl rfl (fun a w => Try.call48 a w) rfl ?_)
        refine (cutstep hx (hok x (List.mem_of_getElem? hx)) _ _).mono ?_
        rintro _ _ ⟨rfl, rfl⟩
        refine ⟨_, rfl, ?_⟩
        refine L_nil (C_region ?_)
        refine LY rfl (y_add rfl rfl (wi64 (by omega) (by omega))) ?_
        refine LY rfl (y_move rfl) (L_nil ?_)
        exact ⟨i + 1, by omega, by omega, ⟨rfl, rfl, rfl, trivial⟩, HSub.refl _⟩
      · replace hc2 := of_decide_eq_false hc2
        refine C_exit (C_seq ?_)
        obtain rfl : i = devs.length := by omega
        refine C_region (LY rfl (y_assign rfl) (L_nil (C_ret ?_)))
        refine B_ret (rv_tmp rfl rv_nil) (HSub.refl _) ?_
        first
        | (subst hfl; exact ⟨rfl, by simp [Pw.step, Pa.step, Pa.falls, step_map0]⟩)
        | (subst hfl; have hl0 : ¬ left ≤ 0 := by omega
           exact ⟨ret_bool (by simp [Pa.falls, hl0]), by rw [step_map0 (by simp [Pa.falls, hl0])]; simp only [Pw.step, Pa.step, hl0, if_true, if_false]; rfl⟩)
        | (subst hfl; have hl0 : left ≤ 0 := by omega
           refine ⟨ret_bool (by simp [Pa.falls, hl0]), ?_⟩; rw [hlen, cutTo_all, step_map (by simp [Pa.falls, hl0])]; simp [Pw.step, Pa.step, hl0])

end Go.Proofs.Ytighbhplfjjgpaa

/- walks (own work; the walks' lines by a program of this repo). -/
set_option linter.unusedVariables false
set_option linter.unusedSimpArgs false
set_option maxRecDepth 20000
namespace Go.Proofs.Ytighbhplfjjgpaa
open Go.Sl
attribute [local irreducible] BodyQ WpC WpL WpS WpH OpW FnS


theorem operate_s {w0 : World} {H : Hp} {L R : List Dv} {d : Dv} {p : Pw} (hG : GOk dt p L d R) : FnS Try.prog w0 95 #[ptr d.b] (opn dt d p (L ++ R) H) (fun e H' => e = .returned (.bool (!p.a.falls)) ∧ H' = opn dt (d.step p.a) p.step ((L ++ R).map (Dv.step p.a)) H) := by
  obtain ⟨pb, pg, devs, ⟨off, left, fails⟩⟩ := p
  obtain ⟨hpws, hdev, hall, hp, hlen⟩ := hG
  obtain rfl : pb = d.pw := hpws d (by simp)
  refine (((operate_c (A := L ++ d :: R) (d := d) (by simp) hdev hall hp hlen).sub (HSub.of_perm (open_perm dt L R d _ _ H).symm.flatten)).weak ?_)
  rintro _ _ ⟨rfl, rfl⟩
  refine ⟨_, HSub.of_perm ?_, rfl, rfl⟩
  rw [List.map_append, List.map_cons, List.map_append]
  exact (open_perm dt _ _ _ _ _ H).flatten

theorem write_down {w0 : World} {H : Hp} {d : Dv} {p : Pw} (hD : Sees (fun w => St w0 w H) d.b (.cells d.cells.toArray dt.dev)) (hP : Sees (fun w => St w0 w H) d.pw (.cells p.cells.toArray dt.pow)) (n : Int) (s : Sec) (hdn : (d.a.out || p.a.off) = true) : FnS Try.prog w0 82 #[ptr d.b, .int .i64 n, .agg (bs s).toArray] H (fun e H' => e = .returned (.int .i64 13) ∧ H' = H) := by
  refine FnS_intro (n := 33) (rs := [.tmp 6]) (vs := [ptr d.b, .int .i64 n, .agg (bs s).toArray]) Try.func82 rfl Try.ntmps82 rfl rfl ?_
  refine C_seq (C_region ?_)
  refine L_op rfl (op_box rfl rfl rfl (fun B1 => ?_))
  refine LY rfl (y_assign rfl) (L_nil (C_seq (C_block (C_seq (C_region (LY rfl (y_move rfl) ?_))))))
  refine LY rfl (y_eqp rfl rfl Try.underlying54) ?_
  refine LY rfl (y_assign rfl) (L_nil (C_cond_f rfl (C_seq (C_region (LY rfl (y_move rfl) ?_)))))
  refine L_op rfl (op_call rfl rfl (fun a w => Try.call79 a w) rfl ?_)
  refine (down_s d p (hD.up) (hP.up)).mono ?_
  rintro _ _ ⟨rfl, rfl⟩
  rw [hdn]
  refine ⟨_, rfl, ?_⟩
  refine LY rfl (y_assign rfl) (L_nil (C_cond_t rfl (C_seq (C_region (LY rfl (y_assign rfl) (L_nil (C_ret ?_)))))))
  refine B_ret (rv_tmp rfl rv_nil) (hsub (.cons _ (.refl _))) ?_
  exact ⟨rfl, rfl⟩

theorem write_out {w0 : World} {H : Hp} {d : Dv} {p : Pw} (hD : Sees (fun w => St w0 w H) d.b (.cells d.cells.toArray dt.dev)) (hP : Sees (fun w => St w0 w H) d.pw (.cells p.cells.toArray dt.pow)) (n : Int) (s : Sec) (hdn : (d.a.out || p.a.off) = false) (hth : (decide (0 ≤ n) && decide (n < d.a.S.length)) = false) : FnS Try.prog w0 82 #[ptr d.b, .int .i64 n, .agg (bs s).toArray] H (fun e H' => e = .returned (.int .i64 2) ∧ H' = H) := by
  refine FnS_intro (n := 33) (rs := [.tmp 6]) (vs := [ptr d.b, .int .i64 n, .agg (bs s).toArray]) Try.func82 rfl Try.ntmps82 rfl rfl ?_
  refine C_seq (C_region ?_)
  refine L_op rfl (op_box rfl rfl rfl (fun B1 => ?_))
  refine LY rfl (y_assign rfl) (L_nil (C_seq (C_block (C_seq (C_region (LY rfl (y_move rfl) ?_))))))
  refine LY rfl (y_eqp rfl rfl Try.underlying54) ?_
  refine LY rfl (y_assign rfl) (L_nil (C_cond_f rfl (C_seq (C_region (LY rfl (y_move rfl) ?_)))))
  refine L_op rfl (op_call rfl rfl (fun a w => Try.call79 a w) rfl ?_)
  refine (down_s d p (hD.up) (hP.up)).mono ?_
  rintro _ _ ⟨rfl, rfl⟩
  rw [hdn]
  refine ⟨_, rfl, ?_⟩
  refine LY rfl (y_assign rfl) (L_nil (C_cond_f rfl (C_seq (C_region (LY rfl (y_move rfl) (LY rfl (y_move rfl) ?_))))))
  refine L_op rfl (op_call rfl rfl (fun a w => Try.call80 a w) rfl ?_)
  refine (there_s d _ (hD.up)).mono ?_
  rintro _ _ ⟨rfl, rfl⟩
  rw [hth]
  refine ⟨_, rfl, ?_⟩
  refine LY rfl (y_not rfl) (LY rfl (y_assign rfl) (L_nil (C_cond_t rfl (C_seq (C_region (LY rfl (y_assign rfl) (L_nil (C_ret ?_))))))))
  refine B_ret (rv_tmp rfl rv_nil) (hsub (.cons _ (.refl _))) ?_
  exact ⟨rfl, rfl⟩

theorem write_go {w0 : World} {H : Hp} {L R : List Dv} {d : Dv} {p : Pw} (hG : GOk dt p L d R) (n : Nat) (s : Sec) (hn : n < d.a.S.length) (hs : s.length = 128) (hQ : d.a.Q.length < 100000) (hdn : (d.a.out || p.a.off) = false) : FnS Try.prog w0 82 #[ptr d.b, .int .i64 (n : Int), .agg (bs s).toArray] (d.o dt :: d.t dt :: d.q dt :: p.o dt :: p.q dt :: ((L ++ R).flatMap (Dv.segs dt) ++ H)) (fun e H' => ∃ g', (d.wr n s g').ok ∧ e = .returned (.int .i64 (if p.a.falls then 13 else 0)) ∧ H' = opn dt ((d.wr n s g').step p.a) p.step ((L ++ R).map (Dv.step p.a)) H) := by
  have hd := hG.dok
  have hth : (decide ((0 : Int) ≤ (n : Int)) && decide ((n : Int) < d.a.S.length)) = true := by simp; omega
  refine FnS_intro (n := 33) (rs := [.tmp 6]) (vs := [ptr d.b, .int .i64 (n : Int), .agg (bs s).toArray]) Try.func82 rfl Try.ntmps82 rfl rfl ?_
  refine C_seq (C_region ?_)
  refine L_op rfl (op_box rfl rfl rfl (fun B1 => ?_))
  refine LY rfl (y_assign rfl) (L_nil (C_seq (C_block (C_seq (C_region (LY rfl (y_move rfl) ?_))))))
  refine LY rfl (y_eqp rfl rfl Try.underlying54) ?_
  refine LY rfl (y_assign rfl) (L_nil (C_cond_f rfl (C_seq (C_region (LY rfl (y_move rfl) ?_)))))
  refine L_op rfl (op_call rfl rfl (fun a w => Try.call79 a w) rfl ?_)
  refine (down_s d p (sees 1 0 rfl) (hG.hb ▸ sees 4 0 rfl)).mono ?_
  rintro _ _ ⟨rfl, rfl⟩
  rw [hdn]
  refine ⟨_, rfl, ?_⟩
  refine LY rfl (y_assign rfl) (L_nil (C_cond_f rfl (C_seq (C_region (LY rfl (y_move rfl) (LY rfl (y_move rfl) ?_))))))
  refine L_op rfl (op_call rfl rfl (fun a w => Try.call80 a w) rfl ?_)
  refine (there_s d _ (sees 1 0 rfl)).mono ?_
  rintro _ _ ⟨rfl, rfl⟩
  rw [hth]
  refine ⟨_, rfl, ?_⟩
  refine LY rfl (y_not rfl) (LY rfl (y_assign rfl) (L_nil (C_cond_f rfl (C_skip (C_seq ?_)))))
  refine C_regionH ([(B1, .cells (bs s).toArray 114)] :: ((L ++ R).flatMap (Dv.segs dt) ++ H)) (by kernel_rfl) ?_
  refine HY 0 rfl (hsub (.cons_cons _ (.cons _ (.cons _ (.cons _ (.cons _ (.cons _ (.refl _)))))))) rfl (y_move rfl) ?_
  refine HY 1 rfl (hsub (.cons_cons _ (.cons _ (.cons _ (.cons _ (.cons _ (.cons _ (.refl _)))))))) rfl (y_move rfl) ?_
  refine HY 2 rfl (hsub (.cons_cons _ (.cons _ (.cons _ (.cons _ (.cons _ (.cons _ (.refl _)))))))) rfl (y_nilCheck rfl) ?_
  refine HY 3 rfl (hsub (.cons_cons _ (.cons _ (.cons _ (.cons _ (.cons _ (.cons _ (.refl _)))))))) rfl (y_fieldAddr rfl fl_101_2) ?_
  refine HY 5 rfl (hsub (.cons_cons _ (.cons _ (.cons _ (.cons _ (.cons _ (.cons _ (.refl _)))))))) rfl (y_move rfl) ?_
  refine HY 6 rfl (hsub (.cons_cons _ (.cons _ (.cons _ (.cons _ (.cons _ (.cons _ (.refl _)))))))) rfl (y_loadA rfl ag_114 sz_114 (sees 0 0 rfl) (by rw [bs_length, hs]; decide) (bs_whole0 s hs)) ?_
  refine HY 7 rfl (hsub (.cons_cons _ (.cons _ (.cons _ (.cons _ (.cons _ (.cons _ (.refl _)))))))) rfl (y_build (vs := [(0, .int .i64 (n : Int)), (1, .agg (bs s).toArray)]) rfl pl_130 zl_130 (fill_wr hs)) ?_
  refine H_two 4 8 rfl rfl (by kernel_rfl) rfl rfl ?_ ?_
  · refine op_y (y_load rfl ag_99 (sees 1 0 rfl) rfl) rfl ?_
    refine ⟨hsub (.cons_cons _ (.cons _ (.cons _ (.cons _ (.cons _ (.cons _ (.refl _))))))), ?_⟩
    refine H_one 8 rfl (by kernel_rfl) rfl (op_buildSlice (vs := [(0, .agg (.int .i64 (n : Int) :: bs s).toArray)]) rfl Try.underlying99 sz_130 zl_130 rfl (by decide) (fill_one rfl (by simp [bs_length, hs]) rfl) rfl (fun B2 => ?_))
    refine ⟨hsub (.cons _ (.cons_cons _ (.cons _ (.cons _ (.cons _ (.cons _ (.cons _ (.refl _)))))))), ?_⟩
    refine H_one 9 rfl (by kernel_rfl) rfl (op_append (gs := d.g) (len := d.a.Q.length) (m := 1) (xs := wcs d.a.Q) (vs := .int .i64 (n : Int) :: bs s) 4 rfl rfl rfl hd.2.1 (src_slice (sees 0 0 rfl) (by simp [bs_length, hs]) (by rw [List.drop_zero, List.take_of_length_le (by simp [bs_length, hs])])) (by simp [bs_length, hs]) (one_wr n s) Try.underlying99 ni_99 sz_130 by_130 (by decide) zl_130 rfl (by omega) rfl (fun g' hg' => ?_))
    have hok' : (d.wr n s g').ok := Dv.wr_ok hd hn hs hQ hg'
    rw [← wcs_one, ← wcs_append, show d.a.Q.length + 1 = (d.a.Q ++ [(n, s)]).length from by simp] at hg' ⊢
    have hG' : GOk dt p L (d.wr n s g') R := hG.set rfl rfl hok'
    refine ⟨hsub (.cons _ (.cons_cons _ (.cons _ (.cons _ (.cons _ (.cons _ (.cons _ (.refl _)))))))), ?_⟩
    refine HY 10 rfl (hsub (.cons _ (.cons_cons _ (.cons _ (.cons _ (.cons _ (.cons _ (.cons _ (.refl _))))))))) rfl (y_nilCheck rfl) ?_
    refine HY 11 rfl (hsub (.cons _ (.cons_cons _ (.cons _ (.cons _ (.cons _ (.cons _ (.cons _ (.refl _))))))))) rfl (y_fieldAddr rfl fl_101_2) ?_
    refine H_one 12 rfl (by kernel_rfl) rfl (op_store1 2 0 rfl rfl (one_slV _ _) sz_99 rfl (Nat.le_of_ble_eq_true rfl) ?_)
    refine ⟨hsub (.cons _ (.cons_cons _ (.cons _ (.cons _ (.cons _ (.cons _ (.cons _ (.refl _)))))))), ?_⟩
    refine H_done (by kernel_rfl) ?_
    refine C_seq (C_seq (C_region (LY rfl (y_move rfl) ?_)))
    refine L_op rfl (op_call rfl rfl (fun a w => Try.call95 a w) rfl ?_)
    refine (((operate_s (L := L) (R := R) (d := d.wr n s g') (p := p) (H := H) hG').sub (hsub (.cons _ (.cons _ (.refl _)))))).mono ?_
    rintro _ _ ⟨rfl, rfl⟩
    refine ⟨_, rfl, ?_⟩
    refine LY rfl (y_not rfl) (L_nil ?_)
    refine C_cond rfl (fun hc3 => ?_) (fun hc3 => ?_)
    · skip
      refine C_seq (C_region (LY rfl (y_assign rfl) (L_nil (C_ret ?_))))
      refine B_ret (rv_tmp rfl rv_nil) (HSub.refl _) ?_
      exact ⟨g', hok', ret_int (by simpa using hc3), rfl⟩
    · skip
      refine C_skip (C_seq (C_region (LY rfl (y_assign rfl) (L_nil (C_ret ?_)))))
      refine B_ret (rv_tmp rfl rv_nil) (HSub.refl _) ?_
      exact ⟨g', hok', ret_int (by simpa using hc3), rfl⟩
  · refine op_buildSlice (vs := [(0, .agg (.int .i64 (n : Int) :: bs s).toArray)]) rfl Try.underlying99 sz_130 zl_130 rfl (by decide) (fill_one rfl (by simp [bs_length, hs]) rfl) rfl (fun B3 => ?_)
    refine ⟨hsub (.cons _ (.cons_cons _ (.cons _ (.cons _ (.cons _ (.cons _ (.cons _ (.refl _)))))))), ?_⟩
    refine H_one 4 rfl (by kernel_rfl) rfl (op_y (y_load rfl ag_99 (sees 2 0 rfl) rfl) rfl ?_)
    refine ⟨hsub (.cons _ (.cons_cons _ (.cons _ (.cons _ (.cons _ (.cons _ (.cons _ (.refl _)))))))), ?_⟩
    refine H_one 9 rfl (by kernel_rfl) rfl (op_append (gs := d.g) (len := d.a.Q.length) (m := 1) (xs := wcs d.a.Q) (vs := .int .i64 (n : Int) :: bs s) 4 rfl rfl rfl hd.2.1 (src_slice (sees 0 0 rfl) (by simp [bs_length, hs]) (by rw [List.drop_zero, List.take_of_length_le (by simp [bs_length, hs])])) (by simp [bs_length, hs]) (one_wr n s) Try.underlying99 ni_99 sz_130 by_130 (by decide) zl_130 rfl (by omega) rfl (fun g' hg' => ?_))
    have hok' : (d.wr n s g').ok := Dv.wr_ok hd hn hs hQ hg'
    rw [← wcs_one, ← wcs_append, show d.a.Q.length + 1 = (d.a.Q ++ [(n, s)]).length from by simp] at hg' ⊢
    have hG' : GOk dt p L (d.wr n s g') R := hG.set rfl rfl hok'
    refine ⟨hsub (.cons _ (.cons_cons _ (.cons _ (.cons _ (.cons _ (.cons _ (.cons _ (.refl _)))))))), ?_⟩
    refine HY 10 rfl (hsub (.cons _ (.cons_cons _ (.cons _ (.cons _ (.cons _ (.cons _ (.cons _ (.refl _))))))))) rfl (y_nilCheck rfl) ?_
    refine HY 11 rfl (hsub (.cons _ (.cons_cons _ (.cons _ (.cons _ (.cons _ (.cons _ (.cons _ (.refl _))))))))) rfl (y_fieldAddr rfl fl_101_2) ?_
    refine H_one 12 rfl (by kernel_rfl) rfl (op_store1 2 0 rfl rfl (one_slV _ _) sz_99 rfl (Nat.le_of_ble_eq_true rfl) ?_)
    refine ⟨hsub (.cons _ (.cons_cons _ (.cons _ (.cons _ (.cons _ (.cons _ (.cons _ (.refl _)))))))), ?_⟩
    refine H_done (by kernel_rfl) ?_
    refine C_seq (C_seq (C_region (LY rfl (y_move rfl) ?_)))
    refine L_op rfl (op_call rfl rfl (fun a w => Try.call95 a w) rfl ?_)
    refine (((operate_s (L := L) (R := R) (d := d.wr n s g') (p := p) (H := H) hG').sub (hsub (.cons _ (.cons _ (.refl _)))))).mono ?_
    rintro _ _ ⟨rfl, rfl⟩
    refine ⟨_, rfl, ?_⟩
    refine LY rfl (y_not rfl) (L_nil ?_)
    refine C_cond rfl (fun hc3 => ?_) (fun hc3 => ?_)
    · skip
      refine C_seq (C_region (LY rfl (y_assign rfl) (L_nil (C_ret ?_))))
      refine B_ret (rv_tmp rfl rv_nil) (HSub.refl _) ?_
      exact ⟨g', hok', ret_int (by simpa using hc3), rfl⟩
    · skip
      refine C_skip (C_seq (C_region (LY rfl (y_assign rfl) (L_nil (C_ret ?_)))))
      refine B_ret (rv_tmp rfl rv_nil) (HSub.refl _) ?_
      exact ⟨g', hok', ret_int (by simpa using hc3), rfl⟩

end Go.Proofs.Ytighbhplfjjgpaa

/- walks (own work; the walks' lines by a program of this repo). -/
set_option linter.unusedVariables false
set_option linter.unusedSimpArgs false
set_option maxRecDepth 20000
namespace Go.Proofs.Ytighbhplfjjgpaa
open Go.Sl
attribute [local irreducible] BodyQ WpC WpL WpS WpH OpW FnS




end Go.Proofs.Ytighbhplfjjgpaa

/- walks (own work; the walks' lines by a program of this repo). -/
set_option linter.unusedVariables false
set_option linter.unusedSimpArgs false
set_option maxRecDepth 20000
namespace Go.Proofs.Ytighbhplfjjgpaa
open Go.Sl
attribute [local irreducible] BodyQ WpC WpL WpS WpH OpW FnS




end Go.Proofs.Ytighbhplfjjgpaa

/- walks (own work; the walks' lines by a program of this repo). -/
set_option linter.unusedVariables false
set_option linter.unusedSimpArgs false
set_option maxRecDepth 20000
namespace Go.Proofs.Ytighbhplfjjgpaa
open Go.Sl
attribute [local irreducible] BodyQ WpC WpL WpS WpH OpW FnS


theorem newpower_s {w0 : World} {H : Hp}  : FnS Try.prog w0 22 #[] H (fun e H' => ∃ b, e = .returned (ptr b) ∧ H' = (⟨b, none, [], ⟨false, 0, false⟩⟩ : Pw).o dt :: [] :: H) := by
  refine FnS_intro (n := 3) (rs := [.tmp 0]) (vs := []) Try.func22 rfl Try.ntmps22 rfl rfl ?_
  refine C_seq (C_region (LY rfl (y_assign rfl) (L_nil (C_seq (C_region ?_)))))
  refine LY rfl (y_build0 pl_97 zl_97) ?_
  refine L_op rfl (op_box rfl rfl rfl (fun B1 => ?_))
  refine LY rfl (y_assign rfl) (L_nil (C_ret ?_))
  refine B_ret (rv_tmp rfl rv_nil) hsub_nil1 ?_
  exact ⟨_, rfl, rfl⟩

theorem new_s {w0 : World} {H : Hp} (n : Int) (p : Pw) (hp : p.ok dt) (hk : p.devs.length ≤ 1000) : FnS Try.prog w0 23 #[.int .i64 n, ptr p.b] (p.o dt :: p.q dt :: H) (fun e H' => ∃ b st g', slOk 1 g' (p.devs ++ [b]).length ((p.devs ++ [b]).map (clos dt)) ∧ e = .returned (ptr b) ∧ H' = opn dt (Dv.new b st p.b (szOf n)) ⟨p.b, g', p.devs ++ [b], p.a⟩ [] H) := by
  refine FnS_intro (n := 28) (rs := [.tmp 4]) (vs := [.int .i64 n, ptr p.b]) Try.func23 rfl Try.ntmps23 rfl rfl ?_
  refine C_seq (C_region (LY rfl (y_assign rfl) (L_nil (C_seq (C_seq (C_region (LY rfl (y_move rfl) ?_)))))))
  refine LY rfl (y_eqp rfl rfl Try.underlying52) ?_
  refine L_nil (C_cond_f rfl (C_skip (C_seq (C_region (LY rfl (y_move rfl) (LY rfl (y_move rfl) ?_))))))
  refine LY rfl (y_max rfl rfl) ?_
  refine LY rfl (y_min rfl rfl) ?_
  refine L_op rfl (op_makeSlice rfl Try.underlying98 by_114 sz_114 zl_114 rfl (by omega) (by omega) (by omega) rfl (fun B1 => ?_))
  refine LY rfl (y_build (vs := [(0, _), (1, _)]) rfl pl_101 zl_101 (fill_cons (off := 0) (m := 1) (vs := [_]) rfl rfl rfl (Nat.le_of_ble_eq_true rfl) (fill_cons (off := 1) (m := 1) (vs := [_]) rfl rfl rfl (Nat.le_of_ble_eq_true rfl) rfl))) ?_
  refine L_op rfl (op_box rfl rfl rfl (fun B2 => ?_))
  refine LY rfl (y_assign rfl) (L_nil (C_seq (C_region (LY rfl (y_move rfl) (LY rfl (y_move rfl) (LY rfl (y_nilCheck rfl) (LY rfl (y_fieldAddr rfl fl_97_3) (LY rfl (y_load rfl ag_95 (sees 2 0 rfl) rfl) (LY rfl (y_move rfl) ?_)))))))))
  refine LY rfl (y_makeFunc rfl rfl) ?_
  refine L_op rfl (op_buildSlice (vs := [(0, _)]) rfl Try.underlying95 sz_1 zl_1 rfl (by decide) (fill_one rfl rfl rfl) rfl (fun B3 => ?_))
  refine L_op rfl (op_append (gs := p.g) (len := p.devs.length) (m := 1) (xs := p.devs.map (clos dt)) (vs := [clos dt B2]) 4 rfl rfl rfl hp.1 (src_slice (sees 0 0 rfl) (Nat.le_of_ble_eq_true rfl) rfl) rfl (fun v hv => by simp at hv; subst hv; rfl) Try.underlying95 ni_95 sz_1 by_1 (by decide) zl_1 rfl (by omega) rfl (fun g' hg' => ?_))
  rw [show p.devs.map (clos dt) ++ [clos dt B2] = (p.devs ++ [B2]).map (clos dt) from by simp, show p.devs.length + 1 = (p.devs ++ [B2]).length from by simp] at hg' ⊢
  refine LY rfl (y_nilCheck rfl) (LY rfl (y_fieldAddr rfl fl_97_3) ?_)
  refine L_op rfl (op_store1 3 0 rfl rfl (one_slV _ _) sz_95 rfl (Nat.le_of_ble_eq_true rfl) ?_)
  refine L_nil (C_seq (C_region (LY rfl (y_move rfl) (LY rfl (y_assign rfl) (L_nil (C_ret ?_))))))
  refine B_ret (rv_tmp rfl rv_nil) (hsub_nil2.trans (hsub (.cons _ (.refl _)))) ?_
  refine ⟨B2, B1, g', hg', rfl, ?_⟩
  rw [zsecs]
  unfold opn Dv.o Dv.t Dv.q Dv.cells Dv.new Ab.new szOf
  simp only [List.length_replicate]
  have e0 : (((min (max n 0) 4096).toNat : Nat) : Int) = min (max n 0) 4096 := by omega
  rfl

end Go.Proofs.Ytighbhplfjjgpaa

/- A range over a function: the rounds, the call, the way out (own work, over the kit's laws of the statement). -/
set_option linter.unusedVariables false
set_option linter.unusedSimpArgs false
namespace Go.Sl
variable {P : Program} {n : FN} {w0 : World} {Q : Post} {E E' : Env} {H H' : Hp} {r : Option Nat}
abbrev Fr (r : Option Nat) : Fence := { Fence.wide with round := r }
def WpCI (P : Program) (n : FN) (w0 : World) (r : Option Nat) (c : Code) (Q : Post) (E : Env) (H : Hp) : Prop := ∀ m a w, FrOk n E a → St w0 w H → c.wpIn (Fr r) m P (lift n w0 Q) a w
def WpLI (P : Program) (n : FN) (w0 : World) (r : Option Nat) (ops : List Oper) (Q : Post) (l : List Oper) (E : Env) (H : Hp) : Prop := ∀ m a w, FrOk n E a → St w0 w H → wpListIn (Fr r) m P ops.toArray (lift n w0 Q) l a w
theorem C_of {c : Code} (h : WpCI P n w0 none c Q E H) : WpC P n w0 c Q E H := fun a w ha hw => (wpIn_wide (n := 0)).1 (h 0 a w ha hw)
theorem CI_seq {x y : Code} (h : WpCI P n w0 r x (thenQ (WpCI P n w0 r y Q) Q) E H) : WpCI P n w0 r (.seq x y) Q E H := fun m a w ha hw => by
  refine wpIn_seq (wpIn_mono (h m a w ha hw) ?_)
  rintro e a' w' ⟨E', H', x, s, q⟩
  cases e with
  | normal => exact q m a' w' (x.2 rfl) s
  | _ => exact ⟨E', H', x, s, q⟩
theorem CI_block {id : Nat} {c : Code} (h : WpCI P n w0 r c (blockQ id Q) E H) : WpCI P n w0 r (.block id c) Q E H := fun m a w ha hw => by
  refine wpIn_block (wpIn_mono (h m a w ha hw) ?_)
  rintro e a' w' ⟨E', H', x, s, q⟩
  cases e with
  | exit id' =>
    simp only [blockQ] at q
    simp only [Exit.inBlock]
    split
    · rename_i e; rw [if_pos e] at q; exact ⟨E', H', ⟨x.1, fun _ => x.2 rfl⟩, s, q⟩
    · rename_i e; rw [if_neg e] at q; exact ⟨E', H', ⟨x.1, fun _ => x.2 rfl⟩, s, q⟩
  | _ => exact ⟨E', H', x, s, q⟩
theorem CI_cond {c : Operand} {x y : Code} {b : Bool} (hc : ev E c = some (.bool b)) (ht : b = true → WpCI P n w0 r x Q E H) (hf : b = false → WpCI P n w0 r y Q E H) :
    WpCI P n w0 r (.cond c x y) Q E H := fun m a w ha hw => wpIn_cond_split (ha.eval hc) (fun h => ht h m a w ha hw) (fun h => hf h m a w ha hw)
theorem CI_skip (h : Q .normal E H) : WpCI P n w0 r .skip Q E H := fun m a w ha hw => wpIn_skip ⟨E, H, ⟨ha.defers, fun _ => ha⟩, hw, h⟩
theorem CI_ret (h : Q .ret E H) : WpCI P n w0 r .ret Q E H := fun m a w ha hw => wpIn_ret ⟨E, H, ⟨ha.defers, fun _ => ha⟩, hw, h⟩
theorem CI_exit {id : Nat} (h : Q (.exit id) E H) : WpCI P n w0 r (.exit id) Q E H := fun m a w ha hw => wpIn_exit ⟨E, H, ⟨ha.defers, fun _ => ha⟩, hw, h⟩
theorem CI_loop {ι : Type} {c : Code} (Ei : ι → Env) (Hi : ι → Hp) (G : ι → Prop) (μ : ι → Nat) (i0 : ι) (h0 : G i0) (hE : SubEnv (Ei i0) E) (hH : HSub (Hi i0) H)
    (round : ∀ i, G i → WpCI P n w0 r c (thenQ (fun E' H' => ∃ j, G j ∧ μ j < μ i ∧ SubEnv (Ei j) E' ∧ HSub (Hi j) H') Q) (Ei i) (Hi i)) :
    WpCI P n w0 r (.loop c) Q E H := by
  intro m a w ha hw b k cs hro hb hr
  have key : ∀ (x : Nat) (i : ι), G i → μ i = x → ∀ a w, FrOk n (Ei i) a → St w0 w (Hi i) →
      ∃ e a' w', lift n w0 Q e a' w' ∧ ArrivesIn (Machine.fenced P (Fr r)) P (lone (b.atR a (.code c :: .inLoop c :: k)) cs w) b k cs e a' w' := by
    intro x
    induction x using Nat.strongRecOn with
    | _ x ih =>
      intro i gi hm a w ha hw
      obtain ⟨e, a₁, w₁, hq, harr⟩ := round i gi m a w ha hw b (.inLoop c :: k) cs hro hb hr
      obtain ⟨E₁, H₁, f1, s1, q⟩ := hq
      cases e with
      | normal =>
        obtain ⟨j, gj, hlt, hE, hH⟩ := q
        obtain ⟨e₂, a₂, w₂, hq₂, harr₂⟩ := ih (μ j) (hm ▸ hlt) j gj rfl a₁ w₁ ((f1.2 rfl).weaken hE) (hH w0 w₁ s1)
        exact ⟨e₂, a₂, w₂, hq₂, .of_steps (StepsIn.trans harr (.one (fenced_calm hb hr rfl) stepR_inLoop)) harr₂⟩
      | exit id => exact ⟨_, a₁, w₁, ⟨E₁, H₁, f1, s1, q⟩, .pass (x := .inLoop c) rfl (fun _ _ => .inl (by simp)) harr⟩
      | goto l => exact ⟨_, a₁, w₁, ⟨E₁, H₁, f1, s1, q⟩, .pass (x := .inLoop c) rfl (fun _ _ => .inl (by simp)) harr⟩
      | ret => exact ⟨_, a₁, w₁, ⟨E₁, H₁, f1, s1, q⟩, .pass (x := .inLoop c) rfl (fun _ _ => .inl (by simp)) harr⟩
      | panic ch => exact ⟨_, a₁, w₁, ⟨E₁, H₁, f1, s1, q⟩, .pass (x := .inLoop c) rfl (fun _ _ => .inl (by simp)) harr⟩
      | outgrown => exact ⟨_, a₁, w₁, ⟨E₁, H₁, f1, s1, q⟩, .pass (x := .inLoop c) rfl (fun _ _ => .inl (by simp)) harr⟩
  obtain ⟨e, a', w', hq, harr⟩ := key (μ i0) i0 h0 rfl a w (ha.weaken hE) (hH w0 w hw)
  exact ⟨e, a', w', hq, .of_steps (.one (fenced_calm hb hr rfl) stepR_loop) harr⟩
theorem CI_region {id : Nat} {l : List Oper} (h : WpLI P n w0 r l Q l E H) : WpCI P n w0 r (.region id l.toArray false) Q E H := fun m a w ha hw => wpIn_region_lit (h m a w ha hw)
theorem LI_nil {ops : List Oper} (h : Q .normal E H) : WpLI P n w0 r ops Q [] E H := fun m a w ha hw => wpListIn_nil ⟨E, H, ⟨ha.defers, fun _ => ha⟩, hw, h⟩
/-- A contract within the fence. -/
theorem callsIn_fr {m : Nat} {f : FuncId} {args : Array Value} {w : World} {R : Ending → World → Prop} (h : Calls P f args w R) : CallsIn (Fr r) m P f args w R := by
  have h2 : CallsIn Fence.wide m P f args w R := callsIn_wide.2 h
  exact h2
def notDefer : Op → Bool
  | .defer _ => false
  | _ => true
theorem opIn {o : Oper} {a : Act} {w : World} {m : Nat} {next : Act → World → Prop} {Q : Exit → Act → World → Prop} (hd : notDefer o.op = true) (h : o.wp P a w next Q) : o.wpIn (Fr r) m P a w next Q := by
  refine ⟨fun _ _ => trivial, ?_⟩
  have hd' : ∀ c, o.op ≠ .defer c := fun c e => by rw [e] at hd; cases hd
  rw [Oper.semAt_eq _ _ _ hd']
  unfold Oper.wp at h
  generalize (execOp a.eval o).run P w = res at h ⊢
  match res, h with
  | .ok (.value v) w', h => exact h
  | .ok .skip w', h => exact h
  | .ok (.defer d) w', h => exact h
  | .ok (.enter f args) w', h =>
    refine ⟨fun h => Bool.noConfusion (show false = true from h), callsIn_fr (Calls.mono h ?_)⟩
    intro e w'' q
    cases e <;> exact q
  | .ok (.row row args) w', h =>
    refine ⟨fun h => Bool.noConfusion (show false = true from h), fun c cs _ => ?_⟩
    obtain ⟨v, w'', q, s⟩ := h c cs
    refine ⟨v, w'', q, ?_⟩
    cases r with
    | none => exact stepsIn_wide.2 s
    | some l => exact stepsIn_wide.2 s
  | .halt (.panic v) w', h => exact h
theorem LI_op {ops l : List Oper} {o : Oper} (hg : o.guard = none) (hd : notDefer o.op = true) (h : OpW P n w0 Q o E H (fun E' H' => WpLI P n w0 r ops Q l E' H')) : WpLI P n w0 r ops Q (o :: l) E H := fun m a w ha hw =>
  wpListIn_plain hg fun K hK => opIn hd (h a w ha hw K fun E' H' a' w' ha' hw' k => hK a' w' (k m a' w' ha' hw'))
theorem LI_y {ops l : List Oper} {d : Option Nat} {op : Op} {ty : Nat} {ps : String} {af : Array Edge} {v : Value} (hd : notDefer op = true) (hy : YV P n E (fun w => St w0 w H) op ty v) (hk : dok d n = true)
    (k : WpLI P n w0 r ops Q l (put E d v) H) : WpLI P n w0 r ops Q (⟨d, op, ty, ps, af, none⟩ :: l) E H := LI_op rfl hd (op_y hy hk k)
/-- What a call of yield does. -/
def YS (P : Program) (w0 : World) (l : Nat) (args : Array Value) (H : Hp) (R : Ending → Hp → Prop) : Prop :=
  ∀ m w, St w0 w H → YieldAt (Fr none) m P l args w fun e w' => ∃ H', St w0 w' H' ∧ R e H'
theorem LI_yield {ops l : List Oper} {d : Option Nat} {ce : Operand} {args : List Operand} {tys : Array TypeId} {ty : Nat} {ps : String} {af : Array Edge} {y : Nat} {vs : List Value} (hce : ev E ce = some (.func (.yield y) #[] #[])) (hargs : args.mapM (ev E) = some vs) (hk : dok d n = true)
    (h : YS P w0 y vs.toArray H fun e H' => ∃ v, e = .returned v ∧ WpLI P n w0 none ops Q l (put E d v) H') :
    WpLI P n w0 none ops Q (⟨d, .call { callee := .value ce, args := args.toArray, argTypes := tys }, ty, ps, af, none⟩ :: l) E H := fun m a w ha hw => by
  refine wpListIn_plain rfl fun K hK => ⟨fun _ _ => trivial, ?_⟩
  have e1 := evals ha hargs
  have e2 := ha.eval hce
  obtain ⟨fn, tmps, assign, body, hr, hround⟩ := h (m - 1) w hw
  have hrun : (Oper.semAt (Fr none).round a.eval (⟨d, .call { callee := .value ce, args := args.toArray, argTypes := tys }, ty, ps, af, none⟩ : Oper)).run P w = .ok (.round y fn tmps assign body) w := by
    rw [show (Fr none).round = none from rfl, Oper.semAt_none]
    simp only [execOp, resolve, Sem.run_bind, e2, Deferred.ofValue, Sem.run_pure, Result.andThen_ok, invoke, List.map_toArray, e1]
    simpa using hr
  rw [hrun]
  refine ⟨fun h => Bool.noConfusion (show false = true from h), hround.mono ?_⟩
  rintro e w' ⟨H', s, v, rfl, k⟩
  exact hK _ _ (k m _ _ (ha.put hk v) s)
theorem FnSI_intro {k f : Nat} {fn : Func} {c : Code} {vs : List Value} {rs : List ResultVar} {R : Ending → Hp → Prop} (hf : P.funcs[f]? = some fn) (hb : fn.body = some c) (hn : fn.ntmps = k) (hr : fn.results.toList = rs)
    (hlen : Nat.ble vs.length k = true) (h : WpCI P ⟨k, []⟩ w0 none c (BodyQ P w0 rs R) (args0 vs 0) H) : FnS P w0 f vs.toArray H R := FnS_intro hf hb hn hr hlen (C_of h)
/-! ### One round -/
def roundQ (l : Nat) (rc : Loop) (RT : Bool → Hp → Prop) : Post := fun e E H => match e with
  | .normal => ∃ Hr, HSub ([(l, .loop { rc with state := .busy })] :: Hr) H ∧ RT true Hr
  | .ret => ∃ Hr, HSub ([(l, .loop { rc with state := .busy })] :: Hr) H ∧ RT false Hr
  | _ => False
def assignQ (P : Program) (n : FN) (w0 : World) (l : Nat) (rc : Loop) (RT : Bool → Hp → Prop) : Post := fun e E H => match e with
  | .normal => ∃ Hr, HSub ([(l, .loop rc)] :: Hr) H ∧ WpCI P n w0 (some l) rc.body (roundQ l rc RT) E ([(l, .loop { rc with state := .busy })] :: Hr)
  | _ => False
theorem round_s {l : Nat} {rc : Loop} {vs : List Value} {Hr : Hp} {RT : Bool → Hp → Prop} {k : Nat} (hst : rc.state = .ready) (hpe : rc.pending = none) (hlen : vs.length = rc.params.size)
    (hfr : FrOk ⟨k, []⟩ E' { tmps := (rc.params.zip vs.toArray).foldl (fun tmps (t, a) => tmps.setIfInBounds t a) rc.tmps, defers := [] })
    (h : WpCI P ⟨k, []⟩ w0 (some l) rc.assign (assignQ P ⟨k, []⟩ w0 l rc RT) E' ([(l, .loop rc)] :: Hr)) :
    YS P w0 l vs.toArray ([(l, .loop rc)] :: Hr) fun e H' =>
      (e = .returned (.bool true) ∧ ∃ Hx, H' = [(l, .loop rc)] :: Hx ∧ RT true Hx) ∨ (e = .returned (.bool false) ∧ ∃ Hx, H' = [(l, .loop { rc with state := .done, pending := some .ret })] :: Hx ∧ RT false Hx) := by
  intro m w hw
  have hl : w.heap[l]? = some (.loop rc) := hw.has (l, .loop rc) (by simp)
  refine ⟨_, _, _, _, run_yield hl (by simpa using hlen), roundIn_of_wpIn trivial ?_⟩
  refine wpIn_mono (h m _ w hfr hw) ?_
  rintro e a1 w1 ⟨E1, H1, x, s, q⟩
  cases e with
  | normal =>
    obtain ⟨Hx, hs, hbody⟩ := q
    have s1 := hs w0 w1 s
    have hl1 : w1.heap[l]? = some (.loop rc) := s1.has (l, .loop rc) (by simp)
    refine ⟨_, run_beginRound hl1 hst, ?_⟩
    have s2 : St w0 (w1.putObj l (.loop { rc with state := .busy })) ([(l, .loop { rc with state := .busy })] :: Hx) := s1.putB (s := 0) (k := 0) rfl _
    refine wpIn_mono (hbody m a1 _ (x.2 rfl) s2) ?_
    rintro e a2 w2 ⟨E2, H2, x2, s3, q2⟩
    cases e with
    | normal =>
      obtain ⟨Hy, hs2, rt⟩ := q2
      have s4 := hs2 w0 w2 s3
      have hl2 : w2.heap[l]? = some (.loop { rc with state := .busy }) := s4.has (l, .loop { rc with state := .busy }) (by simp)
      refine ⟨_, _, run_endRound none hl2, ?_⟩
      have s5 := s4.putB (s := 0) (k := 0) rfl (.loop rc)
      refine ⟨_, ?_, .inl ⟨rfl, Hy, rfl, rt⟩⟩
      have e : ({ { rc with state := .busy } with state := if (none : Option Code).isNone then .ready else .done, pending := none } : Loop) = rc := by
        cases rc; simp only at hst hpe; subst hst; subst hpe; rfl
      rw [e]; exact s5
    | ret =>
      obtain ⟨Hy, hs2, rt⟩ := q2
      have s4 := hs2 w0 w2 s3
      have hl2 : w2.heap[l]? = some (.loop { rc with state := .busy }) := s4.has (l, .loop { rc with state := .busy }) (by simp)
      refine ⟨_, _, run_endRound (some .ret) hl2, ?_⟩
      have s5 := s4.putB (s := 0) (k := 0) rfl (.loop { rc with state := .done, pending := some .ret })
      exact ⟨_, s5, .inr ⟨rfl, Hy, rfl, rt⟩⟩
    | _ => exact q2.elim
  | _ => exact q.elim
/-! ### The statement, and the function that holds it -/
def WpT (P : Program) (n : FN) (w0 : World) (c : Code) (Q0 : Exit → Act → World → Prop) (E : Env) (H : Hp) : Prop := ∀ a w, FrOk n E a → St w0 w H → c.wp P Q0 a w
@[reducible] def thruQ (n : FN) (w0 : World) (K : Env → Hp → Prop) (Q0 : Exit → Act → World → Prop) : Post := fun e E H => match e with
  | .normal => K E H
  | .panic _ => False
  | .outgrown => False
  | e => ∀ a w, FrOk n E a → St w0 w H → Q0 e a w
variable {Q0 : Exit → Act → World → Prop}
theorem T_seq {x y : Code} (h : WpC P n w0 x (thruQ n w0 (WpT P n w0 y Q0) Q0) E H) : WpT P n w0 (.seq x y) Q0 E H := fun a w ha hw => by
  refine wp_seq (wp_mono (h a w ha hw) ?_)
  rintro e a' w' ⟨E', H', x, s, q⟩
  cases e with
  | normal => exact q a' w' (x.2 rfl) s
  | panic _ => exact q.elim
  | outgrown => exact q.elim
  | exit id => exact q a' w' (x.2 rfl) s
  | goto id => exact q a' w' (x.2 rfl) s
  | ret => exact q a' w' (x.2 rfl) s
theorem T_seqT {x y : Code} (h : WpT P n w0 x (Exit.then (fun a w => y.wp P Q0 a w) Q0) E H) : WpT P n w0 (.seq x y) Q0 E H := fun a w ha hw => wp_seq (h a w ha hw)
theorem T_of {c : Code} (h : WpC P n w0 c (thruQ n w0 (fun E H => ∀ a w, FrOk n E a → St w0 w H → Q0 .normal a w) Q0) E H) : WpT P n w0 c Q0 E H := fun a w ha hw => by
  refine wp_mono (h a w ha hw) ?_
  rintro e a' w' ⟨E', H', x, s, q⟩
  cases e with
  | normal => exact q a' w' (x.2 rfl) s
  | panic _ => exact q.elim
  | outgrown => exact q.elim
  | exit id => exact q a' w' (x.2 rfl) s
  | goto id => exact q a' w' (x.2 rfl) s
  | ret => exact q a' w' (x.2 rfl) s
def mark (db : Nat) : List Deferred := [{ target := .collected db, args := #[] }]
def RR (w0 : World) (R : Ending → Hp → Prop) : Ending → World → Prop := fun e w' => ∃ H', St w0 w' H' ∧ R e H'
theorem T_range {k b0 f : Nat} {g : Operand} {ps : Array Tmp} {assign body : Code} {cap : List Value} {KN KX : Hp → Prop} (hg : ev E g = some (.func (.func f) #[] cap.toArray)) (hc : ∀ args w, (callFunc f args).run P w = .ok (.enter f args) w)
    (call : ∀ l db fn tmps (rc : Loop), rc = { state := .ready, pending := none, fn, tmps, params := ps, assign, body, defers := db } → FrOk ⟨k, []⟩ E { tmps := tmps, defers := [] } → FnS P w0 f (#[.func (.yield l) #[] #[]] ++ cap.toArray)
      ([(l, .loop rc)] :: [(db, .deferred (some []))] :: H)
      fun e H' => (∃ v, e = .returned v) ∧ ((∃ Hr, H' = [(l, .loop rc)] :: [(db, .deferred (some []))] :: Hr ∧ KN Hr) ∨
        (∃ Hr, H' = [(l, .loop { rc with state := .done, pending := some .ret })] :: [(db, .deferred (some []))] :: Hr ∧ KX Hr)))
    (normal : ∀ db Hr a w, KN Hr → FrOk ⟨k, mark db⟩ E a → St w0 w ([(db, .deferred (some []))] :: Hr) → Q0 .normal a w)
    (ret : ∀ db Hr a w, KX Hr → FrOk ⟨k, mark db⟩ E a → St w0 w ([(db, .deferred (some []))] :: Hr) → Q0 .ret a w) :
    WpT P ⟨k, []⟩ w0 (.block b0 (.rangeFunc g ps assign body)) Q0 E H := fun a w ha hw => by
  refine wp_block ((wpIn_wide (n := 0)).1 (wpIn_rangeFunc fun fn _ => ?_))
  have hd : a.defers = [] := ha.defers
  have hinv : ∀ y w1, (invoke (.fn (.func f) cap.toArray) #[y]).run P w1 = .ok (.enter f (#[y] ++ cap.toArray)) w1 := fun y w1 => by
    simp only [invoke]; exact hc _ _
  have hfr : FrOk ⟨k, []⟩ E { tmps := a.tmps, defers := [] } := ⟨rfl, ha.size, ha.known⟩
  refine ⟨w.heap.size + 1, mark w.heap.size, ((w.alloc (.deferred (some []))).alloc (.loop { state := .ready, pending := none, fn, tmps := a.tmps, params := ps, assign, body, defers := w.heap.size })), ⟨.fn (.func f) cap.toArray, #[.func (.yield (w.heap.size + 1)) #[] #[]]⟩, ((w.alloc (.deferred (some []))).alloc (.loop { state := .ready, pending := none, fn, tmps := a.tmps, params := ps, assign, body, defers := w.heap.size })), f, #[.func (.yield (w.heap.size + 1)) #[] #[]] ++ cap.toArray, ((w.alloc (.deferred (some []))).alloc (.loop { state := .ready, pending := none, fn, tmps := a.tmps, params := ps, assign, body, defers := w.heap.size })), run_enterLoop_outer fn a.tmps ps assign body, ?_, fun _ _ => trivial, hinv _ _, fun h => Bool.noConfusion (show false = true from h), ?_⟩
  · have e2 := ha.eval hg
    simp only [resolve, rangeCall, e2, Deferred.ofValue]
    simp [Act.eval]
  · refine callsIn_wide.2 ((call (w.heap.size + 1) w.heap.size fn a.tmps _ rfl hfr _ ?_).mono ?_)
    · have s1 := hw.alloc (.deferred (some []))
      have s2 := s1.alloc (.loop { state := .ready, pending := none, fn, tmps := a.tmps, params := ps, assign, body, defers := w.heap.size })
      rw [World.size_alloc] at s2
      exact s2
    · rintro e w' ⟨H', s, ⟨v, rfl⟩, hor⟩
      rcases hor with ⟨Hr, rfl, kn⟩ | ⟨Hr, rfl, kx⟩
      · have hl := s.has (w.heap.size + 1, _) (by simp; exact .inl rfl)
        refine ⟨_, _, run_endLoop hl (by simp), ?_⟩
        have s2 := s.putB (s := 0) (k := 0) rfl (.loop { state := .exhausted, pending := none, fn, tmps := a.tmps, params := ps, assign, body, defers := w.heap.size })
        exact normal _ Hr _ _ kn ⟨by simp [hd], ha.size, ha.known⟩ ((HSub.drop _ _) w0 _ s2)
      · have hl := s.has (w.heap.size + 1, _) (by simp; exact .inl rfl)
        refine ⟨_, _, run_endLoop hl (by simp), ?_⟩
        have s2 := s.putB (s := 0) (k := 0) rfl (.loop { state := .exhausted, pending := some .ret, fn, tmps := a.tmps, params := ps, assign, body, defers := w.heap.size })
        exact (wpIn_wide (n := 0)).2 (wp_ret (ret _ Hr _ _ kx ⟨by simp [hd], ha.size, ha.known⟩ ((HSub.drop _ _) w0 _ s2)))
/-- The way out, behind such a loop. -/
theorem M_mark {k db : Nat} {fn : Func} {rs : List ResultVar} {vs : List Value} {R : Ending → Hp → Prop} {m : Nat} {a : Act} {w : World} (hr : fn.results.toList = rs) (ha : FrOk ⟨k, mark db⟩ E a) (hw : St w0 w ([(db, .deferred (some []))] :: H)) (hrv : RV P w0 E H rs vs) (hs : HSub H' H) (hR : R (.returned (pack vs)) H') :
    LeavesInM Fence.wide m P fn a.tmps (RR w0 R) a.defers .returning w := by
  rw [ha.defers]
  have hl : w.heap[db]? = some (.deferred (some [])) := hw.has (db, .deferred (some [])) (by simp)
  have s2 := (HSub.drop _ _) w0 _ (hw.putB (s := 0) (k := 0) rfl (.deferred none))
  have ha' : FrOk ⟨k, []⟩ E { tmps := a.tmps, defers := [] } := ⟨rfl, ha.size, ha.known⟩
  exact ⟨by simp, .inl ⟨db, _, rfl, run_takeDeferred hl, _, run_results (a := { tmps := a.tmps, defers := [] }) ha' s2 (hr ▸ hrv), H', hs w0 _ s2, hR⟩⟩
theorem FnSM_intro {k f : Nat} {fn : Func} {c : Code} {vs : List Value} {R : Ending → Hp → Prop} (hf : P.funcs[f]? = some fn) (hb : fn.body = some c) (hn : fn.ntmps = k)
    (hlen : Nat.ble vs.length k = true) (h : WpT P ⟨k, []⟩ w0 c (bodyPostM Fence.wide 0 P fn (RR w0 R)) (args0 vs 0) H) : FnS P w0 f vs.toArray H R := fun w hw => by
  refine callsIn_wide.1 (callsIn_of_wp_marks (n := 0) hf hb trivial ((wpIn_wide).2 (h _ w (args_ok hn (Nat.le_of_ble_eq_true hlen)) hw)))
theorem YS.mono {l : Nat} {args : Array Value} {R R' : Ending → Hp → Prop} (h : YS P w0 l args H R) (hr : ∀ e H', R e H' → R' e H') : YS P w0 l args H R' := fun m w hw => by
  obtain ⟨fn, tmps, assign, body, h1, h2⟩ := h m w hw
  exact ⟨fn, tmps, assign, body, h1, h2.mono fun e w' ⟨H', s, r⟩ => ⟨H', s, hr e H' r⟩⟩
theorem YS.sub {l : Nat} {args : Array Value} {R : Ending → Hp → Prop} (hs : HSub H' H) (h : YS P w0 l args H' R) : YS P w0 l args H R := fun m w hw => h m w (hs w0 w hw)
theorem frOk_two {k p q : Nat} {u v : Value} {tmps : Array Value} (h : FrOk ⟨k, []⟩ E { tmps := tmps, defers := [] }) (hp : p < k) (hq : q < k) :
    FrOk ⟨k, []⟩ ((q, u) :: (p, v) :: E) { tmps := ((#[p, q] : Array Nat).zip [v, u].toArray).foldl (fun tmps (t, a) => tmps.setIfInBounds t a) tmps, defers := [] } := by
  have h1 := h.put (d := some p) (by simp [dok, Nat.blt]; exact hp) v
  have h2 := h1.put (d := some q) (by simp [dok, Nat.blt]; exact hq) u
  have e : ((#[p, q] : Array Nat).zip [v, u].toArray).foldl (fun tmps (t, a) => tmps.setIfInBounds t a) tmps = (tmps.setIfInBounds p v).setIfInBounds q u := by simp
  rw [e]
  exact h2
end Go.Sl

/- walks (own work; the walks' lines by a program of this repo). -/
set_option linter.unusedVariables false
set_option linter.unusedSimpArgs false
set_option maxRecDepth 20000
namespace Go.Proofs.Ytighbhplfjjgpaa
open Go.Sl
attribute [local irreducible] BodyQ WpC WpL WpS WpH OpW FnS


theorem read_down {w0 : World} {H : Hp} {d : Dv} {p : Pw} (hD : Sees (fun w => St w0 w H) d.b (.cells d.cells.toArray dt.dev)) (hP : Sees (fun w => St w0 w H) d.pw (.cells p.cells.toArray dt.pow)) (n : Int) (hdn : (d.a.out || p.a.off) = true) : FnS Try.prog w0 63 #[ptr d.b, .int .i64 n] H (fun e H' => e = .returned (.tuple #[.agg (bs (secOf 0)).toArray, .int .i64 13]) ∧ H' = H) := by
  refine FnS_intro (n := 42) (rs := [.cell 4 114, .cell 5 27]) (vs := [ptr d.b, .int .i64 n]) Try.func63 rfl Try.ntmps63 rfl rfl ?_
  refine C_seq (C_region ?_)
  refine L_op rfl (op_box rfl rfl rfl (fun B1 => ?_))
  refine L_op rfl (op_alloc zl_114 rfl (fun B2 => ?_))
  refine L_op rfl (op_alloc zl_27 rfl (fun B3 => ?_))
  refine L_nil (C_seq (C_block (C_seq (C_region (LY rfl (y_move rfl) ?_)))))
  refine LY rfl (y_eqp rfl rfl Try.underlying54) ?_
  refine LY rfl (y_assign rfl) (L_nil (C_cond_f rfl (C_seq (C_region (LY rfl (y_move rfl) ?_)))))
  refine L_op rfl (op_call rfl rfl (fun a w => Try.call79 a w) rfl ?_)
  refine (down_s d p (hD.up.up.up) (hP.up.up.up)).mono ?_
  rintro _ _ ⟨rfl, rfl⟩
  rw [hdn]
  refine ⟨_, rfl, ?_⟩
  refine LY rfl (y_assign rfl) (L_nil (C_cond_t rfl (C_seq (C_region ?_))))
  refine LY rfl (y_buildA0 Try.underlying114 sz_5 zl_114) ?_
  refine L_op rfl (op_storeA 1 0 rfl rfl rfl sz_114 (by simp) rfl (by rw [zsec]; exact bs_one _) (by simp) ?_)
  rw [zsec]
  refine L_op rfl (op_store1 0 0 rfl rfl rfl sz_27 rfl (Nat.le_of_ble_eq_true rfl) ?_)
  refine L_nil (C_ret ?_)
  refine B_ret (rv_cellA rfl ag_114 sz_114 (sees 1 0 rfl) (by rw [bs_length, secOf_len]; decide) (bs_whole0 _ (secOf_len 0)) (rv_cell1 rfl ag_27 (sees 0 0 rfl) rfl rv_nil)) (hsub (.cons _ (.cons _ (.cons _ (.refl _))))) ?_
  exact ⟨rfl, rfl⟩

theorem read_out {w0 : World} {H : Hp} {d : Dv} {p : Pw} (hD : Sees (fun w => St w0 w H) d.b (.cells d.cells.toArray dt.dev)) (hP : Sees (fun w => St w0 w H) d.pw (.cells p.cells.toArray dt.pow)) (n : Int) (hdn : (d.a.out || p.a.off) = false) (hth : (decide (0 ≤ n) && decide (n < d.a.S.length)) = false) : FnS Try.prog w0 63 #[ptr d.b, .int .i64 n] H (fun e H' => e = .returned (.tuple #[.agg (bs (secOf 0)).toArray, .int .i64 2]) ∧ H' = H) := by
  refine FnS_intro (n := 42) (rs := [.cell 4 114, .cell 5 27]) (vs := [ptr d.b, .int .i64 n]) Try.func63 rfl Try.ntmps63 rfl rfl ?_
  refine C_seq (C_region ?_)
  refine L_op rfl (op_box rfl rfl rfl (fun B1 => ?_))
  refine L_op rfl (op_alloc zl_114 rfl (fun B2 => ?_))
  refine L_op rfl (op_alloc zl_27 rfl (fun B3 => ?_))
  refine L_nil (C_seq (C_block (C_seq (C_region (LY rfl (y_move rfl) ?_)))))
  refine LY rfl (y_eqp rfl rfl Try.underlying54) ?_
  refine LY rfl (y_assign rfl) (L_nil (C_cond_f rfl (C_seq (C_region (LY rfl (y_move rfl) ?_)))))
  refine L_op rfl (op_call rfl rfl (fun a w => Try.call79 a w) rfl ?_)
  refine (down_s d p (hD.up.up.up) (hP.up.up.up)).mono ?_
  rintro _ _ ⟨rfl, rfl⟩
  rw [hdn]
  refine ⟨_, rfl, ?_⟩
  refine LY rfl (y_assign rfl) (L_nil (C_cond_f rfl (C_seq (C_region (LY rfl (y_move rfl) (LY rfl (y_load rfl ag_3 (sees 2 0 rfl) rfl) ?_))))))
  refine L_op rfl (op_call rfl rfl (fun a w => Try.call80 a w) rfl ?_)
  refine (there_s d _ (hD.up.up.up)).mono ?_
  rintro _ _ ⟨rfl, rfl⟩
  rw [hth]
  refine ⟨_, rfl, ?_⟩
  refine LY rfl (y_not rfl) (LY rfl (y_assign rfl) (L_nil (C_cond_t rfl (C_seq (C_region ?_)))))
  refine LY rfl (y_buildA0 Try.underlying114 sz_5 zl_114) ?_
  refine L_op rfl (op_storeA 1 0 rfl rfl rfl sz_114 (by simp) rfl (by rw [zsec]; exact bs_one _) (by simp) ?_)
  rw [zsec]
  refine L_op rfl (op_store1 0 0 rfl rfl rfl sz_27 rfl (Nat.le_of_ble_eq_true rfl) ?_)
  refine L_nil (C_ret ?_)
  refine B_ret (rv_cellA rfl ag_114 sz_114 (sees 1 0 rfl) (by rw [bs_length, secOf_len]; decide) (bs_whole0 _ (secOf_len 0)) (rv_cell1 rfl ag_27 (sees 0 0 rfl) rfl rv_nil)) (hsub (.cons _ (.cons _ (.cons _ (.refl _))))) ?_
  exact ⟨rfl, rfl⟩

theorem backward_s {w0 : World} {H : Hp} {g : Option SlG} {m : Nat} : FnS Try.prog w0 81 #[slV g m] H (fun e H' => ∃ B, e = .returned (.func (.func 94) #[] #[ptr B]) ∧ H' = [(B, .cells [slV g m].toArray 99)] :: H) := by
  refine FnS_intro (n := 4) (rs := [.tmp 2]) (vs := [slV g m]) Try.func81 rfl Try.ntmps81 rfl rfl ?_
  refine C_seq (C_region ?_)
  refine L_op rfl (op_box (l := [slV g m]) rfl (by cases g <;> rfl) rfl (fun B1 => ?_))
  refine LY rfl (y_assign rfl) (L_nil (C_seq (C_region ?_)))
  refine LY rfl (y_makeFunc rfl rfl) ?_
  refine LY rfl (y_assign rfl) (L_nil (C_ret ?_))
  refine B_ret (rv_tmp rfl rv_nil) (HSub.refl _) ?_
  exact ⟨B1, rfl, rfl⟩

theorem iter_s {w0 : World} {y B : Nat} {g : Option SlG} {Q : List (Nat × Sec)} (HR : Nat → Hp) (I : Nat → Prop) (X : Hp → Prop) (hq : slOk 129 g Q.length (wcs Q)) (hl : Q.length ≤ 100000) (hQ128 : ∀ x ∈ Q, x.2.length = 128) (hI : I Q.length) (hB : ∀ i, Sees (fun w => St w0 w (HR i)) B (.cells [slV g Q.length].toArray 99)) (hQ : ∀ gg i, g = some gg → Sees (fun w => St w0 w (HR i)) gg.b (.cells (wcs Q ++ gg.sp).toArray 130)) (hround : ∀ i x, Q[i]? = some x → I (i + 1) → YS Try.prog w0 y #[.int .i64 (i : Int), .agg (.int .i64 (x.1 : Int) :: bs x.2).toArray] (HR (i + 1)) (fun e H' => ∃ b, e = .returned (.bool b) ∧ (b = true → H' = HR i ∧ I i) ∧ (b = false → X H'))) : FnS Try.prog w0 94 #[.func (.yield y) #[] #[], ptr B] (HR Q.length) (fun e H' => e = .returned (.tuple #[]) ∧ ((H' = HR 0 ∧ I 0) ∨ X H')) := by
  refine FnSI_intro (k := 19) (rs := []) (vs := [.func (.yield y) #[] #[], ptr B]) Try.func94 rfl Try.ntmps94 rfl rfl ?_
  refine CI_seq ?_
  refine CI_region ?_
  refine LI_y rfl (y_load rfl ag_99 (hB _) rfl) rfl ?_
  refine LI_y rfl (y_lenV hq rfl rfl Try.underlying99) rfl ?_
  refine LI_y rfl (y_sub rfl rfl (wi64 (by omega) (by omega))) rfl ?_
  refine LI_y rfl (y_assign rfl) rfl ?_
  refine LI_nil ?_
  refine CI_block ?_
  refine CI_loop (ι := Nat) (fun i => [(0, .func (.yield y) #[] #[]), (1, ptr B), (3, .int .i64 ((i : Int) - 1))]) (fun i => HR i) (fun i => i ≤ Q.length ∧ I i) (fun i => i) Q.length ⟨Nat.le_refl _, hI⟩ ⟨rfl, rfl, rfl, trivial⟩ (HSub.refl _) (fun i hi => ?_)
  skip
  refine CI_seq ?_
  refine CI_seq ?_
  refine CI_region ?_
  refine LI_y rfl (y_move rfl) rfl ?_
  refine LI_y rfl (y_geq rfl rfl) rfl ?_
  refine LI_nil ?_
  refine CI_cond rfl (fun hc0 => ?_) (fun hc0 => ?_)
  · replace hc0 := of_decide_eq_true hc0
    refine CI_skip ?_
    refine CI_seq ?_
    refine CI_block ?_
    refine CI_seq ?_
    obtain ⟨j, rfl⟩ : ∃ j, i = j + 1 := ⟨i - 1, by omega⟩
    rw [show (((j + 1 : Nat) : Int) - 1) = (j : Int) from by omega]
    obtain ⟨x, hx⟩ : ∃ x, Q[j]? = some x := ⟨_, List.getElem?_eq_getElem (by omega)⟩
    have hwl := wcs_len hQ128
    cases g with
    | none => exact absurd hq.2 (by omega)
    | some g => ?_
    refine CI_region ?_
    refine LI_y rfl (y_move rfl) rfl ?_
    refine LI_y rfl (y_move rfl) rfl ?_
    refine LI_y rfl (y_load rfl ag_99 (hB _) rfl) rfl ?_
    refine LI_y rfl (y_move rfl) rfl ?_
    refine LI_y rfl (y_indexS rfl rfl Try.underlying99 sz_130 (by omega) (by omega) (show _ = j * 129 from by simp)) rfl ?_
    refine LI_y rfl (y_loadA rfl ag_130 sz_130 (hQ g _ rfl) (by rw [List.length_append, hwl]; omega) (wcs_get _ hQ128 hx)) rfl ?_
    refine LI_yield rfl rfl rfl ((hround j x hx hi.2).mono ?_)
    rintro e H2 ⟨b, rfl, hT, hX⟩
    refine ⟨_, rfl, ?_⟩
    refine LI_y rfl (y_not rfl) rfl ?_
    refine LI_nil ?_
    refine CI_cond rfl (fun hc1 => ?_) (fun hc1 => ?_)
    · have hb : b = false := by simpa using hc1
      refine CI_ret ?_
      refine B_ret rv_nil (HSub.refl _) ?_
      first
      | exact ⟨rfl, .inr (hX hb)⟩
      | (obtain rfl : i = 0 := by omega
         exact ⟨rfl, .inl ⟨rfl, hi.2⟩⟩)
    · have hb : b = true := by simpa using hc1
      refine CI_skip ?_
      refine CI_region ?_
      refine LI_y rfl (y_move rfl) rfl ?_
      refine LI_y rfl (y_sub rfl rfl (wi64 (by omega) (by omega))) rfl ?_
      refine LI_y rfl (y_assign rfl) rfl ?_
      refine LI_nil ?_
      exact ⟨j, ⟨by omega, (hT hb).2⟩, by omega, ⟨rfl, rfl, rfl, trivial⟩, by rw [(hT hb).1]; exact HSub.refl _⟩
  · replace hc0 := of_decide_eq_false hc0
    refine CI_exit ?_
    refine B_end rv_nil (HSub.refl _) ?_
    first
    | exact ⟨rfl, .inr (hX hb)⟩
    | (obtain rfl : i = 0 := by omega
       exact ⟨rfl, .inl ⟨rfl, hi.2⟩⟩)

theorem read_go {w0 : World} {H : Hp} {d : Dv} {p : Pw} (hd : d.ok) (hD : Sees (fun w => St w0 w H) d.b (.cells d.cells.toArray dt.dev)) (hP : Sees (fun w => St w0 w H) d.pw (.cells p.cells.toArray dt.pow)) (hT : Sees (fun w => St w0 w H) d.st (.cells (bs d.a.S.flatten).toArray dt.sec)) (hQs : ∀ gg, d.g = some gg → Sees (fun w => St w0 w H) gg.b (.cells (wcs d.a.Q ++ gg.sp).toArray dt.wr)) (n : Nat) (hn : n < d.a.S.length) (hdn : (d.a.out || p.a.off) = false) :
    FnS Try.prog w0 63 #[ptr d.b, .int .i64 (n : Int)] H (fun e H' => e = .returned (.tuple #[.agg (bs (d.a.read n)).toArray, .int .i64 0]) ∧ H' = H) := by
  have hth : (decide ((0 : Int) ≤ (n : Int)) && decide ((n : Int) < d.a.S.length)) = true := by simp; omega
  obtain ⟨s, hs⟩ : ∃ s, d.a.S[n]? = some s := ⟨_, List.getElem?_eq_getElem hn⟩
  have hs1 := hd.1.1 s (List.mem_of_getElem? hs)
  have hfl := flat_len hd.1.1
  have hQ128 : ∀ x ∈ d.a.Q, x.2.length = 128 := fun x hx => (hd.1.2.2.1 x hx).2
  refine FnSM_intro (k := 42) (vs := [ptr d.b, .int .i64 (n : Int)]) Try.func63 rfl Try.ntmps63 rfl ?_
  refine T_seq ?_
  refine C_region ?_
  refine L_op rfl (op_box rfl rfl rfl (fun B1 => ?_))
  refine L_op rfl (op_alloc zl_114 rfl (fun B2 => ?_))
  refine L_op rfl (op_alloc zl_27 rfl (fun B3 => ?_))
  refine L_nil ?_
  refine T_seq ?_
  refine C_block (C_seq (C_region (LY rfl (y_move rfl) ?_)))
  refine LY rfl (y_eqp rfl rfl Try.underlying54) ?_
  refine LY rfl (y_assign rfl) (L_nil (C_cond_f rfl (C_seq (C_region (LY rfl (y_move rfl) ?_)))))
  refine L_op rfl (op_call rfl rfl (fun a w => Try.call79 a w) rfl ?_)
  refine (down_s d p (hD.up.up.up) (hP.up.up.up)).mono ?_
  rintro _ _ ⟨rfl, rfl⟩
  rw [hdn]
  refine ⟨_, rfl, ?_⟩
  refine LY rfl (y_assign rfl) (L_nil (C_cond_f rfl (C_seq (C_region (LY rfl (y_move rfl) (LY rfl (y_load rfl ag_3 (sees 2 0 rfl) rfl) ?_))))))
  refine L_op rfl (op_call rfl rfl (fun a w => Try.call80 a w) rfl ?_)
  refine (there_s d _ (hD.up.up.up)).mono ?_
  rintro _ _ ⟨rfl, rfl⟩
  rw [hth]
  refine ⟨_, rfl, ?_⟩
  refine LY rfl (y_not rfl) (LY rfl (y_assign rfl) (L_nil (C_cond_f rfl (C_skip ?_))))
  refine T_seqT ?_
  refine T_seq ?_
  refine C_region (LY rfl (y_move rfl) (LY rfl (y_nilCheck rfl) (LY rfl (y_fieldAddr rfl fl_101_2) ?_)))
  refine LY rfl (y_load rfl ag_99 (hD.up.up.up) rfl) ?_
  refine L_op rfl (op_call rfl rfl (fun a w => Try.call81 a w) rfl ?_)
  refine backward_s.mono ?_
  rintro _ _ ⟨B4, rfl, rfl⟩
  refine ⟨_, rfl, ?_⟩
  refine L_nil ?_
  refine T_range (f := 94) (cap := [ptr B4]) (KN := fun Hr => Hr = ([(B4, .cells [slV d.g d.a.Q.length].toArray 99)] :: [(B3, .cells [Value.int .i64 0].toArray 27)] :: [(B2, .cells (List.replicate 128 (Value.int .u8 0)).toArray 114)] :: [(B1, .cells [Value.int .i64 (n : Int)].toArray 3)] :: H) ∧ noneFrom d.a.Q n 0) (KX := fun Hr => ∃ (i : Nat) (x : Nat × Sec), d.a.Q[i]? = some x ∧ x.1 = n ∧ noneFrom d.a.Q n (i + 1) ∧ Hr = ([(B4, .cells [slV d.g d.a.Q.length].toArray 99)] :: [(B3, .cells [Value.int .i64 0].toArray 27)] :: [(B2, .cells (bs x.2).toArray 114)] :: [(B1, .cells [Value.int .i64 (n : Int)].toArray 3)] :: H)) rfl (fun a w => Try.call94 a w) (fun l db fn tmps rc hrc hfr => ?_) (fun db Hr a w hk ha hw => ?_) (fun db Hr a w hk ha hw => ?_)
  · refine (iter_s (g := d.g) (Q := d.a.Q) (fun _ => [(l, .loop rc)] :: [(db, .deferred (some []))] :: ([(B4, .cells [slV d.g d.a.Q.length].toArray 99)] :: [(B3, .cells [Value.int .i64 0].toArray 27)] :: [(B2, .cells (List.replicate 128 (Value.int .u8 0)).toArray 114)] :: [(B1, .cells [Value.int .i64 (n : Int)].toArray 3)] :: H)) (noneFrom d.a.Q n) (fun H' => ∃ (i : Nat) (x : Nat × Sec), d.a.Q[i]? = some x ∧ x.1 = n ∧ noneFrom d.a.Q n (i + 1) ∧ H' = [(l, .loop { rc with state := .done, pending := some .ret })] :: [(db, .deferred (some []))] :: ([(B4, .cells [slV d.g d.a.Q.length].toArray 99)] :: [(B3, .cells [Value.int .i64 0].toArray 27)] :: [(B2, .cells (bs x.2).toArray 114)] :: [(B1, .cells [Value.int .i64 (n : Int)].toArray 3)] :: H)) hd.2.1 hd.2.2 hQ128 (noneFrom_len _ _) (fun i => sees 2 0 rfl) (fun gg i hg => (hQs gg hg).up.up.up.up.up.up) (fun i x hx hI => ?_)).mono ?_
    · subst hrc
      have hx128 := hQ128 x (List.mem_of_getElem? hx)
      refine (round_s (k := 42) (RT := fun b Hx => if b then Hx = [(db, .deferred (some []))] :: ([(B4, .cells [slV d.g d.a.Q.length].toArray 99)] :: [(B3, .cells [Value.int .i64 0].toArray 27)] :: [(B2, .cells (List.replicate 128 (Value.int .u8 0)).toArray 114)] :: [(B1, .cells [Value.int .i64 (n : Int)].toArray 3)] :: H) ∧ x.1 ≠ n else Hx = [(db, .deferred (some []))] :: ([(B4, .cells [slV d.g d.a.Q.length].toArray 99)] :: [(B3, .cells [Value.int .i64 0].toArray 27)] :: [(B2, .cells (bs x.2).toArray 114)] :: [(B1, .cells [Value.int .i64 (n : Int)].toArray 3)] :: H) ∧ x.1 = n) rfl rfl rfl (frOk_two hfr (by decide) (by decide)) ?_).mono ?_
      · refine CI_region ?_
        refine LI_op rfl rfl (op_alloc zl_130 rfl (fun B5 => ?_))
        refine LI_op rfl rfl (op_storeA 0 0 rfl rfl rfl sz_130 (by simp [bs_length, hx128]) rfl (one_wr _ _) rfl ?_)
        refine LI_nil ?_
        refine ⟨_, hsub_pick [1] rfl, ?_⟩
        refine CI_block ?_
        refine CI_seq ?_
        refine CI_region ?_
        refine LI_y rfl (y_fieldAddr rfl fl_130_0) rfl ?_
        refine LI_y rfl (y_load rfl ag_3 (sees 1 0 rfl) rfl) rfl ?_
        refine LI_y rfl (y_load rfl ag_3 (sees 6 0 rfl) rfl) rfl ?_
        refine LI_y rfl (y_eqi rfl rfl) rfl ?_
        refine LI_nil ?_
        refine CI_cond rfl (fun hc3 => ?_) (fun hc3 => ?_)
        · replace hc3 : x.1 = n := by have := of_decide_eq_true hc3; omega
          refine CI_seq ?_
          refine CI_region ?_
          refine LI_y rfl (y_fieldAddr rfl fl_130_1) rfl ?_
          refine LI_y rfl (y_loadA rfl ag_114 sz_114 (sees 1 0 rfl) (by simp [bs_length, hx128]) (bs_whole x.2 hx128)) rfl ?_
          refine LI_op rfl rfl (op_storeA 5 0 rfl rfl rfl sz_114 (by rw [bs_length, hx128]) rfl (bs_one _) (by simp) ?_)
          refine LI_op rfl rfl (op_store1 4 0 rfl rfl rfl sz_27 rfl (Nat.le_of_ble_eq_true rfl) ?_)
          refine LI_nil ?_
          refine CI_ret ?_
          exact ⟨[(db, .deferred (some []))] :: ([(B4, .cells [slV d.g d.a.Q.length].toArray 99)] :: [(B3, .cells [Value.int .i64 0].toArray 27)] :: [(B2, .cells (bs x.2).toArray 114)] :: [(B1, .cells [Value.int .i64 (n : Int)].toArray 3)] :: H), hsub (.cons_cons _ (.cons _ (.refl _))), rfl, hc3⟩
        · replace hc3 : x.1 ≠ n := by have := of_decide_eq_false hc3; omega
          refine CI_skip ?_
          exact ⟨[(db, .deferred (some []))] :: ([(B4, .cells [slV d.g d.a.Q.length].toArray 99)] :: [(B3, .cells [Value.int .i64 0].toArray 27)] :: [(B2, .cells (List.replicate 128 (Value.int .u8 0)).toArray 114)] :: [(B1, .cells [Value.int .i64 (n : Int)].toArray 3)] :: H), hsub (.cons_cons _ (.cons _ (.refl _))), rfl, hc3⟩
      · rintro e H' (⟨rfl, Hx, rfl, rt⟩ | ⟨rfl, Hx, rfl, rt⟩)
        · obtain ⟨rfl, hne⟩ := rt
          exact ⟨true, rfl, fun _ => ⟨rfl, noneFrom_step hI hx hne⟩, fun h => Bool.noConfusion h⟩
        · obtain ⟨rfl, he⟩ := rt
          exact ⟨false, rfl, fun h => Bool.noConfusion h, fun _ => ⟨i, x, hx, he, hI, rfl⟩⟩
    · rintro e H' ⟨rfl, (⟨rfl, hI⟩ | ⟨i, x, hx, he, hI, rfl⟩)⟩
      · exact ⟨⟨_, rfl⟩, .inl ⟨_, rfl, rfl, hI⟩⟩
      · exact ⟨⟨_, rfl⟩, .inr ⟨_, rfl, i, x, hx, he, hI, rfl⟩⟩
  · obtain ⟨rfl, hk⟩ := hk
    refine (?_ : WpT _ ⟨42, Go.Sl.mark db⟩ w0 _ _ _ _) a w ha hw
    clear ha hw
    refine T_seq ?_
    refine C_regionT 7 (by kernel_rfl) (by kernel_rfl) ?_
    refine S_y rfl (y_move rfl) rfl ?_
    refine S_y rfl (y_nilCheck rfl) rfl ?_
    refine S_y rfl (y_fieldAddr rfl fl_101_1) rfl ?_
    refine S_y rfl (y_load rfl ag_98 (hD.up.up.up.up.up) rfl) rfl ?_
    refine S_y rfl (y_load rfl ag_3 (sees 4 0 rfl) rfl) rfl ?_
    refine S_y rfl (y_indexS rfl rfl Try.underlying98 sz_114 (by omega) (by omega) (show _ = n * 128 from by simp)) rfl ?_
    refine S_y rfl (y_loadA rfl ag_114 sz_114 (hT.up.up.up.up.up) (by rw [bs_length, hfl]; omega) (show _ = bs s from by rw [bs_drop, bs_take, flat_sec hd.1.1 hs])) rfl ?_
    refine S_nil ?_
    refine L_op rfl (op_storeA 3 0 rfl rfl rfl sz_114 (by rw [bs_length, hs1]) rfl (bs_one _) (by simp) ?_)
    refine L_op rfl (op_store1 2 0 rfl rfl rfl sz_27 rfl (Nat.le_of_ble_eq_true rfl) ?_)
    refine L_nil ?_
    refine T_of ?_
    refine C_ret ?_
    intro a w ha hw
    exact M_mark rfl ha hw (rv_cellA rfl ag_114 sz_114 (sees 2 0 rfl) (by rw [bs_length, hs1]; decide) (bs_whole0 s hs1) (rv_cell1 rfl ag_27 (sees 1 0 rfl) rfl rv_nil)) (hsub (.cons _ (.cons _ (.cons _ (.cons _ (.refl _)))))) ⟨by rw [show d.a.read n = s from by simp [Ab.read, lastW_none hk, List.getD, hs]]; rfl, rfl⟩
  · obtain ⟨i, x, hx, he, hI, rfl⟩ := hk
    have hx128 := hQ128 x (List.mem_of_getElem? hx)
    exact M_mark rfl ha hw (rv_cellA rfl ag_114 sz_114 (sees 2 0 rfl) (by rw [bs_length, hx128]; decide) (bs_whole0 x.2 hx128) (rv_cell1 rfl ag_27 (sees 1 0 rfl) rfl rv_nil)) (hsub (.cons _ (.cons _ (.cons _ (.cons _ (.refl _)))))) ⟨by rw [show d.a.read n = x.2 from by simp [Ab.read, lastW_found hI hx he]]; rfl, rfl⟩

end Go.Proofs.Ytighbhplfjjgpaa

/- walks (own work; the walks' lines by a program of this repo). -/
set_option linter.unusedVariables false
set_option linter.unusedSimpArgs false
set_option maxRecDepth 20000
namespace Go.Proofs.Ytighbhplfjjgpaa
open Go.Sl
attribute [local irreducible] BodyQ WpC WpL WpS WpH OpW FnS


theorem write_l {w0 : World} {H : Hp} {L R : List Dv} {d : Dv} {p : Pw} {b : Nat} (hG : GOk dt p L d R) (hb : d.b = b) (n : Int) (s : Sec) (hs : s.length = 128) (hQ : d.a.Q.length < 100000) :
    FnS Try.prog w0 82 #[ptr b, .int .i64 n, .agg (bs s).toArray] (opn dt d p (L ++ R) H) (fun e H' => e = .returned (.int .i64 (writeE d.a p.a n)) ∧ ∃ d' p' L' R', GOk dt p' L' d' R' ∧ d'.b = b ∧ d'.a = writeA d.a p.a n s ∧ p'.b = p.b ∧ p'.a = writeP d.a p.a n ∧ Mv (wgo d.a p.a n) p.a L L' ∧ Mv (wgo d.a p.a n) p.a R R' ∧ H' = opn dt d' p' (L' ++ R') H) := by
  subst hb
  cases hdn : d.a.down p.a with
  | true =>
    refine (write_down (sees 0 0 rfl) (hG.hb ▸ sees 3 0 rfl) n s hdn).mono ?_
    rintro _ _ ⟨rfl, rfl⟩
    refine ⟨ret_int (by simp [writeE, hdn]), d, p, L, R, hG, rfl, by simp [writeA, wgo, hdn], rfl, by simp [writeP, wgo, hdn], ?_, ?_, rfl⟩ <;> simp [wgo, hdn, Mv.same]
  | false =>
    cases hth : d.a.has n with
    | false =>
      refine (write_out (sees 0 0 rfl) (hG.hb ▸ sees 3 0 rfl) n s hdn hth).mono ?_
      rintro _ _ ⟨rfl, rfl⟩
      refine ⟨ret_int (by simp [writeE, hdn, hth]), d, p, L, R, hG, rfl, by simp [writeA, wgo, hth], rfl, by simp [writeP, wgo, hth], ?_, ?_, rfl⟩ <;> simp [wgo, hth, Mv.same]
    | true =>
      have hn : 0 ≤ n ∧ n < d.a.S.length := by simpa [Ab.has] using hth
      obtain ⟨m, rfl⟩ : ∃ m : Nat, n = m := ⟨n.toNat, by omega⟩
      refine (write_go hG m s (by omega) hs hQ hdn).mono ?_
      rintro _ _ ⟨g', hok, rfl, rfl⟩
      have hw : wgo d.a p.a (m : Int) = true := by simp [wgo, hdn, hth]
      refine ⟨ret_int (by simp [writeE, hdn, hth]), _, _, _, _, (((hG.set rfl rfl hok : GOk dt p L (d.wr m s g') R).step p.a).stepp), (Dv.step_b _ _), ?_, rfl, ?_, ?_, ?_, ?_⟩
      · rw [Dv.step_a]; simp [writeA, hw, Dv.wr, Ab.push]
      · simp [writeP, hw, Pw.step]
      · rw [hw]; exact Mv.step _ _
      · rw [hw]; exact Mv.step _ _
      · rw [List.map_append]

theorem read_l {w0 : World} {H : Hp} {L R : List Dv} {d : Dv} {p : Pw} {b : Nat} (hG : GOk dt p L d R) (hb : d.b = b) (n : Int) : FnS Try.prog w0 63 #[ptr b, .int .i64 n] (opn dt d p (L ++ R) H) (fun e H' => e = .returned (.tuple #[.agg (bs (readS d.a p.a n)).toArray, .int .i64 (readE d.a p.a n)]) ∧ H' = opn dt d p (L ++ R) H) := by
  subst hb
  cases hdn : d.a.down p.a with
  | true =>
    refine (read_down (sees 0 0 rfl) (hG.hb ▸ sees 3 0 rfl) n hdn).mono ?_
    rintro _ _ ⟨rfl, rfl⟩
    exact ⟨by simp [readS, readE, hdn], rfl⟩
  | false =>
    cases hth : d.a.has n with
    | false =>
      refine (read_out (sees 0 0 rfl) (hG.hb ▸ sees 3 0 rfl) n hdn hth).mono ?_
      rintro _ _ ⟨rfl, rfl⟩
      exact ⟨by simp [readS, readE, hdn, hth], rfl⟩
    | true =>
      have hn : 0 ≤ n ∧ n < d.a.S.length := by simpa [Ab.has] using hth
      obtain ⟨m, rfl⟩ : ∃ m : Nat, n = m := ⟨n.toNat, by omega⟩
      refine (read_go hG.dok (sees 0 0 rfl) (hG.hb ▸ sees 3 0 rfl) (sees 1 0 rfl) (fun gg hg => sees_mem ?_) m (by omega) hdn).mono ?_
      · simp [opn, Dv.q, hg, slSeg]
      · rintro _ _ ⟨rfl, rfl⟩
        exact ⟨by simp [readS, readE, hdn, hth], rfl⟩

theorem len_l {w0 : World} {H : Hp} {d : Dv} {b : Nat} (hb : d.b = b) (hD : Sees (fun w => St w0 w H) d.b (.cells d.cells.toArray dt.dev)) : FnS Try.prog w0 50 #[ptr b] H (fun e H' => e = .returned (.int .i64 (d.a.S.length : Int)) ∧ H' = H) := hb ▸ len_s d hD

theorem new_l {w0 : World} {H : Hp} {p : Pw} {b : Nat} (hb : p.b = b) (hp : p.ok dt) (hdv : p.devs = []) (n : Int) : FnS Try.prog w0 23 #[.int .i64 n, ptr b] (p.o dt :: p.q dt :: H) (fun e H' => ∃ d' p', GOk dt p' [] d' [] ∧ p'.b = b ∧ d'.a = Ab.new (szOf n) ∧ p'.a = p.a ∧ e = .returned (ptr d'.b) ∧ H' = d'.o dt :: d'.t dt :: d'.q dt :: p'.o dt :: p'.q dt :: H) := by
  subst hb
  refine (new_s n p hp (by simp [hdv])).mono ?_
  rintro _ _ ⟨b, st, g', hg, rfl, rfl⟩
  exact ⟨Dv.new b st p.b (szOf n), ⟨p.b, g', p.devs ++ [b], p.a⟩, ⟨fun x hx => by simp at hx; subst hx; rfl, by simp [hdv, Dv.new], fun x hx => by simp at hx; subst hx; exact Dv.new_ok (by unfold szOf; omega), ⟨hg, hp.2⟩, by simp⟩, rfl, rfl, rfl, rfl, rfl⟩

theorem newpower_l {w0 : World} {H : Hp} : FnS Try.prog w0 22 #[] H (fun e H' => ∃ p : Pw, p.ok dt ∧ p.devs = [] ∧ p.a = ⟨false, 0, false⟩ ∧ e = .returned (ptr p.b) ∧ H' = p.o dt :: p.q dt :: H) := by
  refine newpower_s.mono ?_
  rintro _ _ ⟨b, rfl, rfl⟩
  exact ⟨⟨b, none, [], ⟨false, 0, false⟩⟩, ⟨⟨rfl, rfl⟩, by simp⟩, rfl, rfl, rfl, rfl⟩

theorem new_l2 {w0 : World} {H : Hp} {d : Dv} {p : Pw} {b : Nat} (hG : GOk dt p [] d []) (hb : p.b = b) (n : Int) : FnS Try.prog w0 23 #[.int .i64 n, ptr b] (p.o dt :: p.q dt :: d.o dt :: d.t dt :: d.q dt :: H) (fun e H' => ∃ y p', GOk dt p' [] d [y] ∧ p'.b = b ∧ y.a = Ab.new (szOf n) ∧ p'.a = p.a ∧ e = .returned (ptr y.b) ∧ H' = y.o dt :: y.t dt :: y.q dt :: p'.o dt :: p'.q dt :: d.o dt :: d.t dt :: d.q dt :: H) := by
  subst hb
  have hdv := hG.devs
  refine (new_s n p hG.pok (by rw [hdv]; simp)).mono ?_
  rintro _ _ ⟨b, st, g', hg, rfl, rfl⟩
  refine ⟨Dv.new b st p.b (szOf n), ⟨p.b, g', p.devs ++ [b], p.a⟩, ⟨fun x hx => ?_, by simp [hdv, Dv.new], fun x hx => ?_, ⟨hg, hG.pok.2⟩, by simp⟩, rfl, rfl, rfl, rfl, rfl⟩
  · simp at hx
    rcases hx with rfl | rfl
    · exact hG.hb
    · rfl
  simp at hx
  rcases hx with rfl | rfl
  · exact hG.dok
  · exact Dv.new_ok (by unfold szOf; omega)

end Go.Proofs.Ytighbhplfjjgpaa

/- walks (own work; the walks' lines by a program of this repo). -/
set_option linter.unusedVariables false
set_option linter.unusedSimpArgs false
set_option maxRecDepth 20000
namespace Go.Proofs.Ytighbhplfjjgpaa
open Go.Sl
attribute [local irreducible] BodyQ WpC WpL WpS WpH OpW FnS


theorem write_d {w0 : World} {H : Hp} {D : Duo} {A : Da} {bx bys bp : Nat} (h : Two dt D A bx bys bp) (i : Bool) (n : Int) (s : Sec) (hs : s.length = 128) (hQ : (A.dev i).Q.length < 100000) : FnS Try.prog w0 82 #[ptr (sel bx bys i), .int .i64 n, .agg (bs s).toArray] (D.seg dt :: H) (fun e H' => e = .returned (.int .i64 (A.wE i n)) ∧ ∃ D', Two dt D' (A.write i n s) bx bys bp ∧ H' = D'.seg dt :: H) := by
  obtain ⟨d, p, L, R, X, hG, hb, hd, hp, hpb, pm, s3⟩ := h.view i H
  have s1 := HSub.of_perm pm.symm
  have s2 := HSub.of_perm pm
  refine ((write_l hG hb n s hs (by rw [hd]; exact hQ)).sub s1).weak ?_
  rintro _ _ ⟨rfl, d', p', L', R', h1, h2, h3, h4, h5, h6, h7, rfl⟩
  rw [hd, hp] at h3 h5 h6 h7
  obtain ⟨D', k1, k2⟩ := s3 _ d' p' L' R' h1 h2 h4 h6 h7
  rw [h3, h5] at k1
  exact ⟨_, k2, by rw [hd, hp]; rfl, D', k1, rfl⟩

theorem read_d {w0 : World} {H : Hp} {D : Duo} {A : Da} {bx bys bp : Nat} (h : Two dt D A bx bys bp) (i : Bool) (n : Int) : FnS Try.prog w0 63 #[ptr (sel bx bys i), .int .i64 n] (D.seg dt :: H) (fun e H' => e = .returned (.tuple #[.agg (bs (A.rS i n)).toArray, .int .i64 (A.rE i n)]) ∧ H' = D.seg dt :: H) := by
  obtain ⟨d, p, L, R, X, hG, hb, hd, hp, hpb, pm, s3⟩ := h.view i H
  have s1 := HSub.of_perm pm.symm
  have s2 := HSub.of_perm pm
  refine ((read_l hG hb n).sub s1).weak ?_
  rintro _ _ ⟨rfl, rfl⟩
  exact ⟨_, s2, by rw [hd, hp]; rfl, rfl⟩

theorem len_d {w0 : World} {H : Hp} {D : Duo} {A : Da} {bx bys bp : Nat} (h : Two dt D A bx bys bp) (i : Bool) : FnS Try.prog w0 50 #[ptr (sel bx bys i)] (D.seg dt :: H) (fun e H' => e = .returned (.int .i64 ((A.dev i).S.length : Int)) ∧ H' = D.seg dt :: H) := by
  obtain ⟨d, p, L, R, X, hG, hb, hd, hp, hpb, pm, s3⟩ := h.view i H
  have s1 := HSub.of_perm pm.symm
  have s2 := HSub.of_perm pm
  refine ((len_l hb (sees 0 0 rfl)).sub s1).weak ?_
  rintro _ _ ⟨rfl, rfl⟩
  exact ⟨_, s2, by rw [hd], rfl⟩

theorem newtwo_d {w0 : World} {H : Hp} {d : Dv} {p : Pw} {b bx : Nat} (hG : GOk dt p [] d []) (hb : p.b = b) (hx : d.b = bx) (n : Int) : FnS Try.prog w0 23 #[.int .i64 n, ptr b] (d.o dt :: d.t dt :: d.q dt :: p.o dt :: p.q dt :: H) (fun e H' => ∃ bys D', Two dt D' ⟨d.a, Ab.new (szOf n), p.a, none⟩ bx bys b ∧ e = .returned (ptr bys) ∧ H' = D'.seg dt :: H) := by
  refine ((new_l2 hG hb n).sub (hsub_pick [3, 3] rfl)).weak ?_
  rintro _ _ ⟨y, p', h1, h2, h3, h4, rfl, rfl⟩
  exact ⟨_, (Duo.hsub2 dt ⟨d, y, p', none⟩ H).trans (hsub_pick [5, 5, 5, 3, 3] rfl), y.b, ⟨d, y, p', none⟩, ⟨h1, by simp only [Duo.da, h3, h4, Option.map_none], hx, rfl, h2⟩, rfl, rfl⟩

end Go.Proofs.Ytighbhplfjjgpaa

/- Facts of the translation's types, for the kernel (own work, by a program of this repo). -/
namespace Go.Proofs.Ytighbhplfjjgpaa
open Go.Sl
end Go.Proofs.Ytighbhplfjjgpaa

/- walks (own work; the walks' lines by a program of this repo). -/
set_option linter.unusedVariables false
set_option linter.unusedSimpArgs false
set_option maxRecDepth 20000
namespace Go.Proofs.Ytighbhplfjjgpaa
open Go.Sl
attribute [local irreducible] BodyQ WpC WpL WpS WpH OpW FnS


theorem len_m {w0 : World} {H : Hp} {m : Mi} (hM : Sees (fun w => St w0 w H) m.b (.cells m.cells.toArray 111)) : FnS Try.prog w0 49 #[ptr m.b] H (fun e H' => e = .returned (.int .i64 (m.n : Int)) ∧ H' = H) := by
  refine FnS_intro (n := 9) (rs := [.tmp 2]) (vs := [ptr m.b]) Try.func49 rfl Try.ntmps49 rfl rfl ?_
  refine C_seq (C_region (LY rfl (y_assign rfl) (L_nil (C_seq (C_seq (C_region (LY rfl (y_move rfl) ?_)))))))
  refine LY rfl (y_eqp rfl rfl Try.underlying59) ?_
  refine L_nil (C_cond_f rfl (C_skip (C_seq (C_region (LY rfl (y_move rfl) (LY rfl (y_nilCheck rfl) (LY rfl (y_fieldAddr rfl fl_111_1) ?_)))))))
  refine LY rfl (y_load rfl ag_3 (hM) rfl) ?_
  refine LY rfl (y_assign rfl) (L_nil (C_ret ?_))
  refine B_ret (rv_tmp rfl rv_nil) (HSub.refl _) ?_
  exact ⟨rfl, rfl⟩

theorem has_m {w0 : World} {H : Hp} {m : Mi} (n : Int) (hM : Sees (fun w => St w0 w H) m.b (.cells m.cells.toArray 111)) : FnS Try.prog w0 74 #[ptr m.b, .int .i64 n] H (fun e H' => e = .returned (.bool (m.has n)) ∧ H' = H) := by
  refine FnS_intro (n := 13) (rs := [.tmp 4]) (vs := [ptr m.b, .int .i64 n]) Try.func74 rfl Try.ntmps74 rfl rfl ?_
  refine C_seq (C_region (LY rfl (y_assign rfl) (L_nil (C_seq (C_region (LY rfl (y_move rfl) ?_))))))
  refine LY rfl (y_geq rfl rfl) ?_
  refine LY rfl (y_move rfl) ?_
  refine L_case 7 rfl (fun hg1_3 => ?_) (fun hg1_3 => ?_)
  · skip
    refine LY rfl (y_move rfl) (LY rfl (y_move rfl) ?_)
    refine L_op rfl (op_call rfl rfl (fun a w => Try.call49 a w) rfl ?_)
    refine (len_m hM).mono ?_
    rintro _ _ ⟨rfl, rfl⟩
    refine ⟨_, rfl, ?_⟩
    refine LY rfl (y_lss rfl rfl) (LY rfl (y_pick_t rfl rfl) (LY rfl (y_assign rfl) (L_nil (C_ret ?_))))
    refine B_ret (rv_tmp rfl rv_nil) (HSub.refl _) ?_
    refine ⟨ret_bool ?_, rfl⟩
    unfold Mi.has
    simp_all <;> omega
  · skip
    refine L_skip rfl rfl (L_skip rfl rfl (L_skip rfl rfl (L_skip rfl rfl (LY rfl (y_pick_f rfl rfl) (LY rfl (y_assign rfl) (L_nil (C_ret ?_)))))))
    refine B_ret (rv_tmp rfl rv_nil) (HSub.refl _) ?_
    refine ⟨ret_bool ?_, rfl⟩
    unfold Mi.has
    simp_all <;> omega

theorem there_d {w0 : World} {H : Hp} {D : Duo} {A : Da} {bx bys bp : Nat} {mv : Value} (h : Two dt D A bx bys bp) (i : Bool) : FnS Try.prog w0 51 #[.agg [ptr (sel bx bys i), mv].toArray] (D.seg dt :: H) (fun e H' => e = .returned (.bool (thr A i)) ∧ H' = D.seg dt :: H) := by
  refine FnS_intro (n := 16) (rs := [.tmp 2]) (vs := [.agg [ptr (sel bx bys i), mv].toArray]) Try.func51 rfl Try.ntmps51 rfl rfl ?_
  refine C_seq (C_region ?_)
  refine L_op rfl (op_box rfl rfl rfl (fun B1 => ?_))
  refine LY rfl (y_assign rfl) (L_nil (C_seq (C_seq (C_region (LY rfl (y_fieldAddr rfl fl_108_0) (LY rfl (y_load rfl ag_54 (sees 0 0 rfl) rfl) ?_))))))
  refine LY rfl (y_eqp rfl rfl Try.underlying54) ?_
  refine L_nil (C_cond_f rfl (C_skip (C_seq (C_region (LY rfl (y_fieldAddr rfl fl_108_0) (LY rfl (y_load rfl ag_54 (sees 0 0 rfl) rfl) ?_))))))
  refine L_op rfl (op_call rfl rfl (fun a w => Try.call63 a w) rfl ?_)
  refine ((read_d h i 0).sub (hsub_pick [1] rfl)).mono ?_
  rintro _ _ ⟨rfl, rfl⟩
  refine ⟨_, rfl, ?_⟩
  refine LY rfl (y_move rfl) (LY rfl (y_extract rfl rfl) (LY rfl (y_extract rfl rfl) ?_))
  refine L_op rfl (op_alloc zl_114 rfl (fun B2 => ?_))
  refine L_op rfl (op_storeA 0 0 rfl rfl rfl sz_114 (by rw [bs_length, rS_len i h.oks]) rfl (bs_one _) (by simp) ?_)
  refine LY rfl (y_assign rfl) (L_nil (C_seq (C_region (LY rfl (y_move rfl) ?_))))
  refine LY rfl (y_nei rfl rfl) ?_
  refine LY rfl (y_assign rfl) (L_nil (C_ret ?_))
  refine B_ret (rv_tmp rfl rv_nil) (hsub (.cons _ (.cons_cons _ (.cons _ (.refl _))))) ?_
  exact ⟨ret_bool (rE_neq A i 0), rfl⟩

theorem present_tt {w0 : World} {H : Hp} {D : Duo} {A : Da} {bp : Nat} {m : Mi} (h : Two dt D A m.bx m.bys bp) (hp : thr A false = true) (hq : thr A true = true) : FnS Try.prog w0 75 #[ptr m.b] (m.seg 111 :: D.seg dt :: H) (fun e H' => ∃ g, slOk 1 g 2 (intl (pres true true)) ∧ e = .returned (slV g 2) ∧ H' = slSeg 3 g (intl (pres true true)) :: m.seg 111 :: D.seg dt :: H) := by
  refine FnS_intro (n := 21) (rs := [.tmp 2]) (vs := [ptr m.b]) Try.func75 rfl Try.ntmps75 rfl rfl ?_
  refine C_seq (C_region (LY rfl (y_assign rfl) (L_nil (C_seq (C_region (LY rfl (y_assign rfl) (L_nil (C_seq (C_seq (C_region (LY rfl (y_move rfl) (L_nil (C_block ?_)))))))))))))
  refine C_loopIn (In_round ?_)
  refine C_seq (C_region (LY rfl (y_lss rfl rfl) (L_nil (C_seq (C_cond_t rfl (C_skip (C_seq (C_block (C_seq (C_region (LY rfl (y_move rfl) (LY rfl (y_assign rfl) (L_nil (C_seq (C_region (LY rfl (y_move rfl) (LY rfl (y_move rfl) (LY rfl (y_nilCheck rfl) (LY rfl (y_fieldAddr rfl fl_111_0) ?_)))))))))))))))))))
  refine LY rfl (y_indexA rfl rfl Try.underlying109 sz_108 (by omega) (by omega) (show _ = 0 from rfl)) ?_
  refine LY rfl (y_loadA rfl ag_108 sz_108 (sees 0 0 rfl) (Nat.le_of_ble_eq_true rfl) rfl) ?_
  refine L_op rfl (op_call rfl rfl (fun a w => Try.call51 a w) rfl ?_)
  refine ((there_d h false).sub (hsub_pick [1] rfl)).mono ?_
  rintro _ _ ⟨rfl, rfl⟩
  rw [hp]
  refine ⟨_, rfl, ?_⟩
  refine L_nil (C_cond_t rfl (C_region (LY rfl (y_move rfl) (LY rfl (y_move rfl) ?_))))
  refine L_op rfl (op_buildSlice (vs := [(0, _)]) rfl Try.underlying145 sz_3 zl_3 rfl (by decide) rfl rfl (fun B1 => ?_))
  refine L_op rfl (op_append0 (m := 1) (vs := [.int .i64 0]) rfl rfl (src_slice (sees 0 0 rfl) (Nat.le_of_ble_eq_true rfl) rfl) rfl (by simp [one, Value.oneCell']) Try.underlying145 ni_145 sz_3 by_3 (by decide) zl_3 rfl (by decide) rfl (fun g1 hg1 => ?_))
  refine LY rfl (y_assign rfl) (L_nil (C_region ?_))
  refine LY rfl (y_add rfl rfl (show _ = (1 : Int) from rfl)) ?_
  refine LY rfl (y_move rfl) (L_nil ?_)
  refine In_round ?_
  refine C_seq (C_region (LY rfl (y_lss rfl rfl) (L_nil (C_seq (C_cond_t rfl (C_skip (C_seq (C_block (C_seq (C_region (LY rfl (y_move rfl) (LY rfl (y_assign rfl) (L_nil (C_seq (C_region (LY rfl (y_move rfl) (LY rfl (y_move rfl) (LY rfl (y_nilCheck rfl) (LY rfl (y_fieldAddr rfl fl_111_0) ?_)))))))))))))))))))
  refine LY rfl (y_indexA rfl rfl Try.underlying109 sz_108 (by omega) (by omega) (show _ = 2 from rfl)) ?_
  refine LY rfl (y_loadA rfl ag_108 sz_108 (sees 3 0 rfl) (Nat.le_of_ble_eq_true rfl) rfl) ?_
  refine L_op rfl (op_call rfl rfl (fun a w => Try.call51 a w) rfl ?_)
  refine ((there_d h true).sub (hsub_pick [2] rfl)).mono ?_
  rintro _ _ ⟨rfl, rfl⟩
  rw [hq]
  refine ⟨_, rfl, ?_⟩
  refine L_nil (C_cond_t rfl (C_region (LY rfl (y_move rfl) (LY rfl (y_move rfl) ?_))))
  refine L_op rfl (op_buildSlice (vs := [(0, _)]) rfl Try.underlying145 sz_3 zl_3 rfl (by decide) rfl rfl (fun B2 => ?_))
  refine L_op rfl (op_append (gs := g1) (len := 1) (m := 1) (xs := [.int .i64 0]) (vs := [.int .i64 1]) 2 rfl rfl rfl hg1 (src_slice (sees 0 0 rfl) (Nat.le_of_ble_eq_true rfl) rfl) rfl (by simp [one, Value.oneCell']) Try.underlying145 ni_145 sz_3 by_3 (by decide) zl_3 rfl (by decide) rfl (fun g2 hg2 => ?_))
  refine LY rfl (y_assign rfl) (L_nil (C_region ?_))
  refine LY rfl (y_add rfl rfl (show _ = (2 : Int) from rfl)) ?_
  refine LY rfl (y_move rfl) (L_nil ?_)
  refine In_round ?_
  refine C_seq (C_region (LY rfl (y_lss rfl rfl) (L_nil (C_seq (C_cond_f rfl (C_exit (C_seq (C_region (LY rfl (y_move rfl) (LY rfl (y_assign rfl) (L_nil (C_ret ?_))))))))))))
  refine B_ret (rv_tmp rfl rv_nil) ((hsub (.cons_cons _ (.cons_cons _ (.cons_cons _ (.cons _ (.cons _ (.refl _))))))).trans (hsub_pick [2, 3, 1] rfl)) ?_
  exact ⟨g2, hg2, rfl, rfl⟩

theorem present_tf {w0 : World} {H : Hp} {D : Duo} {A : Da} {bp : Nat} {m : Mi} (h : Two dt D A m.bx m.bys bp) (hp : thr A false = true) (hq : thr A true = false) : FnS Try.prog w0 75 #[ptr m.b] (m.seg 111 :: D.seg dt :: H) (fun e H' => ∃ g, slOk 1 g 1 (intl (pres true false)) ∧ e = .returned (slV g 1) ∧ H' = slSeg 3 g (intl (pres true false)) :: m.seg 111 :: D.seg dt :: H) := by
  refine FnS_intro (n := 21) (rs := [.tmp 2]) (vs := [ptr m.b]) Try.func75 rfl Try.ntmps75 rfl rfl ?_
  refine C_seq (C_region (LY rfl (y_assign rfl) (L_nil (C_seq (C_region (LY rfl (y_assign rfl) (L_nil (C_seq (C_seq (C_region (LY rfl (y_move rfl) (L_nil (C_block ?_)))))))))))))
  refine C_loopIn (In_round ?_)
  refine C_seq (C_region (LY rfl (y_lss rfl rfl) (L_nil (C_seq (C_cond_t rfl (C_skip (C_seq (C_block (C_seq (C_region (LY rfl (y_move rfl) (LY rfl (y_assign rfl) (L_nil (C_seq (C_region (LY rfl (y_move rfl) (LY rfl (y_move rfl) (LY rfl (y_nilCheck rfl) (LY rfl (y_fieldAddr rfl fl_111_0) ?_)))))))))))))))))))
  refine LY rfl (y_indexA rfl rfl Try.underlying109 sz_108 (by omega) (by omega) (show _ = 0 from rfl)) ?_
  refine LY rfl (y_loadA rfl ag_108 sz_108 (sees 0 0 rfl) (Nat.le_of_ble_eq_true rfl) rfl) ?_
  refine L_op rfl (op_call rfl rfl (fun a w => Try.call51 a w) rfl ?_)
  refine ((there_d h false).sub (hsub_pick [1] rfl)).mono ?_
  rintro _ _ ⟨rfl, rfl⟩
  rw [hp]
  refine ⟨_, rfl, ?_⟩
  refine L_nil (C_cond_t rfl (C_region (LY rfl (y_move rfl) (LY rfl (y_move rfl) ?_))))
  refine L_op rfl (op_buildSlice (vs := [(0, _)]) rfl Try.underlying145 sz_3 zl_3 rfl (by decide) rfl rfl (fun B1 => ?_))
  refine L_op rfl (op_append0 (m := 1) (vs := [.int .i64 0]) rfl rfl (src_slice (sees 0 0 rfl) (Nat.le_of_ble_eq_true rfl) rfl) rfl (by simp [one, Value.oneCell']) Try.underlying145 ni_145 sz_3 by_3 (by decide) zl_3 rfl (by decide) rfl (fun g1 hg1 => ?_))
  refine LY rfl (y_assign rfl) (L_nil (C_region ?_))
  refine LY rfl (y_add rfl rfl (show _ = (1 : Int) from rfl)) ?_
  refine LY rfl (y_move rfl) (L_nil ?_)
  refine In_round ?_
  refine C_seq (C_region (LY rfl (y_lss rfl rfl) (L_nil (C_seq (C_cond_t rfl (C_skip (C_seq (C_block (C_seq (C_region (LY rfl (y_move rfl) (LY rfl (y_assign rfl) (L_nil (C_seq (C_region (LY rfl (y_move rfl) (LY rfl (y_move rfl) (LY rfl (y_nilCheck rfl) (LY rfl (y_fieldAddr rfl fl_111_0) ?_)))))))))))))))))))
  refine LY rfl (y_indexA rfl rfl Try.underlying109 sz_108 (by omega) (by omega) (show _ = 2 from rfl)) ?_
  refine LY rfl (y_loadA rfl ag_108 sz_108 (sees 3 0 rfl) (Nat.le_of_ble_eq_true rfl) rfl) ?_
  refine L_op rfl (op_call rfl rfl (fun a w => Try.call51 a w) rfl ?_)
  refine ((there_d h true).sub (hsub_pick [2] rfl)).mono ?_
  rintro _ _ ⟨rfl, rfl⟩
  rw [hq]
  refine ⟨_, rfl, ?_⟩
  refine L_nil (C_cond_f rfl (C_skip (C_region ?_)))
  refine LY rfl (y_add rfl rfl (show _ = (2 : Int) from rfl)) ?_
  refine LY rfl (y_move rfl) (L_nil ?_)
  refine In_round ?_
  refine C_seq (C_region (LY rfl (y_lss rfl rfl) (L_nil (C_seq (C_cond_f rfl (C_exit (C_seq (C_region (LY rfl (y_move rfl) (LY rfl (y_assign rfl) (L_nil (C_ret ?_))))))))))))
  refine B_ret (rv_tmp rfl rv_nil) ((hsub (.cons_cons _ (.cons_cons _ (.cons_cons _ (.cons _ (.refl _)))))).trans (hsub_pick [1, 2, 0] rfl)) ?_
  exact ⟨g1, hg1, rfl, rfl⟩

theorem present_ft {w0 : World} {H : Hp} {D : Duo} {A : Da} {bp : Nat} {m : Mi} (h : Two dt D A m.bx m.bys bp) (hp : thr A false = false) (hq : thr A true = true) : FnS Try.prog w0 75 #[ptr m.b] (m.seg 111 :: D.seg dt :: H) (fun e H' => ∃ g, slOk 1 g 1 (intl (pres false true)) ∧ e = .returned (slV g 1) ∧ H' = slSeg 3 g (intl (pres false true)) :: m.seg 111 :: D.seg dt :: H) := by
  refine FnS_intro (n := 21) (rs := [.tmp 2]) (vs := [ptr m.b]) Try.func75 rfl Try.ntmps75 rfl rfl ?_
  refine C_seq (C_region (LY rfl (y_assign rfl) (L_nil (C_seq (C_region (LY rfl (y_assign rfl) (L_nil (C_seq (C_seq (C_region (LY rfl (y_move rfl) (L_nil (C_block ?_)))))))))))))
  refine C_loopIn (In_round ?_)
  refine C_seq (C_region (LY rfl (y_lss rfl rfl) (L_nil (C_seq (C_cond_t rfl (C_skip (C_seq (C_block (C_seq (C_region (LY rfl (y_move rfl) (LY rfl (y_assign rfl) (L_nil (C_seq (C_region (LY rfl (y_move rfl) (LY rfl (y_move rfl) (LY rfl (y_nilCheck rfl) (LY rfl (y_fieldAddr rfl fl_111_0) ?_)))))))))))))))))))
  refine LY rfl (y_indexA rfl rfl Try.underlying109 sz_108 (by omega) (by omega) (show _ = 0 from rfl)) ?_
  refine LY rfl (y_loadA rfl ag_108 sz_108 (sees 0 0 rfl) (Nat.le_of_ble_eq_true rfl) rfl) ?_
  refine L_op rfl (op_call rfl rfl (fun a w => Try.call51 a w) rfl ?_)
  refine ((there_d h false).sub (hsub_pick [1] rfl)).mono ?_
  rintro _ _ ⟨rfl, rfl⟩
  rw [hp]
  refine ⟨_, rfl, ?_⟩
  refine L_nil (C_cond_f rfl (C_skip (C_region ?_)))
  refine LY rfl (y_add rfl rfl (show _ = (1 : Int) from rfl)) ?_
  refine LY rfl (y_move rfl) (L_nil ?_)
  refine In_round ?_
  refine C_seq (C_region (LY rfl (y_lss rfl rfl) (L_nil (C_seq (C_cond_t rfl (C_skip (C_seq (C_block (C_seq (C_region (LY rfl (y_move rfl) (LY rfl (y_assign rfl) (L_nil (C_seq (C_region (LY rfl (y_move rfl) (LY rfl (y_move rfl) (LY rfl (y_nilCheck rfl) (LY rfl (y_fieldAddr rfl fl_111_0) ?_)))))))))))))))))))
  refine LY rfl (y_indexA rfl rfl Try.underlying109 sz_108 (by omega) (by omega) (show _ = 2 from rfl)) ?_
  refine LY rfl (y_loadA rfl ag_108 sz_108 (sees 1 0 rfl) (Nat.le_of_ble_eq_true rfl) rfl) ?_
  refine L_op rfl (op_call rfl rfl (fun a w => Try.call51 a w) rfl ?_)
  refine ((there_d h true).sub (hsub_pick [0] rfl)).mono ?_
  rintro _ _ ⟨rfl, rfl⟩
  rw [hq]
  refine ⟨_, rfl, ?_⟩
  refine L_nil (C_cond_t rfl (C_region (LY rfl (y_move rfl) (LY rfl (y_move rfl) ?_))))
  refine L_op rfl (op_buildSlice (vs := [(0, _)]) rfl Try.underlying145 sz_3 zl_3 rfl (by decide) rfl rfl (fun B1 => ?_))
  refine L_op rfl (op_append0 (m := 1) (vs := [.int .i64 1]) rfl rfl (src_slice (sees 0 0 rfl) (Nat.le_of_ble_eq_true rfl) rfl) rfl (by simp [one, Value.oneCell']) Try.underlying145 ni_145 sz_3 by_3 (by decide) zl_3 rfl (by decide) rfl (fun g1 hg1 => ?_))
  refine LY rfl (y_assign rfl) (L_nil (C_region ?_))
  refine LY rfl (y_add rfl rfl (show _ = (2 : Int) from rfl)) ?_
  refine LY rfl (y_move rfl) (L_nil ?_)
  refine In_round ?_
  refine C_seq (C_region (LY rfl (y_lss rfl rfl) (L_nil (C_seq (C_cond_f rfl (C_exit (C_seq (C_region (LY rfl (y_move rfl) (LY rfl (y_assign rfl) (L_nil (C_ret ?_))))))))))))
  refine B_ret (rv_tmp rfl rv_nil) ((hsub (.cons_cons _ (.cons_cons _ (.cons_cons _ (.cons _ (.refl _)))))).trans (hsub_pick [0, 2, 1] rfl)) ?_
  exact ⟨g1, hg1, rfl, rfl⟩

theorem present_ff {w0 : World} {H : Hp} {D : Duo} {A : Da} {bp : Nat} {m : Mi} (h : Two dt D A m.bx m.bys bp) (hp : thr A false = false) (hq : thr A true = false) : FnS Try.prog w0 75 #[ptr m.b] (m.seg 111 :: D.seg dt :: H) (fun e H' => e = .returned (.slice none 0 0) ∧ H' = m.seg 111 :: D.seg dt :: H) := by
  refine FnS_intro (n := 21) (rs := [.tmp 2]) (vs := [ptr m.b]) Try.func75 rfl Try.ntmps75 rfl rfl ?_
  refine C_seq (C_region (LY rfl (y_assign rfl) (L_nil (C_seq (C_region (LY rfl (y_assign rfl) (L_nil (C_seq (C_seq (C_region (LY rfl (y_move rfl) (L_nil (C_block ?_)))))))))))))
  refine C_loopIn (In_round ?_)
  refine C_seq (C_region (LY rfl (y_lss rfl rfl) (L_nil (C_seq (C_cond_t rfl (C_skip (C_seq (C_block (C_seq (C_region (LY rfl (y_move rfl) (LY rfl (y_assign rfl) (L_nil (C_seq (C_region (LY rfl (y_move rfl) (LY rfl (y_move rfl) (LY rfl (y_nilCheck rfl) (LY rfl (y_fieldAddr rfl fl_111_0) ?_)))))))))))))))))))
  refine LY rfl (y_indexA rfl rfl Try.underlying109 sz_108 (by omega) (by omega) (show _ = 0 from rfl)) ?_
  refine LY rfl (y_loadA rfl ag_108 sz_108 (sees 0 0 rfl) (Nat.le_of_ble_eq_true rfl) rfl) ?_
  refine L_op rfl (op_call rfl rfl (fun a w => Try.call51 a w) rfl ?_)
  refine ((there_d h false).sub (hsub_pick [1] rfl)).mono ?_
  rintro _ _ ⟨rfl, rfl⟩
  rw [hp]
  refine ⟨_, rfl, ?_⟩
  refine L_nil (C_cond_f rfl (C_skip (C_region ?_)))
  refine LY rfl (y_add rfl rfl (show _ = (1 : Int) from rfl)) ?_
  refine LY rfl (y_move rfl) (L_nil ?_)
  refine In_round ?_
  refine C_seq (C_region (LY rfl (y_lss rfl rfl) (L_nil (C_seq (C_cond_t rfl (C_skip (C_seq (C_block (C_seq (C_region (LY rfl (y_move rfl) (LY rfl (y_assign rfl) (L_nil (C_seq (C_region (LY rfl (y_move rfl) (LY rfl (y_move rfl) (LY rfl (y_nilCheck rfl) (LY rfl (y_fieldAddr rfl fl_111_0) ?_)))))))))))))))))))
  refine LY rfl (y_indexA rfl rfl Try.underlying109 sz_108 (by omega) (by omega) (show _ = 2 from rfl)) ?_
  refine LY rfl (y_loadA rfl ag_108 sz_108 (sees 1 0 rfl) (Nat.le_of_ble_eq_true rfl) rfl) ?_
  refine L_op rfl (op_call rfl rfl (fun a w => Try.call51 a w) rfl ?_)
  refine ((there_d h true).sub (hsub_pick [0] rfl)).mono ?_
  rintro _ _ ⟨rfl, rfl⟩
  rw [hq]
  refine ⟨_, rfl, ?_⟩
  refine L_nil (C_cond_f rfl (C_skip (C_region ?_)))
  refine LY rfl (y_add rfl rfl (show _ = (2 : Int) from rfl)) ?_
  refine LY rfl (y_move rfl) (L_nil ?_)
  refine In_round ?_
  refine C_seq (C_region (LY rfl (y_lss rfl rfl) (L_nil (C_seq (C_cond_f rfl (C_exit (C_seq (C_region (LY rfl (y_move rfl) (LY rfl (y_assign rfl) (L_nil (C_ret ?_))))))))))))
  refine B_ret (rv_tmp rfl rv_nil) ((hsub (.cons_cons _ (.cons_cons _ (.refl _)))).trans (hsub_pick [1, 0] rfl)) ?_
  exact ⟨rfl, rfl⟩

end Go.Proofs.Ytighbhplfjjgpaa

/- walks (own work; the walks' lines by a program of this repo). -/
set_option linter.unusedVariables false
set_option linter.unusedSimpArgs false
set_option maxRecDepth 20000
namespace Go.Proofs.Ytighbhplfjjgpaa
open Go.Sl
attribute [local irreducible] BodyQ WpC WpL WpS WpH OpW FnS


theorem right_nil {w0 : World} {H : Hp} {m : Mi} {n : Int} {s : Sec} (hs : s.length = 128) (hM : Sees (fun w => St w0 w H) m.b (.cells m.cells.toArray 111)) (h1 : m.gv = .nilFunc) : FnS Try.prog w0 76 #[ptr m.b, .int .i64 n, .agg (bs s).toArray] H (fun e H' => e = .returned (.bool false) ∧ H' = H) := by
  refine FnS_intro (n := 21) (rs := [.tmp 6]) (vs := [ptr m.b, .int .i64 n, .agg (bs s).toArray]) Try.func76 rfl Try.ntmps76 rfl rfl ?_
  refine C_seq (C_region ?_)
  refine L_op rfl (op_box rfl rfl rfl (fun B1 => ?_))
  refine LY rfl (y_assign rfl) (L_nil (C_seq ?_))
  refine C_regionH0 (by kernel_rfl) ?_
  refine HY 0 rfl (HSub.refl _) rfl (y_move rfl) ?_
  refine HY 1 rfl (HSub.refl _) rfl (y_nilCheck rfl) ?_
  refine HY 2 rfl (HSub.refl _) rfl (y_fieldAddr rfl fl_111_2) ?_
  refine HY 3 rfl (HSub.refl _) rfl (y_load rfl ag_61 (hM.up) (show _ = some (Value.nilFunc) from by rw [← h1]; rfl)) ?_
  refine HY 4 rfl (HSub.refl _) rfl (y_nefn0 rfl rfl Try.underlying61) ?_
  refine HY 5 rfl (HSub.refl _) rfl (y_move rfl) ?_
  refine HK 6 rfl (HSub.refl _) rfl ?_
  refine HK 7 rfl (HSub.refl _) rfl ?_
  refine HK 8 rfl (HSub.refl _) rfl ?_
  refine HK 9 rfl (HSub.refl _) rfl ?_
  refine HK 10 rfl (HSub.refl _) rfl ?_
  refine HK 11 rfl (HSub.refl _) rfl ?_
  refine HK 12 rfl (HSub.refl _) rfl ?_
  refine HY 13 rfl (HSub.refl _) rfl (y_pick_f rfl rfl) ?_
  refine HY 14 rfl (HSub.refl _) rfl (y_assign rfl) ?_
  refine H_done (by kernel_rfl) ?_
  refine C_ret ?_
  refine B_ret (rv_tmp rfl rv_nil) (hsub (.cons _ (.refl _))) ?_
  exact ⟨rfl, rfl⟩

theorem right_fn {w0 : World} {H : Hp} {m : Mi} {n : Int} {s : Sec} (hs : s.length = 128) (hM : Sees (fun w => St w0 w H) m.b (.cells m.cells.toArray 111)) {f : Nat} {cap : List Value} (h1 : m.gv = .func (.func f) #[] cap.toArray) (hcf : ∀ args w, (callFunc f args).run Try.prog w = .ok (.enter f args) w) (b : Bool) (h2 : ∀ H', HSub H H' → FnS Try.prog w0 f ([Value.int .i64 n, Value.agg (bs s).toArray] ++ cap).toArray H' (fun e H2 => e = .returned (.bool b) ∧ H2 = H')) : FnS Try.prog w0 76 #[ptr m.b, .int .i64 n, .agg (bs s).toArray] H (fun e H' => e = .returned (.bool b) ∧ H' = H) := by
  refine FnS_intro (n := 21) (rs := [.tmp 6]) (vs := [ptr m.b, .int .i64 n, .agg (bs s).toArray]) Try.func76 rfl Try.ntmps76 rfl rfl ?_
  refine C_seq (C_region ?_)
  refine L_op rfl (op_box rfl rfl rfl (fun B1 => ?_))
  refine LY rfl (y_assign rfl) (L_nil (C_seq ?_))
  refine C_regionH0 (by kernel_rfl) ?_
  refine HY 0 rfl (HSub.refl _) rfl (y_move rfl) ?_
  refine HY 1 rfl (HSub.refl _) rfl (y_nilCheck rfl) ?_
  refine HY 2 rfl (HSub.refl _) rfl (y_fieldAddr rfl fl_111_2) ?_
  refine HY 3 rfl (HSub.refl _) rfl (y_load rfl ag_61 (hM.up) (show _ = some (Value.func (.func f) #[] cap.toArray) from by rw [← h1]; rfl)) ?_
  refine HY 4 rfl (HSub.refl _) rfl (y_nefn rfl rfl Try.underlying61) ?_
  refine HY 5 rfl (HSub.refl _) rfl (y_move rfl) ?_
  refine HY 6 rfl (HSub.refl _) rfl (y_move rfl) ?_
  refine HY 7 rfl (HSub.refl _) rfl (y_nilCheck rfl) ?_
  refine HY 8 rfl (HSub.refl _) rfl (y_fieldAddr rfl fl_111_2) ?_
  refine HY 9 rfl (HSub.refl _) rfl (y_load rfl ag_61 (hM.up) (show _ = some (Value.func (.func f) #[] cap.toArray) from by rw [← h1]; rfl)) ?_
  refine HY 10 rfl (HSub.refl _) rfl (y_move rfl) ?_
  refine HY 11 rfl (HSub.refl _) rfl (y_loadA rfl ag_114 sz_114 (sees 0 0 rfl) (by rw [bs_length, hs]; decide) (bs_whole0 _ hs)) ?_
  refine H_one 12 rfl (by kernel_rfl) rfl (op_call (f := f) (first := []) (cap := cap) rfl rfl hcf rfl ?_)
  refine FnS.mono (h2 _ (HSub.drop _ _)) ?_
  rintro _ _ ⟨rfl, e⟩
  obtain rfl := e.symm
  refine ⟨_, rfl, ?_⟩
  refine ⟨HSub.refl _, ?_⟩
  refine HY 13 rfl (HSub.refl _) rfl (y_pick_t rfl rfl) ?_
  refine HY 14 rfl (HSub.refl _) rfl (y_assign rfl) ?_
  refine H_done (by kernel_rfl) ?_
  refine C_ret ?_
  refine B_ret (rv_tmp rfl rv_nil) (hsub (.cons _ (.refl _))) ?_
  exact ⟨rfl, rfl⟩

theorem right_m {w0 : World} {H : Hp} {m : Mi} {p : Int → Sec → Bool} (hM : Sees (fun w => St w0 w H) m.b (.cells m.cells.toArray 111)) (hG : GoodAt Try.prog w0 H m.gv p) (n : Int) (s : Sec) (hs : s.length = 128) : FnS Try.prog w0 76 #[ptr m.b, .int .i64 n, .agg (bs s).toArray] H (fun e H' => e = .returned (.bool (p n s)) ∧ H' = H) := by
  rcases hG with ⟨h1, rfl⟩ | ⟨f, cap, h1, hcf, h3⟩
  · exact right_nil hs hM h1
  · exact right_fn hs hM h1 hcf (p n s) (fun H' hs' => h3 H' n s hs' hs)

end Go.Proofs.Ytighbhplfjjgpaa

