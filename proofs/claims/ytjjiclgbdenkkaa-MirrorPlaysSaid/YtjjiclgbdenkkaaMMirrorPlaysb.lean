/- Own work: texts Du, DuW, SlU, Mi, Fb, MsW, MrW, Sb, Wi, Xc, Fc, GgW, Sy, Mv, Sc, Sd, Sz, Po, Pq, Ac, Rf, Ff, RrW, RwW, put together. -/
import Derived.Test.YtjjiclgbdenkkaaProg
import Derived.Test.YtjjiclgbdenkkaaMMirrorPlaysa
/- Two devices, of one power or each of its own: one segment in memory, one abstract state (own work). -/
set_option linter.unusedVariables false
set_option linter.unusedSimpArgs false
namespace Go.Sl
structure Duo where
  x : Dv
  y : Dv
  p : Pw
  q : Option Pw
/-- The abstract state: two devices, a power, and the second one's own power. -/
structure Da where
  a : Ab
  b : Ab
  p : Pa
  q : Option Pa
def Duo.qs (t : DT) : Option Pw → Hp
  | none => []
  | some q => [q.o t, q.q t]
def Duo.hp (t : DT) (D : Duo) : Hp := [D.x.o t, D.x.t t, D.x.q t, D.p.o t, D.p.q t, D.y.o t, D.y.t t, D.y.q t] ++ Duo.qs t D.q
def Duo.seg (t : DT) (D : Duo) : List (Nat × Obj) := (D.hp t).flatten
def Duo.dev (D : Duo) : Bool → Dv
  | false => D.x
  | true => D.y
def Duo.pow (D : Duo) : Bool → Pw
  | false => D.p
  | true => D.q.getD D.p
def Duo.da (D : Duo) : Da := ⟨D.x.a, D.y.a, D.p.a, D.q.map (·.a)⟩
def Duo.ok (t : DT) (D : Duo) : Prop := match D.q with
  | none => GOk t D.p [] D.x [D.y]
  | some q => GOk t D.p [] D.x [] ∧ GOk t q [] D.y []
def Da.dev (A : Da) : Bool → Ab
  | false => A.a
  | true => A.b
def Da.pow (A : Da) : Bool → Pa
  | false => A.p
  | true => A.q.getD A.p
def Da.setd (A : Da) (i : Bool) (x : Ab) : Da := match i with
  | false => { A with a := x }
  | true => { A with b := x }
def Da.setp (A : Da) (i : Bool) (x : Pa) : Da := match i, A.q with
  | true, some _ => { A with q := some x }
  | _, _ => { A with p := x }
/-- The other device of the same power, behind an operation that was counted (c) or not. -/
def Da.oth (A : Da) (i c : Bool) : Da := if c && A.q.isNone then A.setd (!i) ((A.dev (!i)).step (A.pow i)) else A
def Da.write (A : Da) (i : Bool) (n : Int) (s : Sec) : Da := ((A.oth i (wgo (A.dev i) (A.pow i) n)).setd i (writeA (A.dev i) (A.pow i) n s)).setp i (writeP (A.dev i) (A.pow i) n)
def Da.flush (A : Da) (i : Bool) : Da := ((A.oth i (!(A.dev i).down (A.pow i))).setd i (flushA (A.dev i) (A.pow i))).setp i (flushP (A.dev i) (A.pow i))
def Da.wE (A : Da) (i : Bool) (n : Int) : Int := writeE (A.dev i) (A.pow i) n
def Da.fE (A : Da) (i : Bool) : Int := flushE (A.dev i) (A.pow i)
def Da.rS (A : Da) (i : Bool) (n : Int) : Sec := readS (A.dev i) (A.pow i) n
def Da.rE (A : Da) (i : Bool) (n : Int) : Int := readE (A.dev i) (A.pow i) n
theorem Da.setd_self (A : Da) (i : Bool) : A.setd i (A.dev i) = A := by cases i <;> rfl
theorem Da.setp_self (A : Da) (i : Bool) : A.setp i (A.pow i) = A := by
  obtain ⟨a, b, p, q⟩ := A
  cases i <;> cases q <;> rfl
theorem Duo.da_dev (D : Duo) (i : Bool) : (D.dev i).a = D.da.dev i := by cases i <;> rfl
theorem Duo.da_pow (D : Duo) (i : Bool) : (D.pow i).a = D.da.pow i := by
  obtain ⟨x, y, p, q⟩ := D
  cases i <;> cases q <;> rfl
theorem Duo.hsub2 (t : DT) (D : Duo) (H : Hp) : HSub (D.seg t :: H) (D.hp t ++ H) := hsub_flat (by rw [List.flatten_append]; rfl)
theorem Duo.flat (t : DT) (D : Duo) (H : Hp) : (D.hp t ++ H).flatten = (D.seg t :: H).flatten := by rw [List.flatten_append]; rfl
theorem Duo.pick (t : DT) (D : Duo) {H Y : Hp} (is : List Nat) (e : pick is (D.hp t ++ H) = Y) : Y.flatten.Perm (D.seg t :: H).flatten := by
  subst e
  rw [← Duo.flat]
  exact (pick_perm is _).flatten.symm
theorem Duo.view (t : DT) {D : Duo} (h : D.ok t) (i : Bool) (H : Hp) : ∃ L R X, GOk t (D.pow i) L (D.dev i) R ∧ (opn t (D.dev i) (D.pow i) (L ++ R) X).flatten.Perm (D.seg t :: H).flatten ∧
    ∀ c d' p' L' R', GOk t p' L' d' R' → d'.b = (D.dev i).b → p'.b = (D.pow i).b → Mv c (D.pow i).a L L' → Mv c (D.pow i).a R R' →
      ∃ D' : Duo, D'.ok t ∧ D'.x.b = D.x.b ∧ D'.y.b = D.y.b ∧ D'.p.b = D.p.b ∧ D'.da = ((D.da.oth i c).setd i d'.a).setp i p'.a ∧ HSub (D'.seg t :: H) (opn t d' p' (L' ++ R') X) := by
  obtain ⟨x, y, p, q⟩ := D
  cases q with
  | none =>
    have hG : GOk t p [] x [y] := h
    cases i with
    | false =>
      refine ⟨[], [y], H, hG, Duo.pick t _ [] rfl, ?_⟩
      intro c d' p' L' R' g1 g2 g3 g4 g5
      obtain rfl := g4.nil
      obtain ⟨y', rfl, e1, e2, e3⟩ := g5.one
      refine ⟨⟨d', y', p', none⟩, g1, g2, e1, g3, ?_, (Duo.hsub2 t _ H).trans (hsub_pick [] rfl)⟩
      cases c <;> simp_all [Duo.da, Da.oth, Da.setd, Da.setp, Da.dev, Da.pow, Duo.pow]
    | true =>
      refine ⟨[x], [], H, hG.next, Duo.pick t _ [5, 5, 5, 3, 3] rfl, ?_⟩
      intro c d' p' L' R' g1 g2 g3 g4 g5
      obtain rfl := g5.nil
      obtain ⟨y', rfl, e1, e2, e3⟩ := g4.one
      refine ⟨⟨y', d', p', none⟩, g1.back, e1, g2, g3, ?_, (Duo.hsub2 t _ H).trans (hsub_pick [5, 5, 5, 3, 3] rfl)⟩
      cases c <;> simp_all [Duo.da, Da.oth, Da.setd, Da.setp, Da.dev, Da.pow, Duo.pow]
  | some q =>
    obtain ⟨h1, h2⟩ := h
    simp only at h1 h2
    cases i with
    | false =>
      refine ⟨[], [], y.o t :: y.t t :: y.q t :: q.o t :: q.q t :: H, h1, Duo.pick t _ [] rfl, ?_⟩
      intro c d' p' L' R' g1 g2 g3 g4 g5
      obtain rfl := g4.nil
      obtain rfl := g5.nil
      exact ⟨⟨d', y, p', some q⟩, ⟨g1, h2⟩, g2, rfl, g3, by cases c <;> rfl, (Duo.hsub2 t _ H).trans (hsub_pick [] rfl)⟩
    | true =>
      refine ⟨[], [], x.o t :: x.t t :: x.q t :: p.o t :: p.q t :: H, h2, Duo.pick t _ [5, 5, 5, 5, 5] rfl, ?_⟩
      intro c d' p' L' R' g1 g2 g3 g4 g5
      obtain rfl := g4.nil
      obtain rfl := g5.nil
      exact ⟨⟨x, d', p, some p'⟩, ⟨h1, g1⟩, rfl, g2, rfl, by cases c <;> rfl, (Duo.hsub2 t _ H).trans (hsub_pick [5, 5, 5, 5, 5] rfl)⟩
/-- Two devices, at such blocks, of such an abstract state. -/
structure Two (t : DT) (D : Duo) (A : Da) (bx bys bp : Nat) : Prop where
  ok : D.ok t
  da : D.da = A
  x : D.x.b = bx
  y : D.y.b = bys
  p : D.p.b = bp
abbrev sel (bx bys : Nat) (i : Bool) : Nat := if i then bys else bx
theorem Two.b {t : DT} {D : Duo} {A : Da} {bx bys bp : Nat} (h : Two t D A bx bys bp) (i : Bool) : (D.dev i).b = sel bx bys i := by
  cases i
  · exact h.x
  · exact h.y
theorem Two.dev {t : DT} {D : Duo} {A : Da} {bx bys bp : Nat} (h : Two t D A bx bys bp) (i : Bool) : (D.dev i).a = A.dev i := by rw [D.da_dev, h.da]
theorem Two.pow {t : DT} {D : Duo} {A : Da} {bx bys bp : Nat} (h : Two t D A bx bys bp) (i : Bool) : (D.pow i).a = A.pow i := by rw [D.da_pow, h.da]
theorem Two.aok {t : DT} {D : Duo} {A : Da} {bx bys bp : Nat} (h : Two t D A bx bys bp) (i : Bool) : (A.dev i).ok ∧ (A.dev i).Q.length ≤ 100000 := by
  obtain ⟨L, R, X, hG, _⟩ := Duo.view t h.ok i []
  rw [← h.dev i]
  exact ⟨hG.dok.1, hG.dok.2.2⟩
/-- One view for all calls: what a call does to a device in hand it does to the two. -/
theorem Two.view {t : DT} {D : Duo} {A : Da} {bx bys bp : Nat} (h : Two t D A bx bys bp) (i : Bool) (H : Hp) : ∃ d p L R X, GOk t p L d R ∧ d.b = sel bx bys i ∧ d.a = A.dev i ∧ p.a = A.pow i ∧ (i = false → p.b = bp) ∧ (opn t d p (L ++ R) X).flatten.Perm (D.seg t :: H).flatten ∧
    ∀ c d' p' L' R', GOk t p' L' d' R' → d'.b = sel bx bys i → p'.b = p.b → Mv c (A.pow i) L L' → Mv c (A.pow i) R R' →
      ∃ D' : Duo, Two t D' (((A.oth i c).setd i d'.a).setp i p'.a) bx bys bp ∧ HSub (D'.seg t :: H) (opn t d' p' (L' ++ R') X) := by
  obtain ⟨L, R, X, hG, h1, h3⟩ := Duo.view t h.ok i H
  refine ⟨D.dev i, D.pow i, L, R, X, hG, h.b i, h.dev i, h.pow i, fun e => by subst e; exact h.p, h1, ?_⟩
  intro c d' p' L' R' g1 g2 g3 g4 g5
  obtain ⟨D', k1, k2, k3, k4, k5, k6⟩ := h3 c d' p' L' R' g1 (g2.trans (h.b i).symm) g3 (h.pow i ▸ g4) (h.pow i ▸ g5)
  exact ⟨D', ⟨k1, by rw [k5, h.da], k2.trans h.x, k3.trans h.y, k4.trans h.p⟩, k6⟩
theorem Two.to {t : DT} {D : Duo} {A B : Da} {bx bys bp : Nat} (h : Two t D A bx bys bp) (e : A = B) : Two t D B bx bys bp := e ▸ h
theorem Da.oth_f (A : Da) (i : Bool) : A.oth i false = A := rfl
theorem Da.setd_pow (A : Da) (i j : Bool) (x : Ab) : (A.setd i x).pow j = A.pow j := by cases i <;> cases j <;> rfl
theorem Da.setd_setp (A : Da) (i : Bool) (x : Ab) : (A.setd i x).setp i (A.pow i) = A.setd i x := by
  have := Da.setp_self (A.setd i x) i
  rwa [Da.setd_pow] at this
theorem Ab.cut_many (a : Ab) : a.cut.Q.length ≤ a.Q.length := by unfold Ab.cut; split <;> simp
theorem Ab.step_many (a : Ab) (q : Pa) : (a.step q).Q.length ≤ a.Q.length := by unfold Ab.step; split; exact a.cut_many; exact Nat.le_refl _
theorem writeA_many (a : Ab) (q : Pa) (n : Int) (s : Sec) : (writeA a q n s).Q.length ≤ a.Q.length + 1 := by
  unfold writeA; split
  · refine Nat.le_trans (Ab.step_many _ _) ?_; simp [Ab.push]
  · omega
theorem Da.setp_dev (A : Da) (i j : Bool) (x : Pa) : (A.setp i x).dev j = A.dev j := by obtain ⟨a, b, p, q⟩ := A; cases i <;> cases j <;> cases q <;> rfl
theorem Da.setd_same (A : Da) (i : Bool) (x : Ab) : (A.setd i x).dev i = x := by cases i <;> rfl
theorem Da.setd_other (A : Da) {i j : Bool} (x : Ab) (h : j ≠ i) : (A.setd i x).dev j = A.dev j := by cases i <;> cases j <;> first | rfl | exact absurd rfl h
theorem Da.oth_many (A : Da) (i c j : Bool) : ((A.oth i c).dev j).Q.length ≤ (A.dev j).Q.length := by
  unfold Da.oth; split
  · by_cases h : j = !i
    · subst h; rw [Da.setd_same]; exact Ab.step_many _ _
    · rw [Da.setd_other _ _ h]; exact Nat.le_refl _
  · exact Nat.le_refl _
theorem Da.write_many (A : Da) (i : Bool) (n : Int) (s : Sec) (j : Bool) : ((A.write i n s).dev j).Q.length ≤ (A.dev j).Q.length + 1 := by
  unfold Da.write
  rw [Da.setp_dev]
  by_cases h : j = i
  · subst h; rw [Da.setd_same]; exact writeA_many _ _ _ _
  · rw [Da.setd_other _ _ h]; exact Nat.le_succ_of_le (Da.oth_many _ _ _ _)
/-- Power that doesn't fail. -/
def Da.calm (A : Da) : Prop := A.p.off = false ∧ A.p.fails = false ∧ ∀ q, A.q = some q → q.off = false ∧ q.fails = false
theorem Da.calm_pow {A : Da} (h : A.calm) (i : Bool) : (A.pow i).off = false ∧ (A.pow i).fails = false := by
  obtain ⟨a, b, p, q⟩ := A
  obtain ⟨h1, h2, h3⟩ := h
  cases i
  · exact ⟨h1, h2⟩
  · cases q
    · exact ⟨h1, h2⟩
    · exact h3 _ rfl
theorem Pa.calm_step {q : Pa} (h : q.fails = false) : q.step = q ∧ q.falls = false := by simp [Pa.step, Pa.falls, h]
theorem Da.calm_setd {A : Da} (h : A.calm) (i : Bool) (x : Ab) : (A.setd i x).calm := by cases i <;> exact h
theorem Da.oth_calm {A : Da} (h : A.calm) (i c : Bool) : A.oth i c = A := by
  unfold Da.oth
  split
  · rw [show ((A.dev (!i)).step (A.pow i)) = A.dev (!i) from by simp [Ab.step, (Pa.calm_step (Da.calm_pow h i).2).2], Da.setd_self]
  · rfl
theorem Da.write_calm {A : Da} (h : A.calm) (i : Bool) (n : Int) (s : Sec) : A.write i n s = (if !(A.dev i).out && (A.dev i).has n then A.setd i ((A.dev i).push n.toNat s) else A) ∧ A.wE i n = (if (A.dev i).out then 13 else if (A.dev i).has n then 0 else 2) := by
  obtain ⟨h1, h2⟩ := Da.calm_pow h i
  obtain ⟨h3, h4⟩ := Pa.calm_step h2
  constructor
  · unfold Da.write
    rw [Da.oth_calm h]
    have e : writeP (A.dev i) (A.pow i) n = A.pow i := by unfold writeP; split <;> simp [h3]
    rw [e, Da.setd_setp]
    unfold writeA wgo Ab.down
    rw [h1, Bool.or_false]
    split
    · simp [Ab.step, h4]
    · exact Da.setd_self _ _
  · unfold Da.wE writeE Ab.down
    rw [h1, Bool.or_false, h4]
    simp
theorem Da.flush_calm {A : Da} (h : A.calm) (i : Bool) : A.flush i = (if (A.dev i).out then A else A.setd i (A.dev i).flush) ∧ A.fE i = (if (A.dev i).out then 13 else 0) := by
  obtain ⟨h1, h2⟩ := Da.calm_pow h i
  obtain ⟨h3, h4⟩ := Pa.calm_step h2
  constructor
  · unfold Da.flush
    rw [Da.oth_calm h]
    have e : flushP (A.dev i) (A.pow i) = A.pow i := by unfold flushP; split <;> simp [h3]
    rw [e, Da.setd_setp]
    unfold flushA Ab.down
    rw [h1, Bool.or_false, h4]
    split
    · exact Da.setd_self _ _
    · simp
  · unfold Da.fE flushE Ab.down
    rw [h1, Bool.or_false, h4]
    simp
theorem Da.read_calm {A : Da} (h : A.calm) (i : Bool) (n : Int) : A.rS i n = (if (A.dev i).out then secOf 0 else if (A.dev i).has n then (A.dev i).read n.toNat else secOf 0) ∧ A.rE i n = (if (A.dev i).out then 13 else if (A.dev i).has n then 0 else 2) := by
  obtain ⟨h1, h2⟩ := Da.calm_pow h i
  unfold Da.rS Da.rE readS readE Ab.down
  rw [h1, Bool.or_false]
  exact ⟨rfl, rfl⟩
end Go.Sl

/- walks (own work; the walks' lines by a program of this repo). -/
set_option linter.unusedVariables false
set_option linter.unusedSimpArgs false
set_option maxRecDepth 20000
namespace Go.Proofs.Ytjjiclgbdenkkaa
open Go.Sl
attribute [local irreducible] BodyQ WpC WpL WpS WpH OpW FnS


theorem write_d {w0 : World} {H : Hp} {D : Duo} {A : Da} {bx bys bp : Nat} (h : Two dt D A bx bys bp) (i : Bool) (n : Int) (s : Sec) (hs : s.length = 128) (hQ : (A.dev i).Q.length < 100000) : FnS Try.prog w0 62 #[ptr (sel bx bys i), .int .i64 n, .agg (bs s).toArray] (D.seg dt :: H) (fun e H' => e = .returned (.int .i64 (A.wE i n)) ∧ ∃ D', Two dt D' (A.write i n s) bx bys bp ∧ H' = D'.seg dt :: H) := by
  obtain ⟨d, p, L, R, X, hG, hb, hd, hp, hpb, pm, s3⟩ := h.view i H
  have s1 := HSub.of_perm pm.symm
  have s2 := HSub.of_perm pm
  refine ((write_l hG hb n s hs (by rw [hd]; exact hQ)).sub s1).weak ?_
  rintro _ _ ⟨rfl, d', p', L', R', h1, h2, h3, h4, h5, h6, h7, rfl⟩
  rw [hd, hp] at h3 h5 h6 h7
  obtain ⟨D', k1, k2⟩ := s3 _ d' p' L' R' h1 h2 h4 h6 h7
  rw [h3, h5] at k1
  exact ⟨_, k2, by rw [hd, hp]; rfl, D', k1, rfl⟩

theorem flush_d {w0 : World} {H : Hp} {D : Duo} {A : Da} {bx bys bp : Nat} (h : Two dt D A bx bys bp) (i : Bool) : FnS Try.prog w0 86 #[ptr (sel bx bys i)] (D.seg dt :: H) (fun e H' => e = .returned (.int .i64 (A.fE i)) ∧ ∃ D', Two dt D' (A.flush i) bx bys bp ∧ H' = D'.seg dt :: H) := by
  obtain ⟨d, p, L, R, X, hG, hb, hd, hp, hpb, pm, s3⟩ := h.view i H
  have s1 := HSub.of_perm pm.symm
  have s2 := HSub.of_perm pm
  refine ((flush_l hG hb).sub s1).weak ?_
  rintro _ _ ⟨rfl, d', p', L', R', h1, h2, h3, h4, h5, h6, h7, rfl⟩
  rw [hd, hp] at h3 h5 h6 h7
  obtain ⟨D', k1, k2⟩ := s3 _ d' p' L' R' h1 h2 h4 h6 h7
  rw [h3, h5] at k1
  exact ⟨_, k2, by rw [hd, hp]; rfl, D', k1, rfl⟩

theorem read_d {w0 : World} {H : Hp} {D : Duo} {A : Da} {bx bys bp : Nat} (h : Two dt D A bx bys bp) (i : Bool) (n : Int) : FnS Try.prog w0 60 #[ptr (sel bx bys i), .int .i64 n] (D.seg dt :: H) (fun e H' => e = .returned (.tuple #[.agg (bs (A.rS i n)).toArray, .int .i64 (A.rE i n)]) ∧ H' = D.seg dt :: H) := by
  obtain ⟨d, p, L, R, X, hG, hb, hd, hp, hpb, pm, s3⟩ := h.view i H
  have s1 := HSub.of_perm pm.symm
  have s2 := HSub.of_perm pm
  refine ((read_l hG hb n).sub s1).weak ?_
  rintro _ _ ⟨rfl, rfl⟩
  exact ⟨_, s2, by rw [hd, hp]; rfl, rfl⟩

theorem out_d {w0 : World} {H : Hp} {D : Duo} {A : Da} {bx bys bp : Nat} (h : Two dt D A bx bys bp) (i : Bool) (on : Bool) : FnS Try.prog w0 33 #[ptr (sel bx bys i), .bool on] (D.seg dt :: H) (fun e H' => e = .returned (.tuple #[]) ∧ ∃ D', Two dt D' (A.setd i ((A.dev i).outs on)) bx bys bp ∧ H' = D'.seg dt :: H) := by
  obtain ⟨d, p, L, R, X, hG, hb, hd, hp, hpb, pm, s3⟩ := h.view i H
  have s1 := HSub.of_perm pm.symm
  have s2 := HSub.of_perm pm
  refine ((out_l hG hb on).sub s1).weak ?_
  rintro _ _ ⟨rfl, d', h1, h2, h3, rfl⟩
  obtain ⟨D', k1, k2⟩ := s3 false d' p L R h1 h2 rfl (Mv.same _ _) (Mv.same _ _)
  rw [h3, hd, hp, Da.oth_f, Da.setd_setp] at k1
  exact ⟨_, k2, rfl, D', k1, rfl⟩

theorem rot_d {w0 : World} {H : Hp} {D : Duo} {A : Da} {bx bys bp : Nat} (h : Two dt D A bx bys bp) (i : Bool) (n j : Int) (m : UInt8) : FnS Try.prog w0 34 #[ptr (sel bx bys i), .int .i64 n, .int .i64 j, .int .u8 (m.toNat : Int)] (D.seg dt :: H) (fun e H' => e = .returned (.bool ((A.dev i).rotE n j)) ∧ ∃ D', Two dt D' (A.setd i ((A.dev i).rots n j m)) bx bys bp ∧ H' = D'.seg dt :: H) := by
  obtain ⟨d, p, L, R, X, hG, hb, hd, hp, hpb, pm, s3⟩ := h.view i H
  have s1 := HSub.of_perm pm.symm
  have s2 := HSub.of_perm pm
  refine ((rot_l hG hb n j m).sub s1).weak ?_
  rintro _ _ ⟨rfl, d', h1, h2, h3, rfl⟩
  obtain ⟨D', k1, k2⟩ := s3 false d' p L R h1 h2 rfl (Mv.same _ _) (Mv.same _ _)
  rw [h3, hd, hp, Da.oth_f, Da.setd_setp] at k1
  exact ⟨_, k2, by rw [hd], D', k1, rfl⟩

theorem len_d {w0 : World} {H : Hp} {D : Duo} {A : Da} {bx bys bp : Nat} (h : Two dt D A bx bys bp) (i : Bool) : FnS Try.prog w0 52 #[ptr (sel bx bys i)] (D.seg dt :: H) (fun e H' => e = .returned (.int .i64 ((A.dev i).S.length : Int)) ∧ H' = D.seg dt :: H) := by
  obtain ⟨d, p, L, R, X, hG, hb, hd, hp, hpb, pm, s3⟩ := h.view i H
  have s1 := HSub.of_perm pm.symm
  have s2 := HSub.of_perm pm
  refine ((len_l hb (sees 0 0 rfl)).sub s1).weak ?_
  rintro _ _ ⟨rfl, rfl⟩
  exact ⟨_, s2, by rw [hd], rfl⟩

theorem newnil_d {w0 : World} {H : Hp} {d : Dv} {p : Pw} {bx : Nat} (hG : GOk dt p [] d []) (hx : d.b = bx) (n : Int) : FnS Try.prog w0 16 #[.int .i64 n, .pointer none] (d.o dt :: d.t dt :: d.q dt :: p.o dt :: p.q dt :: H) (fun e H' => ∃ bys D', Two dt D' ⟨d.a, Ab.new (szOf n), p.a, some ⟨false, 0, false⟩⟩ bx bys p.b ∧ e = .returned (ptr bys) ∧ H' = D'.seg dt :: H) := by
  refine (new_ln n).weak ?_
  rintro _ _ ⟨y, q, h1, h2, h3, rfl, rfl⟩
  exact ⟨_, (Duo.hsub2 dt ⟨d, y, p, some q⟩ H).trans (hsub_pick [5, 5, 5, 5, 5] rfl), y.b, ⟨d, y, p, some q⟩, ⟨⟨hG, h1⟩, by simp only [Duo.da, h2, h3, Option.map_some], hx, rfl, rfl⟩, rfl, rfl⟩

end Go.Proofs.Ytjjiclgbdenkkaa

/- Loops round by round (own work). -/
set_option linter.unusedVariables false
namespace Go.Sl
variable {P : Program} {n : FN} {w0 : World} {Q : Post} {E : Env} {H : Hp}
/-- Within a loop, ahead of a round. -/
def WpIn (P : Program) (n : FN) (w0 : World) (c : Code) (Q : Post) (E : Env) (H : Hp) : Prop := ∀ a w, FrOk n E a → St w0 w H → ∀ b k cs,
  ∃ e a' w', lift n w0 Q e a' w' ∧ Arrives P (lone (b.at a (.code c :: .inLoop c :: k)) cs w) b k cs e a' w'
theorem C_loopIn {c : Code} (h : WpIn P n w0 c Q E H) : WpC P n w0 (.loop c) Q E H := by
  intro a w ha hw b k cs
  obtain ⟨e, a', w', hq, harr⟩ := h a w ha hw b k cs
  exact ⟨e, a', w', hq, .of_steps (.one step_loop) harr⟩
theorem In_round {c : Code} (h : WpC P n w0 c (thenQ (fun E' H' => WpIn P n w0 c Q E' H') Q) E H) : WpIn P n w0 c Q E H := by
  intro a w ha hw b k cs
  obtain ⟨e, a₁, w₁, hq, harr⟩ := h a w ha hw b (.inLoop c :: k) cs
  obtain ⟨E₁, H₁, f1, s1, q⟩ := hq
  cases e with
  | normal =>
    obtain ⟨e₂, a₂, w₂, hq₂, harr₂⟩ := q a₁ w₁ (f1.2 rfl) s1 b k cs
    exact ⟨e₂, a₂, w₂, hq₂, .of_steps (Steps.trans harr (.one step_inLoop)) harr₂⟩
  | exit id => exact ⟨_, a₁, w₁, ⟨E₁, H₁, f1, s1, q⟩, .pass (x := .inLoop c) rfl (fun _ _ => .inl (by simp)) harr⟩
  | goto l => exact ⟨_, a₁, w₁, ⟨E₁, H₁, f1, s1, q⟩, .pass (x := .inLoop c) rfl (fun _ _ => .inl (by simp)) harr⟩
  | ret => exact ⟨_, a₁, w₁, ⟨E₁, H₁, f1, s1, q⟩, .pass (x := .inLoop c) rfl (fun _ _ => .inl (by simp)) harr⟩
  | panic ch => exact ⟨_, a₁, w₁, ⟨E₁, H₁, f1, s1, q⟩, .pass (x := .inLoop c) rfl (fun _ _ => .inl (by simp)) harr⟩
  | outgrown => exact ⟨_, a₁, w₁, ⟨E₁, H₁, f1, s1, q⟩, .pass (x := .inLoop c) rfl (fun _ _ => .inl (by simp)) harr⟩
/-- Any of these loud operations may come up. -/
def HAll (P : Program) (n : FN) (w0 : World) (ops : List Oper) (Q : Post) (HS : Hp) (fuel : Nat) (listed : List Bool) (E : Env) (H : Hp) : List Nat → Prop
  | [] => True
  | k :: ks => (∃ o, ops[k]? = some o ∧ wE ops E o.guard = some true ∧ OpW P n w0 Q o E H (fun E' H' => HSub HS H' ∧ WpH P n w0 ops Q HS fuel (listed.set k true) E' H')) ∧ HAll P n w0 ops Q HS fuel listed E H ks
end Go.Sl

/- A mirror: what lies in memory, and the plain model (own work). -/
set_option linter.unusedVariables false
set_option linter.unusedSimpArgs false
namespace Go.Sl
section
variable {P : Program} {n : FN} {w0 : World} {Q : Post} {E E' : Env} {H H' HS : Hp} {K : Env → Hp → Prop}
variable {d : Option Nat} {ty t t2 : Nat} {ps : String} {af : Array Edge} {g : Option (Nat × Bool)} {x y c : Operand}
theorem op_weaken {o : Oper} (hs : HSub H' H) (h : OpW P n w0 Q o E H' K) : OpW P n w0 Q o E H K := fun a w ha hw next hn => h a w ha (hs w0 w hw) next hn
/-- An append to nothing. -/
theorem op_append0 {m e sz bt : Nat} {vs zl : List Value} {xv : Value} {t0 t1 : TypeId} (hx : ev E x = some (.slice none 0 0)) (hy : ev E y = some xv)
    (hsrc : Src P w0 H sz xv m vs) (hm : vs.length = m * sz) (hone : ∀ v ∈ vs, one v = true)
    (hu : P.underlying t0 = some (.slice e)) (hnx : notIntT P t1 = true) (hz : szT P e = some sz) (hb : byT P e = some bt) (hbp : 0 < bt)
    (hzl : zeroL P e = some zl) (hlz : zl.length = sz) (hbound : m * bt ≤ 140737488355328) (hd : dok d n = true)
    (k : ∀ g' : Option SlG, slOk sz g' m vs → K (put E d (slV g' m)) (slSeg e g' vs :: H)) :
    OpW P n w0 Q ⟨d, .call { callee := .builtin .append, args := [x, y].toArray, argTypes := #[t0, t1] }, ty, ps, af, g⟩ E H K := by
  refine op_weaken (H' := [] :: H) (hsub_flat rfl) ?_
  refine op_append (gs := none) (len := 0) (m := m) (xs := []) (vs := vs) 0 hx hy rfl ⟨by simp, rfl⟩ (hsrc.sub (HSub.drop _ _)) hm hone hu hnx hz hb hbp hzl hlz (by simpa using hbound) hd (fun g' hg' => ?_)
  rw [Nat.zero_add, List.nil_append] at hg' ⊢
  exact k g' hg'
end
structure Mi where
  b : Nat
  r0 : Nat
  r1 : Nat
  bx : Nat
  bys : Nat
  n : Nat
  gv : Value
  k0 : List (Int × Nat)
  c0 : Nat
  k1 : List (Int × Nat)
  c1 : Nat
abbrev Mi.cells (m : Mi) : List Value := [ptr m.bx, .map (some m.r0), ptr m.bys, .map (some m.r1), .int .i64 (m.n : Int), m.gv]
abbrev Mi.seg (t : Nat) (m : Mi) : List (Nat × Obj) := [(m.b, .cells m.cells.toArray t), (m.r0, mapO m.k0 m.c0), (m.r1, mapO m.k1 m.c1)]
def Mi.has (m : Mi) (n : Int) : Bool := decide (0 ≤ n) && decide (n < m.n)
/-- Is a device there? -/
def thr (A : Da) (i : Bool) : Bool := !(A.dev i).down (A.pow i)
theorem rE_thr (A : Da) (i : Bool) (n : Int) : decide (A.rE i n = 13) = !thr A i := by
  unfold Da.rE readE thr
  cases h : (A.dev i).down (A.pow i)
  · simp only [Bool.false_eq_true, if_false]
    split <;> simp
  · simp
theorem rE_neq (A : Da) (i : Bool) (n : Int) : (!decide (A.rE i n = 13)) = thr A i := by rw [rE_thr, Bool.not_not]
def pres (p q : Bool) : List Int := (if p then [0] else []) ++ (if q then [1] else [])
def intl (l : List Int) : List Value := l.map (Value.int .i64)
/-- A function that tells which sectors may stand where. -/
def GoodAt (P : Program) (w0 : World) (H : Hp) (gv : Value) (p : Int → Sec → Bool) : Prop :=
  (gv = .nilFunc ∧ p = fun _ _ => false) ∨ ∃ f cap, gv = .func (.func f) #[] (List.toArray cap) ∧ (∀ args w, (callFunc f args).run P w = .ok (.enter f args) w) ∧
    ∀ H' n s, HSub H H' → s.length = 128 → FnS P w0 f ([Value.int .i64 n, Value.agg (bs s).toArray] ++ cap).toArray H' (fun e H2 => e = .returned (.bool (p n s)) ∧ H2 = H')
theorem GoodAt.sub {P : Program} {w0 : World} {H H' : Hp} {gv : Value} {p : Int → Sec → Bool} (h : GoodAt P w0 H gv p) (hs : HSub H H') : GoodAt P w0 H' gv p := by
  rcases h with h | ⟨f, cap, h1, h2, h3⟩
  · exact .inl h
  · exact .inr ⟨f, cap, h1, h2, fun H2 n s hs2 hl => h3 H2 n s (hs.trans hs2) hl⟩
/-- Does the side i tell what stands at n? -/
def okAt (A : Da) (i : Bool) (ks : List (Int × Nat)) (p : Int → Sec → Bool) (n : Int) : Bool := decide (A.rE i n = 0) && !kHas ks n && p n (A.rS i n)
def mrE (m : Mi) (A : Da) (p : Int → Sec → Bool) (n : Int) : Int :=
  if m.has n then (if thr A false || thr A true then (if thr A false && okAt A false m.k0 p n then 0 else if thr A true && okAt A true m.k1 p n then 0 else 9) else 13) else 2
def mrS (m : Mi) (A : Da) (p : Int → Sec → Bool) (n : Int) : Sec :=
  if m.has n then (if thr A false && okAt A false m.k0 p n then A.rS false n else if thr A true && okAt A true m.k1 p n then A.rS true n else secOf 0) else secOf 0
theorem rS_len {A : Da} (i : Bool) {n : Int} (h : ∀ i, (A.dev i).ok) : (A.rS i n).length = 128 := readS_len (h i)
theorem Two.oks {t : DT} {D : Duo} {A : Da} {bx bys bp : Nat} (h : Two t D A bx bys bp) (i : Bool) : (A.dev i).ok := (h.aok i).1
/-! ### Writes to both -/
def pd (A : Da) (i : Bool) (ask : Da → Bool → Bool) (n : Int) : Bool := thr A i && (!ask A i || decide (A.wE i n = 0))
def pA (A : Da) (i : Bool) (ask : Da → Bool → Bool) (n : Int) (s : Sec) : Da := if thr A i && ask A i then A.write i n s else A
def putA (A : Da) (ask : Da → Bool → Bool) (n : Int) (s : Sec) : Da := pA (pA A false ask n s) true ask n s
def putD (A : Da) (ask : Da → Bool → Bool) (n : Int) (s : Sec) : Bool → Bool
  | false => pd A false ask n
  | true => pd (pA A false ask n s) true ask n
def Mi.mark (m : Mi) (n : Int) (x y : Bool) : Mi := { m with
  k0 := if x then kDel m.k0 n else kPut m.k0 m.c0 n, c0 := if x then m.c0 else kClk m.k0 m.c0 n
  k1 := if y then kDel m.k1 n else kPut m.k1 m.c1 n, c1 := if y then m.c1 else kClk m.k1 m.c1 n }
def putm (m : Mi) (A : Da) (ask : Da → Bool → Bool) (n : Int) (s : Sec) : Mi := if m.has n && (putD A ask n s false || putD A ask n s true) then m.mark n (putD A ask n s false) (putD A ask n s true) else m
def putE (m : Mi) (A : Da) (ask : Da → Bool → Bool) (n : Int) (s : Sec) : Int := if m.has n then (if putD A ask n s false || putD A ask n s true then 0 else 13) else 2
def putDa (m : Mi) (A : Da) (ask : Da → Bool → Bool) (n : Int) (s : Sec) : Da := if m.has n then putA A ask n s else A
/-- A function that tells whether a side is asked for it. -/
def AskAt (P : Program) (t : DT) (tm : Nat) (w0 : World) (H : Hp) (m : Mi) (bp : Nat) (fa : Nat) (cap : List Value) (ask : Da → Bool → Bool) : Prop :=
  (∀ args w, (callFunc fa args).run P w = .ok (.enter fa args) w) ∧ ∀ (i : Bool) D A X, Two t D A m.bx m.bys bp → HSub H X →
    FnS P w0 fa ([Value.pointer (some ⟨m.b, if i then 2 else 0, none⟩)] ++ cap).toArray (m.seg tm :: D.seg t :: X) (fun e H2 => e = .returned (.bool (ask A i)) ∧ H2 = m.seg tm :: D.seg t :: X)
theorem AskAt.sub {P : Program} {t : DT} {tm : Nat} {w0 : World} {H H' : Hp} {m : Mi} {bp fa : Nat} {cap : List Value} {ask : Da → Bool → Bool} (h : AskAt P t tm w0 H m bp fa cap ask) (hs : HSub H H') : AskAt P t tm w0 H' m bp fa cap ask :=
  ⟨h.1, fun i D A X h1 h2 => h.2 i D A X h1 (hs.trans h2)⟩
def askAll : Da → Bool → Bool := fun _ _ => true
def askNew (n : Int) (s : Sec) : Da → Bool → Bool := fun A i => !decide (A.rE i n = 0) || !decide (A.rS i n = s)
/-! ### A flush of both -/
def fl1 (q : Da × Int) (i : Bool) : Da × Int := (q.1.flush i, if q.1.fE i = 0 then q.2 else 13)
def mfl (A : Da) : Da × Int :=
  if thr A false then (if thr A true then fl1 (fl1 (A, 0) false) true else fl1 (A, 0) false) else (if thr A true then fl1 (A, 0) true else (A, 13))
theorem spl_lo {x y s : List UInt8} (hx : x.length = s.length) : spl (bs (x ++ y)) 0 (bs s) = bs (s ++ y) := by
  rw [spl_bs (by simp; omega)]
  congr 1
  simp [hx]
theorem spl_hi {x y s : List UInt8} {k : Nat} (hx : x.length = k) (hy : y.length = s.length) : spl (bs (x ++ y)) k (bs s) = bs (x ++ s) := by
  rw [spl_bs (by simp; omega)]
  congr 1
  rw [List.take_left' hx, ← List.drop_drop, List.drop_left' hx, ← hy, List.drop_length]
  simp
theorem two_lo {x y : List UInt8} {k : Nat} (hx : x.length = k) : ((bs (x ++ y)).drop 0).take k = bs x := by rw [List.drop_zero, bs_take, List.take_left' hx]
theorem two_hi {x y : List UInt8} {k : Nat} (hx : x.length = k) (hy : y.length = k) : ((bs (x ++ y)).drop k).take k = bs y := by rw [bs_drop, List.drop_left' hx, bs_take, List.take_of_length_le (by omega)]
theorem z256 : (List.replicate 2 (List.replicate 128 (Value.int .u8 0))).flatten = bs (secOf 0 ++ secOf 0) := by rw [bs_append, ← zsec]; rfl
/-! ### Heal -/
def hg0 (m : Mi) (A : Da) (p : Int → Sec → Bool) (n : Int) : Bool := !kHas m.k0 n && p n (A.rS false n)
def hg1 (m : Mi) (A : Da) (p : Int → Sec → Bool) (n : Int) : Bool := !kHas m.k1 n && p n (A.rS true n)
/-- What is done: none, or a write to a side. -/
def healTo (m : Mi) (A : Da) (p : Int → Sec → Bool) (n : Int) : Option Bool :=
  if m.has n && (thr A false && thr A true) then
    (if hg0 m A p n then (if hg1 m A p n && decide (A.rS false n = A.rS true n) then none else some true) else if hg1 m A p n then some false else none)
  else none
def healR (m : Mi) (A : Da) (p : Int → Sec → Bool) (n : Int) : Int × Int :=
  if m.has n then (if thr A false && thr A true then
    (if hg0 m A p n then (if hg1 m A p n && decide (A.rS false n = A.rS true n) then (0, 0) else (1, 0)) else if hg1 m A p n then (1, 0) else (2, 0))
  else (0, 13)) else (0, 2)
def healA (m : Mi) (A : Da) (p : Int → Sec → Bool) (n : Int) : Da := match healTo m A p n with
  | none => A
  | some i => A.write i n (A.rS (!i) n)
def healM (m : Mi) (A : Da) (p : Int → Sec → Bool) (n : Int) : Mi := match healTo m A p n with
  | none => m
  | some i => if A.wE i n = 0 then (if i then { m with k1 := kDel m.k1 n } else { m with k0 := kDel m.k0 n }) else m
/-! ### Both -/
def bothS (m : Mi) (A : Da) (p : Int → Sec → Bool) (n : Int) : List Sec :=
  if m.has n then (if thr A false && (decide (A.rE false n = 0) && p n (A.rS false n)) then [A.rS false n] else []) ++ (if thr A true && (decide (A.rE true n = 0) && p n (A.rS true n)) then [A.rS true n] else []) else []
/-! ### A new mirror -/
theorem y_minN {P : Program} {n : FN} {E : Env} {W : World → Prop} {x y : Operand} {ty : Nat} {a b : Nat} {tys : Array TypeId} (hx : ev E x = some (.int .i64 (a : Int))) (hy : ev E y = some (.int .i64 (b : Int))) :
    YV P n E W (.call { callee := .builtin .min, args := [x, y].toArray, argTypes := tys }) ty (.int .i64 ((min a b : Nat) : Int)) := by
  have h := y_min (P := P) (n := n) (W := W) (ty := ty) (tys := tys) hx hy
  rwa [show min (a : Int) (b : Int) = ((min a b : Nat) : Int) from by omega] at h
/-- What is stale of a side of which so many places were looked at. -/
def stN (j : Nat) : List (Int × Nat) := (List.range j).map fun (i : Nat) => ((i : Int), i)
theorem stN_has (j : Nat) (k : Int) : kHas (stN j) k = (decide (0 ≤ k) && decide (k < j)) := by
  unfold kHas stN
  rw [List.any_map]
  by_cases h : 0 ≤ k ∧ k < j
  · have : ((List.range j).any ((fun x : Int × Nat => x.1 == k) ∘ fun i : Nat => ((i : Int), i))) = true := by
      rw [List.any_eq_true]
      exact ⟨k.toNat, List.mem_range.2 (by omega), by simp; omega⟩
    rw [this]; simp; omega
  · have : ((List.range j).any ((fun x : Int × Nat => x.1 == k) ∘ fun i : Nat => ((i : Int), i))) = false := by
      rw [List.any_eq_false]
      intro x hx
      have := List.mem_range.1 hx
      simp; omega
    rw [this]; simp; omega
theorem stN_put (j : Nat) : kPut (stN j) j (j : Int) = stN (j + 1) ∧ kClk (stN j) j (j : Int) = j + 1 := by
  have h : kHas (stN j) (j : Int) = false := by rw [stN_has]; simp
  exact ⟨by rw [kPut, h]; simp [stN, List.range_succ], by rw [kClk, h]; simp⟩
def stale0 (t : Bool) (n : Nat) : List (Int × Nat) := if t then [] else stN n
def mnew (A : Da) (bx bys : Nat) (gv : Value) (b r0 r1 : Nat) : Mi :=
  ⟨b, r0, r1, bx, bys, min A.a.S.length A.b.S.length, gv, stale0 (thr A false) (min A.a.S.length A.b.S.length), (if thr A false then 0 else min A.a.S.length A.b.S.length), stale0 (thr A true) (min A.a.S.length A.b.S.length), (if thr A true then 0 else min A.a.S.length A.b.S.length)⟩
end Go.Sl

/- Facts of the translation's types, for the kernel (own work, by a program of this repo). -/
namespace Go.Proofs.Ytjjiclgbdenkkaa
open Go.Sl
theorem ag_105 : isAggT Try.prog 105 = some false := by kernel_rfl
theorem ag_107 : isAggT Try.prog 107 = some true := by kernel_rfl
theorem ag_24 : isAggT Try.prog 24 = some false := by kernel_rfl
theorem ag_28 : isAggT Try.prog 28 = some false := by kernel_rfl
theorem by_3 : byT Try.prog 3 = some 8 := by kernel_rfl
theorem eg_32 : Try.prog.eqGuardType Try.prog.depth 32 = false := by kernel_rfl
theorem fl_107_0 : fldT Try.prog 107 0 = some 0 := by kernel_rfl
theorem fl_107_1 : fldT Try.prog 107 1 = some 1 := by kernel_rfl
theorem fl_110_0 : fldT Try.prog 110 0 = some 0 := by kernel_rfl
theorem fl_110_1 : fldT Try.prog 110 1 = some 4 := by kernel_rfl
theorem fl_110_2 : fldT Try.prog 110 2 = some 5 := by kernel_rfl
theorem ni_118 : notIntT Try.prog 118 = true := by kernel_rfl
theorem pl_107 : placesT Try.prog 107 = some [(0, 1), (1, 1)] := by kernel_rfl
theorem pl_110 : placesT Try.prog 110 = some [(0, 4), (4, 1), (5, 1)] := by kernel_rfl
theorem sz_107 : szT Try.prog 107 = some 2 := by kernel_rfl
theorem sz_24 : szT Try.prog 24 = some 1 := by kernel_rfl
theorem zl_107 : zeroL Try.prog 107 = some ([.pointer none, .map none]) := by kernel_rfl
theorem zl_110 : zeroL Try.prog 110 = some (((List.replicate 2 (([.pointer none, .map none]))).flatten) ++ [.int .i64 0, .nilFunc]) := by kernel_rfl
theorem zl_120 : zeroL Try.prog 120 = some ((List.replicate 2 ((List.replicate 128 (.int .u8 0)))).flatten) := by kernel_rfl
theorem zl_24 : zeroL Try.prog 24 = some ([.pointer none]) := by kernel_rfl
theorem zl_3 : zeroL Try.prog 3 = some ([.int .i64 0]) := by kernel_rfl
theorem zl_62 : zeroL Try.prog 62 = some (List.replicate 2 (.bool false)) := by kernel_rfl
theorem zt_4 : zeroT Try.prog 4 = some (.bool false) := by kernel_rfl
end Go.Proofs.Ytjjiclgbdenkkaa

/- walks (own work; the walks' lines by a program of this repo). -/
set_option linter.unusedVariables false
set_option linter.unusedSimpArgs false
set_option maxRecDepth 20000
namespace Go.Proofs.Ytjjiclgbdenkkaa
open Go.Sl
attribute [local irreducible] BodyQ WpC WpL WpS WpH OpW FnS


theorem len_m {w0 : World} {H : Hp} {m : Mi} (hM : Sees (fun w => St w0 w H) m.b (.cells m.cells.toArray 110)) : FnS Try.prog w0 36 #[ptr m.b] H (fun e H' => e = .returned (.int .i64 (m.n : Int)) ∧ H' = H) := by
  refine FnS_intro (n := 9) (rs := [.tmp 2]) (vs := [ptr m.b]) Try.func36 rfl Try.ntmps36 rfl rfl ?_
  refine C_seq (C_region (LY rfl (y_assign rfl) (L_nil (C_seq (C_seq (C_region (LY rfl (y_move rfl) ?_)))))))
  refine LY rfl (y_eqp rfl rfl Try.underlying26) ?_
  refine L_nil (C_cond_f rfl (C_skip (C_seq (C_region (LY rfl (y_move rfl) (LY rfl (y_nilCheck rfl) (LY rfl (y_fieldAddr rfl fl_110_1) ?_)))))))
  refine LY rfl (y_load rfl ag_3 (hM) rfl) ?_
  refine LY rfl (y_assign rfl) (L_nil (C_ret ?_))
  refine B_ret (rv_tmp rfl rv_nil) (HSub.refl _) ?_
  exact ⟨rfl, rfl⟩

theorem has_m {w0 : World} {H : Hp} {m : Mi} (n : Int) (hM : Sees (fun w => St w0 w H) m.b (.cells m.cells.toArray 110)) : FnS Try.prog w0 58 #[ptr m.b, .int .i64 n] H (fun e H' => e = .returned (.bool (m.has n)) ∧ H' = H) := by
  refine FnS_intro (n := 13) (rs := [.tmp 4]) (vs := [ptr m.b, .int .i64 n]) Try.func58 rfl Try.ntmps58 rfl rfl ?_
  refine C_seq (C_region (LY rfl (y_assign rfl) (L_nil (C_seq (C_region (LY rfl (y_move rfl) ?_))))))
  refine LY rfl (y_geq rfl rfl) ?_
  refine LY rfl (y_move rfl) ?_
  refine L_case 7 rfl (fun hg1_3 => ?_) (fun hg1_3 => ?_)
  · skip
    refine LY rfl (y_move rfl) (LY rfl (y_move rfl) ?_)
    refine L_op rfl (op_call rfl rfl (fun a w => Try.call36 a w) rfl ?_)
    refine (len_m hM).mono ?_
    rintro _ _ ⟨rfl, rfl⟩
    refine ⟨_, rfl, ?_⟩
    refine LY rfl (y_lss rfl rfl) (LY rfl (y_pick_t rfl rfl) (LY rfl (y_assign rfl) (L_nil (C_ret ?_))))
    refine B_ret (rv_tmp rfl rv_nil) (HSub.refl _) ?_
    refine ⟨ret_bool ?_, rfl⟩
    unfold Mi.has
    simp_all <;> omega
  · skip
    refine L_skip rfl rfl (L_skip rfl rfl (L_skip rfl rfl (L_skip rfl rfl (LY rfl (y_pick_f rfl rfl) (LY rfl (y_assign rfl) (L_nil (C_ret ?_)))))))
    refine B_ret (rv_tmp rfl rv_nil) (HSub.refl _) ?_
    refine ⟨ret_bool ?_, rfl⟩
    unfold Mi.has
    simp_all <;> omega

theorem there_d {w0 : World} {H : Hp} {D : Duo} {A : Da} {bx bys bp : Nat} {mv : Value} (h : Two dt D A bx bys bp) (i : Bool) : FnS Try.prog w0 53 #[.agg [ptr (sel bx bys i), mv].toArray] (D.seg dt :: H) (fun e H' => e = .returned (.bool (thr A i)) ∧ H' = D.seg dt :: H) := by
  refine FnS_intro (n := 16) (rs := [.tmp 2]) (vs := [.agg [ptr (sel bx bys i), mv].toArray]) Try.func53 rfl Try.ntmps53 rfl rfl ?_
  refine C_seq (C_region ?_)
  refine L_op rfl (op_box rfl rfl rfl (fun B1 => ?_))
  refine LY rfl (y_assign rfl) (L_nil (C_seq (C_seq (C_region (LY rfl (y_fieldAddr rfl fl_107_0) (LY rfl (y_load rfl ag_24 (sees 0 0 rfl) rfl) ?_))))))
  refine LY rfl (y_eqp rfl rfl Try.underlying24) ?_
  refine L_nil (C_cond_f rfl (C_skip (C_seq (C_region (LY rfl (y_fieldAddr rfl fl_107_0) (LY rfl (y_load rfl ag_24 (sees 0 0 rfl) rfl) ?_))))))
  refine L_op rfl (op_call rfl rfl (fun a w => Try.call60 a w) rfl ?_)
  refine ((read_d h i 0).sub (hsub_pick [1] rfl)).mono ?_
  rintro _ _ ⟨rfl, rfl⟩
  refine ⟨_, rfl, ?_⟩
  refine LY rfl (y_move rfl) (LY rfl (y_extract rfl rfl) (LY rfl (y_extract rfl rfl) ?_))
  refine L_op rfl (op_alloc zl_32 rfl (fun B2 => ?_))
  refine L_op rfl (op_storeA 0 0 rfl rfl rfl sz_32 (by rw [bs_length, rS_len i h.oks]) rfl (bs_one _) (by simp) ?_)
  refine LY rfl (y_assign rfl) (L_nil (C_seq (C_region (LY rfl (y_move rfl) ?_))))
  refine LY rfl (y_nei rfl rfl) ?_
  refine LY rfl (y_assign rfl) (L_nil (C_ret ?_))
  refine B_ret (rv_tmp rfl rv_nil) (hsub (.cons _ (.cons_cons _ (.cons _ (.refl _))))) ?_
  exact ⟨ret_bool (rE_neq A i 0), rfl⟩

theorem present_tt {w0 : World} {H : Hp} {D : Duo} {A : Da} {bp : Nat} {m : Mi} (h : Two dt D A m.bx m.bys bp) (hp : thr A false = true) (hq : thr A true = true) : FnS Try.prog w0 59 #[ptr m.b] (m.seg 110 :: D.seg dt :: H) (fun e H' => ∃ g, slOk 1 g 2 (intl (pres true true)) ∧ e = .returned (slV g 2) ∧ H' = slSeg 3 g (intl (pres true true)) :: m.seg 110 :: D.seg dt :: H) := by
  refine FnS_intro (n := 21) (rs := [.tmp 2]) (vs := [ptr m.b]) Try.func59 rfl Try.ntmps59 rfl rfl ?_
  refine C_seq (C_region (LY rfl (y_assign rfl) (L_nil (C_seq (C_region (LY rfl (y_assign rfl) (L_nil (C_seq (C_seq (C_region (LY rfl (y_move rfl) (L_nil (C_block ?_)))))))))))))
  refine C_loopIn (In_round ?_)
  refine C_seq (C_region (LY rfl (y_lss rfl rfl) (L_nil (C_seq (C_cond_t rfl (C_skip (C_seq (C_block (C_seq (C_region (LY rfl (y_move rfl) (LY rfl (y_assign rfl) (L_nil (C_seq (C_region (LY rfl (y_move rfl) (LY rfl (y_move rfl) (LY rfl (y_nilCheck rfl) (LY rfl (y_fieldAddr rfl fl_110_0) ?_)))))))))))))))))))
  refine LY rfl (y_indexA rfl rfl Try.underlying108 sz_107 (by omega) (by omega) (show _ = 0 from rfl)) ?_
  refine LY rfl (y_loadA rfl ag_107 sz_107 (sees 0 0 rfl) (Nat.le_of_ble_eq_true rfl) rfl) ?_
  refine L_op rfl (op_call rfl rfl (fun a w => Try.call53 a w) rfl ?_)
  refine ((there_d h false).sub (hsub_pick [1] rfl)).mono ?_
  rintro _ _ ⟨rfl, rfl⟩
  rw [hp]
  refine ⟨_, rfl, ?_⟩
  refine L_nil (C_cond_t rfl (C_region (LY rfl (y_move rfl) (LY rfl (y_move rfl) ?_))))
  refine L_op rfl (op_buildSlice (vs := [(0, _)]) rfl Try.underlying118 sz_3 zl_3 rfl (by decide) rfl rfl (fun B1 => ?_))
  refine L_op rfl (op_append0 (m := 1) (vs := [.int .i64 0]) rfl rfl (src_slice (sees 0 0 rfl) (Nat.le_of_ble_eq_true rfl) rfl) rfl (by simp [one, Value.oneCell']) Try.underlying118 ni_118 sz_3 by_3 (by decide) zl_3 rfl (by decide) rfl (fun g1 hg1 => ?_))
  refine LY rfl (y_assign rfl) (L_nil (C_region ?_))
  refine LY rfl (y_add rfl rfl (show _ = (1 : Int) from rfl)) ?_
  refine LY rfl (y_move rfl) (L_nil ?_)
  refine In_round ?_
  refine C_seq (C_region (LY rfl (y_lss rfl rfl) (L_nil (C_seq (C_cond_t rfl (C_skip (C_seq (C_block (C_seq (C_region (LY rfl (y_move rfl) (LY rfl (y_assign rfl) (L_nil (C_seq (C_region (LY rfl (y_move rfl) (LY rfl (y_move rfl) (LY rfl (y_nilCheck rfl) (LY rfl (y_fieldAddr rfl fl_110_0) ?_)))))))))))))))))))
  refine LY rfl (y_indexA rfl rfl Try.underlying108 sz_107 (by omega) (by omega) (show _ = 2 from rfl)) ?_
  refine LY rfl (y_loadA rfl ag_107 sz_107 (sees 3 0 rfl) (Nat.le_of_ble_eq_true rfl) rfl) ?_
  refine L_op rfl (op_call rfl rfl (fun a w => Try.call53 a w) rfl ?_)
  refine ((there_d h true).sub (hsub_pick [2] rfl)).mono ?_
  rintro _ _ ⟨rfl, rfl⟩
  rw [hq]
  refine ⟨_, rfl, ?_⟩
  refine L_nil (C_cond_t rfl (C_region (LY rfl (y_move rfl) (LY rfl (y_move rfl) ?_))))
  refine L_op rfl (op_buildSlice (vs := [(0, _)]) rfl Try.underlying118 sz_3 zl_3 rfl (by decide) rfl rfl (fun B2 => ?_))
  refine L_op rfl (op_append (gs := g1) (len := 1) (m := 1) (xs := [.int .i64 0]) (vs := [.int .i64 1]) 2 rfl rfl rfl hg1 (src_slice (sees 0 0 rfl) (Nat.le_of_ble_eq_true rfl) rfl) rfl (by simp [one, Value.oneCell']) Try.underlying118 ni_118 sz_3 by_3 (by decide) zl_3 rfl (by decide) rfl (fun g2 hg2 => ?_))
  refine LY rfl (y_assign rfl) (L_nil (C_region ?_))
  refine LY rfl (y_add rfl rfl (show _ = (2 : Int) from rfl)) ?_
  refine LY rfl (y_move rfl) (L_nil ?_)
  refine In_round ?_
  refine C_seq (C_region (LY rfl (y_lss rfl rfl) (L_nil (C_seq (C_cond_f rfl (C_exit (C_seq (C_region (LY rfl (y_move rfl) (LY rfl (y_assign rfl) (L_nil (C_ret ?_))))))))))))
  refine B_ret (rv_tmp rfl rv_nil) ((hsub (.cons_cons _ (.cons_cons _ (.cons_cons _ (.cons _ (.cons _ (.refl _))))))).trans (hsub_pick [2, 3, 1] rfl)) ?_
  exact ⟨g2, hg2, rfl, rfl⟩

theorem present_tf {w0 : World} {H : Hp} {D : Duo} {A : Da} {bp : Nat} {m : Mi} (h : Two dt D A m.bx m.bys bp) (hp : thr A false = true) (hq : thr A true = false) : FnS Try.prog w0 59 #[ptr m.b] (m.seg 110 :: D.seg dt :: H) (fun e H' => ∃ g, slOk 1 g 1 (intl (pres true false)) ∧ e = .returned (slV g 1) ∧ H' = slSeg 3 g (intl (pres true false)) :: m.seg 110 :: D.seg dt :: H) := by
  refine FnS_intro (n := 21) (rs := [.tmp 2]) (vs := [ptr m.b]) Try.func59 rfl Try.ntmps59 rfl rfl ?_
  refine C_seq (C_region (LY rfl (y_assign rfl) (L_nil (C_seq (C_region (LY rfl (y_assign rfl) (L_nil (C_seq (C_seq (C_region (LY rfl (y_move rfl) (L_nil (C_block ?_)))))))))))))
  refine C_loopIn (In_round ?_)
  refine C_seq (C_region (LY rfl (y_lss rfl rfl) (L_nil (C_seq (C_cond_t rfl (C_skip (C_seq (C_block (C_seq (C_region (LY rfl (y_move rfl) (LY rfl (y_assign rfl) (L_nil (C_seq (C_region (LY rfl (y_move rfl) (LY rfl (y_move rfl) (LY rfl (y_nilCheck rfl) (LY rfl (y_fieldAddr rfl fl_110_0) ?_)))))))))))))))))))
  refine LY rfl (y_indexA rfl rfl Try.underlying108 sz_107 (by omega) (by omega) (show _ = 0 from rfl)) ?_
  refine LY rfl (y_loadA rfl ag_107 sz_107 (sees 0 0 rfl) (Nat.le_of_ble_eq_true rfl) rfl) ?_
  refine L_op rfl (op_call rfl rfl (fun a w => Try.call53 a w) rfl ?_)
  refine ((there_d h false).sub (hsub_pick [1] rfl)).mono ?_
  rintro _ _ ⟨rfl, rfl⟩
  rw [hp]
  refine ⟨_, rfl, ?_⟩
  refine L_nil (C_cond_t rfl (C_region (LY rfl (y_move rfl) (LY rfl (y_move rfl) ?_))))
  refine L_op rfl (op_buildSlice (vs := [(0, _)]) rfl Try.underlying118 sz_3 zl_3 rfl (by decide) rfl rfl (fun B1 => ?_))
  refine L_op rfl (op_append0 (m := 1) (vs := [.int .i64 0]) rfl rfl (src_slice (sees 0 0 rfl) (Nat.le_of_ble_eq_true rfl) rfl) rfl (by simp [one, Value.oneCell']) Try.underlying118 ni_118 sz_3 by_3 (by decide) zl_3 rfl (by decide) rfl (fun g1 hg1 => ?_))
  refine LY rfl (y_assign rfl) (L_nil (C_region ?_))
  refine LY rfl (y_add rfl rfl (show _ = (1 : Int) from rfl)) ?_
  refine LY rfl (y_move rfl) (L_nil ?_)
  refine In_round ?_
  refine C_seq (C_region (LY rfl (y_lss rfl rfl) (L_nil (C_seq (C_cond_t rfl (C_skip (C_seq (C_block (C_seq (C_region (LY rfl (y_move rfl) (LY rfl (y_assign rfl) (L_nil (C_seq (C_region (LY rfl (y_move rfl) (LY rfl (y_move rfl) (LY rfl (y_nilCheck rfl) (LY rfl (y_fieldAddr rfl fl_110_0) ?_)))))))))))))))))))
  refine LY rfl (y_indexA rfl rfl Try.underlying108 sz_107 (by omega) (by omega) (show _ = 2 from rfl)) ?_
  refine LY rfl (y_loadA rfl ag_107 sz_107 (sees 3 0 rfl) (Nat.le_of_ble_eq_true rfl) rfl) ?_
  refine L_op rfl (op_call rfl rfl (fun a w => Try.call53 a w) rfl ?_)
  refine ((there_d h true).sub (hsub_pick [2] rfl)).mono ?_
  rintro _ _ ⟨rfl, rfl⟩
  rw [hq]
  refine ⟨_, rfl, ?_⟩
  refine L_nil (C_cond_f rfl (C_skip (C_region ?_)))
  refine LY rfl (y_add rfl rfl (show _ = (2 : Int) from rfl)) ?_
  refine LY rfl (y_move rfl) (L_nil ?_)
  refine In_round ?_
  refine C_seq (C_region (LY rfl (y_lss rfl rfl) (L_nil (C_seq (C_cond_f rfl (C_exit (C_seq (C_region (LY rfl (y_move rfl) (LY rfl (y_assign rfl) (L_nil (C_ret ?_))))))))))))
  refine B_ret (rv_tmp rfl rv_nil) ((hsub (.cons_cons _ (.cons_cons _ (.cons_cons _ (.cons _ (.refl _)))))).trans (hsub_pick [1, 2, 0] rfl)) ?_
  exact ⟨g1, hg1, rfl, rfl⟩

theorem present_ft {w0 : World} {H : Hp} {D : Duo} {A : Da} {bp : Nat} {m : Mi} (h : Two dt D A m.bx m.bys bp) (hp : thr A false = false) (hq : thr A true = true) : FnS Try.prog w0 59 #[ptr m.b] (m.seg 110 :: D.seg dt :: H) (fun e H' => ∃ g, slOk 1 g 1 (intl (pres false true)) ∧ e = .returned (slV g 1) ∧ H' = slSeg 3 g (intl (pres false true)) :: m.seg 110 :: D.seg dt :: H) := by
  refine FnS_intro (n := 21) (rs := [.tmp 2]) (vs := [ptr m.b]) Try.func59 rfl Try.ntmps59 rfl rfl ?_
  refine C_seq (C_region (LY rfl (y_assign rfl) (L_nil (C_seq (C_region (LY rfl (y_assign rfl) (L_nil (C_seq (C_seq (C_region (LY rfl (y_move rfl) (L_nil (C_block ?_)))))))))))))
  refine C_loopIn (In_round ?_)
  refine C_seq (C_region (LY rfl (y_lss rfl rfl) (L_nil (C_seq (C_cond_t rfl (C_skip (C_seq (C_block (C_seq (C_region (LY rfl (y_move rfl) (LY rfl (y_assign rfl) (L_nil (C_seq (C_region (LY rfl (y_move rfl) (LY rfl (y_move rfl) (LY rfl (y_nilCheck rfl) (LY rfl (y_fieldAddr rfl fl_110_0) ?_)))))))))))))))))))
  refine LY rfl (y_indexA rfl rfl Try.underlying108 sz_107 (by omega) (by omega) (show _ = 0 from rfl)) ?_
  refine LY rfl (y_loadA rfl ag_107 sz_107 (sees 0 0 rfl) (Nat.le_of_ble_eq_true rfl) rfl) ?_
  refine L_op rfl (op_call rfl rfl (fun a w => Try.call53 a w) rfl ?_)
  refine ((there_d h false).sub (hsub_pick [1] rfl)).mono ?_
  rintro _ _ ⟨rfl, rfl⟩
  rw [hp]
  refine ⟨_, rfl, ?_⟩
  refine L_nil (C_cond_f rfl (C_skip (C_region ?_)))
  refine LY rfl (y_add rfl rfl (show _ = (1 : Int) from rfl)) ?_
  refine LY rfl (y_move rfl) (L_nil ?_)
  refine In_round ?_
  refine C_seq (C_region (LY rfl (y_lss rfl rfl) (L_nil (C_seq (C_cond_t rfl (C_skip (C_seq (C_block (C_seq (C_region (LY rfl (y_move rfl) (LY rfl (y_assign rfl) (L_nil (C_seq (C_region (LY rfl (y_move rfl) (LY rfl (y_move rfl) (LY rfl (y_nilCheck rfl) (LY rfl (y_fieldAddr rfl fl_110_0) ?_)))))))))))))))))))
  refine LY rfl (y_indexA rfl rfl Try.underlying108 sz_107 (by omega) (by omega) (show _ = 2 from rfl)) ?_
  refine LY rfl (y_loadA rfl ag_107 sz_107 (sees 1 0 rfl) (Nat.le_of_ble_eq_true rfl) rfl) ?_
  refine L_op rfl (op_call rfl rfl (fun a w => Try.call53 a w) rfl ?_)
  refine ((there_d h true).sub (hsub_pick [0] rfl)).mono ?_
  rintro _ _ ⟨rfl, rfl⟩
  rw [hq]
  refine ⟨_, rfl, ?_⟩
  refine L_nil (C_cond_t rfl (C_region (LY rfl (y_move rfl) (LY rfl (y_move rfl) ?_))))
  refine L_op rfl (op_buildSlice (vs := [(0, _)]) rfl Try.underlying118 sz_3 zl_3 rfl (by decide) rfl rfl (fun B1 => ?_))
  refine L_op rfl (op_append0 (m := 1) (vs := [.int .i64 1]) rfl rfl (src_slice (sees 0 0 rfl) (Nat.le_of_ble_eq_true rfl) rfl) rfl (by simp [one, Value.oneCell']) Try.underlying118 ni_118 sz_3 by_3 (by decide) zl_3 rfl (by decide) rfl (fun g1 hg1 => ?_))
  refine LY rfl (y_assign rfl) (L_nil (C_region ?_))
  refine LY rfl (y_add rfl rfl (show _ = (2 : Int) from rfl)) ?_
  refine LY rfl (y_move rfl) (L_nil ?_)
  refine In_round ?_
  refine C_seq (C_region (LY rfl (y_lss rfl rfl) (L_nil (C_seq (C_cond_f rfl (C_exit (C_seq (C_region (LY rfl (y_move rfl) (LY rfl (y_assign rfl) (L_nil (C_ret ?_))))))))))))
  refine B_ret (rv_tmp rfl rv_nil) ((hsub (.cons_cons _ (.cons_cons _ (.cons_cons _ (.cons _ (.refl _)))))).trans (hsub_pick [0, 2, 1] rfl)) ?_
  exact ⟨g1, hg1, rfl, rfl⟩

theorem present_ff {w0 : World} {H : Hp} {D : Duo} {A : Da} {bp : Nat} {m : Mi} (h : Two dt D A m.bx m.bys bp) (hp : thr A false = false) (hq : thr A true = false) : FnS Try.prog w0 59 #[ptr m.b] (m.seg 110 :: D.seg dt :: H) (fun e H' => e = .returned (.slice none 0 0) ∧ H' = m.seg 110 :: D.seg dt :: H) := by
  refine FnS_intro (n := 21) (rs := [.tmp 2]) (vs := [ptr m.b]) Try.func59 rfl Try.ntmps59 rfl rfl ?_
  refine C_seq (C_region (LY rfl (y_assign rfl) (L_nil (C_seq (C_region (LY rfl (y_assign rfl) (L_nil (C_seq (C_seq (C_region (LY rfl (y_move rfl) (L_nil (C_block ?_)))))))))))))
  refine C_loopIn (In_round ?_)
  refine C_seq (C_region (LY rfl (y_lss rfl rfl) (L_nil (C_seq (C_cond_t rfl (C_skip (C_seq (C_block (C_seq (C_region (LY rfl (y_move rfl) (LY rfl (y_assign rfl) (L_nil (C_seq (C_region (LY rfl (y_move rfl) (LY rfl (y_move rfl) (LY rfl (y_nilCheck rfl) (LY rfl (y_fieldAddr rfl fl_110_0) ?_)))))))))))))))))))
  refine LY rfl (y_indexA rfl rfl Try.underlying108 sz_107 (by omega) (by omega) (show _ = 0 from rfl)) ?_
  refine LY rfl (y_loadA rfl ag_107 sz_107 (sees 0 0 rfl) (Nat.le_of_ble_eq_true rfl) rfl) ?_
  refine L_op rfl (op_call rfl rfl (fun a w => Try.call53 a w) rfl ?_)
  refine ((there_d h false).sub (hsub_pick [1] rfl)).mono ?_
  rintro _ _ ⟨rfl, rfl⟩
  rw [hp]
  refine ⟨_, rfl, ?_⟩
  refine L_nil (C_cond_f rfl (C_skip (C_region ?_)))
  refine LY rfl (y_add rfl rfl (show _ = (1 : Int) from rfl)) ?_
  refine LY rfl (y_move rfl) (L_nil ?_)
  refine In_round ?_
  refine C_seq (C_region (LY rfl (y_lss rfl rfl) (L_nil (C_seq (C_cond_t rfl (C_skip (C_seq (C_block (C_seq (C_region (LY rfl (y_move rfl) (LY rfl (y_assign rfl) (L_nil (C_seq (C_region (LY rfl (y_move rfl) (LY rfl (y_move rfl) (LY rfl (y_nilCheck rfl) (LY rfl (y_fieldAddr rfl fl_110_0) ?_)))))))))))))))))))
  refine LY rfl (y_indexA rfl rfl Try.underlying108 sz_107 (by omega) (by omega) (show _ = 2 from rfl)) ?_
  refine LY rfl (y_loadA rfl ag_107 sz_107 (sees 1 0 rfl) (Nat.le_of_ble_eq_true rfl) rfl) ?_
  refine L_op rfl (op_call rfl rfl (fun a w => Try.call53 a w) rfl ?_)
  refine ((there_d h true).sub (hsub_pick [0] rfl)).mono ?_
  rintro _ _ ⟨rfl, rfl⟩
  rw [hq]
  refine ⟨_, rfl, ?_⟩
  refine L_nil (C_cond_f rfl (C_skip (C_region ?_)))
  refine LY rfl (y_add rfl rfl (show _ = (2 : Int) from rfl)) ?_
  refine LY rfl (y_move rfl) (L_nil ?_)
  refine In_round ?_
  refine C_seq (C_region (LY rfl (y_lss rfl rfl) (L_nil (C_seq (C_cond_f rfl (C_exit (C_seq (C_region (LY rfl (y_move rfl) (LY rfl (y_assign rfl) (L_nil (C_ret ?_))))))))))))
  refine B_ret (rv_tmp rfl rv_nil) ((hsub (.cons_cons _ (.cons_cons _ (.refl _)))).trans (hsub_pick [1, 0] rfl)) ?_
  exact ⟨rfl, rfl⟩

end Go.Proofs.Ytjjiclgbdenkkaa

/- walks (own work; the walks' lines by a program of this repo). -/
set_option linter.unusedVariables false
set_option linter.unusedSimpArgs false
set_option maxRecDepth 20000
namespace Go.Proofs.Ytjjiclgbdenkkaa
open Go.Sl
attribute [local irreducible] BodyQ WpC WpL WpS WpH OpW FnS


theorem right_nil {w0 : World} {H : Hp} {m : Mi} {n : Int} {s : Sec} (hs : s.length = 128) (hM : Sees (fun w => St w0 w H) m.b (.cells m.cells.toArray 110)) (h1 : m.gv = .nilFunc) : FnS Try.prog w0 61 #[ptr m.b, .int .i64 n, .agg (bs s).toArray] H (fun e H' => e = .returned (.bool false) ∧ H' = H) := by
  refine FnS_intro (n := 21) (rs := [.tmp 6]) (vs := [ptr m.b, .int .i64 n, .agg (bs s).toArray]) Try.func61 rfl Try.ntmps61 rfl rfl ?_
  refine C_seq (C_region ?_)
  refine L_op rfl (op_box rfl rfl rfl (fun B1 => ?_))
  refine LY rfl (y_assign rfl) (L_nil (C_seq ?_))
  refine C_regionH0 (by kernel_rfl) ?_
  refine HY 0 rfl (HSub.refl _) rfl (y_move rfl) ?_
  refine HY 1 rfl (HSub.refl _) rfl (y_nilCheck rfl) ?_
  refine HY 2 rfl (HSub.refl _) rfl (y_fieldAddr rfl fl_110_2) ?_
  refine HY 3 rfl (HSub.refl _) rfl (y_load rfl ag_28 (hM.up) (show _ = some (Value.nilFunc) from by rw [← h1]; rfl)) ?_
  refine HY 4 rfl (HSub.refl _) rfl (y_nefn0 rfl rfl Try.underlying28) ?_
  refine HY 5 rfl (HSub.refl _) rfl (y_move rfl) ?_
  refine HK 6 rfl (HSub.refl _) rfl ?_
  refine HK 7 rfl (HSub.refl _) rfl ?_
  refine HK 8 rfl (HSub.refl _) rfl ?_
  refine HK 9 rfl (HSub.refl _) rfl ?_
  refine HK 10 rfl (HSub.refl _) rfl ?_
  refine HK 11 rfl (HSub.refl _) rfl ?_
  refine HK 12 rfl (HSub.refl _) rfl ?_
  refine HY 13 rfl (HSub.refl _) rfl (y_pick_f rfl rfl) ?_
  refine HY 14 rfl (HSub.refl _) rfl (y_assign rfl) ?_
  refine H_done (by kernel_rfl) ?_
  refine C_ret ?_
  refine B_ret (rv_tmp rfl rv_nil) (hsub (.cons _ (.refl _))) ?_
  exact ⟨rfl, rfl⟩

theorem right_fn {w0 : World} {H : Hp} {m : Mi} {n : Int} {s : Sec} (hs : s.length = 128) (hM : Sees (fun w => St w0 w H) m.b (.cells m.cells.toArray 110)) {f : Nat} {cap : List Value} (h1 : m.gv = .func (.func f) #[] cap.toArray) (hcf : ∀ args w, (callFunc f args).run Try.prog w = .ok (.enter f args) w) (b : Bool) (h2 : ∀ H', HSub H H' → FnS Try.prog w0 f ([Value.int .i64 n, Value.agg (bs s).toArray] ++ cap).toArray H' (fun e H2 => e = .returned (.bool b) ∧ H2 = H')) : FnS Try.prog w0 61 #[ptr m.b, .int .i64 n, .agg (bs s).toArray] H (fun e H' => e = .returned (.bool b) ∧ H' = H) := by
  refine FnS_intro (n := 21) (rs := [.tmp 6]) (vs := [ptr m.b, .int .i64 n, .agg (bs s).toArray]) Try.func61 rfl Try.ntmps61 rfl rfl ?_
  refine C_seq (C_region ?_)
  refine L_op rfl (op_box rfl rfl rfl (fun B1 => ?_))
  refine LY rfl (y_assign rfl) (L_nil (C_seq ?_))
  refine C_regionH0 (by kernel_rfl) ?_
  refine HY 0 rfl (HSub.refl _) rfl (y_move rfl) ?_
  refine HY 1 rfl (HSub.refl _) rfl (y_nilCheck rfl) ?_
  refine HY 2 rfl (HSub.refl _) rfl (y_fieldAddr rfl fl_110_2) ?_
  refine HY 3 rfl (HSub.refl _) rfl (y_load rfl ag_28 (hM.up) (show _ = some (Value.func (.func f) #[] cap.toArray) from by rw [← h1]; rfl)) ?_
  refine HY 4 rfl (HSub.refl _) rfl (y_nefn rfl rfl Try.underlying28) ?_
  refine HY 5 rfl (HSub.refl _) rfl (y_move rfl) ?_
  refine HY 6 rfl (HSub.refl _) rfl (y_move rfl) ?_
  refine HY 7 rfl (HSub.refl _) rfl (y_nilCheck rfl) ?_
  refine HY 8 rfl (HSub.refl _) rfl (y_fieldAddr rfl fl_110_2) ?_
  refine HY 9 rfl (HSub.refl _) rfl (y_load rfl ag_28 (hM.up) (show _ = some (Value.func (.func f) #[] cap.toArray) from by rw [← h1]; rfl)) ?_
  refine HY 10 rfl (HSub.refl _) rfl (y_move rfl) ?_
  refine HY 11 rfl (HSub.refl _) rfl (y_loadA rfl ag_32 sz_32 (sees 0 0 rfl) (by rw [bs_length, hs]; decide) (bs_whole0 _ hs)) ?_
  refine H_one 12 rfl (by kernel_rfl) rfl (op_call (f := f) (first := []) (cap := cap) rfl rfl hcf rfl ?_)
  refine FnS.mono (h2 _ (HSub.drop _ _)) ?_
  rintro _ _ ⟨rfl, e⟩
  obtain rfl := e.symm
  refine ⟨_, rfl, ?_⟩
  refine ⟨HSub.refl _, ?_⟩
  refine HY 13 rfl (HSub.refl _) rfl (y_pick_t rfl rfl) ?_
  refine HY 14 rfl (HSub.refl _) rfl (y_assign rfl) ?_
  refine H_done (by kernel_rfl) ?_
  refine C_ret ?_
  refine B_ret (rv_tmp rfl rv_nil) (hsub (.cons _ (.refl _))) ?_
  exact ⟨rfl, rfl⟩

theorem right_m {w0 : World} {H : Hp} {m : Mi} {p : Int → Sec → Bool} (hM : Sees (fun w => St w0 w H) m.b (.cells m.cells.toArray 110)) (hG : GoodAt Try.prog w0 H m.gv p) (n : Int) (s : Sec) (hs : s.length = 128) : FnS Try.prog w0 61 #[ptr m.b, .int .i64 n, .agg (bs s).toArray] H (fun e H' => e = .returned (.bool (p n s)) ∧ H' = H) := by
  rcases hG with ⟨h1, rfl⟩ | ⟨f, cap, h1, hcf, h3⟩
  · exact right_nil hs hM h1
  · exact right_fn hs hM h1 hcf (p n s) (fun H' hs' => h3 H' n s hs' hs)

theorem stale_m {w0 : World} {H : Hp} {m : Mi} : FnS Try.prog w0 35 #[ptr m.b] (m.seg 110 :: H) (fun e H' => e = .returned (.tuple #[.int .i64 (m.k0.length : Int), .int .i64 (m.k1.length : Int)]) ∧ H' = m.seg 110 :: H) := by
  refine FnS_intro (n := 20) (rs := [.tmp 2, .tmp 3]) (vs := [ptr m.b]) Try.func35 rfl Try.ntmps35 rfl rfl ?_
  refine C_seq (C_region (LY rfl (y_assign rfl) (LY rfl (y_assign rfl) (L_nil (C_seq (C_seq (C_region (LY rfl (y_move rfl) ?_))))))))
  refine LY rfl (y_eqp rfl rfl Try.underlying26) ?_
  refine L_nil (C_cond_f rfl (C_skip (C_seq ?_)))
  refine C_regionH0 (by kernel_rfl) ?_
  refine HY 0 rfl (HSub.refl _) rfl (y_move rfl) ?_
  refine HY 1 rfl (HSub.refl _) rfl (y_nilCheck rfl) ?_
  refine HY 2 rfl (HSub.refl _) rfl (y_fieldAddr rfl fl_110_0) ?_
  refine HY 3 rfl (HSub.refl _) rfl (y_indexA rfl rfl Try.underlying108 sz_107 (by omega) (by omega) (show _ = 0 from rfl)) ?_
  refine HY 4 rfl (HSub.refl _) rfl (y_fieldAddr rfl fl_107_1) ?_
  refine HY 5 rfl (HSub.refl _) rfl (y_load rfl ag_105 (sees 0 0 rfl) rfl) ?_
  refine HY 6 rfl (HSub.refl _) rfl (y_lenM rfl rfl Try.underlying105 (sees 0 1 rfl)) ?_
  refine HY 7 rfl (HSub.refl _) rfl (y_move rfl) ?_
  refine HY 8 rfl (HSub.refl _) rfl (y_nilCheck rfl) ?_
  refine HY 9 rfl (HSub.refl _) rfl (y_fieldAddr rfl fl_110_0) ?_
  refine HY 10 rfl (HSub.refl _) rfl (y_indexA rfl rfl Try.underlying108 sz_107 (by omega) (by omega) (show _ = 2 from rfl)) ?_
  refine HY 11 rfl (HSub.refl _) rfl (y_fieldAddr rfl fl_107_1) ?_
  refine HY 12 rfl (HSub.refl _) rfl (y_load rfl ag_105 (sees 0 0 rfl) rfl) ?_
  refine HY 13 rfl (HSub.refl _) rfl (y_lenM rfl rfl Try.underlying105 (sees 0 2 rfl)) ?_
  refine HY 14 rfl (HSub.refl _) rfl (y_assign rfl) ?_
  refine HY 15 rfl (HSub.refl _) rfl (y_assign rfl) ?_
  refine H_done (by kernel_rfl) ?_
  refine C_ret ?_
  refine B_ret (rv_tmp rfl (rv_tmp rfl rv_nil)) (HSub.refl _) ?_
  exact ⟨by simp; rfl, rfl⟩

end Go.Proofs.Ytjjiclgbdenkkaa

/- Scrubbing a mirror: the plain model (own work). -/
set_option linter.unusedVariables false
set_option linter.unusedSimpArgs false
namespace Go.Sl
/-- The little rule of the laws. -/
def goodP (n : Int) (s : Sec) : Bool := !decide ((IntKind.i64.wrap (((s.getD 0 0).toNat : Int) + ((s.getD 1 0).toNat : Int) + n)).tmod 4 = 3)
abbrev Rp := Int × Int × Int
def cnt (r : Rp) (h : Int × Int) : Rp := if h.2 = 0 then (if h.1 = 0 then (r.1 + 1, r.2.1, r.2.2) else if h.1 = 1 then (r.1, r.2.1 + 1, r.2.2) else if h.1 = 2 then (r.1, r.2.1, r.2.2 + 1) else r) else r
abbrev wcells (mb : Nat) (nx : Int) (r : Rp) : List Value := [ptr mb, .int .i64 nx, .int .i64 r.1, .int .i64 r.2.1, .int .i64 r.2.2]
/-- What is there behind so many steps. -/
def scr (m : Mi) (A : Da) (p : Int → Sec → Bool) : Nat → Da × Mi × Rp
  | 0 => (A, m, (0, 0, 0))
  | k + 1 => let q := scr m A p k
    (healA q.2.1 q.1 p k, healM q.2.1 q.1 p k, cnt q.2.2 (healR q.2.1 q.1 p k))
theorem healM_same (m : Mi) (A : Da) (p : Int → Sec → Bool) (n : Int) : (healM m A p n).b = m.b ∧ (healM m A p n).bx = m.bx ∧ (healM m A p n).bys = m.bys ∧ (healM m A p n).n = m.n ∧ (healM m A p n).gv = m.gv := by
  unfold healM
  split
  · exact ⟨rfl, rfl, rfl, rfl, rfl⟩
  · split
    · split <;> exact ⟨rfl, rfl, rfl, rfl, rfl⟩
    · exact ⟨rfl, rfl, rfl, rfl, rfl⟩
theorem scr_same (m : Mi) (A : Da) (p : Int → Sec → Bool) : ∀ k, (scr m A p k).2.1.b = m.b ∧ (scr m A p k).2.1.bx = m.bx ∧ (scr m A p k).2.1.bys = m.bys ∧ (scr m A p k).2.1.n = m.n ∧ (scr m A p k).2.1.gv = m.gv
  | 0 => ⟨rfl, rfl, rfl, rfl, rfl⟩
  | k + 1 => by
    obtain ⟨h1, h2, h3, h4, h5⟩ := scr_same m A p k
    obtain ⟨g1, g2, g3, g4, g5⟩ := healM_same (scr m A p k).2.1 (scr m A p k).1 p k
    exact ⟨g1.trans h1, g2.trans h2, g3.trans h3, g4.trans h4, g5.trans h5⟩
theorem cnt_le (r : Rp) (h : Int × Int) : (cnt r h).1 ≤ r.1 + 1 ∧ (cnt r h).2.1 ≤ r.2.1 + 1 ∧ (cnt r h).2.2 ≤ r.2.2 + 1 ∧ r.1 ≤ (cnt r h).1 ∧ r.2.1 ≤ (cnt r h).2.1 ∧ r.2.2 ≤ (cnt r h).2.2 := by
  unfold cnt
  split
  · split
    · dsimp only; omega
    · split
      · dsimp only; omega
      · split <;> (try dsimp only) <;> omega
  · omega
/-! ### Two devices that are there, and don't lie, while power doesn't fail: what is read of each -/
structure Vw (A : Da) (K : Nat) (X Y : List Sec) (k0 k1 : Nat) : Prop where
  calm : A.calm
  a : RdW K X A.a k0
  b : RdW K Y A.b k1
abbrev pick2 {α : Type} (i : Bool) (x y : α) : α := if i then y else x
theorem Vw.dev {A : Da} {K : Nat} {X Y : List Sec} {k0 k1 : Nat} (h : Vw A K X Y k0 k1) (i : Bool) : RdW K (pick2 i X Y) (A.dev i) (pick2 i k0 k1) := by
  cases i
  · exact h.a
  · exact h.b
theorem Vw.new {K : Nat} (h : K ≤ 4096) (q : Option Pa) (hq : q = none ∨ q = some q0) : Vw ⟨Ab.new K, Ab.new K, q0, q⟩ K (List.replicate K (secOf 0)) (List.replicate K (secOf 0)) 0 0 :=
  ⟨⟨rfl, rfl, fun x hx => by rcases hq with rfl | rfl <;> simp at hx; subst hx; exact ⟨rfl, rfl⟩⟩, RdW.new h, RdW.new h⟩
theorem Vw.thr {A : Da} {K : Nat} {X Y : List Sec} {k0 k1 : Nat} (h : Vw A K X Y k0 k1) (i : Bool) : thr A i = true := by
  unfold Sl.thr Ab.down
  rw [(h.dev i).out, (Da.calm_pow h.calm i).1]
  rfl
theorem Vw.reads {A : Da} {K : Nat} {X Y : List Sec} {k0 k1 n : Nat} {s : Sec} (h : Vw A K X Y k0 k1) (i : Bool) (hs : (pick2 i X Y)[n]? = some s) : A.rS i (n : Int) = s ∧ A.rE i (n : Int) = 0 := by
  have hd := h.dev i
  have hk : n < K := by rw [← hd.wlen]; exact (List.getElem?_eq_some_iff.1 hs).1
  obtain ⟨h1, h2⟩ := Da.read_calm h.calm i (n : Int)
  have hh : (A.dev i).has (n : Int) = true := by rw [hd.has]; simp; omega
  rw [h1, h2, hd.out, hh]
  exact ⟨by simpa using hd.read n s hs, rfl⟩
theorem Da.write_calm2 {A : Da} (h : A.calm) (i : Bool) (n : Int) (s : Sec) : (A.write i n s).calm := by
  rw [(Da.write_calm h i n s).1]
  split
  · exact Da.calm_setd h i _
  · exact h
theorem Vw.write {A : Da} {K : Nat} {X Y : List Sec} {k0 k1 n : Nat} {s : Sec} (h : Vw A K X Y k0 k1) (i : Bool) (hn : n < K) (hs : s.length = 128) :
    A.wE i (n : Int) = 0 ∧ Vw (A.write i (n : Int) s) K (if i then X else X.set n s) (if i then Y.set n s else Y) (if i then k0 else k0 + 1) (if i then k1 + 1 else k1) := by
  have hd := h.dev i
  obtain ⟨h1, h2⟩ := Da.write_calm h.calm i (n : Int) s
  have hh : (A.dev i).has (n : Int) = true := by rw [hd.has]; simp; omega
  rw [hd.out, hh] at h1 h2
  refine ⟨by simpa using h2, ?_⟩
  have hw : A.write i (n : Int) s = A.setd i ((A.dev i).push n s) := by simpa using h1
  have hc := Da.write_calm2 h.calm i (n : Int) s
  rw [hw] at hc ⊢
  cases i
  · exact ⟨hc, h.a.write hn hs, h.b⟩
  · exact ⟨hc, h.a, h.b.write hn hs⟩
theorem Vw.flush {A : Da} {K : Nat} {X Y : List Sec} {k0 k1 : Nat} (h : Vw A K X Y k0 k1) (i : Bool) : A.fE i = 0 ∧ Vw (A.flush i) K X Y (if i then k0 else 0) (if i then 0 else k1) := by
  have hd := h.dev i
  obtain ⟨h1, h2⟩ := Da.flush_calm h.calm i
  rw [hd.out] at h1 h2
  refine ⟨by simpa using h2, ?_⟩
  have hw : A.flush i = A.setd i (A.dev i).flush := by simpa using h1
  have hc := Da.calm_setd h.calm i (A.dev i).flush
  rw [hw]
  cases i
  · exact ⟨hc, h.a.flush, h.b⟩
  · exact ⟨hc, h.a, h.b.flush⟩
theorem Vw.mono {A : Da} {K : Nat} {X Y : List Sec} {k0 k1 j0 j1 : Nat} (h : Vw A K X Y k0 k1) (h0 : k0 ≤ j0) (h1 : k1 ≤ j1) : Vw A K X Y j0 j1 := ⟨h.calm, h.a.mono h0, h.b.mono h1⟩
/-! ### What a scrub makes of them -/
def hX (p : Int → Sec → Bool) (n : Nat) (a b : Sec) : Sec := if p n a then a else if p n b then b else a
def hY (p : Int → Sec → Bool) (n : Nat) (a b : Sec) : Sec := if p n a then a else b
def hC (p : Int → Sec → Bool) (n : Nat) (a b : Sec) : Int := if p n a then (if p n b && decide (a = b) then 0 else 1) else if p n b then 1 else 2
def gt (X : List Sec) (j : Nat) : Sec := X.getD j []
def XK (p : Int → Sec → Bool) (X Y : List Sec) (K k : Nat) : List Sec := (List.range K).map fun j => if j < k then hX p j (gt X j) (gt Y j) else gt X j
def YK (p : Int → Sec → Bool) (X Y : List Sec) (K k : Nat) : List Sec := (List.range K).map fun j => if j < k then hY p j (gt X j) (gt Y j) else gt Y j
def rK (p : Int → Sec → Bool) (X Y : List Sec) : Nat → Rp
  | 0 => (0, 0, 0)
  | k + 1 => cnt (rK p X Y k) (hC p k (gt X k) (gt Y k), 0)
theorem XK_get {p : Int → Sec → Bool} {X Y : List Sec} {K k j : Nat} (h : j < K) : (XK p X Y K k)[j]? = some (if j < k then hX p j (gt X j) (gt Y j) else gt X j) := by simp [XK, h]
theorem YK_get {p : Int → Sec → Bool} {X Y : List Sec} {K k j : Nat} (h : j < K) : (YK p X Y K k)[j]? = some (if j < k then hY p j (gt X j) (gt Y j) else gt Y j) := by simp [YK, h]
theorem XK_0 {p : Int → Sec → Bool} {X Y : List Sec} {K : Nat} (h : X.length = K) : XK p X Y K 0 = X := by
  apply List.ext_getElem?
  intro j
  by_cases hj : j < K
  · rw [XK_get hj]; simp [gt, List.getD, show j < X.length by omega]
  · rw [List.getElem?_eq_none (by simp [XK]; omega), List.getElem?_eq_none (by omega)]
theorem YK_0 {p : Int → Sec → Bool} {X Y : List Sec} {K : Nat} (h : Y.length = K) : YK p X Y K 0 = Y := by
  apply List.ext_getElem?
  intro j
  by_cases hj : j < K
  · rw [YK_get hj]; simp [gt, List.getD, show j < Y.length by omega]
  · rw [List.getElem?_eq_none (by simp [YK]; omega), List.getElem?_eq_none (by omega)]
theorem map_range_set {α : Type} (f f' : Nat → α) (n i : Nat) (h : ∀ j, j ≠ i → f j = f' j) : ((List.range n).map f).set i (f' i) = (List.range n).map f' := by
  apply List.ext_getElem?
  intro j
  rw [List.getElem?_set]
  by_cases hj : i = j
  · subst hj
    by_cases hi : i < n <;> simp [hi]
  · simp only [hj, if_false, List.getElem?_map]
    by_cases hi : j < n
    · simp [hi, h j (Ne.symm hj)]
    · simp [List.getElem?_eq_none (show (List.range n).length ≤ j by simp; omega)]
theorem XK_set (p : Int → Sec → Bool) (X Y : List Sec) (K k : Nat) : (XK p X Y K k).set k (hX p k (gt X k) (gt Y k)) = XK p X Y K (k + 1) := by
  have := map_range_set (fun j => if j < k then hX p j (gt X j) (gt Y j) else gt X j) (fun j => if j < k + 1 then hX p j (gt X j) (gt Y j) else gt X j) K k (fun j hj => by
    by_cases h1 : j < k
    · simp [h1, show j < k + 1 by omega]
    · simp [h1, show ¬ j < k + 1 by omega])
  simp only [Nat.lt_succ_self, if_true] at this
  exact this
theorem YK_set (p : Int → Sec → Bool) (X Y : List Sec) (K k : Nat) : (YK p X Y K k).set k (hY p k (gt X k) (gt Y k)) = YK p X Y K (k + 1) := by
  have := map_range_set (fun j => if j < k then hY p j (gt X j) (gt Y j) else gt Y j) (fun j => if j < k + 1 then hY p j (gt X j) (gt Y j) else gt Y j) K k (fun j hj => by
    by_cases h1 : j < k
    · simp [h1, show j < k + 1 by omega]
    · simp [h1, show ¬ j < k + 1 by omega])
  simp only [Nat.lt_succ_self, if_true] at this
  exact this
theorem set_self {α : Type} {l : List α} {k : Nat} {x : α} (h : l[k]? = some x) : l.set k x = l := by
  obtain ⟨hk, rfl⟩ := List.getElem?_eq_some_iff.1 h
  simp
/-- A step of a scrub of two that are there, nothing stale. -/
theorem Vw.heal {A : Da} {K : Nat} {X Y : List Sec} {k0 k1 n : Nat} {m : Mi} {p : Int → Sec → Bool} {a b : Sec} (h : Vw A K X Y k0 k1) (hm : m.n = K) (hk0 : m.k0 = []) (hk1 : m.k1 = []) (ha : X[n]? = some a) (hb : Y[n]? = some b) (hla : a.length = 128) (hlb : b.length = 128) :
    healR m A p n = (hC p n a b, 0) ∧ (healM m A p n).k0 = [] ∧ (healM m A p n).k1 = [] ∧ Vw (healA m A p n) K (X.set n (hX p n a b)) (Y.set n (hY p n a b)) (k0 + 1) (k1 + 1) := by
  have hn : n < K := by rw [← h.a.wlen]; exact (List.getElem?_eq_some_iff.1 ha).1
  obtain ⟨ra, ea⟩ := h.reads false ha
  obtain ⟨rb, eb⟩ := h.reads true hb
  have hh : m.has (n : Int) = true := by simp [Mi.has, hm, hn]
  have t0 := h.thr false
  have t1 := h.thr true
  have g0 : hg0 m A p n = p n a := by simp [Sl.hg0, hk0, kHas, ra]
  have g1 : hg1 m A p n = p n b := by simp [Sl.hg1, hk1, kHas, rb]
  have w0 := h.write (n := n) (s := b) false hn hlb
  have w1 := h.write (n := n) (s := a) true hn hla
  have sa := set_self ha
  have sb := set_self hb
  unfold healR healM healA healTo
  rw [hh, t0, t1, g0, g1, ra, rb]
  cases hp : p n a
  · cases hq : p n b
    · refine ⟨by simp [hC, hp, hq], by simp [hk0], by simp [hk1], ?_⟩
      simp only [Bool.false_eq_true, if_false, Bool.and_self, if_true, hX, hY, hp, hq, sa, sb]
      exact h.mono (Nat.le_succ _) (Nat.le_succ _)
    · refine ⟨by simp [hC, hp, hq], ?_, ?_, ?_⟩
      · simp [w0.1, hk0, kDel]
      · simp [w0.1, hk1]
      · simp only [Bool.false_eq_true, if_false, Bool.and_self, if_true, hX, hY, hp, hq, sb, Bool.not_false, rb]
        exact w0.2.mono (Nat.le_refl _) (Nat.le_succ _)
  · by_cases hq : (p n b && decide (a = b)) = true
    · have hab : a = b := by simp at hq; exact hq.2
      refine ⟨by simp [hC, hp, hq], by simp [hq, hk0], by simp [hq, hk1], ?_⟩
      simp only [hq, if_true, Bool.and_self, hX, hY, hp, sa]
      rw [hab, sb]
      exact h.mono (Nat.le_succ _) (Nat.le_succ _)
    · refine ⟨by simp [hC, hp, hq], ?_, ?_, ?_⟩
      · simp [hq, w1.1, hk0]
      · simp [hq, w1.1, hk1, kDel]
      · simp only [hq, Bool.false_eq_true, if_false, if_true, Bool.and_self, hX, hY, hp, sa, Bool.not_true, ra]
        exact (show Vw _ K X (Y.set n a) k0 (k1 + 1) from w1.2).mono (Nat.le_succ _) (Nat.le_refl _)
theorem gt_get {X : List Sec} {j K : Nat} (h : X.length = K) (hj : j < K) : X[j]? = some (gt X j) := by simp [gt, List.getD, show j < X.length by omega]
theorem scr_view {A : Da} {K : Nat} {X Y : List Sec} {k0 k1 : Nat} {m : Mi} {p : Int → Sec → Bool} (h : Vw A K X Y k0 k1) (hm : m.n = K) (hk0 : m.k0 = []) (hk1 : m.k1 = []) (hX : ∀ s ∈ X, s.length = 128) (hY : ∀ s ∈ Y, s.length = 128) :
    ∀ k, k ≤ K → Vw (scr m A p k).1 K (XK p X Y K k) (YK p X Y K k) (k0 + k) (k1 + k) ∧ (scr m A p k).2.1.k0 = [] ∧ (scr m A p k).2.1.k1 = [] ∧ (scr m A p k).2.2 = rK p X Y k
  | 0, _ => ⟨by rw [XK_0 h.a.wlen, YK_0 h.b.wlen]; exact h, hk0, hk1, rfl⟩
  | k + 1, hk => by
    obtain ⟨v, e0, e1, e2⟩ := scr_view h hm hk0 hk1 hX hY k (by omega)
    have ga := gt_get h.a.wlen (show k < K by omega)
    have gb := gt_get h.b.wlen (show k < K by omega)
    have xa : (XK p X Y K k)[k]? = some (gt X k) := by rw [XK_get (by omega)]; simp
    have xb : (YK p X Y K k)[k]? = some (gt Y k) := by rw [YK_get (by omega)]; simp
    obtain ⟨s1, s2, s3, s4, s5⟩ := scr_same m A p k
    obtain ⟨r1, r2, r3, r4⟩ := v.heal (p := p) (s4.trans hm) e0 e1 xa xb (hX _ (List.mem_of_getElem? ga)) (hY _ (List.mem_of_getElem? gb))
    refine ⟨?_, r2, r3, ?_⟩
    · rw [XK_set, YK_set] at r4; exact r4
    · show cnt (scr m A p k).2.2 (healR (scr m A p k).2.1 (scr m A p k).1 p k) = _
      rw [r1, e2]; rfl
/-! ### What the laws write -/
def sec2 (x : UInt8 × UInt8) : Sec := x.1 :: x.2 :: List.replicate 126 0
/-- Pairs of bytes, as they lie. -/
def pb (l : List (UInt8 × UInt8)) : List UInt8 := l.flatMap fun x => [x.1, x.2]
def prX (la : List (UInt8 × UInt8)) (n : Nat) : List Sec := (la.take n).map sec2
/-- The places that were written, and the others. -/
def wX (la : List (UInt8 × UInt8)) (n i : Nat) : List Sec := prX la i ++ List.replicate (n - i) (secOf 0)
def rsel (r : Rp) (j : Nat) : Int := if j = 0 then r.1 else if j = 1 then r.2.1 else r.2.2
theorem XK_ok {p : Int → Sec → Bool} {X Y : List Sec} {K k : Nat} (hX : ∀ s ∈ X, s.length = 128) (hY : ∀ s ∈ Y, s.length = 128) (lX : X.length = K) (lY : Y.length = K) : ∀ s ∈ XK p X Y K k, s.length = 128 := fun s hs => by
  obtain ⟨j, hj, rfl⟩ := List.mem_map.1 hs
  have hj := List.mem_range.1 hj
  have a := hX _ (List.mem_of_getElem? (gt_get lX hj))
  have b := hY _ (List.mem_of_getElem? (gt_get lY hj))
  split
  · unfold Sl.hX; split
    · exact a
    · split
      · exact b
      · exact a
  · exact a
theorem YK_ok {p : Int → Sec → Bool} {X Y : List Sec} {K k : Nat} (hX : ∀ s ∈ X, s.length = 128) (hY : ∀ s ∈ Y, s.length = 128) (lX : X.length = K) (lY : Y.length = K) : ∀ s ∈ YK p X Y K k, s.length = 128 := fun s hs => by
  obtain ⟨j, hj, rfl⟩ := List.mem_map.1 hs
  have hj := List.mem_range.1 hj
  have a := hX _ (List.mem_of_getElem? (gt_get lX hj))
  have b := hY _ (List.mem_of_getElem? (gt_get lY hj))
  split
  · unfold Sl.hY; split
    · exact a
    · exact b
  · exact b
/-- A mirror of two that are there, nothing stale. -/
structure Ms (t : DT) (gv : Value) (D : Duo) (A : Da) (m : Mi) (K : Nat) (X Y : List Sec) (k0 k1 : Nat) (mb bx bys bp : Nat) : Prop where
  two : Two t D A bx bys bp
  vw : Vw A K X Y k0 k1
  mb : m.b = mb
  bx : m.bx = bx
  bys : m.bys = bys
  n : m.n = K
  s0 : m.k0 = []
  s1 : m.k1 = []
  gv : m.gv = gv
  okX : ∀ s ∈ X, s.length = 128
  okY : ∀ s ∈ Y, s.length = 128
theorem Ms.scr {t : DT} {gv : Value} {D D' : Duo} {A : Da} {m : Mi} {K : Nat} {X Y : List Sec} {k0 k1 mb bx bys bp : Nat} {p : Int → Sec → Bool} (h : Ms t gv D A m K X Y k0 k1 mb bx bys bp) (hT : Two t D' (Sl.scr m A p m.n).1 m.bx m.bys bp) :
    (Sl.scr m A p m.n).2.2 = rK p X Y K ∧ Ms t gv D' (Sl.scr m A p m.n).1 (Sl.scr m A p m.n).2.1 K (XK p X Y K K) (YK p X Y K K) (k0 + K) (k1 + K) mb bx bys bp := by
  have hn := h.n
  rw [hn] at hT ⊢
  obtain ⟨v, e0, e1, e2⟩ := scr_view (p := p) h.vw h.n h.s0 h.s1 h.okX h.okY K (Nat.le_refl _)
  obtain ⟨s1, s2, s3, s4, s5⟩ := scr_same m A p K
  rw [h.bx, h.bys] at hT
  exact ⟨e2, hT, v, s1.trans h.mb, s2.trans h.bx, s3.trans h.bys, s4.trans h.n, e0, e1, s5.trans h.gv, XK_ok h.okX h.okY h.vw.a.wlen h.vw.b.wlen, YK_ok h.okX h.okY h.vw.a.wlen h.vw.b.wlen⟩
theorem Ms.many {t : DT} {gv : Value} {D : Duo} {A : Da} {m : Mi} {K : Nat} {X Y : List Sec} {k0 k1 mb bx bys bp k : Nat} (h : Ms t gv D A m K X Y k0 k1 mb bx bys bp) (h0 : k0 ≤ k) (h1 : k1 ≤ k) (i : Bool) : (A.dev i).Q.length ≤ k := by
  have := (h.vw.dev i).many
  cases i
  · exact Nat.le_trans this h0
  · exact Nat.le_trans this h1
theorem hX_len {p : Int → Sec → Bool} {n : Nat} {a b : Sec} (ha : a.length = 128) (hb : b.length = 128) : (hX p n a b).length = 128 := by
  unfold hX; split
  · exact ha
  · split
    · exact hb
    · exact ha
theorem hY_len {p : Int → Sec → Bool} {n : Nat} {a b : Sec} (ha : a.length = 128) (hb : b.length = 128) : (hY p n a b).length = 128 := by
  unfold hY; split
  · exact ha
  · exact hb
/-! ### Scrubbed again -/
end Go.Sl

/- Numbers as bytes, the highest first (own work): plain facts. -/
set_option linter.unusedVariables false
namespace Go.Sl
/-- The bytes of a number, so many. -/
def be (n k : Nat) : List UInt8 := (List.range k).map fun i => UInt8.ofNat (n / 256 ^ (k - 1 - i) % 256)
def val (l : List UInt8) : Nat := l.foldl (fun a b => a * 256 + b.toNat) 0
end Go.Sl

/- Sealed sectors (own work): the little sum, the packed sector, what it is sealed of; plain laws. -/
set_option linter.unusedVariables false
set_option linter.unusedSimpArgs false
namespace Go.Sl
abbrev M64 : Nat := 18446744073709551616
def l1s (x : Nat) (b : UInt8) : Nat := ((x + b.toNat) % M64) * 1099511628211 % M64
def l2s (x : Nat) (b : UInt8) : Nat := (((x + b.toNat) % M64 + 1) % M64) * 1099511628211 % M64
def lsX (x : Nat) : Nat → Nat
  | 0 => x
  | i + 1 => (lsX x i * 6364136223846793005 % M64 + 1442695040888963407) % M64
def litO (x : Nat) : List UInt8 := (List.range 16).map fun i => UInt8.ofNat (lsX x (i + 1) / 72057594037927936)
def ls1 (x : Nat) (k : List UInt8) : Nat := k.foldl l1s x
def ls2 (x : Nat) (u : List UInt8) : Nat := u.foldl l2s x
/-- The little cipher's sum. -/
def litSum (k u : List UInt8) : List UInt8 := litO (ls2 (ls1 (u.length % M64) k) u)
/-! ### The sealed sector -/
def K0 : List UInt8 := List.replicate 32 0
/-- What stands behind the sum. -/
def restS (gen : Nat) (body : List UInt8) : List UInt8 := be gen 8 ++ (UInt8.ofNat body.length :: (body ++ List.replicate (103 - body.length) 0))
def sumS (a : Nat) (s : List UInt8) : List UInt8 := litSum K0 (be a 4 ++ s.drop 16)
def packS (a gen : Nat) (body : List UInt8) : Sec := sumS a (List.replicate 16 0 ++ restS gen body) ++ restS gen body
abbrev packOk (a : Int) (body : List UInt8) : Prop := 0 ≤ a ∧ a < 4096 ∧ body.length ≤ 103
def genS (s : Sec) : Nat := val ((s.drop 16).take 8)
def lenS (s : Sec) : Nat := (s.getD 24 0).toNat
def bodyS (s : Sec) : List UInt8 := (s.drop 25).take (lenS s)
/-- Is it sealed at the place? -/
abbrev isS (a : Int) (s : Sec) : Prop := lenS s ≤ 103 ∧ 0 ≤ a ∧ a < 4096 ∧ packS a.toNat (genS s) (bodyS s) = s
/-! ### A sector while it is packed -/
def pS1 (gen : Nat) : List UInt8 := List.replicate 16 0 ++ (be gen 8 ++ List.replicate 104 0)
def pS2 (gen n : Nat) : List UInt8 := List.replicate 16 0 ++ (be gen 8 ++ (UInt8.ofNat n :: List.replicate 103 0))
def pS3 (gen : Nat) (body : List UInt8) : List UInt8 := List.replicate 16 0 ++ restS gen body
/-! ### What both tell -/
def packR (a : Int) (gen : Nat) (body : List UInt8) : Sec := if packOk a body then packS a.toNat gen body else secOf 0
def unpG (a : Int) (s : Sec) : Nat := if isS a s then genS s else 0
def unpB (a : Int) (s : Sec) : List UInt8 := if isS a s then bodyS s else []
/-! ### The document's packing -/
theorem map_set {α : Type} (f f' : Nat → α) (n i : Nat) (h : ∀ j, j ≠ i → f j = f' j) : ((List.range n).map f).set i (f' i) = (List.range n).map f' := by
  apply List.ext_getElem?
  intro j
  rw [List.getElem?_set]
  by_cases hj : i = j
  · subst hj
    by_cases hi : i < n <;> simp [hi]
  · simp only [hj, if_false, List.getElem?_map]
    by_cases hi : j < n
    · simp [hi, h j (Ne.symm hj)]
    · simp [List.getElem?_eq_none (show (List.range n).length ≤ j by simp; omega)]
def rB (gen k : Nat) : List UInt8 := (List.range 8).map fun j => if 8 ≤ j + k then UInt8.ofNat (gen / 256 ^ (7 - j) % 256) else 0
def rP0 (gen k : Nat) : List UInt8 := List.replicate 16 0 ++ (rB gen k ++ List.replicate 104 0)
def rP2 (gen : Nat) (body : List UInt8) (i : Nat) : List UInt8 := (List.replicate 16 0 ++ (be gen 8 ++ [UInt8.ofNat body.length])) ++ ((body.take i ++ List.replicate (103 - i) 0) ++ [])
def rP4 (gen : Nat) (body x : List UInt8) (i : Nat) : List UInt8 := [] ++ ((x.take i ++ List.replicate (16 - i) 0) ++ restS gen body)
/-! ### Laws -/
theorem bs_getD {s : List UInt8} {i : Nat} (h : i < s.length) : (bs s)[i]? = some (u8 (s.getD i 0)) := by
  rw [bs_get, List.getElem?_eq_getElem h]
  simp [List.getD, h]
/-- The document's example. -/
abbrev abc : List UInt8 := [97, 98, 99]
def abcS : Sec := packS 5 7 abc
end Go.Sl

/- Facts of the translation's types, for the kernel (own work, by a program of this repo). -/
namespace Go.Proofs.Ytjjiclgbdenkkaa
open Go.Sl
theorem us_5 : (Try.prog.underlying 5).isSome = true := by kernel_rfl
end Go.Proofs.Ytjjiclgbdenkkaa

/- walks (own work; the walks' lines by a program of this repo). -/
set_option linter.unusedVariables false
set_option linter.unusedSimpArgs false
set_option maxRecDepth 20000
namespace Go.Proofs.Ytjjiclgbdenkkaa
open Go.Sl
attribute [local irreducible] BodyQ WpC WpL WpS WpH OpW FnS


theorem good09_s {w0 : World} {H : Hp} (n : Int) (s : Sec) (hs : s.length = 128) : FnS Try.prog w0 18 #[.int .i64 n, .agg (bs s).toArray] H (fun e H' => e = .returned (.bool (goodP n s)) ∧ H' = H) := by
  have b0 := (s.getD 0 0).toNat_lt
  have b1 := (s.getD 1 0).toNat_lt
  refine FnS_intro (n := 16) (rs := [.tmp 4]) (vs := [.int .i64 n, .agg (bs s).toArray]) Try.func18 rfl Try.ntmps18 rfl rfl ?_
  refine C_seq (C_region ?_)
  refine L_op rfl (op_box rfl rfl rfl (fun B1 => ?_))
  refine LY rfl (y_assign rfl) (L_nil (C_seq (C_region ?_)))
  refine LY rfl (y_indexA rfl rfl Try.underlying32 sz_5 (by omega) (by omega) (show _ = 0 from rfl)) ?_
  refine LY rfl (y_load rfl ag_5 (sees 0 0 rfl) (bs_getD (by omega))) ?_
  refine LY rfl (y_conv rfl us_5 Try.underlying3 (wi64 (by omega) (by omega))) ?_
  refine LY rfl (y_indexA rfl rfl Try.underlying32 sz_5 (by omega) (by omega) (show _ = 1 from rfl)) ?_
  refine LY rfl (y_load rfl ag_5 (sees 0 0 rfl) (bs_getD (by omega))) ?_
  refine LY rfl (y_conv rfl us_5 Try.underlying3 (wi64 (by omega) (by omega))) ?_
  refine LY rfl (y_add rfl rfl (wi64 (by omega) (by omega))) ?_
  refine LY rfl (y_move rfl) ?_
  refine LY rfl (y_add rfl rfl rfl) ?_
  refine LY rfl (y_rem rfl rfl (by decide) rfl) ?_
  refine LY rfl (y_nei rfl rfl) ?_
  refine LY rfl (y_assign rfl) (L_nil (C_ret ?_))
  refine B_ret (rv_tmp rfl rv_nil) (hsub (.cons _ (.refl _))) ?_
  exact ⟨rfl, rfl⟩

theorem good_at {w0 : World} {H : Hp} : GoodAt Try.prog w0 H (.func (.func 18) #[] ([] : List Value).toArray) goodP := .inr ⟨18, [], rfl, fun a w => Try.call18 a w, fun H' n s _ hs => good09_s n s hs⟩

end Go.Proofs.Ytjjiclgbdenkkaa

/- Sync of a mirror: the plain model (own work). -/
set_option linter.unusedVariables false
set_option linter.unusedSimpArgs false
namespace Go.Sl
def Mi.ks (m : Mi) : Bool → List (Int × Nat)
  | false => m.k0
  | true => m.k1
def Mi.del (m : Mi) (i : Bool) (n : Int) : Mi := match i with
  | false => { m with k0 := kDel m.k0 n }
  | true => { m with k1 := kDel m.k1 n }
/-- Is a place of a side copied from the other one? -/
def syOk (m : Mi) (A : Da) (p : Int → Sec → Bool) (i : Bool) (n : Int) : Bool := kHas (m.ks i) n && !kHas (m.ks (!i)) n && (decide (A.rE (!i) n = 0) && p n (A.rS (!i) n))
def sy1 (p : Int → Sec → Bool) (i : Bool) (q : Da × Mi) (n : Int) : Da × Mi :=
  if syOk q.2 q.1 p i n then (q.1.write i n (q.1.rS (!i) n), if q.1.wE i n = 0 then q.2.del i n else q.2) else q
def syN (p : Int → Sec → Bool) (i : Bool) (q : Da × Mi) : Nat → Da × Mi
  | 0 => q
  | k + 1 => sy1 p i (syN p i q k) k
theorem syN_succ {p : Int → Sec → Bool} {i : Bool} {q q' : Da × Mi} {k : Nat} (h : syN p i q k = q') : syN p i q (k + 1) = sy1 p i q' k := by subst h; rfl
def syncQ (m : Mi) (A : Da) (p : Int → Sec → Bool) : Da × Mi := syN p true (syN p false (A, m) m.n) m.n
def syncE (m : Mi) (A : Da) (p : Int → Sec → Bool) : Int := if thr A false && thr A true then (if (syncQ m A p).2.k0.length + (syncQ m A p).2.k1.length = 0 then 0 else 9) else 13
def syncA (m : Mi) (A : Da) (p : Int → Sec → Bool) : Da := if thr A false && thr A true then (mfl (syncQ m A p).1).1 else A
def syncM (m : Mi) (A : Da) (p : Int → Sec → Bool) : Mi := if thr A false && thr A true then (syncQ m A p).2 else m
theorem sy1_same (p : Int → Sec → Bool) (i : Bool) (q : Da × Mi) (n : Int) : (sy1 p i q n).2.b = q.2.b ∧ (sy1 p i q n).2.bx = q.2.bx ∧ (sy1 p i q n).2.bys = q.2.bys ∧ (sy1 p i q n).2.n = q.2.n ∧ (sy1 p i q n).2.gv = q.2.gv := by
  unfold sy1
  split
  · dsimp only
    split
    · cases i <;> exact ⟨rfl, rfl, rfl, rfl, rfl⟩
    · exact ⟨rfl, rfl, rfl, rfl, rfl⟩
  · exact ⟨rfl, rfl, rfl, rfl, rfl⟩
theorem kDel_len (ks : List (Int × Nat)) (n : Int) : (kDel ks n).length ≤ ks.length := by
  unfold kDel
  split
  · exact List.length_eraseIdx_le _ _
  · exact Nat.le_refl _
end Go.Sl

/- A mirror of two that are there: what is written, flushed, spoilt, and new (own work). -/
set_option linter.unusedVariables false
set_option linter.unusedSimpArgs false
namespace Go.Sl
section
variable {A : Da} {K : Nat} {X Y : List Sec} {k0 k1 n : Nat} {s : Sec} {ask : Da → Bool → Bool}
theorem Vw.side (h : Vw A K X Y k0 k1) (i : Bool) (hn : n < K) (hs : s.length = 128) (ha : ask A i = false → (pick2 i X Y)[n]? = some s) :
    pd A i ask n = true ∧ Vw (pA A i ask n s) K (if i then X else X.set n s) (if i then Y.set n s else Y) (if i then k0 else k0 + 1) (if i then k1 + 1 else k1) := by
  obtain ⟨w1, w2⟩ := h.write (n := n) (s := s) i hn hs
  unfold pd pA
  rw [h.thr i]
  cases hk : ask A i
  · have hX := ha hk
    refine ⟨by simp, ?_⟩
    simp only [Bool.and_false, Bool.false_eq_true, if_false]
    cases i
    · simp only [pick2, Bool.false_eq_true, if_false] at hX ⊢
      rw [set_self hX]
      exact h.mono (Nat.le_succ _) (Nat.le_refl _)
    · simp only [pick2, if_true] at hX ⊢
      rw [set_self hX]
      exact h.mono (Nat.le_refl _) (Nat.le_succ _)
  · refine ⟨by simp [w1], ?_⟩
    simp only [Bool.and_self, if_true]
    exact w2
/-- Is it asked for only where something else stands? -/
def AskOk (K : Nat) (n : Nat) (s : Sec) (ask : Da → Bool → Bool) : Prop := ∀ A X Y k0 k1, Vw A K X Y k0 k1 → ∀ i, ask A i = false → (pick2 i X Y)[n]? = some s
theorem askok_all (K n : Nat) (s : Sec) : AskOk K n s askAll := fun A X Y k0 k1 h i hi => by cases hi
theorem Vw.put (h : Vw A K X Y k0 k1) {m : Mi} (hm : m.n = K) (z0 : m.k0 = []) (z1 : m.k1 = []) (hn : n < K) (hs : s.length = 128) (ha : AskOk K n s ask) :
    putE m A ask n s = 0 ∧ putm m A ask n s = m ∧ Vw (putDa m A ask n s) K (X.set n s) (Y.set n s) (k0 + 1) (k1 + 1) := by
  obtain ⟨d0, v0⟩ := h.side (n := n) (s := s) (ask := ask) false hn hs (ha _ _ _ _ _ h false)
  simp only [Bool.false_eq_true, if_false] at v0
  obtain ⟨d1, v1⟩ := v0.side (n := n) (s := s) (ask := ask) true hn hs (ha _ _ _ _ _ v0 true)
  simp only [if_true] at v1
  have hh : m.has (n : Int) = true := by simp [Mi.has]; omega
  refine ⟨?_, ?_, ?_⟩
  · unfold putE putD; rw [hh, d0]; rfl
  · unfold putm putD; rw [hh, d0, d1]
    obtain ⟨b, r0, r1, bx, bys, n', gv, l0, c0, l1, c1⟩ := m
    simp only at z0 z1
    subst z0 z1
    rfl
  · unfold putDa putA; rw [hh]; exact v1
theorem Vw.mfl (h : Vw A K X Y k0 k1) : (Sl.mfl A).2 = 0 ∧ Vw (Sl.mfl A).1 K X Y 0 0 := by
  obtain ⟨e0, v0⟩ := h.flush false
  simp only [Bool.false_eq_true, if_false] at v0
  obtain ⟨e1, v1⟩ := v0.flush true
  simp only [if_true] at v1
  unfold Sl.mfl fl1
  rw [h.thr false, h.thr true]
  simp only [if_true, e0, e1]
  exact ⟨trivial, v1⟩
/-- A byte of a sector is spoilt. -/
def rotB (s : Sec) (j : Nat) (c : UInt8) : Sec := s.set j (s.getD j 0 ^^^ c)
theorem rotB_len {s : Sec} {j : Nat} {c : UInt8} : (rotB s j c).length = s.length := by simp [rotB]
theorem RdW.rot {a : Ab} {W : List Sec} {j : Nat} {c : UInt8} (h : RdW K W a 0) (hn : W[n]? = some s) : RdW K (W.set n (rotB s j c)) (a.rot n j c) 0 := by
  obtain ⟨hq, hS⟩ := h.stable
  have hlt : n < K := by have := (List.getElem?_eq_some_iff.1 hn).1; have := h.wlen; omega
  have hg : a.S.getD n [] = s := by rw [hS]; simp [List.getD, hn]
  refine ⟨Ab.rot_ok h.ok (by rw [h.len]; exact hlt), by simp [Ab.rot, h.len], h.out, h.lies, by simp [Ab.rot, hq], by simpa using h.wlen, fun k u hk => ?_⟩
  have : (a.rot n j c).read k = (W.set n (rotB s j c)).getD k [] := by
    simp only [Ab.read, Ab.rot, hq, lastW, List.reverse_nil, List.find?_nil, Option.map_none, Option.getD_none, hg]
    rw [hS]; rfl
  rw [this]; simp [List.getD, hk]
theorem Vw.rot {i : Bool} {j : Nat} {c : UInt8} (h : Vw A K X Y 0 0) (hn : (pick2 i X Y)[n]? = some s) (hj : j < 128) :
    (A.dev i).rotE (n : Int) (j : Int) = true ∧ Vw (A.setd i ((A.dev i).rots (n : Int) (j : Int) c)) K (if i then X else X.set n (rotB s j c)) (if i then Y.set n (rotB s j c) else Y) 0 0 := by
  have hd := h.dev i
  have hlt : n < K := by have := (List.getElem?_eq_some_iff.1 hn).1; have := hd.wlen; omega
  have e : (A.dev i).rotE (n : Int) (j : Int) = true := by unfold Ab.rotE; rw [hd.has]; simp; omega
  refine ⟨e, ?_⟩
  unfold Ab.rots
  rw [e]
  simp only [if_true, Int.toNat_natCast]
  have hc := Da.calm_setd h.calm i ((A.dev i).rot n j c)
  cases i
  · exact ⟨hc, h.a.rot hn, h.b⟩
  · exact ⟨hc, h.a, h.b.rot hn⟩
end
section
variable {t : DT} {gv : Value} {D D' : Duo} {A A' : Da} {m : Mi} {K : Nat} {X Y X' Y' : List Sec} {k0 k1 j0 j1 mb bx bys bp : Nat} {p : Int → Sec → Bool} {n : Nat} {u v s : Sec}
theorem Ms.with {bq : Nat} (h : Ms t gv D A m K X Y k0 k1 mb bx bys bp) (hT : Two t D' A' bx bys bq) (hv : Vw A' K X' Y' j0 j1) (hx : ∀ s ∈ X', s.length = 128) (hy : ∀ s ∈ Y', s.length = 128) : Ms t gv D' A' m K X' Y' j0 j1 mb bx bys bq :=
  ⟨hT, hv, h.mb, h.bx, h.bys, h.n, h.s0, h.s1, h.gv, hx, hy⟩
theorem set_ok2 {X : List Sec} (h : ∀ s ∈ X, s.length = 128) (hs : s.length = 128) : ∀ u ∈ X.set n s, u.length = 128 := fun u hu => by
  rcases List.mem_or_eq_of_mem_set hu with h1 | rfl
  · exact h u h1
  · exact hs
/-- A mirror that has just been made of two. -/
theorem Ms.new (hT : Two t D A bx bys bp) (hv : Vw A K X Y k0 k1) (b r0 r1 : Nat) (hX : ∀ s ∈ X, s.length = 128) (hY : ∀ s ∈ Y, s.length = 128) : Ms t gv D A (mnew A bx bys gv b r0 r1) K X Y k0 k1 b bx bys bp := by
  have ht0 := hv.thr false
  have ht1 := hv.thr true
  have hl0 := hv.a.len
  have hl1 := hv.b.len
  refine ⟨hT, hv, rfl, rfl, rfl, ?_, ?_, ?_, rfl, hX, hY⟩
  · show min _ _ = _; rw [hl0, hl1]; omega
  · show stale0 _ _ = []; rw [ht0]; rfl
  · show stale0 _ _ = []; rw [ht1]; rfl
end
end Go.Sl

/- Scrubbing: what the laws say of it (own work). -/
set_option linter.unusedVariables false
set_option linter.unusedSimpArgs false
namespace Go.Sl
section
variable {p : Int → Sec → Bool} {n : Nat} {a b s t : Sec}
def rdv (p : Int → Sec → Bool) (n : Int) (s t : Sec) : Sec := if p n s then s else if p n t then t else secOf 0
def rde (p : Int → Sec → Bool) (n : Int) (s t : Sec) : Int := if p n s || p n t then 0 else 9
/-- What both tell. -/
def gl (p : Int → Sec → Bool) (n : Int) (s t : Sec) : List Sec := (if p n s then [s] else []) ++ (if p n t then [t] else [])
end
section
variable {t : DT} {gv : Value} {D : Duo} {A : Da} {m : Mi} {K : Nat} {X Y : List Sec} {k0 k1 mb bx bys bp : Nat} {p : Int → Sec → Bool} {n : Nat} {u v : Sec}
theorem Ms.has (h : Ms t gv D A m K X Y k0 k1 mb bx bys bp) (hn : n < K) : m.has (n : Int) = true := by
  have := h.n
  simp [Mi.has]; omega
theorem Ms.rd (h : Ms t gv D A m K X Y k0 k1 mb bx bys bp) (hu : X[n]? = some u) (hv : Y[n]? = some v) : mrS m A p n = rdv p n u v ∧ mrE m A p n = rde p n u v := by
  have hn : n < K := by have := (List.getElem?_eq_some_iff.1 hu).1; have := h.vw.a.wlen; omega
  obtain ⟨r0, e0⟩ := h.vw.reads false (s := u) hu
  obtain ⟨r1, e1⟩ := h.vw.reads true (s := v) hv
  have z0 : kHas m.k0 (n : Int) = false := by rw [h.s0]; rfl
  have z1 : kHas m.k1 (n : Int) = false := by rw [h.s1]; rfl
  have o0 : okAt A false m.k0 p n = p n u := by simp [okAt, e0, z0, r0]
  have o1 : okAt A true m.k1 p n = p n v := by simp [okAt, e1, z1, r1]
  unfold mrS mrE rdv rde
  rw [h.has hn, h.vw.thr false, h.vw.thr true, o0, o1, r0, r1]
  cases p n u <;> cases p n v <;> simp
theorem Ms.both (h : Ms t gv D A m K X Y k0 k1 mb bx bys bp) (hu : X[n]? = some u) (hv : Y[n]? = some v) : bothS m A p n = gl p n u v := by
  have hn : n < K := by have := (List.getElem?_eq_some_iff.1 hu).1; have := h.vw.a.wlen; omega
  obtain ⟨r0, e0⟩ := h.vw.reads false (s := u) hu
  obtain ⟨r1, e1⟩ := h.vw.reads true (s := v) hv
  unfold bothS gl
  rw [h.has hn, h.vw.thr false, h.vw.thr true, e0, e1, r0, r1]
  simp
end
end Go.Sl
namespace Go.Sl
/-- What is read, place by place. -/
def rvs (p : Int → Sec → Bool) (X Y : List Sec) (k : Nat) : List Sec := (List.range k).map fun (j : Nat) => rdv p (j : Int) (gt X j) (gt Y j)
def res (p : Int → Sec → Bool) (X Y : List Sec) (k : Nat) : List Int := (List.range k).map fun (j : Nat) => rde p (j : Int) (gt X j) (gt Y j)
section
variable {p : Int → Sec → Bool} {X Y : List Sec} {k n : Nat} {s t : Sec}
theorem gt_is (hs : X[k]? = some s) : gt X k = s := by simp [gt, List.getD, hs]
end
end Go.Sl

/- Scrubbing what one device missed (own work). -/
set_option linter.unusedVariables false
set_option linter.unusedSimpArgs false
namespace Go.Sl
section
variable {m : Mi} {A B : Da} {p : Int → Sec → Bool} {K : Nat} {X Y : List Sec} {k0 k1 : Nat}
theorem heal_none {j : Nat} {s : Sec} (hh : m.has (j : Int) = true) (t0 : thr A false = true) (t1 : thr A true = true) (g0 : kHas m.k0 (j : Int) = false) (g1 : kHas m.k1 (j : Int) = false) (r0 : A.rS false j = s) (r1 : A.rS true j = s) :
    healA m A p j = A ∧ healM m A p j = m ∧ healR m A p j = (if p j s then 0 else 2, 0) := by
  have e : healTo m A p j = none := by
    unfold healTo hg0 hg1
    rw [hh, t0, t1, g0, g1, r0, r1]
    cases p j s <;> simp
  refine ⟨by unfold healA; rw [e], by unfold healM; rw [e], ?_⟩
  unfold healR hg0 hg1
  rw [hh, t0, t1, g0, g1, r0, r1]
  cases p j s <;> simp
theorem has_of {k : Nat} (hm : m.n = K) (h : k < K) : m.has (k : Int) = true := by simp [Mi.has]; omega
theorem kHas_one {t : Nat} {c : Nat} {j : Nat} : kHas [((t : Int), c)] (j : Int) = decide (j = t) := by
  unfold kHas
  simp only [List.any_cons, List.any_nil, Bool.or_false]
  by_cases h : j = t
  · subst h; simp
  · have : ¬ ((t : Int) = (j : Int)) := by omega
    simp [h, this]
/-- A write while the first device is out, and in again. -/
theorem put_out {t : Nat} {s : Sec} (h : Vw A K X Y 0 k1) (ht : t < K) (hm : m.n = K) (z0 : m.k0 = []) (z1 : m.k1 = []) :
    putE m (A.setd false ((A.dev false).outs true)) askAll t s = 0 ∧
    (putDa m (A.setd false ((A.dev false).outs true)) askAll t s).setd false (((putDa m (A.setd false ((A.dev false).outs true)) askAll t s).dev false).outs false) = A.write true t s ∧
    (putm m (A.setd false ((A.dev false).outs true)) askAll t s).k0 = [((t : Int), m.c0)] ∧ (putm m (A.setd false ((A.dev false).outs true)) askAll t s).k1 = [] ∧
    (putm m (A.setd false ((A.dev false).outs true)) askAll t s).b = m.b ∧ (putm m (A.setd false ((A.dev false).outs true)) askAll t s).bx = m.bx ∧ (putm m (A.setd false ((A.dev false).outs true)) askAll t s).bys = m.bys ∧
    (putm m (A.setd false ((A.dev false).outs true)) askAll t s).n = m.n ∧ (putm m (A.setd false ((A.dev false).outs true)) askAll t s).gv = m.gv := by
  have c2 : (A.setd false ((A.dev false).outs true)).calm := Da.calm_setd h.calm false _
  have to : thr (A.setd false ((A.dev false).outs true)) false = false := by simp [thr, Da.setd, Da.dev, Ab.outs, Ab.down]
  have ti : thr (A.setd false ((A.dev false).outs true)) true = true := h.thr true
  have hh := has_of hm ht
  obtain ⟨w1, w2⟩ := Da.write_calm h.calm true (t : Int) s
  obtain ⟨v1, v2⟩ := Da.write_calm c2 true (t : Int) s
  have hd := h.dev true
  have hx : (A.dev true).has (t : Int) = true := by rw [hd.has]; simp; omega
  have ho : (A.dev true).out = false := hd.out
  rw [ho, hx] at w1 w2
  rw [show (A.setd false ((A.dev false).outs true)).dev true = A.dev true from rfl, ho, hx] at v1 v2
  simp only [Bool.not_false, Bool.and_self, if_true, Bool.false_eq_true, if_false] at w1 w2 v1 v2
  have pa : pA (A.setd false ((A.dev false).outs true)) false askAll t s = A.setd false ((A.dev false).outs true) := by unfold pA; rw [to]; rfl
  have d0 : putD (A.setd false ((A.dev false).outs true)) askAll t s false = false := by unfold putD pd; rw [to]; rfl
  have d1 : putD (A.setd false ((A.dev false).outs true)) askAll t s true = true := by unfold putD pd; rw [pa, ti, v2]; rfl
  have pt : putA (A.setd false ((A.dev false).outs true)) askAll t s = (A.setd false ((A.dev false).outs true)).setd true ((A.dev true).push t s) := by
    unfold putA; rw [pa]; unfold pA; rw [ti, v1]; rfl
  have hq : (A.dev false).Q = [] := List.eq_nil_of_length_eq_zero (by have := (h.dev false).many; simp only [pick2] at this; simp at this; simp [this])
  have hf := (h.dev false).out
  refine ⟨?_, ?_, ?_, ?_, ?_⟩
  · unfold putE; rw [hh, d0, d1]; rfl
  · unfold putDa; rw [hh, if_pos rfl, pt, w1]
    obtain ⟨a, b, q, r⟩ := A
    obtain ⟨S, Q, k, by_, l, o⟩ := a
    simp only [Da.dev] at hq hf
    subst hq hf
    rfl
  · unfold putm; rw [hh, d0, d1]; simp [Mi.mark, z0, kPut, kHas]
  · unfold putm; rw [hh, d0, d1]; simp [Mi.mark, z1, kDel]
  · unfold putm; rw [hh, d0, d1]; exact ⟨rfl, rfl, rfl, rfl, rfl⟩
end
/-- The sector of that law. -/
def sec3 (u v w : UInt8) : Sec := u :: v :: w :: List.replicate 125 0
theorem sec3_len (u v w : UInt8) : (sec3 u v w).length = 128 := by simp [sec3]
theorem sec3_fill (u v w : UInt8) : bs (sec3 u v w) = Value.int .u8 (u.toNat : Int) :: Value.int .u8 (v.toNat : Int) :: Value.int .u8 (w.toNat : Int) :: List.replicate 125 (Value.int .u8 0) := by simp [sec3, bs, u8]
end Go.Sl
namespace Go.Sl
end Go.Sl
namespace Go.Sl
/-- The sectors of such first bytes. -/
def secs (k : Nat) (ua : List UInt8) : List Sec := (List.range k).map fun i => sec3 (ua.getD (0 + i * 2 + 0) 0) (ua.getD (0 + i * 2 + 1) 0) 9
end Go.Sl

/- A mirror of which one device missed something (own work). -/
set_option linter.unusedVariables false
set_option linter.unusedSimpArgs false
namespace Go.Sl
section
variable {m : Mi} {A : Da} {p : Int → Sec → Bool} {K : Nat} {X Y : List Sec} {k0 k1 t c : Nat} {s : Sec}
/-- What is written and flushed while the first device is out; it is in again then. -/
theorem missed (h : Vw A K X Y 0 k1) (ht : t < K) (hs : s.length = 128) (hm : m.n = K) (z0 : m.k0 = []) (z1 : m.k1 = []) :
    putE m (A.setd false ((A.dev false).outs true)) askAll t s = 0 ∧
    Vw ((mfl (putDa m (A.setd false ((A.dev false).outs true)) askAll t s)).1.setd false (((mfl (putDa m (A.setd false ((A.dev false).outs true)) askAll t s)).1.dev false).outs false)) K X (Y.set t s) 0 0 ∧
    (putm m (A.setd false ((A.dev false).outs true)) askAll t s).k0 = [((t : Int), m.c0)] ∧ (putm m (A.setd false ((A.dev false).outs true)) askAll t s).k1 = [] ∧
    (putm m (A.setd false ((A.dev false).outs true)) askAll t s).b = m.b ∧ (putm m (A.setd false ((A.dev false).outs true)) askAll t s).bx = m.bx ∧ (putm m (A.setd false ((A.dev false).outs true)) askAll t s).bys = m.bys ∧
    (putm m (A.setd false ((A.dev false).outs true)) askAll t s).n = m.n ∧ (putm m (A.setd false ((A.dev false).outs true)) askAll t s).gv = m.gv := by
  obtain ⟨p0, p1, p2⟩ := put_out (s := s) h ht hm z0 z1
  refine ⟨p0, ?_, p2⟩
  have hh := has_of hm ht
  obtain ⟨w1, w2⟩ := h.write (n := t) (s := s) true ht hs
  obtain ⟨f1, f2⟩ := w2.flush true
  simp only [if_true] at f2
  generalize hA : A.setd false ((A.dev false).outs true) = A' at *
  have c2 : A'.calm := by rw [← hA]; exact Da.calm_setd h.calm false _
  have to : thr A' false = false := by rw [← hA]; simp [thr, Da.setd, Da.dev, Ab.outs, Ab.down]
  have ti : thr A' true = true := by rw [← hA]; exact h.thr true
  have pa : pA A' false askAll t s = A' := by unfold pA; rw [to]; rfl
  have pB : putDa m A' askAll t s = A'.write true t s := by
    unfold putDa putA; rw [hh, if_pos rfl, pa]; unfold pA; rw [ti]; rfl
  have hB : (A'.write true t s).dev false = A'.dev false := by
    rw [(Da.write_calm c2 true (t : Int) s).1]
    split <;> rfl
  have cB := Da.write_calm2 c2 true (t : Int) s
  rw [pB] at p1 ⊢
  generalize hB2 : A'.write true (t : Int) s = B at *
  have tB : thr B false = false := by
    unfold thr Ab.down
    rw [hB, ← hA]
    simp [Da.setd, Da.dev, Ab.outs]
  have eB : B.setd false ((B.dev false).outs false) = A.write true t s := p1
  have oB : (B.dev true).out = false := by
    have : (A.write true t s).dev true = B.dev true := by rw [← eB]; rfl
    rw [← this]; exact (w2.dev true).out
  have tB1 : thr B true = true := by
    unfold thr Ab.down
    rw [oB, (Da.calm_pow cB true).1]; rfl
  have fl : B.flush true = B.setd true ((B.dev true).flush) := by rw [(Da.flush_calm cB true).1, oB]; rfl
  have fA : (A.write true t s).flush true = (A.write true t s).setd true (((A.write true t s).dev true).flush) := by
    rw [(Da.flush_calm w2.calm true).1, (w2.dev true).out]; rfl
  have key : (mfl B).1.setd false (((mfl B).1.dev false).outs false) = (A.write true t s).flush true := by
    unfold mfl fl1
    rw [tB, tB1]
    simp only [Bool.false_eq_true, if_false, if_true]
    rw [fl, fA, ← eB]
    rfl
  rw [key]
  exact f2
end
end Go.Sl

/- The document's mirror: two lists that are there, or not: the plain model, and what a mirror has to do with it (own work). -/
set_option linter.unusedVariables false
set_option linter.unusedSimpArgs false
namespace Go.Sl
/-! ### Keys -/
section
variable {ks : List (Int × Nat)} {k j : Int} {c : Nat}
theorem kDel_erase (ks : List (Int × Nat)) (k : Int) : kDel ks k = ks.eraseP (·.1 == k) := by
  rw [List.eraseP_eq_eraseIdx]
  unfold kDel
  cases ks.findIdx? (·.1 == k) <;> rfl
def kOk (ks : List (Int × Nat)) : Prop := (ks.map (·.1)).Nodup
theorem kHas_mem : kHas ks k = true ↔ k ∈ ks.map (·.1) := by
  unfold kHas
  rw [List.any_eq_true, List.mem_map]
  refine ⟨fun ⟨x, h, e⟩ => ⟨x, h, by simpa using e⟩, fun ⟨x, h, e⟩ => ⟨x, h, by simpa using e⟩⟩
theorem kHas_put : kHas (kPut ks c k) j = (kHas ks j || decide (j = k)) := by
  unfold kPut
  split
  · rename_i h
    by_cases e : j = k
    · subst e; simp [h]
    · simp [e]
  · unfold kHas
    rw [List.any_append]
    simp only [List.any_cons, List.any_nil, Bool.or_false]
    congr 1
    by_cases e : j = k
    · subst e; simp
    · simp [e, Ne.symm e]
theorem kOk.put (h : kOk ks) : kOk (kPut ks c k) := by
  unfold kPut
  split
  · exact h
  · rename_i hn
    have hn2 : k ∉ ks.map (·.1) := fun h => hn (kHas_mem.2 h)
    unfold kOk
    rw [List.map_append, List.nodup_append]
    refine ⟨h, by simp, fun a ha b hb => ?_⟩
    simp at hb
    subst hb
    intro e; subst e
    exact hn2 ha
theorem kOk.del (h : kOk ks) : kOk (kDel ks k) := by
  rw [kDel_erase]
  unfold kOk at h ⊢
  exact List.Sublist.nodup (List.Sublist.map _ List.eraseP_sublist) h
theorem kHas_del : ∀ {ks : List (Int × Nat)}, kOk ks → kHas (kDel ks k) j = (kHas ks j && !decide (j = k))
  | [], _ => by simp [kDel, kHas]
  | x :: ks, h => by
    rw [kDel_erase, List.eraseP_cons]
    unfold kOk at h
    rw [List.map_cons, List.nodup_cons] at h
    by_cases e : x.1 = k
    · have hb : (x.1 == k) = true := by simpa using e
      rw [hb]
      simp only [cond_true, if_true]
      unfold kHas
      rw [List.any_cons]
      by_cases ej : j = k
      · have : ks.any (fun x => x.1 == k) = false := by
          rw [← Bool.not_eq_true]
          intro hc
          exact h.1 (e ▸ kHas_mem.1 hc)
        subst ej
        rw [this]; simp
      · have : (x.1 == j) = false := by simp; omega
        rw [this]; simp [ej]
    · have hb : (x.1 == k) = false := by simpa using e
      rw [hb]
      have ih := kHas_del (ks := ks) h.2
      rw [kDel_erase] at ih
      unfold kHas at ih ⊢
      simp only [cond_false, Bool.false_eq_true, if_false]
      rw [List.any_cons, List.any_cons, ih]
      by_cases ej : j = k
      · subst ej; rw [hb]; simp
      · simp [ej]
theorem kPut_len : (kPut ks c k).length = ks.length + (if kHas ks k then 0 else 1) := by
  unfold kPut; split <;> simp
theorem kDel_len2 : (kDel ks k).length + (if kHas ks k then 1 else 0) = ks.length := by
  rw [kDel_erase]
  split
  · rename_i h
    have h2 := kHas_mem.1 h
    obtain ⟨x, hx, e⟩ := List.mem_map.1 h2
    have := List.length_eraseP_of_mem (p := fun y : Int × Nat => y.1 == k) hx (by simpa using e)
    have hp : 0 < ks.length := List.length_pos_of_mem hx
    omega
  · rename_i h
    rw [List.eraseP_of_forall_not]
    · rfl
    · intro a ha hc
      exact h (kHas_mem.2 (List.mem_map.2 ⟨a, ha, by simpa using hc⟩))
end
/-! ### The document's mirror -/
structure Rs where
  l : List Sec
  o : Bool
  s : List Bool
structure Rm where
  x : Rs
  y : Rs
def Rm.sd (r : Rm) : Bool → Rs
  | false => r.x
  | true => r.y
def Rm.put (r : Rm) (i : Bool) (z : Rs) : Rm := match i with
  | false => { r with x := z }
  | true => { r with y := z }
def Rs.at (r : Rs) (n : Nat) : Sec := r.l.getD n []
def Rs.old (r : Rs) (n : Nat) : Bool := r.s.getD n false
def Rs.tells (r : Rs) (p : Int → Sec → Bool) (n : Nat) : Bool := !r.old n && p n (r.at n)
def Rm.has (r : Rm) (n : Int) : Bool := decide (0 ≤ n) && decide (n < r.x.l.length)
def Rm.readE (r : Rm) (p : Int → Sec → Bool) (n : Int) : Int :=
  if r.has n then (if r.x.o && r.y.o then 13 else if !r.x.o && r.x.tells p n.toNat then 0 else if !r.y.o && r.y.tells p n.toNat then 0 else 9) else 2
def Rm.readS (r : Rm) (p : Int → Sec → Bool) (n : Int) : Sec :=
  if r.has n then (if !r.x.o && r.x.tells p n.toNat then r.x.at n.toNat else if !r.y.o && r.y.tells p n.toNat then r.y.at n.toNat else secOf 0) else secOf 0
def Rs.wl (r : Rs) (n : Nat) (s : Sec) : Rs := { r with l := if r.o then r.l else r.l.set n s }
def Rs.wr (r : Rs) (n : Nat) (s : Sec) : Rs := { r.wl n s with s := r.s.set n r.o }
def Rm.writeE (r : Rm) (n : Int) : Int := if r.has n then (if r.x.o && r.y.o then 13 else 0) else 2
def Rm.write (r : Rm) (n : Int) (s : Sec) : Rm := if r.has n && !(r.x.o && r.y.o) then ⟨r.x.wr n.toNat s, r.y.wr n.toNat s⟩ else r
def Rm.healTo (r : Rm) (p : Int → Sec → Bool) (n : Int) : Option Bool :=
  if r.has n && (!r.x.o && !r.y.o) then
    (if r.x.tells p n.toNat then (if r.y.tells p n.toNat && decide (r.x.at n.toNat = r.y.at n.toNat) then none else some true) else if r.y.tells p n.toNat then some false else none)
  else none
def Rm.healR (r : Rm) (p : Int → Sec → Bool) (n : Int) : Int × Int :=
  if r.has n then (if !r.x.o && !r.y.o then
    (if r.x.tells p n.toNat then (if r.y.tells p n.toNat && decide (r.x.at n.toNat = r.y.at n.toNat) then (0, 0) else (1, 0)) else if r.y.tells p n.toNat then (1, 0) else (2, 0))
  else (0, 13)) else (0, 2)
def Rs.copy (r : Rs) (n : Nat) (s : Sec) : Rs := { r with l := r.l.set n s, s := r.s.set n false }
def Rm.heal (r : Rm) (p : Int → Sec → Bool) (n : Int) : Rm := match r.healTo p n with
  | none => r
  | some i => r.put i ((r.sd i).copy n.toNat ((r.sd (!i)).at n.toNat))
def Rm.both (r : Rm) (p : Int → Sec → Bool) (n : Int) : List Sec :=
  if r.has n then (if !r.x.o && p n (r.x.at n.toNat) then [r.x.at n.toNat] else []) ++ (if !r.y.o && p n (r.y.at n.toNat) then [r.y.at n.toNat] else []) else []
def Rs.cnt (r : Rs) : Nat := r.s.countP id
def Rm.sy1 (p : Int → Sec → Bool) (i : Bool) (r : Rm) (n : Nat) : Rm :=
  if (r.sd i).old n && (r.sd (!i)).tells p n then r.put i ((r.sd i).copy n ((r.sd (!i)).at n)) else r
def Rm.syN (p : Int → Sec → Bool) (i : Bool) (r : Rm) : Nat → Rm
  | 0 => r
  | k + 1 => Rm.sy1 p i (Rm.syN p i r k) k
def Rm.syncQ (r : Rm) (p : Int → Sec → Bool) : Rm := Rm.syN p true (Rm.syN p false r r.x.l.length) r.x.l.length
def Rm.sync (r : Rm) (p : Int → Sec → Bool) : Rm := if !r.x.o && !r.y.o then r.syncQ p else r
def Rm.syncE (r : Rm) (p : Int → Sec → Bool) : Int := if !r.x.o && !r.y.o then (if (r.syncQ p).x.cnt + (r.syncQ p).y.cnt = 0 then 0 else 9) else 13
def Rm.outs (r : Rm) (i on : Bool) : Rm := r.put i { r.sd i with o := on }
def Rm.rot (r : Rm) (i : Bool) (n : Int) (j : Nat) (c : UInt8) : Rm := if r.has n then r.put i { r.sd i with l := (r.sd i).l.set n.toNat (rotB ((r.sd i).at n.toNat) j c) } else r
def Rm.new (K : Nat) (a b : Bool) : Rm := ⟨⟨List.replicate K (secOf 0), a, List.replicate K a⟩, ⟨List.replicate K (secOf 0), b, List.replicate K b⟩⟩
theorem Rs.wl_out {z : Rs} {n : Nat} {s : Sec} (h : z.o = true) : z.wl n s = z := by cases z; simp_all [Rs.wl]
theorem Rs.wl_in {z : Rs} {n : Nat} {s : Sec} (h : z.o = false) : z.wl n s = { z with l := z.l.set n s } := by cases z; simp_all [Rs.wl]
theorem tf (b : Bool) : b = false ∨ b = true := by cases b <;> simp
/-! ### One side -/
structure Side (r : Rs) (a : Ab) (ks : List (Int × Nat)) (K k : Nat) : Prop where
  ok : a.ok
  len : a.S.length = K
  lies : a.lies = false
  out : a.out = r.o
  many : a.Q.length ≤ k
  none : r.o = true → a.Q = []
  rlen : r.l.length = K
  slen : r.s.length = K
  lok : ∀ s ∈ r.l, s.length = 128
  read : ∀ j s, r.l[j]? = some s → a.read j = s
  kok : kOk ks
  has : ∀ n : Int, kHas ks n = (decide (0 ≤ n) && r.s.getD n.toNat false)
  cnt : ks.length = r.cnt
section
variable {r : Rs} {a : Ab} {ks : List (Int × Nat)} {K k n : Nat} {s : Sec}
theorem Side.rd (h : Side r a ks K k) (ho : r.o = false) : RdW K r.l a k := ⟨h.ok, h.len, h.out.trans ho, h.lies, h.many, h.rlen, h.read⟩
theorem Side.mono {k' : Nat} (h : Side r a ks K k) (hk : k ≤ k') : Side r a ks K k' := { h with many := Nat.le_trans h.many hk }
theorem Side.idle (h : Side r a ks K k) (ho : r.o = true) : Side r a ks K 0 := { h with many := by rw [h.none ho]; exact Nat.le_refl _ }
theorem Side.atlen (h : Side r a ks K k) (hn : n < K) : (r.at n).length = 128 := by
  have hl : n < r.l.length := by have := h.rlen; omega
  exact h.lok _ (by rw [Rs.at, List.getD_eq_getElem?_getD, List.getElem?_eq_getElem hl]; exact List.getElem_mem hl)
theorem Side.get (h : Side r a ks K k) (hn : n < K) : r.l[n]? = some (r.at n) := by
  have hl : n < r.l.length := by have := h.rlen; omega
  rw [Rs.at, List.getD_eq_getElem?_getD, List.getElem?_eq_getElem hl]; rfl
theorem Side.push (h : Side r a ks K k) (ho : r.o = false) (hn : n < K) (hs : s.length = 128) : Side { r with l := r.l.set n s } (a.push n s) ks K (k + 1) := by
  have w := (h.rd ho).write hn hs
  exact ⟨w.ok, w.len, w.lies, h.out, w.many, (fun h2 => by rw [ho] at h2; cases h2), w.wlen, h.slen, set_ok2 h.lok hs, w.read, h.kok, h.has, h.cnt⟩
theorem Side.flush (h : Side r a ks K k) (ho : r.o = false) : Side r a.flush ks K 0 := by
  have w := (h.rd ho).flush
  exact ⟨w.ok, w.len, w.lies, w.out.trans ho.symm, w.many, (fun h2 => by rw [ho] at h2; cases h2), w.wlen, h.slen, h.lok, w.read, h.kok, h.has, h.cnt⟩
theorem getD_set {l : List Bool} {n j : Nat} {b : Bool} (hn : n < l.length) : (l.set n b).getD j false = if j = n then b else l.getD j false := by
  rw [List.getD_eq_getElem?_getD, List.getD_eq_getElem?_getD, List.getElem?_set]
  by_cases e : n = j
  · subst e; simp [hn]
  · simp [e, Ne.symm e]
theorem countP_set2 {l : List Bool} {n : Nat} {b : Bool} (hn : n < l.length) : (l.set n b).countP id + (if l.getD n false then 1 else 0) = l.countP id + (if b then 1 else 0) := by
  have := List.countP_set (p := id) (a := b) hn
  have hg : l.getD n false = l[n] := by rw [List.getD_eq_getElem?_getD, List.getElem?_eq_getElem hn]; rfl
  have hp : l[n] = true → 0 < l.countP id := fun h => List.countP_pos_iff.2 ⟨_, List.getElem_mem hn, h⟩
  rw [hg, this]
  simp only [id]
  cases hb : l[n]
  · simp
  · have := hp hb
    simp; omega
theorem Side.unmark (h : Side r a ks K k) (hn : n < K) : Side { r with s := r.s.set n false } a (kDel ks n) K k := by
  have hl : n < r.s.length := by have := h.slen; omega
  refine { h with slen := by simpa using h.slen, kok := h.kok.del, has := fun j => ?_, cnt := ?_ }
  · rw [kHas_del h.kok, h.has]
    simp only
    rw [getD_set hl]
    by_cases hj : 0 ≤ j
    · obtain ⟨j, rfl⟩ : ∃ m : Nat, j = m := ⟨j.toNat, by omega⟩
      simp only [Int.toNat_natCast]
      by_cases e : j = n
      · subst e; simp
      · have : ¬ ((j : Int) = n) := by omega
        simp [e, this]
    · simp [hj]
  · have h1 := kDel_len2 (ks := ks) (k := (n : Int))
    have h2 := countP_set2 (b := false) hl
    have h3 := h.has (n : Int)
    have h4 := h.cnt
    simp only [Int.toNat_natCast] at h3
    rw [show decide ((0 : Int) ≤ n) = true from by simp, Bool.true_and] at h3
    rw [h3] at h1
    simp only [Rs.cnt] at h4 ⊢
    simp only [Bool.false_eq_true, if_false] at h2
    omega
theorem Side.mark {c : Nat} (h : Side r a ks K k) (hn : n < K) : Side { r with s := r.s.set n true } a (kPut ks c n) K k := by
  have hl : n < r.s.length := by have := h.slen; omega
  refine { h with slen := by simpa using h.slen, kok := h.kok.put, has := fun j => ?_, cnt := ?_ }
  · rw [kHas_put, h.has]
    simp only
    rw [getD_set hl]
    by_cases hj : 0 ≤ j
    · obtain ⟨j, rfl⟩ : ∃ m : Nat, j = m := ⟨j.toNat, by omega⟩
      simp only [Int.toNat_natCast]
      by_cases e : j = n
      · subst e; simp
      · have : ¬ ((j : Int) = n) := by omega
        simp [e, this]
    · have : ¬ (j = (n : Int)) := by omega
      simp [hj, this]
  · have h1 := kPut_len (ks := ks) (k := (n : Int)) (c := c)
    have h2 := countP_set2 (b := true) hl
    have h3 := h.has (n : Int)
    have h4 := h.cnt
    simp only [Int.toNat_natCast] at h3
    rw [show decide ((0 : Int) ≤ n) = true from by simp, Bool.true_and] at h3
    rw [h3] at h1
    simp only [Rs.cnt] at h4 ⊢
    simp only [if_true] at h2
    cases hb : r.s.getD n false
    · rw [hb] at h1 h2; simp at h1 h2; omega
    · rw [hb] at h1 h2; simp at h1 h2; omega
theorem Side.stable (h : Side r a ks K 0) : a.Q = [] ∧ a.S = r.l := by
  have hq : a.Q = [] := List.eq_nil_of_length_eq_zero (Nat.le_zero.1 h.many)
  refine ⟨hq, ?_⟩
  apply List.ext_getElem?
  intro j
  by_cases hj : j < K
  · have g := h.get hj
    have := h.read j _ g
    rw [g, ← this]
    have hl : j < a.S.length := by have := h.len; omega
    simp [Ab.read, hq, lastW, List.getD, hl]
  · rw [List.getElem?_eq_none (by have := h.len; omega), List.getElem?_eq_none (by have := h.rlen; omega)]
theorem read_nil {a : Ab} (h : a.Q = []) (n : Nat) : a.read n = a.S.getD n [] := by simp [Ab.read, h, lastW]
theorem Side.outs {on : Bool} (h : Side r a ks K 0) : Side { r with o := on } (a.outs on) ks K 0 := by
  obtain ⟨hq, hS⟩ := h.stable
  have e : a.outs on = { a with out := on } := by cases on <;> simp [Ab.outs, hq]
  rw [e]
  exact ⟨h.ok, h.len, h.lies, rfl, h.many, fun _ => hq, h.rlen, h.slen, h.lok, h.read, h.kok, h.has, h.cnt⟩
theorem Side.rot {j : Nat} {c : UInt8} (h : Side r a ks K 0) (hn : n < K) : Side { r with l := r.l.set n (rotB (r.at n) j c) } (a.rot n j c) ks K 0 := by
  obtain ⟨hq, hS⟩ := h.stable
  have g := h.get hn
  have hg : a.S.getD n [] = r.at n := by rw [hS]; rfl
  refine ⟨Ab.rot_ok h.ok (by rw [h.len]; exact hn), by simp [Ab.rot, h.len], h.lies, h.out, by simp [Ab.rot, hq], fun _ => hq, by simpa using h.rlen, h.slen, set_ok2 h.lok (rotB_len.trans (h.atlen hn)), fun i u hu => ?_, h.kok, h.has, h.cnt⟩
  rw [read_nil (by simpa [Ab.rot] using hq)]
  simp only [Ab.rot]
  rw [hg, hS]
  simp only at hu
  rw [show (r.at n).set j ((r.at n).getD j 0 ^^^ c) = rotB (r.at n) j c from rfl, List.getD_eq_getElem?_getD, hu]; rfl
end
/-! ### Both -/
structure Rel (A : Da) (m : Mi) (r : Rm) (K k0 k1 : Nat) : Prop where
  calm : A.calm
  x : Side r.x A.a m.k0 K k0
  y : Side r.y A.b m.k1 K k1
  n : m.n = K
section
variable {A : Da} {m : Mi} {r : Rm} {K k0 k1 : Nat} {s : Sec} {ask : Da → Bool → Bool} {p : Int → Sec → Bool}
theorem Rel.sd (h : Rel A m r K k0 k1) (i : Bool) : Side (r.sd i) (A.dev i) (m.ks i) K (pick2 i k0 k1) := by
  cases i
  · exact h.x
  · exact h.y
theorem Rel.mono {j0 j1 : Nat} (h : Rel A m r K k0 k1) (h0 : k0 ≤ j0) (h1 : k1 ≤ j1) : Rel A m r K j0 j1 := ⟨h.calm, h.x.mono h0, h.y.mono h1, h.n⟩
theorem Rel.thr (h : Rel A m r K k0 k1) (i : Bool) : Sl.thr A i = !(r.sd i).o := by
  unfold Sl.thr Ab.down
  rw [(h.sd i).out, (Da.calm_pow h.calm i).1]
  simp
theorem Rel.has (h : Rel A m r K k0 k1) (n : Int) : m.has n = r.has n := by
  unfold Mi.has Rm.has
  rw [h.n, h.x.rlen]
theorem Rel.hasK (h : Rel A m r K k0 k1) (n : Int) : r.has n = (decide (0 ≤ n) && decide (n < K)) := by
  unfold Rm.has
  rw [h.x.rlen]
theorem Rel.reads (h : Rel A m r K k0 k1) (i : Bool) {n : Nat} (hn : n < K) (ho : (r.sd i).o = false) : A.rS i (n : Int) = (r.sd i).at n ∧ A.rE i (n : Int) = 0 := by
  obtain ⟨h1, h2⟩ := Da.read_calm h.calm i (n : Int)
  have hd := h.sd i
  have hh : (A.dev i).has (n : Int) = true := by simp only [Ab.has, hd.len]; simp; omega
  rw [h1, h2, hd.out, ho, hh]
  exact ⟨by simpa using hd.read n _ (hd.get hn), rfl⟩
theorem Rel.writes (h : Rel A m r K k0 k1) (i : Bool) {n : Nat} (hn : n < K) (ho : (r.sd i).o = false) : A.wE i (n : Int) = 0 ∧ A.write i (n : Int) s = A.setd i ((A.dev i).push n s) := by
  obtain ⟨h1, h2⟩ := Da.write_calm h.calm i (n : Int) s
  have hd := h.sd i
  have hh : (A.dev i).has (n : Int) = true := by simp only [Ab.has, hd.len]; simp; omega
  rw [hd.out, ho, hh] at h1 h2
  exact ⟨by simpa using h2, by simpa using h1⟩
theorem Rel.setd (h : Rel A m r K k0 k1) (i : Bool) {z : Rs} {a : Ab} {k : Nat} (hs : Side z a (m.ks i) K k) : Rel (A.setd i a) m (r.put i z) K (if i then k0 else k) (if i then k else k1) := by
  have hc := Da.calm_setd h.calm i a
  cases i
  · exact ⟨hc, hs, h.y, h.n⟩
  · exact ⟨hc, h.x, hs, h.n⟩
/-- A side's part of a write. -/
def AskRel (n : Int) (s : Sec) (ask : Da → Bool → Bool) : Prop := ∀ A m r K k0 k1, Rel A m r K k0 k1 → ∀ i, (r.sd i).o = false → m.has n = true → ask A i = false → (r.sd i).l[n.toNat]? = some s
theorem askrel_all (n : Int) (s : Sec) : AskRel n s askAll := fun A m r K k0 k1 h i ho hn hi => by cases hi
theorem askrel_new (n : Int) (s : Sec) : AskRel n s (askNew n s) := fun A m r K k0 k1 h i ho hn hi => by
  have hb := h.has n
  rw [hn, h.hasK] at hb
  obtain ⟨k, rfl⟩ : ∃ k : Nat, n = k := ⟨n.toNat, by have := hb.symm; simp at this; omega⟩
  have hk : k < K := by have := hb.symm; simp at this; omega
  obtain ⟨r0, e0⟩ := h.reads i hk ho
  unfold askNew at hi
  rw [r0, e0] at hi
  have : (r.sd i).at k = s := by simpa using hi
  rw [Int.toNat_natCast, ← this]
  exact (h.sd i).get hk
theorem Rel.side (h : Rel A m r K k0 k1) (i : Bool) {n : Nat} (hn : n < K) (hs : s.length = 128) (ha : AskRel n s ask) :
    pd A i ask n = !(r.sd i).o ∧ Rel (pA A i ask n s) m (r.put i ((r.sd i).wl n s)) K (if i then k0 else k0 + 1) (if i then k1 + 1 else k1) := by
  have hm : m.has (n : Int) = true := by rw [h.has, h.hasK]; simp; omega
  unfold pd pA
  rw [h.thr i]
  cases ho : (r.sd i).o
  · have ew := Rs.wl_in (n := n) (s := s) ho
    rw [ew]
    simp only [Bool.not_false, Bool.true_and, Bool.false_eq_true, if_false]
    obtain ⟨w1, w2⟩ := h.writes (s := s) i hn ho
    cases hk : ask A i
    · have hX := ha _ _ _ _ _ _ h i ho hm hk
      rw [Int.toNat_natCast] at hX
      refine ⟨by simp, ?_⟩
      simp only [Bool.false_eq_true, if_false]
      rw [set_self hX]
      have e : r.put i (r.sd i) = r := by cases i <;> rfl
      rw [show ({ r.sd i with l := (r.sd i).l } : Rs) = r.sd i from rfl, e]
      cases i
      · exact h.mono (Nat.le_succ _) (Nat.le_refl _)
      · exact h.mono (Nat.le_refl _) (Nat.le_succ _)
    · refine ⟨by simp [w1], ?_⟩
      simp only [if_true]
      rw [w2]
      have := h.setd i ((h.sd i).push ho hn hs)
      cases i <;> exact this
  · have ew := Rs.wl_out (n := n) (s := s) ho
    have e : r.put i (r.sd i) = r := by cases i <;> rfl
    rw [ew, e]
    simp only [Bool.not_true, Bool.false_and, Bool.false_eq_true, if_false, if_true]
    refine ⟨trivial, ?_⟩
    cases i
    · exact h.mono (Nat.le_succ _) (Nat.le_refl _)
    · exact h.mono (Nat.le_refl _) (Nat.le_succ _)
theorem Rel.put (h : Rel A m r K k0 k1) (n : Int) (hs : s.length = 128) (ha : AskRel n s ask) :
    putE m A ask n s = r.writeE n ∧ Rel (putDa m A ask n s) (putm m A ask n s) (r.write n s) K (k0 + 1) (k1 + 1) := by
  unfold putE putDa putm Rm.writeE Rm.write
  rw [h.has]
  cases hb : r.has n
  · simp only [Bool.false_eq_true, if_false, Bool.false_and]
    exact ⟨trivial, h.mono (Nat.le_succ _) (Nat.le_succ _)⟩
  · rw [h.hasK] at hb
    obtain ⟨n, rfl⟩ : ∃ k : Nat, n = k := ⟨n.toNat, by simp at hb; omega⟩
    have hn : n < K := by simp at hb; omega
    obtain ⟨d0, v0⟩ := h.side false hn hs ha
    simp only [Bool.false_eq_true, if_false] at v0
    obtain ⟨d1, v1⟩ := v0.side true hn hs ha
    simp only [if_true] at v1
    have e1 : ((r.put false ((r.sd false).wl n s)).sd true) = r.y := rfl
    rw [e1] at d1 v1
    have eD0 : putD A ask n s false = !r.x.o := d0
    have eD1 : putD A ask n s true = !r.y.o := d1
    rw [eD0, eD1]
    simp only [if_true, Bool.true_and, Int.toNat_natCast]
    have e2 : (Rm.put (r.put false ((r.sd false).wl n s)) true (r.y.wl n s)) = ⟨r.x.wl n s, r.y.wl n s⟩ := rfl
    rw [e2] at v1
    unfold putA
    cases hx : r.x.o <;> cases hy : r.y.o
    all_goals simp only [Bool.not_false, Bool.not_true, Bool.or_true, Bool.true_or, Bool.or_false, Bool.false_or, Bool.and_self, Bool.and_true, Bool.and_false, Bool.true_and, Bool.false_and, if_true, if_false, Bool.false_eq_true, Bool.or_self]
    · refine ⟨trivial, v1.calm, ?_, ?_, v1.n⟩
      · have := v1.x.unmark hn; simp only [Rs.wr, hx]; exact this
      · have := v1.y.unmark hn; simp only [Rs.wr, hy]; exact this
    · refine ⟨trivial, v1.calm, ?_, ?_, v1.n⟩
      · have := v1.x.unmark hn; simp only [Rs.wr, hx]; exact this
      · have := v1.y.mark (c := m.c1) hn; simp only [Rs.wr, hy]; exact this
    · refine ⟨trivial, v1.calm, ?_, ?_, v1.n⟩
      · have := v1.x.mark (c := m.c0) hn; simp only [Rs.wr, hx]; exact this
      · have := v1.y.unmark hn; simp only [Rs.wr, hy]; exact this
    · refine ⟨trivial, ?_⟩
      have e3 : (⟨r.x.wl n s, r.y.wl n s⟩ : Rm) = r := by rw [Rs.wl_out hx, Rs.wl_out hy]
      rw [e3] at v1
      exact v1
theorem Rel.flush1 (h : Rel A m r K k0 k1) (i : Bool) (ho : (r.sd i).o = false) : A.fE i = 0 ∧ Rel (A.flush i) m r K (if i then k0 else 0) (if i then 0 else k1) := by
  obtain ⟨h1, h2⟩ := Da.flush_calm h.calm i
  rw [(h.sd i).out, ho] at h1 h2
  refine ⟨by simpa using h2, ?_⟩
  have hw : A.flush i = A.setd i (A.dev i).flush := by simpa using h1
  rw [hw]
  have := h.setd i ((h.sd i).flush ho)
  have e : r.put i (r.sd i) = r := by cases i <;> rfl
  rw [e] at this
  exact this
theorem Rel.mfl (h : Rel A m r K k0 k1) : (Sl.mfl A).2 = (if r.x.o && r.y.o then 13 else 0) ∧ Rel (Sl.mfl A).1 m r K 0 0 := by
  unfold Sl.mfl fl1
  rw [h.thr false, h.thr true]
  show _ = (if (r.sd false).o && (r.sd true).o then 13 else 0) ∧ _
  cases hx : (r.sd false).o <;> cases hy : (r.sd true).o
  all_goals simp only [Bool.not_false, Bool.not_true, if_true, if_false, Bool.false_eq_true, Bool.and_self, Bool.and_true, Bool.and_false]
  · obtain ⟨e0, v0⟩ := h.flush1 false hx
    obtain ⟨e1, v1⟩ := v0.flush1 true hy
    simp only [Bool.false_eq_true, if_false, if_true] at v1
    rw [e0]
    simp only [if_true]
    rw [e1]
    exact ⟨by simp, v1⟩
  · obtain ⟨e0, v0⟩ := h.flush1 false hx
    simp only [Bool.false_eq_true, if_false] at v0
    rw [e0]
    exact ⟨by simp, v0.calm, v0.x, v0.y.idle hy, v0.n⟩
  · obtain ⟨e1, v1⟩ := h.flush1 true hy
    simp only [if_true] at v1
    rw [e1]
    exact ⟨by simp, v1.calm, v1.x.idle hx, v1.y, v1.n⟩
  · exact ⟨trivial, h.calm, h.x.idle hx, h.y.idle hy, h.n⟩
theorem Rel.okAt (h : Rel A m r K k0 k1) (i : Bool) {n : Nat} (hn : n < K) (ho : (r.sd i).o = false) : Sl.okAt A i (m.ks i) p n = (r.sd i).tells p n := by
  obtain ⟨r0, e0⟩ := h.reads i hn ho
  unfold Sl.okAt Rs.tells Rs.old
  rw [r0, e0, (h.sd i).has]
  simp
theorem Rel.read (h : Rel A m r K k0 k1) (n : Int) : mrE m A p n = r.readE p n ∧ mrS m A p n = r.readS p n := by
  unfold mrE mrS Rm.readE Rm.readS
  rw [h.has]
  cases hb : r.has n
  · simp
  · rw [h.hasK] at hb
    obtain ⟨n, rfl⟩ : ∃ k : Nat, n = k := ⟨n.toNat, by simp at hb; omega⟩
    have hn : n < K := by simp at hb; omega
    rw [h.thr false, h.thr true]
    have a0 := h.okAt (p := p) false hn
    have a1 := h.okAt (p := p) true hn
    have r0 := h.reads false hn
    have r1 := h.reads true hn
    simp only [Int.toNat_natCast, if_true]
    show (if (!r.x.o || !r.y.o) = true then _ else _) = _ ∧ _
    simp only [Rm.sd] at a0 a1 r0 r1 ⊢
    simp only [Mi.ks] at a0 a1
    rcases tf r.x.o with hx | hx <;> rcases tf r.y.o with hy | hy
    · rw [a0 hx, a1 hy, (r0 hx).1, (r1 hy).1]; simp [hx, hy]
    · rw [a0 hx, (r0 hx).1]; simp [hx, hy]
    · rw [a1 hy, (r1 hy).1]; simp [hx, hy]
    · simp [hx, hy]
theorem Rel.copy (h : Rel A m r K k0 k1) (i : Bool) {n : Nat} (hn : n < K) (ho : (r.sd i).o = false) (hs : s.length = 128) :
    A.wE i n = 0 ∧ Rel (A.write i n s) (m.del i n) (r.put i ((r.sd i).copy n s)) K (if i then k0 else k0 + 1) (if i then k1 + 1 else k1) := by
  obtain ⟨w1, w2⟩ := h.writes (s := s) i hn ho
  refine ⟨w1, ?_⟩
  rw [w2]
  have hc := Da.calm_setd h.calm i ((A.dev i).push n s)
  have := ((h.sd i).push ho hn hs).unmark hn
  cases i
  · exact ⟨hc, this, h.y, h.n⟩
  · exact ⟨hc, h.x, this, h.n⟩
theorem Rel.heal (h : Rel A m r K k0 k1) (n : Int) : Sl.healR m A p n = r.healR p n ∧ Rel (healA m A p n) (healM m A p n) (r.heal p n) K (k0 + 1) (k1 + 1) := by
  have hr : Sl.healR m A p n = r.healR p n ∧ Sl.healTo m A p n = r.healTo p n := by
    unfold Sl.healR Sl.healTo Rm.healR Rm.healTo
    rw [h.has]
    cases hb : r.has n
    · simp
    · rw [h.hasK] at hb
      obtain ⟨n, rfl⟩ : ∃ k : Nat, n = k := ⟨n.toNat, by simp at hb; omega⟩
      have hn : n < K := by simp at hb; omega
      rw [h.thr false, h.thr true]
      simp only [Rm.sd, Int.toNat_natCast, if_true]
      rcases tf r.x.o with hx | hx <;> rcases tf r.y.o with hy | hy
      · obtain ⟨r0, _⟩ := h.reads false hn hx
        obtain ⟨r1, _⟩ := h.reads true hn hy
        have g0 : hg0 m A p n = r.x.tells p n := by unfold hg0 Rs.tells Rs.old; rw [r0, h.x.has]; simp [Rm.sd]
        have g1 : hg1 m A p n = r.y.tells p n := by unfold hg1 Rs.tells Rs.old; rw [r1, h.y.has]; simp [Rm.sd]
        rw [g0, g1, r0, r1]
        exact ⟨rfl, rfl⟩
      all_goals simp [hx, hy]
  refine ⟨hr.1, ?_⟩
  unfold healA healM Rm.heal
  rw [hr.2]
  cases ht : r.healTo p n with
  | none => exact h.mono (Nat.le_succ _) (Nat.le_succ _)
  | some i =>
    have hb : r.has n = true ∧ r.x.o = false ∧ r.y.o = false := by
      unfold Rm.healTo at ht
      split at ht
      · rename_i h2; simp at h2; exact h2
      · cases ht
    obtain ⟨hb, hx, hy⟩ := hb
    rw [h.hasK] at hb
    obtain ⟨n, rfl⟩ : ∃ k : Nat, n = k := ⟨n.toNat, by simp at hb; omega⟩
    have hn : n < K := by simp at hb; omega
    have ho : ∀ i, (r.sd i).o = false := fun i => by cases i; exact hx; exact hy
    dsimp only
    rw [(h.reads (!i) hn (ho _)).1, Int.toNat_natCast]
    obtain ⟨w1, w2⟩ := h.copy i hn (ho i) ((h.sd (!i)).atlen hn)
    rw [w1]
    simp only [if_true]
    have e : (if i = true then { m with k1 := kDel m.k1 n } else { m with k0 := kDel m.k0 n }) = m.del i n := by cases i <;> rfl
    rw [e]
    refine w2.mono ?_ ?_ <;> cases i <;> simp
theorem Rel.both (h : Rel A m r K k0 k1) (n : Int) : bothS m A p n = r.both p n := by
  unfold bothS Rm.both
  rw [h.has]
  cases hb : r.has n
  · simp
  · rw [h.hasK] at hb
    obtain ⟨n, rfl⟩ : ∃ k : Nat, n = k := ⟨n.toNat, by simp at hb; omega⟩
    have hn : n < K := by simp at hb; omega
    rw [h.thr false, h.thr true]
    simp only [Rm.sd, Int.toNat_natCast, if_true]
    have r0 := h.reads false hn
    have r1 := h.reads true hn
    simp only [Rm.sd] at r0 r1
    rcases tf r.x.o with hx | hx <;> rcases tf r.y.o with hy | hy
    · rw [(r0 hx).1, (r0 hx).2, (r1 hy).1, (r1 hy).2]; simp [hx, hy]
    · rw [(r0 hx).1, (r0 hx).2]; simp [hx, hy]
    · rw [(r1 hy).1, (r1 hy).2]; simp [hx, hy]
    · simp [hx, hy]
theorem Rm.sd_put (r : Rm) (i : Bool) (z : Rs) : (r.put i z).sd i = z := by cases i <;> rfl
theorem Rm.sd_put2 (r : Rm) (i : Bool) (z : Rs) : (r.put i z).sd (!i) = r.sd (!i) := by cases i <;> rfl
theorem Rel.sy1 (h : Rel A m r K k0 k1) (i : Bool) {n : Nat} (hn : n < K) (ho : ∀ i, (r.sd i).o = false) :
    Rel (Sl.sy1 p i (A, m) n).1 (Sl.sy1 p i (A, m) n).2 (Rm.sy1 p i r n) K (k0 + 1) (k1 + 1) ∧ ∀ j, ((Rm.sy1 p i r n).sd j).o = false := by
  have e : syOk m A p i n = ((r.sd i).old n && (r.sd (!i)).tells p n) := by
    unfold syOk Rs.tells Rs.old
    obtain ⟨r0, e0⟩ := h.reads (!i) hn (ho _)
    rw [r0, e0, (h.sd i).has, (h.sd (!i)).has]
    simp [Bool.and_assoc]
  unfold Sl.sy1 Rm.sy1
  simp only
  rw [e]
  split
  · obtain ⟨w1, w2⟩ := h.copy i hn (ho i) ((h.sd (!i)).atlen hn)
    rw [(h.reads (!i) hn (ho _)).1, w1]
    simp only [if_true]
    refine ⟨w2.mono (by cases i <;> simp) (by cases i <;> simp), fun j => ?_⟩
    by_cases hj : j = i
    · subst hj; rw [Rm.sd_put]; exact ho j
    · obtain rfl : j = !i := by cases i <;> cases j <;> simp_all
      rw [Rm.sd_put2]; exact ho _
  · exact ⟨h.mono (Nat.le_succ _) (Nat.le_succ _), ho⟩
theorem Rel.syN (h : Rel A m r K k0 k1) (i : Bool) (ho : ∀ i, (r.sd i).o = false) : ∀ k, k ≤ K →
    Rel (Sl.syN p i (A, m) k).1 (Sl.syN p i (A, m) k).2 (Rm.syN p i r k) K (k0 + k) (k1 + k) ∧ ∀ j, ((Rm.syN p i r k).sd j).o = false
  | 0, _ => ⟨h, ho⟩
  | k + 1, hk => by
    obtain ⟨v, ho2⟩ := Rel.syN h i ho k (by omega)
    exact v.sy1 i (by omega) ho2
theorem Rel.sync (h : Rel A m r K k0 k1) : Sl.syncE m A p = r.syncE p ∧ Rel (syncA m A p) (syncM m A p) (r.sync p) K k0 k1 := by
  unfold Sl.syncE syncA syncM Rm.syncE Rm.sync
  rw [h.thr false, h.thr true]
  simp only [Rm.sd]
  rcases tf r.x.o with hx | hx <;> rcases tf r.y.o with hy | hy
  all_goals simp only [hx, hy, Bool.not_false, Bool.not_true, Bool.and_self, Bool.and_true, Bool.and_false, if_true, if_false, Bool.false_eq_true]
  · have ho : ∀ i, (r.sd i).o = false := fun i => by cases i; exact hx; exact hy
    obtain ⟨v, ho2⟩ := h.syN (p := p) false ho K (Nat.le_refl _)
    obtain ⟨v2, ho3⟩ := v.syN (p := p) true ho2 K (Nat.le_refl _)
    have e : syncQ m A p = ((Sl.syN p true ((Sl.syN p false (A, m) K).1, (Sl.syN p false (A, m) K).2) K)) := by unfold syncQ; rw [h.n]
    have e2 : r.syncQ p = Rm.syN p true (Rm.syN p false r K) K := by unfold Rm.syncQ; rw [h.x.rlen]
    rw [← e, ← e2] at v2
    refine ⟨?_, (v2.mfl.2).mono (Nat.zero_le _) (Nat.zero_le _)⟩
    rw [v2.x.cnt, v2.y.cnt]
  all_goals exact ⟨trivial, h⟩
theorem Rel.outs (h : Rel A m r K 0 0) (i on : Bool) : Rel (A.setd i ((A.dev i).outs on)) m (r.outs i on) K 0 0 := by
  have hs : Side (r.sd i) (A.dev i) (m.ks i) K 0 := by have := h.sd i; cases i <;> exact this
  have := h.setd i hs.outs (a := (A.dev i).outs on)
  cases i <;> exact this
theorem Rel.rot (h : Rel A m r K 0 0) (i : Bool) (n : Int) {j : Nat} {c : UInt8} (hj : j < 128) : (A.dev i).rotE n j = r.has n ∧ Rel (A.setd i ((A.dev i).rots n j c)) m (r.rot i n j c) K 0 0 := by
  have hs : Side (r.sd i) (A.dev i) (m.ks i) K 0 := by have := h.sd i; cases i <;> exact this
  have e : (A.dev i).rotE n j = r.has n := by
    unfold Ab.rotE Ab.has
    rw [hs.len, h.hasK]
    have : (decide ((0 : Int) ≤ j) && decide ((j : Int) < 128)) = true := by simp; omega
    rw [this, Bool.and_true]
  refine ⟨e, ?_⟩
  unfold Ab.rots Rm.rot
  rw [e]
  cases hb : r.has n
  · simp only [Bool.false_eq_true, if_false]
    rw [Da.setd_self]; exact h
  · rw [h.hasK] at hb
    obtain ⟨n, rfl⟩ : ∃ k : Nat, n = k := ⟨n.toNat, by simp at hb; omega⟩
    have hn : n < K := by simp at hb; omega
    simp only [if_true, Int.toNat_natCast]
    have := h.setd i (hs.rot hn (j := j) (c := c))
    cases i <;> exact this
end
end Go.Sl

/- A mirror and the document's mirror: what is kept (own work). -/
set_option linter.unusedVariables false
set_option linter.unusedSimpArgs false
namespace Go.Sl
structure Mq (t : DT) (gv : Value) (D : Duo) (A : Da) (m : Mi) (r : Rm) (K k0 k1 mb bx bys bp : Nat) : Prop where
  two : Two t D A bx bys bp
  rel : Rel A m r K k0 k1
  mb : m.b = mb
  bx : m.bx = bx
  bys : m.bys = bys
  gv : m.gv = gv
def MSame (m m' : Mi) : Prop := m'.b = m.b ∧ m'.bx = m.bx ∧ m'.bys = m.bys ∧ m'.gv = m.gv
theorem putm_same (m : Mi) (A : Da) (ask : Da → Bool → Bool) (n : Int) (s : Sec) : MSame m (putm m A ask n s) := by
  unfold putm MSame
  split
  · exact ⟨rfl, rfl, rfl, rfl⟩
  · exact ⟨rfl, rfl, rfl, rfl⟩
theorem healM_same2 (m : Mi) (A : Da) (p : Int → Sec → Bool) (n : Int) : MSame m (healM m A p n) := by
  obtain ⟨a, b, c, d, e⟩ := healM_same m A p n
  exact ⟨a, b, c, e⟩
theorem syN_same (p : Int → Sec → Bool) (i : Bool) (q : Da × Mi) : ∀ k, MSame q.2 (syN p i q k).2
  | 0 => ⟨rfl, rfl, rfl, rfl⟩
  | k + 1 => by
    obtain ⟨a, b, c, d⟩ := syN_same p i q k
    obtain ⟨a1, b1, c1, d1, e1⟩ := sy1_same p i (syN p i q k) k
    exact ⟨a1.trans a, b1.trans b, c1.trans c, e1.trans d⟩
theorem syncM_same (m : Mi) (A : Da) (p : Int → Sec → Bool) : MSame m (syncM m A p) := by
  unfold syncM syncQ
  split
  · obtain ⟨a, b, c, d⟩ := syN_same p false (A, m) m.n
    obtain ⟨a1, b1, c1, d1⟩ := syN_same p true (syN p false (A, m) m.n) m.n
    exact ⟨a1.trans a, b1.trans b, c1.trans c, d1.trans d⟩
  · exact ⟨rfl, rfl, rfl, rfl⟩
section
variable {t : DT} {gv : Value} {D D' : Duo} {A A' : Da} {m m' : Mi} {r r' : Rm} {K k0 k1 j0 j1 mb bx bys bp : Nat} {p : Int → Sec → Bool}
theorem Mq.with (h : Mq t gv D A m r K k0 k1 mb bx bys bp) (hT : Two t D' A' m.bx m.bys bp) (v : Rel A' m' r' K j0 j1) (e : MSame m m') : Mq t gv D' A' m' r' K j0 j1 mb bx bys bp :=
  ⟨by rw [h.bx, h.bys] at hT; exact hT, v, e.1.trans h.mb, e.2.1.trans h.bx, e.2.2.1.trans h.bys, e.2.2.2.trans h.gv⟩
theorem Mq.many {c : Nat} (h : Mq t gv D A m r K k0 k1 mb bx bys bp) (h0 : k0 ≤ c) (h1 : k1 ≤ c) (i : Bool) : (A.dev i).Q.length ≤ c := by
  cases i
  · exact Nat.le_trans (h.rel.sd false).many h0
  · exact Nat.le_trans (h.rel.sd true).many h1
theorem Mq.mono (h : Mq t gv D A m r K k0 k1 mb bx bys bp) (h0 : k0 ≤ j0) (h1 : k1 ≤ j1) : Mq t gv D A m r K j0 j1 mb bx bys bp := ⟨h.two, h.rel.mono h0 h1, h.mb, h.bx, h.bys, h.gv⟩
theorem Mq.two2 (h : Mq t gv D A m r K k0 k1 mb bx bys bp) : Two t D A m.bx m.bys bp := by rw [h.bx, h.bys]; exact h.two
theorem Rs.cnt_le (z : Rs) : z.cnt ≤ z.s.length := List.countP_le_length
theorem Rel.cnts (h : Rel A m r K k0 k1) : m.k0.length = r.x.cnt ∧ m.k1.length = r.y.cnt ∧ r.x.cnt ≤ K ∧ r.y.cnt ≤ K :=
  ⟨h.x.cnt, h.y.cnt, h.x.slen ▸ r.x.cnt_le, h.y.slen ▸ r.y.cnt_le⟩
end
theorem stN_ok (K : Nat) : kOk (stN K) := by
  unfold kOk stN
  rw [List.map_map]
  unfold List.Nodup
  rw [List.pairwise_map]
  exact List.Pairwise.imp (fun h => by simp; omega) (List.pairwise_lt_range (n := K))
theorem Side.new {K : Nat} (hK : K ≤ 4096) (o : Bool) : Side ⟨List.replicate K (secOf 0), o, List.replicate K o⟩ ((Ab.new K).outs o) (stale0 (!o) K) K 0 := by
  have w := RdW.new hK
  have e : (Ab.new K).outs o = { Ab.new K with out := o } := by cases o <;> rfl
  rw [e]
  refine ⟨w.ok, w.len, rfl, rfl, Nat.le_refl _, fun _ => rfl, by simp, by simp, fun s hs => by rw [List.eq_of_mem_replicate hs]; exact secOf_len _, w.read, ?_, fun n => ?_, ?_⟩
  · unfold stale0; split
    · exact List.nodup_nil
    · exact stN_ok K
  · cases o
    · simp only [Bool.not_false, stale0, if_true]
      rw [show kHas [] n = false from rfl, List.getD_eq_getElem?_getD, List.getElem?_replicate]
      split <;> simp
    · simp only [Bool.not_true, stale0, Bool.false_eq_true, if_false]
      rw [stN_has, List.getD_eq_getElem?_getD, List.getElem?_replicate]
      by_cases h0 : 0 ≤ n
      · by_cases h1 : n < K
        · rw [if_pos (by omega)]; simp [h0, h1]
        · rw [if_neg (by omega)]; simp [h1]
      · simp [h0]
  · cases o
    · simp [stale0, Rs.cnt, List.countP_replicate]
    · simp [stale0, Rs.cnt, stN, List.countP_replicate]
theorem Rel.new {A : Da} {K : Nat} {a b : Bool} (hK : K ≤ 4096) (hc : A.calm) (hx : A.a = (Ab.new K).outs a) (hy : A.b = (Ab.new K).outs b) (bx bys : Nat) (gv : Value) (mb r0 r1 : Nat) : Rel A (mnew A bx bys gv mb r0 r1) (Rm.new K a b) K 0 0 := by
  have la : A.a.S.length = K := by rw [hx]; cases a <;> simp [Ab.outs, Ab.new]
  have lb : A.b.S.length = K := by rw [hy]; cases b <;> simp [Ab.outs, Ab.new]
  have oa : A.a.out = a := by rw [hx]; cases a <;> rfl
  have ob : A.b.out = b := by rw [hy]; cases b <;> rfl
  have ta : Sl.thr A false = !a := by unfold Sl.thr Ab.down; rw [(Da.calm_pow hc false).1, show A.dev false = A.a from rfl, oa]; simp
  have tb : Sl.thr A true = !b := by unfold Sl.thr Ab.down; rw [(Da.calm_pow hc true).1, show A.dev true = A.b from rfl, ob]; simp
  have hm : min A.a.S.length A.b.S.length = K := by omega
  refine ⟨hc, ?_, ?_, hm⟩
  · show Side _ A.a (stale0 (Sl.thr A false) (min A.a.S.length A.b.S.length)) K 0
    rw [hm, ta, hx]; exact Side.new hK a
  · show Side _ A.b (stale0 (Sl.thr A true) (min A.a.S.length A.b.S.length)) K 0
    rw [hm, tb, hy]; exact Side.new hK b
theorem Rm.readS_len {A : Da} {m : Mi} {r : Rm} {K k0 k1 : Nat} {p : Int → Sec → Bool} (h : Rel A m r K k0 k1) (n : Int) : (r.readS p n).length = 128 := by
  unfold Rm.readS
  split
  · rename_i hb
    rw [h.hasK] at hb
    have hn : n.toNat < K := by simp at hb; omega
    split
    · exact h.x.atlen hn
    · split
      · exact h.y.atlen hn
      · exact secOf_len _
  · exact secOf_len _
/-! ### One device is enough -/
structure One (r : Rm) (want : List Sec) (p : Int → Sec → Bool) (K : Nat) : Prop where
  out : r.x.o = false
  new : ∀ n, r.x.old n = false
  len : r.x.l.length = K
  wlen : want.length = K
  ok : ∀ n : Nat, n < K → p n (want.getD n []) = true → r.x.at n = want.getD n []
section
variable {r : Rm} {want : List Sec} {p : Int → Sec → Bool} {K : Nat} {s : Sec}
theorem One.put {i : Bool} {z : Rs} (h : One r want p K) : One (r.put true z) want p K := ⟨h.out, h.new, h.len, h.wlen, h.ok⟩
theorem One.write (h : One r want p K) {n : Nat} (hn : n < K) : One (r.write n s) (want.set n s) p K ∧ r.writeE n = 0 := by
  have hb : r.has n = true := by unfold Rm.has; rw [h.len]; simp; omega
  have e : r.write n s = ⟨r.x.wr n s, r.y.wr n s⟩ := by unfold Rm.write; rw [hb, h.out]; simp
  refine ⟨?_, by unfold Rm.writeE; rw [hb, h.out]; simp⟩
  rw [e]
  have ew : r.x.wr n s = { r.x with l := r.x.l.set n s, s := r.x.s.set n false } := by unfold Rs.wr; rw [Rs.wl_in h.out, h.out]; simp only [h.out]
  rw [ew]
  refine ⟨h.out, fun j => ?_, by simpa using h.len, by simpa using h.wlen, fun j hj hp => ?_⟩
  · have := h.new j
    unfold Rs.old at this ⊢
    simp only
    rw [List.getD_eq_getElem?_getD] at this ⊢
    rw [List.getElem?_set]
    split
    · split <;> rfl
    · exact this
  · simp only [Rs.at]
    rw [List.getD_eq_getElem?_getD, List.getD_eq_getElem?_getD, List.getElem?_set, List.getElem?_set, h.len, h.wlen]
    by_cases ej : n = j
    · subst ej; simp [hn]
    · have := h.ok j hj (by rw [List.getD_eq_getElem?_getD, List.getElem?_set_ne ej, ← List.getD_eq_getElem?_getD] at hp; exact hp)
      simp only [ej, if_false]
      simpa [Rs.at, List.getD_eq_getElem?_getD] using this
theorem One.syN_x (h : One r want p K) : ∀ k, Rm.syN p false r k = r
  | 0 => rfl
  | k + 1 => by
    show Rm.sy1 p false (Rm.syN p false r k) k = r
    rw [One.syN_x h k]
    unfold Rm.sy1
    rw [show (r.sd false).old k = false from h.new k]
    rfl
theorem Rm.syN_y (r : Rm) (p : Int → Sec → Bool) : ∀ k, ∃ z, Rm.syN p true r k = r.put true z
  | 0 => ⟨r.y, rfl⟩
  | k + 1 => by
    obtain ⟨z, e⟩ := Rm.syN_y r p k
    show ∃ z, Rm.sy1 p true (Rm.syN p true r k) k = _
    rw [e]
    unfold Rm.sy1
    split
    · exact ⟨_, rfl⟩
    · exact ⟨z, rfl⟩
theorem One.sync (h : One r want p K) : One (r.sync p) want p K := by
  unfold Rm.sync
  split
  · unfold Rm.syncQ
    rw [h.syN_x]
    obtain ⟨z, e⟩ := Rm.syN_y r p r.x.l.length
    rw [e]
    exact h.put (i := true)
  · exact h
theorem One.heal (h : One r want p K) (n : Int) : One (r.heal p n) want p K := by
  unfold Rm.heal
  cases ht : r.healTo p n with
  | none => exact h
  | some i =>
    cases i
    · have hb : r.has n = true ∧ r.x.tells p n.toNat = false := by
        unfold Rm.healTo at ht
        split at ht
        · rename_i h2
          split at ht
          · split at ht <;> cases ht
          · rename_i h3; simp at h2; exact ⟨h2.1, by simpa using h3⟩
        · cases ht
      obtain ⟨hb, hx⟩ := hb
      unfold Rm.has at hb
      rw [h.len] at hb
      obtain ⟨n, rfl⟩ : ∃ k : Nat, n = k := ⟨n.toNat, by simp at hb; omega⟩
      have hn : n < K := by simp at hb; omega
      simp only [Int.toNat_natCast] at hx ⊢
      have hp : p n (r.x.at n) = false := by unfold Rs.tells at hx; rw [h.new n] at hx; simpa using hx
      refine ⟨h.out, fun j => ?_, by simpa [Rm.put, Rs.copy, Rm.sd] using h.len, h.wlen, fun j hj hq => ?_⟩
      · have := h.new j
        unfold Rs.old at this ⊢
        simp only [Rm.put, Rs.copy, Rm.sd]
        rw [List.getD_eq_getElem?_getD] at this ⊢
        rw [List.getElem?_set]
        split
        · split <;> rfl
        · exact this
      · have hj2 := h.ok j hj hq
        by_cases ej : n = j
        · subst ej
          rw [hj2, hq] at hp; cases hp
        · simp only [Rm.put, Rs.copy, Rm.sd, Rs.at] at hj2 ⊢
          rw [List.getD_eq_getElem?_getD, List.getElem?_set_ne ej, ← List.getD_eq_getElem?_getD]; exact hj2
    · exact h.put (i := true)
theorem One.outs (h : One r want p K) (on : Bool) : One (r.outs true on) want p K := h.put (i := true)
theorem One.rot (h : One r want p K) (n : Int) (j : Nat) (c : UInt8) : One (r.rot true n j c) want p K := by
  unfold Rm.rot
  split
  · exact h.put (i := true)
  · exact h
/-- What the law asks at the end. -/
theorem One.tells (h : One r want p K) {n : Nat} (hn : n < K) : (p n (want.getD n []) = true → r.readE p n = 0 ∧ r.readS p n = want.getD n []) ∧ (p n (want.getD n []) = false → r.readE p n = 0 → r.readS p n ≠ want.getD n []) := by
  have hb : r.has n = true := by unfold Rm.has; rw [h.len]; simp; omega
  have hx : r.x.tells p n = p n (r.x.at n) := by unfold Rs.tells; rw [h.new]; simp
  unfold Rm.readE Rm.readS
  rw [hb, h.out]
  simp only [if_true, Int.toNat_natCast, Bool.false_and, Bool.false_eq_true, if_false, Bool.not_false, Bool.true_and]
  rw [hx]
  refine ⟨fun hp => ?_, fun hp he hs => ?_⟩
  · rw [h.ok n hn hp, hp]
    simp
  · split at he
    · rename_i h1
      rw [if_pos h1] at hs
      rw [hs, hp] at h1; cases h1
    · rename_i h1
      split at he
      · rename_i h2
        rw [if_neg h1, if_pos h2] at hs
        simp only [Bool.and_eq_true, Rs.tells] at h2
        rw [hs, hp] at h2; simp at h2
      · cases he
end
end Go.Sl

/- The acts of the mirror's laws (own work). -/
set_option linter.unusedVariables false
set_option linter.unusedSimpArgs false
namespace Go.Sl
structure ActM where
  kind : Int
  n : Int
  x : UInt8
  y : UInt8
  on : Bool
abbrev acells (a : ActM) : List Value := [.int .i64 a.kind, .int .i64 a.n, .int .u8 (a.x.toNat : Int), .int .u8 (a.y.toNat : Int), .bool a.on]
def acts (l : List ActM) : List Value := (l.map acells).flatten
theorem acts_len (l : List ActM) : (acts l).length = l.length * 5 := by
  induction l with
  | nil => rfl
  | cons x l ih => simp only [acts, List.map_cons, List.flatten_cons, List.length_append, List.length_cons] at ih ⊢; rw [ih]; simp; omega
theorem acts_get : ∀ {l : List ActM} {i : Nat} {a : ActM}, l[i]? = some a → ((acts l).drop (i * 5)).take 5 = acells a
  | [], i, a, h => by simp at h
  | b :: l, 0, a, h => by
    simp at h; subst h
    simp only [acts, List.map_cons, List.flatten_cons, Nat.zero_mul, List.drop_zero]
    rfl
  | b :: l, i + 1, a, h => by
    simp only [List.getElem?_cons_succ] at h
    have := acts_get h
    simp only [acts, List.map_cons, List.flatten_cons] at this ⊢
    rw [show (i + 1) * 5 = 5 + i * 5 by omega, ← List.drop_drop]
    exact this
theorem act_at {l : List Value} {off i : Nat} {al : List ActM} {a : ActM} (hv : (l.drop off).take (acts al).length = acts al) (hi : al[i]? = some a) : (l.drop (off + i * 5)).take 5 = acells a := by
  have hlt := (List.getElem?_eq_some_iff.1 hi).1
  rw [← acts_get hi, ← hv, List.drop_take, List.take_take, List.drop_drop, acts_len]
  congr 1
  omega
/-- What is kept through MirrorOne. -/
structure OneS (r : Rm) (want : List Sec) (p : Int → Sec → Bool) (K : Nat) : Prop where
  one : One r want p K
  wok : ∀ s ∈ want, s.length = 128
end Go.Sl

/- The document's mirror in memory (own work). -/
set_option linter.unusedVariables false
set_option linter.unusedSimpArgs false
namespace Go.Sl
def bls (l : List Bool) : List Value := l.map Value.bool
theorem bls_len (l : List Bool) : (bls l).length = l.length := by simp [bls]
theorem bls_get {l : List Bool} {n : Nat} (h : n < l.length) : (bls l)[n]? = some (.bool (l.getD n false)) := by
  simp [bls, List.getD_eq_getElem?_getD, h]
theorem bls_set {l : List Bool} {n : Nat} {b : Bool} : (bls l).set n (.bool b) = bls (l.set n b) := by simp [bls, List.map_set]
theorem zbls (k : Nat) : zcells [Value.bool false] k = bls (List.replicate k false) := by
  unfold zcells bls
  induction k with
  | zero => rfl
  | succ k ih => simp only [List.replicate_succ, List.flatten_cons, List.map_cons, ih]; rfl
structure Ro where
  b : Nat
  l0 : Nat
  l1 : Nat
  s0 : Nat
  s1 : Nat
abbrev slB (b K : Nat) : Value := .slice (some ⟨b, 0, none⟩) K K
abbrev Ro.cells (o : Ro) (K : Nat) (r : Rm) : List Value := [slB o.l0 K, slB o.l1 K, .bool r.x.o, .bool r.y.o, slB o.s0 K, slB o.s1 K]
abbrev lseg (t b : Nat) (l : List Sec) : List (Nat × Obj) := [(b, .cells (bs l.flatten).toArray t)]
abbrev sseg (t b : Nat) (l : List Bool) : List (Nat × Obj) := [(b, .cells (bls l).toArray t)]
abbrev Ro.hp (tm ts tb : Nat) (o : Ro) (K : Nat) (r : Rm) (H : Hp) : Hp := [(o.b, .cells (o.cells K r).toArray tm)] :: lseg ts o.l0 r.x.l :: lseg ts o.l1 r.y.l :: sseg tb o.s0 r.x.s :: sseg tb o.s1 r.y.s :: H
structure RmOk (r : Rm) (K : Nat) : Prop where
  l0 : r.x.l.length = K
  l1 : r.y.l.length = K
  s0 : r.x.s.length = K
  s1 : r.y.s.length = K
  ok0 : ∀ s ∈ r.x.l, s.length = 128
  ok1 : ∀ s ∈ r.y.l, s.length = 128
  le : K ≤ 4096
theorem Rel.ok {A : Da} {m : Mi} {r : Rm} {K k0 k1 : Nat} (h : Rel A m r K k0 k1) (hK : K ≤ 4096) : RmOk r K := ⟨h.x.rlen, h.y.rlen, h.x.slen, h.y.slen, h.x.lok, h.y.lok, hK⟩
section
variable {K n : Nat} {l : List Sec} {s : Sec}
theorem lget (h : l.length = K) (hn : n < K) : l[n]? = some (l.getD n []) := by
  rw [List.getD_eq_getElem?_getD, List.getElem?_eq_getElem (by omega)]; rfl
theorem lget_len (h : l.length = K) (hn : n < K) (ok : ∀ s ∈ l, s.length = 128) : (l.getD n []).length = 128 := ok _ (List.mem_of_getElem? (lget h hn))
theorem lseg_at (h : l.length = K) (hn : n < K) (ok : ∀ s ∈ l, s.length = 128) : ((bs l.flatten).drop (n * 128)).take 128 = bs (l.getD n []) := by
  have := sec_at (l := bs l.flatten) (off := 0) (n := 0) (i := n) ok (by simp) (lget h hn)
  rwa [Nat.zero_add] at this
theorem lseg_le (h : l.length = K) (hn : n < K) (ok : ∀ s ∈ l, s.length = 128) : n * 128 + 128 ≤ (bs l.flatten).length := by
  rw [bs_length, flat_len ok, h]; omega
end
/-! ### Counting what is stale -/
def ck (l : List Bool) (k : Nat) : Nat := (l.take k).countP id
theorem ck_succ {l : List Bool} {k : Nat} (h : k < l.length) : ck l (k + 1) = ck l k + (if l.getD k false then 1 else 0) := by
  unfold ck
  rw [List.take_succ_eq_append_getElem h, List.countP_append]
  simp [List.getD_eq_getElem?_getD, h, List.countP_cons]
theorem ck_le (l : List Bool) (k : Nat) : ck l k ≤ k := by
  unfold ck
  exact Nat.le_trans List.countP_le_length (List.length_take_le _ _)
theorem ck_all {l : List Bool} {k : Nat} (h : l.length = k) : ck l k = l.countP id := by
  unfold ck; rw [List.take_of_length_le (by omega)]
theorem ck_set {l : List Bool} {k j : Nat} {b : Bool} (h : k ≤ j) : ck (l.set j b) k = ck l k := by
  unfold ck
  rw [List.take_set_of_le h]
/-! ### What sync does to one side -/
section
variable {r : Rm} {p : Int → Sec → Bool} {K : Nat}
theorem RmOk.copy (h : RmOk r K) (i : Bool) (n : Nat) {s : Sec} (hs : s.length = 128) : RmOk (r.put i ((r.sd i).copy n s)) K := by
  cases i
  · exact ⟨by simpa [Rm.put, Rs.copy, Rm.sd] using h.l0, h.l1, by simpa [Rm.put, Rs.copy, Rm.sd] using h.s0, h.s1, set_ok2 h.ok0 hs, h.ok1, h.le⟩
  · exact ⟨h.l0, by simpa [Rm.put, Rs.copy, Rm.sd] using h.l1, h.s0, by simpa [Rm.put, Rs.copy, Rm.sd] using h.s1, h.ok0, set_ok2 h.ok1 hs, h.le⟩
theorem RmOk.atlen (h : RmOk r K) (i : Bool) {n : Nat} (hn : n < K) : ((r.sd i).at n).length = 128 := by
  cases i
  · exact lget_len h.l0 hn h.ok0
  · exact lget_len h.l1 hn h.ok1
theorem RmOk.sy1 (h : RmOk r K) (i : Bool) {n : Nat} (hn : n < K) : RmOk (Rm.sy1 p i r n) K := by
  unfold Rm.sy1
  split
  · exact h.copy i n (h.atlen _ hn)
  · exact h
theorem RmOk.syN (h : RmOk r K) (i : Bool) : ∀ k, k ≤ K → RmOk (Rm.syN p i r k) K
  | 0, _ => h
  | k + 1, hk => (RmOk.syN h i k (by omega)).sy1 i (by omega)
end
def mix (o : Bool) (i K : Nat) : List Bool := List.replicate i o ++ List.replicate (K - i) false
theorem mix_len {o : Bool} {i K : Nat} (h : i ≤ K) : (mix o i K).length = K := by simp [mix]; omega
theorem mix_set {o : Bool} {i K : Nat} (h : i < K) : (mix o i K).set i o = mix o (i + 1) K := by
  unfold mix
  rw [List.set_append_right _ _ (by simp), List.length_replicate, Nat.sub_self, show K - i = (K - (i + 1)) + 1 by omega, List.replicate_succ, List.set_cons_zero, List.replicate_succ']
  simp
theorem mix_0 (o : Bool) (K : Nat) : mix o 0 K = List.replicate K false := by simp [mix]
theorem mix_all (o : Bool) (K : Nat) : mix o K K = List.replicate K o := by simp [mix]
theorem Rm.syN_x (r : Rm) (p : Int → Sec → Bool) (k : Nat) : (Rm.syN p true r k).x = r.x := by
  obtain ⟨z, e⟩ := Rm.syN_y r p k
  rw [e]; rfl
theorem sync_of {r : Rm} {K : Nat} (ok : RmOk r K) (hx : r.x.o = false) (hy : r.y.o = false) (p : Int → Sec → Bool) :
    r.sync p = Rm.syN p true (Rm.syN p false r K) K ∧ r.syncE p = (if ck (Rm.syN p false r K).x.s K + ck (Rm.syN p true (Rm.syN p false r K) K).y.s K = 0 then 0 else 9) := by
  have h1 := ok.syN (p := p) false K (Nat.le_refl _)
  have h2 := h1.syN (p := p) true K (Nat.le_refl _)
  unfold Rm.sync Rm.syncE Rm.syncQ
  rw [hx, hy, ok.l0, ck_all h1.s0, ck_all h2.s1]
  simp only [Bool.not_false, Bool.and_self, if_true]
  refine ⟨trivial, ?_⟩
  unfold Rs.cnt
  rw [Rm.syN_x]
/-! ### A byte that rots -/
section
variable {l : List Sec} {K n j : Nat} {y : UInt8}
theorem rot_get (h : l.length = K) (hn : n < K) (ok : ∀ s ∈ l, s.length = 128) (hj : j < 128) : (bs l.flatten)[n * 128 + j]? = some (u8 ((l.getD n []).getD j 0)) := by
  have hs := lget h hn
  have hl := lget_len h hn ok
  have hv : (l.getD n [])[j]? = some ((l.getD n []).getD j 0) := by
    rw [List.getD_eq_getElem?_getD (l := l.getD n []), List.getElem?_eq_getElem (by omega)]; rfl
  rw [bs_get, flat_at ok hs hj, hv]; rfl
theorem rot_set (h : l.length = K) (hn : n < K) (ok : ∀ s ∈ l, s.length = 128) (hj : j < 128) : (bs l.flatten).set (n * 128 + j) (u8 ((l.getD n []).getD j 0 ^^^ y)) = bs (l.set n (rotB (l.getD n []) j y)).flatten := by
  rw [bs_set, flat_byte ok (lget h hn) hj]; rfl
end
theorem rot_is {r : Rm} {i : Bool} {n : Nat} (hb : r.has (n : Int) = true) (j : Nat) (y : UInt8) : r.rot i (n : Int) j y = r.put i { r.sd i with l := (r.sd i).l.set n (rotB ((r.sd i).l.getD n []) j y) } := by
  unfold Rm.rot; rw [hb]; rfl
theorem rot_no {r : Rm} {i : Bool} {n : Int} (hb : r.has n = false) (j : Nat) (y : UInt8) : r.rot i n j y = r := by unfold Rm.rot; rw [hb]; rfl
theorem Rm.both_ok {r : Rm} {K : Nat} {p : Int → Sec → Bool} (h : RmOk r K) (n : Int) : (∀ s ∈ r.both p n, s.length = 128) ∧ (r.both p n).length ≤ 4096 := by
  unfold Rm.both
  split
  · rename_i hb
    have hn : n.toNat < K := by unfold Rm.has at hb; rw [h.l0] at hb; simp at hb; omega
    have a0 := lget_len h.l0 hn h.ok0
    have a1 := lget_len h.l1 hn h.ok1
    constructor
    · intro s hs
      rcases List.mem_append.1 hs with h1 | h1 <;> (split at h1 <;> simp at h1; rw [h1])
      · exact a0
      · exact a1
    · rw [List.length_append]; split <;> split <;> simp
  · exact ⟨fun s hs => (by cases hs), by simp⟩
/-- What an act makes of the document's mirror. -/
def Rm.act (r : Rm) (p : Int → Sec → Bool) (f : UInt8 → UInt8 → Sec) (a : ActM) : Rm :=
  if a.kind = 0 ∨ a.kind = 5 then r.write a.n (f a.x a.y) else if a.kind = 2 then r.sync p else if a.kind = 3 then r.heal p a.n else if a.kind = 6 then r.outs false a.on else if a.kind = 7 then r.outs true a.on
  else if a.kind = 8 then r.rot false a.n (a.x.toNat % 128) a.y else if a.kind = 9 then r.rot true a.n (a.x.toNat % 128) a.y else r
theorem szOf_nat {k : Nat} (h : k ≤ 4096) : szOf (k : Int) = k := by unfold szOf; omega
end Go.Sl

/- Facts of the translation's types, for the kernel (own work, by a program of this repo). -/
namespace Go.Proofs.Ytjjiclgbdenkkaa
open Go.Sl
theorem ag_123 : isAggT Try.prog 123 = some false := by kernel_rfl
theorem ag_51 : isAggT Try.prog 51 = some true := by kernel_rfl
theorem ag_54 : isAggT Try.prog 54 = some true := by kernel_rfl
theorem by_4 : byT Try.prog 4 = some 1 := by kernel_rfl
theorem fl_126_0 : fldT Try.prog 126 0 = some 0 := by kernel_rfl
theorem fl_126_1 : fldT Try.prog 126 1 = some 2 := by kernel_rfl
theorem fl_126_2 : fldT Try.prog 126 2 = some 4 := by kernel_rfl
theorem fl_54_0 : fldT Try.prog 54 0 = some 0 := by kernel_rfl
theorem fl_54_1 : fldT Try.prog 54 1 = some 1 := by kernel_rfl
theorem fl_54_2 : fldT Try.prog 54 2 = some 2 := by kernel_rfl
theorem fl_54_3 : fldT Try.prog 54 3 = some 3 := by kernel_rfl
theorem fl_54_4 : fldT Try.prog 54 4 = some 4 := by kernel_rfl
theorem pl_126 : placesT Try.prog 126 = some [(0, 2), (2, 2), (4, 2)] := by kernel_rfl
theorem sz_123 : szT Try.prog 123 = some 1 := by kernel_rfl
theorem sz_40 : szT Try.prog 40 = some 1 := by kernel_rfl
theorem sz_51 : szT Try.prog 51 = some 2 := by kernel_rfl
theorem sz_54 : szT Try.prog 54 = some 5 := by kernel_rfl
theorem zl_126 : zeroL Try.prog 126 = some ((List.replicate 2 (.slice none 0 0)) ++ (List.replicate 2 (.bool false)) ++ (List.replicate 2 (.slice none 0 0))) := by kernel_rfl
theorem zl_4 : zeroL Try.prog 4 = some ([.bool false]) := by kernel_rfl
theorem zl_51 : zeroL Try.prog 51 = some (List.replicate 2 (.pointer none)) := by kernel_rfl
end Go.Proofs.Ytjjiclgbdenkkaa

/- walks (own work; the walks' lines by a program of this repo). -/
set_option linter.unusedVariables false
set_option linter.unusedSimpArgs false
set_option maxRecDepth 20000
namespace Go.Proofs.Ytjjiclgbdenkkaa
open Go.Sl
attribute [local irreducible] BodyQ WpC WpL WpS WpH OpW FnS


theorem rthere_s {w0 : World} {H : Hp} {o : Ro} {K : Nat} {r : Rm} (ok : RmOk r K) (n : Int) : FnS Try.prog w0 71 #[ptr o.b, .int .i64 n] (o.hp 126 32 4 K r H) (fun e H' => e = .returned (.bool (r.has n)) ∧ H' = (o.hp 126 32 4 K r H)) := by
  refine FnS_intro (n := 17) (rs := [.tmp 4]) (vs := [ptr o.b, .int .i64 n]) Try.func71 rfl Try.ntmps71 rfl rfl ?_
  refine C_seq (C_region (LY rfl (y_assign rfl) (L_nil (C_seq (C_region (LY rfl (y_move rfl) ?_))))))
  refine LY rfl (y_geq rfl rfl) ?_
  refine LY rfl (y_move rfl) ?_
  refine L_case 7 rfl (fun hg1_3 => ?_) (fun hg1_3 => ?_)
  · skip
    refine LY rfl (y_move rfl) (LY rfl (y_move rfl) (LY rfl (y_nilCheck rfl) (LY rfl (y_fieldAddr rfl fl_126_0) ?_)))
    refine LY rfl (y_indexA rfl rfl Try.underlying122 sz_40 (by omega) (by omega) (show _ = 0 from rfl)) ?_
    refine LY rfl (y_load rfl ag_40 (sees 0 0 rfl) rfl) ?_
    refine LY rfl (y_lenS rfl rfl Try.underlying40) ?_
    refine LY rfl (y_lss rfl rfl) (LY rfl (y_pick_t rfl rfl) (LY rfl (y_assign rfl) (L_nil (C_ret ?_))))
    refine B_ret (rv_tmp rfl rv_nil) (hsub (.refl _)) ?_
    refine ⟨ret_bool ?_, rfl⟩
    have h0 := ok.l0
    unfold Rm.has
    rw [h0]
    simp_all <;> omega
  · skip
    refine L_skip rfl rfl (L_skip rfl rfl (L_skip rfl rfl (L_skip rfl rfl (L_skip rfl rfl (L_skip rfl rfl (L_skip rfl rfl (L_skip rfl rfl (LY rfl (y_pick_f rfl rfl) (LY rfl (y_assign rfl) (L_nil (C_ret ?_)))))))))))
    refine B_ret (rv_tmp rfl rv_nil) (hsub (.refl _)) ?_
    refine ⟨ret_bool ?_, rfl⟩
    have h0 := ok.l0
    unfold Rm.has
    rw [h0]
    simp_all <;> omega

theorem rcount0_s {w0 : World} {H : Hp} {o : Ro} {K : Nat} {r : Rm} (ok : RmOk r K) : FnS Try.prog w0 72 #[ptr o.b, .int .i64 0] (o.hp 126 32 4 K r H) (fun e H' => e = .returned (.int .i64 (r.x.cnt : Int)) ∧ H' = (o.hp 126 32 4 K r H)) := by
  have hK := ok.le
  have hs0 := ok.s0
  have hs1 := ok.s1
  refine FnS_intro (n := 30) (rs := [.tmp 4]) (vs := [ptr o.b, .int .i64 0]) Try.func72 rfl Try.ntmps72 rfl rfl ?_
  refine C_seq (C_region (LY rfl (y_assign rfl) (L_nil (C_seq (C_region (LY rfl (y_assign rfl) (L_nil (C_seq (C_seq (C_region (LY rfl (y_assign rfl) (L_nil (C_block ?_)))))))))))))
  refine C_loop (ι := Nat) (fun i => [(0, ptr o.b), (1, .int .i64 0), (5, .int .i64 (ck r.x.s i : Int)), (6, .int .i64 (i : Int))]) (fun i => (o.hp 126 32 4 K r H)) (fun i => i ≤ K) (fun i => K - i) 0 (Nat.zero_le _) ⟨rfl, rfl, rfl, rfl, trivial⟩ (HSub.refl _) (fun i hi => ?_)
  skip
  refine C_seq (C_seq (C_region (LY rfl (y_move rfl) (LY rfl (y_move rfl) (LY rfl (y_move rfl) (LY rfl (y_nilCheck rfl) (LY rfl (y_fieldAddr rfl fl_126_2) ?_)))))))
  refine LY rfl (y_indexA rfl rfl Try.underlying124 sz_123 (by omega) (by omega) (show _ = 4 from rfl)) ?_
  refine LY rfl (y_load rfl ag_123 (sees 0 0 rfl) rfl) ?_
  refine LY rfl (y_lenS rfl rfl Try.underlying123) ?_
  refine LY rfl (y_lss rfl rfl) (L_nil ?_)
  refine C_cond rfl (fun hc0 => ?_) (fun hc0 => ?_)
  · replace hc0 : i < K := by have := of_decide_eq_true hc0; omega
    refine C_skip (C_seq (C_block (C_seq (C_region (LY rfl (y_move rfl) (LY rfl (y_move rfl) (LY rfl (y_nilCheck rfl) (LY rfl (y_fieldAddr rfl fl_126_2) ?_))))))))
    refine LY rfl (y_indexA rfl rfl Try.underlying124 sz_123 (by omega) (by omega) (show _ = 4 from rfl)) ?_
    refine LY rfl (y_load rfl ag_123 (sees 0 0 rfl) rfl) (LY rfl (y_move rfl) ?_)
    refine LY rfl (y_indexS rfl rfl Try.underlying123 sz_4 (by omega) (by omega) (show _ = i from by simp)) ?_
    refine LY rfl (y_load rfl ag_4 (sees 3 0 rfl) (bls_get (by first | omega | (dsimp only; omega)))) ?_
    refine L_nil ?_
    refine C_cond rfl (fun hc1 => ?_) (fun hc1 => ?_)
    · have e5 := ck_succ (l := r.x.s) (k := i) (by omega)
      have ec := ck_le r.x.s i
      rw [if_pos hc1] at e5
      refine C_region (LY rfl (y_move rfl) ?_)
      refine LY rfl (y_add rfl rfl (show _ = ((ck r.x.s (i + 1) : Nat) : Int) from by rw [e5, wi64 (by omega) (by omega)]; rfl)) ?_
      refine LY rfl (y_assign rfl) (L_nil (C_region (LY rfl (y_move rfl) ?_)))
      refine LY rfl (y_add rfl rfl (wi64 (by omega) (by omega))) ?_
      refine LY rfl (y_assign rfl) (L_nil ?_)
      exact ⟨i + 1, by omega, by omega, ⟨rfl, rfl, by first | rfl | (rw [e5]; rfl), rfl, trivial⟩, HSub.refl _⟩
    · have e5 := ck_succ (l := r.x.s) (k := i) (by omega)
      rw [if_neg (by rw [hc1]; decide), Nat.add_zero] at e5
      refine C_skip (C_region (LY rfl (y_move rfl) ?_))
      refine LY rfl (y_add rfl rfl (wi64 (by omega) (by omega))) ?_
      refine LY rfl (y_assign rfl) (L_nil ?_)
      exact ⟨i + 1, by omega, by omega, ⟨rfl, rfl, by first | rfl | (rw [e5]; rfl), rfl, trivial⟩, HSub.refl _⟩
  · replace hc0 := of_decide_eq_false hc0
    refine C_exit (C_seq (C_region (LY rfl (y_move rfl) (LY rfl (y_assign rfl) (L_nil (C_ret ?_))))))
    refine B_ret (rv_tmp rfl rv_nil) (hsub (.refl _)) ?_
    have hk : i = K := by omega
    subst hk
    exact ⟨ret_int (by rw [ck_all (by omega)]; rfl), rfl⟩

theorem rcount1_s {w0 : World} {H : Hp} {o : Ro} {K : Nat} {r : Rm} (ok : RmOk r K) : FnS Try.prog w0 72 #[ptr o.b, .int .i64 1] (o.hp 126 32 4 K r H) (fun e H' => e = .returned (.int .i64 (r.y.cnt : Int)) ∧ H' = (o.hp 126 32 4 K r H)) := by
  have hK := ok.le
  have hs0 := ok.s0
  have hs1 := ok.s1
  refine FnS_intro (n := 30) (rs := [.tmp 4]) (vs := [ptr o.b, .int .i64 1]) Try.func72 rfl Try.ntmps72 rfl rfl ?_
  refine C_seq (C_region (LY rfl (y_assign rfl) (L_nil (C_seq (C_region (LY rfl (y_assign rfl) (L_nil (C_seq (C_seq (C_region (LY rfl (y_assign rfl) (L_nil (C_block ?_)))))))))))))
  refine C_loop (ι := Nat) (fun i => [(0, ptr o.b), (1, .int .i64 1), (5, .int .i64 (ck r.y.s i : Int)), (6, .int .i64 (i : Int))]) (fun i => (o.hp 126 32 4 K r H)) (fun i => i ≤ K) (fun i => K - i) 0 (Nat.zero_le _) ⟨rfl, rfl, rfl, rfl, trivial⟩ (HSub.refl _) (fun i hi => ?_)
  skip
  refine C_seq (C_seq (C_region (LY rfl (y_move rfl) (LY rfl (y_move rfl) (LY rfl (y_move rfl) (LY rfl (y_nilCheck rfl) (LY rfl (y_fieldAddr rfl fl_126_2) ?_)))))))
  refine LY rfl (y_indexA rfl rfl Try.underlying124 sz_123 (by omega) (by omega) (show _ = 5 from rfl)) ?_
  refine LY rfl (y_load rfl ag_123 (sees 0 0 rfl) rfl) ?_
  refine LY rfl (y_lenS rfl rfl Try.underlying123) ?_
  refine LY rfl (y_lss rfl rfl) (L_nil ?_)
  refine C_cond rfl (fun hc0 => ?_) (fun hc0 => ?_)
  · replace hc0 : i < K := by have := of_decide_eq_true hc0; omega
    refine C_skip (C_seq (C_block (C_seq (C_region (LY rfl (y_move rfl) (LY rfl (y_move rfl) (LY rfl (y_nilCheck rfl) (LY rfl (y_fieldAddr rfl fl_126_2) ?_))))))))
    refine LY rfl (y_indexA rfl rfl Try.underlying124 sz_123 (by omega) (by omega) (show _ = 5 from rfl)) ?_
    refine LY rfl (y_load rfl ag_123 (sees 0 0 rfl) rfl) (LY rfl (y_move rfl) ?_)
    refine LY rfl (y_indexS rfl rfl Try.underlying123 sz_4 (by omega) (by omega) (show _ = i from by simp)) ?_
    refine LY rfl (y_load rfl ag_4 (sees 4 0 rfl) (bls_get (by first | omega | (dsimp only; omega)))) ?_
    refine L_nil ?_
    refine C_cond rfl (fun hc1 => ?_) (fun hc1 => ?_)
    · have e5 := ck_succ (l := r.y.s) (k := i) (by omega)
      have ec := ck_le r.y.s i
      rw [if_pos hc1] at e5
      refine C_region (LY rfl (y_move rfl) ?_)
      refine LY rfl (y_add rfl rfl (show _ = ((ck r.y.s (i + 1) : Nat) : Int) from by rw [e5, wi64 (by omega) (by omega)]; rfl)) ?_
      refine LY rfl (y_assign rfl) (L_nil (C_region (LY rfl (y_move rfl) ?_)))
      refine LY rfl (y_add rfl rfl (wi64 (by omega) (by omega))) ?_
      refine LY rfl (y_assign rfl) (L_nil ?_)
      exact ⟨i + 1, by omega, by omega, ⟨rfl, rfl, by first | rfl | (rw [e5]; rfl), rfl, trivial⟩, HSub.refl _⟩
    · have e5 := ck_succ (l := r.y.s) (k := i) (by omega)
      rw [if_neg (by rw [hc1]; decide), Nat.add_zero] at e5
      refine C_skip (C_region (LY rfl (y_move rfl) ?_))
      refine LY rfl (y_add rfl rfl (wi64 (by omega) (by omega))) ?_
      refine LY rfl (y_assign rfl) (L_nil ?_)
      exact ⟨i + 1, by omega, by omega, ⟨rfl, rfl, by first | rfl | (rw [e5]; rfl), rfl, trivial⟩, HSub.refl _⟩
  · replace hc0 := of_decide_eq_false hc0
    refine C_exit (C_seq (C_region (LY rfl (y_move rfl) (LY rfl (y_assign rfl) (L_nil (C_ret ?_))))))
    refine B_ret (rv_tmp rfl rv_nil) (hsub (.refl _)) ?_
    have hk : i = K := by omega
    subst hk
    exact ⟨ret_int (by rw [ck_all (by omega)]; rfl), rfl⟩

theorem rread_no {w0 : World} {H : Hp} {o : Ro} {K : Nat} {r : Rm} (ok : RmOk r K) (n : Int) (hb : r.has n = false) : FnS Try.prog w0 67 #[ptr o.b, .int .i64 n] (o.hp 126 32 4 K r H) (fun e H' => e = .returned (.tuple #[.agg (bs (Rm.readS r goodP n)).toArray, .int .i64 (Rm.readE r goodP n)]) ∧ H' = (o.hp 126 32 4 K r H)) := by
  refine FnS_intro (n := 71) (rs := [.cell 4 32, .tmp 5]) (vs := [ptr o.b, .int .i64 n]) Try.func67 rfl Try.ntmps67 rfl rfl ?_
  refine C_seq (C_region ?_)
  refine L_op rfl (op_alloc zl_32 rfl (fun B1 => ?_))
  refine LY rfl (y_assign rfl) (L_nil (C_seq (C_seq (C_region (LY rfl (y_move rfl) (LY rfl (y_move rfl) ?_))))))
  refine L_op rfl (op_call rfl rfl (fun a w => Try.call71 a w) rfl ?_)
  refine (FnS.sub (hsub_pick [1, 1, 1, 1, 1] rfl) (rthere_s ok _)).mono ?_
  rintro _ _ ⟨e4, rfl⟩
  rw [hb] at e4
  obtain rfl := e4
  refine ⟨_, rfl, ?_⟩
  refine LY rfl (y_not rfl) (L_nil (C_cond_t rfl (C_seq (C_region ?_))))
  refine LY rfl (y_buildA0 Try.underlying32 sz_5 zl_32) ?_
  refine L_op rfl (op_storeA 5 0 rfl rfl rfl sz_32 (by rw [zsec, bs_length, secOf_len]) rfl (by rw [zsec]; exact bs_one _) (by simp) ?_)
  rw [zsec]
  refine LY rfl (y_assign rfl) (L_nil (C_ret ?_))
  refine B_ret (rv_cellA rfl ag_32 sz_32 (sees 5 0 rfl) (by rw [bs_length, secOf_len]; decide) (bs_whole0 _ (secOf_len 0)) (rv_tmp rfl rv_nil)) ((hsub (.cons_cons _ (.cons_cons _ (.cons_cons _ (.cons_cons _ (.cons_cons _ (.cons _ (.refl _)))))))).trans (hsub_pick [0, 0, 0, 0, 0] rfl)) ?_
  exact ⟨by unfold Rm.readE Rm.readS; rw [hb]; rfl, rfl⟩

theorem rread_ff {w0 : World} {H : Hp} {o : Ro} {K : Nat} {l0 l1 : List Sec} {s0 s1 : List Bool} (ok : RmOk (⟨⟨l0, false, s0⟩, ⟨l1, false, s1⟩⟩ : Rm) K) (n : Nat) (hn : n < K) (hb : Rm.has (⟨⟨l0, false, s0⟩, ⟨l1, false, s1⟩⟩ : Rm) (n : Int) = true) : FnS Try.prog w0 67 #[ptr o.b, .int .i64 (n : Int)] (o.hp 126 32 4 K (⟨⟨l0, false, s0⟩, ⟨l1, false, s1⟩⟩ : Rm) H) (fun e H' => e = .returned (.tuple #[.agg (bs (Rm.readS (⟨⟨l0, false, s0⟩, ⟨l1, false, s1⟩⟩ : Rm) goodP n)).toArray, .int .i64 (Rm.readE (⟨⟨l0, false, s0⟩, ⟨l1, false, s1⟩⟩ : Rm) goodP n)]) ∧ H' = (o.hp 126 32 4 K (⟨⟨l0, false, s0⟩, ⟨l1, false, s1⟩⟩ : Rm) H)) := by
  have hl0 : l0.length = K := ok.l0
  have hl1 : l1.length = K := ok.l1
  have hs0 : s0.length = K := ok.s0
  have hs1 : s1.length = K := ok.s1
  have ok0 : ∀ s ∈ l0, s.length = 128 := ok.ok0
  have ok1 : ∀ s ∈ l1, s.length = 128 := ok.ok1
  have hK := ok.le
  refine FnS_intro (n := 71) (rs := [.cell 4 32, .tmp 5]) (vs := [ptr o.b, .int .i64 (n : Int)]) Try.func67 rfl Try.ntmps67 rfl rfl ?_
  refine C_seq (C_region ?_)
  refine L_op rfl (op_alloc zl_32 rfl (fun B1 => ?_))
  refine LY rfl (y_assign rfl) (L_nil (C_seq (C_seq (C_region (LY rfl (y_move rfl) (LY rfl (y_move rfl) ?_))))))
  refine L_op rfl (op_call rfl rfl (fun a w => Try.call71 a w) rfl ?_)
  refine (FnS.sub (hsub_pick [1, 1, 1, 1, 1] rfl) (rthere_s ok _)).mono ?_
  rintro _ _ ⟨e4, rfl⟩
  rw [hb] at e4
  obtain rfl := e4
  refine ⟨_, rfl, ?_⟩
  refine LY rfl (y_not rfl) (L_nil (C_cond_f rfl (C_skip (C_seq (C_seq (C_region (LY rfl (y_move rfl) (LY rfl (y_nilCheck rfl) (LY rfl (y_fieldAddr rfl fl_126_1) ?_)))))))))
  refine LY rfl (y_indexA rfl rfl Try.underlying62 sz_4 (by omega) (by omega) (show _ = 2 from rfl)) ?_
  refine LY rfl (y_load rfl ag_4 (sees 0 0 rfl) rfl) (LY rfl (y_move rfl) (L_skip rfl rfl (L_skip rfl rfl (L_skip rfl rfl (L_skip rfl rfl (L_skip rfl rfl (LY rfl (y_pick_f rfl rfl) (L_nil (C_cond_f rfl (C_skip (C_seq (C_seq (C_region (LY rfl (y_assign rfl) (L_nil (C_block ?_))))))))))))))))
  refine C_loopIn (In_round ?_)
  refine C_seq (C_seq (C_region (LY rfl (y_move rfl) (LY rfl (y_lss rfl rfl) (L_nil (C_cond_t rfl (C_skip (C_seq (C_block (C_seq (C_region (LY rfl (y_move rfl) (LY rfl (y_move rfl) (LY rfl (y_nilCheck rfl) (LY rfl (y_fieldAddr rfl fl_126_1) ?_)))))))))))))))
  refine LY rfl (y_indexA rfl rfl Try.underlying62 sz_4 (by omega) (by omega) (show _ = 2 from rfl)) ?_
  refine LY rfl (y_load rfl ag_4 (sees 0 0 rfl) rfl) (LY rfl (y_not rfl) (LY rfl (y_move rfl) (LY rfl (y_move rfl) (LY rfl (y_move rfl) (LY rfl (y_nilCheck rfl) (LY rfl (y_fieldAddr rfl fl_126_2) ?_))))))
  refine LY rfl (y_indexA rfl rfl Try.underlying124 sz_123 (by omega) (by omega) (show _ = 4 from rfl)) ?_
  refine LY rfl (y_load rfl ag_123 (sees 0 0 rfl) rfl) (LY rfl (y_move rfl) ?_)
  refine LY rfl (y_indexS rfl rfl Try.underlying123 sz_4 (by omega) (by omega) (show _ = n from by simp)) ?_
  refine LY rfl (y_load rfl ag_4 (sees 3 0 rfl) (bls_get (by first | omega | (dsimp only; omega)))) ?_
  refine LY rfl (y_not rfl) (LY rfl (y_pick_t rfl rfl) (LY rfl (y_move rfl) ?_))
  refine L_case 48 rfl (fun hg8_20 => ?_) (fun hg8_20 => ?_)
  · skip
    refine LY rfl (y_move rfl) (LY rfl (y_move rfl) (LY rfl (y_move rfl) (LY rfl (y_nilCheck rfl) (LY rfl (y_fieldAddr rfl fl_126_0) ?_))))
    refine LY rfl (y_indexA rfl rfl Try.underlying122 sz_40 (by omega) (by omega) (show _ = 0 from rfl)) ?_
    refine LY rfl (y_load rfl ag_40 (sees 0 0 rfl) rfl) (LY rfl (y_move rfl) ?_)
    refine LY rfl (y_indexS rfl rfl Try.underlying40 sz_32 (by omega) (by omega) (show _ = n * 128 from by simp)) ?_
    refine LY rfl (y_loadA rfl ag_32 sz_32 (sees 1 0 rfl) (lseg_le hl0 hn ok0) (lseg_at hl0 hn ok0)) ?_
    refine L_op rfl (op_call rfl rfl (fun a w => Try.call18 a w) rfl ?_)
    refine (good09_s (n : Int) _ (lget_len hl0 hn ok0)).mono ?_
    rintro _ _ ⟨e4, e⟩
    obtain rfl := e.symm
    clear e
    obtain rfl := e4
    refine ⟨_, rfl, ?_⟩
    refine LY rfl (y_pick_t rfl rfl) (L_nil ?_)
    refine C_cond rfl (fun hc3 => ?_) (fun hc3 => ?_)
    · skip
      refine C_seq (C_region (LY rfl (y_move rfl) (LY rfl (y_move rfl) (LY rfl (y_nilCheck rfl) (LY rfl (y_fieldAddr rfl fl_126_0) ?_)))))
      refine LY rfl (y_indexA rfl rfl Try.underlying122 sz_40 (by omega) (by omega) (show _ = 0 from rfl)) ?_
      refine LY rfl (y_load rfl ag_40 (sees 0 0 rfl) rfl) (LY rfl (y_move rfl) ?_)
      refine LY rfl (y_indexS rfl rfl Try.underlying40 sz_32 (by omega) (by omega) (show _ = n * 128 from by simp)) ?_
      refine LY rfl (y_loadA rfl ag_32 sz_32 (sees 1 0 rfl) (lseg_le hl0 hn ok0) (lseg_at hl0 hn ok0)) ?_
      refine L_op rfl (op_storeA 5 0 rfl rfl rfl sz_32 (by rw [bs_length, (lget_len hl0 hn ok0)]) rfl (bs_one _) (by simp) ?_)
      refine LY rfl (y_assign rfl) (L_nil (C_ret ?_))
      refine B_ret (rv_cellA rfl ag_32 sz_32 (sees 5 0 rfl) (by first | (rw [bs_length, secOf_len]; decide) | (rw [bs_length, lget_len hl0 hn ok0]; decide) | (rw [bs_length, lget_len hl1 hn ok1]; decide)) (by first | exact bs_whole0 _ (secOf_len 0) | exact bs_whole0 _ (lget_len hl0 hn ok0) | exact bs_whole0 _ (lget_len hl1 hn ok1)) (rv_tmp rfl rv_nil)) ((hsub (.cons_cons _ (.cons_cons _ (.cons_cons _ (.cons_cons _ (.cons_cons _ (.cons _ (.refl _)))))))).trans (hsub_pick [0, 0, 0, 0, 0] rfl)) ?_
      exact ⟨by simp_all [Rm.readE, Rm.readS, Rs.tells, Rs.old, Rs.at] <;> rfl, rfl⟩
    · skip
      refine C_skip (C_region (LY rfl (y_move rfl) ?_))
      refine LY rfl (y_add rfl rfl (show _ = (1 : Int) from rfl)) ?_
      refine LY rfl (y_assign rfl) (L_nil ?_)
      refine In_round ?_
      refine C_seq (C_seq (C_region (LY rfl (y_move rfl) (LY rfl (y_lss rfl rfl) (L_nil (C_cond_t rfl (C_skip (C_seq (C_block (C_seq (C_region (LY rfl (y_move rfl) (LY rfl (y_move rfl) (LY rfl (y_nilCheck rfl) (LY rfl (y_fieldAddr rfl fl_126_1) ?_)))))))))))))))
      refine LY rfl (y_indexA rfl rfl Try.underlying62 sz_4 (by omega) (by omega) (show _ = 3 from rfl)) ?_
      refine LY rfl (y_load rfl ag_4 (sees 0 0 rfl) rfl) (LY rfl (y_not rfl) (LY rfl (y_move rfl) (LY rfl (y_move rfl) (LY rfl (y_move rfl) (LY rfl (y_nilCheck rfl) (LY rfl (y_fieldAddr rfl fl_126_2) ?_))))))
      refine LY rfl (y_indexA rfl rfl Try.underlying124 sz_123 (by omega) (by omega) (show _ = 5 from rfl)) ?_
      refine LY rfl (y_load rfl ag_123 (sees 0 0 rfl) rfl) (LY rfl (y_move rfl) ?_)
      refine LY rfl (y_indexS rfl rfl Try.underlying123 sz_4 (by omega) (by omega) (show _ = n from by simp)) ?_
      refine LY rfl (y_load rfl ag_4 (sees 4 0 rfl) (bls_get (by first | omega | (dsimp only; omega)))) ?_
      refine LY rfl (y_not rfl) (LY rfl (y_pick_t rfl rfl) (LY rfl (y_move rfl) ?_))
      refine L_case 48 rfl (fun hg8_20 => ?_) (fun hg8_20 => ?_)
      · skip
        refine LY rfl (y_move rfl) (LY rfl (y_move rfl) (LY rfl (y_move rfl) (LY rfl (y_nilCheck rfl) (LY rfl (y_fieldAddr rfl fl_126_0) ?_))))
        refine LY rfl (y_indexA rfl rfl Try.underlying122 sz_40 (by omega) (by omega) (show _ = 1 from rfl)) ?_
        refine LY rfl (y_load rfl ag_40 (sees 0 0 rfl) rfl) (LY rfl (y_move rfl) ?_)
        refine LY rfl (y_indexS rfl rfl Try.underlying40 sz_32 (by omega) (by omega) (show _ = n * 128 from by simp)) ?_
        refine LY rfl (y_loadA rfl ag_32 sz_32 (sees 2 0 rfl) (lseg_le hl1 hn ok1) (lseg_at hl1 hn ok1)) ?_
        refine L_op rfl (op_call rfl rfl (fun a w => Try.call18 a w) rfl ?_)
        refine (good09_s (n : Int) _ (lget_len hl1 hn ok1)).mono ?_
        rintro _ _ ⟨e4, e⟩
        obtain rfl := e.symm
        clear e
        obtain rfl := e4
        refine ⟨_, rfl, ?_⟩
        refine LY rfl (y_pick_t rfl rfl) (L_nil ?_)
        refine C_cond rfl (fun hc3 => ?_) (fun hc3 => ?_)
        · skip
          refine C_seq (C_region (LY rfl (y_move rfl) (LY rfl (y_move rfl) (LY rfl (y_nilCheck rfl) (LY rfl (y_fieldAddr rfl fl_126_0) ?_)))))
          refine LY rfl (y_indexA rfl rfl Try.underlying122 sz_40 (by omega) (by omega) (show _ = 1 from rfl)) ?_
          refine LY rfl (y_load rfl ag_40 (sees 0 0 rfl) rfl) (LY rfl (y_move rfl) ?_)
          refine LY rfl (y_indexS rfl rfl Try.underlying40 sz_32 (by omega) (by omega) (show _ = n * 128 from by simp)) ?_
          refine LY rfl (y_loadA rfl ag_32 sz_32 (sees 2 0 rfl) (lseg_le hl1 hn ok1) (lseg_at hl1 hn ok1)) ?_
          refine L_op rfl (op_storeA 5 0 rfl rfl rfl sz_32 (by rw [bs_length, (lget_len hl1 hn ok1)]) rfl (bs_one _) (by simp) ?_)
          refine LY rfl (y_assign rfl) (L_nil (C_ret ?_))
          refine B_ret (rv_cellA rfl ag_32 sz_32 (sees 5 0 rfl) (by first | (rw [bs_length, secOf_len]; decide) | (rw [bs_length, lget_len hl0 hn ok0]; decide) | (rw [bs_length, lget_len hl1 hn ok1]; decide)) (by first | exact bs_whole0 _ (secOf_len 0) | exact bs_whole0 _ (lget_len hl0 hn ok0) | exact bs_whole0 _ (lget_len hl1 hn ok1)) (rv_tmp rfl rv_nil)) ((hsub (.cons_cons _ (.cons_cons _ (.cons_cons _ (.cons_cons _ (.cons_cons _ (.cons _ (.refl _)))))))).trans (hsub_pick [0, 0, 0, 0, 0] rfl)) ?_
          exact ⟨by simp_all [Rm.readE, Rm.readS, Rs.tells, Rs.old, Rs.at] <;> rfl, rfl⟩
        · skip
          refine C_skip (C_region (LY rfl (y_move rfl) ?_))
          refine LY rfl (y_add rfl rfl (show _ = (2 : Int) from rfl)) ?_
          refine LY rfl (y_assign rfl) (L_nil ?_)
          refine In_round ?_
          refine C_seq (C_seq (C_region (LY rfl (y_move rfl) (LY rfl (y_lss rfl rfl) (L_nil (C_cond_f rfl (C_exit (C_seq (C_region ?_)))))))))
          refine LY rfl (y_buildA0 Try.underlying32 sz_5 zl_32) ?_
          refine L_op rfl (op_storeA 5 0 rfl rfl rfl sz_32 (by rw [zsec, bs_length, secOf_len]) rfl (by rw [zsec]; exact bs_one _) (by simp) ?_)
          rw [zsec]
          refine LY rfl (y_assign rfl) (L_nil (C_ret ?_))
          refine B_ret (rv_cellA rfl ag_32 sz_32 (sees 5 0 rfl) (by first | (rw [bs_length, secOf_len]; decide) | (rw [bs_length, lget_len hl0 hn ok0]; decide) | (rw [bs_length, lget_len hl1 hn ok1]; decide)) (by first | exact bs_whole0 _ (secOf_len 0) | exact bs_whole0 _ (lget_len hl0 hn ok0) | exact bs_whole0 _ (lget_len hl1 hn ok1)) (rv_tmp rfl rv_nil)) ((hsub (.cons_cons _ (.cons_cons _ (.cons_cons _ (.cons_cons _ (.cons_cons _ (.cons _ (.refl _)))))))).trans (hsub_pick [0, 0, 0, 0, 0] rfl)) ?_
          exact ⟨by simp_all [Rm.readE, Rm.readS, Rs.tells, Rs.old, Rs.at] <;> rfl, rfl⟩
      · skip
        refine L_skip rfl rfl (L_skip rfl rfl (L_skip rfl rfl (L_skip rfl rfl (L_skip rfl rfl (L_skip rfl rfl (L_skip rfl rfl (L_skip rfl rfl (L_skip rfl rfl (L_skip rfl rfl (L_skip rfl rfl (LY rfl (y_pick_f rfl rfl) (L_nil (C_cond_f rfl (C_skip (C_region (LY rfl (y_move rfl) ?_))))))))))))))))
        refine LY rfl (y_add rfl rfl (show _ = (2 : Int) from rfl)) ?_
        refine LY rfl (y_assign rfl) (L_nil ?_)
        refine In_round ?_
        refine C_seq (C_seq (C_region (LY rfl (y_move rfl) (LY rfl (y_lss rfl rfl) (L_nil (C_cond_f rfl (C_exit (C_seq (C_region ?_)))))))))
        refine LY rfl (y_buildA0 Try.underlying32 sz_5 zl_32) ?_
        refine L_op rfl (op_storeA 5 0 rfl rfl rfl sz_32 (by rw [zsec, bs_length, secOf_len]) rfl (by rw [zsec]; exact bs_one _) (by simp) ?_)
        rw [zsec]
        refine LY rfl (y_assign rfl) (L_nil (C_ret ?_))
        refine B_ret (rv_cellA rfl ag_32 sz_32 (sees 5 0 rfl) (by first | (rw [bs_length, secOf_len]; decide) | (rw [bs_length, lget_len hl0 hn ok0]; decide) | (rw [bs_length, lget_len hl1 hn ok1]; decide)) (by first | exact bs_whole0 _ (secOf_len 0) | exact bs_whole0 _ (lget_len hl0 hn ok0) | exact bs_whole0 _ (lget_len hl1 hn ok1)) (rv_tmp rfl rv_nil)) ((hsub (.cons_cons _ (.cons_cons _ (.cons_cons _ (.cons_cons _ (.cons_cons _ (.cons _ (.refl _)))))))).trans (hsub_pick [0, 0, 0, 0, 0] rfl)) ?_
        exact ⟨by simp_all [Rm.readE, Rm.readS, Rs.tells, Rs.old, Rs.at] <;> rfl, rfl⟩
  · skip
    refine L_skip rfl rfl (L_skip rfl rfl (L_skip rfl rfl (L_skip rfl rfl (L_skip rfl rfl (L_skip rfl rfl (L_skip rfl rfl (L_skip rfl rfl (L_skip rfl rfl (L_skip rfl rfl (L_skip rfl rfl (LY rfl (y_pick_f rfl rfl) (L_nil (C_cond_f rfl (C_skip (C_region (LY rfl (y_move rfl) ?_))))))))))))))))
    refine LY rfl (y_add rfl rfl (show _ = (1 : Int) from rfl)) ?_
    refine LY rfl (y_assign rfl) (L_nil ?_)
    refine In_round ?_
    refine C_seq (C_seq (C_region (LY rfl (y_move rfl) (LY rfl (y_lss rfl rfl) (L_nil (C_cond_t rfl (C_skip (C_seq (C_block (C_seq (C_region (LY rfl (y_move rfl) (LY rfl (y_move rfl) (LY rfl (y_nilCheck rfl) (LY rfl (y_fieldAddr rfl fl_126_1) ?_)))))))))))))))
    refine LY rfl (y_indexA rfl rfl Try.underlying62 sz_4 (by omega) (by omega) (show _ = 3 from rfl)) ?_
    refine LY rfl (y_load rfl ag_4 (sees 0 0 rfl) rfl) (LY rfl (y_not rfl) (LY rfl (y_move rfl) (LY rfl (y_move rfl) (LY rfl (y_move rfl) (LY rfl (y_nilCheck rfl) (LY rfl (y_fieldAddr rfl fl_126_2) ?_))))))
    refine LY rfl (y_indexA rfl rfl Try.underlying124 sz_123 (by omega) (by omega) (show _ = 5 from rfl)) ?_
    refine LY rfl (y_load rfl ag_123 (sees 0 0 rfl) rfl) (LY rfl (y_move rfl) ?_)
    refine LY rfl (y_indexS rfl rfl Try.underlying123 sz_4 (by omega) (by omega) (show _ = n from by simp)) ?_
    refine LY rfl (y_load rfl ag_4 (sees 4 0 rfl) (bls_get (by first | omega | (dsimp only; omega)))) ?_
    refine LY rfl (y_not rfl) (LY rfl (y_pick_t rfl rfl) (LY rfl (y_move rfl) ?_))
    refine L_case 48 rfl (fun hg8_20 => ?_) (fun hg8_20 => ?_)
    · skip
      refine LY rfl (y_move rfl) (LY rfl (y_move rfl) (LY rfl (y_move rfl) (LY rfl (y_nilCheck rfl) (LY rfl (y_fieldAddr rfl fl_126_0) ?_))))
      refine LY rfl (y_indexA rfl rfl Try.underlying122 sz_40 (by omega) (by omega) (show _ = 1 from rfl)) ?_
      refine LY rfl (y_load rfl ag_40 (sees 0 0 rfl) rfl) (LY rfl (y_move rfl) ?_)
      refine LY rfl (y_indexS rfl rfl Try.underlying40 sz_32 (by omega) (by omega) (show _ = n * 128 from by simp)) ?_
      refine LY rfl (y_loadA rfl ag_32 sz_32 (sees 2 0 rfl) (lseg_le hl1 hn ok1) (lseg_at hl1 hn ok1)) ?_
      refine L_op rfl (op_call rfl rfl (fun a w => Try.call18 a w) rfl ?_)
      refine (good09_s (n : Int) _ (lget_len hl1 hn ok1)).mono ?_
      rintro _ _ ⟨e4, e⟩
      obtain rfl := e.symm
      clear e
      obtain rfl := e4
      refine ⟨_, rfl, ?_⟩
      refine LY rfl (y_pick_t rfl rfl) (L_nil ?_)
      refine C_cond rfl (fun hc3 => ?_) (fun hc3 => ?_)
      · skip
        refine C_seq (C_region (LY rfl (y_move rfl) (LY rfl (y_move rfl) (LY rfl (y_nilCheck rfl) (LY rfl (y_fieldAddr rfl fl_126_0) ?_)))))
        refine LY rfl (y_indexA rfl rfl Try.underlying122 sz_40 (by omega) (by omega) (show _ = 1 from rfl)) ?_
        refine LY rfl (y_load rfl ag_40 (sees 0 0 rfl) rfl) (LY rfl (y_move rfl) ?_)
        refine LY rfl (y_indexS rfl rfl Try.underlying40 sz_32 (by omega) (by omega) (show _ = n * 128 from by simp)) ?_
        refine LY rfl (y_loadA rfl ag_32 sz_32 (sees 2 0 rfl) (lseg_le hl1 hn ok1) (lseg_at hl1 hn ok1)) ?_
        refine L_op rfl (op_storeA 5 0 rfl rfl rfl sz_32 (by rw [bs_length, (lget_len hl1 hn ok1)]) rfl (bs_one _) (by simp) ?_)
        refine LY rfl (y_assign rfl) (L_nil (C_ret ?_))
        refine B_ret (rv_cellA rfl ag_32 sz_32 (sees 5 0 rfl) (by first | (rw [bs_length, secOf_len]; decide) | (rw [bs_length, lget_len hl0 hn ok0]; decide) | (rw [bs_length, lget_len hl1 hn ok1]; decide)) (by first | exact bs_whole0 _ (secOf_len 0) | exact bs_whole0 _ (lget_len hl0 hn ok0) | exact bs_whole0 _ (lget_len hl1 hn ok1)) (rv_tmp rfl rv_nil)) ((hsub (.cons_cons _ (.cons_cons _ (.cons_cons _ (.cons_cons _ (.cons_cons _ (.cons _ (.refl _)))))))).trans (hsub_pick [0, 0, 0, 0, 0] rfl)) ?_
        exact ⟨by simp_all [Rm.readE, Rm.readS, Rs.tells, Rs.old, Rs.at] <;> rfl, rfl⟩
      · skip
        refine C_skip (C_region (LY rfl (y_move rfl) ?_))
        refine LY rfl (y_add rfl rfl (show _ = (2 : Int) from rfl)) ?_
        refine LY rfl (y_assign rfl) (L_nil ?_)
        refine In_round ?_
        refine C_seq (C_seq (C_region (LY rfl (y_move rfl) (LY rfl (y_lss rfl rfl) (L_nil (C_cond_f rfl (C_exit (C_seq (C_region ?_)))))))))
        refine LY rfl (y_buildA0 Try.underlying32 sz_5 zl_32) ?_
        refine L_op rfl (op_storeA 5 0 rfl rfl rfl sz_32 (by rw [zsec, bs_length, secOf_len]) rfl (by rw [zsec]; exact bs_one _) (by simp) ?_)
        rw [zsec]
        refine LY rfl (y_assign rfl) (L_nil (C_ret ?_))
        refine B_ret (rv_cellA rfl ag_32 sz_32 (sees 5 0 rfl) (by first | (rw [bs_length, secOf_len]; decide) | (rw [bs_length, lget_len hl0 hn ok0]; decide) | (rw [bs_length, lget_len hl1 hn ok1]; decide)) (by first | exact bs_whole0 _ (secOf_len 0) | exact bs_whole0 _ (lget_len hl0 hn ok0) | exact bs_whole0 _ (lget_len hl1 hn ok1)) (rv_tmp rfl rv_nil)) ((hsub (.cons_cons _ (.cons_cons _ (.cons_cons _ (.cons_cons _ (.cons_cons _ (.cons _ (.refl _)))))))).trans (hsub_pick [0, 0, 0, 0, 0] rfl)) ?_
        exact ⟨by simp_all [Rm.readE, Rm.readS, Rs.tells, Rs.old, Rs.at] <;> rfl, rfl⟩
    · skip
      refine L_skip rfl rfl (L_skip rfl rfl (L_skip rfl rfl (L_skip rfl rfl (L_skip rfl rfl (L_skip rfl rfl (L_skip rfl rfl (L_skip rfl rfl (L_skip rfl rfl (L_skip rfl rfl (L_skip rfl rfl (LY rfl (y_pick_f rfl rfl) (L_nil (C_cond_f rfl (C_skip (C_region (LY rfl (y_move rfl) ?_))))))))))))))))
      refine LY rfl (y_add rfl rfl (show _ = (2 : Int) from rfl)) ?_
      refine LY rfl (y_assign rfl) (L_nil ?_)
      refine In_round ?_
      refine C_seq (C_seq (C_region (LY rfl (y_move rfl) (LY rfl (y_lss rfl rfl) (L_nil (C_cond_f rfl (C_exit (C_seq (C_region ?_)))))))))
      refine LY rfl (y_buildA0 Try.underlying32 sz_5 zl_32) ?_
      refine L_op rfl (op_storeA 5 0 rfl rfl rfl sz_32 (by rw [zsec, bs_length, secOf_len]) rfl (by rw [zsec]; exact bs_one _) (by simp) ?_)
      rw [zsec]
      refine LY rfl (y_assign rfl) (L_nil (C_ret ?_))
      refine B_ret (rv_cellA rfl ag_32 sz_32 (sees 5 0 rfl) (by first | (rw [bs_length, secOf_len]; decide) | (rw [bs_length, lget_len hl0 hn ok0]; decide) | (rw [bs_length, lget_len hl1 hn ok1]; decide)) (by first | exact bs_whole0 _ (secOf_len 0) | exact bs_whole0 _ (lget_len hl0 hn ok0) | exact bs_whole0 _ (lget_len hl1 hn ok1)) (rv_tmp rfl rv_nil)) ((hsub (.cons_cons _ (.cons_cons _ (.cons_cons _ (.cons_cons _ (.cons_cons _ (.cons _ (.refl _)))))))).trans (hsub_pick [0, 0, 0, 0, 0] rfl)) ?_
      exact ⟨by simp_all [Rm.readE, Rm.readS, Rs.tells, Rs.old, Rs.at] <;> rfl, rfl⟩

theorem rread_ft {w0 : World} {H : Hp} {o : Ro} {K : Nat} {l0 l1 : List Sec} {s0 s1 : List Bool} (ok : RmOk (⟨⟨l0, false, s0⟩, ⟨l1, true, s1⟩⟩ : Rm) K) (n : Nat) (hn : n < K) (hb : Rm.has (⟨⟨l0, false, s0⟩, ⟨l1, true, s1⟩⟩ : Rm) (n : Int) = true) : FnS Try.prog w0 67 #[ptr o.b, .int .i64 (n : Int)] (o.hp 126 32 4 K (⟨⟨l0, false, s0⟩, ⟨l1, true, s1⟩⟩ : Rm) H) (fun e H' => e = .returned (.tuple #[.agg (bs (Rm.readS (⟨⟨l0, false, s0⟩, ⟨l1, true, s1⟩⟩ : Rm) goodP n)).toArray, .int .i64 (Rm.readE (⟨⟨l0, false, s0⟩, ⟨l1, true, s1⟩⟩ : Rm) goodP n)]) ∧ H' = (o.hp 126 32 4 K (⟨⟨l0, false, s0⟩, ⟨l1, true, s1⟩⟩ : Rm) H)) := by
  have hl0 : l0.length = K := ok.l0
  have hl1 : l1.length = K := ok.l1
  have hs0 : s0.length = K := ok.s0
  have hs1 : s1.length = K := ok.s1
  have ok0 : ∀ s ∈ l0, s.length = 128 := ok.ok0
  have ok1 : ∀ s ∈ l1, s.length = 128 := ok.ok1
  have hK := ok.le
  refine FnS_intro (n := 71) (rs := [.cell 4 32, .tmp 5]) (vs := [ptr o.b, .int .i64 (n : Int)]) Try.func67 rfl Try.ntmps67 rfl rfl ?_
  refine C_seq (C_region ?_)
  refine L_op rfl (op_alloc zl_32 rfl (fun B1 => ?_))
  refine LY rfl (y_assign rfl) (L_nil (C_seq (C_seq (C_region (LY rfl (y_move rfl) (LY rfl (y_move rfl) ?_))))))
  refine L_op rfl (op_call rfl rfl (fun a w => Try.call71 a w) rfl ?_)
  refine (FnS.sub (hsub_pick [1, 1, 1, 1, 1] rfl) (rthere_s ok _)).mono ?_
  rintro _ _ ⟨e4, rfl⟩
  rw [hb] at e4
  obtain rfl := e4
  refine ⟨_, rfl, ?_⟩
  refine LY rfl (y_not rfl) (L_nil (C_cond_f rfl (C_skip (C_seq (C_seq (C_region (LY rfl (y_move rfl) (LY rfl (y_nilCheck rfl) (LY rfl (y_fieldAddr rfl fl_126_1) ?_)))))))))
  refine LY rfl (y_indexA rfl rfl Try.underlying62 sz_4 (by omega) (by omega) (show _ = 2 from rfl)) ?_
  refine LY rfl (y_load rfl ag_4 (sees 0 0 rfl) rfl) (LY rfl (y_move rfl) (L_skip rfl rfl (L_skip rfl rfl (L_skip rfl rfl (L_skip rfl rfl (L_skip rfl rfl (LY rfl (y_pick_f rfl rfl) (L_nil (C_cond_f rfl (C_skip (C_seq (C_seq (C_region (LY rfl (y_assign rfl) (L_nil (C_block ?_))))))))))))))))
  refine C_loopIn (In_round ?_)
  refine C_seq (C_seq (C_region (LY rfl (y_move rfl) (LY rfl (y_lss rfl rfl) (L_nil (C_cond_t rfl (C_skip (C_seq (C_block (C_seq (C_region (LY rfl (y_move rfl) (LY rfl (y_move rfl) (LY rfl (y_nilCheck rfl) (LY rfl (y_fieldAddr rfl fl_126_1) ?_)))))))))))))))
  refine LY rfl (y_indexA rfl rfl Try.underlying62 sz_4 (by omega) (by omega) (show _ = 2 from rfl)) ?_
  refine LY rfl (y_load rfl ag_4 (sees 0 0 rfl) rfl) (LY rfl (y_not rfl) (LY rfl (y_move rfl) (LY rfl (y_move rfl) (LY rfl (y_move rfl) (LY rfl (y_nilCheck rfl) (LY rfl (y_fieldAddr rfl fl_126_2) ?_))))))
  refine LY rfl (y_indexA rfl rfl Try.underlying124 sz_123 (by omega) (by omega) (show _ = 4 from rfl)) ?_
  refine LY rfl (y_load rfl ag_123 (sees 0 0 rfl) rfl) (LY rfl (y_move rfl) ?_)
  refine LY rfl (y_indexS rfl rfl Try.underlying123 sz_4 (by omega) (by omega) (show _ = n from by simp)) ?_
  refine LY rfl (y_load rfl ag_4 (sees 3 0 rfl) (bls_get (by first | omega | (dsimp only; omega)))) ?_
  refine LY rfl (y_not rfl) (LY rfl (y_pick_t rfl rfl) (LY rfl (y_move rfl) ?_))
  refine L_case 48 rfl (fun hg8_20 => ?_) (fun hg8_20 => ?_)
  · skip
    refine LY rfl (y_move rfl) (LY rfl (y_move rfl) (LY rfl (y_move rfl) (LY rfl (y_nilCheck rfl) (LY rfl (y_fieldAddr rfl fl_126_0) ?_))))
    refine LY rfl (y_indexA rfl rfl Try.underlying122 sz_40 (by omega) (by omega) (show _ = 0 from rfl)) ?_
    refine LY rfl (y_load rfl ag_40 (sees 0 0 rfl) rfl) (LY rfl (y_move rfl) ?_)
    refine LY rfl (y_indexS rfl rfl Try.underlying40 sz_32 (by omega) (by omega) (show _ = n * 128 from by simp)) ?_
    refine LY rfl (y_loadA rfl ag_32 sz_32 (sees 1 0 rfl) (lseg_le hl0 hn ok0) (lseg_at hl0 hn ok0)) ?_
    refine L_op rfl (op_call rfl rfl (fun a w => Try.call18 a w) rfl ?_)
    refine (good09_s (n : Int) _ (lget_len hl0 hn ok0)).mono ?_
    rintro _ _ ⟨e4, e⟩
    obtain rfl := e.symm
    clear e
    obtain rfl := e4
    refine ⟨_, rfl, ?_⟩
    refine LY rfl (y_pick_t rfl rfl) (L_nil ?_)
    refine C_cond rfl (fun hc3 => ?_) (fun hc3 => ?_)
    · skip
      refine C_seq (C_region (LY rfl (y_move rfl) (LY rfl (y_move rfl) (LY rfl (y_nilCheck rfl) (LY rfl (y_fieldAddr rfl fl_126_0) ?_)))))
      refine LY rfl (y_indexA rfl rfl Try.underlying122 sz_40 (by omega) (by omega) (show _ = 0 from rfl)) ?_
      refine LY rfl (y_load rfl ag_40 (sees 0 0 rfl) rfl) (LY rfl (y_move rfl) ?_)
      refine LY rfl (y_indexS rfl rfl Try.underlying40 sz_32 (by omega) (by omega) (show _ = n * 128 from by simp)) ?_
      refine LY rfl (y_loadA rfl ag_32 sz_32 (sees 1 0 rfl) (lseg_le hl0 hn ok0) (lseg_at hl0 hn ok0)) ?_
      refine L_op rfl (op_storeA 5 0 rfl rfl rfl sz_32 (by rw [bs_length, (lget_len hl0 hn ok0)]) rfl (bs_one _) (by simp) ?_)
      refine LY rfl (y_assign rfl) (L_nil (C_ret ?_))
      refine B_ret (rv_cellA rfl ag_32 sz_32 (sees 5 0 rfl) (by first | (rw [bs_length, secOf_len]; decide) | (rw [bs_length, lget_len hl0 hn ok0]; decide) | (rw [bs_length, lget_len hl1 hn ok1]; decide)) (by first | exact bs_whole0 _ (secOf_len 0) | exact bs_whole0 _ (lget_len hl0 hn ok0) | exact bs_whole0 _ (lget_len hl1 hn ok1)) (rv_tmp rfl rv_nil)) ((hsub (.cons_cons _ (.cons_cons _ (.cons_cons _ (.cons_cons _ (.cons_cons _ (.cons _ (.refl _)))))))).trans (hsub_pick [0, 0, 0, 0, 0] rfl)) ?_
      exact ⟨by simp_all [Rm.readE, Rm.readS, Rs.tells, Rs.old, Rs.at] <;> rfl, rfl⟩
    · skip
      refine C_skip (C_region (LY rfl (y_move rfl) ?_))
      refine LY rfl (y_add rfl rfl (show _ = (1 : Int) from rfl)) ?_
      refine LY rfl (y_assign rfl) (L_nil ?_)
      refine In_round ?_
      refine C_seq (C_seq (C_region (LY rfl (y_move rfl) (LY rfl (y_lss rfl rfl) (L_nil (C_cond_t rfl (C_skip (C_seq (C_block (C_seq (C_region (LY rfl (y_move rfl) (LY rfl (y_move rfl) (LY rfl (y_nilCheck rfl) (LY rfl (y_fieldAddr rfl fl_126_1) ?_)))))))))))))))
      refine LY rfl (y_indexA rfl rfl Try.underlying62 sz_4 (by omega) (by omega) (show _ = 3 from rfl)) ?_
      refine LY rfl (y_load rfl ag_4 (sees 0 0 rfl) rfl) (LY rfl (y_not rfl) (LY rfl (y_move rfl) (L_skip rfl rfl (L_skip rfl rfl (L_skip rfl rfl (L_skip rfl rfl (L_skip rfl rfl (L_skip rfl rfl (L_skip rfl rfl (L_skip rfl rfl (L_skip rfl rfl (L_skip rfl rfl (LY rfl (y_pick_f rfl rfl) (LY rfl (y_move rfl) (L_skip rfl rfl (L_skip rfl rfl (L_skip rfl rfl (L_skip rfl rfl (L_skip rfl rfl (L_skip rfl rfl (L_skip rfl rfl (L_skip rfl rfl (L_skip rfl rfl (L_skip rfl rfl (L_skip rfl rfl (LY rfl (y_pick_f rfl rfl) (L_nil (C_cond_f rfl (C_skip (C_region (LY rfl (y_move rfl) ?_)))))))))))))))))))))))))))))))
      refine LY rfl (y_add rfl rfl (show _ = (2 : Int) from rfl)) ?_
      refine LY rfl (y_assign rfl) (L_nil ?_)
      refine In_round ?_
      refine C_seq (C_seq (C_region (LY rfl (y_move rfl) (LY rfl (y_lss rfl rfl) (L_nil (C_cond_f rfl (C_exit (C_seq (C_region ?_)))))))))
      refine LY rfl (y_buildA0 Try.underlying32 sz_5 zl_32) ?_
      refine L_op rfl (op_storeA 5 0 rfl rfl rfl sz_32 (by rw [zsec, bs_length, secOf_len]) rfl (by rw [zsec]; exact bs_one _) (by simp) ?_)
      rw [zsec]
      refine LY rfl (y_assign rfl) (L_nil (C_ret ?_))
      refine B_ret (rv_cellA rfl ag_32 sz_32 (sees 5 0 rfl) (by first | (rw [bs_length, secOf_len]; decide) | (rw [bs_length, lget_len hl0 hn ok0]; decide) | (rw [bs_length, lget_len hl1 hn ok1]; decide)) (by first | exact bs_whole0 _ (secOf_len 0) | exact bs_whole0 _ (lget_len hl0 hn ok0) | exact bs_whole0 _ (lget_len hl1 hn ok1)) (rv_tmp rfl rv_nil)) ((hsub (.cons_cons _ (.cons_cons _ (.cons_cons _ (.cons_cons _ (.cons_cons _ (.cons _ (.refl _)))))))).trans (hsub_pick [0, 0, 0, 0, 0] rfl)) ?_
      exact ⟨by simp_all [Rm.readE, Rm.readS, Rs.tells, Rs.old, Rs.at] <;> rfl, rfl⟩
  · skip
    refine L_skip rfl rfl (L_skip rfl rfl (L_skip rfl rfl (L_skip rfl rfl (L_skip rfl rfl (L_skip rfl rfl (L_skip rfl rfl (L_skip rfl rfl (L_skip rfl rfl (L_skip rfl rfl (L_skip rfl rfl (LY rfl (y_pick_f rfl rfl) (L_nil (C_cond_f rfl (C_skip (C_region (LY rfl (y_move rfl) ?_))))))))))))))))
    refine LY rfl (y_add rfl rfl (show _ = (1 : Int) from rfl)) ?_
    refine LY rfl (y_assign rfl) (L_nil ?_)
    refine In_round ?_
    refine C_seq (C_seq (C_region (LY rfl (y_move rfl) (LY rfl (y_lss rfl rfl) (L_nil (C_cond_t rfl (C_skip (C_seq (C_block (C_seq (C_region (LY rfl (y_move rfl) (LY rfl (y_move rfl) (LY rfl (y_nilCheck rfl) (LY rfl (y_fieldAddr rfl fl_126_1) ?_)))))))))))))))
    refine LY rfl (y_indexA rfl rfl Try.underlying62 sz_4 (by omega) (by omega) (show _ = 3 from rfl)) ?_
    refine LY rfl (y_load rfl ag_4 (sees 0 0 rfl) rfl) (LY rfl (y_not rfl) (LY rfl (y_move rfl) (L_skip rfl rfl (L_skip rfl rfl (L_skip rfl rfl (L_skip rfl rfl (L_skip rfl rfl (L_skip rfl rfl (L_skip rfl rfl (L_skip rfl rfl (L_skip rfl rfl (L_skip rfl rfl (LY rfl (y_pick_f rfl rfl) (LY rfl (y_move rfl) (L_skip rfl rfl (L_skip rfl rfl (L_skip rfl rfl (L_skip rfl rfl (L_skip rfl rfl (L_skip rfl rfl (L_skip rfl rfl (L_skip rfl rfl (L_skip rfl rfl (L_skip rfl rfl (L_skip rfl rfl (LY rfl (y_pick_f rfl rfl) (L_nil (C_cond_f rfl (C_skip (C_region (LY rfl (y_move rfl) ?_)))))))))))))))))))))))))))))))
    refine LY rfl (y_add rfl rfl (show _ = (2 : Int) from rfl)) ?_
    refine LY rfl (y_assign rfl) (L_nil ?_)
    refine In_round ?_
    refine C_seq (C_seq (C_region (LY rfl (y_move rfl) (LY rfl (y_lss rfl rfl) (L_nil (C_cond_f rfl (C_exit (C_seq (C_region ?_)))))))))
    refine LY rfl (y_buildA0 Try.underlying32 sz_5 zl_32) ?_
    refine L_op rfl (op_storeA 5 0 rfl rfl rfl sz_32 (by rw [zsec, bs_length, secOf_len]) rfl (by rw [zsec]; exact bs_one _) (by simp) ?_)
    rw [zsec]
    refine LY rfl (y_assign rfl) (L_nil (C_ret ?_))
    refine B_ret (rv_cellA rfl ag_32 sz_32 (sees 5 0 rfl) (by first | (rw [bs_length, secOf_len]; decide) | (rw [bs_length, lget_len hl0 hn ok0]; decide) | (rw [bs_length, lget_len hl1 hn ok1]; decide)) (by first | exact bs_whole0 _ (secOf_len 0) | exact bs_whole0 _ (lget_len hl0 hn ok0) | exact bs_whole0 _ (lget_len hl1 hn ok1)) (rv_tmp rfl rv_nil)) ((hsub (.cons_cons _ (.cons_cons _ (.cons_cons _ (.cons_cons _ (.cons_cons _ (.cons _ (.refl _)))))))).trans (hsub_pick [0, 0, 0, 0, 0] rfl)) ?_
    exact ⟨by simp_all [Rm.readE, Rm.readS, Rs.tells, Rs.old, Rs.at] <;> rfl, rfl⟩

theorem rread_tf {w0 : World} {H : Hp} {o : Ro} {K : Nat} {l0 l1 : List Sec} {s0 s1 : List Bool} (ok : RmOk (⟨⟨l0, true, s0⟩, ⟨l1, false, s1⟩⟩ : Rm) K) (n : Nat) (hn : n < K) (hb : Rm.has (⟨⟨l0, true, s0⟩, ⟨l1, false, s1⟩⟩ : Rm) (n : Int) = true) : FnS Try.prog w0 67 #[ptr o.b, .int .i64 (n : Int)] (o.hp 126 32 4 K (⟨⟨l0, true, s0⟩, ⟨l1, false, s1⟩⟩ : Rm) H) (fun e H' => e = .returned (.tuple #[.agg (bs (Rm.readS (⟨⟨l0, true, s0⟩, ⟨l1, false, s1⟩⟩ : Rm) goodP n)).toArray, .int .i64 (Rm.readE (⟨⟨l0, true, s0⟩, ⟨l1, false, s1⟩⟩ : Rm) goodP n)]) ∧ H' = (o.hp 126 32 4 K (⟨⟨l0, true, s0⟩, ⟨l1, false, s1⟩⟩ : Rm) H)) := by
  have hl0 : l0.length = K := ok.l0
  have hl1 : l1.length = K := ok.l1
  have hs0 : s0.length = K := ok.s0
  have hs1 : s1.length = K := ok.s1
  have ok0 : ∀ s ∈ l0, s.length = 128 := ok.ok0
  have ok1 : ∀ s ∈ l1, s.length = 128 := ok.ok1
  have hK := ok.le
  refine FnS_intro (n := 71) (rs := [.cell 4 32, .tmp 5]) (vs := [ptr o.b, .int .i64 (n : Int)]) Try.func67 rfl Try.ntmps67 rfl rfl ?_
  refine C_seq (C_region ?_)
  refine L_op rfl (op_alloc zl_32 rfl (fun B1 => ?_))
  refine LY rfl (y_assign rfl) (L_nil (C_seq (C_seq (C_region (LY rfl (y_move rfl) (LY rfl (y_move rfl) ?_))))))
  refine L_op rfl (op_call rfl rfl (fun a w => Try.call71 a w) rfl ?_)
  refine (FnS.sub (hsub_pick [1, 1, 1, 1, 1] rfl) (rthere_s ok _)).mono ?_
  rintro _ _ ⟨e4, rfl⟩
  rw [hb] at e4
  obtain rfl := e4
  refine ⟨_, rfl, ?_⟩
  refine LY rfl (y_not rfl) (L_nil (C_cond_f rfl (C_skip (C_seq (C_seq (C_region (LY rfl (y_move rfl) (LY rfl (y_nilCheck rfl) (LY rfl (y_fieldAddr rfl fl_126_1) ?_)))))))))
  refine LY rfl (y_indexA rfl rfl Try.underlying62 sz_4 (by omega) (by omega) (show _ = 2 from rfl)) ?_
  refine LY rfl (y_load rfl ag_4 (sees 0 0 rfl) rfl) (LY rfl (y_move rfl) (LY rfl (y_move rfl) (LY rfl (y_nilCheck rfl) (LY rfl (y_fieldAddr rfl fl_126_1) ?_))))
  refine LY rfl (y_indexA rfl rfl Try.underlying62 sz_4 (by omega) (by omega) (show _ = 3 from rfl)) ?_
  refine LY rfl (y_load rfl ag_4 (sees 0 0 rfl) rfl) (LY rfl (y_pick_t rfl rfl) (L_nil (C_cond_f rfl (C_skip (C_seq (C_seq (C_region (LY rfl (y_assign rfl) (L_nil (C_block ?_))))))))))
  refine C_loopIn (In_round ?_)
  refine C_seq (C_seq (C_region (LY rfl (y_move rfl) (LY rfl (y_lss rfl rfl) (L_nil (C_cond_t rfl (C_skip (C_seq (C_block (C_seq (C_region (LY rfl (y_move rfl) (LY rfl (y_move rfl) (LY rfl (y_nilCheck rfl) (LY rfl (y_fieldAddr rfl fl_126_1) ?_)))))))))))))))
  refine LY rfl (y_indexA rfl rfl Try.underlying62 sz_4 (by omega) (by omega) (show _ = 2 from rfl)) ?_
  refine LY rfl (y_load rfl ag_4 (sees 0 0 rfl) rfl) (LY rfl (y_not rfl) (LY rfl (y_move rfl) (L_skip rfl rfl (L_skip rfl rfl (L_skip rfl rfl (L_skip rfl rfl (L_skip rfl rfl (L_skip rfl rfl (L_skip rfl rfl (L_skip rfl rfl (L_skip rfl rfl (L_skip rfl rfl (LY rfl (y_pick_f rfl rfl) (LY rfl (y_move rfl) (L_skip rfl rfl (L_skip rfl rfl (L_skip rfl rfl (L_skip rfl rfl (L_skip rfl rfl (L_skip rfl rfl (L_skip rfl rfl (L_skip rfl rfl (L_skip rfl rfl (L_skip rfl rfl (L_skip rfl rfl (LY rfl (y_pick_f rfl rfl) (L_nil (C_cond_f rfl (C_skip (C_region (LY rfl (y_move rfl) ?_)))))))))))))))))))))))))))))))
  refine LY rfl (y_add rfl rfl (show _ = (1 : Int) from rfl)) ?_
  refine LY rfl (y_assign rfl) (L_nil ?_)
  refine In_round ?_
  refine C_seq (C_seq (C_region (LY rfl (y_move rfl) (LY rfl (y_lss rfl rfl) (L_nil (C_cond_t rfl (C_skip (C_seq (C_block (C_seq (C_region (LY rfl (y_move rfl) (LY rfl (y_move rfl) (LY rfl (y_nilCheck rfl) (LY rfl (y_fieldAddr rfl fl_126_1) ?_)))))))))))))))
  refine LY rfl (y_indexA rfl rfl Try.underlying62 sz_4 (by omega) (by omega) (show _ = 3 from rfl)) ?_
  refine LY rfl (y_load rfl ag_4 (sees 0 0 rfl) rfl) (LY rfl (y_not rfl) (LY rfl (y_move rfl) (LY rfl (y_move rfl) (LY rfl (y_move rfl) (LY rfl (y_nilCheck rfl) (LY rfl (y_fieldAddr rfl fl_126_2) ?_))))))
  refine LY rfl (y_indexA rfl rfl Try.underlying124 sz_123 (by omega) (by omega) (show _ = 5 from rfl)) ?_
  refine LY rfl (y_load rfl ag_123 (sees 0 0 rfl) rfl) (LY rfl (y_move rfl) ?_)
  refine LY rfl (y_indexS rfl rfl Try.underlying123 sz_4 (by omega) (by omega) (show _ = n from by simp)) ?_
  refine LY rfl (y_load rfl ag_4 (sees 4 0 rfl) (bls_get (by first | omega | (dsimp only; omega)))) ?_
  refine LY rfl (y_not rfl) (LY rfl (y_pick_t rfl rfl) (LY rfl (y_move rfl) ?_))
  refine L_case 48 rfl (fun hg8_20 => ?_) (fun hg8_20 => ?_)
  · skip
    refine LY rfl (y_move rfl) (LY rfl (y_move rfl) (LY rfl (y_move rfl) (LY rfl (y_nilCheck rfl) (LY rfl (y_fieldAddr rfl fl_126_0) ?_))))
    refine LY rfl (y_indexA rfl rfl Try.underlying122 sz_40 (by omega) (by omega) (show _ = 1 from rfl)) ?_
    refine LY rfl (y_load rfl ag_40 (sees 0 0 rfl) rfl) (LY rfl (y_move rfl) ?_)
    refine LY rfl (y_indexS rfl rfl Try.underlying40 sz_32 (by omega) (by omega) (show _ = n * 128 from by simp)) ?_
    refine LY rfl (y_loadA rfl ag_32 sz_32 (sees 2 0 rfl) (lseg_le hl1 hn ok1) (lseg_at hl1 hn ok1)) ?_
    refine L_op rfl (op_call rfl rfl (fun a w => Try.call18 a w) rfl ?_)
    refine (good09_s (n : Int) _ (lget_len hl1 hn ok1)).mono ?_
    rintro _ _ ⟨e4, e⟩
    obtain rfl := e.symm
    clear e
    obtain rfl := e4
    refine ⟨_, rfl, ?_⟩
    refine LY rfl (y_pick_t rfl rfl) (L_nil ?_)
    refine C_cond rfl (fun hc3 => ?_) (fun hc3 => ?_)
    · skip
      refine C_seq (C_region (LY rfl (y_move rfl) (LY rfl (y_move rfl) (LY rfl (y_nilCheck rfl) (LY rfl (y_fieldAddr rfl fl_126_0) ?_)))))
      refine LY rfl (y_indexA rfl rfl Try.underlying122 sz_40 (by omega) (by omega) (show _ = 1 from rfl)) ?_
      refine LY rfl (y_load rfl ag_40 (sees 0 0 rfl) rfl) (LY rfl (y_move rfl) ?_)
      refine LY rfl (y_indexS rfl rfl Try.underlying40 sz_32 (by omega) (by omega) (show _ = n * 128 from by simp)) ?_
      refine LY rfl (y_loadA rfl ag_32 sz_32 (sees 2 0 rfl) (lseg_le hl1 hn ok1) (lseg_at hl1 hn ok1)) ?_
      refine L_op rfl (op_storeA 5 0 rfl rfl rfl sz_32 (by rw [bs_length, (lget_len hl1 hn ok1)]) rfl (bs_one _) (by simp) ?_)
      refine LY rfl (y_assign rfl) (L_nil (C_ret ?_))
      refine B_ret (rv_cellA rfl ag_32 sz_32 (sees 5 0 rfl) (by first | (rw [bs_length, secOf_len]; decide) | (rw [bs_length, lget_len hl0 hn ok0]; decide) | (rw [bs_length, lget_len hl1 hn ok1]; decide)) (by first | exact bs_whole0 _ (secOf_len 0) | exact bs_whole0 _ (lget_len hl0 hn ok0) | exact bs_whole0 _ (lget_len hl1 hn ok1)) (rv_tmp rfl rv_nil)) ((hsub (.cons_cons _ (.cons_cons _ (.cons_cons _ (.cons_cons _ (.cons_cons _ (.cons _ (.refl _)))))))).trans (hsub_pick [0, 0, 0, 0, 0] rfl)) ?_
      exact ⟨by simp_all [Rm.readE, Rm.readS, Rs.tells, Rs.old, Rs.at] <;> rfl, rfl⟩
    · skip
      refine C_skip (C_region (LY rfl (y_move rfl) ?_))
      refine LY rfl (y_add rfl rfl (show _ = (2 : Int) from rfl)) ?_
      refine LY rfl (y_assign rfl) (L_nil ?_)
      refine In_round ?_
      refine C_seq (C_seq (C_region (LY rfl (y_move rfl) (LY rfl (y_lss rfl rfl) (L_nil (C_cond_f rfl (C_exit (C_seq (C_region ?_)))))))))
      refine LY rfl (y_buildA0 Try.underlying32 sz_5 zl_32) ?_
      refine L_op rfl (op_storeA 5 0 rfl rfl rfl sz_32 (by rw [zsec, bs_length, secOf_len]) rfl (by rw [zsec]; exact bs_one _) (by simp) ?_)
      rw [zsec]
      refine LY rfl (y_assign rfl) (L_nil (C_ret ?_))
      refine B_ret (rv_cellA rfl ag_32 sz_32 (sees 5 0 rfl) (by first | (rw [bs_length, secOf_len]; decide) | (rw [bs_length, lget_len hl0 hn ok0]; decide) | (rw [bs_length, lget_len hl1 hn ok1]; decide)) (by first | exact bs_whole0 _ (secOf_len 0) | exact bs_whole0 _ (lget_len hl0 hn ok0) | exact bs_whole0 _ (lget_len hl1 hn ok1)) (rv_tmp rfl rv_nil)) ((hsub (.cons_cons _ (.cons_cons _ (.cons_cons _ (.cons_cons _ (.cons_cons _ (.cons _ (.refl _)))))))).trans (hsub_pick [0, 0, 0, 0, 0] rfl)) ?_
      exact ⟨by simp_all [Rm.readE, Rm.readS, Rs.tells, Rs.old, Rs.at] <;> rfl, rfl⟩
  · skip
    refine L_skip rfl rfl (L_skip rfl rfl (L_skip rfl rfl (L_skip rfl rfl (L_skip rfl rfl (L_skip rfl rfl (L_skip rfl rfl (L_skip rfl rfl (L_skip rfl rfl (L_skip rfl rfl (L_skip rfl rfl (LY rfl (y_pick_f rfl rfl) (L_nil (C_cond_f rfl (C_skip (C_region (LY rfl (y_move rfl) ?_))))))))))))))))
    refine LY rfl (y_add rfl rfl (show _ = (2 : Int) from rfl)) ?_
    refine LY rfl (y_assign rfl) (L_nil ?_)
    refine In_round ?_
    refine C_seq (C_seq (C_region (LY rfl (y_move rfl) (LY rfl (y_lss rfl rfl) (L_nil (C_cond_f rfl (C_exit (C_seq (C_region ?_)))))))))
    refine LY rfl (y_buildA0 Try.underlying32 sz_5 zl_32) ?_
    refine L_op rfl (op_storeA 5 0 rfl rfl rfl sz_32 (by rw [zsec, bs_length, secOf_len]) rfl (by rw [zsec]; exact bs_one _) (by simp) ?_)
    rw [zsec]
    refine LY rfl (y_assign rfl) (L_nil (C_ret ?_))
    refine B_ret (rv_cellA rfl ag_32 sz_32 (sees 5 0 rfl) (by first | (rw [bs_length, secOf_len]; decide) | (rw [bs_length, lget_len hl0 hn ok0]; decide) | (rw [bs_length, lget_len hl1 hn ok1]; decide)) (by first | exact bs_whole0 _ (secOf_len 0) | exact bs_whole0 _ (lget_len hl0 hn ok0) | exact bs_whole0 _ (lget_len hl1 hn ok1)) (rv_tmp rfl rv_nil)) ((hsub (.cons_cons _ (.cons_cons _ (.cons_cons _ (.cons_cons _ (.cons_cons _ (.cons _ (.refl _)))))))).trans (hsub_pick [0, 0, 0, 0, 0] rfl)) ?_
    exact ⟨by simp_all [Rm.readE, Rm.readS, Rs.tells, Rs.old, Rs.at] <;> rfl, rfl⟩

theorem rread_tt {w0 : World} {H : Hp} {o : Ro} {K : Nat} {l0 l1 : List Sec} {s0 s1 : List Bool} (ok : RmOk (⟨⟨l0, true, s0⟩, ⟨l1, true, s1⟩⟩ : Rm) K) (n : Nat) (hn : n < K) (hb : Rm.has (⟨⟨l0, true, s0⟩, ⟨l1, true, s1⟩⟩ : Rm) (n : Int) = true) : FnS Try.prog w0 67 #[ptr o.b, .int .i64 (n : Int)] (o.hp 126 32 4 K (⟨⟨l0, true, s0⟩, ⟨l1, true, s1⟩⟩ : Rm) H) (fun e H' => e = .returned (.tuple #[.agg (bs (Rm.readS (⟨⟨l0, true, s0⟩, ⟨l1, true, s1⟩⟩ : Rm) goodP n)).toArray, .int .i64 (Rm.readE (⟨⟨l0, true, s0⟩, ⟨l1, true, s1⟩⟩ : Rm) goodP n)]) ∧ H' = (o.hp 126 32 4 K (⟨⟨l0, true, s0⟩, ⟨l1, true, s1⟩⟩ : Rm) H)) := by
  have hl0 : l0.length = K := ok.l0
  have hl1 : l1.length = K := ok.l1
  have hs0 : s0.length = K := ok.s0
  have hs1 : s1.length = K := ok.s1
  have ok0 : ∀ s ∈ l0, s.length = 128 := ok.ok0
  have ok1 : ∀ s ∈ l1, s.length = 128 := ok.ok1
  have hK := ok.le
  refine FnS_intro (n := 71) (rs := [.cell 4 32, .tmp 5]) (vs := [ptr o.b, .int .i64 (n : Int)]) Try.func67 rfl Try.ntmps67 rfl rfl ?_
  refine C_seq (C_region ?_)
  refine L_op rfl (op_alloc zl_32 rfl (fun B1 => ?_))
  refine LY rfl (y_assign rfl) (L_nil (C_seq (C_seq (C_region (LY rfl (y_move rfl) (LY rfl (y_move rfl) ?_))))))
  refine L_op rfl (op_call rfl rfl (fun a w => Try.call71 a w) rfl ?_)
  refine (FnS.sub (hsub_pick [1, 1, 1, 1, 1] rfl) (rthere_s ok _)).mono ?_
  rintro _ _ ⟨e4, rfl⟩
  rw [hb] at e4
  obtain rfl := e4
  refine ⟨_, rfl, ?_⟩
  refine LY rfl (y_not rfl) (L_nil (C_cond_f rfl (C_skip (C_seq (C_seq (C_region (LY rfl (y_move rfl) (LY rfl (y_nilCheck rfl) (LY rfl (y_fieldAddr rfl fl_126_1) ?_)))))))))
  refine LY rfl (y_indexA rfl rfl Try.underlying62 sz_4 (by omega) (by omega) (show _ = 2 from rfl)) ?_
  refine LY rfl (y_load rfl ag_4 (sees 0 0 rfl) rfl) (LY rfl (y_move rfl) (LY rfl (y_move rfl) (LY rfl (y_nilCheck rfl) (LY rfl (y_fieldAddr rfl fl_126_1) ?_))))
  refine LY rfl (y_indexA rfl rfl Try.underlying62 sz_4 (by omega) (by omega) (show _ = 3 from rfl)) ?_
  refine LY rfl (y_load rfl ag_4 (sees 0 0 rfl) rfl) (LY rfl (y_pick_t rfl rfl) (L_nil (C_cond_t rfl (C_seq (C_region ?_)))))
  refine LY rfl (y_buildA0 Try.underlying32 sz_5 zl_32) ?_
  refine L_op rfl (op_storeA 5 0 rfl rfl rfl sz_32 (by rw [zsec, bs_length, secOf_len]) rfl (by rw [zsec]; exact bs_one _) (by simp) ?_)
  rw [zsec]
  refine LY rfl (y_assign rfl) (L_nil (C_ret ?_))
  refine B_ret (rv_cellA rfl ag_32 sz_32 (sees 5 0 rfl) (by first | (rw [bs_length, secOf_len]; decide) | (rw [bs_length, lget_len hl0 hn ok0]; decide) | (rw [bs_length, lget_len hl1 hn ok1]; decide)) (by first | exact bs_whole0 _ (secOf_len 0) | exact bs_whole0 _ (lget_len hl0 hn ok0) | exact bs_whole0 _ (lget_len hl1 hn ok1)) (rv_tmp rfl rv_nil)) ((hsub (.cons_cons _ (.cons_cons _ (.cons_cons _ (.cons_cons _ (.cons_cons _ (.cons _ (.refl _)))))))).trans (hsub_pick [0, 0, 0, 0, 0] rfl)) ?_
  exact ⟨by simp_all [Rm.readE, Rm.readS, Rs.tells, Rs.old, Rs.at] <;> rfl, rfl⟩

theorem rread_s {w0 : World} {H : Hp} {o : Ro} {K : Nat} {r : Rm} (ok : RmOk r K) (n : Int) : FnS Try.prog w0 67 #[ptr o.b, .int .i64 n] (o.hp 126 32 4 K r H) (fun e H' => e = .returned (.tuple #[.agg (bs (Rm.readS r goodP n)).toArray, .int .i64 (Rm.readE r goodP n)]) ∧ H' = (o.hp 126 32 4 K r H)) := by
  rcases tf (r.has n) with hb | hb
  · exact rread_no ok n hb
  · obtain ⟨n, rfl⟩ : ∃ k : Nat, n = k := ⟨n.toNat, by unfold Rm.has at hb; simp at hb; omega⟩
    have hn : n < K := by unfold Rm.has at hb; rw [ok.l0] at hb; simp at hb; omega
    obtain ⟨⟨l0, o0, s0⟩, ⟨l1, o1, s1⟩⟩ := r
    cases o0 <;> cases o1
    · exact rread_ff ok n (by omega) hb
    · exact rread_ft ok n (by omega) hb
    · exact rread_tf ok n (by omega) hb
    · exact rread_tt ok n (by omega) hb

end Go.Proofs.Ytjjiclgbdenkkaa

/- walks (own work; the walks' lines by a program of this repo). -/
set_option linter.unusedVariables false
set_option linter.unusedSimpArgs false
set_option maxRecDepth 20000
namespace Go.Proofs.Ytjjiclgbdenkkaa
open Go.Sl
attribute [local irreducible] BodyQ WpC WpL WpS WpH OpW FnS


theorem rwrite_no {w0 : World} {H : Hp} {o : Ro} {K : Nat} {r : Rm} (ok : RmOk r K) (n : Int) (s : Sec) (hs : s.length = 128) (hb : r.has n = false) : FnS Try.prog w0 66 #[ptr o.b, .int .i64 n, .agg (bs s).toArray] (o.hp 126 32 4 K r H) (fun e H' => e = .returned (.int .i64 (Rm.writeE r n)) ∧ H' = (o.hp 126 32 4 K (Rm.write r n s) H)) := by
  refine FnS_intro (n := 58) (rs := [.tmp 6]) (vs := [ptr o.b, .int .i64 n, .agg (bs s).toArray]) Try.func66 rfl Try.ntmps66 rfl rfl ?_
  refine C_seq (C_region ?_)
  refine L_op rfl (op_box rfl rfl rfl (fun B1 => ?_))
  refine LY rfl (y_assign rfl) (L_nil (C_seq (C_seq (C_region (LY rfl (y_move rfl) (LY rfl (y_move rfl) ?_))))))
  refine L_op rfl (op_call rfl rfl (fun a w => Try.call71 a w) rfl ?_)
  refine (FnS.sub (hsub_pick [1, 1, 1, 1, 1] rfl) (rthere_s ok _)).mono ?_
  rintro _ _ ⟨e4, rfl⟩
  rw [hb] at e4
  obtain rfl := e4
  refine ⟨_, rfl, ?_⟩
  refine LY rfl (y_not rfl) (L_nil (C_cond_t rfl (C_seq (C_region (LY rfl (y_assign rfl) (L_nil (C_ret ?_)))))))
  refine B_ret (rv_tmp rfl rv_nil) ((hsub (.cons_cons _ (.cons_cons _ (.cons_cons _ (.cons_cons _ (.cons_cons _ (.cons _ (.refl _)))))))).trans (hsub_pick [0, 0, 0, 0, 0] rfl)) ?_
  have e1 : r.write n s = r := by unfold Rm.write; rw [hb]; rfl
  rw [e1]
  exact ⟨by unfold Rm.writeE; rw [hb]; rfl, rfl⟩

theorem rwrite_ff {w0 : World} {H : Hp} {o : Ro} {K : Nat} {l0 l1 : List Sec} {s0 s1 : List Bool} (ok : RmOk (⟨⟨l0, false, s0⟩, ⟨l1, false, s1⟩⟩ : Rm) K) (n : Nat) (s : Sec) (hs : s.length = 128) (hn : n < K) (hb : Rm.has (⟨⟨l0, false, s0⟩, ⟨l1, false, s1⟩⟩ : Rm) (n : Int) = true) : FnS Try.prog w0 66 #[ptr o.b, .int .i64 (n : Int), .agg (bs s).toArray] (o.hp 126 32 4 K (⟨⟨l0, false, s0⟩, ⟨l1, false, s1⟩⟩ : Rm) H) (fun e H' => e = .returned (.int .i64 (Rm.writeE (⟨⟨l0, false, s0⟩, ⟨l1, false, s1⟩⟩ : Rm) n)) ∧ H' = (o.hp 126 32 4 K (Rm.write (⟨⟨l0, false, s0⟩, ⟨l1, false, s1⟩⟩ : Rm) n s) H)) := by
  have hl0 : l0.length = K := ok.l0
  have hl1 : l1.length = K := ok.l1
  have hs0 : s0.length = K := ok.s0
  have hs1 : s1.length = K := ok.s1
  have ok0 : ∀ s ∈ l0, s.length = 128 := ok.ok0
  have ok1 : ∀ s ∈ l1, s.length = 128 := ok.ok1
  have hK := ok.le
  refine FnS_intro (n := 58) (rs := [.tmp 6]) (vs := [ptr o.b, .int .i64 (n : Int), .agg (bs s).toArray]) Try.func66 rfl Try.ntmps66 rfl rfl ?_
  refine C_seq (C_region ?_)
  refine L_op rfl (op_box rfl rfl rfl (fun B1 => ?_))
  refine LY rfl (y_assign rfl) (L_nil (C_seq (C_seq (C_region (LY rfl (y_move rfl) (LY rfl (y_move rfl) ?_))))))
  refine L_op rfl (op_call rfl rfl (fun a w => Try.call71 a w) rfl ?_)
  refine (FnS.sub (hsub_pick [1, 1, 1, 1, 1] rfl) (rthere_s ok _)).mono ?_
  rintro _ _ ⟨e4, rfl⟩
  rw [hb] at e4
  obtain rfl := e4
  refine ⟨_, rfl, ?_⟩
  refine LY rfl (y_not rfl) (L_nil (C_cond_f rfl (C_skip (C_seq (C_seq (C_region (LY rfl (y_move rfl) (LY rfl (y_nilCheck rfl) (LY rfl (y_fieldAddr rfl fl_126_1) ?_)))))))))
  refine LY rfl (y_indexA rfl rfl Try.underlying62 sz_4 (by omega) (by omega) (show _ = 2 from rfl)) ?_
  refine LY rfl (y_load rfl ag_4 (sees 0 0 rfl) rfl) (LY rfl (y_move rfl) (L_skip rfl rfl (L_skip rfl rfl (L_skip rfl rfl (L_skip rfl rfl (L_skip rfl rfl (LY rfl (y_pick_f rfl rfl) (L_nil (C_cond_f rfl (C_skip (C_seq (C_seq (C_region (LY rfl (y_assign rfl) (L_nil (C_block ?_))))))))))))))))
  refine C_loopIn (In_round ?_)
  refine C_seq (C_seq (C_region (LY rfl (y_move rfl) (LY rfl (y_lss rfl rfl) (L_nil (C_cond_t rfl (C_skip (C_seq (C_block (C_seq ?_))))))))))
  refine C_regionH ([(o.b, .cells (o.cells K (⟨⟨l0, false, s0⟩, ⟨l1, false, s1⟩⟩ : Rm)).toArray 126)] :: H) (by kernel_rfl) ?_
  refine HY 0 rfl (((hsub (.cons_cons _ (.cons _ (.cons _ (.cons _ (.cons _ (.cons _ (.refl _)))))))).trans (hsub_pick [0] rfl))) rfl (y_move rfl) ?_
  refine HY 1 rfl (((hsub (.cons_cons _ (.cons _ (.cons _ (.cons _ (.cons _ (.cons _ (.refl _)))))))).trans (hsub_pick [0] rfl))) rfl (y_move rfl) ?_
  refine HY 2 rfl (((hsub (.cons_cons _ (.cons _ (.cons _ (.cons _ (.cons _ (.cons _ (.refl _)))))))).trans (hsub_pick [0] rfl))) rfl (y_nilCheck rfl) ?_
  refine HY 3 rfl (((hsub (.cons_cons _ (.cons _ (.cons _ (.cons _ (.cons _ (.cons _ (.refl _)))))))).trans (hsub_pick [0] rfl))) rfl (y_fieldAddr rfl fl_126_2) ?_
  refine HY 4 rfl (((hsub (.cons_cons _ (.cons _ (.cons _ (.cons _ (.cons _ (.cons _ (.refl _)))))))).trans (hsub_pick [0] rfl))) rfl (y_indexA rfl rfl Try.underlying124 sz_123 (by omega) (by omega) (show _ = 4 from rfl)) ?_
  refine HY 5 rfl (((hsub (.cons_cons _ (.cons _ (.cons _ (.cons _ (.cons _ (.cons _ (.refl _)))))))).trans (hsub_pick [0] rfl))) rfl (y_load rfl ag_123 (sees 0 0 rfl) rfl) ?_
  refine HY 6 rfl (((hsub (.cons_cons _ (.cons _ (.cons _ (.cons _ (.cons _ (.cons _ (.refl _)))))))).trans (hsub_pick [0] rfl))) rfl (y_move rfl) ?_
  refine HY 7 rfl (((hsub (.cons_cons _ (.cons _ (.cons _ (.cons _ (.cons _ (.cons _ (.refl _)))))))).trans (hsub_pick [0] rfl))) rfl (y_move rfl) ?_
  refine HY 8 rfl (((hsub (.cons_cons _ (.cons _ (.cons _ (.cons _ (.cons _ (.cons _ (.refl _)))))))).trans (hsub_pick [0] rfl))) rfl (y_move rfl) ?_
  refine HY 9 rfl (((hsub (.cons_cons _ (.cons _ (.cons _ (.cons _ (.cons _ (.cons _ (.refl _)))))))).trans (hsub_pick [0] rfl))) rfl (y_nilCheck rfl) ?_
  refine HY 10 rfl (((hsub (.cons_cons _ (.cons _ (.cons _ (.cons _ (.cons _ (.cons _ (.refl _)))))))).trans (hsub_pick [0] rfl))) rfl (y_fieldAddr rfl fl_126_1) ?_
  refine HY 11 rfl (((hsub (.cons_cons _ (.cons _ (.cons _ (.cons _ (.cons _ (.cons _ (.refl _)))))))).trans (hsub_pick [0] rfl))) rfl (y_indexA rfl rfl Try.underlying62 sz_4 (by omega) (by omega) (show _ = 2 from rfl)) ?_
  refine HY 12 rfl (((hsub (.cons_cons _ (.cons _ (.cons _ (.cons _ (.cons _ (.cons _ (.refl _)))))))).trans (hsub_pick [0] rfl))) rfl (y_load rfl ag_4 (sees 0 0 rfl) rfl) ?_
  refine HY 13 rfl (((hsub (.cons_cons _ (.cons _ (.cons _ (.cons _ (.cons _ (.cons _ (.refl _)))))))).trans (hsub_pick [0] rfl))) rfl (y_indexS rfl rfl Try.underlying123 sz_4 (by omega) (by omega) (show _ = n from by simp)) ?_
  refine H_one 14 rfl (by kernel_rfl) rfl (op_store1 3 0 rfl rfl rfl sz_4 rfl (by rw [bls_len]; dsimp only; omega) ?_)
  rw [bls_set]
  refine ⟨((hsub (.cons_cons _ (.cons _ (.cons _ (.cons _ (.cons _ (.cons _ (.refl _)))))))).trans (hsub_pick [0] rfl)), ?_⟩
  refine H_done (by kernel_rfl) ?_
  refine C_seq (C_region (LY rfl (y_move rfl) (LY rfl (y_move rfl) (LY rfl (y_nilCheck rfl) (LY rfl (y_fieldAddr rfl fl_126_1) ?_)))))
  refine LY rfl (y_indexA rfl rfl Try.underlying62 sz_4 (by omega) (by omega) (show _ = 2 from rfl)) ?_
  refine LY rfl (y_load rfl ag_4 (sees 0 0 rfl) rfl) (LY rfl (y_not rfl) (L_nil (C_cond_t rfl ?_)))
  refine C_regionH ([(o.b, .cells (o.cells K (⟨⟨l0, false, s0⟩, ⟨l1, false, s1⟩⟩ : Rm)).toArray 126)] :: [(B1, .cells (bs s).toArray 32)] :: H) (by kernel_rfl) ?_
  refine HY 0 rfl (((hsub (.cons_cons _ (.cons_cons _ (.cons _ (.cons _ (.cons _ (.cons _ (.refl _)))))))).trans (hsub_pick [0, 4] rfl))) rfl (y_move rfl) ?_
  refine HY 1 rfl (((hsub (.cons_cons _ (.cons_cons _ (.cons _ (.cons _ (.cons _ (.cons _ (.refl _)))))))).trans (hsub_pick [0, 4] rfl))) rfl (y_move rfl) ?_
  refine HY 2 rfl (((hsub (.cons_cons _ (.cons_cons _ (.cons _ (.cons _ (.cons _ (.cons _ (.refl _)))))))).trans (hsub_pick [0, 4] rfl))) rfl (y_nilCheck rfl) ?_
  refine HY 3 rfl (((hsub (.cons_cons _ (.cons_cons _ (.cons _ (.cons _ (.cons _ (.cons _ (.refl _)))))))).trans (hsub_pick [0, 4] rfl))) rfl (y_fieldAddr rfl fl_126_0) ?_
  refine HY 4 rfl (((hsub (.cons_cons _ (.cons_cons _ (.cons _ (.cons _ (.cons _ (.cons _ (.refl _)))))))).trans (hsub_pick [0, 4] rfl))) rfl (y_indexA rfl rfl Try.underlying122 sz_40 (by omega) (by omega) (show _ = 0 from rfl)) ?_
  refine HY 5 rfl (((hsub (.cons_cons _ (.cons_cons _ (.cons _ (.cons _ (.cons _ (.cons _ (.refl _)))))))).trans (hsub_pick [0, 4] rfl))) rfl (y_load rfl ag_40 (sees 0 0 rfl) rfl) ?_
  refine HY 6 rfl (((hsub (.cons_cons _ (.cons_cons _ (.cons _ (.cons _ (.cons _ (.cons _ (.refl _)))))))).trans (hsub_pick [0, 4] rfl))) rfl (y_move rfl) ?_
  refine HY 7 rfl (((hsub (.cons_cons _ (.cons_cons _ (.cons _ (.cons _ (.cons _ (.cons _ (.refl _)))))))).trans (hsub_pick [0, 4] rfl))) rfl (y_loadA rfl ag_32 sz_32 (sees 1 0 rfl) (by rw [bs_length, hs]; decide) (bs_whole0 _ (hs))) ?_
  refine HY 8 rfl (((hsub (.cons_cons _ (.cons_cons _ (.cons _ (.cons _ (.cons _ (.cons _ (.refl _)))))))).trans (hsub_pick [0, 4] rfl))) rfl (y_indexS rfl rfl Try.underlying40 sz_32 (by omega) (by omega) (show _ = n * 128 from by simp)) ?_
  refine H_one 9 rfl (by kernel_rfl) rfl (op_store 1 0 rfl rfl rfl sz_32 (by rw [bs_length, hs]) rfl (bs_one _) (by rw [bs_length, flat_len ok0, hl0]; omega) ?_)
  rw [flat_spl ok0 (by rw [hl0]; omega) hs]
  refine ⟨((hsub (.cons_cons _ (.cons_cons _ (.cons _ (.cons _ (.cons _ (.cons _ (.refl _)))))))).trans (hsub_pick [0, 4] rfl)), ?_⟩
  refine H_done (by kernel_rfl) ?_
  refine C_region (LY rfl (y_move rfl) ?_)
  refine LY rfl (y_add rfl rfl (show _ = (1 : Int) from rfl)) ?_
  refine LY rfl (y_assign rfl) (L_nil ?_)
  refine In_round ?_
  refine C_seq (C_seq (C_region (LY rfl (y_move rfl) (LY rfl (y_lss rfl rfl) (L_nil (C_cond_t rfl (C_skip (C_seq (C_block (C_seq ?_))))))))))
  refine C_regionH ([(o.b, .cells (o.cells K (⟨⟨l0, false, s0⟩, ⟨l1, false, s1⟩⟩ : Rm)).toArray 126)] :: H) (by kernel_rfl) ?_
  refine HY 0 rfl (((hsub (.cons_cons _ (.cons _ (.cons _ (.cons _ (.cons _ (.cons _ (.refl _)))))))).trans (hsub_pick [0] rfl))) rfl (y_move rfl) ?_
  refine HY 1 rfl (((hsub (.cons_cons _ (.cons _ (.cons _ (.cons _ (.cons _ (.cons _ (.refl _)))))))).trans (hsub_pick [0] rfl))) rfl (y_move rfl) ?_
  refine HY 2 rfl (((hsub (.cons_cons _ (.cons _ (.cons _ (.cons _ (.cons _ (.cons _ (.refl _)))))))).trans (hsub_pick [0] rfl))) rfl (y_nilCheck rfl) ?_
  refine HY 3 rfl (((hsub (.cons_cons _ (.cons _ (.cons _ (.cons _ (.cons _ (.cons _ (.refl _)))))))).trans (hsub_pick [0] rfl))) rfl (y_fieldAddr rfl fl_126_2) ?_
  refine HY 4 rfl (((hsub (.cons_cons _ (.cons _ (.cons _ (.cons _ (.cons _ (.cons _ (.refl _)))))))).trans (hsub_pick [0] rfl))) rfl (y_indexA rfl rfl Try.underlying124 sz_123 (by omega) (by omega) (show _ = 5 from rfl)) ?_
  refine HY 5 rfl (((hsub (.cons_cons _ (.cons _ (.cons _ (.cons _ (.cons _ (.cons _ (.refl _)))))))).trans (hsub_pick [0] rfl))) rfl (y_load rfl ag_123 (sees 0 0 rfl) rfl) ?_
  refine HY 6 rfl (((hsub (.cons_cons _ (.cons _ (.cons _ (.cons _ (.cons _ (.cons _ (.refl _)))))))).trans (hsub_pick [0] rfl))) rfl (y_move rfl) ?_
  refine HY 7 rfl (((hsub (.cons_cons _ (.cons _ (.cons _ (.cons _ (.cons _ (.cons _ (.refl _)))))))).trans (hsub_pick [0] rfl))) rfl (y_move rfl) ?_
  refine HY 8 rfl (((hsub (.cons_cons _ (.cons _ (.cons _ (.cons _ (.cons _ (.cons _ (.refl _)))))))).trans (hsub_pick [0] rfl))) rfl (y_move rfl) ?_
  refine HY 9 rfl (((hsub (.cons_cons _ (.cons _ (.cons _ (.cons _ (.cons _ (.cons _ (.refl _)))))))).trans (hsub_pick [0] rfl))) rfl (y_nilCheck rfl) ?_
  refine HY 10 rfl (((hsub (.cons_cons _ (.cons _ (.cons _ (.cons _ (.cons _ (.cons _ (.refl _)))))))).trans (hsub_pick [0] rfl))) rfl (y_fieldAddr rfl fl_126_1) ?_
  refine HY 11 rfl (((hsub (.cons_cons _ (.cons _ (.cons _ (.cons _ (.cons _ (.cons _ (.refl _)))))))).trans (hsub_pick [0] rfl))) rfl (y_indexA rfl rfl Try.underlying62 sz_4 (by omega) (by omega) (show _ = 3 from rfl)) ?_
  refine HY 12 rfl (((hsub (.cons_cons _ (.cons _ (.cons _ (.cons _ (.cons _ (.cons _ (.refl _)))))))).trans (hsub_pick [0] rfl))) rfl (y_load rfl ag_4 (sees 0 0 rfl) rfl) ?_
  refine HY 13 rfl (((hsub (.cons_cons _ (.cons _ (.cons _ (.cons _ (.cons _ (.cons _ (.refl _)))))))).trans (hsub_pick [0] rfl))) rfl (y_indexS rfl rfl Try.underlying123 sz_4 (by omega) (by omega) (show _ = n from by simp)) ?_
  refine H_one 14 rfl (by kernel_rfl) rfl (op_store1 4 0 rfl rfl rfl sz_4 rfl (by rw [bls_len]; dsimp only; omega) ?_)
  rw [bls_set]
  refine ⟨((hsub (.cons_cons _ (.cons _ (.cons _ (.cons _ (.cons _ (.cons _ (.refl _)))))))).trans (hsub_pick [0] rfl)), ?_⟩
  refine H_done (by kernel_rfl) ?_
  refine C_seq (C_region (LY rfl (y_move rfl) (LY rfl (y_move rfl) (LY rfl (y_nilCheck rfl) (LY rfl (y_fieldAddr rfl fl_126_1) ?_)))))
  refine LY rfl (y_indexA rfl rfl Try.underlying62 sz_4 (by omega) (by omega) (show _ = 3 from rfl)) ?_
  refine LY rfl (y_load rfl ag_4 (sees 0 0 rfl) rfl) (LY rfl (y_not rfl) (L_nil (C_cond_t rfl ?_)))
  refine C_regionH ([(o.b, .cells (o.cells K (⟨⟨l0, false, s0⟩, ⟨l1, false, s1⟩⟩ : Rm)).toArray 126)] :: [(B1, .cells (bs s).toArray 32)] :: H) (by kernel_rfl) ?_
  refine HY 0 rfl (((hsub (.cons_cons _ (.cons_cons _ (.cons _ (.cons _ (.cons _ (.cons _ (.refl _)))))))).trans (hsub_pick [0, 4] rfl))) rfl (y_move rfl) ?_
  refine HY 1 rfl (((hsub (.cons_cons _ (.cons_cons _ (.cons _ (.cons _ (.cons _ (.cons _ (.refl _)))))))).trans (hsub_pick [0, 4] rfl))) rfl (y_move rfl) ?_
  refine HY 2 rfl (((hsub (.cons_cons _ (.cons_cons _ (.cons _ (.cons _ (.cons _ (.cons _ (.refl _)))))))).trans (hsub_pick [0, 4] rfl))) rfl (y_nilCheck rfl) ?_
  refine HY 3 rfl (((hsub (.cons_cons _ (.cons_cons _ (.cons _ (.cons _ (.cons _ (.cons _ (.refl _)))))))).trans (hsub_pick [0, 4] rfl))) rfl (y_fieldAddr rfl fl_126_0) ?_
  refine HY 4 rfl (((hsub (.cons_cons _ (.cons_cons _ (.cons _ (.cons _ (.cons _ (.cons _ (.refl _)))))))).trans (hsub_pick [0, 4] rfl))) rfl (y_indexA rfl rfl Try.underlying122 sz_40 (by omega) (by omega) (show _ = 1 from rfl)) ?_
  refine HY 5 rfl (((hsub (.cons_cons _ (.cons_cons _ (.cons _ (.cons _ (.cons _ (.cons _ (.refl _)))))))).trans (hsub_pick [0, 4] rfl))) rfl (y_load rfl ag_40 (sees 0 0 rfl) rfl) ?_
  refine HY 6 rfl (((hsub (.cons_cons _ (.cons_cons _ (.cons _ (.cons _ (.cons _ (.cons _ (.refl _)))))))).trans (hsub_pick [0, 4] rfl))) rfl (y_move rfl) ?_
  refine HY 7 rfl (((hsub (.cons_cons _ (.cons_cons _ (.cons _ (.cons _ (.cons _ (.cons _ (.refl _)))))))).trans (hsub_pick [0, 4] rfl))) rfl (y_loadA rfl ag_32 sz_32 (sees 1 0 rfl) (by rw [bs_length, hs]; decide) (bs_whole0 _ (hs))) ?_
  refine HY 8 rfl (((hsub (.cons_cons _ (.cons_cons _ (.cons _ (.cons _ (.cons _ (.cons _ (.refl _)))))))).trans (hsub_pick [0, 4] rfl))) rfl (y_indexS rfl rfl Try.underlying40 sz_32 (by omega) (by omega) (show _ = n * 128 from by simp)) ?_
  refine H_one 9 rfl (by kernel_rfl) rfl (op_store 2 0 rfl rfl rfl sz_32 (by rw [bs_length, hs]) rfl (bs_one _) (by rw [bs_length, flat_len ok1, hl1]; omega) ?_)
  rw [flat_spl ok1 (by rw [hl1]; omega) hs]
  refine ⟨((hsub (.cons_cons _ (.cons_cons _ (.cons _ (.cons _ (.cons _ (.cons _ (.refl _)))))))).trans (hsub_pick [0, 4] rfl)), ?_⟩
  refine H_done (by kernel_rfl) ?_
  refine C_region (LY rfl (y_move rfl) ?_)
  refine LY rfl (y_add rfl rfl (show _ = (2 : Int) from rfl)) ?_
  refine LY rfl (y_assign rfl) (L_nil ?_)
  refine In_round ?_
  refine C_seq (C_seq (C_region (LY rfl (y_move rfl) (LY rfl (y_lss rfl rfl) (L_nil (C_cond_f rfl (C_exit (C_seq (C_region (LY rfl (y_assign rfl) (L_nil (C_ret ?_))))))))))))
  refine B_ret (rv_tmp rfl rv_nil) ((hsub (.cons_cons _ (.cons_cons _ (.cons_cons _ (.cons_cons _ (.cons_cons _ (.cons _ (.refl _)))))))).trans (hsub_pick [0, 0, 0, 0, 0] rfl)) ?_
  have e1 : Rm.write (⟨⟨l0, false, s0⟩, ⟨l1, false, s1⟩⟩ : Rm) (n : Int) s = ⟨⟨(l0.set n s), false, (s0.set n false)⟩, ⟨(l1.set n s), false, (s1.set n false)⟩⟩ := by unfold Rm.write; rw [hb]; simp [Rs.wr, Rs.wl]
  rw [e1]
  exact ⟨ret_int (by unfold Rm.writeE; rw [hb]; rfl), rfl⟩

theorem rwrite_ft {w0 : World} {H : Hp} {o : Ro} {K : Nat} {l0 l1 : List Sec} {s0 s1 : List Bool} (ok : RmOk (⟨⟨l0, false, s0⟩, ⟨l1, true, s1⟩⟩ : Rm) K) (n : Nat) (s : Sec) (hs : s.length = 128) (hn : n < K) (hb : Rm.has (⟨⟨l0, false, s0⟩, ⟨l1, true, s1⟩⟩ : Rm) (n : Int) = true) : FnS Try.prog w0 66 #[ptr o.b, .int .i64 (n : Int), .agg (bs s).toArray] (o.hp 126 32 4 K (⟨⟨l0, false, s0⟩, ⟨l1, true, s1⟩⟩ : Rm) H) (fun e H' => e = .returned (.int .i64 (Rm.writeE (⟨⟨l0, false, s0⟩, ⟨l1, true, s1⟩⟩ : Rm) n)) ∧ H' = (o.hp 126 32 4 K (Rm.write (⟨⟨l0, false, s0⟩, ⟨l1, true, s1⟩⟩ : Rm) n s) H)) := by
  have hl0 : l0.length = K := ok.l0
  have hl1 : l1.length = K := ok.l1
  have hs0 : s0.length = K := ok.s0
  have hs1 : s1.length = K := ok.s1
  have ok0 : ∀ s ∈ l0, s.length = 128 := ok.ok0
  have ok1 : ∀ s ∈ l1, s.length = 128 := ok.ok1
  have hK := ok.le
  refine FnS_intro (n := 58) (rs := [.tmp 6]) (vs := [ptr o.b, .int .i64 (n : Int), .agg (bs s).toArray]) Try.func66 rfl Try.ntmps66 rfl rfl ?_
  refine C_seq (C_region ?_)
  refine L_op rfl (op_box rfl rfl rfl (fun B1 => ?_))
  refine LY rfl (y_assign rfl) (L_nil (C_seq (C_seq (C_region (LY rfl (y_move rfl) (LY rfl (y_move rfl) ?_))))))
  refine L_op rfl (op_call rfl rfl (fun a w => Try.call71 a w) rfl ?_)
  refine (FnS.sub (hsub_pick [1, 1, 1, 1, 1] rfl) (rthere_s ok _)).mono ?_
  rintro _ _ ⟨e4, rfl⟩
  rw [hb] at e4
  obtain rfl := e4
  refine ⟨_, rfl, ?_⟩
  refine LY rfl (y_not rfl) (L_nil (C_cond_f rfl (C_skip (C_seq (C_seq (C_region (LY rfl (y_move rfl) (LY rfl (y_nilCheck rfl) (LY rfl (y_fieldAddr rfl fl_126_1) ?_)))))))))
  refine LY rfl (y_indexA rfl rfl Try.underlying62 sz_4 (by omega) (by omega) (show _ = 2 from rfl)) ?_
  refine LY rfl (y_load rfl ag_4 (sees 0 0 rfl) rfl) (LY rfl (y_move rfl) (L_skip rfl rfl (L_skip rfl rfl (L_skip rfl rfl (L_skip rfl rfl (L_skip rfl rfl (LY rfl (y_pick_f rfl rfl) (L_nil (C_cond_f rfl (C_skip (C_seq (C_seq (C_region (LY rfl (y_assign rfl) (L_nil (C_block ?_))))))))))))))))
  refine C_loopIn (In_round ?_)
  refine C_seq (C_seq (C_region (LY rfl (y_move rfl) (LY rfl (y_lss rfl rfl) (L_nil (C_cond_t rfl (C_skip (C_seq (C_block (C_seq ?_))))))))))
  refine C_regionH ([(o.b, .cells (o.cells K (⟨⟨l0, false, s0⟩, ⟨l1, true, s1⟩⟩ : Rm)).toArray 126)] :: H) (by kernel_rfl) ?_
  refine HY 0 rfl (((hsub (.cons_cons _ (.cons _ (.cons _ (.cons _ (.cons _ (.cons _ (.refl _)))))))).trans (hsub_pick [0] rfl))) rfl (y_move rfl) ?_
  refine HY 1 rfl (((hsub (.cons_cons _ (.cons _ (.cons _ (.cons _ (.cons _ (.cons _ (.refl _)))))))).trans (hsub_pick [0] rfl))) rfl (y_move rfl) ?_
  refine HY 2 rfl (((hsub (.cons_cons _ (.cons _ (.cons _ (.cons _ (.cons _ (.cons _ (.refl _)))))))).trans (hsub_pick [0] rfl))) rfl (y_nilCheck rfl) ?_
  refine HY 3 rfl (((hsub (.cons_cons _ (.cons _ (.cons _ (.cons _ (.cons _ (.cons _ (.refl _)))))))).trans (hsub_pick [0] rfl))) rfl (y_fieldAddr rfl fl_126_2) ?_
  refine HY 4 rfl (((hsub (.cons_cons _ (.cons _ (.cons _ (.cons _ (.cons _ (.cons _ (.refl _)))))))).trans (hsub_pick [0] rfl))) rfl (y_indexA rfl rfl Try.underlying124 sz_123 (by omega) (by omega) (show _ = 4 from rfl)) ?_
  refine HY 5 rfl (((hsub (.cons_cons _ (.cons _ (.cons _ (.cons _ (.cons _ (.cons _ (.refl _)))))))).trans (hsub_pick [0] rfl))) rfl (y_load rfl ag_123 (sees 0 0 rfl) rfl) ?_
  refine HY 6 rfl (((hsub (.cons_cons _ (.cons _ (.cons _ (.cons _ (.cons _ (.cons _ (.refl _)))))))).trans (hsub_pick [0] rfl))) rfl (y_move rfl) ?_
  refine HY 7 rfl (((hsub (.cons_cons _ (.cons _ (.cons _ (.cons _ (.cons _ (.cons _ (.refl _)))))))).trans (hsub_pick [0] rfl))) rfl (y_move rfl) ?_
  refine HY 8 rfl (((hsub (.cons_cons _ (.cons _ (.cons _ (.cons _ (.cons _ (.cons _ (.refl _)))))))).trans (hsub_pick [0] rfl))) rfl (y_move rfl) ?_
  refine HY 9 rfl (((hsub (.cons_cons _ (.cons _ (.cons _ (.cons _ (.cons _ (.cons _ (.refl _)))))))).trans (hsub_pick [0] rfl))) rfl (y_nilCheck rfl) ?_
  refine HY 10 rfl (((hsub (.cons_cons _ (.cons _ (.cons _ (.cons _ (.cons _ (.cons _ (.refl _)))))))).trans (hsub_pick [0] rfl))) rfl (y_fieldAddr rfl fl_126_1) ?_
  refine HY 11 rfl (((hsub (.cons_cons _ (.cons _ (.cons _ (.cons _ (.cons _ (.cons _ (.refl _)))))))).trans (hsub_pick [0] rfl))) rfl (y_indexA rfl rfl Try.underlying62 sz_4 (by omega) (by omega) (show _ = 2 from rfl)) ?_
  refine HY 12 rfl (((hsub (.cons_cons _ (.cons _ (.cons _ (.cons _ (.cons _ (.cons _ (.refl _)))))))).trans (hsub_pick [0] rfl))) rfl (y_load rfl ag_4 (sees 0 0 rfl) rfl) ?_
  refine HY 13 rfl (((hsub (.cons_cons _ (.cons _ (.cons _ (.cons _ (.cons _ (.cons _ (.refl _)))))))).trans (hsub_pick [0] rfl))) rfl (y_indexS rfl rfl Try.underlying123 sz_4 (by omega) (by omega) (show _ = n from by simp)) ?_
  refine H_one 14 rfl (by kernel_rfl) rfl (op_store1 3 0 rfl rfl rfl sz_4 rfl (by rw [bls_len]; dsimp only; omega) ?_)
  rw [bls_set]
  refine ⟨((hsub (.cons_cons _ (.cons _ (.cons _ (.cons _ (.cons _ (.cons _ (.refl _)))))))).trans (hsub_pick [0] rfl)), ?_⟩
  refine H_done (by kernel_rfl) ?_
  refine C_seq (C_region (LY rfl (y_move rfl) (LY rfl (y_move rfl) (LY rfl (y_nilCheck rfl) (LY rfl (y_fieldAddr rfl fl_126_1) ?_)))))
  refine LY rfl (y_indexA rfl rfl Try.underlying62 sz_4 (by omega) (by omega) (show _ = 2 from rfl)) ?_
  refine LY rfl (y_load rfl ag_4 (sees 0 0 rfl) rfl) (LY rfl (y_not rfl) (L_nil (C_cond_t rfl ?_)))
  refine C_regionH ([(o.b, .cells (o.cells K (⟨⟨l0, false, s0⟩, ⟨l1, true, s1⟩⟩ : Rm)).toArray 126)] :: [(B1, .cells (bs s).toArray 32)] :: H) (by kernel_rfl) ?_
  refine HY 0 rfl (((hsub (.cons_cons _ (.cons_cons _ (.cons _ (.cons _ (.cons _ (.cons _ (.refl _)))))))).trans (hsub_pick [0, 4] rfl))) rfl (y_move rfl) ?_
  refine HY 1 rfl (((hsub (.cons_cons _ (.cons_cons _ (.cons _ (.cons _ (.cons _ (.cons _ (.refl _)))))))).trans (hsub_pick [0, 4] rfl))) rfl (y_move rfl) ?_
  refine HY 2 rfl (((hsub (.cons_cons _ (.cons_cons _ (.cons _ (.cons _ (.cons _ (.cons _ (.refl _)))))))).trans (hsub_pick [0, 4] rfl))) rfl (y_nilCheck rfl) ?_
  refine HY 3 rfl (((hsub (.cons_cons _ (.cons_cons _ (.cons _ (.cons _ (.cons _ (.cons _ (.refl _)))))))).trans (hsub_pick [0, 4] rfl))) rfl (y_fieldAddr rfl fl_126_0) ?_
  refine HY 4 rfl (((hsub (.cons_cons _ (.cons_cons _ (.cons _ (.cons _ (.cons _ (.cons _ (.refl _)))))))).trans (hsub_pick [0, 4] rfl))) rfl (y_indexA rfl rfl Try.underlying122 sz_40 (by omega) (by omega) (show _ = 0 from rfl)) ?_
  refine HY 5 rfl (((hsub (.cons_cons _ (.cons_cons _ (.cons _ (.cons _ (.cons _ (.cons _ (.refl _)))))))).trans (hsub_pick [0, 4] rfl))) rfl (y_load rfl ag_40 (sees 0 0 rfl) rfl) ?_
  refine HY 6 rfl (((hsub (.cons_cons _ (.cons_cons _ (.cons _ (.cons _ (.cons _ (.cons _ (.refl _)))))))).trans (hsub_pick [0, 4] rfl))) rfl (y_move rfl) ?_
  refine HY 7 rfl (((hsub (.cons_cons _ (.cons_cons _ (.cons _ (.cons _ (.cons _ (.cons _ (.refl _)))))))).trans (hsub_pick [0, 4] rfl))) rfl (y_loadA rfl ag_32 sz_32 (sees 1 0 rfl) (by rw [bs_length, hs]; decide) (bs_whole0 _ (hs))) ?_
  refine HY 8 rfl (((hsub (.cons_cons _ (.cons_cons _ (.cons _ (.cons _ (.cons _ (.cons _ (.refl _)))))))).trans (hsub_pick [0, 4] rfl))) rfl (y_indexS rfl rfl Try.underlying40 sz_32 (by omega) (by omega) (show _ = n * 128 from by simp)) ?_
  refine H_one 9 rfl (by kernel_rfl) rfl (op_store 1 0 rfl rfl rfl sz_32 (by rw [bs_length, hs]) rfl (bs_one _) (by rw [bs_length, flat_len ok0, hl0]; omega) ?_)
  rw [flat_spl ok0 (by rw [hl0]; omega) hs]
  refine ⟨((hsub (.cons_cons _ (.cons_cons _ (.cons _ (.cons _ (.cons _ (.cons _ (.refl _)))))))).trans (hsub_pick [0, 4] rfl)), ?_⟩
  refine H_done (by kernel_rfl) ?_
  refine C_region (LY rfl (y_move rfl) ?_)
  refine LY rfl (y_add rfl rfl (show _ = (1 : Int) from rfl)) ?_
  refine LY rfl (y_assign rfl) (L_nil ?_)
  refine In_round ?_
  refine C_seq (C_seq (C_region (LY rfl (y_move rfl) (LY rfl (y_lss rfl rfl) (L_nil (C_cond_t rfl (C_skip (C_seq (C_block (C_seq ?_))))))))))
  refine C_regionH ([(o.b, .cells (o.cells K (⟨⟨l0, false, s0⟩, ⟨l1, true, s1⟩⟩ : Rm)).toArray 126)] :: H) (by kernel_rfl) ?_
  refine HY 0 rfl (((hsub (.cons_cons _ (.cons _ (.cons _ (.cons _ (.cons _ (.cons _ (.refl _)))))))).trans (hsub_pick [0] rfl))) rfl (y_move rfl) ?_
  refine HY 1 rfl (((hsub (.cons_cons _ (.cons _ (.cons _ (.cons _ (.cons _ (.cons _ (.refl _)))))))).trans (hsub_pick [0] rfl))) rfl (y_move rfl) ?_
  refine HY 2 rfl (((hsub (.cons_cons _ (.cons _ (.cons _ (.cons _ (.cons _ (.cons _ (.refl _)))))))).trans (hsub_pick [0] rfl))) rfl (y_nilCheck rfl) ?_
  refine HY 3 rfl (((hsub (.cons_cons _ (.cons _ (.cons _ (.cons _ (.cons _ (.cons _ (.refl _)))))))).trans (hsub_pick [0] rfl))) rfl (y_fieldAddr rfl fl_126_2) ?_
  refine HY 4 rfl (((hsub (.cons_cons _ (.cons _ (.cons _ (.cons _ (.cons _ (.cons _ (.refl _)))))))).trans (hsub_pick [0] rfl))) rfl (y_indexA rfl rfl Try.underlying124 sz_123 (by omega) (by omega) (show _ = 5 from rfl)) ?_
  refine HY 5 rfl (((hsub (.cons_cons _ (.cons _ (.cons _ (.cons _ (.cons _ (.cons _ (.refl _)))))))).trans (hsub_pick [0] rfl))) rfl (y_load rfl ag_123 (sees 0 0 rfl) rfl) ?_
  refine HY 6 rfl (((hsub (.cons_cons _ (.cons _ (.cons _ (.cons _ (.cons _ (.cons _ (.refl _)))))))).trans (hsub_pick [0] rfl))) rfl (y_move rfl) ?_
  refine HY 7 rfl (((hsub (.cons_cons _ (.cons _ (.cons _ (.cons _ (.cons _ (.cons _ (.refl _)))))))).trans (hsub_pick [0] rfl))) rfl (y_move rfl) ?_
  refine HY 8 rfl (((hsub (.cons_cons _ (.cons _ (.cons _ (.cons _ (.cons _ (.cons _ (.refl _)))))))).trans (hsub_pick [0] rfl))) rfl (y_move rfl) ?_
  refine HY 9 rfl (((hsub (.cons_cons _ (.cons _ (.cons _ (.cons _ (.cons _ (.cons _ (.refl _)))))))).trans (hsub_pick [0] rfl))) rfl (y_nilCheck rfl) ?_
  refine HY 10 rfl (((hsub (.cons_cons _ (.cons _ (.cons _ (.cons _ (.cons _ (.cons _ (.refl _)))))))).trans (hsub_pick [0] rfl))) rfl (y_fieldAddr rfl fl_126_1) ?_
  refine HY 11 rfl (((hsub (.cons_cons _ (.cons _ (.cons _ (.cons _ (.cons _ (.cons _ (.refl _)))))))).trans (hsub_pick [0] rfl))) rfl (y_indexA rfl rfl Try.underlying62 sz_4 (by omega) (by omega) (show _ = 3 from rfl)) ?_
  refine HY 12 rfl (((hsub (.cons_cons _ (.cons _ (.cons _ (.cons _ (.cons _ (.cons _ (.refl _)))))))).trans (hsub_pick [0] rfl))) rfl (y_load rfl ag_4 (sees 0 0 rfl) rfl) ?_
  refine HY 13 rfl (((hsub (.cons_cons _ (.cons _ (.cons _ (.cons _ (.cons _ (.cons _ (.refl _)))))))).trans (hsub_pick [0] rfl))) rfl (y_indexS rfl rfl Try.underlying123 sz_4 (by omega) (by omega) (show _ = n from by simp)) ?_
  refine H_one 14 rfl (by kernel_rfl) rfl (op_store1 4 0 rfl rfl rfl sz_4 rfl (by rw [bls_len]; dsimp only; omega) ?_)
  rw [bls_set]
  refine ⟨((hsub (.cons_cons _ (.cons _ (.cons _ (.cons _ (.cons _ (.cons _ (.refl _)))))))).trans (hsub_pick [0] rfl)), ?_⟩
  refine H_done (by kernel_rfl) ?_
  refine C_seq (C_region (LY rfl (y_move rfl) (LY rfl (y_move rfl) (LY rfl (y_nilCheck rfl) (LY rfl (y_fieldAddr rfl fl_126_1) ?_)))))
  refine LY rfl (y_indexA rfl rfl Try.underlying62 sz_4 (by omega) (by omega) (show _ = 3 from rfl)) ?_
  refine LY rfl (y_load rfl ag_4 (sees 0 0 rfl) rfl) (LY rfl (y_not rfl) (L_nil (C_cond_f rfl (C_skip (C_region (LY rfl (y_move rfl) ?_))))))
  refine LY rfl (y_add rfl rfl (show _ = (2 : Int) from rfl)) ?_
  refine LY rfl (y_assign rfl) (L_nil ?_)
  refine In_round ?_
  refine C_seq (C_seq (C_region (LY rfl (y_move rfl) (LY rfl (y_lss rfl rfl) (L_nil (C_cond_f rfl (C_exit (C_seq (C_region (LY rfl (y_assign rfl) (L_nil (C_ret ?_))))))))))))
  refine B_ret (rv_tmp rfl rv_nil) ((hsub (.cons_cons _ (.cons_cons _ (.cons_cons _ (.cons_cons _ (.cons_cons _ (.cons _ (.refl _)))))))).trans (hsub_pick [0, 0, 0, 0, 0] rfl)) ?_
  have e1 : Rm.write (⟨⟨l0, false, s0⟩, ⟨l1, true, s1⟩⟩ : Rm) (n : Int) s = ⟨⟨(l0.set n s), false, (s0.set n false)⟩, ⟨l1, true, (s1.set n true)⟩⟩ := by unfold Rm.write; rw [hb]; simp [Rs.wr, Rs.wl]
  rw [e1]
  exact ⟨ret_int (by unfold Rm.writeE; rw [hb]; rfl), rfl⟩

theorem rwrite_tf {w0 : World} {H : Hp} {o : Ro} {K : Nat} {l0 l1 : List Sec} {s0 s1 : List Bool} (ok : RmOk (⟨⟨l0, true, s0⟩, ⟨l1, false, s1⟩⟩ : Rm) K) (n : Nat) (s : Sec) (hs : s.length = 128) (hn : n < K) (hb : Rm.has (⟨⟨l0, true, s0⟩, ⟨l1, false, s1⟩⟩ : Rm) (n : Int) = true) : FnS Try.prog w0 66 #[ptr o.b, .int .i64 (n : Int), .agg (bs s).toArray] (o.hp 126 32 4 K (⟨⟨l0, true, s0⟩, ⟨l1, false, s1⟩⟩ : Rm) H) (fun e H' => e = .returned (.int .i64 (Rm.writeE (⟨⟨l0, true, s0⟩, ⟨l1, false, s1⟩⟩ : Rm) n)) ∧ H' = (o.hp 126 32 4 K (Rm.write (⟨⟨l0, true, s0⟩, ⟨l1, false, s1⟩⟩ : Rm) n s) H)) := by
  have hl0 : l0.length = K := ok.l0
  have hl1 : l1.length = K := ok.l1
  have hs0 : s0.length = K := ok.s0
  have hs1 : s1.length = K := ok.s1
  have ok0 : ∀ s ∈ l0, s.length = 128 := ok.ok0
  have ok1 : ∀ s ∈ l1, s.length = 128 := ok.ok1
  have hK := ok.le
  refine FnS_intro (n := 58) (rs := [.tmp 6]) (vs := [ptr o.b, .int .i64 (n : Int), .agg (bs s).toArray]) Try.func66 rfl Try.ntmps66 rfl rfl ?_
  refine C_seq (C_region ?_)
  refine L_op rfl (op_box rfl rfl rfl (fun B1 => ?_))
  refine LY rfl (y_assign rfl) (L_nil (C_seq (C_seq (C_region (LY rfl (y_move rfl) (LY rfl (y_move rfl) ?_))))))
  refine L_op rfl (op_call rfl rfl (fun a w => Try.call71 a w) rfl ?_)
  refine (FnS.sub (hsub_pick [1, 1, 1, 1, 1] rfl) (rthere_s ok _)).mono ?_
  rintro _ _ ⟨e4, rfl⟩
  rw [hb] at e4
  obtain rfl := e4
  refine ⟨_, rfl, ?_⟩
  refine LY rfl (y_not rfl) (L_nil (C_cond_f rfl (C_skip (C_seq (C_seq (C_region (LY rfl (y_move rfl) (LY rfl (y_nilCheck rfl) (LY rfl (y_fieldAddr rfl fl_126_1) ?_)))))))))
  refine LY rfl (y_indexA rfl rfl Try.underlying62 sz_4 (by omega) (by omega) (show _ = 2 from rfl)) ?_
  refine LY rfl (y_load rfl ag_4 (sees 0 0 rfl) rfl) (LY rfl (y_move rfl) (LY rfl (y_move rfl) (LY rfl (y_nilCheck rfl) (LY rfl (y_fieldAddr rfl fl_126_1) ?_))))
  refine LY rfl (y_indexA rfl rfl Try.underlying62 sz_4 (by omega) (by omega) (show _ = 3 from rfl)) ?_
  refine LY rfl (y_load rfl ag_4 (sees 0 0 rfl) rfl) (LY rfl (y_pick_t rfl rfl) (L_nil (C_cond_f rfl (C_skip (C_seq (C_seq (C_region (LY rfl (y_assign rfl) (L_nil (C_block ?_))))))))))
  refine C_loopIn (In_round ?_)
  refine C_seq (C_seq (C_region (LY rfl (y_move rfl) (LY rfl (y_lss rfl rfl) (L_nil (C_cond_t rfl (C_skip (C_seq (C_block (C_seq ?_))))))))))
  refine C_regionH ([(o.b, .cells (o.cells K (⟨⟨l0, true, s0⟩, ⟨l1, false, s1⟩⟩ : Rm)).toArray 126)] :: H) (by kernel_rfl) ?_
  refine HY 0 rfl (((hsub (.cons_cons _ (.cons _ (.cons _ (.cons _ (.cons _ (.cons _ (.refl _)))))))).trans (hsub_pick [0] rfl))) rfl (y_move rfl) ?_
  refine HY 1 rfl (((hsub (.cons_cons _ (.cons _ (.cons _ (.cons _ (.cons _ (.cons _ (.refl _)))))))).trans (hsub_pick [0] rfl))) rfl (y_move rfl) ?_
  refine HY 2 rfl (((hsub (.cons_cons _ (.cons _ (.cons _ (.cons _ (.cons _ (.cons _ (.refl _)))))))).trans (hsub_pick [0] rfl))) rfl (y_nilCheck rfl) ?_
  refine HY 3 rfl (((hsub (.cons_cons _ (.cons _ (.cons _ (.cons _ (.cons _ (.cons _ (.refl _)))))))).trans (hsub_pick [0] rfl))) rfl (y_fieldAddr rfl fl_126_2) ?_
  refine HY 4 rfl (((hsub (.cons_cons _ (.cons _ (.cons _ (.cons _ (.cons _ (.cons _ (.refl _)))))))).trans (hsub_pick [0] rfl))) rfl (y_indexA rfl rfl Try.underlying124 sz_123 (by omega) (by omega) (show _ = 4 from rfl)) ?_
  refine HY 5 rfl (((hsub (.cons_cons _ (.cons _ (.cons _ (.cons _ (.cons _ (.cons _ (.refl _)))))))).trans (hsub_pick [0] rfl))) rfl (y_load rfl ag_123 (sees 0 0 rfl) rfl) ?_
  refine HY 6 rfl (((hsub (.cons_cons _ (.cons _ (.cons _ (.cons _ (.cons _ (.cons _ (.refl _)))))))).trans (hsub_pick [0] rfl))) rfl (y_move rfl) ?_
  refine HY 7 rfl (((hsub (.cons_cons _ (.cons _ (.cons _ (.cons _ (.cons _ (.cons _ (.refl _)))))))).trans (hsub_pick [0] rfl))) rfl (y_move rfl) ?_
  refine HY 8 rfl (((hsub (.cons_cons _ (.cons _ (.cons _ (.cons _ (.cons _ (.cons _ (.refl _)))))))).trans (hsub_pick [0] rfl))) rfl (y_move rfl) ?_
  refine HY 9 rfl (((hsub (.cons_cons _ (.cons _ (.cons _ (.cons _ (.cons _ (.cons _ (.refl _)))))))).trans (hsub_pick [0] rfl))) rfl (y_nilCheck rfl) ?_
  refine HY 10 rfl (((hsub (.cons_cons _ (.cons _ (.cons _ (.cons _ (.cons _ (.cons _ (.refl _)))))))).trans (hsub_pick [0] rfl))) rfl (y_fieldAddr rfl fl_126_1) ?_
  refine HY 11 rfl (((hsub (.cons_cons _ (.cons _ (.cons _ (.cons _ (.cons _ (.cons _ (.refl _)))))))).trans (hsub_pick [0] rfl))) rfl (y_indexA rfl rfl Try.underlying62 sz_4 (by omega) (by omega) (show _ = 2 from rfl)) ?_
  refine HY 12 rfl (((hsub (.cons_cons _ (.cons _ (.cons _ (.cons _ (.cons _ (.cons _ (.refl _)))))))).trans (hsub_pick [0] rfl))) rfl (y_load rfl ag_4 (sees 0 0 rfl) rfl) ?_
  refine HY 13 rfl (((hsub (.cons_cons _ (.cons _ (.cons _ (.cons _ (.cons _ (.cons _ (.refl _)))))))).trans (hsub_pick [0] rfl))) rfl (y_indexS rfl rfl Try.underlying123 sz_4 (by omega) (by omega) (show _ = n from by simp)) ?_
  refine H_one 14 rfl (by kernel_rfl) rfl (op_store1 3 0 rfl rfl rfl sz_4 rfl (by rw [bls_len]; dsimp only; omega) ?_)
  rw [bls_set]
  refine ⟨((hsub (.cons_cons _ (.cons _ (.cons _ (.cons _ (.cons _ (.cons _ (.refl _)))))))).trans (hsub_pick [0] rfl)), ?_⟩
  refine H_done (by kernel_rfl) ?_
  refine C_seq (C_region (LY rfl (y_move rfl) (LY rfl (y_move rfl) (LY rfl (y_nilCheck rfl) (LY rfl (y_fieldAddr rfl fl_126_1) ?_)))))
  refine LY rfl (y_indexA rfl rfl Try.underlying62 sz_4 (by omega) (by omega) (show _ = 2 from rfl)) ?_
  refine LY rfl (y_load rfl ag_4 (sees 0 0 rfl) rfl) (LY rfl (y_not rfl) (L_nil (C_cond_f rfl (C_skip (C_region (LY rfl (y_move rfl) ?_))))))
  refine LY rfl (y_add rfl rfl (show _ = (1 : Int) from rfl)) ?_
  refine LY rfl (y_assign rfl) (L_nil ?_)
  refine In_round ?_
  refine C_seq (C_seq (C_region (LY rfl (y_move rfl) (LY rfl (y_lss rfl rfl) (L_nil (C_cond_t rfl (C_skip (C_seq (C_block (C_seq ?_))))))))))
  refine C_regionH ([(o.b, .cells (o.cells K (⟨⟨l0, true, s0⟩, ⟨l1, false, s1⟩⟩ : Rm)).toArray 126)] :: H) (by kernel_rfl) ?_
  refine HY 0 rfl (((hsub (.cons_cons _ (.cons _ (.cons _ (.cons _ (.cons _ (.cons _ (.refl _)))))))).trans (hsub_pick [0] rfl))) rfl (y_move rfl) ?_
  refine HY 1 rfl (((hsub (.cons_cons _ (.cons _ (.cons _ (.cons _ (.cons _ (.cons _ (.refl _)))))))).trans (hsub_pick [0] rfl))) rfl (y_move rfl) ?_
  refine HY 2 rfl (((hsub (.cons_cons _ (.cons _ (.cons _ (.cons _ (.cons _ (.cons _ (.refl _)))))))).trans (hsub_pick [0] rfl))) rfl (y_nilCheck rfl) ?_
  refine HY 3 rfl (((hsub (.cons_cons _ (.cons _ (.cons _ (.cons _ (.cons _ (.cons _ (.refl _)))))))).trans (hsub_pick [0] rfl))) rfl (y_fieldAddr rfl fl_126_2) ?_
  refine HY 4 rfl (((hsub (.cons_cons _ (.cons _ (.cons _ (.cons _ (.cons _ (.cons _ (.refl _)))))))).trans (hsub_pick [0] rfl))) rfl (y_indexA rfl rfl Try.underlying124 sz_123 (by omega) (by omega) (show _ = 5 from rfl)) ?_
  refine HY 5 rfl (((hsub (.cons_cons _ (.cons _ (.cons _ (.cons _ (.cons _ (.cons _ (.refl _)))))))).trans (hsub_pick [0] rfl))) rfl (y_load rfl ag_123 (sees 0 0 rfl) rfl) ?_
  refine HY 6 rfl (((hsub (.cons_cons _ (.cons _ (.cons _ (.cons _ (.cons _ (.cons _ (.refl _)))))))).trans (hsub_pick [0] rfl))) rfl (y_move rfl) ?_
  refine HY 7 rfl (((hsub (.cons_cons _ (.cons _ (.cons _ (.cons _ (.cons _ (.cons _ (.refl _)))))))).trans (hsub_pick [0] rfl))) rfl (y_move rfl) ?_
  refine HY 8 rfl (((hsub (.cons_cons _ (.cons _ (.cons _ (.cons _ (.cons _ (.cons _ (.refl _)))))))).trans (hsub_pick [0] rfl))) rfl (y_move rfl) ?_
  refine HY 9 rfl (((hsub (.cons_cons _ (.cons _ (.cons _ (.cons _ (.cons _ (.cons _ (.refl _)))))))).trans (hsub_pick [0] rfl))) rfl (y_nilCheck rfl) ?_
  refine HY 10 rfl (((hsub (.cons_cons _ (.cons _ (.cons _ (.cons _ (.cons _ (.cons _ (.refl _)))))))).trans (hsub_pick [0] rfl))) rfl (y_fieldAddr rfl fl_126_1) ?_
  refine HY 11 rfl (((hsub (.cons_cons _ (.cons _ (.cons _ (.cons _ (.cons _ (.cons _ (.refl _)))))))).trans (hsub_pick [0] rfl))) rfl (y_indexA rfl rfl Try.underlying62 sz_4 (by omega) (by omega) (show _ = 3 from rfl)) ?_
  refine HY 12 rfl (((hsub (.cons_cons _ (.cons _ (.cons _ (.cons _ (.cons _ (.cons _ (.refl _)))))))).trans (hsub_pick [0] rfl))) rfl (y_load rfl ag_4 (sees 0 0 rfl) rfl) ?_
  refine HY 13 rfl (((hsub (.cons_cons _ (.cons _ (.cons _ (.cons _ (.cons _ (.cons _ (.refl _)))))))).trans (hsub_pick [0] rfl))) rfl (y_indexS rfl rfl Try.underlying123 sz_4 (by omega) (by omega) (show _ = n from by simp)) ?_
  refine H_one 14 rfl (by kernel_rfl) rfl (op_store1 4 0 rfl rfl rfl sz_4 rfl (by rw [bls_len]; dsimp only; omega) ?_)
  rw [bls_set]
  refine ⟨((hsub (.cons_cons _ (.cons _ (.cons _ (.cons _ (.cons _ (.cons _ (.refl _)))))))).trans (hsub_pick [0] rfl)), ?_⟩
  refine H_done (by kernel_rfl) ?_
  refine C_seq (C_region (LY rfl (y_move rfl) (LY rfl (y_move rfl) (LY rfl (y_nilCheck rfl) (LY rfl (y_fieldAddr rfl fl_126_1) ?_)))))
  refine LY rfl (y_indexA rfl rfl Try.underlying62 sz_4 (by omega) (by omega) (show _ = 3 from rfl)) ?_
  refine LY rfl (y_load rfl ag_4 (sees 0 0 rfl) rfl) (LY rfl (y_not rfl) (L_nil (C_cond_t rfl ?_)))
  refine C_regionH ([(o.b, .cells (o.cells K (⟨⟨l0, true, s0⟩, ⟨l1, false, s1⟩⟩ : Rm)).toArray 126)] :: [(B1, .cells (bs s).toArray 32)] :: H) (by kernel_rfl) ?_
  refine HY 0 rfl (((hsub (.cons_cons _ (.cons_cons _ (.cons _ (.cons _ (.cons _ (.cons _ (.refl _)))))))).trans (hsub_pick [0, 4] rfl))) rfl (y_move rfl) ?_
  refine HY 1 rfl (((hsub (.cons_cons _ (.cons_cons _ (.cons _ (.cons _ (.cons _ (.cons _ (.refl _)))))))).trans (hsub_pick [0, 4] rfl))) rfl (y_move rfl) ?_
  refine HY 2 rfl (((hsub (.cons_cons _ (.cons_cons _ (.cons _ (.cons _ (.cons _ (.cons _ (.refl _)))))))).trans (hsub_pick [0, 4] rfl))) rfl (y_nilCheck rfl) ?_
  refine HY 3 rfl (((hsub (.cons_cons _ (.cons_cons _ (.cons _ (.cons _ (.cons _ (.cons _ (.refl _)))))))).trans (hsub_pick [0, 4] rfl))) rfl (y_fieldAddr rfl fl_126_0) ?_
  refine HY 4 rfl (((hsub (.cons_cons _ (.cons_cons _ (.cons _ (.cons _ (.cons _ (.cons _ (.refl _)))))))).trans (hsub_pick [0, 4] rfl))) rfl (y_indexA rfl rfl Try.underlying122 sz_40 (by omega) (by omega) (show _ = 1 from rfl)) ?_
  refine HY 5 rfl (((hsub (.cons_cons _ (.cons_cons _ (.cons _ (.cons _ (.cons _ (.cons _ (.refl _)))))))).trans (hsub_pick [0, 4] rfl))) rfl (y_load rfl ag_40 (sees 0 0 rfl) rfl) ?_
  refine HY 6 rfl (((hsub (.cons_cons _ (.cons_cons _ (.cons _ (.cons _ (.cons _ (.cons _ (.refl _)))))))).trans (hsub_pick [0, 4] rfl))) rfl (y_move rfl) ?_
  refine HY 7 rfl (((hsub (.cons_cons _ (.cons_cons _ (.cons _ (.cons _ (.cons _ (.cons _ (.refl _)))))))).trans (hsub_pick [0, 4] rfl))) rfl (y_loadA rfl ag_32 sz_32 (sees 1 0 rfl) (by rw [bs_length, hs]; decide) (bs_whole0 _ (hs))) ?_
  refine HY 8 rfl (((hsub (.cons_cons _ (.cons_cons _ (.cons _ (.cons _ (.cons _ (.cons _ (.refl _)))))))).trans (hsub_pick [0, 4] rfl))) rfl (y_indexS rfl rfl Try.underlying40 sz_32 (by omega) (by omega) (show _ = n * 128 from by simp)) ?_
  refine H_one 9 rfl (by kernel_rfl) rfl (op_store 2 0 rfl rfl rfl sz_32 (by rw [bs_length, hs]) rfl (bs_one _) (by rw [bs_length, flat_len ok1, hl1]; omega) ?_)
  rw [flat_spl ok1 (by rw [hl1]; omega) hs]
  refine ⟨((hsub (.cons_cons _ (.cons_cons _ (.cons _ (.cons _ (.cons _ (.cons _ (.refl _)))))))).trans (hsub_pick [0, 4] rfl)), ?_⟩
  refine H_done (by kernel_rfl) ?_
  refine C_region (LY rfl (y_move rfl) ?_)
  refine LY rfl (y_add rfl rfl (show _ = (2 : Int) from rfl)) ?_
  refine LY rfl (y_assign rfl) (L_nil ?_)
  refine In_round ?_
  refine C_seq (C_seq (C_region (LY rfl (y_move rfl) (LY rfl (y_lss rfl rfl) (L_nil (C_cond_f rfl (C_exit (C_seq (C_region (LY rfl (y_assign rfl) (L_nil (C_ret ?_))))))))))))
  refine B_ret (rv_tmp rfl rv_nil) ((hsub (.cons_cons _ (.cons_cons _ (.cons_cons _ (.cons_cons _ (.cons_cons _ (.cons _ (.refl _)))))))).trans (hsub_pick [0, 0, 0, 0, 0] rfl)) ?_
  have e1 : Rm.write (⟨⟨l0, true, s0⟩, ⟨l1, false, s1⟩⟩ : Rm) (n : Int) s = ⟨⟨l0, true, (s0.set n true)⟩, ⟨(l1.set n s), false, (s1.set n false)⟩⟩ := by unfold Rm.write; rw [hb]; simp [Rs.wr, Rs.wl]
  rw [e1]
  exact ⟨ret_int (by unfold Rm.writeE; rw [hb]; rfl), rfl⟩

theorem rwrite_tt {w0 : World} {H : Hp} {o : Ro} {K : Nat} {l0 l1 : List Sec} {s0 s1 : List Bool} (ok : RmOk (⟨⟨l0, true, s0⟩, ⟨l1, true, s1⟩⟩ : Rm) K) (n : Nat) (s : Sec) (hs : s.length = 128) (hn : n < K) (hb : Rm.has (⟨⟨l0, true, s0⟩, ⟨l1, true, s1⟩⟩ : Rm) (n : Int) = true) : FnS Try.prog w0 66 #[ptr o.b, .int .i64 (n : Int), .agg (bs s).toArray] (o.hp 126 32 4 K (⟨⟨l0, true, s0⟩, ⟨l1, true, s1⟩⟩ : Rm) H) (fun e H' => e = .returned (.int .i64 (Rm.writeE (⟨⟨l0, true, s0⟩, ⟨l1, true, s1⟩⟩ : Rm) n)) ∧ H' = (o.hp 126 32 4 K (Rm.write (⟨⟨l0, true, s0⟩, ⟨l1, true, s1⟩⟩ : Rm) n s) H)) := by
  have hl0 : l0.length = K := ok.l0
  have hl1 : l1.length = K := ok.l1
  have hs0 : s0.length = K := ok.s0
  have hs1 : s1.length = K := ok.s1
  have ok0 : ∀ s ∈ l0, s.length = 128 := ok.ok0
  have ok1 : ∀ s ∈ l1, s.length = 128 := ok.ok1
  have hK := ok.le
  refine FnS_intro (n := 58) (rs := [.tmp 6]) (vs := [ptr o.b, .int .i64 (n : Int), .agg (bs s).toArray]) Try.func66 rfl Try.ntmps66 rfl rfl ?_
  refine C_seq (C_region ?_)
  refine L_op rfl (op_box rfl rfl rfl (fun B1 => ?_))
  refine LY rfl (y_assign rfl) (L_nil (C_seq (C_seq (C_region (LY rfl (y_move rfl) (LY rfl (y_move rfl) ?_))))))
  refine L_op rfl (op_call rfl rfl (fun a w => Try.call71 a w) rfl ?_)
  refine (FnS.sub (hsub_pick [1, 1, 1, 1, 1] rfl) (rthere_s ok _)).mono ?_
  rintro _ _ ⟨e4, rfl⟩
  rw [hb] at e4
  obtain rfl := e4
  refine ⟨_, rfl, ?_⟩
  refine LY rfl (y_not rfl) (L_nil (C_cond_f rfl (C_skip (C_seq (C_seq (C_region (LY rfl (y_move rfl) (LY rfl (y_nilCheck rfl) (LY rfl (y_fieldAddr rfl fl_126_1) ?_)))))))))
  refine LY rfl (y_indexA rfl rfl Try.underlying62 sz_4 (by omega) (by omega) (show _ = 2 from rfl)) ?_
  refine LY rfl (y_load rfl ag_4 (sees 0 0 rfl) rfl) (LY rfl (y_move rfl) (LY rfl (y_move rfl) (LY rfl (y_nilCheck rfl) (LY rfl (y_fieldAddr rfl fl_126_1) ?_))))
  refine LY rfl (y_indexA rfl rfl Try.underlying62 sz_4 (by omega) (by omega) (show _ = 3 from rfl)) ?_
  refine LY rfl (y_load rfl ag_4 (sees 0 0 rfl) rfl) (LY rfl (y_pick_t rfl rfl) (L_nil (C_cond_t rfl (C_seq (C_region (LY rfl (y_assign rfl) (L_nil (C_ret ?_))))))))
  refine B_ret (rv_tmp rfl rv_nil) ((hsub (.cons_cons _ (.cons_cons _ (.cons_cons _ (.cons_cons _ (.cons_cons _ (.cons _ (.refl _)))))))).trans (hsub_pick [0, 0, 0, 0, 0] rfl)) ?_
  have e1 : Rm.write (⟨⟨l0, true, s0⟩, ⟨l1, true, s1⟩⟩ : Rm) (n : Int) s = ⟨⟨l0, true, s0⟩, ⟨l1, true, s1⟩⟩ := by unfold Rm.write; rw [hb]; simp [Rs.wr, Rs.wl]
  rw [e1]
  exact ⟨ret_int (by unfold Rm.writeE; rw [hb]; rfl), rfl⟩

theorem rwrite_s {w0 : World} {H : Hp} {o : Ro} {K : Nat} {r : Rm} (ok : RmOk r K) (n : Int) (s : Sec) (hs : s.length = 128) : FnS Try.prog w0 66 #[ptr o.b, .int .i64 n, .agg (bs s).toArray] (o.hp 126 32 4 K r H) (fun e H' => e = .returned (.int .i64 (Rm.writeE r n)) ∧ H' = (o.hp 126 32 4 K (Rm.write r n s) H)) := by
  rcases tf (r.has n) with hb | hb
  · exact rwrite_no ok n s hs hb
  · obtain ⟨n, rfl⟩ : ∃ k : Nat, n = k := ⟨n.toNat, by unfold Rm.has at hb; simp at hb; omega⟩
    have hn : n < K := by unfold Rm.has at hb; rw [ok.l0] at hb; simp at hb; omega
    obtain ⟨⟨l0, o0, s0⟩, ⟨l1, o1, s1⟩⟩ := r
    cases o0 <;> cases o1
    · exact rwrite_ff ok n s hs (by omega) hb
    · exact rwrite_ft ok n s hs (by omega) hb
    · exact rwrite_tf ok n s hs (by omega) hb
    · exact rwrite_tt ok n s hs (by omega) hb

end Go.Proofs.Ytjjiclgbdenkkaa

