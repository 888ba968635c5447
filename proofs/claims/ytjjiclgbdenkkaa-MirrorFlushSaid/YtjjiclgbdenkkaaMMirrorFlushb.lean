/- Own work: texts DlW, Dw, Du, DuW, SlU, Mi, Fb, MsW, MrW, Sb, Wi, Xc, Fc, GgW, Mv, put together. -/
import Derived.Test.YtjjiclgbdenkkaaProg
import Derived.Test.YtjjiclgbdenkkaaMMirrorFlusha
/- walks (own work; the walks' lines by a program of this repo). -/
set_option linter.unusedVariables false
set_option linter.unusedSimpArgs false
set_option maxRecDepth 20000
namespace Go.Proofs.Ytjjiclgbdenkkaa
open Go.Sl
attribute [local irreducible] BodyQ WpC WpL WpS WpH OpW FnS


theorem write_l {w0 : World} {H : Hp} {L R : List Dv} {d : Dv} {p : Pw} {b : Nat} (hG : GOk dt p L d R) (hb : d.b = b) (n : Int) (s : Sec) (hs : s.length = 128) (hQ : d.a.Q.length < 100000) :
    FnS Try.prog w0 62 #[ptr b, .int .i64 n, .agg (bs s).toArray] (opn dt d p (L ++ R) H) (fun e H' => e = .returned (.int .i64 (writeE d.a p.a n)) ∧ ∃ d' p' L' R', GOk dt p' L' d' R' ∧ d'.b = b ∧ d'.a = writeA d.a p.a n s ∧ p'.b = p.b ∧ p'.a = writeP d.a p.a n ∧ Mv (wgo d.a p.a n) p.a L L' ∧ Mv (wgo d.a p.a n) p.a R R' ∧ H' = opn dt d' p' (L' ++ R') H) := by
  subst hb
  cases hdn : d.a.down p.a with
  | true =>
    refine (write_down (sees 0 0 rfl) (hG.hb ▸ sees 3 0 rfl) n s hdn).mono ?_
    rintro _ _ ⟨rfl, rfl⟩
    refine ⟨ret_int (by simp [writeE, hdn]), d, p, L, R, hG, rfl, by simp [writeA, wgo, hdn], rfl, by simp [writeP, wgo, hdn], ?_, ?_, rfl⟩ <;> simp [wgo, hdn, Mv.same]
  | false =>
    cases hth : d.a.has n with
    | false =>
      refine (write_out (sees 0 0 rfl) (hG.hb ▸ sees 3 0 rfl) n s hdn hth).mono ?_
      rintro _ _ ⟨rfl, rfl⟩
      refine ⟨ret_int (by simp [writeE, hdn, hth]), d, p, L, R, hG, rfl, by simp [writeA, wgo, hth], rfl, by simp [writeP, wgo, hth], ?_, ?_, rfl⟩ <;> simp [wgo, hth, Mv.same]
    | true =>
      have hn : 0 ≤ n ∧ n < d.a.S.length := by simpa [Ab.has] using hth
      obtain ⟨m, rfl⟩ : ∃ m : Nat, n = m := ⟨n.toNat, by omega⟩
      refine (write_go hG m s (by omega) hs hQ hdn).mono ?_
      rintro _ _ ⟨g', hok, rfl, rfl⟩
      have hw : wgo d.a p.a (m : Int) = true := by simp [wgo, hdn, hth]
      refine ⟨ret_int (by simp [writeE, hdn, hth]), _, _, _, _, (((hG.set rfl rfl hok : GOk dt p L (d.wr m s g') R).step p.a).stepp), (Dv.step_b _ _), ?_, rfl, ?_, ?_, ?_, ?_⟩
      · rw [Dv.step_a]; simp [writeA, hw, Dv.wr, Ab.push]
      · simp [writeP, hw, Pw.step]
      · rw [hw]; exact Mv.step _ _
      · rw [hw]; exact Mv.step _ _
      · rw [List.map_append]

theorem flush_l {w0 : World} {H : Hp} {L R : List Dv} {d : Dv} {p : Pw} {b : Nat} (hG : GOk dt p L d R) (hb : d.b = b) :
    FnS Try.prog w0 86 #[ptr b] (opn dt d p (L ++ R) H) (fun e H' => e = .returned (.int .i64 (flushE d.a p.a)) ∧ ∃ d' p' L' R', GOk dt p' L' d' R' ∧ d'.b = b ∧ d'.a = flushA d.a p.a ∧ p'.b = p.b ∧ p'.a = flushP d.a p.a ∧ Mv (!d.a.down p.a) p.a L L' ∧ Mv (!d.a.down p.a) p.a R R' ∧ H' = opn dt d' p' (L' ++ R') H) := by
  subst hb
  cases hdn : d.a.down p.a with
  | true =>
    refine (flush_down (sees 0 0 rfl) (hG.hb ▸ sees 3 0 rfl) hdn).mono ?_
    rintro _ _ ⟨rfl, rfl⟩
    exact ⟨ret_int (by simp [flushE, hdn]), d, p, L, R, hG, rfl, by simp [flushA, hdn], rfl, by simp [flushP, hdn], Mv.same _ _, Mv.same _ _, rfl⟩
  | false =>
    cases hfa : p.a.falls with
    | true =>
      refine (flush_falls hG hdn hfa).mono ?_
      rintro _ _ ⟨rfl, rfl⟩
      refine ⟨ret_int (by simp [flushE, hdn, hfa]), _, _, _, _, (hG.step p.a).stepp, (Dv.step_b _ _), ?_, rfl, ?_, Mv.step _ _, Mv.step _ _, by rw [List.map_append]⟩
      · rw [Dv.step_a]; simp [flushA, hdn, hfa, Ab.step]
      · simp [flushP, hdn, Pw.step]
    | false =>
      have hm0 : ∀ L : List Dv, Mv (!false) p.a L L := fun L => by
        have := Mv.step p.a L
        rwa [step_map0 hfa] at this
      cases hl : d.a.lies with
      | true =>
        refine (flush_lies hG hdn hfa hl).mono ?_
        rintro _ _ ⟨rfl, rfl⟩
        exact ⟨ret_int (by simp [flushE, hdn, hfa]), d, _, L, R, hG.stepp, rfl, by simp [flushA, hdn, hfa, Ab.flush, hl], rfl, by simp [flushP, hdn, Pw.step], hm0 _, hm0 _, rfl⟩
      | false =>
        refine (flush_go hG hdn hfa hl).mono ?_
        rintro _ _ ⟨rfl, rfl⟩
        exact ⟨ret_int (by simp [flushE, hdn, hfa]), d.fl, _, L, R, (hG.set rfl rfl (Dv.fl_ok hG.dok) : GOk dt p L d.fl R).stepp, rfl, by rw [Dv.fl_a hl]; simp [flushA, hdn, hfa], rfl, by simp [flushP, hdn, Pw.step], hm0 _, hm0 _, rfl⟩

theorem read_l {w0 : World} {H : Hp} {L R : List Dv} {d : Dv} {p : Pw} {b : Nat} (hG : GOk dt p L d R) (hb : d.b = b) (n : Int) : FnS Try.prog w0 60 #[ptr b, .int .i64 n] (opn dt d p (L ++ R) H) (fun e H' => e = .returned (.tuple #[.agg (bs (readS d.a p.a n)).toArray, .int .i64 (readE d.a p.a n)]) ∧ H' = opn dt d p (L ++ R) H) := by
  subst hb
  cases hdn : d.a.down p.a with
  | true =>
    refine (read_down (sees 0 0 rfl) (hG.hb ▸ sees 3 0 rfl) n hdn).mono ?_
    rintro _ _ ⟨rfl, rfl⟩
    exact ⟨by simp [readS, readE, hdn], rfl⟩
  | false =>
    cases hth : d.a.has n with
    | false =>
      refine (read_out (sees 0 0 rfl) (hG.hb ▸ sees 3 0 rfl) n hdn hth).mono ?_
      rintro _ _ ⟨rfl, rfl⟩
      exact ⟨by simp [readS, readE, hdn, hth], rfl⟩
    | true =>
      have hn : 0 ≤ n ∧ n < d.a.S.length := by simpa [Ab.has] using hth
      obtain ⟨m, rfl⟩ : ∃ m : Nat, n = m := ⟨n.toNat, by omega⟩
      refine (read_go hG.dok (sees 0 0 rfl) (hG.hb ▸ sees 3 0 rfl) (sees 1 0 rfl) (fun gg hg => sees_mem ?_) m (by omega) hdn).mono ?_
      · simp [opn, Dv.q, hg, slSeg]
      · rintro _ _ ⟨rfl, rfl⟩
        exact ⟨by simp [readS, readE, hdn, hth], rfl⟩

theorem tear_l {w0 : World} {H : Hp} {L R : List Dv} {d : Dv} {p : Pw} {b : Nat} (hG : GOk dt p L d R) (hb : d.b = b) (k m : Int) : FnS Try.prog w0 28 #[ptr b, .int .i64 k, .int .i64 m] (opn dt d p (L ++ R) H) (fun e H' => e = .returned (.tuple #[]) ∧ ∃ d', GOk dt p L d' R ∧ d'.b = b ∧ d'.a = d.a.tear k m ∧ H' = opn dt d' p (L ++ R) H) := by
  subst hb
  refine (tear_s d k m).mono ?_
  rintro _ _ ⟨rfl, rfl⟩
  exact ⟨rfl, { d with a := d.a.tear k m }, hG.set rfl rfl ⟨Ab.tear_ok hG.dok.1, hG.dok.2⟩, rfl, rfl, rfl⟩

theorem fail_l {w0 : World} {H : Hp} {L R : List Dv} {d : Dv} {p : Pw} {b : Nat} (hG : GOk dt p L d R) (hb : p.b = b) (n : Int) (hn : n ≤ 9223372036854775807) : FnS Try.prog w0 29 #[ptr b, .int .i64 n] (opn dt d p (L ++ R) H) (fun e H' => e = .returned (.tuple #[]) ∧ ∃ p', GOk dt p' L d R ∧ p'.b = b ∧ p'.a = p.a.fail n ∧ H' = opn dt d p' (L ++ R) H) := by
  subst hb
  refine ((fail_s p n).sub (hsub_pick [3] rfl)).weak ?_
  rintro _ _ ⟨rfl, rfl⟩
  exact ⟨_, hsub_pick [1, 1, 1] rfl, rfl, { p with a := p.a.fail n }, hG.setp _ hn, rfl, rfl, rfl⟩

theorem rot_l {w0 : World} {H : Hp} {L R : List Dv} {d : Dv} {p : Pw} {b : Nat} (hG : GOk dt p L d R) (hb : d.b = b) (n i : Int) (m : UInt8) : FnS Try.prog w0 34 #[ptr b, .int .i64 n, .int .i64 i, .int .u8 (m.toNat : Int)] (opn dt d p (L ++ R) H) (fun e H' => e = .returned (.bool (d.a.rotE n i)) ∧ ∃ d', GOk dt p L d' R ∧ d'.b = b ∧ d'.a = d.a.rots n i m ∧ H' = opn dt d' p (L ++ R) H) := by
  subst hb
  cases hth : d.a.has n with
  | false =>
    refine (rot_out d (sees 0 0 rfl) n i _ hth).mono ?_
    rintro _ _ ⟨rfl, rfl⟩
    exact ⟨ret_bool (by simp [Ab.rotE, hth]), d, hG, rfl, by simp [Ab.rots, Ab.rotE, hth], rfl⟩
  | true =>
    by_cases hi : 0 ≤ i ∧ i < 128
    · have hn : 0 ≤ n ∧ n < d.a.S.length := by simpa [Ab.has] using hth
      have hr : d.a.rotE n i = true := by simp [Ab.rotE, hth, hi]
      obtain ⟨k, rfl⟩ : ∃ m : Nat, n = m := ⟨n.toNat, by omega⟩
      obtain ⟨j, rfl⟩ : ∃ m : Nat, i = m := ⟨i.toNat, by omega⟩
      refine (rot_go d hG.dok.1 k j m (by omega) (by omega)).mono ?_
      rintro _ _ ⟨rfl, rfl⟩
      exact ⟨ret_bool hr.symm, { d with a := d.a.rot k j m }, hG.set rfl rfl ⟨Ab.rot_ok hG.dok.1 (by omega), hG.dok.2⟩, rfl, by simp [Ab.rots, hr], rfl⟩
    · refine (rot_at d (sees 0 0 rfl) n i _ hth hi).mono ?_
      rintro _ _ ⟨rfl, rfl⟩
      have hr : d.a.rotE n i = false := by simp only [Ab.rotE, hth, Bool.true_and]; simp; omega
      exact ⟨ret_bool hr.symm, d, hG, rfl, by simp [Ab.rots, hr], rfl⟩

theorem len_l {w0 : World} {H : Hp} {d : Dv} {b : Nat} (hb : d.b = b) (hD : Sees (fun w => St w0 w H) d.b (.cells d.cells.toArray dt.dev)) : FnS Try.prog w0 52 #[ptr b] H (fun e H' => e = .returned (.int .i64 (d.a.S.length : Int)) ∧ H' = H) := hb ▸ len_s d hD

theorem dump_l {w0 : World} {H : Hp} {d : Dv} {b : Nat} (hb : d.b = b) (hd : d.a.ok) (hD : Sees (fun w => St w0 w H) d.b (.cells d.cells.toArray dt.dev)) (hT : Sees (fun w => St w0 w H) d.st (.cells (bs d.a.S.flatten).toArray dt.sec)) : FnS Try.prog w0 30 #[ptr b] H (fun e H' => ∃ g, slOk 128 g d.a.S.length (bs d.a.S.flatten) ∧ e = .returned (slV g d.a.S.length) ∧ H' = slSeg 32 g (bs d.a.S.flatten) :: H) := hb ▸ dump_s d hd hD hT

theorem new_l {w0 : World} {H : Hp} {p : Pw} {b : Nat} (hb : p.b = b) (hp : p.ok dt) (hdv : p.devs = []) (n : Int) : FnS Try.prog w0 16 #[.int .i64 n, ptr b] (p.o dt :: p.q dt :: H) (fun e H' => ∃ d' p', GOk dt p' [] d' [] ∧ p'.b = b ∧ d'.a = Ab.new (szOf n) ∧ p'.a = p.a ∧ e = .returned (ptr d'.b) ∧ H' = d'.o dt :: d'.t dt :: d'.q dt :: p'.o dt :: p'.q dt :: H) := by
  subst hb
  refine (new_s n p hp (by simp [hdv])).mono ?_
  rintro _ _ ⟨b, st, g', hg, rfl, rfl⟩
  exact ⟨Dv.new b st p.b (szOf n), ⟨p.b, g', p.devs ++ [b], p.a⟩, ⟨fun x hx => by simp at hx; subst hx; rfl, by simp [hdv, Dv.new], fun x hx => by simp at hx; subst hx; exact Dv.new_ok (by unfold szOf; omega), ⟨hg, hp.2⟩, by simp⟩, rfl, rfl, rfl, rfl, rfl⟩

theorem new_ln {w0 : World} {H : Hp} (n : Int) : FnS Try.prog w0 16 #[.int .i64 n, .pointer none] H (fun e H' => ∃ d' p', GOk dt p' [] d' [] ∧ d'.a = Ab.new (szOf n) ∧ p'.a = ⟨false, 0, false⟩ ∧ e = .returned (ptr d'.b) ∧ H' = d'.o dt :: d'.t dt :: d'.q dt :: p'.o dt :: p'.q dt :: H) := by
  refine (new_nil n).mono ?_
  rintro _ _ ⟨pb, b, st, g', hg, rfl, rfl⟩
  exact ⟨Dv.new b st pb (szOf n), ⟨pb, g', [] ++ [b], ⟨false, 0, false⟩⟩, ⟨fun x hx => by simp at hx; subst hx; rfl, rfl, fun x hx => by simp at hx; subst hx; exact Dv.new_ok (by unfold szOf; omega), ⟨hg, by simp⟩, by simp⟩, rfl, rfl, rfl, rfl⟩

theorem newpower_l {w0 : World} {H : Hp} : FnS Try.prog w0 26 #[] H (fun e H' => ∃ p : Pw, p.ok dt ∧ p.devs = [] ∧ p.a = ⟨false, 0, false⟩ ∧ e = .returned (ptr p.b) ∧ H' = p.o dt :: p.q dt :: H) := by
  refine newpower_s.mono ?_
  rintro _ _ ⟨b, rfl, rfl⟩
  exact ⟨⟨b, none, [], ⟨false, 0, false⟩⟩, ⟨⟨rfl, rfl⟩, by simp⟩, rfl, rfl, rfl, rfl⟩

theorem new_l2 {w0 : World} {H : Hp} {d : Dv} {p : Pw} {b : Nat} (hG : GOk dt p [] d []) (hb : p.b = b) (n : Int) : FnS Try.prog w0 16 #[.int .i64 n, ptr b] (p.o dt :: p.q dt :: d.o dt :: d.t dt :: d.q dt :: H) (fun e H' => ∃ y p', GOk dt p' [] d [y] ∧ p'.b = b ∧ y.a = Ab.new (szOf n) ∧ p'.a = p.a ∧ e = .returned (ptr y.b) ∧ H' = y.o dt :: y.t dt :: y.q dt :: p'.o dt :: p'.q dt :: d.o dt :: d.t dt :: d.q dt :: H) := by
  subst hb
  have hdv := hG.devs
  refine (new_s n p hG.pok (by rw [hdv]; simp)).mono ?_
  rintro _ _ ⟨b, st, g', hg, rfl, rfl⟩
  refine ⟨Dv.new b st p.b (szOf n), ⟨p.b, g', p.devs ++ [b], p.a⟩, ⟨fun x hx => ?_, by simp [hdv, Dv.new], fun x hx => ?_, ⟨hg, hG.pok.2⟩, by simp⟩, rfl, rfl, rfl, rfl, rfl⟩
  · simp at hx
    rcases hx with rfl | rfl
    · exact hG.hb
    · rfl
  simp at hx
  rcases hx with rfl | rfl
  · exact hG.dok
  · exact Dv.new_ok (by unfold szOf; omega)

end Go.Proofs.Ytjjiclgbdenkkaa

/- Plain laws for the statements on devices (own work). -/
set_option linter.unusedVariables false
set_option linter.unusedSimpArgs false
namespace Go.Sl
/-! ### DeviceTears -/
def tq (m : Nat) : List (Nat × Sec) := (List.range m).map fun j => (j, secOf (UInt8.ofNat (j + 1)))
def tearA (K B m : Nat) : Ab := { (Ab.new 12).tear K B with Q := tq m }
def tearS (K B m : Nat) : List Sec := cutN (tearA K B m) m
def tsec (K B m i : Nat) : Sec := if i < m then (if i < K then secOf (UInt8.ofNat (i + 1)) else if i = K then (secOf (UInt8.ofNat (i + 1))).take (min B 128) ++ (secOf 0).drop (min B 128) else secOf 0) else secOf 0
def tbyte (K B m i j : Nat) : UInt8 := if i < m ∧ (i < K ∨ i = K ∧ j < B) then UInt8.ofNat (i + 1) else 0
/-! ### DeviceRots -/
abbrev q0 : Pa := ⟨false, 0, false⟩
def rq (c : UInt8) (m : Nat) : List (Nat × Sec) := (List.range m).map fun j => (j, secOf c)
def rotA (c : UInt8) (m : Nat) : Ab := { Ab.new 6 with Q := rq c m }
def rotS (c : UInt8) : List Sec := List.replicate 6 (secOf c)
def rotF (c : UInt8) : Ab := { Ab.new 6 with S := rotS c }
def rotT (c : UInt8) (n k : Nat) (m : UInt8) : List Sec := (rotS c).set n ((secOf c).set k (c ^^^ m))
def rotG (c : UInt8) (n k : Nat) (m : UInt8) : Ab := { rotF c with S := rotT c n k m }
def rbyte (c : UInt8) (n k : Nat) (m : UInt8) (i j : Nat) : UInt8 := if i = n ∧ j = k then c ^^^ m else c
/-! ### DeviceApart -/
def apS (c : UInt8) (K : Nat) : List Sec := (List.replicate K (secOf 0)).set 0 (secOf c)
def apF (c : UInt8) (K : Nat) : Ab := { Ab.new K with S := apS c K }
/-! ### Deeds -/
structure DeedM where
  on : Int
  kind : Int
  n : Int
  m : Int
  c : UInt8
def dcells (x : DeedM) : List Value := [.int .i64 x.on, .int .i64 x.kind, .int .i64 x.n, .int .i64 x.m, .int .u8 (x.c.toNat : Int)]
def deeds (ds : List DeedM) : List Value := (ds.map dcells).flatten
/-! ### What a flush makes stable is what was read -/
theorem lastW_snoc (Q : List (Nat × Sec)) (x : Nat × Sec) (k : Nat) : lastW (Q ++ [x]) k = if x.1 = k then some x.2 else lastW Q k := by
  unfold lastW
  rw [List.reverse_append, List.reverse_singleton, List.singleton_append, List.find?_cons]
  by_cases h : x.1 = k
  · simp [h]
  · have : (x.1 == k) = false := by simpa using h
    simp [h, this]
theorem flushN_get {a : Ab} (h : a.ok) {k : Nat} (hk : k < a.S.length) : ∀ m, m ≤ a.Q.length → (flushN a m)[k]? = some ((lastW (a.Q.take m) k).getD (a.S.getD k []))
  | 0, _ => by
    show a.S[k]? = _
    rw [List.take_zero, show lastW [] k = none from rfl, Option.getD_none]
    simp [List.getD, hk]
  | m + 1, hm => by
    have ih := flushN_get h hk m (by omega)
    obtain ⟨x, hx⟩ : ∃ x, a.Q[m]? = some x := ⟨_, List.getElem?_eq_getElem (by omega)⟩
    rw [flushN_s hx, show a.Q.take (m + 1) = a.Q.take m ++ [x] from by rw [List.take_add_one, hx]; rfl, lastW_snoc]
    by_cases e : x.1 = k
    · subst e
      rw [List.getElem?_set_self (by rw [(flushN_ok h m).2]; exact hk), if_pos rfl]; rfl
    · rw [List.getElem?_set_ne e, if_neg e, ih]
/-! ### DeviceLies -/
def okN (x : DeedM) : Prop := 0 ≤ x.n ∧ x.n < 20
instance (x : DeedM) : Decidable (okN x) := inferInstanceAs (Decidable (0 ≤ x.n ∧ x.n < 20))
def wq1 (x : DeedM) : List (Nat × Sec) := if okN x then [(x.n.toNat, secOf x.c)] else []
def lq (ds : List DeedM) (i : Nat) : List (Nat × Sec) := (ds.take i).flatMap wq1
def S20 : List Sec := List.replicate 20 (secOf 0)
def lA (ds : List DeedM) (i : Nat) : Ab := ⟨S20, lq ds i, 0, 0, true, false⟩
def nowS (ds : List DeedM) (k : Nat) : List Sec := (List.range k).map (lA ds ds.length).read
def lC (ds : List DeedM) : Ab := ⟨nowS ds 20, [], 0, 0, false, false⟩
/-! ### DeviceReads, DeviceFlushes: what is read behind a write, behind a flush -/
theorem read_push (a : Ab) (n : Nat) (s : Sec) (k : Nat) : (a.push n s).read k = if n = k then s else a.read k := by
  simp only [Ab.read, Ab.push, lastW_snoc]
  by_cases h : n = k
  · simp [h]
  · simp [h]
theorem read_flush {a : Ab} (h : a.ok) (hl : a.lies = false) {k : Nat} (hk : k < a.S.length) : a.flush.read k = a.read k := by
  have e := flushN_get h hk a.Q.length (Nat.le_refl _)
  rw [List.take_length] at e
  simp only [Ab.flush, hl, Bool.false_eq_true, if_false, Ab.read, show lastW [] k = none from rfl, Option.getD_none, List.getD, e, Option.getD_some]
theorem has_flush {a : Ab} (h : a.ok) (hl : a.lies = false) : a.flush.S.length = a.S.length := by
  simp only [Ab.flush, hl, Bool.false_eq_true, if_false, (flushN_ok h _).2]
/-- A device that is whole and is read as W. -/
structure RdW (K : Nat) (W : List Sec) (a : Ab) (m : Nat) : Prop where
  ok : a.ok
  len : a.S.length = K
  out : a.out = false
  lies : a.lies = false
  many : a.Q.length ≤ m
  wlen : W.length = K
  read : ∀ k s, W[k]? = some s → a.read k = s
theorem RdW.new {K : Nat} (h : K ≤ 4096) : RdW K (List.replicate K (secOf 0)) (Ab.new K) 0 := ⟨Ab.new_ok h, by simp [Ab.new], rfl, rfl, Nat.le_refl _, by simp, fun k s hs => by
  have : k < K := by have := (List.getElem?_eq_some_iff.1 hs).1; simpa using this
  rw [List.getElem?_replicate, if_pos this] at hs; cases hs
  simp [Ab.read, Ab.new, lastW, List.getD, this]⟩
theorem RdW.write {K n m : Nat} {W : List Sec} {a : Ab} {s : Sec} (h : RdW K W a m) (hn : n < K) (hs : s.length = 128) : RdW K (W.set n s) (a.push n s) (m + 1) := by
  obtain ⟨h1, h2, h3, h4, h5, h6, h7⟩ := h
  refine ⟨⟨h1.1, h1.2.1, fun x hx => ?_, h1.2.2.2⟩, h2, h3, h4, by simp [Ab.push]; omega, by simpa using h6, fun k t ht => ?_⟩
  · rcases List.mem_append.1 hx with hx | hx
    · exact h1.2.2.1 x hx
    · simp at hx; subst hx; exact ⟨by simp only [Ab.push]; omega, hs⟩
  · rw [read_push]
    by_cases e : n = k
    · subst e
      rw [List.getElem?_set_self (by omega)] at ht; cases ht; simp
    · rw [List.getElem?_set_ne e] at ht
      rw [if_neg e]; exact h7 k t ht
theorem RdW.flush {K m : Nat} {W : List Sec} {a : Ab} (h : RdW K W a m) : RdW K W a.flush 0 := by
  obtain ⟨h1, h2, h3, h4, h5, h6, h7⟩ := h
  refine ⟨Ab.flush_ok h1, by rw [has_flush h1 h4, h2], by simp [Ab.flush, h4, h3], by simp [Ab.flush, h4], by simp [Ab.flush, h4], h6, fun k t ht => ?_⟩
  rw [read_flush h1 h4 (by have := (List.getElem?_eq_some_iff.1 ht).1; omega)]
  exact h7 k t ht
theorem RdW.has {K m : Nat} {W : List Sec} {a : Ab} (h : RdW K W a m) (n : Int) : a.has n = (decide (0 ≤ n) && decide (n < K)) := by simp only [Ab.has, h.len]
theorem RdW.writes {K m : Nat} {W : List Sec} {a : Ab} (h : RdW K W a m) (n : Int) (s : Sec) : writeE a q0 n = (if 0 ≤ n ∧ n < K then 0 else 2) ∧ writeA a q0 n s = (if 0 ≤ n ∧ n < K then a.push n.toNat s else a) ∧ writeP a q0 n = q0 := by
  have hd : a.down q0 = false := by simp [Ab.down, h.out]
  have hf : q0.falls = false := rfl
  simp only [writeE, writeA, writeP, wgo, hd, h.has, hf, Ab.step, Bool.not_false, Bool.true_and, Bool.false_eq_true, if_false]
  by_cases hn : 0 ≤ n ∧ n < K
  · simp [hn]; rfl
  · have : (decide (0 ≤ n) && decide (n < (K : Int))) = false := by simp; omega
    simp [this, hn]
theorem RdW.reads {K m k : Nat} {W : List Sec} {a : Ab} {s : Sec} (h : RdW K W a m) (hk : W[k]? = some s) : readS a q0 (k : Int) = s ∧ readE a q0 (k : Int) = 0 := by
  have hd : a.down q0 = false := by simp [Ab.down, h.out]
  have hlt : k < K := by have := (List.getElem?_eq_some_iff.1 hk).1; have := h.wlen; omega
  have hh : a.has (k : Int) = true := by rw [h.has]; simp; omega
  simp only [readS, readE, hd, hh, Bool.false_eq_true, if_false, if_true, Int.toNat_natCast, and_true]
  exact h.read k s hk
theorem RdW.mono {K m m' : Nat} {W : List Sec} {a : Ab} (h : RdW K W a m) (hm : m ≤ m') : RdW K W a m' := ⟨h.ok, h.len, h.out, h.lies, Nat.le_trans h.many hm, h.wlen, h.read⟩
/-! ### DeviceFlushes -/
theorem RdW.stable {K : Nat} {W : List Sec} {a : Ab} (h : RdW K W a 0) : a.Q = [] ∧ a.S = W := by
  have hq : a.Q = [] := List.eq_nil_of_length_eq_zero (Nat.le_zero.1 h.many)
  refine ⟨hq, ?_⟩
  apply List.ext_getElem?
  intro k
  by_cases hk : k < K
  · have h1 : a.read k = W[k]'(by rw [h.wlen]; exact hk) := h.read k _ (List.getElem?_eq_getElem _)
    rw [List.getElem?_eq_getElem (show k < W.length from by rw [h.wlen]; exact hk), ← h1]
    simp only [Ab.read, hq, show lastW [] k = none from rfl, Option.getD_none, List.getD]
    rw [List.getElem?_eq_getElem (by rw [h.len]; exact hk)]; rfl
  · rw [List.getElem?_eq_none (by rw [h.len]; omega), List.getElem?_eq_none (by rw [h.wlen]; omega)]
abbrev qF : Pa := ⟨false, 0, true⟩
abbrev qX : Pa := ⟨true, 0, false⟩
/-- Power fails at a flush of what is flushed: nothing changes. -/
theorem RdW.fails {K : Nat} {W : List Sec} {a : Ab} (h : RdW K W a 0) (k m : Int) : flushE (a.tear k m) qF = 13 ∧ flushA (a.tear k m) qF = a.tear k m ∧ flushP (a.tear k m) qF = qX := by
  obtain ⟨hq, hs⟩ := h.stable
  have hd : (a.tear k m).down qF = false := by simp [Ab.down, Ab.tear, h.out]
  have hf : qF.falls = true := rfl
  have hc : (a.tear k m).cut = a.tear k m := by
    have ho : (a.tear k m).out = false := h.out
    have hq2 : (a.tear k m).Q = [] := hq
    generalize a.tear k m = y at ho hq2
    cases y
    simp only at ho hq2
    subst ho; subst hq2
    rfl
  simp only [flushE, flushA, flushP, hd, hf, hc, Bool.false_eq_true, if_false, if_true, true_and]
  rfl
theorem RdW.tear {K m : Nat} {W : List Sec} {a : Ab} (h : RdW K W a m) (k b : Int) : RdW K W (a.tear k b) m := ⟨Ab.tear_ok h.ok, h.len, h.out, h.lies, h.many, h.wlen, h.read⟩
end Go.Sl

/- Two devices, of one power or each of its own: one segment in memory, one abstract state (own work). -/
set_option linter.unusedVariables false
set_option linter.unusedSimpArgs false
namespace Go.Sl
structure Duo where
  x : Dv
  y : Dv
  p : Pw
  q : Option Pw
/-- The abstract state: two devices, a power, and the second one's own power. -/
structure Da where
  a : Ab
  b : Ab
  p : Pa
  q : Option Pa
def Duo.qs (t : DT) : Option Pw → Hp
  | none => []
  | some q => [q.o t, q.q t]
def Duo.hp (t : DT) (D : Duo) : Hp := [D.x.o t, D.x.t t, D.x.q t, D.p.o t, D.p.q t, D.y.o t, D.y.t t, D.y.q t] ++ Duo.qs t D.q
def Duo.seg (t : DT) (D : Duo) : List (Nat × Obj) := (D.hp t).flatten
def Duo.dev (D : Duo) : Bool → Dv
  | false => D.x
  | true => D.y
def Duo.pow (D : Duo) : Bool → Pw
  | false => D.p
  | true => D.q.getD D.p
def Duo.da (D : Duo) : Da := ⟨D.x.a, D.y.a, D.p.a, D.q.map (·.a)⟩
def Duo.ok (t : DT) (D : Duo) : Prop := match D.q with
  | none => GOk t D.p [] D.x [D.y]
  | some q => GOk t D.p [] D.x [] ∧ GOk t q [] D.y []
def Da.dev (A : Da) : Bool → Ab
  | false => A.a
  | true => A.b
def Da.pow (A : Da) : Bool → Pa
  | false => A.p
  | true => A.q.getD A.p
def Da.setd (A : Da) (i : Bool) (x : Ab) : Da := match i with
  | false => { A with a := x }
  | true => { A with b := x }
def Da.setp (A : Da) (i : Bool) (x : Pa) : Da := match i, A.q with
  | true, some _ => { A with q := some x }
  | _, _ => { A with p := x }
/-- The other device of the same power, behind an operation that was counted (c) or not. -/
def Da.oth (A : Da) (i c : Bool) : Da := if c && A.q.isNone then A.setd (!i) ((A.dev (!i)).step (A.pow i)) else A
def Da.write (A : Da) (i : Bool) (n : Int) (s : Sec) : Da := ((A.oth i (wgo (A.dev i) (A.pow i) n)).setd i (writeA (A.dev i) (A.pow i) n s)).setp i (writeP (A.dev i) (A.pow i) n)
def Da.flush (A : Da) (i : Bool) : Da := ((A.oth i (!(A.dev i).down (A.pow i))).setd i (flushA (A.dev i) (A.pow i))).setp i (flushP (A.dev i) (A.pow i))
def Da.wE (A : Da) (i : Bool) (n : Int) : Int := writeE (A.dev i) (A.pow i) n
def Da.fE (A : Da) (i : Bool) : Int := flushE (A.dev i) (A.pow i)
def Da.rS (A : Da) (i : Bool) (n : Int) : Sec := readS (A.dev i) (A.pow i) n
def Da.rE (A : Da) (i : Bool) (n : Int) : Int := readE (A.dev i) (A.pow i) n
theorem Da.setd_self (A : Da) (i : Bool) : A.setd i (A.dev i) = A := by cases i <;> rfl
theorem Da.setp_self (A : Da) (i : Bool) : A.setp i (A.pow i) = A := by
  obtain ⟨a, b, p, q⟩ := A
  cases i <;> cases q <;> rfl
theorem Duo.da_dev (D : Duo) (i : Bool) : (D.dev i).a = D.da.dev i := by cases i <;> rfl
theorem Duo.da_pow (D : Duo) (i : Bool) : (D.pow i).a = D.da.pow i := by
  obtain ⟨x, y, p, q⟩ := D
  cases i <;> cases q <;> rfl
theorem Duo.hsub2 (t : DT) (D : Duo) (H : Hp) : HSub (D.seg t :: H) (D.hp t ++ H) := hsub_flat (by rw [List.flatten_append]; rfl)
theorem Duo.flat (t : DT) (D : Duo) (H : Hp) : (D.hp t ++ H).flatten = (D.seg t :: H).flatten := by rw [List.flatten_append]; rfl
theorem Duo.pick (t : DT) (D : Duo) {H Y : Hp} (is : List Nat) (e : pick is (D.hp t ++ H) = Y) : Y.flatten.Perm (D.seg t :: H).flatten := by
  subst e
  rw [← Duo.flat]
  exact (pick_perm is _).flatten.symm
theorem HSub.under {A B : Hp} (S : List (Nat × Obj)) (h : B.flatten.Perm A.flatten) : HSub (S :: A) (S :: B) := .of_perm (by simpa using h.append_left S)
theorem Duo.view (t : DT) {D : Duo} (h : D.ok t) (i : Bool) (H : Hp) : ∃ L R X, GOk t (D.pow i) L (D.dev i) R ∧ (opn t (D.dev i) (D.pow i) (L ++ R) X).flatten.Perm (D.seg t :: H).flatten ∧
    ∀ c d' p' L' R', GOk t p' L' d' R' → d'.b = (D.dev i).b → p'.b = (D.pow i).b → Mv c (D.pow i).a L L' → Mv c (D.pow i).a R R' →
      ∃ D' : Duo, D'.ok t ∧ D'.x.b = D.x.b ∧ D'.y.b = D.y.b ∧ D'.p.b = D.p.b ∧ D'.da = ((D.da.oth i c).setd i d'.a).setp i p'.a ∧ HSub (D'.seg t :: H) (opn t d' p' (L' ++ R') X) := by
  obtain ⟨x, y, p, q⟩ := D
  cases q with
  | none =>
    have hG : GOk t p [] x [y] := h
    cases i with
    | false =>
      refine ⟨[], [y], H, hG, Duo.pick t _ [] rfl, ?_⟩
      intro c d' p' L' R' g1 g2 g3 g4 g5
      obtain rfl := g4.nil
      obtain ⟨y', rfl, e1, e2, e3⟩ := g5.one
      refine ⟨⟨d', y', p', none⟩, g1, g2, e1, g3, ?_, (Duo.hsub2 t _ H).trans (hsub_pick [] rfl)⟩
      cases c <;> simp_all [Duo.da, Da.oth, Da.setd, Da.setp, Da.dev, Da.pow, Duo.pow]
    | true =>
      refine ⟨[x], [], H, hG.next, Duo.pick t _ [5, 5, 5, 3, 3] rfl, ?_⟩
      intro c d' p' L' R' g1 g2 g3 g4 g5
      obtain rfl := g5.nil
      obtain ⟨y', rfl, e1, e2, e3⟩ := g4.one
      refine ⟨⟨y', d', p', none⟩, g1.back, e1, g2, g3, ?_, (Duo.hsub2 t _ H).trans (hsub_pick [5, 5, 5, 3, 3] rfl)⟩
      cases c <;> simp_all [Duo.da, Da.oth, Da.setd, Da.setp, Da.dev, Da.pow, Duo.pow]
  | some q =>
    obtain ⟨h1, h2⟩ := h
    simp only at h1 h2
    cases i with
    | false =>
      refine ⟨[], [], y.o t :: y.t t :: y.q t :: q.o t :: q.q t :: H, h1, Duo.pick t _ [] rfl, ?_⟩
      intro c d' p' L' R' g1 g2 g3 g4 g5
      obtain rfl := g4.nil
      obtain rfl := g5.nil
      exact ⟨⟨d', y, p', some q⟩, ⟨g1, h2⟩, g2, rfl, g3, by cases c <;> rfl, (Duo.hsub2 t _ H).trans (hsub_pick [] rfl)⟩
    | true =>
      refine ⟨[], [], x.o t :: x.t t :: x.q t :: p.o t :: p.q t :: H, h2, Duo.pick t _ [5, 5, 5, 5, 5] rfl, ?_⟩
      intro c d' p' L' R' g1 g2 g3 g4 g5
      obtain rfl := g4.nil
      obtain rfl := g5.nil
      exact ⟨⟨x, d', p, some p'⟩, ⟨h1, g1⟩, rfl, g2, rfl, by cases c <;> rfl, (Duo.hsub2 t _ H).trans (hsub_pick [5, 5, 5, 5, 5] rfl)⟩
/-- Two devices, at such blocks, of such an abstract state. -/
structure Two (t : DT) (D : Duo) (A : Da) (bx bys bp : Nat) : Prop where
  ok : D.ok t
  da : D.da = A
  x : D.x.b = bx
  y : D.y.b = bys
  p : D.p.b = bp
abbrev sel (bx bys : Nat) (i : Bool) : Nat := if i then bys else bx
theorem Two.b {t : DT} {D : Duo} {A : Da} {bx bys bp : Nat} (h : Two t D A bx bys bp) (i : Bool) : (D.dev i).b = sel bx bys i := by
  cases i
  · exact h.x
  · exact h.y
theorem Two.dev {t : DT} {D : Duo} {A : Da} {bx bys bp : Nat} (h : Two t D A bx bys bp) (i : Bool) : (D.dev i).a = A.dev i := by rw [D.da_dev, h.da]
theorem Two.pow {t : DT} {D : Duo} {A : Da} {bx bys bp : Nat} (h : Two t D A bx bys bp) (i : Bool) : (D.pow i).a = A.pow i := by rw [D.da_pow, h.da]
theorem Two.aok {t : DT} {D : Duo} {A : Da} {bx bys bp : Nat} (h : Two t D A bx bys bp) (i : Bool) : (A.dev i).ok ∧ (A.dev i).Q.length ≤ 100000 := by
  obtain ⟨L, R, X, hG, _⟩ := Duo.view t h.ok i []
  rw [← h.dev i]
  exact ⟨hG.dok.1, hG.dok.2.2⟩
/-- One view for all calls: what a call does to a device in hand it does to the two. -/
theorem Two.view {t : DT} {D : Duo} {A : Da} {bx bys bp : Nat} (h : Two t D A bx bys bp) (i : Bool) (H : Hp) : ∃ d p L R X, GOk t p L d R ∧ d.b = sel bx bys i ∧ d.a = A.dev i ∧ p.a = A.pow i ∧ (i = false → p.b = bp) ∧ (opn t d p (L ++ R) X).flatten.Perm (D.seg t :: H).flatten ∧
    ∀ c d' p' L' R', GOk t p' L' d' R' → d'.b = sel bx bys i → p'.b = p.b → Mv c (A.pow i) L L' → Mv c (A.pow i) R R' →
      ∃ D' : Duo, Two t D' (((A.oth i c).setd i d'.a).setp i p'.a) bx bys bp ∧ HSub (D'.seg t :: H) (opn t d' p' (L' ++ R') X) := by
  obtain ⟨L, R, X, hG, h1, h3⟩ := Duo.view t h.ok i H
  refine ⟨D.dev i, D.pow i, L, R, X, hG, h.b i, h.dev i, h.pow i, fun e => by subst e; exact h.p, h1, ?_⟩
  intro c d' p' L' R' g1 g2 g3 g4 g5
  obtain ⟨D', k1, k2, k3, k4, k5, k6⟩ := h3 c d' p' L' R' g1 (g2.trans (h.b i).symm) g3 (h.pow i ▸ g4) (h.pow i ▸ g5)
  exact ⟨D', ⟨k1, by rw [k5, h.da], k2.trans h.x, k3.trans h.y, k4.trans h.p⟩, k6⟩
theorem Two.to {t : DT} {D : Duo} {A B : Da} {bx bys bp : Nat} (h : Two t D A bx bys bp) (e : A = B) : Two t D B bx bys bp := e ▸ h
theorem Da.oth_f (A : Da) (i : Bool) : A.oth i false = A := rfl
theorem Da.setd_pow (A : Da) (i j : Bool) (x : Ab) : (A.setd i x).pow j = A.pow j := by cases i <;> cases j <;> rfl
theorem Da.setd_setp (A : Da) (i : Bool) (x : Ab) : (A.setd i x).setp i (A.pow i) = A.setd i x := by
  have := Da.setp_self (A.setd i x) i
  rwa [Da.setd_pow] at this
theorem Ab.cut_many (a : Ab) : a.cut.Q.length ≤ a.Q.length := by unfold Ab.cut; split <;> simp
theorem Ab.step_many (a : Ab) (q : Pa) : (a.step q).Q.length ≤ a.Q.length := by unfold Ab.step; split; exact a.cut_many; exact Nat.le_refl _
theorem writeA_many (a : Ab) (q : Pa) (n : Int) (s : Sec) : (writeA a q n s).Q.length ≤ a.Q.length + 1 := by
  unfold writeA; split
  · refine Nat.le_trans (Ab.step_many _ _) ?_; simp [Ab.push]
  · omega
theorem Da.setp_dev (A : Da) (i j : Bool) (x : Pa) : (A.setp i x).dev j = A.dev j := by obtain ⟨a, b, p, q⟩ := A; cases i <;> cases j <;> cases q <;> rfl
theorem Da.setd_same (A : Da) (i : Bool) (x : Ab) : (A.setd i x).dev i = x := by cases i <;> rfl
theorem Da.setd_other (A : Da) {i j : Bool} (x : Ab) (h : j ≠ i) : (A.setd i x).dev j = A.dev j := by cases i <;> cases j <;> first | rfl | exact absurd rfl h
theorem Da.oth_many (A : Da) (i c j : Bool) : ((A.oth i c).dev j).Q.length ≤ (A.dev j).Q.length := by
  unfold Da.oth; split
  · by_cases h : j = !i
    · subst h; rw [Da.setd_same]; exact Ab.step_many _ _
    · rw [Da.setd_other _ _ h]; exact Nat.le_refl _
  · exact Nat.le_refl _
theorem Da.write_many (A : Da) (i : Bool) (n : Int) (s : Sec) (j : Bool) : ((A.write i n s).dev j).Q.length ≤ (A.dev j).Q.length + 1 := by
  unfold Da.write
  rw [Da.setp_dev]
  by_cases h : j = i
  · subst h; rw [Da.setd_same]; exact writeA_many _ _ _ _
  · rw [Da.setd_other _ _ h]; exact Nat.le_succ_of_le (Da.oth_many _ _ _ _)
/-- Power that doesn't fail. -/
def Da.calm (A : Da) : Prop := A.p.off = false ∧ A.p.fails = false ∧ ∀ q, A.q = some q → q.off = false ∧ q.fails = false
theorem Da.calm_pow {A : Da} (h : A.calm) (i : Bool) : (A.pow i).off = false ∧ (A.pow i).fails = false := by
  obtain ⟨a, b, p, q⟩ := A
  obtain ⟨h1, h2, h3⟩ := h
  cases i
  · exact ⟨h1, h2⟩
  · cases q
    · exact ⟨h1, h2⟩
    · exact h3 _ rfl
theorem Pa.calm_step {q : Pa} (h : q.fails = false) : q.step = q ∧ q.falls = false := by simp [Pa.step, Pa.falls, h]
theorem Da.calm_setd {A : Da} (h : A.calm) (i : Bool) (x : Ab) : (A.setd i x).calm := by cases i <;> exact h
theorem Da.oth_calm {A : Da} (h : A.calm) (i c : Bool) : A.oth i c = A := by
  unfold Da.oth
  split
  · rw [show ((A.dev (!i)).step (A.pow i)) = A.dev (!i) from by simp [Ab.step, (Pa.calm_step (Da.calm_pow h i).2).2], Da.setd_self]
  · rfl
theorem Da.write_calm {A : Da} (h : A.calm) (i : Bool) (n : Int) (s : Sec) : A.write i n s = (if !(A.dev i).out && (A.dev i).has n then A.setd i ((A.dev i).push n.toNat s) else A) ∧ A.wE i n = (if (A.dev i).out then 13 else if (A.dev i).has n then 0 else 2) := by
  obtain ⟨h1, h2⟩ := Da.calm_pow h i
  obtain ⟨h3, h4⟩ := Pa.calm_step h2
  constructor
  · unfold Da.write
    rw [Da.oth_calm h]
    have e : writeP (A.dev i) (A.pow i) n = A.pow i := by unfold writeP; split <;> simp [h3]
    rw [e, Da.setd_setp]
    unfold writeA wgo Ab.down
    rw [h1, Bool.or_false]
    split
    · simp [Ab.step, h4]
    · exact Da.setd_self _ _
  · unfold Da.wE writeE Ab.down
    rw [h1, Bool.or_false, h4]
    simp
theorem Da.flush_calm {A : Da} (h : A.calm) (i : Bool) : A.flush i = (if (A.dev i).out then A else A.setd i (A.dev i).flush) ∧ A.fE i = (if (A.dev i).out then 13 else 0) := by
  obtain ⟨h1, h2⟩ := Da.calm_pow h i
  obtain ⟨h3, h4⟩ := Pa.calm_step h2
  constructor
  · unfold Da.flush
    rw [Da.oth_calm h]
    have e : flushP (A.dev i) (A.pow i) = A.pow i := by unfold flushP; split <;> simp [h3]
    rw [e, Da.setd_setp]
    unfold flushA Ab.down
    rw [h1, Bool.or_false, h4]
    split
    · exact Da.setd_self _ _
    · simp
  · unfold Da.fE flushE Ab.down
    rw [h1, Bool.or_false, h4]
    simp
theorem Da.read_calm {A : Da} (h : A.calm) (i : Bool) (n : Int) : A.rS i n = (if (A.dev i).out then secOf 0 else if (A.dev i).has n then (A.dev i).read n.toNat else secOf 0) ∧ A.rE i n = (if (A.dev i).out then 13 else if (A.dev i).has n then 0 else 2) := by
  obtain ⟨h1, h2⟩ := Da.calm_pow h i
  unfold Da.rS Da.rE readS readE Ab.down
  rw [h1, Bool.or_false]
  exact ⟨rfl, rfl⟩
end Go.Sl

/- walks (own work; the walks' lines by a program of this repo). -/
set_option linter.unusedVariables false
set_option linter.unusedSimpArgs false
set_option maxRecDepth 20000
namespace Go.Proofs.Ytjjiclgbdenkkaa
open Go.Sl
attribute [local irreducible] BodyQ WpC WpL WpS WpH OpW FnS


theorem write_d {w0 : World} {H : Hp} {D : Duo} {A : Da} {bx bys bp : Nat} (h : Two dt D A bx bys bp) (i : Bool) (n : Int) (s : Sec) (hs : s.length = 128) (hQ : (A.dev i).Q.length < 100000) : FnS Try.prog w0 62 #[ptr (sel bx bys i), .int .i64 n, .agg (bs s).toArray] (D.seg dt :: H) (fun e H' => e = .returned (.int .i64 (A.wE i n)) ∧ ∃ D', Two dt D' (A.write i n s) bx bys bp ∧ H' = D'.seg dt :: H) := by
  obtain ⟨d, p, L, R, X, hG, hb, hd, hp, hpb, pm, s3⟩ := h.view i H
  have s1 := HSub.of_perm pm.symm
  have s2 := HSub.of_perm pm
  refine ((write_l hG hb n s hs (by rw [hd]; exact hQ)).sub s1).weak ?_
  rintro _ _ ⟨rfl, d', p', L', R', h1, h2, h3, h4, h5, h6, h7, rfl⟩
  rw [hd, hp] at h3 h5 h6 h7
  obtain ⟨D', k1, k2⟩ := s3 _ d' p' L' R' h1 h2 h4 h6 h7
  rw [h3, h5] at k1
  exact ⟨_, k2, by rw [hd, hp]; rfl, D', k1, rfl⟩

theorem flush_d {w0 : World} {H : Hp} {D : Duo} {A : Da} {bx bys bp : Nat} (h : Two dt D A bx bys bp) (i : Bool) : FnS Try.prog w0 86 #[ptr (sel bx bys i)] (D.seg dt :: H) (fun e H' => e = .returned (.int .i64 (A.fE i)) ∧ ∃ D', Two dt D' (A.flush i) bx bys bp ∧ H' = D'.seg dt :: H) := by
  obtain ⟨d, p, L, R, X, hG, hb, hd, hp, hpb, pm, s3⟩ := h.view i H
  have s1 := HSub.of_perm pm.symm
  have s2 := HSub.of_perm pm
  refine ((flush_l hG hb).sub s1).weak ?_
  rintro _ _ ⟨rfl, d', p', L', R', h1, h2, h3, h4, h5, h6, h7, rfl⟩
  rw [hd, hp] at h3 h5 h6 h7
  obtain ⟨D', k1, k2⟩ := s3 _ d' p' L' R' h1 h2 h4 h6 h7
  rw [h3, h5] at k1
  exact ⟨_, k2, by rw [hd, hp]; rfl, D', k1, rfl⟩

theorem read_d {w0 : World} {H : Hp} {D : Duo} {A : Da} {bx bys bp : Nat} (h : Two dt D A bx bys bp) (i : Bool) (n : Int) : FnS Try.prog w0 60 #[ptr (sel bx bys i), .int .i64 n] (D.seg dt :: H) (fun e H' => e = .returned (.tuple #[.agg (bs (A.rS i n)).toArray, .int .i64 (A.rE i n)]) ∧ H' = D.seg dt :: H) := by
  obtain ⟨d, p, L, R, X, hG, hb, hd, hp, hpb, pm, s3⟩ := h.view i H
  have s1 := HSub.of_perm pm.symm
  have s2 := HSub.of_perm pm
  refine ((read_l hG hb n).sub s1).weak ?_
  rintro _ _ ⟨rfl, rfl⟩
  exact ⟨_, s2, by rw [hd, hp]; rfl, rfl⟩

theorem tear_d {w0 : World} {H : Hp} {D : Duo} {A : Da} {bx bys bp : Nat} (h : Two dt D A bx bys bp) (i : Bool) (k m : Int) : FnS Try.prog w0 28 #[ptr (sel bx bys i), .int .i64 k, .int .i64 m] (D.seg dt :: H) (fun e H' => e = .returned (.tuple #[]) ∧ ∃ D', Two dt D' (A.setd i ((A.dev i).tear k m)) bx bys bp ∧ H' = D'.seg dt :: H) := by
  obtain ⟨d, p, L, R, X, hG, hb, hd, hp, hpb, pm, s3⟩ := h.view i H
  have s1 := HSub.of_perm pm.symm
  have s2 := HSub.of_perm pm
  refine ((tear_l hG hb k m).sub s1).weak ?_
  rintro _ _ ⟨rfl, d', h1, h2, h3, rfl⟩
  obtain ⟨D', k1, k2⟩ := s3 false d' p L R h1 h2 rfl (Mv.same _ _) (Mv.same _ _)
  rw [h3, hd, hp, Da.oth_f, Da.setd_setp] at k1
  exact ⟨_, k2, rfl, D', k1, rfl⟩

theorem rot_d {w0 : World} {H : Hp} {D : Duo} {A : Da} {bx bys bp : Nat} (h : Two dt D A bx bys bp) (i : Bool) (n j : Int) (m : UInt8) : FnS Try.prog w0 34 #[ptr (sel bx bys i), .int .i64 n, .int .i64 j, .int .u8 (m.toNat : Int)] (D.seg dt :: H) (fun e H' => e = .returned (.bool ((A.dev i).rotE n j)) ∧ ∃ D', Two dt D' (A.setd i ((A.dev i).rots n j m)) bx bys bp ∧ H' = D'.seg dt :: H) := by
  obtain ⟨d, p, L, R, X, hG, hb, hd, hp, hpb, pm, s3⟩ := h.view i H
  have s1 := HSub.of_perm pm.symm
  have s2 := HSub.of_perm pm
  refine ((rot_l hG hb n j m).sub s1).weak ?_
  rintro _ _ ⟨rfl, d', h1, h2, h3, rfl⟩
  obtain ⟨D', k1, k2⟩ := s3 false d' p L R h1 h2 rfl (Mv.same _ _) (Mv.same _ _)
  rw [h3, hd, hp, Da.oth_f, Da.setd_setp] at k1
  exact ⟨_, k2, by rw [hd], D', k1, rfl⟩

theorem fail_d {w0 : World} {H : Hp} {D : Duo} {A : Da} {bx bys bp : Nat} (h : Two dt D A bx bys bp) (n : Int) (hn : n ≤ 9223372036854775807) : FnS Try.prog w0 29 #[ptr bp, .int .i64 n] (D.seg dt :: H) (fun e H' => e = .returned (.tuple #[]) ∧ ∃ D', Two dt D' ({ A with p := A.p.fail n }) bx bys bp ∧ H' = D'.seg dt :: H) := by
  obtain ⟨d, p, L, R, X, hG, hb, hd, hp, hpb, pm, s3⟩ := h.view false H
  have s1 := HSub.of_perm pm.symm
  have s2 := HSub.of_perm pm
  refine ((fail_l hG (hpb rfl) n hn).sub s1).weak ?_
  rintro _ _ ⟨rfl, p', h1, h2, h3, rfl⟩
  obtain ⟨D', k1, k2⟩ := s3 false d p' L R h1 hb (h2.trans (hpb rfl).symm) (Mv.same _ _) (Mv.same _ _)
  rw [h3, hd, hp, Da.oth_f, Da.setd_self] at k1
  exact ⟨_, k2, rfl, D', k1, rfl⟩

theorem len_d {w0 : World} {H : Hp} {D : Duo} {A : Da} {bx bys bp : Nat} (h : Two dt D A bx bys bp) (i : Bool) : FnS Try.prog w0 52 #[ptr (sel bx bys i)] (D.seg dt :: H) (fun e H' => e = .returned (.int .i64 ((A.dev i).S.length : Int)) ∧ H' = D.seg dt :: H) := by
  obtain ⟨d, p, L, R, X, hG, hb, hd, hp, hpb, pm, s3⟩ := h.view i H
  have s1 := HSub.of_perm pm.symm
  have s2 := HSub.of_perm pm
  refine ((len_l hb (sees 0 0 rfl)).sub s1).weak ?_
  rintro _ _ ⟨rfl, rfl⟩
  exact ⟨_, s2, by rw [hd], rfl⟩

theorem dump_d {w0 : World} {H : Hp} {D : Duo} {A : Da} {bx bys bp : Nat} (h : Two dt D A bx bys bp) (i : Bool) : FnS Try.prog w0 30 #[ptr (sel bx bys i)] (D.seg dt :: H) (fun e H' => ∃ g, slOk 128 g (A.dev i).S.length (bs (A.dev i).S.flatten) ∧ e = .returned (slV g (A.dev i).S.length) ∧ H' = slSeg 32 g (bs (A.dev i).S.flatten) :: D.seg dt :: H) := by
  obtain ⟨d, p, L, R, X, hG, hb, hd, hp, hpb, pm, s3⟩ := h.view i H
  have s1 := HSub.of_perm pm.symm
  have s2 := HSub.of_perm pm
  refine ((dump_l hb hG.dok.1 (sees 0 0 rfl) (sees 1 0 rfl)).sub s1).weak ?_
  rintro _ _ ⟨g, h1, rfl, rfl⟩
  rw [hd] at h1 ⊢
  exact ⟨_, HSub.under _ pm, g, h1, rfl, rfl⟩

theorem newtwo_d {w0 : World} {H : Hp} {d : Dv} {p : Pw} {b bx : Nat} (hG : GOk dt p [] d []) (hb : p.b = b) (hx : d.b = bx) (n : Int) : FnS Try.prog w0 16 #[.int .i64 n, ptr b] (d.o dt :: d.t dt :: d.q dt :: p.o dt :: p.q dt :: H) (fun e H' => ∃ bys D', Two dt D' ⟨d.a, Ab.new (szOf n), p.a, none⟩ bx bys b ∧ e = .returned (ptr bys) ∧ H' = D'.seg dt :: H) := by
  refine ((new_l2 hG hb n).sub (hsub_pick [3, 3] rfl)).weak ?_
  rintro _ _ ⟨y, p', h1, h2, h3, h4, rfl, rfl⟩
  exact ⟨_, (Duo.hsub2 dt ⟨d, y, p', none⟩ H).trans (hsub_pick [5, 5, 5, 3, 3] rfl), y.b, ⟨d, y, p', none⟩, ⟨h1, by simp only [Duo.da, h3, h4, Option.map_none], hx, rfl, h2⟩, rfl, rfl⟩

theorem newnil_d {w0 : World} {H : Hp} {d : Dv} {p : Pw} {bx : Nat} (hG : GOk dt p [] d []) (hx : d.b = bx) (n : Int) : FnS Try.prog w0 16 #[.int .i64 n, .pointer none] (d.o dt :: d.t dt :: d.q dt :: p.o dt :: p.q dt :: H) (fun e H' => ∃ bys D', Two dt D' ⟨d.a, Ab.new (szOf n), p.a, some ⟨false, 0, false⟩⟩ bx bys p.b ∧ e = .returned (ptr bys) ∧ H' = D'.seg dt :: H) := by
  refine (new_ln n).weak ?_
  rintro _ _ ⟨y, q, h1, h2, h3, rfl, rfl⟩
  exact ⟨_, (Duo.hsub2 dt ⟨d, y, p, some q⟩ H).trans (hsub_pick [5, 5, 5, 5, 5] rfl), y.b, ⟨d, y, p, some q⟩, ⟨⟨hG, h1⟩, by simp only [Duo.da, h2, h3, Option.map_some], hx, rfl, rfl⟩, rfl, rfl⟩

end Go.Proofs.Ytjjiclgbdenkkaa

/- Loops round by round (own work). -/
set_option linter.unusedVariables false
namespace Go.Sl
variable {P : Program} {n : FN} {w0 : World} {Q : Post} {E : Env} {H : Hp}
/-- Within a loop, ahead of a round. -/
def WpIn (P : Program) (n : FN) (w0 : World) (c : Code) (Q : Post) (E : Env) (H : Hp) : Prop := ∀ a w, FrOk n E a → St w0 w H → ∀ b k cs,
  ∃ e a' w', lift n w0 Q e a' w' ∧ Arrives P (lone (b.at a (.code c :: .inLoop c :: k)) cs w) b k cs e a' w'
theorem C_loopIn {c : Code} (h : WpIn P n w0 c Q E H) : WpC P n w0 (.loop c) Q E H := by
  intro a w ha hw b k cs
  obtain ⟨e, a', w', hq, harr⟩ := h a w ha hw b k cs
  exact ⟨e, a', w', hq, .of_steps (.one step_loop) harr⟩
theorem In_round {c : Code} (h : WpC P n w0 c (thenQ (fun E' H' => WpIn P n w0 c Q E' H') Q) E H) : WpIn P n w0 c Q E H := by
  intro a w ha hw b k cs
  obtain ⟨e, a₁, w₁, hq, harr⟩ := h a w ha hw b (.inLoop c :: k) cs
  obtain ⟨E₁, H₁, f1, s1, q⟩ := hq
  cases e with
  | normal =>
    obtain ⟨e₂, a₂, w₂, hq₂, harr₂⟩ := q a₁ w₁ (f1.2 rfl) s1 b k cs
    exact ⟨e₂, a₂, w₂, hq₂, .of_steps (Steps.trans harr (.one step_inLoop)) harr₂⟩
  | exit id => exact ⟨_, a₁, w₁, ⟨E₁, H₁, f1, s1, q⟩, .pass (x := .inLoop c) rfl (fun _ _ => .inl (by simp)) harr⟩
  | goto l => exact ⟨_, a₁, w₁, ⟨E₁, H₁, f1, s1, q⟩, .pass (x := .inLoop c) rfl (fun _ _ => .inl (by simp)) harr⟩
  | ret => exact ⟨_, a₁, w₁, ⟨E₁, H₁, f1, s1, q⟩, .pass (x := .inLoop c) rfl (fun _ _ => .inl (by simp)) harr⟩
  | panic ch => exact ⟨_, a₁, w₁, ⟨E₁, H₁, f1, s1, q⟩, .pass (x := .inLoop c) rfl (fun _ _ => .inl (by simp)) harr⟩
  | outgrown => exact ⟨_, a₁, w₁, ⟨E₁, H₁, f1, s1, q⟩, .pass (x := .inLoop c) rfl (fun _ _ => .inl (by simp)) harr⟩
/-- Any of these loud operations may come up. -/
def HAll (P : Program) (n : FN) (w0 : World) (ops : List Oper) (Q : Post) (HS : Hp) (fuel : Nat) (listed : List Bool) (E : Env) (H : Hp) : List Nat → Prop
  | [] => True
  | k :: ks => (∃ o, ops[k]? = some o ∧ wE ops E o.guard = some true ∧ OpW P n w0 Q o E H (fun E' H' => HSub HS H' ∧ WpH P n w0 ops Q HS fuel (listed.set k true) E' H')) ∧ HAll P n w0 ops Q HS fuel listed E H ks
end Go.Sl

/- A mirror: what lies in memory, and the plain model (own work). -/
set_option linter.unusedVariables false
set_option linter.unusedSimpArgs false
namespace Go.Sl
section
variable {P : Program} {n : FN} {w0 : World} {Q : Post} {E E' : Env} {H H' HS : Hp} {K : Env → Hp → Prop}
variable {d : Option Nat} {ty t t2 : Nat} {ps : String} {af : Array Edge} {g : Option (Nat × Bool)} {x y c : Operand}
theorem op_weaken {o : Oper} (hs : HSub H' H) (h : OpW P n w0 Q o E H' K) : OpW P n w0 Q o E H K := fun a w ha hw next hn => h a w ha (hs w0 w hw) next hn
/-- An append to nothing. -/
theorem op_append0 {m e sz bt : Nat} {vs zl : List Value} {xv : Value} {t0 t1 : TypeId} (hx : ev E x = some (.slice none 0 0)) (hy : ev E y = some xv)
    (hsrc : Src P w0 H sz xv m vs) (hm : vs.length = m * sz) (hone : ∀ v ∈ vs, one v = true)
    (hu : P.underlying t0 = some (.slice e)) (hnx : notIntT P t1 = true) (hz : szT P e = some sz) (hb : byT P e = some bt) (hbp : 0 < bt)
    (hzl : zeroL P e = some zl) (hlz : zl.length = sz) (hbound : m * bt ≤ 140737488355328) (hd : dok d n = true)
    (k : ∀ g' : Option SlG, slOk sz g' m vs → K (put E d (slV g' m)) (slSeg e g' vs :: H)) :
    OpW P n w0 Q ⟨d, .call { callee := .builtin .append, args := [x, y].toArray, argTypes := #[t0, t1] }, ty, ps, af, g⟩ E H K := by
  refine op_weaken (H' := [] :: H) (hsub_flat rfl) ?_
  refine op_append (gs := none) (len := 0) (m := m) (xs := []) (vs := vs) 0 hx hy rfl ⟨by simp, rfl⟩ (hsrc.sub (HSub.drop _ _)) hm hone hu hnx hz hb hbp hzl hlz (by simpa using hbound) hd (fun g' hg' => ?_)
  rw [Nat.zero_add, List.nil_append] at hg' ⊢
  exact k g' hg'
end
structure Mi where
  b : Nat
  r0 : Nat
  r1 : Nat
  bx : Nat
  bys : Nat
  n : Nat
  gv : Value
  k0 : List (Int × Nat)
  c0 : Nat
  k1 : List (Int × Nat)
  c1 : Nat
abbrev Mi.cells (m : Mi) : List Value := [ptr m.bx, .map (some m.r0), ptr m.bys, .map (some m.r1), .int .i64 (m.n : Int), m.gv]
abbrev Mi.seg (t : Nat) (m : Mi) : List (Nat × Obj) := [(m.b, .cells m.cells.toArray t), (m.r0, mapO m.k0 m.c0), (m.r1, mapO m.k1 m.c1)]
def Mi.has (m : Mi) (n : Int) : Bool := decide (0 ≤ n) && decide (n < m.n)
/-- Is a device there? -/
def thr (A : Da) (i : Bool) : Bool := !(A.dev i).down (A.pow i)
theorem rE_thr (A : Da) (i : Bool) (n : Int) : decide (A.rE i n = 13) = !thr A i := by
  unfold Da.rE readE thr
  cases h : (A.dev i).down (A.pow i)
  · simp only [Bool.false_eq_true, if_false]
    split <;> simp
  · simp
theorem rE_neq (A : Da) (i : Bool) (n : Int) : (!decide (A.rE i n = 13)) = thr A i := by rw [rE_thr, Bool.not_not]
def pres (p q : Bool) : List Int := (if p then [0] else []) ++ (if q then [1] else [])
def intl (l : List Int) : List Value := l.map (Value.int .i64)
/-- A function that tells which sectors may stand where. -/
def GoodAt (P : Program) (w0 : World) (H : Hp) (gv : Value) (p : Int → Sec → Bool) : Prop :=
  (gv = .nilFunc ∧ p = fun _ _ => false) ∨ ∃ f cap, gv = .func (.func f) #[] (List.toArray cap) ∧ (∀ args w, (callFunc f args).run P w = .ok (.enter f args) w) ∧
    ∀ H' n s, HSub H H' → s.length = 128 → FnS P w0 f ([Value.int .i64 n, Value.agg (bs s).toArray] ++ cap).toArray H' (fun e H2 => e = .returned (.bool (p n s)) ∧ H2 = H')
theorem GoodAt.sub {P : Program} {w0 : World} {H H' : Hp} {gv : Value} {p : Int → Sec → Bool} (h : GoodAt P w0 H gv p) (hs : HSub H H') : GoodAt P w0 H' gv p := by
  rcases h with h | ⟨f, cap, h1, h2, h3⟩
  · exact .inl h
  · exact .inr ⟨f, cap, h1, h2, fun H2 n s hs2 hl => h3 H2 n s (hs.trans hs2) hl⟩
/-- Does the side i tell what stands at n? -/
def okAt (A : Da) (i : Bool) (ks : List (Int × Nat)) (p : Int → Sec → Bool) (n : Int) : Bool := decide (A.rE i n = 0) && !kHas ks n && p n (A.rS i n)
def mrE (m : Mi) (A : Da) (p : Int → Sec → Bool) (n : Int) : Int :=
  if m.has n then (if thr A false || thr A true then (if thr A false && okAt A false m.k0 p n then 0 else if thr A true && okAt A true m.k1 p n then 0 else 9) else 13) else 2
def mrS (m : Mi) (A : Da) (p : Int → Sec → Bool) (n : Int) : Sec :=
  if m.has n then (if thr A false && okAt A false m.k0 p n then A.rS false n else if thr A true && okAt A true m.k1 p n then A.rS true n else secOf 0) else secOf 0
theorem rS_len {A : Da} (i : Bool) {n : Int} (h : ∀ i, (A.dev i).ok) : (A.rS i n).length = 128 := readS_len (h i)
theorem Two.oks {t : DT} {D : Duo} {A : Da} {bx bys bp : Nat} (h : Two t D A bx bys bp) (i : Bool) : (A.dev i).ok := (h.aok i).1
/-! ### Writes to both -/
def pd (A : Da) (i : Bool) (ask : Da → Bool → Bool) (n : Int) : Bool := thr A i && (!ask A i || decide (A.wE i n = 0))
def pA (A : Da) (i : Bool) (ask : Da → Bool → Bool) (n : Int) (s : Sec) : Da := if thr A i && ask A i then A.write i n s else A
def putA (A : Da) (ask : Da → Bool → Bool) (n : Int) (s : Sec) : Da := pA (pA A false ask n s) true ask n s
def putD (A : Da) (ask : Da → Bool → Bool) (n : Int) (s : Sec) : Bool → Bool
  | false => pd A false ask n
  | true => pd (pA A false ask n s) true ask n
def Mi.mark (m : Mi) (n : Int) (x y : Bool) : Mi := { m with
  k0 := if x then kDel m.k0 n else kPut m.k0 m.c0 n, c0 := if x then m.c0 else kClk m.k0 m.c0 n
  k1 := if y then kDel m.k1 n else kPut m.k1 m.c1 n, c1 := if y then m.c1 else kClk m.k1 m.c1 n }
def putm (m : Mi) (A : Da) (ask : Da → Bool → Bool) (n : Int) (s : Sec) : Mi := if m.has n && (putD A ask n s false || putD A ask n s true) then m.mark n (putD A ask n s false) (putD A ask n s true) else m
def putE (m : Mi) (A : Da) (ask : Da → Bool → Bool) (n : Int) (s : Sec) : Int := if m.has n then (if putD A ask n s false || putD A ask n s true then 0 else 13) else 2
def putDa (m : Mi) (A : Da) (ask : Da → Bool → Bool) (n : Int) (s : Sec) : Da := if m.has n then putA A ask n s else A
/-- A function that tells whether a side is asked for it. -/
def AskAt (P : Program) (t : DT) (tm : Nat) (w0 : World) (H : Hp) (m : Mi) (bp : Nat) (fa : Nat) (cap : List Value) (ask : Da → Bool → Bool) : Prop :=
  (∀ args w, (callFunc fa args).run P w = .ok (.enter fa args) w) ∧ ∀ (i : Bool) D A X, Two t D A m.bx m.bys bp → HSub H X →
    FnS P w0 fa ([Value.pointer (some ⟨m.b, if i then 2 else 0, none⟩)] ++ cap).toArray (m.seg tm :: D.seg t :: X) (fun e H2 => e = .returned (.bool (ask A i)) ∧ H2 = m.seg tm :: D.seg t :: X)
theorem AskAt.sub {P : Program} {t : DT} {tm : Nat} {w0 : World} {H H' : Hp} {m : Mi} {bp fa : Nat} {cap : List Value} {ask : Da → Bool → Bool} (h : AskAt P t tm w0 H m bp fa cap ask) (hs : HSub H H') : AskAt P t tm w0 H' m bp fa cap ask :=
  ⟨h.1, fun i D A X h1 h2 => h.2 i D A X h1 (hs.trans h2)⟩
def askAll : Da → Bool → Bool := fun _ _ => true
def askNew (n : Int) (s : Sec) : Da → Bool → Bool := fun A i => !decide (A.rE i n = 0) || !decide (A.rS i n = s)
/-! ### A flush of both -/
def fl1 (q : Da × Int) (i : Bool) : Da × Int := (q.1.flush i, if q.1.fE i = 0 then q.2 else 13)
def mfl (A : Da) : Da × Int :=
  if thr A false then (if thr A true then fl1 (fl1 (A, 0) false) true else fl1 (A, 0) false) else (if thr A true then fl1 (A, 0) true else (A, 13))
theorem spl_lo {x y s : List UInt8} (hx : x.length = s.length) : spl (bs (x ++ y)) 0 (bs s) = bs (s ++ y) := by
  rw [spl_bs (by simp; omega)]
  congr 1
  simp [hx]
theorem spl_hi {x y s : List UInt8} {k : Nat} (hx : x.length = k) (hy : y.length = s.length) : spl (bs (x ++ y)) k (bs s) = bs (x ++ s) := by
  rw [spl_bs (by simp; omega)]
  congr 1
  rw [List.take_left' hx, ← List.drop_drop, List.drop_left' hx, ← hy, List.drop_length]
  simp
theorem two_lo {x y : List UInt8} {k : Nat} (hx : x.length = k) : ((bs (x ++ y)).drop 0).take k = bs x := by rw [List.drop_zero, bs_take, List.take_left' hx]
theorem two_hi {x y : List UInt8} {k : Nat} (hx : x.length = k) (hy : y.length = k) : ((bs (x ++ y)).drop k).take k = bs y := by rw [bs_drop, List.drop_left' hx, bs_take, List.take_of_length_le (by omega)]
theorem z256 : (List.replicate 2 (List.replicate 128 (Value.int .u8 0))).flatten = bs (secOf 0 ++ secOf 0) := by rw [bs_append, ← zsec]; rfl
/-! ### Heal -/
def hg0 (m : Mi) (A : Da) (p : Int → Sec → Bool) (n : Int) : Bool := !kHas m.k0 n && p n (A.rS false n)
def hg1 (m : Mi) (A : Da) (p : Int → Sec → Bool) (n : Int) : Bool := !kHas m.k1 n && p n (A.rS true n)
/-- What is done: none, or a write to a side. -/
def healTo (m : Mi) (A : Da) (p : Int → Sec → Bool) (n : Int) : Option Bool :=
  if m.has n && (thr A false && thr A true) then
    (if hg0 m A p n then (if hg1 m A p n && decide (A.rS false n = A.rS true n) then none else some true) else if hg1 m A p n then some false else none)
  else none
def healR (m : Mi) (A : Da) (p : Int → Sec → Bool) (n : Int) : Int × Int :=
  if m.has n then (if thr A false && thr A true then
    (if hg0 m A p n then (if hg1 m A p n && decide (A.rS false n = A.rS true n) then (0, 0) else (1, 0)) else if hg1 m A p n then (1, 0) else (2, 0))
  else (0, 13)) else (0, 2)
def healA (m : Mi) (A : Da) (p : Int → Sec → Bool) (n : Int) : Da := match healTo m A p n with
  | none => A
  | some i => A.write i n (A.rS (!i) n)
def healM (m : Mi) (A : Da) (p : Int → Sec → Bool) (n : Int) : Mi := match healTo m A p n with
  | none => m
  | some i => if A.wE i n = 0 then (if i then { m with k1 := kDel m.k1 n } else { m with k0 := kDel m.k0 n }) else m
/-! ### Both -/
def bothS (m : Mi) (A : Da) (p : Int → Sec → Bool) (n : Int) : List Sec :=
  if m.has n then (if thr A false && (decide (A.rE false n = 0) && p n (A.rS false n)) then [A.rS false n] else []) ++ (if thr A true && (decide (A.rE true n = 0) && p n (A.rS true n)) then [A.rS true n] else []) else []
/-! ### A new mirror -/
theorem y_minN {P : Program} {n : FN} {E : Env} {W : World → Prop} {x y : Operand} {ty : Nat} {a b : Nat} {tys : Array TypeId} (hx : ev E x = some (.int .i64 (a : Int))) (hy : ev E y = some (.int .i64 (b : Int))) :
    YV P n E W (.call { callee := .builtin .min, args := [x, y].toArray, argTypes := tys }) ty (.int .i64 ((min a b : Nat) : Int)) := by
  have h := y_min (P := P) (n := n) (W := W) (ty := ty) (tys := tys) hx hy
  rwa [show min (a : Int) (b : Int) = ((min a b : Nat) : Int) from by omega] at h
/-- What is stale of a side of which so many places were looked at. -/
def stN (j : Nat) : List (Int × Nat) := (List.range j).map fun (i : Nat) => ((i : Int), i)
theorem stN_has (j : Nat) (k : Int) : kHas (stN j) k = (decide (0 ≤ k) && decide (k < j)) := by
  unfold kHas stN
  rw [List.any_map]
  by_cases h : 0 ≤ k ∧ k < j
  · have : ((List.range j).any ((fun x : Int × Nat => x.1 == k) ∘ fun i : Nat => ((i : Int), i))) = true := by
      rw [List.any_eq_true]
      exact ⟨k.toNat, List.mem_range.2 (by omega), by simp; omega⟩
    rw [this]; simp; omega
  · have : ((List.range j).any ((fun x : Int × Nat => x.1 == k) ∘ fun i : Nat => ((i : Int), i))) = false := by
      rw [List.any_eq_false]
      intro x hx
      have := List.mem_range.1 hx
      simp; omega
    rw [this]; simp; omega
theorem stN_put (j : Nat) : kPut (stN j) j (j : Int) = stN (j + 1) ∧ kClk (stN j) j (j : Int) = j + 1 := by
  have h : kHas (stN j) (j : Int) = false := by rw [stN_has]; simp
  exact ⟨by rw [kPut, h]; simp [stN, List.range_succ], by rw [kClk, h]; simp⟩
def stale0 (t : Bool) (n : Nat) : List (Int × Nat) := if t then [] else stN n
def mnew (A : Da) (bx bys : Nat) (gv : Value) (b r0 r1 : Nat) : Mi :=
  ⟨b, r0, r1, bx, bys, min A.a.S.length A.b.S.length, gv, stale0 (thr A false) (min A.a.S.length A.b.S.length), (if thr A false then 0 else min A.a.S.length A.b.S.length), stale0 (thr A true) (min A.a.S.length A.b.S.length), (if thr A true then 0 else min A.a.S.length A.b.S.length)⟩
end Go.Sl

/- Facts of the translation's types, for the kernel (own work, by a program of this repo). -/
namespace Go.Proofs.Ytjjiclgbdenkkaa
open Go.Sl
theorem ag_105 : isAggT Try.prog 105 = some false := by kernel_rfl
theorem ag_107 : isAggT Try.prog 107 = some true := by kernel_rfl
theorem ag_24 : isAggT Try.prog 24 = some false := by kernel_rfl
theorem ag_28 : isAggT Try.prog 28 = some false := by kernel_rfl
theorem by_3 : byT Try.prog 3 = some 8 := by kernel_rfl
theorem eg_32 : Try.prog.eqGuardType Try.prog.depth 32 = false := by kernel_rfl
theorem fl_107_0 : fldT Try.prog 107 0 = some 0 := by kernel_rfl
theorem fl_107_1 : fldT Try.prog 107 1 = some 1 := by kernel_rfl
theorem fl_110_0 : fldT Try.prog 110 0 = some 0 := by kernel_rfl
theorem fl_110_1 : fldT Try.prog 110 1 = some 4 := by kernel_rfl
theorem fl_110_2 : fldT Try.prog 110 2 = some 5 := by kernel_rfl
theorem ni_118 : notIntT Try.prog 118 = true := by kernel_rfl
theorem pl_107 : placesT Try.prog 107 = some [(0, 1), (1, 1)] := by kernel_rfl
theorem pl_110 : placesT Try.prog 110 = some [(0, 4), (4, 1), (5, 1)] := by kernel_rfl
theorem sz_107 : szT Try.prog 107 = some 2 := by kernel_rfl
theorem sz_24 : szT Try.prog 24 = some 1 := by kernel_rfl
theorem zl_107 : zeroL Try.prog 107 = some ([.pointer none, .map none]) := by kernel_rfl
theorem zl_110 : zeroL Try.prog 110 = some (((List.replicate 2 (([.pointer none, .map none]))).flatten) ++ [.int .i64 0, .nilFunc]) := by kernel_rfl
theorem zl_120 : zeroL Try.prog 120 = some ((List.replicate 2 ((List.replicate 128 (.int .u8 0)))).flatten) := by kernel_rfl
theorem zl_24 : zeroL Try.prog 24 = some ([.pointer none]) := by kernel_rfl
theorem zl_3 : zeroL Try.prog 3 = some ([.int .i64 0]) := by kernel_rfl
theorem zl_62 : zeroL Try.prog 62 = some (List.replicate 2 (.bool false)) := by kernel_rfl
theorem zt_4 : zeroT Try.prog 4 = some (.bool false) := by kernel_rfl
end Go.Proofs.Ytjjiclgbdenkkaa

/- walks (own work; the walks' lines by a program of this repo). -/
set_option linter.unusedVariables false
set_option linter.unusedSimpArgs false
set_option maxRecDepth 20000
namespace Go.Proofs.Ytjjiclgbdenkkaa
open Go.Sl
attribute [local irreducible] BodyQ WpC WpL WpS WpH OpW FnS


theorem len_m {w0 : World} {H : Hp} {m : Mi} (hM : Sees (fun w => St w0 w H) m.b (.cells m.cells.toArray 110)) : FnS Try.prog w0 36 #[ptr m.b] H (fun e H' => e = .returned (.int .i64 (m.n : Int)) ∧ H' = H) := by
  refine FnS_intro (n := 9) (rs := [.tmp 2]) (vs := [ptr m.b]) Try.func36 rfl Try.ntmps36 rfl rfl ?_
  refine C_seq ?_
  refine C_region ?_
  refine L_y rfl (y_assign rfl) rfl ?_
  refine L_nil ?_
  refine C_seq ?_
  refine C_seq ?_
  refine C_region ?_
  refine L_y rfl (y_move rfl) rfl ?_
  refine L_y rfl (y_eqp rfl rfl Try.underlying26) rfl ?_
  refine L_nil ?_
  refine C_cond_f rfl ?_
  refine C_skip ?_
  refine C_seq ?_
  refine C_region ?_
  refine L_y rfl (y_move rfl) rfl ?_
  refine L_y rfl (y_nilCheck rfl) rfl ?_
  refine L_y rfl (y_fieldAddr rfl fl_110_1) rfl ?_
  refine L_y rfl (y_load rfl ag_3 (hM) rfl) rfl ?_
  refine L_y rfl (y_assign rfl) rfl ?_
  refine L_nil ?_
  refine C_ret ?_
  refine B_ret (rv_tmp rfl rv_nil) (HSub.refl _) ?_
  exact ⟨rfl, rfl⟩

theorem has_m {w0 : World} {H : Hp} {m : Mi} (n : Int) (hM : Sees (fun w => St w0 w H) m.b (.cells m.cells.toArray 110)) : FnS Try.prog w0 58 #[ptr m.b, .int .i64 n] H (fun e H' => e = .returned (.bool (m.has n)) ∧ H' = H) := by
  refine FnS_intro (n := 13) (rs := [.tmp 4]) (vs := [ptr m.b, .int .i64 n]) Try.func58 rfl Try.ntmps58 rfl rfl ?_
  refine C_seq ?_
  refine C_region ?_
  refine L_y rfl (y_assign rfl) rfl ?_
  refine L_nil ?_
  refine C_seq ?_
  refine C_region ?_
  refine L_y rfl (y_move rfl) rfl ?_
  refine L_y rfl (y_geq rfl rfl) rfl ?_
  refine L_y rfl (y_move rfl) rfl ?_
  refine L_case 7 rfl (fun hg1_3 => ?_) (fun hg1_3 => ?_)
  · skip
    refine L_y rfl (y_move rfl) rfl ?_
    refine L_y rfl (y_move rfl) rfl ?_
    refine L_op rfl (op_call rfl rfl (fun a w => Try.call36 a w) rfl ?_)
    refine (len_m hM).mono ?_
    rintro _ _ ⟨rfl, rfl⟩
    refine ⟨_, rfl, ?_⟩
    refine L_y rfl (y_lss rfl rfl) rfl ?_
    refine L_y rfl (y_pick_t rfl rfl) rfl ?_
    refine L_y rfl (y_assign rfl) rfl ?_
    refine L_nil ?_
    refine C_ret ?_
    refine B_ret (rv_tmp rfl rv_nil) (HSub.refl _) ?_
    refine ⟨ret_bool ?_, rfl⟩
    unfold Mi.has
    simp_all <;> omega
  · skip
    refine L_skip rfl rfl ?_
    refine L_skip rfl rfl ?_
    refine L_skip rfl rfl ?_
    refine L_skip rfl rfl ?_
    refine L_y rfl (y_pick_f rfl rfl) rfl ?_
    refine L_y rfl (y_assign rfl) rfl ?_
    refine L_nil ?_
    refine C_ret ?_
    refine B_ret (rv_tmp rfl rv_nil) (HSub.refl _) ?_
    refine ⟨ret_bool ?_, rfl⟩
    unfold Mi.has
    simp_all <;> omega

theorem there_d {w0 : World} {H : Hp} {D : Duo} {A : Da} {bx bys bp : Nat} {mv : Value} (h : Two dt D A bx bys bp) (i : Bool) : FnS Try.prog w0 53 #[.agg [ptr (sel bx bys i), mv].toArray] (D.seg dt :: H) (fun e H' => e = .returned (.bool (thr A i)) ∧ H' = D.seg dt :: H) := by
  refine FnS_intro (n := 16) (rs := [.tmp 2]) (vs := [.agg [ptr (sel bx bys i), mv].toArray]) Try.func53 rfl Try.ntmps53 rfl rfl ?_
  refine C_seq ?_
  refine C_region ?_
  refine L_op rfl (op_box rfl rfl rfl (fun B1 => ?_))
  refine L_y rfl (y_assign rfl) rfl ?_
  refine L_nil ?_
  refine C_seq ?_
  refine C_seq ?_
  refine C_region ?_
  refine L_y rfl (y_fieldAddr rfl fl_107_0) rfl ?_
  refine L_y rfl (y_load rfl ag_24 (sees 0 0 rfl) rfl) rfl ?_
  refine L_y rfl (y_eqp rfl rfl Try.underlying24) rfl ?_
  refine L_nil ?_
  refine C_cond_f rfl ?_
  refine C_skip ?_
  refine C_seq ?_
  refine C_region ?_
  refine L_y rfl (y_fieldAddr rfl fl_107_0) rfl ?_
  refine L_y rfl (y_load rfl ag_24 (sees 0 0 rfl) rfl) rfl ?_
  refine L_op rfl (op_call rfl rfl (fun a w => Try.call60 a w) rfl ?_)
  refine ((read_d h i 0).sub (hsub_pick [1] rfl)).mono ?_
  rintro _ _ ⟨rfl, rfl⟩
  refine ⟨_, rfl, ?_⟩
  refine L_y rfl (y_move rfl) rfl ?_
  refine L_y rfl (y_extract rfl rfl) rfl ?_
  refine L_y rfl (y_extract rfl rfl) rfl ?_
  refine L_op rfl (op_alloc zl_32 rfl (fun B2 => ?_))
  refine L_op rfl (op_storeA 0 0 rfl rfl rfl sz_32 (by rw [bs_length, rS_len i h.oks]) rfl (bs_one _) (by simp) ?_)
  refine L_y rfl (y_assign rfl) rfl ?_
  refine L_nil ?_
  refine C_seq ?_
  refine C_region ?_
  refine L_y rfl (y_move rfl) rfl ?_
  refine L_y rfl (y_nei rfl rfl) rfl ?_
  refine L_y rfl (y_assign rfl) rfl ?_
  refine L_nil ?_
  refine C_ret ?_
  refine B_ret (rv_tmp rfl rv_nil) (hsub (.cons _ (.cons_cons _ (.cons _ (.refl _))))) ?_
  exact ⟨ret_bool (rE_neq A i 0), rfl⟩

theorem present_tt {w0 : World} {H : Hp} {D : Duo} {A : Da} {bp : Nat} {m : Mi} (h : Two dt D A m.bx m.bys bp) (hp : thr A false = true) (hq : thr A true = true) : FnS Try.prog w0 59 #[ptr m.b] (m.seg 110 :: D.seg dt :: H) (fun e H' => ∃ g, slOk 1 g 2 (intl (pres true true)) ∧ e = .returned (slV g 2) ∧ H' = slSeg 3 g (intl (pres true true)) :: m.seg 110 :: D.seg dt :: H) := by
  refine FnS_intro (n := 21) (rs := [.tmp 2]) (vs := [ptr m.b]) Try.func59 rfl Try.ntmps59 rfl rfl ?_
  refine C_seq ?_
  refine C_region ?_
  refine L_y rfl (y_assign rfl) rfl ?_
  refine L_nil ?_
  refine C_seq ?_
  refine C_region ?_
  refine L_y rfl (y_assign rfl) rfl ?_
  refine L_nil ?_
  refine C_seq ?_
  refine C_seq ?_
  refine C_region ?_
  refine L_y rfl (y_move rfl) rfl ?_
  refine L_nil ?_
  refine C_block ?_
  refine C_loopIn (In_round ?_)
  refine C_seq ?_
  refine C_region ?_
  refine L_y rfl (y_lss rfl rfl) rfl ?_
  refine L_nil ?_
  refine C_seq ?_
  refine C_cond_t rfl ?_
  refine C_skip ?_
  refine C_seq ?_
  refine C_block ?_
  refine C_seq ?_
  refine C_region ?_
  refine L_y rfl (y_move rfl) rfl ?_
  refine L_y rfl (y_assign rfl) rfl ?_
  refine L_nil ?_
  refine C_seq ?_
  refine C_region ?_
  refine L_y rfl (y_move rfl) rfl ?_
  refine L_y rfl (y_move rfl) rfl ?_
  refine L_y rfl (y_nilCheck rfl) rfl ?_
  refine L_y rfl (y_fieldAddr rfl fl_110_0) rfl ?_
  refine L_y rfl (y_indexA rfl rfl Try.underlying108 sz_107 (by omega) (by omega) (show _ = 0 from rfl)) rfl ?_
  refine L_y rfl (y_loadA rfl ag_107 sz_107 (sees 0 0 rfl) (Nat.le_of_ble_eq_true rfl) rfl) rfl ?_
  refine L_op rfl (op_call rfl rfl (fun a w => Try.call53 a w) rfl ?_)
  refine ((there_d h false).sub (hsub_pick [1] rfl)).mono ?_
  rintro _ _ ⟨rfl, rfl⟩
  rw [hp]
  refine ⟨_, rfl, ?_⟩
  refine L_nil ?_
  refine C_cond_t rfl ?_
  refine C_region ?_
  refine L_y rfl (y_move rfl) rfl ?_
  refine L_y rfl (y_move rfl) rfl ?_
  refine L_op rfl (op_buildSlice (vs := [(0, _)]) rfl Try.underlying118 sz_3 zl_3 rfl (by decide) rfl rfl (fun B1 => ?_))
  refine L_op rfl (op_append0 (m := 1) (vs := [.int .i64 0]) rfl rfl (src_slice (sees 0 0 rfl) (Nat.le_of_ble_eq_true rfl) rfl) rfl (by simp [one, Value.oneCell']) Try.underlying118 ni_118 sz_3 by_3 (by decide) zl_3 rfl (by decide) rfl (fun g1 hg1 => ?_))
  refine L_y rfl (y_assign rfl) rfl ?_
  refine L_nil ?_
  refine C_region ?_
  refine L_y rfl (y_add rfl rfl (show _ = (1 : Int) from rfl)) rfl ?_
  refine L_y rfl (y_move rfl) rfl ?_
  refine L_nil ?_
  refine In_round ?_
  refine C_seq ?_
  refine C_region ?_
  refine L_y rfl (y_lss rfl rfl) rfl ?_
  refine L_nil ?_
  refine C_seq ?_
  refine C_cond_t rfl ?_
  refine C_skip ?_
  refine C_seq ?_
  refine C_block ?_
  refine C_seq ?_
  refine C_region ?_
  refine L_y rfl (y_move rfl) rfl ?_
  refine L_y rfl (y_assign rfl) rfl ?_
  refine L_nil ?_
  refine C_seq ?_
  refine C_region ?_
  refine L_y rfl (y_move rfl) rfl ?_
  refine L_y rfl (y_move rfl) rfl ?_
  refine L_y rfl (y_nilCheck rfl) rfl ?_
  refine L_y rfl (y_fieldAddr rfl fl_110_0) rfl ?_
  refine L_y rfl (y_indexA rfl rfl Try.underlying108 sz_107 (by omega) (by omega) (show _ = 2 from rfl)) rfl ?_
  refine L_y rfl (y_loadA rfl ag_107 sz_107 (sees 3 0 rfl) (Nat.le_of_ble_eq_true rfl) rfl) rfl ?_
  refine L_op rfl (op_call rfl rfl (fun a w => Try.call53 a w) rfl ?_)
  refine ((there_d h true).sub (hsub_pick [2] rfl)).mono ?_
  rintro _ _ ⟨rfl, rfl⟩
  rw [hq]
  refine ⟨_, rfl, ?_⟩
  refine L_nil ?_
  refine C_cond_t rfl ?_
  refine C_region ?_
  refine L_y rfl (y_move rfl) rfl ?_
  refine L_y rfl (y_move rfl) rfl ?_
  refine L_op rfl (op_buildSlice (vs := [(0, _)]) rfl Try.underlying118 sz_3 zl_3 rfl (by decide) rfl rfl (fun B2 => ?_))
  refine L_op rfl (op_append (gs := g1) (len := 1) (m := 1) (xs := [.int .i64 0]) (vs := [.int .i64 1]) 2 rfl rfl rfl hg1 (src_slice (sees 0 0 rfl) (Nat.le_of_ble_eq_true rfl) rfl) rfl (by simp [one, Value.oneCell']) Try.underlying118 ni_118 sz_3 by_3 (by decide) zl_3 rfl (by decide) rfl (fun g2 hg2 => ?_))
  refine L_y rfl (y_assign rfl) rfl ?_
  refine L_nil ?_
  refine C_region ?_
  refine L_y rfl (y_add rfl rfl (show _ = (2 : Int) from rfl)) rfl ?_
  refine L_y rfl (y_move rfl) rfl ?_
  refine L_nil ?_
  refine In_round ?_
  refine C_seq ?_
  refine C_region ?_
  refine L_y rfl (y_lss rfl rfl) rfl ?_
  refine L_nil ?_
  refine C_seq ?_
  refine C_cond_f rfl ?_
  refine C_exit ?_
  refine C_seq ?_
  refine C_region ?_
  refine L_y rfl (y_move rfl) rfl ?_
  refine L_y rfl (y_assign rfl) rfl ?_
  refine L_nil ?_
  refine C_ret ?_
  refine B_ret (rv_tmp rfl rv_nil) ((hsub (.cons_cons _ (.cons_cons _ (.cons_cons _ (.cons _ (.cons _ (.refl _))))))).trans (hsub_pick [2, 3, 1] rfl)) ?_
  exact ⟨g2, hg2, rfl, rfl⟩

theorem present_tf {w0 : World} {H : Hp} {D : Duo} {A : Da} {bp : Nat} {m : Mi} (h : Two dt D A m.bx m.bys bp) (hp : thr A false = true) (hq : thr A true = false) : FnS Try.prog w0 59 #[ptr m.b] (m.seg 110 :: D.seg dt :: H) (fun e H' => ∃ g, slOk 1 g 1 (intl (pres true false)) ∧ e = .returned (slV g 1) ∧ H' = slSeg 3 g (intl (pres true false)) :: m.seg 110 :: D.seg dt :: H) := by
  refine FnS_intro (n := 21) (rs := [.tmp 2]) (vs := [ptr m.b]) Try.func59 rfl Try.ntmps59 rfl rfl ?_
  refine C_seq ?_
  refine C_region ?_
  refine L_y rfl (y_assign rfl) rfl ?_
  refine L_nil ?_
  refine C_seq ?_
  refine C_region ?_
  refine L_y rfl (y_assign rfl) rfl ?_
  refine L_nil ?_
  refine C_seq ?_
  refine C_seq ?_
  refine C_region ?_
  refine L_y rfl (y_move rfl) rfl ?_
  refine L_nil ?_
  refine C_block ?_
  refine C_loopIn (In_round ?_)
  refine C_seq ?_
  refine C_region ?_
  refine L_y rfl (y_lss rfl rfl) rfl ?_
  refine L_nil ?_
  refine C_seq ?_
  refine C_cond_t rfl ?_
  refine C_skip ?_
  refine C_seq ?_
  refine C_block ?_
  refine C_seq ?_
  refine C_region ?_
  refine L_y rfl (y_move rfl) rfl ?_
  refine L_y rfl (y_assign rfl) rfl ?_
  refine L_nil ?_
  refine C_seq ?_
  refine C_region ?_
  refine L_y rfl (y_move rfl) rfl ?_
  refine L_y rfl (y_move rfl) rfl ?_
  refine L_y rfl (y_nilCheck rfl) rfl ?_
  refine L_y rfl (y_fieldAddr rfl fl_110_0) rfl ?_
  refine L_y rfl (y_indexA rfl rfl Try.underlying108 sz_107 (by omega) (by omega) (show _ = 0 from rfl)) rfl ?_
  refine L_y rfl (y_loadA rfl ag_107 sz_107 (sees 0 0 rfl) (Nat.le_of_ble_eq_true rfl) rfl) rfl ?_
  refine L_op rfl (op_call rfl rfl (fun a w => Try.call53 a w) rfl ?_)
  refine ((there_d h false).sub (hsub_pick [1] rfl)).mono ?_
  rintro _ _ ⟨rfl, rfl⟩
  rw [hp]
  refine ⟨_, rfl, ?_⟩
  refine L_nil ?_
  refine C_cond_t rfl ?_
  refine C_region ?_
  refine L_y rfl (y_move rfl) rfl ?_
  refine L_y rfl (y_move rfl) rfl ?_
  refine L_op rfl (op_buildSlice (vs := [(0, _)]) rfl Try.underlying118 sz_3 zl_3 rfl (by decide) rfl rfl (fun B1 => ?_))
  refine L_op rfl (op_append0 (m := 1) (vs := [.int .i64 0]) rfl rfl (src_slice (sees 0 0 rfl) (Nat.le_of_ble_eq_true rfl) rfl) rfl (by simp [one, Value.oneCell']) Try.underlying118 ni_118 sz_3 by_3 (by decide) zl_3 rfl (by decide) rfl (fun g1 hg1 => ?_))
  refine L_y rfl (y_assign rfl) rfl ?_
  refine L_nil ?_
  refine C_region ?_
  refine L_y rfl (y_add rfl rfl (show _ = (1 : Int) from rfl)) rfl ?_
  refine L_y rfl (y_move rfl) rfl ?_
  refine L_nil ?_
  refine In_round ?_
  refine C_seq ?_
  refine C_region ?_
  refine L_y rfl (y_lss rfl rfl) rfl ?_
  refine L_nil ?_
  refine C_seq ?_
  refine C_cond_t rfl ?_
  refine C_skip ?_
  refine C_seq ?_
  refine C_block ?_
  refine C_seq ?_
  refine C_region ?_
  refine L_y rfl (y_move rfl) rfl ?_
  refine L_y rfl (y_assign rfl) rfl ?_
  refine L_nil ?_
  refine C_seq ?_
  refine C_region ?_
  refine L_y rfl (y_move rfl) rfl ?_
  refine L_y rfl (y_move rfl) rfl ?_
  refine L_y rfl (y_nilCheck rfl) rfl ?_
  refine L_y rfl (y_fieldAddr rfl fl_110_0) rfl ?_
  refine L_y rfl (y_indexA rfl rfl Try.underlying108 sz_107 (by omega) (by omega) (show _ = 2 from rfl)) rfl ?_
  refine L_y rfl (y_loadA rfl ag_107 sz_107 (sees 3 0 rfl) (Nat.le_of_ble_eq_true rfl) rfl) rfl ?_
  refine L_op rfl (op_call rfl rfl (fun a w => Try.call53 a w) rfl ?_)
  refine ((there_d h true).sub (hsub_pick [2] rfl)).mono ?_
  rintro _ _ ⟨rfl, rfl⟩
  rw [hq]
  refine ⟨_, rfl, ?_⟩
  refine L_nil ?_
  refine C_cond_f rfl ?_
  refine C_skip ?_
  refine C_region ?_
  refine L_y rfl (y_add rfl rfl (show _ = (2 : Int) from rfl)) rfl ?_
  refine L_y rfl (y_move rfl) rfl ?_
  refine L_nil ?_
  refine In_round ?_
  refine C_seq ?_
  refine C_region ?_
  refine L_y rfl (y_lss rfl rfl) rfl ?_
  refine L_nil ?_
  refine C_seq ?_
  refine C_cond_f rfl ?_
  refine C_exit ?_
  refine C_seq ?_
  refine C_region ?_
  refine L_y rfl (y_move rfl) rfl ?_
  refine L_y rfl (y_assign rfl) rfl ?_
  refine L_nil ?_
  refine C_ret ?_
  refine B_ret (rv_tmp rfl rv_nil) ((hsub (.cons_cons _ (.cons_cons _ (.cons_cons _ (.cons _ (.refl _)))))).trans (hsub_pick [1, 2, 0] rfl)) ?_
  exact ⟨g1, hg1, rfl, rfl⟩

theorem present_ft {w0 : World} {H : Hp} {D : Duo} {A : Da} {bp : Nat} {m : Mi} (h : Two dt D A m.bx m.bys bp) (hp : thr A false = false) (hq : thr A true = true) : FnS Try.prog w0 59 #[ptr m.b] (m.seg 110 :: D.seg dt :: H) (fun e H' => ∃ g, slOk 1 g 1 (intl (pres false true)) ∧ e = .returned (slV g 1) ∧ H' = slSeg 3 g (intl (pres false true)) :: m.seg 110 :: D.seg dt :: H) := by
  refine FnS_intro (n := 21) (rs := [.tmp 2]) (vs := [ptr m.b]) Try.func59 rfl Try.ntmps59 rfl rfl ?_
  refine C_seq ?_
  refine C_region ?_
  refine L_y rfl (y_assign rfl) rfl ?_
  refine L_nil ?_
  refine C_seq ?_
  refine C_region ?_
  refine L_y rfl (y_assign rfl) rfl ?_
  refine L_nil ?_
  refine C_seq ?_
  refine C_seq ?_
  refine C_region ?_
  refine L_y rfl (y_move rfl) rfl ?_
  refine L_nil ?_
  refine C_block ?_
  refine C_loopIn (In_round ?_)
  refine C_seq ?_
  refine C_region ?_
  refine L_y rfl (y_lss rfl rfl) rfl ?_
  refine L_nil ?_
  refine C_seq ?_
  refine C_cond_t rfl ?_
  refine C_skip ?_
  refine C_seq ?_
  refine C_block ?_
  refine C_seq ?_
  refine C_region ?_
  refine L_y rfl (y_move rfl) rfl ?_
  refine L_y rfl (y_assign rfl) rfl ?_
  refine L_nil ?_
  refine C_seq ?_
  refine C_region ?_
  refine L_y rfl (y_move rfl) rfl ?_
  refine L_y rfl (y_move rfl) rfl ?_
  refine L_y rfl (y_nilCheck rfl) rfl ?_
  refine L_y rfl (y_fieldAddr rfl fl_110_0) rfl ?_
  refine L_y rfl (y_indexA rfl rfl Try.underlying108 sz_107 (by omega) (by omega) (show _ = 0 from rfl)) rfl ?_
  refine L_y rfl (y_loadA rfl ag_107 sz_107 (sees 0 0 rfl) (Nat.le_of_ble_eq_true rfl) rfl) rfl ?_
  refine L_op rfl (op_call rfl rfl (fun a w => Try.call53 a w) rfl ?_)
  refine ((there_d h false).sub (hsub_pick [1] rfl)).mono ?_
  rintro _ _ ⟨rfl, rfl⟩
  rw [hp]
  refine ⟨_, rfl, ?_⟩
  refine L_nil ?_
  refine C_cond_f rfl ?_
  refine C_skip ?_
  refine C_region ?_
  refine L_y rfl (y_add rfl rfl (show _ = (1 : Int) from rfl)) rfl ?_
  refine L_y rfl (y_move rfl) rfl ?_
  refine L_nil ?_
  refine In_round ?_
  refine C_seq ?_
  refine C_region ?_
  refine L_y rfl (y_lss rfl rfl) rfl ?_
  refine L_nil ?_
  refine C_seq ?_
  refine C_cond_t rfl ?_
  refine C_skip ?_
  refine C_seq ?_
  refine C_block ?_
  refine C_seq ?_
  refine C_region ?_
  refine L_y rfl (y_move rfl) rfl ?_
  refine L_y rfl (y_assign rfl) rfl ?_
  refine L_nil ?_
  refine C_seq ?_
  refine C_region ?_
  refine L_y rfl (y_move rfl) rfl ?_
  refine L_y rfl (y_move rfl) rfl ?_
  refine L_y rfl (y_nilCheck rfl) rfl ?_
  refine L_y rfl (y_fieldAddr rfl fl_110_0) rfl ?_
  refine L_y rfl (y_indexA rfl rfl Try.underlying108 sz_107 (by omega) (by omega) (show _ = 2 from rfl)) rfl ?_
  refine L_y rfl (y_loadA rfl ag_107 sz_107 (sees 1 0 rfl) (Nat.le_of_ble_eq_true rfl) rfl) rfl ?_
  refine L_op rfl (op_call rfl rfl (fun a w => Try.call53 a w) rfl ?_)
  refine ((there_d h true).sub (hsub_pick [0] rfl)).mono ?_
  rintro _ _ ⟨rfl, rfl⟩
  rw [hq]
  refine ⟨_, rfl, ?_⟩
  refine L_nil ?_
  refine C_cond_t rfl ?_
  refine C_region ?_
  refine L_y rfl (y_move rfl) rfl ?_
  refine L_y rfl (y_move rfl) rfl ?_
  refine L_op rfl (op_buildSlice (vs := [(0, _)]) rfl Try.underlying118 sz_3 zl_3 rfl (by decide) rfl rfl (fun B1 => ?_))
  refine L_op rfl (op_append0 (m := 1) (vs := [.int .i64 1]) rfl rfl (src_slice (sees 0 0 rfl) (Nat.le_of_ble_eq_true rfl) rfl) rfl (by simp [one, Value.oneCell']) Try.underlying118 ni_118 sz_3 by_3 (by decide) zl_3 rfl (by decide) rfl (fun g1 hg1 => ?_))
  refine L_y rfl (y_assign rfl) rfl ?_
  refine L_nil ?_
  refine C_region ?_
  refine L_y rfl (y_add rfl rfl (show _ = (2 : Int) from rfl)) rfl ?_
  refine L_y rfl (y_move rfl) rfl ?_
  refine L_nil ?_
  refine In_round ?_
  refine C_seq ?_
  refine C_region ?_
  refine L_y rfl (y_lss rfl rfl) rfl ?_
  refine L_nil ?_
  refine C_seq ?_
  refine C_cond_f rfl ?_
  refine C_exit ?_
  refine C_seq ?_
  refine C_region ?_
  refine L_y rfl (y_move rfl) rfl ?_
  refine L_y rfl (y_assign rfl) rfl ?_
  refine L_nil ?_
  refine C_ret ?_
  refine B_ret (rv_tmp rfl rv_nil) ((hsub (.cons_cons _ (.cons_cons _ (.cons_cons _ (.cons _ (.refl _)))))).trans (hsub_pick [0, 2, 1] rfl)) ?_
  exact ⟨g1, hg1, rfl, rfl⟩

theorem present_ff {w0 : World} {H : Hp} {D : Duo} {A : Da} {bp : Nat} {m : Mi} (h : Two dt D A m.bx m.bys bp) (hp : thr A false = false) (hq : thr A true = false) : FnS Try.prog w0 59 #[ptr m.b] (m.seg 110 :: D.seg dt :: H) (fun e H' => e = .returned (.slice none 0 0) ∧ H' = m.seg 110 :: D.seg dt :: H) := by
  refine FnS_intro (n := 21) (rs := [.tmp 2]) (vs := [ptr m.b]) Try.func59 rfl Try.ntmps59 rfl rfl ?_
  refine C_seq ?_
  refine C_region ?_
  refine L_y rfl (y_assign rfl) rfl ?_
  refine L_nil ?_
  refine C_seq ?_
  refine C_region ?_
  refine L_y rfl (y_assign rfl) rfl ?_
  refine L_nil ?_
  refine C_seq ?_
  refine C_seq ?_
  refine C_region ?_
  refine L_y rfl (y_move rfl) rfl ?_
  refine L_nil ?_
  refine C_block ?_
  refine C_loopIn (In_round ?_)
  refine C_seq ?_
  refine C_region ?_
  refine L_y rfl (y_lss rfl rfl) rfl ?_
  refine L_nil ?_
  refine C_seq ?_
  refine C_cond_t rfl ?_
  refine C_skip ?_
  refine C_seq ?_
  refine C_block ?_
  refine C_seq ?_
  refine C_region ?_
  refine L_y rfl (y_move rfl) rfl ?_
  refine L_y rfl (y_assign rfl) rfl ?_
  refine L_nil ?_
  refine C_seq ?_
  refine C_region ?_
  refine L_y rfl (y_move rfl) rfl ?_
  refine L_y rfl (y_move rfl) rfl ?_
  refine L_y rfl (y_nilCheck rfl) rfl ?_
  refine L_y rfl (y_fieldAddr rfl fl_110_0) rfl ?_
  refine L_y rfl (y_indexA rfl rfl Try.underlying108 sz_107 (by omega) (by omega) (show _ = 0 from rfl)) rfl ?_
  refine L_y rfl (y_loadA rfl ag_107 sz_107 (sees 0 0 rfl) (Nat.le_of_ble_eq_true rfl) rfl) rfl ?_
  refine L_op rfl (op_call rfl rfl (fun a w => Try.call53 a w) rfl ?_)
  refine ((there_d h false).sub (hsub_pick [1] rfl)).mono ?_
  rintro _ _ ⟨rfl, rfl⟩
  rw [hp]
  refine ⟨_, rfl, ?_⟩
  refine L_nil ?_
  refine C_cond_f rfl ?_
  refine C_skip ?_
  refine C_region ?_
  refine L_y rfl (y_add rfl rfl (show _ = (1 : Int) from rfl)) rfl ?_
  refine L_y rfl (y_move rfl) rfl ?_
  refine L_nil ?_
  refine In_round ?_
  refine C_seq ?_
  refine C_region ?_
  refine L_y rfl (y_lss rfl rfl) rfl ?_
  refine L_nil ?_
  refine C_seq ?_
  refine C_cond_t rfl ?_
  refine C_skip ?_
  refine C_seq ?_
  refine C_block ?_
  refine C_seq ?_
  refine C_region ?_
  refine L_y rfl (y_move rfl) rfl ?_
  refine L_y rfl (y_assign rfl) rfl ?_
  refine L_nil ?_
  refine C_seq ?_
  refine C_region ?_
  refine L_y rfl (y_move rfl) rfl ?_
  refine L_y rfl (y_move rfl) rfl ?_
  refine L_y rfl (y_nilCheck rfl) rfl ?_
  refine L_y rfl (y_fieldAddr rfl fl_110_0) rfl ?_
  refine L_y rfl (y_indexA rfl rfl Try.underlying108 sz_107 (by omega) (by omega) (show _ = 2 from rfl)) rfl ?_
  refine L_y rfl (y_loadA rfl ag_107 sz_107 (sees 1 0 rfl) (Nat.le_of_ble_eq_true rfl) rfl) rfl ?_
  refine L_op rfl (op_call rfl rfl (fun a w => Try.call53 a w) rfl ?_)
  refine ((there_d h true).sub (hsub_pick [0] rfl)).mono ?_
  rintro _ _ ⟨rfl, rfl⟩
  rw [hq]
  refine ⟨_, rfl, ?_⟩
  refine L_nil ?_
  refine C_cond_f rfl ?_
  refine C_skip ?_
  refine C_region ?_
  refine L_y rfl (y_add rfl rfl (show _ = (2 : Int) from rfl)) rfl ?_
  refine L_y rfl (y_move rfl) rfl ?_
  refine L_nil ?_
  refine In_round ?_
  refine C_seq ?_
  refine C_region ?_
  refine L_y rfl (y_lss rfl rfl) rfl ?_
  refine L_nil ?_
  refine C_seq ?_
  refine C_cond_f rfl ?_
  refine C_exit ?_
  refine C_seq ?_
  refine C_region ?_
  refine L_y rfl (y_move rfl) rfl ?_
  refine L_y rfl (y_assign rfl) rfl ?_
  refine L_nil ?_
  refine C_ret ?_
  refine B_ret (rv_tmp rfl rv_nil) ((hsub (.cons_cons _ (.cons_cons _ (.refl _)))).trans (hsub_pick [1, 0] rfl)) ?_
  exact ⟨rfl, rfl⟩

end Go.Proofs.Ytjjiclgbdenkkaa

/- walks (own work; the walks' lines by a program of this repo). -/
set_option linter.unusedVariables false
set_option linter.unusedSimpArgs false
set_option maxRecDepth 20000
namespace Go.Proofs.Ytjjiclgbdenkkaa
open Go.Sl
attribute [local irreducible] BodyQ WpC WpL WpS WpH OpW FnS


theorem right_nil {w0 : World} {H : Hp} {m : Mi} {n : Int} {s : Sec} (hs : s.length = 128) (hM : Sees (fun w => St w0 w H) m.b (.cells m.cells.toArray 110)) (h1 : m.gv = .nilFunc) : FnS Try.prog w0 61 #[ptr m.b, .int .i64 n, .agg (bs s).toArray] H (fun e H' => e = .returned (.bool false) ∧ H' = H) := by
  refine FnS_intro (n := 21) (rs := [.tmp 6]) (vs := [ptr m.b, .int .i64 n, .agg (bs s).toArray]) Try.func61 rfl Try.ntmps61 rfl rfl ?_
  refine C_seq ?_
  refine C_region ?_
  refine L_op rfl (op_box rfl rfl rfl (fun B1 => ?_))
  refine L_y rfl (y_assign rfl) rfl ?_
  refine L_nil ?_
  refine C_seq ?_
  refine C_regionH0 (by kernel_rfl) ?_
  refine H_y 0 rfl (by kernel_rfl) (by kernel_rfl) (by kernel_rfl) (HSub.refl _) rfl (y_move rfl) rfl ?_
  refine H_y 1 rfl (by kernel_rfl) (by kernel_rfl) (by kernel_rfl) (HSub.refl _) rfl (y_nilCheck rfl) rfl ?_
  refine H_y 2 rfl (by kernel_rfl) (by kernel_rfl) (by kernel_rfl) (HSub.refl _) rfl (y_fieldAddr rfl fl_110_2) rfl ?_
  refine H_y 3 rfl (by kernel_rfl) (by kernel_rfl) (by kernel_rfl) (HSub.refl _) rfl (y_load rfl ag_28 (hM.up) (show _ = some (Value.nilFunc) from by rw [← h1]; rfl)) rfl ?_
  refine H_y 4 rfl (by kernel_rfl) (by kernel_rfl) (by kernel_rfl) (HSub.refl _) rfl (y_nefn0 rfl rfl Try.underlying28) rfl ?_
  refine H_y 5 rfl (by kernel_rfl) (by kernel_rfl) (by kernel_rfl) (HSub.refl _) rfl (y_move rfl) rfl ?_
  refine H_skip 6 rfl (by kernel_rfl) (by kernel_rfl) (by kernel_rfl) (HSub.refl _) rfl rfl ?_
  refine H_skip 7 rfl (by kernel_rfl) (by kernel_rfl) (by kernel_rfl) (HSub.refl _) rfl rfl ?_
  refine H_skip 8 rfl (by kernel_rfl) (by kernel_rfl) (by kernel_rfl) (HSub.refl _) rfl rfl ?_
  refine H_skip 9 rfl (by kernel_rfl) (by kernel_rfl) (by kernel_rfl) (HSub.refl _) rfl rfl ?_
  refine H_skip 10 rfl (by kernel_rfl) (by kernel_rfl) (by kernel_rfl) (HSub.refl _) rfl rfl ?_
  refine H_skip 11 rfl (by kernel_rfl) (by kernel_rfl) (by kernel_rfl) (HSub.refl _) rfl rfl ?_
  refine H_skip 12 rfl (by kernel_rfl) (by kernel_rfl) (by kernel_rfl) (HSub.refl _) rfl rfl ?_
  refine H_y 13 rfl (by kernel_rfl) (by kernel_rfl) (by kernel_rfl) (HSub.refl _) rfl (y_pick_f rfl rfl) rfl ?_
  refine H_y 14 rfl (by kernel_rfl) (by kernel_rfl) (by kernel_rfl) (HSub.refl _) rfl (y_assign rfl) rfl ?_
  refine H_done (by kernel_rfl) ?_
  refine C_ret ?_
  refine B_ret (rv_tmp rfl rv_nil) (hsub (.cons _ (.refl _))) ?_
  exact ⟨rfl, rfl⟩

theorem right_fn {w0 : World} {H : Hp} {m : Mi} {n : Int} {s : Sec} (hs : s.length = 128) (hM : Sees (fun w => St w0 w H) m.b (.cells m.cells.toArray 110)) {f : Nat} {cap : List Value} (h1 : m.gv = .func (.func f) #[] cap.toArray) (hcf : ∀ args w, (callFunc f args).run Try.prog w = .ok (.enter f args) w) (b : Bool) (h2 : ∀ H', HSub H H' → FnS Try.prog w0 f ([Value.int .i64 n, Value.agg (bs s).toArray] ++ cap).toArray H' (fun e H2 => e = .returned (.bool b) ∧ H2 = H')) : FnS Try.prog w0 61 #[ptr m.b, .int .i64 n, .agg (bs s).toArray] H (fun e H' => e = .returned (.bool b) ∧ H' = H) := by
  refine FnS_intro (n := 21) (rs := [.tmp 6]) (vs := [ptr m.b, .int .i64 n, .agg (bs s).toArray]) Try.func61 rfl Try.ntmps61 rfl rfl ?_
  refine C_seq ?_
  refine C_region ?_
  refine L_op rfl (op_box rfl rfl rfl (fun B1 => ?_))
  refine L_y rfl (y_assign rfl) rfl ?_
  refine L_nil ?_
  refine C_seq ?_
  refine C_regionH0 (by kernel_rfl) ?_
  refine H_y 0 rfl (by kernel_rfl) (by kernel_rfl) (by kernel_rfl) (HSub.refl _) rfl (y_move rfl) rfl ?_
  refine H_y 1 rfl (by kernel_rfl) (by kernel_rfl) (by kernel_rfl) (HSub.refl _) rfl (y_nilCheck rfl) rfl ?_
  refine H_y 2 rfl (by kernel_rfl) (by kernel_rfl) (by kernel_rfl) (HSub.refl _) rfl (y_fieldAddr rfl fl_110_2) rfl ?_
  refine H_y 3 rfl (by kernel_rfl) (by kernel_rfl) (by kernel_rfl) (HSub.refl _) rfl (y_load rfl ag_28 (hM.up) (show _ = some (Value.func (.func f) #[] cap.toArray) from by rw [← h1]; rfl)) rfl ?_
  refine H_y 4 rfl (by kernel_rfl) (by kernel_rfl) (by kernel_rfl) (HSub.refl _) rfl (y_nefn rfl rfl Try.underlying28) rfl ?_
  refine H_y 5 rfl (by kernel_rfl) (by kernel_rfl) (by kernel_rfl) (HSub.refl _) rfl (y_move rfl) rfl ?_
  refine H_y 6 rfl (by kernel_rfl) (by kernel_rfl) (by kernel_rfl) (HSub.refl _) rfl (y_move rfl) rfl ?_
  refine H_y 7 rfl (by kernel_rfl) (by kernel_rfl) (by kernel_rfl) (HSub.refl _) rfl (y_nilCheck rfl) rfl ?_
  refine H_y 8 rfl (by kernel_rfl) (by kernel_rfl) (by kernel_rfl) (HSub.refl _) rfl (y_fieldAddr rfl fl_110_2) rfl ?_
  refine H_y 9 rfl (by kernel_rfl) (by kernel_rfl) (by kernel_rfl) (HSub.refl _) rfl (y_load rfl ag_28 (hM.up) (show _ = some (Value.func (.func f) #[] cap.toArray) from by rw [← h1]; rfl)) rfl ?_
  refine H_y 10 rfl (by kernel_rfl) (by kernel_rfl) (by kernel_rfl) (HSub.refl _) rfl (y_move rfl) rfl ?_
  refine H_y 11 rfl (by kernel_rfl) (by kernel_rfl) (by kernel_rfl) (HSub.refl _) rfl (y_loadA rfl ag_32 sz_32 (sees 0 0 rfl) (by rw [bs_length, hs]; decide) (bs_whole0 _ hs)) rfl ?_
  refine H_one 12 rfl (by kernel_rfl) rfl (op_call (f := f) (first := []) (cap := cap) rfl rfl hcf rfl ?_)
  refine FnS.mono (h2 _ (HSub.drop _ _)) ?_
  rintro _ _ ⟨rfl, e⟩
  obtain rfl := e.symm
  refine ⟨_, rfl, ?_⟩
  refine ⟨HSub.refl _, ?_⟩
  refine H_y 13 rfl (by kernel_rfl) (by kernel_rfl) (by kernel_rfl) (HSub.refl _) rfl (y_pick_t rfl rfl) rfl ?_
  refine H_y 14 rfl (by kernel_rfl) (by kernel_rfl) (by kernel_rfl) (HSub.refl _) rfl (y_assign rfl) rfl ?_
  refine H_done (by kernel_rfl) ?_
  refine C_ret ?_
  refine B_ret (rv_tmp rfl rv_nil) (hsub (.cons _ (.refl _))) ?_
  exact ⟨rfl, rfl⟩

theorem right_m {w0 : World} {H : Hp} {m : Mi} {p : Int → Sec → Bool} (hM : Sees (fun w => St w0 w H) m.b (.cells m.cells.toArray 110)) (hG : GoodAt Try.prog w0 H m.gv p) (n : Int) (s : Sec) (hs : s.length = 128) : FnS Try.prog w0 61 #[ptr m.b, .int .i64 n, .agg (bs s).toArray] H (fun e H' => e = .returned (.bool (p n s)) ∧ H' = H) := by
  rcases hG with ⟨h1, rfl⟩ | ⟨f, cap, h1, hcf, h3⟩
  · exact right_nil hs hM h1
  · exact right_fn hs hM h1 hcf (p n s) (fun H' hs' => h3 H' n s hs' hs)

end Go.Proofs.Ytjjiclgbdenkkaa

/- Scrubbing a mirror: the plain model (own work). -/
set_option linter.unusedVariables false
set_option linter.unusedSimpArgs false
namespace Go.Sl
/-- The little rule of the laws. -/
def goodP (n : Int) (s : Sec) : Bool := !decide ((IntKind.i64.wrap (((s.getD 0 0).toNat : Int) + ((s.getD 1 0).toNat : Int) + n)).tmod 4 = 3)
abbrev Rp := Int × Int × Int
def cnt (r : Rp) (h : Int × Int) : Rp := if h.2 = 0 then (if h.1 = 0 then (r.1 + 1, r.2.1, r.2.2) else if h.1 = 1 then (r.1, r.2.1 + 1, r.2.2) else if h.1 = 2 then (r.1, r.2.1, r.2.2 + 1) else r) else r
abbrev wcells (mb : Nat) (nx : Int) (r : Rp) : List Value := [ptr mb, .int .i64 nx, .int .i64 r.1, .int .i64 r.2.1, .int .i64 r.2.2]
/-- What is there behind so many steps. -/
def scr (m : Mi) (A : Da) (p : Int → Sec → Bool) : Nat → Da × Mi × Rp
  | 0 => (A, m, (0, 0, 0))
  | k + 1 => let q := scr m A p k
    (healA q.2.1 q.1 p k, healM q.2.1 q.1 p k, cnt q.2.2 (healR q.2.1 q.1 p k))
theorem healM_same (m : Mi) (A : Da) (p : Int → Sec → Bool) (n : Int) : (healM m A p n).b = m.b ∧ (healM m A p n).bx = m.bx ∧ (healM m A p n).bys = m.bys ∧ (healM m A p n).n = m.n ∧ (healM m A p n).gv = m.gv := by
  unfold healM
  split
  · exact ⟨rfl, rfl, rfl, rfl, rfl⟩
  · split
    · split <;> exact ⟨rfl, rfl, rfl, rfl, rfl⟩
    · exact ⟨rfl, rfl, rfl, rfl, rfl⟩
theorem scr_same (m : Mi) (A : Da) (p : Int → Sec → Bool) : ∀ k, (scr m A p k).2.1.b = m.b ∧ (scr m A p k).2.1.bx = m.bx ∧ (scr m A p k).2.1.bys = m.bys ∧ (scr m A p k).2.1.n = m.n ∧ (scr m A p k).2.1.gv = m.gv
  | 0 => ⟨rfl, rfl, rfl, rfl, rfl⟩
  | k + 1 => by
    obtain ⟨h1, h2, h3, h4, h5⟩ := scr_same m A p k
    obtain ⟨g1, g2, g3, g4, g5⟩ := healM_same (scr m A p k).2.1 (scr m A p k).1 p k
    exact ⟨g1.trans h1, g2.trans h2, g3.trans h3, g4.trans h4, g5.trans h5⟩
/-! ### Two devices that are there, and don't lie, while power doesn't fail: what is read of each -/
structure Vw (A : Da) (K : Nat) (X Y : List Sec) (k0 k1 : Nat) : Prop where
  calm : A.calm
  a : RdW K X A.a k0
  b : RdW K Y A.b k1
abbrev pick2 {α : Type} (i : Bool) (x y : α) : α := if i then y else x
theorem Vw.dev {A : Da} {K : Nat} {X Y : List Sec} {k0 k1 : Nat} (h : Vw A K X Y k0 k1) (i : Bool) : RdW K (pick2 i X Y) (A.dev i) (pick2 i k0 k1) := by
  cases i
  · exact h.a
  · exact h.b
theorem Vw.new {K : Nat} (h : K ≤ 4096) (q : Option Pa) (hq : q = none ∨ q = some q0) : Vw ⟨Ab.new K, Ab.new K, q0, q⟩ K (List.replicate K (secOf 0)) (List.replicate K (secOf 0)) 0 0 :=
  ⟨⟨rfl, rfl, fun x hx => by rcases hq with rfl | rfl <;> simp at hx; subst hx; exact ⟨rfl, rfl⟩⟩, RdW.new h, RdW.new h⟩
theorem Vw.thr {A : Da} {K : Nat} {X Y : List Sec} {k0 k1 : Nat} (h : Vw A K X Y k0 k1) (i : Bool) : thr A i = true := by
  unfold Sl.thr Ab.down
  rw [(h.dev i).out, (Da.calm_pow h.calm i).1]
  rfl
theorem Vw.reads {A : Da} {K : Nat} {X Y : List Sec} {k0 k1 n : Nat} {s : Sec} (h : Vw A K X Y k0 k1) (i : Bool) (hs : (pick2 i X Y)[n]? = some s) : A.rS i (n : Int) = s ∧ A.rE i (n : Int) = 0 := by
  have hd := h.dev i
  have hk : n < K := by rw [← hd.wlen]; exact (List.getElem?_eq_some_iff.1 hs).1
  obtain ⟨h1, h2⟩ := Da.read_calm h.calm i (n : Int)
  have hh : (A.dev i).has (n : Int) = true := by rw [hd.has]; simp; omega
  rw [h1, h2, hd.out, hh]
  exact ⟨by simpa using hd.read n s hs, rfl⟩
theorem Da.write_calm2 {A : Da} (h : A.calm) (i : Bool) (n : Int) (s : Sec) : (A.write i n s).calm := by
  rw [(Da.write_calm h i n s).1]
  split
  · exact Da.calm_setd h i _
  · exact h
theorem Vw.write {A : Da} {K : Nat} {X Y : List Sec} {k0 k1 n : Nat} {s : Sec} (h : Vw A K X Y k0 k1) (i : Bool) (hn : n < K) (hs : s.length = 128) :
    A.wE i (n : Int) = 0 ∧ Vw (A.write i (n : Int) s) K (if i then X else X.set n s) (if i then Y.set n s else Y) (if i then k0 else k0 + 1) (if i then k1 + 1 else k1) := by
  have hd := h.dev i
  obtain ⟨h1, h2⟩ := Da.write_calm h.calm i (n : Int) s
  have hh : (A.dev i).has (n : Int) = true := by rw [hd.has]; simp; omega
  rw [hd.out, hh] at h1 h2
  refine ⟨by simpa using h2, ?_⟩
  have hw : A.write i (n : Int) s = A.setd i ((A.dev i).push n s) := by simpa using h1
  have hc := Da.write_calm2 h.calm i (n : Int) s
  rw [hw] at hc ⊢
  cases i
  · exact ⟨hc, h.a.write hn hs, h.b⟩
  · exact ⟨hc, h.a, h.b.write hn hs⟩
theorem Vw.flush {A : Da} {K : Nat} {X Y : List Sec} {k0 k1 : Nat} (h : Vw A K X Y k0 k1) (i : Bool) : A.fE i = 0 ∧ Vw (A.flush i) K X Y (if i then k0 else 0) (if i then 0 else k1) := by
  have hd := h.dev i
  obtain ⟨h1, h2⟩ := Da.flush_calm h.calm i
  rw [hd.out] at h1 h2
  refine ⟨by simpa using h2, ?_⟩
  have hw : A.flush i = A.setd i (A.dev i).flush := by simpa using h1
  have hc := Da.calm_setd h.calm i (A.dev i).flush
  rw [hw]
  cases i
  · exact ⟨hc, h.a.flush, h.b⟩
  · exact ⟨hc, h.a, h.b.flush⟩
theorem Vw.mono {A : Da} {K : Nat} {X Y : List Sec} {k0 k1 j0 j1 : Nat} (h : Vw A K X Y k0 k1) (h0 : k0 ≤ j0) (h1 : k1 ≤ j1) : Vw A K X Y j0 j1 := ⟨h.calm, h.a.mono h0, h.b.mono h1⟩
/-! ### What a scrub makes of them -/
def hX (p : Int → Sec → Bool) (n : Nat) (a b : Sec) : Sec := if p n a then a else if p n b then b else a
def hY (p : Int → Sec → Bool) (n : Nat) (a b : Sec) : Sec := if p n a then a else b
def hC (p : Int → Sec → Bool) (n : Nat) (a b : Sec) : Int := if p n a then (if p n b && decide (a = b) then 0 else 1) else if p n b then 1 else 2
def gt (X : List Sec) (j : Nat) : Sec := X.getD j []
def XK (p : Int → Sec → Bool) (X Y : List Sec) (K k : Nat) : List Sec := (List.range K).map fun j => if j < k then hX p j (gt X j) (gt Y j) else gt X j
def YK (p : Int → Sec → Bool) (X Y : List Sec) (K k : Nat) : List Sec := (List.range K).map fun j => if j < k then hY p j (gt X j) (gt Y j) else gt Y j
def rK (p : Int → Sec → Bool) (X Y : List Sec) : Nat → Rp
  | 0 => (0, 0, 0)
  | k + 1 => cnt (rK p X Y k) (hC p k (gt X k) (gt Y k), 0)
theorem XK_get {p : Int → Sec → Bool} {X Y : List Sec} {K k j : Nat} (h : j < K) : (XK p X Y K k)[j]? = some (if j < k then hX p j (gt X j) (gt Y j) else gt X j) := by simp [XK, h]
theorem YK_get {p : Int → Sec → Bool} {X Y : List Sec} {K k j : Nat} (h : j < K) : (YK p X Y K k)[j]? = some (if j < k then hY p j (gt X j) (gt Y j) else gt Y j) := by simp [YK, h]
theorem XK_0 {p : Int → Sec → Bool} {X Y : List Sec} {K : Nat} (h : X.length = K) : XK p X Y K 0 = X := by
  apply List.ext_getElem?
  intro j
  by_cases hj : j < K
  · rw [XK_get hj]; simp [gt, List.getD, show j < X.length by omega]
  · rw [List.getElem?_eq_none (by simp [XK]; omega), List.getElem?_eq_none (by omega)]
theorem YK_0 {p : Int → Sec → Bool} {X Y : List Sec} {K : Nat} (h : Y.length = K) : YK p X Y K 0 = Y := by
  apply List.ext_getElem?
  intro j
  by_cases hj : j < K
  · rw [YK_get hj]; simp [gt, List.getD, show j < Y.length by omega]
  · rw [List.getElem?_eq_none (by simp [YK]; omega), List.getElem?_eq_none (by omega)]
theorem map_range_set {α : Type} (f f' : Nat → α) (n i : Nat) (h : ∀ j, j ≠ i → f j = f' j) : ((List.range n).map f).set i (f' i) = (List.range n).map f' := by
  apply List.ext_getElem?
  intro j
  rw [List.getElem?_set]
  by_cases hj : i = j
  · subst hj
    by_cases hi : i < n <;> simp [hi]
  · simp only [hj, if_false, List.getElem?_map]
    by_cases hi : j < n
    · simp [hi, h j (Ne.symm hj)]
    · simp [List.getElem?_eq_none (show (List.range n).length ≤ j by simp; omega)]
theorem XK_set (p : Int → Sec → Bool) (X Y : List Sec) (K k : Nat) : (XK p X Y K k).set k (hX p k (gt X k) (gt Y k)) = XK p X Y K (k + 1) := by
  have := map_range_set (fun j => if j < k then hX p j (gt X j) (gt Y j) else gt X j) (fun j => if j < k + 1 then hX p j (gt X j) (gt Y j) else gt X j) K k (fun j hj => by
    by_cases h1 : j < k
    · simp [h1, show j < k + 1 by omega]
    · simp [h1, show ¬ j < k + 1 by omega])
  simp only [Nat.lt_succ_self, if_true] at this
  exact this
theorem YK_set (p : Int → Sec → Bool) (X Y : List Sec) (K k : Nat) : (YK p X Y K k).set k (hY p k (gt X k) (gt Y k)) = YK p X Y K (k + 1) := by
  have := map_range_set (fun j => if j < k then hY p j (gt X j) (gt Y j) else gt Y j) (fun j => if j < k + 1 then hY p j (gt X j) (gt Y j) else gt Y j) K k (fun j hj => by
    by_cases h1 : j < k
    · simp [h1, show j < k + 1 by omega]
    · simp [h1, show ¬ j < k + 1 by omega])
  simp only [Nat.lt_succ_self, if_true] at this
  exact this
theorem set_self {α : Type} {l : List α} {k : Nat} {x : α} (h : l[k]? = some x) : l.set k x = l := by
  obtain ⟨hk, rfl⟩ := List.getElem?_eq_some_iff.1 h
  simp
/-- A step of a scrub of two that are there, nothing stale. -/
theorem Vw.heal {A : Da} {K : Nat} {X Y : List Sec} {k0 k1 n : Nat} {m : Mi} {p : Int → Sec → Bool} {a b : Sec} (h : Vw A K X Y k0 k1) (hm : m.n = K) (hk0 : m.k0 = []) (hk1 : m.k1 = []) (ha : X[n]? = some a) (hb : Y[n]? = some b) (hla : a.length = 128) (hlb : b.length = 128) :
    healR m A p n = (hC p n a b, 0) ∧ (healM m A p n).k0 = [] ∧ (healM m A p n).k1 = [] ∧ Vw (healA m A p n) K (X.set n (hX p n a b)) (Y.set n (hY p n a b)) (k0 + 1) (k1 + 1) := by
  have hn : n < K := by rw [← h.a.wlen]; exact (List.getElem?_eq_some_iff.1 ha).1
  obtain ⟨ra, ea⟩ := h.reads false ha
  obtain ⟨rb, eb⟩ := h.reads true hb
  have hh : m.has (n : Int) = true := by simp [Mi.has, hm, hn]
  have t0 := h.thr false
  have t1 := h.thr true
  have g0 : hg0 m A p n = p n a := by simp [Sl.hg0, hk0, kHas, ra]
  have g1 : hg1 m A p n = p n b := by simp [Sl.hg1, hk1, kHas, rb]
  have w0 := h.write (n := n) (s := b) false hn hlb
  have w1 := h.write (n := n) (s := a) true hn hla
  have sa := set_self ha
  have sb := set_self hb
  unfold healR healM healA healTo
  rw [hh, t0, t1, g0, g1, ra, rb]
  cases hp : p n a
  · cases hq : p n b
    · refine ⟨by simp [hC, hp, hq], by simp [hk0], by simp [hk1], ?_⟩
      simp only [Bool.false_eq_true, if_false, Bool.and_self, if_true, hX, hY, hp, hq, sa, sb]
      exact h.mono (Nat.le_succ _) (Nat.le_succ _)
    · refine ⟨by simp [hC, hp, hq], ?_, ?_, ?_⟩
      · simp [w0.1, hk0, kDel]
      · simp [w0.1, hk1]
      · simp only [Bool.false_eq_true, if_false, Bool.and_self, if_true, hX, hY, hp, hq, sb, Bool.not_false, rb]
        exact w0.2.mono (Nat.le_refl _) (Nat.le_succ _)
  · by_cases hq : (p n b && decide (a = b)) = true
    · have hab : a = b := by simp at hq; exact hq.2
      refine ⟨by simp [hC, hp, hq], by simp [hq, hk0], by simp [hq, hk1], ?_⟩
      simp only [hq, if_true, Bool.and_self, hX, hY, hp, sa]
      rw [hab, sb]
      exact h.mono (Nat.le_succ _) (Nat.le_succ _)
    · refine ⟨by simp [hC, hp, hq], ?_, ?_, ?_⟩
      · simp [hq, w1.1, hk0]
      · simp [hq, w1.1, hk1, kDel]
      · simp only [hq, Bool.false_eq_true, if_false, if_true, Bool.and_self, hX, hY, hp, sa, Bool.not_true, ra]
        exact (show Vw _ K X (Y.set n a) k0 (k1 + 1) from w1.2).mono (Nat.le_succ _) (Nat.le_refl _)
theorem gt_get {X : List Sec} {j K : Nat} (h : X.length = K) (hj : j < K) : X[j]? = some (gt X j) := by simp [gt, List.getD, show j < X.length by omega]
theorem scr_view {A : Da} {K : Nat} {X Y : List Sec} {k0 k1 : Nat} {m : Mi} {p : Int → Sec → Bool} (h : Vw A K X Y k0 k1) (hm : m.n = K) (hk0 : m.k0 = []) (hk1 : m.k1 = []) (hX : ∀ s ∈ X, s.length = 128) (hY : ∀ s ∈ Y, s.length = 128) :
    ∀ k, k ≤ K → Vw (scr m A p k).1 K (XK p X Y K k) (YK p X Y K k) (k0 + k) (k1 + k) ∧ (scr m A p k).2.1.k0 = [] ∧ (scr m A p k).2.1.k1 = [] ∧ (scr m A p k).2.2 = rK p X Y k
  | 0, _ => ⟨by rw [XK_0 h.a.wlen, YK_0 h.b.wlen]; exact h, hk0, hk1, rfl⟩
  | k + 1, hk => by
    obtain ⟨v, e0, e1, e2⟩ := scr_view h hm hk0 hk1 hX hY k (by omega)
    have ga := gt_get h.a.wlen (show k < K by omega)
    have gb := gt_get h.b.wlen (show k < K by omega)
    have xa : (XK p X Y K k)[k]? = some (gt X k) := by rw [XK_get (by omega)]; simp
    have xb : (YK p X Y K k)[k]? = some (gt Y k) := by rw [YK_get (by omega)]; simp
    obtain ⟨s1, s2, s3, s4, s5⟩ := scr_same m A p k
    obtain ⟨r1, r2, r3, r4⟩ := v.heal (p := p) (s4.trans hm) e0 e1 xa xb (hX _ (List.mem_of_getElem? ga)) (hY _ (List.mem_of_getElem? gb))
    refine ⟨?_, r2, r3, ?_⟩
    · rw [XK_set, YK_set] at r4; exact r4
    · show cnt (scr m A p k).2.2 (healR (scr m A p k).2.1 (scr m A p k).1 p k) = _
      rw [r1, e2]; rfl
/-! ### What the laws write -/
def sec2 (x : UInt8 × UInt8) : Sec := x.1 :: x.2 :: List.replicate 126 0
/-- Pairs of bytes, as they lie. -/
def pb (l : List (UInt8 × UInt8)) : List UInt8 := l.flatMap fun x => [x.1, x.2]
def prX (la : List (UInt8 × UInt8)) (n : Nat) : List Sec := (la.take n).map sec2
/-- The places that were written, and the others. -/
def wX (la : List (UInt8 × UInt8)) (n i : Nat) : List Sec := prX la i ++ List.replicate (n - i) (secOf 0)
def rsel (r : Rp) (j : Nat) : Int := if j = 0 then r.1 else if j = 1 then r.2.1 else r.2.2
theorem XK_ok {p : Int → Sec → Bool} {X Y : List Sec} {K k : Nat} (hX : ∀ s ∈ X, s.length = 128) (hY : ∀ s ∈ Y, s.length = 128) (lX : X.length = K) (lY : Y.length = K) : ∀ s ∈ XK p X Y K k, s.length = 128 := fun s hs => by
  obtain ⟨j, hj, rfl⟩ := List.mem_map.1 hs
  have hj := List.mem_range.1 hj
  have a := hX _ (List.mem_of_getElem? (gt_get lX hj))
  have b := hY _ (List.mem_of_getElem? (gt_get lY hj))
  split
  · unfold Sl.hX; split
    · exact a
    · split
      · exact b
      · exact a
  · exact a
theorem YK_ok {p : Int → Sec → Bool} {X Y : List Sec} {K k : Nat} (hX : ∀ s ∈ X, s.length = 128) (hY : ∀ s ∈ Y, s.length = 128) (lX : X.length = K) (lY : Y.length = K) : ∀ s ∈ YK p X Y K k, s.length = 128 := fun s hs => by
  obtain ⟨j, hj, rfl⟩ := List.mem_map.1 hs
  have hj := List.mem_range.1 hj
  have a := hX _ (List.mem_of_getElem? (gt_get lX hj))
  have b := hY _ (List.mem_of_getElem? (gt_get lY hj))
  split
  · unfold Sl.hY; split
    · exact a
    · exact b
  · exact b
/-- A mirror of two that are there, nothing stale. -/
structure Ms (t : DT) (gv : Value) (D : Duo) (A : Da) (m : Mi) (K : Nat) (X Y : List Sec) (k0 k1 : Nat) (mb bx bys bp : Nat) : Prop where
  two : Two t D A bx bys bp
  vw : Vw A K X Y k0 k1
  mb : m.b = mb
  bx : m.bx = bx
  bys : m.bys = bys
  n : m.n = K
  s0 : m.k0 = []
  s1 : m.k1 = []
  gv : m.gv = gv
  okX : ∀ s ∈ X, s.length = 128
  okY : ∀ s ∈ Y, s.length = 128
theorem Ms.scr {t : DT} {gv : Value} {D D' : Duo} {A : Da} {m : Mi} {K : Nat} {X Y : List Sec} {k0 k1 mb bx bys bp : Nat} {p : Int → Sec → Bool} (h : Ms t gv D A m K X Y k0 k1 mb bx bys bp) (hT : Two t D' (Sl.scr m A p m.n).1 m.bx m.bys bp) :
    (Sl.scr m A p m.n).2.2 = rK p X Y K ∧ Ms t gv D' (Sl.scr m A p m.n).1 (Sl.scr m A p m.n).2.1 K (XK p X Y K K) (YK p X Y K K) (k0 + K) (k1 + K) mb bx bys bp := by
  have hn := h.n
  rw [hn] at hT ⊢
  obtain ⟨v, e0, e1, e2⟩ := scr_view (p := p) h.vw h.n h.s0 h.s1 h.okX h.okY K (Nat.le_refl _)
  obtain ⟨s1, s2, s3, s4, s5⟩ := scr_same m A p K
  rw [h.bx, h.bys] at hT
  exact ⟨e2, hT, v, s1.trans h.mb, s2.trans h.bx, s3.trans h.bys, s4.trans h.n, e0, e1, s5.trans h.gv, XK_ok h.okX h.okY h.vw.a.wlen h.vw.b.wlen, YK_ok h.okX h.okY h.vw.a.wlen h.vw.b.wlen⟩
theorem Ms.many {t : DT} {gv : Value} {D : Duo} {A : Da} {m : Mi} {K : Nat} {X Y : List Sec} {k0 k1 mb bx bys bp k : Nat} (h : Ms t gv D A m K X Y k0 k1 mb bx bys bp) (h0 : k0 ≤ k) (h1 : k1 ≤ k) (i : Bool) : (A.dev i).Q.length ≤ k := by
  have := (h.vw.dev i).many
  cases i
  · exact Nat.le_trans this h0
  · exact Nat.le_trans this h1
theorem hX_len {p : Int → Sec → Bool} {n : Nat} {a b : Sec} (ha : a.length = 128) (hb : b.length = 128) : (hX p n a b).length = 128 := by
  unfold hX; split
  · exact ha
  · split
    · exact hb
    · exact ha
theorem hY_len {p : Int → Sec → Bool} {n : Nat} {a b : Sec} (ha : a.length = 128) (hb : b.length = 128) : (hY p n a b).length = 128 := by
  unfold hY; split
  · exact ha
  · exact hb
/-! ### Scrubbed again -/
end Go.Sl

/- Numbers as bytes, the highest first (own work): plain facts. -/
set_option linter.unusedVariables false
namespace Go.Sl
/-- The bytes of a number, so many. -/
def be (n k : Nat) : List UInt8 := (List.range k).map fun i => UInt8.ofNat (n / 256 ^ (k - 1 - i) % 256)
def val (l : List UInt8) : Nat := l.foldl (fun a b => a * 256 + b.toNat) 0
end Go.Sl

/- Sealed sectors (own work): the little sum, the packed sector, what it is sealed of; plain laws. -/
set_option linter.unusedVariables false
set_option linter.unusedSimpArgs false
namespace Go.Sl
abbrev M64 : Nat := 18446744073709551616
def l1s (x : Nat) (b : UInt8) : Nat := ((x + b.toNat) % M64) * 1099511628211 % M64
def l2s (x : Nat) (b : UInt8) : Nat := (((x + b.toNat) % M64 + 1) % M64) * 1099511628211 % M64
def lsX (x : Nat) : Nat → Nat
  | 0 => x
  | i + 1 => (lsX x i * 6364136223846793005 % M64 + 1442695040888963407) % M64
def litO (x : Nat) : List UInt8 := (List.range 16).map fun i => UInt8.ofNat (lsX x (i + 1) / 72057594037927936)
def ls1 (x : Nat) (k : List UInt8) : Nat := k.foldl l1s x
def ls2 (x : Nat) (u : List UInt8) : Nat := u.foldl l2s x
/-- The little cipher's sum. -/
def litSum (k u : List UInt8) : List UInt8 := litO (ls2 (ls1 (u.length % M64) k) u)
/-! ### The sealed sector -/
def K0 : List UInt8 := List.replicate 32 0
/-- What stands behind the sum. -/
def restS (gen : Nat) (body : List UInt8) : List UInt8 := be gen 8 ++ (UInt8.ofNat body.length :: (body ++ List.replicate (103 - body.length) 0))
def sumS (a : Nat) (s : List UInt8) : List UInt8 := litSum K0 (be a 4 ++ s.drop 16)
def packS (a gen : Nat) (body : List UInt8) : Sec := sumS a (List.replicate 16 0 ++ restS gen body) ++ restS gen body
abbrev packOk (a : Int) (body : List UInt8) : Prop := 0 ≤ a ∧ a < 4096 ∧ body.length ≤ 103
def genS (s : Sec) : Nat := val ((s.drop 16).take 8)
def lenS (s : Sec) : Nat := (s.getD 24 0).toNat
def bodyS (s : Sec) : List UInt8 := (s.drop 25).take (lenS s)
/-- Is it sealed at the place? -/
abbrev isS (a : Int) (s : Sec) : Prop := lenS s ≤ 103 ∧ 0 ≤ a ∧ a < 4096 ∧ packS a.toNat (genS s) (bodyS s) = s
/-! ### A sector while it is packed -/
def pS1 (gen : Nat) : List UInt8 := List.replicate 16 0 ++ (be gen 8 ++ List.replicate 104 0)
def pS2 (gen n : Nat) : List UInt8 := List.replicate 16 0 ++ (be gen 8 ++ (UInt8.ofNat n :: List.replicate 103 0))
def pS3 (gen : Nat) (body : List UInt8) : List UInt8 := List.replicate 16 0 ++ restS gen body
/-! ### What both tell -/
def packR (a : Int) (gen : Nat) (body : List UInt8) : Sec := if packOk a body then packS a.toNat gen body else secOf 0
def unpG (a : Int) (s : Sec) : Nat := if isS a s then genS s else 0
def unpB (a : Int) (s : Sec) : List UInt8 := if isS a s then bodyS s else []
/-! ### The document's packing -/
def rB (gen k : Nat) : List UInt8 := (List.range 8).map fun j => if 8 ≤ j + k then UInt8.ofNat (gen / 256 ^ (7 - j) % 256) else 0
def rP0 (gen k : Nat) : List UInt8 := List.replicate 16 0 ++ (rB gen k ++ List.replicate 104 0)
def rP2 (gen : Nat) (body : List UInt8) (i : Nat) : List UInt8 := (List.replicate 16 0 ++ (be gen 8 ++ [UInt8.ofNat body.length])) ++ ((body.take i ++ List.replicate (103 - i) 0) ++ [])
def rP4 (gen : Nat) (body x : List UInt8) (i : Nat) : List UInt8 := [] ++ ((x.take i ++ List.replicate (16 - i) 0) ++ restS gen body)
/-! ### Laws -/
theorem bs_getD {s : List UInt8} {i : Nat} (h : i < s.length) : (bs s)[i]? = some (u8 (s.getD i 0)) := by
  rw [bs_get, List.getElem?_eq_getElem h]
  simp [List.getD, h]
/-- The document's example. -/
abbrev abc : List UInt8 := [97, 98, 99]
def abcS : Sec := packS 5 7 abc
end Go.Sl

/- Facts of the translation's types, for the kernel (own work, by a program of this repo). -/
namespace Go.Proofs.Ytjjiclgbdenkkaa
open Go.Sl
theorem us_3 : (Try.prog.underlying 3).isSome = true := by kernel_rfl
theorem us_5 : (Try.prog.underlying 5).isSome = true := by kernel_rfl
end Go.Proofs.Ytjjiclgbdenkkaa

/- walks (own work; the walks' lines by a program of this repo). -/
set_option linter.unusedVariables false
set_option linter.unusedSimpArgs false
set_option maxRecDepth 20000
namespace Go.Proofs.Ytjjiclgbdenkkaa
open Go.Sl
attribute [local irreducible] BodyQ WpC WpL WpS WpH OpW FnS


theorem good09_s {w0 : World} {H : Hp} (n : Int) (s : Sec) (hs : s.length = 128) : FnS Try.prog w0 18 #[.int .i64 n, .agg (bs s).toArray] H (fun e H' => e = .returned (.bool (goodP n s)) ∧ H' = H) := by
  have b0 := (s.getD 0 0).toNat_lt
  have b1 := (s.getD 1 0).toNat_lt
  refine FnS_intro (n := 16) (rs := [.tmp 4]) (vs := [.int .i64 n, .agg (bs s).toArray]) Try.func18 rfl Try.ntmps18 rfl rfl ?_
  refine C_seq ?_
  refine C_region ?_
  refine L_op rfl (op_box rfl rfl rfl (fun B1 => ?_))
  refine L_y rfl (y_assign rfl) rfl ?_
  refine L_nil ?_
  refine C_seq ?_
  refine C_region ?_
  refine L_y rfl (y_indexA rfl rfl Try.underlying32 sz_5 (by omega) (by omega) (show _ = 0 from rfl)) rfl ?_
  refine L_y rfl (y_load rfl ag_5 (sees 0 0 rfl) (bs_getD (by omega))) rfl ?_
  refine L_y rfl (y_conv rfl us_5 Try.underlying3 (wi64 (by omega) (by omega))) rfl ?_
  refine L_y rfl (y_indexA rfl rfl Try.underlying32 sz_5 (by omega) (by omega) (show _ = 1 from rfl)) rfl ?_
  refine L_y rfl (y_load rfl ag_5 (sees 0 0 rfl) (bs_getD (by omega))) rfl ?_
  refine L_y rfl (y_conv rfl us_5 Try.underlying3 (wi64 (by omega) (by omega))) rfl ?_
  refine L_y rfl (y_add rfl rfl (wi64 (by omega) (by omega))) rfl ?_
  refine L_y rfl (y_move rfl) rfl ?_
  refine L_y rfl (y_add rfl rfl rfl) rfl ?_
  refine L_y rfl (y_rem rfl rfl (by decide) rfl) rfl ?_
  refine L_y rfl (y_nei rfl rfl) rfl ?_
  refine L_y rfl (y_assign rfl) rfl ?_
  refine L_nil ?_
  refine C_ret ?_
  refine B_ret (rv_tmp rfl rv_nil) (hsub (.cons _ (.refl _))) ?_
  exact ⟨rfl, rfl⟩

theorem good_at {w0 : World} {H : Hp} : GoodAt Try.prog w0 H (.func (.func 18) #[] ([] : List Value).toArray) goodP := .inr ⟨18, [], rfl, fun a w => Try.call18 a w, fun H' n s _ hs => good09_s n s hs⟩

end Go.Proofs.Ytjjiclgbdenkkaa

/- A mirror of two that are there: what is written, flushed, spoilt, and new (own work). -/
set_option linter.unusedVariables false
set_option linter.unusedSimpArgs false
namespace Go.Sl
section
variable {A : Da} {K : Nat} {X Y : List Sec} {k0 k1 n : Nat} {s : Sec} {ask : Da → Bool → Bool}
theorem Vw.side (h : Vw A K X Y k0 k1) (i : Bool) (hn : n < K) (hs : s.length = 128) (ha : ask A i = false → (pick2 i X Y)[n]? = some s) :
    pd A i ask n = true ∧ Vw (pA A i ask n s) K (if i then X else X.set n s) (if i then Y.set n s else Y) (if i then k0 else k0 + 1) (if i then k1 + 1 else k1) := by
  obtain ⟨w1, w2⟩ := h.write (n := n) (s := s) i hn hs
  unfold pd pA
  rw [h.thr i]
  cases hk : ask A i
  · have hX := ha hk
    refine ⟨by simp, ?_⟩
    simp only [Bool.and_false, Bool.false_eq_true, if_false]
    cases i
    · simp only [pick2, Bool.false_eq_true, if_false] at hX ⊢
      rw [set_self hX]
      exact h.mono (Nat.le_succ _) (Nat.le_refl _)
    · simp only [pick2, if_true] at hX ⊢
      rw [set_self hX]
      exact h.mono (Nat.le_refl _) (Nat.le_succ _)
  · refine ⟨by simp [w1], ?_⟩
    simp only [Bool.and_self, if_true]
    exact w2
/-- Is it asked for only where something else stands? -/
def AskOk (K : Nat) (n : Nat) (s : Sec) (ask : Da → Bool → Bool) : Prop := ∀ A X Y k0 k1, Vw A K X Y k0 k1 → ∀ i, ask A i = false → (pick2 i X Y)[n]? = some s
theorem askok_all (K n : Nat) (s : Sec) : AskOk K n s askAll := fun A X Y k0 k1 h i hi => by cases hi
theorem Vw.put (h : Vw A K X Y k0 k1) {m : Mi} (hm : m.n = K) (z0 : m.k0 = []) (z1 : m.k1 = []) (hn : n < K) (hs : s.length = 128) (ha : AskOk K n s ask) :
    putE m A ask n s = 0 ∧ putm m A ask n s = m ∧ Vw (putDa m A ask n s) K (X.set n s) (Y.set n s) (k0 + 1) (k1 + 1) := by
  obtain ⟨d0, v0⟩ := h.side (n := n) (s := s) (ask := ask) false hn hs (ha _ _ _ _ _ h false)
  simp only [Bool.false_eq_true, if_false] at v0
  obtain ⟨d1, v1⟩ := v0.side (n := n) (s := s) (ask := ask) true hn hs (ha _ _ _ _ _ v0 true)
  simp only [if_true] at v1
  have hh : m.has (n : Int) = true := by simp [Mi.has]; omega
  refine ⟨?_, ?_, ?_⟩
  · unfold putE putD; rw [hh, d0]; rfl
  · unfold putm putD; rw [hh, d0, d1]
    obtain ⟨b, r0, r1, bx, bys, n', gv, l0, c0, l1, c1⟩ := m
    simp only at z0 z1
    subst z0 z1
    rfl
  · unfold putDa putA; rw [hh]; exact v1
theorem Vw.mfl (h : Vw A K X Y k0 k1) : (Sl.mfl A).2 = 0 ∧ Vw (Sl.mfl A).1 K X Y 0 0 := by
  obtain ⟨e0, v0⟩ := h.flush false
  simp only [Bool.false_eq_true, if_false] at v0
  obtain ⟨e1, v1⟩ := v0.flush true
  simp only [if_true] at v1
  unfold Sl.mfl fl1
  rw [h.thr false, h.thr true]
  simp only [if_true, e0, e1]
  exact ⟨trivial, v1⟩
/-- A byte of a sector is spoilt. -/
def rotB (s : Sec) (j : Nat) (c : UInt8) : Sec := s.set j (s.getD j 0 ^^^ c)
theorem rotB_len {s : Sec} {j : Nat} {c : UInt8} : (rotB s j c).length = s.length := by simp [rotB]
theorem RdW.rot {a : Ab} {W : List Sec} {j : Nat} {c : UInt8} (h : RdW K W a 0) (hn : W[n]? = some s) : RdW K (W.set n (rotB s j c)) (a.rot n j c) 0 := by
  obtain ⟨hq, hS⟩ := h.stable
  have hlt : n < K := by have := (List.getElem?_eq_some_iff.1 hn).1; have := h.wlen; omega
  have hg : a.S.getD n [] = s := by rw [hS]; simp [List.getD, hn]
  refine ⟨Ab.rot_ok h.ok (by rw [h.len]; exact hlt), by simp [Ab.rot, h.len], h.out, h.lies, by simp [Ab.rot, hq], by simpa using h.wlen, fun k u hk => ?_⟩
  have : (a.rot n j c).read k = (W.set n (rotB s j c)).getD k [] := by
    simp only [Ab.read, Ab.rot, hq, lastW, List.reverse_nil, List.find?_nil, Option.map_none, Option.getD_none, hg]
    rw [hS]; rfl
  rw [this]; simp [List.getD, hk]
theorem Vw.rot {i : Bool} {j : Nat} {c : UInt8} (h : Vw A K X Y 0 0) (hn : (pick2 i X Y)[n]? = some s) (hj : j < 128) :
    (A.dev i).rotE (n : Int) (j : Int) = true ∧ Vw (A.setd i ((A.dev i).rots (n : Int) (j : Int) c)) K (if i then X else X.set n (rotB s j c)) (if i then Y.set n (rotB s j c) else Y) 0 0 := by
  have hd := h.dev i
  have hlt : n < K := by have := (List.getElem?_eq_some_iff.1 hn).1; have := hd.wlen; omega
  have e : (A.dev i).rotE (n : Int) (j : Int) = true := by unfold Ab.rotE; rw [hd.has]; simp; omega
  refine ⟨e, ?_⟩
  unfold Ab.rots
  rw [e]
  simp only [if_true, Int.toNat_natCast]
  have hc := Da.calm_setd h.calm i ((A.dev i).rot n j c)
  cases i
  · exact ⟨hc, h.a.rot hn, h.b⟩
  · exact ⟨hc, h.a, h.b.rot hn⟩
end
section
variable {t : DT} {gv : Value} {D D' : Duo} {A A' : Da} {m : Mi} {K : Nat} {X Y X' Y' : List Sec} {k0 k1 j0 j1 mb bx bys bp : Nat} {p : Int → Sec → Bool} {n : Nat} {u v s : Sec}
theorem Ms.with {bq : Nat} (h : Ms t gv D A m K X Y k0 k1 mb bx bys bp) (hT : Two t D' A' bx bys bq) (hv : Vw A' K X' Y' j0 j1) (hx : ∀ s ∈ X', s.length = 128) (hy : ∀ s ∈ Y', s.length = 128) : Ms t gv D' A' m K X' Y' j0 j1 mb bx bys bq :=
  ⟨hT, hv, h.mb, h.bx, h.bys, h.n, h.s0, h.s1, h.gv, hx, hy⟩
theorem set_ok2 {X : List Sec} (h : ∀ s ∈ X, s.length = 128) (hs : s.length = 128) : ∀ u ∈ X.set n s, u.length = 128 := fun u hu => by
  rcases List.mem_or_eq_of_mem_set hu with h1 | rfl
  · exact h u h1
  · exact hs
/-- A mirror that has just been made of two. -/
theorem Ms.new (hT : Two t D A bx bys bp) (hv : Vw A K X Y k0 k1) (b r0 r1 : Nat) (hX : ∀ s ∈ X, s.length = 128) (hY : ∀ s ∈ Y, s.length = 128) : Ms t gv D A (mnew A bx bys gv b r0 r1) K X Y k0 k1 b bx bys bp := by
  have ht0 := hv.thr false
  have ht1 := hv.thr true
  have hl0 := hv.a.len
  have hl1 := hv.b.len
  refine ⟨hT, hv, rfl, rfl, rfl, ?_, ?_, ?_, rfl, hX, hY⟩
  · show min _ _ = _; rw [hl0, hl1]; omega
  · show stale0 _ _ = []; rw [ht0]; rfl
  · show stale0 _ _ = []; rw [ht1]; rfl
end
end Go.Sl

