/- walks (own work; the walks' lines by a program of this repo). -/
import Derived.Test.YtoaalclbplgegaaDeW
set_option linter.unusedVariables false
set_option linter.unusedSimpArgs false
set_option maxRecDepth 20000
namespace Go.Proofs.Ytoaalclbplgegaa
open Go.Sl
attribute [local irreducible] BodyQ WpC WpL WpS WpH OpW FnS


theorem write_l {w0 : World} {H : Hp} {L R : List Dv} {d : Dv} {p : Pw} {b : Nat} (hG : GOk dt p L d R) (hb : d.b = b) (n : Int) (s : Sec) (hs : s.length = 128) (hQ : d.a.Q.length < 100000) :
    FnS Try.prog w0 41 #[ptr b, .int .i64 n, .agg (bs s).toArray] (opn dt d p (L ++ R) H) (fun e H' => e = .returned (.int .i64 (writeE d.a p.a n)) ∧ ∃ d' p' L' R', GOk dt p' L' d' R' ∧ d'.b = b ∧ d'.a = writeA d.a p.a n s ∧ p'.b = p.b ∧ p'.a = writeP d.a p.a n ∧ Mv (wgo d.a p.a n) p.a L L' ∧ Mv (wgo d.a p.a n) p.a R R' ∧ H' = opn dt d' p' (L' ++ R') H) := by
  subst hb
  cases hdn : d.a.down p.a with
  | true =>
    refine (write_down (sees 0 0 rfl) (hG.hb ▸ sees 3 0 rfl) n s hdn).mono ?_
    rintro _ _ ⟨rfl, rfl⟩
    refine ⟨ret_int (by simp [writeE, hdn]), d, p, L, R, hG, rfl, by simp [writeA, wgo, hdn], rfl, by simp [writeP, wgo, hdn], ?_, ?_, rfl⟩ <;> simp [wgo, hdn, Mv.same]
  | false =>
    cases hth : d.a.has n with
    | false =>
      refine (write_out (sees 0 0 rfl) (hG.hb ▸ sees 3 0 rfl) n s hdn hth).mono ?_
      rintro _ _ ⟨rfl, rfl⟩
      refine ⟨ret_int (by simp [writeE, hdn, hth]), d, p, L, R, hG, rfl, by simp [writeA, wgo, hth], rfl, by simp [writeP, wgo, hth], ?_, ?_, rfl⟩ <;> simp [wgo, hth, Mv.same]
    | true =>
      have hn : 0 ≤ n ∧ n < d.a.S.length := by simpa [Ab.has] using hth
      obtain ⟨m, rfl⟩ : ∃ m : Nat, n = m := ⟨n.toNat, by omega⟩
      refine (write_go hG m s (by omega) hs hQ hdn).mono ?_
      rintro _ _ ⟨g', hok, rfl, rfl⟩
      have hw : wgo d.a p.a (m : Int) = true := by simp [wgo, hdn, hth]
      refine ⟨ret_int (by simp [writeE, hdn, hth]), _, _, _, _, (((hG.set rfl rfl hok : GOk dt p L (d.wr m s g') R).step p.a).stepp), (Dv.step_b _ _), ?_, rfl, ?_, ?_, ?_, ?_⟩
      · rw [Dv.step_a]; simp [writeA, hw, Dv.wr, Ab.push]
      · simp [writeP, hw, Pw.step]
      · rw [hw]; exact Mv.step _ _
      · rw [hw]; exact Mv.step _ _
      · rw [List.map_append]

theorem flush_l {w0 : World} {H : Hp} {L R : List Dv} {d : Dv} {p : Pw} {b : Nat} (hG : GOk dt p L d R) (hb : d.b = b) :
    FnS Try.prog w0 42 #[ptr b] (opn dt d p (L ++ R) H) (fun e H' => e = .returned (.int .i64 (flushE d.a p.a)) ∧ ∃ d' p' L' R', GOk dt p' L' d' R' ∧ d'.b = b ∧ d'.a = flushA d.a p.a ∧ p'.b = p.b ∧ p'.a = flushP d.a p.a ∧ Mv (!d.a.down p.a) p.a L L' ∧ Mv (!d.a.down p.a) p.a R R' ∧ H' = opn dt d' p' (L' ++ R') H) := by
  subst hb
  cases hdn : d.a.down p.a with
  | true =>
    refine (flush_down (sees 0 0 rfl) (hG.hb ▸ sees 3 0 rfl) hdn).mono ?_
    rintro _ _ ⟨rfl, rfl⟩
    exact ⟨ret_int (by simp [flushE, hdn]), d, p, L, R, hG, rfl, by simp [flushA, hdn], rfl, by simp [flushP, hdn], Mv.same _ _, Mv.same _ _, rfl⟩
  | false =>
    cases hfa : p.a.falls with
    | true =>
      refine (flush_falls hG hdn hfa).mono ?_
      rintro _ _ ⟨rfl, rfl⟩
      refine ⟨ret_int (by simp [flushE, hdn, hfa]), _, _, _, _, (hG.step p.a).stepp, (Dv.step_b _ _), ?_, rfl, ?_, Mv.step _ _, Mv.step _ _, by rw [List.map_append]⟩
      · rw [Dv.step_a]; simp [flushA, hdn, hfa, Ab.step]
      · simp [flushP, hdn, Pw.step]
    | false =>
      have hm0 : ∀ L : List Dv, Mv (!false) p.a L L := fun L => by
        have := Mv.step p.a L
        rwa [step_map0 hfa] at this
      cases hl : d.a.lies with
      | true =>
        refine (flush_lies hG hdn hfa hl).mono ?_
        rintro _ _ ⟨rfl, rfl⟩
        exact ⟨ret_int (by simp [flushE, hdn, hfa]), d, _, L, R, hG.stepp, rfl, by simp [flushA, hdn, hfa, Ab.flush, hl], rfl, by simp [flushP, hdn, Pw.step], hm0 _, hm0 _, rfl⟩
      | false =>
        refine (flush_go hG hdn hfa hl).mono ?_
        rintro _ _ ⟨rfl, rfl⟩
        exact ⟨ret_int (by simp [flushE, hdn, hfa]), d.fl, _, L, R, (hG.set rfl rfl (Dv.fl_ok hG.dok) : GOk dt p L d.fl R).stepp, rfl, by rw [Dv.fl_a hl]; simp [flushA, hdn, hfa], rfl, by simp [flushP, hdn, Pw.step], hm0 _, hm0 _, rfl⟩

theorem write_1 {w0 : World} {H : Hp} {d : Dv} {p : Pw} {b : Nat} (hG : GOk dt p [] d []) (hb : d.b = b) (n : Int) (s : Sec) (hs : s.length = 128) (hQ : d.a.Q.length < 100000) : FnS Try.prog w0 41 #[ptr b, .int .i64 n, .agg (bs s).toArray] (d.o dt :: d.t dt :: d.q dt :: p.o dt :: p.q dt :: H) (fun e H' => e = .returned (.int .i64 (writeE d.a p.a n)) ∧ ∃ d' p', GOk dt p' [] d' [] ∧ d'.b = b ∧ d'.a = writeA d.a p.a n s ∧ p'.b = p.b ∧ p'.a = writeP d.a p.a n ∧ H' = d'.o dt :: d'.t dt :: d'.q dt :: p'.o dt :: p'.q dt :: H) := by
  refine (write_l hG hb n s hs hQ).mono ?_
  rintro _ _ ⟨rfl, d', p', L', R', h1, h2, h3, h4, h5, h6, h7, rfl⟩
  obtain rfl := h6.nil
  obtain rfl := h7.nil
  exact ⟨rfl, d', p', h1, h2, h3, h4, h5, rfl⟩

theorem write_2a {w0 : World} {H : Hp} {d y : Dv} {p : Pw} {b : Nat} (hG : GOk dt p [] d [y]) (hb : d.b = b) (n : Int) (s : Sec) (hs : s.length = 128) (hQ : d.a.Q.length < 100000) : FnS Try.prog w0 41 #[ptr b, .int .i64 n, .agg (bs s).toArray] (d.o dt :: d.t dt :: d.q dt :: p.o dt :: p.q dt :: y.o dt :: y.t dt :: y.q dt :: H) (fun e H' => e = .returned (.int .i64 (writeE d.a p.a n)) ∧ ∃ d' p' y', GOk dt p' [] d' [y'] ∧ d'.b = b ∧ d'.a = writeA d.a p.a n s ∧ p'.b = p.b ∧ p'.a = writeP d.a p.a n ∧ y'.b = y.b ∧ y'.a = (if wgo d.a p.a n then y.a.step p.a else y.a) ∧ H' = d'.o dt :: d'.t dt :: d'.q dt :: p'.o dt :: p'.q dt :: y'.o dt :: y'.t dt :: y'.q dt :: H) := by
  refine (write_l hG hb n s hs hQ).mono ?_
  rintro _ _ ⟨rfl, d', p', L', R', h1, h2, h3, h4, h5, h6, h7, rfl⟩
  obtain rfl := h6.nil
  obtain ⟨y', rfl, g1, g2, g3⟩ := h7.one
  exact ⟨rfl, d', p', y', h1, h2, h3, h4, h5, g1, g3, rfl⟩

theorem write_2b {w0 : World} {H : Hp} {d y : Dv} {p : Pw} {b : Nat} (hG : GOk dt p [y] d []) (hb : d.b = b) (n : Int) (s : Sec) (hs : s.length = 128) (hQ : d.a.Q.length < 100000) : FnS Try.prog w0 41 #[ptr b, .int .i64 n, .agg (bs s).toArray] (d.o dt :: d.t dt :: d.q dt :: p.o dt :: p.q dt :: y.o dt :: y.t dt :: y.q dt :: H) (fun e H' => e = .returned (.int .i64 (writeE d.a p.a n)) ∧ ∃ d' p' y', GOk dt p' [y'] d' [] ∧ d'.b = b ∧ d'.a = writeA d.a p.a n s ∧ p'.b = p.b ∧ p'.a = writeP d.a p.a n ∧ y'.b = y.b ∧ y'.a = (if wgo d.a p.a n then y.a.step p.a else y.a) ∧ H' = d'.o dt :: d'.t dt :: d'.q dt :: p'.o dt :: p'.q dt :: y'.o dt :: y'.t dt :: y'.q dt :: H) := by
  refine (write_l hG hb n s hs hQ).mono ?_
  rintro _ _ ⟨rfl, d', p', L', R', h1, h2, h3, h4, h5, h6, h7, rfl⟩
  obtain rfl := h7.nil
  obtain ⟨y', rfl, g1, g2, g3⟩ := h6.one
  exact ⟨rfl, d', p', y', h1, h2, h3, h4, h5, g1, g3, rfl⟩

theorem flush_1 {w0 : World} {H : Hp} {d : Dv} {p : Pw} {b : Nat} (hG : GOk dt p [] d []) (hb : d.b = b) : FnS Try.prog w0 42 #[ptr b] (d.o dt :: d.t dt :: d.q dt :: p.o dt :: p.q dt :: H) (fun e H' => e = .returned (.int .i64 (flushE d.a p.a)) ∧ ∃ d' p', GOk dt p' [] d' [] ∧ d'.b = b ∧ d'.a = flushA d.a p.a ∧ p'.b = p.b ∧ p'.a = flushP d.a p.a ∧ H' = d'.o dt :: d'.t dt :: d'.q dt :: p'.o dt :: p'.q dt :: H) := by
  refine (flush_l hG hb ).mono ?_
  rintro _ _ ⟨rfl, d', p', L', R', h1, h2, h3, h4, h5, h6, h7, rfl⟩
  obtain rfl := h6.nil
  obtain rfl := h7.nil
  exact ⟨rfl, d', p', h1, h2, h3, h4, h5, rfl⟩

theorem flush_2a {w0 : World} {H : Hp} {d y : Dv} {p : Pw} {b : Nat} (hG : GOk dt p [] d [y]) (hb : d.b = b) : FnS Try.prog w0 42 #[ptr b] (d.o dt :: d.t dt :: d.q dt :: p.o dt :: p.q dt :: y.o dt :: y.t dt :: y.q dt :: H) (fun e H' => e = .returned (.int .i64 (flushE d.a p.a)) ∧ ∃ d' p' y', GOk dt p' [] d' [y'] ∧ d'.b = b ∧ d'.a = flushA d.a p.a ∧ p'.b = p.b ∧ p'.a = flushP d.a p.a ∧ y'.b = y.b ∧ y'.a = (if !d.a.down p.a then y.a.step p.a else y.a) ∧ H' = d'.o dt :: d'.t dt :: d'.q dt :: p'.o dt :: p'.q dt :: y'.o dt :: y'.t dt :: y'.q dt :: H) := by
  refine (flush_l hG hb ).mono ?_
  rintro _ _ ⟨rfl, d', p', L', R', h1, h2, h3, h4, h5, h6, h7, rfl⟩
  obtain rfl := h6.nil
  obtain ⟨y', rfl, g1, g2, g3⟩ := h7.one
  exact ⟨rfl, d', p', y', h1, h2, h3, h4, h5, g1, g3, rfl⟩

theorem flush_2b {w0 : World} {H : Hp} {d y : Dv} {p : Pw} {b : Nat} (hG : GOk dt p [y] d []) (hb : d.b = b) : FnS Try.prog w0 42 #[ptr b] (d.o dt :: d.t dt :: d.q dt :: p.o dt :: p.q dt :: y.o dt :: y.t dt :: y.q dt :: H) (fun e H' => e = .returned (.int .i64 (flushE d.a p.a)) ∧ ∃ d' p' y', GOk dt p' [y'] d' [] ∧ d'.b = b ∧ d'.a = flushA d.a p.a ∧ p'.b = p.b ∧ p'.a = flushP d.a p.a ∧ y'.b = y.b ∧ y'.a = (if !d.a.down p.a then y.a.step p.a else y.a) ∧ H' = d'.o dt :: d'.t dt :: d'.q dt :: p'.o dt :: p'.q dt :: y'.o dt :: y'.t dt :: y'.q dt :: H) := by
  refine (flush_l hG hb ).mono ?_
  rintro _ _ ⟨rfl, d', p', L', R', h1, h2, h3, h4, h5, h6, h7, rfl⟩
  obtain rfl := h7.nil
  obtain ⟨y', rfl, g1, g2, g3⟩ := h6.one
  exact ⟨rfl, d', p', y', h1, h2, h3, h4, h5, g1, g3, rfl⟩

theorem read_l {w0 : World} {H : Hp} {L R : List Dv} {d : Dv} {p : Pw} {b : Nat} (hG : GOk dt p L d R) (hb : d.b = b) (n : Int) : FnS Try.prog w0 19 #[ptr b, .int .i64 n] (opn dt d p (L ++ R) H) (fun e H' => e = .returned (.tuple #[.agg (bs (readS d.a p.a n)).toArray, .int .i64 (readE d.a p.a n)]) ∧ H' = opn dt d p (L ++ R) H) := by
  subst hb
  cases hdn : d.a.down p.a with
  | true =>
    refine (read_down (sees 0 0 rfl) (hG.hb ▸ sees 3 0 rfl) n hdn).mono ?_
    rintro _ _ ⟨rfl, rfl⟩
    exact ⟨by simp [readS, readE, hdn], rfl⟩
  | false =>
    cases hth : d.a.has n with
    | false =>
      refine (read_out (sees 0 0 rfl) (hG.hb ▸ sees 3 0 rfl) n hdn hth).mono ?_
      rintro _ _ ⟨rfl, rfl⟩
      exact ⟨by simp [readS, readE, hdn, hth], rfl⟩
    | true =>
      have hn : 0 ≤ n ∧ n < d.a.S.length := by simpa [Ab.has] using hth
      obtain ⟨m, rfl⟩ : ∃ m : Nat, n = m := ⟨n.toNat, by omega⟩
      refine (read_go hG.dok (sees 0 0 rfl) (hG.hb ▸ sees 3 0 rfl) (sees 1 0 rfl) (fun gg hg => sees_mem ?_) m (by omega) hdn).mono ?_
      · simp [opn, Dv.q, hg, slSeg]
      · rintro _ _ ⟨rfl, rfl⟩
        exact ⟨by simp [readS, readE, hdn, hth], rfl⟩

theorem out_l {w0 : World} {H : Hp} {L R : List Dv} {d : Dv} {p : Pw} {b : Nat} (hG : GOk dt p L d R) (hb : d.b = b) (on : Bool) : FnS Try.prog w0 23 #[ptr b, .bool on] (opn dt d p (L ++ R) H) (fun e H' => e = .returned (.tuple #[]) ∧ ∃ d', GOk dt p L d' R ∧ d'.b = b ∧ d'.a = d.a.outs on ∧ H' = opn dt d' p (L ++ R) H) := by
  subst hb
  cases on with
  | false =>
    refine (out_f d).mono ?_
    rintro _ _ ⟨rfl, rfl⟩
    exact ⟨rfl, { d with a := { d.a with out := false } }, hG.set rfl rfl ⟨hG.dok.1, hG.dok.2⟩, rfl, rfl, rfl⟩
  | true =>
    refine (out_t d).weak ?_
    rintro _ _ ⟨rfl, rfl⟩
    exact ⟨_, hsub_nil2.trans (hsub (.cons_cons _ (.cons_cons _ (.cons _ (.refl _))))), rfl, { d with g := none, a := { d.a with Q := [], out := true } }, hG.set rfl rfl (Ab.out_ok hG.dok), rfl, rfl, rfl⟩

theorem rot_l {w0 : World} {H : Hp} {L R : List Dv} {d : Dv} {p : Pw} {b : Nat} (hG : GOk dt p L d R) (hb : d.b = b) (n i : Int) (m : UInt8) : FnS Try.prog w0 35 #[ptr b, .int .i64 n, .int .i64 i, .int .u8 (m.toNat : Int)] (opn dt d p (L ++ R) H) (fun e H' => e = .returned (.bool (d.a.rotE n i)) ∧ ∃ d', GOk dt p L d' R ∧ d'.b = b ∧ d'.a = d.a.rots n i m ∧ H' = opn dt d' p (L ++ R) H) := by
  subst hb
  cases hth : d.a.has n with
  | false =>
    refine (rot_out d (sees 0 0 rfl) n i _ hth).mono ?_
    rintro _ _ ⟨rfl, rfl⟩
    exact ⟨ret_bool (by simp [Ab.rotE, hth]), d, hG, rfl, by simp [Ab.rots, Ab.rotE, hth], rfl⟩
  | true =>
    by_cases hi : 0 ≤ i ∧ i < 128
    · have hn : 0 ≤ n ∧ n < d.a.S.length := by simpa [Ab.has] using hth
      have hr : d.a.rotE n i = true := by simp [Ab.rotE, hth, hi]
      obtain ⟨k, rfl⟩ : ∃ m : Nat, n = m := ⟨n.toNat, by omega⟩
      obtain ⟨j, rfl⟩ : ∃ m : Nat, i = m := ⟨i.toNat, by omega⟩
      refine (rot_go d hG.dok.1 k j m (by omega) (by omega)).mono ?_
      rintro _ _ ⟨rfl, rfl⟩
      exact ⟨ret_bool hr.symm, { d with a := d.a.rot k j m }, hG.set rfl rfl ⟨Ab.rot_ok hG.dok.1 (by omega), hG.dok.2⟩, rfl, by simp [Ab.rots, hr], rfl⟩
    · refine (rot_at d (sees 0 0 rfl) n i _ hth hi).mono ?_
      rintro _ _ ⟨rfl, rfl⟩
      have hr : d.a.rotE n i = false := by simp only [Ab.rotE, hth, Bool.true_and]; simp; omega
      exact ⟨ret_bool hr.symm, d, hG, rfl, by simp [Ab.rots, hr], rfl⟩

theorem len_l {w0 : World} {H : Hp} {d : Dv} {b : Nat} (hb : d.b = b) (hD : Sees (fun w => St w0 w H) d.b (.cells d.cells.toArray dt.dev)) : FnS Try.prog w0 55 #[ptr b] H (fun e H' => e = .returned (.int .i64 (d.a.S.length : Int)) ∧ H' = H) := hb ▸ len_s d hD

theorem new_l {w0 : World} {H : Hp} {p : Pw} {b : Nat} (hb : p.b = b) (hp : p.ok dt) (hdv : p.devs = []) (n : Int) : FnS Try.prog w0 30 #[.int .i64 n, ptr b] (p.o dt :: p.q dt :: H) (fun e H' => ∃ d' p', GOk dt p' [] d' [] ∧ p'.b = b ∧ d'.a = Ab.new (szOf n) ∧ p'.a = p.a ∧ e = .returned (ptr d'.b) ∧ H' = d'.o dt :: d'.t dt :: d'.q dt :: p'.o dt :: p'.q dt :: H) := by
  subst hb
  refine (new_s n p hp (by simp [hdv])).mono ?_
  rintro _ _ ⟨b, st, g', hg, rfl, rfl⟩
  exact ⟨Dv.new b st p.b (szOf n), ⟨p.b, g', p.devs ++ [b], p.a⟩, ⟨fun x hx => by simp at hx; subst hx; rfl, by simp [hdv, Dv.new], fun x hx => by simp at hx; subst hx; exact Dv.new_ok (by unfold szOf; omega), ⟨hg, hp.2⟩, by simp⟩, rfl, rfl, rfl, rfl, rfl⟩

theorem new_ln {w0 : World} {H : Hp} (n : Int) : FnS Try.prog w0 30 #[.int .i64 n, .pointer none] H (fun e H' => ∃ d' p', GOk dt p' [] d' [] ∧ d'.a = Ab.new (szOf n) ∧ p'.a = ⟨false, 0, false⟩ ∧ e = .returned (ptr d'.b) ∧ H' = d'.o dt :: d'.t dt :: d'.q dt :: p'.o dt :: p'.q dt :: H) := by
  refine (new_nil n).mono ?_
  rintro _ _ ⟨pb, b, st, g', hg, rfl, rfl⟩
  exact ⟨Dv.new b st pb (szOf n), ⟨pb, g', [] ++ [b], ⟨false, 0, false⟩⟩, ⟨fun x hx => by simp at hx; subst hx; rfl, rfl, fun x hx => by simp at hx; subst hx; exact Dv.new_ok (by unfold szOf; omega), ⟨hg, by simp⟩, by simp⟩, rfl, rfl, rfl, rfl⟩

theorem newpower_l {w0 : World} {H : Hp} : FnS Try.prog w0 29 #[] H (fun e H' => ∃ p : Pw, p.ok dt ∧ p.devs = [] ∧ p.a = ⟨false, 0, false⟩ ∧ e = .returned (ptr p.b) ∧ H' = p.o dt :: p.q dt :: H) := by
  refine newpower_s.mono ?_
  rintro _ _ ⟨b, rfl, rfl⟩
  exact ⟨⟨b, none, [], ⟨false, 0, false⟩⟩, ⟨⟨rfl, rfl⟩, by simp⟩, rfl, rfl, rfl, rfl⟩

theorem new_l2 {w0 : World} {H : Hp} {d : Dv} {p : Pw} {b : Nat} (hG : GOk dt p [] d []) (hb : p.b = b) (n : Int) : FnS Try.prog w0 30 #[.int .i64 n, ptr b] (p.o dt :: p.q dt :: d.o dt :: d.t dt :: d.q dt :: H) (fun e H' => ∃ y p', GOk dt p' [] d [y] ∧ p'.b = b ∧ y.a = Ab.new (szOf n) ∧ p'.a = p.a ∧ e = .returned (ptr y.b) ∧ H' = y.o dt :: y.t dt :: y.q dt :: p'.o dt :: p'.q dt :: d.o dt :: d.t dt :: d.q dt :: H) := by
  subst hb
  have hdv := hG.devs
  refine (new_s n p hG.pok (by rw [hdv]; simp)).mono ?_
  rintro _ _ ⟨b, st, g', hg, rfl, rfl⟩
  refine ⟨Dv.new b st p.b (szOf n), ⟨p.b, g', p.devs ++ [b], p.a⟩, ⟨fun x hx => ?_, by simp [hdv, Dv.new], fun x hx => ?_, ⟨hg, hG.pok.2⟩, by simp⟩, rfl, rfl, rfl, rfl, rfl⟩
  · simp at hx
    rcases hx with rfl | rfl
    · exact hG.hb
    · rfl
  simp at hx
  rcases hx with rfl | rfl
  · exact hG.dok
  · exact Dv.new_ok (by unfold szOf; omega)

end Go.Proofs.Ytoaalclbplgegaa
