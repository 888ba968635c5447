/- walks (own work; the walks' lines by a program of this repo). -/
import Derived.Test.YtoaalclbplgegaaDlW
import Derived.Test.YtoaalclbplgegaaDu
set_option linter.unusedVariables false
set_option linter.unusedSimpArgs false
set_option maxRecDepth 20000
namespace Go.Proofs.Ytoaalclbplgegaa
open Go.Sl
attribute [local irreducible] BodyQ WpC WpL WpS WpH OpW FnS


theorem write_d {w0 : World} {H : Hp} {D : Duo} {A : Da} {bx bys bp : Nat} (h : Two dt D A bx bys bp) (i : Bool) (n : Int) (s : Sec) (hs : s.length = 128) (hQ : (A.dev i).Q.length < 100000) : FnS Try.prog w0 41 #[ptr (sel bx bys i), .int .i64 n, .agg (bs s).toArray] (D.seg dt :: H) (fun e H' => e = .returned (.int .i64 (A.wE i n)) ∧ ∃ D', Two dt D' (A.write i n s) bx bys bp ∧ H' = D'.seg dt :: H) := by
  obtain ⟨d, p, L, R, X, hG, hb, hd, hp, hpb, pm, s3⟩ := h.view i H
  have s1 := HSub.of_perm pm.symm
  have s2 := HSub.of_perm pm
  refine ((write_l hG hb n s hs (by rw [hd]; exact hQ)).sub s1).weak ?_
  rintro _ _ ⟨rfl, d', p', L', R', h1, h2, h3, h4, h5, h6, h7, rfl⟩
  rw [hd, hp] at h3 h5 h6 h7
  obtain ⟨D', k1, k2⟩ := s3 _ d' p' L' R' h1 h2 h4 h6 h7
  rw [h3, h5] at k1
  exact ⟨_, k2, by rw [hd, hp]; rfl, D', k1, rfl⟩

theorem flush_d {w0 : World} {H : Hp} {D : Duo} {A : Da} {bx bys bp : Nat} (h : Two dt D A bx bys bp) (i : Bool) : FnS Try.prog w0 42 #[ptr (sel bx bys i)] (D.seg dt :: H) (fun e H' => e = .returned (.int .i64 (A.fE i)) ∧ ∃ D', Two dt D' (A.flush i) bx bys bp ∧ H' = D'.seg dt :: H) := by
  obtain ⟨d, p, L, R, X, hG, hb, hd, hp, hpb, pm, s3⟩ := h.view i H
  have s1 := HSub.of_perm pm.symm
  have s2 := HSub.of_perm pm
  refine ((flush_l hG hb).sub s1).weak ?_
  rintro _ _ ⟨rfl, d', p', L', R', h1, h2, h3, h4, h5, h6, h7, rfl⟩
  rw [hd, hp] at h3 h5 h6 h7
  obtain ⟨D', k1, k2⟩ := s3 _ d' p' L' R' h1 h2 h4 h6 h7
  rw [h3, h5] at k1
  exact ⟨_, k2, by rw [hd, hp]; rfl, D', k1, rfl⟩

theorem read_d {w0 : World} {H : Hp} {D : Duo} {A : Da} {bx bys bp : Nat} (h : Two dt D A bx bys bp) (i : Bool) (n : Int) : FnS Try.prog w0 19 #[ptr (sel bx bys i), .int .i64 n] (D.seg dt :: H) (fun e H' => e = .returned (.tuple #[.agg (bs (A.rS i n)).toArray, .int .i64 (A.rE i n)]) ∧ H' = D.seg dt :: H) := by
  obtain ⟨d, p, L, R, X, hG, hb, hd, hp, hpb, pm, s3⟩ := h.view i H
  have s1 := HSub.of_perm pm.symm
  have s2 := HSub.of_perm pm
  refine ((read_l hG hb n).sub s1).weak ?_
  rintro _ _ ⟨rfl, rfl⟩
  exact ⟨_, s2, by rw [hd, hp]; rfl, rfl⟩

theorem out_d {w0 : World} {H : Hp} {D : Duo} {A : Da} {bx bys bp : Nat} (h : Two dt D A bx bys bp) (i : Bool) (on : Bool) : FnS Try.prog w0 23 #[ptr (sel bx bys i), .bool on] (D.seg dt :: H) (fun e H' => e = .returned (.tuple #[]) ∧ ∃ D', Two dt D' (A.setd i ((A.dev i).outs on)) bx bys bp ∧ H' = D'.seg dt :: H) := by
  obtain ⟨d, p, L, R, X, hG, hb, hd, hp, hpb, pm, s3⟩ := h.view i H
  have s1 := HSub.of_perm pm.symm
  have s2 := HSub.of_perm pm
  refine ((out_l hG hb on).sub s1).weak ?_
  rintro _ _ ⟨rfl, d', h1, h2, h3, rfl⟩
  obtain ⟨D', k1, k2⟩ := s3 false d' p L R h1 h2 rfl (Mv.same _ _) (Mv.same _ _)
  rw [h3, hd, hp, Da.oth_f, Da.setd_setp] at k1
  exact ⟨_, k2, rfl, D', k1, rfl⟩

theorem rot_d {w0 : World} {H : Hp} {D : Duo} {A : Da} {bx bys bp : Nat} (h : Two dt D A bx bys bp) (i : Bool) (n j : Int) (m : UInt8) : FnS Try.prog w0 35 #[ptr (sel bx bys i), .int .i64 n, .int .i64 j, .int .u8 (m.toNat : Int)] (D.seg dt :: H) (fun e H' => e = .returned (.bool ((A.dev i).rotE n j)) ∧ ∃ D', Two dt D' (A.setd i ((A.dev i).rots n j m)) bx bys bp ∧ H' = D'.seg dt :: H) := by
  obtain ⟨d, p, L, R, X, hG, hb, hd, hp, hpb, pm, s3⟩ := h.view i H
  have s1 := HSub.of_perm pm.symm
  have s2 := HSub.of_perm pm
  refine ((rot_l hG hb n j m).sub s1).weak ?_
  rintro _ _ ⟨rfl, d', h1, h2, h3, rfl⟩
  obtain ⟨D', k1, k2⟩ := s3 false d' p L R h1 h2 rfl (Mv.same _ _) (Mv.same _ _)
  rw [h3, hd, hp, Da.oth_f, Da.setd_setp] at k1
  exact ⟨_, k2, by rw [hd], D', k1, rfl⟩

theorem len_d {w0 : World} {H : Hp} {D : Duo} {A : Da} {bx bys bp : Nat} (h : Two dt D A bx bys bp) (i : Bool) : FnS Try.prog w0 55 #[ptr (sel bx bys i)] (D.seg dt :: H) (fun e H' => e = .returned (.int .i64 ((A.dev i).S.length : Int)) ∧ H' = D.seg dt :: H) := by
  obtain ⟨d, p, L, R, X, hG, hb, hd, hp, hpb, pm, s3⟩ := h.view i H
  have s1 := HSub.of_perm pm.symm
  have s2 := HSub.of_perm pm
  refine ((len_l hb (sees 0 0 rfl)).sub s1).weak ?_
  rintro _ _ ⟨rfl, rfl⟩
  exact ⟨_, s2, by rw [hd], rfl⟩

theorem newtwo_d {w0 : World} {H : Hp} {d : Dv} {p : Pw} {b bx : Nat} (hG : GOk dt p [] d []) (hb : p.b = b) (hx : d.b = bx) (n : Int) : FnS Try.prog w0 30 #[.int .i64 n, ptr b] (d.o dt :: d.t dt :: d.q dt :: p.o dt :: p.q dt :: H) (fun e H' => ∃ bys D', Two dt D' ⟨d.a, Ab.new (szOf n), p.a, none⟩ bx bys b ∧ e = .returned (ptr bys) ∧ H' = D'.seg dt :: H) := by
  refine ((new_l2 hG hb n).sub (hsub_pick [3, 3] rfl)).weak ?_
  rintro _ _ ⟨y, p', h1, h2, h3, h4, rfl, rfl⟩
  exact ⟨_, (Duo.hsub2 dt ⟨d, y, p', none⟩ H).trans (hsub_pick [5, 5, 5, 3, 3] rfl), y.b, ⟨d, y, p', none⟩, ⟨h1, by simp only [Duo.da, h3, h4, Option.map_none], hx, rfl, h2⟩, rfl, rfl⟩

theorem newnil_d {w0 : World} {H : Hp} {d : Dv} {p : Pw} {bx : Nat} (hG : GOk dt p [] d []) (hx : d.b = bx) (n : Int) : FnS Try.prog w0 30 #[.int .i64 n, .pointer none] (d.o dt :: d.t dt :: d.q dt :: p.o dt :: p.q dt :: H) (fun e H' => ∃ bys D', Two dt D' ⟨d.a, Ab.new (szOf n), p.a, some ⟨false, 0, false⟩⟩ bx bys p.b ∧ e = .returned (ptr bys) ∧ H' = D'.seg dt :: H) := by
  refine (new_ln n).weak ?_
  rintro _ _ ⟨y, q, h1, h2, h3, rfl, rfl⟩
  exact ⟨_, (Duo.hsub2 dt ⟨d, y, p, some q⟩ H).trans (hsub_pick [5, 5, 5, 5, 5] rfl), y.b, ⟨d, y, p, some q⟩, ⟨⟨hG, h1⟩, by simp only [Duo.da, h2, h3, Option.map_some], hx, rfl, rfl⟩, rfl, rfl⟩

end Go.Proofs.Ytoaalclbplgegaa
