/- Own work: texts K1W, Rl, Rd8, Cg, K2W, Fr, E4W, Dw, Du, Mi, E5W, E6W, A8, K3W, K4W, Cl, L2W, L0W, L3W, Rw, Rg, Wi, Xc, Rs, put together. -/
import Derived.Test.YtaeooiogjhkjfaaProg
import Derived.ShutString
import Derived.OpenShut
import Derived.Carry
import Derived.Deep.Slices
import Derived.Test.YtaeooiogjhkjfaaMCompactLedgera
/- walks (own work; the walks' lines by a program of this repo). -/
set_option linter.unusedVariables false
set_option linter.unusedSimpArgs false
set_option maxRecDepth 20000
namespace Go.Proofs.Ytaeooiogjhkjfaa
open Go.Sl
attribute [local irreducible] BodyQ WpC WpL WpS WpH OpW FnS


theorem choose_y {w0 : World} {H : Hp} {o : Xo} {segs size : Int} {l : Xl} {A L : Gm} (h : Xm segs size l A L) {fu : Nat} {cu : List Value} {p : Nat → Bool} (head : Int) (hcf : ∀ args w, (callFunc fu args).run Try.prog w = .ok (.enter fu args) w) (hu : ∀ k : Nat, (k : Int) < segs → ∀ H1, HSub H H1 → FnS Try.prog w0 fu ([Value.int .i64 (k : Int)] ++ cu).toArray H1 (fun e H2 => e = .returned (.bool (p k)) ∧ H2 = H1)) (hm : mayG segs size = true) {v : Nat} (hv : vic (fun k : Nat => !decide ((k : Int) = head) && p k) (fun j => cnt18 segs size l (j : Int)) segs.toNat = some v) (hl : l.length < 1000000) (hB : cnt18 segs size l (v : Int) ≤ 12) : FnS Try.prog w0 48 #[ptr o.b, (.func (.func fu) #[] cu.toArray), .int .i64 head] (o.seg 129 segs size A L :: H) (fun e H' => ∃ g, slOk 1 g (xnums segs size l (v : Int)).length (us (xnums segs size l (v : Int))) ∧ e = .returned (.tuple #[.agg [Value.int .i64 (v : Int), slV g (xnums segs size l (v : Int)).length].toArray, .bool true]) ∧ H' = slSeg 58 g (us (xnums segs size l (v : Int))) :: o.seg 129 segs size A L :: H) := by
  refine FnS_intro (n := 27) (rs := [.cell 6 92, .tmp 7]) (vs := [ptr o.b, (.func (.func fu) #[] cu.toArray), .int .i64 head]) Try.func48 rfl Try.ntmps48 rfl rfl ?_
  refine C_seq ?_
  refine C_region ?_
  refine L_op rfl (op_box rfl rfl rfl (fun B1 => ?_))
  refine L_op rfl (op_box rfl rfl rfl (fun B2 => ?_))
  refine L_op rfl (op_alloc zl_92 rfl (fun B3 => ?_))
  refine L_y rfl (y_assign rfl) rfl ?_
  refine L_nil ?_
  refine C_seq ?_
  refine C_seq ?_
  refine C_region ?_
  refine L_y rfl (y_load rfl ag_72 (sees 2 0 rfl) rfl) rfl ?_
  refine L_y rfl (y_eqfn rfl rfl Try.underlying72) rfl ?_
  refine L_nil ?_
  refine C_cond_f rfl ?_
  refine C_skip ?_
  refine C_seq ?_
  refine C_region ?_
  refine L_y rfl (y_move rfl) rfl ?_
  refine L_y rfl (y_makeFunc rfl rfl) rfl ?_
  refine L_op rfl (op_call rfl rfl (fun a w => Try.call34 a w) rfl ?_)
  refine (FnS.sub (hsub_nilx.trans (hsub_pick [3] rfl)) (victim_y h (f := 83) (cap := [ptr B2, ptr B1]) (C := fun _ => []) (p := (fun k : Nat => !decide ((k : Int) = head) && p k)) (fun a w => Try.call83 a w) (fun k hk H1 hs => choose1_s (head := head) (b := p k) (Sees.sub (by exact sees 1 0 rfl) (hs.trans (HSub.drop _ _))) (Sees.sub (by exact sees 2 0 rfl) (hs.trans (HSub.drop _ _))) hcf (hu k hk _ (HSub.trans (by exact hsub (.cons _ (.cons _ (.cons _ (.refl _))))) (hs.trans (HSub.drop _ _))))) hm)).mono ?_
  rw [hv]
  rintro _ _ ⟨rfl, rfl⟩
  refine ⟨_, rfl, ?_⟩
  refine L_y rfl (y_move rfl) rfl ?_
  refine L_y rfl (y_extract rfl rfl) rfl ?_
  refine L_y rfl (y_extract rfl rfl) rfl ?_
  refine L_y rfl (y_assign rfl) rfl ?_
  refine L_y rfl (y_assign rfl) rfl ?_
  refine L_nil ?_
  refine C_seq ?_
  refine C_seq ?_
  refine C_region ?_
  refine L_y rfl (y_move rfl) rfl ?_
  refine L_y rfl (y_not rfl) rfl ?_
  refine L_nil ?_
  refine C_cond_f rfl ?_
  refine C_skip ?_
  refine C_seq ?_
  refine C_region ?_
  refine L_y rfl (y_move rfl) rfl ?_
  refine L_y rfl (y_move rfl) rfl ?_
  refine L_y rfl (y_move rfl) rfl ?_
  refine L_op rfl (op_call rfl rfl (fun a w => Try.call31 a w) rfl ?_)
  refine (FnS.sub (hsub_pick [1] rfl) (xnums_s h (v : Int) hl hB)).mono ?_
  rintro _ _ ⟨g, hg, rfl, rfl⟩
  obtain ⟨ga, gc, ge1, _⟩ := holds_sl (w0 := w0) (H := [slSeg 58 g (us (xnums segs size l (v : Int)))]) (s := 0) rfl hg
  rw [ge1]
  refine ⟨_, rfl, ?_⟩
  refine L_y rfl (y_build (vs := [(0, _), (1, _)]) rfl pl_92 zl_92 (fill_cons (off := 0) (m := 1) (vs := [_]) rfl rfl rfl (Nat.le_of_ble_eq_true rfl) (fill_cons (off := 1) (m := 1) (vs := [_]) rfl rfl rfl (Nat.le_of_ble_eq_true rfl) rfl))) rfl ?_
  refine L_op rfl (op_store 3 0 rfl rfl rfl sz_92 rfl rfl (ones rfl) (by decide) ?_)
  skip
  refine L_y rfl (y_assign rfl) rfl ?_
  refine L_nil ?_
  refine C_ret ?_
  refine B_ret (rv_cellA rfl ag_92 sz_92 (sees 3 0 rfl) (Nat.le_of_ble_eq_true rfl) rfl (rv_tmp rfl rv_nil)) ((hsub (.cons_cons _ (.cons_cons _ (.cons _ (.cons _ (.cons _ (.cons _ (.refl _)))))))).trans (hsub_pick [0, 0] rfl)) ?_
  exact ⟨g, hg, by rw [ge1]; rfl, rfl⟩

end Go.Proofs.Ytaeooiogjhkjfaa

/- The document's list of numbers, in memory (own work). -/
set_option linter.unusedVariables false
set_option linter.unusedSimpArgs false
namespace Go.Sl
/-- Pairs of numbers. -/
def pcs (l : List (Int × Int)) : List Value := (l.map fun x => [Value.int .i64 x.1, Value.int .i64 x.2]).flatten
theorem pcs_append (a b : List (Int × Int)) : pcs (a ++ b) = pcs a ++ pcs b := by simp [pcs]
theorem pcs_at {l : List (Int × Int)} {i : Nat} {x : Int × Int} {sp : List Value} (h : l[i]? = some x) : (pcs l ++ sp)[i * 2]? = some (.int .i64 x.1) := by
  induction l generalizing i with
  | nil => simp at h
  | cons y l ih =>
    cases i with
    | zero => simp at h; subst h; rfl
    | succ i =>
      simp only [List.getElem?_cons_succ] at h
      have := ih h
      rw [show pcs (y :: l) = [Value.int .i64 y.1, Value.int .i64 y.2] ++ pcs l from rfl, show (i + 1) * 2 = i * 2 + 2 by omega]
      simpa using this
/-- Where each sector lies, of the first ones. -/
def lieK (z k : Nat) : List (Int × Int) := [(-1, -1), (-1, -1)] ++ (List.range k).map fun i => (((i / z : Nat) : Int), ((i % z : Nat) : Int))
theorem lieK_next {z s j : Nat} (h : j < z) : lieK z (s * z + (j + 1)) = lieK z (s * z + j) ++ [((s : Int), (j : Int))] := by
  unfold lieK
  rw [show s * z + (j + 1) = (s * z + j) + 1 by omega, List.range_succ, List.map_append, List.append_assoc]
  have e1 : (s * z + j) / z = s := by rw [Nat.mul_comm, Nat.mul_add_div (by omega), Nat.div_eq_of_lt h]; rfl
  have e2 : (s * z + j) % z = j := by rw [Nat.mul_comm, Nat.mul_add_mod, Nat.mod_eq_of_lt h]
  simp only [List.map_cons, List.map_nil, e1, e2]
theorem lieK_at {z k i : Nat} (h : i < k + 2) : (lieK z k)[i]? = some (if i < 2 then (-1, -1) else ((((i - 2) / z : Nat) : Int), (((i - 2) % z : Nat) : Int))) := by
  unfold lieK
  match i, h with
  | 0, _ => rfl
  | 1, _ => rfl
  | i + 2, h =>
    rw [List.getElem?_append_right (by simp), if_neg (by omega), List.getElem?_map, show i + 2 - [((-1 : Int), (-1 : Int)), (-1, -1)].length = i from rfl, List.getElem?_range (by omega)]
    rfl
theorem may_nat {segs size : Int} (h : mayG segs size = true) : ∃ s z : Nat, segs = s ∧ size = z ∧ 3 ≤ s ∧ s ≤ 64 ∧ 1 ≤ z ∧ z ≤ 32 := by
  obtain ⟨h1, h2, h3, h4⟩ := mayG_spec h
  exact ⟨segs.toNat, size.toNat, by omega, by omega, by omega, by omega, by omega, by omega⟩
/-- The document's segment of a sector. -/
def seg18 (segs size a : Int) : Int := match ofS segs size a with | some s => s | none => -1
theorem seg18_no {segs size a : Int} (h : ofS segs size a = none) : seg18 segs size a = -1 := by unfold seg18; rw [h]
/-- Numbers with their sectors. -/
def lcs (l : Xl) : List Value := (l.map fun x => [Value.int .u64 (x.1 : Int), Value.int .i64 x.2]).flatten
theorem lcs_len (l : Xl) : (lcs l).length = l.length * 2 := by
  induction l with
  | nil => rfl
  | cons x l ih => simp only [lcs, List.map_cons, List.flatten_cons, List.length_append, List.length_cons] at ih ⊢; rw [ih]; simp; omega
theorem lcs_append (a b : Xl) : lcs (a ++ b) = lcs a ++ lcs b := by simp [lcs]
theorem lcs_at {l : Xl} {i : Nat} {x : Nat × Int} {sp : List Value} (h : l[i]? = some x) : (lcs l ++ sp)[i * 2]? = some (.int .u64 (x.1 : Int)) ∧ (lcs l ++ sp)[i * 2 + 1]? = some (.int .i64 x.2) ∧ ((lcs l ++ sp).drop (i * 2)).take 2 = [.int .u64 (x.1 : Int), .int .i64 x.2] := by
  induction l generalizing i with
  | nil => simp at h
  | cons y l ih =>
    cases i with
    | zero => simp at h; subst h; exact ⟨rfl, rfl, rfl⟩
    | succ i =>
      simp only [List.getElem?_cons_succ] at h
      have := ih h
      rw [show lcs (y :: l) = [Value.int .u64 (y.1 : Int), Value.int .i64 y.2] ++ lcs l from rfl, show (i + 1) * 2 = i * 2 + 2 by omega]
      simpa using this
/-- Where a number stands in the list. -/
def fnd (l : Xl) (n : Nat) : Int := match l.findIdx? (fun x => x.1 == n) with | some i => (i : Int) | none => -1
theorem fnd_at {l : Xl} {n i : Nat} {x : Nat × Int} (hi : l[i]? = some x) (hx : x.1 = n) (hno : ∀ j y, j < i → l[j]? = some y → y.1 ≠ n) : fnd l n = i := by
  unfold fnd
  obtain ⟨hlt, he⟩ := List.getElem?_eq_some_iff.1 hi
  have : l.findIdx? (fun x => x.1 == n) = some i := by
    rw [List.findIdx?_eq_some_iff_getElem]
    refine ⟨hlt, by rw [he]; simpa using hx, ?_⟩
    intro j hj
    have := hno j _ hj (List.getElem?_eq_getElem (by omega))
    simpa using this
  rw [this]
theorem fnd_no {l : Xl} {n : Nat} (hno : ∀ j y, j < l.length → l[j]? = some y → y.1 ≠ n) : fnd l n = -1 := by
  unfold fnd
  have : l.findIdx? (fun x => x.1 == n) = none := by
    rw [List.findIdx?_eq_none_iff]
    intro x hx
    obtain ⟨j, hj, rfl⟩ := List.getElem_of_mem hx
    have := hno j _ hj (List.getElem?_eq_getElem hj)
    simpa using this
  rw [this]
theorem fnd_none {l : Xl} {n : Nat} (h : xfind l n = none) : fnd l n = -1 := by
  refine fnd_no fun j y hj hy e => ?_
  unfold xfind at h
  rw [Option.map_eq_none_iff, List.find?_eq_none] at h
  exact h y (List.mem_of_getElem? hy) (by simp [e])
theorem fnd_some {l : Xl} (hs : Xs l) {n : Nat} {a : Int} (h : xfind l n = some a) : ∃ i, l[i]? = some (n, a) ∧ fnd l n = (i : Nat) ∧ i < l.length := by
  have hm := (xfind_mem hs).1 h
  obtain ⟨i, hi, e⟩ := List.getElem_of_mem hm
  have h1 : l[i]? = some (n, a) := by rw [List.getElem?_eq_getElem hi, e]
  refine ⟨i, h1, fnd_at h1 rfl ?_, hi⟩
  intro j y hj hy en
  have h3 := List.pairwise_iff_getElem.1 hs j i (by omega) hi hj
  rw [List.getElem?_eq_getElem (by omega)] at hy
  rw [Option.some.inj hy, e] at h3
  simp only at h3
  omega
/-! ### A number is laid among rising ones -/
def big (l : Xl) (n i : Nat) : Bool := (l.take i).any fun x => decide (n < x.1)
def outI (l : Xl) (n : Nat) (a : Int) (i : Nat) : Xl := if big l n i then xins (l.take i) n a else l.take i
theorem big_next {l : Xl} {n i : Nat} {x : Nat × Int} (h : l[i]? = some x) : big l n (i + 1) = (big l n i || decide (n < x.1)) := by
  unfold big
  rw [List.take_add_one, h]
  simp
theorem xins_end {l : Xl} {n : Nat} {a : Int} (h : ∀ x ∈ l, ¬ n < x.1) : xins l n a = l ++ [(n, a)] := by
  induction l with
  | nil => rfl
  | cons x l ih =>
    unfold xins
    rw [if_neg (h x (List.mem_cons_self ..)), ih fun y hy => h y (List.mem_cons_of_mem _ hy)]
    rfl
theorem xins_mid {l : Xl} {n : Nat} {a : Int} {x : Nat × Int} (h : ∀ x ∈ l, ¬ n < x.1) (hx : n < x.1) : xins (l ++ [x]) n a = l ++ [(n, a), x] := by
  induction l with
  | nil => show xins [x] n a = [(n, a), x]; rw [xins, if_pos hx]
  | cons y l ih =>
    rw [List.cons_append, xins, if_neg (h y (List.mem_cons_self ..)), ih fun z hz => h z (List.mem_cons_of_mem _ hz)]
    rfl
theorem xins_more {l : Xl} {n : Nat} {a : Int} {x : Nat × Int} (h : l.any (fun x => decide (n < x.1)) = true) : xins (l ++ [x]) n a = xins l n a ++ [x] := by
  induction l with
  | nil => cases h
  | cons y l ih =>
    rw [List.cons_append, xins]
    by_cases hy : n < y.1
    · rw [if_pos hy, xins, if_pos hy]; rfl
    · rw [if_neg hy, ih (by simpa [hy] using h)]
      rw [show xins (y :: l) n a = y :: xins l n a from by rw [xins, if_neg hy]]; rfl
section
variable {l : Xl} {n i : Nat} {a : Int} {x : Nat × Int}
theorem big_f (h : big l n i = false) : ∀ y ∈ l.take i, ¬ n < y.1 := by
  intro y hy hlt
  unfold big at h
  rw [List.any_eq_false] at h
  exact h y hy (by simpa using hlt)
theorem outI_0 : outI l n a 0 = [] := by unfold outI big; simp
theorem out_first (hb : big l n i = false) (hx : l[i]? = some x) (hlt : n < x.1) : outI l n a (i + 1) = outI l n a i ++ [(n, a)] ++ [x] := by
  unfold outI
  rw [big_next hx, hb, decide_eq_true hlt]
  simp only [Bool.or_true, if_true, Bool.false_eq_true, if_false]
  rw [List.take_add_one, hx, Option.toList_some, xins_mid (big_f hb) hlt]
  simp
theorem out_not (hb : big l n i = false) (hx : l[i]? = some x) (hlt : ¬ n < x.1) : outI l n a (i + 1) = outI l n a i ++ [x] := by
  unfold outI
  rw [big_next hx, hb, decide_eq_false hlt]
  simp only [Bool.or_false, Bool.false_eq_true, if_false]
  rw [List.take_add_one, hx]; rfl
theorem out_more (hb : big l n i = true) (hx : l[i]? = some x) : outI l n a (i + 1) = outI l n a i ++ [x] := by
  unfold outI
  rw [big_next hx, hb]
  simp only [Bool.true_or, if_true]
  rw [List.take_add_one, hx, Option.toList_some, xins_more hb]
theorem out_end (hb : big l n l.length = false) : outI l n a l.length ++ [(n, a)] = xins l n a := by
  have := big_f hb
  rw [List.take_length] at this
  rw [xins_end this]
  unfold outI
  rw [hb]; simp
theorem out_done (hb : big l n l.length = true) : outI l n a l.length = xins l n a := by
  unfold outI
  rw [hb, if_pos rfl, List.take_length]
theorem out_len (h : i ≤ l.length) : (outI l n a i).length ≤ l.length + 1 := by
  unfold outI
  split
  · rw [xins_len, List.length_take]; omega
  · rw [List.length_take]; omega
end
theorem lcs_one (l : Xl) : ∀ v ∈ lcs l, one v = true := by
  intro v hv
  unfold lcs at hv
  rw [List.mem_flatten] at hv
  obtain ⟨c, hc, hv⟩ := hv
  obtain ⟨x, _, rfl⟩ := List.mem_map.1 hc
  simp at hv
  rcases hv with rfl | rfl <;> rfl
end Go.Sl

/- Deeds on numbers (own work). -/
set_option linter.unusedVariables false
set_option linter.unusedSimpArgs false
namespace Go.Sl
/-- A deed: what the list is then, and the error. -/
def dd (segs size : Int) (l : Xl) (d n : Nat) (a : Int) : Xl × Int := if d % 4 = 2 then xput segs size l n a true else if d % 4 = 3 then xdrop l n else xput segs size l n a false
def bos (l : List Bool) : List Value := l.map Value.bool
theorem bos_len (l : List Bool) : (bos l).length = l.length := by simp [bos]
theorem us_hat {l : List Value} {off i : Nat} {u : List Nat} (hv : (l.drop off).take (us u).length = us u) (hi : i < u.length) : l[off + i * 1]? = some (Value.int .u64 ((u.getD i 0 : Nat) : Int)) := by
  have h1 : ((l.drop off).take (us u).length)[i]? = (us u)[i]? := by rw [hv]
  rw [List.getElem?_take_of_lt (by rw [us_len]; exact hi), List.getElem?_drop] at h1
  rw [Nat.mul_one, h1]
  simp [us, List.getD, hi]
theorem bos_hat {l : List Value} {off i : Nat} {u : List Bool} (hv : (l.drop off).take (bos u).length = bos u) (hi : i < u.length) : l[off + i * 1]? = some (Value.bool (u.getD i false)) := by
  have h1 : ((l.drop off).take (bos u).length)[i]? = (bos u)[i]? := by rw [hv]
  rw [List.getElem?_take_of_lt (by rw [bos_len]; exact hi), List.getElem?_drop] at h1
  rw [Nat.mul_one, h1]
  simp [bos, List.getD, hi]
end Go.Sl

/- What a plan gains (own work). -/
set_option linter.unusedVariables false
set_option linter.unusedSimpArgs false
namespace Go.Sl
/-- Does a number lie in the segment? -/
def liesIn (segs size : Int) (l : Xl) (seg : Int) (n : Nat) : Bool := match xfind l n with
  | some a => decide (ofS segs size a = some seg)
  | none => false
/-- The numbers that lie there, each once. -/
def gset (segs size : Int) (l : Xl) (seg : Int) (ns : List Nat) : List Nat := ns.foldl (fun acc n => if liesIn segs size l seg n && !acc.contains n then acc ++ [n] else acc) []
theorem gset_next {segs size : Int} {l : Xl} {seg : Int} {ns : List Nat} {i n : Nat} (h : ns[i]? = some n) : gset segs size l seg (ns.take (i + 1)) = if liesIn segs size l seg n && !(gset segs size l seg (ns.take i)).contains n then gset segs size l seg (ns.take i) ++ [n] else gset segs size l seg (ns.take i) := by
  unfold gset
  rw [List.take_add_one, h, Option.toList_some, List.foldl_append]
  rfl
/-- A map of numbers that has just these. -/
structure Gs (acc : List Nat) (G : Gm) : Prop where
  ok : G.ok
  has : ∀ n : Nat, (G.get (n : Int)).isSome = acc.contains n
  len : G.es.length = acc.length
theorem Gs.new : Gs [] Gm.new := ⟨Gm.new_ok, fun n => rfl, rfl⟩
theorem Gs.put {acc : List Nat} {G : Gm} (h : Gs acc G) (n : Nat) (v : Value) : Gs (if acc.contains n then acc else acc ++ [n]) (G.put (n : Int) v) where
  ok := Gm.put_ok h.ok _ _
  has m := by
    rw [Gm.get_put]
    by_cases e : (m : Int) = (n : Int)
    · have : m = n := by omega
      subst this
      rw [if_pos rfl]
      cases hc : acc.contains m
      · simp
      · simp only [if_true]; rw [hc]; rfl
    · rw [if_neg e, h.has]
      have : ¬ m = n := by omega
      split
      · rfl
      · simp [this]
  len := by
    rw [Gm.put_len, h.has, h.len]
    split <;> simp
theorem gset_len (segs size : Int) (l : Xl) (seg : Int) (ns : List Nat) (i : Nat) : (gset segs size l seg (ns.take i)).length ≤ ns.length := by
  have key : ∀ (ms acc : List Nat), (ms.foldl (fun acc n => if liesIn segs size l seg n && !acc.contains n then acc ++ [n] else acc) acc).length ≤ acc.length + ms.length := by
    intro ms
    induction ms with
    | nil => intro acc; simp
    | cons m ms ih =>
      intro acc
      rw [List.foldl_cons]
      refine Nat.le_trans (ih _) ?_
      split <;> simp <;> omega
  have := key (ns.take i) []
  unfold gset
  rw [List.length_take] at this
  simp at this ⊢
  omega
/-- Cells that are laid one by one. -/
def laidL (segs size : Int) (ll : Xl) : Xl := ll.foldl (fun x c => (xput segs size x c.1 c.2 false).1) []
theorem laid_next {segs size : Int} {ll : Xl} {i : Nat} {c : Nat × Int} (h : ll[i]? = some c) : laidL segs size (ll.take (i + 1)) = (xput segs size (laidL segs size (ll.take i)) c.1 c.2 false).1 := by
  unfold laidL
  rw [List.take_add_one, h, Option.toList_some, List.foldl_append]
  rfl
theorem lcs_hat {l : List Value} {off i : Nat} {al : Xl} {x : Nat × Int} (hv : (l.drop off).take (lcs al).length = lcs al) (hi : al[i]? = some x) : l[off + i * 2]? = some (.int .u64 (x.1 : Int)) ∧ l[off + i * 2 + 1]? = some (.int .i64 x.2) := by
  have hlt := (List.getElem?_eq_some_iff.1 hi).1
  have h := lcs_at (sp := []) hi
  rw [List.append_nil] at h
  have e : ∀ j, j < (lcs al).length → l[off + j]? = (lcs al)[j]? := fun j hj => by
    rw [← hv, List.getElem?_take_of_lt hj, List.getElem?_drop]
  have hl := lcs_len al
  exact ⟨by rw [e _ (by omega)]; exact h.1, by rw [Nat.add_assoc, e _ (by omega)]; exact h.2.1⟩
end Go.Sl

/- walks (own work; the walks' lines by a program of this repo). -/
set_option linter.unusedVariables false
set_option linter.unusedSimpArgs false
set_option maxRecDepth 20000
namespace Go.Proofs.Ytaeooiogjhkjfaa
open Go.Sl
attribute [local irreducible] BodyQ WpC WpL WpS WpH OpW FnS


set_option maxHeartbeats 1000000 in

theorem gain_y {w0 : World} {H : Hp} {o : Xo} {segs size : Int} {l : Xl} {A L : Gm} (h : Xm segs size l A L) {pn : Option Addr} {cn : Nat} {ns : List Nat} (hN : Holds w0 H pn (us ns)) (hl : ns.length < 1000000) (seg : Int) (hm : mayG segs size = true) (hs : ¬ seg < 0) (hs2 : ¬ segs ≤ seg) : FnS Try.prog w0 50 #[ptr o.b, shV segs size, .agg [Value.int .i64 seg, .slice pn ns.length cn].toArray] (o.seg 129 segs size A L :: H) (fun e H' => e = .returned (.int .i64 (max (size - ((gset segs size l seg ns).length : Int)) 0)) ∧ H' = o.seg 129 segs size A L :: H) := by
  refine FnS_intro (n := 70) (rs := [.tmp 6]) (vs := [ptr o.b, shV segs size, .agg [Value.int .i64 seg, .slice pn ns.length cn].toArray]) Try.func50 rfl Try.ntmps50 rfl rfl ?_
  refine C_seq ?_
  refine C_region ?_
  refine L_op rfl (op_box rfl rfl rfl (fun B1 => ?_))
  refine L_op rfl (op_box rfl rfl rfl (fun B2 => ?_))
  refine L_y rfl (y_assign rfl) rfl ?_
  refine L_nil ?_
  refine C_seq ?_
  refine C_seq ?_
  refine C_region ?_
  refine L_y rfl (y_loadA rfl ag_51 sz_51 (sees 1 0 rfl) (Nat.le_of_ble_eq_true rfl) rfl) rfl ?_
  refine L_op rfl (op_call rfl rfl (fun a w => Try.call27 a w) rfl ?_)
  refine (check_s segs size).mono ?_
  rintro _ _ ⟨rfl, e⟩
  obtain rfl := e.symm
  clear e
  rw [show chkE segs size = 0 from by unfold chkE; rw [hm]; rfl]
  refine ⟨_, rfl, ?_⟩
  refine L_y rfl (y_nei rfl rfl) rfl ?_
  refine L_y rfl (y_move rfl) rfl ?_
  refine L_y rfl (y_fieldAddr rfl fl_92_0) rfl ?_
  refine L_y rfl (y_load rfl ag_3 (sees 0 0 rfl) rfl) rfl ?_
  refine L_y rfl (y_lss rfl rfl) rfl ?_
  refine L_y rfl (y_pick_f rfl rfl) rfl ?_
  refine L_y rfl (y_move rfl) rfl ?_
  refine L_case 23 rfl (fun hg1_9 => ?_) (fun hg1_9 => ?_)
  · exact absurd (of_decide_eq_true hg1_9) (by omega)
  · skip
    refine L_y rfl (y_fieldAddr rfl fl_92_0) rfl ?_
    refine L_y rfl (y_load rfl ag_3 (sees 0 0 rfl) rfl) rfl ?_
    refine L_y rfl (y_fieldAddr rfl fl_51_0) rfl ?_
    refine L_y rfl (y_load rfl ag_3 (sees 1 0 rfl) rfl) rfl ?_
    refine L_y rfl (y_geq rfl rfl) rfl ?_
    refine L_y rfl (y_pick_f rfl rfl) rfl ?_
    refine L_nil ?_
    refine C_cond rfl (fun hc0 => absurd hc0 (by simp <;> omega)) (fun hc0 => ?_)
    refine C_skip ?_
    refine C_seq ?_
    refine C_region ?_
    refine L_op rfl (op_makeMapG .u64 rfl (fun B3 => ?_))
    refine L_y rfl (y_assign rfl) rfl ?_
    refine L_nil ?_
    refine C_seq ?_
    refine C_seq ?_
    refine C_region ?_
    refine L_y rfl (y_fieldAddr rfl fl_92_1) rfl ?_
    refine L_y rfl (y_load rfl ag_63 (sees 1 0 rfl) rfl) rfl ?_
    refine L_y rfl (y_lenS rfl rfl Try.underlying63) rfl ?_
    refine L_y rfl (y_move rfl) rfl ?_
    refine L_nil ?_
    refine C_block ?_
    refine C_loop (ι := Nat × Gm) (fun i => [(0, ptr o.b), (4, ptr B1), (5, ptr B2), (7, .map (some B3)), (32, .slice pn ns.length cn), (33, .int .i64 (ns.length : Int)), (34, .int .i64 (i.1 : Int))]) (fun i => [(B3, i.2.obj .u64)] :: o.seg 129 segs size A L :: [(B1, .cells [Value.int .i64 segs, .int .i64 size].toArray 51)] :: [(B2, .cells [Value.int .i64 seg, .slice pn ns.length cn].toArray 92)] :: H) (fun i => i.1 ≤ ns.length ∧ Gs (gset segs size l seg (ns.take i.1)) i.2) (fun i => ns.length - i.1) (0, Gm.new) ⟨Nat.zero_le _, Gs.new⟩ ⟨rfl, rfl, rfl, rfl, rfl, rfl, rfl, trivial⟩ ((hsub (.cons_cons _ (.cons_cons _ (.cons_cons _ (.cons_cons _ (.refl _)))))).trans (hsub_pick [0, 2, 1, 0] rfl)) (fun i hi => ?_)
    obtain ⟨i, G⟩ := i
    obtain ⟨hi, hG⟩ := hi
    try simp only at hi hG
    try dsimp only
    refine C_seq ?_
    refine C_region ?_
    refine L_y rfl (y_lss rfl rfl) rfl ?_
    refine L_nil ?_
    refine C_seq ?_
    refine C_cond rfl (fun hc1 => ?_) (fun hc1 => ?_)
    · replace hc1 : i < ns.length := by have := of_decide_eq_true hc1; omega
      obtain ⟨n, hx⟩ : ∃ n, ns[i]? = some n := ⟨_, List.getElem?_eq_getElem hc1⟩
      obtain ⟨b1, o1, l1, T1, fr1, rfl, hs1, hle1, hv1⟩ := hN (by rw [us_len]; omega)
      rw [us_len] at hle1
      have hnn : ns.getD i 0 = n := by simp [List.getD, hx]
      refine C_skip ?_
      refine C_seq ?_
      refine C_block ?_
      refine C_seq ?_
      refine C_region ?_
      refine L_y rfl (y_indexS rfl rfl Try.underlying63 sz_58 (by omega) (by omega) (show _ = o1 + i * 1 from by simp)) rfl ?_
      refine L_y rfl (y_load rfl ag_58 (hs1.up.up.up.up) (show _ = some (Value.int .u64 (n : Int)) from by rw [← hnn]; exact us_hat hv1 hc1)) rfl ?_
      refine L_y rfl (y_assign rfl) rfl ?_
      refine L_nil ?_
      refine C_seq ?_
      refine C_region ?_
      refine L_y rfl (y_move rfl) rfl ?_
      refine L_y rfl (y_move rfl) rfl ?_
      refine L_op rfl (op_call rfl rfl (fun a w => Try.call37 a w) rfl ?_)
      refine (FnS.sub (hsub_pick [1] rfl) (xat_s h n)).mono ?_
      rintro _ _ ⟨rfl, rfl⟩
      refine ⟨_, rfl, ?_⟩
      refine L_y rfl (y_move rfl) rfl ?_
      refine L_y rfl (y_extract rfl rfl) rfl ?_
      refine L_y rfl (y_extract rfl rfl) rfl ?_
      refine L_y rfl (y_assign rfl) rfl ?_
      refine L_y rfl (y_assign rfl) rfl ?_
      refine L_nil ?_
      refine C_seq ?_
      refine C_region ?_
      refine L_y rfl (y_loadA rfl ag_51 sz_51 (sees 2 0 rfl) (Nat.le_of_ble_eq_true rfl) rfl) rfl ?_
      refine L_y rfl (y_move rfl) rfl ?_
      refine L_op rfl (op_call rfl rfl (fun a w => Try.call40 a w) rfl ?_)
      refine (of_s segs size _).mono ?_
      rintro _ _ ⟨rfl, e⟩
      obtain rfl := e.symm
      clear e
      refine ⟨_, rfl, ?_⟩
      refine L_y rfl (y_move rfl) rfl ?_
      refine L_y rfl (y_extract rfl rfl) rfl ?_
      refine L_y rfl (y_extract rfl rfl) rfl ?_
      refine L_y rfl (y_extract rfl rfl) rfl ?_
      refine L_y rfl (y_assign rfl) rfl ?_
      refine L_y rfl (y_assign rfl) rfl ?_
      refine L_y rfl (y_assign rfl) rfl ?_
      refine L_nil ?_
      refine C_seq ?_
      refine C_region ?_
      refine L_y rfl (y_move rfl) rfl ?_
      refine L_y rfl (y_move rfl) rfl ?_
      refine L_case 52 rfl (fun hg9_2 => ?_) (fun hg9_2 => ?_)
      · obtain ⟨a, hq⟩ : ∃ a, xfind l (n : Int) = some a := Option.isSome_iff_exists.1 hg9_2
        obtain ⟨t, hb⟩ := ofS_some h hq
        refine L_y rfl (y_move rfl) rfl ?_
        refine L_y rfl (y_pick_t rfl rfl) rfl ?_
        refine L_y rfl (y_move rfl) rfl ?_
        refine L_case 55 rfl (fun hg9_5 => ?_) (fun hg9_5 => ?_)
        · skip
          refine L_y rfl (y_move rfl) rfl ?_
          refine L_y rfl (y_fieldAddr rfl fl_92_0) rfl ?_
          refine L_y rfl (y_load rfl ag_3 (sees 3 0 rfl) rfl) rfl ?_
          refine L_y rfl (y_eqi rfl rfl) rfl ?_
          refine L_y rfl (y_pick_t rfl rfl) rfl ?_
          refine L_nil ?_
          refine C_cond rfl (fun hc2 => ?_) (fun hc2 => ?_)
          · have hin : ofS segs size a = some seg := by have h5 := of_decide_eq_true hc2; rw [hq, Option.getD_some, hb, Option.getD_some] at h5; rw [hb, h5]
            refine C_region ?_
            refine L_y rfl (y_move rfl) rfl ?_
            refine L_y rfl (y_move rfl) rfl ?_
            refine L_op rfl (op_mapUpdateG 1 0 rfl rfl rfl Try.underlying57 Try.underlying58 hG.ok rfl rfl ?_)
            refine L_nil ?_
            refine C_region ?_
            refine L_y rfl (y_add rfl rfl (show _ = ((i + 1 : Nat) : Int) from by rw [wi64 (by omega) (by omega)]; omega)) rfl ?_
            refine L_y rfl (y_move rfl) rfl ?_
            refine L_nil ?_
            have hz : (gset segs size l seg (ns.take (i + 1))) = (if (gset segs size l seg (ns.take i)).contains n then (gset segs size l seg (ns.take i)) else (gset segs size l seg (ns.take i)) ++ [n]) := by rw [gset_next hx, show liesIn segs size l seg n = true from by unfold liesIn; rw [hq]; exact decide_eq_true hin]; cases (gset segs size l seg (ns.take i)).contains n <;> rfl
            refine ⟨(i + 1, _), ⟨by simp only; omega, ?_⟩, by simp only; omega, ⟨rfl, rfl, rfl, rfl, rfl, rfl, rfl, trivial⟩, ((hsub (.cons_cons _ (.cons_cons _ (.cons_cons _ (.cons_cons _ (.refl _)))))).trans (hsub_pick [1, 0, 0, 0] rfl))⟩
            try simp only
            rw [hz]
            exact hG.put n _
          · have hin : ¬ ofS segs size a = some seg := by
              have h5 := of_decide_eq_false hc2
              rw [hq, Option.getD_some, hb, Option.getD_some] at h5
              rw [hb]; exact fun e => h5 (Option.some.inj e)
            refine C_skip ?_
            refine C_region ?_
            refine L_y rfl (y_add rfl rfl (show _ = ((i + 1 : Nat) : Int) from by rw [wi64 (by omega) (by omega)]; omega)) rfl ?_
            refine L_y rfl (y_move rfl) rfl ?_
            refine L_nil ?_
            have hz : (gset segs size l seg (ns.take (i + 1))) = (gset segs size l seg (ns.take i)) := by rw [gset_next hx, show liesIn segs size l seg n = false from by unfold liesIn; rw [hq] <;> first | rfl | exact decide_eq_false hin] <;> rfl
            refine ⟨(i + 1, G), ⟨by simp only; omega, ?_⟩, by simp only; omega, ⟨rfl, rfl, rfl, rfl, rfl, rfl, rfl, trivial⟩, ((hsub (.cons_cons _ (.cons_cons _ (.cons_cons _ (.cons_cons _ (.refl _)))))).trans (hsub_pick [1, 0, 0, 0] rfl))⟩
            try simp only
            rw [hz]
            exact hG
        · exact absurd hg9_5 (by rw [hq, Option.getD_some, hb]; simp)
      · have hq : xfind l (n : Int) = none := by cases e : xfind l (n : Int) with
          | none => rfl
          | some a => rw [e] at hg9_2; cases hg9_2
        refine L_skip rfl rfl ?_
        refine L_y rfl (y_pick_f rfl rfl) rfl ?_
        refine L_y rfl (y_move rfl) rfl ?_
        refine L_skip rfl rfl ?_
        refine L_skip rfl rfl ?_
        refine L_skip rfl rfl ?_
        refine L_skip rfl rfl ?_
        refine L_y rfl (y_pick_f rfl rfl) rfl ?_
        refine L_nil ?_
        refine C_cond_f rfl ?_
        refine C_skip ?_
        refine C_region ?_
        refine L_y rfl (y_add rfl rfl (show _ = ((i + 1 : Nat) : Int) from by rw [wi64 (by omega) (by omega)]; omega)) rfl ?_
        refine L_y rfl (y_move rfl) rfl ?_
        refine L_nil ?_
        have hz : (gset segs size l seg (ns.take (i + 1))) = (gset segs size l seg (ns.take i)) := by rw [gset_next hx, show liesIn segs size l seg n = false from by unfold liesIn; rw [hq] <;> first | rfl | exact decide_eq_false hin] <;> rfl
        refine ⟨(i + 1, G), ⟨by simp only; omega, ?_⟩, by simp only; omega, ⟨rfl, rfl, rfl, rfl, rfl, rfl, rfl, trivial⟩, ((hsub (.cons_cons _ (.cons_cons _ (.cons_cons _ (.cons_cons _ (.refl _)))))).trans (hsub_pick [1, 0, 0, 0] rfl))⟩
        try simp only
        rw [hz]
        exact hG
    · obtain rfl : i = ns.length := by have := of_decide_eq_false hc1; omega
      refine C_exit ?_
      refine C_seq ?_
      have hgl := hG.len
      obtain ⟨g1, g2, g3, g4⟩ := mayG_spec hm
      have hgb : (gset segs size l seg (ns.take ns.length)).length ≤ ns.length := gset_len ..
      rw [List.take_length] at hgl hgb
      refine C_region ?_
      refine L_y rfl (y_fieldAddr rfl fl_51_1) rfl ?_
      refine L_y rfl (y_load rfl ag_3 (sees 2 0 rfl) rfl) rfl ?_
      refine L_y rfl (y_move rfl) rfl ?_
      refine L_y rfl (y_lenG rfl rfl Try.underlying57 (sees 0 0 rfl)) rfl ?_
      refine L_y rfl (y_sub rfl rfl (wi64 (by omega) (by omega))) rfl ?_
      refine L_y rfl (y_max rfl rfl) rfl ?_
      refine L_y rfl (y_assign rfl) rfl ?_
      refine L_nil ?_
      refine C_ret ?_
      refine B_ret (rv_tmp rfl rv_nil) ((hsub (.cons_cons _ (.cons _ (.cons _ (.cons _ (.refl _)))))).trans (hsub_pick [1] rfl)) ?_
      exact ⟨by rw [hgl]; rfl, rfl⟩

end Go.Proofs.Ytaeooiogjhkjfaa

/- Facts of the translation's types, for the kernel (own work, by a program of this repo). -/
namespace Go.Proofs.Ytaeooiogjhkjfaa
open Go.Sl
theorem ag_79 : isAggT Try.prog 79 = some true := by kernel_rfl
theorem by_156 : byT Try.prog 156 = some 16 := by kernel_rfl
theorem by_79 : byT Try.prog 79 = some 16 := by kernel_rfl
theorem fl_79_0 : fldT Try.prog 79 0 = some 0 := by kernel_rfl
theorem ni_154 : notIntT Try.prog 154 = true := by kernel_rfl
theorem ni_67 : notIntT Try.prog 67 = true := by kernel_rfl
theorem pl_79 : placesT Try.prog 79 = some [(0, 1), (1, 1)] := by kernel_rfl
theorem sz_156 : szT Try.prog 156 = some 2 := by kernel_rfl
theorem zl_156 : zeroL Try.prog 156 = some (List.replicate 2 (.int .i64 0)) := by kernel_rfl
theorem zl_79 : zeroL Try.prog 79 = some ([.int .u64 0, .int .i64 0]) := by kernel_rfl
end Go.Proofs.Ytaeooiogjhkjfaa

/- walks (own work; the walks' lines by a program of this repo). -/
set_option linter.unusedVariables false
set_option linter.unusedSimpArgs false
set_option maxRecDepth 20000
namespace Go.Proofs.Ytaeooiogjhkjfaa
open Go.Sl
attribute [local irreducible] BodyQ WpC WpL WpS WpH OpW FnS


theorem may14_s {w0 : World} {H : Hp} (segs size : Int) : FnS Try.prog w0 45 #[.int .i64 segs, .int .i64 size] H (fun e H' => e = .returned (.bool (mayG segs size)) ∧ H' = H) := by
  refine FnS_intro (n := 19) (rs := [.tmp 4]) (vs := [.int .i64 segs, .int .i64 size]) Try.func45 rfl Try.ntmps45 rfl rfl ?_
  refine C_seq ?_
  refine C_region ?_
  refine L_y rfl (y_assign rfl) rfl ?_
  refine L_nil ?_
  refine C_seq ?_
  refine C_region ?_
  refine L_y rfl (y_move rfl) rfl ?_
  refine L_y rfl (y_geq rfl rfl) rfl ?_
  refine L_y rfl (y_move rfl) rfl ?_
  refine L_case 7 rfl (fun hg1_3 => ?_) (fun hg1_3 => ?_)
  · skip
    refine L_y rfl (y_move rfl) rfl ?_
    refine L_y rfl (y_leq rfl rfl) rfl ?_
    refine L_y rfl (y_pick_t rfl rfl) rfl ?_
    refine L_y rfl (y_move rfl) rfl ?_
    refine L_case 11 rfl (fun hg1_7 => ?_) (fun hg1_7 => ?_)
    · skip
      refine L_y rfl (y_move rfl) rfl ?_
      refine L_y rfl (y_geq rfl rfl) rfl ?_
      refine L_y rfl (y_pick_t rfl rfl) rfl ?_
      refine L_y rfl (y_move rfl) rfl ?_
      refine L_case 15 rfl (fun hg1_11 => ?_) (fun hg1_11 => ?_)
      · skip
        refine L_y rfl (y_move rfl) rfl ?_
        refine L_y rfl (y_leq rfl rfl) rfl ?_
        refine L_y rfl (y_pick_t rfl rfl) rfl ?_
        refine L_y rfl (y_assign rfl) rfl ?_
        refine L_nil ?_
        refine C_ret ?_
        refine B_ret (rv_tmp rfl rv_nil) (HSub.refl _) ?_
        refine ⟨congrArg (fun x => Ending.returned (Value.bool x)) ?_, rfl⟩
        unfold mayG
        simp_all
        try omega
      · skip
        refine L_skip rfl rfl ?_
        refine L_skip rfl rfl ?_
        refine L_y rfl (y_pick_f rfl rfl) rfl ?_
        refine L_y rfl (y_assign rfl) rfl ?_
        refine L_nil ?_
        refine C_ret ?_
        refine B_ret (rv_tmp rfl rv_nil) (HSub.refl _) ?_
        refine ⟨congrArg (fun x => Ending.returned (Value.bool x)) ?_, rfl⟩
        unfold mayG
        simp_all
        try omega
    · skip
      refine L_skip rfl rfl ?_
      refine L_skip rfl rfl ?_
      refine L_y rfl (y_pick_f rfl rfl) rfl ?_
      refine L_y rfl (y_move rfl) rfl ?_
      refine L_skip rfl rfl ?_
      refine L_skip rfl rfl ?_
      refine L_y rfl (y_pick_f rfl rfl) rfl ?_
      refine L_y rfl (y_assign rfl) rfl ?_
      refine L_nil ?_
      refine C_ret ?_
      refine B_ret (rv_tmp rfl rv_nil) (HSub.refl _) ?_
      refine ⟨congrArg (fun x => Ending.returned (Value.bool x)) ?_, rfl⟩
      unfold mayG
      simp_all
      try omega
  · skip
    refine L_skip rfl rfl ?_
    refine L_skip rfl rfl ?_
    refine L_y rfl (y_pick_f rfl rfl) rfl ?_
    refine L_y rfl (y_move rfl) rfl ?_
    refine L_skip rfl rfl ?_
    refine L_skip rfl rfl ?_
    refine L_y rfl (y_pick_f rfl rfl) rfl ?_
    refine L_y rfl (y_move rfl) rfl ?_
    refine L_skip rfl rfl ?_
    refine L_skip rfl rfl ?_
    refine L_y rfl (y_pick_f rfl rfl) rfl ?_
    refine L_y rfl (y_assign rfl) rfl ?_
    refine L_nil ?_
    refine C_ret ?_
    refine B_ret (rv_tmp rfl rv_nil) (HSub.refl _) ?_
    refine ⟨congrArg (fun x => Ending.returned (Value.bool x)) ?_, rfl⟩
    unfold mayG
    simp_all
    try omega

theorem mul_up {sN z s j : Nat} (h1 : sN ≤ 64) (h2 : z ≤ 32) (h3 : s < sN) (h4 : j < z) : s * z + j < 2048 := by
  have a1 : (s + 1) * z ≤ sN * z := Nat.mul_le_mul_right _ h3
  have a2 : sN * z ≤ 64 * 32 := Nat.mul_le_mul h1 h2
  rw [Nat.succ_mul] at a1
  omega

theorem lies14_s {w0 : World} {H : Hp} (sN z : Nat) (hsN : sN ≤ 64) (hz1 : 1 ≤ z) (hz2 : z ≤ 32) : FnS Try.prog w0 100 #[.int .i64 (sN : Int), .int .i64 (z : Int)] H (fun e H' => ∃ g, slOk 2 (some g) (sN * z + 2) (pcs (lieK z (sN * z))) ∧ e = .returned (slV (some g) (sN * z + 2)) ∧ H' = slSeg 156 (some g) (pcs (lieK z (sN * z))) :: H) := by
  refine FnS_intro (n := 28) (rs := [.tmp 4]) (vs := [.int .i64 (sN : Int), .int .i64 (z : Int)]) Try.func100 rfl Try.ntmps100 rfl rfl ?_
  refine C_seq ?_
  refine C_region ?_
  refine L_y rfl (y_assign rfl) rfl ?_
  refine L_nil ?_
  refine C_seq ?_
  refine C_region ?_
  refine L_y rfl (y_buildA (vs := [(0, _), (1, _)]) (l := [.int .i64 (-1), .int .i64 (-1)]) rfl Try.underlying156 sz_3 zl_156 (fill_cons (off := 0) (m := 1) (vs := [_]) rfl rfl rfl (Nat.le_of_ble_eq_true rfl) (fill_cons (off := 1) (m := 1) (vs := [_]) rfl rfl rfl (Nat.le_of_ble_eq_true rfl) rfl))) rfl ?_
  refine L_y rfl (y_buildA (vs := [(0, _), (1, _)]) (l := [.int .i64 (-1), .int .i64 (-1)]) rfl Try.underlying156 sz_3 zl_156 (fill_cons (off := 0) (m := 1) (vs := [_]) rfl rfl rfl (Nat.le_of_ble_eq_true rfl) (fill_cons (off := 1) (m := 1) (vs := [_]) rfl rfl rfl (Nat.le_of_ble_eq_true rfl) rfl))) rfl ?_
  refine L_op rfl (op_buildSlice (vs := [(0, _), (1, _)]) rfl Try.underlying154 sz_156 zl_156 rfl (by decide) (fill_cons (off := 0) (m := 2) (vs := [_, _]) rfl rfl rfl (Nat.le_of_ble_eq_true rfl) (fill_cons (off := 2) (m := 2) (vs := [_, _]) rfl rfl rfl (Nat.le_of_ble_eq_true rfl) rfl)) rfl (fun B1 => ?_))
  refine L_y rfl (y_assign rfl) rfl ?_
  refine L_nil ?_
  refine C_seq ?_
  refine C_seq ?_
  refine C_region ?_
  refine L_y rfl (y_assign rfl) rfl ?_
  refine L_nil ?_
  refine C_block ?_
  refine C_loop (ι := Nat × SlG) (fun s => [(0, .int .i64 (sN : Int)), (1, .int .i64 (z : Int)), (5, slV (some s.2) (s.1 * z + 2)), (6, .int .i64 (s.1 : Int))]) (fun s => slSeg 156 (some s.2) (pcs (lieK z (s.1 * z))) :: H) (fun s => s.1 ≤ sN ∧ slOk 2 (some s.2) (s.1 * z + 2) (pcs (lieK z (s.1 * z)))) (fun s => sN - s.1) (0, ⟨B1, 2, []⟩) ⟨Nat.zero_le _, by rw [Nat.zero_mul]; exact ⟨rfl, rfl, Nat.le_refl _⟩⟩ (by rw [Nat.zero_mul]; exact ⟨rfl, rfl, rfl, rfl, trivial⟩) (by rw [Nat.zero_mul]; exact ((hsub (.cons_cons _ (.refl _))).trans (hsub_pick [0] rfl))) (fun s hs => ?_)
  obtain ⟨s, g⟩ := s
  obtain ⟨hs, hok⟩ := hs
  try simp only at hs hok
  try dsimp only
  refine C_seq ?_
  refine C_seq ?_
  refine C_region ?_
  refine L_y rfl (y_move rfl) rfl ?_
  refine L_y rfl (y_move rfl) rfl ?_
  refine L_y rfl (y_lss rfl rfl) rfl ?_
  refine L_nil ?_
  refine C_cond rfl (fun hc0 => ?_) (fun hc0 => ?_)
  · have hs1 : s < sN := by have := of_decide_eq_true hc0; omega
    refine C_skip ?_
    refine C_seq ?_
    refine C_block ?_
    refine C_seq ?_
    refine C_region ?_
    refine L_y rfl (y_assign rfl) rfl ?_
    refine L_nil ?_
    refine C_block ?_
    refine C_loop (ι := Nat × SlG) (fun j => [(0, .int .i64 (sN : Int)), (1, .int .i64 (z : Int)), (5, slV (some j.2) (s * z + j.1 + 2)), (6, .int .i64 (s : Int)), (7, .int .i64 (j.1 : Int))]) (fun j => slSeg 156 (some j.2) (pcs (lieK z (s * z + j.1))) :: H) (fun j => j.1 ≤ z ∧ slOk 2 (some j.2) (s * z + j.1 + 2) (pcs (lieK z (s * z + j.1)))) (fun j => z - j.1) (0, g) ⟨Nat.zero_le _, hok⟩ ⟨rfl, rfl, rfl, rfl, rfl, trivial⟩ ((hsub (.cons_cons _ (.refl _))).trans (hsub_pick [0] rfl)) (fun j hj => ?_)
    obtain ⟨j, g2⟩ := j
    obtain ⟨hj, hok2⟩ := hj
    try simp only at hj hok2
    try dsimp only
    refine C_seq ?_
    refine C_seq ?_
    refine C_region ?_
    refine L_y rfl (y_move rfl) rfl ?_
    refine L_y rfl (y_move rfl) rfl ?_
    refine L_y rfl (y_lss rfl rfl) rfl ?_
    refine L_nil ?_
    refine C_cond rfl (fun hc1 => ?_) (fun hc1 => ?_)
    · have hj1 : j < z := by have := of_decide_eq_true hc1; omega
      refine C_skip ?_
      refine C_seq ?_
      refine C_block ?_
      refine C_region ?_
      refine L_y rfl (y_move rfl) rfl ?_
      refine L_y rfl (y_move rfl) rfl ?_
      refine L_y rfl (y_move rfl) rfl ?_
      refine L_y rfl (y_buildA (vs := [(0, _), (1, _)]) (l := [.int .i64 (s : Int), .int .i64 (j : Int)]) rfl Try.underlying156 sz_3 zl_156 (fill_cons (off := 0) (m := 1) (vs := [_]) rfl rfl rfl (Nat.le_of_ble_eq_true rfl) (fill_cons (off := 1) (m := 1) (vs := [_]) rfl rfl rfl (Nat.le_of_ble_eq_true rfl) rfl))) rfl ?_
      refine L_op rfl (op_buildSlice (vs := [(0, _)]) rfl Try.underlying154 sz_156 zl_156 rfl (by decide) (fill_one rfl rfl rfl) rfl (fun B2 => ?_))
      refine L_op rfl (op_append (gs := some g2) (len := s * z + j + 2) (m := 1) (xs := pcs (lieK z (s * z + j))) (vs := pcs [((s : Int), (j : Int))]) 1 rfl rfl rfl hok2 (src_slice (sees 0 0 rfl) (Nat.le_of_ble_eq_true rfl) rfl) rfl (ones rfl) Try.underlying154 ni_154 sz_156 by_156 (by decide) zl_156 rfl (by have := mul_up hsN hz2 hs1 hj1; omega) rfl (fun g3 hg3 => ?_))
      rw [← pcs_append, ← lieK_next hj1, show s * z + j + 2 + 1 = s * z + (j + 1) + 2 by omega] at hg3 ⊢
      cases g3 with
      | none => exact slOk_none hg3 (by omega)
      | some g3 => ?_
      refine L_y rfl (y_assign rfl) rfl ?_
      refine L_nil ?_
      refine C_region ?_
      refine L_y rfl (y_move rfl) rfl ?_
      refine L_y rfl (y_add rfl rfl (show _ = ((j + 1 : Nat) : Int) from by rw [wi64 (by omega) (by omega)]; omega)) rfl ?_
      refine L_y rfl (y_assign rfl) rfl ?_
      refine L_nil ?_
      exact ⟨(j + 1, g3), ⟨by simp only; omega, hg3⟩, by simp only; omega, ⟨rfl, rfl, rfl, rfl, rfl, trivial⟩, ((hsub (.cons_cons _ (.cons _ (.refl _)))).trans (hsub_pick [1] rfl))⟩
    · have hj2 : ¬ j < z := by have := of_decide_eq_false hc1; omega
      refine C_exit ?_
      refine C_region ?_
      refine L_y rfl (y_move rfl) rfl ?_
      refine L_y rfl (y_add rfl rfl (show _ = ((s + 1 : Nat) : Int) from by rw [wi64 (by omega) (by omega)]; omega)) rfl ?_
      refine L_y rfl (y_assign rfl) rfl ?_
      refine L_nil ?_
      obtain rfl : j = z := by omega
      have e9 : s * j + j = (s + 1) * j := by rw [Nat.succ_mul]
      rw [e9] at hok2
      refine ⟨(s + 1, g2), ⟨by simp only; omega, hok2⟩, by simp only; omega, ?_⟩
      try dsimp only
      rw [← e9]
      exact ⟨⟨rfl, rfl, rfl, rfl, trivial⟩, ((hsub (.cons_cons _ (.refl _))).trans (hsub_pick [0] rfl))⟩
  · obtain rfl : s = sN := by have := of_decide_eq_false hc0; omega
    refine C_exit ?_
    refine C_seq ?_
    refine C_region ?_
    refine L_y rfl (y_move rfl) rfl ?_
    refine L_y rfl (y_assign rfl) rfl ?_
    refine L_nil ?_
    refine C_ret ?_
    refine B_ret (rv_tmp rfl rv_nil) ((hsub (.cons_cons _ (.refl _))).trans (hsub_pick [0] rfl)) ?_
    exact ⟨g, hok, rfl, rfl⟩

theorem seg18_n {w0 : World} {H : Hp} (segs size a : Int) (hm : mayG segs size = false) : FnS Try.prog w0 84 #[.int .i64 segs, .int .i64 size, .int .i64 a] H (fun e H' => e = .returned (.int .i64 (seg18 segs size a)) ∧ H' = H) := by
  refine FnS_intro (n := 28) (rs := [.tmp 6]) (vs := [.int .i64 segs, .int .i64 size, .int .i64 a]) Try.func84 rfl Try.ntmps84 rfl rfl ?_
  refine C_seq ?_
  refine C_region ?_
  refine L_y rfl (y_assign rfl) rfl ?_
  refine L_nil ?_
  refine C_seq ?_
  refine C_seq ?_
  refine C_region ?_
  refine L_y rfl (y_move rfl) rfl ?_
  refine L_y rfl (y_move rfl) rfl ?_
  refine L_op rfl (op_call rfl rfl (fun a w => Try.call45 a w) rfl ?_)
  refine (may14_s segs size).mono ?_
  rintro _ _ ⟨rfl, e⟩
  obtain rfl := e.symm
  clear e
  rw [hm]
  refine ⟨_, rfl, ?_⟩
  refine L_y rfl (y_not rfl) rfl ?_
  refine L_y rfl (y_move rfl) rfl ?_
  refine L_skip rfl rfl ?_
  refine L_skip rfl rfl ?_
  refine L_y rfl (y_pick_t rfl rfl) rfl ?_
  refine L_nil ?_
  refine C_cond_t rfl ?_
  refine C_seq ?_
  refine C_region ?_
  refine L_y rfl (y_assign rfl) rfl ?_
  refine L_nil ?_
  refine C_ret ?_
  refine B_ret (rv_tmp rfl rv_nil) (HSub.refl _) ?_
  exact ⟨by rw [seg18_no (ofS_no (.inl hm))]; rfl, rfl⟩

theorem seg18_y {w0 : World} {H : Hp} (sN z : Nat) (a : Int) (hm : mayG sN z = true) (hs2 : sN ≤ 64) (hz1 : 1 ≤ z) (hz2 : z ≤ 32) : FnS Try.prog w0 84 #[.int .i64 (sN : Int), .int .i64 (z : Int), .int .i64 a] H (fun e H' => e = .returned (.int .i64 (seg18 sN z a)) ∧ H' = H) := by
  have hmz : sN * z ≤ 64 * 32 := Nat.mul_le_mul hs2 hz2
  have hmi : ((sN * z : Nat) : Int) = (sN : Int) * (z : Int) := Int.natCast_mul ..
  refine FnS_intro (n := 28) (rs := [.tmp 6]) (vs := [.int .i64 (sN : Int), .int .i64 (z : Int), .int .i64 a]) Try.func84 rfl Try.ntmps84 rfl rfl ?_
  refine C_seq ?_
  refine C_region ?_
  refine L_y rfl (y_assign rfl) rfl ?_
  refine L_nil ?_
  refine C_seq ?_
  refine C_seq ?_
  refine C_region ?_
  refine L_y rfl (y_move rfl) rfl ?_
  refine L_y rfl (y_move rfl) rfl ?_
  refine L_op rfl (op_call rfl rfl (fun a w => Try.call45 a w) rfl ?_)
  refine (may14_s sN z).mono ?_
  rintro _ _ ⟨rfl, e⟩
  obtain rfl := e.symm
  clear e
  rw [hm]
  refine ⟨_, rfl, ?_⟩
  refine L_y rfl (y_not rfl) rfl ?_
  refine L_y rfl (y_move rfl) rfl ?_
  refine L_y rfl (y_move rfl) rfl ?_
  refine L_y rfl (y_lss rfl rfl) rfl ?_
  refine L_y rfl (y_pick_f rfl rfl) rfl ?_
  refine L_nil ?_
  refine C_cond rfl (fun hc0 => ?_) (fun hc0 => ?_)
  · replace hc0 : a < 0 := of_decide_eq_true hc0
    refine C_seq ?_
    refine C_region ?_
    refine L_y rfl (y_assign rfl) rfl ?_
    refine L_nil ?_
    refine C_ret ?_
    refine B_ret (rv_tmp rfl rv_nil) (hsub (.refl _)) ?_
    refine ⟨?_, rfl⟩
    first
    | (rw [seg18_no (ofS_no (by omega))]; rfl)
    | (by_cases h2 : i < 2
       · rw [seg18_no (ofS_no (by omega)), if_pos h2]; rfl
       · rw [if_neg h2]
         have e5 : (((i - 2) / z : Nat) : Int) = ((i : Int) - 2) / (z : Int) := by
           rw [Int.natCast_ediv]
           congr 1
           omega
         unfold seg18
         rw [ofS_yes hm (by omega) (by omega)]
         simp only [e5]
         rfl)
  · replace hc0 : ¬ a < 0 := of_decide_eq_false hc0
    refine C_skip ?_
    refine C_seq ?_
    refine C_region ?_
    refine L_y rfl (y_move rfl) rfl ?_
    refine L_y rfl (y_move rfl) rfl ?_
    refine L_op rfl (op_call rfl rfl (fun a w => Try.call100 a w) rfl ?_)
    refine (lies14_s sN z hs2 hz1 hz2).mono ?_
    rintro _ _ ⟨g, hok, rfl, rfl⟩
    refine ⟨_, rfl, ?_⟩
    refine L_y rfl (y_assign rfl) rfl ?_
    refine L_nil ?_
    refine C_seq ?_
    refine C_seq ?_
    refine C_region ?_
    refine L_y rfl (y_move rfl) rfl ?_
    refine L_y rfl (y_move rfl) rfl ?_
    refine L_y rfl (y_lenS rfl rfl Try.underlying154) rfl ?_
    refine L_y rfl (y_geq rfl rfl) rfl ?_
    refine L_nil ?_
    refine C_cond rfl (fun hc1 => ?_) (fun hc1 => ?_)
    · replace hc1 : ((sN * z + 2 : Nat) : Int) ≤ a := of_decide_eq_true hc1
      refine C_seq ?_
      refine C_region ?_
      refine L_y rfl (y_assign rfl) rfl ?_
      refine L_nil ?_
      refine C_ret ?_
      refine B_ret (rv_tmp rfl rv_nil) (hsub (.cons _ (.refl _))) ?_
      refine ⟨?_, rfl⟩
      first
      | (rw [seg18_no (ofS_no (by omega))]; rfl)
      | (by_cases h2 : i < 2
         · rw [seg18_no (ofS_no (by omega)), if_pos h2]; rfl
         · rw [if_neg h2]
           have e5 : (((i - 2) / z : Nat) : Int) = ((i : Int) - 2) / (z : Int) := by
             rw [Int.natCast_ediv]
             congr 1
             omega
           unfold seg18
           rw [ofS_yes hm (by omega) (by omega)]
           simp only [e5]
           rfl)
    · replace hc1 : ¬ ((sN * z + 2 : Nat) : Int) ≤ a := of_decide_eq_false hc1
      obtain ⟨i, rfl⟩ : ∃ i : Nat, a = i := ⟨a.toNat, by omega⟩
      have hat := lieK_at (z := z) (k := sN * z) (i := i) (by omega)
      refine C_skip ?_
      refine C_seq ?_
      refine C_region ?_
      refine L_y rfl (y_move rfl) rfl ?_
      refine L_y rfl (y_move rfl) rfl ?_
      refine L_y rfl (y_indexS rfl rfl Try.underlying154 sz_156 (by omega) (by omega) (show _ = i * 2 from by simp)) rfl ?_
      refine L_y rfl (y_indexA rfl rfl Try.underlying156 sz_3 (by omega) (by omega) (show _ = i * 2 from by simp)) rfl ?_
      refine L_y rfl (y_load rfl ag_3 (sees 0 0 rfl) (pcs_at hat)) rfl ?_
      refine L_y rfl (y_assign rfl) rfl ?_
      refine L_nil ?_
      refine C_ret ?_
      refine B_ret (rv_tmp rfl rv_nil) (hsub (.cons _ (.refl _))) ?_
      refine ⟨?_, rfl⟩
      first
      | (rw [seg18_no (ofS_no (by omega))]; rfl)
      | (by_cases h2 : i < 2
         · rw [seg18_no (ofS_no (by omega)), if_pos h2]; rfl
         · rw [if_neg h2]
           have e5 : (((i - 2) / z : Nat) : Int) = ((i : Int) - 2) / (z : Int) := by
             rw [Int.natCast_ediv]
             congr 1
             omega
           unfold seg18
           rw [ofS_yes hm (by omega) (by omega)]
           simp only [e5]
           rfl)

theorem seg18_s {w0 : World} {H : Hp} (segs size a : Int) : FnS Try.prog w0 84 #[.int .i64 segs, .int .i64 size, .int .i64 a] H (fun e H' => e = .returned (.int .i64 (seg18 segs size a)) ∧ H' = H) := by
  cases hm : mayG segs size with
  | false => exact seg18_n segs size a hm
  | true =>
    obtain ⟨s, z, rfl, rfl, h1, h2, h3, h4⟩ := may_nat hm
    exact seg18_y s z a hm h2 h3 h4

end Go.Proofs.Ytaeooiogjhkjfaa

/- Plain laws for the statements on devices (own work). -/
set_option linter.unusedVariables false
set_option linter.unusedSimpArgs false
namespace Go.Sl
/-! ### DeviceTears -/
def tq (m : Nat) : List (Nat × Sec) := (List.range m).map fun j => (j, secOf (UInt8.ofNat (j + 1)))
def tearA (K B m : Nat) : Ab := { (Ab.new 12).tear K B with Q := tq m }
def tearS (K B m : Nat) : List Sec := cutN (tearA K B m) m
def tsec (K B m i : Nat) : Sec := if i < m then (if i < K then secOf (UInt8.ofNat (i + 1)) else if i = K then (secOf (UInt8.ofNat (i + 1))).take (min B 128) ++ (secOf 0).drop (min B 128) else secOf 0) else secOf 0
def tbyte (K B m i j : Nat) : UInt8 := if i < m ∧ (i < K ∨ i = K ∧ j < B) then UInt8.ofNat (i + 1) else 0
/-! ### DeviceRots -/
abbrev q0 : Pa := ⟨false, 0, false⟩
def rq (c : UInt8) (m : Nat) : List (Nat × Sec) := (List.range m).map fun j => (j, secOf c)
def rotA (c : UInt8) (m : Nat) : Ab := { Ab.new 6 with Q := rq c m }
def rotS (c : UInt8) : List Sec := List.replicate 6 (secOf c)
def rotF (c : UInt8) : Ab := { Ab.new 6 with S := rotS c }
def rotT (c : UInt8) (n k : Nat) (m : UInt8) : List Sec := (rotS c).set n ((secOf c).set k (c ^^^ m))
def rotG (c : UInt8) (n k : Nat) (m : UInt8) : Ab := { rotF c with S := rotT c n k m }
def rbyte (c : UInt8) (n k : Nat) (m : UInt8) (i j : Nat) : UInt8 := if i = n ∧ j = k then c ^^^ m else c
/-! ### DeviceApart -/
def apS (c : UInt8) (K : Nat) : List Sec := (List.replicate K (secOf 0)).set 0 (secOf c)
def apF (c : UInt8) (K : Nat) : Ab := { Ab.new K with S := apS c K }
/-! ### Deeds -/
structure DeedM where
  on : Int
  kind : Int
  n : Int
  m : Int
  c : UInt8
def dcells (x : DeedM) : List Value := [.int .i64 x.on, .int .i64 x.kind, .int .i64 x.n, .int .i64 x.m, .int .u8 (x.c.toNat : Int)]
def deeds (ds : List DeedM) : List Value := (ds.map dcells).flatten
/-! ### What a flush makes stable is what was read -/
theorem lastW_snoc (Q : List (Nat × Sec)) (x : Nat × Sec) (k : Nat) : lastW (Q ++ [x]) k = if x.1 = k then some x.2 else lastW Q k := by
  unfold lastW
  rw [List.reverse_append, List.reverse_singleton, List.singleton_append, List.find?_cons]
  by_cases h : x.1 = k
  · simp [h]
  · have : (x.1 == k) = false := by simpa using h
    simp [h, this]
theorem flushN_get {a : Ab} (h : a.ok) {k : Nat} (hk : k < a.S.length) : ∀ m, m ≤ a.Q.length → (flushN a m)[k]? = some ((lastW (a.Q.take m) k).getD (a.S.getD k []))
  | 0, _ => by
    show a.S[k]? = _
    rw [List.take_zero, show lastW [] k = none from rfl, Option.getD_none]
    simp [List.getD, hk]
  | m + 1, hm => by
    have ih := flushN_get h hk m (by omega)
    obtain ⟨x, hx⟩ : ∃ x, a.Q[m]? = some x := ⟨_, List.getElem?_eq_getElem (by omega)⟩
    rw [flushN_s hx, show a.Q.take (m + 1) = a.Q.take m ++ [x] from by rw [List.take_add_one, hx]; rfl, lastW_snoc]
    by_cases e : x.1 = k
    · subst e
      rw [List.getElem?_set_self (by rw [(flushN_ok h m).2]; exact hk), if_pos rfl]; rfl
    · rw [List.getElem?_set_ne e, if_neg e, ih]
/-! ### DeviceLies -/
def okN (x : DeedM) : Prop := 0 ≤ x.n ∧ x.n < 20
instance (x : DeedM) : Decidable (okN x) := inferInstanceAs (Decidable (0 ≤ x.n ∧ x.n < 20))
def wq1 (x : DeedM) : List (Nat × Sec) := if okN x then [(x.n.toNat, secOf x.c)] else []
def lq (ds : List DeedM) (i : Nat) : List (Nat × Sec) := (ds.take i).flatMap wq1
def S20 : List Sec := List.replicate 20 (secOf 0)
def lA (ds : List DeedM) (i : Nat) : Ab := ⟨S20, lq ds i, 0, 0, true, false⟩
def nowS (ds : List DeedM) (k : Nat) : List Sec := (List.range k).map (lA ds ds.length).read
def lC (ds : List DeedM) : Ab := ⟨nowS ds 20, [], 0, 0, false, false⟩
/-! ### DeviceReads, DeviceFlushes: what is read behind a write, behind a flush -/
theorem read_push (a : Ab) (n : Nat) (s : Sec) (k : Nat) : (a.push n s).read k = if n = k then s else a.read k := by
  simp only [Ab.read, Ab.push, lastW_snoc]
  by_cases h : n = k
  · simp [h]
  · simp [h]
theorem read_flush {a : Ab} (h : a.ok) (hl : a.lies = false) {k : Nat} (hk : k < a.S.length) : a.flush.read k = a.read k := by
  have e := flushN_get h hk a.Q.length (Nat.le_refl _)
  rw [List.take_length] at e
  simp only [Ab.flush, hl, Bool.false_eq_true, if_false, Ab.read, show lastW [] k = none from rfl, Option.getD_none, List.getD, e, Option.getD_some]
theorem has_flush {a : Ab} (h : a.ok) (hl : a.lies = false) : a.flush.S.length = a.S.length := by
  simp only [Ab.flush, hl, Bool.false_eq_true, if_false, (flushN_ok h _).2]
/-- A device that is whole and is read as W. -/
structure RdW (K : Nat) (W : List Sec) (a : Ab) (m : Nat) : Prop where
  ok : a.ok
  len : a.S.length = K
  out : a.out = false
  lies : a.lies = false
  many : a.Q.length ≤ m
  wlen : W.length = K
  read : ∀ k s, W[k]? = some s → a.read k = s
theorem RdW.new {K : Nat} (h : K ≤ 4096) : RdW K (List.replicate K (secOf 0)) (Ab.new K) 0 := ⟨Ab.new_ok h, by simp [Ab.new], rfl, rfl, Nat.le_refl _, by simp, fun k s hs => by
  have : k < K := by have := (List.getElem?_eq_some_iff.1 hs).1; simpa using this
  rw [List.getElem?_replicate, if_pos this] at hs; cases hs
  simp [Ab.read, Ab.new, lastW, List.getD, this]⟩
theorem RdW.write {K n m : Nat} {W : List Sec} {a : Ab} {s : Sec} (h : RdW K W a m) (hn : n < K) (hs : s.length = 128) : RdW K (W.set n s) (a.push n s) (m + 1) := by
  obtain ⟨h1, h2, h3, h4, h5, h6, h7⟩ := h
  refine ⟨⟨h1.1, h1.2.1, fun x hx => ?_, h1.2.2.2⟩, h2, h3, h4, by simp [Ab.push]; omega, by simpa using h6, fun k t ht => ?_⟩
  · rcases List.mem_append.1 hx with hx | hx
    · exact h1.2.2.1 x hx
    · simp at hx; subst hx; exact ⟨by simp only [Ab.push]; omega, hs⟩
  · rw [read_push]
    by_cases e : n = k
    · subst e
      rw [List.getElem?_set_self (by omega)] at ht; cases ht; simp
    · rw [List.getElem?_set_ne e] at ht
      rw [if_neg e]; exact h7 k t ht
theorem RdW.flush {K m : Nat} {W : List Sec} {a : Ab} (h : RdW K W a m) : RdW K W a.flush 0 := by
  obtain ⟨h1, h2, h3, h4, h5, h6, h7⟩ := h
  refine ⟨Ab.flush_ok h1, by rw [has_flush h1 h4, h2], by simp [Ab.flush, h4, h3], by simp [Ab.flush, h4], by simp [Ab.flush, h4], h6, fun k t ht => ?_⟩
  rw [read_flush h1 h4 (by have := (List.getElem?_eq_some_iff.1 ht).1; omega)]
  exact h7 k t ht
theorem RdW.has {K m : Nat} {W : List Sec} {a : Ab} (h : RdW K W a m) (n : Int) : a.has n = (decide (0 ≤ n) && decide (n < K)) := by simp only [Ab.has, h.len]
theorem RdW.writes {K m : Nat} {W : List Sec} {a : Ab} (h : RdW K W a m) (n : Int) (s : Sec) : writeE a q0 n = (if 0 ≤ n ∧ n < K then 0 else 2) ∧ writeA a q0 n s = (if 0 ≤ n ∧ n < K then a.push n.toNat s else a) ∧ writeP a q0 n = q0 := by
  have hd : a.down q0 = false := by simp [Ab.down, h.out]
  have hf : q0.falls = false := rfl
  simp only [writeE, writeA, writeP, wgo, hd, h.has, hf, Ab.step, Bool.not_false, Bool.true_and, Bool.false_eq_true, if_false]
  by_cases hn : 0 ≤ n ∧ n < K
  · simp [hn]; rfl
  · have : (decide (0 ≤ n) && decide (n < (K : Int))) = false := by simp; omega
    simp [this, hn]
theorem RdW.reads {K m k : Nat} {W : List Sec} {a : Ab} {s : Sec} (h : RdW K W a m) (hk : W[k]? = some s) : readS a q0 (k : Int) = s ∧ readE a q0 (k : Int) = 0 := by
  have hd : a.down q0 = false := by simp [Ab.down, h.out]
  have hlt : k < K := by have := (List.getElem?_eq_some_iff.1 hk).1; have := h.wlen; omega
  have hh : a.has (k : Int) = true := by rw [h.has]; simp; omega
  simp only [readS, readE, hd, hh, Bool.false_eq_true, if_false, if_true, Int.toNat_natCast, and_true]
  exact h.read k s hk
theorem RdW.mono {K m m' : Nat} {W : List Sec} {a : Ab} (h : RdW K W a m) (hm : m ≤ m') : RdW K W a m' := ⟨h.ok, h.len, h.out, h.lies, Nat.le_trans h.many hm, h.wlen, h.read⟩
/-! ### DeviceFlushes -/
theorem RdW.stable {K : Nat} {W : List Sec} {a : Ab} (h : RdW K W a 0) : a.Q = [] ∧ a.S = W := by
  have hq : a.Q = [] := List.eq_nil_of_length_eq_zero (Nat.le_zero.1 h.many)
  refine ⟨hq, ?_⟩
  apply List.ext_getElem?
  intro k
  by_cases hk : k < K
  · have h1 : a.read k = W[k]'(by rw [h.wlen]; exact hk) := h.read k _ (List.getElem?_eq_getElem _)
    rw [List.getElem?_eq_getElem (show k < W.length from by rw [h.wlen]; exact hk), ← h1]
    simp only [Ab.read, hq, show lastW [] k = none from rfl, Option.getD_none, List.getD]
    rw [List.getElem?_eq_getElem (by rw [h.len]; exact hk)]; rfl
  · rw [List.getElem?_eq_none (by rw [h.len]; omega), List.getElem?_eq_none (by rw [h.wlen]; omega)]
abbrev qF : Pa := ⟨false, 0, true⟩
abbrev qX : Pa := ⟨true, 0, false⟩
/-- Power fails at a flush of what is flushed: nothing changes. -/
theorem RdW.fails {K : Nat} {W : List Sec} {a : Ab} (h : RdW K W a 0) (k m : Int) : flushE (a.tear k m) qF = 13 ∧ flushA (a.tear k m) qF = a.tear k m ∧ flushP (a.tear k m) qF = qX := by
  obtain ⟨hq, hs⟩ := h.stable
  have hd : (a.tear k m).down qF = false := by simp [Ab.down, Ab.tear, h.out]
  have hf : qF.falls = true := rfl
  have hc : (a.tear k m).cut = a.tear k m := by
    have ho : (a.tear k m).out = false := h.out
    have hq2 : (a.tear k m).Q = [] := hq
    generalize a.tear k m = y at ho hq2
    cases y
    simp only at ho hq2
    subst ho; subst hq2
    rfl
  simp only [flushE, flushA, flushP, hd, hf, hc, Bool.false_eq_true, if_false, if_true, true_and]
  rfl
theorem RdW.tear {K m : Nat} {W : List Sec} {a : Ab} (h : RdW K W a m) (k b : Int) : RdW K W (a.tear k b) m := ⟨Ab.tear_ok h.ok, h.len, h.out, h.lies, h.many, h.wlen, h.read⟩
end Go.Sl

/- Two devices, of one power or each of its own: one segment in memory, one abstract state (own work). -/
set_option linter.unusedVariables false
set_option linter.unusedSimpArgs false
namespace Go.Sl
structure Duo where
  x : Dv
  y : Dv
  p : Pw
  q : Option Pw
/-- The abstract state: two devices, a power, and the second one's own power. -/
structure Da where
  a : Ab
  b : Ab
  p : Pa
  q : Option Pa
def Duo.qs (t : DT) : Option Pw → Hp
  | none => []
  | some q => [q.o t, q.q t]
def Duo.hp (t : DT) (D : Duo) : Hp := [D.x.o t, D.x.t t, D.x.q t, D.p.o t, D.p.q t, D.y.o t, D.y.t t, D.y.q t] ++ Duo.qs t D.q
def Duo.seg (t : DT) (D : Duo) : List (Nat × Obj) := (D.hp t).flatten
def Duo.dev (D : Duo) : Bool → Dv
  | false => D.x
  | true => D.y
def Duo.pow (D : Duo) : Bool → Pw
  | false => D.p
  | true => D.q.getD D.p
def Duo.da (D : Duo) : Da := ⟨D.x.a, D.y.a, D.p.a, D.q.map (·.a)⟩
def Duo.ok (t : DT) (D : Duo) : Prop := match D.q with
  | none => GOk t D.p [] D.x [D.y]
  | some q => GOk t D.p [] D.x [] ∧ GOk t q [] D.y []
def Da.dev (A : Da) : Bool → Ab
  | false => A.a
  | true => A.b
def Da.pow (A : Da) : Bool → Pa
  | false => A.p
  | true => A.q.getD A.p
def Da.setd (A : Da) (i : Bool) (x : Ab) : Da := match i with
  | false => { A with a := x }
  | true => { A with b := x }
def Da.setp (A : Da) (i : Bool) (x : Pa) : Da := match i, A.q with
  | true, some _ => { A with q := some x }
  | _, _ => { A with p := x }
/-- The other device of the same power, behind an operation that was counted (c) or not. -/
def Da.oth (A : Da) (i c : Bool) : Da := if c && A.q.isNone then A.setd (!i) ((A.dev (!i)).step (A.pow i)) else A
def Da.write (A : Da) (i : Bool) (n : Int) (s : Sec) : Da := ((A.oth i (wgo (A.dev i) (A.pow i) n)).setd i (writeA (A.dev i) (A.pow i) n s)).setp i (writeP (A.dev i) (A.pow i) n)
def Da.flush (A : Da) (i : Bool) : Da := ((A.oth i (!(A.dev i).down (A.pow i))).setd i (flushA (A.dev i) (A.pow i))).setp i (flushP (A.dev i) (A.pow i))
def Da.wE (A : Da) (i : Bool) (n : Int) : Int := writeE (A.dev i) (A.pow i) n
def Da.fE (A : Da) (i : Bool) : Int := flushE (A.dev i) (A.pow i)
def Da.rS (A : Da) (i : Bool) (n : Int) : Sec := readS (A.dev i) (A.pow i) n
def Da.rE (A : Da) (i : Bool) (n : Int) : Int := readE (A.dev i) (A.pow i) n
theorem Duo.da_dev (D : Duo) (i : Bool) : (D.dev i).a = D.da.dev i := by cases i <;> rfl
theorem Duo.da_pow (D : Duo) (i : Bool) : (D.pow i).a = D.da.pow i := by
  obtain ⟨x, y, p, q⟩ := D
  cases i <;> cases q <;> rfl
theorem Duo.flat (t : DT) (D : Duo) (H : Hp) : (D.hp t ++ H).flatten = (D.seg t :: H).flatten := by rw [List.flatten_append]; rfl
theorem Duo.pick (t : DT) (D : Duo) {H Y : Hp} (is : List Nat) (e : pick is (D.hp t ++ H) = Y) : Y.flatten.Perm (D.seg t :: H).flatten := by
  subst e
  rw [← Duo.flat]
  exact (pick_perm is _).flatten.symm
/-- Two devices, at such blocks, of such an abstract state. -/
structure Two (t : DT) (D : Duo) (A : Da) (bx bys bp : Nat) : Prop where
  ok : D.ok t
  da : D.da = A
  x : D.x.b = bx
  y : D.y.b = bys
  p : D.p.b = bp
abbrev sel (bx bys : Nat) (i : Bool) : Nat := if i then bys else bx
theorem Two.b {t : DT} {D : Duo} {A : Da} {bx bys bp : Nat} (h : Two t D A bx bys bp) (i : Bool) : (D.dev i).b = sel bx bys i := by
  cases i
  · exact h.x
  · exact h.y
theorem Two.dev {t : DT} {D : Duo} {A : Da} {bx bys bp : Nat} (h : Two t D A bx bys bp) (i : Bool) : (D.dev i).a = A.dev i := by rw [D.da_dev, h.da]
theorem Two.pow {t : DT} {D : Duo} {A : Da} {bx bys bp : Nat} (h : Two t D A bx bys bp) (i : Bool) : (D.pow i).a = A.pow i := by rw [D.da_pow, h.da]
theorem Two.to {t : DT} {D : Duo} {A B : Da} {bx bys bp : Nat} (h : Two t D A bx bys bp) (e : A = B) : Two t D B bx bys bp := e ▸ h
/-- Power that doesn't fail. -/
def Da.calm (A : Da) : Prop := A.p.off = false ∧ A.p.fails = false ∧ ∀ q, A.q = some q → q.off = false ∧ q.fails = false
end Go.Sl

/- A mirror: what lies in memory, and the plain model (own work). -/
set_option linter.unusedVariables false
set_option linter.unusedSimpArgs false
namespace Go.Sl
section
variable {P : Program} {n : FN} {w0 : World} {Q : Post} {E E' : Env} {H H' HS : Hp} {K : Env → Hp → Prop}
variable {d : Option Nat} {ty t t2 : Nat} {ps : String} {af : Array Edge} {g : Option (Nat × Bool)} {x y c : Operand}
end
structure Mi where
  b : Nat
  r0 : Nat
  r1 : Nat
  bx : Nat
  bys : Nat
  n : Nat
  gv : Value
  k0 : List (Int × Nat)
  c0 : Nat
  k1 : List (Int × Nat)
  c1 : Nat
abbrev Mi.cells (m : Mi) : List Value := [ptr m.bx, .map (some m.r0), ptr m.bys, .map (some m.r1), .int .i64 (m.n : Int), m.gv]
abbrev Mi.seg (t : Nat) (m : Mi) : List (Nat × Obj) := [(m.b, .cells m.cells.toArray t), (m.r0, mapO m.k0 m.c0), (m.r1, mapO m.k1 m.c1)]
def Mi.has (m : Mi) (n : Int) : Bool := decide (0 ≤ n) && decide (n < m.n)
/-- Is a device there? -/
def thr (A : Da) (i : Bool) : Bool := !(A.dev i).down (A.pow i)
def pres (p q : Bool) : List Int := (if p then [0] else []) ++ (if q then [1] else [])
def intl (l : List Int) : List Value := l.map (Value.int .i64)
/-- A function that tells which sectors may stand where. -/
def GoodAt (P : Program) (w0 : World) (H : Hp) (gv : Value) (p : Int → Sec → Bool) : Prop :=
  (gv = .nilFunc ∧ p = fun _ _ => false) ∨ ∃ f cap, gv = .func (.func f) #[] (List.toArray cap) ∧ (∀ args w, (callFunc f args).run P w = .ok (.enter f args) w) ∧
    ∀ H' n s, HSub H H' → s.length = 128 → FnS P w0 f ([Value.int .i64 n, Value.agg (bs s).toArray] ++ cap).toArray H' (fun e H2 => e = .returned (.bool (p n s)) ∧ H2 = H')
theorem GoodAt.sub {P : Program} {w0 : World} {H H' : Hp} {gv : Value} {p : Int → Sec → Bool} (h : GoodAt P w0 H gv p) (hs : HSub H H') : GoodAt P w0 H' gv p := by
  rcases h with h | ⟨f, cap, h1, h2, h3⟩
  · exact .inl h
  · exact .inr ⟨f, cap, h1, h2, fun H2 n s hs2 hl => h3 H2 n s (hs.trans hs2) hl⟩
/-- Does the side i tell what stands at n? -/
def okAt (A : Da) (i : Bool) (ks : List (Int × Nat)) (p : Int → Sec → Bool) (n : Int) : Bool := decide (A.rE i n = 0) && !kHas ks n && p n (A.rS i n)
def mrE (m : Mi) (A : Da) (p : Int → Sec → Bool) (n : Int) : Int :=
  if m.has n then (if thr A false || thr A true then (if thr A false && okAt A false m.k0 p n then 0 else if thr A true && okAt A true m.k1 p n then 0 else 9) else 13) else 2
def mrS (m : Mi) (A : Da) (p : Int → Sec → Bool) (n : Int) : Sec :=
  if m.has n then (if thr A false && okAt A false m.k0 p n then A.rS false n else if thr A true && okAt A true m.k1 p n then A.rS true n else secOf 0) else secOf 0
/-! ### Writes to both -/
def pd (A : Da) (i : Bool) (ask : Da → Bool → Bool) (n : Int) : Bool := thr A i && (!ask A i || decide (A.wE i n = 0))
def pA (A : Da) (i : Bool) (ask : Da → Bool → Bool) (n : Int) (s : Sec) : Da := if thr A i && ask A i then A.write i n s else A
def putA (A : Da) (ask : Da → Bool → Bool) (n : Int) (s : Sec) : Da := pA (pA A false ask n s) true ask n s
def putD (A : Da) (ask : Da → Bool → Bool) (n : Int) (s : Sec) : Bool → Bool
  | false => pd A false ask n
  | true => pd (pA A false ask n s) true ask n
def Mi.mark (m : Mi) (n : Int) (x y : Bool) : Mi := { m with
  k0 := if x then kDel m.k0 n else kPut m.k0 m.c0 n, c0 := if x then m.c0 else kClk m.k0 m.c0 n
  k1 := if y then kDel m.k1 n else kPut m.k1 m.c1 n, c1 := if y then m.c1 else kClk m.k1 m.c1 n }
def putm (m : Mi) (A : Da) (ask : Da → Bool → Bool) (n : Int) (s : Sec) : Mi := if m.has n && (putD A ask n s false || putD A ask n s true) then m.mark n (putD A ask n s false) (putD A ask n s true) else m
def putE (m : Mi) (A : Da) (ask : Da → Bool → Bool) (n : Int) (s : Sec) : Int := if m.has n then (if putD A ask n s false || putD A ask n s true then 0 else 13) else 2
def putDa (m : Mi) (A : Da) (ask : Da → Bool → Bool) (n : Int) (s : Sec) : Da := if m.has n then putA A ask n s else A
/-- A function that tells whether a side is asked for it. -/
def AskAt (P : Program) (t : DT) (tm : Nat) (w0 : World) (H : Hp) (m : Mi) (bp : Nat) (fa : Nat) (cap : List Value) (ask : Da → Bool → Bool) : Prop :=
  (∀ args w, (callFunc fa args).run P w = .ok (.enter fa args) w) ∧ ∀ (i : Bool) D A X, Two t D A m.bx m.bys bp → HSub H X →
    FnS P w0 fa ([Value.pointer (some ⟨m.b, if i then 2 else 0, none⟩)] ++ cap).toArray (m.seg tm :: D.seg t :: X) (fun e H2 => e = .returned (.bool (ask A i)) ∧ H2 = m.seg tm :: D.seg t :: X)
theorem AskAt.sub {P : Program} {t : DT} {tm : Nat} {w0 : World} {H H' : Hp} {m : Mi} {bp fa : Nat} {cap : List Value} {ask : Da → Bool → Bool} (h : AskAt P t tm w0 H m bp fa cap ask) (hs : HSub H H') : AskAt P t tm w0 H' m bp fa cap ask :=
  ⟨h.1, fun i D A X h1 h2 => h.2 i D A X h1 (hs.trans h2)⟩
def askAll : Da → Bool → Bool := fun _ _ => true
def askNew (n : Int) (s : Sec) : Da → Bool → Bool := fun A i => !decide (A.rE i n = 0) || !decide (A.rS i n = s)
/-! ### A flush of both -/
def fl1 (q : Da × Int) (i : Bool) : Da × Int := (q.1.flush i, if q.1.fE i = 0 then q.2 else 13)
def mfl (A : Da) : Da × Int :=
  if thr A false then (if thr A true then fl1 (fl1 (A, 0) false) true else fl1 (A, 0) false) else (if thr A true then fl1 (A, 0) true else (A, 13))
/-! ### Heal -/
def hg0 (m : Mi) (A : Da) (p : Int → Sec → Bool) (n : Int) : Bool := !kHas m.k0 n && p n (A.rS false n)
def hg1 (m : Mi) (A : Da) (p : Int → Sec → Bool) (n : Int) : Bool := !kHas m.k1 n && p n (A.rS true n)
/-- What is done: none, or a write to a side. -/
def healTo (m : Mi) (A : Da) (p : Int → Sec → Bool) (n : Int) : Option Bool :=
  if m.has n && (thr A false && thr A true) then
    (if hg0 m A p n then (if hg1 m A p n && decide (A.rS false n = A.rS true n) then none else some true) else if hg1 m A p n then some false else none)
  else none
def healR (m : Mi) (A : Da) (p : Int → Sec → Bool) (n : Int) : Int × Int :=
  if m.has n then (if thr A false && thr A true then
    (if hg0 m A p n then (if hg1 m A p n && decide (A.rS false n = A.rS true n) then (0, 0) else (1, 0)) else if hg1 m A p n then (1, 0) else (2, 0))
  else (0, 13)) else (0, 2)
def healA (m : Mi) (A : Da) (p : Int → Sec → Bool) (n : Int) : Da := match healTo m A p n with
  | none => A
  | some i => A.write i n (A.rS (!i) n)
def healM (m : Mi) (A : Da) (p : Int → Sec → Bool) (n : Int) : Mi := match healTo m A p n with
  | none => m
  | some i => if A.wE i n = 0 then (if i then { m with k1 := kDel m.k1 n } else { m with k0 := kDel m.k0 n }) else m
/-! ### Both -/
def bothS (m : Mi) (A : Da) (p : Int → Sec → Bool) (n : Int) : List Sec :=
  if m.has n then (if thr A false && (decide (A.rE false n = 0) && p n (A.rS false n)) then [A.rS false n] else []) ++ (if thr A true && (decide (A.rE true n = 0) && p n (A.rS true n)) then [A.rS true n] else []) else []
/-! ### A new mirror -/
/-- What is stale of a side of which so many places were looked at. -/
def stN (j : Nat) : List (Int × Nat) := (List.range j).map fun (i : Nat) => ((i : Int), i)
def stale0 (t : Bool) (n : Nat) : List (Int × Nat) := if t then [] else stN n
def mnew (A : Da) (bx bys : Nat) (gv : Value) (b r0 r1 : Nat) : Mi :=
  ⟨b, r0, r1, bx, bys, min A.a.S.length A.b.S.length, gv, stale0 (thr A false) (min A.a.S.length A.b.S.length), (if thr A false then 0 else min A.a.S.length A.b.S.length), stale0 (thr A true) (min A.a.S.length A.b.S.length), (if thr A true then 0 else min A.a.S.length A.b.S.length)⟩
end Go.Sl

/- walks (own work; the walks' lines by a program of this repo). -/
set_option linter.unusedVariables false
set_option linter.unusedSimpArgs false
set_option maxRecDepth 20000
namespace Go.Proofs.Ytaeooiogjhkjfaa
open Go.Sl
attribute [local irreducible] BodyQ WpC WpL WpS WpH OpW FnS


theorem find18_y {w0 : World} {H : Hp} {l : Xl} {g : SlG} (hok : slOk 2 (some g) l.length (lcs l)) (hl : l.length < 1000000) (n : Nat) : FnS Try.prog w0 38 #[slV (some g) l.length, .int .u64 (n : Int)] (slSeg 79 (some g) (lcs l) :: H) (fun e H' => e = .returned (.int .i64 (fnd l n)) ∧ H' = slSeg 79 (some g) (lcs l) :: H) := by
  refine FnS_intro (n := 20) (rs := [.tmp 4]) (vs := [slV (some g) l.length, .int .u64 (n : Int)]) Try.func38 rfl Try.ntmps38 rfl rfl ?_
  refine C_seq ?_
  refine C_region ?_
  refine L_y rfl (y_assign rfl) rfl ?_
  refine L_nil ?_
  refine C_seq ?_
  refine C_seq ?_
  refine C_region ?_
  refine L_y rfl (y_assign rfl) rfl ?_
  refine L_nil ?_
  refine C_block ?_
  refine C_loop (ι := Nat) (fun i => [(0, slV (some g) l.length), (1, .int .u64 (n : Int)), (5, .int .i64 (i : Int))]) (fun i => slSeg 79 (some g) (lcs l) :: H) (fun i => i ≤ l.length ∧ ∀ j y, j < i → l[j]? = some y → y.1 ≠ n) (fun i => l.length - i) 0 ⟨Nat.zero_le _, fun j y hj => absurd hj (by omega)⟩ ⟨rfl, rfl, rfl, trivial⟩ ((hsub (.cons_cons _ (.refl _))).trans (hsub_pick [0] rfl)) (fun i hi => ?_)
  obtain ⟨hi, hno⟩ := hi
  refine C_seq ?_
  refine C_seq ?_
  refine C_region ?_
  refine L_y rfl (y_move rfl) rfl ?_
  refine L_y rfl (y_move rfl) rfl ?_
  refine L_y rfl (y_lenS rfl rfl Try.underlying67) rfl ?_
  refine L_y rfl (y_lss rfl rfl) rfl ?_
  refine L_nil ?_
  refine C_cond rfl (fun hc0 => ?_) (fun hc0 => ?_)
  · replace hc0 : i < l.length := by have := of_decide_eq_true hc0; omega
    obtain ⟨x, hx⟩ : ∃ x, l[i]? = some x := ⟨_, List.getElem?_eq_getElem hc0⟩
    refine C_skip ?_
    refine C_seq ?_
    refine C_block ?_
    refine C_seq ?_
    refine C_region ?_
    refine L_y rfl (y_move rfl) rfl ?_
    refine L_y rfl (y_move rfl) rfl ?_
    refine L_y rfl (y_indexS rfl rfl Try.underlying67 sz_79 (by omega) (by omega) (show _ = i * 2 from by simp)) rfl ?_
    refine L_y rfl (y_fieldAddr rfl fl_79_0) rfl ?_
    refine L_y rfl (y_load rfl ag_58 (sees 0 0 rfl) (lcs_at hx).1) rfl ?_
    refine L_y rfl (y_move rfl) rfl ?_
    refine L_y rfl (y_eqi rfl rfl) rfl ?_
    refine L_nil ?_
    refine C_cond rfl (fun hc1 => ?_) (fun hc1 => ?_)
    · have hxn : x.1 = n := by have := of_decide_eq_true hc1; omega
      refine C_seq ?_
      refine C_region ?_
      refine L_y rfl (y_move rfl) rfl ?_
      refine L_y rfl (y_assign rfl) rfl ?_
      refine L_nil ?_
      refine C_ret ?_
      refine B_ret (rv_tmp rfl rv_nil) ((hsub (.cons_cons _ (.refl _))).trans (hsub_pick [0] rfl)) ?_
      refine ⟨?_, rfl⟩
      first
      | (rw [fnd_at hx hxn hno]; rfl)
      | (rw [fnd_no hno]; rfl)
    · have hxn : ¬ x.1 = n := by have := of_decide_eq_false hc1; omega
      refine C_skip ?_
      refine C_region ?_
      refine L_y rfl (y_move rfl) rfl ?_
      refine L_y rfl (y_add rfl rfl (show _ = ((i + 1 : Nat) : Int) from by rw [wi64 (by omega) (by omega)]; omega)) rfl ?_
      refine L_y rfl (y_assign rfl) rfl ?_
      refine L_nil ?_
      refine ⟨i + 1, ⟨by omega, fun j y hj hy => ?_⟩, by omega, ⟨rfl, rfl, rfl, trivial⟩, ((hsub (.cons_cons _ (.refl _))).trans (hsub_pick [0] rfl))⟩
      rcases Nat.lt_or_ge j i with h | h
      · exact hno j y h hy
      · have : j = i := by omega
        subst this
        rw [hx] at hy
        rw [← Option.some.inj hy]
        exact hxn
  · obtain rfl : i = l.length := by have := of_decide_eq_false hc0; omega
    refine C_exit ?_
    refine C_seq ?_
    refine C_region ?_
    refine L_y rfl (y_assign rfl) rfl ?_
    refine L_nil ?_
    refine C_ret ?_
    refine B_ret (rv_tmp rfl rv_nil) ((hsub (.cons_cons _ (.refl _))).trans (hsub_pick [0] rfl)) ?_
    refine ⟨?_, rfl⟩
    first
    | (rw [fnd_at hx hxn hno]; rfl)
    | (rw [fnd_no hno]; rfl)

theorem find18_0 {w0 : World} {H : Hp} {c : Value} : FnS Try.prog w0 38 #[.slice none 0 0, c] H (fun e H' => e = .returned (.int .i64 (-1)) ∧ H' = H) := by
  refine FnS_intro (n := 20) (rs := [.tmp 4]) (vs := [.slice none 0 0, c]) Try.func38 rfl Try.ntmps38 rfl rfl ?_
  refine C_seq ?_
  refine C_region ?_
  refine L_y rfl (y_assign rfl) rfl ?_
  refine L_nil ?_
  refine C_seq ?_
  refine C_seq ?_
  refine C_region ?_
  refine L_y rfl (y_assign rfl) rfl ?_
  refine L_nil ?_
  refine C_block ?_
  refine C_loopIn (In_round ?_)
  refine C_seq ?_
  refine C_seq ?_
  refine C_region ?_
  refine L_y rfl (y_move rfl) rfl ?_
  refine L_y rfl (y_move rfl) rfl ?_
  refine L_y rfl (y_lenS rfl rfl Try.underlying67) rfl ?_
  refine L_y rfl (y_lss rfl rfl) rfl ?_
  refine L_nil ?_
  refine C_cond rfl (fun hc0 => absurd hc0 (by simp)) (fun hc0 => ?_)
  refine C_exit ?_
  refine C_seq ?_
  refine C_region ?_
  refine L_y rfl (y_assign rfl) rfl ?_
  refine L_nil ?_
  refine C_ret ?_
  refine B_ret (rv_tmp rfl rv_nil) (HSub.refl _) ?_
  exact ⟨rfl, rfl⟩

theorem find18_s {w0 : World} {H : Hp} {l : Xl} {g : Option SlG} (hok : slOk 2 g l.length (lcs l)) (hl : l.length < 1000000) (n : Nat) : FnS Try.prog w0 38 #[slV g l.length, .int .u64 (n : Int)] (slSeg 79 g (lcs l) :: H) (fun e H' => e = .returned (.int .i64 (fnd l n)) ∧ H' = slSeg 79 g (lcs l) :: H) := by
  cases g with
  | some g => exact find18_y hok hl n
  | none =>
    obtain rfl := List.eq_nil_of_length_eq_zero hok.2
    exact find18_0

end Go.Proofs.Ytaeooiogjhkjfaa

/- walks (own work; the walks' lines by a program of this repo). -/
set_option linter.unusedVariables false
set_option linter.unusedSimpArgs false
set_option maxRecDepth 20000
namespace Go.Proofs.Ytaeooiogjhkjfaa
open Go.Sl
attribute [local irreducible] BodyQ WpC WpL WpS WpH OpW FnS


theorem put18_0f {w0 : World} {H : Hp} {l : Xl} {g : Option SlG} (hok : slOk 2 g l.length (lcs l)) (hl : l.length < 1000000) (segs size : Int) (n : Nat) (a : Int) (h0 : n = 0) : FnS Try.prog w0 77 #[slV g l.length, .int .i64 segs, .int .i64 size, .int .u64 (n : Int), .int .i64 a, .bool false] (slSeg 79 g (lcs l) :: H) (fun e H' => ∃ g2, slOk 2 g2 (xput segs size l n a false).1.length (lcs (xput segs size l n a false).1) ∧ e = .returned (.tuple #[slV g2 (xput segs size l n a false).1.length, .int .i64 (xput segs size l n a false).2]) ∧ H' = slSeg 79 g2 (lcs (xput segs size l n a false).1) :: H) := by
  refine FnS_intro (n := 86) (rs := [.tmp 12, .tmp 13]) (vs := [slV g l.length, .int .i64 segs, .int .i64 size, .int .u64 (n : Int), .int .i64 a, .bool false]) Try.func77 rfl Try.ntmps77 rfl rfl ?_
  refine C_seq ?_
  refine C_region ?_
  refine L_y rfl (y_assign rfl) rfl ?_
  refine L_y rfl (y_assign rfl) rfl ?_
  refine L_nil ?_
  refine C_seq ?_
  refine C_seq ?_
  refine C_region ?_
  refine L_y rfl (y_move rfl) rfl ?_
  refine L_y rfl (y_eqi rfl rfl) rfl ?_
  refine L_nil ?_
  refine C_cond rfl (fun hc0 => ?_) (fun hc0 => absurd hc0 (by simp [h0]))
  refine C_seq ?_
  refine C_region ?_
  refine L_y rfl (y_move rfl) rfl ?_
  refine L_y rfl (y_assign rfl) rfl ?_
  refine L_y rfl (y_assign rfl) rfl ?_
  refine L_nil ?_
  refine C_ret ?_
  refine B_ret (rv_tmp rfl (rv_tmp rfl rv_nil)) ((hsub (.cons_cons _ (.refl _))).trans (hsub_pick [0] rfl)) ?_
  have e4 : xput segs size l n a false = (l, 1) := by simp [xput, *]
  rw [e4]
  exact ⟨g, hok, rfl, rfl⟩

theorem put18_rf {w0 : World} {H : Hp} {l : Xl} {g : Option SlG} (hok : slOk 2 g l.length (lcs l)) (hl : l.length < 1000000) (segs size : Int) (n : Nat) (a : Int) (h0 : n ≠ 0) (ho : ofS segs size a = none) : FnS Try.prog w0 77 #[slV g l.length, .int .i64 segs, .int .i64 size, .int .u64 (n : Int), .int .i64 a, .bool false] (slSeg 79 g (lcs l) :: H) (fun e H' => ∃ g2, slOk 2 g2 (xput segs size l n a false).1.length (lcs (xput segs size l n a false).1) ∧ e = .returned (.tuple #[slV g2 (xput segs size l n a false).1.length, .int .i64 (xput segs size l n a false).2]) ∧ H' = slSeg 79 g2 (lcs (xput segs size l n a false).1) :: H) := by
  refine FnS_intro (n := 86) (rs := [.tmp 12, .tmp 13]) (vs := [slV g l.length, .int .i64 segs, .int .i64 size, .int .u64 (n : Int), .int .i64 a, .bool false]) Try.func77 rfl Try.ntmps77 rfl rfl ?_
  refine C_seq ?_
  refine C_region ?_
  refine L_y rfl (y_assign rfl) rfl ?_
  refine L_y rfl (y_assign rfl) rfl ?_
  refine L_nil ?_
  refine C_seq ?_
  refine C_seq ?_
  refine C_region ?_
  refine L_y rfl (y_move rfl) rfl ?_
  refine L_y rfl (y_eqi rfl rfl) rfl ?_
  refine L_nil ?_
  refine C_cond rfl (fun hc0 => absurd hc0 (by simp <;> omega)) (fun hc0 => ?_)
  refine C_skip ?_
  refine C_seq ?_
  refine C_seq ?_
  refine C_region ?_
  refine L_y rfl (y_move rfl) rfl ?_
  refine L_y rfl (y_move rfl) rfl ?_
  refine L_y rfl (y_move rfl) rfl ?_
  refine L_op rfl (op_call rfl rfl (fun a w => Try.call84 a w) rfl ?_)
  refine (seg18_s segs size a).mono ?_
  rintro _ _ ⟨rfl, e⟩
  obtain rfl := e.symm
  clear e
  rw [seg18_no ho]
  refine ⟨_, rfl, ?_⟩
  refine L_y rfl (y_lss rfl rfl) rfl ?_
  refine L_nil ?_
  refine C_cond_t rfl ?_
  refine C_seq ?_
  refine C_region ?_
  refine L_y rfl (y_move rfl) rfl ?_
  refine L_y rfl (y_assign rfl) rfl ?_
  refine L_y rfl (y_assign rfl) rfl ?_
  refine L_nil ?_
  refine C_ret ?_
  refine B_ret (rv_tmp rfl (rv_tmp rfl rv_nil)) ((hsub (.cons_cons _ (.refl _))).trans (hsub_pick [0] rfl)) ?_
  have e4 : xput segs size l n a false = (l, 2) := by simp [xput, *]
  rw [e4]
  exact ⟨g, hok, rfl, rfl⟩

theorem put18_p5 {w0 : World} {H : Hp} {l : Xl} {g : Option SlG} (hok : slOk 2 g l.length (lcs l)) (hl : l.length < 1000000) (segs size : Int) (n : Nat) (a : Int) (h0 : n ≠ 0) {s : Int} (ho : ofS segs size a = some s) {q : Int} {k : Nat} (hf : xfind l n = some q) (hk : fnd l n = (k : Int)) : FnS Try.prog w0 77 #[slV g l.length, .int .i64 segs, .int .i64 size, .int .u64 (n : Int), .int .i64 a, .bool false] (slSeg 79 g (lcs l) :: H) (fun e H' => ∃ g2, slOk 2 g2 (xput segs size l n a false).1.length (lcs (xput segs size l n a false).1) ∧ e = .returned (.tuple #[slV g2 (xput segs size l n a false).1.length, .int .i64 (xput segs size l n a false).2]) ∧ H' = slSeg 79 g2 (lcs (xput segs size l n a false).1) :: H) := by
  have hs0 := (ofS_spec ho).2.2.2.2.1
  refine FnS_intro (n := 86) (rs := [.tmp 12, .tmp 13]) (vs := [slV g l.length, .int .i64 segs, .int .i64 size, .int .u64 (n : Int), .int .i64 a, .bool false]) Try.func77 rfl Try.ntmps77 rfl rfl ?_
  refine C_seq ?_
  refine C_region ?_
  refine L_y rfl (y_assign rfl) rfl ?_
  refine L_y rfl (y_assign rfl) rfl ?_
  refine L_nil ?_
  refine C_seq ?_
  refine C_seq ?_
  refine C_region ?_
  refine L_y rfl (y_move rfl) rfl ?_
  refine L_y rfl (y_eqi rfl rfl) rfl ?_
  refine L_nil ?_
  refine C_cond rfl (fun hc0 => absurd hc0 (by simp <;> omega)) (fun hc0 => ?_)
  refine C_skip ?_
  refine C_seq ?_
  refine C_seq ?_
  refine C_region ?_
  refine L_y rfl (y_move rfl) rfl ?_
  refine L_y rfl (y_move rfl) rfl ?_
  refine L_y rfl (y_move rfl) rfl ?_
  refine L_op rfl (op_call rfl rfl (fun a w => Try.call84 a w) rfl ?_)
  refine (seg18_s segs size a).mono ?_
  rintro _ _ ⟨rfl, e⟩
  obtain rfl := e.symm
  clear e
  rw [show seg18 segs size a = s from by unfold seg18; rw [ho]]
  refine ⟨_, rfl, ?_⟩
  refine L_y rfl (y_lss rfl rfl) rfl ?_
  refine L_nil ?_
  refine C_cond rfl (fun hc1 => absurd hc1 (by simp <;> omega)) (fun hc1 => ?_)
  refine C_skip ?_
  refine C_seq ?_
  refine C_region ?_
  refine L_y rfl (y_move rfl) rfl ?_
  refine L_y rfl (y_move rfl) rfl ?_
  refine L_op rfl (op_call rfl rfl (fun a w => Try.call38 a w) rfl ?_)
  refine (find18_s (g := g) hok hl n).mono ?_
  rintro _ _ ⟨rfl, rfl⟩
  rw [hk]
  refine ⟨_, rfl, ?_⟩
  refine L_y rfl (y_assign rfl) rfl ?_
  refine L_nil ?_
  refine C_seq ?_
  refine C_seq ?_
  refine C_region ?_
  refine L_y rfl (y_move rfl) rfl ?_
  refine L_y rfl (y_move rfl) rfl ?_
  refine L_skip rfl rfl ?_
  refine L_skip rfl rfl ?_
  refine L_y rfl (y_pick_f rfl rfl) rfl ?_
  refine L_nil ?_
  refine C_cond_f rfl ?_
  refine C_skip ?_
  refine C_seq ?_
  refine C_seq ?_
  refine C_region ?_
  refine L_y rfl (y_move rfl) rfl ?_
  refine L_y rfl (y_not rfl) rfl ?_
  refine L_y rfl (y_move rfl) rfl ?_
  refine L_y rfl (y_move rfl) rfl ?_
  refine L_y rfl (y_geq rfl rfl) rfl ?_
  refine L_y rfl (y_pick_t rfl rfl) rfl ?_
  refine L_nil ?_
  refine C_cond rfl (fun hc3 => ?_) (fun hc3 => absurd hc3 (by simp))
  refine C_seq ?_
  refine C_region ?_
  refine L_y rfl (y_move rfl) rfl ?_
  refine L_y rfl (y_assign rfl) rfl ?_
  refine L_y rfl (y_assign rfl) rfl ?_
  refine L_nil ?_
  refine C_ret ?_
  refine B_ret (rv_tmp rfl (rv_tmp rfl rv_nil)) ((hsub (.cons_cons _ (.refl _))).trans (hsub_pick [0] rfl)) ?_
  have e4 : xput segs size l n a false = (l, 5) := by simp [xput, *]
  rw [e4]
  exact ⟨g, hok, rfl, rfl⟩

set_option maxHeartbeats 1000000 in

theorem put18_py {w0 : World} {H : Hp} {l : Xl} {g : Option SlG} (hok : slOk 2 g l.length (lcs l)) (hl : l.length < 1000000) (segs size : Int) (n : Nat) (a : Int) (h0 : n ≠ 0) {s : Int} (ho : ofS segs size a = some s) (hf : xfind l n = none) : FnS Try.prog w0 77 #[slV g l.length, .int .i64 segs, .int .i64 size, .int .u64 (n : Int), .int .i64 a, .bool false] (slSeg 79 g (lcs l) :: H) (fun e H' => ∃ g2, slOk 2 g2 (xput segs size l n a false).1.length (lcs (xput segs size l n a false).1) ∧ e = .returned (.tuple #[slV g2 (xput segs size l n a false).1.length, .int .i64 (xput segs size l n a false).2]) ∧ H' = slSeg 79 g2 (lcs (xput segs size l n a false).1) :: H) := by
  have hs0 := (ofS_spec ho).2.2.2.2.1
  refine FnS_intro (n := 86) (rs := [.tmp 12, .tmp 13]) (vs := [slV g l.length, .int .i64 segs, .int .i64 size, .int .u64 (n : Int), .int .i64 a, .bool false]) Try.func77 rfl Try.ntmps77 rfl rfl ?_
  refine C_seq ?_
  refine C_region ?_
  refine L_y rfl (y_assign rfl) rfl ?_
  refine L_y rfl (y_assign rfl) rfl ?_
  refine L_nil ?_
  refine C_seq ?_
  refine C_seq ?_
  refine C_region ?_
  refine L_y rfl (y_move rfl) rfl ?_
  refine L_y rfl (y_eqi rfl rfl) rfl ?_
  refine L_nil ?_
  refine C_cond rfl (fun hc0 => absurd hc0 (by simp <;> omega)) (fun hc0 => ?_)
  refine C_skip ?_
  refine C_seq ?_
  refine C_seq ?_
  refine C_region ?_
  refine L_y rfl (y_move rfl) rfl ?_
  refine L_y rfl (y_move rfl) rfl ?_
  refine L_y rfl (y_move rfl) rfl ?_
  refine L_op rfl (op_call rfl rfl (fun a w => Try.call84 a w) rfl ?_)
  refine (seg18_s segs size a).mono ?_
  rintro _ _ ⟨rfl, e⟩
  obtain rfl := e.symm
  clear e
  rw [show seg18 segs size a = s from by unfold seg18; rw [ho]]
  refine ⟨_, rfl, ?_⟩
  refine L_y rfl (y_lss rfl rfl) rfl ?_
  refine L_nil ?_
  refine C_cond rfl (fun hc1 => absurd hc1 (by simp <;> omega)) (fun hc1 => ?_)
  refine C_skip ?_
  refine C_seq ?_
  refine C_region ?_
  refine L_y rfl (y_move rfl) rfl ?_
  refine L_y rfl (y_move rfl) rfl ?_
  refine L_op rfl (op_call rfl rfl (fun a w => Try.call38 a w) rfl ?_)
  refine (find18_s (g := g) hok hl n).mono ?_
  rintro _ _ ⟨rfl, rfl⟩
  rw [fnd_none hf]
  refine ⟨_, rfl, ?_⟩
  refine L_y rfl (y_assign rfl) rfl ?_
  refine L_nil ?_
  refine C_seq ?_
  refine C_seq ?_
  refine C_region ?_
  refine L_y rfl (y_move rfl) rfl ?_
  refine L_y rfl (y_move rfl) rfl ?_
  refine L_skip rfl rfl ?_
  refine L_skip rfl rfl ?_
  refine L_y rfl (y_pick_f rfl rfl) rfl ?_
  refine L_nil ?_
  refine C_cond_f rfl ?_
  refine C_skip ?_
  refine C_seq ?_
  refine C_seq ?_
  refine C_region ?_
  refine L_y rfl (y_move rfl) rfl ?_
  refine L_y rfl (y_not rfl) rfl ?_
  refine L_y rfl (y_move rfl) rfl ?_
  refine L_y rfl (y_move rfl) rfl ?_
  refine L_y rfl (y_geq rfl rfl) rfl ?_
  refine L_y rfl (y_pick_t rfl rfl) rfl ?_
  refine L_nil ?_
  refine C_cond_f rfl ?_
  refine C_skip ?_
  refine C_seq ?_
  refine C_seq ?_
  refine C_region ?_
  refine L_y rfl (y_move rfl) rfl ?_
  refine L_nil ?_
  refine C_cond_f rfl ?_
  refine C_skip ?_
  refine C_seq ?_
  refine C_region ?_
  refine L_y rfl (y_assign rfl) rfl ?_
  refine L_nil ?_
  refine C_seq ?_
  refine C_region ?_
  refine L_y rfl (y_assign rfl) rfl ?_
  refine L_nil ?_
  refine C_seq ?_
  refine C_seq ?_
  refine C_region ?_
  refine L_y rfl (y_assign rfl) rfl ?_
  refine L_nil ?_
  refine C_block ?_
  refine C_loop (ι := Nat × Option SlG) (fun i => [(0, slV g l.length), (3, .int .u64 (n : Int)), (4, .int .i64 a), (15, slV i.2 (outI l n a i.1).length), (16, .bool (big l n i.1)), (17, .int .i64 (i.1 : Int))]) (fun i => slSeg 79 i.2 (lcs (outI l n a i.1)) :: slSeg 79 g (lcs l) :: H) (fun i => i.1 ≤ l.length ∧ slOk 2 i.2 (outI l n a i.1).length (lcs (outI l n a i.1))) (fun i => l.length - i.1) (0, none) ⟨Nat.zero_le _, by rw [outI_0]; exact ⟨rfl, rfl⟩⟩ (by rw [outI_0]; exact ⟨rfl, rfl, rfl, rfl, rfl, rfl, trivial⟩) (by rw [outI_0]; exact hsub_flat rfl) (fun i hi => ?_)
  obtain ⟨i, g3⟩ := i
  obtain ⟨hi, hok3⟩ := hi
  try simp only at hi hok3
  try dsimp only
  refine C_seq ?_
  refine C_seq ?_
  refine C_region ?_
  refine L_y rfl (y_move rfl) rfl ?_
  refine L_y rfl (y_move rfl) rfl ?_
  refine L_y rfl (y_lenV hok rfl rfl Try.underlying67) rfl ?_
  refine L_y rfl (y_lss rfl rfl) rfl ?_
  refine L_nil ?_
  refine C_cond rfl (fun hc5 => ?_) (fun hc5 => ?_)
  · replace hc5 : i < l.length := by have := of_decide_eq_true hc5; omega
    obtain ⟨x, hx⟩ : ∃ x, l[i]? = some x := ⟨_, List.getElem?_eq_getElem hc5⟩
    cases g with
    | none => exact absurd (show l.length = 0 from hok.2) (by omega)
    | some g => ?_
    refine C_skip ?_
    refine C_seq ?_
    refine C_block ?_
    refine C_seq ?_
    refine C_seq ?_
    refine C_region ?_
    refine L_y rfl (y_move rfl) rfl ?_
    refine L_y rfl (y_not rfl) rfl ?_
    refine L_y rfl (y_move rfl) rfl ?_
    refine L_case 55 rfl (fun hg17_3 => ?_) (fun hg17_3 => ?_)
    · have hb : big l n i = false := by simpa using hg17_3
      refine L_y rfl (y_move rfl) rfl ?_
      refine L_y rfl (y_move rfl) rfl ?_
      refine L_y rfl (y_indexS rfl rfl Try.underlying67 sz_79 (by omega) (by omega) (show _ = i * 2 from by simp)) rfl ?_
      refine L_y rfl (y_fieldAddr rfl fl_79_0) rfl ?_
      refine L_y rfl (y_load rfl ag_58 (sees 1 0 rfl) (lcs_at hx).1) rfl ?_
      refine L_y rfl (y_move rfl) rfl ?_
      refine L_y rfl (y_gtr rfl rfl) rfl ?_
      refine L_y rfl (y_pick_t rfl rfl) rfl ?_
      refine L_nil ?_
      refine C_cond rfl (fun hc6 => ?_) (fun hc6 => ?_)
      · have hlt : n < x.1 := by have := of_decide_eq_true hc6; omega
        refine C_seq ?_
        refine C_region ?_
        refine L_y rfl (y_move rfl) rfl ?_
        refine L_y rfl (y_move rfl) rfl ?_
        refine L_y rfl (y_move rfl) rfl ?_
        refine L_y rfl (y_build (vs := [(0, _), (1, _)]) (l := [.int .u64 (n : Int), .int .i64 a]) rfl pl_79 zl_79 (fill_cons (off := 0) (m := 1) (vs := [_]) rfl rfl rfl (Nat.le_of_ble_eq_true rfl) (fill_cons (off := 1) (m := 1) (vs := [_]) rfl rfl rfl (Nat.le_of_ble_eq_true rfl) rfl))) rfl ?_
        refine L_op rfl (op_buildSlice (vs := [(0, _)]) rfl Try.underlying67 sz_79 zl_79 rfl (by decide) (fill_one rfl rfl rfl) rfl (fun B1 => ?_))
        refine L_op rfl (op_append (gs := g3) (len := ((outI l n a i)).length) (m := 1) (xs := lcs ((outI l n a i))) (vs := lcs [(n, a)]) 1 rfl rfl rfl hok3 (src_slice (sees 0 0 rfl) (Nat.le_of_ble_eq_true rfl) rfl) rfl (lcs_one _) Try.underlying67 ni_67 sz_79 by_79 (by decide) zl_79 rfl (by have := out_len (n := n) (a := a) hi; first | omega | (simp only [List.length_append, List.length_cons, List.length_nil]; omega)) rfl (fun g4 hg4 => ?_))
        rw [← lcs_append, show ((outI l n a i)).length + 1 = ((outI l n a i) ++ [(n, a)]).length from by simp] at hg4 ⊢
        refine L_y rfl (y_assign rfl) rfl ?_
        refine L_nil ?_
        refine C_region ?_
        refine L_y rfl (y_assign rfl) rfl ?_
        refine L_nil ?_
        refine C_region ?_
        refine L_y rfl (y_move rfl) rfl ?_
        refine L_y rfl (y_move rfl) rfl ?_
        refine L_y rfl (y_move rfl) rfl ?_
        refine L_y rfl (y_indexS rfl rfl Try.underlying67 sz_79 (by omega) (by omega) (show _ = i * 2 from by simp)) rfl ?_
        refine L_y rfl (y_loadA rfl ag_79 sz_79 (sees 2 0 rfl) (by rw [List.length_append, lcs_len]; omega) (lcs_at hx).2.2) rfl ?_
        refine L_op rfl (op_buildSlice (vs := [(0, _)]) rfl Try.underlying67 sz_79 zl_79 rfl (by decide) (fill_one rfl rfl rfl) rfl (fun B2 => ?_))
        refine L_op rfl (op_append (gs := g4) (len := ((outI l n a i) ++ [(n, a)]).length) (m := 1) (xs := lcs ((outI l n a i) ++ [(n, a)])) (vs := lcs [x]) 2 rfl rfl rfl hg4 (src_slice (sees 0 0 rfl) (Nat.le_of_ble_eq_true rfl) rfl) rfl (lcs_one _) Try.underlying67 ni_67 sz_79 by_79 (by decide) zl_79 rfl (by have := out_len (n := n) (a := a) hi; first | omega | (simp only [List.length_append, List.length_cons, List.length_nil]; omega)) rfl (fun g5 hg5 => ?_))
        rw [← lcs_append, show ((outI l n a i) ++ [(n, a)]).length + 1 = ((outI l n a i) ++ [(n, a)] ++ [x]).length from by simp] at hg5 ⊢
        refine L_y rfl (y_assign rfl) rfl ?_
        refine L_nil ?_
        refine C_region ?_
        refine L_y rfl (y_move rfl) rfl ?_
        refine L_y rfl (y_add rfl rfl (show _ = ((i + 1 : Nat) : Int) from by rw [wi64 (by omega) (by omega)]; omega)) rfl ?_
        refine L_y rfl (y_assign rfl) rfl ?_
        refine L_nil ?_
        have e1 : big l n (i + 1) = true := by rw [big_next hx, decide_eq_true hlt, Bool.or_true]
        have e2 := out_first (a := a) hb hx hlt
        refine ⟨(i + 1, g5), ⟨by simp only; omega, ?_⟩, by simp only; omega, ?_⟩ <;> try simp only
        · rw [e2]; exact hg5
        · rw [e1, e2]
          exact ⟨⟨rfl, rfl, rfl, rfl, rfl, rfl, trivial⟩, ((hsub (.cons_cons _ (.cons_cons _ (.cons _ (.cons _ (.refl _)))))).trans (hsub_pick [2, 2] rfl))⟩
      · have hlt : ¬ n < x.1 := by have := of_decide_eq_false hc6; omega
        refine C_skip ?_
        refine C_region ?_
        refine L_y rfl (y_move rfl) rfl ?_
        refine L_y rfl (y_move rfl) rfl ?_
        refine L_y rfl (y_move rfl) rfl ?_
        refine L_y rfl (y_indexS rfl rfl Try.underlying67 sz_79 (by omega) (by omega) (show _ = i * 2 from by simp)) rfl ?_
        refine L_y rfl (y_loadA rfl ag_79 sz_79 (sees 1 0 rfl) (by rw [List.length_append, lcs_len]; omega) (lcs_at hx).2.2) rfl ?_
        refine L_op rfl (op_buildSlice (vs := [(0, _)]) rfl Try.underlying67 sz_79 zl_79 rfl (by decide) (fill_one rfl rfl rfl) rfl (fun B3 => ?_))
        refine L_op rfl (op_append (gs := g3) (len := ((outI l n a i)).length) (m := 1) (xs := lcs ((outI l n a i))) (vs := lcs [x]) 1 rfl rfl rfl hok3 (src_slice (sees 0 0 rfl) (Nat.le_of_ble_eq_true rfl) rfl) rfl (lcs_one _) Try.underlying67 ni_67 sz_79 by_79 (by decide) zl_79 rfl (by have := out_len (n := n) (a := a) hi; first | omega | (simp only [List.length_append, List.length_cons, List.length_nil]; omega)) rfl (fun g5 hg5 => ?_))
        rw [← lcs_append, show ((outI l n a i)).length + 1 = ((outI l n a i) ++ [x]).length from by simp] at hg5 ⊢
        refine L_y rfl (y_assign rfl) rfl ?_
        refine L_nil ?_
        refine C_region ?_
        refine L_y rfl (y_move rfl) rfl ?_
        refine L_y rfl (y_add rfl rfl (show _ = ((i + 1 : Nat) : Int) from by rw [wi64 (by omega) (by omega)]; omega)) rfl ?_
        refine L_y rfl (y_assign rfl) rfl ?_
        refine L_nil ?_
        have e1 : big l n (i + 1) = big l n i := by rw [big_next hx]; first | rw [decide_eq_false hlt, Bool.or_false] | (rw [hb]; rfl)
        have e2 : (outI l n a (i + 1)) = (outI l n a i) ++ [x] := by first | exact out_more hb hx | exact out_not hb hx hlt
        refine ⟨(i + 1, g5), ⟨by simp only; omega, ?_⟩, by simp only; omega, ?_⟩ <;> try simp only
        · rw [e2]; exact hg5
        · rw [e1, e2]
          exact ⟨⟨rfl, rfl, rfl, rfl, rfl, rfl, trivial⟩, ((hsub (.cons_cons _ (.cons_cons _ (.cons _ (.refl _))))).trans (hsub_pick [1, 1] rfl))⟩
    · have hb : big l n i = true := by simpa using hg17_3
      refine L_skip rfl rfl ?_
      refine L_skip rfl rfl ?_
      refine L_skip rfl rfl ?_
      refine L_skip rfl rfl ?_
      refine L_skip rfl rfl ?_
      refine L_skip rfl rfl ?_
      refine L_skip rfl rfl ?_
      refine L_y rfl (y_pick_f rfl rfl) rfl ?_
      refine L_nil ?_
      refine C_cond_f rfl ?_
      refine C_skip ?_
      refine C_region ?_
      refine L_y rfl (y_move rfl) rfl ?_
      refine L_y rfl (y_move rfl) rfl ?_
      refine L_y rfl (y_move rfl) rfl ?_
      refine L_y rfl (y_indexS rfl rfl Try.underlying67 sz_79 (by omega) (by omega) (show _ = i * 2 from by simp)) rfl ?_
      refine L_y rfl (y_loadA rfl ag_79 sz_79 (sees 1 0 rfl) (by rw [List.length_append, lcs_len]; omega) (lcs_at hx).2.2) rfl ?_
      refine L_op rfl (op_buildSlice (vs := [(0, _)]) rfl Try.underlying67 sz_79 zl_79 rfl (by decide) (fill_one rfl rfl rfl) rfl (fun B4 => ?_))
      refine L_op rfl (op_append (gs := g3) (len := ((outI l n a i)).length) (m := 1) (xs := lcs ((outI l n a i))) (vs := lcs [x]) 1 rfl rfl rfl hok3 (src_slice (sees 0 0 rfl) (Nat.le_of_ble_eq_true rfl) rfl) rfl (lcs_one _) Try.underlying67 ni_67 sz_79 by_79 (by decide) zl_79 rfl (by have := out_len (n := n) (a := a) hi; first | omega | (simp only [List.length_append, List.length_cons, List.length_nil]; omega)) rfl (fun g5 hg5 => ?_))
      rw [← lcs_append, show ((outI l n a i)).length + 1 = ((outI l n a i) ++ [x]).length from by simp] at hg5 ⊢
      refine L_y rfl (y_assign rfl) rfl ?_
      refine L_nil ?_
      refine C_region ?_
      refine L_y rfl (y_move rfl) rfl ?_
      refine L_y rfl (y_add rfl rfl (show _ = ((i + 1 : Nat) : Int) from by rw [wi64 (by omega) (by omega)]; omega)) rfl ?_
      refine L_y rfl (y_assign rfl) rfl ?_
      refine L_nil ?_
      have e1 : big l n (i + 1) = big l n i := by rw [big_next hx]; first | rw [decide_eq_false hlt, Bool.or_false] | (rw [hb]; rfl)
      have e2 : (outI l n a (i + 1)) = (outI l n a i) ++ [x] := by first | exact out_more hb hx | exact out_not hb hx hlt
      refine ⟨(i + 1, g5), ⟨by simp only; omega, ?_⟩, by simp only; omega, ?_⟩ <;> try simp only
      · rw [e2]; exact hg5
      · rw [e1, e2]
        exact ⟨⟨rfl, rfl, rfl, rfl, rfl, rfl, trivial⟩, ((hsub (.cons_cons _ (.cons_cons _ (.cons _ (.refl _))))).trans (hsub_pick [1, 1] rfl))⟩
  · obtain rfl : i = l.length := by have := of_decide_eq_false hc5; omega
    refine C_exit ?_
    refine C_seq ?_
    refine C_seq ?_
    refine C_region ?_
    refine L_y rfl (y_move rfl) rfl ?_
    refine L_y rfl (y_not rfl) rfl ?_
    refine L_nil ?_
    refine C_cond rfl (fun hc7 => ?_) (fun hc7 => ?_)
    · have hb : big l n l.length = false := by simpa using hc7
      refine C_region ?_
      refine L_y rfl (y_move rfl) rfl ?_
      refine L_y rfl (y_move rfl) rfl ?_
      refine L_y rfl (y_move rfl) rfl ?_
      refine L_y rfl (y_build (vs := [(0, _), (1, _)]) (l := [.int .u64 (n : Int), .int .i64 a]) rfl pl_79 zl_79 (fill_cons (off := 0) (m := 1) (vs := [_]) rfl rfl rfl (Nat.le_of_ble_eq_true rfl) (fill_cons (off := 1) (m := 1) (vs := [_]) rfl rfl rfl (Nat.le_of_ble_eq_true rfl) rfl))) rfl ?_
      refine L_op rfl (op_buildSlice (vs := [(0, _)]) rfl Try.underlying67 sz_79 zl_79 rfl (by decide) (fill_one rfl rfl rfl) rfl (fun B5 => ?_))
      refine L_op rfl (op_append (gs := g3) (len := ((outI l n a l.length)).length) (m := 1) (xs := lcs ((outI l n a l.length))) (vs := lcs [(n, a)]) 1 rfl rfl rfl hok3 (src_slice (sees 0 0 rfl) (Nat.le_of_ble_eq_true rfl) rfl) rfl (lcs_one _) Try.underlying67 ni_67 sz_79 by_79 (by decide) zl_79 rfl (by have := out_len (n := n) (a := a) hi; first | omega | (simp only [List.length_append, List.length_cons, List.length_nil]; omega)) rfl (fun g4 hg4 => ?_))
      rw [← lcs_append, show ((outI l n a l.length)).length + 1 = ((outI l n a l.length) ++ [(n, a)]).length from by simp] at hg4 ⊢
      refine L_y rfl (y_assign rfl) rfl ?_
      refine L_nil ?_
      refine C_seq ?_
      refine C_region ?_
      refine L_y rfl (y_move rfl) rfl ?_
      refine L_y rfl (y_assign rfl) rfl ?_
      refine L_y rfl (y_assign rfl) rfl ?_
      refine L_nil ?_
      refine C_ret ?_
      refine B_ret (rv_tmp rfl (rv_tmp rfl rv_nil)) ((hsub (.cons_cons _ (.cons _ (.cons _ (.refl _))))).trans (hsub_pick [1] rfl)) ?_
      have e4 : xput segs size l n a false = (xins l n a, 0) := by simp [xput, *]
      rw [e4]
      have e6 := out_end (a := a) hb
      rw [e6] at hg4
      refine ⟨g4, hg4, ?_, ?_⟩
      · rw [e6] <;> rfl
      · rw [e6] <;> rfl
    · have hb : big l n l.length = true := by simpa using hc7
      refine C_skip ?_
      refine C_seq ?_
      refine C_region ?_
      refine L_y rfl (y_move rfl) rfl ?_
      refine L_y rfl (y_assign rfl) rfl ?_
      refine L_y rfl (y_assign rfl) rfl ?_
      refine L_nil ?_
      refine C_ret ?_
      refine B_ret (rv_tmp rfl (rv_tmp rfl rv_nil)) ((hsub (.cons_cons _ (.cons _ (.refl _)))).trans (hsub_pick [0] rfl)) ?_
      have e4 : xput segs size l n a false = (xins l n a, 0) := by simp [xput, *]
      rw [e4]
      have e6 := out_done (a := a) hb
      rw [e6] at hok3
      refine ⟨g3, hok3, ?_, ?_⟩
      · rw [e6] <;> rfl
      · rw [e6] <;> rfl

theorem put18_false {w0 : World} {H : Hp} {l : Xl} {g : Option SlG} (hok : slOk 2 g l.length (lcs l)) (hl : l.length < 1000000) (segs size : Int) (n : Nat) (a : Int) (hs : Xs l) : FnS Try.prog w0 77 #[slV g l.length, .int .i64 segs, .int .i64 size, .int .u64 (n : Int), .int .i64 a, .bool false] (slSeg 79 g (lcs l) :: H) (fun e H' => ∃ g2, slOk 2 g2 (xput segs size l n a false).1.length (lcs (xput segs size l n a false).1) ∧ e = .returned (.tuple #[slV g2 (xput segs size l n a false).1.length, .int .i64 (xput segs size l n a false).2]) ∧ H' = slSeg 79 g2 (lcs (xput segs size l n a false).1) :: H) := by
  by_cases h0 : n = 0
  · exact put18_0f hok hl segs size n a h0
  · cases ho : ofS segs size a with
    | none => exact put18_rf hok hl segs size n a h0 ho
    | some s =>
      cases hf : xfind l n with
      | none => exact put18_py hok hl segs size n a h0 ho hf
      | some q =>
        obtain ⟨k, hk1, hk2, hk3⟩ := fnd_some hs hf
        exact put18_p5 hok hl segs size n a h0 ho hf hk2

end Go.Proofs.Ytaeooiogjhkjfaa

/- A slice of deeds on numbers (own work). -/
set_option linter.unusedVariables false
set_option linter.unusedSimpArgs false
namespace Go.Sl
abbrev A18 := UInt8 × UInt64 × Int
abbrev a8c (x : A18) : List Value := [.int .u8 (x.1.toNat : Int), .int .u64 (x.2.1.toNat : Int), .int .i64 x.2.2]
def a8s (l : List A18) : List Value := (l.map a8c).flatten
theorem xput_len {segs size : Int} {l : Xl} (hs : Xs l) (n : Nat) (a : Int) (mv : Bool) : (xput segs size l n a mv).1.length ≤ l.length + 1 := by
  unfold xput
  split
  · simp
  · split
    · simp
    · cases hf : xfind l n with
      | some b =>
        simp only
        split
        · have := xdel_len hs hf
          simp only [xins_len]; omega
        · simp
      | none =>
        simp only
        split
        · simp
        · simp [xins_len]
end Go.Sl

/- walks (own work; the walks' lines by a program of this repo). -/
set_option linter.unusedVariables false
set_option linter.unusedSimpArgs false
set_option maxRecDepth 20000
namespace Go.Proofs.Ytaeooiogjhkjfaa
open Go.Sl
attribute [local irreducible] BodyQ WpC WpL WpS WpH OpW FnS



set_option maxHeartbeats 1000000 in

theorem laid_s {w0 : World} {H : Hp} {pa : Option Addr} {ca : Nat} {ll : Xl} (hA : Holds w0 H pa (lcs ll)) (hb : ∀ c ∈ ll, c.1 < 18446744073709551616) (hl : ll.length < 100000) (segs size : Int) : FnS Try.prog w0 51 #[shV segs size, .slice pa ll.length ca] H (fun e H' => ∃ (o : Xo) (g : Option SlG) (A L : Gm), Xm segs size (laidL segs size ll) A L ∧ slOk 2 g (laidL segs size ll).length (lcs (laidL segs size ll)) ∧ (laidL segs size ll).length ≤ ll.length ∧ e = .returned (.tuple #[ptr o.b, slV g (laidL segs size ll).length]) ∧ H' = o.seg 129 segs size A L :: slSeg 79 g (lcs (laidL segs size ll)) :: H) := by
  refine FnS_intro (n := 50) (rs := [.tmp 4, .tmp 5]) (vs := [shV segs size, .slice pa ll.length ca]) Try.func51 rfl Try.ntmps51 rfl rfl ?_
  refine C_seq ?_
  refine C_region ?_
  refine L_op rfl (op_box rfl rfl rfl (fun B1 => ?_))
  refine L_y rfl (y_assign rfl) rfl ?_
  refine L_y rfl (y_assign rfl) rfl ?_
  refine L_nil ?_
  refine C_seq ?_
  refine C_region ?_
  refine L_y rfl (y_loadA rfl ag_51 sz_51 (sees 0 0 rfl) (Nat.le_of_ble_eq_true rfl) rfl) rfl ?_
  refine L_op rfl (op_call rfl rfl (fun a w => Try.call28 a w) rfl ?_)
  refine (xnew_s segs size).mono ?_
  rintro _ _ ⟨o1, rfl, rfl⟩
  have hX1 := Xm.new segs size
  refine ⟨_, rfl, ?_⟩
  refine L_y rfl (y_assign rfl) rfl ?_
  refine L_nil ?_
  refine C_seq ?_
  refine C_region ?_
  refine L_y rfl (y_assign rfl) rfl ?_
  refine L_nil ?_
  refine C_seq ?_
  refine C_seq ?_
  refine C_region ?_
  refine L_y rfl (y_assign rfl) rfl ?_
  refine L_nil ?_
  refine C_block ?_
  refine C_loop (ι := Gm × Gm × Option SlG × Nat) (fun i => [(1, .slice pa ll.length ca), (2, ptr B1), (6, ptr o1.b), (7, slV i.2.2.1 (laidL segs size (ll.take i.2.2.2)).length), (8, .int .i64 (i.2.2.2 : Int))]) (fun i => o1.seg 129 segs size i.1 i.2.1 :: slSeg 79 i.2.2.1 (lcs (laidL segs size (ll.take i.2.2.2))) :: [(B1, .cells [Value.int .i64 segs, .int .i64 size].toArray 51)] :: H) (fun i => Xm segs size (laidL segs size (ll.take i.2.2.2)) i.1 i.2.1 ∧ slOk 2 i.2.2.1 (laidL segs size (ll.take i.2.2.2)).length (lcs (laidL segs size (ll.take i.2.2.2))) ∧ (laidL segs size (ll.take i.2.2.2)).length ≤ i.2.2.2 ∧ i.2.2.2 ≤ ll.length) (fun i => ll.length - i.2.2.2) (_, _, none, 0) ⟨hX1, ⟨rfl, rfl⟩, Nat.le_refl _, Nat.zero_le _⟩ ⟨rfl, rfl, rfl, rfl, rfl, trivial⟩ (hsub_nil1.trans (HSub.refl _)) (fun i hi => ?_)
  obtain ⟨A, L, g, i⟩ := i
  obtain ⟨hX, hok, hxl, hi⟩ := hi
  try simp only at hX hok hxl hi
  try dsimp only
  refine C_seq ?_
  refine C_seq ?_
  refine C_region ?_
  refine L_y rfl (y_move rfl) rfl ?_
  refine L_y rfl (y_move rfl) rfl ?_
  refine L_y rfl (y_lenS rfl rfl Try.underlying97) rfl ?_
  refine L_y rfl (y_lss rfl rfl) rfl ?_
  refine L_nil ?_
  refine C_cond rfl (fun hc0 => ?_) (fun hc0 => ?_)
  · replace hc0 : i < ll.length := by have := of_decide_eq_true hc0; omega
    obtain ⟨c, hx⟩ : ∃ c, ll[i]? = some c := ⟨_, List.getElem?_eq_getElem hc0⟩
    obtain ⟨b1, o1_, l1, T1, fr1, rfl, hs1, hle1, hv1⟩ := hA (by rw [lcs_len]; omega)
    rw [lcs_len] at hle1
    refine C_skip ?_
    refine C_seq ?_
    refine C_block ?_
    refine C_seq ?_
    refine C_regionH ([(B1, .cells [Value.int .i64 segs, .int .i64 size].toArray 51)] :: H) (by kernel_rfl) ?_
    refine H_y 0 rfl (by kernel_rfl) (by kernel_rfl) (by kernel_rfl) (((hsub (.cons_cons _ (.cons _ (.cons _ (.refl _))))).trans (hsub_pick [2] rfl))) rfl (y_move rfl) rfl ?_
    refine H_y 1 rfl (by kernel_rfl) (by kernel_rfl) (by kernel_rfl) (((hsub (.cons_cons _ (.cons _ (.cons _ (.refl _))))).trans (hsub_pick [2] rfl))) rfl (y_move rfl) rfl ?_
    refine H_y 2 rfl (by kernel_rfl) (by kernel_rfl) (by kernel_rfl) (((hsub (.cons_cons _ (.cons _ (.cons _ (.refl _))))).trans (hsub_pick [2] rfl))) rfl (y_move rfl) rfl ?_
    refine H_y 3 rfl (by kernel_rfl) (by kernel_rfl) (by kernel_rfl) (((hsub (.cons_cons _ (.cons _ (.cons _ (.refl _))))).trans (hsub_pick [2] rfl))) rfl (y_indexS rfl rfl Try.underlying97 sz_136 (by omega) (by omega) (show _ = o1_ + i * 2 from by simp)) rfl ?_
    refine H_y 4 rfl (by kernel_rfl) (by kernel_rfl) (by kernel_rfl) (((hsub (.cons_cons _ (.cons _ (.cons _ (.refl _))))).trans (hsub_pick [2] rfl))) rfl (y_fieldAddr rfl fl_136_0) rfl ?_
    refine H_y 5 rfl (by kernel_rfl) (by kernel_rfl) (by kernel_rfl) (((hsub (.cons_cons _ (.cons _ (.cons _ (.refl _))))).trans (hsub_pick [2] rfl))) rfl (y_load rfl ag_58 (hs1.up) (lcs_hat hv1 hx).1) rfl ?_
    refine H_y 6 rfl (by kernel_rfl) (by kernel_rfl) (by kernel_rfl) (((hsub (.cons_cons _ (.cons _ (.cons _ (.refl _))))).trans (hsub_pick [2] rfl))) rfl (y_move rfl) rfl ?_
    refine H_y 7 rfl (by kernel_rfl) (by kernel_rfl) (by kernel_rfl) (((hsub (.cons_cons _ (.cons _ (.cons _ (.refl _))))).trans (hsub_pick [2] rfl))) rfl (y_move rfl) rfl ?_
    refine H_y 8 rfl (by kernel_rfl) (by kernel_rfl) (by kernel_rfl) (((hsub (.cons_cons _ (.cons _ (.cons _ (.refl _))))).trans (hsub_pick [2] rfl))) rfl (y_indexS rfl rfl Try.underlying97 sz_136 (by omega) (by omega) (show _ = o1_ + i * 2 from by simp)) rfl ?_
    refine H_y 9 rfl (by kernel_rfl) (by kernel_rfl) (by kernel_rfl) (((hsub (.cons_cons _ (.cons _ (.cons _ (.refl _))))).trans (hsub_pick [2] rfl))) rfl (y_fieldAddr rfl fl_136_1) rfl ?_
    refine H_y 10 rfl (by kernel_rfl) (by kernel_rfl) (by kernel_rfl) (((hsub (.cons_cons _ (.cons _ (.cons _ (.refl _))))).trans (hsub_pick [2] rfl))) rfl (y_load rfl ag_3 (hs1.up) (lcs_hat hv1 hx).2) rfl ?_
    refine H_one 11 rfl (by kernel_rfl) rfl (op_call rfl rfl (fun a w => Try.call29 a w) rfl ?_)
    refine (FnS.sub (hsub_pick [0] rfl) (xput_s hX c.1 (hb c (List.mem_of_getElem? hx)) c.2 (by omega))).mono ?_
    rintro _ _ ⟨rfl, A2, L2, hX2, rfl⟩
    refine ⟨_, rfl, ?_⟩
    refine ⟨((hsub (.cons_cons _ (.cons _ (.cons _ (.refl _))))).trans (hsub_pick [2] rfl)), ?_⟩
    refine H_done (by kernel_rfl) ?_
    refine C_regionH ([(B1, .cells [Value.int .i64 segs, .int .i64 size].toArray 51)] :: H) (by kernel_rfl) ?_
    refine H_y 0 rfl (by kernel_rfl) (by kernel_rfl) (by kernel_rfl) (((hsub (.cons_cons _ (.cons _ (.cons _ (.refl _))))).trans (hsub_pick [2] rfl))) rfl (y_move rfl) rfl ?_
    refine H_y 1 rfl (by kernel_rfl) (by kernel_rfl) (by kernel_rfl) (((hsub (.cons_cons _ (.cons _ (.cons _ (.refl _))))).trans (hsub_pick [2] rfl))) rfl (y_fieldAddr rfl fl_51_0) rfl ?_
    refine H_y 2 rfl (by kernel_rfl) (by kernel_rfl) (by kernel_rfl) (((hsub (.cons_cons _ (.cons _ (.cons _ (.refl _))))).trans (hsub_pick [2] rfl))) rfl (y_load rfl ag_3 (sees 0 0 rfl) rfl) rfl ?_
    refine H_y 3 rfl (by kernel_rfl) (by kernel_rfl) (by kernel_rfl) (((hsub (.cons_cons _ (.cons _ (.cons _ (.refl _))))).trans (hsub_pick [2] rfl))) rfl (y_fieldAddr rfl fl_51_1) rfl ?_
    refine H_y 4 rfl (by kernel_rfl) (by kernel_rfl) (by kernel_rfl) (((hsub (.cons_cons _ (.cons _ (.cons _ (.refl _))))).trans (hsub_pick [2] rfl))) rfl (y_load rfl ag_3 (sees 0 0 rfl) rfl) rfl ?_
    refine H_y 5 rfl (by kernel_rfl) (by kernel_rfl) (by kernel_rfl) (((hsub (.cons_cons _ (.cons _ (.cons _ (.refl _))))).trans (hsub_pick [2] rfl))) rfl (y_move rfl) rfl ?_
    refine H_y 6 rfl (by kernel_rfl) (by kernel_rfl) (by kernel_rfl) (((hsub (.cons_cons _ (.cons _ (.cons _ (.refl _))))).trans (hsub_pick [2] rfl))) rfl (y_move rfl) rfl ?_
    refine H_y 7 rfl (by kernel_rfl) (by kernel_rfl) (by kernel_rfl) (((hsub (.cons_cons _ (.cons _ (.cons _ (.refl _))))).trans (hsub_pick [2] rfl))) rfl (y_indexS rfl rfl Try.underlying97 sz_136 (by omega) (by omega) (show _ = o1_ + i * 2 from by simp)) rfl ?_
    refine H_y 8 rfl (by kernel_rfl) (by kernel_rfl) (by kernel_rfl) (((hsub (.cons_cons _ (.cons _ (.cons _ (.refl _))))).trans (hsub_pick [2] rfl))) rfl (y_fieldAddr rfl fl_136_0) rfl ?_
    refine H_y 9 rfl (by kernel_rfl) (by kernel_rfl) (by kernel_rfl) (((hsub (.cons_cons _ (.cons _ (.cons _ (.refl _))))).trans (hsub_pick [2] rfl))) rfl (y_load rfl ag_58 (hs1.up) (lcs_hat hv1 hx).1) rfl ?_
    refine H_y 10 rfl (by kernel_rfl) (by kernel_rfl) (by kernel_rfl) (((hsub (.cons_cons _ (.cons _ (.cons _ (.refl _))))).trans (hsub_pick [2] rfl))) rfl (y_move rfl) rfl ?_
    refine H_y 11 rfl (by kernel_rfl) (by kernel_rfl) (by kernel_rfl) (((hsub (.cons_cons _ (.cons _ (.cons _ (.refl _))))).trans (hsub_pick [2] rfl))) rfl (y_move rfl) rfl ?_
    refine H_y 12 rfl (by kernel_rfl) (by kernel_rfl) (by kernel_rfl) (((hsub (.cons_cons _ (.cons _ (.cons _ (.refl _))))).trans (hsub_pick [2] rfl))) rfl (y_indexS rfl rfl Try.underlying97 sz_136 (by omega) (by omega) (show _ = o1_ + i * 2 from by simp)) rfl ?_
    refine H_y 13 rfl (by kernel_rfl) (by kernel_rfl) (by kernel_rfl) (((hsub (.cons_cons _ (.cons _ (.cons _ (.refl _))))).trans (hsub_pick [2] rfl))) rfl (y_fieldAddr rfl fl_136_1) rfl ?_
    refine H_y 14 rfl (by kernel_rfl) (by kernel_rfl) (by kernel_rfl) (((hsub (.cons_cons _ (.cons _ (.cons _ (.refl _))))).trans (hsub_pick [2] rfl))) rfl (y_load rfl ag_3 (hs1.up) (lcs_hat hv1 hx).2) rfl ?_
    refine H_one 15 rfl (by kernel_rfl) rfl (op_call rfl rfl (fun a w => Try.call77 a w) rfl ?_)
    refine (FnS.sub (hsub_pick [1] rfl) (put18_false hok (by omega) segs size c.1 c.2 hX.s)).mono ?_
    rintro _ _ ⟨g2, hg2, rfl, rfl⟩
    refine ⟨_, rfl, ?_⟩
    refine ⟨((hsub (.cons_cons _ (.cons _ (.cons _ (.refl _))))).trans (hsub_pick [2] rfl)), ?_⟩
    refine H_y 16 rfl (by kernel_rfl) (by kernel_rfl) (by kernel_rfl) (((hsub (.cons_cons _ (.cons _ (.cons _ (.refl _))))).trans (hsub_pick [2] rfl))) rfl (y_move rfl) rfl ?_
    refine H_y 17 rfl (by kernel_rfl) (by kernel_rfl) (by kernel_rfl) (((hsub (.cons_cons _ (.cons _ (.cons _ (.refl _))))).trans (hsub_pick [2] rfl))) rfl (y_extract rfl rfl) rfl ?_
    refine H_y 18 rfl (by kernel_rfl) (by kernel_rfl) (by kernel_rfl) (((hsub (.cons_cons _ (.cons _ (.cons _ (.refl _))))).trans (hsub_pick [2] rfl))) rfl (y_extract rfl rfl) rfl ?_
    refine H_y 19 rfl (by kernel_rfl) (by kernel_rfl) (by kernel_rfl) (((hsub (.cons_cons _ (.cons _ (.cons _ (.refl _))))).trans (hsub_pick [2] rfl))) rfl (y_assign rfl) rfl ?_
    refine H_done (by kernel_rfl) ?_
    refine C_region ?_
    refine L_y rfl (y_move rfl) rfl ?_
    refine L_y rfl (y_add rfl rfl (show _ = ((i + 1 : Nat) : Int) from by rw [wi64 (by omega) (by omega)]; omega)) rfl ?_
    refine L_y rfl (y_assign rfl) rfl ?_
    refine L_nil ?_
    have hz := laid_next (segs := segs) (size := size) hx
    rw [← hz] at hX2 hg2
    refine ⟨(A2, L2, g2, i + 1), ⟨hX2, hg2, by simp only; rw [hz]; exact Nat.le_trans (xput_len hX.s _ _ _) (Nat.succ_le_succ hxl), by simp only; omega⟩, by simp only; omega, ?_⟩
    try simp only
    rw [hz]
    exact ⟨⟨rfl, rfl, rfl, rfl, rfl, trivial⟩, ((hsub (.cons_cons _ (.cons_cons _ (.cons_cons _ (.refl _))))).trans (hsub_pick [1, 0, 0] rfl))⟩
  · obtain rfl : i = ll.length := by have := of_decide_eq_false hc0; omega
    refine C_exit ?_
    refine C_seq ?_
    refine C_region ?_
    refine L_y rfl (y_move rfl) rfl ?_
    refine L_y rfl (y_move rfl) rfl ?_
    refine L_y rfl (y_assign rfl) rfl ?_
    refine L_y rfl (y_assign rfl) rfl ?_
    refine L_nil ?_
    refine C_ret ?_
    refine B_ret (rv_tmp rfl (rv_tmp rfl rv_nil)) ((hsub (.cons_cons _ (.cons_cons _ (.cons _ (.refl _))))).trans (hsub_pick [0, 0] rfl)) ?_
    rw [List.take_length] at hX hok hxl ⊢
    exact ⟨o1, g, A, L, hX, hok, hxl, rfl, rfl⟩

end Go.Proofs.Ytaeooiogjhkjfaa

/- walks (own work; the walks' lines by a program of this repo). -/
set_option linter.unusedVariables false
set_option linter.unusedSimpArgs false
set_option maxRecDepth 20000
namespace Go.Proofs.Ytaeooiogjhkjfaa
open Go.Sl
attribute [local irreducible] BodyQ WpC WpL WpS WpH OpW FnS


theorem used42_s {w0 : World} {H : Hp} {pa : Option Addr} {k ca : Nat} : FnS Try.prog w0 53 #[.slice pa k ca] H (fun e H' => ∃ b, e = .returned (.func (.func 85) #[] ([ptr b] : List Value).toArray) ∧ H' = [(b, .cells [Value.slice pa k ca].toArray 66)] :: H) := by
  refine FnS_intro (n := 4) (rs := [.tmp 2]) (vs := [.slice pa k ca]) Try.func53 rfl Try.ntmps53 rfl rfl ?_
  refine C_seq ?_
  refine C_region ?_
  refine L_op rfl (op_box rfl rfl rfl (fun B1 => ?_))
  refine L_y rfl (y_assign rfl) rfl ?_
  refine L_nil ?_
  refine C_seq ?_
  refine C_region ?_
  refine L_y rfl (y_makeFunc rfl rfl) rfl ?_
  refine L_y rfl (y_assign rfl) rfl ?_
  refine L_nil ?_
  refine C_ret ?_
  refine B_ret (rv_tmp rfl rv_nil) (HSub.refl _) ?_
  exact ⟨B1, rfl, rfl⟩

theorem used421_s {w0 : World} {H : Hp} {pa : Option Addr} {ca b : Nat} {l : List Bool} (hC : Sees (fun w => St w0 w H) b (.cells [Value.slice pa l.length ca].toArray 66)) (hA : Holds w0 H pa (bos l)) (hl : l.length < 1000000) (k : Int) : FnS Try.prog w0 85 #[.int .i64 k, ptr b] H (fun e H' => e = .returned (.bool (decide (0 ≤ k) && l.getD k.toNat false)) ∧ H' = H) := by
  refine FnS_intro (n := 18) (rs := [.tmp 3]) (vs := [.int .i64 k, ptr b]) Try.func85 rfl Try.ntmps85 rfl rfl ?_
  refine C_seq ?_
  refine C_region ?_
  refine L_y rfl (y_assign rfl) rfl ?_
  refine L_nil ?_
  refine C_seq ?_
  refine C_region ?_
  refine L_y rfl (y_move rfl) rfl ?_
  refine L_y rfl (y_geq rfl rfl) rfl ?_
  refine L_y rfl (y_move rfl) rfl ?_
  refine L_case 6 rfl (fun hg1_3 => ?_) (fun hg1_3 => ?_)
  · have h0 : 0 ≤ k := of_decide_eq_true hg1_3
    refine L_y rfl (y_move rfl) rfl ?_
    refine L_y rfl (y_load rfl ag_66 (hC) rfl) rfl ?_
    refine L_y rfl (y_lenS rfl rfl Try.underlying66) rfl ?_
    refine L_y rfl (y_lss rfl rfl) rfl ?_
    refine L_y rfl (y_pick_t rfl rfl) rfl ?_
    refine L_y rfl (y_move rfl) rfl ?_
    refine L_case 12 rfl (fun hg1_9 => ?_) (fun hg1_9 => ?_)
    · have h1 : k.toNat < l.length := by have := of_decide_eq_true hg1_9; omega
      obtain ⟨b1, o1, l1, T1, fr1, rfl, hs1, hle1, hv1⟩ := hA (by rw [bos_len]; omega)
      refine L_y rfl (y_load rfl ag_66 (hC) rfl) rfl ?_
      refine L_y rfl (y_move rfl) rfl ?_
      refine L_y rfl (y_indexS rfl rfl Try.underlying66 sz_4 (by omega) (by omega) (show _ = o1 + k.toNat * 1 from by simp)) rfl ?_
      refine L_y rfl (y_load rfl ag_4 (hs1) (bos_hat hv1 h1)) rfl ?_
      refine L_y rfl (y_pick_t rfl rfl) rfl ?_
      refine L_y rfl (y_assign rfl) rfl ?_
      refine L_nil ?_
      refine C_ret ?_
      refine B_ret (rv_tmp rfl rv_nil) (hsub (.refl _)) ?_
      refine ⟨congrArg (fun b => Ending.returned (Value.bool b)) ?_, rfl⟩
      first
      | (simp only [decide_eq_true h0, Bool.true_and, h2]; done)
      | (simp only [decide_eq_true h0, Bool.true_and]; done)
      | (simp only [decide_eq_false h0, Bool.false_and]; done)
    · have h1 : ¬ k.toNat < l.length := by have := of_decide_eq_false hg1_9; omega
      have h2 : l.getD k.toNat false = false := by rw [List.getD_eq_getElem?_getD, List.getElem?_eq_none (Nat.le_of_not_lt h1)]; rfl
      refine L_skip rfl rfl ?_
      refine L_skip rfl rfl ?_
      refine L_skip rfl rfl ?_
      refine L_skip rfl rfl ?_
      refine L_y rfl (y_pick_f rfl rfl) rfl ?_
      refine L_y rfl (y_assign rfl) rfl ?_
      refine L_nil ?_
      refine C_ret ?_
      refine B_ret (rv_tmp rfl rv_nil) (hsub (.refl _)) ?_
      refine ⟨congrArg (fun b => Ending.returned (Value.bool b)) ?_, rfl⟩
      first
      | (simp only [decide_eq_true h0, Bool.true_and, h2]; done)
      | (simp only [decide_eq_true h0, Bool.true_and]; done)
      | (simp only [decide_eq_false h0, Bool.false_and]; done)
  · have h0 : ¬ 0 ≤ k := of_decide_eq_false hg1_3
    refine L_skip rfl rfl ?_
    refine L_skip rfl rfl ?_
    refine L_skip rfl rfl ?_
    refine L_skip rfl rfl ?_
    refine L_y rfl (y_pick_f rfl rfl) rfl ?_
    refine L_y rfl (y_move rfl) rfl ?_
    refine L_skip rfl rfl ?_
    refine L_skip rfl rfl ?_
    refine L_skip rfl rfl ?_
    refine L_skip rfl rfl ?_
    refine L_y rfl (y_pick_f rfl rfl) rfl ?_
    refine L_y rfl (y_assign rfl) rfl ?_
    refine L_nil ?_
    refine C_ret ?_
    refine B_ret (rv_tmp rfl rv_nil) (hsub (.refl _)) ?_
    refine ⟨congrArg (fun b => Ending.returned (Value.bool b)) ?_, rfl⟩
    first
    | (simp only [decide_eq_true h0, Bool.true_and, h2]; done)
    | (simp only [decide_eq_true h0, Bool.true_and]; done)
    | (simp only [decide_eq_false h0, Bool.false_and]; done)

end Go.Proofs.Ytaeooiogjhkjfaa

/- What the laws of layer 42 ask (own work). -/
set_option linter.unusedVariables false
set_option linter.unusedSimpArgs false
namespace Go.Sl
theorem holds_sl2 {w0 : World} {H : Hp} {sz e s len cap : Nat} {g : Option SlG} {vs : List Value} {a : Option Addr} (he : slV g len = .slice a len cap) (hs : H[s]? = some (slSeg e g vs)) (hok : slOk sz g len vs) : Holds w0 H a vs := by
  obtain ⟨a', cap', e', h⟩ := holds_sl (w0 := w0) hs hok
  rw [he] at e'
  injection e' with e1 e2 e3
  rw [e1]
  exact h
/-- The gain. -/
def gain42 (segs size : Int) (l : Xl) (seg : Int) (ns : List Nat) : Int :=
  if mayG segs size = false ∨ seg < 0 ∨ segs ≤ seg then 0 else max (size - ((gset segs size l seg ns).length : Int)) 0
theorem most_lo {segs size : Int} (h : mayG segs size = true) : 0 ≤ (segs - 2) * size ∧ (segs - 2) * size ≤ 2048 := by
  obtain ⟨h1, h2, h3, h4⟩ := mayG_spec h
  obtain ⟨m1, m2⟩ := mul_bound h
  have e : (segs - 2) * size = segs * size - 2 * size := Int.sub_mul ..
  have := Int.mul_nonneg (a := segs - 2) (b := size) (by omega) (by omega)
  omega
end Go.Sl

/- walks (own work; the walks' lines by a program of this repo). -/
set_option linter.unusedVariables false
set_option linter.unusedSimpArgs false
set_option maxRecDepth 20000
namespace Go.Proofs.Ytaeooiogjhkjfaa
open Go.Sl
attribute [local irreducible] BodyQ WpC WpL WpS WpH OpW FnS



set_option maxHeartbeats 2000000 in

theorem awake42_s {w0 : World} {H : Hp}  : FnS Try.prog w0 43 #[] H (fun e H' => e = .returned (.bool true) ∧ H' = H) := by
  refine FnS_intro (n := 72) (rs := [.tmp 0]) (vs := []) Try.func43 rfl Try.ntmps43 rfl rfl ?_
  refine C_seq ?_
  refine C_region ?_
  refine L_y rfl (y_assign rfl) rfl ?_
  refine L_nil ?_
  refine C_seq ?_
  refine C_region ?_
  refine L_y rfl (y_build (vs := [(0, _), (1, _)]) rfl pl_51 zl_51 (fill_cons (off := 0) (m := 1) (vs := [_]) rfl rfl rfl (Nat.le_of_ble_eq_true rfl) (fill_cons (off := 1) (m := 1) (vs := [_]) rfl rfl rfl (Nat.le_of_ble_eq_true rfl) rfl))) rfl ?_
  refine L_op rfl (op_alloc zl_51 rfl (fun B1 => ?_))
  refine L_op rfl (op_store 0 0 rfl rfl rfl sz_51 rfl rfl (ones rfl) (by decide) ?_)
  skip
  refine L_nil ?_
  refine C_seq ?_
  refine C_region ?_
  refine L_y rfl (y_loadA rfl ag_51 sz_51 (sees 0 0 rfl) (Nat.le_of_ble_eq_true rfl) rfl) rfl ?_
  refine L_y rfl (y_build (vs := [(0, _), (1, _)]) rfl pl_136 zl_136 (fill_cons (off := 0) (m := 1) (vs := [_]) rfl rfl rfl (Nat.le_of_ble_eq_true rfl) (fill_cons (off := 1) (m := 1) (vs := [_]) rfl rfl rfl (Nat.le_of_ble_eq_true rfl) rfl))) rfl ?_
  refine L_y rfl (y_build (vs := [(0, _), (1, _)]) rfl pl_136 zl_136 (fill_cons (off := 0) (m := 1) (vs := [_]) rfl rfl rfl (Nat.le_of_ble_eq_true rfl) (fill_cons (off := 1) (m := 1) (vs := [_]) rfl rfl rfl (Nat.le_of_ble_eq_true rfl) rfl))) rfl ?_
  refine L_y rfl (y_build (vs := [(0, _), (1, _)]) rfl pl_136 zl_136 (fill_cons (off := 0) (m := 1) (vs := [_]) rfl rfl rfl (Nat.le_of_ble_eq_true rfl) (fill_cons (off := 1) (m := 1) (vs := [_]) rfl rfl rfl (Nat.le_of_ble_eq_true rfl) rfl))) rfl ?_
  refine L_op rfl (op_buildSlice (vs := [(0, _), (1, _), (2, _)]) rfl Try.underlying97 sz_136 zl_136 rfl (by decide) (fill_cons (off := 0) (m := 2) (vs := [_, _]) rfl rfl rfl (Nat.le_of_ble_eq_true rfl) (fill_cons (off := 2) (m := 2) (vs := [_, _]) rfl rfl rfl (Nat.le_of_ble_eq_true rfl) (fill_cons (off := 4) (m := 2) (vs := [_, _]) rfl rfl rfl (Nat.le_of_ble_eq_true rfl) rfl))) rfl (fun B2 => ?_))
  refine L_op rfl (op_call rfl rfl (fun a w => Try.call51 a w) rfl ?_)
  refine (laid_s (ll := [(1, 2), (2, 3), (3, 4)]) (holds_slice (sees 0 0 rfl) (by decide) rfl) (by decide) (by decide) 4 2).mono ?_
  rw [show laidL 4 2 [(1, 2), (2, 3), (3, 4)] = [(1, 2), (2, 3), (3, 4)] from by decide +kernel]
  rintro _ _ ⟨o1, g1, A1, L1, hX, hg1, _, rfl, rfl⟩
  refine ⟨_, rfl, ?_⟩
  refine L_y rfl (y_move rfl) rfl ?_
  refine L_y rfl (y_extract rfl rfl) rfl ?_
  refine L_y rfl (y_extract rfl rfl) rfl ?_
  refine L_y rfl (y_assign rfl) rfl ?_
  refine L_y rfl (y_assign rfl) rfl ?_
  refine L_nil ?_
  refine C_seq ?_
  refine C_region ?_
  refine L_y rfl (y_move rfl) rfl ?_
  refine L_op rfl (op_buildSlice (vs := [(0, _), (1, _), (2, _), (3, _)]) rfl Try.underlying66 sz_4 zl_4 rfl (by decide) (fill_cons (off := 0) (m := 1) (vs := [_]) rfl rfl rfl (Nat.le_of_ble_eq_true rfl) (fill_cons (off := 1) (m := 1) (vs := [_]) rfl rfl rfl (Nat.le_of_ble_eq_true rfl) (fill_cons (off := 2) (m := 1) (vs := [_]) rfl rfl rfl (Nat.le_of_ble_eq_true rfl) (fill_cons (off := 3) (m := 1) (vs := [_]) rfl rfl rfl (Nat.le_of_ble_eq_true rfl) rfl)))) rfl (fun B3 => ?_))
  refine L_op rfl (op_call rfl rfl (fun a w => Try.call53 a w) rfl ?_)
  refine used42_s.mono ?_
  rintro _ _ ⟨uba, rfl, rfl⟩
  refine ⟨_, rfl, ?_⟩
  refine L_op rfl (op_call rfl rfl (fun a w => Try.call48 a w) rfl ?_)
  refine (FnS.sub (hsub_pick [2] rfl) (choose_y hX (fu := 85) (cu := [ptr uba]) (p := (fun k => decide (0 ≤ (k : Int)) && ([true, true, true, false] : List Bool).getD (k : Int).toNat false)) (-1) (fun a w => Try.call85 a w) (fun k hk H1 hs => used421_s (l := [true, true, true, false]) (Sees.sub (by exact sees 0 0 rfl) hs) ((holds_slice (sees 1 0 rfl) (by decide) rfl).sub hs) (by decide) k) (by decide) (v := 2) (by decide +kernel) (by decide) (by decide +kernel))).mono ?_
  rw [show xnums 4 2 [(1, 2), (2, 3), (3, 4)] ((2 : Nat) : Int) = [] from by decide +kernel]
  rintro _ _ ⟨ga, hga, rfl, rfl⟩
  obtain ⟨gaa, gca, gea, _⟩ := holds_sl (w0 := w0) (H := [slSeg 58 ga (us [])]) (s := 0) rfl hga
  rw [gea]
  refine ⟨_, rfl, ?_⟩
  refine L_y rfl (y_move rfl) rfl ?_
  refine L_y rfl (y_extract rfl rfl) rfl ?_
  refine L_y rfl (y_extract rfl rfl) rfl ?_
  refine L_op rfl (op_alloc zl_92 rfl (fun B4 => ?_))
  refine L_op rfl (op_store 0 0 rfl rfl rfl sz_92 rfl rfl (ones rfl) (by decide) ?_)
  skip
  refine L_y rfl (y_assign rfl) rfl ?_
  refine L_nil ?_
  refine C_seq ?_
  refine C_region ?_
  refine L_y rfl (y_move rfl) rfl ?_
  refine L_op rfl (op_buildSlice (vs := [(0, _), (1, _), (2, _), (3, _)]) rfl Try.underlying66 sz_4 zl_4 rfl (by decide) (fill_cons (off := 0) (m := 1) (vs := [_]) rfl rfl rfl (Nat.le_of_ble_eq_true rfl) (fill_cons (off := 1) (m := 1) (vs := [_]) rfl rfl rfl (Nat.le_of_ble_eq_true rfl) (fill_cons (off := 2) (m := 1) (vs := [_]) rfl rfl rfl (Nat.le_of_ble_eq_true rfl) (fill_cons (off := 3) (m := 1) (vs := [_]) rfl rfl rfl (Nat.le_of_ble_eq_true rfl) rfl)))) rfl (fun B5 => ?_))
  refine L_op rfl (op_call rfl rfl (fun a w => Try.call53 a w) rfl ?_)
  refine used42_s.mono ?_
  rintro _ _ ⟨ubb, rfl, rfl⟩
  refine ⟨_, rfl, ?_⟩
  refine L_op rfl (op_call rfl rfl (fun a w => Try.call48 a w) rfl ?_)
  refine (FnS.sub (hsub_pick [4] rfl) (choose_y hX (fu := 85) (cu := [ptr ubb]) (p := (fun k => decide (0 ≤ (k : Int)) && ([true, true, true, false] : List Bool).getD (k : Int).toNat false)) 2 (fun a w => Try.call85 a w) (fun k hk H1 hs => used421_s (l := [true, true, true, false]) (Sees.sub (by exact sees 0 0 rfl) hs) ((holds_slice (sees 1 0 rfl) (by decide) rfl).sub hs) (by decide) k) (by decide) (v := 1) (by decide +kernel) (by decide) (by decide +kernel))).mono ?_
  rw [show xnums 4 2 [(1, 2), (2, 3), (3, 4)] ((1 : Nat) : Int) = [3] from by decide +kernel]
  rintro _ _ ⟨gb, hgb, rfl, rfl⟩
  obtain ⟨gab, gcb, geb, _⟩ := holds_sl (w0 := w0) (H := [slSeg 58 gb (us [3])]) (s := 0) rfl hgb
  rw [geb]
  refine ⟨_, rfl, ?_⟩
  refine L_y rfl (y_move rfl) rfl ?_
  refine L_y rfl (y_extract rfl rfl) rfl ?_
  refine L_y rfl (y_extract rfl rfl) rfl ?_
  refine L_op rfl (op_alloc zl_92 rfl (fun B6 => ?_))
  refine L_op rfl (op_store 0 0 rfl rfl rfl sz_92 rfl rfl (ones rfl) (by decide) ?_)
  skip
  refine L_y rfl (y_assign rfl) rfl ?_
  refine L_nil ?_
  refine C_seq ?_
  refine C_region ?_
  refine L_y rfl (y_move rfl) rfl ?_
  refine L_y rfl (y_move rfl) rfl ?_
  refine L_y rfl (y_fieldAddr rfl fl_92_0) rfl ?_
  refine L_y rfl (y_load rfl ag_3 (sees 5 0 rfl) rfl) rfl ?_
  refine L_y rfl (y_eqi rfl rfl) rfl ?_
  refine L_y rfl (y_pick_t rfl rfl) rfl ?_
  refine L_y rfl (y_move rfl) rfl ?_
  refine L_y rfl (y_fieldAddr rfl fl_92_1) rfl ?_
  refine L_y rfl (y_load rfl ag_63 (sees 5 0 rfl) rfl) rfl ?_
  refine L_y rfl (y_lenS rfl rfl Try.underlying63) rfl ?_
  refine L_y rfl (y_eqi rfl rfl) rfl ?_
  refine L_y rfl (y_pick_t rfl rfl) rfl ?_
  refine L_y rfl (y_move rfl) rfl ?_
  refine L_y rfl (y_move rfl) rfl ?_
  refine L_y rfl (y_loadA rfl ag_51 sz_51 (sees 11 0 rfl) (Nat.le_of_ble_eq_true rfl) rfl) rfl ?_
  refine L_y rfl (y_loadA rfl ag_92 sz_92 (sees 5 0 rfl) (Nat.le_of_ble_eq_true rfl) rfl) rfl ?_
  refine L_op rfl (op_call rfl rfl (fun a w => Try.call50 a w) rfl ?_)
  refine (FnS.sub (hsub_pick [2] rfl) (gain_y (ns := []) hX (holds_sl2 gea (s := 5) rfl hga) (by decide) 2 (by decide) (by decide) (by decide))).mono ?_
  rw [show (max ((2 : Int) - ((gset 4 2 [(1, 2), (2, 3), (3, 4)] 2 []).length : Int)) 0) = 2 from by decide +kernel]
  rintro _ _ ⟨rfl, rfl⟩
  refine ⟨_, rfl, ?_⟩
  refine L_y rfl (y_eqi rfl rfl) rfl ?_
  refine L_y rfl (y_pick_t rfl rfl) rfl ?_
  refine L_y rfl (y_move rfl) rfl ?_
  refine L_y rfl (y_move rfl) rfl ?_
  refine L_y rfl (y_pick_t rfl rfl) rfl ?_
  refine L_y rfl (y_move rfl) rfl ?_
  refine L_y rfl (y_fieldAddr rfl fl_92_0) rfl ?_
  refine L_y rfl (y_load rfl ag_3 (sees 1 0 rfl) rfl) rfl ?_
  refine L_y rfl (y_eqi rfl rfl) rfl ?_
  refine L_y rfl (y_pick_t rfl rfl) rfl ?_
  refine L_y rfl (y_move rfl) rfl ?_
  refine L_y rfl (y_fieldAddr rfl fl_92_1) rfl ?_
  refine L_y rfl (y_load rfl ag_63 (sees 1 0 rfl) rfl) rfl ?_
  refine L_y rfl (y_lenS rfl rfl Try.underlying63) rfl ?_
  refine L_y rfl (y_eqi rfl rfl) rfl ?_
  refine L_y rfl (y_pick_t rfl rfl) rfl ?_
  refine L_y rfl (y_move rfl) rfl ?_
  refine L_y rfl (y_move rfl) rfl ?_
  refine L_y rfl (y_loadA rfl ag_51 sz_51 (sees 11 0 rfl) (Nat.le_of_ble_eq_true rfl) rfl) rfl ?_
  refine L_y rfl (y_loadA rfl ag_92 sz_92 (sees 1 0 rfl) (Nat.le_of_ble_eq_true rfl) rfl) rfl ?_
  refine L_op rfl (op_call rfl rfl (fun a w => Try.call50 a w) rfl ?_)
  refine (FnS.sub (hsub_pick [0] rfl) (gain_y (ns := [3]) hX (holds_sl2 geb (s := 1) rfl hgb) (by decide) 1 (by decide) (by decide) (by decide))).mono ?_
  rw [show (max ((2 : Int) - ((gset 4 2 [(1, 2), (2, 3), (3, 4)] 1 [3]).length : Int)) 0) = 1 from by decide +kernel]
  rintro _ _ ⟨rfl, rfl⟩
  refine ⟨_, rfl, ?_⟩
  refine L_y rfl (y_eqi rfl rfl) rfl ?_
  refine L_y rfl (y_pick_t rfl rfl) rfl ?_
  refine L_y rfl (y_assign rfl) rfl ?_
  refine L_nil ?_
  refine C_ret ?_
  refine B_ret (rv_tmp rfl rv_nil) (hsub (.cons _ (.cons _ (.cons _ (.cons _ (.cons _ (.cons _ (.cons _ (.cons _ (.cons _ (.cons _ (.cons _ (.cons _ (.refl _)))))))))))))) ?_
  exact ⟨rfl, rfl⟩

end Go.Proofs.Ytaeooiogjhkjfaa

/- walks (own work; the walks' lines by a program of this repo). -/
set_option linter.unusedVariables false
set_option linter.unusedSimpArgs false
set_option maxRecDepth 20000
namespace Go.Proofs.Ytaeooiogjhkjfaa
open Go.Sl
attribute [local irreducible] BodyQ WpC WpL WpS WpH OpW FnS


theorem lnew_n {w0 : World} {H : Hp} (segs size : Int) (hm : mayG segs size = false) : FnS Try.prog w0 46 #[shV segs size] H (fun e H' => ∃ b, e = .returned (ptr b) ∧ H' = [(b, .cells [Value.int .i64 0, .int .i64 0].toArray 138)] :: H) := by
  refine FnS_intro (n := 12) (rs := [.tmp 2]) (vs := [shV segs size]) Try.func46 rfl Try.ntmps46 rfl rfl ?_
  refine C_seq ?_
  refine C_region ?_
  refine L_op rfl (op_box rfl rfl rfl (fun B1 => ?_))
  refine L_y rfl (y_assign rfl) rfl ?_
  refine L_nil ?_
  refine C_seq ?_
  refine C_seq ?_
  refine C_region ?_
  refine L_y rfl (y_loadA rfl ag_51 sz_51 (sees 0 0 rfl) (Nat.le_of_ble_eq_true rfl) rfl) rfl ?_
  refine L_op rfl (op_call rfl rfl (fun a w => Try.call27 a w) rfl ?_)
  refine (check_s segs size).mono ?_
  rintro _ _ ⟨rfl, e⟩
  obtain rfl := e.symm
  clear e
  rw [show chkE segs size = 2 from by unfold chkE; rw [hm]; rfl]
  refine ⟨_, rfl, ?_⟩
  refine L_y rfl (y_nei rfl rfl) rfl ?_
  refine L_nil ?_
  refine C_cond_t rfl ?_
  refine C_seq ?_
  refine C_region ?_
  refine L_y rfl (y_build0 pl_138 zl_138) rfl ?_
  refine L_op rfl (op_box rfl rfl rfl (fun B2 => ?_))
  refine L_y rfl (y_assign rfl) rfl ?_
  refine L_nil ?_
  refine C_ret ?_
  refine B_ret (rv_tmp rfl rv_nil) (hsub (.cons_cons _ (.cons _ (.refl _)))) ?_
  exact ⟨B2, rfl, rfl⟩

theorem lnew_y {w0 : World} {H : Hp} (segs size : Int) (hm : mayG segs size = true) : FnS Try.prog w0 46 #[shV segs size] H (fun e H' => ∃ b, e = .returned (ptr b) ∧ H' = [(b, .cells [Value.int .i64 ((segs - 2) * size), .int .i64 0].toArray 138)] :: H) := by
  refine FnS_intro (n := 12) (rs := [.tmp 2]) (vs := [shV segs size]) Try.func46 rfl Try.ntmps46 rfl rfl ?_
  refine C_seq ?_
  refine C_region ?_
  refine L_op rfl (op_box rfl rfl rfl (fun B1 => ?_))
  refine L_y rfl (y_assign rfl) rfl ?_
  refine L_nil ?_
  refine C_seq ?_
  refine C_seq ?_
  refine C_region ?_
  refine L_y rfl (y_loadA rfl ag_51 sz_51 (sees 0 0 rfl) (Nat.le_of_ble_eq_true rfl) rfl) rfl ?_
  refine L_op rfl (op_call rfl rfl (fun a w => Try.call27 a w) rfl ?_)
  refine (check_s segs size).mono ?_
  rintro _ _ ⟨rfl, e⟩
  obtain rfl := e.symm
  clear e
  rw [show chkE segs size = 0 from by unfold chkE; rw [hm]; rfl]
  refine ⟨_, rfl, ?_⟩
  refine L_y rfl (y_nei rfl rfl) rfl ?_
  refine L_nil ?_
  refine C_cond_f rfl ?_
  refine C_skip ?_
  refine C_seq ?_
  refine C_region ?_
  refine L_y rfl (y_loadA rfl ag_51 sz_51 (sees 0 0 rfl) (Nat.le_of_ble_eq_true rfl) rfl) rfl ?_
  refine L_op rfl (op_call rfl rfl (fun a w => Try.call81 a w) rfl ?_)
  refine (most_s segs size hm).mono ?_
  rintro _ _ ⟨rfl, e⟩
  obtain rfl := e.symm
  clear e
  refine ⟨_, rfl, ?_⟩
  refine L_y rfl (y_build (vs := [(0, _)]) rfl pl_138 zl_138 (fill_cons (off := 0) (m := 1) (vs := [_]) rfl rfl rfl (Nat.le_of_ble_eq_true rfl) rfl)) rfl ?_
  refine L_op rfl (op_box rfl rfl rfl (fun B2 => ?_))
  refine L_y rfl (y_assign rfl) rfl ?_
  refine L_nil ?_
  refine C_ret ?_
  refine B_ret (rv_tmp rfl rv_nil) (hsub (.cons_cons _ (.cons _ (.refl _)))) ?_
  exact ⟨B2, rfl, rfl⟩

theorem lmost_s {w0 : World} {H : Hp} {b : Nat} (m l : Int) : FnS Try.prog w0 98 #[ptr b] ([(b, .cells [Value.int .i64 m, .int .i64 l].toArray 138)] :: H) (fun e H' => e = .returned (.int .i64 m) ∧ H' = [(b, .cells [Value.int .i64 m, .int .i64 l].toArray 138)] :: H) := by
  refine FnS_intro (n := 9) (rs := [.tmp 2]) (vs := [ptr b]) Try.func98 rfl Try.ntmps98 rfl rfl ?_
  refine C_seq ?_
  refine C_region ?_
  refine L_y rfl (y_assign rfl) rfl ?_
  refine L_nil ?_
  refine C_seq ?_
  refine C_seq ?_
  refine C_region ?_
  refine L_y rfl (y_move rfl) rfl ?_
  refine L_y rfl (y_eqp rfl rfl Try.underlying87) rfl ?_
  refine L_nil ?_
  refine C_cond_f rfl ?_
  refine C_skip ?_
  refine C_seq ?_
  refine C_region ?_
  refine L_y rfl (y_move rfl) rfl ?_
  refine L_y rfl (y_nilCheck rfl) rfl ?_
  refine L_y rfl (y_fieldAddr rfl fl_138_0) rfl ?_
  refine L_y rfl (y_load rfl ag_3 (sees 0 0 rfl) rfl) rfl ?_
  refine L_y rfl (y_assign rfl) rfl ?_
  refine L_nil ?_
  refine C_ret ?_
  refine B_ret (rv_tmp rfl rv_nil) (HSub.refl _) ?_
  exact ⟨rfl, rfl⟩

theorem llive_s {w0 : World} {H : Hp} {b : Nat} (m l : Int) : FnS Try.prog w0 99 #[ptr b] ([(b, .cells [Value.int .i64 m, .int .i64 l].toArray 138)] :: H) (fun e H' => e = .returned (.int .i64 l) ∧ H' = [(b, .cells [Value.int .i64 m, .int .i64 l].toArray 138)] :: H) := by
  refine FnS_intro (n := 9) (rs := [.tmp 2]) (vs := [ptr b]) Try.func99 rfl Try.ntmps99 rfl rfl ?_
  refine C_seq ?_
  refine C_region ?_
  refine L_y rfl (y_assign rfl) rfl ?_
  refine L_nil ?_
  refine C_seq ?_
  refine C_seq ?_
  refine C_region ?_
  refine L_y rfl (y_move rfl) rfl ?_
  refine L_y rfl (y_eqp rfl rfl Try.underlying87) rfl ?_
  refine L_nil ?_
  refine C_cond_f rfl ?_
  refine C_skip ?_
  refine C_seq ?_
  refine C_region ?_
  refine L_y rfl (y_move rfl) rfl ?_
  refine L_y rfl (y_nilCheck rfl) rfl ?_
  refine L_y rfl (y_fieldAddr rfl fl_138_1) rfl ?_
  refine L_y rfl (y_load rfl ag_3 (sees 0 0 rfl) rfl) rfl ?_
  refine L_y rfl (y_assign rfl) rfl ?_
  refine L_nil ?_
  refine C_ret ?_
  refine B_ret (rv_tmp rfl rv_nil) (HSub.refl _) ?_
  exact ⟨rfl, rfl⟩

theorem lroom_s {w0 : World} {H : Hp} {b : Nat} (m l : Int) (h1 : -4611686018427387904 ≤ m - l) (h2 : m - l ≤ 4611686018427387904) : FnS Try.prog w0 82 #[ptr b] ([(b, .cells [Value.int .i64 m, .int .i64 l].toArray 138)] :: H) (fun e H' => e = .returned (.int .i64 (m - l)) ∧ H' = [(b, .cells [Value.int .i64 m, .int .i64 l].toArray 138)] :: H) := by
  refine FnS_intro (n := 8) (rs := [.tmp 2]) (vs := [ptr b]) Try.func82 rfl Try.ntmps82 rfl rfl ?_
  refine C_seq ?_
  refine C_region ?_
  refine L_y rfl (y_assign rfl) rfl ?_
  refine L_nil ?_
  refine C_seq ?_
  refine C_region ?_
  refine L_y rfl (y_move rfl) rfl ?_
  refine L_op rfl (op_call rfl rfl (fun a w => Try.call98 a w) rfl ?_)
  refine (lmost_s m l).mono ?_
  rintro _ _ ⟨rfl, rfl⟩
  refine ⟨_, rfl, ?_⟩
  refine L_y rfl (y_move rfl) rfl ?_
  refine L_op rfl (op_call rfl rfl (fun a w => Try.call99 a w) rfl ?_)
  refine (llive_s m l).mono ?_
  rintro _ _ ⟨rfl, rfl⟩
  refine ⟨_, rfl, ?_⟩
  refine L_y rfl (y_sub rfl rfl (wi64 (by omega) (by omega))) rfl ?_
  refine L_y rfl (y_assign rfl) rfl ?_
  refine L_nil ?_
  refine C_ret ?_
  refine B_ret (rv_tmp rfl rv_nil) (HSub.refl _) ?_
  exact ⟨rfl, rfl⟩

theorem ltake_s {w0 : World} {H : Hp} {b : Nat} (m c : Int) (h1 : 0 ≤ m) (h2 : m ≤ 2048) : FnS Try.prog w0 47 #[ptr b, .int .i64 c] ([(b, .cells [Value.int .i64 m, .int .i64 0].toArray 138)] :: H) (fun e H' => e = .returned (.int .i64 (if c < 0 then 1 else if m < c then 6 else 0)) ∧ ∃ l', H' = [(b, .cells [Value.int .i64 m, .int .i64 l'].toArray 138)] :: H) := by
  refine FnS_intro (n := 25) (rs := [.tmp 4]) (vs := [ptr b, .int .i64 c]) Try.func47 rfl Try.ntmps47 rfl rfl ?_
  refine C_seq ?_
  refine C_region ?_
  refine L_y rfl (y_assign rfl) rfl ?_
  refine L_nil ?_
  refine C_seq ?_
  refine C_block ?_
  refine C_seq ?_
  refine C_region ?_
  refine L_y rfl (y_move rfl) rfl ?_
  refine L_y rfl (y_eqp rfl rfl Try.underlying87) rfl ?_
  refine L_y rfl (y_move rfl) rfl ?_
  refine L_y rfl (y_move rfl) rfl ?_
  refine L_y rfl (y_lss rfl rfl) rfl ?_
  refine L_y rfl (y_pick_f rfl rfl) rfl ?_
  refine L_y rfl (y_assign rfl) rfl ?_
  refine L_nil ?_
  refine C_cond rfl (fun hc0 => ?_) (fun hc0 => ?_)
  · replace hc0 : c < 0 := of_decide_eq_true hc0
    refine C_seq ?_
    refine C_region ?_
    refine L_y rfl (y_assign rfl) rfl ?_
    refine L_nil ?_
    refine C_ret ?_
    refine B_ret (rv_tmp rfl rv_nil) (hsub (.refl _)) ?_
    refine ⟨?_, _, rfl⟩
    first | (simp [*]; done) | (simp [*]; rfl)
  · replace hc0 : ¬ c < 0 := of_decide_eq_false hc0
    refine C_seq ?_
    refine C_region ?_
    refine L_y rfl (y_move rfl) rfl ?_
    refine L_y rfl (y_move rfl) rfl ?_
    refine L_op rfl (op_call rfl rfl (fun a w => Try.call82 a w) rfl ?_)
    refine (lroom_s m 0 (by omega) (by omega)).mono ?_
    rintro _ _ ⟨rfl, rfl⟩
    refine ⟨_, rfl, ?_⟩
    refine L_y rfl (y_gtr rfl rfl) rfl ?_
    refine L_y rfl (y_assign rfl) rfl ?_
    refine L_nil ?_
    refine C_cond rfl (fun hc1 => ?_) (fun hc1 => ?_)
    · replace hc1 : m < c := by have := of_decide_eq_true hc1; omega
      refine C_seq ?_
      refine C_region ?_
      refine L_y rfl (y_assign rfl) rfl ?_
      refine L_nil ?_
      refine C_ret ?_
      refine B_ret (rv_tmp rfl rv_nil) (hsub (.refl _)) ?_
      refine ⟨?_, _, rfl⟩
      first | (simp [*]; done) | (simp [*]; rfl)
    · replace hc1 : ¬ m < c := by have := of_decide_eq_false hc1; omega
      refine C_skip ?_
      refine C_seq ?_
      refine C_region ?_
      refine L_y rfl (y_move rfl) rfl ?_
      refine L_y rfl (y_nilCheck rfl) rfl ?_
      refine L_y rfl (y_fieldAddr rfl fl_138_1) rfl ?_
      refine L_y rfl (y_load rfl ag_3 (sees 0 0 rfl) rfl) rfl ?_
      refine L_y rfl (y_move rfl) rfl ?_
      refine L_y rfl (y_add rfl rfl (wi64 (by omega) (by omega))) rfl ?_
      refine L_y rfl (y_nilCheck rfl) rfl ?_
      refine L_y rfl (y_fieldAddr rfl fl_138_1) rfl ?_
      refine L_op rfl (op_store1 0 0 rfl rfl rfl sz_3 rfl (Nat.le_of_ble_eq_true rfl) ?_)
      refine L_nil ?_
      refine C_seq ?_
      refine C_region ?_
      refine L_y rfl (y_assign rfl) rfl ?_
      refine L_nil ?_
      refine C_ret ?_
      refine B_ret (rv_tmp rfl rv_nil) (hsub (.refl _)) ?_
      refine ⟨?_, _, rfl⟩
      first | (simp [*]; done) | (simp [*]; rfl)

end Go.Proofs.Ytaeooiogjhkjfaa

/- walks (own work; the walks' lines by a program of this repo). -/
set_option linter.unusedVariables false
set_option linter.unusedSimpArgs false
set_option maxRecDepth 20000
namespace Go.Proofs.Ytaeooiogjhkjfaa
open Go.Sl
attribute [local irreducible] BodyQ WpC WpL WpS WpH OpW FnS


theorem ledger_law_n {w0 : World} {H : Hp} (live segs size : Int) (hm : mayG segs size = false) : FnS Try.prog w0 11 #[shV segs size, .int .i64 live] H (fun e H' => e = .returned (.bool true)) := by
  refine FnS_intro (n := 23) (rs := [.tmp 4]) (vs := [shV segs size, .int .i64 live]) Try.func11 rfl Try.ntmps11 rfl rfl ?_
  refine C_seq ?_
  refine C_region ?_
  refine L_op rfl (op_box rfl rfl rfl (fun B1 => ?_))
  refine L_y rfl (y_assign rfl) rfl ?_
  refine L_nil ?_
  refine C_seq ?_
  refine C_seq ?_
  refine C_region ?_
  refine L_op rfl (op_call rfl rfl (fun a w => Try.call43 a w) rfl ?_)
  refine (awake42_s).mono ?_
  rintro _ _ ⟨rfl, e⟩
  obtain rfl := e.symm
  clear e
  refine ⟨_, rfl, ?_⟩
  refine L_y rfl (y_not rfl) rfl ?_
  refine L_nil ?_
  refine C_cond_f rfl ?_
  refine C_skip ?_
  refine C_seq ?_
  refine C_region ?_
  refine L_y rfl (y_loadA rfl ag_51 sz_51 (sees 0 0 rfl) (Nat.le_of_ble_eq_true rfl) rfl) rfl ?_
  refine L_op rfl (op_call rfl rfl (fun a w => Try.call46 a w) rfl ?_)
  refine (lnew_n segs size hm).mono ?_
  rintro _ _ ⟨kb, rfl, rfl⟩
  refine ⟨_, rfl, ?_⟩
  refine L_y rfl (y_assign rfl) rfl ?_
  refine L_nil ?_
  refine C_seq ?_
  refine C_regionH ([(B1, .cells [Value.int .i64 segs, .int .i64 size].toArray 51)] :: H) (by kernel_rfl) ?_
  refine H_y 0 rfl (by kernel_rfl) (by kernel_rfl) (by kernel_rfl) (((hsub (.cons_cons _ (.cons _ (.refl _)))).trans (hsub_pick [1] rfl))) rfl (y_move rfl) rfl ?_
  refine H_y 1 rfl (by kernel_rfl) (by kernel_rfl) (by kernel_rfl) (((hsub (.cons_cons _ (.cons _ (.refl _)))).trans (hsub_pick [1] rfl))) rfl (y_loadA rfl ag_51 sz_51 (sees 0 0 rfl) (Nat.le_of_ble_eq_true rfl) rfl) rfl ?_
  refine H_y 3 rfl (by kernel_rfl) (by kernel_rfl) (by kernel_rfl) (((hsub (.cons_cons _ (.cons _ (.refl _)))).trans (hsub_pick [1] rfl))) rfl (y_loadA rfl ag_51 sz_51 (sees 0 0 rfl) (Nat.le_of_ble_eq_true rfl) rfl) rfl ?_
  refine H_one 2 rfl (by kernel_rfl) rfl (op_call rfl rfl (fun a w => Try.call44 a w) rfl ?_)
  refine (enough_n segs size live hm).mono ?_
  rintro _ _ ⟨rfl, e⟩
  obtain rfl := e.symm
  clear e
  refine ⟨_, rfl, ?_⟩
  refine ⟨((hsub (.cons_cons _ (.cons _ (.refl _)))).trans (hsub_pick [1] rfl)), ?_⟩
  refine H_one 4 rfl (by kernel_rfl) rfl (op_call rfl rfl (fun a w => Try.call27 a w) rfl ?_)
  refine (check_s segs size).mono ?_
  rintro _ _ ⟨rfl, e⟩
  obtain rfl := e.symm
  clear e
  rw [show chkE segs size = 2 from by unfold chkE; rw [hm]; rfl]
  refine ⟨_, rfl, ?_⟩
  refine ⟨((hsub (.cons_cons _ (.cons _ (.refl _)))).trans (hsub_pick [1] rfl)), ?_⟩
  refine H_y 5 rfl (by kernel_rfl) (by kernel_rfl) (by kernel_rfl) (((hsub (.cons_cons _ (.cons _ (.refl _)))).trans (hsub_pick [1] rfl))) rfl (y_eqi rfl rfl) rfl ?_
  refine H_y 6 rfl (by kernel_rfl) (by kernel_rfl) (by kernel_rfl) (((hsub (.cons_cons _ (.cons _ (.refl _)))).trans (hsub_pick [1] rfl))) rfl (y_move rfl) rfl ?_
  refine H_skip 7 rfl (by kernel_rfl) (by kernel_rfl) (by kernel_rfl) (((hsub (.cons_cons _ (.cons _ (.refl _)))).trans (hsub_pick [1] rfl))) rfl rfl ?_
  refine H_skip 8 rfl (by kernel_rfl) (by kernel_rfl) (by kernel_rfl) (((hsub (.cons_cons _ (.cons _ (.refl _)))).trans (hsub_pick [1] rfl))) rfl rfl ?_
  refine H_skip 9 rfl (by kernel_rfl) (by kernel_rfl) (by kernel_rfl) (((hsub (.cons_cons _ (.cons _ (.refl _)))).trans (hsub_pick [1] rfl))) rfl rfl ?_
  refine H_skip 10 rfl (by kernel_rfl) (by kernel_rfl) (by kernel_rfl) (((hsub (.cons_cons _ (.cons _ (.refl _)))).trans (hsub_pick [1] rfl))) rfl rfl ?_
  refine H_y 11 rfl (by kernel_rfl) (by kernel_rfl) (by kernel_rfl) (((hsub (.cons_cons _ (.cons _ (.refl _)))).trans (hsub_pick [1] rfl))) rfl (y_pick_f rfl rfl) rfl ?_
  refine H_y 12 rfl (by kernel_rfl) (by kernel_rfl) (by kernel_rfl) (((hsub (.cons_cons _ (.cons _ (.refl _)))).trans (hsub_pick [1] rfl))) rfl (y_eqb rfl rfl Try.underlying4) rfl ?_
  refine H_y 13 rfl (by kernel_rfl) (by kernel_rfl) (by kernel_rfl) (((hsub (.cons_cons _ (.cons _ (.refl _)))).trans (hsub_pick [1] rfl))) rfl (y_assign rfl) rfl ?_
  refine H_done (by kernel_rfl) ?_
  refine C_ret ?_
  refine B_ret (rv_tmp rfl rv_nil) (HSub.refl _) ?_
  rfl

theorem ledger_law_y {w0 : World} {H : Hp} (live segs size : Int) (hm : mayG segs size = true) : FnS Try.prog w0 11 #[shV segs size, .int .i64 live] H (fun e H' => e = .returned (.bool true)) := by
  obtain ⟨m1, m2⟩ := most_lo hm
  refine FnS_intro (n := 23) (rs := [.tmp 4]) (vs := [shV segs size, .int .i64 live]) Try.func11 rfl Try.ntmps11 rfl rfl ?_
  refine C_seq ?_
  refine C_region ?_
  refine L_op rfl (op_box rfl rfl rfl (fun B1 => ?_))
  refine L_y rfl (y_assign rfl) rfl ?_
  refine L_nil ?_
  refine C_seq ?_
  refine C_seq ?_
  refine C_region ?_
  refine L_op rfl (op_call rfl rfl (fun a w => Try.call43 a w) rfl ?_)
  refine (awake42_s).mono ?_
  rintro _ _ ⟨rfl, e⟩
  obtain rfl := e.symm
  clear e
  refine ⟨_, rfl, ?_⟩
  refine L_y rfl (y_not rfl) rfl ?_
  refine L_nil ?_
  refine C_cond_f rfl ?_
  refine C_skip ?_
  refine C_seq ?_
  refine C_region ?_
  refine L_y rfl (y_loadA rfl ag_51 sz_51 (sees 0 0 rfl) (Nat.le_of_ble_eq_true rfl) rfl) rfl ?_
  refine L_op rfl (op_call rfl rfl (fun a w => Try.call46 a w) rfl ?_)
  refine (lnew_y segs size hm).mono ?_
  rintro _ _ ⟨kb, rfl, rfl⟩
  refine ⟨_, rfl, ?_⟩
  refine L_y rfl (y_assign rfl) rfl ?_
  refine L_nil ?_
  refine C_seq ?_
  refine C_regionH ([(B1, .cells [Value.int .i64 segs, .int .i64 size].toArray 51)] :: H) (by kernel_rfl) ?_
  refine H_y 0 rfl (by kernel_rfl) (by kernel_rfl) (by kernel_rfl) (((hsub (.cons_cons _ (.cons _ (.refl _)))).trans (hsub_pick [1] rfl))) rfl (y_move rfl) rfl ?_
  refine H_y 1 rfl (by kernel_rfl) (by kernel_rfl) (by kernel_rfl) (((hsub (.cons_cons _ (.cons _ (.refl _)))).trans (hsub_pick [1] rfl))) rfl (y_loadA rfl ag_51 sz_51 (sees 0 0 rfl) (Nat.le_of_ble_eq_true rfl) rfl) rfl ?_
  refine H_y 3 rfl (by kernel_rfl) (by kernel_rfl) (by kernel_rfl) (((hsub (.cons_cons _ (.cons _ (.refl _)))).trans (hsub_pick [1] rfl))) rfl (y_loadA rfl ag_51 sz_51 (sees 0 0 rfl) (Nat.le_of_ble_eq_true rfl) rfl) rfl ?_
  refine H_one 2 rfl (by kernel_rfl) rfl (op_call rfl rfl (fun a w => Try.call44 a w) rfl ?_)
  refine (enough_y segs size live hm).mono ?_
  rintro _ _ ⟨rfl, e⟩
  obtain rfl := e.symm
  clear e
  refine ⟨_, rfl, ?_⟩
  refine ⟨((hsub (.cons_cons _ (.cons _ (.refl _)))).trans (hsub_pick [1] rfl)), ?_⟩
  refine H_one 4 rfl (by kernel_rfl) rfl (op_call rfl rfl (fun a w => Try.call27 a w) rfl ?_)
  refine (check_s segs size).mono ?_
  rintro _ _ ⟨rfl, e⟩
  obtain rfl := e.symm
  clear e
  rw [show chkE segs size = 0 from by unfold chkE; rw [hm]; rfl]
  refine ⟨_, rfl, ?_⟩
  refine ⟨((hsub (.cons_cons _ (.cons _ (.refl _)))).trans (hsub_pick [1] rfl)), ?_⟩
  refine H_y 5 rfl (by kernel_rfl) (by kernel_rfl) (by kernel_rfl) (((hsub (.cons_cons _ (.cons _ (.refl _)))).trans (hsub_pick [1] rfl))) rfl (y_eqi rfl rfl) rfl ?_
  refine H_y 6 rfl (by kernel_rfl) (by kernel_rfl) (by kernel_rfl) (((hsub (.cons_cons _ (.cons _ (.refl _)))).trans (hsub_pick [1] rfl))) rfl (y_move rfl) rfl ?_
  refine H_y 7 rfl (by kernel_rfl) (by kernel_rfl) (by kernel_rfl) (((hsub (.cons_cons _ (.cons _ (.refl _)))).trans (hsub_pick [1] rfl))) rfl (y_move rfl) rfl ?_
  refine H_y 8 rfl (by kernel_rfl) (by kernel_rfl) (by kernel_rfl) (((hsub (.cons_cons _ (.cons _ (.refl _)))).trans (hsub_pick [1] rfl))) rfl (y_move rfl) rfl ?_
  refine H_one 9 rfl (by kernel_rfl) rfl (op_call rfl rfl (fun a w => Try.call47 a w) rfl ?_)
  refine (ltake_s ((segs - 2) * size) live (by omega) (by omega)).mono ?_
  rintro _ _ ⟨rfl, l', rfl⟩
  refine ⟨_, rfl, ?_⟩
  refine ⟨((hsub (.cons_cons _ (.cons _ (.refl _)))).trans (hsub_pick [1] rfl)), ?_⟩
  refine H_y 10 rfl (by kernel_rfl) (by kernel_rfl) (by kernel_rfl) (((hsub (.cons_cons _ (.cons _ (.refl _)))).trans (hsub_pick [1] rfl))) rfl (y_eqi rfl rfl) rfl ?_
  refine H_y 11 rfl (by kernel_rfl) (by kernel_rfl) (by kernel_rfl) (((hsub (.cons_cons _ (.cons _ (.refl _)))).trans (hsub_pick [1] rfl))) rfl (y_pick_t rfl rfl) rfl ?_
  refine H_y 12 rfl (by kernel_rfl) (by kernel_rfl) (by kernel_rfl) (((hsub (.cons_cons _ (.cons _ (.refl _)))).trans (hsub_pick [1] rfl))) rfl (y_eqb rfl rfl Try.underlying4) rfl ?_
  refine H_y 13 rfl (by kernel_rfl) (by kernel_rfl) (by kernel_rfl) (((hsub (.cons_cons _ (.cons _ (.refl _)))).trans (hsub_pick [1] rfl))) rfl (y_assign rfl) rfl ?_
  refine H_done (by kernel_rfl) ?_
  refine C_ret ?_
  refine B_ret (rv_tmp rfl rv_nil) (HSub.refl _) ?_
  refine ret_bool ?_
  by_cases h0 : live < 0
  · rw [if_pos h0, decide_eq_false (by omega : ¬ 0 ≤ live)]; rfl
  · rw [if_neg h0, decide_eq_true (by omega : 0 ≤ live)]
    by_cases h1 : (segs - 2) * size < live
    · rw [if_pos h1, decide_eq_false (by omega : ¬ live ≤ (segs - 2) * size)]; rfl
    · rw [if_neg h1, decide_eq_true (by omega : live ≤ (segs - 2) * size)]; rfl

end Go.Proofs.Ytaeooiogjhkjfaa

/- From a row's reading of a slice of bytes to what a walk asks (own work). -/
set_option linter.unusedVariables false
namespace Go.Sl
open Go.RowKit
end Go.Sl

/- What a row tells of its arguments, for flat types (integers, bools, structs and arrays of these) and slices of them (own work). -/
set_option linter.unusedVariables false
set_option linter.unusedSimpArgs false
namespace Go.Sl
open Go.RowKit
inductive Sc where
  | int (k : IntKind)
  | bool
def Sc.fit : Sc → Value → Prop
  | .int k, v => ∃ n, v = .int k n ∧ (Lit.int k n).wf = true
  | .bool, v => ∃ b, v = .bool b
/-- A row of cells fits a row of scalars. -/
def Fits : List Sc → List Value → Prop
  | [], [] => True
  | s :: ss, v :: vs => s.fit v ∧ Fits ss vs
  | _, _ => False
theorem Fits.length : ∀ {ss : List Sc} {vs : List Value}, Fits ss vs → vs.length = ss.length
  | [], [], _ => rfl
  | _ :: _, _ :: _, h => by simp [Fits.length h.2]
  | [], _ :: _, h => h.elim
  | _ :: _, [], h => h.elim
theorem Fits.append : ∀ {ss tt : List Sc} {vs us : List Value}, Fits ss vs → Fits tt us → Fits (ss ++ tt) (vs ++ us)
  | [], _, [], _, _, h => h
  | _ :: _, _, _ :: _, _, h, k => ⟨h.1, Fits.append h.2 k⟩
  | [], _, _ :: _, _, h, _ => h.elim
  | _ :: _, _, [], _, h, _ => h.elim
theorem Fits.cons_iff {s : Sc} {ss : List Sc} {vs : List Value} : Fits (s :: ss) vs ↔ ∃ v us, vs = v :: us ∧ s.fit v ∧ Fits ss us := by
  cases vs with
  | nil => simp [Fits]
  | cons v us =>
    refine ⟨fun h => ⟨v, us, rfl, h⟩, fun ⟨v', us', e, h⟩ => ?_⟩
    obtain ⟨rfl, rfl⟩ := List.cons.inj e
    exact h
theorem Fits.nil_iff {vs : List Value} : Fits [] vs ↔ vs = [] := by cases vs <;> simp [Fits]
theorem Fits.split : ∀ {ss tt : List Sc} {vs : List Value}, Fits (ss ++ tt) vs → ∃ a b, vs = a ++ b ∧ Fits ss a ∧ Fits tt b
  | [], _, vs, h => ⟨[], vs, rfl, trivial, h⟩
  | s :: ss, tt, vs, h => by
    obtain ⟨v, us, rfl, h1, h2⟩ := Fits.cons_iff.1 h
    obtain ⟨a, b, rfl, h3, h4⟩ := Fits.split (ss := ss) h2
    exact ⟨v :: a, b, rfl, ⟨h1, h3⟩, h4⟩
/-- A row of bytes. -/
theorem Fits.bytes : ∀ {n : Nat} {vs : List Value}, Fits (List.replicate n (.int .u8)) vs → ∃ u : List UInt8, vs = bs u ∧ u.length = n
  | 0, vs, h => ⟨[], by rw [Fits.nil_iff.1 h]; rfl, rfl⟩
  | n + 1, vs, h => by
    rw [List.replicate_succ] at h
    obtain ⟨v, us, rfl, ⟨m, rfl, hm⟩, h2⟩ := Fits.cons_iff.1 h
    obtain ⟨u, rfl, rfl⟩ := Fits.bytes h2
    have hb := bounds_u8 hm
    refine ⟨UInt8.ofNat m.toNat :: u, ?_, rfl⟩
    rw [u8_of_int (by omega) (by omega)]; rfl
def flatF (P : Program) (g : TypeId → Option (List Sc)) : List Field → Nat → Option (List Sc)
  | [], _ => some []
  | f :: fs, off => if f.offset = off then (g f.type).bind fun l => if P.cellsOf f.type = l.length then (flatF P g fs (off + l.length)).map (l ++ ·) else none else none
def flatT (P : Program) : Nat → TypeId → Option (List Sc)
  | 0, _ => none
  | d + 1, t => match P.underlying t with
    | some (.int k) => some [.int k]
    | some .bool => some [.bool]
    | some (.struct fs) => (flatF P (flatT P d) fs.toList 0).bind fun l => if P.cellsOf t = l.length then some l else none
    | some (.array n e) => (flatT P d e).bind fun l => if P.cellsOf e = l.length ∧ P.cellsOf t = n * l.length then some (List.replicate n l).flatten else none
    | _ => none
theorem flatF_fits {P : Program} {g : TypeId → Option (List Sc)} {cs : List Value} : ∀ {fs : List Field} {off : Nat} {sh : List Sc}, flatF P g fs off = some sh →
    (∀ f ∈ fs, ∀ l, g f.type = some l → Fits l ((cs.drop f.offset).take (P.cellsOf f.type))) → Fits sh ((cs.drop off).take sh.length)
  | [], off, sh, h, _ => by
    simp only [flatF, Option.some.injEq] at h
    subst h; simp [Fits]
  | f :: fs, off, sh, h, hf => by
    unfold flatF at h
    split at h
    · rename_i ho
      cases hg : g f.type with
      | none => simp [hg] at h
      | some l =>
        rw [hg] at h; simp only [Option.bind_some] at h
        split at h
        · rename_i hc
          cases hr : flatF P g fs (off + l.length) with
          | none => simp [hr] at h
          | some l2 =>
            simp only [hr, Option.map_some, Option.some.injEq] at h
            subst h
            have h1 := hf f (by simp) l hg
            have h2 := flatF_fits hr (fun f' hf' => hf f' (by simp [hf']))
            rw [ho, hc] at h1
            have h3 := Fits.append h1 h2
            rw [List.length_append, List.take_add, List.drop_drop]
            exact h3
        · cases h
    · cases h
section
variable {H : Type} {enc : TypeId × Value → H} {P : Program} {w : World} {base : Nat} {spare : Nat → Bool} {held : Bool}
theorem arr_fits {l : List Sc} : ∀ {n : Nat} {cs : List Value}, cs.length = n * l.length → (∀ i, i < n → Fits l ((cs.drop (i * l.length)).take l.length)) → Fits (List.replicate n l).flatten cs
  | 0, cs, h, _ => by simp at h; subst h; simp [Fits]
  | n + 1, cs, h, hi => by
    rw [Nat.add_mul, Nat.one_mul] at h
    have h0 := hi 0 (by omega)
    rw [Nat.zero_mul, List.drop_zero] at h0
    have h1 := arr_fits (l := l) (n := n) (cs := cs.drop l.length) (by simp; omega) (fun i hi' => by
      have := hi (i + 1) (by omega)
      rw [List.drop_drop, show l.length + i * l.length = (i + 1) * l.length from by rw [Nat.add_mul, Nat.one_mul, Nat.add_comm]]
      exact this)
    have h2 := Fits.append h0 h1
    rw [List.take_append_drop] at h2
    rw [List.replicate_succ, List.flatten_cons]
    exact h2
theorem flat_trod : ∀ {d : Nat} {t : TypeId} {sh : List Sc}, flatT P d t = some sh → ∀ {fuel : Nat} {cs : List Value} {x : DataW H × List MemPlace}, DataW.trod enc P w base spare held fuel t cs = some x → Fits sh cs
  | 0, _, _, h, _, _, _, _ => by simp [flatT] at h
  | d + 1, t, sh, h, fuel, cs, x, hx => by
    unfold flatT at h
    split at h
    · rename_i k hu
      obtain ⟨n, rfl, _, hw⟩ := DataW.trod_int hu hx
      simp only [Option.some.injEq] at h; subst h
      exact ⟨⟨n, rfl, hw⟩, trivial⟩
    · rename_i hu
      obtain ⟨b, rfl, _⟩ := DataW.trod_bool hu hx
      simp only [Option.some.injEq] at h; subst h
      exact ⟨⟨b, rfl⟩, trivial⟩
    · rename_i fs hu
      obtain ⟨xs, n, _, _, hl, hlen, hf⟩ := DataW.trod_struct hu hx
      cases hF : flatF P (flatT P d) fs.toList 0 with
      | none => simp [hF] at h
      | some l =>
        simp only [hF, Option.bind_some] at h
        split at h
        · rename_i hc
          simp only [Option.some.injEq] at h; subst h
          have := flatF_fits (cs := cs) hF (fun f hfm l' hl' => by
            obtain ⟨i, hi, rfl⟩ := List.getElem_of_mem hfm
            have h1 := hf i _ (by rw [← Array.getElem?_toList]; exact List.getElem?_eq_getElem hi)
            have h2 : i < xs.length := by rw [hlen]; simpa using hi
            rw [List.getElem?_eq_getElem h2] at h1
            exact flat_trod hl' h1)
          rw [List.drop_zero, List.take_of_length_le (by omega)] at this
          exact this
        · cases h
    · rename_i n e hu
      obtain ⟨xs, m, _, _, hl, hlen, hf⟩ := DataW.trod_array hu hx
      cases hF : flatT P d e with
      | none => simp [hF] at h
      | some l =>
        simp only [hF, Option.bind_some] at h
        split at h
        · rename_i hc
          simp only [Option.some.injEq] at h; subst h
          refine arr_fits (by rw [hl, hc.2]) (fun i hi => ?_)
          have h1 := hf i hi
          have h2 : i < xs.length := by omega
          rw [List.getElem?_eq_getElem h2, hc.1] at h1
          exact flat_trod hF h1
        · cases h
    · cases h
/-- A flat struct or array as an argument. -/
theorem flat_agg {d : Nat} {t : TypeId} {sh : List Sc} {v : Value} {D : DataW H} {ps : List MemPlace} (h : flatT P d t = some sh) (hv : ∃ cs, v = .agg cs) (hT : DataW.Trod enc P w base spare held t v D ps) : ∃ cs, v = .agg cs.toArray ∧ Fits sh cs := by
  obtain ⟨cs, rfl⟩ := hv
  obtain ⟨fuel, hf⟩ := hT
  exact ⟨cs.toList, by simp, flat_trod h hf⟩
theorem okWide_agg {r : Reach} {b0 : Nat} {t : TypeId} {v : Value} (ht : isAggT P t = true) (h : Value.okWide P w r b0 t v) : ∃ cs, v = .agg cs := by
  unfold Value.okWide at h
  unfold isAggT at ht
  split at h
  · obtain ⟨cs, rfl, _⟩ := h; exact ⟨cs, rfl⟩
  · obtain ⟨cs, rfl, _⟩ := h; exact ⟨cs, rfl⟩
  · rename_i h1 h2
    cases hu : P.underlying t with
    | none => simp [hu] at ht
    | some dd =>
      cases dd with
      | struct fs => exact absurd hu (h1 fs)
      | array n e => exact absurd hu (h2 n e)
      | _ => simp [hu] at ht
/-- What is told of a slice that came in. -/
def InS (w : World) (sh : List Sc) (a : Option Addr) (len cap : Nat) : Prop :=
  (a = none ∧ len = 0 ∧ cap = 0) ∨ ∃ (x : Addr), a = some x ∧ len ≤ cap ∧ cap ≤ maxLen ∧
    (0 < len → ∃ (b off : Nat) (l : List Value) (T : TypeId) (fr : Nat × Nat), x = ⟨b, off, none⟩ ∧ w.heap[b]? = some (.cells l.toArray T fr) ∧ off + len * sh.length ≤ l.length ∧
      ∀ i, i < len → Fits sh ((l.drop (off + i * sh.length)).take sh.length))
end
end Go.Sl

/- Numbers as bytes, the highest first (own work): plain facts. -/
set_option linter.unusedVariables false
namespace Go.Sl
/-- The bytes of a number, so many. -/
def be (n k : Nat) : List UInt8 := (List.range k).map fun i => UInt8.ofNat (n / 256 ^ (k - 1 - i) % 256)
def val (l : List UInt8) : Nat := l.foldl (fun a b => a * 256 + b.toNat) 0
end Go.Sl

/- Sealed sectors (own work): the little sum, the packed sector, what it is sealed of; plain laws. -/
set_option linter.unusedVariables false
set_option linter.unusedSimpArgs false
namespace Go.Sl
abbrev M64 : Nat := 18446744073709551616
def l1s (x : Nat) (b : UInt8) : Nat := ((x + b.toNat) % M64) * 1099511628211 % M64
def l2s (x : Nat) (b : UInt8) : Nat := (((x + b.toNat) % M64 + 1) % M64) * 1099511628211 % M64
def lsX (x : Nat) : Nat → Nat
  | 0 => x
  | i + 1 => (lsX x i * 6364136223846793005 % M64 + 1442695040888963407) % M64
def litO (x : Nat) : List UInt8 := (List.range 16).map fun i => UInt8.ofNat (lsX x (i + 1) / 72057594037927936)
def ls1 (x : Nat) (k : List UInt8) : Nat := k.foldl l1s x
def ls2 (x : Nat) (u : List UInt8) : Nat := u.foldl l2s x
/-- The little cipher's sum. -/
def litSum (k u : List UInt8) : List UInt8 := litO (ls2 (ls1 (u.length % M64) k) u)
/-! ### The sealed sector -/
def K0 : List UInt8 := List.replicate 32 0
/-- What stands behind the sum. -/
def restS (gen : Nat) (body : List UInt8) : List UInt8 := be gen 8 ++ (UInt8.ofNat body.length :: (body ++ List.replicate (103 - body.length) 0))
def sumS (a : Nat) (s : List UInt8) : List UInt8 := litSum K0 (be a 4 ++ s.drop 16)
def packS (a gen : Nat) (body : List UInt8) : Sec := sumS a (List.replicate 16 0 ++ restS gen body) ++ restS gen body
abbrev packOk (a : Int) (body : List UInt8) : Prop := 0 ≤ a ∧ a < 4096 ∧ body.length ≤ 103
def genS (s : Sec) : Nat := val ((s.drop 16).take 8)
def lenS (s : Sec) : Nat := (s.getD 24 0).toNat
def bodyS (s : Sec) : List UInt8 := (s.drop 25).take (lenS s)
/-- Is it sealed at the place? -/
abbrev isS (a : Int) (s : Sec) : Prop := lenS s ≤ 103 ∧ 0 ≤ a ∧ a < 4096 ∧ packS a.toNat (genS s) (bodyS s) = s
/-! ### A sector while it is packed -/
def pS1 (gen : Nat) : List UInt8 := List.replicate 16 0 ++ (be gen 8 ++ List.replicate 104 0)
def pS2 (gen n : Nat) : List UInt8 := List.replicate 16 0 ++ (be gen 8 ++ (UInt8.ofNat n :: List.replicate 103 0))
def pS3 (gen : Nat) (body : List UInt8) : List UInt8 := List.replicate 16 0 ++ restS gen body
/-! ### What both tell -/
def packR (a : Int) (gen : Nat) (body : List UInt8) : Sec := if packOk a body then packS a.toNat gen body else secOf 0
def unpG (a : Int) (s : Sec) : Nat := if isS a s then genS s else 0
def unpB (a : Int) (s : Sec) : List UInt8 := if isS a s then bodyS s else []
/-! ### The document's packing -/
theorem map_set {α : Type} (f f' : Nat → α) (n i : Nat) (h : ∀ j, j ≠ i → f j = f' j) : ((List.range n).map f).set i (f' i) = (List.range n).map f' := by
  apply List.ext_getElem?
  intro j
  rw [List.getElem?_set]
  by_cases hj : i = j
  · subst hj
    by_cases hi : i < n <;> simp [hi]
  · simp only [hj, if_false, List.getElem?_map]
    by_cases hi : j < n
    · simp [hi, h j (Ne.symm hj)]
    · simp [List.getElem?_eq_none (show (List.range n).length ≤ j by simp; omega)]
def rB (gen k : Nat) : List UInt8 := (List.range 8).map fun j => if 8 ≤ j + k then UInt8.ofNat (gen / 256 ^ (7 - j) % 256) else 0
def rP0 (gen k : Nat) : List UInt8 := List.replicate 16 0 ++ (rB gen k ++ List.replicate 104 0)
def rP2 (gen : Nat) (body : List UInt8) (i : Nat) : List UInt8 := (List.replicate 16 0 ++ (be gen 8 ++ [UInt8.ofNat body.length])) ++ ((body.take i ++ List.replicate (103 - i) 0) ++ [])
def rP4 (gen : Nat) (body x : List UInt8) (i : Nat) : List UInt8 := [] ++ ((x.take i ++ List.replicate (16 - i) 0) ++ restS gen body)
/-! ### Laws -/
/-- The document's example. -/
abbrev abc : List UInt8 := [97, 98, 99]
def abcS : Sec := packS 5 7 abc
end Go.Sl

/- Rows over bytes (own work). -/
set_option linter.unusedVariables false
namespace Go.Sl
open Go.RowKit
end Go.Sl

