/- The copy of slices, and segments picked in another order (own work). -/
import Derived.Test.YtoaalclbplgegaaSlF
set_option linter.unusedVariables false
set_option linter.unusedSimpArgs false
namespace Go.Sl
variable {P : Program} {n : FN} {w0 : World} {Q : Post} {E E' : Env} {H H' HS : Hp} {W : World → Prop} {K : Env → Hp → Prop}
variable {d : Option Nat} {ty t t2 : Nat} {ps : String} {af : Array Edge} {g : Option (Nat × Bool)} {x y c : Operand}
def pick : List Nat → Hp → Hp
  | [], X => X
  | i :: is, X => match X[i]? with
    | some s => s :: pick is (X.eraseIdx i)
    | none => pick is X
theorem erase_perm {α : Type} : ∀ (X : List α) (i : Nat) (s : α), X[i]? = some s → X.Perm (s :: X.eraseIdx i)
  | [], _, _, h => by simp at h
  | x :: X, 0, s, h => by simp at h; subst h; exact .refl _
  | x :: X, i + 1, s, h => by
    simp only [List.getElem?_cons_succ] at h
    exact ((erase_perm X i s h).cons x).trans (.swap s x _)
theorem pick_perm : ∀ (is : List Nat) (X : Hp), X.Perm (pick is X)
  | [], X => .refl _
  | i :: is, X => by
    unfold pick
    cases h : X[i]? with
    | none => exact pick_perm is X
    | some s =>
      exact (erase_perm X i s h).trans ((pick_perm is _).cons _)
theorem hsub_pick {H' X : Hp} (is : List Nat) (e : pick is X = H') : HSub H' X := by
  subst e
  exact .of_perm (pick_perm is X).flatten
theorem op_copy {e m b off dl dc sl sc b2 off2 : Nat} {l l2 vs : List Value} {T T2 : TypeId} {fr : Nat × Nat} {t0 t1 : TypeId} (s j : Nat) (hx : ev E x = some (.slice (some ⟨b, off, none⟩) dl dc)) (hy : ev E y = some (.slice (some ⟨b2, off2, none⟩) sl sc))
    (hu : P.underlying t0 = some (.slice e)) (hz : szT P e = some m) (hs : Sees (fun w => St w0 w H) b2 (.cells l2.toArray T2 fr)) (hl2 : off2 + min sl dl * m ≤ l2.length) (hvs : (l2.drop off2).take (min sl dl * m) = vs)
    (hH : getH H s j = some (b, .cells l.toArray T)) (ho : ∀ v ∈ vs, one v = true) (hlen : off + min sl dl * m ≤ l.length) (hd : dok d n = true)
    (k : K (put E d (.int .i64 ((min sl dl : Nat) : Int))) (setH H s j (.cells (spl l off vs).toArray T))) :
    OpW P n w0 Q ⟨d, .call { callee := .builtin .copy, args := [x, y].toArray, argTypes := #[t0, t1] }, ty, ps, af, g⟩ E H K := op_run hd fun a w ha hw => by
  have h : w.heap[b]? = some (.cells l.toArray T (0, 0)) := hw.has _ (getH_mem hH)
  have hv : vs.length = min sl dl * m := by rw [← hvs]; simp; omega
  refine ⟨_, _, _, ?_, hw.putB hH _, k⟩
  have h1 := run_loadCells_at (P := P) (hs w hw) hl2
  rw [hvs] at h1
  have h2 := run_storeCells' (P := P) h ho (off := off) (by omega)
  have hev := evals (n := n) (E := E) ha (l := [x, y]) (vs := [.slice (some ⟨b, off, none⟩) dl dc, .slice (some ⟨b2, off2, none⟩) sl sc]) (by simp [hx, hy])
  have hr : (Builtin.copy_ #[t0, t1] ty #[.slice (some ⟨b, off, none⟩) dl dc, .slice (some ⟨b2, off2, none⟩) sl sc]).run P w = .ok (.int .i64 ((min sl dl : Nat) : Int)) (putB w b (.cells (spl l off vs).toArray T (0, 0))) := by
    have q0 : (#[t0, t1] : Array TypeId)[0]? = some t0 := rfl
    have q2 : (#[Value.slice (some ⟨b, off, none⟩) dl dc, .slice (some ⟨b2, off2, none⟩) sl sc] : Array Value)[0]? = some (.slice (some ⟨b, off, none⟩) dl dc) := rfl
    have q3 : (#[Value.slice (some ⟨b, off, none⟩) dl dc, .slice (some ⟨b2, off2, none⟩) sl sc] : Array Value)[1]? = some (.slice (some ⟨b2, off2, none⟩) sl sc) := rfl
    unfold Builtin.copy_
    simp only [q0, q2, q3]
    rw [Sem.run_bind, run_underlying hu]
    simp only [Result.andThen_ok]
    rw [Sem.run_bind, show (Builtin.lenOf (.slice (some ⟨b2, off2, none⟩) sl sc)).run P w = .ok sl w from rfl]
    simp only [Result.andThen_ok]
    rw [Sem.run_bind, run_sizeOf hz]
    simp only [Result.andThen_ok, Sem.run_bind, Builtin.firstCells]
    rw [show Nat.min sl dl * m = min sl dl * m from rfl, h1]
    simp only [Result.andThen_ok, h2, Sem.run_pure]
    rfl
  simp only [execOp, resolve, Sem.run_bind, Sem.run_pure, Result.andThen_ok, invoke, List.map_toArray, hev, builtin]
  rw [show (#[Value.slice (some ⟨b, off, none⟩) dl dc, .slice (some ⟨b2, off2, none⟩) sl sc] : Array Value) = [Value.slice (some ⟨b, off, none⟩) dl dc, .slice (some ⟨b2, off2, none⟩) sl sc].toArray from rfl] at hr
  rw [hr]
  rfl
theorem y_lenV {sz m e : Nat} {gs : Option SlG} {xs : List Value} {tys : Array TypeId} (hok : slOk sz gs m xs) (hx : ev E x = some (slV gs m)) (h0 : tys[0]? = some t) (hu : P.underlying t = some (.slice e)) :
    YV P n E W (.call { callee := .builtin .len, args := [x].toArray, argTypes := tys }) ty (.int .i64 m) := by
  cases gs with
  | none => obtain rfl : m = 0 := hok.2; exact y_lenS hx h0 hu
  | some g => exact y_lenS hx h0 hu
theorem spl_all {l vs : List Value} (h : l.length = vs.length) : spl l 0 vs = vs := by
  rw [spl_eq vs l 0 (by omega)]
  simp [h]
/-- A store of a whole block. -/
theorem op_storeA {b m : Nat} {v : Value} {vs l : List Value} {T : TypeId} (s j : Nat) (hx : ev E x = some (.pointer (some ⟨b, 0, none⟩))) (hy : ev E y = some v) (hv : v.cells = vs.toArray) (hz : szT P t = some m) (hm : vs.length = m)
    (hH : getH H s j = some (b, .cells l.toArray T)) (ho : ∀ v ∈ vs, one v = true) (hlen : l.length = m) (k : K E (setH H s j (.cells vs.toArray T))) :
    OpW P n w0 Q ⟨none, .store t x y, ty, ps, af, g⟩ E H K :=
  op_store s j hx hy hv hz hm hH ho (by omega) (by rw [spl_all (by omega)]; exact k)
theorem bs_whole (u : List UInt8) {k : Nat} (h : u.length = k) : (bs u).take k = bs u := List.take_of_length_le (by rw [bs_length]; omega)
theorem bs_whole0 (u : List UInt8) {k : Nat} (h : u.length = k) : ((bs u).drop 0).take k = bs u := by rw [List.drop_zero, bs_whole u h]
theorem ret_bool {b b' : Bool} (h : b = b') : Ending.returned (.bool b) = .returned (.bool b') := by rw [h]
theorem ret_int {k : IntKind} {b b' : Int} (h : b = b') : Ending.returned (.int k b) = .returned (.int k b') := by rw [h]
/-- What a slice holds. -/
def Holds (w0 : World) (H : Hp) (a : Option Addr) (vs : List Value) : Prop :=
  0 < vs.length → ∃ (b off : Nat) (l : List Value) (T : TypeId) (fr : Nat × Nat), a = some ⟨b, off, none⟩ ∧ Sees (fun w => St w0 w H) b (.cells l.toArray T fr) ∧ off + vs.length ≤ l.length ∧ (l.drop off).take vs.length = vs
theorem Holds.sub {H' : Hp} {a : Option Addr} {vs : List Value} (h : Holds w0 H' a vs) (hs : HSub H' H) : Holds w0 H a vs := fun hp => by
  obtain ⟨b, off, l, T, fr, h1, h2, h3, h4⟩ := h hp
  exact ⟨b, off, l, T, fr, h1, h2.sub hs, h3, h4⟩
theorem Holds.up {a : Option Addr} {vs : List Value} {X : List (Nat × Obj)} (h : Holds w0 H a vs) : Holds w0 (X :: H) a vs := h.sub (HSub.drop _ _)
theorem holds_sl {sz e s len : Nat} {g : Option SlG} {vs : List Value} (hs : H[s]? = some (slSeg e g vs)) (hok : slOk sz g len vs) : ∃ a cap, slV g len = .slice a len cap ∧ Holds w0 H a vs := by
  cases g with
  | none =>
    obtain ⟨h1, rfl⟩ := hok
    exact ⟨none, 0, rfl, fun hp => by rw [Nat.zero_mul] at h1; omega⟩
  | some g =>
    refine ⟨_, _, rfl, fun hp => ⟨g.b, 0, vs ++ g.sp, e, (0, 0), rfl, ?_, by simp, by simp⟩⟩
    exact sees_mem (List.mem_flatten.2 ⟨_, List.mem_of_getElem? hs, by simp [slSeg]⟩)
theorem holds_slice {b off : Nat} {l vs : List Value} {T : TypeId} {fr : Nat × Nat} (hs : Sees (fun w => St w0 w H) b (.cells l.toArray T fr)) (hl : off + vs.length ≤ l.length) (hv : (l.drop off).take vs.length = vs) : Holds w0 H (some ⟨b, off, none⟩) vs :=
  fun _ => ⟨b, off, l, T, fr, rfl, hs, hl, hv⟩
theorem hsub_nil1 {a : List (Nat × Obj)} {r : Hp} : HSub (a :: [] :: r) (a :: r) := hsub_flat rfl
theorem hsub_nil2 {a b : List (Nat × Obj)} {r : Hp} : HSub (a :: b :: [] :: r) (a :: b :: r) := hsub_flat rfl
end Go.Sl
