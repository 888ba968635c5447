/- The calculus, fifth part (own work): slices that grow, copies, slice expressions, built structs, equality of arrays, bytes and texts. -/
import Derived.Test.YtoaalclbplgegaaSlD
import Derived.Stop.BytesEq
import Derived.Laws.BytesString
set_option linter.unusedVariables false
set_option linter.unusedSimpArgs false
namespace Go.Sl
open Go.RowKit (Below)
variable {P : Program} {n : FN} {w0 : World} {Q : Post} {E E' : Env} {H H' HS : Hp} {W : World → Prop} {K : Env → Hp → Prop}
variable {d : Option Nat} {ty t t2 : Nat} {ps : String} {af : Array Edge} {g : Option (Nat × Bool)} {x y c : Operand}

/-! ### Bytes -/
def u8 (b : UInt8) : Value := .int .u8 b.toNat
def bs (l : List UInt8) : List Value := l.map u8
theorem bs_length (l : List UInt8) : (bs l).length = l.length := by simp [bs]
theorem bs_get (l : List UInt8) (i : Nat) : (bs l)[i]? = (l[i]?).map u8 := by simp [bs]
theorem bs_append (l m : List UInt8) : bs (l ++ m) = bs l ++ bs m := by simp [bs]
theorem bs_take (l : List UInt8) (i : Nat) : (bs l).take i = bs (l.take i) := by simp [bs]
theorem bs_drop (l : List UInt8) (i : Nat) : (bs l).drop i = bs (l.drop i) := by simp [bs]
theorem bs_set (l : List UInt8) (i : Nat) (b : UInt8) : (bs l).set i (u8 b) = bs (l.set i b) := by simp [bs]
theorem bs_one (l : List UInt8) : ∀ v ∈ bs l, one v = true := by
  intro v hv
  simp only [bs, List.mem_map] at hv
  obtain ⟨b, _, rfl⟩ := hv
  rfl
theorem bs_replicate (k : Nat) (b : UInt8) : bs (List.replicate k b) = List.replicate k (u8 b) := by simp [bs]
theorem u8_inj {a b : UInt8} (h : u8 a = u8 b) : a = b := by
  simp only [u8, Value.int.injEq, true_and] at h
  exact UInt8.toNat_inj.1 (by omega)
theorem bs_inj {l m : List UInt8} (h : bs l = bs m) : l = m := by
  induction l generalizing m with
  | nil => cases m <;> simp [bs] at h <;> rfl
  | cons a l ih => cases m with
    | nil => simp [bs] at h
    | cons b m =>
      simp only [bs, List.map_cons, List.cons.injEq] at h
      rw [u8_inj h.1, ih h.2]
theorem u8_of_int {m : Int} (h0 : 0 ≤ m) (h1 : m < 256) : Value.int .u8 m = u8 (UInt8.ofNat m.toNat) := by
  simp only [u8, Value.int.injEq, true_and]
  simp
  omega
theorem spl_bs {vs l : List UInt8} {i : Nat} (h : i + vs.length ≤ l.length) : spl (bs l) i (bs vs) = bs (l.take i ++ vs ++ l.drop (i + vs.length)) := by
  rw [spl_eq _ _ _ (by simpa [bs_length] using h)]
  simp [bs]
theorem y_eqa {e : Nat} {m : Nat} {a b : List UInt8} (hx : ev E x = some (.agg (bs a).toArray)) (hy : ev E y = some (.agg (bs b).toArray)) (hu : P.underlying t = some (.array m e)) (he : P.underlying e = some (.int .u8)) (hz : szT P e = some 1)
    (hg : P.eqGuardType P.depth t = false) (ha : a.length = m) (hb : b.length = m) : YV P n E W (.binOp .eql t x y t2) ty (.bool (decide (a = b))) := fun fr w hfr _ d ps af g => by
  have h := run_eql_bytes (P := P) w t e m hu he (fun w => run_sizeOf hz w) a b ha hb
  simp only [execOp, hfr.eval hx, hfr.eval hy, Sem.run_bind, run_eqGuard_agg w .eql t x y _ _ hg, Result.andThen_ok]
  rw [show (binOp BinOp.eql t (Value.agg (bs a).toArray) (Value.agg (bs b).toArray)).run P w = .ok (.bool (a == b)) w from h]
  simp only [Result.andThen_ok, Sem.run_pure]
  congr 3
  rw [Bool.eq_iff_iff]; simp
theorem y_nea {e : Nat} {m : Nat} {a b : List UInt8} (hx : ev E x = some (.agg (bs a).toArray)) (hy : ev E y = some (.agg (bs b).toArray)) (hu : P.underlying t = some (.array m e)) (he : P.underlying e = some (.int .u8)) (hz : szT P e = some 1)
    (hg : P.eqGuardType P.depth t = false) (ha : a.length = m) (hb : b.length = m) : YV P n E W (.binOp .neq t x y t2) ty (.bool (!decide (a = b))) := fun fr w hfr _ d ps af g => by
  have h := run_equalIn_bytes (P := P) w 9998 t e m hu he (fun w => run_sizeOf hz w) a b ha hb
  have h' : (Op.equalIn 10000 t (.agg (bs a).toArray) (.agg (bs b).toArray)).run P w = .ok (a == b) w := h
  simp only [execOp, hfr.eval hx, hfr.eval hy, Sem.run_bind, run_eqGuard_agg w .neq t x y _ _ hg, Result.andThen_ok]
  rw [run_neq_struct, h']
  simp only [Result.andThen_ok, Sem.run_pure]
  congr 4
  rw [Bool.eq_iff_iff]; simp
theorem str_beq (l m : List UInt8) : ((⟨l.toArray⟩ : ByteArray).toList == (⟨m.toArray⟩ : ByteArray).toList) = decide (l = m) := by
  rw [ByteArray.toList_eq, ByteArray.toList_eq]
  rw [Bool.eq_iff_iff]; simp
theorem y_eqstr {a b : List UInt8} (hx : ev E x = some (.string ⟨a.toArray⟩)) (hy : ev E y = some (.string ⟨b.toArray⟩)) : YV P n E W (.binOp .eql t x y t2) ty (.bool (decide (a = b))) := fun fr w hfr _ d ps af g => by
  simp only [execOp, hfr.eval hx, hfr.eval hy, eqGuard_at_string, binOp, Op.stringOp, str_beq]
  simp
theorem y_nestr {a b : List UInt8} (hx : ev E x = some (.string ⟨a.toArray⟩)) (hy : ev E y = some (.string ⟨b.toArray⟩)) : YV P n E W (.binOp .neq t x y t2) ty (.bool (!decide (a = b))) := fun fr w hfr _ d ps af g => by
  simp only [execOp, hfr.eval hx, hfr.eval hy, eqGuard_at_string, binOp, Op.stringOp, str_beq]
  simp
theorem foldl_push : ∀ (l : List UInt8) (s : ByteArray), (l.map fun b => ((b.toNat : Nat) : Int)).foldl (fun r m => r.push (UInt8.ofNat m.toNat)) s = ⟨s.data ++ l.toArray⟩
  | [], s => by simp
  | b :: l, s => by
    simp only [List.map_cons, List.foldl_cons, foldl_push l]
    congr 1
    simp [ByteArray.push]
theorem y_str {src dst e b off len cap : Nat} {l : List Value} {u : List UInt8} {T : TypeId} {fr : Nat × Nat} (hx : ev E x = some (.slice (some ⟨b, off, none⟩) len cap)) (hs : P.underlying src = some (.slice e)) (he : P.underlying e = some (.int .u8)) (hd : P.underlying dst = some .string)
    (hb : Sees W b (.cells l.toArray T fr)) (hl : off + len ≤ l.length) (hu : (l.drop off).take len = bs u) : YV P n E W (.convert src dst x) ty (.string ⟨u.toArray⟩) := fun a w ha hw d ps af g => by
  have h1 := run_loadCells_at (P := P) (hb w hw) hl
  rw [hu] at h1
  have h2 := run_bytesToString (P := P) w ⟨b, off, none⟩ len cap (u.map fun b => ((b.toNat : Nat) : Int)) (by rw [h1]; simp [bs, u8, List.map_map, Function.comp_def])
  simp only [execOp, ha.eval hx, Sem.run_bind, run_convert_bytes_string w src dst e _ _ _ hs he hd, h2, Result.andThen_ok, Sem.run_pure, foldl_push]
  simp
theorem y_str0 {src dst e len cap : Nat} (hx : ev E x = some (.slice none len cap)) (hs : P.underlying src = some (.slice e)) (he : P.underlying e = some (.int .u8)) (hd : P.underlying dst = some .string) :
    YV P n E W (.convert src dst x) ty (.string ⟨#[]⟩) := fun a w ha hw d ps af g => by
  simp only [execOp, ha.eval hx, Sem.run_bind, run_convert_bytes_string w src dst e _ _ _ hs he hd, Conv.bytesToString, Sem.run_pure, Result.andThen_ok]
  rfl

/-! ### Slice expressions -/
theorem run_bound {k : IntKind} {i : Int} {m : Nat} {code : BoundsCode} (h0 : 0 ≤ i) (h1 : i ≤ m) (w : World) : (Instr.sliceBound (.int k i) m code).run P w = .ok i.toNat w := by
  simp only [Instr.sliceBound, asIntOf, Sem.run_bind, Sem.run_pure, Result.andThen_ok]
  rw [if_pos ⟨h0, h1⟩]
  rfl
/-- 's[lo:hi]' of a slice. -/
theorem y_sliceS {e m b off len cap : Nat} {k k' : IntKind} {lo hi : Int} {r : Option Addr} (hx : ev E x = some (.slice (some ⟨b, off, none⟩) len cap)) (hy : ev E y = some (.int k lo)) (hc : ev E c = some (.int k' hi))
    (hu : P.underlying t = some (.slice e)) (hz : szT P e = some m) (h0 : 0 ≤ lo) (h1 : lo ≤ hi) (h2 : hi ≤ cap) (hr : (if cap = lo.toNat then some ⟨b, off, none⟩ else some ⟨b, off + lo.toNat * m, none⟩) = r) :
    YV P n E W (.slice t x (some y) (some c) none) ty (.slice r (hi.toNat - lo.toNat) (cap - lo.toNat)) := fun a w ha _ d ps af g => by
  have b1 := fun code => run_bound (P := P) (k := k') (code := code) (show 0 ≤ hi by omega) h2 w
  have b2 := fun code => run_bound (P := P) (k := k) (m := hi.toNat) (code := code) h0 (by omega) w
  simp only [execOp, ha.eval hx, ha.eval hy, ha.eval hc, Option.map_some, Option.map_none, Instr.sliceAt, Sem.run_bind, run_underlying hu, Result.andThen_ok, Instr.slice, Instr.sliceBounds, if_true, b1, b2, Sem.run_pure, run_sizeOf hz, Option.isSome_none, Bool.false_eq_true, if_false]
  rw [← hr]
  simp only [addr_add]
theorem y_sliceS_lo {e m b off len cap : Nat} {k : IntKind} {lo : Int} {r : Option Addr} (hx : ev E x = some (.slice (some ⟨b, off, none⟩) len cap)) (hy : ev E y = some (.int k lo))
    (hu : P.underlying t = some (.slice e)) (hz : szT P e = some m) (h0 : 0 ≤ lo) (h1 : lo ≤ len) (hr : (if cap = lo.toNat then some ⟨b, off, none⟩ else some ⟨b, off + lo.toNat * m, none⟩) = r) :
    YV P n E W (.slice t x (some y) none none) ty (.slice r (len - lo.toNat) (cap - lo.toNat)) := fun a w ha _ d ps af g => by
  have b2 := fun code => run_bound (P := P) (k := k) (m := len) (code := code) h0 (by omega) w
  simp only [execOp, ha.eval hx, ha.eval hy, Option.map_some, Option.map_none, Instr.sliceAt, Sem.run_bind, run_underlying hu, Result.andThen_ok, Instr.slice, Instr.sliceBounds, if_true, b2, Sem.run_pure, run_sizeOf hz, Option.isSome_none, Bool.false_eq_true, if_false]
  rw [← hr]
  simp only [addr_add]
theorem y_sliceS_hi {e m len cap : Nat} {p : Option Addr} {k' : IntKind} {hi : Int} (hx : ev E x = some (.slice p len cap)) (hc : ev E c = some (.int k' hi))
    (hu : P.underlying t = some (.slice e)) (hz : szT P e = some m) (h1 : 0 ≤ hi) (h2 : hi ≤ cap) :
    YV P n E W (.slice t x none (some c) none) ty (.slice p hi.toNat cap) := fun a w ha _ d ps af g => by
  have b1 := fun code => run_bound (P := P) (k := k') (code := code) h1 h2 w
  simp only [execOp, ha.eval hx, ha.eval hc, Option.map_some, Option.map_none, Instr.sliceAt, Sem.run_bind, run_underlying hu, Result.andThen_ok, Instr.slice, Instr.sliceBounds, if_true, b1, Sem.run_pure, run_sizeOf hz, Option.isSome_none, Bool.false_eq_true, if_false]
  simp only [Nat.zero_mul, Nat.sub_zero]
  cases p <;> simp [Addr.add]
/-- 'a[lo:hi]' of an array behind a pointer; each bound may lack. -/
theorem y_sliceA {e m len b off : Nat} {k k' : IntKind} {lo hi : Int} {r : Nat} (hx : ev E x = some (.pointer (some ⟨b, off, none⟩))) (hy : ev E y = some (.int k lo)) (hc : ev E c = some (.int k' hi))
    (hu : P.underlying t = some (.array len e)) (hz : szT P e = some m) (h0 : 0 ≤ lo) (h1 : lo ≤ hi) (h2 : hi ≤ len) (hr : (if len = lo.toNat then off else off + lo.toNat * m) = r) :
    YV P n E W (.slice t x (some y) (some c) none) ty (.slice (some ⟨b, r, none⟩) (hi.toNat - lo.toNat) (len - lo.toNat)) := fun a w ha _ d ps af g => by
  have b1 := fun code => run_bound (P := P) (k := k') (code := code) (show 0 ≤ hi by omega) h2 w
  have b2 := fun code => run_bound (P := P) (k := k) (m := hi.toNat) (code := code) h0 (by omega) w
  simp only [execOp, ha.eval hx, ha.eval hy, ha.eval hc, Option.map_some, Option.map_none, Instr.sliceAt, Sem.run_bind, run_underlying hu, Result.andThen_ok, Instr.sureAddr, Instr.sliceBounds, if_true, b1, b2, Sem.run_pure, run_sizeOf hz, Option.isSome_none, Bool.false_eq_true, if_false]
  rw [← hr]
  simp only [addr_add]
  split <;> rfl
theorem y_sliceA_lo {e m len b off : Nat} {k : IntKind} {lo : Int} {r : Nat} (hx : ev E x = some (.pointer (some ⟨b, off, none⟩))) (hy : ev E y = some (.int k lo))
    (hu : P.underlying t = some (.array len e)) (hz : szT P e = some m) (h0 : 0 ≤ lo) (h1 : lo ≤ len) (hr : (if len = lo.toNat then off else off + lo.toNat * m) = r) :
    YV P n E W (.slice t x (some y) none none) ty (.slice (some ⟨b, r, none⟩) (len - lo.toNat) (len - lo.toNat)) := fun a w ha _ d ps af g => by
  have b2 := fun code => run_bound (P := P) (k := k) (m := len) (code := code) h0 (by omega) w
  simp only [execOp, ha.eval hx, ha.eval hy, Option.map_some, Option.map_none, Instr.sliceAt, Sem.run_bind, run_underlying hu, Result.andThen_ok, Instr.sureAddr, Instr.sliceBounds, if_true, b2, Sem.run_pure, run_sizeOf hz, Option.isSome_none, Bool.false_eq_true, if_false]
  rw [← hr]
  simp only [addr_add]
  split <;> rfl
theorem y_sliceA_hi {e m len b off : Nat} {k' : IntKind} {hi : Int} (hx : ev E x = some (.pointer (some ⟨b, off, none⟩))) (hc : ev E c = some (.int k' hi))
    (hu : P.underlying t = some (.array len e)) (hz : szT P e = some m) (h1 : 0 ≤ hi) (h2 : hi ≤ len) :
    YV P n E W (.slice t x none (some c) none) ty (.slice (some ⟨b, off, none⟩) hi.toNat len) := fun a w ha _ d ps af g => by
  have b1 := fun code => run_bound (P := P) (k := k') (code := code) h1 h2 w
  simp only [execOp, ha.eval hx, ha.eval hc, Option.map_some, Option.map_none, Instr.sliceAt, Sem.run_bind, run_underlying hu, Result.andThen_ok, Instr.sureAddr, Instr.sliceBounds, if_true, b1, Sem.run_pure, run_sizeOf hz, Option.isSome_none, Bool.false_eq_true, if_false]
  simp only [addr_add, Nat.zero_mul, Nat.add_zero, Nat.sub_zero, ite_self]
theorem y_sliceA_all {e m len b off : Nat} (hx : ev E x = some (.pointer (some ⟨b, off, none⟩))) (hu : P.underlying t = some (.array len e)) (hz : szT P e = some m) :
    YV P n E W (.slice t x none none none) ty (.slice (some ⟨b, off, none⟩) len len) := fun a w ha _ d ps af g => by
  simp only [execOp, ha.eval hx, Option.map_none, Instr.sliceAt, Sem.run_bind, run_underlying hu, Result.andThen_ok, Instr.sureAddr, Instr.sliceBounds, if_true, Sem.run_pure, run_sizeOf hz, Option.isSome_none, Bool.false_eq_true, if_false]
  simp only [addr_add, Nat.zero_mul, Nat.add_zero, Nat.sub_zero, ite_self]

/-! ### Built structs and arrays -/
def placesT (P : Program) (t : TypeId) : Option (List (Nat × Nat)) :=
  match P.underlying t with
  | some (.struct fs) => fs.toList.mapM fun f => (szT P f.type).map fun m => (f.offset, m)
  | _ => none
theorem run_places {w : World} : ∀ {fs : List Field} {pl : List (Nat × Nat)}, fs.mapM (fun f => (szT P f.type).map fun m => (f.offset, m)) = some pl →
    (fs.mapM (m := Sem) fun f => do pure (f.offset, ← sizeOf f.type)).run P w = .ok pl w
  | [], pl, h => by simp at h; subst h; simp
  | f :: fs, pl, h => by
    simp only [List.mapM_cons, Option.bind_eq_bind, Option.bind_eq_some_iff, Option.map_eq_some_iff, Option.pure_def, Option.some.injEq] at h
    obtain ⟨p, ⟨m, hm, rfl⟩, ql, hq, rfl⟩ := h
    simp only [List.mapM_cons, Sem.run_bind, run_sizeOf hm, Result.andThen_ok, Sem.run_pure, run_places hq]
theorem y_build {parts : List (Nat × Operand)} {vs : List (Nat × Value)} {zl l : List Value} {pl : List (Nat × Nat)} (hp : parts.map (fun p => (p.1, ev E p.2)) = vs.map fun p => (p.1, some p.2)) (hpl : placesT P t = some pl)
    (hzl : zeroL P t = some zl) (hf : Instr.fill (fun i => pl[i]?) zl.toArray vs = some l.toArray) : YV P n E W (.build t parts.toArray) ty (.agg l.toArray) := fun a w ha _ d ps af g => by
  obtain ⟨v, hv, hlv⟩ := zeroT_of_L hzl
  have hparts : (parts.map fun (i, x) => (i, a.eval x)) = vs := by
    clear hf
    induction parts generalizing vs with
    | nil => cases vs with
      | nil => rfl
      | cons _ _ => simp at hp
    | cons p parts ih => cases vs with
      | nil => simp at hp
      | cons q vs =>
        simp only [List.map_cons, List.cons.injEq, Prod.mk.injEq] at hp
        simp only [List.map_cons, List.cons.injEq]
        exact ⟨by rw [ha.eval hp.1.2, hp.1.1], ih hp.2⟩
  have hc : v.cells = zl.toArray := by rw [← hlv]
  unfold placesT at hpl
  cases hu : P.underlying t with
  | none => simp [hu] at hpl
  | some dd =>
    rw [hu] at hpl
    cases dd <;> simp at hpl
    rename_i fs
    have hm : (fs.mapM (m := Sem) fun f => do pure (f.offset, ← sizeOf f.type)).run P w = .ok pl.toArray w := by
      rw [Array.mapM_eq_mapM_toList, Sem.run_map, run_places (P := P) (w := w) (fs := fs.toList) (pl := pl) (by simpa using hpl)]; rfl
    simp only [execOp, Instr.build, Sem.run_bind, run_zeroValue hv, Result.andThen_ok, run_underlying hu, hm, List.map_toArray, hparts, hc]
    rw [show (fun x => pl.toArray[x]?) = (fun i => pl[i]?) from by funext i; simp, hf]
    rfl
theorem y_buildA {e m len : Nat} {parts : List (Nat × Operand)} {vs : List (Nat × Value)} {zl l : List Value} (hp : parts.map (fun p => (p.1, ev E p.2)) = vs.map fun p => (p.1, some p.2)) (hu : P.underlying t = some (.array len e)) (hz : szT P e = some m)
    (hzl : zeroL P t = some zl) (hf : Instr.fill (fun i => some (i * m, m)) zl.toArray vs = some l.toArray) : YV P n E W (.build t parts.toArray) ty (.agg l.toArray) := fun a w ha _ d ps af g => by
  obtain ⟨v, hv, hlv⟩ := zeroT_of_L hzl
  have hparts : (parts.map fun (i, x) => (i, a.eval x)) = vs := by
    clear hf
    induction parts generalizing vs with
    | nil => cases vs with
      | nil => rfl
      | cons _ _ => simp at hp
    | cons p parts ih => cases vs with
      | nil => simp at hp
      | cons q vs =>
        simp only [List.map_cons, List.cons.injEq, Prod.mk.injEq] at hp
        simp only [List.map_cons, List.cons.injEq]
        exact ⟨by rw [ha.eval hp.1.2, hp.1.1], ih hp.2⟩
  have hc : v.cells = zl.toArray := by rw [← hlv]
  simp only [execOp, Instr.build, Sem.run_bind, run_zeroValue hv, Result.andThen_ok, run_underlying hu, run_sizeOf hz, List.map_toArray, hparts, hc, hf, Sem.run_pure]
theorem y_buildA0 {e m len : Nat} {l : List Value} (hu : P.underlying t = some (.array len e)) (hz : szT P e = some m) (hzl : zeroL P t = some l) : YV P n E W (.build t #[]) ty (.agg l.toArray) :=
  y_buildA (parts := []) (vs := []) rfl hu hz hzl rfl
theorem y_build0 {l : List Value} {pl : List (Nat × Nat)} (hpl : placesT P t = some pl) (hzl : zeroL P t = some l) : YV P n E W (.build t #[]) ty (.agg l.toArray) :=
  y_build (parts := []) (vs := []) rfl hpl hzl rfl

/-! ### Slices that grow -/
structure SlG where
  b : Nat
  cap : Nat
  sp : List Value
def slV (g : Option SlG) (len : Nat) : Value := match g with | none => .slice none 0 0 | some g => .slice (some ⟨g.b, 0, none⟩) len g.cap
def slSeg (e : Nat) (g : Option SlG) (xs : List Value) : List (Nat × Obj) := match g with | none => [] | some g => [(g.b, .cells (xs ++ g.sp).toArray e)]
def slOk (sz : Nat) (g : Option SlG) (len : Nat) (xs : List Value) : Prop := xs.length = len * sz ∧ match g with | none => len = 0 | some g => xs.length + g.sp.length = g.cap * sz ∧ len ≤ g.cap

theorem growBy_le (newLen : Nat) (h : 256 ≤ newLen) : ∀ (r c : Nat), c ≤ newLen → Builtin.growBy newLen r c ≤ 2 * newLen
  | 0, c, hc => by simp [Builtin.growBy]; omega
  | r + 1, c, hc => by
    unfold Builtin.growBy
    split
    · omega
    · by_cases h2 : c + (c + 768) / 4 ≤ newLen
      · exact growBy_le newLen h r _ h2
      · have : Builtin.growBy newLen r (c + (c + 768) / 4) = c + (c + 768) / 4 := by
          cases r with
          | zero => rfl
          | succ r => unfold Builtin.growBy; rw [if_pos (by omega)]
        omega
theorem nextcap_le (newLen oldCap : Nat) (h : oldCap < newLen) : Builtin.nextslicecap newLen oldCap ≤ 2 * newLen := by
  unfold Builtin.nextslicecap
  split
  · omega
  · split
    · omega
    · exact growBy_le newLen (by omega) 4 oldCap (by omega)
theorem setH_setS : ∀ {H : Hp} {s b : Nat} {o : Obj} (o' : Obj), H[s]? = some [(b, o)] → getH H s 0 = some (b, o) ∧ setH H s 0 o' = setS H s [(b, o')]
  | [], _, _, _, _, h => by cases h
  | S :: H, 0, b, o, o', h => by simp at h; subst h; exact ⟨rfl, rfl⟩
  | S :: H, s + 1, b, o, o', h => by
    simp only [List.getElem?_cons_succ] at h
    have ⟨h1, h2⟩ := setH_setS o' h
    exact ⟨h1, by simp only [setH, setS, h2]⟩
theorem hsub_setS {H : Hp} {s : Nat} {X Y : List (Nat × Obj)} (h : H[s]? = some X) : HSub (setS H s Y) (Y :: H) := by
  obtain ⟨L, h1, h2⟩ := perm_setS_all H s X h
  have hs : HSub (Y :: L) (Y :: H) := .of_sublist (L := Y :: X :: L) (by simpa using h1.append_left Y) (by simp)
  exact (HSub.of_perm (h2 Y).symm).trans hs
theorem setS_self : ∀ {H : Hp} {s : Nat} {X : List (Nat × Obj)}, H[s]? = some X → setS H s X = H
  | [], _, _, h => by cases h
  | S :: H, 0, X, h => by simp at h; subst h; rfl
  | S :: H, s + 1, X, h => by
    simp only [List.getElem?_cons_succ] at h
    simp only [setS, setS_self h]
/-- What stands first in a slice, or in a text. -/
def Src (P : Program) (w0 : World) (H : Hp) (sz : Nat) (v : Value) (m : Nat) (vs : List Value) : Prop :=
  ∀ w, St w0 w H → (Builtin.lenOf v).run P w = .ok m w ∧ (Builtin.firstCells sz m v).run P w = .ok vs.toArray w
theorem src_slice {sz b off len cap : Nat} {l vs : List Value} {T : TypeId} {fr : Nat × Nat} (hs : Sees (fun w => St w0 w H) b (.cells l.toArray T fr)) (hl : off + len * sz ≤ l.length) (hv : (l.drop off).take (len * sz) = vs) :
    Src P w0 H sz (.slice (some ⟨b, off, none⟩) len cap) len vs := fun w hw => by
  refine ⟨rfl, ?_⟩
  simp only [Builtin.firstCells, run_loadCells_at (hs w hw) hl, hv]
theorem src_nil {sz len cap : Nat} : Src P w0 H sz (.slice none len cap) len [] := fun w hw => ⟨rfl, rfl⟩
theorem Src.sub {sz m : Nat} {v : Value} {vs : List Value} (h : Src P w0 H' sz v m vs) (hs : HSub H' H) : Src P w0 H sz v m vs := fun w hw => h w (hs w0 w hw)

def notIntT (P : Program) (t : TypeId) : Bool := match P.underlying t with
  | some (.int _) => false
  | some _ => true
  | none => false
theorem notInt_spec {t : Nat} (h : notIntT P t = true) : ∃ dx, P.underlying t = some dx ∧ ∀ k, dx ≠ .int k := by
  unfold notIntT at h
  cases hu : P.underlying t with
  | none => simp [hu] at h
  | some dx => exact ⟨dx, rfl, fun k e => by rw [hu, e] at h; simp at h⟩
theorem run_append {len cap m e sz bt : Nat} {base : Option Addr} {xv : Value} {t0 t1 : TypeId} {w : World} {vs : List Value}
    (hu : P.underlying t0 = some (.slice e)) (hnx : notIntT P t1 = true) (hz : szT P e = some sz) (h1 : (Builtin.lenOf xv).run P w = .ok m w) (h2 : (Builtin.firstCells sz m xv).run P w = .ok vs.toArray w) (hroom : len + m ≤ cap) :
    (Builtin.append_ #[t0, t1] ty #[.slice base len cap, xv]).run P w =
      ((match base with | some a => storeCells (a.add (len * sz)) vs | none => pure ()).run P w).andThen fun _ w' => .ok (.slice base (len + m) cap) w' := by
  obtain ⟨dx, hux, hni⟩ := notInt_spec hnx
  have q0 : (#[t0, t1] : Array TypeId)[0]? = some t0 := rfl
  have q1 : (#[t0, t1] : Array TypeId)[1]? = some t1 := rfl
  have q2 : (#[Value.slice base len cap, xv] : Array Value)[0]? = some (.slice base len cap) := rfl
  have q3 : (#[Value.slice base len cap, xv] : Array Value)[1]? = some xv := rfl
  unfold Builtin.append_
  simp only [q0, q1, q2, q3]
  rw [Sem.run_bind, run_underlying hu]
  simp only [Result.andThen_ok]
  rw [Sem.run_bind, run_sizeOf hz]
  simp only [Result.andThen_ok]
  rw [Sem.run_bind, run_underlying hux]
  simp only [Result.andThen_ok]
  rw [Sem.run_bind, Sem.run_pure]
  simp only [Result.andThen_ok]
  have fin : (Sem.run P (do
      let n ← Builtin.lenOf xv
      if len + n ≤ cap then do
          let new ← Builtin.firstCells sz n xv
          match base with
            | some a => do
              storeCells (a.add (len * sz)) new.toList
              pure (Value.slice base (len + n) cap)
            | x => pure (Value.slice base (len + n) cap)
        else pure (Value.slice base 0 0)) w) = ((match base with | some a => storeCells (a.add (len * sz)) vs | none => pure ()).run P w).andThen fun _ w' => .ok (.slice base (len + m) cap) w' := by
    simp only [Sem.run_bind, h1, Result.andThen_ok, hroom, if_true, h2]
    cases base with
    | none => simp
    | some a => simp
  cases dx
  case int k => exact absurd rfl (hni k)
  all_goals
    simp only [Bool.false_eq_true, if_false, Sem.run_bind, h1, Result.andThen_ok, hroom, if_true, Bool.not_false, h2] at fin ⊢
    exact fin
theorem run_append_grow {len cap m e sz bt : Nat} {base : Option Addr} {xv : Value} {t0 t1 : TypeId} {w : World} {vs old zl : List Value} {zv : Value}
    (hu : P.underlying t0 = some (.slice e)) (hnx : notIntT P t1 = true) (hz : szT P e = some sz) (hb : byT P e = some bt) (hbp : 0 < bt) (hzv : zeroT P e = some zv) (hzc : zv.cells = zl.toArray) (hlz : zl.length = sz)
    (h1 : (Builtin.lenOf xv).run P w = .ok m w) (h2 : ∀ k, (Builtin.firstCells sz m xv).run P { w with drawn := k } = .ok vs.toArray { w with drawn := k }) (h3 : ∀ k, (Builtin.firstCells sz len (.slice base len cap)).run P { w with drawn := k } = .ok old.toArray { w with drawn := k })
    (hroom : ¬ (len + m ≤ cap)) (hbound : (len + m) * bt ≤ 140737488355328) :
    ∃ cap' dr, len + m ≤ cap' ∧ (Builtin.append_ #[t0, t1] ty #[.slice base len cap, xv]).run P w = .ok (.slice (some ⟨w.heap.size, 0, none⟩) (len + m) cap') (World.alloc { w with drawn := dr } (.cells (old ++ vs ++ zcells zl (cap' - (len + m))).toArray e)) := by
  obtain ⟨dx, hux, hni⟩ := notInt_spec hnx
  have q0 : (#[t0, t1] : Array TypeId)[0]? = some t0 := rfl
  have q1 : (#[t0, t1] : Array TypeId)[1]? = some t1 := rfl
  have q2 : (#[Value.slice base len cap, xv] : Array Value)[0]? = some (.slice base len cap) := rfl
  have q3 : (#[Value.slice base len cap, xv] : Array Value)[1]? = some xv := rfl
  obtain ⟨i, hi, hib⟩ := run_bytes hb w
  have hbt : len + m ≤ (len + m) * bt := Nat.le_mul_of_pos_right _ hbp
  have hnext := nextcap_le (len + m) cap (by omega)
  have t2 : ¬ (Builtin.nextslicecap (len + m) cap * i.bytes > 2 ^ 48) := by
    rw [hib]
    have : Builtin.nextslicecap (len + m) cap * bt ≤ 2 * (len + m) * bt := Nat.mul_le_mul_right bt hnext
    have : 2 * (len + m) * bt = 2 * ((len + m) * bt) := Nat.mul_assoc _ _ _
    omega
  have t1' : ¬ (((len + m : Nat) : Int) > IntKind.i64.max ∧ (false = true ∨ i.bytes = 0)) := by rw [IntKind.max_i64]; omega
  obtain ⟨cap', hcap'⟩ : ∃ c, c = (Question.appendCap (len + m) cap e).cut (w.tape w.drawn (.appendCap (len + m) cap e)) := ⟨_, rfl⟩
  have hcc : len + m ≤ cap' := by rw [hcap']; simp only [Question.cut]; omega
  have hi' : ∀ w' : World, (typeInfo e).run P w' = .ok i w' := fun w' => by
    obtain ⟨i', h, _⟩ := run_bytes hb w'
    have e1 : P.info? e = some i := by
      cases hq : P.info? e with
      | none => simp [typeInfo, hq] at hi
      | some j => simp [typeInfo, hq] at hi; rw [hi]
    simp [typeInfo, e1]
  refine ⟨cap', w.drawn + 1, hcc, ?_⟩
  have hz0 : Builtin.zeroCells zv.cells (cap' - (len + m)) = (zcells zl (cap' - (len + m))).toArray := by
    unfold Builtin.zeroCells
    rw [hzc]
    exact rangeCells zl _
  unfold Builtin.append_
  simp only [q0, q1, q2, q3]
  rw [Sem.run_bind, run_underlying hu]
  simp only [Result.andThen_ok]
  rw [Sem.run_bind, run_sizeOf hz]
  simp only [Result.andThen_ok]
  rw [Sem.run_bind, run_underlying hux]
  simp only [Result.andThen_ok]
  rw [Sem.run_bind, Sem.run_pure]
  simp only [Result.andThen_ok]
  cases dx
  case int k => exact absurd rfl (hni k)
  all_goals
    simp only [Result.andThen_ok, Sem.run_bind, Sem.run_pure, Bool.false_eq_true, if_false, h1, hroom, Bool.not_false, if_true, hi']
    rw [if_neg (by simpa using t1')]
    rw [Sem.run_bind, hi' w]
    simp only [Result.andThen_ok]
    rw [if_neg t2]
    simp only [Sem.run_bind, run_choose, Question.forced, Bool.false_eq_true, if_false, Sem.run_pure, Result.andThen_ok, ← hcap', hi', run_askRoom]
    rw [h3]
    simp only [Result.andThen_ok]
    rw [h2]
    simp only [Result.andThen_ok, Sem.run_bind, run_zeroValue hzv, hz0, newRow, run_newObj, Sem.run_pure]
    simp only [List.append_toArray]
    rfl
theorem op_append {gs : Option SlG} {len m e sz bt : Nat} {xs vs zl : List Value} {xv : Value} {t0 t1 : TypeId} (s : Nat) (hx : ev E x = some (slV gs len)) (hy : ev E y = some xv) (hs : H[s]? = some (slSeg e gs xs)) (hok : slOk sz gs len xs)
    (hsrc : Src P w0 H sz xv m vs) (hm : vs.length = m * sz) (hone : ∀ v ∈ vs, one v = true)
    (hu : P.underlying t0 = some (.slice e)) (hnx : notIntT P t1 = true) (hz : szT P e = some sz) (hb : byT P e = some bt) (hbp : 0 < bt)
    (hzl : zeroL P e = some zl) (hlz : zl.length = sz) (hbound : (len + m) * bt ≤ 140737488355328) (hd : dok d n = true)
    (k : ∀ g' : Option SlG, slOk sz g' (len + m) (xs ++ vs) → K (put E d (slV g' (len + m))) (setS H s (slSeg e g' (xs ++ vs)))) :
    OpW P n w0 Q ⟨d, .call { callee := .builtin .append, args := [x, y].toArray, argTypes := #[t0, t1] }, ty, ps, af, g⟩ E H K := op_run hd fun a w ha hw => by
  obtain ⟨zv, hzv, hlv⟩ := zeroT_of_L hzl
  have hzc : zv.cells = zl.toArray := by rw [← hlv]
  obtain ⟨h1, h2⟩ := hsrc w hw
  have hev := evals (n := n) (E := E) ha (l := [x, y]) (vs := [slV gs len, xv]) (by simp [hx, hy])
  have hexec : ∀ r w', (Builtin.append_ #[t0, t1] ty #[slV gs len, xv]).run P w = .ok r w' →
      (execOp a.eval ⟨d, .call { callee := .builtin .append, args := [x, y].toArray, argTypes := #[t0, t1] }, ty, ps, af, g⟩).run P w = .ok (.value r) w' := fun r w' h => by
    simp only [execOp, resolve, Sem.run_bind, Sem.run_pure, Result.andThen_ok, invoke, List.map_toArray, hev, builtin]
    rw [show (#[slV gs len, xv] : Array Value) = [slV gs len, xv].toArray from rfl] at h
    rw [h]
    rfl
  have grow : ∀ (base : Option Addr) (cap : Nat), slV gs len = .slice base len cap → ¬ (len + m ≤ cap) →
      (∀ k, (Builtin.firstCells sz len (.slice base len cap)).run P { w with drawn := k } = .ok xs.toArray { w with drawn := k }) →
      ∃ v w' H', (execOp a.eval ⟨d, .call { callee := .builtin .append, args := [x, y].toArray, argTypes := #[t0, t1] }, ty, ps, af, g⟩).run P w = .ok (.value v) w' ∧ St w0 w' H' ∧ K (put E d v) H' := by
    intro base cap hv hroom hf
    obtain ⟨cap', dr, hc, hr⟩ := run_append_grow (P := P) (ty := ty) (base := base) (w := w) hu hnx hz hb hbp hzv hzc hlz h1 (fun k => (hsrc _ (hw.drawn k)).2) hf hroom hbound
    rw [← hv] at hr
    have hok' : slOk sz (some ⟨w.heap.size, cap', zcells zl (cap' - (len + m))⟩) (len + m) (xs ++ vs) := by
      refine ⟨by simp [hok.1, hm, Nat.add_mul], ?_, hc⟩
      simp only [List.length_append, hok.1, hm, zcells_length, hlz]
      rw [← Nat.add_mul, ← Nat.add_mul]
      congr 1
      omega
    refine ⟨_, _, _, hexec _ _ hr, ?_, k (some ⟨w.heap.size, cap', zcells zl (cap' - (len + m))⟩) hok'⟩
    exact hsub_setS hs w0 _ ((hw.drawn dr).alloc _)
  cases gs with
  | none =>
    obtain ⟨hx1, rfl⟩ := hok
    have hxs : xs = [] := List.eq_nil_of_length_eq_zero (by simpa using hx1)
    subst hxs
    by_cases hm0 : m = 0
    · subst hm0
      have hvs : vs = [] := List.eq_nil_of_length_eq_zero (by simpa using hm)
      subst hvs
      have hr := run_append (P := P) (bt := bt) (ty := ty) (base := none) (cap := 0) (len := 0) (w := w) hu hnx hz h1 h2 (Nat.le_refl 0)
      simp only [Sem.run_pure, Result.andThen_ok] at hr
      refine ⟨_, _, H, hexec _ _ hr, hw, ?_⟩
      have := k none ⟨by simp, rfl⟩
      have e0 : setS H s (slSeg e none ([] ++ [])) = H := setS_self hs
      rw [e0] at this
      exact this
    · exact grow none 0 rfl (by omega) (fun k => rfl)
  | some gg =>
    obtain ⟨hx1, hx2, hx3⟩ := hok
    have hblk : w.heap[gg.b]? = some (.cells (xs ++ gg.sp).toArray e) := hw.has _ (getH_mem (setH_setS (.cells #[] e) hs).1)
    by_cases hroom : len + m ≤ gg.cap
    · have hr := run_append (P := P) (bt := bt) (ty := ty) (base := some ⟨gg.b, 0, none⟩) (w := w) hu hnx hz h1 h2 hroom
      have hlen : len * sz + vs.length ≤ (xs ++ gg.sp).length := by
        rw [List.length_append, hx2, hm, ← Nat.add_mul]; exact Nat.mul_le_mul_right _ hroom
      simp only [addr_add, Nat.zero_add] at hr
      rw [run_storeCells' hblk hone hlen] at hr
      simp only [Result.andThen_ok] at hr
      have hs2 := setH_setS (.cells (spl (xs ++ gg.sp) (len * sz) vs).toArray e) hs
      have e1 : spl (xs ++ gg.sp) (len * sz) vs = (xs ++ vs) ++ gg.sp.drop vs.length := by
        rw [spl_eq _ _ _ hlen, ← hx1]
        rw [List.take_left' rfl, List.drop_append]
        simp
      have hok' : slOk sz (some ⟨gg.b, gg.cap, gg.sp.drop vs.length⟩) (len + m) (xs ++ vs) := by
        refine ⟨by simp [hx1, hm, Nat.add_mul], ?_, hroom⟩
        simp only [List.length_append, List.length_drop]
        rw [List.length_append, hx2] at hlen
        omega
      refine ⟨_, _, _, hexec _ _ hr, hw.putB hs2.1 _, ?_⟩
      rw [hs2.2, e1]
      exact k (some ⟨gg.b, gg.cap, gg.sp.drop vs.length⟩) hok'
    · refine grow (some ⟨gg.b, 0, none⟩) gg.cap rfl hroom (fun k => ?_)
      have hblk' : ({ w with drawn := k } : World).heap[gg.b]? = some (.cells (xs ++ gg.sp).toArray e) := hblk
      simp only [Builtin.firstCells]
      rw [run_loadCells_at hblk' (by simp; omega)]
      rw [List.drop_zero, ← hx1, List.take_left' rfl]

/-- 'append(nil, make([]T, n)...)'. -/
theorem op_append_zeros {m e sz bt : Nat} {k' : IntKind} {zl : List Value} {t0 t1 : TypeId} (hx : ev E x = some (.slice none 0 0)) (hy : ev E y = some (.int k' m)) (h0 : 0 < m)
    (hu : P.underlying t0 = some (.slice e)) (hnx : P.underlying t1 = some (.int k')) (hz : szT P e = some sz) (hb : byT P e = some bt) (hbp : 0 < bt)
    (hzl : zeroL P e = some zl) (hlz : zl.length = sz) (hsz : 0 < sz) (hbound : m * bt ≤ 140737488355328) (hd : dok d n = true)
    (k : ∀ b cap, m ≤ cap → K (put E d (.slice (some ⟨b, 0, none⟩) m cap)) ([(b, .cells (zcells zl cap).toArray e)] :: H)) :
    OpW P n w0 Q ⟨d, .call { callee := .builtin .append, args := [x, y].toArray, argTypes := #[t0, t1] }, ty, ps, af, g⟩ E H K := op_run hd fun a w ha hw => by
  obtain ⟨zv, hzv, hlv⟩ := zeroT_of_L hzl
  have hzc : zv.cells = zl.toArray := by rw [← hlv]
  have hev := evals (n := n) (E := E) ha (l := [x, y]) (vs := [.slice none 0 0, .int k' m]) (by simp [hx, hy])
  have q0 : (#[t0, t1] : Array TypeId)[0]? = some t0 := rfl
  have q1 : (#[t0, t1] : Array TypeId)[1]? = some t1 := rfl
  have q2 : ([Value.slice none 0 0, Value.int k' m].toArray : Array Value)[0]? = some (.slice none 0 0) := rfl
  have q3 : ([Value.slice none 0 0, Value.int k' m].toArray : Array Value)[1]? = some (.int k' m) := rfl
  have hi' : ∃ i : TypeInfo, i.bytes = bt ∧ ∀ w' : World, (typeInfo e).run P w' = .ok i w' := by
    obtain ⟨i, h, hib⟩ := run_bytes hb w
    refine ⟨i, hib, fun w' => ?_⟩
    have e1 : P.info? e = some i := by
      cases hq : P.info? e with
      | none => simp [typeInfo, hq] at h
      | some j => simp [typeInfo, hq] at h; rw [h]
    simp [typeInfo, e1]
  obtain ⟨i, hib, hi⟩ := hi'
  have hbt : m ≤ m * bt := Nat.le_mul_of_pos_right _ hbp
  have hwr : IntKind.i64.wrap (m : Int) = m := by rw [IntKind.wrap_i64]; omega
  have hnext := nextcap_le m 0 h0
  obtain ⟨cap', hcap'⟩ : ∃ c, c = (Question.appendCap m 0 e).cut (w.tape w.drawn (.appendCap m 0 e)) := ⟨_, rfl⟩
  have hcc : m ≤ cap' := by rw [hcap']; simp only [Question.cut]; omega
  have z0 : Builtin.zeroCells zv.cells m = (zcells zl m).toArray := by unfold Builtin.zeroCells; rw [hzc]; exact rangeCells zl _
  have z1 : Builtin.zeroCells zv.cells (cap' - m) = (zcells zl (cap' - m)).toArray := by unfold Builtin.zeroCells; rw [hzc]; exact rangeCells zl _
  have z2 : (zcells zl m).toArray ++ (zcells zl (cap' - m)).toArray = (zcells zl cap').toArray := by
    rw [List.append_toArray]
    congr 1
    unfold zcells
    rw [← List.flatten_append, List.replicate_append_replicate]
    congr 2
    omega
  have t2 : ¬ (Builtin.nextslicecap m 0 * i.bytes > 2 ^ 48) := by
    rw [hib]
    have : Builtin.nextslicecap m 0 * bt ≤ 2 * m * bt := Nat.mul_le_mul_right bt hnext
    have : 2 * m * bt = 2 * (m * bt) := Nat.mul_assoc _ _ _
    omega
  have t3 : ¬ ((m : Int) < 0) := by omega
  have t4 : ¬ ((m : Int) * (i.bytes : Int) > 2 ^ 48) := by
    rw [hib]
    have : ((m : Int) * (bt : Int)) = ((m * bt : Nat) : Int) := by simp
    omega
  have t5 : ¬ (m ≤ 0) := by omega
  have t6 : ¬ (m * sz = 0) := by
    have := Nat.mul_pos h0 hsz
    omega
  have hmax : ¬ (((m : Nat) : Int) > IntKind.i64.max) := by rw [IntKind.max_i64]; omega
  refine ⟨_, _, _, ?_, (hw.drawn (w.drawn + 1)).alloc (.cells (zcells zl cap').toArray e), k _ cap' hcc⟩
  simp only [execOp, resolve, Sem.run_bind, Sem.run_pure, Result.andThen_ok, invoke, List.map_toArray, hev, builtin]
  unfold Builtin.append_
  simp only [q0, q1, q2, q3, Sem.run_bind, run_underlying hu, run_underlying hnx, Result.andThen_ok, run_sizeOf hz, Sem.run_pure, if_true, asInt, asIntOf, hwr, t3, if_false, hi, t4, Int.toNat_natCast, Nat.zero_add, t5, t6, hmax, false_and, Bool.not_true, Bool.false_eq_true]
  rw [if_neg t2]
  simp only [Sem.run_bind, Sem.run_pure, Result.andThen_ok, run_choose, Question.forced, Bool.false_eq_true, if_false, ← hcap', hi, run_askRoom, run_zeroValue hzv, z0, z1, newRow, run_newObj, Builtin.firstCells]
  simp only [Array.empty_append, z2]
  rfl
end Go.Sl
