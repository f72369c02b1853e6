/-
  Slices of slices, make, bytes as text, equality of texts and of structs, min.
-/
import Derived.Test.YtbjalofmamoffaaD6
import Derived.Laws.BytesString
import Derived.Laws.MakeOwn
import Derived.RangeFuncBox
import Derived.Laws.StructEq
import Derived.Stop.BytesEq
namespace Go.Er
open Go

section
variable {P : Program} {w0 w : World} {X : List Nat} {L : List (Nat × Obj)} {l : Fr} {d : Option Tmp} {ty : TypeId} {pos : String} {after : Array Edge} {g : Option (Nat × Bool)}
  {x y z : Operand} {T T' E E' : TypeId} {b off sz len cap : Nat} {a : Option Addr}

/-! ### Slices of slices -/
/-- where a part begins -/
def cutA (a : Option Addr) (sz cap lo : Nat) : Option Addr := if cap = lo then a else a.map (·.add (lo * sz))
theorem cutA_some {cap lo : Nat} (h : lo < cap) : cutA (some ⟨b, off, none⟩) sz cap lo = some ⟨b, off + lo * sz, none⟩ := by
  unfold cutA; rw [if_neg (by omega), Option.map_some, addr_add]
theorem cutA_zero {cap : Nat} : cutA (some ⟨b, off, none⟩) sz cap 0 = some ⟨b, off, none⟩ := by
  unfold cutA; split
  · rfl
  · rw [Option.map_some, addr_add, Nat.zero_mul, Nat.add_zero]

theorem run_bound {k : IntKind} {i : Int} {n m : Nat} {c : BoundsCode} (h : i = (m : Int)) (h1 : m ≤ n) : (Instr.sliceBound (.int k i) n c).run P w = .ok m w := by
  subst h
  simp [Instr.sliceBound, asIntOf]
  omega

/-- x[lo:hi] -/
theorem r_sliceLH {k k' : IntKind} {lo hi : Nat} {ilo ihi : Int} (hu : Und P T (.slice E)) (hs : Size P E sz) (hx : evl l x = .slice a len cap) (hy : evl l y = .int k ilo) (hz : evl l z = .int k' ihi) (h0 : ilo = (lo : Int)) (h1 : ihi = (hi : Int)) (h2 : lo ≤ hi) (h3 : hi ≤ cap) :
    (execOp (evl l) ⟨d, .slice T x (some y) (some z) none, ty, pos, after, g⟩).run P w = .ok (.value (.slice (cutA a sz cap lo) (hi - lo) (cap - lo))) w := by
  simp only [execOp, Instr.sliceAt, Option.map_some, Option.map_none, hx, hy, hz, Sem.run_bind, hu w, Result.andThen_ok, Instr.slice, Instr.sliceBounds, Sem.run_pure, run_bound h0 h2, run_bound h1 h3, hs w, cutA]
/-- x[lo:] -/
theorem r_sliceL {k : IntKind} {lo : Nat} {ilo : Int} (hu : Und P T (.slice E)) (hs : Size P E sz) (hx : evl l x = .slice a len cap) (hy : evl l y = .int k ilo) (h0 : ilo = (lo : Int)) (h2 : lo ≤ len) :
    (execOp (evl l) ⟨d, .slice T x (some y) none none, ty, pos, after, g⟩).run P w = .ok (.value (.slice (cutA a sz cap lo) (len - lo) (cap - lo))) w := by
  simp only [execOp, Instr.sliceAt, Option.map_some, Option.map_none, hx, hy, Sem.run_bind, hu w, Result.andThen_ok, Instr.slice, Instr.sliceBounds, Sem.run_pure, run_bound h0 h2, hs w, cutA]
/-- x[:hi] -/
theorem r_sliceH {k : IntKind} {hi : Nat} {ihi : Int} (hu : Und P T (.slice E)) (hs : Size P E sz) (hx : evl l x = .slice a len cap) (hz : evl l z = .int k ihi) (h1 : ihi = (hi : Int)) (h3 : hi ≤ cap) :
    (execOp (evl l) ⟨d, .slice T x none (some z) none, ty, pos, after, g⟩).run P w = .ok (.value (.slice (cutA a sz cap 0) hi cap)) w := by
  simp only [execOp, Instr.sliceAt, Option.map_some, Option.map_none, hx, hz, Sem.run_bind, hu w, Result.andThen_ok, Instr.slice, Instr.sliceBounds, Sem.run_pure, run_bound h1 h3, hs w, cutA]
  rfl
/-- x[lo:hi:mx] -/
theorem r_slice3 {u : Operand} {k k' k'' : IntKind} {lo hi mx : Nat} {ilo ihi imx : Int} (hu : Und P T (.slice E)) (hs : Size P E sz) (hx : evl l x = .slice a len cap) (hy : evl l y = .int k ilo) (hz : evl l z = .int k' ihi) (hm : evl l u = .int k'' imx) (h0 : ilo = (lo : Int)) (h1 : ihi = (hi : Int)) (h4 : imx = (mx : Int)) (h2 : lo ≤ hi) (h3 : hi ≤ mx) (h5 : mx ≤ cap) :
    (execOp (evl l) ⟨d, .slice T x (some y) (some z) (some u), ty, pos, after, g⟩).run P w = .ok (.value (.slice (cutA a sz mx lo) (hi - lo) (mx - lo))) w := by
  simp only [execOp, Instr.sliceAt, Option.map_some, hx, hy, hz, hm, Sem.run_bind, hu w, Result.andThen_ok, Instr.slice, Instr.sliceBounds, Sem.run_pure, run_bound h0 h2, run_bound h1 h3, run_bound h4 h5, hs w, cutA]
theorem cutA_at {cap lo o : Nat} (h : lo < cap) (ho : off + lo * sz = o) : cutA (some ⟨b, off, none⟩) sz cap lo = some ⟨b, o, none⟩ := by
  rw [cutA_some h, ho]
/-- x[lo:hi], told -/
theorem r_sliceLHe {k k' : IntKind} {lo hi n' c' : Nat} {a' : Option Addr} {ilo ihi : Int} (hu : Und P T (.slice E)) (hs : Size P E sz) (hx : evl l x = .slice a len cap) (hy : evl l y = .int k ilo) (hz : evl l z = .int k' ihi) (h0 : ilo = (lo : Int)) (h1 : ihi = (hi : Int)) (h2 : lo ≤ hi) (h3 : hi ≤ cap)
    (ea : cutA a sz cap lo = a') (en : hi - lo = n') (ec : cap - lo = c') :
    (execOp (evl l) ⟨d, .slice T x (some y) (some z) none, ty, pos, after, g⟩).run P w = .ok (.value (.slice a' n' c')) w := by
  subst ea en ec; exact r_sliceLH hu hs hx hy hz h0 h1 h2 h3
theorem r_sliceLe {k : IntKind} {lo n' c' : Nat} {a' : Option Addr} {ilo : Int} (hu : Und P T (.slice E)) (hs : Size P E sz) (hx : evl l x = .slice a len cap) (hy : evl l y = .int k ilo) (h0 : ilo = (lo : Int)) (h2 : lo ≤ len)
    (ea : cutA a sz cap lo = a') (en : len - lo = n') (ec : cap - lo = c') :
    (execOp (evl l) ⟨d, .slice T x (some y) none none, ty, pos, after, g⟩).run P w = .ok (.value (.slice a' n' c')) w := by
  subst ea en ec; exact r_sliceL hu hs hx hy h0 h2
theorem r_sliceHe {k : IntKind} {hi n' : Nat} {a' : Option Addr} {ihi : Int} (hu : Und P T (.slice E)) (hs : Size P E sz) (hx : evl l x = .slice a len cap) (hz : evl l z = .int k ihi) (h1 : ihi = (hi : Int)) (h3 : hi ≤ cap) (ea : cutA a sz cap 0 = a') (en : hi = n') :
    (execOp (evl l) ⟨d, .slice T x none (some z) none, ty, pos, after, g⟩).run P w = .ok (.value (.slice a' n' cap)) w := by
  subst ea en; exact r_sliceH hu hs hx hz h1 h3
/-- an array, whole -/
theorem r_sliceA {n : Nat} (hu : Und P T (.array n E)) (hs : Size P E sz) (hx : evl l x = .pointer (some ⟨b, off, none⟩)) :
    (execOp (evl l) ⟨d, .slice T x none none none, ty, pos, after, g⟩).run P w = .ok (.value (.slice (some ⟨b, off, none⟩) n n)) w := by
  simp only [execOp, Instr.sliceAt, Option.map_none, hx, Sem.run_bind, hu w, Result.andThen_ok, Instr.sureAddr, Instr.sliceBounds, Sem.run_pure, hs w]
  simp [addr_add]
theorem r_arrayAt {n : Nat} (hu : Und P T (.array n E)) (hx : evl l x = .slice a len cap) (hn : n ≤ len) : (execOp (evl l) ⟨d, .sliceToArrayPointer T x, ty, pos, after, g⟩).run P w = .ok (.value (.pointer a)) w := by
  have h : ¬ len < n := by omega
  simp [execOp, Instr.arrayAt, hu w, hx, h]

/-! ### make, of one-cell elements -/
theorem m_make {k k' : IntKind} {n nb : Nat} {i j : Int} {v : Value} (H : St w0 X w L) (ht : P.underlying T = some (.slice E)) (hi : (P.info? E).map (fun i => (i.zero, i.size, i.bytes)) = some (some v, 1, nb)) (hv : v.cells = #[v])
    (hx : evl l x = .int k i) (hy : evl l y = .int k' j) (h1 : i = (n : Int)) (h2 : j = (n : Int)) (hr : n ≤ 140737488355328) (hby : nb * n ≤ 281474976710656) :
    ∃ w' b, (execOp (evl l) ⟨d, .makeSlice T x y, ty, pos, after, g⟩).run P w = .ok (.value (.slice (some ⟨b, 0, none⟩) n n)) w' ∧ St w0 X w' ((b, .cells (List.replicate n v).toArray E (0, 0)) :: L) := by
  subst h1 h2
  obtain ⟨ti, hti, hz, hs, hb⟩ := info_parts hi
  refine ⟨_, w.heap.size, ?_, H.alloc (.cells (List.replicate n v).toArray E (0, 0))⟩
  have hbytes : (ti.bytes : Int) * (n : Int) ≤ 281474976710656 := by
    rw [hb, ← Int.natCast_mul]
    exact Int.ofNat_le.2 hby
  have h := run_make (P := P) w T E ti v ht hti hz k k' (n : Int) (n : Int) (by omega) (by omega) hbytes (by omega)
  have hcells : madeCells v.cells (n * 1) = (List.replicate n v).toArray := by
    rw [hv]
    unfold madeCells
    apply Array.ext
    · simp
    · intro i h1 h2
      simp [Nat.mod_one]
  rw [hs, Int.toNat_natCast, hcells] at h
  simp only [execOp, hx, hy, Sem.run_bind, h, Result.andThen_ok, Sem.run_pure]
  rfl

/-! ### Bytes as text -/
def bytesS (bs : List UInt8) : ByteArray := ⟨bs.toArray⟩
theorem bytesS_toList (bs : List UInt8) : (bytesS bs).toList = bs := by
  rw [ByteArray.toList_eq]; rfl
theorem foldl_bytes (bs : List UInt8) : ∀ s : ByteArray, (bs.map fun b => (b.toNat : Int)).foldl (fun r n => r.push (UInt8.ofNat n.toNat)) s = ⟨s.data ++ bs.toArray⟩ := by
  induction bs with
  | nil => intro s; simp
  | cons b bs ih =>
    intro s
    rw [List.map_cons, List.foldl_cons, ih]
    simp [ByteArray.push]
theorem r_text {c : Nat} {bs : List UInt8} {cs : List Value} {F : TypeId} {fz : Nat × Nat} (hu : Und P T (.slice E)) (hu' : Und P T' .string) (he : Und P E (.int .u8)) (hx : evl l x = .slice (some ⟨b, off, none⟩) bs.length c)
    (hb : w.heap[b]? = some (.cells cs.toArray F fz)) (hc : (cs.drop off).take bs.length = bC bs) : (execOp (evl l) ⟨d, .convert T T' x, ty, pos, after, g⟩).run P w = .ok (.value (.string (bytesS bs))) w := by
  have h := run_loadRow (P := P) hb hc (by rw [bC_length])
  have e : bC bs = (bs.map fun b => (b.toNat : Int)).map (Value.int .u8) := by simp [bC]
  rw [e] at h
  have h2 := run_bytesToString w ⟨b, off, none⟩ bs.length c _ h
  rw [foldl_bytes] at h2
  have e2 : (⟨ByteArray.empty.data ++ bs.toArray⟩ : ByteArray) = bytesS bs := by simp [bytesS]
  rw [e2] at h2
  simp [execOp, convert, hx, hu w, hu' w, he w, h2]
theorem r_text0 {n c : Nat} (hu : Und P T (.slice E)) (hu' : Und P T' .string) (he : Und P E (.int .u8)) (hx : evl l x = .slice none n c) : (execOp (evl l) ⟨d, .convert T T' x, ty, pos, after, g⟩).run P w = .ok (.value (.string (bytesS []))) w := by
  simp [execOp, convert, hx, hu w, hu' w, he w, Conv.bytesToString]
  rfl
theorem r_eqlT {s t : List UInt8} {T'' : TypeId} (hx : evl l x = .string (bytesS s)) (hy : evl l y = .string (bytesS t)) : (execOp (evl l) ⟨d, .binOp .eql T x y T'', ty, pos, after, g⟩).run P w = .ok (.value (.bool (decide (s = t)))) w := by
  have e : ((bytesS s).toList == (bytesS t).toList) = decide (s = t) := by rw [bytesS_toList, bytesS_toList]; rw [Bool.eq_iff_iff]; simp
  simp only [execOp, hx, hy, eqGuard, binOp, Op.stringOp, e]
  simp

theorem r_min {k : IntKind} {i j : Int} {at_ : Array TypeId} (hx : evl l x = .int k i) (hy : evl l y = .int k j) : (execOp (evl l) ⟨d, .call ⟨.builtin .min, [x, y].toArray, at_⟩, ty, pos, after, g⟩).run P w = .ok (.value (.int k (if j < i then j else i))) w := by
  simp [execOp, resolve, invoke, builtin, hx, hy, Builtin.min_, Builtin.min2]

/-! ### Equality of nodes -/
theorem bC_cell (bs : List UInt8) : bC bs = bs.map Extern.Stop.cell := by
  simp only [bC]
  apply List.map_congr_left
  intro b _
  rfl

theorem Held.ext_iff' (a b : Held) : (a.depth = b.depth ∧ a.at_ = b.at_ ∧ a.seed.1 = b.seed.1) ↔ a = b := by
  constructor
  · rintro ⟨h1, h2, h3⟩
    obtain ⟨d, n, k⟩ := a
    obtain ⟨d', n', k'⟩ := b
    obtain rfl : d = d' := h1
    obtain rfl : n = n' := h2
    obtain rfl : k = k' := By.ext h3
    rfl
  · rintro rfl; exact ⟨rfl, rfl, rfl⟩
instance : DecidableEq Held := fun a b => decidable_of_iff _ (Held.ext_iff' a b)

/-- a struct of a depth, a number, and 32 bytes -/
structure NodeT (P : Program) (T : TypeId) : Prop where
  und : P.underlying T = some (.struct (P.fieldsOf T))
  std : P.stoodInHeld T = false
  grd : P.eqGuardType P.depth T = false
  fs : ∃ (f0 f1 f2 : Field) (e : TypeId), (P.fieldsOf T).toList = [f0, f1, f2] ∧ f0.name ≠ "_" ∧ f1.name ≠ "_" ∧ f2.name ≠ "_" ∧ f0.offset = 0 ∧ f1.offset = 1 ∧ f2.offset = 2 ∧
    P.underlying f0.type = some (.int .i64) ∧ P.underlying f1.type = some (.int .u64) ∧ P.underlying f2.type = some (.array 32 e) ∧ P.underlying e = some (.int .u8) ∧ Size P e 1 ∧ Size P f2.type 32 ∧ IsAgg P f0.type false ∧ IsAgg P f1.type false ∧ IsAgg P f2.type true

theorem node_eq (h : NodeT P T) (a b : Held) : (Op.equalIn 10000 T (.agg (hC a).toArray) (.agg (hC b).toArray)).run P w = .ok (decide (a = b)) w := by
  rw [run_equalIn_agg w 9999 T _ _ h.und h.std]
  obtain ⟨f0, f1, f2, e, hl, n0, n1, n2, o0, o1, o2, u0, u1, u2, ue, se, s2, a0, a1, a2⟩ := h.fs
  have p0 : ∀ x : Held, (part f0.type (hC x).toArray f0.offset).run P w = .ok (.int .i64 x.depth) w := fun x => by
    rw [o0]; simp [part, a0 w, hC]
  have p1 : ∀ x : Held, (part f1.type (hC x).toArray f1.offset).run P w = .ok (.int .u64 x.at_) w := fun x => by
    rw [o1]; simp [part, a1 w, hC]
  have p2 : ∀ x : Held, (part f2.type (hC x).toArray f2.offset).run P w = .ok (.agg (x.seed.1.map Extern.Stop.cell).toArray) w := fun x => by
    have e1 : ((hC x).drop 2).take 32 = x.seed.1.map Extern.Stop.cell := by
      rw [← bC_cell]
      have hk : (kC x.seed).length = 32 := kC_length _
      show (kC x.seed).take 32 = _
      rw [List.take_of_length_le (by omega)]; rfl
    rw [o2]; simp [part, a2 w, s2 w]
    exact e1
  have q0 := run_equalIn_int (P := P) w 9998 f0.type .i64 .i64 a.depth b.depth u0
  have q1 := run_equalIn_int (P := P) w 9998 f1.type .u64 .u64 a.at_ b.at_ u1
  have q2 := run_equalIn_bytes (P := P) w 9997 f2.type e 32 u2 ue se a.seed.1 b.seed.1 a.seed.2 b.seed.2
  rw [hl]
  simp only [Op.eqFields, if_pos n0, if_pos n1, if_pos n2, Sem.run_bind, p0, p1, p2, Result.andThen_ok, q0, q1, q2, Sem.run_ite, Sem.run_pure]
  have hd : decide (a = b) = (decide (a.depth = b.depth) && (decide (a.at_ = b.at_) && (a.seed.1 == b.seed.1))) := by
    rw [Bool.eq_iff_iff]
    simp [← Held.ext_iff']
  rw [hd]
  by_cases h1 : a.depth = b.depth
  · by_cases h2 : a.at_ = b.at_
    · cases h3 : (a.seed.1 == b.seed.1) <;> simp [h1, h2]
    · simp [h1, h2]
  · simp [h1]
theorem r_eqlN {a b : Held} {T'' : TypeId} (h : NodeT P T) (hx : evl l x = .agg (hC a).toArray) (hy : evl l y = .agg (hC b).toArray) : (execOp (evl l) ⟨d, .binOp .eql T x y T'', ty, pos, after, g⟩).run P w = .ok (.value (.bool (decide (a = b)))) w := by
  simp only [execOp, hx, hy, Sem.run_bind, run_eqGuard_agg w .eql T x y _ _ h.grd, Result.andThen_ok, run_eql_struct, node_eq h, Sem.run_pure]
theorem r_neqN {a b : Held} {T'' : TypeId} (h : NodeT P T) (hx : evl l x = .agg (hC a).toArray) (hy : evl l y = .agg (hC b).toArray) : (execOp (evl l) ⟨d, .binOp .neq T x y T'', ty, pos, after, g⟩).run P w = .ok (.value (.bool (decide (a ≠ b)))) w := by
  have e : (!decide (a = b)) = decide (a ≠ b) := by simp
  simp only [execOp, hx, hy, Sem.run_bind, run_eqGuard_agg w .neq T x y _ _ h.grd, Result.andThen_ok, run_neq_struct, node_eq h, Sem.run_pure, e]

/-- a literal of m one-cell elements -/
theorem m_bsliceF {m : Nat} {parts : List (Nat × Operand)} {pl : List (Nat × Nat)} {pv : List (Nat × Value)} {out : List Value} {v0 : Value} (H : St w0 X w L) (hu : Und P T (.slice E)) (hs : Size P E 1) (hz : Zero P E v0) (hv0 : v0.cells = #[v0]) (hm : 0 < m) (hm2 : m ≤ 16777216)
    (hv : EvP l parts pv) (hpl : ∀ p ∈ pv, (some (p.1 * 1, 1) : Option (Nat × Nat)) = pl[p.1]?) (hf : fillL pl (List.replicate m v0) pv = some out) :
    ∃ w' b, (execOp (evl l) ⟨d, .buildSlice T m parts.toArray, ty, pos, after, g⟩).run P w = .ok (.value (.slice (some ⟨b, 0, none⟩) m m)) w' ∧ St w0 X w' ((b, .cells out.toArray E (0, 0)) :: L) := by
  refine ⟨_, w.heap.size, ?_, H.alloc (.cells out.toArray E (0, 0))⟩
  have hfill := fill_eq pl (fun i => some (i * 1, 1)) pv (List.replicate m v0) (fun p hp => hpl p hp) hf
  have e : (Array.range (m * 1)).map (v0.cells[· % v0.cells.size]!) = (List.replicate m v0).toArray := by
    rw [hv0]
    apply Array.ext
    · simp
    · intro i h1 h2
      simp [Nat.mod_one]
  rw [← e] at hfill
  have h1 : ¬ m * 1 > 2 ^ 24 := by have : (2 : Nat) ^ 24 = 16777216 := by decide
                                   omega
  have h2 : ¬ m * 1 = 0 := by omega
  have h4 : (Array.map (fun (x : Nat × Operand) => match x with | (i, x) => (i, evl l x)) parts.toArray).toList = pv := by
    rw [← hv.map]; simp
  simp only [execOp, Instr.buildSlice, Sem.run_bind, hu w, Result.andThen_ok, hs w, Sem.run_ite, if_neg h1, if_neg h2, hz w, Sem.run_pure]
  rw [h4, hfill]
  rfl

/-! ### A row of one's own that grows -/
/-- a slice of n elements of one's own: nil, or the head of a block -/
def RowN (sz : Nat) (E : TypeId) (cs : List Value) (n : Nat) (a : Option Addr) (cap : Nat) (N : List (Nat × Obj)) : Prop :=
  cs.length = n * sz ∧ n ≤ cap ∧ ((n = 0 ∧ a = none ∧ cap = 0 ∧ N = []) ∨ ∃ b sp, a = some ⟨b, 0, none⟩ ∧ cap * sz ≤ (cs ++ sp).length ∧ N = [(b, .cells (cs ++ sp).toArray E (0, 0))])
theorem RowN.nil {sz : Nat} {E : TypeId} : RowN sz E [] 0 none 0 [] := ⟨by simp, Nat.le_refl _, .inl ⟨rfl, rfl, rfl, rfl⟩⟩

theorem m_append_row {L1 N : List (Nat × Obj)} {T2 : TypeId} {D2 : TypeDesc} {cs vs : List Value} {z u : Value} {ti : TypeInfo} {n m cap sz : Nat} {args : List Operand}
    (H : St w0 X w (L1 ++ N)) (hN : RowN sz E cs n a cap N) (hu : Und P T (.slice E)) (hu2 : Und P T2 D2) (hD : ∀ q, D2 ≠ .int q) (hs : Size P E sz) (hz : Zero P E z) (hzs : z.cells.size = sz) (hi : ∀ w, (typeInfo E).run P w = .ok ti w)
    (hby : 0 < ti.bytes) (hm : 0 < m) (hroom : (n + m) * ti.bytes ≤ 140737488355328) (ha : Evs l args [.slice a n cap, u]) (hx : Src P w sz u m vs) :
    ∃ v w', (execOp (evl l) ⟨d, .call ⟨.builtin .append, args.toArray, [T, T2].toArray⟩, ty, pos, after, g⟩).run P w = .ok (.value v) w' ∧
      ∃ a' cap' N', v = .slice a' (n + m : Nat) cap' ∧ RowN sz E (cs ++ vs) (n + m) a' cap' N' ∧ St w0 X w' (L1 ++ N') := by
  obtain ⟨hlen, hnc, ⟨rfl, rfl, rfl, rfl⟩ | ⟨b, sp, rfl, hcap, rfl⟩⟩ := hN
  · obtain ⟨v, w', hr, b', cap', sp', rfl, hc, hnc', H'⟩ := m_append_nil2 H hu hu2 hD hs hz hzs hi hby hm (by simpa using hroom) ha hx
    have hcs : cs = [] := by cases cs with
      | nil => rfl
      | cons x xs => simp at hlen
    subst hcs
    refine ⟨_, w', hr, some ⟨b', 0, none⟩, cap', [(b', .cells (vs ++ sp').toArray E (0, 0))], by rw [Nat.zero_add], ⟨by simpa using hx.size, by omega, .inr ⟨b', sp', rfl, by simpa using hc, rfl⟩⟩, ?_⟩
    rw [List.append_nil] at H'
    exact H'.perm List.perm_append_comm
  · have hk : (L1 ++ [(b, Obj.cells (cs ++ sp).toArray E (0, 0))])[L1.length]? = some (b, .cells (cs ++ sp).toArray E (0, 0)) := by simp
    obtain ⟨v, w', hr, b', cap', sp', rfl, hc, hnc', H'⟩ := m_append_own2 H L1.length hu hu2 hD hs hz hzs hi hk hlen hcap hby hroom ha hx
    refine ⟨_, w', hr, some ⟨b', 0, none⟩, cap', [(b', .cells (cs ++ vs ++ sp').toArray E (0, 0))], rfl, ⟨by rw [List.length_append, hlen, hx.size, Nat.add_mul], hnc', .inr ⟨b', sp', rfl, hc, rfl⟩⟩, ?_⟩
    have e : (L1 ++ [(b, Obj.cells (cs ++ sp).toArray E (0, 0))]).eraseIdx L1.length = L1 := by
      rw [List.eraseIdx_append_of_length_le (Nat.le_refl _)]; simp
    rw [e] at H'
    exact H'.perm List.perm_append_comm
/-- a text's byte -/
theorem r_indexStr {k : IntKind} {i : Int} {s : ByteArray} {u : UInt8} (hu : Und P T .string) (hx : evl l x = .string s) (hy : evl l y = .int k i) (h0 : 0 ≤ i) (hb : s[i.toNat]? = some u) :
    (execOp (evl l) ⟨d, .index T x y, ty, pos, after, g⟩).run P w = .ok (.value (.int .u8 (u.toNat : Int))) w := by
  simp [execOp, Instr.index, asIntOf, hx, hy, hu w, h0, hb]
end
theorem quoI {m n : Int} (h0 : 0 ≤ m) (h1 : m ≤ 9223372036854775807) (hn : 0 < n) : IntKind.i64.wrap (m.tdiv n) = m / n := by
  rw [Int.tdiv_eq_ediv_of_nonneg h0]
  have h2 : 0 ≤ m / n := Int.ediv_nonneg h0 (by omega)
  have h3 : m / n ≤ m := Int.ediv_le_self n h0
  exact w_i64 (by omega) (by omega)
theorem quoU {m n : Int} (h0 : 0 ≤ m) (h1 : m < 18446744073709551616) (hn : 0 < n) : IntKind.u64.wrap (m.tdiv n) = m / n := by
  rw [Int.tdiv_eq_ediv_of_nonneg h0]
  have h2 : 0 ≤ m / n := Int.ediv_nonneg h0 (by omega)
  have h3 : m / n ≤ m := Int.ediv_le_self n h0
  exact w_u64 h2 (by omega)
theorem remI {m n : Int} (h0 : 0 ≤ m) : m.tmod n = m % n := Int.tmod_eq_emod_of_nonneg h0
end Go.Er
