/-
  One law for each operation of the translation, at values that are written with list words.
-/
import Derived.Test.YtbjalofmamoffaaK0
namespace Go.Er
open Go

section
variable {P : Program} {w : World} {l : Fr} {d : Option Tmp} {ty : TypeId} {pos : String} {after : Array Edge} {g : Option (Nat × Bool)}

/-! ### Types, as facts -/
def IsAgg (P : Program) (T : TypeId) (b : Bool) : Prop := ∀ w, (isAgg T).run P w = .ok b w
def Size (P : Program) (T : TypeId) (n : Nat) : Prop := ∀ w, (sizeOf T).run P w = .ok n w
def Zero (P : Program) (T : TypeId) (v : Value) : Prop := ∀ w, (zeroValue T).run P w = .ok v w
def Und (P : Program) (T : TypeId) (D : TypeDesc) : Prop := ∀ w, (underlying T).run P w = .ok D w

/-! ### Copies -/
theorem r_move {x : Operand} {v : Value} (hx : evo l x = some v) : (execOp (evl l) ⟨d, .move x, ty, pos, after, g⟩).run P w = .ok (.value v) w := by
  rw [← evl_of hx]; rfl
theorem r_assign {x : Operand} {v : Value} (hx : evo l x = some v) : (execOp (evl l) ⟨d, .assign x, ty, pos, after, g⟩).run P w = .ok (.value v) w := by
  rw [← evl_of hx]; rfl
theorem r_pickt {c a b : Operand} {v : Value} (hc : evl l c = .bool true) (ha : evo l a = some v) : (execOp (evl l) ⟨d, .pick c a b, ty, pos, after, g⟩).run P w = .ok (.value v) w := by
  rw [← evl_of ha]; simp [execOp, hc, asBool]
theorem r_pickf {c a b : Operand} {v : Value} (hc : evl l c = .bool false) (hb : evo l b = some v) : (execOp (evl l) ⟨d, .pick c a b, ty, pos, after, g⟩).run P w = .ok (.value v) w := by
  rw [← evl_of hb]; simp [execOp, hc, asBool]

/-! ### Whole numbers -/
section ints
variable {x y : Operand} {T T' : TypeId} {k : IntKind} {m n r : Int}

theorem eqGuard_int (op : BinOp) (t : TypeId) (x y : Operand) (k k' : IntKind) (m n : Int) (w : World) : (eqGuard op t x y (.int k m) (.int k' n)).run P w = .ok () w := by
  unfold eqGuard; cases op <;> rfl

theorem r_add (hx : evl l x = .int k m) (hy : evl l y = .int k n) (hr : k.wrap (m + n) = r) : (execOp (evl l) ⟨d, .binOp .add T x y T', ty, pos, after, g⟩).run P w = .ok (.value (.int k r)) w := by
  subst hr; simp [execOp, hx, hy, eqGuard_int, binOp, Op.intArith]
theorem r_sub (hx : evl l x = .int k m) (hy : evl l y = .int k n) (hr : k.wrap (m - n) = r) : (execOp (evl l) ⟨d, .binOp .sub T x y T', ty, pos, after, g⟩).run P w = .ok (.value (.int k r)) w := by
  subst hr; simp [execOp, hx, hy, eqGuard_int, binOp, Op.intArith]
theorem r_mul (hx : evl l x = .int k m) (hy : evl l y = .int k n) (hr : k.wrap (m * n) = r) : (execOp (evl l) ⟨d, .binOp .mul T x y T', ty, pos, after, g⟩).run P w = .ok (.value (.int k r)) w := by
  subst hr; simp [execOp, hx, hy, eqGuard_int, binOp, Op.intArith]
theorem r_quo (hx : evl l x = .int k m) (hy : evl l y = .int k n) (hn : n ≠ 0) (hr : k.wrap (m.tdiv n) = r) : (execOp (evl l) ⟨d, .binOp .quo T x y T', ty, pos, after, g⟩).run P w = .ok (.value (.int k r)) w := by
  subst hr; simp [execOp, hx, hy, eqGuard_int, binOp, Op.intDiv, hn]
theorem r_rem (hx : evl l x = .int k m) (hy : evl l y = .int k n) (hn : n ≠ 0) (hr : m.tmod n = r) : (execOp (evl l) ⟨d, .binOp .rem T x y T', ty, pos, after, g⟩).run P w = .ok (.value (.int k r)) w := by
  subst hr; simp [execOp, hx, hy, eqGuard_int, binOp, Op.intDiv, hn]
theorem r_and (hx : evl l x = .int k m) (hy : evl l y = .int k n) (hr : k.wrap (BitVec.ofInt k.bits m &&& BitVec.ofInt k.bits n).toNat = r) : (execOp (evl l) ⟨d, .binOp .and T x y T', ty, pos, after, g⟩).run P w = .ok (.value (.int k r)) w := by
  subst hr; simp [execOp, hx, hy, eqGuard_int, binOp, Op.intBits]
theorem r_or (hx : evl l x = .int k m) (hy : evl l y = .int k n) (hr : k.wrap (BitVec.ofInt k.bits m ||| BitVec.ofInt k.bits n).toNat = r) : (execOp (evl l) ⟨d, .binOp .or T x y T', ty, pos, after, g⟩).run P w = .ok (.value (.int k r)) w := by
  subst hr; simp [execOp, hx, hy, eqGuard_int, binOp, Op.intBits]
theorem r_xor (hx : evl l x = .int k m) (hy : evl l y = .int k n) (hr : k.wrap (BitVec.ofInt k.bits m ^^^ BitVec.ofInt k.bits n).toNat = r) : (execOp (evl l) ⟨d, .binOp .xor T x y T', ty, pos, after, g⟩).run P w = .ok (.value (.int k r)) w := by
  subst hr; simp [execOp, hx, hy, eqGuard_int, binOp, Op.intBits]
theorem r_andNot (hx : evl l x = .int k m) (hy : evl l y = .int k n) (hr : k.wrap (BitVec.ofInt k.bits m &&& ~~~ BitVec.ofInt k.bits n).toNat = r) : (execOp (evl l) ⟨d, .binOp .andNot T x y T', ty, pos, after, g⟩).run P w = .ok (.value (.int k r)) w := by
  subst hr; simp only [execOp, hx, hy, Sem.run_bind, eqGuard_int, Result.andThen_ok, binOp, Op.intBits, ne_eq, not_true_eq_false, if_false]; rfl
theorem r_shl {k' : IntKind} (hx : evl l x = .int k m) (hy : evl l y = .int k' n) (hn : 0 ≤ n) (hr : k.wrap (m * 2 ^ (min n.toNat k.bits)) = r) : (execOp (evl l) ⟨d, .binOp .shl T x y T', ty, pos, after, g⟩).run P w = .ok (.value (.int k r)) w := by
  subst hr
  have h : ¬ n < 0 := by omega
  simp [execOp, hx, hy, eqGuard_int, binOp, Op.shift, h]
theorem r_shr {k' : IntKind} (hx : evl l x = .int k m) (hy : evl l y = .int k' n) (hn : 0 ≤ n) (hr : m.fdiv (2 ^ (min n.toNat k.bits)) = r) : (execOp (evl l) ⟨d, .binOp .shr T x y T', ty, pos, after, g⟩).run P w = .ok (.value (.int k r)) w := by
  subst hr
  have h : ¬ n < 0 := by omega
  simp [execOp, hx, hy, eqGuard_int, binOp, Op.shift, h]
theorem r_lss (hx : evl l x = .int k m) (hy : evl l y = .int k n) : (execOp (evl l) ⟨d, .binOp .lss T x y T', ty, pos, after, g⟩).run P w = .ok (.value (.bool (decide (m < n)))) w := by
  simp [execOp, hx, hy, eqGuard_int, binOp, Op.intCmp]
theorem r_leq (hx : evl l x = .int k m) (hy : evl l y = .int k n) : (execOp (evl l) ⟨d, .binOp .leq T x y T', ty, pos, after, g⟩).run P w = .ok (.value (.bool (decide (m ≤ n)))) w := by
  simp [execOp, hx, hy, eqGuard_int, binOp, Op.intCmp]
theorem r_gtr (hx : evl l x = .int k m) (hy : evl l y = .int k n) : (execOp (evl l) ⟨d, .binOp .gtr T x y T', ty, pos, after, g⟩).run P w = .ok (.value (.bool (decide (n < m)))) w := by
  simp [execOp, hx, hy, eqGuard_int, binOp, Op.intCmp]
theorem r_geq (hx : evl l x = .int k m) (hy : evl l y = .int k n) : (execOp (evl l) ⟨d, .binOp .geq T x y T', ty, pos, after, g⟩).run P w = .ok (.value (.bool (decide (n ≤ m)))) w := by
  simp [execOp, hx, hy, eqGuard_int, binOp, Op.intCmp]
theorem r_eql (hx : evl l x = .int k m) (hy : evl l y = .int k n) : (execOp (evl l) ⟨d, .binOp .eql T x y T', ty, pos, after, g⟩).run P w = .ok (.value (.bool (decide (m = n)))) w := by
  simp only [execOp, hx, hy, Sem.run_bind, eqGuard_int, Result.andThen_ok, binOp, Op.intCmp, ne_eq, not_true_eq_false, if_false]; rfl
theorem r_neq (hx : evl l x = .int k m) (hy : evl l y = .int k n) : (execOp (evl l) ⟨d, .binOp .neq T x y T', ty, pos, after, g⟩).run P w = .ok (.value (.bool (decide (m ≠ n)))) w := by
  have e : (m != n) = decide (m ≠ n) := by rw [Bool.eq_iff_iff]; simp
  simp only [execOp, hx, hy, Sem.run_bind, eqGuard_int, Result.andThen_ok, binOp, Op.intCmp, ne_eq, not_true_eq_false, if_false, e]; rfl
theorem r_neg (hx : evl l x = .int k m) (hr : k.wrap (0 - m) = r) : (execOp (evl l) ⟨d, .unOp .neg T x, ty, pos, after, g⟩).run P w = .ok (.value (.int k r)) w := by
  subst hr; simp [execOp, hx, Op.unary, Op.intArith]
theorem r_conv {k' : IntKind} {D : TypeDesc} (hT : Und P T D) (hT' : Und P T' (.int k')) (hx : evl l x = .int k m) (hr : k'.wrap m = r) : (execOp (evl l) ⟨d, .convert T T' x, ty, pos, after, g⟩).run P w = .ok (.value (.int k' r)) w := by
  subst hr; simp [execOp, hx, convert, hT w, hT' w, Conv.intToInt]
end ints

/-! wraps that change nothing -/
theorem w_i64 {n : Int} (h0 : -9223372036854775808 ≤ n) (h1 : n ≤ 9223372036854775807) : IntKind.i64.wrap n = n := by
  rw [IntKind.wrap_i64]; omega
theorem w_u64 {n : Int} (h0 : 0 ≤ n) (h1 : n < 18446744073709551616) : IntKind.u64.wrap n = n := by
  show n % (2 ^ 64 : Int) = n
  exact Int.emod_eq_of_lt h0 (by simpa using h1)
theorem w_u64' (n : Int) : IntKind.u64.wrap n = n % 18446744073709551616 := rfl
theorem w_u32 {n : Int} (h0 : 0 ≤ n) (h1 : n < 4294967296) : IntKind.u32.wrap n = n := by
  show n % (2 ^ 32 : Int) = n
  exact Int.emod_eq_of_lt h0 (by simpa using h1)
theorem w_u16 {n : Int} (h0 : 0 ≤ n) (h1 : n < 65536) : IntKind.u16.wrap n = n := by
  show n % (2 ^ 16 : Int) = n
  exact Int.emod_eq_of_lt h0 (by simpa using h1)
theorem w_u8 {n : Int} (h0 : 0 ≤ n) (h1 : n < 256) : IntKind.u8.wrap n = n := by
  show n % (2 ^ 8 : Int) = n
  exact Int.emod_eq_of_lt h0 (by simpa using h1)
theorem w_u8' (n : Int) : IntKind.u8.wrap n = n % 256 := rfl

/-! ### Truth values, pointers, nil -/
section others
variable {x y : Operand} {T T' : TypeId}
theorem r_not {b : Bool} (hx : evl l x = .bool b) : (execOp (evl l) ⟨d, .unOp .not T x, ty, pos, after, g⟩).run P w = .ok (.value (.bool (!b))) w := by
  simp [execOp, hx, Op.unary]
theorem r_notp {p : Prop} [Decidable p] (hx : evl l x = .bool (decide p)) : (execOp (evl l) ⟨d, .unOp .not T x, ty, pos, after, g⟩).run P w = .ok (.value (.bool (decide (¬ p)))) w := by
  simp [execOp, hx, Op.unary]
theorem equal_of {T : TypeId} {x y : Value} {r : Result Bool} (h : ∀ n, (Op.equalIn (n + 1) T x y).run P w = r) : (Op.equal T x y).run P w = r := h 9999
theorem equalIn_bool {a b : Bool} (hu : Und P T .bool) (n : Nat) : (Op.equalIn (n + 1) T (.bool a) (.bool b)).run P w = .ok (a == b) w := by simp [Op.equalIn, hu w]
theorem equalIn_nilp {E : TypeId} {a : Option Addr} (hu : Und P T (.pointer E)) (n : Nat) : (Op.equalIn (n + 1) T (.pointer a) (.pointer none)).run P w = .ok a.isNone w := by cases a <;> simp [Op.equalIn, hu w]
theorem equalIn_nils {E : TypeId} {a : Option Addr} {m c : Nat} (hu : Und P T (.slice E)) (n : Nat) : (Op.equalIn (n + 1) T (.slice a m c) (.slice none 0 0)).run P w = .ok a.isNone w := by cases a <;> simp [Op.equalIn, hu w]
theorem equalIn_nili {ms : Array (String × TypeId)} {v : Value} (hu : Und P T (.interface ms)) (n : Nat) : (Op.equalIn (n + 1) T (.iface T' v) .nilIface).run P w = .ok false w := by simp [Op.equalIn, hu w]
theorem equalIn_nilit {ms : Array (String × TypeId)} (hu : Und P T (.interface ms)) (n : Nat) : (Op.equalIn (n + 1) T .nilIface .nilIface).run P w = .ok true w := by simp [Op.equalIn, hu w]
theorem r_eqlb {a b : Bool} (hu : Und P T .bool) (hx : evl l x = .bool a) (hy : evl l y = .bool b) : (execOp (evl l) ⟨d, .binOp .eql T x y T', ty, pos, after, g⟩).run P w = .ok (.value (.bool (a == b))) w := by
  simp only [execOp, hx, hy, eqGuard, binOp]
  simp [equal_of (equalIn_bool (w := w) hu)]
theorem r_neqb {a b : Bool} (hu : Und P T .bool) (hx : evl l x = .bool a) (hy : evl l y = .bool b) : (execOp (evl l) ⟨d, .binOp .neq T x y T', ty, pos, after, g⟩).run P w = .ok (.value (.bool (!(a == b)))) w := by
  simp only [execOp, hx, hy, eqGuard, binOp]
  simp [equal_of (equalIn_bool (w := w) hu)]
theorem r_nilp {E : TypeId} {a : Option Addr} (hu : Und P T (.pointer E)) (hx : evl l x = .pointer a) (hy : evl l y = .pointer none) : (execOp (evl l) ⟨d, .binOp .eql T x y T', ty, pos, after, g⟩).run P w = .ok (.value (.bool a.isNone)) w := by
  simp only [execOp, hx, hy, eqGuard, binOp]
  simp [equal_of (equalIn_nilp (w := w) hu)]
theorem r_nnilp {E : TypeId} {a : Option Addr} (hu : Und P T (.pointer E)) (hx : evl l x = .pointer a) (hy : evl l y = .pointer none) : (execOp (evl l) ⟨d, .binOp .neq T x y T', ty, pos, after, g⟩).run P w = .ok (.value (.bool (!a.isNone))) w := by
  simp only [execOp, hx, hy, eqGuard, binOp]
  simp [equal_of (equalIn_nilp (w := w) hu)]
theorem r_nilpF {E : TypeId} {a : Addr} (hu : Und P T (.pointer E)) (hx : evl l x = .pointer (some a)) (hy : evl l y = .pointer none) : (execOp (evl l) ⟨d, .binOp .eql T x y T', ty, pos, after, g⟩).run P w = .ok (.value (.bool false)) w := r_nilp hu hx hy
theorem r_nilpT {E : TypeId} (hu : Und P T (.pointer E)) (hx : evl l x = .pointer none) (hy : evl l y = .pointer none) : (execOp (evl l) ⟨d, .binOp .eql T x y T', ty, pos, after, g⟩).run P w = .ok (.value (.bool true)) w := r_nilp hu hx hy
theorem r_nils {E : TypeId} {a : Option Addr} {n c : Nat} (hu : Und P T (.slice E)) (hx : evl l x = .slice a n c) (hy : evl l y = .slice none 0 0) : (execOp (evl l) ⟨d, .binOp .eql T x y T', ty, pos, after, g⟩).run P w = .ok (.value (.bool a.isNone)) w := by
  simp only [execOp, hx, hy, eqGuard, binOp]
  simp [equal_of (equalIn_nils (w := w) hu)]
theorem r_nili {ms : Array (String × TypeId)} {v : Value} {T'' : TypeId} (hu : Und P T (.interface ms)) (hx : evl l x = .iface T' v) (hy : evl l y = .nilIface) : (execOp (evl l) ⟨d, .binOp .eql T x y T'', ty, pos, after, g⟩).run P w = .ok (.value (.bool false)) w := by
  simp only [execOp, hx, hy, eqGuard, binOp]
  simp [equal_of (equalIn_nili (w := w) hu)]
theorem r_nilit {ms : Array (String × TypeId)} {T'' : TypeId} (hu : Und P T (.interface ms)) (hx : evl l x = .nilIface) : (execOp (evl l) ⟨d, .binOp .eql T x (.const .nilIface) T'', ty, pos, after, g⟩).run P w = .ok (.value (.bool true)) w := by
  have hy : evl l (.const .nilIface) = .nilIface := rfl
  simp only [execOp, hx, hy, eqGuard, binOp]
  simp [equal_of (equalIn_nilit (w := w) hu)]
theorem r_nilCheck {a : Addr} (hx : evl l x = .pointer (some a)) : (execOp (evl l) ⟨d, .nilCheck x, ty, pos, after, g⟩).run P w = .ok (.value (.pointer (some a))) w := by
  simp [execOp, hx]
theorem r_extract {i : Nat} {vs : List Value} {v : Value} (hx : evl l x = .tuple vs.toArray) (hi : vs[i]? = some v) : (execOp (evl l) ⟨d, .extract x i, ty, pos, after, g⟩).run P w = .ok (.value v) w := by
  simp [execOp, hx, Instr.extract, hi]
theorem r_makeFunc {fn : Fn} {first captured : List Operand} {f1 c1 : List Value} (h1 : Evs l first f1) (h2 : Evs l captured c1) :
    (execOp (evl l) ⟨d, .makeFunc fn first.toArray captured.toArray, ty, pos, after, g⟩).run P w = .ok (.value (.func fn f1.toArray c1.toArray)) w := by
  simp [execOp, Instr.makeFunc, h1.map, h2.map]
theorem r_makeIface {v : Value} {D : TypeDesc} (hu : Und P T D) (hD : ∀ ms, D ≠ .interface ms) (hx : evo l x = some v) : (execOp (evl l) ⟨d, .makeInterface T x, ty, pos, after, g⟩).run P w = .ok (.value (.iface T v)) w := by
  have hx := evl_of hx
  cases D <;> first | (simp [execOp, Instr.makeInterface, hu w, hx]; done) | exact absurd rfl (hD _)

/-! ### Calls -/
def Ent (P : Program) (f : FuncId) : Prop := ∀ (args : Array Value) (w : World), (callFunc f args).run P w = .ok (.enter f args) w
theorem r_call {f : FuncId} {args : List Operand} {vs : List Value} {at_ : Array TypeId} (hf : Ent P f) (ha : Evs l args vs) :
    (execOp (evl l) ⟨d, .call ⟨.value (.func f), args.toArray, at_⟩, ty, pos, after, g⟩).run P w = .ok (.enter f vs.toArray) w := by
  obtain rfl := ha.map
  have h := hf (args.map (evl l)).toArray w
  simp [execOp, resolve, evl, Deferred.ofValue, invoke]
  simpa using h
theorem r_callv {f : FuncId} {x : Operand} {args : List Operand} {us vs cs : List Value} {at_ : Array TypeId} (hf : Ent P f) (hx : evl l x = .func (.func f) #[] cs.toArray) (ha : Evs l args us) (hv : us ++ cs = vs) :
    (execOp (evl l) ⟨d, .call ⟨.value x, args.toArray, at_⟩, ty, pos, after, g⟩).run P w = .ok (.enter f vs.toArray) w := by
  subst hv
  obtain rfl := ha.map
  have h := hf (args.map (evl l) ++ cs).toArray w
  simp [execOp, resolve, hx, Deferred.ofValue, invoke]
  simpa using h
/-- A method on an interface value: its function, and what it takes for its receiver. -/
def Meth (P : Program) (T : TypeId) (v : Value) (name : String) (f : FuncId) (rv : Value) : Prop := ∀ w, (method (P.types.size + Made.depth) T v name).run P w = .ok (f, rv) w
theorem r_invoke {f : FuncId} {x : Operand} {name : String} {v rv : Value} {args : List Operand} {vs : List Value} {at_ : Array TypeId} (hf : Ent P f) (hx : evl l x = .iface T v)
    (hm : Meth P T v name f rv) (ha : Evs l args vs) :
    (execOp (evl l) ⟨d, .call ⟨.invoke x name, args.toArray, at_⟩, ty, pos, after, g⟩).run P w = .ok (.enter f (rv :: vs).toArray) w := by
  obtain rfl := ha.map
  have h := hf (rv :: args.map (evl l)).toArray w
  have hm' := hm w
  have ht : List.take args.length (List.map (evl l) args) = List.map (evl l) args := List.take_of_length_le (by simp)
  simp [execOp, resolve, hx, invoke, callMethod, hm', ht]
  simpa using h

theorem r_lens {E : TypeId} {args : List Operand} {a : Option Addr} {n c : Nat} {rest : List TypeId} (hu : Und P T (.slice E)) (ha : Evs l args [.slice a n c]) :
    (execOp (evl l) ⟨d, .call ⟨.builtin .len, args.toArray, (T :: rest).toArray⟩, ty, pos, after, g⟩).run P w = .ok (.value (.int .i64 n)) w := by
  simp [execOp, resolve, invoke, builtin, Builtin.len_, ha.map, hu w, goInt]
theorem r_lenstr {args : List Operand} {s : ByteArray} {rest : List TypeId} (hu : Und P T .string) (ha : Evs l args [.string s]) :
    (execOp (evl l) ⟨d, .call ⟨.builtin .len, args.toArray, (T :: rest).toArray⟩, ty, pos, after, g⟩).run P w = .ok (.value (.int .i64 s.size)) w := by
  simp [execOp, resolve, invoke, builtin, Builtin.len_, ha.map, hu w, goInt]
end others

end
end Go.Er
