import Derived.Test.YtobfnieebiakeaaPVx1
import Derived.Test.YtobfnieebiakeaaPVx2
import Derived.Test.YtobfnieebiakeaaProg
namespace Go.Er
open Go
abbrev t1 {a0 : Value} (l : List Value) : List Value := a0 :: l
abbrev t2 {a0 a1 : Value} (l : List Value) : List Value := a0 :: a1 :: l
abbrev t3 {a0 a1 a2 : Value} (l : List Value) : List Value := a0 :: a1 :: a2 :: l
abbrev t4 {a0 a1 a2 a3 : Value} (l : List Value) : List Value := a0 :: a1 :: a2 :: a3 :: l
abbrev t5 {a0 a1 a2 a3 a4 : Value} (l : List Value) : List Value := a0 :: a1 :: a2 :: a3 :: a4 :: l
abbrev t6 {a0 a1 a2 a3 a4 a5 : Value} (l : List Value) : List Value := a0 :: a1 :: a2 :: a3 :: a4 :: a5 :: l
abbrev t7 {a0 a1 a2 a3 a4 a5 a6 : Value} (l : List Value) : List Value := a0 :: a1 :: a2 :: a3 :: a4 :: a5 :: a6 :: l
abbrev t8 {a0 a1 a2 a3 a4 a5 a6 a7 : Value} (l : List Value) : List Value := a0 :: a1 :: a2 :: a3 :: a4 :: a5 :: a6 :: a7 :: l
abbrev t9 {a0 a1 a2 a3 a4 a5 a6 a7 a8 : Value} (l : List Value) : List Value := a0 :: a1 :: a2 :: a3 :: a4 :: a5 :: a6 :: a7 :: a8 :: l
abbrev t10 {a0 a1 a2 a3 a4 a5 a6 a7 a8 a9 : Value} (l : List Value) : List Value := a0 :: a1 :: a2 :: a3 :: a4 :: a5 :: a6 :: a7 :: a8 :: a9 :: l
abbrev t20 {a0 a1 a2 a3 a4 a5 a6 a7 a8 a9 a10 a11 a12 a13 a14 a15 a16 a17 a18 a19 : Value} (l : List Value) : List Value := a0 :: a1 :: a2 :: a3 :: a4 :: a5 :: a6 :: a7 :: a8 :: a9 :: a10 :: a11 :: a12 :: a13 :: a14 :: a15 :: a16 :: a17 :: a18 :: a19 :: l
abbrev t30 {a0 a1 a2 a3 a4 a5 a6 a7 a8 a9 a10 a11 a12 a13 a14 a15 a16 a17 a18 a19 a20 a21 a22 a23 a24 a25 a26 a27 a28 a29 : Value} (l : List Value) : List Value := a0 :: a1 :: a2 :: a3 :: a4 :: a5 :: a6 :: a7 :: a8 :: a9 :: a10 :: a11 :: a12 :: a13 :: a14 :: a15 :: a16 :: a17 :: a18 :: a19 :: a20 :: a21 :: a22 :: a23 :: a24 :: a25 :: a26 :: a27 :: a28 :: a29 :: l
abbrev t40 {a0 a1 a2 a3 a4 a5 a6 a7 a8 a9 a10 a11 a12 a13 a14 a15 a16 a17 a18 a19 a20 a21 a22 a23 a24 a25 a26 a27 a28 a29 a30 a31 a32 a33 a34 a35 a36 a37 a38 a39 : Value} (l : List Value) : List Value := a0 :: a1 :: a2 :: a3 :: a4 :: a5 :: a6 :: a7 :: a8 :: a9 :: a10 :: a11 :: a12 :: a13 :: a14 :: a15 :: a16 :: a17 :: a18 :: a19 :: a20 :: a21 :: a22 :: a23 :: a24 :: a25 :: a26 :: a27 :: a28 :: a29 :: a30 :: a31 :: a32 :: a33 :: a34 :: a35 :: a36 :: a37 :: a38 :: a39 :: l
abbrev t50 {a0 a1 a2 a3 a4 a5 a6 a7 a8 a9 a10 a11 a12 a13 a14 a15 a16 a17 a18 a19 a20 a21 a22 a23 a24 a25 a26 a27 a28 a29 a30 a31 a32 a33 a34 a35 a36 a37 a38 a39 a40 a41 a42 a43 a44 a45 a46 a47 a48 a49 : Value} (l : List Value) : List Value := a0 :: a1 :: a2 :: a3 :: a4 :: a5 :: a6 :: a7 :: a8 :: a9 :: a10 :: a11 :: a12 :: a13 :: a14 :: a15 :: a16 :: a17 :: a18 :: a19 :: a20 :: a21 :: a22 :: a23 :: a24 :: a25 :: a26 :: a27 :: a28 :: a29 :: a30 :: a31 :: a32 :: a33 :: a34 :: a35 :: a36 :: a37 :: a38 :: a39 :: a40 :: a41 :: a42 :: a43 :: a44 :: a45 :: a46 :: a47 :: a48 :: a49 :: l
abbrev t60 {a0 a1 a2 a3 a4 a5 a6 a7 a8 a9 a10 a11 a12 a13 a14 a15 a16 a17 a18 a19 a20 a21 a22 a23 a24 a25 a26 a27 a28 a29 a30 a31 a32 a33 a34 a35 a36 a37 a38 a39 a40 a41 a42 a43 a44 a45 a46 a47 a48 a49 a50 a51 a52 a53 a54 a55 a56 a57 a58 a59 : Value} (l : List Value) : List Value := a0 :: a1 :: a2 :: a3 :: a4 :: a5 :: a6 :: a7 :: a8 :: a9 :: a10 :: a11 :: a12 :: a13 :: a14 :: a15 :: a16 :: a17 :: a18 :: a19 :: a20 :: a21 :: a22 :: a23 :: a24 :: a25 :: a26 :: a27 :: a28 :: a29 :: a30 :: a31 :: a32 :: a33 :: a34 :: a35 :: a36 :: a37 :: a38 :: a39 :: a40 :: a41 :: a42 :: a43 :: a44 :: a45 :: a46 :: a47 :: a48 :: a49 :: a50 :: a51 :: a52 :: a53 :: a54 :: a55 :: a56 :: a57 :: a58 :: a59 :: l
abbrev t70 {a0 a1 a2 a3 a4 a5 a6 a7 a8 a9 a10 a11 a12 a13 a14 a15 a16 a17 a18 a19 a20 a21 a22 a23 a24 a25 a26 a27 a28 a29 a30 a31 a32 a33 a34 a35 a36 a37 a38 a39 a40 a41 a42 a43 a44 a45 a46 a47 a48 a49 a50 a51 a52 a53 a54 a55 a56 a57 a58 a59 a60 a61 a62 a63 a64 a65 a66 a67 a68 a69 : Value} (l : List Value) : List Value := a0 :: a1 :: a2 :: a3 :: a4 :: a5 :: a6 :: a7 :: a8 :: a9 :: a10 :: a11 :: a12 :: a13 :: a14 :: a15 :: a16 :: a17 :: a18 :: a19 :: a20 :: a21 :: a22 :: a23 :: a24 :: a25 :: a26 :: a27 :: a28 :: a29 :: a30 :: a31 :: a32 :: a33 :: a34 :: a35 :: a36 :: a37 :: a38 :: a39 :: a40 :: a41 :: a42 :: a43 :: a44 :: a45 :: a46 :: a47 :: a48 :: a49 :: a50 :: a51 :: a52 :: a53 :: a54 :: a55 :: a56 :: a57 :: a58 :: a59 :: a60 :: a61 :: a62 :: a63 :: a64 :: a65 :: a66 :: a67 :: a68 :: a69 :: l
abbrev t90 {a0 a1 a2 a3 a4 a5 a6 a7 a8 a9 a10 a11 a12 a13 a14 a15 a16 a17 a18 a19 a20 a21 a22 a23 a24 a25 a26 a27 a28 a29 a30 a31 a32 a33 a34 a35 a36 a37 a38 a39 a40 a41 a42 a43 a44 a45 a46 a47 a48 a49 a50 a51 a52 a53 a54 a55 a56 a57 a58 a59 a60 a61 a62 a63 a64 a65 a66 a67 a68 a69 a70 a71 a72 a73 a74 a75 a76 a77 a78 a79 a80 a81 a82 a83 a84 a85 a86 a87 a88 a89 : Value} (l : List Value) : List Value := a0 :: a1 :: a2 :: a3 :: a4 :: a5 :: a6 :: a7 :: a8 :: a9 :: a10 :: a11 :: a12 :: a13 :: a14 :: a15 :: a16 :: a17 :: a18 :: a19 :: a20 :: a21 :: a22 :: a23 :: a24 :: a25 :: a26 :: a27 :: a28 :: a29 :: a30 :: a31 :: a32 :: a33 :: a34 :: a35 :: a36 :: a37 :: a38 :: a39 :: a40 :: a41 :: a42 :: a43 :: a44 :: a45 :: a46 :: a47 :: a48 :: a49 :: a50 :: a51 :: a52 :: a53 :: a54 :: a55 :: a56 :: a57 :: a58 :: a59 :: a60 :: a61 :: a62 :: a63 :: a64 :: a65 :: a66 :: a67 :: a68 :: a69 :: a70 :: a71 :: a72 :: a73 :: a74 :: a75 :: a76 :: a77 :: a78 :: a79 :: a80 :: a81 :: a82 :: a83 :: a84 :: a85 :: a86 :: a87 :: a88 :: a89 :: l
abbrev t100 {a0 a1 a2 a3 a4 a5 a6 a7 a8 a9 a10 a11 a12 a13 a14 a15 a16 a17 a18 a19 a20 a21 a22 a23 a24 a25 a26 a27 a28 a29 a30 a31 a32 a33 a34 a35 a36 a37 a38 a39 a40 a41 a42 a43 a44 a45 a46 a47 a48 a49 a50 a51 a52 a53 a54 a55 a56 a57 a58 a59 a60 a61 a62 a63 a64 a65 a66 a67 a68 a69 a70 a71 a72 a73 a74 a75 a76 a77 a78 a79 a80 a81 a82 a83 a84 a85 a86 a87 a88 a89 a90 a91 a92 a93 a94 a95 a96 a97 a98 a99 : Value} (l : List Value) : List Value := a0 :: a1 :: a2 :: a3 :: a4 :: a5 :: a6 :: a7 :: a8 :: a9 :: a10 :: a11 :: a12 :: a13 :: a14 :: a15 :: a16 :: a17 :: a18 :: a19 :: a20 :: a21 :: a22 :: a23 :: a24 :: a25 :: a26 :: a27 :: a28 :: a29 :: a30 :: a31 :: a32 :: a33 :: a34 :: a35 :: a36 :: a37 :: a38 :: a39 :: a40 :: a41 :: a42 :: a43 :: a44 :: a45 :: a46 :: a47 :: a48 :: a49 :: a50 :: a51 :: a52 :: a53 :: a54 :: a55 :: a56 :: a57 :: a58 :: a59 :: a60 :: a61 :: a62 :: a63 :: a64 :: a65 :: a66 :: a67 :: a68 :: a69 :: a70 :: a71 :: a72 :: a73 :: a74 :: a75 :: a76 :: a77 :: a78 :: a79 :: a80 :: a81 :: a82 :: a83 :: a84 :: a85 :: a86 :: a87 :: a88 :: a89 :: a90 :: a91 :: a92 :: a93 :: a94 :: a95 :: a96 :: a97 :: a98 :: a99 :: l
section
variable {α : Type} {l : List α} {a0 a1 a2 a3 a4 a5 a6 a7 a8 a9 a10 : α}
theorem x0111n : (a1 :: a2 :: a3 :: []).Sublist (a0 :: a1 :: a2 :: a3 :: []) := .cons _ (.cons_cons _ (.cons_cons _ (.cons_cons _ .slnil)))
theorem x00111n : (a2 :: a3 :: a4 :: []).Sublist (a0 :: a1 :: a2 :: a3 :: a4 :: []) := .cons _ (.cons _ (.cons_cons _ (.cons_cons _ (.cons_cons _ .slnil))))
theorem x11001n : (a0 :: a1 :: a4 :: []).Sublist (a0 :: a1 :: a2 :: a3 :: a4 :: []) := .cons_cons _ (.cons_cons _ (.cons _ (.cons _ (.cons_cons _ .slnil))))
theorem x0n : ([]).Sublist (a0 :: []) := .cons _ .slnil
theorem x011r : (a1 :: a2 :: l).Sublist (a0 :: a1 :: a2 :: l) := .cons _ (.cons_cons _ (.cons_cons _ (List.Sublist.refl _)))
theorem x10r : (a0 :: l).Sublist (a0 :: a1 :: l) := .cons_cons _ (.cons _ (List.Sublist.refl _))
theorem x01n : (a1 :: []).Sublist (a0 :: a1 :: []) := .cons _ (.cons_cons _ .slnil)
theorem x10n : (a0 :: []).Sublist (a0 :: a1 :: []) := .cons_cons _ (.cons _ .slnil)
theorem x100n : (a0 :: []).Sublist (a0 :: a1 :: a2 :: []) := .cons_cons _ (.cons _ (.cons _ .slnil))
theorem x1100n : (a0 :: a1 :: []).Sublist (a0 :: a1 :: a2 :: a3 :: []) := .cons_cons _ (.cons_cons _ (.cons _ (.cons _ .slnil)))
theorem x00r : (l).Sublist (a0 :: a1 :: l) := .cons _ (.cons _ (List.Sublist.refl _))
theorem x111101111r : (a0 :: a1 :: a2 :: a3 :: a5 :: a6 :: a7 :: a8 :: l).Sublist (a0 :: a1 :: a2 :: a3 :: a4 :: a5 :: a6 :: a7 :: a8 :: l) := .cons_cons _ (.cons_cons _ (.cons_cons _ (.cons_cons _ (.cons _ (.cons_cons _ (.cons_cons _ (.cons_cons _ (.cons_cons _ (List.Sublist.refl _)))))))))
theorem x0111101111r : (a1 :: a2 :: a3 :: a4 :: a6 :: a7 :: a8 :: a9 :: l).Sublist (a0 :: a1 :: a2 :: a3 :: a4 :: a5 :: a6 :: a7 :: a8 :: a9 :: l) := .cons _ (.cons_cons _ (.cons_cons _ (.cons_cons _ (.cons_cons _ (.cons _ (.cons_cons _ (.cons_cons _ (.cons_cons _ (.cons_cons _ (List.Sublist.refl _))))))))))
theorem x0111111111r : (a1 :: a2 :: a3 :: a4 :: a5 :: a6 :: a7 :: a8 :: a9 :: l).Sublist (a0 :: a1 :: a2 :: a3 :: a4 :: a5 :: a6 :: a7 :: a8 :: a9 :: l) := .cons _ (.cons_cons _ (.cons_cons _ (.cons_cons _ (.cons_cons _ (.cons_cons _ (.cons_cons _ (.cons_cons _ (.cons_cons _ (.cons_cons _ (List.Sublist.refl _))))))))))
theorem x00111111111r : (a2 :: a3 :: a4 :: a5 :: a6 :: a7 :: a8 :: a9 :: a10 :: l).Sublist (a0 :: a1 :: a2 :: a3 :: a4 :: a5 :: a6 :: a7 :: a8 :: a9 :: a10 :: l) := .cons _ (.cons _ (.cons_cons _ (.cons_cons _ (.cons_cons _ (.cons_cons _ (.cons_cons _ (.cons_cons _ (.cons_cons _ (.cons_cons _ (.cons_cons _ (List.Sublist.refl _)))))))))))
theorem x0r : (l).Sublist (a0 :: l) := .cons _ (List.Sublist.refl _)
end
section
variable {P : Program} {Q : Exit → Act → World → Prop} {l l' : List Value} {F : Fr} {w w' : World} {ops : Array Oper} {rest : List Oper} {op : Op} {ty : TypeId} {pos : String} {after : Array Edge} {d : Option Tmp} {x y : Operand} {v : Value}
theorem zm (k : WL P ops Q rest (putl F d v) w) (hx : evo F x = some v := by exact rfl) : WL P ops Q (⟨d, .move x, ty, pos, after, none⟩ :: rest) F w := s_val (r_move hx) k
theorem za (k : WL P ops Q rest (putl F d v) w) (hx : evo F x = some v := by exact rfl) : WL P ops Q (⟨d, .assign x, ty, pos, after, none⟩ :: rest) F w := s_val (r_assign hx) k
theorem zv {c a b : Operand} (k : WL P ops Q rest (putl F d v) w) (hc : evl F c = .bool true := by exact rfl) (ha : evo F a = some v := by exact rfl) : WL P ops Q (⟨d, .pick c a b, ty, pos, after, none⟩ :: rest) F w := s_val (r_pickt hc ha) k
theorem zf {c a b : Operand} (k : WL P ops Q rest (putl F d v) w) (hc : evl F c = .bool false := by exact rfl) (hb : evo F b = some v := by exact rfl) : WL P ops Q (⟨d, .pick c a b, ty, pos, after, none⟩ :: rest) F w := s_val (r_pickf hc hb) k
theorem ze {i : Nat} {vs : List Value} (k : WL P ops Q rest (putl F d v) w) (hx : evl F x = .tuple vs.toArray := by exact rfl) (hi : vs[i]? = some v := by exact rfl) : WL P ops Q (⟨d, .extract x i, ty, pos, after, none⟩ :: rest) F w := s_val (r_extract hx hi) k
theorem zg {g : Nat} {want b : Bool} {t : Tmp} (k : WL P ops Q rest (putl F d undef) w) (ht : (ops[g]?).bind (·.dst) = some t := by exact rfl) (hb : evo F (.tmp t) = some (.bool b) := by exact rfl) (hne : b ≠ want := by decide) : WL P ops Q (⟨d, op, ty, pos, after, some (g, want)⟩ :: rest) F w := g_no ht hb hne k
theorem zy {g : Nat} {want : Bool} {t : Tmp} (k : WL P ops Q (⟨d, op, ty, pos, after, none⟩ :: rest) F w) (ht : (ops[g]?).bind (·.dst) = some t := by exact rfl) (hb : evo F (.tmp t) = some (.bool want) := by exact rfl) : WL P ops Q (⟨d, op, ty, pos, after, some (g, want)⟩ :: rest) F w := g_yes ht hb k
theorem zq {id : Nat} (n : Nat) {ops : List Oper} {y : Code} (hn : l.length = n ∧ Nat.ble n 1000 = true) (h : WL P ops.toArray (Exit.then (y.wp P Q) Q) ops ⟨[], l, n, hn⟩ w) : (Code.seq (Code.region id ops.toArray false) y).wp P Q ⟨l.toArray, []⟩ w := c_rseq hn h
theorem zc {y : Code} (l' : List Value) (h : y.wp P Q ⟨l'.toArray, []⟩ w) (hl : F.all = l' := by exact rfl) : WL P ops (Exit.then (y.wp P Q) Q) [] F w := c_nil hl h
theorem zb (l' : List Value) (h : Q .normal ⟨l'.toArray, []⟩ w) (hl : F.all = l' := by exact rfl) : WL P ops Q [] F w := c_nil0 hl h
section
variable {T E : TypeId} {b off : Nat} {cs cs' vs : List Value} {fz : Nat × Nat} {g : Option (Nat × Bool)}
theorem zr {fs : Array Field} {i n : Nat} {f : Field} {U : TypeId} (k : Nat) (hu : Und P T (.struct fs)) (hz : Size P U n) (hx : evl F x = .pointer (some ⟨b, off, none⟩) := by exact rfl) (hf : fs[i]? = some f := by exact rfl) (hU : f.type = U := by exact rfl) (hn : n ≠ 0 := by decide) (hk : f.offset = k := by exact rfl) : (execOp (evl F) ⟨d, .fieldAddr T x i, ty, pos, after, g⟩).run P w = .ok (.value (.pointer (some ⟨b, off + k, none⟩))) w := r_fieldAddr hu hf (hU ▸ hz) hn hk hx
theorem zR {fs : Array Field} {i n : Nat} {f : Field} {U : TypeId} (k : Nat) (hu : Und P T (.struct fs)) (hz : Size P U n) (kk : WL P ops Q rest (putl F d (.pointer (some ⟨b, off + k, none⟩))) w) (hf : fs[i]? = some f := by exact rfl) (hx : evl F x = .pointer (some ⟨b, off, none⟩) := by exact rfl) (hU : f.type = U := by exact rfl) (hn : n ≠ 0 := by decide) (hk : f.offset = k := by exact rfl) : WL P ops Q (⟨d, .fieldAddr T x i, ty, pos, after, none⟩ :: rest) F w := s_val (r_fieldAddr hu hf (hU ▸ hz) hn hk hx) kk
theorem ziS {sz len cap : Nat} {k : IntKind} {i : Int} (hu : Und P T (.slice E)) (hs : Size P E sz) (hx : evl F x = .slice (some ⟨b, off, none⟩) len cap := by exact rfl) (hy : evl F y = .int k i := by exact rfl) (h0 : 0 ≤ i := by omega) (h1 : i < len := by omega) : (execOp (evl F) ⟨d, .indexAddr T x y, ty, pos, after, g⟩).run P w = .ok (.value (.pointer (some ⟨b, off + i.toNat * sz, none⟩))) w := r_indexAddrS hu hs hx hy h0 h1
theorem ziA {sz len : Nat} {k : IntKind} {i : Int} (hu : Und P T (.array len E)) (hs : Size P E sz) (hx : evl F x = .pointer (some ⟨b, off, none⟩) := by exact rfl) (hy : evl F y = .int k i := by exact rfl) (h0 : 0 ≤ i := by omega) (h1 : i < len := by omega) : (execOp (evl F) ⟨d, .indexAddr T x y, ty, pos, after, g⟩).run P w = .ok (.value (.pointer (some ⟨b, off + i.toNat * sz, none⟩))) w := r_indexAddrA hu hs hx hy h0 h1
theorem z1 (ha : IsAgg P T false) (hb : w.heap[b]? = some (.cells cs.toArray E fz)) (hx : evl F x = .pointer (some ⟨b, off, none⟩) := by exact rfl) (hc : cs[off]? = some v := by exact rfl) : (execOp (evl F) ⟨d, .load T x, ty, pos, after, g⟩).run P w = .ok (.value v) w := r_load1 ha hx hb hc
theorem zL (ha : IsAgg P T false) (hb : w.heap[b]? = some (.cells cs.toArray E fz)) (k : WL P ops Q rest (putl F d v) w) (hx : evl F x = .pointer (some ⟨b, off, none⟩) := by exact rfl) (hc : cs[off]? = some v := by exact rfl) : WL P ops Q (⟨d, .load T x, ty, pos, after, none⟩ :: rest) F w := s_val (r_load1 ha hx hb hc) k
theorem z_add {k : IntKind} {m n r : Int} {T' : TypeId} (hx : evl F x = .int k m := by exact rfl) (hy : evl F y = .int k n := by exact rfl) (hr : k.wrap (m + n) = r := by exact w_i64 (by omega) (by omega)) : (execOp (evl F) ⟨d, .binOp .add T x y T', ty, pos, after, g⟩).run P w = .ok (.value (.int k r)) w := r_add hx hy hr
theorem zj {k : IntKind} {m n r : Int} {T' : TypeId} (kk : WL P ops Q rest (putl F d (.int k r)) w) (hx : evl F x = .int k m := by exact rfl) (hy : evl F y = .int k n := by exact rfl) (hr : k.wrap (m + n) = r := by exact w_i64 (by omega) (by omega)) : WL P ops Q (⟨d, .binOp .add T x y T', ty, pos, after, none⟩ :: rest) F w := s_val (r_add hx hy hr) kk
theorem zk {k : IntKind} {m n r : Int} {T' : TypeId} (kk : WL P ops Q rest (putl F d (.int k r)) w) (hx : evl F x = .int k m := by exact rfl) (hy : evl F y = .int k n := by exact rfl) (hr : k.wrap (m - n) = r := by exact w_i64 (by omega) (by omega)) : WL P ops Q (⟨d, .binOp .sub T x y T', ty, pos, after, none⟩ :: rest) F w := s_val (r_sub hx hy hr) kk
theorem w6 {n : Int} (h0 : -9223372036854775808 ≤ n := by omega) (h1 : n ≤ 9223372036854775807 := by omega) : IntKind.i64.wrap n = n := w_i64 h0 h1
theorem v6 {n : Int} (h0 : 0 ≤ n := by omega) (h1 : n < 18446744073709551616 := by omega) : IntKind.u64.wrap n = n := w_u64 h0 h1
theorem wr {n r : Int} (h : n = r := by omega) (h0 : -9223372036854775808 ≤ n := by omega) (h1 : n ≤ 9223372036854775807 := by omega) : IntKind.i64.wrap n = r := w_i64e h h0 h1
theorem zo {n : Nat} (ha : IsAgg P T true) (hs : Size P T n) (hb : w.heap[b]? = some (.cells cs.toArray E fz)) (hx : evl F x = .pointer (some ⟨b, off, none⟩) := by exact rfl) (hc : (cs.drop off).take n = vs := by first | exact (kC_td _) | exact (hC_td _) | exact (hC_seed _) | exact (all_td 32 hq5) | exact (ceC_td _) | exact (ceC_place _) | exact (ptC_td _ _ _ _) | exact (plV_td _ _ _) ) (hn : vs.length = n := by first | exact (kC_length _) | exact (hC_length _) | exact rfl | exact (ceC_length _) | exact (ptC_length _ _ _ _) | exact (plV_length _ _ _) | exact litC_length ) : (execOp (evl F) ⟨d, .load T x, ty, pos, after, g⟩).run P w = .ok (.value (.agg vs.toArray)) w := r_loadn ha hs hx hb hc hn
theorem zp {n : Nat} (ha : IsAgg P T true) (hs : Size P T n) (hb : w.heap[b]? = some (.cells cs.toArray E fz)) (hc : (cs.drop off).take n = vs) (hx : evl F x = .pointer (some ⟨b, off, none⟩) := by exact rfl) (hn : vs.length = n := by first | exact (kC_length _) | exact (hC_length _) | exact rfl | exact (ceC_length _) | exact (ptC_length _ _ _ _) | exact (plV_length _ _ _) | exact litC_length ) : (execOp (evl F) ⟨d, .load T x, ty, pos, after, g⟩).run P w = .ok (.value (.agg vs.toArray)) w := r_loadn ha hs hx hb hc hn
theorem z2 (ha : IsAgg P T false) (hb : w.heap[b]? = some (.cells cs.toArray E fz)) (hx : evl F x = .pointer (some ⟨b, off, none⟩) := by exact rfl) (hc : cs[off]? = some v := by first | exact rfl | exact (hC_0 _) | exact (hC_00 _) | exact (hC_1 _) ) : (execOp (evl F) ⟨d, .load T x, ty, pos, after, g⟩).run P w = .ok (.value v) w := r_load1 ha hx hb hc
theorem ro {l : List Value} {t : Tmp} {n : Nat} (ha : IsAgg P T true) (hs : Size P T n) (hb : w.heap[b]? = some (.cells cs.toArray E fz)) (h : l[t]? = some (.pointer (some ⟨b, off, none⟩)) := by exact rfl) (hc : (cs.drop off).take n = vs := by first | exact (kC_td _) | exact (hC_td _) | exact (hC_seed _) | exact (all_td 32 hq5) | exact (ceC_td _) | exact (ceC_place _) | exact (ptC_td _ _ _ _) | exact (plV_td _ _ _) ) (hn : vs.length = n := by first | exact (kC_length _) | exact (hC_length _) | exact rfl | exact (ceC_length _) | exact (ptC_length _ _ _ _) | exact (plV_length _ _ _) | exact litC_length ) : RC P l w (.cell t T) (.agg vs.toArray) := rc_celln ha hs h hb hc hn
section
variable {w0 : World} {X : List Nat} {L L' : List (Nat × Obj)}
theorem zs (H : St w0 X w L) (k n : Nat) (hs : Size P T n) (hx : evl F x = .pointer (some ⟨b, off, none⟩) := by exact rfl) (hy : evl F y = .agg vs.toArray := by exact rfl) (hn : vs.length = n := by first | exact (kC_length _) | exact (hC_length _) | exact rfl | exact (ceC_length _) | exact (ptC_length _ _ _ _) | exact (plV_length _ _ _) | exact litC_length ) (h1 : ∀ v ∈ vs, v.oneCell' = true := by first | exact (kC_one _) | exact (hC_one _) | exact (ceC_one _) | exact (ptC_one _ _ _ _) | exact (plV_one _ _ _) | exact litC_one ) (hk : L[k]? = some (b, .cells cs.toArray E (0, 0)) := by exact rfl) (ho : off + n ≤ cs.length := by first | exact (by rw [kC_length]; omega) | exact (by rw [hC_length]; omega) | exact (by show 0 + 4 ≤ 4; omega) | exact (by show 0 + 3 ≤ 3; omega) | exact (by show 0 + 11 ≤ 11; omega) | exact (by show 3 + 3 ≤ 11; omega) ) (hset : splice cs off vs = cs' := by first | exact (kC_sp _ _) | exact (hC_sp _ _) | exact (kC_sp _ (padB k n)) | exact rfl | exact (ceC_sp _ _) ) :
    ∃ w', (execOp (evl F) ⟨d, .store T x y, ty, pos, after, g⟩).run P w = .ok .skip w' ∧ St w0 X w' (L.set k (b, .cells cs'.toArray E (0, 0))) := m_storen H k n hs hx hy hn h1 hk ho hset
theorem zt (H : St w0 X w L) (k n : Nat) (hs : Size P T n) (hset : splice cs off vs = cs') (hx : evl F x = .pointer (some ⟨b, off, none⟩) := by exact rfl) (hy : evl F y = .agg vs.toArray := by exact rfl) (hn : vs.length = n := by first | exact (kC_length _) | exact (hC_length _) | exact rfl | exact (ceC_length _) | exact (ptC_length _ _ _ _) | exact (plV_length _ _ _) | exact litC_length ) (h1 : ∀ v ∈ vs, v.oneCell' = true := by first | exact (kC_one _) | exact (hC_one _) | exact (ceC_one _) | exact (ptC_one _ _ _ _) | exact (plV_one _ _ _) | exact litC_one ) (hk : L[k]? = some (b, .cells cs.toArray E (0, 0)) := by exact rfl) (ho : off + n ≤ cs.length := by first | exact (by rw [kC_length]; omega) | exact (by rw [hC_length]; omega) | exact (by show 0 + 4 ≤ 4; omega) | exact (by show 0 + 3 ≤ 3; omega) | exact (by show 0 + 11 ≤ 11; omega) | exact (by show 3 + 3 ≤ 11; omega) ) :
    ∃ w', (execOp (evl F) ⟨d, .store T x y, ty, pos, after, g⟩).run P w = .ok .skip w' ∧ St w0 X w' (L.set k (b, .cells cs'.toArray E (0, 0))) := m_storen H k n hs hx hy hn h1 hk ho hset
theorem zA {z : Value} (cs : List Value) (H : St w0 X w L) (hz : Zero P T z) (hc : z.cells = cs.toArray := by exact rfl) : ∃ w' b, (execOp (evl F) ⟨d, .alloc T, ty, pos, after, g⟩).run P w = .ok (.value (.pointer (some ⟨b, 0, none⟩))) w' ∧ St w0 X w' ((b, .cells cs.toArray T (0, 0)) :: L) := m_alloc H hz hc
end
end
section
variable {S : World → Prop} {ops : List Oper} {n i j k m : Nat} {listed listed' : List Bool}
theorem zd (i : Nat) (hi : ops[i]? = some ⟨d, op, ty, pos, after, none⟩) (hc : May1 ops listed i = true) (hQ : ∀ c (a : Act) w, Q (.panic c) (a.put d v) w → Q (.panic c) a w) (HS : S w) (hr : ∀ {w : World}, (execOp (evl F) ⟨d, op, ty, pos, after, none⟩).run P w = .ok (.value v) w) (hl : listed.set i true = listed') (h : RG P ops Q S n listed' (putl F d v) w) : RG P ops Q S (n + 1) listed F w := d_take hi hc hQ HS (fun _ _ => hr) hl h
theorem zdh (i : Nat) (hi : ops[i]? = some ⟨d, op, ty, pos, after, none⟩) (hc : May1 ops listed i = true) (hQ : ∀ c (a : Act) w, Q (.panic c) (a.put d v) w → Q (.panic c) a w) (HS : S w) (hr : ∀ {w : World}, S w → (execOp (evl F) ⟨d, op, ty, pos, after, none⟩).run P w = .ok (.value v) w) (hl : listed.set i true = listed') (h : RG P ops Q S n listed' (putl F d v) w) : RG P ops Q S (n + 1) listed F w := d_take hi hc hQ HS (fun _ => hr) hl h
theorem zM (i : Nat) (HS : S w) (h : RG P ops Q S n listed' (putl F d v) w) (hi : ops[i]? = some ⟨d, .move x, ty, pos, after, none⟩ := by exact rfl) (hx : evo F x = some v := by exact rfl) (hc : May1 ops listed i = true := by kernel_rfl) (hQ : ∀ c (a : Act) w, Q (.panic c) (a.put d v) w → Q (.panic c) a w := by exact fun _ _ _ h => h) (hl : listed.set i true = listed' := by exact rfl) : RG P ops Q S (n + 1) listed F w := d_take hi hc hQ HS (fun _ _ => r_move hx) hl h
variable {g : Nat} {want b : Bool} {t : Tmp}
theorem zG (i : Nat) (hi : ops[i]? = some ⟨d, op, ty, pos, after, some (g, want)⟩) (ht : (ops[g]?).bind (·.dst) = some t) (hb : evo F (.tmp t) = some (.bool want)) (hc : May1 ops listed i = true) (hQ : ∀ c (a : Act) w, Q (.panic c) (a.put d v) w → Q (.panic c) a w) (HS : S w) (hr : ∀ {w : World}, (execOp (evl F) ⟨d, op, ty, pos, after, some (g, want)⟩).run P w = .ok (.value v) w) (hl : listed.set i true = listed') (h : RG P ops Q S n listed' (putl F d v) w) : RG P ops Q S (n + 1) listed F w := d_takeG hi hc hQ ht hb HS (fun _ _ => hr) hl h
theorem zGh (i : Nat) (hi : ops[i]? = some ⟨d, op, ty, pos, after, some (g, want)⟩) (ht : (ops[g]?).bind (·.dst) = some t) (hb : evo F (.tmp t) = some (.bool want)) (hc : May1 ops listed i = true) (hQ : ∀ c (a : Act) w, Q (.panic c) (a.put d v) w → Q (.panic c) a w) (HS : S w) (hr : ∀ {w : World}, S w → (execOp (evl F) ⟨d, op, ty, pos, after, some (g, want)⟩).run P w = .ok (.value v) w) (hl : listed.set i true = listed') (h : RG P ops Q S n listed' (putl F d v) w) : RG P ops Q S (n + 1) listed F w := d_takeG hi hc hQ ht hb HS (fun _ => hr) hl h
theorem zN (i : Nat) (HS : S w) (h : RG P ops Q S n listed' (putl F d undef) w) (hi : ops[i]? = some ⟨d, op, ty, pos, after, some (g, want)⟩ := by exact rfl) (ht : (ops[g]?).bind (·.dst) = some t := by exact rfl) (hb : evo F (.tmp t) = some (.bool b) := by exact rfl) (hne : b ≠ want := by decide) (hc : May1 ops listed i = true := by kernel_rfl) (hQ : ∀ c (a : Act) w, Q (.panic c) (a.put d undef) w → Q (.panic c) a w := by exact fun _ _ _ h => h) (hl : listed.set i true = listed' := by exact rfl) : RG P ops Q S (n + 1) listed F w := d_takeN hi hc hQ ht hb hne HS hl h
theorem zl1 (i : Nat) (h : Br P ops Q S n listed i F w) (hr : Ready ops listed = [i] := by kernel_rfl) : RG P ops Q S (n + 1) listed F w := d_all1 hr h
theorem zl2 (i j : Nat) (h1 : Br P ops Q S n listed i F w) (h2 : Br P ops Q S n listed j F w) (hr : Ready ops listed = [i, j] := by kernel_rfl) : RG P ops Q S (n + 1) listed F w := d_all2 hr h1 h2
theorem zl3 (i j k : Nat) (h1 : Br P ops Q S n listed i F w) (h2 : Br P ops Q S n listed j F w) (h3 : Br P ops Q S n listed k F w) (hr : Ready ops listed = [i, j, k] := by kernel_rfl) : RG P ops Q S (n + 1) listed F w := d_all3 hr h1 h2 h3
theorem zz (l' : List Value) (h : Q .normal ⟨l'.toArray, []⟩ w) (hr : Ready ops listed = [] := by kernel_rfl) (hl : F.all = l' := by exact rfl) : RG P ops Q S n listed F w := d_done hr hl h
end
theorem zw {fn : Func} {R : Value → World → Prop} (hr : (results fn l.toArray).run P w = .ok v w) (h : R v w) : bodyPost P fn (fun e w => ∃ v, e = .returned v ∧ R v w) .ret ⟨l.toArray, []⟩ w := e_ret hr ⟨v, rfl, h⟩
end
end Go.Er
namespace Go.Proofs.Ytobfnieebiakeaa
open Go Go.Er
abbrev qs24 := @Try.sizeOf24
abbrev qs28 := @Try.sizeOf28
abbrev qs3 := @Try.sizeOf3
abbrev qu3 := @Try.runUnderlying3
abbrev qu102 := @Try.runUnderlying102
abbrev qu88 := @Try.runUnderlying88
abbrev qg28 := @Try.isAgg28
abbrev qu85 := @Try.runUnderlying85
abbrev qs88 := @Try.sizeOf88
abbrev qg88 := @Try.isAgg88
abbrev qu90 := @Try.runUnderlying90
abbrev qs85 := @Try.sizeOf85
abbrev qg85 := @Try.isAgg85
abbrev qg3 := @Try.isAgg3
abbrev qo88 := @Try.zeroValue88
abbrev qg31 := @Try.isAgg31
abbrev qg76 := @Try.isAgg76
abbrev qg24 := @Try.isAgg24
abbrev qo24 := @Try.zeroValue24
abbrev qo44 := @Try.zeroValue44
abbrev qu24 := @Try.runUnderlying24
abbrev qs5 := @Try.sizeOf5
abbrev qg5 := @Try.isAgg5
abbrev qu5 := @Try.runUnderlying5
abbrev qu28 := @Try.runUnderlying28
abbrev qu44 := @Try.runUnderlying44
abbrev qg44 := @Try.isAgg44
abbrev qs44 := @Try.sizeOf44
abbrev qc23 := @Try.call23
abbrev qo121 := @Try.zeroValue121
abbrev qu121 := @Try.runUnderlying121
abbrev qs4 := @Try.sizeOf4
abbrev qg121 := @Try.isAgg121
abbrev qs121 := @Try.sizeOf121
abbrev qu40 := @Try.runUnderlying40
abbrev qc66 := @Try.call66
abbrev qu41 := @Try.runUnderlying41
abbrev qu9 := @Try.runUnderlying9
abbrev qu43 := @Try.runUnderlying43
abbrev qu49 := @Try.runUnderlying49
abbrev qs41 := @Try.sizeOf41
abbrev qg41 := @Try.isAgg41
abbrev qs40 := @Try.sizeOf40
abbrev qg40 := @Try.isAgg40
abbrev qc83 := @Try.call83
abbrev qo43 := @Try.zeroValue43
abbrev qs43 := @Try.sizeOf43
abbrev qg4 := @Try.isAgg4
abbrev qg43 := @Try.isAgg43
abbrev qg22 := @Try.isAgg22
abbrev qu22 := @Try.runUnderlying22
abbrev qc37 := @Try.call37
abbrev qg140 := @Try.isAgg140
abbrev qs140 := @Try.sizeOf140
abbrev qc57 := @Try.call57
abbrev qc56 := @Try.call56
abbrev qc16 := @Try.call16
abbrev qu25 := @Try.runUnderlying25
abbrev qo28 := @Try.zeroValue28
abbrev qc12 := @Try.call12
abbrev qc96 := @Try.call96
abbrev qc81 := @Try.call81
abbrev qu56 := @Try.runUnderlying56
abbrev qs45 := @Try.sizeOf45
abbrev qg45 := @Try.isAgg45
abbrev qc13 := @Try.call13
abbrev qu27 := @Try.runUnderlying27
end Go.Proofs.Ytobfnieebiakeaa
