/-
  The data and the plain law of layer 7: nodes as bytes.
-/
import Derived.Test.YtbjalofmamoffaaP6
import Derived.Test.YtbjalofmamoffaaK5
import Derived.Test.YtbjalofmamoffaaK6
import Derived.Lib.TrailingZeros
namespace Go.Er
open Go

/-! ### Trailing zeros -/
theorem ctz_div {x : Nat} (h0 : x ≠ 0) (h : x < 2 ^ 64) : x % 2 ^ Lib.ctz 64 x = 0 ∧ x % 2 ^ (Lib.ctz 64 x + 1) ≠ 0 := by
  obtain ⟨m, hm, _⟩ := Lib.ctzFrom_spec 64 x (by omega) h
  have e : Lib.ctz 64 x = Lib.ctzFrom 64 x := by unfold Lib.ctz; rw [if_neg h0]
  rw [e]
  generalize Lib.ctzFrom 64 x = c at hm
  subst hm
  refine ⟨Nat.mul_mod_right _ _, ?_⟩
  rw [Nat.pow_succ, Nat.mul_mod_mul_left]
  have hp : 0 < 2 ^ c := Nat.two_pow_pos c
  have : (2 * m + 1) % 2 = 1 := by omega
  rw [this]; omega
theorem ctz_eq {x k : Nat} (h : x < 2 ^ 64) (h1 : x % 2 ^ k = 0) (h2 : x % 2 ^ (k + 1) ≠ 0) : Lib.ctz 64 x = k := by
  have h0 : x ≠ 0 := by rintro rfl; simp at h2
  obtain ⟨c1, c2⟩ := ctz_div h0 h
  generalize Lib.ctz 64 x = c at c1 c2
  rcases Nat.lt_trichotomy c k with hl | hl | hl
  · exfalso
    have hd : 2 ^ (c + 1) ∣ 2 ^ k := Nat.pow_dvd_pow 2 hl
    exact c2 (Nat.mod_eq_zero_of_dvd (Nat.dvd_trans hd (Nat.dvd_of_mod_eq_zero h1)))
  · exact hl
  · exfalso
    have hd : 2 ^ (k + 1) ∣ 2 ^ c := Nat.pow_dvd_pow 2 hl
    exact h2 (Nat.mod_eq_zero_of_dvd (Nat.dvd_trans hd (Nat.dvd_of_mod_eq_zero c1)))
theorem or_lt64 {n k : Nat} (hn : n < 2 ^ 64) (hk : k ≤ 17) : n ||| 2 ^ k < 2 ^ 64 := Nat.or_lt_two_pow hn (Nat.pow_lt_pow_right (by omega) (by omega))
theorem ctz_pow {k : Nat} (hk : k ≤ 17) : Lib.ctz 64 (2 ^ k) = k := by
  refine ctz_eq (Nat.pow_lt_pow_right (by omega) (by omega)) (Nat.mod_self _) ?_
  have hp := Nat.two_pow_pos k
  rw [Nat.mod_eq_of_lt (Nat.pow_lt_pow_right (by omega) (by omega))]
  omega
theorem ctz_or {n k : Nat} (hn : n < 2 ^ 64) (hk : k ≤ 17) : Lib.ctz 64 (n ||| 2 ^ k) = Lib.ctz 64 (2 ^ k) ↔ n % 2 ^ k = 0 := by
  rw [ctz_pow hk]
  have hp := Nat.two_pow_pos k
  have hx := or_lt64 hn hk
  have e : (n ||| 2 ^ k) % 2 ^ k = n % 2 ^ k := by rw [Nat.or_mod_two_pow, Nat.mod_self, Nat.or_zero]
  constructor
  · intro h
    have h0 : n ||| 2 ^ k ≠ 0 := by have := Nat.right_le_or (n := n) (m := 2 ^ k); omega
    have := (ctz_div h0 hx).1
    rw [h, e] at this
    exact this
  · intro h
    refine ctz_eq hx (by rw [e]; exact h) ?_
    rw [Nat.or_mod_two_pow, Nat.mod_eq_of_lt (a := 2 ^ k) (Nat.pow_lt_pow_right (by omega) (by omega))]
    have := Nat.right_le_or (n := n % 2 ^ (k + 1)) (m := 2 ^ k)
    omega

/-- trailing zeros of a number -/
def tz (n : Int) : Int := (Lib.ctz 64 n.toNat : Int)
theorem bv_of {n : Nat} (h : n < 2 ^ 64) : (BitVec.ofInt 64 (n : Int)).toNat = n := by
  rw [BitVec.ofInt_natCast, BitVec.toNat_ofNat]; exact Nat.mod_eq_of_lt h
theorem or_u64 {a b : Nat} (ha : a < 2 ^ 64) (hb : b < 2 ^ 64) : IntKind.u64.wrap (BitVec.ofInt IntKind.u64.bits (a : Int) ||| BitVec.ofInt IntKind.u64.bits (b : Int)).toNat = ((a ||| b : Nat) : Int) := by
  show IntKind.u64.wrap ((BitVec.ofInt 64 (a : Int) ||| BitVec.ofInt 64 (b : Int)).toNat : Int) = _
  rw [BitVec.toNat_or, bv_of ha, bv_of hb]
  have := Nat.or_lt_two_pow ha hb
  exact w_u64 (by omega) (by omega)
theorem many_nat {d : Int} : many d = ((2 ^ (17 - d).toNat : Nat) : Int) := by unfold many; simp
/-- x.At | many -/
def orI (n m : Int) : Int := ((n.toNat ||| m.toNat : Nat) : Int)
theorem or_u64i {n m : Int} (h0 : 0 ≤ n) (h1 : n < 18446744073709551616) (h2 : 0 ≤ m) (h3 : m < 18446744073709551616) : IntKind.u64.wrap (BitVec.ofInt IntKind.u64.bits n ||| BitVec.ofInt IntKind.u64.bits m).toNat = orI n m := by
  have := or_u64 (a := n.toNat) (b := m.toNat) (by omega) (by omega)
  rw [Int.toNat_of_nonneg h0, Int.toNat_of_nonneg h2] at this
  exact this
theorem orI_lt {n m : Int} (h0 : 0 ≤ n) (h1 : n < 18446744073709551616) (h2 : 0 ≤ m) (h3 : m < 18446744073709551616) : 0 ≤ orI n m ∧ orI n m < 18446744073709551616 := by
  have := Nat.or_lt_two_pow (x := n.toNat) (y := m.toNat) (n := 64) (by omega) (by omega)
  unfold orI
  omega
theorem tz_or {n d : Int} (h0 : 0 ≤ n) (h1 : n < 18446744073709551616) (hd0 : 0 ≤ d) (hd1 : d ≤ 17) : tz (orI n (many d)) = tz (many d) ↔ n % many d = 0 := by
  unfold tz orI
  rw [many_nat, Int.toNat_natCast, Int.toNat_natCast]
  have h := ctz_or (n := n.toNat) (k := (17 - d).toNat) (by omega) (by omega)
  constructor
  · intro e
    have := h.1 (by omega)
    have e2 : n = (n.toNat : Int) := by omega
    rw [e2, ← Int.natCast_emod, this]; rfl
  · intro e
    have e2 : n = (n.toNat : Int) := by omega
    rw [e2, ← Int.natCast_emod] at e
    have := h.2 (by omega)
    omega

/-! ### Bytes -/
def BRow (w : World) (a : Option Addr) (bs : List UInt8) : Prop :=
  0 < bs.length → ∃ b off pre post T fz, a = some ⟨b, off, none⟩ ∧ w.heap[b]? = some (.cells (pre ++ bC bs ++ post).toArray T fz) ∧ pre.length = off
theorem BRow.st {w0 w : World} {L : List (Nat × Obj)} {a : Option Addr} {bs : List UInt8} (h : BRow w0 a bs) (H : St w0 [] w L) : BRow w a bs := by
  intro hx
  obtain ⟨b, off, pre, post, T, fz, e, hb, hp⟩ := h hx
  exact ⟨b, off, pre, post, T, fz, e, H.rd0 hb, hp⟩
theorem BRow.nil {w : World} {a : Option Addr} : BRow w a [] := fun h => absurd h (Nat.lt_irrefl _)
theorem bC_append (a b : List UInt8) : bC (a ++ b) = bC a ++ bC b := by simp [bC]
theorem bs_td (pre : List Value) (bs : List UInt8) (post : List Value) (off i n : Nat) (ho : pre.length = off) (hi : i + n ≤ bs.length) : ((pre ++ bC bs ++ post).drop (off + i)).take n = bC ((bs.drop i).take n) := by
  subst ho
  rw [List.append_assoc, List.drop_append, List.drop_of_length_le (by omega), List.nil_append]
  have h1 : pre.length + i - pre.length = i := by omega
  rw [h1, List.drop_append_of_le_length (by rw [bC_length]; omega), List.take_append_of_le_length (by rw [List.length_drop, bC_length]; omega)]
  simp [bC]
theorem bs_get (pre : List Value) (bs : List UInt8) (post : List Value) (off i : Nat) (ho : pre.length = off) (hi : i < bs.length) : (pre ++ bC bs ++ post)[off + i]? = some (.int .u8 ((bs.getD i 0).toNat : Int)) := by
  subst ho
  rw [List.append_assoc, List.getElem?_append_right (by omega)]
  have h1 : pre.length + i - pre.length = i := by omega
  rw [h1, List.getElem?_append_left (by rw [bC_length]; exact hi)]
  exact bC_byt bs i rfl hi
theorem bs_getE (pre : List Value) (bs : List UInt8) (post : List Value) {off o : Nat} (i : Nat) (ho : pre.length = off) (hi : i < bs.length) (he : o = off + i) : (pre ++ bC bs ++ post)[o]? = some (.int .u8 ((bs.getD i 0).toNat : Int)) := by
  subst he; exact bs_get pre bs post off i ho hi
theorem BRow.cut {w : World} {a : Option Addr} {bs : List UInt8} {cap lo n : Nat} (h : BRow w a bs) (hn : lo + n ≤ bs.length) (hc : lo + n ≤ cap) : BRow w (cutA a 1 cap lo) ((bs.drop lo).take n) := by
  intro h0
  have hl : n ≠ 0 := by rintro rfl; simp at h0
  obtain ⟨b, off, pre, post, T, fz, rfl, hb, hp⟩ := h (by omega)
  refine ⟨b, off + lo, pre ++ bC (bs.take lo), bC (bs.drop (lo + n)) ++ post, T, fz, ?_, ?_, ?_⟩
  · rw [cutA_some (by omega), Nat.mul_one]
  · rw [hb]
    have e : bs = bs.take lo ++ ((bs.drop lo).take n ++ bs.drop (lo + n)) := by
      rw [← List.drop_drop, List.take_append_drop, List.take_append_drop]
    have e2 : pre ++ bC bs ++ post = pre ++ bC (bs.take lo) ++ bC ((bs.drop lo).take n) ++ (bC (bs.drop (lo + n)) ++ post) := by
      have : bC bs = bC (bs.take lo) ++ (bC ((bs.drop lo).take n) ++ bC (bs.drop (lo + n))) := by rw [← bC_append, ← bC_append, ← e]
      rw [this]; simp
    rw [e2]
  · rw [List.length_append, bC_length, List.length_take, hp]; omega

/-- a number in so many bytes -/
def putB (n : Int) (size : Nat) : List UInt8 := (List.range size).map fun i => UInt8.ofNat (n / 2 ^ (8 * (size - 1 - i)) % 256).toNat
theorem putB_length (n : Int) (size : Nat) : (putB n size).length = size := by simp [putB]
theorem putB_get (n : Int) (size : Nat) {i : Nat} (hi : i < size) : (((putB n size).getD i 0).toNat : Int) = n / 2 ^ (8 * (size - 1 - i)) % 256 := by
  simp only [putB, List.getD_eq_getElem?_getD, List.getElem?_map, List.getElem?_range hi, Option.map_some, Option.getD_some, UInt8.toNat_ofNat']
  omega
/-- the number that stands in bytes -/
def getN (bs : List UInt8) : Int := bs.foldl (fun n b => n * 256 + (b.toNat : Int)) 0
theorem getN_snoc (bs : List UInt8) (b : UInt8) : getN (bs ++ [b]) = getN bs * 256 + (b.toNat : Int) := by simp [getN, List.foldl_append]
theorem getN_take {bs : List UInt8} {i : Nat} (hi : i < bs.length) : getN (bs.take (i + 1)) = getN (bs.take i) * 256 + ((bs.getD i 0).toNat : Int) := by
  rw [List.take_succ_eq_append_getElem hi, getN_snoc]
  simp [List.getD_eq_getElem?_getD, hi]
theorem getN_bound (bs : List UInt8) : 0 ≤ getN bs ∧ getN bs < 256 ^ bs.length := by
  have key : ∀ (l : List UInt8) (i : Nat), i ≤ l.length → 0 ≤ getN (l.take i) ∧ getN (l.take i) < 256 ^ i := by
    intro l i
    induction i with
    | zero => intro _; simp [getN]
    | succ i ih =>
      intro h
      obtain ⟨h1, h2⟩ := ih (by omega)
      rw [getN_take (by omega), Int.pow_succ]
      have := (l.getD i 0).toNat_lt
      omega
  have := key bs bs.length (Nat.le_refl _)
  rwa [List.take_length] at this
theorem or_step {n : Int} {x : UInt8} (h0 : 0 ≤ n) (h1 : n < 72057594037927936) : IntKind.u64.wrap (BitVec.ofInt IntKind.u64.bits (n * 256) ||| BitVec.ofInt IntKind.u64.bits (x.toNat : Int)).toNat = n * 256 + (x.toNat : Int) := by
  have hx := x.toNat_lt
  rw [or_u64i (by omega) (by omega) (by omega) (by omega)]
  unfold orI
  have e : (n * 256).toNat = n.toNat <<< 8 := by rw [Nat.shiftLeft_eq]; omega
  rw [e, Int.toNat_natCast, ← Nat.shiftLeft_add_eq_or_of_lt (by simpa using hx), Nat.shiftLeft_eq]
  omega

/-! ### Nodes as bytes -/
/-- 36 bytes -/
def nodeB (h : Held) : List UInt8 := UInt8.ofNat (h.depth % 256).toNat :: (putB h.at_ 3 ++ h.seed.1)
theorem nodeB_length (h : Held) : (nodeB h).length = 36 := by simp [nodeB, putB_length, h.seed.2]
def encB (xs : List Held) : List UInt8 := putB xs.length 2 ++ xs.flatMap nodeB
theorem nodes_length (xs : List Held) : (xs.flatMap nodeB).length = 36 * xs.length := by
  induction xs with
  | nil => rfl
  | cons x xs ih => simp only [List.flatMap_cons, List.length_append, nodeB_length, ih, List.length_cons]; omega
theorem encB_length (xs : List Held) : (encB xs).length = 2 + 36 * xs.length := by rw [encB, List.length_append, putB_length, nodes_length]
theorem getN_lt (bs : List UInt8) {i : Nat} (hi : i ≤ 7) : 0 ≤ getN (bs.take i) ∧ getN (bs.take i) < 72057594037927936 := by
  have h := getN_bound (bs.take i)
  have h1 : (256 : Nat) ^ (bs.take i).length ≤ 256 ^ 7 := Nat.pow_le_pow_right (by omega) (by rw [List.length_take]; omega)
  have h2 : ((256 : Int) ^ (bs.take i).length) ≤ 72057594037927936 := by
    have h3 : (((256 : Nat) ^ (bs.take i).length : Nat) : Int) ≤ ((256 ^ 7 : Nat) : Int) := Int.ofNat_le.2 h1
    simpa using h3
  omega
theorem shl8 {n : Int} (h0 : 0 ≤ n) (h1 : n < 72057594037927936) : IntKind.u64.wrap (n * 2 ^ min (8 : Int).toNat IntKind.u64.bits) = n * 256 := w_u64e rfl (by show 0 ≤ n * 256; omega) (by show n * 256 < _; omega)

/-- numbers of a node, as Go's kinds hold them -/
def InR (h : Held) : Prop := -9223372036854775808 ≤ h.depth ∧ h.depth ≤ 9223372036854775807 ∧ 0 ≤ h.at_ ∧ h.at_ < 18446744073709551616
theorem okFrom_drop {xs : List Held} {e : Int} {i : Nat} (hi : i < xs.length) : okFrom e (xs.drop i) ↔ okN (nd xs i) ∧ e ≤ (nd xs i).at_ ∧ okFrom ((nd xs i).at_ + many (nd xs i).depth) (xs.drop (i + 1)) := by
  rw [List.drop_eq_getElem_cons hi, nd_eq hi]; rfl
theorem okFrom_end {xs : List Held} {e : Int} {i : Nat} (hi : xs.length ≤ i) : okFrom e (xs.drop i) := by rw [List.drop_of_length_le hi]; trivial
instance okFromDec : ∀ (e : Int) (xs : List Held), Decidable (okFrom e xs)
  | _, [] => isTrue trivial
  | e, h :: t => by
    have := okFromDec (h.at_ + many h.depth) t
    unfold okFrom okN
    infer_instance
instance (xs : List Held) : Decidable (Valid xs) := okFromDec 0 xs
theorem take_step {xs ys : List Held} {i : Nat} (h1 : i < xs.length) (h2 : i < ys.length) (h : xs.take i = ys.take i) (he : nd xs i = nd ys i) : xs.take (i + 1) = ys.take (i + 1) := by
  rw [List.take_succ_eq_append_getElem h1, List.take_succ_eq_append_getElem h2, h, nd_eq h1, nd_eq h2, he]
/-- the bytes of the first i nodes, behind their number -/
def preB (xs : List Held) (i : Nat) : List UInt8 := putB xs.length 2 ++ (xs.take i).flatMap nodeB
theorem preB_zero (xs : List Held) : preB xs 0 = putB xs.length 2 := by simp [preB]
theorem preB_all (xs : List Held) : preB xs xs.length = encB xs := by simp [preB, encB]
theorem preB_succ {xs : List Held} {i : Nat} (hi : i < xs.length) : preB xs (i + 1) = preB xs i ++ nodeB (nd xs i) := by
  unfold preB
  rw [List.take_succ_eq_append_getElem hi, List.flatMap_append, nd_eq hi]; simp
theorem u8c (d : Int) : Value.int .u8 (d % 256) = .int .u8 ((UInt8.ofNat (d % 256).toNat).toNat : Int) := by
  congr 1
  rw [UInt8.toNat_ofNat']
  omega
theorem enc_step {xs : List Held} {i n : Nat} {E : TypeId} {a : Option Addr} {cap : Nat} {N : List (Nat × Obj)} (hi : i < xs.length)
    (h : RowN 1 E (bC (preB xs i) ++ [.int .u8 ((nd xs i).depth % 256)] ++ bC (putB (nd xs i).at_ 3) ++ kC (nd xs i).seed) n a cap N) : RowN 1 E (bC (preB xs (i + 1))) n a cap N := by
  have e : bC (preB xs (i + 1)) = bC (preB xs i) ++ [.int .u8 ((nd xs i).depth % 256)] ++ bC (putB (nd xs i).at_ 3) ++ kC (nd xs i).seed := by
    rw [preB_succ hi, bC_append, u8c]
    simp [nodeB, bC, kC]
  rw [e]; exact h
theorem putB2 (n : Int) : [Value.int .u8 (n / 256 % 256), Value.int .u8 (n % 256 % 256)] = bC (putB n 2) := by
  have e : putB n 2 = [UInt8.ofNat (n / 256 % 256).toNat, UInt8.ofNat (n % 256).toNat] := by simp [putB, List.range_succ]
  rw [e]
  simp only [bC, List.map_cons, List.map_nil]
  rw [← u8c (n / 256), ← u8c n]
  have : n % 256 % 256 = n % 256 := by omega
  rw [this]
/-- what stands ahead of a seed -/
def headB (h : Held) : List UInt8 := UInt8.ofNat (h.depth % 256).toNat :: putB h.at_ 3
theorem headB_cells (h : Held) : [Value.int .u8 (h.depth % 256), Value.int .u8 (h.at_ / 65536 % 256), Value.int .u8 (h.at_ / 256 % 256 % 256), Value.int .u8 (h.at_ % 256 % 256)] = bC (headB h) := by
  have e : putB h.at_ 3 = [UInt8.ofNat (h.at_ / 65536 % 256).toNat, UInt8.ofNat (h.at_ / 256 % 256).toNat, UInt8.ofNat (h.at_ % 256).toNat] := by simp [putB, List.range_succ]
  unfold headB
  rw [e]
  simp only [bC, List.map_cons, List.map_nil]
  rw [← u8c h.depth, ← u8c (h.at_ / 65536), ← u8c (h.at_ / 256), ← u8c h.at_]
  have h1 : h.at_ % 256 % 256 = h.at_ % 256 := by omega
  have h2 : h.at_ / 256 % 256 % 256 = h.at_ / 256 % 256 := by omega
  rw [h1, h2]
theorem headB_length (h : Held) : (headB h).length = 4 := by simp [headB, putB_length]
def midB (xs : List Held) (i k : Nat) : List UInt8 := preB xs i ++ headB (nd xs i) ++ (nd xs i).seed.1.take k
theorem mid_zero {xs : List Held} {i n : Nat} {E : TypeId} {a : Option Addr} {cap : Nat} {N : List (Nat × Obj)} (h : RowN 1 E (bC (preB xs i) ++ bC (headB (nd xs i))) n a cap N) : RowN 1 E (bC (midB xs i 0)) n a cap N := by
  have e : bC (midB xs i 0) = bC (preB xs i) ++ bC (headB (nd xs i)) := by simp [midB, bC_append]
  rw [e]; exact h
theorem mid_step {xs : List Held} {i k n : Nat} {E : TypeId} {a : Option Addr} {cap : Nat} {N : List (Nat × Obj)} (hk : k < 32) (h : RowN 1 E (bC (midB xs i k) ++ [Value.int .u8 ((byt (nd xs i).seed k).toNat : Int)]) n a cap N) : RowN 1 E (bC (midB xs i (k + 1))) n a cap N := by
  have hl : k < (nd xs i).seed.1.length := by rw [(nd xs i).seed.2]; exact hk
  have e : bC (midB xs i (k + 1)) = bC (midB xs i k) ++ [Value.int .u8 ((byt (nd xs i).seed k).toNat : Int)] := by
    unfold midB
    have hb : byt (nd xs i).seed k = (nd xs i).seed.1[k] := by
      unfold byt; rw [List.getD_eq_getElem?_getD, List.getElem?_eq_getElem hl]; rfl
    rw [List.take_succ_eq_append_getElem hl, ← List.append_assoc, bC_append, hb]
    rfl
  rw [e]; exact h
theorem mid_all {xs : List Held} {i n : Nat} {E : TypeId} {a : Option Addr} {cap : Nat} {N : List (Nat × Obj)} (hi : i < xs.length) (h : RowN 1 E (bC (midB xs i 32)) n a cap N) : RowN 1 E (bC (preB xs (i + 1))) n a cap N := by
  have e : midB xs i 32 = preB xs (i + 1) := by
    rw [preB_succ hi]; unfold midB
    rw [List.take_of_length_le (by rw [(nd xs i).seed.2]; omega)]
    simp [nodeB, headB]
  rw [← e]; exact h
theorem hs_seed (pre : List Value) (xs : List Held) (post : List Value) {off o : Nat} (i k : Nat) (ho : pre.length = off) (hi : i < xs.length) (hk : k < 32) (he : o = off + i * 34 + 2 + k) : (pre ++ hsC xs ++ post)[o]? = some (.int .u8 ((byt (nd xs i).seed k).toNat : Int)) := by
  subst he
  have h := hs_get pre xs post off i (2 + k) ho hi (by omega)
  have e : off + i * 34 + 2 + k = off + i * 34 + (2 + k) := by omega
  rw [e, h, nd_eq hi]
  have e2 : (hC (nd xs i))[2 + k]? = (kC (nd xs i).seed)[k]? := by
    rw [Nat.add_comm]; rfl
  rw [e2]
  exact kC_byt _ k rfl hk
end Go.Er
