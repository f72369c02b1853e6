/-
  The data of the layers 6 and 7: keys, held nodes, rows of them, as cells.
-/
import Derived.Test.YtbjalofmamoffaaK4
namespace Go.Er
open Go

/-- n bytes -/
def By (n : Nat) := { l : List UInt8 // l.length = n }
abbrev Key := By 32
def bC (l : List UInt8) : List Value := l.map fun b => .int .u8 (b.toNat : Int)
def kC {n : Nat} (k : By n) : List Value := bC k.1
theorem bC_length (l : List UInt8) : (bC l).length = l.length := by simp [bC]
theorem kC_length {n : Nat} (k : By n) : (kC k).length = n := by simp [kC, bC, k.2]
theorem bC_one (l : List UInt8) : ∀ v ∈ bC l, v.oneCell' = true := by
  intro v hv; simp only [bC, List.mem_map] at hv; obtain ⟨b, _, rfl⟩ := hv; rfl
theorem kC_one {n : Nat} (k : By n) : ∀ v ∈ kC k, v.oneCell' = true := bC_one _
def By.zero (n : Nat) : By n := ⟨List.replicate n 0, by simp⟩
theorem By.ext {n : Nat} {a b : By n} (h : a.1 = b.1) : a = b := Subtype.ext h

structure Held where
  depth : Int
  at_ : Int
  seed : Key
def hC (h : Held) : List Value := .int .i64 h.depth :: .int .u64 h.at_ :: kC h.seed
theorem hC_length (h : Held) : (hC h).length = 34 := by simp [hC, kC_length]
theorem hC_one (h : Held) : ∀ v ∈ hC h, v.oneCell' = true := by
  intro v hv
  simp only [hC, List.mem_cons] at hv
  rcases hv with rfl | rfl | hv
  · rfl
  · rfl
  · exact kC_one _ v hv
def Held.zero : Held := ⟨0, 0, By.zero 32⟩
def hsC (xs : List Held) : List Value := xs.flatMap hC
theorem hsC_length (xs : List Held) : (hsC xs).length = 34 * xs.length := by
  induction xs with
  | nil => rfl
  | cons x xs ih => simp only [hsC, List.flatMap_cons, List.length_append, hC_length] at ih ⊢; rw [ih]; simp; omega
theorem hsC_one (xs : List Held) : ∀ v ∈ hsC xs, v.oneCell' = true := by
  intro v hv
  simp only [hsC, List.mem_flatMap] at hv
  obtain ⟨x, _, hx⟩ := hv
  exact hC_one x v hx
theorem hsC_append (a b : List Held) : hsC (a ++ b) = hsC a ++ hsC b := by simp [hsC]
theorem hsC_cons (a : Held) (b : List Held) : hsC (a :: b) = hC a ++ hsC b := by simp [hsC]

/-! ### What lies in a block, read -/
section
variable {n : Nat} (k : By n) (h : Held)
theorem all_td {vs : List Value} (m : Nat) (hm : vs.length = m) : (vs.drop 0).take m = vs := by subst hm; simp
theorem kC_td : ((kC k).drop 0).take n = kC k := all_td _ (kC_length k)
theorem hC_td : ((hC h).drop 0).take 34 = hC h := all_td _ (hC_length h)
theorem hC_seed : ((hC h).drop (0 + 2)).take 32 = kC h.seed := by
  show (kC h.seed).take 32 = _
  rw [List.take_of_length_le (by rw [kC_length]; omega)]
theorem hC_0 : (hC h)[0]? = some (.int .i64 h.depth) := rfl
theorem hC_00 : (hC h)[0 + 0]? = some (.int .i64 h.depth) := rfl
theorem hC_1 : (hC h)[0 + 1]? = some (.int .u64 h.at_) := rfl

theorem kC_get (i : Nat) (hi : i < n) : (kC k)[i]? = some (.int .u8 ((k.1[i]'(by rw [k.2]; exact hi)).toNat : Int)) := by
  simp [kC, bC, k.2, hi]

/-- splices -/
theorem kC_sp (k' : By n) : splice (kC k) 0 (kC k') = kC k' := splice_all (by rw [kC_length, kC_length])
theorem hC_sp (h' : Held) : splice (hC h) 0 (hC h') = hC h' := splice_all (by rw [hC_length, hC_length])
end

/-- byte number i -/
def byt {n : Nat} (k : By n) (i : Nat) : UInt8 := k.1.getD i 0
theorem kC_byt {n : Nat} (k : By n) {o : Nat} (i : Nat) (ho : o = i) (hi : i < n) : (kC k)[o]? = some (.int .u8 ((byt k i).toNat : Int)) := by
  subst ho
  have h : o < k.1.length := by rw [k.2]; exact hi
  simp [kC, bC, byt, List.getD_eq_getElem?_getD, h]
theorem bC_byt (l : List UInt8) {o : Nat} (i : Nat) (ho : o = i) (hi : i < l.length) : (bC l)[o]? = some (.int .u8 ((l.getD i 0).toNat : Int)) := by
  subst ho
  simp [bC, List.getD_eq_getElem?_getD, hi]
/-- a row that is being written: so far 'done', behind it 'old' -/
def mix (done old : List UInt8) (i : Nat) : List UInt8 := done.take i ++ old.drop i
theorem mix_zero (d o : List UInt8) : mix d o 0 = o := by simp [mix]
theorem mix_all (d o : List UInt8) {i : Nat} (h1 : d.length = i) (h2 : o.length = i) : mix d o i = d := by unfold mix; rw [List.drop_of_length_le (by omega), List.take_of_length_le (by omega), List.append_nil]
theorem mix_length (d o : List UInt8) {i : Nat} (h : d.length = o.length) : (mix d o i).length = o.length := by simp [mix]; omega
theorem mix_set (d o : List UInt8) (i : Nat) {off : Nat} {r : Int} (h : d.length = o.length) (hi : i < o.length) (ho : off = i) (hr : r = ((d.getD i 0).toNat : Int)) : (bC (mix d o i)).set off (.int .u8 r) = bC (mix d o (i + 1)) := by
  subst ho hr
  have hd : off < d.length := by omega
  have e : Value.int .u8 ((d.getD off 0).toNat : Int) = (fun b : UInt8 => Value.int .u8 (b.toNat : Int)) (d.getD off 0) := rfl
  unfold bC
  rw [e, ← List.map_set]
  congr 1
  unfold mix
  rw [List.set_append_right _ _ (by simp; omega)]
  have h2 : off - (List.take off d).length = 0 := by simp; omega
  rw [h2, List.drop_eq_getElem_cons hi, List.set_cons_zero, List.take_succ_eq_append_getElem hd, List.append_assoc]
  simp [List.getD_eq_getElem?_getD, hd]

/-- a row of nodes, behind 'pre' cells, ahead of 'post' -/
theorem hs_td (pre : List Value) (xs : List Held) (post : List Value) (off i : Nat) (ho : pre.length = off) (hi : i < xs.length) : ((pre ++ hsC xs ++ post).drop (off + i * 34)).take 34 = hC (xs[i]'hi) := by
  subst ho
  have e : xs = xs.take i ++ (xs[i] :: xs.drop (i + 1)) := by simp
  have hl : (hsC (xs.take i)).length = i * 34 := by rw [hsC_length]; simp; omega
  have h2 : pre ++ hsC xs ++ post = (pre ++ hsC (xs.take i)) ++ (hC xs[i] ++ (hsC (xs.drop (i + 1)) ++ post)) := by
    have h3 : hsC xs = hsC (xs.take i) ++ (hC xs[i] ++ hsC (xs.drop (i + 1))) := by rw [← hsC_cons, ← hsC_append, ← e]
    rw [h3]; simp
  rw [h2, List.drop_append, List.drop_of_length_le (by simp [hl]), List.nil_append]
  have h4 : pre.length + i * 34 - (pre ++ hsC (xs.take i)).length = 0 := by simp [hl]
  rw [h4, List.drop_zero, List.take_append, List.take_of_length_le (by rw [hC_length]; omega), hC_length]
  simp

theorem hs_get (pre : List Value) (xs : List Held) (post : List Value) (off i j : Nat) (ho : pre.length = off) (hi : i < xs.length) (hj : j < 34) : (pre ++ hsC xs ++ post)[off + i * 34 + j]? = (hC (xs[i]'hi))[j]? := by
  have h := hs_td pre xs post off i ho hi
  rw [← h, List.getElem?_take, if_pos hj, List.getElem?_drop]

theorem hfill (d a : Int) (k : Key) : fillL [(0, 1), (1, 1), (2, 32)] (hC Held.zero) [(0, .int .i64 d), (1, .int .u64 a), (2, .agg (kC k).toArray)] = some (hC ⟨d, a, k⟩) := by
  have hk := kC_length k
  simp [fillL, Value.cells, splice, hC, kC_length, hk]
theorem hfill1 (k : Key) : fillL [(0, 1), (1, 1), (2, 32)] (hC Held.zero) [(2, .agg (kC k).toArray)] = some (hC ⟨0, 0, k⟩) := by
  have hk := kC_length k
  simp [fillL, Value.cells, splice, hC, kC_length, hk, Held.zero]

/-! ### The little cipher's split -/
def splitL (k : Key) : Key := ⟨(List.range 32).map fun i => byt k i * 3 + UInt8.ofNat i + 1, by simp⟩
def splitR (k : Key) : Key := ⟨(List.range 32).map fun i => byt k i * 5 + UInt8.ofNat (2 * i) + 7, by simp⟩
theorem u8eq {r : Int} {u : UInt8} (h : r = (u.toNat : Int)) : r = (u.toNat : Int) := h
theorem splitL_byt (k : Key) {i : Nat} (hi : i < 32) : ((((byt k i).toNat : Int) * 3 % 256 + (i : Int) % 256) % 256 + 1) % 256 = (((splitL k).1.getD i 0).toNat : Int) := by
  simp only [splitL, List.getD_eq_getElem?_getD, List.getElem?_map, List.getElem?_range hi, Option.map_some, Option.getD_some, UInt8.toNat_add, UInt8.toNat_mul, UInt8.toNat_ofNat']
  have : (3 : UInt8).toNat = 3 := rfl
  have h1 : (1 : UInt8).toNat = 1 := rfl
  rw [this, h1]
  omega
theorem splitR_byt (k : Key) {i : Nat} (hi : i < 32) : ((((byt k i).toNat : Int) * 5 % 256 + (2 * (i : Int)) % 256) % 256 + 7) % 256 = (((splitR k).1.getD i 0).toNat : Int) := by
  simp only [splitR, List.getD_eq_getElem?_getD, List.getElem?_map, List.getElem?_range hi, Option.map_some, Option.getD_some, UInt8.toNat_add, UInt8.toNat_mul, UInt8.toNat_ofNat']
  have : (5 : UInt8).toNat = 5 := rfl
  have h1 : (7 : UInt8).toNat = 7 := rfl
  rw [this, h1]
  omega
end Go.Er
