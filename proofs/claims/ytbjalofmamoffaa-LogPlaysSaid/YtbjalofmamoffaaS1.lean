/-
  The plain law of sealed sectors: the little sum, a sealed sector, what it has.
-/
import Derived.Test.YtbjalofmamoffaaR1
namespace Go.Er
open Go

/-! ### The little cipher's sum -/
def ls1 (x : Int) (b : UInt8) : Int := (x + (b.toNat : Int)) % 18446744073709551616 * 1099511628211 % 18446744073709551616
def ls2 (x : Int) (b : UInt8) : Int := ((x + (b.toNat : Int)) % 18446744073709551616 + 1) % 18446744073709551616 * 1099511628211 % 18446744073709551616
def ls3 (x : Int) : Int := (x * 6364136223846793005 % 18446744073709551616 + 1442695040888963407) % 18446744073709551616
def lsK (k : List UInt8) (x : Int) : Nat → Int
  | 0 => x
  | i + 1 => ls1 (lsK k x i) (k.getD i 0)
def lsB (bs : List UInt8) (x : Int) : Nat → Int
  | 0 => x
  | i + 1 => ls2 (lsB bs x i) (bs.getD i 0)
def lsY (x : Int) : Nat → Int
  | 0 => x
  | i + 1 => ls3 (lsY x i)
def lsX (k : Key) (bs : List UInt8) : Int := lsB bs (lsK k.1 bs.length 32) bs.length
def lsO (k : Key) (bs : List UInt8) (i : Nat) : UInt8 := UInt8.ofNat (lsY (lsX k bs) (i + 1) / 72057594037927936).toNat
def litSum (k : Key) (bs : List UInt8) : By 16 := ⟨(List.range 16).map (lsO k bs), by simp⟩
theorem lsY_rng {x : Int} (h0 : 0 ≤ x) (h1 : x < 18446744073709551616) : ∀ i, 0 ≤ lsY x i ∧ lsY x i < 18446744073709551616
  | 0 => ⟨h0, h1⟩
  | i + 1 => by unfold lsY ls3; omega
theorem lsK_rng {k : List UInt8} {x : Int} (h0 : 0 ≤ x) (h1 : x < 18446744073709551616) : ∀ i, 0 ≤ lsK k x i ∧ lsK k x i < 18446744073709551616
  | 0 => ⟨h0, h1⟩
  | i + 1 => by unfold lsK ls1; omega
theorem lsB_rng {k : List UInt8} {x : Int} (h0 : 0 ≤ x) (h1 : x < 18446744073709551616) : ∀ i, 0 ≤ lsB k x i ∧ lsB k x i < 18446744073709551616
  | 0 => ⟨h0, h1⟩
  | i + 1 => by unfold lsB ls2; omega
theorem litSum_get (k : Key) (bs : List UInt8) {i : Nat} (hi : i < 16) : (litSum k bs).1.getD i 0 = lsO k bs i := by
  simp [litSum, List.getD_eq_getElem?_getD, hi]
theorem lsO_byte {k : Key} {bs : List UInt8} {i : Nat} {n : Int} (h : n = lsY (lsX k bs) (i + 1) / 72057594037927936) (h0 : 0 ≤ n) (h1 : n < 256) : n = ((lsO k bs i).toNat : Int) := by
  unfold lsO
  rw [← h, UInt8.toNat_ofNat']
  omega

/-! ### Sealed sectors -/
abbrev Sec := By 128
def secL (l : List UInt8) (h : l.length = 128) : Sec := ⟨l, h⟩
def headS (gen : Int) (body : List UInt8) : List UInt8 := putB gen 8 ++ (UInt8.ofNat body.length :: (body ++ List.replicate (103 - body.length) 0))
theorem headS_length {gen : Int} {body : List UInt8} (h : body.length ≤ 103) : (headS gen body).length = 112 := by
  simp only [headS, List.length_append, putB_length, List.length_cons, List.length_replicate]; omega
def sealL (at_ gen : Int) (body : List UInt8) : List UInt8 := (litSum (By.zero 32) (putB at_ 4 ++ headS gen body)).1 ++ headS gen body
theorem sealL_length {at_ gen : Int} {body : List UInt8} (h : body.length ≤ 103) : (sealL at_ gen body).length = 128 := by
  rw [sealL, List.length_append, headS_length h, (litSum _ _).2]
def sealS (at_ gen : Int) (body : List UInt8) : Sec := if h : body.length ≤ 103 then secL (sealL at_ gen body) (sealL_length h) else By.zero 128
theorem sealS_val {at_ gen : Int} {body : List UInt8} (h : body.length ≤ 103) : (sealS at_ gen body).1 = sealL at_ gen body := by unfold sealS; rw [dif_pos h]; rfl
/-- what a sector has: its generation, its body -/
def lenU (s : Sec) : Nat := (s.1.getD 24 0).toNat
def genU (s : Sec) : Int := getN ((s.1.drop 16).take 8)
def bodyU (s : Sec) : List UInt8 := (s.1.drop 25).take (lenU s)
def Sealed (at_ : Int) (s : Sec) : Prop := lenU s ≤ 103 ∧ s = sealS at_ (genU s) (bodyU s)
instance (at_ : Int) (s : Sec) : Decidable (Sealed at_ s) := by unfold Sealed; infer_instance
theorem bodyU_length {s : Sec} (h : lenU s ≤ 103) : (bodyU s).length = lenU s := by
  unfold bodyU
  rw [List.length_take, List.length_drop, s.2]; omega
theorem genU_rng (s : Sec) : 0 ≤ genU s ∧ genU s < 18446744073709551616 := by
  have h := getN_bound ((s.1.drop 16).take 8)
  have hl : ((s.1.drop 16).take 8).length = 8 := by rw [List.length_take, List.length_drop, s.2]; omega
  rw [hl] at h
  exact h
theorem getN_put8 {n : Int} (h0 : 0 ≤ n) (h1 : n < 18446744073709551616) : getN (putB n 8) = n := by
  have e : putB n 8 = [UInt8.ofNat (n / 72057594037927936 % 256).toNat, UInt8.ofNat (n / 281474976710656 % 256).toNat, UInt8.ofNat (n / 1099511627776 % 256).toNat, UInt8.ofNat (n / 4294967296 % 256).toNat, UInt8.ofNat (n / 16777216 % 256).toNat, UInt8.ofNat (n / 65536 % 256).toNat, UInt8.ofNat (n / 256 % 256).toNat, UInt8.ofNat (n % 256).toNat] := by
    simp [putB, List.range_succ]
  rw [e]
  simp only [getN, List.foldl_cons, List.foldl_nil, u8m]
  omega
section
variable {at_ gen : Int} {body : List UInt8} (h : body.length ≤ 103)
include h
theorem seal_drop : (sealS at_ gen body).1.drop 16 = headS gen body := by
  rw [sealS_val h, sealL, List.drop_append, List.drop_of_length_le (by rw [(litSum _ _).2]; exact Nat.le_refl _), (litSum _ _).2]
  simp
theorem seal_len : lenU (sealS at_ gen body) = body.length := by
  unfold lenU
  have e : (sealS at_ gen body).1.getD 24 0 = (headS gen body).getD 8 0 := by
    rw [← seal_drop h (at_ := at_), drop_getD]
  rw [e]
  simp only [headS, List.getD_eq_getElem?_getD]
  rw [List.getElem?_append_right (by rw [putB_length]; omega), putB_length]
  simp only [Nat.sub_self, List.getElem?_cons_zero, Option.getD_some, UInt8.toNat_ofNat']
  omega
theorem seal_gen (h0 : 0 ≤ gen) (h1 : gen < 18446744073709551616) : genU (sealS at_ gen body) = gen := by
  unfold genU
  rw [seal_drop h, headS, List.take_append, List.take_of_length_le (by rw [putB_length]; exact Nat.le_refl _), putB_length]
  simp only [Nat.sub_self, List.take_zero, List.append_nil]
  exact getN_put8 h0 h1
theorem seal_body : bodyU (sealS at_ gen body) = body := by
  unfold bodyU
  rw [seal_len h]
  have e : (sealS at_ gen body).1.drop 25 = (headS gen body).drop 9 := by
    rw [← seal_drop h (at_ := at_), List.drop_drop]
  rw [e, headS, List.drop_append, List.drop_of_length_le (by rw [putB_length]; omega), putB_length]
  show (List.drop 1 (UInt8.ofNat body.length :: (body ++ List.replicate (103 - body.length) 0))).take body.length = body
  simp
theorem seal_ok (h0 : 0 ≤ gen) (h1 : gen < 18446744073709551616) : Sealed at_ (sealS at_ gen body) := by
  refine ⟨by rw [seal_len h]; exact h, ?_⟩
  rw [seal_gen h h0 h1, seal_body h]
end
theorem zero_gen : genU (By.zero 128) = 0 := by decide
/-! ### The ways of a sector that is packed -/
theorem spliceB {a b : List UInt8} {off : Nat} : splice (bC a) off (bC b) = bC (a.take off ++ b ++ a.drop (off + b.length)) := by
  simp [splice, bC, List.map_take, List.map_drop]
def pk1 (gen : Int) : List UInt8 := List.replicate 16 0 ++ putB gen 8 ++ List.replicate 104 0
def pk2 (gen : Int) (n : Nat) : List UInt8 := List.replicate 16 0 ++ putB gen 8 ++ (UInt8.ofNat n :: List.replicate 103 0)
def pk3 (gen : Int) (body : List UInt8) : List UInt8 := List.replicate 16 0 ++ headS gen body
theorem pk1_length (gen : Int) : (pk1 gen).length = 128 := by simp [pk1, putB_length]
theorem pk2_length (gen : Int) (n : Nat) : (pk2 gen n).length = 128 := by simp [pk2, putB_length]
theorem pk3_length {gen : Int} {body : List UInt8} (h : body.length ≤ 103) : (pk3 gen body).length = 128 := by rw [pk3, List.length_append, headS_length h, List.length_replicate]
theorem pk_a (gen : Int) : splice (kC (By.zero 128)) 16 (bC (putB gen 8)) = bC (pk1 gen) := by
  show splice (bC (List.replicate 128 0)) 16 _ = _
  rw [spliceB, putB_length]
  unfold pk1
  rw [List.take_replicate, List.drop_replicate]; rfl
theorem pk_b (gen : Int) {n : Nat} {z : Int} (hz : z = ((UInt8.ofNat n).toNat : Int)) : (bC (pk1 gen)).set 24 (.int .u8 z) = bC (pk2 gen n) := by
  subst hz
  unfold bC
  rw [← List.map_set (f := fun b : UInt8 => Value.int .u8 (b.toNat : Int))]
  congr 1
theorem pk_c {gen : Int} {body : List UInt8} (h : body.length ≤ 103) : splice (bC (pk2 gen body.length)) 25 (bC body) = bC (pk3 gen body) := by
  rw [spliceB]
  congr 1
  have hl : (List.replicate 16 (0 : UInt8) ++ putB gen 8).length = 24 := by simp [putB_length]
  unfold pk2 pk3 headS
  have e1 : (List.replicate 16 (0 : UInt8) ++ putB gen 8 ++ (UInt8.ofNat body.length :: List.replicate 103 0)).take 25 = List.replicate 16 0 ++ putB gen 8 ++ [UInt8.ofNat body.length] := by
    rw [List.take_append, List.take_of_length_le (by omega), hl]; rfl
  have e2 : (List.replicate 16 (0 : UInt8) ++ putB gen 8 ++ (UInt8.ofNat body.length :: List.replicate 103 0)).drop (25 + body.length) = List.replicate (103 - body.length) 0 := by
    rw [List.drop_append, List.drop_of_length_le (by omega), hl, List.nil_append]
    have : 25 + body.length - 24 = body.length + 1 := by omega
    rw [this, List.drop_succ_cons, List.drop_replicate]
  rw [e1, e2]
  simp
theorem pk_d {at_ gen : Int} {body : List UInt8} (h : body.length ≤ 103) : splice (bC (pk3 gen body)) 0 (kC (litSum (By.zero 32) (putB at_ 4 ++ headS gen body))) = kC (sealS at_ gen body) := by
  show splice _ _ (bC (litSum (By.zero 32) (putB at_ 4 ++ headS gen body)).1) = bC (sealS at_ gen body).1
  rw [spliceB, sealS_val h, (litSum _ _).2]
  unfold pk3 sealL
  rw [List.take_zero, List.nil_append, Nat.zero_add, List.drop_append, List.drop_of_length_le (by simp)]
  simp
theorem pk3_drop (gen : Int) (body : List UInt8) : (pk3 gen body).drop 16 = headS gen body := by
  unfold pk3
  rw [List.drop_append, List.drop_of_length_le (by simp)]
  simp
section
variable {P : Program} {w : World} {b : Nat} {T : TypeId} {fz : Nat × Nat}
theorem put_src {g : Int} {n : Nat} (hb : w.heap[b]? = some (.cells (bC (putB g n)).toArray T fz)) (c : Nat) : Src P w 1 (.slice (some ⟨b, 0, none⟩) n c) n (bC (putB g n)) :=
  Src.slice hb (by rw [List.drop_zero, List.take_of_length_le (by rw [bC_length, putB_length]; omega)]) (by rw [bC_length, putB_length]; omega) (bC_one _)
theorem by_src {n : Nat} {x : By n} (hb : w.heap[b]? = some (.cells (kC x).toArray T fz)) (c : Nat) : Src P w 1 (.slice (some ⟨b, 0, none⟩) n c) n (kC x) :=
  Src.slice hb (by rw [List.drop_zero, List.take_of_length_le (by rw [kC_length]; omega)]) (by rw [kC_length]; omega) (kC_one _)
theorem part_src {n off m : Nat} {x : By n} (hb : w.heap[b]? = some (.cells (kC x).toArray T fz)) (h : off + m ≤ n) (c : Nat) : Src P w 1 (.slice (some ⟨b, off, none⟩) m c) m (bC ((x.1.drop off).take m)) := by
  refine Src.slice hb ?_ ?_ (bC_one _)
  · unfold kC bC
    rw [Nat.mul_one, List.map_take, List.map_drop]
  · rw [bC_length, List.length_take, List.length_drop, x.2]; omega
theorem part_row {n off m : Nat} {x : By n} (hb : w.heap[b]? = some (.cells (kC x).toArray T fz)) : BRow w (some ⟨b, off, none⟩) ((x.1.drop off).take m) := by
  intro h0
  have hoff : off ≤ x.1.length := by
    rw [List.length_take, List.length_drop] at h0; omega
  refine ⟨b, off, bC (x.1.take off), bC ((x.1.drop off).drop m), T, fz, rfl, ?_, ?_⟩
  · rw [hb]
    have e : bC (x.1.take off) ++ bC ((x.1.drop off).take m) ++ bC ((x.1.drop off).drop m) = kC x := by
      rw [← bC_append, ← bC_append, List.append_assoc, List.take_append_drop, List.take_append_drop]; rfl
    rw [e]
  · rw [bC_length, List.length_take]; omega
end
end Go.Er
