/-
  The little cipher of layer 5: what it splits a key to.
-/
import Derived.Test.YtblphhclfloodaaDoorD7
namespace Go.Er
open Go
/-- its number, behind so many places -/
def padX (k : Key) (n : Int) : Nat → Int
  | 0 => (((((byt k 0).toNat : Int) + 256 * ((byt k 1).toNat : Int)) + 65536 * ((byt k 2).toNat : Int)) + 7)
  | i + 1 => ((((padX k n i * 6364136223846793005) % 18446744073709551616 + 1442695040888963407) % 18446744073709551616 + n) % 18446744073709551616 + ((byt k i).toNat : Int)) % 18446744073709551616
theorem padX_rng (k : Key) (n : Int) (i : Nat) : 0 ≤ padX k n i ∧ padX k n i < 18446744073709551616 := by
  cases i with
  | zero =>
    have h0 := (byt k 0).toNat_lt
    have h1 := (byt k 1).toNat_lt
    have h2 := (byt k 2).toNat_lt
    simp only [padX]; omega
  | succ i => simp only [padX]; omega
def padB (k : Key) (n : Int) : Key := ⟨(List.range 32).map fun i => UInt8.ofNat (padX k n (i + 1) / 72057594037927936).toNat, by simp⟩
theorem padB_byt (k : Key) (n : Int) {i : Nat} (hi : i < 32) : padX k n (i + 1) / 72057594037927936 = (((padB k n).1.getD i 0).toNat : Int) := by
  obtain ⟨h0, h1⟩ := padX_rng k n (i + 1)
  simp only [padB, List.getD_eq_getElem?_getD, List.getElem?_map, List.getElem?_range hi, Option.map_some, Option.getD_some, UInt8.toNat_ofNat']
  omega
def litL (k : Key) : Key := padB k 1099511627776
def litR (k : Key) : Key := padB k 2199023255552
end Go.Er
