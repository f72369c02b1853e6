/-
  Nodes that were written are read back; and small words for the laws.
-/
import Derived.Test.YtbjalofmamoffaaE7
import Derived.Test.YtbjalofmamoffaaD9
namespace Go.Er
open Go

/-! ### There and back -/
theorem encB_drop {xs : List Held} {i : Nat} (hi : i < xs.length) : ((encB xs).drop (2 + 36 * i)).take 36 = nodeB (nd xs i) := by
  have e : xs = xs.take i ++ (xs[i] :: xs.drop (i + 1)) := by simp
  have hl : ((xs.take i).flatMap nodeB).length = 36 * i := by rw [nodes_length]; simp; omega
  have h2 : encB xs = (putB xs.length 2 ++ (xs.take i).flatMap nodeB) ++ (nodeB xs[i] ++ (xs.drop (i + 1)).flatMap nodeB) := by
    have h3 : xs.flatMap nodeB = (xs.take i).flatMap nodeB ++ (nodeB xs[i] ++ (xs.drop (i + 1)).flatMap nodeB) := by
      conv => lhs; rw [e]
      rw [List.flatMap_append, List.flatMap_cons]
    unfold encB
    rw [h3, List.append_assoc]
  have hpl : (putB xs.length 2 ++ (xs.take i).flatMap nodeB).length = 2 + 36 * i := by rw [List.length_append, putB_length, hl]
  rw [h2, List.drop_append, List.drop_of_length_le (by omega), List.nil_append, hpl, Nat.sub_self, List.drop_zero, List.take_append, List.take_of_length_le (by rw [nodeB_length]; omega), nodeB_length, nd_eq hi]
  simp
theorem encB_get {xs : List Held} {i j : Nat} (hi : i < xs.length) (hj : j < 36) : (encB xs).getD (2 + 36 * i + j) 0 = (nodeB (nd xs i)).getD j 0 := by
  rw [← encB_drop hi]
  simp [List.getD_eq_getElem?_getD, hj]
theorem bt_encB {xs : List Held} {i j o : Nat} (ho : o = 2 + 36 * i + j) (hi : i < xs.length) (hj : j < 36) : bt (encB xs) o = (((nodeB (nd xs i)).getD j 0).toNat : Int) := by
  subst ho; unfold bt; rw [encB_get hi hj]
theorem nodeB_0 (h : Held) : (nodeB h).getD 0 0 = UInt8.ofNat (h.depth % 256).toNat := rfl
theorem nodeB_at (h : Held) {j : Nat} (hj : j < 3) : (nodeB h).getD (1 + j) 0 = (putB h.at_ 3).getD j 0 := by
  unfold nodeB
  simp only [List.getD_eq_getElem?_getD]
  rw [Nat.add_comm, List.getElem?_cons_succ, List.getElem?_append_left (by rw [putB_length]; exact hj)]
theorem nodeB_seed (h : Held) (j : Nat) : (nodeB h).getD (4 + j) 0 = h.seed.1.getD j 0 := by
  unfold nodeB
  simp only [List.getD_eq_getElem?_getD]
  have : 4 + j = (3 + j) + 1 := by omega
  rw [this, List.getElem?_cons_succ, List.getElem?_append_right (by rw [putB_length]; omega), putB_length]
  congr 2
  omega
theorem u8m (d : Int) : ((UInt8.ofNat (d % 256).toNat).toNat : Int) = d % 256 := by rw [UInt8.toNat_ofNat']; omega
theorem byte_ok {h : Held} (hn : okN h) : 0 ≤ h.depth ∧ h.depth < 256 ∧ 0 ≤ h.at_ ∧ h.at_ < 16777216 := by
  obtain ⟨h1, h2, h3, _, h5⟩ := hn; omega
theorem decN_encB {xs : List Held} {i : Nat} (hi : i < xs.length) (hk : okN (nd xs i)) : decN (encB xs) (2 + 36 * i) = nd xs i := by
  obtain ⟨h1, h2, h3, h4⟩ := byte_ok hk
  have d0 : bt (encB xs) (2 + 36 * i) = (nd xs i).depth := by
    rw [bt_encB (j := 0) (by omega) hi (by omega), nodeB_0, u8m]; omega
  have a0 : bt (encB xs) (2 + 36 * i + 1) = (nd xs i).at_ / 65536 % 256 := by
    rw [bt_encB (j := 1 + 0) (by omega) hi (by omega), nodeB_at _ (by omega), putB_get _ _ (by omega)]; rfl
  have a1 : bt (encB xs) (2 + 36 * i + 1 + 1) = (nd xs i).at_ / 256 % 256 := by
    rw [bt_encB (j := 1 + 1) (by omega) hi (by omega), nodeB_at _ (by omega), putB_get _ _ (by omega)]; rfl
  have a2 : bt (encB xs) (2 + 36 * i + 1 + 2) = (nd xs i).at_ % 256 := by
    rw [bt_encB (j := 1 + 2) (by omega) hi (by omega), nodeB_at _ (by omega), putB_get _ _ (by omega)]
    show (nd xs i).at_ / 1 % 256 = _
    rw [Int.ediv_one]
  have at_ : at3 (encB xs) (2 + 36 * i + 1) = (nd xs i).at_ := by unfold at3; rw [a0, a1, a2]; omega
  have sd : seedB (encB xs) (2 + 36 * i + 4) = (nd xs i).seed := by
    apply By.ext
    apply List.ext_getElem?
    intro k
    simp only [seedB, List.getElem?_map]
    by_cases hk : k < 32
    · rw [List.getElem?_range hk, Option.map_some]
      have := encB_get (j := 4 + k) hi (by omega)
      have e : 2 + 36 * i + 4 + k = 2 + 36 * i + (4 + k) := by omega
      rw [e, this, nodeB_seed, List.getD_eq_getElem?_getD, List.getElem?_eq_getElem (by rw [(nd xs i).seed.2]; exact hk)]; rfl
    · rw [List.getElem?_eq_none (by simp; omega), List.getElem?_eq_none (by rw [(nd xs i).seed.2]; omega)]; rfl
  unfold decN
  rw [d0, at_, sd]
theorem dec_enc {xs : List Held} (hv : Valid xs) : decNs (encB xs) xs.length = xs := by
  apply List.ext_getElem?
  intro i
  by_cases hi : i < xs.length
  · have h := decN_encB hi (okFrom.get hv i hi).1
    simp only [decNs, List.getElem?_map, List.getElem?_range hi, Option.map_some, h]
    rw [List.getElem?_eq_getElem hi, nd_eq hi]
  · rw [List.getElem?_eq_none (by rw [decNs_length]; omega), List.getElem?_eq_none (by omega)]
theorem encB_head {xs : List Held} (hl : xs.length ≤ 65535) : bt (encB xs) 0 * 256 + bt (encB xs) 1 = (xs.length : Int) := by
  have e : putB (xs.length : Int) 2 = [UInt8.ofNat ((xs.length : Int) / 256 % 256).toNat, UInt8.ofNat ((xs.length : Int) % 256).toNat] := by simp [putB, List.range_succ]
  have e0 : (encB xs).getD 0 0 = UInt8.ofNat ((xs.length : Int) / 256 % 256).toNat := by unfold encB; rw [e]; rfl
  have e1 : (encB xs).getD 1 0 = UInt8.ofNat ((xs.length : Int) % 256).toNat := by unfold encB; rw [e]; rfl
  unfold bt
  rw [e0, e1, u8m, u8m]
  omega
theorem encB_shape {xs : List Held} (hl : xs.length ≤ 65535) : Shape (encB xs) := by
  refine ⟨by rw [encB_length]; omega, ?_⟩
  rw [encB_length, encB_head hl]; omega
theorem okB_enc {xs : List Held} (hl : xs.length ≤ 65535) (hv : Valid xs) : OkB (encB xs) := ⟨xs.length, encB_shape hl, encB_length xs, by rw [dec_enc hv]; exact hv⟩

/-! ### Small words -/
section
variable {P : Program} {w0 w : World} {X : List Nat} {L L1 : List (Nat × Obj)} {l : Fr} {d : Option Tmp} {ty : TypeId} {pos : String} {after : Array Edge} {g : Option (Nat × Bool)}
  {x y z : Operand} {T T' E E' : TypeId} {b off sz len cap : Nat} {a : Option Addr}
theorem St.callq {w' : World} {N : List (Nat × Obj)} (h : St w0 X w L) (hc : St w [] w' N) : St w0 X w' L := (h.call0 hc).sub (List.sublist_append_right N L)
theorem RowN.browM {bs : List UInt8} {n : Nat} {N : List (Nat × Obj)} (h : RowN 1 E (bC bs) n a cap N) (H : St w0 X w L) (hs : ∀ p ∈ N, p ∈ L) : BRow w a bs := by
  intro hx
  obtain ⟨hl, _, ⟨rfl, _⟩ | ⟨b, sp, rfl, _, rfl⟩⟩ := h
  · rw [bC_length] at hl; omega
  · exact ⟨b, 0, [], sp, E, (0, 0), rfl, H.own (b, _) (hs _ (List.mem_singleton.2 rfl)), rfl⟩
theorem r_textR {c : Nat} {bs : List UInt8} (hu : Und P T (.slice E)) (hu' : Und P T' .string) (he : Und P E (.int .u8)) (hx : evl l x = .slice a bs.length c) (h0 : 0 < bs.length) (hr : BRow w a bs) : (execOp (evl l) ⟨d, .convert T T' x, ty, pos, after, g⟩).run P w = .ok (.value (.string (bytesS bs))) w := by
  obtain ⟨b, off, pre, post, F, fz, rfl, hb, hp⟩ := hr h0
  refine r_text hu hu' he hx hb ?_
  have := bs_td pre bs post off 0 bs.length hp (by omega)
  rw [Nat.add_zero] at this
  rw [this, List.drop_zero, List.take_length]
end
/-- the key that begins with 7 -/
def key7 : Key := ⟨7 :: List.replicate 31 0, rfl⟩
def one7 : List Held := [⟨0, 0, key7⟩]
theorem one7_valid : Valid one7 := by
  refine ⟨⟨by decide, by decide, by decide, by decide, by decide⟩, by decide, trivial⟩
theorem one7_inR : ∀ i, i < one7.length → InR (nd one7 i) := by
  intro i hi
  have : i = 0 := by simp [one7] at hi; omega
  subst this
  refine ⟨by decide, by decide, by decide, by decide⟩
theorem not_okB0 : ¬ OkB [0] := not_okB (fun h => absurd h.1 (by decide))
end Go.Er
