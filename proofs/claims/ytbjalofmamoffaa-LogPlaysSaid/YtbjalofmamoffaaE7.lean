/-
  The plain law of reading bytes as nodes.
-/
import Derived.Test.YtbjalofmamoffaaD7
namespace Go.Er
open Go

abbrev bt (bs : List UInt8) (i : Nat) : Int := ((bs.getD i 0).toNat : Int)
def seedB (bs : List UInt8) (i : Nat) : Key := ⟨(List.range 32).map fun k => bs.getD (i + k) 0, by simp⟩
def at3 (bs : List UInt8) (i : Nat) : Int := bt bs i * 65536 + bt bs (i + 1) * 256 + bt bs (i + 2)
def decN (bs : List UInt8) (i : Nat) : Held := ⟨bt bs i, at3 bs (i + 1), seedB bs (i + 4)⟩
def decNs (bs : List UInt8) (n : Nat) : List Held := (List.range n).map fun j => decN bs (2 + 36 * j)
theorem decNs_length (bs : List UInt8) (n : Nat) : (decNs bs n).length = n := by simp [decNs]
theorem decNs_succ (bs : List UInt8) (n : Nat) : decNs bs (n + 1) = decNs bs n ++ [decN bs (2 + 36 * n)] := by simp [decNs, List.range_succ]
theorem nd_decNs (bs : List UInt8) {n j : Nat} (hj : j < n) : nd (decNs bs n) j = decN bs (2 + 36 * j) := by
  simp [nd, decNs, List.getD_eq_getElem?_getD, hj]
theorem bt_lt (bs : List UInt8) (i : Nat) : 0 ≤ bt bs i ∧ bt bs i < 256 := by have := (bs.getD i 0).toNat_lt; unfold bt; omega
theorem decN_inR (bs : List UInt8) (i : Nat) : InR (decN bs i) := by
  have h0 := bt_lt bs i
  have h1 := bt_lt bs (i + 1)
  have h2 := bt_lt bs (i + 1 + 1)
  have h3 := bt_lt bs (i + 1 + 2)
  simp only [InR, decN, at3]
  omega
theorem decNs_inR (bs : List UInt8) (n : Nat) : ∀ i, i < (decNs bs n).length → InR (nd (decNs bs n) i) := by
  intro i hi
  rw [nd_decNs bs (by rwa [decNs_length] at hi)]
  exact decN_inR _ _

/-- have bytes the shape of nodes'? -/
def Shape (bs : List UInt8) : Prop := 2 ≤ bs.length ∧ (bs.length : Int) = 2 + 36 * (bt bs 0 * 256 + bt bs 1)
instance (bs : List UInt8) : Decidable (Shape bs) := by unfold Shape; infer_instance

theorem getN2 {bs : List UInt8} (h : 2 ≤ bs.length) : getN (bs.take 2) = bt bs 0 * 256 + bt bs 1 := by
  rw [getN_take (by omega), getN_take (by omega)]
  simp [getN, bt]
theorem drop_getD (bs : List UInt8) (i k : Nat) : (bs.drop i).getD k 0 = bs.getD (i + k) 0 := by simp [List.getD_eq_getElem?_getD]
theorem getN3 {bs : List UInt8} {i : Nat} (h : i + 3 ≤ bs.length) : getN ((bs.drop i).take 3) = at3 bs i := by
  rw [getN_take (by rw [List.length_drop]; omega), getN_take (by rw [List.length_drop]; omega), getN_take (by rw [List.length_drop]; omega)]
  simp only [drop_getD, at3, bt, List.take_zero, Nat.add_zero]
  show ((0 * 256 + _) * 256 + _) * 256 + _ = _
  omega
theorem seedB_eq {bs : List UInt8} {i : Nat} (h : i + 32 ≤ bs.length) : (seedB bs i).1 = (bs.drop i).take 32 := by
  apply List.ext_getElem?
  intro k
  simp only [seedB, List.getElem?_map, List.getElem?_take, List.getElem?_drop]
  by_cases hk : k < 32
  · rw [if_pos hk, List.getElem?_range hk, Option.map_some, List.getD_eq_getElem?_getD, List.getElem?_eq_getElem (by omega)]; rfl
  · rw [if_neg hk, List.getElem?_eq_none (by simp; omega)]; rfl
theorem byte_of {b : UInt8} {n : Int} (h : n % 256 = (b.toNat : Int)) : UInt8.ofNat (n % 256).toNat = b := by
  rw [h, Int.toNat_natCast]; exact UInt8.ofNat_toNat
theorem byte_at {bs : List UInt8} {j : Nat} {n : Int} (h : n % 256 = bt bs j) : UInt8.ofNat (n % 256).toNat = bs.getD j 0 := byte_of h
theorem putB3_at (bs : List UInt8) (i : Nat) : putB (at3 bs i) 3 = [bs.getD i 0, bs.getD (i + 1) 0, bs.getD (i + 2) 0] := by
  have e : putB (at3 bs i) 3 = [UInt8.ofNat (at3 bs i / 65536 % 256).toNat, UInt8.ofNat (at3 bs i / 256 % 256).toNat, UInt8.ofNat (at3 bs i % 256).toNat] := by simp [putB, List.range_succ]
  have h1 := bt_lt bs i
  have h2 := bt_lt bs (i + 1)
  have h3 := bt_lt bs (i + 2)
  rw [e, byte_at (bs := bs) (j := i) (by unfold at3; omega), byte_at (bs := bs) (j := i + 1) (by unfold at3; omega), byte_at (bs := bs) (j := i + 2) (by unfold at3; omega)]
theorem four_eq {bs : List UInt8} {i : Nat} (h : i + 4 ≤ bs.length) : [bs.getD i 0, bs.getD (i + 1) 0, bs.getD (i + 1 + 1) 0, bs.getD (i + 1 + 2) 0] = (bs.drop i).take 4 := by
  apply List.ext_getElem?
  intro k
  rw [List.getElem?_take, List.getElem?_drop]
  by_cases hk : k < 4
  · rw [if_pos hk, List.getElem?_eq_getElem (by omega)]
    have : k = 0 ∨ k = 1 ∨ k = 2 ∨ k = 3 := by omega
    rcases this with rfl | rfl | rfl | rfl <;> simp [List.getD_eq_getElem?_getD] <;> rw [List.getElem?_eq_getElem (by omega)] <;> rfl
  · rw [if_neg hk, List.getElem?_eq_none (by simp; omega)]
theorem nodeB_decN {bs : List UInt8} {i : Nat} (h : i + 36 ≤ bs.length) : nodeB (decN bs i) = (bs.drop i).take 36 := by
  have h0 := bt_lt bs i
  have e1 : UInt8.ofNat ((decN bs i).depth % 256).toNat = bs.getD i 0 := byte_at (by show bt bs i % 256 = _; omega)
  have e2 : nodeB (decN bs i) = [bs.getD i 0, bs.getD (i + 1) 0, bs.getD (i + 1 + 1) 0, bs.getD (i + 1 + 2) 0] ++ (seedB bs (i + 4)).1 := by
    unfold nodeB
    rw [e1]
    show bs.getD i 0 :: (putB (at3 bs (i + 1)) 3 ++ (seedB bs (i + 4)).1) = _
    rw [putB3_at]; rfl
  rw [e2, four_eq (by omega), seedB_eq (by omega)]
  have : bs.drop (i + 4) = (bs.drop i).drop 4 := by rw [List.drop_drop]
  rw [this, ← List.take_add]
theorem flat_decNs {bs : List UInt8} : ∀ {n : Nat}, 2 + 36 * n ≤ bs.length → (decNs bs n).flatMap nodeB = (bs.drop 2).take (36 * n)
  | 0, _ => by simp [decNs]
  | n + 1, h => by
    rw [decNs_succ, List.flatMap_append, flat_decNs (by omega)]
    simp only [List.flatMap_cons, List.flatMap_nil, List.append_nil]
    rw [nodeB_decN (by omega)]
    have : bs.drop (2 + 36 * n) = (bs.drop 2).drop (36 * n) := by rw [List.drop_drop]
    rw [this, ← List.take_add]
    congr 1
theorem enc_dec {bs : List UInt8} {n : Nat} (h : Shape bs) (hn : bs.length = 2 + 36 * n) : encB (decNs bs n) = bs := by
  have h0 := bt_lt bs 0
  have h1 := bt_lt bs 1
  have h2 := h.2
  have e1 : putB (decNs bs n).length 2 = bs.take 2 := by
    rw [decNs_length]
    have e : putB (n : Int) 2 = [UInt8.ofNat ((n : Int) / 256 % 256).toNat, UInt8.ofNat ((n : Int) % 256).toNat] := by simp [putB, List.range_succ]
    rw [e, byte_at (bs := bs) (j := 0) (by omega), byte_at (bs := bs) (j := 1) (by omega)]
    have h3 := h.1
    clear e h h0 h1 h2 hn
    match bs, h3 with
    | a :: b :: l, _ => rfl
  unfold encB
  rw [e1, flat_decNs (by omega), List.take_of_length_le (l := bs.drop 2) (by rw [List.length_drop]; omega), List.take_append_drop]
/-- are they nodes' bytes? -/
def OkB (bs : List UInt8) : Prop := ∃ n, Shape bs ∧ bs.length = 2 + 36 * n ∧ Valid (decNs bs n)
theorem not_okB {bs : List UInt8} (h : ¬ Shape bs) : ¬ OkB bs := fun ⟨_, hs, _⟩ => h hs
theorem not_okB' {bs : List UInt8} {n : Nat} (hn : bs.length = 2 + 36 * n) (h : ¬ Valid (decNs bs n)) : ¬ OkB bs := fun ⟨m, _, hm, hv⟩ => h (by rw [show n = m by omega]; exact hv)
/-- a node whose seed is being written -/
def decK (bs : List UInt8) (i k : Nat) : Held := ⟨bt bs i, at3 bs (i + 1), ⟨mix (seedB bs (i + 4)).1 (List.replicate 32 0) k, by rw [mix_length _ _ (by rw [(seedB bs (i + 4)).2, List.length_replicate]), List.length_replicate]⟩⟩
theorem decK_zero (bs : List UInt8) (i : Nat) : hC (decK bs i 0) = hC ⟨bt bs i, at3 bs (i + 1), By.zero 32⟩ := by
  have : (decK bs i 0).seed = By.zero 32 := By.ext (mix_zero _ _)
  unfold hC; rw [this]; rfl
theorem decK_all (bs : List UInt8) (i : Nat) : decK bs i 32 = decN bs i := by
  have : (decK bs i 32).seed = seedB bs (i + 4) := By.ext (mix_all _ _ (seedB bs (i + 4)).2 (by simp))
  show Held.mk _ _ (decK bs i 32).seed = _
  rw [this]; rfl
theorem decK_set (bs : List UInt8) (i k : Nat) {o : Nat} {r : Int} (hk : k < 32) (ho : o = 2 + k) (hr : r = bt bs (i + 4 + k)) : (hC (decK bs i k)).set o (.int .u8 r) = hC (decK bs i (k + 1)) := by
  subst ho
  have e : (hC (decK bs i k)).set (2 + k) (.int .u8 r) = .int .i64 (bt bs i) :: .int .u64 (at3 bs (i + 1)) :: ((kC (decK bs i k).seed).set k (.int .u8 r)) := by
    rw [Nat.add_comm]; rfl
  rw [e]
  have e2 : (kC (decK bs i k).seed).set k (.int .u8 r) = kC (decK bs i (k + 1)).seed := by
    refine mix_set _ _ k (by rw [(seedB bs (i + 4)).2, List.length_replicate]) (by simp; omega) rfl ?_
    rw [hr]
    simp [seedB, List.getD_eq_getElem?_getD, hk, bt]
  rw [e2]; rfl
theorem RowN.hrow {w0 w : World} {X : List Nat} {L N : List (Nat × Obj)} {E : TypeId} {xs : List Held} {n cap : Nat} {a : Option Addr} (h : RowN 34 E (hsC xs) n a cap N) (H : St w0 X w (L ++ N)) : HRow w a xs := by
  intro hx
  obtain ⟨hl, _, ⟨rfl, _⟩ | ⟨b, sp, rfl, _, rfl⟩⟩ := h
  · rw [hsC_length] at hl; omega
  · exact ⟨b, 0, [], sp, E, (0, 0), rfl, H.own (b, _) (List.mem_append_right _ (List.mem_singleton.2 rfl)), rfl⟩
theorem hfill2 (d a : Int) : fillL [(0, 1), (1, 1), (2, 32)] (hC Held.zero) [(0, .int .i64 d), (1, .int .u64 a)] = some (hC ⟨d, a, By.zero 32⟩) := by
  simp [fillL, Value.cells, splice, hC, Held.zero]
theorem BRow.part {w : World} {bs : List UInt8} {b off : Nat} (h : BRow w (some ⟨b, off, none⟩) bs) (i n : Nat) {o : Nat} (hn : i + n ≤ bs.length) (ho : off + i = o) : BRow w (some ⟨b, o, none⟩) ((bs.drop i).take n) := by
  have := h.cut (lo := i) (n := n) (cap := i + n + 1) hn (by omega)
  rw [cutA_at (o := o) (by omega) (by omega)] at this
  exact this
theorem bs_seed (pre : List Value) (bs : List UInt8) (post : List Value) {off o : Nat} (i : Nat) (ho : pre.length = off) (hi : i + 32 ≤ bs.length) (he : o = off + i) : ((pre ++ bC bs ++ post).drop o).take 32 = kC (seedB bs i) := by
  subst he
  rw [bs_td pre bs post off i 32 ho hi]
  unfold kC
  rw [seedB_eq hi]
end Go.Er
