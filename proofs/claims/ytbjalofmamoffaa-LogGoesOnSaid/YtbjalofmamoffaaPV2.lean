import Derived.Test.YtbjalofmamoffaaPV1
/-
  A log whose bodies were appended one behind the other, with nothing freed: what is appended to it, and what Open finds of it.
-/
namespace Go.Er
open Go
/-! ### A sector of noughts is not sealed -/
theorem zs_bad : (List.range 26).all (fun n => decide (lsO (By.zero 32) (putB (n : Int) 4 ++ headS 0 []) 0 ≠ 0)) = true := by decide +kernel
theorem zS_unsealed {n : Nat} (h : n < 26) : ¬ Sealed (n : Int) zS := by
  rintro ⟨_, hs⟩
  have hb := of_decide_eq_true (List.all_eq_true.1 zs_bad n (List.mem_range.2 h))
  have hg : genU zS = 0 := zero_gen
  have hy : bodyU zS = [] := by decide
  rw [hg, hy] at hs
  have h1 : (sealS (n : Int) 0 []).1 = sealL (n : Int) 0 [] := sealS_val (Nat.zero_le _)
  have h2 : (sealL (n : Int) 0 [])[0]? = some (0 : UInt8) := by
    rw [← h1, ← hs]; rfl
  have h3 : (sealL (n : Int) 0 [])[0]? = some (lsO (By.zero 32) (putB (n : Int) 4 ++ headS 0 []) 0) := by
    unfold sealL litSum
    rw [List.getElem?_append_left (by simp)]
    rfl
  rw [h2] at h3
  exact hb (Option.some.inj h3).symm
/-! ### The log -/
/-- the generation of a segment, when so many bodies stand -/
def ordG (z k s : Nat) : Int := if s * z < k then (s : Int) + 1 else 0
def ordS (g z : Nat) (C : List Sec) (k : Nat) : LS :=
  ⟨C, (List.range g).map (ordG z k), if k = 0 then -1 else (((k - 1) / z : Nat) : Int), if k = 0 then 0 else (((k - 1) % z + 1 : Nat) : Int), if k = 0 then 0 else (((k - 1) / z + 1 : Nat) : Int), g, z⟩
theorem ordS_zero (g z : Nat) (C : List Sec) : ordS g z C 0 = openL0 g z C := by
  have e : (List.range g).map (ordG z 0) = List.replicate ((g : Int).toNat) 0 := by
    rw [Int.toNat_natCast]
    apply List.ext_getElem
    · simp
    · intro i h1 h2
      simp [ordG]
  unfold ordS openL0
  rw [e]
  rfl
theorem mul_lt_iff {s i j z : Nat} (hj : j < z) : s * z < i * z + j + 1 ↔ s ≤ i := by
  rcases Nat.lt_or_ge i s with h | h
  · have : (i + 1) * z ≤ s * z := Nat.mul_le_mul_right z h
    rw [Nat.add_mul, Nat.one_mul] at this
    constructor <;> intro <;> omega
  · have : s * z ≤ i * z := Nat.mul_le_mul_right z h
    constructor <;> intro <;> omega
theorem ordG_succ {z i j s : Nat} (hj : j < z) : ordG z (i * z + j + 1) s = if s = i then (i : Int) + 1 else ordG z (i * z + j) s := by
  unfold ordG
  by_cases h : s = i
  · rw [if_pos ((mul_lt_iff hj).2 (by omega)), if_pos h, h]
  · rw [if_neg h]
    rcases Nat.lt_or_ge i s with h1 | h1
    · have : (i + 1) * z ≤ s * z := Nat.mul_le_mul_right z h1
      rw [Nat.add_mul, Nat.one_mul] at this
      rw [if_neg (by omega), if_neg (by omega)]
    · have : (s + 1) * z ≤ i * z := Nat.mul_le_mul_right z (by omega)
      rw [Nat.add_mul, Nat.one_mul] at this
      rw [if_pos (by omega), if_pos (by omega)]
theorem ord_set {g z i j : Nat} (_hi : i < g) (hj : j < z) : ((List.range g).map (ordG z (i * z + j))).set i ((i : Int) + 1) = (List.range g).map (ordG z (i * z + j + 1)) := by
  apply List.ext_getElem
  · simp
  · intro s h1 h2
    rw [List.getElem_set, List.getElem_map, List.getElem_map, List.getElem_range, ordG_succ hj]
    by_cases h : i = s
    · rw [if_pos h, if_pos h.symm]
    · rw [if_neg h, if_neg (fun e => h e.symm)]
theorem ord_get {g z k i : Nat} (hi : i < g) : ((List.range g).map (ordG z k)).getD i 0 = ordG z k i := by
  rw [List.getD_eq_getElem?_getD, List.getElem?_map, List.getElem?_range hi]; rfl
theorem flat_div {i j z : Nat} (hj : j < z) : (i * z + j) / z = i ∧ (i * z + j) % z = j := by
  have hz : 0 < z := by omega
  refine ⟨?_, ?_⟩
  · rw [Nat.mul_comm, Nat.mul_add_div hz, Nat.div_eq_of_lt hj, Nat.add_zero]
  · rw [Nat.mul_comm, Nat.mul_add_mod, Nat.mod_eq_of_lt hj]
/-- the place behind i full segments and j slots, looked at from behind -/
theorem flat_pred {i j z : Nat} (hz : 0 < z) (hj : j ≤ z) (h0 : 0 < i * z + j) (hj0 : 0 < j ∨ 0 < i) : (0 < j → (i * z + j - 1) / z = i ∧ (i * z + j - 1) % z = j - 1) ∧ (j = 0 → (i * z + j - 1) / z = i - 1 ∧ (i * z + j - 1) % z = z - 1) := by
  refine ⟨fun h => ?_, fun h => ?_⟩
  · rw [show i * z + j - 1 = i * z + (j - 1) by omega]
    exact flat_div (by omega)
  · subst h
    obtain ⟨m, rfl⟩ : ∃ m, i = m + 1 := ⟨i - 1, by omega⟩
    rw [show (m + 1) * z + 0 - 1 = m * z + (z - 1) by rw [Nat.add_mul, Nat.one_mul]; omega]
    exact flat_div (by omega)
/-- the next one is taken into account -/
theorem ord_take {g z i j : Nat} {C : List Sec} (hi : i < g) (hj : j < z) : takeL (ordS g z C (i * z + j)) i j ((i : Int) + 1) = ordS g z C (i * z + j + 1) := by
  have hz : 0 < z := by omega
  have e1 : (ordS g z C (i * z + j)).gens.getD ((i : Int)).toNat 0 = ordG z (i * z + j) i := by rw [Int.toNat_natCast]; exact ord_get hi
  have h1 : (ordS g z C (i * z + j)).gens.getD ((i : Int)).toNat 0 ≤ (i : Int) + 1 := by
    rw [e1]; unfold ordG; split <;> omega
  obtain ⟨d1, d2⟩ := flat_div (i := i) hj
  have hc : (ordS g z C (i * z + j)).known < (i : Int) + 1 ∨ (ordS g z C (i * z + j)).head < 0 ∨ ((i : Int) + 1 = (ordS g z C (i * z + j)).known ∧ (i : Int) = (ordS g z C (i * z + j)).head) := by
    show (if i * z + j = 0 then (0 : Int) else (((i * z + j - 1) / z + 1 : Nat) : Int)) < _ ∨ (if i * z + j = 0 then (-1 : Int) else _) < 0 ∨ (_ = (if i * z + j = 0 then (0 : Int) else (((i * z + j - 1) / z + 1 : Nat) : Int)) ∧ _ = (if i * z + j = 0 then (-1 : Int) else (((i * z + j - 1) / z : Nat) : Int)))
    by_cases h0 : i * z + j = 0
    · rw [if_pos h0, if_pos h0]; left; omega
    · rw [if_neg h0, if_neg h0]
      have hij : 0 < j ∨ 0 < i := by
        rcases Nat.eq_zero_or_pos i with rfl | h
        · left; omega
        · exact .inr h
      obtain ⟨q1, q2⟩ := flat_pred hz (Nat.le_of_lt hj) (by omega) hij
      rcases Nat.eq_zero_or_pos j with hj0 | hj0
      · obtain ⟨r1, _⟩ := q2 hj0
        rw [r1]; left; omega
      · obtain ⟨r1, _⟩ := q1 hj0
        rw [r1]; right; right; omega
  unfold takeL
  rw [if_pos hc, if_pos h1]
  have e2 : (ordS g z C (i * z + j)).gens.set ((i : Int)).toNat ((i : Int) + 1) = (List.range g).map (ordG z (i * z + j + 1)) := by rw [Int.toNat_natCast]; exact ord_set hi hj
  rw [e2]
  unfold ordS
  rw [if_neg (Nat.succ_ne_zero _), if_neg (Nat.succ_ne_zero _), if_neg (Nat.succ_ne_zero _), Nat.add_sub_cancel, d1, d2]
  rfl
/-! ### Its sectors -/
structure InOrd (g z : Nat) (bs : List (List UInt8)) (C : List Sec) : Prop where
  g0 : 3 ≤ g
  g1 : g ≤ 64
  z0 : 1 ≤ z
  z1 : z ≤ 32
  gz : g * z ≤ 24
  le : bs.length ≤ g * z
  cl : C.length = 2 + g * z
  bd : ∀ b ∈ bs, b.length ≤ 103
  sec : ∀ n, n < bs.length → sd C (2 + n) = sealS ((2 + n : Nat) : Int) (((n / z + 1 : Nat)) : Int) (bs.getD n [])
  non : ∀ n, bs.length ≤ n → n < g * z → sd C (2 + n) = zS
theorem InOrd.new {g z : Nat} (h0 : 3 ≤ g) (h1 : g ≤ 6) (h2 : 1 ≤ z) (h3 : z ≤ 4) : InOrd g z [] (List.replicate (2 + g * z) zS) := by
  refine ⟨h0, by omega, h2, by omega, ?_, Nat.zero_le _, List.length_replicate, (fun b h => nomatch h), (fun n h => absurd h (Nat.not_lt_zero _)), fun n _ _ => ?_⟩
  · have := Nat.mul_le_mul h1 h3; omega
  · unfold sd; exact getD_replicate _ _ _
theorem ordS_F {g z : Nat} {bs : List (List UInt8)} {C : List Sec} (h : InOrd g z bs C) : LogF (ordS g z C bs.length) := by
  have hle := h.le; have hz := h.z0; have hg := h.g0; have hgz := h.gz; have hz1 := h.z1; have hg1 := h.g1
  have hd : bs.length ≠ 0 → (bs.length - 1) / z < g := fun h0 => by
    rw [Nat.div_lt_iff_lt_mul hz]; omega
  have hm := Nat.mod_lt (bs.length - 1) hz
  obtain ⟨d, hdd⟩ : ∃ d, (bs.length - 1) / z = d := ⟨_, rfl⟩
  rw [hdd] at hd
  refine ⟨by show (3 : Int) ≤ (g : Int); omega, by show (g : Int) ≤ 64; omega, by show (1 : Int) ≤ (z : Int); omega, by show (z : Int) ≤ 32; omega, ?_, ?_, ?_, ?_, ?_, ?_, ?_⟩
  · show (((List.range g).map (ordG z bs.length)).length : Int) = g
    simp
  · show (C.length : Int) = 2 + (g : Int) * (z : Int)
    rw [h.cl, ← Int.natCast_mul]; omega
  · intro n hn
    obtain ⟨s, hs, rfl⟩ := List.mem_map.1 hn
    have := List.mem_range.1 hs
    unfold ordG; split <;> omega
  · show -1 ≤ (if bs.length = 0 then (-1 : Int) else (((bs.length - 1) / z : Nat) : Int)) ∧ (if bs.length = 0 then (-1 : Int) else (((bs.length - 1) / z : Nat) : Int)) < (g : Int)
    rw [hdd]
    split
    · omega
    · have := hd (by omega); omega
  · show 0 ≤ (if bs.length = 0 then (0 : Int) else (((bs.length - 1) % z + 1 : Nat) : Int)) ∧ (if bs.length = 0 then (0 : Int) else (((bs.length - 1) % z + 1 : Nat) : Int)) ≤ (z : Int)
    split <;> omega
  · show 0 ≤ (if bs.length = 0 then (0 : Int) else (((bs.length - 1) / z + 1 : Nat) : Int)) ∧ (if bs.length = 0 then (0 : Int) else (((bs.length - 1) / z + 1 : Nat) : Int)) < 1000000000
    rw [hdd]
    split
    · omega
    · have := hd (by omega); omega
  · intro n hn
    obtain ⟨s, hs, rfl⟩ := List.mem_map.1 hn
    show ordG z bs.length s ≤ (if bs.length = 0 then (0 : Int) else (((bs.length - 1) / z + 1 : Nat) : Int))
    unfold ordG
    split
    · rename_i h1
      rw [if_neg (by omega)]
      have : s ≤ (bs.length - 1) / z := (Nat.le_div_iff_mul_le hz).2 (by omega)
      rw [hdd] at this ⊢
      omega
    · rw [hdd]; split <;> omega
theorem InOrd.gen {g z : Nat} {bs : List (List UInt8)} {C : List Sec} (h : InOrd g z bs C) {n : Nat} (hn : n < bs.length) : Sealed ((2 + n : Nat) : Int) (sd C (2 + n)) ∧ genU (sd C (2 + n)) = ((n / z + 1 : Nat) : Int) ∧ bodyU (sd C (2 + n)) = bs.getD n [] := by
  have hb : (bs.getD n []).length ≤ 103 := h.bd _ (by rw [List.getD_eq_getElem?_getD, List.getElem?_eq_getElem hn]; exact List.getElem_mem hn)
  have hd : n / z ≤ n := Nat.div_le_self _ _
  have := h.le; have := h.gz
  rw [h.sec n hn]
  obtain ⟨d, hd2⟩ : ∃ d, d = n / z := ⟨_, rfl⟩
  rw [← hd2] at hd ⊢
  exact ⟨seal_ok hb (by omega) (by omega), seal_gen hb (by omega) (by omega), seal_body hb⟩
theorem InOrd.genB {g z : Nat} {bs : List (List UInt8)} {C : List Sec} (h : InOrd g z bs C) (h0 : sd C 0 = zS) (h1 : sd C 1 = zS) : GenB C := by
  intro n hn hs
  rcases Nat.lt_or_ge n 2 with h2 | h2
  · have e : sd C n = zS := by
      obtain rfl | rfl : n = 0 ∨ n = 1 := by omega
      · exact h0
      · exact h1
    rw [e, show genU zS = 0 from zero_gen]; decide
  · obtain ⟨m, rfl⟩ : ∃ m, n = 2 + m := ⟨n - 2, by omega⟩
    rcases Nat.lt_or_ge m bs.length with h3 | h3
    · rw [(h.gen h3).2.1]
      have hd : m / z ≤ m := Nat.div_le_self _ _
      have := h.le; have := h.gz
      omega
    · rw [h.non m h3 (by have := h.cl; omega), show genU zS = 0 from zero_gen]; decide
/-! ### What Open finds -/
def itF (z : Nat) (bs : List (List UInt8)) (n : Nat) : Int × Int × List UInt8 := (((2 + n : Nat) : Int), ((n / z + 1 : Nat) : Int), bs.getD n [])
def itL (z : Nat) (bs : List (List UInt8)) (k : Nat) : List (Int × Int × List UInt8) := (List.range k).map (itF z bs)
theorem ord_step {g z i j : Nat} {bs : List (List UInt8)} {C : List Sec} (h : InOrd g z bs C) (hi : i < g) (hj : j < z) :
    stepF (ordS g z C (min (i * z + j) bs.length), itL z bs (min (i * z + j) bs.length)) i j = (ordS g z C (min (i * z + j + 1) bs.length), itL z bs (min (i * z + j + 1) bs.length)) := by
  have hlt : i * z + j < g * z := by
    have : (i + 1) * z ≤ g * z := Nat.mul_le_mul_right z hi
    rw [Nat.add_mul, Nat.one_mul] at this; omega
  have en : slotN (ordS g z C (min (i * z + j) bs.length)) i j = ((2 + (i * z + j) : Nat) : Int) := by
    show 2 + (i : Int) * (z : Int) + (j : Int) = _
    rw [← Int.natCast_mul]; omega
  have hC : (ordS g z C (min (i * z + j) bs.length)).C = C := rfl
  unfold stepF
  rw [en, hC, Int.toNat_natCast]
  obtain ⟨d1, d2⟩ := flat_div (i := i) hj
  rcases Nat.lt_or_ge (i * z + j) bs.length with hk | hk
  · obtain ⟨s1, s2, s3⟩ := h.gen hk
    rw [if_pos s1, s2, s3, d1, Nat.min_eq_left (by omega), Nat.min_eq_left (by omega)]
    have ht := ord_take (C := C) hi hj
    rw [show (((i + 1 : Nat)) : Int) = (i : Int) + 1 by omega, ht]
    unfold itL
    rw [List.range_succ, List.map_append]
    simp only [List.map_cons, List.map_nil, itF, d1]
    rw [show (((i + 1 : Nat)) : Int) = (i : Int) + 1 by omega]
  · have hz := h.non (i * z + j) hk hlt
    have hn : ¬ Sealed ((2 + (i * z + j) : Nat) : Int) zS := zS_unsealed (by have := h.gz; omega)
    rw [hz, if_neg hn, Nat.min_eq_right (by omega), Nat.min_eq_right (by omega)]
theorem ord_opJ {g z i : Nat} {bs : List (List UInt8)} {C : List Sec} (h : InOrd g z bs C) (hi : i < g) : ∀ j, j ≤ z →
    opJ (ordS g z C (min (i * z) bs.length), itL z bs (min (i * z) bs.length)) i j = (ordS g z C (min (i * z + j) bs.length), itL z bs (min (i * z + j) bs.length))
  | 0, _ => rfl
  | j + 1, hj => by
    show stepF (opJ _ i j) i j = _
    rw [ord_opJ h hi j (by omega), ord_step h hi (by omega)]
    rfl
theorem ord_opI {g z : Nat} {bs : List (List UInt8)} {C : List Sec} (h : InOrd g z bs C) : ∀ i, i ≤ g →
    opI (openL0 g z C, []) i = (ordS g z C (min (i * z) bs.length), itL z bs (min (i * z) bs.length))
  | 0, _ => by
    show (openL0 g z C, []) = _
    rw [Nat.zero_mul, Nat.zero_min, ordS_zero]; rfl
  | i + 1, hi => by
    show opJ (opI _ i) i _ = _
    have ez : (openL0 (g : Int) (z : Int) C).z.toNat = z := rfl
    rw [ez, ord_opI h i (by omega), ord_opJ h (by omega) z (Nat.le_refl _)]
    rw [show (i + 1) * z = i * z + z by rw [Nat.add_mul, Nat.one_mul]]
theorem ord_open {g z : Nat} {bs : List (List UInt8)} {C : List Sec} (h : InOrd g z bs C) : opI (openL0 g z C, []) (g : Int).toNat = (ordS g z C bs.length, itL z bs bs.length) := by
  rw [Int.toNat_natCast, ord_opI h g (Nat.le_refl _), Nat.min_eq_right h.le]
/-! ### What is appended -/
theorem ord_append {g z : Nat} {bs : List (List UInt8)} {C : List Sec} (h : InOrd g z bs C) {body : List UInt8} (hb : body.length ≤ 103) :
    (bs.length = g * z ∧ appL (ordS g z C bs.length) body = (ordS g z C bs.length, 0, 6)) ∨
    (bs.length < g * z ∧ ∃ C', appL (ordS g z C bs.length) body = (ordS g z C' (bs ++ [body]).length, ((2 + bs.length : Nat) : Int), 0) ∧ InOrd g z (bs ++ [body]) C' ∧ sd C' 0 = sd C 0 ∧ sd C' 1 = sd C 1) := by
  have hz : 0 < z := h.z0
  have hle := h.le
  have hF := ordS_F h
  obtain ⟨k, hk⟩ : ∃ k, k = bs.length := ⟨_, rfl⟩
  rw [← hk] at hF hle ⊢
  rcases Nat.eq_or_lt_of_le hle with he | hlt
  · refine .inl ⟨he, ?_⟩
    have hk0 : k ≠ 0 := by
      rw [he]; have := h.g0
      exact Nat.ne_of_gt (Nat.mul_pos (by omega) hz)
    have hmod : (k - 1) % z = z - 1 := by
      obtain ⟨m, hm⟩ : ∃ m, g = m + 1 := ⟨g - 1, by have := h.g0; omega⟩
      have := flat_div (i := m) (j := z - 1) (z := z) (by omega)
      rw [he, hm, show (m + 1) * z - 1 = m * z + (z - 1) by rw [Nat.add_mul, Nat.one_mul]; omega]
      exact this.2
    unfold appL
    rw [if_neg (by omega), if_neg, if_neg]
    · have hn : firstZ (ordS g z C k).gens = -1 := by
        apply firstZ_none
        intro j hj
        have hj' : j < g := by simpa [ordS] using hj
        show ((List.range g).map (ordG z k)).getD j 0 ≠ 0
        rw [ord_get hj']
        unfold ordG
        have : (j + 1) * z ≤ g * z := Nat.mul_le_mul_right z hj'
        rw [Nat.add_mul, Nat.one_mul] at this
        rw [if_pos (by omega)]; omega
      rw [hn]; decide
    · show ¬ (0 ≤ _ ∧ (if k = 0 then (0 : Int) else (((k - 1) % z + 1 : Nat) : Int)) < (z : Int))
      rw [if_neg hk0, hmod]
      omega
  · refine .inr ⟨hlt, ?_⟩
    obtain ⟨i, hi⟩ : ∃ i, i = k / z := ⟨_, rfl⟩
    obtain ⟨j, hj⟩ : ∃ j, j = k % z := ⟨_, rfl⟩
    have hjz : j < z := by rw [hj]; exact Nat.mod_lt _ hz
    have hkij : k = i * z + j := by rw [hi, hj, Nat.mul_comm]; exact (Nat.div_add_mod k z).symm
    have hig : i < g := by rw [hi, Nat.div_lt_iff_lt_mul hz]; exact hlt
    obtain ⟨d1, d2⟩ := flat_div (i := i) hjz
    have hn : (2 + (i : Int) * (z : Int) + (j : Int)) = ((2 + k : Nat) : Int) := by rw [← Int.natCast_mul]; omega
    obtain ⟨C', hC'⟩ : ∃ C', C' = C.set (2 + k) (sealS ((2 + k : Nat) : Int) ((i : Int) + 1) body) := ⟨_, rfl⟩
    have hput : putL (ordS g z C k) i j ((i : Int) + 1) body = ordS g z C' (k + 1) := by
      have e1 : (ordS g z C k).gens.set ((i : Int)).toNat ((i : Int) + 1) = (List.range g).map (ordG z (k + 1)) := by rw [Int.toNat_natCast, hkij]; exact ord_set hig hjz
      have e2 : (ordS g z C k).z = (z : Int) := rfl
      have e3 : (ordS g z C k).C = C := rfl
      have e4 : (if (i : Int) + 1 > (ordS g z C k).known then (i : Int) + 1 else (ordS g z C k).known) = (i : Int) + 1 := by
        show (if (i : Int) + 1 > (if k = 0 then (0 : Int) else (((k - 1) / z + 1 : Nat) : Int)) then _ else (if k = 0 then (0 : Int) else (((k - 1) / z + 1 : Nat) : Int))) = _
        by_cases h0 : k = 0
        · rw [if_pos h0, if_pos (by omega)]
        · rw [if_neg h0]
          have hij : 0 < j ∨ 0 < i := by
            rcases Nat.eq_zero_or_pos i with h2 | h2
            · left; rw [h2] at hkij; omega
            · exact .inr h2
          obtain ⟨q1, q2⟩ := flat_pred hz (Nat.le_of_lt hjz) (by omega) hij
          rw [← hkij] at q1 q2
          rcases Nat.eq_zero_or_pos j with hj0 | hj0
          · rw [(q2 hj0).1]; split <;> omega
          · rw [(q1 hj0).1]; split <;> omega
      unfold putL
      rw [e1, e2, e3, e4, hn, Int.toNat_natCast, ← hC']
      unfold ordS
      rw [if_neg (Nat.succ_ne_zero _), if_neg (Nat.succ_ne_zero _), if_neg (Nat.succ_ne_zero _), Nat.add_sub_cancel, ← hi, ← hj]
      rfl
    have hap : appL (ordS g z C k) body = (putL (ordS g z C k) i j ((i : Int) + 1) body, 2 + (i : Int) * (z : Int) + (j : Int), 0) := by
      unfold appL
      rw [if_neg (by omega)]
      rcases Nat.eq_zero_or_pos j with hj0 | hj0
      · have hfz : firstZ (ordS g z C k).gens = (i : Int) := by
          apply firstZ_some (i := i)
          · simpa [ordS] using hig
          · show ((List.range g).map (ordG z k)).getD i 0 = 0
            rw [ord_get hig]; unfold ordG
            rw [if_neg (by omega)]
          · intro s hs
            show ((List.range g).map (ordG z k)).getD s 0 ≠ 0
            rw [ord_get (by omega)]; unfold ordG
            have : (s + 1) * z ≤ i * z := Nat.mul_le_mul_right z hs
            rw [Nat.add_mul, Nat.one_mul] at this
            rw [if_pos (by omega)]; omega
        have hno : ¬ (0 ≤ (ordS g z C k).head ∧ (ordS g z C k).slot < (ordS g z C k).z) := by
          show ¬ (0 ≤ (if k = 0 then (-1 : Int) else _) ∧ (if k = 0 then (0 : Int) else (((k - 1) % z + 1 : Nat) : Int)) < (z : Int))
          by_cases h0 : k = 0
          · rw [if_pos h0]; omega
          · rw [if_neg h0, if_neg h0]
            have hi0 : 0 < i := by
              rcases Nat.eq_zero_or_pos i with h2 | h2
              · rw [h2] at hkij; omega
              · exact h2
            obtain ⟨_, q2⟩ := flat_pred hz (Nat.le_of_lt hjz) (by omega) (.inr hi0)
            rw [← hkij] at q2
            rw [(q2 hj0).2]
            omega
        have hkn : (ordS g z C k).known + 1 = (i : Int) + 1 := by
          show (if k = 0 then (0 : Int) else (((k - 1) / z + 1 : Nat) : Int)) + 1 = _
          by_cases h0 : k = 0
          · have : i = 0 := by rw [hi, h0, Nat.zero_div]
            rw [if_pos h0]; omega
          · have hi0 : 0 < i := by
              rcases Nat.eq_zero_or_pos i with h2 | h2
              · rw [h2] at hkij; omega
              · exact h2
            obtain ⟨_, q2⟩ := flat_pred hz (Nat.le_of_lt hjz) (by omega) (.inr hi0)
            rw [← hkij] at q2
            rw [if_neg h0, (q2 hj0).1]; omega
        rw [if_neg hno, hfz, if_pos (by omega), hkn, hj0]
        rfl
      · have h0 : k ≠ 0 := by omega
        obtain ⟨q1, _⟩ := flat_pred hz (Nat.le_of_lt hjz) (by omega) (.inl hj0)
        rw [← hkij] at q1
        have hh : (ordS g z C k).head = (i : Int) := by
          show (if k = 0 then (-1 : Int) else (((k - 1) / z : Nat) : Int)) = _
          rw [if_neg h0, (q1 hj0).1]
        have hs : (ordS g z C k).slot = (j : Int) := by
          show (if k = 0 then (0 : Int) else (((k - 1) % z + 1 : Nat) : Int)) = _
          rw [if_neg h0, (q1 hj0).2]; omega
        have hge : (ordS g z C k).gens.getD ((i : Int)).toNat 0 = (i : Int) + 1 := by
          rw [Int.toNat_natCast]
          show ((List.range g).map (ordG z k)).getD i 0 = _
          rw [ord_get hig]; unfold ordG
          rw [if_pos (by omega)]
        have hzz : (ordS g z C k).z = (z : Int) := rfl
        rw [hh, hs, hzz, if_pos ⟨by omega, by omega⟩, hge]
    have hcl := h.cl
    refine ⟨C', ?_, ?_, ?_, ?_⟩
    · rw [hap, hput, hn, List.length_append, ← hk]; rfl
    · refine ⟨h.g0, h.g1, h.z0, h.z1, h.gz, ?_, ?_, ?_, ?_, ?_⟩
      · rw [List.length_append, ← hk]; show k + 1 ≤ _; omega
      · rw [hC', List.length_set]; exact hcl
      · intro b hm
        rcases List.mem_append.1 hm with hm | hm
        · exact h.bd b hm
        · rw [List.mem_singleton.1 hm]; exact hb
      · intro n hn2
        rw [List.length_append, ← hk] at hn2
        have hn3 : n < k + 1 := hn2
        rw [hC', sd_set (by omega)]
        by_cases hnk : n = k
        · subst hnk
          rw [if_pos rfl, List.getD_eq_getElem?_getD, List.getElem?_append_right (by omega), ← hk, Nat.sub_self, ← hi]
          rfl
        · rw [if_neg (by omega), h.sec n (by omega), List.getD_eq_getElem?_getD, List.getD_eq_getElem?_getD, List.getElem?_append_left (by omega)]
      · intro n h1 h2
        rw [List.length_append, ← hk] at h1
        have h3 : k + 1 ≤ n := h1
        rw [hC', sd_set (by omega), if_neg (by omega)]
        exact h.non n (by omega) h2
    · rw [hC', sd_set (by omega), if_neg (by omega)]
    · rw [hC', sd_set (by omega), if_neg (by omega)]
end Go.Er


/-
  For LogGoesOn: rows of bytes, what Open finds of a log in order, a mirror made anew of the same devices.
-/
namespace Go.Er
open Go
/-! ### Rows of bytes -/
def bdC (y : Bd) : List Value := [bdV y]
theorem elBd : Elem bdC 1 := ⟨fun _ => rfl, fun y v hv => by rw [List.mem_singleton.1 hv]; rfl⟩
structure BsR where
  a : Option Addr
  l : List Bd
  c : Nat
def bsV (x : BsR) : Value := .slice x.a x.l.length x.c
def pts (x y : BsR) (p : Nat) : BsR := if p = 0 then x else y
def BsOK (w : World) (x : BsR) : Prop := x.l.length ≤ 12 ∧ RRow bdC w x.a x.l ∧ ∀ i, i < x.l.length → BRow w (x.l.getD i bdZ).a (x.l.getD i bdZ).b
theorem pts_ok {w : World} {x y : BsR} (hx : BsOK w x) (hy : BsOK w y) (p : Nat) {pa : Option Addr} {pl : List Bd} {pc : Nat} (hP : pts x y p = ⟨pa, pl, pc⟩) : pl.length ≤ 12 ∧ RRow bdC w pa pl ∧ ∀ i, i < pl.length → BRow w (pl.getD i bdZ).a (pl.getD i bdZ).b := by
  have h : BsOK w (pts x y p) := by
    unfold pts; split
    · exact hx
    · exact hy
  rw [hP] at h
  exact h
theorem pt_at {x y : BsR} {p o : Nat} (hp : p < 2) (ho : o = p) {pa : Option Addr} {pl : List Bd} {pc : Nat} (hP : pts x y p = ⟨pa, pl, pc⟩) : [bsV x, bsV y][o]? = some (.slice pa pl.length pc) := by
  subst ho
  obtain rfl | rfl : o = 0 ∨ o = 1 := by omega
  · have : x = ⟨pa, pl, pc⟩ := hP
    subst this; rfl
  · have : y = ⟨pa, pl, pc⟩ := hP
    subst this; rfl
theorem bd_at {pre post : List Value} {xs : List Bd} {off o i : Nat} {y : Bd} (ho : pre.length = off) (hi : i < xs.length) (he : o = off + i) (hy : xs.getD i bdZ = y) : (pre ++ rowC bdC xs ++ post)[o]? = some (bdV y) := by
  have h := row_get elBd pre (xs := xs) post (off := off) (o := o) (i := i) (j := 0) (x := y) ho (by rw [← hy, List.getD_eq_getElem?_getD, List.getElem?_eq_getElem hi]; rfl) (by decide) (by omega)
  rw [h]; rfl
theorem bd_at2 {post : List Value} {xs : List Bd} {o i : Nat} {y : Bd} (hi : i < xs.length) (he : o = i) (hy : xs.getD i bdZ = y) : (rowC bdC xs ++ post)[o]? = some (bdV y) := by
  have h := bd_at (pre := []) (post := post) (off := 0) rfl hi (by omega : o = 0 + i) hy
  rwa [List.nil_append] at h
theorem fd_td {fs : List FdL} {sp : List Value} {k o : Nat} {f : FdL} (hf : fs[k]? = some f) (ho : o = k * 3) : ((rowC fdC fs ++ sp).drop o).take 3 = fdC f := by
  have h2 := row_td elFd [] sp (off := 0) (o := o) rfl hf (by omega)
  rwa [List.nil_append] at h2
/-! ### Lists in order -/
theorem perm_key {α : Type} {key : α → Int} : ∀ {ys xs : List α}, xs.Perm ys → xs.Pairwise (fun a b => key a ≤ key b) → ys.Pairwise (fun a b => key a < key b) → xs = ys
  | [], xs, h, _,_ => h.eq_nil
  | y :: ys, [], h, _,_ => absurd h.symm.eq_nil (by simp)
  | y :: ys, x :: xs, h, hx, hy => by
    obtain ⟨x1, x2⟩ := List.pairwise_cons.1 hx
    obtain ⟨y1, y2⟩ := List.pairwise_cons.1 hy
    have hxy : x = y := by
      rcases List.mem_cons.1 (h.mem_iff.1 List.mem_cons_self) with e | hm
      · exact e
      · rcases List.mem_cons.1 (h.mem_iff.2 (List.mem_cons_self : y ∈ y :: ys)) with e | hm2
        · exact e.symm
        · have a1 := y1 x hm
          have a2 := x1 y hm2
          omega
    subst hxy
    rw [perm_key h.cons_inv x2 y2]
def keyP (p : Int × Int × List UInt8) : Int := p.2.1 * 4096 + p.1
theorem itL_key (z : Nat) (bs : List (List UInt8)) (k : Nat) : (itL z bs k).Pairwise (fun a b => keyP a < keyP b) := by
  unfold itL
  rw [List.pairwise_map]
  refine List.Pairwise.imp ?_ (List.pairwise_lt_range (n := k))
  intro a b hab
  unfold keyP itF
  have := Nat.div_le_div_right (c := z) (Nat.le_of_lt hab)
  generalize a / z = p at this
  generalize b / z = q at this
  show ((p + 1 : Nat) : Int) * 4096 + ((2 + a : Nat) : Int) < ((q + 1 : Nat) : Int) * 4096 + ((2 + b : Nat) : Int)
  omega
theorem srt_pair {fs : List FdL} (h : Srt fdZ fdK 0 fs.length fs) : fs.Pairwise (fun a b => fdK a ≤ fdK b) := by
  rw [List.pairwise_iff_getElem]
  intro i j hi hj hij
  have h1 := h i j (Nat.zero_le _) hij hj
  have e1 : fs.getD i fdZ = fs[i] := by rw [List.getD_eq_getElem?_getD, List.getElem?_eq_getElem hi]; rfl
  have e2 : fs.getD j fdZ = fs[j] := by rw [List.getD_eq_getElem?_getD, List.getElem?_eq_getElem hj]; rfl
  have h2 : fdK (fs.getD i fdZ) ≤ fdK (fs.getD j fdZ) := h1
  rwa [e1, e2] at h2
theorem ord_found {fs : List FdL} {z k : Nat} {bs : List (List UInt8)} (hp : (fs.map fdP).Perm (itL z bs k)) (hs : Srt fdZ fdK 0 fs.length fs) : fs.map fdP = itL z bs k :=
  perm_key (key := keyP) hp (List.pairwise_map.2 (srt_pair hs)) (itL_key z bs k)
theorem itL_length (z : Nat) (bs : List (List UInt8)) (k : Nat) : (itL z bs k).length = k := by simp [itL]
theorem found_len {fs : List FdL} {z k : Nat} {bs : List (List UInt8)} (h : fs.map fdP = itL z bs k) : fs.length = k := by
  have := congrArg List.length h
  rwa [List.length_map, itL_length] at this
theorem found_at {fs : List FdL} {z k m : Nat} {bs : List (List UInt8)} (h : fs.map fdP = itL z bs k) (hm : m < k) : ∃ f, fs[m]? = some f ∧ f ∈ fs ∧ f.at_ = ((2 + m : Nat) : Int) ∧ f.gen = ((m / z + 1 : Nat) : Int) ∧ f.bd.b = bs.getD m [] := by
  have hl := found_len h
  have hm2 : m < fs.length := by omega
  refine ⟨fs[m], List.getElem?_eq_getElem hm2, List.getElem_mem hm2, ?_⟩
  have h1 : (fs.map fdP)[m]? = (itL z bs k)[m]? := by rw [h]
  unfold itL at h1
  rw [List.getElem?_map, List.getElem?_eq_getElem hm2, List.getElem?_map, List.getElem?_range hm] at h1
  have h2 : fdP fs[m] = itF z bs m := Option.some.inj h1
  have e1 := congrArg Prod.fst h2
  have e2 := congrArg (fun p => p.2.1) h2
  have e3 := congrArg (fun p => p.2.2) h2
  exact ⟨e1, e2, e3⟩
/-! ### The log in order, with its first two sectors -/
def OrdL (g z : Nat) (bs : List (List UInt8)) (C : List Sec) : Prop := InOrd g z bs C ∧ sd C 0 = zS ∧ sd C 1 = zS
theorem OrdL.new {g z : Nat} (h0 : 3 ≤ g) (h1 : g ≤ 6) (h2 : 1 ≤ z) (h3 : z ≤ 4) : OrdL g z [] (List.replicate (2 + g * z) zS) := by
  refine ⟨InOrd.new h0 h1 h2 h3, ?_, ?_⟩
  · unfold sd; exact getD_replicate _ _ _
  · unfold sd; exact getD_replicate _ _ _
theorem newL_ord (g z : Nat) : newL (g : Int) (z : Int) = ordS g z (List.replicate (2 + g * z) zS) 0 := by
  rw [ordS_zero]
  unfold newL openL0
  rw [show (2 + (g : Int) * (z : Int)).toNat = 2 + g * z by rw [← Int.natCast_mul]; omega]
theorem ord_append2 {g z : Nat} {bs : List (List UInt8)} {C : List Sec} (h : OrdL g z bs C) {body : List UInt8} (hb : body.length ≤ 103) :
    (bs.length = g * z ∧ appL (ordS g z C bs.length) body = (ordS g z C bs.length, 0, 6)) ∨
    (bs.length < g * z ∧ ∃ C', appL (ordS g z C bs.length) body = (ordS g z C' (bs ++ [body]).length, ((2 + bs.length : Nat) : Int), 0) ∧ OrdL g z (bs ++ [body]) C') := by
  obtain ⟨h, h0, h1⟩ := h
  rcases ord_append h hb with h2 | ⟨h2, C', h3, h4, h5, h6⟩
  · exact .inl h2
  · exact .inr ⟨h2, C', h3, h4, h5.trans h0, h6.trans h1⟩
theorem ord_known {g z : Nat} {bs : List (List UInt8)} {C : List Sec} (h : InOrd g z bs C) : (ordS g z C bs.length).known + 1 < 1000000000 := by
  show (if bs.length = 0 then (0 : Int) else (((bs.length - 1) / z + 1 : Nat) : Int)) + 1 < 1000000000
  have h1 : (bs.length - 1) / z ≤ bs.length - 1 := Nat.div_le_self _ _
  have := h.le; have := h.gz
  generalize (bs.length - 1) / z = d at h1
  split <;> omega
/-- what is read at a place of the log -/
theorem ord_read {g z : Nat} {bs : List (List UInt8)} {C : List Sec} (h : InOrd g z bs C) {m : Nat} (hm : m < bs.length) :
    (ordS g z C bs.length).gens.getD ((((2 + m : Nat) : Int) - 2) / (ordS g z C bs.length).z).toNat 0 = ((m / z + 1 : Nat) : Int) := by
  have e : ((((2 + m : Nat) : Int) - 2) / (ordS g z C bs.length).z).toNat = m / z := by
    show ((((2 + m : Nat) : Int) - 2) / (z : Int)).toNat = _
    rw [show ((2 + m : Nat) : Int) - 2 = (m : Int) by omega, ← Int.natCast_ediv, Int.toNat_natCast]
  have hz := h.z0
  have hd : m / z < g := by
    rw [Nat.div_lt_iff_lt_mul hz]
    have := h.le; omega
  rw [e]
  show ((List.range g).map (ordG z bs.length)).getD (m / z) 0 = _
  rw [ord_get hd]
  unfold ordG
  rw [if_pos (by have := Nat.div_mul_le_self m z; omega)]
  omega
/-! ### Blocks -/
theorem LogN.dev {E : TypeId} {fG : FuncId} {TC TL : TypeId} {w0 w : World} {X : List Nat} {L : List (Nat × Obj)} {ba bb bl q : Nat} {x : LS} {N : List (Nat × Obj)} (h : LogN E fG TC TL ba bb bl x q N) (hq : q ≤ 100000) (H : St w0 X w L) (hs : ∀ p ∈ N, p ∈ L) : DevR w ba x.C ∧ DevR w bb x.C := by
  obtain ⟨bm, cs, bu, T, T2, Nm, rfl, ⟨ma, mb, bg, cs', bp, lf, ac, nc, cc, T', Tp, Na, Nb, rfl, hA, hB, hl⟩, hf⟩ := h
  have hp : (bp, Obj.cells (pC lf ac nc cc).toArray Tp (0, 0)) ∈ L := hs _ (by simp)
  exact ⟨hA.rdM (by omega) H hp (fun p hp => hs _ (by simp [hp])), hB.rdM (by omega) H hp (fun p hp => hs _ (by simp [hp]))⟩
section
variable {w0 w : World} {X : List Nat} {A M D : List (Nat × Obj)} {m1 m2 m3 g1 l1 l2 k1 k2 k3 k4 p : Nat × Obj}
/-- a mirror is made anew of the same devices -/
theorem St.again (H : St w0 X w (m1 :: m2 :: m3 :: g1 :: (A ++ (M ++ (l1 :: l2 :: k1 :: k2 :: k3 :: k4 :: p :: D))))) : St w0 X w (A ++ (M ++ ([l1, l2, k1, k2, k3, k4] ++ (m1 :: m3 :: m2 :: g1 :: p :: D)))) := by
  have h1 := St.mid5 (No := [m1, m2, m3, g1]) H
  refine h1.perm (List.Perm.append_left A (List.Perm.append_left M ?_))
  have e1 : (m1 :: m3 :: m2 :: g1 :: p :: D).Perm ([m1, m2, m3, g1] ++ (p :: D)) := (List.Perm.swap m2 m3 _).cons m1
  refine (e1.append_left _).trans ?_
  have e2 := List.perm_append_comm_assoc [l1, l2, k1, k2, k3, k4] [m1, m2, m3, g1] (p :: D)
  exact e2
end
/-- the elder log is read still -/
theorem LogR.elder {fG : FuncId} {TC TL : TypeId} {w0 w : World} {X : List Nat} {L : List (Nat × Obj)} {ba bb bl bm bu ma mb bg : Nat} {cs cs' : List Value} {T T2 T' : TypeId} {x : LS} (H : St w0 X w L)
    (hs : ∀ p ∈ [(bl, Obj.cells (lgC bm (.iface TL (.agg (cs : List Value).toArray)) x.g x.z bu x.gens.length x.head x.slot x.known).toArray T (0, 0)), (bu, Obj.cells (uC x.gens).toArray T2 (0, 0)), (bm, Obj.cells (mC ba ma bb mb x.C.length (.func (.func fG) #[] #[.pointer (some ⟨bg, 0, none⟩)])).toArray T' (0, 0)), (ma, mapZ), (mb, mapZ), (bg, Obj.cells [.iface TL (.agg (cs' : List Value).toArray)].toArray TC (0, 0))], p ∈ L)
    (hA : DevR w ba x.C) (hB : DevR w bb x.C) (hl : x.C.length ≤ 4096) (hF : LogF x) : LogR fG TC TL w bl x := by
  refine ⟨bm, cs, bu, T, (0, 0), T2, (0, 0), H.own (bl, _) (hs _ (by simp)), H.own (bu, _) (hs _ (by simp)), ?_, hF⟩
  refine ⟨ba, ma, bb, mb, _, T', (0, 0), H.own (bm, _) (hs _ (by simp)), fun i => ?_, fun i => ?_, ⟨bg, cs', rfl, H.own (bg, _) (hs _ (by simp))⟩, hl⟩
  · unfold bI; split
    · exact hA
    · exact hB
  · unfold bI; split
    · exact H.own (ma, mapZ) (hs _ (by simp))
    · exact H.own (mb, mapZ) (hs _ (by simp))
end Go.Er

