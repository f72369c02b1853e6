/-
  Keys that are equal; bits of numbers; two leaves beside one another.
-/
import Derived.Test.YtbjalofmamoffaaT0
import Derived.Test.YtbjalofmamoffaaD7
namespace Go.Er
open Go
instance {n : Nat} : DecidableEq (By n) := fun a b => decidable_of_iff (a.1 = b.1) ⟨By.ext, fun h => by rw [h]⟩
section
variable {w : World} {P : Program} {l : Fr} {T T' : TypeId} {d : Option Nat} {ty : TypeId} {pos : String} {after : Array Edge} {g : Option (Nat × Bool)} {x y : Operand}
/-- an array of 32 bytes -/
structure KeyT (P : Program) (T : TypeId) : Prop where
  grd : P.eqGuardType P.depth T = false
  el : ∃ e, P.underlying T = some (.array 32 e) ∧ P.underlying e = some (.int .u8) ∧ Size P e 1
theorem key_eq (h : KeyT P T) (a b : Key) : (Op.equalIn 10000 T (.agg (kC a).toArray) (.agg (kC b).toArray)).run P w = .ok (decide (a = b)) w := by
  obtain ⟨e, hu, he, hs⟩ := h.el
  have q := run_equalIn_bytes (P := P) w 9998 T e 32 hu he hs a.1 b.1 a.2 b.2
  have hd : decide (a = b) = (a.1 == b.1) := by
    rw [Bool.eq_iff_iff]
    simp only [decide_eq_true_eq, beq_iff_eq]
    exact ⟨fun h => by rw [h], fun h => By.ext h⟩
  rw [hd, ← q]
  rfl
theorem r_eqlK {a b : Key} (h : KeyT P T) (hx : evl l x = .agg (kC a).toArray) (hy : evl l y = .agg (kC b).toArray) : (execOp (evl l) ⟨d, .binOp .eql T x y T', ty, pos, after, g⟩).run P w = .ok (.value (.bool (decide (a = b)))) w := by
  simp only [execOp, hx, hy, Sem.run_bind, run_eqGuard_agg w .eql T x y _ _ h.grd, Result.andThen_ok, run_eql_struct, key_eq h, Sem.run_pure]
theorem r_neqK {a b : Key} (h : KeyT P T) (hx : evl l x = .agg (kC a).toArray) (hy : evl l y = .agg (kC b).toArray) : (execOp (evl l) ⟨d, .binOp .neq T x y T', ty, pos, after, g⟩).run P w = .ok (.value (.bool (decide (a ≠ b)))) w := by
  have e : (!decide (a = b)) = decide (a ≠ b) := by simp
  simp only [execOp, hx, hy, Sem.run_bind, run_eqGuard_agg w .neq T x y _ _ h.grd, Result.andThen_ok, run_neq_struct, key_eq h, Sem.run_pure, e]
end
/-! ### Bits -/
theorem xor_small {n : Nat} {m : Nat} (hn : n < 18446744073709551616) (hm : m < 4) : IntKind.u64.wrap (BitVec.ofInt IntKind.u64.bits (n : Int) ^^^ BitVec.ofInt IntKind.u64.bits (m : Int)).toNat = ((n / 4 * 4 + (n % 4 ^^^ m) : Nat) : Int) := by
  show IntKind.u64.wrap ((BitVec.ofInt 64 (n : Int) ^^^ BitVec.ofInt 64 (m : Int)).toNat : Int) = _
  rw [BitVec.toNat_xor, bv_of (by omega), bv_of (by omega)]
  have h1 : (n ^^^ m) / 2 ^ 2 = n / 2 ^ 2 ^^^ m / 2 ^ 2 := Nat.xor_div_two_pow
  have h2 : (n ^^^ m) % 2 ^ 2 = (n % 2 ^ 2) ^^^ (m % 2 ^ 2) := Nat.xor_mod_two_pow
  have h3 : m / 2 ^ 2 = 0 := by omega
  have h4 : m % 2 ^ 2 = m := by omega
  rw [h3, Nat.xor_zero] at h1
  rw [h4] at h2
  have h5 : (n ^^^ m) = n / 4 * 4 + (n % 4 ^^^ m) := by
    have := Nat.div_add_mod (n ^^^ m) 4
    have e1 : (n ^^^ m) / 4 = n / 4 := h1
    have e2 : (n ^^^ m) % 4 = n % 4 ^^^ m := h2
    omega
  have h6 : n % 4 ^^^ m < 4 := Nat.xor_lt_two_pow (n := 2) (by omega) hm
  rw [h5]
  exact w_u64 (by omega) (by omega)
theorem even_not1 {n : Nat} (hn : n < 65536) : IntKind.u64.wrap (BitVec.ofInt IntKind.u64.bits (n : Int) &&& ~~~ BitVec.ofInt IntKind.u64.bits 1).toNat = ((n / 2 * 2 : Nat) : Int) := by
  show IntKind.u64.wrap ((BitVec.ofInt 64 (n : Int) &&& ~~~ BitVec.ofInt 64 1).toNat : Int) = _
  rw [BitVec.toNat_and, bv_of (by omega)]
  have e : (~~~ BitVec.ofInt 64 1 : BitVec 64).toNat = 18446744073709551614 := by decide
  rw [e]
  have h1 : (n &&& 18446744073709551614) / 2 ^ 1 = n / 2 ^ 1 &&& 18446744073709551614 / 2 ^ 1 := Nat.and_div_two_pow
  have h2 : (n &&& 18446744073709551614) % 2 ^ 1 = (n % 2 ^ 1) &&& (18446744073709551614 % 2 ^ 1) := Nat.and_mod_two_pow
  have h3 : (18446744073709551614 : Nat) / 2 ^ 1 = 2 ^ 63 - 1 := by decide
  have h4 : (18446744073709551614 : Nat) % 2 ^ 1 = 0 := by decide
  rw [h3, Nat.and_two_pow_sub_one_eq_mod] at h1
  rw [h4, Nat.and_zero] at h2
  have h5 : (n &&& 18446744073709551614) = n / 2 * 2 := by omega
  rw [h5]
  exact w_u64 (by omega) (by omega)
/-! ### Two leaves beside one another -/
variable {sl sr : Key → Key}
theorem canon_min {l : List Int} : ∀ (k : Nat) (h : Held), h.depth = 17 - ((k + 1 : Nat) : Int) → h.at_ % 2 = 0 → ∀ x ∈ canon sl sr l (k + 1) h, x.depth = 17 → ∃ n ∈ l, n / 2 = x.at_ / 2
  | 0, h, hd, he, x, hx, h17 => by
    by_cases hh : hits l h
    · obtain ⟨n, hn, h1, h2⟩ := hh
      have hm : many h.depth = 2 := by rw [hd]; decide
      have hm1 : many (h.depth + 1) = 1 := by rw [hd]; decide
      refine ⟨n, hn, ?_⟩
      simp only [canon, if_pos (show hits l h from ⟨n, hn, h1, h2⟩), List.mem_append] at hx
      rcases hx with hx | hx
      · split at hx
        · nomatch hx
        · rw [List.mem_singleton] at hx; subst hx
          show n / 2 = h.at_ / 2; omega
      · split at hx
        · nomatch hx
        · rw [List.mem_singleton] at hx; subst hx
          show n / 2 = (h.at_ + many (h.depth + 1)) / 2; omega
    · rw [canon_miss hh, List.mem_singleton] at hx; subst hx; omega
  | k + 1, h, hd, he, x, hx, h17 => by
    by_cases hh : hits l h
    · have hm := many_succ (n := h.depth + 1) (by omega)
      simp only [canon] at hx
      rw [if_pos hh, List.mem_append] at hx
      rcases hx with hx | hx
      · exact canon_min k (kidL sl h) (by show h.depth + 1 = _; omega) he x (by simpa only [canon] using hx) h17
      · exact canon_min k (kidR sr h) (by show h.depth + 1 = _; omega) (by show (h.at_ + many (h.depth + 1)) % 2 = 0; omega) x (by simpa only [canon] using hx) h17
    · rw [canon_miss hh, List.mem_singleton] at hx; subst hx; omega
theorem split_held {seed : Key} {a p : Int} (h0 : 0 ≤ a) (h1 : a < 131072) (he : a % 2 = 0) (hp : p % 2 = 0) (hp0 : p / 4 = a / 4) (hne : p ≠ a) : ∃ x ∈ tree0 sl sr seed [p + 1, p], x.at_ = a ∧ x.depth = 16 := by
  have hr : ∀ n, 0 ≤ n → n < 131072 → InN (root seed) n := fun n h h' => root_in.2 ⟨h, h'⟩
  obtain ⟨x, hx, hin⟩ := (canon_has (sl := sl) (sr := sr) (l := [p + 1, p]) 17 (root seed) rfl a (hr a h0 h1)).2 (by simp; omega)
  have hno := fun hi => (canon_has (sl := sl) (sr := sr) (l := [p + 1, p]) 17 (root seed) rfl p (hr p (by omega) (by omega))).1 ⟨x, hx, hi⟩ (by simp)
  obtain ⟨d0, d1, a0, a1, a2⟩ := (tree0_valid (sl := sl) (sr := sr) (seed := seed) [p + 1, p]).mem hx
  have hd : ¬ x.depth ≤ 15 := by
    intro hd
    have m1 := many_succ (n := x.depth) (by omega)
    have m2 := many_succ (n := x.depth + 1) (by omega)
    have e : x.depth + 1 + 1 = x.depth + 2 := by omega
    rw [e] at m2
    obtain ⟨q, hq⟩ := Int.dvd_of_emod_eq_zero a1
    have m3 : many x.depth = 4 * many (x.depth + 2) := by omega
    rw [m3, Int.mul_assoc] at hq
    refine hno ?_
    unfold InN at *
    rw [m3] at *
    generalize many (x.depth + 2) * q = z at hq
    omega
  have h16 : ¬ x.depth = 17 := by
    intro h17
    obtain ⟨n, hn, h2⟩ := canon_min (sl := sl) (sr := sr) 16 (root seed) rfl rfl x hx h17
    have hm : many x.depth = 1 := by rw [h17]; decide
    unfold InN at hin
    simp only [List.mem_cons, List.not_mem_nil, or_false] at hn
    omega
  refine ⟨x, hx, ?_, by omega⟩
  have hx16 : x.depth = 16 := by omega
  have hm : many x.depth = 2 := by rw [hx16]; decide
  unfold InN at hin
  rw [hm] at hin a1
  omega
theorem leafK_last {h : Held} {n : Int} (hd : h.depth = 17) : leafK sl sr h n = h.seed := by
  have e : (17 - h.depth).toNat = 0 := by omega
  unfold leafK
  rw [e]; rfl
theorem leafK_two {h : Held} (hd : h.depth = 16) : leafK sl sr h h.at_ = sl h.seed ∧ leafK sl sr h (h.at_ + 1) = sr h.seed := by
  have hm : many (h.depth + 1) = 1 := by rw [hd]; decide
  have e0 := leafK_step (sl := sl) (sr := sr) (k := 0) (h := h) (n := h.at_) (by omega)
  have e1 := leafK_step (sl := sl) (sr := sr) (k := 0) (h := h) (n := h.at_ + 1) (by omega)
  have hR : (kidR sr h).at_ = h.at_ + 1 := by show h.at_ + many (h.depth + 1) = _; omega
  rw [hR, if_neg (by omega), leafK_last (h := kidL sl h) (by show h.depth + 1 = 17; omega)] at e0
  rw [hR, if_pos (by omega), leafK_last (h := kidR sr h) (by show h.depth + 1 = 17; omega)] at e1
  exact ⟨e0, e1⟩
theorem keyR_root {seed k : Key} {n : Int} {ok : Bool} (h : KeyR sl sr [root seed] n k ok) (h0 : 0 ≤ n) (h1 : n < 131072) : ok = true ∧ k = leafK sl sr (root seed) n := by
  rcases h with ⟨h, x, hx, _, hk⟩ | ⟨_, _, h⟩
  · rw [List.mem_singleton] at hx; subst hx; exact ⟨h, hk⟩
  · exact absurd ⟨_, List.mem_singleton.2 rfl, root_in.2 ⟨h0, h1⟩⟩ h
/-- what is held of a tree has the tree's keys -/
theorem split_keys {seed ka kb : Key} {l : List Int} {x : Held} (hx : x ∈ tree0 sl sr seed l) (hd : x.depth = 16) (ha : ka = leafK sl sr (root seed) x.at_) (hb : kb = leafK sl sr (root seed) (x.at_ + 1)) : sl x.seed = ka ∧ sr x.seed = kb := by
  have hm : many x.depth = 2 := by rw [hd]; decide
  obtain ⟨e0, e1⟩ := leafK_two (sl := sl) (sr := sr) hd
  rw [ha, hb, ← e0, ← e1, canon_key 17 (root seed) rfl x hx x.at_ (by unfold InN; omega), canon_key 17 (root seed) rfl x hx (x.at_ + 1) (by unfold InN; omega)]
  exact ⟨rfl, rfl⟩
theorem pair_of {A : Nat} (h : A % 2 = 0) : ∃ p : Nat, A / 4 * 4 + (A % 4 ^^^ 2) = p ∧ A / 4 * 4 + (A % 4 ^^^ 3) = p + 1 ∧ p % 2 = 0 ∧ p / 4 = A / 4 ∧ p ≠ A := by
  have h4 : A % 4 = 0 ∨ A % 4 = 2 := by omega
  have hq : (A % 4 ^^^ 2 = 0 ∨ A % 4 ^^^ 2 = 2) ∧ A % 4 ^^^ 3 = (A % 4 ^^^ 2) + 1 ∧ A % 4 ^^^ 2 ≠ A % 4 := by rcases h4 with h | h <;> rw [h] <;> decide
  obtain ⟨q0, q1, q2⟩ := hq
  rw [q1]
  generalize A % 4 ^^^ 2 = q at *
  exact ⟨_, rfl, by omega, by omega, by omega, by omega⟩
/-! ### One held node -/
theorem HRow.one {w : World} {b : Nat} {x : Held} {T : TypeId} {fz : Nat × Nat} (h : w.heap[b]? = some (.cells (hC x).toArray T fz)) : HRow w (some ⟨b, 0, none⟩) [x] := fun _ => ⟨b, 0, [], [], T, fz, rfl, by rw [h, hsC_one1, List.nil_append, List.append_nil], rfl⟩
theorem tree0_cnt {seed : Key} : ∀ (l : List Int), 131072 - l.length ≤ cnt (tree0 sl sr seed l)
  | [] => by
    rw [tree0_nil, cnt_cons]
    have : many (root seed).depth = 131072 := many_zero
    rw [this]; simp [cnt]
  | n :: l => by
    have ih := tree0_cnt (seed := seed) l
    rw [← tree0_punc]
    simp only [List.length_cons]
    by_cases h : ∃ x ∈ tree0 sl sr seed l, InN x n
    · obtain ⟨x, hx, hi⟩ := h
      obtain ⟨i, hl, rfl⟩ := nd_mem hx
      rw [cnt_punc (tree0_valid l) hl hi]; omega
    · rw [punc_off h]; omega
theorem tree0_some {seed : Key} {l : List Int} (h : l.length ≤ 131071) : 0 < (tree0 sl sr seed l).length := by
  have h1 := tree0_cnt (sl := sl) (sr := sr) (seed := seed) l
  rcases Nat.eq_zero_or_pos (tree0 sl sr seed l).length with h0 | h0
  · rw [List.length_eq_zero_iff.1 h0] at h1
    simp [cnt] at h1; omega
  · exact h0
/-- the key of a tree's leaf -/
theorem keyR_tree {seed k : Key} {l : List Int} {n : Int} {ok : Bool} {x : Held} (h : KeyR sl sr (tree0 sl sr seed l) n k ok) (hx : x ∈ tree0 sl sr seed l) (hn : InN x n) : ok = true ∧ k = leafK sl sr (root seed) n := by
  rcases h with ⟨h, y, hy, hi, hk⟩ | ⟨_, _, h⟩
  · exact ⟨h, by rw [hk, canon_key 17 (root seed) rfl y hy n hi]⟩
  · exact absurd ⟨x, hx, hn⟩ h
theorem keyR_one {seed k : Key} {l : List Int} {n : Int} {ok : Bool} {x : Held} (h : KeyR sl sr [x] n k ok) (hx : x ∈ tree0 sl sr seed l) (hn : InN x n) : ok = true ∧ k = leafK sl sr (root seed) n := by
  rcases h with ⟨h, y, hy, hi, hk⟩ | ⟨_, _, h⟩
  · rw [List.mem_singleton] at hy; subst hy
    exact ⟨h, by rw [hk, canon_key 17 (root seed) rfl _ hx n hi]⟩
  · exact absurd ⟨x, List.mem_singleton.2 rfl, hn⟩ h
/-! ### A row that grows, maybe by nothing -/
section
variable {w0 w : World} {X : List Nat} {P : Program} {l : Fr} {T E : TypeId} {d : Option Nat} {ty : TypeId} {pos : String} {after : Array Edge} {g : Option (Nat × Bool)}
theorem m_append_row0 {L1 N : List (Nat × Obj)} {T2 : TypeId} {D2 : TypeDesc} {cs vs : List Value} {z u : Value} {ti : TypeInfo} {n m cap sz : Nat} {a : Option Addr} {args : List Operand}
    (H : St w0 X w (L1 ++ N)) (hN : RowN sz E cs n a cap N) (hu : Und P T (.slice E)) (hu2 : Und P T2 D2) (hD : ∀ q, D2 ≠ .int q) (hs : Size P E sz) (hz : Zero P E z) (hzs : z.cells.size = sz) (hi : ∀ w, (typeInfo E).run P w = .ok ti w)
    (hby : 0 < ti.bytes) (hroom : (n + m) * ti.bytes ≤ 140737488355328) (ha : Evs l args [.slice a n cap, u]) (hx : Src P w sz u m vs) :
    ∃ v w', (execOp (evl l) ⟨d, .call ⟨.builtin .append, args.toArray, [T, T2].toArray⟩, ty, pos, after, g⟩).run P w = .ok (.value v) w' ∧
      ∃ a' cap' N', v = .slice a' (n + m : Nat) cap' ∧ RowN sz E (cs ++ vs) (n + m) a' cap' N' ∧ St w0 X w' (L1 ++ N') := by
  rcases Nat.eq_zero_or_pos m with rfl | hm
  · have hl := hx.len
    have hv : vs = [] := List.length_eq_zero_iff.1 (by rw [hx.size, Nat.zero_mul])
    subst hv
    obtain ⟨hlen, hnc, ⟨rfl, rfl, rfl, rfl⟩ | ⟨b, sp, rfl, hcap, rfl⟩⟩ := id hN
    · refine ⟨.slice none 0 0, w, ?_, none, 0, [], rfl, by simpa using hN, H⟩
      have hrun : (execOp (evl l) ⟨d, .call ⟨.builtin .append, args.toArray, [T, T2].toArray⟩, ty, pos, after, g⟩).run P w = ((Builtin.append_ #[T, T2] ty #[.slice none 0 0, u]).run P w).andThen fun v w' => .ok (.value v) w' := by
        simp [execOp, resolve, invoke, builtin, ha.map]
      rw [hrun]
      simp [Builtin.append_, hu w, hu2 w, hs w, hl, hx.cells w.drawn]
    · have hk : (L1 ++ [(b, Obj.cells (cs ++ sp).toArray E (0, 0))])[L1.length]? = some (b, .cells (cs ++ sp).toArray E (0, 0)) := by simp
      obtain ⟨v, w', hr, b', cap', sp', rfl, hc, hnc', H'⟩ := m_append_own2 H L1.length hu hu2 hD hs hz hzs hi hk hlen hcap hby hroom ha hx
      refine ⟨_, w', hr, some ⟨b', 0, none⟩, cap', [(b', .cells (cs ++ [] ++ sp').toArray E (0, 0))], rfl, ⟨by simpa using hlen, hnc', .inr ⟨b', sp', rfl, hc, rfl⟩⟩, ?_⟩
      have e : (L1 ++ [(b, Obj.cells (cs ++ sp).toArray E (0, 0))]).eraseIdx L1.length = L1 := by
        rw [List.eraseIdx_append_of_length_le (Nat.le_refl _)]; simp
      rw [e] at H'
      exact H'.perm List.perm_append_comm
  · exact m_append_row H hN hu hu2 hD hs hz hzs hi hby hm hroom ha hx
end
end Go.Er
