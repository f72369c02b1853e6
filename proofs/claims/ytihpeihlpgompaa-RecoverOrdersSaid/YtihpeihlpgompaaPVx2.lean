import Derived.Test.YtihpeihlpgompaaPVx1
/-
  When a cell may be, and how it is read, as the document tells.
-/
namespace Go.Er
open Go
/-! ### When a cell may be -/
def cR1 (y : Ce) : Ce := ⟨y.kind, y.num, y.min, y.br, y.vol, y.blk, y.ref, 0, 0, 0, y.body⟩
def cR2 (y : Ce) : Ce := ⟨y.kind, y.num, y.min, y.br, y.vol, y.blk, y.ref, 0, 0, 0, bdZ⟩
def cR4 (y : Ce) : Ce := ⟨y.kind, y.num, y.min, y.br, y.vol, 0, y.ref, 0, 0, 0, bdZ⟩
def cR5 (y : Ce) : Ce := ⟨y.kind, y.num, y.min, y.br, 0, 0, 0, 0, 0, 0, bdZ⟩
def cR6 (y : Ce) : Ce := ⟨y.kind, y.num, y.min, 0, 0, 0, y.ref, y.fr, y.to, y.un, bdZ⟩
def cR7 (y : Ce) : Ce := ⟨y.kind, y.num, y.min, 0, 0, 0, y.ref, 0, 0, 0, bdZ⟩
def numOk (y : Ce) : Prop := 1 ≤ y.num ∧ y.num ≤ 65535 ∧ inM y.min 1073741824
theorem r12_of {y d : Ce} {ok : Bool} {F E : Prop} (hk : kOk y.kind = true) (hn : numOk y) (he : ceEq y d ↔ onlyC (ceP y) ∧ E) (hf : fieldsC (ceP y) ↔ F ∧ E) (hok : ok = true ↔ F) : rightC (ceP y) ↔ (ok = true ∧ ceEq y d) := by
  unfold rightC
  rw [hok, he, hf]
  constructor
  · rintro ⟨_, h1, _,_,_, h2, h3⟩; exact ⟨h2, h1, h3⟩
  · rintro ⟨h2, h1, h3⟩; exact ⟨hk, h1, hn.1, hn.2.1, hn.2.2, h2, h3⟩
theorem r12_no {y d : Ce} (hk : kOk y.kind = false) : rightC (ceP y) ↔ (false = true ∧ ceEq y d) :=
  ⟨fun h => absurd (h.1.symm.trans hk) (by decide), fun h => nomatch h.1⟩
section
variable {y : Ce} {ok : Bool}
set_option linter.unusedSimpArgs false
theorem r12_1 (h : y.kind = 1) (hn : numOk y) (hok : ok = true ↔ ((inM y.br 15 ∧ inM y.vol 7 ∧ inM y.blk 255) ∧ y.ref ≤ 1 ∧ (y.body.b.length : Int) = 32)) : rightC (ceP y) ↔ (ok = true ∧ ceEq y (cR1 y)) := by
  refine r12_of (E := True) (by rw [h]; rfl) hn ?_ ?_ hok
  · simp [ceEq, cR1, onlyC, ceP, kPl, kRf, kMi, kBo, h, and_assoc]
  · rw [fieldsC_1 (y := ceP y) h, and_true]
    exact and_congr Iff.rfl (and_congr Iff.rfl (Int.ofNat_inj (m := y.body.b.length) (n := 32)).symm)
theorem r12_3 (h : y.kind = 3) (hn : numOk y) (hok : ok = true ↔ ((inM y.br 15 ∧ inM y.vol 7 ∧ inM y.blk 255) ∧ elderC (ceP y) ∧ (y.body.b.length : Int) ≥ 1 ∧ (y.body.b.length : Int) ≤ 20)) : rightC (ceP y) ↔ (ok = true ∧ ceEq y (cR1 y)) := by
  refine r12_of (E := True) (by rw [h]; rfl) hn ?_ ?_ hok
  · simp [ceEq, cR1, onlyC, ceP, kPl, kRf, kMi, kBo, h, and_assoc]
  · rw [fieldsC_3 (y := ceP y) h, and_true]
    exact and_congr Iff.rfl (and_congr Iff.rfl (and_congr (Int.ofNat_le (m := 1) (n := y.body.b.length)).symm (Int.ofNat_le (m := y.body.b.length) (n := 20)).symm))
theorem r12_2 (h : y.kind = 2) (hn : numOk y) (hok : ok = true ↔ ((inM y.br 15 ∧ inM y.vol 7 ∧ inM y.blk 255) ∧ elderC (ceP y))) : rightC (ceP y) ↔ (ok = true ∧ ceEq y (cR2 y)) := by
  refine r12_of (E := True) (by rw [h]; rfl) hn ?_ ?_ hok
  · simp [ceEq, cR2, onlyC, ceP, kPl, kRf, kMi, kBo, h, and_assoc, bdZ]
  · rw [fieldsC_2 (y := ceP y) h, and_true]; exact Iff.rfl
theorem r12_4 (h : y.kind = 4) (hn : numOk y) (hok : ok = true ↔ (elderC (ceP y) ∧ y.br ≥ 1 ∧ y.br ≤ 15 ∧ y.vol ≥ 0 ∧ y.vol ≤ 15 ∧ y.vol ≠ y.br)) : rightC (ceP y) ↔ (ok = true ∧ ceEq y (cR4 y)) := by
  refine r12_of (E := y.blk = 0) (by rw [h]; rfl) hn ?_ ?_ hok
  · simp [ceEq, cR4, onlyC, ceP, kPl, kRf, kMi, kBo, h, and_assoc, bdZ]
    constructor
    · rintro ⟨a, b, c, d, e⟩; exact ⟨b, c, d, e, a⟩
    · rintro ⟨b, c, d, e, a⟩; exact ⟨a, b, c, d, e⟩
  · rw [fieldsC_4 (y := ceP y) h]
    show (1 ≤ y.br ∧ y.br < 16) ∧ (0 ≤ y.vol ∧ y.vol ≤ 15) ∧ y.vol ≠ y.br ∧ y.blk = 0 ∧ elderC (ceP y) ↔ _
    constructor
    · rintro ⟨⟨a, b⟩, ⟨c, d⟩, e, f, g⟩; exact ⟨⟨g, a, by omega, c, d, e⟩, f⟩
    · rintro ⟨⟨g, a, b, c, d, e⟩, f⟩; exact ⟨⟨a, by omega⟩, ⟨c, d⟩, e, f, g⟩
theorem r12_5 (h : y.kind = 5) (hn : numOk y) (hok : ok = true ↔ (y.br ≥ 1 ∧ y.br ≤ 15)) : rightC (ceP y) ↔ (ok = true ∧ ceEq y (cR5 y)) := by
  refine r12_of (E := y.vol = 0 ∧ y.blk = 0) (by rw [h]; rfl) hn ?_ ?_ hok
  · simp [ceEq, cR5, onlyC, ceP, kPl, kRf, kMi, kBo, h, and_assoc, bdZ]
    constructor
    · rintro ⟨a, b, c, d, e, f, g⟩; exact ⟨c, d, e, f, g, a, b⟩
    · rintro ⟨c, d, e, f, g, a, b⟩; exact ⟨a, b, c, d, e, f, g⟩
  · rw [fieldsC_5 (y := ceP y) h]
    show (1 ≤ y.br ∧ y.br < 16) ∧ y.vol = 0 ∧ y.blk = 0 ↔ _
    constructor
    · rintro ⟨⟨a, b⟩, c⟩; exact ⟨⟨a, by omega⟩, c⟩
    · rintro ⟨⟨a, b⟩, c⟩; exact ⟨⟨a, by omega⟩, c⟩
theorem r12_6 (h : y.kind = 6) (hn : numOk y) (hok : ok = true ↔ (y.ref ≥ 1 ∧ y.ref ≤ 65535 ∧ inM y.fr 1073741824 ∧ inM y.to 1073741824 ∧ inM y.un 1073741824 ∧ y.fr ≤ y.to)) : rightC (ceP y) ↔ (ok = true ∧ ceEq y (cR6 y)) := by
  refine r12_of (E := True) (by rw [h]; rfl) hn ?_ ?_ hok
  · simp [ceEq, cR6, onlyC, ceP, kPl, kRf, kMi, kBo, h, and_assoc, bdZ]
  · rw [fieldsC_6 (y := ceP y) h, and_true]
    show 1 ≤ y.ref ∧ y.ref ≤ 65535 ∧ (0 ≤ y.fr ∧ y.fr ≤ y.to) ∧ (0 ≤ y.to ∧ y.to ≤ 1073741824) ∧ inM y.un 1073741824 ↔ y.ref ≥ 1 ∧ y.ref ≤ 65535 ∧ (0 ≤ y.fr ∧ y.fr ≤ 1073741824) ∧ (0 ≤ y.to ∧ y.to ≤ 1073741824) ∧ inM y.un 1073741824 ∧ y.fr ≤ y.to
    constructor
    · rintro ⟨a, b, ⟨c, d⟩, ⟨e, f⟩, g⟩; exact ⟨a, b, ⟨c, by omega⟩, ⟨e, f⟩, g, d⟩
    · rintro ⟨a, b, ⟨c, _⟩, ⟨e, f⟩, g, d⟩; exact ⟨a, b, ⟨c, d⟩, ⟨e, f⟩, g⟩
theorem r12_7 (h : y.kind = 7) (hn : numOk y) (hok : ok = true ↔ (y.ref ≥ 1 ∧ y.ref ≤ 65535)) : rightC (ceP y) ↔ (ok = true ∧ ceEq y (cR7 y)) := by
  refine r12_of (E := True) (by rw [h]; rfl) hn ?_ ?_ hok
  · simp [ceEq, cR7, onlyC, ceP, kPl, kRf, kMi, kBo, h, and_assoc, bdZ]
  · rw [fieldsC_7 (y := ceP y) h, and_true]; exact Iff.rfl
theorem r12_8 (h : y.kind = 8) (hn : numOk y) (hok : ok = true ↔ True) : rightC (ceP y) ↔ (ok = true ∧ ceEq y (oD0 y)) := by
  refine r12_of (E := True) (by rw [h]; rfl) hn ?_ ?_ hok
  · simp [ceEq, oD0, onlyC, ceP, kPl, kRf, kMi, kBo, h, and_assoc, bdZ]
  · rw [and_true]
    exact ⟨fun _ => trivial, fun _ => fieldsC_8 (y := ceP y) (show y.kind ≠ 1 by omega) (show y.kind ≠ 2 by omega) (show y.kind ≠ 3 by omega) (show y.kind ≠ 4 by omega) (show y.kind ≠ 5 by omega) (show y.kind ≠ 6 by omega) (show y.kind ≠ 7 by omega)⟩
theorem r12_9 (h1 : y.kind ≠ 1) (h2 : y.kind ≠ 2) (h3 : y.kind ≠ 3) (h4 : y.kind ≠ 4) (h5 : y.kind ≠ 5) (h6 : y.kind ≠ 6) (h7 : y.kind ≠ 7) (h8 : y.kind ≠ 8) : rightC (ceP y) ↔ (false = true ∧ ceEq y (oD0 y)) :=
  r12_no (decide_eq_false (by omega))
theorem okT {F : Prop} {b : Bool} (hb : b = true) (h : F) : b = true ↔ F := ⟨fun _ => h, fun _ => hb⟩
theorem okF {F : Prop} {b : Bool} (hb : b = false) (h : ¬ F) : b = true ↔ F := ⟨fun h => absurd (h.symm.trans hb) (by decide), fun h2 => absurd h2 h⟩
end
/-! ### Numbers at places -/
def gt (bs : List UInt8) (i n : Nat) : Int := getN ((bs.drop i).take n)
def gI (c : Bool) (bs : List UInt8) (i n : Nat) : Int := if c = true then gt bs i n else 0
def cn (c : Bool) (n : Nat) : Nat := if c = true then n else 0
theorem cn_yes {c : Bool} (h : c = true) (n : Nat) : cn c n = n := if_pos h
theorem cn_no {c : Bool} (h : c = false) (n : Nat) : cn c n = 0 := if_neg (by rw [h]; decide)
theorem gI_yes {c : Bool} (h : c = true) (bs : List UInt8) (i n : Nat) : gI c bs i n = getN ((bs.drop i).take n) := if_pos h
theorem gI_no {c : Bool} (h : c = false) (bs : List UInt8) (i n : Nat) : gI c bs i n = 0 := if_neg (by rw [h]; decide)
theorem gt_one {bs : List UInt8} {i : Nat} (h : i < bs.length) : gt bs i 1 = ((bs.getD i 0).toNat : Int) := by
  unfold gt
  rw [getN_take (by rw [List.length_drop]; omega), List.take_zero, drop_getD]
  show 0 * 256 + _ = _
  rw [Nat.add_zero]; omega
theorem gI_one {c : Bool} {bs : List UInt8} {i : Nat} (hc : c = true) (h : i < bs.length) : gI c bs i 1 = ((bs.getD i 0).toNat : Int) := (if_pos hc).trans (gt_one h)
theorem getN_rng {bs : List UInt8} (h : bs.length ≤ 4) : 0 ≤ getN bs ∧ getN bs < 4294967296 := by
  have h0 := getN_bound bs
  have h1 : (256 : Nat) ^ bs.length ≤ 256 ^ 4 := Nat.pow_le_pow_right (by omega) h
  have h2 : ((256 : Int) ^ bs.length) ≤ 4294967296 := by
    have e : ((256 : Int) ^ bs.length) = (((256 : Nat) ^ bs.length : Nat) : Int) := by simp
    rw [e]
    exact Int.ofNat_le.2 h1
  exact ⟨h0.1, Int.lt_of_lt_of_le h0.2 h2⟩
theorem take_rng (l : List UInt8) {n : Nat} (h : n ≤ 4) : 0 ≤ getN (l.take n) ∧ getN (l.take n) < 4294967296 := getN_rng (by rw [List.length_take]; omega)
theorem rd_at {bs : List UInt8} {i n : Nat} (h : i + n ≤ bs.length) : rd n (bs.drop i, false) = (gt bs i n, (bs.drop (i + n), false)) := by
  unfold rd gt
  rw [if_neg (by show ¬ (bs.drop i).length < n; rw [List.length_drop]; omega)]
  show (_, ((bs.drop i).drop n, false)) = _
  rw [List.drop_drop]
theorem rdI_at {c : Bool} {bs : List UInt8} {i n : Nat} (h : i + cn c n ≤ bs.length) : rdI c n (bs.drop i, false) = (gI c bs i n, (bs.drop (i + cn c n), false)) := by
  cases c
  · rfl
  · exact rd_at h
theorem rdI_long {c : Bool} {n : Nat} {st : List UInt8 × Bool} (h : ¬ (rdI c n st).2.2 = true) : (rdI c n st).2.1.length + cn c n = st.1.length := by
  cases c
  · rfl
  · exact (rd_long h).2
section
variable {bs : List UInt8} {k : Int} {n2 n3 n4 n5 : Nat}
theorem cellF_at (hk : k = gt bs 0 1) (h2 : n2 = 7 + cn (kPl k) 4) (h3 : n3 = n2 + cn (kRf k) 2) (h4 : n4 = n3 + cn (kMi k) 12) (h5 : n5 = n4 + cn (kBo k) 1) (hl : n5 ≤ bs.length) {o : List UInt8 × (List UInt8 × Bool)} (ho : o = tkI (kBo k) (gI (kBo k) bs n4 1).toNat (bs.drop n5, false)) :
    cellF bs = (⟨k, gt bs 1 2, gt bs 3 4, gI (kPl k) bs 7 1, gI (kPl k) bs 8 1, gI (kPl k) bs 9 2, gI (kRf k) bs n2 2, gI (kMi k) bs n3 4, gI (kMi k) bs (n3 + 4) 4, gI (kMi k) bs (n3 + 8) 4, o.1⟩, o.2) := by
  have e1 : rd 1 (bs, false) = (k, (bs.drop 1, false)) := by rw [hk]; exact rd_at (i := 0) (by omega)
  have e2 : rd 2 (bs.drop 1, false) = (gt bs 1 2, (bs.drop 3, false)) := rd_at (by omega)
  have e3 : rd 4 (bs.drop 3, false) = (gt bs 3 4, (bs.drop 7, false)) := rd_at (by omega)
  have e4 : ∃ s, rdI (kPl k) 1 (bs.drop 7, false) = (gI (kPl k) bs 7 1, s) ∧ ∃ t, rdI (kPl k) 1 s = (gI (kPl k) bs 8 1, t) ∧ rdI (kPl k) 2 t = (gI (kPl k) bs 9 2, (bs.drop n2, false)) := by
    rw [h2]
    rw [h2] at h3
    cases hp : kPl k
    · exact ⟨_, rfl, _, rfl, rfl⟩
    · rw [hp] at h3
      have e : cn true 4 = 4 := rfl
      rw [e] at h3 ⊢
      exact ⟨_, rd_at (by omega), _, rd_at (by omega), rd_at (by omega)⟩
  obtain ⟨s1, a1, s2, a2, a3⟩ := e4
  have e5 : rdI (kRf k) 2 (bs.drop n2, false) = (gI (kRf k) bs n2 2, (bs.drop n3, false)) := by rw [h3]; exact rdI_at (by omega)
  have e6 : ∃ s, rdI (kMi k) 4 (bs.drop n3, false) = (gI (kMi k) bs n3 4, s) ∧ ∃ t, rdI (kMi k) 4 s = (gI (kMi k) bs (n3 + 4) 4, t) ∧ rdI (kMi k) 4 t = (gI (kMi k) bs (n3 + 8) 4, (bs.drop n4, false)) := by
    rw [h4]
    rw [h4] at h5
    cases hp : kMi k
    · exact ⟨_, rfl, _, rfl, rfl⟩
    · rw [hp] at h5
      have e : cn true 12 = 12 := rfl
      rw [e] at h5 ⊢
      exact ⟨_, rd_at (by omega), _, rd_at (by omega), rd_at (by omega)⟩
  obtain ⟨s3, b1, s4, b2, b3⟩ := e6
  have e7 : rdI (kBo k) 1 (bs.drop n4, false) = (gI (kBo k) bs n4 1, (bs.drop n5, false)) := by rw [h5]; exact rdI_at (by omega)
  unfold cellF
  simp only [e1, e2, e3, a1, a2, a3, e5, b1, b2, b3, e7]
  rw [ho]
theorem cellF_short (hne : bs ≠ []) (hk : k = gt bs 0 1) (h2 : n2 = 7 + cn (kPl k) 4) (h3 : n3 = n2 + cn (kRf k) 2) (h4 : n4 = n3 + cn (kMi k) 12) (h5 : n5 = n4 + cn (kBo k) 1) (hl : bs.length < n5) : (cellF bs).2.2 = true := by
  refine Decidable.byContradiction fun h => ?_
  obtain ⟨a, ha⟩ : ∃ a, a = rd 1 (bs, false) := ⟨_, rfl⟩
  obtain ⟨b, hb⟩ : ∃ b, b = rd 2 a.2 := ⟨_, rfl⟩
  obtain ⟨c, hc⟩ : ∃ c, c = rd 4 b.2 := ⟨_, rfl⟩
  obtain ⟨p1, hp1⟩ : ∃ p, p = rdI (kPl a.1) 1 c.2 := ⟨_, rfl⟩
  obtain ⟨p2, hp2⟩ : ∃ p, p = rdI (kPl a.1) 1 p1.2 := ⟨_, rfl⟩
  obtain ⟨p3, hp3⟩ : ∃ p, p = rdI (kPl a.1) 2 p2.2 := ⟨_, rfl⟩
  obtain ⟨f, hf⟩ : ∃ p, p = rdI (kRf a.1) 2 p3.2 := ⟨_, rfl⟩
  obtain ⟨m1, hm1⟩ : ∃ p, p = rdI (kMi a.1) 4 f.2 := ⟨_, rfl⟩
  obtain ⟨m2, hm2⟩ : ∃ p, p = rdI (kMi a.1) 4 m1.2 := ⟨_, rfl⟩
  obtain ⟨m3, hm3⟩ : ∃ p, p = rdI (kMi a.1) 4 m2.2 := ⟨_, rfl⟩
  obtain ⟨l, hll⟩ : ∃ p, p = rdI (kBo a.1) 1 m3.2 := ⟨_, rfl⟩
  obtain ⟨o, ho⟩ : ∃ p, p = tkI (kBo a.1) l.1.toNat l.2 := ⟨_, rfl⟩
  have hcF : (cellF bs).2 = o.2 := by
    subst ho hll hm3 hm2 hm1 hf hp3 hp2 hp1 hc hb ha
    rfl
  rw [hcF] at h
  have l1 : ¬ l.2.2 = true := fun hx => h (by rw [ho]; exact tkI_short hx)
  have m31 : ¬ m3.2.2 = true := fun hx => l1 (by rw [hll]; exact rdI_short hx)
  have m21 : ¬ m2.2.2 = true := fun hx => m31 (by rw [hm3]; exact rdI_short hx)
  have m11 : ¬ m1.2.2 = true := fun hx => m21 (by rw [hm2]; exact rdI_short hx)
  have f1 : ¬ f.2.2 = true := fun hx => m11 (by rw [hm1]; exact rdI_short hx)
  have p31 : ¬ p3.2.2 = true := fun hx => f1 (by rw [hf]; exact rdI_short hx)
  have p21 : ¬ p2.2.2 = true := fun hx => p31 (by rw [hp3]; exact rdI_short hx)
  have p11 : ¬ p1.2.2 = true := fun hx => p21 (by rw [hp2]; exact rdI_short hx)
  have c1 : ¬ c.2.2 = true := fun hx => p11 (by rw [hp1]; exact rdI_short hx)
  have b1 : ¬ b.2.2 = true := fun hx => c1 (by rw [hc]; exact rd_short hx)
  have a1 : ¬ a.2.2 = true := fun hx => b1 (by rw [hb]; exact rd_short hx)
  have g1 := rd_long (n := 1) (st := (bs, false)) (by rw [← ha]; exact a1)
  have g2 := rd_long (n := 2) (st := a.2) (by rw [← hb]; exact b1)
  have g3 := rd_long (n := 4) (st := b.2) (by rw [← hc]; exact c1)
  have g4 := rdI_long (c := kPl a.1) (n := 1) (st := c.2) (by rw [← hp1]; exact p11)
  have g5 := rdI_long (c := kPl a.1) (n := 1) (st := p1.2) (by rw [← hp2]; exact p21)
  have g6 := rdI_long (c := kPl a.1) (n := 2) (st := p2.2) (by rw [← hp3]; exact p31)
  have g7 := rdI_long (c := kRf a.1) (n := 2) (st := p3.2) (by rw [← hf]; exact f1)
  have g8 := rdI_long (c := kMi a.1) (n := 4) (st := f.2) (by rw [← hm1]; exact m11)
  have g9 := rdI_long (c := kMi a.1) (n := 4) (st := m1.2) (by rw [← hm2]; exact m21)
  have ga := rdI_long (c := kMi a.1) (n := 4) (st := m2.2) (by rw [← hm3]; exact m31)
  have gb := rdI_long (c := kBo a.1) (n := 1) (st := m3.2) (by rw [← hll]; exact l1)
  rw [← ha] at g1
  rw [← hb] at g2
  rw [← hc] at g3
  rw [← hp1] at g4
  rw [← hp2] at g5
  rw [← hp3] at g6
  rw [← hf] at g7
  rw [← hm1] at g8
  rw [← hm2] at g9
  rw [← hm3] at ga
  rw [← hll] at gb
  have g1' : 1 ≤ bs.length ∧ a.2.1.length + 1 = bs.length := g1
  have ek : a.1 = k := by rw [ha, hk]; exact congrArg Prod.fst (rd_at (i := 0) (by have := List.length_pos_iff.2 hne; omega))
  rw [ek] at g4 g5 g6 g7 g8 g9 ga gb
  have q1 : cn (kPl k) 1 + cn (kPl k) 1 + cn (kPl k) 2 = cn (kPl k) 4 := by cases kPl k <;> rfl
  have q2 : cn (kMi k) 4 + cn (kMi k) 4 + cn (kMi k) 4 = cn (kMi k) 12 := by cases kMi k <;> rfl
  omega
end
theorem cn_le (c : Bool) (n : Nat) : cn c n ≤ n := by cases c; exact Nat.zero_le _; exact Nat.le_refl _
section
variable {bs : List UInt8} {k : Int} {n2 n3 n4 n5 kk : Nat}
theorem cellF_body (hk : k = gt bs 0 1) (h2 : n2 = 7 + cn (kPl k) 4) (h3 : n3 = n2 + cn (kRf k) 2) (h4 : n4 = n3 + cn (kMi k) 12) (h5 : n5 = n4 + cn (kBo k) 1) (hl : n5 ≤ bs.length) (hb : kBo k = true) (hkk : kk = (bs.getD n4 0).toNat) :
    (bs.length < n4 + 1 + kk → (cellF bs).2.2 = true) ∧ (n4 + 1 + kk ≤ bs.length → cellF bs = (⟨k, gt bs 1 2, gt bs 3 4, gI (kPl k) bs 7 1, gI (kPl k) bs 8 1, gI (kPl k) bs 9 2, gI (kRf k) bs n2 2, gI (kMi k) bs n3 4, gI (kMi k) bs (n3 + 4) 4, gI (kMi k) bs (n3 + 8) 4, (bs.drop (n4 + 1)).take kk⟩, (bs.drop (n4 + 1 + kk), false))) := by
  have h6 : n5 = n4 + 1 := by rw [h5, cn_yes hb]
  have hg : (gI (kBo k) bs n4 1).toNat = kk := by rw [gI_one hb (by omega), hkk]; exact Int.toNat_natCast _
  have e := cellF_at hk h2 h3 h4 h5 hl rfl
  rw [hg, tkI_yes hb] at e
  subst h6
  refine ⟨fun h => ?_, fun h => ?_⟩
  · have e2 : tk kk (bs.drop (n4 + 1), false) = ([], ([], true)) := if_pos (by show (bs.drop (n4 + 1)).length < kk; rw [List.length_drop]; omega)
    rw [e, e2]
  · have e2 : tk kk (bs.drop (n4 + 1), false) = ((bs.drop (n4 + 1)).take kk, (bs.drop (n4 + 1 + kk), false)) := by
      refine (if_neg (by show ¬ (bs.drop (n4 + 1)).length < kk; rw [List.length_drop]; omega)).trans ?_
      show (_, ((bs.drop (n4 + 1)).drop kk, false)) = _
      rw [List.drop_drop]
    rw [e, e2]
theorem cellF_plain (hk : k = gt bs 0 1) (h2 : n2 = 7 + cn (kPl k) 4) (h3 : n3 = n2 + cn (kRf k) 2) (h4 : n4 = n3 + cn (kMi k) 12) (h5 : n5 = n4 + cn (kBo k) 1) (hl : n5 ≤ bs.length) (hb : kBo k = false) :
    cellF bs = (⟨k, gt bs 1 2, gt bs 3 4, gI (kPl k) bs 7 1, gI (kPl k) bs 8 1, gI (kPl k) bs 9 2, gI (kRf k) bs n2 2, gI (kMi k) bs n3 4, gI (kMi k) bs (n3 + 4) 4, gI (kMi k) bs (n3 + 8) 4, []⟩, (bs.drop n4, false)) := by
  have h6 : n5 = n4 := by rw [h5, cn_no hb]; rfl
  have e := cellF_at hk h2 h3 h4 h5 hl rfl
  rw [tkI_no hb] at e
  rw [e, h6]
end
theorem decF_kind {bs : List UInt8} (hne : bs ≠ []) (h : kOk (gt bs 0 1) = false) : decF bs = none := by
  unfold decF
  have e : (rd 1 (bs, false)).1 = gt bs 0 1 := congrArg Prod.fst (rd_at (i := 0) (by have := List.length_pos_iff.2 hne; omega))
  rw [if_neg hne, e, if_pos h]
theorem decF_short {bs : List UInt8} (hne : bs ≠ []) (h : (cellF bs).2.2 = true) : decF bs = none := by
  unfold decF
  rw [if_neg hne]
  split
  · rfl
  · rfl
theorem decF_wrong {bs : List UInt8} (h : ¬ rightC (cellF bs).1) : decF bs = none := by
  unfold decF
  split
  · rfl
  · split
    · rfl
    · split
      · rfl
      · rfl
theorem decF_yes {bs rest : List UInt8} {c : Cp} (hne : bs ≠ []) (h : cellF bs = (c, (rest, false))) (hr : rightC c) : decF bs = some (c, rest) := by
  have hk : kOk (rd 1 (bs, false)).1 = true := by
    have e : (cellF bs).1.kind = (rd 1 (bs, false)).1 := rfl
    rw [← e, h]; exact hr.1
  unfold decF
  rw [if_neg hne, if_neg (by rw [hk]; decide), h, if_neg (show ¬ false = true from fun h => nomatch h), if_pos hr]
end Go.Er


/-
  The order of what is found, as the document tells: one by one put where it belongs.
-/
namespace Go.Er
open Go
def fbC (y : Fa) : List Value := [.int .i64 y.at_, bdV y.bd]
theorem fbC_length (y : Fa) : (fbC y).length = 2 := rfl
theorem fbC_one (y : Fa) : ∀ v ∈ fbC y, v.oneCell' = true := by
  intro v hv
  simp only [fbC, bdV, List.mem_cons, List.not_mem_nil, or_false] at hv
  rcases hv with rfl | rfl <;> rfl
theorem elFb : Elem fbC 2 := ⟨fbC_length, fbC_one⟩
section
variable {pre post sp : List Value} {ys : List Fa} {y : Fa} {cs : List Ce} {z : Ce} {off i o : Nat}
theorem fb_bd (ho : pre.length = off) (hx : ys[i]? = some y) (he : o = off + i * 2 + 1) : (pre ++ rowC fbC ys ++ post)[o]? = some (bdV y.bd) := by
  rw [row_get elFb pre post ho hx (j := 1) (by omega) he]; rfl
theorem fb_at (ho : pre.length = off) (hx : ys[i]? = some y) (he : o = off + i * 2) : (pre ++ rowC fbC ys ++ post)[o]? = some (.int .i64 y.at_) := by
  rw [row_get elFb pre post ho hx (j := 0) (by omega) he]; rfl
theorem fa_at (ho : pre.length = off) (hx : ys[i]? = some y) (he : o = off + i * 3) : (pre ++ rowC faC ys ++ post)[o]? = some (.int .i64 y.at_) := by
  rw [row_get elFa pre post ho hx (j := 0) (by omega) he]; rfl
theorem ce_num (hx : cs[i]? = some z) (he : o = i * 11 + 1) : (rowC ceC cs ++ sp)[o]? = some (.int .u64 z.num) := by
  have h := row_get elCe [] sp (off := 0) rfl hx (j := 1) (o := o) (by omega) (by omega)
  rw [List.nil_append] at h
  rw [h]; rfl
theorem ce_all (hx : cs[i]? = some z) (he : o = i * 11) : ((rowC ceC cs ++ sp).drop o).take 11 = ceC z := by
  have h := row_td elCe [] sp (off := 0) (o := o) rfl hx (by omega)
  rwa [List.nil_append] at h
end
section
variable {pre post : List Value} {zs : List FrL} {x : FrL} {off i o : Nat}
theorem frw_at (ho : pre.length = off) (hx : zs[i]? = some x) (he : o = off + i * 12) : (pre ++ rowC frC zs ++ post)[o]? = some (.int .i64 x.at_) := by
  rw [row_get elFr pre post ho hx (j := 0) (by omega) he]; rfl
theorem frw_cell (ho : pre.length = off) (hx : zs[i]? = some x) (he : o = off + i * 12 + 1) : ((pre ++ rowC frC zs ++ post).drop o).take 11 = ceC x.c := by
  have h := row_td elFr pre post (o := off + i * 12) ho hx rfl
  have h2 : (frC x).drop 1 = ceC x.c := rfl
  rw [← h2, ← h, List.drop_take, List.drop_drop, he]
end
theorem RdK.cut {w : World} {a : Option Addr} {c : Nat} {rs : List UInt8} (h : RdK w a (rs, false) c) (n : Nat) : RdK w (cutA a 1 c n) (rs.drop n, false) (c - n) := by
  obtain ⟨h1, h2, h3⟩ := h
  have h2 : rs.length ≤ c := h2
  have h3 : rs.length ≤ 1000000 := h3
  refine ⟨brow_drop h1 h2 n, ?_, ?_⟩
  · show (rs.drop n).length ≤ _; rw [List.length_drop]; omega
  · show (rs.drop n).length ≤ _; rw [List.length_drop]; omega
section
variable {α : Type} {f : α → List Value} {sz : Nat} {P : Program} {w : World} {a : Option Addr} {xs : List α} {c j : Nat}
theorem row_take_src (he : Elem f sz) (h : RRow f w a xs) (hj : j ≤ xs.length) (c : Nat) : Src P w sz (.slice (cutA a sz c 0) j c) j (rowC f (xs.take j)) := by
  have h2 := RRow.src (P := P) he (rrow_take (sz := sz) h j c) c
  rwa [List.length_take, Nat.min_eq_left hj] at h2
theorem row_drop_src (he : Elem f sz) (h : RRow f w a xs) (hc : xs.length ≤ c) (j c' : Nat) : Src P w sz (.slice (cutA a sz c j) (xs.length - j) c') (xs.length - j) (rowC f (xs.drop j)) := by
  have h2 := RRow.src (P := P) he (rrow_drop he h hc j) c'
  rwa [List.length_drop] at h2
theorem row_drop2_src (he : Elem f sz) (h : RRow f w a xs) (hc : xs.length ≤ c) (j c' : Nat) : Src P w sz (.slice (cutA (cutA a sz c j) sz (c - j) 1) (xs.length - j - 1) c') (xs.length - j - 1) (rowC f (xs.drop (j + 1))) := by
  have h2 := row_drop_src (P := P) he (rrow_drop he h hc j) (c := c - j) (by rw [List.length_drop]; omega) 1 c'
  rwa [List.length_drop, List.drop_drop] at h2
theorem take_all {Q : α → Prop} {x : α} (h : ∀ q ∈ xs.take j, Q q) (hx : xs[j]? = some x) (hQ : Q x) : ∀ q ∈ xs.take (j + 1), Q q := by
  intro q hq
  rw [List.take_add_one, hx] at hq
  rcases List.mem_append.1 hq with hq | hq
  · exact h q hq
  · rw [List.mem_singleton.1 hq]; exact hQ
theorem ins_mem {q y : α} {k : Nat} (h : q ∈ xs.take j ++ y :: xs.drop k) : q = y ∨ q ∈ xs := by
  rcases List.mem_append.1 h with h | h
  · exact .inr (List.mem_of_mem_take h)
  · rcases List.mem_cons.1 h with h | h
    · exact .inl h
    · exact .inr (List.mem_of_mem_drop h)
end
theorem OrdI.nil : OrdI [] [] := ⟨.nil, fun _ => ⟨fun h => (nomatch h), fun h => absurd h LastW.nil⟩⟩
theorem ordI_ins {os pre r : List FrL} {l : List EnR} {f : FrL} (h : OrdI os l) (hos : os = pre ++ r ∨ ∃ x, os = pre ++ x :: r ∧ x.c.num = f.c.num) (hp : ∀ x ∈ pre, x.c.num < f.c.num) (hr : ∀ x ∈ r, f.c.num < x.c.num) : OrdI (pre ++ f :: r) (l ++ [frP f]) := by
  obtain ⟨hs, hm⟩ := h
  unfold SrtE at hs
  rw [List.pairwise_map] at hs
  have hin : ∀ p, p ∈ os → p ∈ pre ∨ p.c.num = f.c.num ∨ p ∈ r := by
    intro p hpo
    rcases hos with rfl | ⟨x, rfl, hx⟩
    · rcases List.mem_append.1 hpo with h | h
      · exact .inl h
      · exact .inr (.inr h)
    · rcases List.mem_append.1 hpo with h | h
      · exact .inl h
      · rcases List.mem_cons.1 h with rfl | h
        · exact .inr (.inl hx)
        · exact .inr (.inr h)
  have hip : ∀ p, p ∈ pre → p ∈ os := fun p hp => by
    rcases hos with rfl | ⟨x, rfl, _⟩ <;> exact List.mem_append_left _ hp
  have hir : ∀ p, p ∈ r → p ∈ os := fun p hp => by
    rcases hos with rfl | ⟨x, rfl, _⟩
    · exact List.mem_append_right _ hp
    · exact List.mem_append_right _ (List.mem_cons_of_mem _ hp)
  have hsub : (pre ++ r).Sublist os := by
    rcases hos with rfl | ⟨x, rfl, _⟩
    · exact List.Sublist.refl _
    · exact (List.Sublist.refl _).append (.cons _ (List.Sublist.refl _))
  have hs2 := hs.sublist hsub
  obtain ⟨a1, a2, _⟩ := List.pairwise_append.1 hs2
  constructor
  · unfold SrtE
    rw [List.pairwise_map, List.pairwise_append]
    refine ⟨a1, List.pairwise_cons.2 ⟨fun x hx => hr x hx, a2⟩, fun p hpp q hq => ?_⟩
    have h1 := hp p hpp
    rcases List.mem_cons.1 hq with rfl | hq
    · exact h1
    · exact Int.lt_trans h1 (hr q hq)
  · intro p
    rw [lastW_snoc, ← hm p, List.mem_map, List.mem_map]
    constructor
    · rintro ⟨q, hq, rfl⟩
      rcases List.mem_append.1 hq with hq | hq
      · have := hp q hq
        exact .inr ⟨⟨q, hip q hq, rfl⟩, by show q.c.num ≠ f.c.num; omega⟩
      · rcases List.mem_cons.1 hq with rfl | hq
        · exact .inl rfl
        · have := hr q hq
          exact .inr ⟨⟨q, hir q hq, rfl⟩, by show q.c.num ≠ f.c.num; omega⟩
    · rintro (rfl | ⟨⟨q, hq, rfl⟩, hn⟩)
      · exact ⟨f, List.mem_append_right _ List.mem_cons_self, rfl⟩
      · rcases hin q hq with h | h | h
        · exact ⟨q, List.mem_append_left _ h, rfl⟩
        · exact absurd h hn
        · exact ⟨q, List.mem_append_right _ (List.mem_cons_of_mem _ h), rfl⟩
theorem ord_behind {os : List FrL} {l : List EnR} {x : FrL} {j : Nat} (h : OrdI os l) (hx : os[j]? = some x) : ∀ q ∈ os.drop (j + 1), x.c.num < q.c.num := by
  intro q hq
  obtain ⟨i, hi, e⟩ := List.getElem_of_mem hq
  rw [List.getElem_drop] at e
  rw [List.length_drop] at hi
  exact srtE_get h.1 hx (List.getElem?_eq_some_iff.2 ⟨by omega, e⟩) (by omega)
theorem drop_at {os : List FrL} {x : FrL} {j : Nat} (hx : os[j]? = some x) : os.drop j = x :: os.drop (j + 1) := by
  obtain ⟨h, e⟩ := List.getElem?_eq_some_iff.1 hx
  rw [← e]
  exact List.drop_eq_getElem_cons h
theorem ordI_at {os : List FrL} {l : List EnR} {f : FrL} {j : Nat} (h : OrdI os l) (hp : ∀ x ∈ os.take j, x.c.num < f.c.num) (hr : ∀ x, os[j]? = some x → f.c.num < x.c.num) : OrdI (os.take j ++ f :: os.drop j) (l ++ [frP f]) := by
  refine ordI_ins h (.inl (List.take_append_drop j os).symm) hp fun q hq => ?_
  rcases Nat.lt_or_ge j os.length with hj | hj
  · obtain ⟨x, hx⟩ : ∃ x, os[j]? = some x := ⟨_, List.getElem?_eq_getElem hj⟩
    rw [drop_at hx] at hq
    have h1 := hr x hx
    rcases List.mem_cons.1 hq with rfl | hq
    · exact h1
    · exact Int.lt_trans h1 (ord_behind h hx q hq)
  · rw [List.drop_eq_nil_of_le hj] at hq
    exact nomatch hq
theorem ordI_eq {os : List FrL} {l : List EnR} {f x : FrL} {j : Nat} (h : OrdI os l) (hp : ∀ x ∈ os.take j, x.c.num < f.c.num) (hx : os[j]? = some x) (he : x.c.num = f.c.num) : OrdI (os.take j ++ f :: os.drop (j + 1)) (l ++ [frP f]) := by
  refine ordI_ins h (.inr ⟨x, ?_, he⟩) hp fun q hq => ?_
  · rw [← drop_at hx, List.take_append_drop]
  · rw [← he]; exact ord_behind h hx q hq
/-- two orders of the same are the same -/
theorem OrdI.same {xs ys : List FrL} {l : List EnR} (hx : OrdI xs l) (hy : OrdI ys l) : xs.map frP = ys.map frP :=
  SrtE.same hx.1 hy.1 fun p => by rw [hx.2 p, hy.2 p]
theorem frP_same {xs ys : List FrL} (h : xs.map frP = ys.map frP) {i : Nat} {x y : FrL} (hx : xs[i]? = some x) (hy : ys[i]? = some y) : x.at_ = y.at_ ∧ ceEq x.c y.c := by
  have e : (xs.map frP)[i]? = (ys.map frP)[i]? := by rw [h]
  rw [List.getElem?_map, List.getElem?_map, hx, hy] at e
  injection e with e
  exact ⟨congrArg Prod.fst e, ceP_eq.1 (congrArg Prod.snd e)⟩
end Go.Er

