import Derived.Test.YtbjalofmamoffaaPV1
/-
  The document's log; what is done to a log; a rig.
-/
namespace Go.Er
open Go
/-! ### The document's log -/
def xrC (z h s k : Int) (a : Option Addr) (n c : Nat) : List Value := [.int .i64 z, .int .i64 h, .int .i64 s, .slice a n c, .int .u64 k]
def xrL (x : LS) (a : Option Addr) (c : Nat) : List Value := xrC x.z x.head x.slot x.known a x.gens.length c
theorem xrC_length (z h s k : Int) (a : Option Addr) (n c : Nat) : (xrC z h s k a n c).length = 5 := rfl
theorem xrC_td (z h s k : Int) (a : Option Addr) (n c : Nat) : ((xrC z h s k a n c).drop 0).take 5 = xrC z h s k a n c := rfl
theorem xrC_one (z h s k : Int) (a : Option Addr) (n c : Nat) : ∀ v ∈ xrC z h s k a n c, v.oneCell' = true := by
  intro v hv
  simp only [xrC, List.mem_cons, List.not_mem_nil, or_false] at hv
  rcases hv with rfl | rfl | rfl | rfl | rfl <;> rfl
theorem xrC_sp {z h s k z' h' s' k' : Int} {a a' : Option Addr} {n c n' c' : Nat} : splice (xrC z h s k a n c) 0 (xrC z' h' s' k' a' n' c') = xrC z' h' s' k' a' n' c' := rfl
theorem xrC_sp0 {l : List Value} {z h s k : Int} {a : Option Addr} {n c : Nat} (hl : l.length = 5) : splice l 0 (xrC z h s k a n c) = xrC z h s k a n c := splice_all (by rw [hl, xrC_length])
theorem xrL_length (x : LS) (a : Option Addr) (c : Nat) : (xrL x a c).length = 5 := rfl
theorem xrL_td (x : LS) (a : Option Addr) (c : Nat) : ((xrL x a c).drop 0).take 5 = xrL x a c := rfl
theorem xrL_one (x : LS) (a : Option Addr) (c : Nat) : ∀ v ∈ xrL x a c, v.oneCell' = true := xrC_one _ _ _ _ _ _ _
theorem xrL_sp (x y : LS) (a b : Option Addr) (c e : Nat) : splice (xrL x a c) 0 (xrL y b e) = xrL y b e := rfl
theorem RowN.urowM {w0 w : World} {X : List Nat} {L : List (Nat × Obj)} {E : TypeId} {ns : List Int} {n : Nat} {a : Option Addr} {cap : Nat} {N : List (Nat × Obj)} (h : RowN 1 E (uC ns) n a cap N) (H : St w0 X w L) (hs : ∀ p ∈ N, p ∈ L) : URow w a ns := by
  intro hx
  obtain ⟨hl, _, ⟨rfl, _⟩ | ⟨b, sp, rfl, _, rfl⟩⟩ := h
  · rw [uC_length] at hl; omega
  · exact ⟨b, 0, [], sp, E, (0, 0), rfl, H.own (b, _) (hs _ (List.mem_singleton.2 rfl)), rfl⟩
theorem RowN.own1 {E : TypeId} {ns : List Int} {a : Option Addr} {cap : Nat} {N : List (Nat × Obj)} (h : RowN 1 E (uC ns) ns.length a cap N) (h0 : 0 < ns.length) : ∃ b sp, a = Option.some ⟨b, 0, none⟩ ∧ N = [(b, .cells (uC ns ++ sp).toArray E (0, 0))] ∧ ns.length ≤ cap ∧ cap ≤ ns.length + sp.length := by
  obtain ⟨_, hc, ⟨h1, _⟩ | ⟨b, sp, rfl, hcap, rfl⟩⟩ := h
  · omega
  · refine ⟨b, sp, rfl, rfl, hc, ?_⟩
    rw [Nat.mul_one, List.length_append, uC_length] at hcap
    exact hcap
theorem RowN.mk1 {E : TypeId} {ns : List Int} {b cap : Nat} {sp : List Value} (h1 : ns.length ≤ cap) (h : cap ≤ ns.length + sp.length) : RowN 1 E (uC ns) ns.length (Option.some ⟨b, 0, none⟩) cap [(b, .cells (uC ns ++ sp).toArray E (0, 0))] :=
  ⟨by rw [uC_length, Nat.mul_one], h1, .inr ⟨b, sp, rfl, by rw [Nat.mul_one, List.length_append, uC_length]; exact h, rfl⟩⟩
theorem uC_setA (ns : List Int) (sp : List Value) (i : Nat) (x : Int) {o : Nat} (hi : i < ns.length) (ho : o = i) : (uC ns ++ sp).set o (.int .u64 x) = uC (ns.set i x) ++ sp := by
  subst ho
  rw [List.set_append_left _ _ (by rw [uC_length]; exact hi)]
  unfold uC; rw [List.map_set]
theorem uC_atA (ns : List Int) (sp : List Value) {i o : Nat} (hi : i < ns.length) (ho : o = i) : (uC ns ++ sp)[o]? = some (.int .u64 (ns.getD i 0)) := by
  rw [List.getElem?_append_left (by rw [uC_length]; omega)]
  exact uC_at ns hi ho
/-! ### What is appended -/
def refAt (r : LS × Int × Int) : Int := if r.2.2 = 0 then r.2.1 else -1
theorem putL_same {x : LS} (hF : LogF x) (h0 : 0 ≤ x.head) (body : List UInt8) : (putL x x.head x.slot (x.gens.getD x.head.toNat 0) body).gens = x.gens ∧ (putL x x.head x.slot (x.gens.getD x.head.toNat 0) body).known = x.known := by
  have hi : x.head.toNat < x.gens.length := by have := hF.gl; have := hF.h.2; omega
  refine ⟨?_, ?_⟩
  · show x.gens.set x.head.toNat (x.gens.getD x.head.toNat 0) = x.gens
    rw [List.getD_eq_getElem?_getD, List.getElem?_eq_getElem hi]
    exact List.set_getElem_self hi
  · show (if _ then _ else _) = _
    rw [if_neg]
    have := hF.kg _ (getD_mem (ns := x.gens) (i := x.head.toNat) hi)
    omega
theorem firstZ_rng {x : LS} (hF : LogF x) : firstZ x.gens < x.g := by
  have := hF.gl; have := hF.g0
  rcases firstZ_cases x.gens with ⟨e, _⟩ | ⟨i, hi, e, _⟩ <;> omega
theorem appL_cases {x : LS} (hF : LogF x) {body : List UInt8} (hb : body.length ≤ 103) :
    (appL x body = (x, 0, 6)) ∨ ∃ s t gn, 0 ≤ s ∧ s < x.g ∧ 0 ≤ t ∧ t < x.z ∧ 0 ≤ gn ∧ gn ≤ x.known + 1 ∧ appL x body = (putL x s t gn body, 2 + s * x.z + t, 0) := by
  unfold appL
  rw [if_neg (by omega)]
  have hk := hF.k
  split
  · rename_i h
    have hi : x.head.toNat < x.gens.length := by have := hF.gl; have := hF.h.2; omega
    refine .inr ⟨x.head, x.slot, x.gens.getD x.head.toNat 0, h.1, hF.h.2, hF.s.1, h.2, (hF.u.get hi).1, ?_, rfl⟩
    have := hF.kg _ (getD_mem (ns := x.gens) (i := x.head.toNat) hi)
    omega
  · split
    · rename_i h
      have := hF.z0
      exact .inr ⟨firstZ x.gens, 0, x.known + 1, h, firstZ_rng hF, Int.le_refl _, by omega, by omega, Int.le_refl _, rfl⟩
    · exact .inl rfl
/-! ### Bytes referred to -/
structure Bd where
  a : Option Addr
  b : List UInt8
  c : Nat
def bdV (y : Bd) : Value := .slice y.a y.b.length y.c
def bdZ : Bd := ⟨none, [], 0⟩
def bdR (ys : List Bd) : List Value := ys.map bdV
theorem bdR_length (ys : List Bd) : (bdR ys).length = ys.length := by simp [bdR]
theorem bdR_at (ys : List Bd) {i o : Nat} (hi : i < ys.length) (ho : o = i) : (bdR ys)[o]? = some (bdV (ys.getD i bdZ)) := by
  subst ho; simp [bdR, List.getD_eq_getElem?_getD, hi]
theorem bdR_set (ys : List Bd) (i : Nat) (y : Bd) {o : Nat} (ho : o = i) : (bdR ys).set o (bdV y) = bdR (ys.set i y) := by
  subst ho; unfold bdR; rw [List.map_set]
theorem getD_set {α : Type} (xs : List α) (i j : Nat) (x d : α) (hi : i < xs.length) : (xs.set i x).getD j d = if i = j then x else xs.getD j d := by
  rw [List.getD_eq_getElem?_getD, List.getD_eq_getElem?_getD, List.getElem?_set]
  by_cases h : i = j
  · subst h; rw [if_pos rfl, if_pos hi, if_pos rfl]; rfl
  · rw [if_neg h, if_neg h]
structure DoL where
  kind : Int
  n : Int
  body : Bd
def doC (y : DoL) : List Value := [.int .u8 y.kind, .int .u8 y.n, bdV y.body]
theorem elDo : Elem doC 3 := ⟨fun _ => rfl, fun y v hv => by
  simp only [doC, bdV, List.mem_cons, List.not_mem_nil, or_false] at hv
  rcases hv with rfl | rfl | rfl <;> rfl⟩
def doZ : DoL := ⟨0, 0, bdZ⟩
def dl (ys : List DoL) (i : Nat) : DoL := ys.getD i doZ
theorem dl_get {ys : List DoL} {i : Nat} (h : i < ys.length) : ys[i]? = some (dl ys i) := by
  unfold dl; rw [List.getD_eq_getElem?_getD, List.getElem?_eq_getElem h]; rfl
theorem dl_mem {ys : List DoL} {i : Nat} (h : i < ys.length) : dl ys i ∈ ys := List.mem_of_getElem? (dl_get h)
theorem doC_length (y : DoL) : (doC y).length = 3 := rfl
theorem doC_td (y : DoL) : ((doC y).drop 0).take 3 = doC y := rfl
theorem doC_sp (x y : DoL) : splice (doC x) 0 (doC y) = doC y := rfl
/-! ### A rig -/
def rigC (p a b m l : Option Addr) (g z : Int) : List Value := [.pointer p, .pointer a, .pointer b, .pointer m, .pointer l, .int .i64 g, .int .i64 z]
theorem rigC_length (p a b m l : Option Addr) (g z : Int) : (rigC p a b m l g z).length = 7 := rfl
theorem rigC_td (p a b m l : Option Addr) (g z : Int) : ((rigC p a b m l g z).drop 0).take 7 = rigC p a b m l g z := rfl
theorem rigC_sh (p a b m l : Option Addr) (g z : Int) : ((rigC p a b m l g z).drop (0 + 5)).take 2 = shC g z := rfl
theorem rigC_one (p a b m l : Option Addr) (g z : Int) : ∀ v ∈ rigC p a b m l g z, v.oneCell' = true := by
  intro v hv
  simp only [rigC, List.mem_cons, List.not_mem_nil, or_false] at hv
  rcases hv with rfl | rfl | rfl | rfl | rfl | rfl | rfl <;> rfl
theorem rigC_sp {p a b m l p' a' b' m' l' : Option Addr} {g z g' z' : Int} : splice (rigC p a b m l g z) 0 (rigC p' a' b' m' l' g' z') = rigC p' a' b' m' l' g' z' := rfl
/-- a log of which nothing is used -/
def newL (g z : Int) : LS := ⟨List.replicate (2 + g * z).toNat zS, List.replicate g.toNat 0, -1, 0, 0, g, z⟩
theorem newL_F {g z : Int} (h0 : 3 ≤ g) (h1 : g ≤ 64) (h2 : 1 ≤ z) (h3 : z ≤ 32) : LogF (newL g z) := by
  have hgz := gz_rng (g := g) (z := z) (by omega) h1 (by omega) h3
  refine ⟨h0, h1, h2, h3, ?_, ?_, ?_, ⟨Int.le_refl _, by show -1 < g; omega⟩, ⟨Int.le_refl _, by show 0 ≤ z; omega⟩, ⟨Int.le_refl _, by show (0 : Int) < _; decide⟩, ?_⟩
  · show ((List.replicate g.toNat (0 : Int)).length : Int) = g
    rw [List.length_replicate]; omega
  · show 2 + g * z ≤ ((List.replicate (2 + g * z).toNat zS).length : Int)
    rw [List.length_replicate]; omega
  · intro n hn; rw [List.eq_of_mem_replicate hn]; exact ⟨Int.le_refl _, by decide⟩
  · intro n hn; rw [List.eq_of_mem_replicate hn]; exact Int.le_refl _
/-! ### What was appended at the places -/
def PL (C : List Sec) (k : Int) (gs : List Int) (bs : List Bd) (at_ : Nat) : Prop :=
  (sd C at_ = zS ∧ gs.getD at_ 0 = 0) ∨ (0 ≤ gs.getD at_ 0 ∧ gs.getD at_ 0 ≤ k ∧ (bs.getD at_ bdZ).b.length ≤ 103 ∧ sd C at_ = sealS (at_ : Nat) (gs.getD at_ 0) (bs.getD at_ bdZ).b)
theorem PL.new {C : List Sec} {k : Int} {gs : List Int} {bs : List Bd} {at_ : Nat} (h : sd C at_ = zS) (h2 : gs.getD at_ 0 = 0) : PL C k gs bs at_ := .inl ⟨h, h2⟩
theorem PL.mono {C : List Sec} {k k' : Int} {gs : List Int} {bs : List Bd} {at_ : Nat} (h : PL C k gs bs at_) (hk : k ≤ k') : PL C k' gs bs at_ := by
  rcases h with h | ⟨a, b, c⟩
  · exact .inl h
  · exact .inr ⟨a, by omega, c⟩
theorem PL.put {C : List Sec} {k k' : Int} {gs : List Int} {bs : List Bd} {at_ n : Nat} {gn : Int} {y : Bd} (h : PL C k gs bs at_) (hk : k ≤ k') (hn : n < C.length) (hg : n < gs.length) (hb : n < bs.length) (h0 : 0 ≤ gn) (h1 : gn ≤ k') (hy : y.b.length ≤ 103) :
    PL (C.set n (sealS (n : Nat) gn y.b)) k' (gs.set n gn) (bs.set n y) at_ := by
  unfold PL
  rw [sd_set hn, getD_set _ _ _ _ _ hg, getD_set _ _ _ _ _ hb]
  by_cases e : n = at_
  · subst e
    rw [if_pos rfl, if_pos rfl, if_pos rfl]
    exact .inr ⟨h0, h1, hy, rfl⟩
  · rw [if_neg e, if_neg e, if_neg e]
    exact h.mono hk
/-- what a reading finds is what was appended, just if the generations are one -/
theorem PL.read {C : List Sec} {k : Int} {gs : List Int} {bs : List Bd} {at_ : Nat} {gn : Int} (h : PL C k gs bs at_) (hk : k < 1000000000) (hg : gn ≠ 0) :
    (gs.getD at_ 0 = gn → Sealed (at_ : Nat) (sd C at_) ∧ genU (sd C at_) = gn ∧ bodyU (sd C at_) = (bs.getD at_ bdZ).b) ∧ (gs.getD at_ 0 ≠ gn → ¬ (Sealed (at_ : Nat) (sd C at_) ∧ genU (sd C at_) = gn)) := by
  rcases h with ⟨h1, h2⟩ | ⟨h0, h1, h2, h3⟩
  · refine ⟨fun h => absurd (h.symm.trans h2) hg, fun _ h => hg ?_⟩
    rw [← h.2, h1]; exact zero_gen
  · have e := seal_gen (at_ := (at_ : Nat)) h2 (gen := gs.getD at_ 0) h0 (by omega)
    refine ⟨fun h => ⟨?_, ?_, ?_⟩, fun h hs => h ?_⟩
    · rw [h3]; exact seal_ok h2 h0 (by omega)
    · rw [h3, e]; exact h
    · rw [h3]; exact seal_body h2
    · rw [← e, ← h3]; exact hs.2
/-! ### Small words -/
section
variable {P : Program} {w0 w : World} {X : List Nat} {L : List (Nat × Obj)} {l : Fr} {d : Option Tmp} {ty : TypeId} {pos : String} {after : Array Edge} {g : Option (Nat × Bool)} {x y : Operand} {T T' E : TypeId} {b : Nat} {a : Option Addr}
theorem r_textB {c : Nat} {bs : List UInt8} (hu : Und P T (.slice E)) (hu' : Und P T' .string) (he : Und P E (.int .u8)) (hx : evl l x = .slice a bs.length c) (hr : BRow w a bs) : (execOp (evl l) ⟨d, .convert T T' x, ty, pos, after, g⟩).run P w = .ok (.value (.string (bytesS bs))) w := by
  rcases Nat.eq_zero_or_pos bs.length with hz | hp
  · have : bs = [] := List.length_eq_zero_iff.1 hz
    subst this
    cases a with
    | none => exact r_text0 hu hu' he hx
    | some a =>
      have h2 := run_bytesToString (P := P) w a 0 c [] rfl
      rw [List.foldl_nil] at h2
      have hx' : evl l x = .slice (some a) 0 c := hx
      have e2 : ByteArray.empty = bytesS [] := rfl
      rw [e2] at h2
      simp [execOp, convert, hx', hu w, hu' w, he w, h2]
  · exact r_textR hu hu' he hx hp hr
theorem r_neqT {s t : List UInt8} {T'' : TypeId} (hx : evl l x = .string (bytesS s)) (hy : evl l y = .string (bytesS t)) : (execOp (evl l) ⟨d, .binOp .neq T x y T'', ty, pos, after, g⟩).run P w = .ok (.value (.bool (decide (s ≠ t)))) w := by
  have e : ((bytesS s).toList == (bytesS t).toList) = decide (s = t) := by rw [bytesS_toList, bytesS_toList]; rw [Bool.eq_iff_iff]; simp
  simp only [execOp, hx, hy, eqGuard, binOp, Op.stringOp, e]
  simp
theorem m_mark {n c k : Nat} {cs : List Value} {F : TypeId} (H : St w0 X w L) (hk : L[k]? = some (b, .cells cs.toArray F (0, 0))) (hu : Und P T (.slice E)) (he : Und P E (.int .u8)) (hx : evl l x = .slice (some ⟨b, 0, none⟩) n c) :
    ∃ v w', (execOp (evl l) ⟨d, .convert T T x, ty, pos, after, g⟩).run P w = .ok (.value v) w' ∧ (v = .slice (some ⟨b, 0, none⟩) n c ∧ St w0 X w' (L.set k (b, .cells cs.toArray F (cs.length, cs.length + 1)))) := by
  have hb := H.at k hk
  refine ⟨_, w.freeze ⟨b, cs.length, none⟩ 1, ?_, rfl, H.put k hk ?_ ?_ ?_ ?_ ?_ ?_ ?_⟩
  · have hs : w.shape? b = some (F, cs.length) := by simp [World.shape?, hb]
    simp [execOp, convert, hx, hu w, he w, markStringish, hs]
  · rfl
  · rfl
  · rfl
  · rfl
  · simp [World.freeze]
  · simp [World.freeze, Array.getElem?_modify, hb]
  · intro c hc
    simp [World.freeze, Array.getElem?_modify, Ne.symm hc]
end
/-! ### A region whose kept state has what is not known -/
theorem St.one {w0 w : World} {X : List Nat} {L : List (Nat × Obj)} (H : St w0 X w L) (k : Nat) {b : Nat} {o : Obj} (hk : L[k]? = some (b, o)) : St w0 X w [(b, o)] :=
  H.sub (List.singleton_sublist.2 (List.mem_of_getElem? hk))
theorem d_beginS {P : Program} {Q : Exit → Act → World → Prop} {w0 w : World} {X : List Nat} {L : List (Nat × Obj)} {l : List Value} {ops : List Oper} {n : Nat} (S : World → Prop) {id sz : Nat} (hz : l.length = sz ∧ Nat.ble sz 1000 = true) (hm : P.follows .mixedOrders = true) (H : St w0 X w L) (_ : S w) (hn : ops.length = n)
    (h : ∀ w, St w0 X w L → RG P ops Q S n (List.replicate n false) ⟨[], l, sz, hz⟩ w) : (Code.region id ops.toArray true).wp P Q ⟨l.toArray, []⟩ w := by
  refine wp_region_held (S := S) hm ?_
  have h' := h { w with drawn := w.drawn + 1 } (H.drew (Nat.le_succ _))
  subst hn
  unfold RG at h'
  rw [Fr.all_nil] at h'
  simpa using h'
theorem xrL_sp0 (y : LS) (a b : Option Addr) (c e : Nat) : splice (xrC 0 0 0 0 a 0 c) 0 (xrL y b e) = xrL y b e := rfl
/-! ### The example -/
def litZ : List Value := (List.replicate 32 (.int .u8 0)) ++ (.int .u64 0 :: List.replicate 32 (.int .u8 0))
def awL : Nat → LS
  | 0 => newL 4 2
  | i + 1 => (appL (awL i) [97]).1
def awA : Nat → Int
  | 0 => 0
  | i + 1 => (appL (awL i) [97]).2.1
theorem aw0 : appL (newL 4 2) [97] = (putL (newL 4 2) 0 0 1 [97], 2, 0) := by
  unfold appL
  rw [if_neg (by decide), if_neg (by decide), if_pos (by decide)]
  rfl
theorem aw1 : appL (putL (newL 4 2) 0 0 1 [97]) [97] = (putL (putL (newL 4 2) 0 0 1 [97]) 0 1 1 [97], 3, 0) := by
  unfold appL
  rw [if_neg (by decide), if_pos (by decide)]
  rfl
def aw2L : LS := putL (putL (newL 4 2) 0 0 1 [97]) 0 1 1 [97]
theorem aw2 : appL aw2L [97] = (putL aw2L 1 0 2 [97], 4, 0) := by
  unfold appL
  rw [if_neg (by decide), if_neg (by decide), if_pos (by decide)]
  rfl
def aw3L : LS := putL aw2L 1 0 2 [97]
theorem awL3 : awL 3 = aw3L := by
  show (appL (appL (appL (newL 4 2) [97]).1 [97]).1 [97]).1 = _
  rw [aw0]; show (appL (appL (putL (newL 4 2) 0 0 1 [97]) [97]).1 [97]).1 = _
  rw [aw1]; show (appL aw2L [97]).1 = _
  rw [aw2]; rfl
theorem awA3 : awA 3 = 4 := by
  show (appL (appL (appL (newL 4 2) [97]).1 [97]).1 [97]).2.1 = _
  rw [aw0]; show (appL (appL (putL (newL 4 2) 0 0 1 [97]) [97]).1 [97]).2.1 = _
  rw [aw1]; show (appL aw2L [97]).2.1 = _
  rw [aw2]
theorem aw_ok {i : Nat} (hi : i < 3) : (appL (awL i) [97]).2.2 = 0 := by
  obtain rfl | rfl | rfl : i = 0 ∨ i = 1 ∨ i = 2 := by omega
  · show (appL (newL 4 2) [97]).2.2 = 0
    rw [aw0]
  · show (appL (appL (newL 4 2) [97]).1 [97]).2.2 = 0
    rw [aw0]; show (appL (putL (newL 4 2) 0 0 1 [97]) [97]).2.2 = 0
    rw [aw1]
  · show (appL (appL (appL (newL 4 2) [97]).1 [97]).1 [97]).2.2 = 0
    rw [aw0]; show (appL (appL (putL (newL 4 2) 0 0 1 [97]) [97]).1 [97]).2.2 = 0
    rw [aw1]; show (appL aw2L [97]).2.2 = 0
    rw [aw2]
theorem aw_known {i : Nat} (hi : i < 3) : (awL i).known ≤ 3 := by
  obtain rfl | rfl | rfl : i = 0 ∨ i = 1 ∨ i = 2 := by omega
  · show (newL 4 2).known ≤ 3; decide
  · show (appL (newL 4 2) [97]).1.known ≤ 3
    rw [aw0]; decide
  · show (appL (appL (newL 4 2) [97]).1 [97]).1.known ≤ 3
    rw [aw0]; show (appL (putL (newL 4 2) 0 0 1 [97]) [97]).1.known ≤ 3
    rw [aw1]; decide
theorem aw3_g : aw3L.g = 4 ∧ aw3L.z = 2 ∧ aw3L.head = 1 ∧ aw3L.slot = 1 ∧ aw3L.gens = [1, 2, 0, 0] := ⟨rfl, rfl, rfl, rfl, rfl⟩
theorem aw3_C : sd aw3L.C 4 = sealS 4 2 [97] := by
  have e : aw3L.C = aw2L.C.set 4 (sealS 4 2 [97]) := rfl
  rw [e, sd_set, if_pos rfl]
  show 4 < ((((List.replicate 10 zS).set 2 _).set 3 _)).length
  rw [List.length_set, List.length_set, List.length_replicate]
  decide
theorem aw3_room : room aw3L = 5 := by decide
section
variable {w0 w : World} {X : List Nat} {x y a b c d e f p : Nat × Obj} {A B C T : List (Nat × Obj)}
theorem St.trMade (H : St w0 X w (x :: y :: (A ++ (B ++ (p :: C))))) : St w0 X w (x :: y :: p :: (A ++ B)) := by
  refine (H.sub (L' := x :: y :: (A ++ (B ++ [p]))) (.cons_cons _ (.cons_cons _ ((List.Sublist.refl _).append ((List.Sublist.refl _).append (.cons_cons _ (List.nil_sublist _))))))).perm (.cons _ (.cons _ ?_))
  rw [← List.append_assoc]
  exact (List.perm_append_comm (l₁ := [p]))
theorem St.trMir (H : St w0 X w ([a, b, c] ++ (d :: e :: f :: p :: T))) : St w0 X w (e :: f :: a :: c :: b :: d :: p :: T) :=
  ((((((((H.swp 3 (L' := a :: b :: c :: e :: d :: f :: p :: T) rfl).swp 2 (L' := a :: b :: e :: c :: d :: f :: p :: T) rfl).swp 1 (L' := a :: e :: b :: c :: d :: f :: p :: T) rfl).swp 0 (L' := e :: a :: b :: c :: d :: f :: p :: T) rfl).swp 4 (L' := e :: a :: b :: c :: f :: d :: p :: T) rfl).swp 3 (L' := e :: a :: b :: f :: c :: d :: p :: T) rfl).swp 2 (L' := e :: a :: f :: b :: c :: d :: p :: T) rfl).swp 1 (L' := e :: f :: a :: b :: c :: d :: p :: T) rfl).swp 3 rfl
end
end Go.Er


/-
  Rows that stay beside a log that is turned.
-/
namespace Go.Er
open Go
section
variable {w0 w w' : World} {X : List Nat} {A N N2 L No : List (Nat × Obj)} {E : TypeId} {b : Nat} {o : Obj} {a : Option Addr} {cap : Nat}
theorem St.keepM (H : St w0 X w (A ++ N)) (h : St w (N.map (·.1)) w' L) (hm : (b, o) ∈ A) : w'.heap[b]? = some o := by
  refine h.rd (H.own (b, o) (List.mem_append_left _ hm)) fun hn => ?_
  have hnd := H.nodup
  rw [List.map_append, List.nodup_append] at hnd
  exact hnd.2.2 b (List.mem_map.2 ⟨_, hm, rfl⟩) b hn rfl
theorem RowN.browK {bs : List UInt8} {n : Nat} (h : RowN 1 E (bC bs) n a cap No) (H : St w0 X w (A ++ (No ++ N))) : ∀ w' L, St w (N.map (·.1)) w' L → BRow w' a bs := by
  intro w' L h' hx
  obtain ⟨hl, _, ⟨rfl, _⟩ | ⟨b, sp, rfl, _, rfl⟩⟩ := h
  · rw [bC_length] at hl; omega
  · rw [← List.append_assoc] at H
    exact ⟨b, 0, [], sp, E, (0, 0), rfl, H.keepM h' (List.mem_append_right _ (List.mem_singleton.2 rfl)), rfl⟩
theorem St.call3 (H : St w0 X w (A ++ (No ++ N))) (hc : St w (N.map (·.1)) w' N2) : St w0 X w' (A ++ (No ++ N2)) := by
  rw [← List.append_assoc] at H ⊢
  exact St.callr H hc
theorem St.mid4 (H : St w0 X w (No ++ (A ++ N))) : St w0 X w (A ++ (No ++ N)) := H.perm (List.perm_append_comm_assoc A No N)
theorem St.drop3 (H : St w0 X w (A ++ (No ++ N))) : St w0 X w (A ++ N) := H.sub ((List.Sublist.refl _).append (List.sublist_append_right _ _))
end
theorem bC_atA (ys : List UInt8) (sp : List Value) {i o : Nat} (hi : i < ys.length) (ho : o = i) : (bC ys ++ sp)[o]? = some (.int .u8 ((ys.getD i 0).toNat : Int)) := by
  have h := bs_getE [] ys sp (off := 0) (o := o) i rfl hi (by omega)
  rwa [List.nil_append] at h
theorem bC_inc (ys : List UInt8) (sp : List Value) {i o : Nat} {z : Int} (hi : i < ys.length) (ho : o = i) (hz : z = (((ys.getD i 0).toNat : Int) + 1) % 256) : (bC ys ++ sp).set o (.int .u8 z) = bC (ys.set i (ys.getD i 0 + 1)) ++ sp := by
  subst ho
  have e : z = ((ys.getD o 0 + 1).toNat : Int) := by
    have e1 : UInt8.toNat 1 = 1 := rfl
    rw [hz, UInt8.toNat_add, e1]
    omega
  rw [e, List.set_append_left _ _ (by rw [bC_length]; exact hi)]
  unfold bC; rw [List.map_set]
theorem getD_replicate {α : Type} (n i : Nat) (x : α) : (List.replicate n x).getD i x = x := by
  rw [List.getD_eq_getElem?_getD, List.getElem?_replicate]
  split <;> rfl
theorem PL.newL (g z : Int) (k : Int) (i : Nat) : PL (Go.Er.newL g z).C k (List.replicate 40 0) (List.replicate 40 bdZ) i := by
  refine .inl ⟨?_, getD_replicate _ _ _⟩
  show (List.replicate _ zS).getD i zS = zS
  exact getD_replicate _ _ _
theorem brow_new {w : World} (i : Nat) : BRow w ((List.replicate 40 bdZ).getD i bdZ).a ((List.replicate 40 bdZ).getD i bdZ).b := by
  rw [getD_replicate]
  exact fun h => absurd h (Nat.lt_irrefl _)
theorem brow_set {w : World} {bs : List Bd} {n : Nat} {y : Bd} (h : ∀ i, BRow w (bs.getD i bdZ).a (bs.getD i bdZ).b) (hy : BRow w y.a y.b) (hn : n < bs.length) (i : Nat) : BRow w ((bs.set n y).getD i bdZ).a ((bs.set n y).getD i bdZ).b := by
  rw [getD_set _ _ _ _ _ hn]
  split
  · exact hy
  · exact h i
theorem gz_small {g z : Int} (h1 : g ≤ 6) (h2 : 0 ≤ z) (h3 : z ≤ 4) : g * z ≤ 24 := by
  have b : g * z ≤ 6 * z := Int.mul_le_mul_of_nonneg_right h1 h2
  omega
theorem set_getD0 {ns : List Int} {i : Nat} {x : Int} (hi : i < ns.length) : (ns.set i x).getD i 0 = x := by
  rw [getD_set _ _ _ _ _ hi, if_pos rfl]
theorem xrL_free (x : LS) (i : Nat) (a b : Option Addr) (c e : Nat) : splice (xrL x a c) 0 (xrL x b e) = xrL { x with gens := x.gens.set i 0 } b e := by
  show xrL x b e = _
  unfold xrL
  rw [List.length_set]
theorem refAt_full (x : LS) : refAt (x, 0, 6) = -1 := by
  unfold refAt; rw [if_neg (show ¬ ((6 : Int) = 0) by decide)]
theorem refAt_put (x : LS) (n : Int) : refAt (x, n, 0) = n := by
  unfold refAt; rw [if_pos rfl]
theorem LogN.F {E : TypeId} {fG : FuncId} {TC TL : TypeId} {ba bb bl q : Nat} {x : LS} {N : List (Nat × Obj)} (h : LogN E fG TC TL ba bb bl x q N) : LogF x := by
  obtain ⟨_,_,_,_,_,_,_,_, hF⟩ := h
  exact hF
theorem LogN.mono {E : TypeId} {fG : FuncId} {TC TL : TypeId} {ba bb bl q q' : Nat} {x : LS} {N : List (Nat × Obj)} (h : LogN E fG TC TL ba bb bl x q N) (hq : q ≤ q') : LogN E fG TC TL ba bb bl x q' N := by
  obtain ⟨bm, cs, bu, T, T2, Nm, rfl, hm, hF⟩ := h
  obtain ⟨ma, mb, bg, cs', bp, lf, ac, nc, cc, T', Tp, Na, Nb, rfl, hA, hB, hl⟩ := hm
  exact ⟨bm, cs, bu, T, T2, _, rfl, ⟨ma, mb, bg, cs', bp, lf, ac, nc, cc, T', Tp, Na, Nb, rfl, hA.mono hq, hB.mono hq, hl⟩, hF⟩
end Go.Er


/-
  Sorting rows of any elements: their cells; heaps; insertion in part.
-/
namespace Go.Er
open Go
section
variable {α : Type} {f : α → List Value} {sz : Nat}
theorem rw_splice (h : Elem f sz) (ys : List α) (sp : List Value) (x : α) {off : Nat} (i : Nat) (hi : i < ys.length) (ho : off = i * sz) : splice (rowC f ys ++ sp) off (f x) = rowC f (ys.set i x) ++ sp := row_set h x hi ho
theorem rw_room (h : Elem f sz) (ys : List α) (sp : List Value) {off : Nat} (i : Nat) (hi : i < ys.length) (ho : off = i * sz) : off + sz ≤ (rowC f ys ++ sp).length := by
  rw [List.length_append, rowC_length h, ho]
  have h1 : (i + 1) * sz ≤ ys.length * sz := Nat.mul_le_mul_right _ hi
  rw [Nat.add_mul, Nat.one_mul] at h1
  omega
theorem rw_ld (h : Elem f sz) (d : α) (ys : List α) (sp : List Value) {off : Nat} (i : Nat) (hi : i < ys.length) (ho : off = i * sz) : ((rowC f ys ++ sp).drop off).take sz = f (ys.getD i d) := by
  have hx : ys[i]? = some (ys.getD i d) := by rw [List.getD_eq_getElem?_getD, List.getElem?_eq_getElem hi]; rfl
  have h1 := row_td h [] sp (off := 0) (o := off) (i := i) rfl hx (by omega)
  rwa [List.nil_append] at h1
end
section
variable {α : Type} {d : α} {key : α → Int}
variable (d key) in
/-- a heap: no child is greater than its parent -/
def Hp (a lo hi : Nat) (ys : List α) : Prop := ∀ p c, lo ≤ p → (c = 2 * p + 1 ∨ c = 2 * p + 2) → c < hi → kk d key ys (a + c) ≤ kk d key ys (a + p)
variable (d key) in
/-- a heap, but for number r, which is on its way down -/
structure HpX (a lo hi r : Nat) (ys : List α) : Prop where
  all : ∀ p c, lo ≤ p → p ≠ r → (c = 2 * p + 1 ∨ c = 2 * p + 2) → c < hi → kk d key ys (a + c) ≤ kk d key ys (a + p)
  over : ∀ p c, lo ≤ p → (r = 2 * p + 1 ∨ r = 2 * p + 2) → (c = 2 * r + 1 ∨ c = 2 * r + 2) → c < hi → kk d key ys (a + c) ≤ kk d key ys (a + p)
  lor : lo ≤ r
theorem Hp.start {a lo hi : Nat} {ys : List α} (h : Hp d key a (lo + 1) hi ys) : HpX d key a lo hi lo ys :=
  ⟨fun p c h1 h2 h3 h4 => h p c (by omega) h3 h4, fun p c h1 h2 => by omega, Nat.le_refl _⟩
theorem HpX.step {a lo hi r ch : Nat} {ys : List α} (h : HpX d key a lo hi r ys) (hc : ch = 2 * r + 1 ∨ ch = 2 * r + 2) (hch : ch < hi) (hl : a + hi ≤ ys.length)
    (hmx : ∀ c, (c = 2 * r + 1 ∨ c = 2 * r + 2) → c < hi → kk d key ys (a + c) ≤ kk d key ys (a + ch)) (hlt : kk d key ys (a + r) < kk d key ys (a + ch)) : HpX d key a lo hi ch (swp2 d ys (a + r) (a + ch)) := by
  have hlo := h.lor
  have hg := swp2_get d ys (i := a + r) (j := a + ch) (by omega) (by omega)
  have g : ∀ p, kk d key (swp2 d ys (a + r) (a + ch)) p = if p = a + ch then kk d key ys (a + r) else if p = a + r then kk d key ys (a + ch) else kk d key ys p := by
    intro p; show key _ = _; rw [hg]; split
    · rfl
    · split <;> rfl
  refine ⟨fun p c h1 h2 h3 h4 => ?_, fun p c h1 h2 h3 h4 => ?_, by omega⟩
  · rw [g, g]
    by_cases hp : p = r
    · subst hp
      rw [if_neg (show ¬ a + p = a + ch by omega), if_pos (rfl : a + p = a + p)]
      by_cases hcc : c = ch
      · rw [if_pos (by omega)]; exact Int.le_of_lt hlt
      · rw [if_neg (by omega), if_neg (by omega)]; exact hmx c h3 h4
    · rw [if_neg (show ¬ a + p = a + ch by omega), if_neg (show ¬ a + p = a + r by omega)]
      by_cases hcr : c = r
      · subst hcr
        rw [if_neg (by omega), if_pos rfl]
        exact h.over p ch h1 h3 hc hch
      · rw [if_neg (by omega), if_neg (by omega)]; exact h.all p c h1 hp h3 h4
  · have hpr : p = r := by omega
    subst hpr
    rw [g, g, if_neg (show ¬ a + c = a + ch by omega), if_neg (show ¬ a + c = a + p by omega), if_neg (show ¬ a + p = a + ch by omega), if_pos (rfl : a + p = a + p)]
    exact h.all ch c (by omega) (by omega) h3 h4
theorem HpX.leaf {a lo hi r : Nat} {ys : List α} (h : HpX d key a lo hi r ys) (hr : hi ≤ 2 * r + 1) : Hp d key a lo hi ys := by
  intro p c h1 h2 h3
  exact h.all p c h1 (by omega) h2 h3
theorem HpX.done {a lo hi r ch : Nat} {ys : List α} (h : HpX d key a lo hi r ys) (hmx : ∀ c, (c = 2 * r + 1 ∨ c = 2 * r + 2) → c < hi → kk d key ys (a + c) ≤ kk d key ys (a + ch)) (hle : ¬ kk d key ys (a + r) < kk d key ys (a + ch)) : Hp d key a lo hi ys := by
  intro p c h1 h2 h3
  by_cases hp : p = r
  · subst hp
    have := hmx c h2 h3
    omega
  · exact h.all p c h1 hp h2 h3
theorem Hp.leaves {a hi lo : Nat} {ys : List α} (h : hi ≤ 2 * lo + 1) : Hp d key a lo hi ys := fun p c h1 h2 h3 => by omega
/-- the top of a heap is the greatest -/
theorem Hp.top {a hi : Nat} {ys : List α} (h : Hp d key a 0 hi ys) : ∀ p, p < hi → kk d key ys (a + p) ≤ kk d key ys a := by
  intro p
  induction p using Nat.strongRecOn with
  | _ p ih =>
    intro hp
    by_cases h0 : p = 0
    · subst h0; exact Int.le_refl _
    · have h1 := h ((p - 1) / 2) p (Nat.zero_le _) (by omega) hp
      have h2 := ih ((p - 1) / 2) (by omega) (by omega)
      omega
variable (d key) in
/-- a heap ahead, in order behind -/
structure HpS (a z i : Nat) (ys : List α) : Prop where
  hp : Hp d key a 0 i ys
  srt : Srt d key (a + i) z ys
  le : ∀ p q, p < i → i ≤ q → a + q < z → kk d key ys (a + p) ≤ kk d key ys (a + q)
theorem HpS.start {a z i : Nat} {ys : List α} (h : Hp d key a 0 i ys) (hz : z = a + i) : HpS d key a z i ys :=
  ⟨h, fun p q h1 h2 h3 => by omega, fun p q h1 h2 h3 => by omega⟩
/-- the greatest goes behind: what is left is a heap but for its top -/
theorem HpS.swap {a z i : Nat} {ys : List α} (h : HpS d key a z (i + 1) ys) (hl : z ≤ ys.length) (hz : a + i < z) : Hp d key a 1 i (swp2 d ys a (a + i)) ∧ Srt d key (a + i) z (swp2 d ys a (a + i)) ∧ ∀ p q, p < i → i ≤ q → a + q < z → kk d key (swp2 d ys a (a + i)) (a + p) ≤ kk d key (swp2 d ys a (a + i)) (a + q) := by
  have hg := swp2_get d ys (i := a) (j := a + i) (by omega) (by omega)
  have g : ∀ p, kk d key (swp2 d ys a (a + i)) p = if p = a + i then kk d key ys a else if p = a then kk d key ys (a + i) else kk d key ys p := by
    intro p; show key _ = _; rw [hg]; split
    · rfl
    · split <;> rfl
  refine ⟨fun p c h1 h2 h3 => ?_, fun p q h1 h2 h3 => ?_, fun p q h1 h2 h3 => ?_⟩
  · rw [g, g, if_neg (by omega), if_neg (by omega), if_neg (by omega), if_neg (by omega)]
    exact h.hp p c (Nat.zero_le _) h2 (by omega)
  · rw [g, g, if_neg (show ¬ q = a + i by omega), if_neg (show ¬ q = a by omega)]
    by_cases hp : p = a + i
    · rw [if_pos hp]
      have := h.le 0 (q - a) (by omega) (by omega) (by omega)
      rw [Nat.add_zero, show a + (q - a) = q by omega] at this
      exact this
    · rw [if_neg hp, if_neg (by omega)]; exact h.srt p q (by omega) h2 h3
  · rw [g, g]
    by_cases hq : q = i
    · subst hq
      rw [if_neg (show ¬ a + p = a + q by omega), if_pos (rfl : a + q = a + q)]
      by_cases hp : p = 0
      · subst hp
        rw [if_pos (by omega)]; exact h.hp.top q (by omega)
      · rw [if_neg (by omega)]; exact h.hp.top p (by omega)
    · rw [if_neg (show ¬ a + p = a + i by omega), if_neg (show ¬ a + q = a + i by omega), if_neg (show ¬ a + q = a by omega)]
      split
      · exact h.le i q (by omega) (by omega) h3
      · exact h.le p q (by omega) (by omega) h3
theorem HpS.next {a z i : Nat} {ys zs : List α} (hs : Srt d key (a + i) z ys) (hle : ∀ p q, p < i → i ≤ q → a + q < z → kk d key ys (a + p) ≤ kk d key ys (a + q)) (k : Sw d a (a + i) ys zs) (hh : Hp d key a 0 i zs) : HpS d key a z i zs := by
  have ho : ∀ q, a + i ≤ q → kk d key zs q = kk d key ys q := fun q hq => by show key _ = key _; rw [k.out (.inr hq)]
  refine ⟨hh, fun p q h1 h2 h3 => ?_, fun p q h1 h2 h3 => ?_⟩
  · rw [ho p h1, ho q (by omega)]; exact hs p q h1 h2 h3
  · rw [ho (a + q) (by omega)]
    exact k.all (P := fun x => key x ≤ kk d key ys (a + q)) (fun r r1 r2 => by
      have := hle (r - a) q (by omega) h2 h3
      rwa [show a + (r - a) = r by omega] at this) (a + p) (by omega) (by omega)
theorem HpS.fin {a z : Nat} {ys : List α} (h : HpS d key a z 0 ys) : Srt d key a z ys := h.srt
theorem Srt.cut {a i i' : Nat} {ys : List α} (h : Srt d key a i ys) (hi : i' ≤ i) : Srt d key a i' ys := fun p q h1 h2 h3 => h p q h1 h2 (by omega)
theorem Srt.off {a i p q : Nat} {ys : List α} (h : Srt d key a i ys) (hp : i ≤ p) (hq : i ≤ q) (hpl : p < ys.length) (hql : q < ys.length) : Srt d key a i (swp2 d ys p q) := by
  intro m n h1 h2 h3
  have hg := swp2_get d ys hpl hql
  show key _ ≤ key _
  rw [hg m, hg n, if_neg (by omega), if_neg (by omega), if_neg (by omega), if_neg (by omega)]
  exact h m n h1 h2 h3
/-- a pair is put in order: what stands ahead is in order but for its last one -/
theorem Srt.pair {a i : Nat} {ys : List α} (h : Srt d key a i ys) (hi : a < i) (hl : i < ys.length) (hlt : kk d key ys i < kk d key ys (i - 1)) : Ins d key a i (i - 1) (swp2 d ys i (i - 1)) :=
  (Ins.start h).step hi (Nat.le_refl _) hl hlt
end
end Go.Er


/-
  What is found in a log's slots: elements, what a log takes into account, what Open tells.
-/
namespace Go.Er
open Go
/-! ### What is found -/
def fdV (n g : Int) (y : Bd) : List Value := [.int .i64 n, .int .u64 g, bdV y]
structure FdL where
  at_ : Int
  gen : Int
  bd : Bd
  ok : 0 ≤ at_ ∧ at_ < 4096 ∧ 0 ≤ gen ∧ gen < 18446744073709551616
def fdC (y : FdL) : List Value := fdV y.at_ y.gen y.bd
def fdZ : FdL := ⟨0, 0, bdZ, by decide⟩
def fdK (y : FdL) : Int := y.gen * 4096 + y.at_
def fdP (y : FdL) : Int × Int × List UInt8 := (y.at_, y.gen, y.bd.b)
theorem fdV_length (n g : Int) (y : Bd) : (fdV n g y).length = 3 := rfl
theorem fdV_td (n g : Int) (y : Bd) : ((fdV n g y).drop 0).take 3 = fdV n g y := rfl
theorem fdV_one (n g : Int) (y : Bd) : ∀ v ∈ fdV n g y, v.oneCell' = true := by
  intro v hv
  simp only [fdV, bdV, List.mem_cons, List.not_mem_nil, or_false] at hv
  rcases hv with rfl | rfl | rfl <;> rfl
theorem fdV_sp (n g n' g' : Int) (y y' : Bd) : splice (fdV n g y) 0 (fdV n' g' y') = fdV n' g' y' := rfl
theorem elFd : Elem fdC 3 := ⟨fun _ => rfl, fun _ => fdV_one _ _ _⟩
theorem cmp_fd (x y : FdL) : (if cmpI x.gen y.gen ≠ 0 then cmpI x.gen y.gen else cmpI x.at_ y.at_) = cmpI (fdK x) (fdK y) := by
  have h1 := x.ok; have h2 := y.ok
  rcases Int.lt_trichotomy x.gen y.gen with h | h | h
  · have e : cmpI x.gen y.gen = -1 := if_pos h
    rw [e, if_pos (by decide)]
    unfold cmpI fdK
    rw [if_pos (by omega)]
  · have e : cmpI x.gen y.gen = 0 := (if_neg (by omega)).trans (if_neg (by omega))
    rw [e, if_neg (by decide)]
    unfold cmpI fdK
    rcases Int.lt_trichotomy x.at_ y.at_ with k | k | k
    · rw [if_pos k, if_pos (by omega)]
    · rw [if_neg (by omega), if_neg (by omega), if_neg (by omega), if_neg (by omega)]
    · rw [if_neg (by omega), if_pos k, if_neg (by omega), if_pos (by omega)]
  · have e : cmpI x.gen y.gen = 1 := (if_neg (by omega)).trans (if_pos h)
    rw [e, if_pos (by decide)]
    unfold cmpI fdK
    rw [if_neg (by omega), if_pos (by omega)]
/-! ### Both devices' sectors, if they may stand there -/
def bothK (C : List Sec) (n : Int) : Nat → List Sec
  | 0 => []
  | k + 1 => if Sealed n (sd C n.toNat) then bothK C n k ++ [sd C n.toNat] else bothK C n k
theorem bothK_len (C : List Sec) (n : Int) : ∀ k, (bothK C n k).length ≤ k
  | 0 => Nat.le_refl _
  | k + 1 => by
    have h := bothK_len C n k
    unfold bothK
    split
    · rw [List.length_append]; simp; exact h
    · omega
theorem bothK_yes {C : List Sec} {n : Int} (h : Sealed n (sd C n.toNat)) (k : Nat) : bothK C n (k + 1) = bothK C n k ++ [sd C n.toNat] := if_pos h
theorem bothK_no {C : List Sec} {n : Int} (h : ¬ Sealed n (sd C n.toNat)) : ∀ k, bothK C n k = []
  | 0 => rfl
  | k + 1 => (if_neg h).trans (bothK_no h k)
theorem bothK_all {C : List Sec} {n : Int} (h : Sealed n (sd C n.toNat)) : ∀ k, bothK C n k = List.replicate k (sd C n.toNat)
  | 0 => rfl
  | k + 1 => by rw [bothK_yes h, bothK_all h, List.replicate_succ']
/-! ### What a log takes into account -/
def takeL (x : LS) (s t gn : Int) : LS :=
  if x.known < gn ∨ x.head < 0 ∨ (gn = x.known ∧ s = x.head) then { x with gens := if x.gens.getD s.toNat 0 ≤ gn then x.gens.set s.toNat gn else x.gens, known := gn, head := s, slot := t + 1 }
  else { x with gens := if x.gens.getD s.toNat 0 ≤ gn then x.gens.set s.toNat gn else x.gens }
theorem takeL_C (x : LS) (s t gn : Int) : (takeL x s t gn).C = x.C := by unfold takeL; split <;> rfl
theorem takeL_g (x : LS) (s t gn : Int) : (takeL x s t gn).g = x.g := by unfold takeL; split <;> rfl
theorem takeL_z (x : LS) (s t gn : Int) : (takeL x s t gn).z = x.z := by unfold takeL; split <;> rfl
theorem takeL_len (x : LS) (s t gn : Int) : (takeL x s t gn).gens.length = x.gens.length := by
  unfold takeL
  split <;> (show (if _ then _ else _ : List Int).length = _) <;> split <;> simp
/-- nothing is known, as long as there is no head -/
def LogO (x : LS) : Prop := LogF x ∧ (x.head < 0 → x.known = 0)
theorem LogO.take {x : LS} (h : LogO x) {s t gn : Int} (hs0 : 0 ≤ s) (hs1 : s < x.g) (ht0 : 0 ≤ t) (ht1 : t < x.z) (hg0 : 0 ≤ gn) (hg1 : gn < 1000000000) : LogO (takeL x s t gn) := by
  obtain ⟨h, hk⟩ := h
  have hu : ∀ n ∈ (if x.gens.getD s.toNat 0 ≤ gn then x.gens.set s.toNat gn else x.gens), n = gn ∨ n ∈ x.gens := by
    intro n hn
    split at hn
    · rcases List.mem_or_eq_of_mem_set hn with h2 | rfl
      · exact .inr h2
      · exact .inl rfl
    · exact .inr hn
  have hl : ((if x.gens.getD s.toNat 0 ≤ gn then x.gens.set s.toNat gn else x.gens).length : Int) = x.g := by
    have := h.gl
    split
    · rw [List.length_set]; exact this
    · exact this
  have hu6 : U64 (if x.gens.getD s.toNat 0 ≤ gn then x.gens.set s.toNat gn else x.gens) := fun n hn => by
    rcases hu n hn with rfl | h2
    · exact ⟨hg0, by omega⟩
    · exact h.u n h2
  unfold takeL
  split
  · rename_i hc
    refine ⟨⟨h.g0, h.g1, h.z0, h.z1, hl, h.cl, hu6, ⟨by show -1 ≤ s; omega, hs1⟩, ⟨by show 0 ≤ t + 1; omega, by show t + 1 ≤ x.z; omega⟩, ⟨hg0, hg1⟩, fun n hn => ?_⟩, fun hh => absurd hs0 (by have : s < 0 := hh; omega)⟩
    show n ≤ gn
    rcases hu n hn with rfl | h2
    · exact Int.le_refl _
    · have := h.kg n h2
      rcases hc with hc | hc | hc
      · omega
      · have := hk hc; omega
      · omega
  · rename_i hc
    refine ⟨⟨h.g0, h.g1, h.z0, h.z1, hl, h.cl, hu6, h.h, h.s, h.k, fun n hn => ?_⟩, hk⟩
    show n ≤ x.known
    rcases hu n hn with rfl | h2
    · omega
    · exact h.kg n h2
/-- sectors whose generations are small -/
def GenB (C : List Sec) : Prop := ∀ n : Nat, n < C.length → Sealed (n : Int) (sd C n) → genU (sd C n) < 1000000000

def slotN (x : LS) (i j : Nat) : Int := 2 + (i : Int) * x.z + (j : Int)
def stepF (p : LS × List (Int × Int × List UInt8)) (i j : Nat) : LS × List (Int × Int × List UInt8) :=
  if Sealed (slotN p.1 i j) (sd p.1.C (slotN p.1 i j).toNat) then (takeL p.1 i j (genU (sd p.1.C (slotN p.1 i j).toNat)), p.2 ++ [(slotN p.1 i j, genU (sd p.1.C (slotN p.1 i j).toNat), bodyU (sd p.1.C (slotN p.1 i j).toNat))]) else p
def opJ (p : LS × List (Int × Int × List UInt8)) (i : Nat) : Nat → LS × List (Int × Int × List UInt8)
  | 0 => p
  | j + 1 => stepF (opJ p i j) i j
def opI (p : LS × List (Int × Int × List UInt8)) : Nat → LS × List (Int × Int × List UInt8)
  | 0 => p
  | i + 1 => opJ (opI p i) i p.1.z.toNat
/-- what stays -/
structure SameL (x y : LS) : Prop where
  C : x.C = y.C
  g : x.g = y.g
  z : x.z = y.z
theorem SameL.refl (x : LS) : SameL x x := ⟨rfl, rfl, rfl⟩
theorem SameL.trans {x y z : LS} (h : SameL x y) (k : SameL y z) : SameL x z := ⟨h.C.trans k.C, h.g.trans k.g, h.z.trans k.z⟩
theorem stepF_same (p : LS × List (Int × Int × List UInt8)) (i j : Nat) : SameL (stepF p i j).1 p.1 := by
  unfold stepF
  split
  · exact ⟨takeL_C _ _ _ _, takeL_g _ _ _ _, takeL_z _ _ _ _⟩
  · exact SameL.refl _
theorem opJ_same (p : LS × List (Int × Int × List UInt8)) (i : Nat) : ∀ j, SameL (opJ p i j).1 p.1
  | 0 => SameL.refl _
  | j + 1 => (stepF_same _ i j).trans (opJ_same p i j)
theorem opI_same (p : LS × List (Int × Int × List UInt8)) : ∀ i, SameL (opI p i).1 p.1
  | 0 => SameL.refl _
  | i + 1 => (opJ_same _ i _).trans (opI_same p i)
theorem slot_rng {x : LS} (hF : LogF x) {i j : Nat} (hi : (i : Int) < x.g) (hj : (j : Int) < x.z) : 2 ≤ slotN x i j ∧ slotN x i j < (x.C.length : Int) ∧ slotN x i j < 4096 := by
  have h1 := sz_rng (s := i) (g := x.g) (z := x.z) (by omega) hi (by have := hF.z0; omega)
  have h2 := gz_rng (g := x.g) (z := x.z) (by have := hF.g0; omega) hF.g1 (by have := hF.z0; omega) hF.z1
  have h3 := hF.cl
  unfold slotN
  omega
theorem stepF_O {p : LS × List (Int × Int × List UInt8)} (h : LogO p.1) (hG : GenB p.1.C) {i j : Nat} (hi : (i : Int) < p.1.g) (hj : (j : Int) < p.1.z) : LogO (stepF p i j).1 := by
  unfold stepF
  split
  · rename_i hs
    have hr := slot_rng h.1 hi hj
    have e : ((slotN p.1 i j).toNat : Int) = slotN p.1 i j := by omega
    have hg := hG (slotN p.1 i j).toNat (by omega) (by rw [e]; exact hs)
    exact h.take (by omega) hi (by omega) hj (genU_rng _).1 hg
  · exact h
theorem opJ_O {p : LS × List (Int × Int × List UInt8)} (h : LogO p.1) (hG : GenB p.1.C) {i : Nat} (hi : (i : Int) < p.1.g) : ∀ j : Nat, (j : Int) ≤ p.1.z → LogO (opJ p i j).1
  | 0, _ => h
  | j + 1, hj => by
    have hs := opJ_same p i j
    exact stepF_O (opJ_O h hG hi j (by omega)) (by rw [hs.C]; exact hG) (by rw [hs.g]; exact hi) (by rw [hs.z]; omega)
theorem opI_O {p : LS × List (Int × Int × List UInt8)} (h : LogO p.1) (hG : GenB p.1.C) : ∀ i : Nat, (i : Int) ≤ p.1.g → LogO (opI p i).1
  | 0, _ => h
  | i + 1, hi => by
    have hs := opI_same p i
    have hz := h.1.z0
    exact opJ_O (opI_O h hG i (by omega)) (by rw [hs.C]; exact hG) (by rw [hs.g]; omega) _ (by rw [hs.z]; omega)
/-- the places rise -/
def RiseL (m : Int) (l : List (Int × Int × List UInt8)) : Prop := l.Pairwise (fun a b => a.1 < b.1) ∧ ∀ a ∈ l, a.1 < m
theorem RiseL.mono {m m' : Int} {l : List (Int × Int × List UInt8)} (h : RiseL m l) (hm : m ≤ m') : RiseL m' l := ⟨h.1, fun a ha => by have := h.2 a ha; omega⟩
theorem RiseL.snoc {m m' : Int} {l : List (Int × Int × List UInt8)} {y : Int × Int × List UInt8} (h : RiseL m l) (h1 : m ≤ y.1) (h2 : y.1 < m') : RiseL m' (l ++ [y]) := by
  refine ⟨List.pairwise_append.2 ⟨h.1, List.pairwise_singleton _ _, fun a ha b hb => ?_⟩, fun a ha => ?_⟩
  · rw [List.mem_singleton.1 hb]
    have := h.2 a ha; omega
  · rcases List.mem_append.1 ha with ha | ha
    · have := h.2 a ha; omega
    · rw [List.mem_singleton.1 ha]; exact h2
theorem stepF_rise {p : LS × List (Int × Int × List UInt8)} {i j : Nat} (h : RiseL (slotN p.1 i j) p.2) : RiseL (slotN p.1 i (j + 1)) (stepF p i j).2 := by
  have e : slotN p.1 i (j + 1) = slotN p.1 i j + 1 := by unfold slotN; omega
  unfold stepF
  split
  · exact h.snoc (Int.le_refl _) (by rw [e]; show slotN p.1 i j < _; omega)
  · exact h.mono (by omega)
theorem opJ_rise {p : LS × List (Int × Int × List UInt8)} {i : Nat} (h : RiseL (slotN p.1 i 0) p.2) : ∀ j, RiseL (slotN p.1 i j) (opJ p i j).2
  | 0 => h
  | j + 1 => by
    have hs := opJ_same p i j
    have e : ∀ k, slotN p.1 i k = slotN (opJ p i j).1 i k := fun k => by unfold slotN; rw [hs.z]
    have := stepF_rise (p := opJ p i j) (i := i) (j := j) (by rw [← e]; exact opJ_rise h j)
    rwa [← e] at this
theorem opI_rise {p : LS × List (Int × Int × List UInt8)} (hz : 0 ≤ p.1.z) (h : p.2 = []) : ∀ i, RiseL (slotN p.1 i 0) (opI p i).2
  | 0 => by show RiseL _ p.2; rw [h]; exact ⟨List.Pairwise.nil, fun _ h => nomatch h⟩
  | i + 1 => by
    have hs := opI_same p i
    have e : ∀ k, slotN p.1 i k = slotN (opI p i).1 i k := fun k => by unfold slotN; rw [hs.z]
    have h1 := opJ_rise (p := opI p i) (i := i) (by rw [← e]; exact opI_rise hz h i) p.1.z.toNat
    have e2 : slotN p.1 (i + 1) 0 = slotN (opI p i).1 i p.1.z.toNat := by
      rw [← e]; unfold slotN
      rw [show ((i + 1 : Nat) : Int) = (i : Int) + 1 by omega, Int.add_mul, Int.one_mul]
      omega
    rw [e2]; exact h1
theorem opJ_len {p : LS × List (Int × Int × List UInt8)} {i : Nat} : ∀ j, (opJ p i j).2.length ≤ p.2.length + j
  | 0 => Nat.le_refl _
  | j + 1 => by
    have h := opJ_len (p := p) (i := i) j
    show (stepF _ i j).2.length ≤ _
    unfold stepF
    split
    · show (_ ++ [_]).length ≤ _
      rw [List.length_append, List.length_singleton]; omega
    · omega
theorem opI_len {p : LS × List (Int × Int × List UInt8)} : ∀ i, (opI p i).2.length ≤ p.2.length + i * p.1.z.toNat
  | 0 => by show p.2.length ≤ _; omega
  | i + 1 => by
    have h := opI_len (p := p) i
    have h2 := opJ_len (p := opI p i) (i := i) p.1.z.toNat
    show (opJ (opI p i) i p.1.z.toNat).2.length ≤ _
    rw [Nat.add_mul, Nat.one_mul]; omega
theorem opIJ_len {p : LS × List (Int × Int × List UInt8)} (h0 : p.2 = []) (hz : p.1.z ≤ 32) {i j : Nat} (hi : i ≤ 64) (hj : j ≤ 32) : (opJ (opI p i) i j).2.length ≤ 2080 := by
  have h := opI_len (p := p) i
  have h2 := opJ_len (p := opI p i) (i := i) j
  have h3 : i * p.1.z.toNat ≤ 64 * 32 := Nat.mul_le_mul hi (by omega)
  rw [h0] at h
  simp only [List.length_nil] at h
  omega
/-! ### The bodies that were found -/
def BsN (E : TypeId) (fs : List FdL) (Nb : List (Nat × Obj)) : Prop := ∀ f ∈ fs, ∃ No, (∀ p ∈ No, p ∈ Nb) ∧ RowN 1 E (bC f.bd.b) f.bd.b.length f.bd.a f.bd.c No
theorem BsN.nil {E : TypeId} : BsN E [] [] := fun _ h => nomatch h
theorem BsN.snoc {E : TypeId} {fs : List FdL} {Nb No : List (Nat × Obj)} {f : FdL} (h : BsN E fs Nb) (hf : RowN 1 E (bC f.bd.b) f.bd.b.length f.bd.a f.bd.c No) : BsN E (fs ++ [f]) (No ++ Nb) := by
  intro y hy
  rcases List.mem_append.1 hy with hy | hy
  · obtain ⟨M, h1, h2⟩ := h y hy
    exact ⟨M, fun p hp => List.mem_append_right _ (h1 p hp), h2⟩
  · rw [List.mem_singleton.1 hy]
    exact ⟨No, fun p hp => List.mem_append_left _ hp, hf⟩
theorem BsN.perm {E : TypeId} {fs fs' : List FdL} {Nb : List (Nat × Obj)} (h : BsN E fs Nb) (hp : fs'.Perm fs) : BsN E fs' Nb := fun f hf => h f (hp.mem_iff.1 hf)
theorem BsN.brow {E : TypeId} {fs : List FdL} {Nb L : List (Nat × Obj)} {w0 w : World} {X : List Nat} (h : BsN E fs Nb) (H : St w0 X w L) (hs : ∀ p ∈ Nb, p ∈ L) : ∀ f ∈ fs, BRow w f.bd.a f.bd.b := by
  intro f hf
  obtain ⟨No, h1, h2⟩ := h f hf
  exact h2.browM H (fun p hp => hs p (h1 p hp))
/-- no two keys are alike -/
theorem fd_unl {fs : List FdL} (h : (fs.map fdP).Pairwise (fun a b => a.1 < b.1)) : Unl fdZ fdK fs := by
  have hp : fs.Pairwise (fun a b => a.at_ < b.at_) := (List.pairwise_map (f := fdP) (R := fun a b => a.1 < b.1)).1 h
  have hk : ∀ p q, p < q → q < fs.length → kk fdZ fdK fs p ≠ kk fdZ fdK fs q := by
    intro p q hpq hq he
    have h1 := List.pairwise_iff_getElem.1 hp p q (by omega) hq hpq
    have e1 : fs.getD p fdZ = fs[p]'(by omega) := by rw [List.getD_eq_getElem?_getD, List.getElem?_eq_getElem (by omega)]; rfl
    have e2 : fs.getD q fdZ = fs[q] := by rw [List.getD_eq_getElem?_getD, List.getElem?_eq_getElem hq]; rfl
    have he' : fdK (fs.getD p fdZ) = fdK (fs.getD q fdZ) := he
    rw [e1, e2] at he'
    have o1 := (fs[p]'(by omega)).ok
    have o2 := fs[q].ok
    unfold fdK at he'
    omega
  exact hk
end Go.Er


/-
  A log and its mirror by their blocks, for Open.
-/
namespace Go.Er
open Go
/-! ### A log and its mirror, by their blocks -/
def LogM (E : TypeId) (fG : FuncId) (TC TL : TypeId) (ba bb bm bl : Nat) (x : LS) (q : Nat) (N : List (Nat × Obj)) : Prop := ∃ cs bu T T2 Nm, N = (bl, .cells (lgC bm (.iface TL (.agg (cs : List Value).toArray)) x.g x.z bu x.gens.length x.head x.slot x.known).toArray T (0, 0)) :: (bu, .cells (uC x.gens).toArray T2 (0, 0)) :: Nm ∧ MirN E fG TC TL ba bb bm x.C q Nm ∧ LogF x
theorem LogM.toN {E : TypeId} {fG : FuncId} {TC TL : TypeId} {ba bb bm bl q : Nat} {x : LS} {N : List (Nat × Obj)} (h : LogM E fG TC TL ba bb bm bl x q N) : LogN E fG TC TL ba bb bl x q N := ⟨bm, h⟩
theorem LogM.F {E : TypeId} {fG : FuncId} {TC TL : TypeId} {ba bb bm bl q : Nat} {x : LS} {N : List (Nat × Obj)} (h : LogM E fG TC TL ba bb bm bl x q N) : LogF x := by
  obtain ⟨_,_,_,_,_,_,_, hF⟩ := h
  exact hF
theorem both_pos {C : List Sec} {n : Int} {k : Nat} (h : k < (bothK C n 2).length) : Sealed n (sd C n.toNat) := by
  by_cases hs : Sealed n (sd C n.toNat)
  · exact hs
  · rw [bothK_no hs] at h; simp at h
theorem both_two {C : List Sec} {n : Int} (h : Sealed n (sd C n.toNat)) : (bothK C n 2).length = 2 := by
  rw [bothK_all h, List.length_replicate]
theorem both_td {C : List Sec} {n : Int} {sp : List Value} {k o : Nat} (h : k < (bothK C n 2).length) (ho : o = k * 128) : ((rowC kC (bothK C n 2) ++ sp).drop o).take 128 = kC (sd C n.toNat) := by
  have hs := both_pos h
  have h1 : (bothK C n 2)[k]? = some (sd C n.toNat) := by
    rw [bothK_all hs] at h ⊢
    rw [List.length_replicate] at h
    rw [List.getElem?_replicate, if_pos h]
  have h2 := row_td elS [] sp (off := 0) (o := o) rfl h1 (by omega)
  rwa [List.nil_append] at h2
/-- what is found so far at a place -/
def FndS (E : TypeId) (s : Sec) (n : Int) (sm : Bool) (n0 g0 : Int) (bd : Bd) (sx : Sec) (NB : List (Nat × Obj)) : Prop :=
  (sm = false ∧ n0 = 0 ∧ g0 = 0 ∧ bd = bdZ ∧ sx = zS ∧ NB = []) ∨ (sm = true ∧ Sealed n s ∧ n = n0 ∧ genU s = g0 ∧ s = sx ∧ bd.b = bodyU s ∧ RowN 1 E (bC bd.b) bd.b.length bd.a bd.c NB)
section
variable {w0 w w' : World} {X : List Nat} {A M No N N2 R : List (Nat × Obj)}
theorem St.mid5 (H : St w0 X w (No ++ (A ++ (M ++ N)))) : St w0 X w (A ++ (M ++ (No ++ N))) := by
  refine H.perm ?_
  have h1 := (List.perm_append_comm_assoc M No N).append_left A
  exact h1.trans (List.perm_append_comm_assoc A No (M ++ N))
theorem St.call5 (H : St w0 X w (A ++ (M ++ (No ++ N)))) (hc : St w (N.map (·.1)) w' N2) : St w0 X w' (A ++ (M ++ (No ++ N2))) := by
  rw [← List.append_assoc, ← List.append_assoc] at H ⊢
  exact St.callr H hc
/-- bodies are put beside those that are there -/
theorem St.fnd (H : St w0 X w (A ++ (M ++ (R ++ (No ++ N))))) : St w0 X w (A ++ (M ++ ((No ++ R) ++ N))) := by
  refine H.perm (List.Perm.append_left A (List.Perm.append_left M ?_))
  rw [List.append_assoc]
  exact List.perm_append_comm_assoc No R N
theorem St.rot (H : St w0 X w (A ++ (M ++ R))) : St w0 X w ((A ++ R) ++ M) := by
  rw [List.append_assoc]
  exact H.perm (List.perm_append_comm.append_left A)
theorem St.unrot (H : St w0 X w ((A ++ R) ++ M)) : St w0 X w (A ++ (M ++ R)) := by
  rw [List.append_assoc] at H
  exact H.perm (List.perm_append_comm.append_left A)
theorem St.flu {a1 a2 l1 l2 : Nat × Obj} (H : St w0 X w (a1 :: a2 :: (M ++ (R ++ (l1 :: l2 :: N))))) (hc : St w (N.map (·.1)) w' N2) : St w0 X w' ((a1 :: a2 :: (R ++ (l1 :: l2 :: N2))) ++ M) := by
  have e : ∀ K : List (Nat × Obj), a1 :: a2 :: (M ++ (R ++ (l1 :: l2 :: K))) = (a1 :: a2 :: (M ++ (R ++ [l1, l2]))) ++ K := fun K => by simp
  rw [e] at H
  have h2 := St.callr H hc
  rw [← e] at h2
  exact St.rot (A := [a1, a2]) h2
end
/-- a log of which nothing is known, on a mirror -/
def openL0 (g z : Int) (C : List Sec) : LS := ⟨C, List.replicate g.toNat 0, -1, 0, 0, g, z⟩
theorem openL0_O {g z : Int} {C : List Sec} (h0 : 3 ≤ g) (h1 : g ≤ 64) (h2 : 1 ≤ z) (h3 : z ≤ 32) (hcl : 2 + g * z ≤ (C.length : Int)) : LogO (openL0 g z C) := by
  refine ⟨⟨h0, h1, h2, h3, ?_, hcl, ?_, ⟨Int.le_refl _, by show -1 < g; omega⟩, ⟨Int.le_refl _, by show 0 ≤ z; omega⟩, ⟨Int.le_refl _, by show (0 : Int) < _; decide⟩, ?_⟩, fun _ => rfl⟩
  · show ((List.replicate g.toNat (0 : Int)).length : Int) = g
    rw [List.length_replicate]; omega
  · intro n hn; rw [List.eq_of_mem_replicate hn]; exact ⟨Int.le_refl _, by decide⟩
  · intro n hn; rw [List.eq_of_mem_replicate hn]; exact Int.le_refl _
theorem gen_small {x : LS} (hF : LogF x) (hG : GenB x.C) {i j : Nat} (hi : (i : Int) < x.g) (hj : (j : Int) < x.z) (hs : Sealed (slotN x i j) (sd x.C (slotN x i j).toNat)) : 0 ≤ genU (sd x.C (slotN x i j).toNat) ∧ genU (sd x.C (slotN x i j).toNat) < 1000000000 := by
  have hr := slot_rng hF hi hj
  have e : ((slotN x i j).toNat : Int) = slotN x i j := by omega
  exact ⟨(genU_rng _).1, hG (slotN x i j).toNat (by omega) (by rw [e]; exact hs)⟩
theorem gz_nat {g z : Int} (h0 : 0 ≤ g) (h1 : 0 ≤ z) : ((g.toNat * z.toNat : Nat) : Int) = g * z := by
  rw [Int.natCast_mul, Int.toNat_of_nonneg h0, Int.toNat_of_nonneg h1]
end Go.Er


/-
  For LogNone: any shapes; devices that are out; sectors of noughts.
-/
namespace Go.Er
open Go
/-- the error of a shape -/
def shE (g z : Int) : Int := if 3 ≤ g ∧ g ≤ 64 ∧ 1 ≤ z ∧ z ≤ 32 then 0 else 2
theorem shE_ok {g z : Int} (h : shE g z = 0) : 3 ≤ g ∧ g ≤ 64 ∧ 1 ≤ z ∧ z ≤ 32 := by
  unfold shE at h
  split at h
  · assumption
  · omega
/-- how many sectors a shape has -/
def shN (g z : Int) : Int := if shE g z = 0 then 2 + g * z else 0
def dO (bp bs m : Nat) : List Value := [.pointer (some ⟨bp, 0, none⟩), .slice (some ⟨bs, 0, none⟩) m m, .slice none 0 0, .int .i64 0, .int .i64 0, .bool false, .bool true]
section
variable {w0 w w' : World} {X : List Nat} {A F F' N : List (Nat × Obj)}
theorem St.callm (H : St w0 X w (A ++ (F ++ N))) (hc : St w (F.map (·.1)) w' F') : St w0 X w' (A ++ (F' ++ N)) := by
  have h1 : St w0 X w (F ++ (A ++ N)) := H.perm (List.perm_append_comm_assoc F A N)
  exact (St.call h1 hc).perm (List.perm_append_comm_assoc A F' N)
theorem St.trMade1 {x p : Nat × Obj} {B C : List (Nat × Obj)} (H : St w0 X w (x :: (A ++ (B ++ (p :: C))))) : St w0 X w (x :: p :: (A ++ B)) := by
  refine (H.sub (L' := x :: (A ++ (B ++ [p]))) (.cons_cons _ ((List.Sublist.refl _).append ((List.Sublist.refl _).append (.cons_cons _ (List.nil_sublist _)))))).perm (.cons _ ?_)
  rw [← List.append_assoc]
  exact (List.perm_append_comm (l₁ := [p]))
theorem St.trMir1 {a b c d e p : Nat × Obj} {T : List (Nat × Obj)} (H : St w0 X w ([a, b, c] ++ (d :: e :: p :: T))) : St w0 X w (e :: a :: c :: b :: d :: p :: T) :=
  ((((H.swp 3 (L' := a :: b :: c :: e :: d :: p :: T) rfl).swp 2 (L' := a :: b :: e :: c :: d :: p :: T) rfl).swp 1 (L' := a :: e :: b :: c :: d :: p :: T) rfl).swp 0 (L' := e :: a :: b :: c :: d :: p :: T) rfl).swp 2 (L' := e :: a :: c :: b :: d :: p :: T) rfl
/-- a device that is out -/
def DevO (w : World) (bd : Nat) : Prop := ∃ bp bs m T fz, w.heap[bd]? = some (.cells (dO bp bs m).toArray T fz)
theorem DevO.st {w0 w : World} {L : List (Nat × Obj)} {bd : Nat} (h : DevO w0 bd) (H : St w0 [] w L) : DevO w bd := by
  obtain ⟨bp, bs, m, T, fz, hb⟩ := h
  exact ⟨bp, bs, m, T, fz, H.rd0 hb⟩
theorem devO_both {w : World} {ba bb : Nat} (h1 : DevO w ba) (h2 : DevO w bb) (i : Nat) : DevO w (bI ba bb i) := by
  unfold bI; split
  · exact h1
  · exact h2
end
/-! ### Sectors of noughts are not sealed -/
theorem zs_bad2 : (List.range 256).all (fun n => decide (lsO (By.zero 32) (putB (n : Int) 4 ++ headS 0 []) 0 ≠ 0 ∨ lsO (By.zero 32) (putB (n : Int) 4 ++ headS 0 []) 1 ≠ 0)) = true := by decide +kernel
theorem zS_unsealed2 {n : Nat} (h : n < 256) : ¬ Sealed (n : Int) zS := by
  rintro ⟨_, hs⟩
  have hb := of_decide_eq_true (List.all_eq_true.1 zs_bad2 n (List.mem_range.2 h))
  have hg : genU zS = 0 := zero_gen
  have hy : bodyU zS = [] := by decide
  rw [hg, hy] at hs
  have h1 : (sealS (n : Int) 0 []).1 = sealL (n : Int) 0 [] := sealS_val (Nat.zero_le _)
  have e : ∀ j, j < 16 → zS.1[j]? = some (0 : UInt8) → lsO (By.zero 32) (putB (n : Int) 4 ++ headS 0 []) j = 0 := by
    intro j hj h0
    have h2 : (sealL (n : Int) 0 [])[j]? = some (0 : UInt8) := by rw [← h1, ← hs]; exact h0
    have h3 : (sealL (n : Int) 0 [])[j]? = some (lsO (By.zero 32) (putB (n : Int) 4 ++ headS 0 []) j) := by
      unfold sealL litSum
      rw [List.getElem?_append_left (by simp; omega)]
      simp [hj]
    rw [h2] at h3
    exact (Option.some.inj h3).symm
  rcases hb with hb | hb
  · exact hb (e 0 (by decide) rfl)
  · exact hb (e 1 (by decide) rfl)
def ZC (C : List Sec) : Prop := ∀ n, sd C n = zS
theorem ZC.rep (m : Nat) : ZC (List.replicate m zS) := fun n => by unfold sd; exact getD_replicate _ _ _
theorem ZC.genB {C : List Sec} (h : ZC C) : GenB C := by
  intro n _ _
  rw [h n, show genU zS = 0 from zero_gen]; decide
theorem ZC.step {p : LS × List (Int × Int × List UInt8)} (h : ZC p.1.C) {i j : Nat} (h0 : 0 ≤ slotN p.1 i j) (h1 : slotN p.1 i j < 256) : stepF p i j = p := by
  unfold stepF
  rw [h, if_neg]
  have := zS_unsealed2 (n := (slotN p.1 i j).toNat) (by omega)
  rwa [Int.toNat_of_nonneg h0] at this
theorem ZC.opJ {p : LS × List (Int × Int × List UInt8)} (h : ZC p.1.C) {i : Nat} (hF : LogF p.1) (hi : (i : Int) < p.1.g) (h256 : 2 + p.1.g * p.1.z ≤ 255) : ∀ j : Nat, (j : Int) ≤ p.1.z → opJ p i j = p
  | 0, _ => rfl
  | j + 1, hj => by
    show stepF (Go.Er.opJ p i j) i j = p
    rw [ZC.opJ h hF hi h256 j (by omega)]
    have hsz := sz_rng (s := (i : Int)) (g := p.1.g) (z := p.1.z) (by omega) hi (by have := hF.z0; omega)
    exact h.step (by unfold slotN; omega) (by unfold slotN; omega)
theorem ZC.opI {p : LS × List (Int × Int × List UInt8)} (h : ZC p.1.C) (hF : LogF p.1) (h256 : 2 + p.1.g * p.1.z ≤ 255) : ∀ i : Nat, (i : Int) ≤ p.1.g → opI p i = p
  | 0, _ => rfl
  | i + 1, hi => by
    show Go.Er.opJ (Go.Er.opI p i) i p.1.z.toNat = p
    rw [ZC.opI h hF h256 i (by omega)]
    exact h.opJ hF (by omega) h256 _ (by have := hF.z0; omega)
theorem found_none {g z : Int} {C : List Sec} {fs : List FdL} (h : ZC C) (hO : LogO (openL0 g z C)) (h256 : 2 + g * z ≤ 255) (hp : (fs.map fdP).Perm (opI (openL0 g z C, []) g.toNat).2) : fs.length = 0 := by
  have hg := hO.1.g0
  have hg' : (openL0 g z C).g = g := rfl
  rw [ZC.opI (p := (openL0 g z C, [])) h hO.1 h256 _ (by show (g.toNat : Int) ≤ g; rw [hg'] at hg; omega)] at hp
  have := hp.length_eq
  rwa [List.length_map] at this
end Go.Er

