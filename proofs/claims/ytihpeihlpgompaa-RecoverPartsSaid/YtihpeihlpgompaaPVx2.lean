import Derived.Test.YtihpeihlpgompaaPVx1
import Derived.Maps.RangeRun
/-
  The document's log; what is done to a log; a rig.
-/
namespace Go.Er
open Go
/-! ### The document's log -/
def xrC (z h s k : Int) (a : Option Addr) (n c : Nat) : List Value := [.int .i64 z, .int .i64 h, .int .i64 s, .slice a n c, .int .u64 k]
def xrL (x : LS) (a : Option Addr) (c : Nat) : List Value := xrC x.z x.head x.slot x.known a x.gens.length c
theorem xrC_length (z h s k : Int) (a : Option Addr) (n c : Nat) : (xrC z h s k a n c).length = 5 := rfl
theorem xrC_td (z h s k : Int) (a : Option Addr) (n c : Nat) : ((xrC z h s k a n c).drop 0).take 5 = xrC z h s k a n c := rfl
theorem xrC_one (z h s k : Int) (a : Option Addr) (n c : Nat) : ∀ v ∈ xrC z h s k a n c, v.oneCell' = true := by
  intro v hv
  simp only [xrC, List.mem_cons, List.not_mem_nil, or_false] at hv
  rcases hv with rfl | rfl | rfl | rfl | rfl <;> rfl
theorem xrC_sp {z h s k z' h' s' k' : Int} {a a' : Option Addr} {n c n' c' : Nat} : splice (xrC z h s k a n c) 0 (xrC z' h' s' k' a' n' c') = xrC z' h' s' k' a' n' c' := rfl
theorem xrC_sp0 {l : List Value} {z h s k : Int} {a : Option Addr} {n c : Nat} (hl : l.length = 5) : splice l 0 (xrC z h s k a n c) = xrC z h s k a n c := splice_all (by rw [hl, xrC_length])
theorem xrL_length (x : LS) (a : Option Addr) (c : Nat) : (xrL x a c).length = 5 := rfl
theorem xrL_td (x : LS) (a : Option Addr) (c : Nat) : ((xrL x a c).drop 0).take 5 = xrL x a c := rfl
theorem xrL_one (x : LS) (a : Option Addr) (c : Nat) : ∀ v ∈ xrL x a c, v.oneCell' = true := xrC_one _ _ _ _ _ _ _
theorem xrL_sp (x y : LS) (a b : Option Addr) (c e : Nat) : splice (xrL x a c) 0 (xrL y b e) = xrL y b e := rfl
theorem RowN.urowM {w0 w : World} {X : List Nat} {L : List (Nat × Obj)} {E : TypeId} {ns : List Int} {n : Nat} {a : Option Addr} {cap : Nat} {N : List (Nat × Obj)} (h : RowN 1 E (uC ns) n a cap N) (H : St w0 X w L) (hs : ∀ p ∈ N, p ∈ L) : URow w a ns := by
  intro hx
  obtain ⟨hl, _, ⟨rfl, _⟩ | ⟨b, sp, rfl, _, rfl⟩⟩ := h
  · rw [uC_length] at hl; omega
  · exact ⟨b, 0, [], sp, E, (0, 0), rfl, H.own (b, _) (hs _ (List.mem_singleton.2 rfl)), rfl⟩
theorem RowN.own1 {E : TypeId} {ns : List Int} {a : Option Addr} {cap : Nat} {N : List (Nat × Obj)} (h : RowN 1 E (uC ns) ns.length a cap N) (h0 : 0 < ns.length) : ∃ b sp, a = Option.some ⟨b, 0, none⟩ ∧ N = [(b, .cells (uC ns ++ sp).toArray E (0, 0))] ∧ ns.length ≤ cap ∧ cap ≤ ns.length + sp.length := by
  obtain ⟨_, hc, ⟨h1, _⟩ | ⟨b, sp, rfl, hcap, rfl⟩⟩ := h
  · omega
  · refine ⟨b, sp, rfl, rfl, hc, ?_⟩
    rw [Nat.mul_one, List.length_append, uC_length] at hcap
    exact hcap
theorem RowN.mk1 {E : TypeId} {ns : List Int} {b cap : Nat} {sp : List Value} (h1 : ns.length ≤ cap) (h : cap ≤ ns.length + sp.length) : RowN 1 E (uC ns) ns.length (Option.some ⟨b, 0, none⟩) cap [(b, .cells (uC ns ++ sp).toArray E (0, 0))] :=
  ⟨by rw [uC_length, Nat.mul_one], h1, .inr ⟨b, sp, rfl, by rw [Nat.mul_one, List.length_append, uC_length]; exact h, rfl⟩⟩
theorem uC_setA (ns : List Int) (sp : List Value) (i : Nat) (x : Int) {o : Nat} (hi : i < ns.length) (ho : o = i) : (uC ns ++ sp).set o (.int .u64 x) = uC (ns.set i x) ++ sp := by
  subst ho
  rw [List.set_append_left _ _ (by rw [uC_length]; exact hi)]
  unfold uC; rw [List.map_set]
theorem uC_atA (ns : List Int) (sp : List Value) {i o : Nat} (hi : i < ns.length) (ho : o = i) : (uC ns ++ sp)[o]? = some (.int .u64 (ns.getD i 0)) := by
  rw [List.getElem?_append_left (by rw [uC_length]; omega)]
  exact uC_at ns hi ho
/-! ### What is appended -/
def refAt (r : LS × Int × Int) : Int := if r.2.2 = 0 then r.2.1 else -1
theorem putL_same {x : LS} (hF : LogF x) (h0 : 0 ≤ x.head) (body : List UInt8) : (putL x x.head x.slot (x.gens.getD x.head.toNat 0) body).gens = x.gens ∧ (putL x x.head x.slot (x.gens.getD x.head.toNat 0) body).known = x.known := by
  have hi : x.head.toNat < x.gens.length := by have := hF.gl; have := hF.h.2; omega
  refine ⟨?_, ?_⟩
  · show x.gens.set x.head.toNat (x.gens.getD x.head.toNat 0) = x.gens
    rw [List.getD_eq_getElem?_getD, List.getElem?_eq_getElem hi]
    exact List.set_getElem_self hi
  · show (if _ then _ else _) = _
    rw [if_neg]
    have := hF.kg _ (getD_mem (ns := x.gens) (i := x.head.toNat) hi)
    omega
theorem firstZ_rng {x : LS} (hF : LogF x) : firstZ x.gens < x.g := by
  have := hF.gl; have := hF.g0
  rcases firstZ_cases x.gens with ⟨e, _⟩ | ⟨i, hi, e, _⟩ <;> omega
theorem appL_cases {x : LS} (hF : LogF x) {body : List UInt8} (hb : body.length ≤ 103) :
    (appL x body = (x, 0, 6)) ∨ ∃ s t gn, 0 ≤ s ∧ s < x.g ∧ 0 ≤ t ∧ t < x.z ∧ 0 ≤ gn ∧ gn ≤ x.known + 1 ∧ appL x body = (putL x s t gn body, 2 + s * x.z + t, 0) := by
  unfold appL
  rw [if_neg (by omega)]
  have hk := hF.k
  split
  · rename_i h
    have hi : x.head.toNat < x.gens.length := by have := hF.gl; have := hF.h.2; omega
    refine .inr ⟨x.head, x.slot, x.gens.getD x.head.toNat 0, h.1, hF.h.2, hF.s.1, h.2, (hF.u.get hi).1, ?_, rfl⟩
    have := hF.kg _ (getD_mem (ns := x.gens) (i := x.head.toNat) hi)
    omega
  · split
    · rename_i h
      have := hF.z0
      exact .inr ⟨firstZ x.gens, 0, x.known + 1, h, firstZ_rng hF, Int.le_refl _, by omega, by omega, Int.le_refl _, rfl⟩
    · exact .inl rfl
/-! ### Bytes referred to -/
structure Bd where
  a : Option Addr
  b : List UInt8
  c : Nat
def bdV (y : Bd) : Value := .slice y.a y.b.length y.c
def bdZ : Bd := ⟨none, [], 0⟩
def bdR (ys : List Bd) : List Value := ys.map bdV
theorem bdR_length (ys : List Bd) : (bdR ys).length = ys.length := by simp [bdR]
theorem bdR_at (ys : List Bd) {i o : Nat} (hi : i < ys.length) (ho : o = i) : (bdR ys)[o]? = some (bdV (ys.getD i bdZ)) := by
  subst ho; simp [bdR, List.getD_eq_getElem?_getD, hi]
theorem bdR_set (ys : List Bd) (i : Nat) (y : Bd) {o : Nat} (ho : o = i) : (bdR ys).set o (bdV y) = bdR (ys.set i y) := by
  subst ho; unfold bdR; rw [List.map_set]
theorem getD_set {α : Type} (xs : List α) (i j : Nat) (x d : α) (hi : i < xs.length) : (xs.set i x).getD j d = if i = j then x else xs.getD j d := by
  rw [List.getD_eq_getElem?_getD, List.getD_eq_getElem?_getD, List.getElem?_set]
  by_cases h : i = j
  · subst h; rw [if_pos rfl, if_pos hi, if_pos rfl]; rfl
  · rw [if_neg h, if_neg h]
structure DoL where
  kind : Int
  n : Int
  body : Bd
def doC (y : DoL) : List Value := [.int .u8 y.kind, .int .u8 y.n, bdV y.body]
theorem elDo : Elem doC 3 := ⟨fun _ => rfl, fun y v hv => by
  simp only [doC, bdV, List.mem_cons, List.not_mem_nil, or_false] at hv
  rcases hv with rfl | rfl | rfl <;> rfl⟩
def doZ : DoL := ⟨0, 0, bdZ⟩
def dl (ys : List DoL) (i : Nat) : DoL := ys.getD i doZ
theorem dl_get {ys : List DoL} {i : Nat} (h : i < ys.length) : ys[i]? = some (dl ys i) := by
  unfold dl; rw [List.getD_eq_getElem?_getD, List.getElem?_eq_getElem h]; rfl
theorem dl_mem {ys : List DoL} {i : Nat} (h : i < ys.length) : dl ys i ∈ ys := List.mem_of_getElem? (dl_get h)
theorem doC_length (y : DoL) : (doC y).length = 3 := rfl
theorem doC_td (y : DoL) : ((doC y).drop 0).take 3 = doC y := rfl
theorem doC_sp (x y : DoL) : splice (doC x) 0 (doC y) = doC y := rfl
/-! ### A rig -/
def rigC (p a b m l : Option Addr) (g z : Int) : List Value := [.pointer p, .pointer a, .pointer b, .pointer m, .pointer l, .int .i64 g, .int .i64 z]
theorem rigC_length (p a b m l : Option Addr) (g z : Int) : (rigC p a b m l g z).length = 7 := rfl
theorem rigC_td (p a b m l : Option Addr) (g z : Int) : ((rigC p a b m l g z).drop 0).take 7 = rigC p a b m l g z := rfl
theorem rigC_sh (p a b m l : Option Addr) (g z : Int) : ((rigC p a b m l g z).drop (0 + 5)).take 2 = shC g z := rfl
theorem rigC_one (p a b m l : Option Addr) (g z : Int) : ∀ v ∈ rigC p a b m l g z, v.oneCell' = true := by
  intro v hv
  simp only [rigC, List.mem_cons, List.not_mem_nil, or_false] at hv
  rcases hv with rfl | rfl | rfl | rfl | rfl | rfl | rfl <;> rfl
theorem rigC_sp {p a b m l p' a' b' m' l' : Option Addr} {g z g' z' : Int} : splice (rigC p a b m l g z) 0 (rigC p' a' b' m' l' g' z') = rigC p' a' b' m' l' g' z' := rfl
/-- a log of which nothing is used -/
def newL (g z : Int) : LS := ⟨List.replicate (2 + g * z).toNat zS, List.replicate g.toNat 0, -1, 0, 0, g, z⟩
theorem newL_F {g z : Int} (h0 : 3 ≤ g) (h1 : g ≤ 64) (h2 : 1 ≤ z) (h3 : z ≤ 32) : LogF (newL g z) := by
  have hgz := gz_rng (g := g) (z := z) (by omega) h1 (by omega) h3
  refine ⟨h0, h1, h2, h3, ?_, ?_, ?_, ⟨Int.le_refl _, by show -1 < g; omega⟩, ⟨Int.le_refl _, by show 0 ≤ z; omega⟩, ⟨Int.le_refl _, by show (0 : Int) < _; decide⟩, ?_⟩
  · show ((List.replicate g.toNat (0 : Int)).length : Int) = g
    rw [List.length_replicate]; omega
  · show 2 + g * z ≤ ((List.replicate (2 + g * z).toNat zS).length : Int)
    rw [List.length_replicate]; omega
  · intro n hn; rw [List.eq_of_mem_replicate hn]; exact ⟨Int.le_refl _, by decide⟩
  · intro n hn; rw [List.eq_of_mem_replicate hn]; exact Int.le_refl _
/-! ### What was appended at the places -/
def PL (C : List Sec) (k : Int) (gs : List Int) (bs : List Bd) (at_ : Nat) : Prop :=
  (sd C at_ = zS ∧ gs.getD at_ 0 = 0) ∨ (0 ≤ gs.getD at_ 0 ∧ gs.getD at_ 0 ≤ k ∧ (bs.getD at_ bdZ).b.length ≤ 103 ∧ sd C at_ = sealS (at_ : Nat) (gs.getD at_ 0) (bs.getD at_ bdZ).b)
theorem PL.new {C : List Sec} {k : Int} {gs : List Int} {bs : List Bd} {at_ : Nat} (h : sd C at_ = zS) (h2 : gs.getD at_ 0 = 0) : PL C k gs bs at_ := .inl ⟨h, h2⟩
theorem PL.mono {C : List Sec} {k k' : Int} {gs : List Int} {bs : List Bd} {at_ : Nat} (h : PL C k gs bs at_) (hk : k ≤ k') : PL C k' gs bs at_ := by
  rcases h with h | ⟨a, b, c⟩
  · exact .inl h
  · exact .inr ⟨a, by omega, c⟩
theorem PL.put {C : List Sec} {k k' : Int} {gs : List Int} {bs : List Bd} {at_ n : Nat} {gn : Int} {y : Bd} (h : PL C k gs bs at_) (hk : k ≤ k') (hn : n < C.length) (hg : n < gs.length) (hb : n < bs.length) (h0 : 0 ≤ gn) (h1 : gn ≤ k') (hy : y.b.length ≤ 103) :
    PL (C.set n (sealS (n : Nat) gn y.b)) k' (gs.set n gn) (bs.set n y) at_ := by
  unfold PL
  rw [sd_set hn, getD_set _ _ _ _ _ hg, getD_set _ _ _ _ _ hb]
  by_cases e : n = at_
  · subst e
    rw [if_pos rfl, if_pos rfl, if_pos rfl]
    exact .inr ⟨h0, h1, hy, rfl⟩
  · rw [if_neg e, if_neg e, if_neg e]
    exact h.mono hk
/-- what a reading finds is what was appended, just if the generations are one -/
theorem PL.read {C : List Sec} {k : Int} {gs : List Int} {bs : List Bd} {at_ : Nat} {gn : Int} (h : PL C k gs bs at_) (hk : k < 1000000000) (hg : gn ≠ 0) :
    (gs.getD at_ 0 = gn → Sealed (at_ : Nat) (sd C at_) ∧ genU (sd C at_) = gn ∧ bodyU (sd C at_) = (bs.getD at_ bdZ).b) ∧ (gs.getD at_ 0 ≠ gn → ¬ (Sealed (at_ : Nat) (sd C at_) ∧ genU (sd C at_) = gn)) := by
  rcases h with ⟨h1, h2⟩ | ⟨h0, h1, h2, h3⟩
  · refine ⟨fun h => absurd (h.symm.trans h2) hg, fun _ h => hg ?_⟩
    rw [← h.2, h1]; exact zero_gen
  · have e := seal_gen (at_ := (at_ : Nat)) h2 (gen := gs.getD at_ 0) h0 (by omega)
    refine ⟨fun h => ⟨?_, ?_, ?_⟩, fun h hs => h ?_⟩
    · rw [h3]; exact seal_ok h2 h0 (by omega)
    · rw [h3, e]; exact h
    · rw [h3]; exact seal_body h2
    · rw [← e, ← h3]; exact hs.2
/-! ### Small words -/
section
variable {P : Program} {w0 w : World} {X : List Nat} {L : List (Nat × Obj)} {l : Fr} {d : Option Tmp} {ty : TypeId} {pos : String} {after : Array Edge} {g : Option (Nat × Bool)} {x y : Operand} {T T' E : TypeId} {b : Nat} {a : Option Addr}
theorem r_textB {c : Nat} {bs : List UInt8} (hu : Und P T (.slice E)) (hu' : Und P T' .string) (he : Und P E (.int .u8)) (hx : evl l x = .slice a bs.length c) (hr : BRow w a bs) : (execOp (evl l) ⟨d, .convert T T' x, ty, pos, after, g⟩).run P w = .ok (.value (.string (bytesS bs))) w := by
  rcases Nat.eq_zero_or_pos bs.length with hz | hp
  · have : bs = [] := List.length_eq_zero_iff.1 hz
    subst this
    cases a with
    | none => exact r_text0 hu hu' he hx
    | some a =>
      have h2 := run_bytesToString (P := P) w a 0 c [] rfl
      rw [List.foldl_nil] at h2
      have hx' : evl l x = .slice (some a) 0 c := hx
      have e2 : ByteArray.empty = bytesS [] := rfl
      rw [e2] at h2
      simp [execOp, convert, hx', hu w, hu' w, he w, h2]
  · exact r_textR hu hu' he hx hp hr
theorem r_neqT {s t : List UInt8} {T'' : TypeId} (hx : evl l x = .string (bytesS s)) (hy : evl l y = .string (bytesS t)) : (execOp (evl l) ⟨d, .binOp .neq T x y T'', ty, pos, after, g⟩).run P w = .ok (.value (.bool (decide (s ≠ t)))) w := by
  have e : ((bytesS s).toList == (bytesS t).toList) = decide (s = t) := by rw [bytesS_toList, bytesS_toList]; rw [Bool.eq_iff_iff]; simp
  simp only [execOp, hx, hy, eqGuard, binOp, Op.stringOp, e]
  simp
theorem m_mark {n c k : Nat} {cs : List Value} {F : TypeId} (H : St w0 X w L) (hk : L[k]? = some (b, .cells cs.toArray F (0, 0))) (hu : Und P T (.slice E)) (he : Und P E (.int .u8)) (hx : evl l x = .slice (some ⟨b, 0, none⟩) n c) :
    ∃ v w', (execOp (evl l) ⟨d, .convert T T x, ty, pos, after, g⟩).run P w = .ok (.value v) w' ∧ (v = .slice (some ⟨b, 0, none⟩) n c ∧ St w0 X w' (L.set k (b, .cells cs.toArray F (cs.length, cs.length + 1)))) := by
  have hb := H.at k hk
  refine ⟨_, w.freeze ⟨b, cs.length, none⟩ 1, ?_, rfl, H.put k hk ?_ ?_ ?_ ?_ ?_ ?_ ?_⟩
  · have hs : w.shape? b = some (F, cs.length) := by simp [World.shape?, hb]
    simp [execOp, convert, hx, hu w, he w, markStringish, hs]
  · rfl
  · rfl
  · rfl
  · rfl
  · simp [World.freeze]
  · simp [World.freeze, Array.getElem?_modify, hb]
  · intro c hc
    simp [World.freeze, Array.getElem?_modify, Ne.symm hc]
end
/-! ### A region whose kept state has what is not known -/
theorem St.one {w0 w : World} {X : List Nat} {L : List (Nat × Obj)} (H : St w0 X w L) (k : Nat) {b : Nat} {o : Obj} (hk : L[k]? = some (b, o)) : St w0 X w [(b, o)] :=
  H.sub (List.singleton_sublist.2 (List.mem_of_getElem? hk))
theorem d_beginS {P : Program} {Q : Exit → Act → World → Prop} {w0 w : World} {X : List Nat} {L : List (Nat × Obj)} {l : List Value} {ops : List Oper} {n : Nat} (S : World → Prop) {id sz : Nat} (hz : l.length = sz ∧ Nat.ble sz 1000 = true) (hm : P.follows .mixedOrders = true) (H : St w0 X w L) (_ : S w) (hn : ops.length = n)
    (h : ∀ w, St w0 X w L → RG P ops Q S n (List.replicate n false) ⟨[], l, sz, hz⟩ w) : (Code.region id ops.toArray true).wp P Q ⟨l.toArray, []⟩ w := by
  refine wp_region_held (S := S) hm ?_
  have h' := h { w with drawn := w.drawn + 1 } (H.drew (Nat.le_succ _))
  subst hn
  unfold RG at h'
  rw [Fr.all_nil] at h'
  simpa using h'
theorem xrL_sp0 (y : LS) (a b : Option Addr) (c e : Nat) : splice (xrC 0 0 0 0 a 0 c) 0 (xrL y b e) = xrL y b e := rfl
/-! ### The example -/
def litZ : List Value := (List.replicate 32 (.int .u8 0)) ++ (.int .u64 0 :: List.replicate 32 (.int .u8 0))
def awL : Nat → LS
  | 0 => newL 4 2
  | i + 1 => (appL (awL i) [97]).1
def awA : Nat → Int
  | 0 => 0
  | i + 1 => (appL (awL i) [97]).2.1
theorem aw0 : appL (newL 4 2) [97] = (putL (newL 4 2) 0 0 1 [97], 2, 0) := by
  unfold appL
  rw [if_neg (by decide), if_neg (by decide), if_pos (by decide)]
  rfl
theorem aw1 : appL (putL (newL 4 2) 0 0 1 [97]) [97] = (putL (putL (newL 4 2) 0 0 1 [97]) 0 1 1 [97], 3, 0) := by
  unfold appL
  rw [if_neg (by decide), if_pos (by decide)]
  rfl
def aw2L : LS := putL (putL (newL 4 2) 0 0 1 [97]) 0 1 1 [97]
theorem aw2 : appL aw2L [97] = (putL aw2L 1 0 2 [97], 4, 0) := by
  unfold appL
  rw [if_neg (by decide), if_neg (by decide), if_pos (by decide)]
  rfl
def aw3L : LS := putL aw2L 1 0 2 [97]
theorem awL3 : awL 3 = aw3L := by
  show (appL (appL (appL (newL 4 2) [97]).1 [97]).1 [97]).1 = _
  rw [aw0]; show (appL (appL (putL (newL 4 2) 0 0 1 [97]) [97]).1 [97]).1 = _
  rw [aw1]; show (appL aw2L [97]).1 = _
  rw [aw2]; rfl
theorem awA3 : awA 3 = 4 := by
  show (appL (appL (appL (newL 4 2) [97]).1 [97]).1 [97]).2.1 = _
  rw [aw0]; show (appL (appL (putL (newL 4 2) 0 0 1 [97]) [97]).1 [97]).2.1 = _
  rw [aw1]; show (appL aw2L [97]).2.1 = _
  rw [aw2]
theorem aw_ok {i : Nat} (hi : i < 3) : (appL (awL i) [97]).2.2 = 0 := by
  obtain rfl | rfl | rfl : i = 0 ∨ i = 1 ∨ i = 2 := by omega
  · show (appL (newL 4 2) [97]).2.2 = 0
    rw [aw0]
  · show (appL (appL (newL 4 2) [97]).1 [97]).2.2 = 0
    rw [aw0]; show (appL (putL (newL 4 2) 0 0 1 [97]) [97]).2.2 = 0
    rw [aw1]
  · show (appL (appL (appL (newL 4 2) [97]).1 [97]).1 [97]).2.2 = 0
    rw [aw0]; show (appL (appL (putL (newL 4 2) 0 0 1 [97]) [97]).1 [97]).2.2 = 0
    rw [aw1]; show (appL aw2L [97]).2.2 = 0
    rw [aw2]
theorem aw_known {i : Nat} (hi : i < 3) : (awL i).known ≤ 3 := by
  obtain rfl | rfl | rfl : i = 0 ∨ i = 1 ∨ i = 2 := by omega
  · show (newL 4 2).known ≤ 3; decide
  · show (appL (newL 4 2) [97]).1.known ≤ 3
    rw [aw0]; decide
  · show (appL (appL (newL 4 2) [97]).1 [97]).1.known ≤ 3
    rw [aw0]; show (appL (putL (newL 4 2) 0 0 1 [97]) [97]).1.known ≤ 3
    rw [aw1]; decide
theorem aw3_g : aw3L.g = 4 ∧ aw3L.z = 2 ∧ aw3L.head = 1 ∧ aw3L.slot = 1 ∧ aw3L.gens = [1, 2, 0, 0] := ⟨rfl, rfl, rfl, rfl, rfl⟩
theorem aw3_C : sd aw3L.C 4 = sealS 4 2 [97] := by
  have e : aw3L.C = aw2L.C.set 4 (sealS 4 2 [97]) := rfl
  rw [e, sd_set, if_pos rfl]
  show 4 < ((((List.replicate 10 zS).set 2 _).set 3 _)).length
  rw [List.length_set, List.length_set, List.length_replicate]
  decide
theorem aw3_room : room aw3L = 5 := by decide
section
variable {w0 w : World} {X : List Nat} {x y a b c d e f p : Nat × Obj} {A B C T : List (Nat × Obj)}
theorem St.trMade (H : St w0 X w (x :: y :: (A ++ (B ++ (p :: C))))) : St w0 X w (x :: y :: p :: (A ++ B)) := by
  refine (H.sub (L' := x :: y :: (A ++ (B ++ [p]))) (.cons_cons _ (.cons_cons _ ((List.Sublist.refl _).append ((List.Sublist.refl _).append (.cons_cons _ (List.nil_sublist _))))))).perm (.cons _ (.cons _ ?_))
  rw [← List.append_assoc]
  exact (List.perm_append_comm (l₁ := [p]))
theorem St.trMir (H : St w0 X w ([a, b, c] ++ (d :: e :: f :: p :: T))) : St w0 X w (e :: f :: a :: c :: b :: d :: p :: T) :=
  ((((((((H.swp 3 (L' := a :: b :: c :: e :: d :: f :: p :: T) rfl).swp 2 (L' := a :: b :: e :: c :: d :: f :: p :: T) rfl).swp 1 (L' := a :: e :: b :: c :: d :: f :: p :: T) rfl).swp 0 (L' := e :: a :: b :: c :: d :: f :: p :: T) rfl).swp 4 (L' := e :: a :: b :: c :: f :: d :: p :: T) rfl).swp 3 (L' := e :: a :: b :: f :: c :: d :: p :: T) rfl).swp 2 (L' := e :: a :: f :: b :: c :: d :: p :: T) rfl).swp 1 (L' := e :: f :: a :: b :: c :: d :: p :: T) rfl).swp 3 rfl
end
end Go.Er


/-
  Cells: their fields, when they may be, how they are read from bytes.
-/
namespace Go.Er
open Go
/-! ### A cell -/
structure Ce where
  kind : Int
  num : Int
  min : Int
  br : Int
  vol : Int
  blk : Int
  ref : Int
  fr : Int
  to : Int
  un : Int
  body : Bd
def ceC (y : Ce) : List Value := [.int .i64 y.kind, .int .u64 y.num, .int .i64 y.min, .int .i64 y.br, .int .i64 y.vol, .int .i64 y.blk, .int .u64 y.ref, .int .i64 y.fr, .int .i64 y.to, .int .i64 y.un, bdV y.body]
def ce0 : Ce := ⟨0, 0, 0, 0, 0, 0, 0, 0, 0, 0, bdZ⟩
def plV (a b c : Int) : List Value := [.int .i64 a, .int .i64 b, .int .i64 c]
theorem ceC_length (y : Ce) : (ceC y).length = 11 := rfl
theorem ceC_td (y : Ce) : ((ceC y).drop 0).take 11 = ceC y := rfl
theorem ceC_place (y : Ce) : ((ceC y).drop (0 + 3)).take 3 = plV y.br y.vol y.blk := rfl
theorem ceC_one (y : Ce) : ∀ v ∈ ceC y, v.oneCell' = true := by
  intro v hv
  simp only [ceC, bdV, List.mem_cons, List.not_mem_nil, or_false] at hv
  rcases hv with rfl | rfl | rfl | rfl | rfl | rfl | rfl | rfl | rfl | rfl | rfl <;> rfl
theorem elCe : Elem ceC 11 := ⟨ceC_length, ceC_one⟩
theorem ceC_sp (x y : Ce) : splice (ceC x) 0 (ceC y) = ceC y := rfl
theorem plV_length (a b c : Int) : (plV a b c).length = 3 := rfl
theorem plV_td (a b c : Int) : ((plV a b c).drop 0).take 3 = plV a b c := rfl
theorem plV_one (a b c : Int) : ∀ v ∈ plV a b c, v.oneCell' = true := by
  intro v hv
  simp only [plV, List.mem_cons, List.not_mem_nil, or_false] at hv
  rcases hv with rfl | rfl | rfl <;> rfl
/-- all fields are -/
def ceEq (a b : Ce) : Prop := a.kind = b.kind ∧ a.num = b.num ∧ a.min = b.min ∧ (a.br = b.br ∧ a.vol = b.vol ∧ a.blk = b.blk) ∧ a.ref = b.ref ∧ a.fr = b.fr ∧ a.to = b.to ∧ a.un = b.un ∧ a.body.b = b.body.b
instance (a b : Ce) : Decidable (ceEq a b) := by unfold ceEq; infer_instance
theorem ceEq.refl (a : Ce) : ceEq a a := ⟨rfl, rfl, rfl, ⟨rfl, rfl, rfl⟩, rfl, rfl, rfl, rfl, rfl⟩
/-- a cell by its fields and its bytes alone -/
structure Cp where
  kind : Int
  num : Int
  min : Int
  br : Int
  vol : Int
  blk : Int
  ref : Int
  fr : Int
  to : Int
  un : Int
  body : List UInt8
def ceP (y : Ce) : Cp := ⟨y.kind, y.num, y.min, y.br, y.vol, y.blk, y.ref, y.fr, y.to, y.un, y.body.b⟩
theorem ceP_eq {a b : Ce} : ceP a = ceP b ↔ ceEq a b := by
  constructor
  · intro h
    unfold ceP at h
    injection h with h1 h2 h3 h4 h5 h6 h7 h8 h9 h10 h11
    exact ⟨h1, h2, h3, ⟨h4, h5, h6⟩, h7, h8, h9, h10, h11⟩
  · rintro ⟨h1, h2, h3, ⟨h4, h5, h6⟩, h7, h8, h9, h10, h11⟩
    unfold ceP
    rw [h1, h2, h3, h4, h5, h6, h7, h8, h9, h10, h11]
/-! ### Which fields a kind has -/
def kPl (k : Int) : Bool := decide (1 ≤ k ∧ k ≤ 5)
def kRf (k : Int) : Bool := decide ((1 ≤ k ∧ k ≤ 4) ∨ k = 6 ∨ k = 7)
def kMi (k : Int) : Bool := decide (k = 6)
def kBo (k : Int) : Bool := decide (k = 1 ∨ k = 3)
def kOk (k : Int) : Bool := decide (1 ≤ k ∧ k ≤ 8)
def ptC (a b c d : Bool) : List Value := [.bool a, .bool b, .bool c, .bool d]
theorem ptC_length (a b c d : Bool) : (ptC a b c d).length = 4 := rfl
theorem ptC_td (a b c d : Bool) : ((ptC a b c d).drop 0).take 4 = ptC a b c d := rfl
theorem ptC_one (a b c d : Bool) : ∀ v ∈ ptC a b c d, v.oneCell' = true := by
  intro v hv
  simp only [ptC, List.mem_cons, List.not_mem_nil, or_false] at hv
  rcases hv with rfl | rfl | rfl | rfl <;> rfl
/-! ### When a cell may be -/
def inM (n most : Int) : Prop := 0 ≤ n ∧ n ≤ most
instance (n m : Int) : Decidable (inM n m) := by unfold inM; infer_instance
def thereC (y : Cp) : Prop := inM y.br 15 ∧ inM y.vol 7 ∧ inM y.blk 255
instance (y : Cp) : Decidable (thereC y) := by unfold thereC; infer_instance
def elderC (y : Cp) : Prop := 1 ≤ y.ref ∧ y.ref < y.num
instance (y : Cp) : Decidable (elderC y) := by unfold elderC; infer_instance
def branchC (y : Cp) : Prop := 1 ≤ y.br ∧ y.br < 16
instance (y : Cp) : Decidable (branchC y) := by unfold branchC; infer_instance
def fieldsC (y : Cp) : Prop :=
  if y.kind = 1 then thereC y ∧ y.ref ≤ 1 ∧ y.body.length = 32
  else if y.kind = 2 then thereC y ∧ elderC y
  else if y.kind = 3 then thereC y ∧ elderC y ∧ 1 ≤ y.body.length ∧ y.body.length ≤ 20
  else if y.kind = 4 then branchC y ∧ inM y.vol 15 ∧ y.vol ≠ y.br ∧ y.blk = 0 ∧ elderC y
  else if y.kind = 5 then branchC y ∧ y.vol = 0 ∧ y.blk = 0
  else if y.kind = 6 then 1 ≤ y.ref ∧ y.ref ≤ 65535 ∧ inM y.fr y.to ∧ inM y.to 1073741824 ∧ inM y.un 1073741824
  else if y.kind = 7 then 1 ≤ y.ref ∧ y.ref ≤ 65535
  else True
instance (y : Cp) : Decidable (fieldsC y) := by unfold fieldsC; infer_instance
/-- only what its kind has is told -/
def onlyC (y : Cp) : Prop := (kPl y.kind = false → y.br = 0 ∧ y.vol = 0 ∧ y.blk = 0) ∧ (kRf y.kind = false → y.ref = 0) ∧ (kMi y.kind = false → y.fr = 0 ∧ y.to = 0 ∧ y.un = 0) ∧ (kBo y.kind = false → y.body = [])
instance (y : Cp) : Decidable (onlyC y) := by unfold onlyC; infer_instance
def rightC (y : Cp) : Prop := kOk y.kind = true ∧ onlyC y ∧ 1 ≤ y.num ∧ y.num ≤ 65535 ∧ inM y.min 1073741824 ∧ fieldsC y
instance (y : Cp) : Decidable (rightC y) := by unfold rightC; infer_instance
/-! ### Numbers are taken from bytes -/
def rd (n : Nat) (st : List UInt8 × Bool) : Int × (List UInt8 × Bool) := if st.1.length < n then (0, ([], true)) else (getN (st.1.take n), (st.1.drop n, st.2))
def tk (n : Nat) (st : List UInt8 × Bool) : List UInt8 × (List UInt8 × Bool) := if st.1.length < n then ([], ([], true)) else (st.1.take n, (st.1.drop n, st.2))
def rdI (c : Bool) (n : Nat) (st : List UInt8 × Bool) : Int × (List UInt8 × Bool) := if c = true then rd n st else (0, st)
def tkI (c : Bool) (n : Nat) (st : List UInt8 × Bool) : List UInt8 × (List UInt8 × Bool) := if c = true then tk n st else ([], st)
theorem rd_len (n : Nat) (st : List UInt8 × Bool) : (rd n st).2.1.length ≤ st.1.length := by
  unfold rd
  split
  · exact Nat.zero_le _
  · show (st.1.drop n).length ≤ _; rw [List.length_drop]; omega
theorem tk_len (n : Nat) (st : List UInt8 × Bool) : (tk n st).2.1.length ≤ st.1.length := by
  unfold tk
  split
  · exact Nat.zero_le _
  · show (st.1.drop n).length ≤ _; rw [List.length_drop]; omega
theorem rdI_len (c : Bool) (n : Nat) (st : List UInt8 × Bool) : (rdI c n st).2.1.length ≤ st.1.length := by
  unfold rdI
  split
  · exact rd_len _ _
  · exact Nat.le_refl _
theorem tkI_len (c : Bool) (n : Nat) (st : List UInt8 × Bool) : (tkI c n st).2.1.length ≤ st.1.length := by
  unfold tkI
  split
  · exact tk_len _ _
  · exact Nat.le_refl _
/-- the reader's cells -/
def rdC (a : Option Addr) (st : List UInt8 × Bool) (c : Nat) : List Value := [.slice a st.1.length c, .bool st.2]
/-- what is read of a cell, and what is left; it may be short, or no cell -/
def cellF (bs : List UInt8) : Cp × (List UInt8 × Bool) :=
  let a := rd 1 (bs, false)
  let b := rd 2 a.2
  let c := rd 4 b.2
  let p1 := rdI (kPl a.1) 1 c.2
  let p2 := rdI (kPl a.1) 1 p1.2
  let p3 := rdI (kPl a.1) 2 p2.2
  let f := rdI (kRf a.1) 2 p3.2
  let m1 := rdI (kMi a.1) 4 f.2
  let m2 := rdI (kMi a.1) 4 m1.2
  let m3 := rdI (kMi a.1) 4 m2.2
  let l := rdI (kBo a.1) 1 m3.2
  let o := tkI (kBo a.1) l.1.toNat l.2
  (⟨a.1, b.1, c.1, p1.1, p2.1, p3.1, f.1, m1.1, m2.1, m3.1, o.1⟩, o.2)
/-- the cell with which bytes begin, and what is left -/
def decF (bs : List UInt8) : Option (Cp × List UInt8) :=
  if bs = [] then none else if kOk (rd 1 (bs, false)).1 = false then none else if (cellF bs).2.2 = true then none else if rightC (cellF bs).1 then some ((cellF bs).1, (cellF bs).2.1) else none
end Go.Er


/-
  A reader of bytes; structs of three whole numbers.
-/
namespace Go.Er
open Go
section
variable {w w0 w1 : World} {a : Option Addr} {bs : List UInt8} {c n : Nat}
theorem brow_take (h : BRow w a bs) (n c : Nat) : BRow w (cutA a 1 c 0) (bs.take n) := by
  intro hx
  rw [List.length_take] at hx
  obtain ⟨b, off, pre, post, T, fz, rfl, hb, hp⟩ := h (by omega)
  have e : bC bs = bC (bs.take n) ++ bC (bs.drop n) := by unfold bC; rw [← List.map_append, List.take_append_drop]
  refine ⟨b, off, pre, bC (bs.drop n) ++ post, T, fz, cutA_zero, ?_, hp⟩
  rw [e] at hb
  rw [hb]; simp
theorem brow_drop (h : BRow w a bs) (hc : bs.length ≤ c) (n : Nat) : BRow w (cutA a 1 c n) (bs.drop n) := by
  intro hx
  rw [List.length_drop] at hx
  obtain ⟨b, off, pre, post, T, fz, rfl, hb, hp⟩ := h (by omega)
  have e : bC bs = bC (bs.take n) ++ bC (bs.drop n) := by unfold bC; rw [← List.map_append, List.take_append_drop]
  refine ⟨b, off + n * 1, pre ++ bC (bs.take n), post, T, fz, cutA_some (by omega), ?_, ?_⟩
  · rw [e] at hb
    rw [hb]; simp
  · rw [List.length_append, hp]; simp [bC]; omega
theorem brow_nil (w : World) (a : Option Addr) : BRow w a [] := fun h => absurd h (Nat.lt_irrefl _)
/-- where a reader stands behind so many bytes -/
def ra (a : Option Addr) (c n : Nat) (st : List UInt8 × Bool) : Option Addr := if st.1.length < n then none else cutA a 1 c n
def rc (c n : Nat) (st : List UInt8 × Bool) : Nat := if st.1.length < n then 0 else c - n
/-- what a reader has may be read -/
def RdK (w : World) (a : Option Addr) (st : List UInt8 × Bool) (c : Nat) : Prop := BRow w a st.1 ∧ st.1.length ≤ c ∧ st.1.length ≤ 1000000
theorem RdK.rd {st : List UInt8 × Bool} (h : RdK w a st c) (n : Nat) : RdK w (ra a c n st) (rd n st).2 (rc c n st) := by
  obtain ⟨h1, h2, h3⟩ := h
  unfold ra rc Go.Er.rd
  by_cases hl : st.1.length < n
  · rw [if_pos hl, if_pos hl, if_pos hl]
    exact ⟨brow_nil _ _, Nat.le_refl _, Nat.zero_le _⟩
  · rw [if_neg hl, if_neg hl, if_neg hl]
    refine ⟨brow_drop h1 h2 n, ?_, ?_⟩
    · show (st.1.drop n).length ≤ _; rw [List.length_drop]; omega
    · show (st.1.drop n).length ≤ _; rw [List.length_drop]; omega
theorem RdK.tk {st : List UInt8 × Bool} (h : RdK w a st c) (n : Nat) : RdK w (ra a c n st) (tk n st).2 (rc c n st) := by
  have e : (Go.Er.tk n st).2 = (Go.Er.rd n st).2 := by unfold Go.Er.tk Go.Er.rd; split <;> rfl
  rw [e]; exact h.rd n
theorem rdC_set (a a' : Option Addr) (st : List UInt8 × Bool) (c c' n : Nat) : (rdC a st c).set 0 (.slice a' (st.1.length - n) c') = rdC a' (st.1.drop n, st.2) c' := by
  unfold rdC
  rw [List.length_drop]; rfl
theorem rd_rng {st : List UInt8 × Bool} {n : Nat} (hn : n ≤ 4) : 0 ≤ (rd n st).1 ∧ (rd n st).1 < 4294967296 := by
  unfold rd
  split
  · exact ⟨Int.le_refl _, by decide⟩
  · have h := getN_bound (st.1.take n)
    have h1 : (256 : Nat) ^ (st.1.take n).length ≤ 256 ^ 4 := Nat.pow_le_pow_right (by omega) (by rw [List.length_take]; omega)
    have h2 : ((256 : Int) ^ (st.1.take n).length) ≤ 4294967296 := by
      have e : ((256 : Int) ^ (st.1.take n).length) = (((256 : Nat) ^ (st.1.take n).length : Nat) : Int) := by simp
      rw [e]
      exact Int.ofNat_le.2 h1
    exact ⟨h.1, Int.lt_of_lt_of_le h.2 h2⟩
end
structure TripT (P : Program) (T : TypeId) : Prop where
  und : P.underlying T = some (.struct (P.fieldsOf T))
  std : P.stoodInHeld T = false
  grd : P.eqGuardType P.depth T = false
  fs : ∃ (f0 f1 f2 : Field), (P.fieldsOf T).toList = [f0, f1, f2] ∧ f0.name ≠ "_" ∧ f1.name ≠ "_" ∧ f2.name ≠ "_" ∧ f0.offset = 0 ∧ f1.offset = 1 ∧ f2.offset = 2 ∧ P.underlying f0.type = some (.int .i64) ∧ P.underlying f1.type = some (.int .i64) ∧ P.underlying f2.type = some (.int .i64) ∧ IsAgg P f0.type false ∧ IsAgg P f1.type false ∧ IsAgg P f2.type false
section
variable {P : Program} {w : World} {T : TypeId} {l : Fr} {x y : Operand} {T' : TypeId} {d : Option Tmp} {ty : TypeId} {pos : String} {after : Array Edge} {g : Option (Nat × Bool)}
theorem trip_eq (h : TripT P T) (a b c a' b' c' : Int) : (Op.equalIn 10000 T (.agg (plV a b c).toArray) (.agg (plV a' b' c').toArray)).run P w = .ok (decide (a = a' ∧ b = b' ∧ c = c')) w := by
  rw [run_equalIn_agg w 9999 T _ _ h.und h.std]
  obtain ⟨f0, f1, f2, hl, n0, n1, n2, o0, o1, o2, u0, u1, u2, a0, a1, a2⟩ := h.fs
  have p0 : ∀ p q r : Int, (part f0.type (plV p q r).toArray f0.offset).run P w = .ok (.int .i64 p) w := fun p q r => by
    rw [o0]; simp [part, a0 w, plV]
  have p1 : ∀ p q r : Int, (part f1.type (plV p q r).toArray f1.offset).run P w = .ok (.int .i64 q) w := fun p q r => by
    rw [o1]; simp [part, a1 w, plV]
  have p2 : ∀ p q r : Int, (part f2.type (plV p q r).toArray f2.offset).run P w = .ok (.int .i64 r) w := fun p q r => by
    rw [o2]; simp [part, a2 w, plV]
  have q0 := run_equalIn_int (P := P) w 9998 f0.type .i64 .i64 a a' u0
  have q1 := run_equalIn_int (P := P) w 9998 f1.type .i64 .i64 b b' u1
  have q2 := run_equalIn_int (P := P) w 9998 f2.type .i64 .i64 c c' u2
  rw [hl]
  simp only [Op.eqFields, if_pos n0, if_pos n1, if_pos n2, Sem.run_bind, p0, p1, p2, Result.andThen_ok, q0, q1, q2, Sem.run_ite, Sem.run_pure]
  by_cases h1 : a = a'
  · by_cases h2 : b = b'
    · by_cases h3 : c = c' <;> simp [h1, h2, h3]
    · simp [h1, h2]
  · simp [h1]
theorem r_eqlTr {a b c a' b' c' : Int} (h : TripT P T) (hx : evl l x = .agg (plV a b c).toArray) (hy : evl l y = .agg (plV a' b' c').toArray) : (execOp (evl l) ⟨d, .binOp .eql T x y T', ty, pos, after, g⟩).run P w = .ok (.value (.bool (decide (a = a' ∧ b = b' ∧ c = c')))) w := by
  simp only [execOp, hx, hy, Sem.run_bind, run_eqGuard_agg w .eql T x y _ _ h.grd, Result.andThen_ok, run_eql_struct, trip_eq h, Sem.run_pure]
end
theorem fieldsC_1 {y : Cp} (h : y.kind = 1) : fieldsC y ↔ thereC y ∧ y.ref ≤ 1 ∧ y.body.length = 32 := by unfold fieldsC; rw [if_pos h]
theorem fieldsC_2 {y : Cp} (h : y.kind = 2) : fieldsC y ↔ thereC y ∧ elderC y := by unfold fieldsC; rw [if_neg (by omega), if_pos h]
theorem fieldsC_3 {y : Cp} (h : y.kind = 3) : fieldsC y ↔ thereC y ∧ elderC y ∧ 1 ≤ y.body.length ∧ y.body.length ≤ 20 := by unfold fieldsC; rw [if_neg (by omega), if_neg (by omega), if_pos h]
theorem fieldsC_4 {y : Cp} (h : y.kind = 4) : fieldsC y ↔ branchC y ∧ inM y.vol 15 ∧ y.vol ≠ y.br ∧ y.blk = 0 ∧ elderC y := by unfold fieldsC; rw [if_neg (by omega), if_neg (by omega), if_neg (by omega), if_pos h]
theorem fieldsC_5 {y : Cp} (h : y.kind = 5) : fieldsC y ↔ branchC y ∧ y.vol = 0 ∧ y.blk = 0 := by unfold fieldsC; rw [if_neg (by omega), if_neg (by omega), if_neg (by omega), if_neg (by omega), if_pos h]
theorem fieldsC_6 {y : Cp} (h : y.kind = 6) : fieldsC y ↔ 1 ≤ y.ref ∧ y.ref ≤ 65535 ∧ inM y.fr y.to ∧ inM y.to 1073741824 ∧ inM y.un 1073741824 := by unfold fieldsC; rw [if_neg (by omega), if_neg (by omega), if_neg (by omega), if_neg (by omega), if_neg (by omega), if_pos h]
theorem fieldsC_7 {y : Cp} (h : y.kind = 7) : fieldsC y ↔ 1 ≤ y.ref ∧ y.ref ≤ 65535 := by unfold fieldsC; rw [if_neg (by omega), if_neg (by omega), if_neg (by omega), if_neg (by omega), if_neg (by omega), if_neg (by omega), if_pos h]
theorem fieldsC_8 {y : Cp} (h1 : y.kind ≠ 1) (h2 : y.kind ≠ 2) (h3 : y.kind ≠ 3) (h4 : y.kind ≠ 4) (h5 : y.kind ≠ 5) (h6 : y.kind ≠ 6) (h7 : y.kind ≠ 7) : fieldsC y := by
  unfold fieldsC; rw [if_neg h1, if_neg h2, if_neg h3, if_neg h4, if_neg h5, if_neg h6, if_neg h7]; trivial
/-- a cell with the fields of its kind alone -/
def onlyF (y : Ce) : Ce := ⟨y.kind, y.num, y.min, if kPl y.kind = true then y.br else 0, if kPl y.kind = true then y.vol else 0, if kPl y.kind = true then y.blk else 0, if kRf y.kind = true then y.ref else 0,
  if kMi y.kind = true then y.fr else 0, if kMi y.kind = true then y.to else 0, if kMi y.kind = true then y.un else 0, if kBo y.kind = true then y.body else bdZ⟩
set_option linter.unusedSimpArgs false in
theorem onlyF_eq (y : Ce) : ceEq y (onlyF y) ↔ onlyC (ceP y) := by
  unfold ceEq onlyC onlyF ceP
  cases h1 : kPl y.kind <;> cases h2 : kRf y.kind <;> cases h3 : kMi y.kind <;> cases h4 : kBo y.kind <;> simp [h1, h2, h3, h4, bdZ, and_assoc]
/-! ### The cell that Right makes, step by step -/
def oD0 (y : Ce) : Ce := ⟨y.kind, y.num, y.min, 0, 0, 0, 0, 0, 0, 0, bdZ⟩
def oD1 (y : Ce) : Ce := { oD0 y with br := if kPl y.kind = true then y.br else 0, vol := if kPl y.kind = true then y.vol else 0, blk := if kPl y.kind = true then y.blk else 0 }
def oD2 (y : Ce) : Ce := { oD1 y with ref := if kRf y.kind = true then y.ref else 0 }
def oD3 (y : Ce) : Ce := { oD2 y with fr := if kMi y.kind = true then y.fr else 0, to := if kMi y.kind = true then y.to else 0, un := if kMi y.kind = true then y.un else 0 }
theorem oD1_no {y : Ce} (h : kPl y.kind = false) : oD1 y = oD0 y := by unfold oD1 oD0; simp [h]
theorem oD2_no {y : Ce} (h : kRf y.kind = false) : oD2 y = oD1 y := by unfold oD2 oD1 oD0; simp [h]
theorem oD3_no {y : Ce} (h : kMi y.kind = false) : oD3 y = oD2 y := by unfold oD3 oD2 oD1 oD0; simp [h]
theorem oD4_no {y : Ce} (h : kBo y.kind = false) : onlyF y = oD3 y := by unfold onlyF oD3 oD2 oD1 oD0; simp [h]
theorem oD1_yes {y : Ce} (h : kPl y.kind = true) : splice (ceC (oD0 y)) 3 (plV y.br y.vol y.blk) = ceC (oD1 y) := by unfold oD1; simp only [h, if_true]; rfl
theorem oD2_yes {y : Ce} (h : kRf y.kind = true) : (ceC (oD1 y)).set 6 (.int .u64 y.ref) = ceC (oD2 y) := by unfold oD2; simp only [h, if_true]; rfl
theorem oD3_yes {y : Ce} (h : kMi y.kind = true) : (((ceC (oD2 y)).set 7 (.int .i64 y.fr)).set 8 (.int .i64 y.to)).set 9 (.int .i64 y.un) = ceC (oD3 y) := by unfold oD3; simp only [h, if_true]; rfl
theorem oD4_yes {y : Ce} (h : kBo y.kind = true) : (ceC (oD3 y)).set 10 (bdV y.body) = ceC (onlyF y) := by unfold onlyF; simp only [h, if_true]; rfl
theorem onlyF_row {w : World} {y : Ce} (h : BRow w y.body.a y.body.b) : BRow w (onlyF y).body.a (onlyF y).body.b := by
  show BRow w (if kBo y.kind = true then y.body else bdZ).a (if kBo y.kind = true then y.body else bdZ).b
  split
  · exact h
  · exact brow_nil _ _
section
variable {w0 w w' : World} {X : List Nat} {A F F' N : List (Nat × Obj)}
theorem St.callf (H : St w0 X w (A ++ (F ++ N))) (hc : St w (F.map (·.1)) w' F') : St w0 X w' (A ++ (F' ++ N)) := by
  have h1 : St w0 X w (F ++ (A ++ N)) := H.perm (List.perm_append_comm_assoc F A N)
  exact (St.call h1 hc).perm (List.perm_append_comm_assoc A F' N)
end
theorem rdI_yes {c : Bool} (h : c = true) (n : Nat) (st : List UInt8 × Bool) : rdI c n st = rd n st := if_pos h
theorem rdI_no {c : Bool} (h : c = false) (n : Nat) (st : List UInt8 × Bool) : rdI c n st = (0, st) := if_neg (by rw [h]; decide)
theorem tkI_yes {c : Bool} (h : c = true) (n : Nat) (st : List UInt8 × Bool) : tkI c n st = tk n st := if_pos h
theorem tkI_no {c : Bool} (h : c = false) (n : Nat) (st : List UInt8 × Bool) : tkI c n st = ([], st) := if_neg (by rw [h]; decide)
section
variable {P : Program} {w : World} {l : List Value} {v1 v2 v3 : Value} {fn : Func} {r1 r2 r3 : ResultVar}
theorem rc_three (hf : fn.results = #[r1, r2, r3]) (h1 : RC P l w r1 v1) (h2 : RC P l w r2 v2) (h3 : RC P l w r3 v3) : (results fn l.toArray).run P w = .ok (.tuple #[v1, v2, v3]) w := by
  unfold results
  rw [hf]
  cases r1
  · have h1 : l[_]? = some v1 := h1
    cases r2
    · have h2 : l[_]? = some v2 := h2
      cases r3
      · have h3 : l[_]? = some v3 := h3
        simp [h1, h2, h3]
      · obtain ⟨a3, h3, k3⟩ := h3
        simp [h1, h2, h3, k3, asAddr]
    · obtain ⟨a2, h2, k2⟩ := h2
      cases r3
      · have h3 : l[_]? = some v3 := h3
        simp [h1, h2, k2, h3, asAddr]
      · obtain ⟨a3, h3, k3⟩ := h3
        simp [h1, h2, k2, h3, k3, asAddr]
  · obtain ⟨a, h1, k1⟩ := h1
    cases r2
    · have h2 : l[_]? = some v2 := h2
      cases r3
      · have h3 : l[_]? = some v3 := h3
        simp [h1, h2, k1, h3, asAddr]
      · obtain ⟨a3, h3, k3⟩ := h3
        simp [h1, h2, k1, h3, k3, asAddr]
    · obtain ⟨a2, h2, k2⟩ := h2
      cases r3
      · have h3 : l[_]? = some v3 := h3
        simp [h1, h2, k1, k2, h3, asAddr]
      · obtain ⟨a3, h3, k3⟩ := h3
        simp [h1, h2, k1, k2, h3, k3, asAddr]
end
end Go.Er


/-
  Rows that stay beside a log that is turned.
-/
namespace Go.Er
open Go
section
variable {w0 w w' : World} {X : List Nat} {A N N2 L No : List (Nat × Obj)} {E : TypeId} {b : Nat} {o : Obj} {a : Option Addr} {cap : Nat}
theorem St.keepM (H : St w0 X w (A ++ N)) (h : St w (N.map (·.1)) w' L) (hm : (b, o) ∈ A) : w'.heap[b]? = some o := by
  refine h.rd (H.own (b, o) (List.mem_append_left _ hm)) fun hn => ?_
  have hnd := H.nodup
  rw [List.map_append, List.nodup_append] at hnd
  exact hnd.2.2 b (List.mem_map.2 ⟨_, hm, rfl⟩) b hn rfl
theorem RowN.browK {bs : List UInt8} {n : Nat} (h : RowN 1 E (bC bs) n a cap No) (H : St w0 X w (A ++ (No ++ N))) : ∀ w' L, St w (N.map (·.1)) w' L → BRow w' a bs := by
  intro w' L h' hx
  obtain ⟨hl, _, ⟨rfl, _⟩ | ⟨b, sp, rfl, _, rfl⟩⟩ := h
  · rw [bC_length] at hl; omega
  · rw [← List.append_assoc] at H
    exact ⟨b, 0, [], sp, E, (0, 0), rfl, H.keepM h' (List.mem_append_right _ (List.mem_singleton.2 rfl)), rfl⟩
theorem St.call3 (H : St w0 X w (A ++ (No ++ N))) (hc : St w (N.map (·.1)) w' N2) : St w0 X w' (A ++ (No ++ N2)) := by
  rw [← List.append_assoc] at H ⊢
  exact St.callr H hc
theorem St.mid4 (H : St w0 X w (No ++ (A ++ N))) : St w0 X w (A ++ (No ++ N)) := H.perm (List.perm_append_comm_assoc A No N)
theorem St.drop3 (H : St w0 X w (A ++ (No ++ N))) : St w0 X w (A ++ N) := H.sub ((List.Sublist.refl _).append (List.sublist_append_right _ _))
end
theorem bC_atA (ys : List UInt8) (sp : List Value) {i o : Nat} (hi : i < ys.length) (ho : o = i) : (bC ys ++ sp)[o]? = some (.int .u8 ((ys.getD i 0).toNat : Int)) := by
  have h := bs_getE [] ys sp (off := 0) (o := o) i rfl hi (by omega)
  rwa [List.nil_append] at h
theorem bC_inc (ys : List UInt8) (sp : List Value) {i o : Nat} {z : Int} (hi : i < ys.length) (ho : o = i) (hz : z = (((ys.getD i 0).toNat : Int) + 1) % 256) : (bC ys ++ sp).set o (.int .u8 z) = bC (ys.set i (ys.getD i 0 + 1)) ++ sp := by
  subst ho
  have e : z = ((ys.getD o 0 + 1).toNat : Int) := by
    have e1 : UInt8.toNat 1 = 1 := rfl
    rw [hz, UInt8.toNat_add, e1]
    omega
  rw [e, List.set_append_left _ _ (by rw [bC_length]; exact hi)]
  unfold bC; rw [List.map_set]
theorem getD_replicate {α : Type} (n i : Nat) (x : α) : (List.replicate n x).getD i x = x := by
  rw [List.getD_eq_getElem?_getD, List.getElem?_replicate]
  split <;> rfl
theorem PL.newL (g z : Int) (k : Int) (i : Nat) : PL (Go.Er.newL g z).C k (List.replicate 40 0) (List.replicate 40 bdZ) i := by
  refine .inl ⟨?_, getD_replicate _ _ _⟩
  show (List.replicate _ zS).getD i zS = zS
  exact getD_replicate _ _ _
theorem brow_new {w : World} (i : Nat) : BRow w ((List.replicate 40 bdZ).getD i bdZ).a ((List.replicate 40 bdZ).getD i bdZ).b := by
  rw [getD_replicate]
  exact fun h => absurd h (Nat.lt_irrefl _)
theorem brow_set {w : World} {bs : List Bd} {n : Nat} {y : Bd} (h : ∀ i, BRow w (bs.getD i bdZ).a (bs.getD i bdZ).b) (hy : BRow w y.a y.b) (hn : n < bs.length) (i : Nat) : BRow w ((bs.set n y).getD i bdZ).a ((bs.set n y).getD i bdZ).b := by
  rw [getD_set _ _ _ _ _ hn]
  split
  · exact hy
  · exact h i
theorem gz_small {g z : Int} (h1 : g ≤ 6) (h2 : 0 ≤ z) (h3 : z ≤ 4) : g * z ≤ 24 := by
  have b : g * z ≤ 6 * z := Int.mul_le_mul_of_nonneg_right h1 h2
  omega
theorem set_getD0 {ns : List Int} {i : Nat} {x : Int} (hi : i < ns.length) : (ns.set i x).getD i 0 = x := by
  rw [getD_set _ _ _ _ _ hi, if_pos rfl]
theorem xrL_free (x : LS) (i : Nat) (a b : Option Addr) (c e : Nat) : splice (xrL x a c) 0 (xrL x b e) = xrL { x with gens := x.gens.set i 0 } b e := by
  show xrL x b e = _
  unfold xrL
  rw [List.length_set]
theorem refAt_full (x : LS) : refAt (x, 0, 6) = -1 := by
  unfold refAt; rw [if_neg (show ¬ ((6 : Int) = 0) by decide)]
theorem refAt_put (x : LS) (n : Int) : refAt (x, n, 0) = n := by
  unfold refAt; rw [if_pos rfl]
theorem LogN.F {E : TypeId} {fG : FuncId} {TC TL : TypeId} {ba bb bl q : Nat} {x : LS} {N : List (Nat × Obj)} (h : LogN E fG TC TL ba bb bl x q N) : LogF x := by
  obtain ⟨_,_,_,_,_,_,_,_, hF⟩ := h
  exact hF
theorem LogN.mono {E : TypeId} {fG : FuncId} {TC TL : TypeId} {ba bb bl q q' : Nat} {x : LS} {N : List (Nat × Obj)} (h : LogN E fG TC TL ba bb bl x q N) (hq : q ≤ q') : LogN E fG TC TL ba bb bl x q' N := by
  obtain ⟨bm, cs, bu, T, T2, Nm, rfl, hm, hF⟩ := h
  obtain ⟨ma, mb, bg, cs', bp, lf, ac, nc, cc, T', Tp, Na, Nb, rfl, hA, hB, hl⟩ := hm
  exact ⟨bm, cs, bu, T, T2, _, rfl, ⟨ma, mb, bg, cs', bp, lf, ac, nc, cc, T', Tp, Na, Nb, rfl, hA.mono hq, hB.mono hq, hl⟩, hF⟩
end Go.Er


/-
  Sorting rows of any elements: their cells; heaps; insertion in part.
-/
namespace Go.Er
open Go
section
variable {α : Type} {f : α → List Value} {sz : Nat}
theorem rw_splice (h : Elem f sz) (ys : List α) (sp : List Value) (x : α) {off : Nat} (i : Nat) (hi : i < ys.length) (ho : off = i * sz) : splice (rowC f ys ++ sp) off (f x) = rowC f (ys.set i x) ++ sp := row_set h x hi ho
theorem rw_room (h : Elem f sz) (ys : List α) (sp : List Value) {off : Nat} (i : Nat) (hi : i < ys.length) (ho : off = i * sz) : off + sz ≤ (rowC f ys ++ sp).length := by
  rw [List.length_append, rowC_length h, ho]
  have h1 : (i + 1) * sz ≤ ys.length * sz := Nat.mul_le_mul_right _ hi
  rw [Nat.add_mul, Nat.one_mul] at h1
  omega
theorem rw_ld (h : Elem f sz) (d : α) (ys : List α) (sp : List Value) {off : Nat} (i : Nat) (hi : i < ys.length) (ho : off = i * sz) : ((rowC f ys ++ sp).drop off).take sz = f (ys.getD i d) := by
  have hx : ys[i]? = some (ys.getD i d) := by rw [List.getD_eq_getElem?_getD, List.getElem?_eq_getElem hi]; rfl
  have h1 := row_td h [] sp (off := 0) (o := off) (i := i) rfl hx (by omega)
  rwa [List.nil_append] at h1
end
section
variable {α : Type} {d : α} {key : α → Int}
variable (d key) in
/-- a heap: no child is greater than its parent -/
def Hp (a lo hi : Nat) (ys : List α) : Prop := ∀ p c, lo ≤ p → (c = 2 * p + 1 ∨ c = 2 * p + 2) → c < hi → kk d key ys (a + c) ≤ kk d key ys (a + p)
variable (d key) in
/-- a heap, but for number r, which is on its way down -/
structure HpX (a lo hi r : Nat) (ys : List α) : Prop where
  all : ∀ p c, lo ≤ p → p ≠ r → (c = 2 * p + 1 ∨ c = 2 * p + 2) → c < hi → kk d key ys (a + c) ≤ kk d key ys (a + p)
  over : ∀ p c, lo ≤ p → (r = 2 * p + 1 ∨ r = 2 * p + 2) → (c = 2 * r + 1 ∨ c = 2 * r + 2) → c < hi → kk d key ys (a + c) ≤ kk d key ys (a + p)
  lor : lo ≤ r
theorem Hp.start {a lo hi : Nat} {ys : List α} (h : Hp d key a (lo + 1) hi ys) : HpX d key a lo hi lo ys :=
  ⟨fun p c h1 h2 h3 h4 => h p c (by omega) h3 h4, fun p c h1 h2 => by omega, Nat.le_refl _⟩
theorem HpX.step {a lo hi r ch : Nat} {ys : List α} (h : HpX d key a lo hi r ys) (hc : ch = 2 * r + 1 ∨ ch = 2 * r + 2) (hch : ch < hi) (hl : a + hi ≤ ys.length)
    (hmx : ∀ c, (c = 2 * r + 1 ∨ c = 2 * r + 2) → c < hi → kk d key ys (a + c) ≤ kk d key ys (a + ch)) (hlt : kk d key ys (a + r) < kk d key ys (a + ch)) : HpX d key a lo hi ch (swp2 d ys (a + r) (a + ch)) := by
  have hlo := h.lor
  have hg := swp2_get d ys (i := a + r) (j := a + ch) (by omega) (by omega)
  have g : ∀ p, kk d key (swp2 d ys (a + r) (a + ch)) p = if p = a + ch then kk d key ys (a + r) else if p = a + r then kk d key ys (a + ch) else kk d key ys p := by
    intro p; show key _ = _; rw [hg]; split
    · rfl
    · split <;> rfl
  refine ⟨fun p c h1 h2 h3 h4 => ?_, fun p c h1 h2 h3 h4 => ?_, by omega⟩
  · rw [g, g]
    by_cases hp : p = r
    · subst hp
      rw [if_neg (show ¬ a + p = a + ch by omega), if_pos (rfl : a + p = a + p)]
      by_cases hcc : c = ch
      · rw [if_pos (by omega)]; exact Int.le_of_lt hlt
      · rw [if_neg (by omega), if_neg (by omega)]; exact hmx c h3 h4
    · rw [if_neg (show ¬ a + p = a + ch by omega), if_neg (show ¬ a + p = a + r by omega)]
      by_cases hcr : c = r
      · subst hcr
        rw [if_neg (by omega), if_pos rfl]
        exact h.over p ch h1 h3 hc hch
      · rw [if_neg (by omega), if_neg (by omega)]; exact h.all p c h1 hp h3 h4
  · have hpr : p = r := by omega
    subst hpr
    rw [g, g, if_neg (show ¬ a + c = a + ch by omega), if_neg (show ¬ a + c = a + p by omega), if_neg (show ¬ a + p = a + ch by omega), if_pos (rfl : a + p = a + p)]
    exact h.all ch c (by omega) (by omega) h3 h4
theorem HpX.leaf {a lo hi r : Nat} {ys : List α} (h : HpX d key a lo hi r ys) (hr : hi ≤ 2 * r + 1) : Hp d key a lo hi ys := by
  intro p c h1 h2 h3
  exact h.all p c h1 (by omega) h2 h3
theorem HpX.done {a lo hi r ch : Nat} {ys : List α} (h : HpX d key a lo hi r ys) (hmx : ∀ c, (c = 2 * r + 1 ∨ c = 2 * r + 2) → c < hi → kk d key ys (a + c) ≤ kk d key ys (a + ch)) (hle : ¬ kk d key ys (a + r) < kk d key ys (a + ch)) : Hp d key a lo hi ys := by
  intro p c h1 h2 h3
  by_cases hp : p = r
  · subst hp
    have := hmx c h2 h3
    omega
  · exact h.all p c h1 hp h2 h3
theorem Hp.leaves {a hi lo : Nat} {ys : List α} (h : hi ≤ 2 * lo + 1) : Hp d key a lo hi ys := fun p c h1 h2 h3 => by omega
/-- the top of a heap is the greatest -/
theorem Hp.top {a hi : Nat} {ys : List α} (h : Hp d key a 0 hi ys) : ∀ p, p < hi → kk d key ys (a + p) ≤ kk d key ys a := by
  intro p
  induction p using Nat.strongRecOn with
  | _ p ih =>
    intro hp
    by_cases h0 : p = 0
    · subst h0; exact Int.le_refl _
    · have h1 := h ((p - 1) / 2) p (Nat.zero_le _) (by omega) hp
      have h2 := ih ((p - 1) / 2) (by omega) (by omega)
      omega
variable (d key) in
/-- a heap ahead, in order behind -/
structure HpS (a z i : Nat) (ys : List α) : Prop where
  hp : Hp d key a 0 i ys
  srt : Srt d key (a + i) z ys
  le : ∀ p q, p < i → i ≤ q → a + q < z → kk d key ys (a + p) ≤ kk d key ys (a + q)
theorem HpS.start {a z i : Nat} {ys : List α} (h : Hp d key a 0 i ys) (hz : z = a + i) : HpS d key a z i ys :=
  ⟨h, fun p q h1 h2 h3 => by omega, fun p q h1 h2 h3 => by omega⟩
/-- the greatest goes behind: what is left is a heap but for its top -/
theorem HpS.swap {a z i : Nat} {ys : List α} (h : HpS d key a z (i + 1) ys) (hl : z ≤ ys.length) (hz : a + i < z) : Hp d key a 1 i (swp2 d ys a (a + i)) ∧ Srt d key (a + i) z (swp2 d ys a (a + i)) ∧ ∀ p q, p < i → i ≤ q → a + q < z → kk d key (swp2 d ys a (a + i)) (a + p) ≤ kk d key (swp2 d ys a (a + i)) (a + q) := by
  have hg := swp2_get d ys (i := a) (j := a + i) (by omega) (by omega)
  have g : ∀ p, kk d key (swp2 d ys a (a + i)) p = if p = a + i then kk d key ys a else if p = a then kk d key ys (a + i) else kk d key ys p := by
    intro p; show key _ = _; rw [hg]; split
    · rfl
    · split <;> rfl
  refine ⟨fun p c h1 h2 h3 => ?_, fun p q h1 h2 h3 => ?_, fun p q h1 h2 h3 => ?_⟩
  · rw [g, g, if_neg (by omega), if_neg (by omega), if_neg (by omega), if_neg (by omega)]
    exact h.hp p c (Nat.zero_le _) h2 (by omega)
  · rw [g, g, if_neg (show ¬ q = a + i by omega), if_neg (show ¬ q = a by omega)]
    by_cases hp : p = a + i
    · rw [if_pos hp]
      have := h.le 0 (q - a) (by omega) (by omega) (by omega)
      rw [Nat.add_zero, show a + (q - a) = q by omega] at this
      exact this
    · rw [if_neg hp, if_neg (by omega)]; exact h.srt p q (by omega) h2 h3
  · rw [g, g]
    by_cases hq : q = i
    · subst hq
      rw [if_neg (show ¬ a + p = a + q by omega), if_pos (rfl : a + q = a + q)]
      by_cases hp : p = 0
      · subst hp
        rw [if_pos (by omega)]; exact h.hp.top q (by omega)
      · rw [if_neg (by omega)]; exact h.hp.top p (by omega)
    · rw [if_neg (show ¬ a + p = a + i by omega), if_neg (show ¬ a + q = a + i by omega), if_neg (show ¬ a + q = a by omega)]
      split
      · exact h.le i q (by omega) (by omega) h3
      · exact h.le p q (by omega) (by omega) h3
theorem HpS.next {a z i : Nat} {ys zs : List α} (hs : Srt d key (a + i) z ys) (hle : ∀ p q, p < i → i ≤ q → a + q < z → kk d key ys (a + p) ≤ kk d key ys (a + q)) (k : Sw d a (a + i) ys zs) (hh : Hp d key a 0 i zs) : HpS d key a z i zs := by
  have ho : ∀ q, a + i ≤ q → kk d key zs q = kk d key ys q := fun q hq => by show key _ = key _; rw [k.out (.inr hq)]
  refine ⟨hh, fun p q h1 h2 h3 => ?_, fun p q h1 h2 h3 => ?_⟩
  · rw [ho p h1, ho q (by omega)]; exact hs p q h1 h2 h3
  · rw [ho (a + q) (by omega)]
    exact k.all (P := fun x => key x ≤ kk d key ys (a + q)) (fun r r1 r2 => by
      have := hle (r - a) q (by omega) h2 h3
      rwa [show a + (r - a) = r by omega] at this) (a + p) (by omega) (by omega)
theorem HpS.fin {a z : Nat} {ys : List α} (h : HpS d key a z 0 ys) : Srt d key a z ys := h.srt
theorem Srt.cut {a i i' : Nat} {ys : List α} (h : Srt d key a i ys) (hi : i' ≤ i) : Srt d key a i' ys := fun p q h1 h2 h3 => h p q h1 h2 (by omega)
theorem Srt.off {a i p q : Nat} {ys : List α} (h : Srt d key a i ys) (hp : i ≤ p) (hq : i ≤ q) (hpl : p < ys.length) (hql : q < ys.length) : Srt d key a i (swp2 d ys p q) := by
  intro m n h1 h2 h3
  have hg := swp2_get d ys hpl hql
  show key _ ≤ key _
  rw [hg m, hg n, if_neg (by omega), if_neg (by omega), if_neg (by omega), if_neg (by omega)]
  exact h m n h1 h2 h3
/-- a pair is put in order: what stands ahead is in order but for its last one -/
theorem Srt.pair {a i : Nat} {ys : List α} (h : Srt d key a i ys) (hi : a < i) (hl : i < ys.length) (hlt : kk d key ys i < kk d key ys (i - 1)) : Ins d key a i (i - 1) (swp2 d ys i (i - 1)) :=
  (Ins.start h).step hi (Nat.le_refl _) hl hlt
end
end Go.Er


/-
  What is found in a log's slots: elements, what a log takes into account, what Open tells.
-/
namespace Go.Er
open Go
/-! ### What is found -/
def fdV (n g : Int) (y : Bd) : List Value := [.int .i64 n, .int .u64 g, bdV y]
structure FdL where
  at_ : Int
  gen : Int
  bd : Bd
  ok : 0 ≤ at_ ∧ at_ < 4096 ∧ 0 ≤ gen ∧ gen < 18446744073709551616
def fdC (y : FdL) : List Value := fdV y.at_ y.gen y.bd
def fdZ : FdL := ⟨0, 0, bdZ, by decide⟩
def fdK (y : FdL) : Int := y.gen * 4096 + y.at_
def fdP (y : FdL) : Int × Int × List UInt8 := (y.at_, y.gen, y.bd.b)
theorem fdV_length (n g : Int) (y : Bd) : (fdV n g y).length = 3 := rfl
theorem fdV_td (n g : Int) (y : Bd) : ((fdV n g y).drop 0).take 3 = fdV n g y := rfl
theorem fdV_one (n g : Int) (y : Bd) : ∀ v ∈ fdV n g y, v.oneCell' = true := by
  intro v hv
  simp only [fdV, bdV, List.mem_cons, List.not_mem_nil, or_false] at hv
  rcases hv with rfl | rfl | rfl <;> rfl
theorem fdV_sp (n g n' g' : Int) (y y' : Bd) : splice (fdV n g y) 0 (fdV n' g' y') = fdV n' g' y' := rfl
theorem elFd : Elem fdC 3 := ⟨fun _ => rfl, fun _ => fdV_one _ _ _⟩
theorem cmp_fd (x y : FdL) : (if cmpI x.gen y.gen ≠ 0 then cmpI x.gen y.gen else cmpI x.at_ y.at_) = cmpI (fdK x) (fdK y) := by
  have h1 := x.ok; have h2 := y.ok
  rcases Int.lt_trichotomy x.gen y.gen with h | h | h
  · have e : cmpI x.gen y.gen = -1 := if_pos h
    rw [e, if_pos (by decide)]
    unfold cmpI fdK
    rw [if_pos (by omega)]
  · have e : cmpI x.gen y.gen = 0 := (if_neg (by omega)).trans (if_neg (by omega))
    rw [e, if_neg (by decide)]
    unfold cmpI fdK
    rcases Int.lt_trichotomy x.at_ y.at_ with k | k | k
    · rw [if_pos k, if_pos (by omega)]
    · rw [if_neg (by omega), if_neg (by omega), if_neg (by omega), if_neg (by omega)]
    · rw [if_neg (by omega), if_pos k, if_neg (by omega), if_pos (by omega)]
  · have e : cmpI x.gen y.gen = 1 := (if_neg (by omega)).trans (if_pos h)
    rw [e, if_pos (by decide)]
    unfold cmpI fdK
    rw [if_neg (by omega), if_pos (by omega)]
/-! ### Both devices' sectors, if they may stand there -/
def bothK (C : List Sec) (n : Int) : Nat → List Sec
  | 0 => []
  | k + 1 => if Sealed n (sd C n.toNat) then bothK C n k ++ [sd C n.toNat] else bothK C n k
theorem bothK_len (C : List Sec) (n : Int) : ∀ k, (bothK C n k).length ≤ k
  | 0 => Nat.le_refl _
  | k + 1 => by
    have h := bothK_len C n k
    unfold bothK
    split
    · rw [List.length_append]; simp; exact h
    · omega
theorem bothK_yes {C : List Sec} {n : Int} (h : Sealed n (sd C n.toNat)) (k : Nat) : bothK C n (k + 1) = bothK C n k ++ [sd C n.toNat] := if_pos h
theorem bothK_no {C : List Sec} {n : Int} (h : ¬ Sealed n (sd C n.toNat)) : ∀ k, bothK C n k = []
  | 0 => rfl
  | k + 1 => (if_neg h).trans (bothK_no h k)
theorem bothK_all {C : List Sec} {n : Int} (h : Sealed n (sd C n.toNat)) : ∀ k, bothK C n k = List.replicate k (sd C n.toNat)
  | 0 => rfl
  | k + 1 => by rw [bothK_yes h, bothK_all h, List.replicate_succ']
/-! ### What a log takes into account -/
def takeL (x : LS) (s t gn : Int) : LS :=
  if x.known < gn ∨ x.head < 0 ∨ (gn = x.known ∧ s = x.head) then { x with gens := if x.gens.getD s.toNat 0 ≤ gn then x.gens.set s.toNat gn else x.gens, known := gn, head := s, slot := t + 1 }
  else { x with gens := if x.gens.getD s.toNat 0 ≤ gn then x.gens.set s.toNat gn else x.gens }
theorem takeL_C (x : LS) (s t gn : Int) : (takeL x s t gn).C = x.C := by unfold takeL; split <;> rfl
theorem takeL_g (x : LS) (s t gn : Int) : (takeL x s t gn).g = x.g := by unfold takeL; split <;> rfl
theorem takeL_z (x : LS) (s t gn : Int) : (takeL x s t gn).z = x.z := by unfold takeL; split <;> rfl
theorem takeL_len (x : LS) (s t gn : Int) : (takeL x s t gn).gens.length = x.gens.length := by
  unfold takeL
  split <;> (show (if _ then _ else _ : List Int).length = _) <;> split <;> simp
/-- nothing is known, as long as there is no head -/
def LogO (x : LS) : Prop := LogF x ∧ (x.head < 0 → x.known = 0)
theorem LogO.take {x : LS} (h : LogO x) {s t gn : Int} (hs0 : 0 ≤ s) (hs1 : s < x.g) (ht0 : 0 ≤ t) (ht1 : t < x.z) (hg0 : 0 ≤ gn) (hg1 : gn < 1000000000) : LogO (takeL x s t gn) := by
  obtain ⟨h, hk⟩ := h
  have hu : ∀ n ∈ (if x.gens.getD s.toNat 0 ≤ gn then x.gens.set s.toNat gn else x.gens), n = gn ∨ n ∈ x.gens := by
    intro n hn
    split at hn
    · rcases List.mem_or_eq_of_mem_set hn with h2 | rfl
      · exact .inr h2
      · exact .inl rfl
    · exact .inr hn
  have hl : ((if x.gens.getD s.toNat 0 ≤ gn then x.gens.set s.toNat gn else x.gens).length : Int) = x.g := by
    have := h.gl
    split
    · rw [List.length_set]; exact this
    · exact this
  have hu6 : U64 (if x.gens.getD s.toNat 0 ≤ gn then x.gens.set s.toNat gn else x.gens) := fun n hn => by
    rcases hu n hn with rfl | h2
    · exact ⟨hg0, by omega⟩
    · exact h.u n h2
  unfold takeL
  split
  · rename_i hc
    refine ⟨⟨h.g0, h.g1, h.z0, h.z1, hl, h.cl, hu6, ⟨by show -1 ≤ s; omega, hs1⟩, ⟨by show 0 ≤ t + 1; omega, by show t + 1 ≤ x.z; omega⟩, ⟨hg0, hg1⟩, fun n hn => ?_⟩, fun hh => absurd hs0 (by have : s < 0 := hh; omega)⟩
    show n ≤ gn
    rcases hu n hn with rfl | h2
    · exact Int.le_refl _
    · have := h.kg n h2
      rcases hc with hc | hc | hc
      · omega
      · have := hk hc; omega
      · omega
  · rename_i hc
    refine ⟨⟨h.g0, h.g1, h.z0, h.z1, hl, h.cl, hu6, h.h, h.s, h.k, fun n hn => ?_⟩, hk⟩
    show n ≤ x.known
    rcases hu n hn with rfl | h2
    · omega
    · exact h.kg n h2
/-- sectors whose generations are small -/
def GenB (C : List Sec) : Prop := ∀ n : Nat, n < C.length → Sealed (n : Int) (sd C n) → genU (sd C n) < 1000000000

def slotN (x : LS) (i j : Nat) : Int := 2 + (i : Int) * x.z + (j : Int)
def stepF (p : LS × List (Int × Int × List UInt8)) (i j : Nat) : LS × List (Int × Int × List UInt8) :=
  if Sealed (slotN p.1 i j) (sd p.1.C (slotN p.1 i j).toNat) then (takeL p.1 i j (genU (sd p.1.C (slotN p.1 i j).toNat)), p.2 ++ [(slotN p.1 i j, genU (sd p.1.C (slotN p.1 i j).toNat), bodyU (sd p.1.C (slotN p.1 i j).toNat))]) else p
def opJ (p : LS × List (Int × Int × List UInt8)) (i : Nat) : Nat → LS × List (Int × Int × List UInt8)
  | 0 => p
  | j + 1 => stepF (opJ p i j) i j
def opI (p : LS × List (Int × Int × List UInt8)) : Nat → LS × List (Int × Int × List UInt8)
  | 0 => p
  | i + 1 => opJ (opI p i) i p.1.z.toNat
/-- what stays -/
structure SameL (x y : LS) : Prop where
  C : x.C = y.C
  g : x.g = y.g
  z : x.z = y.z
theorem SameL.refl (x : LS) : SameL x x := ⟨rfl, rfl, rfl⟩
theorem SameL.trans {x y z : LS} (h : SameL x y) (k : SameL y z) : SameL x z := ⟨h.C.trans k.C, h.g.trans k.g, h.z.trans k.z⟩
theorem stepF_same (p : LS × List (Int × Int × List UInt8)) (i j : Nat) : SameL (stepF p i j).1 p.1 := by
  unfold stepF
  split
  · exact ⟨takeL_C _ _ _ _, takeL_g _ _ _ _, takeL_z _ _ _ _⟩
  · exact SameL.refl _
theorem opJ_same (p : LS × List (Int × Int × List UInt8)) (i : Nat) : ∀ j, SameL (opJ p i j).1 p.1
  | 0 => SameL.refl _
  | j + 1 => (stepF_same _ i j).trans (opJ_same p i j)
theorem opI_same (p : LS × List (Int × Int × List UInt8)) : ∀ i, SameL (opI p i).1 p.1
  | 0 => SameL.refl _
  | i + 1 => (opJ_same _ i _).trans (opI_same p i)
theorem slot_rng {x : LS} (hF : LogF x) {i j : Nat} (hi : (i : Int) < x.g) (hj : (j : Int) < x.z) : 2 ≤ slotN x i j ∧ slotN x i j < (x.C.length : Int) ∧ slotN x i j < 4096 := by
  have h1 := sz_rng (s := i) (g := x.g) (z := x.z) (by omega) hi (by have := hF.z0; omega)
  have h2 := gz_rng (g := x.g) (z := x.z) (by have := hF.g0; omega) hF.g1 (by have := hF.z0; omega) hF.z1
  have h3 := hF.cl
  unfold slotN
  omega
theorem stepF_O {p : LS × List (Int × Int × List UInt8)} (h : LogO p.1) (hG : GenB p.1.C) {i j : Nat} (hi : (i : Int) < p.1.g) (hj : (j : Int) < p.1.z) : LogO (stepF p i j).1 := by
  unfold stepF
  split
  · rename_i hs
    have hr := slot_rng h.1 hi hj
    have e : ((slotN p.1 i j).toNat : Int) = slotN p.1 i j := by omega
    have hg := hG (slotN p.1 i j).toNat (by omega) (by rw [e]; exact hs)
    exact h.take (by omega) hi (by omega) hj (genU_rng _).1 hg
  · exact h
theorem opJ_O {p : LS × List (Int × Int × List UInt8)} (h : LogO p.1) (hG : GenB p.1.C) {i : Nat} (hi : (i : Int) < p.1.g) : ∀ j : Nat, (j : Int) ≤ p.1.z → LogO (opJ p i j).1
  | 0, _ => h
  | j + 1, hj => by
    have hs := opJ_same p i j
    exact stepF_O (opJ_O h hG hi j (by omega)) (by rw [hs.C]; exact hG) (by rw [hs.g]; exact hi) (by rw [hs.z]; omega)
theorem opI_O {p : LS × List (Int × Int × List UInt8)} (h : LogO p.1) (hG : GenB p.1.C) : ∀ i : Nat, (i : Int) ≤ p.1.g → LogO (opI p i).1
  | 0, _ => h
  | i + 1, hi => by
    have hs := opI_same p i
    have hz := h.1.z0
    exact opJ_O (opI_O h hG i (by omega)) (by rw [hs.C]; exact hG) (by rw [hs.g]; omega) _ (by rw [hs.z]; omega)
/-- the places rise -/
def RiseL (m : Int) (l : List (Int × Int × List UInt8)) : Prop := l.Pairwise (fun a b => a.1 < b.1) ∧ ∀ a ∈ l, a.1 < m
theorem RiseL.mono {m m' : Int} {l : List (Int × Int × List UInt8)} (h : RiseL m l) (hm : m ≤ m') : RiseL m' l := ⟨h.1, fun a ha => by have := h.2 a ha; omega⟩
theorem RiseL.snoc {m m' : Int} {l : List (Int × Int × List UInt8)} {y : Int × Int × List UInt8} (h : RiseL m l) (h1 : m ≤ y.1) (h2 : y.1 < m') : RiseL m' (l ++ [y]) := by
  refine ⟨List.pairwise_append.2 ⟨h.1, List.pairwise_singleton _ _, fun a ha b hb => ?_⟩, fun a ha => ?_⟩
  · rw [List.mem_singleton.1 hb]
    have := h.2 a ha; omega
  · rcases List.mem_append.1 ha with ha | ha
    · have := h.2 a ha; omega
    · rw [List.mem_singleton.1 ha]; exact h2
theorem stepF_rise {p : LS × List (Int × Int × List UInt8)} {i j : Nat} (h : RiseL (slotN p.1 i j) p.2) : RiseL (slotN p.1 i (j + 1)) (stepF p i j).2 := by
  have e : slotN p.1 i (j + 1) = slotN p.1 i j + 1 := by unfold slotN; omega
  unfold stepF
  split
  · exact h.snoc (Int.le_refl _) (by rw [e]; show slotN p.1 i j < _; omega)
  · exact h.mono (by omega)
theorem opJ_rise {p : LS × List (Int × Int × List UInt8)} {i : Nat} (h : RiseL (slotN p.1 i 0) p.2) : ∀ j, RiseL (slotN p.1 i j) (opJ p i j).2
  | 0 => h
  | j + 1 => by
    have hs := opJ_same p i j
    have e : ∀ k, slotN p.1 i k = slotN (opJ p i j).1 i k := fun k => by unfold slotN; rw [hs.z]
    have := stepF_rise (p := opJ p i j) (i := i) (j := j) (by rw [← e]; exact opJ_rise h j)
    rwa [← e] at this
theorem opI_rise {p : LS × List (Int × Int × List UInt8)} (hz : 0 ≤ p.1.z) (h : p.2 = []) : ∀ i, RiseL (slotN p.1 i 0) (opI p i).2
  | 0 => by show RiseL _ p.2; rw [h]; exact ⟨List.Pairwise.nil, fun _ h => nomatch h⟩
  | i + 1 => by
    have hs := opI_same p i
    have e : ∀ k, slotN p.1 i k = slotN (opI p i).1 i k := fun k => by unfold slotN; rw [hs.z]
    have h1 := opJ_rise (p := opI p i) (i := i) (by rw [← e]; exact opI_rise hz h i) p.1.z.toNat
    have e2 : slotN p.1 (i + 1) 0 = slotN (opI p i).1 i p.1.z.toNat := by
      rw [← e]; unfold slotN
      rw [show ((i + 1 : Nat) : Int) = (i : Int) + 1 by omega, Int.add_mul, Int.one_mul]
      omega
    rw [e2]; exact h1
theorem opJ_len {p : LS × List (Int × Int × List UInt8)} {i : Nat} : ∀ j, (opJ p i j).2.length ≤ p.2.length + j
  | 0 => Nat.le_refl _
  | j + 1 => by
    have h := opJ_len (p := p) (i := i) j
    show (stepF _ i j).2.length ≤ _
    unfold stepF
    split
    · show (_ ++ [_]).length ≤ _
      rw [List.length_append, List.length_singleton]; omega
    · omega
theorem opI_len {p : LS × List (Int × Int × List UInt8)} : ∀ i, (opI p i).2.length ≤ p.2.length + i * p.1.z.toNat
  | 0 => by show p.2.length ≤ _; omega
  | i + 1 => by
    have h := opI_len (p := p) i
    have h2 := opJ_len (p := opI p i) (i := i) p.1.z.toNat
    show (opJ (opI p i) i p.1.z.toNat).2.length ≤ _
    rw [Nat.add_mul, Nat.one_mul]; omega
theorem opIJ_len {p : LS × List (Int × Int × List UInt8)} (h0 : p.2 = []) (hz : p.1.z ≤ 32) {i j : Nat} (hi : i ≤ 64) (hj : j ≤ 32) : (opJ (opI p i) i j).2.length ≤ 2080 := by
  have h := opI_len (p := p) i
  have h2 := opJ_len (p := opI p i) (i := i) j
  have h3 : i * p.1.z.toNat ≤ 64 * 32 := Nat.mul_le_mul hi (by omega)
  rw [h0] at h
  simp only [List.length_nil] at h
  omega
/-! ### The bodies that were found -/
def BsN (E : TypeId) (fs : List FdL) (Nb : List (Nat × Obj)) : Prop := ∀ f ∈ fs, ∃ No, (∀ p ∈ No, p ∈ Nb) ∧ RowN 1 E (bC f.bd.b) f.bd.b.length f.bd.a f.bd.c No
theorem BsN.nil {E : TypeId} : BsN E [] [] := fun _ h => nomatch h
theorem BsN.snoc {E : TypeId} {fs : List FdL} {Nb No : List (Nat × Obj)} {f : FdL} (h : BsN E fs Nb) (hf : RowN 1 E (bC f.bd.b) f.bd.b.length f.bd.a f.bd.c No) : BsN E (fs ++ [f]) (No ++ Nb) := by
  intro y hy
  rcases List.mem_append.1 hy with hy | hy
  · obtain ⟨M, h1, h2⟩ := h y hy
    exact ⟨M, fun p hp => List.mem_append_right _ (h1 p hp), h2⟩
  · rw [List.mem_singleton.1 hy]
    exact ⟨No, fun p hp => List.mem_append_left _ hp, hf⟩
theorem BsN.perm {E : TypeId} {fs fs' : List FdL} {Nb : List (Nat × Obj)} (h : BsN E fs Nb) (hp : fs'.Perm fs) : BsN E fs' Nb := fun f hf => h f (hp.mem_iff.1 hf)
theorem BsN.brow {E : TypeId} {fs : List FdL} {Nb L : List (Nat × Obj)} {w0 w : World} {X : List Nat} (h : BsN E fs Nb) (H : St w0 X w L) (hs : ∀ p ∈ Nb, p ∈ L) : ∀ f ∈ fs, BRow w f.bd.a f.bd.b := by
  intro f hf
  obtain ⟨No, h1, h2⟩ := h f hf
  exact h2.browM H (fun p hp => hs p (h1 p hp))
/-- no two keys are alike -/
theorem fd_unl {fs : List FdL} (h : (fs.map fdP).Pairwise (fun a b => a.1 < b.1)) : Unl fdZ fdK fs := by
  have hp : fs.Pairwise (fun a b => a.at_ < b.at_) := (List.pairwise_map (f := fdP) (R := fun a b => a.1 < b.1)).1 h
  have hk : ∀ p q, p < q → q < fs.length → kk fdZ fdK fs p ≠ kk fdZ fdK fs q := by
    intro p q hpq hq he
    have h1 := List.pairwise_iff_getElem.1 hp p q (by omega) hq hpq
    have e1 : fs.getD p fdZ = fs[p]'(by omega) := by rw [List.getD_eq_getElem?_getD, List.getElem?_eq_getElem (by omega)]; rfl
    have e2 : fs.getD q fdZ = fs[q] := by rw [List.getD_eq_getElem?_getD, List.getElem?_eq_getElem hq]; rfl
    have he' : fdK (fs.getD p fdZ) = fdK (fs.getD q fdZ) := he
    rw [e1, e2] at he'
    have o1 := (fs[p]'(by omega)).ok
    have o2 := fs[q].ok
    unfold fdK at he'
    omega
  exact hk
end Go.Er


/-
  The cells of a body.
-/
namespace Go.Er
open Go
/-! ### What is short stays short -/
theorem rd_short {n : Nat} {st : List UInt8 × Bool} (h : st.2 = true) : (rd n st).2.2 = true := by
  unfold rd
  split
  · rfl
  · exact h
theorem rdI_short {c : Bool} {n : Nat} {st : List UInt8 × Bool} (h : st.2 = true) : (rdI c n st).2.2 = true := by
  unfold rdI
  split
  · exact rd_short h
  · exact h
theorem tkI_short {c : Bool} {n : Nat} {st : List UInt8 × Bool} (h : st.2 = true) : (tkI c n st).2.2 = true := by
  unfold tkI tk
  split
  · split
    · rfl
    · exact h
  · exact h
theorem rd_long {n : Nat} {st : List UInt8 × Bool} (h : ¬ (rd n st).2.2 = true) : n ≤ st.1.length ∧ (rd n st).2.1.length + n = st.1.length := by
  unfold rd at h ⊢
  split at h
  · exact absurd rfl h
  · rename_i hl
    rw [if_neg hl]
    refine ⟨by omega, ?_⟩
    show (st.1.drop n).length + n = _
    rw [List.length_drop]; omega
theorem cellF_seven {bs : List UInt8} (h : ¬ (cellF bs).2.2 = true) : (cellF bs).2.1.length + 7 ≤ bs.length := by
  obtain ⟨a, ha⟩ : ∃ a, a = rd 1 (bs, false) := ⟨_, rfl⟩
  obtain ⟨b, hb⟩ : ∃ b, b = rd 2 a.2 := ⟨_, rfl⟩
  obtain ⟨c, hc⟩ : ∃ c, c = rd 4 b.2 := ⟨_, rfl⟩
  obtain ⟨p1, hp1⟩ : ∃ p, p = rdI (kPl a.1) 1 c.2 := ⟨_, rfl⟩
  obtain ⟨p2, hp2⟩ : ∃ p, p = rdI (kPl a.1) 1 p1.2 := ⟨_, rfl⟩
  obtain ⟨p3, hp3⟩ : ∃ p, p = rdI (kPl a.1) 2 p2.2 := ⟨_, rfl⟩
  obtain ⟨f, hf⟩ : ∃ p, p = rdI (kRf a.1) 2 p3.2 := ⟨_, rfl⟩
  obtain ⟨m1, hm1⟩ : ∃ p, p = rdI (kMi a.1) 4 f.2 := ⟨_, rfl⟩
  obtain ⟨m2, hm2⟩ : ∃ p, p = rdI (kMi a.1) 4 m1.2 := ⟨_, rfl⟩
  obtain ⟨m3, hm3⟩ : ∃ p, p = rdI (kMi a.1) 4 m2.2 := ⟨_, rfl⟩
  obtain ⟨l, hl⟩ : ∃ p, p = rdI (kBo a.1) 1 m3.2 := ⟨_, rfl⟩
  obtain ⟨o, ho⟩ : ∃ p, p = tkI (kBo a.1) l.1.toNat l.2 := ⟨_, rfl⟩
  have hcF : (cellF bs).2 = o.2 := by
    subst ho hl hm3 hm2 hm1 hf hp3 hp2 hp1 hc hb ha
    rfl
  rw [hcF] at h ⊢
  have c1 : ¬ c.2.2 = true := fun hx => h (by
    rw [ho]; refine tkI_short ?_
    rw [hl]; refine rdI_short ?_
    rw [hm3]; refine rdI_short ?_
    rw [hm2]; refine rdI_short ?_
    rw [hm1]; refine rdI_short ?_
    rw [hf]; refine rdI_short ?_
    rw [hp3]; refine rdI_short ?_
    rw [hp2]; refine rdI_short ?_
    rw [hp1]; exact rdI_short hx)
  have b1 : ¬ b.2.2 = true := fun hx => c1 (by rw [hc]; exact rd_short hx)
  have a1 : ¬ a.2.2 = true := fun hx => b1 (by rw [hb]; exact rd_short hx)
  have g1 := rd_long (n := 1) (st := (bs, false)) (by rw [← ha]; exact a1)
  have g2 := rd_long (n := 2) (st := a.2) (by rw [← hb]; exact b1)
  have g3 := rd_long (n := 4) (st := b.2) (by rw [← hc]; exact c1)
  rw [← ha] at g1
  rw [← hb] at g2
  rw [← hc] at g3
  have g1' : 1 ≤ bs.length ∧ a.2.1.length + 1 = bs.length := g1
  have k : o.2.1.length ≤ c.2.1.length := by
    rw [ho]; refine Nat.le_trans (tkI_len _ _ _) ?_
    rw [hl]; refine Nat.le_trans (rdI_len _ _ _) ?_
    rw [hm3]; refine Nat.le_trans (rdI_len _ _ _) ?_
    rw [hm2]; refine Nat.le_trans (rdI_len _ _ _) ?_
    rw [hm1]; refine Nat.le_trans (rdI_len _ _ _) ?_
    rw [hf]; refine Nat.le_trans (rdI_len _ _ _) ?_
    rw [hp3]; refine Nat.le_trans (rdI_len _ _ _) ?_
    rw [hp2]; refine Nat.le_trans (rdI_len _ _ _) ?_
    rw [hp1]; exact rdI_len _ _ _
  omega
theorem decF_seven {bs r : List UInt8} {c : Cp} (h : decF bs = some (c, r)) : r.length + 7 ≤ bs.length := by
  unfold decF at h
  split at h
  · cases h
  · split at h
    · cases h
    · split at h
      · cases h
      · rename_i hs
        split at h
        · injection h with h; injection h with _ h
          rw [← h]; exact cellF_seven hs
        · cases h
/-! ### All cells of a body -/
def openK : Nat → List UInt8 → Option (List Cp)
  | 0, _ => some []
  | k + 1, bs => if bs = [] then some [] else match decF bs with
    | none => none
    | some (c, r) => (openK k r).map (c :: ·)
theorem openK_succ (k : Nat) (bs : List UInt8) : openK (k + 1) bs = if bs = [] then some [] else match decF bs with
    | none => none
    | some (c, r) => (openK k r).map (c :: ·) := rfl
theorem openK_fuel : ∀ (k m : Nat) (bs : List UInt8), bs.length ≤ k → bs.length ≤ m → openK k bs = openK m bs
  | 0, 0, _,_,_ => rfl
  | 0, m + 1, bs, h, _ => by
    have e : bs = [] := List.length_eq_zero_iff.1 (by omega)
    subst e; rfl
  | k + 1, 0, bs, _, h => by
    have e : bs = [] := List.length_eq_zero_iff.1 (by omega)
    subst e; rfl
  | k + 1, m + 1, bs, h1, h2 => by
    unfold openK
    by_cases e : bs = []
    · rw [if_pos e, if_pos e]
    · rw [if_neg e, if_neg e]
      cases hd : decF bs with
      | none => rfl
      | some p =>
        obtain ⟨c, r⟩ := p
        have hl := decF_seven hd
        show (openK k r).map _ = (openK m r).map _
        rw [openK_fuel k m r (by omega) (by omega)]
def openL (bs : List UInt8) : Option (List Cp) := openK bs.length bs
theorem openL_nil : openL [] = some [] := rfl
theorem openL_none {bs : List UInt8} (h : bs ≠ []) (hd : decF bs = none) : openL bs = none := by
  unfold openL
  obtain ⟨k, hk⟩ : ∃ k, bs.length = k + 1 := ⟨bs.length - 1, by have := List.length_pos_iff.2 h; omega⟩
  rw [hk, openK_succ, if_neg h, hd]
theorem openL_some {bs r : List UInt8} {c : Cp} (h : bs ≠ []) (hd : decF bs = some (c, r)) : openL bs = (openL r).map (c :: ·) := by
  have hl := decF_seven hd
  unfold openL
  obtain ⟨k, hk⟩ : ∃ k, bs.length = k + 1 := ⟨bs.length - 1, by omega⟩
  rw [hk, openK_succ, if_neg h, hd]
  show (openK k r).map _ = _
  rw [openK_fuel k r.length r (by omega) (Nat.le_refl _)]
/-- the cells of a body; it may be that there are none -/
def openF (bs : List UInt8) : Option (List Cp) := if 103 < bs.length then none else openL bs
/-- so far cells were read -/
def ReadN (bs rest : List UInt8) (ys : List Ce) : Prop := openL bs = (openL rest).map (fun l => ys.map ceP ++ l)
theorem ReadN.start (bs : List UInt8) : ReadN bs bs [] := by
  unfold ReadN
  cases openL bs <;> rfl
theorem ReadN.step {bs rest r : List UInt8} {ys : List Ce} {y : Ce} (h : ReadN bs rest ys) (hne : rest ≠ []) (hd : decF rest = some (ceP y, r)) : ReadN bs r (ys ++ [y]) := by
  unfold ReadN at h ⊢
  rw [h, openL_some hne hd]
  cases openL r with
  | none => rfl
  | some l => simp
theorem ReadN.fin {bs : List UInt8} {ys : List Ce} (h : ReadN bs [] ys) : openL bs = some (ys.map ceP) := by
  unfold ReadN at h
  rw [h, openL_nil]; simp
theorem ReadN.no {bs rest : List UInt8} {ys : List Ce} (h : ReadN bs rest ys) (hne : rest ≠ []) (hd : decF rest = none) : openL bs = none := by
  unfold ReadN at h
  rw [h, openL_none hne hd]; rfl
/-! ### The bodies of cells -/
def CsN (E : TypeId) (ys : List Ce) (Nb : List (Nat × Obj)) : Prop := ∀ y ∈ ys, ∃ No, (∀ p ∈ No, p ∈ Nb) ∧ RowN 1 E (bC y.body.b) y.body.b.length y.body.a y.body.c No
theorem CsN.nil {E : TypeId} : CsN E [] [] := fun _ h => nomatch h
theorem CsN.snoc {E : TypeId} {ys : List Ce} {Nb No : List (Nat × Obj)} {y : Ce} (h : CsN E ys Nb) (hy : RowN 1 E (bC y.body.b) y.body.b.length y.body.a y.body.c No) : CsN E (ys ++ [y]) (No ++ Nb) := by
  intro x hx
  rcases List.mem_append.1 hx with hx | hx
  · obtain ⟨M, h1, h2⟩ := h x hx
    exact ⟨M, fun p hp => List.mem_append_right _ (h1 p hp), h2⟩
  · rw [List.mem_singleton.1 hx]
    exact ⟨No, fun p hp => List.mem_append_left _ hp, hy⟩
theorem CsN.brow {E : TypeId} {ys : List Ce} {Nb L : List (Nat × Obj)} {w0 w : World} {X : List Nat} (h : CsN E ys Nb) (H : St w0 X w L) (hs : ∀ p ∈ Nb, p ∈ L) : ∀ y ∈ ys, BRow w y.body.a y.body.b := by
  intro y hy
  obtain ⟨No, h1, h2⟩ := h y hy
  exact h2.browM H (fun p hp => hs p (h1 p hp))
section
variable {w0 w : World} {X : List Nat} {A M R : List (Nat × Obj)}
theorem St.rot3 (H : St w0 X w (A ++ (M ++ R))) : St w0 X w ((A ++ R) ++ M) := by
  rw [List.append_assoc]
  exact H.perm (List.perm_append_comm.append_left A)
theorem St.unrot3 (H : St w0 X w ((A ++ R) ++ M)) : St w0 X w (A ++ (M ++ R)) := by
  rw [List.append_assoc] at H
  exact H.perm (List.perm_append_comm.append_left A)
end
end Go.Er


/-
  Sets of whole numbers, kept as maps to truth values: made, written, asked, counted, ranged over.
-/
namespace Go.Er
open Go
open Go.ChangeMaps (setBlock)

section
variable {P : Program} {w0 w : World} {X : List Nat} {L : List (Nat × Obj)} {l : Fr} {d : Option Tmp} {ty : TypeId} {pos : String} {after : Array Edge} {g : Option (Nat × Bool)}
  {x y z : Operand} {T K E : TypeId} {b r : Nat} {ls : List Int} {n : Int}
theorem run_check (hk : Und P K (.int .u64)) (e : Bool) (w : World) : (Instr.checkKey e 10000 K (.int .u64 n)).run P w = .ok () w := by
  have h : ∀ m : Nat, (Instr.checkKey e (m + 1) K (.int .u64 n)).run P w = .ok () w := fun m => by simp [Instr.checkKey, hk w]
  exact h 9999
theorem set_heap {w : World} {b : Nat} {o o' : Obj} (hb : w.heap[b]? = some o) : (setBlock w b o').heap[b]? = some o' := by
  have hlt : b < w.heap.size := by
    rcases Nat.lt_or_ge b w.heap.size with h | h
    · exact h
    · simp [Array.getElem?_eq_none h] at hb
  simp [setBlock, hlt]
theorem set_other {w : World} {b c : Nat} {o' : Obj} (h : c ≠ b) : (setBlock w b o').heap[c]? = w.heap[c]? := by
  simp only [setBlock, Array.getElem?_setIfInBounds]
  rw [if_neg (by omega)]
theorem St.setB {o o' : Obj} (h : St w0 X w L) (k : Nat) (hk : L[k]? = some (b, o)) : St w0 X (setBlock w b o') (L.set k (b, o')) :=
  h.put k hk rfl rfl rfl rfl (by simp [setBlock]) (set_heap (h.at k hk)) (fun _ hc => set_other hc)
theorem run_setMap {es : Array MapEntry} {c : Nat} {o' : Obj} (hb : w.heap[b]? = some (.map es c)) : (setObj b o').run P w = .ok () (setBlock w b o') := by
  simp [setObj, Sem.run, hb, setBlock]
/-! ### Ranging over a set -/
/-- how many are left -/
def leftN (m : Nat) (seen : List Nat) : Nat := ((List.range m).filter fun i => !seen.contains i).length
theorem leftN_lt {m i : Nat} {seen : List Nat} (hi : i < m) (hs : i ∉ seen) : leftN m (seen ++ [i]) < leftN m seen := by
  unfold leftN
  have hp : ∀ l : List Nat, (l.filter fun j => !(seen ++ [i]).contains j).length ≤ (l.filter fun j => !seen.contains j).length := by
    intro l
    induction l with
    | nil => simp
    | cons x xs ih =>
      rw [List.filter_cons, List.filter_cons]
      by_cases h1 : x ∈ seen
      · have a1 : (!(seen ++ [i]).contains x) = false := by simp [h1]
        have a2 : (!seen.contains x) = false := by simp [h1]
        rw [a1, a2]; exact ih
      · have a2 : (!seen.contains x) = true := by simp [h1]
        rw [a2]
        split
        · simpa using ih
        · simp only [if_true, List.length_cons]; omega
  have key : ∀ l : List Nat, i ∈ l → (l.filter fun j => !(seen ++ [i]).contains j).length < (l.filter fun j => !seen.contains j).length := by
    intro l
    induction l with
    | nil => intro h; cases h
    | cons x xs ih =>
      intro h
      rw [List.filter_cons, List.filter_cons]
      by_cases hx : x = i
      · subst hx
        have a1 : (!(seen ++ [x]).contains x) = false := by simp
        have a2 : (!seen.contains x) = true := by simp [hs]
        rw [a1, a2]
        have := hp xs
        simp only [Bool.false_eq_true, if_false, if_true, List.length_cons]
        omega
      · have ih' := ih ((List.mem_cons.1 h).resolve_left (fun e => hx e.symm))
        by_cases h1 : x ∈ seen
        · have a1 : (!(seen ++ [i]).contains x) = false := by simp [h1]
          have a2 : (!seen.contains x) = false := by simp [h1]
          rw [a1, a2]; exact ih'
        · have a1 : (!(seen ++ [i]).contains x) = true := by simp [h1, hx]
          have a2 : (!seen.contains x) = true := by simp [h1]
          rw [a1, a2]; simpa using ih'
  exact key _ (List.mem_range.2 hi)
end
end Go.Er


/-
  Maps from whole numbers to any values: made, written, counted, ranged over.
-/
namespace Go.Er
open Go
open Go.ChangeMaps (setBlock)
def vE (l : List (Int × Value)) : List MapEntry := l.zipIdx.map fun p => { key := .int .u64 p.1.1, val := p.1.2, born := p.2 }
def vmO (l : List (Int × Value)) : Obj := .map (vE l).toArray l.length
def vitO (b : Nat) (l : List (Int × Value)) (seen : List Nat) : Obj := .mapIter (some b) l.length seen.toArray l.length
/-- where a key stands -/
def atV : List (Int × Value) → Int → Option Nat
  | [], _ => none
  | p :: l, n => if p.1 = n then some 0 else (atV l n).map (· + 1)
/-- a value put under a key -/
def putV (l : List (Int × Value)) (n : Int) (v : Value) : List (Int × Value) := match atV l n with
  | some i => l.set i (n, v)
  | none => l ++ [(n, v)]
theorem atV_some : ∀ {l : List (Int × Value)} {n : Int} {i : Nat}, atV l n = some i → ∃ v, l[i]? = some (n, v)
  | [], _,_, h => nomatch h
  | p :: l, n, i, h => by
    unfold atV at h
    split at h
    · rename_i hp
      injection h with h; subst h
      exact ⟨p.2, by subst hp; rfl⟩
    · cases ha : atV l n with
      | none => rw [ha] at h; cases h
      | some j =>
        rw [ha] at h
        injection h with h; subst h
        obtain ⟨v, hv⟩ := atV_some ha
        exact ⟨v, hv⟩
theorem vE_length (l : List (Int × Value)) : (vE l).length = l.length := by simp [vE]
theorem vE_snoc (l : List (Int × Value)) (n : Int) (v : Value) : vE (l ++ [(n, v)]) = vE l ++ [{ key := .int .u64 n, val := v, born := l.length }] := by
  simp [vE, List.zipIdx_append]
theorem vE_at {l : List (Int × Value)} {i : Nat} {p : Int × Value} (h : l[i]? = some p) : (vE l)[i]? = some { key := .int .u64 p.1, val := p.2, born := i } := by
  simp [vE, List.getElem?_map, List.getElem?_zipIdx, h]
theorem vE_mem {l : List (Int × Value)} {e : MapEntry} (h : e ∈ vE l) : ∃ i p, l[i]? = some p ∧ e = { key := .int .u64 p.1, val := p.2, born := i } := by
  obtain ⟨i, hi, he⟩ := List.getElem_of_mem h
  have hl : i < l.length := by rw [vE_length] at hi; exact hi
  refine ⟨i, l[i], List.getElem?_eq_getElem hl, ?_⟩
  have h2 := vE_at (List.getElem?_eq_getElem hl)
  rw [List.getElem?_eq_getElem hi, he] at h2
  exact Option.some.inj h2
theorem vE_born (l : List (Int × Value)) : (vE l).map (·.born) = List.range l.length := by
  have h : ∀ (l : List (Int × Value)) (k : Nat), (l.zipIdx k).map (fun p => p.2) = List.range' k l.length := by
    intro l
    induction l with
    | nil => intro k; rfl
    | cons x xs ih => intro k; rw [List.zipIdx_cons, List.map_cons, ih, List.length_cons, List.range'_succ]
  rw [vE, List.map_map, List.range_eq_range']
  exact h l 0
def vOf (p : (Int × Value) × Nat) : MapEntry := { key := .int .u64 p.1.1, val := p.1.2, born := p.2 }
theorem vfind {n : Int} : ∀ (l : List (Int × Value)) (k j : Nat), Instr.findNow (.int .u64) (.int .u64 n) ((l.zipIdx k).map vOf) j = some (match atV l n with
    | none => none
    | some i => some (j + i, ((l[i]?).map (·.2)).getD undef))
  | [], _,_ => rfl
  | p :: l, k, j => by
    rw [List.zipIdx_cons, List.map_cons]
    by_cases hx : p.1 = n
    · have hb : (n == p.1) = true := by rw [beq_iff_eq]; exact hx.symm
      simp only [Instr.findNow, vOf, Instr.sameNow, if_true, hb]
      unfold atV
      rw [if_pos hx]; rfl
    · have hb : (n == p.1) = false := by rw [beq_eq_false_iff_ne]; exact fun e => hx e.symm
      have h := vfind (n := n) l (k + 1) (j + 1)
      simp only [Instr.findNow, vOf, Instr.sameNow, if_true, hb]
      unfold atV
      rw [if_neg hx]
      refine Eq.trans h ?_
      cases atV l n with
      | none => rfl
      | some i =>
        simp only [Option.map_some]
        rw [show j + 1 + i = j + (i + 1) by omega]
        rfl
section
variable {P : Program} {w0 w : World} {X : List Nat} {L : List (Nat × Obj)} {l : Fr} {d : Option Tmp} {ty : TypeId} {pos : String} {after : Array Edge} {g : Option (Nat × Bool)}
  {x y z : Operand} {T K E : TypeId} {b r : Nat} {ls : List (Int × Value)} {n : Int} {v : Value}
theorem run_getV (hb : w.heap[b]? = some (vmO ls)) : (getObj b).run P w = .ok (.map (vE ls).toArray ls.length) w := by
  have hb' : w.heap[b]? = some (.map (vE ls).toArray ls.length) := hb
  simp [getObj, Sem.run, hb']
theorem run_findV (hk : Und P K (.int .u64)) (w : World) : (Instr.findKey K (.int .u64 n) (vE ls)).run P w = .ok (match atV ls n with
    | none => none
    | some i => some (i, ((ls[i]?).map (·.2)).getD undef)) w := by
  have hf := vfind (n := n) ls 0 0
  have hf' : Instr.findNow (.int .u64) (.int .u64 n) (vE ls) 0 = some (match atV ls n with
    | none => none
    | some i => some (0 + i, ((ls[i]?).map (·.2)).getD undef)) := hf
  cases ha : atV ls n with
  | none => rw [ha] at hf'; simp [Instr.findKey, hk w, hf']
  | some i => rw [ha] at hf'; simp [Instr.findKey, hk w, hf']
theorem m_makeMapV (H : St w0 X w L) : ∃ w' b, (execOp (evl l) ⟨d, .makeMap T none, ty, pos, after, g⟩).run P w = .ok (.value (.map (some b))) w' ∧ St w0 X w' ((b, vmO []) :: L) := by
  refine ⟨_, w.heap.size, ?_, H.alloc (vmO [])⟩
  simp [execOp, Instr.makeMap, vmO, vE]
theorem r_lenMapV {args : List Operand} {rest : List TypeId} (hu : Und P T (.map K E)) (ha : Evs l args [.map (some b)]) (hb : w.heap[b]? = some (vmO ls)) :
    (execOp (evl l) ⟨d, .call ⟨.builtin .len, args.toArray, (T :: rest).toArray⟩, ty, pos, after, g⟩).run P w = .ok (.value (.int .i64 ls.length)) w := by
  simp [execOp, resolve, invoke, builtin, Builtin.len_, ha.map, hu w, goInt, run_getV hb, vE_length]
theorem m_mapUpdateV (H : St w0 X w L) (k : Nat) (hu : Und P T (.map K E)) (hk : Und P K (.int .u64)) (hx : evl l x = .map (some b)) (hy : evl l y = .int .u64 n) (hv : evl l z = v) (hL : L[k]? = some (b, vmO ls)) :
    ∃ w', (execOp (evl l) ⟨d, .mapUpdate T x y z, ty, pos, after, g⟩).run P w = .ok .skip w' ∧ St w0 X w' (L.set k (b, vmO (putV ls n v))) := by
  have hb := H.at k hL
  have hf := run_findV (P := P) (n := n) (ls := ls) hk w
  refine ⟨setBlock w b (vmO (putV ls n v)), ?_, H.setB k hL⟩
  have hset := run_setMap (P := P) (o' := vmO (putV ls n v)) hb
  cases ha : atV ls n with
  | some i =>
    rw [ha] at hf
    obtain ⟨u, hu2⟩ := atV_some ha
    have hm := vE_at hu2
    have hp : putV ls n v = ls.set i (n, v) := by unfold putV; rw [ha]
    have he : (vE ls).modify i (fun e => { key := .int .u64 n, val := v, born := e.born }) = vE (putV ls n v) := by
      rw [hp]
      apply List.ext_getElem?
      intro j
      rw [List.getElem?_modify]
      by_cases hj : i = j
      · subst hj
        have hil : i < ls.length := by
          rcases Nat.lt_or_ge i ls.length with h' | h'
          · exact h'
          · rw [List.getElem?_eq_none h'] at hu2; cases hu2
        have h2 : (ls.set i (n, v))[i]? = some (n, v) := by rw [List.getElem?_set, if_pos rfl, if_pos hil]
        rw [hm, vE_at h2]; simp
      · have h2 : (ls.set i (n, v))[j]? = ls[j]? := by rw [List.getElem?_set, if_neg hj]
        cases hl : ls[j]? with
        | none =>
          have l1 : (vE ls)[j]? = none := by simp [vE, List.getElem?_map, List.getElem?_zipIdx, hl]
          have l2 : (vE (ls.set i (n, v)))[j]? = none := by simp [vE, List.getElem?_map, List.getElem?_zipIdx, h2, hl]
          rw [l1, l2]; rfl
        | some p => rw [vE_at hl, vE_at (h2.trans hl)]; simp [hj]
    have hs : Instr.sameBits 10000 (.int .u64 n) (.int .u64 n) = true := by simp [Instr.sameBits]
    have hks : (Instr.keyThatStays (.int .u64 n) (.int .u64 n)).run P w = .ok (.int .u64 n) w := by simp [Instr.keyThatStays, hs]
    have hlen : (putV ls n v).length = ls.length := by rw [hp, List.length_set]
    simp only [vmO, hlen] at hset ⊢
    simp [execOp, Instr.mapUpdate, hu w, hx, hy, hv, run_getV hb, run_check hk, hf, hm, hks]
    rw [he, hset]; rfl
  | none =>
    rw [ha] at hf
    have hp : putV ls n v = ls ++ [(n, v)] := by unfold putV; rw [ha]
    rw [hp] at hset ⊢
    simp only [vmO, vE_snoc, List.length_append, List.length_singleton] at hset
    simp [execOp, Instr.mapUpdate, hu w, hx, hy, hv, run_getV hb, vmO, run_check hk, hf, vE_snoc]
    rw [hset]; rfl
/-! ### Ranging over it -/
theorem m_rangeV (H : St w0 X w L) (hu : Und P T (.map K E)) (hx : evl l x = .map (some b)) (hb : w.heap[b]? = some (vmO ls)) :
    ∃ w' r, (execOp (evl l) ⟨d, .range T x, ty, pos, after, g⟩).run P w = .ok (.value (.pointer (some ⟨r, 0, none⟩))) w' ∧ St w0 X w' ((r, vitO b ls []) :: L) := by
  refine ⟨_, w.heap.size, ?_, H.alloc (vitO b ls [])⟩
  simp [execOp, Instr.range, hu w, hx, run_getV hb, vitO]
theorem m_nextV (H : St w0 X w L) (k : Nat) {seen : List Nat} (hx : evl l x = .pointer (some ⟨r, 0, none⟩)) (hL : L[k]? = some (r, vitO b ls seen)) (hb : w.heap[b]? = some (vmO ls)) :
    ∃ v w', (execOp (evl l) ⟨d, .next x false, ty, pos, after, g⟩).run P w = .ok (.value v) w' ∧
      ∃ (more : Bool) (rest : List Value) (seen' : List Nat), v = .tuple (.bool more :: rest).toArray ∧ (more = true → ∃ i p, ls[i]? = some p ∧ i ∉ seen ∧ seen' = seen ++ [i]) ∧ (more = false → ∀ i, i < ls.length → i ∈ seen) ∧ St w0 X w' (L.set k (r, vitO b ls seen')) := by
  have hr := H.at k hL
  have hold : ∀ e ∈ (vE ls).toArray.toList, e.born < ls.length := by
    intro e he
    obtain ⟨i, p, hi, rfl⟩ := vE_mem (by simpa using he)
    rcases Nat.lt_or_ge i ls.length with h' | h'
    · exact h'
    · rw [List.getElem?_eq_none h'] at hi; cases hi
  rcases run_next_at (P := P) w ty r b ls.length ls.length seen.toArray (vE ls).toArray ls.length hr hb hold (Nat.le_refl _) with ⟨hno, hrun⟩ | ⟨e, he, w1, hw1, hrun⟩
  · refine ⟨_, w, ?_, false, [], seen, rfl, (fun h => nomatch h), fun _ i hi => ?_, ?_⟩
    · simp [execOp, hx, hrun]
    · by_cases hs : i ∈ seen
      · exact hs
      · exfalso
        have hm : { key := .int .u64 ls[i].1, val := ls[i].2, born := i } ∈ vE ls := List.mem_of_getElem? (vE_at (List.getElem?_eq_getElem hi))
        have : { key := .int .u64 ls[i].1, val := ls[i].2, born := i } ∈ leftOf (vE ls).toArray seen.toArray := by
          unfold leftOf
          simpa using ⟨hm, hs⟩
        rw [Array.size_eq_zero_iff.1 hno] at this
        simp at this
    · have e : L.set k (r, vitO b ls seen) = L := by
        apply List.ext_getElem?
        intro j
        rw [List.getElem?_set]
        split
        · rename_i hj; subst hj
          split
          · exact hL.symm
          · rename_i h2; rw [List.getElem?_eq_none (by omega)] at hL; cases hL
        · rfl
      rw [e]; exact H
  · have he' : e ∈ vE ls ∧ e.born ∉ seen := by
      unfold leftOf at he
      simpa using he
    obtain ⟨i, p, hi, rfl⟩ := vE_mem he'.1
    refine ⟨_, setBlock w1 r (.mapIter (some b) ls.length (seen.toArray.push i) ls.length), ?_, true, [.int .u64 p.1, p.2], seen ++ [i], rfl, fun _ => ⟨i, p, hi, he'.2, rfl⟩, (fun h => nomatch h), ?_⟩
    · simp [execOp, hx, hrun]
    · have H1 : St w0 X w1 L := by
        rcases hw1 with rfl | rfl
        · exact H
        · exact H.drew (Nat.le_succ _)
      have h2 := H1.setB (o' := vitO b ls (seen ++ [i])) k hL
      have e2 : (vitO b ls (seen ++ [i])) = .mapIter (some b) ls.length (seen.toArray.push i) ls.length := by
        unfold vitO; simp
      rw [← e2]; exact h2
theorem r_entryV {seen : List Nat} {i : Nat} {p : Int × Value} (hx : evl l x = .pointer (some ⟨r, 0, none⟩)) (hr : w.heap[r]? = some (vitO b ls (seen ++ [i]))) (hb : w.heap[b]? = some (vmO ls)) (hi : ls[i]? = some p) :
    (execOp (evl l) ⟨d, .entry x, ty, pos, after, g⟩).run P w = .ok (.value (.tuple [.int .u64 p.1, p.2].toArray)) w := by
  have hm := vE_at hi
  have hr' : w.heap[r]? = some (.mapIter (some b) ls.length (seen.toArray.push i) ls.length) := by
    rw [hr]; unfold vitO; simp
  have hn : ((vE ls).toArray.toList.map (·.born)).Nodup := by
    have := vE_born ls
    simp only [this]
    exact List.nodup_range
  have h := run_entry_at (P := P) w r b ls.length seen.toArray (vE ls).toArray ls.length { key := .int .u64 p.1, val := p.2, born := i } hr' hb (by simpa using List.mem_of_getElem? hm) hn
  simp [execOp, hx, h]
end
end Go.Er


/-
  Cells that were found.
-/
namespace Go.Er
open Go
structure FrL where
  at_ : Int
  c : Ce
def frC (y : FrL) : List Value := .int .i64 y.at_ :: ceC y.c
def fr0 : FrL := ⟨0, ce0⟩
def frK (y : FrL) : Int := y.c.num
theorem frC_length (y : FrL) : (frC y).length = 12 := rfl
theorem frC_td (y : FrL) : ((frC y).drop 0).take 12 = frC y := rfl
theorem frC_one (y : FrL) : ∀ v ∈ frC y, v.oneCell' = true := by
  intro v hv
  rcases List.mem_cons.1 hv with rfl | hv
  · rfl
  · exact ceC_one _ v hv
theorem elFr : Elem frC 12 := ⟨frC_length, frC_one⟩
theorem frC_sp (x y : FrL) : splice (frC x) 0 (frC y) = frC y := rfl
theorem frC_cell (y : FrL) : ((frC y).drop (0 + 1)).take 11 = ceC y.c := rfl
end Go.Er


/-
  What is found, put in order: whoever wrote a number last.
-/
namespace Go.Er
open Go
/-- a body that was found: where, of which generation -/
structure Fa where
  at_ : Int
  gen : Int
  bd : Bd
def faC (y : Fa) : List Value := fdV y.at_ y.gen y.bd
def faZ : Fa := ⟨0, 0, bdZ⟩
theorem elFa : Elem faC 3 := ⟨fun _ => rfl, fun _ => fdV_one _ _ _⟩
/-- a cell, and where it stands -/
abbrev EnR := Int × Cp
def entB (t : Int) (bs : List UInt8) : List EnR := ((openF bs).getD []).map fun c => (t, c)
def ents (l : List Fa) : List EnR := l.flatMap fun y => entB y.at_ y.bd.b
theorem ents_append (a b : List Fa) : ents (a ++ b) = ents a ++ ents b := by simp [ents]
theorem ents_take {l : List Fa} {i : Nat} (h : i < l.length) : ents (l.take (i + 1)) = ents (l.take i) ++ entB (l.getD i faZ).at_ (l.getD i faZ).bd.b := by
  rw [List.take_succ_eq_append_getElem h, ents_append]
  have e : l.getD i faZ = l[i] := by rw [List.getD_eq_getElem?_getD, List.getElem?_eq_getElem h]; rfl
  rw [e]
  simp [ents]
def frP (y : FrL) : EnR := (y.at_, ceP y.c)
/-- whoever wrote a number last -/
def LastW (l : List EnR) (p : EnR) : Prop := ∃ a b, l = a ++ p :: b ∧ ∀ q ∈ b, q.2.num ≠ p.2.num
theorem LastW.nil {p : EnR} : ¬ LastW [] p := by
  rintro ⟨a, b, h, _⟩
  have := congrArg List.length h
  simp at this
theorem LastW.mem {l : List EnR} {p : EnR} (h : LastW l p) : p ∈ l := by
  obtain ⟨a, b, rfl, _⟩ := h
  simp
theorem lastW_append {l m : List EnR} {p : EnR} : LastW (l ++ m) p ↔ LastW m p ∨ (LastW l p ∧ ∀ q ∈ m, q.2.num ≠ p.2.num) := by
  constructor
  · rintro ⟨a, b, h, hb⟩
    rcases List.append_eq_append_iff.1 h with ⟨c, h1, h2⟩ | ⟨c, h1, h2⟩
    · exact .inl ⟨c, b, h2, hb⟩
    · rcases c with _ | ⟨x, c⟩
      · exact .inl ⟨[], b, h2.symm, hb⟩
      · rw [List.cons_append] at h2
        injection h2 with h2 h3
        subst h2 h3
        exact .inr ⟨⟨a, c, h1, fun q hq => hb q (List.mem_append_left _ hq)⟩, fun q hq => hb q (List.mem_append_right _ hq)⟩
  · rintro (⟨a, b, rfl, hb⟩ | ⟨⟨a, b, rfl, hb⟩, hm⟩)
    · exact ⟨l ++ a, b, (List.append_assoc _ _ _).symm, hb⟩
    · refine ⟨a, b ++ m, by simp, fun q hq => ?_⟩
      rcases List.mem_append.1 hq with hq | hq
      · exact hb q hq
      · exact hm q hq
theorem lastW_one {e p : EnR} : LastW [e] p ↔ p = e := by
  constructor
  · intro h; exact List.mem_singleton.1 h.mem
  · rintro rfl; exact ⟨[], [], rfl, fun _ h => nomatch h⟩
theorem lastW_snoc {l : List EnR} {e p : EnR} : LastW (l ++ [e]) p ↔ p = e ∨ (LastW l p ∧ p.2.num ≠ e.2.num) := by
  rw [lastW_append, lastW_one]
  constructor
  · rintro (h | ⟨h, k⟩)
    · exact .inl h
    · exact .inr ⟨h, fun hh => k e (List.mem_singleton_self e) hh.symm⟩
  · rintro (h | ⟨h, k⟩)
    · exact .inl h
    · exact .inr ⟨h, fun q hq => by rw [List.mem_singleton.1 hq]; exact fun hh => k hh.symm⟩
theorem lastW_cons {l : List EnR} {e p : EnR} : LastW (e :: l) p ↔ LastW l p ∨ (p = e ∧ ∀ q ∈ l, q.2.num ≠ p.2.num) := by
  have h := lastW_append (l := [e]) (m := l) (p := p)
  rw [lastW_one] at h
  exact h
theorem LastW.has : ∀ {l : List EnR} {q : EnR}, q ∈ l → ∃ p, LastW l p ∧ p.2.num = q.2.num
  | [], _, h => nomatch h
  | x :: l, q, h => by
    by_cases hx : ∃ p, LastW l p ∧ p.2.num = q.2.num
    · obtain ⟨p, h1, h2⟩ := hx
      exact ⟨p, lastW_cons.2 (.inl h1), h2⟩
    · rcases List.mem_cons.1 h with rfl | hq
      · refine ⟨q, lastW_cons.2 (.inr ⟨rfl, fun r hr e => ?_⟩), rfl⟩
        obtain ⟨p, h1, h2⟩ := LastW.has hr
        exact hx ⟨p, h1, h2.trans e⟩
      · exact absurd (LastW.has hq) hx
theorem LastW.one : ∀ {l : List EnR} {p q : EnR}, LastW l p → LastW l q → p.2.num = q.2.num → p = q
  | [], _,_, h, _,_ => absurd h LastW.nil
  | x :: l, p, q, hp, hq, e => by
    rcases lastW_cons.1 hp with h1 | ⟨h1, k1⟩
    · rcases lastW_cons.1 hq with h2 | ⟨h2, k2⟩
      · exact LastW.one h1 h2 e
      · exact absurd e (k2 p h1.mem)
    · rcases lastW_cons.1 hq with h2 | ⟨h2, k2⟩
      · exact absurd e.symm (k1 q h2.mem)
      · rw [h1, h2]
/-- no number stands there twice -/
def KN (l : List EnR) : Prop := l.Pairwise fun p q => p.2.num ≠ q.2.num
theorem lastW_kn {l : List EnR} (h : KN l) {p : EnR} : LastW l p ↔ p ∈ l := by
  refine ⟨LastW.mem, fun hp => ?_⟩
  obtain ⟨a, b, rfl⟩ := List.append_of_mem hp
  refine ⟨a, b, rfl, fun q hq => ?_⟩
  have h2 := (List.pairwise_append.1 h).2.1
  exact fun e => (List.pairwise_cons.1 h2).1 q hq e.symm
/-- two parts' last ones are all's -/
theorem lastW_parts {a b a1 b1 : List EnR} (ha : ∀ p, p ∈ a1 ↔ LastW a p) (hb : ∀ p, p ∈ b1 ↔ LastW b p) (ka : KN a1) (kb : KN b1) {p : EnR} : LastW (a1 ++ b1) p ↔ LastW (a ++ b) p := by
  rw [lastW_append, lastW_append, lastW_kn kb, lastW_kn ka, hb p, ha p]
  constructor
  · rintro (h | ⟨h, k⟩)
    · exact .inl h
    · refine .inr ⟨h, fun q hq e => ?_⟩
      obtain ⟨r, h1, h2⟩ := LastW.has hq
      exact k r ((hb r).2 h1) (h2.trans e)
  · rintro (h | ⟨h, k⟩)
    · exact .inl h
    · exact .inr ⟨h, fun q hq e => k q ((hb q).1 hq).mem e⟩
/-- in the order of numbers -/
def SrtE (l : List EnR) : Prop := l.Pairwise fun p q => p.2.num < q.2.num
theorem SrtE.kn {l : List EnR} (h : SrtE l) : KN l := h.imp fun h e => absurd e (by omega)
theorem SrtE.same : ∀ {a b : List EnR}, SrtE a → SrtE b → (∀ p, p ∈ a ↔ p ∈ b) → a = b
  | [], [], _,_,_ => rfl
  | [], y :: b, _,_, h => absurd ((h y).2 List.mem_cons_self) (List.not_mem_nil)
  | x :: a, [], _,_, h => absurd ((h x).1 List.mem_cons_self) (List.not_mem_nil)
  | x :: a, y :: b, ha, hb, h => by
    obtain ⟨a1, a2⟩ := List.pairwise_cons.1 ha
    obtain ⟨b1, b2⟩ := List.pairwise_cons.1 hb
    have e : x = y := by
      rcases List.mem_cons.1 ((h x).1 List.mem_cons_self) with e | hx
      · exact e
      · rcases List.mem_cons.1 ((h y).2 List.mem_cons_self) with e | hy
        · exact e.symm
        · have h1 := b1 x hx; have h2 := a1 y hy; omega
    subst e
    rw [SrtE.same a2 b2 fun p => ?_]
    constructor
    · intro hp
      rcases List.mem_cons.1 ((h p).1 (List.mem_cons_of_mem _ hp)) with e | hp2
      · subst e; have := a1 p hp; omega
      · exact hp2
    · intro hp
      rcases List.mem_cons.1 ((h p).2 (List.mem_cons_of_mem _ hp)) with e | hp2
      · subst e; have := b1 p hp; omega
      · exact hp2
theorem sub_len {α : Type} : ∀ {l m : List α}, l.Nodup → (∀ x, x ∈ l → x ∈ m) → l.length ≤ m.length
  | [], _,_,_ => Nat.zero_le _
  | x :: l, m, hn, hs => by
    obtain ⟨h1, h2⟩ := List.nodup_cons.1 hn
    obtain ⟨a, b, rfl⟩ := List.append_of_mem (hs x List.mem_cons_self)
    have ih := sub_len (m := a ++ b) h2 fun y hy => by
      have h3 := hs y (List.mem_cons_of_mem _ hy)
      rw [List.mem_append, List.mem_cons] at h3
      rw [List.mem_append]
      rcases h3 with h3 | rfl | h3
      · exact .inl h3
      · exact absurd hy h1
      · exact .inr h3
    rw [List.length_append] at ih
    rw [List.length_append, List.length_cons, List.length_cons]
    omega
theorem KN.nodup {a : List EnR} (h : KN a) : a.Nodup := h.imp fun h e => h (by rw [e])
theorem KN.len {a b : List EnR} (ha : KN a) (hb : KN b) (h : ∀ p, p ∈ a ↔ p ∈ b) : a.length = b.length :=
  Nat.le_antisymm (sub_len ha.nodup fun p hp => (h p).1 hp) (sub_len hb.nodup fun p hp => (h p).2 hp)
/-! ### The map from numbers to what was found last -/
def vfr (xs : List FrL) : List (Int × Value) := xs.map fun y => (frK y, .agg (frC y).toArray)
theorem vfr_length (xs : List FrL) : (vfr xs).length = xs.length := List.length_map _
theorem vfr_get {xs : List FrL} {i : Nat} {p : Int × Value} (h : (vfr xs)[i]? = some p) : ∃ y, xs[i]? = some y ∧ p = (frK y, .agg (frC y).toArray) := by
  unfold vfr at h
  rw [List.getElem?_map] at h
  cases hx : xs[i]? with
  | none => rw [hx] at h; cases h
  | some y => rw [hx] at h; exact ⟨y, rfl, (Option.some.inj h).symm⟩
def putX : List FrL → FrL → List FrL
  | [], y => [y]
  | x :: l, y => if frK x = frK y then y :: l else x :: putX l y
theorem putV_cons (p : Int × Value) (l : List (Int × Value)) (n : Int) (v : Value) : putV (p :: l) n v = if p.1 = n then (n, v) :: l else p :: putV l n v := by
  have e : atV (p :: l) n = if p.1 = n then some 0 else (atV l n).map (· + 1) := rfl
  unfold putV
  rw [e]
  by_cases h : p.1 = n
  · rw [if_pos h, if_pos h]; rfl
  · rw [if_neg h, if_neg h]
    cases atV l n <;> rfl
theorem putV_fr : ∀ (xs : List FrL) (y : FrL), putV (vfr xs) (frK y) (.agg (frC y).toArray) = vfr (putX xs y)
  | [], _ => rfl
  | x :: l, y => by
    have ih := putV_fr l y
    show putV ((frK x, .agg (frC x).toArray) :: vfr l) _ _ = _
    have e : putX (x :: l) y = if frK x = frK y then y :: l else x :: putX l y := rfl
    rw [putV_cons, ih, e]
    by_cases h : frK x = frK y
    · rw [if_pos h, if_pos h]; rfl
    · rw [if_neg h, if_neg h]; rfl
def KX (xs : List FrL) : Prop := xs.Pairwise fun x y => frK x ≠ frK y
theorem mem_putX : ∀ {xs : List FrL} {y p : FrL}, KX xs → (p ∈ putX xs y ↔ p = y ∨ (p ∈ xs ∧ frK p ≠ frK y))
  | [], y, p, _ => by unfold putX; simp
  | x :: l, y, p, h => by
    obtain ⟨h1, h2⟩ := List.pairwise_cons.1 h
    unfold putX
    by_cases e : frK x = frK y
    · rw [if_pos e, List.mem_cons, List.mem_cons]
      constructor
      · rintro (hp | hp)
        · exact .inl hp
        · exact .inr ⟨.inr hp, fun e2 => h1 p hp (e.trans e2.symm)⟩
      · rintro (hp | ⟨rfl | hp, hn⟩)
        · exact .inl hp
        · exact absurd e hn
        · exact .inr hp
    · rw [if_neg e, List.mem_cons, List.mem_cons, mem_putX h2]
      constructor
      · rintro (rfl | hp | ⟨hp, hn⟩)
        · exact .inr ⟨.inl rfl, e⟩
        · exact .inl hp
        · exact .inr ⟨.inr hp, hn⟩
      · rintro (hp | ⟨hp | hp, hn⟩)
        · exact .inr (.inl hp)
        · exact .inl hp
        · exact .inr (.inr ⟨hp, hn⟩)
theorem KX.put : ∀ {xs : List FrL} {y : FrL}, KX xs → KX (putX xs y)
  | [], y, _ => List.pairwise_singleton _ _
  | x :: l, y, h => by
    obtain ⟨h1, h2⟩ := List.pairwise_cons.1 h
    unfold putX
    split
    · rename_i e
      exact List.pairwise_cons.2 ⟨fun q hq => by rw [← e]; exact h1 q hq, h2⟩
    · rename_i e
      refine List.pairwise_cons.2 ⟨fun q hq => ?_, KX.put h2⟩
      rcases (mem_putX h2).1 hq with rfl | ⟨hq, _⟩
      · exact e
      · exact h1 q hq
theorem putX_length : ∀ (xs : List FrL) (y : FrL), (putX xs y).length ≤ xs.length + 1
  | [], _ => Nat.le_refl _
  | x :: l, y => by
    have ih := putX_length l y
    unfold putX
    split
    · show l.length + 1 ≤ _; simp
    · show (putX l y).length + 1 ≤ l.length + 1 + 1; omega
/-- the map has what was written last -/
def MapI (xs : List FrL) (l : List EnR) : Prop := KX xs ∧ ∀ p, p ∈ xs.map frP ↔ LastW l p
theorem MapI.nil : MapI [] [] := ⟨.nil, fun _ => ⟨fun h => (nomatch h), fun h => absurd h LastW.nil⟩⟩
theorem MapI.put {xs : List FrL} {l : List EnR} (h : MapI xs l) (y : FrL) : MapI (putX xs y) (l ++ [frP y]) := by
  refine ⟨h.1.put, fun p => ?_⟩
  rw [lastW_snoc, ← h.2 p, List.mem_map, List.mem_map]
  constructor
  · rintro ⟨z, hz, rfl⟩
    rcases (mem_putX h.1).1 hz with rfl | ⟨hz, hn⟩
    · exact .inl rfl
    · exact .inr ⟨⟨z, hz, rfl⟩, hn⟩
  · rintro (rfl | ⟨⟨z, hz, rfl⟩, hn⟩)
    · exact ⟨y, (mem_putX h.1).2 (.inl rfl), rfl⟩
    · exact ⟨z, (mem_putX h.1).2 (.inr ⟨hz, hn⟩), rfl⟩
theorem KX.kn {xs : List FrL} (h : KX xs) : KN (xs.map frP) := List.pairwise_map.2 h
/-! ### All of a map, in any order -/
def OutI (xs : List FrL) (seen : List Nat) (os : List FrL) : Prop := seen.Nodup ∧ os.map some = seen.map (fun i => xs[i]?)
theorem OutI.nil {xs : List FrL} : OutI xs [] [] := ⟨.nil, rfl⟩
theorem OutI.step {xs os : List FrL} {seen : List Nat} {i : Nat} {y : FrL} (h : OutI xs seen os) (hi : xs[i]? = some y) (hs : i ∉ seen) : OutI xs (seen ++ [i]) (os ++ [y]) := by
  refine ⟨?_, by simp [h.2, hi]⟩
  rw [List.nodup_append]
  refine ⟨h.1, by simp, fun a ha b hb e => ?_⟩
  rw [List.mem_singleton] at hb
  exact hs (hb ▸ e ▸ ha)
theorem OutI.mem {xs os : List FrL} {seen : List Nat} (h : OutI xs seen os) {y : FrL} : y ∈ os ↔ ∃ i ∈ seen, xs[i]? = some y := by
  constructor
  · intro hy
    have h1 : some y ∈ os.map some := List.mem_map.2 ⟨y, hy, rfl⟩
    rw [h.2, List.mem_map] at h1
    obtain ⟨i, hi, e⟩ := h1
    exact ⟨i, hi, e⟩
  · rintro ⟨i, hi, e⟩
    have h1 : some y ∈ os.map some := by rw [h.2]; exact List.mem_map.2 ⟨i, hi, e⟩
    obtain ⟨z, hz, e2⟩ := List.mem_map.1 h1
    injection e2 with e2
    rw [← e2]; exact hz
theorem OutI.all {xs os : List FrL} {seen : List Nat} (h : OutI xs seen os) (ha : ∀ i, i < xs.length → i ∈ seen) {y : FrL} : y ∈ os ↔ y ∈ xs := by
  rw [h.mem]
  constructor
  · rintro ⟨i, _, e⟩; exact List.mem_of_getElem? e
  · intro hy
    obtain ⟨i, hi, e⟩ := List.getElem_of_mem hy
    exact ⟨i, ha i hi, by rw [List.getElem?_eq_getElem hi, e]⟩
theorem OutI.kx {xs os : List FrL} {seen : List Nat} (h : OutI xs seen os) (hk : KX xs) : KX os := by
  unfold KX at hk ⊢
  rw [List.pairwise_iff_getElem] at hk ⊢
  intro a b ha hb hab e
  have hl : os.length = seen.length := by have := congrArg List.length h.2; simpa using this
  have g : ∀ (k : Nat) (hk : k < os.length), xs[seen[k]'(by omega)]? = some os[k] := by
    intro k hk
    have h1 : (os.map some)[k]? = (seen.map (fun i => xs[i]?))[k]? := by rw [h.2]
    rw [List.getElem?_map, List.getElem?_map, List.getElem?_eq_getElem hk, List.getElem?_eq_getElem (show k < seen.length by omega)] at h1
    simpa using h1.symm
  obtain ⟨la, ea⟩ := List.getElem?_eq_some_iff.1 (g a ha)
  obtain ⟨lb, eb⟩ := List.getElem?_eq_some_iff.1 (g b hb)
  have hne : seen[a]'(by omega) ≠ seen[b]'(by omega) := (List.pairwise_iff_getElem.1 h.1) a b (by omega) (by omega) hab
  rcases Nat.lt_or_gt_of_ne hne with hlt | hlt
  · exact hk _ _ la lb hlt (by rw [ea, eb]; exact e)
  · exact hk _ _ lb la hlt (by rw [ea, eb]; exact e.symm)
theorem OutI.len {xs os : List FrL} {seen : List Nat} (h : OutI xs seen os) : os.length ≤ xs.length := by
  have hl : os.length = seen.length := by have := congrArg List.length h.2; simpa using this
  rw [hl]
  have hr : ∀ i ∈ seen, i ∈ List.range xs.length := by
    intro i hi
    have h1 : xs[i]? ∈ seen.map (fun i => xs[i]?) := List.mem_map.2 ⟨i, hi, rfl⟩
    rw [← h.2, List.mem_map] at h1
    obtain ⟨y, _, e⟩ := h1
    rw [List.mem_range]
    exact (List.getElem?_eq_some_iff.1 e.symm).1
  have h2 := sub_len h.1 hr
  rw [List.length_range] at h2
  exact h2
theorem kx_unl {xs : List FrL} (h : KX xs) : Unl fr0 frK xs := by
  rw [unl_iff, List.Nodup, List.pairwise_map]
  exact h
/-- what was found, in the order of numbers -/
def OrdI (zs : List FrL) (l : List EnR) : Prop := SrtE (zs.map frP) ∧ ∀ p, p ∈ zs.map frP ↔ LastW l p
theorem ordI_of {zs os xs : List FrL} {l : List EnR} (hM : MapI xs l) (hm : ∀ y, y ∈ os ↔ y ∈ xs) (hk : KX os) (hp : zs.Perm os) (hs : Srt fr0 frK 0 zs.length zs) : OrdI zs l := by
  constructor
  · have hkz : KX zs := (hp.pairwise_iff (fun h e => h e.symm)).2 hk
    unfold SrtE
    rw [List.pairwise_map, List.pairwise_iff_getElem]
    intro i j hi hj hij
    have h1 := hs i j (Nat.zero_le _) (by omega) hj
    have h2 := List.pairwise_iff_getElem.1 hkz i j hi hj hij
    have e : ∀ (k : Nat) (hk : k < zs.length), kk fr0 frK zs k = frK zs[k] := fun k hk => by
      unfold kk
      rw [List.getD_eq_getElem?_getD, List.getElem?_eq_getElem hk]; rfl
    rw [e i hi, e j hj] at h1
    show frK zs[i] < frK zs[j]
    omega
  · intro p
    rw [← hM.2 p, List.mem_map, List.mem_map]
    constructor
    · rintro ⟨z, hz, rfl⟩
      exact ⟨z, (hm z).1 (hp.mem_iff.1 hz), rfl⟩
    · rintro ⟨z, hz, rfl⟩
      exact ⟨z, hp.mem_iff.2 ((hm z).2 hz), rfl⟩
theorem OrdI.len {zs : List FrL} {l : List EnR} (h : OrdI zs l) : zs.length ≤ l.length := by
  have h2 := sub_len h.1.kn.nodup fun p hp => ((h.2 p).1 hp).mem
  rw [List.length_map] at h2
  exact h2
theorem CsN.mono {E : TypeId} {ys : List Ce} {N N' : List (Nat × Obj)} (h : CsN E ys N) (hs : ∀ p ∈ N, p ∈ N') : CsN E ys N' := fun y hy => by
  obtain ⟨M, h1, h2⟩ := h y hy
  exact ⟨M, fun p hp => hs p (h1 p hp), h2⟩
theorem CsN.put {E : TypeId} {xs : List FrL} {N : List (Nat × Obj)} {y : FrL} (hk : KX xs) (h : CsN E (xs.map FrL.c) N) {cs : List Ce} (h2 : CsN E cs N) (hy : y.c ∈ cs) : CsN E ((putX xs y).map FrL.c) N := by
  intro z hz
  obtain ⟨f, hf, rfl⟩ := List.mem_map.1 hz
  rcases (mem_putX hk).1 hf with rfl | ⟨hf, _⟩
  · exact h2 _ hy
  · exact h _ (List.mem_map.2 ⟨f, hf, rfl⟩)
theorem St.put3 {w0 w : World} {X : List Nat} {p : Nat × Obj} {b : Nat} {R : List (Nat × Obj)} {xs : List FrL} {y : FrL} (H : St w0 X w (p :: (b, vmO (putV (vfr xs) (frK y) (.agg (frC y).toArray))) :: R)) : St w0 X w (p :: (b, vmO (vfr (putX xs y))) :: R) := by
  rw [← putV_fr]; exact H
theorem CsN.of {E : TypeId} {xs zs : List FrL} {N : List (Nat × Obj)} (h : CsN E (xs.map FrL.c) N) (hm : ∀ z ∈ zs, z ∈ xs) : CsN E (zs.map FrL.c) N := by
  intro z hz
  obtain ⟨f, hf, rfl⟩ := List.mem_map.1 hz
  exact h _ (List.mem_map.2 ⟨f, hm f hf, rfl⟩)
end Go.Er


/-
  A cell's bytes; a map asked.
-/
namespace Go.Er
open Go
section
variable {P : Program} {w0 w : World} {X : List Nat} {L : List (Nat × Obj)} {l : Fr} {d : Option Tmp} {ty : TypeId} {pos : String} {after : Array Edge} {g : Option (Nat × Bool)}
  {x y z : Operand} {T K E : TypeId} {b r : Nat} {ls : List (Int × Value)} {n : Int} {v : Value}
theorem r_lookupV {i : Nat} (ha : atV ls n = some i) (hi : ls[i]? = some (n, v)) (hu : Und P T (.map K E)) (hk : Und P K (.int .u64)) (hx : evl l x = .map (some b)) (hy : evl l y = .int .u64 n) (hb : w.heap[b]? = some (vmO ls)) :
    (execOp (evl l) ⟨d, .lookup T x y true, ty, pos, after, g⟩).run P w = .ok (.value (.tuple #[v, .bool true])) w := by
  have hf := run_findV (P := P) (n := n) (ls := ls) hk w
  rw [ha] at hf
  simp only [hi, Option.map_some, Option.getD_some] at hf
  simp [execOp, Instr.lookup, hu w, hx, hy, run_getV hb, run_check hk, hf]
end
theorem atV_mem : ∀ {l : List (Int × Value)} {n : Int} {v : Value}, (n, v) ∈ l → ∃ i u, atV l n = some i ∧ l[i]? = some (n, u)
  | [], _,_, h => nomatch h
  | p :: l, n, v, h => by
    have e : atV (p :: l) n = if p.1 = n then some 0 else (atV l n).map (· + 1) := rfl
    rw [e]
    by_cases hp : p.1 = n
    · rw [if_pos hp]
      exact ⟨0, p.2, rfl, by subst hp; rfl⟩
    · rw [if_neg hp]
      rcases List.mem_cons.1 h with rfl | h2
      · exact absurd rfl hp
      · obtain ⟨i, u, h3, h4⟩ := atV_mem h2
        exact ⟨i + 1, u, by rw [h3]; rfl, h4⟩
/-- what a map from numbers has under a number that it has -/
theorem fr_has {xs : List FrL} {n : Int} (h : ∃ y ∈ xs, frK y = n) : ∃ i y, atV (vfr xs) n = some i ∧ (vfr xs)[i]? = some (n, .agg (frC y).toArray) ∧ y ∈ xs ∧ frK y = n := by
  obtain ⟨y, hy, rfl⟩ := h
  obtain ⟨i, u, h1, h2⟩ := atV_mem (l := vfr xs) (n := frK y) (v := .agg (frC y).toArray) (List.mem_map.2 ⟨y, hy, rfl⟩)
  obtain ⟨z, h3, h4⟩ := vfr_get h2
  injection h4 with h4 h5
  exact ⟨i, z, h1, by rw [h2, h5], List.mem_of_getElem? h3, h4.symm⟩
/-! ### A cell's bytes -/
def i6C (n : Int) : List Value := [.int .i64 n]
theorem elI : Elem i6C 1 := ⟨fun _ => rfl, fun _ v hv => by have e := List.mem_singleton.1 hv; rw [e]; rfl⟩
theorem i6_at {ns : List Int} {pre post : List Value} {off i o : Nat} {n : Int} (ho : pre.length = off) (hx : ns[i]? = some n) (he : o = off + i) : (pre ++ rowC i6C ns ++ post)[o]? = some (.int .i64 n) := by
  rw [row_get elI pre post ho hx (j := 0) (by omega) (by omega)]; rfl
theorem putB_src (n : Int) (size : Nat) : ((bC (putB n size)).drop 0).take (size * 1) = bC (putB n size) := by
  rw [List.drop_zero, Nat.mul_one]
  exact List.take_of_length_le (by rw [bC_length, putB_length]; exact Nat.le_refl _)
theorem putB_len6 (n : Int) (size : Nat) : (bC (putB n size)).length = size * 1 := by rw [bC_length, putB_length, Nat.mul_one]
def numsB (size : Nat) (ns : List Int) : List UInt8 := ns.flatMap fun n => putB n size
theorem numsB_length (size : Nat) (ns : List Int) : (numsB size ns).length = ns.length * size := by
  induction ns with
  | nil => simp [numsB]
  | cons x xs ih => simp only [numsB, List.flatMap_cons, List.length_append, putB_length, List.length_cons] at ih ⊢; rw [ih, Nat.add_mul, Nat.one_mul, Nat.add_comm]
theorem numsB_take {size : Nat} {ns : List Int} {i : Nat} {n : Int} (h : ns[i]? = some n) : numsB size (ns.take (i + 1)) = numsB size (ns.take i) ++ putB n size := by
  rw [List.take_add_one, h]
  simp [numsB]
def encH (c : Cp) : List UInt8 := numsB 1 [c.kind] ++ numsB 2 [c.num] ++ numsB 4 [c.min]
def encP1 (c : Cp) : List UInt8 := encH c ++ if kPl c.kind = true then numsB 1 [c.br, c.vol] ++ numsB 2 [c.blk] else []
def encP2 (c : Cp) : List UInt8 := encP1 c ++ if kRf c.kind = true then numsB 2 [c.ref] else []
def encP3 (c : Cp) : List UInt8 := encP2 c ++ if kMi c.kind = true then numsB 4 [c.fr, c.to, c.un] else []
def encP (c : Cp) : List UInt8 := encP3 c ++ if kBo c.kind = true then numsB 1 [(c.body.length : Int)] ++ c.body else []
theorem encP1_no {c : Cp} (h : kPl c.kind = false) : encP1 c = encH c := by unfold encP1; rw [if_neg (by rw [h]; decide), List.append_nil]
theorem encP2_no {c : Cp} (h : kRf c.kind = false) : encP2 c = encP1 c := by unfold encP2; rw [if_neg (by rw [h]; decide), List.append_nil]
theorem encP3_no {c : Cp} (h : kMi c.kind = false) : encP3 c = encP2 c := by unfold encP3; rw [if_neg (by rw [h]; decide), List.append_nil]
theorem encP_no {c : Cp} (h : kBo c.kind = false) : encP c = encP3 c := by unfold encP; rw [if_neg (by rw [h]; decide), List.append_nil]
theorem encP1_yes {c : Cp} (h : kPl c.kind = true) : encP1 c = encH c ++ numsB 1 [c.br, c.vol] ++ numsB 2 [c.blk] := by unfold encP1; rw [if_pos h, List.append_assoc]
theorem encP2_yes {c : Cp} (h : kRf c.kind = true) : encP2 c = encP1 c ++ numsB 2 [c.ref] := by unfold encP2; rw [if_pos h]
theorem encP3_yes {c : Cp} (h : kMi c.kind = true) : encP3 c = encP2 c ++ numsB 4 [c.fr, c.to, c.un] := by unfold encP3; rw [if_pos h]
theorem encP_yes {c : Cp} (h : kBo c.kind = true) : encP c = encP3 c ++ numsB 1 [(c.body.length : Int)] ++ c.body := by unfold encP; rw [if_pos h, List.append_assoc]
/-- what is written is not below nothing -/
theorem right_nat {c : Cp} (h : rightC c) (hr0 : 0 ≤ c.ref) : 1 ≤ c.kind ∧ c.kind ≤ 8 ∧ 1 ≤ c.num ∧ c.num ≤ 65535 ∧ 0 ≤ c.min ∧ c.min ≤ 1073741824 ∧ (kPl c.kind = true → (0 ≤ c.br ∧ c.br ≤ 15) ∧ (0 ≤ c.vol ∧ c.vol ≤ 15) ∧ 0 ≤ c.blk ∧ c.blk ≤ 255) ∧ (kRf c.kind = true → 0 ≤ c.ref ∧ c.ref ≤ 65535) ∧ (kMi c.kind = true → (0 ≤ c.fr ∧ c.fr ≤ 1073741824) ∧ (0 ≤ c.to ∧ c.to ≤ 1073741824) ∧ 0 ≤ c.un ∧ c.un ≤ 1073741824) ∧ c.body.length ≤ 32 := by
  obtain ⟨hk, ho, hn1, hn2, ⟨hm1, hm2⟩, hf⟩ := h
  unfold kOk at hk
  have hk2 := of_decide_eq_true hk
  obtain ⟨_,_,_, hob⟩ := ho
  unfold fieldsC thereC elderC branchC inM at hf
  refine ⟨hk2.1, hk2.2, hn1, hn2, hm1, hm2, ?_⟩
  rcases (by omega : c.kind = 1 ∨ c.kind = 2 ∨ c.kind = 3 ∨ c.kind = 4 ∨ c.kind = 5 ∨ c.kind = 6 ∨ c.kind = 7 ∨ c.kind = 8) with e | e | e | e | e | e | e | e <;>
    (rw [e] at hf hob ⊢; simp [kPl, kRf, kMi, kBo] at hf hob ⊢ <;> (try rw [hob]) <;> (try simp) <;> omega)
theorem right_ce {y : Ce} (h : rightC (ceP y)) (hr0 : 0 ≤ y.ref) : 1 ≤ y.kind ∧ y.kind ≤ 8 ∧ 1 ≤ y.num ∧ y.num ≤ 65535 ∧ 0 ≤ y.min ∧ y.min ≤ 1073741824 ∧ (kPl y.kind = true → (0 ≤ y.br ∧ y.br ≤ 15) ∧ (0 ≤ y.vol ∧ y.vol ≤ 15) ∧ 0 ≤ y.blk ∧ y.blk ≤ 255) ∧ (kRf y.kind = true → 0 ≤ y.ref ∧ y.ref ≤ 65535) ∧ (kMi y.kind = true → (0 ≤ y.fr ∧ y.fr ≤ 1073741824) ∧ (0 ≤ y.to ∧ y.to ≤ 1073741824) ∧ 0 ≤ y.un ∧ y.un ≤ 1073741824) ∧ y.body.b.length ≤ 32 := right_nat h hr0
/-- a cell that marks -/
def mk8 (n m : Int) : Ce := ⟨8, n, m, 0, 0, 0, 0, 0, 0, 0, bdZ⟩
/-! ### Bodies that are filled -/
def bodyN (cs : List Ce) : List UInt8 := cs.flatMap fun y => encP (ceP y)
theorem bodyN_take {cs : List Ce} {i : Nat} {y : Ce} (h : cs[i]? = some y) : bodyN (cs.take (i + 1)) = bodyN (cs.take i) ++ encP (ceP y) := by
  rw [List.take_add_one, h]
  simp [bodyN]
theorem bodyN_le (cs : List Ce) (i : Nat) : (bodyN (cs.take i)).length ≤ (bodyN cs).length := by
  have e : bodyN cs = bodyN (cs.take i) ++ bodyN (cs.drop i) := by
    unfold bodyN
    rw [← List.flatMap_append, List.take_append_drop]
  rw [e, List.length_append]; omega
def bd1 (y : Bd) : List Value := [bdV y]
theorem elB1 : Elem bd1 1 := ⟨fun _ => rfl, fun _ v hv => by have e := List.mem_singleton.1 hv; rw [e]; rfl⟩
theorem bd1_set {u : Bd} {a : Option Addr} {n c : Nat} {b : List UInt8} (h : n = b.length) : (bd1 u).set 0 (.slice a n c) = bd1 ⟨a, b, c⟩ := by rw [h]; rfl
section
variable {P : Program} {w0 w : World} {X : List Nat} {L : List (Nat × Obj)} {l : Fr} {d : Option Tmp} {ty : TypeId} {pos : String} {after : Array Edge} {g : Option (Nat × Bool)} {T E : TypeId} {sz : Nat} {z : Value} {us vs : List Value}
/-- a literal of two elements -/
theorem m_bslice2 {o1 o2 : Operand} {v1 v2 : Value} (H : St w0 X w L) (hu : Und P T (.slice E)) (hs : Size P E sz) (hz : Zero P E z) (h0 : 0 < sz) (h24 : sz ≤ 1000000)
    (hx1 : evo l o1 = some v1) (hx2 : evo l o2 = some v2) (hv1 : v1.cells = us.toArray) (hv2 : v2.cells = vs.toArray) (hl1 : us.length = sz) (hl2 : vs.length = sz) :
    ∃ w' b, (execOp (evl l) ⟨d, .buildSlice T 2 [(0, o1), (1, o2)].toArray, ty, pos, after, g⟩).run P w = .ok (.value (.slice (some ⟨b, 0, none⟩) 2 2)) w' ∧ St w0 X w' ((b, .cells (us ++ vs).toArray E (0, 0)) :: L) := by
  refine ⟨_, w.heap.size, ?_, H.alloc (.cells (us ++ vs).toArray E (0, 0))⟩
  let zs := ((Array.range (2 * sz)).map (z.cells[· % z.cells.size]!)).toList
  have hzl : zs.length = 2 * sz := by simp [zs]
  have s1 : splice zs 0 us = us ++ zs.drop sz := by simp [splice, hl1]
  have s2 : splice (us ++ zs.drop sz) sz vs = us ++ vs := by
    rw [splice_at hl1]
    have hd : (zs.drop sz).drop vs.length = [] := by
      apply List.drop_eq_nil_of_le
      rw [List.length_drop]; omega
    rw [hd, List.append_nil]
  have hf : fillL [(0, sz), (sz, sz)] zs [(0, v1), (1, v2)] = some (us ++ vs) := by
    simp only [fillL, List.getElem?_cons_zero, List.getElem?_cons_succ, hv1, hv2]
    rw [if_pos ⟨hl1, by omega⟩, s1, if_pos ⟨hl2, by rw [List.length_append, List.length_drop]; omega⟩, s2]
  have hfill := fill_eq [(0, sz), (sz, sz)] (fun i => some (i * sz, sz)) [(0, v1), (1, v2)] zs (by intro p hp; simp at hp; rcases hp with rfl | rfl <;> simp) hf
  have e : zs.toArray = (Array.range (2 * sz)).map (z.cells[· % z.cells.size]!) := Array.toArray_toList
  rw [e] at hfill
  have h1 : ¬ 2 * sz > 2 ^ 24 := by have : (2 : Nat) ^ 24 = 16777216 := by decide
                                    omega
  have h2 : ¬ 2 * sz = 0 := by omega
  simp only [execOp, Instr.buildSlice, Sem.run_bind, hu w, Result.andThen_ok, hs w, Sem.run_ite, if_neg h1, if_neg h2, hz w, Sem.run_pure]
  simp only [List.map_toArray, List.map_cons, List.map_nil, evl_of hx1, evl_of hx2, hfill]
  rfl
end
theorem bd1_at {bd : Bd} {sp : List Value} {o : Nat} (ho : o = 0) : (bd1 bd ++ sp)[o]? = some (bdV bd) := by subst ho; rfl
theorem bd1_setA {u : Bd} {a : Option Addr} {n c o : Nat} {b : List UInt8} {sp : List Value} (ho : o = 0) (h : n = b.length) : (bd1 u ++ sp).set o (.slice a n c) = bd1 ⟨a, b, c⟩ ++ sp := by subst ho; rw [h]; rfl
section
variable {w0 w : World} {X : List Nat} {A M No N L : List (Nat × Obj)} {p : Nat × Obj}
theorem St.nil1 (H : St w0 X w L) : St w0 X w (L ++ []) := by rw [List.append_nil]; exact H
theorem St.front (H : St w0 X w (A ++ (M ++ (No ++ N)))) : St w0 X w (No ++ (A ++ (M ++ N))) := by
  refine H.perm ?_
  refine (List.perm_append_comm_assoc No A (M ++ N)).trans ?_
  exact (List.perm_append_comm_assoc No M N).append_left A
theorem St.fillA (H : St w0 X w (p :: (A ++ (M ++ (N ++ No))))) : St w0 X w ((p :: (A ++ (M ++ No))) ++ N) := by
  refine H.perm ?_
  refine List.Perm.cons _ ?_
  show ((A ++ (M ++ No)) ++ N).Perm _
  rw [List.append_assoc, List.append_assoc]
  exact List.Perm.append_left A (List.Perm.append_left M List.perm_append_comm)
theorem St.fillB (H : St w0 X w ((p :: (A ++ (M ++ No))) ++ N)) : St w0 X w (p :: (N ++ No)) := by
  have h1 : St w0 X w ((p :: No) ++ N) := H.sub (List.Sublist.append (.cons_cons _ ((List.sublist_append_right _ _).trans (List.sublist_append_right _ _))) (List.Sublist.refl _))
  exact h1.perm (List.Perm.cons _ List.perm_append_comm)
end
/-- bodies, while cells are filled into one -/
def FillI (TB U : TypeId) (k n : Nat) (a : Option Addr) (c : Nat) (bd : Bd) (Nr NB : List (Nat × Obj)) : Prop :=
  RowN 1 U (bC bd.b) bd.b.length bd.a bd.c NB ∧ ((k = 0 ∧ n = 0 ∧ a = none ∧ c = 0 ∧ bd = bdZ ∧ Nr = [] ∧ NB = []) ∨
    (0 < k ∧ n = 1 ∧ ∃ (bo : Nat) (sp : List Value), a = some ⟨bo, 0, none⟩ ∧ 1 ≤ c ∧ c ≤ 1 + sp.length ∧ Nr = [(bo, .cells (bd1 bd ++ sp).toArray TB (0, 0))]))
/-! ### The document's example -/
theorem mk8_right {n m : Int} (h1 : 1 ≤ n) (h2 : n ≤ 65535) (h3 : 0 ≤ m) (h4 : m ≤ 1073741824) : rightC (ceP (mk8 n m)) := by
  refine ⟨rfl, ⟨fun _ => ⟨rfl, rfl, rfl⟩, fun _ => rfl, fun _ => ⟨rfl, rfl, rfl⟩, fun _ => rfl⟩, h1, h2, ⟨h3, h4⟩, ?_⟩
  exact fieldsC_8 (show (8 : Int) ≠ 1 by decide) (show (8 : Int) ≠ 2 by decide) (show (8 : Int) ≠ 3 by decide) (show (8 : Int) ≠ 4 by decide) (show (8 : Int) ≠ 5 by decide) (show (8 : Int) ≠ 6 by decide) (show (8 : Int) ≠ 7 by decide)
def cpM (n m : Int) : Cp := ceP (mk8 n m)
theorem ex_a : openF (bodyN [mk8 3 1, mk8 5 1]) = some [cpM 3 1, cpM 5 1] := by kernel_rfl
theorem ex_b : openF (bodyN [mk8 3 2]) = some [cpM 3 2] := by kernel_rfl
theorem ex_ord {ya yb : Fa} (ha : ya.at_ = 2) (hb : yb.at_ = 4) (ea : ya.bd.b = bodyN [mk8 3 1, mk8 5 1]) (eb : yb.bd.b = bodyN [mk8 3 2]) {zs : List FrL} (h : OrdI zs (ents [ya, yb])) : ∃ z0 z1, zs = [z0, z1] ∧ z0.at_ = 4 ∧ z0.c.min = 2 ∧ z1.at_ = 2 ∧ z1.c.num = 5 := by
  have e : ents [ya, yb] = ([(2, cpM 3 1)] ++ [(2, cpM 5 1)]) ++ [(4, cpM 3 2)] := by
    show entB ya.at_ ya.bd.b ++ (entB yb.at_ yb.bd.b ++ []) = _
    unfold entB
    rw [ha, hb, ea, eb, ex_a, ex_b]; rfl
  rw [e] at h
  have hm : ∀ p, p ∈ zs.map frP ↔ p ∈ [(4, cpM 3 2), (2, cpM 5 1)] := by
    intro p
    rw [h.2 p, lastW_snoc, lastW_snoc, lastW_one]
    simp only [List.mem_cons, List.not_mem_nil, or_false]
    constructor
    · rintro (rfl | ⟨rfl | ⟨rfl, _⟩, hn⟩)
      · exact .inl rfl
      · exact .inr rfl
      · exact absurd rfl hn
    · rintro (rfl | rfl)
      · exact .inl rfl
      · refine .inr ⟨.inl rfl, ?_⟩
        show (5 : Int) ≠ 3
        decide
  have hs : SrtE [((4 : Int), cpM 3 2), (2, cpM 5 1)] := by
    refine List.pairwise_cons.2 ⟨fun q hq => ?_, List.pairwise_singleton _ _⟩
    rw [List.mem_singleton.1 hq]
    show (3 : Int) < 5
    decide
  have hz := SrtE.same h.1 hs hm
  have hl : zs.length = 2 := by have := congrArg List.length hz; simpa using this
  obtain ⟨z0, z1, rfl⟩ : ∃ z0 z1, zs = [z0, z1] := by
    rcases zs with _ | ⟨z0, _ | ⟨z1, _ | ⟨z2, zs⟩⟩⟩
    · cases hl
    · cases hl
    · exact ⟨z0, z1, rfl⟩
    · simp only [List.length_cons] at hl; omega
  simp only [List.map_cons, List.map_nil, List.cons.injEq, and_true] at hz
  obtain ⟨h0, h1⟩ := hz
  refine ⟨z0, z1, rfl, congrArg Prod.fst h0, ?_, congrArg Prod.fst h1, ?_⟩
  · exact congrArg (fun p : EnR => p.2.min) h0
  · exact congrArg (fun p : EnR => p.2.num) h1
end Go.Er


/-
  Rows cut in two; what is found in rows.
-/
namespace Go.Er
open Go
section
variable {α : Type} {f : α → List Value} {sz : Nat} {w w0 : World} {a : Option Addr} {xs : List α} {c : Nat}
theorem rrow_take (h : RRow f w a xs) (k c : Nat) : RRow f w (cutA a sz c 0) (xs.take k) := by
  intro hx
  rw [List.length_take] at hx
  obtain ⟨b, off, pre, post, T, fz, rfl, hb, hp⟩ := h (by omega)
  have e : rowC f xs = rowC f (xs.take k) ++ rowC f (xs.drop k) := by rw [← rowC_append, List.take_append_drop]
  refine ⟨b, off, pre, rowC f (xs.drop k) ++ post, T, fz, cutA_zero, ?_, hp⟩
  rw [e] at hb
  rw [hb]; simp
theorem rrow_drop (he : Elem f sz) (h : RRow f w a xs) (hc : xs.length ≤ c) (k : Nat) : RRow f w (cutA a sz c k) (xs.drop k) := by
  intro hx
  rw [List.length_drop] at hx
  obtain ⟨b, off, pre, post, T, fz, rfl, hb, hp⟩ := h (by omega)
  have e : rowC f xs = rowC f (xs.take k) ++ rowC f (xs.drop k) := by rw [← rowC_append, List.take_append_drop]
  refine ⟨b, off + k * sz, pre ++ rowC f (xs.take k), post, T, fz, cutA_some (by omega), ?_, ?_⟩
  · rw [e] at hb
    rw [hb]; simp
  · rw [List.length_append, hp, rowC_length he, List.length_take, Nat.min_eq_left (by omega)]
end
theorem remK {m n : Int} (h0 : 0 ≤ m) : m.tmod n = m % n := Int.tmod_eq_emod_of_nonneg h0
theorem remN (cut : Int) (n : Nat) : ∃ k : Nat, cut % ((n : Int) + 1) = (k : Int) ∧ k ≤ n := by
  have h1 := Int.emod_nonneg cut (b := (n : Int) + 1) (by omega)
  have h2 := Int.emod_lt_of_pos cut (b := (n : Int) + 1) (by omega)
  exact ⟨(cut % ((n : Int) + 1)).toNat, by omega, by omega⟩
theorem fa_bd {pre post : List Value} {ys : List Fa} {y : Fa} {off i o : Nat} (ho : pre.length = off) (hx : ys[i]? = some y) (he : o = off + i * 3 + 2) : (pre ++ rowC faC ys ++ post)[o]? = some (bdV y.bd) := by
  rw [row_get elFa pre post ho hx (j := 2) (by omega) he]; rfl
section
variable {zs : List FrL} {sp : List Value} {x : FrL} {i o : Nat}
theorem fr_num (hx : zs[i]? = some x) (he : o = i * 12 + 2) : (rowC frC zs ++ sp)[o]? = some (.int .u64 x.c.num) := by
  have h := row_get elFr [] sp (off := 0) rfl hx (j := 2) (o := o) (by omega) (by omega)
  rw [List.nil_append] at h
  rw [h]; rfl
theorem fr_min (hx : zs[i]? = some x) (he : o = i * 12 + 3) : (rowC frC zs ++ sp)[o]? = some (.int .i64 x.c.min) := by
  have h := row_get elFr [] sp (off := 0) rfl hx (j := 3) (o := o) (by omega) (by omega)
  rw [List.nil_append] at h
  rw [h]; rfl
theorem fr_at (hx : zs[i]? = some x) (he : o = i * 12) : (rowC frC zs ++ sp)[o]? = some (.int .i64 x.at_) := by
  have h := row_get elFr [] sp (off := 0) rfl hx (j := 0) (o := o) (by omega) (by omega)
  rw [List.nil_append] at h
  rw [h]; rfl
theorem fr_all (hx : zs[i]? = some x) (he : o = i * 12) : ((rowC frC zs ++ sp).drop o).take 12 = frC x := by
  have h := row_td elFr [] sp (off := 0) (o := o) rfl hx (by omega)
  rwa [List.nil_append] at h
theorem fr_cell (hx : zs[i]? = some x) (he : o = i * 12 + 1) : ((rowC frC zs ++ sp).drop o).take 11 = ceC x.c := by
  have h := row_td elFr [] sp (off := 0) (o := i * 12) rfl hx (by omega)
  rw [List.nil_append] at h
  have h2 : (frC x).drop 1 = ceC x.c := rfl
  rw [← h2, ← h, List.drop_take, List.drop_drop, he]
end
theorem srtE_get {zs : List FrL} {i j : Nat} {x y : FrL} (h : SrtE (zs.map frP)) (hi : zs[i]? = some x) (hj : zs[j]? = some y) (hij : i < j) : x.c.num < y.c.num := by
  unfold SrtE at h
  rw [List.pairwise_map, List.pairwise_iff_getElem] at h
  obtain ⟨li, ei⟩ := List.getElem?_eq_some_iff.1 hi
  obtain ⟨lj, ej⟩ := List.getElem?_eq_some_iff.1 hj
  have h2 := h i j li lj hij
  rw [ei, ej] at h2
  exact h2
section
variable {w0 w : World} {X : List Nat} {p q r : Nat × Obj} {A B R : List (Nat × Obj)} {b : Nat} {xs : List FrL} {y : FrL}
theorem St.put1 (H : St w0 X w ((b, vmO (putV (vfr xs) (frK y) (.agg (frC y).toArray))) :: R)) : St w0 X w ((b, vmO (vfr (putX xs y))) :: R) := by
  rw [← putV_fr]; exact H
theorem St.aw (H : St w0 X w ((p :: A) ++ (q :: r :: B))) : St w0 X w (p :: r :: (A ++ B)) := by
  have h1 : St w0 X w ((p :: A) ++ (r :: B)) := H.sub (List.Sublist.append (List.Sublist.refl _) (.cons _ (List.Sublist.refl _)))
  exact h1.perm (List.Perm.cons _ List.perm_middle.symm)
end
/-- what a map took from two rows -/
theorem mapI_take {xs : List FrL} {l : List EnR} {zs : List FrL} {i : Nat} {x : FrL} (h : MapI xs (l ++ (zs.map frP).take i)) (hx : zs[i]? = some x) : MapI (putX xs x) (l ++ (zs.map frP).take (i + 1)) := by
  have e : (zs.map frP).take (i + 1) = (zs.map frP).take i ++ [frP x] := by
    rw [List.take_add_one, List.getElem?_map, hx]; rfl
  rw [e, ← List.append_assoc]
  exact h.put x
theorem mem_put_or {xs : List FrL} {x : FrL} {Q : FrL → Prop} (hk : KX xs) (h : ∀ y ∈ xs, Q y) (hx : Q x) : ∀ y ∈ putX xs x, Q y := by
  intro y hy
  rcases (mem_putX hk).1 hy with rfl | ⟨hy, _⟩
  · exact hx
  · exact h y hy
/-- two parts' last ones in a map are all's -/
theorem parts_all {xs za zb zc : List FrL} {la lb : List EnR} (hM : MapI xs (za.map frP ++ zb.map frP)) (ha : OrdI za la) (hb : OrdI zb lb) (hc : OrdI zc (la ++ lb)) : zc.length = xs.length ∧ ∀ x ∈ zc, ∃ i y, atV (vfr xs) x.c.num = some i ∧ (vfr xs)[i]? = some (x.c.num, .agg (frC y).toArray) ∧ y ∈ xs ∧ y.at_ = x.at_ ∧ ceEq y.c x.c := by
  have hm : ∀ p, p ∈ zc.map frP ↔ p ∈ xs.map frP := fun p => by
    rw [hc.2 p, hM.2 p, lastW_parts (fun p => ha.2 p) (fun p => hb.2 p) ha.1.kn hb.1.kn]
  refine ⟨?_, fun x hx => ?_⟩
  · have h := KN.len hc.1.kn hM.1.kn hm
    rwa [List.length_map, List.length_map] at h
  · have h1 := (hm (frP x)).1 (List.mem_map.2 ⟨x, hx, rfl⟩)
    obtain ⟨y', hy', e'⟩ := List.mem_map.1 h1
    obtain ⟨i, y, h3, h4, h5, h6⟩ := fr_has (xs := xs) (n := x.c.num) ⟨y', hy', congrArg (fun p : EnR => p.2.num) e'⟩
    have h7 : frP y = frP x := LastW.one ((hM.2 _).1 (List.mem_map.2 ⟨y, h5, rfl⟩)) ((hM.2 _).1 h1) h6
    exact ⟨i, y, h3, h4, h5, congrArg Prod.fst h7, ceP_eq.1 (congrArg Prod.snd h7)⟩
/-! ### The example -/
theorem ex_hA : ∀ y ∈ [mk8 3 1, mk8 5 1], rightC (ceP y) ∧ 0 ≤ y.ref := by
  intro y hy
  simp only [List.mem_cons, List.not_mem_nil, or_false] at hy
  rcases hy with rfl | rfl
  · exact ⟨mk8_right (by decide) (by decide) (by decide) (by decide), Int.le_refl _⟩
  · exact ⟨mk8_right (by decide) (by decide) (by decide) (by decide), Int.le_refl _⟩
theorem ex_hB : ∀ y ∈ [mk8 3 2], rightC (ceP y) ∧ 0 ≤ y.ref := by
  intro y hy
  rw [List.mem_singleton.1 hy]
  exact ⟨mk8_right (by decide) (by decide) (by decide) (by decide), Int.le_refl _⟩
theorem ex_rA {w : World} : ∀ y ∈ [mk8 3 1, mk8 5 1], BRow w y.body.a y.body.b := by
  intro y hy
  simp only [List.mem_cons, List.not_mem_nil, or_false] at hy
  rcases hy with rfl | rfl
  · exact brow_nil _ _
  · exact brow_nil _ _
theorem ex_rB {w : World} : ∀ y ∈ [mk8 3 2], BRow w y.body.a y.body.b := by
  intro y hy
  rw [List.mem_singleton.1 hy]
  exact brow_nil _ _
theorem ex_lA : (bodyN [mk8 3 1, mk8 5 1]).length = 14 := by kernel_rfl
theorem ex_lB : (bodyN [mk8 3 2]).length = 7 := by kernel_rfl
theorem ex_two {Q : Fa → Prop} {a b : Fa} (h1 : Q a) (h2 : Q b) : ∀ y ∈ [a, b], Q y := by
  intro y hy
  simp only [List.mem_cons, List.not_mem_nil, or_false] at hy
  rcases hy with rfl | rfl
  · exact h1
  · exact h2
theorem ex_lenF {ya yb : Fa} (ea : ya.bd.b = bodyN [mk8 3 1, mk8 5 1]) (eb : yb.bd.b = bodyN [mk8 3 2]) : (ents [ya, yb]).length < 256 := by
  show (entB ya.at_ ya.bd.b ++ (entB yb.at_ yb.bd.b ++ [])).length < 256
  unfold entB
  rw [ea, eb, ex_a, ex_b, List.append_nil, List.length_append, List.length_map, List.length_map]
  show 2 + 1 < 256
  omega
/-! ### How many cells a body has -/
theorem openK_len : ∀ (k : Nat) (bs : List UInt8) (l : List Cp), openK k bs = some l → l.length * 7 ≤ bs.length
  | 0, bs, l, h => by
    unfold openK at h
    injection h with h
    subst h
    show 0 * 7 ≤ _
    omega
  | k + 1, bs, l, h => by
    rw [openK_succ] at h
    by_cases hb : bs = []
    · rw [if_pos hb] at h
      injection h with h
      subst h
      show 0 * 7 ≤ _
      omega
    · rw [if_neg hb] at h
      cases hd : decF bs with
      | none => rw [hd] at h; cases h
      | some p =>
        obtain ⟨c, r⟩ := p
        rw [hd] at h
        have h2 : (openK k r).map (c :: ·) = some l := h
        cases ho : openK k r with
        | none => rw [ho] at h2; cases h2
        | some m =>
          rw [ho] at h2
          injection h2 with h2
          subst h2
          have ih := openK_len k r m ho
          have h7 := decF_seven hd
          show (m.length + 1) * 7 ≤ _
          omega
theorem entB_len (t : Int) (bs : List UInt8) : (entB t bs).length ≤ 14 := by
  unfold entB
  rw [List.length_map]
  cases ho : openF bs with
  | none => exact Nat.zero_le _
  | some l =>
    show l.length ≤ 14
    unfold openF at ho
    split at ho
    · cases ho
    · have := openK_len _ _ _ ho
      omega
theorem ents_len (l : List Fa) : (ents l).length ≤ l.length * 14 := by
  induction l with
  | nil => exact Nat.zero_le _
  | cons x l ih =>
    show (entB x.at_ x.bd.b ++ ents l).length ≤ (l.length + 1) * 14
    rw [List.length_append]
    have := entB_len x.at_ x.bd.b
    omega
end Go.Er

