/-
  The document's log; what is done to a log; a rig.
-/
import Derived.Test.YtbjalofmamoffaaD3
import Derived.Test.YtbjalofmamoffaaF7
import Derived.Test.YtbjalofmamoffaaT4
namespace Go.Er
open Go
/-! ### The document's log -/
def xrC (z h s k : Int) (a : Option Addr) (n c : Nat) : List Value := [.int .i64 z, .int .i64 h, .int .i64 s, .slice a n c, .int .u64 k]
def xrL (x : LS) (a : Option Addr) (c : Nat) : List Value := xrC x.z x.head x.slot x.known a x.gens.length c
theorem xrC_length (z h s k : Int) (a : Option Addr) (n c : Nat) : (xrC z h s k a n c).length = 5 := rfl
theorem xrC_td (z h s k : Int) (a : Option Addr) (n c : Nat) : ((xrC z h s k a n c).drop 0).take 5 = xrC z h s k a n c := rfl
theorem xrC_one (z h s k : Int) (a : Option Addr) (n c : Nat) : ∀ v ∈ xrC z h s k a n c, v.oneCell' = true := by
  intro v hv
  simp only [xrC, List.mem_cons, List.not_mem_nil, or_false] at hv
  rcases hv with rfl | rfl | rfl | rfl | rfl <;> rfl
theorem xrC_sp {z h s k z' h' s' k' : Int} {a a' : Option Addr} {n c n' c' : Nat} : splice (xrC z h s k a n c) 0 (xrC z' h' s' k' a' n' c') = xrC z' h' s' k' a' n' c' := rfl
theorem xrC_sp0 {l : List Value} {z h s k : Int} {a : Option Addr} {n c : Nat} (hl : l.length = 5) : splice l 0 (xrC z h s k a n c) = xrC z h s k a n c := splice_all (by rw [hl, xrC_length])
theorem xrL_length (x : LS) (a : Option Addr) (c : Nat) : (xrL x a c).length = 5 := rfl
theorem xrL_td (x : LS) (a : Option Addr) (c : Nat) : ((xrL x a c).drop 0).take 5 = xrL x a c := rfl
theorem xrL_one (x : LS) (a : Option Addr) (c : Nat) : ∀ v ∈ xrL x a c, v.oneCell' = true := xrC_one _ _ _ _ _ _ _
theorem xrL_sp (x y : LS) (a b : Option Addr) (c e : Nat) : splice (xrL x a c) 0 (xrL y b e) = xrL y b e := rfl
theorem RowN.urowM {w0 w : World} {X : List Nat} {L : List (Nat × Obj)} {E : TypeId} {ns : List Int} {n : Nat} {a : Option Addr} {cap : Nat} {N : List (Nat × Obj)} (h : RowN 1 E (uC ns) n a cap N) (H : St w0 X w L) (hs : ∀ p ∈ N, p ∈ L) : URow w a ns := by
  intro hx
  obtain ⟨hl, _, ⟨rfl, _⟩ | ⟨b, sp, rfl, _, rfl⟩⟩ := h
  · rw [uC_length] at hl; omega
  · exact ⟨b, 0, [], sp, E, (0, 0), rfl, H.own (b, _) (hs _ (List.mem_singleton.2 rfl)), rfl⟩
theorem RowN.own1 {E : TypeId} {ns : List Int} {a : Option Addr} {cap : Nat} {N : List (Nat × Obj)} (h : RowN 1 E (uC ns) ns.length a cap N) (h0 : 0 < ns.length) : ∃ b sp, a = Option.some ⟨b, 0, none⟩ ∧ N = [(b, .cells (uC ns ++ sp).toArray E (0, 0))] ∧ ns.length ≤ cap ∧ cap ≤ ns.length + sp.length := by
  obtain ⟨_, hc, ⟨h1, _⟩ | ⟨b, sp, rfl, hcap, rfl⟩⟩ := h
  · omega
  · refine ⟨b, sp, rfl, rfl, hc, ?_⟩
    rw [Nat.mul_one, List.length_append, uC_length] at hcap
    exact hcap
theorem RowN.mk1 {E : TypeId} {ns : List Int} {b cap : Nat} {sp : List Value} (h1 : ns.length ≤ cap) (h : cap ≤ ns.length + sp.length) : RowN 1 E (uC ns) ns.length (Option.some ⟨b, 0, none⟩) cap [(b, .cells (uC ns ++ sp).toArray E (0, 0))] :=
  ⟨by rw [uC_length, Nat.mul_one], h1, .inr ⟨b, sp, rfl, by rw [Nat.mul_one, List.length_append, uC_length]; exact h, rfl⟩⟩
theorem uC_setA (ns : List Int) (sp : List Value) (i : Nat) (x : Int) {o : Nat} (hi : i < ns.length) (ho : o = i) : (uC ns ++ sp).set o (.int .u64 x) = uC (ns.set i x) ++ sp := by
  subst ho
  rw [List.set_append_left _ _ (by rw [uC_length]; exact hi)]
  unfold uC; rw [List.map_set]
theorem uC_atA (ns : List Int) (sp : List Value) {i o : Nat} (hi : i < ns.length) (ho : o = i) : (uC ns ++ sp)[o]? = some (.int .u64 (ns.getD i 0)) := by
  rw [List.getElem?_append_left (by rw [uC_length]; omega)]
  exact uC_at ns hi ho
/-! ### What is appended -/
def refAt (r : LS × Int × Int) : Int := if r.2.2 = 0 then r.2.1 else -1
theorem putL_same {x : LS} (hF : LogF x) (h0 : 0 ≤ x.head) (body : List UInt8) : (putL x x.head x.slot (x.gens.getD x.head.toNat 0) body).gens = x.gens ∧ (putL x x.head x.slot (x.gens.getD x.head.toNat 0) body).known = x.known := by
  have hi : x.head.toNat < x.gens.length := by have := hF.gl; have := hF.h.2; omega
  refine ⟨?_, ?_⟩
  · show x.gens.set x.head.toNat (x.gens.getD x.head.toNat 0) = x.gens
    rw [List.getD_eq_getElem?_getD, List.getElem?_eq_getElem hi]
    exact List.set_getElem_self hi
  · show (if _ then _ else _) = _
    rw [if_neg]
    have := hF.kg _ (getD_mem (ns := x.gens) (i := x.head.toNat) hi)
    omega
theorem firstZ_rng {x : LS} (hF : LogF x) : firstZ x.gens < x.g := by
  have := hF.gl; have := hF.g0
  rcases firstZ_cases x.gens with ⟨e, _⟩ | ⟨i, hi, e, _⟩ <;> omega
theorem appL_cases {x : LS} (hF : LogF x) {body : List UInt8} (hb : body.length ≤ 103) :
    (appL x body = (x, 0, 6)) ∨ ∃ s t gn, 0 ≤ s ∧ s < x.g ∧ 0 ≤ t ∧ t < x.z ∧ 0 ≤ gn ∧ gn ≤ x.known + 1 ∧ appL x body = (putL x s t gn body, 2 + s * x.z + t, 0) := by
  unfold appL
  rw [if_neg (by omega)]
  have hk := hF.k
  split
  · rename_i h
    have hi : x.head.toNat < x.gens.length := by have := hF.gl; have := hF.h.2; omega
    refine .inr ⟨x.head, x.slot, x.gens.getD x.head.toNat 0, h.1, hF.h.2, hF.s.1, h.2, (hF.u.get hi).1, ?_, rfl⟩
    have := hF.kg _ (getD_mem (ns := x.gens) (i := x.head.toNat) hi)
    omega
  · split
    · rename_i h
      have := hF.z0
      exact .inr ⟨firstZ x.gens, 0, x.known + 1, h, firstZ_rng hF, Int.le_refl _, by omega, by omega, Int.le_refl _, rfl⟩
    · exact .inl rfl
/-! ### Bytes referred to -/
structure Bd where
  a : Option Addr
  b : List UInt8
  c : Nat
def bdV (y : Bd) : Value := .slice y.a y.b.length y.c
def bdZ : Bd := ⟨none, [], 0⟩
def bdR (ys : List Bd) : List Value := ys.map bdV
theorem bdR_length (ys : List Bd) : (bdR ys).length = ys.length := by simp [bdR]
theorem bdR_at (ys : List Bd) {i o : Nat} (hi : i < ys.length) (ho : o = i) : (bdR ys)[o]? = some (bdV (ys.getD i bdZ)) := by
  subst ho; simp [bdR, List.getD_eq_getElem?_getD, hi]
theorem bdR_set (ys : List Bd) (i : Nat) (y : Bd) {o : Nat} (ho : o = i) : (bdR ys).set o (bdV y) = bdR (ys.set i y) := by
  subst ho; unfold bdR; rw [List.map_set]
theorem getD_set {α : Type} (xs : List α) (i j : Nat) (x d : α) (hi : i < xs.length) : (xs.set i x).getD j d = if i = j then x else xs.getD j d := by
  rw [List.getD_eq_getElem?_getD, List.getD_eq_getElem?_getD, List.getElem?_set]
  by_cases h : i = j
  · subst h; rw [if_pos rfl, if_pos hi, if_pos rfl]; rfl
  · rw [if_neg h, if_neg h]
structure DoL where
  kind : Int
  n : Int
  body : Bd
def doC (y : DoL) : List Value := [.int .u8 y.kind, .int .u8 y.n, bdV y.body]
theorem elDo : Elem doC 3 := ⟨fun _ => rfl, fun y v hv => by
  simp only [doC, bdV, List.mem_cons, List.not_mem_nil, or_false] at hv
  rcases hv with rfl | rfl | rfl <;> rfl⟩
def doZ : DoL := ⟨0, 0, bdZ⟩
def dl (ys : List DoL) (i : Nat) : DoL := ys.getD i doZ
theorem dl_get {ys : List DoL} {i : Nat} (h : i < ys.length) : ys[i]? = some (dl ys i) := by
  unfold dl; rw [List.getD_eq_getElem?_getD, List.getElem?_eq_getElem h]; rfl
theorem dl_mem {ys : List DoL} {i : Nat} (h : i < ys.length) : dl ys i ∈ ys := List.mem_of_getElem? (dl_get h)
theorem doC_length (y : DoL) : (doC y).length = 3 := rfl
theorem doC_td (y : DoL) : ((doC y).drop 0).take 3 = doC y := rfl
theorem doC_sp (x y : DoL) : splice (doC x) 0 (doC y) = doC y := rfl
/-! ### A rig -/
def rigC (p a b m l : Option Addr) (g z : Int) : List Value := [.pointer p, .pointer a, .pointer b, .pointer m, .pointer l, .int .i64 g, .int .i64 z]
theorem rigC_length (p a b m l : Option Addr) (g z : Int) : (rigC p a b m l g z).length = 7 := rfl
theorem rigC_td (p a b m l : Option Addr) (g z : Int) : ((rigC p a b m l g z).drop 0).take 7 = rigC p a b m l g z := rfl
theorem rigC_sh (p a b m l : Option Addr) (g z : Int) : ((rigC p a b m l g z).drop (0 + 5)).take 2 = shC g z := rfl
theorem rigC_one (p a b m l : Option Addr) (g z : Int) : ∀ v ∈ rigC p a b m l g z, v.oneCell' = true := by
  intro v hv
  simp only [rigC, List.mem_cons, List.not_mem_nil, or_false] at hv
  rcases hv with rfl | rfl | rfl | rfl | rfl | rfl | rfl <;> rfl
theorem rigC_sp {p a b m l p' a' b' m' l' : Option Addr} {g z g' z' : Int} : splice (rigC p a b m l g z) 0 (rigC p' a' b' m' l' g' z') = rigC p' a' b' m' l' g' z' := rfl
/-- a log of which nothing is used -/
def newL (g z : Int) : LS := ⟨List.replicate (2 + g * z).toNat zS, List.replicate g.toNat 0, -1, 0, 0, g, z⟩
theorem newL_F {g z : Int} (h0 : 3 ≤ g) (h1 : g ≤ 64) (h2 : 1 ≤ z) (h3 : z ≤ 32) : LogF (newL g z) := by
  have hgz := gz_rng (g := g) (z := z) (by omega) h1 (by omega) h3
  refine ⟨h0, h1, h2, h3, ?_, ?_, ?_, ⟨Int.le_refl _, by show -1 < g; omega⟩, ⟨Int.le_refl _, by show 0 ≤ z; omega⟩, ⟨Int.le_refl _, by show (0 : Int) < _; decide⟩, ?_⟩
  · show ((List.replicate g.toNat (0 : Int)).length : Int) = g
    rw [List.length_replicate]; omega
  · show ((List.replicate (2 + g * z).toNat zS).length : Int) = 2 + g * z
    rw [List.length_replicate]; omega
  · intro n hn; rw [List.eq_of_mem_replicate hn]; exact ⟨Int.le_refl _, by decide⟩
  · intro n hn; rw [List.eq_of_mem_replicate hn]; exact Int.le_refl _
/-! ### What was appended at the places -/
def PL (C : List Sec) (k : Int) (gs : List Int) (bs : List Bd) (at_ : Nat) : Prop :=
  (sd C at_ = zS ∧ gs.getD at_ 0 = 0) ∨ (0 ≤ gs.getD at_ 0 ∧ gs.getD at_ 0 ≤ k ∧ (bs.getD at_ bdZ).b.length ≤ 103 ∧ sd C at_ = sealS (at_ : Nat) (gs.getD at_ 0) (bs.getD at_ bdZ).b)
theorem PL.new {C : List Sec} {k : Int} {gs : List Int} {bs : List Bd} {at_ : Nat} (h : sd C at_ = zS) (h2 : gs.getD at_ 0 = 0) : PL C k gs bs at_ := .inl ⟨h, h2⟩
theorem PL.mono {C : List Sec} {k k' : Int} {gs : List Int} {bs : List Bd} {at_ : Nat} (h : PL C k gs bs at_) (hk : k ≤ k') : PL C k' gs bs at_ := by
  rcases h with h | ⟨a, b, c⟩
  · exact .inl h
  · exact .inr ⟨a, by omega, c⟩
theorem PL.put {C : List Sec} {k k' : Int} {gs : List Int} {bs : List Bd} {at_ n : Nat} {gn : Int} {y : Bd} (h : PL C k gs bs at_) (hk : k ≤ k') (hn : n < C.length) (hg : n < gs.length) (hb : n < bs.length) (h0 : 0 ≤ gn) (h1 : gn ≤ k') (hy : y.b.length ≤ 103) :
    PL (C.set n (sealS (n : Nat) gn y.b)) k' (gs.set n gn) (bs.set n y) at_ := by
  unfold PL
  rw [sd_set hn, getD_set _ _ _ _ _ hg, getD_set _ _ _ _ _ hb]
  by_cases e : n = at_
  · subst e
    rw [if_pos rfl, if_pos rfl, if_pos rfl]
    exact .inr ⟨h0, h1, hy, rfl⟩
  · rw [if_neg e, if_neg e, if_neg e]
    exact h.mono hk
/-- what a reading finds is what was appended, just if the generations are one -/
theorem PL.read {C : List Sec} {k : Int} {gs : List Int} {bs : List Bd} {at_ : Nat} {gn : Int} (h : PL C k gs bs at_) (hk : k < 1000000000) (hg : gn ≠ 0) :
    (gs.getD at_ 0 = gn → Sealed (at_ : Nat) (sd C at_) ∧ genU (sd C at_) = gn ∧ bodyU (sd C at_) = (bs.getD at_ bdZ).b) ∧ (gs.getD at_ 0 ≠ gn → ¬ (Sealed (at_ : Nat) (sd C at_) ∧ genU (sd C at_) = gn)) := by
  rcases h with ⟨h1, h2⟩ | ⟨h0, h1, h2, h3⟩
  · refine ⟨fun h => absurd (h.symm.trans h2) hg, fun _ h => hg ?_⟩
    rw [← h.2, h1]; exact zero_gen
  · have e := seal_gen (at_ := (at_ : Nat)) h2 (gen := gs.getD at_ 0) h0 (by omega)
    refine ⟨fun h => ⟨?_, ?_, ?_⟩, fun h hs => h ?_⟩
    · rw [h3]; exact seal_ok h2 h0 (by omega)
    · rw [h3, e]; exact h
    · rw [h3]; exact seal_body h2
    · rw [← e, ← h3]; exact hs.2
/-! ### Small words -/
section
variable {P : Program} {w0 w : World} {X : List Nat} {L : List (Nat × Obj)} {l : Fr} {d : Option Tmp} {ty : TypeId} {pos : String} {after : Array Edge} {g : Option (Nat × Bool)} {x y : Operand} {T T' E : TypeId} {b : Nat} {a : Option Addr}
theorem r_textB {c : Nat} {bs : List UInt8} (hu : Und P T (.slice E)) (hu' : Und P T' .string) (he : Und P E (.int .u8)) (hx : evl l x = .slice a bs.length c) (hr : BRow w a bs) : (execOp (evl l) ⟨d, .convert T T' x, ty, pos, after, g⟩).run P w = .ok (.value (.string (bytesS bs))) w := by
  rcases Nat.eq_zero_or_pos bs.length with hz | hp
  · have : bs = [] := List.length_eq_zero_iff.1 hz
    subst this
    cases a with
    | none => exact r_text0 hu hu' he hx
    | some a =>
      have h2 := run_bytesToString (P := P) w a 0 c [] rfl
      rw [List.foldl_nil] at h2
      have hx' : evl l x = .slice (some a) 0 c := hx
      have e2 : ByteArray.empty = bytesS [] := rfl
      rw [e2] at h2
      simp [execOp, convert, hx', hu w, hu' w, he w, h2]
  · exact r_textR hu hu' he hx hp hr
theorem r_neqT {s t : List UInt8} {T'' : TypeId} (hx : evl l x = .string (bytesS s)) (hy : evl l y = .string (bytesS t)) : (execOp (evl l) ⟨d, .binOp .neq T x y T'', ty, pos, after, g⟩).run P w = .ok (.value (.bool (decide (s ≠ t)))) w := by
  have e : ((bytesS s).toList == (bytesS t).toList) = decide (s = t) := by rw [bytesS_toList, bytesS_toList]; rw [Bool.eq_iff_iff]; simp
  simp only [execOp, hx, hy, eqGuard, binOp, Op.stringOp, e]
  simp
theorem m_mark {n c k : Nat} {cs : List Value} {F : TypeId} (H : St w0 X w L) (hk : L[k]? = some (b, .cells cs.toArray F (0, 0))) (hu : Und P T (.slice E)) (he : Und P E (.int .u8)) (hx : evl l x = .slice (some ⟨b, 0, none⟩) n c) :
    ∃ v w', (execOp (evl l) ⟨d, .convert T T x, ty, pos, after, g⟩).run P w = .ok (.value v) w' ∧ (v = .slice (some ⟨b, 0, none⟩) n c ∧ St w0 X w' (L.set k (b, .cells cs.toArray F (cs.length, cs.length + 1)))) := by
  have hb := H.at k hk
  refine ⟨_, w.freeze ⟨b, cs.length, none⟩ 1, ?_, rfl, H.put k hk ?_ ?_ ?_ ?_ ?_ ?_ ?_⟩
  · have hs : w.shape? b = some (F, cs.length) := by simp [World.shape?, hb]
    simp [execOp, convert, hx, hu w, he w, markStringish, hs]
  · rfl
  · rfl
  · rfl
  · rfl
  · simp [World.freeze]
  · simp [World.freeze, Array.getElem?_modify, hb]
  · intro c hc
    simp [World.freeze, Array.getElem?_modify, Ne.symm hc]
end
/-! ### A region whose kept state has what is not known -/
theorem St.one {w0 w : World} {X : List Nat} {L : List (Nat × Obj)} (H : St w0 X w L) (k : Nat) {b : Nat} {o : Obj} (hk : L[k]? = some (b, o)) : St w0 X w [(b, o)] :=
  H.sub (List.singleton_sublist.2 (List.mem_of_getElem? hk))
theorem d_beginS {P : Program} {Q : Exit → Act → World → Prop} {w0 w : World} {X : List Nat} {L : List (Nat × Obj)} {l : List Value} {ops : List Oper} {n : Nat} (S : World → Prop) {id sz : Nat} (hz : l.length = sz ∧ Nat.ble sz 1000 = true) (hm : P.follows .mixedOrders = true) (H : St w0 X w L) (_ : S w) (hn : ops.length = n)
    (h : ∀ w, St w0 X w L → RG P ops Q S n (List.replicate n false) ⟨[], l, sz, hz⟩ w) : (Code.region id ops.toArray true).wp P Q ⟨l.toArray, []⟩ w := by
  refine wp_region_held (S := S) hm ?_
  have h' := h { w with drawn := w.drawn + 1 } (H.drew (Nat.le_succ _))
  subst hn
  unfold RG at h'
  rw [Fr.all_nil] at h'
  simpa using h'
theorem xrL_sp0 (y : LS) (a b : Option Addr) (c e : Nat) : splice (xrC 0 0 0 0 a 0 c) 0 (xrL y b e) = xrL y b e := rfl
/-! ### The example -/
def litZ : List Value := (List.replicate 32 (.int .u8 0)) ++ (.int .u64 0 :: List.replicate 32 (.int .u8 0))
def awL : Nat → LS
  | 0 => newL 4 2
  | i + 1 => (appL (awL i) [97]).1
def awA : Nat → Int
  | 0 => 0
  | i + 1 => (appL (awL i) [97]).2.1
theorem aw0 : appL (newL 4 2) [97] = (putL (newL 4 2) 0 0 1 [97], 2, 0) := by
  unfold appL
  rw [if_neg (by decide), if_neg (by decide), if_pos (by decide)]
  rfl
theorem aw1 : appL (putL (newL 4 2) 0 0 1 [97]) [97] = (putL (putL (newL 4 2) 0 0 1 [97]) 0 1 1 [97], 3, 0) := by
  unfold appL
  rw [if_neg (by decide), if_pos (by decide)]
  rfl
def aw2L : LS := putL (putL (newL 4 2) 0 0 1 [97]) 0 1 1 [97]
theorem aw2 : appL aw2L [97] = (putL aw2L 1 0 2 [97], 4, 0) := by
  unfold appL
  rw [if_neg (by decide), if_neg (by decide), if_pos (by decide)]
  rfl
def aw3L : LS := putL aw2L 1 0 2 [97]
theorem awL3 : awL 3 = aw3L := by
  show (appL (appL (appL (newL 4 2) [97]).1 [97]).1 [97]).1 = _
  rw [aw0]; show (appL (appL (putL (newL 4 2) 0 0 1 [97]) [97]).1 [97]).1 = _
  rw [aw1]; show (appL aw2L [97]).1 = _
  rw [aw2]; rfl
theorem awA3 : awA 3 = 4 := by
  show (appL (appL (appL (newL 4 2) [97]).1 [97]).1 [97]).2.1 = _
  rw [aw0]; show (appL (appL (putL (newL 4 2) 0 0 1 [97]) [97]).1 [97]).2.1 = _
  rw [aw1]; show (appL aw2L [97]).2.1 = _
  rw [aw2]
theorem aw_ok {i : Nat} (hi : i < 3) : (appL (awL i) [97]).2.2 = 0 := by
  obtain rfl | rfl | rfl : i = 0 ∨ i = 1 ∨ i = 2 := by omega
  · show (appL (newL 4 2) [97]).2.2 = 0
    rw [aw0]
  · show (appL (appL (newL 4 2) [97]).1 [97]).2.2 = 0
    rw [aw0]; show (appL (putL (newL 4 2) 0 0 1 [97]) [97]).2.2 = 0
    rw [aw1]
  · show (appL (appL (appL (newL 4 2) [97]).1 [97]).1 [97]).2.2 = 0
    rw [aw0]; show (appL (appL (putL (newL 4 2) 0 0 1 [97]) [97]).1 [97]).2.2 = 0
    rw [aw1]; show (appL aw2L [97]).2.2 = 0
    rw [aw2]
theorem aw_known {i : Nat} (hi : i < 3) : (awL i).known ≤ 3 := by
  obtain rfl | rfl | rfl : i = 0 ∨ i = 1 ∨ i = 2 := by omega
  · show (newL 4 2).known ≤ 3; decide
  · show (appL (newL 4 2) [97]).1.known ≤ 3
    rw [aw0]; decide
  · show (appL (appL (newL 4 2) [97]).1 [97]).1.known ≤ 3
    rw [aw0]; show (appL (putL (newL 4 2) 0 0 1 [97]) [97]).1.known ≤ 3
    rw [aw1]; decide
theorem aw3_g : aw3L.g = 4 ∧ aw3L.z = 2 ∧ aw3L.head = 1 ∧ aw3L.slot = 1 ∧ aw3L.gens = [1, 2, 0, 0] := ⟨rfl, rfl, rfl, rfl, rfl⟩
theorem aw3_C : sd aw3L.C 4 = sealS 4 2 [97] := by
  have e : aw3L.C = aw2L.C.set 4 (sealS 4 2 [97]) := rfl
  rw [e, sd_set, if_pos rfl]
  show 4 < ((((List.replicate 10 zS).set 2 _).set 3 _)).length
  rw [List.length_set, List.length_set, List.length_replicate]
  decide
theorem aw3_room : room aw3L = 5 := by decide
section
variable {w0 w : World} {X : List Nat} {x y a b c d e f p : Nat × Obj} {A B C T : List (Nat × Obj)}
theorem St.trMade (H : St w0 X w (x :: y :: (A ++ (B ++ (p :: C))))) : St w0 X w (x :: y :: p :: (A ++ B)) := by
  refine (H.sub (L' := x :: y :: (A ++ (B ++ [p]))) (.cons_cons _ (.cons_cons _ ((List.Sublist.refl _).append ((List.Sublist.refl _).append (.cons_cons _ (List.nil_sublist _))))))).perm (.cons _ (.cons _ ?_))
  rw [← List.append_assoc]
  exact (List.perm_append_comm (l₁ := [p]))
theorem St.trMir (H : St w0 X w ([a, b, c] ++ (d :: e :: f :: p :: T))) : St w0 X w (e :: f :: a :: c :: b :: d :: p :: T) :=
  ((((((((H.swp 3 (L' := a :: b :: c :: e :: d :: f :: p :: T) rfl).swp 2 (L' := a :: b :: e :: c :: d :: f :: p :: T) rfl).swp 1 (L' := a :: e :: b :: c :: d :: f :: p :: T) rfl).swp 0 (L' := e :: a :: b :: c :: d :: f :: p :: T) rfl).swp 4 (L' := e :: a :: b :: c :: f :: d :: p :: T) rfl).swp 3 (L' := e :: a :: b :: f :: c :: d :: p :: T) rfl).swp 2 (L' := e :: a :: f :: b :: c :: d :: p :: T) rfl).swp 1 (L' := e :: f :: a :: b :: c :: d :: p :: T) rfl).swp 3 rfl
end
end Go.Er
