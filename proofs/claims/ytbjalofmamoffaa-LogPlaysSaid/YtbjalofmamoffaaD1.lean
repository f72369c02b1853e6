/-
  Devices: what stands on them, what waits; their blocks.
-/
import Derived.Test.YtbjalofmamoffaaG2
import Derived.Test.YtbjalofmamoffaaK7
namespace Go.Er
open Go
theorem elS : Elem (kC (n := 128)) 128 := ⟨fun _ => kC_length _, fun _ => kC_one _⟩
def wC (p : Int × Sec) : List Value := .int .i64 p.1 :: kC p.2
theorem elW : Elem wC 129 := ⟨fun p => by simp [wC, kC_length], fun p v hv => by
  rcases List.mem_cons.1 hv with rfl | hv
  · rfl
  · exact kC_one _ v hv⟩
theorem wC_length (p : Int × Sec) : (wC p).length = 129 := elW.len p
theorem wC_td (p : Int × Sec) : ((wC p).drop 0).take 129 = wC p := by rw [List.drop_zero, List.take_of_length_le (by rw [wC_length]; exact Nat.le_refl _)]
theorem wC_sec (p : Int × Sec) : ((wC p).drop (0 + 1)).take 128 = kC p.2 := by
  show (kC p.2).take 128 = _
  rw [List.take_of_length_le (by rw [kC_length]; exact Nat.le_refl _)]
theorem wC_sp (p q : Int × Sec) : splice (wC p) 0 (wC q) = wC q := by
  unfold splice
  rw [List.take_zero, List.nil_append, List.drop_of_length_le (by rw [wC_length, wC_length]; omega), List.append_nil]
theorem elS_td {ss : List Sec} {o i : Nat} {s : Sec} (hx : ss[i]? = some s) (he : o = i * 128) : ((rowC kC ss).drop o).take 128 = kC s := by
  have h := row_td elS [] [] (off := 0) (o := o) rfl hx (by omega)
  rwa [List.nil_append, List.append_nil] at h
def zS : Sec := By.zero 128
def wd (ws : List (Int × Sec)) (k : Nat) : Int × Sec := ws.getD k (0, zS)
theorem wd_get {ws : List (Int × Sec)} {k : Nat} (h : k < ws.length) : ws[k]? = some (wd ws k) := by
  unfold wd; rw [List.getD_eq_getElem?_getD, List.getElem?_eq_getElem h]; rfl
def sd (ss : List Sec) (k : Nat) : Sec := ss.getD k zS
theorem sd_get {ss : List Sec} {k : Nat} (h : k < ss.length) : ss[k]? = some (sd ss k) := by
  unfold sd; rw [List.getD_eq_getElem?_getD, List.getElem?_eq_getElem h]; rfl
theorem sd_set {ss : List Sec} {k j : Nat} {s : Sec} (hk : k < ss.length) : sd (ss.set k s) j = if k = j then s else sd ss j := by
  unfold sd
  rw [List.getD_eq_getElem?_getD, List.getD_eq_getElem?_getD, List.getElem?_set]
  split
  · rfl
  · rfl
/-- what stands on a device when all that waits is done -/
def apW (ss : List Sec) (ws : List (Int × Sec)) : List Sec := ws.foldl (fun ss p => ss.set p.1.toNat p.2) ss
theorem apW_snoc (ss : List Sec) (ws : List (Int × Sec)) (n : Int) (s : Sec) : apW ss (ws ++ [(n, s)]) = (apW ss ws).set n.toNat s := by simp [apW]
theorem apW_length (ws : List (Int × Sec)) : ∀ ss, (apW ss ws).length = ss.length := by
  induction ws with
  | nil => intro ss; rfl
  | cons p ws ih => intro ss; show (apW (ss.set p.1.toNat p.2) ws).length = _; rw [ih, List.length_set]
theorem apW_take (ss : List Sec) {ws : List (Int × Sec)} {k : Nat} (h : k < ws.length) : apW ss (ws.take (k + 1)) = (apW ss (ws.take k)).set (wd ws k).1.toNat (wd ws k).2 := by
  have e : ws.take (k + 1) = ws.take k ++ [wd ws k] := by
    rw [List.take_add_one, wd_get h]; rfl
  rw [e]
  exact apW_snoc _ _ _ _
/-- waits are within -/
def InW (m : Nat) (ws : List (Int × Sec)) : Prop := ∀ p ∈ ws, 0 ≤ p.1 ∧ p.1 < (m : Int)
theorem InW.wd {m : Nat} {ws : List (Int × Sec)} (h : InW m ws) {k : Nat} (hk : k < ws.length) : 0 ≤ (wd ws k).1 ∧ (wd ws k).1 < (m : Int) := by
  have := List.mem_of_getElem? (wd_get hk)
  exact h _ this
theorem ap_last {ss : List Sec} {ws : List (Int × Sec)} {n : Nat} {k : Nat} (hk : k < ws.length) (he : (wd ws k).1 = (n : Int)) (hno : ∀ j, k < j → j < ws.length → (wd ws j).1 ≠ (n : Int)) (hin : InW ss.length ws) : sd (apW ss ws) n = (wd ws k).2 := by
  have key : ∀ m, k < m → m ≤ ws.length → sd (apW ss (ws.take m)) n = (wd ws k).2 := by
    intro m
    induction m with
    | zero => intro h; omega
    | succ m ih =>
      intro h1 h2
      have hw := hin.wd (k := m) (by omega)
      rw [apW_take ss (by omega), sd_set (by rw [apW_length]; omega)]
      by_cases hm : m = k
      · subst hm; rw [if_pos (by omega)]
      · have := hno m (by omega) (by omega)
        rw [if_neg (by omega)]
        exact ih (by omega) (by omega)
  have := key ws.length hk (Nat.le_refl _)
  rwa [List.take_length] at this
theorem ap_none {ss : List Sec} {ws : List (Int × Sec)} {n : Nat} (hno : ∀ j, j < ws.length → (wd ws j).1 ≠ (n : Int)) (hin : InW ss.length ws) : sd (apW ss ws) n = sd ss n := by
  have key : ∀ m, m ≤ ws.length → sd (apW ss (ws.take m)) n = sd ss n := by
    intro m
    induction m with
    | zero => intro _; rfl
    | succ m ih =>
      intro h2
      have hw := hin.wd (k := m) (by omega)
      have := hno m (by omega)
      rw [apW_take ss (by omega), sd_set (by rw [apW_length]; omega), if_neg (by omega)]
      exact ih (by omega)
  have := key ws.length (Nat.le_refl _)
  rwa [List.take_length] at this
/-! ### Blocks -/
def dC (bp bs m : Nat) (aw : Option Addr) (k capw : Nat) : List Value := [.pointer (some ⟨bp, 0, none⟩), .slice (some ⟨bs, 0, none⟩) m m, .slice aw k capw, .int .i64 0, .int .i64 0, .bool false, .bool false]
def pC (left : Int) (ac : Option Addr) (nc cc : Nat) : List Value := [.bool false, .int .i64 left, .bool false, .slice ac nc cc]
/-- power that is on, and doesn't fail -/
def PowR (w : World) (bp : Nat) : Prop := ∃ left ac nc cc T fz, w.heap[bp]? = some (.cells (pC left ac nc cc).toArray T fz)
theorem PowR.st {w0 w : World} {L : List (Nat × Obj)} {bp : Nat} (h : PowR w0 bp) (H : St w0 [] w L) : PowR w bp := by
  obtain ⟨a, b, c, d, T, fz, hb⟩ := h
  exact ⟨a, b, c, d, T, fz, H.rd0 hb⟩
/-- a device as it is read -/
def DevR (w : World) (bd : Nat) (C : List Sec) : Prop := ∃ bp bs aw capw ss ws T fz T2 fz2, w.heap[bd]? = some (.cells (dC bp bs ss.length aw ws.length capw).toArray T fz) ∧ w.heap[bs]? = some (.cells (rowC kC ss).toArray T2 fz2) ∧ RRow wC w aw ws ∧ PowR w bp ∧
  apW ss ws = C ∧ InW ss.length ws ∧ ws.length ≤ 1000000
theorem DevR.st {w0 w : World} {L : List (Nat × Obj)} {bd : Nat} {C : List Sec} (h : DevR w0 bd C) (H : St w0 [] w L) : DevR w bd C := by
  obtain ⟨bp, bs, aw, capw, ss, ws, T, fz, T2, fz2, h1, h2, h3, h4, h5, h6, h7⟩ := h
  exact ⟨bp, bs, aw, capw, ss, ws, T, fz, T2, fz2, H.rd0 h1, H.rd0 h2, h3.st H, h4.st H, h5, h6, h7⟩
/-- a device as blocks of one's own -/
def DevN (E : TypeId) (bd bp : Nat) (C : List Sec) (q : Nat) (N : List (Nat × Obj)) : Prop := ∃ bs aw capw ss ws T T2 Nw, N = (bd, .cells (dC bp bs ss.length aw ws.length capw).toArray T (0, 0)) :: (bs, .cells (rowC kC ss).toArray T2 (0, 0)) :: Nw ∧ RowN 129 E (rowC wC ws) ws.length aw capw Nw ∧
  apW ss ws = C ∧ InW ss.length ws ∧ ws.length ≤ q
theorem DevN.rd {w : World} {E : TypeId} {bd bp q : Nat} {C : List Sec} {N : List (Nat × Obj)} (h : DevN E bd bp C q N) (hq : q ≤ 1000000) (hp : PowR w bp) (H : Own w N) : DevR w bd C := by
  obtain ⟨bs, aw, capw, ss, ws, T, T2, Nw, rfl, hw, hC, hin, hl⟩ := h
  refine ⟨bp, bs, aw, capw, ss, ws, T, (0, 0), T2, (0, 0), H.own (bd, _) List.mem_cons_self, H.own (bs, _) (List.mem_cons_of_mem _ List.mem_cons_self), ?_, hp, hC, hin, by omega⟩
  refine RowN.rrowM hw (fun h => h) (St.refl w |> fun _ => H.st) (fun p hp => List.mem_cons_of_mem _ (List.mem_cons_of_mem _ hp))
theorem DevN.rdM {w0 w : World} {X : List Nat} {L : List (Nat × Obj)} {E T : TypeId} {fz : Nat × Nat} {bd bp q : Nat} {C : List Sec} {N : List (Nat × Obj)} {lf : Int} {ac : Option Addr} {nc cc : Nat} (h : DevN E bd bp C q N) (hq : q ≤ 1000000) (H : St w0 X w L) (hp : (bp, Obj.cells (pC lf ac nc cc).toArray T fz) ∈ L) (hs : ∀ p ∈ N, p ∈ L) : DevR w bd C := by
  obtain ⟨bs, aw, capw, ss, ws, T, T2, Nw, rfl, hw, hC, hin, hl⟩ := h
  refine ⟨bp, bs, aw, capw, ss, ws, T, (0, 0), T2, (0, 0), H.own (bd, _) (hs _ List.mem_cons_self), H.own (bs, _) (hs _ (List.mem_cons_of_mem _ List.mem_cons_self)), ?_, ⟨_, _, _, _, _, _, H.own (bp, _) hp⟩, hC, hin, by omega⟩
  exact RowN.rrowM hw (fun h => h) H (fun p hp => hs _ (List.mem_cons_of_mem _ (List.mem_cons_of_mem _ hp)))
theorem wfill (n : Int) (s : Sec) : fillL [(0, 1), (1, 128)] (wC (0, zS)) [(0, .int .i64 n), (1, .agg (kC s).toArray)] = some (wC (n, s)) := by
  have h : (kC s).length = 128 := kC_length s
  have h2 : (kC zS).length = 128 := kC_length zS
  simp [fillL, Value.cells, splice, wC, h, h2]
theorem elS_set {ss : List Sec} {o i : Nat} (s : Sec) (hi : i < ss.length) (he : o = i * 128) : splice (rowC kC ss) o (kC s) = rowC kC (ss.set i s) := by
  have h := row_set elS (sp := []) s hi he
  rwa [List.append_nil, List.append_nil] at h
theorem InW.snoc {m : Nat} {ws : List (Int × Sec)} (h : InW m ws) {n : Int} {s : Sec} (h0 : 0 ≤ n) (h1 : n < (m : Int)) : InW m (ws ++ [(n, s)]) := by
  intro p hp
  rcases List.mem_append.1 hp with hp | hp
  · exact h p hp
  · rw [List.mem_singleton] at hp; subst hp; exact ⟨h0, h1⟩
theorem InW.nil {m : Nat} : InW m [] := fun _ h => nomatch h
theorem row_snoc (ws : List (Int × Sec)) (p : Int × Sec) : rowC wC ws ++ wC p = rowC wC (ws ++ [p]) := by rw [rowC_append, rowC_one1]
/-- power, as blocks of one's own -/
def PowN (E : TypeId) (bp : Nat) (fs : List Value) (N : List (Nat × Obj)) : Prop := ∃ lf ac cc T Nc, N = (bp, .cells (pC lf ac fs.length cc).toArray T (0, 0)) :: Nc ∧ RowN 1 E fs fs.length ac cc Nc
section
variable {P : Program} {w0 : World} {X : List Nat} {A : Prop} {x y : Nat × Obj} {Lr : List (Nat × Obj)} {F : List (Nat × Obj) → Prop} {r : Nat} {args : Array Value} {w : World}
theorem round_outR (h : ∃ fn' tmps assign' body', (Instr.yield r args).run P w = .ok (.round r fn' tmps assign' body') w ∧
      RoundIn Fence.wide 0 P r fn' tmps assign' body' w fun e w' => (e = .returned (.bool true) ∧ ∃ L', St w0 X w' (x :: L') ∧ (L' = Lr ∧ A)) ∨ (e = .returned (.bool false) ∧ ∃ L', St w0 X w' (y :: L') ∧ F L')) :
    ∃ fn' tmps assign' body', (Instr.yield r args).run P w = .ok (.round r fn' tmps assign' body') w ∧
      RoundIn Fence.wide 0 P r fn' tmps assign' body' w fun e w' => (e = .returned (.bool true) ∧ A ∧ St w0 X w' (x :: Lr)) ∨ (e = .returned (.bool false) ∧ ∃ L', St w0 X w' (y :: L') ∧ F L') := by
  obtain ⟨f, t, a, b, hr, hR⟩ := h
  refine ⟨f, t, a, b, hr, hR.mono ?_⟩
  rintro e w' (⟨he, L', H, rfl, hA⟩ | h)
  · exact .inl ⟨he, hA, H⟩
  · exact .inr h
end
end Go.Er
