import Derived.Test.YtblphhclfloodaaG2
namespace Go.Proofs.Ytblphhclfloodaa
open Go Go.Er
set_option linter.unusedSimpArgs false in
theorem places29 : Places Try.prog #[] [] := fun w => by simp []

section
variable {w0 w w' : World} {X : List Nat} {Na Nb N : List (Nat × Obj)} {p : Nat × Obj}
theorem _root_.Go.Er.St.trA (h : St w0 X w (p :: (Na ++ Nb))) (hc : St w (Na.map (·.1)) w' N) : St w0 X w' (p :: (N ++ Nb)) := (St.call (h.perm List.perm_middle) hc).perm List.perm_middle.symm
theorem _root_.Go.Er.St.trB (h : St w0 X w (p :: (Na ++ Nb))) (hc : St w (Nb.map (·.1)) w' N) : St w0 X w' (p :: (Na ++ N)) := St.callr (L := p :: Na) h hc
end
theorem key_no {sl sr : Key → Key} {xs : List Held} {n : Int} {k : Key} {ok : Bool} (h : KeyR sl sr xs n k ok) (hn : ¬ ∃ x ∈ xs, InN x n) : ok = false ∧ k = By.zero 32 := by
  rcases h with ⟨_, x, hx, hi, _⟩ | ⟨h, hk, _⟩
  · exact absurd ⟨x, hx, hi⟩ hn
  · exact ⟨h, hk⟩
theorem key_yes {sl sr : Key → Key} {xs : List Held} {n : Int} {k : Key} {ok : Bool} (h : KeyR sl sr xs n k ok) (hn : ∃ x ∈ xs, InN x n) : ok = true ∧ ∃ x ∈ xs, InN x n ∧ k = leafK sl sr x n := by
  rcases h with ⟨h, hx⟩ | ⟨_, _, h⟩
  · exact ⟨h, hx⟩
  · exact absurd hn h
theorem tree0_len {sl sr : Key → Key} {seed : Key} : ∀ (l : List Int), (tree0 sl sr seed l).length ≤ 1 + 17 * l.length
  | [] => by rw [tree0_nil]; simp
  | n :: l => by
    have h := len_tree (sl := sl) (sr := sr) (n := n) (tree0_valid (sl := sl) (sr := sr) (seed := seed) l)
    rw [tree0_punc] at h
    have := tree0_len (sl := sl) (sr := sr) (seed := seed) l
    simp only [List.length_cons]; omega
theorem ord_eq {sl sr : Key → Key} {seed : Key} {ns la lb : List Int} {b : Int} (hla : ∀ n, n ∈ la ↔ n ∈ ns) (hlb : ∀ n ∈ lb, n ∈ ns) (hlc : ∀ j : Nat, j < ns.length → ∀ k : Nat, k < ns.length → (k : Int) = ((j : Int) + b) % (ns.length : Int) → ns.getD k 0 ∈ lb) : tree0 sl sr seed la = tree0 sl sr seed lb := by
  refine tree0_congr fun n _ _ => ⟨fun h => ?_, fun h => (hla n).2 (hlb n h)⟩
  obtain ⟨m, hm, rfl⟩ := List.getElem_of_mem ((hla n).1 h)
  have hp : (0 : Int) < (ns.length : Int) := by omega
  have h0 := Int.emod_nonneg ((m : Int) - b) (by omega : (ns.length : Int) ≠ 0)
  have h1 := Int.emod_lt_of_pos ((m : Int) - b) hp
  have h2 := hlc (((m : Int) - b) % (ns.length : Int)).toNat (by omega) m hm (by
    rw [Int.toNat_of_nonneg h0, Int.emod_add_emod, Int.sub_add_cancel, Int.emod_eq_of_lt (by omega) (by omega)])
  rwa [List.getD_eq_getElem?_getD, List.getElem?_eq_getElem hm] at h2

theorem ord_a {ns la : List Int} {i : Nat} (hi : i < ns.length) (h : ∀ n, n ∈ la ↔ n ∈ ns.take i) : ∀ n, n ∈ ns.getD i 0 :: la ↔ n ∈ ns.take (i + 1) := by
  intro n
  rw [List.take_succ_eq_append_getElem hi, List.mem_append, List.mem_singleton, List.mem_cons, h n, List.getD_eq_getElem?_getD, List.getElem?_eq_getElem hi]
  exact or_comm
theorem ord_b {ns lb : List Int} {x y : Int} (h : ∀ n ∈ lb, n ∈ ns) (hx : x ∈ ns) (hy : y ∈ ns) : ∀ n ∈ x :: y :: lb, n ∈ ns := by
  intro n hn
  rcases List.mem_cons.1 hn with rfl | hn
  · exact hx
  · rcases List.mem_cons.1 hn with rfl | hn
    · exact hy
    · exact h n hn
theorem ord_c {ns lb : List Int} {i k : Nat} {b x : Int} (h : ∀ j : Nat, j < i → ∀ k : Nat, k < ns.length → (k : Int) = ((j : Int) + b) % (ns.length : Int) → ns.getD k 0 ∈ lb) (hk : (k : Int) = ((i : Int) + b) % (ns.length : Int)) : ∀ j : Nat, j < i + 1 → ∀ k' : Nat, k' < ns.length → (k' : Int) = ((j : Int) + b) % (ns.length : Int) → ns.getD k' 0 ∈ x :: ns.getD k 0 :: lb := by
  intro j hj k' hk' he
  by_cases hji : j = i
  · subst hji
    have : k' = k := by omega
    subst this
    exact List.mem_cons_of_mem _ List.mem_cons_self
  · exact List.mem_cons_of_mem _ (List.mem_cons_of_mem _ (h j (by omega) k' hk' he))

theorem splits_little : SplitsBy Try.prog (.iface 29 (.agg #[])) splitL splitR := ⟨_, _, 20, .agg #[], rfl, Try.call20, fun _ => by kernel_rfl, lsplit_spec⟩

set_option maxHeartbeats 4000000 in
theorem awake_spec  (w0 : World) :
    Calls Try.prog 12 #[] w0 fun e w => ∃ v, e = .returned v ∧ (v = .bool true ∧ St w0 [] w []) := by
  have H := St.refl w0
  refine c_enter (args := []) (l := [undef, undef, undef, undef, undef, undef, undef, undef, undef, undef, undef, undef, undef, undef, undef, undef, undef, undef, undef, undef, undef, undef, undef, undef, undef, undef, undef, undef, undef, undef, undef, undef, undef, undef, undef, undef, undef, undef, undef, undef, undef, undef, undef, undef, undef, undef, undef, undef, undef, undef, undef, undef, undef, undef, undef, undef, undef, undef, undef, undef, undef, undef, undef, undef, undef]) Try.func12 Try.ntmps12 rfl rfl ?_
  refine c_rseq (n := 65) ⟨rfl, rfl⟩ ?_
  refine s_val (r_assign rfl) ?_
  refine c_nil (l' := [_, _, _, _, _, _, _, _, _, _, _, _, _, _, _, _, _, _, _, _, _, _, _, _, _, _, _, _, _, _, _, _, _, _, _, _, _, _, _, _, _, _, _, _, _, _, _, _, _, _, _, _, _, _, _, _, _, _, _, _, _, _, _, _, _]) rfl ?_
  refine c_rseq (n := 65) ⟨rfl, rfl⟩ ?_
  refine s_val (r_buildS Try.runUnderlying29 Try.zeroValue29 places29 pn rfl) ?_
  refine s_val (r_makeIface Try.runUnderlying29 (fun _ h => nomatch h) rfl) ?_
  refine s_val (r_buildA (pl := [(0, 1)]) (zs := kC (By.zero 32)) (out := kC key1) (pv := [(0, .int .u8 1)]) Try.runUnderlying23 Try.sizeOf5 Try.zeroValue23 (pc rfl pn) (by intro p hp; simp at hp; subst hp; rfl) (kfill1 rfl rfl)) ?_
  refine s_call (r_call Try.call13 (ec rfl (ec rfl en))) (new_spec _ _ splitL splitR splits_little _) ?_
  rintro v w ⟨bt, N, rfl, hT, HC⟩
  replace H : St w0 [] _ N := H.call0 HC |>.sub (by rw [List.append_nil]; exact List.Sublist.refl _)
  obtain ⟨r, hr⟩ : ∃ r, r = root key1 := ⟨_, rfl⟩
  rw [← hr] at hT
  have hd : r.depth = 0 := by rw [hr]; rfl
  have ha : r.at_ = 0 := by rw [hr]; rfl
  have hv := ex_val hd ha
  have hl1 : [r].length = 1 := rfl
  clear hr
  refine s_val (r_assign rfl) ?_
  refine c_nil (l' := [_, _, _, _, _, _, _, _, _, _, _, _, _, _, _, _, _, _, _, _, _, _, _, _, _, _, _, _, _, _, _, _, _, _, _, _, _, _, _, _, _, _, _, _, _, _, _, _, _, _, _, _, _, _, _, _, _, _, _, _, _, _, _, _, _]) rfl ?_
  refine c_rseq (n := 65) ⟨rfl, rfl⟩ ?_
  refine s_val (r_move rfl) ?_
  refine s_call (r_call Try.call14 (ec rfl (ec rfl en))) (punc_t _ _ [r] _ N splitL splitR splits_little (by omega) hv (by omega) (by omega) _ hT (H.ownsM (List.Sublist.refl _))) ?_
  rintro v w ⟨hv14, N2, hT2, HC⟩
  rw [decide_eq_true ⟨r, List.mem_singleton.2 rfl, (ex_in hd ha).1⟩] at hv14
  subst hv14
  replace H : St w0 [] _ N2 := St.callr (L := []) H HC
  obtain ⟨xs, hxs⟩ : ∃ xs, xs = punc splitL splitR [r] 0 := ⟨_, rfl⟩
  have h17 := ex_len (sl := splitL) (sr := splitR) hd ha
  have hvx := ex_pv (sl := splitL) (sr := splitR) hd ha
  have hct := ex_cnt (sl := splitL) (sr := splitR) hd ha
  have hf := ex_first (sl := splitL) (sr := splitR) hd ha
  have hno := ex_none (sl := splitL) (sr := splitR) hd ha
  have hso := ex_some (sl := splitL) (sr := splitR) hd ha
  rw [← hxs] at hT2 h17 hvx hct hf hno hso
  have hoff := punc_off (sl := splitL) (sr := splitR) hno
  clear hxs
  refine s_val (r_assign rfl) ?_
  refine c_nil (l' := [_, _, _, _, _, _, _, _, _, _, _, _, _, _, _, _, _, _, _, _, _, _, _, _, _, _, _, _, _, _, _, _, _, _, _, _, _, _, _, _, _, _, _, _, _, _, _, _, _, _, _, _, _, _, _, _, _, _, _, _, _, _, _, _, _]) rfl ?_
  refine c_rseq (n := 65) ⟨rfl, rfl⟩ ?_
  refine s_val (r_move rfl) ?_
  refine s_call (r_call Try.call17 (ec rfl en)) (held_spec _ _ xs N2 (by omega) hvx _ hT2 (H.ownsM (List.Sublist.refl _))) ?_
  rintro v w ⟨a', cap', N3, rfl, hN3, HC⟩
  replace H := H.call0 HC
  refine s_val (r_assign rfl) ?_
  refine c_nil (l' := [_, _, _, _, _, _, _, _, _, _, _, _, _, _, _, _, _, _, _, _, _, _, _, _, _, _, _, _, _, _, _, _, _, _, _, _, _, _, _, _, _, _, _, _, _, _, _, _, _, _, _, _, _, _, _, _, _, _, _, _, _, _, _, _, _]) rfl ?_
  refine c_rseq (n := 65) ⟨rfl, rfl⟩ ?_
  refine s_val (r_move rfl) ?_
  refine s_call (r_call Try.call14 (ec rfl (ec rfl en))) (punc_t _ _ xs _ N2 splitL splitR splits_little (by omega) hvx (by omega) (by omega) _ hT2 (H.ownsM (List.sublist_append_right _ _))) ?_
  rintro v w ⟨hv18, N4, hT4, HC⟩
  rw [decide_eq_false hno] at hv18
  subst hv18
  rw [hoff] at hT4
  replace H := St.callr (L := N3) H HC
  refine s_val (r_assign rfl) ?_
  refine c_nil (l' := [_, _, _, _, _, _, _, _, _, _, _, _, _, _, _, _, _, _, _, _, _, _, _, _, _, _, _, _, _, _, _, _, _, _, _, _, _, _, _, _, _, _, _, _, _, _, _, _, _, _, _, _, _, _, _, _, _, _, _, _, _, _, _, _, _]) rfl ?_
  refine c_rseq (n := 65) ⟨rfl, rfl⟩ ?_
  refine s_val (r_move rfl) ?_
  refine s_call (r_call Try.call19 (ec rfl (ec rfl en))) (key_spec _ _ xs N4 (by omega) hvx 0 (by omega) splitL splitR splits_little _ hT4 (H.ownsM (List.sublist_append_right _ _))) ?_
  rintro v w ⟨k0, ok0, hK0, rfl, HC⟩
  obtain ⟨rfl, _⟩ := key_no hK0 hno
  replace H := H.quiet HC
  refine s_val (r_move rfl) ?_
  refine s_val (r_extract rfl rfl) ?_
  refine s_val (r_extract rfl rfl) ?_
  refine s_new (m_alloc (cs := (kC (By.zero 32))) H Try.zeroValue23 rfl) ?_
  intro w b5 H
  refine s_st (m_storen H 0 32 Try.sizeOf23 rfl rfl (by first | exact (kC_length _) | exact (hC_length _)) (by first | exact (kC_one _) | exact (hC_one _)) rfl (by first | exact (by rw [kC_length]; omega) | exact (by rw [hC_length]; omega)) (by first | exact (kC_sp _ _) | exact (hC_sp _ _))) (L' := (_ :: _)) rfl ?_
  intro w H
  refine s_val (r_assign rfl) ?_
  refine c_nil (l' := [_, _, _, _, _, _, _, _, _, _, _, _, _, _, _, _, _, _, _, _, _, _, _, _, _, _, _, _, _, _, _, _, _, _, _, _, _, _, _, _, _, _, _, _, _, _, _, _, _, _, _, _, _, _, _, _, _, _, _, _, _, _, _, _, _]) rfl ?_
  refine c_rseq (n := 65) ⟨rfl, rfl⟩ ?_
  refine s_val (r_move rfl) ?_
  refine s_call (r_call Try.call19 (ec rfl (ec rfl en))) (key_spec _ _ xs N4 (by omega) hvx 1 (by omega) splitL splitR splits_little _ hT4 (H.ownsM (.cons _ (List.sublist_append_right _ _)))) ?_
  rintro v w ⟨k1, ok1, hK1, rfl, HC⟩
  obtain ⟨rfl, _⟩ := key_yes hK1 hso
  replace H := H.quiet HC
  refine s_val (r_move rfl) ?_
  refine s_val (r_extract rfl rfl) ?_
  refine s_val (r_extract rfl rfl) ?_
  refine s_new (m_alloc (cs := (kC (By.zero 32))) H Try.zeroValue23 rfl) ?_
  intro w b7 H
  refine s_st (m_storen H 0 32 Try.sizeOf23 rfl rfl (by first | exact (kC_length _) | exact (hC_length _)) (by first | exact (kC_one _) | exact (hC_one _)) rfl (by first | exact (by rw [kC_length]; omega) | exact (by rw [hC_length]; omega)) (by first | exact (kC_sp _ _) | exact (hC_sp _ _))) (L' := (_ :: _ :: _)) rfl ?_
  intro w H
  refine s_val (r_assign rfl) ?_
  refine c_nil (l' := [_, _, _, _, _, _, _, _, _, _, _, _, _, _, _, _, _, _, _, _, _, _, _, _, _, _, _, _, _, _, _, _, _, _, _, _, _, _, _, _, _, _, _, _, _, _, _, _, _, _, _, _, _, _, _, _, _, _, _, _, _, _, _, _, _]) rfl ?_
  refine c_rseq (n := 65) ⟨rfl, rfl⟩ ?_
  refine s_val (r_move rfl) ?_
  refine s_val (r_move rfl) ?_
  refine g_yes rfl rfl ?_
  refine s_val (r_move rfl) ?_
  refine g_yes rfl rfl ?_
  refine s_val (r_not rfl) ?_
  refine s_val (r_pickt rfl rfl) ?_
  refine s_val (r_move rfl) ?_
  refine g_yes rfl rfl ?_
  refine s_val (r_move rfl) ?_
  refine g_yes rfl rfl ?_
  refine s_val (r_not rfl) ?_
  refine s_val (r_pickt rfl rfl) ?_
  refine s_val (r_move rfl) ?_
  refine g_yes rfl rfl ?_
  refine s_val (r_move rfl) ?_
  refine s_val (r_pickt rfl rfl) ?_
  refine s_val (r_move rfl) ?_
  refine g_yes rfl rfl ?_
  refine s_val (r_move rfl) ?_
  refine g_yes rfl rfl ?_
  refine s_val (r_lens Try.runUnderlying35 (ec rfl en)) ?_
  refine g_yes rfl rfl ?_
  refine s_test (r_eql rfl rfl) (fun h44 => ?_) (fun h44 => ?_)
  · skip
    refine s_val (r_pickt rfl rfl) ?_
    refine s_val (r_move rfl) ?_
    refine g_yes rfl rfl ?_
    refine s_val (r_move rfl) ?_
    refine g_yes rfl rfl ?_
    obtain ⟨bh, off, pre, post, T, fz, rfl, hb, hp⟩ := (hN3.hrowM H (fun p hp => List.mem_cons_of_mem _ (List.mem_cons_of_mem _ (List.mem_append_left _ hp)))) (by omega)
    refine s_val (r_indexAddrS Try.runUnderlying35 Try.sizeOf41 rfl rfl (by omega) (by omega)) ?_
    refine g_yes rfl rfl ?_
    refine s_val (r_fieldAddr (k := 1) Try.runUnderlying41 rfl Try.sizeOf31 (by decide) rfl rfl) ?_
    refine g_yes rfl rfl ?_
    refine s_val (r_load1 Try.isAgg31 rfl hb (hs_at _ _ _ _ 0 hp (by omega))) ?_
    refine g_yes rfl rfl ?_
    refine s_test (r_eql rfl rfl) (fun h51 => ?_) (fun h51 => ?_)
    · skip
      refine s_val (r_pickt rfl rfl) ?_
      refine s_val (r_move rfl) ?_
      refine g_yes rfl rfl ?_
      refine s_val (r_move rfl) ?_
      refine g_yes rfl rfl ?_
      refine s_val (r_indexAddrS Try.runUnderlying35 Try.sizeOf41 rfl rfl (by omega) (by omega)) ?_
      refine g_yes rfl rfl ?_
      refine s_val (r_fieldAddr (k := 0) Try.runUnderlying41 rfl Try.sizeOf3 (by decide) rfl rfl) ?_
      refine g_yes rfl rfl ?_
      refine s_val (r_load1 Try.isAgg3 rfl hb (hs_depth _ _ _ _ 0 hp (by omega))) ?_
      refine g_yes rfl rfl ?_
      refine s_test (r_eql rfl rfl) (fun h58 => ?_) (fun h58 => ?_)
      · skip
        refine s_val (r_pickt rfl rfl) ?_
        refine s_val (r_move rfl) ?_
        refine g_yes rfl rfl ?_
        refine s_val (r_move rfl) ?_
        refine g_yes rfl rfl ?_
        refine s_call (r_call Try.call18 (ec rfl en)) (count_spec _ _ xs N4 (by omega) hvx _ hT4 (H.ownsM (.cons _ (.cons _ (List.sublist_append_right _ _))))) ?_
        rintro v w ⟨rfl, HC⟩
        replace H := H.quiet HC
        refine g_yes rfl rfl ?_
        refine s_val (r_eql rfl rfl) ?_
        refine s_val (r_pickt rfl rfl) ?_
        refine s_val (r_assign rfl) ?_
        refine c_nil (l' := [_, _, _, _, _, _, _, _, _, _, _, _, _, _, _, _, _, _, _, _, _, _, _, _, _, _, _, _, _, _, _, _, _, _, _, _, _, _, _, _, _, _, _, _, _, _, _, _, _, _, _, _, _, _, _, _, _, _, _, _, _, _, _, _, _]) rfl ?_
        refine wp_ret ?_
        refine e_ret (res1 rfl rfl) ⟨_, rfl, ?_⟩
        exact ⟨by rw [decide_eq_true hct], H.sub (List.nil_sublist _)⟩
      · skip
        exfalso; omega
    · skip
      exfalso; omega
  · skip
    exfalso; omega

end Go.Proofs.Ytblphhclfloodaa
