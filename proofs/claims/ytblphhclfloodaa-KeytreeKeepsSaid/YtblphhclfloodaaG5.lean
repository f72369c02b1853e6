import Derived.Test.YtblphhclfloodaaG3
import Derived.Test.YtblphhclfloodaaT1
namespace Go.Proofs.Ytblphhclfloodaa
open Go Go.Er
theorem keyT23 : KeyT Try.prog 23 := ⟨by kernel_rfl, 5, Try.underlying23, Try.underlying5, Try.sizeOf5⟩

set_option maxHeartbeats 4000000 in
theorem split_spec (seed : Key) (m : Nat) (hm : m < 65536) (w0 : World) :
    Calls Try.prog 5 #[.agg (kC seed).toArray, .int .u16 m] w0 fun e w => ∃ v, e = .returned v ∧ (v = .bool true ∧ St w0 [] w []) := by
  have H := St.refl w0
  refine c_enter (args := [.agg (kC seed).toArray, .int .u16 m]) (l := [.agg (kC seed).toArray, .int .u16 m, undef, undef, undef, undef, undef, undef, undef, undef, undef, undef, undef, undef, undef, undef, undef, undef, undef, undef, undef, undef, undef, undef, undef, undef, undef, undef, undef, undef, undef, undef, undef, undef, undef, undef, undef, undef, undef, undef, undef, undef, undef, undef, undef, undef, undef, undef, undef, undef, undef, undef, undef, undef, undef, undef, undef, undef, undef, undef, undef, undef, undef, undef, undef, undef, undef, undef, undef, undef, undef, undef, undef, undef, undef, undef, undef, undef, undef, undef, undef, undef, undef]) Try.func5 Try.ntmps5 rfl rfl ?_
  refine c_rseq (n := 83) ⟨rfl, rfl⟩ ?_
  refine s_new (m_box (cs := (kC seed)) H rfl rfl) ?_
  intro w b2 H
  refine s_val (r_assign rfl) ?_
  refine c_nil (l' := [_, _, _, _, _, _, _, _, _, _, _, _, _, _, _, _, _, _, _, _, _, _, _, _, _, _, _, _, _, _, _, _, _, _, _, _, _, _, _, _, _, _, _, _, _, _, _, _, _, _, _, _, _, _, _, _, _, _, _, _, _, _, _, _, _, _, _, _, _, _, _, _, _, _, _, _, _, _, _, _, _, _, _]) rfl ?_
  refine c_seq ?_
  refine c_rseq (n := 83) ⟨rfl, rfl⟩ ?_
  refine s_call (r_call Try.call12 en) (awake_spec _) ?_
  rintro v w ⟨rfl, HC⟩
  replace H := H.quiet HC
  refine s_val (r_not rfl) ?_
  refine c_nil (l' := [_, _, _, _, _, _, _, _, _, _, _, _, _, _, _, _, _, _, _, _, _, _, _, _, _, _, _, _, _, _, _, _, _, _, _, _, _, _, _, _, _, _, _, _, _, _, _, _, _, _, _, _, _, _, _, _, _, _, _, _, _, _, _, _, _, _, _, _, _, _, _, _, _, _, _, _, _, _, _, _, _, _, _]) rfl ?_
  refine c_iff rfl ?_
  refine wp_skip ?_
  refine x_thenNormal ?_
  refine c_rseq (n := 83) ⟨rfl, rfl⟩ ?_
  refine s_val (r_buildS Try.runUnderlying29 Try.zeroValue29 places29 pn rfl) ?_
  refine s_val (r_makeIface Try.runUnderlying29 (fun _ h => nomatch h) rfl) ?_
  refine s_val (r_loadn Try.isAgg23 Try.sizeOf23 rfl (H.at 0 rfl) (by first | exact (kC_td _) | exact (hC_td _) | exact (hC_seed _)) (by first | exact (kC_length _) | exact (hC_length _) | exact rfl)) ?_
  refine s_call (r_call Try.call13 (ec rfl (ec rfl en))) (new_spec _ _ splitL splitR splits_little _) ?_
  rintro v w ⟨bt, N, rfl, hT, HC⟩
  replace H : St w0 [] _ (_ :: N) := (H.call0 HC).perm (List.perm_append_comm (l₁ := [_]))
  have hv1 : Valid [root seed] := ⟨root_ok, Int.le_refl _, trivial⟩
  have hl1 : [root seed].length = 1 := rfl
  refine s_val (r_assign rfl) ?_
  refine c_nil (l' := [_, _, _, _, _, _, _, _, _, _, _, _, _, _, _, _, _, _, _, _, _, _, _, _, _, _, _, _, _, _, _, _, _, _, _, _, _, _, _, _, _, _, _, _, _, _, _, _, _, _, _, _, _, _, _, _, _, _, _, _, _, _, _, _, _, _, _, _, _, _, _, _, _, _, _, _, _, _, _, _, _, _, _]) rfl ?_
  refine c_rseq (n := 83) ⟨rfl, rfl⟩ ?_
  refine s_val (r_move rfl) ?_
  refine s_val (r_conv Try.runUnderlying44 Try.runUnderlying31 rfl (w_u64 (by omega) (by omega))) ?_
  obtain ⟨A, hA⟩ : ∃ A : Nat, A = m / 2 * 2 := ⟨_, rfl⟩
  refine s_val (r_andNot rfl rfl (show _ = ((A : Nat) : Int) from (even_not1 hm).trans (by rw [hA]))) ?_
  refine s_val (r_assign rfl) ?_
  refine c_nil (l' := [_, _, _, _, _, _, _, _, _, _, _, _, _, _, _, _, _, _, _, _, _, _, _, _, _, _, _, _, _, _, _, _, _, _, _, _, _, _, _, _, _, _, _, _, _, _, _, _, _, _, _, _, _, _, _, _, _, _, _, _, _, _, _, _, _, _, _, _, _, _, _, _, _, _, _, _, _, _, _, _, _, _, _]) rfl ?_
  refine c_rseq (n := 83) ⟨rfl, rfl⟩ ?_
  refine s_val (r_move rfl) ?_
  refine s_val (r_move rfl) ?_
  refine s_call (r_call Try.call19 (ec rfl (ec rfl en))) (key_spec _ _ [root seed] N (by omega) hv1 (A : Int) (by omega) splitL splitR splits_little _ hT (H.ownsM (.cons _ (List.Sublist.refl _)))) ?_
  rintro v w ⟨ka, oka, hKa, rfl, HC⟩
  obtain ⟨rfl, hka⟩ := keyR_root hKa (by omega) (by omega)
  replace H := H.quiet HC
  refine s_val (r_move rfl) ?_
  refine s_val (r_extract rfl rfl) ?_
  refine s_val (r_extract rfl rfl) ?_
  refine s_new (m_alloc (cs := (kC (By.zero 32))) H Try.zeroValue23 rfl) ?_
  intro w b7 H
  refine s_st (m_storen H 0 32 Try.sizeOf23 rfl rfl (by first | exact (kC_length _) | exact (hC_length _)) (by first | exact (kC_one _) | exact (hC_one _)) rfl (by first | exact (by rw [kC_length]; omega) | exact (by rw [hC_length]; omega)) (by first | exact (kC_sp _ _) | exact (hC_sp _ _))) (L' := (_ :: _ :: _)) rfl ?_
  intro w H
  refine s_val (r_assign rfl) ?_
  refine c_nil (l' := [_, _, _, _, _, _, _, _, _, _, _, _, _, _, _, _, _, _, _, _, _, _, _, _, _, _, _, _, _, _, _, _, _, _, _, _, _, _, _, _, _, _, _, _, _, _, _, _, _, _, _, _, _, _, _, _, _, _, _, _, _, _, _, _, _, _, _, _, _, _, _, _, _, _, _, _, _, _, _, _, _, _, _]) rfl ?_
  refine c_rseq (n := 83) ⟨rfl, rfl⟩ ?_
  refine s_val (r_move rfl) ?_
  refine s_val (r_move rfl) ?_
  refine s_val (r_add rfl rfl (w_u64 (by omega) (by omega))) ?_
  refine s_call (r_call Try.call19 (ec rfl (ec rfl en))) (key_spec _ _ [root seed] N (by omega) hv1 ((A : Int) + 1) (by omega) splitL splitR splits_little _ hT (H.ownsM (.cons _ (.cons _ (List.Sublist.refl _))))) ?_
  rintro v w ⟨kb, okb, hKb, rfl, HC⟩
  obtain ⟨rfl, hkb⟩ := keyR_root hKb (by omega) (by omega)
  replace H := H.quiet HC
  refine s_val (r_move rfl) ?_
  refine s_val (r_extract rfl rfl) ?_
  refine s_val (r_extract rfl rfl) ?_
  refine s_new (m_alloc (cs := (kC (By.zero 32))) H Try.zeroValue23 rfl) ?_
  intro w b9 H
  refine s_st (m_storen H 0 32 Try.sizeOf23 rfl rfl (by first | exact (kC_length _) | exact (hC_length _)) (by first | exact (kC_one _) | exact (hC_one _)) rfl (by first | exact (by rw [kC_length]; omega) | exact (by rw [hC_length]; omega)) (by first | exact (kC_sp _ _) | exact (hC_sp _ _))) (L' := (_ :: _ :: _ :: _)) rfl ?_
  intro w H
  refine s_val (r_assign rfl) ?_
  refine c_nil (l' := [_, _, _, _, _, _, _, _, _, _, _, _, _, _, _, _, _, _, _, _, _, _, _, _, _, _, _, _, _, _, _, _, _, _, _, _, _, _, _, _, _, _, _, _, _, _, _, _, _, _, _, _, _, _, _, _, _, _, _, _, _, _, _, _, _, _, _, _, _, _, _, _, _, _, _, _, _, _, _, _, _, _, _]) rfl ?_
  refine c_rseq (n := 83) ⟨rfl, rfl⟩ ?_
  refine s_val (r_move rfl) ?_
  refine s_val (r_move rfl) ?_
  obtain ⟨p, hp2, hp3, hpe, hp4, hpn⟩ := pair_of (A := A) (by omega)
  refine s_val (r_xor rfl rfl (show _ = ((p : Nat) : Int) from (xor_small (n := A) (m := 2) (by omega) (by omega)).trans (by rw [hp2]))) ?_
  refine s_call (r_call Try.call14 (ec rfl (ec rfl en))) (punc_t _ _ [root seed] (p : Int) N splitL splitR splits_little (by omega) hv1 (by omega) (by omega) _ hT (H.ownsM (.cons _ (.cons _ (.cons _ (List.Sublist.refl _)))))) ?_
  rintro v w ⟨rfl, N2, hT2, HC⟩
  obtain ⟨l1, hl1⟩ : ∃ l1 : List Int, l1 = [(p : Int)] := ⟨_, rfl⟩
  have hll : l1.length = 1 := by rw [hl1]; rfl
  rw [← tree0_nil (sl := splitL) (sr := splitR), tree0_punc, ← hl1] at hT2
  replace H : St w0 [] _ (_ :: _ :: _ :: N2) := St.callr (L := [_, _, _]) H HC
  refine c_nil (l' := [_, _, _, _, _, _, _, _, _, _, _, _, _, _, _, _, _, _, _, _, _, _, _, _, _, _, _, _, _, _, _, _, _, _, _, _, _, _, _, _, _, _, _, _, _, _, _, _, _, _, _, _, _, _, _, _, _, _, _, _, _, _, _, _, _, _, _, _, _, _, _, _, _, _, _, _, _, _, _, _, _, _, _]) rfl ?_
  refine c_rseq (n := 83) ⟨rfl, rfl⟩ ?_
  refine s_val (r_move rfl) ?_
  refine s_val (r_move rfl) ?_
  refine s_val (r_xor rfl rfl (show _ = ((p : Nat) : Int) + 1 from (xor_small (n := A) (m := 3) (by omega) (by omega)).trans (by rw [hp3]; omega))) ?_
  refine s_call (r_call Try.call14 (ec rfl (ec rfl en))) (punc_t _ _ (tree0 splitL splitR seed l1) ((p : Int) + 1) N2 splitL splitR splits_little (by have := tree0_len (sl := splitL) (sr := splitR) (seed := seed) (l1); (try simp only [List.length_cons] at this); omega) (tree0_valid _) (by omega) (by omega) _ hT2 (H.ownsM (.cons _ (.cons _ (.cons _ (List.Sublist.refl _)))))) ?_
  rintro v w ⟨rfl, N3, hT3, HC⟩
  obtain ⟨l2, hl2⟩ : ∃ l2 : List Int, l2 = ((p : Int) + 1) :: l1 := ⟨_, rfl⟩
  have hll2 : l2.length = 2 := by rw [hl2, List.length_cons, hll]
  rw [tree0_punc, ← hl2] at hT3
  replace H : St w0 [] _ (_ :: _ :: _ :: N3) := St.callr (L := [_, _, _]) H HC
  refine c_nil (l' := [_, _, _, _, _, _, _, _, _, _, _, _, _, _, _, _, _, _, _, _, _, _, _, _, _, _, _, _, _, _, _, _, _, _, _, _, _, _, _, _, _, _, _, _, _, _, _, _, _, _, _, _, _, _, _, _, _, _, _, _, _, _, _, _, _, _, _, _, _, _, _, _, _, _, _, _, _, _, _, _, _, _, _]) rfl ?_
  refine c_seq ?_
  refine c_rseq (n := 83) ⟨rfl, rfl⟩ ?_
  refine s_val (r_move rfl) ?_
  obtain ⟨xs, hxs⟩ : ∃ xs, xs = tree0 splitL splitR seed l2 := ⟨_, rfl⟩
  rw [← hxs] at hT3
  have hvx : Valid xs := by rw [hxs]; exact tree0_valid _
  have hlx : xs.length ≤ 35 := by have := tree0_len (sl := splitL) (sr := splitR) (seed := seed) l2; rw [← hxs] at this; omega
  have hex : ∃ x ∈ xs, x.at_ = (A : Int) ∧ x.depth = 16 := by rw [hxs, hl2, hl1]; exact split_held (by omega) (by omega) (by omega) (by omega) (by omega) (by omega)
  have hks : ∀ x ∈ xs, x.depth = 16 → x.at_ = (A : Int) → splitL x.seed = ka ∧ splitR x.seed = kb := fun x hx hd ha => split_keys (by rw [hxs] at hx; exact hx) hd (by rw [ha]; exact hka) (by rw [ha]; exact hkb)
  clear hxs
  refine s_call (r_call Try.call17 (ec rfl en)) (held_spec _ _ xs N3 (by omega) hvx _ hT3 (H.ownsM (.cons _ (.cons _ (.cons _ (List.Sublist.refl _)))))) ?_
  rintro v w ⟨a', cap', N5, rfl, hN5, HC⟩
  replace H : St w0 [] _ (_ :: _ :: N5) := ((H.call0 HC).perm (List.perm_append_comm (l₁ := _ :: _ :: _ :: N3))).sub (.cons_cons _ (.cons_cons _ (.cons _ (List.sublist_append_right _ _))))
  refine s_val (r_lens Try.runUnderlying35 (ec rfl en)) ?_
  refine s_val (r_move rfl) ?_
  refine c_nil (l' := [_, _, _, _, _, _, _, _, _, _, _, _, _, _, _, _, _, _, _, _, _, _, _, _, _, _, _, _, _, _, _, _, _, _, _, _, _, _, _, _, _, _, _, _, _, _, _, _, _, _, _, _, _, _, _, _, _, _, _, _, _, _, _, _, _, _, _, _, _, _, _, _, _, _, _, _, _, _, _, _, _, _, _]) rfl ?_
  refine wp_block ?_
  refine c_loop (fun (l0 : List Value) (i : Nat) (l : List Value) (w : World) => ∃ (u4 u12 u13 u14 u49 u50 u51 u52 u53 u54 u55 u56 u57 u58 u59 u60 u61 u62 u63 u64 u65 u66 u67 u68 u69 u70 u71 u72 u73 u74 u75 u76 u77 u78 u79 u80 u81 u82 : Value) , l = ovr l0 [N_, N_, N_, N_, Y_ u4, N_, N_, N_, N_, N_, N_, N_, Y_ u12, Y_ u13, Y_ u14, N_, N_, N_, N_, N_, N_, N_, N_, N_, N_, N_, N_, N_, N_, N_, N_, N_, N_, N_, N_, N_, N_, N_, N_, N_, N_, N_, N_, N_, N_, N_, N_, N_, Y_ (.int .i64 i), Y_ u49, Y_ u50, Y_ u51, Y_ u52, Y_ u53, Y_ u54, Y_ u55, Y_ u56, Y_ u57, Y_ u58, Y_ u59, Y_ u60, Y_ u61, Y_ u62, Y_ u63, Y_ u64, Y_ u65, Y_ u66, Y_ u67, Y_ u68, Y_ u69, Y_ u70, Y_ u71, Y_ u72, Y_ u73, Y_ u74, Y_ u75, Y_ u76, Y_ u77, Y_ u78, Y_ u79, Y_ u80, Y_ u81, Y_ u82] ∧ i ≤ xs.length ∧ (∀ j, j < i → ¬ ((nd xs j).at_ = (A : Int) ∧ (nd xs j).depth = 16)) ∧ St w0 [] w ((b9, .cells (kC kb).toArray 23 (0, 0)) :: (b7, .cells (kC ka).toArray 23 (0, 0)) :: N5)) (fun (i : Nat) => xs.length - i) 0 ⟨_, _, _, _, _, _, _, _, _, _, _, _, _, _, _, _, _, _, _, _, _, _, _, _, _, _, _, _, _, _, _, _, _, _, _, _, _, _, rfl, by omega, (fun _ h => nomatch h), H⟩ ?_
  intro i l w ⟨u4, u12, u13, u14, u49, u50, u51, u52, u53, u54, u55, u56, u57, u58, u59, u60, u61, u62, u63, u64, u65, u66, u67, u68, u69, u70, u71, u72, u73, u74, u75, u76, u77, u78, u79, u80, u81, u82, hl, hi, hno, H⟩
  obtain rfl := hl.trans (rfl : _ = [_, _, _, _, _, _, _, _, _, _, _, _, _, _, _, _, _, _, _, _, _, _, _, _, _, _, _, _, _, _, _, _, _, _, _, _, _, _, _, _, _, _, _, _, _, _, _, _, _, _, _, _, _, _, _, _, _, _, _, _, _, _, _, _, _, _, _, _, _, _, _, _, _, _, _, _, _, _, _, _, _, _, _])
  clear hl
  refine c_rseq (n := 83) ⟨rfl, rfl⟩ ?_
  refine s_val (r_lss rfl rfl) ?_
  refine c_nil (l' := [_, _, _, _, _, _, _, _, _, _, _, _, _, _, _, _, _, _, _, _, _, _, _, _, _, _, _, _, _, _, _, _, _, _, _, _, _, _, _, _, _, _, _, _, _, _, _, _, _, _, _, _, _, _, _, _, _, _, _, _, _, _, _, _, _, _, _, _, _, _, _, _, _, _, _, _, _, _, _, _, _, _, _]) rfl ?_
  refine c_seq ?_
  refine c_if rfl (fun h49 => ?_) (fun h49 => ?_)
  · skip
    obtain ⟨bh, off, pre, post, T, fz, rfl, hb, hpo⟩ := (hN5.hrowM H (fun p hp => by simp [hp])) (by omega)
    have hxi : nd xs i ∈ xs := by rw [← nd_eq (by omega)]; exact List.getElem_mem _
    refine wp_skip ?_
    refine x_thenNormal ?_
    refine c_seq ?_
    refine wp_block ?_
    refine c_rseq (n := 83) ⟨rfl, rfl⟩ ?_
    refine s_val (r_indexAddrS Try.runUnderlying35 Try.sizeOf41 rfl rfl (by omega) (by omega)) ?_
    refine s_val (r_loadn Try.isAgg41 Try.sizeOf41 rfl hb (hs_tdn _ _ _ _ i hpo (by omega)) (by first | exact (kC_length _) | exact (hC_length _) | exact rfl)) ?_
    refine s_new (m_alloc (cs := (hC Held.zero)) H Try.zeroValue41 rfl) ?_
    intro w b12 H
    refine s_st (m_storen H 0 34 Try.sizeOf41 rfl rfl (by first | exact (kC_length _) | exact (hC_length _)) (by first | exact (kC_one _) | exact (hC_one _)) rfl (by first | exact (by rw [kC_length]; omega) | exact (by rw [hC_length]; omega)) (by first | exact (kC_sp _ _) | exact (hC_sp _ _))) (L' := (_ :: _ :: _ :: _)) rfl ?_
    intro w H
    refine c_nil (l' := [_, _, _, _, _, _, _, _, _, _, _, _, _, _, _, _, _, _, _, _, _, _, _, _, _, _, _, _, _, _, _, _, _, _, _, _, _, _, _, _, _, _, _, _, _, _, _, _, _, _, _, _, _, _, _, _, _, _, _, _, _, _, _, _, _, _, _, _, _, _, _, _, _, _, _, _, _, _, _, _, _, _, _]) rfl ?_
    refine c_rseq (n := 83) ⟨rfl, rfl⟩ ?_
    refine s_val (r_fieldAddr (k := 1) Try.runUnderlying41 rfl Try.sizeOf31 (by decide) rfl rfl) ?_
    refine s_val (r_load1 Try.isAgg31 rfl (H.at 0 rfl) (by first | exact rfl | exact (hC_00 _) | exact (hC_0 _) | exact (hC_1 _))) ?_
    refine s_val (r_move rfl) ?_
    refine s_test (r_eql rfl rfl) (fun h55 => ?_) (fun h55 => ?_)
    · skip
      refine s_val (r_move rfl) ?_
      refine g_yes rfl rfl ?_
      refine s_val (r_fieldAddr (k := 0) Try.runUnderlying41 rfl Try.sizeOf3 (by decide) rfl rfl) ?_
      refine g_yes rfl rfl ?_
      refine s_val (r_load1 Try.isAgg3 rfl (H.at 0 rfl) (by first | exact rfl | exact (hC_00 _) | exact (hC_0 _) | exact (hC_1 _))) ?_
      refine g_yes rfl rfl ?_
      refine s_val (r_eql rfl rfl) ?_
      refine s_val (r_pickt rfl rfl) ?_
      refine c_nil (l' := [_, _, _, _, _, _, _, _, _, _, _, _, _, _, _, _, _, _, _, _, _, _, _, _, _, _, _, _, _, _, _, _, _, _, _, _, _, _, _, _, _, _, _, _, _, _, _, _, _, _, _, _, _, _, _, _, _, _, _, _, _, _, _, _, _, _, _, _, _, _, _, _, _, _, _, _, _, _, _, _, _, _, _]) rfl ?_
      refine c_if rfl (fun h60 => ?_) (fun h60 => ?_)
      · skip
        refine c_rseq (n := 83) ⟨rfl, rfl⟩ ?_
        refine s_val (r_buildS Try.runUnderlying29 Try.zeroValue29 places29 pn rfl) ?_
        refine s_val (r_fieldAddr (k := 2) Try.runUnderlying41 rfl Try.sizeOf23 (by decide) rfl rfl) ?_
        refine s_val (r_loadn Try.isAgg23 Try.sizeOf23 rfl (H.at 0 rfl) (hC_seed _) (by first | exact (kC_length _) | exact (hC_length _) | exact rfl)) ?_
        refine s_call (r_call Try.call20 (ec rfl (ec rfl en))) (lsplit_spec _ _) ?_
        rintro v w ⟨rfl, HC⟩
        replace H := H.quiet HC
        refine s_val (r_move rfl) ?_
        refine s_val (r_extract rfl rfl) ?_
        refine s_val (r_extract rfl rfl) ?_
        refine s_new (m_alloc (cs := (kC (By.zero 32))) H Try.zeroValue23 rfl) ?_
        intro w b13 H
        refine s_new (m_alloc (cs := (kC (By.zero 32))) H Try.zeroValue23 rfl) ?_
        intro w b14 H
        refine s_st (m_storen H 1 32 Try.sizeOf23 rfl rfl (by first | exact (kC_length _) | exact (hC_length _)) (by first | exact (kC_one _) | exact (hC_one _)) rfl (by first | exact (by rw [kC_length]; omega) | exact (by rw [hC_length]; omega)) (by first | exact (kC_sp _ _) | exact (hC_sp _ _))) (L' := (_ :: _ :: _ :: _ :: _ :: _)) rfl ?_
        intro w H
        refine s_st (m_storen H 0 32 Try.sizeOf23 rfl rfl (by first | exact (kC_length _) | exact (hC_length _)) (by first | exact (kC_one _) | exact (hC_one _)) rfl (by first | exact (by rw [kC_length]; omega) | exact (by rw [hC_length]; omega)) (by first | exact (kC_sp _ _) | exact (hC_sp _ _))) (L' := (_ :: _ :: _ :: _ :: _ :: _)) rfl ?_
        intro w H
        refine c_nil (l' := [_, _, _, _, _, _, _, _, _, _, _, _, _, _, _, _, _, _, _, _, _, _, _, _, _, _, _, _, _, _, _, _, _, _, _, _, _, _, _, _, _, _, _, _, _, _, _, _, _, _, _, _, _, _, _, _, _, _, _, _, _, _, _, _, _, _, _, _, _, _, _, _, _, _, _, _, _, _, _, _, _, _, _]) rfl ?_
        refine c_rseq (n := 83) ⟨rfl, rfl⟩ ?_
        refine s_val (r_move rfl) ?_
        refine s_val (r_move rfl) ?_
        refine g_yes rfl rfl ?_
        refine s_val (r_move rfl) ?_
        refine s_val (r_pickt rfl rfl) ?_
        refine s_val (r_move rfl) ?_
        refine g_yes rfl rfl ?_
        refine s_val (r_loadn Try.isAgg23 Try.sizeOf23 rfl (H.at 1 rfl) (by first | exact (kC_td _) | exact (hC_td _) | exact (hC_seed _)) (by first | exact (kC_length _) | exact (hC_length _) | exact rfl)) ?_
        refine g_yes rfl rfl ?_
        refine s_val (r_loadn Try.isAgg23 Try.sizeOf23 rfl (H.at 4 rfl) (by first | exact (kC_td _) | exact (hC_td _) | exact (hC_seed _)) (by first | exact (kC_length _) | exact (hC_length _) | exact rfl)) ?_
        refine g_yes rfl rfl ?_
        refine s_test (r_eqlK keyT23 rfl rfl) (fun h75 => ?_) (fun h75 => ?_)
        · skip
          refine s_val (r_pickt rfl rfl) ?_
          refine s_val (r_move rfl) ?_
          refine g_yes rfl rfl ?_
          refine s_val (r_loadn Try.isAgg23 Try.sizeOf23 rfl (H.at 0 rfl) (by first | exact (kC_td _) | exact (hC_td _) | exact (hC_seed _)) (by first | exact (kC_length _) | exact (hC_length _) | exact rfl)) ?_
          refine g_yes rfl rfl ?_
          refine s_val (r_loadn Try.isAgg23 Try.sizeOf23 rfl (H.at 3 rfl) (by first | exact (kC_td _) | exact (hC_td _) | exact (hC_seed _)) (by first | exact (kC_length _) | exact (hC_length _) | exact rfl)) ?_
          refine g_yes rfl rfl ?_
          refine s_val (r_eqlK keyT23 rfl rfl) ?_
          refine s_val (r_pickt rfl rfl) ?_
          refine s_val (r_assign rfl) ?_
          refine c_nil (l' := [_, _, _, _, _, _, _, _, _, _, _, _, _, _, _, _, _, _, _, _, _, _, _, _, _, _, _, _, _, _, _, _, _, _, _, _, _, _, _, _, _, _, _, _, _, _, _, _, _, _, _, _, _, _, _, _, _, _, _, _, _, _, _, _, _, _, _, _, _, _, _, _, _, _, _, _, _, _, _, _, _, _, _]) rfl ?_
          refine wp_ret (x_blockRet (x_thenRet (x_thenRet (x_blockRet (x_thenRet ?_)))))
          refine e_ret (res1 rfl rfl) ⟨_, rfl, ?_⟩
          exact ⟨by rw [decide_eq_true (hks _ hxi h60 h55).2], H.sub (List.nil_sublist _)⟩
        · skip
          exact absurd (hks _ hxi h60 h55).1 h75
      · skip
        refine wp_skip ?_
        refine x_blockNormal ?_
        refine x_thenNormal ?_
        refine c_region (n := 83) ⟨rfl, rfl⟩ ?_
        refine s_val (r_add rfl rfl (w_i64 (by omega) (by omega))) ?_
        refine s_val (r_move rfl) ?_
        refine c_nil0 (l' := [_, _, _, _, _, _, _, _, _, _, _, _, _, _, _, _, _, _, _, _, _, _, _, _, _, _, _, _, _, _, _, _, _, _, _, _, _, _, _, _, _, _, _, _, _, _, _, _, _, _, _, _, _, _, _, _, _, _, _, _, _, _, _, _, _, _, _, _, _, _, _, _, _, _, _, _, _, _, _, _, _, _, _]) rfl ?_
        replace H := H.sub (.cons _ (.cons_cons _ (.cons_cons _ (List.Sublist.refl _))))
        exact ⟨i + 1, _, rfl, ⟨_, _, _, _, _, _, _, _, _, _, _, _, _, _, _, _, _, _, _, _, _, _, _, _, _, _, _, _, _, _, _, _, _, _, _, _, _, _, rfl, by omega, (fun j hj => (Nat.lt_succ_iff_lt_or_eq.1 hj).elim (hno j) (fun e => e ▸ fun h => h60 h.2)), H⟩, by omega⟩
    · skip
      refine s_val (r_move rfl) ?_
      refine g_no rfl rfl (by decide) ?_
      refine g_no rfl rfl (by decide) ?_
      refine g_no rfl rfl (by decide) ?_
      refine s_val (r_pickf rfl rfl) ?_
      refine c_nil (l' := [_, _, _, _, _, _, _, _, _, _, _, _, _, _, _, _, _, _, _, _, _, _, _, _, _, _, _, _, _, _, _, _, _, _, _, _, _, _, _, _, _, _, _, _, _, _, _, _, _, _, _, _, _, _, _, _, _, _, _, _, _, _, _, _, _, _, _, _, _, _, _, _, _, _, _, _, _, _, _, _, _, _, _]) rfl ?_
      refine c_iff rfl ?_
      refine wp_skip ?_
      refine x_blockNormal ?_
      refine x_thenNormal ?_
      refine c_region (n := 83) ⟨rfl, rfl⟩ ?_
      refine s_val (r_add rfl rfl (w_i64 (by omega) (by omega))) ?_
      refine s_val (r_move rfl) ?_
      refine c_nil0 (l' := [_, _, _, _, _, _, _, _, _, _, _, _, _, _, _, _, _, _, _, _, _, _, _, _, _, _, _, _, _, _, _, _, _, _, _, _, _, _, _, _, _, _, _, _, _, _, _, _, _, _, _, _, _, _, _, _, _, _, _, _, _, _, _, _, _, _, _, _, _, _, _, _, _, _, _, _, _, _, _, _, _, _, _]) rfl ?_
      replace H := H.sub (.cons _ (.cons_cons _ (.cons_cons _ (List.Sublist.refl _))))
      exact ⟨i + 1, _, rfl, ⟨_, _, _, _, _, _, _, _, _, _, _, _, _, _, _, _, _, _, _, _, _, _, _, _, _, _, _, _, _, _, _, _, _, _, _, _, _, _, rfl, by omega, (fun j hj => (Nat.lt_succ_iff_lt_or_eq.1 hj).elim (hno j) (fun e => e ▸ fun h => h55 h.1)), H⟩, by omega⟩
  · skip
    exfalso
    obtain ⟨x, hx, h1, h2⟩ := hex
    obtain ⟨j, hj, rfl⟩ := nd_mem hx
    exact hno j (by omega) ⟨h1, h2⟩

end Go.Proofs.Ytblphhclfloodaa
