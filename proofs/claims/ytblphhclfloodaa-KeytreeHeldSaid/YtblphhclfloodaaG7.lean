import Derived.Test.YtblphhclfloodaaG3
import Derived.Test.YtblphhclfloodaaG5
import Derived.Test.YtblphhclfloodaaG6
namespace Go.Proofs.Ytblphhclfloodaa
open Go Go.Er

theorem not_one {x : Held} {n : Int} (h : ¬ InN x n) : ¬ ∃ y ∈ [x], InN y n := by
  rintro ⟨y, hy, hi⟩
  rw [List.mem_singleton] at hy; subst hy; exact h hi

set_option maxHeartbeats 4000000 in
set_option maxRecDepth 20000 in
theorem kpart_spec (seed : Key) (a : Option Addr) (cap : Nat) (ns : List Int) (hu : U64 ns) (c q : Int) (hc0 : 0 ≤ c) (hc1 : c < 256) (hq0 : 0 ≤ q) (hq1 : q < 65536) (w0 : World) (hr : URow w0 a ns) :
    Calls Try.prog 9 #[.agg (kC seed).toArray, .slice a ns.length cap, .int .u8 c, .int .u16 q] w0 fun e w => ∃ v, e = .returned v ∧ (v = .bool true ∧ St w0 [] w []) := by
  have H := St.refl w0
  refine c_enter (args := [.agg (kC seed).toArray, .slice a ns.length cap, .int .u8 c, .int .u16 q]) (l := [.agg (kC seed).toArray, .slice a ns.length cap, .int .u8 c, .int .u16 q, undef, undef, undef, undef, undef, undef, undef, undef, undef, undef, undef, undef, undef, undef, undef, undef, undef, undef, undef, undef, undef, undef, undef, undef, undef, undef, undef, undef, undef, undef, undef, undef, undef, undef, undef, undef, undef, undef, undef, undef, undef, undef, undef, undef, undef, undef, undef, undef, undef, undef, undef, undef, undef, undef, undef, undef, undef, undef, undef, undef, undef, undef, undef, undef, undef, undef, undef, undef, undef, undef, undef, undef, undef, undef, undef, undef, undef, undef, undef, undef, undef, undef, undef, undef, undef, undef, undef, undef, undef, undef, undef, undef, undef, undef, undef, undef, undef, undef, undef, undef, undef, undef, undef, undef, undef, undef, undef, undef, undef, undef, undef, undef, undef, undef, undef, undef, undef, undef, undef, undef, undef, undef, undef, undef, undef, undef, undef, undef, undef, undef, undef, undef, undef, undef, undef, undef]) Try.func9 Try.ntmps9 rfl rfl ?_
  refine c_rseq (n := 140) ⟨rfl, rfl⟩ ?_
  refine s_new (m_box (cs := (kC seed)) H rfl rfl) ?_
  intro w b4 H
  refine s_val (r_assign rfl) ?_
  refine c_nil (l' := [_, _, _, _, _, _, _, _, _, _, _, _, _, _, _, _, _, _, _, _, _, _, _, _, _, _, _, _, _, _, _, _, _, _, _, _, _, _, _, _, _, _, _, _, _, _, _, _, _, _, _, _, _, _, _, _, _, _, _, _, _, _, _, _, _, _, _, _, _, _, _, _, _, _, _, _, _, _, _, _, _, _, _, _, _, _, _, _, _, _, _, _, _, _, _, _, _, _, _, _, _, _, _, _, _, _, _, _, _, _, _, _, _, _, _, _, _, _, _, _, _, _, _, _, _, _, _, _, _, _, _, _, _, _, _, _, _, _, _, _]) rfl ?_
  refine c_seq ?_
  refine c_rseq (n := 140) ⟨rfl, rfl⟩ ?_
  refine s_call (r_call Try.call12 en) (awake_spec _) ?_
  rintro v w ⟨rfl, HC⟩
  replace H := H.quiet HC
  refine s_val (r_not rfl) ?_
  refine s_val (r_move rfl) ?_
  refine g_yes rfl rfl ?_
  refine s_val (r_move rfl) ?_
  refine g_yes rfl rfl ?_
  refine s_val (r_lens Try.runUnderlying24 (ec rfl en)) ?_
  refine g_yes rfl rfl ?_
  refine s_val (r_gtr rfl rfl) ?_
  refine s_val (r_pickf rfl rfl) ?_
  refine c_nil (l' := [_, _, _, _, _, _, _, _, _, _, _, _, _, _, _, _, _, _, _, _, _, _, _, _, _, _, _, _, _, _, _, _, _, _, _, _, _, _, _, _, _, _, _, _, _, _, _, _, _, _, _, _, _, _, _, _, _, _, _, _, _, _, _, _, _, _, _, _, _, _, _, _, _, _, _, _, _, _, _, _, _, _, _, _, _, _, _, _, _, _, _, _, _, _, _, _, _, _, _, _, _, _, _, _, _, _, _, _, _, _, _, _, _, _, _, _, _, _, _, _, _, _, _, _, _, _, _, _, _, _, _, _, _, _, _, _, _, _, _, _]) rfl ?_
  refine c_if rfl (fun h27 => ?_) (fun h27 => ?_)
  · skip
    refine c_rseq (n := 140) ⟨rfl, rfl⟩ ?_
    refine s_call (r_call Try.call12 en) (awake_spec _) ?_
    rintro v w ⟨rfl, HC⟩
    replace H := H.quiet HC
    refine s_val (r_assign rfl) ?_
    refine c_nil (l' := [_, _, _, _, _, _, _, _, _, _, _, _, _, _, _, _, _, _, _, _, _, _, _, _, _, _, _, _, _, _, _, _, _, _, _, _, _, _, _, _, _, _, _, _, _, _, _, _, _, _, _, _, _, _, _, _, _, _, _, _, _, _, _, _, _, _, _, _, _, _, _, _, _, _, _, _, _, _, _, _, _, _, _, _, _, _, _, _, _, _, _, _, _, _, _, _, _, _, _, _, _, _, _, _, _, _, _, _, _, _, _, _, _, _, _, _, _, _, _, _, _, _, _, _, _, _, _, _, _, _, _, _, _, _, _, _, _, _, _, _]) rfl ?_
    refine wp_ret (x_thenRet ?_)
    refine e_ret (res1 rfl rfl) ⟨_, rfl, ?_⟩
    exact ⟨rfl, H.sub (List.nil_sublist _)⟩
  · skip
    skip
    refine wp_skip ?_
    refine x_thenNormal ?_
    refine c_rseq (n := 140) ⟨rfl, rfl⟩ ?_
    refine s_val (r_buildS Try.runUnderlying29 Try.zeroValue29 places29 pn rfl) ?_
    refine s_val (r_makeIface Try.runUnderlying29 (fun _ h => nomatch h) rfl) ?_
    refine s_val (r_loadn Try.isAgg23 Try.sizeOf23 rfl (H.at 0 rfl) (by first | exact (kC_td _) | exact (hC_td _) | exact (hC_seed _)) (by first | exact (kC_length _) | exact (hC_length _) | exact rfl)) ?_
    refine s_call (r_call Try.call13 (ec rfl (ec rfl en))) (new_spec _ _ splitL splitR splits_little _) ?_
    rintro v w ⟨bt, N, rfl, hT0, HC⟩
    replace H : St w0 [] _ (_ :: N) := (H.call0 HC).perm (List.perm_append_comm (l₁ := [_]))
    have hT : TreeN 68 41 bt (.iface 29 (.agg #[])) [root seed] N := hT0
    refine s_val (r_assign rfl) ?_
    refine c_nil (l' := [_, _, _, _, _, _, _, _, _, _, _, _, _, _, _, _, _, _, _, _, _, _, _, _, _, _, _, _, _, _, _, _, _, _, _, _, _, _, _, _, _, _, _, _, _, _, _, _, _, _, _, _, _, _, _, _, _, _, _, _, _, _, _, _, _, _, _, _, _, _, _, _, _, _, _, _, _, _, _, _, _, _, _, _, _, _, _, _, _, _, _, _, _, _, _, _, _, _, _, _, _, _, _, _, _, _, _, _, _, _, _, _, _, _, _, _, _, _, _, _, _, _, _, _, _, _, _, _, _, _, _, _, _, _, _, _, _, _, _, _]) rfl ?_
    refine c_seq ?_
    refine c_rseq (n := 140) ⟨rfl, rfl⟩ ?_
    refine s_val (r_assign rfl) ?_
    refine c_nil (l' := [_, _, _, _, _, _, _, _, _, _, _, _, _, _, _, _, _, _, _, _, _, _, _, _, _, _, _, _, _, _, _, _, _, _, _, _, _, _, _, _, _, _, _, _, _, _, _, _, _, _, _, _, _, _, _, _, _, _, _, _, _, _, _, _, _, _, _, _, _, _, _, _, _, _, _, _, _, _, _, _, _, _, _, _, _, _, _, _, _, _, _, _, _, _, _, _, _, _, _, _, _, _, _, _, _, _, _, _, _, _, _, _, _, _, _, _, _, _, _, _, _, _, _, _, _, _, _, _, _, _, _, _, _, _, _, _, _, _, _, _]) rfl ?_
    refine wp_block ?_
    refine c_loop (fun (l0 : List Value) (i : Nat) (l : List Value) (w : World) => ∃ (u33 u34 u35 u36 u37 u38 u39 u40 u41 u42 u43 u44 : Value) (N : List (Nat × Obj)) (la : List Int), l = ovr l0 [N_, N_, N_, N_, N_, N_, N_, N_, N_, N_, Y_ (.int .i64 i), N_, N_, N_, N_, N_, N_, N_, N_, N_, N_, N_, N_, N_, N_, N_, N_, N_, N_, N_, N_, N_, N_, Y_ u33, Y_ u34, Y_ u35, Y_ u36, Y_ u37, Y_ u38, Y_ u39, Y_ u40, Y_ u41, Y_ u42, Y_ u43, Y_ u44] ∧ i ≤ ns.length ∧ TreeN 68 41 bt (.iface 29 (.agg #[])) (tree0 splitL splitR seed la) N ∧ la.length = i ∧ (∀ n, n ∈ la ↔ n ∈ ns.take i) ∧ St w0 [] w ((b4, .cells (kC seed).toArray 23 (0, 0)) :: N)) (fun (i : Nat) => ns.length - i) 0 ⟨_, _, _, _, _, _, _, _, _, _, _, _, N, [], rfl, by omega, by rw [tree0_nil]; exact hT, rfl, by simp, H⟩ ?_
    intro i l w ⟨u33, u34, u35, u36, u37, u38, u39, u40, u41, u42, u43, u44, N, la, hl, hi, hT, hll, hla, H⟩
    obtain rfl := hl.trans (rfl : _ = [_, _, _, _, _, _, _, _, _, _, _, _, _, _, _, _, _, _, _, _, _, _, _, _, _, _, _, _, _, _, _, _, _, _, _, _, _, _, _, _, _, _, _, _, _, _, _, _, _, _, _, _, _, _, _, _, _, _, _, _, _, _, _, _, _, _, _, _, _, _, _, _, _, _, _, _, _, _, _, _, _, _, _, _, _, _, _, _, _, _, _, _, _, _, _, _, _, _, _, _, _, _, _, _, _, _, _, _, _, _, _, _, _, _, _, _, _, _, _, _, _, _, _, _, _, _, _, _, _, _, _, _, _, _, _, _, _, _, _, _])
    clear hl
    refine c_seq ?_
    refine c_rseq (n := 140) ⟨rfl, rfl⟩ ?_
    refine s_val (r_move rfl) ?_
    refine s_val (r_move rfl) ?_
    refine s_val (r_lens Try.runUnderlying24 (ec rfl en)) ?_
    refine s_val (r_lss rfl rfl) ?_
    refine c_nil (l' := [_, _, _, _, _, _, _, _, _, _, _, _, _, _, _, _, _, _, _, _, _, _, _, _, _, _, _, _, _, _, _, _, _, _, _, _, _, _, _, _, _, _, _, _, _, _, _, _, _, _, _, _, _, _, _, _, _, _, _, _, _, _, _, _, _, _, _, _, _, _, _, _, _, _, _, _, _, _, _, _, _, _, _, _, _, _, _, _, _, _, _, _, _, _, _, _, _, _, _, _, _, _, _, _, _, _, _, _, _, _, _, _, _, _, _, _, _, _, _, _, _, _, _, _, _, _, _, _, _, _, _, _, _, _, _, _, _, _, _, _]) rfl ?_
    refine c_if rfl (fun h36 => ?_) (fun h36 => ?_)
    · skip
      obtain ⟨bu, off, pre, post, T, fz, rfl, hbu, hpu⟩ := hr (by omega)
      refine wp_skip ?_
      refine x_thenNormal ?_
      refine c_seq ?_
      refine wp_block ?_
      refine c_region (n := 140) ⟨rfl, rfl⟩ ?_
      refine s_val (r_move rfl) ?_
      refine s_val (r_move rfl) ?_
      refine s_val (r_move rfl) ?_
      refine s_val (r_indexAddrS Try.runUnderlying24 Try.sizeOf31 rfl rfl (by omega) (by omega)) ?_
      refine s_val (r_load1 Try.isAgg31 rfl (H.rd0 hbu) (u_get pre ns post i hpu (by omega) (by omega))) ?_
      refine s_call (r_call Try.call14 (ec rfl (ec rfl en))) (punc_t _ _ (tree0 splitL splitR seed la) _ N splitL splitR splits_little (by have := tree0_len (sl := splitL) (sr := splitR) (seed := seed) (la); (try simp only [List.length_cons] at this); omega) (tree0_valid _) (hu.get (i := i) (by omega)).1 (hu.get (by omega)).2 _ hT (H.ownsM (.cons _ (List.Sublist.refl _)))) ?_
      rintro v w ⟨rfl, N2, hT2, HC⟩
      rw [tree0_punc] at hT2
      replace H : St w0 [] _ (_ :: N2) := St.callr (L := [_]) H HC
      refine c_nil0 (l' := [_, _, _, _, _, _, _, _, _, _, _, _, _, _, _, _, _, _, _, _, _, _, _, _, _, _, _, _, _, _, _, _, _, _, _, _, _, _, _, _, _, _, _, _, _, _, _, _, _, _, _, _, _, _, _, _, _, _, _, _, _, _, _, _, _, _, _, _, _, _, _, _, _, _, _, _, _, _, _, _, _, _, _, _, _, _, _, _, _, _, _, _, _, _, _, _, _, _, _, _, _, _, _, _, _, _, _, _, _, _, _, _, _, _, _, _, _, _, _, _, _, _, _, _, _, _, _, _, _, _, _, _, _, _, _, _, _, _, _, _]) rfl ?_
      refine x_blockNormal ?_
      refine x_thenNormal ?_
      refine c_region (n := 140) ⟨rfl, rfl⟩ ?_
      refine s_val (r_move rfl) ?_
      refine s_val (r_add rfl rfl (w_i64 (by omega) (by omega))) ?_
      refine s_val (r_assign rfl) ?_
      refine c_nil0 (l' := [_, _, _, _, _, _, _, _, _, _, _, _, _, _, _, _, _, _, _, _, _, _, _, _, _, _, _, _, _, _, _, _, _, _, _, _, _, _, _, _, _, _, _, _, _, _, _, _, _, _, _, _, _, _, _, _, _, _, _, _, _, _, _, _, _, _, _, _, _, _, _, _, _, _, _, _, _, _, _, _, _, _, _, _, _, _, _, _, _, _, _, _, _, _, _, _, _, _, _, _, _, _, _, _, _, _, _, _, _, _, _, _, _, _, _, _, _, _, _, _, _, _, _, _, _, _, _, _, _, _, _, _, _, _, _, _, _, _, _, _]) rfl ?_
      exact ⟨i + 1, _, rfl, ⟨_, _, _, _, _, _, _, _, _, _, _, _, N2, _, rfl, by omega, hT2, by simp only [List.length_cons]; omega, (ord_a (by omega) hla), H⟩, by omega⟩
    · skip
      skip
      refine wp_exit (x_thenExit (x_thenExit (x_blockHit ?_)))
      refine x_thenNormal ?_
      refine c_rseq (n := 140) ⟨rfl, rfl⟩ ?_
      refine s_val (r_move rfl) ?_
      obtain ⟨xs, hxs⟩ : ∃ xs, xs = tree0 splitL splitR seed la := ⟨_, rfl⟩
      rw [← hxs] at hT
      have hvx : Valid xs := by rw [hxs]; exact tree0_valid _
      have hlx : xs.length ≤ 1 + 17 * la.length := by rw [hxs]; exact tree0_len _
      have hpx : 0 < xs.length := by rw [hxs]; exact tree0_some (by omega)
      refine s_call (r_call Try.call17 (ec rfl en)) (held_spec _ _ xs N (by omega) hvx _ hT (H.ownsM (.cons _ (List.Sublist.refl _)))) ?_
      rintro v w ⟨a', cap', N5, rfl, hN5, HC⟩
      replace H : St w0 [] _ (N5 ++ N) := (H.call0 HC).sub (List.Sublist.append (List.Sublist.refl _) (.cons _ (List.Sublist.refl _)))
      refine s_val (r_assign rfl) ?_
      refine c_nil (l' := [_, _, _, _, _, _, _, _, _, _, _, _, _, _, _, _, _, _, _, _, _, _, _, _, _, _, _, _, _, _, _, _, _, _, _, _, _, _, _, _, _, _, _, _, _, _, _, _, _, _, _, _, _, _, _, _, _, _, _, _, _, _, _, _, _, _, _, _, _, _, _, _, _, _, _, _, _, _, _, _, _, _, _, _, _, _, _, _, _, _, _, _, _, _, _, _, _, _, _, _, _, _, _, _, _, _, _, _, _, _, _, _, _, _, _, _, _, _, _, _, _, _, _, _, _, _, _, _, _, _, _, _, _, _, _, _, _, _, _, _]) rfl ?_
      refine c_seq ?_
      refine c_rseq (n := 140) ⟨rfl, rfl⟩ ?_
      refine s_val (r_move rfl) ?_
      refine s_val (r_lens Try.runUnderlying35 (ec rfl en)) ?_
      refine s_val (r_eql rfl rfl) ?_
      refine c_nil (l' := [_, _, _, _, _, _, _, _, _, _, _, _, _, _, _, _, _, _, _, _, _, _, _, _, _, _, _, _, _, _, _, _, _, _, _, _, _, _, _, _, _, _, _, _, _, _, _, _, _, _, _, _, _, _, _, _, _, _, _, _, _, _, _, _, _, _, _, _, _, _, _, _, _, _, _, _, _, _, _, _, _, _, _, _, _, _, _, _, _, _, _, _, _, _, _, _, _, _, _, _, _, _, _, _, _, _, _, _, _, _, _, _, _, _, _, _, _, _, _, _, _, _, _, _, _, _, _, _, _, _, _, _, _, _, _, _, _, _, _, _]) rfl ?_
      refine c_if rfl (fun h49 => ?_) (fun h49 => ?_)
      · skip
        exfalso; omega
      · skip
        skip
        refine wp_skip ?_
        refine x_thenNormal ?_
        refine c_rseq (n := 140) ⟨rfl, rfl⟩ ?_
        refine s_val (r_move rfl) ?_
        refine s_val (r_move rfl) ?_
        refine s_val (r_conv Try.runUnderlying5 Try.runUnderlying3 rfl (w_i64 (by omega) (by omega))) ?_
        refine s_val (r_move rfl) ?_
        refine s_val (r_lens Try.runUnderlying35 (ec rfl en)) ?_
        obtain ⟨k, hk⟩ : ∃ k : Nat, (k : Int) = c % (xs.length : Int) := ⟨_, Int.toNat_of_nonneg (Int.emod_nonneg _ (by omega))⟩
        have hkl : k < xs.length := by have := Int.emod_lt_of_pos c (by omega : (0 : Int) < (xs.length : Int)); omega
        obtain ⟨bh, off, pre, post, T, fz, rfl, hb, hpo⟩ := (hN5.hrowM H (fun p hp => by simp [hp])) (by omega)
        obtain ⟨x, hx⟩ : ∃ x, x = nd xs k := ⟨_, rfl⟩
        have hxm : x ∈ xs := by rw [hx, ← nd_eq hkl]; exact List.getElem_mem _
        have hxo := hvx.mem hxm
        obtain ⟨hd0, hd1, ha0, ha2, ha1⟩ := hxo
        have hmp := many_pos x.depth
        have hml := many_le hd0
        have hxe : x.at_ + many x.depth ≤ 131072 := by rw [hx]; exact (hvx.get hkl).end_le
        have hv1 : Valid [x] := ⟨hvx.mem hxm, ha0, trivial⟩
        have hl1 : [x].length = 1 := rfl
        have hc1 : cnt [x] = many x.depth := by simp [cnt]
        refine s_val (r_rem rfl rfl (by omega) ((Int.tmod_eq_emod_of_nonneg (by omega)).trans hk.symm)) ?_
        refine s_val (r_indexAddrS Try.runUnderlying35 Try.sizeOf41 rfl rfl (by omega) (by omega)) ?_
        refine s_val (r_loadn Try.isAgg41 Try.sizeOf41 rfl hb (hs_tdn _ _ _ _ k hpo (by omega)) (by first | exact (kC_length _) | exact (hC_length _) | exact rfl)) ?_
        rw [← hx]
        refine s_new (m_alloc (cs := (hC Held.zero)) H Try.zeroValue41 rfl) ?_
        intro w b12 H
        refine s_st (m_storen H 0 34 Try.sizeOf41 rfl rfl (by first | exact (kC_length _) | exact (hC_length _)) (by first | exact (kC_one _) | exact (hC_one _)) rfl (by first | exact (by rw [kC_length]; omega) | exact (by rw [hC_length]; omega)) (by first | exact (kC_sp _ _) | exact (hC_sp _ _))) (L' := (_ :: _)) rfl ?_
        intro w H
        refine c_nil (l' := [_, _, _, _, _, _, _, _, _, _, _, _, _, _, _, _, _, _, _, _, _, _, _, _, _, _, _, _, _, _, _, _, _, _, _, _, _, _, _, _, _, _, _, _, _, _, _, _, _, _, _, _, _, _, _, _, _, _, _, _, _, _, _, _, _, _, _, _, _, _, _, _, _, _, _, _, _, _, _, _, _, _, _, _, _, _, _, _, _, _, _, _, _, _, _, _, _, _, _, _, _, _, _, _, _, _, _, _, _, _, _, _, _, _, _, _, _, _, _, _, _, _, _, _, _, _, _, _, _, _, _, _, _, _, _, _, _, _, _, _]) rfl ?_
        refine c_seq ?_
        refine c_rseq (n := 140) ⟨rfl, rfl⟩ ?_
        refine s_val (r_fieldAddr (k := 0) Try.runUnderlying41 rfl Try.sizeOf3 (by decide) rfl rfl) ?_
        refine s_val (r_load1 Try.isAgg3 rfl (H.at 0 rfl) (by first | exact rfl | exact (hC_00 _) | exact (hC_0 _) | exact (hC_1 _))) ?_
        refine s_test (r_lss rfl rfl) (fun h60 => ?_) (fun h60 => ?_)
        · skip
          exfalso; omega
        · skip
          refine s_val (r_move rfl) ?_
          refine g_yes rfl rfl ?_
          refine s_val (r_fieldAddr (k := 0) Try.runUnderlying41 rfl Try.sizeOf3 (by decide) rfl rfl) ?_
          refine g_yes rfl rfl ?_
          refine s_val (r_load1 Try.isAgg3 rfl (H.at 0 rfl) (by first | exact rfl | exact (hC_00 _) | exact (hC_0 _) | exact (hC_1 _))) ?_
          refine g_yes rfl rfl ?_
          refine s_val (r_gtr rfl rfl) ?_
          refine s_val (r_pickf rfl rfl) ?_
          refine c_nil (l' := [_, _, _, _, _, _, _, _, _, _, _, _, _, _, _, _, _, _, _, _, _, _, _, _, _, _, _, _, _, _, _, _, _, _, _, _, _, _, _, _, _, _, _, _, _, _, _, _, _, _, _, _, _, _, _, _, _, _, _, _, _, _, _, _, _, _, _, _, _, _, _, _, _, _, _, _, _, _, _, _, _, _, _, _, _, _, _, _, _, _, _, _, _, _, _, _, _, _, _, _, _, _, _, _, _, _, _, _, _, _, _, _, _, _, _, _, _, _, _, _, _, _, _, _, _, _, _, _, _, _, _, _, _, _, _, _, _, _, _, _]) rfl ?_
          refine c_if rfl (fun h65 => ?_) (fun h65 => ?_)
          · skip
            exfalso; omega
          · skip
            refine wp_skip ?_
            refine x_thenNormal ?_
            refine c_rseq (n := 140) ⟨rfl, rfl⟩ ?_
            refine s_val (r_buildS Try.runUnderlying29 Try.zeroValue29 places29 pn rfl) ?_
            refine s_val (r_makeIface Try.runUnderlying29 (fun _ h => nomatch h) rfl) ?_
            refine s_val (r_loadn Try.isAgg41 Try.sizeOf41 rfl (H.at 0 rfl) (by first | exact (kC_td _) | exact (hC_td _) | exact (hC_seed _)) (by first | exact (kC_length _) | exact (hC_length _) | exact rfl)) ?_
            have hxr : ∀ i, i < [x].length → InR (nd [x] i) := fun i hi => by
              obtain rfl : i = 0 := by simp at hi; omega
              exact ⟨by show _ ≤ x.depth; omega, by show x.depth ≤ _; omega, ha0, by show x.at_ < _; omega⟩
            refine s_new (m_bslice1 H Try.runUnderlying35 Try.sizeOf41 Try.zeroValue41 (by omega) (by omega) rfl rfl (hC_length _)) ?_
            intro w b70 H
            refine s_call (r_call Try.call25 (ec rfl (ec rfl en))) (from_spec _ _ _ [x] splitL splitR splits_little (by omega) hxr _ (HRow.one (H.at 0 rfl))) ?_
            rintro v w (⟨_, bu, Nu, rfl, hTu, HC⟩ | ⟨hn, _⟩)
            · skip
              replace H : St w0 [] _ (_ :: (Nu ++ N)) := ((H.call0 HC).sub (List.Sublist.append (List.Sublist.refl Nu) (.cons _ (.cons_cons _ (List.sublist_append_right N5 N))))).perm List.perm_middle.symm
              refine s_val (r_move rfl) ?_
              refine s_val (r_extract rfl rfl) ?_
              refine s_val (r_extract rfl rfl) ?_
              refine s_val (r_assign rfl) ?_
              refine s_val (r_assign rfl) ?_
              refine c_nil (l' := [_, _, _, _, _, _, _, _, _, _, _, _, _, _, _, _, _, _, _, _, _, _, _, _, _, _, _, _, _, _, _, _, _, _, _, _, _, _, _, _, _, _, _, _, _, _, _, _, _, _, _, _, _, _, _, _, _, _, _, _, _, _, _, _, _, _, _, _, _, _, _, _, _, _, _, _, _, _, _, _, _, _, _, _, _, _, _, _, _, _, _, _, _, _, _, _, _, _, _, _, _, _, _, _, _, _, _, _, _, _, _, _, _, _, _, _, _, _, _, _, _, _, _, _, _, _, _, _, _, _, _, _, _, _, _, _, _, _, _, _]) rfl ?_
              refine c_rseq (n := 140) ⟨rfl, rfl⟩ ?_
              refine s_val (r_fieldAddr (k := 0) Try.runUnderlying41 rfl Try.sizeOf3 (by decide) rfl rfl) ?_
              refine s_val (r_load1 Try.isAgg3 rfl (H.at 0 rfl) (by first | exact rfl | exact (hC_00 _) | exact (hC_0 _) | exact (hC_1 _))) ?_
              refine s_val (r_sub rfl rfl (w_i64 (by omega) (by omega))) ?_
              refine s_val (r_conv Try.runUnderlying3 Try.runUnderlying42 rfl (w_u64 (by omega) (by omega))) ?_
              refine s_val (r_shl rfl rfl (by omega) (many_eq (by omega))) ?_
              refine s_val (r_assign rfl) ?_
              refine c_nil (l' := [_, _, _, _, _, _, _, _, _, _, _, _, _, _, _, _, _, _, _, _, _, _, _, _, _, _, _, _, _, _, _, _, _, _, _, _, _, _, _, _, _, _, _, _, _, _, _, _, _, _, _, _, _, _, _, _, _, _, _, _, _, _, _, _, _, _, _, _, _, _, _, _, _, _, _, _, _, _, _, _, _, _, _, _, _, _, _, _, _, _, _, _, _, _, _, _, _, _, _, _, _, _, _, _, _, _, _, _, _, _, _, _, _, _, _, _, _, _, _, _, _, _, _, _, _, _, _, _, _, _, _, _, _, _, _, _, _, _, _, _]) rfl ?_
              refine c_seq ?_
              refine d_begin (sz := 140) ⟨rfl, rfl⟩ (by kernel_rfl) H (H) rfl ?_
              intro w H
              refine d_take (i := 0) rfl (by kernel_rfl) (fun _ _ _ h => h) H (fun _ _ => r_fieldAddr (k := 1) Try.runUnderlying41 rfl Try.sizeOf31 (by decide) rfl rfl) rfl ?_
              refine d_take (i := 1) rfl (by kernel_rfl) (fun _ _ _ h => h) H (fun _ HS => r_load1 Try.isAgg31 rfl (HS.at 0 rfl) (by first | exact rfl | exact (hC_00 _) | exact (hC_0 _) | exact (hC_1 _))) rfl ?_
              refine d_take (i := 2) rfl (by kernel_rfl) (fun _ _ _ h => h) H (fun _ _ => r_move rfl) rfl ?_
              refine d_take (i := 3) rfl (by kernel_rfl) (fun _ _ _ h => h) H (fun _ _ => r_conv Try.runUnderlying44 Try.runUnderlying31 rfl (w_u64 (by omega) (by omega))) rfl ?_
              refine d_take (i := 4) rfl (by kernel_rfl) (fun _ _ _ h => h) H (fun _ _ => r_move rfl) rfl ?_
              obtain ⟨j, hj⟩ : ∃ j, j = q % many x.depth := ⟨_, rfl⟩
              have hj0 : 0 ≤ j := by rw [hj]; exact Int.emod_nonneg _ (by omega)
              have hj1 : j < many x.depth := by rw [hj]; exact Int.emod_lt_of_pos _ hmp
              have hin : InN x (x.at_ + j) := ⟨by omega, by omega⟩
              refine d_take (i := 5) rfl (by kernel_rfl) (fun _ _ _ h => h) H (fun _ _ => r_rem rfl rfl (by omega) ((Int.tmod_eq_emod_of_nonneg (by omega)).trans hj.symm)) rfl ?_
              refine d_take (i := 6) rfl (by kernel_rfl) (fun _ _ _ h => h) H (fun _ _ => r_add rfl rfl (w_u64 (by omega) (by omega))) rfl ?_
              refine d_take (i := 7) rfl (by kernel_rfl) (fun _ _ _ h => h) H (fun _ _ => r_assign rfl) rfl ?_
              refine d_done (l' := [_, _, _, _, _, _, _, _, _, _, _, _, _, _, _, _, _, _, _, _, _, _, _, _, _, _, _, _, _, _, _, _, _, _, _, _, _, _, _, _, _, _, _, _, _, _, _, _, _, _, _, _, _, _, _, _, _, _, _, _, _, _, _, _, _, _, _, _, _, _, _, _, _, _, _, _, _, _, _, _, _, _, _, _, _, _, _, _, _, _, _, _, _, _, _, _, _, _, _, _, _, _, _, _, _, _, _, _, _, _, _, _, _, _, _, _, _, _, _, _, _, _, _, _, _, _, _, _, _, _, _, _, _, _, _, _, _, _, _, _]) (by kernel_rfl) rfl ?_
              refine x_thenNormal ?_
              refine c_rseq (n := 140) ⟨rfl, rfl⟩ ?_
              refine s_val (r_move rfl) ?_
              refine s_val (r_move rfl) ?_
              refine s_call (r_call Try.call19 (ec rfl (ec rfl en))) (key_spec _ _ xs N (by omega) hvx (x.at_ + j) (by omega) splitL splitR splits_little _ hT (H.ownsM (.cons _ (List.sublist_append_right _ _)))) ?_
              rintro v w ⟨ka, oka, hKa, rfl, HC⟩
              rw [hxs] at hKa hxm
              obtain ⟨rfl, hka⟩ := keyR_tree hKa hxm hin
              replace H := H.quiet HC
              refine s_val (r_move rfl) ?_
              refine s_val (r_extract rfl rfl) ?_
              refine s_val (r_extract rfl rfl) ?_
              refine s_new (m_alloc (cs := (kC (By.zero 32))) H Try.zeroValue23 rfl) ?_
              intro w b17 H
              refine s_st (m_storen H 0 32 Try.sizeOf23 rfl rfl (by first | exact (kC_length _) | exact (hC_length _)) (by first | exact (kC_one _) | exact (hC_one _)) rfl (by first | exact (by rw [kC_length]; omega) | exact (by rw [hC_length]; omega)) (by first | exact (kC_sp _ _) | exact (hC_sp _ _))) (L' := (_ :: _ :: _)) rfl ?_
              intro w H
              refine s_val (r_assign rfl) ?_
              refine c_nil (l' := [_, _, _, _, _, _, _, _, _, _, _, _, _, _, _, _, _, _, _, _, _, _, _, _, _, _, _, _, _, _, _, _, _, _, _, _, _, _, _, _, _, _, _, _, _, _, _, _, _, _, _, _, _, _, _, _, _, _, _, _, _, _, _, _, _, _, _, _, _, _, _, _, _, _, _, _, _, _, _, _, _, _, _, _, _, _, _, _, _, _, _, _, _, _, _, _, _, _, _, _, _, _, _, _, _, _, _, _, _, _, _, _, _, _, _, _, _, _, _, _, _, _, _, _, _, _, _, _, _, _, _, _, _, _, _, _, _, _, _, _]) rfl ?_
              refine c_rseq (n := 140) ⟨rfl, rfl⟩ ?_
              refine s_val (r_move rfl) ?_
              refine s_val (r_move rfl) ?_
              refine s_call (r_call Try.call19 (ec rfl (ec rfl en))) (key_spec _ _ [x] Nu (by omega) hv1 (x.at_ + j) (by omega) splitL splitR splits_little _ hTu (H.ownsM (.cons _ (.cons _ (List.sublist_append_left _ _))))) ?_
              rintro v w ⟨kb, okb, hKb, rfl, HC⟩
              obtain ⟨rfl, hkb⟩ := keyR_one hKb hxm hin
              replace H := H.quiet HC
              refine s_val (r_move rfl) ?_
              refine s_val (r_extract rfl rfl) ?_
              refine s_val (r_extract rfl rfl) ?_
              refine s_new (m_alloc (cs := (kC (By.zero 32))) H Try.zeroValue23 rfl) ?_
              intro w b19 H
              refine s_st (m_storen H 0 32 Try.sizeOf23 rfl rfl (by first | exact (kC_length _) | exact (hC_length _)) (by first | exact (kC_one _) | exact (hC_one _)) rfl (by first | exact (by rw [kC_length]; omega) | exact (by rw [hC_length]; omega)) (by first | exact (kC_sp _ _) | exact (hC_sp _ _))) (L' := (_ :: _ :: _ :: _)) rfl ?_
              intro w H
              refine s_val (r_assign rfl) ?_
              refine c_nil (l' := [_, _, _, _, _, _, _, _, _, _, _, _, _, _, _, _, _, _, _, _, _, _, _, _, _, _, _, _, _, _, _, _, _, _, _, _, _, _, _, _, _, _, _, _, _, _, _, _, _, _, _, _, _, _, _, _, _, _, _, _, _, _, _, _, _, _, _, _, _, _, _, _, _, _, _, _, _, _, _, _, _, _, _, _, _, _, _, _, _, _, _, _, _, _, _, _, _, _, _, _, _, _, _, _, _, _, _, _, _, _, _, _, _, _, _, _, _, _, _, _, _, _, _, _, _, _, _, _, _, _, _, _, _, _, _, _, _, _, _, _]) rfl ?_
              refine c_rseq (n := 140) ⟨rfl, rfl⟩ ?_
              refine s_val (r_move rfl) ?_
              refine s_val (r_eql rfl rfl) ?_
              refine s_val (r_move rfl) ?_
              refine g_yes rfl rfl ?_
              refine s_val (r_move rfl) ?_
              refine g_yes rfl rfl ?_
              refine s_call (r_call Try.call18 (ec rfl en)) (count_spec _ _ [x] Nu (by omega) hv1 _ hTu (H.ownsM (.cons _ (.cons _ (.cons _ (List.sublist_append_left _ _)))))) ?_
              rintro v w ⟨rfl, HC⟩
              replace H := H.quiet HC
              refine g_yes rfl rfl ?_
              refine s_val (r_move rfl) ?_
              refine g_yes rfl rfl ?_
              refine s_val (r_conv Try.runUnderlying31 Try.runUnderlying3 rfl (w_i64 (by omega) (by omega))) ?_
              refine g_yes rfl rfl ?_
              refine s_test (r_eql rfl rfl) (fun h105 => ?_) (fun h105 => ?_)
              · skip
                refine s_val (r_pickt rfl rfl) ?_
                refine s_val (r_move rfl) ?_
                refine g_yes rfl rfl ?_
                refine s_val (r_move rfl) ?_
                refine s_val (r_pickt rfl rfl) ?_
                refine s_val (r_move rfl) ?_
                refine g_yes rfl rfl ?_
                refine s_val (r_move rfl) ?_
                refine s_val (r_pickt rfl rfl) ?_
                refine s_val (r_move rfl) ?_
                refine g_yes rfl rfl ?_
                refine s_val (r_loadn Try.isAgg23 Try.sizeOf23 rfl (H.at 1 rfl) (by first | exact (kC_td _) | exact (hC_td _) | exact (hC_seed _)) (by first | exact (kC_length _) | exact (hC_length _) | exact rfl)) ?_
                refine g_yes rfl rfl ?_
                refine s_val (r_loadn Try.isAgg23 Try.sizeOf23 rfl (H.at 0 rfl) (by first | exact (kC_td _) | exact (hC_td _) | exact (hC_seed _)) (by first | exact (kC_length _) | exact (hC_length _) | exact rfl)) ?_
                refine g_yes rfl rfl ?_
                refine s_test (r_eqlK keyT23 rfl rfl) (fun h116 => ?_) (fun h116 => ?_)
                · skip
                  refine s_val (r_pickt rfl rfl) ?_
                  refine s_val (r_move rfl) ?_
                  refine g_yes rfl rfl ?_
                  refine s_val (r_move rfl) ?_
                  refine g_yes rfl rfl ?_
                  refine s_val (r_fieldAddr (k := 1) Try.runUnderlying41 rfl Try.sizeOf31 (by decide) rfl rfl) ?_
                  refine g_yes rfl rfl ?_
                  refine s_val (r_load1 Try.isAgg31 rfl (H.at 2 rfl) (by first | exact rfl | exact (hC_00 _) | exact (hC_0 _) | exact (hC_1 _))) ?_
                  refine g_yes rfl rfl ?_
                  refine s_val (r_move rfl) ?_
                  refine g_yes rfl rfl ?_
                  refine s_val (r_add rfl rfl (w_u64 (by omega) (by omega))) ?_
                  refine g_yes rfl rfl ?_
                  refine s_call (r_call Try.call23 (ec rfl (ec rfl en))) (has_spec _ _ [x] Nu (by omega) hv1 (x.at_ + many x.depth) (by omega) _ hTu (H.ownsM (.cons _ (.cons _ (.cons _ (List.sublist_append_left _ _)))))) ?_
                  rintro v w ⟨hv124, HC⟩
                  rw [decide_eq_false (not_one (by unfold InN; omega))] at hv124
                  subst hv124
                  replace H := H.quiet HC
                  refine g_yes rfl rfl ?_
                  refine s_val (r_not rfl) ?_
                  refine s_val (r_pickt rfl rfl) ?_
                  refine s_val (r_move rfl) ?_
                  refine g_yes rfl rfl ?_
                  refine s_val (r_fieldAddr (k := 1) Try.runUnderlying41 rfl Try.sizeOf31 (by decide) rfl rfl) ?_
                  refine g_yes rfl rfl ?_
                  refine s_val (r_load1 Try.isAgg31 rfl (H.at 2 rfl) (by first | exact rfl | exact (hC_00 _) | exact (hC_0 _) | exact (hC_1 _))) ?_
                  refine g_yes rfl rfl ?_
                  refine s_test (r_eql rfl rfl) (fun h130 => ?_) (fun h130 => ?_)
                  · skip
                    refine g_yes rfl rfl ?_
                    refine s_val (r_move rfl) ?_
                    refine g_no rfl rfl (by decide) ?_
                    refine g_no rfl rfl (by decide) ?_
                    refine g_no rfl rfl (by decide) ?_
                    refine g_no rfl rfl (by decide) ?_
                    refine g_no rfl rfl (by decide) ?_
                    refine g_no rfl rfl (by decide) ?_
                    refine g_yes rfl rfl ?_
                    refine s_val (r_pickt rfl rfl) ?_
                    refine s_val (r_pickt rfl rfl) ?_
                    refine s_val (r_assign rfl) ?_
                    refine c_nil (l' := [_, _, _, _, _, _, _, _, _, _, _, _, _, _, _, _, _, _, _, _, _, _, _, _, _, _, _, _, _, _, _, _, _, _, _, _, _, _, _, _, _, _, _, _, _, _, _, _, _, _, _, _, _, _, _, _, _, _, _, _, _, _, _, _, _, _, _, _, _, _, _, _, _, _, _, _, _, _, _, _, _, _, _, _, _, _, _, _, _, _, _, _, _, _, _, _, _, _, _, _, _, _, _, _, _, _, _, _, _, _, _, _, _, _, _, _, _, _, _, _, _, _, _, _, _, _, _, _, _, _, _, _, _, _, _, _, _, _, _, _]) rfl ?_
                    refine wp_ret ?_
                    refine e_ret (res1 rfl rfl) ⟨_, rfl, ?_⟩
                    exact ⟨rfl, H.sub (List.nil_sublist _)⟩
                  · skip
                    refine g_yes rfl rfl ?_
                    refine s_val (r_move rfl) ?_
                    refine g_yes rfl rfl ?_
                    refine s_val (r_move rfl) ?_
                    refine g_yes rfl rfl ?_
                    refine s_val (r_fieldAddr (k := 1) Try.runUnderlying41 rfl Try.sizeOf31 (by decide) rfl rfl) ?_
                    refine g_yes rfl rfl ?_
                    refine s_val (r_load1 Try.isAgg31 rfl (H.at 2 rfl) (by first | exact rfl | exact (hC_00 _) | exact (hC_0 _) | exact (hC_1 _))) ?_
                    refine g_yes rfl rfl ?_
                    refine s_val (r_sub rfl rfl (w_u64 (by omega) (by omega))) ?_
                    refine g_yes rfl rfl ?_
                    refine s_call (r_call Try.call23 (ec rfl (ec rfl en))) (has_spec _ _ [x] Nu (by omega) hv1 (x.at_ - 1) (by omega) _ hTu (H.ownsM (.cons _ (.cons _ (.cons _ (List.sublist_append_left _ _)))))) ?_
                    rintro v w ⟨hv136, HC⟩
                    rw [decide_eq_false (not_one (by unfold InN; omega))] at hv136
                    subst hv136
                    replace H := H.quiet HC
                    refine g_yes rfl rfl ?_
                    refine s_val (r_not rfl) ?_
                    refine g_yes rfl rfl ?_
                    refine s_val (r_pickf rfl rfl) ?_
                    refine s_val (r_pickt rfl rfl) ?_
                    refine s_val (r_assign rfl) ?_
                    refine c_nil (l' := [_, _, _, _, _, _, _, _, _, _, _, _, _, _, _, _, _, _, _, _, _, _, _, _, _, _, _, _, _, _, _, _, _, _, _, _, _, _, _, _, _, _, _, _, _, _, _, _, _, _, _, _, _, _, _, _, _, _, _, _, _, _, _, _, _, _, _, _, _, _, _, _, _, _, _, _, _, _, _, _, _, _, _, _, _, _, _, _, _, _, _, _, _, _, _, _, _, _, _, _, _, _, _, _, _, _, _, _, _, _, _, _, _, _, _, _, _, _, _, _, _, _, _, _, _, _, _, _, _, _, _, _, _, _, _, _, _, _, _, _]) rfl ?_
                    refine wp_ret ?_
                    refine e_ret (res1 rfl rfl) ⟨_, rfl, ?_⟩
                    exact ⟨rfl, H.sub (List.nil_sublist _)⟩
                · skip
                  exact absurd (hka.trans hkb.symm) h116
              · skip
                exfalso; omega
            · skip
              exact absurd hv1 hn

end Go.Proofs.Ytblphhclfloodaa
