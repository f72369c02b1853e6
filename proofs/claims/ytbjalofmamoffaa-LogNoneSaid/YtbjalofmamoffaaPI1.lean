import Derived.Test.YtbjalofmamoffaaPB5
import Derived.Test.YtbjalofmamoffaaPV2
namespace Go.Proofs.Ytbjalofmamoffaa
open Go Go.Er
theorem bytes97 : Try.t97.bytes = 128 := rfl

set_option maxHeartbeats 4000000 in
theorem both_spec (bm : Nat) (C : List Sec) (n : Int) (hn0 : 0 ≤ n) (hn1 : n < (C.length : Int)) (w0 : World) (hm : MirR 51 89 72 w0 bm C) :
    Calls Try.prog 68 #[.pointer (some ⟨bm, 0, none⟩), .int .i64 n] w0 fun e w => ∃ v, e = .returned v ∧ (∃ a cap N, v = .slice a (bothK C n 2).length cap ∧ RowN 128 97 (rowC kC (bothK C n 2)) (bothK C n 2).length a cap N ∧ St w0 [] w N) := by
  have hm2 := hm
  obtain ⟨ba, ma, bb, mb, g, T, fz, hbm, hdv, hmp, ⟨bg, cs, rfl, hbg⟩, hcl⟩ := hm2
  have H := St.refl w0
  refine c_enter (args := [.pointer (some ⟨bm, 0, none⟩), .int .i64 n]) (l := [.pointer (some ⟨bm, 0, none⟩), .int .i64 n, undef, undef, undef, undef, undef, undef, undef, undef, undef, undef, undef, undef, undef, undef, undef, undef, undef, undef, undef, undef, undef, undef, undef, undef, undef, undef, undef, undef, undef, undef, undef, undef, undef, undef, undef, undef, undef, undef, undef, undef, undef, undef, undef, undef, undef]) Try.func68 Try.ntmps68 rfl rfl ?_
  refine c_rseq (n := 47) ⟨rfl, rfl⟩ ?_
  refine s_val (r_assign rfl) ?_
  refine c_nil (l' := [_,_,_,_,_,_,_,_,_,_,_,_,_,_,_,_,_,_,_,_,_,_,_,_,_,_,_,_,_,_,_,_,_,_,_,_,_,_,_,_,_,_,_,_,_,_,_]) rfl ?_
  refine c_rseq (n := 47) ⟨rfl, rfl⟩ ?_
  refine s_val (r_assign rfl) ?_
  refine c_nil (l' := [_,_,_,_,_,_,_,_,_,_,_,_,_,_,_,_,_,_,_,_,_,_,_,_,_,_,_,_,_,_,_,_,_,_,_,_,_,_,_,_,_,_,_,_,_,_,_]) rfl ?_
  refine c_seq ?_
  refine c_rseq (n := 47) ⟨rfl, rfl⟩ ?_
  refine s_val (r_move rfl) ?_
  refine s_val (r_move rfl) ?_
  refine s_call (r_call Try.call62 (ec rfl (ec rfl en))) (has_spec _ C n _ (hm.st (H.sub (List.nil_sublist _)))) ?_
  rintro v w ⟨rfl, HC⟩
  rw [decide_eq_true (show 0 ≤ n ∧ n < (C.length : Int) from ⟨hn0, hn1⟩)]
  replace H := H.quiet HC
  refine s_val (r_not rfl) ?_
  refine c_nil (l' := [_,_,_,_,_,_,_,_,_,_,_,_,_,_,_,_,_,_,_,_,_,_,_,_,_,_,_,_,_,_,_,_,_,_,_,_,_,_,_,_,_,_,_,_,_,_,_]) rfl ?_
  refine c_iff rfl ?_
  refine wp_skip ?_
  refine x_thenNormal ?_
  refine c_seq ?_
  refine c_rseq (n := 47) ⟨rfl, rfl⟩ ?_
  refine s_val (r_move rfl) ?_
  refine s_call (r_call Try.call63 (ec rfl en)) (present_spec _ C _ (hm.st (H.sub (List.nil_sublist _)))) ?_
  rintro v w ⟨ap, cp, Np, rfl, hNp, HC⟩
  obtain ⟨bw, spw, rfl, hcw, rfl, hcw2⟩ := hNp.some (by omega)
  replace H := H.call0 HC
  refine s_val (r_lens Try.runUnderlying139 (ec rfl en)) ?_
  refine s_val (r_move rfl) ?_
  refine c_nil (l' := [_,_,_,_,_,_,_,_,_,_,_,_,_,_,_,_,_,_,_,_,_,_,_,_,_,_,_,_,_,_,_,_,_,_,_,_,_,_,_,_,_,_,_,_,_,_,_]) rfl ?_
  refine wp_block ?_
  refine c_loop (fun (l0 : List Value) (k : Nat) (l : List Value) (w : World) => ∃ (u7 u8 u9 u18 u19 u20 u21 u22 u23 u24 u25 u26 u27 u28 u29 u30 u31 u32 u33 u34 u35 u36 u37 u38 u39 u40 u41 u42 u43 u44 u45 : Value) (ar : Option Addr) (cr : Nat) (Ns : List (Nat × Obj)), l = ovr l0 [N_, N_, N_, N_, N_, Y_ (.slice ar (bothK C n k).length cr), N_, Y_ u7, Y_ u8, Y_ u9, N_, N_, N_, N_, N_, N_, N_, Y_ (.int .i64 k), Y_ u18, Y_ u19, Y_ u20, Y_ u21, Y_ u22, Y_ u23, Y_ u24, Y_ u25, Y_ u26, Y_ u27, Y_ u28, Y_ u29, Y_ u30, Y_ u31, Y_ u32, Y_ u33, Y_ u34, Y_ u35, Y_ u36, Y_ u37, Y_ u38, Y_ u39, Y_ u40, Y_ u41, Y_ u42, Y_ u43, Y_ u44, Y_ u45] ∧ k ≤ 2 ∧ RowN 128 97 (rowC kC (bothK C n k)) (bothK C n k).length ar cr Ns ∧ St w0 [] w ((bw, .cells (iC 2 ++ spw).toArray 3 (0, 0)) :: Ns)) (fun (k : Nat) => 2 - k) 0 ⟨_,_,_,_,_,_,_,_,_,_,_,_,_,_,_,_,_,_,_,_,_,_,_,_,_,_,_,_,_,_,_, none, 0, [], rfl, by omega, RowN.nil, H⟩ ?_
  intro k l w ⟨u7, u8, u9, u18, u19, u20, u21, u22, u23, u24, u25, u26, u27, u28, u29, u30, u31, u32, u33, u34, u35, u36, u37, u38, u39, u40, u41, u42, u43, u44, u45, ar, cr, Ns, hl, hk, hN, H⟩
  obtain rfl := hl.trans (rfl : _ = [_,_,_,_,_,_,_,_,_,_,_,_,_,_,_,_,_,_,_,_,_,_,_,_,_,_,_,_,_,_,_,_,_,_,_,_,_,_,_,_,_,_,_,_,_,_,_])
  clear hl
  refine c_rseq (n := 47) ⟨rfl, rfl⟩ ?_
  refine s_val (r_lss rfl rfl) ?_
  refine c_nil (l' := [_,_,_,_,_,_,_,_,_,_,_,_,_,_,_,_,_,_,_,_,_,_,_,_,_,_,_,_,_,_,_,_,_,_,_,_,_,_,_,_,_,_,_,_,_,_,_]) rfl ?_
  refine c_seq ?_
  refine c_if rfl (fun h18 => ?_) (fun h18 => ?_)
  · skip
    refine wp_skip ?_
    refine x_thenNormal ?_
    refine c_seq ?_
    refine wp_block ?_
    refine c_rseq (n := 47) ⟨rfl, rfl⟩ ?_
    refine s_val (r_indexAddrS Try.runUnderlying139 Try.sizeOf3 rfl rfl (by omega) (by omega)) ?_
    refine s_val (r_load1 Try.isAgg3 rfl (H.at 0 rfl) (iC_at (i := 2) (k := k) (by omega) (by omega))) ?_
    refine s_val (r_assign rfl) ?_
    refine c_nil (l' := [_,_,_,_,_,_,_,_,_,_,_,_,_,_,_,_,_,_,_,_,_,_,_,_,_,_,_,_,_,_,_,_,_,_,_,_,_,_,_,_,_,_,_,_,_,_,_]) rfl ?_
    refine c_rseq (n := 47) ⟨rfl, rfl⟩ ?_
    refine s_val (r_move rfl) ?_
    refine s_val (r_move rfl) ?_
    refine s_val (r_nilCheck rfl) ?_
    refine s_val (r_fieldAddr (k := 0) Try.runUnderlying119 rfl Try.sizeOf117 (by decide) rfl rfl) ?_
    refine s_val (r_indexAddrA Try.runUnderlying117 Try.sizeOf116 rfl rfl (by omega) (by omega)) ?_
    refine s_val (r_fieldAddr (k := 0) Try.runUnderlying116 rfl Try.sizeOf26 (by decide) rfl rfl) ?_
    refine s_val (r_load1 Try.isAgg26 rfl (H.rd0 hbm) (mC_dev (i := k) (by omega) (by omega))) ?_
    refine s_val (r_move rfl) ?_
    refine s_call (r_call Try.call64 (ec rfl (ec rfl en))) (dread_spec (bI ba bb k) C n _ ((hdv k).st (H.sub (List.nil_sublist _)))) ?_
    rintro v w (⟨_,_, rfl, HC⟩ | ⟨hno, _⟩)
    · skip
      replace H := H.quiet HC
      refine s_val (r_move rfl) ?_
      refine s_val (r_extract rfl rfl) ?_
      refine s_val (r_extract rfl rfl) ?_
      refine s_new (m_alloc (cs := (kC (By.zero 128))) H Try.zeroValue97 rfl) ?_
      intro w b8 H
      refine s_st (m_storen H 0 128 Try.sizeOf97 rfl rfl (by first | exact (kC_length _) | exact (hC_length _) | exact (shC_length _ _) | exact (wC_length _) | exact (sdC_length _ _)) (by first | exact (kC_one _) | exact (hC_one _) | exact (shC_one _ _) | exact (elW.one _) | exact (sdC_one _ _)) rfl (by first | exact (by rw [kC_length]; omega) | exact (by rw [hC_length]; omega) | exact (by rw [wC_length]; omega)) (by first | exact (kC_sp _ _) | exact (hC_sp _ _))) (L' := (_ :: _ :: _)) rfl ?_
      intro w H
      refine s_val (r_assign rfl) ?_
      refine c_nil (l' := [_,_,_,_,_,_,_,_,_,_,_,_,_,_,_,_,_,_,_,_,_,_,_,_,_,_,_,_,_,_,_,_,_,_,_,_,_,_,_,_,_,_,_,_,_,_,_]) rfl ?_
      refine c_rseq (n := 47) ⟨rfl, rfl⟩ ?_
      refine s_val (r_move rfl) ?_
      refine s_val (r_eql rfl rfl) ?_
      refine s_val (r_move rfl) ?_
      refine g_yes rfl rfl ?_
      refine s_val (r_move rfl) ?_
      refine g_yes rfl rfl ?_
      refine s_val (r_move rfl) ?_
      refine g_yes rfl rfl ?_
      refine s_val (r_loadn Try.isAgg97 Try.sizeOf97 rfl (H.at 0 rfl) (by first | exact (kC_td _) | exact (hC_td _) | exact (hC_seed _) | exact (shC_td _ _) | exact (sdC_td _ _)) (by first | exact (kC_length _) | exact (hC_length _) | exact (shC_length _ _) | exact (wC_length _) | exact (sdC_length _ _) | exact rfl)) ?_
      refine g_yes rfl rfl ?_
      refine s_call (r_call Try.call65 (ec rfl (ec rfl (ec rfl en)))) (right_spec bm C n hn0 (by omega) (sd C n.toNat) _ (hm.st (H.sub (List.nil_sublist _)))) ?_
      rintro v w ⟨rfl, HC⟩
      replace H := H.quiet HC
      refine s_val (r_pickt rfl rfl) ?_
      refine c_nil (l' := [_,_,_,_,_,_,_,_,_,_,_,_,_,_,_,_,_,_,_,_,_,_,_,_,_,_,_,_,_,_,_,_,_,_,_,_,_,_,_,_,_,_,_,_,_,_,_]) rfl ?_
      refine c_if rfl (fun h40 => ?_) (fun h40 => ?_)
      · skip
        have hbk : rowC kC (bothK C n (k + 1)) = rowC kC (bothK C n k) ++ kC (sd C n.toNat) := by rw [bothK_yes h40, rowC_append, rowC_one1]
        have hbl : (bothK C n (k + 1)).length = (bothK C n k).length + 1 := by rw [bothK_yes h40, List.length_append]; rfl
        refine c_region (n := 47) ⟨rfl, rfl⟩ ?_
        refine s_val (r_move rfl) ?_
        refine s_val (r_loadn Try.isAgg97 Try.sizeOf97 rfl (H.at 0 rfl) (by first | exact (kC_td _) | exact (hC_td _) | exact (hC_seed _) | exact (shC_td _ _) | exact (sdC_td _ _)) (by first | exact (kC_length _) | exact (hC_length _) | exact (shC_length _ _) | exact (wC_length _) | exact (sdC_length _ _) | exact rfl)) ?_
        refine s_new (m_bslice1 (vs := kC (sd C n.toNat)) H Try.runUnderlying121 Try.sizeOf97 Try.zeroValue97 (by omega) (by omega) rfl rfl (kC_length _)) ?_
        intro w b43 H
        refine s_any (m_append_row0 (L1 := [_,_,_]) (N := Ns) H hN Try.runUnderlying121 Try.runUnderlying121 (fun _ h => nomatch h) Try.sizeOf97 Try.zeroValue97 rfl Try.typeInfo97 (by rw [bytes97]; omega) (by rw [bytes97]; have := bothK_len C n k; omega) (ec rfl (ec rfl en)) (Src.slice (vs := kC (sd C n.toNat)) (H.at 0 rfl) (by rw [Nat.one_mul]; exact kC_td _) (by rw [Nat.one_mul]; exact kC_length _) (kC_one _))) ?_
        rintro v w ⟨a2, c2, N2, rfl, hN2, H⟩
        skip
        refine s_val (r_assign rfl) ?_
        refine c_nil0 (l' := [_,_,_,_,_,_,_,_,_,_,_,_,_,_,_,_,_,_,_,_,_,_,_,_,_,_,_,_,_,_,_,_,_,_,_,_,_,_,_,_,_,_,_,_,_,_,_]) rfl ?_
        refine x_blockNormal ?_
        refine x_thenNormal ?_
        refine c_region (n := 47) ⟨rfl, rfl⟩ ?_
        refine s_val (r_add rfl rfl (w_i64 (by omega) (by omega))) ?_
        refine s_val (r_move rfl) ?_
        refine c_nil0 (l' := [_,_,_,_,_,_,_,_,_,_,_,_,_,_,_,_,_,_,_,_,_,_,_,_,_,_,_,_,_,_,_,_,_,_,_,_,_,_,_,_,_,_,_,_,_,_,_]) rfl ?_
        rw [← hbl]
        replace H := H.sub (.cons _ (.cons _ (.cons_cons _ (List.Sublist.refl _))))
        exact ⟨k + 1, _, rfl, ⟨_,_,_,_,_,_,_,_,_,_,_,_,_,_,_,_,_,_,_,_,_,_,_,_,_,_,_,_,_,_,_,_,_, N2, rfl, by omega, (by rw [hbk, hbl]; exact hN2), H⟩, by omega⟩
      · skip
        have hbk : bothK C n (k + 1) = bothK C n k := if_neg h40
        have hbl : (bothK C n (k + 1)).length = (bothK C n k).length := by rw [hbk]
        refine wp_skip ?_
        refine x_blockNormal ?_
        refine x_thenNormal ?_
        refine c_region (n := 47) ⟨rfl, rfl⟩ ?_
        refine s_val (r_add rfl rfl (w_i64 (by omega) (by omega))) ?_
        refine s_val (r_move rfl) ?_
        refine c_nil0 (l' := [_,_,_,_,_,_,_,_,_,_,_,_,_,_,_,_,_,_,_,_,_,_,_,_,_,_,_,_,_,_,_,_,_,_,_,_,_,_,_,_,_,_,_,_,_,_,_]) rfl ?_
        rw [← hbl]
        replace H := H.sub (.cons _ (.cons_cons _ (List.Sublist.refl _)))
        exact ⟨k + 1, _, rfl, ⟨_,_,_,_,_,_,_,_,_,_,_,_,_,_,_,_,_,_,_,_,_,_,_,_,_,_,_,_,_,_,_, ar, cr, Ns, rfl, by omega, (by rw [hbk]; exact hN), H⟩, by omega⟩
    · skip
      exact absurd ⟨hn0, hn1⟩ hno
  · skip
    obtain rfl : k = 2 := by omega
    refine wp_exit (x_thenExit (x_thenExit (x_blockHit ?_)))
    refine x_thenNormal ?_
    refine c_rseq (n := 47) ⟨rfl, rfl⟩ ?_
    refine s_val (r_move rfl) ?_
    refine s_val (r_assign rfl) ?_
    refine c_nil (l' := [_,_,_,_,_,_,_,_,_,_,_,_,_,_,_,_,_,_,_,_,_,_,_,_,_,_,_,_,_,_,_,_,_,_,_,_,_,_,_,_,_,_,_,_,_,_,_]) rfl ?_
    refine wp_ret ?_
    refine e_ret (res1 rfl rfl) ⟨_, rfl, ?_⟩
    exact ⟨_,_,_, rfl, hN, H.sub (.cons _ (List.Sublist.refl _))⟩

end Go.Proofs.Ytbjalofmamoffaa

