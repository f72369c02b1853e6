import Derived.Test.YtblphhclfloodaaG3
import Derived.Test.YtblphhclfloodaaG5
import Derived.Test.YtblphhclfloodaaG9
import Derived.Test.YtblphhclfloodaaT2
namespace Go.Proofs.Ytblphhclfloodaa
open Go Go.Er

set_option maxHeartbeats 4000000 in
set_option maxRecDepth 20000 in
theorem plays_spec (seed : Key) (a : Option Addr) (cap : Nat) (ns : List Int) (hu : U64 ns) (q : Int) (hq0 : 0 ≤ q) (hq1 : q < 18446744073709551616) (w0 : World) (hr : URow w0 a ns) :
    Calls Try.prog 6 #[.agg (kC seed).toArray, .slice a ns.length cap, .int .u64 q] w0 fun e w => ∃ v, e = .returned v ∧ (v = .bool true ∧ St w0 [] w []) := by
  have H := St.refl w0
  refine c_enter (args := [.agg (kC seed).toArray, .slice a ns.length cap, .int .u64 q]) (l := [.agg (kC seed).toArray, .slice a ns.length cap, .int .u64 q, undef, undef, undef, undef, undef, undef, undef, undef, undef, undef, undef, undef, undef, undef, undef, undef, undef, undef, undef, undef, undef, undef, undef, undef, undef, undef, undef, undef, undef, undef, undef, undef, undef, undef, undef, undef, undef, undef, undef, undef, undef, undef, undef, undef, undef, undef, undef, undef, undef, undef, undef, undef, undef, undef, undef, undef, undef, undef, undef, undef, undef, undef, undef, undef, undef, undef, undef, undef, undef, undef, undef, undef, undef, undef, undef, undef, undef, undef, undef, undef, undef, undef, undef, undef, undef, undef, undef, undef, undef, undef, undef, undef, undef, undef, undef, undef, undef, undef, undef, undef, undef, undef, undef, undef, undef, undef, undef, undef, undef]) Try.func6 Try.ntmps6 rfl rfl ?_
  refine c_rseq (n := 112) ⟨rfl, rfl⟩ ?_
  refine s_new (m_box (cs := (kC seed)) H rfl rfl) ?_
  intro w b3 H
  refine s_val (r_assign rfl) ?_
  refine c_nil (l' := [_, _, _, _, _, _, _, _, _, _, _, _, _, _, _, _, _, _, _, _, _, _, _, _, _, _, _, _, _, _, _, _, _, _, _, _, _, _, _, _, _, _, _, _, _, _, _, _, _, _, _, _, _, _, _, _, _, _, _, _, _, _, _, _, _, _, _, _, _, _, _, _, _, _, _, _, _, _, _, _, _, _, _, _, _, _, _, _, _, _, _, _, _, _, _, _, _, _, _, _, _, _, _, _, _, _, _, _, _, _, _, _]) rfl ?_
  refine c_seq ?_
  refine c_rseq (n := 112) ⟨rfl, rfl⟩ ?_
  refine s_call (r_call Try.call12 en) (awake_spec _) ?_
  rintro v w ⟨rfl, HC⟩
  replace H := H.quiet HC
  refine s_val (r_not rfl) ?_
  refine s_val (r_move rfl) ?_
  refine g_yes rfl rfl ?_
  refine s_val (r_move rfl) ?_
  refine g_yes rfl rfl ?_
  refine s_val (r_lens Try.runUnderlying24 (ec rfl en)) ?_
  refine g_yes rfl rfl ?_
  refine s_val (r_gtr rfl rfl) ?_
  refine s_val (r_pickf rfl rfl) ?_
  refine c_nil (l' := [_, _, _, _, _, _, _, _, _, _, _, _, _, _, _, _, _, _, _, _, _, _, _, _, _, _, _, _, _, _, _, _, _, _, _, _, _, _, _, _, _, _, _, _, _, _, _, _, _, _, _, _, _, _, _, _, _, _, _, _, _, _, _, _, _, _, _, _, _, _, _, _, _, _, _, _, _, _, _, _, _, _, _, _, _, _, _, _, _, _, _, _, _, _, _, _, _, _, _, _, _, _, _, _, _, _, _, _, _, _, _, _]) rfl ?_
  refine c_if rfl (fun h22 => ?_) (fun h22 => ?_)
  · skip
    refine c_rseq (n := 112) ⟨rfl, rfl⟩ ?_
    refine s_call (r_call Try.call12 en) (awake_spec _) ?_
    rintro v w ⟨rfl, HC⟩
    replace H := H.quiet HC
    refine s_val (r_assign rfl) ?_
    refine c_nil (l' := [_, _, _, _, _, _, _, _, _, _, _, _, _, _, _, _, _, _, _, _, _, _, _, _, _, _, _, _, _, _, _, _, _, _, _, _, _, _, _, _, _, _, _, _, _, _, _, _, _, _, _, _, _, _, _, _, _, _, _, _, _, _, _, _, _, _, _, _, _, _, _, _, _, _, _, _, _, _, _, _, _, _, _, _, _, _, _, _, _, _, _, _, _, _, _, _, _, _, _, _, _, _, _, _, _, _, _, _, _, _, _, _]) rfl ?_
    refine wp_ret (x_thenRet ?_)
    refine e_ret (res1 rfl rfl) ⟨_, rfl, ?_⟩
    exact ⟨rfl, H.sub (List.nil_sublist _)⟩
  · skip
    skip
    refine wp_skip ?_
    refine x_thenNormal ?_
    refine c_seq ?_
    refine d_begin (sz := 112) ⟨rfl, rfl⟩ (by kernel_rfl) H (H.sub (.cons_cons _ (List.nil_sublist _))) rfl ?_
    intro w H
    refine d_take (i := 0) rfl (by kernel_rfl) (fun _ _ _ h => h) (H.sub (.cons_cons _ (List.nil_sublist _))) (fun _ _ => r_buildS Try.runUnderlying29 Try.zeroValue29 places29 pn rfl) rfl ?_
    refine d_take (i := 1) rfl (by kernel_rfl) (fun _ _ _ h => h) (H.sub (.cons_cons _ (List.nil_sublist _))) (fun _ _ => r_makeIface Try.runUnderlying29 (fun _ h => nomatch h) rfl) rfl ?_
    refine d_take (i := 2) rfl (by kernel_rfl) (fun _ _ _ h => h) (H.sub (.cons_cons _ (List.nil_sublist _))) (fun _ HS => r_loadn Try.isAgg23 Try.sizeOf23 rfl (HS.at 0 rfl) (by first | exact (kC_td _) | exact (hC_td _) | exact (hC_seed _)) (by first | exact (kC_length _) | exact (hC_length _) | exact rfl)) rfl ?_
    refine d_take (i := 4) rfl (by kernel_rfl) (fun _ _ _ h => h) (H.sub (.cons_cons _ (List.nil_sublist _))) (fun _ HS => r_loadn Try.isAgg23 Try.sizeOf23 rfl (HS.at 0 rfl) (by first | exact (kC_td _) | exact (hC_td _) | exact (hC_seed _)) (by first | exact (kC_length _) | exact (hC_length _) | exact rfl)) rfl ?_
    refine d_take (i := 5) rfl (by kernel_rfl) (fun _ _ _ h => h) (H.sub (.cons_cons _ (List.nil_sublist _))) (fun _ _ => r_buildS Try.runUnderlying51 Try.zeroValue51 places51 (pc rfl pn) (hfill1 _)) rfl ?_
    refine d_all2 (i := 3) (j := 6) (by kernel_rfl) ?_ ?_
    · skip
      refine b_call rfl go_none (r_call Try.call13 (ec rfl (ec rfl en))) (new_spec _ _ splitL splitR splits_little _) rfl ?_
      rintro v w ⟨bt, N, rfl, hT, HC⟩
      replace H : St w0 [] _ (_ :: N) := (H.call0 HC).perm (List.perm_append_comm (l₁ := [_]))
      refine ⟨(H.sub (.cons_cons _ (List.nil_sublist _))), ?_⟩
      refine d_take (i := 7) rfl (by kernel_rfl) (fun _ _ _ h => h) (H.sub (.cons_cons _ (List.nil_sublist _))) (fun _ _ => r_assign rfl) rfl ?_
      refine d_all1 (i := 6) (by kernel_rfl) ?_
      refine b_new rfl go_none (m_bslice1 H Try.runUnderlying33 Try.sizeOf51 Try.zeroValue51 (by omega) (by omega) rfl rfl (hC_length _)) rfl (fun _ _ H => (H.sub (.cons _ (.cons_cons _ (List.nil_sublist _))))) ?_
      intro w b30 H
      refine d_take (i := 8) rfl (by kernel_rfl) (fun _ _ _ h => h) (H.sub (.cons _ (.cons_cons _ (List.nil_sublist _)))) (fun _ _ => r_assign rfl) rfl ?_
      refine d_done (l' := [_, _, _, _, _, _, _, _, _, _, _, _, _, _, _, _, _, _, _, _, _, _, _, _, _, _, _, _, _, _, _, _, _, _, _, _, _, _, _, _, _, _, _, _, _, _, _, _, _, _, _, _, _, _, _, _, _, _, _, _, _, _, _, _, _, _, _, _, _, _, _, _, _, _, _, _, _, _, _, _, _, _, _, _, _, _, _, _, _, _, _, _, _, _, _, _, _, _, _, _, _, _, _, _, _, _, _, _, _, _, _, _]) (by kernel_rfl) rfl ?_
      refine x_thenNormal ?_
      refine c_seq ?_
      refine c_rseq (n := 112) ⟨rfl, rfl⟩ ?_
      refine s_val (r_assign rfl) ?_
      refine c_nil (l' := [_, _, _, _, _, _, _, _, _, _, _, _, _, _, _, _, _, _, _, _, _, _, _, _, _, _, _, _, _, _, _, _, _, _, _, _, _, _, _, _, _, _, _, _, _, _, _, _, _, _, _, _, _, _, _, _, _, _, _, _, _, _, _, _, _, _, _, _, _, _, _, _, _, _, _, _, _, _, _, _, _, _, _, _, _, _, _, _, _, _, _, _, _, _, _, _, _, _, _, _, _, _, _, _, _, _, _, _, _, _, _, _]) rfl ?_
      refine wp_block ?_
      refine c_loop (fun (l0 : List Value) (i : Nat) (l : List Value) (w : World) => ∃ (u6 u10 u11 u31 u32 u33 u34 u35 u36 u37 u38 u39 u40 u41 u42 u43 u44 u45 u46 u47 u48 u49 u50 u51 u52 u53 u54 u55 u56 u57 u58 u59 u60 u61 u62 u63 u64 u65 u66 u67 u68 u69 u70 u71 u72 u73 u74 u75 u76 u77 u78 u79 u80 u81 u82 u83 u84 : Value) (Nt Nx : List (Nat × Obj)) (la : List Int) (xs : List Held) (a2 : Option Addr) (cap2 : Nat), l = ovr l0 [N_, N_, N_, N_, N_, N_, Y_ u6, N_, Y_ (.slice a2 xs.length cap2), Y_ (.int .i64 i), Y_ u10, Y_ u11, N_, N_, N_, N_, N_, N_, N_, N_, N_, N_, N_, N_, N_, N_, N_, N_, N_, N_, N_, Y_ u31, Y_ u32, Y_ u33, Y_ u34, Y_ u35, Y_ u36, Y_ u37, Y_ u38, Y_ u39, Y_ u40, Y_ u41, Y_ u42, Y_ u43, Y_ u44, Y_ u45, Y_ u46, Y_ u47, Y_ u48, Y_ u49, Y_ u50, Y_ u51, Y_ u52, Y_ u53, Y_ u54, Y_ u55, Y_ u56, Y_ u57, Y_ u58, Y_ u59, Y_ u60, Y_ u61, Y_ u62, Y_ u63, Y_ u64, Y_ u65, Y_ u66, Y_ u67, Y_ u68, Y_ u69, Y_ u70, Y_ u71, Y_ u72, Y_ u73, Y_ u74, Y_ u75, Y_ u76, Y_ u77, Y_ u78, Y_ u79, Y_ u80, Y_ u81, Y_ u82, Y_ u83, Y_ u84] ∧ i ≤ ns.length ∧ xs = tree0 splitL splitR seed la ∧ la.length = i ∧ TreeN 68 41 bt (.iface 29 (.agg #[])) xs Nt ∧ RowN 34 51 (hsC xs) xs.length a2 cap2 Nx ∧ St w0 [] w ((b3, .cells (kC seed).toArray 23 (0, 0)) :: Nt ++ Nx)) (fun (i : Nat) => ns.length - i) 0 ⟨_, _, _, _, _, _, _, _, _, _, _, _, _, _, _, _, _, _, _, _, _, _, _, _, _, _, _, _, _, _, _, _, _, _, _, _, _, _, _, _, _, _, _, _, _, _, _, _, _, _, _, _, _, _, _, _, _, N, _, [], [root seed], _, _, rfl, by omega, tree0_nil.symm, rfl, hT, RowN.one, (H.perm (List.perm_append_comm (l₁ := _ :: N) (l₂ := [_])))⟩ ?_
      intro i l w ⟨u6, u10, u11, u31, u32, u33, u34, u35, u36, u37, u38, u39, u40, u41, u42, u43, u44, u45, u46, u47, u48, u49, u50, u51, u52, u53, u54, u55, u56, u57, u58, u59, u60, u61, u62, u63, u64, u65, u66, u67, u68, u69, u70, u71, u72, u73, u74, u75, u76, u77, u78, u79, u80, u81, u82, u83, u84, Nt, Nx, la, xs, a2, cap2, hl, hi, hxs, hll, hT, hX, H⟩
      obtain rfl := hl.trans (rfl : _ = [_, _, _, _, _, _, _, _, _, _, _, _, _, _, _, _, _, _, _, _, _, _, _, _, _, _, _, _, _, _, _, _, _, _, _, _, _, _, _, _, _, _, _, _, _, _, _, _, _, _, _, _, _, _, _, _, _, _, _, _, _, _, _, _, _, _, _, _, _, _, _, _, _, _, _, _, _, _, _, _, _, _, _, _, _, _, _, _, _, _, _, _, _, _, _, _, _, _, _, _, _, _, _, _, _, _, _, _, _, _, _, _])
      clear hl
      have hvx : Valid xs := by rw [hxs]; exact tree0_valid la
      have hlx : xs.length ≤ 1 + 17 * la.length := by rw [hxs]; exact tree0_len la
      refine c_seq ?_
      refine c_rseq (n := 112) ⟨rfl, rfl⟩ ?_
      refine s_val (r_move rfl) ?_
      refine s_val (r_move rfl) ?_
      refine s_val (r_lens Try.runUnderlying24 (ec rfl en)) ?_
      refine s_val (r_lss rfl rfl) ?_
      refine c_nil (l' := [_, _, _, _, _, _, _, _, _, _, _, _, _, _, _, _, _, _, _, _, _, _, _, _, _, _, _, _, _, _, _, _, _, _, _, _, _, _, _, _, _, _, _, _, _, _, _, _, _, _, _, _, _, _, _, _, _, _, _, _, _, _, _, _, _, _, _, _, _, _, _, _, _, _, _, _, _, _, _, _, _, _, _, _, _, _, _, _, _, _, _, _, _, _, _, _, _, _, _, _, _, _, _, _, _, _, _, _, _, _, _, _]) rfl ?_
      refine c_if rfl (fun h34 => ?_) (fun h34 => ?_)
      · skip
        obtain ⟨bu, off, pre, post, T, fz, rfl, hbu, hpu⟩ := hr (by omega)
        obtain ⟨hn0, hn1⟩ := hu.get (i := i) (by omega)
        have hvy : Valid (punc splitL splitR xs (ns.getD i 0)) := punc_valid hvx
        have hly := len_tree (sl := splitL) (sr := splitR) (n := (ns.getD i 0)) hvx
        refine wp_skip ?_
        refine x_thenNormal ?_
        refine c_seq ?_
        refine wp_block ?_
        refine c_rseq (n := 112) ⟨rfl, rfl⟩ ?_
        refine s_val (r_move rfl) ?_
        refine s_val (r_move rfl) ?_
        refine s_val (r_move rfl) ?_
        refine s_val (r_indexAddrS Try.runUnderlying24 Try.sizeOf31 rfl rfl (by omega) (by omega)) ?_
        refine s_val (r_load1 Try.isAgg31 rfl (H.rd0 hbu) (u_get pre ns post i hpu (by omega) (by omega))) ?_
        refine s_call (r_call Try.call21 (ec rfl (ec rfl en))) (rkey_spec _ _ xs (ns.getD i 0) (by omega) hvx hn0 hn1 _ (hX.hrowM H (fun p hp => by simp [hp]))) ?_
        rintro v w ⟨k0, ok0, hK0, rfl, HC⟩
        obtain rfl := keyR_ok hK0
        replace H := H.quiet HC
        refine s_val (r_move rfl) ?_
        refine s_val (r_extract rfl rfl) ?_
        refine s_val (r_extract rfl rfl) ?_
        refine s_new (m_alloc (cs := (kC (By.zero 32))) H Try.zeroValue22 rfl) ?_
        intro w b10 H
        refine s_st (m_storen H 0 32 Try.sizeOf22 rfl rfl (by first | exact (kC_length _) | exact (hC_length _)) (by first | exact (kC_one _) | exact (hC_one _)) rfl (by first | exact (by rw [kC_length]; omega) | exact (by rw [hC_length]; omega)) (by first | exact (kC_sp _ _) | exact (hC_sp _ _))) (L' := (_ :: _ :: _)) rfl ?_
        intro w H
        refine s_val (r_assign rfl) ?_
        refine c_nil (l' := [_, _, _, _, _, _, _, _, _, _, _, _, _, _, _, _, _, _, _, _, _, _, _, _, _, _, _, _, _, _, _, _, _, _, _, _, _, _, _, _, _, _, _, _, _, _, _, _, _, _, _, _, _, _, _, _, _, _, _, _, _, _, _, _, _, _, _, _, _, _, _, _, _, _, _, _, _, _, _, _, _, _, _, _, _, _, _, _, _, _, _, _, _, _, _, _, _, _, _, _, _, _, _, _, _, _, _, _, _, _, _, _]) rfl ?_
        refine c_rseq (n := 112) ⟨rfl, rfl⟩ ?_
        refine s_val (r_move rfl) ?_
        refine s_val (r_move rfl) ?_
        refine s_val (r_move rfl) ?_
        refine s_val (r_indexAddrS Try.runUnderlying24 Try.sizeOf31 rfl rfl (by omega) (by omega)) ?_
        refine s_val (r_load1 Try.isAgg31 rfl (H.rd0 hbu) (u_get pre ns post i hpu (by omega) (by omega))) ?_
        refine s_call (r_call Try.call22 (ec rfl (ec rfl en))) (rpunc_spec _ _ xs (ns.getD i 0) (by omega) hvx hn0 hn1 _ (hX.hrowM H (fun p hp => by simp [hp]))) ?_
        rintro v w ⟨a3, cap3, Nx2, rfl, hX2, HC⟩
        replace H : St w0 [] _ (_ :: _ :: (Nt ++ Nx2)) := ((H.call0 HC).sub (List.Sublist.append (List.Sublist.refl Nx2) (List.sublist_append_left (_ :: _ :: Nt) Nx))).perm (List.perm_append_comm (l₁ := _ :: _ :: Nt))
        refine s_val (r_assign rfl) ?_
        refine c_nil (l' := [_, _, _, _, _, _, _, _, _, _, _, _, _, _, _, _, _, _, _, _, _, _, _, _, _, _, _, _, _, _, _, _, _, _, _, _, _, _, _, _, _, _, _, _, _, _, _, _, _, _, _, _, _, _, _, _, _, _, _, _, _, _, _, _, _, _, _, _, _, _, _, _, _, _, _, _, _, _, _, _, _, _, _, _, _, _, _, _, _, _, _, _, _, _, _, _, _, _, _, _, _, _, _, _, _, _, _, _, _, _, _, _]) rfl ?_
        refine c_rseq (n := 112) ⟨rfl, rfl⟩ ?_
        refine s_val (r_move rfl) ?_
        refine s_val (r_move rfl) ?_
        refine s_val (r_move rfl) ?_
        refine s_val (r_indexAddrS Try.runUnderlying24 Try.sizeOf31 rfl rfl (by omega) (by omega)) ?_
        refine s_val (r_load1 Try.isAgg31 rfl (H.rd0 hbu) (u_get pre ns post i hpu (by omega) (by omega))) ?_
        refine s_call (r_call Try.call23 (ec rfl (ec rfl en))) (has_spec _ _ xs Nt (by omega) hvx (ns.getD i 0) hn0 _ hT (H.ownsM (List.Sublist.cons _ (List.Sublist.cons _ (List.sublist_append_left _ _))))) ?_
        rintro v w ⟨rfl, HC⟩
        replace H := H.quiet HC
        refine s_val (r_move rfl) ?_
        refine s_testb (r_neqb Try.runUnderlying4 rfl rfl) (fun h59 => ?_) (fun h59 => ?_)
        · skip
          simp at h59
        · skip
          refine s_val (r_move rfl) ?_
          refine g_yes rfl rfl ?_
          refine s_val (r_move rfl) ?_
          refine g_yes rfl rfl ?_
          refine s_val (r_move rfl) ?_
          refine g_yes rfl rfl ?_
          refine s_val (r_move rfl) ?_
          refine g_yes rfl rfl ?_
          refine s_val (r_indexAddrS Try.runUnderlying24 Try.sizeOf31 rfl rfl (by omega) (by omega)) ?_
          refine g_yes rfl rfl ?_
          refine s_val (r_load1 Try.isAgg31 rfl (H.rd0 hbu) (u_get pre ns post i hpu (by omega) (by omega))) ?_
          refine g_yes rfl rfl ?_
          refine s_call (r_call Try.call14 (ec rfl (ec rfl en))) (punc_t _ _ xs (ns.getD i 0) Nt splitL splitR splits_little (by omega) hvx hn0 hn1 _ hT (H.ownsM (List.Sublist.cons _ (List.Sublist.cons _ (List.sublist_append_left _ _))))) ?_
          rintro v w ⟨rfl, Nt2, hT2, HC⟩
          replace H := H.trA2 HC
          refine g_yes rfl rfl ?_
          refine s_val (r_move rfl) ?_
          refine g_yes rfl rfl ?_
          refine s_testb (r_neqb Try.runUnderlying4 rfl rfl) (fun h68 => ?_) (fun h68 => ?_)
          · skip
            simp at h68
          · skip
            refine s_val (r_pickf rfl rfl) ?_
            refine s_val (r_move rfl) ?_
            refine g_yes rfl rfl ?_
            refine s_val (r_move rfl) ?_
            refine g_yes rfl rfl ?_
            refine s_call (r_call Try.call17 (ec rfl en)) (held_spec _ _ (punc splitL splitR xs (ns.getD i 0)) Nt2 (by omega) hvy _ hT2 (H.ownsM (List.Sublist.cons _ (List.Sublist.cons _ (List.sublist_append_left _ _))))) ?_
            rintro v w ⟨a4, cap4, Nh, rfl, hNh, HC⟩
            replace H := H.call0 HC
            refine g_yes rfl rfl ?_
            refine s_call (r_call Try.call16 (ec rfl en)) (plain6_spec _ _ (punc splitL splitR xs (ns.getD i 0)) (by omega) _ (hNh.hrowM H (fun p hp => List.mem_append_left _ hp))) ?_
            rintro v w ⟨a5, cap5, Np, rfl, hNp, HC⟩
            replace H := H.call0 HC
            refine g_yes rfl rfl ?_
            refine s_val (r_move rfl) ?_
            refine g_yes rfl rfl ?_
            refine s_call (r_call Try.call15 (ec rfl (ec rfl en))) (same6_spec _ _ _ _ (punc splitL splitR xs (ns.getD i 0)) (punc splitL splitR xs (ns.getD i 0)) (by omega) _ (hNp.hrowM H (fun p hp => by simp [hp])) (hX2.hrowM H (fun p hp => by simp [hp]))) ?_
            rintro v w ⟨hv75, HC⟩
            rw [decide_eq_true rfl] at hv75
            subst hv75
            replace H := H.quiet HC
            refine g_yes rfl rfl ?_
            refine s_val (r_not rfl) ?_
            refine s_val (r_pickf rfl rfl) ?_
            refine s_val (r_move rfl) ?_
            refine g_yes rfl rfl ?_
            refine s_val (r_move rfl) ?_
            refine g_yes rfl rfl ?_
            refine s_call (r_call Try.call18 (ec rfl en)) (count_spec _ _ (punc splitL splitR xs (ns.getD i 0)) Nt2 (by omega) hvy _ hT2 (H.ownsM (((List.Sublist.cons _ (List.Sublist.cons _ (List.sublist_append_left _ _))).trans (List.sublist_append_right _ _)).trans (List.sublist_append_right _ _)))) ?_
            rintro v w ⟨rfl, HC⟩
            replace H := H.quiet HC
            refine g_yes rfl rfl ?_
            refine s_val (r_move rfl) ?_
            refine g_yes rfl rfl ?_
            refine s_call (r_call Try.call24 (ec rfl en)) (rcount_spec _ _ (punc splitL splitR xs (ns.getD i 0)) (by omega) hvy _ (hX2.hrowM H (fun p hp => by simp [hp]))) ?_
            rintro v w ⟨rfl, HC⟩
            replace H : St w0 [] _ (_ :: (Nt2 ++ Nx2)) := (H.quiet HC).sub ((List.Sublist.cons _ (List.Sublist.refl _)).trans ((List.sublist_append_right Nh _).trans (List.sublist_append_right Np _)))
            refine g_yes rfl rfl ?_
            refine s_val (r_neq rfl rfl) ?_
            refine s_val (r_pickf rfl rfl) ?_
            refine c_nil (l' := [_, _, _, _, _, _, _, _, _, _, _, _, _, _, _, _, _, _, _, _, _, _, _, _, _, _, _, _, _, _, _, _, _, _, _, _, _, _, _, _, _, _, _, _, _, _, _, _, _, _, _, _, _, _, _, _, _, _, _, _, _, _, _, _, _, _, _, _, _, _, _, _, _, _, _, _, _, _, _, _, _, _, _, _, _, _, _, _, _, _, _, _, _, _, _, _, _, _, _, _, _, _, _, _, _, _, _, _, _, _, _, _]) rfl ?_
            refine c_if rfl (fun h84 => ?_) (fun h84 => ?_)
            · skip
              exact absurd rfl h84
            · skip
              refine wp_skip ?_
              refine x_blockNormal ?_
              refine x_thenNormal ?_
              refine c_region (n := 112) ⟨rfl, rfl⟩ ?_
              refine s_val (r_move rfl) ?_
              refine s_val (r_add rfl rfl (w_i64 (by omega) (by omega))) ?_
              refine s_val (r_assign rfl) ?_
              refine c_nil0 (l' := [_, _, _, _, _, _, _, _, _, _, _, _, _, _, _, _, _, _, _, _, _, _, _, _, _, _, _, _, _, _, _, _, _, _, _, _, _, _, _, _, _, _, _, _, _, _, _, _, _, _, _, _, _, _, _, _, _, _, _, _, _, _, _, _, _, _, _, _, _, _, _, _, _, _, _, _, _, _, _, _, _, _, _, _, _, _, _, _, _, _, _, _, _, _, _, _, _, _, _, _, _, _, _, _, _, _, _, _, _, _, _, _]) rfl ?_
              exact ⟨i + 1, _, rfl, ⟨_, _, _, _, _, _, _, _, _, _, _, _, _, _, _, _, _, _, _, _, _, _, _, _, _, _, _, _, _, _, _, _, _, _, _, _, _, _, _, _, _, _, _, _, _, _, _, _, _, _, _, _, _, _, _, _, _, Nt2, Nx2, _, (punc splitL splitR xs (ns.getD i 0)), a3, cap3, rfl, by omega, by rw [hxs, tree0_punc], by simp only [List.length_cons]; omega, hT2, hX2, H⟩, by omega⟩
      · skip
        obtain rfl : i = ns.length := by omega
        refine wp_exit (x_thenExit (x_thenExit (x_blockHit ?_)))
        refine x_thenNormal ?_
        refine c_rseq (n := 112) ⟨rfl, rfl⟩ ?_
        refine s_val (r_move rfl) ?_
        refine s_val (r_move rfl) ?_
        refine s_call (r_call Try.call19 (ec rfl (ec rfl en))) (key_spec _ _ xs Nt (by omega) hvx q hq0 splitL splitR splits_little _ hT (H.ownsM (.cons _ (List.sublist_append_left _ _)))) ?_
        rintro v w ⟨k1, ok1, hK1, rfl, HC⟩
        obtain rfl := keyR_ok hK1
        replace H := H.quiet HC
        refine s_val (r_move rfl) ?_
        refine s_val (r_extract rfl rfl) ?_
        refine s_val (r_extract rfl rfl) ?_
        refine s_new (m_alloc (cs := (kC (By.zero 32))) H Try.zeroValue23 rfl) ?_
        intro w b12 H
        refine s_st (m_storen H 0 32 Try.sizeOf23 rfl rfl (by first | exact (kC_length _) | exact (hC_length _)) (by first | exact (kC_one _) | exact (hC_one _)) rfl (by first | exact (by rw [kC_length]; omega) | exact (by rw [hC_length]; omega)) (by first | exact (kC_sp _ _) | exact (hC_sp _ _))) (L' := (_ :: _ :: _)) rfl ?_
        intro w H
        refine s_val (r_assign rfl) ?_
        refine c_nil (l' := [_, _, _, _, _, _, _, _, _, _, _, _, _, _, _, _, _, _, _, _, _, _, _, _, _, _, _, _, _, _, _, _, _, _, _, _, _, _, _, _, _, _, _, _, _, _, _, _, _, _, _, _, _, _, _, _, _, _, _, _, _, _, _, _, _, _, _, _, _, _, _, _, _, _, _, _, _, _, _, _, _, _, _, _, _, _, _, _, _, _, _, _, _, _, _, _, _, _, _, _, _, _, _, _, _, _, _, _, _, _, _, _]) rfl ?_
        refine c_rseq (n := 112) ⟨rfl, rfl⟩ ?_
        refine s_val (r_move rfl) ?_
        refine s_val (r_move rfl) ?_
        refine s_call (r_call Try.call21 (ec rfl (ec rfl en))) (rkey_spec _ _ xs q (by omega) hvx hq0 hq1 _ (hX.hrowM H (fun p hp => by simp [hp]))) ?_
        rintro v w ⟨k2, ok2, hK2, rfl, HC⟩
        obtain rfl := keyR_ok hK2
        obtain rfl := keyR_uniq hvx hK1 hK2
        replace H := H.quiet HC
        refine s_val (r_move rfl) ?_
        refine s_val (r_extract rfl rfl) ?_
        refine s_val (r_extract rfl rfl) ?_
        refine s_new (m_alloc (cs := (kC (By.zero 32))) H Try.zeroValue22 rfl) ?_
        intro w b14 H
        refine s_st (m_storen H 0 32 Try.sizeOf22 rfl rfl (by first | exact (kC_length _) | exact (hC_length _)) (by first | exact (kC_one _) | exact (hC_one _)) rfl (by first | exact (by rw [kC_length]; omega) | exact (by rw [hC_length]; omega)) (by first | exact (kC_sp _ _) | exact (hC_sp _ _))) (L' := (_ :: _ :: _ :: _)) rfl ?_
        intro w H
        refine s_val (r_assign rfl) ?_
        refine c_nil (l' := [_, _, _, _, _, _, _, _, _, _, _, _, _, _, _, _, _, _, _, _, _, _, _, _, _, _, _, _, _, _, _, _, _, _, _, _, _, _, _, _, _, _, _, _, _, _, _, _, _, _, _, _, _, _, _, _, _, _, _, _, _, _, _, _, _, _, _, _, _, _, _, _, _, _, _, _, _, _, _, _, _, _, _, _, _, _, _, _, _, _, _, _, _, _, _, _, _, _, _, _, _, _, _, _, _, _, _, _, _, _, _, _]) rfl ?_
        refine c_rseq (n := 112) ⟨rfl, rfl⟩ ?_
        refine s_val (r_loadn Try.isAgg23 Try.sizeOf23 rfl (H.at 1 rfl) (by first | exact (kC_td _) | exact (hC_td _) | exact (hC_seed _)) (by first | exact (kC_length _) | exact (hC_length _) | exact rfl)) ?_
        refine s_val (r_loadn Try.isAgg22 Try.sizeOf22 rfl (H.at 0 rfl) (by first | exact (kC_td _) | exact (hC_td _) | exact (hC_seed _)) (by first | exact (kC_length _) | exact (hC_length _) | exact rfl)) ?_
        refine s_test (r_eqlK keyT23 rfl rfl) (fun h99 => ?_) (fun h99 => ?_)
        · skip
          refine s_val (r_move rfl) ?_
          refine g_yes rfl rfl ?_
          refine s_val (r_move rfl) ?_
          refine g_yes rfl rfl ?_
          refine s_val (r_move rfl) ?_
          refine g_yes rfl rfl ?_
          refine s_testb (r_eqlb Try.runUnderlying4 rfl rfl) (fun h103 => ?_) (fun h103 => ?_)
          · skip
            refine s_val (r_pickt rfl rfl) ?_
            refine s_val (r_move rfl) ?_
            refine g_yes rfl rfl ?_
            refine s_val (r_move rfl) ?_
            refine g_yes rfl rfl ?_
            refine s_val (r_move rfl) ?_
            refine g_yes rfl rfl ?_
            refine s_call (r_call Try.call23 (ec rfl (ec rfl en))) (has_spec _ _ xs Nt (by omega) hvx q hq0 _ hT (H.ownsM (.cons _ (.cons _ (.cons _ (List.sublist_append_left _ _)))))) ?_
            rintro v w ⟨rfl, HC⟩
            replace H := H.quiet HC
            refine g_yes rfl rfl ?_
            refine s_val (r_move rfl) ?_
            refine g_yes rfl rfl ?_
            refine s_val (r_eqlb Try.runUnderlying4 rfl rfl) ?_
            refine s_val (r_pickt rfl rfl) ?_
            refine s_val (r_assign rfl) ?_
            refine c_nil (l' := [_, _, _, _, _, _, _, _, _, _, _, _, _, _, _, _, _, _, _, _, _, _, _, _, _, _, _, _, _, _, _, _, _, _, _, _, _, _, _, _, _, _, _, _, _, _, _, _, _, _, _, _, _, _, _, _, _, _, _, _, _, _, _, _, _, _, _, _, _, _, _, _, _, _, _, _, _, _, _, _, _, _, _, _, _, _, _, _, _, _, _, _, _, _, _, _, _, _, _, _, _, _, _, _, _, _, _, _, _, _, _, _]) rfl ?_
            refine wp_ret ?_
            refine e_ret (res1 rfl rfl) ⟨_, rfl, ?_⟩
            exact ⟨by simp, H.sub (List.nil_sublist _)⟩
          · skip
            simp at h103
        · skip
          exact absurd rfl h99
    · skip
      refine b_new rfl go_none (m_bslice1 H Try.runUnderlying33 Try.sizeOf51 Try.zeroValue51 (by omega) (by omega) rfl rfl (hC_length _)) rfl (fun _ _ H => (H.sub (.cons _ (.cons_cons _ (List.nil_sublist _))))) ?_
      intro w b30 H
      refine d_all1 (i := 3) (by kernel_rfl) ?_
      refine b_call rfl go_none (r_call Try.call13 (ec rfl (ec rfl en))) (new_spec _ _ splitL splitR splits_little _) rfl ?_
      rintro v w ⟨bt, N, rfl, hT, HC⟩
      replace H : St w0 [] _ (_ :: _ :: N) := (H.call0 HC).perm (List.perm_append_comm (l₁ := [_, _]))
      refine ⟨(H.sub (.cons _ (.cons_cons _ (List.nil_sublist _)))), ?_⟩
      refine d_take (i := 7) rfl (by kernel_rfl) (fun _ _ _ h => h) (H.sub (.cons _ (.cons_cons _ (List.nil_sublist _)))) (fun _ _ => r_assign rfl) rfl ?_
      refine d_take (i := 8) rfl (by kernel_rfl) (fun _ _ _ h => h) (H.sub (.cons _ (.cons_cons _ (List.nil_sublist _)))) (fun _ _ => r_assign rfl) rfl ?_
      refine d_done (l' := [_, _, _, _, _, _, _, _, _, _, _, _, _, _, _, _, _, _, _, _, _, _, _, _, _, _, _, _, _, _, _, _, _, _, _, _, _, _, _, _, _, _, _, _, _, _, _, _, _, _, _, _, _, _, _, _, _, _, _, _, _, _, _, _, _, _, _, _, _, _, _, _, _, _, _, _, _, _, _, _, _, _, _, _, _, _, _, _, _, _, _, _, _, _, _, _, _, _, _, _, _, _, _, _, _, _, _, _, _, _, _, _]) (by kernel_rfl) rfl ?_
      refine x_thenNormal ?_
      refine c_seq ?_
      refine c_rseq (n := 112) ⟨rfl, rfl⟩ ?_
      refine s_val (r_assign rfl) ?_
      refine c_nil (l' := [_, _, _, _, _, _, _, _, _, _, _, _, _, _, _, _, _, _, _, _, _, _, _, _, _, _, _, _, _, _, _, _, _, _, _, _, _, _, _, _, _, _, _, _, _, _, _, _, _, _, _, _, _, _, _, _, _, _, _, _, _, _, _, _, _, _, _, _, _, _, _, _, _, _, _, _, _, _, _, _, _, _, _, _, _, _, _, _, _, _, _, _, _, _, _, _, _, _, _, _, _, _, _, _, _, _, _, _, _, _, _, _]) rfl ?_
      refine wp_block ?_
      refine c_loop (fun (l0 : List Value) (i : Nat) (l : List Value) (w : World) => ∃ (u6 u10 u11 u31 u32 u33 u34 u35 u36 u37 u38 u39 u40 u41 u42 u43 u44 u45 u46 u47 u48 u49 u50 u51 u52 u53 u54 u55 u56 u57 u58 u59 u60 u61 u62 u63 u64 u65 u66 u67 u68 u69 u70 u71 u72 u73 u74 u75 u76 u77 u78 u79 u80 u81 u82 u83 u84 : Value) (Nt Nx : List (Nat × Obj)) (la : List Int) (xs : List Held) (a2 : Option Addr) (cap2 : Nat), l = ovr l0 [N_, N_, N_, N_, N_, N_, Y_ u6, N_, Y_ (.slice a2 xs.length cap2), Y_ (.int .i64 i), Y_ u10, Y_ u11, N_, N_, N_, N_, N_, N_, N_, N_, N_, N_, N_, N_, N_, N_, N_, N_, N_, N_, N_, Y_ u31, Y_ u32, Y_ u33, Y_ u34, Y_ u35, Y_ u36, Y_ u37, Y_ u38, Y_ u39, Y_ u40, Y_ u41, Y_ u42, Y_ u43, Y_ u44, Y_ u45, Y_ u46, Y_ u47, Y_ u48, Y_ u49, Y_ u50, Y_ u51, Y_ u52, Y_ u53, Y_ u54, Y_ u55, Y_ u56, Y_ u57, Y_ u58, Y_ u59, Y_ u60, Y_ u61, Y_ u62, Y_ u63, Y_ u64, Y_ u65, Y_ u66, Y_ u67, Y_ u68, Y_ u69, Y_ u70, Y_ u71, Y_ u72, Y_ u73, Y_ u74, Y_ u75, Y_ u76, Y_ u77, Y_ u78, Y_ u79, Y_ u80, Y_ u81, Y_ u82, Y_ u83, Y_ u84] ∧ i ≤ ns.length ∧ xs = tree0 splitL splitR seed la ∧ la.length = i ∧ TreeN 68 41 bt (.iface 29 (.agg #[])) xs Nt ∧ RowN 34 51 (hsC xs) xs.length a2 cap2 Nx ∧ St w0 [] w ((b3, .cells (kC seed).toArray 23 (0, 0)) :: Nt ++ Nx)) (fun (i : Nat) => ns.length - i) 0 ⟨_, _, _, _, _, _, _, _, _, _, _, _, _, _, _, _, _, _, _, _, _, _, _, _, _, _, _, _, _, _, _, _, _, _, _, _, _, _, _, _, _, _, _, _, _, _, _, _, _, _, _, _, _, _, _, _, _, N, _, [], [root seed], _, _, rfl, by omega, tree0_nil.symm, rfl, hT, RowN.one, (H.perm (List.perm_append_comm (l₁ := _ :: N) (l₂ := [_])))⟩ ?_
      intro i l w ⟨u6, u10, u11, u31, u32, u33, u34, u35, u36, u37, u38, u39, u40, u41, u42, u43, u44, u45, u46, u47, u48, u49, u50, u51, u52, u53, u54, u55, u56, u57, u58, u59, u60, u61, u62, u63, u64, u65, u66, u67, u68, u69, u70, u71, u72, u73, u74, u75, u76, u77, u78, u79, u80, u81, u82, u83, u84, Nt, Nx, la, xs, a2, cap2, hl, hi, hxs, hll, hT, hX, H⟩
      obtain rfl := hl.trans (rfl : _ = [_, _, _, _, _, _, _, _, _, _, _, _, _, _, _, _, _, _, _, _, _, _, _, _, _, _, _, _, _, _, _, _, _, _, _, _, _, _, _, _, _, _, _, _, _, _, _, _, _, _, _, _, _, _, _, _, _, _, _, _, _, _, _, _, _, _, _, _, _, _, _, _, _, _, _, _, _, _, _, _, _, _, _, _, _, _, _, _, _, _, _, _, _, _, _, _, _, _, _, _, _, _, _, _, _, _, _, _, _, _, _, _])
      clear hl
      have hvx : Valid xs := by rw [hxs]; exact tree0_valid la
      have hlx : xs.length ≤ 1 + 17 * la.length := by rw [hxs]; exact tree0_len la
      refine c_seq ?_
      refine c_rseq (n := 112) ⟨rfl, rfl⟩ ?_
      refine s_val (r_move rfl) ?_
      refine s_val (r_move rfl) ?_
      refine s_val (r_lens Try.runUnderlying24 (ec rfl en)) ?_
      refine s_val (r_lss rfl rfl) ?_
      refine c_nil (l' := [_, _, _, _, _, _, _, _, _, _, _, _, _, _, _, _, _, _, _, _, _, _, _, _, _, _, _, _, _, _, _, _, _, _, _, _, _, _, _, _, _, _, _, _, _, _, _, _, _, _, _, _, _, _, _, _, _, _, _, _, _, _, _, _, _, _, _, _, _, _, _, _, _, _, _, _, _, _, _, _, _, _, _, _, _, _, _, _, _, _, _, _, _, _, _, _, _, _, _, _, _, _, _, _, _, _, _, _, _, _, _, _]) rfl ?_
      refine c_if rfl (fun h34 => ?_) (fun h34 => ?_)
      · skip
        obtain ⟨bu, off, pre, post, T, fz, rfl, hbu, hpu⟩ := hr (by omega)
        obtain ⟨hn0, hn1⟩ := hu.get (i := i) (by omega)
        have hvy : Valid (punc splitL splitR xs (ns.getD i 0)) := punc_valid hvx
        have hly := len_tree (sl := splitL) (sr := splitR) (n := (ns.getD i 0)) hvx
        refine wp_skip ?_
        refine x_thenNormal ?_
        refine c_seq ?_
        refine wp_block ?_
        refine c_rseq (n := 112) ⟨rfl, rfl⟩ ?_
        refine s_val (r_move rfl) ?_
        refine s_val (r_move rfl) ?_
        refine s_val (r_move rfl) ?_
        refine s_val (r_indexAddrS Try.runUnderlying24 Try.sizeOf31 rfl rfl (by omega) (by omega)) ?_
        refine s_val (r_load1 Try.isAgg31 rfl (H.rd0 hbu) (u_get pre ns post i hpu (by omega) (by omega))) ?_
        refine s_call (r_call Try.call21 (ec rfl (ec rfl en))) (rkey_spec _ _ xs (ns.getD i 0) (by omega) hvx hn0 hn1 _ (hX.hrowM H (fun p hp => by simp [hp]))) ?_
        rintro v w ⟨k0, ok0, hK0, rfl, HC⟩
        obtain rfl := keyR_ok hK0
        replace H := H.quiet HC
        refine s_val (r_move rfl) ?_
        refine s_val (r_extract rfl rfl) ?_
        refine s_val (r_extract rfl rfl) ?_
        refine s_new (m_alloc (cs := (kC (By.zero 32))) H Try.zeroValue22 rfl) ?_
        intro w b10 H
        refine s_st (m_storen H 0 32 Try.sizeOf22 rfl rfl (by first | exact (kC_length _) | exact (hC_length _)) (by first | exact (kC_one _) | exact (hC_one _)) rfl (by first | exact (by rw [kC_length]; omega) | exact (by rw [hC_length]; omega)) (by first | exact (kC_sp _ _) | exact (hC_sp _ _))) (L' := (_ :: _ :: _)) rfl ?_
        intro w H
        refine s_val (r_assign rfl) ?_
        refine c_nil (l' := [_, _, _, _, _, _, _, _, _, _, _, _, _, _, _, _, _, _, _, _, _, _, _, _, _, _, _, _, _, _, _, _, _, _, _, _, _, _, _, _, _, _, _, _, _, _, _, _, _, _, _, _, _, _, _, _, _, _, _, _, _, _, _, _, _, _, _, _, _, _, _, _, _, _, _, _, _, _, _, _, _, _, _, _, _, _, _, _, _, _, _, _, _, _, _, _, _, _, _, _, _, _, _, _, _, _, _, _, _, _, _, _]) rfl ?_
        refine c_rseq (n := 112) ⟨rfl, rfl⟩ ?_
        refine s_val (r_move rfl) ?_
        refine s_val (r_move rfl) ?_
        refine s_val (r_move rfl) ?_
        refine s_val (r_indexAddrS Try.runUnderlying24 Try.sizeOf31 rfl rfl (by omega) (by omega)) ?_
        refine s_val (r_load1 Try.isAgg31 rfl (H.rd0 hbu) (u_get pre ns post i hpu (by omega) (by omega))) ?_
        refine s_call (r_call Try.call22 (ec rfl (ec rfl en))) (rpunc_spec _ _ xs (ns.getD i 0) (by omega) hvx hn0 hn1 _ (hX.hrowM H (fun p hp => by simp [hp]))) ?_
        rintro v w ⟨a3, cap3, Nx2, rfl, hX2, HC⟩
        replace H : St w0 [] _ (_ :: _ :: (Nt ++ Nx2)) := ((H.call0 HC).sub (List.Sublist.append (List.Sublist.refl Nx2) (List.sublist_append_left (_ :: _ :: Nt) Nx))).perm (List.perm_append_comm (l₁ := _ :: _ :: Nt))
        refine s_val (r_assign rfl) ?_
        refine c_nil (l' := [_, _, _, _, _, _, _, _, _, _, _, _, _, _, _, _, _, _, _, _, _, _, _, _, _, _, _, _, _, _, _, _, _, _, _, _, _, _, _, _, _, _, _, _, _, _, _, _, _, _, _, _, _, _, _, _, _, _, _, _, _, _, _, _, _, _, _, _, _, _, _, _, _, _, _, _, _, _, _, _, _, _, _, _, _, _, _, _, _, _, _, _, _, _, _, _, _, _, _, _, _, _, _, _, _, _, _, _, _, _, _, _]) rfl ?_
        refine c_rseq (n := 112) ⟨rfl, rfl⟩ ?_
        refine s_val (r_move rfl) ?_
        refine s_val (r_move rfl) ?_
        refine s_val (r_move rfl) ?_
        refine s_val (r_indexAddrS Try.runUnderlying24 Try.sizeOf31 rfl rfl (by omega) (by omega)) ?_
        refine s_val (r_load1 Try.isAgg31 rfl (H.rd0 hbu) (u_get pre ns post i hpu (by omega) (by omega))) ?_
        refine s_call (r_call Try.call23 (ec rfl (ec rfl en))) (has_spec _ _ xs Nt (by omega) hvx (ns.getD i 0) hn0 _ hT (H.ownsM (List.Sublist.cons _ (List.Sublist.cons _ (List.sublist_append_left _ _))))) ?_
        rintro v w ⟨rfl, HC⟩
        replace H := H.quiet HC
        refine s_val (r_move rfl) ?_
        refine s_testb (r_neqb Try.runUnderlying4 rfl rfl) (fun h59 => ?_) (fun h59 => ?_)
        · skip
          simp at h59
        · skip
          refine s_val (r_move rfl) ?_
          refine g_yes rfl rfl ?_
          refine s_val (r_move rfl) ?_
          refine g_yes rfl rfl ?_
          refine s_val (r_move rfl) ?_
          refine g_yes rfl rfl ?_
          refine s_val (r_move rfl) ?_
          refine g_yes rfl rfl ?_
          refine s_val (r_indexAddrS Try.runUnderlying24 Try.sizeOf31 rfl rfl (by omega) (by omega)) ?_
          refine g_yes rfl rfl ?_
          refine s_val (r_load1 Try.isAgg31 rfl (H.rd0 hbu) (u_get pre ns post i hpu (by omega) (by omega))) ?_
          refine g_yes rfl rfl ?_
          refine s_call (r_call Try.call14 (ec rfl (ec rfl en))) (punc_t _ _ xs (ns.getD i 0) Nt splitL splitR splits_little (by omega) hvx hn0 hn1 _ hT (H.ownsM (List.Sublist.cons _ (List.Sublist.cons _ (List.sublist_append_left _ _))))) ?_
          rintro v w ⟨rfl, Nt2, hT2, HC⟩
          replace H := H.trA2 HC
          refine g_yes rfl rfl ?_
          refine s_val (r_move rfl) ?_
          refine g_yes rfl rfl ?_
          refine s_testb (r_neqb Try.runUnderlying4 rfl rfl) (fun h68 => ?_) (fun h68 => ?_)
          · skip
            simp at h68
          · skip
            refine s_val (r_pickf rfl rfl) ?_
            refine s_val (r_move rfl) ?_
            refine g_yes rfl rfl ?_
            refine s_val (r_move rfl) ?_
            refine g_yes rfl rfl ?_
            refine s_call (r_call Try.call17 (ec rfl en)) (held_spec _ _ (punc splitL splitR xs (ns.getD i 0)) Nt2 (by omega) hvy _ hT2 (H.ownsM (List.Sublist.cons _ (List.Sublist.cons _ (List.sublist_append_left _ _))))) ?_
            rintro v w ⟨a4, cap4, Nh, rfl, hNh, HC⟩
            replace H := H.call0 HC
            refine g_yes rfl rfl ?_
            refine s_call (r_call Try.call16 (ec rfl en)) (plain6_spec _ _ (punc splitL splitR xs (ns.getD i 0)) (by omega) _ (hNh.hrowM H (fun p hp => List.mem_append_left _ hp))) ?_
            rintro v w ⟨a5, cap5, Np, rfl, hNp, HC⟩
            replace H := H.call0 HC
            refine g_yes rfl rfl ?_
            refine s_val (r_move rfl) ?_
            refine g_yes rfl rfl ?_
            refine s_call (r_call Try.call15 (ec rfl (ec rfl en))) (same6_spec _ _ _ _ (punc splitL splitR xs (ns.getD i 0)) (punc splitL splitR xs (ns.getD i 0)) (by omega) _ (hNp.hrowM H (fun p hp => by simp [hp])) (hX2.hrowM H (fun p hp => by simp [hp]))) ?_
            rintro v w ⟨hv75, HC⟩
            rw [decide_eq_true rfl] at hv75
            subst hv75
            replace H := H.quiet HC
            refine g_yes rfl rfl ?_
            refine s_val (r_not rfl) ?_
            refine s_val (r_pickf rfl rfl) ?_
            refine s_val (r_move rfl) ?_
            refine g_yes rfl rfl ?_
            refine s_val (r_move rfl) ?_
            refine g_yes rfl rfl ?_
            refine s_call (r_call Try.call18 (ec rfl en)) (count_spec _ _ (punc splitL splitR xs (ns.getD i 0)) Nt2 (by omega) hvy _ hT2 (H.ownsM (((List.Sublist.cons _ (List.Sublist.cons _ (List.sublist_append_left _ _))).trans (List.sublist_append_right _ _)).trans (List.sublist_append_right _ _)))) ?_
            rintro v w ⟨rfl, HC⟩
            replace H := H.quiet HC
            refine g_yes rfl rfl ?_
            refine s_val (r_move rfl) ?_
            refine g_yes rfl rfl ?_
            refine s_call (r_call Try.call24 (ec rfl en)) (rcount_spec _ _ (punc splitL splitR xs (ns.getD i 0)) (by omega) hvy _ (hX2.hrowM H (fun p hp => by simp [hp]))) ?_
            rintro v w ⟨rfl, HC⟩
            replace H : St w0 [] _ (_ :: (Nt2 ++ Nx2)) := (H.quiet HC).sub ((List.Sublist.cons _ (List.Sublist.refl _)).trans ((List.sublist_append_right Nh _).trans (List.sublist_append_right Np _)))
            refine g_yes rfl rfl ?_
            refine s_val (r_neq rfl rfl) ?_
            refine s_val (r_pickf rfl rfl) ?_
            refine c_nil (l' := [_, _, _, _, _, _, _, _, _, _, _, _, _, _, _, _, _, _, _, _, _, _, _, _, _, _, _, _, _, _, _, _, _, _, _, _, _, _, _, _, _, _, _, _, _, _, _, _, _, _, _, _, _, _, _, _, _, _, _, _, _, _, _, _, _, _, _, _, _, _, _, _, _, _, _, _, _, _, _, _, _, _, _, _, _, _, _, _, _, _, _, _, _, _, _, _, _, _, _, _, _, _, _, _, _, _, _, _, _, _, _, _]) rfl ?_
            refine c_if rfl (fun h84 => ?_) (fun h84 => ?_)
            · skip
              exact absurd rfl h84
            · skip
              refine wp_skip ?_
              refine x_blockNormal ?_
              refine x_thenNormal ?_
              refine c_region (n := 112) ⟨rfl, rfl⟩ ?_
              refine s_val (r_move rfl) ?_
              refine s_val (r_add rfl rfl (w_i64 (by omega) (by omega))) ?_
              refine s_val (r_assign rfl) ?_
              refine c_nil0 (l' := [_, _, _, _, _, _, _, _, _, _, _, _, _, _, _, _, _, _, _, _, _, _, _, _, _, _, _, _, _, _, _, _, _, _, _, _, _, _, _, _, _, _, _, _, _, _, _, _, _, _, _, _, _, _, _, _, _, _, _, _, _, _, _, _, _, _, _, _, _, _, _, _, _, _, _, _, _, _, _, _, _, _, _, _, _, _, _, _, _, _, _, _, _, _, _, _, _, _, _, _, _, _, _, _, _, _, _, _, _, _, _, _]) rfl ?_
              exact ⟨i + 1, _, rfl, ⟨_, _, _, _, _, _, _, _, _, _, _, _, _, _, _, _, _, _, _, _, _, _, _, _, _, _, _, _, _, _, _, _, _, _, _, _, _, _, _, _, _, _, _, _, _, _, _, _, _, _, _, _, _, _, _, _, _, Nt2, Nx2, _, (punc splitL splitR xs (ns.getD i 0)), a3, cap3, rfl, by omega, by rw [hxs, tree0_punc], by simp only [List.length_cons]; omega, hT2, hX2, H⟩, by omega⟩
      · skip
        obtain rfl : i = ns.length := by omega
        refine wp_exit (x_thenExit (x_thenExit (x_blockHit ?_)))
        refine x_thenNormal ?_
        refine c_rseq (n := 112) ⟨rfl, rfl⟩ ?_
        refine s_val (r_move rfl) ?_
        refine s_val (r_move rfl) ?_
        refine s_call (r_call Try.call19 (ec rfl (ec rfl en))) (key_spec _ _ xs Nt (by omega) hvx q hq0 splitL splitR splits_little _ hT (H.ownsM (.cons _ (List.sublist_append_left _ _)))) ?_
        rintro v w ⟨k1, ok1, hK1, rfl, HC⟩
        obtain rfl := keyR_ok hK1
        replace H := H.quiet HC
        refine s_val (r_move rfl) ?_
        refine s_val (r_extract rfl rfl) ?_
        refine s_val (r_extract rfl rfl) ?_
        refine s_new (m_alloc (cs := (kC (By.zero 32))) H Try.zeroValue23 rfl) ?_
        intro w b12 H
        refine s_st (m_storen H 0 32 Try.sizeOf23 rfl rfl (by first | exact (kC_length _) | exact (hC_length _)) (by first | exact (kC_one _) | exact (hC_one _)) rfl (by first | exact (by rw [kC_length]; omega) | exact (by rw [hC_length]; omega)) (by first | exact (kC_sp _ _) | exact (hC_sp _ _))) (L' := (_ :: _ :: _)) rfl ?_
        intro w H
        refine s_val (r_assign rfl) ?_
        refine c_nil (l' := [_, _, _, _, _, _, _, _, _, _, _, _, _, _, _, _, _, _, _, _, _, _, _, _, _, _, _, _, _, _, _, _, _, _, _, _, _, _, _, _, _, _, _, _, _, _, _, _, _, _, _, _, _, _, _, _, _, _, _, _, _, _, _, _, _, _, _, _, _, _, _, _, _, _, _, _, _, _, _, _, _, _, _, _, _, _, _, _, _, _, _, _, _, _, _, _, _, _, _, _, _, _, _, _, _, _, _, _, _, _, _, _]) rfl ?_
        refine c_rseq (n := 112) ⟨rfl, rfl⟩ ?_
        refine s_val (r_move rfl) ?_
        refine s_val (r_move rfl) ?_
        refine s_call (r_call Try.call21 (ec rfl (ec rfl en))) (rkey_spec _ _ xs q (by omega) hvx hq0 hq1 _ (hX.hrowM H (fun p hp => by simp [hp]))) ?_
        rintro v w ⟨k2, ok2, hK2, rfl, HC⟩
        obtain rfl := keyR_ok hK2
        obtain rfl := keyR_uniq hvx hK1 hK2
        replace H := H.quiet HC
        refine s_val (r_move rfl) ?_
        refine s_val (r_extract rfl rfl) ?_
        refine s_val (r_extract rfl rfl) ?_
        refine s_new (m_alloc (cs := (kC (By.zero 32))) H Try.zeroValue22 rfl) ?_
        intro w b14 H
        refine s_st (m_storen H 0 32 Try.sizeOf22 rfl rfl (by first | exact (kC_length _) | exact (hC_length _)) (by first | exact (kC_one _) | exact (hC_one _)) rfl (by first | exact (by rw [kC_length]; omega) | exact (by rw [hC_length]; omega)) (by first | exact (kC_sp _ _) | exact (hC_sp _ _))) (L' := (_ :: _ :: _ :: _)) rfl ?_
        intro w H
        refine s_val (r_assign rfl) ?_
        refine c_nil (l' := [_, _, _, _, _, _, _, _, _, _, _, _, _, _, _, _, _, _, _, _, _, _, _, _, _, _, _, _, _, _, _, _, _, _, _, _, _, _, _, _, _, _, _, _, _, _, _, _, _, _, _, _, _, _, _, _, _, _, _, _, _, _, _, _, _, _, _, _, _, _, _, _, _, _, _, _, _, _, _, _, _, _, _, _, _, _, _, _, _, _, _, _, _, _, _, _, _, _, _, _, _, _, _, _, _, _, _, _, _, _, _, _]) rfl ?_
        refine c_rseq (n := 112) ⟨rfl, rfl⟩ ?_
        refine s_val (r_loadn Try.isAgg23 Try.sizeOf23 rfl (H.at 1 rfl) (by first | exact (kC_td _) | exact (hC_td _) | exact (hC_seed _)) (by first | exact (kC_length _) | exact (hC_length _) | exact rfl)) ?_
        refine s_val (r_loadn Try.isAgg22 Try.sizeOf22 rfl (H.at 0 rfl) (by first | exact (kC_td _) | exact (hC_td _) | exact (hC_seed _)) (by first | exact (kC_length _) | exact (hC_length _) | exact rfl)) ?_
        refine s_test (r_eqlK keyT23 rfl rfl) (fun h99 => ?_) (fun h99 => ?_)
        · skip
          refine s_val (r_move rfl) ?_
          refine g_yes rfl rfl ?_
          refine s_val (r_move rfl) ?_
          refine g_yes rfl rfl ?_
          refine s_val (r_move rfl) ?_
          refine g_yes rfl rfl ?_
          refine s_testb (r_eqlb Try.runUnderlying4 rfl rfl) (fun h103 => ?_) (fun h103 => ?_)
          · skip
            refine s_val (r_pickt rfl rfl) ?_
            refine s_val (r_move rfl) ?_
            refine g_yes rfl rfl ?_
            refine s_val (r_move rfl) ?_
            refine g_yes rfl rfl ?_
            refine s_val (r_move rfl) ?_
            refine g_yes rfl rfl ?_
            refine s_call (r_call Try.call23 (ec rfl (ec rfl en))) (has_spec _ _ xs Nt (by omega) hvx q hq0 _ hT (H.ownsM (.cons _ (.cons _ (.cons _ (List.sublist_append_left _ _)))))) ?_
            rintro v w ⟨rfl, HC⟩
            replace H := H.quiet HC
            refine g_yes rfl rfl ?_
            refine s_val (r_move rfl) ?_
            refine g_yes rfl rfl ?_
            refine s_val (r_eqlb Try.runUnderlying4 rfl rfl) ?_
            refine s_val (r_pickt rfl rfl) ?_
            refine s_val (r_assign rfl) ?_
            refine c_nil (l' := [_, _, _, _, _, _, _, _, _, _, _, _, _, _, _, _, _, _, _, _, _, _, _, _, _, _, _, _, _, _, _, _, _, _, _, _, _, _, _, _, _, _, _, _, _, _, _, _, _, _, _, _, _, _, _, _, _, _, _, _, _, _, _, _, _, _, _, _, _, _, _, _, _, _, _, _, _, _, _, _, _, _, _, _, _, _, _, _, _, _, _, _, _, _, _, _, _, _, _, _, _, _, _, _, _, _, _, _, _, _, _, _]) rfl ?_
            refine wp_ret ?_
            refine e_ret (res1 rfl rfl) ⟨_, rfl, ?_⟩
            exact ⟨by simp, H.sub (List.nil_sublist _)⟩
          · skip
            simp at h103
        · skip
          exact absurd rfl h99

end Go.Proofs.Ytblphhclfloodaa
