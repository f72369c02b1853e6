import Derived.Test.YtblphhclfloodaaDoorJ2
import Derived.Test.YtblphhclfloodaaDoorT8
namespace Go.Proofs.YtblphhclfloodaaDoor
open Go Go.Er

set_option maxHeartbeats 4000000 in
set_option maxRecDepth 20000 in
theorem alike_law (seed other : Key) (a : Option Addr) (cap : Nat) (ns : List Int) (hu : U64 ns) (c : Int) (hc0 : 0 ≤ c) (hc1 : c < 256) (w0 : World) (hr : URow w0 a ns) (hT : TabH w0) :
    Calls Tryd.prog 8 #[.agg (kC seed).toArray, .agg (kC other).toArray, .slice a ns.length cap, .int .u8 c] w0 fun e w => ∃ v, e = .returned v ∧ (v = .bool true ∧ St w0 [] w []) := by
  have H := St.refl w0
  refine c_enter (args := [.agg (kC seed).toArray, .agg (kC other).toArray, .slice a ns.length cap, .int .u8 c]) (l := [.agg (kC seed).toArray, .agg (kC other).toArray, .slice a ns.length cap, .int .u8 c, undef, undef, undef, undef, undef, undef, undef, undef, undef, undef, undef, undef, undef, undef, undef, undef, undef, undef, undef, undef, undef, undef, undef, undef, undef, undef, undef, undef, undef, undef, undef, undef, undef, undef, undef, undef, undef, undef, undef, undef, undef, undef, undef, undef, undef, undef, undef, undef, undef, undef, undef, undef, undef, undef, undef, undef, undef, undef, undef, undef, undef, undef, undef, undef, undef, undef, undef, undef, undef, undef, undef, undef, undef, undef, undef, undef, undef, undef, undef, undef, undef, undef, undef, undef, undef, undef, undef, undef, undef, undef, undef, undef, undef, undef, undef, undef, undef, undef, undef, undef, undef, undef, undef, undef, undef, undef, undef, undef, undef, undef, undef, undef, undef]) Tryd.func8 Tryd.ntmps8 rfl rfl ?_
  refine c_rseq (n := 117) ⟨rfl, rfl⟩ ?_
  refine s_new (m_box (cs := (kC seed)) H rfl rfl) ?_
  intro w b4 H
  refine s_new (m_box (cs := (kC other)) H rfl rfl) ?_
  intro w b5 H
  refine s_val (r_assign rfl) ?_
  refine c_nil (l' := [_, _, _, _, _, _, _, _, _, _, _, _, _, _, _, _, _, _, _, _, _, _, _, _, _, _, _, _, _, _, _, _, _, _, _, _, _, _, _, _, _, _, _, _, _, _, _, _, _, _, _, _, _, _, _, _, _, _, _, _, _, _, _, _, _, _, _, _, _, _, _, _, _, _, _, _, _, _, _, _, _, _, _, _, _, _, _, _, _, _, _, _, _, _, _, _, _, _, _, _, _, _, _, _, _, _, _, _, _, _, _, _, _, _, _, _, _]) rfl ?_
  refine c_seq ?_
  refine c_rseq (n := 117) ⟨rfl, rfl⟩ ?_
  refine s_call (r_call Tryd.call11 en) (awake_spec _ (hT.st H)) ?_
  rintro v w ⟨rfl, HC⟩
  replace H := H.quiet HC
  refine s_val (r_not rfl) ?_
  refine c_nil (l' := [_, _, _, _, _, _, _, _, _, _, _, _, _, _, _, _, _, _, _, _, _, _, _, _, _, _, _, _, _, _, _, _, _, _, _, _, _, _, _, _, _, _, _, _, _, _, _, _, _, _, _, _, _, _, _, _, _, _, _, _, _, _, _, _, _, _, _, _, _, _, _, _, _, _, _, _, _, _, _, _, _, _, _, _, _, _, _, _, _, _, _, _, _, _, _, _, _, _, _, _, _, _, _, _, _, _, _, _, _, _, _, _, _, _, _, _, _]) rfl ?_
  refine c_iff rfl ?_
  refine wp_skip ?_
  refine x_thenNormal ?_
  refine c_seq ?_
  refine c_rseq (n := 117) ⟨rfl, rfl⟩ ?_
  refine s_val (r_move rfl) ?_
  refine s_val (r_lens Tryd.runUnderlying44 (ec rfl en)) ?_
  refine s_val (r_gtr rfl rfl) ?_
  refine c_nil (l' := [_, _, _, _, _, _, _, _, _, _, _, _, _, _, _, _, _, _, _, _, _, _, _, _, _, _, _, _, _, _, _, _, _, _, _, _, _, _, _, _, _, _, _, _, _, _, _, _, _, _, _, _, _, _, _, _, _, _, _, _, _, _, _, _, _, _, _, _, _, _, _, _, _, _, _, _, _, _, _, _, _, _, _, _, _, _, _, _, _, _, _, _, _, _, _, _, _, _, _, _, _, _, _, _, _, _, _, _, _, _, _, _, _, _, _, _, _]) rfl ?_
  refine c_if rfl (fun h23 => ?_) (fun h23 => ?_)
  · skip
    skip
    refine c_rseq (n := 117) ⟨rfl, rfl⟩ ?_
    refine s_val (r_assign rfl) ?_
    refine c_nil (l' := [_, _, _, _, _, _, _, _, _, _, _, _, _, _, _, _, _, _, _, _, _, _, _, _, _, _, _, _, _, _, _, _, _, _, _, _, _, _, _, _, _, _, _, _, _, _, _, _, _, _, _, _, _, _, _, _, _, _, _, _, _, _, _, _, _, _, _, _, _, _, _, _, _, _, _, _, _, _, _, _, _, _, _, _, _, _, _, _, _, _, _, _, _, _, _, _, _, _, _, _, _, _, _, _, _, _, _, _, _, _, _, _, _, _, _, _, _]) rfl ?_
    refine wp_ret (x_thenRet ?_)
    refine e_ret (res1 rfl rfl) ⟨_, rfl, ?_⟩
    exact ⟨rfl, H.sub (List.nil_sublist _)⟩
  · skip
    skip
    refine wp_skip ?_
    refine x_thenNormal ?_
    refine c_seq ?_
    refine d_begin (sz := 117) ⟨rfl, rfl⟩ (by kernel_rfl) H (H.sub (.cons_cons _ (.cons_cons _ (List.nil_sublist _)))) rfl ?_
    intro w H
    refine d_take (i := 0) rfl (by kernel_rfl) (fun _ _ _ h => h) (H.sub (.cons_cons _ (.cons_cons _ (List.nil_sublist _)))) (fun _ _ => r_buildS Tryd.runUnderlying50 Tryd.zeroValue50 places50 pn rfl) rfl ?_
    refine d_take (i := 1) rfl (by kernel_rfl) (fun _ _ _ h => h) (H.sub (.cons_cons _ (.cons_cons _ (List.nil_sublist _)))) (fun _ _ => r_makeIface Tryd.runUnderlying50 (fun _ h => nomatch h) rfl) rfl ?_
    refine d_take (i := 2) rfl (by kernel_rfl) (fun _ _ _ h => h) (H.sub (.cons_cons _ (.cons_cons _ (List.nil_sublist _)))) (fun _ HS => r_loadn Tryd.isAgg43 Tryd.sizeOf43 rfl (HS.at 1 rfl) (by first | exact (kC_td _) | exact (hC_td _) | exact (hC_seed _)) (by first | exact (kC_length _) | exact (hC_length _) | exact rfl)) rfl ?_
    refine d_take (i := 4) rfl (by kernel_rfl) (fun _ _ _ h => h) (H.sub (.cons_cons _ (.cons_cons _ (List.nil_sublist _)))) (fun _ _ => r_buildS Tryd.runUnderlying50 Tryd.zeroValue50 places50 pn rfl) rfl ?_
    refine d_take (i := 5) rfl (by kernel_rfl) (fun _ _ _ h => h) (H.sub (.cons_cons _ (.cons_cons _ (List.nil_sublist _)))) (fun _ _ => r_makeIface Tryd.runUnderlying50 (fun _ h => nomatch h) rfl) rfl ?_
    refine d_take (i := 6) rfl (by kernel_rfl) (fun _ _ _ h => h) (H.sub (.cons_cons _ (.cons_cons _ (List.nil_sublist _)))) (fun _ HS => r_loadn Tryd.isAgg43 Tryd.sizeOf43 rfl (HS.at 1 rfl) (by first | exact (kC_td _) | exact (hC_td _) | exact (hC_seed _)) (by first | exact (kC_length _) | exact (hC_length _) | exact rfl)) rfl ?_
    refine d_take (i := 8) rfl (by kernel_rfl) (fun _ _ _ h => h) (H.sub (.cons_cons _ (.cons_cons _ (List.nil_sublist _)))) (fun _ _ => r_buildS Tryd.runUnderlying50 Tryd.zeroValue50 places50 pn rfl) rfl ?_
    refine d_take (i := 9) rfl (by kernel_rfl) (fun _ _ _ h => h) (H.sub (.cons_cons _ (.cons_cons _ (List.nil_sublist _)))) (fun _ _ => r_makeIface Tryd.runUnderlying50 (fun _ h => nomatch h) rfl) rfl ?_
    refine d_take (i := 10) rfl (by kernel_rfl) (fun _ _ _ h => h) (H.sub (.cons_cons _ (.cons_cons _ (List.nil_sublist _)))) (fun _ HS => r_loadn Tryd.isAgg43 Tryd.sizeOf43 rfl (HS.at 0 rfl) (by first | exact (kC_td _) | exact (hC_td _) | exact (hC_seed _)) (by first | exact (kC_length _) | exact (hC_length _) | exact rfl)) rfl ?_
    refine d_all1 (i := 3) (by kernel_rfl) ?_
    refine b_call rfl go_none (r_call Tryd.call18 (ec rfl (ec rfl en))) (new_spec _ _ litL litR (splits_lit _) _) rfl ?_
    rintro v w ⟨ba, Na, rfl, hTa0, HC⟩
    obtain ⟨ca, hca, hTa⟩ : ∃ ci, SplitsBy Tryd.prog ci litL litR ∧ TreeN 77 55 ba ci [root seed] Na := ⟨_, splits_lit _, hTa0⟩
    replace H : St w0 [] _ (_ :: _ :: Na) := (H.call0 HC).perm (List.perm_append_comm (l₁ := [_, _]))
    refine ⟨(H.sub (.cons_cons _ (.cons_cons _ (List.nil_sublist _)))), ?_⟩
    refine d_all1 (i := 7) (by kernel_rfl) ?_
    refine b_call rfl go_none (r_call Tryd.call18 (ec rfl (ec rfl en))) (new_spec _ _ litL litR (splits_lit _) _) rfl ?_
    rintro v w ⟨bb, Nb, rfl, hTb0, HC⟩
    obtain ⟨cb, hcb, hTb⟩ : ∃ ci, SplitsBy Tryd.prog ci litL litR ∧ TreeN 77 55 bb ci [root seed] Nb := ⟨_, splits_lit _, hTb0⟩
    replace H : St w0 [] _ (_ :: _ :: (Na ++ Nb)) := (H.call0 HC).perm (List.perm_append_comm (l₁ := _ :: _ :: Na))
    refine ⟨(H.sub (.cons_cons _ (.cons_cons _ (List.nil_sublist _)))), ?_⟩
    refine d_all1 (i := 11) (by kernel_rfl) ?_
    refine b_call rfl go_none (r_call Tryd.call18 (ec rfl (ec rfl en))) (new_spec _ _ litL litR (splits_lit _) _) rfl ?_
    rintro v w ⟨bc, Nc, rfl, hTc0, HC⟩
    obtain ⟨cc, hcc, hTc⟩ : ∃ ci, SplitsBy Tryd.prog ci litL litR ∧ TreeN 77 55 bc ci [root other] Nc := ⟨_, splits_lit _, hTc0⟩
    replace H := (H.call0 HC).perm (List.perm_append_comm (l₁ := _ :: _ :: (Na ++ Nb)))
    simp only [List.cons_append, List.append_assoc] at H
    refine ⟨(H.sub (.cons_cons _ (.cons_cons _ (List.nil_sublist _)))), ?_⟩
    refine d_take (i := 12) rfl (by kernel_rfl) (fun _ _ _ h => h) (H.sub (.cons_cons _ (.cons_cons _ (List.nil_sublist _)))) (fun _ _ => r_assign rfl) rfl ?_
    refine d_take (i := 13) rfl (by kernel_rfl) (fun _ _ _ h => h) (H.sub (.cons_cons _ (.cons_cons _ (List.nil_sublist _)))) (fun _ _ => r_assign rfl) rfl ?_
    refine d_take (i := 14) rfl (by kernel_rfl) (fun _ _ _ h => h) (H.sub (.cons_cons _ (.cons_cons _ (List.nil_sublist _)))) (fun _ _ => r_assign rfl) rfl ?_
    refine d_done (l' := [_, _, _, _, _, _, _, _, _, _, _, _, _, _, _, _, _, _, _, _, _, _, _, _, _, _, _, _, _, _, _, _, _, _, _, _, _, _, _, _, _, _, _, _, _, _, _, _, _, _, _, _, _, _, _, _, _, _, _, _, _, _, _, _, _, _, _, _, _, _, _, _, _, _, _, _, _, _, _, _, _, _, _, _, _, _, _, _, _, _, _, _, _, _, _, _, _, _, _, _, _, _, _, _, _, _, _, _, _, _, _, _, _, _, _, _, _]) (by kernel_rfl) rfl ?_
    refine x_thenNormal ?_
    refine c_seq ?_
    refine c_rseq (n := 117) ⟨rfl, rfl⟩ ?_
    refine s_val (r_move rfl) ?_
    refine s_val (r_lens Tryd.runUnderlying44 (ec rfl en)) ?_
    refine s_val (r_move rfl) ?_
    refine c_nil (l' := [_, _, _, _, _, _, _, _, _, _, _, _, _, _, _, _, _, _, _, _, _, _, _, _, _, _, _, _, _, _, _, _, _, _, _, _, _, _, _, _, _, _, _, _, _, _, _, _, _, _, _, _, _, _, _, _, _, _, _, _, _, _, _, _, _, _, _, _, _, _, _, _, _, _, _, _, _, _, _, _, _, _, _, _, _, _, _, _, _, _, _, _, _, _, _, _, _, _, _, _, _, _, _, _, _, _, _, _, _, _, _, _, _, _, _, _, _]) rfl ?_
    refine wp_block ?_
    refine c_loop (fun (l0 : List Value) (i : Nat) (l : List Value) (w : World) => ∃ (u12 u39 u40 u41 u42 u43 u44 u45 u46 u47 u48 u49 u50 u51 u52 u53 u54 u55 u56 u57 u58 u59 u60 u61 u62 u63 u64 u65 u66 u67 u68 : Value) (Na Nb Nc : List (Nat × Obj)) (la lb : List Int) (xs ys zs : List Held), l = ovr l0 [N_, N_, N_, N_, N_, N_, N_, N_, N_, N_, N_, N_, Y_ u12, N_, N_, N_, N_, N_, N_, N_, N_, N_, N_, N_, N_, N_, N_, N_, N_, N_, N_, N_, N_, N_, N_, N_, N_, N_, Y_ (.int .i64 i), Y_ u39, Y_ u40, Y_ u41, Y_ u42, Y_ u43, Y_ u44, Y_ u45, Y_ u46, Y_ u47, Y_ u48, Y_ u49, Y_ u50, Y_ u51, Y_ u52, Y_ u53, Y_ u54, Y_ u55, Y_ u56, Y_ u57, Y_ u58, Y_ u59, Y_ u60, Y_ u61, Y_ u62, Y_ u63, Y_ u64, Y_ u65, Y_ u66, Y_ u67, Y_ u68] ∧ i ≤ ns.length ∧ xs = tree0 litL litR seed la ∧ ys = tree0 litL litR seed lb ∧ zs = tree0 litL litR other la ∧ TreeN 77 55 ba ca xs Na ∧ TreeN 77 55 bb cb ys Nb ∧ TreeN 77 55 bc cc zs Nc ∧ xs.length ≤ 1 + 17 * i ∧ ys.length ≤ 1 + 17 * i ∧ zs.length ≤ 1 + 17 * i ∧ (∀ n, n ∈ la ↔ n ∈ (leaves ns).take i) ∧ (∀ n ∈ lb, n ∈ (leaves ns)) ∧ (∀ j : Nat, j < i → ∀ k : Nat, k < (leaves ns).length → (k : Int) = ((j : Int) + c) % ((leaves ns).length : Int) → (leaves ns).getD k 0 ∈ lb) ∧ St w0 [] w (Na ++ (Nb ++ Nc))) (fun (i : Nat) => ns.length - i) 0 ⟨_, _, _, _, _, _, _, _, _, _, _, _, _, _, _, _, _, _, _, _, _, _, _, _, _, _, _, _, _, _, _, Na, Nb, Nc, [], [], [root seed], [root seed], [root other], rfl, by omega, tree0_nil.symm, tree0_nil.symm, tree0_nil.symm, hTa, hTb, hTc, by show 1 ≤ _; omega, by show 1 ≤ _; omega, by show 1 ≤ _; omega, by simp, (fun _ h => nomatch h), (fun _ h => nomatch h), (H.sub (.cons _ (.cons _ (List.Sublist.refl _))))⟩ ?_
    intro i l w ⟨u12, u39, u40, u41, u42, u43, u44, u45, u46, u47, u48, u49, u50, u51, u52, u53, u54, u55, u56, u57, u58, u59, u60, u61, u62, u63, u64, u65, u66, u67, u68, Na, Nb, Nc, la, lb, xs, ys, zs, hl, hi, hxs, hys, hzs, hTa, hTb, hTc, hlx, hly, hlz, hla, hlb, hlc, H⟩
    obtain rfl := hl.trans (rfl : _ = [_, _, _, _, _, _, _, _, _, _, _, _, _, _, _, _, _, _, _, _, _, _, _, _, _, _, _, _, _, _, _, _, _, _, _, _, _, _, _, _, _, _, _, _, _, _, _, _, _, _, _, _, _, _, _, _, _, _, _, _, _, _, _, _, _, _, _, _, _, _, _, _, _, _, _, _, _, _, _, _, _, _, _, _, _, _, _, _, _, _, _, _, _, _, _, _, _, _, _, _, _, _, _, _, _, _, _, _, _, _, _, _, _, _, _, _, _])
    clear hl
    have hva : Valid xs := by rw [hxs]; exact tree0_valid la
    have hvb : Valid ys := by rw [hys]; exact tree0_valid lb
    have hvc : Valid zs := by rw [hzs]; exact tree0_valid la
    have hlv := leaves_length ns
    refine c_rseq (n := 117) ⟨rfl, rfl⟩ ?_
    refine s_val (r_lss rfl rfl) ?_
    refine c_nil (l' := [_, _, _, _, _, _, _, _, _, _, _, _, _, _, _, _, _, _, _, _, _, _, _, _, _, _, _, _, _, _, _, _, _, _, _, _, _, _, _, _, _, _, _, _, _, _, _, _, _, _, _, _, _, _, _, _, _, _, _, _, _, _, _, _, _, _, _, _, _, _, _, _, _, _, _, _, _, _, _, _, _, _, _, _, _, _, _, _, _, _, _, _, _, _, _, _, _, _, _, _, _, _, _, _, _, _, _, _, _, _, _, _, _, _, _, _, _]) rfl ?_
    refine c_seq ?_
    refine c_if rfl (fun h39 => ?_) (fun h39 => ?_)
    · skip
      obtain ⟨bu, off, pre, post, T, fz, rfl, hbu, hpu⟩ := hr (by omega)
      obtain ⟨hn0, hn1⟩ := hu.get (i := i) (by omega)
      have hpx := len_tree (sl := litL) (sr := litR) (n := (ns.getD i 0 % 131072)) hva
      have hpz := len_tree (sl := litL) (sr := litR) (n := (ns.getD i 0 % 131072)) hvc
      refine wp_skip ?_
      refine x_thenNormal ?_
      refine c_seq ?_
      refine wp_block ?_
      refine c_rseq (n := 117) ⟨rfl, rfl⟩ ?_
      refine s_val (r_move rfl) ?_
      refine s_val (r_assign rfl) ?_
      refine c_nil (l' := [_, _, _, _, _, _, _, _, _, _, _, _, _, _, _, _, _, _, _, _, _, _, _, _, _, _, _, _, _, _, _, _, _, _, _, _, _, _, _, _, _, _, _, _, _, _, _, _, _, _, _, _, _, _, _, _, _, _, _, _, _, _, _, _, _, _, _, _, _, _, _, _, _, _, _, _, _, _, _, _, _, _, _, _, _, _, _, _, _, _, _, _, _, _, _, _, _, _, _, _, _, _, _, _, _, _, _, _, _, _, _, _, _, _, _, _, _]) rfl ?_
      refine c_rseq (n := 117) ⟨rfl, rfl⟩ ?_
      refine s_val (r_move rfl) ?_
      refine s_val (r_move rfl) ?_
      refine s_val (r_move rfl) ?_
      refine s_val (r_indexAddrS Tryd.runUnderlying44 Tryd.sizeOf38 rfl rfl (by omega) (by omega)) ?_
      refine s_val (r_load1 Tryd.isAgg38 rfl (H.rd0 hbu) (u_get pre ns post i hpu (by omega) (by omega))) ?_
      refine s_val (r_rem rfl rfl (by omega) (Int.tmod_eq_emod_of_nonneg (by omega))) ?_
      refine s_call (r_call Tryd.call19 (ec rfl (ec rfl en))) (punc_t _ _ xs (ns.getD i 0 % 131072) Na litL litR hca (by omega) hva (by omega) (by omega) _ hTa (H.ownsM (List.sublist_append_left _ _))) ?_
      rintro v w ⟨rfl, Na2, hTa2, HC⟩
      replace H := H.tr1 HC
      refine c_nil (l' := [_, _, _, _, _, _, _, _, _, _, _, _, _, _, _, _, _, _, _, _, _, _, _, _, _, _, _, _, _, _, _, _, _, _, _, _, _, _, _, _, _, _, _, _, _, _, _, _, _, _, _, _, _, _, _, _, _, _, _, _, _, _, _, _, _, _, _, _, _, _, _, _, _, _, _, _, _, _, _, _, _, _, _, _, _, _, _, _, _, _, _, _, _, _, _, _, _, _, _, _, _, _, _, _, _, _, _, _, _, _, _, _, _, _, _, _, _]) rfl ?_
      refine c_rseq (n := 117) ⟨rfl, rfl⟩ ?_
      refine s_val (r_move rfl) ?_
      refine s_val (r_move rfl) ?_
      refine s_val (r_move rfl) ?_
      refine s_val (r_move rfl) ?_
      refine s_val (r_conv Tryd.runUnderlying5 Tryd.runUnderlying3 rfl (w_i64 (by omega) (by omega))) ?_
      refine s_val (r_add rfl rfl (w_i64 (by omega) (by omega))) ?_
      refine s_val (r_move rfl) ?_
      refine s_val (r_lens Tryd.runUnderlying44 (ec rfl en)) ?_
      obtain ⟨k, hk⟩ : ∃ k : Nat, (k : Int) = ((i : Int) + c) % (ns.length : Int) := ⟨_, Int.toNat_of_nonneg (Int.emod_nonneg _ (by omega))⟩
      have hkl : k < ns.length := by have := Int.emod_lt_of_pos ((i : Int) + c) (by omega : (0 : Int) < (ns.length : Int)); omega
      obtain ⟨hk0, hk1⟩ := hu.get (i := k) (by omega)
      have hpy := len_tree (sl := litL) (sr := litR) (n := (ns.getD k 0 % 131072)) hvb
      refine s_val (r_rem rfl rfl (by omega) ((Int.tmod_eq_emod_of_nonneg (by omega)).trans hk.symm)) ?_
      refine s_val (r_indexAddrS Tryd.runUnderlying44 Tryd.sizeOf38 rfl rfl (by omega) (by omega)) ?_
      refine s_val (r_load1 Tryd.isAgg38 rfl (H.rd0 hbu) (u_get pre ns post k hpu (by omega) (by omega))) ?_
      refine s_val (r_rem rfl rfl (by omega) (Int.tmod_eq_emod_of_nonneg (by omega))) ?_
      refine s_call (r_call Tryd.call19 (ec rfl (ec rfl en))) (punc_t _ _ ys (ns.getD k 0 % 131072) Nb litL litR hcb (by omega) hvb (by omega) (by omega) _ hTb (H.ownsM ((List.sublist_append_left _ _).trans (List.sublist_append_right _ _)))) ?_
      rintro v w ⟨rfl, Nb2, hTb2, HC⟩
      replace H := H.tr2 HC
      refine c_nil (l' := [_, _, _, _, _, _, _, _, _, _, _, _, _, _, _, _, _, _, _, _, _, _, _, _, _, _, _, _, _, _, _, _, _, _, _, _, _, _, _, _, _, _, _, _, _, _, _, _, _, _, _, _, _, _, _, _, _, _, _, _, _, _, _, _, _, _, _, _, _, _, _, _, _, _, _, _, _, _, _, _, _, _, _, _, _, _, _, _, _, _, _, _, _, _, _, _, _, _, _, _, _, _, _, _, _, _, _, _, _, _, _, _, _, _, _, _, _]) rfl ?_
      refine c_region (n := 117) ⟨rfl, rfl⟩ ?_
      refine s_val (r_move rfl) ?_
      refine s_val (r_move rfl) ?_
      refine s_val (r_move rfl) ?_
      refine s_val (r_indexAddrS Tryd.runUnderlying44 Tryd.sizeOf38 rfl rfl (by omega) (by omega)) ?_
      refine s_val (r_load1 Tryd.isAgg38 rfl (H.rd0 hbu) (u_get pre ns post i hpu (by omega) (by omega))) ?_
      refine s_val (r_rem rfl rfl (by omega) (Int.tmod_eq_emod_of_nonneg (by omega))) ?_
      refine s_call (r_call Tryd.call19 (ec rfl (ec rfl en))) (punc_t _ _ zs (ns.getD i 0 % 131072) Nc litL litR hcc (by omega) hvc (by omega) (by omega) _ hTc (H.ownsM ((List.sublist_append_right _ _).trans (List.sublist_append_right _ _)))) ?_
      rintro v w ⟨rfl, Nc2, hTc2, HC⟩
      replace H := H.tr3 HC
      refine c_nil0 (l' := [_, _, _, _, _, _, _, _, _, _, _, _, _, _, _, _, _, _, _, _, _, _, _, _, _, _, _, _, _, _, _, _, _, _, _, _, _, _, _, _, _, _, _, _, _, _, _, _, _, _, _, _, _, _, _, _, _, _, _, _, _, _, _, _, _, _, _, _, _, _, _, _, _, _, _, _, _, _, _, _, _, _, _, _, _, _, _, _, _, _, _, _, _, _, _, _, _, _, _, _, _, _, _, _, _, _, _, _, _, _, _, _, _, _, _, _, _]) rfl ?_
      refine x_blockNormal ?_
      refine x_thenNormal ?_
      refine c_region (n := 117) ⟨rfl, rfl⟩ ?_
      refine s_val (r_add rfl rfl (w_i64 (by omega) (by omega))) ?_
      refine s_val (r_move rfl) ?_
      refine c_nil0 (l' := [_, _, _, _, _, _, _, _, _, _, _, _, _, _, _, _, _, _, _, _, _, _, _, _, _, _, _, _, _, _, _, _, _, _, _, _, _, _, _, _, _, _, _, _, _, _, _, _, _, _, _, _, _, _, _, _, _, _, _, _, _, _, _, _, _, _, _, _, _, _, _, _, _, _, _, _, _, _, _, _, _, _, _, _, _, _, _, _, _, _, _, _, _, _, _, _, _, _, _, _, _, _, _, _, _, _, _, _, _, _, _, _, _, _, _, _, _]) rfl ?_
      exact ⟨i + 1, _, rfl, ⟨_, _, _, _, _, _, _, _, _, _, _, _, _, _, _, _, _, _, _, _, _, _, _, _, _, _, _, _, _, _, _, Na2, Nb2, Nc2, _, _, (punc litL litR xs (ns.getD i 0 % 131072)), (punc litL litR ys (ns.getD k 0 % 131072)), (punc litL litR zs (ns.getD i 0 % 131072)), rfl, by omega, by rw [hxs, tree0_punc], by rw [hys, tree0_punc], by rw [hzs, tree0_punc], hTa2, hTb2, hTc2, by omega, by omega, by omega, (ord_a8 (by omega) (leaves_get ns i) hla), (ord_b8 hlb (by omega) (leaves_get ns k)), (ord_c8 hlc (by rw [hlv]; exact hk) (leaves_get ns k)), H⟩, by omega⟩
    · skip
      obtain rfl : i = ns.length := by omega
      rw [← hlv, List.take_length] at hla
      rw [← hlv] at hlc
      obtain rfl : xs = ys := by rw [hxs, hys]; exact ord_eq8 hla hlb hlc
      refine wp_exit (x_thenExit (x_thenExit (x_blockHit ?_)))
      refine x_thenNormal ?_
      refine c_rseq (n := 117) ⟨rfl, rfl⟩ ?_
      refine s_val (r_move rfl) ?_
      refine s_call (r_call Tryd.call20 (ec rfl en)) (held_spec _ _ xs Na (by omega) hva _ hTa (H.ownsM (List.sublist_append_left _ _))) ?_
      rintro v w ⟨ah1, ch1, Nh1, rfl, hNh1, HC⟩
      replace H := H.call0 HC
      refine s_call (r_call Tryd.call12 (ec rfl en)) (enc_ok _ _ xs (by omega) hva.inR _ (hNh1.hrowM H (fun p hp => List.mem_append_left _ hp)) (hT.st (H.sub (List.nil_sublist _))) hva) ?_
      rintro v w ⟨ae1, ce1, Ne1, rfl, hNe1, HC⟩
      replace H : St w0 [] _ (Ne1 ++ (Na ++ (Nb ++ Nc))) := (H.call0 HC).sub (List.Sublist.append (List.Sublist.refl Ne1) (List.sublist_append_right Nh1 _))
      refine s_val (r_move rfl) ?_
      refine s_val (r_extract rfl rfl) ?_
      refine s_val (r_extract rfl rfl) ?_
      refine s_val (r_assign rfl) ?_
      refine s_val (r_assign rfl) ?_
      refine c_nil (l' := [_, _, _, _, _, _, _, _, _, _, _, _, _, _, _, _, _, _, _, _, _, _, _, _, _, _, _, _, _, _, _, _, _, _, _, _, _, _, _, _, _, _, _, _, _, _, _, _, _, _, _, _, _, _, _, _, _, _, _, _, _, _, _, _, _, _, _, _, _, _, _, _, _, _, _, _, _, _, _, _, _, _, _, _, _, _, _, _, _, _, _, _, _, _, _, _, _, _, _, _, _, _, _, _, _, _, _, _, _, _, _, _, _, _, _, _, _]) rfl ?_
      refine c_rseq (n := 117) ⟨rfl, rfl⟩ ?_
      refine s_val (r_move rfl) ?_
      refine s_call (r_call Tryd.call20 (ec rfl en)) (held_spec _ _ xs Nb (by omega) hva _ hTb (H.ownsM (((List.sublist_append_left _ _).trans (List.sublist_append_right _ _)).trans (List.sublist_append_right _ _)))) ?_
      rintro v w ⟨ah2, ch2, Nh2, rfl, hNh2, HC⟩
      replace H := H.call0 HC
      refine s_call (r_call Tryd.call12 (ec rfl en)) (enc_ok _ _ xs (by omega) hva.inR _ (hNh2.hrowM H (fun p hp => List.mem_append_left _ hp)) (hT.st (H.sub (List.nil_sublist _))) hva) ?_
      rintro v w ⟨ae2, ce2, Ne2, rfl, hNe2, HC⟩
      replace H : St w0 [] _ (Ne2 ++ (Ne1 ++ (Na ++ (Nb ++ Nc)))) := (H.call0 HC).sub (List.Sublist.append (List.Sublist.refl Ne2) (List.sublist_append_right Nh2 _))
      refine s_val (r_move rfl) ?_
      refine s_val (r_extract rfl rfl) ?_
      refine s_val (r_extract rfl rfl) ?_
      refine s_val (r_assign rfl) ?_
      refine s_val (r_assign rfl) ?_
      refine c_nil (l' := [_, _, _, _, _, _, _, _, _, _, _, _, _, _, _, _, _, _, _, _, _, _, _, _, _, _, _, _, _, _, _, _, _, _, _, _, _, _, _, _, _, _, _, _, _, _, _, _, _, _, _, _, _, _, _, _, _, _, _, _, _, _, _, _, _, _, _, _, _, _, _, _, _, _, _, _, _, _, _, _, _, _, _, _, _, _, _, _, _, _, _, _, _, _, _, _, _, _, _, _, _, _, _, _, _, _, _, _, _, _, _, _, _, _, _, _, _]) rfl ?_
      refine c_rseq (n := 117) ⟨rfl, rfl⟩ ?_
      refine s_val (r_move rfl) ?_
      refine s_call (r_call Tryd.call20 (ec rfl en)) (held_spec _ _ zs Nc (by omega) hvc _ hTc (H.ownsM ((((List.sublist_append_right _ _).trans (List.sublist_append_right _ _)).trans (List.sublist_append_right _ _)).trans (List.sublist_append_right _ _)))) ?_
      rintro v w ⟨ah3, ch3, Nh3, rfl, hNh3, HC⟩
      replace H := H.call0 HC
      refine s_call (r_call Tryd.call12 (ec rfl en)) (enc_ok _ _ zs (by omega) hvc.inR _ (hNh3.hrowM H (fun p hp => List.mem_append_left _ hp)) (hT.st (H.sub (List.nil_sublist _))) hvc) ?_
      rintro v w ⟨ae3, ce3, Ne3, rfl, hNe3, HC⟩
      replace H : St w0 [] _ (Ne3 ++ (Ne2 ++ (Ne1 ++ (Na ++ (Nb ++ Nc))))) := (H.call0 HC).sub (List.Sublist.append (List.Sublist.refl Ne3) (List.sublist_append_right Nh3 _))
      replace H : St w0 [] w ((Ne3 ++ (Ne2 ++ Ne1)) ++ (Na ++ (Nb ++ Nc))) := by simpa only [List.append_assoc] using H
      refine s_val (r_move rfl) ?_
      refine s_val (r_extract rfl rfl) ?_
      refine s_val (r_extract rfl rfl) ?_
      refine s_val (r_assign rfl) ?_
      refine s_val (r_assign rfl) ?_
      refine c_nil (l' := [_, _, _, _, _, _, _, _, _, _, _, _, _, _, _, _, _, _, _, _, _, _, _, _, _, _, _, _, _, _, _, _, _, _, _, _, _, _, _, _, _, _, _, _, _, _, _, _, _, _, _, _, _, _, _, _, _, _, _, _, _, _, _, _, _, _, _, _, _, _, _, _, _, _, _, _, _, _, _, _, _, _, _, _, _, _, _, _, _, _, _, _, _, _, _, _, _, _, _, _, _, _, _, _, _, _, _, _, _, _, _, _, _, _, _, _, _]) rfl ?_
      refine c_seq ?_
      refine d_begin (sz := 117) ⟨rfl, rfl⟩ (by kernel_rfl) H (H.sub (List.sublist_append_left (Ne3 ++ (Ne2 ++ Ne1)) _)) rfl ?_
      intro w H
      refine d_take (i := 0) rfl (by kernel_rfl) (fun _ _ _ h => h) (H.sub (List.sublist_append_left (Ne3 ++ (Ne2 ++ Ne1)) _)) (fun _ _ => r_move rfl) rfl ?_
      refine d_take (i := 1) rfl (by kernel_rfl) (fun _ _ _ h => h) (H.sub (List.sublist_append_left (Ne3 ++ (Ne2 ++ Ne1)) _)) (fun _ _ => r_eql rfl rfl) rfl ?_
      refine d_take (i := 2) rfl (by kernel_rfl) (fun _ _ _ h => h) (H.sub (List.sublist_append_left (Ne3 ++ (Ne2 ++ Ne1)) _)) (fun _ _ => r_move rfl) rfl ?_
      refine d_takeG (i := 3) rfl (by kernel_rfl) (fun _ _ _ h => h) rfl rfl (H.sub (List.sublist_append_left (Ne3 ++ (Ne2 ++ Ne1)) _)) (fun _ _ => r_move rfl) rfl ?_
      refine d_takeG (i := 4) rfl (by kernel_rfl) (fun _ _ _ h => h) rfl rfl (H.sub (List.sublist_append_left (Ne3 ++ (Ne2 ++ Ne1)) _)) (fun _ _ => r_eql rfl rfl) rfl ?_
      refine d_take (i := 5) rfl (by kernel_rfl) (fun _ _ _ h => h) (H.sub (List.sublist_append_left (Ne3 ++ (Ne2 ++ Ne1)) _)) (fun _ _ => r_pickt rfl rfl) rfl ?_
      refine d_take (i := 6) rfl (by kernel_rfl) (fun _ _ _ h => h) (H.sub (List.sublist_append_left (Ne3 ++ (Ne2 ++ Ne1)) _)) (fun _ _ => r_move rfl) rfl ?_
      refine d_takeG (i := 7) rfl (by kernel_rfl) (fun _ _ _ h => h) rfl rfl (H.sub (List.sublist_append_left (Ne3 ++ (Ne2 ++ Ne1)) _)) (fun _ _ => r_move rfl) rfl ?_
      refine d_takeG (i := 8) rfl (by kernel_rfl) (fun _ _ _ h => h) rfl rfl (H.sub (List.sublist_append_left (Ne3 ++ (Ne2 ++ Ne1)) _)) (fun _ _ => r_eql rfl rfl) rfl ?_
      refine d_take (i := 9) rfl (by kernel_rfl) (fun _ _ _ h => h) (H.sub (List.sublist_append_left (Ne3 ++ (Ne2 ++ Ne1)) _)) (fun _ _ => r_pickt rfl rfl) rfl ?_
      refine d_take (i := 10) rfl (by kernel_rfl) (fun _ _ _ h => h) (H.sub (List.sublist_append_left (Ne3 ++ (Ne2 ++ Ne1)) _)) (fun _ _ => r_move rfl) rfl ?_
      refine d_takeG (i := 11) rfl (by kernel_rfl) (fun _ _ _ h => h) rfl rfl (H.sub (List.sublist_append_left (Ne3 ++ (Ne2 ++ Ne1)) _)) (fun _ _ => r_move rfl) rfl ?_
      refine d_takeG (i := 12) rfl (by kernel_rfl) (fun _ _ _ h => h) rfl rfl (H.sub (List.sublist_append_left (Ne3 ++ (Ne2 ++ Ne1)) _)) (fun _ HS => r_textR Tryd.runUnderlying24 Tryd.runUnderlying9 Tryd.runUnderlying5 rfl (by rw [encB_length]; omega) (hNe1.browM HS (fun p hp => by simp [hp]))) rfl ?_
      refine d_takeG (i := 13) rfl (by kernel_rfl) (fun _ _ _ h => h) rfl rfl (H.sub (List.sublist_append_left (Ne3 ++ (Ne2 ++ Ne1)) _)) (fun _ _ => r_move rfl) rfl ?_
      refine d_takeG (i := 14) rfl (by kernel_rfl) (fun _ _ _ h => h) rfl rfl (H.sub (List.sublist_append_left (Ne3 ++ (Ne2 ++ Ne1)) _)) (fun _ HS => r_textR Tryd.runUnderlying24 Tryd.runUnderlying9 Tryd.runUnderlying5 rfl (by rw [encB_length]; omega) (hNe2.browM HS (fun p hp => by simp [hp]))) rfl ?_
      refine d_takeG (i := 15) rfl (by kernel_rfl) (fun _ _ _ h => h) rfl rfl (H.sub (List.sublist_append_left (Ne3 ++ (Ne2 ++ Ne1)) _)) (fun _ _ => r_eqlTy rfl rfl) rfl ?_
      refine d_take (i := 16) rfl (by kernel_rfl) (fun _ _ _ h => h) (H.sub (List.sublist_append_left (Ne3 ++ (Ne2 ++ Ne1)) _)) (fun _ _ => r_pickt rfl rfl) rfl ?_
      refine d_take (i := 17) rfl (by kernel_rfl) (fun _ _ _ h => h) (H.sub (List.sublist_append_left (Ne3 ++ (Ne2 ++ Ne1)) _)) (fun _ _ => r_move rfl) rfl ?_
      refine d_takeG (i := 18) rfl (by kernel_rfl) (fun _ _ _ h => h) rfl rfl (H.sub (List.sublist_append_left (Ne3 ++ (Ne2 ++ Ne1)) _)) (fun _ _ => r_move rfl) rfl ?_
      refine d_takeG (i := 19) rfl (by kernel_rfl) (fun _ _ _ h => h) rfl rfl (H.sub (List.sublist_append_left (Ne3 ++ (Ne2 ++ Ne1)) _)) (fun _ HS => r_textR Tryd.runUnderlying24 Tryd.runUnderlying9 Tryd.runUnderlying5 rfl (by rw [encB_length]; omega) (hNe1.browM HS (fun p hp => by simp [hp]))) rfl ?_
      refine d_takeG (i := 20) rfl (by kernel_rfl) (fun _ _ _ h => h) rfl rfl (H.sub (List.sublist_append_left (Ne3 ++ (Ne2 ++ Ne1)) _)) (fun _ _ => r_move rfl) rfl ?_
      refine d_takeG (i := 21) rfl (by kernel_rfl) (fun _ _ _ h => h) rfl rfl (H.sub (List.sublist_append_left (Ne3 ++ (Ne2 ++ Ne1)) _)) (fun _ HS => r_textR Tryd.runUnderlying24 Tryd.runUnderlying9 Tryd.runUnderlying5 rfl (by rw [encB_length]; omega) (hNe3.browM HS (fun p hp => by simp [hp]))) rfl ?_
      refine d_takeG (i := 22) rfl (by kernel_rfl) (fun _ _ _ h => h) rfl rfl (H.sub (List.sublist_append_left (Ne3 ++ (Ne2 ++ Ne1)) _)) (fun _ _ => r_eqlT rfl rfl) rfl ?_
      refine d_takeG (i := 23) rfl (by kernel_rfl) (fun _ _ _ h => h) rfl rfl (H.sub (List.sublist_append_left (Ne3 ++ (Ne2 ++ Ne1)) _)) (fun _ _ => r_move rfl) rfl ?_
      refine d_takeG (i := 25) rfl (by kernel_rfl) (fun _ _ _ h => h) rfl rfl (H.sub (List.sublist_append_left (Ne3 ++ (Ne2 ++ Ne1)) _)) (fun _ _ => r_move rfl) rfl ?_
      refine d_all1 (i := 24) (by kernel_rfl) ?_
      refine b_call rfl (go_some rfl rfl) (r_call Tryd.call20 (ec rfl en)) (held_spec _ _ xs Na (by omega) hva _ hTa (H.ownsM ((List.sublist_append_left _ _).trans (List.sublist_append_right _ _)))) rfl ?_
      rintro v w ⟨ah4, ch4, Nh4, rfl, hNh4, HC⟩
      replace H : St w0 [] _ ((Ne3 ++ (Ne2 ++ Ne1)) ++ (Nh4 ++ (Na ++ (Nb ++ Nc)))) := (H.call0 HC).perm (List.perm_append_comm_assoc _ _ _)
      refine ⟨(H.sub (List.sublist_append_left (Ne3 ++ (Ne2 ++ Ne1)) _)), ?_⟩
      refine d_all1 (i := 26) (by kernel_rfl) ?_
      refine b_call rfl (go_some rfl rfl) (r_call Tryd.call20 (ec rfl en)) (held_spec _ _ zs Nc (by omega) hvc _ hTc (H.ownsM ((((List.sublist_append_right _ _).trans (List.sublist_append_right _ _)).trans (List.sublist_append_right _ _)).trans (List.sublist_append_right _ _)))) rfl ?_
      rintro v w ⟨ah5, ch5, Nh5, rfl, hNh5, HC⟩
      replace H : St w0 [] _ ((Ne3 ++ (Ne2 ++ Ne1)) ++ (Nh5 ++ (Nh4 ++ (Na ++ (Nb ++ Nc))))) := (H.call0 HC).perm (List.perm_append_comm_assoc _ _ _)
      refine ⟨(H.sub (List.sublist_append_left (Ne3 ++ (Ne2 ++ Ne1)) _)), ?_⟩
      refine d_all1 (i := 27) (by kernel_rfl) ?_
      refine b_call rfl (go_some rfl rfl) (r_call Tryd.call15 (ec rfl (ec rfl en))) (same_spec _ _ _ _ xs zs (by omega) _ (hNh4.hrowM H (fun p hp => by simp [hp])) (hNh5.hrowM H (fun p hp => by simp [hp]))) rfl ?_
      rintro v w ⟨rfl, HC⟩
      replace H := H.quiet HC
      refine ⟨(H.sub (List.sublist_append_left (Ne3 ++ (Ne2 ++ Ne1)) _)), ?_⟩
      refine d_takeG (i := 28) rfl (by kernel_rfl) (fun _ _ _ h => h) rfl rfl (H.sub (List.sublist_append_left (Ne3 ++ (Ne2 ++ Ne1)) _)) (fun _ _ => r_eqlb Tryd.runUnderlying4 rfl rfl) rfl ?_
      refine d_take (i := 29) rfl (by kernel_rfl) (fun _ _ _ h => h) (H.sub (List.sublist_append_left (Ne3 ++ (Ne2 ++ Ne1)) _)) (fun _ _ => r_pickt rfl rfl) rfl ?_
      refine d_take (i := 30) rfl (by kernel_rfl) (fun _ _ _ h => h) (H.sub (List.sublist_append_left (Ne3 ++ (Ne2 ++ Ne1)) _)) (fun _ _ => r_assign rfl) rfl ?_
      refine d_done (l' := [_, _, _, _, _, _, _, _, _, _, _, _, _, _, _, _, _, _, _, _, _, _, _, _, _, _, _, _, _, _, _, _, _, _, _, _, _, _, _, _, _, _, _, _, _, _, _, _, _, _, _, _, _, _, _, _, _, _, _, _, _, _, _, _, _, _, _, _, _, _, _, _, _, _, _, _, _, _, _, _, _, _, _, _, _, _, _, _, _, _, _, _, _, _, _, _, _, _, _, _, _, _, _, _, _, _, _, _, _, _, _, _, _, _, _, _, _]) (by kernel_rfl) rfl ?_
      refine x_thenNormal ?_
      refine wp_ret ?_
      refine e_ret (res1 rfl rfl) ⟨_, rfl, ?_⟩
      exact ⟨by rw [enc_same hva hvc], H.sub (List.nil_sublist _)⟩

end Go.Proofs.YtblphhclfloodaaDoor
