import Derived.Test.YtblphhclfloodaaG3
import Derived.Test.YtblphhclfloodaaG5
import Derived.Test.YtblphhclfloodaaM2
namespace Go.Proofs.Ytblphhclfloodaa
open Go Go.Er

set_option maxHeartbeats 4000000 in
set_option maxRecDepth 20000 in
theorem keeps_spec (seed : Key) (a : Option Addr) (cap : Nat) (ns : List Int) (hu : U64 ns) (a2 : Option Addr) (cap2 : Nat) (ms : List Int) (hu2 : U64 ms) (w0 : World) (hr : URow w0 a ns) (hr2 : URow w0 a2 ms) :
    Calls Try.prog 7 #[.agg (kC seed).toArray, .slice a ns.length cap, .slice a2 ms.length cap2] w0 fun e w => ∃ v, e = .returned v ∧ (v = .bool true ∧ St w0 [] w []) := by
  have H := St.refl w0
  refine c_enter (args := [.agg (kC seed).toArray, .slice a ns.length cap, .slice a2 ms.length cap2]) (l := [.agg (kC seed).toArray, .slice a ns.length cap, .slice a2 ms.length cap2, undef, undef, undef, undef, undef, undef, undef, undef, undef, undef, undef, undef, undef, undef, undef, undef, undef, undef, undef, undef, undef, undef, undef, undef, undef, undef, undef, undef, undef, undef, undef, undef, undef, undef, undef, undef, undef, undef, undef, undef, undef, undef, undef, undef, undef, undef, undef, undef, undef, undef, undef, undef, undef, undef, undef, undef, undef, undef, undef, undef, undef, undef, undef, undef, undef, undef, undef, undef, undef, undef, undef, undef, undef, undef, undef, undef, undef, undef, undef, undef, undef, undef, undef, undef, undef, undef, undef, undef, undef, undef, undef, undef, undef, undef, undef, undef, undef, undef, undef, undef, undef, undef, undef, undef, undef, undef, undef, undef, undef, undef, undef, undef, undef, undef, undef, undef, undef, undef, undef, undef, undef, undef, undef, undef]) Try.func7 Try.ntmps7 rfl rfl ?_
  refine c_rseq (n := 127) ⟨rfl, rfl⟩ ?_
  refine s_new (m_box (cs := (kC seed)) H rfl rfl) ?_
  intro w b3 H
  refine s_val (r_assign rfl) ?_
  refine c_nil (l' := [_, _, _, _, _, _, _, _, _, _, _, _, _, _, _, _, _, _, _, _, _, _, _, _, _, _, _, _, _, _, _, _, _, _, _, _, _, _, _, _, _, _, _, _, _, _, _, _, _, _, _, _, _, _, _, _, _, _, _, _, _, _, _, _, _, _, _, _, _, _, _, _, _, _, _, _, _, _, _, _, _, _, _, _, _, _, _, _, _, _, _, _, _, _, _, _, _, _, _, _, _, _, _, _, _, _, _, _, _, _, _, _, _, _, _, _, _, _, _, _, _, _, _, _, _, _, _]) rfl ?_
  refine c_seq ?_
  refine c_rseq (n := 127) ⟨rfl, rfl⟩ ?_
  refine s_call (r_call Try.call12 en) (awake_spec _) ?_
  rintro v w ⟨rfl, HC⟩
  replace H := H.quiet HC
  refine s_val (r_not rfl) ?_
  refine s_val (r_move rfl) ?_
  refine g_yes rfl rfl ?_
  refine s_val (r_move rfl) ?_
  refine g_yes rfl rfl ?_
  refine s_val (r_lens Try.runUnderlying24 (ec rfl en)) ?_
  refine g_yes rfl rfl ?_
  refine s_test (r_gtr rfl rfl) (fun h22 => ?_) (fun h22 => ?_)
  · skip
    skip
    refine s_val (r_pickf rfl rfl) ?_
    refine s_val (r_move rfl) ?_
    refine g_no rfl rfl (by decide) ?_
    refine g_no rfl rfl (by decide) ?_
    refine g_no rfl rfl (by decide) ?_
    refine s_val (r_pickt rfl rfl) ?_
    refine c_nil (l' := [_, _, _, _, _, _, _, _, _, _, _, _, _, _, _, _, _, _, _, _, _, _, _, _, _, _, _, _, _, _, _, _, _, _, _, _, _, _, _, _, _, _, _, _, _, _, _, _, _, _, _, _, _, _, _, _, _, _, _, _, _, _, _, _, _, _, _, _, _, _, _, _, _, _, _, _, _, _, _, _, _, _, _, _, _, _, _, _, _, _, _, _, _, _, _, _, _, _, _, _, _, _, _, _, _, _, _, _, _, _, _, _, _, _, _, _, _, _, _, _, _, _, _, _, _, _, _]) rfl ?_
    refine c_ift rfl ?_
    refine c_rseq (n := 127) ⟨rfl, rfl⟩ ?_
    refine s_call (r_call Try.call12 en) (awake_spec _) ?_
    rintro v w ⟨rfl, HC⟩
    replace H := H.quiet HC
    refine s_val (r_assign rfl) ?_
    refine c_nil (l' := [_, _, _, _, _, _, _, _, _, _, _, _, _, _, _, _, _, _, _, _, _, _, _, _, _, _, _, _, _, _, _, _, _, _, _, _, _, _, _, _, _, _, _, _, _, _, _, _, _, _, _, _, _, _, _, _, _, _, _, _, _, _, _, _, _, _, _, _, _, _, _, _, _, _, _, _, _, _, _, _, _, _, _, _, _, _, _, _, _, _, _, _, _, _, _, _, _, _, _, _, _, _, _, _, _, _, _, _, _, _, _, _, _, _, _, _, _, _, _, _, _, _, _, _, _, _, _]) rfl ?_
    refine wp_ret (x_thenRet ?_)
    refine e_ret (res1 rfl rfl) ⟨_, rfl, ?_⟩
    exact ⟨rfl, H.sub (List.nil_sublist _)⟩
  · skip
    skip
    refine s_val (r_pickf rfl rfl) ?_
    refine s_val (r_move rfl) ?_
    refine g_yes rfl rfl ?_
    refine s_val (r_move rfl) ?_
    refine g_yes rfl rfl ?_
    refine s_val (r_lens Try.runUnderlying24 (ec rfl en)) ?_
    refine g_yes rfl rfl ?_
    refine s_val (r_gtr rfl rfl) ?_
    refine s_val (r_pickf rfl rfl) ?_
    refine c_nil (l' := [_, _, _, _, _, _, _, _, _, _, _, _, _, _, _, _, _, _, _, _, _, _, _, _, _, _, _, _, _, _, _, _, _, _, _, _, _, _, _, _, _, _, _, _, _, _, _, _, _, _, _, _, _, _, _, _, _, _, _, _, _, _, _, _, _, _, _, _, _, _, _, _, _, _, _, _, _, _, _, _, _, _, _, _, _, _, _, _, _, _, _, _, _, _, _, _, _, _, _, _, _, _, _, _, _, _, _, _, _, _, _, _, _, _, _, _, _, _, _, _, _, _, _, _, _, _, _]) rfl ?_
    refine c_if rfl (fun h28 => ?_) (fun h28 => ?_)
    · skip
      skip
      refine c_rseq (n := 127) ⟨rfl, rfl⟩ ?_
      refine s_call (r_call Try.call12 en) (awake_spec _) ?_
      rintro v w ⟨rfl, HC⟩
      replace H := H.quiet HC
      refine s_val (r_assign rfl) ?_
      refine c_nil (l' := [_, _, _, _, _, _, _, _, _, _, _, _, _, _, _, _, _, _, _, _, _, _, _, _, _, _, _, _, _, _, _, _, _, _, _, _, _, _, _, _, _, _, _, _, _, _, _, _, _, _, _, _, _, _, _, _, _, _, _, _, _, _, _, _, _, _, _, _, _, _, _, _, _, _, _, _, _, _, _, _, _, _, _, _, _, _, _, _, _, _, _, _, _, _, _, _, _, _, _, _, _, _, _, _, _, _, _, _, _, _, _, _, _, _, _, _, _, _, _, _, _, _, _, _, _, _, _]) rfl ?_
      refine wp_ret (x_thenRet ?_)
      refine e_ret (res1 rfl rfl) ⟨_, rfl, ?_⟩
      exact ⟨rfl, H.sub (List.nil_sublist _)⟩
    · skip
      skip
      refine wp_skip ?_
      refine x_thenNormal ?_
      refine c_seq ?_
      refine d_begin (sz := 127) ⟨rfl, rfl⟩ (by kernel_rfl) H (H.sub (.cons_cons _ (List.nil_sublist _))) rfl ?_
      intro w H
      refine d_take (i := 0) rfl (by kernel_rfl) (fun _ _ _ h => h) (H.sub (.cons_cons _ (List.nil_sublist _))) (fun _ _ => r_buildS Try.runUnderlying29 Try.zeroValue29 places29 pn rfl) rfl ?_
      refine d_take (i := 1) rfl (by kernel_rfl) (fun _ _ _ h => h) (H.sub (.cons_cons _ (List.nil_sublist _))) (fun _ _ => r_makeIface Try.runUnderlying29 (fun _ h => nomatch h) rfl) rfl ?_
      refine d_take (i := 2) rfl (by kernel_rfl) (fun _ _ _ h => h) (H.sub (.cons_cons _ (List.nil_sublist _))) (fun _ HS => r_loadn Try.isAgg23 Try.sizeOf23 rfl (HS.at 0 rfl) (by first | exact (kC_td _) | exact (hC_td _) | exact (hC_seed _)) (by first | exact (kC_length _) | exact (hC_length _) | exact rfl)) rfl ?_
      refine d_take (i := 4) rfl (by kernel_rfl) (fun _ _ _ h => h) (H.sub (.cons_cons _ (List.nil_sublist _))) (fun _ _ => r_buildS Try.runUnderlying29 Try.zeroValue29 places29 pn rfl) rfl ?_
      refine d_take (i := 5) rfl (by kernel_rfl) (fun _ _ _ h => h) (H.sub (.cons_cons _ (List.nil_sublist _))) (fun _ _ => r_makeIface Try.runUnderlying29 (fun _ h => nomatch h) rfl) rfl ?_
      refine d_take (i := 6) rfl (by kernel_rfl) (fun _ _ _ h => h) (H.sub (.cons_cons _ (List.nil_sublist _))) (fun _ HS => r_loadn Try.isAgg23 Try.sizeOf23 rfl (HS.at 0 rfl) (by first | exact (kC_td _) | exact (hC_td _) | exact (hC_seed _)) (by first | exact (kC_length _) | exact (hC_length _) | exact rfl)) rfl ?_
      refine d_all1 (i := 3) (by kernel_rfl) ?_
      refine b_call rfl go_none (r_call Try.call13 (ec rfl (ec rfl en))) (new_spec _ _ splitL splitR splits_little _) rfl ?_
      rintro v w ⟨ba, Na, rfl, hTa, HC⟩
      replace H : St w0 [] _ (_ :: Na) := (H.call0 HC).perm (List.perm_append_comm (l₁ := [_]))
      refine ⟨(H.sub (.cons_cons _ (List.nil_sublist _))), ?_⟩
      refine d_all1 (i := 7) (by kernel_rfl) ?_
      refine b_call rfl go_none (r_call Try.call13 (ec rfl (ec rfl en))) (new_spec _ _ splitL splitR splits_little _) rfl ?_
      rintro v w ⟨bw, Nw, rfl, hTw, HC⟩
      replace H : St w0 [] _ (_ :: (Na ++ Nw)) := (H.call0 HC).perm (List.perm_append_comm (l₁ := _ :: Na))
      refine ⟨(H.sub (.cons_cons _ (List.nil_sublist _))), ?_⟩
      refine d_take (i := 8) rfl (by kernel_rfl) (fun _ _ _ h => h) (H.sub (.cons_cons _ (List.nil_sublist _))) (fun _ _ => r_assign rfl) rfl ?_
      refine d_take (i := 9) rfl (by kernel_rfl) (fun _ _ _ h => h) (H.sub (.cons_cons _ (List.nil_sublist _))) (fun _ _ => r_assign rfl) rfl ?_
      refine d_done (l' := [_, _, _, _, _, _, _, _, _, _, _, _, _, _, _, _, _, _, _, _, _, _, _, _, _, _, _, _, _, _, _, _, _, _, _, _, _, _, _, _, _, _, _, _, _, _, _, _, _, _, _, _, _, _, _, _, _, _, _, _, _, _, _, _, _, _, _, _, _, _, _, _, _, _, _, _, _, _, _, _, _, _, _, _, _, _, _, _, _, _, _, _, _, _, _, _, _, _, _, _, _, _, _, _, _, _, _, _, _, _, _, _, _, _, _, _, _, _, _, _, _, _, _, _, _, _, _]) (by kernel_rfl) rfl ?_
      refine x_thenNormal ?_
      refine c_rseq (n := 127) ⟨rfl, rfl⟩ ?_
      refine s_new (m_makeMap H) ?_
      intro w bm H
      refine s_val (r_assign rfl) ?_
      refine c_nil (l' := [_, _, _, _, _, _, _, _, _, _, _, _, _, _, _, _, _, _, _, _, _, _, _, _, _, _, _, _, _, _, _, _, _, _, _, _, _, _, _, _, _, _, _, _, _, _, _, _, _, _, _, _, _, _, _, _, _, _, _, _, _, _, _, _, _, _, _, _, _, _, _, _, _, _, _, _, _, _, _, _, _, _, _, _, _, _, _, _, _, _, _, _, _, _, _, _, _, _, _, _, _, _, _, _, _, _, _, _, _, _, _, _, _, _, _, _, _, _, _, _, _, _, _, _, _, _, _]) rfl ?_
      refine c_seq ?_
      refine c_rseq (n := 127) ⟨rfl, rfl⟩ ?_
      refine s_val (r_assign rfl) ?_
      refine c_nil (l' := [_, _, _, _, _, _, _, _, _, _, _, _, _, _, _, _, _, _, _, _, _, _, _, _, _, _, _, _, _, _, _, _, _, _, _, _, _, _, _, _, _, _, _, _, _, _, _, _, _, _, _, _, _, _, _, _, _, _, _, _, _, _, _, _, _, _, _, _, _, _, _, _, _, _, _, _, _, _, _, _, _, _, _, _, _, _, _, _, _, _, _, _, _, _, _, _, _, _, _, _, _, _, _, _, _, _, _, _, _, _, _, _, _, _, _, _, _, _, _, _, _, _, _, _, _, _, _]) rfl ?_
      refine wp_block ?_
      refine c_loop (fun (l0 : List Value) (i : Nat) (l : List Value) (w : World) => ∃ (u39 u40 u41 u42 u43 u44 u45 u46 u47 u48 u49 u50 u51 u52 u53 u54 u55 : Value) (Na : List (Nat × Obj)) (la ls : List Int) (xs : List Held), l = ovr l0 [N_, N_, N_, N_, N_, N_, N_, N_, N_, N_, Y_ (.int .i64 i), N_, N_, N_, N_, N_, N_, N_, N_, N_, N_, N_, N_, N_, N_, N_, N_, N_, N_, N_, N_, N_, N_, N_, N_, N_, N_, N_, N_, Y_ u39, Y_ u40, Y_ u41, Y_ u42, Y_ u43, Y_ u44, Y_ u45, Y_ u46, Y_ u47, Y_ u48, Y_ u49, Y_ u50, Y_ u51, Y_ u52, Y_ u53, Y_ u54, Y_ u55] ∧ i ≤ ns.length ∧ xs = tree0 splitL splitR seed la ∧ TreeN 68 41 ba (.iface 29 (.agg #[])) xs Na ∧ (∀ n, n ∈ ls ↔ n ∈ la) ∧ (∀ n ∈ ls, 0 ≤ n) ∧ xs.length ≤ 1 + 17 * i ∧ St w0 [] w ((bm, mapO ls) :: Na ++ Nw)) (fun (i : Nat) => ns.length - i) 0 ⟨_, _, _, _, _, _, _, _, _, _, _, _, _, _, _, _, _, Na, [], [], [root seed], rfl, by omega, tree0_nil.symm, hTa, (fun _ => Iff.rfl), (fun _ h => nomatch h), by show 1 ≤ _; omega, (H.sub (.cons_cons _ (.cons _ (List.Sublist.refl _))))⟩ ?_
      intro i l w ⟨u39, u40, u41, u42, u43, u44, u45, u46, u47, u48, u49, u50, u51, u52, u53, u54, u55, Na, la, ls, xs, hl, hi, hxs, hTa, hls, hlu, hlx, H⟩
      obtain rfl := hl.trans (rfl : _ = [_, _, _, _, _, _, _, _, _, _, _, _, _, _, _, _, _, _, _, _, _, _, _, _, _, _, _, _, _, _, _, _, _, _, _, _, _, _, _, _, _, _, _, _, _, _, _, _, _, _, _, _, _, _, _, _, _, _, _, _, _, _, _, _, _, _, _, _, _, _, _, _, _, _, _, _, _, _, _, _, _, _, _, _, _, _, _, _, _, _, _, _, _, _, _, _, _, _, _, _, _, _, _, _, _, _, _, _, _, _, _, _, _, _, _, _, _, _, _, _, _, _, _, _, _, _, _])
      clear hl
      have hvx : Valid xs := by rw [hxs]; exact tree0_valid la
      refine c_seq ?_
      refine c_rseq (n := 127) ⟨rfl, rfl⟩ ?_
      refine s_val (r_move rfl) ?_
      refine s_val (r_move rfl) ?_
      refine s_val (r_lens Try.runUnderlying24 (ec rfl en)) ?_
      refine s_val (r_lss rfl rfl) ?_
      refine c_nil (l' := [_, _, _, _, _, _, _, _, _, _, _, _, _, _, _, _, _, _, _, _, _, _, _, _, _, _, _, _, _, _, _, _, _, _, _, _, _, _, _, _, _, _, _, _, _, _, _, _, _, _, _, _, _, _, _, _, _, _, _, _, _, _, _, _, _, _, _, _, _, _, _, _, _, _, _, _, _, _, _, _, _, _, _, _, _, _, _, _, _, _, _, _, _, _, _, _, _, _, _, _, _, _, _, _, _, _, _, _, _, _, _, _, _, _, _, _, _, _, _, _, _, _, _, _, _, _, _]) rfl ?_
      refine c_if rfl (fun h42 => ?_) (fun h42 => ?_)
      · skip
        obtain ⟨bu, off, pre, post, T, fz, rfl, hbu, hpu⟩ := hr (by omega)
        obtain ⟨hn0, hn1⟩ := hu.get (i := i) (by omega)
        have hlp := len_tree (sl := splitL) (sr := splitR) (n := ns.getD i 0) hvx
        refine wp_skip ?_
        refine x_thenNormal ?_
        refine c_seq ?_
        refine wp_block ?_
        refine c_rseq (n := 127) ⟨rfl, rfl⟩ ?_
        refine s_val (r_move rfl) ?_
        refine s_val (r_move rfl) ?_
        refine s_val (r_move rfl) ?_
        refine s_val (r_indexAddrS Try.runUnderlying24 Try.sizeOf31 rfl rfl (by omega) (by omega)) ?_
        refine s_val (r_load1 Try.isAgg31 rfl (H.rd0 hbu) (u_get pre ns post i hpu (by omega) (by omega))) ?_
        refine s_call (r_call Try.call14 (ec rfl (ec rfl en))) (punc_t _ _ xs (ns.getD i 0) Na splitL splitR splits_little (by omega) hvx hn0 hn1 _ hTa (H.ownsM (.cons _ (List.sublist_append_left _ _)))) ?_
        rintro v w ⟨rfl, Na2, hTa2, HC⟩
        replace H := H.trA HC
        refine c_nil (l' := [_, _, _, _, _, _, _, _, _, _, _, _, _, _, _, _, _, _, _, _, _, _, _, _, _, _, _, _, _, _, _, _, _, _, _, _, _, _, _, _, _, _, _, _, _, _, _, _, _, _, _, _, _, _, _, _, _, _, _, _, _, _, _, _, _, _, _, _, _, _, _, _, _, _, _, _, _, _, _, _, _, _, _, _, _, _, _, _, _, _, _, _, _, _, _, _, _, _, _, _, _, _, _, _, _, _, _, _, _, _, _, _, _, _, _, _, _, _, _, _, _, _, _, _, _, _, _]) rfl ?_
        refine c_region (n := 127) ⟨rfl, rfl⟩ ?_
        refine s_val (r_move rfl) ?_
        refine s_val (r_move rfl) ?_
        refine s_val (r_move rfl) ?_
        refine s_val (r_indexAddrS Try.runUnderlying24 Try.sizeOf31 rfl rfl (by omega) (by omega)) ?_
        refine s_val (r_load1 Try.isAgg31 rfl (H.rd0 hbu) (u_get pre ns post i hpu (by omega) (by omega))) ?_
        refine s_st (m_mapUpdate H 0 Try.runUnderlying39 Try.runUnderlying31 rfl rfl rfl rfl) (L' := (_ :: _)) rfl ?_
        intro w H
        refine c_nil0 (l' := [_, _, _, _, _, _, _, _, _, _, _, _, _, _, _, _, _, _, _, _, _, _, _, _, _, _, _, _, _, _, _, _, _, _, _, _, _, _, _, _, _, _, _, _, _, _, _, _, _, _, _, _, _, _, _, _, _, _, _, _, _, _, _, _, _, _, _, _, _, _, _, _, _, _, _, _, _, _, _, _, _, _, _, _, _, _, _, _, _, _, _, _, _, _, _, _, _, _, _, _, _, _, _, _, _, _, _, _, _, _, _, _, _, _, _, _, _, _, _, _, _, _, _, _, _, _, _]) rfl ?_
        refine x_blockNormal ?_
        refine x_thenNormal ?_
        refine c_region (n := 127) ⟨rfl, rfl⟩ ?_
        refine s_val (r_move rfl) ?_
        refine s_val (r_add rfl rfl (w_i64 (by omega) (by omega))) ?_
        refine s_val (r_assign rfl) ?_
        refine c_nil0 (l' := [_, _, _, _, _, _, _, _, _, _, _, _, _, _, _, _, _, _, _, _, _, _, _, _, _, _, _, _, _, _, _, _, _, _, _, _, _, _, _, _, _, _, _, _, _, _, _, _, _, _, _, _, _, _, _, _, _, _, _, _, _, _, _, _, _, _, _, _, _, _, _, _, _, _, _, _, _, _, _, _, _, _, _, _, _, _, _, _, _, _, _, _, _, _, _, _, _, _, _, _, _, _, _, _, _, _, _, _, _, _, _, _, _, _, _, _, _, _, _, _, _, _, _, _, _, _, _]) rfl ?_
        exact ⟨i + 1, _, rfl, ⟨_, _, _, _, _, _, _, _, _, _, _, _, _, _, _, _, _, Na2, _, _, (punc splitL splitR xs (ns.getD i 0)), rfl, by omega, by rw [hxs, tree0_punc], hTa2, (ins_iff hls), (fun n hn => (mem_ins.1 hn).elim (hlu n) (fun e => e ▸ hn0)), by omega, H⟩, by omega⟩
      · skip
        have hv1 : Valid [root seed] := by rw [← tree0_nil (sl := splitL) (sr := splitR)]; exact tree0_valid []
        refine wp_exit (x_thenExit (x_thenExit (x_blockHit ?_)))
        refine x_thenNormal ?_
        refine c_seq ?_
        refine c_rseq (n := 127) ⟨rfl, rfl⟩ ?_
        refine s_val (r_assign rfl) ?_
        refine c_nil (l' := [_, _, _, _, _, _, _, _, _, _, _, _, _, _, _, _, _, _, _, _, _, _, _, _, _, _, _, _, _, _, _, _, _, _, _, _, _, _, _, _, _, _, _, _, _, _, _, _, _, _, _, _, _, _, _, _, _, _, _, _, _, _, _, _, _, _, _, _, _, _, _, _, _, _, _, _, _, _, _, _, _, _, _, _, _, _, _, _, _, _, _, _, _, _, _, _, _, _, _, _, _, _, _, _, _, _, _, _, _, _, _, _, _, _, _, _, _, _, _, _, _, _, _, _, _, _, _]) rfl ?_
        refine wp_block ?_
        refine c_loop (fun (l0 : List Value) (j : Nat) (l : List Value) (w : World) => ∃ (u6 u12 u13 u14 u15 u56 u57 u58 u59 u60 u61 u62 u63 u64 u65 u66 u67 u68 u69 u70 u71 u72 u73 u74 u75 u76 u77 u78 u79 u80 u81 u82 u83 u84 u85 u86 u87 u88 u89 u90 u91 u92 u93 u94 u95 u96 u97 u98 u99 u100 u101 u102 u103 u104 u105 u106 u107 u108 u109 u110 u111 u112 u113 u114 u115 u116 u117 : Value) , l = ovr l0 [N_, N_, N_, N_, N_, N_, Y_ u6, N_, N_, N_, N_, Y_ (.int .i64 j), Y_ u12, Y_ u13, Y_ u14, Y_ u15, N_, N_, N_, N_, N_, N_, N_, N_, N_, N_, N_, N_, N_, N_, N_, N_, N_, N_, N_, N_, N_, N_, N_, N_, N_, N_, N_, N_, N_, N_, N_, N_, N_, N_, N_, N_, N_, N_, N_, N_, Y_ u56, Y_ u57, Y_ u58, Y_ u59, Y_ u60, Y_ u61, Y_ u62, Y_ u63, Y_ u64, Y_ u65, Y_ u66, Y_ u67, Y_ u68, Y_ u69, Y_ u70, Y_ u71, Y_ u72, Y_ u73, Y_ u74, Y_ u75, Y_ u76, Y_ u77, Y_ u78, Y_ u79, Y_ u80, Y_ u81, Y_ u82, Y_ u83, Y_ u84, Y_ u85, Y_ u86, Y_ u87, Y_ u88, Y_ u89, Y_ u90, Y_ u91, Y_ u92, Y_ u93, Y_ u94, Y_ u95, Y_ u96, Y_ u97, Y_ u98, Y_ u99, Y_ u100, Y_ u101, Y_ u102, Y_ u103, Y_ u104, Y_ u105, Y_ u106, Y_ u107, Y_ u108, Y_ u109, Y_ u110, Y_ u111, Y_ u112, Y_ u113, Y_ u114, Y_ u115, Y_ u116, Y_ u117] ∧ j ≤ ms.length ∧ St w0 [] w ((bm, mapO ls) :: Na ++ Nw)) (fun (j : Nat) => ms.length - j) 0 ⟨_, _, _, _, _, _, _, _, _, _, _, _, _, _, _, _, _, _, _, _, _, _, _, _, _, _, _, _, _, _, _, _, _, _, _, _, _, _, _, _, _, _, _, _, _, _, _, _, _, _, _, _, _, _, _, _, _, _, _, _, _, _, _, _, _, _, _, rfl, by omega, H⟩ ?_
        intro j l w ⟨u6, u12, u13, u14, u15, u56, u57, u58, u59, u60, u61, u62, u63, u64, u65, u66, u67, u68, u69, u70, u71, u72, u73, u74, u75, u76, u77, u78, u79, u80, u81, u82, u83, u84, u85, u86, u87, u88, u89, u90, u91, u92, u93, u94, u95, u96, u97, u98, u99, u100, u101, u102, u103, u104, u105, u106, u107, u108, u109, u110, u111, u112, u113, u114, u115, u116, u117, hl, hj, H⟩
        obtain rfl := hl.trans (rfl : _ = [_, _, _, _, _, _, _, _, _, _, _, _, _, _, _, _, _, _, _, _, _, _, _, _, _, _, _, _, _, _, _, _, _, _, _, _, _, _, _, _, _, _, _, _, _, _, _, _, _, _, _, _, _, _, _, _, _, _, _, _, _, _, _, _, _, _, _, _, _, _, _, _, _, _, _, _, _, _, _, _, _, _, _, _, _, _, _, _, _, _, _, _, _, _, _, _, _, _, _, _, _, _, _, _, _, _, _, _, _, _, _, _, _, _, _, _, _, _, _, _, _, _, _, _, _, _, _])
        clear hl
        refine c_seq ?_
        refine c_rseq (n := 127) ⟨rfl, rfl⟩ ?_
        refine s_val (r_move rfl) ?_
        refine s_val (r_move rfl) ?_
        refine s_val (r_lens Try.runUnderlying24 (ec rfl en)) ?_
        refine s_val (r_lss rfl rfl) ?_
        refine c_nil (l' := [_, _, _, _, _, _, _, _, _, _, _, _, _, _, _, _, _, _, _, _, _, _, _, _, _, _, _, _, _, _, _, _, _, _, _, _, _, _, _, _, _, _, _, _, _, _, _, _, _, _, _, _, _, _, _, _, _, _, _, _, _, _, _, _, _, _, _, _, _, _, _, _, _, _, _, _, _, _, _, _, _, _, _, _, _, _, _, _, _, _, _, _, _, _, _, _, _, _, _, _, _, _, _, _, _, _, _, _, _, _, _, _, _, _, _, _, _, _, _, _, _, _, _, _, _, _, _]) rfl ?_
        refine c_if rfl (fun h59 => ?_) (fun h59 => ?_)
        · skip
          obtain ⟨bu2, off2, pre2, post2, T2, fz2, rfl, hbu2, hpu2⟩ := hr2 (by omega)
          obtain ⟨hm0, hm1⟩ := hu2.get (i := j) (by omega)
          obtain ⟨m, hm⟩ : ∃ m, m = ms.getD j 0 := ⟨_, rfl⟩
          rw [← hm] at hm0 hm1
          refine wp_skip ?_
          refine x_thenNormal ?_
          refine c_seq ?_
          refine wp_block ?_
          refine c_rseq (n := 127) ⟨rfl, rfl⟩ ?_
          refine s_val (r_move rfl) ?_
          refine s_val (r_move rfl) ?_
          refine s_val (r_move rfl) ?_
          refine s_val (r_indexAddrS Try.runUnderlying24 Try.sizeOf31 rfl rfl (by omega) (by omega)) ?_
          refine s_val (r_load1 Try.isAgg31 rfl (H.rd0 hbu2) (hm ▸ (u_get pre2 ms post2 j hpu2 (by omega) (by omega)))) ?_
          refine s_call (r_call Try.call19 (ec rfl (ec rfl en))) (key_spec _ _ xs Na (by omega) hvx m hm0 splitL splitR splits_little _ hTa (H.ownsM (.cons _ (List.sublist_append_left _ _)))) ?_
          rintro v w ⟨k1, ok1, hK1, rfl, HC⟩
          obtain ⟨rfl, hk1⟩ | ⟨rfl, rfl, hk1⟩ : (ok1 = true ∧ ∃ x ∈ xs, InN x m) ∨ (ok1 = false ∧ k1 = By.zero 32 ∧ ¬ ∃ x ∈ xs, InN x m) := keyR_two hK1
          · skip
            obtain ⟨hm2, hm3, hnla⟩ := tree0_in (hxs ▸ hk1)
            have hnl : m ∉ ls := fun h => hnla ((hls m).1 h)
            replace H := H.quiet HC
            refine s_val (r_move rfl) ?_
            refine s_val (r_extract rfl rfl) ?_
            refine s_val (r_extract rfl rfl) ?_
            refine s_new (m_alloc (cs := (kC (By.zero 32))) H Try.zeroValue23 rfl) ?_
            intro w b12 H
            refine s_st (m_storen H 0 32 Try.sizeOf23 rfl rfl (by first | exact (kC_length _) | exact (hC_length _)) (by first | exact (kC_one _) | exact (hC_one _)) rfl (by first | exact (by rw [kC_length]; omega) | exact (by rw [hC_length]; omega)) (by first | exact (kC_sp _ _) | exact (hC_sp _ _))) (L' := (_ :: _ :: _)) rfl ?_
            intro w H
            refine s_val (r_assign rfl) ?_
            refine c_nil (l' := [_, _, _, _, _, _, _, _, _, _, _, _, _, _, _, _, _, _, _, _, _, _, _, _, _, _, _, _, _, _, _, _, _, _, _, _, _, _, _, _, _, _, _, _, _, _, _, _, _, _, _, _, _, _, _, _, _, _, _, _, _, _, _, _, _, _, _, _, _, _, _, _, _, _, _, _, _, _, _, _, _, _, _, _, _, _, _, _, _, _, _, _, _, _, _, _, _, _, _, _, _, _, _, _, _, _, _, _, _, _, _, _, _, _, _, _, _, _, _, _, _, _, _, _, _, _, _]) rfl ?_
            refine c_rseq (n := 127) ⟨rfl, rfl⟩ ?_
            refine s_val (r_move rfl) ?_
            refine s_val (r_move rfl) ?_
            refine s_val (r_move rfl) ?_
            refine s_val (r_indexAddrS Try.runUnderlying24 Try.sizeOf31 rfl rfl (by omega) (by omega)) ?_
            refine s_val (r_load1 Try.isAgg31 rfl (H.rd0 hbu2) (hm ▸ (u_get pre2 ms post2 j hpu2 (by omega) (by omega)))) ?_
            refine s_call (r_call Try.call19 (ec rfl (ec rfl en))) (key_spec _ _ [root seed] Nw (Nat.le_of_ble_eq_true rfl) hv1 m hm0 splitL splitR splits_little _ hTw (H.ownsM (.cons _ (.cons _ (List.sublist_append_right _ _))))) ?_
            rintro v w ⟨k2, ok2, hK2, rfl, HC⟩
            obtain ⟨rfl, hk2⟩ | ⟨rfl, rfl, hk2⟩ : (ok2 = true ∧ ∃ x ∈ [root seed], InN x m) ∨ (ok2 = false ∧ k2 = By.zero 32 ∧ ¬ ∃ x ∈ [root seed], InN x m) := keyR_two hK2
            · skip
              obtain ⟨hm4, hm5⟩ := one_inM.1 hk2
              have hd : (!(true == decide (m < 131072))) = false := by rw [decide_eq_true hm5]; rfl
              obtain rfl : k1 = k2 := by
                obtain ⟨x, hx, hi⟩ := hk1
                rw [hxs] at hK1 hx
                exact (keyR_tree hK1 hx hi).2.trans (keyR_root hK2 hm4 hm5).2.symm
              replace H := H.quiet HC
              refine s_val (r_move rfl) ?_
              refine s_val (r_extract rfl rfl) ?_
              refine s_val (r_extract rfl rfl) ?_
              refine s_new (m_alloc (cs := (kC (By.zero 32))) H Try.zeroValue23 rfl) ?_
              intro w b14 H
              refine s_st (m_storen H 0 32 Try.sizeOf23 rfl rfl (by first | exact (kC_length _) | exact (hC_length _)) (by first | exact (kC_one _) | exact (hC_one _)) rfl (by first | exact (by rw [kC_length]; omega) | exact (by rw [hC_length]; omega)) (by first | exact (kC_sp _ _) | exact (hC_sp _ _))) (L' := (_ :: _ :: _ :: _)) rfl ?_
              intro w H
              refine s_val (r_assign rfl) ?_
              refine c_nil (l' := [_, _, _, _, _, _, _, _, _, _, _, _, _, _, _, _, _, _, _, _, _, _, _, _, _, _, _, _, _, _, _, _, _, _, _, _, _, _, _, _, _, _, _, _, _, _, _, _, _, _, _, _, _, _, _, _, _, _, _, _, _, _, _, _, _, _, _, _, _, _, _, _, _, _, _, _, _, _, _, _, _, _, _, _, _, _, _, _, _, _, _, _, _, _, _, _, _, _, _, _, _, _, _, _, _, _, _, _, _, _, _, _, _, _, _, _, _, _, _, _, _, _, _, _, _, _, _]) rfl ?_
              refine c_rseq (n := 127) ⟨rfl, rfl⟩ ?_
              refine s_val (r_move rfl) ?_
              refine s_val (r_move rfl) ?_
              refine s_val (r_move rfl) ?_
              refine g_yes rfl rfl ?_
              refine s_val (r_move rfl) ?_
              refine g_yes rfl rfl ?_
              refine s_val (r_move rfl) ?_
              refine g_yes rfl rfl ?_
              refine s_val (r_move rfl) ?_
              refine g_yes rfl rfl ?_
              refine s_val (r_indexAddrS Try.runUnderlying24 Try.sizeOf31 rfl rfl (by omega) (by omega)) ?_
              refine g_yes rfl rfl ?_
              refine s_val (r_load1 Try.isAgg31 rfl (H.rd0 hbu2) (hm ▸ (u_get pre2 ms post2 j hpu2 (by omega) (by omega)))) ?_
              refine g_yes rfl rfl ?_
              refine s_val (r_lookupN hnl Try.runUnderlying39 Try.runUnderlying31 Try.zeroValue4 rfl rfl (H.at 2 rfl)) ?_
              refine g_yes rfl rfl ?_
              refine s_val (r_not rfl) ?_
              refine s_val (r_pickt rfl rfl) ?_
              refine s_val (r_neqb Try.runUnderlying4 rfl rfl) ?_
              refine s_val (r_move rfl) ?_
              refine g_yes rfl rfl ?_
              refine s_val (r_move rfl) ?_
              refine g_yes rfl rfl ?_
              refine s_val (r_move rfl) ?_
              refine g_yes rfl rfl ?_
              refine s_val (r_loadn Try.isAgg23 Try.sizeOf23 rfl (H.at 1 rfl) (by first | exact (kC_td _) | exact (hC_td _) | exact (hC_seed _)) (by first | exact (kC_length _) | exact (hC_length _) | exact rfl)) ?_
              refine g_yes rfl rfl ?_
              refine s_val (r_loadn Try.isAgg23 Try.sizeOf23 rfl (H.at 0 rfl) (by first | exact (kC_td _) | exact (hC_td _) | exact (hC_seed _)) (by first | exact (kC_length _) | exact (hC_length _) | exact rfl)) ?_
              refine g_yes rfl rfl ?_
              refine s_test (r_neqK keyT23 rfl rfl) (fun h97 => ?_) (fun h97 => ?_)
              · skip
                exact absurd rfl h97
              · skip
                refine g_yes rfl rfl ?_
                refine s_val (r_pickt rfl rfl) ?_
                refine s_val (r_pickf rfl rfl) ?_
                refine s_val (r_move rfl) ?_
                refine g_yes rfl rfl ?_
                refine s_val (r_move rfl) ?_
                refine g_yes rfl rfl ?_
                refine s_val (r_not rfl) ?_
                refine g_yes rfl rfl ?_
                refine s_val (r_move rfl) ?_
                refine g_no rfl rfl (by decide) ?_
                refine g_no rfl rfl (by decide) ?_
                refine g_no rfl rfl (by decide) ?_
                refine g_yes rfl rfl ?_
                refine s_val (r_pickf rfl rfl) ?_
                refine s_val (r_pickf rfl rfl) ?_
                refine s_val (r_move rfl) ?_
                refine g_yes rfl rfl ?_
                refine s_val (r_move rfl) ?_
                refine g_yes rfl rfl ?_
                refine s_val (r_move rfl) ?_
                refine g_yes rfl rfl ?_
                refine s_val (r_move rfl) ?_
                refine g_yes rfl rfl ?_
                refine s_val (r_indexAddrS Try.runUnderlying24 Try.sizeOf31 rfl rfl (by omega) (by omega)) ?_
                refine g_yes rfl rfl ?_
                refine s_val (r_load1 Try.isAgg31 rfl (H.rd0 hbu2) (hm ▸ (u_get pre2 ms post2 j hpu2 (by omega) (by omega)))) ?_
                refine g_yes rfl rfl ?_
                refine s_val (r_lss rfl rfl) ?_
                refine g_yes rfl rfl ?_
                refine s_val (r_neqb Try.runUnderlying4 rfl rfl) ?_
                refine s_val (r_pickf rfl rfl) ?_
                refine c_nil (l' := [_, _, _, _, _, _, _, _, _, _, _, _, _, _, _, _, _, _, _, _, _, _, _, _, _, _, _, _, _, _, _, _, _, _, _, _, _, _, _, _, _, _, _, _, _, _, _, _, _, _, _, _, _, _, _, _, _, _, _, _, _, _, _, _, _, _, _, _, _, _, _, _, _, _, _, _, _, _, _, _, _, _, _, _, _, _, _, _, _, _, _, _, _, _, _, _, _, _, _, _, _, _, _, _, _, _, _, _, _, _, _, _, _, _, _, _, _, _, _, _, _, _, _, _, _, _, _]) rfl ?_
                refine c_ifb rfl (fun h117 => ?_) (fun h117 => ?_)
                · skip
                  rw [hd] at h117; exact absurd h117 (by decide)
                · skip
                  refine wp_skip ?_
                  refine x_blockNormal ?_
                  refine x_thenNormal ?_
                  refine c_region (n := 127) ⟨rfl, rfl⟩ ?_
                  refine s_val (r_move rfl) ?_
                  refine s_val (r_add rfl rfl (w_i64 (by omega) (by omega))) ?_
                  refine s_val (r_assign rfl) ?_
                  refine c_nil0 (l' := [_, _, _, _, _, _, _, _, _, _, _, _, _, _, _, _, _, _, _, _, _, _, _, _, _, _, _, _, _, _, _, _, _, _, _, _, _, _, _, _, _, _, _, _, _, _, _, _, _, _, _, _, _, _, _, _, _, _, _, _, _, _, _, _, _, _, _, _, _, _, _, _, _, _, _, _, _, _, _, _, _, _, _, _, _, _, _, _, _, _, _, _, _, _, _, _, _, _, _, _, _, _, _, _, _, _, _, _, _, _, _, _, _, _, _, _, _, _, _, _, _, _, _, _, _, _, _]) rfl ?_
                  replace H := H.sub (.cons _ (.cons _ (.cons_cons _ (List.Sublist.refl _))))
                  exact ⟨j + 1, _, rfl, ⟨_, _, _, _, _, _, _, _, _, _, _, _, _, _, _, _, _, _, _, _, _, _, _, _, _, _, _, _, _, _, _, _, _, _, _, _, _, _, _, _, _, _, _, _, _, _, _, _, _, _, _, _, _, _, _, _, _, _, _, _, _, _, _, _, _, _, _, rfl, by omega, H⟩, by omega⟩
            · skip
              exact absurd (one_inM.2 ⟨hm2, hm3⟩) hk2
          · skip
            replace H := H.quiet HC
            refine s_val (r_move rfl) ?_
            refine s_val (r_extract rfl rfl) ?_
            refine s_val (r_extract rfl rfl) ?_
            refine s_new (m_alloc (cs := (kC (By.zero 32))) H Try.zeroValue23 rfl) ?_
            intro w b12 H
            refine s_st (m_storen H 0 32 Try.sizeOf23 rfl rfl (by first | exact (kC_length _) | exact (hC_length _)) (by first | exact (kC_one _) | exact (hC_one _)) rfl (by first | exact (by rw [kC_length]; omega) | exact (by rw [hC_length]; omega)) (by first | exact (kC_sp _ _) | exact (hC_sp _ _))) (L' := (_ :: _ :: _)) rfl ?_
            intro w H
            refine s_val (r_assign rfl) ?_
            refine c_nil (l' := [_, _, _, _, _, _, _, _, _, _, _, _, _, _, _, _, _, _, _, _, _, _, _, _, _, _, _, _, _, _, _, _, _, _, _, _, _, _, _, _, _, _, _, _, _, _, _, _, _, _, _, _, _, _, _, _, _, _, _, _, _, _, _, _, _, _, _, _, _, _, _, _, _, _, _, _, _, _, _, _, _, _, _, _, _, _, _, _, _, _, _, _, _, _, _, _, _, _, _, _, _, _, _, _, _, _, _, _, _, _, _, _, _, _, _, _, _, _, _, _, _, _, _, _, _, _, _]) rfl ?_
            refine c_rseq (n := 127) ⟨rfl, rfl⟩ ?_
            refine s_val (r_move rfl) ?_
            refine s_val (r_move rfl) ?_
            refine s_val (r_move rfl) ?_
            refine s_val (r_indexAddrS Try.runUnderlying24 Try.sizeOf31 rfl rfl (by omega) (by omega)) ?_
            refine s_val (r_load1 Try.isAgg31 rfl (H.rd0 hbu2) (hm ▸ (u_get pre2 ms post2 j hpu2 (by omega) (by omega)))) ?_
            refine s_call (r_call Try.call19 (ec rfl (ec rfl en))) (key_spec _ _ [root seed] Nw (Nat.le_of_ble_eq_true rfl) hv1 m hm0 splitL splitR splits_little _ hTw (H.ownsM (.cons _ (.cons _ (List.sublist_append_right _ _))))) ?_
            rintro v w ⟨k2, ok2, hK2, rfl, HC⟩
            obtain ⟨rfl, hk2⟩ | ⟨rfl, rfl, hk2⟩ : (ok2 = true ∧ ∃ x ∈ [root seed], InN x m) ∨ (ok2 = false ∧ k2 = By.zero 32 ∧ ¬ ∃ x ∈ [root seed], InN x m) := keyR_two hK2
            · skip
              obtain ⟨hm4, hm5⟩ := one_inM.1 hk2
              have hd : (!(true == decide (m < 131072))) = false := by rw [decide_eq_true hm5]; rfl
              have hnl : m ∈ ls := by
                rw [hls]
                exact Decidable.byContradiction fun h => hk1 (by rw [hxs]; exact (tree0_has hm4 hm5).2 h)
              replace H := H.quiet HC
              refine s_val (r_move rfl) ?_
              refine s_val (r_extract rfl rfl) ?_
              refine s_val (r_extract rfl rfl) ?_
              refine s_new (m_alloc (cs := (kC (By.zero 32))) H Try.zeroValue23 rfl) ?_
              intro w b14 H
              refine s_st (m_storen H 0 32 Try.sizeOf23 rfl rfl (by first | exact (kC_length _) | exact (hC_length _)) (by first | exact (kC_one _) | exact (hC_one _)) rfl (by first | exact (by rw [kC_length]; omega) | exact (by rw [hC_length]; omega)) (by first | exact (kC_sp _ _) | exact (hC_sp _ _))) (L' := (_ :: _ :: _ :: _)) rfl ?_
              intro w H
              refine s_val (r_assign rfl) ?_
              refine c_nil (l' := [_, _, _, _, _, _, _, _, _, _, _, _, _, _, _, _, _, _, _, _, _, _, _, _, _, _, _, _, _, _, _, _, _, _, _, _, _, _, _, _, _, _, _, _, _, _, _, _, _, _, _, _, _, _, _, _, _, _, _, _, _, _, _, _, _, _, _, _, _, _, _, _, _, _, _, _, _, _, _, _, _, _, _, _, _, _, _, _, _, _, _, _, _, _, _, _, _, _, _, _, _, _, _, _, _, _, _, _, _, _, _, _, _, _, _, _, _, _, _, _, _, _, _, _, _, _, _]) rfl ?_
              refine c_rseq (n := 127) ⟨rfl, rfl⟩ ?_
              refine s_val (r_move rfl) ?_
              refine s_val (r_move rfl) ?_
              refine s_val (r_move rfl) ?_
              refine g_yes rfl rfl ?_
              refine s_val (r_move rfl) ?_
              refine g_yes rfl rfl ?_
              refine s_val (r_move rfl) ?_
              refine g_yes rfl rfl ?_
              refine s_val (r_move rfl) ?_
              refine g_yes rfl rfl ?_
              refine s_val (r_indexAddrS Try.runUnderlying24 Try.sizeOf31 rfl rfl (by omega) (by omega)) ?_
              refine g_yes rfl rfl ?_
              refine s_val (r_load1 Try.isAgg31 rfl (H.rd0 hbu2) (hm ▸ (u_get pre2 ms post2 j hpu2 (by omega) (by omega)))) ?_
              refine g_yes rfl rfl ?_
              refine s_val (r_lookupY hnl Try.runUnderlying39 Try.runUnderlying31 Try.zeroValue4 rfl rfl (H.at 2 rfl)) ?_
              refine g_yes rfl rfl ?_
              refine s_val (r_not rfl) ?_
              refine s_val (r_pickt rfl rfl) ?_
              refine s_val (r_neqb Try.runUnderlying4 rfl rfl) ?_
              refine s_val (r_move rfl) ?_
              refine g_yes rfl rfl ?_
              refine s_val (r_move rfl) ?_
              refine g_yes rfl rfl ?_
              refine s_val (r_move rfl) ?_
              refine g_no rfl rfl (by decide) ?_
              refine g_no rfl rfl (by decide) ?_
              refine g_no rfl rfl (by decide) ?_
              refine g_yes rfl rfl ?_
              refine s_val (r_pickf rfl rfl) ?_
              refine s_val (r_pickf rfl rfl) ?_
              refine s_val (r_move rfl) ?_
              refine g_yes rfl rfl ?_
              refine s_val (r_move rfl) ?_
              refine g_yes rfl rfl ?_
              refine s_val (r_not rfl) ?_
              refine g_yes rfl rfl ?_
              refine s_val (r_move rfl) ?_
              refine g_yes rfl rfl ?_
              refine s_val (r_loadn Try.isAgg23 Try.sizeOf23 rfl (H.at 1 rfl) (by first | exact (kC_td _) | exact (hC_td _) | exact (hC_seed _)) (by first | exact (kC_length _) | exact (hC_length _) | exact rfl)) ?_
              refine g_yes rfl rfl ?_
              refine s_val (r_buildA (pl := []) (zs := kC (By.zero 32)) (out := kC (By.zero 32)) Try.runUnderlying23 Try.sizeOf5 Try.zeroValue23 pn (by intro p hp; simp at hp) rfl) ?_
              refine g_yes rfl rfl ?_
              refine s_test (r_neqK keyT23 rfl rfl) (fun h106 => ?_) (fun h106 => ?_)
              · skip
                exact absurd rfl h106
              · skip
                refine g_yes rfl rfl ?_
                refine s_val (r_pickt rfl rfl) ?_
                refine s_val (r_pickf rfl rfl) ?_
                refine s_val (r_move rfl) ?_
                refine g_yes rfl rfl ?_
                refine s_val (r_move rfl) ?_
                refine g_yes rfl rfl ?_
                refine s_val (r_move rfl) ?_
                refine g_yes rfl rfl ?_
                refine s_val (r_move rfl) ?_
                refine g_yes rfl rfl ?_
                refine s_val (r_indexAddrS Try.runUnderlying24 Try.sizeOf31 rfl rfl (by omega) (by omega)) ?_
                refine g_yes rfl rfl ?_
                refine s_val (r_load1 Try.isAgg31 rfl (H.rd0 hbu2) (hm ▸ (u_get pre2 ms post2 j hpu2 (by omega) (by omega)))) ?_
                refine g_yes rfl rfl ?_
                refine s_val (r_lss rfl rfl) ?_
                refine g_yes rfl rfl ?_
                refine s_val (r_neqb Try.runUnderlying4 rfl rfl) ?_
                refine s_val (r_pickf rfl rfl) ?_
                refine c_nil (l' := [_, _, _, _, _, _, _, _, _, _, _, _, _, _, _, _, _, _, _, _, _, _, _, _, _, _, _, _, _, _, _, _, _, _, _, _, _, _, _, _, _, _, _, _, _, _, _, _, _, _, _, _, _, _, _, _, _, _, _, _, _, _, _, _, _, _, _, _, _, _, _, _, _, _, _, _, _, _, _, _, _, _, _, _, _, _, _, _, _, _, _, _, _, _, _, _, _, _, _, _, _, _, _, _, _, _, _, _, _, _, _, _, _, _, _, _, _, _, _, _, _, _, _, _, _, _, _]) rfl ?_
                refine c_ifb rfl (fun h117 => ?_) (fun h117 => ?_)
                · skip
                  rw [hd] at h117; exact absurd h117 (by decide)
                · skip
                  refine wp_skip ?_
                  refine x_blockNormal ?_
                  refine x_thenNormal ?_
                  refine c_region (n := 127) ⟨rfl, rfl⟩ ?_
                  refine s_val (r_move rfl) ?_
                  refine s_val (r_add rfl rfl (w_i64 (by omega) (by omega))) ?_
                  refine s_val (r_assign rfl) ?_
                  refine c_nil0 (l' := [_, _, _, _, _, _, _, _, _, _, _, _, _, _, _, _, _, _, _, _, _, _, _, _, _, _, _, _, _, _, _, _, _, _, _, _, _, _, _, _, _, _, _, _, _, _, _, _, _, _, _, _, _, _, _, _, _, _, _, _, _, _, _, _, _, _, _, _, _, _, _, _, _, _, _, _, _, _, _, _, _, _, _, _, _, _, _, _, _, _, _, _, _, _, _, _, _, _, _, _, _, _, _, _, _, _, _, _, _, _, _, _, _, _, _, _, _, _, _, _, _, _, _, _, _, _, _]) rfl ?_
                  replace H := H.sub (.cons _ (.cons _ (.cons_cons _ (List.Sublist.refl _))))
                  exact ⟨j + 1, _, rfl, ⟨_, _, _, _, _, _, _, _, _, _, _, _, _, _, _, _, _, _, _, _, _, _, _, _, _, _, _, _, _, _, _, _, _, _, _, _, _, _, _, _, _, _, _, _, _, _, _, _, _, _, _, _, _, _, _, _, _, _, _, _, _, _, _, _, _, _, _, rfl, by omega, H⟩, by omega⟩
            · skip
              have hd : (!(false == decide (m < 131072))) = false := by rw [decide_eq_false (fun h => hk2 (one_inM.2 ⟨hm0, h⟩))]; rfl
              replace H := H.quiet HC
              refine s_val (r_move rfl) ?_
              refine s_val (r_extract rfl rfl) ?_
              refine s_val (r_extract rfl rfl) ?_
              refine s_new (m_alloc (cs := (kC (By.zero 32))) H Try.zeroValue23 rfl) ?_
              intro w b14 H
              refine s_st (m_storen H 0 32 Try.sizeOf23 rfl rfl (by first | exact (kC_length _) | exact (hC_length _)) (by first | exact (kC_one _) | exact (hC_one _)) rfl (by first | exact (by rw [kC_length]; omega) | exact (by rw [hC_length]; omega)) (by first | exact (kC_sp _ _) | exact (hC_sp _ _))) (L' := (_ :: _ :: _ :: _)) rfl ?_
              intro w H
              refine s_val (r_assign rfl) ?_
              refine c_nil (l' := [_, _, _, _, _, _, _, _, _, _, _, _, _, _, _, _, _, _, _, _, _, _, _, _, _, _, _, _, _, _, _, _, _, _, _, _, _, _, _, _, _, _, _, _, _, _, _, _, _, _, _, _, _, _, _, _, _, _, _, _, _, _, _, _, _, _, _, _, _, _, _, _, _, _, _, _, _, _, _, _, _, _, _, _, _, _, _, _, _, _, _, _, _, _, _, _, _, _, _, _, _, _, _, _, _, _, _, _, _, _, _, _, _, _, _, _, _, _, _, _, _, _, _, _, _, _, _]) rfl ?_
              refine c_rseq (n := 127) ⟨rfl, rfl⟩ ?_
              refine s_val (r_move rfl) ?_
              refine s_val (r_move rfl) ?_
              refine s_val (r_move rfl) ?_
              refine g_no rfl rfl (by decide) ?_
              refine g_no rfl rfl (by decide) ?_
              refine g_no rfl rfl (by decide) ?_
              refine g_no rfl rfl (by decide) ?_
              refine g_no rfl rfl (by decide) ?_
              refine g_no rfl rfl (by decide) ?_
              refine g_no rfl rfl (by decide) ?_
              refine s_val (r_pickf rfl rfl) ?_
              refine s_val (r_neqb Try.runUnderlying4 rfl rfl) ?_
              refine s_val (r_move rfl) ?_
              refine g_yes rfl rfl ?_
              refine s_val (r_move rfl) ?_
              refine g_yes rfl rfl ?_
              refine s_val (r_move rfl) ?_
              refine g_no rfl rfl (by decide) ?_
              refine g_no rfl rfl (by decide) ?_
              refine g_no rfl rfl (by decide) ?_
              refine g_yes rfl rfl ?_
              refine s_val (r_pickf rfl rfl) ?_
              refine s_val (r_pickf rfl rfl) ?_
              refine s_val (r_move rfl) ?_
              refine g_yes rfl rfl ?_
              refine s_val (r_move rfl) ?_
              refine g_yes rfl rfl ?_
              refine s_val (r_not rfl) ?_
              refine g_yes rfl rfl ?_
              refine s_val (r_move rfl) ?_
              refine g_yes rfl rfl ?_
              refine s_val (r_loadn Try.isAgg23 Try.sizeOf23 rfl (H.at 1 rfl) (by first | exact (kC_td _) | exact (hC_td _) | exact (hC_seed _)) (by first | exact (kC_length _) | exact (hC_length _) | exact rfl)) ?_
              refine g_yes rfl rfl ?_
              refine s_val (r_buildA (pl := []) (zs := kC (By.zero 32)) (out := kC (By.zero 32)) Try.runUnderlying23 Try.sizeOf5 Try.zeroValue23 pn (by intro p hp; simp at hp) rfl) ?_
              refine g_yes rfl rfl ?_
              refine s_test (r_neqK keyT23 rfl rfl) (fun h106 => ?_) (fun h106 => ?_)
              · skip
                exact absurd rfl h106
              · skip
                refine g_yes rfl rfl ?_
                refine s_val (r_pickt rfl rfl) ?_
                refine s_val (r_pickf rfl rfl) ?_
                refine s_val (r_move rfl) ?_
                refine g_yes rfl rfl ?_
                refine s_val (r_move rfl) ?_
                refine g_yes rfl rfl ?_
                refine s_val (r_move rfl) ?_
                refine g_yes rfl rfl ?_
                refine s_val (r_move rfl) ?_
                refine g_yes rfl rfl ?_
                refine s_val (r_indexAddrS Try.runUnderlying24 Try.sizeOf31 rfl rfl (by omega) (by omega)) ?_
                refine g_yes rfl rfl ?_
                refine s_val (r_load1 Try.isAgg31 rfl (H.rd0 hbu2) (hm ▸ (u_get pre2 ms post2 j hpu2 (by omega) (by omega)))) ?_
                refine g_yes rfl rfl ?_
                refine s_val (r_lss rfl rfl) ?_
                refine g_yes rfl rfl ?_
                refine s_val (r_neqb Try.runUnderlying4 rfl rfl) ?_
                refine s_val (r_pickf rfl rfl) ?_
                refine c_nil (l' := [_, _, _, _, _, _, _, _, _, _, _, _, _, _, _, _, _, _, _, _, _, _, _, _, _, _, _, _, _, _, _, _, _, _, _, _, _, _, _, _, _, _, _, _, _, _, _, _, _, _, _, _, _, _, _, _, _, _, _, _, _, _, _, _, _, _, _, _, _, _, _, _, _, _, _, _, _, _, _, _, _, _, _, _, _, _, _, _, _, _, _, _, _, _, _, _, _, _, _, _, _, _, _, _, _, _, _, _, _, _, _, _, _, _, _, _, _, _, _, _, _, _, _, _, _, _, _]) rfl ?_
                refine c_ifb rfl (fun h117 => ?_) (fun h117 => ?_)
                · skip
                  rw [hd] at h117; exact absurd h117 (by decide)
                · skip
                  refine wp_skip ?_
                  refine x_blockNormal ?_
                  refine x_thenNormal ?_
                  refine c_region (n := 127) ⟨rfl, rfl⟩ ?_
                  refine s_val (r_move rfl) ?_
                  refine s_val (r_add rfl rfl (w_i64 (by omega) (by omega))) ?_
                  refine s_val (r_assign rfl) ?_
                  refine c_nil0 (l' := [_, _, _, _, _, _, _, _, _, _, _, _, _, _, _, _, _, _, _, _, _, _, _, _, _, _, _, _, _, _, _, _, _, _, _, _, _, _, _, _, _, _, _, _, _, _, _, _, _, _, _, _, _, _, _, _, _, _, _, _, _, _, _, _, _, _, _, _, _, _, _, _, _, _, _, _, _, _, _, _, _, _, _, _, _, _, _, _, _, _, _, _, _, _, _, _, _, _, _, _, _, _, _, _, _, _, _, _, _, _, _, _, _, _, _, _, _, _, _, _, _, _, _, _, _, _, _]) rfl ?_
                  replace H := H.sub (.cons _ (.cons _ (.cons_cons _ (List.Sublist.refl _))))
                  exact ⟨j + 1, _, rfl, ⟨_, _, _, _, _, _, _, _, _, _, _, _, _, _, _, _, _, _, _, _, _, _, _, _, _, _, _, _, _, _, _, _, _, _, _, _, _, _, _, _, _, _, _, _, _, _, _, _, _, _, _, _, _, _, _, _, _, _, _, _, _, _, _, _, _, _, _, rfl, by omega, H⟩, by omega⟩
        · skip
          skip
          refine wp_exit (x_thenExit (x_thenExit (x_blockHit ?_)))
          refine x_thenNormal ?_
          refine c_seq ?_
          refine c_rseq (n := 127) ⟨rfl, rfl⟩ ?_
          refine s_val (r_move rfl) ?_
          refine s_new (m_range H Try.runUnderlying39 rfl (H.at 0 rfl)) ?_
          intro w br H
          refine c_nil (l' := [_, _, _, _, _, _, _, _, _, _, _, _, _, _, _, _, _, _, _, _, _, _, _, _, _, _, _, _, _, _, _, _, _, _, _, _, _, _, _, _, _, _, _, _, _, _, _, _, _, _, _, _, _, _, _, _, _, _, _, _, _, _, _, _, _, _, _, _, _, _, _, _, _, _, _, _, _, _, _, _, _, _, _, _, _, _, _, _, _, _, _, _, _, _, _, _, _, _, _, _, _, _, _, _, _, _, _, _, _, _, _, _, _, _, _, _, _, _, _, _, _, _, _, _, _, _, _]) rfl ?_
          refine wp_block ?_
          refine c_loop (fun (l0 : List Value) (q : Nat) (l : List Value) (w : World) => ∃ (u6 u16 u120 u121 u122 u123 u124 u125 u126 : Value) (seen : List Nat), l = ovr l0 [N_, N_, N_, N_, N_, N_, Y_ u6, N_, N_, N_, N_, N_, N_, N_, N_, N_, Y_ u16, N_, N_, N_, N_, N_, N_, N_, N_, N_, N_, N_, N_, N_, N_, N_, N_, N_, N_, N_, N_, N_, N_, N_, N_, N_, N_, N_, N_, N_, N_, N_, N_, N_, N_, N_, N_, N_, N_, N_, N_, N_, N_, N_, N_, N_, N_, N_, N_, N_, N_, N_, N_, N_, N_, N_, N_, N_, N_, N_, N_, N_, N_, N_, N_, N_, N_, N_, N_, N_, N_, N_, N_, N_, N_, N_, N_, N_, N_, N_, N_, N_, N_, N_, N_, N_, N_, N_, N_, N_, N_, N_, N_, N_, N_, N_, N_, N_, N_, N_, N_, N_, N_, N_, Y_ u120, Y_ u121, Y_ u122, Y_ u123, Y_ u124, Y_ u125, Y_ u126] ∧ q = leftN ls.length seen ∧ St w0 [] w ((br, itO bm ls seen) :: (bm, mapO ls) :: Na ++ Nw)) (fun (q : Nat) => q) (leftN ls.length []) ⟨_, _, _, _, _, _, _, _, _, [], rfl, rfl, H⟩ ?_
          intro q l w ⟨u6, u16, u120, u121, u122, u123, u124, u125, u126, seen, hl, hq, H⟩
          obtain rfl := hl.trans (rfl : _ = [_, _, _, _, _, _, _, _, _, _, _, _, _, _, _, _, _, _, _, _, _, _, _, _, _, _, _, _, _, _, _, _, _, _, _, _, _, _, _, _, _, _, _, _, _, _, _, _, _, _, _, _, _, _, _, _, _, _, _, _, _, _, _, _, _, _, _, _, _, _, _, _, _, _, _, _, _, _, _, _, _, _, _, _, _, _, _, _, _, _, _, _, _, _, _, _, _, _, _, _, _, _, _, _, _, _, _, _, _, _, _, _, _, _, _, _, _, _, _, _, _, _, _, _, _, _, _])
          clear hl
          refine c_rseq (n := 127) ⟨rfl, rfl⟩ ?_
          refine s_any (m_next H 0 rfl rfl (H.at 1 rfl)) ?_
          rintro v w ⟨more, rest, seen2, rfl, hmore, H⟩
          skip
          refine s_val (r_extract rfl rfl) ?_
          refine c_nil (l' := [_, _, _, _, _, _, _, _, _, _, _, _, _, _, _, _, _, _, _, _, _, _, _, _, _, _, _, _, _, _, _, _, _, _, _, _, _, _, _, _, _, _, _, _, _, _, _, _, _, _, _, _, _, _, _, _, _, _, _, _, _, _, _, _, _, _, _, _, _, _, _, _, _, _, _, _, _, _, _, _, _, _, _, _, _, _, _, _, _, _, _, _, _, _, _, _, _, _, _, _, _, _, _, _, _, _, _, _, _, _, _, _, _, _, _, _, _, _, _, _, _, _, _, _, _, _, _]) rfl ?_
          refine c_seq ?_
          refine c_ifb rfl (fun h121 => ?_) (fun h121 => ?_)
          · skip
            obtain ⟨ii, n, hin, hns, rfl⟩ := hmore h121
            have hnm : n ∈ ls := List.mem_of_getElem? hin
            have hnq : ¬ ∃ x ∈ xs, InN x n := by rw [hxs]; exact gone ((hls n).1 hnm)
            refine wp_skip ?_
            refine x_thenNormal ?_
            refine wp_block ?_
            refine c_rseq (n := 127) ⟨rfl, rfl⟩ ?_
            refine s_val (r_entry rfl (H.at 0 rfl) (H.at 1 rfl) hin) ?_
            refine s_val (r_extract rfl rfl) ?_
            refine s_val (r_assign rfl) ?_
            refine c_nil (l' := [_, _, _, _, _, _, _, _, _, _, _, _, _, _, _, _, _, _, _, _, _, _, _, _, _, _, _, _, _, _, _, _, _, _, _, _, _, _, _, _, _, _, _, _, _, _, _, _, _, _, _, _, _, _, _, _, _, _, _, _, _, _, _, _, _, _, _, _, _, _, _, _, _, _, _, _, _, _, _, _, _, _, _, _, _, _, _, _, _, _, _, _, _, _, _, _, _, _, _, _, _, _, _, _, _, _, _, _, _, _, _, _, _, _, _, _, _, _, _, _, _, _, _, _, _, _, _]) rfl ?_
            refine c_rseq (n := 127) ⟨rfl, rfl⟩ ?_
            refine s_val (r_move rfl) ?_
            refine s_val (r_move rfl) ?_
            refine s_call (r_call Try.call23 (ec rfl (ec rfl en))) (has_spec _ _ xs Na (by omega) hvx n (hlu n hnm) _ hTa (H.ownsM (.cons _ (.cons _ (List.sublist_append_left _ _))))) ?_
            rintro v w ⟨hv126, HC⟩
            rw [decide_eq_false hnq] at hv126
            subst hv126
            replace H := H.quiet HC
            refine c_nil (l' := [_, _, _, _, _, _, _, _, _, _, _, _, _, _, _, _, _, _, _, _, _, _, _, _, _, _, _, _, _, _, _, _, _, _, _, _, _, _, _, _, _, _, _, _, _, _, _, _, _, _, _, _, _, _, _, _, _, _, _, _, _, _, _, _, _, _, _, _, _, _, _, _, _, _, _, _, _, _, _, _, _, _, _, _, _, _, _, _, _, _, _, _, _, _, _, _, _, _, _, _, _, _, _, _, _, _, _, _, _, _, _, _, _, _, _, _, _, _, _, _, _, _, _, _, _, _, _]) rfl ?_
            refine c_iff rfl ?_
            refine wp_skip ?_
            refine x_blockNormal ?_
            exact ⟨(leftN ls.length (seen ++ [ii])), _, rfl, ⟨_, _, _, _, _, _, _, _, _, _, rfl, rfl, H⟩, by rw [hq]; exact leftN_lt (List.getElem?_eq_some_iff.1 hin).1 hns⟩
          · skip
            skip
            refine wp_exit (x_thenExit (x_thenExit (x_blockHit ?_)))
            refine x_thenNormal ?_
            refine c_rseq (n := 127) ⟨rfl, rfl⟩ ?_
            refine s_val (r_assign rfl) ?_
            refine c_nil (l' := [_, _, _, _, _, _, _, _, _, _, _, _, _, _, _, _, _, _, _, _, _, _, _, _, _, _, _, _, _, _, _, _, _, _, _, _, _, _, _, _, _, _, _, _, _, _, _, _, _, _, _, _, _, _, _, _, _, _, _, _, _, _, _, _, _, _, _, _, _, _, _, _, _, _, _, _, _, _, _, _, _, _, _, _, _, _, _, _, _, _, _, _, _, _, _, _, _, _, _, _, _, _, _, _, _, _, _, _, _, _, _, _, _, _, _, _, _, _, _, _, _, _, _, _, _, _, _]) rfl ?_
            refine wp_ret ?_
            refine e_ret (res1 rfl rfl) ⟨_, rfl, ?_⟩
            exact ⟨rfl, H.sub (List.nil_sublist _)⟩

end Go.Proofs.Ytblphhclfloodaa
