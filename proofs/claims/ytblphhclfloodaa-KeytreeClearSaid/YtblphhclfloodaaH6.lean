import Derived.Test.YtblphhclfloodaaG3
import Derived.Test.YtblphhclfloodaaG5
import Derived.Test.YtblphhclfloodaaM2
namespace Go.Proofs.Ytblphhclfloodaa
open Go Go.Er

set_option maxHeartbeats 4000000 in
set_option maxRecDepth 20000 in
theorem clear_spec (seed : Key) (a : Option Addr) (cap : Nat) (ns : List Int) (hu : U64 ns) (w0 : World) (hr : URow w0 a ns) :
    Calls Try.prog 4 #[.agg (kC seed).toArray, .slice a ns.length cap] w0 fun e w => ∃ v, e = .returned v ∧ (v = .bool true ∧ St w0 [] w []) := by
  have H := St.refl w0
  refine c_enter (args := [.agg (kC seed).toArray, .slice a ns.length cap]) (l := [.agg (kC seed).toArray, .slice a ns.length cap, undef, undef, undef, undef, undef, undef, undef, undef, undef, undef, undef, undef, undef, undef, undef, undef, undef, undef, undef, undef, undef, undef, undef, undef, undef, undef, undef, undef, undef, undef, undef, undef, undef, undef, undef, undef, undef, undef, undef, undef, undef, undef, undef, undef, undef, undef, undef, undef, undef, undef, undef, undef, undef, undef, undef, undef, undef, undef, undef, undef, undef, undef, undef, undef, undef, undef, undef, undef, undef, undef, undef, undef, undef, undef, undef, undef, undef, undef, undef, undef, undef, undef, undef, undef, undef, undef, undef, undef, undef, undef, undef, undef, undef, undef, undef, undef, undef, undef, undef, undef, undef, undef, undef, undef, undef, undef, undef, undef, undef, undef, undef, undef, undef, undef, undef, undef, undef, undef, undef, undef, undef, undef]) Try.func4 Try.ntmps4 rfl rfl ?_
  refine c_rseq (n := 124) ⟨rfl, rfl⟩ ?_
  refine s_new (m_box (cs := (kC seed)) H rfl rfl) ?_
  intro w b2 H
  refine s_val (r_assign rfl) ?_
  refine c_nil (l' := [_, _, _, _, _, _, _, _, _, _, _, _, _, _, _, _, _, _, _, _, _, _, _, _, _, _, _, _, _, _, _, _, _, _, _, _, _, _, _, _, _, _, _, _, _, _, _, _, _, _, _, _, _, _, _, _, _, _, _, _, _, _, _, _, _, _, _, _, _, _, _, _, _, _, _, _, _, _, _, _, _, _, _, _, _, _, _, _, _, _, _, _, _, _, _, _, _, _, _, _, _, _, _, _, _, _, _, _, _, _, _, _, _, _, _, _, _, _, _, _, _, _, _, _]) rfl ?_
  refine c_seq ?_
  refine c_rseq (n := 124) ⟨rfl, rfl⟩ ?_
  refine s_call (r_call Try.call12 en) (awake_spec _) ?_
  rintro v w ⟨rfl, HC⟩
  replace H := H.quiet HC
  refine s_val (r_not rfl) ?_
  refine s_val (r_move rfl) ?_
  refine g_yes rfl rfl ?_
  refine s_val (r_move rfl) ?_
  refine g_yes rfl rfl ?_
  refine s_val (r_lens Try.runUnderlying24 (ec rfl en)) ?_
  refine g_yes rfl rfl ?_
  refine s_val (r_gtr rfl rfl) ?_
  refine s_val (r_pickf rfl rfl) ?_
  refine c_nil (l' := [_, _, _, _, _, _, _, _, _, _, _, _, _, _, _, _, _, _, _, _, _, _, _, _, _, _, _, _, _, _, _, _, _, _, _, _, _, _, _, _, _, _, _, _, _, _, _, _, _, _, _, _, _, _, _, _, _, _, _, _, _, _, _, _, _, _, _, _, _, _, _, _, _, _, _, _, _, _, _, _, _, _, _, _, _, _, _, _, _, _, _, _, _, _, _, _, _, _, _, _, _, _, _, _, _, _, _, _, _, _, _, _, _, _, _, _, _, _, _, _, _, _, _, _]) rfl ?_
  refine c_if rfl (fun h20 => ?_) (fun h20 => ?_)
  · skip
    skip
    refine c_rseq (n := 124) ⟨rfl, rfl⟩ ?_
    refine s_call (r_call Try.call12 en) (awake_spec _) ?_
    rintro v w ⟨rfl, HC⟩
    replace H := H.quiet HC
    refine s_val (r_assign rfl) ?_
    refine c_nil (l' := [_, _, _, _, _, _, _, _, _, _, _, _, _, _, _, _, _, _, _, _, _, _, _, _, _, _, _, _, _, _, _, _, _, _, _, _, _, _, _, _, _, _, _, _, _, _, _, _, _, _, _, _, _, _, _, _, _, _, _, _, _, _, _, _, _, _, _, _, _, _, _, _, _, _, _, _, _, _, _, _, _, _, _, _, _, _, _, _, _, _, _, _, _, _, _, _, _, _, _, _, _, _, _, _, _, _, _, _, _, _, _, _, _, _, _, _, _, _, _, _, _, _, _, _]) rfl ?_
    refine wp_ret (x_thenRet ?_)
    refine e_ret (res1 rfl rfl) ⟨_, rfl, ?_⟩
    exact ⟨rfl, H.sub (List.nil_sublist _)⟩
  · skip
    skip
    refine wp_skip ?_
    refine x_thenNormal ?_
    refine c_rseq (n := 124) ⟨rfl, rfl⟩ ?_
    refine s_val (r_buildS Try.runUnderlying29 Try.zeroValue29 places29 pn rfl) ?_
    refine s_val (r_makeIface Try.runUnderlying29 (fun _ h => nomatch h) rfl) ?_
    refine s_val (r_loadn Try.isAgg23 Try.sizeOf23 rfl (H.at 0 rfl) (by first | exact (kC_td _) | exact (hC_td _) | exact (hC_seed _)) (by first | exact (kC_length _) | exact (hC_length _) | exact rfl)) ?_
    refine s_call (r_call Try.call13 (ec rfl (ec rfl en))) (new_spec _ _ splitL splitR splits_little _) ?_
    rintro v w ⟨bt, N, rfl, hT, HC⟩
    replace H : St w0 [] _ (_ :: N) := (H.call0 HC).perm (List.perm_append_comm (l₁ := [_]))
    refine s_val (r_assign rfl) ?_
    refine c_nil (l' := [_, _, _, _, _, _, _, _, _, _, _, _, _, _, _, _, _, _, _, _, _, _, _, _, _, _, _, _, _, _, _, _, _, _, _, _, _, _, _, _, _, _, _, _, _, _, _, _, _, _, _, _, _, _, _, _, _, _, _, _, _, _, _, _, _, _, _, _, _, _, _, _, _, _, _, _, _, _, _, _, _, _, _, _, _, _, _, _, _, _, _, _, _, _, _, _, _, _, _, _, _, _, _, _, _, _, _, _, _, _, _, _, _, _, _, _, _, _, _, _, _, _, _, _]) rfl ?_
    refine c_rseq (n := 124) ⟨rfl, rfl⟩ ?_
    refine s_new (m_makeMap H) ?_
    intro w bm H
    refine s_val (r_assign rfl) ?_
    refine c_nil (l' := [_, _, _, _, _, _, _, _, _, _, _, _, _, _, _, _, _, _, _, _, _, _, _, _, _, _, _, _, _, _, _, _, _, _, _, _, _, _, _, _, _, _, _, _, _, _, _, _, _, _, _, _, _, _, _, _, _, _, _, _, _, _, _, _, _, _, _, _, _, _, _, _, _, _, _, _, _, _, _, _, _, _, _, _, _, _, _, _, _, _, _, _, _, _, _, _, _, _, _, _, _, _, _, _, _, _, _, _, _, _, _, _, _, _, _, _, _, _, _, _, _, _, _, _]) rfl ?_
    refine c_seq ?_
    refine c_rseq (n := 124) ⟨rfl, rfl⟩ ?_
    refine s_val (r_assign rfl) ?_
    refine c_nil (l' := [_, _, _, _, _, _, _, _, _, _, _, _, _, _, _, _, _, _, _, _, _, _, _, _, _, _, _, _, _, _, _, _, _, _, _, _, _, _, _, _, _, _, _, _, _, _, _, _, _, _, _, _, _, _, _, _, _, _, _, _, _, _, _, _, _, _, _, _, _, _, _, _, _, _, _, _, _, _, _, _, _, _, _, _, _, _, _, _, _, _, _, _, _, _, _, _, _, _, _, _, _, _, _, _, _, _, _, _, _, _, _, _, _, _, _, _, _, _, _, _, _, _, _, _]) rfl ?_
    refine wp_block ?_
    refine c_loop (fun (l0 : List Value) (i : Nat) (l : List Value) (w : World) => ∃ (u27 u28 u29 u30 u31 u32 u33 u34 u35 u36 u37 u38 u39 u40 u41 u42 u43 u44 u45 u46 u47 u48 : Value) (N : List (Nat × Obj)) (la ls : List Int) (xs : List Held), l = ovr l0 [N_, N_, N_, N_, N_, N_, N_, Y_ (.int .i64 i), N_, N_, N_, N_, N_, N_, N_, N_, N_, N_, N_, N_, N_, N_, N_, N_, N_, N_, N_, Y_ u27, Y_ u28, Y_ u29, Y_ u30, Y_ u31, Y_ u32, Y_ u33, Y_ u34, Y_ u35, Y_ u36, Y_ u37, Y_ u38, Y_ u39, Y_ u40, Y_ u41, Y_ u42, Y_ u43, Y_ u44, Y_ u45, Y_ u46, Y_ u47, Y_ u48] ∧ i ≤ ns.length ∧ xs = tree0 splitL splitR seed la ∧ TreeN 68 41 bt (.iface 29 (.agg #[])) xs N ∧ Lost splitL splitR seed la ls ∧ ls.length ≤ i ∧ xs.length ≤ 1 + 17 * i ∧ St w0 [] w ((bm, mapO ls) :: N)) (fun (i : Nat) => ns.length - i) 0 ⟨_, _, _, _, _, _, _, _, _, _, _, _, _, _, _, _, _, _, _, _, _, _, N, [], [], [root seed], rfl, by omega, tree0_nil.symm, hT, lost_nil, Nat.le_refl _, by show 1 ≤ _; omega, (H.sub (.cons_cons _ (.cons _ (List.Sublist.refl _))))⟩ ?_
    intro i l w ⟨u27, u28, u29, u30, u31, u32, u33, u34, u35, u36, u37, u38, u39, u40, u41, u42, u43, u44, u45, u46, u47, u48, N, la, ls, xs, hl, hi, hxs, hT, hlo, hll, hlx, H⟩
    obtain rfl := hl.trans (rfl : _ = [_, _, _, _, _, _, _, _, _, _, _, _, _, _, _, _, _, _, _, _, _, _, _, _, _, _, _, _, _, _, _, _, _, _, _, _, _, _, _, _, _, _, _, _, _, _, _, _, _, _, _, _, _, _, _, _, _, _, _, _, _, _, _, _, _, _, _, _, _, _, _, _, _, _, _, _, _, _, _, _, _, _, _, _, _, _, _, _, _, _, _, _, _, _, _, _, _, _, _, _, _, _, _, _, _, _, _, _, _, _, _, _, _, _, _, _, _, _, _, _, _, _, _, _])
    clear hl
    have hvx : Valid xs := by rw [hxs]; exact tree0_valid la
    refine c_seq ?_
    refine c_rseq (n := 124) ⟨rfl, rfl⟩ ?_
    refine s_val (r_move rfl) ?_
    refine s_val (r_move rfl) ?_
    refine s_val (r_lens Try.runUnderlying24 (ec rfl en)) ?_
    refine s_val (r_lss rfl rfl) ?_
    refine c_nil (l' := [_, _, _, _, _, _, _, _, _, _, _, _, _, _, _, _, _, _, _, _, _, _, _, _, _, _, _, _, _, _, _, _, _, _, _, _, _, _, _, _, _, _, _, _, _, _, _, _, _, _, _, _, _, _, _, _, _, _, _, _, _, _, _, _, _, _, _, _, _, _, _, _, _, _, _, _, _, _, _, _, _, _, _, _, _, _, _, _, _, _, _, _, _, _, _, _, _, _, _, _, _, _, _, _, _, _, _, _, _, _, _, _, _, _, _, _, _, _, _, _, _, _, _, _]) rfl ?_
    refine c_if rfl (fun h30 => ?_) (fun h30 => ?_)
    · skip
      obtain ⟨bu, off, pre, post, T, fz, rfl, hbu, hpu⟩ := hr (by omega)
      obtain ⟨hn0, hn1⟩ := hu.get (i := i) (by omega)
      have hlp := len_tree (sl := splitL) (sr := splitR) (n := ns.getD i 0) hvx
      refine wp_skip ?_
      refine x_thenNormal ?_
      refine c_seq ?_
      refine wp_block ?_
      refine c_rseq (n := 124) ⟨rfl, rfl⟩ ?_
      refine s_val (r_move rfl) ?_
      refine s_val (r_move rfl) ?_
      refine s_val (r_move rfl) ?_
      refine s_val (r_indexAddrS Try.runUnderlying24 Try.sizeOf31 rfl rfl (by omega) (by omega)) ?_
      refine s_val (r_load1 Try.isAgg31 rfl (H.rd0 hbu) (u_get pre ns post i hpu (by omega) (by omega))) ?_
      refine s_call (r_call Try.call14 (ec rfl (ec rfl en))) (punc_t _ _ xs (ns.getD i 0) N splitL splitR splits_little (by omega) hvx hn0 hn1 _ hT (H.ownsM (.cons _ (List.Sublist.refl _)))) ?_
      rintro v w ⟨rfl, N2, hT2, HC⟩
      replace H : St w0 [] _ (_ :: N2) := St.callr (L := [_]) H HC
      refine c_nil (l' := [_, _, _, _, _, _, _, _, _, _, _, _, _, _, _, _, _, _, _, _, _, _, _, _, _, _, _, _, _, _, _, _, _, _, _, _, _, _, _, _, _, _, _, _, _, _, _, _, _, _, _, _, _, _, _, _, _, _, _, _, _, _, _, _, _, _, _, _, _, _, _, _, _, _, _, _, _, _, _, _, _, _, _, _, _, _, _, _, _, _, _, _, _, _, _, _, _, _, _, _, _, _, _, _, _, _, _, _, _, _, _, _, _, _, _, _, _, _, _, _, _, _, _, _]) rfl ?_
      refine c_rseq (n := 124) ⟨rfl, rfl⟩ ?_
      refine s_val (r_move rfl) ?_
      refine s_val (r_move rfl) ?_
      refine s_val (r_indexAddrS Try.runUnderlying24 Try.sizeOf31 rfl rfl (by omega) (by omega)) ?_
      refine s_val (r_load1 Try.isAgg31 rfl (H.rd0 hbu) (u_get pre ns post i hpu (by omega) (by omega))) ?_
      refine s_val (r_lss rfl rfl) ?_
      refine c_nil (l' := [_, _, _, _, _, _, _, _, _, _, _, _, _, _, _, _, _, _, _, _, _, _, _, _, _, _, _, _, _, _, _, _, _, _, _, _, _, _, _, _, _, _, _, _, _, _, _, _, _, _, _, _, _, _, _, _, _, _, _, _, _, _, _, _, _, _, _, _, _, _, _, _, _, _, _, _, _, _, _, _, _, _, _, _, _, _, _, _, _, _, _, _, _, _, _, _, _, _, _, _, _, _, _, _, _, _, _, _, _, _, _, _, _, _, _, _, _, _, _, _, _, _, _, _]) rfl ?_
      refine c_if rfl (fun h43 => ?_) (fun h43 => ?_)
      · skip
        refine c_region (n := 124) ⟨rfl, rfl⟩ ?_
        refine s_val (r_move rfl) ?_
        refine s_val (r_move rfl) ?_
        refine s_val (r_move rfl) ?_
        refine s_val (r_indexAddrS Try.runUnderlying24 Try.sizeOf31 rfl rfl (by omega) (by omega)) ?_
        refine s_val (r_load1 Try.isAgg31 rfl (H.rd0 hbu) (u_get pre ns post i hpu (by omega) (by omega))) ?_
        refine s_st (m_mapUpdate H 0 Try.runUnderlying39 Try.runUnderlying31 rfl rfl rfl rfl) (L' := (_ :: _)) rfl ?_
        intro w H
        refine c_nil0 (l' := [_, _, _, _, _, _, _, _, _, _, _, _, _, _, _, _, _, _, _, _, _, _, _, _, _, _, _, _, _, _, _, _, _, _, _, _, _, _, _, _, _, _, _, _, _, _, _, _, _, _, _, _, _, _, _, _, _, _, _, _, _, _, _, _, _, _, _, _, _, _, _, _, _, _, _, _, _, _, _, _, _, _, _, _, _, _, _, _, _, _, _, _, _, _, _, _, _, _, _, _, _, _, _, _, _, _, _, _, _, _, _, _, _, _, _, _, _, _, _, _, _, _, _, _]) rfl ?_
        refine x_blockNormal ?_
        refine x_thenNormal ?_
        refine c_region (n := 124) ⟨rfl, rfl⟩ ?_
        refine s_val (r_move rfl) ?_
        refine s_val (r_add rfl rfl (w_i64 (by omega) (by omega))) ?_
        refine s_val (r_assign rfl) ?_
        refine c_nil0 (l' := [_, _, _, _, _, _, _, _, _, _, _, _, _, _, _, _, _, _, _, _, _, _, _, _, _, _, _, _, _, _, _, _, _, _, _, _, _, _, _, _, _, _, _, _, _, _, _, _, _, _, _, _, _, _, _, _, _, _, _, _, _, _, _, _, _, _, _, _, _, _, _, _, _, _, _, _, _, _, _, _, _, _, _, _, _, _, _, _, _, _, _, _, _, _, _, _, _, _, _, _, _, _, _, _, _, _, _, _, _, _, _, _, _, _, _, _, _, _, _, _, _, _, _, _]) rfl ?_
        exact ⟨i + 1, _, rfl, ⟨_, _, _, _, _, _, _, _, _, _, _, _, _, _, _, _, _, _, _, _, _, _, N2, _, _, (punc splitL splitR xs (ns.getD i 0)), rfl, by omega, by rw [hxs, tree0_punc], hT2, (lost_in hlo hn0 h43), by have := ins_length ls (ns.getD i 0); omega, by omega, H⟩, by omega⟩
      · skip
        refine wp_skip ?_
        refine x_blockNormal ?_
        refine x_thenNormal ?_
        refine c_region (n := 124) ⟨rfl, rfl⟩ ?_
        refine s_val (r_move rfl) ?_
        refine s_val (r_add rfl rfl (w_i64 (by omega) (by omega))) ?_
        refine s_val (r_assign rfl) ?_
        refine c_nil0 (l' := [_, _, _, _, _, _, _, _, _, _, _, _, _, _, _, _, _, _, _, _, _, _, _, _, _, _, _, _, _, _, _, _, _, _, _, _, _, _, _, _, _, _, _, _, _, _, _, _, _, _, _, _, _, _, _, _, _, _, _, _, _, _, _, _, _, _, _, _, _, _, _, _, _, _, _, _, _, _, _, _, _, _, _, _, _, _, _, _, _, _, _, _, _, _, _, _, _, _, _, _, _, _, _, _, _, _, _, _, _, _, _, _, _, _, _, _, _, _, _, _, _, _, _, _]) rfl ?_
        exact ⟨i + 1, _, rfl, ⟨_, _, _, _, _, _, _, _, _, _, _, _, _, _, _, _, _, _, _, _, _, _, N2, _, ls, (punc splitL splitR xs (ns.getD i 0)), rfl, by omega, by rw [hxs, tree0_punc], hT2, (lost_out hlo h43), by omega, by omega, H⟩, by omega⟩
    · skip
      obtain ⟨hmem, hcn, hlx2⟩ := hlo
      rw [← hxs] at hcn hlx2
      have hgo : ∀ n ∈ ls, ¬ ∃ x ∈ xs, InN x n := fun n hn => by rw [hxs]; exact gone ((hmem n).1 hn).1
      refine wp_exit (x_thenExit (x_thenExit (x_blockHit ?_)))
      refine x_thenNormal ?_
      refine c_rseq (n := 124) ⟨rfl, rfl⟩ ?_
      refine s_val (r_assign rfl) ?_
      refine s_val (r_assign rfl) ?_
      refine c_nil (l' := [_, _, _, _, _, _, _, _, _, _, _, _, _, _, _, _, _, _, _, _, _, _, _, _, _, _, _, _, _, _, _, _, _, _, _, _, _, _, _, _, _, _, _, _, _, _, _, _, _, _, _, _, _, _, _, _, _, _, _, _, _, _, _, _, _, _, _, _, _, _, _, _, _, _, _, _, _, _, _, _, _, _, _, _, _, _, _, _, _, _, _, _, _, _, _, _, _, _, _, _, _, _, _, _, _, _, _, _, _, _, _, _, _, _, _, _, _, _, _, _, _, _, _, _]) rfl ?_
      refine c_seq ?_
      refine c_rseq (n := 124) ⟨rfl, rfl⟩ ?_
      refine s_val (r_move rfl) ?_
      refine s_call (r_call Try.call17 (ec rfl en)) (held_spec _ _ xs N (by omega) hvx _ hT (H.ownsM (.cons _ (List.Sublist.refl _)))) ?_
      rintro v w ⟨ah, caph, Nh, rfl, hNh, HC⟩
      replace H : St w0 [] _ (_ :: (Nh ++ N)) := (H.call0 HC).perm List.perm_middle.symm
      refine s_val (r_lens Try.runUnderlying35 (ec rfl en)) ?_
      refine s_val (r_move rfl) ?_
      refine c_nil (l' := [_, _, _, _, _, _, _, _, _, _, _, _, _, _, _, _, _, _, _, _, _, _, _, _, _, _, _, _, _, _, _, _, _, _, _, _, _, _, _, _, _, _, _, _, _, _, _, _, _, _, _, _, _, _, _, _, _, _, _, _, _, _, _, _, _, _, _, _, _, _, _, _, _, _, _, _, _, _, _, _, _, _, _, _, _, _, _, _, _, _, _, _, _, _, _, _, _, _, _, _, _, _, _, _, _, _, _, _, _, _, _, _, _, _, _, _, _, _, _, _, _, _, _, _]) rfl ?_
      refine wp_block ?_
      refine c_loop (fun (l0 : List Value) (k : Nat) (l : List Value) (w : World) => ∃ (u4 u11 u12 u13 u53 u54 u55 u56 u57 u58 u59 u60 u61 u62 u63 u64 u65 u66 u67 u68 u69 u70 u71 u72 u73 u74 u75 u76 u77 u78 u79 u80 u81 u82 u83 u84 u85 u86 u87 u88 u89 u90 u91 u92 u93 u94 u95 u96 u97 u98 u99 u100 : Value) (e : Int), l = ovr l0 [N_, N_, N_, N_, Y_ u4, N_, N_, N_, Y_ (.int .u64 e), Y_ (.int .u64 (cnt (xs.take k))), N_, Y_ u11, Y_ u12, Y_ u13, N_, N_, N_, N_, N_, N_, N_, N_, N_, N_, N_, N_, N_, N_, N_, N_, N_, N_, N_, N_, N_, N_, N_, N_, N_, N_, N_, N_, N_, N_, N_, N_, N_, N_, N_, N_, N_, N_, Y_ (.int .i64 k), Y_ u53, Y_ u54, Y_ u55, Y_ u56, Y_ u57, Y_ u58, Y_ u59, Y_ u60, Y_ u61, Y_ u62, Y_ u63, Y_ u64, Y_ u65, Y_ u66, Y_ u67, Y_ u68, Y_ u69, Y_ u70, Y_ u71, Y_ u72, Y_ u73, Y_ u74, Y_ u75, Y_ u76, Y_ u77, Y_ u78, Y_ u79, Y_ u80, Y_ u81, Y_ u82, Y_ u83, Y_ u84, Y_ u85, Y_ u86, Y_ u87, Y_ u88, Y_ u89, Y_ u90, Y_ u91, Y_ u92, Y_ u93, Y_ u94, Y_ u95, Y_ u96, Y_ u97, Y_ u98, Y_ u99, Y_ u100] ∧ k ≤ xs.length ∧ okFrom e (xs.drop k) ∧ 0 ≤ e ∧ e ≤ 131072 ∧ St w0 [] w ((bm, mapO ls) :: Nh ++ N)) (fun (k : Nat) => xs.length - k) 0 ⟨_, _, _, _, _, _, _, _, _, _, _, _, _, _, _, _, _, _, _, _, _, _, _, _, _, _, _, _, _, _, _, _, _, _, _, _, _, _, _, _, _, _, _, _, _, _, _, _, _, _, _, _, 0, rfl, by omega, hvx, by omega, by omega, H⟩ ?_
      intro k l w ⟨u4, u11, u12, u13, u53, u54, u55, u56, u57, u58, u59, u60, u61, u62, u63, u64, u65, u66, u67, u68, u69, u70, u71, u72, u73, u74, u75, u76, u77, u78, u79, u80, u81, u82, u83, u84, u85, u86, u87, u88, u89, u90, u91, u92, u93, u94, u95, u96, u97, u98, u99, u100, e, hl, hk, hok, he0, he1, H⟩
      obtain rfl := hl.trans (rfl : _ = [_, _, _, _, _, _, _, _, _, _, _, _, _, _, _, _, _, _, _, _, _, _, _, _, _, _, _, _, _, _, _, _, _, _, _, _, _, _, _, _, _, _, _, _, _, _, _, _, _, _, _, _, _, _, _, _, _, _, _, _, _, _, _, _, _, _, _, _, _, _, _, _, _, _, _, _, _, _, _, _, _, _, _, _, _, _, _, _, _, _, _, _, _, _, _, _, _, _, _, _, _, _, _, _, _, _, _, _, _, _, _, _, _, _, _, _, _, _, _, _, _, _, _, _])
      clear hl
      have hcb := cnt_takeb hvx k
      refine c_rseq (n := 124) ⟨rfl, rfl⟩ ?_
      refine s_val (r_lss rfl rfl) ?_
      refine c_nil (l' := [_, _, _, _, _, _, _, _, _, _, _, _, _, _, _, _, _, _, _, _, _, _, _, _, _, _, _, _, _, _, _, _, _, _, _, _, _, _, _, _, _, _, _, _, _, _, _, _, _, _, _, _, _, _, _, _, _, _, _, _, _, _, _, _, _, _, _, _, _, _, _, _, _, _, _, _, _, _, _, _, _, _, _, _, _, _, _, _, _, _, _, _, _, _, _, _, _, _, _, _, _, _, _, _, _, _, _, _, _, _, _, _, _, _, _, _, _, _, _, _, _, _, _, _]) rfl ?_
      refine c_seq ?_
      refine c_if rfl (fun h53 => ?_) (fun h53 => ?_)
      · skip
        obtain ⟨bh, off, pre, post, T, fz, rfl, hb, hpo⟩ := (hNh.hrowM H (fun p hp => by simp [hp])) (by omega)
        have hkl : k < xs.length := by omega
        obtain ⟨hd0, hd1, ha0, ha2, ha1⟩ := hvx.get hkl
        have hend := (hvx.get hkl).end_le
        have hmp := many_pos (nd xs k).depth
        rw [okFrom_drop hkl] at hok
        obtain ⟨_, hae, hok2⟩ := hok
        refine wp_skip ?_
        refine x_thenNormal ?_
        refine c_seq ?_
        refine wp_block ?_
        refine c_rseq (n := 124) ⟨rfl, rfl⟩ ?_
        refine s_val (r_indexAddrS Try.runUnderlying35 Try.sizeOf41 rfl rfl (by omega) (by omega)) ?_
        refine s_val (r_loadn Try.isAgg41 Try.sizeOf41 rfl hb (hs_tdn _ _ _ _ k hpo (by omega)) (by first | exact (kC_length _) | exact (hC_length _) | exact rfl)) ?_
        refine s_new (m_alloc (cs := (hC Held.zero)) H Try.zeroValue41 rfl) ?_
        intro w b11 H
        refine s_st (m_storen H 0 34 Try.sizeOf41 rfl rfl (by first | exact (kC_length _) | exact (hC_length _)) (by first | exact (kC_one _) | exact (hC_one _)) rfl (by first | exact (by rw [kC_length]; omega) | exact (by rw [hC_length]; omega)) (by first | exact (kC_sp _ _) | exact (hC_sp _ _))) (L' := (_ :: _ :: _)) rfl ?_
        intro w H
        refine c_nil (l' := [_, _, _, _, _, _, _, _, _, _, _, _, _, _, _, _, _, _, _, _, _, _, _, _, _, _, _, _, _, _, _, _, _, _, _, _, _, _, _, _, _, _, _, _, _, _, _, _, _, _, _, _, _, _, _, _, _, _, _, _, _, _, _, _, _, _, _, _, _, _, _, _, _, _, _, _, _, _, _, _, _, _, _, _, _, _, _, _, _, _, _, _, _, _, _, _, _, _, _, _, _, _, _, _, _, _, _, _, _, _, _, _, _, _, _, _, _, _, _, _, _, _, _, _]) rfl ?_
        refine c_seq ?_
        refine c_rseq (n := 124) ⟨rfl, rfl⟩ ?_
        refine s_val (r_fieldAddr (k := 0) Try.runUnderlying41 rfl Try.sizeOf3 (by decide) rfl rfl) ?_
        refine s_val (r_load1 Try.isAgg3 rfl (H.at 0 rfl) (by first | exact rfl | exact (hC_00 _) | exact (hC_0 _) | exact (hC_1 _))) ?_
        refine s_test (r_lss rfl rfl) (fun h58 => ?_) (fun h58 => ?_)
        · skip
          exfalso; omega
        · skip
          refine s_val (r_move rfl) ?_
          refine g_yes rfl rfl ?_
          refine s_val (r_fieldAddr (k := 0) Try.runUnderlying41 rfl Try.sizeOf3 (by decide) rfl rfl) ?_
          refine g_yes rfl rfl ?_
          refine s_val (r_load1 Try.isAgg3 rfl (H.at 0 rfl) (by first | exact rfl | exact (hC_00 _) | exact (hC_0 _) | exact (hC_1 _))) ?_
          refine g_yes rfl rfl ?_
          refine s_test (r_gtr rfl rfl) (fun h62 => ?_) (fun h62 => ?_)
          · skip
            exfalso; omega
          · skip
            refine s_val (r_pickf rfl rfl) ?_
            refine s_val (r_move rfl) ?_
            refine g_yes rfl rfl ?_
            refine s_val (r_fieldAddr (k := 1) Try.runUnderlying41 rfl Try.sizeOf31 (by decide) rfl rfl) ?_
            refine g_yes rfl rfl ?_
            refine s_val (r_load1 Try.isAgg31 rfl (H.at 0 rfl) (by first | exact rfl | exact (hC_00 _) | exact (hC_0 _) | exact (hC_1 _))) ?_
            refine g_yes rfl rfl ?_
            refine s_val (r_move rfl) ?_
            refine g_yes rfl rfl ?_
            refine s_val (r_lss rfl rfl) ?_
            refine s_val (r_pickf rfl rfl) ?_
            refine c_nil (l' := [_, _, _, _, _, _, _, _, _, _, _, _, _, _, _, _, _, _, _, _, _, _, _, _, _, _, _, _, _, _, _, _, _, _, _, _, _, _, _, _, _, _, _, _, _, _, _, _, _, _, _, _, _, _, _, _, _, _, _, _, _, _, _, _, _, _, _, _, _, _, _, _, _, _, _, _, _, _, _, _, _, _, _, _, _, _, _, _, _, _, _, _, _, _, _, _, _, _, _, _, _, _, _, _, _, _, _, _, _, _, _, _, _, _, _, _, _, _, _, _, _, _, _, _]) rfl ?_
            refine c_if rfl (fun h69 => ?_) (fun h69 => ?_)
            · skip
              exfalso; omega
            · skip
              refine wp_skip ?_
              refine x_thenNormal ?_
              refine c_rseq (n := 124) ⟨rfl, rfl⟩ ?_
              refine s_val (r_fieldAddr (k := 0) Try.runUnderlying41 rfl Try.sizeOf3 (by decide) rfl rfl) ?_
              refine s_val (r_load1 Try.isAgg3 rfl (H.at 0 rfl) (by first | exact rfl | exact (hC_00 _) | exact (hC_0 _) | exact (hC_1 _))) ?_
              refine s_val (r_sub rfl rfl (w_i64 (by omega) (by omega))) ?_
              refine s_val (r_conv Try.runUnderlying3 Try.runUnderlying42 rfl (w_u64 (by omega) (by omega))) ?_
              refine s_val (r_shl rfl rfl (by omega) (many_eq (by omega))) ?_
              refine s_val (r_assign rfl) ?_
              refine c_nil (l' := [_, _, _, _, _, _, _, _, _, _, _, _, _, _, _, _, _, _, _, _, _, _, _, _, _, _, _, _, _, _, _, _, _, _, _, _, _, _, _, _, _, _, _, _, _, _, _, _, _, _, _, _, _, _, _, _, _, _, _, _, _, _, _, _, _, _, _, _, _, _, _, _, _, _, _, _, _, _, _, _, _, _, _, _, _, _, _, _, _, _, _, _, _, _, _, _, _, _, _, _, _, _, _, _, _, _, _, _, _, _, _, _, _, _, _, _, _, _, _, _, _, _, _, _]) rfl ?_
              refine c_seq ?_
              refine c_rseq (n := 124) ⟨rfl, rfl⟩ ?_
              refine s_val (r_move rfl) ?_
              refine s_new (m_range H Try.runUnderlying39 rfl (H.at 1 rfl)) ?_
              intro w br H
              refine c_nil (l' := [_, _, _, _, _, _, _, _, _, _, _, _, _, _, _, _, _, _, _, _, _, _, _, _, _, _, _, _, _, _, _, _, _, _, _, _, _, _, _, _, _, _, _, _, _, _, _, _, _, _, _, _, _, _, _, _, _, _, _, _, _, _, _, _, _, _, _, _, _, _, _, _, _, _, _, _, _, _, _, _, _, _, _, _, _, _, _, _, _, _, _, _, _, _, _, _, _, _, _, _, _, _, _, _, _, _, _, _, _, _, _, _, _, _, _, _, _, _, _, _, _, _, _, _]) rfl ?_
              refine wp_block ?_
              refine c_loop (fun (l0 : List Value) (q : Nat) (l : List Value) (w : World) => ∃ (u4 u13 u77 u78 u79 u80 u81 u82 u83 u84 u85 u86 u87 u88 u89 u90 u91 u92 : Value) (seen : List Nat), l = ovr l0 [N_, N_, N_, N_, Y_ u4, N_, N_, N_, N_, N_, N_, N_, N_, Y_ u13, N_, N_, N_, N_, N_, N_, N_, N_, N_, N_, N_, N_, N_, N_, N_, N_, N_, N_, N_, N_, N_, N_, N_, N_, N_, N_, N_, N_, N_, N_, N_, N_, N_, N_, N_, N_, N_, N_, N_, N_, N_, N_, N_, N_, N_, N_, N_, N_, N_, N_, N_, N_, N_, N_, N_, N_, N_, N_, N_, N_, N_, N_, N_, Y_ u77, Y_ u78, Y_ u79, Y_ u80, Y_ u81, Y_ u82, Y_ u83, Y_ u84, Y_ u85, Y_ u86, Y_ u87, Y_ u88, Y_ u89, Y_ u90, Y_ u91, Y_ u92] ∧ q = leftN ls.length seen ∧ St w0 [] w ((br, itO bm ls seen) :: (b11, .cells (hC (nd xs k)).toArray 41 (0, 0)) :: (bm, mapO ls) :: Nh ++ N)) (fun (q : Nat) => q) (leftN ls.length []) ⟨_, _, _, _, _, _, _, _, _, _, _, _, _, _, _, _, _, _, [], rfl, rfl, H⟩ ?_
              intro q l w ⟨u4, u13, u77, u78, u79, u80, u81, u82, u83, u84, u85, u86, u87, u88, u89, u90, u91, u92, seen, hl, hq, H⟩
              obtain rfl := hl.trans (rfl : _ = [_, _, _, _, _, _, _, _, _, _, _, _, _, _, _, _, _, _, _, _, _, _, _, _, _, _, _, _, _, _, _, _, _, _, _, _, _, _, _, _, _, _, _, _, _, _, _, _, _, _, _, _, _, _, _, _, _, _, _, _, _, _, _, _, _, _, _, _, _, _, _, _, _, _, _, _, _, _, _, _, _, _, _, _, _, _, _, _, _, _, _, _, _, _, _, _, _, _, _, _, _, _, _, _, _, _, _, _, _, _, _, _, _, _, _, _, _, _, _, _, _, _, _, _])
              clear hl
              refine c_rseq (n := 124) ⟨rfl, rfl⟩ ?_
              refine s_any (m_next H 0 rfl rfl (H.at 2 rfl)) ?_
              rintro v w ⟨more, rest, seen2, rfl, hmore, H⟩
              skip
              refine s_val (r_extract rfl rfl) ?_
              refine c_nil (l' := [_, _, _, _, _, _, _, _, _, _, _, _, _, _, _, _, _, _, _, _, _, _, _, _, _, _, _, _, _, _, _, _, _, _, _, _, _, _, _, _, _, _, _, _, _, _, _, _, _, _, _, _, _, _, _, _, _, _, _, _, _, _, _, _, _, _, _, _, _, _, _, _, _, _, _, _, _, _, _, _, _, _, _, _, _, _, _, _, _, _, _, _, _, _, _, _, _, _, _, _, _, _, _, _, _, _, _, _, _, _, _, _, _, _, _, _, _, _, _, _, _, _, _, _]) rfl ?_
              refine c_seq ?_
              refine c_ifb rfl (fun h78 => ?_) (fun h78 => ?_)
              · skip
                obtain ⟨ii, n, hin, hns, rfl⟩ := hmore h78
                have hnm : n ∈ ls := List.mem_of_getElem? hin
                have hnb := ((hmem n).1 hnm).2
                refine wp_skip ?_
                refine x_thenNormal ?_
                refine wp_block ?_
                refine c_rseq (n := 124) ⟨rfl, rfl⟩ ?_
                refine s_val (r_entry rfl (H.at 0 rfl) (H.at 2 rfl) hin) ?_
                refine s_val (r_extract rfl rfl) ?_
                refine s_val (r_assign rfl) ?_
                refine c_nil (l' := [_, _, _, _, _, _, _, _, _, _, _, _, _, _, _, _, _, _, _, _, _, _, _, _, _, _, _, _, _, _, _, _, _, _, _, _, _, _, _, _, _, _, _, _, _, _, _, _, _, _, _, _, _, _, _, _, _, _, _, _, _, _, _, _, _, _, _, _, _, _, _, _, _, _, _, _, _, _, _, _, _, _, _, _, _, _, _, _, _, _, _, _, _, _, _, _, _, _, _, _, _, _, _, _, _, _, _, _, _, _, _, _, _, _, _, _, _, _, _, _, _, _, _, _]) rfl ?_
                refine c_rseq (n := 124) ⟨rfl, rfl⟩ ?_
                refine s_val (r_move rfl) ?_
                refine s_val (r_fieldAddr (k := 1) Try.runUnderlying41 rfl Try.sizeOf31 (by decide) rfl rfl) ?_
                refine s_val (r_load1 Try.isAgg31 rfl (H.at 1 rfl) (by first | exact rfl | exact (hC_00 _) | exact (hC_0 _) | exact (hC_1 _))) ?_
                refine s_test (r_geq rfl rfl) (fun h84 => ?_) (fun h84 => ?_)
                · skip
                  refine s_val (r_move rfl) ?_
                  refine g_yes rfl rfl ?_
                  refine s_val (r_move rfl) ?_
                  refine g_yes rfl rfl ?_
                  refine s_val (r_fieldAddr (k := 1) Try.runUnderlying41 rfl Try.sizeOf31 (by decide) rfl rfl) ?_
                  refine g_yes rfl rfl ?_
                  refine s_val (r_load1 Try.isAgg31 rfl (H.at 1 rfl) (by first | exact rfl | exact (hC_00 _) | exact (hC_0 _) | exact (hC_1 _))) ?_
                  refine g_yes rfl rfl ?_
                  refine s_val (r_sub rfl rfl (w_u64 (by omega) (by omega))) ?_
                  refine g_yes rfl rfl ?_
                  refine s_val (r_move rfl) ?_
                  refine g_yes rfl rfl ?_
                  refine s_val (r_lss rfl rfl) ?_
                  refine s_val (r_pickt rfl rfl) ?_
                  refine c_nil (l' := [_, _, _, _, _, _, _, _, _, _, _, _, _, _, _, _, _, _, _, _, _, _, _, _, _, _, _, _, _, _, _, _, _, _, _, _, _, _, _, _, _, _, _, _, _, _, _, _, _, _, _, _, _, _, _, _, _, _, _, _, _, _, _, _, _, _, _, _, _, _, _, _, _, _, _, _, _, _, _, _, _, _, _, _, _, _, _, _, _, _, _, _, _, _, _, _, _, _, _, _, _, _, _, _, _, _, _, _, _, _, _, _, _, _, _, _, _, _, _, _, _, _, _, _]) rfl ?_
                  refine c_if rfl (fun h92 => ?_) (fun h92 => ?_)
                  · skip
                    exact False.elim <| hgo n hnm ⟨nd xs k, by rw [← nd_eq hkl]; exact List.getElem_mem _, by omega, by omega⟩
                  · skip
                    refine wp_skip ?_
                    refine x_blockNormal ?_
                    exact ⟨(leftN ls.length (seen ++ [ii])), _, rfl, ⟨_, _, _, _, _, _, _, _, _, _, _, _, _, _, _, _, _, _, _, rfl, rfl, H⟩, by rw [hq]; exact leftN_lt (List.getElem?_eq_some_iff.1 hin).1 hns⟩
                · skip
                  refine s_val (r_move rfl) ?_
                  refine g_no rfl rfl (by decide) ?_
                  refine g_no rfl rfl (by decide) ?_
                  refine g_no rfl rfl (by decide) ?_
                  refine g_no rfl rfl (by decide) ?_
                  refine g_no rfl rfl (by decide) ?_
                  refine g_no rfl rfl (by decide) ?_
                  refine s_val (r_pickf rfl rfl) ?_
                  refine c_nil (l' := [_, _, _, _, _, _, _, _, _, _, _, _, _, _, _, _, _, _, _, _, _, _, _, _, _, _, _, _, _, _, _, _, _, _, _, _, _, _, _, _, _, _, _, _, _, _, _, _, _, _, _, _, _, _, _, _, _, _, _, _, _, _, _, _, _, _, _, _, _, _, _, _, _, _, _, _, _, _, _, _, _, _, _, _, _, _, _, _, _, _, _, _, _, _, _, _, _, _, _, _, _, _, _, _, _, _, _, _, _, _, _, _, _, _, _, _, _, _, _, _, _, _, _, _]) rfl ?_
                  refine c_iff rfl ?_
                  refine wp_skip ?_
                  refine x_blockNormal ?_
                  exact ⟨(leftN ls.length (seen ++ [ii])), _, rfl, ⟨_, _, _, _, _, _, _, _, _, _, _, _, _, _, _, _, _, _, _, rfl, rfl, H⟩, by rw [hq]; exact leftN_lt (List.getElem?_eq_some_iff.1 hin).1 hns⟩
              · skip
                refine wp_exit (x_thenExit (x_thenExit (x_blockHit ?_)))
                refine x_thenNormal ?_
                refine c_region (n := 124) ⟨rfl, rfl⟩ ?_
                refine s_val (r_fieldAddr (k := 1) Try.runUnderlying41 rfl Try.sizeOf31 (by decide) rfl rfl) ?_
                refine s_val (r_load1 Try.isAgg31 rfl (H.at 1 rfl) (by first | exact rfl | exact (hC_00 _) | exact (hC_0 _) | exact (hC_1 _))) ?_
                refine s_val (r_move rfl) ?_
                refine s_val (r_add rfl rfl (w_u64 (by omega) (by omega))) ?_
                refine s_val (r_move rfl) ?_
                refine s_val (r_move rfl) ?_
                have hcb2 := cnt_takeb hvx (k + 1)
                refine s_val (r_add rfl rfl (w_u64e (r := cnt (xs.take (k + 1))) (cnt_take (by omega)).symm (by omega) (by omega))) ?_
                refine s_val (r_assign rfl) ?_
                refine s_val (r_assign rfl) ?_
                refine c_nil0 (l' := [_, _, _, _, _, _, _, _, _, _, _, _, _, _, _, _, _, _, _, _, _, _, _, _, _, _, _, _, _, _, _, _, _, _, _, _, _, _, _, _, _, _, _, _, _, _, _, _, _, _, _, _, _, _, _, _, _, _, _, _, _, _, _, _, _, _, _, _, _, _, _, _, _, _, _, _, _, _, _, _, _, _, _, _, _, _, _, _, _, _, _, _, _, _, _, _, _, _, _, _, _, _, _, _, _, _, _, _, _, _, _, _, _, _, _, _, _, _, _, _, _, _, _, _]) rfl ?_
                refine x_blockNormal ?_
                refine x_thenNormal ?_
                refine c_region (n := 124) ⟨rfl, rfl⟩ ?_
                refine s_val (r_add rfl rfl (w_i64 (by omega) (by omega))) ?_
                refine s_val (r_move rfl) ?_
                refine c_nil0 (l' := [_, _, _, _, _, _, _, _, _, _, _, _, _, _, _, _, _, _, _, _, _, _, _, _, _, _, _, _, _, _, _, _, _, _, _, _, _, _, _, _, _, _, _, _, _, _, _, _, _, _, _, _, _, _, _, _, _, _, _, _, _, _, _, _, _, _, _, _, _, _, _, _, _, _, _, _, _, _, _, _, _, _, _, _, _, _, _, _, _, _, _, _, _, _, _, _, _, _, _, _, _, _, _, _, _, _, _, _, _, _, _, _, _, _, _, _, _, _, _, _, _, _, _, _]) rfl ?_
                replace H := H.sub (.cons _ (.cons _ (.cons_cons _ (List.Sublist.refl _))))
                exact ⟨k + 1, _, rfl, ⟨_, _, _, _, _, _, _, _, _, _, _, _, _, _, _, _, _, _, _, _, _, _, _, _, _, _, _, _, _, _, _, _, _, _, _, _, _, _, _, _, _, _, _, _, _, _, _, _, _, _, _, _, _, rfl, by omega, hok2, by omega, by omega, H⟩, by omega⟩
      · skip
        obtain rfl : k = xs.length := by omega
        rw [List.take_length]
        refine wp_exit (x_thenExit (x_thenExit (x_blockHit ?_)))
        refine x_thenNormal ?_
        refine c_rseq (n := 124) ⟨rfl, rfl⟩ ?_
        refine s_val (r_move rfl) ?_
        refine s_val (r_move rfl) ?_
        refine s_val (r_lenMap Try.runUnderlying39 (ec rfl en) (H.at 0 rfl)) ?_
        refine s_val (r_conv Try.runUnderlying3 Try.runUnderlying31 rfl (w_u64 (by omega) (by omega))) ?_
        refine s_val (r_sub rfl rfl (w_u64 (by omega) (by omega))) ?_
        refine s_test (r_eql rfl rfl) (fun h106 => ?_) (fun h106 => ?_)
        · skip
          refine s_val (r_move rfl) ?_
          refine g_yes rfl rfl ?_
          refine s_val (r_move rfl) ?_
          refine g_yes rfl rfl ?_
          refine s_call (r_call Try.call18 (ec rfl en)) (count_spec _ _ xs N (by omega) hvx _ hT (H.ownsM (.cons _ (List.sublist_append_right _ _)))) ?_
          rintro v w ⟨rfl, HC⟩
          replace H := H.quiet HC
          refine g_yes rfl rfl ?_
          refine s_val (r_move rfl) ?_
          refine g_yes rfl rfl ?_
          refine s_val (r_conv Try.runUnderlying31 Try.runUnderlying3 rfl (w_i64 (by omega) (by omega))) ?_
          refine g_yes rfl rfl ?_
          refine s_test (r_eql rfl rfl) (fun h112 => ?_) (fun h112 => ?_)
          · skip
            refine s_val (r_pickt rfl rfl) ?_
            refine s_val (r_move rfl) ?_
            refine g_yes rfl rfl ?_
            refine s_val (r_move rfl) ?_
            refine g_yes rfl rfl ?_
            refine s_call (r_call Try.call17 (ec rfl en)) (held_spec _ _ xs N (by omega) hvx _ hT (H.ownsM (.cons _ (List.sublist_append_right _ _)))) ?_
            rintro v w ⟨ah2, caph2, Nh2, rfl, hNh2, HC⟩
            replace H : St w0 [] _ (_ :: (Nh2 ++ (Nh ++ N))) := (H.call0 HC).perm List.perm_middle.symm
            refine g_yes rfl rfl ?_
            refine s_val (r_lens Try.runUnderlying35 (ec rfl en)) ?_
            refine g_yes rfl rfl ?_
            refine s_val (r_move rfl) ?_
            refine g_yes rfl rfl ?_
            refine s_val (r_lenMap Try.runUnderlying39 (ec rfl en) (H.at 0 rfl)) ?_
            refine g_yes rfl rfl ?_
            refine s_val (r_mul rfl rfl (w_i64 (by omega) (by omega))) ?_
            refine g_yes rfl rfl ?_
            refine s_val (r_add rfl rfl (w_i64 (by omega) (by omega))) ?_
            refine g_yes rfl rfl ?_
            refine s_val (r_leq rfl rfl) ?_
            refine s_val (r_pickt rfl rfl) ?_
            refine s_val (r_assign rfl) ?_
            refine c_nil (l' := [_, _, _, _, _, _, _, _, _, _, _, _, _, _, _, _, _, _, _, _, _, _, _, _, _, _, _, _, _, _, _, _, _, _, _, _, _, _, _, _, _, _, _, _, _, _, _, _, _, _, _, _, _, _, _, _, _, _, _, _, _, _, _, _, _, _, _, _, _, _, _, _, _, _, _, _, _, _, _, _, _, _, _, _, _, _, _, _, _, _, _, _, _, _, _, _, _, _, _, _, _, _, _, _, _, _, _, _, _, _, _, _, _, _, _, _, _, _, _, _, _, _, _, _]) rfl ?_
            refine wp_ret ?_
            refine e_ret (res1 rfl rfl) ⟨_, rfl, ?_⟩
            exact ⟨by rw [decide_eq_true (by omega)], H.sub (List.nil_sublist _)⟩
          · skip
            exfalso; omega
        · skip
          exfalso; omega

end Go.Proofs.Ytblphhclfloodaa
