import Derived.Test.YtblphhclfloodaaG3
import Derived.Test.YtblphhclfloodaaG5
import Derived.Test.YtblphhclfloodaaG7
import Derived.Test.YtblphhclfloodaaT2
namespace Go.Proofs.Ytblphhclfloodaa
open Go Go.Er

set_option maxHeartbeats 4000000 in
theorem clonet_spec (bt : Nat) (ci : Value) (xs : List Held) (N : List (Nat × Obj)) (hl : xs.length ≤ 100000) (_hv : Valid xs) (sl sr : Key → Key) (hci : SplitsBy Try.prog ci sl sr) (w0 : World) (hT : TreeN 68 41 bt ci xs N) (hown : Go.Er.Own w0 N) :
    Calls Try.prog 27 #[.pointer (some ⟨bt, 0, none⟩)] w0 fun e w => ∃ v, e = .returned v ∧ (∃ bu N2, v = .pointer (some ⟨bu, 0, none⟩) ∧ TreeN 68 41 bu ci xs N2 ∧ St w0 [] w N2) := by
  obtain ⟨Tc, vc, fc, rv, rfl, hE, hM, hC'⟩ := hci
  obtain ⟨a, cap, hbt, hr⟩ := hT.rd hown
  have H := St.refl w0
  refine c_enter (args := [.pointer (some ⟨bt, 0, none⟩)]) (l := [.pointer (some ⟨bt, 0, none⟩), undef, undef, undef, undef, undef, undef, undef, undef, undef, undef, undef, undef, undef, undef, undef]) Try.func27 Try.ntmps27 rfl rfl ?_
  refine c_rseq (n := 16) ⟨rfl, rfl⟩ ?_
  refine s_val (r_assign rfl) ?_
  refine c_nil (l' := [_, _, _, _, _, _, _, _, _, _, _, _, _, _, _, _]) rfl ?_
  refine c_seq ?_
  refine c_rseq (n := 16) ⟨rfl, rfl⟩ ?_
  refine s_val (r_move rfl) ?_
  refine s_val (r_nilpF Try.runUnderlying26 rfl rfl) ?_
  refine c_nil (l' := [_, _, _, _, _, _, _, _, _, _, _, _, _, _, _, _]) rfl ?_
  refine c_iff rfl ?_
  refine wp_skip ?_
  refine x_thenNormal ?_
  refine c_seq ?_
  refine d_begin (sz := 16) ⟨rfl, rfl⟩ (by kernel_rfl) H (H.sub (List.nil_sublist _)) rfl ?_
  intro w H
  refine d_take (i := 0) rfl (by kernel_rfl) (fun _ _ _ h => h) (H.sub (List.nil_sublist _)) (fun _ _ => r_move rfl) rfl ?_
  refine d_take (i := 1) rfl (by kernel_rfl) (fun _ _ _ h => h) (H.sub (List.nil_sublist _)) (fun _ _ => r_nilCheck rfl) rfl ?_
  refine d_take (i := 2) rfl (by kernel_rfl) (fun _ _ _ h => h) (H.sub (List.nil_sublist _)) (fun _ _ => r_fieldAddr (k := 0) Try.runUnderlying68 rfl Try.sizeOf66 (by decide) rfl rfl) rfl ?_
  refine d_take (i := 3) rfl (by kernel_rfl) (fun _ _ _ h => h) (H.sub (List.nil_sublist _)) (fun _ HS => r_load1 Try.isAgg66 rfl (HS.rd0 hbt) rfl) rfl ?_
  refine d_take (i := 4) rfl (by kernel_rfl) (fun _ _ _ h => h) (H.sub (List.nil_sublist _)) (fun _ _ => r_move rfl) rfl ?_
  refine d_take (i := 5) rfl (by kernel_rfl) (fun _ _ _ h => h) (H.sub (List.nil_sublist _)) (fun _ _ => r_nilCheck rfl) rfl ?_
  refine d_take (i := 6) rfl (by kernel_rfl) (fun _ _ _ h => h) (H.sub (List.nil_sublist _)) (fun _ _ => r_fieldAddr (k := 1) Try.runUnderlying68 rfl Try.sizeOf35 (by decide) rfl rfl) rfl ?_
  refine d_take (i := 7) rfl (by kernel_rfl) (fun _ _ _ h => h) (H.sub (List.nil_sublist _)) (fun _ HS => r_load1 Try.isAgg35 rfl (HS.rd0 hbt) rfl) rfl ?_
  refine d_all1 (i := 8) (by kernel_rfl) ?_
  refine b_call rfl go_none (r_call Try.call36 (ec rfl en)) (clone_spec _ _ xs (by omega) _ (hr.st H)) rfl ?_
  rintro v w ⟨a2, cap2, N2, rfl, hN2, HC⟩
  replace H := H.call0 HC
  refine ⟨(H.sub (List.nil_sublist _)), ?_⟩
  refine d_take (i := 9) rfl (by kernel_rfl) (fun _ _ _ h => h) (H.sub (List.nil_sublist _)) (fun _ _ => r_buildS Try.runUnderlying68 Try.zeroValue68 places68 (pc rfl (pc rfl pn)) rfl) rfl ?_
  refine d_all1 (i := 10) (by kernel_rfl) ?_
  refine b_new rfl go_none (m_box (cs := [.iface Tc vc, .slice a2 xs.length cap2]) H rfl rfl) rfl (fun _ _ H => (H.sub (.cons _ (List.nil_sublist _)))) ?_
  intro w b15 H
  refine d_take (i := 11) rfl (by kernel_rfl) (fun _ _ _ h => h) (H.sub (.cons _ (List.nil_sublist _))) (fun _ _ => r_assign rfl) rfl ?_
  refine d_done (l' := [_, _, _, _, _, _, _, _, _, _, _, _, _, _, _, _]) (by kernel_rfl) rfl ?_
  refine x_thenNormal ?_
  refine wp_ret ?_
  refine e_ret (res1 rfl rfl) ⟨_, rfl, ?_⟩
  rw [List.append_nil] at H
  exact ⟨b15, _, rfl, ⟨_, _, N2, rfl, hN2⟩, H⟩

set_option maxHeartbeats 4000000 in
set_option maxRecDepth 20000 in
theorem kheld_spec (seed : Key) (a : Option Addr) (cap : Nat) (ns : List Int) (hu : U64 ns) (q : Int) (hq0 : 0 ≤ q) (hq1 : q < 18446744073709551616) (w0 : World) (hr : URow w0 a ns) :
    Calls Try.prog 10 #[.agg (kC seed).toArray, .slice a ns.length cap, .int .u64 q] w0 fun e w => ∃ v, e = .returned v ∧ (v = .bool true ∧ St w0 [] w []) := by
  have H := St.refl w0
  refine c_enter (args := [.agg (kC seed).toArray, .slice a ns.length cap, .int .u64 q]) (l := [.agg (kC seed).toArray, .slice a ns.length cap, .int .u64 q, undef, undef, undef, undef, undef, undef, undef, undef, undef, undef, undef, undef, undef, undef, undef, undef, undef, undef, undef, undef, undef, undef, undef, undef, undef, undef, undef, undef, undef, undef, undef, undef, undef, undef, undef, undef, undef, undef, undef, undef, undef, undef, undef, undef, undef, undef, undef, undef, undef, undef, undef, undef, undef, undef, undef, undef, undef, undef, undef, undef, undef, undef, undef, undef, undef, undef, undef, undef, undef, undef, undef, undef, undef, undef, undef, undef, undef, undef, undef, undef, undef, undef, undef, undef, undef, undef, undef, undef, undef, undef, undef, undef, undef, undef, undef, undef, undef, undef, undef, undef, undef, undef, undef, undef, undef, undef, undef, undef, undef, undef, undef, undef, undef, undef, undef, undef, undef, undef]) Try.func10 Try.ntmps10 rfl rfl ?_
  refine c_rseq (n := 121) ⟨rfl, rfl⟩ ?_
  refine s_new (m_box (cs := (kC seed)) H rfl rfl) ?_
  intro w b3 H
  refine s_val (r_assign rfl) ?_
  refine c_nil (l' := [_, _, _, _, _, _, _, _, _, _, _, _, _, _, _, _, _, _, _, _, _, _, _, _, _, _, _, _, _, _, _, _, _, _, _, _, _, _, _, _, _, _, _, _, _, _, _, _, _, _, _, _, _, _, _, _, _, _, _, _, _, _, _, _, _, _, _, _, _, _, _, _, _, _, _, _, _, _, _, _, _, _, _, _, _, _, _, _, _, _, _, _, _, _, _, _, _, _, _, _, _, _, _, _, _, _, _, _, _, _, _, _, _, _, _, _, _, _, _, _, _]) rfl ?_
  refine c_seq ?_
  refine c_rseq (n := 121) ⟨rfl, rfl⟩ ?_
  refine s_call (r_call Try.call12 en) (awake_spec _) ?_
  rintro v w ⟨rfl, HC⟩
  replace H := H.quiet HC
  refine s_val (r_not rfl) ?_
  refine s_val (r_move rfl) ?_
  refine g_yes rfl rfl ?_
  refine s_val (r_move rfl) ?_
  refine g_yes rfl rfl ?_
  refine s_val (r_lens Try.runUnderlying24 (ec rfl en)) ?_
  refine g_yes rfl rfl ?_
  refine s_val (r_gtr rfl rfl) ?_
  refine s_val (r_pickf rfl rfl) ?_
  refine c_nil (l' := [_, _, _, _, _, _, _, _, _, _, _, _, _, _, _, _, _, _, _, _, _, _, _, _, _, _, _, _, _, _, _, _, _, _, _, _, _, _, _, _, _, _, _, _, _, _, _, _, _, _, _, _, _, _, _, _, _, _, _, _, _, _, _, _, _, _, _, _, _, _, _, _, _, _, _, _, _, _, _, _, _, _, _, _, _, _, _, _, _, _, _, _, _, _, _, _, _, _, _, _, _, _, _, _, _, _, _, _, _, _, _, _, _, _, _, _, _, _, _, _, _]) rfl ?_
  refine c_if rfl (fun h25 => ?_) (fun h25 => ?_)
  · skip
    refine c_rseq (n := 121) ⟨rfl, rfl⟩ ?_
    refine s_call (r_call Try.call12 en) (awake_spec _) ?_
    rintro v w ⟨rfl, HC⟩
    replace H := H.quiet HC
    refine s_val (r_assign rfl) ?_
    refine c_nil (l' := [_, _, _, _, _, _, _, _, _, _, _, _, _, _, _, _, _, _, _, _, _, _, _, _, _, _, _, _, _, _, _, _, _, _, _, _, _, _, _, _, _, _, _, _, _, _, _, _, _, _, _, _, _, _, _, _, _, _, _, _, _, _, _, _, _, _, _, _, _, _, _, _, _, _, _, _, _, _, _, _, _, _, _, _, _, _, _, _, _, _, _, _, _, _, _, _, _, _, _, _, _, _, _, _, _, _, _, _, _, _, _, _, _, _, _, _, _, _, _, _, _]) rfl ?_
    refine wp_ret (x_thenRet ?_)
    refine e_ret (res1 rfl rfl) ⟨_, rfl, ?_⟩
    exact ⟨rfl, H.sub (List.nil_sublist _)⟩
  · skip
    skip
    refine wp_skip ?_
    refine x_thenNormal ?_
    refine c_rseq (n := 121) ⟨rfl, rfl⟩ ?_
    refine s_val (r_buildS Try.runUnderlying29 Try.zeroValue29 places29 pn rfl) ?_
    refine s_val (r_makeIface Try.runUnderlying29 (fun _ h => nomatch h) rfl) ?_
    refine s_val (r_loadn Try.isAgg23 Try.sizeOf23 rfl (H.at 0 rfl) (by first | exact (kC_td _) | exact (hC_td _) | exact (hC_seed _)) (by first | exact (kC_length _) | exact (hC_length _) | exact rfl)) ?_
    refine s_call (r_call Try.call13 (ec rfl (ec rfl en))) (new_spec _ _ splitL splitR splits_little _) ?_
    rintro v w ⟨bt, N, rfl, hT0, HC⟩
    replace H : St w0 [] _ (_ :: N) := (H.call0 HC).perm (List.perm_append_comm (l₁ := [_]))
    have hT : TreeN 68 41 bt (.iface 29 (.agg #[])) [root seed] N := hT0
    refine s_val (r_assign rfl) ?_
    refine c_nil (l' := [_, _, _, _, _, _, _, _, _, _, _, _, _, _, _, _, _, _, _, _, _, _, _, _, _, _, _, _, _, _, _, _, _, _, _, _, _, _, _, _, _, _, _, _, _, _, _, _, _, _, _, _, _, _, _, _, _, _, _, _, _, _, _, _, _, _, _, _, _, _, _, _, _, _, _, _, _, _, _, _, _, _, _, _, _, _, _, _, _, _, _, _, _, _, _, _, _, _, _, _, _, _, _, _, _, _, _, _, _, _, _, _, _, _, _, _, _, _, _, _, _]) rfl ?_
    refine c_seq ?_
    refine c_rseq (n := 121) ⟨rfl, rfl⟩ ?_
    refine s_val (r_assign rfl) ?_
    refine c_nil (l' := [_, _, _, _, _, _, _, _, _, _, _, _, _, _, _, _, _, _, _, _, _, _, _, _, _, _, _, _, _, _, _, _, _, _, _, _, _, _, _, _, _, _, _, _, _, _, _, _, _, _, _, _, _, _, _, _, _, _, _, _, _, _, _, _, _, _, _, _, _, _, _, _, _, _, _, _, _, _, _, _, _, _, _, _, _, _, _, _, _, _, _, _, _, _, _, _, _, _, _, _, _, _, _, _, _, _, _, _, _, _, _, _, _, _, _, _, _, _, _, _, _]) rfl ?_
    refine wp_block ?_
    refine c_loop (fun (l0 : List Value) (i : Nat) (l : List Value) (w : World) => ∃ (u31 u32 u33 u34 u35 u36 u37 u38 u39 u40 u41 u42 : Value) (N : List (Nat × Obj)) (la : List Int), l = ovr l0 [N_, N_, N_, N_, N_, N_, N_, N_, Y_ (.int .i64 i), N_, N_, N_, N_, N_, N_, N_, N_, N_, N_, N_, N_, N_, N_, N_, N_, N_, N_, N_, N_, N_, N_, Y_ u31, Y_ u32, Y_ u33, Y_ u34, Y_ u35, Y_ u36, Y_ u37, Y_ u38, Y_ u39, Y_ u40, Y_ u41, Y_ u42] ∧ i ≤ ns.length ∧ TreeN 68 41 bt (.iface 29 (.agg #[])) (tree0 splitL splitR seed la) N ∧ la.length = i ∧ (∀ n, n ∈ la ↔ n ∈ ns.take i) ∧ St w0 [] w ((b3, .cells (kC seed).toArray 23 (0, 0)) :: N)) (fun (i : Nat) => ns.length - i) 0 ⟨_, _, _, _, _, _, _, _, _, _, _, _, N, [], rfl, by omega, by rw [tree0_nil]; exact hT, rfl, by simp, H⟩ ?_
    intro i l w ⟨u31, u32, u33, u34, u35, u36, u37, u38, u39, u40, u41, u42, N, la, hl, hi, hT, hll, hla, H⟩
    obtain rfl := hl.trans (rfl : _ = [_, _, _, _, _, _, _, _, _, _, _, _, _, _, _, _, _, _, _, _, _, _, _, _, _, _, _, _, _, _, _, _, _, _, _, _, _, _, _, _, _, _, _, _, _, _, _, _, _, _, _, _, _, _, _, _, _, _, _, _, _, _, _, _, _, _, _, _, _, _, _, _, _, _, _, _, _, _, _, _, _, _, _, _, _, _, _, _, _, _, _, _, _, _, _, _, _, _, _, _, _, _, _, _, _, _, _, _, _, _, _, _, _, _, _, _, _, _, _, _, _])
    clear hl
    refine c_seq ?_
    refine c_rseq (n := 121) ⟨rfl, rfl⟩ ?_
    refine s_val (r_move rfl) ?_
    refine s_val (r_move rfl) ?_
    refine s_val (r_lens Try.runUnderlying24 (ec rfl en)) ?_
    refine s_val (r_lss rfl rfl) ?_
    refine c_nil (l' := [_, _, _, _, _, _, _, _, _, _, _, _, _, _, _, _, _, _, _, _, _, _, _, _, _, _, _, _, _, _, _, _, _, _, _, _, _, _, _, _, _, _, _, _, _, _, _, _, _, _, _, _, _, _, _, _, _, _, _, _, _, _, _, _, _, _, _, _, _, _, _, _, _, _, _, _, _, _, _, _, _, _, _, _, _, _, _, _, _, _, _, _, _, _, _, _, _, _, _, _, _, _, _, _, _, _, _, _, _, _, _, _, _, _, _, _, _, _, _, _, _]) rfl ?_
    refine c_if rfl (fun h34 => ?_) (fun h34 => ?_)
    · skip
      obtain ⟨bu, off, pre, post, T, fz, rfl, hbu, hpu⟩ := hr (by omega)
      refine wp_skip ?_
      refine x_thenNormal ?_
      refine c_seq ?_
      refine wp_block ?_
      refine c_region (n := 121) ⟨rfl, rfl⟩ ?_
      refine s_val (r_move rfl) ?_
      refine s_val (r_move rfl) ?_
      refine s_val (r_move rfl) ?_
      refine s_val (r_indexAddrS Try.runUnderlying24 Try.sizeOf31 rfl rfl (by omega) (by omega)) ?_
      refine s_val (r_load1 Try.isAgg31 rfl (H.rd0 hbu) (u_get pre ns post i hpu (by omega) (by omega))) ?_
      refine s_call (r_call Try.call14 (ec rfl (ec rfl en))) (punc_t _ _ (tree0 splitL splitR seed la) _ N splitL splitR splits_little (by have := tree0_len (sl := splitL) (sr := splitR) (seed := seed) (la); (try simp only [List.length_cons] at this); omega) (tree0_valid _) (hu.get (i := i) (by omega)).1 (hu.get (by omega)).2 _ hT (H.ownsM (.cons _ (List.Sublist.refl _)))) ?_
      rintro v w ⟨rfl, N2, hT2, HC⟩
      rw [tree0_punc] at hT2
      replace H : St w0 [] _ (_ :: N2) := St.callr (L := [_]) H HC
      refine c_nil0 (l' := [_, _, _, _, _, _, _, _, _, _, _, _, _, _, _, _, _, _, _, _, _, _, _, _, _, _, _, _, _, _, _, _, _, _, _, _, _, _, _, _, _, _, _, _, _, _, _, _, _, _, _, _, _, _, _, _, _, _, _, _, _, _, _, _, _, _, _, _, _, _, _, _, _, _, _, _, _, _, _, _, _, _, _, _, _, _, _, _, _, _, _, _, _, _, _, _, _, _, _, _, _, _, _, _, _, _, _, _, _, _, _, _, _, _, _, _, _, _, _, _, _]) rfl ?_
      refine x_blockNormal ?_
      refine x_thenNormal ?_
      refine c_region (n := 121) ⟨rfl, rfl⟩ ?_
      refine s_val (r_move rfl) ?_
      refine s_val (r_add rfl rfl (w_i64 (by omega) (by omega))) ?_
      refine s_val (r_assign rfl) ?_
      refine c_nil0 (l' := [_, _, _, _, _, _, _, _, _, _, _, _, _, _, _, _, _, _, _, _, _, _, _, _, _, _, _, _, _, _, _, _, _, _, _, _, _, _, _, _, _, _, _, _, _, _, _, _, _, _, _, _, _, _, _, _, _, _, _, _, _, _, _, _, _, _, _, _, _, _, _, _, _, _, _, _, _, _, _, _, _, _, _, _, _, _, _, _, _, _, _, _, _, _, _, _, _, _, _, _, _, _, _, _, _, _, _, _, _, _, _, _, _, _, _, _, _, _, _, _, _]) rfl ?_
      exact ⟨i + 1, _, rfl, ⟨_, _, _, _, _, _, _, _, _, _, _, _, N2, _, rfl, by omega, hT2, by simp only [List.length_cons]; omega, (ord_a (by omega) hla), H⟩, by omega⟩
    · skip
      skip
      refine wp_exit (x_thenExit (x_thenExit (x_blockHit ?_)))
      refine x_thenNormal ?_
      refine c_rseq (n := 121) ⟨rfl, rfl⟩ ?_
      refine s_val (r_move rfl) ?_
      obtain ⟨xs, hxs⟩ : ∃ xs, xs = tree0 splitL splitR seed la := ⟨_, rfl⟩
      rw [← hxs] at hT
      have hvx : Valid xs := by rw [hxs]; exact tree0_valid _
      have hlx : xs.length ≤ 1 + 17 * la.length := by rw [hxs]; exact tree0_len _
      have hpx : 0 < xs.length := by rw [hxs]; exact tree0_some (by omega)
      have hnq : ¬ ∃ x ∈ (punc splitL splitR xs q), InN x q := by rw [hxs, tree0_punc]; exact gone List.mem_cons_self
      have hvy : Valid (punc splitL splitR xs q) := punc_valid hvx
      have hly := len_tree (sl := splitL) (sr := splitR) (n := q) hvx
      refine s_call (r_call Try.call17 (ec rfl en)) (held_spec _ _ xs N (by omega) hvx _ hT (H.ownsM (.cons _ (List.Sublist.refl _)))) ?_
      rintro v w ⟨a5, cap5, N5, rfl, hN5, HC⟩
      replace H := H.call0 HC
      refine s_call (r_call Try.call16 (ec rfl en)) (plain6_spec _ _ xs (by omega) _ (hN5.hrowM H (fun p hp => List.mem_append_left _ hp))) ?_
      rintro v w ⟨aw, capw, Nw, rfl, hNw, HC⟩
      replace H : St w0 [] _ (Nw ++ N) := (H.call0 HC).sub (List.Sublist.append (List.Sublist.refl _) ((List.Sublist.cons _ (List.Sublist.refl N)).trans (List.sublist_append_right N5 _)))
      refine s_val (r_assign rfl) ?_
      refine c_nil (l' := [_, _, _, _, _, _, _, _, _, _, _, _, _, _, _, _, _, _, _, _, _, _, _, _, _, _, _, _, _, _, _, _, _, _, _, _, _, _, _, _, _, _, _, _, _, _, _, _, _, _, _, _, _, _, _, _, _, _, _, _, _, _, _, _, _, _, _, _, _, _, _, _, _, _, _, _, _, _, _, _, _, _, _, _, _, _, _, _, _, _, _, _, _, _, _, _, _, _, _, _, _, _, _, _, _, _, _, _, _, _, _, _, _, _, _, _, _, _, _, _, _]) rfl ?_
      refine c_rseq (n := 121) ⟨rfl, rfl⟩ ?_
      refine s_val (r_buildS Try.runUnderlying29 Try.zeroValue29 places29 pn rfl) ?_
      refine s_val (r_makeIface Try.runUnderlying29 (fun _ h => nomatch h) rfl) ?_
      refine s_val (r_move rfl) ?_
      refine s_call (r_call Try.call17 (ec rfl en)) (held_spec _ _ xs N (by omega) hvx _ hT (H.ownsM (List.sublist_append_right _ _))) ?_
      rintro v w ⟨a6, cap6, N6, rfl, hN6, HC⟩
      replace H := H.call0 HC
      refine s_call (r_call Try.call25 (ec rfl (ec rfl en))) (from_spec _ _ _ xs splitL splitR splits_little (by omega) hvx.inR _ (hN6.hrowM H (fun p hp => List.mem_append_left _ hp))) ?_
      rintro v w (⟨_, bu, Nu, rfl, hTu, HC⟩ | ⟨hn, _⟩)
      · skip
        replace H : St w0 [] _ (Nu ++ (Nw ++ N)) := (H.call0 HC).sub (List.Sublist.append (List.Sublist.refl _) (List.sublist_append_right N6 _))
        refine s_val (r_move rfl) ?_
        refine s_val (r_extract rfl rfl) ?_
        refine s_val (r_extract rfl rfl) ?_
        refine s_val (r_assign rfl) ?_
        refine s_val (r_assign rfl) ?_
        refine c_nil (l' := [_, _, _, _, _, _, _, _, _, _, _, _, _, _, _, _, _, _, _, _, _, _, _, _, _, _, _, _, _, _, _, _, _, _, _, _, _, _, _, _, _, _, _, _, _, _, _, _, _, _, _, _, _, _, _, _, _, _, _, _, _, _, _, _, _, _, _, _, _, _, _, _, _, _, _, _, _, _, _, _, _, _, _, _, _, _, _, _, _, _, _, _, _, _, _, _, _, _, _, _, _, _, _, _, _, _, _, _, _, _, _, _, _, _, _, _, _, _, _, _, _]) rfl ?_
        refine c_seq ?_
        refine c_rseq (n := 121) ⟨rfl, rfl⟩ ?_
        refine s_val (r_move rfl) ?_
        refine s_val (r_neq rfl rfl) ?_
        refine s_val (r_move rfl) ?_
        refine g_yes rfl rfl ?_
        refine s_val (r_move rfl) ?_
        refine g_yes rfl rfl ?_
        refine s_call (r_call Try.call17 (ec rfl en)) (held_spec _ _ xs Nu (by omega) hvx _ hTu (H.ownsM (List.sublist_append_left _ _))) ?_
        rintro v w ⟨a7, cap7, N7, rfl, hN7, HC⟩
        replace H := H.call0 HC
        refine g_yes rfl rfl ?_
        refine s_call (r_call Try.call16 (ec rfl en)) (plain6_spec _ _ xs (by omega) _ (hN7.hrowM H (fun p hp => List.mem_append_left _ hp))) ?_
        rintro v w ⟨a8, cap8, N8, rfl, hN8, HC⟩
        replace H := H.call0 HC
        refine g_yes rfl rfl ?_
        refine s_val (r_move rfl) ?_
        refine g_yes rfl rfl ?_
        refine s_call (r_call Try.call15 (ec rfl (ec rfl en))) (same6_spec _ _ _ _ xs xs (by omega) _ (hN8.hrowM H (fun p hp => by simp [hp])) (hNw.hrowM H (fun p hp => by simp [hp]))) ?_
        rintro v w ⟨hv61, HC⟩
        rw [decide_eq_true rfl] at hv61
        subst hv61
        replace H : St w0 [] _ (Nu ++ (Nw ++ N)) := (H.quiet HC).sub ((List.sublist_append_right N7 _).trans (List.sublist_append_right N8 _))
        refine g_yes rfl rfl ?_
        refine s_val (r_not rfl) ?_
        refine s_val (r_pickf rfl rfl) ?_
        refine c_nil (l' := [_, _, _, _, _, _, _, _, _, _, _, _, _, _, _, _, _, _, _, _, _, _, _, _, _, _, _, _, _, _, _, _, _, _, _, _, _, _, _, _, _, _, _, _, _, _, _, _, _, _, _, _, _, _, _, _, _, _, _, _, _, _, _, _, _, _, _, _, _, _, _, _, _, _, _, _, _, _, _, _, _, _, _, _, _, _, _, _, _, _, _, _, _, _, _, _, _, _, _, _, _, _, _, _, _, _, _, _, _, _, _, _, _, _, _, _, _, _, _, _, _]) rfl ?_
        refine c_iff rfl ?_
        refine wp_skip ?_
        refine x_thenNormal ?_
        refine c_rseq (n := 121) ⟨rfl, rfl⟩ ?_
        refine s_val (r_move rfl) ?_
        refine s_val (r_move rfl) ?_
        refine s_call (r_call Try.call19 (ec rfl (ec rfl en))) (key_spec _ _ xs N (by omega) hvx q hq0 splitL splitR splits_little _ hT (H.ownsM ((List.sublist_append_right Nw N).trans (List.sublist_append_right Nu _)))) ?_
        rintro v w ⟨k1, ok1, hK1, rfl, HC⟩
        obtain rfl := keyR_ok hK1
        replace H := H.quiet HC
        refine s_val (r_move rfl) ?_
        refine s_val (r_extract rfl rfl) ?_
        refine s_val (r_extract rfl rfl) ?_
        refine s_new (m_alloc (cs := (kC (By.zero 32))) H Try.zeroValue23 rfl) ?_
        intro w b12 H
        refine s_st (m_storen H 0 32 Try.sizeOf23 rfl rfl (by first | exact (kC_length _) | exact (hC_length _)) (by first | exact (kC_one _) | exact (hC_one _)) rfl (by first | exact (by rw [kC_length]; omega) | exact (by rw [hC_length]; omega)) (by first | exact (kC_sp _ _) | exact (hC_sp _ _))) (L' := (_ :: _)) rfl ?_
        intro w H
        refine s_val (r_assign rfl) ?_
        refine c_nil (l' := [_, _, _, _, _, _, _, _, _, _, _, _, _, _, _, _, _, _, _, _, _, _, _, _, _, _, _, _, _, _, _, _, _, _, _, _, _, _, _, _, _, _, _, _, _, _, _, _, _, _, _, _, _, _, _, _, _, _, _, _, _, _, _, _, _, _, _, _, _, _, _, _, _, _, _, _, _, _, _, _, _, _, _, _, _, _, _, _, _, _, _, _, _, _, _, _, _, _, _, _, _, _, _, _, _, _, _, _, _, _, _, _, _, _, _, _, _, _, _, _, _]) rfl ?_
        refine c_rseq (n := 121) ⟨rfl, rfl⟩ ?_
        refine s_val (r_move rfl) ?_
        refine s_val (r_move rfl) ?_
        refine s_call (r_call Try.call19 (ec rfl (ec rfl en))) (key_spec _ _ xs Nu (by omega) hvx q hq0 splitL splitR splits_little _ hTu (H.ownsM (.cons _ (List.sublist_append_left _ _)))) ?_
        rintro v w ⟨k2, ok2, hK2, rfl, HC⟩
        obtain rfl := keyR_ok hK2
        obtain rfl := keyR_uniq hvx hK1 hK2
        replace H := H.quiet HC
        refine s_val (r_move rfl) ?_
        refine s_val (r_extract rfl rfl) ?_
        refine s_val (r_extract rfl rfl) ?_
        refine s_new (m_alloc (cs := (kC (By.zero 32))) H Try.zeroValue23 rfl) ?_
        intro w b14 H
        refine s_st (m_storen H 0 32 Try.sizeOf23 rfl rfl (by first | exact (kC_length _) | exact (hC_length _)) (by first | exact (kC_one _) | exact (hC_one _)) rfl (by first | exact (by rw [kC_length]; omega) | exact (by rw [hC_length]; omega)) (by first | exact (kC_sp _ _) | exact (hC_sp _ _))) (L' := (_ :: _ :: _)) rfl ?_
        intro w H
        refine s_val (r_assign rfl) ?_
        refine c_nil (l' := [_, _, _, _, _, _, _, _, _, _, _, _, _, _, _, _, _, _, _, _, _, _, _, _, _, _, _, _, _, _, _, _, _, _, _, _, _, _, _, _, _, _, _, _, _, _, _, _, _, _, _, _, _, _, _, _, _, _, _, _, _, _, _, _, _, _, _, _, _, _, _, _, _, _, _, _, _, _, _, _, _, _, _, _, _, _, _, _, _, _, _, _, _, _, _, _, _, _, _, _, _, _, _, _, _, _, _, _, _, _, _, _, _, _, _, _, _, _, _, _, _]) rfl ?_
        refine c_rseq (n := 121) ⟨rfl, rfl⟩ ?_
        refine s_val (r_move rfl) ?_
        refine s_call (r_call Try.call27 (ec rfl en)) (clonet_spec _ _ xs N (by omega) hvx splitL splitR splits_little _ hT (H.ownsM (.cons _ (.cons _ ((List.sublist_append_right Nw N).trans (List.sublist_append_right Nu _)))))) ?_
        rintro v w ⟨bc, Nc, rfl, hTc, HC⟩
        replace H : St w0 [] _ (_ :: _ :: (Nc ++ (Nw ++ N))) := ((H.call0 HC).sub (List.Sublist.append (List.Sublist.refl Nc) (.cons_cons _ (.cons_cons _ (List.sublist_append_right Nu (Nw ++ N)))))).perm mid2
        refine s_val (r_assign rfl) ?_
        refine c_nil (l' := [_, _, _, _, _, _, _, _, _, _, _, _, _, _, _, _, _, _, _, _, _, _, _, _, _, _, _, _, _, _, _, _, _, _, _, _, _, _, _, _, _, _, _, _, _, _, _, _, _, _, _, _, _, _, _, _, _, _, _, _, _, _, _, _, _, _, _, _, _, _, _, _, _, _, _, _, _, _, _, _, _, _, _, _, _, _, _, _, _, _, _, _, _, _, _, _, _, _, _, _, _, _, _, _, _, _, _, _, _, _, _, _, _, _, _, _, _, _, _, _, _]) rfl ?_
        refine c_rseq (n := 121) ⟨rfl, rfl⟩ ?_
        refine s_val (r_move rfl) ?_
        refine s_val (r_move rfl) ?_
        refine s_call (r_call Try.call14 (ec rfl (ec rfl en))) (punc_t _ _ xs q Nc splitL splitR splits_little (by omega) hvx hq0 hq1 _ hTc (H.ownsM (.cons _ (.cons _ (List.sublist_append_left _ _))))) ?_
        rintro v w ⟨rfl, Nc2, hTc2, HC⟩
        replace H := H.trA2 HC
        refine c_nil (l' := [_, _, _, _, _, _, _, _, _, _, _, _, _, _, _, _, _, _, _, _, _, _, _, _, _, _, _, _, _, _, _, _, _, _, _, _, _, _, _, _, _, _, _, _, _, _, _, _, _, _, _, _, _, _, _, _, _, _, _, _, _, _, _, _, _, _, _, _, _, _, _, _, _, _, _, _, _, _, _, _, _, _, _, _, _, _, _, _, _, _, _, _, _, _, _, _, _, _, _, _, _, _, _, _, _, _, _, _, _, _, _, _, _, _, _, _, _, _, _, _, _]) rfl ?_
        refine c_rseq (n := 121) ⟨rfl, rfl⟩ ?_
        refine s_val (r_move rfl) ?_
        refine s_call (r_call Try.call17 (ec rfl en)) (held_spec _ _ xs N (by omega) hvx _ hT (H.ownsM (.cons _ (.cons _ ((List.sublist_append_right Nw N).trans (List.sublist_append_right Nc2 _)))))) ?_
        rintro v w ⟨a9, cap9, N9, rfl, hN9, HC⟩
        replace H := H.call0 HC
        obtain ⟨bs, sp, rfl, hcs, rfl, hnc⟩ := hN9.some hpx
        refine s_val (r_assign rfl) ?_
        refine c_nil (l' := [_, _, _, _, _, _, _, _, _, _, _, _, _, _, _, _, _, _, _, _, _, _, _, _, _, _, _, _, _, _, _, _, _, _, _, _, _, _, _, _, _, _, _, _, _, _, _, _, _, _, _, _, _, _, _, _, _, _, _, _, _, _, _, _, _, _, _, _, _, _, _, _, _, _, _, _, _, _, _, _, _, _, _, _, _, _, _, _, _, _, _, _, _, _, _, _, _, _, _, _, _, _, _, _, _, _, _, _, _, _, _, _, _, _, _, _, _, _, _, _, _]) rfl ?_
        refine c_seq ?_
        refine c_rseq (n := 121) ⟨rfl, rfl⟩ ?_
        refine s_val (r_move rfl) ?_
        refine s_val (r_lens Try.runUnderlying35 (ec rfl en)) ?_
        refine s_val (r_move rfl) ?_
        refine c_nil (l' := [_, _, _, _, _, _, _, _, _, _, _, _, _, _, _, _, _, _, _, _, _, _, _, _, _, _, _, _, _, _, _, _, _, _, _, _, _, _, _, _, _, _, _, _, _, _, _, _, _, _, _, _, _, _, _, _, _, _, _, _, _, _, _, _, _, _, _, _, _, _, _, _, _, _, _, _, _, _, _, _, _, _, _, _, _, _, _, _, _, _, _, _, _, _, _, _, _, _, _, _, _, _, _, _, _, _, _, _, _, _, _, _, _, _, _, _, _, _, _, _, _]) rfl ?_
        refine wp_block ?_
        refine c_loop (fun (l0 : List Value) (k : Nat) (l : List Value) (w : World) => ∃ (u18 u86 u87 u88 u89 u90 u91 u92 : Value) (cs : List Value), l = ovr l0 [N_, N_, N_, N_, N_, N_, N_, N_, N_, N_, N_, N_, N_, N_, N_, N_, N_, N_, Y_ u18, N_, N_, N_, N_, N_, N_, N_, N_, N_, N_, N_, N_, N_, N_, N_, N_, N_, N_, N_, N_, N_, N_, N_, N_, N_, N_, N_, N_, N_, N_, N_, N_, N_, N_, N_, N_, N_, N_, N_, N_, N_, N_, N_, N_, N_, N_, N_, N_, N_, N_, N_, N_, N_, N_, N_, N_, N_, N_, N_, N_, N_, N_, N_, N_, N_, N_, Y_ (.int .i64 k), Y_ u86, Y_ u87, Y_ u88, Y_ u89, Y_ u90, Y_ u91, Y_ u92] ∧ k ≤ xs.length ∧ xs.length * 34 ≤ cs.length ∧ St w0 [] w ((bs, .cells cs.toArray 41 (0, 0)) :: (b14, .cells (kC k2).toArray 23 (0, 0)) :: (b12, .cells (kC k2).toArray 23 (0, 0)) :: Nc2 ++ (Nw ++ N))) (fun (k : Nat) => xs.length - k) 0 ⟨_, _, _, _, _, _, _, _, _, rfl, by omega, by rw [List.length_append, hsC_length]; omega, H⟩ ?_
        intro k l w ⟨u18, u86, u87, u88, u89, u90, u91, u92, cs, hl, hk, hcl, H⟩
        obtain rfl := hl.trans (rfl : _ = [_, _, _, _, _, _, _, _, _, _, _, _, _, _, _, _, _, _, _, _, _, _, _, _, _, _, _, _, _, _, _, _, _, _, _, _, _, _, _, _, _, _, _, _, _, _, _, _, _, _, _, _, _, _, _, _, _, _, _, _, _, _, _, _, _, _, _, _, _, _, _, _, _, _, _, _, _, _, _, _, _, _, _, _, _, _, _, _, _, _, _, _, _, _, _, _, _, _, _, _, _, _, _, _, _, _, _, _, _, _, _, _, _, _, _, _, _, _, _, _, _])
        clear hl
        refine c_rseq (n := 121) ⟨rfl, rfl⟩ ?_
        refine s_val (r_lss rfl rfl) ?_
        refine c_nil (l' := [_, _, _, _, _, _, _, _, _, _, _, _, _, _, _, _, _, _, _, _, _, _, _, _, _, _, _, _, _, _, _, _, _, _, _, _, _, _, _, _, _, _, _, _, _, _, _, _, _, _, _, _, _, _, _, _, _, _, _, _, _, _, _, _, _, _, _, _, _, _, _, _, _, _, _, _, _, _, _, _, _, _, _, _, _, _, _, _, _, _, _, _, _, _, _, _, _, _, _, _, _, _, _, _, _, _, _, _, _, _, _, _, _, _, _, _, _, _, _, _, _]) rfl ?_
        refine c_seq ?_
        refine c_if rfl (fun h86 => ?_) (fun h86 => ?_)
        · skip
          skip
          refine wp_skip ?_
          refine x_thenNormal ?_
          refine c_seq ?_
          refine wp_block ?_
          refine c_rseq (n := 121) ⟨rfl, rfl⟩ ?_
          refine s_val (r_move rfl) ?_
          refine s_val (r_assign rfl) ?_
          refine c_nil (l' := [_, _, _, _, _, _, _, _, _, _, _, _, _, _, _, _, _, _, _, _, _, _, _, _, _, _, _, _, _, _, _, _, _, _, _, _, _, _, _, _, _, _, _, _, _, _, _, _, _, _, _, _, _, _, _, _, _, _, _, _, _, _, _, _, _, _, _, _, _, _, _, _, _, _, _, _, _, _, _, _, _, _, _, _, _, _, _, _, _, _, _, _, _, _, _, _, _, _, _, _, _, _, _, _, _, _, _, _, _, _, _, _, _, _, _, _, _, _, _, _, _]) rfl ?_
          refine c_region (n := 121) ⟨rfl, rfl⟩ ?_
          refine s_val (r_move rfl) ?_
          refine s_val (r_move rfl) ?_
          refine s_val (r_buildS Try.runUnderlying41 Try.zeroValue41 places41 (pc rfl pn) (rfl : _ = some (hC ⟨99, 0, By.zero 32⟩))) ?_
          refine s_val (r_indexAddrS Try.runUnderlying35 Try.sizeOf41 rfl rfl (by omega) (by omega)) ?_
          refine s_st (m_storen H 0 34 Try.sizeOf41 rfl rfl (by first | exact (kC_length _) | exact (hC_length _)) (by first | exact (kC_one _) | exact (hC_one _)) rfl (by omega) rfl) (L' := (_ :: _ :: _ :: _)) rfl ?_
          intro w H
          refine c_nil0 (l' := [_, _, _, _, _, _, _, _, _, _, _, _, _, _, _, _, _, _, _, _, _, _, _, _, _, _, _, _, _, _, _, _, _, _, _, _, _, _, _, _, _, _, _, _, _, _, _, _, _, _, _, _, _, _, _, _, _, _, _, _, _, _, _, _, _, _, _, _, _, _, _, _, _, _, _, _, _, _, _, _, _, _, _, _, _, _, _, _, _, _, _, _, _, _, _, _, _, _, _, _, _, _, _, _, _, _, _, _, _, _, _, _, _, _, _, _, _, _, _, _, _]) rfl ?_
          refine x_blockNormal ?_
          refine x_thenNormal ?_
          refine c_region (n := 121) ⟨rfl, rfl⟩ ?_
          refine s_val (r_add rfl rfl (w_i64 (by omega) (by omega))) ?_
          refine s_val (r_move rfl) ?_
          refine c_nil0 (l' := [_, _, _, _, _, _, _, _, _, _, _, _, _, _, _, _, _, _, _, _, _, _, _, _, _, _, _, _, _, _, _, _, _, _, _, _, _, _, _, _, _, _, _, _, _, _, _, _, _, _, _, _, _, _, _, _, _, _, _, _, _, _, _, _, _, _, _, _, _, _, _, _, _, _, _, _, _, _, _, _, _, _, _, _, _, _, _, _, _, _, _, _, _, _, _, _, _, _, _, _, _, _, _, _, _, _, _, _, _, _, _, _, _, _, _, _, _, _, _, _, _]) rfl ?_
          exact ⟨k + 1, _, rfl, ⟨_, _, _, _, _, _, _, _, _, rfl, by omega, by rw [splice_length (by rw [hC_length]; omega)]; exact hcl, H⟩, by omega⟩
        · skip
          skip
          refine wp_exit (x_thenExit (x_thenExit (x_blockHit ?_)))
          refine x_thenNormal ?_
          refine c_rseq (n := 121) ⟨rfl, rfl⟩ ?_
          refine s_val (r_loadn Try.isAgg23 Try.sizeOf23 rfl (H.at 2 rfl) (by first | exact (kC_td _) | exact (hC_td _) | exact (hC_seed _)) (by first | exact (kC_length _) | exact (hC_length _) | exact rfl)) ?_
          refine s_val (r_loadn Try.isAgg23 Try.sizeOf23 rfl (H.at 1 rfl) (by first | exact (kC_td _) | exact (hC_td _) | exact (hC_seed _)) (by first | exact (kC_length _) | exact (hC_length _) | exact rfl)) ?_
          refine s_test (r_eqlK keyT23 rfl rfl) (fun h95 => ?_) (fun h95 => ?_)
          · skip
            refine s_val (r_move rfl) ?_
            refine g_yes rfl rfl ?_
            refine s_val (r_move rfl) ?_
            refine g_yes rfl rfl ?_
            refine s_val (r_move rfl) ?_
            refine g_yes rfl rfl ?_
            refine s_testb (r_eqlb Try.runUnderlying4 rfl rfl) (fun h99 => ?_) (fun h99 => ?_)
            · skip
              refine s_val (r_pickt rfl rfl) ?_
              refine s_val (r_move rfl) ?_
              refine g_yes rfl rfl ?_
              refine s_val (r_move rfl) ?_
              refine g_yes rfl rfl ?_
              refine s_val (r_move rfl) ?_
              refine g_yes rfl rfl ?_
              refine s_call (r_call Try.call23 (ec rfl (ec rfl en))) (has_spec _ _ (punc splitL splitR xs q) Nc2 (by omega) hvy q hq0 _ hTc2 (H.ownsM (.cons _ (.cons _ (.cons _ (List.sublist_append_left _ _)))))) ?_
              rintro v w ⟨hv104, HC⟩
              rw [decide_eq_false hnq] at hv104
              subst hv104
              replace H := H.quiet HC
              refine g_yes rfl rfl ?_
              refine s_val (r_not rfl) ?_
              refine s_val (r_pickt rfl rfl) ?_
              refine s_val (r_move rfl) ?_
              refine g_yes rfl rfl ?_
              refine s_val (r_move rfl) ?_
              refine g_yes rfl rfl ?_
              refine s_val (r_move rfl) ?_
              refine g_yes rfl rfl ?_
              refine s_call (r_call Try.call23 (ec rfl (ec rfl en))) (has_spec _ _ xs N (by omega) hvx q hq0 _ hT (H.ownsM (.cons _ (.cons _ (.cons _ ((List.sublist_append_right Nw N).trans (List.sublist_append_right Nc2 _))))))) ?_
              rintro v w ⟨rfl, HC⟩
              replace H := H.quiet HC
              refine g_yes rfl rfl ?_
              refine s_val (r_move rfl) ?_
              refine g_yes rfl rfl ?_
              refine s_testb (r_eqlb Try.runUnderlying4 rfl rfl) (fun h112 => ?_) (fun h112 => ?_)
              · skip
                refine s_val (r_pickt rfl rfl) ?_
                refine s_val (r_move rfl) ?_
                refine g_yes rfl rfl ?_
                refine s_val (r_move rfl) ?_
                refine g_yes rfl rfl ?_
                refine s_call (r_call Try.call17 (ec rfl en)) (held_spec _ _ xs N (by omega) hvx _ hT (H.ownsM (.cons _ (.cons _ (.cons _ ((List.sublist_append_right Nw N).trans (List.sublist_append_right Nc2 _))))))) ?_
                rintro v w ⟨a10, cap10, N10, rfl, hN10, HC⟩
                replace H := H.call0 HC
                refine g_yes rfl rfl ?_
                refine s_call (r_call Try.call16 (ec rfl en)) (plain6_spec _ _ xs (by omega) _ (hN10.hrowM H (fun p hp => List.mem_append_left _ hp))) ?_
                rintro v w ⟨a11, cap11, N11, rfl, hN11, HC⟩
                replace H := H.call0 HC
                refine g_yes rfl rfl ?_
                refine s_val (r_move rfl) ?_
                refine g_yes rfl rfl ?_
                refine s_call (r_call Try.call15 (ec rfl (ec rfl en))) (same6_spec _ _ _ _ xs xs (by omega) _ (hN11.hrowM H (fun p hp => by simp [hp])) (hNw.hrowM H (fun p hp => by simp [hp]))) ?_
                rintro v w ⟨hv119, HC⟩
                rw [decide_eq_true rfl] at hv119
                subst hv119
                replace H := H.quiet HC
                refine s_val (r_pickt rfl rfl) ?_
                refine s_val (r_assign rfl) ?_
                refine c_nil (l' := [_, _, _, _, _, _, _, _, _, _, _, _, _, _, _, _, _, _, _, _, _, _, _, _, _, _, _, _, _, _, _, _, _, _, _, _, _, _, _, _, _, _, _, _, _, _, _, _, _, _, _, _, _, _, _, _, _, _, _, _, _, _, _, _, _, _, _, _, _, _, _, _, _, _, _, _, _, _, _, _, _, _, _, _, _, _, _, _, _, _, _, _, _, _, _, _, _, _, _, _, _, _, _, _, _, _, _, _, _, _, _, _, _, _, _, _, _, _, _, _, _]) rfl ?_
                refine wp_ret ?_
                refine e_ret (res1 rfl rfl) ⟨_, rfl, ?_⟩
                exact ⟨rfl, H.sub (List.nil_sublist _)⟩
              · skip
                simp at h112
            · skip
              simp at h99
          · skip
            exact absurd rfl h95
      · skip
        exact absurd hvx hn

end Go.Proofs.Ytblphhclfloodaa
