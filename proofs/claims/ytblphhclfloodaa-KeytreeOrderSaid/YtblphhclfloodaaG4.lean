import Derived.Test.YtblphhclfloodaaG3
namespace Go.Proofs.Ytblphhclfloodaa
open Go Go.Er

set_option maxHeartbeats 4000000 in
theorem order_spec (seed : Key) (a : Option Addr) (cap : Nat) (ns : List Int) (hu : U64 ns) (b : Int) (hb0 : 0 ≤ b) (hb1 : b < 256) (w0 : World) (hr : URow w0 a ns) :
    Calls Try.prog 3 #[.agg (kC seed).toArray, .slice a ns.length cap, .int .u8 b] w0 fun e w => ∃ v, e = .returned v ∧ (v = .bool true ∧ St w0 [] w []) := by
  have H := St.refl w0
  refine c_enter (args := [.agg (kC seed).toArray, .slice a ns.length cap, .int .u8 b]) (l := [.agg (kC seed).toArray, .slice a ns.length cap, .int .u8 b, undef, undef, undef, undef, undef, undef, undef, undef, undef, undef, undef, undef, undef, undef, undef, undef, undef, undef, undef, undef, undef, undef, undef, undef, undef, undef, undef, undef, undef, undef, undef, undef, undef, undef, undef, undef, undef, undef, undef, undef, undef, undef, undef, undef, undef, undef, undef, undef, undef, undef, undef, undef, undef, undef, undef, undef, undef, undef, undef, undef, undef, undef, undef, undef, undef, undef, undef, undef, undef, undef, undef, undef, undef, undef, undef, undef, undef]) Try.func3 Try.ntmps3 rfl rfl ?_
  refine c_rseq (n := 80) ⟨rfl, rfl⟩ ?_
  refine s_new (m_box (cs := (kC seed)) H rfl rfl) ?_
  intro w b3 H
  refine s_val (r_assign rfl) ?_
  refine c_nil (l' := [_, _, _, _, _, _, _, _, _, _, _, _, _, _, _, _, _, _, _, _, _, _, _, _, _, _, _, _, _, _, _, _, _, _, _, _, _, _, _, _, _, _, _, _, _, _, _, _, _, _, _, _, _, _, _, _, _, _, _, _, _, _, _, _, _, _, _, _, _, _, _, _, _, _, _, _, _, _, _, _]) rfl ?_
  refine c_seq ?_
  refine c_rseq (n := 80) ⟨rfl, rfl⟩ ?_
  refine s_call (r_call Try.call12 en) (awake_spec _) ?_
  rintro v w ⟨rfl, HC⟩
  replace H := H.quiet HC
  refine s_val (r_not rfl) ?_
  refine s_val (r_move rfl) ?_
  refine g_yes rfl rfl ?_
  refine s_val (r_move rfl) ?_
  refine g_yes rfl rfl ?_
  refine s_val (r_lens Try.runUnderlying24 (ec rfl en)) ?_
  refine g_yes rfl rfl ?_
  refine s_val (r_gtr rfl rfl) ?_
  refine s_val (r_pickf rfl rfl) ?_
  refine c_nil (l' := [_, _, _, _, _, _, _, _, _, _, _, _, _, _, _, _, _, _, _, _, _, _, _, _, _, _, _, _, _, _, _, _, _, _, _, _, _, _, _, _, _, _, _, _, _, _, _, _, _, _, _, _, _, _, _, _, _, _, _, _, _, _, _, _, _, _, _, _, _, _, _, _, _, _, _, _, _, _, _, _]) rfl ?_
  refine c_if rfl (fun h16 => ?_) (fun h16 => ?_)
  · skip
    refine c_rseq (n := 80) ⟨rfl, rfl⟩ ?_
    refine s_call (r_call Try.call12 en) (awake_spec _) ?_
    rintro v w ⟨rfl, HC⟩
    replace H := H.quiet HC
    refine s_val (r_assign rfl) ?_
    refine c_nil (l' := [_, _, _, _, _, _, _, _, _, _, _, _, _, _, _, _, _, _, _, _, _, _, _, _, _, _, _, _, _, _, _, _, _, _, _, _, _, _, _, _, _, _, _, _, _, _, _, _, _, _, _, _, _, _, _, _, _, _, _, _, _, _, _, _, _, _, _, _, _, _, _, _, _, _, _, _, _, _, _, _]) rfl ?_
    refine wp_ret (x_thenRet ?_)
    refine e_ret (res1 rfl rfl) ⟨_, rfl, ?_⟩
    exact ⟨rfl, H.sub (List.nil_sublist _)⟩
  · skip
    skip
    refine wp_skip ?_
    refine x_thenNormal ?_
    refine c_seq ?_
    refine d_begin (sz := 80) ⟨rfl, rfl⟩ (by kernel_rfl) H (H.sub (.cons_cons _ (List.nil_sublist _))) rfl ?_
    intro w H
    refine d_take (i := 0) rfl (by kernel_rfl) (fun _ _ _ h => h) (H.sub (.cons_cons _ (List.nil_sublist _))) (fun _ _ => r_buildS Try.runUnderlying29 Try.zeroValue29 places29 pn rfl) rfl ?_
    refine d_take (i := 1) rfl (by kernel_rfl) (fun _ _ _ h => h) (H.sub (.cons_cons _ (List.nil_sublist _))) (fun _ _ => r_makeIface Try.runUnderlying29 (fun _ h => nomatch h) rfl) rfl ?_
    refine d_take (i := 2) rfl (by kernel_rfl) (fun _ _ _ h => h) (H.sub (.cons_cons _ (List.nil_sublist _))) (fun _ HS => r_loadn Try.isAgg23 Try.sizeOf23 rfl (HS.at 0 rfl) (by first | exact (kC_td _) | exact (hC_td _) | exact (hC_seed _)) (by first | exact (kC_length _) | exact (hC_length _) | exact rfl)) rfl ?_
    refine d_take (i := 4) rfl (by kernel_rfl) (fun _ _ _ h => h) (H.sub (.cons_cons _ (List.nil_sublist _))) (fun _ _ => r_buildS Try.runUnderlying29 Try.zeroValue29 places29 pn rfl) rfl ?_
    refine d_take (i := 5) rfl (by kernel_rfl) (fun _ _ _ h => h) (H.sub (.cons_cons _ (List.nil_sublist _))) (fun _ _ => r_makeIface Try.runUnderlying29 (fun _ h => nomatch h) rfl) rfl ?_
    refine d_take (i := 6) rfl (by kernel_rfl) (fun _ _ _ h => h) (H.sub (.cons_cons _ (List.nil_sublist _))) (fun _ HS => r_loadn Try.isAgg23 Try.sizeOf23 rfl (HS.at 0 rfl) (by first | exact (kC_td _) | exact (hC_td _) | exact (hC_seed _)) (by first | exact (kC_length _) | exact (hC_length _) | exact rfl)) rfl ?_
    refine d_all1 (i := 3) (by kernel_rfl) ?_
    refine b_call rfl go_none (r_call Try.call13 (ec rfl (ec rfl en))) (new_spec _ _ splitL splitR splits_little _) rfl ?_
    rintro v w ⟨ba, Na, rfl, hTa, HC⟩
    replace H : St w0 [] _ (_ :: Na) := (H.call0 HC).perm (List.perm_append_comm (l₁ := [_]))
    refine ⟨(H.sub (.cons_cons _ (List.nil_sublist _))), ?_⟩
    refine d_all1 (i := 7) (by kernel_rfl) ?_
    refine b_call rfl go_none (r_call Try.call13 (ec rfl (ec rfl en))) (new_spec _ _ splitL splitR splits_little _) rfl ?_
    rintro v w ⟨bb, Nb, rfl, hTb, HC⟩
    replace H : St w0 [] _ (_ :: (Na ++ Nb)) := (H.call0 HC).perm (List.perm_append_comm (l₁ := _ :: Na))
    refine ⟨(H.sub (.cons_cons _ (List.nil_sublist _))), ?_⟩
    refine d_take (i := 8) rfl (by kernel_rfl) (fun _ _ _ h => h) (H.sub (.cons_cons _ (List.nil_sublist _))) (fun _ _ => r_assign rfl) rfl ?_
    refine d_take (i := 9) rfl (by kernel_rfl) (fun _ _ _ h => h) (H.sub (.cons_cons _ (List.nil_sublist _))) (fun _ _ => r_assign rfl) rfl ?_
    refine d_done (l' := [_, _, _, _, _, _, _, _, _, _, _, _, _, _, _, _, _, _, _, _, _, _, _, _, _, _, _, _, _, _, _, _, _, _, _, _, _, _, _, _, _, _, _, _, _, _, _, _, _, _, _, _, _, _, _, _, _, _, _, _, _, _, _, _, _, _, _, _, _, _, _, _, _, _, _, _, _, _, _, _]) (by kernel_rfl) rfl ?_
    refine x_thenNormal ?_
    refine c_seq ?_
    refine c_rseq (n := 80) ⟨rfl, rfl⟩ ?_
    refine s_val (r_assign rfl) ?_
    refine c_nil (l' := [_, _, _, _, _, _, _, _, _, _, _, _, _, _, _, _, _, _, _, _, _, _, _, _, _, _, _, _, _, _, _, _, _, _, _, _, _, _, _, _, _, _, _, _, _, _, _, _, _, _, _, _, _, _, _, _, _, _, _, _, _, _, _, _, _, _, _, _, _, _, _, _, _, _, _, _, _, _, _, _]) rfl ?_
    refine wp_block ?_
    refine c_loop (fun (l0 : List Value) (i : Nat) (l : List Value) (w : World) => ∃ (u26 u27 u28 u29 u30 u31 u32 u33 u34 u35 u36 u37 u38 u39 u40 u41 u42 u43 u44 u45 u46 u47 u48 u49 u50 u51 u52 u53 u54 : Value) (Na Nb : List (Nat × Obj)) (la lb : List Int), l = ovr l0 [N_, N_, N_, N_, N_, N_, N_, N_, N_, Y_ (.int .i64 i), N_, N_, N_, N_, N_, N_, N_, N_, N_, N_, N_, N_, N_, N_, N_, N_, Y_ u26, Y_ u27, Y_ u28, Y_ u29, Y_ u30, Y_ u31, Y_ u32, Y_ u33, Y_ u34, Y_ u35, Y_ u36, Y_ u37, Y_ u38, Y_ u39, Y_ u40, Y_ u41, Y_ u42, Y_ u43, Y_ u44, Y_ u45, Y_ u46, Y_ u47, Y_ u48, Y_ u49, Y_ u50, Y_ u51, Y_ u52, Y_ u53, Y_ u54] ∧ i ≤ ns.length ∧ TreeN 68 41 ba (.iface 29 (.agg #[])) (tree0 splitL splitR seed la) Na ∧ TreeN 68 41 bb (.iface 29 (.agg #[])) (tree0 splitL splitR seed lb) Nb ∧ la.length = i ∧ lb.length = 2 * i ∧ (∀ n, n ∈ la ↔ n ∈ ns.take i) ∧ (∀ n ∈ lb, n ∈ ns) ∧ (∀ j : Nat, j < i → ∀ k : Nat, k < ns.length → (k : Int) = ((j : Int) + b) % (ns.length : Int) → ns.getD k 0 ∈ lb) ∧ St w0 [] w ((b3, .cells (kC seed).toArray 23 (0, 0)) :: Na ++ Nb)) (fun (i : Nat) => ns.length - i) 0 ⟨_, _, _, _, _, _, _, _, _, _, _, _, _, _, _, _, _, _, _, _, _, _, _, _, _, _, _, _, _, Na, Nb, [], [], rfl, by omega, by rw [tree0_nil]; exact hTa, by rw [tree0_nil]; exact hTb, rfl, rfl, by simp, (fun _ h => nomatch h), (fun _ h => nomatch h), H⟩ ?_
    intro i l w ⟨u26, u27, u28, u29, u30, u31, u32, u33, u34, u35, u36, u37, u38, u39, u40, u41, u42, u43, u44, u45, u46, u47, u48, u49, u50, u51, u52, u53, u54, Na, Nb, la, lb, hl, hi, hTa, hTb, hll, hlm, hla, hlb, hlc, H⟩
    obtain rfl := hl.trans (rfl : _ = [_, _, _, _, _, _, _, _, _, _, _, _, _, _, _, _, _, _, _, _, _, _, _, _, _, _, _, _, _, _, _, _, _, _, _, _, _, _, _, _, _, _, _, _, _, _, _, _, _, _, _, _, _, _, _, _, _, _, _, _, _, _, _, _, _, _, _, _, _, _, _, _, _, _, _, _, _, _, _, _])
    clear hl
    refine c_seq ?_
    refine c_rseq (n := 80) ⟨rfl, rfl⟩ ?_
    refine s_val (r_move rfl) ?_
    refine s_val (r_move rfl) ?_
    refine s_val (r_lens Try.runUnderlying24 (ec rfl en)) ?_
    refine s_val (r_lss rfl rfl) ?_
    refine c_nil (l' := [_, _, _, _, _, _, _, _, _, _, _, _, _, _, _, _, _, _, _, _, _, _, _, _, _, _, _, _, _, _, _, _, _, _, _, _, _, _, _, _, _, _, _, _, _, _, _, _, _, _, _, _, _, _, _, _, _, _, _, _, _, _, _, _, _, _, _, _, _, _, _, _, _, _, _, _, _, _, _, _]) rfl ?_
    refine c_if rfl (fun h29 => ?_) (fun h29 => ?_)
    · skip
      obtain ⟨bu, off, pre, post, T, fz, rfl, hbu, hpu⟩ := hr (by omega)
      refine wp_skip ?_
      refine x_thenNormal ?_
      refine c_seq ?_
      refine wp_block ?_
      refine c_rseq (n := 80) ⟨rfl, rfl⟩ ?_
      refine s_val (r_move rfl) ?_
      refine s_val (r_move rfl) ?_
      refine s_val (r_move rfl) ?_
      refine s_val (r_indexAddrS Try.runUnderlying24 Try.sizeOf31 rfl rfl (by omega) (by omega)) ?_
      refine s_val (r_load1 Try.isAgg31 rfl (H.rd0 hbu) (u_get pre ns post i hpu (by omega) (by omega))) ?_
      refine s_call (r_call Try.call14 (ec rfl (ec rfl en))) (punc_t _ _ (tree0 splitL splitR seed la) _ Na splitL splitR splits_little (by have := tree0_len (sl := splitL) (sr := splitR) (seed := seed) (la); (try simp only [List.length_cons] at this); omega) (tree0_valid _) (hu.get (i := i) (by omega)).1 (hu.get (by omega)).2 _ hTa (H.ownsM (.cons _ (List.sublist_append_left _ _)))) ?_
      rintro v w ⟨rfl, Na2, hTa2, HC⟩
      rw [tree0_punc] at hTa2
      replace H := H.trA HC
      refine c_nil (l' := [_, _, _, _, _, _, _, _, _, _, _, _, _, _, _, _, _, _, _, _, _, _, _, _, _, _, _, _, _, _, _, _, _, _, _, _, _, _, _, _, _, _, _, _, _, _, _, _, _, _, _, _, _, _, _, _, _, _, _, _, _, _, _, _, _, _, _, _, _, _, _, _, _, _, _, _, _, _, _, _]) rfl ?_
      refine c_rseq (n := 80) ⟨rfl, rfl⟩ ?_
      refine s_val (r_move rfl) ?_
      refine s_val (r_move rfl) ?_
      refine s_val (r_move rfl) ?_
      refine s_val (r_move rfl) ?_
      refine s_val (r_conv Try.runUnderlying5 Try.runUnderlying3 rfl (w_i64 (by omega) (by omega))) ?_
      refine s_val (r_add rfl rfl (w_i64 (by omega) (by omega))) ?_
      refine s_val (r_move rfl) ?_
      refine s_val (r_lens Try.runUnderlying24 (ec rfl en)) ?_
      obtain ⟨k, hk⟩ : ∃ k : Nat, (k : Int) = ((i : Int) + b) % (ns.length : Int) := ⟨_, Int.toNat_of_nonneg (Int.emod_nonneg _ (by omega))⟩
      have hkl : k < ns.length := by have := Int.emod_lt_of_pos ((i : Int) + b) (by omega : (0 : Int) < (ns.length : Int)); omega
      refine s_val (r_rem rfl rfl (by omega) ((Int.tmod_eq_emod_of_nonneg (by omega)).trans hk.symm)) ?_
      refine s_val (r_indexAddrS Try.runUnderlying24 Try.sizeOf31 rfl rfl (by omega) (by omega)) ?_
      refine s_val (r_load1 Try.isAgg31 rfl (H.rd0 hbu) (u_get pre ns post k hpu (by omega) (by omega))) ?_
      refine s_call (r_call Try.call14 (ec rfl (ec rfl en))) (punc_t _ _ (tree0 splitL splitR seed lb) _ Nb splitL splitR splits_little (by have := tree0_len (sl := splitL) (sr := splitR) (seed := seed) (lb); (try simp only [List.length_cons] at this); omega) (tree0_valid _) (hu.get (i := k) (by omega)).1 (hu.get (by omega)).2 _ hTb (H.ownsM (.cons _ (List.sublist_append_right _ _)))) ?_
      rintro v w ⟨rfl, Nb2, hTb2, HC⟩
      rw [tree0_punc] at hTb2
      replace H := H.trB HC
      refine c_nil (l' := [_, _, _, _, _, _, _, _, _, _, _, _, _, _, _, _, _, _, _, _, _, _, _, _, _, _, _, _, _, _, _, _, _, _, _, _, _, _, _, _, _, _, _, _, _, _, _, _, _, _, _, _, _, _, _, _, _, _, _, _, _, _, _, _, _, _, _, _, _, _, _, _, _, _, _, _, _, _, _, _]) rfl ?_
      refine c_region (n := 80) ⟨rfl, rfl⟩ ?_
      refine s_val (r_move rfl) ?_
      refine s_val (r_move rfl) ?_
      refine s_val (r_indexAddrS Try.runUnderlying24 Try.sizeOf31 rfl rfl (by omega) (by omega)) ?_
      refine s_val (r_load1 Try.isAgg31 rfl (H.rd0 hbu) (u_get pre ns post 0 hpu (by omega) (by omega))) ?_
      refine s_call (r_call Try.call14 (ec rfl (ec rfl en))) (punc_t _ _ (tree0 splitL splitR seed (ns.getD k 0 :: lb)) _ Nb2 splitL splitR splits_little (by have := tree0_len (sl := splitL) (sr := splitR) (seed := seed) ((ns.getD k 0 :: lb)); (try simp only [List.length_cons] at this); omega) (tree0_valid _) (hu.get (i := 0) (by omega)).1 (hu.get (by omega)).2 _ hTb2 (H.ownsM (.cons _ (List.sublist_append_right _ _)))) ?_
      rintro v w ⟨rfl, Nb3, hTb3, HC⟩
      rw [tree0_punc] at hTb3
      replace H := H.trB HC
      refine c_nil0 (l' := [_, _, _, _, _, _, _, _, _, _, _, _, _, _, _, _, _, _, _, _, _, _, _, _, _, _, _, _, _, _, _, _, _, _, _, _, _, _, _, _, _, _, _, _, _, _, _, _, _, _, _, _, _, _, _, _, _, _, _, _, _, _, _, _, _, _, _, _, _, _, _, _, _, _, _, _, _, _, _, _]) rfl ?_
      refine x_blockNormal ?_
      refine x_thenNormal ?_
      refine c_region (n := 80) ⟨rfl, rfl⟩ ?_
      refine s_val (r_move rfl) ?_
      refine s_val (r_add rfl rfl (w_i64 (by omega) (by omega))) ?_
      refine s_val (r_assign rfl) ?_
      refine c_nil0 (l' := [_, _, _, _, _, _, _, _, _, _, _, _, _, _, _, _, _, _, _, _, _, _, _, _, _, _, _, _, _, _, _, _, _, _, _, _, _, _, _, _, _, _, _, _, _, _, _, _, _, _, _, _, _, _, _, _, _, _, _, _, _, _, _, _, _, _, _, _, _, _, _, _, _, _, _, _, _, _, _, _]) rfl ?_
      exact ⟨i + 1, _, rfl, ⟨_, _, _, _, _, _, _, _, _, _, _, _, _, _, _, _, _, _, _, _, _, _, _, _, _, _, _, _, _, Na2, Nb3, _, _, rfl, by omega, hTa2, hTb3, by simp only [List.length_cons]; omega, by simp only [List.length_cons]; omega, (ord_a (by omega) hla), (ord_b hlb (getD_mem (by omega)) (getD_mem (by omega))), (ord_c hlc hk), H⟩, by omega⟩
    · skip
      obtain rfl : i = ns.length := by omega
      rw [List.take_length] at hla
      refine wp_exit (x_thenExit (x_thenExit (x_blockHit ?_)))
      refine x_thenNormal ?_
      refine c_seq ?_
      refine c_rseq (n := 80) ⟨rfl, rfl⟩ ?_
      refine s_val (r_move rfl) ?_
      refine s_val (r_lens Try.runUnderlying24 (ec rfl en)) ?_
      refine s_val (r_gtr rfl rfl) ?_
      refine c_nil (l' := [_, _, _, _, _, _, _, _, _, _, _, _, _, _, _, _, _, _, _, _, _, _, _, _, _, _, _, _, _, _, _, _, _, _, _, _, _, _, _, _, _, _, _, _, _, _, _, _, _, _, _, _, _, _, _, _, _, _, _, _, _, _, _, _, _, _, _, _, _, _, _, _, _, _, _, _, _, _, _, _]) rfl ?_
      refine c_if rfl (fun h57 => ?_) (fun h57 => ?_)
      · skip
        obtain ⟨bu, off, pre, post, T, fz, rfl, hbu, hpu⟩ := hr (by omega)
        refine c_region (n := 80) ⟨rfl, rfl⟩ ?_
        refine s_val (r_move rfl) ?_
        refine s_val (r_move rfl) ?_
        refine s_val (r_move rfl) ?_
        refine s_val (r_lens Try.runUnderlying24 (ec rfl en)) ?_
        refine s_val (r_sub rfl rfl (w_i64e (r := ((ns.length - 1 : Nat) : Int)) (by omega) (by omega) (by omega))) ?_
        refine s_val (r_indexAddrS Try.runUnderlying24 Try.sizeOf31 rfl rfl (by omega) (by omega)) ?_
        refine s_val (r_load1 Try.isAgg31 rfl (H.rd0 hbu) (u_get pre ns post (ns.length - 1) hpu (by omega) (by omega))) ?_
        refine s_call (r_call Try.call14 (ec rfl (ec rfl en))) (punc_t _ _ (tree0 splitL splitR seed la) _ Na splitL splitR splits_little (by have := tree0_len (sl := splitL) (sr := splitR) (seed := seed) (la); (try simp only [List.length_cons] at this); omega) (tree0_valid _) (hu.get (i := ns.length - 1) (by omega)).1 (hu.get (by omega)).2 _ hTa (H.ownsM (.cons _ (List.sublist_append_left _ _)))) ?_
        rintro v w ⟨rfl, Na2, hTa2, HC⟩
        rw [tree0_punc, ord_eq (fun n => ⟨fun h => (List.mem_cons.1 h).elim (fun e => e ▸ getD_mem (by omega)) (hla n).1, fun h => List.mem_cons_of_mem _ ((hla n).2 h)⟩) hlb hlc] at hTa2
        replace H := H.trA HC
        refine c_nil (l' := [_, _, _, _, _, _, _, _, _, _, _, _, _, _, _, _, _, _, _, _, _, _, _, _, _, _, _, _, _, _, _, _, _, _, _, _, _, _, _, _, _, _, _, _, _, _, _, _, _, _, _, _, _, _, _, _, _, _, _, _, _, _, _, _, _, _, _, _, _, _, _, _, _, _, _, _, _, _, _, _]) rfl ?_
        refine c_rseq (n := 80) ⟨rfl, rfl⟩ ?_
        refine s_val (r_move rfl) ?_
        refine s_call (r_call Try.call17 (ec rfl en)) (held_spec _ _ (tree0 splitL splitR seed lb) _ (by have := tree0_len (sl := splitL) (sr := splitR) (seed := seed) lb; omega) (tree0_valid _) _ (by assumption) (H.ownsM (.cons _ (List.sublist_append_left _ _)))) ?_
        rintro v w ⟨a1, cap1, N3, rfl, hN3, HC⟩
        replace H := H.call0 HC
        refine s_call (r_call Try.call16 (ec rfl en)) (plain6_spec _ _ (tree0 splitL splitR seed lb) (by have := tree0_len (sl := splitL) (sr := splitR) (seed := seed) lb; omega) _ (hN3.hrowM H (fun p hp => List.mem_append_left _ hp))) ?_
        rintro v w ⟨a2, cap2, N4, rfl, hN4, HC⟩
        replace H := H.call0 HC
        refine s_val (r_move rfl) ?_
        refine s_call (r_call Try.call17 (ec rfl en)) (held_spec _ _ (tree0 splitL splitR seed lb) Nb (by have := tree0_len (sl := splitL) (sr := splitR) (seed := seed) lb; omega) (tree0_valid _) _ hTb (H.ownsM (((List.Sublist.cons _ (List.sublist_append_right _ _)).trans (List.sublist_append_right _ _)).trans (List.sublist_append_right _ _)))) ?_
        rintro v w ⟨a3, cap3, N5, rfl, hN5, HC⟩
        replace H := H.call0 HC
        refine s_call (r_call Try.call16 (ec rfl en)) (plain6_spec _ _ (tree0 splitL splitR seed lb) (by have := tree0_len (sl := splitL) (sr := splitR) (seed := seed) lb; omega) _ (hN5.hrowM H (fun p hp => List.mem_append_left _ hp))) ?_
        rintro v w ⟨a4, cap4, N6, rfl, hN6, HC⟩
        replace H := H.call0 HC
        refine s_call (r_call Try.call15 (ec rfl (ec rfl en))) (same6_spec _ _ _ _ (tree0 splitL splitR seed lb) (tree0 splitL splitR seed lb) (by have := tree0_len (sl := splitL) (sr := splitR) (seed := seed) lb; omega) _ (hN4.hrowM H (fun p hp => by simp [hp])) (hN6.hrowM H (fun p hp => by simp [hp]))) ?_
        rintro v w ⟨hv72, HC⟩
        rw [decide_eq_true rfl] at hv72
        subst hv72
        replace H := H.quiet HC
        refine s_val (r_move rfl) ?_
        refine g_yes rfl rfl ?_
        refine s_val (r_move rfl) ?_
        refine g_yes rfl rfl ?_
        refine s_call (r_call Try.call18 (ec rfl en)) (count_spec _ _ (tree0 splitL splitR seed lb) _ (by have := tree0_len (sl := splitL) (sr := splitR) (seed := seed) lb; omega) (tree0_valid _) _ (by assumption) (H.ownsM (((((List.Sublist.cons _ (List.sublist_append_left _ _)).trans (List.sublist_append_right _ _)).trans (List.sublist_append_right _ _)).trans (List.sublist_append_right _ _)).trans (List.sublist_append_right _ _)))) ?_
        rintro v w ⟨rfl, HC⟩
        replace H := H.quiet HC
        refine g_yes rfl rfl ?_
        refine s_val (r_move rfl) ?_
        refine g_yes rfl rfl ?_
        refine s_call (r_call Try.call18 (ec rfl en)) (count_spec _ _ (tree0 splitL splitR seed lb) Nb (by have := tree0_len (sl := splitL) (sr := splitR) (seed := seed) lb; omega) (tree0_valid _) _ hTb (H.ownsM (((((List.Sublist.cons _ (List.sublist_append_right _ _)).trans (List.sublist_append_right _ _)).trans (List.sublist_append_right _ _)).trans (List.sublist_append_right _ _)).trans (List.sublist_append_right _ _)))) ?_
        rintro v w ⟨rfl, HC⟩
        replace H := H.quiet HC
        refine g_yes rfl rfl ?_
        refine s_val (r_eql rfl rfl) ?_
        refine s_val (r_pickt rfl rfl) ?_
        refine s_val (r_assign rfl) ?_
        refine c_nil (l' := [_, _, _, _, _, _, _, _, _, _, _, _, _, _, _, _, _, _, _, _, _, _, _, _, _, _, _, _, _, _, _, _, _, _, _, _, _, _, _, _, _, _, _, _, _, _, _, _, _, _, _, _, _, _, _, _, _, _, _, _, _, _, _, _, _, _, _, _, _, _, _, _, _, _, _, _, _, _, _, _]) rfl ?_
        refine wp_ret ?_
        refine e_ret (res1 rfl rfl) ⟨_, rfl, ?_⟩
        exact ⟨by rw [decide_eq_true rfl], H.sub (List.nil_sublist _)⟩
      · skip
        rw [ord_eq hla hlb hlc] at hTa
        refine wp_skip ?_
        refine x_thenNormal ?_
        refine c_rseq (n := 80) ⟨rfl, rfl⟩ ?_
        refine s_val (r_move rfl) ?_
        refine s_call (r_call Try.call17 (ec rfl en)) (held_spec _ _ (tree0 splitL splitR seed lb) _ (by have := tree0_len (sl := splitL) (sr := splitR) (seed := seed) lb; omega) (tree0_valid _) _ (by assumption) (H.ownsM (.cons _ (List.sublist_append_left _ _)))) ?_
        rintro v w ⟨a1, cap1, N3, rfl, hN3, HC⟩
        replace H := H.call0 HC
        refine s_call (r_call Try.call16 (ec rfl en)) (plain6_spec _ _ (tree0 splitL splitR seed lb) (by have := tree0_len (sl := splitL) (sr := splitR) (seed := seed) lb; omega) _ (hN3.hrowM H (fun p hp => List.mem_append_left _ hp))) ?_
        rintro v w ⟨a2, cap2, N4, rfl, hN4, HC⟩
        replace H := H.call0 HC
        refine s_val (r_move rfl) ?_
        refine s_call (r_call Try.call17 (ec rfl en)) (held_spec _ _ (tree0 splitL splitR seed lb) Nb (by have := tree0_len (sl := splitL) (sr := splitR) (seed := seed) lb; omega) (tree0_valid _) _ hTb (H.ownsM (((List.Sublist.cons _ (List.sublist_append_right _ _)).trans (List.sublist_append_right _ _)).trans (List.sublist_append_right _ _)))) ?_
        rintro v w ⟨a3, cap3, N5, rfl, hN5, HC⟩
        replace H := H.call0 HC
        refine s_call (r_call Try.call16 (ec rfl en)) (plain6_spec _ _ (tree0 splitL splitR seed lb) (by have := tree0_len (sl := splitL) (sr := splitR) (seed := seed) lb; omega) _ (hN5.hrowM H (fun p hp => List.mem_append_left _ hp))) ?_
        rintro v w ⟨a4, cap4, N6, rfl, hN6, HC⟩
        replace H := H.call0 HC
        refine s_call (r_call Try.call15 (ec rfl (ec rfl en))) (same6_spec _ _ _ _ (tree0 splitL splitR seed lb) (tree0 splitL splitR seed lb) (by have := tree0_len (sl := splitL) (sr := splitR) (seed := seed) lb; omega) _ (hN4.hrowM H (fun p hp => by simp [hp])) (hN6.hrowM H (fun p hp => by simp [hp]))) ?_
        rintro v w ⟨hv72, HC⟩
        rw [decide_eq_true rfl] at hv72
        subst hv72
        replace H := H.quiet HC
        refine s_val (r_move rfl) ?_
        refine g_yes rfl rfl ?_
        refine s_val (r_move rfl) ?_
        refine g_yes rfl rfl ?_
        refine s_call (r_call Try.call18 (ec rfl en)) (count_spec _ _ (tree0 splitL splitR seed lb) _ (by have := tree0_len (sl := splitL) (sr := splitR) (seed := seed) lb; omega) (tree0_valid _) _ (by assumption) (H.ownsM (((((List.Sublist.cons _ (List.sublist_append_left _ _)).trans (List.sublist_append_right _ _)).trans (List.sublist_append_right _ _)).trans (List.sublist_append_right _ _)).trans (List.sublist_append_right _ _)))) ?_
        rintro v w ⟨rfl, HC⟩
        replace H := H.quiet HC
        refine g_yes rfl rfl ?_
        refine s_val (r_move rfl) ?_
        refine g_yes rfl rfl ?_
        refine s_call (r_call Try.call18 (ec rfl en)) (count_spec _ _ (tree0 splitL splitR seed lb) Nb (by have := tree0_len (sl := splitL) (sr := splitR) (seed := seed) lb; omega) (tree0_valid _) _ hTb (H.ownsM (((((List.Sublist.cons _ (List.sublist_append_right _ _)).trans (List.sublist_append_right _ _)).trans (List.sublist_append_right _ _)).trans (List.sublist_append_right _ _)).trans (List.sublist_append_right _ _)))) ?_
        rintro v w ⟨rfl, HC⟩
        replace H := H.quiet HC
        refine g_yes rfl rfl ?_
        refine s_val (r_eql rfl rfl) ?_
        refine s_val (r_pickt rfl rfl) ?_
        refine s_val (r_assign rfl) ?_
        refine c_nil (l' := [_, _, _, _, _, _, _, _, _, _, _, _, _, _, _, _, _, _, _, _, _, _, _, _, _, _, _, _, _, _, _, _, _, _, _, _, _, _, _, _, _, _, _, _, _, _, _, _, _, _, _, _, _, _, _, _, _, _, _, _, _, _, _, _, _, _, _, _, _, _, _, _, _, _, _, _, _, _, _, _]) rfl ?_
        refine wp_ret ?_
        refine e_ret (res1 rfl rfl) ⟨_, rfl, ?_⟩
        exact ⟨by rw [decide_eq_true rfl], H.sub (List.nil_sublist _)⟩

end Go.Proofs.Ytblphhclfloodaa
