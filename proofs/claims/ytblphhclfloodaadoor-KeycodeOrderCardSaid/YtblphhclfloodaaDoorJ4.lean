import Derived.Test.YtblphhclfloodaaDoorJ2
import Derived.Test.YtblphhclfloodaaDoorT4
import Derived.Test.YtblphhclfloodaaDoorT5
namespace Go.Proofs.YtblphhclfloodaaDoor
open Go Go.Er

theorem enc_no (a : Option Addr) (cap n : Nat) (xs : List Held) (hn : n = xs.length) (hl : xs.length ≤ 65535) (hx : ∀ i, i < xs.length → InR (nd xs i)) (w0 : World) (hr : HRow w0 a xs) (hT : TabH w0) (hV : ¬ Valid xs) :
    Calls Tryd.prog 12 #[.slice a n cap] w0 fun e w => ∃ v, e = .returned v ∧ v = .tuple #[.slice none 0 0, .int .i64 3] ∧ St w0 [] w [] := by
  subst hn
  exact (enc_spec a cap xs hl hx w0 hr hT).mono fun _ _ ⟨v, he, h⟩ => ⟨v, he, (h.resolve_left fun h => hV h.1).2⟩


set_option maxHeartbeats 4000000 in
theorem order_law (seed : Key) (a : Option Addr) (cap : Nat) (ns : List Int) (hu : U64 ns) (c : Int) (hc0 : 0 ≤ c) (hc1 : c < 256) (w0 : World) (hr : URow w0 a ns) (hT : TabH w0) :
    Calls Tryd.prog 7 #[.agg (kC seed).toArray, .slice a ns.length cap, .int .u8 c] w0 fun e w => ∃ v, e = .returned v ∧ (v = .bool true ∧ St w0 [] w []) := by
  have H := St.refl w0
  refine c_enter (args := [.agg (kC seed).toArray, .slice a ns.length cap, .int .u8 c]) (l := [.agg (kC seed).toArray, .slice a ns.length cap, .int .u8 c, undef, undef, undef, undef, undef, undef, undef, undef, undef, undef, undef, undef, undef, undef, undef, undef, undef, undef, undef, undef, undef, undef, undef, undef, undef, undef, undef, undef, undef, undef, undef, undef, undef, undef, undef, undef, undef, undef, undef, undef, undef, undef, undef, undef, undef, undef, undef, undef, undef, undef, undef, undef, undef, undef, undef, undef, undef, undef, undef, undef, undef, undef, undef, undef, undef, undef, undef, undef, undef, undef, undef, undef, undef, undef, undef, undef, undef, undef, undef, undef, undef, undef, undef, undef, undef, undef, undef]) Tryd.func7 Tryd.ntmps7 rfl rfl ?_
  refine c_rseq (n := 90) ⟨rfl, rfl⟩ ?_
  refine s_new (m_box (cs := (kC seed)) H rfl rfl) ?_
  intro w b3 H
  refine s_val (r_assign rfl) ?_
  refine c_nil (l' := [_, _, _, _, _, _, _, _, _, _, _, _, _, _, _, _, _, _, _, _, _, _, _, _, _, _, _, _, _, _, _, _, _, _, _, _, _, _, _, _, _, _, _, _, _, _, _, _, _, _, _, _, _, _, _, _, _, _, _, _, _, _, _, _, _, _, _, _, _, _, _, _, _, _, _, _, _, _, _, _, _, _, _, _, _, _, _, _, _, _]) rfl ?_
  refine c_seq ?_
  refine c_rseq (n := 90) ⟨rfl, rfl⟩ ?_
  refine s_call (r_call Tryd.call11 en) (awake_spec _ (hT.st H)) ?_
  rintro v w ⟨rfl, HC⟩
  replace H := H.quiet HC
  refine s_val (r_not rfl) ?_
  refine c_nil (l' := [_, _, _, _, _, _, _, _, _, _, _, _, _, _, _, _, _, _, _, _, _, _, _, _, _, _, _, _, _, _, _, _, _, _, _, _, _, _, _, _, _, _, _, _, _, _, _, _, _, _, _, _, _, _, _, _, _, _, _, _, _, _, _, _, _, _, _, _, _, _, _, _, _, _, _, _, _, _, _, _, _, _, _, _, _, _, _, _, _, _]) rfl ?_
  refine c_iff rfl ?_
  refine wp_skip ?_
  refine x_thenNormal ?_
  refine c_seq ?_
  refine c_rseq (n := 90) ⟨rfl, rfl⟩ ?_
  refine s_val (r_move rfl) ?_
  refine s_val (r_lens Tryd.runUnderlying44 (ec rfl en)) ?_
  refine s_val (r_gtr rfl rfl) ?_
  refine c_nil (l' := [_, _, _, _, _, _, _, _, _, _, _, _, _, _, _, _, _, _, _, _, _, _, _, _, _, _, _, _, _, _, _, _, _, _, _, _, _, _, _, _, _, _, _, _, _, _, _, _, _, _, _, _, _, _, _, _, _, _, _, _, _, _, _, _, _, _, _, _, _, _, _, _, _, _, _, _, _, _, _, _, _, _, _, _, _, _, _, _, _, _]) rfl ?_
  refine c_if rfl (fun h21 => ?_) (fun h21 => ?_)
  · skip
    skip
    refine c_rseq (n := 90) ⟨rfl, rfl⟩ ?_
    refine s_val (r_assign rfl) ?_
    refine c_nil (l' := [_, _, _, _, _, _, _, _, _, _, _, _, _, _, _, _, _, _, _, _, _, _, _, _, _, _, _, _, _, _, _, _, _, _, _, _, _, _, _, _, _, _, _, _, _, _, _, _, _, _, _, _, _, _, _, _, _, _, _, _, _, _, _, _, _, _, _, _, _, _, _, _, _, _, _, _, _, _, _, _, _, _, _, _, _, _, _, _, _, _]) rfl ?_
    refine wp_ret (x_thenRet ?_)
    refine e_ret (res1 rfl rfl) ⟨_, rfl, ?_⟩
    exact ⟨rfl, H.sub (List.nil_sublist _)⟩
  · skip
    refine wp_skip ?_
    refine x_thenNormal ?_
    refine c_rseq (n := 90) ⟨rfl, rfl⟩ ?_
    refine s_val (r_buildS Tryd.runUnderlying50 Tryd.zeroValue50 places50 pn rfl) ?_
    refine s_val (r_makeIface Tryd.runUnderlying50 (fun _ h => nomatch h) rfl) ?_
    refine s_val (r_loadn Tryd.isAgg43 Tryd.sizeOf43 rfl (H.at 0 rfl) (by first | exact (kC_td _) | exact (hC_td _) | exact (hC_seed _)) (by first | exact (kC_length _) | exact (hC_length _) | exact rfl)) ?_
    refine s_call (r_call Tryd.call18 (ec rfl (ec rfl en))) (new_spec _ _ litL litR (splits_lit _) _) ?_
    rintro v w ⟨bt, N, rfl, hT0, HC⟩
    obtain ⟨ci, hci, hTr⟩ : ∃ ci, SplitsBy Tryd.prog ci litL litR ∧ TreeN 77 55 bt ci [root seed] N := ⟨_, splits_lit _, hT0⟩
    replace H : St w0 [] _ (_ :: N) := (H.call0 HC).perm (List.perm_append_comm (l₁ := [_]))
    refine s_val (r_assign rfl) ?_
    refine c_nil (l' := [_, _, _, _, _, _, _, _, _, _, _, _, _, _, _, _, _, _, _, _, _, _, _, _, _, _, _, _, _, _, _, _, _, _, _, _, _, _, _, _, _, _, _, _, _, _, _, _, _, _, _, _, _, _, _, _, _, _, _, _, _, _, _, _, _, _, _, _, _, _, _, _, _, _, _, _, _, _, _, _, _, _, _, _, _, _, _, _, _, _]) rfl ?_
    refine c_seq ?_
    refine c_rseq (n := 90) ⟨rfl, rfl⟩ ?_
    refine s_val (r_move rfl) ?_
    refine s_val (r_lens Tryd.runUnderlying44 (ec rfl en)) ?_
    refine s_val (r_move rfl) ?_
    refine c_nil (l' := [_, _, _, _, _, _, _, _, _, _, _, _, _, _, _, _, _, _, _, _, _, _, _, _, _, _, _, _, _, _, _, _, _, _, _, _, _, _, _, _, _, _, _, _, _, _, _, _, _, _, _, _, _, _, _, _, _, _, _, _, _, _, _, _, _, _, _, _, _, _, _, _, _, _, _, _, _, _, _, _, _, _, _, _, _, _, _, _, _, _]) rfl ?_
    refine wp_block ?_
    refine c_loop (fun (l0 : List Value) (i : Nat) (l : List Value) (w : World) => ∃ (u9 u29 u30 u31 u32 u33 u34 u35 u36 : Value) (N : List (Nat × Obj)) (la : List Int) (xs : List Held), l = ovr l0 [N_, N_, N_, N_, N_, N_, N_, N_, N_, Y_ u9, N_, N_, N_, N_, N_, N_, N_, N_, N_, N_, N_, N_, N_, N_, N_, N_, N_, N_, Y_ (.int .i64 i), Y_ u29, Y_ u30, Y_ u31, Y_ u32, Y_ u33, Y_ u34, Y_ u35, Y_ u36] ∧ i ≤ ns.length ∧ xs = tree0 litL litR seed la ∧ TreeN 77 55 bt ci xs N ∧ xs.length ≤ 1 + 17 * i ∧ St w0 [] w ((b3, .cells (kC seed).toArray 43 (0, 0)) :: N)) (fun (i : Nat) => ns.length - i) 0 ⟨_, _, _, _, _, _, _, _, _, N, [], [root seed], rfl, by omega, tree0_nil.symm, hTr, by show 1 ≤ _; omega, H⟩ ?_
    intro i l w ⟨u9, u29, u30, u31, u32, u33, u34, u35, u36, N, la, xs, hl, hi, hxs, hTr, hlx, H⟩
    obtain rfl := hl.trans (rfl : _ = [_, _, _, _, _, _, _, _, _, _, _, _, _, _, _, _, _, _, _, _, _, _, _, _, _, _, _, _, _, _, _, _, _, _, _, _, _, _, _, _, _, _, _, _, _, _, _, _, _, _, _, _, _, _, _, _, _, _, _, _, _, _, _, _, _, _, _, _, _, _, _, _, _, _, _, _, _, _, _, _, _, _, _, _, _, _, _, _, _, _])
    clear hl
    have hvx : Valid xs := by rw [hxs]; exact tree0_valid la
    refine c_rseq (n := 90) ⟨rfl, rfl⟩ ?_
    refine s_val (r_lss rfl rfl) ?_
    refine c_nil (l' := [_, _, _, _, _, _, _, _, _, _, _, _, _, _, _, _, _, _, _, _, _, _, _, _, _, _, _, _, _, _, _, _, _, _, _, _, _, _, _, _, _, _, _, _, _, _, _, _, _, _, _, _, _, _, _, _, _, _, _, _, _, _, _, _, _, _, _, _, _, _, _, _, _, _, _, _, _, _, _, _, _, _, _, _, _, _, _, _, _, _]) rfl ?_
    refine c_seq ?_
    refine c_if rfl (fun h29 => ?_) (fun h29 => ?_)
    · skip
      obtain ⟨bu, off, pre, post, T, fz, rfl, hbu, hpu⟩ := hr (by omega)
      obtain ⟨hn0, hn1⟩ := hu.get (i := i) (by omega)
      have hlp := len_tree (sl := litL) (sr := litR) (n := (ns.getD i 0 % 131072)) hvx
      refine wp_skip ?_
      refine x_thenNormal ?_
      refine c_seq ?_
      refine wp_block ?_
      refine c_rseq (n := 90) ⟨rfl, rfl⟩ ?_
      refine s_val (r_indexAddrS Tryd.runUnderlying44 Tryd.sizeOf38 rfl rfl (by omega) (by omega)) ?_
      refine s_val (r_load1 Tryd.isAgg38 rfl (H.rd0 hbu) (u_get pre ns post i hpu (by omega) (by omega))) ?_
      refine s_val (r_assign rfl) ?_
      refine c_nil (l' := [_, _, _, _, _, _, _, _, _, _, _, _, _, _, _, _, _, _, _, _, _, _, _, _, _, _, _, _, _, _, _, _, _, _, _, _, _, _, _, _, _, _, _, _, _, _, _, _, _, _, _, _, _, _, _, _, _, _, _, _, _, _, _, _, _, _, _, _, _, _, _, _, _, _, _, _, _, _, _, _, _, _, _, _, _, _, _, _, _, _]) rfl ?_
      refine c_region (n := 90) ⟨rfl, rfl⟩ ?_
      refine s_val (r_move rfl) ?_
      refine s_val (r_move rfl) ?_
      refine s_val (r_rem rfl rfl (by omega) (Int.tmod_eq_emod_of_nonneg (by omega))) ?_
      refine s_call (r_call Tryd.call19 (ec rfl (ec rfl en))) (punc_t _ _ xs (ns.getD i 0 % 131072) N litL litR hci (by omega) hvx (by omega) (by omega) _ hTr (H.ownsM (.cons _ (List.Sublist.refl _)))) ?_
      rintro v w ⟨rfl, N2, hT2, HC⟩
      replace H : St w0 [] _ (_ :: N2) := St.callr (L := [_]) H HC
      refine c_nil0 (l' := [_, _, _, _, _, _, _, _, _, _, _, _, _, _, _, _, _, _, _, _, _, _, _, _, _, _, _, _, _, _, _, _, _, _, _, _, _, _, _, _, _, _, _, _, _, _, _, _, _, _, _, _, _, _, _, _, _, _, _, _, _, _, _, _, _, _, _, _, _, _, _, _, _, _, _, _, _, _, _, _, _, _, _, _, _, _, _, _, _, _]) rfl ?_
      refine x_blockNormal ?_
      refine x_thenNormal ?_
      refine c_region (n := 90) ⟨rfl, rfl⟩ ?_
      refine s_val (r_add rfl rfl (w_i64 (by omega) (by omega))) ?_
      refine s_val (r_move rfl) ?_
      refine c_nil0 (l' := [_, _, _, _, _, _, _, _, _, _, _, _, _, _, _, _, _, _, _, _, _, _, _, _, _, _, _, _, _, _, _, _, _, _, _, _, _, _, _, _, _, _, _, _, _, _, _, _, _, _, _, _, _, _, _, _, _, _, _, _, _, _, _, _, _, _, _, _, _, _, _, _, _, _, _, _, _, _, _, _, _, _, _, _, _, _, _, _, _, _]) rfl ?_
      exact ⟨i + 1, _, rfl, ⟨_, _, _, _, _, _, _, _, _, N2, _, (punc litL litR xs (ns.getD i 0 % 131072)), rfl, by omega, by rw [hxs, tree0_punc], hT2, by omega, H⟩, by omega⟩
    · skip
      obtain rfl : i = ns.length := by omega
      refine wp_exit (x_thenExit (x_thenExit (x_blockHit ?_)))
      refine x_thenNormal ?_
      refine c_rseq (n := 90) ⟨rfl, rfl⟩ ?_
      refine s_val (r_move rfl) ?_
      refine s_call (r_call Tryd.call20 (ec rfl en)) (held_spec _ _ xs N (by omega) hvx _ hTr (H.ownsM (.cons _ (List.Sublist.refl _)))) ?_
      rintro v w ⟨ah, caph, Nh, rfl, hNh, HC⟩
      replace H := H.call0 HC
      refine s_val (r_assign rfl) ?_
      refine c_nil (l' := [_, _, _, _, _, _, _, _, _, _, _, _, _, _, _, _, _, _, _, _, _, _, _, _, _, _, _, _, _, _, _, _, _, _, _, _, _, _, _, _, _, _, _, _, _, _, _, _, _, _, _, _, _, _, _, _, _, _, _, _, _, _, _, _, _, _, _, _, _, _, _, _, _, _, _, _, _, _, _, _, _, _, _, _, _, _, _, _, _, _]) rfl ?_
      refine c_seq ?_
      refine c_rseq (n := 90) ⟨rfl, rfl⟩ ?_
      refine s_val (r_move rfl) ?_
      refine s_val (r_lens Tryd.runUnderlying22 (ec rfl en)) ?_
      refine s_val (r_lss rfl rfl) ?_
      refine c_nil (l' := [_, _, _, _, _, _, _, _, _, _, _, _, _, _, _, _, _, _, _, _, _, _, _, _, _, _, _, _, _, _, _, _, _, _, _, _, _, _, _, _, _, _, _, _, _, _, _, _, _, _, _, _, _, _, _, _, _, _, _, _, _, _, _, _, _, _, _, _, _, _, _, _, _, _, _, _, _, _, _, _, _, _, _, _, _, _, _, _, _, _]) rfl ?_
      refine c_if rfl (fun h41 => ?_) (fun h41 => ?_)
      · skip
        refine c_rseq (n := 90) ⟨rfl, rfl⟩ ?_
        refine s_val (r_assign rfl) ?_
        refine c_nil (l' := [_, _, _, _, _, _, _, _, _, _, _, _, _, _, _, _, _, _, _, _, _, _, _, _, _, _, _, _, _, _, _, _, _, _, _, _, _, _, _, _, _, _, _, _, _, _, _, _, _, _, _, _, _, _, _, _, _, _, _, _, _, _, _, _, _, _, _, _, _, _, _, _, _, _, _, _, _, _, _, _, _, _, _, _, _, _, _, _, _, _]) rfl ?_
        refine wp_ret (x_thenRet ?_)
        refine e_ret (res1 rfl rfl) ⟨_, rfl, ?_⟩
        exact ⟨rfl, H.sub (List.nil_sublist _)⟩
      · skip
        obtain ⟨bs, sp, rfl, hcs, rfl, hcp⟩ := hNh.some (by omega)
        replace H : St w0 [] _ [(bs, .cells (hsC xs ++ sp).toArray 55 (0, 0))] := H.sub (.cons_cons _ (List.nil_sublist _))
        refine wp_skip ?_
        refine x_thenNormal ?_
        refine c_rseq (n := 90) ⟨rfl, rfl⟩ ?_
        refine s_val (r_move rfl) ?_
        refine s_val (r_conv Tryd.runUnderlying5 Tryd.runUnderlying3 rfl (w_i64 (by omega) (by omega))) ?_
        refine s_val (r_move rfl) ?_
        refine s_val (r_lens Tryd.runUnderlying22 (ec rfl en)) ?_
        refine s_val (r_sub rfl rfl (w_i64 (by omega) (by omega))) ?_
        obtain ⟨k, hk⟩ : ∃ k : Nat, (k : Int) = c % ((xs.length : Int) - 1) := ⟨_, Int.toNat_of_nonneg (Int.emod_nonneg _ (by omega))⟩
        have hkl : k + 1 < xs.length := by have := Int.emod_lt_of_pos c (by omega : (0 : Int) < (xs.length : Int) - 1); omega
        refine s_val (r_rem rfl rfl (by omega) ((Int.tmod_eq_emod_of_nonneg (by omega)).trans hk.symm)) ?_
        refine s_val (r_assign rfl) ?_
        refine c_nil (l' := [_, _, _, _, _, _, _, _, _, _, _, _, _, _, _, _, _, _, _, _, _, _, _, _, _, _, _, _, _, _, _, _, _, _, _, _, _, _, _, _, _, _, _, _, _, _, _, _, _, _, _, _, _, _, _, _, _, _, _, _, _, _, _, _, _, _, _, _, _, _, _, _, _, _, _, _, _, _, _, _, _, _, _, _, _, _, _, _, _, _]) rfl ?_
        refine c_seq ?_
        refine d_begin (sz := 90) ⟨rfl, rfl⟩ (by kernel_rfl) H (H.sub (List.nil_sublist _)) rfl ?_
        intro w H
        refine d_take (i := 1) rfl (by kernel_rfl) (fun _ _ _ h => h) (H.sub (List.nil_sublist _)) (fun _ _ => r_move rfl) rfl ?_
        refine d_take (i := 2) rfl (by kernel_rfl) (fun _ _ _ h => h) (H.sub (List.nil_sublist _)) (fun _ _ => r_move rfl) rfl ?_
        refine d_take (i := 3) rfl (by kernel_rfl) (fun _ _ _ h => h) (H.sub (List.nil_sublist _)) (fun _ _ => r_add rfl rfl (w_i64e (r := ((k + 1 : Nat) : Int)) (by omega) (by omega) (by omega))) rfl ?_
        refine d_take (i := 4) rfl (by kernel_rfl) (fun _ _ _ h => h) (H.sub (List.nil_sublist _)) (fun _ _ => r_sliceHe (hi := k + 1) Tryd.runUnderlying22 Tryd.sizeOf55 rfl rfl rfl (by omega) cutA_zero rfl) rfl ?_
        refine d_take (i := 6) rfl (by kernel_rfl) (fun _ _ _ h => h) (H.sub (List.nil_sublist _)) (fun _ _ => r_move rfl) rfl ?_
        refine d_take (i := 7) rfl (by kernel_rfl) (fun _ _ _ h => h) (H.sub (List.nil_sublist _)) (fun _ _ => r_move rfl) rfl ?_
        refine d_take (i := 8) rfl (by kernel_rfl) (fun _ _ _ h => h) (H.sub (List.nil_sublist _)) (fun _ _ => r_sliceLe (lo := k) (n' := xs.length - k) Tryd.runUnderlying22 Tryd.sizeOf55 rfl rfl rfl (by omega) rfl rfl rfl) rfl ?_
        refine d_all1 (i := 0) (by kernel_rfl) ?_
        refine b_new rfl go_none (m_bslice0 H Tryd.runUnderlying22 Tryd.sizeOf55) rfl (fun _ _ H => (H.sub (List.nil_sublist _))) ?_
        intro w b48 H
        refine d_all1 (i := 5) (by kernel_rfl) ?_
        refine b_any rfl go_none (m_append_lit H Tryd.runUnderlying22 Tryd.runUnderlying22 (fun _ h => nomatch h) Tryd.sizeOf55 Tryd.zeroValue55 rfl Tryd.typeInfo55 (by rw [bytesHeld]; omega) (by rw [bytesHeld]; omega) (ec rfl (ec rfl en)) (src_take (H.at 1 rfl) (by omega) _)) rfl (by rintro v w ⟨ao, co, No, rfl, hNo, H⟩; exact (H.sub (List.nil_sublist _))) ?_
        rintro v w ⟨ao, co, No, rfl, hNo, H⟩
        replace H := H.perm (List.perm_append_comm (l₁ := [_]))
        refine d_all1 (i := 9) (by kernel_rfl) ?_
        refine b_any rfl go_none (m_append_row0 (L1 := [_]) (N := No) H hNo Tryd.runUnderlying22 Tryd.runUnderlying22 (fun _ h => nomatch h) Tryd.sizeOf55 Tryd.zeroValue55 rfl Tryd.typeInfo55 (by rw [bytesHeld]; omega) (by rw [bytesHeld]; omega) (ec rfl (ec rfl en)) (src_drop (H.at 0 rfl) rfl rfl (by omega) (by omega) _)) rfl (by rintro v w ⟨aa, ca, Na, rfl, hNa, H⟩; exact (H.sub (List.nil_sublist _))) ?_
        rintro v w ⟨aa, ca, Na, rfl, hNa, H⟩
        skip
        refine d_take (i := 10) rfl (by kernel_rfl) (fun _ _ _ h => h) (H.sub (List.nil_sublist _)) (fun _ _ => r_assign rfl) rfl ?_
        refine d_done (l' := [_, _, _, _, _, _, _, _, _, _, _, _, _, _, _, _, _, _, _, _, _, _, _, _, _, _, _, _, _, _, _, _, _, _, _, _, _, _, _, _, _, _, _, _, _, _, _, _, _, _, _, _, _, _, _, _, _, _, _, _, _, _, _, _, _, _, _, _, _, _, _, _, _, _, _, _, _, _, _, _, _, _, _, _, _, _, _, _, _, _]) (by kernel_rfl) rfl ?_
        refine x_thenNormal ?_
        refine c_seq ?_
        refine d_begin (sz := 90) ⟨rfl, rfl⟩ (by kernel_rfl) H (H.sub (.cons _ (List.Sublist.refl _))) rfl ?_
        intro w H
        refine d_take (i := 0) rfl (by kernel_rfl) (fun _ _ _ h => h) (H.sub (.cons _ (List.Sublist.refl _))) (fun _ _ => r_move rfl) rfl ?_
        refine d_take (i := 1) rfl (by kernel_rfl) (fun _ _ _ h => h) (H.sub (.cons _ (List.Sublist.refl _))) (fun _ _ => r_move rfl) rfl ?_
        refine d_take (i := 2) rfl (by kernel_rfl) (fun _ _ _ h => h) (H.sub (.cons _ (List.Sublist.refl _))) (fun _ _ => r_move rfl) rfl ?_
        refine d_take (i := 3) rfl (by kernel_rfl) (fun _ _ _ h => h) (H.sub (.cons _ (List.Sublist.refl _))) (fun _ _ => r_move rfl) rfl ?_
        refine d_take (i := 4) rfl (by kernel_rfl) (fun _ _ _ h => h) (H.sub (.cons _ (List.Sublist.refl _))) (fun _ _ => r_add rfl rfl (w_i64e (r := ((k + 1 : Nat) : Int)) (by omega) (by omega) (by omega))) rfl ?_
        refine d_take (i := 5) rfl (by kernel_rfl) (fun _ _ _ h => h) (H.sub (.cons _ (List.Sublist.refl _))) (fun _ _ => r_move rfl) rfl ?_
        refine d_take (i := 6) rfl (by kernel_rfl) (fun _ _ _ h => h) (H.sub (.cons _ (List.Sublist.refl _))) (fun _ _ => r_move rfl) rfl ?_
        refine d_take (i := 7) rfl (by kernel_rfl) (fun _ _ _ h => h) (H.sub (.cons _ (List.Sublist.refl _))) (fun _ _ => r_add rfl rfl (w_i64e (r := ((k + 1 : Nat) : Int)) (by omega) (by omega) (by omega))) rfl ?_
        refine d_take (i := 8) rfl (by kernel_rfl) (fun _ _ _ h => h) (H.sub (.cons _ (List.Sublist.refl _))) (fun _ _ => r_indexAddrS Tryd.runUnderlying22 Tryd.sizeOf55 rfl rfl (by omega) (by omega)) rfl ?_
        refine d_take (i := 10) rfl (by kernel_rfl) (fun _ _ _ h => h) (H.sub (.cons _ (List.Sublist.refl _))) (fun _ _ => r_move rfl) rfl ?_
        refine d_take (i := 11) rfl (by kernel_rfl) (fun _ _ _ h => h) (H.sub (.cons _ (List.Sublist.refl _))) (fun _ _ => r_move rfl) rfl ?_
        refine d_take (i := 12) rfl (by kernel_rfl) (fun _ _ _ h => h) (H.sub (.cons _ (List.Sublist.refl _))) (fun _ _ => r_indexAddrS Tryd.runUnderlying22 Tryd.sizeOf55 rfl rfl (by omega) (by omega)) rfl ?_
        refine d_all2 (i := 9) (j := 13) (by kernel_rfl) ?_ ?_
        · skip
          refine b_val rfl go_none (r_loadn Tryd.isAgg55 Tryd.sizeOf55 rfl (H.at 0 rfl) (hs_ld xs sp (k + 1) (by omega) (by omega)) (by first | exact (kC_length _) | exact (hC_length _) | exact rfl)) rfl (H.sub (.cons _ (List.Sublist.refl _))) ?_
          refine d_all1 (i := 13) (by kernel_rfl) ?_
          refine b_val rfl go_none (r_loadn Tryd.isAgg55 Tryd.sizeOf55 rfl (H.at 0 rfl) (hs_ld xs sp k (by omega) (by omega)) (by first | exact (kC_length _) | exact (hC_length _) | exact rfl)) rfl (H.sub (.cons _ (List.Sublist.refl _))) ?_
          refine d_take (i := 14) rfl (by kernel_rfl) (fun _ _ _ h => h) (H.sub (.cons _ (List.Sublist.refl _))) (fun _ _ => r_indexAddrS Tryd.runUnderlying22 Tryd.sizeOf55 rfl rfl (by omega) (by omega)) rfl ?_
          refine d_all1 (i := 15) (by kernel_rfl) ?_
          refine b_st rfl go_none (m_storen H 0 34 Tryd.sizeOf55 rfl rfl (by first | exact (kC_length _) | exact (hC_length _)) (by first | exact (kC_one _) | exact (hC_one _)) rfl (hs_room xs sp (k) (by omega) (by omega)) (hs_splice xs sp _ (k) (by omega) (by omega))) (L' := (_ :: _)) rfl rfl (fun _ H => (H.sub (.cons _ (List.Sublist.refl _)))) ?_
          intro w H
          refine d_take (i := 16) rfl (by kernel_rfl) (fun _ _ _ h => h) (H.sub (.cons _ (List.Sublist.refl _))) (fun _ _ => r_indexAddrS Tryd.runUnderlying22 Tryd.sizeOf55 rfl rfl (by omega) (by omega)) rfl ?_
          refine d_all1 (i := 17) (by kernel_rfl) ?_
          refine b_st rfl go_none (m_storen H 0 34 Tryd.sizeOf55 rfl rfl (by first | exact (kC_length _) | exact (hC_length _)) (by first | exact (kC_one _) | exact (hC_one _)) rfl (hs_room _ sp (k + 1) (by rw [List.length_set]; omega) (by omega)) (hs_splice _ sp _ (k + 1) (by rw [List.length_set]; omega) (by omega))) (L' := (_ :: _)) rfl rfl (fun _ H => (H.sub (.cons _ (List.Sublist.refl _)))) ?_
          intro w H
          refine d_done (l' := [_, _, _, _, _, _, _, _, _, _, _, _, _, _, _, _, _, _, _, _, _, _, _, _, _, _, _, _, _, _, _, _, _, _, _, _, _, _, _, _, _, _, _, _, _, _, _, _, _, _, _, _, _, _, _, _, _, _, _, _, _, _, _, _, _, _, _, _, _, _, _, _, _, _, _, _, _, _, _, _, _, _, _, _, _, _, _, _, _, _]) (by kernel_rfl) rfl ?_
          refine x_thenNormal ?_
          refine c_rseq (n := 90) ⟨rfl, rfl⟩ ?_
          refine s_val (r_move rfl) ?_
          have hsl := swp2_length (d := Held.zero) xs k (k + 1)
          have hrs : HRow w (some ⟨bs, 0, none⟩) (swp2 Held.zero xs k (k + 1)) := fun _ => ⟨bs, 0, [], sp, _, _, rfl, H.at 0 rfl, rfl⟩
          refine s_call (r_call Tryd.call12 (ec rfl en)) (enc_no _ _ xs.length (swp2 Held.zero xs k (k + 1)) hsl.symm (by omega) (swap_inR hvx hkl) _ hrs (hT.st (H.sub (List.nil_sublist _))) (swap_bad hvx hkl)) ?_
          rintro v w ⟨rfl, HC⟩
          replace H := H.quiet HC
          refine s_val (r_move rfl) ?_
          refine s_val (r_extract rfl rfl) ?_
          refine s_val (r_extract rfl rfl) ?_
          refine s_val (r_assign rfl) ?_
          refine s_val (r_assign rfl) ?_
          refine c_nil (l' := [_, _, _, _, _, _, _, _, _, _, _, _, _, _, _, _, _, _, _, _, _, _, _, _, _, _, _, _, _, _, _, _, _, _, _, _, _, _, _, _, _, _, _, _, _, _, _, _, _, _, _, _, _, _, _, _, _, _, _, _, _, _, _, _, _, _, _, _, _, _, _, _, _, _, _, _, _, _, _, _, _, _, _, _, _, _, _, _, _, _]) rfl ?_
          refine c_rseq (n := 90) ⟨rfl, rfl⟩ ?_
          refine s_val (r_move rfl) ?_
          rw [← hsC_append] at hNa
          have htl : (xs.take (k + 1) ++ xs.drop k).length = k + 1 + (xs.length - k) := by rw [List.length_append, List.length_take, List.length_drop]; omega
          refine s_call (r_call Tryd.call12 (ec rfl en)) (enc_no _ _ (k + 1 + (xs.length - k)) (xs.take (k + 1) ++ xs.drop k) htl.symm (by omega) (twice_inR hvx (by omega)) _ (hNa.hrowM H (fun p hp => List.mem_cons_of_mem _ hp)) (hT.st (H.sub (List.nil_sublist _))) (twice_bad (by omega))) ?_
          rintro v w ⟨rfl, HC⟩
          replace H := H.quiet HC
          refine s_val (r_move rfl) ?_
          refine s_val (r_extract rfl rfl) ?_
          refine s_val (r_extract rfl rfl) ?_
          refine s_val (r_assign rfl) ?_
          refine s_val (r_assign rfl) ?_
          refine c_nil (l' := [_, _, _, _, _, _, _, _, _, _, _, _, _, _, _, _, _, _, _, _, _, _, _, _, _, _, _, _, _, _, _, _, _, _, _, _, _, _, _, _, _, _, _, _, _, _, _, _, _, _, _, _, _, _, _, _, _, _, _, _, _, _, _, _, _, _, _, _, _, _, _, _, _, _, _, _, _, _, _, _, _, _, _, _, _, _, _, _, _, _]) rfl ?_
          refine c_rseq (n := 90) ⟨rfl, rfl⟩ ?_
          refine s_val (r_move rfl) ?_
          refine s_val (r_eql rfl rfl) ?_
          refine s_val (r_move rfl) ?_
          refine g_yes rfl rfl ?_
          refine s_val (r_move rfl) ?_
          refine g_yes rfl rfl ?_
          refine s_val (r_eql rfl rfl) ?_
          refine s_val (r_pickt rfl rfl) ?_
          refine s_val (r_assign rfl) ?_
          refine c_nil (l' := [_, _, _, _, _, _, _, _, _, _, _, _, _, _, _, _, _, _, _, _, _, _, _, _, _, _, _, _, _, _, _, _, _, _, _, _, _, _, _, _, _, _, _, _, _, _, _, _, _, _, _, _, _, _, _, _, _, _, _, _, _, _, _, _, _, _, _, _, _, _, _, _, _, _, _, _, _, _, _, _, _, _, _, _, _, _, _, _, _, _]) rfl ?_
          refine wp_ret ?_
          refine e_ret (res1 rfl rfl) ⟨_, rfl, ?_⟩
          exact ⟨rfl, H.sub (List.nil_sublist _)⟩
        · skip
          refine b_val rfl go_none (r_loadn Tryd.isAgg55 Tryd.sizeOf55 rfl (H.at 0 rfl) (hs_ld xs sp k (by omega) (by omega)) (by first | exact (kC_length _) | exact (hC_length _) | exact rfl)) rfl (H.sub (.cons _ (List.Sublist.refl _))) ?_
          refine d_all1 (i := 9) (by kernel_rfl) ?_
          refine b_val rfl go_none (r_loadn Tryd.isAgg55 Tryd.sizeOf55 rfl (H.at 0 rfl) (hs_ld xs sp (k + 1) (by omega) (by omega)) (by first | exact (kC_length _) | exact (hC_length _) | exact rfl)) rfl (H.sub (.cons _ (List.Sublist.refl _))) ?_
          refine d_take (i := 14) rfl (by kernel_rfl) (fun _ _ _ h => h) (H.sub (.cons _ (List.Sublist.refl _))) (fun _ _ => r_indexAddrS Tryd.runUnderlying22 Tryd.sizeOf55 rfl rfl (by omega) (by omega)) rfl ?_
          refine d_all1 (i := 15) (by kernel_rfl) ?_
          refine b_st rfl go_none (m_storen H 0 34 Tryd.sizeOf55 rfl rfl (by first | exact (kC_length _) | exact (hC_length _)) (by first | exact (kC_one _) | exact (hC_one _)) rfl (hs_room xs sp (k) (by omega) (by omega)) (hs_splice xs sp _ (k) (by omega) (by omega))) (L' := (_ :: _)) rfl rfl (fun _ H => (H.sub (.cons _ (List.Sublist.refl _)))) ?_
          intro w H
          refine d_take (i := 16) rfl (by kernel_rfl) (fun _ _ _ h => h) (H.sub (.cons _ (List.Sublist.refl _))) (fun _ _ => r_indexAddrS Tryd.runUnderlying22 Tryd.sizeOf55 rfl rfl (by omega) (by omega)) rfl ?_
          refine d_all1 (i := 17) (by kernel_rfl) ?_
          refine b_st rfl go_none (m_storen H 0 34 Tryd.sizeOf55 rfl rfl (by first | exact (kC_length _) | exact (hC_length _)) (by first | exact (kC_one _) | exact (hC_one _)) rfl (hs_room _ sp (k + 1) (by rw [List.length_set]; omega) (by omega)) (hs_splice _ sp _ (k + 1) (by rw [List.length_set]; omega) (by omega))) (L' := (_ :: _)) rfl rfl (fun _ H => (H.sub (.cons _ (List.Sublist.refl _)))) ?_
          intro w H
          refine d_done (l' := [_, _, _, _, _, _, _, _, _, _, _, _, _, _, _, _, _, _, _, _, _, _, _, _, _, _, _, _, _, _, _, _, _, _, _, _, _, _, _, _, _, _, _, _, _, _, _, _, _, _, _, _, _, _, _, _, _, _, _, _, _, _, _, _, _, _, _, _, _, _, _, _, _, _, _, _, _, _, _, _, _, _, _, _, _, _, _, _, _, _]) (by kernel_rfl) rfl ?_
          refine x_thenNormal ?_
          refine c_rseq (n := 90) ⟨rfl, rfl⟩ ?_
          refine s_val (r_move rfl) ?_
          have hsl := swp2_length (d := Held.zero) xs k (k + 1)
          have hrs : HRow w (some ⟨bs, 0, none⟩) (swp2 Held.zero xs k (k + 1)) := fun _ => ⟨bs, 0, [], sp, _, _, rfl, H.at 0 rfl, rfl⟩
          refine s_call (r_call Tryd.call12 (ec rfl en)) (enc_no _ _ xs.length (swp2 Held.zero xs k (k + 1)) hsl.symm (by omega) (swap_inR hvx hkl) _ hrs (hT.st (H.sub (List.nil_sublist _))) (swap_bad hvx hkl)) ?_
          rintro v w ⟨rfl, HC⟩
          replace H := H.quiet HC
          refine s_val (r_move rfl) ?_
          refine s_val (r_extract rfl rfl) ?_
          refine s_val (r_extract rfl rfl) ?_
          refine s_val (r_assign rfl) ?_
          refine s_val (r_assign rfl) ?_
          refine c_nil (l' := [_, _, _, _, _, _, _, _, _, _, _, _, _, _, _, _, _, _, _, _, _, _, _, _, _, _, _, _, _, _, _, _, _, _, _, _, _, _, _, _, _, _, _, _, _, _, _, _, _, _, _, _, _, _, _, _, _, _, _, _, _, _, _, _, _, _, _, _, _, _, _, _, _, _, _, _, _, _, _, _, _, _, _, _, _, _, _, _, _, _]) rfl ?_
          refine c_rseq (n := 90) ⟨rfl, rfl⟩ ?_
          refine s_val (r_move rfl) ?_
          rw [← hsC_append] at hNa
          have htl : (xs.take (k + 1) ++ xs.drop k).length = k + 1 + (xs.length - k) := by rw [List.length_append, List.length_take, List.length_drop]; omega
          refine s_call (r_call Tryd.call12 (ec rfl en)) (enc_no _ _ (k + 1 + (xs.length - k)) (xs.take (k + 1) ++ xs.drop k) htl.symm (by omega) (twice_inR hvx (by omega)) _ (hNa.hrowM H (fun p hp => List.mem_cons_of_mem _ hp)) (hT.st (H.sub (List.nil_sublist _))) (twice_bad (by omega))) ?_
          rintro v w ⟨rfl, HC⟩
          replace H := H.quiet HC
          refine s_val (r_move rfl) ?_
          refine s_val (r_extract rfl rfl) ?_
          refine s_val (r_extract rfl rfl) ?_
          refine s_val (r_assign rfl) ?_
          refine s_val (r_assign rfl) ?_
          refine c_nil (l' := [_, _, _, _, _, _, _, _, _, _, _, _, _, _, _, _, _, _, _, _, _, _, _, _, _, _, _, _, _, _, _, _, _, _, _, _, _, _, _, _, _, _, _, _, _, _, _, _, _, _, _, _, _, _, _, _, _, _, _, _, _, _, _, _, _, _, _, _, _, _, _, _, _, _, _, _, _, _, _, _, _, _, _, _, _, _, _, _, _, _]) rfl ?_
          refine c_rseq (n := 90) ⟨rfl, rfl⟩ ?_
          refine s_val (r_move rfl) ?_
          refine s_val (r_eql rfl rfl) ?_
          refine s_val (r_move rfl) ?_
          refine g_yes rfl rfl ?_
          refine s_val (r_move rfl) ?_
          refine g_yes rfl rfl ?_
          refine s_val (r_eql rfl rfl) ?_
          refine s_val (r_pickt rfl rfl) ?_
          refine s_val (r_assign rfl) ?_
          refine c_nil (l' := [_, _, _, _, _, _, _, _, _, _, _, _, _, _, _, _, _, _, _, _, _, _, _, _, _, _, _, _, _, _, _, _, _, _, _, _, _, _, _, _, _, _, _, _, _, _, _, _, _, _, _, _, _, _, _, _, _, _, _, _, _, _, _, _, _, _, _, _, _, _, _, _, _, _, _, _, _, _, _, _, _, _, _, _, _, _, _, _, _, _]) rfl ?_
          refine wp_ret ?_
          refine e_ret (res1 rfl rfl) ⟨_, rfl, ?_⟩
          exact ⟨rfl, H.sub (List.nil_sublist _)⟩

end Go.Proofs.YtblphhclfloodaaDoor
