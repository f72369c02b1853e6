import Derived.Test.YtblphhclfloodaaDoorV1
namespace Go.Proofs.YtblphhclfloodaaDoor
open Go Go.Er
set_option linter.unusedSimpArgs false in
theorem places41 : Places Tryd.prog #[⟨ "Depth", 3, 0, false, "", "", 0⟩, ⟨ "At", 38, 1, false, "", "", 8⟩, ⟨ "Seed", 39, 2, false, "", "", 16⟩] [(0, 1), (1, 1), (2, 32)] := fun w => by simp [Tryd.sizeOf3 w, Tryd.sizeOf38 w, Tryd.sizeOf39 w]
theorem bytes55 : Tryd.t55.bytes = 48 := rfl
theorem bytes41 : Tryd.t41.bytes = 48 := rfl
theorem bytes5 : Tryd.t5.bytes = 1 := rfl
set_option maxRecDepth 20000 in
theorem nodeT55 : NodeT Tryd.prog 55 := ⟨by kernel_rfl, by kernel_rfl, by kernel_rfl, ⟨ "Depth", 3, 0, false, "", "", 0⟩, ⟨ "At", 38, 1, false, "", "", 8⟩, ⟨ "Seed", 43, 2, false, "", "", 16⟩, 5, by kernel_rfl, by decide, by decide, by decide, rfl, rfl, rfl, by kernel_rfl, by kernel_rfl, by kernel_rfl, by kernel_rfl, Tryd.sizeOf5, Tryd.sizeOf43, Tryd.isAgg3, Tryd.isAgg38, Tryd.isAgg43⟩
set_option maxRecDepth 20000 in
theorem nodeT41 : NodeT Tryd.prog 41 := ⟨by kernel_rfl, by kernel_rfl, by kernel_rfl, ⟨ "Depth", 3, 0, false, "", "", 0⟩, ⟨ "At", 38, 1, false, "", "", 8⟩, ⟨ "Seed", 39, 2, false, "", "", 16⟩, 5, by kernel_rfl, by decide, by decide, by decide, rfl, rfl, rfl, by kernel_rfl, by kernel_rfl, by kernel_rfl, by kernel_rfl, Tryd.sizeOf5, Tryd.sizeOf39, Tryd.isAgg3, Tryd.isAgg38, Tryd.isAgg39⟩
theorem hs_take {xs : List Held} {i : Nat} (hi : i < xs.length) : hsC (xs.take (i + 1)) = hsC (xs.take i) ++ hC (nd xs i) := by
  rw [List.take_succ_eq_append_getElem hi, hsC_append, nd_eq hi]; simp [hsC]

set_option maxHeartbeats 4000000 in
theorem plain_spec (a : Option Addr) (cap : Nat) (xs : List Held) (hl : xs.length ≤ 1000000) (w0 : World) (hr : HRow w0 a xs) :
    Calls Tryd.prog 14 #[.slice a xs.length cap] w0 fun e w => ∃ v, e = .returned v ∧ (∃ a' cap' N, v = .slice a' xs.length cap' ∧ RowN 34 41 (hsC xs) xs.length a' cap' N ∧ St w0 [] w N) := by
  have H := St.refl w0
  refine c_enter (args := [.slice a xs.length cap]) (l := [.slice a xs.length cap, undef, undef, undef, undef, undef, undef, undef, undef, undef, undef, undef, undef, undef, undef, undef, undef, undef, undef, undef, undef, undef, undef, undef]) Tryd.func14 Tryd.ntmps14 rfl rfl ?_
  refine c_rseq (n := 24) ⟨rfl, rfl⟩ ?_
  refine s_val (r_assign rfl) ?_
  refine c_nil (l' := [_, _, _, _, _, _, _, _, _, _, _, _, _, _, _, _, _, _, _, _, _, _, _, _]) rfl ?_
  refine c_rseq (n := 24) ⟨rfl, rfl⟩ ?_
  refine s_val (r_assign rfl) ?_
  refine c_nil (l' := [_, _, _, _, _, _, _, _, _, _, _, _, _, _, _, _, _, _, _, _, _, _, _, _]) rfl ?_
  refine c_seq ?_
  refine c_rseq (n := 24) ⟨rfl, rfl⟩ ?_
  refine s_val (r_move rfl) ?_
  refine s_val (r_lens Tryd.runUnderlying22 (ec rfl en)) ?_
  refine s_val (r_move rfl) ?_
  refine c_nil (l' := [_, _, _, _, _, _, _, _, _, _, _, _, _, _, _, _, _, _, _, _, _, _, _, _]) rfl ?_
  refine wp_block ?_
  refine c_loop (fun (l0 : List Value) (i : Nat) (l : List Value) (w : World) => ∃ (u5 u9 u10 u11 u12 u13 u14 u15 u16 u17 u18 u19 u20 u21 u22 : Value) (a' : Option Addr) (cap' : Nat) (N : List (Nat × Obj)), l = ovr l0 [N_, N_, N_, Y_ (.slice a' i cap'), N_, Y_ u5, N_, N_, Y_ (.int .i64 i), Y_ u9, Y_ u10, Y_ u11, Y_ u12, Y_ u13, Y_ u14, Y_ u15, Y_ u16, Y_ u17, Y_ u18, Y_ u19, Y_ u20, Y_ u21, Y_ u22] ∧ i ≤ xs.length ∧ RowN 34 41 (hsC (xs.take i)) i a' cap' N ∧ St w0 [] w (N)) (fun (i : Nat) => xs.length - i) 0 ⟨_, _, _, _, _, _, _, _, _, _, _, _, _, _, _, _, _, _, rfl, by omega, RowN.nil, H⟩ ?_
  intro i l w ⟨u5, u9, u10, u11, u12, u13, u14, u15, u16, u17, u18, u19, u20, u21, u22, a', cap', N, hl, hi, hN, H⟩
  obtain rfl := hl.trans (rfl : _ = [_, _, _, _, _, _, _, _, _, _, _, _, _, _, _, _, _, _, _, _, _, _, _, _])
  clear hl
  refine c_rseq (n := 24) ⟨rfl, rfl⟩ ?_
  refine s_val (r_lss rfl rfl) ?_
  refine c_nil (l' := [_, _, _, _, _, _, _, _, _, _, _, _, _, _, _, _, _, _, _, _, _, _, _, _]) rfl ?_
  refine c_seq ?_
  refine c_if rfl (fun h9 => ?_) (fun h9 => ?_)
  · skip
    obtain ⟨bh, off, pre, post, T, fz, rfl, hb, hp⟩ := hr (by omega)
    refine wp_skip ?_
    refine x_thenNormal ?_
    refine c_seq ?_
    refine wp_block ?_
    refine c_rseq (n := 24) ⟨rfl, rfl⟩ ?_
    refine s_val (r_indexAddrS Tryd.runUnderlying22 Tryd.sizeOf55 rfl rfl (by omega) (by omega)) ?_
    refine s_val (r_loadn Tryd.isAgg55 Tryd.sizeOf55 rfl (H.rd0 hb) (hs_tdn _ _ _ _ i hp (by omega)) (by first | exact (kC_length _) | exact (hC_length _) | exact rfl)) ?_
    refine s_new (m_alloc (cs := (hC Held.zero)) H Tryd.zeroValue55 rfl) ?_
    intro w b5 H
    refine s_st (m_storen H 0 34 Tryd.sizeOf55 rfl rfl (by first | exact (kC_length _) | exact (hC_length _)) (by first | exact (kC_one _) | exact (hC_one _)) rfl (by first | exact (by rw [kC_length]; omega) | exact (by rw [hC_length]; omega)) (by first | exact (kC_sp _ _) | exact (hC_sp _ _))) (L' := (_ :: _)) rfl ?_
    intro w H
    refine c_nil (l' := [_, _, _, _, _, _, _, _, _, _, _, _, _, _, _, _, _, _, _, _, _, _, _, _]) rfl ?_
    refine c_region (n := 24) ⟨rfl, rfl⟩ ?_
    refine s_val (r_move rfl) ?_
    refine s_val (r_fieldAddr (k := 0) Tryd.runUnderlying55 rfl Tryd.sizeOf3 (by decide) rfl rfl) ?_
    refine s_val (r_load1 Tryd.isAgg3 rfl (H.at 0 rfl) (by first | exact rfl | exact (hC_0 _) | exact (hC_00 _) | exact (hC_1 _))) ?_
    refine s_val (r_fieldAddr (k := 1) Tryd.runUnderlying55 rfl Tryd.sizeOf38 (by decide) rfl rfl) ?_
    refine s_val (r_load1 Tryd.isAgg38 rfl (H.at 0 rfl) (by first | exact rfl | exact (hC_0 _) | exact (hC_00 _) | exact (hC_1 _))) ?_
    refine s_val (r_fieldAddr (k := 2) Tryd.runUnderlying55 rfl Tryd.sizeOf43 (by decide) rfl rfl) ?_
    refine s_val (r_loadn Tryd.isAgg43 Tryd.sizeOf43 rfl (H.at 0 rfl) (by first | exact (kC_td _) | exact (hC_td _) | exact (hC_seed _)) (by first | exact (kC_length _) | exact (hC_length _) | exact rfl)) ?_
    refine s_val (r_buildS Tryd.runUnderlying41 Tryd.zeroValue41 places41 (pc rfl (pc rfl (pc rfl pn))) (by first | exact (hfill _ _ _) | exact (hfill1 _) | exact (hfill2 _ _))) ?_
    refine s_new (m_bslice1 H Tryd.runUnderlying30 Tryd.sizeOf41 Tryd.zeroValue41 (by omega) (by omega) rfl rfl (hC_length _)) ?_
    intro w b20 H
    refine s_any (m_append_row (L1 := [_, _]) (N := N) H hN Tryd.runUnderlying30 Tryd.runUnderlying30 (fun _ h => nomatch h) Tryd.sizeOf41 Tryd.zeroValue41 rfl Tryd.typeInfo41 (by rw [bytes41]; omega) (by omega) (by rw [bytes41]; omega) (ec rfl (ec rfl en)) (Src.slice (H.at 0 rfl) (hC_td _) (hC_length _) (hC_one _))) ?_
    rintro v w ⟨a', cap', N', rfl, hN', H⟩
    skip
    refine s_val (r_assign rfl) ?_
    refine c_nil0 (l' := [_, _, _, _, _, _, _, _, _, _, _, _, _, _, _, _, _, _, _, _, _, _, _, _]) rfl ?_
    refine x_blockNormal ?_
    refine x_thenNormal ?_
    refine c_region (n := 24) ⟨rfl, rfl⟩ ?_
    refine s_val (r_add rfl rfl (w_i64 (by omega) (by omega))) ?_
    refine s_val (r_move rfl) ?_
    refine c_nil0 (l' := [_, _, _, _, _, _, _, _, _, _, _, _, _, _, _, _, _, _, _, _, _, _, _, _]) rfl ?_
    replace H := H.sub (.cons _ (.cons _ (List.Sublist.refl _)))
    exact ⟨i + 1, _, rfl, ⟨_, _, _, _, _, _, _, _, _, _, _, _, _, _, _, _, _, _, rfl, by omega, by rw [hs_take (by omega)]; exact hN', H⟩, by omega⟩
  · skip
    obtain rfl : i = xs.length := by omega
    rw [List.take_length] at hN
    refine wp_exit (x_thenExit (x_thenExit (x_blockHit ?_)))
    refine x_thenNormal ?_
    refine c_rseq (n := 24) ⟨rfl, rfl⟩ ?_
    refine s_val (r_move rfl) ?_
    refine s_val (r_assign rfl) ?_
    refine c_nil (l' := [_, _, _, _, _, _, _, _, _, _, _, _, _, _, _, _, _, _, _, _, _, _, _, _]) rfl ?_
    refine wp_ret ?_
    refine e_ret (res1 rfl rfl) ⟨_, rfl, ?_⟩
    exact ⟨_, _, _, rfl, hN, H⟩

set_option maxHeartbeats 4000000 in
theorem same_spec (a a2 : Option Addr) (cap cap2 : Nat) (xs ys : List Held) (hl : xs.length ≤ 1000000) (w0 : World) (hr : HRow w0 a xs) (hr2 : HRow w0 a2 ys) :
    Calls Tryd.prog 15 #[.slice a xs.length cap, .slice a2 ys.length cap2] w0 fun e w => ∃ v, e = .returned v ∧ (v = .bool (decide (xs = ys)) ∧ St w0 [] w []) := by
  have H := St.refl w0
  refine c_enter (args := [.slice a xs.length cap, .slice a2 ys.length cap2]) (l := [.slice a xs.length cap, .slice a2 ys.length cap2, undef, undef, undef, undef, undef, undef, undef, undef, undef, undef, undef, undef, undef, undef, undef, undef, undef, undef, undef, undef, undef, undef, undef, undef]) Tryd.func15 Tryd.ntmps15 rfl rfl ?_
  refine c_rseq (n := 26) ⟨rfl, rfl⟩ ?_
  refine s_val (r_assign rfl) ?_
  refine c_nil (l' := [_, _, _, _, _, _, _, _, _, _, _, _, _, _, _, _, _, _, _, _, _, _, _, _, _, _]) rfl ?_
  refine c_seq ?_
  refine c_rseq (n := 26) ⟨rfl, rfl⟩ ?_
  refine s_val (r_move rfl) ?_
  refine s_val (r_lens Tryd.runUnderlying22 (ec rfl en)) ?_
  refine s_val (r_move rfl) ?_
  refine s_val (r_lens Tryd.runUnderlying22 (ec rfl en)) ?_
  refine s_val (r_neq rfl rfl) ?_
  refine c_nil (l' := [_, _, _, _, _, _, _, _, _, _, _, _, _, _, _, _, _, _, _, _, _, _, _, _, _, _]) rfl ?_
  refine c_if rfl (fun h10 => ?_) (fun h10 => ?_)
  · skip
    refine c_rseq (n := 26) ⟨rfl, rfl⟩ ?_
    refine s_val (r_assign rfl) ?_
    refine c_nil (l' := [_, _, _, _, _, _, _, _, _, _, _, _, _, _, _, _, _, _, _, _, _, _, _, _, _, _]) rfl ?_
    refine wp_ret (x_thenRet ?_)
    refine e_ret (res1 rfl rfl) ⟨_, rfl, ?_⟩
    exact ⟨by rw [decide_eq_false (fun e => by rw [e] at h10; exact h10 rfl)], H⟩
  · skip
    refine wp_skip ?_
    refine x_thenNormal ?_
    refine c_seq ?_
    refine c_rseq (n := 26) ⟨rfl, rfl⟩ ?_
    refine s_val (r_move rfl) ?_
    refine s_val (r_lens Tryd.runUnderlying22 (ec rfl en)) ?_
    refine s_val (r_move rfl) ?_
    refine c_nil (l' := [_, _, _, _, _, _, _, _, _, _, _, _, _, _, _, _, _, _, _, _, _, _, _, _, _, _]) rfl ?_
    refine wp_block ?_
    refine c_loop (fun (l0 : List Value) (i : Nat) (l : List Value) (w : World) => ∃ (u4 u5 u14 u15 u16 u17 u18 u19 u20 u21 u22 u23 u24 u25 : Value) , l = ovr l0 [N_, N_, N_, N_, Y_ u4, Y_ u5, N_, N_, N_, N_, N_, N_, N_, Y_ (.int .i64 i), Y_ u14, Y_ u15, Y_ u16, Y_ u17, Y_ u18, Y_ u19, Y_ u20, Y_ u21, Y_ u22, Y_ u23, Y_ u24, Y_ u25] ∧ i ≤ xs.length ∧ xs.take i = ys.take i ∧ St w0 [] w []) (fun (i : Nat) => xs.length - i) 0 ⟨_, _, _, _, _, _, _, _, _, _, _, _, _, _, rfl, by omega, rfl, H⟩ ?_
    intro i l w ⟨u4, u5, u14, u15, u16, u17, u18, u19, u20, u21, u22, u23, u24, u25, hl, hi, hs, H⟩
    obtain rfl := hl.trans (rfl : _ = [_, _, _, _, _, _, _, _, _, _, _, _, _, _, _, _, _, _, _, _, _, _, _, _, _, _])
    clear hl
    refine c_rseq (n := 26) ⟨rfl, rfl⟩ ?_
    refine s_val (r_lss rfl rfl) ?_
    refine c_nil (l' := [_, _, _, _, _, _, _, _, _, _, _, _, _, _, _, _, _, _, _, _, _, _, _, _, _, _]) rfl ?_
    refine c_seq ?_
    refine c_if rfl (fun h14 => ?_) (fun h14 => ?_)
    · skip
      obtain ⟨bx, ox, prex, postx, Tx, fx, rfl, hbx, hpx⟩ := hr (by omega)
      obtain ⟨by_, oy, prey, posty, Ty, fy, rfl, hby, hpy⟩ := hr2 (by omega)
      refine wp_skip ?_
      refine x_thenNormal ?_
      refine c_seq ?_
      refine wp_block ?_
      refine c_rseq (n := 26) ⟨rfl, rfl⟩ ?_
      refine s_val (r_move rfl) ?_
      refine s_val (r_assign rfl) ?_
      refine c_nil (l' := [_, _, _, _, _, _, _, _, _, _, _, _, _, _, _, _, _, _, _, _, _, _, _, _, _, _]) rfl ?_
      refine c_seq ?_
      refine d_begin (sz := 26) ⟨rfl, rfl⟩ (by kernel_rfl) H (H) rfl ?_
      intro w H
      refine d_take (i := 0) rfl (by kernel_rfl) (fun _ _ _ h => h) H (fun _ _ => r_move rfl) rfl ?_
      refine d_take (i := 1) rfl (by kernel_rfl) (fun _ _ _ h => h) H (fun _ _ => r_move rfl) rfl ?_
      refine d_take (i := 2) rfl (by kernel_rfl) (fun _ _ _ h => h) H (fun _ _ => r_indexAddrS Tryd.runUnderlying22 Tryd.sizeOf55 rfl rfl (by omega) (by omega)) rfl ?_
      refine d_take (i := 3) rfl (by kernel_rfl) (fun _ _ _ h => h) H (fun _ HS => r_loadn Tryd.isAgg55 Tryd.sizeOf55 rfl (HS.rd0 hbx) (hs_tdn _ _ _ _ i hpx (by omega)) (by first | exact (kC_length _) | exact (hC_length _) | exact rfl)) rfl ?_
      refine d_take (i := 4) rfl (by kernel_rfl) (fun _ _ _ h => h) H (fun _ _ => r_move rfl) rfl ?_
      refine d_take (i := 5) rfl (by kernel_rfl) (fun _ _ _ h => h) H (fun _ _ => r_move rfl) rfl ?_
      refine d_take (i := 6) rfl (by kernel_rfl) (fun _ _ _ h => h) H (fun _ _ => r_indexAddrS Tryd.runUnderlying22 Tryd.sizeOf55 rfl rfl (by omega) (by omega)) rfl ?_
      refine d_take (i := 7) rfl (by kernel_rfl) (fun _ _ _ h => h) H (fun _ HS => r_loadn Tryd.isAgg55 Tryd.sizeOf55 rfl (HS.rd0 hby) (hs_tdn _ _ _ _ i hpy (by omega)) (by first | exact (kC_length _) | exact (hC_length _) | exact rfl)) rfl ?_
      refine d_take (i := 8) rfl (by kernel_rfl) (fun _ _ _ h => h) H (fun _ _ => r_neqN nodeT55 rfl rfl) rfl ?_
      refine d_done (l' := [_, _, _, _, _, _, _, _, _, _, _, _, _, _, _, _, _, _, _, _, _, _, _, _, _, _]) (by kernel_rfl) rfl ?_
      refine x_thenNormal ?_
      refine c_if rfl (fun h24 => ?_) (fun h24 => ?_)
      · skip
        refine c_rseq (n := 26) ⟨rfl, rfl⟩ ?_
        refine s_val (r_assign rfl) ?_
        refine c_nil (l' := [_, _, _, _, _, _, _, _, _, _, _, _, _, _, _, _, _, _, _, _, _, _, _, _, _, _]) rfl ?_
        refine wp_ret (x_blockRet (x_thenRet (x_thenRet (x_blockRet (x_thenRet ?_)))))
        refine e_ret (res1 rfl rfl) ⟨_, rfl, ?_⟩
        exact ⟨by rw [decide_eq_false (fun e => by rw [e] at h24; exact h24 rfl)], H⟩
      · skip
        refine wp_skip ?_
        refine x_blockNormal ?_
        refine x_thenNormal ?_
        refine c_region (n := 26) ⟨rfl, rfl⟩ ?_
        refine s_val (r_add rfl rfl (w_i64 (by omega) (by omega))) ?_
        refine s_val (r_move rfl) ?_
        refine c_nil0 (l' := [_, _, _, _, _, _, _, _, _, _, _, _, _, _, _, _, _, _, _, _, _, _, _, _, _, _]) rfl ?_
        exact ⟨i + 1, _, rfl, ⟨_, _, _, _, _, _, _, _, _, _, _, _, _, _, rfl, by omega, take_step (by omega) (by omega) hs (by simpa using h24), H⟩, by omega⟩
    · skip
      refine wp_exit (x_thenExit (x_thenExit (x_blockHit ?_)))
      refine x_thenNormal ?_
      refine c_rseq (n := 26) ⟨rfl, rfl⟩ ?_
      refine s_val (r_assign rfl) ?_
      refine c_nil (l' := [_, _, _, _, _, _, _, _, _, _, _, _, _, _, _, _, _, _, _, _, _, _, _, _, _, _]) rfl ?_
      refine wp_ret ?_
      refine e_ret (res1 rfl rfl) ⟨_, rfl, ?_⟩
      exact ⟨by rw [decide_eq_true (by rw [List.take_of_length_le (by omega), List.take_of_length_le (by omega)] at hs; exact hs)], H⟩

set_option maxHeartbeats 4000000 in
theorem enc_spec (a : Option Addr) (cap : Nat) (xs : List Held) (hl : xs.length ≤ 65535) (hx : ∀ i, i < xs.length → InR (nd xs i)) (w0 : World) (hr : HRow w0 a xs) (hT : TabH w0) :
    Calls Tryd.prog 12 #[.slice a xs.length cap] w0 fun e w => ∃ v, e = .returned v ∧ ((Valid xs ∧ ∃ a' cap' N, v = .tuple #[.slice a' (encB xs).length cap', .int .i64 0] ∧ RowN 1 5 (bC (encB xs)) (encB xs).length a' cap' N ∧ St w0 [] w N) ∨ (¬ Valid xs ∧ v = .tuple #[.slice none 0 0, .int .i64 3] ∧ St w0 [] w [])) := by
  have H := St.refl w0
  refine c_enter (args := [.slice a xs.length cap]) (l := [.slice a xs.length cap, undef, undef, undef, undef, undef, undef, undef, undef, undef, undef, undef, undef, undef, undef, undef, undef, undef, undef, undef, undef, undef, undef, undef, undef, undef, undef, undef, undef, undef, undef, undef, undef, undef, undef, undef, undef, undef, undef, undef, undef, undef]) Tryd.func12 Tryd.ntmps12 rfl rfl ?_
  refine c_rseq (n := 42) ⟨rfl, rfl⟩ ?_
  refine s_val (r_assign rfl) ?_
  refine s_val (r_assign rfl) ?_
  refine c_nil (l' := [_, _, _, _, _, _, _, _, _, _, _, _, _, _, _, _, _, _, _, _, _, _, _, _, _, _, _, _, _, _, _, _, _, _, _, _, _, _, _, _, _, _]) rfl ?_
  refine c_seq ?_
  refine wp_block ?_
  refine c_rseq (n := 42) ⟨rfl, rfl⟩ ?_
  refine s_val (r_move rfl) ?_
  refine s_call (r_call Tryd.call24 (ec rfl en)) (may_spec _ _ _ (by omega) hx _ (hr.st H) (hT.st H)) ?_
  rintro v w ⟨rfl, HC⟩
  replace H := H.quiet HC
  refine s_val (r_notp rfl) ?_
  refine s_val (r_assign rfl) ?_
  refine c_nil (l' := [_, _, _, _, _, _, _, _, _, _, _, _, _, _, _, _, _, _, _, _, _, _, _, _, _, _, _, _, _, _, _, _, _, _, _, _, _, _, _, _, _, _]) rfl ?_
  refine c_if rfl (fun h7 => ?_) (fun h7 => ?_)
  · skip
    have hV := h7
    refine c_rseq (n := 42) ⟨rfl, rfl⟩ ?_
    refine s_val (r_assign rfl) ?_
    refine s_val (r_assign rfl) ?_
    refine c_nil (l' := [_, _, _, _, _, _, _, _, _, _, _, _, _, _, _, _, _, _, _, _, _, _, _, _, _, _, _, _, _, _, _, _, _, _, _, _, _, _, _, _, _, _]) rfl ?_
    refine wp_ret (x_blockRet (x_thenRet ?_))
    refine e_ret (res2 rfl rfl rfl) ⟨_, rfl, ?_⟩
    exact .inr ⟨hV, rfl, H⟩
  · skip
    have hV := Decidable.not_not.1 h7
    refine c_rseq (n := 42) ⟨rfl, rfl⟩ ?_
    refine s_val (r_move rfl) ?_
    refine s_val (r_lens Tryd.runUnderlying22 (ec rfl en)) ?_
    refine s_val (r_gtr rfl rfl) ?_
    refine s_val (r_assign rfl) ?_
    refine c_nil (l' := [_, _, _, _, _, _, _, _, _, _, _, _, _, _, _, _, _, _, _, _, _, _, _, _, _, _, _, _, _, _, _, _, _, _, _, _, _, _, _, _, _, _]) rfl ?_
    refine c_if rfl (fun h11 => ?_) (fun h11 => ?_)
    · skip
      exfalso; omega
    · skip
      refine wp_skip ?_
      refine x_blockNormal ?_
      refine x_thenNormal ?_
      refine c_rseq (n := 42) ⟨rfl, rfl⟩ ?_
      refine s_val (r_move rfl) ?_
      refine s_val (r_lens Tryd.runUnderlying22 (ec rfl en)) ?_
      refine s_val (r_conv Tryd.runUnderlying3 Tryd.runUnderlying38 rfl (w_u64 (by omega) (by omega))) ?_
      refine s_call (r_call Tryd.call25 (ec rfl (ec rfl en))) (put_spec _ 2 (by omega) (by omega) (by omega) (by omega) _) ?_
      rintro v w ⟨bp, rfl, HC⟩
      replace H := H.call0 HC
      have hN : RowN 1 5 (bC (preB xs 0)) 2 (some ⟨bp, 0, none⟩) 2 [(bp, .cells (bC (preB xs 0)).toArray 5 (0, 0))] := ⟨by rw [bC_length, preB_zero, putB_length], by omega, .inr ⟨bp, [], rfl, by rw [List.append_nil, bC_length, preB_zero, putB_length]; omega, by rw [List.append_nil]⟩⟩
      rw [← preB_zero xs] at H
      refine s_val (r_assign rfl) ?_
      refine c_nil (l' := [_, _, _, _, _, _, _, _, _, _, _, _, _, _, _, _, _, _, _, _, _, _, _, _, _, _, _, _, _, _, _, _, _, _, _, _, _, _, _, _, _, _]) rfl ?_
      refine c_seq ?_
      refine c_rseq (n := 42) ⟨rfl, rfl⟩ ?_
      refine s_val (r_move rfl) ?_
      refine s_val (r_lens Tryd.runUnderlying22 (ec rfl en)) ?_
      refine s_val (r_move rfl) ?_
      refine c_nil (l' := [_, _, _, _, _, _, _, _, _, _, _, _, _, _, _, _, _, _, _, _, _, _, _, _, _, _, _, _, _, _, _, _, _, _, _, _, _, _, _, _, _, _]) rfl ?_
      refine wp_block ?_
      refine c_loop (fun (l0 : List Value) (i : Nat) (l : List Value) (w : World) => ∃ (u6 u22 u23 u24 u25 u26 u27 u28 u29 u30 u31 u32 u33 u34 u35 u36 u37 u38 u39 u40 : Value) (a' : Option Addr) (cap' n : Nat) (N : List (Nat × Obj)), l = ovr l0 [N_, N_, N_, N_, Y_ (.slice a' n cap'), N_, Y_ u6, N_, N_, N_, N_, N_, N_, N_, N_, N_, N_, N_, N_, N_, N_, Y_ (.int .i64 i), Y_ u22, Y_ u23, Y_ u24, Y_ u25, Y_ u26, Y_ u27, Y_ u28, Y_ u29, Y_ u30, Y_ u31, Y_ u32, Y_ u33, Y_ u34, Y_ u35, Y_ u36, Y_ u37, Y_ u38, Y_ u39, Y_ u40] ∧ i ≤ xs.length ∧ n = 2 + 36 * i ∧ RowN 1 5 (bC (preB xs i)) n a' cap' N ∧ St w0 [] w (N)) (fun (i : Nat) => xs.length - i) 0 ⟨_, _, _, _, _, _, _, _, _, _, _, _, _, _, _, _, _, _, _, _, _, _, _, _, rfl, by omega, rfl, hN, H⟩ ?_
      intro i l w ⟨u6, u22, u23, u24, u25, u26, u27, u28, u29, u30, u31, u32, u33, u34, u35, u36, u37, u38, u39, u40, a', cap', n, N, hl, hi, hn, hN, H⟩
      obtain rfl := hl.trans (rfl : _ = [_, _, _, _, _, _, _, _, _, _, _, _, _, _, _, _, _, _, _, _, _, _, _, _, _, _, _, _, _, _, _, _, _, _, _, _, _, _, _, _, _, _])
      clear hl
      refine c_rseq (n := 42) ⟨rfl, rfl⟩ ?_
      refine s_val (r_lss rfl rfl) ?_
      refine c_nil (l' := [_, _, _, _, _, _, _, _, _, _, _, _, _, _, _, _, _, _, _, _, _, _, _, _, _, _, _, _, _, _, _, _, _, _, _, _, _, _, _, _, _, _]) rfl ?_
      refine c_seq ?_
      refine c_if rfl (fun h22 => ?_) (fun h22 => ?_)
      · skip
        obtain ⟨bh, off, pre, post, T, fz, rfl, hb, hp⟩ := hr (by omega)
        obtain ⟨hd0, hd1, ha0, ha1⟩ := hx i (by omega)
        refine wp_skip ?_
        refine x_thenNormal ?_
        refine c_seq ?_
        refine wp_block ?_
        refine c_rseq (n := 42) ⟨rfl, rfl⟩ ?_
        refine s_val (r_indexAddrS Tryd.runUnderlying22 Tryd.sizeOf55 rfl rfl (by omega) (by omega)) ?_
        refine s_val (r_loadn Tryd.isAgg55 Tryd.sizeOf55 rfl (H.rd0 hb) (hs_tdn _ _ _ _ i hp (by omega)) (by first | exact (kC_length _) | exact (hC_length _) | exact rfl)) ?_
        refine s_new (m_alloc (cs := (hC Held.zero)) H Tryd.zeroValue55 rfl) ?_
        intro w b6 H
        refine s_st (m_storen H 0 34 Tryd.sizeOf55 rfl rfl (by first | exact (kC_length _) | exact (hC_length _)) (by first | exact (kC_one _) | exact (hC_one _)) rfl (by first | exact (by rw [kC_length]; omega) | exact (by rw [hC_length]; omega)) (by first | exact (kC_sp _ _) | exact (hC_sp _ _))) (L' := (_ :: _)) rfl ?_
        intro w H
        refine c_nil (l' := [_, _, _, _, _, _, _, _, _, _, _, _, _, _, _, _, _, _, _, _, _, _, _, _, _, _, _, _, _, _, _, _, _, _, _, _, _, _, _, _, _, _]) rfl ?_
        refine c_rseq (n := 42) ⟨rfl, rfl⟩ ?_
        refine s_val (r_move rfl) ?_
        refine s_val (r_fieldAddr (k := 0) Tryd.runUnderlying55 rfl Tryd.sizeOf3 (by decide) rfl rfl) ?_
        refine s_val (r_load1 Tryd.isAgg3 rfl (H.at 0 rfl) (by first | exact rfl | exact (hC_0 _) | exact (hC_00 _) | exact (hC_1 _))) ?_
        refine s_val (r_conv Tryd.runUnderlying3 Tryd.runUnderlying5 rfl (w_u8' _)) ?_
        refine s_new (m_bslice1 H Tryd.runUnderlying24 Tryd.sizeOf5 Tryd.zeroValue5 (by omega) (by omega) rfl rfl rfl) ?_
        intro w b29 H
        refine s_any (m_append_row (L1 := [_, _]) (N := N) H hN Tryd.runUnderlying24 Tryd.runUnderlying24 (fun _ h => nomatch h) Tryd.sizeOf5 Tryd.zeroValue5 rfl Tryd.typeInfo5 (by rw [bytes5]; omega) (by omega) (by rw [bytes5]; omega) (ec rfl (ec rfl en)) (Src.slice (vs := [Value.int .u8 ((nd xs i).depth % 256)]) (H.at 0 rfl) rfl rfl (by simp [Value.oneCell']))) ?_
        rintro v w ⟨a', cap', N, rfl, hN, H⟩
        skip
        refine s_val (r_assign rfl) ?_
        refine c_nil (l' := [_, _, _, _, _, _, _, _, _, _, _, _, _, _, _, _, _, _, _, _, _, _, _, _, _, _, _, _, _, _, _, _, _, _, _, _, _, _, _, _, _, _]) rfl ?_
        refine c_rseq (n := 42) ⟨rfl, rfl⟩ ?_
        refine s_val (r_move rfl) ?_
        refine s_val (r_fieldAddr (k := 1) Tryd.runUnderlying55 rfl Tryd.sizeOf38 (by decide) rfl rfl) ?_
        refine s_val (r_load1 Tryd.isAgg38 rfl (H.at 1 rfl) (by first | exact rfl | exact (hC_0 _) | exact (hC_00 _) | exact (hC_1 _))) ?_
        refine s_call (r_call Tryd.call25 (ec rfl (ec rfl en))) (put_spec _ 3 (by omega) (by omega) (by omega) (by omega) _) ?_
        rintro v w ⟨bp, rfl, HC⟩
        replace H := H.call0 HC
        refine s_any (m_append_row (L1 := [_, _, _]) (N := N) H hN Tryd.runUnderlying24 Tryd.runUnderlying24 (fun _ h => nomatch h) Tryd.sizeOf5 Tryd.zeroValue5 rfl Tryd.typeInfo5 (by rw [bytes5]; omega) (by omega) (by rw [bytes5]; omega) (ec rfl (ec rfl en)) (Src.slice (H.at 0 rfl) (all_td _ (by rw [bC_length, putB_length])) (by rw [bC_length, putB_length]) (bC_one _))) ?_
        rintro v w ⟨a', cap', N, rfl, hN, H⟩
        skip
        refine s_val (r_assign rfl) ?_
        refine c_nil (l' := [_, _, _, _, _, _, _, _, _, _, _, _, _, _, _, _, _, _, _, _, _, _, _, _, _, _, _, _, _, _, _, _, _, _, _, _, _, _, _, _, _, _]) rfl ?_
        refine c_region (n := 42) ⟨rfl, rfl⟩ ?_
        refine s_val (r_move rfl) ?_
        refine s_val (r_fieldAddr (k := 2) Tryd.runUnderlying55 rfl Tryd.sizeOf43 (by decide) rfl rfl) ?_
        refine s_val (r_sliceA Tryd.runUnderlying43 Tryd.sizeOf5 rfl) ?_
        refine s_any (m_append_row (L1 := [_, _, _]) (N := N) H hN Tryd.runUnderlying24 Tryd.runUnderlying24 (fun _ h => nomatch h) Tryd.sizeOf5 Tryd.zeroValue5 rfl Tryd.typeInfo5 (by rw [bytes5]; omega) (by omega) (by rw [bytes5]; omega) (ec rfl (ec rfl en)) (Src.slice (H.at 2 rfl) (hC_seed _) (kC_length _) (kC_one _))) ?_
        rintro v w ⟨a', cap', N, rfl, hN, H⟩
        skip
        refine s_val (r_assign rfl) ?_
        refine c_nil0 (l' := [_, _, _, _, _, _, _, _, _, _, _, _, _, _, _, _, _, _, _, _, _, _, _, _, _, _, _, _, _, _, _, _, _, _, _, _, _, _, _, _, _, _]) rfl ?_
        refine x_blockNormal ?_
        refine x_thenNormal ?_
        refine c_region (n := 42) ⟨rfl, rfl⟩ ?_
        refine s_val (r_add rfl rfl (w_i64 (by omega) (by omega))) ?_
        refine s_val (r_move rfl) ?_
        refine c_nil0 (l' := [_, _, _, _, _, _, _, _, _, _, _, _, _, _, _, _, _, _, _, _, _, _, _, _, _, _, _, _, _, _, _, _, _, _, _, _, _, _, _, _, _, _]) rfl ?_
        replace H := H.sub (.cons _ (.cons _ (.cons _ (List.Sublist.refl _))))
        exact ⟨i + 1, _, rfl, ⟨_, _, _, _, _, _, _, _, _, _, _, _, _, _, _, _, _, _, _, _, _, _, _, _, rfl, by omega, by omega, enc_step (by omega) hN, H⟩, by omega⟩
      · skip
        obtain rfl : i = xs.length := by omega
        rw [preB_all] at hN
        obtain rfl : n = (encB xs).length := by rw [encB_length]; omega
        refine wp_exit (x_thenExit (x_thenExit (x_blockHit ?_)))
        refine x_thenNormal ?_
        refine c_rseq (n := 42) ⟨rfl, rfl⟩ ?_
        refine s_val (r_move rfl) ?_
        refine s_val (r_assign rfl) ?_
        refine s_val (r_assign rfl) ?_
        refine c_nil (l' := [_, _, _, _, _, _, _, _, _, _, _, _, _, _, _, _, _, _, _, _, _, _, _, _, _, _, _, _, _, _, _, _, _, _, _, _, _, _, _, _, _, _]) rfl ?_
        refine wp_ret ?_
        refine e_ret (res2 rfl rfl rfl) ⟨_, rfl, ?_⟩
        exact .inl ⟨hV, _, _, _, rfl, hN, H⟩

set_option maxHeartbeats 4000000 in
theorem renc_spec (a : Option Addr) (cap : Nat) (xs : List Held) (hl : xs.length ≤ 65535) (hx : ∀ i, i < xs.length → InR (nd xs i)) (w0 : World) (hr : HRow w0 a xs) :
    Calls Tryd.prog 13 #[.slice a xs.length cap] w0 fun e w => ∃ v, e = .returned v ∧ ((Valid xs ∧ ∃ a' cap' N, v = .tuple #[.slice a' (encB xs).length cap', .bool true] ∧ RowN 1 5 (bC (encB xs)) (encB xs).length a' cap' N ∧ St w0 [] w N) ∨ (¬ Valid xs ∧ v = .tuple #[.slice none 0 0, .bool false] ∧ St w0 [] w [])) := by
  have H := St.refl w0
  refine c_enter (args := [.slice a xs.length cap]) (l := [.slice a xs.length cap, undef, undef, undef, undef, undef, undef, undef, undef, undef, undef, undef, undef, undef, undef, undef, undef, undef, undef, undef, undef, undef, undef, undef, undef, undef, undef, undef, undef, undef, undef, undef, undef, undef, undef, undef, undef, undef, undef, undef, undef, undef, undef, undef, undef, undef, undef, undef, undef, undef, undef, undef, undef, undef, undef, undef, undef, undef, undef, undef, undef, undef, undef, undef, undef, undef, undef, undef, undef, undef]) Tryd.func13 Tryd.ntmps13 rfl rfl ?_
  refine c_rseq (n := 70) ⟨rfl, rfl⟩ ?_
  refine s_val (r_assign rfl) ?_
  refine s_val (r_assign rfl) ?_
  refine c_nil (l' := [_, _, _, _, _, _, _, _, _, _, _, _, _, _, _, _, _, _, _, _, _, _, _, _, _, _, _, _, _, _, _, _, _, _, _, _, _, _, _, _, _, _, _, _, _, _, _, _, _, _, _, _, _, _, _, _, _, _, _, _, _, _, _, _, _, _, _, _, _, _]) rfl ?_
  refine c_seq ?_
  refine c_rseq (n := 70) ⟨rfl, rfl⟩ ?_
  refine s_val (r_move rfl) ?_
  refine s_call (r_call Tryd.call26 (ec rfl en)) (rmay_spec _ _ _ (by omega) hx _ (hr.st H)) ?_
  rintro v w ⟨rfl, HC⟩
  replace H := H.quiet HC
  refine s_test (r_notp rfl) (fun h10 => ?_) (fun h10 => ?_)
  · skip
    have hV := h10
    refine s_val (r_move rfl) ?_
    refine g_no rfl rfl (by decide) ?_
    refine g_no rfl rfl (by decide) ?_
    refine g_no rfl rfl (by decide) ?_
    refine s_val (r_pickt rfl rfl) ?_
    refine c_nil (l' := [_, _, _, _, _, _, _, _, _, _, _, _, _, _, _, _, _, _, _, _, _, _, _, _, _, _, _, _, _, _, _, _, _, _, _, _, _, _, _, _, _, _, _, _, _, _, _, _, _, _, _, _, _, _, _, _, _, _, _, _, _, _, _, _, _, _, _, _, _, _]) rfl ?_
    refine c_ift rfl ?_
    refine c_rseq (n := 70) ⟨rfl, rfl⟩ ?_
    refine s_val (r_assign rfl) ?_
    refine s_val (r_assign rfl) ?_
    refine c_nil (l' := [_, _, _, _, _, _, _, _, _, _, _, _, _, _, _, _, _, _, _, _, _, _, _, _, _, _, _, _, _, _, _, _, _, _, _, _, _, _, _, _, _, _, _, _, _, _, _, _, _, _, _, _, _, _, _, _, _, _, _, _, _, _, _, _, _, _, _, _, _, _]) rfl ?_
    refine wp_ret (x_thenRet ?_)
    refine e_ret (res2 rfl rfl rfl) ⟨_, rfl, ?_⟩
    exact .inr ⟨hV, rfl, H⟩
  · skip
    have hV := Decidable.not_not.1 h10
    refine s_val (r_move rfl) ?_
    refine g_yes rfl rfl ?_
    refine s_val (r_move rfl) ?_
    refine g_yes rfl rfl ?_
    refine s_val (r_lens Tryd.runUnderlying30 (ec rfl en)) ?_
    refine g_yes rfl rfl ?_
    refine s_val (r_gtr rfl rfl) ?_
    refine s_val (r_pickf rfl rfl) ?_
    refine c_nil (l' := [_, _, _, _, _, _, _, _, _, _, _, _, _, _, _, _, _, _, _, _, _, _, _, _, _, _, _, _, _, _, _, _, _, _, _, _, _, _, _, _, _, _, _, _, _, _, _, _, _, _, _, _, _, _, _, _, _, _, _, _, _, _, _, _, _, _, _, _, _, _]) rfl ?_
    refine c_if rfl (fun h15 => ?_) (fun h15 => ?_)
    · skip
      exfalso; omega
    · skip
      refine wp_skip ?_
      refine x_thenNormal ?_
      refine c_rseq (n := 70) ⟨rfl, rfl⟩ ?_
      refine s_val (r_move rfl) ?_
      refine s_val (r_lens Tryd.runUnderlying30 (ec rfl en)) ?_
      refine s_val (r_quo rfl rfl (by omega) (quoI (by omega) (by omega) (by omega))) ?_
      refine s_val (r_conv Tryd.runUnderlying3 Tryd.runUnderlying5 rfl (w_u8' _)) ?_
      refine s_val (r_move rfl) ?_
      refine s_val (r_lens Tryd.runUnderlying30 (ec rfl en)) ?_
      refine s_val (r_rem rfl rfl (by omega) (remI (by omega))) ?_
      refine s_val (r_conv Tryd.runUnderlying3 Tryd.runUnderlying5 rfl (w_u8' _)) ?_
      refine s_new (m_bsliceF (m := 2) (pl := [(0, 1), (1, 1)]) (v0 := .int .u8 0) (out := bC (putB xs.length 2)) H Tryd.runUnderlying24 Tryd.sizeOf5 Tryd.zeroValue5 rfl (by omega) (by omega) (pc rfl (pc rfl pn)) (by simp) (by rw [← putB2]; rfl)) ?_
      intro w b24 H
      have hN : RowN 1 5 (bC (preB xs 0)) 2 (some ⟨b24, 0, none⟩) 2 [(b24, .cells (bC (preB xs 0)).toArray 5 (0, 0))] := ⟨by rw [bC_length, preB_zero, putB_length], by omega, .inr ⟨b24, [], rfl, by rw [List.append_nil, bC_length, preB_zero, putB_length]; omega, by rw [List.append_nil]⟩⟩
      rw [← preB_zero xs] at H
      refine s_val (r_assign rfl) ?_
      refine c_nil (l' := [_, _, _, _, _, _, _, _, _, _, _, _, _, _, _, _, _, _, _, _, _, _, _, _, _, _, _, _, _, _, _, _, _, _, _, _, _, _, _, _, _, _, _, _, _, _, _, _, _, _, _, _, _, _, _, _, _, _, _, _, _, _, _, _, _, _, _, _, _, _]) rfl ?_
      refine c_seq ?_
      refine c_rseq (n := 70) ⟨rfl, rfl⟩ ?_
      refine s_val (r_assign rfl) ?_
      refine c_nil (l' := [_, _, _, _, _, _, _, _, _, _, _, _, _, _, _, _, _, _, _, _, _, _, _, _, _, _, _, _, _, _, _, _, _, _, _, _, _, _, _, _, _, _, _, _, _, _, _, _, _, _, _, _, _, _, _, _, _, _, _, _, _, _, _, _, _, _, _, _, _, _]) rfl ?_
      refine wp_block ?_
      refine c_loop (fun (l0 : List Value) (i : Nat) (l : List Value) (w : World) => ∃ (u6 u7 u25 u26 u27 u28 u29 u30 u31 u32 u33 u34 u35 u36 u37 u38 u39 u40 u41 u42 u43 u44 u45 u46 u47 u48 u49 u50 u51 u52 u53 u54 u55 u56 u57 u58 u59 u60 u61 u62 u63 u64 u65 u66 u67 u68 : Value) (a' : Option Addr) (cap' n : Nat) (N : List (Nat × Obj)), l = ovr l0 [N_, N_, N_, N_, Y_ (.slice a' n cap'), Y_ (.int .i64 i), Y_ u6, Y_ u7, N_, N_, N_, N_, N_, N_, N_, N_, N_, N_, N_, N_, N_, N_, N_, N_, N_, Y_ u25, Y_ u26, Y_ u27, Y_ u28, Y_ u29, Y_ u30, Y_ u31, Y_ u32, Y_ u33, Y_ u34, Y_ u35, Y_ u36, Y_ u37, Y_ u38, Y_ u39, Y_ u40, Y_ u41, Y_ u42, Y_ u43, Y_ u44, Y_ u45, Y_ u46, Y_ u47, Y_ u48, Y_ u49, Y_ u50, Y_ u51, Y_ u52, Y_ u53, Y_ u54, Y_ u55, Y_ u56, Y_ u57, Y_ u58, Y_ u59, Y_ u60, Y_ u61, Y_ u62, Y_ u63, Y_ u64, Y_ u65, Y_ u66, Y_ u67, Y_ u68] ∧ i ≤ xs.length ∧ n = 2 + 36 * i ∧ RowN 1 5 (bC (preB xs i)) n a' cap' N ∧ St w0 [] w (N)) (fun (i : Nat) => xs.length - i) 0 ⟨_, _, _, _, _, _, _, _, _, _, _, _, _, _, _, _, _, _, _, _, _, _, _, _, _, _, _, _, _, _, _, _, _, _, _, _, _, _, _, _, _, _, _, _, _, _, _, _, _, _, rfl, by omega, rfl, hN, H⟩ ?_
      intro i l w ⟨u6, u7, u25, u26, u27, u28, u29, u30, u31, u32, u33, u34, u35, u36, u37, u38, u39, u40, u41, u42, u43, u44, u45, u46, u47, u48, u49, u50, u51, u52, u53, u54, u55, u56, u57, u58, u59, u60, u61, u62, u63, u64, u65, u66, u67, u68, a', cap', n, N, hl, hi, hn, hN, H⟩
      obtain rfl := hl.trans (rfl : _ = [_, _, _, _, _, _, _, _, _, _, _, _, _, _, _, _, _, _, _, _, _, _, _, _, _, _, _, _, _, _, _, _, _, _, _, _, _, _, _, _, _, _, _, _, _, _, _, _, _, _, _, _, _, _, _, _, _, _, _, _, _, _, _, _, _, _, _, _, _, _])
      clear hl
      refine c_seq ?_
      refine c_rseq (n := 70) ⟨rfl, rfl⟩ ?_
      refine s_val (r_move rfl) ?_
      refine s_val (r_move rfl) ?_
      refine s_val (r_lens Tryd.runUnderlying30 (ec rfl en)) ?_
      refine s_val (r_lss rfl rfl) ?_
      refine c_nil (l' := [_, _, _, _, _, _, _, _, _, _, _, _, _, _, _, _, _, _, _, _, _, _, _, _, _, _, _, _, _, _, _, _, _, _, _, _, _, _, _, _, _, _, _, _, _, _, _, _, _, _, _, _, _, _, _, _, _, _, _, _, _, _, _, _, _, _, _, _, _, _]) rfl ?_
      refine c_if rfl (fun h28 => ?_) (fun h28 => ?_)
      · skip
        obtain ⟨bh, off, pre, post, T, fz, rfl, hb, hp⟩ := hr (by omega)
        obtain ⟨hd0, hd1, ha0, ha1⟩ := hx i (by omega)
        refine wp_skip ?_
        refine x_thenNormal ?_
        refine c_seq ?_
        refine wp_block ?_
        refine c_rseq (n := 70) ⟨rfl, rfl⟩ ?_
        refine s_val (r_move rfl) ?_
        refine s_val (r_move rfl) ?_
        refine s_val (r_indexAddrS Tryd.runUnderlying30 Tryd.sizeOf41 rfl rfl (by omega) (by omega)) ?_
        refine s_val (r_fieldAddr (k := 1) Tryd.runUnderlying41 rfl Tryd.sizeOf38 (by decide) rfl rfl) ?_
        refine s_val (r_load1 Tryd.isAgg38 rfl (H.rd0 hb) (hs_at _ _ _ _ i hp (by omega))) ?_
        refine s_val (r_assign rfl) ?_
        refine c_nil (l' := [_, _, _, _, _, _, _, _, _, _, _, _, _, _, _, _, _, _, _, _, _, _, _, _, _, _, _, _, _, _, _, _, _, _, _, _, _, _, _, _, _, _, _, _, _, _, _, _, _, _, _, _, _, _, _, _, _, _, _, _, _, _, _, _, _, _, _, _, _, _]) rfl ?_
        refine c_rseq (n := 70) ⟨rfl, rfl⟩ ?_
        refine s_val (r_move rfl) ?_
        refine s_val (r_move rfl) ?_
        refine s_val (r_move rfl) ?_
        refine s_val (r_indexAddrS Tryd.runUnderlying30 Tryd.sizeOf41 rfl rfl (by omega) (by omega)) ?_
        refine s_val (r_fieldAddr (k := 0) Tryd.runUnderlying41 rfl Tryd.sizeOf3 (by decide) rfl rfl) ?_
        refine s_val (r_load1 Tryd.isAgg3 rfl (H.rd0 hb) (hs_depth _ _ _ _ i hp (by omega))) ?_
        refine s_val (r_conv Tryd.runUnderlying3 Tryd.runUnderlying5 rfl (w_u8' _)) ?_
        refine s_val (r_move rfl) ?_
        refine s_val (r_quo rfl rfl (by omega) (quoU (by omega) (by omega) (by omega))) ?_
        refine s_val (r_conv Tryd.runUnderlying38 Tryd.runUnderlying5 rfl (w_u8' _)) ?_
        refine s_val (r_move rfl) ?_
        refine s_val (r_quo rfl rfl (by omega) (quoU (by omega) (by omega) (by omega))) ?_
        refine s_val (r_rem rfl rfl (by omega) (remI (by omega))) ?_
        refine s_val (r_conv Tryd.runUnderlying38 Tryd.runUnderlying5 rfl (w_u8' _)) ?_
        refine s_val (r_move rfl) ?_
        refine s_val (r_rem rfl rfl (by omega) (remI (by omega))) ?_
        refine s_val (r_conv Tryd.runUnderlying38 Tryd.runUnderlying5 rfl (w_u8' _)) ?_
        refine s_new (m_bsliceF (m := 4) (pl := [(0, 1), (1, 1), (2, 1), (3, 1)]) (v0 := .int .u8 0) (out := bC (headB (nd xs i))) H Tryd.runUnderlying24 Tryd.sizeOf5 Tryd.zeroValue5 rfl (by omega) (by omega) (pc rfl (pc rfl (pc rfl (pc rfl pn)))) (by simp) (by rw [← headB_cells]; rfl)) ?_
        intro w b53 H
        refine s_any (m_append_row (L1 := [_]) (N := N) H hN Tryd.runUnderlying24 Tryd.runUnderlying24 (fun _ h => nomatch h) Tryd.sizeOf5 Tryd.zeroValue5 rfl Tryd.typeInfo5 (by rw [bytes5]; omega) (by omega) (by rw [bytes5]; omega) (ec rfl (ec rfl en)) (Src.slice (H.at 0 rfl) (all_td _ (by rw [bC_length, headB_length])) (by rw [bC_length, headB_length]) (bC_one _))) ?_
        rintro v w ⟨a', cap', N, rfl, hN, H⟩
        skip
        refine s_val (r_assign rfl) ?_
        refine c_nil (l' := [_, _, _, _, _, _, _, _, _, _, _, _, _, _, _, _, _, _, _, _, _, _, _, _, _, _, _, _, _, _, _, _, _, _, _, _, _, _, _, _, _, _, _, _, _, _, _, _, _, _, _, _, _, _, _, _, _, _, _, _, _, _, _, _, _, _, _, _, _, _]) rfl ?_
        refine c_rseq (n := 70) ⟨rfl, rfl⟩ ?_
        refine s_val (r_assign rfl) ?_
        refine c_nil (l' := [_, _, _, _, _, _, _, _, _, _, _, _, _, _, _, _, _, _, _, _, _, _, _, _, _, _, _, _, _, _, _, _, _, _, _, _, _, _, _, _, _, _, _, _, _, _, _, _, _, _, _, _, _, _, _, _, _, _, _, _, _, _, _, _, _, _, _, _, _, _]) rfl ?_
        refine wp_block ?_
        replace H := H.sub (L' := N) (List.sublist_append_right [_] N)
        refine c_loop (fun (l0 : List Value) (k : Nat) (l : List Value) (w : World) => ∃ (u55 u56 u57 u58 u59 u60 u61 u62 u63 u64 u65 u66 u67 u68 : Value) (a' : Option Addr) (cap' n : Nat) (N : List (Nat × Obj)), l = ovr l0 [N_, N_, N_, N_, Y_ (.slice a' n cap'), N_, N_, Y_ (.int .i64 k), N_, N_, N_, N_, N_, N_, N_, N_, N_, N_, N_, N_, N_, N_, N_, N_, N_, N_, N_, N_, N_, N_, N_, N_, N_, N_, N_, N_, N_, N_, N_, N_, N_, N_, N_, N_, N_, N_, N_, N_, N_, N_, N_, N_, N_, N_, N_, Y_ u55, Y_ u56, Y_ u57, Y_ u58, Y_ u59, Y_ u60, Y_ u61, Y_ u62, Y_ u63, Y_ u64, Y_ u65, Y_ u66, Y_ u67, Y_ u68] ∧ k ≤ 32 ∧ n = 2 + 36 * i + 4 + k ∧ RowN 1 5 (bC (midB xs i k)) n a' cap' N ∧ St w0 [] w (N)) (fun (k : Nat) => 32 - k) 0 ⟨_, _, _, _, _, _, _, _, _, _, _, _, _, _, _, _, _, _, rfl, by omega, by omega, mid_zero hN, H⟩ ?_
        intro k l w ⟨u55, u56, u57, u58, u59, u60, u61, u62, u63, u64, u65, u66, u67, u68, a', cap', n, N, hl, hk, hn, hN, H⟩
        obtain rfl := hl.trans (rfl : _ = [_, _, _, _, _, _, _, _, _, _, _, _, _, _, _, _, _, _, _, _, _, _, _, _, _, _, _, _, _, _, _, _, _, _, _, _, _, _, _, _, _, _, _, _, _, _, _, _, _, _, _, _, _, _, _, _, _, _, _, _, _, _, _, _, _, _, _, _, _, _])
        clear hl
        refine c_seq ?_
        refine c_rseq (n := 70) ⟨rfl, rfl⟩ ?_
        refine s_val (r_move rfl) ?_
        refine s_val (r_lss rfl rfl) ?_
        refine c_nil (l' := [_, _, _, _, _, _, _, _, _, _, _, _, _, _, _, _, _, _, _, _, _, _, _, _, _, _, _, _, _, _, _, _, _, _, _, _, _, _, _, _, _, _, _, _, _, _, _, _, _, _, _, _, _, _, _, _, _, _, _, _, _, _, _, _, _, _, _, _, _, _]) rfl ?_
        refine c_if rfl (fun h56 => ?_) (fun h56 => ?_)
        · skip
          refine wp_skip ?_
          refine x_thenNormal ?_
          refine c_seq ?_
          refine wp_block ?_
          refine c_region (n := 70) ⟨rfl, rfl⟩ ?_
          refine s_val (r_move rfl) ?_
          refine s_val (r_move rfl) ?_
          refine s_val (r_move rfl) ?_
          refine s_val (r_move rfl) ?_
          refine s_val (r_indexAddrS Tryd.runUnderlying30 Tryd.sizeOf41 rfl rfl (by omega) (by omega)) ?_
          refine s_val (r_fieldAddr (k := 2) Tryd.runUnderlying41 rfl Tryd.sizeOf39 (by decide) rfl rfl) ?_
          refine s_val (r_indexAddrA Tryd.runUnderlying39 Tryd.sizeOf5 rfl rfl (by omega) (by omega)) ?_
          refine s_val (r_load1 Tryd.isAgg5 rfl (H.rd0 hb) (hs_seed _ _ _ i k hp (by omega) (by omega) (by omega))) ?_
          refine s_new (m_bslice1 H Tryd.runUnderlying24 Tryd.sizeOf5 Tryd.zeroValue5 (by omega) (by omega) rfl rfl rfl) ?_
          intro w b67 H
          refine s_any (m_append_row (L1 := [_]) (N := N) H hN Tryd.runUnderlying24 Tryd.runUnderlying24 (fun _ h => nomatch h) Tryd.sizeOf5 Tryd.zeroValue5 rfl Tryd.typeInfo5 (by rw [bytes5]; omega) (by omega) (by rw [bytes5]; omega) (ec rfl (ec rfl en)) (Src.slice (vs := [Value.int .u8 ((byt (nd xs i).seed k).toNat : Int)]) (H.at 0 rfl) rfl rfl (by simp [Value.oneCell']))) ?_
          rintro v w ⟨a', cap', N, rfl, hN, H⟩
          skip
          refine s_val (r_assign rfl) ?_
          refine c_nil0 (l' := [_, _, _, _, _, _, _, _, _, _, _, _, _, _, _, _, _, _, _, _, _, _, _, _, _, _, _, _, _, _, _, _, _, _, _, _, _, _, _, _, _, _, _, _, _, _, _, _, _, _, _, _, _, _, _, _, _, _, _, _, _, _, _, _, _, _, _, _, _, _]) rfl ?_
          refine x_blockNormal ?_
          refine x_thenNormal ?_
          refine c_region (n := 70) ⟨rfl, rfl⟩ ?_
          refine s_val (r_move rfl) ?_
          refine s_val (r_add rfl rfl (w_i64 (by omega) (by omega))) ?_
          refine s_val (r_assign rfl) ?_
          refine c_nil0 (l' := [_, _, _, _, _, _, _, _, _, _, _, _, _, _, _, _, _, _, _, _, _, _, _, _, _, _, _, _, _, _, _, _, _, _, _, _, _, _, _, _, _, _, _, _, _, _, _, _, _, _, _, _, _, _, _, _, _, _, _, _, _, _, _, _, _, _, _, _, _, _]) rfl ?_
          replace H := H.sub (.cons _ (List.Sublist.refl _))
          exact ⟨k + 1, _, rfl, ⟨_, _, _, _, _, _, _, _, _, _, _, _, _, _, _, _, _, _, rfl, by omega, by omega, mid_step (by omega) hN, H⟩, by omega⟩
        · skip
          obtain rfl : k = 32 := by omega
          refine wp_exit (x_thenExit (x_thenExit (x_blockHit ?_)))
          refine x_blockNormal ?_
          refine x_thenNormal ?_
          refine c_region (n := 70) ⟨rfl, rfl⟩ ?_
          refine s_val (r_move rfl) ?_
          refine s_val (r_add rfl rfl (w_i64 (by omega) (by omega))) ?_
          refine s_val (r_assign rfl) ?_
          refine c_nil0 (l' := [_, _, _, _, _, _, _, _, _, _, _, _, _, _, _, _, _, _, _, _, _, _, _, _, _, _, _, _, _, _, _, _, _, _, _, _, _, _, _, _, _, _, _, _, _, _, _, _, _, _, _, _, _, _, _, _, _, _, _, _, _, _, _, _, _, _, _, _, _, _]) rfl ?_
          exact ⟨i + 1, _, rfl, ⟨_, _, _, _, _, _, _, _, _, _, _, _, _, _, _, _, _, _, _, _, _, _, _, _, _, _, _, _, _, _, _, _, _, _, _, _, _, _, _, _, _, _, _, _, _, _, _, _, _, _, rfl, by omega, by omega, mid_all (by omega) hN, H⟩, by omega⟩
      · skip
        obtain rfl : i = xs.length := by omega
        rw [preB_all] at hN
        obtain rfl : n = (encB xs).length := by rw [encB_length]; omega
        refine wp_exit (x_thenExit (x_thenExit (x_blockHit ?_)))
        refine x_thenNormal ?_
        refine c_rseq (n := 70) ⟨rfl, rfl⟩ ?_
        refine s_val (r_move rfl) ?_
        refine s_val (r_assign rfl) ?_
        refine s_val (r_assign rfl) ?_
        refine c_nil (l' := [_, _, _, _, _, _, _, _, _, _, _, _, _, _, _, _, _, _, _, _, _, _, _, _, _, _, _, _, _, _, _, _, _, _, _, _, _, _, _, _, _, _, _, _, _, _, _, _, _, _, _, _, _, _, _, _, _, _, _, _, _, _, _, _, _, _, _, _, _, _]) rfl ?_
        refine wp_ret ?_
        refine e_ret (res2 rfl rfl rfl) ⟨_, rfl, ?_⟩
        exact .inl ⟨hV, _, _, _, rfl, hN, H⟩

end Go.Proofs.YtblphhclfloodaaDoor
