import Derived.Test.YtblphhclfloodaaG1
namespace Go.Proofs.Ytblphhclfloodaa
open Go Go.Er
set_option linter.unusedSimpArgs false in
theorem places51 : Places Try.prog #[⟨ "Depth", 3, 0, false, "", "", 0⟩, ⟨ "At", 31, 1, false, "", "", 8⟩, ⟨ "Seed", 22, 2, false, "", "", 16⟩] [(0, 1), (1, 1), (2, 32)] := fun w => by simp [Try.sizeOf22 w, Try.sizeOf3 w, Try.sizeOf31 w]
theorem bytes51 : Try.t51.bytes = 48 := rfl
set_option maxRecDepth 20000 in
theorem nodeT51 : NodeT Try.prog 51 := ⟨by kernel_rfl, by kernel_rfl, by kernel_rfl, ⟨ "Depth", 3, 0, false, "", "", 0⟩, ⟨ "At", 31, 1, false, "", "", 8⟩, ⟨ "Seed", 22, 2, false, "", "", 16⟩, 5, by kernel_rfl, by decide, by decide, by decide, rfl, rfl, rfl, by kernel_rfl, by kernel_rfl, by kernel_rfl, by kernel_rfl, Try.sizeOf5, Try.sizeOf22, Try.isAgg3, Try.isAgg31, Try.isAgg22⟩

theorem hs_take {xs : List Held} {i : Nat} (hi : i < xs.length) : hsC (xs.take (i + 1)) = hsC (xs.take i) ++ hC (nd xs i) := by
  rw [List.take_succ_eq_append_getElem hi, hsC_append, nd_eq hi]; simp [hsC]
theorem take_step {xs ys : List Held} {i : Nat} (h1 : i < xs.length) (h2 : i < ys.length) (h : xs.take i = ys.take i) (he : nd xs i = nd ys i) : xs.take (i + 1) = ys.take (i + 1) := by
  rw [List.take_succ_eq_append_getElem h1, List.take_succ_eq_append_getElem h2, h, nd_eq h1, nd_eq h2, he]
theorem hs_seedA (pre : List Value) (xs : List Held) (post : List Value) {off o : Nat} (i : Nat) (ho : pre.length = off) (hi : i < xs.length) (he : o = off + i * 34 + 2) : ((pre ++ hsC xs ++ post).drop o).take 32 = kC (nd xs i).seed := by
  subst he
  have h := hs_tdn pre xs post off i ho hi
  have e : ((pre ++ hsC xs ++ post).drop (off + i * 34 + 2)).take 32 = (((pre ++ hsC xs ++ post).drop (off + i * 34)).take 34).drop 2 := by
    rw [List.drop_take, List.drop_drop]
  rw [e, h]; rfl

set_option maxHeartbeats 4000000 in
theorem plain6_spec (a : Option Addr) (cap : Nat) (xs : List Held) (hl : xs.length ≤ 1000000) (w0 : World) (hr : HRow w0 a xs) :
    Calls Try.prog 16 #[.slice a xs.length cap] w0 fun e w => ∃ v, e = .returned v ∧ (∃ a' cap' N, v = .slice a' xs.length cap' ∧ RowN 34 51 (hsC xs) xs.length a' cap' N ∧ St w0 [] w N) := by
  have H := St.refl w0
  refine c_enter (args := [.slice a xs.length cap]) (l := [.slice a xs.length cap, undef, undef, undef, undef, undef, undef, undef, undef, undef, undef, undef, undef, undef, undef, undef, undef, undef, undef, undef, undef, undef, undef, undef, undef, undef, undef, undef, undef, undef, undef]) Try.func16 Try.ntmps16 rfl rfl ?_
  refine c_rseq (n := 31) ⟨rfl, rfl⟩ ?_
  refine s_val (r_assign rfl) ?_
  refine c_nil (l' := [_, _, _, _, _, _, _, _, _, _, _, _, _, _, _, _, _, _, _, _, _, _, _, _, _, _, _, _, _, _, _]) rfl ?_
  refine c_rseq (n := 31) ⟨rfl, rfl⟩ ?_
  refine s_val (r_assign rfl) ?_
  refine c_nil (l' := [_, _, _, _, _, _, _, _, _, _, _, _, _, _, _, _, _, _, _, _, _, _, _, _, _, _, _, _, _, _, _]) rfl ?_
  refine c_seq ?_
  refine c_rseq (n := 31) ⟨rfl, rfl⟩ ?_
  refine s_val (r_assign rfl) ?_
  refine c_nil (l' := [_, _, _, _, _, _, _, _, _, _, _, _, _, _, _, _, _, _, _, _, _, _, _, _, _, _, _, _, _, _, _]) rfl ?_
  refine wp_block ?_
  refine c_loop (fun (l0 : List Value) (i : Nat) (l : List Value) (w : World) => ∃ (u5 u6 u7 u8 u9 u10 u11 u12 u13 u14 u15 u16 u17 u18 u19 u20 u21 u22 u23 u24 u25 u26 u27 u28 u29 : Value) (a' : Option Addr) (cap' : Nat) (N : List (Nat × Obj)), l = ovr l0 [N_, N_, N_, Y_ (.slice a' i cap'), Y_ (.int .i64 i), Y_ u5, Y_ u6, Y_ u7, Y_ u8, Y_ u9, Y_ u10, Y_ u11, Y_ u12, Y_ u13, Y_ u14, Y_ u15, Y_ u16, Y_ u17, Y_ u18, Y_ u19, Y_ u20, Y_ u21, Y_ u22, Y_ u23, Y_ u24, Y_ u25, Y_ u26, Y_ u27, Y_ u28, Y_ u29] ∧ i ≤ xs.length ∧ RowN 34 51 (hsC (xs.take i)) i a' cap' N ∧ St w0 [] w (N)) (fun (i : Nat) => xs.length - i) 0 ⟨_, _, _, _, _, _, _, _, _, _, _, _, _, _, _, _, _, _, _, _, _, _, _, _, _, _, _, _, rfl, by omega, RowN.nil, H⟩ ?_
  intro i l w ⟨u5, u6, u7, u8, u9, u10, u11, u12, u13, u14, u15, u16, u17, u18, u19, u20, u21, u22, u23, u24, u25, u26, u27, u28, u29, a', cap', N, hl, hi, hN, H⟩
  obtain rfl := hl.trans (rfl : _ = [_, _, _, _, _, _, _, _, _, _, _, _, _, _, _, _, _, _, _, _, _, _, _, _, _, _, _, _, _, _, _])
  clear hl
  refine c_seq ?_
  refine c_rseq (n := 31) ⟨rfl, rfl⟩ ?_
  refine s_val (r_move rfl) ?_
  refine s_val (r_move rfl) ?_
  refine s_val (r_lens Try.runUnderlying35 (ec rfl en)) ?_
  refine s_val (r_lss rfl rfl) ?_
  refine c_nil (l' := [_, _, _, _, _, _, _, _, _, _, _, _, _, _, _, _, _, _, _, _, _, _, _, _, _, _, _, _, _, _, _]) rfl ?_
  refine c_if rfl (fun h8 => ?_) (fun h8 => ?_)
  · skip
    obtain ⟨bh, off, pre, post, T, fz, rfl, hb, hp⟩ := hr (by omega)
    refine wp_skip ?_
    refine x_thenNormal ?_
    refine c_seq ?_
    refine wp_block ?_
    refine d_begin (sz := 31) ⟨rfl, rfl⟩ (by kernel_rfl) H (H.sub (List.nil_sublist _)) rfl ?_
    intro w H
    refine d_take (i := 0) rfl (by kernel_rfl) (fun _ _ _ h => h) (H.sub (List.nil_sublist _)) (fun _ _ => r_move rfl) rfl ?_
    refine d_take (i := 1) rfl (by kernel_rfl) (fun _ _ _ h => h) (H.sub (List.nil_sublist _)) (fun _ _ => r_move rfl) rfl ?_
    refine d_take (i := 2) rfl (by kernel_rfl) (fun _ _ _ h => h) (H.sub (List.nil_sublist _)) (fun _ _ => r_move rfl) rfl ?_
    refine d_take (i := 3) rfl (by kernel_rfl) (fun _ _ _ h => h) (H.sub (List.nil_sublist _)) (fun _ _ => r_indexAddrS Try.runUnderlying35 Try.sizeOf41 rfl rfl (by omega) (by omega)) rfl ?_
    refine d_take (i := 4) rfl (by kernel_rfl) (fun _ _ _ h => h) (H.sub (List.nil_sublist _)) (fun _ _ => r_fieldAddr (k := 0) Try.runUnderlying41 rfl Try.sizeOf3 (by decide) rfl rfl) rfl ?_
    refine d_take (i := 5) rfl (by kernel_rfl) (fun _ _ _ h => h) (H.sub (List.nil_sublist _)) (fun _ HS => r_load1 Try.isAgg3 rfl (HS.rd0 hb) (hs_depth _ _ _ _ i hp (by omega))) rfl ?_
    refine d_take (i := 6) rfl (by kernel_rfl) (fun _ _ _ h => h) (H.sub (List.nil_sublist _)) (fun _ _ => r_move rfl) rfl ?_
    refine d_take (i := 7) rfl (by kernel_rfl) (fun _ _ _ h => h) (H.sub (List.nil_sublist _)) (fun _ _ => r_move rfl) rfl ?_
    refine d_take (i := 8) rfl (by kernel_rfl) (fun _ _ _ h => h) (H.sub (List.nil_sublist _)) (fun _ _ => r_indexAddrS Try.runUnderlying35 Try.sizeOf41 rfl rfl (by omega) (by omega)) rfl ?_
    refine d_take (i := 9) rfl (by kernel_rfl) (fun _ _ _ h => h) (H.sub (List.nil_sublist _)) (fun _ _ => r_fieldAddr (k := 1) Try.runUnderlying41 rfl Try.sizeOf31 (by decide) rfl rfl) rfl ?_
    refine d_take (i := 10) rfl (by kernel_rfl) (fun _ _ _ h => h) (H.sub (List.nil_sublist _)) (fun _ HS => r_load1 Try.isAgg31 rfl (HS.rd0 hb) (hs_at _ _ _ _ i hp (by omega))) rfl ?_
    refine d_take (i := 11) rfl (by kernel_rfl) (fun _ _ _ h => h) (H.sub (List.nil_sublist _)) (fun _ _ => r_move rfl) rfl ?_
    refine d_take (i := 12) rfl (by kernel_rfl) (fun _ _ _ h => h) (H.sub (List.nil_sublist _)) (fun _ _ => r_move rfl) rfl ?_
    refine d_take (i := 13) rfl (by kernel_rfl) (fun _ _ _ h => h) (H.sub (List.nil_sublist _)) (fun _ _ => r_indexAddrS Try.runUnderlying35 Try.sizeOf41 rfl rfl (by omega) (by omega)) rfl ?_
    refine d_take (i := 14) rfl (by kernel_rfl) (fun _ _ _ h => h) (H.sub (List.nil_sublist _)) (fun _ _ => r_fieldAddr (k := 2) Try.runUnderlying41 rfl Try.sizeOf23 (by decide) rfl rfl) rfl ?_
    refine d_take (i := 15) rfl (by kernel_rfl) (fun _ _ _ h => h) (H.sub (List.nil_sublist _)) (fun _ HS => r_loadn Try.isAgg23 Try.sizeOf23 rfl (HS.rd0 hb) (hs_seedA _ _ _ i hp (by omega) (by omega)) (by first | exact (kC_length _) | exact (hC_length _) | exact rfl)) rfl ?_
    refine d_take (i := 16) rfl (by kernel_rfl) (fun _ _ _ h => h) (H.sub (List.nil_sublist _)) (fun _ _ => r_buildS Try.runUnderlying51 Try.zeroValue51 places51 (pc rfl (pc rfl (pc rfl pn))) (by first | exact (hfill _ _ _) | exact (hfill1 _))) rfl ?_
    refine d_all1 (i := 17) (by kernel_rfl) ?_
    refine b_new rfl go_none (m_bslice1 H Try.runUnderlying33 Try.sizeOf51 Try.zeroValue51 (by omega) (by omega) rfl rfl (hC_length _)) rfl (fun _ _ H => (H.sub (.cons _ (List.nil_sublist _)))) ?_
    intro w b28 H
    refine d_all1 (i := 18) (by kernel_rfl) ?_
    refine b_any rfl go_none (m_append_row (L1 := [_]) (N := N) H hN Try.runUnderlying33 Try.runUnderlying33 (fun _ h => nomatch h) Try.sizeOf51 Try.zeroValue51 rfl Try.typeInfo51 (by rw [bytes51]; omega) (by omega) (by rw [bytes51]; omega) (ec rfl (ec rfl en)) (Src.slice (H.at 0 rfl) (hC_td _) (hC_length _) (hC_one _))) rfl (by rintro v w ⟨a', cap', N', rfl, hN', H⟩; exact (H.sub (.cons _ (List.nil_sublist _)))) ?_
    rintro v w ⟨a', cap', N', rfl, hN', H⟩
    skip
    refine d_take (i := 19) rfl (by kernel_rfl) (fun _ _ _ h => h) (H.sub (.cons _ (List.nil_sublist _))) (fun _ _ => r_assign rfl) rfl ?_
    refine d_done (l' := [_, _, _, _, _, _, _, _, _, _, _, _, _, _, _, _, _, _, _, _, _, _, _, _, _, _, _, _, _, _, _]) (by kernel_rfl) rfl ?_
    refine x_blockNormal ?_
    refine x_thenNormal ?_
    refine c_region (n := 31) ⟨rfl, rfl⟩ ?_
    refine s_val (r_move rfl) ?_
    refine s_val (r_add rfl rfl (w_i64 (by omega) (by omega))) ?_
    refine s_val (r_assign rfl) ?_
    refine c_nil0 (l' := [_, _, _, _, _, _, _, _, _, _, _, _, _, _, _, _, _, _, _, _, _, _, _, _, _, _, _, _, _, _, _]) rfl ?_
    replace H := H.sub (.cons _ (List.Sublist.refl _))
    exact ⟨i + 1, _, rfl, ⟨_, _, _, _, _, _, _, _, _, _, _, _, _, _, _, _, _, _, _, _, _, _, _, _, _, _, _, _, rfl, by omega, by rw [hs_take (by omega)]; exact hN', H⟩, by omega⟩
  · skip
    obtain rfl : i = xs.length := by omega
    rw [List.take_length] at hN
    refine wp_exit (x_thenExit (x_thenExit (x_blockHit ?_)))
    refine x_thenNormal ?_
    refine c_rseq (n := 31) ⟨rfl, rfl⟩ ?_
    refine s_val (r_move rfl) ?_
    refine s_val (r_assign rfl) ?_
    refine c_nil (l' := [_, _, _, _, _, _, _, _, _, _, _, _, _, _, _, _, _, _, _, _, _, _, _, _, _, _, _, _, _, _, _]) rfl ?_
    refine wp_ret ?_
    refine e_ret (res1 rfl rfl) ⟨_, rfl, ?_⟩
    exact ⟨_, _, _, rfl, hN, H⟩

set_option maxHeartbeats 4000000 in
theorem same6_spec (a a2 : Option Addr) (cap cap2 : Nat) (xs ys : List Held) (hl : xs.length ≤ 1000000) (w0 : World) (hr : HRow w0 a xs) (hr2 : HRow w0 a2 ys) :
    Calls Try.prog 15 #[.slice a xs.length cap, .slice a2 ys.length cap2] w0 fun e w => ∃ v, e = .returned v ∧ (v = .bool (decide (xs = ys)) ∧ St w0 [] w []) := by
  have H := St.refl w0
  refine c_enter (args := [.slice a xs.length cap, .slice a2 ys.length cap2]) (l := [.slice a xs.length cap, .slice a2 ys.length cap2, undef, undef, undef, undef, undef, undef, undef, undef, undef, undef, undef, undef, undef, undef, undef, undef, undef, undef, undef, undef, undef, undef, undef, undef]) Try.func15 Try.ntmps15 rfl rfl ?_
  refine c_rseq (n := 26) ⟨rfl, rfl⟩ ?_
  refine s_val (r_assign rfl) ?_
  refine c_nil (l' := [_, _, _, _, _, _, _, _, _, _, _, _, _, _, _, _, _, _, _, _, _, _, _, _, _, _]) rfl ?_
  refine c_seq ?_
  refine c_rseq (n := 26) ⟨rfl, rfl⟩ ?_
  refine s_val (r_move rfl) ?_
  refine s_val (r_lens Try.runUnderlying33 (ec rfl en)) ?_
  refine s_val (r_move rfl) ?_
  refine s_val (r_lens Try.runUnderlying33 (ec rfl en)) ?_
  refine s_val (r_neq rfl rfl) ?_
  refine c_nil (l' := [_, _, _, _, _, _, _, _, _, _, _, _, _, _, _, _, _, _, _, _, _, _, _, _, _, _]) rfl ?_
  refine c_if rfl (fun h10 => ?_) (fun h10 => ?_)
  · skip
    refine c_rseq (n := 26) ⟨rfl, rfl⟩ ?_
    refine s_val (r_assign rfl) ?_
    refine c_nil (l' := [_, _, _, _, _, _, _, _, _, _, _, _, _, _, _, _, _, _, _, _, _, _, _, _, _, _]) rfl ?_
    refine wp_ret (x_thenRet ?_)
    refine e_ret (res1 rfl rfl) ⟨_, rfl, ?_⟩
    exact ⟨by rw [decide_eq_false (fun e => by rw [e] at h10; exact h10 rfl)], H⟩
  · skip
    refine wp_skip ?_
    refine x_thenNormal ?_
    refine c_seq ?_
    refine c_rseq (n := 26) ⟨rfl, rfl⟩ ?_
    refine s_val (r_assign rfl) ?_
    refine c_nil (l' := [_, _, _, _, _, _, _, _, _, _, _, _, _, _, _, _, _, _, _, _, _, _, _, _, _, _]) rfl ?_
    refine wp_block ?_
    refine c_loop (fun (l0 : List Value) (i : Nat) (l : List Value) (w : World) => ∃ (u4 u11 u12 u13 u14 u15 u16 u17 u18 u19 u20 u21 u22 u23 u24 u25 : Value) , l = ovr l0 [N_, N_, N_, N_, Y_ u4, Y_ (.int .i64 i), N_, N_, N_, N_, N_, Y_ u11, Y_ u12, Y_ u13, Y_ u14, Y_ u15, Y_ u16, Y_ u17, Y_ u18, Y_ u19, Y_ u20, Y_ u21, Y_ u22, Y_ u23, Y_ u24, Y_ u25] ∧ i ≤ xs.length ∧ xs.take i = ys.take i ∧ St w0 [] w []) (fun (i : Nat) => xs.length - i) 0 ⟨_, _, _, _, _, _, _, _, _, _, _, _, _, _, _, _, rfl, by omega, rfl, H⟩ ?_
    intro i l w ⟨u4, u11, u12, u13, u14, u15, u16, u17, u18, u19, u20, u21, u22, u23, u24, u25, hl, hi, hs, H⟩
    obtain rfl := hl.trans (rfl : _ = [_, _, _, _, _, _, _, _, _, _, _, _, _, _, _, _, _, _, _, _, _, _, _, _, _, _])
    clear hl
    refine c_seq ?_
    refine c_rseq (n := 26) ⟨rfl, rfl⟩ ?_
    refine s_val (r_move rfl) ?_
    refine s_val (r_move rfl) ?_
    refine s_val (r_lens Try.runUnderlying33 (ec rfl en)) ?_
    refine s_val (r_lss rfl rfl) ?_
    refine c_nil (l' := [_, _, _, _, _, _, _, _, _, _, _, _, _, _, _, _, _, _, _, _, _, _, _, _, _, _]) rfl ?_
    refine c_if rfl (fun h14 => ?_) (fun h14 => ?_)
    · skip
      obtain ⟨bx, ox, prex, postx, Tx, fx, rfl, hbx, hpx⟩ := hr (by omega)
      obtain ⟨by_, oy, prey, posty, Ty, fy, rfl, hby, hpy⟩ := hr2 (by omega)
      refine wp_skip ?_
      refine x_thenNormal ?_
      refine c_seq ?_
      refine wp_block ?_
      refine c_seq ?_
      refine d_begin (sz := 26) ⟨rfl, rfl⟩ (by kernel_rfl) H (H) rfl ?_
      intro w H
      refine d_take (i := 0) rfl (by kernel_rfl) (fun _ _ _ h => h) H (fun _ _ => r_move rfl) rfl ?_
      refine d_take (i := 1) rfl (by kernel_rfl) (fun _ _ _ h => h) H (fun _ _ => r_move rfl) rfl ?_
      refine d_take (i := 2) rfl (by kernel_rfl) (fun _ _ _ h => h) H (fun _ _ => r_indexAddrS Try.runUnderlying33 Try.sizeOf51 rfl rfl (by omega) (by omega)) rfl ?_
      refine d_take (i := 3) rfl (by kernel_rfl) (fun _ _ _ h => h) H (fun _ HS => r_loadn Try.isAgg51 Try.sizeOf51 rfl (HS.rd0 hbx) (hs_tdn _ _ _ _ i hpx (by omega)) (by first | exact (kC_length _) | exact (hC_length _) | exact rfl)) rfl ?_
      refine d_take (i := 4) rfl (by kernel_rfl) (fun _ _ _ h => h) H (fun _ _ => r_move rfl) rfl ?_
      refine d_take (i := 5) rfl (by kernel_rfl) (fun _ _ _ h => h) H (fun _ _ => r_move rfl) rfl ?_
      refine d_take (i := 6) rfl (by kernel_rfl) (fun _ _ _ h => h) H (fun _ _ => r_indexAddrS Try.runUnderlying33 Try.sizeOf51 rfl rfl (by omega) (by omega)) rfl ?_
      refine d_take (i := 7) rfl (by kernel_rfl) (fun _ _ _ h => h) H (fun _ HS => r_loadn Try.isAgg51 Try.sizeOf51 rfl (HS.rd0 hby) (hs_tdn _ _ _ _ i hpy (by omega)) (by first | exact (kC_length _) | exact (hC_length _) | exact rfl)) rfl ?_
      refine d_take (i := 8) rfl (by kernel_rfl) (fun _ _ _ h => h) H (fun _ _ => r_neqN nodeT51 rfl rfl) rfl ?_
      refine d_done (l' := [_, _, _, _, _, _, _, _, _, _, _, _, _, _, _, _, _, _, _, _, _, _, _, _, _, _]) (by kernel_rfl) rfl ?_
      refine x_thenNormal ?_
      refine c_if rfl (fun h25 => ?_) (fun h25 => ?_)
      · skip
        refine c_rseq (n := 26) ⟨rfl, rfl⟩ ?_
        refine s_val (r_assign rfl) ?_
        refine c_nil (l' := [_, _, _, _, _, _, _, _, _, _, _, _, _, _, _, _, _, _, _, _, _, _, _, _, _, _]) rfl ?_
        refine wp_ret (x_blockRet (x_thenRet (x_thenRet (x_blockRet (x_thenRet ?_)))))
        refine e_ret (res1 rfl rfl) ⟨_, rfl, ?_⟩
        exact ⟨by rw [decide_eq_false (fun e => by rw [e] at h25; exact h25 rfl)], H⟩
      · skip
        refine wp_skip ?_
        refine x_blockNormal ?_
        refine x_thenNormal ?_
        refine c_region (n := 26) ⟨rfl, rfl⟩ ?_
        refine s_val (r_move rfl) ?_
        refine s_val (r_add rfl rfl (w_i64 (by omega) (by omega))) ?_
        refine s_val (r_assign rfl) ?_
        refine c_nil0 (l' := [_, _, _, _, _, _, _, _, _, _, _, _, _, _, _, _, _, _, _, _, _, _, _, _, _, _]) rfl ?_
        exact ⟨i + 1, _, rfl, ⟨_, _, _, _, _, _, _, _, _, _, _, _, _, _, _, _, rfl, by omega, take_step (by omega) (by omega) hs (by simpa using h25), H⟩, by omega⟩
    · skip
      refine wp_exit (x_thenExit (x_thenExit (x_blockHit ?_)))
      refine x_thenNormal ?_
      refine c_rseq (n := 26) ⟨rfl, rfl⟩ ?_
      refine s_val (r_assign rfl) ?_
      refine c_nil (l' := [_, _, _, _, _, _, _, _, _, _, _, _, _, _, _, _, _, _, _, _, _, _, _, _, _, _]) rfl ?_
      refine wp_ret ?_
      refine e_ret (res1 rfl rfl) ⟨_, rfl, ?_⟩
      exact ⟨by rw [decide_eq_true (by rw [List.take_of_length_le (by omega), List.take_of_length_le (by omega)] at hs; exact hs)], H⟩

end Go.Proofs.Ytblphhclfloodaa
