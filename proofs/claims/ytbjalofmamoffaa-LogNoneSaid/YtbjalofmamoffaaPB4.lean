import Derived.Test.YtbjalofmamoffaaPB3
namespace Go.Proofs.Ytbjalofmamoffaa
open Go Go.Er

set_option maxHeartbeats 4000000 in
theorem w1_spec (p : Value) (w0 : World) :
    Calls Try.prog 61 #[p] w0 fun e w => ∃ v, e = .returned v ∧ (v = .bool true ∧ St w0 [] w []) := by
  have H := St.refl w0
  refine c_enter (args := [p]) (l := [p, undef, undef]) Try.func61 Try.ntmps61 rfl rfl ?_
  refine c_rseq (n := 3) ⟨rfl, rfl⟩ ?_
  refine s_val (r_assign rfl) ?_
  refine c_nil (l' := [_,_,_]) rfl ?_
  refine c_rseq (n := 3) ⟨rfl, rfl⟩ ?_
  refine s_val (r_assign rfl) ?_
  refine c_nil (l' := [_,_,_]) rfl ?_
  refine wp_ret ?_
  refine e_ret (res1 rfl rfl) ⟨_, rfl, ?_⟩
  exact ⟨rfl, H⟩

set_option maxHeartbeats 4000000 in
theorem put_m {ba bb : Nat} (bm : Nat) (C : List Sec) (q : Nat) (N : List (Nat × Obj)) (hq : q ≤ 90000) (n : Int) (s : Sec) (hn0 : 0 ≤ n) (hn1 : n < (C.length : Int)) (w0 : World) (hm : MirN 150 51 89 72 ba bb bm C q N) (hown : Go.Er.Own w0 N) :
    Calls Try.prog 60 #[.pointer (some ⟨bm, 0, none⟩), .int .i64 n, .agg (kC s).toArray, .func (.func 61) #[] #[]] w0 fun e w => ∃ v, e = .returned v ∧ (v = .int .i64 0 ∧ ∃ N', MirN 150 51 89 72 ba bb bm (C.set n.toNat s) (q + 1) N' ∧ St w0 (N.map (·.1)) w N') := by
  obtain ⟨XN, hXN⟩ : ∃ X, X = N.map (·.1) := ⟨_, rfl⟩
  have H : St w0 XN w0 N := by rw [hXN]; exact hown.st
  have hm2 := hm
  obtain ⟨ma, mb, bg, cs, bp, lf, ac, nc, cc, T, Tp, Na, Nb, rfl, hA, hB, hcl⟩ := hm2
  refine c_enter (args := [.pointer (some ⟨bm, 0, none⟩), .int .i64 n, .agg (kC s).toArray, .func (.func 61) #[] #[]]) (l := [.pointer (some ⟨bm, 0, none⟩), .int .i64 n, .agg (kC s).toArray, .func (.func 61) #[] #[], undef, undef, undef, undef, undef, undef, undef, undef, undef, undef, undef, undef, undef, undef, undef, undef, undef, undef, undef, undef, undef, undef, undef, undef, undef, undef, undef, undef, undef, undef, undef, undef, undef, undef, undef, undef, undef, undef, undef, undef, undef, undef, undef, undef, undef, undef, undef, undef, undef, undef, undef, undef, undef, undef, undef, undef, undef, undef, undef, undef, undef, undef, undef, undef, undef, undef, undef, undef, undef, undef, undef, undef, undef]) Try.func60 Try.ntmps60 rfl rfl ?_
  refine c_rseq (n := 77) ⟨rfl, rfl⟩ ?_
  refine s_new (m_box (cs := (kC s)) H rfl rfl) ?_
  intro w b6 H
  refine s_val (r_assign rfl) ?_
  refine c_nil (l' := [_,_,_,_,_,_,_,_,_,_,_,_,_,_,_,_,_,_,_,_,_,_,_,_,_,_,_,_,_,_,_,_,_,_,_,_,_,_,_,_,_,_,_,_,_,_,_,_,_,_,_,_,_,_,_,_,_,_,_,_,_,_,_,_,_,_,_,_,_,_,_,_,_,_,_,_,_]) rfl ?_
  refine c_seq ?_
  refine c_rseq (n := 77) ⟨rfl, rfl⟩ ?_
  refine s_val (r_move rfl) ?_
  refine s_val (r_move rfl) ?_
  refine s_call (r_call Try.call62 (ec rfl (ec rfl en))) (has_spec bm C n _ (hm.rdM (by omega) H (fun p hp => List.mem_cons_of_mem _ hp))) ?_
  rintro v w ⟨rfl, HC⟩
  rw [decide_eq_true (show 0 ≤ n ∧ n < (C.length : Int) from ⟨hn0, hn1⟩)]
  replace H := H.quiet HC
  refine s_val (r_not rfl) ?_
  refine c_nil (l' := [_,_,_,_,_,_,_,_,_,_,_,_,_,_,_,_,_,_,_,_,_,_,_,_,_,_,_,_,_,_,_,_,_,_,_,_,_,_,_,_,_,_,_,_,_,_,_,_,_,_,_,_,_,_,_,_,_,_,_,_,_,_,_,_,_,_,_,_,_,_,_,_,_,_,_,_,_]) rfl ?_
  refine c_iff rfl ?_
  refine wp_skip ?_
  refine x_thenNormal ?_
  refine c_rseq (n := 77) ⟨rfl, rfl⟩ ?_
  refine s_new (m_alloc (cs := (dnC 0)) H Try.zeroValue152 rfl) ?_
  intro w b9 H
  refine c_nil (l' := [_,_,_,_,_,_,_,_,_,_,_,_,_,_,_,_,_,_,_,_,_,_,_,_,_,_,_,_,_,_,_,_,_,_,_,_,_,_,_,_,_,_,_,_,_,_,_,_,_,_,_,_,_,_,_,_,_,_,_,_,_,_,_,_,_,_,_,_,_,_,_,_,_,_,_,_,_]) rfl ?_
  refine c_seq ?_
  refine c_rseq (n := 77) ⟨rfl, rfl⟩ ?_
  refine s_val (r_move rfl) ?_
  refine c_nil (l' := [_,_,_,_,_,_,_,_,_,_,_,_,_,_,_,_,_,_,_,_,_,_,_,_,_,_,_,_,_,_,_,_,_,_,_,_,_,_,_,_,_,_,_,_,_,_,_,_,_,_,_,_,_,_,_,_,_,_,_,_,_,_,_,_,_,_,_,_,_,_,_,_,_,_,_,_,_]) rfl ?_
  refine wp_block ?_
  refine c_loop (fun (l0 : List Value) (i : Nat) (l : List Value) (w : World) => ∃ (u10 u11 u18 u19 u20 u21 u22 u23 u24 u25 u26 u27 u28 u29 u30 u31 u32 u33 u34 u35 u36 u37 u38 u39 u40 u41 u42 u43 u44 u45 : Value) (Na Nb : List (Nat × Obj)), l = ovr l0 [N_, N_, N_, N_, N_, N_, N_, N_, N_, N_, Y_ u10, Y_ u11, N_, N_, N_, N_, N_, Y_ (.int .i64 i), Y_ u18, Y_ u19, Y_ u20, Y_ u21, Y_ u22, Y_ u23, Y_ u24, Y_ u25, Y_ u26, Y_ u27, Y_ u28, Y_ u29, Y_ u30, Y_ u31, Y_ u32, Y_ u33, Y_ u34, Y_ u35, Y_ u36, Y_ u37, Y_ u38, Y_ u39, Y_ u40, Y_ u41, Y_ u42, Y_ u43, Y_ u44, Y_ u45] ∧ i ≤ 2 ∧ DevN 150 ba bp  (if 0 < i then (C.set n.toNat s) else C) (if 0 < i then q + 1 else q) Na ∧ DevN 150 bb bp  (if 1 < i then (C.set n.toNat s) else C) (if 1 < i then q + 1 else q) Nb ∧ St w0 XN w ((b9, .cells (dnC i).toArray 152 (0, 0)) :: (b6, .cells (kC s).toArray 97 (0, 0)) :: (bm, .cells (mC ba ma bb mb C.length (.func (.func 51) #[] #[.pointer (some ⟨bg, 0, none⟩)])).toArray T (0, 0)) :: (ma, mapZ) :: (mb, mapZ) :: (bg, .cells [.iface 72 (.agg (cs : List Value).toArray)].toArray 89 (0, 0)) :: (bp, .cells (pC lf ac nc cc).toArray Tp (0, 0)) :: Na ++ Nb)) (fun (i : Nat) => 2 - i) 0 ⟨_,_,_,_,_,_,_,_,_,_,_,_,_,_,_,_,_,_,_,_,_,_,_,_,_,_,_,_,_,_, Na, Nb, rfl, by omega, (by rw [if_neg (by omega), if_neg (by omega)]; exact hA), (by rw [if_neg (by omega), if_neg (by omega)]; exact hB), H⟩ ?_
  intro i l w ⟨u10, u11, u18, u19, u20, u21, u22, u23, u24, u25, u26, u27, u28, u29, u30, u31, u32, u33, u34, u35, u36, u37, u38, u39, u40, u41, u42, u43, u44, u45, Na, Nb, hl, hi, hA, hB, H⟩
  obtain rfl := hl.trans (rfl : _ = [_,_,_,_,_,_,_,_,_,_,_,_,_,_,_,_,_,_,_,_,_,_,_,_,_,_,_,_,_,_,_,_,_,_,_,_,_,_,_,_,_,_,_,_,_,_,_,_,_,_,_,_,_,_,_,_,_,_,_,_,_,_,_,_,_,_,_,_,_,_,_,_,_,_,_,_,_])
  clear hl
  refine c_rseq (n := 77) ⟨rfl, rfl⟩ ?_
  refine s_val (r_lss rfl rfl) ?_
  refine c_nil (l' := [_,_,_,_,_,_,_,_,_,_,_,_,_,_,_,_,_,_,_,_,_,_,_,_,_,_,_,_,_,_,_,_,_,_,_,_,_,_,_,_,_,_,_,_,_,_,_,_,_,_,_,_,_,_,_,_,_,_,_,_,_,_,_,_,_,_,_,_,_,_,_,_,_,_,_,_,_]) rfl ?_
  refine c_seq ?_
  refine c_if rfl (fun h18 => ?_) (fun h18 => ?_)
  · skip
    obtain rfl | rfl : i = 0 ∨ i = 1 := by omega
    · skip
      rw [if_neg (by omega), if_neg (by omega)] at hA
      rw [if_neg (by omega), if_neg (by omega)] at hB
      refine wp_skip ?_
      refine x_thenNormal ?_
      refine c_seq ?_
      refine wp_block ?_
      refine c_rseq (n := 77) ⟨rfl, rfl⟩ ?_
      refine s_val (r_move rfl) ?_
      refine s_val (r_assign rfl) ?_
      refine c_nil (l' := [_,_,_,_,_,_,_,_,_,_,_,_,_,_,_,_,_,_,_,_,_,_,_,_,_,_,_,_,_,_,_,_,_,_,_,_,_,_,_,_,_,_,_,_,_,_,_,_,_,_,_,_,_,_,_,_,_,_,_,_,_,_,_,_,_,_,_,_,_,_,_,_,_,_,_,_,_]) rfl ?_
      refine c_rseq (n := 77) ⟨rfl, rfl⟩ ?_
      refine s_val (r_move rfl) ?_
      refine s_val (r_move rfl) ?_
      refine s_val (r_nilCheck rfl) ?_
      refine s_val (r_fieldAddr (k := 0) Try.runUnderlying119 rfl Try.sizeOf117 (by decide) rfl rfl) ?_
      refine s_val (r_indexAddrA Try.runUnderlying117 Try.sizeOf116 rfl rfl (by omega) (by omega)) ?_
      refine s_val (r_assign rfl) ?_
      refine c_nil (l' := [_,_,_,_,_,_,_,_,_,_,_,_,_,_,_,_,_,_,_,_,_,_,_,_,_,_,_,_,_,_,_,_,_,_,_,_,_,_,_,_,_,_,_,_,_,_,_,_,_,_,_,_,_,_,_,_,_,_,_,_,_,_,_,_,_,_,_,_,_,_,_,_,_,_,_,_,_]) rfl ?_
      refine c_rseq (n := 77) ⟨rfl, rfl⟩ ?_
      refine s_val (r_move rfl) ?_
      refine s_val (r_nilCheck rfl) ?_
      refine s_val (r_loadn Try.isAgg116 Try.sizeOf116 rfl (H.at 2 rfl) (mC_side (i := 0) (by omega) (by omega)) (by first | exact (kC_length _) | exact (hC_length _) | exact (shC_length _ _) | exact (wC_length _) | exact (sdC_length _ _) | exact rfl)) ?_
      refine s_call (r_call Try.call50 (ec rfl en)) (there_spec _ _ C _ (hA.rdM (by omega) H (List.mem_cons_of_mem _ (List.mem_cons_of_mem _ (List.mem_cons_of_mem _ (List.mem_cons_of_mem _ (List.mem_cons_of_mem _ (List.mem_cons_of_mem _ List.mem_cons_self)))))) (fun p hp => by simp [hp]))) ?_
      rintro v w ⟨rfl, HC⟩
      replace H := H.quiet HC
      refine c_nil (l' := [_,_,_,_,_,_,_,_,_,_,_,_,_,_,_,_,_,_,_,_,_,_,_,_,_,_,_,_,_,_,_,_,_,_,_,_,_,_,_,_,_,_,_,_,_,_,_,_,_,_,_,_,_,_,_,_,_,_,_,_,_,_,_,_,_,_,_,_,_,_,_,_,_,_,_,_,_]) rfl ?_
      refine c_ift rfl ?_
      refine d_begin (sz := 77) ⟨rfl, rfl⟩ (by kernel_rfl) H (H.sub (.cons _ (.cons_cons _ (.cons_cons _ (.cons_cons _ (.cons_cons _ (.cons_cons _ (.cons_cons _ (List.nil_sublist _))))))))) rfl ?_
      intro w H
      refine d_take (i := 0) rfl (by kernel_rfl) (fun _ _ _ h => h) (H.sub (.cons _ (.cons_cons _ (.cons_cons _ (.cons_cons _ (.cons_cons _ (.cons_cons _ (.cons_cons _ (List.nil_sublist _))))))))) (fun _ _ => r_move rfl) rfl ?_
      refine d_take (i := 1) rfl (by kernel_rfl) (fun _ _ _ h => h) (H.sub (.cons _ (.cons_cons _ (.cons_cons _ (.cons_cons _ (.cons_cons _ (.cons_cons _ (.cons_cons _ (List.nil_sublist _))))))))) (fun _ _ => r_move rfl) rfl ?_
      refine d_take (i := 2) rfl (by kernel_rfl) (fun _ _ _ h => h) (H.sub (.cons _ (.cons_cons _ (.cons_cons _ (.cons_cons _ (.cons_cons _ (.cons_cons _ (.cons_cons _ (List.nil_sublist _))))))))) (fun _ _ => r_move rfl) rfl ?_
      refine d_all1 (i := 3) (by kernel_rfl) ?_
      refine b_call rfl go_none (r_callv Try.call61 rfl (ec rfl en) rfl) (w1_spec _ _) rfl ?_
      rintro v w ⟨rfl, HC⟩
      replace H := H.quiet HC
      refine ⟨(H.sub (.cons _ (.cons_cons _ (.cons_cons _ (.cons_cons _ (.cons_cons _ (.cons_cons _ (.cons_cons _ (List.nil_sublist _))))))))), ?_⟩
      refine d_take (i := 4) rfl (by kernel_rfl) (fun _ _ _ h => h) (H.sub (.cons _ (.cons_cons _ (.cons_cons _ (.cons_cons _ (.cons_cons _ (.cons_cons _ (.cons_cons _ (List.nil_sublist _))))))))) (fun _ _ => r_not rfl) rfl ?_
      refine d_take (i := 5) rfl (by kernel_rfl) (fun _ _ _ h => h) (H.sub (.cons _ (.cons_cons _ (.cons_cons _ (.cons_cons _ (.cons_cons _ (.cons_cons _ (.cons_cons _ (List.nil_sublist _))))))))) (fun _ _ => r_move rfl) rfl ?_
      refine d_takeG (i := 6) rfl (by kernel_rfl) (fun _ _ _ h => h) rfl rfl (H.sub (.cons _ (.cons_cons _ (.cons_cons _ (.cons_cons _ (.cons_cons _ (.cons_cons _ (.cons_cons _ (List.nil_sublist _))))))))) (fun _ _ => r_move rfl) rfl ?_
      refine d_takeG (i := 7) rfl (by kernel_rfl) (fun _ _ _ h => h) rfl rfl (H.sub (.cons _ (.cons_cons _ (.cons_cons _ (.cons_cons _ (.cons_cons _ (.cons_cons _ (.cons_cons _ (List.nil_sublist _))))))))) (fun _ _ => r_nilCheck rfl) rfl ?_
      refine d_takeG (i := 8) rfl (by kernel_rfl) (fun _ _ _ h => h) rfl rfl (H.sub (.cons _ (.cons_cons _ (.cons_cons _ (.cons_cons _ (.cons_cons _ (.cons_cons _ (.cons_cons _ (List.nil_sublist _))))))))) (fun _ _ => r_fieldAddr (k := 0) Try.runUnderlying116 rfl Try.sizeOf26 (by decide) rfl rfl) rfl ?_
      refine d_takeG (i := 9) rfl (by kernel_rfl) (fun _ _ _ h => h) rfl rfl (H.sub (.cons _ (.cons_cons _ (.cons_cons _ (.cons_cons _ (.cons_cons _ (.cons_cons _ (.cons_cons _ (List.nil_sublist _))))))))) (fun _ HS => r_load1 Try.isAgg26 rfl (HS.at 1 rfl) rfl) rfl ?_
      refine d_takeG (i := 10) rfl (by kernel_rfl) (fun _ _ _ h => h) rfl rfl (H.sub (.cons _ (.cons_cons _ (.cons_cons _ (.cons_cons _ (.cons_cons _ (.cons_cons _ (.cons_cons _ (List.nil_sublist _))))))))) (fun _ _ => r_move rfl) rfl ?_
      refine d_takeG (i := 11) rfl (by kernel_rfl) (fun _ _ _ h => h) rfl rfl (H.sub (.cons _ (.cons_cons _ (.cons_cons _ (.cons_cons _ (.cons_cons _ (.cons_cons _ (.cons_cons _ (List.nil_sublist _))))))))) (fun _ HS => r_loadn Try.isAgg97 Try.sizeOf97 rfl (HS.at 0 rfl) (by first | exact (kC_td _) | exact (hC_td _) | exact (hC_seed _) | exact (shC_td _ _) | exact (sdC_td _ _)) (by first | exact (kC_length _) | exact (hC_length _) | exact (shC_length _ _) | exact (wC_length _) | exact (sdC_length _ _) | exact rfl)) rfl ?_
      refine d_all1 (i := 12) (by kernel_rfl) ?_
      refine b_call rfl (go_some rfl rfl) (r_call Try.call75 (ec rfl (ec rfl (ec rfl en)))) (dwrite_spec _ bp C q _ lf ac nc cc Tp (0, 0) (by omega) n s hn0 hn1 _ hA (H.ownsM (.cons _ (.cons _ (.cons _ (.cons _ (.cons _ (.cons _ (.cons_cons _ (List.sublist_append_left _ _)))))))))) rfl ?_
      rintro v w ⟨rfl, N2, hA2, HC⟩
      replace H := St.dev1 (A := [_,_,_,_,_,_]) H HC
      refine ⟨(H.sub (.cons _ (.cons_cons _ (.cons_cons _ (.cons_cons _ (.cons_cons _ (.cons_cons _ (.cons_cons _ (List.nil_sublist _))))))))), ?_⟩
      refine d_takeG (i := 13) rfl (by kernel_rfl) (fun _ _ _ h => h) rfl rfl (H.sub (.cons _ (.cons_cons _ (.cons_cons _ (.cons_cons _ (.cons_cons _ (.cons_cons _ (.cons_cons _ (List.nil_sublist _))))))))) (fun _ _ => r_eql rfl rfl) rfl ?_
      refine d_take (i := 14) rfl (by kernel_rfl) (fun _ _ _ h => h) (H.sub (.cons _ (.cons_cons _ (.cons_cons _ (.cons_cons _ (.cons_cons _ (.cons_cons _ (.cons_cons _ (List.nil_sublist _))))))))) (fun _ _ => r_pickf rfl rfl) rfl ?_
      refine d_take (i := 15) rfl (by kernel_rfl) (fun _ _ _ h => h) (H.sub (.cons _ (.cons_cons _ (.cons_cons _ (.cons_cons _ (.cons_cons _ (.cons_cons _ (.cons_cons _ (List.nil_sublist _))))))))) (fun _ _ => r_indexAddrA Try.runUnderlying152 Try.sizeOf4 rfl rfl (by omega) (by omega)) rfl ?_
      refine d_all1 (i := 16) (by kernel_rfl) ?_
      refine b_st rfl go_none (m_store1 H 0 Try.sizeOf4 rfl rfl rfl rfl (by show _ < 2; omega) rfl) (L' := (_ :: _ :: _ :: _ :: _ :: _ :: _ :: _)) rfl rfl (fun _ H => (H.sub (.cons _ (.cons_cons _ (.cons_cons _ (.cons_cons _ (.cons_cons _ (.cons_cons _ (.cons_cons _ (List.nil_sublist _)))))))))) ?_
      intro w H
      refine d_done (l' := [_,_,_,_,_,_,_,_,_,_,_,_,_,_,_,_,_,_,_,_,_,_,_,_,_,_,_,_,_,_,_,_,_,_,_,_,_,_,_,_,_,_,_,_,_,_,_,_,_,_,_,_,_,_,_,_,_,_,_,_,_,_,_,_,_,_,_,_,_,_,_,_,_,_,_,_,_]) (by kernel_rfl) rfl ?_
      refine x_blockNormal ?_
      refine x_thenNormal ?_
      refine c_region (n := 77) ⟨rfl, rfl⟩ ?_
      refine s_val (r_add rfl rfl (w_i64 (by omega) (by omega))) ?_
      refine s_val (r_move rfl) ?_
      refine c_nil0 (l' := [_,_,_,_,_,_,_,_,_,_,_,_,_,_,_,_,_,_,_,_,_,_,_,_,_,_,_,_,_,_,_,_,_,_,_,_,_,_,_,_,_,_,_,_,_,_,_,_,_,_,_,_,_,_,_,_,_,_,_,_,_,_,_,_,_,_,_,_,_,_,_,_,_,_,_,_,_]) rfl ?_
      exact ⟨1, _, rfl, ⟨_,_,_,_,_,_,_,_,_,_,_,_,_,_,_,_,_,_,_,_,_,_,_,_,_,_,_,_,_,_, N2, Nb, rfl, by omega, (by rw [if_pos (by omega), if_pos (by omega)]; exact hA2), (by rw [if_neg (by omega), if_neg (by omega)]; exact hB), H⟩, by omega⟩
    · skip
      rw [if_pos (by omega), if_pos (by omega)] at hA
      rw [if_neg (by omega), if_neg (by omega)] at hB
      refine wp_skip ?_
      refine x_thenNormal ?_
      refine c_seq ?_
      refine wp_block ?_
      refine c_rseq (n := 77) ⟨rfl, rfl⟩ ?_
      refine s_val (r_move rfl) ?_
      refine s_val (r_assign rfl) ?_
      refine c_nil (l' := [_,_,_,_,_,_,_,_,_,_,_,_,_,_,_,_,_,_,_,_,_,_,_,_,_,_,_,_,_,_,_,_,_,_,_,_,_,_,_,_,_,_,_,_,_,_,_,_,_,_,_,_,_,_,_,_,_,_,_,_,_,_,_,_,_,_,_,_,_,_,_,_,_,_,_,_,_]) rfl ?_
      refine c_rseq (n := 77) ⟨rfl, rfl⟩ ?_
      refine s_val (r_move rfl) ?_
      refine s_val (r_move rfl) ?_
      refine s_val (r_nilCheck rfl) ?_
      refine s_val (r_fieldAddr (k := 0) Try.runUnderlying119 rfl Try.sizeOf117 (by decide) rfl rfl) ?_
      refine s_val (r_indexAddrA Try.runUnderlying117 Try.sizeOf116 rfl rfl (by omega) (by omega)) ?_
      refine s_val (r_assign rfl) ?_
      refine c_nil (l' := [_,_,_,_,_,_,_,_,_,_,_,_,_,_,_,_,_,_,_,_,_,_,_,_,_,_,_,_,_,_,_,_,_,_,_,_,_,_,_,_,_,_,_,_,_,_,_,_,_,_,_,_,_,_,_,_,_,_,_,_,_,_,_,_,_,_,_,_,_,_,_,_,_,_,_,_,_]) rfl ?_
      refine c_rseq (n := 77) ⟨rfl, rfl⟩ ?_
      refine s_val (r_move rfl) ?_
      refine s_val (r_nilCheck rfl) ?_
      refine s_val (r_loadn Try.isAgg116 Try.sizeOf116 rfl (H.at 2 rfl) (mC_side (i := 1) (by omega) (by omega)) (by first | exact (kC_length _) | exact (hC_length _) | exact (shC_length _ _) | exact (wC_length _) | exact (sdC_length _ _) | exact rfl)) ?_
      refine s_call (r_call Try.call50 (ec rfl en)) (there_spec _ _ C _ (hB.rdM (by omega) H (List.mem_cons_of_mem _ (List.mem_cons_of_mem _ (List.mem_cons_of_mem _ (List.mem_cons_of_mem _ (List.mem_cons_of_mem _ (List.mem_cons_of_mem _ List.mem_cons_self)))))) (fun p hp => by simp [hp]))) ?_
      rintro v w ⟨rfl, HC⟩
      replace H := H.quiet HC
      refine c_nil (l' := [_,_,_,_,_,_,_,_,_,_,_,_,_,_,_,_,_,_,_,_,_,_,_,_,_,_,_,_,_,_,_,_,_,_,_,_,_,_,_,_,_,_,_,_,_,_,_,_,_,_,_,_,_,_,_,_,_,_,_,_,_,_,_,_,_,_,_,_,_,_,_,_,_,_,_,_,_]) rfl ?_
      refine c_ift rfl ?_
      refine d_begin (sz := 77) ⟨rfl, rfl⟩ (by kernel_rfl) H (H.sub (.cons _ (.cons_cons _ (.cons_cons _ (.cons_cons _ (.cons_cons _ (.cons_cons _ (.cons_cons _ (List.nil_sublist _))))))))) rfl ?_
      intro w H
      refine d_take (i := 0) rfl (by kernel_rfl) (fun _ _ _ h => h) (H.sub (.cons _ (.cons_cons _ (.cons_cons _ (.cons_cons _ (.cons_cons _ (.cons_cons _ (.cons_cons _ (List.nil_sublist _))))))))) (fun _ _ => r_move rfl) rfl ?_
      refine d_take (i := 1) rfl (by kernel_rfl) (fun _ _ _ h => h) (H.sub (.cons _ (.cons_cons _ (.cons_cons _ (.cons_cons _ (.cons_cons _ (.cons_cons _ (.cons_cons _ (List.nil_sublist _))))))))) (fun _ _ => r_move rfl) rfl ?_
      refine d_take (i := 2) rfl (by kernel_rfl) (fun _ _ _ h => h) (H.sub (.cons _ (.cons_cons _ (.cons_cons _ (.cons_cons _ (.cons_cons _ (.cons_cons _ (.cons_cons _ (List.nil_sublist _))))))))) (fun _ _ => r_move rfl) rfl ?_
      refine d_all1 (i := 3) (by kernel_rfl) ?_
      refine b_call rfl go_none (r_callv Try.call61 rfl (ec rfl en) rfl) (w1_spec _ _) rfl ?_
      rintro v w ⟨rfl, HC⟩
      replace H := H.quiet HC
      refine ⟨(H.sub (.cons _ (.cons_cons _ (.cons_cons _ (.cons_cons _ (.cons_cons _ (.cons_cons _ (.cons_cons _ (List.nil_sublist _))))))))), ?_⟩
      refine d_take (i := 4) rfl (by kernel_rfl) (fun _ _ _ h => h) (H.sub (.cons _ (.cons_cons _ (.cons_cons _ (.cons_cons _ (.cons_cons _ (.cons_cons _ (.cons_cons _ (List.nil_sublist _))))))))) (fun _ _ => r_not rfl) rfl ?_
      refine d_take (i := 5) rfl (by kernel_rfl) (fun _ _ _ h => h) (H.sub (.cons _ (.cons_cons _ (.cons_cons _ (.cons_cons _ (.cons_cons _ (.cons_cons _ (.cons_cons _ (List.nil_sublist _))))))))) (fun _ _ => r_move rfl) rfl ?_
      refine d_takeG (i := 6) rfl (by kernel_rfl) (fun _ _ _ h => h) rfl rfl (H.sub (.cons _ (.cons_cons _ (.cons_cons _ (.cons_cons _ (.cons_cons _ (.cons_cons _ (.cons_cons _ (List.nil_sublist _))))))))) (fun _ _ => r_move rfl) rfl ?_
      refine d_takeG (i := 7) rfl (by kernel_rfl) (fun _ _ _ h => h) rfl rfl (H.sub (.cons _ (.cons_cons _ (.cons_cons _ (.cons_cons _ (.cons_cons _ (.cons_cons _ (.cons_cons _ (List.nil_sublist _))))))))) (fun _ _ => r_nilCheck rfl) rfl ?_
      refine d_takeG (i := 8) rfl (by kernel_rfl) (fun _ _ _ h => h) rfl rfl (H.sub (.cons _ (.cons_cons _ (.cons_cons _ (.cons_cons _ (.cons_cons _ (.cons_cons _ (.cons_cons _ (List.nil_sublist _))))))))) (fun _ _ => r_fieldAddr (k := 0) Try.runUnderlying116 rfl Try.sizeOf26 (by decide) rfl rfl) rfl ?_
      refine d_takeG (i := 9) rfl (by kernel_rfl) (fun _ _ _ h => h) rfl rfl (H.sub (.cons _ (.cons_cons _ (.cons_cons _ (.cons_cons _ (.cons_cons _ (.cons_cons _ (.cons_cons _ (List.nil_sublist _))))))))) (fun _ HS => r_load1 Try.isAgg26 rfl (HS.at 1 rfl) rfl) rfl ?_
      refine d_takeG (i := 10) rfl (by kernel_rfl) (fun _ _ _ h => h) rfl rfl (H.sub (.cons _ (.cons_cons _ (.cons_cons _ (.cons_cons _ (.cons_cons _ (.cons_cons _ (.cons_cons _ (List.nil_sublist _))))))))) (fun _ _ => r_move rfl) rfl ?_
      refine d_takeG (i := 11) rfl (by kernel_rfl) (fun _ _ _ h => h) rfl rfl (H.sub (.cons _ (.cons_cons _ (.cons_cons _ (.cons_cons _ (.cons_cons _ (.cons_cons _ (.cons_cons _ (List.nil_sublist _))))))))) (fun _ HS => r_loadn Try.isAgg97 Try.sizeOf97 rfl (HS.at 0 rfl) (by first | exact (kC_td _) | exact (hC_td _) | exact (hC_seed _) | exact (shC_td _ _) | exact (sdC_td _ _)) (by first | exact (kC_length _) | exact (hC_length _) | exact (shC_length _ _) | exact (wC_length _) | exact (sdC_length _ _) | exact rfl)) rfl ?_
      refine d_all1 (i := 12) (by kernel_rfl) ?_
      refine b_call rfl (go_some rfl rfl) (r_call Try.call75 (ec rfl (ec rfl (ec rfl en)))) (dwrite_spec _ bp C q _ lf ac nc cc Tp (0, 0) (by omega) n s hn0 hn1 _ hB (H.ownsM (.cons _ (.cons _ (.cons _ (.cons _ (.cons _ (.cons _ (.cons_cons _ (List.sublist_append_right _ _)))))))))) rfl ?_
      rintro v w ⟨rfl, N2, hB2, HC⟩
      replace H := St.dev2 (A := [_,_,_,_,_,_]) H HC
      refine ⟨(H.sub (.cons _ (.cons_cons _ (.cons_cons _ (.cons_cons _ (.cons_cons _ (.cons_cons _ (.cons_cons _ (List.nil_sublist _))))))))), ?_⟩
      refine d_takeG (i := 13) rfl (by kernel_rfl) (fun _ _ _ h => h) rfl rfl (H.sub (.cons _ (.cons_cons _ (.cons_cons _ (.cons_cons _ (.cons_cons _ (.cons_cons _ (.cons_cons _ (List.nil_sublist _))))))))) (fun _ _ => r_eql rfl rfl) rfl ?_
      refine d_take (i := 14) rfl (by kernel_rfl) (fun _ _ _ h => h) (H.sub (.cons _ (.cons_cons _ (.cons_cons _ (.cons_cons _ (.cons_cons _ (.cons_cons _ (.cons_cons _ (List.nil_sublist _))))))))) (fun _ _ => r_pickf rfl rfl) rfl ?_
      refine d_take (i := 15) rfl (by kernel_rfl) (fun _ _ _ h => h) (H.sub (.cons _ (.cons_cons _ (.cons_cons _ (.cons_cons _ (.cons_cons _ (.cons_cons _ (.cons_cons _ (List.nil_sublist _))))))))) (fun _ _ => r_indexAddrA Try.runUnderlying152 Try.sizeOf4 rfl rfl (by omega) (by omega)) rfl ?_
      refine d_all1 (i := 16) (by kernel_rfl) ?_
      refine b_st rfl go_none (m_store1 H 0 Try.sizeOf4 rfl rfl rfl rfl (by show _ < 2; omega) rfl) (L' := (_ :: _ :: _ :: _ :: _ :: _ :: _ :: _)) rfl rfl (fun _ H => (H.sub (.cons _ (.cons_cons _ (.cons_cons _ (.cons_cons _ (.cons_cons _ (.cons_cons _ (.cons_cons _ (List.nil_sublist _)))))))))) ?_
      intro w H
      refine d_done (l' := [_,_,_,_,_,_,_,_,_,_,_,_,_,_,_,_,_,_,_,_,_,_,_,_,_,_,_,_,_,_,_,_,_,_,_,_,_,_,_,_,_,_,_,_,_,_,_,_,_,_,_,_,_,_,_,_,_,_,_,_,_,_,_,_,_,_,_,_,_,_,_,_,_,_,_,_,_]) (by kernel_rfl) rfl ?_
      refine x_blockNormal ?_
      refine x_thenNormal ?_
      refine c_region (n := 77) ⟨rfl, rfl⟩ ?_
      refine s_val (r_add rfl rfl (w_i64 (by omega) (by omega))) ?_
      refine s_val (r_move rfl) ?_
      refine c_nil0 (l' := [_,_,_,_,_,_,_,_,_,_,_,_,_,_,_,_,_,_,_,_,_,_,_,_,_,_,_,_,_,_,_,_,_,_,_,_,_,_,_,_,_,_,_,_,_,_,_,_,_,_,_,_,_,_,_,_,_,_,_,_,_,_,_,_,_,_,_,_,_,_,_,_,_,_,_,_,_]) rfl ?_
      exact ⟨2, _, rfl, ⟨_,_,_,_,_,_,_,_,_,_,_,_,_,_,_,_,_,_,_,_,_,_,_,_,_,_,_,_,_,_, Na, N2, rfl, by omega, (by rw [if_pos (by omega), if_pos (by omega)]; exact hA), (by rw [if_pos (by omega), if_pos (by omega)]; exact hB2), H⟩, by omega⟩
  · skip
    obtain rfl : i = 2 := by omega
    rw [if_pos (by omega), if_pos (by omega)] at hA
    rw [if_pos (by omega), if_pos (by omega)] at hB
    refine wp_exit (x_thenExit (x_thenExit (x_blockHit ?_)))
    refine x_thenNormal ?_
    refine c_seq ?_
    refine c_rseq (n := 77) ⟨rfl, rfl⟩ ?_
    refine s_val (r_indexAddrA Try.runUnderlying152 Try.sizeOf4 rfl rfl (by omega) (by omega)) ?_
    refine s_val (r_load1 Try.isAgg4 rfl (H.at 0 rfl) rfl) ?_
    refine s_val (r_not rfl) ?_
    refine s_val (r_move rfl) ?_
    refine g_no rfl rfl (by decide) ?_
    refine g_no rfl rfl (by decide) ?_
    refine g_no rfl rfl (by decide) ?_
    refine s_val (r_pickf rfl rfl) ?_
    refine c_nil (l' := [_,_,_,_,_,_,_,_,_,_,_,_,_,_,_,_,_,_,_,_,_,_,_,_,_,_,_,_,_,_,_,_,_,_,_,_,_,_,_,_,_,_,_,_,_,_,_,_,_,_,_,_,_,_,_,_,_,_,_,_,_,_,_,_,_,_,_,_,_,_,_,_,_,_,_,_,_]) rfl ?_
    refine c_iff rfl ?_
    refine wp_skip ?_
    refine x_thenNormal ?_
    refine c_seq ?_
    refine c_rseq (n := 77) ⟨rfl, rfl⟩ ?_
    refine s_val (r_move rfl) ?_
    refine c_nil (l' := [_,_,_,_,_,_,_,_,_,_,_,_,_,_,_,_,_,_,_,_,_,_,_,_,_,_,_,_,_,_,_,_,_,_,_,_,_,_,_,_,_,_,_,_,_,_,_,_,_,_,_,_,_,_,_,_,_,_,_,_,_,_,_,_,_,_,_,_,_,_,_,_,_,_,_,_,_]) rfl ?_
    refine wp_block ?_
    refine c_loop (fun (l0 : List Value) (j : Nat) (l : List Value) (w : World) => ∃ (u12 u55 u56 u57 u58 u59 u60 u61 u62 u63 u64 u65 u66 u67 u68 u69 u70 u71 u72 u73 u74 u75 u76 : Value) , l = ovr l0 [N_, N_, N_, N_, N_, N_, N_, N_, N_, N_, N_, N_, Y_ u12, N_, N_, N_, N_, N_, N_, N_, N_, N_, N_, N_, N_, N_, N_, N_, N_, N_, N_, N_, N_, N_, N_, N_, N_, N_, N_, N_, N_, N_, N_, N_, N_, N_, N_, N_, N_, N_, N_, N_, N_, N_, Y_ (.int .i64 j), Y_ u55, Y_ u56, Y_ u57, Y_ u58, Y_ u59, Y_ u60, Y_ u61, Y_ u62, Y_ u63, Y_ u64, Y_ u65, Y_ u66, Y_ u67, Y_ u68, Y_ u69, Y_ u70, Y_ u71, Y_ u72, Y_ u73, Y_ u74, Y_ u75, Y_ u76] ∧ j ≤ 2 ∧ St w0 XN w ((b9, .cells (dnC 2).toArray 152 (0, 0)) :: (b6, .cells (kC s).toArray 97 (0, 0)) :: (bm, .cells (mC ba ma bb mb C.length (.func (.func 51) #[] #[.pointer (some ⟨bg, 0, none⟩)])).toArray T (0, 0)) :: (ma, mapZ) :: (mb, mapZ) :: (bg, .cells [.iface 72 (.agg (cs : List Value).toArray)].toArray 89 (0, 0)) :: (bp, .cells (pC lf ac nc cc).toArray Tp (0, 0)) :: Na ++ Nb)) (fun (j : Nat) => 2 - j) 0 ⟨_,_,_,_,_,_,_,_,_,_,_,_,_,_,_,_,_,_,_,_,_,_,_, rfl, by omega, H⟩ ?_
    intro j l w ⟨u12, u55, u56, u57, u58, u59, u60, u61, u62, u63, u64, u65, u66, u67, u68, u69, u70, u71, u72, u73, u74, u75, u76, hl, hj, H⟩
    obtain rfl := hl.trans (rfl : _ = [_,_,_,_,_,_,_,_,_,_,_,_,_,_,_,_,_,_,_,_,_,_,_,_,_,_,_,_,_,_,_,_,_,_,_,_,_,_,_,_,_,_,_,_,_,_,_,_,_,_,_,_,_,_,_,_,_,_,_,_,_,_,_,_,_,_,_,_,_,_,_,_,_,_,_,_,_])
    clear hl
    refine c_rseq (n := 77) ⟨rfl, rfl⟩ ?_
    refine s_val (r_lss rfl rfl) ?_
    refine c_nil (l' := [_,_,_,_,_,_,_,_,_,_,_,_,_,_,_,_,_,_,_,_,_,_,_,_,_,_,_,_,_,_,_,_,_,_,_,_,_,_,_,_,_,_,_,_,_,_,_,_,_,_,_,_,_,_,_,_,_,_,_,_,_,_,_,_,_,_,_,_,_,_,_,_,_,_,_,_,_]) rfl ?_
    refine c_seq ?_
    refine c_if rfl (fun h55 => ?_) (fun h55 => ?_)
    · skip
      refine wp_skip ?_
      refine x_thenNormal ?_
      refine c_seq ?_
      refine wp_block ?_
      refine c_rseq (n := 77) ⟨rfl, rfl⟩ ?_
      refine s_val (r_move rfl) ?_
      refine s_val (r_assign rfl) ?_
      refine c_nil (l' := [_,_,_,_,_,_,_,_,_,_,_,_,_,_,_,_,_,_,_,_,_,_,_,_,_,_,_,_,_,_,_,_,_,_,_,_,_,_,_,_,_,_,_,_,_,_,_,_,_,_,_,_,_,_,_,_,_,_,_,_,_,_,_,_,_,_,_,_,_,_,_,_,_,_,_,_,_]) rfl ?_
      refine c_rseq (n := 77) ⟨rfl, rfl⟩ ?_
      refine s_val (r_move rfl) ?_
      refine s_val (r_indexAddrA Try.runUnderlying152 Try.sizeOf4 rfl rfl (by omega) (by omega)) ?_
      refine s_val (r_load1 Try.isAgg4 rfl (H.at 0 rfl) (dn_at (j := j) (by omega) (by omega))) ?_
      refine c_nil (l' := [_,_,_,_,_,_,_,_,_,_,_,_,_,_,_,_,_,_,_,_,_,_,_,_,_,_,_,_,_,_,_,_,_,_,_,_,_,_,_,_,_,_,_,_,_,_,_,_,_,_,_,_,_,_,_,_,_,_,_,_,_,_,_,_,_,_,_,_,_,_,_,_,_,_,_,_,_]) rfl ?_
      refine c_ift rfl ?_
      refine c_region (n := 77) ⟨rfl, rfl⟩ ?_
      refine s_val (r_move rfl) ?_
      refine s_val (r_move rfl) ?_
      refine s_val (r_nilCheck rfl) ?_
      refine s_val (r_fieldAddr (k := 0) Try.runUnderlying119 rfl Try.sizeOf117 (by decide) rfl rfl) ?_
      refine s_val (r_indexAddrA Try.runUnderlying117 Try.sizeOf116 rfl rfl (by omega) (by omega)) ?_
      refine s_val (r_fieldAddr (k := 1) Try.runUnderlying116 rfl Try.sizeOf114 (by decide) rfl rfl) ?_
      refine s_val (r_load1 Try.isAgg114 rfl (H.at 2 rfl) (mC_map (i := j) (by omega) (by omega))) ?_
      refine s_val (r_move rfl) ?_
      refine s_any (m_deleteZ H Try.runUnderlying114 Try.runUnderlying3 (ec rfl (ec rfl en)) (by unfold bI; split <;> first | exact H.at 3 rfl | exact H.at 4 rfl)) ?_
      rintro v w H
      skip
      refine c_nil0 (l' := [_,_,_,_,_,_,_,_,_,_,_,_,_,_,_,_,_,_,_,_,_,_,_,_,_,_,_,_,_,_,_,_,_,_,_,_,_,_,_,_,_,_,_,_,_,_,_,_,_,_,_,_,_,_,_,_,_,_,_,_,_,_,_,_,_,_,_,_,_,_,_,_,_,_,_,_,_]) rfl ?_
      refine x_blockNormal ?_
      refine x_thenNormal ?_
      refine c_region (n := 77) ⟨rfl, rfl⟩ ?_
      refine s_val (r_add rfl rfl (w_i64 (by omega) (by omega))) ?_
      refine s_val (r_move rfl) ?_
      refine c_nil0 (l' := [_,_,_,_,_,_,_,_,_,_,_,_,_,_,_,_,_,_,_,_,_,_,_,_,_,_,_,_,_,_,_,_,_,_,_,_,_,_,_,_,_,_,_,_,_,_,_,_,_,_,_,_,_,_,_,_,_,_,_,_,_,_,_,_,_,_,_,_,_,_,_,_,_,_,_,_,_]) rfl ?_
      exact ⟨j + 1, _, rfl, ⟨_,_,_,_,_,_,_,_,_,_,_,_,_,_,_,_,_,_,_,_,_,_,_, rfl, by omega, H⟩, by omega⟩
    · skip
      refine wp_exit (x_thenExit (x_thenExit (x_blockHit ?_)))
      refine x_thenNormal ?_
      refine c_rseq (n := 77) ⟨rfl, rfl⟩ ?_
      refine s_val (r_assign rfl) ?_
      refine c_nil (l' := [_,_,_,_,_,_,_,_,_,_,_,_,_,_,_,_,_,_,_,_,_,_,_,_,_,_,_,_,_,_,_,_,_,_,_,_,_,_,_,_,_,_,_,_,_,_,_,_,_,_,_,_,_,_,_,_,_,_,_,_,_,_,_,_,_,_,_,_,_,_,_,_,_,_,_,_,_]) rfl ?_
      refine wp_ret ?_
      refine e_ret (res1 rfl rfl) ⟨_, rfl, ?_⟩
      rw [← hXN]
      refine ⟨rfl, _, ?_, H.sub (.cons _ (.cons _ (List.Sublist.refl _)))⟩
      exact ⟨ma, mb, bg, cs, bp, lf, ac, nc, cc, T, Tp, Na, Nb, by rw [List.length_set]; rfl, hA, hB, by rw [List.length_set]; exact hcl⟩

set_option maxHeartbeats 4000000 in
theorem mwrite_spec {ba bb : Nat} (bm : Nat) (C : List Sec) (q : Nat) (N : List (Nat × Obj)) (hq : q ≤ 90000) (n : Int) (s : Sec) (hn0 : 0 ≤ n) (hn1 : n < (C.length : Int)) (w0 : World) (hm : MirN 150 51 89 72 ba bb bm C q N) (hown : Go.Er.Own w0 N) :
    Calls Try.prog 36 #[.pointer (some ⟨bm, 0, none⟩), .int .i64 n, .agg (kC s).toArray] w0 fun e w => ∃ v, e = .returned v ∧ (v = .int .i64 0 ∧ ∃ N', MirN 150 51 89 72 ba bb bm (C.set n.toNat s) (q + 1) N' ∧ St w0 (N.map (·.1)) w N') := by
  obtain ⟨XN, hXN⟩ : ∃ X, X = N.map (·.1) := ⟨_, rfl⟩
  have H : St w0 XN w0 N := by rw [hXN]; exact hown.st
  refine c_enter (args := [.pointer (some ⟨bm, 0, none⟩), .int .i64 n, .agg (kC s).toArray]) (l := [.pointer (some ⟨bm, 0, none⟩), .int .i64 n, .agg (kC s).toArray, undef, undef, undef, undef, undef, undef, undef, undef]) Try.func36 Try.ntmps36 rfl rfl ?_
  refine c_rseq (n := 11) ⟨rfl, rfl⟩ ?_
  refine s_new (m_box (cs := (kC s)) H rfl rfl) ?_
  intro w b5 H
  refine s_val (r_assign rfl) ?_
  refine c_nil (l' := [_,_,_,_,_,_,_,_,_,_,_]) rfl ?_
  refine c_rseq (n := 11) ⟨rfl, rfl⟩ ?_
  refine s_val (r_move rfl) ?_
  refine s_val (r_move rfl) ?_
  refine s_val (r_loadn Try.isAgg97 Try.sizeOf97 rfl (H.at 0 rfl) (by first | exact (kC_td _) | exact (hC_td _) | exact (hC_seed _) | exact (shC_td _ _) | exact (sdC_td _ _)) (by first | exact (kC_length _) | exact (hC_length _) | exact (shC_length _ _) | exact (wC_length _) | exact (sdC_length _ _) | exact rfl)) ?_
  refine s_call (r_call Try.call60 (ec rfl (ec rfl (ec rfl (ec rfl en))))) (put_m bm C q N hq n s hn0 hn1 _ hm (H.ownsM (.cons _ (List.Sublist.refl _)))) ?_
  rintro v w ⟨rfl, N2, hm2, HC⟩
  replace H : St w0 XN _ (_ :: N2) := St.callr (L := [_]) H HC
  refine s_val (r_assign rfl) ?_
  refine c_nil (l' := [_,_,_,_,_,_,_,_,_,_,_]) rfl ?_
  refine wp_ret ?_
  refine e_ret (res1 rfl rfl) ⟨_, rfl, ?_⟩
  rw [← hXN]
  exact ⟨rfl, _, hm2, H.sub (.cons _ (List.Sublist.refl _))⟩

set_option maxHeartbeats 4000000 in
theorem sflush_spec (bm o bd bp : Nat) (C : List Sec) (q : Nat) (N : List (Nat × Obj)) (lf : Int) (ac : Option Addr) (nc cc : Nat) (Tp : TypeId) (fzp : Nat × Nat) (hq : q ≤ 100000) (ob : List Value) (Tm : TypeId) (fzm : Nat × Nat) (ho : ob[o]? = some (.pointer (some ⟨bd, 0, none⟩))) (w0 : World) (hbm : w0.heap[bm]? = some (.cells ob.toArray Tm fzm)) (hd : DevN 150 bd bp C q N) (hown : Go.Er.Own w0 ((bp, .cells (pC lf ac nc cc).toArray Tp fzp) :: N)) :
    Calls Try.prog 55 #[.pointer (some ⟨bm, o, none⟩)] w0 fun e w => ∃ v, e = .returned v ∧ (v = .int .i64 0 ∧ ∃ N', DevN 150 bd bp C 0 N' ∧ St w0 (bp :: N.map (·.1)) w ((bp, .cells (pC lf ac nc cc).toArray Tp fzp) :: N')) := by
  have H : St w0 (bp :: N.map (·.1)) w0 ((bp, .cells (pC lf ac nc cc).toArray Tp fzp) :: N) := hown.st
  refine c_enter (args := [.pointer (some ⟨bm, o, none⟩)]) (l := [.pointer (some ⟨bm, o, none⟩), undef, undef, undef, undef, undef, undef, undef, undef, undef, undef]) Try.func55 Try.ntmps55 rfl rfl ?_
  refine c_rseq (n := 11) ⟨rfl, rfl⟩ ?_
  refine s_val (r_assign rfl) ?_
  refine c_nil (l' := [_,_,_,_,_,_,_,_,_,_,_]) rfl ?_
  refine c_rseq (n := 11) ⟨rfl, rfl⟩ ?_
  refine s_val (r_move rfl) ?_
  refine s_val (r_nilCheck rfl) ?_
  refine s_val (r_fieldAddr (k := 0) Try.runUnderlying116 rfl Try.sizeOf26 (by decide) rfl rfl) ?_
  refine s_val (r_load1 Try.isAgg26 rfl hbm ho) ?_
  refine s_val (r_makeFunc (ec rfl en) en) ?_
  refine s_val (r_assign rfl) ?_
  refine c_nil (l' := [_,_,_,_,_,_,_,_,_,_,_]) rfl ?_
  refine c_rseq (n := 11) ⟨rfl, rfl⟩ ?_
  refine s_val (r_move rfl) ?_
  refine s_call (r_callvF Try.call74 rfl en rfl) (dflush_spec bd bp C q N lf ac nc cc Tp fzp hq _ hd hown) ?_
  rintro v w ⟨rfl, N2, hd2, HC⟩
  replace H := HC
  refine s_val (r_assign rfl) ?_
  refine c_nil (l' := [_,_,_,_,_,_,_,_,_,_,_]) rfl ?_
  refine wp_ret ?_
  refine e_ret (res1 rfl rfl) ⟨_, rfl, ?_⟩
  exact ⟨rfl, _, hd2, H⟩

set_option maxHeartbeats 4000000 in
theorem all_m {ba bb : Nat} (bm : Nat) (C : List Sec) (q : Nat) (N : List (Nat × Obj)) (hq : q ≤ 90000) (w0 : World) (hm : MirN 150 51 89 72 ba bb bm C q N) (hown : Go.Er.Own w0 N) :
    Calls Try.prog 54 #[.pointer (some ⟨bm, 0, none⟩), .func (.func 55) #[] #[]] w0 fun e w => ∃ v, e = .returned v ∧ (v = .int .i64 0 ∧ ∃ N', MirN 150 51 89 72 ba bb bm C q N' ∧ St w0 (N.map (·.1)) w N') := by
  obtain ⟨XN, hXN⟩ : ∃ X, X = N.map (·.1) := ⟨_, rfl⟩
  have H : St w0 XN w0 N := by rw [hXN]; exact hown.st
  have hm2 := hm
  obtain ⟨ma, mb, bg, cs, bp, lf, ac, nc, cc, T, Tp, Na, Nb, rfl, hA, hB, hcl⟩ := hm2
  refine c_enter (args := [.pointer (some ⟨bm, 0, none⟩), .func (.func 55) #[] #[]]) (l := [.pointer (some ⟨bm, 0, none⟩), .func (.func 55) #[] #[], undef, undef, undef, undef, undef, undef, undef, undef, undef, undef, undef, undef, undef, undef, undef, undef, undef, undef, undef, undef, undef, undef, undef, undef, undef, undef, undef, undef]) Try.func54 Try.ntmps54 rfl rfl ?_
  refine c_rseq (n := 30) ⟨rfl, rfl⟩ ?_
  refine s_val (r_assign rfl) ?_
  refine c_nil (l' := [_,_,_,_,_,_,_,_,_,_,_,_,_,_,_,_,_,_,_,_,_,_,_,_,_,_,_,_,_,_]) rfl ?_
  refine c_rseq (n := 30) ⟨rfl, rfl⟩ ?_
  refine s_val (r_move rfl) ?_
  refine s_call (r_call Try.call63 (ec rfl en)) (present_spec bm C _ (hm.rdM (by omega) H (fun p hp => hp))) ?_
  rintro v w ⟨ap, cp, Np, rfl, hNp, HC⟩
  obtain ⟨bw, spw, rfl, hcw, rfl, hcw2⟩ := hNp.some (by omega)
  replace H := H.call0 HC
  refine s_val (r_assign rfl) ?_
  refine c_nil (l' := [_,_,_,_,_,_,_,_,_,_,_,_,_,_,_,_,_,_,_,_,_,_,_,_,_,_,_,_,_,_]) rfl ?_
  refine c_seq ?_
  refine c_rseq (n := 30) ⟨rfl, rfl⟩ ?_
  refine s_val (r_move rfl) ?_
  refine s_val (r_lens Try.runUnderlying139 (ec rfl en)) ?_
  refine s_val (r_eql rfl rfl) ?_
  refine c_nil (l' := [_,_,_,_,_,_,_,_,_,_,_,_,_,_,_,_,_,_,_,_,_,_,_,_,_,_,_,_,_,_]) rfl ?_
  refine c_if rfl (fun h13 => ?_) (fun h13 => ?_)
  · skip
    exfalso; omega
  · skip
    refine wp_skip ?_
    refine x_thenNormal ?_
    refine c_rseq (n := 30) ⟨rfl, rfl⟩ ?_
    refine s_val (r_assign rfl) ?_
    refine c_nil (l' := [_,_,_,_,_,_,_,_,_,_,_,_,_,_,_,_,_,_,_,_,_,_,_,_,_,_,_,_,_,_]) rfl ?_
    refine c_seq ?_
    refine c_rseq (n := 30) ⟨rfl, rfl⟩ ?_
    refine s_val (r_move rfl) ?_
    refine s_val (r_lens Try.runUnderlying139 (ec rfl en)) ?_
    refine s_val (r_move rfl) ?_
    refine c_nil (l' := [_,_,_,_,_,_,_,_,_,_,_,_,_,_,_,_,_,_,_,_,_,_,_,_,_,_,_,_,_,_]) rfl ?_
    refine wp_block ?_
    refine c_loop (fun (l0 : List Value) (i : Nat) (l : List Value) (w : World) => ∃ (u8 u17 u18 u19 u20 u21 u22 u23 u24 u25 u26 u27 u28 : Value) (Na Nb : List (Nat × Obj)), l = ovr l0 [N_, N_, N_, N_, N_, N_, Y_ (.int .i64 0), N_, Y_ u8, N_, N_, N_, N_, N_, N_, N_, Y_ (.int .i64 i), Y_ u17, Y_ u18, Y_ u19, Y_ u20, Y_ u21, Y_ u22, Y_ u23, Y_ u24, Y_ u25, Y_ u26, Y_ u27, Y_ u28] ∧ i ≤ 2 ∧ DevN 150 ba bp C q Na ∧ DevN 150 bb bp C q Nb ∧ St w0 XN w ((bw, .cells (iC 2 ++ spw).toArray 3 (0, 0)) :: (bm, .cells (mC ba ma bb mb C.length (.func (.func 51) #[] #[.pointer (some ⟨bg, 0, none⟩)])).toArray T (0, 0)) :: (ma, mapZ) :: (mb, mapZ) :: (bg, .cells [.iface 72 (.agg (cs : List Value).toArray)].toArray 89 (0, 0)) :: (bp, .cells (pC lf ac nc cc).toArray Tp (0, 0)) :: Na ++ Nb)) (fun (i : Nat) => 2 - i) 0 ⟨_,_,_,_,_,_,_,_,_,_,_,_,_, Na, Nb, rfl, by omega, hA, hB, H⟩ ?_
    intro i l w ⟨u8, u17, u18, u19, u20, u21, u22, u23, u24, u25, u26, u27, u28, Na, Nb, hl, hi, hA, hB, H⟩
    obtain rfl := hl.trans (rfl : _ = [_,_,_,_,_,_,_,_,_,_,_,_,_,_,_,_,_,_,_,_,_,_,_,_,_,_,_,_,_,_])
    clear hl
    refine c_rseq (n := 30) ⟨rfl, rfl⟩ ?_
    refine s_val (r_lss rfl rfl) ?_
    refine c_nil (l' := [_,_,_,_,_,_,_,_,_,_,_,_,_,_,_,_,_,_,_,_,_,_,_,_,_,_,_,_,_,_]) rfl ?_
    refine c_seq ?_
    refine c_if rfl (fun h17 => ?_) (fun h17 => ?_)
    · skip
      obtain rfl | rfl : i = 0 ∨ i = 1 := by omega
      · skip
        skip
        refine wp_skip ?_
        refine x_thenNormal ?_
        refine c_seq ?_
        refine wp_block ?_
        refine c_rseq (n := 30) ⟨rfl, rfl⟩ ?_
        refine s_val (r_indexAddrS Try.runUnderlying139 Try.sizeOf3 rfl rfl (by omega) (by omega)) ?_
        refine s_val (r_load1 Try.isAgg3 rfl (H.at 0 rfl) (iC_at (i := 2) (k := 0) (by omega) (by omega))) ?_
        refine s_val (r_assign rfl) ?_
        refine c_nil (l' := [_,_,_,_,_,_,_,_,_,_,_,_,_,_,_,_,_,_,_,_,_,_,_,_,_,_,_,_,_,_]) rfl ?_
        refine c_rseq (n := 30) ⟨rfl, rfl⟩ ?_
        refine s_val (r_move rfl) ?_
        refine s_val (r_move rfl) ?_
        refine s_val (r_move rfl) ?_
        refine s_val (r_nilCheck rfl) ?_
        refine s_val (r_fieldAddr (k := 0) Try.runUnderlying119 rfl Try.sizeOf117 (by decide) rfl rfl) ?_
        refine s_val (r_indexAddrA Try.runUnderlying117 Try.sizeOf116 rfl rfl (by omega) (by omega)) ?_
        refine s_call (r_callv Try.call55 rfl (ec rfl en) rfl) (sflush_spec bm _ _ bp C q _ lf ac nc cc Tp (0, 0) (by omega) _ _ _ (mC_dev (i := 0) (by omega) (by omega)) _ (H.at 1 rfl) hA (H.ownsM (.cons _ (.cons _ (.cons _ (.cons _ (.cons _ (.cons_cons _ (List.sublist_append_left _ _))))))))) ?_
        rintro v w ⟨rfl, N2, hA2, HC⟩
        replace H := St.dev1 (A := [_,_,_,_,_]) H HC
        refine s_val (r_neq rfl rfl) ?_
        refine c_nil (l' := [_,_,_,_,_,_,_,_,_,_,_,_,_,_,_,_,_,_,_,_,_,_,_,_,_,_,_,_,_,_]) rfl ?_
        refine c_iff rfl ?_
        refine wp_skip ?_
        refine x_blockNormal ?_
        refine x_thenNormal ?_
        refine c_region (n := 30) ⟨rfl, rfl⟩ ?_
        refine s_val (r_add rfl rfl (w_i64 (by omega) (by omega))) ?_
        refine s_val (r_move rfl) ?_
        refine c_nil0 (l' := [_,_,_,_,_,_,_,_,_,_,_,_,_,_,_,_,_,_,_,_,_,_,_,_,_,_,_,_,_,_]) rfl ?_
        exact ⟨1, _, rfl, ⟨_,_,_,_,_,_,_,_,_,_,_,_,_, N2, Nb, rfl, by omega, (hA2.mono (by omega)), hB, H⟩, by omega⟩
      · skip
        skip
        refine wp_skip ?_
        refine x_thenNormal ?_
        refine c_seq ?_
        refine wp_block ?_
        refine c_rseq (n := 30) ⟨rfl, rfl⟩ ?_
        refine s_val (r_indexAddrS Try.runUnderlying139 Try.sizeOf3 rfl rfl (by omega) (by omega)) ?_
        refine s_val (r_load1 Try.isAgg3 rfl (H.at 0 rfl) (iC_at (i := 2) (k := 1) (by omega) (by omega))) ?_
        refine s_val (r_assign rfl) ?_
        refine c_nil (l' := [_,_,_,_,_,_,_,_,_,_,_,_,_,_,_,_,_,_,_,_,_,_,_,_,_,_,_,_,_,_]) rfl ?_
        refine c_rseq (n := 30) ⟨rfl, rfl⟩ ?_
        refine s_val (r_move rfl) ?_
        refine s_val (r_move rfl) ?_
        refine s_val (r_move rfl) ?_
        refine s_val (r_nilCheck rfl) ?_
        refine s_val (r_fieldAddr (k := 0) Try.runUnderlying119 rfl Try.sizeOf117 (by decide) rfl rfl) ?_
        refine s_val (r_indexAddrA Try.runUnderlying117 Try.sizeOf116 rfl rfl (by omega) (by omega)) ?_
        refine s_call (r_callv Try.call55 rfl (ec rfl en) rfl) (sflush_spec bm _ _ bp C q _ lf ac nc cc Tp (0, 0) (by omega) _ _ _ (mC_dev (i := 1) (by omega) (by omega)) _ (H.at 1 rfl) hB (H.ownsM (.cons _ (.cons _ (.cons _ (.cons _ (.cons _ (.cons_cons _ (List.sublist_append_right _ _))))))))) ?_
        rintro v w ⟨rfl, N2, hB2, HC⟩
        replace H := St.dev2 (A := [_,_,_,_,_]) H HC
        refine s_val (r_neq rfl rfl) ?_
        refine c_nil (l' := [_,_,_,_,_,_,_,_,_,_,_,_,_,_,_,_,_,_,_,_,_,_,_,_,_,_,_,_,_,_]) rfl ?_
        refine c_iff rfl ?_
        refine wp_skip ?_
        refine x_blockNormal ?_
        refine x_thenNormal ?_
        refine c_region (n := 30) ⟨rfl, rfl⟩ ?_
        refine s_val (r_add rfl rfl (w_i64 (by omega) (by omega))) ?_
        refine s_val (r_move rfl) ?_
        refine c_nil0 (l' := [_,_,_,_,_,_,_,_,_,_,_,_,_,_,_,_,_,_,_,_,_,_,_,_,_,_,_,_,_,_]) rfl ?_
        exact ⟨2, _, rfl, ⟨_,_,_,_,_,_,_,_,_,_,_,_,_, Na, N2, rfl, by omega, hA, (hB2.mono (by omega)), H⟩, by omega⟩
    · skip
      skip
      refine wp_exit (x_thenExit (x_thenExit (x_blockHit ?_)))
      refine x_thenNormal ?_
      refine c_rseq (n := 30) ⟨rfl, rfl⟩ ?_
      refine s_val (r_move rfl) ?_
      refine s_val (r_assign rfl) ?_
      refine c_nil (l' := [_,_,_,_,_,_,_,_,_,_,_,_,_,_,_,_,_,_,_,_,_,_,_,_,_,_,_,_,_,_]) rfl ?_
      refine wp_ret ?_
      refine e_ret (res1 rfl rfl) ⟨_, rfl, ?_⟩
      rw [← hXN]
      refine ⟨rfl, _, ?_, H.sub (.cons _ (List.Sublist.refl _))⟩
      exact ⟨ma, mb, bg, cs, bp, lf, ac, nc, cc, T, Tp, Na, Nb, rfl, hA, hB, hcl⟩

set_option maxHeartbeats 4000000 in
theorem mflush_spec {ba bb : Nat} (bm : Nat) (C : List Sec) (q : Nat) (N : List (Nat × Obj)) (hq : q ≤ 90000) (w0 : World) (hm : MirN 150 51 89 72 ba bb bm C q N) (hown : Go.Er.Own w0 N) :
    Calls Try.prog 32 #[.pointer (some ⟨bm, 0, none⟩)] w0 fun e w => ∃ v, e = .returned v ∧ (v = .int .i64 0 ∧ ∃ N', MirN 150 51 89 72 ba bb bm C q N' ∧ St w0 (N.map (·.1)) w N') := by
  obtain ⟨XN, hXN⟩ : ∃ X, X = N.map (·.1) := ⟨_, rfl⟩
  have H : St w0 XN w0 N := by rw [hXN]; exact hown.st
  refine c_enter (args := [.pointer (some ⟨bm, 0, none⟩)]) (l := [.pointer (some ⟨bm, 0, none⟩), undef, undef, undef, undef, undef, undef]) Try.func32 Try.ntmps32 rfl rfl ?_
  refine c_rseq (n := 7) ⟨rfl, rfl⟩ ?_
  refine s_val (r_assign rfl) ?_
  refine c_nil (l' := [_,_,_,_,_,_,_]) rfl ?_
  refine c_seq ?_
  refine c_rseq (n := 7) ⟨rfl, rfl⟩ ?_
  refine s_val (r_move rfl) ?_
  refine s_val (r_nilpF Try.runUnderlying27 rfl rfl) ?_
  refine c_nil (l' := [_,_,_,_,_,_,_]) rfl ?_
  refine c_iff rfl ?_
  refine wp_skip ?_
  refine x_thenNormal ?_
  refine c_rseq (n := 7) ⟨rfl, rfl⟩ ?_
  refine s_val (r_move rfl) ?_
  refine s_call (r_call Try.call54 (ec rfl (ec rfl en))) (all_m bm C q N hq _ hm (H.ownsM (List.Sublist.refl _))) ?_
  rintro v w ⟨rfl, N2, hm2, HC⟩
  replace H : St w0 XN _ N2 := St.callr (L := []) H HC
  refine s_val (r_assign rfl) ?_
  refine c_nil (l' := [_,_,_,_,_,_,_]) rfl ?_
  refine wp_ret ?_
  refine e_ret (res1 rfl rfl) ⟨_, rfl, ?_⟩
  rw [← hXN]
  exact ⟨rfl, _, hm2, H⟩

end Go.Proofs.Ytbjalofmamoffaa

