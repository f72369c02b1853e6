import Derived.Test.YtbjalofmamoffaaPB1
namespace Go.Proofs.Ytbjalofmamoffaa
open Go Go.Er
set_option linter.unusedSimpArgs false in
theorem places150 : Places Try.prog #[⟨ "n", 3, 0, false, "", "erewhile/device", 0⟩, ⟨ "s", 97, 1, false, "", "erewhile/device", 8⟩] [(0, 1), (1, 128)] := fun w => by simp [Try.sizeOf3 w, Try.sizeOf97 w]
set_option linter.unusedSimpArgs false in
theorem places124 : Places Try.prog #[⟨ "power", 25, 0, false, "", "erewhile/device", 0⟩, ⟨ "stable", 121, 1, false, "", "erewhile/device", 8⟩, ⟨ "wait", 122, 2, false, "", "erewhile/device", 32⟩, ⟨ "kept", 3, 3, false, "", "erewhile/device", 56⟩, ⟨ "bytes", 3, 4, false, "", "erewhile/device", 64⟩, ⟨ "lies", 4, 5, false, "", "erewhile/device", 72⟩, ⟨ "out", 4, 6, false, "", "erewhile/device", 73⟩] [(0, 1), (1, 1), (2, 1), (3, 1), (4, 1), (5, 1), (6, 1)] := fun w => by simp [Try.sizeOf121 w, Try.sizeOf122 w, Try.sizeOf25 w, Try.sizeOf3 w, Try.sizeOf4 w]
set_option linter.unusedSimpArgs false in
theorem places127 : Places Try.prog #[⟨ "off", 4, 0, false, "", "erewhile/device", 0⟩, ⟨ "left", 3, 1, false, "", "erewhile/device", 8⟩, ⟨ "fails", 4, 2, false, "", "erewhile/device", 16⟩, ⟨ "cuts", 125, 3, false, "", "erewhile/device", 24⟩] [(0, 1), (1, 1), (2, 1), (3, 1)] := fun w => by simp [Try.sizeOf125 w, Try.sizeOf3 w, Try.sizeOf4 w]
theorem bytes150 : Try.t150.bytes = 136 := rfl
theorem bytes1 : Try.t1.bytes = 8 := rfl

set_option maxHeartbeats 4000000 in
theorem dwrite_spec (bd bp : Nat) (C : List Sec) (q : Nat) (N : List (Nat × Obj)) (lf : Int) (ac : Option Addr) (nc cc : Nat) (Tp : TypeId) (fzp : Nat × Nat) (hq : q ≤ 100000) (n : Int) (s : Sec) (hn0 : 0 ≤ n) (hn1 : n < (C.length : Int)) (w0 : World) (hd : DevN 150 bd bp C q N) (hown : Go.Er.Own w0 ((bp, .cells (pC lf ac nc cc).toArray Tp fzp) :: N)) :
    Calls Try.prog 75 #[.pointer (some ⟨bd, 0, none⟩), .int .i64 n, .agg (kC s).toArray] w0 fun e w => ∃ v, e = .returned v ∧ (v = .int .i64 0 ∧ ∃ N', DevN 150 bd bp (C.set n.toNat s) (q + 1) N' ∧ St w0 (bp :: N.map (·.1)) w ((bp, .cells (pC lf ac nc cc).toArray Tp fzp) :: N')) := by
  obtain ⟨XN, hXN⟩ : ∃ X, X = N.map (·.1) := ⟨_, rfl⟩
  have H : St w0 (bp :: XN) w0 ((bp, .cells (pC lf ac nc cc).toArray Tp fzp) :: N) := by rw [hXN]; exact hown.st
  obtain ⟨bs, aw, capw, ss, ws, T, T2, Nw, rfl, hNw, hC, hin, hwl⟩ := id hd
  have hlen : ss.length = C.length := by rw [← hC, apW_length]
  refine c_enter (args := [.pointer (some ⟨bd, 0, none⟩), .int .i64 n, .agg (kC s).toArray]) (l := [.pointer (some ⟨bd, 0, none⟩), .int .i64 n, .agg (kC s).toArray, undef, undef, undef, undef, undef, undef, undef, undef, undef, undef, undef, undef, undef, undef, undef, undef, undef, undef, undef, undef, undef, undef, undef, undef, undef, undef, undef, undef, undef, undef]) Try.func75 Try.ntmps75 rfl rfl ?_
  refine c_rseq (n := 33) ⟨rfl, rfl⟩ ?_
  refine s_new (m_box (cs := (kC s)) H rfl rfl) ?_
  intro w b5 H
  refine s_val (r_assign rfl) ?_
  refine c_nil (l' := [_,_,_,_,_,_,_,_,_,_,_,_,_,_,_,_,_,_,_,_,_,_,_,_,_,_,_,_,_,_,_,_,_]) rfl ?_
  refine c_seq ?_
  refine wp_block ?_
  refine c_rseq (n := 33) ⟨rfl, rfl⟩ ?_
  refine s_val (r_move rfl) ?_
  refine s_val (r_nilpF Try.runUnderlying26 rfl rfl) ?_
  refine s_val (r_assign rfl) ?_
  refine c_nil (l' := [_,_,_,_,_,_,_,_,_,_,_,_,_,_,_,_,_,_,_,_,_,_,_,_,_,_,_,_,_,_,_,_,_]) rfl ?_
  refine c_iff rfl ?_
  refine c_rseq (n := 33) ⟨rfl, rfl⟩ ?_
  refine s_val (r_move rfl) ?_
  refine s_call (r_call Try.call76 (ec rfl en)) (down_spec _ C _ (hd.rdM (by omega) H (List.mem_cons_of_mem _ (List.mem_cons_self)) (fun p hp => List.mem_cons_of_mem _ (List.mem_cons_of_mem _ (hp))))) ?_
  rintro v w ⟨rfl, HC⟩
  replace H := H.quiet HC
  refine s_val (r_assign rfl) ?_
  refine c_nil (l' := [_,_,_,_,_,_,_,_,_,_,_,_,_,_,_,_,_,_,_,_,_,_,_,_,_,_,_,_,_,_,_,_,_]) rfl ?_
  refine c_iff rfl ?_
  refine c_rseq (n := 33) ⟨rfl, rfl⟩ ?_
  refine s_val (r_move rfl) ?_
  refine s_val (r_move rfl) ?_
  refine s_call (r_call Try.call77 (ec rfl (ec rfl en))) (dthere_spec _ C n _ (hd.rdM (by omega) H (List.mem_cons_of_mem _ (List.mem_cons_self)) (fun p hp => List.mem_cons_of_mem _ (List.mem_cons_of_mem _ (hp))))) ?_
  rintro v w ⟨rfl, HC⟩
  rw [decide_eq_true (show 0 ≤ n ∧ n < (C.length : Int) from ⟨hn0, hn1⟩)]
  replace H := H.quiet HC
  refine s_val (r_not rfl) ?_
  refine s_val (r_assign rfl) ?_
  refine c_nil (l' := [_,_,_,_,_,_,_,_,_,_,_,_,_,_,_,_,_,_,_,_,_,_,_,_,_,_,_,_,_,_,_,_,_]) rfl ?_
  refine c_iff rfl ?_
  refine wp_skip ?_
  refine x_blockNormal ?_
  refine x_thenNormal ?_
  refine c_seq ?_
  refine d_begin (sz := 33) ⟨rfl, rfl⟩ (by kernel_rfl) H (H.sub (.cons_cons _ (.cons_cons _ (.cons _ (.cons_cons _ (List.nil_sublist _)))))) rfl ?_
  intro w H
  refine d_take (i := 0) rfl (by kernel_rfl) (fun _ _ _ h => h) (H.sub (.cons_cons _ (.cons_cons _ (.cons _ (.cons_cons _ (List.nil_sublist _)))))) (fun _ _ => r_move rfl) rfl ?_
  refine d_take (i := 1) rfl (by kernel_rfl) (fun _ _ _ h => h) (H.sub (.cons_cons _ (.cons_cons _ (.cons _ (.cons_cons _ (List.nil_sublist _)))))) (fun _ _ => r_move rfl) rfl ?_
  refine d_take (i := 2) rfl (by kernel_rfl) (fun _ _ _ h => h) (H.sub (.cons_cons _ (.cons_cons _ (.cons _ (.cons_cons _ (List.nil_sublist _)))))) (fun _ _ => r_nilCheck rfl) rfl ?_
  refine d_take (i := 3) rfl (by kernel_rfl) (fun _ _ _ h => h) (H.sub (.cons_cons _ (.cons_cons _ (.cons _ (.cons_cons _ (List.nil_sublist _)))))) (fun _ _ => r_fieldAddr (k := 2) Try.runUnderlying124 rfl Try.sizeOf122 (by decide) rfl rfl) rfl ?_
  refine d_take (i := 5) rfl (by kernel_rfl) (fun _ _ _ h => h) (H.sub (.cons_cons _ (.cons_cons _ (.cons _ (.cons_cons _ (List.nil_sublist _)))))) (fun _ _ => r_move rfl) rfl ?_
  refine d_take (i := 6) rfl (by kernel_rfl) (fun _ _ _ h => h) (H.sub (.cons_cons _ (.cons_cons _ (.cons _ (.cons_cons _ (List.nil_sublist _)))))) (fun _ HS => r_loadn Try.isAgg97 Try.sizeOf97 rfl (HS.at 0 rfl) (by first | exact (kC_td _) | exact (hC_td _) | exact (hC_seed _) | exact (shC_td _ _)) (by first | exact (kC_length _) | exact (hC_length _) | exact (shC_length _ _) | exact (wC_length _) | exact rfl)) rfl ?_
  refine d_take (i := 7) rfl (by kernel_rfl) (fun _ _ _ h => h) (H.sub (.cons_cons _ (.cons_cons _ (.cons _ (.cons_cons _ (List.nil_sublist _)))))) (fun _ _ => r_buildS Try.runUnderlying150 Try.zeroValue150 places150 (pc rfl (pc rfl pn)) (wfill _ _)) rfl ?_
  refine d_all2 (i := 4) (j := 8) (by kernel_rfl) ?_ ?_
  · skip
    refine b_val rfl go_none (r_load1 Try.isAgg122 rfl (H.at 2 rfl) rfl) rfl (H.sub (.cons_cons _ (.cons_cons _ (.cons _ (.cons_cons _ (List.nil_sublist _)))))) ?_
    refine d_all1 (i := 8) (by kernel_rfl) ?_
    refine b_new rfl go_none (m_bslice1 (vs := wC (n, s)) H Try.runUnderlying122 Try.sizeOf150 Try.zeroValue150 (by omega) (by omega) rfl rfl (wC_length _)) rfl (fun _ _ H => (H.sub (.cons _ (.cons_cons _ (.cons_cons _ (.cons _ (.cons_cons _ (List.nil_sublist _)))))))) ?_
    intro w b26 H
    refine d_all1 (i := 9) (by kernel_rfl) ?_
    refine b_any rfl go_none (m_append_row0 (L1 := [_,_,_,_,_]) (N := Nw) H hNw Try.runUnderlying122 Try.runUnderlying122 (fun _ h => nomatch h) Try.sizeOf150 Try.zeroValue150 rfl Try.typeInfo150 (by rw [bytes150]; omega) (by rw [bytes150]; omega) (ec rfl (ec rfl en)) (Src.slice (vs := wC (n, s)) (H.at 0 rfl) (by rw [Nat.one_mul]; exact wC_td _) (by rw [Nat.one_mul]; exact wC_length _) (elW.one _))) rfl (by rintro v w ⟨a3, c3, N3, rfl, hN3, H⟩; exact (H.sub (.cons _ (.cons_cons _ (.cons_cons _ (.cons _ (.cons_cons _ (List.nil_sublist _)))))))) ?_
    rintro v w ⟨a3, c3, N3, rfl, hN3, H⟩
    rw [row_snoc] at hN3
    rw [show ws.length + 1 = (ws ++ [(n, s)]).length by rw [List.length_append, List.length_singleton]] at hN3 ⊢
    refine d_take (i := 10) rfl (by kernel_rfl) (fun _ _ _ h => h) (H.sub (.cons _ (.cons_cons _ (.cons_cons _ (.cons _ (.cons_cons _ (List.nil_sublist _))))))) (fun _ _ => r_nilCheck rfl) rfl ?_
    refine d_take (i := 11) rfl (by kernel_rfl) (fun _ _ _ h => h) (H.sub (.cons _ (.cons_cons _ (.cons_cons _ (.cons _ (.cons_cons _ (List.nil_sublist _))))))) (fun _ _ => r_fieldAddr (k := 2) Try.runUnderlying124 rfl Try.sizeOf122 (by decide) rfl rfl) rfl ?_
    refine d_all1 (i := 12) (by kernel_rfl) ?_
    refine b_st rfl go_none (m_store1 H 3 Try.sizeOf122 rfl rfl rfl rfl (by show 2 < 7; omega) (rfl : _ = dC bp bs ss.length a3 (ws ++ [(n, s)]).length c3)) (L' := (_ :: _ :: _ :: _ :: _ :: _)) rfl rfl (fun _ H => (H.sub (.cons _ (.cons_cons _ (.cons_cons _ (.cons _ (.cons_cons _ (List.nil_sublist _)))))))) ?_
    intro w H
    refine d_done (l' := [_,_,_,_,_,_,_,_,_,_,_,_,_,_,_,_,_,_,_,_,_,_,_,_,_,_,_,_,_,_,_,_,_]) (by kernel_rfl) rfl ?_
    refine x_thenNormal ?_
    refine c_seq ?_
    refine c_rseq (n := 33) ⟨rfl, rfl⟩ ?_
    refine s_val (r_move rfl) ?_
    have hd2 : DevN 150 bd bp (C.set n.toNat s) (q + 1) ((bd, .cells (dC bp bs ss.length a3 (ws ++ [(n, s)]).length c3).toArray T (0, 0)) :: (bs, .cells (rowC kC ss).toArray T2 (0, 0)) :: N3) := ⟨bs, a3, c3, ss, ws ++ [(n, s)], T, T2, N3, rfl, hN3, by rw [apW_snoc, hC], hin.snoc hn0 (by omega), by rw [List.length_append, List.length_singleton]; omega⟩
    refine s_call (r_call Try.call90 (ec rfl en)) (operate_spec _ (C.set n.toNat s) _ (hd2.rdM (by omega) H (List.mem_cons_of_mem _ (List.mem_cons_of_mem _ List.mem_cons_self)) (fun p hp => List.mem_cons_of_mem _ (List.mem_cons_of_mem _ (List.mem_cons_of_mem _ hp))))) ?_
    rintro v w ⟨rfl, HC⟩
    replace H := H.quiet HC
    refine s_val (r_not rfl) ?_
    refine c_nil (l' := [_,_,_,_,_,_,_,_,_,_,_,_,_,_,_,_,_,_,_,_,_,_,_,_,_,_,_,_,_,_,_,_,_]) rfl ?_
    refine c_iff rfl ?_
    refine wp_skip ?_
    refine x_thenNormal ?_
    refine c_rseq (n := 33) ⟨rfl, rfl⟩ ?_
    refine s_val (r_assign rfl) ?_
    refine c_nil (l' := [_,_,_,_,_,_,_,_,_,_,_,_,_,_,_,_,_,_,_,_,_,_,_,_,_,_,_,_,_,_,_,_,_]) rfl ?_
    refine wp_ret ?_
    refine e_ret (res1 rfl rfl) ⟨_, rfl, ?_⟩
    rw [← hXN]
    exact ⟨rfl, _, hd2, H.sub (.cons _ (.cons _ (List.Sublist.refl _)))⟩
  · skip
    refine b_new rfl go_none (m_bslice1 (vs := wC (n, s)) H Try.runUnderlying122 Try.sizeOf150 Try.zeroValue150 (by omega) (by omega) rfl rfl (wC_length _)) rfl (fun _ _ H => (H.sub (.cons _ (.cons_cons _ (.cons_cons _ (.cons _ (.cons_cons _ (List.nil_sublist _)))))))) ?_
    intro w b26 H
    refine d_all1 (i := 4) (by kernel_rfl) ?_
    refine b_val rfl go_none (r_load1 Try.isAgg122 rfl (H.at 3 rfl) rfl) rfl (H.sub (.cons _ (.cons_cons _ (.cons_cons _ (.cons _ (.cons_cons _ (List.nil_sublist _))))))) ?_
    refine d_all1 (i := 9) (by kernel_rfl) ?_
    refine b_any rfl go_none (m_append_row0 (L1 := [_,_,_,_,_]) (N := Nw) H hNw Try.runUnderlying122 Try.runUnderlying122 (fun _ h => nomatch h) Try.sizeOf150 Try.zeroValue150 rfl Try.typeInfo150 (by rw [bytes150]; omega) (by rw [bytes150]; omega) (ec rfl (ec rfl en)) (Src.slice (vs := wC (n, s)) (H.at 0 rfl) (by rw [Nat.one_mul]; exact wC_td _) (by rw [Nat.one_mul]; exact wC_length _) (elW.one _))) rfl (by rintro v w ⟨a3, c3, N3, rfl, hN3, H⟩; exact (H.sub (.cons _ (.cons_cons _ (.cons_cons _ (.cons _ (.cons_cons _ (List.nil_sublist _)))))))) ?_
    rintro v w ⟨a3, c3, N3, rfl, hN3, H⟩
    rw [row_snoc] at hN3
    rw [show ws.length + 1 = (ws ++ [(n, s)]).length by rw [List.length_append, List.length_singleton]] at hN3 ⊢
    refine d_take (i := 10) rfl (by kernel_rfl) (fun _ _ _ h => h) (H.sub (.cons _ (.cons_cons _ (.cons_cons _ (.cons _ (.cons_cons _ (List.nil_sublist _))))))) (fun _ _ => r_nilCheck rfl) rfl ?_
    refine d_take (i := 11) rfl (by kernel_rfl) (fun _ _ _ h => h) (H.sub (.cons _ (.cons_cons _ (.cons_cons _ (.cons _ (.cons_cons _ (List.nil_sublist _))))))) (fun _ _ => r_fieldAddr (k := 2) Try.runUnderlying124 rfl Try.sizeOf122 (by decide) rfl rfl) rfl ?_
    refine d_all1 (i := 12) (by kernel_rfl) ?_
    refine b_st rfl go_none (m_store1 H 3 Try.sizeOf122 rfl rfl rfl rfl (by show 2 < 7; omega) (rfl : _ = dC bp bs ss.length a3 (ws ++ [(n, s)]).length c3)) (L' := (_ :: _ :: _ :: _ :: _ :: _)) rfl rfl (fun _ H => (H.sub (.cons _ (.cons_cons _ (.cons_cons _ (.cons _ (.cons_cons _ (List.nil_sublist _)))))))) ?_
    intro w H
    refine d_done (l' := [_,_,_,_,_,_,_,_,_,_,_,_,_,_,_,_,_,_,_,_,_,_,_,_,_,_,_,_,_,_,_,_,_]) (by kernel_rfl) rfl ?_
    refine x_thenNormal ?_
    refine c_seq ?_
    refine c_rseq (n := 33) ⟨rfl, rfl⟩ ?_
    refine s_val (r_move rfl) ?_
    have hd2 : DevN 150 bd bp (C.set n.toNat s) (q + 1) ((bd, .cells (dC bp bs ss.length a3 (ws ++ [(n, s)]).length c3).toArray T (0, 0)) :: (bs, .cells (rowC kC ss).toArray T2 (0, 0)) :: N3) := ⟨bs, a3, c3, ss, ws ++ [(n, s)], T, T2, N3, rfl, hN3, by rw [apW_snoc, hC], hin.snoc hn0 (by omega), by rw [List.length_append, List.length_singleton]; omega⟩
    refine s_call (r_call Try.call90 (ec rfl en)) (operate_spec _ (C.set n.toNat s) _ (hd2.rdM (by omega) H (List.mem_cons_of_mem _ (List.mem_cons_of_mem _ List.mem_cons_self)) (fun p hp => List.mem_cons_of_mem _ (List.mem_cons_of_mem _ (List.mem_cons_of_mem _ hp))))) ?_
    rintro v w ⟨rfl, HC⟩
    replace H := H.quiet HC
    refine s_val (r_not rfl) ?_
    refine c_nil (l' := [_,_,_,_,_,_,_,_,_,_,_,_,_,_,_,_,_,_,_,_,_,_,_,_,_,_,_,_,_,_,_,_,_]) rfl ?_
    refine c_iff rfl ?_
    refine wp_skip ?_
    refine x_thenNormal ?_
    refine c_rseq (n := 33) ⟨rfl, rfl⟩ ?_
    refine s_val (r_assign rfl) ?_
    refine c_nil (l' := [_,_,_,_,_,_,_,_,_,_,_,_,_,_,_,_,_,_,_,_,_,_,_,_,_,_,_,_,_,_,_,_,_]) rfl ?_
    refine wp_ret ?_
    refine e_ret (res1 rfl rfl) ⟨_, rfl, ?_⟩
    rw [← hXN]
    exact ⟨rfl, _, hd2, H.sub (.cons _ (.cons _ (List.Sublist.refl _)))⟩

set_option maxHeartbeats 4000000 in
theorem dflush_spec (bd bp : Nat) (C : List Sec) (q : Nat) (N : List (Nat × Obj)) (lf : Int) (ac : Option Addr) (nc cc : Nat) (Tp : TypeId) (fzp : Nat × Nat) (hq : q ≤ 100000) (w0 : World) (hd : DevN 150 bd bp C q N) (hown : Go.Er.Own w0 ((bp, .cells (pC lf ac nc cc).toArray Tp fzp) :: N)) :
    Calls Try.prog 74 #[.pointer (some ⟨bd, 0, none⟩)] w0 fun e w => ∃ v, e = .returned v ∧ (v = .int .i64 0 ∧ ∃ N', DevN 150 bd bp C 0 N' ∧ St w0 (bp :: N.map (·.1)) w ((bp, .cells (pC lf ac nc cc).toArray Tp fzp) :: N')) := by
  obtain ⟨XN, hXN⟩ : ∃ X, X = N.map (·.1) := ⟨_, rfl⟩
  have H : St w0 (bp :: XN) w0 ((bp, .cells (pC lf ac nc cc).toArray Tp fzp) :: N) := by rw [hXN]; exact hown.st
  obtain ⟨bs, aw, capw, ss, ws, T, T2, Nw, rfl, hNw, hC, hin, hwl⟩ := id hd
  have hlen : ss.length = C.length := by rw [← hC, apW_length]
  refine c_enter (args := [.pointer (some ⟨bd, 0, none⟩)]) (l := [.pointer (some ⟨bd, 0, none⟩), undef, undef, undef, undef, undef, undef, undef, undef, undef, undef, undef, undef, undef, undef, undef, undef, undef, undef, undef, undef, undef, undef, undef, undef, undef, undef, undef, undef, undef, undef, undef, undef, undef, undef, undef, undef, undef, undef, undef, undef, undef, undef]) Try.func74 Try.ntmps74 rfl rfl ?_
  refine c_rseq (n := 43) ⟨rfl, rfl⟩ ?_
  refine s_val (r_assign rfl) ?_
  refine c_nil (l' := [_,_,_,_,_,_,_,_,_,_,_,_,_,_,_,_,_,_,_,_,_,_,_,_,_,_,_,_,_,_,_,_,_,_,_,_,_,_,_,_,_,_,_]) rfl ?_
  refine c_seq ?_
  refine wp_block ?_
  refine c_rseq (n := 43) ⟨rfl, rfl⟩ ?_
  refine s_val (r_move rfl) ?_
  refine s_val (r_nilpF Try.runUnderlying26 rfl rfl) ?_
  refine s_val (r_assign rfl) ?_
  refine c_nil (l' := [_,_,_,_,_,_,_,_,_,_,_,_,_,_,_,_,_,_,_,_,_,_,_,_,_,_,_,_,_,_,_,_,_,_,_,_,_,_,_,_,_,_,_]) rfl ?_
  refine c_iff rfl ?_
  refine c_rseq (n := 43) ⟨rfl, rfl⟩ ?_
  refine s_val (r_move rfl) ?_
  refine s_call (r_call Try.call76 (ec rfl en)) (down_spec _ C _ (hd.rdM (by omega) H (List.mem_cons_self) (fun p hp => List.mem_cons_of_mem _ (hp)))) ?_
  rintro v w ⟨rfl, HC⟩
  replace H := H.quiet HC
  refine s_val (r_move rfl) ?_
  refine g_yes rfl rfl ?_
  refine s_val (r_move rfl) ?_
  refine g_yes rfl rfl ?_
  refine s_call (r_call Try.call90 (ec rfl en)) (operate_spec _ C _ (hd.rdM (by omega) H (List.mem_cons_self) (fun p hp => List.mem_cons_of_mem _ (hp)))) ?_
  rintro v w ⟨rfl, HC⟩
  replace H := H.quiet HC
  refine g_yes rfl rfl ?_
  refine s_val (r_not rfl) ?_
  refine s_val (r_pickf rfl rfl) ?_
  refine s_val (r_assign rfl) ?_
  refine c_nil (l' := [_,_,_,_,_,_,_,_,_,_,_,_,_,_,_,_,_,_,_,_,_,_,_,_,_,_,_,_,_,_,_,_,_,_,_,_,_,_,_,_,_,_,_]) rfl ?_
  refine c_iff rfl ?_
  refine c_rseq (n := 43) ⟨rfl, rfl⟩ ?_
  refine s_val (r_move rfl) ?_
  refine s_val (r_nilCheck rfl) ?_
  refine s_val (r_fieldAddr (k := 5) Try.runUnderlying124 rfl Try.sizeOf4 (by decide) rfl rfl) ?_
  refine s_val (r_load1 Try.isAgg4 rfl (H.at 1 rfl) rfl) ?_
  refine s_val (r_assign rfl) ?_
  refine c_nil (l' := [_,_,_,_,_,_,_,_,_,_,_,_,_,_,_,_,_,_,_,_,_,_,_,_,_,_,_,_,_,_,_,_,_,_,_,_,_,_,_,_,_,_,_]) rfl ?_
  refine c_iff rfl ?_
  refine wp_skip ?_
  refine x_blockNormal ?_
  refine x_thenNormal ?_
  refine c_seq ?_
  refine c_rseq (n := 43) ⟨rfl, rfl⟩ ?_
  refine s_val (r_move rfl) ?_
  refine s_val (r_nilCheck rfl) ?_
  refine s_val (r_fieldAddr (k := 2) Try.runUnderlying124 rfl Try.sizeOf122 (by decide) rfl rfl) ?_
  refine s_val (r_load1 Try.isAgg122 rfl (H.at 1 rfl) rfl) ?_
  refine s_val (r_lens Try.runUnderlying122 (ec rfl en)) ?_
  refine s_val (r_move rfl) ?_
  refine c_nil (l' := [_,_,_,_,_,_,_,_,_,_,_,_,_,_,_,_,_,_,_,_,_,_,_,_,_,_,_,_,_,_,_,_,_,_,_,_,_,_,_,_,_,_,_]) rfl ?_
  refine wp_block ?_
  refine c_loop (fun (l0 : List Value) (k : Nat) (l : List Value) (w : World) => ∃ (u4 u27 u28 u29 u30 u31 u32 u33 u34 u35 u36 u37 u38 u39 : Value) , l = ovr l0 [N_, N_, N_, N_, Y_ u4, N_, N_, N_, N_, N_, N_, N_, N_, N_, N_, N_, N_, N_, N_, N_, N_, N_, N_, N_, N_, N_, Y_ (.int .i64 k), Y_ u27, Y_ u28, Y_ u29, Y_ u30, Y_ u31, Y_ u32, Y_ u33, Y_ u34, Y_ u35, Y_ u36, Y_ u37, Y_ u38, Y_ u39] ∧ k ≤ ws.length ∧ St w0 (bp :: XN) w ((bp, .cells (pC lf ac nc cc).toArray Tp fzp) :: (bd, .cells (dC bp bs ss.length aw ws.length capw).toArray T (0, 0)) :: (bs, .cells (rowC kC (apW ss (ws.take k))).toArray T2 (0, 0)) :: Nw)) (fun (k : Nat) => ws.length - k) 0 ⟨_,_,_,_,_,_,_,_,_,_,_,_,_,_, rfl, by omega, H⟩ ?_
  intro k l w ⟨u4, u27, u28, u29, u30, u31, u32, u33, u34, u35, u36, u37, u38, u39, hl, hk, H⟩
  obtain rfl := hl.trans (rfl : _ = [_,_,_,_,_,_,_,_,_,_,_,_,_,_,_,_,_,_,_,_,_,_,_,_,_,_,_,_,_,_,_,_,_,_,_,_,_,_,_,_,_,_,_])
  clear hl
  refine c_rseq (n := 43) ⟨rfl, rfl⟩ ?_
  refine s_val (r_lss rfl rfl) ?_
  refine c_nil (l' := [_,_,_,_,_,_,_,_,_,_,_,_,_,_,_,_,_,_,_,_,_,_,_,_,_,_,_,_,_,_,_,_,_,_,_,_,_,_,_,_,_,_,_]) rfl ?_
  refine c_seq ?_
  refine c_if rfl (fun h27 => ?_) (fun h27 => ?_)
  · skip
    obtain ⟨bw, off, pre, post, Tw, fzw, rfl, hbw, hpw⟩ := (RowN.rrowM (f := wC) hNw (fun h => h) H (fun p hp => by simp [hp])) (by omega)
    obtain ⟨hw0, hw1⟩ := hin.wd (k := k) (by omega)
    have hal := apW_length (ws.take k) ss
    refine wp_skip ?_
    refine x_thenNormal ?_
    refine c_seq ?_
    refine wp_block ?_
    refine c_rseq (n := 43) ⟨rfl, rfl⟩ ?_
    refine s_val (r_indexAddrS Try.runUnderlying122 Try.sizeOf150 rfl rfl (by omega) (by omega)) ?_
    refine s_val (r_loadn Try.isAgg150 Try.sizeOf150 rfl hbw (row_td elW pre post hpw (wd_get (k := k) (by omega)) (by omega)) (elW.len _)) ?_
    refine s_new (m_alloc (cs := (wC (0, zS))) H Try.zeroValue150 rfl) ?_
    intro w b4 H
    refine s_st (m_storen H 0 129 Try.sizeOf150 rfl rfl (by first | exact (kC_length _) | exact (hC_length _) | exact (shC_length _ _) | exact (wC_length _)) (by first | exact (kC_one _) | exact (hC_one _) | exact (shC_one _ _) | exact (elW.one _)) rfl (by first | exact (by rw [kC_length]; omega) | exact (by rw [hC_length]; omega) | exact (by rw [wC_length]; omega)) (by first | exact (kC_sp _ _) | exact (hC_sp _ _) | exact (wC_sp _ _))) (L' := (_ :: _ :: _ :: _ :: _)) rfl ?_
    intro w H
    refine c_nil (l' := [_,_,_,_,_,_,_,_,_,_,_,_,_,_,_,_,_,_,_,_,_,_,_,_,_,_,_,_,_,_,_,_,_,_,_,_,_,_,_,_,_,_,_]) rfl ?_
    refine d_begin (sz := 43) ⟨rfl, rfl⟩ (by kernel_rfl) H (H.sub (.cons_cons _ (.cons_cons _ (.cons_cons _ (.cons _ (List.Sublist.refl _)))))) rfl ?_
    intro w H
    refine d_take (i := 0) rfl (by kernel_rfl) (fun _ _ _ h => h) (H.sub (.cons_cons _ (.cons_cons _ (.cons_cons _ (.cons _ (List.Sublist.refl _)))))) (fun _ _ => r_move rfl) rfl ?_
    refine d_take (i := 1) rfl (by kernel_rfl) (fun _ _ _ h => h) (H.sub (.cons_cons _ (.cons_cons _ (.cons_cons _ (.cons _ (List.Sublist.refl _)))))) (fun _ _ => r_nilCheck rfl) rfl ?_
    refine d_take (i := 2) rfl (by kernel_rfl) (fun _ _ _ h => h) (H.sub (.cons_cons _ (.cons_cons _ (.cons_cons _ (.cons _ (List.Sublist.refl _)))))) (fun _ _ => r_fieldAddr (k := 1) Try.runUnderlying124 rfl Try.sizeOf121 (by decide) rfl rfl) rfl ?_
    refine d_take (i := 3) rfl (by kernel_rfl) (fun _ _ _ h => h) (H.sub (.cons_cons _ (.cons_cons _ (.cons_cons _ (.cons _ (List.Sublist.refl _)))))) (fun _ HS => r_load1 Try.isAgg121 rfl (HS.at 2 rfl) rfl) rfl ?_
    refine d_take (i := 4) rfl (by kernel_rfl) (fun _ _ _ h => h) (H.sub (.cons_cons _ (.cons_cons _ (.cons_cons _ (.cons _ (List.Sublist.refl _)))))) (fun _ _ => r_fieldAddr (k := 0) Try.runUnderlying150 rfl Try.sizeOf3 (by decide) rfl rfl) rfl ?_
    refine d_take (i := 5) rfl (by kernel_rfl) (fun _ _ _ h => h) (H.sub (.cons_cons _ (.cons_cons _ (.cons_cons _ (.cons _ (List.Sublist.refl _)))))) (fun _ HS => r_load1 Try.isAgg3 rfl (HS.at 0 rfl) rfl) rfl ?_
    refine d_take (i := 6) rfl (by kernel_rfl) (fun _ _ _ h => h) (H.sub (.cons_cons _ (.cons_cons _ (.cons_cons _ (.cons _ (List.Sublist.refl _)))))) (fun _ _ => r_fieldAddr (k := 1) Try.runUnderlying150 rfl Try.sizeOf97 (by decide) rfl rfl) rfl ?_
    refine d_take (i := 7) rfl (by kernel_rfl) (fun _ _ _ h => h) (H.sub (.cons_cons _ (.cons_cons _ (.cons_cons _ (.cons _ (List.Sublist.refl _)))))) (fun _ HS => r_loadn Try.isAgg97 Try.sizeOf97 rfl (HS.at 0 rfl) (wC_sec _) (by first | exact (kC_length _) | exact (hC_length _) | exact (shC_length _ _) | exact (wC_length _) | exact rfl)) rfl ?_
    refine d_take (i := 8) rfl (by kernel_rfl) (fun _ _ _ h => h) (H.sub (.cons_cons _ (.cons_cons _ (.cons_cons _ (.cons _ (List.Sublist.refl _)))))) (fun _ _ => r_indexAddrS Try.runUnderlying121 Try.sizeOf97 rfl rfl (by omega) (by omega)) rfl ?_
    refine d_all1 (i := 9) (by kernel_rfl) ?_
    refine b_st rfl go_none (m_storen H 3 128 Try.sizeOf97 rfl rfl (by first | exact (kC_length _) | exact (hC_length _) | exact (shC_length _ _) | exact (wC_length _)) (by first | exact (kC_one _) | exact (hC_one _) | exact (shC_one _ _) | exact (elW.one _)) rfl (by rw [rowC_length elS]; omega) (elS_set (i := (wd ws k).1.toNat) (wd ws k).2 (by omega) (by omega))) (L' := (_ :: _ :: _ :: _ :: _)) rfl rfl (fun _ H => (H.sub (.cons_cons _ (.cons_cons _ (.cons_cons _ (.cons _ (List.Sublist.refl _))))))) ?_
    intro w H
    refine d_done (l' := [_,_,_,_,_,_,_,_,_,_,_,_,_,_,_,_,_,_,_,_,_,_,_,_,_,_,_,_,_,_,_,_,_,_,_,_,_,_,_,_,_,_,_]) (by kernel_rfl) rfl ?_
    refine x_blockNormal ?_
    refine x_thenNormal ?_
    refine c_region (n := 43) ⟨rfl, rfl⟩ ?_
    refine s_val (r_add rfl rfl (w_i64 (by omega) (by omega))) ?_
    refine s_val (r_move rfl) ?_
    refine c_nil0 (l' := [_,_,_,_,_,_,_,_,_,_,_,_,_,_,_,_,_,_,_,_,_,_,_,_,_,_,_,_,_,_,_,_,_,_,_,_,_,_,_,_,_,_,_]) rfl ?_
    replace H := H.sub (.cons _ (.cons_cons _ (.cons_cons _ (.cons_cons _ (List.Sublist.refl _)))))
    exact ⟨k + 1, _, rfl, ⟨_,_,_,_,_,_,_,_,_,_,_,_,_,_, rfl, by omega, (by rw [apW_take ss (by omega)]; exact H)⟩, by omega⟩
  · skip
    obtain rfl : k = ws.length := by omega
    rw [List.take_length] at H
    refine wp_exit (x_thenExit (x_thenExit (x_blockHit ?_)))
    refine x_thenNormal ?_
    refine c_rseq (n := 43) ⟨rfl, rfl⟩ ?_
    refine s_val (r_move rfl) ?_
    refine s_val (r_nilCheck rfl) ?_
    refine s_val (r_fieldAddr (k := 2) Try.runUnderlying124 rfl Try.sizeOf122 (by decide) rfl rfl) ?_
    refine s_st (m_store1 H 1 Try.sizeOf122 rfl rfl rfl rfl (by show 2 < 7; omega) (rfl : _ = dC bp bs ss.length none 0 0)) (L' := (_ :: _ :: _ :: _)) rfl ?_
    intro w H
    refine c_nil (l' := [_,_,_,_,_,_,_,_,_,_,_,_,_,_,_,_,_,_,_,_,_,_,_,_,_,_,_,_,_,_,_,_,_,_,_,_,_,_,_,_,_,_,_]) rfl ?_
    refine c_rseq (n := 43) ⟨rfl, rfl⟩ ?_
    refine s_val (r_assign rfl) ?_
    refine c_nil (l' := [_,_,_,_,_,_,_,_,_,_,_,_,_,_,_,_,_,_,_,_,_,_,_,_,_,_,_,_,_,_,_,_,_,_,_,_,_,_,_,_,_,_,_]) rfl ?_
    refine wp_ret ?_
    refine e_ret (res1 rfl rfl) ⟨_, rfl, ?_⟩
    rw [hC] at H
    rw [← hXN]
    refine ⟨rfl, _, ?_, H.sub (.cons_cons _ (.cons_cons _ (.cons_cons _ (List.nil_sublist _))))⟩
    exact ⟨bs, none, 0, C, [], T, T2, [], by rw [hlen]; rfl, RowN.nil, rfl, InW.nil, Nat.le_refl _⟩

set_option maxHeartbeats 4000000 in
theorem newpower_spec  (w0 : World) :
    Calls Try.prog 27 #[] w0 fun e w => ∃ v, e = .returned v ∧ (∃ b N, v = .pointer (some ⟨b, 0, none⟩) ∧ PowN 1 b [] N ∧ St w0 [] w N) := by
  have H := St.refl w0
  refine c_enter (args := []) (l := [undef, undef, undef]) Try.func27 Try.ntmps27 rfl rfl ?_
  refine c_rseq (n := 3) ⟨rfl, rfl⟩ ?_
  refine s_val (r_assign rfl) ?_
  refine c_nil (l' := [_,_,_]) rfl ?_
  refine c_rseq (n := 3) ⟨rfl, rfl⟩ ?_
  refine s_val (r_buildS Try.runUnderlying127 Try.zeroValue127 places127 pn rfl) ?_
  refine s_new (m_box (cs := (pC 0 none 0 0)) H rfl rfl) ?_
  intro w b2 H
  refine s_val (r_assign rfl) ?_
  refine c_nil (l' := [_,_,_]) rfl ?_
  refine wp_ret ?_
  refine e_ret (res1 rfl rfl) ⟨_, rfl, ?_⟩
  exact ⟨_,_, rfl, ⟨0, none, 0, _, [], rfl, RowN.nil⟩, H⟩

set_option maxHeartbeats 4000000 in
theorem newdev_spec (m : Nat) (hm : m ≤ 4096) (bp : Nat) (fs : List Value) (N : List (Nat × Obj)) (hfl : fs.length ≤ 1000) (w0 : World) (hp : PowN 1 bp fs N) (hown : Go.Er.Own w0 N) :
    Calls Try.prog 28 #[.int .i64 (m : Nat), .pointer (some ⟨bp, 0, none⟩)] w0 fun e w => ∃ v, e = .returned v ∧ (∃ bd Nd Np fs2, v = .pointer (some ⟨bd, 0, none⟩) ∧ DevN 150 bd bp (List.replicate m zS) 0 Nd ∧ fs2.length = fs.length + 1 ∧ PowN 1 bp fs2 Np ∧ St w0 (N.map (·.1)) w (Nd ++ Np)) := by
  obtain ⟨lf, ac, cc, T, Nc, rfl, hNc⟩ := hp
  have H := hown.st
  refine c_enter (args := [.int .i64 (m : Nat), .pointer (some ⟨bp, 0, none⟩)]) (l := [.int .i64 (m : Nat), .pointer (some ⟨bp, 0, none⟩), undef, undef, undef, undef, undef, undef, undef, undef, undef, undef, undef, undef, undef, undef, undef, undef, undef, undef, undef, undef, undef, undef, undef, undef, undef, undef]) Try.func28 Try.ntmps28 rfl rfl ?_
  refine c_rseq (n := 28) ⟨rfl, rfl⟩ ?_
  refine s_val (r_assign rfl) ?_
  refine c_nil (l' := [_,_,_,_,_,_,_,_,_,_,_,_,_,_,_,_,_,_,_,_,_,_,_,_,_,_,_,_]) rfl ?_
  refine c_seq ?_
  refine c_rseq (n := 28) ⟨rfl, rfl⟩ ?_
  refine s_val (r_move rfl) ?_
  refine s_val (r_nilpF Try.runUnderlying25 rfl rfl) ?_
  refine c_nil (l' := [_,_,_,_,_,_,_,_,_,_,_,_,_,_,_,_,_,_,_,_,_,_,_,_,_,_,_,_]) rfl ?_
  refine c_iff rfl ?_
  refine wp_skip ?_
  refine x_thenNormal ?_
  refine c_rseq (n := 28) ⟨rfl, rfl⟩ ?_
  refine s_val (r_move rfl) ?_
  refine s_val (r_move rfl) ?_
  refine s_val (r_max (r := (m : Int)) (ec rfl (ec rfl en)) (by rw [if_neg (by omega)])) ?_
  refine s_val (r_min rfl rfl) ?_
  refine s_new (m_makeR (n := m) (nb := 128) (s := 128) (x0 := zS) (v := .agg (Array.replicate 128 (.int .u8 0))) H elS (by omega) Try.underlying121 (by kernel_rfl) (by kernel_rfl) rfl rfl (by rw [if_neg (by omega)]) (by rw [if_neg (by omega)]) (by omega) (by omega)) ?_
  intro w bs H
  refine s_val (r_buildS Try.runUnderlying124 Try.zeroValue124 places124 (pc rfl (pc rfl pn)) rfl) ?_
  refine s_new (m_box (cs := (dC bp bs m none 0 0)) H rfl rfl) ?_
  intro w b15 H
  refine s_val (r_assign rfl) ?_
  refine c_nil (l' := [_,_,_,_,_,_,_,_,_,_,_,_,_,_,_,_,_,_,_,_,_,_,_,_,_,_,_,_]) rfl ?_
  refine c_rseq (n := 28) ⟨rfl, rfl⟩ ?_
  refine s_val (r_move rfl) ?_
  refine s_val (r_move rfl) ?_
  refine s_val (r_nilCheck rfl) ?_
  refine s_val (r_fieldAddr (k := 3) Try.runUnderlying127 rfl Try.sizeOf125 (by decide) rfl rfl) ?_
  refine s_val (r_load1 Try.isAgg125 rfl (H.at 2 rfl) rfl) ?_
  refine s_val (r_move rfl) ?_
  refine s_val (r_makeFunc (ec rfl en) en) ?_
  refine s_new (m_bslice1 (vs := [.func (.func 52) #[.pointer (some ⟨b15, 0, none⟩)] #[]]) H Try.runUnderlying125 Try.sizeOf1 Try.zeroValue1 (by omega) (by omega) rfl rfl rfl) ?_
  intro w b23 H
  refine s_any (m_append_row0 (L1 := [_,_,_,_]) (N := Nc) H hNc Try.runUnderlying125 Try.runUnderlying125 (fun _ h => nomatch h) Try.sizeOf1 Try.zeroValue1 rfl Try.typeInfo1 (by rw [bytes1]; omega) (by rw [bytes1]; omega) (ec rfl (ec rfl en)) (Src.slice (vs := [.func (.func 52) #[.pointer (some ⟨b15, 0, none⟩)] #[]]) (H.at 0 rfl) rfl rfl (fun v hv => by rw [List.mem_singleton.1 hv]; rfl))) ?_
  rintro v w ⟨a3, c3, N3, rfl, hN3, H⟩
  skip
  refine s_val (r_nilCheck rfl) ?_
  refine s_val (r_fieldAddr (k := 3) Try.runUnderlying127 rfl Try.sizeOf125 (by decide) rfl rfl) ?_
  refine s_st (m_store1 H 3 Try.sizeOf125 rfl rfl rfl rfl (by show 3 < 4; omega) (rfl : _ = pC lf a3 (fs.length + 1) c3)) (L' := (_ :: _ :: _ :: _ :: _)) rfl ?_
  intro w H
  refine c_nil (l' := [_,_,_,_,_,_,_,_,_,_,_,_,_,_,_,_,_,_,_,_,_,_,_,_,_,_,_,_]) rfl ?_
  refine c_rseq (n := 28) ⟨rfl, rfl⟩ ?_
  refine s_val (r_move rfl) ?_
  refine s_val (r_assign rfl) ?_
  refine c_nil (l' := [_,_,_,_,_,_,_,_,_,_,_,_,_,_,_,_,_,_,_,_,_,_,_,_,_,_,_,_]) rfl ?_
  refine wp_ret ?_
  refine e_ret (res1 rfl rfl) ⟨_, rfl, ?_⟩
  exact ⟨b15, [(b15, _), (bs, _)], _, fs ++ [_], rfl, ⟨bs, none, 0, List.replicate m zS, [], _,_, [], by rw [List.length_replicate]; rfl, RowN.nil, rfl, InW.nil, Nat.le_refl _⟩, by rw [List.length_append]; rfl, ⟨lf, a3, c3, _, N3, by rw [List.length_append]; rfl, by rw [List.length_append]; exact hN3⟩, H.sub (.cons _ (List.Sublist.refl _))⟩

end Go.Proofs.Ytbjalofmamoffaa

