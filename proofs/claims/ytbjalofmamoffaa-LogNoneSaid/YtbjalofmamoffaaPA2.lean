import Derived.Test.YtbjalofmamoffaaPA1
namespace Go.Proofs.Ytbjalofmamoffaa
open Go Go.Er
theorem byT97 : ByT Try.prog 128 97 := ⟨by kernel_rfl, 5, Try.underlying97, Try.underlying5, Try.sizeOf5⟩

theorem getn_spec (a : Option Addr) (cap n : Nat) (bs : List UInt8) (hn : n = bs.length) (h1 : 1 ≤ bs.length) (h8 : bs.length ≤ 8) (w0 : World) (hr : BRow w0 a bs) :
    Calls Try.prog 66 #[.slice a n cap] w0 fun e w => ∃ v, e = .returned v ∧ v = .tuple #[.int .u64 (getN bs), .bool true] ∧ St w0 [] w [] := by
  subst hn
  exact get_spec a cap bs h1 h8 w0 hr


set_option maxHeartbeats 4000000 in
theorem lsum_spec (k : Key) (cs : List Value) (a : Option Addr) (cap n : Nat) (bs : List UInt8) (hn : n = bs.length) (hl : bs.length ≤ 1000000) (w0 : World) (hr : BRow w0 a bs) :
    Calls Try.prog 117 #[.agg cs.toArray, .agg (kC k).toArray, .slice a n cap] w0 fun e w => ∃ v, e = .returned v ∧ (v = .agg (kC (litSum k bs)).toArray ∧ St w0 [] w []) := by
  have H := St.refl w0
  refine c_enter (args := [.agg cs.toArray, .agg (kC k).toArray, .slice a n cap]) (l := [.agg cs.toArray, .agg (kC k).toArray, .slice a n cap, undef, undef, undef, undef, undef, undef, undef]) Try.func117 Try.ntmps117 rfl rfl ?_
  refine c_rseq (n := 10) ⟨rfl, rfl⟩ ?_
  subst hn
  refine s_new (m_box (cs := cs) H rfl rfl) ?_
  intro w b3 H
  refine s_new (m_box (cs := (kC k)) H rfl rfl) ?_
  intro w b4 H
  refine s_new (m_alloc (cs := (kC (By.zero 16))) H Try.zeroValue135 rfl) ?_
  intro w b6 H
  refine c_nil (l' := [_,_,_,_,_,_,_,_,_,_]) rfl ?_
  refine c_rseq (n := 10) ⟨rfl, rfl⟩ ?_
  refine s_val (r_loadn Try.isAgg69 Try.sizeOf69 rfl (H.at 1 rfl) (by first | exact (kC_td _) | exact (hC_td _) | exact (hC_seed _) | exact (shC_td _ _)) (by first | exact (kC_length _) | exact (hC_length _) | exact (shC_length _ _) | exact rfl)) ?_
  refine s_val (r_move rfl) ?_
  refine s_call (r_call Try.call118 (ec rfl (ec rfl en))) (litsum_spec k _ _ bs (by omega) _ (hr.st (H.sub (List.nil_sublist _)))) ?_
  rintro v w ⟨rfl, HC⟩
  replace H := H.quiet HC
  refine s_st (m_storen H 0 16 Try.sizeOf135 rfl rfl (by first | exact (kC_length _) | exact (hC_length _) | exact (shC_length _ _)) (by first | exact (kC_one _) | exact (hC_one _) | exact (shC_one _ _)) rfl (by first | exact (by rw [kC_length]; omega) | exact (by rw [hC_length]; omega)) (by first | exact (kC_sp _ _) | exact (hC_sp _ _))) (L' := [_,_,_]) rfl ?_
  intro w H
  refine c_nil (l' := [_,_,_,_,_,_,_,_,_,_]) rfl ?_
  refine wp_ret ?_
  refine e_ret (rc_one rfl (rc_celln Try.isAgg135 Try.sizeOf135 rfl (H.at 0 rfl) (by first | exact (kC_td _) | exact (hC_td _) | exact (hC_seed _) | exact (shC_td _ _)) (by first | exact (kC_length _) | exact (hC_length _) | exact (shC_length _ _)))) ⟨_, rfl, ?_⟩
  exact ⟨rfl, H.sub (List.nil_sublist _)⟩

set_option maxHeartbeats 4000000 in
theorem place_spec (n : Int) (h0 : 0 ≤ n) (h1 : n < 4096) (w0 : World) :
    Calls Try.prog 57 #[.int .i64 n] w0 fun e w => ∃ v, e = .returned v ∧ (v = .bool true ∧ St w0 [] w []) := by
  have H := St.refl w0
  refine c_enter (args := [.int .i64 n]) (l := [.int .i64 n, undef, undef, undef, undef, undef, undef, undef, undef]) Try.func57 Try.ntmps57 rfl rfl ?_
  refine c_rseq (n := 9) ⟨rfl, rfl⟩ ?_
  refine s_val (r_assign rfl) ?_
  refine c_nil (l' := [_,_,_,_,_,_,_,_,_]) rfl ?_
  refine c_rseq (n := 9) ⟨rfl, rfl⟩ ?_
  refine s_val (r_move rfl) ?_
  refine s_test (r_geq rfl rfl) (fun h4 => ?_) (fun h4 => ?_)
  · skip
    refine s_val (r_move rfl) ?_
    refine g_yes rfl rfl ?_
    refine s_val (r_move rfl) ?_
    refine g_yes rfl rfl ?_
    refine s_val (r_lss rfl rfl) ?_
    refine s_val (r_pickt rfl rfl) ?_
    refine s_val (r_assign rfl) ?_
    refine c_nil (l' := [_,_,_,_,_,_,_,_,_]) rfl ?_
    refine wp_ret ?_
    refine e_ret (res1 rfl rfl) ⟨_, rfl, ?_⟩
    exact ⟨by rw [decide_eq_true h1], H⟩
  · skip
    exfalso; omega

set_option maxHeartbeats 4000000 in
theorem sum_spec (cs : List Value) (n : Int) (h0 : 0 ≤ n) (h1 : n < 4096) (s : Sec) (w0 : World) :
    Calls Try.prog 59 #[.iface 72 (.agg cs.toArray), .int .i64 n, .agg (kC s).toArray] w0 fun e w => ∃ v, e = .returned v ∧ (v = .agg (kC (litSum (By.zero 32) (putB n 4 ++ (s.1.drop 16).take 112))).toArray ∧ St w0 [] w []) := by
  have H := St.refl w0
  refine c_enter (args := [.iface 72 (.agg cs.toArray), .int .i64 n, .agg (kC s).toArray]) (l := [.iface 72 (.agg cs.toArray), .int .i64 n, .agg (kC s).toArray, undef, undef, undef, undef, undef, undef, undef, undef, undef, undef, undef, undef, undef, undef, undef, undef, undef]) Try.func59 Try.ntmps59 rfl rfl ?_
  refine c_rseq (n := 20) ⟨rfl, rfl⟩ ?_
  refine s_new (m_box (cs := (kC s)) H rfl rfl) ?_
  intro w b5 H
  refine s_new (m_alloc (cs := (kC (By.zero 16))) H Try.zeroValue135 rfl) ?_
  intro w b6 H
  refine c_nil (l' := [_,_,_,_,_,_,_,_,_,_,_,_,_,_,_,_,_,_,_,_]) rfl ?_
  refine c_rseq (n := 20) ⟨rfl, rfl⟩ ?_
  refine s_val (r_move rfl) ?_
  refine s_val (r_conv Try.runUnderlying3 Try.runUnderlying36 rfl (w_u64 (by omega) (by omega))) ?_
  refine s_call (r_call Try.call58 (ec rfl (ec rfl en))) (put_spec n 4 (by omega) (by omega) (by omega) (by omega) _) ?_
  rintro v w ⟨bp, rfl, HC⟩
  replace H := H.call0 HC
  refine s_val (r_assign rfl) ?_
  refine c_nil (l' := [_,_,_,_,_,_,_,_,_,_,_,_,_,_,_,_,_,_,_,_]) rfl ?_
  refine c_seq ?_
  refine d_begin (sz := 20) ⟨rfl, rfl⟩ (by kernel_rfl) H (H.sub (.cons _ (.cons _ (.cons_cons _ (List.Sublist.refl _))))) rfl ?_
  intro w H
  refine d_take (i := 0) rfl (by kernel_rfl) (fun _ _ _ h => h) (H.sub (.cons _ (.cons _ (.cons_cons _ (List.Sublist.refl _))))) (fun _ _ => r_move rfl) rfl ?_
  refine d_take (i := 1) rfl (by kernel_rfl) (fun _ _ _ h => h) (H.sub (.cons _ (.cons _ (.cons_cons _ (List.Sublist.refl _))))) (fun _ _ => r_buildA (pl := []) (zs := kC (By.zero 32)) (out := kC (By.zero 32)) Try.runUnderlying69 Try.sizeOf5 Try.zeroValue69 pn (by intro p hp; simp at hp) rfl) rfl ?_
  refine d_take (i := 2) rfl (by kernel_rfl) (fun _ _ _ h => h) (H.sub (.cons _ (.cons _ (.cons_cons _ (List.Sublist.refl _))))) (fun _ _ => r_move rfl) rfl ?_
  refine d_take (i := 3) rfl (by kernel_rfl) (fun _ _ _ h => h) (H.sub (.cons _ (.cons _ (.cons_cons _ (List.Sublist.refl _))))) (fun _ _ => r_sliceAL (lo := 16) (m := 112) (o := 16) Try.runUnderlying97 Try.sizeOf5 rfl rfl rfl (by omega) rfl rfl) rfl ?_
  refine d_take (i := 5) rfl (by kernel_rfl) (fun _ _ _ h => h) (H.sub (.cons _ (.cons _ (.cons_cons _ (List.Sublist.refl _))))) (fun _ _ => r_makeFunc (ec rfl en) en) rfl ?_
  refine d_take (i := 6) rfl (by kernel_rfl) (fun _ _ _ h => h) (H.sub (.cons _ (.cons _ (.cons_cons _ (List.Sublist.refl _))))) (fun _ _ => r_nilCheckM rfl (by kernel_rfl)) rfl ?_
  refine d_take (i := 7) rfl (by kernel_rfl) (fun _ _ _ h => h) (H.sub (.cons _ (.cons _ (.cons_cons _ (List.Sublist.refl _))))) (fun _ _ => r_move rfl) rfl ?_
  refine d_all1 (i := 4) (by kernel_rfl) ?_
  refine b_any rfl go_none (m_append_own2 (xs := bC (putB n 4)) (sp := []) H 0 Try.runUnderlying40 Try.runUnderlying40 (fun _ h => nomatch h) Try.sizeOf5 Try.zeroValue5 rfl Try.typeInfo5 (by rw [List.append_nil]; rfl) (by rw [bC_length, putB_length]) (by rw [List.append_nil, bC_length, putB_length]; omega) (by rw [bytes5]; omega) (by rw [bytes5]; omega) (ec rfl (ec rfl en)) (part_src (H.at 2 rfl) (by omega) _)) rfl (by rintro v w ⟨bq, capq, spq, rfl, hcq, hnq, H⟩; exact (H.sub (.cons _ (.cons _ (.cons_cons _ (List.Sublist.refl _)))))) ?_
  rintro v w ⟨bq, capq, spq, rfl, hcq, hnq, H⟩
  skip
  refine d_all1 (i := 8) (by kernel_rfl) ?_
  have hbl : 4 + 112 = (putB n 4 ++ (s.1.drop 16).take 112).length := by rw [List.length_append, putB_length, List.length_take, List.length_drop, s.2]; rfl
  have hbq : BRow w (some ⟨bq, 0, none⟩) (putB n 4 ++ (s.1.drop 16).take 112) := fun _ => ⟨bq, 0, [], spq, _,_, rfl, by rw [List.nil_append, bC_append]; exact H.at 0 rfl, rfl⟩
  refine b_call rfl go_none (r_invoke Try.call117 rfl (fun _ => by kernel_rfl) (ec rfl (ec rfl en))) (lsum_spec _ cs _ _ _ _ hbl (by omega) _ hbq) rfl ?_
  rintro v w ⟨rfl, HC⟩
  replace H := H.quiet HC
  refine ⟨(H.sub (.cons _ (.cons _ (.cons_cons _ (List.Sublist.refl _))))), ?_⟩
  refine d_all1 (i := 9) (by kernel_rfl) ?_
  refine b_st rfl go_none (m_storen H 1 16 Try.sizeOf135 rfl rfl (by first | exact (kC_length _) | exact (hC_length _) | exact (shC_length _ _)) (by first | exact (kC_one _) | exact (hC_one _) | exact (shC_one _ _)) rfl (by first | exact (by rw [kC_length]; omega) | exact (by rw [hC_length]; omega)) (by first | exact (kC_sp _ _) | exact (hC_sp _ _))) (L' := (_ :: _ :: _ :: _)) rfl rfl (fun _ H => (H.sub (.cons _ (.cons _ (.cons_cons _ (List.Sublist.refl _)))))) ?_
  intro w H
  refine d_done (l' := [_,_,_,_,_,_,_,_,_,_,_,_,_,_,_,_,_,_,_,_]) (by kernel_rfl) rfl ?_
  refine x_thenNormal ?_
  refine wp_ret ?_
  refine e_ret (rc_one rfl (rc_celln Try.isAgg135 Try.sizeOf135 rfl (H.at 1 rfl) (by first | exact (kC_td _) | exact (hC_td _) | exact (hC_seed _) | exact (shC_td _ _)) (by first | exact (kC_length _) | exact (hC_length _) | exact (shC_length _ _)))) ⟨_, rfl, ?_⟩
  exact ⟨rfl, H.sub (List.nil_sublist _)⟩

theorem sump_spec (cs : List Value) (n g : Int) (body : List UInt8) (hl : body.length ≤ 103) (h0 : 0 ≤ n) (h1 : n < 4096) (w0 : World) :
    Calls Try.prog 59 #[.iface 72 (.agg cs.toArray), .int .i64 n, .agg (bC (pk3 g body)).toArray] w0 fun e w => ∃ v, e = .returned v ∧ v = .agg (kC (litSum (By.zero 32) (putB n 4 ++ headS g body))).toArray ∧ St w0 [] w [] := by
  have h := sum_spec cs n h0 h1 (secL (pk3 g body) (pk3_length hl)) w0
  have e : ((secL (pk3 g body) (pk3_length hl)).1.drop 16).take 112 = headS g body := by
    show ((pk3 g body).drop 16).take 112 = _
    rw [pk3_drop, List.take_of_length_le (by rw [headS_length hl]; exact Nat.le_refl _)]
  rw [e] at h
  exact h


set_option maxHeartbeats 4000000 in
theorem pack_spec (cs : List Value) (n g : Int) (h0 : 0 ≤ n) (h1 : n < 4096) (g0 : 0 ≤ g) (g1 : g < 18446744073709551616) (a : Option Addr) (cap : Nat) (body : List UInt8) (hl : body.length ≤ 103) (w0 : World) (hr : BRow w0 a body) :
    Calls Try.prog 35 #[.iface 72 (.agg cs.toArray), .int .i64 n, .int .u64 g, .slice a body.length cap] w0 fun e w => ∃ v, e = .returned v ∧ (v = .tuple #[.agg (kC (sealS n g body)).toArray, .bool true] ∧ St w0 [] w []) := by
  have H := St.refl w0
  refine c_enter (args := [.iface 72 (.agg cs.toArray), .int .i64 n, .int .u64 g, .slice a body.length cap]) (l := [.iface 72 (.agg cs.toArray), .int .i64 n, .int .u64 g, .slice a body.length cap, undef, undef, undef, undef, undef, undef, undef, undef, undef, undef, undef, undef, undef, undef, undef, undef, undef, undef, undef, undef, undef, undef, undef, undef, undef, undef, undef, undef, undef, undef, undef, undef, undef, undef, undef, undef, undef, undef, undef, undef]) Try.func35 Try.ntmps35 rfl rfl ?_
  refine c_rseq (n := 44) ⟨rfl, rfl⟩ ?_
  refine s_new (m_alloc (cs := (kC (By.zero 128))) H Try.zeroValue97 rfl) ?_
  intro w b8 H
  refine s_val (r_assign rfl) ?_
  refine c_nil (l' := [_,_,_,_,_,_,_,_,_,_,_,_,_,_,_,_,_,_,_,_,_,_,_,_,_,_,_,_,_,_,_,_,_,_,_,_,_,_,_,_,_,_,_,_]) rfl ?_
  refine c_rseq (n := 44) ⟨rfl, rfl⟩ ?_
  refine s_new (m_alloc (cs := (kC (By.zero 128))) H Try.zeroValue97 rfl) ?_
  intro w b10 H
  refine c_nil (l' := [_,_,_,_,_,_,_,_,_,_,_,_,_,_,_,_,_,_,_,_,_,_,_,_,_,_,_,_,_,_,_,_,_,_,_,_,_,_,_,_,_,_,_,_]) rfl ?_
  refine c_seq ?_
  refine c_rseq (n := 44) ⟨rfl, rfl⟩ ?_
  refine s_val (r_move rfl) ?_
  refine s_val (r_nili Try.runUnderlying89 rfl rfl) ?_
  refine s_val (r_move rfl) ?_
  refine g_yes rfl rfl ?_
  refine s_val (r_move rfl) ?_
  refine g_yes rfl rfl ?_
  refine s_call (r_call Try.call57 (ec rfl en)) (place_spec _ (by omega) (by omega) _) ?_
  rintro v w ⟨rfl, HC⟩
  replace H := H.quiet HC
  refine g_yes rfl rfl ?_
  refine s_val (r_not rfl) ?_
  refine s_val (r_pickf rfl rfl) ?_
  refine s_val (r_move rfl) ?_
  refine g_yes rfl rfl ?_
  refine s_val (r_move rfl) ?_
  refine g_yes rfl rfl ?_
  refine s_val (r_lens Try.runUnderlying40 (ec rfl en)) ?_
  refine g_yes rfl rfl ?_
  refine s_val (r_gtr rfl rfl) ?_
  refine s_val (r_pickf rfl rfl) ?_
  refine c_nil (l' := [_,_,_,_,_,_,_,_,_,_,_,_,_,_,_,_,_,_,_,_,_,_,_,_,_,_,_,_,_,_,_,_,_,_,_,_,_,_,_,_,_,_,_,_]) rfl ?_
  refine c_if rfl (fun h23 => ?_) (fun h23 => ?_)
  · skip
    exfalso; omega
  · skip
    refine wp_skip ?_
    refine x_thenNormal ?_
    refine c_seq ?_
    refine d_begin (sz := 44) ⟨rfl, rfl⟩ (by kernel_rfl) H (H.sub (.cons _ (.cons_cons _ (List.Sublist.refl _)))) rfl ?_
    intro w H
    refine d_take (i := 0) rfl (by kernel_rfl) (fun _ _ _ h => h) (H.sub (.cons _ (.cons_cons _ (List.Sublist.refl _)))) (fun _ _ => r_sliceAL (lo := 16) (m := 112) (o := 16) Try.runUnderlying97 Try.sizeOf5 rfl rfl rfl (by omega) rfl rfl) rfl ?_
    refine d_take (i := 1) rfl (by kernel_rfl) (fun _ _ _ h => h) (H.sub (.cons _ (.cons_cons _ (List.Sublist.refl _)))) (fun _ _ => r_move rfl) rfl ?_
    refine d_all1 (i := 2) (by kernel_rfl) ?_
    refine b_call rfl go_none (r_call Try.call58 (ec rfl (ec rfl en))) (put_spec g 8 (by omega) (by omega) (by omega) (by omega) _) rfl ?_
    rintro v w ⟨bp, rfl, HC⟩
    replace H := H.call0 HC
    refine ⟨(H.sub (.cons _ (.cons _ (.cons_cons _ (List.Sublist.refl _))))), ?_⟩
    refine d_all1 (i := 3) (by kernel_rfl) ?_
    refine b_any rfl go_none (m_copyS H 1 Try.runUnderlying40 Try.sizeOf5 (ec rfl (ec rfl en)) (put_src (H.at 0 rfl) _) (by omega) rfl (by rw [bC_length, putB_length, kC_length]; omega) (pk_a g)) rfl (by rintro v w H; exact (H.sub (.cons _ (.cons _ (.cons_cons _ (List.Sublist.refl _)))))) ?_
    rintro v w H
    skip
    refine d_done (l' := [_,_,_,_,_,_,_,_,_,_,_,_,_,_,_,_,_,_,_,_,_,_,_,_,_,_,_,_,_,_,_,_,_,_,_,_,_,_,_,_,_,_,_,_]) (by kernel_rfl) rfl ?_
    refine x_thenNormal ?_
    refine c_rseq (n := 44) ⟨rfl, rfl⟩ ?_
    refine s_val (r_move rfl) ?_
    refine s_val (r_lens Try.runUnderlying40 (ec rfl en)) ?_
    refine s_val (r_conv Try.runUnderlying3 Try.runUnderlying5 rfl (w_u8' _)) ?_
    refine s_val (r_indexAddrA Try.runUnderlying97 Try.sizeOf5 rfl rfl (by omega) (by omega)) ?_
    refine s_st (m_store1 H 1 Try.sizeOf5 rfl rfl rfl rfl (by rw [bC_length, pk1_length]; omega) (pk_b g (n := body.length) (by rw [UInt8.toNat_ofNat']; omega))) (L' := (_ :: _ :: _ :: _)) rfl ?_
    intro w H
    refine c_nil (l' := [_,_,_,_,_,_,_,_,_,_,_,_,_,_,_,_,_,_,_,_,_,_,_,_,_,_,_,_,_,_,_,_,_,_,_,_,_,_,_,_,_,_,_,_]) rfl ?_
    refine c_rseq (n := 44) ⟨rfl, rfl⟩ ?_
    refine s_val (r_sliceAL (lo := 25) (m := 103) (o := 25) Try.runUnderlying97 Try.sizeOf5 rfl rfl rfl (by omega) rfl rfl) ?_
    refine s_val (r_move rfl) ?_
    refine s_any (m_copyS H 1 Try.runUnderlying40 Try.sizeOf5 (ec rfl (ec rfl en)) ((hr.st (H.sub (List.nil_sublist _))).src _) (by omega) rfl (by rw [bC_length, bC_length, pk2_length]; omega) (pk_c hl)) ?_
    rintro v w H
    skip
    refine c_nil (l' := [_,_,_,_,_,_,_,_,_,_,_,_,_,_,_,_,_,_,_,_,_,_,_,_,_,_,_,_,_,_,_,_,_,_,_,_,_,_,_,_,_,_,_,_]) rfl ?_
    refine c_rseq (n := 44) ⟨rfl, rfl⟩ ?_
    refine s_val (r_move rfl) ?_
    refine s_val (r_move rfl) ?_
    have hq3 : (bC (pk3 g body)).length = 128 := by rw [bC_length, pk3_length hl]
    refine s_val (r_loadn Try.isAgg97 Try.sizeOf97 rfl (H.at 1 rfl) (by first | exact (kC_td _) | exact (hC_td _) | exact (hC_seed _) | exact (shC_td _ _) | exact (all_td 128 hq3)) hq3) ?_
    refine s_call (r_call Try.call59 (ec rfl (ec rfl (ec rfl en)))) (sump_spec cs n g body hl h0 h1 _) ?_
    rintro v w ⟨rfl, HC⟩
    replace H := H.quiet HC
    refine s_new (m_alloc (cs := (kC (By.zero 16))) H Try.zeroValue135 rfl) ?_
    intro w b11 H
    refine s_st (m_storen H 0 16 Try.sizeOf135 rfl rfl (by first | exact (kC_length _) | exact (hC_length _) | exact (shC_length _ _)) (by first | exact (kC_one _) | exact (hC_one _) | exact (shC_one _ _)) rfl (by first | exact (by rw [kC_length]; omega) | exact (by rw [hC_length]; omega)) (by first | exact (kC_sp _ _) | exact (hC_sp _ _))) (L' := (_ :: _ :: _ :: _ :: _)) rfl ?_
    intro w H
    refine c_nil (l' := [_,_,_,_,_,_,_,_,_,_,_,_,_,_,_,_,_,_,_,_,_,_,_,_,_,_,_,_,_,_,_,_,_,_,_,_,_,_,_,_,_,_,_,_]) rfl ?_
    refine c_seq ?_
    refine d_begin (sz := 44) ⟨rfl, rfl⟩ (by kernel_rfl) H (H.sub (.cons_cons _ (.cons_cons _ (.cons _ (.cons_cons _ (List.Sublist.refl _)))))) rfl ?_
    intro w H
    refine d_take (i := 0) rfl (by kernel_rfl) (fun _ _ _ h => h) (H.sub (.cons_cons _ (.cons_cons _ (.cons _ (.cons_cons _ (List.Sublist.refl _)))))) (fun _ _ => r_sliceA Try.runUnderlying97 Try.sizeOf5 rfl) rfl ?_
    refine d_take (i := 1) rfl (by kernel_rfl) (fun _ _ _ h => h) (H.sub (.cons_cons _ (.cons_cons _ (.cons _ (.cons_cons _ (List.Sublist.refl _)))))) (fun _ _ => r_sliceA Try.runUnderlying135 Try.sizeOf5 rfl) rfl ?_
    refine d_all1 (i := 2) (by kernel_rfl) ?_
    refine b_any rfl go_none (m_copyS H 2 Try.runUnderlying40 Try.sizeOf5 (ec rfl (ec rfl en)) (by_src (H.at 0 rfl) _) (by omega) rfl (by rw [kC_length, bC_length, pk3_length hl]; omega) (pk_d hl)) rfl (by rintro v w H; exact (H.sub (.cons_cons _ (.cons_cons _ (.cons _ (.cons_cons _ (List.Sublist.refl _))))))) ?_
    rintro v w H
    skip
    refine d_done (l' := [_,_,_,_,_,_,_,_,_,_,_,_,_,_,_,_,_,_,_,_,_,_,_,_,_,_,_,_,_,_,_,_,_,_,_,_,_,_,_,_,_,_,_,_]) (by kernel_rfl) rfl ?_
    refine x_thenNormal ?_
    refine c_rseq (n := 44) ⟨rfl, rfl⟩ ?_
    refine s_val (r_loadn Try.isAgg97 Try.sizeOf97 rfl (H.at 2 rfl) (by first | exact (kC_td _) | exact (hC_td _) | exact (hC_seed _) | exact (shC_td _ _) | exact (all_td 128 hq3)) (by first | exact (kC_length _) | exact (hC_length _) | exact (shC_length _ _) | exact rfl)) ?_
    refine s_st (m_storen H 3 128 Try.sizeOf97 rfl rfl (by first | exact (kC_length _) | exact (hC_length _) | exact (shC_length _ _)) (by first | exact (kC_one _) | exact (hC_one _) | exact (shC_one _ _)) rfl (by first | exact (by rw [kC_length]; omega) | exact (by rw [hC_length]; omega)) (by first | exact (kC_sp _ _) | exact (hC_sp _ _))) (L' := (_ :: _ :: _ :: _ :: _)) rfl ?_
    intro w H
    refine s_val (r_assign rfl) ?_
    refine c_nil (l' := [_,_,_,_,_,_,_,_,_,_,_,_,_,_,_,_,_,_,_,_,_,_,_,_,_,_,_,_,_,_,_,_,_,_,_,_,_,_,_,_,_,_,_,_]) rfl ?_
    refine wp_ret ?_
    refine e_ret (rc_two rfl (rc_celln Try.isAgg97 Try.sizeOf97 rfl (H.at 3 rfl) (by first | exact (kC_td _) | exact (hC_td _) | exact (hC_seed _) | exact (shC_td _ _) | exact (all_td 128 hq3)) (by first | exact (kC_length _) | exact (hC_length _) | exact (shC_length _ _))) (rc_tmp rfl)) ⟨_, rfl, ?_⟩
    exact ⟨rfl, H.sub (List.nil_sublist _)⟩

set_option maxHeartbeats 4000000 in
theorem unpack_spec (cs : List Value) (n : Int) (h0 : 0 ≤ n) (h1 : n < 4096) (s : Sec) (w0 : World) :
    Calls Try.prog 41 #[.iface 72 (.agg cs.toArray), .int .i64 n, .agg (kC s).toArray] w0 fun e w => ∃ v, e = .returned v ∧ ((Sealed n s ∧ ∃ a cap N, v = .tuple #[.int .u64 (genU s), .slice a (bodyU s).length cap, .bool true] ∧ RowN 1 5 (bC (bodyU s)) (bodyU s).length a cap N ∧ St w0 [] w N) ∨ (¬ Sealed n s ∧ v = .tuple #[.int .u64 0, .slice none 0 0, .bool false] ∧ St w0 [] w [])) := by
  have H := St.refl w0
  refine c_enter (args := [.iface 72 (.agg cs.toArray), .int .i64 n, .agg (kC s).toArray]) (l := [.iface 72 (.agg cs.toArray), .int .i64 n, .agg (kC s).toArray, undef, undef, undef, undef, undef, undef, undef, undef, undef, undef, undef, undef, undef, undef, undef, undef, undef, undef, undef, undef, undef, undef, undef, undef, undef, undef, undef, undef, undef, undef, undef, undef, undef, undef, undef, undef, undef, undef, undef, undef, undef, undef, undef, undef]) Try.func41 Try.ntmps41 rfl rfl ?_
  refine c_rseq (n := 47) ⟨rfl, rfl⟩ ?_
  refine s_new (m_box (cs := (kC s)) H rfl rfl) ?_
  intro w b5 H
  refine s_val (r_assign rfl) ?_
  refine s_val (r_assign rfl) ?_
  refine s_val (r_assign rfl) ?_
  refine c_nil (l' := [_,_,_,_,_,_,_,_,_,_,_,_,_,_,_,_,_,_,_,_,_,_,_,_,_,_,_,_,_,_,_,_,_,_,_,_,_,_,_,_,_,_,_,_,_,_,_]) rfl ?_
  refine c_rseq (n := 47) ⟨rfl, rfl⟩ ?_
  refine s_val (r_indexAddrA Try.runUnderlying97 Try.sizeOf5 rfl rfl (by omega) (by omega)) ?_
  refine s_val (r_load1 Try.isAgg5 rfl (H.at 0 rfl) (kC_byt s 24 (by omega) (by omega))) ?_
  obtain ⟨m, hm⟩ : ∃ m, m = lenU s := ⟨_, rfl⟩
  have hm2 : (byt s 24).toNat = m := hm.symm
  rw [hm2]
  have hmb := (byt s 24).toNat_lt
  rw [hm2] at hmb
  refine s_val (r_conv Try.runUnderlying5 Try.runUnderlying3 rfl (w_i64 (by omega) (by omega))) ?_
  refine s_val (r_assign rfl) ?_
  refine c_nil (l' := [_,_,_,_,_,_,_,_,_,_,_,_,_,_,_,_,_,_,_,_,_,_,_,_,_,_,_,_,_,_,_,_,_,_,_,_,_,_,_,_,_,_,_,_,_,_,_]) rfl ?_
  refine c_seq ?_
  refine c_rseq (n := 47) ⟨rfl, rfl⟩ ?_
  refine s_val (r_move rfl) ?_
  refine s_val (r_nili Try.runUnderlying89 rfl rfl) ?_
  refine s_val (r_move rfl) ?_
  refine g_yes rfl rfl ?_
  refine s_val (r_move rfl) ?_
  refine g_yes rfl rfl ?_
  refine s_val (r_gtr rfl rfl) ?_
  refine s_val (r_pickf rfl rfl) ?_
  refine c_nil (l' := [_,_,_,_,_,_,_,_,_,_,_,_,_,_,_,_,_,_,_,_,_,_,_,_,_,_,_,_,_,_,_,_,_,_,_,_,_,_,_,_,_,_,_,_,_,_,_]) rfl ?_
  refine c_if rfl (fun h20 => ?_) (fun h20 => ?_)
  · skip
    refine c_rseq (n := 47) ⟨rfl, rfl⟩ ?_
    refine s_val (r_assign rfl) ?_
    refine s_val (r_assign rfl) ?_
    refine s_val (r_assign rfl) ?_
    refine c_nil (l' := [_,_,_,_,_,_,_,_,_,_,_,_,_,_,_,_,_,_,_,_,_,_,_,_,_,_,_,_,_,_,_,_,_,_,_,_,_,_,_,_,_,_,_,_,_,_,_]) rfl ?_
    refine wp_ret (x_thenRet ?_)
    refine e_ret (res3 rfl rfl rfl rfl) ⟨_, rfl, ?_⟩
    exact .inr ⟨fun h => by have := h.1; omega, rfl, H.sub (List.nil_sublist _)⟩
  · skip
    have hbl := bodyU_length (s := s) (by omega)
    obtain ⟨hg0, hg1⟩ := genU_rng s
    refine wp_skip ?_
    refine x_thenNormal ?_
    refine c_rseq (n := 47) ⟨rfl, rfl⟩ ?_
    refine s_val (r_sliceALH (lo := 16) (hi := 24) (m := 8) (c := 112) (o := 16) Try.runUnderlying97 Try.sizeOf5 rfl rfl rfl rfl rfl (by omega) (by omega) (by omega) rfl rfl rfl) ?_
    refine s_call (r_call Try.call66 (ec rfl en)) (getn_spec _ _ 8 ((s.1.drop 16).take 8) (by rw [List.length_take, List.length_drop, s.2]; omega) (by rw [List.length_take, List.length_drop, s.2]; omega) (by rw [List.length_take, List.length_drop, s.2]; omega) _ (part_row (H.at 0 rfl))) ?_
    rintro v w ⟨rfl, HC⟩
    replace H := H.quiet HC
    refine s_val (r_move rfl) ?_
    refine s_val (r_extract rfl rfl) ?_
    refine s_val (r_extract rfl rfl) ?_
    refine s_val (r_assign rfl) ?_
    refine c_nil (l' := [_,_,_,_,_,_,_,_,_,_,_,_,_,_,_,_,_,_,_,_,_,_,_,_,_,_,_,_,_,_,_,_,_,_,_,_,_,_,_,_,_,_,_,_,_,_,_]) rfl ?_
    refine c_rseq (n := 47) ⟨rfl, rfl⟩ ?_
    refine s_val (r_move rfl) ?_
    refine s_val (r_add rfl rfl (w_i64 (by omega) (by omega))) ?_
    refine s_val (r_sliceALH (lo := 25) (hi := 25 + m) (m := m) (c := 103) (o := 25) Try.runUnderlying97 Try.sizeOf5 rfl rfl rfl rfl (by omega) (by omega) (by omega) (by omega) rfl (by omega) rfl) ?_
    refine s_call (r_call Try.call67 (ec rfl en)) (cloneb_spec _ _ m (bodyU s) (by omega) (by omega) _ (by unfold bodyU; exact part_row (H.at 0 rfl))) ?_
    rintro v w ⟨a2, cap2, N2, rfl, hN2, HC⟩
    replace H : St w0 [] _ (_ :: N2) := (H.call0 HC).perm (List.perm_append_comm (l₁ := [_]))
    refine s_val (r_assign rfl) ?_
    refine c_nil (l' := [_,_,_,_,_,_,_,_,_,_,_,_,_,_,_,_,_,_,_,_,_,_,_,_,_,_,_,_,_,_,_,_,_,_,_,_,_,_,_,_,_,_,_,_,_,_,_]) rfl ?_
    refine c_seq ?_
    refine c_rseq (n := 47) ⟨rfl, rfl⟩ ?_
    refine s_val (r_move rfl) ?_
    refine s_val (r_move rfl) ?_
    refine s_val (r_move rfl) ?_
    refine s_val (r_move rfl) ?_
    refine s_call (r_call Try.call35 (ec rfl (ec rfl (ec rfl (ec rfl en))))) (pack_spec cs n (genU s) h0 h1 hg0 hg1 _ _ (bodyU s) (by omega) _ (hN2.browM H (fun p hp => List.mem_cons_of_mem _ hp))) ?_
    rintro v w ⟨rfl, HC⟩
    replace H := H.quiet HC
    refine s_val (r_move rfl) ?_
    refine s_val (r_extract rfl rfl) ?_
    refine s_val (r_extract rfl rfl) ?_
    refine s_new (m_alloc (cs := (kC (By.zero 128))) H Try.zeroValue97 rfl) ?_
    intro w b10 H
    refine s_st (m_storen H 0 128 Try.sizeOf97 rfl rfl (by first | exact (kC_length _) | exact (hC_length _) | exact (shC_length _ _)) (by first | exact (kC_one _) | exact (hC_one _) | exact (shC_one _ _)) rfl (by first | exact (by rw [kC_length]; omega) | exact (by rw [hC_length]; omega)) (by first | exact (kC_sp _ _) | exact (hC_sp _ _))) (L' := (_ :: _ :: _)) rfl ?_
    intro w H
    refine s_val (r_assign rfl) ?_
    refine c_nil (l' := [_,_,_,_,_,_,_,_,_,_,_,_,_,_,_,_,_,_,_,_,_,_,_,_,_,_,_,_,_,_,_,_,_,_,_,_,_,_,_,_,_,_,_,_,_,_,_]) rfl ?_
    refine c_rseq (n := 47) ⟨rfl, rfl⟩ ?_
    refine s_val (r_move rfl) ?_
    refine s_val (r_not rfl) ?_
    refine s_val (r_move rfl) ?_
    refine g_yes rfl rfl ?_
    refine s_val (r_loadn Try.isAgg97 Try.sizeOf97 rfl (H.at 0 rfl) (by first | exact (kC_td _) | exact (hC_td _) | exact (hC_seed _) | exact (shC_td _ _)) (by first | exact (kC_length _) | exact (hC_length _) | exact (shC_length _ _) | exact rfl)) ?_
    refine g_yes rfl rfl ?_
    refine s_val (r_loadn Try.isAgg97 Try.sizeOf97 rfl (H.at 1 rfl) (by first | exact (kC_td _) | exact (hC_td _) | exact (hC_seed _) | exact (shC_td _ _)) (by first | exact (kC_length _) | exact (hC_length _) | exact (shC_length _ _) | exact rfl)) ?_
    refine g_yes rfl rfl ?_
    refine s_val (r_neqB byT97 rfl rfl) ?_
    refine s_val (r_pickf rfl rfl) ?_
    refine c_nil (l' := [_,_,_,_,_,_,_,_,_,_,_,_,_,_,_,_,_,_,_,_,_,_,_,_,_,_,_,_,_,_,_,_,_,_,_,_,_,_,_,_,_,_,_,_,_,_,_]) rfl ?_
    refine c_if rfl (fun h44 => ?_) (fun h44 => ?_)
    · skip
      refine c_rseq (n := 47) ⟨rfl, rfl⟩ ?_
      refine s_val (r_assign rfl) ?_
      refine s_val (r_assign rfl) ?_
      refine s_val (r_assign rfl) ?_
      refine c_nil (l' := [_,_,_,_,_,_,_,_,_,_,_,_,_,_,_,_,_,_,_,_,_,_,_,_,_,_,_,_,_,_,_,_,_,_,_,_,_,_,_,_,_,_,_,_,_,_,_]) rfl ?_
      refine wp_ret (x_thenRet ?_)
      refine e_ret (res3 rfl rfl rfl rfl) ⟨_, rfl, ?_⟩
      exact .inr ⟨fun h => h44 h.2.symm, rfl, H.sub (List.nil_sublist _)⟩
    · skip
      refine wp_skip ?_
      refine x_thenNormal ?_
      refine c_rseq (n := 47) ⟨rfl, rfl⟩ ?_
      refine s_val (r_move rfl) ?_
      refine s_val (r_move rfl) ?_
      refine s_val (r_assign rfl) ?_
      refine s_val (r_assign rfl) ?_
      refine s_val (r_assign rfl) ?_
      refine c_nil (l' := [_,_,_,_,_,_,_,_,_,_,_,_,_,_,_,_,_,_,_,_,_,_,_,_,_,_,_,_,_,_,_,_,_,_,_,_,_,_,_,_,_,_,_,_,_,_,_]) rfl ?_
      refine wp_ret ?_
      refine e_ret (res3 rfl rfl rfl rfl) ⟨_, rfl, ?_⟩
      exact .inl ⟨⟨by omega, (Decidable.not_not.1 h44).symm⟩, _,_,_, rfl, hN2, H.sub (.cons _ (.cons _ (List.Sublist.refl _)))⟩

set_option maxHeartbeats 4000000 in
theorem good_spec (cs : List Value) (w0 : World) :
    Calls Try.prog 23 #[.iface 72 (.agg cs.toArray)] w0 fun e w => ∃ v, e = .returned v ∧ (∃ b, v = .func (.func 51) #[] #[.pointer (some ⟨b, 0, none⟩)] ∧ St w0 [] w [(b, .cells [.iface 72 (.agg cs.toArray)].toArray 89 (0, 0))]) := by
  have H := St.refl w0
  refine c_enter (args := [.iface 72 (.agg cs.toArray)]) (l := [.iface 72 (.agg cs.toArray), undef, undef, undef]) Try.func23 Try.ntmps23 rfl rfl ?_
  refine c_rseq (n := 4) ⟨rfl, rfl⟩ ?_
  refine s_new (m_box (cs := [.iface 72 (.agg cs.toArray)]) H rfl rfl) ?_
  intro w b1 H
  refine s_val (r_assign rfl) ?_
  refine c_nil (l' := [_,_,_,_]) rfl ?_
  refine c_rseq (n := 4) ⟨rfl, rfl⟩ ?_
  refine s_val (r_makeFunc en (ec rfl en)) ?_
  refine s_val (r_assign rfl) ?_
  refine c_nil (l' := [_,_,_,_]) rfl ?_
  refine wp_ret ?_
  refine e_ret (res1 rfl rfl) ⟨_, rfl, ?_⟩
  exact ⟨_, rfl, H⟩

set_option maxHeartbeats 4000000 in
theorem good1_spec (cs : List Value) (n : Int) (h0 : 0 ≤ n) (h1 : n < 4096) (s : Sec) (b : Nat) (w0 : World) (hb : w0.heap[b]? = some (.cells [.iface 72 (.agg cs.toArray)].toArray 89 (0, 0))) :
    Calls Try.prog 51 #[.int .i64 n, .agg (kC s).toArray, .pointer (some ⟨b, 0, none⟩)] w0 fun e w => ∃ v, e = .returned v ∧ (v = .bool (decide (Sealed n s)) ∧ St w0 [] w []) := by
  have H := St.refl w0
  refine c_enter (args := [.int .i64 n, .agg (kC s).toArray, .pointer (some ⟨b, 0, none⟩)]) (l := [.int .i64 n, .agg (kC s).toArray, .pointer (some ⟨b, 0, none⟩), undef, undef, undef, undef, undef, undef, undef, undef, undef, undef, undef, undef, undef, undef, undef]) Try.func51 Try.ntmps51 rfl rfl ?_
  refine c_rseq (n := 18) ⟨rfl, rfl⟩ ?_
  refine s_new (m_box (cs := (kC s)) H rfl rfl) ?_
  intro w b4 H
  refine s_val (r_assign rfl) ?_
  refine c_nil (l' := [_,_,_,_,_,_,_,_,_,_,_,_,_,_,_,_,_,_]) rfl ?_
  refine c_rseq (n := 18) ⟨rfl, rfl⟩ ?_
  refine s_val (r_load1 Try.isAgg89 rfl (H.rd0 hb) rfl) ?_
  refine s_val (r_move rfl) ?_
  refine s_val (r_loadn Try.isAgg97 Try.sizeOf97 rfl (H.at 0 rfl) (by first | exact (kC_td _) | exact (hC_td _) | exact (hC_seed _) | exact (shC_td _ _)) (by first | exact (kC_length _) | exact (hC_length _) | exact (shC_length _ _) | exact rfl)) ?_
  refine s_call (r_call Try.call41 (ec rfl (ec rfl (ec rfl en)))) (unpack_spec cs n h0 h1 s _) ?_
  rintro v w (⟨hs, a2, cap2, N2, rfl, hN2, HC⟩ | ⟨hs, rfl, HC⟩)
  · skip
    replace H := H.call0 HC
    refine s_val (r_move rfl) ?_
    refine s_val (r_extract rfl rfl) ?_
    refine s_val (r_extract rfl rfl) ?_
    refine s_val (r_extract rfl rfl) ?_
    refine s_val (r_assign rfl) ?_
    refine s_val (r_assign rfl) ?_
    refine s_val (r_assign rfl) ?_
    refine c_nil (l' := [_,_,_,_,_,_,_,_,_,_,_,_,_,_,_,_,_,_]) rfl ?_
    refine c_rseq (n := 18) ⟨rfl, rfl⟩ ?_
    refine s_val (r_move rfl) ?_
    refine s_val (r_assign rfl) ?_
    refine c_nil (l' := [_,_,_,_,_,_,_,_,_,_,_,_,_,_,_,_,_,_]) rfl ?_
    refine wp_ret ?_
    refine e_ret (res1 rfl rfl) ⟨_, rfl, ?_⟩
    exact ⟨by rw [decide_eq_true hs], H.sub (List.nil_sublist _)⟩
  · skip
    replace H := H.quiet HC
    refine s_val (r_move rfl) ?_
    refine s_val (r_extract rfl rfl) ?_
    refine s_val (r_extract rfl rfl) ?_
    refine s_val (r_extract rfl rfl) ?_
    refine s_val (r_assign rfl) ?_
    refine s_val (r_assign rfl) ?_
    refine s_val (r_assign rfl) ?_
    refine c_nil (l' := [_,_,_,_,_,_,_,_,_,_,_,_,_,_,_,_,_,_]) rfl ?_
    refine c_rseq (n := 18) ⟨rfl, rfl⟩ ?_
    refine s_val (r_move rfl) ?_
    refine s_val (r_assign rfl) ?_
    refine c_nil (l' := [_,_,_,_,_,_,_,_,_,_,_,_,_,_,_,_,_,_]) rfl ?_
    refine wp_ret ?_
    refine e_ret (res1 rfl rfl) ⟨_, rfl, ?_⟩
    exact ⟨by rw [decide_eq_false hs], H.sub (List.nil_sublist _)⟩

end Go.Proofs.Ytbjalofmamoffaa

