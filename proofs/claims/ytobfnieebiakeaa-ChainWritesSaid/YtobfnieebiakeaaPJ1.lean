import Derived.Test.YtobfnieebiakeaaPW1
import Derived.Test.YtobfnieebiakeaaPVx2
namespace Go.Proofs.Ytobfnieebiakeaa
open Go Go.Er

set_option maxHeartbeats 4000000 in
theorem pad_spec (k : Key) (n : Int) (_hn0 : 0 ≤ n) (_hn1 : n < 18446744073709551616) (w0 : World) :
  Calls Try.prog 23 #[.agg (kC k).toArray, .int .u64 n] w0 fun e w => ∃ v, e = .returned v ∧ (v = .agg (kC (padB k n)).toArray ∧ St w0 [] w []) := by
 have H := St.refl w0
 refine c_enter (args := [.agg (kC k).toArray, .int .u64 n]) (l := [.agg (kC k).toArray, .int .u64 n, undef, undef, undef, undef, undef, undef, undef, undef, undef, undef, undef, undef, undef, undef, undef, undef, undef, undef, undef, undef, undef, undef, undef, undef, undef, undef, undef, undef, undef, undef, undef, undef, undef, undef, undef, undef, undef, undef, undef, undef]) Try.func23 Try.ntmps23 rfl rfl ?_
 refine c_rseq (n := 42) ⟨rfl, rfl⟩ ?_
 refine s_new (m_box (cs := (kC k)) H rfl rfl) ?_
 intro w b2 H
 refine s_new (m_alloc (cs := (kC (By.zero 32))) H Try.zeroValue44 rfl) ?_
 intro w b4 H
 refine c_nil (l' := [_,_,_,_,_,_,_,_,_,_,_,_,_,_,_,_,_,_,_,_,_,_,_,_,_,_,_,_,_,_,_,_,_,_,_,_,_,_,_,_,_,_]) rfl ?_
 refine c_rseq (n := 42) ⟨rfl, rfl⟩ ?_
 refine s_new (m_alloc (cs := (kC (By.zero 32))) H Try.zeroValue44 rfl) ?_
 intro w b5 H
 refine c_nil (l' := [_,_,_,_,_,_,_,_,_,_,_,_,_,_,_,_,_,_,_,_,_,_,_,_,_,_,_,_,_,_,_,_,_,_,_,_,_,_,_,_,_,_]) rfl ?_
 refine c_rseq (n := 42) ⟨rfl, rfl⟩ ?_
 refine s_val (r_indexAddrA Try.runUnderlying24 Try.sizeOf5 rfl rfl (by omega) (by omega)) ?_
 refine s_val (r_load1 Try.isAgg5 rfl (H.at 2 rfl) (kC_byt k 0 (by omega) (by omega))) ?_
 have hb0 := (byt k 0).toNat_lt
 have hb1 := (byt k 1).toNat_lt
 have hb2 := (byt k 2).toNat_lt
 refine s_val (r_conv Try.runUnderlying5 Try.runUnderlying28 rfl (w_u64 (by omega) (by omega))) ?_
 refine s_val (r_indexAddrA Try.runUnderlying24 Try.sizeOf5 rfl rfl (by omega) (by omega)) ?_
 refine s_val (r_load1 Try.isAgg5 rfl (H.at 2 rfl) (kC_byt k 1 (by omega) (by omega))) ?_
 refine s_val (r_conv Try.runUnderlying5 Try.runUnderlying28 rfl (w_u64 (by omega) (by omega))) ?_
 refine s_val (r_mul rfl rfl (w_u64 (by omega) (by omega))) ?_
 refine s_val (r_add rfl rfl (w_u64 (by omega) (by omega))) ?_
 refine s_val (r_indexAddrA Try.runUnderlying24 Try.sizeOf5 rfl rfl (by omega) (by omega)) ?_
 refine s_val (r_load1 Try.isAgg5 rfl (H.at 2 rfl) (kC_byt k 2 (by omega) (by omega))) ?_
 refine s_val (r_conv Try.runUnderlying5 Try.runUnderlying28 rfl (w_u64 (by omega) (by omega))) ?_
 refine s_val (r_mul rfl rfl (w_u64 (by omega) (by omega))) ?_
 refine s_val (r_add rfl rfl (w_u64 (by omega) (by omega))) ?_
 refine s_val (r_add rfl rfl (w_u64 (by omega) (by omega))) ?_
 refine s_val (r_assign rfl) ?_
 refine c_nil (l' := [_,_,_,_,_,_,_,_,_,_,_,_,_,_,_,_,_,_,_,_,_,_,_,_,_,_,_,_,_,_,_,_,_,_,_,_,_,_,_,_,_,_]) rfl ?_
 refine c_seq ?_
 refine c_rseq (n := 42) ⟨rfl, rfl⟩ ?_
 refine s_val (r_assign rfl) ?_
 refine c_nil (l' := [_,_,_,_,_,_,_,_,_,_,_,_,_,_,_,_,_,_,_,_,_,_,_,_,_,_,_,_,_,_,_,_,_,_,_,_,_,_,_,_,_,_]) rfl ?_
 refine wp_block ?_
 refine c_loop (fun (l0 : List Value) (i : Nat) (l : List Value) (w : World) => ∃ (u22 u23 u24 u25 u26 u27 u28 u29 u30 u31 u32 u33 u34 u35 u36 u37 u38 u39 u40 : Value) , l = ovr l0 [N_, N_, N_, N_, N_, N_, Y_ (.int .u64 (padX k n i)), Y_ (.int .i64 i), N_, N_, N_, N_, N_, N_, N_, N_, N_, N_, N_, N_, N_, N_, Y_ u22, Y_ u23, Y_ u24, Y_ u25, Y_ u26, Y_ u27, Y_ u28, Y_ u29, Y_ u30, Y_ u31, Y_ u32, Y_ u33, Y_ u34, Y_ u35, Y_ u36, Y_ u37, Y_ u38, Y_ u39, Y_ u40] ∧ i ≤ 32 ∧ St w0 [] w [(b5, .cells (bC (mix (padB k n).1 (List.replicate 32 0) i)).toArray 44 (0, 0)), (b4, .cells (kC (By.zero 32)).toArray 44 (0, 0)), (b2, .cells (kC k).toArray 24 (0, 0))]) (fun (i : Nat) => 32 - i) 0 ⟨_,_,_,_,_,_,_,_,_,_,_,_,_,_,_,_,_,_,_, rfl, by omega, (by rw [mix_zero]; exact H)⟩ ?_
 intro i l w ⟨u22, u23, u24, u25, u26, u27, u28, u29, u30, u31, u32, u33, u34, u35, u36, u37, u38, u39, u40, hl, hi, H⟩
 obtain rfl := hl.trans (rfl : _ = [_,_,_,_,_,_,_,_,_,_,_,_,_,_,_,_,_,_,_,_,_,_,_,_,_,_,_,_,_,_,_,_,_,_,_,_,_,_,_,_,_,_])
 clear hl
 refine c_seq ?_
 refine c_rseq (n := 42) ⟨rfl, rfl⟩ ?_
 refine s_val (r_move rfl) ?_
 refine s_val (r_lss rfl rfl) ?_
 refine c_nil (l' := [_,_,_,_,_,_,_,_,_,_,_,_,_,_,_,_,_,_,_,_,_,_,_,_,_,_,_,_,_,_,_,_,_,_,_,_,_,_,_,_,_,_]) rfl ?_
 refine c_if rfl (fun h23 => ?_) (fun h23 => ?_)
 ·skip
  refine wp_skip ?_
  refine x_thenNormal ?_
  refine c_seq ?_
  refine wp_block ?_
  refine c_rseq (n := 42) ⟨rfl, rfl⟩ ?_
  refine s_val (r_move rfl) ?_
  refine s_val (r_mul rfl rfl (w_u64' _)) ?_
  refine s_val (r_add rfl rfl (w_u64' _)) ?_
  refine s_val (r_move rfl) ?_
  refine s_val (r_add rfl rfl (w_u64' _)) ?_
  refine s_val (r_move rfl) ?_
  refine s_val (r_indexAddrA Try.runUnderlying24 Try.sizeOf5 rfl rfl (by omega) (by omega)) ?_
  refine s_val (r_load1 Try.isAgg5 rfl (H.at 2 rfl) (kC_byt k i (by omega) (by omega))) ?_
  have hbi := (byt k i).toNat_lt
  refine s_val (r_conv Try.runUnderlying5 Try.runUnderlying28 rfl (w_u64 (by omega) (by omega))) ?_
  refine s_val (r_add rfl rfl (show _ = padX k n (i + 1) from w_u64' _)) ?_
  refine s_val (r_assign rfl) ?_
  refine c_nil (l' := [_,_,_,_,_,_,_,_,_,_,_,_,_,_,_,_,_,_,_,_,_,_,_,_,_,_,_,_,_,_,_,_,_,_,_,_,_,_,_,_,_,_]) rfl ?_
  refine c_region (n := 42) ⟨rfl, rfl⟩ ?_
  refine s_val (r_move rfl) ?_
  refine s_val (r_move rfl) ?_
  obtain ⟨hp0, hp1⟩ := padX_rng k n (i + 1)
  refine s_val (r_shr rfl rfl (by omega) (show _ = padX k n (i + 1) / 72057594037927936 from Int.fdiv_eq_ediv_of_nonneg _ (by decide))) ?_
  refine s_val (r_conv Try.runUnderlying28 Try.runUnderlying5 rfl ((w_u8' _).trans (Int.emod_eq_of_lt (by omega) (by omega)))) ?_
  refine s_val (r_indexAddrA Try.runUnderlying44 Try.sizeOf5 rfl rfl (by omega) (by omega)) ?_
  refine s_st (m_store1 H 0 Try.sizeOf5 rfl rfl rfl rfl (by rw [bC_length, mix_length _ _ (by rw [(padB k n).2, List.length_replicate]), List.length_replicate]; omega) (mix_set _ _ i (by rw [(padB k n).2, List.length_replicate]) (by rw [List.length_replicate]; omega) (by omega) (padB_byt k n (by omega)))) (L' := [_,_,_]) rfl ?_
  intro w H
  refine c_nil0 (l' := [_,_,_,_,_,_,_,_,_,_,_,_,_,_,_,_,_,_,_,_,_,_,_,_,_,_,_,_,_,_,_,_,_,_,_,_,_,_,_,_,_,_]) rfl ?_
  refine x_blockNormal ?_
  refine x_thenNormal ?_
  refine c_region (n := 42) ⟨rfl, rfl⟩ ?_
  refine s_val (r_move rfl) ?_
  refine s_val (r_add rfl rfl (w_i64 (by omega) (by omega))) ?_
  refine s_val (r_assign rfl) ?_
  refine c_nil0 (l' := [_,_,_,_,_,_,_,_,_,_,_,_,_,_,_,_,_,_,_,_,_,_,_,_,_,_,_,_,_,_,_,_,_,_,_,_,_,_,_,_,_,_]) rfl ?_
  exact ⟨i + 1, _, rfl, ⟨_,_,_,_,_,_,_,_,_,_,_,_,_,_,_,_,_,_,_, rfl, by omega, H⟩, by omega⟩
 ·skip
  obtain rfl : i = 32 := by omega
  rw [mix_all _ _ (padB k n).2 (List.length_replicate ..)] at H
  have hq5 : (bC (padB k n).1).length = 32 := kC_length _
  refine wp_exit (x_thenExit (x_thenExit (x_blockHit ?_)))
  refine x_thenNormal ?_
  refine c_rseq (n := 42) ⟨rfl, rfl⟩ ?_
  skip
  refine s_val (r_loadn Try.isAgg44 Try.sizeOf44 rfl (H.at 0 rfl) (by first | exact (kC_td _) | exact (hC_td _) | exact (hC_seed _) | exact (all_td 32 hq5)) hq5) ?_
  refine s_st (m_storen H 1 32 Try.sizeOf44 rfl rfl (by first | exact (kC_length _) | exact (hC_length _)) (by first | exact (kC_one _) | exact (hC_one _)) rfl (by first | exact (by rw [kC_length]; omega) | exact (by rw [hC_length]; omega)) (by first | exact (kC_sp _ _) | exact (hC_sp _ _) | exact (kC_sp _ (padB k n)))) (L' := [_,_,_]) rfl ?_
  intro w H
  refine c_nil (l' := [_,_,_,_,_,_,_,_,_,_,_,_,_,_,_,_,_,_,_,_,_,_,_,_,_,_,_,_,_,_,_,_,_,_,_,_,_,_,_,_,_,_]) rfl ?_
  refine wp_ret ?_
  refine e_ret (rc_one rfl (rc_celln Try.isAgg44 Try.sizeOf44 rfl (H.at 1 rfl) (by first | exact (kC_td _) | exact (hC_td _) | exact (hC_seed _) | exact (all_td 32 hq5)) (by first | exact (kC_length _) | exact (hC_length _)))) ⟨_, rfl, ?_⟩
  exact ⟨rfl, H.sub (.cons _ (.cons _ (.cons _ .slnil)))⟩

set_option maxHeartbeats 4000000 in
theorem lits_spec (k : Key) (w0 : World) :
  Calls Try.prog 123 #[.agg (kC k).toArray] w0 fun e w => ∃ v, e = .returned v ∧ (v = .tuple #[.agg (kC (litL k)).toArray, .agg (kC (litR k)).toArray] ∧ St w0 [] w []) := by
 have H := St.refl w0
 refine c_enter (args := [.agg (kC k).toArray]) (l := [.agg (kC k).toArray, undef, undef, undef, undef, undef, undef, undef, undef, undef, undef, undef]) Try.func123 Try.ntmps123 rfl rfl ?_
 refine c_rseq (n := 12) ⟨rfl, rfl⟩ ?_
 refine s_new (m_box (cs := (kC k)) H rfl rfl) ?_
 intro w b1 H
 refine s_new (m_alloc (cs := (kC (By.zero 32))) H Try.zeroValue24 rfl) ?_
 intro w b2 H
 refine s_new (m_alloc (cs := (kC (By.zero 32))) H Try.zeroValue24 rfl) ?_
 intro w b3 H
 refine c_nil (l' := [_,_,_,_,_,_,_,_,_,_,_,_]) rfl ?_
 refine c_rseq (n := 12) ⟨rfl, rfl⟩ ?_
 refine s_val (r_loadn Try.isAgg24 Try.sizeOf24 rfl (H.at 2 rfl) (by first | exact (kC_td _) | exact (hC_td _) | exact (hC_seed _)) (by first | exact (kC_length _) | exact (hC_length _) | exact rfl)) ?_
 refine s_call (r_call Try.call23 (ec rfl (ec rfl en))) (pad_spec _ _ (by omega) (by omega) _) ?_
 rintro v w ⟨rfl, HC⟩
 replace H := H.quiet HC
 refine s_new (m_alloc (cs := (kC (By.zero 32))) H Try.zeroValue44 rfl) ?_
 intro w b4 H
 refine s_st (m_storen H 0 32 Try.sizeOf44 rfl rfl (by first | exact (kC_length _) | exact (hC_length _)) (by first | exact (kC_one _) | exact (hC_one _)) rfl (by first | exact (by rw [kC_length]; omega) | exact (by rw [hC_length]; omega)) (by first | exact (kC_sp _ _) | exact (hC_sp _ _))) (L' := [_,_,_,_]) rfl ?_
 intro w H
 refine c_nil (l' := [_,_,_,_,_,_,_,_,_,_,_,_]) rfl ?_
 refine c_rseq (n := 12) ⟨rfl, rfl⟩ ?_
 refine s_val (r_loadn Try.isAgg24 Try.sizeOf24 rfl (H.at 3 rfl) (by first | exact (kC_td _) | exact (hC_td _) | exact (hC_seed _)) (by first | exact (kC_length _) | exact (hC_length _) | exact rfl)) ?_
 refine s_call (r_call Try.call23 (ec rfl (ec rfl en))) (pad_spec _ _ (by omega) (by omega) _) ?_
 rintro v w ⟨rfl, HC⟩
 replace H := H.quiet HC
 refine s_new (m_alloc (cs := (kC (By.zero 32))) H Try.zeroValue44 rfl) ?_
 intro w b5 H
 refine s_st (m_storen H 0 32 Try.sizeOf44 rfl rfl (by first | exact (kC_length _) | exact (hC_length _)) (by first | exact (kC_one _) | exact (hC_one _)) rfl (by first | exact (by rw [kC_length]; omega) | exact (by rw [hC_length]; omega)) (by first | exact (kC_sp _ _) | exact (hC_sp _ _))) (L' := [_,_,_,_,_]) rfl ?_
 intro w H
 refine c_nil (l' := [_,_,_,_,_,_,_,_,_,_,_,_]) rfl ?_
 refine c_seq ?_
 refine d_begin (sz := 12) ⟨rfl, rfl⟩ (by kernel_rfl) H (H.sub (.cons_cons _ (.cons_cons _ (.cons _ (.cons _ (.cons_cons _ .slnil)))))) rfl ?_
 intro w H
 refine d_take (i := 0) rfl (by kernel_rfl) (fun _ _ _ h => h) (H.sub (.cons_cons _ (.cons_cons _ (.cons _ (.cons _ (.cons_cons _ .slnil)))))) (fun _ HS => r_loadn Try.isAgg44 Try.sizeOf44 rfl (HS.at 1 rfl) (by first | exact (kC_td _) | exact (hC_td _) | exact (hC_seed _)) (by first | exact (kC_length _) | exact (hC_length _) | exact rfl)) rfl ?_
 refine d_take (i := 1) rfl (by kernel_rfl) (fun _ _ _ h => h) (H.sub (.cons_cons _ (.cons_cons _ (.cons _ (.cons _ (.cons_cons _ .slnil)))))) (fun _ HS => r_loadn Try.isAgg44 Try.sizeOf44 rfl (HS.at 0 rfl) (by first | exact (kC_td _) | exact (hC_td _) | exact (hC_seed _)) (by first | exact (kC_length _) | exact (hC_length _) | exact rfl)) rfl ?_
 refine d_all1 (i := 2) (by kernel_rfl) ?_
 refine b_st rfl go_none (m_storen H 3 32 Try.sizeOf24 rfl rfl (by first | exact (kC_length _) | exact (hC_length _)) (by first | exact (kC_one _) | exact (hC_one _)) rfl (by first | exact (by rw [kC_length]; omega) | exact (by rw [hC_length]; omega)) (by first | exact (kC_sp _ _) | exact (hC_sp _ _))) (L' := [_,_,_,_,_]) rfl rfl (fun _ H => (H.sub (.cons_cons _ (.cons_cons _ (.cons _ (.cons _ (.cons_cons _ .slnil))))))) ?_
 intro w H
 refine d_all1 (i := 3) (by kernel_rfl) ?_
 refine b_st rfl go_none (m_storen H 2 32 Try.sizeOf24 rfl rfl (by first | exact (kC_length _) | exact (hC_length _)) (by first | exact (kC_one _) | exact (hC_one _)) rfl (by first | exact (by rw [kC_length]; omega) | exact (by rw [hC_length]; omega)) (by first | exact (kC_sp _ _) | exact (hC_sp _ _))) (L' := [_,_,_,_,_]) rfl rfl (fun _ H => (H.sub (.cons_cons _ (.cons_cons _ (.cons _ (.cons _ (.cons_cons _ .slnil))))))) ?_
 intro w H
 refine d_done (l' := [_,_,_,_,_,_,_,_,_,_,_,_]) (by kernel_rfl) rfl ?_
 refine x_thenNormal ?_
 refine wp_ret ?_
 refine e_ret (rc_two rfl (rc_celln Try.isAgg24 Try.sizeOf24 rfl (H.at 3 rfl) (by first | exact (kC_td _) | exact (hC_td _) | exact (hC_seed _)) (by first | exact (kC_length _) | exact (hC_length _))) (rc_celln Try.isAgg24 Try.sizeOf24 rfl (H.at 2 rfl) (by first | exact (kC_td _) | exact (hC_td _) | exact (hC_seed _)) (by first | exact (kC_length _) | exact (hC_length _)))) ⟨_, rfl, ?_⟩
 exact ⟨rfl, H.sub (List.nil_sublist _)⟩

set_option maxHeartbeats 4000000 in
theorem litm_spec (k : Key) (cs : List Value) (w0 : World) :
  Calls Try.prog 122 #[.agg cs.toArray, .agg (kC k).toArray] w0 fun e w => ∃ v, e = .returned v ∧ (v = .tuple #[.agg (kC (litL k)).toArray, .agg (kC (litR k)).toArray] ∧ St w0 [] w []) := by
 have H := St.refl w0
 refine c_enter (args := [.agg cs.toArray, .agg (kC k).toArray]) (l := [.agg cs.toArray, .agg (kC k).toArray, undef, undef, undef, undef, undef, undef, undef, undef]) Try.func122 Try.ntmps122 rfl rfl ?_
 refine c_rseq (n := 10) ⟨rfl, rfl⟩ ?_
 refine s_new (m_box (cs := cs) H rfl rfl) ?_
 intro w b2 H
 refine s_new (m_box (cs := (kC k)) H rfl rfl) ?_
 intro w b3 H
 refine s_new (m_alloc (cs := (kC (By.zero 32))) H Try.zeroValue24 rfl) ?_
 intro w b4 H
 refine s_new (m_alloc (cs := (kC (By.zero 32))) H Try.zeroValue24 rfl) ?_
 intro w b5 H
 refine c_nil (l' := [_,_,_,_,_,_,_,_,_,_]) rfl ?_
 refine c_rseq (n := 10) ⟨rfl, rfl⟩ ?_
 refine s_val (r_loadn Try.isAgg24 Try.sizeOf24 rfl (H.at 2 rfl) (by first | exact (kC_td _) | exact (hC_td _) | exact (hC_seed _)) (by first | exact (kC_length _) | exact (hC_length _) | exact rfl)) ?_
 refine s_call (r_call Try.call123 (ec rfl en)) (lits_spec _ _) ?_
 rintro v w ⟨rfl, HC⟩
 replace H := H.quiet HC
 refine s_val (r_extract rfl rfl) ?_
 refine s_val (r_extract rfl rfl) ?_
 refine s_st (m_storen H 1 32 Try.sizeOf24 rfl rfl (by first | exact (kC_length _) | exact (hC_length _)) (by first | exact (kC_one _) | exact (hC_one _)) rfl (by first | exact (by rw [kC_length]; omega) | exact (by rw [hC_length]; omega)) (by first | exact (kC_sp _ _) | exact (hC_sp _ _))) (L' := [_,_,_,_]) rfl ?_
 intro w H
 refine s_st (m_storen H 0 32 Try.sizeOf24 rfl rfl (by first | exact (kC_length _) | exact (hC_length _)) (by first | exact (kC_one _) | exact (hC_one _)) rfl (by first | exact (by rw [kC_length]; omega) | exact (by rw [hC_length]; omega)) (by first | exact (kC_sp _ _) | exact (hC_sp _ _))) (L' := [_,_,_,_]) rfl ?_
 intro w H
 refine c_nil (l' := [_,_,_,_,_,_,_,_,_,_]) rfl ?_
 refine wp_ret ?_
 refine e_ret (rc_two rfl (rc_celln Try.isAgg24 Try.sizeOf24 rfl (H.at 1 rfl) (by first | exact (kC_td _) | exact (hC_td _) | exact (hC_seed _)) (by first | exact (kC_length _) | exact (hC_length _))) (rc_celln Try.isAgg24 Try.sizeOf24 rfl (H.at 0 rfl) (by first | exact (kC_td _) | exact (hC_td _) | exact (hC_seed _)) (by first | exact (kC_length _) | exact (hC_length _)))) ⟨_, rfl, ?_⟩
 exact ⟨rfl, H.sub (List.nil_sublist _)⟩

theorem splits_lit (cs : List Value) : SplitsBy Try.prog (.iface 49 (.agg cs.toArray)) litL litR := ⟨_,_, 122, .agg cs.toArray, rfl, Try.call122, fun _ => by kernel_rfl, fun k w => litm_spec k cs w⟩

end Go.Proofs.Ytobfnieebiakeaa

