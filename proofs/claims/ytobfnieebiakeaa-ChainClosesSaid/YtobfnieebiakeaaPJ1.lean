import Derived.Test.YtobfnieebiakeaaPM
import Derived.Test.YtobfnieebiakeaaPW1
import Derived.Test.YtobfnieebiakeaaPVx2
namespace Go.Proofs.Ytobfnieebiakeaa
open Go Go.Er

set_option maxHeartbeats 4000000 in
theorem pad_spec (k : Key) (n : Int) (_hn0 : 0 ≤ n) (_hn1 : n < 18446744073709551616) (w0 : World) :
  Calls Try.prog 23 #[.agg (kC k).toArray, .int .u64 n] w0 fun e w => ∃ v, e = .returned v ∧ (v = .agg (kC (padB k n)).toArray ∧ St w0 [] w []) := by
 have H := St.refl w0
 refine c_enter (args := [.agg (kC k).toArray, .int .u64 n]) (l := t40 (t2 [])) Try.func23 Try.ntmps23 rfl rfl ?_
 refine zq 42 ⟨rfl, rfl⟩ ?_
 refine s_new (m_box (cs := (kC k)) H rfl rfl) ?_
 intro w b2 H
 refine s_new (zA (kC (By.zero 32)) H qo44) ?_
 intro w b4 H
 refine zc (t40 (t2 [])) ?_
 refine zq 42 ⟨rfl, rfl⟩ ?_
 refine s_new (zA (kC (By.zero 32)) H qo44) ?_
 intro w b5 H
 refine zc (t40 (t2 [])) ?_
 refine zq 42 ⟨rfl, rfl⟩ ?_
 refine s_val (ziA qu24 qs5) ?_
 refine s_val (r_load1 qg5 rfl (H.at 2 rfl) (kC_byt k 0 (by omega) (by omega))) ?_
 have hb0 := (byt k 0).toNat_lt
 have hb1 := (byt k 1).toNat_lt
 have hb2 := (byt k 2).toNat_lt
 refine s_val (r_conv qu5 qu28 rfl v6) ?_
 refine s_val (ziA qu24 qs5) ?_
 refine s_val (r_load1 qg5 rfl (H.at 2 rfl) (kC_byt k 1 (by omega) (by omega))) ?_
 refine s_val (r_conv qu5 qu28 rfl v6) ?_
 refine s_val (r_mul rfl rfl v6) ?_
 refine s_val (r_add rfl rfl v6) ?_
 refine s_val (ziA qu24 qs5) ?_
 refine s_val (r_load1 qg5 rfl (H.at 2 rfl) (kC_byt k 2 (by omega) (by omega))) ?_
 refine s_val (r_conv qu5 qu28 rfl v6) ?_
 refine s_val (r_mul rfl rfl v6) ?_
 refine s_val (r_add rfl rfl v6) ?_
 refine s_val (r_add rfl rfl v6) ?_
 refine za ?_
 refine zc (t40 (t2 [])) ?_
 refine c_seq ?_
 refine zq 42 ⟨rfl, rfl⟩ ?_
 refine za ?_
 refine zc (t40 (t2 [])) ?_
 refine wp_block ?_
 refine c_loop (fun (l0 : List Value) (i : Nat) (l : List Value) (w : World) => ∃ (u22 u23 u24 u25 u26 u27 u28 u29 u30 u31 u32 u33 u34 u35 u36 u37 u38 u39 u40 : Value) , l = ovr l0 [N_, N_, N_, N_, N_, N_, Y_ (.int .u64 (padX k n i)), Y_ (.int .i64 i), N_, N_, N_, N_, N_, N_, N_, N_, N_, N_, N_, N_, N_, N_, Y_ u22, Y_ u23, Y_ u24, Y_ u25, Y_ u26, Y_ u27, Y_ u28, Y_ u29, Y_ u30, Y_ u31, Y_ u32, Y_ u33, Y_ u34, Y_ u35, Y_ u36, Y_ u37, Y_ u38, Y_ u39, Y_ u40] ∧ i ≤ 32 ∧ St w0 [] w [(b5, .cells (bC (mix (padB k n).1 (List.replicate 32 0) i)).toArray 44 (0, 0)), (b4, .cells (kC (By.zero 32)).toArray 44 (0, 0)), (b2, .cells (kC k).toArray 24 (0, 0))]) (fun (i : Nat) => 32 - i) 0 ⟨_, _, _, _, _, _, _, _, _, _, _, _, _, _, _, _, _, _, _, rfl, by omega, (by rw [mix_zero]; exact H)⟩ ?_
 intro i l w ⟨u22, u23, u24, u25, u26, u27, u28, u29, u30, u31, u32, u33, u34, u35, u36, u37, u38, u39, u40, hl, hi, H⟩
 obtain rfl := hl.trans (rfl : _ = t40 (t2 []))
 clear hl
 refine c_seq ?_
 refine zq 42 ⟨rfl, rfl⟩ ?_
 refine zm ?_
 refine s_val (r_lss rfl rfl) ?_
 refine zc (t40 (t2 [])) ?_
 refine c_if rfl (fun h23 => ?_) (fun h23 => ?_)
 ·refine wp_skip ?_
  refine x_thenNormal ?_
  refine c_seq ?_
  refine wp_block ?_
  refine zq 42 ⟨rfl, rfl⟩ ?_
  refine zm ?_
  refine s_val (r_mul rfl rfl (w_u64' _)) ?_
  refine s_val (r_add rfl rfl (w_u64' _)) ?_
  refine zm ?_
  refine s_val (r_add rfl rfl (w_u64' _)) ?_
  refine zm ?_
  refine s_val (ziA qu24 qs5) ?_
  refine s_val (r_load1 qg5 rfl (H.at 2 rfl) (kC_byt k i (by omega) (by omega))) ?_
  have hbi := (byt k i).toNat_lt
  refine s_val (r_conv qu5 qu28 rfl v6) ?_
  refine s_val (r_add rfl rfl (show _ = padX k n (i + 1) from w_u64' _)) ?_
  refine za ?_
  refine zc (t40 (t2 [])) ?_
  refine c_region (n := 42) ⟨rfl, rfl⟩ ?_
  refine zm ?_
  refine zm ?_
  obtain ⟨hp0, hp1⟩ := padX_rng k n (i + 1)
  refine s_val (r_shr rfl rfl (by omega) (show _ = padX k n (i + 1) / 72057594037927936 from Int.fdiv_eq_ediv_of_nonneg _ (by decide))) ?_
  refine s_val (r_conv qu28 qu5 rfl ((w_u8' _).trans (Int.emod_eq_of_lt (by omega) (by omega)))) ?_
  refine s_val (ziA qu44 qs5) ?_
  refine s_st (m_store1 H 0 qs5 rfl rfl rfl rfl (by rw [bC_length, mix_length _ _ (by rw [(padB k n).2, List.length_replicate]), List.length_replicate]; omega) (mix_set _ _ i (by rw [(padB k n).2, List.length_replicate]) (by rw [List.length_replicate]; omega) (by omega) (padB_byt k n (by omega)))) (L' := [_,_,_]) rfl ?_
  intro w H
  refine zb (t40 (t2 [])) ?_
  refine x_blockNormal ?_
  refine x_thenNormal ?_
  refine c_region (n := 42) ⟨rfl, rfl⟩ ?_
  refine zm ?_
  refine zj ?_
  refine za ?_
  refine zb (t40 (t2 [])) ?_
  exact ⟨i + 1, _, rfl, ⟨_, _, _, _, _, _, _, _, _, _, _, _, _, _, _, _, _, _, _, rfl, by omega, H⟩, by omega⟩
 ·obtain rfl : i = 32 := by omega
  rw [mix_all _ _ (padB k n).2 (List.length_replicate ..)] at H
  have hq5 : (bC (padB k n).1).length = 32 := kC_length _
  refine wp_exit (x_thenExit (x_thenExit (x_blockHit ?_)))
  refine x_thenNormal ?_
  refine zq 42 ⟨rfl, rfl⟩ ?_
  skip
  refine s_val (r_loadn qg44 qs44 rfl (H.at 0 rfl) (by first | exact (kC_td _) | exact (hC_td _) | exact (hC_seed _) | exact (all_td 32 hq5)) hq5) ?_
  refine s_st (zs H 1 32 qs44) (L' := [_,_,_]) rfl ?_
  intro w H
  refine zc (t40 (t2 [])) ?_
  refine wp_ret ?_
  refine zw (rc_one rfl (ro qg44 qs44 (H.at 1 rfl))) ?_
  exact ⟨rfl, H.sub (.cons _ (.cons _ (.cons _ .slnil)))⟩

set_option maxHeartbeats 4000000 in
theorem lits_spec (k : Key) (w0 : World) :
  Calls Try.prog 123 #[.agg (kC k).toArray] w0 fun e w => ∃ v, e = .returned v ∧ (v = .tuple #[.agg (kC (litL k)).toArray, .agg (kC (litR k)).toArray] ∧ St w0 [] w []) := by
 have H := St.refl w0
 refine c_enter (args := [.agg (kC k).toArray]) (l := t10 (t2 [])) Try.func123 Try.ntmps123 rfl rfl ?_
 refine zq 12 ⟨rfl, rfl⟩ ?_
 refine s_new (m_box (cs := (kC k)) H rfl rfl) ?_
 intro w b1 H
 refine s_new (zA (kC (By.zero 32)) H qo24) ?_
 intro w b2 H
 refine s_new (zA (kC (By.zero 32)) H qo24) ?_
 intro w b3 H
 refine zc (t10 (t2 [])) ?_
 refine zq 12 ⟨rfl, rfl⟩ ?_
 refine s_val (zo qg24 qs24 (H.at 2 rfl)) ?_
 refine s_call (r_call qc23 (ec rfl (ec rfl en))) (pad_spec _ _ (by omega) (by omega) _) ?_
 rintro v w ⟨rfl, HC⟩
 replace H := H.quiet HC
 refine s_new (zA (kC (By.zero 32)) H qo44) ?_
 intro w b4 H
 refine s_st (zs H 0 32 qs44) (L' := [_,_,_,_]) rfl ?_
 intro w H
 refine zc (t10 (t2 [])) ?_
 refine zq 12 ⟨rfl, rfl⟩ ?_
 refine s_val (zo qg24 qs24 (H.at 3 rfl)) ?_
 refine s_call (r_call qc23 (ec rfl (ec rfl en))) (pad_spec _ _ (by omega) (by omega) _) ?_
 rintro v w ⟨rfl, HC⟩
 replace H := H.quiet HC
 refine s_new (zA (kC (By.zero 32)) H qo44) ?_
 intro w b5 H
 refine s_st (zs H 0 32 qs44) (L' := [_,_,_,_,_]) rfl ?_
 intro w H
 refine zc (t10 (t2 [])) ?_
 refine c_seq ?_
 refine d_begin (sz := 12) ⟨rfl, rfl⟩ (by kernel_rfl) H (H.sub x11001n) rfl ?_
 intro w H
 refine zdh 0 rfl (by kernel_rfl) (fun _ _ _ h => h) (H.sub x11001n) (fun HS => zo qg44 qs44 (HS.at 1 rfl)) rfl ?_
 refine zdh 1 rfl (by kernel_rfl) (fun _ _ _ h => h) (H.sub x11001n) (fun HS => zo qg44 qs44 (HS.at 0 rfl)) rfl ?_
 refine zl1 2 ?_
 refine b_st rfl go_none (zs H 3 32 qs24) (L' := [_,_,_,_,_]) rfl rfl (fun _ H => (H.sub x11001n)) ?_
 intro w H
 refine zl1 3 ?_
 refine b_st rfl go_none (zs H 2 32 qs24) (L' := [_,_,_,_,_]) rfl rfl (fun _ H => (H.sub x11001n)) ?_
 intro w H
 refine zz (t10 (t2 [])) ?_
 refine x_thenNormal ?_
 refine wp_ret ?_
 refine zw (rc_two rfl (ro qg24 qs24 (H.at 3 rfl)) (ro qg24 qs24 (H.at 2 rfl))) ?_
 exact ⟨rfl, H.sub (List.nil_sublist _)⟩

set_option maxHeartbeats 4000000 in
theorem litm_spec (k : Key) (cs : List Value) (w0 : World) :
  Calls Try.prog 122 #[.agg cs.toArray, .agg (kC k).toArray] w0 fun e w => ∃ v, e = .returned v ∧ (v = .tuple #[.agg (kC (litL k)).toArray, .agg (kC (litR k)).toArray] ∧ St w0 [] w []) := by
 have H := St.refl w0
 refine c_enter (args := [.agg cs.toArray, .agg (kC k).toArray]) (l := t10 []) Try.func122 Try.ntmps122 rfl rfl ?_
 refine zq 10 ⟨rfl, rfl⟩ ?_
 refine s_new (m_box (cs := cs) H rfl rfl) ?_
 intro w b2 H
 refine s_new (m_box (cs := (kC k)) H rfl rfl) ?_
 intro w b3 H
 refine s_new (zA (kC (By.zero 32)) H qo24) ?_
 intro w b4 H
 refine s_new (zA (kC (By.zero 32)) H qo24) ?_
 intro w b5 H
 refine zc (t10 []) ?_
 refine zq 10 ⟨rfl, rfl⟩ ?_
 refine s_val (zo qg24 qs24 (H.at 2 rfl)) ?_
 refine s_call (r_call Try.call123 (ec rfl en)) (lits_spec _ _) ?_
 rintro v w ⟨rfl, HC⟩
 replace H := H.quiet HC
 refine ze ?_
 refine ze ?_
 refine s_st (zs H 1 32 qs24) (L' := [_,_,_,_]) rfl ?_
 intro w H
 refine s_st (zs H 0 32 qs24) (L' := [_,_,_,_]) rfl ?_
 intro w H
 refine zc (t10 []) ?_
 refine wp_ret ?_
 refine zw (rc_two rfl (ro qg24 qs24 (H.at 1 rfl)) (ro qg24 qs24 (H.at 0 rfl))) ?_
 exact ⟨rfl, H.sub (List.nil_sublist _)⟩

theorem splits_lit (cs : List Value) : SplitsBy Try.prog (.iface 49 (.agg cs.toArray)) litL litR := ⟨_,_, 122, .agg cs.toArray, rfl, Try.call122, fun _ => by kernel_rfl, fun k w => litm_spec k cs w⟩

end Go.Proofs.Ytobfnieebiakeaa

