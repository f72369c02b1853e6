import Derived.Test.YtobfnieebiakeaaProg
import Derived.Test.YtobfnieebiakeaaPVx2
namespace Go.Proofs.Ytobfnieebiakeaa
open Go Go.Er
theorem bytes5 : Try.t5.bytes = 1 := rfl

set_option maxHeartbeats 4000000 in
theorem has_k (k : Int) (w0 : World) :
  Calls Try.prog 64 #[.int .i64 k] w0 fun e w => ∃ v, e = .returned v ∧ (v = .tuple #[.agg (ptC (kPl k) (kRf k) (kMi k) (kBo k)).toArray, .bool (kOk k)] ∧ St w0 [] w []) := by
 have H := St.refl w0
 refine c_enter (args := [.int .i64 k]) (l := [.int .i64 k, undef, undef, undef, undef, undef, undef, undef, undef, undef, undef, undef, undef, undef, undef, undef, undef, undef, undef, undef, undef, undef, undef, undef, undef, undef, undef]) Try.func64 Try.ntmps64 rfl rfl ?_
 refine c_rseq (n := 27) ⟨rfl, rfl⟩ ?_
 refine s_new (m_alloc (cs := (ptC false false false false)) H Try.zeroValue121 rfl) ?_
 intro w b2 H
 refine s_val (r_assign rfl) ?_
 refine c_nil (l' := [_,_,_,_,_,_,_,_,_,_,_,_,_,_,_,_,_,_,_,_,_,_,_,_,_,_,_]) rfl ?_
 refine c_rseq (n := 27) ⟨rfl, rfl⟩ ?_
 refine s_new (m_alloc (cs := (ptC false false false false)) H Try.zeroValue121 rfl) ?_
 intro w b4 H
 refine c_nil (l' := [_,_,_,_,_,_,_,_,_,_,_,_,_,_,_,_,_,_,_,_,_,_,_,_,_,_,_]) rfl ?_
 refine c_seq ?_
 refine c_rseq (n := 27) ⟨rfl, rfl⟩ ?_
 refine s_val (r_move rfl) ?_
 refine c_nil (l' := [_,_,_,_,_,_,_,_,_,_,_,_,_,_,_,_,_,_,_,_,_,_,_,_,_,_,_]) rfl ?_
 refine wp_block ?_
 refine c_seq ?_
 refine wp_block ?_
 refine c_seq ?_
 refine wp_block ?_
 refine c_seq ?_
 refine wp_block ?_
 refine c_seq ?_
 refine wp_block ?_
 refine c_seq ?_
 refine wp_block ?_
 refine c_seq ?_
 refine wp_block ?_
 refine c_seq ?_
 refine wp_block ?_
 refine c_seq ?_
 refine c_seq ?_
 refine c_seq ?_
 refine c_rseq (n := 27) ⟨rfl, rfl⟩ ?_
 refine s_val (r_eql rfl rfl) ?_
 refine s_val (r_assign rfl) ?_
 refine c_nil (l' := [_,_,_,_,_,_,_,_,_,_,_,_,_,_,_,_,_,_,_,_,_,_,_,_,_,_,_]) rfl ?_
 refine c_if rfl (fun h6 => ?_) (fun h6 => ?_)
 ·skip
  skip
  refine wp_skip ?_
  refine x_thenNormal ?_
  refine c_if rfl (fun h6 => ?_) (fun h6 => ?_)
  ·skip
   skip
   refine wp_exit (x_thenExit (x_thenExit (x_blockHit ?_)))
   refine x_thenNormal ?_
   refine c_region (n := 27) ⟨rfl, rfl⟩ ?_
   refine s_val (r_fieldAddr (k := 3) Try.runUnderlying121 rfl Try.sizeOf4 (by decide) rfl rfl) ?_
   refine s_st (m_store1 H 0 Try.sizeOf4 rfl rfl rfl rfl (by show _ < 4; omega) rfl) (L' := (_ :: _ :: _)) rfl ?_
   intro w H
   refine c_nil0 (l' := [_,_,_,_,_,_,_,_,_,_,_,_,_,_,_,_,_,_,_,_,_,_,_,_,_,_,_]) rfl ?_
   refine x_blockNormal ?_
   refine x_thenNormal ?_
   refine c_region (n := 27) ⟨rfl, rfl⟩ ?_
   refine s_val (r_fieldAddr (k := 1) Try.runUnderlying121 rfl Try.sizeOf4 (by decide) rfl rfl) ?_
   refine s_st (m_store1 H 0 Try.sizeOf4 rfl rfl rfl rfl (by show _ < 4; omega) rfl) (L' := (_ :: _ :: _)) rfl ?_
   intro w H
   refine c_nil0 (l' := [_,_,_,_,_,_,_,_,_,_,_,_,_,_,_,_,_,_,_,_,_,_,_,_,_,_,_]) rfl ?_
   refine x_blockNormal ?_
   refine x_thenNormal ?_
   refine c_rseq (n := 27) ⟨rfl, rfl⟩ ?_
   refine s_val (r_fieldAddr (k := 0) Try.runUnderlying121 rfl Try.sizeOf4 (by decide) rfl rfl) ?_
   refine s_st (m_store1 H 0 Try.sizeOf4 rfl rfl rfl rfl (by show _ < 4; omega) rfl) (L' := (_ :: _ :: _)) rfl ?_
   intro w H
   refine c_nil (l' := [_,_,_,_,_,_,_,_,_,_,_,_,_,_,_,_,_,_,_,_,_,_,_,_,_,_,_]) rfl ?_
   refine wp_exit (x_blockMiss (by decide) (x_thenExit (x_blockMiss (by decide) (x_thenExit (x_blockMiss (by decide) (x_thenExit (x_blockMiss (by decide) (x_thenExit (x_blockHit ?_)))))))))
   refine x_thenNormal ?_
   refine c_rseq (n := 27) ⟨rfl, rfl⟩ ?_
   refine s_val (r_loadn Try.isAgg121 Try.sizeOf121 rfl (H.at 0 rfl) (by first | exact (kC_td _) | exact (hC_td _) | exact (hC_seed _) | exact (ceC_td _) | exact (ceC_place _) | exact (ptC_td _ _ _ _) | exact (plV_td _ _ _)) (by first | exact (kC_length _) | exact (hC_length _) | exact (ceC_length _) | exact (ptC_length _ _ _ _) | exact (plV_length _ _ _) | exact rfl)) ?_
   refine s_st (m_storen H 1 4 Try.sizeOf121 rfl rfl (by first | exact (kC_length _) | exact (hC_length _) | exact (ceC_length _) | exact (ptC_length _ _ _ _) | exact (plV_length _ _ _)) (by first | exact (kC_one _) | exact (hC_one _) | exact (ceC_one _) | exact (ptC_one _ _ _ _) | exact (plV_one _ _ _)) rfl (by show 0 + 4 ≤ 4; omega) rfl) (L' := (_ :: _ :: _)) rfl ?_
   intro w H
   refine s_val (r_assign rfl) ?_
   refine c_nil (l' := [_,_,_,_,_,_,_,_,_,_,_,_,_,_,_,_,_,_,_,_,_,_,_,_,_,_,_]) rfl ?_
   refine wp_ret ?_
   refine e_ret (rc_two rfl (rc_celln Try.isAgg121 Try.sizeOf121 rfl (H.at 1 rfl) (by first | exact (kC_td _) | exact (hC_td _) | exact (hC_seed _) | exact (ceC_td _) | exact (ceC_place _) | exact (ptC_td _ _ _ _) | exact (plV_td _ _ _)) (by first | exact (kC_length _) | exact (hC_length _) | exact (ceC_length _) | exact (ptC_length _ _ _ _) | exact (plV_length _ _ _))) (rc_tmp rfl)) ⟨_, rfl, ?_⟩
   obtain rfl : k = 1 := by omega
   exact ⟨rfl, H.sub (List.nil_sublist _)⟩
  ·skip
   exfalso; omega
 ·skip
  skip
  refine c_region (n := 27) ⟨rfl, rfl⟩ ?_
  refine s_val (r_eql rfl rfl) ?_
  refine s_val (r_assign rfl) ?_
  refine c_nil (l' := [_,_,_,_,_,_,_,_,_,_,_,_,_,_,_,_,_,_,_,_,_,_,_,_,_,_,_]) rfl ?_
  refine c_if rfl (fun h6 => ?_) (fun h6 => ?_)
  ·skip
   skip
   refine wp_exit (x_thenExit (x_thenExit (x_blockHit ?_)))
   refine x_thenNormal ?_
   refine c_region (n := 27) ⟨rfl, rfl⟩ ?_
   refine s_val (r_fieldAddr (k := 3) Try.runUnderlying121 rfl Try.sizeOf4 (by decide) rfl rfl) ?_
   refine s_st (m_store1 H 0 Try.sizeOf4 rfl rfl rfl rfl (by show _ < 4; omega) rfl) (L' := (_ :: _ :: _)) rfl ?_
   intro w H
   refine c_nil0 (l' := [_,_,_,_,_,_,_,_,_,_,_,_,_,_,_,_,_,_,_,_,_,_,_,_,_,_,_]) rfl ?_
   refine x_blockNormal ?_
   refine x_thenNormal ?_
   refine c_region (n := 27) ⟨rfl, rfl⟩ ?_
   refine s_val (r_fieldAddr (k := 1) Try.runUnderlying121 rfl Try.sizeOf4 (by decide) rfl rfl) ?_
   refine s_st (m_store1 H 0 Try.sizeOf4 rfl rfl rfl rfl (by show _ < 4; omega) rfl) (L' := (_ :: _ :: _)) rfl ?_
   intro w H
   refine c_nil0 (l' := [_,_,_,_,_,_,_,_,_,_,_,_,_,_,_,_,_,_,_,_,_,_,_,_,_,_,_]) rfl ?_
   refine x_blockNormal ?_
   refine x_thenNormal ?_
   refine c_rseq (n := 27) ⟨rfl, rfl⟩ ?_
   refine s_val (r_fieldAddr (k := 0) Try.runUnderlying121 rfl Try.sizeOf4 (by decide) rfl rfl) ?_
   refine s_st (m_store1 H 0 Try.sizeOf4 rfl rfl rfl rfl (by show _ < 4; omega) rfl) (L' := (_ :: _ :: _)) rfl ?_
   intro w H
   refine c_nil (l' := [_,_,_,_,_,_,_,_,_,_,_,_,_,_,_,_,_,_,_,_,_,_,_,_,_,_,_]) rfl ?_
   refine wp_exit (x_blockMiss (by decide) (x_thenExit (x_blockMiss (by decide) (x_thenExit (x_blockMiss (by decide) (x_thenExit (x_blockMiss (by decide) (x_thenExit (x_blockHit ?_)))))))))
   refine x_thenNormal ?_
   refine c_rseq (n := 27) ⟨rfl, rfl⟩ ?_
   refine s_val (r_loadn Try.isAgg121 Try.sizeOf121 rfl (H.at 0 rfl) (by first | exact (kC_td _) | exact (hC_td _) | exact (hC_seed _) | exact (ceC_td _) | exact (ceC_place _) | exact (ptC_td _ _ _ _) | exact (plV_td _ _ _)) (by first | exact (kC_length _) | exact (hC_length _) | exact (ceC_length _) | exact (ptC_length _ _ _ _) | exact (plV_length _ _ _) | exact rfl)) ?_
   refine s_st (m_storen H 1 4 Try.sizeOf121 rfl rfl (by first | exact (kC_length _) | exact (hC_length _) | exact (ceC_length _) | exact (ptC_length _ _ _ _) | exact (plV_length _ _ _)) (by first | exact (kC_one _) | exact (hC_one _) | exact (ceC_one _) | exact (ptC_one _ _ _ _) | exact (plV_one _ _ _)) rfl (by show 0 + 4 ≤ 4; omega) rfl) (L' := (_ :: _ :: _)) rfl ?_
   intro w H
   refine s_val (r_assign rfl) ?_
   refine c_nil (l' := [_,_,_,_,_,_,_,_,_,_,_,_,_,_,_,_,_,_,_,_,_,_,_,_,_,_,_]) rfl ?_
   refine wp_ret ?_
   refine e_ret (rc_two rfl (rc_celln Try.isAgg121 Try.sizeOf121 rfl (H.at 1 rfl) (by first | exact (kC_td _) | exact (hC_td _) | exact (hC_seed _) | exact (ceC_td _) | exact (ceC_place _) | exact (ptC_td _ _ _ _) | exact (plV_td _ _ _)) (by first | exact (kC_length _) | exact (hC_length _) | exact (ceC_length _) | exact (ptC_length _ _ _ _) | exact (plV_length _ _ _))) (rc_tmp rfl)) ⟨_, rfl, ?_⟩
   obtain rfl : k = 3 := by omega
   exact ⟨rfl, H.sub (List.nil_sublist _)⟩
  ·skip
   skip
   refine wp_skip ?_
   refine x_thenNormal ?_
   refine c_seq ?_
   refine c_seq ?_
   refine c_rseq (n := 27) ⟨rfl, rfl⟩ ?_
   refine s_val (r_eql rfl rfl) ?_
   refine s_val (r_assign rfl) ?_
   refine c_nil (l' := [_,_,_,_,_,_,_,_,_,_,_,_,_,_,_,_,_,_,_,_,_,_,_,_,_,_,_]) rfl ?_
   refine c_if rfl (fun h9 => ?_) (fun h9 => ?_)
   ·skip
    skip
    refine wp_skip ?_
    refine x_thenNormal ?_
    refine c_if rfl (fun h9 => ?_) (fun h9 => ?_)
    ·skip
     skip
     refine wp_exit (x_thenExit (x_thenExit (x_blockMiss (by decide) (x_thenExit (x_blockHit ?_)))))
     refine x_thenNormal ?_
     refine c_region (n := 27) ⟨rfl, rfl⟩ ?_
     refine s_val (r_fieldAddr (k := 1) Try.runUnderlying121 rfl Try.sizeOf4 (by decide) rfl rfl) ?_
     refine s_st (m_store1 H 0 Try.sizeOf4 rfl rfl rfl rfl (by show _ < 4; omega) rfl) (L' := (_ :: _ :: _)) rfl ?_
     intro w H
     refine c_nil0 (l' := [_,_,_,_,_,_,_,_,_,_,_,_,_,_,_,_,_,_,_,_,_,_,_,_,_,_,_]) rfl ?_
     refine x_blockNormal ?_
     refine x_thenNormal ?_
     refine c_rseq (n := 27) ⟨rfl, rfl⟩ ?_
     refine s_val (r_fieldAddr (k := 0) Try.runUnderlying121 rfl Try.sizeOf4 (by decide) rfl rfl) ?_
     refine s_st (m_store1 H 0 Try.sizeOf4 rfl rfl rfl rfl (by show _ < 4; omega) rfl) (L' := (_ :: _ :: _)) rfl ?_
     intro w H
     refine c_nil (l' := [_,_,_,_,_,_,_,_,_,_,_,_,_,_,_,_,_,_,_,_,_,_,_,_,_,_,_]) rfl ?_
     refine wp_exit (x_blockMiss (by decide) (x_thenExit (x_blockMiss (by decide) (x_thenExit (x_blockMiss (by decide) (x_thenExit (x_blockMiss (by decide) (x_thenExit (x_blockHit ?_)))))))))
     refine x_thenNormal ?_
     refine c_rseq (n := 27) ⟨rfl, rfl⟩ ?_
     refine s_val (r_loadn Try.isAgg121 Try.sizeOf121 rfl (H.at 0 rfl) (by first | exact (kC_td _) | exact (hC_td _) | exact (hC_seed _) | exact (ceC_td _) | exact (ceC_place _) | exact (ptC_td _ _ _ _) | exact (plV_td _ _ _)) (by first | exact (kC_length _) | exact (hC_length _) | exact (ceC_length _) | exact (ptC_length _ _ _ _) | exact (plV_length _ _ _) | exact rfl)) ?_
     refine s_st (m_storen H 1 4 Try.sizeOf121 rfl rfl (by first | exact (kC_length _) | exact (hC_length _) | exact (ceC_length _) | exact (ptC_length _ _ _ _) | exact (plV_length _ _ _)) (by first | exact (kC_one _) | exact (hC_one _) | exact (ceC_one _) | exact (ptC_one _ _ _ _) | exact (plV_one _ _ _)) rfl (by show 0 + 4 ≤ 4; omega) rfl) (L' := (_ :: _ :: _)) rfl ?_
     intro w H
     refine s_val (r_assign rfl) ?_
     refine c_nil (l' := [_,_,_,_,_,_,_,_,_,_,_,_,_,_,_,_,_,_,_,_,_,_,_,_,_,_,_]) rfl ?_
     refine wp_ret ?_
     refine e_ret (rc_two rfl (rc_celln Try.isAgg121 Try.sizeOf121 rfl (H.at 1 rfl) (by first | exact (kC_td _) | exact (hC_td _) | exact (hC_seed _) | exact (ceC_td _) | exact (ceC_place _) | exact (ptC_td _ _ _ _) | exact (plV_td _ _ _)) (by first | exact (kC_length _) | exact (hC_length _) | exact (ceC_length _) | exact (ptC_length _ _ _ _) | exact (plV_length _ _ _))) (rc_tmp rfl)) ⟨_, rfl, ?_⟩
     obtain rfl : k = 2 := by omega
     exact ⟨rfl, H.sub (List.nil_sublist _)⟩
    ·skip
     exfalso; omega
   ·skip
    skip
    refine c_region (n := 27) ⟨rfl, rfl⟩ ?_
    refine s_val (r_eql rfl rfl) ?_
    refine s_val (r_assign rfl) ?_
    refine c_nil (l' := [_,_,_,_,_,_,_,_,_,_,_,_,_,_,_,_,_,_,_,_,_,_,_,_,_,_,_]) rfl ?_
    refine c_if rfl (fun h9 => ?_) (fun h9 => ?_)
    ·skip
     skip
     refine wp_exit (x_thenExit (x_thenExit (x_blockMiss (by decide) (x_thenExit (x_blockHit ?_)))))
     refine x_thenNormal ?_
     refine c_region (n := 27) ⟨rfl, rfl⟩ ?_
     refine s_val (r_fieldAddr (k := 1) Try.runUnderlying121 rfl Try.sizeOf4 (by decide) rfl rfl) ?_
     refine s_st (m_store1 H 0 Try.sizeOf4 rfl rfl rfl rfl (by show _ < 4; omega) rfl) (L' := (_ :: _ :: _)) rfl ?_
     intro w H
     refine c_nil0 (l' := [_,_,_,_,_,_,_,_,_,_,_,_,_,_,_,_,_,_,_,_,_,_,_,_,_,_,_]) rfl ?_
     refine x_blockNormal ?_
     refine x_thenNormal ?_
     refine c_rseq (n := 27) ⟨rfl, rfl⟩ ?_
     refine s_val (r_fieldAddr (k := 0) Try.runUnderlying121 rfl Try.sizeOf4 (by decide) rfl rfl) ?_
     refine s_st (m_store1 H 0 Try.sizeOf4 rfl rfl rfl rfl (by show _ < 4; omega) rfl) (L' := (_ :: _ :: _)) rfl ?_
     intro w H
     refine c_nil (l' := [_,_,_,_,_,_,_,_,_,_,_,_,_,_,_,_,_,_,_,_,_,_,_,_,_,_,_]) rfl ?_
     refine wp_exit (x_blockMiss (by decide) (x_thenExit (x_blockMiss (by decide) (x_thenExit (x_blockMiss (by decide) (x_thenExit (x_blockMiss (by decide) (x_thenExit (x_blockHit ?_)))))))))
     refine x_thenNormal ?_
     refine c_rseq (n := 27) ⟨rfl, rfl⟩ ?_
     refine s_val (r_loadn Try.isAgg121 Try.sizeOf121 rfl (H.at 0 rfl) (by first | exact (kC_td _) | exact (hC_td _) | exact (hC_seed _) | exact (ceC_td _) | exact (ceC_place _) | exact (ptC_td _ _ _ _) | exact (plV_td _ _ _)) (by first | exact (kC_length _) | exact (hC_length _) | exact (ceC_length _) | exact (ptC_length _ _ _ _) | exact (plV_length _ _ _) | exact rfl)) ?_
     refine s_st (m_storen H 1 4 Try.sizeOf121 rfl rfl (by first | exact (kC_length _) | exact (hC_length _) | exact (ceC_length _) | exact (ptC_length _ _ _ _) | exact (plV_length _ _ _)) (by first | exact (kC_one _) | exact (hC_one _) | exact (ceC_one _) | exact (ptC_one _ _ _ _) | exact (plV_one _ _ _)) rfl (by show 0 + 4 ≤ 4; omega) rfl) (L' := (_ :: _ :: _)) rfl ?_
     intro w H
     refine s_val (r_assign rfl) ?_
     refine c_nil (l' := [_,_,_,_,_,_,_,_,_,_,_,_,_,_,_,_,_,_,_,_,_,_,_,_,_,_,_]) rfl ?_
     refine wp_ret ?_
     refine e_ret (rc_two rfl (rc_celln Try.isAgg121 Try.sizeOf121 rfl (H.at 1 rfl) (by first | exact (kC_td _) | exact (hC_td _) | exact (hC_seed _) | exact (ceC_td _) | exact (ceC_place _) | exact (ptC_td _ _ _ _) | exact (plV_td _ _ _)) (by first | exact (kC_length _) | exact (hC_length _) | exact (ceC_length _) | exact (ptC_length _ _ _ _) | exact (plV_length _ _ _))) (rc_tmp rfl)) ⟨_, rfl, ?_⟩
     obtain rfl : k = 4 := by omega
     exact ⟨rfl, H.sub (List.nil_sublist _)⟩
    ·skip
     skip
     refine wp_skip ?_
     refine x_thenNormal ?_
     refine c_seq ?_
     refine c_rseq (n := 27) ⟨rfl, rfl⟩ ?_
     refine s_val (r_eql rfl rfl) ?_
     refine s_val (r_assign rfl) ?_
     refine c_nil (l' := [_,_,_,_,_,_,_,_,_,_,_,_,_,_,_,_,_,_,_,_,_,_,_,_,_,_,_]) rfl ?_
     refine c_if rfl (fun h12 => ?_) (fun h12 => ?_)
     ·skip
      skip
      refine wp_exit (x_thenExit (x_thenExit (x_blockMiss (by decide) (x_thenExit (x_blockMiss (by decide) (x_thenExit (x_blockHit ?_)))))))
      refine x_thenNormal ?_
      refine c_rseq (n := 27) ⟨rfl, rfl⟩ ?_
      refine s_val (r_fieldAddr (k := 0) Try.runUnderlying121 rfl Try.sizeOf4 (by decide) rfl rfl) ?_
      refine s_st (m_store1 H 0 Try.sizeOf4 rfl rfl rfl rfl (by show _ < 4; omega) rfl) (L' := (_ :: _ :: _)) rfl ?_
      intro w H
      refine c_nil (l' := [_,_,_,_,_,_,_,_,_,_,_,_,_,_,_,_,_,_,_,_,_,_,_,_,_,_,_]) rfl ?_
      refine wp_exit (x_blockMiss (by decide) (x_thenExit (x_blockMiss (by decide) (x_thenExit (x_blockMiss (by decide) (x_thenExit (x_blockMiss (by decide) (x_thenExit (x_blockHit ?_)))))))))
      refine x_thenNormal ?_
      refine c_rseq (n := 27) ⟨rfl, rfl⟩ ?_
      refine s_val (r_loadn Try.isAgg121 Try.sizeOf121 rfl (H.at 0 rfl) (by first | exact (kC_td _) | exact (hC_td _) | exact (hC_seed _) | exact (ceC_td _) | exact (ceC_place _) | exact (ptC_td _ _ _ _) | exact (plV_td _ _ _)) (by first | exact (kC_length _) | exact (hC_length _) | exact (ceC_length _) | exact (ptC_length _ _ _ _) | exact (plV_length _ _ _) | exact rfl)) ?_
      refine s_st (m_storen H 1 4 Try.sizeOf121 rfl rfl (by first | exact (kC_length _) | exact (hC_length _) | exact (ceC_length _) | exact (ptC_length _ _ _ _) | exact (plV_length _ _ _)) (by first | exact (kC_one _) | exact (hC_one _) | exact (ceC_one _) | exact (ptC_one _ _ _ _) | exact (plV_one _ _ _)) rfl (by show 0 + 4 ≤ 4; omega) rfl) (L' := (_ :: _ :: _)) rfl ?_
      intro w H
      refine s_val (r_assign rfl) ?_
      refine c_nil (l' := [_,_,_,_,_,_,_,_,_,_,_,_,_,_,_,_,_,_,_,_,_,_,_,_,_,_,_]) rfl ?_
      refine wp_ret ?_
      refine e_ret (rc_two rfl (rc_celln Try.isAgg121 Try.sizeOf121 rfl (H.at 1 rfl) (by first | exact (kC_td _) | exact (hC_td _) | exact (hC_seed _) | exact (ceC_td _) | exact (ceC_place _) | exact (ptC_td _ _ _ _) | exact (plV_td _ _ _)) (by first | exact (kC_length _) | exact (hC_length _) | exact (ceC_length _) | exact (ptC_length _ _ _ _) | exact (plV_length _ _ _))) (rc_tmp rfl)) ⟨_, rfl, ?_⟩
      obtain rfl : k = 5 := by omega
      exact ⟨rfl, H.sub (List.nil_sublist _)⟩
     ·skip
      refine wp_skip ?_
      refine x_thenNormal ?_
      refine c_seq ?_
      refine c_rseq (n := 27) ⟨rfl, rfl⟩ ?_
      refine s_val (r_eql rfl rfl) ?_
      refine s_val (r_assign rfl) ?_
      refine c_nil (l' := [_,_,_,_,_,_,_,_,_,_,_,_,_,_,_,_,_,_,_,_,_,_,_,_,_,_,_]) rfl ?_
      refine c_if rfl (fun h14 => ?_) (fun h14 => ?_)
      ·skip
       skip
       refine wp_exit (x_thenExit (x_thenExit (x_blockMiss (by decide) (x_thenExit (x_blockMiss (by decide) (x_thenExit (x_blockMiss (by decide) (x_thenExit (x_blockHit ?_)))))))))
       refine x_thenNormal ?_
       refine c_region (n := 27) ⟨rfl, rfl⟩ ?_
       refine s_val (r_fieldAddr (k := 2) Try.runUnderlying121 rfl Try.sizeOf4 (by decide) rfl rfl) ?_
       refine s_st (m_store1 H 0 Try.sizeOf4 rfl rfl rfl rfl (by show _ < 4; omega) rfl) (L' := (_ :: _ :: _)) rfl ?_
       intro w H
       refine c_nil0 (l' := [_,_,_,_,_,_,_,_,_,_,_,_,_,_,_,_,_,_,_,_,_,_,_,_,_,_,_]) rfl ?_
       refine x_blockNormal ?_
       refine x_thenNormal ?_
       refine c_rseq (n := 27) ⟨rfl, rfl⟩ ?_
       refine s_val (r_fieldAddr (k := 1) Try.runUnderlying121 rfl Try.sizeOf4 (by decide) rfl rfl) ?_
       refine s_st (m_store1 H 0 Try.sizeOf4 rfl rfl rfl rfl (by show _ < 4; omega) rfl) (L' := (_ :: _ :: _)) rfl ?_
       intro w H
       refine c_nil (l' := [_,_,_,_,_,_,_,_,_,_,_,_,_,_,_,_,_,_,_,_,_,_,_,_,_,_,_]) rfl ?_
       refine wp_exit (x_blockMiss (by decide) (x_thenExit (x_blockMiss (by decide) (x_thenExit (x_blockHit ?_)))))
       refine x_thenNormal ?_
       refine c_rseq (n := 27) ⟨rfl, rfl⟩ ?_
       refine s_val (r_loadn Try.isAgg121 Try.sizeOf121 rfl (H.at 0 rfl) (by first | exact (kC_td _) | exact (hC_td _) | exact (hC_seed _) | exact (ceC_td _) | exact (ceC_place _) | exact (ptC_td _ _ _ _) | exact (plV_td _ _ _)) (by first | exact (kC_length _) | exact (hC_length _) | exact (ceC_length _) | exact (ptC_length _ _ _ _) | exact (plV_length _ _ _) | exact rfl)) ?_
       refine s_st (m_storen H 1 4 Try.sizeOf121 rfl rfl (by first | exact (kC_length _) | exact (hC_length _) | exact (ceC_length _) | exact (ptC_length _ _ _ _) | exact (plV_length _ _ _)) (by first | exact (kC_one _) | exact (hC_one _) | exact (ceC_one _) | exact (ptC_one _ _ _ _) | exact (plV_one _ _ _)) rfl (by show 0 + 4 ≤ 4; omega) rfl) (L' := (_ :: _ :: _)) rfl ?_
       intro w H
       refine s_val (r_assign rfl) ?_
       refine c_nil (l' := [_,_,_,_,_,_,_,_,_,_,_,_,_,_,_,_,_,_,_,_,_,_,_,_,_,_,_]) rfl ?_
       refine wp_ret ?_
       refine e_ret (rc_two rfl (rc_celln Try.isAgg121 Try.sizeOf121 rfl (H.at 1 rfl) (by first | exact (kC_td _) | exact (hC_td _) | exact (hC_seed _) | exact (ceC_td _) | exact (ceC_place _) | exact (ptC_td _ _ _ _) | exact (plV_td _ _ _)) (by first | exact (kC_length _) | exact (hC_length _) | exact (ceC_length _) | exact (ptC_length _ _ _ _) | exact (plV_length _ _ _))) (rc_tmp rfl)) ⟨_, rfl, ?_⟩
       obtain rfl : k = 6 := by omega
       exact ⟨rfl, H.sub (List.nil_sublist _)⟩
      ·skip
       refine wp_skip ?_
       refine x_thenNormal ?_
       refine c_seq ?_
       refine c_rseq (n := 27) ⟨rfl, rfl⟩ ?_
       refine s_val (r_eql rfl rfl) ?_
       refine s_val (r_assign rfl) ?_
       refine c_nil (l' := [_,_,_,_,_,_,_,_,_,_,_,_,_,_,_,_,_,_,_,_,_,_,_,_,_,_,_]) rfl ?_
       refine c_if rfl (fun h16 => ?_) (fun h16 => ?_)
       ·skip
        skip
        refine wp_exit (x_thenExit (x_thenExit (x_blockMiss (by decide) (x_thenExit (x_blockMiss (by decide) (x_thenExit (x_blockMiss (by decide) (x_thenExit (x_blockMiss (by decide) (x_thenExit (x_blockHit ?_)))))))))))
        refine x_thenNormal ?_
        refine c_rseq (n := 27) ⟨rfl, rfl⟩ ?_
        refine s_val (r_fieldAddr (k := 1) Try.runUnderlying121 rfl Try.sizeOf4 (by decide) rfl rfl) ?_
        refine s_st (m_store1 H 0 Try.sizeOf4 rfl rfl rfl rfl (by show _ < 4; omega) rfl) (L' := (_ :: _ :: _)) rfl ?_
        intro w H
        refine c_nil (l' := [_,_,_,_,_,_,_,_,_,_,_,_,_,_,_,_,_,_,_,_,_,_,_,_,_,_,_]) rfl ?_
        refine wp_exit (x_blockMiss (by decide) (x_thenExit (x_blockMiss (by decide) (x_thenExit (x_blockHit ?_)))))
        refine x_thenNormal ?_
        refine c_rseq (n := 27) ⟨rfl, rfl⟩ ?_
        refine s_val (r_loadn Try.isAgg121 Try.sizeOf121 rfl (H.at 0 rfl) (by first | exact (kC_td _) | exact (hC_td _) | exact (hC_seed _) | exact (ceC_td _) | exact (ceC_place _) | exact (ptC_td _ _ _ _) | exact (plV_td _ _ _)) (by first | exact (kC_length _) | exact (hC_length _) | exact (ceC_length _) | exact (ptC_length _ _ _ _) | exact (plV_length _ _ _) | exact rfl)) ?_
        refine s_st (m_storen H 1 4 Try.sizeOf121 rfl rfl (by first | exact (kC_length _) | exact (hC_length _) | exact (ceC_length _) | exact (ptC_length _ _ _ _) | exact (plV_length _ _ _)) (by first | exact (kC_one _) | exact (hC_one _) | exact (ceC_one _) | exact (ptC_one _ _ _ _) | exact (plV_one _ _ _)) rfl (by show 0 + 4 ≤ 4; omega) rfl) (L' := (_ :: _ :: _)) rfl ?_
        intro w H
        refine s_val (r_assign rfl) ?_
        refine c_nil (l' := [_,_,_,_,_,_,_,_,_,_,_,_,_,_,_,_,_,_,_,_,_,_,_,_,_,_,_]) rfl ?_
        refine wp_ret ?_
        refine e_ret (rc_two rfl (rc_celln Try.isAgg121 Try.sizeOf121 rfl (H.at 1 rfl) (by first | exact (kC_td _) | exact (hC_td _) | exact (hC_seed _) | exact (ceC_td _) | exact (ceC_place _) | exact (ptC_td _ _ _ _) | exact (plV_td _ _ _)) (by first | exact (kC_length _) | exact (hC_length _) | exact (ceC_length _) | exact (ptC_length _ _ _ _) | exact (plV_length _ _ _))) (rc_tmp rfl)) ⟨_, rfl, ?_⟩
        obtain rfl : k = 7 := by omega
        exact ⟨rfl, H.sub (List.nil_sublist _)⟩
       ·skip
        refine wp_skip ?_
        refine x_thenNormal ?_
        refine c_rseq (n := 27) ⟨rfl, rfl⟩ ?_
        refine s_val (r_eql rfl rfl) ?_
        refine s_val (r_assign rfl) ?_
        refine c_nil (l' := [_,_,_,_,_,_,_,_,_,_,_,_,_,_,_,_,_,_,_,_,_,_,_,_,_,_,_]) rfl ?_
        refine c_if rfl (fun h18 => ?_) (fun h18 => ?_)
        ·skip
         skip
         refine wp_exit (x_thenExit (x_blockMiss (by decide) (x_thenExit (x_blockMiss (by decide) (x_thenExit (x_blockMiss (by decide) (x_thenExit (x_blockMiss (by decide) (x_thenExit (x_blockMiss (by decide) (x_thenExit (x_blockHit ?_))))))))))))
         refine x_thenNormal ?_
         refine wp_exit (x_blockMiss (by decide) (x_thenExit (x_blockHit ?_)))
         refine x_thenNormal ?_
         refine c_rseq (n := 27) ⟨rfl, rfl⟩ ?_
         refine s_val (r_loadn Try.isAgg121 Try.sizeOf121 rfl (H.at 0 rfl) (by first | exact (kC_td _) | exact (hC_td _) | exact (hC_seed _) | exact (ceC_td _) | exact (ceC_place _) | exact (ptC_td _ _ _ _) | exact (plV_td _ _ _)) (by first | exact (kC_length _) | exact (hC_length _) | exact (ceC_length _) | exact (ptC_length _ _ _ _) | exact (plV_length _ _ _) | exact rfl)) ?_
         refine s_st (m_storen H 1 4 Try.sizeOf121 rfl rfl (by first | exact (kC_length _) | exact (hC_length _) | exact (ceC_length _) | exact (ptC_length _ _ _ _) | exact (plV_length _ _ _)) (by first | exact (kC_one _) | exact (hC_one _) | exact (ceC_one _) | exact (ptC_one _ _ _ _) | exact (plV_one _ _ _)) rfl (by show 0 + 4 ≤ 4; omega) rfl) (L' := (_ :: _ :: _)) rfl ?_
         intro w H
         refine s_val (r_assign rfl) ?_
         refine c_nil (l' := [_,_,_,_,_,_,_,_,_,_,_,_,_,_,_,_,_,_,_,_,_,_,_,_,_,_,_]) rfl ?_
         refine wp_ret ?_
         refine e_ret (rc_two rfl (rc_celln Try.isAgg121 Try.sizeOf121 rfl (H.at 1 rfl) (by first | exact (kC_td _) | exact (hC_td _) | exact (hC_seed _) | exact (ceC_td _) | exact (ceC_place _) | exact (ptC_td _ _ _ _) | exact (plV_td _ _ _)) (by first | exact (kC_length _) | exact (hC_length _) | exact (ceC_length _) | exact (ptC_length _ _ _ _) | exact (plV_length _ _ _))) (rc_tmp rfl)) ⟨_, rfl, ?_⟩
         obtain rfl : k = 8 := by omega
         exact ⟨rfl, H.sub (List.nil_sublist _)⟩
        ·skip
         refine wp_skip ?_
         refine x_thenNormal ?_
         refine wp_exit (x_blockMiss (by decide) (x_thenExit (x_blockMiss (by decide) (x_thenExit (x_blockMiss (by decide) (x_thenExit (x_blockMiss (by decide) (x_thenExit (x_blockMiss (by decide) (x_thenExit (x_blockMiss (by decide) (x_thenExit (x_blockHit ?_)))))))))))))
         refine x_thenNormal ?_
         refine c_seq ?_
         refine c_rseq (n := 27) ⟨rfl, rfl⟩ ?_
         refine s_val (r_loadn Try.isAgg121 Try.sizeOf121 rfl (H.at 0 rfl) (by first | exact (kC_td _) | exact (hC_td _) | exact (hC_seed _) | exact (ceC_td _) | exact (ceC_place _) | exact (ptC_td _ _ _ _) | exact (plV_td _ _ _)) (by first | exact (kC_length _) | exact (hC_length _) | exact (ceC_length _) | exact (ptC_length _ _ _ _) | exact (plV_length _ _ _) | exact rfl)) ?_
         refine s_st (m_storen H 1 4 Try.sizeOf121 rfl rfl (by first | exact (kC_length _) | exact (hC_length _) | exact (ceC_length _) | exact (ptC_length _ _ _ _) | exact (plV_length _ _ _)) (by first | exact (kC_one _) | exact (hC_one _) | exact (ceC_one _) | exact (ptC_one _ _ _ _) | exact (plV_one _ _ _)) rfl (by show 0 + 4 ≤ 4; omega) rfl) (L' := (_ :: _ :: _)) rfl ?_
         intro w H
         refine s_val (r_assign rfl) ?_
         refine c_nil (l' := [_,_,_,_,_,_,_,_,_,_,_,_,_,_,_,_,_,_,_,_,_,_,_,_,_,_,_]) rfl ?_
         refine wp_ret (x_thenRet (x_blockRet (x_thenRet ?_)))
         refine e_ret (rc_two rfl (rc_celln Try.isAgg121 Try.sizeOf121 rfl (H.at 1 rfl) (by first | exact (kC_td _) | exact (hC_td _) | exact (hC_seed _) | exact (ceC_td _) | exact (ceC_place _) | exact (ptC_td _ _ _ _) | exact (plV_td _ _ _)) (by first | exact (kC_length _) | exact (hC_length _) | exact (ceC_length _) | exact (ptC_length _ _ _ _) | exact (plV_length _ _ _))) (rc_tmp rfl)) ⟨_, rfl, ?_⟩
         exact ⟨by unfold kPl kRf kMi kBo kOk; rw [decide_eq_false (by omega), decide_eq_false (by omega), decide_eq_false (by omega), decide_eq_false (by omega), decide_eq_false (by omega)], H.sub (List.nil_sublist _)⟩

set_option maxHeartbeats 4000000 in
theorem within_spec (n m : Int) (w0 : World) :
  Calls Try.prog 66 #[.int .i64 n, .int .i64 m] w0 fun e w => ∃ v, e = .returned v ∧ (((inM n m) ∧ v = .bool true ∧ St w0 [] w []) ∨ (¬ (inM n m) ∧ v = .bool false ∧ St w0 [] w [])) := by
 have H := St.refl w0
 refine c_enter (args := [.int .i64 n, .int .i64 m]) (l := [.int .i64 n, .int .i64 m, undef, undef, undef, undef, undef, undef, undef, undef, undef, undef]) Try.func66 Try.ntmps66 rfl rfl ?_
 refine c_rseq (n := 12) ⟨rfl, rfl⟩ ?_
 refine s_val (r_assign rfl) ?_
 refine c_nil (l' := [_,_,_,_,_,_,_,_,_,_,_,_]) rfl ?_
 refine c_rseq (n := 12) ⟨rfl, rfl⟩ ?_
 refine s_val (r_move rfl) ?_
 refine s_test (r_geq rfl rfl) (fun h6 => ?_) (fun h6 => ?_)
 ·skip
  refine s_val (r_move rfl) ?_
  refine g_yes rfl rfl ?_
  refine s_val (r_move rfl) ?_
  refine g_yes rfl rfl ?_
  refine s_val (r_move rfl) ?_
  refine g_yes rfl rfl ?_
  refine s_test (r_leq rfl rfl) (fun h10 => ?_) (fun h10 => ?_)
  ·skip
   refine s_val (r_pickt rfl rfl) ?_
   refine s_val (r_assign rfl) ?_
   refine c_nil (l' := [_,_,_,_,_,_,_,_,_,_,_,_]) rfl ?_
   refine wp_ret ?_
   refine e_ret (res1 rfl rfl) ⟨_, rfl, ?_⟩
   exact .inl ⟨⟨h6, h10⟩, rfl, H⟩
  ·skip
   refine s_val (r_pickt rfl rfl) ?_
   refine s_val (r_assign rfl) ?_
   refine c_nil (l' := [_,_,_,_,_,_,_,_,_,_,_,_]) rfl ?_
   refine wp_ret ?_
   refine e_ret (res1 rfl rfl) ⟨_, rfl, ?_⟩
   exact .inr ⟨fun h => h10 h.2, rfl, H⟩
 ·skip
  refine s_val (r_move rfl) ?_
  refine g_no rfl rfl (by decide) ?_
  refine g_no rfl rfl (by decide) ?_
  refine g_no rfl rfl (by decide) ?_
  refine s_val (r_pickf rfl rfl) ?_
  refine s_val (r_assign rfl) ?_
  refine c_nil (l' := [_,_,_,_,_,_,_,_,_,_,_,_]) rfl ?_
  refine wp_ret ?_
  refine e_ret (res1 rfl rfl) ⟨_, rfl, ?_⟩
  exact .inr ⟨fun h => h6 h.1, rfl, H⟩

set_option maxHeartbeats 4000000 in
theorem placeok_spec (a b c : Int) (w0 : World) :
  Calls Try.prog 83 #[.agg (plV a b c).toArray] w0 fun e w => ∃ v, e = .returned v ∧ (((inM a 15 ∧ inM b 7 ∧ inM c 255) ∧ v = .bool true ∧ St w0 [] w []) ∨ (¬ (inM a 15 ∧ inM b 7 ∧ inM c 255) ∧ v = .bool false ∧ St w0 [] w [])) := by
 have H := St.refl w0
 refine c_enter (args := [.agg (plV a b c).toArray]) (l := [.agg (plV a b c).toArray, undef, undef, undef, undef, undef, undef, undef, undef, undef, undef, undef, undef, undef, undef, undef]) Try.func83 Try.ntmps83 rfl rfl ?_
 refine c_rseq (n := 16) ⟨rfl, rfl⟩ ?_
 refine s_new (m_box (cs := (plV a b c)) H rfl rfl) ?_
 intro w b1 H
 refine s_val (r_assign rfl) ?_
 refine c_nil (l' := [_,_,_,_,_,_,_,_,_,_,_,_,_,_,_,_]) rfl ?_
 refine c_rseq (n := 16) ⟨rfl, rfl⟩ ?_
 refine s_val (r_fieldAddr (k := 0) Try.runUnderlying40 rfl Try.sizeOf3 (by decide) rfl rfl) ?_
 refine s_val (r_load1 Try.isAgg3 rfl (H.at 0 rfl) rfl) ?_
 refine s_call (r_call Try.call66 (ec rfl (ec rfl en))) (within_spec _ _ _) ?_
 rintro v w (⟨hy5, rfl, HC⟩ | ⟨hy5, rfl, HC⟩)
 ·skip
  replace H := H.quiet HC
  refine s_val (r_move rfl) ?_
  refine g_yes rfl rfl ?_
  refine s_val (r_fieldAddr (k := 1) Try.runUnderlying40 rfl Try.sizeOf3 (by decide) rfl rfl) ?_
  refine g_yes rfl rfl ?_
  refine s_val (r_load1 Try.isAgg3 rfl (H.at 0 rfl) rfl) ?_
  refine g_yes rfl rfl ?_
  refine s_call (r_call Try.call66 (ec rfl (ec rfl en))) (within_spec _ _ _) ?_
  rintro v w (⟨hy9, rfl, HC⟩ | ⟨hy9, rfl, HC⟩)
  ·skip
   replace H := H.quiet HC
   refine s_val (r_pickt rfl rfl) ?_
   refine s_val (r_move rfl) ?_
   refine g_yes rfl rfl ?_
   refine s_val (r_fieldAddr (k := 2) Try.runUnderlying40 rfl Try.sizeOf3 (by decide) rfl rfl) ?_
   refine g_yes rfl rfl ?_
   refine s_val (r_load1 Try.isAgg3 rfl (H.at 0 rfl) rfl) ?_
   refine g_yes rfl rfl ?_
   refine s_call (r_call Try.call66 (ec rfl (ec rfl en))) (within_spec _ _ _) ?_
   rintro v w (⟨hy14, rfl, HC⟩ | ⟨hy14, rfl, HC⟩)
   ·skip
    replace H := H.quiet HC
    refine s_val (r_pickt rfl rfl) ?_
    refine s_val (r_assign rfl) ?_
    refine c_nil (l' := [_,_,_,_,_,_,_,_,_,_,_,_,_,_,_,_]) rfl ?_
    refine wp_ret ?_
    refine e_ret (res1 rfl rfl) ⟨_, rfl, ?_⟩
    exact .inl ⟨⟨hy5, hy9, hy14⟩, rfl, H.sub (List.nil_sublist _)⟩
   ·skip
    replace H := H.quiet HC
    refine s_val (r_pickt rfl rfl) ?_
    refine s_val (r_assign rfl) ?_
    refine c_nil (l' := [_,_,_,_,_,_,_,_,_,_,_,_,_,_,_,_]) rfl ?_
    refine wp_ret ?_
    refine e_ret (res1 rfl rfl) ⟨_, rfl, ?_⟩
    exact .inr ⟨fun h => hy14 h.2.2, rfl, H.sub (List.nil_sublist _)⟩
  ·skip
   replace H := H.quiet HC
   refine s_val (r_pickt rfl rfl) ?_
   refine s_val (r_move rfl) ?_
   refine g_no rfl rfl (by decide) ?_
   refine g_no rfl rfl (by decide) ?_
   refine g_no rfl rfl (by decide) ?_
   refine s_val (r_pickf rfl rfl) ?_
   refine s_val (r_assign rfl) ?_
   refine c_nil (l' := [_,_,_,_,_,_,_,_,_,_,_,_,_,_,_,_]) rfl ?_
   refine wp_ret ?_
   refine e_ret (res1 rfl rfl) ⟨_, rfl, ?_⟩
   exact .inr ⟨fun h => hy9 h.2.1, rfl, H.sub (List.nil_sublist _)⟩
 ·skip
  replace H := H.quiet HC
  refine s_val (r_move rfl) ?_
  refine g_no rfl rfl (by decide) ?_
  refine g_no rfl rfl (by decide) ?_
  refine g_no rfl rfl (by decide) ?_
  refine s_val (r_pickf rfl rfl) ?_
  refine s_val (r_move rfl) ?_
  refine g_no rfl rfl (by decide) ?_
  refine g_no rfl rfl (by decide) ?_
  refine g_no rfl rfl (by decide) ?_
  refine s_val (r_pickf rfl rfl) ?_
  refine s_val (r_assign rfl) ?_
  refine c_nil (l' := [_,_,_,_,_,_,_,_,_,_,_,_,_,_,_,_]) rfl ?_
  refine wp_ret ?_
  refine e_ret (res1 rfl rfl) ⟨_, rfl, ?_⟩
  exact .inr ⟨fun h => hy5 h.1, rfl, H.sub (List.nil_sublist _)⟩

set_option maxHeartbeats 4000000 in
theorem equalb_spec (x y : Bd) (w0 : World) (hx : BRow w0 x.a x.b) (hy : BRow w0 y.a y.b) :
  Calls Try.prog 82 #[bdV x, bdV y] w0 fun e w => ∃ v, e = .returned v ∧ (((x.b = y.b) ∧ v = .bool true ∧ St w0 [] w []) ∨ (¬ (x.b = y.b) ∧ v = .bool false ∧ St w0 [] w [])) := by
 have H := St.refl w0
 refine c_enter (args := [bdV x, bdV y]) (l := [bdV x, bdV y, undef, undef, undef, undef, undef, undef, undef, undef]) Try.func82 Try.ntmps82 rfl rfl ?_
 refine c_rseq (n := 10) ⟨rfl, rfl⟩ ?_
 refine s_val (r_assign rfl) ?_
 refine c_nil (l' := [_,_,_,_,_,_,_,_,_,_]) rfl ?_
 refine c_rseq (n := 10) ⟨rfl, rfl⟩ ?_
 refine s_val (r_move rfl) ?_
 refine s_val (r_textB Try.runUnderlying41 Try.runUnderlying9 Try.runUnderlying5 (a := x.a) (c := x.c) (bs := x.b) rfl (hx.st H)) ?_
 refine s_val (r_move rfl) ?_
 refine s_val (r_textB Try.runUnderlying41 Try.runUnderlying9 Try.runUnderlying5 (a := y.a) (c := y.c) (bs := y.b) rfl (hy.st H)) ?_
 refine s_test (r_eqlT (s := x.b) (t := y.b) rfl rfl) (fun h9 => ?_) (fun h9 => ?_)
 ·skip
  refine s_val (r_assign rfl) ?_
  refine c_nil (l' := [_,_,_,_,_,_,_,_,_,_]) rfl ?_
  refine wp_ret ?_
  refine e_ret (res1 rfl rfl) ⟨_, rfl, ?_⟩
  exact .inl ⟨h9, rfl, H⟩
 ·skip
  refine s_val (r_assign rfl) ?_
  refine c_nil (l' := [_,_,_,_,_,_,_,_,_,_]) rfl ?_
  refine wp_ret ?_
  refine e_ret (res1 rfl rfl) ⟨_, rfl, ?_⟩
  exact .inr ⟨h9, rfl, H⟩

end Go.Proofs.Ytobfnieebiakeaa

