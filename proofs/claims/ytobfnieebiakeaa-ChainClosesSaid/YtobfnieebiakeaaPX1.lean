import Derived.Test.YtobfnieebiakeaaPM
import Derived.Test.YtobfnieebiakeaaProg
import Derived.Test.YtobfnieebiakeaaPVx2
namespace Go.Proofs.Ytobfnieebiakeaa
open Go Go.Er
theorem bytes5 : Try.t5.bytes = 1 := rfl

set_option maxHeartbeats 4000000 in
theorem has_k (k : Int) (w0 : World) :
  Calls Try.prog 64 #[.int .i64 k] w0 fun e w => ∃ v, e = .returned v ∧ (v = .tuple #[.agg (ptC (kPl k) (kRf k) (kMi k) (kBo k)).toArray, .bool (kOk k)] ∧ St w0 [] w []) := by
 have H := St.refl w0
 refine c_enter (args := [.int .i64 k]) (l := t20 (t7 [])) Try.func64 Try.ntmps64 rfl rfl ?_
 refine zq 27 ⟨rfl, rfl⟩ ?_
 refine s_new (zA (ptC false false false false) H qo121) ?_
 intro w b2 H
 refine za ?_
 refine zc (t20 (t7 [])) ?_
 refine zq 27 ⟨rfl, rfl⟩ ?_
 refine s_new (zA (ptC false false false false) H qo121) ?_
 intro w b4 H
 refine zc (t20 (t7 [])) ?_
 refine c_seq ?_
 refine zq 27 ⟨rfl, rfl⟩ ?_
 refine zm ?_
 refine zc (t20 (t7 [])) ?_
 refine wp_block ?_
 refine c_seq ?_
 refine wp_block ?_
 refine c_seq ?_
 refine wp_block ?_
 refine c_seq ?_
 refine wp_block ?_
 refine c_seq ?_
 refine wp_block ?_
 refine c_seq ?_
 refine wp_block ?_
 refine c_seq ?_
 refine wp_block ?_
 refine c_seq ?_
 refine wp_block ?_
 refine c_seq ?_
 refine c_seq ?_
 refine c_seq ?_
 refine zq 27 ⟨rfl, rfl⟩ ?_
 refine s_val (r_eql rfl rfl) ?_
 refine za ?_
 refine zc (t20 (t7 [])) ?_
 refine c_if rfl (fun h6 => ?_) (fun h6 => ?_)
 ·refine wp_skip ?_
  refine x_thenNormal ?_
  refine c_if rfl (fun h6 => ?_) (fun h6 => ?_)
  ·refine wp_exit (x_thenExit (x_thenExit (x_blockHit ?_)))
   refine x_thenNormal ?_
   refine c_region (n := 27) ⟨rfl, rfl⟩ ?_
   refine zR 3 qu121 qs4 ?_
   refine s_st (m_store1 H 0 qs4 rfl rfl rfl rfl (by show _ < 4; omega) rfl) (L' := (_ :: _ :: _)) rfl ?_
   intro w H
   refine zb (t20 (t7 [])) ?_
   refine x_blockNormal ?_
   refine x_thenNormal ?_
   refine c_region (n := 27) ⟨rfl, rfl⟩ ?_
   refine zR 1 qu121 qs4 ?_
   refine s_st (m_store1 H 0 qs4 rfl rfl rfl rfl (by show _ < 4; omega) rfl) (L' := (_ :: _ :: _)) rfl ?_
   intro w H
   refine zb (t20 (t7 [])) ?_
   refine x_blockNormal ?_
   refine x_thenNormal ?_
   refine zq 27 ⟨rfl, rfl⟩ ?_
   refine zR 0 qu121 qs4 ?_
   refine s_st (m_store1 H 0 qs4 rfl rfl rfl rfl (by show _ < 4; omega) rfl) (L' := (_ :: _ :: _)) rfl ?_
   intro w H
   refine zc (t20 (t7 [])) ?_
   refine wp_exit (x_blockMiss (by decide) (x_thenExit (x_blockMiss (by decide) (x_thenExit (x_blockMiss (by decide) (x_thenExit (x_blockMiss (by decide) (x_thenExit (x_blockHit ?_)))))))))
   refine x_thenNormal ?_
   refine zq 27 ⟨rfl, rfl⟩ ?_
   refine s_val (zo qg121 qs121 (H.at 0 rfl)) ?_
   refine s_st (zs H 1 4 qs121) (L' := (_ :: _ :: _)) rfl ?_
   intro w H
   refine za ?_
   refine zc (t20 (t7 [])) ?_
   refine wp_ret ?_
   refine zw (rc_two rfl (ro qg121 qs121 (H.at 1 rfl)) (rc_tmp rfl)) ?_
   obtain rfl : k = 1 := by omega
   exact ⟨rfl, H.sub (List.nil_sublist _)⟩
  ·exfalso; omega
 ·refine c_region (n := 27) ⟨rfl, rfl⟩ ?_
  refine s_val (r_eql rfl rfl) ?_
  refine za ?_
  refine zc (t20 (t7 [])) ?_
  refine c_if rfl (fun h6 => ?_) (fun h6 => ?_)
  ·refine wp_exit (x_thenExit (x_thenExit (x_blockHit ?_)))
   refine x_thenNormal ?_
   refine c_region (n := 27) ⟨rfl, rfl⟩ ?_
   refine zR 3 qu121 qs4 ?_
   refine s_st (m_store1 H 0 qs4 rfl rfl rfl rfl (by show _ < 4; omega) rfl) (L' := (_ :: _ :: _)) rfl ?_
   intro w H
   refine zb (t20 (t7 [])) ?_
   refine x_blockNormal ?_
   refine x_thenNormal ?_
   refine c_region (n := 27) ⟨rfl, rfl⟩ ?_
   refine zR 1 qu121 qs4 ?_
   refine s_st (m_store1 H 0 qs4 rfl rfl rfl rfl (by show _ < 4; omega) rfl) (L' := (_ :: _ :: _)) rfl ?_
   intro w H
   refine zb (t20 (t7 [])) ?_
   refine x_blockNormal ?_
   refine x_thenNormal ?_
   refine zq 27 ⟨rfl, rfl⟩ ?_
   refine zR 0 qu121 qs4 ?_
   refine s_st (m_store1 H 0 qs4 rfl rfl rfl rfl (by show _ < 4; omega) rfl) (L' := (_ :: _ :: _)) rfl ?_
   intro w H
   refine zc (t20 (t7 [])) ?_
   refine wp_exit (x_blockMiss (by decide) (x_thenExit (x_blockMiss (by decide) (x_thenExit (x_blockMiss (by decide) (x_thenExit (x_blockMiss (by decide) (x_thenExit (x_blockHit ?_)))))))))
   refine x_thenNormal ?_
   refine zq 27 ⟨rfl, rfl⟩ ?_
   refine s_val (zo qg121 qs121 (H.at 0 rfl)) ?_
   refine s_st (zs H 1 4 qs121) (L' := (_ :: _ :: _)) rfl ?_
   intro w H
   refine za ?_
   refine zc (t20 (t7 [])) ?_
   refine wp_ret ?_
   refine zw (rc_two rfl (ro qg121 qs121 (H.at 1 rfl)) (rc_tmp rfl)) ?_
   obtain rfl : k = 3 := by omega
   exact ⟨rfl, H.sub (List.nil_sublist _)⟩
  ·refine wp_skip ?_
   refine x_thenNormal ?_
   refine c_seq ?_
   refine c_seq ?_
   refine zq 27 ⟨rfl, rfl⟩ ?_
   refine s_val (r_eql rfl rfl) ?_
   refine za ?_
   refine zc (t20 (t7 [])) ?_
   refine c_if rfl (fun h9 => ?_) (fun h9 => ?_)
   ·refine wp_skip ?_
    refine x_thenNormal ?_
    refine c_if rfl (fun h9 => ?_) (fun h9 => ?_)
    ·refine wp_exit (x_thenExit (x_thenExit (x_blockMiss (by decide) (x_thenExit (x_blockHit ?_)))))
     refine x_thenNormal ?_
     refine c_region (n := 27) ⟨rfl, rfl⟩ ?_
     refine zR 1 qu121 qs4 ?_
     refine s_st (m_store1 H 0 qs4 rfl rfl rfl rfl (by show _ < 4; omega) rfl) (L' := (_ :: _ :: _)) rfl ?_
     intro w H
     refine zb (t20 (t7 [])) ?_
     refine x_blockNormal ?_
     refine x_thenNormal ?_
     refine zq 27 ⟨rfl, rfl⟩ ?_
     refine zR 0 qu121 qs4 ?_
     refine s_st (m_store1 H 0 qs4 rfl rfl rfl rfl (by show _ < 4; omega) rfl) (L' := (_ :: _ :: _)) rfl ?_
     intro w H
     refine zc (t20 (t7 [])) ?_
     refine wp_exit (x_blockMiss (by decide) (x_thenExit (x_blockMiss (by decide) (x_thenExit (x_blockMiss (by decide) (x_thenExit (x_blockMiss (by decide) (x_thenExit (x_blockHit ?_)))))))))
     refine x_thenNormal ?_
     refine zq 27 ⟨rfl, rfl⟩ ?_
     refine s_val (zo qg121 qs121 (H.at 0 rfl)) ?_
     refine s_st (zs H 1 4 qs121) (L' := (_ :: _ :: _)) rfl ?_
     intro w H
     refine za ?_
     refine zc (t20 (t7 [])) ?_
     refine wp_ret ?_
     refine zw (rc_two rfl (ro qg121 qs121 (H.at 1 rfl)) (rc_tmp rfl)) ?_
     obtain rfl : k = 2 := by omega
     exact ⟨rfl, H.sub (List.nil_sublist _)⟩
    ·exfalso; omega
   ·refine c_region (n := 27) ⟨rfl, rfl⟩ ?_
    refine s_val (r_eql rfl rfl) ?_
    refine za ?_
    refine zc (t20 (t7 [])) ?_
    refine c_if rfl (fun h9 => ?_) (fun h9 => ?_)
    ·refine wp_exit (x_thenExit (x_thenExit (x_blockMiss (by decide) (x_thenExit (x_blockHit ?_)))))
     refine x_thenNormal ?_
     refine c_region (n := 27) ⟨rfl, rfl⟩ ?_
     refine zR 1 qu121 qs4 ?_
     refine s_st (m_store1 H 0 qs4 rfl rfl rfl rfl (by show _ < 4; omega) rfl) (L' := (_ :: _ :: _)) rfl ?_
     intro w H
     refine zb (t20 (t7 [])) ?_
     refine x_blockNormal ?_
     refine x_thenNormal ?_
     refine zq 27 ⟨rfl, rfl⟩ ?_
     refine zR 0 qu121 qs4 ?_
     refine s_st (m_store1 H 0 qs4 rfl rfl rfl rfl (by show _ < 4; omega) rfl) (L' := (_ :: _ :: _)) rfl ?_
     intro w H
     refine zc (t20 (t7 [])) ?_
     refine wp_exit (x_blockMiss (by decide) (x_thenExit (x_blockMiss (by decide) (x_thenExit (x_blockMiss (by decide) (x_thenExit (x_blockMiss (by decide) (x_thenExit (x_blockHit ?_)))))))))
     refine x_thenNormal ?_
     refine zq 27 ⟨rfl, rfl⟩ ?_
     refine s_val (zo qg121 qs121 (H.at 0 rfl)) ?_
     refine s_st (zs H 1 4 qs121) (L' := (_ :: _ :: _)) rfl ?_
     intro w H
     refine za ?_
     refine zc (t20 (t7 [])) ?_
     refine wp_ret ?_
     refine zw (rc_two rfl (ro qg121 qs121 (H.at 1 rfl)) (rc_tmp rfl)) ?_
     obtain rfl : k = 4 := by omega
     exact ⟨rfl, H.sub (List.nil_sublist _)⟩
    ·refine wp_skip ?_
     refine x_thenNormal ?_
     refine c_seq ?_
     refine zq 27 ⟨rfl, rfl⟩ ?_
     refine s_val (r_eql rfl rfl) ?_
     refine za ?_
     refine zc (t20 (t7 [])) ?_
     refine c_if rfl (fun h12 => ?_) (fun h12 => ?_)
     ·refine wp_exit (x_thenExit (x_thenExit (x_blockMiss (by decide) (x_thenExit (x_blockMiss (by decide) (x_thenExit (x_blockHit ?_)))))))
      refine x_thenNormal ?_
      refine zq 27 ⟨rfl, rfl⟩ ?_
      refine zR 0 qu121 qs4 ?_
      refine s_st (m_store1 H 0 qs4 rfl rfl rfl rfl (by show _ < 4; omega) rfl) (L' := (_ :: _ :: _)) rfl ?_
      intro w H
      refine zc (t20 (t7 [])) ?_
      refine wp_exit (x_blockMiss (by decide) (x_thenExit (x_blockMiss (by decide) (x_thenExit (x_blockMiss (by decide) (x_thenExit (x_blockMiss (by decide) (x_thenExit (x_blockHit ?_)))))))))
      refine x_thenNormal ?_
      refine zq 27 ⟨rfl, rfl⟩ ?_
      refine s_val (zo qg121 qs121 (H.at 0 rfl)) ?_
      refine s_st (zs H 1 4 qs121) (L' := (_ :: _ :: _)) rfl ?_
      intro w H
      refine za ?_
      refine zc (t20 (t7 [])) ?_
      refine wp_ret ?_
      refine zw (rc_two rfl (ro qg121 qs121 (H.at 1 rfl)) (rc_tmp rfl)) ?_
      obtain rfl : k = 5 := by omega
      exact ⟨rfl, H.sub (List.nil_sublist _)⟩
     ·refine wp_skip ?_
      refine x_thenNormal ?_
      refine c_seq ?_
      refine zq 27 ⟨rfl, rfl⟩ ?_
      refine s_val (r_eql rfl rfl) ?_
      refine za ?_
      refine zc (t20 (t7 [])) ?_
      refine c_if rfl (fun h14 => ?_) (fun h14 => ?_)
      ·refine wp_exit (x_thenExit (x_thenExit (x_blockMiss (by decide) (x_thenExit (x_blockMiss (by decide) (x_thenExit (x_blockMiss (by decide) (x_thenExit (x_blockHit ?_)))))))))
       refine x_thenNormal ?_
       refine c_region (n := 27) ⟨rfl, rfl⟩ ?_
       refine zR 2 qu121 qs4 ?_
       refine s_st (m_store1 H 0 qs4 rfl rfl rfl rfl (by show _ < 4; omega) rfl) (L' := (_ :: _ :: _)) rfl ?_
       intro w H
       refine zb (t20 (t7 [])) ?_
       refine x_blockNormal ?_
       refine x_thenNormal ?_
       refine zq 27 ⟨rfl, rfl⟩ ?_
       refine zR 1 qu121 qs4 ?_
       refine s_st (m_store1 H 0 qs4 rfl rfl rfl rfl (by show _ < 4; omega) rfl) (L' := (_ :: _ :: _)) rfl ?_
       intro w H
       refine zc (t20 (t7 [])) ?_
       refine wp_exit (x_blockMiss (by decide) (x_thenExit (x_blockMiss (by decide) (x_thenExit (x_blockHit ?_)))))
       refine x_thenNormal ?_
       refine zq 27 ⟨rfl, rfl⟩ ?_
       refine s_val (zo qg121 qs121 (H.at 0 rfl)) ?_
       refine s_st (zs H 1 4 qs121) (L' := (_ :: _ :: _)) rfl ?_
       intro w H
       refine za ?_
       refine zc (t20 (t7 [])) ?_
       refine wp_ret ?_
       refine zw (rc_two rfl (ro qg121 qs121 (H.at 1 rfl)) (rc_tmp rfl)) ?_
       obtain rfl : k = 6 := by omega
       exact ⟨rfl, H.sub (List.nil_sublist _)⟩
      ·refine wp_skip ?_
       refine x_thenNormal ?_
       refine c_seq ?_
       refine zq 27 ⟨rfl, rfl⟩ ?_
       refine s_val (r_eql rfl rfl) ?_
       refine za ?_
       refine zc (t20 (t7 [])) ?_
       refine c_if rfl (fun h16 => ?_) (fun h16 => ?_)
       ·refine wp_exit (x_thenExit (x_thenExit (x_blockMiss (by decide) (x_thenExit (x_blockMiss (by decide) (x_thenExit (x_blockMiss (by decide) (x_thenExit (x_blockMiss (by decide) (x_thenExit (x_blockHit ?_)))))))))))
        refine x_thenNormal ?_
        refine zq 27 ⟨rfl, rfl⟩ ?_
        refine zR 1 qu121 qs4 ?_
        refine s_st (m_store1 H 0 qs4 rfl rfl rfl rfl (by show _ < 4; omega) rfl) (L' := (_ :: _ :: _)) rfl ?_
        intro w H
        refine zc (t20 (t7 [])) ?_
        refine wp_exit (x_blockMiss (by decide) (x_thenExit (x_blockMiss (by decide) (x_thenExit (x_blockHit ?_)))))
        refine x_thenNormal ?_
        refine zq 27 ⟨rfl, rfl⟩ ?_
        refine s_val (zo qg121 qs121 (H.at 0 rfl)) ?_
        refine s_st (zs H 1 4 qs121) (L' := (_ :: _ :: _)) rfl ?_
        intro w H
        refine za ?_
        refine zc (t20 (t7 [])) ?_
        refine wp_ret ?_
        refine zw (rc_two rfl (ro qg121 qs121 (H.at 1 rfl)) (rc_tmp rfl)) ?_
        obtain rfl : k = 7 := by omega
        exact ⟨rfl, H.sub (List.nil_sublist _)⟩
       ·refine wp_skip ?_
        refine x_thenNormal ?_
        refine zq 27 ⟨rfl, rfl⟩ ?_
        refine s_val (r_eql rfl rfl) ?_
        refine za ?_
        refine zc (t20 (t7 [])) ?_
        refine c_if rfl (fun h18 => ?_) (fun h18 => ?_)
        ·refine wp_exit (x_thenExit (x_blockMiss (by decide) (x_thenExit (x_blockMiss (by decide) (x_thenExit (x_blockMiss (by decide) (x_thenExit (x_blockMiss (by decide) (x_thenExit (x_blockMiss (by decide) (x_thenExit (x_blockHit ?_))))))))))))
         refine x_thenNormal ?_
         refine wp_exit (x_blockMiss (by decide) (x_thenExit (x_blockHit ?_)))
         refine x_thenNormal ?_
         refine zq 27 ⟨rfl, rfl⟩ ?_
         refine s_val (zo qg121 qs121 (H.at 0 rfl)) ?_
         refine s_st (zs H 1 4 qs121) (L' := (_ :: _ :: _)) rfl ?_
         intro w H
         refine za ?_
         refine zc (t20 (t7 [])) ?_
         refine wp_ret ?_
         refine zw (rc_two rfl (ro qg121 qs121 (H.at 1 rfl)) (rc_tmp rfl)) ?_
         obtain rfl : k = 8 := by omega
         exact ⟨rfl, H.sub (List.nil_sublist _)⟩
        ·refine wp_skip ?_
         refine x_thenNormal ?_
         refine wp_exit (x_blockMiss (by decide) (x_thenExit (x_blockMiss (by decide) (x_thenExit (x_blockMiss (by decide) (x_thenExit (x_blockMiss (by decide) (x_thenExit (x_blockMiss (by decide) (x_thenExit (x_blockMiss (by decide) (x_thenExit (x_blockHit ?_)))))))))))))
         refine x_thenNormal ?_
         refine c_seq ?_
         refine zq 27 ⟨rfl, rfl⟩ ?_
         refine s_val (zo qg121 qs121 (H.at 0 rfl)) ?_
         refine s_st (zs H 1 4 qs121) (L' := (_ :: _ :: _)) rfl ?_
         intro w H
         refine za ?_
         refine zc (t20 (t7 [])) ?_
         refine wp_ret (x_thenRet (x_blockRet (x_thenRet ?_)))
         refine zw (rc_two rfl (ro qg121 qs121 (H.at 1 rfl)) (rc_tmp rfl)) ?_
         exact ⟨by unfold kPl kRf kMi kBo kOk; rw [decide_eq_false (by omega), decide_eq_false (by omega), decide_eq_false (by omega), decide_eq_false (by omega), decide_eq_false (by omega)], H.sub (List.nil_sublist _)⟩

set_option maxHeartbeats 4000000 in
theorem within_spec (n m : Int) (w0 : World) :
  Calls Try.prog 66 #[.int .i64 n, .int .i64 m] w0 fun e w => ∃ v, e = .returned v ∧ (((inM n m) ∧ v = .bool true ∧ St w0 [] w []) ∨ (¬ (inM n m) ∧ v = .bool false ∧ St w0 [] w [])) := by
 have H := St.refl w0
 refine c_enter (args := [.int .i64 n, .int .i64 m]) (l := t10 (t2 [])) Try.func66 Try.ntmps66 rfl rfl ?_
 refine zq 12 ⟨rfl, rfl⟩ ?_
 refine za ?_
 refine zc (t10 (t2 [])) ?_
 refine zq 12 ⟨rfl, rfl⟩ ?_
 refine zm ?_
 refine s_test (r_geq rfl rfl) (fun h6 => ?_) (fun h6 => ?_)
 ·refine zm ?_
  refine zy ?_
  refine zm ?_
  refine zy ?_
  refine zm ?_
  refine zy ?_
  refine s_test (r_leq rfl rfl) (fun h10 => ?_) (fun h10 => ?_)
  ·refine zv ?_
   refine za ?_
   refine zc (t10 (t2 [])) ?_
   refine wp_ret ?_
   refine zw (res1 rfl rfl) ?_
   exact .inl ⟨⟨h6, h10⟩, rfl, H⟩
  ·refine zv ?_
   refine za ?_
   refine zc (t10 (t2 [])) ?_
   refine wp_ret ?_
   refine zw (res1 rfl rfl) ?_
   exact .inr ⟨fun h => h10 h.2, rfl, H⟩
 ·refine zm ?_
  refine zg ?_
  refine zg ?_
  refine zg ?_
  refine zf ?_
  refine za ?_
  refine zc (t10 (t2 [])) ?_
  refine wp_ret ?_
  refine zw (res1 rfl rfl) ?_
  exact .inr ⟨fun h => h6 h.1, rfl, H⟩

set_option maxHeartbeats 4000000 in
theorem placeok_spec (a b c : Int) (w0 : World) :
  Calls Try.prog 83 #[.agg (plV a b c).toArray] w0 fun e w => ∃ v, e = .returned v ∧ (((inM a 15 ∧ inM b 7 ∧ inM c 255) ∧ v = .bool true ∧ St w0 [] w []) ∨ (¬ (inM a 15 ∧ inM b 7 ∧ inM c 255) ∧ v = .bool false ∧ St w0 [] w [])) := by
 have H := St.refl w0
 refine c_enter (args := [.agg (plV a b c).toArray]) (l := t10 (t6 [])) Try.func83 Try.ntmps83 rfl rfl ?_
 refine zq 16 ⟨rfl, rfl⟩ ?_
 refine s_new (m_box (cs := (plV a b c)) H rfl rfl) ?_
 intro w b1 H
 refine za ?_
 refine zc (t10 (t6 [])) ?_
 refine zq 16 ⟨rfl, rfl⟩ ?_
 refine zR 0 qu40 qs3 ?_
 refine zL qg3 (H.at 0 rfl) ?_
 refine s_call (r_call qc66 (ec rfl (ec rfl en))) (within_spec _ _ _) ?_
 rintro v w (⟨hy5, rfl, HC⟩ | ⟨hy5, rfl, HC⟩)
 ·replace H := H.quiet HC
  refine zm ?_
  refine zy ?_
  refine zR 1 qu40 qs3 ?_
  refine zy ?_
  refine zL qg3 (H.at 0 rfl) ?_
  refine zy ?_
  refine s_call (r_call qc66 (ec rfl (ec rfl en))) (within_spec _ _ _) ?_
  rintro v w (⟨hy9, rfl, HC⟩ | ⟨hy9, rfl, HC⟩)
  ·replace H := H.quiet HC
   refine zv ?_
   refine zm ?_
   refine zy ?_
   refine zR 2 qu40 qs3 ?_
   refine zy ?_
   refine zL qg3 (H.at 0 rfl) ?_
   refine zy ?_
   refine s_call (r_call qc66 (ec rfl (ec rfl en))) (within_spec _ _ _) ?_
   rintro v w (⟨hy14, rfl, HC⟩ | ⟨hy14, rfl, HC⟩)
   ·replace H := H.quiet HC
    refine zv ?_
    refine za ?_
    refine zc (t10 (t6 [])) ?_
    refine wp_ret ?_
    refine zw (res1 rfl rfl) ?_
    exact .inl ⟨⟨hy5, hy9, hy14⟩, rfl, H.sub (List.nil_sublist _)⟩
   ·replace H := H.quiet HC
    refine zv ?_
    refine za ?_
    refine zc (t10 (t6 [])) ?_
    refine wp_ret ?_
    refine zw (res1 rfl rfl) ?_
    exact .inr ⟨fun h => hy14 h.2.2, rfl, H.sub (List.nil_sublist _)⟩
  ·replace H := H.quiet HC
   refine zv ?_
   refine zm ?_
   refine zg ?_
   refine zg ?_
   refine zg ?_
   refine zf ?_
   refine za ?_
   refine zc (t10 (t6 [])) ?_
   refine wp_ret ?_
   refine zw (res1 rfl rfl) ?_
   exact .inr ⟨fun h => hy9 h.2.1, rfl, H.sub (List.nil_sublist _)⟩
 ·replace H := H.quiet HC
  refine zm ?_
  refine zg ?_
  refine zg ?_
  refine zg ?_
  refine zf ?_
  refine zm ?_
  refine zg ?_
  refine zg ?_
  refine zg ?_
  refine zf ?_
  refine za ?_
  refine zc (t10 (t6 [])) ?_
  refine wp_ret ?_
  refine zw (res1 rfl rfl) ?_
  exact .inr ⟨fun h => hy5 h.1, rfl, H.sub (List.nil_sublist _)⟩

set_option maxHeartbeats 4000000 in
theorem equalb_spec (x y : Bd) (w0 : World) (hx : BRow w0 x.a x.b) (hy : BRow w0 y.a y.b) :
  Calls Try.prog 82 #[bdV x, bdV y] w0 fun e w => ∃ v, e = .returned v ∧ (((x.b = y.b) ∧ v = .bool true ∧ St w0 [] w []) ∨ (¬ (x.b = y.b) ∧ v = .bool false ∧ St w0 [] w [])) := by
 have H := St.refl w0
 refine c_enter (args := [bdV x, bdV y]) (l := t10 []) Try.func82 Try.ntmps82 rfl rfl ?_
 refine zq 10 ⟨rfl, rfl⟩ ?_
 refine za ?_
 refine zc (t10 []) ?_
 refine zq 10 ⟨rfl, rfl⟩ ?_
 refine zm ?_
 refine s_val (r_textB qu41 qu9 qu5 (a := x.a) (c := x.c) (bs := x.b) rfl (hx.st H)) ?_
 refine zm ?_
 refine s_val (r_textB qu41 qu9 qu5 (a := y.a) (c := y.c) (bs := y.b) rfl (hy.st H)) ?_
 refine s_test (r_eqlT (s := x.b) (t := y.b) rfl rfl) (fun h9 => ?_) (fun h9 => ?_)
 ·refine za ?_
  refine zc (t10 []) ?_
  refine wp_ret ?_
  refine zw (res1 rfl rfl) ?_
  exact .inl ⟨h9, rfl, H⟩
 ·refine za ?_
  refine zc (t10 []) ?_
  refine wp_ret ?_
  refine zw (res1 rfl rfl) ?_
  exact .inr ⟨h9, rfl, H⟩

end Go.Proofs.Ytobfnieebiakeaa

