import Derived.Test.YtobfnieebiakeaaGreatPM
import Derived.Test.YtobfnieebiakeaaGreatPVx2
import Derived.Test.YtobfnieebiakeaaGreatPJ1
import Derived.Test.YtobfnieebiakeaaGreatPU0
namespace Go.Proofs.YtobfnieebiakeaaGreat
open Go Go.Er
theorem bytes114 : Tryz.t114.bytes = 16 := rfl

set_option maxHeartbeats 4000000 in
theorem rruns_spec (a : Option Addr) (c : Nat) (ds : List UInt8) (hl : ds.length ≤ 1000000) (w0 : World) (hr : BRow w0 a ds) :
  Calls Tryz.prog 33 #[.slice a ds.length c] w0 fun e w => ∃ v, e = .returned v ∧ ((∃ (ps : List Run) (a2 : Option Addr) (c2 : Nat) (N : List (Nat × Obj)), runsD ds = some ps ∧ v = .tuple #[.slice a2 ps.length c2, .bool true] ∧ RowN 2 114 (rowC prC ps) ps.length a2 c2 N ∧ St w0 [] w N) ∨ (runsD ds = none ∧ v = .tuple #[.slice none 0 0, .bool false] ∧ St w0 [] w [])) := by
 have H := St.refl w0
 refine c_enter (args := [.slice a ds.length c]) (l := t60 (t8 [])) Tryz.func33 Tryz.ntmps33 rfl rfl ?_
 refine zq 68 ⟨rfl, rfl⟩ ?_
 refine za ?_
 refine za ?_
 refine zc (t60 (t8 [])) ?_
 refine zq 68 ⟨rfl, rfl⟩ ?_
 refine za ?_
 refine zc (t60 (t8 [])) ?_
 refine c_seq ?_
 refine zq 68 ⟨rfl, rfl⟩ ?_
 refine zm ?_
 refine s_val (r_lens qu59 (ec rfl en)) ?_
 refine s_val (r_gtr rfl rfl) ?_
 refine zc (t60 (t8 [])) ?_
 refine c_if rfl (fun h11 => ?_) (fun h11 => ?_)
 ·refine zq 68 ⟨rfl, rfl⟩ ?_
  refine za ?_
  refine za ?_
  refine zc (t60 (t8 [])) ?_
  refine wp_ret (x_thenRet ?_)
  refine zw (res2 rfl rfl rfl) ?_
  exact .inr ⟨if_pos (by omega), rfl, (H.sub (List.nil_sublist _))⟩
 ·have hl20 : ds.length ≤ 20 := by omega
  refine wp_skip ?_
  refine x_thenNormal ?_
  refine zq 68 ⟨rfl, rfl⟩ ?_
  refine za ?_
  refine zc (t60 (t8 [])) ?_
  refine zq 68 ⟨rfl, rfl⟩ ?_
  refine za ?_
  refine zc (t60 (t8 [])) ?_
  refine c_seq ?_
  refine wp_block ?_
  refine c_loop (fun (l0 : List Value) (t : Nat) (l : List Value) (w : World) => ∃ (u2 u3 u7 u8 u12 u13 u14 u15 u16 u17 u18 u19 u20 u21 u22 u23 u24 u25 u26 u27 u28 u29 u30 u31 u32 u33 u34 u35 u36 u37 u38 u39 u40 u41 u42 u43 u44 u45 u46 u47 u48 u49 u50 u51 u52 u53 u54 u55 u56 u57 u58 u59 u60 u61 u62 u63 u64 u65 u66 : Value) (at_ nx : Nat) (ps : List Run) (a2 : Option Addr) (c2 : Nat) (N : List (Nat × Obj)), l = ovr l0 [N_, N_, Y_ u2, Y_ u3, Y_ (.slice a2 ps.length c2), Y_ (.int .i64 (at_ : Int)), Y_ (.int .i64 ((nx : Int) - 1)), Y_ u7, Y_ u8, N_, N_, N_, Y_ u12, Y_ u13, Y_ u14, Y_ u15, Y_ u16, Y_ u17, Y_ u18, Y_ u19, Y_ u20, Y_ u21, Y_ u22, Y_ u23, Y_ u24, Y_ u25, Y_ u26, Y_ u27, Y_ u28, Y_ u29, Y_ u30, Y_ u31, Y_ u32, Y_ u33, Y_ u34, Y_ u35, Y_ u36, Y_ u37, Y_ u38, Y_ u39, Y_ u40, Y_ u41, Y_ u42, Y_ u43, Y_ u44, Y_ u45, Y_ u46, Y_ u47, Y_ u48, Y_ u49, Y_ u50, Y_ u51, Y_ u52, Y_ u53, Y_ u54, Y_ u55, Y_ u56, Y_ u57, Y_ u58, Y_ u59, Y_ u60, Y_ u61, Y_ u62, Y_ u63, Y_ u64, Y_ u65, Y_ u66] ∧ t = ds.length - at_ ∧ at_ ≤ ds.length ∧ ps.length ≤ at_ ∧ nx ≤ 33 ∧ runsF ds.length 0 ds = (runsF (ds.drop at_).length nx (ds.drop at_)).map (ps ++ ·) ∧ RowN 2 114 (rowC prC ps) ps.length a2 c2 N ∧ St w0 [] w (N)) (fun (t : Nat) => t) ds.length ⟨_, _, _, _, _, _, _, _, _, _, _, _, _, _, _, _, _, _, _, _, _, _, _, _, _, _, _, _, _, _, _, _, _, _, _, _, _, _, _, _, _, _, _, _, _, _, _, _, _, _, _, _, _, _, _, _, _, _, _, 0, 0, [], none, 0, [], rfl, rfl, (Nat.zero_le _), (Nat.le_refl _), (Nat.zero_le _), (by rw [List.drop_zero]; exact (by cases runsF ds.length 0 ds <;> rfl)), RowN.nil, H⟩ ?_
  intro t l w ⟨u2, u3, u7, u8, u12, u13, u14, u15, u16, u17, u18, u19, u20, u21, u22, u23, u24, u25, u26, u27, u28, u29, u30, u31, u32, u33, u34, u35, u36, u37, u38, u39, u40, u41, u42, u43, u44, u45, u46, u47, u48, u49, u50, u51, u52, u53, u54, u55, u56, u57, u58, u59, u60, u61, u62, u63, u64, u65, u66, at_, nx, ps, a2, c2, N, hl, ht, hat, hpl, hnx, hI, hR, H⟩
  obtain rfl := hl.trans (rfl : _ = t60 (t8 []))
  clear hl
  refine c_seq ?_
  refine zq 68 ⟨rfl, rfl⟩ ?_
  refine zm ?_
  refine zm ?_
  refine s_val (r_lens qu59 (ec rfl en)) ?_
  refine s_val (r_lss rfl rfl) ?_
  refine zc (t60 (t8 [])) ?_
  refine c_if rfl (fun h15 => ?_) (fun h15 => ?_)
  ·obtain ⟨bb, off, _,_,_,_, ha0, _,_⟩ := id hr (by omega)
   subst ha0
   refine wp_skip ?_
   refine x_thenNormal ?_
   refine wp_block ?_
   refine c_seq ?_
   refine zq 68 ⟨rfl, rfl⟩ ?_
   refine zm ?_
   refine zj ?_
   refine zm ?_
   refine s_val (r_lens qu59 (ec rfl en)) ?_
   refine s_val (r_geq rfl rfl) ?_
   refine zc (t60 (t8 [])) ?_
   refine c_if rfl (fun h20 => ?_) (fun h20 => ?_)
   ·refine zq 68 ⟨rfl, rfl⟩ ?_
    refine za ?_
    refine za ?_
    refine zc (t60 (t8 [])) ?_
    refine wp_ret (x_thenRet (x_blockRet (x_thenRet (x_blockRet (x_thenRet ?_)))))
    refine zw (res2 rfl rfl rfl) ?_
    have hz := runs_one (next := nx) (ds := ds.drop at_) (by rw [List.length_drop]; omega) (ds.drop at_).length
    exact .inr ⟨runsD_none2 hl20 hI hz, rfl, (H.sub (List.nil_sublist _))⟩
   ·refine wp_skip ?_
    refine x_thenNormal ?_
    refine c_cut (fun (l0 : List Value) (l : List Value) (w : World) => ∃ (u21 u22 u23 u24 u25 u26 u27 u28 u29 u30 u31 : Value) (aa nn : Nat), l = ovr l0 [N_, N_, N_, N_, N_, N_, N_, Y_ (.int .i64 (aa : Int)), Y_ (.int .i64 (nn : Int)), N_, N_, N_, N_, N_, N_, N_, N_, N_, N_, N_, N_, Y_ u21, Y_ u22, Y_ u23, Y_ u24, Y_ u25, Y_ u26, Y_ u27, Y_ u28, Y_ u29, Y_ u30, Y_ u31] ∧ aa = ((ds.drop at_).getD 0 0).toNat ∧ nn = ((ds.drop at_).getD 1 0).toNat ∧ St w0 [] w (N)) ?_ ?_
    ·refine d_begin (sz := 68) ⟨rfl, rfl⟩ (by kernel_rfl) H (H.sub (List.nil_sublist _)) rfl ?_
     intro w H
     refine zM 0 (H.sub (List.nil_sublist _)) ?_
     refine zM 1 (H.sub (List.nil_sublist _)) ?_
     refine zd 2 rfl (by kernel_rfl) (fun _ _ _ h => h) (H.sub (List.nil_sublist _)) (ziS qu59 qs5) rfl ?_
     refine zdh 3 rfl (by kernel_rfl) (fun _ _ _ h => h) (H.sub (List.nil_sublist _)) (fun HS => r_loadB qg5 rfl (hr.st (HS.sub (List.nil_sublist _))) (i := at_) (by omega) (by omega)) rfl ?_
     have hlt := (ds.getD at_ 0).toNat_lt
     refine zd 4 rfl (by kernel_rfl) (fun _ _ _ h => h) (H.sub (List.nil_sublist _)) (r_conv qu5 qu3 rfl w6) rfl ?_
     refine zM 5 (H.sub (List.nil_sublist _)) ?_
     refine zM 6 (H.sub (List.nil_sublist _)) ?_
     refine zd 7 rfl (by kernel_rfl) (fun _ _ _ h => h) (H.sub (List.nil_sublist _)) z_add rfl ?_
     refine zd 8 rfl (by kernel_rfl) (fun _ _ _ h => h) (H.sub (List.nil_sublist _)) (ziS qu59 qs5) rfl ?_
     refine zdh 9 rfl (by kernel_rfl) (fun _ _ _ h => h) (H.sub (List.nil_sublist _)) (fun HS => r_loadB qg5 rfl (hr.st (HS.sub (List.nil_sublist _))) (i := (at_ + 1)) (by omega) (by omega)) rfl ?_
     have hlt2 := (ds.getD (at_ + 1) 0).toNat_lt
     refine zd 10 rfl (by kernel_rfl) (fun _ _ _ h => h) (H.sub (List.nil_sublist _)) (r_conv qu5 qu3 rfl w6) rfl ?_
     refine zd 11 rfl (by kernel_rfl) (fun _ _ _ h => h) (H.sub (List.nil_sublist _)) (r_assign rfl) rfl ?_
     refine zd 12 rfl (by kernel_rfl) (fun _ _ _ h => h) (H.sub (List.nil_sublist _)) (r_assign rfl) rfl ?_
     refine zz (t60 (t8 [])) ?_
     exact ⟨_, rfl, ⟨_, _, _, _, _, _, _, _, _, _, _, _, _, rfl, (by rw [drop_getD]; rfl), (by rw [drop_getD]), H⟩⟩
    ·rintro l w ⟨u21, u22, u23, u24, u25, u26, u27, u28, u29, u30, u31, aa, nn, hl, haa, hnn, H⟩
     obtain rfl := hl.trans (rfl : _ = t60 (t8 []))
     clear hl
     have hlt : aa < 256 := by rw [haa]; exact UInt8.toNat_lt _
     have hlt2 : nn < 256 := by rw [hnn]; exact UInt8.toNat_lt _
     refine c_seq ?_
     refine zq 68 ⟨rfl, rfl⟩ ?_
     refine zm ?_
     refine s_test (r_lss rfl rfl) (fun h33 => ?_) (fun h33 => ?_)
     ·refine zm ?_
      refine zg ?_
      refine zg ?_
      refine zg ?_
      refine zg ?_
      refine zv ?_
      refine zm ?_
      refine zg ?_
      refine zg ?_
      refine zg ?_
      refine zv ?_
      refine zm ?_
      refine zg ?_
      refine zg ?_
      refine zg ?_
      refine zg ?_
      refine zg ?_
      refine zg ?_
      refine zg ?_
      refine zv ?_
      refine zc (t60 (t8 [])) ?_
      refine c_ift rfl ?_
      refine zq 68 ⟨rfl, rfl⟩ ?_
      refine za ?_
      refine za ?_
      refine zc (t60 (t8 [])) ?_
      refine wp_ret (x_thenRet (x_blockRet (x_thenRet (x_blockRet (x_thenRet ?_)))))
      refine zw (res2 rfl rfl rfl) ?_
      have hz := runs_bad (next := nx) (by rw [List.length_drop]; omega) haa hnn (by rw [List.length_drop]; omega)
      exact .inr ⟨runsD_none2 hl20 hI hz, rfl, (H.sub (List.nil_sublist _))⟩
     ·refine zm ?_
      refine zy ?_
      refine zm ?_
      refine zy ?_
      refine zm ?_
      refine zy ?_
      refine zj ?_
      refine zy ?_
      refine s_test (r_gtr rfl rfl) (fun h38 => ?_) (fun h38 => ?_)
      ·refine zf ?_
       refine zm ?_
       refine zg ?_
       refine zg ?_
       refine zg ?_
       refine zv ?_
       refine zm ?_
       refine zg ?_
       refine zg ?_
       refine zg ?_
       refine zg ?_
       refine zg ?_
       refine zg ?_
       refine zg ?_
       refine zv ?_
       refine zc (t60 (t8 [])) ?_
       refine c_ift rfl ?_
       refine zq 68 ⟨rfl, rfl⟩ ?_
       refine za ?_
       refine za ?_
       refine zc (t60 (t8 [])) ?_
       refine wp_ret (x_thenRet (x_blockRet (x_thenRet (x_blockRet (x_thenRet ?_)))))
       refine zw (res2 rfl rfl rfl) ?_
       have hz := runs_bad (next := nx) (by rw [List.length_drop]; omega) haa hnn (by rw [List.length_drop]; omega)
       exact .inr ⟨runsD_none2 hl20 hI hz, rfl, (H.sub (List.nil_sublist _))⟩
      ·refine zf ?_
       refine zm ?_
       refine zy ?_
       refine zm ?_
       refine zy ?_
       refine zm ?_
       refine zy ?_
       refine s_test (r_leq rfl rfl) (fun h43 => ?_) (fun h43 => ?_)
       ·refine zf ?_
        refine zm ?_
        refine zg ?_
        refine zg ?_
        refine zg ?_
        refine zg ?_
        refine zg ?_
        refine zg ?_
        refine zg ?_
        refine zv ?_
        refine zc (t60 (t8 [])) ?_
        refine c_ift rfl ?_
        refine zq 68 ⟨rfl, rfl⟩ ?_
        refine za ?_
        refine za ?_
        refine zc (t60 (t8 [])) ?_
        refine wp_ret (x_thenRet (x_blockRet (x_thenRet (x_blockRet (x_thenRet ?_)))))
        refine zw (res2 rfl rfl rfl) ?_
        have hz := runs_bad (next := nx) (by rw [List.length_drop]; omega) haa hnn (by rw [List.length_drop]; omega)
        exact .inr ⟨runsD_none2 hl20 hI hz, rfl, (H.sub (List.nil_sublist _))⟩
       ·refine zf ?_
        refine zm ?_
        refine zy ?_
        refine zm ?_
        refine zy ?_
        refine zj ?_
        refine zy ?_
        refine zm ?_
        refine zy ?_
        refine zj ?_
        refine zy ?_
        refine zm ?_
        refine zy ?_
        refine s_val (r_lens qu59 (ec rfl en)) ?_
        refine zy ?_
        refine s_test (r_gtr rfl rfl) (fun h52 => ?_) (fun h52 => ?_)
        ·refine zf ?_
         refine zc (t60 (t8 [])) ?_
         refine c_ift rfl ?_
         refine zq 68 ⟨rfl, rfl⟩ ?_
         refine za ?_
         refine za ?_
         refine zc (t60 (t8 [])) ?_
         refine wp_ret (x_thenRet (x_blockRet (x_thenRet (x_blockRet (x_thenRet ?_)))))
         refine zw (res2 rfl rfl rfl) ?_
         have hz := runs_bad (next := nx) (by rw [List.length_drop]; omega) haa hnn (by rw [List.length_drop]; omega)
         exact .inr ⟨runsD_none2 hl20 hI hz, rfl, (H.sub (List.nil_sublist _))⟩
        ·refine zf ?_
         refine zc (t60 (t8 [])) ?_
         refine c_iff rfl ?_
         refine wp_skip ?_
         refine x_thenNormal ?_
         refine zq 68 ⟨rfl, rfl⟩ ?_
         refine zm ?_
         refine zm ?_
         refine zm ?_
         have htl2 : (((ds.drop at_).drop 2).take nn).length = nn := by rw [List.length_take, List.length_drop, List.length_drop]; omega
         have hpl : ps.length ≤ 20 := by omega
         refine s_val (r_buildA (pl := [(0, 1), (1, 1)]) (zs := prC (0, [])) (out := prC (aa, ((ds.drop at_).drop 2).take nn)) (pv := [(0, .int .i64 (aa : Int)), (1, .int .i64 (nn : Int))]) qu114 qs3 Tryz.zeroValue114 (pc rfl (pc rfl pn)) (by intro p hp; simp at hp; rcases hp with rfl | rfl <;> rfl) (by unfold prC; rw [htl2]; rfl)) ?_
         refine s_new (m_bslice1 (vs := prC (aa, ((ds.drop at_).drop 2).take nn)) H qu83 qs114 Tryz.zeroValue114 (by omega) (by omega) rfl rfl rfl) ?_
         intro w b58 H
         refine s_any (m_append_row0 (L1 := [_]) (N := N) H hR qu83 qu83 (fun _ h => nomatch h) qs114 Tryz.zeroValue114 rfl Tryz.typeInfo114 (by rw [bytes114]; omega) (by rw [bytes114]; omega) (ec rfl (ec rfl en)) (Src.slice (vs := prC (aa, ((ds.drop at_).drop 2).take nn)) (H.at 0 rfl) rfl rfl (elRun.one _))) ?_
         rintro v w ⟨a5, c5, N4, rfl, hN4, H⟩
         replace H : St w0 [] w (_ :: N4) := H
         obtain ⟨ps2, hp2⟩ : ∃ z, z = ps ++ [(aa, ((ds.drop at_).drop 2).take nn)] := ⟨_, rfl⟩
         have hll : ps2.length = ps.length + 1 := by rw [hp2, List.length_append]; rfl
         rw [← hll] at hN4 ⊢
         have hN5 : RowN 2 114 (rowC prC ps2) ps2.length a5 c5 N4 := by rw [hp2, rowC_append, rowC_one1, ← hp2]; exact hN4
         have hI2 := runs_step hI (by rw [List.length_drop]; omega) haa hnn (by omega) (by rw [List.length_drop]; omega) (by omega) (by omega)
         rw [← hp2] at hI2
         refine za ?_
         refine zc (t60 (t8 [])) ?_
         refine zq 68 ⟨rfl, rfl⟩ ?_
         refine zm ?_
         refine zm ?_
         refine s_val (r_add rfl rfl (wr (r := ((aa + nn + 1 : Nat) : Int) - 1))) ?_
         refine za ?_
         refine zc (t60 (t8 [])) ?_
         refine c_region (n := 68) ⟨rfl, rfl⟩ ?_
         refine zm ?_
         refine zj ?_
         refine zm ?_
         refine s_val (r_add rfl rfl (wr (r := ((at_ + 2 + nn : Nat) : Int)))) ?_
         refine za ?_
         refine zb (t60 (t8 [])) ?_
         refine x_blockNormal ?_
         exact ⟨ds.length - (at_ + 2 + nn), _, rfl, ⟨_, _, _, _, _, _, _, _, _, _, _, _, _, _, _, _, _, _, _, _, _, _, _, _, _, _, _, _, _, _, _, _, _, _, _, _, _, _, _, _, _, _, _, _, _, _, _, _, _, _, _, _, _, _, _, _, _, _, _, (at_ + 2 + nn), (aa + nn + 1), ps2, a5, c5, N4, rfl, rfl, (by omega), (by omega), (by omega), hI2, hN5, (H.sub x0r)⟩, by omega⟩
  ·refine wp_exit (x_thenExit (x_thenExit (x_blockHit ?_)))
   refine x_thenNormal ?_
   refine zq 68 ⟨rfl, rfl⟩ ?_
   refine zm ?_
   refine za ?_
   refine za ?_
   refine zc (t60 (t8 [])) ?_
   refine wp_ret ?_
   refine zw (res2 rfl rfl rfl) ?_
   exact .inl ⟨ps, a2, c2, N, runsD_some2 hl20 hI (List.length_eq_zero_iff.1 (by rw [List.length_drop]; omega)), rfl, hR, H⟩

set_option maxHeartbeats 4000000 in
theorem rapply_spec (b0 : Blk) (a : Option Addr) (c : Nat) (ds : List UInt8) (hl : ds.length ≤ 1000000) (ps : List Run) (hps : runsD ds = some ps) (w0 : World) (hr : BRow w0 a ds) :
  Calls Tryz.prog 34 #[.agg (kC b0).toArray, .slice a ds.length c] w0 fun e w => ∃ v, e = .returned v ∧ (v = .agg (kC (putAll b0 ps)).toArray ∧ St w0 [] w []) := by
 have H := St.refl w0
 refine c_enter (args := [.agg (kC b0).toArray, .slice a ds.length c]) (l := t50 (t4 [])) Tryz.func34 Tryz.ntmps34 rfl rfl ?_
 refine zq 54 ⟨rfl, rfl⟩ ?_
 refine s_new (m_box (cs := (kC b0)) H rfl rfl) ?_
 intro w b2 H
 refine s_new (zA (kC (By.zero 32)) H Tryz.zeroValue23) ?_
 intro w b4 H
 refine zc (t50 (t4 [])) ?_
 refine zq 54 ⟨rfl, rfl⟩ ?_
 refine zm ?_
 refine s_call (r_call Tryz.call33 (ec rfl en)) (rruns_spec a c ds hl _ (hr.st (H.sub (List.nil_sublist _)))) ?_
 rintro v w (⟨ps2, a2, c2, N, hp2, rfl, hR, HC⟩ | ⟨hp2, rfl, HC⟩)
 ·rw [hps] at hp2
  injection hp2 with hp2
  subst hp2
  replace H : St w0 [] w (_ :: _ :: N) := (H.call0 HC).perm (List.perm_append_comm (l₁ := [_,_]) (l₂ := N))
  refine zm ?_
  refine ze ?_
  refine ze ?_
  refine za ?_
  refine za ?_
  refine zc (t50 (t4 [])) ?_
  refine zq 54 ⟨rfl, rfl⟩ ?_
  refine za ?_
  refine zc (t50 (t4 [])) ?_
  refine c_seq ?_
  refine zq 54 ⟨rfl, rfl⟩ ?_
  refine za ?_
  refine zc (t50 (t4 [])) ?_
  refine wp_block ?_
  refine c_loop (fun (l0 : List Value) (i : Nat) (l : List Value) (w : World) => ∃ (u9 u15 u16 u17 u18 u19 u20 u21 u22 u23 u24 u25 u26 u27 u28 u29 u30 u31 u32 u33 u34 u35 u36 u37 u38 u39 u40 u41 u42 u43 u44 u45 u46 u47 u48 u49 u50 u51 u52 : Value) , l = ovr l0 [N_, N_, N_, N_, N_, N_, N_, Y_ (.int .i64 (offR (ps.take i) : Nat)), Y_ (.int .i64 i), Y_ u9, N_, N_, N_, N_, N_, Y_ u15, Y_ u16, Y_ u17, Y_ u18, Y_ u19, Y_ u20, Y_ u21, Y_ u22, Y_ u23, Y_ u24, Y_ u25, Y_ u26, Y_ u27, Y_ u28, Y_ u29, Y_ u30, Y_ u31, Y_ u32, Y_ u33, Y_ u34, Y_ u35, Y_ u36, Y_ u37, Y_ u38, Y_ u39, Y_ u40, Y_ u41, Y_ u42, Y_ u43, Y_ u44, Y_ u45, Y_ u46, Y_ u47, Y_ u48, Y_ u49, Y_ u50, Y_ u51, Y_ u52] ∧ i ≤ ps.length ∧ St w0 [] w ((b4, .cells (kC (By.zero 32)).toArray 23 (0, 0)) :: (b2, .cells (kC (putAll b0 (ps.take i))).toArray 23 (0, 0)) :: N)) (fun (i : Nat) => ps.length - i) 0 ⟨_, _, _, _, _, _, _, _, _, _, _, _, _, _, _, _, _, _, _, _, _, _, _, _, _, _, _, _, _, _, _, _, _, _, _, _, _, _, _, rfl, Nat.zero_le _, H⟩ ?_
  intro i l w ⟨u9, u15, u16, u17, u18, u19, u20, u21, u22, u23, u24, u25, u26, u27, u28, u29, u30, u31, u32, u33, u34, u35, u36, u37, u38, u39, u40, u41, u42, u43, u44, u45, u46, u47, u48, u49, u50, u51, u52, hl, hi, H⟩
  obtain rfl := hl.trans (rfl : _ = t50 (t4 []))
  clear hl
  refine c_seq ?_
  refine zq 54 ⟨rfl, rfl⟩ ?_
  refine zm ?_
  refine zm ?_
  refine s_val (r_lens qu83 (ec rfl en)) ?_
  refine s_val (r_lss rfl rfl) ?_
  refine zc (t50 (t4 [])) ?_
  refine c_if rfl (fun h18 => ?_) (fun h18 => ?_)
  ·obtain ⟨p, hx⟩ : ∃ p, ps[i]? = some p := ⟨_, List.getElem?_eq_getElem (by omega)⟩
   obtain ⟨hd20, hra⟩ := runsD_at hps hx
   obtain ⟨r1, r2, r3, _⟩ := id hra
   obtain ⟨bp, spp, rfl, hcp, rfl, hcp2⟩ := RowN.some hR (by omega)
   obtain ⟨bb, off, _,_,_,_, ha0, _,_⟩ := id hr (by omega)
   subst ha0
   have hi2 := off_two (ps.take i)
   rw [List.length_take] at hi2
   refine wp_skip ?_
   refine x_thenNormal ?_
   refine c_seq ?_
   refine wp_block ?_
   refine c_seq ?_
   refine zq 54 ⟨rfl, rfl⟩ ?_
   refine za ?_
   refine zc (t50 (t4 [])) ?_
   refine wp_block ?_
   rw [← put_none (putAll b0 (ps.take i)) (a := p.1) (by omega)] at H
   refine c_loop (fun (l0 : List Value) (k : Nat) (l : List Value) (w : World) => ∃ (u21 u22 u23 u24 u25 u26 u27 u28 u29 u30 u31 u32 u33 u34 u35 u36 u37 u38 u39 u40 u41 u42 u43 u44 : Value) , l = ovr l0 [N_, N_, N_, N_, N_, N_, N_, N_, N_, Y_ (.int .i64 k), N_, N_, N_, N_, N_, N_, N_, N_, N_, N_, N_, Y_ u21, Y_ u22, Y_ u23, Y_ u24, Y_ u25, Y_ u26, Y_ u27, Y_ u28, Y_ u29, Y_ u30, Y_ u31, Y_ u32, Y_ u33, Y_ u34, Y_ u35, Y_ u36, Y_ u37, Y_ u38, Y_ u39, Y_ u40, Y_ u41, Y_ u42, Y_ u43, Y_ u44] ∧ k ≤ p.2.length ∧ St w0 [] w ((b4, .cells (kC (By.zero 32)).toArray 23 (0, 0)) :: (b2, .cells (kC (putAt (putAll b0 (ps.take i)) p.1 (p.2.take k))).toArray 23 (0, 0)) :: [(bp, Obj.cells (rowC prC ps ++ spp).toArray 114 (0, 0))])) (fun (k : Nat) => p.2.length - k) 0 ⟨_, _, _, _, _, _, _, _, _, _, _, _, _, _, _, _, _, _, _, _, _, _, _, _, rfl, Nat.zero_le _, H⟩ ?_
   intro k l w ⟨u21, u22, u23, u24, u25, u26, u27, u28, u29, u30, u31, u32, u33, u34, u35, u36, u37, u38, u39, u40, u41, u42, u43, u44, hl, hkp, H⟩
   obtain rfl := hl.trans (rfl : _ = t50 (t4 []))
   clear hl
   refine c_seq ?_
   refine zq 54 ⟨rfl, rfl⟩ ?_
   refine zm ?_
   refine zm ?_
   refine zm ?_
   refine s_val (ziS qu83 qs114) ?_
   refine s_val (ziA qu114 qs3) ?_
   refine s_val (r_load1 qg3 rfl (H.at 2 rfl) ((run_cell hx).2 (by omega))) ?_
   refine s_val (r_lss rfl rfl) ?_
   refine zc (t50 (t4 [])) ?_
   refine c_if rfl (fun h27 => ?_) (fun h27 => ?_)
   ·refine wp_skip ?_
    refine x_thenNormal ?_
    refine c_seq ?_
    refine wp_block ?_
    refine d_begin (sz := 54) ⟨rfl, rfl⟩ (by kernel_rfl) H (H.sub x10r) rfl ?_
    intro w H
    refine zM 0 (H.sub x10r) ?_
    refine zM 1 (H.sub x10r) ?_
    refine zd 2 rfl (by kernel_rfl) (fun _ _ _ h => h) (H.sub x10r) (ziS qu83 qs114) rfl ?_
    refine zd 3 rfl (by kernel_rfl) (fun _ _ _ h => h) (H.sub x10r) (ziA qu114 qs3) rfl ?_
    refine zdh 4 rfl (by kernel_rfl) (fun _ _ _ h => h) (H.sub x10r) (fun HS => r_load1 qg3 rfl (HS.at 1 rfl) ((run_cell hx).1 (by omega))) rfl ?_
    refine zM 5 (H.sub x10r) ?_
    refine zd 6 rfl (by kernel_rfl) (fun _ _ _ h => h) (H.sub x10r) z_add rfl ?_
    refine zM 7 (H.sub x10r) ?_
    refine zM 8 (H.sub x10r) ?_
    refine zd 9 rfl (by kernel_rfl) (fun _ _ _ h => h) (H.sub x10r) z_add rfl ?_
    refine zM 10 (H.sub x10r) ?_
    refine zd 11 rfl (by kernel_rfl) (fun _ _ _ h => h) (H.sub x10r) z_add rfl ?_
    refine zd 12 rfl (by kernel_rfl) (fun _ _ _ h => h) (H.sub x10r) (ziS qu59 qs5) rfl ?_
    refine zdh 13 rfl (by kernel_rfl) (fun _ _ _ h => h) (H.sub x10r) (fun HS => r_loadB qg5 rfl (hr.st (HS.sub (List.nil_sublist _))) (i := offR (ps.take i) + 2 + k) (by omega) (by omega)) rfl ?_
    refine zd 14 rfl (by kernel_rfl) (fun _ _ _ h => h) (H.sub x10r) (ziA Tryz.runUnderlying23 qs5) rfl ?_
    refine zl1 15 ?_
    refine b_st rfl go_none (m_store1 H 1 qs5 rfl rfl rfl rfl (by rw [kC_length]; omega) (put_byte (by omega) (by omega) (by omega) (run_byte hra (by omega)).symm)) (L' := (_ :: _ :: _)) rfl rfl (fun _ H => (H.sub x10r)) ?_
    intro w H
    refine zz (t50 (t4 [])) ?_
    refine x_blockNormal ?_
    refine x_thenNormal ?_
    refine c_region (n := 54) ⟨rfl, rfl⟩ ?_
    refine zm ?_
    refine zj ?_
    refine za ?_
    refine zb (t50 (t4 [])) ?_
    exact ⟨k + 1, _, rfl, ⟨_, _, _, _, _, _, _, _, _, _, _, _, _, _, _, _, _, _, _, _, _, _, _, _, rfl, by omega, H⟩, by omega⟩
   ·obtain rfl : k = p.2.length := by omega
    rw [List.take_length, ← put_run hx] at H
    refine wp_exit (x_thenExit (x_thenExit (x_blockHit ?_)))
    refine x_thenNormal ?_
    refine c_region (n := 54) ⟨rfl, rfl⟩ ?_
    refine zm ?_
    refine zj ?_
    refine zm ?_
    refine zm ?_
    refine s_val (ziS qu83 qs114) ?_
    refine s_val (ziA qu114 qs3) ?_
    refine s_val (r_load1 qg3 rfl (H.at 2 rfl) ((run_cell hx).2 (by omega))) ?_
    refine s_val (r_add rfl rfl (w_i64e (r := (offR (ps.take (i + 1)) : Nat)) (by rw [off_run hx]; omega) (by omega) (by omega))) ?_
    refine za ?_
    refine zb (t50 (t4 [])) ?_
    refine x_blockNormal ?_
    refine x_thenNormal ?_
    refine c_region (n := 54) ⟨rfl, rfl⟩ ?_
    refine zm ?_
    refine zj ?_
    refine za ?_
    refine zb (t50 (t4 [])) ?_
    exact ⟨i + 1, _, rfl, ⟨_, _, _, _, _, _, _, _, _, _, _, _, _, _, _, _, _, _, _, _, _, _, _, _, _, _, _, _, _, _, _, _, _, _, _, _, _, _, _, rfl, by omega, H⟩, by omega⟩
  ·obtain rfl : i = ps.length := by omega
   rw [List.take_length] at H
   refine wp_exit (x_thenExit (x_thenExit (x_blockHit ?_)))
   refine x_thenNormal ?_
   refine zq 54 ⟨rfl, rfl⟩ ?_
   refine s_val (zo Tryz.isAgg23 Tryz.sizeOf23 (H.at 1 rfl)) ?_
   refine s_st (zs H 0 32 Tryz.sizeOf23) (L' := (_ :: _ :: _)) rfl ?_
   intro w H
   refine zc (t50 (t4 [])) ?_
   refine wp_ret ?_
   refine zw (rc_one rfl (ro Tryz.isAgg23 Tryz.sizeOf23 (H.at 0 rfl))) ?_
   exact ⟨rfl, (H.sub (List.nil_sublist _))⟩
 ·rw [hps] at hp2; cases hp2

end Go.Proofs.YtobfnieebiakeaaGreat

