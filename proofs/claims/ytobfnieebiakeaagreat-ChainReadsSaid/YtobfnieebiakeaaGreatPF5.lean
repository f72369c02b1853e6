import Derived.Test.YtobfnieebiakeaaGreatPM
import Derived.Test.YtobfnieebiakeaaGreatPF4
import Derived.Test.YtobfnieebiakeaaGreatPB3
namespace Go.Proofs.YtobfnieebiakeaaGreat
open Go Go.Er

set_option maxHeartbeats 4000000 in
theorem read_nilc (gv : Value) (bt : Nat) (n : Int) (w0 : World) :
  Calls Tryz.prog 8 #[.nilIface, gv, .pointer (some ⟨bt, 0, none⟩), .int .u64 n] w0 fun e w => ∃ v, e = .returned v ∧ (v = .tuple #[.agg (kC (By.zero 32)).toArray, .int .i64 1] ∧ St w0 [] w []) := by
 have H := St.refl w0
 refine c_enter (args := [.nilIface, gv, .pointer (some ⟨bt, 0, none⟩), .int .u64 n]) (l := t90 (t1 [])) Tryz.func8 Tryz.ntmps8 rfl rfl ?_
 refine zq 91 ⟨rfl, rfl⟩ ?_
 refine s_new (m_box (cs := [.nilIface]) H rfl rfl) ?_
 intro w b4 H
 refine s_new (m_box (cs := [.pointer (some ⟨bt, 0, none⟩)]) H rfl rfl) ?_
 intro w b6 H
 refine s_new (zA (kC (By.zero 32)) H qo35) ?_
 intro w b8 H
 refine s_new (zA [.int .i64 0] H Tryz.zeroValue36) ?_
 intro w b9 H
 refine zc (t90 (t1 [])) ?_
 refine c_seq ?_
 refine zq 91 ⟨rfl, rfl⟩ ?_
 refine zL qg70 (H.at 3 rfl) ?_
 refine s_val (r_nilit qu70 rfl) ?_
 refine zm ?_
 refine zg ?_
 refine zg ?_
 refine zv ?_
 refine zc (t90 (t1 [])) ?_
 refine c_ift rfl ?_
 refine zq 91 ⟨rfl, rfl⟩ ?_
 refine s_val (r_buildA (pl := []) (zs := kC (By.zero 32)) (out := kC (By.zero 32)) qu35 qs5 qo35 pn (by intro p hp; simp at hp) rfl) ?_
 refine s_st (zs H 1 32 qs35) (L' := [_,_,_,_]) rfl ?_
 intro w H
 refine s_st (m_store1 H 0 qs36 rfl rfl rfl rfl (by show 0 < 1; omega) rfl) (L' := [_,_,_,_]) rfl ?_
 intro w H
 refine zc (t90 (t1 [])) ?_
 refine wp_ret (x_thenRet ?_)
 refine zw (rc_two rfl (ro qg35 qs35 (H.at 1 rfl)) (rc_cell1 qg36 rfl (H.at 0 rfl) rfl)) ?_
 exact ⟨rfl, (H.sub (List.nil_sublist _))⟩

set_option maxHeartbeats 4000000 in
theorem read_nilg (bt : Nat) (n : Int) (w0 : World) :
  Calls Tryz.prog 8 #[(.iface 40 (.agg litC.toArray)), .nilFunc, .pointer (some ⟨bt, 0, none⟩), .int .u64 n] w0 fun e w => ∃ v, e = .returned v ∧ (v = .tuple #[.agg (kC (By.zero 32)).toArray, .int .i64 1] ∧ St w0 [] w []) := by
 have H := St.refl w0
 refine c_enter (args := [(.iface 40 (.agg litC.toArray)), .nilFunc, .pointer (some ⟨bt, 0, none⟩), .int .u64 n]) (l := t90 (t1 [])) Tryz.func8 Tryz.ntmps8 rfl rfl ?_
 refine zq 91 ⟨rfl, rfl⟩ ?_
 refine s_new (m_box (cs := [(.iface 40 (.agg litC.toArray))]) H rfl rfl) ?_
 intro w b4 H
 refine s_new (m_box (cs := [.pointer (some ⟨bt, 0, none⟩)]) H rfl rfl) ?_
 intro w b6 H
 refine s_new (zA (kC (By.zero 32)) H qo35) ?_
 intro w b8 H
 refine s_new (zA [.int .i64 0] H Tryz.zeroValue36) ?_
 intro w b9 H
 refine zc (t90 (t1 [])) ?_
 refine c_seq ?_
 refine zq 91 ⟨rfl, rfl⟩ ?_
 refine zL qg70 (H.at 3 rfl) ?_
 refine s_val (r_nili qu70 rfl rfl) ?_
 refine zm ?_
 refine zy ?_
 refine zm ?_
 refine zy ?_
 refine s_val (r_nilft Tryz.runUnderlying42 ⟨_, _, _, rfl⟩ rfl) ?_
 refine zf ?_
 refine zc (t90 (t1 [])) ?_
 refine c_ift rfl ?_
 refine zq 91 ⟨rfl, rfl⟩ ?_
 refine s_val (r_buildA (pl := []) (zs := kC (By.zero 32)) (out := kC (By.zero 32)) qu35 qs5 qo35 pn (by intro p hp; simp at hp) rfl) ?_
 refine s_st (zs H 1 32 qs35) (L' := [_,_,_,_]) rfl ?_
 intro w H
 refine s_st (m_store1 H 0 qs36 rfl rfl rfl rfl (by show 0 < 1; omega) rfl) (L' := [_,_,_,_]) rfl ?_
 intro w H
 refine zc (t90 (t1 [])) ?_
 refine wp_ret (x_thenRet ?_)
 refine zw (rc_two rfl (ro qg35 qs35 (H.at 1 rfl)) (rc_cell1 qg36 rfl (H.at 0 rfl) rfl)) ?_
 exact ⟨rfl, (H.sub (List.nil_sublist _))⟩

theorem small3 (a : Option Addr) (c : Nat) (cl : List Ce) (seed : Key) (ga : Option Addr) (gc : Nat) (ns : List Int) (w0 : World) (hq : CaW w0 a cl ga ns) :
  Calls Tryz.prog 6 #[.agg (caC a c cl seed ga gc ns).toArray] w0 fun e w => ∃ v, e = .returned v ∧ ((v = .int .i64 1 ∧ CaS cl ns ∧ St w0 [] w []) ∨ (v = .int .i64 0 ∧ St w0 [] w [])) :=
 (small_spec a c cl seed ga gc ns w0 hq).mono fun _ _ ⟨v, he, h, H⟩ => ⟨v, he, h.imp (fun h => ⟨h.1, h.2, H⟩) (fun h => ⟨h, H⟩)⟩

set_option maxHeartbeats 4000000 in
theorem reads_law (a : Option Addr) (c : Nat) (cl : List Ce) (seed : Key) (ga : Option Addr) (gc : Nat) (ns : List Int) (num : Int) (w0 : World) (hq : CaW w0 a cl ga ns) :
  Calls Tryz.prog 3 #[.agg (caC a c cl seed ga gc ns).toArray, .int .u64 num] w0 fun e w => ∃ v, e = .returned v ∧ (v = .bool true ∧ St w0 [] w []) := by
 have H := St.refl w0
 refine c_enter (args := [.agg (caC a c cl seed ga gc ns).toArray, .int .u64 num]) (l := t70 (t7 [])) Tryz.func3 Tryz.ntmps3 rfl rfl ?_
 refine zq 77 ⟨rfl, rfl⟩ ?_
 refine s_new (m_box (cs := (caC a c cl seed ga gc ns)) H rfl rfl) ?_
 intro w b2 H
 refine za ?_
 refine zc (t70 (t7 [])) ?_
 refine c_seq ?_
 refine zq 77 ⟨rfl, rfl⟩ ?_
 refine s_call (r_call Tryz.call5 en) (awake23_spec _) ?_
 rintro v w ⟨rfl, HC⟩
 replace H := H.quiet HC
 refine s_val (r_not rfl) ?_
 refine zc (t70 (t7 [])) ?_
 refine c_iff rfl ?_
 refine wp_skip ?_
 refine x_thenNormal ?_
 refine c_seq ?_
 refine zq 77 ⟨rfl, rfl⟩ ?_
 refine s_val (r_loadn Tryz.isAgg27 Tryz.sizeOf27 rfl (H.at 0 rfl) (caC_td _ _ _ _ _ _ _) (caC_length _ _ _ _ _ _ _)) ?_
 refine s_call (r_call Tryz.call6 (ec rfl en)) (small3 a c cl seed ga gc ns _ (hq.st (H.sub (List.nil_sublist _)))) ?_
 rintro v w (⟨rfl, hs, HC⟩ | ⟨rfl, HC⟩)
 ·replace H := H.quiet HC
  obtain ⟨hs1, hs2, hs3⟩ := id hs
  refine s_val (r_eql rfl rfl) ?_
  refine zc (t70 (t7 [])) ?_
  refine c_if rfl (fun h19 => ?_) (fun h19 => ?_)
  ·exact absurd h19 (by decide)
  ·refine wp_skip ?_
   refine x_thenNormal ?_
   refine zq 77 ⟨rfl, rfl⟩ ?_
   refine s_val (r_loadn Tryz.isAgg27 Tryz.sizeOf27 rfl (H.at 0 rfl) (caC_td _ _ _ _ _ _ _) (caC_length _ _ _ _ _ _ _)) ?_
   refine s_call (r_call Tryz.call7 (ec rfl en)) (laid_spec a c cl seed ga gc ns hs _ (hq.st (H.sub (List.nil_sublist _)))) ?_
   rintro v w ⟨bt, xs, ak, ck, Nt, Nk, rfl, hxs, hT, hRk, HC⟩
   replace H : St w0 [] w (_ :: (Nk ++ Nt)) := (H.call0 HC).perm (List.perm_append_comm (l₁ := [_]) (l₂ := Nk ++ Nt))
   have hv : Valid xs := by rw [hxs]; exact tree0_valid _
   have hxl : xs.length ≤ 100000 := by have h := tree0_lenN (sl := litL) (sr := litR) (seed := seed) ns.reverse; rw [← hxs, List.length_reverse] at h; omega
   obtain ⟨ks, hks⟩ : ∃ z, z = keysF xs cl := ⟨_, rfl⟩
   have hkl : ks.length ≤ 12 := by rw [hks]; exact Nat.le_trans (keysF_len _ _) hs1
   have hKA : KsA xs cl ks := by rw [hks]; exact keysF_a xs cl
   rw [← hks] at hRk ⊢
   refine zm ?_
   refine ze ?_
   refine ze ?_
   refine za ?_
   refine za ?_
   refine zc (t70 (t7 [])) ?_
   refine zq 77 ⟨rfl, rfl⟩ ?_
   refine s_val (r_buildS (zs := litC) (out := litC) qu40 qo40 places40 pn rfl) ?_
   refine s_val (r_makeIface qu40 (fun _ h => nomatch h) rfl) ?_
   refine zR 0 qu27 qs22 ?_
   refine s_val (r_load1 qg22 rfl (H.at 0 rfl) (caC_cl _ _ _ _ _ _ _)) ?_
   refine s_call (r_call qc9 (ec rfl en)) (get_mk _ _ _ _) ?_
   rintro v w ⟨g1, rfl, HC⟩
   replace H : St w0 [] w (_ :: _ :: _) := H.call0 HC
   refine zm ?_
   refine zm ?_
   refine s_call (r_call qc8 (ec rfl (ec rfl (ec rfl (ec rfl en))))) (read_spec g1 cl num (by omega) (fun y hy => by have := hs3 y hy; omega) hq.ref bt xs Nt hxl hv _ (hq.get H (H.at 0 rfl)) hT (H.ownsM (.cons _ (.cons _ (List.sublist_append_right _ _))))) ?_
   rintro v w ⟨rfl, HC⟩
   replace H := H.quiet HC
   refine zm ?_
   refine ze ?_
   refine ze ?_
   refine s_new (zA (kC (By.zero 32)) H qo35) ?_
   intro w b7 H
   refine s_st (zs H 0 32 qs35) (L' := (_ :: _ :: _ :: _)) rfl ?_
   intro w H
   refine za ?_
   refine zc (t70 (t7 [])) ?_
   refine zq 77 ⟨rfl, rfl⟩ ?_
   refine zR 0 qu27 qs22 ?_
   refine s_val (r_load1 qg22 rfl (H.at 2 rfl) (caC_cl _ _ _ _ _ _ _)) ?_
   refine zm ?_
   refine zm ?_
   refine s_call (r_call Tryz.call10 (ec rfl (ec rfl (ec rfl en)))) (read23_spec a c cl num (by omega) ak ck ks (by omega) xs hKA hq.ref _ (hq.row.st (H.sub (List.nil_sublist _))) (fun y hy => (hq.body y hy).st (H.sub (List.nil_sublist _))) (hRk.rrowM (fun h => h) H (fun p hp => (List.mem_cons_of_mem _ (List.mem_cons_of_mem _ (List.mem_cons_of_mem _ (List.mem_append_left _ hp))))))) ?_
   rintro v w ⟨rfl, HC⟩
   replace H := H.quiet HC
   refine zm ?_
   refine ze ?_
   refine ze ?_
   refine s_new (zA (kC (By.zero 32)) H qo35) ?_
   intro w b9 H
   refine s_st (zs H 0 32 qs35) (L' := (_ :: _ :: _ :: _ :: _)) rfl ?_
   intro w H
   refine za ?_
   refine zc (t70 (t7 [])) ?_
   refine zq 77 ⟨rfl, rfl⟩ ?_
   refine zR 0 qu27 qs22 ?_
   refine s_val (r_load1 qg22 rfl (H.at 3 rfl) (caC_cl _ _ _ _ _ _ _)) ?_
   refine s_call (r_call qc9 (ec rfl en)) (get_mk _ _ _ _) ?_
   rintro v w ⟨g2, rfl, HC⟩
   replace H : St w0 [] w (_ :: _ :: _ :: _ :: _ :: _) := H.call0 HC
   refine zm ?_
   refine zm ?_
   refine s_call (r_call qc8 (ec rfl (ec rfl (ec rfl (ec rfl en))))) (read_nilc _ bt num _) ?_
   rintro v w ⟨rfl, HC⟩
   replace H := H.quiet HC
   refine zm ?_
   refine ze ?_
   refine ze ?_
   refine s_new (zA (kC (By.zero 32)) H qo35) ?_
   intro w b11 H
   refine s_st (zs H 0 32 qs35) (L' := (_ :: _ :: _ :: _ :: _ :: _ :: _)) rfl ?_
   intro w H
   refine za ?_
   refine zc (t70 (t7 [])) ?_
   refine zq 77 ⟨rfl, rfl⟩ ?_
   refine s_val (r_buildS (zs := litC) (out := litC) qu40 qo40 places40 pn rfl) ?_
   refine s_val (r_makeIface qu40 (fun _ h => nomatch h) rfl) ?_
   refine zm ?_
   refine zm ?_
   refine s_call (r_call qc8 (ec rfl (ec rfl (ec rfl (ec rfl en))))) (read_nilg bt num _) ?_
   rintro v w ⟨rfl, HC⟩
   replace H := H.quiet HC
   refine zm ?_
   refine ze ?_
   refine ze ?_
   refine s_new (zA (kC (By.zero 32)) H qo35) ?_
   intro w b13 H
   refine s_st (zs H 0 32 qs35) (L' := (_ :: _ :: _ :: _ :: _ :: _ :: _ :: _)) rfl ?_
   intro w H
   refine za ?_
   refine zc (t70 (t7 [])) ?_
   refine zq 77 ⟨rfl, rfl⟩ ?_
   refine s_val (zo qg35 qs35 (H.at 4 rfl)) ?_
   refine s_val (zo qg35 qs35 (H.at 3 rfl)) ?_
   refine s_test (r_eqlB byT35 rfl rfl) (fun h63 => ?_) (fun h63 => ?_)
   ·refine zm ?_
    refine zy ?_
    refine zm ?_
    refine zy ?_
    refine zm ?_
    refine zy ?_
    refine s_test (r_eql rfl rfl) (fun h67 => ?_) (fun h67 => ?_)
    ·refine zv ?_
     refine zm ?_
     refine zy ?_
     refine zm ?_
     refine zy ?_
     refine s_test (r_eql rfl rfl) (fun h71 => ?_) (fun h71 => ?_)
     ·refine zv ?_
      refine zm ?_
      refine zy ?_
      refine zm ?_
      refine zy ?_
      refine s_test (r_eql rfl rfl) (fun h75 => ?_) (fun h75 => ?_)
      ·refine zv ?_
       refine za ?_
       refine zc (t70 (t7 [])) ?_
       refine wp_ret ?_
       refine zw (res1 rfl rfl) ?_
       exact ⟨rfl, (H.sub (List.nil_sublist _))⟩
      ·exfalso; omega
     ·exfalso; omega
    ·exact absurd rfl h67
   ·exact absurd rfl h63
 ·replace H := H.quiet HC
  refine s_val (r_eql rfl rfl) ?_
  refine zc (t70 (t7 [])) ?_
  refine c_if rfl (fun h19 => ?_) (fun h19 => ?_)
  ·refine zq 77 ⟨rfl, rfl⟩ ?_
   refine za ?_
   refine zc (t70 (t7 [])) ?_
   refine wp_ret (x_thenRet ?_)
   refine zw (res1 rfl rfl) ?_
   exact ⟨rfl, (H.sub (List.nil_sublist _))⟩
  ·exact absurd rfl h19

end Go.Proofs.YtobfnieebiakeaaGreat

