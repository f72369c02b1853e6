import Derived.Test.YtobfnieebiakeaaPE1
import Derived.Test.YtobfnieebiakeaaPVx2
namespace Go.Proofs.Ytobfnieebiakeaa
open Go Go.Er

theorem small3 (a : Option Addr) (c : Nat) (cl : List Ce) (seed : Key) (ga : Option Addr) (gc : Nat) (ns : List Int) (w0 : World) (hq : CaW w0 a cl ga ns) :
  Calls Try.prog 10 #[.agg (caC a c cl seed ga gc ns).toArray] w0 fun e w => ∃ v, e = .returned v ∧ ((v = .int .i64 1 ∧ CaS cl ns ∧ St w0 [] w []) ∨ (v = .int .i64 0 ∧ St w0 [] w [])) :=
 (small_spec a c cl seed ga gc ns w0 hq).mono fun _ _ ⟨v, he, h, H⟩ => ⟨v, he, h.imp (fun h => ⟨h.1, h.2, H⟩) (fun h => ⟨h, H⟩)⟩

set_option maxHeartbeats 4000000 in
set_option maxRecDepth 20000 in
theorem renew_law_w (a : Option Addr) (c : Nat) (cl : List Ce) (seed : Key) (ga : Option Addr) (gc : Nat) (ns : List Int) (num other : Int) (w0 : World) (hq : CaW w0 a cl ga ns) :
  Calls Try.prog 7 #[.agg (caC a c cl seed ga gc ns).toArray, .int .u64 num, .int .u64 other] w0 fun e w => ∃ v, e = .returned v ∧ (v = .bool true ∧ St w0 [] w []) := by
 have H := St.refl w0
 refine c_enter (args := [.agg (caC a c cl seed ga gc ns).toArray, .int .u64 num, .int .u64 other]) (l := [.agg (caC a c cl seed ga gc ns).toArray, .int .u64 num, .int .u64 other, undef, undef, undef, undef, undef, undef, undef, undef, undef, undef, undef, undef, undef, undef, undef, undef, undef, undef, undef, undef, undef, undef, undef, undef, undef, undef, undef, undef, undef, undef, undef, undef, undef, undef, undef, undef, undef, undef, undef, undef, undef, undef, undef, undef, undef, undef, undef, undef, undef, undef, undef, undef, undef, undef, undef, undef, undef, undef, undef, undef, undef, undef, undef, undef, undef, undef, undef, undef, undef, undef, undef, undef, undef, undef, undef, undef, undef, undef, undef, undef, undef, undef, undef, undef, undef, undef, undef, undef, undef, undef, undef, undef, undef, undef, undef, undef, undef, undef, undef, undef, undef, undef, undef, undef, undef, undef, undef, undef, undef, undef, undef, undef, undef, undef, undef, undef, undef, undef, undef, undef, undef, undef, undef, undef, undef, undef, undef, undef, undef, undef, undef, undef, undef, undef, undef, undef, undef, undef, undef, undef, undef, undef, undef, undef, undef, undef, undef, undef, undef, undef, undef, undef, undef, undef, undef, undef, undef, undef, undef, undef, undef, undef, undef, undef, undef, undef, undef, undef, undef, undef, undef, undef]) Try.func7 Try.ntmps7 rfl rfl ?_
 refine c_rseq (n := 175) ⟨rfl, rfl⟩ ?_
 refine s_new (m_box (cs := (caC a c cl seed ga gc ns)) H rfl rfl) ?_
 intro w b3 H
 refine s_val (r_assign rfl) ?_
 refine c_nil (l' := [_,_,_,_,_,_,_,_,_,_,_,_,_,_,_,_,_,_,_,_,_,_,_,_,_,_,_,_,_,_,_,_,_,_,_,_,_,_,_,_,_,_,_,_,_,_,_,_,_,_,_,_,_,_,_,_,_,_,_,_,_,_,_,_,_,_,_,_,_,_,_,_,_,_,_,_,_,_,_,_,_,_,_,_,_,_,_,_,_,_,_,_,_,_,_,_,_,_,_,_,_,_,_,_,_,_,_,_,_,_,_,_,_,_,_,_,_,_,_,_,_,_,_,_,_,_,_,_,_,_,_,_,_,_,_,_,_,_,_,_,_,_,_,_,_,_,_,_,_,_,_,_,_,_,_,_,_,_,_,_,_,_,_,_,_,_,_,_,_,_,_,_,_,_,_]) rfl ?_
 refine c_seq ?_
 refine c_rseq (n := 175) ⟨rfl, rfl⟩ ?_
 refine s_call (r_call Try.call9 en) (awake23_spec _) ?_
 rintro v w ⟨rfl, HC⟩
 replace H := H.quiet HC
 refine s_val (r_not rfl) ?_
 refine c_nil (l' := [_,_,_,_,_,_,_,_,_,_,_,_,_,_,_,_,_,_,_,_,_,_,_,_,_,_,_,_,_,_,_,_,_,_,_,_,_,_,_,_,_,_,_,_,_,_,_,_,_,_,_,_,_,_,_,_,_,_,_,_,_,_,_,_,_,_,_,_,_,_,_,_,_,_,_,_,_,_,_,_,_,_,_,_,_,_,_,_,_,_,_,_,_,_,_,_,_,_,_,_,_,_,_,_,_,_,_,_,_,_,_,_,_,_,_,_,_,_,_,_,_,_,_,_,_,_,_,_,_,_,_,_,_,_,_,_,_,_,_,_,_,_,_,_,_,_,_,_,_,_,_,_,_,_,_,_,_,_,_,_,_,_,_,_,_,_,_,_,_,_,_,_,_,_,_]) rfl ?_
 refine c_iff rfl ?_
 refine wp_skip ?_
 refine x_thenNormal ?_
 refine c_seq ?_
 refine c_rseq (n := 175) ⟨rfl, rfl⟩ ?_
 refine s_val (r_loadn Try.isAgg27 Try.sizeOf27 rfl (H.at 0 rfl) (caC_td _ _ _ _ _ _ _) (caC_length _ _ _ _ _ _ _)) ?_
 refine s_call (r_call Try.call10 (ec rfl en)) (small3 a c cl seed ga gc ns _ (hq.st (H.sub (List.nil_sublist _)))) ?_
 rintro v w (⟨rfl, hs, HC⟩ | ⟨rfl, HC⟩)
 ·skip
  replace H := H.quiet HC
  obtain ⟨hs1, hs2, hs3⟩ := id hs
  refine s_val (r_eql rfl rfl) ?_
  refine c_nil (l' := [_,_,_,_,_,_,_,_,_,_,_,_,_,_,_,_,_,_,_,_,_,_,_,_,_,_,_,_,_,_,_,_,_,_,_,_,_,_,_,_,_,_,_,_,_,_,_,_,_,_,_,_,_,_,_,_,_,_,_,_,_,_,_,_,_,_,_,_,_,_,_,_,_,_,_,_,_,_,_,_,_,_,_,_,_,_,_,_,_,_,_,_,_,_,_,_,_,_,_,_,_,_,_,_,_,_,_,_,_,_,_,_,_,_,_,_,_,_,_,_,_,_,_,_,_,_,_,_,_,_,_,_,_,_,_,_,_,_,_,_,_,_,_,_,_,_,_,_,_,_,_,_,_,_,_,_,_,_,_,_,_,_,_,_,_,_,_,_,_,_,_,_,_,_,_]) rfl ?_
  refine c_if rfl (fun h34 => ?_) (fun h34 => ?_)
  ·skip
   exact absurd h34 (by decide)
  ·skip
   skip
   refine wp_skip ?_
   refine x_thenNormal ?_
   refine c_rseq (n := 175) ⟨rfl, rfl⟩ ?_
   refine s_val (r_loadn Try.isAgg27 Try.sizeOf27 rfl (H.at 0 rfl) (caC_td _ _ _ _ _ _ _) (caC_length _ _ _ _ _ _ _)) ?_
   refine s_call (r_call Try.call11 (ec rfl en)) (laid_spec a c cl seed ga gc ns hs _ (hq.st (H.sub (List.nil_sublist _)))) ?_
   rintro v w ⟨bt, xs, ak, ck, Nt, Nk, rfl, hxs, hT, _, HC⟩
   replace H : St w0 [] w (_ :: (Nk ++ Nt)) := (H.call0 HC).perm (List.perm_append_comm (l₁ := [_]) (l₂ := Nk ++ Nt))
   replace H : St w0 [] w (_ :: Nt) := H.sub (.cons_cons _ (List.sublist_append_right _ _))
   have hv : Valid xs := by rw [hxs]; exact tree0_valid _
   have hxl : xs.length ≤ 100000 := by have h := tree0_lenN (sl := litL) (sr := litR) (seed := seed) ns.reverse; rw [← hxs, List.length_reverse] at h; omega
   refine s_val (r_move rfl) ?_
   refine s_val (r_extract rfl rfl) ?_
   refine s_val (r_extract rfl rfl) ?_
   refine s_val (r_assign rfl) ?_
   refine s_val (r_assign rfl) ?_
   refine c_nil (l' := [_,_,_,_,_,_,_,_,_,_,_,_,_,_,_,_,_,_,_,_,_,_,_,_,_,_,_,_,_,_,_,_,_,_,_,_,_,_,_,_,_,_,_,_,_,_,_,_,_,_,_,_,_,_,_,_,_,_,_,_,_,_,_,_,_,_,_,_,_,_,_,_,_,_,_,_,_,_,_,_,_,_,_,_,_,_,_,_,_,_,_,_,_,_,_,_,_,_,_,_,_,_,_,_,_,_,_,_,_,_,_,_,_,_,_,_,_,_,_,_,_,_,_,_,_,_,_,_,_,_,_,_,_,_,_,_,_,_,_,_,_,_,_,_,_,_,_,_,_,_,_,_,_,_,_,_,_,_,_,_,_,_,_,_,_,_,_,_,_,_,_,_,_,_,_]) rfl ?_
   refine c_rseq (n := 175) ⟨rfl, rfl⟩ ?_
   refine s_val (r_fieldAddr (k := 0) Try.runUnderlying27 rfl Try.sizeOf22 (by decide) rfl rfl) ?_
   refine s_val (r_load1 Try.isAgg22 rfl (H.at 0 rfl) (caC_cl _ _ _ _ _ _ _)) ?_
   refine s_call (r_call Try.call13 (ec rfl en)) (get_mk _ _ _ _) ?_
   rintro v w ⟨g1, rfl, HC⟩
   replace H : St w0 [] w (_ :: _ :: _) := H.call0 HC
   refine s_val (r_assign rfl) ?_
   refine c_nil (l' := [_,_,_,_,_,_,_,_,_,_,_,_,_,_,_,_,_,_,_,_,_,_,_,_,_,_,_,_,_,_,_,_,_,_,_,_,_,_,_,_,_,_,_,_,_,_,_,_,_,_,_,_,_,_,_,_,_,_,_,_,_,_,_,_,_,_,_,_,_,_,_,_,_,_,_,_,_,_,_,_,_,_,_,_,_,_,_,_,_,_,_,_,_,_,_,_,_,_,_,_,_,_,_,_,_,_,_,_,_,_,_,_,_,_,_,_,_,_,_,_,_,_,_,_,_,_,_,_,_,_,_,_,_,_,_,_,_,_,_,_,_,_,_,_,_,_,_,_,_,_,_,_,_,_,_,_,_,_,_,_,_,_,_,_,_,_,_,_,_,_,_,_,_,_,_]) rfl ?_
   refine c_rseq (n := 175) ⟨rfl, rfl⟩ ?_
   refine s_val (r_buildS (zs := litC) (out := litC) Try.runUnderlying49 Try.zeroValue49 places49 pn rfl) ?_
   refine s_val (r_makeIface Try.runUnderlying49 (fun _ h => nomatch h) rfl) ?_
   refine s_val (r_move rfl) ?_
   refine s_val (r_move rfl) ?_
   refine s_val (r_move rfl) ?_
   refine s_call (r_call Try.call14 (ec rfl (ec rfl (ec rfl (ec rfl en))))) (read_spec g1 cl num (by omega) (fun y hy => by have := hs3 y hy; omega) hq.ref bt xs Nt hxl hv _ (hq.get H (H.at 0 rfl)) hT (H.ownsM (.cons _ (.cons _ (List.Sublist.refl _))))) ?_
   rintro v w ⟨rfl, HC⟩
   replace H := H.quiet HC
   refine s_val (r_move rfl) ?_
   refine s_val (r_extract rfl rfl) ?_
   refine s_val (r_extract rfl rfl) ?_
   refine s_new (m_alloc (cs := (kC (By.zero 32))) H Try.zeroValue44 rfl) ?_
   intro w b10 H
   refine s_st (m_storen H 0 32 Try.sizeOf44 rfl rfl (by first | exact (kC_length _) | exact (hC_length _) | exact (ceC_length _) | exact (ptC_length _ _ _ _) | exact (plV_length _ _ _) | exact litC_length) (by first | exact (kC_one _) | exact (hC_one _) | exact (ceC_one _) | exact (ptC_one _ _ _ _) | exact (plV_one _ _ _) | exact litC_one) rfl (by first | exact (by rw [kC_length]; omega) | exact (by rw [hC_length]; omega)) (by first | exact (kC_sp _ _) | exact (hC_sp _ _) | exact (kC_sp _ _) | exact (ceC_sp _ _))) (L' := (_ :: _ :: _ :: _)) rfl ?_
   intro w H
   refine s_val (r_assign rfl) ?_
   refine c_nil (l' := [_,_,_,_,_,_,_,_,_,_,_,_,_,_,_,_,_,_,_,_,_,_,_,_,_,_,_,_,_,_,_,_,_,_,_,_,_,_,_,_,_,_,_,_,_,_,_,_,_,_,_,_,_,_,_,_,_,_,_,_,_,_,_,_,_,_,_,_,_,_,_,_,_,_,_,_,_,_,_,_,_,_,_,_,_,_,_,_,_,_,_,_,_,_,_,_,_,_,_,_,_,_,_,_,_,_,_,_,_,_,_,_,_,_,_,_,_,_,_,_,_,_,_,_,_,_,_,_,_,_,_,_,_,_,_,_,_,_,_,_,_,_,_,_,_,_,_,_,_,_,_,_,_,_,_,_,_,_,_,_,_,_,_,_,_,_,_,_,_,_,_,_,_,_,_]) rfl ?_
   refine c_rseq (n := 175) ⟨rfl, rfl⟩ ?_
   refine s_val (r_buildS (zs := litC) (out := litC) Try.runUnderlying49 Try.zeroValue49 places49 pn rfl) ?_
   refine s_val (r_makeIface Try.runUnderlying49 (fun _ h => nomatch h) rfl) ?_
   refine s_val (r_move rfl) ?_
   refine s_val (r_move rfl) ?_
   refine s_val (r_move rfl) ?_
   refine s_call (r_call Try.call14 (ec rfl (ec rfl (ec rfl (ec rfl en))))) (read_spec g1 cl other (by omega) (fun y hy => by have := hs3 y hy; omega) hq.ref bt xs Nt hxl hv _ (hq.get H (H.at 1 rfl)) hT (H.ownsM (.cons _ (.cons _ (.cons _ (List.Sublist.refl _)))))) ?_
   rintro v w ⟨rfl, HC⟩
   replace H := H.quiet HC
   refine s_val (r_move rfl) ?_
   refine s_val (r_extract rfl rfl) ?_
   refine s_val (r_extract rfl rfl) ?_
   refine s_new (m_alloc (cs := (kC (By.zero 32))) H Try.zeroValue44 rfl) ?_
   intro w b12 H
   refine s_st (m_storen H 0 32 Try.sizeOf44 rfl rfl (by first | exact (kC_length _) | exact (hC_length _) | exact (ceC_length _) | exact (ptC_length _ _ _ _) | exact (plV_length _ _ _) | exact litC_length) (by first | exact (kC_one _) | exact (hC_one _) | exact (ceC_one _) | exact (ptC_one _ _ _ _) | exact (plV_one _ _ _) | exact litC_one) rfl (by first | exact (by rw [kC_length]; omega) | exact (by rw [hC_length]; omega)) (by first | exact (kC_sp _ _) | exact (hC_sp _ _) | exact (kC_sp _ _) | exact (ceC_sp _ _))) (L' := (_ :: _ :: _ :: _ :: _)) rfl ?_
   intro w H
   refine s_val (r_assign rfl) ?_
   refine c_nil (l' := [_,_,_,_,_,_,_,_,_,_,_,_,_,_,_,_,_,_,_,_,_,_,_,_,_,_,_,_,_,_,_,_,_,_,_,_,_,_,_,_,_,_,_,_,_,_,_,_,_,_,_,_,_,_,_,_,_,_,_,_,_,_,_,_,_,_,_,_,_,_,_,_,_,_,_,_,_,_,_,_,_,_,_,_,_,_,_,_,_,_,_,_,_,_,_,_,_,_,_,_,_,_,_,_,_,_,_,_,_,_,_,_,_,_,_,_,_,_,_,_,_,_,_,_,_,_,_,_,_,_,_,_,_,_,_,_,_,_,_,_,_,_,_,_,_,_,_,_,_,_,_,_,_,_,_,_,_,_,_,_,_,_,_,_,_,_,_,_,_,_,_,_,_,_,_]) rfl ?_
   refine c_rseq (n := 175) ⟨rfl, rfl⟩ ?_
   refine s_val (r_move rfl) ?_
   refine s_val (r_move rfl) ?_
   refine s_call (r_call Try.call16 (ec rfl en)) (leaf_spec _ _) ?_
   rintro v w ⟨rfl, HC⟩
   replace H := H.quiet HC
   refine s_call (r_call Try.call21 (ec rfl (ec rfl en))) (key_spec bt (.iface 49 (.agg litC.toArray)) xs Nt hxl hv (lf num) (lf_nn _) litL litR (splits_lit litC) _ hT (H.ownsM (.cons _ (.cons _ (.cons _ (.cons _ (List.Sublist.refl _))))))) ?_
   rintro v w ⟨k, ok, hkr, rfl, HC⟩
   replace H := H.quiet HC
   obtain ⟨rfl, rfl⟩ := keyH_of hv hkr
   refine s_val (r_move rfl) ?_
   refine s_val (r_extract rfl rfl) ?_
   refine s_val (r_extract rfl rfl) ?_
   refine s_new (m_alloc (cs := (kC (By.zero 32))) H Try.zeroValue24 rfl) ?_
   intro w b14 H
   refine s_st (m_storen H 0 32 Try.sizeOf24 rfl rfl (by first | exact (kC_length _) | exact (hC_length _) | exact (ceC_length _) | exact (ptC_length _ _ _ _) | exact (plV_length _ _ _) | exact litC_length) (by first | exact (kC_one _) | exact (hC_one _) | exact (ceC_one _) | exact (ptC_one _ _ _ _) | exact (plV_one _ _ _) | exact litC_one) rfl (by first | exact (by rw [kC_length]; omega) | exact (by rw [hC_length]; omega)) (by first | exact (kC_sp _ _) | exact (hC_sp _ _) | exact (kC_sp _ _) | exact (ceC_sp _ _))) (L' := (_ :: _ :: _ :: _ :: _ :: _)) rfl ?_
   intro w H
   refine s_val (r_assign rfl) ?_
   refine c_nil (l' := [_,_,_,_,_,_,_,_,_,_,_,_,_,_,_,_,_,_,_,_,_,_,_,_,_,_,_,_,_,_,_,_,_,_,_,_,_,_,_,_,_,_,_,_,_,_,_,_,_,_,_,_,_,_,_,_,_,_,_,_,_,_,_,_,_,_,_,_,_,_,_,_,_,_,_,_,_,_,_,_,_,_,_,_,_,_,_,_,_,_,_,_,_,_,_,_,_,_,_,_,_,_,_,_,_,_,_,_,_,_,_,_,_,_,_,_,_,_,_,_,_,_,_,_,_,_,_,_,_,_,_,_,_,_,_,_,_,_,_,_,_,_,_,_,_,_,_,_,_,_,_,_,_,_,_,_,_,_,_,_,_,_,_,_,_,_,_,_,_,_,_,_,_,_,_]) rfl ?_
   refine c_seq ?_
   refine c_rseq (n := 175) ⟨rfl, rfl⟩ ?_
   refine s_val (r_move rfl) ?_
   refine s_test (r_neq rfl rfl) (fun h69 => ?_) (fun h69 => ?_)
   ·skip
    refine s_val (r_move rfl) ?_
    refine g_no rfl rfl (by decide) ?_
    refine g_no rfl rfl (by decide) ?_
    refine s_val (r_pickt rfl rfl) ?_
    refine c_nil (l' := [_,_,_,_,_,_,_,_,_,_,_,_,_,_,_,_,_,_,_,_,_,_,_,_,_,_,_,_,_,_,_,_,_,_,_,_,_,_,_,_,_,_,_,_,_,_,_,_,_,_,_,_,_,_,_,_,_,_,_,_,_,_,_,_,_,_,_,_,_,_,_,_,_,_,_,_,_,_,_,_,_,_,_,_,_,_,_,_,_,_,_,_,_,_,_,_,_,_,_,_,_,_,_,_,_,_,_,_,_,_,_,_,_,_,_,_,_,_,_,_,_,_,_,_,_,_,_,_,_,_,_,_,_,_,_,_,_,_,_,_,_,_,_,_,_,_,_,_,_,_,_,_,_,_,_,_,_,_,_,_,_,_,_,_,_,_,_,_,_,_,_,_,_,_,_]) rfl ?_
    refine c_ift rfl ?_
    refine c_rseq (n := 175) ⟨rfl, rfl⟩ ?_
    refine s_val (r_assign rfl) ?_
    refine c_nil (l' := [_,_,_,_,_,_,_,_,_,_,_,_,_,_,_,_,_,_,_,_,_,_,_,_,_,_,_,_,_,_,_,_,_,_,_,_,_,_,_,_,_,_,_,_,_,_,_,_,_,_,_,_,_,_,_,_,_,_,_,_,_,_,_,_,_,_,_,_,_,_,_,_,_,_,_,_,_,_,_,_,_,_,_,_,_,_,_,_,_,_,_,_,_,_,_,_,_,_,_,_,_,_,_,_,_,_,_,_,_,_,_,_,_,_,_,_,_,_,_,_,_,_,_,_,_,_,_,_,_,_,_,_,_,_,_,_,_,_,_,_,_,_,_,_,_,_,_,_,_,_,_,_,_,_,_,_,_,_,_,_,_,_,_,_,_,_,_,_,_,_,_,_,_,_,_]) rfl ?_
    refine wp_ret (x_thenRet ?_)
    refine e_ret (res1 rfl rfl) ⟨_, rfl, ?_⟩
    exact ⟨rfl, (H.sub (List.nil_sublist _))⟩
   ·skip
    have hz : (readF (findP (cl.map ceP)) (hasH xs) (keyH xs) num).2 = 0 := Decidable.not_not.1 h69
    refine s_val (r_move rfl) ?_
    refine g_yes rfl rfl ?_
    refine s_val (r_move rfl) ?_
    refine g_yes rfl rfl ?_
    refine s_testb (r_not rfl) (fun h72 => ?_) (fun h72 => ?_)
    ·skip
     refine s_val (r_pickf rfl rfl) ?_
     refine c_nil (l' := [_,_,_,_,_,_,_,_,_,_,_,_,_,_,_,_,_,_,_,_,_,_,_,_,_,_,_,_,_,_,_,_,_,_,_,_,_,_,_,_,_,_,_,_,_,_,_,_,_,_,_,_,_,_,_,_,_,_,_,_,_,_,_,_,_,_,_,_,_,_,_,_,_,_,_,_,_,_,_,_,_,_,_,_,_,_,_,_,_,_,_,_,_,_,_,_,_,_,_,_,_,_,_,_,_,_,_,_,_,_,_,_,_,_,_,_,_,_,_,_,_,_,_,_,_,_,_,_,_,_,_,_,_,_,_,_,_,_,_,_,_,_,_,_,_,_,_,_,_,_,_,_,_,_,_,_,_,_,_,_,_,_,_,_,_,_,_,_,_,_,_,_,_,_,_]) rfl ?_
     refine c_ift rfl ?_
     refine c_rseq (n := 175) ⟨rfl, rfl⟩ ?_
     refine s_val (r_assign rfl) ?_
     refine c_nil (l' := [_,_,_,_,_,_,_,_,_,_,_,_,_,_,_,_,_,_,_,_,_,_,_,_,_,_,_,_,_,_,_,_,_,_,_,_,_,_,_,_,_,_,_,_,_,_,_,_,_,_,_,_,_,_,_,_,_,_,_,_,_,_,_,_,_,_,_,_,_,_,_,_,_,_,_,_,_,_,_,_,_,_,_,_,_,_,_,_,_,_,_,_,_,_,_,_,_,_,_,_,_,_,_,_,_,_,_,_,_,_,_,_,_,_,_,_,_,_,_,_,_,_,_,_,_,_,_,_,_,_,_,_,_,_,_,_,_,_,_,_,_,_,_,_,_,_,_,_,_,_,_,_,_,_,_,_,_,_,_,_,_,_,_,_,_,_,_,_,_,_,_,_,_,_,_]) rfl ?_
     refine wp_ret (x_thenRet ?_)
     refine e_ret (res1 rfl rfl) ⟨_, rfl, ?_⟩
     exact ⟨rfl, (H.sub (List.nil_sublist _))⟩
    ·skip
     have hok : hasH xs (lf num) = true := by simpa using h72
     refine s_val (r_pickf rfl rfl) ?_
     refine c_nil (l' := [_,_,_,_,_,_,_,_,_,_,_,_,_,_,_,_,_,_,_,_,_,_,_,_,_,_,_,_,_,_,_,_,_,_,_,_,_,_,_,_,_,_,_,_,_,_,_,_,_,_,_,_,_,_,_,_,_,_,_,_,_,_,_,_,_,_,_,_,_,_,_,_,_,_,_,_,_,_,_,_,_,_,_,_,_,_,_,_,_,_,_,_,_,_,_,_,_,_,_,_,_,_,_,_,_,_,_,_,_,_,_,_,_,_,_,_,_,_,_,_,_,_,_,_,_,_,_,_,_,_,_,_,_,_,_,_,_,_,_,_,_,_,_,_,_,_,_,_,_,_,_,_,_,_,_,_,_,_,_,_,_,_,_,_,_,_,_,_,_,_,_,_,_,_,_]) rfl ?_
     refine c_iff rfl ?_
     refine wp_skip ?_
     refine x_thenNormal ?_
     refine c_rseq (n := 175) ⟨rfl, rfl⟩ ?_
     refine s_val (r_move rfl) ?_
     refine s_val (r_move rfl) ?_
     refine s_call (r_callv Try.call27 rfl (ec rfl en) rfl) (getf_spec g1 cl num (by omega) (fun y hy => by have := hs3 y hy; omega) _ (hq.get H (H.at 3 rfl))) ?_
     rintro v w (⟨y, No, hfd, rfl, hNo, HC⟩ | ⟨hfd, rfl, HC⟩)
     ·skip
      replace H : St w0 [] w (_ :: _ :: _ :: _ :: _ :: Nt) := (H.call0 HC).sub (List.sublist_append_right No _)
      obtain ⟨c1, hc1, hmo, hrt, _⟩ := (way_ok 4 5 0 num rfl (by decide) (read_way hz)).1 num (.inl rfl)
      rw [hfd] at hc1
      injection hc1 with hc1
      subst hc1
      obtain ⟨r1, r2, _⟩ := right_leaf hfd hrt
      refine s_val (r_move rfl) ?_
      refine s_val (r_extract rfl rfl) ?_
      refine s_val (r_extract rfl rfl) ?_
      refine s_new (m_alloc (cs := (ceC ce0)) H Try.zeroValue43 rfl) ?_
      intro w b16 H
      refine s_st (m_storen H 0 11 Try.sizeOf43 rfl rfl (by first | exact (kC_length _) | exact (hC_length _) | exact (ceC_length _) | exact (ptC_length _ _ _ _) | exact (plV_length _ _ _) | exact litC_length) (by first | exact (kC_one _) | exact (hC_one _) | exact (ceC_one _) | exact (ptC_one _ _ _ _) | exact (plV_one _ _ _) | exact litC_one) rfl (by show 0 + 11 ≤ 11; omega) (ceC_sp _ _)) (L' := (_ :: _ :: _ :: _ :: _ :: _ :: _)) rfl ?_
      intro w H
      refine s_val (r_assign rfl) ?_
      refine c_nil (l' := [_,_,_,_,_,_,_,_,_,_,_,_,_,_,_,_,_,_,_,_,_,_,_,_,_,_,_,_,_,_,_,_,_,_,_,_,_,_,_,_,_,_,_,_,_,_,_,_,_,_,_,_,_,_,_,_,_,_,_,_,_,_,_,_,_,_,_,_,_,_,_,_,_,_,_,_,_,_,_,_,_,_,_,_,_,_,_,_,_,_,_,_,_,_,_,_,_,_,_,_,_,_,_,_,_,_,_,_,_,_,_,_,_,_,_,_,_,_,_,_,_,_,_,_,_,_,_,_,_,_,_,_,_,_,_,_,_,_,_,_,_,_,_,_,_,_,_,_,_,_,_,_,_,_,_,_,_,_,_,_,_,_,_,_,_,_,_,_,_,_,_,_,_,_,_]) rfl ?_
      refine c_rseq (n := 175) ⟨rfl, rfl⟩ ?_
      refine s_val (r_move rfl) ?_
      refine s_val (r_move rfl) ?_
      refine s_call (r_call Try.call12 (ec rfl (ec rfl en))) (needs_spec g1 cl num (by omega) (fun y hy => by have := hs3 y hy; omega) _ (hq.get H (H.at 4 rfl))) ?_
      rintro v w ⟨a82, c82, N82, rfl, hN82, HC⟩
      replace H : St w0 [] w (_ :: _ :: _ :: _ :: _ :: _ :: (N82 ++ Nt)) := (H.call0 HC).perm (List.perm_append_comm_assoc [_,_,_,_,_,_] N82 Nt)
      obtain ⟨ms, hms⟩ : ∃ z, z = (needF (findP (cl.map ceP)) 4 num) := ⟨_, rfl⟩
      have hml : ms.length ≤ 4 := by rw [hms]; exact need_len _ _
      rw [← hms] at hN82 ⊢
      refine s_val (r_assign rfl) ?_
      refine c_nil (l' := [_,_,_,_,_,_,_,_,_,_,_,_,_,_,_,_,_,_,_,_,_,_,_,_,_,_,_,_,_,_,_,_,_,_,_,_,_,_,_,_,_,_,_,_,_,_,_,_,_,_,_,_,_,_,_,_,_,_,_,_,_,_,_,_,_,_,_,_,_,_,_,_,_,_,_,_,_,_,_,_,_,_,_,_,_,_,_,_,_,_,_,_,_,_,_,_,_,_,_,_,_,_,_,_,_,_,_,_,_,_,_,_,_,_,_,_,_,_,_,_,_,_,_,_,_,_,_,_,_,_,_,_,_,_,_,_,_,_,_,_,_,_,_,_,_,_,_,_,_,_,_,_,_,_,_,_,_,_,_,_,_,_,_,_,_,_,_,_,_,_,_,_,_,_,_]) rfl ?_
      refine c_rseq (n := 175) ⟨rfl, rfl⟩ ?_
      refine s_val (r_move rfl) ?_
      refine s_val (r_fieldAddr (k := 2) Try.runUnderlying43 rfl Try.sizeOf3 (by decide) rfl rfl) ?_
      refine s_val (r_load1 Try.isAgg3 rfl (H.at 0 rfl) (rfl : _ = some (Value.int .i64 y.min))) ?_
      refine s_val (r_fieldAddr (k := 3) Try.runUnderlying43 rfl Try.sizeOf40 (by decide) rfl rfl) ?_
      refine s_val (r_loadn Try.isAgg40 Try.sizeOf40 rfl (H.at 0 rfl) (ceC_place y) (plV_length _ _ _)) ?_
      refine s_val (r_buildS Try.runUnderlying43 Try.zeroValue43 places43 (pc rfl (pc rfl (pc rfl (pc rfl (pc rfl pn))))) (rfl : fillL _ _ _ = some (ceC (anewC num y bdZ)))) ?_
      refine s_new (m_alloc (cs := (ceC ce0)) H Try.zeroValue43 rfl) ?_
      intro w b19 H
      refine s_st (m_storen H 0 11 Try.sizeOf43 rfl rfl (by first | exact (kC_length _) | exact (hC_length _) | exact (ceC_length _) | exact (ptC_length _ _ _ _) | exact (plV_length _ _ _) | exact litC_length) (by first | exact (kC_one _) | exact (hC_one _) | exact (ceC_one _) | exact (ptC_one _ _ _ _) | exact (plV_one _ _ _) | exact litC_one) rfl (by show 0 + 11 ≤ 11; omega) (ceC_sp _ _)) (L' := (_ :: _ :: _ :: _ :: _ :: _ :: _ :: _)) rfl ?_
      intro w H
      refine c_nil (l' := [_,_,_,_,_,_,_,_,_,_,_,_,_,_,_,_,_,_,_,_,_,_,_,_,_,_,_,_,_,_,_,_,_,_,_,_,_,_,_,_,_,_,_,_,_,_,_,_,_,_,_,_,_,_,_,_,_,_,_,_,_,_,_,_,_,_,_,_,_,_,_,_,_,_,_,_,_,_,_,_,_,_,_,_,_,_,_,_,_,_,_,_,_,_,_,_,_,_,_,_,_,_,_,_,_,_,_,_,_,_,_,_,_,_,_,_,_,_,_,_,_,_,_,_,_,_,_,_,_,_,_,_,_,_,_,_,_,_,_,_,_,_,_,_,_,_,_,_,_,_,_,_,_,_,_,_,_,_,_,_,_,_,_,_,_,_,_,_,_,_,_,_,_,_,_]) rfl ?_
      refine c_seq ?_
      refine d_beginS (fun W => W.heap[b14]? = some (Obj.cells (kC (keyH xs (lf num))).toArray 24 (0, 0)) ∧ St w0 [] W []) (sz := 175) ⟨rfl, rfl⟩ (by kernel_rfl) H (⟨H.own (b14, Obj.cells (kC (keyH xs (lf num))).toArray 24 (0, 0)) (by first | exact (List.mem_cons_of_mem _ (List.mem_cons_of_mem _ List.mem_cons_self)) | exact (List.mem_cons_of_mem _ (List.mem_cons_of_mem _ (List.mem_cons_of_mem _ List.mem_cons_self))) | exact List.mem_append_right _ (List.mem_cons_of_mem _ (List.mem_cons_of_mem _ List.mem_cons_self))), H.sub (List.nil_sublist _)⟩) rfl ?_
      intro w H
      refine d_take (i := 0) rfl (by kernel_rfl) (fun _ _ _ h => h) (⟨H.own (b14, Obj.cells (kC (keyH xs (lf num))).toArray 24 (0, 0)) (by first | exact (List.mem_cons_of_mem _ (List.mem_cons_of_mem _ List.mem_cons_self)) | exact (List.mem_cons_of_mem _ (List.mem_cons_of_mem _ (List.mem_cons_of_mem _ List.mem_cons_self))) | exact List.mem_append_right _ (List.mem_cons_of_mem _ (List.mem_cons_of_mem _ List.mem_cons_self))), H.sub (List.nil_sublist _)⟩) (fun _ HS => by obtain ⟨HSk, HS⟩ := HS; exact r_loadn Try.isAgg24 Try.sizeOf24 rfl (id HSk) (by first | exact (kC_td _) | exact (hC_td _) | exact (hC_seed _) | exact (ceC_td _) | exact (ceC_place _) | exact (ptC_td _ _ _ _) | exact (plV_td _ _ _)) (by first | exact (kC_length _) | exact (hC_length _) | exact (ceC_length _) | exact (ptC_length _ _ _ _) | exact (plV_length _ _ _) | exact litC_length | exact rfl)) rfl ?_
      refine d_take (i := 4) rfl (by kernel_rfl) (fun _ _ _ h => h) (⟨H.own (b14, Obj.cells (kC (keyH xs (lf num))).toArray 24 (0, 0)) (by first | exact (List.mem_cons_of_mem _ (List.mem_cons_of_mem _ List.mem_cons_self)) | exact (List.mem_cons_of_mem _ (List.mem_cons_of_mem _ (List.mem_cons_of_mem _ List.mem_cons_self))) | exact List.mem_append_right _ (List.mem_cons_of_mem _ (List.mem_cons_of_mem _ List.mem_cons_self))), H.sub (List.nil_sublist _)⟩) (fun _ _ => r_sliceA Try.runUnderlying44 Try.sizeOf5 rfl) rfl ?_
      refine d_all1 (i := 1) (by kernel_rfl) ?_
      refine b_val rfl go_none (r_loadn Try.isAgg43 Try.sizeOf43 rfl (H.at 0 rfl) (ceC_td _) (by first | exact (kC_length _) | exact (hC_length _) | exact (ceC_length _) | exact (ptC_length _ _ _ _) | exact (plV_length _ _ _) | exact litC_length | exact rfl)) rfl (⟨H.own (b14, Obj.cells (kC (keyH xs (lf num))).toArray 24 (0, 0)) (by first | exact (List.mem_cons_of_mem _ (List.mem_cons_of_mem _ List.mem_cons_self)) | exact (List.mem_cons_of_mem _ (List.mem_cons_of_mem _ (List.mem_cons_of_mem _ List.mem_cons_self))) | exact List.mem_append_right _ (List.mem_cons_of_mem _ (List.mem_cons_of_mem _ List.mem_cons_self))), H.sub (List.nil_sublist _)⟩) ?_
      refine d_all1 (i := 2) (by kernel_rfl) ?_
      refine b_call rfl go_none (r_call Try.call24 (ec rfl en)) (nonce_spec (anewC num y bdZ) (by show (0 : Int) ≤ 1; decide) (by show (1 : Int) ≤ 65535; decide) (by show 0 ≤ num; omega) (by show num ≤ 65535; omega) _) rfl ?_
      rintro v w ⟨rfl, HC⟩
      replace H := H.quiet HC
      rw [show (anewC num y bdZ).num + (anewC num y bdZ).ref * 4294967296 = num + 4294967296 from by show num + 1 * 4294967296 = _; omega]
      refine ⟨(⟨H.own (b14, Obj.cells (kC (keyH xs (lf num))).toArray 24 (0, 0)) (by first | exact (List.mem_cons_of_mem _ (List.mem_cons_of_mem _ List.mem_cons_self)) | exact (List.mem_cons_of_mem _ (List.mem_cons_of_mem _ (List.mem_cons_of_mem _ List.mem_cons_self))) | exact List.mem_append_right _ (List.mem_cons_of_mem _ (List.mem_cons_of_mem _ List.mem_cons_self))), H.sub (List.nil_sublist _)⟩), ?_⟩
      refine d_all1 (i := 3) (by kernel_rfl) ?_
      refine b_call rfl go_none (r_call Try.call23 (ec rfl (ec rfl en))) (pad_spec (keyH xs (lf num)) (num + 4294967296) (by omega) (by omega) _) rfl ?_
      rintro v w ⟨rfl, HC⟩
      replace H := H.quiet HC
      refine ⟨(⟨H.own (b14, Obj.cells (kC (keyH xs (lf num))).toArray 24 (0, 0)) (by first | exact (List.mem_cons_of_mem _ (List.mem_cons_of_mem _ List.mem_cons_self)) | exact (List.mem_cons_of_mem _ (List.mem_cons_of_mem _ (List.mem_cons_of_mem _ List.mem_cons_self))) | exact List.mem_append_right _ (List.mem_cons_of_mem _ (List.mem_cons_of_mem _ List.mem_cons_self))), H.sub (List.nil_sublist _)⟩), ?_⟩
      refine d_all1 (i := 5) (by kernel_rfl) ?_
      refine b_call rfl go_none (r_call Try.call22 (ec rfl (ec rfl en))) (rhide_l (padB (keyH xs (lf num)) (num + 4294967296)) _ _ _ (readF (findP (cl.map ceP)) (hasH xs) (keyH xs) num).1.1 (readF (findP (cl.map ceP)) (hasH xs) (keyH xs) num).1.2.symm (by rw [(readF (findP (cl.map ceP)) (hasH xs) (keyH xs) num).1.2]; decide) _ (fun _ => ⟨b10, 0, [], [], _,_, rfl, (by rw [List.nil_append, List.append_nil]; exact H.at 4 rfl), rfl⟩)) rfl ?_
      rintro v w ⟨a94, c94, N94, rfl, hN94, HC⟩
      replace H := H.call0 HC
      have hxl2 : (xorB (padB (keyH xs (lf num)) (num + 4294967296)).1 (readF (findP (cl.map ceP)) (hasH xs) (keyH xs) num).1.1).length = (readF (findP (cl.map ceP)) (hasH xs) (keyH xs) num).1.1.length := xorB_length (by rw [(padB _ _).2, (readF (findP (cl.map ceP)) (hasH xs) (keyH xs) num).1.2]; decide)
      rw [← hxl2] at hN94 ⊢
      obtain ⟨bh, sph, rfl, hc94, rfl, hc95⟩ := RowN.some hN94 (by rw [hxl2, (readF (findP (cl.map ceP)) (hasH xs) (keyH xs) num).1.2]; decide)
      replace H : St w0 [] w (_ :: _ :: _ :: _ :: _ :: _ :: _ :: _ :: _) := H
      obtain ⟨bd, hbd⟩ : ∃ z : Bd, z = ⟨some ⟨bh, 0, none⟩, (xorB (padB (keyH xs (lf num)) (num + 4294967296)).1 (readF (findP (cl.map ceP)) (hasH xs) (keyH xs) num).1.1), c94⟩ := ⟨_, rfl⟩
      have hbb : bd.b = (xorB (padB (keyH xs (lf num)) (num + 4294967296)).1 (readF (findP (cl.map ceP)) (hasH xs) (keyH xs) num).1.1) := by rw [hbd]
      have hb32 : bd.b.length = 32 := by rw [hbb, hxl2, (readF (findP (cl.map ceP)) (hasH xs) (keyH xs) num).1.2]
      refine ⟨(⟨H.own (b14, Obj.cells (kC (keyH xs (lf num))).toArray 24 (0, 0)) (by first | exact (List.mem_cons_of_mem _ (List.mem_cons_of_mem _ List.mem_cons_self)) | exact (List.mem_cons_of_mem _ (List.mem_cons_of_mem _ (List.mem_cons_of_mem _ List.mem_cons_self))) | exact List.mem_append_right _ (List.mem_cons_of_mem _ (List.mem_cons_of_mem _ List.mem_cons_self))), H.sub (List.nil_sublist _)⟩), ?_⟩
      rw [show Value.slice (some ⟨bh, 0, none⟩) (xorB (padB (keyH xs (lf num)) (num + 4294967296)).1 (readF (findP (cl.map ceP)) (hasH xs) (keyH xs) num).1.1).length c94 = bdV bd by rw [hbd]; rfl]
      refine d_take (i := 6) rfl (by kernel_rfl) (fun _ _ _ h => h) (⟨H.own (b14, Obj.cells (kC (keyH xs (lf num))).toArray 24 (0, 0)) (by first | exact (List.mem_cons_of_mem _ (List.mem_cons_of_mem _ List.mem_cons_self)) | exact (List.mem_cons_of_mem _ (List.mem_cons_of_mem _ (List.mem_cons_of_mem _ List.mem_cons_self))) | exact List.mem_append_right _ (List.mem_cons_of_mem _ (List.mem_cons_of_mem _ List.mem_cons_self))), H.sub (List.nil_sublist _)⟩) (fun _ _ => r_fieldAddr (k := 10) Try.runUnderlying43 rfl Try.sizeOf41 (by decide) rfl rfl) rfl ?_
      refine d_all1 (i := 7) (by kernel_rfl) ?_
      refine b_st rfl go_none (m_store1 H 1 Try.sizeOf41 rfl rfl rfl rfl (by show 10 < 11; omega) (rfl : _ = ceC (anewC num y bd))) (L' := (_ :: _ :: _ :: _ :: _ :: _ :: _ :: _ :: _)) rfl rfl (fun _ H => (⟨H.own (b14, Obj.cells (kC (keyH xs (lf num))).toArray 24 (0, 0)) (by first | exact (List.mem_cons_of_mem _ (List.mem_cons_of_mem _ List.mem_cons_self)) | exact (List.mem_cons_of_mem _ (List.mem_cons_of_mem _ (List.mem_cons_of_mem _ List.mem_cons_self))) | exact List.mem_append_right _ (List.mem_cons_of_mem _ (List.mem_cons_of_mem _ List.mem_cons_self))), H.sub (List.nil_sublist _)⟩)) ?_
      intro w H
      refine d_done (l' := [_,_,_,_,_,_,_,_,_,_,_,_,_,_,_,_,_,_,_,_,_,_,_,_,_,_,_,_,_,_,_,_,_,_,_,_,_,_,_,_,_,_,_,_,_,_,_,_,_,_,_,_,_,_,_,_,_,_,_,_,_,_,_,_,_,_,_,_,_,_,_,_,_,_,_,_,_,_,_,_,_,_,_,_,_,_,_,_,_,_,_,_,_,_,_,_,_,_,_,_,_,_,_,_,_,_,_,_,_,_,_,_,_,_,_,_,_,_,_,_,_,_,_,_,_,_,_,_,_,_,_,_,_,_,_,_,_,_,_,_,_,_,_,_,_,_,_,_,_,_,_,_,_,_,_,_,_,_,_,_,_,_,_,_,_,_,_,_,_,_,_,_,_,_,_]) (by kernel_rfl) rfl ?_
      refine x_thenNormal ?_
      refine c_rseq (n := 175) ⟨rfl, rfl⟩ ?_
      refine s_val (r_loadn Try.isAgg43 Try.sizeOf43 rfl (H.at 1 rfl) (ceC_td _) (by first | exact (kC_length _) | exact (hC_length _) | exact (ceC_length _) | exact (ptC_length _ _ _ _) | exact (plV_length _ _ _) | exact litC_length | exact rfl)) ?_
      refine s_new (m_bslice1 (vs := ceC (anewC num y bd)) H Try.runUnderlying22 Try.sizeOf43 Try.zeroValue43 (by omega) (by omega) rfl rfl rfl) ?_
      intro w b97 H
      refine s_val (r_fieldAddr (k := 0) Try.runUnderlying27 rfl Try.sizeOf22 (by decide) rfl rfl) ?_
      refine s_val (r_load1 Try.isAgg22 rfl (H.at 8 rfl) (caC_cl _ _ _ _ _ _ _)) ?_
      have hR97 : RowN 11 43 (ceC (anewC num y bd)) 1 (some ⟨b97, 0, none⟩) 1 [(b97, Obj.cells (ceC (anewC num y bd) ++ []).toArray 43 (0, 0))] := RowN.mk (sp := []) rfl (Nat.le_refl _) (Nat.le_refl _)
      replace H := St.mvEnd (A := []) H
      refine s_any (m_append_row0 (L1 := [_,_,_,_,_,_,_,_] ++ (N82 ++ Nt)) (N := [_]) H hR97 Try.runUnderlying22 Try.runUnderlying22 (fun _ h => nomatch h) Try.sizeOf43 Try.zeroValue43 rfl Try.typeInfo43 (by rw [bytes43]; omega) (by rw [bytes43]; omega) (ec rfl (ec rfl en)) (RRow.src elCe (hq.row.st (H.sub (List.nil_sublist _))) _)) ?_
      rintro v w ⟨a5, c5, N5, rfl, hN5, H⟩
      have hncl : (anewC num y bd :: cl).length = cl.length + 1 := rfl
      have hN6 : RowN 11 43 (rowC ceC (anewC num y bd :: cl)) (anewC num y bd :: cl).length a5 c5 N5 := by rw [hncl, Nat.add_comm]; exact hN5
      rw [show (1 + cl.length : Nat) = (anewC num y bd :: cl).length from by rw [hncl, Nat.add_comm]]
      replace H : St w0 [] w (([_,_,_] ++ (N82 ++ Nt)) ++ N5) := H.sub (List.Sublist.append_right (.cons_cons _ (.cons _ (.cons _ (.cons _ (.cons_cons _ (.cons_cons _ (.cons _ (.cons _ (List.Sublist.refl _))))))))) _)
      replace H : St w0 [] w (_ :: _ :: _ :: (N5 ++ (N82 ++ Nt))) := St.unrot3 (A := [_,_,_]) (R := N82 ++ Nt) H
      refine s_call (r_call Try.call13 (ec rfl en)) (get_mk _ _ _ _) ?_
      rintro v w ⟨g20, rfl, HC⟩
      replace H : St w0 [] w (_ :: _ :: _ :: _ :: _) := H.call0 HC
      refine s_val (r_assign rfl) ?_
      refine c_nil (l' := [_,_,_,_,_,_,_,_,_,_,_,_,_,_,_,_,_,_,_,_,_,_,_,_,_,_,_,_,_,_,_,_,_,_,_,_,_,_,_,_,_,_,_,_,_,_,_,_,_,_,_,_,_,_,_,_,_,_,_,_,_,_,_,_,_,_,_,_,_,_,_,_,_,_,_,_,_,_,_,_,_,_,_,_,_,_,_,_,_,_,_,_,_,_,_,_,_,_,_,_,_,_,_,_,_,_,_,_,_,_,_,_,_,_,_,_,_,_,_,_,_,_,_,_,_,_,_,_,_,_,_,_,_,_,_,_,_,_,_,_,_,_,_,_,_,_,_,_,_,_,_,_,_,_,_,_,_,_,_,_,_,_,_,_,_,_,_,_,_,_,_,_,_,_,_]) rfl ?_
      refine c_seq ?_
      refine c_rseq (n := 175) ⟨rfl, rfl⟩ ?_
      refine s_val (r_move rfl) ?_
      refine s_val (r_lens Try.runUnderlying25 (ec rfl en)) ?_
      refine s_val (r_move rfl) ?_
      refine c_nil (l' := [_,_,_,_,_,_,_,_,_,_,_,_,_,_,_,_,_,_,_,_,_,_,_,_,_,_,_,_,_,_,_,_,_,_,_,_,_,_,_,_,_,_,_,_,_,_,_,_,_,_,_,_,_,_,_,_,_,_,_,_,_,_,_,_,_,_,_,_,_,_,_,_,_,_,_,_,_,_,_,_,_,_,_,_,_,_,_,_,_,_,_,_,_,_,_,_,_,_,_,_,_,_,_,_,_,_,_,_,_,_,_,_,_,_,_,_,_,_,_,_,_,_,_,_,_,_,_,_,_,_,_,_,_,_,_,_,_,_,_,_,_,_,_,_,_,_,_,_,_,_,_,_,_,_,_,_,_,_,_,_,_,_,_,_,_,_,_,_,_,_,_,_,_,_,_]) rfl ?_
      refine wp_block ?_
      refine c_loop (fun (l0 : List Value) (i : Nat) (l : List Value) (w : World) => ∃ (u22 u23 u25 u105 u106 u107 u108 u109 u110 u111 u112 u113 u114 u115 u116 u117 u118 u119 u120 u121 u122 u123 u124 u125 u126 u127 u128 u129 u130 u131 : Value) (NT : List (Nat × Obj)) (la2 : List Int) (ys : List Held), l = ovr l0 [N_, N_, N_, N_, N_, N_, N_, N_, N_, N_, N_, N_, N_, N_, N_, N_, N_, N_, N_, N_, N_, N_, Y_ u22, Y_ u23, N_, Y_ u25, N_, N_, N_, N_, N_, N_, N_, N_, N_, N_, N_, N_, N_, N_, N_, N_, N_, N_, N_, N_, N_, N_, N_, N_, N_, N_, N_, N_, N_, N_, N_, N_, N_, N_, N_, N_, N_, N_, N_, N_, N_, N_, N_, N_, N_, N_, N_, N_, N_, N_, N_, N_, N_, N_, N_, N_, N_, N_, N_, N_, N_, N_, N_, N_, N_, N_, N_, N_, N_, N_, N_, N_, N_, N_, N_, N_, N_, N_, Y_ (.int .i64 i), Y_ u105, Y_ u106, Y_ u107, Y_ u108, Y_ u109, Y_ u110, Y_ u111, Y_ u112, Y_ u113, Y_ u114, Y_ u115, Y_ u116, Y_ u117, Y_ u118, Y_ u119, Y_ u120, Y_ u121, Y_ u122, Y_ u123, Y_ u124, Y_ u125, Y_ u126, Y_ u127, Y_ u128, Y_ u129, Y_ u130, Y_ u131] ∧ i ≤ ms.length ∧ GoneI (findP ((anewC num y bd :: cl).map ceP)) other (ms.take i) ns.reverse la2 ∧ la2.length ≤ 12 + i ∧ ys = tree0 litL litR seed la2 ∧ TreeN 90 88 bt (.iface 49 (.agg litC.toArray)) ys NT ∧ St w0 [] w ((g20, .cells [.slice a5 (anewC num y bd :: cl).length c5].toArray 22 (0, 0)) :: (bh, .cells (bC (xorB (padB (keyH xs (lf num)) (num + 4294967296)).1 (readF (findP (cl.map ceP)) (hasH xs) (keyH xs) num).1.1) ++ sph).toArray 5 (0, 0)) :: (b12, .cells (kC (readF (findP (cl.map ceP)) (hasH xs) (keyH xs) other).1).toArray 44 (0, 0)) :: (b10, .cells (kC (readF (findP (cl.map ceP)) (hasH xs) (keyH xs) num).1).toArray 44 (0, 0)) :: N5 ++ (N82 ++ NT))) (fun (i : Nat) => ms.length - i) 0 ⟨_,_,_,_,_,_,_,_,_,_,_,_,_,_,_,_,_,_,_,_,_,_,_,_,_,_,_,_,_,_, Nt, ns.reverse, xs, rfl, Nat.zero_le _, GoneI.start _, (by rw [List.length_reverse]; omega), hxs, hT, H⟩ ?_
      intro i l w ⟨u22, u23, u25, u105, u106, u107, u108, u109, u110, u111, u112, u113, u114, u115, u116, u117, u118, u119, u120, u121, u122, u123, u124, u125, u126, u127, u128, u129, u130, u131, NT, la2, ys, hl, hi, hI, hll, hys, hT, H⟩
      obtain rfl := hl.trans (rfl : _ = [_,_,_,_,_,_,_,_,_,_,_,_,_,_,_,_,_,_,_,_,_,_,_,_,_,_,_,_,_,_,_,_,_,_,_,_,_,_,_,_,_,_,_,_,_,_,_,_,_,_,_,_,_,_,_,_,_,_,_,_,_,_,_,_,_,_,_,_,_,_,_,_,_,_,_,_,_,_,_,_,_,_,_,_,_,_,_,_,_,_,_,_,_,_,_,_,_,_,_,_,_,_,_,_,_,_,_,_,_,_,_,_,_,_,_,_,_,_,_,_,_,_,_,_,_,_,_,_,_,_,_,_,_,_,_,_,_,_,_,_,_,_,_,_,_,_,_,_,_,_,_,_,_,_,_,_,_,_,_,_,_,_,_,_,_,_,_,_,_,_,_,_,_,_,_])
      clear hl
      have hvy : Valid ys := by rw [hys]; exact tree0_valid _
      have hyl : ys.length ≤ 100000 := by have h := tree0_lenN (sl := litL) (sr := litR) (seed := seed) la2; rw [← hys] at h; omega
      refine c_rseq (n := 175) ⟨rfl, rfl⟩ ?_
      refine s_val (r_lss rfl rfl) ?_
      refine c_nil (l' := [_,_,_,_,_,_,_,_,_,_,_,_,_,_,_,_,_,_,_,_,_,_,_,_,_,_,_,_,_,_,_,_,_,_,_,_,_,_,_,_,_,_,_,_,_,_,_,_,_,_,_,_,_,_,_,_,_,_,_,_,_,_,_,_,_,_,_,_,_,_,_,_,_,_,_,_,_,_,_,_,_,_,_,_,_,_,_,_,_,_,_,_,_,_,_,_,_,_,_,_,_,_,_,_,_,_,_,_,_,_,_,_,_,_,_,_,_,_,_,_,_,_,_,_,_,_,_,_,_,_,_,_,_,_,_,_,_,_,_,_,_,_,_,_,_,_,_,_,_,_,_,_,_,_,_,_,_,_,_,_,_,_,_,_,_,_,_,_,_,_,_,_,_,_,_]) rfl ?_
      refine c_seq ?_
      refine c_if rfl (fun h105 => ?_) (fun h105 => ?_)
      ·skip
       obtain ⟨bu, off, pre, post, T, fz, rfl, hbu, hpu⟩ := (hN82.urowM H (fun p hp => (List.mem_cons_of_mem _ (List.mem_cons_of_mem _ (List.mem_cons_of_mem _ (List.mem_cons_of_mem _ (List.mem_append_right _ (List.mem_append_left _ hp)))))))) (by omega)
       refine wp_skip ?_
       refine x_thenNormal ?_
       refine c_seq ?_
       refine wp_block ?_
       refine c_rseq (n := 175) ⟨rfl, rfl⟩ ?_
       refine s_val (r_indexAddrS Try.runUnderlying25 Try.sizeOf28 rfl rfl (by omega) (by omega)) ?_
       refine s_val (r_load1 Try.isAgg28 rfl hbu (u_get pre _ post i hpu (by omega) (by omega))) ?_
       refine s_val (r_assign rfl) ?_
       refine c_nil (l' := [_,_,_,_,_,_,_,_,_,_,_,_,_,_,_,_,_,_,_,_,_,_,_,_,_,_,_,_,_,_,_,_,_,_,_,_,_,_,_,_,_,_,_,_,_,_,_,_,_,_,_,_,_,_,_,_,_,_,_,_,_,_,_,_,_,_,_,_,_,_,_,_,_,_,_,_,_,_,_,_,_,_,_,_,_,_,_,_,_,_,_,_,_,_,_,_,_,_,_,_,_,_,_,_,_,_,_,_,_,_,_,_,_,_,_,_,_,_,_,_,_,_,_,_,_,_,_,_,_,_,_,_,_,_,_,_,_,_,_,_,_,_,_,_,_,_,_,_,_,_,_,_,_,_,_,_,_,_,_,_,_,_,_,_,_,_,_,_,_,_,_,_,_,_,_]) rfl ?_
       refine c_rseq (n := 175) ⟨rfl, rfl⟩ ?_
       refine s_val (r_move rfl) ?_
       refine s_val (r_move rfl) ?_
       refine s_val (r_neq rfl rfl) ?_
       refine s_val (r_assign rfl) ?_
       refine c_nil (l' := [_,_,_,_,_,_,_,_,_,_,_,_,_,_,_,_,_,_,_,_,_,_,_,_,_,_,_,_,_,_,_,_,_,_,_,_,_,_,_,_,_,_,_,_,_,_,_,_,_,_,_,_,_,_,_,_,_,_,_,_,_,_,_,_,_,_,_,_,_,_,_,_,_,_,_,_,_,_,_,_,_,_,_,_,_,_,_,_,_,_,_,_,_,_,_,_,_,_,_,_,_,_,_,_,_,_,_,_,_,_,_,_,_,_,_,_,_,_,_,_,_,_,_,_,_,_,_,_,_,_,_,_,_,_,_,_,_,_,_,_,_,_,_,_,_,_,_,_,_,_,_,_,_,_,_,_,_,_,_,_,_,_,_,_,_,_,_,_,_,_,_,_,_,_,_]) rfl ?_
       refine c_seq ?_
       refine c_rseq (n := 175) ⟨rfl, rfl⟩ ?_
       refine s_val (r_move rfl) ?_
       refine s_val (r_move rfl) ?_
       refine s_call (r_call Try.call12 (ec rfl (ec rfl en))) (needs_spec g20 (anewC num y bd :: cl) other (by rw [hncl]; omega) (anew_small hb32 hs3) _ (GetW.mkR (H.at 0 rfl) rfl (hN6.rrowM (fun h => h) H (fun p hp => (List.mem_cons_of_mem _ (List.mem_cons_of_mem _ (List.mem_cons_of_mem _ (List.mem_cons_of_mem _ (List.mem_append_left _ hp))))))) (anew_body (show BRow _ bd.a bd.b from fun _ => ⟨bh, 0, [], sph, _,_, (by rw [hbd]), (by rw [hbb, List.nil_append]; exact H.at 1 rfl), rfl⟩) (fun y hy => (hq.body y hy).st (H.sub (List.nil_sublist _)))))) ?_
       rintro v w ⟨a113, c113, N113, rfl, hN113, HC⟩
       replace H : St w0 [] w (_ :: _ :: _ :: _ :: (N113 ++ (N5 ++ (N82 ++ NT)))) := (H.call0 HC).perm (List.perm_append_comm_assoc [_,_,_,_] N113 _)
       have hno4 := need_len (g := (findP ((anewC num y bd :: cl).map ceP))) 4 other
       refine s_val (r_lens Try.runUnderlying25 (ec rfl en)) ?_
       refine s_val (r_move rfl) ?_
       refine c_nil (l' := [_,_,_,_,_,_,_,_,_,_,_,_,_,_,_,_,_,_,_,_,_,_,_,_,_,_,_,_,_,_,_,_,_,_,_,_,_,_,_,_,_,_,_,_,_,_,_,_,_,_,_,_,_,_,_,_,_,_,_,_,_,_,_,_,_,_,_,_,_,_,_,_,_,_,_,_,_,_,_,_,_,_,_,_,_,_,_,_,_,_,_,_,_,_,_,_,_,_,_,_,_,_,_,_,_,_,_,_,_,_,_,_,_,_,_,_,_,_,_,_,_,_,_,_,_,_,_,_,_,_,_,_,_,_,_,_,_,_,_,_,_,_,_,_,_,_,_,_,_,_,_,_,_,_,_,_,_,_,_,_,_,_,_,_,_,_,_,_,_,_,_,_,_,_,_]) rfl ?_
       refine wp_block ?_
       refine c_loop (fun (l0 : List Value) (q : Nat) (l : List Value) (w : World) => ∃ (u25 u116 u117 u118 u119 u120 u121 u122 u123 u124 u125 : Value) (tb : Bool), l = ovr l0 [N_, N_, N_, N_, N_, N_, N_, N_, N_, N_, N_, N_, N_, N_, N_, N_, N_, N_, N_, N_, N_, N_, N_, Y_ (.bool tb), N_, Y_ u25, N_, N_, N_, N_, N_, N_, N_, N_, N_, N_, N_, N_, N_, N_, N_, N_, N_, N_, N_, N_, N_, N_, N_, N_, N_, N_, N_, N_, N_, N_, N_, N_, N_, N_, N_, N_, N_, N_, N_, N_, N_, N_, N_, N_, N_, N_, N_, N_, N_, N_, N_, N_, N_, N_, N_, N_, N_, N_, N_, N_, N_, N_, N_, N_, N_, N_, N_, N_, N_, N_, N_, N_, N_, N_, N_, N_, N_, N_, N_, N_, N_, N_, N_, N_, N_, N_, N_, N_, N_, Y_ (.int .i64 q), Y_ u116, Y_ u117, Y_ u118, Y_ u119, Y_ u120, Y_ u121, Y_ u122, Y_ u123, Y_ u124, Y_ u125] ∧ q ≤ (needF (findP ((anewC num y bd :: cl).map ceP)) 4 other).length ∧ tb = decide (ms.getD i 0 ≠ other ∧ ms.getD i 0 ∉ (needF (findP ((anewC num y bd :: cl).map ceP)) 4 other).take q) ∧ St w0 [] w ((g20, .cells [.slice a5 (anewC num y bd :: cl).length c5].toArray 22 (0, 0)) :: (bh, .cells (bC (xorB (padB (keyH xs (lf num)) (num + 4294967296)).1 (readF (findP (cl.map ceP)) (hasH xs) (keyH xs) num).1.1) ++ sph).toArray 5 (0, 0)) :: (b12, .cells (kC (readF (findP (cl.map ceP)) (hasH xs) (keyH xs) other).1).toArray 44 (0, 0)) :: (b10, .cells (kC (readF (findP (cl.map ceP)) (hasH xs) (keyH xs) num).1).toArray 44 (0, 0)) :: N113 ++ (N5 ++ (N82 ++ NT)))) (fun (q : Nat) => (needF (findP ((anewC num y bd :: cl).map ceP)) 4 other).length - q) 0 ⟨_,_,_,_,_,_,_,_,_,_,_,_, rfl, Nat.zero_le _, (by rw [List.take_zero]; simp), H⟩ ?_
       intro q l w ⟨u25, u116, u117, u118, u119, u120, u121, u122, u123, u124, u125, tb, hl, hq2, htb, H⟩
       obtain rfl := hl.trans (rfl : _ = [_,_,_,_,_,_,_,_,_,_,_,_,_,_,_,_,_,_,_,_,_,_,_,_,_,_,_,_,_,_,_,_,_,_,_,_,_,_,_,_,_,_,_,_,_,_,_,_,_,_,_,_,_,_,_,_,_,_,_,_,_,_,_,_,_,_,_,_,_,_,_,_,_,_,_,_,_,_,_,_,_,_,_,_,_,_,_,_,_,_,_,_,_,_,_,_,_,_,_,_,_,_,_,_,_,_,_,_,_,_,_,_,_,_,_,_,_,_,_,_,_,_,_,_,_,_,_,_,_,_,_,_,_,_,_,_,_,_,_,_,_,_,_,_,_,_,_,_,_,_,_,_,_,_,_,_,_,_,_,_,_,_,_,_,_,_,_,_,_,_,_,_,_,_,_])
       clear hl
       refine c_rseq (n := 175) ⟨rfl, rfl⟩ ?_
       refine s_val (r_lss rfl rfl) ?_
       refine c_nil (l' := [_,_,_,_,_,_,_,_,_,_,_,_,_,_,_,_,_,_,_,_,_,_,_,_,_,_,_,_,_,_,_,_,_,_,_,_,_,_,_,_,_,_,_,_,_,_,_,_,_,_,_,_,_,_,_,_,_,_,_,_,_,_,_,_,_,_,_,_,_,_,_,_,_,_,_,_,_,_,_,_,_,_,_,_,_,_,_,_,_,_,_,_,_,_,_,_,_,_,_,_,_,_,_,_,_,_,_,_,_,_,_,_,_,_,_,_,_,_,_,_,_,_,_,_,_,_,_,_,_,_,_,_,_,_,_,_,_,_,_,_,_,_,_,_,_,_,_,_,_,_,_,_,_,_,_,_,_,_,_,_,_,_,_,_,_,_,_,_,_,_,_,_,_,_,_]) rfl ?_
       refine c_seq ?_
       refine c_if rfl (fun h116 => ?_) (fun h116 => ?_)
       ·skip
        obtain ⟨bv, off2, pre2, post2, T2, fz2, rfl, hbv, hpv⟩ := (hN113.urowM H (fun p hp => (List.mem_cons_of_mem _ (List.mem_cons_of_mem _ (List.mem_cons_of_mem _ (List.mem_cons_of_mem _ (List.mem_append_left _ hp))))))) (by omega)
        cases tb
        ·skip
         skip
         refine wp_skip ?_
         refine x_thenNormal ?_
         refine c_seq ?_
         refine wp_block ?_
         refine c_rseq (n := 175) ⟨rfl, rfl⟩ ?_
         refine s_val (r_indexAddrS Try.runUnderlying25 Try.sizeOf28 rfl rfl (by omega) (by omega)) ?_
         refine s_val (r_load1 Try.isAgg28 rfl hbv (u_get pre2 _ post2 q hpv (by omega) (by omega))) ?_
         refine s_val (r_assign rfl) ?_
         refine c_nil (l' := [_,_,_,_,_,_,_,_,_,_,_,_,_,_,_,_,_,_,_,_,_,_,_,_,_,_,_,_,_,_,_,_,_,_,_,_,_,_,_,_,_,_,_,_,_,_,_,_,_,_,_,_,_,_,_,_,_,_,_,_,_,_,_,_,_,_,_,_,_,_,_,_,_,_,_,_,_,_,_,_,_,_,_,_,_,_,_,_,_,_,_,_,_,_,_,_,_,_,_,_,_,_,_,_,_,_,_,_,_,_,_,_,_,_,_,_,_,_,_,_,_,_,_,_,_,_,_,_,_,_,_,_,_,_,_,_,_,_,_,_,_,_,_,_,_,_,_,_,_,_,_,_,_,_,_,_,_,_,_,_,_,_,_,_,_,_,_,_,_,_,_,_,_,_,_]) rfl ?_
         refine c_region (n := 175) ⟨rfl, rfl⟩ ?_
         refine s_val (r_move rfl) ?_
         refine s_val (r_move rfl) ?_
         refine g_no rfl rfl (by decide) ?_
         refine g_no rfl rfl (by decide) ?_
         refine g_no rfl rfl (by decide) ?_
         refine s_val (r_pickf rfl rfl) ?_
         refine s_val (r_assign rfl) ?_
         refine c_nil0 (l' := [_,_,_,_,_,_,_,_,_,_,_,_,_,_,_,_,_,_,_,_,_,_,_,_,_,_,_,_,_,_,_,_,_,_,_,_,_,_,_,_,_,_,_,_,_,_,_,_,_,_,_,_,_,_,_,_,_,_,_,_,_,_,_,_,_,_,_,_,_,_,_,_,_,_,_,_,_,_,_,_,_,_,_,_,_,_,_,_,_,_,_,_,_,_,_,_,_,_,_,_,_,_,_,_,_,_,_,_,_,_,_,_,_,_,_,_,_,_,_,_,_,_,_,_,_,_,_,_,_,_,_,_,_,_,_,_,_,_,_,_,_,_,_,_,_,_,_,_,_,_,_,_,_,_,_,_,_,_,_,_,_,_,_,_,_,_,_,_,_,_,_,_,_,_,_]) rfl ?_
         refine x_blockNormal ?_
         refine x_thenNormal ?_
         refine c_region (n := 175) ⟨rfl, rfl⟩ ?_
         refine s_val (r_add rfl rfl (w_i64 (by omega) (by omega))) ?_
         refine s_val (r_move rfl) ?_
         refine c_nil0 (l' := [_,_,_,_,_,_,_,_,_,_,_,_,_,_,_,_,_,_,_,_,_,_,_,_,_,_,_,_,_,_,_,_,_,_,_,_,_,_,_,_,_,_,_,_,_,_,_,_,_,_,_,_,_,_,_,_,_,_,_,_,_,_,_,_,_,_,_,_,_,_,_,_,_,_,_,_,_,_,_,_,_,_,_,_,_,_,_,_,_,_,_,_,_,_,_,_,_,_,_,_,_,_,_,_,_,_,_,_,_,_,_,_,_,_,_,_,_,_,_,_,_,_,_,_,_,_,_,_,_,_,_,_,_,_,_,_,_,_,_,_,_,_,_,_,_,_,_,_,_,_,_,_,_,_,_,_,_,_,_,_,_,_,_,_,_,_,_,_,_,_,_,_,_,_,_]) rfl ?_
         exact ⟨q + 1, _, rfl, ⟨_,_,_,_,_,_,_,_,_,_,_, false, rfl, by omega, (by rw [← fre_on (by omega) htb]; rfl), H⟩, by omega⟩
        ·skip
         skip
         refine wp_skip ?_
         refine x_thenNormal ?_
         refine c_seq ?_
         refine wp_block ?_
         refine c_rseq (n := 175) ⟨rfl, rfl⟩ ?_
         refine s_val (r_indexAddrS Try.runUnderlying25 Try.sizeOf28 rfl rfl (by omega) (by omega)) ?_
         refine s_val (r_load1 Try.isAgg28 rfl hbv (u_get pre2 _ post2 q hpv (by omega) (by omega))) ?_
         refine s_val (r_assign rfl) ?_
         refine c_nil (l' := [_,_,_,_,_,_,_,_,_,_,_,_,_,_,_,_,_,_,_,_,_,_,_,_,_,_,_,_,_,_,_,_,_,_,_,_,_,_,_,_,_,_,_,_,_,_,_,_,_,_,_,_,_,_,_,_,_,_,_,_,_,_,_,_,_,_,_,_,_,_,_,_,_,_,_,_,_,_,_,_,_,_,_,_,_,_,_,_,_,_,_,_,_,_,_,_,_,_,_,_,_,_,_,_,_,_,_,_,_,_,_,_,_,_,_,_,_,_,_,_,_,_,_,_,_,_,_,_,_,_,_,_,_,_,_,_,_,_,_,_,_,_,_,_,_,_,_,_,_,_,_,_,_,_,_,_,_,_,_,_,_,_,_,_,_,_,_,_,_,_,_,_,_,_,_]) rfl ?_
         refine c_region (n := 175) ⟨rfl, rfl⟩ ?_
         refine s_val (r_move rfl) ?_
         refine s_val (r_move rfl) ?_
         refine g_yes rfl rfl ?_
         refine s_val (r_move rfl) ?_
         refine g_yes rfl rfl ?_
         refine s_val (r_move rfl) ?_
         refine g_yes rfl rfl ?_
         refine s_val (r_neq rfl rfl) ?_
         refine s_val (r_pickt rfl rfl) ?_
         refine s_val (r_assign rfl) ?_
         refine c_nil0 (l' := [_,_,_,_,_,_,_,_,_,_,_,_,_,_,_,_,_,_,_,_,_,_,_,_,_,_,_,_,_,_,_,_,_,_,_,_,_,_,_,_,_,_,_,_,_,_,_,_,_,_,_,_,_,_,_,_,_,_,_,_,_,_,_,_,_,_,_,_,_,_,_,_,_,_,_,_,_,_,_,_,_,_,_,_,_,_,_,_,_,_,_,_,_,_,_,_,_,_,_,_,_,_,_,_,_,_,_,_,_,_,_,_,_,_,_,_,_,_,_,_,_,_,_,_,_,_,_,_,_,_,_,_,_,_,_,_,_,_,_,_,_,_,_,_,_,_,_,_,_,_,_,_,_,_,_,_,_,_,_,_,_,_,_,_,_,_,_,_,_,_,_,_,_,_,_]) rfl ?_
         refine x_blockNormal ?_
         refine x_thenNormal ?_
         refine c_region (n := 175) ⟨rfl, rfl⟩ ?_
         refine s_val (r_add rfl rfl (w_i64 (by omega) (by omega))) ?_
         refine s_val (r_move rfl) ?_
         refine c_nil0 (l' := [_,_,_,_,_,_,_,_,_,_,_,_,_,_,_,_,_,_,_,_,_,_,_,_,_,_,_,_,_,_,_,_,_,_,_,_,_,_,_,_,_,_,_,_,_,_,_,_,_,_,_,_,_,_,_,_,_,_,_,_,_,_,_,_,_,_,_,_,_,_,_,_,_,_,_,_,_,_,_,_,_,_,_,_,_,_,_,_,_,_,_,_,_,_,_,_,_,_,_,_,_,_,_,_,_,_,_,_,_,_,_,_,_,_,_,_,_,_,_,_,_,_,_,_,_,_,_,_,_,_,_,_,_,_,_,_,_,_,_,_,_,_,_,_,_,_,_,_,_,_,_,_,_,_,_,_,_,_,_,_,_,_,_,_,_,_,_,_,_,_,_,_,_,_,_]) rfl ?_
         exact ⟨q + 1, _, rfl, ⟨_,_,_,_,_,_,_,_,_,_,_, (decide ((needF (findP ((anewC num y bd :: cl).map ceP)) 4 other).getD q 0 ≠ ms.getD i 0)), rfl, by omega, (by rw [← fre_on (by omega) htb]; rfl), H⟩, by omega⟩
       ·skip
        obtain rfl : q = (needF (findP ((anewC num y bd :: cl).map ceP)) 4 other).length := by omega
        rw [List.take_length] at htb
        replace H : St w0 [] w (_ :: _ :: _ :: _ :: (N5 ++ (N82 ++ NT))) := H.sub (.cons_cons _ (.cons_cons _ (.cons_cons _ (.cons_cons _ (List.sublist_append_right _ _)))))
        cases tb
        ·skip
         skip
         refine wp_exit (x_thenExit (x_thenExit (x_blockHit ?_)))
         refine x_thenNormal ?_
         refine c_rseq (n := 175) ⟨rfl, rfl⟩ ?_
         refine s_val (r_move rfl) ?_
         refine c_nil (l' := [_,_,_,_,_,_,_,_,_,_,_,_,_,_,_,_,_,_,_,_,_,_,_,_,_,_,_,_,_,_,_,_,_,_,_,_,_,_,_,_,_,_,_,_,_,_,_,_,_,_,_,_,_,_,_,_,_,_,_,_,_,_,_,_,_,_,_,_,_,_,_,_,_,_,_,_,_,_,_,_,_,_,_,_,_,_,_,_,_,_,_,_,_,_,_,_,_,_,_,_,_,_,_,_,_,_,_,_,_,_,_,_,_,_,_,_,_,_,_,_,_,_,_,_,_,_,_,_,_,_,_,_,_,_,_,_,_,_,_,_,_,_,_,_,_,_,_,_,_,_,_,_,_,_,_,_,_,_,_,_,_,_,_,_,_,_,_,_,_,_,_,_,_,_,_]) rfl ?_
         refine c_iff rfl ?_
         refine wp_skip ?_
         refine x_blockNormal ?_
         refine x_thenNormal ?_
         refine c_region (n := 175) ⟨rfl, rfl⟩ ?_
         refine s_val (r_add rfl rfl (w_i64 (by omega) (by omega))) ?_
         refine s_val (r_move rfl) ?_
         refine c_nil0 (l' := [_,_,_,_,_,_,_,_,_,_,_,_,_,_,_,_,_,_,_,_,_,_,_,_,_,_,_,_,_,_,_,_,_,_,_,_,_,_,_,_,_,_,_,_,_,_,_,_,_,_,_,_,_,_,_,_,_,_,_,_,_,_,_,_,_,_,_,_,_,_,_,_,_,_,_,_,_,_,_,_,_,_,_,_,_,_,_,_,_,_,_,_,_,_,_,_,_,_,_,_,_,_,_,_,_,_,_,_,_,_,_,_,_,_,_,_,_,_,_,_,_,_,_,_,_,_,_,_,_,_,_,_,_,_,_,_,_,_,_,_,_,_,_,_,_,_,_,_,_,_,_,_,_,_,_,_,_,_,_,_,_,_,_,_,_,_,_,_,_,_,_,_,_,_,_]) rfl ?_
         exact ⟨i + 1, _, rfl, ⟨_,_,_,_,_,_,_,_,_,_,_,_,_,_,_,_,_,_,_,_,_,_,_,_,_,_,_,_,_,_, NT, la2, ys, rfl, by omega, hI.skip, by omega, hys, hT, H⟩, by omega⟩
        ·skip
         skip
         refine wp_exit (x_thenExit (x_thenExit (x_blockHit ?_)))
         refine x_thenNormal ?_
         refine c_rseq (n := 175) ⟨rfl, rfl⟩ ?_
         refine s_val (r_move rfl) ?_
         refine c_nil (l' := [_,_,_,_,_,_,_,_,_,_,_,_,_,_,_,_,_,_,_,_,_,_,_,_,_,_,_,_,_,_,_,_,_,_,_,_,_,_,_,_,_,_,_,_,_,_,_,_,_,_,_,_,_,_,_,_,_,_,_,_,_,_,_,_,_,_,_,_,_,_,_,_,_,_,_,_,_,_,_,_,_,_,_,_,_,_,_,_,_,_,_,_,_,_,_,_,_,_,_,_,_,_,_,_,_,_,_,_,_,_,_,_,_,_,_,_,_,_,_,_,_,_,_,_,_,_,_,_,_,_,_,_,_,_,_,_,_,_,_,_,_,_,_,_,_,_,_,_,_,_,_,_,_,_,_,_,_,_,_,_,_,_,_,_,_,_,_,_,_,_,_,_,_,_,_]) rfl ?_
         refine c_ift rfl ?_
         refine c_region (n := 175) ⟨rfl, rfl⟩ ?_
         refine s_val (r_move rfl) ?_
         refine s_val (r_move rfl) ?_
         refine s_call (r_call Try.call16 (ec rfl en)) (leaf_spec _ _) ?_
         rintro v w ⟨rfl, HC⟩
         replace H := H.quiet HC
         refine s_call (r_call Try.call15 (ec rfl (ec rfl en))) (punc_t bt (.iface 49 (.agg litC.toArray)) ys (lf (ms.getD i 0)) NT litL litR (splits_lit litC) hyl hvy (lf_nn _) (lf_lt _) _ hT (H.ownsM (.cons _ (.cons _ (.cons _ (.cons _ ((List.sublist_append_right _ _).trans (List.sublist_append_right _ _)))))))) ?_
         rintro v w ⟨rfl, NT2, hT2, HC⟩
         replace H : St w0 [] w (_ :: _ :: _ :: _ :: (N5 ++ (N82 ++ NT2))) := St.callr3 (A := [_,_,_,_]) H HC
         refine c_nil0 (l' := [_,_,_,_,_,_,_,_,_,_,_,_,_,_,_,_,_,_,_,_,_,_,_,_,_,_,_,_,_,_,_,_,_,_,_,_,_,_,_,_,_,_,_,_,_,_,_,_,_,_,_,_,_,_,_,_,_,_,_,_,_,_,_,_,_,_,_,_,_,_,_,_,_,_,_,_,_,_,_,_,_,_,_,_,_,_,_,_,_,_,_,_,_,_,_,_,_,_,_,_,_,_,_,_,_,_,_,_,_,_,_,_,_,_,_,_,_,_,_,_,_,_,_,_,_,_,_,_,_,_,_,_,_,_,_,_,_,_,_,_,_,_,_,_,_,_,_,_,_,_,_,_,_,_,_,_,_,_,_,_,_,_,_,_,_,_,_,_,_,_,_,_,_,_,_]) rfl ?_
         refine x_blockNormal ?_
         refine x_thenNormal ?_
         refine c_region (n := 175) ⟨rfl, rfl⟩ ?_
         refine s_val (r_add rfl rfl (w_i64 (by omega) (by omega))) ?_
         refine s_val (r_move rfl) ?_
         refine c_nil0 (l' := [_,_,_,_,_,_,_,_,_,_,_,_,_,_,_,_,_,_,_,_,_,_,_,_,_,_,_,_,_,_,_,_,_,_,_,_,_,_,_,_,_,_,_,_,_,_,_,_,_,_,_,_,_,_,_,_,_,_,_,_,_,_,_,_,_,_,_,_,_,_,_,_,_,_,_,_,_,_,_,_,_,_,_,_,_,_,_,_,_,_,_,_,_,_,_,_,_,_,_,_,_,_,_,_,_,_,_,_,_,_,_,_,_,_,_,_,_,_,_,_,_,_,_,_,_,_,_,_,_,_,_,_,_,_,_,_,_,_,_,_,_,_,_,_,_,_,_,_,_,_,_,_,_,_,_,_,_,_,_,_,_,_,_,_,_,_,_,_,_,_,_,_,_,_,_]) rfl ?_
         exact ⟨i + 1, _, rfl, ⟨_,_,_,_,_,_,_,_,_,_,_,_,_,_,_,_,_,_,_,_,_,_,_,_,_,_,_,_,_,_, NT2, _, (punc litL litR ys (lf (ms.getD i 0))), rfl, by omega, (hI.on (by omega) (of_decide_eq_true htb.symm)), (by rw [List.length_cons]; omega), (by rw [hys, tree0_punc]), hT2, H⟩, by omega⟩
      ·skip
       obtain rfl : i = ms.length := by omega
       rw [List.take_length] at hI
       have hrn := renew_law (seed := seed) (la := ns.reverse) (la2 := la2) (other := other) (bd := bd) (by rw [← hxs]; exact hz) (by rw [← hxs]; exact hok) hfd (by rw [← hxs]; exact hbb) (hms ▸ hI)
       rw [← hxs, ← hys] at hrn
       obtain ⟨hr1, hr2⟩ := hrn
       refine wp_exit (x_thenExit (x_thenExit (x_blockHit ?_)))
       refine x_thenNormal ?_
       refine c_rseq (n := 175) ⟨rfl, rfl⟩ ?_
       refine s_val (r_buildS (zs := litC) (out := litC) Try.runUnderlying49 Try.zeroValue49 places49 pn rfl) ?_
       refine s_val (r_makeIface Try.runUnderlying49 (fun _ h => nomatch h) rfl) ?_
       refine s_val (r_move rfl) ?_
       refine s_val (r_move rfl) ?_
       refine s_val (r_move rfl) ?_
       refine s_call (r_call Try.call14 (ec rfl (ec rfl (ec rfl (ec rfl en))))) (read_spec g20 (anewC num y bd :: cl) num (by rw [hncl]; omega) (anew_small hb32 hs3) (anew_ref hq.ref) bt ys NT hyl hvy _ (GetW.mkR (H.at 0 rfl) rfl (hN6.rrowM (fun h => h) H (fun p hp => (List.mem_cons_of_mem _ (List.mem_cons_of_mem _ (List.mem_cons_of_mem _ (List.mem_cons_of_mem _ (List.mem_append_left _ hp))))))) (anew_body (show BRow _ bd.a bd.b from fun _ => ⟨bh, 0, [], sph, _,_, (by rw [hbd]), (by rw [hbb, List.nil_append]; exact H.at 1 rfl), rfl⟩) (fun y hy => (hq.body y hy).st (H.sub (List.nil_sublist _))))) hT (H.ownsM (.cons _ (.cons _ (.cons _ (.cons _ ((List.sublist_append_right _ _).trans (List.sublist_append_right _ _)))))))) ?_
       rintro v w ⟨rfl, HC⟩
       replace H := H.quiet HC
       rw [hr1]
       refine s_val (r_move rfl) ?_
       refine s_val (r_extract rfl rfl) ?_
       refine s_val (r_extract rfl rfl) ?_
       refine s_new (m_alloc (cs := (kC (By.zero 32))) H Try.zeroValue44 rfl) ?_
       intro w b26 H
       refine s_st (m_storen H 0 32 Try.sizeOf44 rfl rfl (by first | exact (kC_length _) | exact (hC_length _) | exact (ceC_length _) | exact (ptC_length _ _ _ _) | exact (plV_length _ _ _) | exact litC_length) (by first | exact (kC_one _) | exact (hC_one _) | exact (ceC_one _) | exact (ptC_one _ _ _ _) | exact (plV_one _ _ _) | exact litC_one) rfl (by first | exact (by rw [kC_length]; omega) | exact (by rw [hC_length]; omega)) (by first | exact (kC_sp _ _) | exact (hC_sp _ _) | exact (kC_sp _ _) | exact (ceC_sp _ _))) (L' := (_ :: _ :: _ :: _ :: _ :: _)) rfl ?_
       intro w H
       refine s_val (r_assign rfl) ?_
       refine c_nil (l' := [_,_,_,_,_,_,_,_,_,_,_,_,_,_,_,_,_,_,_,_,_,_,_,_,_,_,_,_,_,_,_,_,_,_,_,_,_,_,_,_,_,_,_,_,_,_,_,_,_,_,_,_,_,_,_,_,_,_,_,_,_,_,_,_,_,_,_,_,_,_,_,_,_,_,_,_,_,_,_,_,_,_,_,_,_,_,_,_,_,_,_,_,_,_,_,_,_,_,_,_,_,_,_,_,_,_,_,_,_,_,_,_,_,_,_,_,_,_,_,_,_,_,_,_,_,_,_,_,_,_,_,_,_,_,_,_,_,_,_,_,_,_,_,_,_,_,_,_,_,_,_,_,_,_,_,_,_,_,_,_,_,_,_,_,_,_,_,_,_,_,_,_,_,_,_]) rfl ?_
       refine c_rseq (n := 175) ⟨rfl, rfl⟩ ?_
       refine s_val (r_buildS (zs := litC) (out := litC) Try.runUnderlying49 Try.zeroValue49 places49 pn rfl) ?_
       refine s_val (r_makeIface Try.runUnderlying49 (fun _ h => nomatch h) rfl) ?_
       refine s_val (r_move rfl) ?_
       refine s_val (r_move rfl) ?_
       refine s_val (r_move rfl) ?_
       refine s_call (r_call Try.call14 (ec rfl (ec rfl (ec rfl (ec rfl en))))) (read_spec g20 (anewC num y bd :: cl) other (by rw [hncl]; omega) (anew_small hb32 hs3) (anew_ref hq.ref) bt ys NT hyl hvy _ (GetW.mkR (H.at 1 rfl) rfl (hN6.rrowM (fun h => h) H (fun p hp => (List.mem_cons_of_mem _ (List.mem_cons_of_mem _ (List.mem_cons_of_mem _ (List.mem_cons_of_mem _ (List.mem_cons_of_mem _ (List.mem_append_left _ hp)))))))) (anew_body (show BRow _ bd.a bd.b from fun _ => ⟨bh, 0, [], sph, _,_, (by rw [hbd]), (by rw [hbb, List.nil_append]; exact H.at 2 rfl), rfl⟩) (fun y hy => (hq.body y hy).st (H.sub (List.nil_sublist _))))) hT (H.ownsM (.cons _ (.cons _ (.cons _ (.cons _ (.cons _ ((List.sublist_append_right _ _).trans (List.sublist_append_right _ _))))))))) ?_
       rintro v w ⟨rfl, HC⟩
       replace H := H.quiet HC
       refine s_val (r_move rfl) ?_
       refine s_val (r_extract rfl rfl) ?_
       refine s_val (r_extract rfl rfl) ?_
       refine s_new (m_alloc (cs := (kC (By.zero 32))) H Try.zeroValue44 rfl) ?_
       intro w b28 H
       refine s_st (m_storen H 0 32 Try.sizeOf44 rfl rfl (by first | exact (kC_length _) | exact (hC_length _) | exact (ceC_length _) | exact (ptC_length _ _ _ _) | exact (plV_length _ _ _) | exact litC_length) (by first | exact (kC_one _) | exact (hC_one _) | exact (ceC_one _) | exact (ptC_one _ _ _ _) | exact (plV_one _ _ _) | exact litC_one) rfl (by first | exact (by rw [kC_length]; omega) | exact (by rw [hC_length]; omega)) (by first | exact (kC_sp _ _) | exact (hC_sp _ _) | exact (kC_sp _ _) | exact (ceC_sp _ _))) (L' := (_ :: _ :: _ :: _ :: _ :: _ :: _)) rfl ?_
       intro w H
       refine s_val (r_assign rfl) ?_
       refine c_nil (l' := [_,_,_,_,_,_,_,_,_,_,_,_,_,_,_,_,_,_,_,_,_,_,_,_,_,_,_,_,_,_,_,_,_,_,_,_,_,_,_,_,_,_,_,_,_,_,_,_,_,_,_,_,_,_,_,_,_,_,_,_,_,_,_,_,_,_,_,_,_,_,_,_,_,_,_,_,_,_,_,_,_,_,_,_,_,_,_,_,_,_,_,_,_,_,_,_,_,_,_,_,_,_,_,_,_,_,_,_,_,_,_,_,_,_,_,_,_,_,_,_,_,_,_,_,_,_,_,_,_,_,_,_,_,_,_,_,_,_,_,_,_,_,_,_,_,_,_,_,_,_,_,_,_,_,_,_,_,_,_,_,_,_,_,_,_,_,_,_,_,_,_,_,_,_,_]) rfl ?_
       refine c_seq ?_
       refine c_rseq (n := 175) ⟨rfl, rfl⟩ ?_
       refine s_val (r_move rfl) ?_
       refine s_test (r_neq rfl rfl) (fun h151 => ?_) (fun h151 => ?_)
       ·skip
        exact absurd rfl h151
       ·skip
        refine s_val (r_move rfl) ?_
        refine g_yes rfl rfl ?_
        refine s_val (r_loadn Try.isAgg44 Try.sizeOf44 rfl (H.at 1 rfl) (by first | exact (kC_td _) | exact (hC_td _) | exact (hC_seed _) | exact (ceC_td _) | exact (ceC_place _) | exact (ptC_td _ _ _ _) | exact (plV_td _ _ _)) (by first | exact (kC_length _) | exact (hC_length _) | exact (ceC_length _) | exact (ptC_length _ _ _ _) | exact (plV_length _ _ _) | exact litC_length | exact rfl)) ?_
        refine g_yes rfl rfl ?_
        refine s_val (r_loadn Try.isAgg44 Try.sizeOf44 rfl (H.at 5 rfl) (by first | exact (kC_td _) | exact (hC_td _) | exact (hC_seed _) | exact (ceC_td _) | exact (ceC_place _) | exact (ptC_td _ _ _ _) | exact (plV_td _ _ _)) (by first | exact (kC_length _) | exact (hC_length _) | exact (ceC_length _) | exact (ptC_length _ _ _ _) | exact (plV_length _ _ _) | exact litC_length | exact rfl)) ?_
        refine g_yes rfl rfl ?_
        refine s_test (r_neqB byT44 rfl rfl) (fun h155 => ?_) (fun h155 => ?_)
        ·skip
         exact absurd rfl h155
        ·skip
         refine s_val (r_pickf rfl rfl) ?_
         refine s_val (r_move rfl) ?_
         refine g_yes rfl rfl ?_
         refine s_val (r_move rfl) ?_
         refine g_yes rfl rfl ?_
         refine s_val (r_move rfl) ?_
         refine g_yes rfl rfl ?_
         refine s_call (r_call Try.call12 (ec rfl (ec rfl en))) (needs_spec g20 (anewC num y bd :: cl) num (by rw [hncl]; omega) (anew_small hb32 hs3) _ (GetW.mkR (H.at 2 rfl) rfl (hN6.rrowM (fun h => h) H (fun p hp => (List.mem_cons_of_mem _ (List.mem_cons_of_mem _ (List.mem_cons_of_mem _ (List.mem_cons_of_mem _ (List.mem_cons_of_mem _ (List.mem_cons_of_mem _ (List.mem_append_left _ hp))))))))) (anew_body (show BRow _ bd.a bd.b from fun _ => ⟨bh, 0, [], sph, _,_, (by rw [hbd]), (by rw [hbb, List.nil_append]; exact H.at 3 rfl), rfl⟩) (fun y hy => (hq.body y hy).st (H.sub (List.nil_sublist _)))))) ?_
         rintro v w ⟨a160, c160, N160, rfl, hN160, HC⟩
         replace H := (H.call0 HC).sub (List.sublist_append_right _ _)
         rw [anew_need]
         refine g_yes rfl rfl ?_
         refine s_val (r_lens Try.runUnderlying25 (ec rfl en)) ?_
         refine g_yes rfl rfl ?_
         refine s_test (r_neq rfl rfl) (fun h162 => ?_) (fun h162 => ?_)
         ·skip
          exact absurd rfl h162
         ·skip
          refine s_val (r_pickf rfl rfl) ?_
          refine c_nil (l' := [_,_,_,_,_,_,_,_,_,_,_,_,_,_,_,_,_,_,_,_,_,_,_,_,_,_,_,_,_,_,_,_,_,_,_,_,_,_,_,_,_,_,_,_,_,_,_,_,_,_,_,_,_,_,_,_,_,_,_,_,_,_,_,_,_,_,_,_,_,_,_,_,_,_,_,_,_,_,_,_,_,_,_,_,_,_,_,_,_,_,_,_,_,_,_,_,_,_,_,_,_,_,_,_,_,_,_,_,_,_,_,_,_,_,_,_,_,_,_,_,_,_,_,_,_,_,_,_,_,_,_,_,_,_,_,_,_,_,_,_,_,_,_,_,_,_,_,_,_,_,_,_,_,_,_,_,_,_,_,_,_,_,_,_,_,_,_,_,_,_,_,_,_,_,_]) rfl ?_
          refine c_iff rfl ?_
          refine wp_skip ?_
          refine x_thenNormal ?_
          refine c_rseq (n := 175) ⟨rfl, rfl⟩ ?_
          refine s_val (r_move rfl) ?_
          refine s_test (r_neq rfl rfl) (fun h165 => ?_) (fun h165 => ?_)
          ·skip
           refine s_val (r_move rfl) ?_
           refine g_no rfl rfl (by decide) ?_
           refine g_no rfl rfl (by decide) ?_
           refine g_no rfl rfl (by decide) ?_
           refine g_undef rfl rfl ?_
           refine g_undef rfl rfl ?_
           refine g_undef rfl rfl ?_
           refine g_no rfl rfl (by decide) ?_
           refine s_val (r_pickt rfl rfl) ?_
           refine s_val (r_assign rfl) ?_
           refine c_nil (l' := [_,_,_,_,_,_,_,_,_,_,_,_,_,_,_,_,_,_,_,_,_,_,_,_,_,_,_,_,_,_,_,_,_,_,_,_,_,_,_,_,_,_,_,_,_,_,_,_,_,_,_,_,_,_,_,_,_,_,_,_,_,_,_,_,_,_,_,_,_,_,_,_,_,_,_,_,_,_,_,_,_,_,_,_,_,_,_,_,_,_,_,_,_,_,_,_,_,_,_,_,_,_,_,_,_,_,_,_,_,_,_,_,_,_,_,_,_,_,_,_,_,_,_,_,_,_,_,_,_,_,_,_,_,_,_,_,_,_,_,_,_,_,_,_,_,_,_,_,_,_,_,_,_,_,_,_,_,_,_,_,_,_,_,_,_,_,_,_,_,_,_,_,_,_,_]) rfl ?_
           refine wp_ret ?_
           refine e_ret (res1 rfl rfl) ⟨_, rfl, ?_⟩
           exact ⟨rfl, (H.sub (List.nil_sublist _))⟩
          ·skip
           have hf0 : (readF (findP (cl.map ceP)) (hasH xs) (keyH xs) other).2 = 0 := Decidable.not_not.1 h165
           have hro := hr2 hf0
           refine s_val (r_move rfl) ?_
           refine g_yes rfl rfl ?_
           refine s_val (r_move rfl) ?_
           refine g_yes rfl rfl ?_
           refine s_test (r_eql rfl rfl) (fun h168 => ?_) (fun h168 => ?_)
           ·skip
            refine g_yes rfl rfl ?_
            refine s_val (r_move rfl) ?_
            refine g_yes rfl rfl ?_
            refine s_val (r_loadn Try.isAgg44 Try.sizeOf44 rfl (H.at 0 rfl) (by first | exact (kC_td _) | exact (hC_td _) | exact (hC_seed _) | exact (ceC_td _) | exact (ceC_place _) | exact (ptC_td _ _ _ _) | exact (plV_td _ _ _)) (by first | exact (kC_length _) | exact (hC_length _) | exact (ceC_length _) | exact (ptC_length _ _ _ _) | exact (plV_length _ _ _) | exact litC_length | exact rfl)) ?_
            refine g_yes rfl rfl ?_
            refine s_val (r_loadn Try.isAgg44 Try.sizeOf44 rfl (H.at 4 rfl) (by first | exact (kC_td _) | exact (hC_td _) | exact (hC_seed _) | exact (ceC_td _) | exact (ceC_place _) | exact (ptC_td _ _ _ _) | exact (plV_td _ _ _)) (by first | exact (kC_length _) | exact (hC_length _) | exact (ceC_length _) | exact (ptC_length _ _ _ _) | exact (plV_length _ _ _) | exact litC_length | exact rfl)) ?_
            refine g_yes rfl rfl ?_
            refine s_test (r_eqlB byT44 rfl rfl) (fun h172 => ?_) (fun h172 => ?_)
            ·skip
             refine g_yes rfl rfl ?_
             refine s_val (r_pickt rfl rfl) ?_
             refine s_val (r_pickf rfl rfl) ?_
             refine s_val (r_assign rfl) ?_
             refine c_nil (l' := [_,_,_,_,_,_,_,_,_,_,_,_,_,_,_,_,_,_,_,_,_,_,_,_,_,_,_,_,_,_,_,_,_,_,_,_,_,_,_,_,_,_,_,_,_,_,_,_,_,_,_,_,_,_,_,_,_,_,_,_,_,_,_,_,_,_,_,_,_,_,_,_,_,_,_,_,_,_,_,_,_,_,_,_,_,_,_,_,_,_,_,_,_,_,_,_,_,_,_,_,_,_,_,_,_,_,_,_,_,_,_,_,_,_,_,_,_,_,_,_,_,_,_,_,_,_,_,_,_,_,_,_,_,_,_,_,_,_,_,_,_,_,_,_,_,_,_,_,_,_,_,_,_,_,_,_,_,_,_,_,_,_,_,_,_,_,_,_,_,_,_,_,_,_,_]) rfl ?_
             refine wp_ret ?_
             refine e_ret (res1 rfl rfl) ⟨_, rfl, ?_⟩
             exact ⟨rfl, (H.sub (List.nil_sublist _))⟩
            ·skip
             exact absurd (congrArg Prod.fst hro) h172
           ·skip
            exact absurd ((congrArg Prod.snd hro).trans hf0) h168
     ·skip
      obtain ⟨c1, hc1, _⟩ := (way_ok 4 5 0 num rfl (by decide) (read_way hz)).1 num (.inl rfl)
      rw [hfd] at hc1
      cases hc1
 ·skip
  replace H := H.quiet HC
  refine s_val (r_eql rfl rfl) ?_
  refine c_nil (l' := [_,_,_,_,_,_,_,_,_,_,_,_,_,_,_,_,_,_,_,_,_,_,_,_,_,_,_,_,_,_,_,_,_,_,_,_,_,_,_,_,_,_,_,_,_,_,_,_,_,_,_,_,_,_,_,_,_,_,_,_,_,_,_,_,_,_,_,_,_,_,_,_,_,_,_,_,_,_,_,_,_,_,_,_,_,_,_,_,_,_,_,_,_,_,_,_,_,_,_,_,_,_,_,_,_,_,_,_,_,_,_,_,_,_,_,_,_,_,_,_,_,_,_,_,_,_,_,_,_,_,_,_,_,_,_,_,_,_,_,_,_,_,_,_,_,_,_,_,_,_,_,_,_,_,_,_,_,_,_,_,_,_,_,_,_,_,_,_,_,_,_,_,_,_,_]) rfl ?_
  refine c_if rfl (fun h34 => ?_) (fun h34 => ?_)
  ·skip
   skip
   refine c_rseq (n := 175) ⟨rfl, rfl⟩ ?_
   refine s_val (r_assign rfl) ?_
   refine c_nil (l' := [_,_,_,_,_,_,_,_,_,_,_,_,_,_,_,_,_,_,_,_,_,_,_,_,_,_,_,_,_,_,_,_,_,_,_,_,_,_,_,_,_,_,_,_,_,_,_,_,_,_,_,_,_,_,_,_,_,_,_,_,_,_,_,_,_,_,_,_,_,_,_,_,_,_,_,_,_,_,_,_,_,_,_,_,_,_,_,_,_,_,_,_,_,_,_,_,_,_,_,_,_,_,_,_,_,_,_,_,_,_,_,_,_,_,_,_,_,_,_,_,_,_,_,_,_,_,_,_,_,_,_,_,_,_,_,_,_,_,_,_,_,_,_,_,_,_,_,_,_,_,_,_,_,_,_,_,_,_,_,_,_,_,_,_,_,_,_,_,_,_,_,_,_,_,_]) rfl ?_
   refine wp_ret (x_thenRet ?_)
   refine e_ret (res1 rfl rfl) ⟨_, rfl, ?_⟩
   exact ⟨rfl, (H.sub (List.nil_sublist _))⟩
  ·skip
   exact absurd rfl h34

end Go.Proofs.Ytobfnieebiakeaa

