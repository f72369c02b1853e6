import Derived.Test.YtobfnieebiakeaaPE1
import Derived.Test.YtobfnieebiakeaaPVx2
namespace Go.Proofs.Ytobfnieebiakeaa
open Go Go.Er

theorem small3 (a : Option Addr) (c : Nat) (cl : List Ce) (seed : Key) (ga : Option Addr) (gc : Nat) (ns : List Int) (w0 : World) (hq : CaW w0 a cl ga ns) :
  Calls Try.prog 10 #[.agg (caC a c cl seed ga gc ns).toArray] w0 fun e w => ∃ v, e = .returned v ∧ ((v = .int .i64 1 ∧ CaS cl ns ∧ St w0 [] w []) ∨ (v = .int .i64 0 ∧ St w0 [] w [])) :=
 (small_spec a c cl seed ga gc ns w0 hq).mono fun _ _ ⟨v, he, h, H⟩ => ⟨v, he, h.imp (fun h => ⟨h.1, h.2, H⟩) (fun h => ⟨h, H⟩)⟩

set_option maxHeartbeats 4000000 in
set_option maxRecDepth 20000 in
theorem gone_law_w (a : Option Addr) (c : Nat) (cl : List Ce) (seed : Key) (ga : Option Addr) (gc : Nat) (ns : List Int) (num other which : Int) (hw0 : 0 ≤ which) (hw1 : which < 256) (w0 : World) (hq : CaW w0 a cl ga ns) :
  Calls Try.prog 4 #[.agg (caC a c cl seed ga gc ns).toArray, .int .u64 num, .int .u64 other, .int .u8 which] w0 fun e w => ∃ v, e = .returned v ∧ (v = .bool true ∧ St w0 [] w []) := by
 have H := St.refl w0
 refine c_enter (args := [.agg (caC a c cl seed ga gc ns).toArray, .int .u64 num, .int .u64 other, .int .u8 which]) (l := [.agg (caC a c cl seed ga gc ns).toArray, .int .u64 num, .int .u64 other, .int .u8 which, undef, undef, undef, undef, undef, undef, undef, undef, undef, undef, undef, undef, undef, undef, undef, undef, undef, undef, undef, undef, undef, undef, undef, undef, undef, undef, undef, undef, undef, undef, undef, undef, undef, undef, undef, undef, undef, undef, undef, undef, undef, undef, undef, undef, undef, undef, undef, undef, undef, undef, undef, undef, undef, undef, undef, undef, undef, undef, undef, undef, undef, undef, undef, undef, undef, undef, undef, undef, undef, undef, undef, undef, undef, undef, undef, undef, undef, undef, undef, undef, undef, undef, undef, undef, undef, undef, undef, undef, undef, undef, undef, undef, undef, undef, undef, undef, undef, undef, undef, undef, undef, undef, undef, undef, undef, undef, undef, undef, undef, undef, undef, undef, undef, undef, undef, undef, undef, undef, undef, undef, undef, undef, undef, undef, undef, undef, undef, undef, undef, undef, undef, undef, undef, undef, undef, undef, undef, undef, undef, undef, undef, undef, undef, undef, undef, undef, undef, undef, undef, undef, undef, undef, undef]) Try.func4 Try.ntmps4 rfl rfl ?_
 refine c_rseq (n := 157) ⟨rfl, rfl⟩ ?_
 refine s_new (m_box (cs := (caC a c cl seed ga gc ns)) H rfl rfl) ?_
 intro w b4 H
 refine s_val (r_assign rfl) ?_
 refine c_nil (l' := [_,_,_,_,_,_,_,_,_,_,_,_,_,_,_,_,_,_,_,_,_,_,_,_,_,_,_,_,_,_,_,_,_,_,_,_,_,_,_,_,_,_,_,_,_,_,_,_,_,_,_,_,_,_,_,_,_,_,_,_,_,_,_,_,_,_,_,_,_,_,_,_,_,_,_,_,_,_,_,_,_,_,_,_,_,_,_,_,_,_,_,_,_,_,_,_,_,_,_,_,_,_,_,_,_,_,_,_,_,_,_,_,_,_,_,_,_,_,_,_,_,_,_,_,_,_,_,_,_,_,_,_,_,_,_,_,_,_,_,_,_,_,_,_,_,_,_,_,_,_,_,_,_,_,_,_,_]) rfl ?_
 refine c_seq ?_
 refine c_rseq (n := 157) ⟨rfl, rfl⟩ ?_
 refine s_call (r_call Try.call9 en) (awake23_spec _) ?_
 rintro v w ⟨rfl, HC⟩
 replace H := H.quiet HC
 refine s_val (r_not rfl) ?_
 refine c_nil (l' := [_,_,_,_,_,_,_,_,_,_,_,_,_,_,_,_,_,_,_,_,_,_,_,_,_,_,_,_,_,_,_,_,_,_,_,_,_,_,_,_,_,_,_,_,_,_,_,_,_,_,_,_,_,_,_,_,_,_,_,_,_,_,_,_,_,_,_,_,_,_,_,_,_,_,_,_,_,_,_,_,_,_,_,_,_,_,_,_,_,_,_,_,_,_,_,_,_,_,_,_,_,_,_,_,_,_,_,_,_,_,_,_,_,_,_,_,_,_,_,_,_,_,_,_,_,_,_,_,_,_,_,_,_,_,_,_,_,_,_,_,_,_,_,_,_,_,_,_,_,_,_,_,_,_,_,_,_]) rfl ?_
 refine c_iff rfl ?_
 refine wp_skip ?_
 refine x_thenNormal ?_
 refine c_seq ?_
 refine c_rseq (n := 157) ⟨rfl, rfl⟩ ?_
 refine s_val (r_loadn Try.isAgg27 Try.sizeOf27 rfl (H.at 0 rfl) (caC_td _ _ _ _ _ _ _) (caC_length _ _ _ _ _ _ _)) ?_
 refine s_call (r_call Try.call10 (ec rfl en)) (small3 a c cl seed ga gc ns _ (hq.st (H.sub (List.nil_sublist _)))) ?_
 rintro v w (⟨rfl, hs, HC⟩ | ⟨rfl, HC⟩)
 ·skip
  replace H := H.quiet HC
  obtain ⟨hs1, hs2, hs3⟩ := id hs
  refine s_val (r_eql rfl rfl) ?_
  refine c_nil (l' := [_,_,_,_,_,_,_,_,_,_,_,_,_,_,_,_,_,_,_,_,_,_,_,_,_,_,_,_,_,_,_,_,_,_,_,_,_,_,_,_,_,_,_,_,_,_,_,_,_,_,_,_,_,_,_,_,_,_,_,_,_,_,_,_,_,_,_,_,_,_,_,_,_,_,_,_,_,_,_,_,_,_,_,_,_,_,_,_,_,_,_,_,_,_,_,_,_,_,_,_,_,_,_,_,_,_,_,_,_,_,_,_,_,_,_,_,_,_,_,_,_,_,_,_,_,_,_,_,_,_,_,_,_,_,_,_,_,_,_,_,_,_,_,_,_,_,_,_,_,_,_,_,_,_,_,_,_]) rfl ?_
  refine c_if rfl (fun h33 => ?_) (fun h33 => ?_)
  ·skip
   exact absurd h33 (by decide)
  ·skip
   skip
   refine wp_skip ?_
   refine x_thenNormal ?_
   refine c_rseq (n := 157) ⟨rfl, rfl⟩ ?_
   refine s_val (r_loadn Try.isAgg27 Try.sizeOf27 rfl (H.at 0 rfl) (caC_td _ _ _ _ _ _ _) (caC_length _ _ _ _ _ _ _)) ?_
   refine s_call (r_call Try.call11 (ec rfl en)) (laid_spec a c cl seed ga gc ns hs _ (hq.st (H.sub (List.nil_sublist _)))) ?_
   rintro v w ⟨bt, xs, ak, ck, Nt, Nk, rfl, hxs, hT, _, HC⟩
   replace H : St w0 [] w (_ :: (Nk ++ Nt)) := (H.call0 HC).perm (List.perm_append_comm (l₁ := [_]) (l₂ := Nk ++ Nt))
   replace H : St w0 [] w (_ :: Nt) := H.sub (.cons_cons _ (List.sublist_append_right _ _))
   have hv : Valid xs := by rw [hxs]; exact tree0_valid _
   have hxl : xs.length ≤ 100000 := by have h := tree0_lenN (sl := litL) (sr := litR) (seed := seed) ns.reverse; rw [← hxs, List.length_reverse] at h; omega
   refine s_val (r_move rfl) ?_
   refine s_val (r_extract rfl rfl) ?_
   refine s_val (r_extract rfl rfl) ?_
   refine s_val (r_assign rfl) ?_
   refine s_val (r_assign rfl) ?_
   refine c_nil (l' := [_,_,_,_,_,_,_,_,_,_,_,_,_,_,_,_,_,_,_,_,_,_,_,_,_,_,_,_,_,_,_,_,_,_,_,_,_,_,_,_,_,_,_,_,_,_,_,_,_,_,_,_,_,_,_,_,_,_,_,_,_,_,_,_,_,_,_,_,_,_,_,_,_,_,_,_,_,_,_,_,_,_,_,_,_,_,_,_,_,_,_,_,_,_,_,_,_,_,_,_,_,_,_,_,_,_,_,_,_,_,_,_,_,_,_,_,_,_,_,_,_,_,_,_,_,_,_,_,_,_,_,_,_,_,_,_,_,_,_,_,_,_,_,_,_,_,_,_,_,_,_,_,_,_,_,_,_]) rfl ?_
   refine c_rseq (n := 157) ⟨rfl, rfl⟩ ?_
   refine s_val (r_fieldAddr (k := 0) Try.runUnderlying27 rfl Try.sizeOf22 (by decide) rfl rfl) ?_
   refine s_val (r_load1 Try.isAgg22 rfl (H.at 0 rfl) (caC_cl _ _ _ _ _ _ _)) ?_
   refine s_call (r_call Try.call13 (ec rfl en)) (get_mk _ _ _ _) ?_
   rintro v w ⟨g1, rfl, HC⟩
   replace H : St w0 [] w (_ :: _ :: _) := H.call0 HC
   refine s_val (r_assign rfl) ?_
   refine c_nil (l' := [_,_,_,_,_,_,_,_,_,_,_,_,_,_,_,_,_,_,_,_,_,_,_,_,_,_,_,_,_,_,_,_,_,_,_,_,_,_,_,_,_,_,_,_,_,_,_,_,_,_,_,_,_,_,_,_,_,_,_,_,_,_,_,_,_,_,_,_,_,_,_,_,_,_,_,_,_,_,_,_,_,_,_,_,_,_,_,_,_,_,_,_,_,_,_,_,_,_,_,_,_,_,_,_,_,_,_,_,_,_,_,_,_,_,_,_,_,_,_,_,_,_,_,_,_,_,_,_,_,_,_,_,_,_,_,_,_,_,_,_,_,_,_,_,_,_,_,_,_,_,_,_,_,_,_,_,_]) rfl ?_
   refine c_rseq (n := 157) ⟨rfl, rfl⟩ ?_
   refine s_val (r_buildS (zs := litC) (out := litC) Try.runUnderlying49 Try.zeroValue49 places49 pn rfl) ?_
   refine s_val (r_makeIface Try.runUnderlying49 (fun _ h => nomatch h) rfl) ?_
   refine s_val (r_move rfl) ?_
   refine s_val (r_move rfl) ?_
   refine s_val (r_move rfl) ?_
   refine s_call (r_call Try.call14 (ec rfl (ec rfl (ec rfl (ec rfl en))))) (read_spec g1 cl num (by omega) (fun y hy => by have := hs3 y hy; omega) hq.ref bt xs Nt hxl hv _ (hq.get H (H.at 0 rfl)) hT (H.ownsM (.cons _ (.cons _ (List.Sublist.refl _))))) ?_
   rintro v w ⟨rfl, HC⟩
   replace H := H.quiet HC
   refine s_val (r_move rfl) ?_
   refine s_val (r_extract rfl rfl) ?_
   refine s_val (r_extract rfl rfl) ?_
   refine s_new (m_alloc (cs := (kC (By.zero 32))) H Try.zeroValue44 rfl) ?_
   intro w b12 H
   refine s_st (m_storen H 0 32 Try.sizeOf44 rfl rfl (by first | exact (kC_length _) | exact (hC_length _) | exact (ceC_length _) | exact (ptC_length _ _ _ _) | exact (plV_length _ _ _) | exact litC_length) (by first | exact (kC_one _) | exact (hC_one _) | exact (ceC_one _) | exact (ptC_one _ _ _ _) | exact (plV_one _ _ _) | exact litC_one) rfl (by first | exact (by rw [kC_length]; omega) | exact (by rw [hC_length]; omega)) (by first | exact (kC_sp _ _) | exact (hC_sp _ _) | exact (kC_sp _ _) | exact (ceC_sp _ _))) (L' := (_ :: _ :: _ :: _)) rfl ?_
   intro w H
   refine s_val (r_assign rfl) ?_
   refine c_nil (l' := [_,_,_,_,_,_,_,_,_,_,_,_,_,_,_,_,_,_,_,_,_,_,_,_,_,_,_,_,_,_,_,_,_,_,_,_,_,_,_,_,_,_,_,_,_,_,_,_,_,_,_,_,_,_,_,_,_,_,_,_,_,_,_,_,_,_,_,_,_,_,_,_,_,_,_,_,_,_,_,_,_,_,_,_,_,_,_,_,_,_,_,_,_,_,_,_,_,_,_,_,_,_,_,_,_,_,_,_,_,_,_,_,_,_,_,_,_,_,_,_,_,_,_,_,_,_,_,_,_,_,_,_,_,_,_,_,_,_,_,_,_,_,_,_,_,_,_,_,_,_,_,_,_,_,_,_,_]) rfl ?_
   refine c_rseq (n := 157) ⟨rfl, rfl⟩ ?_
   refine s_val (r_buildS (zs := litC) (out := litC) Try.runUnderlying49 Try.zeroValue49 places49 pn rfl) ?_
   refine s_val (r_makeIface Try.runUnderlying49 (fun _ h => nomatch h) rfl) ?_
   refine s_val (r_move rfl) ?_
   refine s_val (r_move rfl) ?_
   refine s_val (r_move rfl) ?_
   refine s_call (r_call Try.call14 (ec rfl (ec rfl (ec rfl (ec rfl en))))) (read_spec g1 cl other (by omega) (fun y hy => by have := hs3 y hy; omega) hq.ref bt xs Nt hxl hv _ (hq.get H (H.at 1 rfl)) hT (H.ownsM (.cons _ (.cons _ (.cons _ (List.Sublist.refl _)))))) ?_
   rintro v w ⟨rfl, HC⟩
   replace H := H.quiet HC
   refine s_val (r_move rfl) ?_
   refine s_val (r_extract rfl rfl) ?_
   refine s_val (r_extract rfl rfl) ?_
   refine s_new (m_alloc (cs := (kC (By.zero 32))) H Try.zeroValue44 rfl) ?_
   intro w b14 H
   refine s_st (m_storen H 0 32 Try.sizeOf44 rfl rfl (by first | exact (kC_length _) | exact (hC_length _) | exact (ceC_length _) | exact (ptC_length _ _ _ _) | exact (plV_length _ _ _) | exact litC_length) (by first | exact (kC_one _) | exact (hC_one _) | exact (ceC_one _) | exact (ptC_one _ _ _ _) | exact (plV_one _ _ _) | exact litC_one) rfl (by first | exact (by rw [kC_length]; omega) | exact (by rw [hC_length]; omega)) (by first | exact (kC_sp _ _) | exact (hC_sp _ _) | exact (kC_sp _ _) | exact (ceC_sp _ _))) (L' := (_ :: _ :: _ :: _ :: _)) rfl ?_
   intro w H
   refine s_val (r_assign rfl) ?_
   refine c_nil (l' := [_,_,_,_,_,_,_,_,_,_,_,_,_,_,_,_,_,_,_,_,_,_,_,_,_,_,_,_,_,_,_,_,_,_,_,_,_,_,_,_,_,_,_,_,_,_,_,_,_,_,_,_,_,_,_,_,_,_,_,_,_,_,_,_,_,_,_,_,_,_,_,_,_,_,_,_,_,_,_,_,_,_,_,_,_,_,_,_,_,_,_,_,_,_,_,_,_,_,_,_,_,_,_,_,_,_,_,_,_,_,_,_,_,_,_,_,_,_,_,_,_,_,_,_,_,_,_,_,_,_,_,_,_,_,_,_,_,_,_,_,_,_,_,_,_,_,_,_,_,_,_,_,_,_,_,_,_]) rfl ?_
   refine c_seq ?_
   refine c_rseq (n := 157) ⟨rfl, rfl⟩ ?_
   refine s_val (r_move rfl) ?_
   refine s_val (r_neq rfl rfl) ?_
   refine c_nil (l' := [_,_,_,_,_,_,_,_,_,_,_,_,_,_,_,_,_,_,_,_,_,_,_,_,_,_,_,_,_,_,_,_,_,_,_,_,_,_,_,_,_,_,_,_,_,_,_,_,_,_,_,_,_,_,_,_,_,_,_,_,_,_,_,_,_,_,_,_,_,_,_,_,_,_,_,_,_,_,_,_,_,_,_,_,_,_,_,_,_,_,_,_,_,_,_,_,_,_,_,_,_,_,_,_,_,_,_,_,_,_,_,_,_,_,_,_,_,_,_,_,_,_,_,_,_,_,_,_,_,_,_,_,_,_,_,_,_,_,_,_,_,_,_,_,_,_,_,_,_,_,_,_,_,_,_,_,_]) rfl ?_
   refine c_if rfl (fun h61 => ?_) (fun h61 => ?_)
   ·skip
    refine c_rseq (n := 157) ⟨rfl, rfl⟩ ?_
    refine s_val (r_assign rfl) ?_
    refine c_nil (l' := [_,_,_,_,_,_,_,_,_,_,_,_,_,_,_,_,_,_,_,_,_,_,_,_,_,_,_,_,_,_,_,_,_,_,_,_,_,_,_,_,_,_,_,_,_,_,_,_,_,_,_,_,_,_,_,_,_,_,_,_,_,_,_,_,_,_,_,_,_,_,_,_,_,_,_,_,_,_,_,_,_,_,_,_,_,_,_,_,_,_,_,_,_,_,_,_,_,_,_,_,_,_,_,_,_,_,_,_,_,_,_,_,_,_,_,_,_,_,_,_,_,_,_,_,_,_,_,_,_,_,_,_,_,_,_,_,_,_,_,_,_,_,_,_,_,_,_,_,_,_,_,_,_,_,_,_,_]) rfl ?_
    refine wp_ret (x_thenRet ?_)
    refine e_ret (res1 rfl rfl) ⟨_, rfl, ?_⟩
    exact ⟨rfl, (H.sub (List.nil_sublist _))⟩
   ·skip
    have hz : (readF (findP (cl.map ceP)) (hasH xs) (keyH xs) num).2 = 0 := Decidable.not_not.1 h61
    refine wp_skip ?_
    refine x_thenNormal ?_
    refine c_rseq (n := 157) ⟨rfl, rfl⟩ ?_
    refine s_val (r_assign rfl) ?_
    refine c_nil (l' := [_,_,_,_,_,_,_,_,_,_,_,_,_,_,_,_,_,_,_,_,_,_,_,_,_,_,_,_,_,_,_,_,_,_,_,_,_,_,_,_,_,_,_,_,_,_,_,_,_,_,_,_,_,_,_,_,_,_,_,_,_,_,_,_,_,_,_,_,_,_,_,_,_,_,_,_,_,_,_,_,_,_,_,_,_,_,_,_,_,_,_,_,_,_,_,_,_,_,_,_,_,_,_,_,_,_,_,_,_,_,_,_,_,_,_,_,_,_,_,_,_,_,_,_,_,_,_,_,_,_,_,_,_,_,_,_,_,_,_,_,_,_,_,_,_,_,_,_,_,_,_,_,_,_,_,_,_]) rfl ?_
    refine c_seq ?_
    refine c_rseq (n := 157) ⟨rfl, rfl⟩ ?_
    refine s_val (r_move rfl) ?_
    refine s_new (m_bslice1 (vs := [.int .u64 num]) H Try.runUnderlying25 Try.sizeOf28 Try.zeroValue28 (by omega) (by omega) rfl rfl rfl) ?_
    intro w b63 H
    refine s_val (r_move rfl) ?_
    refine s_val (r_move rfl) ?_
    refine s_call (r_call Try.call12 (ec rfl (ec rfl en))) (needs_spec g1 cl num (by omega) (fun y hy => by have := hs3 y hy; omega) _ (hq.get H (H.at 3 rfl))) ?_
    rintro v w ⟨a66, c66, N66, rfl, hN66, HC⟩
    replace H := H.call0 HC
    have hR63 : RowN 1 28 (uC [num]) [num].length (some ⟨b63, 0, none⟩) 1 [(b63, Obj.cells (uC [num] ++ []).toArray 28 (0, 0))] := RowN.mk (sp := []) rfl (Nat.le_refl _) (Nat.le_refl _)
    have hnl := need_len (g := (findP (cl.map ceP))) 4 num
    have hn1l : [num].length = 1 := rfl
    replace H : St w0 [] w ((N66 ++ (_ :: _ :: _ :: _ :: Nt)) ++ [_]) := H.mvEnd
    refine s_any (m_append_row0 (L1 := N66 ++ (_ :: _ :: _ :: _ :: Nt)) (N := _) H hR63 Try.runUnderlying25 Try.runUnderlying25 (fun _ h => nomatch h) Try.sizeOf28 Try.zeroValue28 rfl Try.typeInfo28 (by rw [bytes28]; omega) (by rw [bytes28]; omega) (ec rfl (ec rfl en)) (URow.src (hN66.urowM H (fun p hp => List.mem_append_left _ (List.mem_append_left _ hp))) _)) ?_
    rintro v w ⟨a5, c5, N5, rfl, hN5, H⟩
    obtain ⟨ms, hms⟩ : ∃ z, z = num :: (needF (findP (cl.map ceP)) 4 num) := ⟨_, rfl⟩
    have hml : ms.length = 1 + (needF (findP (cl.map ceP)) 4 num).length := by rw [hms, List.length_cons, Nat.add_comm]
    have hN6 : RowN 1 28 (uC ms) ms.length a5 c5 N5 := by rw [hms, List.length_cons, Nat.add_comm]; exact hN5
    rw [show ([num].length + (needF (findP (cl.map ceP)) 4 num).length : Nat) = ms.length from hml.symm]
    obtain ⟨bm, spm, rfl, hcm, rfl, hcm2⟩ := RowN.some hN6 (by omega)
    replace H : St w0 [] w (_ :: _ :: _ :: _ :: _ :: Nt) := (H.sub (List.Sublist.append_right (List.sublist_append_right _ _) _)).perm (List.perm_append_comm (l₁ := [_]) (l₂ := _ :: _ :: _ :: _ :: Nt))
    refine s_val (r_lens Try.runUnderlying25 (ec rfl en)) ?_
    refine s_val (r_move rfl) ?_
    refine c_nil (l' := [_,_,_,_,_,_,_,_,_,_,_,_,_,_,_,_,_,_,_,_,_,_,_,_,_,_,_,_,_,_,_,_,_,_,_,_,_,_,_,_,_,_,_,_,_,_,_,_,_,_,_,_,_,_,_,_,_,_,_,_,_,_,_,_,_,_,_,_,_,_,_,_,_,_,_,_,_,_,_,_,_,_,_,_,_,_,_,_,_,_,_,_,_,_,_,_,_,_,_,_,_,_,_,_,_,_,_,_,_,_,_,_,_,_,_,_,_,_,_,_,_,_,_,_,_,_,_,_,_,_,_,_,_,_,_,_,_,_,_,_,_,_,_,_,_,_,_,_,_,_,_,_,_,_,_,_,_]) rfl ?_
    refine wp_block ?_
    refine c_loop (fun (l0 : List Value) (i : Nat) (l : List Value) (w : World) => ∃ (u18 u19 u20 u70 u71 u72 u73 u74 u75 u76 u77 u78 u79 u80 u81 u82 u83 u84 u85 u86 : Value) (Nw : List (Nat × Obj)) (a16 : Option Addr) (c16 : Nat) (ws : List Int), l = ovr l0 [N_, N_, N_, N_, N_, N_, N_, N_, N_, N_, N_, N_, N_, N_, N_, N_, Y_ (.slice a16 ws.length c16), N_, Y_ u18, Y_ u19, Y_ u20, N_, N_, N_, N_, N_, N_, N_, N_, N_, N_, N_, N_, N_, N_, N_, N_, N_, N_, N_, N_, N_, N_, N_, N_, N_, N_, N_, N_, N_, N_, N_, N_, N_, N_, N_, N_, N_, N_, N_, N_, N_, N_, N_, N_, N_, N_, N_, N_, Y_ (.int .i64 i), Y_ u70, Y_ u71, Y_ u72, Y_ u73, Y_ u74, Y_ u75, Y_ u76, Y_ u77, Y_ u78, Y_ u79, Y_ u80, Y_ u81, Y_ u82, Y_ u83, Y_ u84, Y_ u85, Y_ u86] ∧ i ≤ ms.length ∧ ws = wayN (findP (cl.map ceP)) (ms.take i) ∧ RowN 1 28 (uC ws) ws.length a16 c16 Nw ∧ St w0 [] w ((bm, .cells (uC ms ++ spm).toArray 28 (0, 0)) :: (b14, .cells (kC (readF (findP (cl.map ceP)) (hasH xs) (keyH xs) other).1).toArray 44 (0, 0)) :: (b12, .cells (kC (readF (findP (cl.map ceP)) (hasH xs) (keyH xs) num).1).toArray 44 (0, 0)) :: (g1, .cells [.slice a cl.length c].toArray 22 (0, 0)) :: (b4, .cells (caC a c cl seed ga gc ns).toArray 27 (0, 0)) :: Nw ++ Nt)) (fun (i : Nat) => ms.length - i) 0 ⟨_,_,_,_,_,_,_,_,_,_,_,_,_,_,_,_,_,_,_,_, [], none, 0, [], rfl, Nat.zero_le _, rfl, RowN.nil, H⟩ ?_
    intro i l w ⟨u18, u19, u20, u70, u71, u72, u73, u74, u75, u76, u77, u78, u79, u80, u81, u82, u83, u84, u85, u86, Nw, a16, c16, ws, hl, hi, hws, hR, H⟩
    obtain rfl := hl.trans (rfl : _ = [_,_,_,_,_,_,_,_,_,_,_,_,_,_,_,_,_,_,_,_,_,_,_,_,_,_,_,_,_,_,_,_,_,_,_,_,_,_,_,_,_,_,_,_,_,_,_,_,_,_,_,_,_,_,_,_,_,_,_,_,_,_,_,_,_,_,_,_,_,_,_,_,_,_,_,_,_,_,_,_,_,_,_,_,_,_,_,_,_,_,_,_,_,_,_,_,_,_,_,_,_,_,_,_,_,_,_,_,_,_,_,_,_,_,_,_,_,_,_,_,_,_,_,_,_,_,_,_,_,_,_,_,_,_,_,_,_,_,_,_,_,_,_,_,_,_,_,_,_,_,_,_,_,_,_,_,_])
    clear hl
    refine c_rseq (n := 157) ⟨rfl, rfl⟩ ?_
    refine s_val (r_lss rfl rfl) ?_
    refine c_nil (l' := [_,_,_,_,_,_,_,_,_,_,_,_,_,_,_,_,_,_,_,_,_,_,_,_,_,_,_,_,_,_,_,_,_,_,_,_,_,_,_,_,_,_,_,_,_,_,_,_,_,_,_,_,_,_,_,_,_,_,_,_,_,_,_,_,_,_,_,_,_,_,_,_,_,_,_,_,_,_,_,_,_,_,_,_,_,_,_,_,_,_,_,_,_,_,_,_,_,_,_,_,_,_,_,_,_,_,_,_,_,_,_,_,_,_,_,_,_,_,_,_,_,_,_,_,_,_,_,_,_,_,_,_,_,_,_,_,_,_,_,_,_,_,_,_,_,_,_,_,_,_,_,_,_,_,_,_,_]) rfl ?_
    refine c_seq ?_
    refine c_if rfl (fun h70 => ?_) (fun h70 => ?_)
    ·skip
     refine wp_skip ?_
     refine x_thenNormal ?_
     refine c_seq ?_
     refine wp_block ?_
     refine c_rseq (n := 157) ⟨rfl, rfl⟩ ?_
     refine s_val (r_indexAddrS Try.runUnderlying25 Try.sizeOf28 rfl rfl (by omega) (by omega)) ?_
     refine s_val (r_load1 Try.isAgg28 rfl (H.at 0 rfl) (u_get0 (i := i) (by omega) (by omega))) ?_
     refine s_val (r_assign rfl) ?_
     refine c_nil (l' := [_,_,_,_,_,_,_,_,_,_,_,_,_,_,_,_,_,_,_,_,_,_,_,_,_,_,_,_,_,_,_,_,_,_,_,_,_,_,_,_,_,_,_,_,_,_,_,_,_,_,_,_,_,_,_,_,_,_,_,_,_,_,_,_,_,_,_,_,_,_,_,_,_,_,_,_,_,_,_,_,_,_,_,_,_,_,_,_,_,_,_,_,_,_,_,_,_,_,_,_,_,_,_,_,_,_,_,_,_,_,_,_,_,_,_,_,_,_,_,_,_,_,_,_,_,_,_,_,_,_,_,_,_,_,_,_,_,_,_,_,_,_,_,_,_,_,_,_,_,_,_,_,_,_,_,_,_]) rfl ?_
     refine c_rseq (n := 157) ⟨rfl, rfl⟩ ?_
     refine s_val (r_move rfl) ?_
     refine s_val (r_move rfl) ?_
     refine s_call (r_callv Try.call27 rfl (ec rfl en) rfl) (getf_spec g1 cl (ms.getD i 0) (by omega) (fun y hy => by have := hs3 y hy; omega) _ (hq.get H (H.at 3 rfl))) ?_
     rintro v w (⟨y, No, hfd, rfl, hNo, HC⟩ | ⟨hfd, rfl, HC⟩)
     ·skip
      replace H : St w0 [] w (_ :: _ :: _ :: _ :: _ :: (Nw ++ Nt)) := (H.call0 HC).sub (List.sublist_append_right No _)
      have hkd : kdF (findP (cl.map ceP)) (ms.getD i 0) = y.kind := kdF_some hfd
      refine s_val (r_move rfl) ?_
      refine s_val (r_extract rfl rfl) ?_
      refine s_val (r_extract rfl rfl) ?_
      refine s_new (m_alloc (cs := (ceC ce0)) H Try.zeroValue43 rfl) ?_
      intro w b19 H
      refine s_st (m_storen H 0 11 Try.sizeOf43 rfl rfl (by first | exact (kC_length _) | exact (hC_length _) | exact (ceC_length _) | exact (ptC_length _ _ _ _) | exact (plV_length _ _ _) | exact litC_length) (by first | exact (kC_one _) | exact (hC_one _) | exact (ceC_one _) | exact (ptC_one _ _ _ _) | exact (plV_one _ _ _) | exact litC_one) rfl (by show 0 + 11 ≤ 11; omega) (ceC_sp _ _)) (L' := (_ :: _ :: _ :: _ :: _ :: _ :: _)) rfl ?_
      intro w H
      refine s_val (r_assign rfl) ?_
      refine c_nil (l' := [_,_,_,_,_,_,_,_,_,_,_,_,_,_,_,_,_,_,_,_,_,_,_,_,_,_,_,_,_,_,_,_,_,_,_,_,_,_,_,_,_,_,_,_,_,_,_,_,_,_,_,_,_,_,_,_,_,_,_,_,_,_,_,_,_,_,_,_,_,_,_,_,_,_,_,_,_,_,_,_,_,_,_,_,_,_,_,_,_,_,_,_,_,_,_,_,_,_,_,_,_,_,_,_,_,_,_,_,_,_,_,_,_,_,_,_,_,_,_,_,_,_,_,_,_,_,_,_,_,_,_,_,_,_,_,_,_,_,_,_,_,_,_,_,_,_,_,_,_,_,_,_,_,_,_,_,_]) rfl ?_
      refine c_rseq (n := 157) ⟨rfl, rfl⟩ ?_
      refine s_val (r_fieldAddr (k := 0) Try.runUnderlying43 rfl Try.sizeOf3 (by decide) rfl rfl) ?_
      refine s_val (r_load1 Try.isAgg3 rfl (H.at 0 rfl) (rfl : _ = some (Value.int .i64 y.kind))) ?_
      refine s_val (r_neq rfl rfl) ?_
      refine c_nil (l' := [_,_,_,_,_,_,_,_,_,_,_,_,_,_,_,_,_,_,_,_,_,_,_,_,_,_,_,_,_,_,_,_,_,_,_,_,_,_,_,_,_,_,_,_,_,_,_,_,_,_,_,_,_,_,_,_,_,_,_,_,_,_,_,_,_,_,_,_,_,_,_,_,_,_,_,_,_,_,_,_,_,_,_,_,_,_,_,_,_,_,_,_,_,_,_,_,_,_,_,_,_,_,_,_,_,_,_,_,_,_,_,_,_,_,_,_,_,_,_,_,_,_,_,_,_,_,_,_,_,_,_,_,_,_,_,_,_,_,_,_,_,_,_,_,_,_,_,_,_,_,_,_,_,_,_,_,_]) rfl ?_
      refine c_if rfl (fun h81 => ?_) (fun h81 => ?_)
      ·skip
       refine c_region (n := 157) ⟨rfl, rfl⟩ ?_
       refine s_val (r_move rfl) ?_
       refine s_val (r_move rfl) ?_
       refine s_new (m_bslice1 (vs := [.int .u64 (ms.getD i 0)]) H Try.runUnderlying25 Try.sizeOf28 Try.zeroValue28 (by omega) (by omega) rfl rfl rfl) ?_
       intro w b84 H
       replace H := St.rot3 (A := [_,_,_,_,_,_,_]) H
       have hwl : ws.length ≤ 5 := by rw [hws]; exact Nat.le_trans (wayN_len _ _) (by rw [List.length_take]; omega)
       refine s_any (m_append_row0 (L1 := [_,_,_,_,_,_,_] ++ Nt) (N := Nw) H hR Try.runUnderlying25 Try.runUnderlying25 (fun _ h => nomatch h) Try.sizeOf28 Try.zeroValue28 rfl Try.typeInfo28 (by rw [bytes28]; omega) (by rw [bytes28]; omega) (ec rfl (ec rfl en)) (Src.slice (vs := [.int .u64 (ms.getD i 0)]) (H.at 0 rfl) rfl rfl (by intro v hv; rw [List.mem_singleton.1 hv]; rfl))) ?_
       rintro v w ⟨a9, c9, N9, rfl, hN9, H⟩
       replace H : St w0 [] w (_ :: _ :: _ :: _ :: _ :: _ :: _ :: (N9 ++ Nt)) := St.unrot3 (A := [_,_,_,_,_,_,_]) (R := Nt) H
       obtain ⟨ws2, hf2⟩ : ∃ z, z = ws ++ [ms.getD i 0] := ⟨_, rfl⟩
       have hll : ws2.length = ws.length + 1 := by rw [hf2, List.length_append]; rfl
       rw [← hll] at hN9 ⊢
       have hN7 : RowN 1 28 (uC ws2) ws2.length a9 c9 N9 := by
        have e : uC ws2 = uC ws ++ [.int .u64 (ms.getD i 0)] := by rw [hf2]; simp [uC]
        rw [e]; exact hN9
       refine s_val (r_assign rfl) ?_
       refine c_nil0 (l' := [_,_,_,_,_,_,_,_,_,_,_,_,_,_,_,_,_,_,_,_,_,_,_,_,_,_,_,_,_,_,_,_,_,_,_,_,_,_,_,_,_,_,_,_,_,_,_,_,_,_,_,_,_,_,_,_,_,_,_,_,_,_,_,_,_,_,_,_,_,_,_,_,_,_,_,_,_,_,_,_,_,_,_,_,_,_,_,_,_,_,_,_,_,_,_,_,_,_,_,_,_,_,_,_,_,_,_,_,_,_,_,_,_,_,_,_,_,_,_,_,_,_,_,_,_,_,_,_,_,_,_,_,_,_,_,_,_,_,_,_,_,_,_,_,_,_,_,_,_,_,_,_,_,_,_,_,_]) rfl ?_
       refine x_blockNormal ?_
       refine x_thenNormal ?_
       refine c_region (n := 157) ⟨rfl, rfl⟩ ?_
       refine s_val (r_add rfl rfl (w_i64 (by omega) (by omega))) ?_
       refine s_val (r_move rfl) ?_
       refine c_nil0 (l' := [_,_,_,_,_,_,_,_,_,_,_,_,_,_,_,_,_,_,_,_,_,_,_,_,_,_,_,_,_,_,_,_,_,_,_,_,_,_,_,_,_,_,_,_,_,_,_,_,_,_,_,_,_,_,_,_,_,_,_,_,_,_,_,_,_,_,_,_,_,_,_,_,_,_,_,_,_,_,_,_,_,_,_,_,_,_,_,_,_,_,_,_,_,_,_,_,_,_,_,_,_,_,_,_,_,_,_,_,_,_,_,_,_,_,_,_,_,_,_,_,_,_,_,_,_,_,_,_,_,_,_,_,_,_,_,_,_,_,_,_,_,_,_,_,_,_,_,_,_,_,_,_,_,_,_,_,_]) rfl ?_
       exact ⟨i + 1, _, rfl, ⟨_,_,_,_,_,_,_,_,_,_,_,_,_,_,_,_,_,_,_,_, N9, a9, c9, ws2, rfl, by omega, (by rw [hf2, hws, wayN_on (by omega), if_pos (by rw [hkd]; exact h81)]), hN7, (H.sub (.cons _ (.cons _ (List.Sublist.refl _))))⟩, by omega⟩
      ·skip
       refine wp_skip ?_
       refine x_blockNormal ?_
       refine x_thenNormal ?_
       refine c_region (n := 157) ⟨rfl, rfl⟩ ?_
       refine s_val (r_add rfl rfl (w_i64 (by omega) (by omega))) ?_
       refine s_val (r_move rfl) ?_
       refine c_nil0 (l' := [_,_,_,_,_,_,_,_,_,_,_,_,_,_,_,_,_,_,_,_,_,_,_,_,_,_,_,_,_,_,_,_,_,_,_,_,_,_,_,_,_,_,_,_,_,_,_,_,_,_,_,_,_,_,_,_,_,_,_,_,_,_,_,_,_,_,_,_,_,_,_,_,_,_,_,_,_,_,_,_,_,_,_,_,_,_,_,_,_,_,_,_,_,_,_,_,_,_,_,_,_,_,_,_,_,_,_,_,_,_,_,_,_,_,_,_,_,_,_,_,_,_,_,_,_,_,_,_,_,_,_,_,_,_,_,_,_,_,_,_,_,_,_,_,_,_,_,_,_,_,_,_,_,_,_,_,_]) rfl ?_
       exact ⟨i + 1, _, rfl, ⟨_,_,_,_,_,_,_,_,_,_,_,_,_,_,_,_,_,_,_,_, Nw, a16, c16, ws, rfl, by omega, (by rw [hws, wayN_on (by omega), if_neg (by rw [hkd]; exact h81), List.append_nil]), hR, (H.sub (.cons _ (List.Sublist.refl _)))⟩, by omega⟩
     ·skip
      replace H := H.quiet HC
      obtain ⟨y, hy0⟩ : ∃ y, y = ce0 := ⟨_, rfl⟩
      rw [← hy0]
      have hkd : kdF (findP (cl.map ceP)) (ms.getD i 0) = y.kind := by rw [kdF_none hfd, hy0]; rfl
      refine s_val (r_move rfl) ?_
      refine s_val (r_extract rfl rfl) ?_
      refine s_val (r_extract rfl rfl) ?_
      refine s_new (m_alloc (cs := (ceC ce0)) H Try.zeroValue43 rfl) ?_
      intro w b19 H
      refine s_st (m_storen H 0 11 Try.sizeOf43 rfl rfl (by first | exact (kC_length _) | exact (hC_length _) | exact (ceC_length _) | exact (ptC_length _ _ _ _) | exact (plV_length _ _ _) | exact litC_length) (by first | exact (kC_one _) | exact (hC_one _) | exact (ceC_one _) | exact (ptC_one _ _ _ _) | exact (plV_one _ _ _) | exact litC_one) rfl (by show 0 + 11 ≤ 11; omega) (ceC_sp _ _)) (L' := (_ :: _ :: _ :: _ :: _ :: _ :: _)) rfl ?_
      intro w H
      refine s_val (r_assign rfl) ?_
      refine c_nil (l' := [_,_,_,_,_,_,_,_,_,_,_,_,_,_,_,_,_,_,_,_,_,_,_,_,_,_,_,_,_,_,_,_,_,_,_,_,_,_,_,_,_,_,_,_,_,_,_,_,_,_,_,_,_,_,_,_,_,_,_,_,_,_,_,_,_,_,_,_,_,_,_,_,_,_,_,_,_,_,_,_,_,_,_,_,_,_,_,_,_,_,_,_,_,_,_,_,_,_,_,_,_,_,_,_,_,_,_,_,_,_,_,_,_,_,_,_,_,_,_,_,_,_,_,_,_,_,_,_,_,_,_,_,_,_,_,_,_,_,_,_,_,_,_,_,_,_,_,_,_,_,_,_,_,_,_,_,_]) rfl ?_
      refine c_rseq (n := 157) ⟨rfl, rfl⟩ ?_
      refine s_val (r_fieldAddr (k := 0) Try.runUnderlying43 rfl Try.sizeOf3 (by decide) rfl rfl) ?_
      refine s_val (r_load1 Try.isAgg3 rfl (H.at 0 rfl) (rfl : _ = some (Value.int .i64 y.kind))) ?_
      refine s_val (r_neq rfl rfl) ?_
      refine c_nil (l' := [_,_,_,_,_,_,_,_,_,_,_,_,_,_,_,_,_,_,_,_,_,_,_,_,_,_,_,_,_,_,_,_,_,_,_,_,_,_,_,_,_,_,_,_,_,_,_,_,_,_,_,_,_,_,_,_,_,_,_,_,_,_,_,_,_,_,_,_,_,_,_,_,_,_,_,_,_,_,_,_,_,_,_,_,_,_,_,_,_,_,_,_,_,_,_,_,_,_,_,_,_,_,_,_,_,_,_,_,_,_,_,_,_,_,_,_,_,_,_,_,_,_,_,_,_,_,_,_,_,_,_,_,_,_,_,_,_,_,_,_,_,_,_,_,_,_,_,_,_,_,_,_,_,_,_,_,_]) rfl ?_
      refine c_if rfl (fun h81 => ?_) (fun h81 => ?_)
      ·skip
       refine c_region (n := 157) ⟨rfl, rfl⟩ ?_
       refine s_val (r_move rfl) ?_
       refine s_val (r_move rfl) ?_
       refine s_new (m_bslice1 (vs := [.int .u64 (ms.getD i 0)]) H Try.runUnderlying25 Try.sizeOf28 Try.zeroValue28 (by omega) (by omega) rfl rfl rfl) ?_
       intro w b84 H
       replace H := St.rot3 (A := [_,_,_,_,_,_,_]) H
       have hwl : ws.length ≤ 5 := by rw [hws]; exact Nat.le_trans (wayN_len _ _) (by rw [List.length_take]; omega)
       refine s_any (m_append_row0 (L1 := [_,_,_,_,_,_,_] ++ Nt) (N := Nw) H hR Try.runUnderlying25 Try.runUnderlying25 (fun _ h => nomatch h) Try.sizeOf28 Try.zeroValue28 rfl Try.typeInfo28 (by rw [bytes28]; omega) (by rw [bytes28]; omega) (ec rfl (ec rfl en)) (Src.slice (vs := [.int .u64 (ms.getD i 0)]) (H.at 0 rfl) rfl rfl (by intro v hv; rw [List.mem_singleton.1 hv]; rfl))) ?_
       rintro v w ⟨a9, c9, N9, rfl, hN9, H⟩
       replace H : St w0 [] w (_ :: _ :: _ :: _ :: _ :: _ :: _ :: (N9 ++ Nt)) := St.unrot3 (A := [_,_,_,_,_,_,_]) (R := Nt) H
       obtain ⟨ws2, hf2⟩ : ∃ z, z = ws ++ [ms.getD i 0] := ⟨_, rfl⟩
       have hll : ws2.length = ws.length + 1 := by rw [hf2, List.length_append]; rfl
       rw [← hll] at hN9 ⊢
       have hN7 : RowN 1 28 (uC ws2) ws2.length a9 c9 N9 := by
        have e : uC ws2 = uC ws ++ [.int .u64 (ms.getD i 0)] := by rw [hf2]; simp [uC]
        rw [e]; exact hN9
       refine s_val (r_assign rfl) ?_
       refine c_nil0 (l' := [_,_,_,_,_,_,_,_,_,_,_,_,_,_,_,_,_,_,_,_,_,_,_,_,_,_,_,_,_,_,_,_,_,_,_,_,_,_,_,_,_,_,_,_,_,_,_,_,_,_,_,_,_,_,_,_,_,_,_,_,_,_,_,_,_,_,_,_,_,_,_,_,_,_,_,_,_,_,_,_,_,_,_,_,_,_,_,_,_,_,_,_,_,_,_,_,_,_,_,_,_,_,_,_,_,_,_,_,_,_,_,_,_,_,_,_,_,_,_,_,_,_,_,_,_,_,_,_,_,_,_,_,_,_,_,_,_,_,_,_,_,_,_,_,_,_,_,_,_,_,_,_,_,_,_,_,_]) rfl ?_
       refine x_blockNormal ?_
       refine x_thenNormal ?_
       refine c_region (n := 157) ⟨rfl, rfl⟩ ?_
       refine s_val (r_add rfl rfl (w_i64 (by omega) (by omega))) ?_
       refine s_val (r_move rfl) ?_
       refine c_nil0 (l' := [_,_,_,_,_,_,_,_,_,_,_,_,_,_,_,_,_,_,_,_,_,_,_,_,_,_,_,_,_,_,_,_,_,_,_,_,_,_,_,_,_,_,_,_,_,_,_,_,_,_,_,_,_,_,_,_,_,_,_,_,_,_,_,_,_,_,_,_,_,_,_,_,_,_,_,_,_,_,_,_,_,_,_,_,_,_,_,_,_,_,_,_,_,_,_,_,_,_,_,_,_,_,_,_,_,_,_,_,_,_,_,_,_,_,_,_,_,_,_,_,_,_,_,_,_,_,_,_,_,_,_,_,_,_,_,_,_,_,_,_,_,_,_,_,_,_,_,_,_,_,_,_,_,_,_,_,_]) rfl ?_
       exact ⟨i + 1, _, rfl, ⟨_,_,_,_,_,_,_,_,_,_,_,_,_,_,_,_,_,_,_,_, N9, a9, c9, ws2, rfl, by omega, (by rw [hf2, hws, wayN_on (by omega), if_pos (by rw [hkd]; exact h81)]), hN7, (H.sub (.cons _ (.cons _ (List.Sublist.refl _))))⟩, by omega⟩
      ·skip
       refine wp_skip ?_
       refine x_blockNormal ?_
       refine x_thenNormal ?_
       refine c_region (n := 157) ⟨rfl, rfl⟩ ?_
       refine s_val (r_add rfl rfl (w_i64 (by omega) (by omega))) ?_
       refine s_val (r_move rfl) ?_
       refine c_nil0 (l' := [_,_,_,_,_,_,_,_,_,_,_,_,_,_,_,_,_,_,_,_,_,_,_,_,_,_,_,_,_,_,_,_,_,_,_,_,_,_,_,_,_,_,_,_,_,_,_,_,_,_,_,_,_,_,_,_,_,_,_,_,_,_,_,_,_,_,_,_,_,_,_,_,_,_,_,_,_,_,_,_,_,_,_,_,_,_,_,_,_,_,_,_,_,_,_,_,_,_,_,_,_,_,_,_,_,_,_,_,_,_,_,_,_,_,_,_,_,_,_,_,_,_,_,_,_,_,_,_,_,_,_,_,_,_,_,_,_,_,_,_,_,_,_,_,_,_,_,_,_,_,_,_,_,_,_,_,_]) rfl ?_
       exact ⟨i + 1, _, rfl, ⟨_,_,_,_,_,_,_,_,_,_,_,_,_,_,_,_,_,_,_,_, Nw, a16, c16, ws, rfl, by omega, (by rw [hws, wayN_on (by omega), if_neg (by rw [hkd]; exact h81), List.append_nil]), hR, (H.sub (.cons _ (List.Sublist.refl _)))⟩, by omega⟩
    ·skip
     obtain rfl : i = ms.length := by omega
     rw [List.take_length, hms] at hws
     have hne : ws ≠ [] := by rw [hws]; exact gone_some (la := ns.reverse) (by rw [← hxs]; exact hz)
     have hnl : ws.length ≠ 0 := fun h => hne (List.length_eq_zero_iff.1 h)
     refine wp_exit (x_thenExit (x_thenExit (x_blockHit ?_)))
     refine x_thenNormal ?_
     refine c_seq ?_
     refine c_rseq (n := 157) ⟨rfl, rfl⟩ ?_
     refine s_val (r_move rfl) ?_
     refine s_val (r_lens Try.runUnderlying25 (ec rfl en)) ?_
     refine s_val (r_eql rfl rfl) ?_
     refine c_nil (l' := [_,_,_,_,_,_,_,_,_,_,_,_,_,_,_,_,_,_,_,_,_,_,_,_,_,_,_,_,_,_,_,_,_,_,_,_,_,_,_,_,_,_,_,_,_,_,_,_,_,_,_,_,_,_,_,_,_,_,_,_,_,_,_,_,_,_,_,_,_,_,_,_,_,_,_,_,_,_,_,_,_,_,_,_,_,_,_,_,_,_,_,_,_,_,_,_,_,_,_,_,_,_,_,_,_,_,_,_,_,_,_,_,_,_,_,_,_,_,_,_,_,_,_,_,_,_,_,_,_,_,_,_,_,_,_,_,_,_,_,_,_,_,_,_,_,_,_,_,_,_,_,_,_,_,_,_,_]) rfl ?_
     refine c_if rfl (fun h89 => ?_) (fun h89 => ?_)
     ·skip
      exact absurd (by omega) hnl
     ·skip
      obtain ⟨bw, spw, rfl, hcw, rfl, hcw2⟩ := RowN.some hR (by omega)
      replace H : St w0 [] w (_ :: _ :: _ :: _ :: _ :: Nt) := (H.sub (.cons _ (List.Sublist.refl _))).perm ((List.perm_middle (l₁ := [_,_,_,_]) (l₂ := Nt)).symm)
      refine wp_skip ?_
      refine x_thenNormal ?_
      refine c_rseq (n := 157) ⟨rfl, rfl⟩ ?_
      refine s_val (r_move rfl) ?_
      refine s_val (r_move rfl) ?_
      refine s_val (r_conv Try.runUnderlying5 Try.runUnderlying3 rfl (w_i64 (by omega) (by omega))) ?_
      refine s_val (r_move rfl) ?_
      refine s_val (r_lens Try.runUnderlying25 (ec rfl en)) ?_
      obtain ⟨j, hj⟩ : ∃ j : Nat, (j : Int) = which % (ws.length : Int) := ⟨_, Int.toNat_of_nonneg (Int.emod_nonneg _ (by omega))⟩
      have hjl : j < ws.length := by have := Int.emod_lt_of_pos which (by omega : (0 : Int) < (ws.length : Int)); omega
      refine s_val (r_rem rfl rfl (by omega) ((Int.tmod_eq_emod_of_nonneg (by omega)).trans hj.symm)) ?_
      refine s_val (r_indexAddrS Try.runUnderlying25 Try.sizeOf28 rfl rfl (by omega) (by omega)) ?_
      refine s_val (r_load1 Try.isAgg28 rfl (H.at 0 rfl) (u_get0 (i := j) (by omega) (by omega))) ?_
      obtain ⟨n, hn⟩ : ∃ n, n = ws.getD j 0 := ⟨_, rfl⟩
      rw [← hn]
      have hnm : n ∈ wayN (findP (cl.map ceP)) (num :: (needF (findP (cl.map ceP)) 4 num)) := by rw [← hws, hn]; exact getD_mem hjl
      obtain ⟨⟨hn1, hn2, hn3⟩, hgr, hgo⟩ := gone_law (la := ns.reverse) (by rw [← hxs]; exact hz) hnm
      rw [← hxs] at hn3 hgo
      refine s_val (r_assign rfl) ?_
      refine c_nil (l' := [_,_,_,_,_,_,_,_,_,_,_,_,_,_,_,_,_,_,_,_,_,_,_,_,_,_,_,_,_,_,_,_,_,_,_,_,_,_,_,_,_,_,_,_,_,_,_,_,_,_,_,_,_,_,_,_,_,_,_,_,_,_,_,_,_,_,_,_,_,_,_,_,_,_,_,_,_,_,_,_,_,_,_,_,_,_,_,_,_,_,_,_,_,_,_,_,_,_,_,_,_,_,_,_,_,_,_,_,_,_,_,_,_,_,_,_,_,_,_,_,_,_,_,_,_,_,_,_,_,_,_,_,_,_,_,_,_,_,_,_,_,_,_,_,_,_,_,_,_,_,_,_,_,_,_,_,_]) rfl ?_
      refine c_seq ?_
      refine c_rseq (n := 157) ⟨rfl, rfl⟩ ?_
      refine s_val (r_move rfl) ?_
      refine s_val (r_move rfl) ?_
      refine s_call (r_call Try.call16 (ec rfl en)) (leaf_spec _ _) ?_
      rintro v w ⟨rfl, HC⟩
      replace H := H.quiet HC
      have hlf : lf n = 2 * n := by unfold lf; omega
      rw [hlf]
      refine s_call (r_call Try.call15 (ec rfl (ec rfl en))) (punc_t bt (.iface 49 (.agg litC.toArray)) xs (2 * n) Nt litL litR (splits_lit litC) hxl hv (by omega) (by omega) _ hT (H.ownsM (.cons _ (.cons _ (.cons _ (.cons _ (.cons _ (List.Sublist.refl _)))))))) ?_
      rintro v w ⟨hv101, Nt2, hT2, HC⟩
      rw [show decide (∃ x ∈ xs, InN x (2 * n)) = true from hn3] at hv101
      subst hv101
      replace H : St w0 [] w (_ :: _ :: _ :: _ :: _ :: Nt2) := St.callr (L := [_,_,_,_,_]) H HC
      obtain ⟨ys, hys⟩ : ∃ ys, ys = punc litL litR xs (2 * n) := ⟨_, rfl⟩
      rw [← hys] at hT2
      have hyt : ys = tree0 litL litR seed (2 * n :: ns.reverse) := by rw [hys, hxs, tree0_punc]
      rw [← hyt] at hgr hgo
      have hvy : Valid ys := by rw [hyt]; exact tree0_valid _
      have hyl : ys.length ≤ 100000 := by have h := tree0_lenN (sl := litL) (sr := litR) (seed := seed) (2 * n :: ns.reverse); rw [← hyt, List.length_cons, List.length_reverse] at h; omega
      refine s_val (r_not rfl) ?_
      refine c_nil (l' := [_,_,_,_,_,_,_,_,_,_,_,_,_,_,_,_,_,_,_,_,_,_,_,_,_,_,_,_,_,_,_,_,_,_,_,_,_,_,_,_,_,_,_,_,_,_,_,_,_,_,_,_,_,_,_,_,_,_,_,_,_,_,_,_,_,_,_,_,_,_,_,_,_,_,_,_,_,_,_,_,_,_,_,_,_,_,_,_,_,_,_,_,_,_,_,_,_,_,_,_,_,_,_,_,_,_,_,_,_,_,_,_,_,_,_,_,_,_,_,_,_,_,_,_,_,_,_,_,_,_,_,_,_,_,_,_,_,_,_,_,_,_,_,_,_,_,_,_,_,_,_,_,_,_,_,_,_]) rfl ?_
      refine c_iff rfl ?_
      refine wp_skip ?_
      refine x_thenNormal ?_
      refine c_rseq (n := 157) ⟨rfl, rfl⟩ ?_
      refine s_val (r_buildS (zs := litC) (out := litC) Try.runUnderlying49 Try.zeroValue49 places49 pn rfl) ?_
      refine s_val (r_makeIface Try.runUnderlying49 (fun _ h => nomatch h) rfl) ?_
      refine s_val (r_move rfl) ?_
      refine s_val (r_move rfl) ?_
      refine s_val (r_move rfl) ?_
      refine s_call (r_call Try.call14 (ec rfl (ec rfl (ec rfl (ec rfl en))))) (read_spec g1 cl num (by omega) (fun y hy => by have := hs3 y hy; omega) hq.ref bt ys Nt2 hyl hvy _ (hq.get H (H.at 3 rfl)) hT2 (H.ownsM (.cons _ (.cons _ (.cons _ (.cons _ (.cons _ (List.Sublist.refl _)))))))) ?_
      rintro v w ⟨rfl, HC⟩
      replace H := H.quiet HC
      rw [hgr]
      refine s_val (r_move rfl) ?_
      refine s_val (r_extract rfl rfl) ?_
      refine s_val (r_extract rfl rfl) ?_
      refine s_new (m_alloc (cs := (kC (By.zero 32))) H Try.zeroValue44 rfl) ?_
      intro w b22 H
      refine s_st (m_storen H 0 32 Try.sizeOf44 rfl rfl (by first | exact (kC_length _) | exact (hC_length _) | exact (ceC_length _) | exact (ptC_length _ _ _ _) | exact (plV_length _ _ _) | exact litC_length) (by first | exact (kC_one _) | exact (hC_one _) | exact (ceC_one _) | exact (ptC_one _ _ _ _) | exact (plV_one _ _ _) | exact litC_one) rfl (by first | exact (by rw [kC_length]; omega) | exact (by rw [hC_length]; omega)) (by first | exact (kC_sp _ _) | exact (hC_sp _ _) | exact (kC_sp _ _) | exact (ceC_sp _ _))) (L' := (_ :: _ :: _ :: _ :: _ :: _ :: _)) rfl ?_
      intro w H
      refine s_val (r_assign rfl) ?_
      refine c_nil (l' := [_,_,_,_,_,_,_,_,_,_,_,_,_,_,_,_,_,_,_,_,_,_,_,_,_,_,_,_,_,_,_,_,_,_,_,_,_,_,_,_,_,_,_,_,_,_,_,_,_,_,_,_,_,_,_,_,_,_,_,_,_,_,_,_,_,_,_,_,_,_,_,_,_,_,_,_,_,_,_,_,_,_,_,_,_,_,_,_,_,_,_,_,_,_,_,_,_,_,_,_,_,_,_,_,_,_,_,_,_,_,_,_,_,_,_,_,_,_,_,_,_,_,_,_,_,_,_,_,_,_,_,_,_,_,_,_,_,_,_,_,_,_,_,_,_,_,_,_,_,_,_,_,_,_,_,_,_]) rfl ?_
      refine c_rseq (n := 157) ⟨rfl, rfl⟩ ?_
      refine s_val (r_buildS (zs := litC) (out := litC) Try.runUnderlying49 Try.zeroValue49 places49 pn rfl) ?_
      refine s_val (r_makeIface Try.runUnderlying49 (fun _ h => nomatch h) rfl) ?_
      refine s_val (r_move rfl) ?_
      refine s_val (r_move rfl) ?_
      refine s_val (r_move rfl) ?_
      refine s_call (r_call Try.call14 (ec rfl (ec rfl (ec rfl (ec rfl en))))) (read_spec g1 cl other (by omega) (fun y hy => by have := hs3 y hy; omega) hq.ref bt ys Nt2 hyl hvy _ (hq.get H (H.at 4 rfl)) hT2 (H.ownsM (.cons _ (.cons _ (.cons _ (.cons _ (.cons _ (.cons _ (List.Sublist.refl _))))))))) ?_
      rintro v w ⟨rfl, HC⟩
      replace H := H.quiet HC
      refine s_val (r_move rfl) ?_
      refine s_val (r_extract rfl rfl) ?_
      refine s_val (r_extract rfl rfl) ?_
      refine s_new (m_alloc (cs := (kC (By.zero 32))) H Try.zeroValue44 rfl) ?_
      intro w b24 H
      refine s_st (m_storen H 0 32 Try.sizeOf44 rfl rfl (by first | exact (kC_length _) | exact (hC_length _) | exact (ceC_length _) | exact (ptC_length _ _ _ _) | exact (plV_length _ _ _) | exact litC_length) (by first | exact (kC_one _) | exact (hC_one _) | exact (ceC_one _) | exact (ptC_one _ _ _ _) | exact (plV_one _ _ _) | exact litC_one) rfl (by first | exact (by rw [kC_length]; omega) | exact (by rw [hC_length]; omega)) (by first | exact (kC_sp _ _) | exact (hC_sp _ _) | exact (kC_sp _ _) | exact (ceC_sp _ _))) (L' := (_ :: _ :: _ :: _ :: _ :: _ :: _ :: _)) rfl ?_
      intro w H
      refine s_val (r_assign rfl) ?_
      refine c_nil (l' := [_,_,_,_,_,_,_,_,_,_,_,_,_,_,_,_,_,_,_,_,_,_,_,_,_,_,_,_,_,_,_,_,_,_,_,_,_,_,_,_,_,_,_,_,_,_,_,_,_,_,_,_,_,_,_,_,_,_,_,_,_,_,_,_,_,_,_,_,_,_,_,_,_,_,_,_,_,_,_,_,_,_,_,_,_,_,_,_,_,_,_,_,_,_,_,_,_,_,_,_,_,_,_,_,_,_,_,_,_,_,_,_,_,_,_,_,_,_,_,_,_,_,_,_,_,_,_,_,_,_,_,_,_,_,_,_,_,_,_,_,_,_,_,_,_,_,_,_,_,_,_,_,_,_,_,_,_]) rfl ?_
      refine c_seq ?_
      refine c_rseq (n := 157) ⟨rfl, rfl⟩ ?_
      refine s_val (r_move rfl) ?_
      refine s_test (r_neq rfl rfl) (fun h122 => ?_) (fun h122 => ?_)
      ·skip
       exact absurd rfl h122
      ·skip
       refine s_val (r_move rfl) ?_
       refine g_yes rfl rfl ?_
       refine s_val (r_loadn Try.isAgg44 Try.sizeOf44 rfl (H.at 1 rfl) (by first | exact (kC_td _) | exact (hC_td _) | exact (hC_seed _) | exact (ceC_td _) | exact (ceC_place _) | exact (ptC_td _ _ _ _) | exact (plV_td _ _ _)) (by first | exact (kC_length _) | exact (hC_length _) | exact (ceC_length _) | exact (ptC_length _ _ _ _) | exact (plV_length _ _ _) | exact litC_length | exact rfl)) ?_
       refine g_yes rfl rfl ?_
       refine s_val (r_buildA (pl := []) (zs := kC (By.zero 32)) (out := kC (By.zero 32)) Try.runUnderlying44 Try.sizeOf5 Try.zeroValue44 pn (by intro p hp; simp at hp) rfl) ?_
       refine g_yes rfl rfl ?_
       refine s_test (r_neqB byT44 rfl rfl) (fun h126 => ?_) (fun h126 => ?_)
       ·skip
        exact absurd rfl h126
       ·skip
        refine s_val (r_pickf rfl rfl) ?_
        refine c_nil (l' := [_,_,_,_,_,_,_,_,_,_,_,_,_,_,_,_,_,_,_,_,_,_,_,_,_,_,_,_,_,_,_,_,_,_,_,_,_,_,_,_,_,_,_,_,_,_,_,_,_,_,_,_,_,_,_,_,_,_,_,_,_,_,_,_,_,_,_,_,_,_,_,_,_,_,_,_,_,_,_,_,_,_,_,_,_,_,_,_,_,_,_,_,_,_,_,_,_,_,_,_,_,_,_,_,_,_,_,_,_,_,_,_,_,_,_,_,_,_,_,_,_,_,_,_,_,_,_,_,_,_,_,_,_,_,_,_,_,_,_,_,_,_,_,_,_,_,_,_,_,_,_,_,_,_,_,_,_]) rfl ?_
        refine c_iff rfl ?_
        refine wp_skip ?_
        refine x_thenNormal ?_
        refine c_rseq (n := 157) ⟨rfl, rfl⟩ ?_
        refine s_val (r_move rfl) ?_
        refine s_val (r_move rfl) ?_
        refine s_val (r_eql rfl rfl) ?_
        refine s_val (r_assign rfl) ?_
        refine c_nil (l' := [_,_,_,_,_,_,_,_,_,_,_,_,_,_,_,_,_,_,_,_,_,_,_,_,_,_,_,_,_,_,_,_,_,_,_,_,_,_,_,_,_,_,_,_,_,_,_,_,_,_,_,_,_,_,_,_,_,_,_,_,_,_,_,_,_,_,_,_,_,_,_,_,_,_,_,_,_,_,_,_,_,_,_,_,_,_,_,_,_,_,_,_,_,_,_,_,_,_,_,_,_,_,_,_,_,_,_,_,_,_,_,_,_,_,_,_,_,_,_,_,_,_,_,_,_,_,_,_,_,_,_,_,_,_,_,_,_,_,_,_,_,_,_,_,_,_,_,_,_,_,_,_,_,_,_,_,_]) rfl ?_
        refine c_seq ?_
        refine c_rseq (n := 157) ⟨rfl, rfl⟩ ?_
        refine s_val (r_move rfl) ?_
        refine s_val (r_move rfl) ?_
        refine s_call (r_call Try.call12 (ec rfl (ec rfl en))) (needs_spec g1 cl other (by omega) (fun y hy => by have := hs3 y hy; omega) _ (hq.get H (H.at 5 rfl))) ?_
        rintro v w ⟨a133, c133, N133, rfl, hN133, HC⟩
        have hno4 := need_len (g := (findP (cl.map ceP))) 4 other
        replace H : St w0 [] w (_ :: _ :: _ :: _ :: _ :: _ :: _ :: (N133 ++ Nt2)) := (H.call0 HC).perm (List.perm_append_comm_assoc [_,_,_,_,_,_,_] N133 Nt2)
        replace H : St w0 [] w (_ :: _ :: (N133 ++ Nt2)) := H.sub (.cons_cons _ (.cons _ (.cons _ (.cons_cons _ (.cons _ (.cons _ (.cons _ (List.Sublist.refl _))))))))
        refine s_val (r_lens Try.runUnderlying25 (ec rfl en)) ?_
        refine s_val (r_move rfl) ?_
        refine c_nil (l' := [_,_,_,_,_,_,_,_,_,_,_,_,_,_,_,_,_,_,_,_,_,_,_,_,_,_,_,_,_,_,_,_,_,_,_,_,_,_,_,_,_,_,_,_,_,_,_,_,_,_,_,_,_,_,_,_,_,_,_,_,_,_,_,_,_,_,_,_,_,_,_,_,_,_,_,_,_,_,_,_,_,_,_,_,_,_,_,_,_,_,_,_,_,_,_,_,_,_,_,_,_,_,_,_,_,_,_,_,_,_,_,_,_,_,_,_,_,_,_,_,_,_,_,_,_,_,_,_,_,_,_,_,_,_,_,_,_,_,_,_,_,_,_,_,_,_,_,_,_,_,_,_,_,_,_,_,_]) rfl ?_
        refine wp_block ?_
        refine c_loop (fun (l0 : List Value) (q : Nat) (l : List Value) (w : World) => ∃ (u28 u136 u137 u138 u139 u140 u141 u142 u143 u144 u145 : Value) (tb : Bool), l = ovr l0 [N_, N_, N_, N_, N_, N_, N_, N_, N_, N_, N_, N_, N_, N_, N_, N_, N_, N_, N_, N_, N_, N_, N_, N_, N_, N_, Y_ (.bool tb), N_, Y_ u28, N_, N_, N_, N_, N_, N_, N_, N_, N_, N_, N_, N_, N_, N_, N_, N_, N_, N_, N_, N_, N_, N_, N_, N_, N_, N_, N_, N_, N_, N_, N_, N_, N_, N_, N_, N_, N_, N_, N_, N_, N_, N_, N_, N_, N_, N_, N_, N_, N_, N_, N_, N_, N_, N_, N_, N_, N_, N_, N_, N_, N_, N_, N_, N_, N_, N_, N_, N_, N_, N_, N_, N_, N_, N_, N_, N_, N_, N_, N_, N_, N_, N_, N_, N_, N_, N_, N_, N_, N_, N_, N_, N_, N_, N_, N_, N_, N_, N_, N_, N_, N_, N_, N_, N_, N_, N_, Y_ (.int .i64 q), Y_ u136, Y_ u137, Y_ u138, Y_ u139, Y_ u140, Y_ u141, Y_ u142, Y_ u143, Y_ u144, Y_ u145] ∧ q ≤ (needF (findP (cl.map ceP)) 4 other).length ∧ tb = decide (other = n ∨ n ∈ (needF (findP (cl.map ceP)) 4 other).take q) ∧ St w0 [] w ((b24, .cells (kC (readF (findP (cl.map ceP)) (hasH ys) (keyH ys) other).1).toArray 44 (0, 0)) :: (b14, .cells (kC (readF (findP (cl.map ceP)) (hasH xs) (keyH xs) other).1).toArray 44 (0, 0)) :: N133 ++ Nt2)) (fun (q : Nat) => (needF (findP (cl.map ceP)) 4 other).length - q) 0 ⟨_,_,_,_,_,_,_,_,_,_,_,_, rfl, Nat.zero_le _, (by rw [List.take_zero]; simp), H⟩ ?_
        intro q l w ⟨u28, u136, u137, u138, u139, u140, u141, u142, u143, u144, u145, tb, hl, hj2, htb, H⟩
        obtain rfl := hl.trans (rfl : _ = [_,_,_,_,_,_,_,_,_,_,_,_,_,_,_,_,_,_,_,_,_,_,_,_,_,_,_,_,_,_,_,_,_,_,_,_,_,_,_,_,_,_,_,_,_,_,_,_,_,_,_,_,_,_,_,_,_,_,_,_,_,_,_,_,_,_,_,_,_,_,_,_,_,_,_,_,_,_,_,_,_,_,_,_,_,_,_,_,_,_,_,_,_,_,_,_,_,_,_,_,_,_,_,_,_,_,_,_,_,_,_,_,_,_,_,_,_,_,_,_,_,_,_,_,_,_,_,_,_,_,_,_,_,_,_,_,_,_,_,_,_,_,_,_,_,_,_,_,_,_,_,_,_,_,_,_,_])
        clear hl
        refine c_rseq (n := 157) ⟨rfl, rfl⟩ ?_
        refine s_val (r_lss rfl rfl) ?_
        refine c_nil (l' := [_,_,_,_,_,_,_,_,_,_,_,_,_,_,_,_,_,_,_,_,_,_,_,_,_,_,_,_,_,_,_,_,_,_,_,_,_,_,_,_,_,_,_,_,_,_,_,_,_,_,_,_,_,_,_,_,_,_,_,_,_,_,_,_,_,_,_,_,_,_,_,_,_,_,_,_,_,_,_,_,_,_,_,_,_,_,_,_,_,_,_,_,_,_,_,_,_,_,_,_,_,_,_,_,_,_,_,_,_,_,_,_,_,_,_,_,_,_,_,_,_,_,_,_,_,_,_,_,_,_,_,_,_,_,_,_,_,_,_,_,_,_,_,_,_,_,_,_,_,_,_,_,_,_,_,_,_]) rfl ?_
        refine c_seq ?_
        refine c_if rfl (fun h136 => ?_) (fun h136 => ?_)
        ·skip
         obtain ⟨bu, off, pre, post, T, fz, rfl, hbu, hpu⟩ := (hN133.urowM H (fun p hp => List.mem_cons_of_mem _ (List.mem_cons_of_mem _ (List.mem_append_left _ hp)))) (by omega)
         cases tb
         ·skip
          skip
          refine wp_skip ?_
          refine x_thenNormal ?_
          refine c_seq ?_
          refine wp_block ?_
          refine c_rseq (n := 157) ⟨rfl, rfl⟩ ?_
          refine s_val (r_indexAddrS Try.runUnderlying25 Try.sizeOf28 rfl rfl (by omega) (by omega)) ?_
          refine s_val (r_load1 Try.isAgg28 rfl hbu (u_get pre _ post q hpu (by omega) (by omega))) ?_
          refine s_val (r_assign rfl) ?_
          refine c_nil (l' := [_,_,_,_,_,_,_,_,_,_,_,_,_,_,_,_,_,_,_,_,_,_,_,_,_,_,_,_,_,_,_,_,_,_,_,_,_,_,_,_,_,_,_,_,_,_,_,_,_,_,_,_,_,_,_,_,_,_,_,_,_,_,_,_,_,_,_,_,_,_,_,_,_,_,_,_,_,_,_,_,_,_,_,_,_,_,_,_,_,_,_,_,_,_,_,_,_,_,_,_,_,_,_,_,_,_,_,_,_,_,_,_,_,_,_,_,_,_,_,_,_,_,_,_,_,_,_,_,_,_,_,_,_,_,_,_,_,_,_,_,_,_,_,_,_,_,_,_,_,_,_,_,_,_,_,_,_]) rfl ?_
          refine c_region (n := 157) ⟨rfl, rfl⟩ ?_
          refine s_val (r_move rfl) ?_
          refine s_val (r_move rfl) ?_
          refine g_yes rfl rfl ?_
          refine s_val (r_move rfl) ?_
          refine g_yes rfl rfl ?_
          refine s_val (r_move rfl) ?_
          refine g_yes rfl rfl ?_
          refine s_val (r_eql rfl rfl) ?_
          refine s_val (r_pickf rfl rfl) ?_
          refine s_val (r_assign rfl) ?_
          refine c_nil0 (l' := [_,_,_,_,_,_,_,_,_,_,_,_,_,_,_,_,_,_,_,_,_,_,_,_,_,_,_,_,_,_,_,_,_,_,_,_,_,_,_,_,_,_,_,_,_,_,_,_,_,_,_,_,_,_,_,_,_,_,_,_,_,_,_,_,_,_,_,_,_,_,_,_,_,_,_,_,_,_,_,_,_,_,_,_,_,_,_,_,_,_,_,_,_,_,_,_,_,_,_,_,_,_,_,_,_,_,_,_,_,_,_,_,_,_,_,_,_,_,_,_,_,_,_,_,_,_,_,_,_,_,_,_,_,_,_,_,_,_,_,_,_,_,_,_,_,_,_,_,_,_,_,_,_,_,_,_,_]) rfl ?_
          refine x_blockNormal ?_
          refine x_thenNormal ?_
          refine c_region (n := 157) ⟨rfl, rfl⟩ ?_
          refine s_val (r_add rfl rfl (w_i64 (by omega) (by omega))) ?_
          refine s_val (r_move rfl) ?_
          refine c_nil0 (l' := [_,_,_,_,_,_,_,_,_,_,_,_,_,_,_,_,_,_,_,_,_,_,_,_,_,_,_,_,_,_,_,_,_,_,_,_,_,_,_,_,_,_,_,_,_,_,_,_,_,_,_,_,_,_,_,_,_,_,_,_,_,_,_,_,_,_,_,_,_,_,_,_,_,_,_,_,_,_,_,_,_,_,_,_,_,_,_,_,_,_,_,_,_,_,_,_,_,_,_,_,_,_,_,_,_,_,_,_,_,_,_,_,_,_,_,_,_,_,_,_,_,_,_,_,_,_,_,_,_,_,_,_,_,_,_,_,_,_,_,_,_,_,_,_,_,_,_,_,_,_,_,_,_,_,_,_,_]) rfl ?_
          exact ⟨q + 1, _, rfl, ⟨_,_,_,_,_,_,_,_,_,_,_, (decide ((needF (findP (cl.map ceP)) 4 other).getD q 0 = n)), rfl, by omega, (by rw [← tch_on (by omega) htb]; rfl), H⟩, by omega⟩
         ·skip
          skip
          refine wp_skip ?_
          refine x_thenNormal ?_
          refine c_seq ?_
          refine wp_block ?_
          refine c_rseq (n := 157) ⟨rfl, rfl⟩ ?_
          refine s_val (r_indexAddrS Try.runUnderlying25 Try.sizeOf28 rfl rfl (by omega) (by omega)) ?_
          refine s_val (r_load1 Try.isAgg28 rfl hbu (u_get pre _ post q hpu (by omega) (by omega))) ?_
          refine s_val (r_assign rfl) ?_
          refine c_nil (l' := [_,_,_,_,_,_,_,_,_,_,_,_,_,_,_,_,_,_,_,_,_,_,_,_,_,_,_,_,_,_,_,_,_,_,_,_,_,_,_,_,_,_,_,_,_,_,_,_,_,_,_,_,_,_,_,_,_,_,_,_,_,_,_,_,_,_,_,_,_,_,_,_,_,_,_,_,_,_,_,_,_,_,_,_,_,_,_,_,_,_,_,_,_,_,_,_,_,_,_,_,_,_,_,_,_,_,_,_,_,_,_,_,_,_,_,_,_,_,_,_,_,_,_,_,_,_,_,_,_,_,_,_,_,_,_,_,_,_,_,_,_,_,_,_,_,_,_,_,_,_,_,_,_,_,_,_,_]) rfl ?_
          refine c_region (n := 157) ⟨rfl, rfl⟩ ?_
          refine s_val (r_move rfl) ?_
          refine s_val (r_move rfl) ?_
          refine g_no rfl rfl (by decide) ?_
          refine g_no rfl rfl (by decide) ?_
          refine g_no rfl rfl (by decide) ?_
          refine s_val (r_pickt rfl rfl) ?_
          refine s_val (r_assign rfl) ?_
          refine c_nil0 (l' := [_,_,_,_,_,_,_,_,_,_,_,_,_,_,_,_,_,_,_,_,_,_,_,_,_,_,_,_,_,_,_,_,_,_,_,_,_,_,_,_,_,_,_,_,_,_,_,_,_,_,_,_,_,_,_,_,_,_,_,_,_,_,_,_,_,_,_,_,_,_,_,_,_,_,_,_,_,_,_,_,_,_,_,_,_,_,_,_,_,_,_,_,_,_,_,_,_,_,_,_,_,_,_,_,_,_,_,_,_,_,_,_,_,_,_,_,_,_,_,_,_,_,_,_,_,_,_,_,_,_,_,_,_,_,_,_,_,_,_,_,_,_,_,_,_,_,_,_,_,_,_,_,_,_,_,_,_]) rfl ?_
          refine x_blockNormal ?_
          refine x_thenNormal ?_
          refine c_region (n := 157) ⟨rfl, rfl⟩ ?_
          refine s_val (r_add rfl rfl (w_i64 (by omega) (by omega))) ?_
          refine s_val (r_move rfl) ?_
          refine c_nil0 (l' := [_,_,_,_,_,_,_,_,_,_,_,_,_,_,_,_,_,_,_,_,_,_,_,_,_,_,_,_,_,_,_,_,_,_,_,_,_,_,_,_,_,_,_,_,_,_,_,_,_,_,_,_,_,_,_,_,_,_,_,_,_,_,_,_,_,_,_,_,_,_,_,_,_,_,_,_,_,_,_,_,_,_,_,_,_,_,_,_,_,_,_,_,_,_,_,_,_,_,_,_,_,_,_,_,_,_,_,_,_,_,_,_,_,_,_,_,_,_,_,_,_,_,_,_,_,_,_,_,_,_,_,_,_,_,_,_,_,_,_,_,_,_,_,_,_,_,_,_,_,_,_,_,_,_,_,_,_]) rfl ?_
          exact ⟨q + 1, _, rfl, ⟨_,_,_,_,_,_,_,_,_,_,_, true, rfl, by omega, (by rw [← tch_on (by omega) htb]; rfl), H⟩, by omega⟩
        ·skip
         obtain rfl : q = (needF (findP (cl.map ceP)) 4 other).length := by omega
         rw [List.take_length] at htb
         cases tb
         ·skip
          skip
          refine wp_exit (x_thenExit (x_thenExit (x_blockHit ?_)))
          refine x_thenNormal ?_
          refine c_rseq (n := 157) ⟨rfl, rfl⟩ ?_
          refine s_val (r_move rfl) ?_
          refine s_val (r_move rfl) ?_
          refine g_yes rfl rfl ?_
          refine s_val (r_loadn Try.isAgg44 Try.sizeOf44 rfl (H.at 0 rfl) (by first | exact (kC_td _) | exact (hC_td _) | exact (hC_seed _) | exact (ceC_td _) | exact (ceC_place _) | exact (ptC_td _ _ _ _) | exact (plV_td _ _ _)) (by first | exact (kC_length _) | exact (hC_length _) | exact (ceC_length _) | exact (ptC_length _ _ _ _) | exact (plV_length _ _ _) | exact litC_length | exact rfl)) ?_
          refine g_yes rfl rfl ?_
          refine s_val (r_loadn Try.isAgg44 Try.sizeOf44 rfl (H.at 1 rfl) (by first | exact (kC_td _) | exact (hC_td _) | exact (hC_seed _) | exact (ceC_td _) | exact (ceC_place _) | exact (ptC_td _ _ _ _) | exact (plV_td _ _ _)) (by first | exact (kC_length _) | exact (hC_length _) | exact (ceC_length _) | exact (ptC_length _ _ _ _) | exact (plV_length _ _ _) | exact litC_length | exact rfl)) ?_
          refine g_yes rfl rfl ?_
          have hno : ¬ (other = n ∨ n ∈ (needF (findP (cl.map ceP)) 4 other)) := of_decide_eq_false htb.symm
          refine s_test (r_eqlB byT44 rfl rfl) (fun h150 => ?_) (fun h150 => ?_)
          ·skip
           refine g_yes rfl rfl ?_
           refine s_val (r_move rfl) ?_
           refine g_yes rfl rfl ?_
           refine s_val (r_move rfl) ?_
           refine g_yes rfl rfl ?_
           refine s_val (r_move rfl) ?_
           refine g_yes rfl rfl ?_
           refine s_test (r_eql rfl rfl) (fun h154 => ?_) (fun h154 => ?_)
           ·skip
            refine g_yes rfl rfl ?_
            refine s_val (r_pickt rfl rfl) ?_
            refine s_val (r_pickf rfl rfl) ?_
            refine s_val (r_assign rfl) ?_
            refine c_nil (l' := [_,_,_,_,_,_,_,_,_,_,_,_,_,_,_,_,_,_,_,_,_,_,_,_,_,_,_,_,_,_,_,_,_,_,_,_,_,_,_,_,_,_,_,_,_,_,_,_,_,_,_,_,_,_,_,_,_,_,_,_,_,_,_,_,_,_,_,_,_,_,_,_,_,_,_,_,_,_,_,_,_,_,_,_,_,_,_,_,_,_,_,_,_,_,_,_,_,_,_,_,_,_,_,_,_,_,_,_,_,_,_,_,_,_,_,_,_,_,_,_,_,_,_,_,_,_,_,_,_,_,_,_,_,_,_,_,_,_,_,_,_,_,_,_,_,_,_,_,_,_,_,_,_,_,_,_,_]) rfl ?_
            refine wp_ret ?_
            refine e_ret (res1 rfl rfl) ⟨_, rfl, ?_⟩
            exact ⟨rfl, (H.sub (List.nil_sublist _))⟩
           ·skip
            exact absurd (congrArg Prod.snd (hgo other (fun h => hno (.inl h)) (fun h => hno (.inr h)))) h154
          ·skip
           exact absurd (congrArg Prod.fst (hgo other (fun h => hno (.inl h)) (fun h => hno (.inr h)))) h150
         ·skip
          skip
          refine wp_exit (x_thenExit (x_thenExit (x_blockHit ?_)))
          refine x_thenNormal ?_
          refine c_rseq (n := 157) ⟨rfl, rfl⟩ ?_
          refine s_val (r_move rfl) ?_
          refine s_val (r_move rfl) ?_
          refine g_no rfl rfl (by decide) ?_
          refine g_no rfl rfl (by decide) ?_
          refine g_no rfl rfl (by decide) ?_
          refine g_no rfl rfl (by decide) ?_
          refine g_undef rfl rfl ?_
          refine g_undef rfl rfl ?_
          refine g_undef rfl rfl ?_
          refine g_no rfl rfl (by decide) ?_
          refine s_val (r_pickt rfl rfl) ?_
          refine s_val (r_assign rfl) ?_
          refine c_nil (l' := [_,_,_,_,_,_,_,_,_,_,_,_,_,_,_,_,_,_,_,_,_,_,_,_,_,_,_,_,_,_,_,_,_,_,_,_,_,_,_,_,_,_,_,_,_,_,_,_,_,_,_,_,_,_,_,_,_,_,_,_,_,_,_,_,_,_,_,_,_,_,_,_,_,_,_,_,_,_,_,_,_,_,_,_,_,_,_,_,_,_,_,_,_,_,_,_,_,_,_,_,_,_,_,_,_,_,_,_,_,_,_,_,_,_,_,_,_,_,_,_,_,_,_,_,_,_,_,_,_,_,_,_,_,_,_,_,_,_,_,_,_,_,_,_,_,_,_,_,_,_,_,_,_,_,_,_,_]) rfl ?_
          refine wp_ret ?_
          refine e_ret (res1 rfl rfl) ⟨_, rfl, ?_⟩
          exact ⟨rfl, (H.sub (List.nil_sublist _))⟩
 ·skip
  replace H := H.quiet HC
  refine s_val (r_eql rfl rfl) ?_
  refine c_nil (l' := [_,_,_,_,_,_,_,_,_,_,_,_,_,_,_,_,_,_,_,_,_,_,_,_,_,_,_,_,_,_,_,_,_,_,_,_,_,_,_,_,_,_,_,_,_,_,_,_,_,_,_,_,_,_,_,_,_,_,_,_,_,_,_,_,_,_,_,_,_,_,_,_,_,_,_,_,_,_,_,_,_,_,_,_,_,_,_,_,_,_,_,_,_,_,_,_,_,_,_,_,_,_,_,_,_,_,_,_,_,_,_,_,_,_,_,_,_,_,_,_,_,_,_,_,_,_,_,_,_,_,_,_,_,_,_,_,_,_,_,_,_,_,_,_,_,_,_,_,_,_,_,_,_,_,_,_,_]) rfl ?_
  refine c_if rfl (fun h33 => ?_) (fun h33 => ?_)
  ·skip
   skip
   refine c_rseq (n := 157) ⟨rfl, rfl⟩ ?_
   refine s_val (r_assign rfl) ?_
   refine c_nil (l' := [_,_,_,_,_,_,_,_,_,_,_,_,_,_,_,_,_,_,_,_,_,_,_,_,_,_,_,_,_,_,_,_,_,_,_,_,_,_,_,_,_,_,_,_,_,_,_,_,_,_,_,_,_,_,_,_,_,_,_,_,_,_,_,_,_,_,_,_,_,_,_,_,_,_,_,_,_,_,_,_,_,_,_,_,_,_,_,_,_,_,_,_,_,_,_,_,_,_,_,_,_,_,_,_,_,_,_,_,_,_,_,_,_,_,_,_,_,_,_,_,_,_,_,_,_,_,_,_,_,_,_,_,_,_,_,_,_,_,_,_,_,_,_,_,_,_,_,_,_,_,_,_,_,_,_,_,_]) rfl ?_
   refine wp_ret (x_thenRet ?_)
   refine e_ret (res1 rfl rfl) ⟨_, rfl, ?_⟩
   exact ⟨rfl, (H.sub (List.nil_sublist _))⟩
  ·skip
   exact absurd rfl h33

end Go.Proofs.Ytobfnieebiakeaa

