import Derived.Test.YtobfnieebiakeaaPE1
import Derived.Test.YtobfnieebiakeaaPVx2
namespace Go.Proofs.Ytobfnieebiakeaa
open Go Go.Er

theorem small3 (a : Option Addr) (c : Nat) (cl : List Ce) (seed : Key) (ga : Option Addr) (gc : Nat) (ns : List Int) (w0 : World) (hq : CaW w0 a cl ga ns) :
  Calls Try.prog 10 #[.agg (caC a c cl seed ga gc ns).toArray] w0 fun e w => ∃ v, e = .returned v ∧ ((v = .int .i64 1 ∧ CaS cl ns ∧ St w0 [] w []) ∨ (v = .int .i64 0 ∧ St w0 [] w [])) :=
 (small_spec a c cl seed ga gc ns w0 hq).mono fun _ _ ⟨v, he, h, H⟩ => ⟨v, he, h.imp (fun h => ⟨h.1, h.2, H⟩) (fun h => ⟨h, H⟩)⟩

set_option maxHeartbeats 4000000 in
theorem lean_law (a : Option Addr) (c : Nat) (cl : List Ce) (seed : Key) (ga : Option Addr) (gc : Nat) (ns : List Int) (num : Int) (w0 : World) (hq : CaW w0 a cl ga ns) :
  Calls Try.prog 3 #[.agg (caC a c cl seed ga gc ns).toArray, .int .u64 num] w0 fun e w => ∃ v, e = .returned v ∧ (v = .bool true ∧ St w0 [] w []) := by
 have H := St.refl w0
 refine c_enter (args := [.agg (caC a c cl seed ga gc ns).toArray, .int .u64 num]) (l := [.agg (caC a c cl seed ga gc ns).toArray, .int .u64 num, undef, undef, undef, undef, undef, undef, undef, undef, undef, undef, undef, undef, undef, undef, undef, undef, undef, undef, undef, undef, undef, undef, undef, undef, undef, undef, undef, undef, undef, undef, undef, undef, undef, undef, undef, undef, undef, undef, undef, undef, undef, undef, undef, undef, undef, undef, undef, undef, undef, undef, undef, undef, undef, undef, undef, undef, undef, undef, undef, undef, undef, undef, undef, undef, undef, undef, undef, undef, undef, undef, undef, undef, undef, undef, undef, undef, undef, undef, undef, undef, undef, undef, undef, undef, undef]) Try.func3 Try.ntmps3 rfl rfl ?_
 refine c_rseq (n := 87) ⟨rfl, rfl⟩ ?_
 refine s_new (m_box (cs := (caC a c cl seed ga gc ns)) H rfl rfl) ?_
 intro w b2 H
 refine s_val (r_assign rfl) ?_
 refine c_nil (l' := [_,_,_,_,_,_,_,_,_,_,_,_,_,_,_,_,_,_,_,_,_,_,_,_,_,_,_,_,_,_,_,_,_,_,_,_,_,_,_,_,_,_,_,_,_,_,_,_,_,_,_,_,_,_,_,_,_,_,_,_,_,_,_,_,_,_,_,_,_,_,_,_,_,_,_,_,_,_,_,_,_,_,_,_,_,_,_]) rfl ?_
 refine c_seq ?_
 refine c_rseq (n := 87) ⟨rfl, rfl⟩ ?_
 refine s_call (r_call Try.call9 en) (awake23_spec _) ?_
 rintro v w ⟨rfl, HC⟩
 replace H := H.quiet HC
 refine s_val (r_not rfl) ?_
 refine c_nil (l' := [_,_,_,_,_,_,_,_,_,_,_,_,_,_,_,_,_,_,_,_,_,_,_,_,_,_,_,_,_,_,_,_,_,_,_,_,_,_,_,_,_,_,_,_,_,_,_,_,_,_,_,_,_,_,_,_,_,_,_,_,_,_,_,_,_,_,_,_,_,_,_,_,_,_,_,_,_,_,_,_,_,_,_,_,_,_,_]) rfl ?_
 refine c_iff rfl ?_
 refine wp_skip ?_
 refine x_thenNormal ?_
 refine c_seq ?_
 refine c_rseq (n := 87) ⟨rfl, rfl⟩ ?_
 refine s_val (r_loadn Try.isAgg27 Try.sizeOf27 rfl (H.at 0 rfl) (caC_td _ _ _ _ _ _ _) (caC_length _ _ _ _ _ _ _)) ?_
 refine s_call (r_call Try.call10 (ec rfl en)) (small3 a c cl seed ga gc ns _ (hq.st (H.sub (List.nil_sublist _)))) ?_
 rintro v w (⟨rfl, hs, HC⟩ | ⟨rfl, HC⟩)
 ·skip
  replace H := H.quiet HC
  obtain ⟨hs1, hs2, hs3⟩ := id hs
  refine s_val (r_eql rfl rfl) ?_
  refine c_nil (l' := [_,_,_,_,_,_,_,_,_,_,_,_,_,_,_,_,_,_,_,_,_,_,_,_,_,_,_,_,_,_,_,_,_,_,_,_,_,_,_,_,_,_,_,_,_,_,_,_,_,_,_,_,_,_,_,_,_,_,_,_,_,_,_,_,_,_,_,_,_,_,_,_,_,_,_,_,_,_,_,_,_,_,_,_,_,_,_]) rfl ?_
  refine c_if rfl (fun h21 => ?_) (fun h21 => ?_)
  ·skip
   exact absurd h21 (by decide)
  ·skip
   skip
   refine wp_skip ?_
   refine x_thenNormal ?_
   refine c_rseq (n := 87) ⟨rfl, rfl⟩ ?_
   refine s_val (r_loadn Try.isAgg27 Try.sizeOf27 rfl (H.at 0 rfl) (caC_td _ _ _ _ _ _ _) (caC_length _ _ _ _ _ _ _)) ?_
   refine s_call (r_call Try.call11 (ec rfl en)) (laid_spec a c cl seed ga gc ns hs _ (hq.st (H.sub (List.nil_sublist _)))) ?_
   rintro v w ⟨bt, xs, ak, ck, Nt, Nk, rfl, hxs, hT, _, HC⟩
   replace H : St w0 [] w (_ :: (Nk ++ Nt)) := (H.call0 HC).perm (List.perm_append_comm (l₁ := [_]) (l₂ := Nk ++ Nt))
   replace H : St w0 [] w (_ :: Nt) := H.sub (.cons_cons _ (List.sublist_append_right _ _))
   have hv : Valid xs := by rw [hxs]; exact tree0_valid _
   have hxl : xs.length ≤ 100000 := by have h := tree0_lenN (sl := litL) (sr := litR) (seed := seed) ns.reverse; rw [← hxs, List.length_reverse] at h; omega
   refine s_val (r_move rfl) ?_
   refine s_val (r_extract rfl rfl) ?_
   refine s_val (r_extract rfl rfl) ?_
   refine s_val (r_assign rfl) ?_
   refine s_val (r_assign rfl) ?_
   refine c_nil (l' := [_,_,_,_,_,_,_,_,_,_,_,_,_,_,_,_,_,_,_,_,_,_,_,_,_,_,_,_,_,_,_,_,_,_,_,_,_,_,_,_,_,_,_,_,_,_,_,_,_,_,_,_,_,_,_,_,_,_,_,_,_,_,_,_,_,_,_,_,_,_,_,_,_,_,_,_,_,_,_,_,_,_,_,_,_,_,_]) rfl ?_
   refine c_rseq (n := 87) ⟨rfl, rfl⟩ ?_
   refine s_val (r_fieldAddr (k := 0) Try.runUnderlying27 rfl Try.sizeOf22 (by decide) rfl rfl) ?_
   refine s_val (r_load1 Try.isAgg22 rfl (H.at 0 rfl) (caC_cl _ _ _ _ _ _ _)) ?_
   refine s_call (r_call Try.call13 (ec rfl en)) (get_mk _ _ _ _) ?_
   rintro v w ⟨g1, rfl, HC⟩
   replace H : St w0 [] w (_ :: _ :: _) := H.call0 HC
   refine s_val (r_move rfl) ?_
   refine s_call (r_call Try.call12 (ec rfl (ec rfl en))) (needs_spec g1 cl num (by omega) (fun y hy => by have := hs3 y hy; omega) _ (hq.get H (H.at 0 rfl))) ?_
   rintro v w ⟨a31, c31, N31, rfl, hN31, HC⟩
   replace H := H.call0 HC
   refine s_val (r_move rfl) ?_
   refine s_new (m_bslice1 (vs := [.int .u64 num]) H Try.runUnderlying25 Try.sizeOf28 Try.zeroValue28 (by omega) (by omega) rfl rfl rfl) ?_
   intro w b33 H
   replace H := St.rot3 (A := [_]) H
   have hnl := need_len (g := (findP (cl.map ceP))) 4 num
   refine s_any (m_append_row0 (L1 := [_] ++ (_ :: _ :: Nt)) (N := N31) H hN31 Try.runUnderlying25 Try.runUnderlying25 (fun _ h => nomatch h) Try.sizeOf28 Try.zeroValue28 rfl Try.typeInfo28 (by rw [bytes28]; omega) (by rw [bytes28]; omega) (ec rfl (ec rfl en)) (Src.slice (vs := [.int .u64 num]) (H.at 0 rfl) rfl rfl (by intro v hv; rw [List.mem_singleton.1 hv]; rfl))) ?_
   rintro v w ⟨a5, c5, N5, rfl, hN5, H⟩
   replace H : St w0 [] w (_ :: _ :: _ :: (Nt ++ N5)) := H
   obtain ⟨ms, hms⟩ : ∃ z, z = needF (findP (cl.map ceP)) 4 num ++ [num] := ⟨_, rfl⟩
   have hml : ms.length = (needF (findP (cl.map ceP)) 4 num).length + 1 := by rw [hms, List.length_append]; rfl
   rw [← hml] at hN5 ⊢
   have hN6 : RowN 1 28 (uC ms) ms.length a5 c5 N5 := by
    have e : uC ms = uC (needF (findP (cl.map ceP)) 4 num) ++ [.int .u64 num] := by rw [hms]; simp [uC]
    rw [e]; exact hN5
   obtain ⟨bm, spm, rfl, hcm, rfl, hcm2⟩ := RowN.some hN6 (by omega)
   replace H : St w0 [] w (_ :: _ :: Nt) := (H.sub (.cons _ (.cons _ (List.Sublist.refl _)))).perm (List.perm_append_comm (l₁ := [_]) (l₂ := _ :: Nt))
   refine s_val (r_assign rfl) ?_
   refine c_nil (l' := [_,_,_,_,_,_,_,_,_,_,_,_,_,_,_,_,_,_,_,_,_,_,_,_,_,_,_,_,_,_,_,_,_,_,_,_,_,_,_,_,_,_,_,_,_,_,_,_,_,_,_,_,_,_,_,_,_,_,_,_,_,_,_,_,_,_,_,_,_,_,_,_,_,_,_,_,_,_,_,_,_,_,_,_,_,_,_]) rfl ?_
   refine c_rseq (n := 87) ⟨rfl, rfl⟩ ?_
   refine s_val (r_assign rfl) ?_
   refine c_nil (l' := [_,_,_,_,_,_,_,_,_,_,_,_,_,_,_,_,_,_,_,_,_,_,_,_,_,_,_,_,_,_,_,_,_,_,_,_,_,_,_,_,_,_,_,_,_,_,_,_,_,_,_,_,_,_,_,_,_,_,_,_,_,_,_,_,_,_,_,_,_,_,_,_,_,_,_,_,_,_,_,_,_,_,_,_,_,_,_]) rfl ?_
   refine c_seq ?_
   refine c_rseq (n := 87) ⟨rfl, rfl⟩ ?_
   refine s_val (r_fieldAddr (k := 0) Try.runUnderlying27 rfl Try.sizeOf22 (by decide) rfl rfl) ?_
   refine s_val (r_load1 Try.isAgg22 rfl (H.at 1 rfl) (caC_cl _ _ _ _ _ _ _)) ?_
   refine s_val (r_lens Try.runUnderlying22 (ec rfl en)) ?_
   refine s_val (r_move rfl) ?_
   refine c_nil (l' := [_,_,_,_,_,_,_,_,_,_,_,_,_,_,_,_,_,_,_,_,_,_,_,_,_,_,_,_,_,_,_,_,_,_,_,_,_,_,_,_,_,_,_,_,_,_,_,_,_,_,_,_,_,_,_,_,_,_,_,_,_,_,_,_,_,_,_,_,_,_,_,_,_,_,_,_,_,_,_,_,_,_,_,_,_,_,_]) rfl ?_
   refine wp_block ?_
   refine c_loop (fun (l0 : List Value) (i : Nat) (l : List Value) (w : World) => ∃ (u10 u12 u39 u40 u41 u42 u43 u44 u45 u46 u47 u48 u49 u50 u51 u52 u53 u54 u55 u56 u57 : Value) (Nf : List (Nat × Obj)) (a8 : Option Addr) (c8 : Nat) (fs : List Ce), l = ovr l0 [N_, N_, N_, N_, N_, N_, N_, N_, Y_ (.slice a8 fs.length c8), N_, Y_ u10, N_, Y_ u12, N_, N_, N_, N_, N_, N_, N_, N_, N_, N_, N_, N_, N_, N_, N_, N_, N_, N_, N_, N_, N_, N_, N_, N_, N_, Y_ (.int .i64 i), Y_ u39, Y_ u40, Y_ u41, Y_ u42, Y_ u43, Y_ u44, Y_ u45, Y_ u46, Y_ u47, Y_ u48, Y_ u49, Y_ u50, Y_ u51, Y_ u52, Y_ u53, Y_ u54, Y_ u55, Y_ u56, Y_ u57] ∧ i ≤ cl.length ∧ fs = fewF ms (cl.take i) ∧ RowN 11 43 (rowC ceC fs) fs.length a8 c8 Nf ∧ St w0 [] w ((bm, .cells (uC ms ++ spm).toArray 28 (0, 0)) :: (b2, .cells (caC a c cl seed ga gc ns).toArray 27 (0, 0)) :: Nf ++ Nt)) (fun (i : Nat) => cl.length - i) 0 ⟨_,_,_,_,_,_,_,_,_,_,_,_,_,_,_,_,_,_,_,_,_, [], none, 0, [], rfl, Nat.zero_le _, rfl, RowN.nil, H⟩ ?_
   intro i l w ⟨u10, u12, u39, u40, u41, u42, u43, u44, u45, u46, u47, u48, u49, u50, u51, u52, u53, u54, u55, u56, u57, Nf, a8, c8, fs, hl, hi, hfs, hR, H⟩
   obtain rfl := hl.trans (rfl : _ = [_,_,_,_,_,_,_,_,_,_,_,_,_,_,_,_,_,_,_,_,_,_,_,_,_,_,_,_,_,_,_,_,_,_,_,_,_,_,_,_,_,_,_,_,_,_,_,_,_,_,_,_,_,_,_,_,_,_,_,_,_,_,_,_,_,_,_,_,_,_,_,_,_,_,_,_,_,_,_,_,_,_,_,_,_,_,_])
   clear hl
   refine c_rseq (n := 87) ⟨rfl, rfl⟩ ?_
   refine s_val (r_lss rfl rfl) ?_
   refine c_nil (l' := [_,_,_,_,_,_,_,_,_,_,_,_,_,_,_,_,_,_,_,_,_,_,_,_,_,_,_,_,_,_,_,_,_,_,_,_,_,_,_,_,_,_,_,_,_,_,_,_,_,_,_,_,_,_,_,_,_,_,_,_,_,_,_,_,_,_,_,_,_,_,_,_,_,_,_,_,_,_,_,_,_,_,_,_,_,_,_]) rfl ?_
   refine c_seq ?_
   refine c_if rfl (fun h39 => ?_) (fun h39 => ?_)
   ·skip
    obtain ⟨y, hx⟩ : ∃ y, cl[i]? = some y := ⟨_, List.getElem?_eq_getElem (by omega)⟩
    have hym := List.mem_of_getElem? hx
    obtain ⟨b0, off, pre, post, T0, fz0, rfl, hb0, hp0⟩ := hq.row (by omega)
    refine wp_skip ?_
    refine x_thenNormal ?_
    refine c_seq ?_
    refine wp_block ?_
    refine c_rseq (n := 87) ⟨rfl, rfl⟩ ?_
    refine s_val (r_indexAddrS Try.runUnderlying22 Try.sizeOf43 rfl rfl (by omega) (by omega)) ?_
    refine s_val (r_loadn Try.isAgg43 Try.sizeOf43 rfl (H.rd0 hb0) (row_td elCe pre post hp0 hx (by omega)) (ceC_length _)) ?_
    refine s_new (m_alloc (cs := (ceC ce0)) H Try.zeroValue43 rfl) ?_
    intro w b10 H
    refine s_st (m_storen H 0 11 Try.sizeOf43 rfl rfl (by first | exact (kC_length _) | exact (hC_length _) | exact (ceC_length _) | exact (ptC_length _ _ _ _) | exact (plV_length _ _ _) | exact litC_length) (by first | exact (kC_one _) | exact (hC_one _) | exact (ceC_one _) | exact (ptC_one _ _ _ _) | exact (plV_one _ _ _) | exact litC_one) rfl (by show 0 + 11 ≤ 11; omega) (ceC_sp _ _)) (L' := (_ :: _ :: _ :: _)) rfl ?_
    intro w H
    refine c_nil (l' := [_,_,_,_,_,_,_,_,_,_,_,_,_,_,_,_,_,_,_,_,_,_,_,_,_,_,_,_,_,_,_,_,_,_,_,_,_,_,_,_,_,_,_,_,_,_,_,_,_,_,_,_,_,_,_,_,_,_,_,_,_,_,_,_,_,_,_,_,_,_,_,_,_,_,_,_,_,_,_,_,_,_,_,_,_,_,_]) rfl ?_
    refine c_rseq (n := 87) ⟨rfl, rfl⟩ ?_
    refine s_val (r_move rfl) ?_
    refine s_val (r_lens Try.runUnderlying25 (ec rfl en)) ?_
    refine s_val (r_move rfl) ?_
    refine c_nil (l' := [_,_,_,_,_,_,_,_,_,_,_,_,_,_,_,_,_,_,_,_,_,_,_,_,_,_,_,_,_,_,_,_,_,_,_,_,_,_,_,_,_,_,_,_,_,_,_,_,_,_,_,_,_,_,_,_,_,_,_,_,_,_,_,_,_,_,_,_,_,_,_,_,_,_,_,_,_,_,_,_,_,_,_,_,_,_,_]) rfl ?_
    refine wp_block ?_
    refine c_loop (fun (l0 : List Value) (j : Nat) (l : List Value) (w : World) => ∃ (u12 u45 u46 u47 u48 u49 u50 u51 u52 u53 u54 u55 u56 : Value) , l = ovr l0 [N_, N_, N_, N_, N_, N_, N_, N_, Y_ (.slice a8 fs.length c8), N_, N_, N_, Y_ u12, N_, N_, N_, N_, N_, N_, N_, N_, N_, N_, N_, N_, N_, N_, N_, N_, N_, N_, N_, N_, N_, N_, N_, N_, N_, N_, N_, N_, N_, N_, N_, Y_ (.int .i64 j), Y_ u45, Y_ u46, Y_ u47, Y_ u48, Y_ u49, Y_ u50, Y_ u51, Y_ u52, Y_ u53, Y_ u54, Y_ u55, Y_ u56] ∧ j ≤ ms.length ∧ (∀ m ∈ ms.take j, y.num ≠ m) ∧ St w0 [] w ((b10, .cells (ceC y).toArray 43 (0, 0)) :: (bm, .cells (uC ms ++ spm).toArray 28 (0, 0)) :: (b2, .cells (caC (some ⟨b0, off, none⟩) c cl seed ga gc ns).toArray 27 (0, 0)) :: Nf ++ Nt)) (fun (j : Nat) => ms.length - j) 0 ⟨_,_,_,_,_,_,_,_,_,_,_,_,_, rfl, Nat.zero_le _, (fun _ h => nomatch h), H⟩ ?_
    intro j l w ⟨u12, u45, u46, u47, u48, u49, u50, u51, u52, u53, u54, u55, u56, hl, hj, hno, H⟩
    obtain rfl := hl.trans (rfl : _ = [_,_,_,_,_,_,_,_,_,_,_,_,_,_,_,_,_,_,_,_,_,_,_,_,_,_,_,_,_,_,_,_,_,_,_,_,_,_,_,_,_,_,_,_,_,_,_,_,_,_,_,_,_,_,_,_,_,_,_,_,_,_,_,_,_,_,_,_,_,_,_,_,_,_,_,_,_,_,_,_,_,_,_,_,_,_,_])
    clear hl
    refine c_rseq (n := 87) ⟨rfl, rfl⟩ ?_
    refine s_val (r_lss rfl rfl) ?_
    refine c_nil (l' := [_,_,_,_,_,_,_,_,_,_,_,_,_,_,_,_,_,_,_,_,_,_,_,_,_,_,_,_,_,_,_,_,_,_,_,_,_,_,_,_,_,_,_,_,_,_,_,_,_,_,_,_,_,_,_,_,_,_,_,_,_,_,_,_,_,_,_,_,_,_,_,_,_,_,_,_,_,_,_,_,_,_,_,_,_,_,_]) rfl ?_
    refine c_seq ?_
    refine c_if rfl (fun h45 => ?_) (fun h45 => ?_)
    ·skip
     refine wp_skip ?_
     refine x_thenNormal ?_
     refine c_seq ?_
     refine wp_block ?_
     refine c_rseq (n := 87) ⟨rfl, rfl⟩ ?_
     refine s_val (r_indexAddrS Try.runUnderlying25 Try.sizeOf28 rfl rfl (by omega) (by omega)) ?_
     refine s_val (r_load1 Try.isAgg28 rfl (H.at 1 rfl) (u_get0 (i := j) (by omega) (by omega))) ?_
     refine s_val (r_assign rfl) ?_
     refine c_nil (l' := [_,_,_,_,_,_,_,_,_,_,_,_,_,_,_,_,_,_,_,_,_,_,_,_,_,_,_,_,_,_,_,_,_,_,_,_,_,_,_,_,_,_,_,_,_,_,_,_,_,_,_,_,_,_,_,_,_,_,_,_,_,_,_,_,_,_,_,_,_,_,_,_,_,_,_,_,_,_,_,_,_,_,_,_,_,_,_]) rfl ?_
     refine c_rseq (n := 87) ⟨rfl, rfl⟩ ?_
     refine s_val (r_fieldAddr (k := 1) Try.runUnderlying43 rfl Try.sizeOf28 (by decide) rfl rfl) ?_
     refine s_val (r_load1 Try.isAgg28 rfl (H.at 0 rfl) (rfl : _ = some (Value.int .u64 y.num))) ?_
     refine s_val (r_move rfl) ?_
     refine s_val (r_eql rfl rfl) ?_
     refine c_nil (l' := [_,_,_,_,_,_,_,_,_,_,_,_,_,_,_,_,_,_,_,_,_,_,_,_,_,_,_,_,_,_,_,_,_,_,_,_,_,_,_,_,_,_,_,_,_,_,_,_,_,_,_,_,_,_,_,_,_,_,_,_,_,_,_,_,_,_,_,_,_,_,_,_,_,_,_,_,_,_,_,_,_,_,_,_,_,_,_]) rfl ?_
     refine c_if rfl (fun h51 => ?_) (fun h51 => ?_)
     ·skip
      refine c_rseq (n := 87) ⟨rfl, rfl⟩ ?_
      refine s_val (r_move rfl) ?_
      refine s_val (r_loadn Try.isAgg43 Try.sizeOf43 rfl (H.at 0 rfl) (ceC_td _) (by first | exact (kC_length _) | exact (hC_length _) | exact (ceC_length _) | exact (ptC_length _ _ _ _) | exact (plV_length _ _ _) | exact litC_length | exact rfl)) ?_
      refine s_new (m_bslice1 (vs := ceC y) H Try.runUnderlying22 Try.sizeOf43 Try.zeroValue43 (by omega) (by omega) rfl rfl rfl) ?_
      intro w b54 H
      replace H := St.rot3 (A := [_,_,_,_]) H
      have hfl : fs.length ≤ 12 := by rw [hfs]; exact Nat.le_trans (fewF_len _ _) (by rw [List.length_take]; omega)
      refine s_any (m_append_row0 (L1 := [_,_,_,_] ++ Nt) (N := Nf) H hR Try.runUnderlying22 Try.runUnderlying22 (fun _ h => nomatch h) Try.sizeOf43 Try.zeroValue43 rfl Try.typeInfo43 (by rw [bytes43]; omega) (by rw [bytes43]; omega) (ec rfl (ec rfl en)) (Src.slice (vs := ceC y) (H.at 0 rfl) rfl rfl (ceC_one _))) ?_
      rintro v w ⟨a9, c9, N9, rfl, hN9, H⟩
      replace H : St w0 [] w (_ :: _ :: _ :: _ :: (N9 ++ Nt)) := St.unrot3 (A := [_,_,_,_]) (R := Nt) H
      obtain ⟨fs2, hf2⟩ : ∃ z, z = fs ++ [y] := ⟨_, rfl⟩
      have hll : fs2.length = fs.length + 1 := by rw [hf2, List.length_append]; rfl
      rw [← hll] at hN9 ⊢
      have hN7 : RowN 11 43 (rowC ceC fs2) fs2.length a9 c9 N9 := by rw [hf2, rowC_append, rowC_one1, ← hf2]; exact hN9
      refine s_val (r_assign rfl) ?_
      refine c_nil (l' := [_,_,_,_,_,_,_,_,_,_,_,_,_,_,_,_,_,_,_,_,_,_,_,_,_,_,_,_,_,_,_,_,_,_,_,_,_,_,_,_,_,_,_,_,_,_,_,_,_,_,_,_,_,_,_,_,_,_,_,_,_,_,_,_,_,_,_,_,_,_,_,_,_,_,_,_,_,_,_,_,_,_,_,_,_,_,_]) rfl ?_
      refine wp_exit (x_blockMiss (by decide) (x_thenExit (x_thenExit (x_blockHit ?_))))
      refine x_blockNormal ?_
      refine x_thenNormal ?_
      refine c_region (n := 87) ⟨rfl, rfl⟩ ?_
      refine s_val (r_add rfl rfl (w_i64 (by omega) (by omega))) ?_
      refine s_val (r_move rfl) ?_
      refine c_nil0 (l' := [_,_,_,_,_,_,_,_,_,_,_,_,_,_,_,_,_,_,_,_,_,_,_,_,_,_,_,_,_,_,_,_,_,_,_,_,_,_,_,_,_,_,_,_,_,_,_,_,_,_,_,_,_,_,_,_,_,_,_,_,_,_,_,_,_,_,_,_,_,_,_,_,_,_,_,_,_,_,_,_,_,_,_,_,_,_,_]) rfl ?_
      exact ⟨i + 1, _, rfl, ⟨_,_,_,_,_,_,_,_,_,_,_,_,_,_,_,_,_,_,_,_,_, N9, a9, c9, fs2, rfl, by omega, (by rw [hf2, hfs, fewF_on hx, if_pos (h51 ▸ getD_mem (by omega))]), hN7, (H.sub (.cons _ (.cons _ (List.Sublist.refl _))))⟩, by omega⟩
     ·skip
      refine wp_skip ?_
      refine x_blockNormal ?_
      refine x_thenNormal ?_
      refine c_region (n := 87) ⟨rfl, rfl⟩ ?_
      refine s_val (r_add rfl rfl (w_i64 (by omega) (by omega))) ?_
      refine s_val (r_move rfl) ?_
      refine c_nil0 (l' := [_,_,_,_,_,_,_,_,_,_,_,_,_,_,_,_,_,_,_,_,_,_,_,_,_,_,_,_,_,_,_,_,_,_,_,_,_,_,_,_,_,_,_,_,_,_,_,_,_,_,_,_,_,_,_,_,_,_,_,_,_,_,_,_,_,_,_,_,_,_,_,_,_,_,_,_,_,_,_,_,_,_,_,_,_,_,_]) rfl ?_
      exact ⟨j + 1, _, rfl, ⟨_,_,_,_,_,_,_,_,_,_,_,_,_, rfl, by omega, (by
        intro m hm
        rw [List.take_succ_eq_append_getElem (by omega)] at hm
        rcases List.mem_append.1 hm with h | h
        ·exact hno m h
        ·rw [List.mem_singleton.1 h]
         intro e
         rw [List.getD_eq_getElem?_getD, List.getElem?_eq_getElem (by omega)] at h51
         exact h51 e), H⟩, by omega⟩
    ·skip
     obtain rfl : j = ms.length := by omega
     rw [List.take_length] at hno
     refine wp_exit (x_thenExit (x_thenExit (x_blockHit ?_)))
     refine x_blockNormal ?_
     refine x_thenNormal ?_
     refine c_region (n := 87) ⟨rfl, rfl⟩ ?_
     refine s_val (r_add rfl rfl (w_i64 (by omega) (by omega))) ?_
     refine s_val (r_move rfl) ?_
     refine c_nil0 (l' := [_,_,_,_,_,_,_,_,_,_,_,_,_,_,_,_,_,_,_,_,_,_,_,_,_,_,_,_,_,_,_,_,_,_,_,_,_,_,_,_,_,_,_,_,_,_,_,_,_,_,_,_,_,_,_,_,_,_,_,_,_,_,_,_,_,_,_,_,_,_,_,_,_,_,_,_,_,_,_,_,_,_,_,_,_,_,_]) rfl ?_
     exact ⟨i + 1, _, rfl, ⟨_,_,_,_,_,_,_,_,_,_,_,_,_,_,_,_,_,_,_,_,_, Nf, a8, c8, fs, rfl, by omega, (by rw [hfs, fewF_on hx, if_neg (fun h => hno _ h rfl), List.append_nil]), hR, (H.sub (.cons _ (List.Sublist.refl _)))⟩, by omega⟩
   ·skip
    obtain rfl : i = cl.length := by omega
    rw [List.take_length] at hfs
    have hfl : fs.length ≤ 12 := by rw [hfs]; exact Nat.le_trans (fewF_len _ _) hs1
    refine wp_exit (x_thenExit (x_thenExit (x_blockHit ?_)))
    refine x_thenNormal ?_
    refine c_rseq (n := 87) ⟨rfl, rfl⟩ ?_
    refine s_val (r_buildS (zs := litC) (out := litC) Try.runUnderlying49 Try.zeroValue49 places49 pn rfl) ?_
    refine s_val (r_makeIface Try.runUnderlying49 (fun _ h => nomatch h) rfl) ?_
    refine s_val (r_fieldAddr (k := 0) Try.runUnderlying27 rfl Try.sizeOf22 (by decide) rfl rfl) ?_
    refine s_val (r_load1 Try.isAgg22 rfl (H.at 1 rfl) (caC_cl _ _ _ _ _ _ _)) ?_
    refine s_call (r_call Try.call13 (ec rfl en)) (get_mk _ _ _ _) ?_
    rintro v w ⟨g2, rfl, HC⟩
    replace H : St w0 [] w (_ :: _ :: _ :: _) := H.call0 HC
    refine s_val (r_move rfl) ?_
    refine s_val (r_move rfl) ?_
    refine s_call (r_call Try.call14 (ec rfl (ec rfl (ec rfl (ec rfl en))))) (read_spec g2 cl num (by omega) (fun y hy => by have := hs3 y hy; omega) hq.ref bt xs Nt hxl hv _ (hq.get H (H.at 0 rfl)) hT (H.ownsM (.cons _ (.cons _ (.cons _ (List.sublist_append_right _ _)))))) ?_
    rintro v w ⟨rfl, HC⟩
    replace H := H.quiet HC
    refine s_val (r_move rfl) ?_
    refine s_val (r_extract rfl rfl) ?_
    refine s_val (r_extract rfl rfl) ?_
    refine s_new (m_alloc (cs := (kC (By.zero 32))) H Try.zeroValue44 rfl) ?_
    intro w b13 H
    refine s_st (m_storen H 0 32 Try.sizeOf44 rfl rfl (by first | exact (kC_length _) | exact (hC_length _) | exact (ceC_length _) | exact (ptC_length _ _ _ _) | exact (plV_length _ _ _) | exact litC_length) (by first | exact (kC_one _) | exact (hC_one _) | exact (ceC_one _) | exact (ptC_one _ _ _ _) | exact (plV_one _ _ _) | exact litC_one) rfl (by first | exact (by rw [kC_length]; omega) | exact (by rw [hC_length]; omega)) (by first | exact (kC_sp _ _) | exact (hC_sp _ _) | exact (kC_sp _ _) | exact (ceC_sp _ _))) (L' := (_ :: _ :: _ :: _ :: _)) rfl ?_
    intro w H
    refine s_val (r_assign rfl) ?_
    refine c_nil (l' := [_,_,_,_,_,_,_,_,_,_,_,_,_,_,_,_,_,_,_,_,_,_,_,_,_,_,_,_,_,_,_,_,_,_,_,_,_,_,_,_,_,_,_,_,_,_,_,_,_,_,_,_,_,_,_,_,_,_,_,_,_,_,_,_,_,_,_,_,_,_,_,_,_,_,_,_,_,_,_,_,_,_,_,_,_,_,_]) rfl ?_
    refine c_rseq (n := 87) ⟨rfl, rfl⟩ ?_
    refine s_val (r_buildS (zs := litC) (out := litC) Try.runUnderlying49 Try.zeroValue49 places49 pn rfl) ?_
    refine s_val (r_makeIface Try.runUnderlying49 (fun _ h => nomatch h) rfl) ?_
    refine s_val (r_move rfl) ?_
    refine s_call (r_call Try.call13 (ec rfl en)) (get_mk _ _ _ _) ?_
    rintro v w ⟨g3, rfl, HC⟩
    replace H : St w0 [] w (_ :: _ :: _ :: _ :: _ :: _) := H.call0 HC
    refine s_val (r_move rfl) ?_
    refine s_val (r_move rfl) ?_
    refine s_call (r_call Try.call14 (ec rfl (ec rfl (ec rfl (ec rfl en))))) (read_spec g3 fs num (by omega) (fun y hy => by have := hs3 y (fewF_mem (hfs ▸ hy)); omega) (fun y hy => hq.ref y (fewF_mem (hfs ▸ hy))) bt xs Nt hxl hv _ (GetW.mkR (H.at 0 rfl) rfl (hR.rrowM (fun h => h) H (fun p hp => (List.mem_cons_of_mem _ (List.mem_cons_of_mem _ (List.mem_cons_of_mem _ (List.mem_cons_of_mem _ (List.mem_cons_of_mem _ (List.mem_append_left _ hp)))))))) (fun y hy => (hq.body y (fewF_mem (hfs ▸ hy))).st H)) hT (H.ownsM (.cons _ (.cons _ (.cons _ (.cons _ (.cons _ (List.sublist_append_right _ _)))))))) ?_
    rintro v w ⟨rfl, HC⟩
    replace H := H.quiet HC
    have hlr : readF (findP (fs.map ceP)) (hasH xs) (keyH xs) num = readF (findP (cl.map ceP)) (hasH xs) (keyH xs) num := by rw [hfs, hms]; exact lean_read
    rw [hlr]
    refine s_val (r_move rfl) ?_
    refine s_val (r_extract rfl rfl) ?_
    refine s_val (r_extract rfl rfl) ?_
    refine s_new (m_alloc (cs := (kC (By.zero 32))) H Try.zeroValue44 rfl) ?_
    intro w b15 H
    refine s_st (m_storen H 0 32 Try.sizeOf44 rfl rfl (by first | exact (kC_length _) | exact (hC_length _) | exact (ceC_length _) | exact (ptC_length _ _ _ _) | exact (plV_length _ _ _) | exact litC_length) (by first | exact (kC_one _) | exact (hC_one _) | exact (ceC_one _) | exact (ptC_one _ _ _ _) | exact (plV_one _ _ _) | exact litC_one) rfl (by first | exact (by rw [kC_length]; omega) | exact (by rw [hC_length]; omega)) (by first | exact (kC_sp _ _) | exact (hC_sp _ _) | exact (kC_sp _ _) | exact (ceC_sp _ _))) (L' := (_ :: _ :: _ :: _ :: _ :: _ :: _)) rfl ?_
    intro w H
    refine s_val (r_assign rfl) ?_
    refine c_nil (l' := [_,_,_,_,_,_,_,_,_,_,_,_,_,_,_,_,_,_,_,_,_,_,_,_,_,_,_,_,_,_,_,_,_,_,_,_,_,_,_,_,_,_,_,_,_,_,_,_,_,_,_,_,_,_,_,_,_,_,_,_,_,_,_,_,_,_,_,_,_,_,_,_,_,_,_,_,_,_,_,_,_,_,_,_,_,_,_]) rfl ?_
    refine c_rseq (n := 87) ⟨rfl, rfl⟩ ?_
    refine s_val (r_loadn Try.isAgg44 Try.sizeOf44 rfl (H.at 2 rfl) (by first | exact (kC_td _) | exact (hC_td _) | exact (hC_seed _) | exact (ceC_td _) | exact (ceC_place _) | exact (ptC_td _ _ _ _) | exact (plV_td _ _ _)) (by first | exact (kC_length _) | exact (hC_length _) | exact (ceC_length _) | exact (ptC_length _ _ _ _) | exact (plV_length _ _ _) | exact litC_length | exact rfl)) ?_
    refine s_val (r_loadn Try.isAgg44 Try.sizeOf44 rfl (H.at 0 rfl) (by first | exact (kC_td _) | exact (hC_td _) | exact (hC_seed _) | exact (ceC_td _) | exact (ceC_place _) | exact (ptC_td _ _ _ _) | exact (plV_td _ _ _)) (by first | exact (kC_length _) | exact (hC_length _) | exact (ceC_length _) | exact (ptC_length _ _ _ _) | exact (plV_length _ _ _) | exact litC_length | exact rfl)) ?_
    refine s_test (r_eqlB byT44 rfl rfl) (fun h81 => ?_) (fun h81 => ?_)
    ·skip
     refine s_val (r_move rfl) ?_
     refine g_yes rfl rfl ?_
     refine s_val (r_move rfl) ?_
     refine g_yes rfl rfl ?_
     refine s_val (r_move rfl) ?_
     refine g_yes rfl rfl ?_
     refine s_test (r_eql rfl rfl) (fun h85 => ?_) (fun h85 => ?_)
     ·skip
      refine s_val (r_pickt rfl rfl) ?_
      refine s_val (r_assign rfl) ?_
      refine c_nil (l' := [_,_,_,_,_,_,_,_,_,_,_,_,_,_,_,_,_,_,_,_,_,_,_,_,_,_,_,_,_,_,_,_,_,_,_,_,_,_,_,_,_,_,_,_,_,_,_,_,_,_,_,_,_,_,_,_,_,_,_,_,_,_,_,_,_,_,_,_,_,_,_,_,_,_,_,_,_,_,_,_,_,_,_,_,_,_,_]) rfl ?_
      refine wp_ret ?_
      refine e_ret (res1 rfl rfl) ⟨_, rfl, ?_⟩
      exact ⟨rfl, (H.sub (List.nil_sublist _))⟩
     ·skip
      refine s_val (r_pickt rfl rfl) ?_
      refine s_val (r_assign rfl) ?_
      refine c_nil (l' := [_,_,_,_,_,_,_,_,_,_,_,_,_,_,_,_,_,_,_,_,_,_,_,_,_,_,_,_,_,_,_,_,_,_,_,_,_,_,_,_,_,_,_,_,_,_,_,_,_,_,_,_,_,_,_,_,_,_,_,_,_,_,_,_,_,_,_,_,_,_,_,_,_,_,_,_,_,_,_,_,_,_,_,_,_,_,_]) rfl ?_
      refine wp_ret ?_
      refine e_ret (res1 rfl rfl) ⟨_, rfl, ?_⟩
      exact absurd rfl h85
    ·skip
     exact absurd rfl h81
 ·skip
  replace H := H.quiet HC
  refine s_val (r_eql rfl rfl) ?_
  refine c_nil (l' := [_,_,_,_,_,_,_,_,_,_,_,_,_,_,_,_,_,_,_,_,_,_,_,_,_,_,_,_,_,_,_,_,_,_,_,_,_,_,_,_,_,_,_,_,_,_,_,_,_,_,_,_,_,_,_,_,_,_,_,_,_,_,_,_,_,_,_,_,_,_,_,_,_,_,_,_,_,_,_,_,_,_,_,_,_,_,_]) rfl ?_
  refine c_if rfl (fun h21 => ?_) (fun h21 => ?_)
  ·skip
   skip
   refine c_rseq (n := 87) ⟨rfl, rfl⟩ ?_
   refine s_val (r_assign rfl) ?_
   refine c_nil (l' := [_,_,_,_,_,_,_,_,_,_,_,_,_,_,_,_,_,_,_,_,_,_,_,_,_,_,_,_,_,_,_,_,_,_,_,_,_,_,_,_,_,_,_,_,_,_,_,_,_,_,_,_,_,_,_,_,_,_,_,_,_,_,_,_,_,_,_,_,_,_,_,_,_,_,_,_,_,_,_,_,_,_,_,_,_,_,_]) rfl ?_
   refine wp_ret (x_thenRet ?_)
   refine e_ret (res1 rfl rfl) ⟨_, rfl, ?_⟩
   exact ⟨rfl, (H.sub (List.nil_sublist _))⟩
  ·skip
   exact absurd rfl h21

end Go.Proofs.Ytobfnieebiakeaa

