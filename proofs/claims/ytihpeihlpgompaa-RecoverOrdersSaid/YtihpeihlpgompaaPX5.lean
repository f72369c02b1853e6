import Derived.Test.YtihpeihlpgompaaPX4
import Derived.Test.YtihpeihlpgompaaPVx1
namespace Go.Proofs.Ytihpeihlpgompaa
open Go Go.Er
theorem bytes40 : Try.t40.bytes = 104 := rfl

set_option maxHeartbeats 4000000 in
theorem popen_spec (a : Option Addr) (bs : List UInt8) (c : Nat) (hc : bs.length ≤ c) (hl : bs.length ≤ 1000000) (w0 : World) (hr : BRow w0 a bs) :
  Calls Try.prog 13 #[.slice a bs.length c] w0 fun e w => ∃ v, e = .returned v ∧ ((∃ ys a2 c2 Nr Nb, openF bs = some (ys.map ceP) ∧ ys.length ≤ 14 ∧ v = .tuple #[.slice a2 ys.length c2, .bool true] ∧ RowN 11 40 (rowC ceC ys) ys.length a2 c2 Nr ∧ CsN 5 ys Nb ∧ St w0 [] w (Nr ++ Nb)) ∨ (openF bs = none ∧ v = .tuple #[.slice none 0 0, .bool false] ∧ St w0 [] w [])) := by
 have H := St.refl w0
 refine c_enter (args := [.slice a bs.length c]) (l := [.slice a bs.length c, undef, undef, undef, undef, undef, undef, undef, undef, undef, undef, undef, undef, undef, undef, undef, undef, undef, undef, undef, undef, undef, undef, undef, undef, undef, undef, undef, undef, undef, undef, undef, undef, undef, undef]) Try.func13 Try.ntmps13 rfl rfl ?_
 refine c_rseq (n := 35) ⟨rfl, rfl⟩ ?_
 refine s_val (r_assign rfl) ?_
 refine s_val (r_assign rfl) ?_
 refine c_nil (l' := [_,_,_,_,_,_,_,_,_,_,_,_,_,_,_,_,_,_,_,_,_,_,_,_,_,_,_,_,_,_,_,_,_,_,_]) rfl ?_
 refine c_seq ?_
 refine c_rseq (n := 35) ⟨rfl, rfl⟩ ?_
 refine s_val (r_move rfl) ?_
 refine s_val (r_lens Try.runUnderlying25 (ec rfl en)) ?_
 refine s_val (r_gtr rfl rfl) ?_
 refine c_nil (l' := [_,_,_,_,_,_,_,_,_,_,_,_,_,_,_,_,_,_,_,_,_,_,_,_,_,_,_,_,_,_,_,_,_,_,_]) rfl ?_
 refine c_if rfl (fun h10 => ?_) (fun h10 => ?_)
 ·skip
  refine c_rseq (n := 35) ⟨rfl, rfl⟩ ?_
  refine s_val (r_assign rfl) ?_
  refine s_val (r_assign rfl) ?_
  refine c_nil (l' := [_,_,_,_,_,_,_,_,_,_,_,_,_,_,_,_,_,_,_,_,_,_,_,_,_,_,_,_,_,_,_,_,_,_,_]) rfl ?_
  refine wp_ret (x_thenRet ?_)
  refine e_ret (res2 rfl rfl rfl) ⟨_, rfl, ?_⟩
  exact .inr ⟨if_pos (by omega), rfl, H⟩
 ·skip
  have hbl : bs.length ≤ 103 := by omega
  refine wp_skip ?_
  refine x_thenNormal ?_
  refine c_rseq (n := 35) ⟨rfl, rfl⟩ ?_
  refine s_val (r_assign rfl) ?_
  refine c_nil (l' := [_,_,_,_,_,_,_,_,_,_,_,_,_,_,_,_,_,_,_,_,_,_,_,_,_,_,_,_,_,_,_,_,_,_,_]) rfl ?_
  refine c_seq ?_
  refine wp_block ?_
  refine c_loop (fun (l0 : List Value) (t : Nat) (l : List Value) (w : World) => ∃ (u2 u3 u5 u6 u7 u11 u12 u13 u14 u15 u16 u17 u18 u19 u20 u21 u22 u23 u24 u25 u26 u27 u28 u29 u30 u31 u32 u33 : Value) (ar : Option Addr) (rs : List UInt8) (cr : Nat) (ys : List Ce) (ay : Option Addr) (cy : Nat) (Nr Nb : List (Nat × Obj)), l = ovr l0 [Y_ (.slice ar rs.length cr), N_, Y_ u2, Y_ u3, Y_ (.slice ay ys.length cy), Y_ u5, Y_ u6, Y_ u7, N_, N_, N_, Y_ u11, Y_ u12, Y_ u13, Y_ u14, Y_ u15, Y_ u16, Y_ u17, Y_ u18, Y_ u19, Y_ u20, Y_ u21, Y_ u22, Y_ u23, Y_ u24, Y_ u25, Y_ u26, Y_ u27, Y_ u28, Y_ u29, Y_ u30, Y_ u31, Y_ u32, Y_ u33] ∧ t = rs.length ∧ RdK w0 ar (rs, false) cr ∧ ReadN bs rs ys ∧ ys.length * 7 + rs.length ≤ 103 ∧ RowN 11 40 (rowC ceC ys) ys.length ay cy Nr ∧ CsN 5 ys Nb ∧ St w0 [] w (Nr ++ Nb)) (fun (t : Nat) => t) bs.length ⟨_,_,_,_,_,_,_,_,_,_,_,_,_,_,_,_,_,_,_,_,_,_,_,_,_,_,_,_, a, bs, c, [], none, 0, [], [], rfl, rfl, ⟨hr, hc, hl⟩, (ReadN.start bs), (by show 0 * 7 + bs.length ≤ 103; omega), RowN.nil, CsN.nil, H⟩ ?_
  intro t l w ⟨u2, u3, u5, u6, u7, u11, u12, u13, u14, u15, u16, u17, u18, u19, u20, u21, u22, u23, u24, u25, u26, u27, u28, u29, u30, u31, u32, u33, ar, rs, cr, ys, ay, cy, Nr, Nb, hl, ht, hK, hR, h14, hNr, hC, H⟩
  obtain rfl := hl.trans (rfl : _ = [_,_,_,_,_,_,_,_,_,_,_,_,_,_,_,_,_,_,_,_,_,_,_,_,_,_,_,_,_,_,_,_,_,_,_])
  clear hl
  refine c_seq ?_
  refine c_rseq (n := 35) ⟨rfl, rfl⟩ ?_
  refine s_val (r_move rfl) ?_
  refine s_val (r_lens Try.runUnderlying25 (ec rfl en)) ?_
  refine s_val (r_gtr rfl rfl) ?_
  refine c_nil (l' := [_,_,_,_,_,_,_,_,_,_,_,_,_,_,_,_,_,_,_,_,_,_,_,_,_,_,_,_,_,_,_,_,_,_,_]) rfl ?_
  refine c_if rfl (fun h13 => ?_) (fun h13 => ?_)
  ·skip
   have hne : rs ≠ [] := fun h => by rw [h] at h13; exact absurd h13 (by decide)
   refine wp_skip ?_
   refine x_thenNormal ?_
   refine wp_block ?_
   refine c_rseq (n := 35) ⟨rfl, rfl⟩ ?_
   refine s_val (r_move rfl) ?_
   refine s_call (r_call Try.call19 (ec rfl en)) (decode_c ar rs cr hK.2.1 hK.2.2 _ (hK.1.st (H.sub (List.nil_sublist _)))) ?_
   rintro v w (⟨y, r, a4, c4, Ny, hd, rfl, hK0, hNy, HC⟩ | ⟨hd, e0, rfl, he0, HC⟩)
   ·skip
    have hK2 : RdK w0 a4 (r, false) c4 := hK0 _ hK
    have h7 := decF_seven hd
    replace H : St w0 [] w (Nr ++ (Ny ++ Nb)) := St.mid4 (H.call0 HC)
    refine s_val (r_move rfl) ?_
    refine s_val (r_extract rfl rfl) ?_
    refine s_val (r_extract rfl rfl) ?_
    refine s_val (r_extract rfl rfl) ?_
    refine s_new (m_alloc (cs := (ceC ce0)) H Try.zeroValue40 rfl) ?_
    intro w b5 H
    refine s_st (m_storen H 0 11 Try.sizeOf40 rfl rfl (by first | exact (kC_length _) | exact (hC_length _) | exact (ceC_length _) | exact (ptC_length _ _ _ _) | exact (plV_length _ _ _)) (by first | exact (kC_one _) | exact (hC_one _) | exact (ceC_one _) | exact (ptC_one _ _ _ _) | exact (plV_one _ _ _)) rfl (by show 0 + 11 ≤ 11; omega) (ceC_sp _ _)) (L' := (_ :: _)) rfl ?_
    intro w H
    refine s_val (r_assign rfl) ?_
    refine s_val (r_assign rfl) ?_
    refine c_nil (l' := [_,_,_,_,_,_,_,_,_,_,_,_,_,_,_,_,_,_,_,_,_,_,_,_,_,_,_,_,_,_,_,_,_,_,_]) rfl ?_
    refine c_seq ?_
    refine c_rseq (n := 35) ⟨rfl, rfl⟩ ?_
    refine s_val (r_move rfl) ?_
    refine s_test (r_neq rfl rfl) (fun h21 => ?_) (fun h21 => ?_)
    ·skip
     exfalso; omega
    ·skip
     skip
     refine s_val (r_move rfl) ?_
     refine g_yes rfl rfl ?_
     refine s_val (r_move rfl) ?_
     refine g_yes rfl rfl ?_
     refine s_val (r_lens Try.runUnderlying25 (ec rfl en)) ?_
     refine g_yes rfl rfl ?_
     refine s_val (r_move rfl) ?_
     refine g_yes rfl rfl ?_
     refine s_val (r_lens Try.runUnderlying25 (ec rfl en)) ?_
     refine g_yes rfl rfl ?_
     refine s_val (r_geq rfl rfl) ?_
     refine s_val (r_pickf rfl rfl) ?_
     refine c_nil (l' := [_,_,_,_,_,_,_,_,_,_,_,_,_,_,_,_,_,_,_,_,_,_,_,_,_,_,_,_,_,_,_,_,_,_,_]) rfl ?_
     refine c_if rfl (fun h28 => ?_) (fun h28 => ?_)
     ·skip
      exfalso; omega
     ·skip
      refine wp_skip ?_
      refine x_thenNormal ?_
      refine c_rseq (n := 35) ⟨rfl, rfl⟩ ?_
      refine s_val (r_move rfl) ?_
      refine s_val (r_loadn Try.isAgg40 Try.sizeOf40 rfl (H.at 0 rfl) (by first | exact (kC_td _) | exact (hC_td _) | exact (hC_seed _) | exact (ceC_td _) | exact (ceC_place _) | exact (ptC_td _ _ _ _) | exact (plV_td _ _ _)) (by first | exact (kC_length _) | exact (hC_length _) | exact (ceC_length _) | exact (ptC_length _ _ _ _) | exact (plV_length _ _ _) | exact rfl)) ?_
      refine s_new (m_bslice1 (vs := ceC y) H Try.runUnderlying53 Try.sizeOf40 Try.zeroValue40 (by omega) (by omega) rfl rfl rfl) ?_
      intro w b31 H
      replace H := St.rot3 (A := [_,_]) H
      refine s_any (m_append_row0 (L1 := [_,_] ++ (Ny ++ Nb)) (N := Nr) H hNr Try.runUnderlying53 Try.runUnderlying53 (fun _ h => nomatch h) Try.sizeOf40 Try.zeroValue40 rfl Try.typeInfo40 (by rw [bytes40]; omega) (by rw [bytes40]; omega) (ec rfl (ec rfl en)) (Src.slice (vs := ceC y) (H.at 0 rfl) rfl rfl (ceC_one _))) ?_
      rintro v w ⟨a5, c5, N4, rfl, hN4, H⟩
      replace H : St w0 [] w (_ :: _ :: (N4 ++ (Ny ++ Nb))) := St.unrot3 (A := [_,_]) (R := Ny ++ Nb) H
      obtain ⟨ys2, hy2⟩ : ∃ ys2, ys2 = ys ++ [y] := ⟨_, rfl⟩
      have hll : ys2.length = ys.length + 1 := by rw [hy2, List.length_append]; rfl
      rw [← hll] at hN4 ⊢
      have hN5 : RowN 11 40 (rowC ceC ys2) ys2.length a5 c5 N4 := by rw [hy2, rowC_append, rowC_one1, ← hy2]; exact hN4
      have hC2 : CsN 5 ys2 (Ny ++ Nb) := by rw [hy2]; exact hC.snoc hNy
      have hR2 : ReadN bs r ys2 := by rw [hy2]; exact hR.step hne hd
      refine s_val (r_assign rfl) ?_
      refine c_nil (l' := [_,_,_,_,_,_,_,_,_,_,_,_,_,_,_,_,_,_,_,_,_,_,_,_,_,_,_,_,_,_,_,_,_,_,_]) rfl ?_
      refine c_region (n := 35) ⟨rfl, rfl⟩ ?_
      refine s_val (r_move rfl) ?_
      refine s_val (r_assign rfl) ?_
      refine c_nil0 (l' := [_,_,_,_,_,_,_,_,_,_,_,_,_,_,_,_,_,_,_,_,_,_,_,_,_,_,_,_,_,_,_,_,_,_,_]) rfl ?_
      refine x_blockNormal ?_
      exact ⟨r.length, _, rfl, ⟨_,_,_,_,_,_,_,_,_,_,_,_,_,_,_,_,_,_,_,_,_,_,_,_,_,_,_,_, a4, r, c4, ys2, a5, c5, N4, (Ny ++ Nb), rfl, rfl, hK2, hR2, (by omega), hN5, hC2, (H.sub (.cons _ (.cons _ (List.Sublist.refl _))))⟩, by omega⟩
   ·skip
    replace H := H.quiet HC
    refine s_val (r_move rfl) ?_
    refine s_val (r_extract rfl rfl) ?_
    refine s_val (r_extract rfl rfl) ?_
    refine s_val (r_extract rfl rfl) ?_
    refine s_new (m_alloc (cs := (ceC ce0)) H Try.zeroValue40 rfl) ?_
    intro w b5 H
    refine s_st (m_storen H 0 11 Try.sizeOf40 rfl rfl (by first | exact (kC_length _) | exact (hC_length _) | exact (ceC_length _) | exact (ptC_length _ _ _ _) | exact (plV_length _ _ _)) (by first | exact (kC_one _) | exact (hC_one _) | exact (ceC_one _) | exact (ptC_one _ _ _ _) | exact (plV_one _ _ _)) rfl (by show 0 + 11 ≤ 11; omega) (ceC_sp _ _)) (L' := (_ :: _)) rfl ?_
    intro w H
    refine s_val (r_assign rfl) ?_
    refine s_val (r_assign rfl) ?_
    refine c_nil (l' := [_,_,_,_,_,_,_,_,_,_,_,_,_,_,_,_,_,_,_,_,_,_,_,_,_,_,_,_,_,_,_,_,_,_,_]) rfl ?_
    refine c_seq ?_
    refine c_rseq (n := 35) ⟨rfl, rfl⟩ ?_
    refine s_val (r_move rfl) ?_
    refine s_test (r_neq rfl rfl) (fun h21 => ?_) (fun h21 => ?_)
    ·skip
     skip
     refine s_val (r_move rfl) ?_
     refine g_no rfl rfl (by decide) ?_
     refine g_no rfl rfl (by decide) ?_
     refine g_no rfl rfl (by decide) ?_
     refine g_no rfl rfl (by decide) ?_
     refine g_no rfl rfl (by decide) ?_
     refine s_val (r_pickt rfl rfl) ?_
     refine c_nil (l' := [_,_,_,_,_,_,_,_,_,_,_,_,_,_,_,_,_,_,_,_,_,_,_,_,_,_,_,_,_,_,_,_,_,_,_]) rfl ?_
     refine c_ift rfl ?_
     refine c_rseq (n := 35) ⟨rfl, rfl⟩ ?_
     refine s_val (r_assign rfl) ?_
     refine s_val (r_assign rfl) ?_
     refine c_nil (l' := [_,_,_,_,_,_,_,_,_,_,_,_,_,_,_,_,_,_,_,_,_,_,_,_,_,_,_,_,_,_,_,_,_,_,_]) rfl ?_
     refine wp_ret (x_thenRet (x_blockRet (x_thenRet (x_blockRet (x_thenRet ?_)))))
     refine e_ret (res2 rfl rfl rfl) ⟨_, rfl, ?_⟩
     exact .inr ⟨(if_neg (by omega)).trans (hR.no hne hd), rfl, H.sub (List.nil_sublist _)⟩
    ·skip
     exfalso; omega
  ·skip
   have hrs : rs = [] := List.length_eq_zero_iff.1 (by omega)
   subst hrs
   refine wp_exit (x_thenExit (x_thenExit (x_blockHit ?_)))
   refine x_thenNormal ?_
   refine c_rseq (n := 35) ⟨rfl, rfl⟩ ?_
   refine s_val (r_move rfl) ?_
   refine s_val (r_assign rfl) ?_
   refine s_val (r_assign rfl) ?_
   refine c_nil (l' := [_,_,_,_,_,_,_,_,_,_,_,_,_,_,_,_,_,_,_,_,_,_,_,_,_,_,_,_,_,_,_,_,_,_,_]) rfl ?_
   refine wp_ret ?_
   refine e_ret (res2 rfl rfl rfl) ⟨_, rfl, ?_⟩
   exact .inl ⟨ys, ay, cy, Nr, Nb, (if_neg (by omega)).trans hR.fin, by omega, rfl, hNr, hC, H⟩

end Go.Proofs.Ytihpeihlpgompaa

