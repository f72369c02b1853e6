import Derived.Test.YtihpeihlpgompaaPV6
import Derived.Test.YtihpeihlpgompaaPX5
import Derived.Test.YtihpeihlpgompaaPVx2
namespace Go.Proofs.Ytihpeihlpgompaa
open Go Go.Er

set_option maxHeartbeats 4000000 in
theorem open13_spec (a : Option Addr) (bs : List UInt8) (c : Nat) (hc : bs.length ≤ c) (hl : bs.length ≤ 1000000) (w0 : World) (hr : BRow w0 a bs) :
  Calls Try.prog 17 #[.slice a bs.length c] w0 fun e w => ∃ v, e = .returned v ∧ (∃ (cs : List Ce) (a2 : Option Addr) (c2 : Nat) (Nr : List (Nat × Obj)) (ok : Bool), v = .tuple #[.slice a2 cs.length c2, .bool ok] ∧ (openF bs).getD [] = cs.map ceP ∧ cs.length ≤ 14 ∧ RowN 11 40 (rowC ceC cs) cs.length a2 c2 Nr ∧ (∀ W, BRow W a bs → ∀ y ∈ cs, BRow W y.body.a y.body.b) ∧ St w0 [] w Nr) := by
 have H := St.refl w0
 refine c_enter (args := [.slice a bs.length c]) (l := [.slice a bs.length c, undef, undef, undef, undef, undef, undef, undef, undef, undef, undef, undef, undef, undef, undef, undef, undef, undef, undef, undef, undef, undef, undef, undef, undef, undef, undef, undef, undef, undef]) Try.func17 Try.ntmps17 rfl rfl ?_
 refine c_rseq (n := 30) ⟨rfl, rfl⟩ ?_
 refine s_val (r_assign rfl) ?_
 refine s_val (r_assign rfl) ?_
 refine c_nil (l' := [_,_,_,_,_,_,_,_,_,_,_,_,_,_,_,_,_,_,_,_,_,_,_,_,_,_,_,_,_,_]) rfl ?_
 refine c_seq ?_
 refine c_rseq (n := 30) ⟨rfl, rfl⟩ ?_
 refine s_val (r_move rfl) ?_
 refine s_val (r_lens Try.runUnderlying25 (ec rfl en)) ?_
 refine s_val (r_gtr rfl rfl) ?_
 refine c_nil (l' := [_,_,_,_,_,_,_,_,_,_,_,_,_,_,_,_,_,_,_,_,_,_,_,_,_,_,_,_,_,_]) rfl ?_
 refine c_if rfl (fun h10 => ?_) (fun h10 => ?_)
 ·skip
  refine c_rseq (n := 30) ⟨rfl, rfl⟩ ?_
  refine s_val (r_assign rfl) ?_
  refine s_val (r_assign rfl) ?_
  refine c_nil (l' := [_,_,_,_,_,_,_,_,_,_,_,_,_,_,_,_,_,_,_,_,_,_,_,_,_,_,_,_,_,_]) rfl ?_
  refine wp_ret (x_thenRet ?_)
  refine e_ret (res2 rfl rfl rfl) ⟨_, rfl, ?_⟩
  exact ⟨[], none, 0, [], false, rfl, (by rw [show openF bs = none from if_pos (by omega)]; rfl), Nat.zero_le _, RowN.nil, (fun _ _ _ h => nomatch h), H⟩
 ·skip
  have hbl : bs.length ≤ 103 := by omega
  refine wp_skip ?_
  refine x_thenNormal ?_
  refine c_rseq (n := 30) ⟨rfl, rfl⟩ ?_
  refine s_val (r_assign rfl) ?_
  refine c_nil (l' := [_,_,_,_,_,_,_,_,_,_,_,_,_,_,_,_,_,_,_,_,_,_,_,_,_,_,_,_,_,_]) rfl ?_
  refine c_seq ?_
  refine wp_block ?_
  refine c_loop (fun (l0 : List Value) (t : Nat) (l : List Value) (w : World) => ∃ (u2 u3 u5 u6 u7 u11 u12 u13 u14 u15 u16 u17 u18 u19 u20 u21 u22 u23 u24 u25 u26 u27 u28 : Value) (ar : Option Addr) (rs : List UInt8) (cr : Nat) (ys : List Ce) (ay : Option Addr) (cy : Nat) (Nr : List (Nat × Obj)), l = ovr l0 [Y_ (.slice ar rs.length cr), N_, Y_ u2, Y_ u3, Y_ (.slice ay ys.length cy), Y_ u5, Y_ u6, Y_ u7, N_, N_, N_, Y_ u11, Y_ u12, Y_ u13, Y_ u14, Y_ u15, Y_ u16, Y_ u17, Y_ u18, Y_ u19, Y_ u20, Y_ u21, Y_ u22, Y_ u23, Y_ u24, Y_ u25, Y_ u26, Y_ u27, Y_ u28] ∧ t = rs.length ∧ (∀ W, BRow W a bs → RdK W ar (rs, false) cr) ∧ ReadN bs rs ys ∧ ys.length * 7 + rs.length ≤ 103 ∧ RowN 11 40 (rowC ceC ys) ys.length ay cy Nr ∧ (∀ W, BRow W a bs → ∀ z ∈ ys, BRow W z.body.a z.body.b) ∧ St w0 [] w (Nr)) (fun (t : Nat) => t) bs.length ⟨_,_,_,_,_,_,_,_,_,_,_,_,_,_,_,_,_,_,_,_,_,_,_, a, bs, c, [], none, 0, [], rfl, rfl, (fun _ h => ⟨h, hc, hl⟩), (ReadN.start bs), (by show 0 * 7 + bs.length ≤ 103; omega), RowN.nil, (fun _ _ _ h => nomatch h), H⟩ ?_
  intro t l w ⟨u2, u3, u5, u6, u7, u11, u12, u13, u14, u15, u16, u17, u18, u19, u20, u21, u22, u23, u24, u25, u26, u27, u28, ar, rs, cr, ys, ay, cy, Nr, hl, ht, hK, hR, h14, hNr, hB, H⟩
  obtain rfl := hl.trans (rfl : _ = [_,_,_,_,_,_,_,_,_,_,_,_,_,_,_,_,_,_,_,_,_,_,_,_,_,_,_,_,_,_])
  clear hl
  refine c_seq ?_
  refine c_rseq (n := 30) ⟨rfl, rfl⟩ ?_
  refine s_val (r_move rfl) ?_
  refine s_val (r_lens Try.runUnderlying25 (ec rfl en)) ?_
  refine s_val (r_gtr rfl rfl) ?_
  refine c_nil (l' := [_,_,_,_,_,_,_,_,_,_,_,_,_,_,_,_,_,_,_,_,_,_,_,_,_,_,_,_,_,_]) rfl ?_
  refine c_if rfl (fun h13 => ?_) (fun h13 => ?_)
  ·skip
   have hne : rs ≠ [] := fun h => by rw [h] at h13; exact absurd h13 (by decide)
   refine wp_skip ?_
   refine x_thenNormal ?_
   refine wp_block ?_
   refine c_rseq (n := 30) ⟨rfl, rfl⟩ ?_
   refine s_val (r_move rfl) ?_
   refine s_call (r_call Try.call23 (ec rfl en)) (decode12_spec ar rs cr (hK _ hr).2.1 (hK _ hr).2.2 _ ((hK _ hr).1.st (H.sub (List.nil_sublist _)))) ?_
   rintro v w (⟨y, n, hd, rfl, hn, hyB, HC⟩ | ⟨hd, e0, rfl, he0, HC⟩)
   ·skip
    have hK2 : ∀ W, BRow W a bs → RdK W (cutA ar 1 cr n) (rs.drop n, false) (cr - n) := fun W hW => (hK W hW).cut n
    have h7 := decF_seven hd
    replace H := H.quiet HC
    refine s_val (r_move rfl) ?_
    refine s_val (r_extract rfl rfl) ?_
    refine s_val (r_extract rfl rfl) ?_
    refine s_val (r_extract rfl rfl) ?_
    refine s_new (m_alloc (cs := (ceC ce0)) H Try.zeroValue40 rfl) ?_
    intro w b5 H
    refine s_st (m_storen H 0 11 Try.sizeOf40 rfl rfl (by first | exact (kC_length _) | exact (hC_length _) | exact (ceC_length _) | exact (ptC_length _ _ _ _) | exact (plV_length _ _ _) | exact (elFr.len _) | exact (frC_length _) | exact (fdV_length _ _ _) | exact (fbC_length _)) (by first | exact (kC_one _) | exact (hC_one _) | exact (ceC_one _) | exact (ptC_one _ _ _ _) | exact (plV_one _ _ _) | exact (elFr.one _) | exact (frC_one _) | exact (fdV_one _ _ _) | exact (fbC_one _)) rfl (by show 0 + 11 ≤ 11; omega) (ceC_sp _ _)) (L' := (_ :: _)) rfl ?_
    intro w H
    refine s_val (r_assign rfl) ?_
    refine s_val (r_assign rfl) ?_
    refine c_nil (l' := [_,_,_,_,_,_,_,_,_,_,_,_,_,_,_,_,_,_,_,_,_,_,_,_,_,_,_,_,_,_]) rfl ?_
    refine c_seq ?_
    refine c_rseq (n := 30) ⟨rfl, rfl⟩ ?_
    refine s_val (r_move rfl) ?_
    refine s_val (r_neq rfl rfl) ?_
    refine c_nil (l' := [_,_,_,_,_,_,_,_,_,_,_,_,_,_,_,_,_,_,_,_,_,_,_,_,_,_,_,_,_,_]) rfl ?_
    refine c_if rfl (fun h21 => ?_) (fun h21 => ?_)
    ·skip
     exfalso; omega
    ·skip
     skip
     refine wp_skip ?_
     refine x_thenNormal ?_
     refine c_rseq (n := 30) ⟨rfl, rfl⟩ ?_
     refine s_val (r_move rfl) ?_
     refine s_val (r_loadn Try.isAgg40 Try.sizeOf40 rfl (H.at 0 rfl) (ceC_td _) (by first | exact (kC_length _) | exact (hC_length _) | exact (ceC_length _) | exact (ptC_length _ _ _ _) | exact (plV_length _ _ _) | exact (elFr.len _) | exact (frC_length _) | exact (fdV_length _ _ _) | exact (fbC_length _) | exact rfl)) ?_
     refine s_new (m_bslice1 (vs := ceC y) H Try.runUnderlying53 Try.sizeOf40 Try.zeroValue40 (by omega) (by omega) rfl rfl rfl) ?_
     intro w b24 H
     refine s_any (m_append_row0 (L1 := [_,_]) (N := Nr) H hNr Try.runUnderlying53 Try.runUnderlying53 (fun _ h => nomatch h) Try.sizeOf40 Try.zeroValue40 rfl Try.typeInfo40 (by rw [bytes40]; omega) (by rw [bytes40]; omega) (ec rfl (ec rfl en)) (Src.slice (vs := ceC y) (H.at 0 rfl) rfl rfl (ceC_one _))) ?_
     rintro v w ⟨a5, c5, N4, rfl, hN4, H⟩
     replace H : St w0 [] w (_ :: _ :: N4) := H
     obtain ⟨ys2, hy2⟩ : ∃ ys2, ys2 = ys ++ [y] := ⟨_, rfl⟩
     have hll : ys2.length = ys.length + 1 := by rw [hy2, List.length_append]; rfl
     rw [← hll] at hN4 ⊢
     have hN5 : RowN 11 40 (rowC ceC ys2) ys2.length a5 c5 N4 := by rw [hy2, rowC_append, rowC_one1, ← hy2]; exact hN4
     have hB2 : ∀ W, BRow W a bs → ∀ z ∈ ys2, BRow W z.body.a z.body.b := by
      intro W hW z hz
      rw [hy2] at hz
      rcases List.mem_append.1 hz with h | h
      ·exact hB W hW z h
      ·rw [List.mem_singleton.1 h]; exact hyB W (hK W hW).1
     have hR2 : ReadN bs (rs.drop n) ys2 := by rw [hy2]; exact hR.step hne hd
     refine s_val (r_assign rfl) ?_
     refine c_nil (l' := [_,_,_,_,_,_,_,_,_,_,_,_,_,_,_,_,_,_,_,_,_,_,_,_,_,_,_,_,_,_]) rfl ?_
     refine c_region (n := 30) ⟨rfl, rfl⟩ ?_
     refine s_val (r_move rfl) ?_
     refine s_val (r_move rfl) ?_
     refine s_val (r_sliceLe (lo := n) (n' := (rs.drop n).length) Try.runUnderlying25 Try.sizeOf5 rfl rfl rfl (by omega) rfl (by rw [List.length_drop]) rfl) ?_
     refine s_val (r_assign rfl) ?_
     refine c_nil0 (l' := [_,_,_,_,_,_,_,_,_,_,_,_,_,_,_,_,_,_,_,_,_,_,_,_,_,_,_,_,_,_]) rfl ?_
     refine x_blockNormal ?_
     exact ⟨(rs.drop n).length, _, rfl, ⟨_,_,_,_,_,_,_,_,_,_,_,_,_,_,_,_,_,_,_,_,_,_,_,_, rs.drop n, _, ys2, a5, c5, N4, rfl, rfl, hK2, hR2, (by omega), hN5, hB2, (H.sub (.cons _ (.cons _ (List.Sublist.refl _))))⟩, by omega⟩
   ·skip
    replace H := H.quiet HC
    refine s_val (r_move rfl) ?_
    refine s_val (r_extract rfl rfl) ?_
    refine s_val (r_extract rfl rfl) ?_
    refine s_val (r_extract rfl rfl) ?_
    refine s_new (m_alloc (cs := (ceC ce0)) H Try.zeroValue40 rfl) ?_
    intro w b5 H
    refine s_st (m_storen H 0 11 Try.sizeOf40 rfl rfl (by first | exact (kC_length _) | exact (hC_length _) | exact (ceC_length _) | exact (ptC_length _ _ _ _) | exact (plV_length _ _ _) | exact (elFr.len _) | exact (frC_length _) | exact (fdV_length _ _ _) | exact (fbC_length _)) (by first | exact (kC_one _) | exact (hC_one _) | exact (ceC_one _) | exact (ptC_one _ _ _ _) | exact (plV_one _ _ _) | exact (elFr.one _) | exact (frC_one _) | exact (fdV_one _ _ _) | exact (fbC_one _)) rfl (by show 0 + 11 ≤ 11; omega) (ceC_sp _ _)) (L' := (_ :: _)) rfl ?_
    intro w H
    refine s_val (r_assign rfl) ?_
    refine s_val (r_assign rfl) ?_
    refine c_nil (l' := [_,_,_,_,_,_,_,_,_,_,_,_,_,_,_,_,_,_,_,_,_,_,_,_,_,_,_,_,_,_]) rfl ?_
    refine c_seq ?_
    refine c_rseq (n := 30) ⟨rfl, rfl⟩ ?_
    refine s_val (r_move rfl) ?_
    refine s_val (r_neq rfl rfl) ?_
    refine c_nil (l' := [_,_,_,_,_,_,_,_,_,_,_,_,_,_,_,_,_,_,_,_,_,_,_,_,_,_,_,_,_,_]) rfl ?_
    refine c_if rfl (fun h21 => ?_) (fun h21 => ?_)
    ·skip
     skip
     refine c_rseq (n := 30) ⟨rfl, rfl⟩ ?_
     refine s_val (r_assign rfl) ?_
     refine s_val (r_assign rfl) ?_
     refine c_nil (l' := [_,_,_,_,_,_,_,_,_,_,_,_,_,_,_,_,_,_,_,_,_,_,_,_,_,_,_,_,_,_]) rfl ?_
     refine wp_ret (x_thenRet (x_blockRet (x_thenRet (x_blockRet (x_thenRet ?_)))))
     refine e_ret (res2 rfl rfl rfl) ⟨_, rfl, ?_⟩
     exact ⟨[], none, 0, [], false, rfl, (by rw [show openF bs = none from (if_neg (by omega)).trans (hR.no hne hd)]; rfl), Nat.zero_le _, RowN.nil, (fun _ _ _ h => nomatch h), (H.sub (List.nil_sublist _))⟩
    ·skip
     exfalso; omega
  ·skip
   have hrs : rs = [] := List.length_eq_zero_iff.1 (by omega)
   subst hrs
   refine wp_exit (x_thenExit (x_thenExit (x_blockHit ?_)))
   refine x_thenNormal ?_
   refine c_rseq (n := 30) ⟨rfl, rfl⟩ ?_
   refine s_val (r_move rfl) ?_
   refine s_val (r_assign rfl) ?_
   refine s_val (r_assign rfl) ?_
   refine c_nil (l' := [_,_,_,_,_,_,_,_,_,_,_,_,_,_,_,_,_,_,_,_,_,_,_,_,_,_,_,_,_,_]) rfl ?_
   refine wp_ret ?_
   refine e_ret (res2 rfl rfl rfl) ⟨_, rfl, ?_⟩
   exact ⟨ys, ay, cy, Nr, true, rfl, (by rw [show openF bs = some (ys.map ceP) from (if_neg (by omega)).trans hR.fin]; rfl), by omega, hNr, hB, H⟩

end Go.Proofs.Ytihpeihlpgompaa

