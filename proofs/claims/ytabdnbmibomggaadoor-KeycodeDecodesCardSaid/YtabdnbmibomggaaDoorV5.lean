import Derived.Test.YtabdnbmibomggaaDoorV4
namespace Go.Proofs.YtabdnbmibomggaaDoor
open Go Go.Er

set_option maxHeartbeats 4000000 in
theorem encodes_law (a : Option Addr) (cap : Nat) (xs : List Held) (hx : ∀ i, i < xs.length → InR (nd xs i)) (w0 : World) (hr : HRow w0 a xs) (hT : TabH w0) :
    Calls Tryd.prog 3 #[.slice a xs.length cap] w0 fun e w => ∃ v, e = .returned v ∧ (v = .bool true ∧ St w0 [] w []) := by
  have H := St.refl w0
  refine c_enter (args := [.slice a xs.length cap]) (l := [.slice a xs.length cap, undef, undef, undef, undef, undef, undef, undef, undef, undef, undef, undef, undef, undef, undef, undef, undef, undef, undef, undef, undef, undef, undef, undef, undef, undef, undef, undef, undef, undef, undef, undef, undef, undef, undef, undef, undef, undef, undef, undef, undef, undef, undef, undef, undef, undef, undef, undef, undef, undef]) Tryd.func3 Tryd.ntmps3 rfl rfl ?_
  refine c_rseq (n := 50) ⟨rfl, rfl⟩ ?_
  refine s_val (r_assign rfl) ?_
  refine c_nil (l' := [_, _, _, _, _, _, _, _, _, _, _, _, _, _, _, _, _, _, _, _, _, _, _, _, _, _, _, _, _, _, _, _, _, _, _, _, _, _, _, _, _, _, _, _, _, _, _, _, _, _]) rfl ?_
  refine c_seq ?_
  refine c_rseq (n := 50) ⟨rfl, rfl⟩ ?_
  refine s_call (r_call Tryd.call5 en) (awake_spec _ (hT.st H)) ?_
  rintro v w ⟨rfl, HC⟩
  replace H := H.quiet HC
  refine s_val (r_not rfl) ?_
  refine c_nil (l' := [_, _, _, _, _, _, _, _, _, _, _, _, _, _, _, _, _, _, _, _, _, _, _, _, _, _, _, _, _, _, _, _, _, _, _, _, _, _, _, _, _, _, _, _, _, _, _, _, _, _]) rfl ?_
  refine c_iff rfl ?_
  refine wp_skip ?_
  refine x_thenNormal ?_
  refine c_seq ?_
  refine c_rseq (n := 50) ⟨rfl, rfl⟩ ?_
  refine s_val (r_move rfl) ?_
  refine s_val (r_lens Tryd.runUnderlying22 (ec rfl en)) ?_
  refine s_val (r_gtr rfl rfl) ?_
  refine c_nil (l' := [_, _, _, _, _, _, _, _, _, _, _, _, _, _, _, _, _, _, _, _, _, _, _, _, _, _, _, _, _, _, _, _, _, _, _, _, _, _, _, _, _, _, _, _, _, _, _, _, _, _]) rfl ?_
  refine c_if rfl (fun h12 => ?_) (fun h12 => ?_)
  · skip
    refine c_rseq (n := 50) ⟨rfl, rfl⟩ ?_
    refine s_val (r_assign rfl) ?_
    refine c_nil (l' := [_, _, _, _, _, _, _, _, _, _, _, _, _, _, _, _, _, _, _, _, _, _, _, _, _, _, _, _, _, _, _, _, _, _, _, _, _, _, _, _, _, _, _, _, _, _, _, _, _, _]) rfl ?_
    refine wp_ret (x_thenRet ?_)
    refine e_ret (res1 rfl rfl) ⟨_, rfl, ?_⟩
    exact ⟨rfl, H.sub (List.nil_sublist _)⟩
  · skip
    refine wp_skip ?_
    refine x_thenNormal ?_
    refine c_rseq (n := 50) ⟨rfl, rfl⟩ ?_
    refine s_new (m_bslice0 H Tryd.runUnderlying22 Tryd.sizeOf45) ?_
    intro w b13 H
    refine s_val (r_move rfl) ?_
    refine s_any (m_append_lit H Tryd.runUnderlying22 Tryd.runUnderlying22 (fun _ h => nomatch h) Tryd.sizeOf45 Tryd.zeroValue45 rfl Tryd.typeInfo45 (by rw [bytes45]; omega) (by rw [bytes45]; omega) (ec rfl (ec rfl en)) ((hr.st H).src _)) ?_
    rintro v w ⟨ao, co, No, rfl, hNo, H⟩
    skip
    refine s_val (r_assign rfl) ?_
    refine c_nil (l' := [_, _, _, _, _, _, _, _, _, _, _, _, _, _, _, _, _, _, _, _, _, _, _, _, _, _, _, _, _, _, _, _, _, _, _, _, _, _, _, _, _, _, _, _, _, _, _, _, _, _]) rfl ?_
    refine c_rseq (n := 50) ⟨rfl, rfl⟩ ?_
    refine s_val (r_move rfl) ?_
    refine s_call (r_call Tryd.call6 (ec rfl en)) (enc_spec _ _ xs (by omega) hx _ (hNo.hrowM H (by intro p hp; simp [hp])) (hT.st H)) ?_
    rintro v w (⟨hV, a2, c2, N2, rfl, hN2, HC⟩ | ⟨hV, rfl, HC⟩)
    · skip
      replace H := H.call0 HC
      refine s_val (r_move rfl) ?_
      refine s_val (r_extract rfl rfl) ?_
      refine s_val (r_extract rfl rfl) ?_
      refine s_val (r_assign rfl) ?_
      refine s_val (r_assign rfl) ?_
      refine c_nil (l' := [_, _, _, _, _, _, _, _, _, _, _, _, _, _, _, _, _, _, _, _, _, _, _, _, _, _, _, _, _, _, _, _, _, _, _, _, _, _, _, _, _, _, _, _, _, _, _, _, _, _]) rfl ?_
      refine c_rseq (n := 50) ⟨rfl, rfl⟩ ?_
      refine s_val (r_move rfl) ?_
      refine s_call (r_call Tryd.call8 (ec rfl en)) (plain_spec _ _ xs (by omega) _ (hr.st H)) ?_
      rintro v w ⟨a3, c3, N3, rfl, hN3, HC⟩
      replace H := H.call0 HC
      refine s_call (r_call Tryd.call7 (ec rfl en)) (renc_ok _ _ xs (by omega) hx _ (hN3.hrowM H (by intro p hp; simp [hp])) hV) ?_
      rintro v w ⟨a4, c4, N4, rfl, hN4, HC⟩
      replace H := H.call0 HC
      refine s_val (r_move rfl) ?_
      refine s_val (r_extract rfl rfl) ?_
      refine s_val (r_extract rfl rfl) ?_
      refine s_val (r_assign rfl) ?_
      refine s_val (r_assign rfl) ?_
      refine c_nil (l' := [_, _, _, _, _, _, _, _, _, _, _, _, _, _, _, _, _, _, _, _, _, _, _, _, _, _, _, _, _, _, _, _, _, _, _, _, _, _, _, _, _, _, _, _, _, _, _, _, _, _]) rfl ?_
      refine c_seq ?_
      refine c_rseq (n := 50) ⟨rfl, rfl⟩ ?_
      refine s_val (r_move rfl) ?_
      refine s_val (r_not rfl) ?_
      refine c_nil (l' := [_, _, _, _, _, _, _, _, _, _, _, _, _, _, _, _, _, _, _, _, _, _, _, _, _, _, _, _, _, _, _, _, _, _, _, _, _, _, _, _, _, _, _, _, _, _, _, _, _, _]) rfl ?_
      refine c_iff rfl ?_
      refine wp_skip ?_
      refine x_thenNormal ?_
      refine c_rseq (n := 50) ⟨rfl, rfl⟩ ?_
      refine s_val (r_move rfl) ?_
      refine s_test (r_eql rfl rfl) (fun h37 => ?_) (fun h37 => ?_)
      · skip
        refine s_val (r_move rfl) ?_
        refine g_yes rfl rfl ?_
        refine s_val (r_move rfl) ?_
        refine g_yes rfl rfl ?_
        refine s_val (r_textR Tryd.runUnderlying24 Tryd.runUnderlying9 Tryd.runUnderlying5 rfl (by rw [encB_length]; omega) (hN2.browM H (by intro p hp; simp [hp]))) ?_
        refine g_yes rfl rfl ?_
        refine s_val (r_move rfl) ?_
        refine g_yes rfl rfl ?_
        refine s_val (r_textR Tryd.runUnderlying24 Tryd.runUnderlying9 Tryd.runUnderlying5 rfl (by rw [encB_length]; omega) (hN4.browM H (by intro p hp; simp [hp]))) ?_
        refine g_yes rfl rfl ?_
        refine s_test (r_eqlT rfl rfl) (fun h43 => ?_) (fun h43 => ?_)
        · skip
          refine s_val (r_pickt rfl rfl) ?_
          refine s_val (r_move rfl) ?_
          refine g_yes rfl rfl ?_
          refine s_val (r_move rfl) ?_
          refine g_yes rfl rfl ?_
          refine s_val (r_move rfl) ?_
          refine g_yes rfl rfl ?_
          refine s_call (r_call Tryd.call9 (ec rfl (ec rfl en))) (same_spec _ _ _ _ xs xs (by omega) _ (hNo.hrowM H (by intro p hp; simp [hp])) (hr.st H)) ?_
          rintro v w ⟨rfl, HC⟩
          replace H := H.quiet HC
          refine s_val (r_pickt rfl rfl) ?_
          refine s_val (r_assign rfl) ?_
          refine c_nil (l' := [_, _, _, _, _, _, _, _, _, _, _, _, _, _, _, _, _, _, _, _, _, _, _, _, _, _, _, _, _, _, _, _, _, _, _, _, _, _, _, _, _, _, _, _, _, _, _, _, _, _]) rfl ?_
          refine wp_ret ?_
          refine e_ret (res1 rfl rfl) ⟨_, rfl, ?_⟩
          exact ⟨by rw [decide_eq_true rfl], H.sub (List.nil_sublist _)⟩
        · skip
          exact absurd rfl h43
      · skip
        exfalso; omega
    · skip
      replace H := H.quiet HC
      refine s_val (r_move rfl) ?_
      refine s_val (r_extract rfl rfl) ?_
      refine s_val (r_extract rfl rfl) ?_
      refine s_val (r_assign rfl) ?_
      refine s_val (r_assign rfl) ?_
      refine c_nil (l' := [_, _, _, _, _, _, _, _, _, _, _, _, _, _, _, _, _, _, _, _, _, _, _, _, _, _, _, _, _, _, _, _, _, _, _, _, _, _, _, _, _, _, _, _, _, _, _, _, _, _]) rfl ?_
      refine c_rseq (n := 50) ⟨rfl, rfl⟩ ?_
      refine s_val (r_move rfl) ?_
      refine s_call (r_call Tryd.call8 (ec rfl en)) (plain_spec _ _ xs (by omega) _ (hr.st H)) ?_
      rintro v w ⟨a3, c3, N3, rfl, hN3, HC⟩
      replace H := H.call0 HC
      refine s_call (r_call Tryd.call7 (ec rfl en)) (renc_no _ _ xs (by omega) hx _ (hN3.hrowM H (by intro p hp; simp [hp])) hV) ?_
      rintro v w ⟨rfl, HC⟩
      replace H := H.quiet HC
      refine s_val (r_move rfl) ?_
      refine s_val (r_extract rfl rfl) ?_
      refine s_val (r_extract rfl rfl) ?_
      refine s_val (r_assign rfl) ?_
      refine s_val (r_assign rfl) ?_
      refine c_nil (l' := [_, _, _, _, _, _, _, _, _, _, _, _, _, _, _, _, _, _, _, _, _, _, _, _, _, _, _, _, _, _, _, _, _, _, _, _, _, _, _, _, _, _, _, _, _, _, _, _, _, _]) rfl ?_
      refine c_seq ?_
      refine c_rseq (n := 50) ⟨rfl, rfl⟩ ?_
      refine s_val (r_move rfl) ?_
      refine s_val (r_not rfl) ?_
      refine c_nil (l' := [_, _, _, _, _, _, _, _, _, _, _, _, _, _, _, _, _, _, _, _, _, _, _, _, _, _, _, _, _, _, _, _, _, _, _, _, _, _, _, _, _, _, _, _, _, _, _, _, _, _]) rfl ?_
      refine c_ift rfl ?_
      refine c_rseq (n := 50) ⟨rfl, rfl⟩ ?_
      refine s_val (r_move rfl) ?_
      refine s_test (r_eql rfl rfl) (fun h30 => ?_) (fun h30 => ?_)
      · skip
        refine s_val (r_move rfl) ?_
        refine g_yes rfl rfl ?_
        refine s_val (r_move rfl) ?_
        refine g_yes rfl rfl ?_
        refine s_val (r_lens Tryd.runUnderlying24 (ec rfl en)) ?_
        refine g_yes rfl rfl ?_
        refine s_val (r_eql rfl rfl) ?_
        refine s_val (r_pickt rfl rfl) ?_
        refine s_val (r_assign rfl) ?_
        refine c_nil (l' := [_, _, _, _, _, _, _, _, _, _, _, _, _, _, _, _, _, _, _, _, _, _, _, _, _, _, _, _, _, _, _, _, _, _, _, _, _, _, _, _, _, _, _, _, _, _, _, _, _, _]) rfl ?_
        refine wp_ret (x_thenRet ?_)
        refine e_ret (res1 rfl rfl) ⟨_, rfl, ?_⟩
        exact ⟨rfl, H.sub (List.nil_sublist _)⟩
      · skip
        exfalso; omega

set_option maxHeartbeats 4000000 in
theorem decodes_law (a : Option Addr) (cap : Nat) (bs : List UInt8) (hc : bs.length ≤ cap) (w0 : World) (hr : BRow w0 a bs) (hT : TabH w0) :
    Calls Tryd.prog 4 #[.slice a bs.length cap] w0 fun e w => ∃ v, e = .returned v ∧ (v = .bool true ∧ St w0 [] w []) := by
  have H := St.refl w0
  refine c_enter (args := [.slice a bs.length cap]) (l := [.slice a bs.length cap, undef, undef, undef, undef, undef, undef, undef, undef, undef, undef, undef, undef, undef, undef, undef, undef, undef, undef, undef, undef, undef, undef, undef, undef, undef, undef, undef, undef, undef, undef, undef, undef, undef, undef, undef, undef, undef, undef, undef, undef, undef, undef, undef, undef, undef, undef, undef, undef, undef, undef, undef, undef, undef, undef, undef, undef, undef, undef, undef, undef, undef, undef, undef, undef, undef, undef, undef, undef, undef, undef, undef, undef, undef, undef]) Tryd.func4 Tryd.ntmps4 rfl rfl ?_
  refine c_rseq (n := 75) ⟨rfl, rfl⟩ ?_
  refine s_val (r_assign rfl) ?_
  refine c_nil (l' := [_, _, _, _, _, _, _, _, _, _, _, _, _, _, _, _, _, _, _, _, _, _, _, _, _, _, _, _, _, _, _, _, _, _, _, _, _, _, _, _, _, _, _, _, _, _, _, _, _, _, _, _, _, _, _, _, _, _, _, _, _, _, _, _, _, _, _, _, _, _, _, _, _, _, _]) rfl ?_
  refine c_seq ?_
  refine c_rseq (n := 75) ⟨rfl, rfl⟩ ?_
  refine s_call (r_call Tryd.call5 en) (awake_spec _ (hT.st H)) ?_
  rintro v w ⟨rfl, HC⟩
  replace H := H.quiet HC
  refine s_val (r_not rfl) ?_
  refine c_nil (l' := [_, _, _, _, _, _, _, _, _, _, _, _, _, _, _, _, _, _, _, _, _, _, _, _, _, _, _, _, _, _, _, _, _, _, _, _, _, _, _, _, _, _, _, _, _, _, _, _, _, _, _, _, _, _, _, _, _, _, _, _, _, _, _, _, _, _, _, _, _, _, _, _, _, _, _]) rfl ?_
  refine c_iff rfl ?_
  refine wp_skip ?_
  refine x_thenNormal ?_
  refine c_seq ?_
  refine c_rseq (n := 75) ⟨rfl, rfl⟩ ?_
  refine s_val (r_move rfl) ?_
  refine s_val (r_lens Tryd.runUnderlying24 (ec rfl en)) ?_
  refine s_val (r_gtr rfl rfl) ?_
  refine c_nil (l' := [_, _, _, _, _, _, _, _, _, _, _, _, _, _, _, _, _, _, _, _, _, _, _, _, _, _, _, _, _, _, _, _, _, _, _, _, _, _, _, _, _, _, _, _, _, _, _, _, _, _, _, _, _, _, _, _, _, _, _, _, _, _, _, _, _, _, _, _, _, _, _, _, _, _, _]) rfl ?_
  refine c_if rfl (fun h15 => ?_) (fun h15 => ?_)
  · skip
    refine c_rseq (n := 75) ⟨rfl, rfl⟩ ?_
    refine s_val (r_assign rfl) ?_
    refine c_nil (l' := [_, _, _, _, _, _, _, _, _, _, _, _, _, _, _, _, _, _, _, _, _, _, _, _, _, _, _, _, _, _, _, _, _, _, _, _, _, _, _, _, _, _, _, _, _, _, _, _, _, _, _, _, _, _, _, _, _, _, _, _, _, _, _, _, _, _, _, _, _, _, _, _, _, _, _]) rfl ?_
    refine wp_ret (x_thenRet ?_)
    refine e_ret (res1 rfl rfl) ⟨_, rfl, ?_⟩
    exact ⟨rfl, H.sub (List.nil_sublist _)⟩
  · skip
    refine wp_skip ?_
    refine x_thenNormal ?_
    refine c_rseq (n := 75) ⟨rfl, rfl⟩ ?_
    refine s_val (r_move rfl) ?_
    refine s_call (r_call Tryd.call10 (ec rfl en)) (dec_spec _ _ bs (by omega) hc _ (hr.st H) (hT.st H)) ?_
    rintro v w (⟨m, hS, hm, hV, a2, c2, N2, rfl, hN2, HC⟩ | ⟨hV, rfl, HC⟩)
    · skip
      replace H := H.call0 HC
      obtain ⟨xs, hxs⟩ : ∃ xs, decNs bs m = xs := ⟨_, rfl⟩
      have hlen := decNs_length bs m
      have hinr := decNs_inR bs m
      have hen := enc_dec hS hm
      rw [hxs] at hN2 hlen hinr hV hen
      subst hlen
      refine s_val (r_move rfl) ?_
      refine s_val (r_extract rfl rfl) ?_
      refine s_val (r_extract rfl rfl) ?_
      refine s_val (r_assign rfl) ?_
      refine s_val (r_assign rfl) ?_
      refine c_nil (l' := [_, _, _, _, _, _, _, _, _, _, _, _, _, _, _, _, _, _, _, _, _, _, _, _, _, _, _, _, _, _, _, _, _, _, _, _, _, _, _, _, _, _, _, _, _, _, _, _, _, _, _, _, _, _, _, _, _, _, _, _, _, _, _, _, _, _, _, _, _, _, _, _, _, _, _]) rfl ?_
      refine c_rseq (n := 75) ⟨rfl, rfl⟩ ?_
      refine s_val (r_move rfl) ?_
      refine s_call (r_call Tryd.call11 (ec rfl en)) (rdec_yes _ _ bs xs.length (by omega) _ (hr.st H) hS hm (by rw [hxs]; exact hV)) ?_
      rintro v w ⟨a3, c3, N3, rfl, hN3, HC⟩
      replace H := H.call0 HC
      rw [hxs] at hN3
      refine s_val (r_move rfl) ?_
      refine s_val (r_extract rfl rfl) ?_
      refine s_val (r_extract rfl rfl) ?_
      refine s_val (r_assign rfl) ?_
      refine s_val (r_assign rfl) ?_
      refine c_nil (l' := [_, _, _, _, _, _, _, _, _, _, _, _, _, _, _, _, _, _, _, _, _, _, _, _, _, _, _, _, _, _, _, _, _, _, _, _, _, _, _, _, _, _, _, _, _, _, _, _, _, _, _, _, _, _, _, _, _, _, _, _, _, _, _, _, _, _, _, _, _, _, _, _, _, _, _]) rfl ?_
      refine c_seq ?_
      refine c_rseq (n := 75) ⟨rfl, rfl⟩ ?_
      refine s_val (r_move rfl) ?_
      refine s_val (r_not rfl) ?_
      refine c_nil (l' := [_, _, _, _, _, _, _, _, _, _, _, _, _, _, _, _, _, _, _, _, _, _, _, _, _, _, _, _, _, _, _, _, _, _, _, _, _, _, _, _, _, _, _, _, _, _, _, _, _, _, _, _, _, _, _, _, _, _, _, _, _, _, _, _, _, _, _, _, _, _, _, _, _, _, _]) rfl ?_
      refine c_iff rfl ?_
      refine wp_skip ?_
      refine x_thenNormal ?_
      refine c_rseq (n := 75) ⟨rfl, rfl⟩ ?_
      refine s_val (r_move rfl) ?_
      refine s_call (r_call Tryd.call8 (ec rfl en)) (plain_spec _ _ xs (by omega) _ (hN2.hrowM H (by intro p hp; simp [hp]))) ?_
      rintro v w ⟨a4, c4, N4, rfl, hN4, HC⟩
      replace H := H.call0 HC
      refine s_val (r_assign rfl) ?_
      refine c_nil (l' := [_, _, _, _, _, _, _, _, _, _, _, _, _, _, _, _, _, _, _, _, _, _, _, _, _, _, _, _, _, _, _, _, _, _, _, _, _, _, _, _, _, _, _, _, _, _, _, _, _, _, _, _, _, _, _, _, _, _, _, _, _, _, _, _, _, _, _, _, _, _, _, _, _, _, _]) rfl ?_
      refine c_seq ?_
      refine c_rseq (n := 75) ⟨rfl, rfl⟩ ?_
      refine s_val (r_move rfl) ?_
      refine s_test (r_neq rfl rfl) (fun h38 => ?_) (fun h38 => ?_)
      · skip
        exfalso; omega
      · skip
        refine s_val (r_move rfl) ?_
        refine g_yes rfl rfl ?_
        refine s_val (r_move rfl) ?_
        refine g_yes rfl rfl ?_
        refine s_val (r_lens Tryd.runUnderlying30 (ec rfl en)) ?_
        refine g_yes rfl rfl ?_
        refine s_val (r_move rfl) ?_
        refine g_yes rfl rfl ?_
        refine s_val (r_lens Tryd.runUnderlying30 (ec rfl en)) ?_
        refine g_yes rfl rfl ?_
        refine s_val (r_neq rfl rfl) ?_
        refine s_val (r_pickf rfl rfl) ?_
        refine c_nil (l' := [_, _, _, _, _, _, _, _, _, _, _, _, _, _, _, _, _, _, _, _, _, _, _, _, _, _, _, _, _, _, _, _, _, _, _, _, _, _, _, _, _, _, _, _, _, _, _, _, _, _, _, _, _, _, _, _, _, _, _, _, _, _, _, _, _, _, _, _, _, _, _, _, _, _, _]) rfl ?_
        refine c_if rfl (fun h45 => ?_) (fun h45 => ?_)
        · skip
          exfalso; omega
        · skip
          refine wp_skip ?_
          refine x_thenNormal ?_
          refine c_seq ?_
          refine c_rseq (n := 75) ⟨rfl, rfl⟩ ?_
          refine s_val (r_move rfl) ?_
          refine s_val (r_lens Tryd.runUnderlying30 (ec rfl en)) ?_
          refine s_val (r_move rfl) ?_
          refine c_nil (l' := [_, _, _, _, _, _, _, _, _, _, _, _, _, _, _, _, _, _, _, _, _, _, _, _, _, _, _, _, _, _, _, _, _, _, _, _, _, _, _, _, _, _, _, _, _, _, _, _, _, _, _, _, _, _, _, _, _, _, _, _, _, _, _, _, _, _, _, _, _, _, _, _, _, _, _]) rfl ?_
          refine wp_block ?_
          refine c_loop (fun (l0 : List Value) (j : Nat) (l : List Value) (w : World) => ∃ (u2 u8 u49 u50 u51 u52 u53 u54 u55 u56 u57 u58 u59 u60 : Value) , l = ovr l0 [N_, N_, Y_ u2, N_, N_, N_, N_, N_, Y_ u8, N_, N_, N_, N_, N_, N_, N_, N_, N_, N_, N_, N_, N_, N_, N_, N_, N_, N_, N_, N_, N_, N_, N_, N_, N_, N_, N_, N_, N_, N_, N_, N_, N_, N_, N_, N_, N_, N_, N_, Y_ (.int .i64 j), Y_ u49, Y_ u50, Y_ u51, Y_ u52, Y_ u53, Y_ u54, Y_ u55, Y_ u56, Y_ u57, Y_ u58, Y_ u59, Y_ u60] ∧ j ≤ xs.length ∧ St w0 [] w ((N4 ++ (N3 ++ (N2 ++ []))))) (fun (j : Nat) => xs.length - j) 0 ⟨_, _, _, _, _, _, _, _, _, _, _, _, _, _, rfl, by omega, H⟩ ?_
          intro j l w ⟨u2, u8, u49, u50, u51, u52, u53, u54, u55, u56, u57, u58, u59, u60, hl, hj, H⟩
          obtain rfl := hl.trans (rfl : _ = [_, _, _, _, _, _, _, _, _, _, _, _, _, _, _, _, _, _, _, _, _, _, _, _, _, _, _, _, _, _, _, _, _, _, _, _, _, _, _, _, _, _, _, _, _, _, _, _, _, _, _, _, _, _, _, _, _, _, _, _, _, _, _, _, _, _, _, _, _, _, _, _, _, _, _])
          clear hl
          refine c_rseq (n := 75) ⟨rfl, rfl⟩ ?_
          refine s_val (r_lss rfl rfl) ?_
          refine c_nil (l' := [_, _, _, _, _, _, _, _, _, _, _, _, _, _, _, _, _, _, _, _, _, _, _, _, _, _, _, _, _, _, _, _, _, _, _, _, _, _, _, _, _, _, _, _, _, _, _, _, _, _, _, _, _, _, _, _, _, _, _, _, _, _, _, _, _, _, _, _, _, _, _, _, _, _, _]) rfl ?_
          refine c_seq ?_
          refine c_if rfl (fun h49 => ?_) (fun h49 => ?_)
          · skip
            obtain ⟨b5, q5, rfl, hm5⟩ := hN4.hmem (xs := xs) (L := N4 ++ (N3 ++ (N2 ++ []))) (by intro p hp; simp [hp]) (by omega)
            obtain ⟨b6, q6, rfl, hm6⟩ := hN3.hmem (xs := xs) (L := N4 ++ (N3 ++ (N2 ++ []))) (by intro p hp; simp [hp]) (by omega)
            refine wp_skip ?_
            refine x_thenNormal ?_
            refine c_seq ?_
            refine wp_block ?_
            refine c_rseq (n := 75) ⟨rfl, rfl⟩ ?_
            refine s_val (r_move rfl) ?_
            refine s_val (r_assign rfl) ?_
            refine c_nil (l' := [_, _, _, _, _, _, _, _, _, _, _, _, _, _, _, _, _, _, _, _, _, _, _, _, _, _, _, _, _, _, _, _, _, _, _, _, _, _, _, _, _, _, _, _, _, _, _, _, _, _, _, _, _, _, _, _, _, _, _, _, _, _, _, _, _, _, _, _, _, _, _, _, _, _, _]) rfl ?_
            refine c_seq ?_
            refine d_begin (sz := 75) ⟨rfl, rfl⟩ (by kernel_rfl) H (H) rfl ?_
            intro w H
            refine d_take (i := 0) rfl (by kernel_rfl) (fun _ _ _ h => h) H (fun _ _ => r_move rfl) rfl ?_
            refine d_take (i := 1) rfl (by kernel_rfl) (fun _ _ _ h => h) H (fun _ _ => r_move rfl) rfl ?_
            refine d_take (i := 2) rfl (by kernel_rfl) (fun _ _ _ h => h) H (fun _ _ => r_indexAddrS Tryd.runUnderlying30 Tryd.sizeOf41 rfl rfl (by omega) (by omega)) rfl ?_
            refine d_take (i := 3) rfl (by kernel_rfl) (fun _ _ _ h => h) H (fun _ HS => r_loadn Tryd.isAgg41 Tryd.sizeOf41 rfl (HS.own (b5, _) hm5) (hs_tdn _ xs _ 0 j rfl (by omega)) (by first | exact (kC_length _) | exact (hC_length _) | exact rfl)) rfl ?_
            refine d_take (i := 4) rfl (by kernel_rfl) (fun _ _ _ h => h) H (fun _ _ => r_move rfl) rfl ?_
            refine d_take (i := 5) rfl (by kernel_rfl) (fun _ _ _ h => h) H (fun _ _ => r_move rfl) rfl ?_
            refine d_take (i := 6) rfl (by kernel_rfl) (fun _ _ _ h => h) H (fun _ _ => r_indexAddrS Tryd.runUnderlying30 Tryd.sizeOf41 rfl rfl (by omega) (by omega)) rfl ?_
            refine d_take (i := 7) rfl (by kernel_rfl) (fun _ _ _ h => h) H (fun _ HS => r_loadn Tryd.isAgg41 Tryd.sizeOf41 rfl (HS.own (b6, _) hm6) (hs_tdn _ xs _ 0 j rfl (by omega)) (by first | exact (kC_length _) | exact (hC_length _) | exact rfl)) rfl ?_
            refine d_take (i := 8) rfl (by kernel_rfl) (fun _ _ _ h => h) H (fun _ _ => r_neqN nodeT41 (a := nd xs j) (b := nd xs j) rfl rfl) rfl ?_
            refine d_done (l' := [_, _, _, _, _, _, _, _, _, _, _, _, _, _, _, _, _, _, _, _, _, _, _, _, _, _, _, _, _, _, _, _, _, _, _, _, _, _, _, _, _, _, _, _, _, _, _, _, _, _, _, _, _, _, _, _, _, _, _, _, _, _, _, _, _, _, _, _, _, _, _, _, _, _, _]) (by kernel_rfl) rfl ?_
            refine x_thenNormal ?_
            refine c_if rfl (fun h59 => ?_) (fun h59 => ?_)
            · skip
              exact absurd rfl h59
            · skip
              refine wp_skip ?_
              refine x_blockNormal ?_
              refine x_thenNormal ?_
              refine c_region (n := 75) ⟨rfl, rfl⟩ ?_
              refine s_val (r_add rfl rfl (w_i64 (by omega) (by omega))) ?_
              refine s_val (r_move rfl) ?_
              refine c_nil0 (l' := [_, _, _, _, _, _, _, _, _, _, _, _, _, _, _, _, _, _, _, _, _, _, _, _, _, _, _, _, _, _, _, _, _, _, _, _, _, _, _, _, _, _, _, _, _, _, _, _, _, _, _, _, _, _, _, _, _, _, _, _, _, _, _, _, _, _, _, _, _, _, _, _, _, _, _]) rfl ?_
              exact ⟨j + 1, _, rfl, ⟨_, _, _, _, _, _, _, _, _, _, _, _, _, _, rfl, by omega, H⟩, by omega⟩
          · skip
            obtain rfl : j = xs.length := by omega
            refine wp_exit (x_thenExit (x_thenExit (x_blockHit ?_)))
            refine x_thenNormal ?_
            refine c_rseq (n := 75) ⟨rfl, rfl⟩ ?_
            refine s_val (r_move rfl) ?_
            refine s_call (r_call Tryd.call6 (ec rfl en)) (enc_ok _ _ xs (by omega) hinr _ (hN2.hrowM H (by intro p hp; simp [hp])) (hT.st H) hV) ?_
            rintro v w ⟨a6, c6, N6, rfl, hN6, HC⟩
            replace H := H.call0 HC
            refine s_val (r_move rfl) ?_
            refine s_val (r_extract rfl rfl) ?_
            refine s_val (r_extract rfl rfl) ?_
            refine s_val (r_assign rfl) ?_
            refine s_val (r_assign rfl) ?_
            refine c_nil (l' := [_, _, _, _, _, _, _, _, _, _, _, _, _, _, _, _, _, _, _, _, _, _, _, _, _, _, _, _, _, _, _, _, _, _, _, _, _, _, _, _, _, _, _, _, _, _, _, _, _, _, _, _, _, _, _, _, _, _, _, _, _, _, _, _, _, _, _, _, _, _, _, _, _, _, _]) rfl ?_
            refine c_rseq (n := 75) ⟨rfl, rfl⟩ ?_
            refine s_val (r_move rfl) ?_
            refine s_test (r_eql rfl rfl) (fun h67 => ?_) (fun h67 => ?_)
            · skip
              refine s_val (r_move rfl) ?_
              refine g_yes rfl rfl ?_
              refine s_val (r_move rfl) ?_
              refine g_yes rfl rfl ?_
              refine s_val (r_textR Tryd.runUnderlying24 Tryd.runUnderlying9 Tryd.runUnderlying5 rfl (by rw [encB_length]; omega) (hN6.browM H (by intro p hp; simp [hp]))) ?_
              refine g_yes rfl rfl ?_
              refine s_val (r_move rfl) ?_
              refine g_yes rfl rfl ?_
              refine s_val (r_textR Tryd.runUnderlying24 Tryd.runUnderlying9 Tryd.runUnderlying5 rfl (by have := hS.1; omega) (hr.st H)) ?_
              refine g_yes rfl rfl ?_
              refine s_val (r_eqlT rfl rfl) ?_
              refine s_val (r_pickt rfl rfl) ?_
              refine s_val (r_assign rfl) ?_
              refine c_nil (l' := [_, _, _, _, _, _, _, _, _, _, _, _, _, _, _, _, _, _, _, _, _, _, _, _, _, _, _, _, _, _, _, _, _, _, _, _, _, _, _, _, _, _, _, _, _, _, _, _, _, _, _, _, _, _, _, _, _, _, _, _, _, _, _, _, _, _, _, _, _, _, _, _, _, _, _]) rfl ?_
              refine wp_ret ?_
              refine e_ret (res1 rfl rfl) ⟨_, rfl, ?_⟩
              exact ⟨by rw [decide_eq_true hen], H.sub (List.nil_sublist _)⟩
            · skip
              exfalso; omega
    · skip
      replace H := H.quiet HC
      refine s_val (r_move rfl) ?_
      refine s_val (r_extract rfl rfl) ?_
      refine s_val (r_extract rfl rfl) ?_
      refine s_val (r_assign rfl) ?_
      refine s_val (r_assign rfl) ?_
      refine c_nil (l' := [_, _, _, _, _, _, _, _, _, _, _, _, _, _, _, _, _, _, _, _, _, _, _, _, _, _, _, _, _, _, _, _, _, _, _, _, _, _, _, _, _, _, _, _, _, _, _, _, _, _, _, _, _, _, _, _, _, _, _, _, _, _, _, _, _, _, _, _, _, _, _, _, _, _, _]) rfl ?_
      refine c_rseq (n := 75) ⟨rfl, rfl⟩ ?_
      refine s_val (r_move rfl) ?_
      refine s_call (r_call Tryd.call11 (ec rfl en)) (rdec_no _ _ bs (by omega) _ (hr.st H) hV) ?_
      rintro v w ⟨rfl, HC⟩
      replace H := H.quiet HC
      refine s_val (r_move rfl) ?_
      refine s_val (r_extract rfl rfl) ?_
      refine s_val (r_extract rfl rfl) ?_
      refine s_val (r_assign rfl) ?_
      refine s_val (r_assign rfl) ?_
      refine c_nil (l' := [_, _, _, _, _, _, _, _, _, _, _, _, _, _, _, _, _, _, _, _, _, _, _, _, _, _, _, _, _, _, _, _, _, _, _, _, _, _, _, _, _, _, _, _, _, _, _, _, _, _, _, _, _, _, _, _, _, _, _, _, _, _, _, _, _, _, _, _, _, _, _, _, _, _, _]) rfl ?_
      refine c_seq ?_
      refine c_rseq (n := 75) ⟨rfl, rfl⟩ ?_
      refine s_val (r_move rfl) ?_
      refine s_val (r_not rfl) ?_
      refine c_nil (l' := [_, _, _, _, _, _, _, _, _, _, _, _, _, _, _, _, _, _, _, _, _, _, _, _, _, _, _, _, _, _, _, _, _, _, _, _, _, _, _, _, _, _, _, _, _, _, _, _, _, _, _, _, _, _, _, _, _, _, _, _, _, _, _, _, _, _, _, _, _, _, _, _, _, _, _]) rfl ?_
      refine c_ift rfl ?_
      refine c_rseq (n := 75) ⟨rfl, rfl⟩ ?_
      refine s_val (r_move rfl) ?_
      refine s_test (r_eql rfl rfl) (fun h29 => ?_) (fun h29 => ?_)
      · skip
        refine s_val (r_move rfl) ?_
        refine g_yes rfl rfl ?_
        refine s_val (r_move rfl) ?_
        refine g_yes rfl rfl ?_
        refine s_val (r_lens Tryd.runUnderlying22 (ec rfl en)) ?_
        refine g_yes rfl rfl ?_
        refine s_val (r_eql rfl rfl) ?_
        refine s_val (r_pickt rfl rfl) ?_
        refine s_val (r_assign rfl) ?_
        refine c_nil (l' := [_, _, _, _, _, _, _, _, _, _, _, _, _, _, _, _, _, _, _, _, _, _, _, _, _, _, _, _, _, _, _, _, _, _, _, _, _, _, _, _, _, _, _, _, _, _, _, _, _, _, _, _, _, _, _, _, _, _, _, _, _, _, _, _, _, _, _, _, _, _, _, _, _, _, _]) rfl ?_
        refine wp_ret (x_thenRet ?_)
        refine e_ret (res1 rfl rfl) ⟨_, rfl, ?_⟩
        exact ⟨rfl, H.sub (List.nil_sublist _)⟩
      · skip
        exfalso; omega

end Go.Proofs.YtabdnbmibomggaaDoor
