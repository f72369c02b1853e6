import Derived.Test.YtbjalofmamoffaaPZ1
import Derived.Test.YtbjalofmamoffaaPV2
namespace Go.Proofs.Ytbjalofmamoffaa
open Go Go.Er
theorem bytes40 : Try.t40.bytes = 24 := rfl

set_option maxHeartbeats 4000000 in
set_option maxRecDepth 20000 in
theorem moves_law (sz : Int) (ht0 : 0 ≤ sz) (ht1 : sz < 256) (pa : Option Addr) (pl : List Bd) (pc : Nat) (hlp : pl.length ≤ 9223372036854775807) (ma : Option Addr) (mb : List UInt8) (mc : Nat) (hlm : mb.length ≤ 9223372036854775807) (w0 : World) (hr : RRow bdC w0 pa pl) (hb : ∀ i, i < pl.length → BRow w0 (pl.getD i bdZ).a (pl.getD i bdZ).b) (hmo : BRow w0 ma mb) :
    Calls Try.prog 5 #[.int .u8 sz, .slice pa pl.length pc, .slice ma mb.length mc] w0 fun e w => ∃ v, e = .returned v ∧ (v = .bool true ∧ St w0 [] w []) := by
  have H := St.refl w0
  refine c_enter (args := [.int .u8 sz, .slice pa pl.length pc, .slice ma mb.length mc]) (l := [.int .u8 sz, .slice pa pl.length pc, .slice ma mb.length mc, undef, undef, undef, undef, undef, undef, undef, undef, undef, undef, undef, undef, undef, undef, undef, undef, undef, undef, undef, undef, undef, undef, undef, undef, undef, undef, undef, undef, undef, undef, undef, undef, undef, undef, undef, undef, undef, undef, undef, undef, undef, undef, undef, undef, undef, undef, undef, undef, undef, undef, undef, undef, undef, undef, undef, undef, undef, undef, undef, undef, undef, undef, undef, undef, undef, undef, undef, undef, undef, undef, undef, undef, undef, undef, undef, undef, undef, undef, undef, undef, undef, undef, undef, undef, undef, undef, undef, undef, undef, undef, undef, undef, undef, undef, undef, undef, undef, undef, undef, undef, undef, undef, undef, undef, undef, undef, undef, undef, undef, undef, undef, undef, undef, undef, undef, undef, undef, undef, undef, undef, undef, undef, undef, undef, undef, undef, undef, undef, undef, undef, undef, undef, undef, undef, undef, undef, undef, undef, undef, undef, undef, undef, undef, undef, undef, undef, undef, undef, undef, undef, undef, undef, undef, undef, undef, undef, undef, undef, undef, undef, undef, undef, undef, undef, undef, undef, undef, undef, undef, undef, undef, undef, undef, undef, undef]) Try.func5 Try.ntmps5 rfl rfl ?_
  refine c_rseq (n := 178) ⟨rfl, rfl⟩ ?_
  refine s_val (r_assign rfl) ?_
  refine c_nil (l' := [_,_,_,_,_,_,_,_,_,_,_,_,_,_,_,_,_,_,_,_,_,_,_,_,_,_,_,_,_,_,_,_,_,_,_,_,_,_,_,_,_,_,_,_,_,_,_,_,_,_,_,_,_,_,_,_,_,_,_,_,_,_,_,_,_,_,_,_,_,_,_,_,_,_,_,_,_,_,_,_,_,_,_,_,_,_,_,_,_,_,_,_,_,_,_,_,_,_,_,_,_,_,_,_,_,_,_,_,_,_,_,_,_,_,_,_,_,_,_,_,_,_,_,_,_,_,_,_,_,_,_,_,_,_,_,_,_,_,_,_,_,_,_,_,_,_,_,_,_,_,_,_,_,_,_,_,_,_,_,_,_,_,_,_,_,_,_,_,_,_,_,_,_,_,_,_,_,_]) rfl ?_
  refine c_seq ?_
  refine c_rseq (n := 178) ⟨rfl, rfl⟩ ?_
  refine s_call (r_call Try.call8 en) (awake_spec _) ?_
  rintro v w ⟨rfl, HC⟩
  replace H := H.quiet HC
  refine s_val (r_not rfl) ?_
  refine c_nil (l' := [_,_,_,_,_,_,_,_,_,_,_,_,_,_,_,_,_,_,_,_,_,_,_,_,_,_,_,_,_,_,_,_,_,_,_,_,_,_,_,_,_,_,_,_,_,_,_,_,_,_,_,_,_,_,_,_,_,_,_,_,_,_,_,_,_,_,_,_,_,_,_,_,_,_,_,_,_,_,_,_,_,_,_,_,_,_,_,_,_,_,_,_,_,_,_,_,_,_,_,_,_,_,_,_,_,_,_,_,_,_,_,_,_,_,_,_,_,_,_,_,_,_,_,_,_,_,_,_,_,_,_,_,_,_,_,_,_,_,_,_,_,_,_,_,_,_,_,_,_,_,_,_,_,_,_,_,_,_,_,_,_,_,_,_,_,_,_,_,_,_,_,_,_,_,_,_,_,_]) rfl ?_
  refine c_iff rfl ?_
  refine wp_skip ?_
  refine x_thenNormal ?_
  refine c_seq ?_
  refine c_rseq (n := 178) ⟨rfl, rfl⟩ ?_
  refine s_val (r_move rfl) ?_
  refine s_val (r_lens Try.runUnderlying60 (ec rfl en)) ?_
  refine s_test (r_eql rfl rfl) (fun h32 => ?_) (fun h32 => ?_)
  · skip
    refine s_val (r_move rfl) ?_
    refine g_no rfl rfl (by decide) ?_
    refine g_no rfl rfl (by decide) ?_
    refine g_no rfl rfl (by decide) ?_
    refine s_val (r_pickt rfl rfl) ?_
    refine s_val (r_move rfl) ?_
    refine g_no rfl rfl (by decide) ?_
    refine g_no rfl rfl (by decide) ?_
    refine g_no rfl rfl (by decide) ?_
    refine s_val (r_pickt rfl rfl) ?_
    refine c_nil (l' := [_,_,_,_,_,_,_,_,_,_,_,_,_,_,_,_,_,_,_,_,_,_,_,_,_,_,_,_,_,_,_,_,_,_,_,_,_,_,_,_,_,_,_,_,_,_,_,_,_,_,_,_,_,_,_,_,_,_,_,_,_,_,_,_,_,_,_,_,_,_,_,_,_,_,_,_,_,_,_,_,_,_,_,_,_,_,_,_,_,_,_,_,_,_,_,_,_,_,_,_,_,_,_,_,_,_,_,_,_,_,_,_,_,_,_,_,_,_,_,_,_,_,_,_,_,_,_,_,_,_,_,_,_,_,_,_,_,_,_,_,_,_,_,_,_,_,_,_,_,_,_,_,_,_,_,_,_,_,_,_,_,_,_,_,_,_,_,_,_,_,_,_,_,_,_,_,_,_]) rfl ?_
    refine c_ift rfl ?_
    refine c_rseq (n := 178) ⟨rfl, rfl⟩ ?_
    refine s_val (r_assign rfl) ?_
    refine c_nil (l' := [_,_,_,_,_,_,_,_,_,_,_,_,_,_,_,_,_,_,_,_,_,_,_,_,_,_,_,_,_,_,_,_,_,_,_,_,_,_,_,_,_,_,_,_,_,_,_,_,_,_,_,_,_,_,_,_,_,_,_,_,_,_,_,_,_,_,_,_,_,_,_,_,_,_,_,_,_,_,_,_,_,_,_,_,_,_,_,_,_,_,_,_,_,_,_,_,_,_,_,_,_,_,_,_,_,_,_,_,_,_,_,_,_,_,_,_,_,_,_,_,_,_,_,_,_,_,_,_,_,_,_,_,_,_,_,_,_,_,_,_,_,_,_,_,_,_,_,_,_,_,_,_,_,_,_,_,_,_,_,_,_,_,_,_,_,_,_,_,_,_,_,_,_,_,_,_,_,_]) rfl ?_
    refine wp_ret (x_thenRet ?_)
    refine e_ret (res1 rfl rfl) ⟨_, rfl, ?_⟩
    exact ⟨rfl, H.sub (List.nil_sublist _)⟩
  · skip
    refine s_val (r_move rfl) ?_
    refine g_yes rfl rfl ?_
    refine s_val (r_move rfl) ?_
    refine g_yes rfl rfl ?_
    refine s_val (r_lens Try.runUnderlying60 (ec rfl en)) ?_
    refine g_yes rfl rfl ?_
    refine s_test (r_gtr rfl rfl) (fun h36 => ?_) (fun h36 => ?_)
    · skip
      refine s_val (r_pickf rfl rfl) ?_
      refine s_val (r_move rfl) ?_
      refine g_no rfl rfl (by decide) ?_
      refine g_no rfl rfl (by decide) ?_
      refine g_no rfl rfl (by decide) ?_
      refine s_val (r_pickt rfl rfl) ?_
      refine c_nil (l' := [_,_,_,_,_,_,_,_,_,_,_,_,_,_,_,_,_,_,_,_,_,_,_,_,_,_,_,_,_,_,_,_,_,_,_,_,_,_,_,_,_,_,_,_,_,_,_,_,_,_,_,_,_,_,_,_,_,_,_,_,_,_,_,_,_,_,_,_,_,_,_,_,_,_,_,_,_,_,_,_,_,_,_,_,_,_,_,_,_,_,_,_,_,_,_,_,_,_,_,_,_,_,_,_,_,_,_,_,_,_,_,_,_,_,_,_,_,_,_,_,_,_,_,_,_,_,_,_,_,_,_,_,_,_,_,_,_,_,_,_,_,_,_,_,_,_,_,_,_,_,_,_,_,_,_,_,_,_,_,_,_,_,_,_,_,_,_,_,_,_,_,_,_,_,_,_,_,_]) rfl ?_
      refine c_ift rfl ?_
      refine c_rseq (n := 178) ⟨rfl, rfl⟩ ?_
      refine s_val (r_assign rfl) ?_
      refine c_nil (l' := [_,_,_,_,_,_,_,_,_,_,_,_,_,_,_,_,_,_,_,_,_,_,_,_,_,_,_,_,_,_,_,_,_,_,_,_,_,_,_,_,_,_,_,_,_,_,_,_,_,_,_,_,_,_,_,_,_,_,_,_,_,_,_,_,_,_,_,_,_,_,_,_,_,_,_,_,_,_,_,_,_,_,_,_,_,_,_,_,_,_,_,_,_,_,_,_,_,_,_,_,_,_,_,_,_,_,_,_,_,_,_,_,_,_,_,_,_,_,_,_,_,_,_,_,_,_,_,_,_,_,_,_,_,_,_,_,_,_,_,_,_,_,_,_,_,_,_,_,_,_,_,_,_,_,_,_,_,_,_,_,_,_,_,_,_,_,_,_,_,_,_,_,_,_,_,_,_,_]) rfl ?_
      refine wp_ret (x_thenRet ?_)
      refine e_ret (res1 rfl rfl) ⟨_, rfl, ?_⟩
      exact ⟨rfl, H.sub (List.nil_sublist _)⟩
    · skip
      refine s_val (r_pickf rfl rfl) ?_
      refine s_val (r_move rfl) ?_
      refine g_yes rfl rfl ?_
      refine s_val (r_move rfl) ?_
      refine g_yes rfl rfl ?_
      refine s_val (r_lens Try.runUnderlying40 (ec rfl en)) ?_
      refine g_yes rfl rfl ?_
      refine s_val (r_gtr rfl rfl) ?_
      refine s_val (r_pickf rfl rfl) ?_
      refine c_nil (l' := [_,_,_,_,_,_,_,_,_,_,_,_,_,_,_,_,_,_,_,_,_,_,_,_,_,_,_,_,_,_,_,_,_,_,_,_,_,_,_,_,_,_,_,_,_,_,_,_,_,_,_,_,_,_,_,_,_,_,_,_,_,_,_,_,_,_,_,_,_,_,_,_,_,_,_,_,_,_,_,_,_,_,_,_,_,_,_,_,_,_,_,_,_,_,_,_,_,_,_,_,_,_,_,_,_,_,_,_,_,_,_,_,_,_,_,_,_,_,_,_,_,_,_,_,_,_,_,_,_,_,_,_,_,_,_,_,_,_,_,_,_,_,_,_,_,_,_,_,_,_,_,_,_,_,_,_,_,_,_,_,_,_,_,_,_,_,_,_,_,_,_,_,_,_,_,_,_,_]) rfl ?_
      refine c_if rfl (fun h42 => ?_) (fun h42 => ?_)
      · skip
        refine c_rseq (n := 178) ⟨rfl, rfl⟩ ?_
        refine s_val (r_assign rfl) ?_
        refine c_nil (l' := [_,_,_,_,_,_,_,_,_,_,_,_,_,_,_,_,_,_,_,_,_,_,_,_,_,_,_,_,_,_,_,_,_,_,_,_,_,_,_,_,_,_,_,_,_,_,_,_,_,_,_,_,_,_,_,_,_,_,_,_,_,_,_,_,_,_,_,_,_,_,_,_,_,_,_,_,_,_,_,_,_,_,_,_,_,_,_,_,_,_,_,_,_,_,_,_,_,_,_,_,_,_,_,_,_,_,_,_,_,_,_,_,_,_,_,_,_,_,_,_,_,_,_,_,_,_,_,_,_,_,_,_,_,_,_,_,_,_,_,_,_,_,_,_,_,_,_,_,_,_,_,_,_,_,_,_,_,_,_,_,_,_,_,_,_,_,_,_,_,_,_,_,_,_,_,_,_,_]) rfl ?_
        refine wp_ret (x_thenRet ?_)
        refine e_ret (res1 rfl rfl) ⟨_, rfl, ?_⟩
        exact ⟨rfl, H.sub (List.nil_sublist _)⟩
      · skip
        obtain ⟨b, off, pre, post, T0, fz0, rfl, hb0, hp0⟩ := hr (by omega)
        refine wp_skip ?_
        refine x_thenNormal ?_
        refine c_rseq (n := 178) ⟨rfl, rfl⟩ ?_
        refine s_val (r_move rfl) ?_
        refine s_call (r_call Try.call10 (ec rfl (ec rfl en))) (made_spec 3 sz (by decide) (by decide) ht0 ht1 _) ?_
        rintro v w ⟨bl, ba, bb, N, pp, pm, rfl, hL0, HC⟩
        have e6 : (3 + 3 % 4 : Int) = ((6 : Nat) : Int) := by decide
        obtain ⟨z, hz⟩ : ∃ z : Nat, (z : Int) = 1 + sz % 4 := ⟨(1 + sz % 4).toNat, by omega⟩
        rw [← hz, e6] at hL0 ⊢
        rw [newL_ord] at hL0
        have hO0 : OrdL 6 z [] (List.replicate (2 + 6 * z) zS) := OrdL.new (by omega) (by omega) (by omega) (by omega)
        have hz0 := hO0.1.z0
        have hgz := hO0.1.gz
        replace H : St w0 [] w N := by have h := H.call0 HC; rwa [List.append_nil] at h
        refine s_val (r_move rfl) ?_
        refine s_val (r_extract rfl rfl) ?_
        refine s_val (r_extract rfl rfl) ?_
        refine s_new (m_alloc (cs := (rigC none none none none none 0 0)) H Try.zeroValue32 rfl) ?_
        intro w b7 H
        refine s_st (m_storen H 0 7 Try.sizeOf32 rfl rfl (by first | exact (kC_length _) | exact (hC_length _) | exact (shC_length _ _) | exact (wC_length _) | exact (sdC_length _ _) | exact (xrL_length _ _ _) | exact (xrC_length _ _ _ _ _ _ _) | exact (rigC_length _ _ _ _ _ _ _) | exact (doC_length _) | exact (elFd.len _) | exact (fdV_length _ _ _) | exact (elFd.len _)) (by first | exact (kC_one _) | exact (hC_one _) | exact (shC_one _ _) | exact (elW.one _) | exact (sdC_one _ _) | exact (xrL_one _ _ _) | exact (xrC_one _ _ _ _ _ _ _) | exact (rigC_one _ _ _ _ _ _ _) | exact (elDo.one _) | exact (elFd.one _) | exact (fdV_one _ _ _)) rfl (by first | exact (by rw [kC_length]; omega) | exact (by rw [hC_length]; omega) | exact (by rw [wC_length]; omega) | exact (by show _ ≤ 5; omega) | exact (by show _ ≤ 7; omega) | exact (by show _ ≤ 3; omega)) rigC_sp) (L' := (_ :: _)) rfl ?_
        intro w H
        refine s_val (r_assign rfl) ?_
        refine c_nil (l' := [_,_,_,_,_,_,_,_,_,_,_,_,_,_,_,_,_,_,_,_,_,_,_,_,_,_,_,_,_,_,_,_,_,_,_,_,_,_,_,_,_,_,_,_,_,_,_,_,_,_,_,_,_,_,_,_,_,_,_,_,_,_,_,_,_,_,_,_,_,_,_,_,_,_,_,_,_,_,_,_,_,_,_,_,_,_,_,_,_,_,_,_,_,_,_,_,_,_,_,_,_,_,_,_,_,_,_,_,_,_,_,_,_,_,_,_,_,_,_,_,_,_,_,_,_,_,_,_,_,_,_,_,_,_,_,_,_,_,_,_,_,_,_,_,_,_,_,_,_,_,_,_,_,_,_,_,_,_,_,_,_,_,_,_,_,_,_,_,_,_,_,_,_,_,_,_,_,_]) rfl ?_
        refine c_seq ?_
        refine c_rseq (n := 178) ⟨rfl, rfl⟩ ?_
        refine s_val (r_move rfl) ?_
        refine s_val (r_eql rfl rfl) ?_
        refine c_nil (l' := [_,_,_,_,_,_,_,_,_,_,_,_,_,_,_,_,_,_,_,_,_,_,_,_,_,_,_,_,_,_,_,_,_,_,_,_,_,_,_,_,_,_,_,_,_,_,_,_,_,_,_,_,_,_,_,_,_,_,_,_,_,_,_,_,_,_,_,_,_,_,_,_,_,_,_,_,_,_,_,_,_,_,_,_,_,_,_,_,_,_,_,_,_,_,_,_,_,_,_,_,_,_,_,_,_,_,_,_,_,_,_,_,_,_,_,_,_,_,_,_,_,_,_,_,_,_,_,_,_,_,_,_,_,_,_,_,_,_,_,_,_,_,_,_,_,_,_,_,_,_,_,_,_,_,_,_,_,_,_,_,_,_,_,_,_,_,_,_,_,_,_,_,_,_,_,_,_,_]) rfl ?_
        refine c_if rfl (fun h49 => ?_) (fun h49 => ?_)
        · skip
          exfalso; omega
        · skip
          refine wp_skip ?_
          refine x_thenNormal ?_
          refine c_rseq (n := 178) ⟨rfl, rfl⟩ ?_
          refine s_val (r_fieldAddr (k := 5) Try.runUnderlying32 rfl Try.sizeOf30 (by decide) rfl rfl) ?_
          refine s_val (r_fieldAddr (k := 1) Try.runUnderlying30 rfl Try.sizeOf3 (by decide) rfl rfl) ?_
          refine s_val (r_load1 Try.isAgg3 rfl (H.at 0 rfl) rfl) ?_
          refine s_val (r_assign rfl) ?_
          refine c_nil (l' := [_,_,_,_,_,_,_,_,_,_,_,_,_,_,_,_,_,_,_,_,_,_,_,_,_,_,_,_,_,_,_,_,_,_,_,_,_,_,_,_,_,_,_,_,_,_,_,_,_,_,_,_,_,_,_,_,_,_,_,_,_,_,_,_,_,_,_,_,_,_,_,_,_,_,_,_,_,_,_,_,_,_,_,_,_,_,_,_,_,_,_,_,_,_,_,_,_,_,_,_,_,_,_,_,_,_,_,_,_,_,_,_,_,_,_,_,_,_,_,_,_,_,_,_,_,_,_,_,_,_,_,_,_,_,_,_,_,_,_,_,_,_,_,_,_,_,_,_,_,_,_,_,_,_,_,_,_,_,_,_,_,_,_,_,_,_,_,_,_,_,_,_,_,_,_,_,_,_]) rfl ?_
          refine c_rseq (n := 178) ⟨rfl, rfl⟩ ?_
          refine s_val (r_assign rfl) ?_
          refine c_nil (l' := [_,_,_,_,_,_,_,_,_,_,_,_,_,_,_,_,_,_,_,_,_,_,_,_,_,_,_,_,_,_,_,_,_,_,_,_,_,_,_,_,_,_,_,_,_,_,_,_,_,_,_,_,_,_,_,_,_,_,_,_,_,_,_,_,_,_,_,_,_,_,_,_,_,_,_,_,_,_,_,_,_,_,_,_,_,_,_,_,_,_,_,_,_,_,_,_,_,_,_,_,_,_,_,_,_,_,_,_,_,_,_,_,_,_,_,_,_,_,_,_,_,_,_,_,_,_,_,_,_,_,_,_,_,_,_,_,_,_,_,_,_,_,_,_,_,_,_,_,_,_,_,_,_,_,_,_,_,_,_,_,_,_,_,_,_,_,_,_,_,_,_,_,_,_,_,_,_,_]) rfl ?_
          refine c_seq ?_
          refine c_rseq (n := 178) ⟨rfl, rfl⟩ ?_
          refine s_val (r_move rfl) ?_
          refine s_val (r_mul rfl rfl (w_i64 (by omega) (by omega))) ?_
          refine s_val (r_move rfl) ?_
          refine c_nil (l' := [_,_,_,_,_,_,_,_,_,_,_,_,_,_,_,_,_,_,_,_,_,_,_,_,_,_,_,_,_,_,_,_,_,_,_,_,_,_,_,_,_,_,_,_,_,_,_,_,_,_,_,_,_,_,_,_,_,_,_,_,_,_,_,_,_,_,_,_,_,_,_,_,_,_,_,_,_,_,_,_,_,_,_,_,_,_,_,_,_,_,_,_,_,_,_,_,_,_,_,_,_,_,_,_,_,_,_,_,_,_,_,_,_,_,_,_,_,_,_,_,_,_,_,_,_,_,_,_,_,_,_,_,_,_,_,_,_,_,_,_,_,_,_,_,_,_,_,_,_,_,_,_,_,_,_,_,_,_,_,_,_,_,_,_,_,_,_,_,_,_,_,_,_,_,_,_,_,_]) rfl ?_
          refine wp_block ?_
          refine c_loop (fun (l0 : List Value) (i : Nat) (l : List Value) (w : World) => ∃ (u6 u11 u12 u13 u14 u56 u57 u58 u59 u60 u61 u62 u63 u64 u65 u66 u67 u68 u69 u70 u71 u72 u73 u74 u75 u76 u77 u78 u79 u80 u81 u82 u83 u84 : Value) (ea : Option Addr) (ce ne : Nat) (Ne : List (Nat × Obj)) (C : List Sec) (N : List (Nat × Obj)), l = ovr l0 [N_, N_, N_, N_, N_, N_, Y_ u6, N_, N_, N_, Y_ (.slice ea (cycD pl ne).length ce), Y_ u11, Y_ u12, Y_ u13, Y_ u14, N_, N_, N_, N_, N_, N_, N_, N_, N_, N_, N_, N_, N_, N_, N_, N_, N_, N_, N_, N_, N_, N_, N_, N_, N_, N_, N_, N_, N_, N_, N_, N_, N_, N_, N_, N_, N_, N_, N_, N_, Y_ (.int .i64 i), Y_ u56, Y_ u57, Y_ u58, Y_ u59, Y_ u60, Y_ u61, Y_ u62, Y_ u63, Y_ u64, Y_ u65, Y_ u66, Y_ u67, Y_ u68, Y_ u69, Y_ u70, Y_ u71, Y_ u72, Y_ u73, Y_ u74, Y_ u75, Y_ u76, Y_ u77, Y_ u78, Y_ u79, Y_ u80, Y_ u81, Y_ u82, Y_ u83, Y_ u84] ∧ i ≤ 3 * z ∧ ((ne = i ∧ i ≤ z) ∨ (ne = z ∧ z ≤ i)) ∧ OrdL 6 z (cycB pl i) C ∧ LogN 150 51 89 72 ba bb bl (ordS 6 z C (cycB pl i).length) i N ∧ RowN 1 40 (rowC bdC (cycD pl ne)) (cycD pl ne).length ea ce Ne ∧ St w0 [] w ((b7, .cells (rigC pp (some ⟨ba, 0, none⟩) (some ⟨bb, 0, none⟩) pm (some ⟨bl, 0, none⟩) ((6 : Nat) : Int) z).toArray 32 (0, 0)) :: Ne ++ N)) (fun (i : Nat) => 3 * z - i) 0 ⟨_,_,_,_,_,_,_,_,_,_,_,_,_,_,_,_,_,_,_,_,_,_,_,_,_,_,_,_,_,_,_,_,_,_, none, 0, 0, [], (List.replicate (2 + 6 * z) zS), N, rfl, by omega, (.inl ⟨rfl, by omega⟩), hO0, hL0, RowN.nil, H⟩ ?_
          intro i l w ⟨u6, u11, u12, u13, u14, u56, u57, u58, u59, u60, u61, u62, u63, u64, u65, u66, u67, u68, u69, u70, u71, u72, u73, u74, u75, u76, u77, u78, u79, u80, u81, u82, u83, u84, ea, ce, ne, Ne, C, N, hl, hi, hne, hO, hL, hNe, H⟩
          obtain rfl := hl.trans (rfl : _ = [_,_,_,_,_,_,_,_,_,_,_,_,_,_,_,_,_,_,_,_,_,_,_,_,_,_,_,_,_,_,_,_,_,_,_,_,_,_,_,_,_,_,_,_,_,_,_,_,_,_,_,_,_,_,_,_,_,_,_,_,_,_,_,_,_,_,_,_,_,_,_,_,_,_,_,_,_,_,_,_,_,_,_,_,_,_,_,_,_,_,_,_,_,_,_,_,_,_,_,_,_,_,_,_,_,_,_,_,_,_,_,_,_,_,_,_,_,_,_,_,_,_,_,_,_,_,_,_,_,_,_,_,_,_,_,_,_,_,_,_,_,_,_,_,_,_,_,_,_,_,_,_,_,_,_,_,_,_,_,_,_,_,_,_,_,_,_,_,_,_,_,_,_,_,_,_,_,_])
          clear hl
          refine c_rseq (n := 178) ⟨rfl, rfl⟩ ?_
          refine s_val (r_lss rfl rfl) ?_
          refine c_nil (l' := [_,_,_,_,_,_,_,_,_,_,_,_,_,_,_,_,_,_,_,_,_,_,_,_,_,_,_,_,_,_,_,_,_,_,_,_,_,_,_,_,_,_,_,_,_,_,_,_,_,_,_,_,_,_,_,_,_,_,_,_,_,_,_,_,_,_,_,_,_,_,_,_,_,_,_,_,_,_,_,_,_,_,_,_,_,_,_,_,_,_,_,_,_,_,_,_,_,_,_,_,_,_,_,_,_,_,_,_,_,_,_,_,_,_,_,_,_,_,_,_,_,_,_,_,_,_,_,_,_,_,_,_,_,_,_,_,_,_,_,_,_,_,_,_,_,_,_,_,_,_,_,_,_,_,_,_,_,_,_,_,_,_,_,_,_,_,_,_,_,_,_,_,_,_,_,_,_,_]) rfl ?_
          refine c_seq ?_
          refine c_if rfl (fun h56 => ?_) (fun h56 => ?_)
          · skip
            obtain ⟨y, hy⟩ : ∃ y, pl.getD (i % pl.length) bdZ = y := ⟨_, rfl⟩
            have hmi := Nat.mod_lt i (show 0 < pl.length by omega)
            have hyb := hb _ hmi
            rw [hy] at hyb
            refine wp_skip ?_
            refine x_thenNormal ?_
            refine c_seq ?_
            refine wp_block ?_
            refine c_rseq (n := 178) ⟨rfl, rfl⟩ ?_
            refine s_val (r_move rfl) ?_
            refine s_val (r_assign rfl) ?_
            refine c_nil (l' := [_,_,_,_,_,_,_,_,_,_,_,_,_,_,_,_,_,_,_,_,_,_,_,_,_,_,_,_,_,_,_,_,_,_,_,_,_,_,_,_,_,_,_,_,_,_,_,_,_,_,_,_,_,_,_,_,_,_,_,_,_,_,_,_,_,_,_,_,_,_,_,_,_,_,_,_,_,_,_,_,_,_,_,_,_,_,_,_,_,_,_,_,_,_,_,_,_,_,_,_,_,_,_,_,_,_,_,_,_,_,_,_,_,_,_,_,_,_,_,_,_,_,_,_,_,_,_,_,_,_,_,_,_,_,_,_,_,_,_,_,_,_,_,_,_,_,_,_,_,_,_,_,_,_,_,_,_,_,_,_,_,_,_,_,_,_,_,_,_,_,_,_,_,_,_,_,_,_]) rfl ?_
            refine c_rseq (n := 178) ⟨rfl, rfl⟩ ?_
            refine s_val (r_move rfl) ?_
            refine s_val (r_move rfl) ?_
            refine s_val (r_move rfl) ?_
            refine s_val (r_lens Try.runUnderlying60 (ec rfl en)) ?_
            refine s_val (r_rem rfl rfl (by omega) (tmod_nat _ _)) ?_
            refine s_val (r_indexAddrS Try.runUnderlying60 Try.sizeOf40 rfl rfl (by omega) (by omega)) ?_
            refine s_val (r_load1 Try.isAgg40 rfl (H.rd0 hb0) (bd_at hp0 hmi (by omega) hy)) ?_
            refine s_val (r_assign rfl) ?_
            refine c_nil (l' := [_,_,_,_,_,_,_,_,_,_,_,_,_,_,_,_,_,_,_,_,_,_,_,_,_,_,_,_,_,_,_,_,_,_,_,_,_,_,_,_,_,_,_,_,_,_,_,_,_,_,_,_,_,_,_,_,_,_,_,_,_,_,_,_,_,_,_,_,_,_,_,_,_,_,_,_,_,_,_,_,_,_,_,_,_,_,_,_,_,_,_,_,_,_,_,_,_,_,_,_,_,_,_,_,_,_,_,_,_,_,_,_,_,_,_,_,_,_,_,_,_,_,_,_,_,_,_,_,_,_,_,_,_,_,_,_,_,_,_,_,_,_,_,_,_,_,_,_,_,_,_,_,_,_,_,_,_,_,_,_,_,_,_,_,_,_,_,_,_,_,_,_,_,_,_,_,_,_]) rfl ?_
            refine c_seq ?_
            refine c_rseq (n := 178) ⟨rfl, rfl⟩ ?_
            refine s_val (r_move rfl) ?_
            refine s_val (r_lens Try.runUnderlying40 (ec rfl en)) ?_
            refine s_val (r_gtr rfl rfl) ?_
            refine c_nil (l' := [_,_,_,_,_,_,_,_,_,_,_,_,_,_,_,_,_,_,_,_,_,_,_,_,_,_,_,_,_,_,_,_,_,_,_,_,_,_,_,_,_,_,_,_,_,_,_,_,_,_,_,_,_,_,_,_,_,_,_,_,_,_,_,_,_,_,_,_,_,_,_,_,_,_,_,_,_,_,_,_,_,_,_,_,_,_,_,_,_,_,_,_,_,_,_,_,_,_,_,_,_,_,_,_,_,_,_,_,_,_,_,_,_,_,_,_,_,_,_,_,_,_,_,_,_,_,_,_,_,_,_,_,_,_,_,_,_,_,_,_,_,_,_,_,_,_,_,_,_,_,_,_,_,_,_,_,_,_,_,_,_,_,_,_,_,_,_,_,_,_,_,_,_,_,_,_,_,_]) rfl ?_
            refine c_if rfl (fun h67 => ?_) (fun h67 => ?_)
            · skip
              refine c_rseq (n := 178) ⟨rfl, rfl⟩ ?_
              refine s_val (r_assign rfl) ?_
              refine c_nil (l' := [_,_,_,_,_,_,_,_,_,_,_,_,_,_,_,_,_,_,_,_,_,_,_,_,_,_,_,_,_,_,_,_,_,_,_,_,_,_,_,_,_,_,_,_,_,_,_,_,_,_,_,_,_,_,_,_,_,_,_,_,_,_,_,_,_,_,_,_,_,_,_,_,_,_,_,_,_,_,_,_,_,_,_,_,_,_,_,_,_,_,_,_,_,_,_,_,_,_,_,_,_,_,_,_,_,_,_,_,_,_,_,_,_,_,_,_,_,_,_,_,_,_,_,_,_,_,_,_,_,_,_,_,_,_,_,_,_,_,_,_,_,_,_,_,_,_,_,_,_,_,_,_,_,_,_,_,_,_,_,_,_,_,_,_,_,_,_,_,_,_,_,_,_,_,_,_,_,_]) rfl ?_
              refine wp_ret (x_thenRet (x_blockRet (x_thenRet (x_thenRet (x_blockRet (x_thenRet ?_))))))
              refine e_ret (res1 rfl rfl) ⟨_, rfl, ?_⟩
              exact ⟨rfl, H.sub (List.nil_sublist _)⟩
            · skip
              refine wp_skip ?_
              refine x_thenNormal ?_
              refine c_seq ?_
              refine c_rseq (n := 178) ⟨rfl, rfl⟩ ?_
              refine s_val (r_fieldAddr (k := 4) Try.runUnderlying32 rfl Try.sizeOf28 (by decide) rfl rfl) ?_
              refine s_val (r_load1 Try.isAgg28 rfl (H.at 0 rfl) rfl) ?_
              refine s_val (r_move rfl) ?_
              refine s_call (r_call Try.call15 (ec rfl (ec rfl en))) (append_ord bl 6 z C (cycB pl i) i N (by omega) hO y.a y.c y.b (by omega) _ (fun _ _ h2 => hyb.st ((St.callr (L := _ :: Ne) H h2).sub (List.nil_sublist _))) hL (H.ownsM (.cons _ (List.sublist_append_right _ _)))) ?_
              rintro v w (⟨hfull, _⟩ | ⟨hroom, C2, rfl, hO2, N2, hL2, HC⟩)
              · skip
                rw [cycB_length] at hfull
                exfalso; omega
              · skip
                replace H : St w0 [] w (_ :: (Ne ++ N2)) := St.callr (L := _ :: Ne) H HC
                have hcs : cycB pl (i + 1) = cycB pl i ++ [y.b] := by rw [cycB_succ, hy]
                rw [← hcs] at hO2 hL2
                refine s_val (r_move rfl) ?_
                refine s_val (r_extract rfl rfl) ?_
                refine s_val (r_extract rfl rfl) ?_
                refine s_val (r_assign rfl) ?_
                refine s_val (r_assign rfl) ?_
                refine c_nil (l' := [_,_,_,_,_,_,_,_,_,_,_,_,_,_,_,_,_,_,_,_,_,_,_,_,_,_,_,_,_,_,_,_,_,_,_,_,_,_,_,_,_,_,_,_,_,_,_,_,_,_,_,_,_,_,_,_,_,_,_,_,_,_,_,_,_,_,_,_,_,_,_,_,_,_,_,_,_,_,_,_,_,_,_,_,_,_,_,_,_,_,_,_,_,_,_,_,_,_,_,_,_,_,_,_,_,_,_,_,_,_,_,_,_,_,_,_,_,_,_,_,_,_,_,_,_,_,_,_,_,_,_,_,_,_,_,_,_,_,_,_,_,_,_,_,_,_,_,_,_,_,_,_,_,_,_,_,_,_,_,_,_,_,_,_,_,_,_,_,_,_,_,_,_,_,_,_,_,_]) rfl ?_
                refine c_rseq (n := 178) ⟨rfl, rfl⟩ ?_
                refine s_val (r_move rfl) ?_
                refine s_val (r_neq rfl rfl) ?_
                refine c_nil (l' := [_,_,_,_,_,_,_,_,_,_,_,_,_,_,_,_,_,_,_,_,_,_,_,_,_,_,_,_,_,_,_,_,_,_,_,_,_,_,_,_,_,_,_,_,_,_,_,_,_,_,_,_,_,_,_,_,_,_,_,_,_,_,_,_,_,_,_,_,_,_,_,_,_,_,_,_,_,_,_,_,_,_,_,_,_,_,_,_,_,_,_,_,_,_,_,_,_,_,_,_,_,_,_,_,_,_,_,_,_,_,_,_,_,_,_,_,_,_,_,_,_,_,_,_,_,_,_,_,_,_,_,_,_,_,_,_,_,_,_,_,_,_,_,_,_,_,_,_,_,_,_,_,_,_,_,_,_,_,_,_,_,_,_,_,_,_,_,_,_,_,_,_,_,_,_,_,_,_]) rfl ?_
                refine c_if rfl (fun h76 => ?_) (fun h76 => ?_)
                · skip
                  exfalso; omega
                · skip
                  refine wp_skip ?_
                  refine x_thenNormal ?_
                  refine c_rseq (n := 178) ⟨rfl, rfl⟩ ?_
                  refine s_val (r_move rfl) ?_
                  refine s_val (r_move rfl) ?_
                  refine s_val (r_lss rfl rfl) ?_
                  refine c_nil (l' := [_,_,_,_,_,_,_,_,_,_,_,_,_,_,_,_,_,_,_,_,_,_,_,_,_,_,_,_,_,_,_,_,_,_,_,_,_,_,_,_,_,_,_,_,_,_,_,_,_,_,_,_,_,_,_,_,_,_,_,_,_,_,_,_,_,_,_,_,_,_,_,_,_,_,_,_,_,_,_,_,_,_,_,_,_,_,_,_,_,_,_,_,_,_,_,_,_,_,_,_,_,_,_,_,_,_,_,_,_,_,_,_,_,_,_,_,_,_,_,_,_,_,_,_,_,_,_,_,_,_,_,_,_,_,_,_,_,_,_,_,_,_,_,_,_,_,_,_,_,_,_,_,_,_,_,_,_,_,_,_,_,_,_,_,_,_,_,_,_,_,_,_,_,_,_,_,_,_]) rfl ?_
                  refine c_if rfl (fun h79 => ?_) (fun h79 => ?_)
                  · skip
                    refine c_region (n := 178) ⟨rfl, rfl⟩ ?_
                    refine s_val (r_move rfl) ?_
                    refine s_val (r_move rfl) ?_
                    refine s_new (m_bslice1 (vs := bdC y) H Try.runUnderlying60 Try.sizeOf40 Try.zeroValue40 (by omega) (by omega) rfl rfl rfl) ?_
                    intro w b82 H
                    replace H := St.rot (A := [_,_]) H
                    refine s_any (m_append_row0 (L1 := [_,_] ++ N2) (N := Ne) H hNe Try.runUnderlying60 Try.runUnderlying60 (fun _ h => nomatch h) Try.sizeOf40 Try.zeroValue40 rfl Try.typeInfo40 (by rw [bytes40]; omega) (by rw [bytes40, cycD_length]; omega) (ec rfl (ec rfl en)) (Src.slice (vs := bdC y) (H.at 0 rfl) rfl rfl (elBd.one _))) ?_
                    rintro v w ⟨a2, c2, N4, rfl, hN4, H⟩
                    replace H := St.unrot (A := [_,_]) (R := N2) H
                    obtain rfl : i = ne := by omega
                    have hcd : cycD pl (i + 1) = cycD pl i ++ [y] := by rw [cycD_succ, hy]
                    have hll : (cycD pl (i + 1)).length = (cycD pl i).length + 1 := by rw [hcd, List.length_append]; rfl
                    rw [← hll] at hN4 ⊢
                    have hN5 : RowN 1 40 (rowC bdC (cycD pl (i + 1))) (cycD pl (i + 1)).length a2 c2 N4 := by rw [hcd, rowC_append, rowC_one1, ← hcd]; exact hN4
                    refine s_val (r_assign rfl) ?_
                    refine c_nil0 (l' := [_,_,_,_,_,_,_,_,_,_,_,_,_,_,_,_,_,_,_,_,_,_,_,_,_,_,_,_,_,_,_,_,_,_,_,_,_,_,_,_,_,_,_,_,_,_,_,_,_,_,_,_,_,_,_,_,_,_,_,_,_,_,_,_,_,_,_,_,_,_,_,_,_,_,_,_,_,_,_,_,_,_,_,_,_,_,_,_,_,_,_,_,_,_,_,_,_,_,_,_,_,_,_,_,_,_,_,_,_,_,_,_,_,_,_,_,_,_,_,_,_,_,_,_,_,_,_,_,_,_,_,_,_,_,_,_,_,_,_,_,_,_,_,_,_,_,_,_,_,_,_,_,_,_,_,_,_,_,_,_,_,_,_,_,_,_,_,_,_,_,_,_,_,_,_,_,_,_]) rfl ?_
                    refine x_blockNormal ?_
                    refine x_thenNormal ?_
                    refine c_region (n := 178) ⟨rfl, rfl⟩ ?_
                    refine s_val (r_add rfl rfl (w_i64 (by omega) (by omega))) ?_
                    refine s_val (r_move rfl) ?_
                    refine c_nil0 (l' := [_,_,_,_,_,_,_,_,_,_,_,_,_,_,_,_,_,_,_,_,_,_,_,_,_,_,_,_,_,_,_,_,_,_,_,_,_,_,_,_,_,_,_,_,_,_,_,_,_,_,_,_,_,_,_,_,_,_,_,_,_,_,_,_,_,_,_,_,_,_,_,_,_,_,_,_,_,_,_,_,_,_,_,_,_,_,_,_,_,_,_,_,_,_,_,_,_,_,_,_,_,_,_,_,_,_,_,_,_,_,_,_,_,_,_,_,_,_,_,_,_,_,_,_,_,_,_,_,_,_,_,_,_,_,_,_,_,_,_,_,_,_,_,_,_,_,_,_,_,_,_,_,_,_,_,_,_,_,_,_,_,_,_,_,_,_,_,_,_,_,_,_,_,_,_,_,_,_]) rfl ?_
                    replace H := H.sub (.cons _ (.cons_cons _ (List.Sublist.refl _)))
                    exact ⟨i + 1, _, rfl, ⟨_,_,_,_,_,_,_,_,_,_,_,_,_,_,_,_,_,_,_,_,_,_,_,_,_,_,_,_,_,_,_,_,_,_, a2, c2, (i + 1), N4, C2, N2, rfl, by omega, (by omega), hO2, hL2, hN5, H⟩, by omega⟩
                  · skip
                    refine wp_skip ?_
                    refine x_blockNormal ?_
                    refine x_thenNormal ?_
                    refine c_region (n := 178) ⟨rfl, rfl⟩ ?_
                    refine s_val (r_add rfl rfl (w_i64 (by omega) (by omega))) ?_
                    refine s_val (r_move rfl) ?_
                    refine c_nil0 (l' := [_,_,_,_,_,_,_,_,_,_,_,_,_,_,_,_,_,_,_,_,_,_,_,_,_,_,_,_,_,_,_,_,_,_,_,_,_,_,_,_,_,_,_,_,_,_,_,_,_,_,_,_,_,_,_,_,_,_,_,_,_,_,_,_,_,_,_,_,_,_,_,_,_,_,_,_,_,_,_,_,_,_,_,_,_,_,_,_,_,_,_,_,_,_,_,_,_,_,_,_,_,_,_,_,_,_,_,_,_,_,_,_,_,_,_,_,_,_,_,_,_,_,_,_,_,_,_,_,_,_,_,_,_,_,_,_,_,_,_,_,_,_,_,_,_,_,_,_,_,_,_,_,_,_,_,_,_,_,_,_,_,_,_,_,_,_,_,_,_,_,_,_,_,_,_,_,_,_]) rfl ?_
                    exact ⟨i + 1, _, rfl, ⟨_,_,_,_,_,_,_,_,_,_,_,_,_,_,_,_,_,_,_,_,_,_,_,_,_,_,_,_,_,_,_,_,_,_, ea, ce, ne, Ne, C2, N2, rfl, by omega, (by omega), hO2, hL2, hNe, H⟩, by omega⟩
          · skip
            obtain rfl : i = 3 * z := by omega
            obtain rfl : z = ne := by omega
            obtain ⟨be, spe, rfl, hce, rfl, hce2⟩ := hNe.some (by rw [cycD_length]; omega)
            refine wp_exit (x_thenExit (x_thenExit (x_blockHit ?_)))
            refine x_thenNormal ?_
            refine c_seq ?_
            refine c_rseq (n := 178) ⟨rfl, rfl⟩ ?_
            refine s_val (r_move rfl) ?_
            refine s_val (r_lens Try.runUnderlying60 (ec rfl en)) ?_
            refine s_val (r_move rfl) ?_
            refine c_nil (l' := [_,_,_,_,_,_,_,_,_,_,_,_,_,_,_,_,_,_,_,_,_,_,_,_,_,_,_,_,_,_,_,_,_,_,_,_,_,_,_,_,_,_,_,_,_,_,_,_,_,_,_,_,_,_,_,_,_,_,_,_,_,_,_,_,_,_,_,_,_,_,_,_,_,_,_,_,_,_,_,_,_,_,_,_,_,_,_,_,_,_,_,_,_,_,_,_,_,_,_,_,_,_,_,_,_,_,_,_,_,_,_,_,_,_,_,_,_,_,_,_,_,_,_,_,_,_,_,_,_,_,_,_,_,_,_,_,_,_,_,_,_,_,_,_,_,_,_,_,_,_,_,_,_,_,_,_,_,_,_,_,_,_,_,_,_,_,_,_,_,_,_,_,_,_,_,_,_,_]) rfl ?_
            refine wp_block ?_
            refine c_loop (fun (l0 : List Value) (j : Nat) (l : List Value) (w : World) => ∃ (u6 u16 u17 u18 u88 u89 u90 u91 u92 u93 u94 u95 u96 u97 u98 u99 u100 : Value) (C : List Sec) (N : List (Nat × Obj)), l = ovr l0 [N_, N_, N_, N_, N_, N_, Y_ u6, N_, N_, N_, N_, N_, N_, N_, N_, N_, Y_ u16, Y_ u17, Y_ u18, N_, N_, N_, N_, N_, N_, N_, N_, N_, N_, N_, N_, N_, N_, N_, N_, N_, N_, N_, N_, N_, N_, N_, N_, N_, N_, N_, N_, N_, N_, N_, N_, N_, N_, N_, N_, N_, N_, N_, N_, N_, N_, N_, N_, N_, N_, N_, N_, N_, N_, N_, N_, N_, N_, N_, N_, N_, N_, N_, N_, N_, N_, N_, N_, N_, N_, N_, N_, Y_ (.int .i64 j), Y_ u88, Y_ u89, Y_ u90, Y_ u91, Y_ u92, Y_ u93, Y_ u94, Y_ u95, Y_ u96, Y_ u97, Y_ u98, Y_ u99, Y_ u100] ∧ j ≤ z ∧ OrdL 6 z (cycB pl (3 * z) ++ cycB pl j) C ∧ LogN 150 51 89 72 ba bb bl (ordS 6 z C (cycB pl (3 * z) ++ cycB pl j).length) (3 * z + j) N ∧ St w0 [] w ((b7, .cells (rigC pp (some ⟨ba, 0, none⟩) (some ⟨bb, 0, none⟩) pm (some ⟨bl, 0, none⟩) ((6 : Nat) : Int) z).toArray 32 (0, 0)) :: (be, .cells (rowC bdC (cycD pl z) ++ spe).toArray 40 (0, 0)) :: N)) (fun (j : Nat) => z - j) 0 ⟨_,_,_,_,_,_,_,_,_,_,_,_,_,_,_,_,_, C, N, rfl, by omega, (by rw [show cycB pl 0 = [] from rfl, List.append_nil]; exact hO), (by rw [show cycB pl 0 = [] from rfl, List.append_nil]; exact hL), H⟩ ?_
            intro j l w ⟨u6, u16, u17, u18, u88, u89, u90, u91, u92, u93, u94, u95, u96, u97, u98, u99, u100, C, N, hl, hj, hO, hL, H⟩
            obtain rfl := hl.trans (rfl : _ = [_,_,_,_,_,_,_,_,_,_,_,_,_,_,_,_,_,_,_,_,_,_,_,_,_,_,_,_,_,_,_,_,_,_,_,_,_,_,_,_,_,_,_,_,_,_,_,_,_,_,_,_,_,_,_,_,_,_,_,_,_,_,_,_,_,_,_,_,_,_,_,_,_,_,_,_,_,_,_,_,_,_,_,_,_,_,_,_,_,_,_,_,_,_,_,_,_,_,_,_,_,_,_,_,_,_,_,_,_,_,_,_,_,_,_,_,_,_,_,_,_,_,_,_,_,_,_,_,_,_,_,_,_,_,_,_,_,_,_,_,_,_,_,_,_,_,_,_,_,_,_,_,_,_,_,_,_,_,_,_,_,_,_,_,_,_,_,_,_,_,_,_,_,_,_,_,_,_])
            clear hl
            have hcz := cycD_length pl z
            refine c_rseq (n := 178) ⟨rfl, rfl⟩ ?_
            refine s_val (r_lss rfl rfl) ?_
            refine c_nil (l' := [_,_,_,_,_,_,_,_,_,_,_,_,_,_,_,_,_,_,_,_,_,_,_,_,_,_,_,_,_,_,_,_,_,_,_,_,_,_,_,_,_,_,_,_,_,_,_,_,_,_,_,_,_,_,_,_,_,_,_,_,_,_,_,_,_,_,_,_,_,_,_,_,_,_,_,_,_,_,_,_,_,_,_,_,_,_,_,_,_,_,_,_,_,_,_,_,_,_,_,_,_,_,_,_,_,_,_,_,_,_,_,_,_,_,_,_,_,_,_,_,_,_,_,_,_,_,_,_,_,_,_,_,_,_,_,_,_,_,_,_,_,_,_,_,_,_,_,_,_,_,_,_,_,_,_,_,_,_,_,_,_,_,_,_,_,_,_,_,_,_,_,_,_,_,_,_,_,_]) rfl ?_
            refine c_seq ?_
            refine c_if rfl (fun h88 => ?_) (fun h88 => ?_)
            · skip
              obtain ⟨y, hy⟩ : ∃ y, pl.getD (j % pl.length) bdZ = y := ⟨_, rfl⟩
              have hmi := Nat.mod_lt j (show 0 < pl.length by omega)
              have hyb := hb _ hmi
              rw [hy] at hyb
              have hyd : (cycD pl z).getD j bdZ = y := (cycD_get (by omega)).trans hy
              have hys := cyc_small hO.1.bd (i := j) (by omega)
              rw [hy] at hys
              refine wp_skip ?_
              refine x_thenNormal ?_
              refine c_seq ?_
              refine wp_block ?_
              refine c_rseq (n := 178) ⟨rfl, rfl⟩ ?_
              refine s_val (r_indexAddrS Try.runUnderlying60 Try.sizeOf40 rfl rfl (by omega) (by omega)) ?_
              refine s_val (r_load1 Try.isAgg40 rfl (H.at 1 rfl) (bd_at2 (i := j) (by omega) (by omega) hyd)) ?_
              refine s_val (r_assign rfl) ?_
              refine c_nil (l' := [_,_,_,_,_,_,_,_,_,_,_,_,_,_,_,_,_,_,_,_,_,_,_,_,_,_,_,_,_,_,_,_,_,_,_,_,_,_,_,_,_,_,_,_,_,_,_,_,_,_,_,_,_,_,_,_,_,_,_,_,_,_,_,_,_,_,_,_,_,_,_,_,_,_,_,_,_,_,_,_,_,_,_,_,_,_,_,_,_,_,_,_,_,_,_,_,_,_,_,_,_,_,_,_,_,_,_,_,_,_,_,_,_,_,_,_,_,_,_,_,_,_,_,_,_,_,_,_,_,_,_,_,_,_,_,_,_,_,_,_,_,_,_,_,_,_,_,_,_,_,_,_,_,_,_,_,_,_,_,_,_,_,_,_,_,_,_,_,_,_,_,_,_,_,_,_,_,_]) rfl ?_
              refine c_rseq (n := 178) ⟨rfl, rfl⟩ ?_
              refine s_val (r_fieldAddr (k := 4) Try.runUnderlying32 rfl Try.sizeOf28 (by decide) rfl rfl) ?_
              refine s_val (r_load1 Try.isAgg28 rfl (H.at 0 rfl) rfl) ?_
              refine s_val (r_move rfl) ?_
              refine s_call (r_call Try.call15 (ec rfl (ec rfl en))) (append_ord bl 6 z C (cycB pl (3 * z) ++ cycB pl j) (3 * z + j) N (by omega) hO y.a y.c y.b hys _ (fun _ _ h2 => hyb.st ((St.callr (L := [_,_]) H h2).sub (List.nil_sublist _))) hL (H.ownsM (.cons _ (.cons _ (List.Sublist.refl _))))) ?_
              rintro v w (⟨hfull, _⟩ | ⟨hroom, C2, rfl, hO2, N2, hL2, HC⟩)
              · skip
                rw [List.length_append, cycB_length, cycB_length] at hfull
                exfalso; omega
              · skip
                replace H : St w0 [] w (_ :: _ :: N2) := St.callr (L := [_,_]) H HC
                have hcs : cycB pl (3 * z) ++ cycB pl (j + 1) = (cycB pl (3 * z) ++ cycB pl j) ++ [y.b] := by rw [cycB_succ, hy, List.append_assoc]
                rw [← hcs] at hO2 hL2
                refine s_val (r_move rfl) ?_
                refine s_val (r_extract rfl rfl) ?_
                refine s_val (r_extract rfl rfl) ?_
                refine s_val (r_assign rfl) ?_
                refine s_val (r_assign rfl) ?_
                refine c_nil (l' := [_,_,_,_,_,_,_,_,_,_,_,_,_,_,_,_,_,_,_,_,_,_,_,_,_,_,_,_,_,_,_,_,_,_,_,_,_,_,_,_,_,_,_,_,_,_,_,_,_,_,_,_,_,_,_,_,_,_,_,_,_,_,_,_,_,_,_,_,_,_,_,_,_,_,_,_,_,_,_,_,_,_,_,_,_,_,_,_,_,_,_,_,_,_,_,_,_,_,_,_,_,_,_,_,_,_,_,_,_,_,_,_,_,_,_,_,_,_,_,_,_,_,_,_,_,_,_,_,_,_,_,_,_,_,_,_,_,_,_,_,_,_,_,_,_,_,_,_,_,_,_,_,_,_,_,_,_,_,_,_,_,_,_,_,_,_,_,_,_,_,_,_,_,_,_,_,_,_]) rfl ?_
                refine c_rseq (n := 178) ⟨rfl, rfl⟩ ?_
                refine s_val (r_move rfl) ?_
                refine s_val (r_neq rfl rfl) ?_
                refine c_nil (l' := [_,_,_,_,_,_,_,_,_,_,_,_,_,_,_,_,_,_,_,_,_,_,_,_,_,_,_,_,_,_,_,_,_,_,_,_,_,_,_,_,_,_,_,_,_,_,_,_,_,_,_,_,_,_,_,_,_,_,_,_,_,_,_,_,_,_,_,_,_,_,_,_,_,_,_,_,_,_,_,_,_,_,_,_,_,_,_,_,_,_,_,_,_,_,_,_,_,_,_,_,_,_,_,_,_,_,_,_,_,_,_,_,_,_,_,_,_,_,_,_,_,_,_,_,_,_,_,_,_,_,_,_,_,_,_,_,_,_,_,_,_,_,_,_,_,_,_,_,_,_,_,_,_,_,_,_,_,_,_,_,_,_,_,_,_,_,_,_,_,_,_,_,_,_,_,_,_,_]) rfl ?_
                refine c_if rfl (fun h99 => ?_) (fun h99 => ?_)
                · skip
                  exfalso; omega
                · skip
                  refine wp_skip ?_
                  refine x_blockNormal ?_
                  refine x_thenNormal ?_
                  refine c_region (n := 178) ⟨rfl, rfl⟩ ?_
                  refine s_val (r_add rfl rfl (w_i64 (by omega) (by omega))) ?_
                  refine s_val (r_move rfl) ?_
                  refine c_nil0 (l' := [_,_,_,_,_,_,_,_,_,_,_,_,_,_,_,_,_,_,_,_,_,_,_,_,_,_,_,_,_,_,_,_,_,_,_,_,_,_,_,_,_,_,_,_,_,_,_,_,_,_,_,_,_,_,_,_,_,_,_,_,_,_,_,_,_,_,_,_,_,_,_,_,_,_,_,_,_,_,_,_,_,_,_,_,_,_,_,_,_,_,_,_,_,_,_,_,_,_,_,_,_,_,_,_,_,_,_,_,_,_,_,_,_,_,_,_,_,_,_,_,_,_,_,_,_,_,_,_,_,_,_,_,_,_,_,_,_,_,_,_,_,_,_,_,_,_,_,_,_,_,_,_,_,_,_,_,_,_,_,_,_,_,_,_,_,_,_,_,_,_,_,_,_,_,_,_,_,_]) rfl ?_
                  exact ⟨j + 1, _, rfl, ⟨_,_,_,_,_,_,_,_,_,_,_,_,_,_,_,_,_, C2, N2, rfl, by omega, hO2, hL2, H⟩, by omega⟩
            · skip
              obtain rfl : z = j := by omega
              refine wp_exit (x_thenExit (x_thenExit (x_blockHit ?_)))
              refine x_thenNormal ?_
              refine c_seq ?_
              refine c_rseq (n := 178) ⟨rfl, rfl⟩ ?_
              refine s_val (r_fieldAddr (k := 4) Try.runUnderlying32 rfl Try.sizeOf28 (by decide) rfl rfl) ?_
              refine s_val (r_load1 Try.isAgg28 rfl (H.at 0 rfl) rfl) ?_
              refine s_call (r_call Try.call14 (ec rfl en)) (lflush_spec bl (ordS 6 z C (cycB pl (3 * z) ++ cycB pl z).length) (3 * z + z) N (by omega) _ hL (H.ownsM (.cons _ (.cons _ (List.Sublist.refl _))))) ?_
              rintro v w ⟨rfl, N2, hL2, HC⟩
              replace H : St w0 [] w (_ :: _ :: N2) := St.callr (L := [_,_]) H HC
              refine s_val (r_neq rfl rfl) ?_
              refine s_val (r_move rfl) ?_
              refine g_yes rfl rfl ?_
              refine s_val (r_fieldAddr (k := 4) Try.runUnderlying32 rfl Try.sizeOf28 (by decide) rfl rfl) ?_
              refine g_yes rfl rfl ?_
              refine s_val (r_load1 Try.isAgg28 rfl (H.at 0 rfl) rfl) ?_
              refine g_yes rfl rfl ?_
              obtain ⟨hf0, hMv⟩ := mv_free hO (by rw [List.length_append, cycB_length, cycB_length]; omega)
              refine s_call (r_call Try.call13 (ec rfl (ec rfl en))) (free_spec bl (ordS 6 z C (cycB pl (3 * z) ++ cycB pl z).length) (3 * z + z) N2 (by omega) 0 _ hL2 (H.ownsM (.cons _ (.cons _ (List.Sublist.refl _))))) ?_
              rintro v w ⟨rfl, N3, hL3, HC⟩
              replace H : St w0 [] w (_ :: _ :: N3) := St.callr (L := [_,_]) H HC
              rw [hf0]
              obtain ⟨x0, hx0⟩ : ∃ x, x = (freeL (ordS 6 z C (cycB pl (3 * z) ++ cycB pl z).length) 0).1 := ⟨_, rfl⟩
              rw [← hx0] at hL3 hMv
              refine g_yes rfl rfl ?_
              refine s_val (r_neq rfl rfl) ?_
              refine s_val (r_pickf rfl rfl) ?_
              refine c_nil (l' := [_,_,_,_,_,_,_,_,_,_,_,_,_,_,_,_,_,_,_,_,_,_,_,_,_,_,_,_,_,_,_,_,_,_,_,_,_,_,_,_,_,_,_,_,_,_,_,_,_,_,_,_,_,_,_,_,_,_,_,_,_,_,_,_,_,_,_,_,_,_,_,_,_,_,_,_,_,_,_,_,_,_,_,_,_,_,_,_,_,_,_,_,_,_,_,_,_,_,_,_,_,_,_,_,_,_,_,_,_,_,_,_,_,_,_,_,_,_,_,_,_,_,_,_,_,_,_,_,_,_,_,_,_,_,_,_,_,_,_,_,_,_,_,_,_,_,_,_,_,_,_,_,_,_,_,_,_,_,_,_,_,_,_,_,_,_,_,_,_,_,_,_,_,_,_,_,_,_]) rfl ?_
              refine c_if rfl (fun h110 => ?_) (fun h110 => ?_)
              · skip
                exfalso; omega
              · skip
                refine wp_skip ?_
                refine x_thenNormal ?_
                refine c_seq ?_
                refine c_rseq (n := 178) ⟨rfl, rfl⟩ ?_
                refine s_val (r_move rfl) ?_
                refine s_val (r_add rfl rfl (w_i64 (by omega) (by omega))) ?_
                refine s_val (r_move rfl) ?_
                refine c_nil (l' := [_,_,_,_,_,_,_,_,_,_,_,_,_,_,_,_,_,_,_,_,_,_,_,_,_,_,_,_,_,_,_,_,_,_,_,_,_,_,_,_,_,_,_,_,_,_,_,_,_,_,_,_,_,_,_,_,_,_,_,_,_,_,_,_,_,_,_,_,_,_,_,_,_,_,_,_,_,_,_,_,_,_,_,_,_,_,_,_,_,_,_,_,_,_,_,_,_,_,_,_,_,_,_,_,_,_,_,_,_,_,_,_,_,_,_,_,_,_,_,_,_,_,_,_,_,_,_,_,_,_,_,_,_,_,_,_,_,_,_,_,_,_,_,_,_,_,_,_,_,_,_,_,_,_,_,_,_,_,_,_,_,_,_,_,_,_,_,_,_,_,_,_,_,_,_,_,_,_]) rfl ?_
                refine wp_block ?_
                refine c_loop (fun (l0 : List Value) (t : Nat) (l : List Value) (w : World) => ∃ (u6 u19 u20 u114 u115 u116 u117 u118 u119 u120 u121 u122 u123 u124 : Value) (x : LS) (N : List (Nat × Obj)), l = ovr l0 [N_, N_, N_, N_, N_, N_, Y_ u6, N_, N_, N_, N_, N_, N_, N_, N_, N_, N_, N_, N_, Y_ u19, Y_ u20, N_, N_, N_, N_, N_, N_, N_, N_, N_, N_, N_, N_, N_, N_, N_, N_, N_, N_, N_, N_, N_, N_, N_, N_, N_, N_, N_, N_, N_, N_, N_, N_, N_, N_, N_, N_, N_, N_, N_, N_, N_, N_, N_, N_, N_, N_, N_, N_, N_, N_, N_, N_, N_, N_, N_, N_, N_, N_, N_, N_, N_, N_, N_, N_, N_, N_, N_, N_, N_, N_, N_, N_, N_, N_, N_, N_, N_, N_, N_, N_, N_, N_, N_, N_, N_, N_, N_, N_, N_, N_, N_, N_, Y_ (.int .i64 t), Y_ u114, Y_ u115, Y_ u116, Y_ u117, Y_ u118, Y_ u119, Y_ u120, Y_ u121, Y_ u122, Y_ u123, Y_ u124] ∧ t ≤ z + 1 ∧ (t ≤ z → MvS z C t x) ∧ MvE z C x ∧ LogN 150 51 89 72 ba bb bl x (3 * z + z + t) N ∧ St w0 [] w ((b7, .cells (rigC pp (some ⟨ba, 0, none⟩) (some ⟨bb, 0, none⟩) pm (some ⟨bl, 0, none⟩) ((6 : Nat) : Int) z).toArray 32 (0, 0)) :: (be, .cells (rowC bdC (cycD pl z) ++ spe).toArray 40 (0, 0)) :: N)) (fun (t : Nat) => z + 1 - t) 0 ⟨_,_,_,_,_,_,_,_,_,_,_,_,_,_, x0, N3, rfl, by omega, (fun _ => hMv), hMv.E, hL3, H⟩ ?_
                intro t l w ⟨u6, u19, u20, u114, u115, u116, u117, u118, u119, u120, u121, u122, u123, u124, x, N, hl, ht, hS, hE, hL, H⟩
                obtain rfl := hl.trans (rfl : _ = [_,_,_,_,_,_,_,_,_,_,_,_,_,_,_,_,_,_,_,_,_,_,_,_,_,_,_,_,_,_,_,_,_,_,_,_,_,_,_,_,_,_,_,_,_,_,_,_,_,_,_,_,_,_,_,_,_,_,_,_,_,_,_,_,_,_,_,_,_,_,_,_,_,_,_,_,_,_,_,_,_,_,_,_,_,_,_,_,_,_,_,_,_,_,_,_,_,_,_,_,_,_,_,_,_,_,_,_,_,_,_,_,_,_,_,_,_,_,_,_,_,_,_,_,_,_,_,_,_,_,_,_,_,_,_,_,_,_,_,_,_,_,_,_,_,_,_,_,_,_,_,_,_,_,_,_,_,_,_,_,_,_,_,_,_,_,_,_,_,_,_,_,_,_,_,_,_,_])
                clear hl
                refine c_rseq (n := 178) ⟨rfl, rfl⟩ ?_
                refine s_val (r_lss rfl rfl) ?_
                refine c_nil (l' := [_,_,_,_,_,_,_,_,_,_,_,_,_,_,_,_,_,_,_,_,_,_,_,_,_,_,_,_,_,_,_,_,_,_,_,_,_,_,_,_,_,_,_,_,_,_,_,_,_,_,_,_,_,_,_,_,_,_,_,_,_,_,_,_,_,_,_,_,_,_,_,_,_,_,_,_,_,_,_,_,_,_,_,_,_,_,_,_,_,_,_,_,_,_,_,_,_,_,_,_,_,_,_,_,_,_,_,_,_,_,_,_,_,_,_,_,_,_,_,_,_,_,_,_,_,_,_,_,_,_,_,_,_,_,_,_,_,_,_,_,_,_,_,_,_,_,_,_,_,_,_,_,_,_,_,_,_,_,_,_,_,_,_,_,_,_,_,_,_,_,_,_,_,_,_,_,_,_]) rfl ?_
                refine c_seq ?_
                refine c_if rfl (fun h114 => ?_) (fun h114 => ?_)
                · skip
                  refine wp_skip ?_
                  refine x_thenNormal ?_
                  refine c_seq ?_
                  refine wp_block ?_
                  refine c_rseq (n := 178) ⟨rfl, rfl⟩ ?_
                  refine s_val (r_fieldAddr (k := 4) Try.runUnderlying32 rfl Try.sizeOf28 (by decide) rfl rfl) ?_
                  refine s_val (r_load1 Try.isAgg28 rfl (H.at 0 rfl) rfl) ?_
                  refine s_val (r_move rfl) ?_
                  have hS1 := hS (by omega)
                  have hst := mv_step hS1 hz0 (by omega) (body := mb) (by omega)
                  refine s_call (r_call Try.call15 (ec rfl (ec rfl en))) (append_spec bl x (3 * z + z + t) N (by omega) (by have := hS1.known; rw [this]; split <;> omega) ma mc mb _ (fun _ _ h2 => hmo.st ((St.callr (L := [_,_]) H h2).sub (List.nil_sublist _))) hL (H.ownsM (.cons _ (.cons _ (List.Sublist.refl _))))) ?_
                  rintro v w ⟨rfl, N2, hL2, HC⟩
                  replace H : St w0 [] w (_ :: _ :: N2) := St.callr (L := [_,_]) H HC
                  rw [hst.1]
                  refine s_val (r_move rfl) ?_
                  refine s_val (r_extract rfl rfl) ?_
                  refine s_val (r_extract rfl rfl) ?_
                  refine s_val (r_assign rfl) ?_
                  refine s_val (r_assign rfl) ?_
                  refine c_nil (l' := [_,_,_,_,_,_,_,_,_,_,_,_,_,_,_,_,_,_,_,_,_,_,_,_,_,_,_,_,_,_,_,_,_,_,_,_,_,_,_,_,_,_,_,_,_,_,_,_,_,_,_,_,_,_,_,_,_,_,_,_,_,_,_,_,_,_,_,_,_,_,_,_,_,_,_,_,_,_,_,_,_,_,_,_,_,_,_,_,_,_,_,_,_,_,_,_,_,_,_,_,_,_,_,_,_,_,_,_,_,_,_,_,_,_,_,_,_,_,_,_,_,_,_,_,_,_,_,_,_,_,_,_,_,_,_,_,_,_,_,_,_,_,_,_,_,_,_,_,_,_,_,_,_,_,_,_,_,_,_,_,_,_,_,_,_,_,_,_,_,_,_,_,_,_,_,_,_,_]) rfl ?_
                  refine c_rseq (n := 178) ⟨rfl, rfl⟩ ?_
                  refine s_val (r_move rfl) ?_
                  refine s_val (r_neq rfl rfl) ?_
                  refine c_nil (l' := [_,_,_,_,_,_,_,_,_,_,_,_,_,_,_,_,_,_,_,_,_,_,_,_,_,_,_,_,_,_,_,_,_,_,_,_,_,_,_,_,_,_,_,_,_,_,_,_,_,_,_,_,_,_,_,_,_,_,_,_,_,_,_,_,_,_,_,_,_,_,_,_,_,_,_,_,_,_,_,_,_,_,_,_,_,_,_,_,_,_,_,_,_,_,_,_,_,_,_,_,_,_,_,_,_,_,_,_,_,_,_,_,_,_,_,_,_,_,_,_,_,_,_,_,_,_,_,_,_,_,_,_,_,_,_,_,_,_,_,_,_,_,_,_,_,_,_,_,_,_,_,_,_,_,_,_,_,_,_,_,_,_,_,_,_,_,_,_,_,_,_,_,_,_,_,_,_,_]) rfl ?_
                  refine c_if rfl (fun h123 => ?_) (fun h123 => ?_)
                  · skip
                    exfalso; omega
                  · skip
                    refine wp_skip ?_
                    refine x_blockNormal ?_
                    refine x_thenNormal ?_
                    refine c_region (n := 178) ⟨rfl, rfl⟩ ?_
                    refine s_val (r_add rfl rfl (w_i64 (by omega) (by omega))) ?_
                    refine s_val (r_move rfl) ?_
                    refine c_nil0 (l' := [_,_,_,_,_,_,_,_,_,_,_,_,_,_,_,_,_,_,_,_,_,_,_,_,_,_,_,_,_,_,_,_,_,_,_,_,_,_,_,_,_,_,_,_,_,_,_,_,_,_,_,_,_,_,_,_,_,_,_,_,_,_,_,_,_,_,_,_,_,_,_,_,_,_,_,_,_,_,_,_,_,_,_,_,_,_,_,_,_,_,_,_,_,_,_,_,_,_,_,_,_,_,_,_,_,_,_,_,_,_,_,_,_,_,_,_,_,_,_,_,_,_,_,_,_,_,_,_,_,_,_,_,_,_,_,_,_,_,_,_,_,_,_,_,_,_,_,_,_,_,_,_,_,_,_,_,_,_,_,_,_,_,_,_,_,_,_,_,_,_,_,_,_,_,_,_,_,_]) rfl ?_
                    exact ⟨t + 1, _, rfl, ⟨_,_,_,_,_,_,_,_,_,_,_,_,_,_, (appL x mb).1, N2, rfl, by omega, (fun h => hst.2.1 (by omega)), hst.2.2, hL2, H⟩, by omega⟩
                · skip
                  obtain rfl : t = z + 1 := by omega
                  refine wp_exit (x_thenExit (x_thenExit (x_blockHit ?_)))
                  refine x_thenNormal ?_
                  refine c_seq ?_
                  refine c_rseq (n := 178) ⟨rfl, rfl⟩ ?_
                  refine s_val (r_fieldAddr (k := 4) Try.runUnderlying32 rfl Try.sizeOf28 (by decide) rfl rfl) ?_
                  refine s_val (r_load1 Try.isAgg28 rfl (H.at 0 rfl) rfl) ?_
                  refine s_call (r_call Try.call14 (ec rfl en)) (lflush_spec bl x (3 * z + z + (z + 1)) N (by omega) _ hL (H.ownsM (.cons _ (.cons _ (List.Sublist.refl _))))) ?_
                  rintro v w ⟨rfl, N2, hL2, HC⟩
                  replace H : St w0 [] w (_ :: _ :: N2) := St.callr (L := [_,_]) H HC
                  replace hL := hL2
                  refine s_val (r_neq rfl rfl) ?_
                  refine c_nil (l' := [_,_,_,_,_,_,_,_,_,_,_,_,_,_,_,_,_,_,_,_,_,_,_,_,_,_,_,_,_,_,_,_,_,_,_,_,_,_,_,_,_,_,_,_,_,_,_,_,_,_,_,_,_,_,_,_,_,_,_,_,_,_,_,_,_,_,_,_,_,_,_,_,_,_,_,_,_,_,_,_,_,_,_,_,_,_,_,_,_,_,_,_,_,_,_,_,_,_,_,_,_,_,_,_,_,_,_,_,_,_,_,_,_,_,_,_,_,_,_,_,_,_,_,_,_,_,_,_,_,_,_,_,_,_,_,_,_,_,_,_,_,_,_,_,_,_,_,_,_,_,_,_,_,_,_,_,_,_,_,_,_,_,_,_,_,_,_,_,_,_,_,_,_,_,_,_,_,_]) rfl ?_
                  refine c_if rfl (fun h128 => ?_) (fun h128 => ?_)
                  · skip
                    exfalso; omega
                  · skip
                    refine wp_skip ?_
                    refine x_thenNormal ?_
                    refine c_seq ?_
                    refine d_begin (sz := 178) ⟨rfl, rfl⟩ (by kernel_rfl) H (H.sub (.cons_cons _ (.cons_cons _ (List.nil_sublist _)))) rfl ?_
                    intro w H
                    refine d_take (i := 0) rfl (by kernel_rfl) (fun _ _ _ h => h) (H.sub (.cons_cons _ (.cons_cons _ (List.nil_sublist _)))) (fun _ _ => r_fieldAddr (k := 1) Try.runUnderlying32 rfl Try.sizeOf26 (by decide) rfl rfl) rfl ?_
                    refine d_take (i := 1) rfl (by kernel_rfl) (fun _ _ _ h => h) (H.sub (.cons_cons _ (.cons_cons _ (List.nil_sublist _)))) (fun _ HS => r_load1 Try.isAgg26 rfl (HS.at 0 rfl) rfl) rfl ?_
                    refine d_take (i := 2) rfl (by kernel_rfl) (fun _ _ _ h => h) (H.sub (.cons_cons _ (.cons_cons _ (List.nil_sublist _)))) (fun _ _ => r_fieldAddr (k := 2) Try.runUnderlying32 rfl Try.sizeOf26 (by decide) rfl rfl) rfl ?_
                    refine d_take (i := 3) rfl (by kernel_rfl) (fun _ _ _ h => h) (H.sub (.cons_cons _ (.cons_cons _ (List.nil_sublist _)))) (fun _ HS => r_load1 Try.isAgg26 rfl (HS.at 0 rfl) rfl) rfl ?_
                    refine d_take (i := 4) rfl (by kernel_rfl) (fun _ _ _ h => h) (H.sub (.cons_cons _ (.cons_cons _ (List.nil_sublist _)))) (fun _ _ => r_buildS (zs := litZ) (out := litZ) Try.runUnderlying72 Try.zeroValue72 places72 pn rfl) rfl ?_
                    refine d_take (i := 5) rfl (by kernel_rfl) (fun _ _ _ h => h) (H.sub (.cons_cons _ (.cons_cons _ (List.nil_sublist _)))) (fun _ _ => r_makeIface Try.runUnderlying72 (fun _ h => nomatch h) rfl) rfl ?_
                    refine d_take (i := 8) rfl (by kernel_rfl) (fun _ _ _ h => h) (H.sub (.cons_cons _ (.cons_cons _ (List.nil_sublist _)))) (fun _ _ => r_buildS (zs := litZ) (out := litZ) Try.runUnderlying72 Try.zeroValue72 places72 pn rfl) rfl ?_
                    refine d_take (i := 9) rfl (by kernel_rfl) (fun _ _ _ h => h) (H.sub (.cons_cons _ (.cons_cons _ (List.nil_sublist _)))) (fun _ _ => r_makeIface Try.runUnderlying72 (fun _ h => nomatch h) rfl) rfl ?_
                    refine d_take (i := 10) rfl (by kernel_rfl) (fun _ _ _ h => h) (H.sub (.cons_cons _ (.cons_cons _ (List.nil_sublist _)))) (fun _ _ => r_fieldAddr (k := 5) Try.runUnderlying32 rfl Try.sizeOf30 (by decide) rfl rfl) rfl ?_
                    refine d_take (i := 11) rfl (by kernel_rfl) (fun _ _ _ h => h) (H.sub (.cons_cons _ (.cons_cons _ (List.nil_sublist _)))) (fun _ HS => r_loadn Try.isAgg30 Try.sizeOf30 rfl (HS.at 0 rfl) (rigC_sh _ _ _ _ _ _ _) (by first | exact (kC_length _) | exact (hC_length _) | exact (shC_length _ _) | exact (wC_length _) | exact (sdC_length _ _) | exact (xrL_length _ _ _) | exact (xrC_length _ _ _ _ _ _ _) | exact (rigC_length _ _ _ _ _ _ _) | exact (doC_length _) | exact (elFd.len _) | exact (fdV_length _ _ _) | exact (elFd.len _) | exact rfl)) rfl ?_
                    refine d_all1 (i := 6) (by kernel_rfl) ?_
                    refine b_call rfl go_none (r_call Try.call23 (ec rfl en)) (good_spec litZ _) rfl ?_
                    rintro v w ⟨bg, rfl, HC⟩
                    replace H := H.call0 HC
                    refine ⟨(H.sub (.cons _ (.cons_cons _ (.cons_cons _ (List.nil_sublist _))))), ?_⟩
                    refine d_all1 (i := 7) (by kernel_rfl) ?_
                    obtain ⟨hdA, hdB⟩ := hL.dev (by omega) H (fun p hp => (List.mem_cons_of_mem _ (List.mem_cons_of_mem _ (List.mem_cons_of_mem _ hp))))
                    refine b_call rfl go_none (r_call Try.call22 (ec rfl (ec rfl (ec rfl en)))) (newmir_spec ba bb bg x.C (by rw [hE.cl]; omega) _ hdA hdB) rfl ?_
                    rintro v w ⟨bm2, ma2, mb2, rfl, HC⟩
                    replace H := H.call0 HC
                    obtain ⟨bm0, cs0, bu0, T, T2, Nm, rfl, ⟨ma0, mb0, bg0, cs1, bp, lf, ac, nc, cc, T', Tp, NA, NB, rfl, hA, hB, hcl⟩, hF⟩ := hL
                    replace H : St w0 [] w (_ :: _ :: (_ :: _ :: _ :: _ :: _ :: (NA ++ NB))) := (St.again (A := [_,_]) (M := []) H).sub (.cons_cons _ (.cons_cons _ (List.sublist_append_right [_,_,_,_,_,_] _)))
                    have hM2 : MirN 150 51 89 72 ba bb bm2 x.C (3 * z + z + (z + 1)) ((bm2, .cells (mC ba ma2 bb mb2 x.C.length (.func (.func 51) #[] #[.pointer (some ⟨bg, 0, none⟩)])).toArray 119 (0, 0)) :: (ma2, mapZ) :: (mb2, mapZ) :: (bg, .cells [.iface 72 (.agg litZ.toArray)].toArray 89 (0, 0)) :: (bp, .cells (pC lf ac nc cc).toArray Tp (0, 0)) :: (NA ++ NB)) := ⟨ma2, mb2, bg, litZ, bp, lf, ac, nc, cc, 119, Tp, NA, NB, rfl, hA, hB, hcl⟩
                    refine ⟨(H.sub (.cons_cons _ (.cons_cons _ (List.nil_sublist _)))), ?_⟩
                    refine d_all1 (i := 12) (by kernel_rfl) ?_
                    refine b_call rfl go_none (r_call Try.call21 (ec rfl (ec rfl (ec rfl en)))) (open_spec bm2 x.C (3 * z + z + (z + 1)) _ (by omega) litZ ((6 : Nat) : Int) z (by omega) (by omega) (by omega) (by omega) (by rw [hE.cl]; omega) (by omega) hE.B _ hM2 (H.ownsM (.cons _ (.cons _ (List.Sublist.refl _))))) rfl ?_
                    rintro v w ⟨bl2, fs, a2, c2, Nr, Nb, N3, rfl, hperm, hsrt, hRf, hBs, hLm, HC⟩
                    replace H : St w0 [] w (_ :: _ :: (Nr ++ (Nb ++ N3))) := St.callr (L := [_,_]) H HC
                    have hfl : fs.length ≤ 24 := by
                      have h1 := hperm.length_eq
                      rw [List.length_map] at h1
                      have h2 : (opI (openL0 ((6 : Nat) : Int) z x.C, []) ((6 : Nat) : Int).toNat).2.length ≤ 0 + 6 * z := opI_len (p := (openL0 ((6 : Nat) : Int) z x.C, [])) 6
                      omega
                    refine ⟨(H.sub (.cons_cons _ (.cons_cons _ (List.nil_sublist _)))), ?_⟩
                    refine d_take (i := 13) rfl (by kernel_rfl) (fun _ _ _ h => h) (H.sub (.cons_cons _ (.cons_cons _ (List.nil_sublist _)))) (fun _ _ => r_move rfl) rfl ?_
                    refine d_take (i := 14) rfl (by kernel_rfl) (fun _ _ _ h => h) (H.sub (.cons_cons _ (.cons_cons _ (List.nil_sublist _)))) (fun _ _ => r_extract rfl rfl) rfl ?_
                    refine d_take (i := 15) rfl (by kernel_rfl) (fun _ _ _ h => h) (H.sub (.cons_cons _ (.cons_cons _ (List.nil_sublist _)))) (fun _ _ => r_extract rfl rfl) rfl ?_
                    refine d_take (i := 16) rfl (by kernel_rfl) (fun _ _ _ h => h) (H.sub (.cons_cons _ (.cons_cons _ (List.nil_sublist _)))) (fun _ _ => r_extract rfl rfl) rfl ?_
                    refine d_take (i := 17) rfl (by kernel_rfl) (fun _ _ _ h => h) (H.sub (.cons_cons _ (.cons_cons _ (List.nil_sublist _)))) (fun _ _ => r_assign rfl) rfl ?_
                    refine d_take (i := 18) rfl (by kernel_rfl) (fun _ _ _ h => h) (H.sub (.cons_cons _ (.cons_cons _ (List.nil_sublist _)))) (fun _ _ => r_assign rfl) rfl ?_
                    refine d_take (i := 19) rfl (by kernel_rfl) (fun _ _ _ h => h) (H.sub (.cons_cons _ (.cons_cons _ (List.nil_sublist _)))) (fun _ _ => r_assign rfl) rfl ?_
                    refine d_done (l' := [_,_,_,_,_,_,_,_,_,_,_,_,_,_,_,_,_,_,_,_,_,_,_,_,_,_,_,_,_,_,_,_,_,_,_,_,_,_,_,_,_,_,_,_,_,_,_,_,_,_,_,_,_,_,_,_,_,_,_,_,_,_,_,_,_,_,_,_,_,_,_,_,_,_,_,_,_,_,_,_,_,_,_,_,_,_,_,_,_,_,_,_,_,_,_,_,_,_,_,_,_,_,_,_,_,_,_,_,_,_,_,_,_,_,_,_,_,_,_,_,_,_,_,_,_,_,_,_,_,_,_,_,_,_,_,_,_,_,_,_,_,_,_,_,_,_,_,_,_,_,_,_,_,_,_,_,_,_,_,_,_,_,_,_,_,_,_,_,_,_,_,_,_,_,_,_,_,_]) (by kernel_rfl) rfl ?_
                    refine x_thenNormal ?_
                    refine c_seq ?_
                    refine c_rseq (n := 178) ⟨rfl, rfl⟩ ?_
                    refine s_val (r_move rfl) ?_
                    refine s_val (r_neq rfl rfl) ?_
                    refine c_nil (l' := [_,_,_,_,_,_,_,_,_,_,_,_,_,_,_,_,_,_,_,_,_,_,_,_,_,_,_,_,_,_,_,_,_,_,_,_,_,_,_,_,_,_,_,_,_,_,_,_,_,_,_,_,_,_,_,_,_,_,_,_,_,_,_,_,_,_,_,_,_,_,_,_,_,_,_,_,_,_,_,_,_,_,_,_,_,_,_,_,_,_,_,_,_,_,_,_,_,_,_,_,_,_,_,_,_,_,_,_,_,_,_,_,_,_,_,_,_,_,_,_,_,_,_,_,_,_,_,_,_,_,_,_,_,_,_,_,_,_,_,_,_,_,_,_,_,_,_,_,_,_,_,_,_,_,_,_,_,_,_,_,_,_,_,_,_,_,_,_,_,_,_,_,_,_,_,_,_,_]) rfl ?_
                    refine c_if rfl (fun h147 => ?_) (fun h147 => ?_)
                    · skip
                      exfalso; omega
                    · skip
                      refine wp_skip ?_
                      refine x_thenNormal ?_
                      refine c_seq ?_
                      refine c_rseq (n := 178) ⟨rfl, rfl⟩ ?_
                      refine s_val (r_move rfl) ?_
                      refine s_val (r_mul rfl rfl (w_i64 (by omega) (by omega))) ?_
                      refine s_val (r_move rfl) ?_
                      refine c_nil (l' := [_,_,_,_,_,_,_,_,_,_,_,_,_,_,_,_,_,_,_,_,_,_,_,_,_,_,_,_,_,_,_,_,_,_,_,_,_,_,_,_,_,_,_,_,_,_,_,_,_,_,_,_,_,_,_,_,_,_,_,_,_,_,_,_,_,_,_,_,_,_,_,_,_,_,_,_,_,_,_,_,_,_,_,_,_,_,_,_,_,_,_,_,_,_,_,_,_,_,_,_,_,_,_,_,_,_,_,_,_,_,_,_,_,_,_,_,_,_,_,_,_,_,_,_,_,_,_,_,_,_,_,_,_,_,_,_,_,_,_,_,_,_,_,_,_,_,_,_,_,_,_,_,_,_,_,_,_,_,_,_,_,_,_,_,_,_,_,_,_,_,_,_,_,_,_,_,_,_]) rfl ?_
                      refine wp_block ?_
                      refine c_loop (fun (l0 : List Value) (i : Nat) (l : List Value) (w : World) => ∃ (u6 u24 u25 u27 u151 u152 u153 u154 u155 u156 u157 u158 u159 u160 u161 u162 u163 u164 u165 u166 u167 u168 u169 u170 u171 u172 u173 u174 u175 u176 u177 : Value) , l = ovr l0 [N_, N_, N_, N_, N_, N_, Y_ u6, N_, N_, N_, N_, N_, N_, N_, N_, N_, N_, N_, N_, N_, N_, N_, N_, N_, Y_ u24, Y_ u25, N_, Y_ u27, N_, N_, N_, N_, N_, N_, N_, N_, N_, N_, N_, N_, N_, N_, N_, N_, N_, N_, N_, N_, N_, N_, N_, N_, N_, N_, N_, N_, N_, N_, N_, N_, N_, N_, N_, N_, N_, N_, N_, N_, N_, N_, N_, N_, N_, N_, N_, N_, N_, N_, N_, N_, N_, N_, N_, N_, N_, N_, N_, N_, N_, N_, N_, N_, N_, N_, N_, N_, N_, N_, N_, N_, N_, N_, N_, N_, N_, N_, N_, N_, N_, N_, N_, N_, N_, N_, N_, N_, N_, N_, N_, N_, N_, N_, N_, N_, N_, N_, N_, N_, N_, N_, N_, N_, N_, N_, N_, N_, N_, N_, N_, N_, N_, N_, N_, N_, N_, N_, N_, N_, N_, N_, Y_ (.int .i64 i), Y_ u151, Y_ u152, Y_ u153, Y_ u154, Y_ u155, Y_ u156, Y_ u157, Y_ u158, Y_ u159, Y_ u160, Y_ u161, Y_ u162, Y_ u163, Y_ u164, Y_ u165, Y_ u166, Y_ u167, Y_ u168, Y_ u169, Y_ u170, Y_ u171, Y_ u172, Y_ u173, Y_ u174, Y_ u175, Y_ u176, Y_ u177] ∧ i ≤ 3 * z ∧ St w0 [] w ((b7, .cells (rigC pp (some ⟨ba, 0, none⟩) (some ⟨bb, 0, none⟩) pm (some ⟨bl, 0, none⟩) ((6 : Nat) : Int) z).toArray 32 (0, 0)) :: (be, .cells (rowC bdC (cycD pl z) ++ spe).toArray 40 (0, 0)) :: Nr ++ (Nb ++ N3))) (fun (i : Nat) => 3 * z - i) 0 ⟨_,_,_,_,_,_,_,_,_,_,_,_,_,_,_,_,_,_,_,_,_,_,_,_,_,_,_,_,_,_,_, rfl, by omega, H⟩ ?_
                      intro i l w ⟨u6, u24, u25, u27, u151, u152, u153, u154, u155, u156, u157, u158, u159, u160, u161, u162, u163, u164, u165, u166, u167, u168, u169, u170, u171, u172, u173, u174, u175, u176, u177, hl, hi, H⟩
                      obtain rfl := hl.trans (rfl : _ = [_,_,_,_,_,_,_,_,_,_,_,_,_,_,_,_,_,_,_,_,_,_,_,_,_,_,_,_,_,_,_,_,_,_,_,_,_,_,_,_,_,_,_,_,_,_,_,_,_,_,_,_,_,_,_,_,_,_,_,_,_,_,_,_,_,_,_,_,_,_,_,_,_,_,_,_,_,_,_,_,_,_,_,_,_,_,_,_,_,_,_,_,_,_,_,_,_,_,_,_,_,_,_,_,_,_,_,_,_,_,_,_,_,_,_,_,_,_,_,_,_,_,_,_,_,_,_,_,_,_,_,_,_,_,_,_,_,_,_,_,_,_,_,_,_,_,_,_,_,_,_,_,_,_,_,_,_,_,_,_,_,_,_,_,_,_,_,_,_,_,_,_,_,_,_,_,_,_])
                      clear hl
                      refine c_rseq (n := 178) ⟨rfl, rfl⟩ ?_
                      refine s_val (r_lss rfl rfl) ?_
                      refine c_nil (l' := [_,_,_,_,_,_,_,_,_,_,_,_,_,_,_,_,_,_,_,_,_,_,_,_,_,_,_,_,_,_,_,_,_,_,_,_,_,_,_,_,_,_,_,_,_,_,_,_,_,_,_,_,_,_,_,_,_,_,_,_,_,_,_,_,_,_,_,_,_,_,_,_,_,_,_,_,_,_,_,_,_,_,_,_,_,_,_,_,_,_,_,_,_,_,_,_,_,_,_,_,_,_,_,_,_,_,_,_,_,_,_,_,_,_,_,_,_,_,_,_,_,_,_,_,_,_,_,_,_,_,_,_,_,_,_,_,_,_,_,_,_,_,_,_,_,_,_,_,_,_,_,_,_,_,_,_,_,_,_,_,_,_,_,_,_,_,_,_,_,_,_,_,_,_,_,_,_,_]) rfl ?_
                      refine c_seq ?_
                      refine c_if rfl (fun h151 => ?_) (fun h151 => ?_)
                      · skip
                        obtain ⟨y, hy⟩ : ∃ y, pl.getD (i % pl.length) bdZ = y := ⟨_, rfl⟩
                        have hmi := Nat.mod_lt i (show 0 < pl.length by omega)
                        have hyb := hb _ hmi
                        rw [hy] at hyb
                        have hfnd := mv_found (i := i) hO hE.eq (by omega) hperm
                        rw [hy] at hfnd
                        refine wp_skip ?_
                        refine x_thenNormal ?_
                        refine c_seq ?_
                        refine wp_block ?_
                        refine c_rseq (n := 178) ⟨rfl, rfl⟩ ?_
                        refine s_val (r_move rfl) ?_
                        refine s_val (r_assign rfl) ?_
                        refine c_nil (l' := [_,_,_,_,_,_,_,_,_,_,_,_,_,_,_,_,_,_,_,_,_,_,_,_,_,_,_,_,_,_,_,_,_,_,_,_,_,_,_,_,_,_,_,_,_,_,_,_,_,_,_,_,_,_,_,_,_,_,_,_,_,_,_,_,_,_,_,_,_,_,_,_,_,_,_,_,_,_,_,_,_,_,_,_,_,_,_,_,_,_,_,_,_,_,_,_,_,_,_,_,_,_,_,_,_,_,_,_,_,_,_,_,_,_,_,_,_,_,_,_,_,_,_,_,_,_,_,_,_,_,_,_,_,_,_,_,_,_,_,_,_,_,_,_,_,_,_,_,_,_,_,_,_,_,_,_,_,_,_,_,_,_,_,_,_,_,_,_,_,_,_,_,_,_,_,_,_,_]) rfl ?_
                        refine c_rseq (n := 178) ⟨rfl, rfl⟩ ?_
                        refine s_val (r_assign rfl) ?_
                        refine c_nil (l' := [_,_,_,_,_,_,_,_,_,_,_,_,_,_,_,_,_,_,_,_,_,_,_,_,_,_,_,_,_,_,_,_,_,_,_,_,_,_,_,_,_,_,_,_,_,_,_,_,_,_,_,_,_,_,_,_,_,_,_,_,_,_,_,_,_,_,_,_,_,_,_,_,_,_,_,_,_,_,_,_,_,_,_,_,_,_,_,_,_,_,_,_,_,_,_,_,_,_,_,_,_,_,_,_,_,_,_,_,_,_,_,_,_,_,_,_,_,_,_,_,_,_,_,_,_,_,_,_,_,_,_,_,_,_,_,_,_,_,_,_,_,_,_,_,_,_,_,_,_,_,_,_,_,_,_,_,_,_,_,_,_,_,_,_,_,_,_,_,_,_,_,_,_,_,_,_,_,_]) rfl ?_
                        refine c_seq ?_
                        refine c_rseq (n := 178) ⟨rfl, rfl⟩ ?_
                        refine s_val (r_move rfl) ?_
                        refine s_val (r_lens Try.runUnderlying62 (ec rfl en)) ?_
                        refine s_val (r_move rfl) ?_
                        refine c_nil (l' := [_,_,_,_,_,_,_,_,_,_,_,_,_,_,_,_,_,_,_,_,_,_,_,_,_,_,_,_,_,_,_,_,_,_,_,_,_,_,_,_,_,_,_,_,_,_,_,_,_,_,_,_,_,_,_,_,_,_,_,_,_,_,_,_,_,_,_,_,_,_,_,_,_,_,_,_,_,_,_,_,_,_,_,_,_,_,_,_,_,_,_,_,_,_,_,_,_,_,_,_,_,_,_,_,_,_,_,_,_,_,_,_,_,_,_,_,_,_,_,_,_,_,_,_,_,_,_,_,_,_,_,_,_,_,_,_,_,_,_,_,_,_,_,_,_,_,_,_,_,_,_,_,_,_,_,_,_,_,_,_,_,_,_,_,_,_,_,_,_,_,_,_,_,_,_,_,_,_]) rfl ?_
                        refine wp_block ?_
                        refine c_loop (fun (l0 : List Value) (m : Nat) (l : List Value) (w : World) => ∃ (u27 u156 u157 u158 u159 u160 u161 u162 u163 u164 u165 u166 u167 u168 u169 u170 u171 u172 u173 u174 : Value) (th : Bool), l = ovr l0 [N_, N_, N_, N_, N_, N_, N_, N_, N_, N_, N_, N_, N_, N_, N_, N_, N_, N_, N_, N_, N_, N_, N_, N_, N_, Y_ (.bool th), N_, Y_ u27, N_, N_, N_, N_, N_, N_, N_, N_, N_, N_, N_, N_, N_, N_, N_, N_, N_, N_, N_, N_, N_, N_, N_, N_, N_, N_, N_, N_, N_, N_, N_, N_, N_, N_, N_, N_, N_, N_, N_, N_, N_, N_, N_, N_, N_, N_, N_, N_, N_, N_, N_, N_, N_, N_, N_, N_, N_, N_, N_, N_, N_, N_, N_, N_, N_, N_, N_, N_, N_, N_, N_, N_, N_, N_, N_, N_, N_, N_, N_, N_, N_, N_, N_, N_, N_, N_, N_, N_, N_, N_, N_, N_, N_, N_, N_, N_, N_, N_, N_, N_, N_, N_, N_, N_, N_, N_, N_, N_, N_, N_, N_, N_, N_, N_, N_, N_, N_, N_, N_, N_, N_, N_, N_, N_, N_, N_, N_, Y_ (.int .i64 m), Y_ u156, Y_ u157, Y_ u158, Y_ u159, Y_ u160, Y_ u161, Y_ u162, Y_ u163, Y_ u164, Y_ u165, Y_ u166, Y_ u167, Y_ u168, Y_ u169, Y_ u170, Y_ u171, Y_ u172, Y_ u173, Y_ u174] ∧ m ≤ fs.length ∧ (∀ k, k < m → ∀ f, fs[k]? = some f → f.bd.b = y.b → th = true) ∧ St w0 [] w ((b7, .cells (rigC pp (some ⟨ba, 0, none⟩) (some ⟨bb, 0, none⟩) pm (some ⟨bl, 0, none⟩) ((6 : Nat) : Int) z).toArray 32 (0, 0)) :: (be, .cells (rowC bdC (cycD pl z) ++ spe).toArray 40 (0, 0)) :: Nr ++ (Nb ++ N3))) (fun (m : Nat) => fs.length - m) 0 ⟨_,_,_,_,_,_,_,_,_,_,_,_,_,_,_,_,_,_,_,_, false, rfl, by omega, (fun _ h => absurd h (Nat.not_lt_zero _)), H⟩ ?_
                        intro m l w ⟨u27, u156, u157, u158, u159, u160, u161, u162, u163, u164, u165, u166, u167, u168, u169, u170, u171, u172, u173, u174, th, hl, hm, hth, H⟩
                        obtain rfl := hl.trans (rfl : _ = [_,_,_,_,_,_,_,_,_,_,_,_,_,_,_,_,_,_,_,_,_,_,_,_,_,_,_,_,_,_,_,_,_,_,_,_,_,_,_,_,_,_,_,_,_,_,_,_,_,_,_,_,_,_,_,_,_,_,_,_,_,_,_,_,_,_,_,_,_,_,_,_,_,_,_,_,_,_,_,_,_,_,_,_,_,_,_,_,_,_,_,_,_,_,_,_,_,_,_,_,_,_,_,_,_,_,_,_,_,_,_,_,_,_,_,_,_,_,_,_,_,_,_,_,_,_,_,_,_,_,_,_,_,_,_,_,_,_,_,_,_,_,_,_,_,_,_,_,_,_,_,_,_,_,_,_,_,_,_,_,_,_,_,_,_,_,_,_,_,_,_,_,_,_,_,_,_,_])
                        clear hl
                        refine c_rseq (n := 178) ⟨rfl, rfl⟩ ?_
                        refine s_val (r_lss rfl rfl) ?_
                        refine c_nil (l' := [_,_,_,_,_,_,_,_,_,_,_,_,_,_,_,_,_,_,_,_,_,_,_,_,_,_,_,_,_,_,_,_,_,_,_,_,_,_,_,_,_,_,_,_,_,_,_,_,_,_,_,_,_,_,_,_,_,_,_,_,_,_,_,_,_,_,_,_,_,_,_,_,_,_,_,_,_,_,_,_,_,_,_,_,_,_,_,_,_,_,_,_,_,_,_,_,_,_,_,_,_,_,_,_,_,_,_,_,_,_,_,_,_,_,_,_,_,_,_,_,_,_,_,_,_,_,_,_,_,_,_,_,_,_,_,_,_,_,_,_,_,_,_,_,_,_,_,_,_,_,_,_,_,_,_,_,_,_,_,_,_,_,_,_,_,_,_,_,_,_,_,_,_,_,_,_,_,_]) rfl ?_
                        refine c_seq ?_
                        refine c_if rfl (fun h156 => ?_) (fun h156 => ?_)
                        · skip
                          obtain ⟨bf, spf, rfl, hcf, rfl, hcf2⟩ := hRf.some (by omega)
                          obtain ⟨f, hf⟩ : ∃ f, fs[m]? = some f := ⟨_, List.getElem?_eq_getElem (by omega)⟩
                          have hfm := List.mem_of_getElem? hf
                          cases th
                          · skip
                            skip
                            refine wp_skip ?_
                            refine x_thenNormal ?_
                            refine c_seq ?_
                            refine wp_block ?_
                            refine c_rseq (n := 178) ⟨rfl, rfl⟩ ?_
                            refine s_val (r_indexAddrS Try.runUnderlying62 Try.sizeOf74 rfl rfl (by omega) (by omega)) ?_
                            refine s_val (r_loadn Try.isAgg74 Try.sizeOf74 rfl (H.at 2 rfl) (fd_td hf (by omega)) (by first | exact (kC_length _) | exact (hC_length _) | exact (shC_length _ _) | exact (wC_length _) | exact (sdC_length _ _) | exact (xrL_length _ _ _) | exact (xrC_length _ _ _ _ _ _ _) | exact (rigC_length _ _ _ _ _ _ _) | exact (doC_length _) | exact (elFd.len _) | exact (fdV_length _ _ _) | exact (elFd.len _) | exact rfl)) ?_
                            refine s_new (m_alloc (cs := (fdV 0 0 bdZ)) H Try.zeroValue74 rfl) ?_
                            intro w b27 H
                            refine s_st (m_storen H 0 3 Try.sizeOf74 rfl rfl (by first | exact (kC_length _) | exact (hC_length _) | exact (shC_length _ _) | exact (wC_length _) | exact (sdC_length _ _) | exact (xrL_length _ _ _) | exact (xrC_length _ _ _ _ _ _ _) | exact (rigC_length _ _ _ _ _ _ _) | exact (doC_length _) | exact (elFd.len _) | exact (fdV_length _ _ _) | exact (elFd.len _)) (by first | exact (kC_one _) | exact (hC_one _) | exact (shC_one _ _) | exact (elW.one _) | exact (sdC_one _ _) | exact (xrL_one _ _ _) | exact (xrC_one _ _ _ _ _ _ _) | exact (rigC_one _ _ _ _ _ _ _) | exact (elDo.one _) | exact (elFd.one _) | exact (fdV_one _ _ _)) rfl (by show 0 + 3 ≤ 3; omega) (fdV_sp _ _ _ _ _ _)) (L' := (_ :: _ :: _ :: _)) rfl ?_
                            intro w H
                            refine c_nil (l' := [_,_,_,_,_,_,_,_,_,_,_,_,_,_,_,_,_,_,_,_,_,_,_,_,_,_,_,_,_,_,_,_,_,_,_,_,_,_,_,_,_,_,_,_,_,_,_,_,_,_,_,_,_,_,_,_,_,_,_,_,_,_,_,_,_,_,_,_,_,_,_,_,_,_,_,_,_,_,_,_,_,_,_,_,_,_,_,_,_,_,_,_,_,_,_,_,_,_,_,_,_,_,_,_,_,_,_,_,_,_,_,_,_,_,_,_,_,_,_,_,_,_,_,_,_,_,_,_,_,_,_,_,_,_,_,_,_,_,_,_,_,_,_,_,_,_,_,_,_,_,_,_,_,_,_,_,_,_,_,_,_,_,_,_,_,_,_,_,_,_,_,_,_,_,_,_,_,_]) rfl ?_
                            refine d_begin (sz := 178) ⟨rfl, rfl⟩ (by kernel_rfl) H (H) rfl ?_
                            intro w H
                            refine d_take (i := 0) rfl (by kernel_rfl) (fun _ _ _ h => h) H (fun _ _ => r_move rfl) rfl ?_
                            refine d_take (i := 1) rfl (by kernel_rfl) (fun _ _ _ h => h) H (fun _ _ => r_move rfl) rfl ?_
                            refine d_takeG (i := 2) rfl (by kernel_rfl) (fun _ _ _ h => h) rfl rfl H (fun _ _ => r_fieldAddr (k := 2) Try.runUnderlying74 rfl Try.sizeOf40 (by decide) rfl rfl) rfl ?_
                            refine d_takeG (i := 3) rfl (by kernel_rfl) (fun _ _ _ h => h) rfl rfl H (fun _ HS => r_load1 Try.isAgg40 rfl (HS.at 0 rfl) rfl) rfl ?_
                            refine d_takeG (i := 4) rfl (by kernel_rfl) (fun _ _ _ h => h) rfl rfl H (fun _ HS => r_textB Try.runUnderlying40 Try.runUnderlying9 Try.runUnderlying5 (bs := f.bd.b) rfl (hBs.brow HS (fun p hp => (List.mem_cons_of_mem _ (List.mem_cons_of_mem _ (List.mem_cons_of_mem _ (List.mem_append_right _ (List.mem_append_left _ hp)))))) f hfm)) rfl ?_
                            refine d_takeG (i := 5) rfl (by kernel_rfl) (fun _ _ _ h => h) rfl rfl H (fun _ _ => r_move rfl) rfl ?_
                            refine d_takeG (i := 6) rfl (by kernel_rfl) (fun _ _ _ h => h) rfl rfl H (fun _ _ => r_move rfl) rfl ?_
                            refine d_takeG (i := 7) rfl (by kernel_rfl) (fun _ _ _ h => h) rfl rfl H (fun _ _ => r_move rfl) rfl ?_
                            refine d_takeG (i := 8) rfl (by kernel_rfl) (fun _ _ _ h => h) rfl rfl H (fun _ _ => r_lens Try.runUnderlying60 (ec rfl en)) rfl ?_
                            refine d_takeG (i := 9) rfl (by kernel_rfl) (fun _ _ _ h => h) rfl rfl H (fun _ _ => r_rem rfl rfl (by omega) (tmod_nat _ _)) rfl ?_
                            refine d_takeG (i := 10) rfl (by kernel_rfl) (fun _ _ _ h => h) rfl rfl H (fun _ _ => r_indexAddrS Try.runUnderlying60 Try.sizeOf40 rfl rfl (by omega) (by omega)) rfl ?_
                            refine d_takeG (i := 11) rfl (by kernel_rfl) (fun _ _ _ h => h) rfl rfl H (fun _ HS => r_load1 Try.isAgg40 rfl (HS.rd0 hb0) (bd_at hp0 hmi (by omega) hy)) rfl ?_
                            refine d_takeG (i := 12) rfl (by kernel_rfl) (fun _ _ _ h => h) rfl rfl H (fun _ HS => r_textB Try.runUnderlying40 Try.runUnderlying9 Try.runUnderlying5 (a := y.a) (c := y.c) (bs := y.b) rfl (hyb.st (HS.sub (List.nil_sublist _)))) rfl ?_
                            refine d_takeG (i := 13) rfl (by kernel_rfl) (fun _ _ _ h => h) rfl rfl H (fun _ _ => r_eqlT (s := f.bd.b) (t := y.b) rfl rfl) rfl ?_
                            refine d_take (i := 14) rfl (by kernel_rfl) (fun _ _ _ h => h) H (fun _ _ => r_pickf rfl rfl) rfl ?_
                            refine d_take (i := 15) rfl (by kernel_rfl) (fun _ _ _ h => h) H (fun _ _ => r_assign rfl) rfl ?_
                            refine d_done (l' := [_,_,_,_,_,_,_,_,_,_,_,_,_,_,_,_,_,_,_,_,_,_,_,_,_,_,_,_,_,_,_,_,_,_,_,_,_,_,_,_,_,_,_,_,_,_,_,_,_,_,_,_,_,_,_,_,_,_,_,_,_,_,_,_,_,_,_,_,_,_,_,_,_,_,_,_,_,_,_,_,_,_,_,_,_,_,_,_,_,_,_,_,_,_,_,_,_,_,_,_,_,_,_,_,_,_,_,_,_,_,_,_,_,_,_,_,_,_,_,_,_,_,_,_,_,_,_,_,_,_,_,_,_,_,_,_,_,_,_,_,_,_,_,_,_,_,_,_,_,_,_,_,_,_,_,_,_,_,_,_,_,_,_,_,_,_,_,_,_,_,_,_,_,_,_,_,_,_]) (by kernel_rfl) rfl ?_
                            refine x_blockNormal ?_
                            refine x_thenNormal ?_
                            refine c_region (n := 178) ⟨rfl, rfl⟩ ?_
                            refine s_val (r_add rfl rfl (w_i64 (by omega) (by omega))) ?_
                            refine s_val (r_move rfl) ?_
                            refine c_nil0 (l' := [_,_,_,_,_,_,_,_,_,_,_,_,_,_,_,_,_,_,_,_,_,_,_,_,_,_,_,_,_,_,_,_,_,_,_,_,_,_,_,_,_,_,_,_,_,_,_,_,_,_,_,_,_,_,_,_,_,_,_,_,_,_,_,_,_,_,_,_,_,_,_,_,_,_,_,_,_,_,_,_,_,_,_,_,_,_,_,_,_,_,_,_,_,_,_,_,_,_,_,_,_,_,_,_,_,_,_,_,_,_,_,_,_,_,_,_,_,_,_,_,_,_,_,_,_,_,_,_,_,_,_,_,_,_,_,_,_,_,_,_,_,_,_,_,_,_,_,_,_,_,_,_,_,_,_,_,_,_,_,_,_,_,_,_,_,_,_,_,_,_,_,_,_,_,_,_,_,_]) rfl ?_
                            have hth2 : ∀ k, k < m + 1 → ∀ f2, fs[k]? = some f2 → f2.bd.b = y.b → decide (f.bd.b = y.b) = true := by
                              intro k hk f2 h2 e
                              rcases Nat.lt_or_ge k m with h | h
                              · exact absurd (hth k h f2 h2 e) (by decide)
                              · obtain rfl : k = m := by omega
                                rw [hf] at h2
                                cases h2
                                exact decide_eq_true e
                            replace H := H.sub (.cons _ (.cons_cons _ (.cons_cons _ (List.Sublist.refl _))))
                            exact ⟨m + 1, _, rfl, ⟨_,_,_,_,_,_,_,_,_,_,_,_,_,_,_,_,_,_,_,_, (decide (f.bd.b = y.b)), rfl, by omega, hth2, H⟩, by omega⟩
                          · skip
                            skip
                            refine wp_skip ?_
                            refine x_thenNormal ?_
                            refine c_seq ?_
                            refine wp_block ?_
                            refine c_rseq (n := 178) ⟨rfl, rfl⟩ ?_
                            refine s_val (r_indexAddrS Try.runUnderlying62 Try.sizeOf74 rfl rfl (by omega) (by omega)) ?_
                            refine s_val (r_loadn Try.isAgg74 Try.sizeOf74 rfl (H.at 2 rfl) (fd_td hf (by omega)) (by first | exact (kC_length _) | exact (hC_length _) | exact (shC_length _ _) | exact (wC_length _) | exact (sdC_length _ _) | exact (xrL_length _ _ _) | exact (xrC_length _ _ _ _ _ _ _) | exact (rigC_length _ _ _ _ _ _ _) | exact (doC_length _) | exact (elFd.len _) | exact (fdV_length _ _ _) | exact (elFd.len _) | exact rfl)) ?_
                            refine s_new (m_alloc (cs := (fdV 0 0 bdZ)) H Try.zeroValue74 rfl) ?_
                            intro w b27 H
                            refine s_st (m_storen H 0 3 Try.sizeOf74 rfl rfl (by first | exact (kC_length _) | exact (hC_length _) | exact (shC_length _ _) | exact (wC_length _) | exact (sdC_length _ _) | exact (xrL_length _ _ _) | exact (xrC_length _ _ _ _ _ _ _) | exact (rigC_length _ _ _ _ _ _ _) | exact (doC_length _) | exact (elFd.len _) | exact (fdV_length _ _ _) | exact (elFd.len _)) (by first | exact (kC_one _) | exact (hC_one _) | exact (shC_one _ _) | exact (elW.one _) | exact (sdC_one _ _) | exact (xrL_one _ _ _) | exact (xrC_one _ _ _ _ _ _ _) | exact (rigC_one _ _ _ _ _ _ _) | exact (elDo.one _) | exact (elFd.one _) | exact (fdV_one _ _ _)) rfl (by show 0 + 3 ≤ 3; omega) (fdV_sp _ _ _ _ _ _)) (L' := (_ :: _ :: _ :: _)) rfl ?_
                            intro w H
                            refine c_nil (l' := [_,_,_,_,_,_,_,_,_,_,_,_,_,_,_,_,_,_,_,_,_,_,_,_,_,_,_,_,_,_,_,_,_,_,_,_,_,_,_,_,_,_,_,_,_,_,_,_,_,_,_,_,_,_,_,_,_,_,_,_,_,_,_,_,_,_,_,_,_,_,_,_,_,_,_,_,_,_,_,_,_,_,_,_,_,_,_,_,_,_,_,_,_,_,_,_,_,_,_,_,_,_,_,_,_,_,_,_,_,_,_,_,_,_,_,_,_,_,_,_,_,_,_,_,_,_,_,_,_,_,_,_,_,_,_,_,_,_,_,_,_,_,_,_,_,_,_,_,_,_,_,_,_,_,_,_,_,_,_,_,_,_,_,_,_,_,_,_,_,_,_,_,_,_,_,_,_,_]) rfl ?_
                            refine d_begin (sz := 178) ⟨rfl, rfl⟩ (by kernel_rfl) H (H) rfl ?_
                            intro w H
                            refine d_take (i := 0) rfl (by kernel_rfl) (fun _ _ _ h => h) H (fun _ _ => r_move rfl) rfl ?_
                            refine d_take (i := 1) rfl (by kernel_rfl) (fun _ _ _ h => h) H (fun _ _ => r_move rfl) rfl ?_
                            refine d_takeN (i := 2) rfl (by kernel_rfl) (fun _ _ _ h => h) rfl rfl (by decide) H rfl ?_
                            refine d_takeN (i := 3) rfl (by kernel_rfl) (fun _ _ _ h => h) rfl rfl (by decide) H rfl ?_
                            refine d_takeN (i := 4) rfl (by kernel_rfl) (fun _ _ _ h => h) rfl rfl (by decide) H rfl ?_
                            refine d_takeN (i := 5) rfl (by kernel_rfl) (fun _ _ _ h => h) rfl rfl (by decide) H rfl ?_
                            refine d_takeN (i := 6) rfl (by kernel_rfl) (fun _ _ _ h => h) rfl rfl (by decide) H rfl ?_
                            refine d_takeN (i := 7) rfl (by kernel_rfl) (fun _ _ _ h => h) rfl rfl (by decide) H rfl ?_
                            refine d_takeN (i := 8) rfl (by kernel_rfl) (fun _ _ _ h => h) rfl rfl (by decide) H rfl ?_
                            refine d_takeN (i := 9) rfl (by kernel_rfl) (fun _ _ _ h => h) rfl rfl (by decide) H rfl ?_
                            refine d_takeN (i := 10) rfl (by kernel_rfl) (fun _ _ _ h => h) rfl rfl (by decide) H rfl ?_
                            refine d_takeN (i := 11) rfl (by kernel_rfl) (fun _ _ _ h => h) rfl rfl (by decide) H rfl ?_
                            refine d_takeN (i := 12) rfl (by kernel_rfl) (fun _ _ _ h => h) rfl rfl (by decide) H rfl ?_
                            refine d_takeN (i := 13) rfl (by kernel_rfl) (fun _ _ _ h => h) rfl rfl (by decide) H rfl ?_
                            refine d_take (i := 14) rfl (by kernel_rfl) (fun _ _ _ h => h) H (fun _ _ => r_pickt rfl rfl) rfl ?_
                            refine d_take (i := 15) rfl (by kernel_rfl) (fun _ _ _ h => h) H (fun _ _ => r_assign rfl) rfl ?_
                            refine d_done (l' := [_,_,_,_,_,_,_,_,_,_,_,_,_,_,_,_,_,_,_,_,_,_,_,_,_,_,_,_,_,_,_,_,_,_,_,_,_,_,_,_,_,_,_,_,_,_,_,_,_,_,_,_,_,_,_,_,_,_,_,_,_,_,_,_,_,_,_,_,_,_,_,_,_,_,_,_,_,_,_,_,_,_,_,_,_,_,_,_,_,_,_,_,_,_,_,_,_,_,_,_,_,_,_,_,_,_,_,_,_,_,_,_,_,_,_,_,_,_,_,_,_,_,_,_,_,_,_,_,_,_,_,_,_,_,_,_,_,_,_,_,_,_,_,_,_,_,_,_,_,_,_,_,_,_,_,_,_,_,_,_,_,_,_,_,_,_,_,_,_,_,_,_,_,_,_,_,_,_]) (by kernel_rfl) rfl ?_
                            refine x_blockNormal ?_
                            refine x_thenNormal ?_
                            refine c_region (n := 178) ⟨rfl, rfl⟩ ?_
                            refine s_val (r_add rfl rfl (w_i64 (by omega) (by omega))) ?_
                            refine s_val (r_move rfl) ?_
                            refine c_nil0 (l' := [_,_,_,_,_,_,_,_,_,_,_,_,_,_,_,_,_,_,_,_,_,_,_,_,_,_,_,_,_,_,_,_,_,_,_,_,_,_,_,_,_,_,_,_,_,_,_,_,_,_,_,_,_,_,_,_,_,_,_,_,_,_,_,_,_,_,_,_,_,_,_,_,_,_,_,_,_,_,_,_,_,_,_,_,_,_,_,_,_,_,_,_,_,_,_,_,_,_,_,_,_,_,_,_,_,_,_,_,_,_,_,_,_,_,_,_,_,_,_,_,_,_,_,_,_,_,_,_,_,_,_,_,_,_,_,_,_,_,_,_,_,_,_,_,_,_,_,_,_,_,_,_,_,_,_,_,_,_,_,_,_,_,_,_,_,_,_,_,_,_,_,_,_,_,_,_,_,_]) rfl ?_
                            skip
                            replace H := H.sub (.cons _ (.cons_cons _ (.cons_cons _ (List.Sublist.refl _))))
                            exact ⟨m + 1, _, rfl, ⟨_,_,_,_,_,_,_,_,_,_,_,_,_,_,_,_,_,_,_,_, true, rfl, by omega, (fun _ _ _ _ _ => rfl), H⟩, by omega⟩
                        · skip
                          obtain rfl : m = fs.length := by omega
                          obtain ⟨f, hf, hfb⟩ := hfnd
                          obtain ⟨k, hk⟩ := List.mem_iff_getElem?.1 hf
                          have hkl : k < fs.length := by
                            rcases Nat.lt_or_ge k fs.length with h | h
                            · exact h
                            · rw [List.getElem?_eq_none h] at hk; cases hk
                          obtain rfl : th = true := hth k hkl f hk hfb
                          refine wp_exit (x_thenExit (x_thenExit (x_blockHit ?_)))
                          refine x_thenNormal ?_
                          refine c_rseq (n := 178) ⟨rfl, rfl⟩ ?_
                          refine s_val (r_move rfl) ?_
                          refine s_val (r_not rfl) ?_
                          refine c_nil (l' := [_,_,_,_,_,_,_,_,_,_,_,_,_,_,_,_,_,_,_,_,_,_,_,_,_,_,_,_,_,_,_,_,_,_,_,_,_,_,_,_,_,_,_,_,_,_,_,_,_,_,_,_,_,_,_,_,_,_,_,_,_,_,_,_,_,_,_,_,_,_,_,_,_,_,_,_,_,_,_,_,_,_,_,_,_,_,_,_,_,_,_,_,_,_,_,_,_,_,_,_,_,_,_,_,_,_,_,_,_,_,_,_,_,_,_,_,_,_,_,_,_,_,_,_,_,_,_,_,_,_,_,_,_,_,_,_,_,_,_,_,_,_,_,_,_,_,_,_,_,_,_,_,_,_,_,_,_,_,_,_,_,_,_,_,_,_,_,_,_,_,_,_,_,_,_,_,_,_]) rfl ?_
                          refine c_iff rfl ?_
                          refine wp_skip ?_
                          refine x_blockNormal ?_
                          refine x_thenNormal ?_
                          refine c_region (n := 178) ⟨rfl, rfl⟩ ?_
                          refine s_val (r_add rfl rfl (w_i64 (by omega) (by omega))) ?_
                          refine s_val (r_move rfl) ?_
                          refine c_nil0 (l' := [_,_,_,_,_,_,_,_,_,_,_,_,_,_,_,_,_,_,_,_,_,_,_,_,_,_,_,_,_,_,_,_,_,_,_,_,_,_,_,_,_,_,_,_,_,_,_,_,_,_,_,_,_,_,_,_,_,_,_,_,_,_,_,_,_,_,_,_,_,_,_,_,_,_,_,_,_,_,_,_,_,_,_,_,_,_,_,_,_,_,_,_,_,_,_,_,_,_,_,_,_,_,_,_,_,_,_,_,_,_,_,_,_,_,_,_,_,_,_,_,_,_,_,_,_,_,_,_,_,_,_,_,_,_,_,_,_,_,_,_,_,_,_,_,_,_,_,_,_,_,_,_,_,_,_,_,_,_,_,_,_,_,_,_,_,_,_,_,_,_,_,_,_,_,_,_,_,_]) rfl ?_
                          exact ⟨i + 1, _, rfl, ⟨_,_,_,_,_,_,_,_,_,_,_,_,_,_,_,_,_,_,_,_,_,_,_,_,_,_,_,_,_,_,_, rfl, by omega, H⟩, by omega⟩
                      · skip
                        skip
                        refine wp_exit (x_thenExit (x_thenExit (x_blockHit ?_)))
                        refine x_thenNormal ?_
                        refine c_rseq (n := 178) ⟨rfl, rfl⟩ ?_
                        refine s_val (r_assign rfl) ?_
                        refine c_nil (l' := [_,_,_,_,_,_,_,_,_,_,_,_,_,_,_,_,_,_,_,_,_,_,_,_,_,_,_,_,_,_,_,_,_,_,_,_,_,_,_,_,_,_,_,_,_,_,_,_,_,_,_,_,_,_,_,_,_,_,_,_,_,_,_,_,_,_,_,_,_,_,_,_,_,_,_,_,_,_,_,_,_,_,_,_,_,_,_,_,_,_,_,_,_,_,_,_,_,_,_,_,_,_,_,_,_,_,_,_,_,_,_,_,_,_,_,_,_,_,_,_,_,_,_,_,_,_,_,_,_,_,_,_,_,_,_,_,_,_,_,_,_,_,_,_,_,_,_,_,_,_,_,_,_,_,_,_,_,_,_,_,_,_,_,_,_,_,_,_,_,_,_,_,_,_,_,_,_,_]) rfl ?_
                        refine wp_ret ?_
                        refine e_ret (res1 rfl rfl) ⟨_, rfl, ?_⟩
                        exact ⟨rfl, H.sub (List.nil_sublist _)⟩

end Go.Proofs.Ytbjalofmamoffaa

