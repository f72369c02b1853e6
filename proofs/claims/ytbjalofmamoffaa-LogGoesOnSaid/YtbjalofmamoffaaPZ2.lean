import Derived.Test.YtbjalofmamoffaaPZ1
namespace Go.Proofs.Ytbjalofmamoffaa
open Go Go.Er
theorem bytes40 : Try.t40.bytes = 24 := rfl

set_option maxHeartbeats 4000000 in
set_option maxRecDepth 20000 in
theorem goes_law (sg sz : Int) (hs0 : 0 ≤ sg) (hs1 : sg < 256) (ht0 : 0 ≤ sz) (ht1 : sz < 256) (first second : BsR) (hlf : first.l.length ≤ 9223372036854775807) (hls : second.l.length ≤ 9223372036854775807) (w0 : World) (hr1 : RRow bdC w0 first.a first.l) (hb1 : ∀ i, i < first.l.length → BRow w0 (first.l.getD i bdZ).a (first.l.getD i bdZ).b) (hr2 : RRow bdC w0 second.a second.l) (hb2 : ∀ i, i < second.l.length → BRow w0 (second.l.getD i bdZ).a (second.l.getD i bdZ).b) :
    Calls Try.prog 4 #[.int .u8 sg, .int .u8 sz, .slice first.a first.l.length first.c, .slice second.a second.l.length second.c] w0 fun e w => ∃ v, e = .returned v ∧ (v = .bool true ∧ St w0 [] w []) := by
  have H := St.refl w0
  refine c_enter (args := [.int .u8 sg, .int .u8 sz, .slice first.a first.l.length first.c, .slice second.a second.l.length second.c]) (l := [.int .u8 sg, .int .u8 sz, .slice first.a first.l.length first.c, .slice second.a second.l.length second.c, undef, undef, undef, undef, undef, undef, undef, undef, undef, undef, undef, undef, undef, undef, undef, undef, undef, undef, undef, undef, undef, undef, undef, undef, undef, undef, undef, undef, undef, undef, undef, undef, undef, undef, undef, undef, undef, undef, undef, undef, undef, undef, undef, undef, undef, undef, undef, undef, undef, undef, undef, undef, undef, undef, undef, undef, undef, undef, undef, undef, undef, undef, undef, undef, undef, undef, undef, undef, undef, undef, undef, undef, undef, undef, undef, undef, undef, undef, undef, undef, undef, undef, undef, undef, undef, undef, undef, undef, undef, undef, undef, undef, undef, undef, undef, undef, undef, undef, undef, undef, undef, undef, undef, undef, undef, undef, undef, undef, undef, undef, undef, undef, undef, undef, undef, undef, undef, undef, undef, undef, undef, undef, undef, undef, undef, undef, undef, undef, undef, undef, undef, undef, undef, undef, undef, undef, undef, undef, undef, undef, undef, undef, undef, undef, undef, undef, undef, undef, undef, undef, undef, undef, undef, undef, undef, undef, undef, undef, undef, undef, undef, undef, undef, undef, undef, undef]) Try.func4 Try.ntmps4 rfl rfl ?_
  refine c_rseq (n := 170) ⟨rfl, rfl⟩ ?_
  refine s_val (r_assign rfl) ?_
  refine c_nil (l' := [_,_,_,_,_,_,_,_,_,_,_,_,_,_,_,_,_,_,_,_,_,_,_,_,_,_,_,_,_,_,_,_,_,_,_,_,_,_,_,_,_,_,_,_,_,_,_,_,_,_,_,_,_,_,_,_,_,_,_,_,_,_,_,_,_,_,_,_,_,_,_,_,_,_,_,_,_,_,_,_,_,_,_,_,_,_,_,_,_,_,_,_,_,_,_,_,_,_,_,_,_,_,_,_,_,_,_,_,_,_,_,_,_,_,_,_,_,_,_,_,_,_,_,_,_,_,_,_,_,_,_,_,_,_,_,_,_,_,_,_,_,_,_,_,_,_,_,_,_,_,_,_,_,_,_,_,_,_,_,_,_,_,_,_,_,_,_,_,_,_]) rfl ?_
  refine c_seq ?_
  refine c_rseq (n := 170) ⟨rfl, rfl⟩ ?_
  refine s_call (r_call Try.call8 en) (awake_spec _) ?_
  rintro v w ⟨rfl, HC⟩
  replace H := H.quiet HC
  refine s_val (r_not rfl) ?_
  refine c_nil (l' := [_,_,_,_,_,_,_,_,_,_,_,_,_,_,_,_,_,_,_,_,_,_,_,_,_,_,_,_,_,_,_,_,_,_,_,_,_,_,_,_,_,_,_,_,_,_,_,_,_,_,_,_,_,_,_,_,_,_,_,_,_,_,_,_,_,_,_,_,_,_,_,_,_,_,_,_,_,_,_,_,_,_,_,_,_,_,_,_,_,_,_,_,_,_,_,_,_,_,_,_,_,_,_,_,_,_,_,_,_,_,_,_,_,_,_,_,_,_,_,_,_,_,_,_,_,_,_,_,_,_,_,_,_,_,_,_,_,_,_,_,_,_,_,_,_,_,_,_,_,_,_,_,_,_,_,_,_,_,_,_,_,_,_,_,_,_,_,_,_,_]) rfl ?_
  refine c_iff rfl ?_
  refine wp_skip ?_
  refine x_thenNormal ?_
  refine c_seq ?_
  refine c_rseq (n := 170) ⟨rfl, rfl⟩ ?_
  refine s_val (r_move rfl) ?_
  refine s_val (r_lens Try.runUnderlying60 (ec rfl en)) ?_
  refine s_test (r_gtr rfl rfl) (fun h30 => ?_) (fun h30 => ?_)
  · skip
    refine s_val (r_move rfl) ?_
    refine g_no rfl rfl (by decide) ?_
    refine g_no rfl rfl (by decide) ?_
    refine g_no rfl rfl (by decide) ?_
    refine s_val (r_pickt rfl rfl) ?_
    refine c_nil (l' := [_,_,_,_,_,_,_,_,_,_,_,_,_,_,_,_,_,_,_,_,_,_,_,_,_,_,_,_,_,_,_,_,_,_,_,_,_,_,_,_,_,_,_,_,_,_,_,_,_,_,_,_,_,_,_,_,_,_,_,_,_,_,_,_,_,_,_,_,_,_,_,_,_,_,_,_,_,_,_,_,_,_,_,_,_,_,_,_,_,_,_,_,_,_,_,_,_,_,_,_,_,_,_,_,_,_,_,_,_,_,_,_,_,_,_,_,_,_,_,_,_,_,_,_,_,_,_,_,_,_,_,_,_,_,_,_,_,_,_,_,_,_,_,_,_,_,_,_,_,_,_,_,_,_,_,_,_,_,_,_,_,_,_,_,_,_,_,_,_,_]) rfl ?_
    refine c_ift rfl ?_
    refine c_rseq (n := 170) ⟨rfl, rfl⟩ ?_
    refine s_val (r_assign rfl) ?_
    refine c_nil (l' := [_,_,_,_,_,_,_,_,_,_,_,_,_,_,_,_,_,_,_,_,_,_,_,_,_,_,_,_,_,_,_,_,_,_,_,_,_,_,_,_,_,_,_,_,_,_,_,_,_,_,_,_,_,_,_,_,_,_,_,_,_,_,_,_,_,_,_,_,_,_,_,_,_,_,_,_,_,_,_,_,_,_,_,_,_,_,_,_,_,_,_,_,_,_,_,_,_,_,_,_,_,_,_,_,_,_,_,_,_,_,_,_,_,_,_,_,_,_,_,_,_,_,_,_,_,_,_,_,_,_,_,_,_,_,_,_,_,_,_,_,_,_,_,_,_,_,_,_,_,_,_,_,_,_,_,_,_,_,_,_,_,_,_,_,_,_,_,_,_,_]) rfl ?_
    refine wp_ret (x_thenRet ?_)
    refine e_ret (res1 rfl rfl) ⟨_, rfl, ?_⟩
    exact ⟨rfl, H.sub (List.nil_sublist _)⟩
  · skip
    refine s_val (r_move rfl) ?_
    refine g_yes rfl rfl ?_
    refine s_val (r_move rfl) ?_
    refine g_yes rfl rfl ?_
    refine s_val (r_lens Try.runUnderlying60 (ec rfl en)) ?_
    refine g_yes rfl rfl ?_
    refine s_val (r_gtr rfl rfl) ?_
    refine s_val (r_pickf rfl rfl) ?_
    refine c_nil (l' := [_,_,_,_,_,_,_,_,_,_,_,_,_,_,_,_,_,_,_,_,_,_,_,_,_,_,_,_,_,_,_,_,_,_,_,_,_,_,_,_,_,_,_,_,_,_,_,_,_,_,_,_,_,_,_,_,_,_,_,_,_,_,_,_,_,_,_,_,_,_,_,_,_,_,_,_,_,_,_,_,_,_,_,_,_,_,_,_,_,_,_,_,_,_,_,_,_,_,_,_,_,_,_,_,_,_,_,_,_,_,_,_,_,_,_,_,_,_,_,_,_,_,_,_,_,_,_,_,_,_,_,_,_,_,_,_,_,_,_,_,_,_,_,_,_,_,_,_,_,_,_,_,_,_,_,_,_,_,_,_,_,_,_,_,_,_,_,_,_,_]) rfl ?_
    refine c_if rfl (fun h35 => ?_) (fun h35 => ?_)
    · skip
      refine c_rseq (n := 170) ⟨rfl, rfl⟩ ?_
      refine s_val (r_assign rfl) ?_
      refine c_nil (l' := [_,_,_,_,_,_,_,_,_,_,_,_,_,_,_,_,_,_,_,_,_,_,_,_,_,_,_,_,_,_,_,_,_,_,_,_,_,_,_,_,_,_,_,_,_,_,_,_,_,_,_,_,_,_,_,_,_,_,_,_,_,_,_,_,_,_,_,_,_,_,_,_,_,_,_,_,_,_,_,_,_,_,_,_,_,_,_,_,_,_,_,_,_,_,_,_,_,_,_,_,_,_,_,_,_,_,_,_,_,_,_,_,_,_,_,_,_,_,_,_,_,_,_,_,_,_,_,_,_,_,_,_,_,_,_,_,_,_,_,_,_,_,_,_,_,_,_,_,_,_,_,_,_,_,_,_,_,_,_,_,_,_,_,_,_,_,_,_,_,_]) rfl ?_
      refine wp_ret (x_thenRet ?_)
      refine e_ret (res1 rfl rfl) ⟨_, rfl, ?_⟩
      exact ⟨rfl, H.sub (List.nil_sublist _)⟩
    · skip
      refine wp_skip ?_
      refine x_thenNormal ?_
      refine c_rseq (n := 170) ⟨rfl, rfl⟩ ?_
      refine s_val (r_move rfl) ?_
      refine s_val (r_move rfl) ?_
      refine s_call (r_call Try.call10 (ec rfl (ec rfl en))) (made_spec sg sz hs0 hs1 ht0 ht1 _) ?_
      rintro v w ⟨bl0, ba, bb, N, pp, pm, rfl, hL0, HC⟩
      obtain ⟨g, hg⟩ : ∃ g : Nat, (g : Int) = 3 + sg % 4 := ⟨(3 + sg % 4).toNat, by omega⟩
      obtain ⟨z, hz⟩ : ∃ z : Nat, (z : Int) = 1 + sz % 4 := ⟨(1 + sz % 4).toNat, by omega⟩
      rw [← hg, ← hz] at hL0 ⊢
      rw [newL_ord] at hL0
      have hO0 : OrdL g z [] (List.replicate (2 + g * z) zS) := OrdL.new (by omega) (by omega) (by omega) (by omega)
      replace H : St w0 [] w N := by have h := H.call0 HC; rwa [List.append_nil] at h
      refine s_val (r_move rfl) ?_
      refine s_val (r_extract rfl rfl) ?_
      refine s_val (r_extract rfl rfl) ?_
      refine s_new (m_alloc (cs := (rigC none none none none none 0 0)) H Try.zeroValue32 rfl) ?_
      intro w b9 H
      refine s_st (m_storen H 0 7 Try.sizeOf32 rfl rfl (by first | exact (kC_length _) | exact (hC_length _) | exact (shC_length _ _) | exact (wC_length _) | exact (sdC_length _ _) | exact (xrL_length _ _ _) | exact (xrC_length _ _ _ _ _ _ _) | exact (rigC_length _ _ _ _ _ _ _) | exact (doC_length _) | exact (elFd.len _) | exact (fdV_length _ _ _) | exact (elFd.len _)) (by first | exact (kC_one _) | exact (hC_one _) | exact (shC_one _ _) | exact (elW.one _) | exact (sdC_one _ _) | exact (xrL_one _ _ _) | exact (xrC_one _ _ _ _ _ _ _) | exact (rigC_one _ _ _ _ _ _ _) | exact (elDo.one _) | exact (elFd.one _) | exact (fdV_one _ _ _)) rfl (by first | exact (by rw [kC_length]; omega) | exact (by rw [hC_length]; omega) | exact (by rw [wC_length]; omega) | exact (by show _ ≤ 5; omega) | exact (by show _ ≤ 7; omega) | exact (by show _ ≤ 3; omega)) rigC_sp) (L' := (_ :: _)) rfl ?_
      intro w H
      refine s_val (r_assign rfl) ?_
      refine c_nil (l' := [_,_,_,_,_,_,_,_,_,_,_,_,_,_,_,_,_,_,_,_,_,_,_,_,_,_,_,_,_,_,_,_,_,_,_,_,_,_,_,_,_,_,_,_,_,_,_,_,_,_,_,_,_,_,_,_,_,_,_,_,_,_,_,_,_,_,_,_,_,_,_,_,_,_,_,_,_,_,_,_,_,_,_,_,_,_,_,_,_,_,_,_,_,_,_,_,_,_,_,_,_,_,_,_,_,_,_,_,_,_,_,_,_,_,_,_,_,_,_,_,_,_,_,_,_,_,_,_,_,_,_,_,_,_,_,_,_,_,_,_,_,_,_,_,_,_,_,_,_,_,_,_,_,_,_,_,_,_,_,_,_,_,_,_,_,_,_,_,_,_]) rfl ?_
      refine c_seq ?_
      refine c_rseq (n := 170) ⟨rfl, rfl⟩ ?_
      refine s_val (r_move rfl) ?_
      refine s_val (r_eql rfl rfl) ?_
      refine c_nil (l' := [_,_,_,_,_,_,_,_,_,_,_,_,_,_,_,_,_,_,_,_,_,_,_,_,_,_,_,_,_,_,_,_,_,_,_,_,_,_,_,_,_,_,_,_,_,_,_,_,_,_,_,_,_,_,_,_,_,_,_,_,_,_,_,_,_,_,_,_,_,_,_,_,_,_,_,_,_,_,_,_,_,_,_,_,_,_,_,_,_,_,_,_,_,_,_,_,_,_,_,_,_,_,_,_,_,_,_,_,_,_,_,_,_,_,_,_,_,_,_,_,_,_,_,_,_,_,_,_,_,_,_,_,_,_,_,_,_,_,_,_,_,_,_,_,_,_,_,_,_,_,_,_,_,_,_,_,_,_,_,_,_,_,_,_,_,_,_,_,_,_]) rfl ?_
      refine c_if rfl (fun h43 => ?_) (fun h43 => ?_)
      · skip
        exfalso; omega
      · skip
        refine wp_skip ?_
        refine x_thenNormal ?_
        refine c_rseq (n := 170) ⟨rfl, rfl⟩ ?_
        refine s_val (r_assign rfl) ?_
        refine c_nil (l' := [_,_,_,_,_,_,_,_,_,_,_,_,_,_,_,_,_,_,_,_,_,_,_,_,_,_,_,_,_,_,_,_,_,_,_,_,_,_,_,_,_,_,_,_,_,_,_,_,_,_,_,_,_,_,_,_,_,_,_,_,_,_,_,_,_,_,_,_,_,_,_,_,_,_,_,_,_,_,_,_,_,_,_,_,_,_,_,_,_,_,_,_,_,_,_,_,_,_,_,_,_,_,_,_,_,_,_,_,_,_,_,_,_,_,_,_,_,_,_,_,_,_,_,_,_,_,_,_,_,_,_,_,_,_,_,_,_,_,_,_,_,_,_,_,_,_,_,_,_,_,_,_,_,_,_,_,_,_,_,_,_,_,_,_,_,_,_,_,_,_]) rfl ?_
        refine c_rseq (n := 170) ⟨rfl, rfl⟩ ?_
        refine s_val (r_fieldAddr (k := 4) Try.runUnderlying32 rfl Try.sizeOf28 (by decide) rfl rfl) ?_
        refine s_val (r_load1 Try.isAgg28 rfl (H.at 0 rfl) rfl) ?_
        refine s_val (r_assign rfl) ?_
        refine c_nil (l' := [_,_,_,_,_,_,_,_,_,_,_,_,_,_,_,_,_,_,_,_,_,_,_,_,_,_,_,_,_,_,_,_,_,_,_,_,_,_,_,_,_,_,_,_,_,_,_,_,_,_,_,_,_,_,_,_,_,_,_,_,_,_,_,_,_,_,_,_,_,_,_,_,_,_,_,_,_,_,_,_,_,_,_,_,_,_,_,_,_,_,_,_,_,_,_,_,_,_,_,_,_,_,_,_,_,_,_,_,_,_,_,_,_,_,_,_,_,_,_,_,_,_,_,_,_,_,_,_,_,_,_,_,_,_,_,_,_,_,_,_,_,_,_,_,_,_,_,_,_,_,_,_,_,_,_,_,_,_,_,_,_,_,_,_,_,_,_,_,_,_]) rfl ?_
        refine c_seq ?_
        refine c_rseq (n := 170) ⟨rfl, rfl⟩ ?_
        refine s_val (r_move rfl) ?_
        refine s_val (r_move rfl) ?_
        refine s_new (m_bsliceF (m := 2) (pl := [(0, 1), (1, 1)]) (out := [bsV first, bsV second]) H Try.runUnderlying61 Try.sizeOf60 Try.zeroValue60 rfl (by omega) (by omega) (pc rfl (pc rfl pn)) (by intro p hp; simp at hp; rcases hp with rfl | rfl <;> rfl) rfl) ?_
        intro w b48 H
        refine s_val (r_lens Try.runUnderlying61 (ec rfl en)) ?_
        refine s_val (r_move rfl) ?_
        refine c_nil (l' := [_,_,_,_,_,_,_,_,_,_,_,_,_,_,_,_,_,_,_,_,_,_,_,_,_,_,_,_,_,_,_,_,_,_,_,_,_,_,_,_,_,_,_,_,_,_,_,_,_,_,_,_,_,_,_,_,_,_,_,_,_,_,_,_,_,_,_,_,_,_,_,_,_,_,_,_,_,_,_,_,_,_,_,_,_,_,_,_,_,_,_,_,_,_,_,_,_,_,_,_,_,_,_,_,_,_,_,_,_,_,_,_,_,_,_,_,_,_,_,_,_,_,_,_,_,_,_,_,_,_,_,_,_,_,_,_,_,_,_,_,_,_,_,_,_,_,_,_,_,_,_,_,_,_,_,_,_,_,_,_,_,_,_,_,_,_,_,_,_,_]) rfl ?_
        refine wp_block ?_
        refine c_loop (fun (l0 : List Value) (p : Nat) (l : List Value) (w : World) => ∃ (u8 u14 u16 u17 u18 u19 u20 u21 u22 u23 u24 u25 u51 u52 u53 u54 u55 u56 u57 u58 u59 u60 u61 u62 u63 u64 u65 u66 u67 u68 u69 u70 u71 u72 u73 u74 u75 u76 u77 u78 u79 u80 u81 u82 u83 u84 u85 u86 u87 u88 u89 u90 u91 u92 u93 u94 u95 u96 u97 u98 u99 u100 u101 u102 u103 u104 u105 u106 u107 u108 u109 u110 u111 u112 u113 u114 u115 u116 u117 u118 u119 u120 u121 u122 u123 u124 u125 u126 u127 u128 u129 u130 u131 u132 u133 u134 u135 u136 u137 u138 u139 u140 u141 u142 u143 u144 u145 u146 u147 u148 u149 u150 u151 u152 u153 u154 u155 u156 u157 u158 u159 u160 u161 u162 u163 u164 u165 u166 u167 u168 u169 : Value) (bl : Nat) (al : List Bd) (aa : Option Addr) (ca : Nat) (Na : List (Nat × Obj)) (C : List Sec) (N : List (Nat × Obj)) (q : Nat), l = ovr l0 [N_, N_, N_, N_, N_, N_, N_, N_, Y_ u8, N_, N_, Y_ (.slice aa al.length ca), Y_ (.pointer (some ⟨bl, 0, none⟩)), N_, Y_ u14, N_, Y_ u16, Y_ u17, Y_ u18, Y_ u19, Y_ u20, Y_ u21, Y_ u22, Y_ u23, Y_ u24, Y_ u25, N_, N_, N_, N_, N_, N_, N_, N_, N_, N_, N_, N_, N_, N_, N_, N_, N_, N_, N_, N_, N_, N_, N_, N_, Y_ (.int .i64 p), Y_ u51, Y_ u52, Y_ u53, Y_ u54, Y_ u55, Y_ u56, Y_ u57, Y_ u58, Y_ u59, Y_ u60, Y_ u61, Y_ u62, Y_ u63, Y_ u64, Y_ u65, Y_ u66, Y_ u67, Y_ u68, Y_ u69, Y_ u70, Y_ u71, Y_ u72, Y_ u73, Y_ u74, Y_ u75, Y_ u76, Y_ u77, Y_ u78, Y_ u79, Y_ u80, Y_ u81, Y_ u82, Y_ u83, Y_ u84, Y_ u85, Y_ u86, Y_ u87, Y_ u88, Y_ u89, Y_ u90, Y_ u91, Y_ u92, Y_ u93, Y_ u94, Y_ u95, Y_ u96, Y_ u97, Y_ u98, Y_ u99, Y_ u100, Y_ u101, Y_ u102, Y_ u103, Y_ u104, Y_ u105, Y_ u106, Y_ u107, Y_ u108, Y_ u109, Y_ u110, Y_ u111, Y_ u112, Y_ u113, Y_ u114, Y_ u115, Y_ u116, Y_ u117, Y_ u118, Y_ u119, Y_ u120, Y_ u121, Y_ u122, Y_ u123, Y_ u124, Y_ u125, Y_ u126, Y_ u127, Y_ u128, Y_ u129, Y_ u130, Y_ u131, Y_ u132, Y_ u133, Y_ u134, Y_ u135, Y_ u136, Y_ u137, Y_ u138, Y_ u139, Y_ u140, Y_ u141, Y_ u142, Y_ u143, Y_ u144, Y_ u145, Y_ u146, Y_ u147, Y_ u148, Y_ u149, Y_ u150, Y_ u151, Y_ u152, Y_ u153, Y_ u154, Y_ u155, Y_ u156, Y_ u157, Y_ u158, Y_ u159, Y_ u160, Y_ u161, Y_ u162, Y_ u163, Y_ u164, Y_ u165, Y_ u166, Y_ u167, Y_ u168, Y_ u169] ∧ p ≤ 2 ∧ OrdL g z (al.map (·.b)) C ∧ LogN 150 51 89 72 ba bb bl (ordS g z C (al.map (·.b)).length) q N ∧ RowN 1 40 (rowC bdC al) al.length aa ca Na ∧ (∀ i, i < al.length → BRow w0 (al.getD i bdZ).a (al.getD i bdZ).b) ∧ q ≤ 12 * p ∧ St w0 [] w ((b48, .cells [bsV first, bsV second].toArray 60 (0, 0)) :: (b9, .cells (rigC pp (some ⟨ba, 0, none⟩) (some ⟨bb, 0, none⟩) pm (some ⟨bl0, 0, none⟩) g z).toArray 32 (0, 0)) :: Na ++ N)) (fun (p : Nat) => 2 - p) 0 ⟨_,_,_,_,_,_,_,_,_,_,_,_,_,_,_,_,_,_,_,_,_,_,_,_,_,_,_,_,_,_,_,_,_,_,_,_,_,_,_,_,_,_,_,_,_,_,_,_,_,_,_,_,_,_,_,_,_,_,_,_,_,_,_,_,_,_,_,_,_,_,_,_,_,_,_,_,_,_,_,_,_,_,_,_,_,_,_,_,_,_,_,_,_,_,_,_,_,_,_,_,_,_,_,_,_,_,_,_,_,_,_,_,_,_,_,_,_,_,_,_,_,_,_,_,_,_,_,_,_,_,_, bl0, [], none, 0, [], (List.replicate (2 + g * z) zS), N, 0, rfl, by omega, hO0, hL0, RowN.nil, (fun i h => absurd h (Nat.not_lt_zero _)), by omega, H⟩ ?_
        intro p l w ⟨u8, u14, u16, u17, u18, u19, u20, u21, u22, u23, u24, u25, u51, u52, u53, u54, u55, u56, u57, u58, u59, u60, u61, u62, u63, u64, u65, u66, u67, u68, u69, u70, u71, u72, u73, u74, u75, u76, u77, u78, u79, u80, u81, u82, u83, u84, u85, u86, u87, u88, u89, u90, u91, u92, u93, u94, u95, u96, u97, u98, u99, u100, u101, u102, u103, u104, u105, u106, u107, u108, u109, u110, u111, u112, u113, u114, u115, u116, u117, u118, u119, u120, u121, u122, u123, u124, u125, u126, u127, u128, u129, u130, u131, u132, u133, u134, u135, u136, u137, u138, u139, u140, u141, u142, u143, u144, u145, u146, u147, u148, u149, u150, u151, u152, u153, u154, u155, u156, u157, u158, u159, u160, u161, u162, u163, u164, u165, u166, u167, u168, u169, bl, al, aa, ca, Na, C, N, q, hl, hp, hO, hL, hNa, hal, hq, H⟩
        obtain rfl := hl.trans (rfl : _ = [_,_,_,_,_,_,_,_,_,_,_,_,_,_,_,_,_,_,_,_,_,_,_,_,_,_,_,_,_,_,_,_,_,_,_,_,_,_,_,_,_,_,_,_,_,_,_,_,_,_,_,_,_,_,_,_,_,_,_,_,_,_,_,_,_,_,_,_,_,_,_,_,_,_,_,_,_,_,_,_,_,_,_,_,_,_,_,_,_,_,_,_,_,_,_,_,_,_,_,_,_,_,_,_,_,_,_,_,_,_,_,_,_,_,_,_,_,_,_,_,_,_,_,_,_,_,_,_,_,_,_,_,_,_,_,_,_,_,_,_,_,_,_,_,_,_,_,_,_,_,_,_,_,_,_,_,_,_,_,_,_,_,_,_,_,_,_,_,_,_])
        clear hl
        have hz0 := hO.1.z0
        have hgz := hO.1.gz
        have hg0 := hO.1.g0
        have hale := hO.1.le
        rw [List.length_map] at hale
        refine c_rseq (n := 170) ⟨rfl, rfl⟩ ?_
        refine s_val (r_lss rfl rfl) ?_
        refine c_nil (l' := [_,_,_,_,_,_,_,_,_,_,_,_,_,_,_,_,_,_,_,_,_,_,_,_,_,_,_,_,_,_,_,_,_,_,_,_,_,_,_,_,_,_,_,_,_,_,_,_,_,_,_,_,_,_,_,_,_,_,_,_,_,_,_,_,_,_,_,_,_,_,_,_,_,_,_,_,_,_,_,_,_,_,_,_,_,_,_,_,_,_,_,_,_,_,_,_,_,_,_,_,_,_,_,_,_,_,_,_,_,_,_,_,_,_,_,_,_,_,_,_,_,_,_,_,_,_,_,_,_,_,_,_,_,_,_,_,_,_,_,_,_,_,_,_,_,_,_,_,_,_,_,_,_,_,_,_,_,_,_,_,_,_,_,_,_,_,_,_,_,_]) rfl ?_
        refine c_seq ?_
        refine c_if rfl (fun h51 => ?_) (fun h51 => ?_)
        · skip
          obtain ⟨pa, pl, pc, hP⟩ : ∃ pa pl pc, pts first second p = ⟨pa, pl, pc⟩ := ⟨_,_,_, rfl⟩
          obtain ⟨hpl, hPr, hPb⟩ := pts_ok (show BsOK w0 first from ⟨by omega, hr1, hb1⟩) (show BsOK w0 second from ⟨by omega, hr2, hb2⟩) p hP
          refine wp_skip ?_
          refine x_thenNormal ?_
          refine c_seq ?_
          refine wp_block ?_
          refine c_rseq (n := 170) ⟨rfl, rfl⟩ ?_
          refine s_val (r_indexAddrS Try.runUnderlying61 Try.sizeOf60 rfl rfl (by omega) (by omega)) ?_
          refine s_val (r_load1 Try.isAgg60 rfl (H.at 0 rfl) (pt_at (p := p) (by omega) (by omega) hP)) ?_
          refine s_val (r_assign rfl) ?_
          refine c_nil (l' := [_,_,_,_,_,_,_,_,_,_,_,_,_,_,_,_,_,_,_,_,_,_,_,_,_,_,_,_,_,_,_,_,_,_,_,_,_,_,_,_,_,_,_,_,_,_,_,_,_,_,_,_,_,_,_,_,_,_,_,_,_,_,_,_,_,_,_,_,_,_,_,_,_,_,_,_,_,_,_,_,_,_,_,_,_,_,_,_,_,_,_,_,_,_,_,_,_,_,_,_,_,_,_,_,_,_,_,_,_,_,_,_,_,_,_,_,_,_,_,_,_,_,_,_,_,_,_,_,_,_,_,_,_,_,_,_,_,_,_,_,_,_,_,_,_,_,_,_,_,_,_,_,_,_,_,_,_,_,_,_,_,_,_,_,_,_,_,_,_,_]) rfl ?_
          refine c_seq ?_
          refine c_rseq (n := 170) ⟨rfl, rfl⟩ ?_
          refine s_val (r_move rfl) ?_
          refine s_val (r_lens Try.runUnderlying60 (ec rfl en)) ?_
          refine s_val (r_move rfl) ?_
          refine c_nil (l' := [_,_,_,_,_,_,_,_,_,_,_,_,_,_,_,_,_,_,_,_,_,_,_,_,_,_,_,_,_,_,_,_,_,_,_,_,_,_,_,_,_,_,_,_,_,_,_,_,_,_,_,_,_,_,_,_,_,_,_,_,_,_,_,_,_,_,_,_,_,_,_,_,_,_,_,_,_,_,_,_,_,_,_,_,_,_,_,_,_,_,_,_,_,_,_,_,_,_,_,_,_,_,_,_,_,_,_,_,_,_,_,_,_,_,_,_,_,_,_,_,_,_,_,_,_,_,_,_,_,_,_,_,_,_,_,_,_,_,_,_,_,_,_,_,_,_,_,_,_,_,_,_,_,_,_,_,_,_,_,_,_,_,_,_,_,_,_,_,_,_]) rfl ?_
          refine wp_block ?_
          refine c_loop (fun (l0 : List Value) (i : Nat) (l : List Value) (w : World) => ∃ (u8 u16 u17 u18 u57 u58 u59 u60 u61 u62 u63 u64 u65 u66 u67 u68 u69 u70 u71 u72 u73 u74 u75 u76 u77 u78 u79 u80 u81 u82 u83 u84 u85 u86 u87 u88 u89 : Value) (al : List Bd) (aa : Option Addr) (ca : Nat) (Na : List (Nat × Obj)) (C : List Sec) (N : List (Nat × Obj)) (q : Nat), l = ovr l0 [N_, N_, N_, N_, N_, N_, N_, N_, Y_ u8, N_, N_, Y_ (.slice aa al.length ca), N_, N_, N_, N_, Y_ u16, Y_ u17, Y_ u18, N_, N_, N_, N_, N_, N_, N_, N_, N_, N_, N_, N_, N_, N_, N_, N_, N_, N_, N_, N_, N_, N_, N_, N_, N_, N_, N_, N_, N_, N_, N_, N_, N_, N_, N_, N_, N_, Y_ (.int .i64 i), Y_ u57, Y_ u58, Y_ u59, Y_ u60, Y_ u61, Y_ u62, Y_ u63, Y_ u64, Y_ u65, Y_ u66, Y_ u67, Y_ u68, Y_ u69, Y_ u70, Y_ u71, Y_ u72, Y_ u73, Y_ u74, Y_ u75, Y_ u76, Y_ u77, Y_ u78, Y_ u79, Y_ u80, Y_ u81, Y_ u82, Y_ u83, Y_ u84, Y_ u85, Y_ u86, Y_ u87, Y_ u88, Y_ u89] ∧ i ≤ pl.length ∧ OrdL g z (al.map (·.b)) C ∧ LogN 150 51 89 72 ba bb bl (ordS g z C (al.map (·.b)).length) q N ∧ RowN 1 40 (rowC bdC al) al.length aa ca Na ∧ (∀ i, i < al.length → BRow w0 (al.getD i bdZ).a (al.getD i bdZ).b) ∧ q ≤ 12 * p + i ∧ St w0 [] w ((b48, .cells [bsV first, bsV second].toArray 60 (0, 0)) :: (b9, .cells (rigC pp (some ⟨ba, 0, none⟩) (some ⟨bb, 0, none⟩) pm (some ⟨bl0, 0, none⟩) g z).toArray 32 (0, 0)) :: Na ++ N)) (fun (i : Nat) => pl.length - i) 0 ⟨_,_,_,_,_,_,_,_,_,_,_,_,_,_,_,_,_,_,_,_,_,_,_,_,_,_,_,_,_,_,_,_,_,_,_,_,_, al, aa, ca, Na, C, N, q, rfl, by omega, hO, hL, hNa, hal, by omega, H⟩ ?_
          intro i l w ⟨u8, u16, u17, u18, u57, u58, u59, u60, u61, u62, u63, u64, u65, u66, u67, u68, u69, u70, u71, u72, u73, u74, u75, u76, u77, u78, u79, u80, u81, u82, u83, u84, u85, u86, u87, u88, u89, al, aa, ca, Na, C, N, q, hl, hi, hO, hL, hNa, hal, hq, H⟩
          obtain rfl := hl.trans (rfl : _ = [_,_,_,_,_,_,_,_,_,_,_,_,_,_,_,_,_,_,_,_,_,_,_,_,_,_,_,_,_,_,_,_,_,_,_,_,_,_,_,_,_,_,_,_,_,_,_,_,_,_,_,_,_,_,_,_,_,_,_,_,_,_,_,_,_,_,_,_,_,_,_,_,_,_,_,_,_,_,_,_,_,_,_,_,_,_,_,_,_,_,_,_,_,_,_,_,_,_,_,_,_,_,_,_,_,_,_,_,_,_,_,_,_,_,_,_,_,_,_,_,_,_,_,_,_,_,_,_,_,_,_,_,_,_,_,_,_,_,_,_,_,_,_,_,_,_,_,_,_,_,_,_,_,_,_,_,_,_,_,_,_,_,_,_,_,_,_,_,_,_])
          clear hl
          have hale := hO.1.le
          rw [List.length_map] at hale
          refine c_rseq (n := 170) ⟨rfl, rfl⟩ ?_
          refine s_val (r_lss rfl rfl) ?_
          refine c_nil (l' := [_,_,_,_,_,_,_,_,_,_,_,_,_,_,_,_,_,_,_,_,_,_,_,_,_,_,_,_,_,_,_,_,_,_,_,_,_,_,_,_,_,_,_,_,_,_,_,_,_,_,_,_,_,_,_,_,_,_,_,_,_,_,_,_,_,_,_,_,_,_,_,_,_,_,_,_,_,_,_,_,_,_,_,_,_,_,_,_,_,_,_,_,_,_,_,_,_,_,_,_,_,_,_,_,_,_,_,_,_,_,_,_,_,_,_,_,_,_,_,_,_,_,_,_,_,_,_,_,_,_,_,_,_,_,_,_,_,_,_,_,_,_,_,_,_,_,_,_,_,_,_,_,_,_,_,_,_,_,_,_,_,_,_,_,_,_,_,_,_,_]) rfl ?_
          refine c_seq ?_
          refine c_if rfl (fun h57 => ?_) (fun h57 => ?_)
          · skip
            obtain ⟨y, hy⟩ : ∃ y, pl.getD i bdZ = y := ⟨_, rfl⟩
            have hyb := hPb i (by omega)
            rw [hy] at hyb
            obtain ⟨b, off, pre, post, T0, fz0, rfl, hb0, hp0⟩ := hPr (by omega)
            refine wp_skip ?_
            refine x_thenNormal ?_
            refine c_seq ?_
            refine wp_block ?_
            refine c_rseq (n := 170) ⟨rfl, rfl⟩ ?_
            refine s_val (r_indexAddrS Try.runUnderlying60 Try.sizeOf40 rfl rfl (by omega) (by omega)) ?_
            refine s_val (r_load1 Try.isAgg40 rfl (H.rd0 hb0) (bd_at hp0 (by omega) (by omega) hy)) ?_
            refine s_val (r_assign rfl) ?_
            refine c_nil (l' := [_,_,_,_,_,_,_,_,_,_,_,_,_,_,_,_,_,_,_,_,_,_,_,_,_,_,_,_,_,_,_,_,_,_,_,_,_,_,_,_,_,_,_,_,_,_,_,_,_,_,_,_,_,_,_,_,_,_,_,_,_,_,_,_,_,_,_,_,_,_,_,_,_,_,_,_,_,_,_,_,_,_,_,_,_,_,_,_,_,_,_,_,_,_,_,_,_,_,_,_,_,_,_,_,_,_,_,_,_,_,_,_,_,_,_,_,_,_,_,_,_,_,_,_,_,_,_,_,_,_,_,_,_,_,_,_,_,_,_,_,_,_,_,_,_,_,_,_,_,_,_,_,_,_,_,_,_,_,_,_,_,_,_,_,_,_,_,_,_,_]) rfl ?_
            refine c_seq ?_
            refine c_rseq (n := 170) ⟨rfl, rfl⟩ ?_
            refine s_val (r_move rfl) ?_
            refine s_val (r_lens Try.runUnderlying40 (ec rfl en)) ?_
            refine s_val (r_gtr rfl rfl) ?_
            refine c_nil (l' := [_,_,_,_,_,_,_,_,_,_,_,_,_,_,_,_,_,_,_,_,_,_,_,_,_,_,_,_,_,_,_,_,_,_,_,_,_,_,_,_,_,_,_,_,_,_,_,_,_,_,_,_,_,_,_,_,_,_,_,_,_,_,_,_,_,_,_,_,_,_,_,_,_,_,_,_,_,_,_,_,_,_,_,_,_,_,_,_,_,_,_,_,_,_,_,_,_,_,_,_,_,_,_,_,_,_,_,_,_,_,_,_,_,_,_,_,_,_,_,_,_,_,_,_,_,_,_,_,_,_,_,_,_,_,_,_,_,_,_,_,_,_,_,_,_,_,_,_,_,_,_,_,_,_,_,_,_,_,_,_,_,_,_,_,_,_,_,_,_,_]) rfl ?_
            refine c_if rfl (fun h62 => ?_) (fun h62 => ?_)
            · skip
              refine c_rseq (n := 170) ⟨rfl, rfl⟩ ?_
              refine s_val (r_assign rfl) ?_
              refine c_nil (l' := [_,_,_,_,_,_,_,_,_,_,_,_,_,_,_,_,_,_,_,_,_,_,_,_,_,_,_,_,_,_,_,_,_,_,_,_,_,_,_,_,_,_,_,_,_,_,_,_,_,_,_,_,_,_,_,_,_,_,_,_,_,_,_,_,_,_,_,_,_,_,_,_,_,_,_,_,_,_,_,_,_,_,_,_,_,_,_,_,_,_,_,_,_,_,_,_,_,_,_,_,_,_,_,_,_,_,_,_,_,_,_,_,_,_,_,_,_,_,_,_,_,_,_,_,_,_,_,_,_,_,_,_,_,_,_,_,_,_,_,_,_,_,_,_,_,_,_,_,_,_,_,_,_,_,_,_,_,_,_,_,_,_,_,_,_,_,_,_,_,_]) rfl ?_
              refine wp_ret (x_thenRet (x_blockRet (x_thenRet (x_thenRet (x_blockRet (x_thenRet (x_blockRet (x_thenRet (x_thenRet (x_blockRet (x_thenRet ?_)))))))))))
              refine e_ret (res1 rfl rfl) ⟨_, rfl, ?_⟩
              exact ⟨rfl, H.sub (List.nil_sublist _)⟩
            · skip
              refine wp_skip ?_
              refine x_thenNormal ?_
              refine c_rseq (n := 170) ⟨rfl, rfl⟩ ?_
              refine s_val (r_move rfl) ?_
              refine s_val (r_move rfl) ?_
              refine s_call (r_call Try.call15 (ec rfl (ec rfl en))) (append_ord bl g z C (al.map (·.b)) q N (by omega) hO y.a y.c y.b (by omega) _ (fun _ _ h2 => hyb.st ((St.callr (L := _ :: _ :: Na) H h2).sub (List.nil_sublist _))) hL (H.ownsM (.cons _ (.cons _ (List.sublist_append_right _ _))))) ?_
              rintro v w (⟨hfull, rfl, N2, hL2, HC⟩ | ⟨hroom, C2, rfl, hO2, N2, hL2, HC⟩)
              · skip
                replace H : St w0 [] w (_ :: _ :: (Na ++ N2)) := St.callr (L := _ :: _ :: Na) H HC
                rw [List.length_map] at hfull
                refine s_val (r_move rfl) ?_
                refine s_val (r_extract rfl rfl) ?_
                refine s_val (r_extract rfl rfl) ?_
                refine s_val (r_assign rfl) ?_
                refine s_val (r_assign rfl) ?_
                refine c_nil (l' := [_,_,_,_,_,_,_,_,_,_,_,_,_,_,_,_,_,_,_,_,_,_,_,_,_,_,_,_,_,_,_,_,_,_,_,_,_,_,_,_,_,_,_,_,_,_,_,_,_,_,_,_,_,_,_,_,_,_,_,_,_,_,_,_,_,_,_,_,_,_,_,_,_,_,_,_,_,_,_,_,_,_,_,_,_,_,_,_,_,_,_,_,_,_,_,_,_,_,_,_,_,_,_,_,_,_,_,_,_,_,_,_,_,_,_,_,_,_,_,_,_,_,_,_,_,_,_,_,_,_,_,_,_,_,_,_,_,_,_,_,_,_,_,_,_,_,_,_,_,_,_,_,_,_,_,_,_,_,_,_,_,_,_,_,_,_,_,_,_,_]) rfl ?_
                refine c_rseq (n := 170) ⟨rfl, rfl⟩ ?_
                refine s_val (r_move rfl) ?_
                refine s_val (r_eql rfl rfl) ?_
                refine c_nil (l' := [_,_,_,_,_,_,_,_,_,_,_,_,_,_,_,_,_,_,_,_,_,_,_,_,_,_,_,_,_,_,_,_,_,_,_,_,_,_,_,_,_,_,_,_,_,_,_,_,_,_,_,_,_,_,_,_,_,_,_,_,_,_,_,_,_,_,_,_,_,_,_,_,_,_,_,_,_,_,_,_,_,_,_,_,_,_,_,_,_,_,_,_,_,_,_,_,_,_,_,_,_,_,_,_,_,_,_,_,_,_,_,_,_,_,_,_,_,_,_,_,_,_,_,_,_,_,_,_,_,_,_,_,_,_,_,_,_,_,_,_,_,_,_,_,_,_,_,_,_,_,_,_,_,_,_,_,_,_,_,_,_,_,_,_,_,_,_,_,_,_]) rfl ?_
                refine c_if rfl (fun h70 => ?_) (fun h70 => ?_)
                · skip
                  exfalso; omega
                · skip
                  skip
                  refine c_rseq (n := 170) ⟨rfl, rfl⟩ ?_
                  refine s_val (r_move rfl) ?_
                  refine s_val (r_neq rfl rfl) ?_
                  refine s_val (r_move rfl) ?_
                  refine g_yes rfl rfl ?_
                  refine s_val (r_move rfl) ?_
                  refine g_yes rfl rfl ?_
                  refine s_val (r_lens Try.runUnderlying60 (ec rfl en)) ?_
                  refine g_yes rfl rfl ?_
                  refine s_val (r_fieldAddr (k := 5) Try.runUnderlying32 rfl Try.sizeOf30 (by decide) rfl rfl) ?_
                  refine g_yes rfl rfl ?_
                  refine s_val (r_fieldAddr (k := 0) Try.runUnderlying30 rfl Try.sizeOf3 (by decide) rfl rfl) ?_
                  refine g_yes rfl rfl ?_
                  refine s_val (r_load1 Try.isAgg3 rfl (H.at 1 rfl) rfl) ?_
                  refine g_yes rfl rfl ?_
                  refine s_val (r_fieldAddr (k := 5) Try.runUnderlying32 rfl Try.sizeOf30 (by decide) rfl rfl) ?_
                  refine g_yes rfl rfl ?_
                  refine s_val (r_fieldAddr (k := 1) Try.runUnderlying30 rfl Try.sizeOf3 (by decide) rfl rfl) ?_
                  refine g_yes rfl rfl ?_
                  refine s_val (r_load1 Try.isAgg3 rfl (H.at 1 rfl) rfl) ?_
                  refine g_yes rfl rfl ?_
                  refine s_val (r_mul rfl rfl (w_i64 (by omega) (by omega))) ?_
                  refine g_yes rfl rfl ?_
                  refine s_val (r_neq rfl rfl) ?_
                  refine s_val (r_pickf rfl rfl) ?_
                  refine c_nil (l' := [_,_,_,_,_,_,_,_,_,_,_,_,_,_,_,_,_,_,_,_,_,_,_,_,_,_,_,_,_,_,_,_,_,_,_,_,_,_,_,_,_,_,_,_,_,_,_,_,_,_,_,_,_,_,_,_,_,_,_,_,_,_,_,_,_,_,_,_,_,_,_,_,_,_,_,_,_,_,_,_,_,_,_,_,_,_,_,_,_,_,_,_,_,_,_,_,_,_,_,_,_,_,_,_,_,_,_,_,_,_,_,_,_,_,_,_,_,_,_,_,_,_,_,_,_,_,_,_,_,_,_,_,_,_,_,_,_,_,_,_,_,_,_,_,_,_,_,_,_,_,_,_,_,_,_,_,_,_,_,_,_,_,_,_,_,_,_,_,_,_]) rfl ?_
                  refine c_if rfl (fun h88 => ?_) (fun h88 => ?_)
                  · skip
                    exfalso; omega
                  · skip
                    refine wp_skip ?_
                    refine x_blockNormal ?_
                    refine x_thenNormal ?_
                    refine c_region (n := 170) ⟨rfl, rfl⟩ ?_
                    refine s_val (r_add rfl rfl (w_i64 (by omega) (by omega))) ?_
                    refine s_val (r_move rfl) ?_
                    refine c_nil0 (l' := [_,_,_,_,_,_,_,_,_,_,_,_,_,_,_,_,_,_,_,_,_,_,_,_,_,_,_,_,_,_,_,_,_,_,_,_,_,_,_,_,_,_,_,_,_,_,_,_,_,_,_,_,_,_,_,_,_,_,_,_,_,_,_,_,_,_,_,_,_,_,_,_,_,_,_,_,_,_,_,_,_,_,_,_,_,_,_,_,_,_,_,_,_,_,_,_,_,_,_,_,_,_,_,_,_,_,_,_,_,_,_,_,_,_,_,_,_,_,_,_,_,_,_,_,_,_,_,_,_,_,_,_,_,_,_,_,_,_,_,_,_,_,_,_,_,_,_,_,_,_,_,_,_,_,_,_,_,_,_,_,_,_,_,_,_,_,_,_,_,_]) rfl ?_
                    exact ⟨i + 1, _, rfl, ⟨_,_,_,_,_,_,_,_,_,_,_,_,_,_,_,_,_,_,_,_,_,_,_,_,_,_,_,_,_,_,_,_,_,_,_,_,_, al, aa, ca, Na, C, N2, q + 1, rfl, by omega, hO, hL2, hNa, hal, by omega, H⟩, by omega⟩
              · skip
                replace H : St w0 [] w (_ :: _ :: (Na ++ N2)) := St.callr (L := _ :: _ :: Na) H HC
                rw [List.length_map] at hroom
                refine s_val (r_move rfl) ?_
                refine s_val (r_extract rfl rfl) ?_
                refine s_val (r_extract rfl rfl) ?_
                refine s_val (r_assign rfl) ?_
                refine s_val (r_assign rfl) ?_
                refine c_nil (l' := [_,_,_,_,_,_,_,_,_,_,_,_,_,_,_,_,_,_,_,_,_,_,_,_,_,_,_,_,_,_,_,_,_,_,_,_,_,_,_,_,_,_,_,_,_,_,_,_,_,_,_,_,_,_,_,_,_,_,_,_,_,_,_,_,_,_,_,_,_,_,_,_,_,_,_,_,_,_,_,_,_,_,_,_,_,_,_,_,_,_,_,_,_,_,_,_,_,_,_,_,_,_,_,_,_,_,_,_,_,_,_,_,_,_,_,_,_,_,_,_,_,_,_,_,_,_,_,_,_,_,_,_,_,_,_,_,_,_,_,_,_,_,_,_,_,_,_,_,_,_,_,_,_,_,_,_,_,_,_,_,_,_,_,_,_,_,_,_,_,_]) rfl ?_
                refine c_rseq (n := 170) ⟨rfl, rfl⟩ ?_
                refine s_val (r_move rfl) ?_
                refine s_val (r_eql rfl rfl) ?_
                refine c_nil (l' := [_,_,_,_,_,_,_,_,_,_,_,_,_,_,_,_,_,_,_,_,_,_,_,_,_,_,_,_,_,_,_,_,_,_,_,_,_,_,_,_,_,_,_,_,_,_,_,_,_,_,_,_,_,_,_,_,_,_,_,_,_,_,_,_,_,_,_,_,_,_,_,_,_,_,_,_,_,_,_,_,_,_,_,_,_,_,_,_,_,_,_,_,_,_,_,_,_,_,_,_,_,_,_,_,_,_,_,_,_,_,_,_,_,_,_,_,_,_,_,_,_,_,_,_,_,_,_,_,_,_,_,_,_,_,_,_,_,_,_,_,_,_,_,_,_,_,_,_,_,_,_,_,_,_,_,_,_,_,_,_,_,_,_,_,_,_,_,_,_,_]) rfl ?_
                refine c_if rfl (fun h70 => ?_) (fun h70 => ?_)
                · skip
                  skip
                  refine c_region (n := 170) ⟨rfl, rfl⟩ ?_
                  refine s_val (r_move rfl) ?_
                  refine s_val (r_move rfl) ?_
                  refine s_new (m_bslice1 (vs := bdC y) H Try.runUnderlying60 Try.sizeOf40 Try.zeroValue40 (by omega) (by omega) rfl rfl rfl) ?_
                  intro w b73 H
                  replace H := St.rot (A := [_,_,_]) H
                  refine s_any (m_append_row0 (L1 := [_,_,_] ++ N2) (N := Na) H hNa Try.runUnderlying60 Try.runUnderlying60 (fun _ h => nomatch h) Try.sizeOf40 Try.zeroValue40 rfl Try.typeInfo40 (by rw [bytes40]; omega) (by rw [bytes40]; omega) (ec rfl (ec rfl en)) (Src.slice (vs := bdC y) (H.at 0 rfl) rfl rfl (elBd.one _))) ?_
                  rintro v w ⟨a2, c2, N4, rfl, hN4, H⟩
                  replace H := St.unrot (A := [_,_,_]) (R := N2) H
                  obtain ⟨al2, hal2⟩ : ∃ al2, al2 = al ++ [y] := ⟨_, rfl⟩
                  have hbs2 : al2.map (·.b) = al.map (·.b) ++ [y.b] := by rw [hal2, List.map_append]; rfl
                  rw [← hbs2] at hO2 hL2
                  have hll : al2.length = al.length + 1 := by rw [hal2, List.length_append]; rfl
                  rw [← hll] at hN4 ⊢
                  have hN5 : RowN 1 40 (rowC bdC al2) al2.length a2 c2 N4 := by rw [hal2, rowC_append, rowC_one1, ← hal2]; exact hN4
                  have hal3 : ∀ i, i < al2.length → BRow w0 (al2.getD i bdZ).a (al2.getD i bdZ).b := by
                    intro k hk
                    rw [hal2, List.getD_eq_getElem?_getD]
                    by_cases hkl : k < al.length
                    · rw [List.getElem?_append_left hkl, ← List.getD_eq_getElem?_getD]; exact hal k hkl
                    · rw [List.getElem?_append_right (by omega), show k - al.length = 0 by omega]; exact hyb
                  refine s_val (r_assign rfl) ?_
                  refine c_nil0 (l' := [_,_,_,_,_,_,_,_,_,_,_,_,_,_,_,_,_,_,_,_,_,_,_,_,_,_,_,_,_,_,_,_,_,_,_,_,_,_,_,_,_,_,_,_,_,_,_,_,_,_,_,_,_,_,_,_,_,_,_,_,_,_,_,_,_,_,_,_,_,_,_,_,_,_,_,_,_,_,_,_,_,_,_,_,_,_,_,_,_,_,_,_,_,_,_,_,_,_,_,_,_,_,_,_,_,_,_,_,_,_,_,_,_,_,_,_,_,_,_,_,_,_,_,_,_,_,_,_,_,_,_,_,_,_,_,_,_,_,_,_,_,_,_,_,_,_,_,_,_,_,_,_,_,_,_,_,_,_,_,_,_,_,_,_,_,_,_,_,_,_]) rfl ?_
                  refine x_blockNormal ?_
                  refine x_thenNormal ?_
                  refine c_region (n := 170) ⟨rfl, rfl⟩ ?_
                  refine s_val (r_add rfl rfl (w_i64 (by omega) (by omega))) ?_
                  refine s_val (r_move rfl) ?_
                  refine c_nil0 (l' := [_,_,_,_,_,_,_,_,_,_,_,_,_,_,_,_,_,_,_,_,_,_,_,_,_,_,_,_,_,_,_,_,_,_,_,_,_,_,_,_,_,_,_,_,_,_,_,_,_,_,_,_,_,_,_,_,_,_,_,_,_,_,_,_,_,_,_,_,_,_,_,_,_,_,_,_,_,_,_,_,_,_,_,_,_,_,_,_,_,_,_,_,_,_,_,_,_,_,_,_,_,_,_,_,_,_,_,_,_,_,_,_,_,_,_,_,_,_,_,_,_,_,_,_,_,_,_,_,_,_,_,_,_,_,_,_,_,_,_,_,_,_,_,_,_,_,_,_,_,_,_,_,_,_,_,_,_,_,_,_,_,_,_,_,_,_,_,_,_,_]) rfl ?_
                  replace H := H.sub (.cons _ (.cons_cons _ (.cons_cons _ (List.Sublist.refl _))))
                  exact ⟨i + 1, _, rfl, ⟨_,_,_,_,_,_,_,_,_,_,_,_,_,_,_,_,_,_,_,_,_,_,_,_,_,_,_,_,_,_,_,_,_,_,_,_,_, al2, a2, c2, N4, C2, N2, q + 1, rfl, by omega, hO2, hL2, hN5, hal3, by omega, H⟩, by omega⟩
                · skip
                  exfalso; omega
          · skip
            obtain rfl : i = pl.length := by omega
            refine wp_exit (x_thenExit (x_thenExit (x_blockHit ?_)))
            refine x_thenNormal ?_
            refine c_seq ?_
            refine c_rseq (n := 170) ⟨rfl, rfl⟩ ?_
            refine s_val (r_move rfl) ?_
            refine s_call (r_call Try.call14 (ec rfl en)) (lflush_spec bl (ordS g z C (al.map (·.b)).length) q N (by omega) _ hL (H.ownsM (.cons _ (.cons _ (List.sublist_append_right _ _))))) ?_
            rintro v w ⟨rfl, N2, hL2, HC⟩
            replace H : St w0 [] w (_ :: _ :: (Na ++ N2)) := St.callr (L := _ :: _ :: Na) H HC
            replace hL := hL2
            refine s_val (r_neq rfl rfl) ?_
            refine c_nil (l' := [_,_,_,_,_,_,_,_,_,_,_,_,_,_,_,_,_,_,_,_,_,_,_,_,_,_,_,_,_,_,_,_,_,_,_,_,_,_,_,_,_,_,_,_,_,_,_,_,_,_,_,_,_,_,_,_,_,_,_,_,_,_,_,_,_,_,_,_,_,_,_,_,_,_,_,_,_,_,_,_,_,_,_,_,_,_,_,_,_,_,_,_,_,_,_,_,_,_,_,_,_,_,_,_,_,_,_,_,_,_,_,_,_,_,_,_,_,_,_,_,_,_,_,_,_,_,_,_,_,_,_,_,_,_,_,_,_,_,_,_,_,_,_,_,_,_,_,_,_,_,_,_,_,_,_,_,_,_,_,_,_,_,_,_,_,_,_,_,_,_]) rfl ?_
            refine c_if rfl (fun h92 => ?_) (fun h92 => ?_)
            · skip
              exfalso; omega
            · skip
              refine wp_skip ?_
              refine x_thenNormal ?_
              refine c_seq ?_
              refine d_begin (sz := 170) ⟨rfl, rfl⟩ (by kernel_rfl) H (H.sub (.cons_cons _ (.cons_cons _ (List.nil_sublist _)))) rfl ?_
              intro w H
              refine d_take (i := 0) rfl (by kernel_rfl) (fun _ _ _ h => h) (H.sub (.cons_cons _ (.cons_cons _ (List.nil_sublist _)))) (fun _ _ => r_fieldAddr (k := 1) Try.runUnderlying32 rfl Try.sizeOf26 (by decide) rfl rfl) rfl ?_
              refine d_take (i := 1) rfl (by kernel_rfl) (fun _ _ _ h => h) (H.sub (.cons_cons _ (.cons_cons _ (List.nil_sublist _)))) (fun _ HS => r_load1 Try.isAgg26 rfl (HS.at 1 rfl) rfl) rfl ?_
              refine d_take (i := 2) rfl (by kernel_rfl) (fun _ _ _ h => h) (H.sub (.cons_cons _ (.cons_cons _ (List.nil_sublist _)))) (fun _ _ => r_fieldAddr (k := 2) Try.runUnderlying32 rfl Try.sizeOf26 (by decide) rfl rfl) rfl ?_
              refine d_take (i := 3) rfl (by kernel_rfl) (fun _ _ _ h => h) (H.sub (.cons_cons _ (.cons_cons _ (List.nil_sublist _)))) (fun _ HS => r_load1 Try.isAgg26 rfl (HS.at 1 rfl) rfl) rfl ?_
              refine d_take (i := 4) rfl (by kernel_rfl) (fun _ _ _ h => h) (H.sub (.cons_cons _ (.cons_cons _ (List.nil_sublist _)))) (fun _ _ => r_buildS (zs := litZ) (out := litZ) Try.runUnderlying72 Try.zeroValue72 places72 pn rfl) rfl ?_
              refine d_take (i := 5) rfl (by kernel_rfl) (fun _ _ _ h => h) (H.sub (.cons_cons _ (.cons_cons _ (List.nil_sublist _)))) (fun _ _ => r_makeIface Try.runUnderlying72 (fun _ h => nomatch h) rfl) rfl ?_
              refine d_take (i := 8) rfl (by kernel_rfl) (fun _ _ _ h => h) (H.sub (.cons_cons _ (.cons_cons _ (List.nil_sublist _)))) (fun _ _ => r_buildS (zs := litZ) (out := litZ) Try.runUnderlying72 Try.zeroValue72 places72 pn rfl) rfl ?_
              refine d_take (i := 9) rfl (by kernel_rfl) (fun _ _ _ h => h) (H.sub (.cons_cons _ (.cons_cons _ (List.nil_sublist _)))) (fun _ _ => r_makeIface Try.runUnderlying72 (fun _ h => nomatch h) rfl) rfl ?_
              refine d_take (i := 10) rfl (by kernel_rfl) (fun _ _ _ h => h) (H.sub (.cons_cons _ (.cons_cons _ (List.nil_sublist _)))) (fun _ _ => r_fieldAddr (k := 5) Try.runUnderlying32 rfl Try.sizeOf30 (by decide) rfl rfl) rfl ?_
              refine d_take (i := 11) rfl (by kernel_rfl) (fun _ _ _ h => h) (H.sub (.cons_cons _ (.cons_cons _ (List.nil_sublist _)))) (fun _ HS => r_loadn Try.isAgg30 Try.sizeOf30 rfl (HS.at 1 rfl) (rigC_sh _ _ _ _ _ _ _) (by first | exact (kC_length _) | exact (hC_length _) | exact (shC_length _ _) | exact (wC_length _) | exact (sdC_length _ _) | exact (xrL_length _ _ _) | exact (xrC_length _ _ _ _ _ _ _) | exact (rigC_length _ _ _ _ _ _ _) | exact (doC_length _) | exact (elFd.len _) | exact (fdV_length _ _ _) | exact (elFd.len _) | exact rfl)) rfl ?_
              refine d_all1 (i := 6) (by kernel_rfl) ?_
              refine b_call rfl go_none (r_call Try.call23 (ec rfl en)) (good_spec litZ _) rfl ?_
              rintro v w ⟨bg, rfl, HC⟩
              replace H := H.call0 HC
              refine ⟨(H.sub (.cons _ (.cons_cons _ (.cons_cons _ (List.nil_sublist _))))), ?_⟩
              refine d_all1 (i := 7) (by kernel_rfl) ?_
              obtain ⟨hdA, hdB⟩ := hL.dev (by omega) H (fun p hp => (List.mem_cons_of_mem _ (List.mem_cons_of_mem _ (List.mem_cons_of_mem _ (List.mem_append_right _ hp)))))
              refine b_call rfl go_none (r_call Try.call22 (ec rfl (ec rfl (ec rfl en)))) (newmir_spec ba bb bg C (by have := hO.1.cl; have := hO.1.gz; omega) _ hdA hdB) rfl ?_
              rintro v w ⟨bm2, ma2, mb2, rfl, HC⟩
              replace H := H.call0 HC
              obtain ⟨bm0, cs0, bu0, T, T2, Nm, rfl, ⟨ma0, mb0, bg0, cs1, bp, lf, ac, nc, cc, T', Tp, NA, NB, rfl, hA, hB, hcl⟩, hF⟩ := hL
              replace H := St.again (A := [_,_]) H
              have hM2 : MirN 150 51 89 72 ba bb bm2 C q ((bm2, .cells (mC ba ma2 bb mb2 C.length (.func (.func 51) #[] #[.pointer (some ⟨bg, 0, none⟩)])).toArray 119 (0, 0)) :: (ma2, mapZ) :: (mb2, mapZ) :: (bg, .cells [.iface 72 (.agg litZ.toArray)].toArray 89 (0, 0)) :: (bp, .cells (pC lf ac nc cc).toArray Tp (0, 0)) :: (NA ++ NB)) := ⟨ma2, mb2, bg, litZ, bp, lf, ac, nc, cc, 119, Tp, NA, NB, rfl, hA, hB, hcl⟩
              refine ⟨(H.sub (.cons_cons _ (.cons_cons _ (List.nil_sublist _)))), ?_⟩
              refine d_all1 (i := 12) (by kernel_rfl) ?_
              refine b_call rfl go_none (r_call Try.call21 (ec rfl (ec rfl (ec rfl en)))) (open_spec bm2 C q _ (by omega) litZ g z (by have := hO.1.g0; omega) (by have := hO.1.g1; omega) (by have := hO.1.z0; omega) (by have := hO.1.z1; omega) (by rw [hO.1.cl, ← Int.natCast_mul]; omega) (by rw [← Int.natCast_mul]; have := hO.1.gz; omega) (hO.1.genB hO.2.1 hO.2.2) _ hM2 (H.ownsM (.cons _ (.cons _ ((List.sublist_append_right _ _).trans (List.sublist_append_right _ _)))))) rfl ?_
              rintro v w ⟨bl2, fs, a2, c2, Nr, Nb, N3, rfl, hperm, hsrt, hRf, hBs, hLm, HC⟩
              replace H : St w0 [] w (_ :: _ :: (Na ++ ([_,_,_,_,_,_] ++ (Nr ++ (Nb ++ N3))))) := St.call5 (A := [_,_]) (M := Na) (No := [_,_,_,_,_,_]) H HC
              rw [ord_open hO.1] at hperm hLm
              have hfs := ord_found hperm hsrt
              have hfl := found_len hfs
              rw [List.length_map] at hfl
              refine ⟨(H.sub (.cons_cons _ (.cons_cons _ (List.nil_sublist _)))), ?_⟩
              refine d_take (i := 13) rfl (by kernel_rfl) (fun _ _ _ h => h) (H.sub (.cons_cons _ (.cons_cons _ (List.nil_sublist _)))) (fun _ _ => r_move rfl) rfl ?_
              refine d_take (i := 14) rfl (by kernel_rfl) (fun _ _ _ h => h) (H.sub (.cons_cons _ (.cons_cons _ (List.nil_sublist _)))) (fun _ _ => r_extract rfl rfl) rfl ?_
              refine d_take (i := 15) rfl (by kernel_rfl) (fun _ _ _ h => h) (H.sub (.cons_cons _ (.cons_cons _ (List.nil_sublist _)))) (fun _ _ => r_extract rfl rfl) rfl ?_
              refine d_take (i := 16) rfl (by kernel_rfl) (fun _ _ _ h => h) (H.sub (.cons_cons _ (.cons_cons _ (List.nil_sublist _)))) (fun _ _ => r_extract rfl rfl) rfl ?_
              refine d_take (i := 17) rfl (by kernel_rfl) (fun _ _ _ h => h) (H.sub (.cons_cons _ (.cons_cons _ (List.nil_sublist _)))) (fun _ _ => r_assign rfl) rfl ?_
              refine d_take (i := 18) rfl (by kernel_rfl) (fun _ _ _ h => h) (H.sub (.cons_cons _ (.cons_cons _ (List.nil_sublist _)))) (fun _ _ => r_assign rfl) rfl ?_
              refine d_take (i := 19) rfl (by kernel_rfl) (fun _ _ _ h => h) (H.sub (.cons_cons _ (.cons_cons _ (List.nil_sublist _)))) (fun _ _ => r_assign rfl) rfl ?_
              refine d_done (l' := [_,_,_,_,_,_,_,_,_,_,_,_,_,_,_,_,_,_,_,_,_,_,_,_,_,_,_,_,_,_,_,_,_,_,_,_,_,_,_,_,_,_,_,_,_,_,_,_,_,_,_,_,_,_,_,_,_,_,_,_,_,_,_,_,_,_,_,_,_,_,_,_,_,_,_,_,_,_,_,_,_,_,_,_,_,_,_,_,_,_,_,_,_,_,_,_,_,_,_,_,_,_,_,_,_,_,_,_,_,_,_,_,_,_,_,_,_,_,_,_,_,_,_,_,_,_,_,_,_,_,_,_,_,_,_,_,_,_,_,_,_,_,_,_,_,_,_,_,_,_,_,_,_,_,_,_,_,_,_,_,_,_,_,_,_,_,_,_,_,_]) (by kernel_rfl) rfl ?_
              refine x_thenNormal ?_
              refine c_seq ?_
              refine c_rseq (n := 170) ⟨rfl, rfl⟩ ?_
              refine s_val (r_move rfl) ?_
              refine s_val (r_neq rfl rfl) ?_
              refine s_val (r_move rfl) ?_
              refine g_yes rfl rfl ?_
              refine s_val (r_move rfl) ?_
              refine g_yes rfl rfl ?_
              refine s_val (r_nilpF Try.runUnderlying28 rfl rfl) ?_
              refine s_val (r_pickf rfl rfl) ?_
              refine s_val (r_move rfl) ?_
              refine g_yes rfl rfl ?_
              refine s_val (r_move rfl) ?_
              refine g_yes rfl rfl ?_
              refine s_val (r_lens Try.runUnderlying62 (ec rfl en)) ?_
              refine g_yes rfl rfl ?_
              refine s_val (r_move rfl) ?_
              refine g_yes rfl rfl ?_
              refine s_val (r_lens Try.runUnderlying60 (ec rfl en)) ?_
              refine g_yes rfl rfl ?_
              refine s_test (r_neq rfl rfl) (fun h121 => ?_) (fun h121 => ?_)
              · skip
                exfalso; omega
              · skip
                refine s_val (r_pickf rfl rfl) ?_
                refine s_val (r_move rfl) ?_
                refine g_yes rfl rfl ?_
                refine s_val (r_move rfl) ?_
                refine g_yes rfl rfl ?_
                refine s_call (r_call Try.call24 (ec rfl en)) (room_spec bl2 (ordS g z C (al.map (·.b)).length) _ (hLm.toN.rdM (by omega) H (fun p hp => (List.mem_cons_of_mem _ (List.mem_cons_of_mem _ (List.mem_append_right _ (List.mem_append_right _ (List.mem_append_right _ (List.mem_append_right _ hp))))))))) ?_
                rintro v w ⟨rfl, HC⟩
                replace H := H.quiet HC
                refine g_yes rfl rfl ?_
                refine s_val (r_move rfl) ?_
                refine g_yes rfl rfl ?_
                obtain ⟨hdA, hdB⟩ := hLm.toN.dev (by omega) H (fun p hp => (List.mem_cons_of_mem _ (List.mem_cons_of_mem _ (List.mem_append_right _ (List.mem_append_right _ (List.mem_append_right _ (List.mem_append_right _ hp)))))))
                have hLo : LogR 51 89 72 w bl (ordS g z C (al.map (·.b)).length) := LogR.elder H (fun p hp => (List.mem_cons_of_mem _ (List.mem_cons_of_mem _ (List.mem_append_right _ (List.mem_append_left _ hp))))) hdA hdB (by have := hO.1.cl; have := hO.1.gz; show C.length ≤ 4096; omega) hF
                refine s_call (r_call Try.call24 (ec rfl en)) (room_spec bl (ordS g z C (al.map (·.b)).length) _ hLo) ?_
                rintro v w ⟨rfl, HC⟩
                replace H := H.quiet HC
                refine g_yes rfl rfl ?_
                refine s_val (r_neq rfl rfl) ?_
                refine s_val (r_pickf rfl rfl) ?_
                refine c_nil (l' := [_,_,_,_,_,_,_,_,_,_,_,_,_,_,_,_,_,_,_,_,_,_,_,_,_,_,_,_,_,_,_,_,_,_,_,_,_,_,_,_,_,_,_,_,_,_,_,_,_,_,_,_,_,_,_,_,_,_,_,_,_,_,_,_,_,_,_,_,_,_,_,_,_,_,_,_,_,_,_,_,_,_,_,_,_,_,_,_,_,_,_,_,_,_,_,_,_,_,_,_,_,_,_,_,_,_,_,_,_,_,_,_,_,_,_,_,_,_,_,_,_,_,_,_,_,_,_,_,_,_,_,_,_,_,_,_,_,_,_,_,_,_,_,_,_,_,_,_,_,_,_,_,_,_,_,_,_,_,_,_,_,_,_,_,_,_,_,_,_,_]) rfl ?_
                refine c_if rfl (fun h129 => ?_) (fun h129 => ?_)
                · skip
                  exact absurd rfl h129
                · skip
                  refine wp_skip ?_
                  refine x_thenNormal ?_
                  refine c_seq ?_
                  refine c_rseq (n := 170) ⟨rfl, rfl⟩ ?_
                  refine s_val (r_move rfl) ?_
                  refine s_val (r_lens Try.runUnderlying62 (ec rfl en)) ?_
                  refine s_val (r_move rfl) ?_
                  refine c_nil (l' := [_,_,_,_,_,_,_,_,_,_,_,_,_,_,_,_,_,_,_,_,_,_,_,_,_,_,_,_,_,_,_,_,_,_,_,_,_,_,_,_,_,_,_,_,_,_,_,_,_,_,_,_,_,_,_,_,_,_,_,_,_,_,_,_,_,_,_,_,_,_,_,_,_,_,_,_,_,_,_,_,_,_,_,_,_,_,_,_,_,_,_,_,_,_,_,_,_,_,_,_,_,_,_,_,_,_,_,_,_,_,_,_,_,_,_,_,_,_,_,_,_,_,_,_,_,_,_,_,_,_,_,_,_,_,_,_,_,_,_,_,_,_,_,_,_,_,_,_,_,_,_,_,_,_,_,_,_,_,_,_,_,_,_,_,_,_,_,_,_,_]) rfl ?_
                  refine wp_block ?_
                  replace H : St w0 [] w (_ :: _ :: (Na ++ (Nr ++ (Nb ++ N3)))) := H.sub (.cons_cons _ (.cons_cons _ (List.Sublist.append (List.Sublist.refl _) (List.sublist_append_right _ _))))
                  refine c_loop (fun (l0 : List Value) (m : Nat) (l : List Value) (w : World) => ∃ (u8 u22 u23 u24 u25 u133 u134 u135 u136 u137 u138 u139 u140 u141 u142 u143 u144 u145 u146 u147 u148 u149 u150 u151 u152 u153 u154 u155 u156 u157 u158 u159 u160 u161 u162 u163 u164 u165 u166 u167 : Value) , l = ovr l0 [N_, N_, N_, N_, N_, N_, N_, N_, Y_ u8, N_, N_, N_, N_, N_, N_, N_, N_, N_, N_, N_, N_, N_, Y_ u22, Y_ u23, Y_ u24, Y_ u25, N_, N_, N_, N_, N_, N_, N_, N_, N_, N_, N_, N_, N_, N_, N_, N_, N_, N_, N_, N_, N_, N_, N_, N_, N_, N_, N_, N_, N_, N_, N_, N_, N_, N_, N_, N_, N_, N_, N_, N_, N_, N_, N_, N_, N_, N_, N_, N_, N_, N_, N_, N_, N_, N_, N_, N_, N_, N_, N_, N_, N_, N_, N_, N_, N_, N_, N_, N_, N_, N_, N_, N_, N_, N_, N_, N_, N_, N_, N_, N_, N_, N_, N_, N_, N_, N_, N_, N_, N_, N_, N_, N_, N_, N_, N_, N_, N_, N_, N_, N_, N_, N_, N_, N_, N_, N_, Y_ (.int .i64 m), Y_ u133, Y_ u134, Y_ u135, Y_ u136, Y_ u137, Y_ u138, Y_ u139, Y_ u140, Y_ u141, Y_ u142, Y_ u143, Y_ u144, Y_ u145, Y_ u146, Y_ u147, Y_ u148, Y_ u149, Y_ u150, Y_ u151, Y_ u152, Y_ u153, Y_ u154, Y_ u155, Y_ u156, Y_ u157, Y_ u158, Y_ u159, Y_ u160, Y_ u161, Y_ u162, Y_ u163, Y_ u164, Y_ u165, Y_ u166, Y_ u167] ∧ m ≤ fs.length ∧ St w0 [] w ((b48, .cells [bsV first, bsV second].toArray 60 (0, 0)) :: (b9, .cells (rigC pp (some ⟨ba, 0, none⟩) (some ⟨bb, 0, none⟩) pm (some ⟨bl0, 0, none⟩) g z).toArray 32 (0, 0)) :: Na ++ (Nr ++ (Nb ++ N3)))) (fun (m : Nat) => fs.length - m) 0 ⟨_,_,_,_,_,_,_,_,_,_,_,_,_,_,_,_,_,_,_,_,_,_,_,_,_,_,_,_,_,_,_,_,_,_,_,_,_,_,_,_, rfl, by omega, H⟩ ?_
                  intro m l w ⟨u8, u22, u23, u24, u25, u133, u134, u135, u136, u137, u138, u139, u140, u141, u142, u143, u144, u145, u146, u147, u148, u149, u150, u151, u152, u153, u154, u155, u156, u157, u158, u159, u160, u161, u162, u163, u164, u165, u166, u167, hl, hm, H⟩
                  obtain rfl := hl.trans (rfl : _ = [_,_,_,_,_,_,_,_,_,_,_,_,_,_,_,_,_,_,_,_,_,_,_,_,_,_,_,_,_,_,_,_,_,_,_,_,_,_,_,_,_,_,_,_,_,_,_,_,_,_,_,_,_,_,_,_,_,_,_,_,_,_,_,_,_,_,_,_,_,_,_,_,_,_,_,_,_,_,_,_,_,_,_,_,_,_,_,_,_,_,_,_,_,_,_,_,_,_,_,_,_,_,_,_,_,_,_,_,_,_,_,_,_,_,_,_,_,_,_,_,_,_,_,_,_,_,_,_,_,_,_,_,_,_,_,_,_,_,_,_,_,_,_,_,_,_,_,_,_,_,_,_,_,_,_,_,_,_,_,_,_,_,_,_,_,_,_,_,_,_])
                  clear hl
                  refine c_rseq (n := 170) ⟨rfl, rfl⟩ ?_
                  refine s_val (r_lss rfl rfl) ?_
                  refine c_nil (l' := [_,_,_,_,_,_,_,_,_,_,_,_,_,_,_,_,_,_,_,_,_,_,_,_,_,_,_,_,_,_,_,_,_,_,_,_,_,_,_,_,_,_,_,_,_,_,_,_,_,_,_,_,_,_,_,_,_,_,_,_,_,_,_,_,_,_,_,_,_,_,_,_,_,_,_,_,_,_,_,_,_,_,_,_,_,_,_,_,_,_,_,_,_,_,_,_,_,_,_,_,_,_,_,_,_,_,_,_,_,_,_,_,_,_,_,_,_,_,_,_,_,_,_,_,_,_,_,_,_,_,_,_,_,_,_,_,_,_,_,_,_,_,_,_,_,_,_,_,_,_,_,_,_,_,_,_,_,_,_,_,_,_,_,_,_,_,_,_,_,_]) rfl ?_
                  refine c_seq ?_
                  refine c_if rfl (fun h133 => ?_) (fun h133 => ?_)
                  · skip
                    obtain ⟨bw, spw, rfl, hcw, rfl, hcw2⟩ := hNa.some (by omega)
                    obtain ⟨bf, spf, rfl, hcf, rfl, hcf2⟩ := hRf.some (by omega)
                    obtain ⟨f, hf, hfm, hfa, hfg, hfb⟩ := found_at hfs (m := m) (by rw [List.length_map]; omega)
                    obtain ⟨y, hy⟩ : ∃ y, al.getD m bdZ = y := ⟨_, rfl⟩
                    have hyb := hal m (by omega)
                    rw [hy] at hyb
                    have hbm : (al.map (·.b)).getD m [] = y.b := by rw [← hy, List.getD_eq_getElem?_getD, List.getD_eq_getElem?_getD, List.getElem?_map, List.getElem?_eq_getElem (show m < al.length by omega)]; rfl
                    rw [hbm] at hfb
                    refine wp_skip ?_
                    refine x_thenNormal ?_
                    refine c_seq ?_
                    refine wp_block ?_
                    refine c_rseq (n := 170) ⟨rfl, rfl⟩ ?_
                    refine s_val (r_move rfl) ?_
                    refine s_val (r_indexAddrS Try.runUnderlying62 Try.sizeOf74 rfl rfl (by omega) (by omega)) ?_
                    refine s_val (r_loadn Try.isAgg74 Try.sizeOf74 rfl (H.at 3 rfl) (fd_td hf (by omega)) (by first | exact (kC_length _) | exact (hC_length _) | exact (shC_length _ _) | exact (wC_length _) | exact (sdC_length _ _) | exact (xrL_length _ _ _) | exact (xrC_length _ _ _ _ _ _ _) | exact (rigC_length _ _ _ _ _ _ _) | exact (doC_length _) | exact (elFd.len _) | exact (fdV_length _ _ _) | exact (elFd.len _) | exact rfl)) ?_
                    refine s_new (m_alloc (cs := (fdV 0 0 bdZ)) H Try.zeroValue74 rfl) ?_
                    intro w b23 H
                    refine s_val (r_assign rfl) ?_
                    refine s_st (m_storen H 0 3 Try.sizeOf74 rfl rfl (by first | exact (kC_length _) | exact (hC_length _) | exact (shC_length _ _) | exact (wC_length _) | exact (sdC_length _ _) | exact (xrL_length _ _ _) | exact (xrC_length _ _ _ _ _ _ _) | exact (rigC_length _ _ _ _ _ _ _) | exact (doC_length _) | exact (elFd.len _) | exact (fdV_length _ _ _) | exact (elFd.len _)) (by first | exact (kC_one _) | exact (hC_one _) | exact (shC_one _ _) | exact (elW.one _) | exact (sdC_one _ _) | exact (xrL_one _ _ _) | exact (xrC_one _ _ _ _ _ _ _) | exact (rigC_one _ _ _ _ _ _ _) | exact (elDo.one _) | exact (elFd.one _) | exact (fdV_one _ _ _)) rfl (by show 0 + 3 ≤ 3; omega) (fdV_sp _ _ _ _ _ _)) (L' := (_ :: _ :: _ :: _)) rfl ?_
                    intro w H
                    refine c_nil (l' := [_,_,_,_,_,_,_,_,_,_,_,_,_,_,_,_,_,_,_,_,_,_,_,_,_,_,_,_,_,_,_,_,_,_,_,_,_,_,_,_,_,_,_,_,_,_,_,_,_,_,_,_,_,_,_,_,_,_,_,_,_,_,_,_,_,_,_,_,_,_,_,_,_,_,_,_,_,_,_,_,_,_,_,_,_,_,_,_,_,_,_,_,_,_,_,_,_,_,_,_,_,_,_,_,_,_,_,_,_,_,_,_,_,_,_,_,_,_,_,_,_,_,_,_,_,_,_,_,_,_,_,_,_,_,_,_,_,_,_,_,_,_,_,_,_,_,_,_,_,_,_,_,_,_,_,_,_,_,_,_,_,_,_,_,_,_,_,_,_,_]) rfl ?_
                    refine c_rseq (n := 170) ⟨rfl, rfl⟩ ?_
                    refine s_val (r_move rfl) ?_
                    refine s_val (r_fieldAddr (k := 0) Try.runUnderlying74 rfl Try.sizeOf3 (by decide) rfl rfl) ?_
                    refine s_val (r_load1 Try.isAgg3 rfl (H.at 0 rfl) rfl) ?_
                    refine s_call (r_call Try.call19 (ec rfl (ec rfl en))) (lread_ord bl2 g z C (al.map (·.b)) hO m (by rw [List.length_map]; omega) f.at_ hfa _ (hLm.toN.rdM (by omega) H (fun p hp => (List.mem_cons_of_mem _ (List.mem_cons_of_mem _ (List.mem_cons_of_mem _ (List.mem_append_right _ (List.mem_append_right _ (List.mem_append_right _ hp))))))))) ?_
                    rintro v w ⟨a3, c3, N5, rfl, hN5, HC⟩
                    replace H : St w0 [] w (_ :: _ :: _ :: (N5 ++ ([_] ++ (([_] ++ (Nb ++ N3)))))) := St.mid4 (A := [_,_,_]) (H.call0 HC)
                    refine s_val (r_move rfl) ?_
                    refine s_val (r_extract rfl rfl) ?_
                    refine s_val (r_extract rfl rfl) ?_
                    refine s_val (r_assign rfl) ?_
                    refine s_val (r_assign rfl) ?_
                    refine c_nil (l' := [_,_,_,_,_,_,_,_,_,_,_,_,_,_,_,_,_,_,_,_,_,_,_,_,_,_,_,_,_,_,_,_,_,_,_,_,_,_,_,_,_,_,_,_,_,_,_,_,_,_,_,_,_,_,_,_,_,_,_,_,_,_,_,_,_,_,_,_,_,_,_,_,_,_,_,_,_,_,_,_,_,_,_,_,_,_,_,_,_,_,_,_,_,_,_,_,_,_,_,_,_,_,_,_,_,_,_,_,_,_,_,_,_,_,_,_,_,_,_,_,_,_,_,_,_,_,_,_,_,_,_,_,_,_,_,_,_,_,_,_,_,_,_,_,_,_,_,_,_,_,_,_,_,_,_,_,_,_,_,_,_,_,_,_,_,_,_,_,_,_]) rfl ?_
                    refine c_seq ?_
                    refine d_begin (sz := 170) ⟨rfl, rfl⟩ (by kernel_rfl) H (H) rfl ?_
                    intro w H
                    refine d_take (i := 0) rfl (by kernel_rfl) (fun _ _ _ h => h) H (fun _ _ => r_fieldAddr (k := 2) Try.runUnderlying74 rfl Try.sizeOf40 (by decide) rfl rfl) rfl ?_
                    refine d_take (i := 1) rfl (by kernel_rfl) (fun _ _ _ h => h) H (fun _ HS => r_load1 Try.isAgg40 rfl (HS.at 0 rfl) rfl) rfl ?_
                    refine d_take (i := 2) rfl (by kernel_rfl) (fun _ _ _ h => h) H (fun _ HS => r_textB Try.runUnderlying40 Try.runUnderlying9 Try.runUnderlying5 (bs := f.bd.b) rfl (hBs.brow HS (fun p hp => (List.mem_cons_of_mem _ (List.mem_cons_of_mem _ (List.mem_cons_of_mem _ (List.mem_append_right _ (List.mem_append_right _ (List.mem_append_right _ (List.mem_append_left _ hp)))))))) f hfm)) rfl ?_
                    refine d_take (i := 3) rfl (by kernel_rfl) (fun _ _ _ h => h) H (fun _ _ => r_move rfl) rfl ?_
                    refine d_take (i := 4) rfl (by kernel_rfl) (fun _ _ _ h => h) H (fun _ _ => r_move rfl) rfl ?_
                    refine d_take (i := 5) rfl (by kernel_rfl) (fun _ _ _ h => h) H (fun _ _ => r_indexAddrS Try.runUnderlying60 Try.sizeOf40 rfl rfl (by omega) (by omega)) rfl ?_
                    refine d_take (i := 6) rfl (by kernel_rfl) (fun _ _ _ h => h) H (fun _ HS => r_load1 Try.isAgg40 rfl (HS.own (bw, .cells (rowC bdC al ++ spw).toArray 40 (0, 0)) (List.mem_cons_of_mem _ (List.mem_cons_of_mem _ (List.mem_cons_of_mem _ (List.mem_append_right _ (List.mem_append_left _ (List.mem_singleton.2 rfl))))))) (bd_at2 (i := m) (by omega) (by omega) hy)) rfl ?_
                    refine d_take (i := 7) rfl (by kernel_rfl) (fun _ _ _ h => h) H (fun _ HS => r_textB Try.runUnderlying40 Try.runUnderlying9 Try.runUnderlying5 (a := y.a) (c := y.c) (bs := y.b) rfl (hyb.st (HS.sub (List.nil_sublist _)))) rfl ?_
                    refine d_take (i := 8) rfl (by kernel_rfl) (fun _ _ _ h => h) H (fun _ _ => r_neqT (s := f.bd.b) (t := y.b) rfl rfl) rfl ?_
                    refine d_part (fun h152 => ?_) (fun h152 => ?_)
                    · skip
                      exact absurd hfb h152
                    · skip
                      refine d_take (i := 9) rfl (by kernel_rfl) (fun _ _ _ h => h) H (fun _ _ => r_move rfl) rfl ?_
                      refine d_takeG (i := 10) rfl (by kernel_rfl) (fun _ _ _ h => h) rfl rfl H (fun _ _ => r_move rfl) rfl ?_
                      refine d_takeG (i := 11) rfl (by kernel_rfl) (fun _ _ _ h => h) rfl rfl H (fun _ _ => r_neq rfl rfl) rfl ?_
                      refine d_take (i := 12) rfl (by kernel_rfl) (fun _ _ _ h => h) H (fun _ _ => r_pickf rfl rfl) rfl ?_
                      refine d_take (i := 13) rfl (by kernel_rfl) (fun _ _ _ h => h) H (fun _ _ => r_move rfl) rfl ?_
                      refine d_takeG (i := 14) rfl (by kernel_rfl) (fun _ _ _ h => h) rfl rfl H (fun _ _ => r_move rfl) rfl ?_
                      refine d_takeG (i := 15) rfl (by kernel_rfl) (fun _ _ _ h => h) rfl rfl H (fun _ HS => r_textB Try.runUnderlying40 Try.runUnderlying9 Try.runUnderlying5 (bs := (al.map (·.b)).getD m []) rfl (hN5.browM HS (fun p hp => (List.mem_cons_of_mem _ (List.mem_cons_of_mem _ (List.mem_cons_of_mem _ (List.mem_append_left _ hp))))))) rfl ?_
                      refine d_takeG (i := 16) rfl (by kernel_rfl) (fun _ _ _ h => h) rfl rfl H (fun _ _ => r_move rfl) rfl ?_
                      refine d_takeG (i := 17) rfl (by kernel_rfl) (fun _ _ _ h => h) rfl rfl H (fun _ _ => r_move rfl) rfl ?_
                      refine d_takeG (i := 18) rfl (by kernel_rfl) (fun _ _ _ h => h) rfl rfl H (fun _ _ => r_indexAddrS Try.runUnderlying60 Try.sizeOf40 rfl rfl (by omega) (by omega)) rfl ?_
                      refine d_takeG (i := 19) rfl (by kernel_rfl) (fun _ _ _ h => h) rfl rfl H (fun _ HS => r_load1 Try.isAgg40 rfl (HS.own (bw, .cells (rowC bdC al ++ spw).toArray 40 (0, 0)) (List.mem_cons_of_mem _ (List.mem_cons_of_mem _ (List.mem_cons_of_mem _ (List.mem_append_right _ (List.mem_append_left _ (List.mem_singleton.2 rfl))))))) (bd_at2 (i := m) (by omega) (by omega) hy)) rfl ?_
                      refine d_takeG (i := 20) rfl (by kernel_rfl) (fun _ _ _ h => h) rfl rfl H (fun _ HS => r_textB Try.runUnderlying40 Try.runUnderlying9 Try.runUnderlying5 (a := y.a) (c := y.c) (bs := y.b) rfl (hyb.st (HS.sub (List.nil_sublist _)))) rfl ?_
                      refine d_takeG (i := 21) rfl (by kernel_rfl) (fun _ _ _ h => h) rfl rfl H (fun _ _ => r_neqT (s := (al.map (·.b)).getD m []) (t := y.b) rfl rfl) rfl ?_
                      refine d_take (i := 22) rfl (by kernel_rfl) (fun _ _ _ h => h) H (fun _ _ => r_pickf rfl rfl) rfl ?_
                      refine d_done (l' := [_,_,_,_,_,_,_,_,_,_,_,_,_,_,_,_,_,_,_,_,_,_,_,_,_,_,_,_,_,_,_,_,_,_,_,_,_,_,_,_,_,_,_,_,_,_,_,_,_,_,_,_,_,_,_,_,_,_,_,_,_,_,_,_,_,_,_,_,_,_,_,_,_,_,_,_,_,_,_,_,_,_,_,_,_,_,_,_,_,_,_,_,_,_,_,_,_,_,_,_,_,_,_,_,_,_,_,_,_,_,_,_,_,_,_,_,_,_,_,_,_,_,_,_,_,_,_,_,_,_,_,_,_,_,_,_,_,_,_,_,_,_,_,_,_,_,_,_,_,_,_,_,_,_,_,_,_,_,_,_,_,_,_,_,_,_,_,_,_,_]) (by kernel_rfl) rfl ?_
                      refine x_thenNormal ?_
                      refine c_if rfl (fun h166 => ?_) (fun h166 => ?_)
                      · skip
                        exact absurd hbm h166
                      · skip
                        refine wp_skip ?_
                        refine x_blockNormal ?_
                        refine x_thenNormal ?_
                        refine c_region (n := 170) ⟨rfl, rfl⟩ ?_
                        refine s_val (r_add rfl rfl (w_i64 (by omega) (by omega))) ?_
                        refine s_val (r_move rfl) ?_
                        refine c_nil0 (l' := [_,_,_,_,_,_,_,_,_,_,_,_,_,_,_,_,_,_,_,_,_,_,_,_,_,_,_,_,_,_,_,_,_,_,_,_,_,_,_,_,_,_,_,_,_,_,_,_,_,_,_,_,_,_,_,_,_,_,_,_,_,_,_,_,_,_,_,_,_,_,_,_,_,_,_,_,_,_,_,_,_,_,_,_,_,_,_,_,_,_,_,_,_,_,_,_,_,_,_,_,_,_,_,_,_,_,_,_,_,_,_,_,_,_,_,_,_,_,_,_,_,_,_,_,_,_,_,_,_,_,_,_,_,_,_,_,_,_,_,_,_,_,_,_,_,_,_,_,_,_,_,_,_,_,_,_,_,_,_,_,_,_,_,_,_,_,_,_,_,_]) rfl ?_
                        replace H : St w0 [] w (_ :: _ :: _ :: ([_] ++ ([_] ++ (Nb ++ N3)))) := St.drop3 (A := [_,_,_]) H
                        replace H := H.sub (.cons _ (.cons_cons _ (.cons_cons _ (List.Sublist.refl _))))
                        exact ⟨m + 1, _, rfl, ⟨_,_,_,_,_,_,_,_,_,_,_,_,_,_,_,_,_,_,_,_,_,_,_,_,_,_,_,_,_,_,_,_,_,_,_,_,_,_,_,_, rfl, by omega, H⟩, by omega⟩
                  · skip
                    refine wp_exit (x_thenExit (x_thenExit (x_blockHit ?_)))
                    refine x_thenNormal ?_
                    refine c_region (n := 170) ⟨rfl, rfl⟩ ?_
                    refine s_val (r_move rfl) ?_
                    refine s_val (r_assign rfl) ?_
                    refine c_nil0 (l' := [_,_,_,_,_,_,_,_,_,_,_,_,_,_,_,_,_,_,_,_,_,_,_,_,_,_,_,_,_,_,_,_,_,_,_,_,_,_,_,_,_,_,_,_,_,_,_,_,_,_,_,_,_,_,_,_,_,_,_,_,_,_,_,_,_,_,_,_,_,_,_,_,_,_,_,_,_,_,_,_,_,_,_,_,_,_,_,_,_,_,_,_,_,_,_,_,_,_,_,_,_,_,_,_,_,_,_,_,_,_,_,_,_,_,_,_,_,_,_,_,_,_,_,_,_,_,_,_,_,_,_,_,_,_,_,_,_,_,_,_,_,_,_,_,_,_,_,_,_,_,_,_,_,_,_,_,_,_,_,_,_,_,_,_,_,_,_,_,_,_]) rfl ?_
                    refine x_blockNormal ?_
                    refine x_thenNormal ?_
                    refine c_region (n := 170) ⟨rfl, rfl⟩ ?_
                    refine s_val (r_add rfl rfl (w_i64 (by omega) (by omega))) ?_
                    refine s_val (r_move rfl) ?_
                    refine c_nil0 (l' := [_,_,_,_,_,_,_,_,_,_,_,_,_,_,_,_,_,_,_,_,_,_,_,_,_,_,_,_,_,_,_,_,_,_,_,_,_,_,_,_,_,_,_,_,_,_,_,_,_,_,_,_,_,_,_,_,_,_,_,_,_,_,_,_,_,_,_,_,_,_,_,_,_,_,_,_,_,_,_,_,_,_,_,_,_,_,_,_,_,_,_,_,_,_,_,_,_,_,_,_,_,_,_,_,_,_,_,_,_,_,_,_,_,_,_,_,_,_,_,_,_,_,_,_,_,_,_,_,_,_,_,_,_,_,_,_,_,_,_,_,_,_,_,_,_,_,_,_,_,_,_,_,_,_,_,_,_,_,_,_,_,_,_,_,_,_,_,_,_,_]) rfl ?_
                    replace H : St w0 [] w (_ :: _ :: (Na ++ N3)) := H.sub (.cons_cons _ (.cons_cons _ (List.Sublist.append (List.Sublist.refl _) ((List.sublist_append_right _ _).trans (List.sublist_append_right _ _)))))
                    exact ⟨p + 1, _, rfl, ⟨_,_,_,_,_,_,_,_,_,_,_,_,_,_,_,_,_,_,_,_,_,_,_,_,_,_,_,_,_,_,_,_,_,_,_,_,_,_,_,_,_,_,_,_,_,_,_,_,_,_,_,_,_,_,_,_,_,_,_,_,_,_,_,_,_,_,_,_,_,_,_,_,_,_,_,_,_,_,_,_,_,_,_,_,_,_,_,_,_,_,_,_,_,_,_,_,_,_,_,_,_,_,_,_,_,_,_,_,_,_,_,_,_,_,_,_,_,_,_,_,_,_,_,_,_,_,_,_,_,_,_, bl2, al, aa, ca, Na, C, N3, q, rfl, by omega, hO, hLm.toN, hNa, hal, by omega, H⟩, by omega⟩
        · skip
          skip
          refine wp_exit (x_thenExit (x_thenExit (x_blockHit ?_)))
          refine x_thenNormal ?_
          refine c_rseq (n := 170) ⟨rfl, rfl⟩ ?_
          refine s_val (r_assign rfl) ?_
          refine c_nil (l' := [_,_,_,_,_,_,_,_,_,_,_,_,_,_,_,_,_,_,_,_,_,_,_,_,_,_,_,_,_,_,_,_,_,_,_,_,_,_,_,_,_,_,_,_,_,_,_,_,_,_,_,_,_,_,_,_,_,_,_,_,_,_,_,_,_,_,_,_,_,_,_,_,_,_,_,_,_,_,_,_,_,_,_,_,_,_,_,_,_,_,_,_,_,_,_,_,_,_,_,_,_,_,_,_,_,_,_,_,_,_,_,_,_,_,_,_,_,_,_,_,_,_,_,_,_,_,_,_,_,_,_,_,_,_,_,_,_,_,_,_,_,_,_,_,_,_,_,_,_,_,_,_,_,_,_,_,_,_,_,_,_,_,_,_,_,_,_,_,_,_]) rfl ?_
          refine wp_ret ?_
          refine e_ret (res1 rfl rfl) ⟨_, rfl, ?_⟩
          exact ⟨rfl, H.sub (List.nil_sublist _)⟩

end Go.Proofs.Ytbjalofmamoffaa

