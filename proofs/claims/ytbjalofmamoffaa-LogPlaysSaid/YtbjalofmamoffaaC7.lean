import Derived.Test.YtbjalofmamoffaaC6
namespace Go.Proofs.Ytbjalofmamoffaa
open Go Go.Er

set_option maxHeartbeats 4000000 in
set_option maxRecDepth 20000 in
theorem plays_law (sg sz : Int) (hs0 : 0 ≤ sg) (hs1 : sg < 256) (ht0 : 0 ≤ sz) (ht1 : sz < 256) (acts : List DoL) (a : Option Addr) (c : Nat) (hl : acts.length ≤ 9223372036854775807) (hrg : ∀ i, i < acts.length → 0 ≤ (dl acts i).n ∧ (dl acts i).n < 256) (w0 : World) (hr : RRow doC w0 a acts) (hbd : ∀ i, i < acts.length → BRow w0 (dl acts i).body.a (dl acts i).body.b) :
    Calls Try.prog 3 #[.int .u8 sg, .int .u8 sz, .slice a acts.length c] w0 fun e w => ∃ v, e = .returned v ∧ (v = .bool true ∧ St w0 [] w []) := by
  have H := St.refl w0
  refine c_enter (args := [.int .u8 sg, .int .u8 sz, .slice a acts.length c]) (l := [.int .u8 sg, .int .u8 sz, .slice a acts.length c, undef, undef, undef, undef, undef, undef, undef, undef, undef, undef, undef, undef, undef, undef, undef, undef, undef, undef, undef, undef, undef, undef, undef, undef, undef, undef, undef, undef, undef, undef, undef, undef, undef, undef, undef, undef, undef, undef, undef, undef, undef, undef, undef, undef, undef, undef, undef, undef, undef, undef, undef, undef, undef, undef, undef, undef, undef, undef, undef, undef, undef, undef, undef, undef, undef, undef, undef, undef, undef, undef, undef, undef, undef, undef, undef, undef, undef, undef, undef, undef, undef, undef, undef, undef, undef, undef, undef, undef, undef, undef, undef, undef, undef, undef, undef, undef, undef, undef, undef, undef, undef, undef, undef, undef, undef, undef, undef, undef, undef, undef, undef, undef, undef, undef, undef, undef, undef, undef, undef, undef, undef, undef, undef, undef, undef, undef, undef, undef, undef, undef, undef, undef, undef, undef, undef, undef, undef, undef, undef, undef, undef, undef, undef, undef, undef, undef, undef, undef, undef, undef, undef, undef, undef, undef, undef, undef, undef, undef, undef, undef, undef, undef, undef, undef, undef, undef, undef, undef, undef, undef, undef, undef, undef, undef, undef, undef, undef, undef, undef, undef, undef, undef, undef, undef, undef, undef, undef, undef, undef, undef, undef, undef, undef, undef, undef, undef, undef, undef, undef, undef, undef, undef, undef, undef, undef, undef, undef, undef, undef, undef, undef, undef, undef, undef, undef, undef, undef, undef, undef, undef, undef, undef, undef, undef, undef, undef, undef, undef, undef, undef, undef, undef, undef, undef, undef, undef, undef, undef, undef, undef, undef, undef, undef, undef, undef]) Try.func3 Try.ntmps3 rfl rfl ?_
  refine c_rseq (n := 248) ⟨rfl, rfl⟩ ?_
  refine s_val (r_assign rfl) ?_
  refine c_nil (l' := [_, _, _, _, _, _, _, _, _, _, _, _, _, _, _, _, _, _, _, _, _, _, _, _, _, _, _, _, _, _, _, _, _, _, _, _, _, _, _, _, _, _, _, _, _, _, _, _, _, _, _, _, _, _, _, _, _, _, _, _, _, _, _, _, _, _, _, _, _, _, _, _, _, _, _, _, _, _, _, _, _, _, _, _, _, _, _, _, _, _, _, _, _, _, _, _, _, _, _, _, _, _, _, _, _, _, _, _, _, _, _, _, _, _, _, _, _, _, _, _, _, _, _, _, _, _, _, _, _, _, _, _, _, _, _, _, _, _, _, _, _, _, _, _, _, _, _, _, _, _, _, _, _, _, _, _, _, _, _, _, _, _, _, _, _, _, _, _, _, _, _, _, _, _, _, _, _, _, _, _, _, _, _, _, _, _, _, _, _, _, _, _, _, _, _, _, _, _, _, _, _, _, _, _, _, _, _, _, _, _, _, _, _, _, _, _, _, _, _, _, _, _, _, _, _, _, _, _, _, _, _, _, _, _, _, _, _, _, _, _, _, _, _, _, _, _, _, _]) rfl ?_
  refine c_seq ?_
  refine c_rseq (n := 248) ⟨rfl, rfl⟩ ?_
  refine s_call (r_call Try.call8 en) (awake_spec _) ?_
  rintro v w ⟨rfl, HC⟩
  replace H := H.quiet HC
  refine s_val (r_not rfl) ?_
  refine c_nil (l' := [_, _, _, _, _, _, _, _, _, _, _, _, _, _, _, _, _, _, _, _, _, _, _, _, _, _, _, _, _, _, _, _, _, _, _, _, _, _, _, _, _, _, _, _, _, _, _, _, _, _, _, _, _, _, _, _, _, _, _, _, _, _, _, _, _, _, _, _, _, _, _, _, _, _, _, _, _, _, _, _, _, _, _, _, _, _, _, _, _, _, _, _, _, _, _, _, _, _, _, _, _, _, _, _, _, _, _, _, _, _, _, _, _, _, _, _, _, _, _, _, _, _, _, _, _, _, _, _, _, _, _, _, _, _, _, _, _, _, _, _, _, _, _, _, _, _, _, _, _, _, _, _, _, _, _, _, _, _, _, _, _, _, _, _, _, _, _, _, _, _, _, _, _, _, _, _, _, _, _, _, _, _, _, _, _, _, _, _, _, _, _, _, _, _, _, _, _, _, _, _, _, _, _, _, _, _, _, _, _, _, _, _, _, _, _, _, _, _, _, _, _, _, _, _, _, _, _, _, _, _, _, _, _, _, _, _, _, _, _, _, _, _, _, _, _, _, _, _]) rfl ?_
  refine c_iff rfl ?_
  refine wp_skip ?_
  refine x_thenNormal ?_
  refine c_seq ?_
  refine c_rseq (n := 248) ⟨rfl, rfl⟩ ?_
  refine s_val (r_move rfl) ?_
  refine s_call (r_call Try.call9 (ec rfl en)) (great_spec acts a c hl _ (hr.st H)) ?_
  rintro v w (⟨rfl, HC⟩ | ⟨rfl, h30, h120, HC⟩)
  · skip
    replace H := H.quiet HC
    refine s_val (r_eql rfl rfl) ?_
    refine c_nil (l' := [_, _, _, _, _, _, _, _, _, _, _, _, _, _, _, _, _, _, _, _, _, _, _, _, _, _, _, _, _, _, _, _, _, _, _, _, _, _, _, _, _, _, _, _, _, _, _, _, _, _, _, _, _, _, _, _, _, _, _, _, _, _, _, _, _, _, _, _, _, _, _, _, _, _, _, _, _, _, _, _, _, _, _, _, _, _, _, _, _, _, _, _, _, _, _, _, _, _, _, _, _, _, _, _, _, _, _, _, _, _, _, _, _, _, _, _, _, _, _, _, _, _, _, _, _, _, _, _, _, _, _, _, _, _, _, _, _, _, _, _, _, _, _, _, _, _, _, _, _, _, _, _, _, _, _, _, _, _, _, _, _, _, _, _, _, _, _, _, _, _, _, _, _, _, _, _, _, _, _, _, _, _, _, _, _, _, _, _, _, _, _, _, _, _, _, _, _, _, _, _, _, _, _, _, _, _, _, _, _, _, _, _, _, _, _, _, _, _, _, _, _, _, _, _, _, _, _, _, _, _, _, _, _, _, _, _, _, _, _, _, _, _, _, _, _, _, _, _]) rfl ?_
    refine c_if rfl (fun h32 => ?_) (fun h32 => ?_)
    · skip
      skip
      refine c_rseq (n := 248) ⟨rfl, rfl⟩ ?_
      refine s_val (r_assign rfl) ?_
      refine c_nil (l' := [_, _, _, _, _, _, _, _, _, _, _, _, _, _, _, _, _, _, _, _, _, _, _, _, _, _, _, _, _, _, _, _, _, _, _, _, _, _, _, _, _, _, _, _, _, _, _, _, _, _, _, _, _, _, _, _, _, _, _, _, _, _, _, _, _, _, _, _, _, _, _, _, _, _, _, _, _, _, _, _, _, _, _, _, _, _, _, _, _, _, _, _, _, _, _, _, _, _, _, _, _, _, _, _, _, _, _, _, _, _, _, _, _, _, _, _, _, _, _, _, _, _, _, _, _, _, _, _, _, _, _, _, _, _, _, _, _, _, _, _, _, _, _, _, _, _, _, _, _, _, _, _, _, _, _, _, _, _, _, _, _, _, _, _, _, _, _, _, _, _, _, _, _, _, _, _, _, _, _, _, _, _, _, _, _, _, _, _, _, _, _, _, _, _, _, _, _, _, _, _, _, _, _, _, _, _, _, _, _, _, _, _, _, _, _, _, _, _, _, _, _, _, _, _, _, _, _, _, _, _, _, _, _, _, _, _, _, _, _, _, _, _, _, _, _, _, _, _]) rfl ?_
      refine wp_ret (x_thenRet ?_)
      refine e_ret (res1 rfl rfl) ⟨_, rfl, ?_⟩
      exact ⟨rfl, H.sub (List.nil_sublist _)⟩
    · skip
      exfalso; omega
  · skip
    replace H := H.quiet HC
    refine s_val (r_eql rfl rfl) ?_
    refine c_nil (l' := [_, _, _, _, _, _, _, _, _, _, _, _, _, _, _, _, _, _, _, _, _, _, _, _, _, _, _, _, _, _, _, _, _, _, _, _, _, _, _, _, _, _, _, _, _, _, _, _, _, _, _, _, _, _, _, _, _, _, _, _, _, _, _, _, _, _, _, _, _, _, _, _, _, _, _, _, _, _, _, _, _, _, _, _, _, _, _, _, _, _, _, _, _, _, _, _, _, _, _, _, _, _, _, _, _, _, _, _, _, _, _, _, _, _, _, _, _, _, _, _, _, _, _, _, _, _, _, _, _, _, _, _, _, _, _, _, _, _, _, _, _, _, _, _, _, _, _, _, _, _, _, _, _, _, _, _, _, _, _, _, _, _, _, _, _, _, _, _, _, _, _, _, _, _, _, _, _, _, _, _, _, _, _, _, _, _, _, _, _, _, _, _, _, _, _, _, _, _, _, _, _, _, _, _, _, _, _, _, _, _, _, _, _, _, _, _, _, _, _, _, _, _, _, _, _, _, _, _, _, _, _, _, _, _, _, _, _, _, _, _, _, _, _, _, _, _, _, _]) rfl ?_
    refine c_if rfl (fun h32 => ?_) (fun h32 => ?_)
    · skip
      exfalso; omega
    · skip
      skip
      refine wp_skip ?_
      refine x_thenNormal ?_
      refine c_rseq (n := 248) ⟨rfl, rfl⟩ ?_
      refine s_val (r_move rfl) ?_
      refine s_val (r_move rfl) ?_
      refine s_call (r_call Try.call10 (ec rfl (ec rfl en))) (made_spec sg sz hs0 hs1 ht0 ht1 _) ?_
      rintro v w ⟨bl, N, pp, pa, pb, pm, rfl, hL, HC⟩
      obtain ⟨g, hg⟩ : ∃ g, g = 3 + sg % 4 := ⟨_, rfl⟩
      obtain ⟨z, hz⟩ : ∃ z, z = 1 + sz % 4 := ⟨_, rfl⟩
      rw [← hg, ← hz] at hL ⊢
      have hg0 : 3 ≤ g := by omega
      have hg1 : g ≤ 6 := by omega
      have hz0 : 1 ≤ z := by omega
      have hz1 : z ≤ 4 := by omega
      have hgz := gz_rng (g := g) (z := z) (by omega) (by omega) (by omega) (by omega)
      have hgz2 := gz_small (g := g) (z := z) hg1 (by omega) hz1
      replace H : St w0 [] w N := by have h := H.call0 HC; rwa [List.append_nil] at h
      refine s_val (r_move rfl) ?_
      refine s_val (r_extract rfl rfl) ?_
      refine s_val (r_extract rfl rfl) ?_
      refine s_new (m_alloc (cs := (rigC none none none none none 0 0)) H Try.zeroValue32 rfl) ?_
      intro w b7 H
      refine s_st (m_storen H 0 7 Try.sizeOf32 rfl rfl (by first | exact (kC_length _) | exact (hC_length _) | exact (shC_length _ _) | exact (wC_length _) | exact (sdC_length _ _) | exact (xrL_length _ _ _) | exact (xrC_length _ _ _ _ _ _ _) | exact (rigC_length _ _ _ _ _ _ _) | exact (doC_length _)) (by first | exact (kC_one _) | exact (hC_one _) | exact (shC_one _ _) | exact (elW.one _) | exact (sdC_one _ _) | exact (xrL_one _ _ _) | exact (xrC_one _ _ _ _ _ _ _) | exact (rigC_one _ _ _ _ _ _ _) | exact (elDo.one _)) rfl (by first | exact (by rw [kC_length]; omega) | exact (by rw [hC_length]; omega) | exact (by rw [wC_length]; omega) | exact (by show _ ≤ 5; omega) | exact (by show _ ≤ 7; omega) | exact (by show _ ≤ 3; omega)) rigC_sp) (L' := (_ :: _)) rfl ?_
      intro w H
      refine s_val (r_assign rfl) ?_
      refine c_nil (l' := [_, _, _, _, _, _, _, _, _, _, _, _, _, _, _, _, _, _, _, _, _, _, _, _, _, _, _, _, _, _, _, _, _, _, _, _, _, _, _, _, _, _, _, _, _, _, _, _, _, _, _, _, _, _, _, _, _, _, _, _, _, _, _, _, _, _, _, _, _, _, _, _, _, _, _, _, _, _, _, _, _, _, _, _, _, _, _, _, _, _, _, _, _, _, _, _, _, _, _, _, _, _, _, _, _, _, _, _, _, _, _, _, _, _, _, _, _, _, _, _, _, _, _, _, _, _, _, _, _, _, _, _, _, _, _, _, _, _, _, _, _, _, _, _, _, _, _, _, _, _, _, _, _, _, _, _, _, _, _, _, _, _, _, _, _, _, _, _, _, _, _, _, _, _, _, _, _, _, _, _, _, _, _, _, _, _, _, _, _, _, _, _, _, _, _, _, _, _, _, _, _, _, _, _, _, _, _, _, _, _, _, _, _, _, _, _, _, _, _, _, _, _, _, _, _, _, _, _, _, _, _, _, _, _, _, _, _, _, _, _, _, _, _, _, _, _, _, _]) rfl ?_
      refine c_seq ?_
      refine c_rseq (n := 248) ⟨rfl, rfl⟩ ?_
      refine s_val (r_move rfl) ?_
      refine s_val (r_eql rfl rfl) ?_
      refine c_nil (l' := [_, _, _, _, _, _, _, _, _, _, _, _, _, _, _, _, _, _, _, _, _, _, _, _, _, _, _, _, _, _, _, _, _, _, _, _, _, _, _, _, _, _, _, _, _, _, _, _, _, _, _, _, _, _, _, _, _, _, _, _, _, _, _, _, _, _, _, _, _, _, _, _, _, _, _, _, _, _, _, _, _, _, _, _, _, _, _, _, _, _, _, _, _, _, _, _, _, _, _, _, _, _, _, _, _, _, _, _, _, _, _, _, _, _, _, _, _, _, _, _, _, _, _, _, _, _, _, _, _, _, _, _, _, _, _, _, _, _, _, _, _, _, _, _, _, _, _, _, _, _, _, _, _, _, _, _, _, _, _, _, _, _, _, _, _, _, _, _, _, _, _, _, _, _, _, _, _, _, _, _, _, _, _, _, _, _, _, _, _, _, _, _, _, _, _, _, _, _, _, _, _, _, _, _, _, _, _, _, _, _, _, _, _, _, _, _, _, _, _, _, _, _, _, _, _, _, _, _, _, _, _, _, _, _, _, _, _, _, _, _, _, _, _, _, _, _, _, _]) rfl ?_
      refine c_if rfl (fun h40 => ?_) (fun h40 => ?_)
      · skip
        exfalso; omega
      · skip
        refine wp_skip ?_
        refine x_thenNormal ?_
        refine c_rseq (n := 248) ⟨rfl, rfl⟩ ?_
        refine s_val (r_fieldAddr (k := 5) Try.runUnderlying32 rfl Try.sizeOf30 (by decide) rfl rfl) ?_
        refine s_val (r_fieldAddr (k := 0) Try.runUnderlying30 rfl Try.sizeOf3 (by decide) rfl rfl) ?_
        refine s_val (r_load1 Try.isAgg3 rfl (H.at 0 rfl) rfl) ?_
        refine s_val (r_fieldAddr (k := 5) Try.runUnderlying32 rfl Try.sizeOf30 (by decide) rfl rfl) ?_
        refine s_val (r_fieldAddr (k := 1) Try.runUnderlying30 rfl Try.sizeOf3 (by decide) rfl rfl) ?_
        refine s_val (r_load1 Try.isAgg3 rfl (H.at 0 rfl) rfl) ?_
        refine s_call (r_call Try.call11 (ec rfl (ec rfl en))) (xnew_spec g z hg0 (by omega) _) ?_
        rintro v w ⟨ax, cx, Nx, rfl, hNx, HC⟩
        have hFn := hL.F
        have hgln := hFn.gl
        obtain ⟨bu, sp, rfl, rfl, hc1, hc2⟩ := hNx.own1 (by have := hFn.g0; omega)
        replace H := H.call0 HC
        refine s_new (m_alloc (cs := (xrC 0 0 0 0 none 0 0)) H Try.zeroValue38 rfl) ?_
        intro w b9 H
        refine s_st (m_storen H 0 5 Try.sizeOf38 rfl rfl (by first | exact (kC_length _) | exact (hC_length _) | exact (shC_length _ _) | exact (wC_length _) | exact (sdC_length _ _) | exact (xrL_length _ _ _) | exact (xrC_length _ _ _ _ _ _ _) | exact (rigC_length _ _ _ _ _ _ _) | exact (doC_length _)) (by first | exact (kC_one _) | exact (hC_one _) | exact (shC_one _ _) | exact (elW.one _) | exact (sdC_one _ _) | exact (xrL_one _ _ _) | exact (xrC_one _ _ _ _ _ _ _) | exact (rigC_one _ _ _ _ _ _ _) | exact (elDo.one _)) rfl (by first | exact (by rw [kC_length]; omega) | exact (by rw [hC_length]; omega) | exact (by rw [wC_length]; omega) | exact (by show _ ≤ 5; omega) | exact (by show _ ≤ 7; omega) | exact (by show _ ≤ 3; omega)) (xrL_sp0 _ _ _ _ _)) (L' := (_ :: _ :: _ :: _)) rfl ?_
        intro w H
        refine c_nil (l' := [_, _, _, _, _, _, _, _, _, _, _, _, _, _, _, _, _, _, _, _, _, _, _, _, _, _, _, _, _, _, _, _, _, _, _, _, _, _, _, _, _, _, _, _, _, _, _, _, _, _, _, _, _, _, _, _, _, _, _, _, _, _, _, _, _, _, _, _, _, _, _, _, _, _, _, _, _, _, _, _, _, _, _, _, _, _, _, _, _, _, _, _, _, _, _, _, _, _, _, _, _, _, _, _, _, _, _, _, _, _, _, _, _, _, _, _, _, _, _, _, _, _, _, _, _, _, _, _, _, _, _, _, _, _, _, _, _, _, _, _, _, _, _, _, _, _, _, _, _, _, _, _, _, _, _, _, _, _, _, _, _, _, _, _, _, _, _, _, _, _, _, _, _, _, _, _, _, _, _, _, _, _, _, _, _, _, _, _, _, _, _, _, _, _, _, _, _, _, _, _, _, _, _, _, _, _, _, _, _, _, _, _, _, _, _, _, _, _, _, _, _, _, _, _, _, _, _, _, _, _, _, _, _, _, _, _, _, _, _, _, _, _, _, _, _, _, _, _]) rfl ?_
        refine c_rseq (n := 248) ⟨rfl, rfl⟩ ?_
        refine s_new (m_alloc (cs := (bdR (List.replicate 40 bdZ))) H Try.zeroValue41 rfl) ?_
        intro w b10 H
        refine c_nil (l' := [_, _, _, _, _, _, _, _, _, _, _, _, _, _, _, _, _, _, _, _, _, _, _, _, _, _, _, _, _, _, _, _, _, _, _, _, _, _, _, _, _, _, _, _, _, _, _, _, _, _, _, _, _, _, _, _, _, _, _, _, _, _, _, _, _, _, _, _, _, _, _, _, _, _, _, _, _, _, _, _, _, _, _, _, _, _, _, _, _, _, _, _, _, _, _, _, _, _, _, _, _, _, _, _, _, _, _, _, _, _, _, _, _, _, _, _, _, _, _, _, _, _, _, _, _, _, _, _, _, _, _, _, _, _, _, _, _, _, _, _, _, _, _, _, _, _, _, _, _, _, _, _, _, _, _, _, _, _, _, _, _, _, _, _, _, _, _, _, _, _, _, _, _, _, _, _, _, _, _, _, _, _, _, _, _, _, _, _, _, _, _, _, _, _, _, _, _, _, _, _, _, _, _, _, _, _, _, _, _, _, _, _, _, _, _, _, _, _, _, _, _, _, _, _, _, _, _, _, _, _, _, _, _, _, _, _, _, _, _, _, _, _, _, _, _, _, _, _]) rfl ?_
        refine c_rseq (n := 248) ⟨rfl, rfl⟩ ?_
        refine s_new (m_alloc (cs := (uC (List.replicate 40 0))) H Try.zeroValue42 rfl) ?_
        intro w b11 H
        refine c_nil (l' := [_, _, _, _, _, _, _, _, _, _, _, _, _, _, _, _, _, _, _, _, _, _, _, _, _, _, _, _, _, _, _, _, _, _, _, _, _, _, _, _, _, _, _, _, _, _, _, _, _, _, _, _, _, _, _, _, _, _, _, _, _, _, _, _, _, _, _, _, _, _, _, _, _, _, _, _, _, _, _, _, _, _, _, _, _, _, _, _, _, _, _, _, _, _, _, _, _, _, _, _, _, _, _, _, _, _, _, _, _, _, _, _, _, _, _, _, _, _, _, _, _, _, _, _, _, _, _, _, _, _, _, _, _, _, _, _, _, _, _, _, _, _, _, _, _, _, _, _, _, _, _, _, _, _, _, _, _, _, _, _, _, _, _, _, _, _, _, _, _, _, _, _, _, _, _, _, _, _, _, _, _, _, _, _, _, _, _, _, _, _, _, _, _, _, _, _, _, _, _, _, _, _, _, _, _, _, _, _, _, _, _, _, _, _, _, _, _, _, _, _, _, _, _, _, _, _, _, _, _, _, _, _, _, _, _, _, _, _, _, _, _, _, _, _, _, _, _, _]) rfl ?_
        refine c_seq ?_
        refine c_rseq (n := 248) ⟨rfl, rfl⟩ ?_
        refine s_val (r_move rfl) ?_
        refine s_val (r_lens Try.runUnderlying22 (ec rfl en)) ?_
        refine s_val (r_move rfl) ?_
        refine c_nil (l' := [_, _, _, _, _, _, _, _, _, _, _, _, _, _, _, _, _, _, _, _, _, _, _, _, _, _, _, _, _, _, _, _, _, _, _, _, _, _, _, _, _, _, _, _, _, _, _, _, _, _, _, _, _, _, _, _, _, _, _, _, _, _, _, _, _, _, _, _, _, _, _, _, _, _, _, _, _, _, _, _, _, _, _, _, _, _, _, _, _, _, _, _, _, _, _, _, _, _, _, _, _, _, _, _, _, _, _, _, _, _, _, _, _, _, _, _, _, _, _, _, _, _, _, _, _, _, _, _, _, _, _, _, _, _, _, _, _, _, _, _, _, _, _, _, _, _, _, _, _, _, _, _, _, _, _, _, _, _, _, _, _, _, _, _, _, _, _, _, _, _, _, _, _, _, _, _, _, _, _, _, _, _, _, _, _, _, _, _, _, _, _, _, _, _, _, _, _, _, _, _, _, _, _, _, _, _, _, _, _, _, _, _, _, _, _, _, _, _, _, _, _, _, _, _, _, _, _, _, _, _, _, _, _, _, _, _, _, _, _, _, _, _, _, _, _, _, _, _]) rfl ?_
        refine wp_block ?_
        refine c_loop (fun (l0 : List Value) (i : Nat) (l : List Value) (w : World) => ∃ (u6 u13 u14 u15 u16 u17 u18 u19 u20 u21 u51 u52 u53 u54 u55 u56 u57 u58 u59 u60 u61 u62 u63 u64 u65 u66 u67 u68 u69 u70 u71 u72 u73 u74 u75 u76 u77 u78 u79 u80 u81 u82 u83 u84 u85 u86 u87 u88 u89 u90 u91 u92 u93 u94 u95 u96 u97 u98 u99 u100 u101 u102 u103 u104 u105 u106 u107 u108 u109 u110 u111 u112 u113 u114 u115 u116 u117 u118 u119 u120 u121 u122 u123 u124 u125 u126 u127 u128 u129 u130 u131 u132 u133 u134 u135 u136 u137 u138 u139 u140 u141 u142 u143 u144 u145 u146 u147 u148 u149 u150 u151 u152 u153 u154 u155 u156 u157 u158 u159 u160 u161 u162 u163 u164 u165 u166 u167 u168 u169 u170 u171 u172 u173 u174 u175 u176 u177 u178 : Value) (gs : List Int) (bs : List Bd) (x : LS) (bu : Nat) (sp : List Value) (cx : Nat) (N : List (Nat × Obj)), l = ovr l0 [N_, N_, N_, N_, N_, N_, Y_ u6, N_, N_, N_, N_, N_, N_, Y_ u13, Y_ u14, Y_ u15, Y_ u16, Y_ u17, Y_ u18, Y_ u19, Y_ u20, Y_ u21, N_, N_, N_, N_, N_, N_, N_, N_, N_, N_, N_, N_, N_, N_, N_, N_, N_, N_, N_, N_, N_, N_, N_, N_, N_, N_, N_, N_, Y_ (.int .i64 i), Y_ u51, Y_ u52, Y_ u53, Y_ u54, Y_ u55, Y_ u56, Y_ u57, Y_ u58, Y_ u59, Y_ u60, Y_ u61, Y_ u62, Y_ u63, Y_ u64, Y_ u65, Y_ u66, Y_ u67, Y_ u68, Y_ u69, Y_ u70, Y_ u71, Y_ u72, Y_ u73, Y_ u74, Y_ u75, Y_ u76, Y_ u77, Y_ u78, Y_ u79, Y_ u80, Y_ u81, Y_ u82, Y_ u83, Y_ u84, Y_ u85, Y_ u86, Y_ u87, Y_ u88, Y_ u89, Y_ u90, Y_ u91, Y_ u92, Y_ u93, Y_ u94, Y_ u95, Y_ u96, Y_ u97, Y_ u98, Y_ u99, Y_ u100, Y_ u101, Y_ u102, Y_ u103, Y_ u104, Y_ u105, Y_ u106, Y_ u107, Y_ u108, Y_ u109, Y_ u110, Y_ u111, Y_ u112, Y_ u113, Y_ u114, Y_ u115, Y_ u116, Y_ u117, Y_ u118, Y_ u119, Y_ u120, Y_ u121, Y_ u122, Y_ u123, Y_ u124, Y_ u125, Y_ u126, Y_ u127, Y_ u128, Y_ u129, Y_ u130, Y_ u131, Y_ u132, Y_ u133, Y_ u134, Y_ u135, Y_ u136, Y_ u137, Y_ u138, Y_ u139, Y_ u140, Y_ u141, Y_ u142, Y_ u143, Y_ u144, Y_ u145, Y_ u146, Y_ u147, Y_ u148, Y_ u149, Y_ u150, Y_ u151, Y_ u152, Y_ u153, Y_ u154, Y_ u155, Y_ u156, Y_ u157, Y_ u158, Y_ u159, Y_ u160, Y_ u161, Y_ u162, Y_ u163, Y_ u164, Y_ u165, Y_ u166, Y_ u167, Y_ u168, Y_ u169, Y_ u170, Y_ u171, Y_ u172, Y_ u173, Y_ u174, Y_ u175, Y_ u176, Y_ u177, Y_ u178] ∧ i ≤ acts.length ∧ LogN 150 51 89 72 bl x i N ∧ (x.gens.length ≤ cx ∧ cx ≤ x.gens.length + sp.length) ∧ (x.g = g ∧ x.z = z ∧ x.known ≤ (i : Int)) ∧ (gs.length = 40 ∧ bs.length = 40) ∧ (∀ n, PL x.C x.known gs bs n) ∧ (∀ n, BRow w0 (bs.getD n bdZ).a (bs.getD n bdZ).b) ∧ St w0 [] w ((b11, .cells (uC gs).toArray 42 (0, 0)) :: (b10, .cells (bdR bs).toArray 41 (0, 0)) :: (b9, .cells (xrL x (some ⟨bu, 0, none⟩) cx).toArray 38 (0, 0)) :: (b7, .cells (rigC pp pa pb pm (some ⟨bl, 0, none⟩) g z).toArray 32 (0, 0)) :: (bu, .cells (uC x.gens ++ sp).toArray 36 (0, 0)) :: N)) (fun (i : Nat) => acts.length - i) 0 ⟨_, _, _, _, _, _, _, _, _, _, _, _, _, _, _, _, _, _, _, _, _, _, _, _, _, _, _, _, _, _, _, _, _, _, _, _, _, _, _, _, _, _, _, _, _, _, _, _, _, _, _, _, _, _, _, _, _, _, _, _, _, _, _, _, _, _, _, _, _, _, _, _, _, _, _, _, _, _, _, _, _, _, _, _, _, _, _, _, _, _, _, _, _, _, _, _, _, _, _, _, _, _, _, _, _, _, _, _, _, _, _, _, _, _, _, _, _, _, _, _, _, _, _, _, _, _, _, _, _, _, _, _, _, _, _, _, _, _, List.replicate 40 0, List.replicate 40 bdZ, newL g z, bu, sp, cx, N, rfl, by omega, hL, ⟨hc1, hc2⟩, ⟨rfl, rfl, by show (0 : Int) ≤ _; omega⟩, ⟨List.length_replicate, List.length_replicate⟩, (fun n => PL.newL g z _ n), (fun n => brow_new n), (H.swp 3 rfl)⟩ ?_
        intro i l w ⟨u6, u13, u14, u15, u16, u17, u18, u19, u20, u21, u51, u52, u53, u54, u55, u56, u57, u58, u59, u60, u61, u62, u63, u64, u65, u66, u67, u68, u69, u70, u71, u72, u73, u74, u75, u76, u77, u78, u79, u80, u81, u82, u83, u84, u85, u86, u87, u88, u89, u90, u91, u92, u93, u94, u95, u96, u97, u98, u99, u100, u101, u102, u103, u104, u105, u106, u107, u108, u109, u110, u111, u112, u113, u114, u115, u116, u117, u118, u119, u120, u121, u122, u123, u124, u125, u126, u127, u128, u129, u130, u131, u132, u133, u134, u135, u136, u137, u138, u139, u140, u141, u142, u143, u144, u145, u146, u147, u148, u149, u150, u151, u152, u153, u154, u155, u156, u157, u158, u159, u160, u161, u162, u163, u164, u165, u166, u167, u168, u169, u170, u171, u172, u173, u174, u175, u176, u177, u178, gs, bs, x, bu, sp, cx, N, hl, hi, hL, hcx, hx, hln, hPL, hbr, H⟩
        obtain rfl := hl.trans (rfl : _ = [_, _, _, _, _, _, _, _, _, _, _, _, _, _, _, _, _, _, _, _, _, _, _, _, _, _, _, _, _, _, _, _, _, _, _, _, _, _, _, _, _, _, _, _, _, _, _, _, _, _, _, _, _, _, _, _, _, _, _, _, _, _, _, _, _, _, _, _, _, _, _, _, _, _, _, _, _, _, _, _, _, _, _, _, _, _, _, _, _, _, _, _, _, _, _, _, _, _, _, _, _, _, _, _, _, _, _, _, _, _, _, _, _, _, _, _, _, _, _, _, _, _, _, _, _, _, _, _, _, _, _, _, _, _, _, _, _, _, _, _, _, _, _, _, _, _, _, _, _, _, _, _, _, _, _, _, _, _, _, _, _, _, _, _, _, _, _, _, _, _, _, _, _, _, _, _, _, _, _, _, _, _, _, _, _, _, _, _, _, _, _, _, _, _, _, _, _, _, _, _, _, _, _, _, _, _, _, _, _, _, _, _, _, _, _, _, _, _, _, _, _, _, _, _, _, _, _, _, _, _, _, _, _, _, _, _, _, _, _, _, _, _, _, _, _, _, _, _])
        clear hl
        obtain ⟨hxg, hxz, hxk⟩ := hx
        obtain ⟨hl1, hl2⟩ := hln
        obtain ⟨hc1, hc2⟩ := hcx
        have hF : LogF x := hL.F
        have hgl := hF.gl
        have hkx := hF.k
        have hhx := hF.h
        refine c_rseq (n := 248) ⟨rfl, rfl⟩ ?_
        refine s_val (r_lss rfl rfl) ?_
        refine c_nil (l' := [_, _, _, _, _, _, _, _, _, _, _, _, _, _, _, _, _, _, _, _, _, _, _, _, _, _, _, _, _, _, _, _, _, _, _, _, _, _, _, _, _, _, _, _, _, _, _, _, _, _, _, _, _, _, _, _, _, _, _, _, _, _, _, _, _, _, _, _, _, _, _, _, _, _, _, _, _, _, _, _, _, _, _, _, _, _, _, _, _, _, _, _, _, _, _, _, _, _, _, _, _, _, _, _, _, _, _, _, _, _, _, _, _, _, _, _, _, _, _, _, _, _, _, _, _, _, _, _, _, _, _, _, _, _, _, _, _, _, _, _, _, _, _, _, _, _, _, _, _, _, _, _, _, _, _, _, _, _, _, _, _, _, _, _, _, _, _, _, _, _, _, _, _, _, _, _, _, _, _, _, _, _, _, _, _, _, _, _, _, _, _, _, _, _, _, _, _, _, _, _, _, _, _, _, _, _, _, _, _, _, _, _, _, _, _, _, _, _, _, _, _, _, _, _, _, _, _, _, _, _, _, _, _, _, _, _, _, _, _, _, _, _, _, _, _, _, _, _]) rfl ?_
        refine c_seq ?_
        refine c_if rfl (fun h51 => ?_) (fun h51 => ?_)
        · skip
          obtain ⟨b, off, pre, post, T, fz, rfl, hb0, hp⟩ := hr (by omega)
          refine wp_skip ?_
          refine x_thenNormal ?_
          refine c_seq ?_
          refine wp_block ?_
          refine c_rseq (n := 248) ⟨rfl, rfl⟩ ?_
          refine s_val (r_indexAddrS Try.runUnderlying22 Try.sizeOf44 rfl rfl (by omega) (by omega)) ?_
          refine s_val (r_loadn Try.isAgg44 Try.sizeOf44 rfl (H.rd0 hb0) (row_td elDo pre post (off := off) (i := i) hp (dl_get (by omega)) (by omega)) (doC_length _)) ?_
          refine s_new (m_alloc (cs := (doC doZ)) H Try.zeroValue44 rfl) ?_
          intro w b13 H
          refine s_st (m_storen H 0 3 Try.sizeOf44 rfl rfl (by first | exact (kC_length _) | exact (hC_length _) | exact (shC_length _ _) | exact (wC_length _) | exact (sdC_length _ _) | exact (xrL_length _ _ _) | exact (xrC_length _ _ _ _ _ _ _) | exact (rigC_length _ _ _ _ _ _ _) | exact (doC_length _)) (by first | exact (kC_one _) | exact (hC_one _) | exact (shC_one _ _) | exact (elW.one _) | exact (sdC_one _ _) | exact (xrL_one _ _ _) | exact (xrC_one _ _ _ _ _ _ _) | exact (rigC_one _ _ _ _ _ _ _) | exact (elDo.one _)) rfl (by first | exact (by rw [kC_length]; omega) | exact (by rw [hC_length]; omega) | exact (by rw [wC_length]; omega) | exact (by show _ ≤ 5; omega) | exact (by show _ ≤ 7; omega) | exact (by show _ ≤ 3; omega)) (doC_sp _ _)) (L' := (_ :: _ :: _ :: _ :: _ :: _ :: _)) rfl ?_
          intro w H
          refine c_nil (l' := [_, _, _, _, _, _, _, _, _, _, _, _, _, _, _, _, _, _, _, _, _, _, _, _, _, _, _, _, _, _, _, _, _, _, _, _, _, _, _, _, _, _, _, _, _, _, _, _, _, _, _, _, _, _, _, _, _, _, _, _, _, _, _, _, _, _, _, _, _, _, _, _, _, _, _, _, _, _, _, _, _, _, _, _, _, _, _, _, _, _, _, _, _, _, _, _, _, _, _, _, _, _, _, _, _, _, _, _, _, _, _, _, _, _, _, _, _, _, _, _, _, _, _, _, _, _, _, _, _, _, _, _, _, _, _, _, _, _, _, _, _, _, _, _, _, _, _, _, _, _, _, _, _, _, _, _, _, _, _, _, _, _, _, _, _, _, _, _, _, _, _, _, _, _, _, _, _, _, _, _, _, _, _, _, _, _, _, _, _, _, _, _, _, _, _, _, _, _, _, _, _, _, _, _, _, _, _, _, _, _, _, _, _, _, _, _, _, _, _, _, _, _, _, _, _, _, _, _, _, _, _, _, _, _, _, _, _, _, _, _, _, _, _, _, _, _, _, _]) rfl ?_
          refine c_seq ?_
          refine c_rseq (n := 248) ⟨rfl, rfl⟩ ?_
          refine s_val (r_fieldAddr (k := 0) Try.runUnderlying44 rfl Try.sizeOf5 (by decide) rfl rfl) ?_
          refine s_val (r_load1 Try.isAgg5 rfl (H.at 0 rfl) rfl) ?_
          refine c_nil (l' := [_, _, _, _, _, _, _, _, _, _, _, _, _, _, _, _, _, _, _, _, _, _, _, _, _, _, _, _, _, _, _, _, _, _, _, _, _, _, _, _, _, _, _, _, _, _, _, _, _, _, _, _, _, _, _, _, _, _, _, _, _, _, _, _, _, _, _, _, _, _, _, _, _, _, _, _, _, _, _, _, _, _, _, _, _, _, _, _, _, _, _, _, _, _, _, _, _, _, _, _, _, _, _, _, _, _, _, _, _, _, _, _, _, _, _, _, _, _, _, _, _, _, _, _, _, _, _, _, _, _, _, _, _, _, _, _, _, _, _, _, _, _, _, _, _, _, _, _, _, _, _, _, _, _, _, _, _, _, _, _, _, _, _, _, _, _, _, _, _, _, _, _, _, _, _, _, _, _, _, _, _, _, _, _, _, _, _, _, _, _, _, _, _, _, _, _, _, _, _, _, _, _, _, _, _, _, _, _, _, _, _, _, _, _, _, _, _, _, _, _, _, _, _, _, _, _, _, _, _, _, _, _, _, _, _, _, _, _, _, _, _, _, _, _, _, _, _, _]) rfl ?_
          refine wp_block ?_
          refine c_rseq (n := 248) ⟨rfl, rfl⟩ ?_
          refine s_val (r_eql rfl rfl) ?_
          refine s_val (r_assign rfl) ?_
          refine c_nil (l' := [_, _, _, _, _, _, _, _, _, _, _, _, _, _, _, _, _, _, _, _, _, _, _, _, _, _, _, _, _, _, _, _, _, _, _, _, _, _, _, _, _, _, _, _, _, _, _, _, _, _, _, _, _, _, _, _, _, _, _, _, _, _, _, _, _, _, _, _, _, _, _, _, _, _, _, _, _, _, _, _, _, _, _, _, _, _, _, _, _, _, _, _, _, _, _, _, _, _, _, _, _, _, _, _, _, _, _, _, _, _, _, _, _, _, _, _, _, _, _, _, _, _, _, _, _, _, _, _, _, _, _, _, _, _, _, _, _, _, _, _, _, _, _, _, _, _, _, _, _, _, _, _, _, _, _, _, _, _, _, _, _, _, _, _, _, _, _, _, _, _, _, _, _, _, _, _, _, _, _, _, _, _, _, _, _, _, _, _, _, _, _, _, _, _, _, _, _, _, _, _, _, _, _, _, _, _, _, _, _, _, _, _, _, _, _, _, _, _, _, _, _, _, _, _, _, _, _, _, _, _, _, _, _, _, _, _, _, _, _, _, _, _, _, _, _, _, _, _]) rfl ?_
          refine c_if rfl (fun h122 => ?_) (fun h122 => ?_)
          · skip
            refine c_rseq (n := 248) ⟨rfl, rfl⟩ ?_
            refine s_val (r_fieldAddr (k := 1) Try.runUnderlying44 rfl Try.sizeOf5 (by decide) rfl rfl) ?_
            refine s_val (r_load1 Try.isAgg5 rfl (H.at 0 rfl) rfl) ?_
            have hni := hrg i (by omega)
            refine s_val (r_conv Try.runUnderlying5 Try.runUnderlying3 rfl (w_i64 (by omega) (by omega))) ?_
            refine s_val (r_fieldAddr (k := 5) Try.runUnderlying32 rfl Try.sizeOf30 (by decide) rfl rfl) ?_
            refine s_val (r_fieldAddr (k := 0) Try.runUnderlying30 rfl Try.sizeOf3 (by decide) rfl rfl) ?_
            refine s_val (r_load1 Try.isAgg3 rfl (H.at 4 rfl) rfl) ?_
            refine s_val (r_add rfl rfl (w_i64 (by omega) (by omega))) ?_
            have hmd0 := Int.emod_nonneg (dl acts i).n (show g + 2 ≠ 0 by omega)
            have hmd1 := Int.emod_lt_of_pos (dl acts i).n (show 0 < g + 2 by omega)
            obtain ⟨k, hk⟩ : ∃ k, (dl acts i).n % (g + 2) - 1 = k := ⟨_, rfl⟩
            refine s_val (r_rem rfl rfl (by omega) (Int.tmod_eq_emod_of_nonneg (by omega))) ?_
            refine s_val (r_sub rfl rfl (w_i64e (r := k) hk (by omega) (by omega))) ?_
            refine s_val (r_assign rfl) ?_
            refine c_nil (l' := [_, _, _, _, _, _, _, _, _, _, _, _, _, _, _, _, _, _, _, _, _, _, _, _, _, _, _, _, _, _, _, _, _, _, _, _, _, _, _, _, _, _, _, _, _, _, _, _, _, _, _, _, _, _, _, _, _, _, _, _, _, _, _, _, _, _, _, _, _, _, _, _, _, _, _, _, _, _, _, _, _, _, _, _, _, _, _, _, _, _, _, _, _, _, _, _, _, _, _, _, _, _, _, _, _, _, _, _, _, _, _, _, _, _, _, _, _, _, _, _, _, _, _, _, _, _, _, _, _, _, _, _, _, _, _, _, _, _, _, _, _, _, _, _, _, _, _, _, _, _, _, _, _, _, _, _, _, _, _, _, _, _, _, _, _, _, _, _, _, _, _, _, _, _, _, _, _, _, _, _, _, _, _, _, _, _, _, _, _, _, _, _, _, _, _, _, _, _, _, _, _, _, _, _, _, _, _, _, _, _, _, _, _, _, _, _, _, _, _, _, _, _, _, _, _, _, _, _, _, _, _, _, _, _, _, _, _, _, _, _, _, _, _, _, _, _, _, _]) rfl ?_
            refine c_rseq (n := 248) ⟨rfl, rfl⟩ ?_
            refine s_val (r_assign rfl) ?_
            refine c_nil (l' := [_, _, _, _, _, _, _, _, _, _, _, _, _, _, _, _, _, _, _, _, _, _, _, _, _, _, _, _, _, _, _, _, _, _, _, _, _, _, _, _, _, _, _, _, _, _, _, _, _, _, _, _, _, _, _, _, _, _, _, _, _, _, _, _, _, _, _, _, _, _, _, _, _, _, _, _, _, _, _, _, _, _, _, _, _, _, _, _, _, _, _, _, _, _, _, _, _, _, _, _, _, _, _, _, _, _, _, _, _, _, _, _, _, _, _, _, _, _, _, _, _, _, _, _, _, _, _, _, _, _, _, _, _, _, _, _, _, _, _, _, _, _, _, _, _, _, _, _, _, _, _, _, _, _, _, _, _, _, _, _, _, _, _, _, _, _, _, _, _, _, _, _, _, _, _, _, _, _, _, _, _, _, _, _, _, _, _, _, _, _, _, _, _, _, _, _, _, _, _, _, _, _, _, _, _, _, _, _, _, _, _, _, _, _, _, _, _, _, _, _, _, _, _, _, _, _, _, _, _, _, _, _, _, _, _, _, _, _, _, _, _, _, _, _, _, _, _, _]) rfl ?_
            refine c_seq ?_
            refine wp_block ?_
            refine c_rseq (n := 248) ⟨rfl, rfl⟩ ?_
            refine s_val (r_move rfl) ?_
            refine s_test (r_lss rfl rfl) (fun h141 => ?_) (fun h141 => ?_)
            · skip
              refine s_val (r_move rfl) ?_
              refine g_no rfl rfl (by decide) ?_
              refine g_no rfl rfl (by decide) ?_
              refine g_no rfl rfl (by decide) ?_
              refine g_no rfl rfl (by decide) ?_
              refine g_no rfl rfl (by decide) ?_
              refine s_val (r_pickt rfl rfl) ?_
              refine s_val (r_assign rfl) ?_
              refine c_nil (l' := [_, _, _, _, _, _, _, _, _, _, _, _, _, _, _, _, _, _, _, _, _, _, _, _, _, _, _, _, _, _, _, _, _, _, _, _, _, _, _, _, _, _, _, _, _, _, _, _, _, _, _, _, _, _, _, _, _, _, _, _, _, _, _, _, _, _, _, _, _, _, _, _, _, _, _, _, _, _, _, _, _, _, _, _, _, _, _, _, _, _, _, _, _, _, _, _, _, _, _, _, _, _, _, _, _, _, _, _, _, _, _, _, _, _, _, _, _, _, _, _, _, _, _, _, _, _, _, _, _, _, _, _, _, _, _, _, _, _, _, _, _, _, _, _, _, _, _, _, _, _, _, _, _, _, _, _, _, _, _, _, _, _, _, _, _, _, _, _, _, _, _, _, _, _, _, _, _, _, _, _, _, _, _, _, _, _, _, _, _, _, _, _, _, _, _, _, _, _, _, _, _, _, _, _, _, _, _, _, _, _, _, _, _, _, _, _, _, _, _, _, _, _, _, _, _, _, _, _, _, _, _, _, _, _, _, _, _, _, _, _, _, _, _, _, _, _, _, _]) rfl ?_
              refine c_ift rfl ?_
              refine c_region (n := 248) ⟨rfl, rfl⟩ ?_
              refine s_val (r_assign rfl) ?_
              refine c_nil0 (l' := [_, _, _, _, _, _, _, _, _, _, _, _, _, _, _, _, _, _, _, _, _, _, _, _, _, _, _, _, _, _, _, _, _, _, _, _, _, _, _, _, _, _, _, _, _, _, _, _, _, _, _, _, _, _, _, _, _, _, _, _, _, _, _, _, _, _, _, _, _, _, _, _, _, _, _, _, _, _, _, _, _, _, _, _, _, _, _, _, _, _, _, _, _, _, _, _, _, _, _, _, _, _, _, _, _, _, _, _, _, _, _, _, _, _, _, _, _, _, _, _, _, _, _, _, _, _, _, _, _, _, _, _, _, _, _, _, _, _, _, _, _, _, _, _, _, _, _, _, _, _, _, _, _, _, _, _, _, _, _, _, _, _, _, _, _, _, _, _, _, _, _, _, _, _, _, _, _, _, _, _, _, _, _, _, _, _, _, _, _, _, _, _, _, _, _, _, _, _, _, _, _, _, _, _, _, _, _, _, _, _, _, _, _, _, _, _, _, _, _, _, _, _, _, _, _, _, _, _, _, _, _, _, _, _, _, _, _, _, _, _, _, _, _, _, _, _, _, _]) rfl ?_
              refine x_blockNormal ?_
              refine x_thenNormal ?_
              refine c_rseq (n := 248) ⟨rfl, rfl⟩ ?_
              refine s_val (r_fieldAddr (k := 4) Try.runUnderlying32 rfl Try.sizeOf28 (by decide) rfl rfl) ?_
              refine s_val (r_load1 Try.isAgg28 rfl (H.at 4 rfl) rfl) ?_
              refine s_val (r_move rfl) ?_
              refine s_call (r_call Try.call13 (ec rfl (ec rfl en))) (free_spec bl x i N (by omega) k _ hL (H.ownsM (.cons _ (.cons _ (.cons _ (.cons _ (.cons _ (.cons _ (List.Sublist.refl _))))))))) ?_
              rintro v w ⟨rfl, N2, hL2, HC⟩
              have hfr : freeL x k = (x, 2) := by unfold freeL; rw [if_pos (by omega)]
              rw [hfr] at hL2 ⊢
              have hL3 : LogN 150 51 89 72 bl x (i + 1) N2 := LogN.mono hL2 (Nat.le_succ _)
              replace H : St w0 [] w (_ :: _ :: _ :: _ :: _ :: _ :: N2) := St.callr (L := [_, _, _, _, _, _]) H HC
              refine s_val (r_move rfl) ?_
              refine s_val (r_neq rfl rfl) ?_
              refine c_nil (l' := [_, _, _, _, _, _, _, _, _, _, _, _, _, _, _, _, _, _, _, _, _, _, _, _, _, _, _, _, _, _, _, _, _, _, _, _, _, _, _, _, _, _, _, _, _, _, _, _, _, _, _, _, _, _, _, _, _, _, _, _, _, _, _, _, _, _, _, _, _, _, _, _, _, _, _, _, _, _, _, _, _, _, _, _, _, _, _, _, _, _, _, _, _, _, _, _, _, _, _, _, _, _, _, _, _, _, _, _, _, _, _, _, _, _, _, _, _, _, _, _, _, _, _, _, _, _, _, _, _, _, _, _, _, _, _, _, _, _, _, _, _, _, _, _, _, _, _, _, _, _, _, _, _, _, _, _, _, _, _, _, _, _, _, _, _, _, _, _, _, _, _, _, _, _, _, _, _, _, _, _, _, _, _, _, _, _, _, _, _, _, _, _, _, _, _, _, _, _, _, _, _, _, _, _, _, _, _, _, _, _, _, _, _, _, _, _, _, _, _, _, _, _, _, _, _, _, _, _, _, _, _, _, _, _, _, _, _, _, _, _, _, _, _, _, _, _, _, _]) rfl ?_
              refine c_if rfl (fun h166 => ?_) (fun h166 => ?_)
              · skip
                exact absurd rfl h166
              · skip
                refine wp_skip ?_
                refine x_blockNormal ?_
                refine x_thenNormal ?_
                refine c_rseq (n := 248) ⟨rfl, rfl⟩ ?_
                refine s_val (r_fieldAddr (k := 4) Try.runUnderlying32 rfl Try.sizeOf28 (by decide) rfl rfl) ?_
                refine s_val (r_load1 Try.isAgg28 rfl (H.at 4 rfl) rfl) ?_
                refine s_val (r_loadn Try.isAgg38 Try.sizeOf38 rfl (H.at 3 rfl) (by first | exact (kC_td _) | exact (hC_td _) | exact (hC_seed _) | exact (shC_td _ _) | exact (sdC_td _ _) | exact (xrL_td _ _ _) | exact (xrC_td _ _ _ _ _ _ _) | exact (rigC_td _ _ _ _ _ _ _) | exact (doC_td _)) (by first | exact (kC_length _) | exact (hC_length _) | exact (shC_length _ _) | exact (wC_length _) | exact (sdC_length _ _) | exact (xrL_length _ _ _) | exact (xrC_length _ _ _ _ _ _ _) | exact (rigC_length _ _ _ _ _ _ _) | exact (doC_length _) | exact rfl)) ?_
                have hr3 : URow w (some ⟨bu, 0, none⟩) x.gens := fun _ => ⟨bu, 0, [], sp, _, _, rfl, by rw [List.nil_append]; exact H.at 5 rfl, rfl⟩
                refine s_call (r_call Try.call17 (ec rfl (ec rfl en))) (alike_spec bl x _ _ _ (hL3.rdM (by omega) H (fun p hp => (List.mem_cons_of_mem _ (List.mem_cons_of_mem _ (List.mem_cons_of_mem _ (List.mem_cons_of_mem _ (List.mem_cons_of_mem _ (List.mem_cons_of_mem _ hp)))))))) hr3) ?_
                rintro v w ⟨rfl, HC⟩
                replace H := H.quiet HC
                refine s_val (r_not rfl) ?_
                refine c_nil (l' := [_, _, _, _, _, _, _, _, _, _, _, _, _, _, _, _, _, _, _, _, _, _, _, _, _, _, _, _, _, _, _, _, _, _, _, _, _, _, _, _, _, _, _, _, _, _, _, _, _, _, _, _, _, _, _, _, _, _, _, _, _, _, _, _, _, _, _, _, _, _, _, _, _, _, _, _, _, _, _, _, _, _, _, _, _, _, _, _, _, _, _, _, _, _, _, _, _, _, _, _, _, _, _, _, _, _, _, _, _, _, _, _, _, _, _, _, _, _, _, _, _, _, _, _, _, _, _, _, _, _, _, _, _, _, _, _, _, _, _, _, _, _, _, _, _, _, _, _, _, _, _, _, _, _, _, _, _, _, _, _, _, _, _, _, _, _, _, _, _, _, _, _, _, _, _, _, _, _, _, _, _, _, _, _, _, _, _, _, _, _, _, _, _, _, _, _, _, _, _, _, _, _, _, _, _, _, _, _, _, _, _, _, _, _, _, _, _, _, _, _, _, _, _, _, _, _, _, _, _, _, _, _, _, _, _, _, _, _, _, _, _, _, _, _, _, _, _, _]) rfl ?_
                refine c_iff rfl ?_
                refine wp_skip ?_
                refine x_blockNormal ?_
                refine x_thenNormal ?_
                refine c_region (n := 248) ⟨rfl, rfl⟩ ?_
                refine s_val (r_add rfl rfl (w_i64 (by omega) (by omega))) ?_
                refine s_val (r_move rfl) ?_
                refine c_nil0 (l' := [_, _, _, _, _, _, _, _, _, _, _, _, _, _, _, _, _, _, _, _, _, _, _, _, _, _, _, _, _, _, _, _, _, _, _, _, _, _, _, _, _, _, _, _, _, _, _, _, _, _, _, _, _, _, _, _, _, _, _, _, _, _, _, _, _, _, _, _, _, _, _, _, _, _, _, _, _, _, _, _, _, _, _, _, _, _, _, _, _, _, _, _, _, _, _, _, _, _, _, _, _, _, _, _, _, _, _, _, _, _, _, _, _, _, _, _, _, _, _, _, _, _, _, _, _, _, _, _, _, _, _, _, _, _, _, _, _, _, _, _, _, _, _, _, _, _, _, _, _, _, _, _, _, _, _, _, _, _, _, _, _, _, _, _, _, _, _, _, _, _, _, _, _, _, _, _, _, _, _, _, _, _, _, _, _, _, _, _, _, _, _, _, _, _, _, _, _, _, _, _, _, _, _, _, _, _, _, _, _, _, _, _, _, _, _, _, _, _, _, _, _, _, _, _, _, _, _, _, _, _, _, _, _, _, _, _, _, _, _, _, _, _, _, _, _, _, _, _]) rfl ?_
                skip
                replace H := H.sub (.cons _ (.cons_cons _ (.cons_cons _ (.cons_cons _ (.cons_cons _ (.cons_cons _ (List.Sublist.refl _)))))))
                exact ⟨i + 1, _, rfl, ⟨_, _, _, _, _, _, _, _, _, _, _, _, _, _, _, _, _, _, _, _, _, _, _, _, _, _, _, _, _, _, _, _, _, _, _, _, _, _, _, _, _, _, _, _, _, _, _, _, _, _, _, _, _, _, _, _, _, _, _, _, _, _, _, _, _, _, _, _, _, _, _, _, _, _, _, _, _, _, _, _, _, _, _, _, _, _, _, _, _, _, _, _, _, _, _, _, _, _, _, _, _, _, _, _, _, _, _, _, _, _, _, _, _, _, _, _, _, _, _, _, _, _, _, _, _, _, _, _, _, _, _, _, _, _, _, _, _, _, gs, bs, x, bu, sp, cx, N2, rfl, by omega, hL3, ⟨hc1, hc2⟩, ⟨hxg, hxz, by omega⟩, ⟨hl1, hl2⟩, hPL, hbr, H⟩, by omega⟩
            · skip
              refine s_val (r_move rfl) ?_
              refine g_yes rfl rfl ?_
              refine s_val (r_move rfl) ?_
              refine g_yes rfl rfl ?_
              refine s_val (r_fieldAddr (k := 5) Try.runUnderlying32 rfl Try.sizeOf30 (by decide) rfl rfl) ?_
              refine g_yes rfl rfl ?_
              refine s_val (r_fieldAddr (k := 0) Try.runUnderlying30 rfl Try.sizeOf3 (by decide) rfl rfl) ?_
              refine g_yes rfl rfl ?_
              refine s_val (r_load1 Try.isAgg3 rfl (H.at 4 rfl) rfl) ?_
              refine g_yes rfl rfl ?_
              refine s_val (r_geq rfl rfl) ?_
              refine s_val (r_pickf rfl rfl) ?_
              refine s_val (r_assign rfl) ?_
              refine c_nil (l' := [_, _, _, _, _, _, _, _, _, _, _, _, _, _, _, _, _, _, _, _, _, _, _, _, _, _, _, _, _, _, _, _, _, _, _, _, _, _, _, _, _, _, _, _, _, _, _, _, _, _, _, _, _, _, _, _, _, _, _, _, _, _, _, _, _, _, _, _, _, _, _, _, _, _, _, _, _, _, _, _, _, _, _, _, _, _, _, _, _, _, _, _, _, _, _, _, _, _, _, _, _, _, _, _, _, _, _, _, _, _, _, _, _, _, _, _, _, _, _, _, _, _, _, _, _, _, _, _, _, _, _, _, _, _, _, _, _, _, _, _, _, _, _, _, _, _, _, _, _, _, _, _, _, _, _, _, _, _, _, _, _, _, _, _, _, _, _, _, _, _, _, _, _, _, _, _, _, _, _, _, _, _, _, _, _, _, _, _, _, _, _, _, _, _, _, _, _, _, _, _, _, _, _, _, _, _, _, _, _, _, _, _, _, _, _, _, _, _, _, _, _, _, _, _, _, _, _, _, _, _, _, _, _, _, _, _, _, _, _, _, _, _, _, _, _, _, _, _]) rfl ?_
              refine c_if rfl (fun h139 => ?_) (fun h139 => ?_)
              · skip
                refine c_region (n := 248) ⟨rfl, rfl⟩ ?_
                refine s_val (r_assign rfl) ?_
                refine c_nil0 (l' := [_, _, _, _, _, _, _, _, _, _, _, _, _, _, _, _, _, _, _, _, _, _, _, _, _, _, _, _, _, _, _, _, _, _, _, _, _, _, _, _, _, _, _, _, _, _, _, _, _, _, _, _, _, _, _, _, _, _, _, _, _, _, _, _, _, _, _, _, _, _, _, _, _, _, _, _, _, _, _, _, _, _, _, _, _, _, _, _, _, _, _, _, _, _, _, _, _, _, _, _, _, _, _, _, _, _, _, _, _, _, _, _, _, _, _, _, _, _, _, _, _, _, _, _, _, _, _, _, _, _, _, _, _, _, _, _, _, _, _, _, _, _, _, _, _, _, _, _, _, _, _, _, _, _, _, _, _, _, _, _, _, _, _, _, _, _, _, _, _, _, _, _, _, _, _, _, _, _, _, _, _, _, _, _, _, _, _, _, _, _, _, _, _, _, _, _, _, _, _, _, _, _, _, _, _, _, _, _, _, _, _, _, _, _, _, _, _, _, _, _, _, _, _, _, _, _, _, _, _, _, _, _, _, _, _, _, _, _, _, _, _, _, _, _, _, _, _, _]) rfl ?_
                refine x_blockNormal ?_
                refine x_thenNormal ?_
                refine c_rseq (n := 248) ⟨rfl, rfl⟩ ?_
                refine s_val (r_fieldAddr (k := 4) Try.runUnderlying32 rfl Try.sizeOf28 (by decide) rfl rfl) ?_
                refine s_val (r_load1 Try.isAgg28 rfl (H.at 4 rfl) rfl) ?_
                refine s_val (r_move rfl) ?_
                refine s_call (r_call Try.call13 (ec rfl (ec rfl en))) (free_spec bl x i N (by omega) k _ hL (H.ownsM (.cons _ (.cons _ (.cons _ (.cons _ (.cons _ (.cons _ (List.Sublist.refl _))))))))) ?_
                rintro v w ⟨rfl, N2, hL2, HC⟩
                have hfr : freeL x k = (x, 2) := by unfold freeL; rw [if_pos (by omega)]
                rw [hfr] at hL2 ⊢
                have hL3 : LogN 150 51 89 72 bl x (i + 1) N2 := LogN.mono hL2 (Nat.le_succ _)
                replace H : St w0 [] w (_ :: _ :: _ :: _ :: _ :: _ :: N2) := St.callr (L := [_, _, _, _, _, _]) H HC
                refine s_val (r_move rfl) ?_
                refine s_val (r_neq rfl rfl) ?_
                refine c_nil (l' := [_, _, _, _, _, _, _, _, _, _, _, _, _, _, _, _, _, _, _, _, _, _, _, _, _, _, _, _, _, _, _, _, _, _, _, _, _, _, _, _, _, _, _, _, _, _, _, _, _, _, _, _, _, _, _, _, _, _, _, _, _, _, _, _, _, _, _, _, _, _, _, _, _, _, _, _, _, _, _, _, _, _, _, _, _, _, _, _, _, _, _, _, _, _, _, _, _, _, _, _, _, _, _, _, _, _, _, _, _, _, _, _, _, _, _, _, _, _, _, _, _, _, _, _, _, _, _, _, _, _, _, _, _, _, _, _, _, _, _, _, _, _, _, _, _, _, _, _, _, _, _, _, _, _, _, _, _, _, _, _, _, _, _, _, _, _, _, _, _, _, _, _, _, _, _, _, _, _, _, _, _, _, _, _, _, _, _, _, _, _, _, _, _, _, _, _, _, _, _, _, _, _, _, _, _, _, _, _, _, _, _, _, _, _, _, _, _, _, _, _, _, _, _, _, _, _, _, _, _, _, _, _, _, _, _, _, _, _, _, _, _, _, _, _, _, _, _, _]) rfl ?_
                refine c_if rfl (fun h166 => ?_) (fun h166 => ?_)
                · skip
                  exact absurd rfl h166
                · skip
                  refine wp_skip ?_
                  refine x_blockNormal ?_
                  refine x_thenNormal ?_
                  refine c_rseq (n := 248) ⟨rfl, rfl⟩ ?_
                  refine s_val (r_fieldAddr (k := 4) Try.runUnderlying32 rfl Try.sizeOf28 (by decide) rfl rfl) ?_
                  refine s_val (r_load1 Try.isAgg28 rfl (H.at 4 rfl) rfl) ?_
                  refine s_val (r_loadn Try.isAgg38 Try.sizeOf38 rfl (H.at 3 rfl) (by first | exact (kC_td _) | exact (hC_td _) | exact (hC_seed _) | exact (shC_td _ _) | exact (sdC_td _ _) | exact (xrL_td _ _ _) | exact (xrC_td _ _ _ _ _ _ _) | exact (rigC_td _ _ _ _ _ _ _) | exact (doC_td _)) (by first | exact (kC_length _) | exact (hC_length _) | exact (shC_length _ _) | exact (wC_length _) | exact (sdC_length _ _) | exact (xrL_length _ _ _) | exact (xrC_length _ _ _ _ _ _ _) | exact (rigC_length _ _ _ _ _ _ _) | exact (doC_length _) | exact rfl)) ?_
                  have hr3 : URow w (some ⟨bu, 0, none⟩) x.gens := fun _ => ⟨bu, 0, [], sp, _, _, rfl, by rw [List.nil_append]; exact H.at 5 rfl, rfl⟩
                  refine s_call (r_call Try.call17 (ec rfl (ec rfl en))) (alike_spec bl x _ _ _ (hL3.rdM (by omega) H (fun p hp => (List.mem_cons_of_mem _ (List.mem_cons_of_mem _ (List.mem_cons_of_mem _ (List.mem_cons_of_mem _ (List.mem_cons_of_mem _ (List.mem_cons_of_mem _ hp)))))))) hr3) ?_
                  rintro v w ⟨rfl, HC⟩
                  replace H := H.quiet HC
                  refine s_val (r_not rfl) ?_
                  refine c_nil (l' := [_, _, _, _, _, _, _, _, _, _, _, _, _, _, _, _, _, _, _, _, _, _, _, _, _, _, _, _, _, _, _, _, _, _, _, _, _, _, _, _, _, _, _, _, _, _, _, _, _, _, _, _, _, _, _, _, _, _, _, _, _, _, _, _, _, _, _, _, _, _, _, _, _, _, _, _, _, _, _, _, _, _, _, _, _, _, _, _, _, _, _, _, _, _, _, _, _, _, _, _, _, _, _, _, _, _, _, _, _, _, _, _, _, _, _, _, _, _, _, _, _, _, _, _, _, _, _, _, _, _, _, _, _, _, _, _, _, _, _, _, _, _, _, _, _, _, _, _, _, _, _, _, _, _, _, _, _, _, _, _, _, _, _, _, _, _, _, _, _, _, _, _, _, _, _, _, _, _, _, _, _, _, _, _, _, _, _, _, _, _, _, _, _, _, _, _, _, _, _, _, _, _, _, _, _, _, _, _, _, _, _, _, _, _, _, _, _, _, _, _, _, _, _, _, _, _, _, _, _, _, _, _, _, _, _, _, _, _, _, _, _, _, _, _, _, _, _, _]) rfl ?_
                  refine c_iff rfl ?_
                  refine wp_skip ?_
                  refine x_blockNormal ?_
                  refine x_thenNormal ?_
                  refine c_region (n := 248) ⟨rfl, rfl⟩ ?_
                  refine s_val (r_add rfl rfl (w_i64 (by omega) (by omega))) ?_
                  refine s_val (r_move rfl) ?_
                  refine c_nil0 (l' := [_, _, _, _, _, _, _, _, _, _, _, _, _, _, _, _, _, _, _, _, _, _, _, _, _, _, _, _, _, _, _, _, _, _, _, _, _, _, _, _, _, _, _, _, _, _, _, _, _, _, _, _, _, _, _, _, _, _, _, _, _, _, _, _, _, _, _, _, _, _, _, _, _, _, _, _, _, _, _, _, _, _, _, _, _, _, _, _, _, _, _, _, _, _, _, _, _, _, _, _, _, _, _, _, _, _, _, _, _, _, _, _, _, _, _, _, _, _, _, _, _, _, _, _, _, _, _, _, _, _, _, _, _, _, _, _, _, _, _, _, _, _, _, _, _, _, _, _, _, _, _, _, _, _, _, _, _, _, _, _, _, _, _, _, _, _, _, _, _, _, _, _, _, _, _, _, _, _, _, _, _, _, _, _, _, _, _, _, _, _, _, _, _, _, _, _, _, _, _, _, _, _, _, _, _, _, _, _, _, _, _, _, _, _, _, _, _, _, _, _, _, _, _, _, _, _, _, _, _, _, _, _, _, _, _, _, _, _, _, _, _, _, _, _, _, _, _, _]) rfl ?_
                  skip
                  replace H := H.sub (.cons _ (.cons_cons _ (.cons_cons _ (.cons_cons _ (.cons_cons _ (.cons_cons _ (List.Sublist.refl _)))))))
                  exact ⟨i + 1, _, rfl, ⟨_, _, _, _, _, _, _, _, _, _, _, _, _, _, _, _, _, _, _, _, _, _, _, _, _, _, _, _, _, _, _, _, _, _, _, _, _, _, _, _, _, _, _, _, _, _, _, _, _, _, _, _, _, _, _, _, _, _, _, _, _, _, _, _, _, _, _, _, _, _, _, _, _, _, _, _, _, _, _, _, _, _, _, _, _, _, _, _, _, _, _, _, _, _, _, _, _, _, _, _, _, _, _, _, _, _, _, _, _, _, _, _, _, _, _, _, _, _, _, _, _, _, _, _, _, _, _, _, _, _, _, _, _, _, _, _, _, _, gs, bs, x, bu, sp, cx, N2, rfl, by omega, hL3, ⟨hc1, hc2⟩, ⟨hxg, hxz, by omega⟩, ⟨hl1, hl2⟩, hPL, hbr, H⟩, by omega⟩
              · skip
                refine c_rseq (n := 248) ⟨rfl, rfl⟩ ?_
                refine s_val (r_fieldAddr (k := 3) Try.runUnderlying38 rfl Try.sizeOf35 (by decide) rfl rfl) ?_
                refine s_val (r_load1 Try.isAgg35 rfl (H.at 3 rfl) rfl) ?_
                refine s_val (r_move rfl) ?_
                refine s_val (r_indexAddrS Try.runUnderlying35 Try.sizeOf36 rfl rfl (by omega) (by omega)) ?_
                refine s_val (r_load1 Try.isAgg36 rfl (H.at 5 rfl) (uC_atA x.gens sp (i := k.toNat) (by omega) (by omega))) ?_
                refine s_val (r_eql rfl rfl) ?_
                refine s_val (r_assign rfl) ?_
                refine c_nil (l' := [_, _, _, _, _, _, _, _, _, _, _, _, _, _, _, _, _, _, _, _, _, _, _, _, _, _, _, _, _, _, _, _, _, _, _, _, _, _, _, _, _, _, _, _, _, _, _, _, _, _, _, _, _, _, _, _, _, _, _, _, _, _, _, _, _, _, _, _, _, _, _, _, _, _, _, _, _, _, _, _, _, _, _, _, _, _, _, _, _, _, _, _, _, _, _, _, _, _, _, _, _, _, _, _, _, _, _, _, _, _, _, _, _, _, _, _, _, _, _, _, _, _, _, _, _, _, _, _, _, _, _, _, _, _, _, _, _, _, _, _, _, _, _, _, _, _, _, _, _, _, _, _, _, _, _, _, _, _, _, _, _, _, _, _, _, _, _, _, _, _, _, _, _, _, _, _, _, _, _, _, _, _, _, _, _, _, _, _, _, _, _, _, _, _, _, _, _, _, _, _, _, _, _, _, _, _, _, _, _, _, _, _, _, _, _, _, _, _, _, _, _, _, _, _, _, _, _, _, _, _, _, _, _, _, _, _, _, _, _, _, _, _, _, _, _, _, _, _]) rfl ?_
                refine c_if rfl (fun h149 => ?_) (fun h149 => ?_)
                · skip
                  refine c_region (n := 248) ⟨rfl, rfl⟩ ?_
                  refine s_val (r_assign rfl) ?_
                  refine c_nil0 (l' := [_, _, _, _, _, _, _, _, _, _, _, _, _, _, _, _, _, _, _, _, _, _, _, _, _, _, _, _, _, _, _, _, _, _, _, _, _, _, _, _, _, _, _, _, _, _, _, _, _, _, _, _, _, _, _, _, _, _, _, _, _, _, _, _, _, _, _, _, _, _, _, _, _, _, _, _, _, _, _, _, _, _, _, _, _, _, _, _, _, _, _, _, _, _, _, _, _, _, _, _, _, _, _, _, _, _, _, _, _, _, _, _, _, _, _, _, _, _, _, _, _, _, _, _, _, _, _, _, _, _, _, _, _, _, _, _, _, _, _, _, _, _, _, _, _, _, _, _, _, _, _, _, _, _, _, _, _, _, _, _, _, _, _, _, _, _, _, _, _, _, _, _, _, _, _, _, _, _, _, _, _, _, _, _, _, _, _, _, _, _, _, _, _, _, _, _, _, _, _, _, _, _, _, _, _, _, _, _, _, _, _, _, _, _, _, _, _, _, _, _, _, _, _, _, _, _, _, _, _, _, _, _, _, _, _, _, _, _, _, _, _, _, _, _, _, _, _, _]) rfl ?_
                  refine x_blockNormal ?_
                  refine x_thenNormal ?_
                  refine c_rseq (n := 248) ⟨rfl, rfl⟩ ?_
                  refine s_val (r_fieldAddr (k := 4) Try.runUnderlying32 rfl Try.sizeOf28 (by decide) rfl rfl) ?_
                  refine s_val (r_load1 Try.isAgg28 rfl (H.at 4 rfl) rfl) ?_
                  refine s_val (r_move rfl) ?_
                  refine s_call (r_call Try.call13 (ec rfl (ec rfl en))) (free_spec bl x i N (by omega) k _ hL (H.ownsM (.cons _ (.cons _ (.cons _ (.cons _ (.cons _ (.cons _ (List.Sublist.refl _))))))))) ?_
                  rintro v w ⟨rfl, N2, hL2, HC⟩
                  have hfr : freeL x k = (x, 7) := by unfold freeL; rw [if_neg (by omega), if_pos h149]
                  rw [hfr] at hL2 ⊢
                  have hL3 : LogN 150 51 89 72 bl x (i + 1) N2 := LogN.mono hL2 (Nat.le_succ _)
                  replace H : St w0 [] w (_ :: _ :: _ :: _ :: _ :: _ :: N2) := St.callr (L := [_, _, _, _, _, _]) H HC
                  refine s_val (r_move rfl) ?_
                  refine s_val (r_neq rfl rfl) ?_
                  refine c_nil (l' := [_, _, _, _, _, _, _, _, _, _, _, _, _, _, _, _, _, _, _, _, _, _, _, _, _, _, _, _, _, _, _, _, _, _, _, _, _, _, _, _, _, _, _, _, _, _, _, _, _, _, _, _, _, _, _, _, _, _, _, _, _, _, _, _, _, _, _, _, _, _, _, _, _, _, _, _, _, _, _, _, _, _, _, _, _, _, _, _, _, _, _, _, _, _, _, _, _, _, _, _, _, _, _, _, _, _, _, _, _, _, _, _, _, _, _, _, _, _, _, _, _, _, _, _, _, _, _, _, _, _, _, _, _, _, _, _, _, _, _, _, _, _, _, _, _, _, _, _, _, _, _, _, _, _, _, _, _, _, _, _, _, _, _, _, _, _, _, _, _, _, _, _, _, _, _, _, _, _, _, _, _, _, _, _, _, _, _, _, _, _, _, _, _, _, _, _, _, _, _, _, _, _, _, _, _, _, _, _, _, _, _, _, _, _, _, _, _, _, _, _, _, _, _, _, _, _, _, _, _, _, _, _, _, _, _, _, _, _, _, _, _, _, _, _, _, _, _, _]) rfl ?_
                  refine c_if rfl (fun h166 => ?_) (fun h166 => ?_)
                  · skip
                    exact absurd rfl h166
                  · skip
                    refine wp_skip ?_
                    refine x_blockNormal ?_
                    refine x_thenNormal ?_
                    refine c_rseq (n := 248) ⟨rfl, rfl⟩ ?_
                    refine s_val (r_fieldAddr (k := 4) Try.runUnderlying32 rfl Try.sizeOf28 (by decide) rfl rfl) ?_
                    refine s_val (r_load1 Try.isAgg28 rfl (H.at 4 rfl) rfl) ?_
                    refine s_val (r_loadn Try.isAgg38 Try.sizeOf38 rfl (H.at 3 rfl) (by first | exact (kC_td _) | exact (hC_td _) | exact (hC_seed _) | exact (shC_td _ _) | exact (sdC_td _ _) | exact (xrL_td _ _ _) | exact (xrC_td _ _ _ _ _ _ _) | exact (rigC_td _ _ _ _ _ _ _) | exact (doC_td _)) (by first | exact (kC_length _) | exact (hC_length _) | exact (shC_length _ _) | exact (wC_length _) | exact (sdC_length _ _) | exact (xrL_length _ _ _) | exact (xrC_length _ _ _ _ _ _ _) | exact (rigC_length _ _ _ _ _ _ _) | exact (doC_length _) | exact rfl)) ?_
                    have hr3 : URow w (some ⟨bu, 0, none⟩) x.gens := fun _ => ⟨bu, 0, [], sp, _, _, rfl, by rw [List.nil_append]; exact H.at 5 rfl, rfl⟩
                    refine s_call (r_call Try.call17 (ec rfl (ec rfl en))) (alike_spec bl x _ _ _ (hL3.rdM (by omega) H (fun p hp => (List.mem_cons_of_mem _ (List.mem_cons_of_mem _ (List.mem_cons_of_mem _ (List.mem_cons_of_mem _ (List.mem_cons_of_mem _ (List.mem_cons_of_mem _ hp)))))))) hr3) ?_
                    rintro v w ⟨rfl, HC⟩
                    replace H := H.quiet HC
                    refine s_val (r_not rfl) ?_
                    refine c_nil (l' := [_, _, _, _, _, _, _, _, _, _, _, _, _, _, _, _, _, _, _, _, _, _, _, _, _, _, _, _, _, _, _, _, _, _, _, _, _, _, _, _, _, _, _, _, _, _, _, _, _, _, _, _, _, _, _, _, _, _, _, _, _, _, _, _, _, _, _, _, _, _, _, _, _, _, _, _, _, _, _, _, _, _, _, _, _, _, _, _, _, _, _, _, _, _, _, _, _, _, _, _, _, _, _, _, _, _, _, _, _, _, _, _, _, _, _, _, _, _, _, _, _, _, _, _, _, _, _, _, _, _, _, _, _, _, _, _, _, _, _, _, _, _, _, _, _, _, _, _, _, _, _, _, _, _, _, _, _, _, _, _, _, _, _, _, _, _, _, _, _, _, _, _, _, _, _, _, _, _, _, _, _, _, _, _, _, _, _, _, _, _, _, _, _, _, _, _, _, _, _, _, _, _, _, _, _, _, _, _, _, _, _, _, _, _, _, _, _, _, _, _, _, _, _, _, _, _, _, _, _, _, _, _, _, _, _, _, _, _, _, _, _, _, _, _, _, _, _, _]) rfl ?_
                    refine c_iff rfl ?_
                    refine wp_skip ?_
                    refine x_blockNormal ?_
                    refine x_thenNormal ?_
                    refine c_region (n := 248) ⟨rfl, rfl⟩ ?_
                    refine s_val (r_add rfl rfl (w_i64 (by omega) (by omega))) ?_
                    refine s_val (r_move rfl) ?_
                    refine c_nil0 (l' := [_, _, _, _, _, _, _, _, _, _, _, _, _, _, _, _, _, _, _, _, _, _, _, _, _, _, _, _, _, _, _, _, _, _, _, _, _, _, _, _, _, _, _, _, _, _, _, _, _, _, _, _, _, _, _, _, _, _, _, _, _, _, _, _, _, _, _, _, _, _, _, _, _, _, _, _, _, _, _, _, _, _, _, _, _, _, _, _, _, _, _, _, _, _, _, _, _, _, _, _, _, _, _, _, _, _, _, _, _, _, _, _, _, _, _, _, _, _, _, _, _, _, _, _, _, _, _, _, _, _, _, _, _, _, _, _, _, _, _, _, _, _, _, _, _, _, _, _, _, _, _, _, _, _, _, _, _, _, _, _, _, _, _, _, _, _, _, _, _, _, _, _, _, _, _, _, _, _, _, _, _, _, _, _, _, _, _, _, _, _, _, _, _, _, _, _, _, _, _, _, _, _, _, _, _, _, _, _, _, _, _, _, _, _, _, _, _, _, _, _, _, _, _, _, _, _, _, _, _, _, _, _, _, _, _, _, _, _, _, _, _, _, _, _, _, _, _, _]) rfl ?_
                    skip
                    replace H := H.sub (.cons _ (.cons_cons _ (.cons_cons _ (.cons_cons _ (.cons_cons _ (.cons_cons _ (List.Sublist.refl _)))))))
                    exact ⟨i + 1, _, rfl, ⟨_, _, _, _, _, _, _, _, _, _, _, _, _, _, _, _, _, _, _, _, _, _, _, _, _, _, _, _, _, _, _, _, _, _, _, _, _, _, _, _, _, _, _, _, _, _, _, _, _, _, _, _, _, _, _, _, _, _, _, _, _, _, _, _, _, _, _, _, _, _, _, _, _, _, _, _, _, _, _, _, _, _, _, _, _, _, _, _, _, _, _, _, _, _, _, _, _, _, _, _, _, _, _, _, _, _, _, _, _, _, _, _, _, _, _, _, _, _, _, _, _, _, _, _, _, _, _, _, _, _, _, _, _, _, _, _, _, _, gs, bs, x, bu, sp, cx, N2, rfl, by omega, hL3, ⟨hc1, hc2⟩, ⟨hxg, hxz, by omega⟩, ⟨hl1, hl2⟩, hPL, hbr, H⟩, by omega⟩
                · skip
                  refine c_rseq (n := 248) ⟨rfl, rfl⟩ ?_
                  refine s_val (r_move rfl) ?_
                  refine s_val (r_fieldAddr (k := 1) Try.runUnderlying38 rfl Try.sizeOf3 (by decide) rfl rfl) ?_
                  refine s_val (r_load1 Try.isAgg3 rfl (H.at 3 rfl) rfl) ?_
                  refine s_val (r_eql rfl rfl) ?_
                  refine s_val (r_assign rfl) ?_
                  refine c_nil (l' := [_, _, _, _, _, _, _, _, _, _, _, _, _, _, _, _, _, _, _, _, _, _, _, _, _, _, _, _, _, _, _, _, _, _, _, _, _, _, _, _, _, _, _, _, _, _, _, _, _, _, _, _, _, _, _, _, _, _, _, _, _, _, _, _, _, _, _, _, _, _, _, _, _, _, _, _, _, _, _, _, _, _, _, _, _, _, _, _, _, _, _, _, _, _, _, _, _, _, _, _, _, _, _, _, _, _, _, _, _, _, _, _, _, _, _, _, _, _, _, _, _, _, _, _, _, _, _, _, _, _, _, _, _, _, _, _, _, _, _, _, _, _, _, _, _, _, _, _, _, _, _, _, _, _, _, _, _, _, _, _, _, _, _, _, _, _, _, _, _, _, _, _, _, _, _, _, _, _, _, _, _, _, _, _, _, _, _, _, _, _, _, _, _, _, _, _, _, _, _, _, _, _, _, _, _, _, _, _, _, _, _, _, _, _, _, _, _, _, _, _, _, _, _, _, _, _, _, _, _, _, _, _, _, _, _, _, _, _, _, _, _, _, _, _, _, _, _, _]) rfl ?_
                  refine c_if rfl (fun h156 => ?_) (fun h156 => ?_)
                  · skip
                    refine c_region (n := 248) ⟨rfl, rfl⟩ ?_
                    refine s_val (r_assign rfl) ?_
                    refine c_nil0 (l' := [_, _, _, _, _, _, _, _, _, _, _, _, _, _, _, _, _, _, _, _, _, _, _, _, _, _, _, _, _, _, _, _, _, _, _, _, _, _, _, _, _, _, _, _, _, _, _, _, _, _, _, _, _, _, _, _, _, _, _, _, _, _, _, _, _, _, _, _, _, _, _, _, _, _, _, _, _, _, _, _, _, _, _, _, _, _, _, _, _, _, _, _, _, _, _, _, _, _, _, _, _, _, _, _, _, _, _, _, _, _, _, _, _, _, _, _, _, _, _, _, _, _, _, _, _, _, _, _, _, _, _, _, _, _, _, _, _, _, _, _, _, _, _, _, _, _, _, _, _, _, _, _, _, _, _, _, _, _, _, _, _, _, _, _, _, _, _, _, _, _, _, _, _, _, _, _, _, _, _, _, _, _, _, _, _, _, _, _, _, _, _, _, _, _, _, _, _, _, _, _, _, _, _, _, _, _, _, _, _, _, _, _, _, _, _, _, _, _, _, _, _, _, _, _, _, _, _, _, _, _, _, _, _, _, _, _, _, _, _, _, _, _, _, _, _, _, _, _]) rfl ?_
                    refine x_blockNormal ?_
                    refine x_thenNormal ?_
                    refine c_rseq (n := 248) ⟨rfl, rfl⟩ ?_
                    refine s_val (r_fieldAddr (k := 4) Try.runUnderlying32 rfl Try.sizeOf28 (by decide) rfl rfl) ?_
                    refine s_val (r_load1 Try.isAgg28 rfl (H.at 4 rfl) rfl) ?_
                    refine s_val (r_move rfl) ?_
                    refine s_call (r_call Try.call13 (ec rfl (ec rfl en))) (free_spec bl x i N (by omega) k _ hL (H.ownsM (.cons _ (.cons _ (.cons _ (.cons _ (.cons _ (.cons _ (List.Sublist.refl _))))))))) ?_
                    rintro v w ⟨rfl, N2, hL2, HC⟩
                    have hfr : freeL x k = (x, 12) := by unfold freeL; rw [if_neg (by omega), if_neg h149, if_pos (by omega)]
                    rw [hfr] at hL2 ⊢
                    have hL3 : LogN 150 51 89 72 bl x (i + 1) N2 := LogN.mono hL2 (Nat.le_succ _)
                    replace H : St w0 [] w (_ :: _ :: _ :: _ :: _ :: _ :: N2) := St.callr (L := [_, _, _, _, _, _]) H HC
                    refine s_val (r_move rfl) ?_
                    refine s_val (r_neq rfl rfl) ?_
                    refine c_nil (l' := [_, _, _, _, _, _, _, _, _, _, _, _, _, _, _, _, _, _, _, _, _, _, _, _, _, _, _, _, _, _, _, _, _, _, _, _, _, _, _, _, _, _, _, _, _, _, _, _, _, _, _, _, _, _, _, _, _, _, _, _, _, _, _, _, _, _, _, _, _, _, _, _, _, _, _, _, _, _, _, _, _, _, _, _, _, _, _, _, _, _, _, _, _, _, _, _, _, _, _, _, _, _, _, _, _, _, _, _, _, _, _, _, _, _, _, _, _, _, _, _, _, _, _, _, _, _, _, _, _, _, _, _, _, _, _, _, _, _, _, _, _, _, _, _, _, _, _, _, _, _, _, _, _, _, _, _, _, _, _, _, _, _, _, _, _, _, _, _, _, _, _, _, _, _, _, _, _, _, _, _, _, _, _, _, _, _, _, _, _, _, _, _, _, _, _, _, _, _, _, _, _, _, _, _, _, _, _, _, _, _, _, _, _, _, _, _, _, _, _, _, _, _, _, _, _, _, _, _, _, _, _, _, _, _, _, _, _, _, _, _, _, _, _, _, _, _, _, _]) rfl ?_
                    refine c_if rfl (fun h166 => ?_) (fun h166 => ?_)
                    · skip
                      exact absurd rfl h166
                    · skip
                      refine wp_skip ?_
                      refine x_blockNormal ?_
                      refine x_thenNormal ?_
                      refine c_rseq (n := 248) ⟨rfl, rfl⟩ ?_
                      refine s_val (r_fieldAddr (k := 4) Try.runUnderlying32 rfl Try.sizeOf28 (by decide) rfl rfl) ?_
                      refine s_val (r_load1 Try.isAgg28 rfl (H.at 4 rfl) rfl) ?_
                      refine s_val (r_loadn Try.isAgg38 Try.sizeOf38 rfl (H.at 3 rfl) (by first | exact (kC_td _) | exact (hC_td _) | exact (hC_seed _) | exact (shC_td _ _) | exact (sdC_td _ _) | exact (xrL_td _ _ _) | exact (xrC_td _ _ _ _ _ _ _) | exact (rigC_td _ _ _ _ _ _ _) | exact (doC_td _)) (by first | exact (kC_length _) | exact (hC_length _) | exact (shC_length _ _) | exact (wC_length _) | exact (sdC_length _ _) | exact (xrL_length _ _ _) | exact (xrC_length _ _ _ _ _ _ _) | exact (rigC_length _ _ _ _ _ _ _) | exact (doC_length _) | exact rfl)) ?_
                      have hr3 : URow w (some ⟨bu, 0, none⟩) x.gens := fun _ => ⟨bu, 0, [], sp, _, _, rfl, by rw [List.nil_append]; exact H.at 5 rfl, rfl⟩
                      refine s_call (r_call Try.call17 (ec rfl (ec rfl en))) (alike_spec bl x _ _ _ (hL3.rdM (by omega) H (fun p hp => (List.mem_cons_of_mem _ (List.mem_cons_of_mem _ (List.mem_cons_of_mem _ (List.mem_cons_of_mem _ (List.mem_cons_of_mem _ (List.mem_cons_of_mem _ hp)))))))) hr3) ?_
                      rintro v w ⟨rfl, HC⟩
                      replace H := H.quiet HC
                      refine s_val (r_not rfl) ?_
                      refine c_nil (l' := [_, _, _, _, _, _, _, _, _, _, _, _, _, _, _, _, _, _, _, _, _, _, _, _, _, _, _, _, _, _, _, _, _, _, _, _, _, _, _, _, _, _, _, _, _, _, _, _, _, _, _, _, _, _, _, _, _, _, _, _, _, _, _, _, _, _, _, _, _, _, _, _, _, _, _, _, _, _, _, _, _, _, _, _, _, _, _, _, _, _, _, _, _, _, _, _, _, _, _, _, _, _, _, _, _, _, _, _, _, _, _, _, _, _, _, _, _, _, _, _, _, _, _, _, _, _, _, _, _, _, _, _, _, _, _, _, _, _, _, _, _, _, _, _, _, _, _, _, _, _, _, _, _, _, _, _, _, _, _, _, _, _, _, _, _, _, _, _, _, _, _, _, _, _, _, _, _, _, _, _, _, _, _, _, _, _, _, _, _, _, _, _, _, _, _, _, _, _, _, _, _, _, _, _, _, _, _, _, _, _, _, _, _, _, _, _, _, _, _, _, _, _, _, _, _, _, _, _, _, _, _, _, _, _, _, _, _, _, _, _, _, _, _, _, _, _, _, _]) rfl ?_
                      refine c_iff rfl ?_
                      refine wp_skip ?_
                      refine x_blockNormal ?_
                      refine x_thenNormal ?_
                      refine c_region (n := 248) ⟨rfl, rfl⟩ ?_
                      refine s_val (r_add rfl rfl (w_i64 (by omega) (by omega))) ?_
                      refine s_val (r_move rfl) ?_
                      refine c_nil0 (l' := [_, _, _, _, _, _, _, _, _, _, _, _, _, _, _, _, _, _, _, _, _, _, _, _, _, _, _, _, _, _, _, _, _, _, _, _, _, _, _, _, _, _, _, _, _, _, _, _, _, _, _, _, _, _, _, _, _, _, _, _, _, _, _, _, _, _, _, _, _, _, _, _, _, _, _, _, _, _, _, _, _, _, _, _, _, _, _, _, _, _, _, _, _, _, _, _, _, _, _, _, _, _, _, _, _, _, _, _, _, _, _, _, _, _, _, _, _, _, _, _, _, _, _, _, _, _, _, _, _, _, _, _, _, _, _, _, _, _, _, _, _, _, _, _, _, _, _, _, _, _, _, _, _, _, _, _, _, _, _, _, _, _, _, _, _, _, _, _, _, _, _, _, _, _, _, _, _, _, _, _, _, _, _, _, _, _, _, _, _, _, _, _, _, _, _, _, _, _, _, _, _, _, _, _, _, _, _, _, _, _, _, _, _, _, _, _, _, _, _, _, _, _, _, _, _, _, _, _, _, _, _, _, _, _, _, _, _, _, _, _, _, _, _, _, _, _, _, _]) rfl ?_
                      skip
                      replace H := H.sub (.cons _ (.cons_cons _ (.cons_cons _ (.cons_cons _ (.cons_cons _ (.cons_cons _ (List.Sublist.refl _)))))))
                      exact ⟨i + 1, _, rfl, ⟨_, _, _, _, _, _, _, _, _, _, _, _, _, _, _, _, _, _, _, _, _, _, _, _, _, _, _, _, _, _, _, _, _, _, _, _, _, _, _, _, _, _, _, _, _, _, _, _, _, _, _, _, _, _, _, _, _, _, _, _, _, _, _, _, _, _, _, _, _, _, _, _, _, _, _, _, _, _, _, _, _, _, _, _, _, _, _, _, _, _, _, _, _, _, _, _, _, _, _, _, _, _, _, _, _, _, _, _, _, _, _, _, _, _, _, _, _, _, _, _, _, _, _, _, _, _, _, _, _, _, _, _, _, _, _, _, _, _, gs, bs, x, bu, sp, cx, N2, rfl, by omega, hL3, ⟨hc1, hc2⟩, ⟨hxg, hxz, by omega⟩, ⟨hl1, hl2⟩, hPL, hbr, H⟩, by omega⟩
                  · skip
                    refine c_rseq (n := 248) ⟨rfl, rfl⟩ ?_
                    refine s_val (r_loadn Try.isAgg38 Try.sizeOf38 rfl (H.at 3 rfl) (by first | exact (kC_td _) | exact (hC_td _) | exact (hC_seed _) | exact (shC_td _ _) | exact (sdC_td _ _) | exact (xrL_td _ _ _) | exact (xrC_td _ _ _ _ _ _ _) | exact (rigC_td _ _ _ _ _ _ _) | exact (doC_td _)) (by first | exact (kC_length _) | exact (hC_length _) | exact (shC_length _ _) | exact (wC_length _) | exact (sdC_length _ _) | exact (xrL_length _ _ _) | exact (xrC_length _ _ _ _ _ _ _) | exact (rigC_length _ _ _ _ _ _ _) | exact (doC_length _) | exact rfl)) ?_
                    have hr2 : URow w (some ⟨bu, 0, none⟩) x.gens := fun _ => ⟨bu, 0, [], sp, _, _, rfl, by rw [List.nil_append]; exact H.at 5 rfl, rfl⟩
                    refine s_call (r_call Try.call12 (ec rfl en)) (xcopy_spec x hF _ _ _ hr2) ?_
                    rintro v w ⟨ac, cc, Nc, rfl, hNc, HC⟩
                    obtain ⟨bu2, sp2, rfl, rfl, hd1, hd2⟩ := hNc.own1 (by omega)
                    replace H := H.call0 HC
                    refine s_st (m_storen H 4 5 Try.sizeOf38 rfl rfl (by first | exact (kC_length _) | exact (hC_length _) | exact (shC_length _ _) | exact (wC_length _) | exact (sdC_length _ _) | exact (xrL_length _ _ _) | exact (xrC_length _ _ _ _ _ _ _) | exact (rigC_length _ _ _ _ _ _ _) | exact (doC_length _)) (by first | exact (kC_one _) | exact (hC_one _) | exact (shC_one _ _) | exact (elW.one _) | exact (sdC_one _ _) | exact (xrL_one _ _ _) | exact (xrC_one _ _ _ _ _ _ _) | exact (rigC_one _ _ _ _ _ _ _) | exact (elDo.one _)) rfl (by first | exact (by rw [kC_length]; omega) | exact (by rw [hC_length]; omega) | exact (by rw [wC_length]; omega) | exact (by show _ ≤ 5; omega) | exact (by show _ ≤ 7; omega) | exact (by show _ ≤ 3; omega)) (xrL_free x k.toNat _ _ _ _)) (L' := (_ :: _ :: _ :: _ :: _ :: _ :: _ :: _)) rfl ?_
                    intro w H
                    refine c_nil (l' := [_, _, _, _, _, _, _, _, _, _, _, _, _, _, _, _, _, _, _, _, _, _, _, _, _, _, _, _, _, _, _, _, _, _, _, _, _, _, _, _, _, _, _, _, _, _, _, _, _, _, _, _, _, _, _, _, _, _, _, _, _, _, _, _, _, _, _, _, _, _, _, _, _, _, _, _, _, _, _, _, _, _, _, _, _, _, _, _, _, _, _, _, _, _, _, _, _, _, _, _, _, _, _, _, _, _, _, _, _, _, _, _, _, _, _, _, _, _, _, _, _, _, _, _, _, _, _, _, _, _, _, _, _, _, _, _, _, _, _, _, _, _, _, _, _, _, _, _, _, _, _, _, _, _, _, _, _, _, _, _, _, _, _, _, _, _, _, _, _, _, _, _, _, _, _, _, _, _, _, _, _, _, _, _, _, _, _, _, _, _, _, _, _, _, _, _, _, _, _, _, _, _, _, _, _, _, _, _, _, _, _, _, _, _, _, _, _, _, _, _, _, _, _, _, _, _, _, _, _, _, _, _, _, _, _, _, _, _, _, _, _, _, _, _, _, _, _, _]) rfl ?_
                    refine c_region (n := 248) ⟨rfl, rfl⟩ ?_
                    refine s_val (r_fieldAddr (k := 3) Try.runUnderlying38 rfl Try.sizeOf35 (by decide) rfl rfl) ?_
                    refine s_val (r_load1 Try.isAgg35 rfl (H.at 4 rfl) rfl) ?_
                    refine s_val (r_move rfl) ?_
                    refine s_val (r_indexAddrS Try.runUnderlying35 Try.sizeOf36 rfl rfl (by omega) (by show _ < ((x.gens.set k.toNat 0).length : Int); rw [List.length_set]; omega)) ?_
                    refine s_st (m_store1 H 0 Try.sizeOf36 rfl rfl rfl rfl (by rw [List.length_append, uC_length]; omega) (uC_setA x.gens sp2 k.toNat 0 (by omega) (by omega))) (L' := (_ :: _ :: _ :: _ :: _ :: _ :: _ :: _)) rfl ?_
                    intro w H
                    refine c_nil0 (l' := [_, _, _, _, _, _, _, _, _, _, _, _, _, _, _, _, _, _, _, _, _, _, _, _, _, _, _, _, _, _, _, _, _, _, _, _, _, _, _, _, _, _, _, _, _, _, _, _, _, _, _, _, _, _, _, _, _, _, _, _, _, _, _, _, _, _, _, _, _, _, _, _, _, _, _, _, _, _, _, _, _, _, _, _, _, _, _, _, _, _, _, _, _, _, _, _, _, _, _, _, _, _, _, _, _, _, _, _, _, _, _, _, _, _, _, _, _, _, _, _, _, _, _, _, _, _, _, _, _, _, _, _, _, _, _, _, _, _, _, _, _, _, _, _, _, _, _, _, _, _, _, _, _, _, _, _, _, _, _, _, _, _, _, _, _, _, _, _, _, _, _, _, _, _, _, _, _, _, _, _, _, _, _, _, _, _, _, _, _, _, _, _, _, _, _, _, _, _, _, _, _, _, _, _, _, _, _, _, _, _, _, _, _, _, _, _, _, _, _, _, _, _, _, _, _, _, _, _, _, _, _, _, _, _, _, _, _, _, _, _, _, _, _, _, _, _, _, _]) rfl ?_
                    refine x_blockNormal ?_
                    refine x_thenNormal ?_
                    refine c_rseq (n := 248) ⟨rfl, rfl⟩ ?_
                    refine s_val (r_fieldAddr (k := 4) Try.runUnderlying32 rfl Try.sizeOf28 (by decide) rfl rfl) ?_
                    refine s_val (r_load1 Try.isAgg28 rfl (H.at 5 rfl) rfl) ?_
                    refine s_val (r_move rfl) ?_
                    refine s_call (r_call Try.call13 (ec rfl (ec rfl en))) (free_spec bl x i N (by omega) k _ hL (H.ownsM (.cons _ (.cons _ (.cons _ (.cons _ (.cons _ (.cons _ (.cons _ (List.Sublist.refl _)))))))))) ?_
                    rintro v w ⟨rfl, N2, hL2, HC⟩
                    have hfr : freeL x k = ({ x with gens := x.gens.set k.toNat 0 }, 0) := by unfold freeL; rw [if_neg (by omega), if_neg h149, if_neg (by omega)]
                    rw [hfr] at hL2 ⊢
                    have hL3 : LogN 150 51 89 72 bl ({ x with gens := x.gens.set k.toNat 0 }) (i + 1) N2 := LogN.mono hL2 (Nat.le_succ _)
                    replace H : St w0 [] w (_ :: _ :: _ :: _ :: _ :: _ :: _ :: N2) := St.callr (L := [_, _, _, _, _, _, _]) H HC
                    refine s_val (r_move rfl) ?_
                    refine s_val (r_neq rfl rfl) ?_
                    refine c_nil (l' := [_, _, _, _, _, _, _, _, _, _, _, _, _, _, _, _, _, _, _, _, _, _, _, _, _, _, _, _, _, _, _, _, _, _, _, _, _, _, _, _, _, _, _, _, _, _, _, _, _, _, _, _, _, _, _, _, _, _, _, _, _, _, _, _, _, _, _, _, _, _, _, _, _, _, _, _, _, _, _, _, _, _, _, _, _, _, _, _, _, _, _, _, _, _, _, _, _, _, _, _, _, _, _, _, _, _, _, _, _, _, _, _, _, _, _, _, _, _, _, _, _, _, _, _, _, _, _, _, _, _, _, _, _, _, _, _, _, _, _, _, _, _, _, _, _, _, _, _, _, _, _, _, _, _, _, _, _, _, _, _, _, _, _, _, _, _, _, _, _, _, _, _, _, _, _, _, _, _, _, _, _, _, _, _, _, _, _, _, _, _, _, _, _, _, _, _, _, _, _, _, _, _, _, _, _, _, _, _, _, _, _, _, _, _, _, _, _, _, _, _, _, _, _, _, _, _, _, _, _, _, _, _, _, _, _, _, _, _, _, _, _, _, _, _, _, _, _, _]) rfl ?_
                    refine c_if rfl (fun h166 => ?_) (fun h166 => ?_)
                    · skip
                      exact absurd rfl h166
                    · skip
                      refine wp_skip ?_
                      refine x_blockNormal ?_
                      refine x_thenNormal ?_
                      refine c_rseq (n := 248) ⟨rfl, rfl⟩ ?_
                      refine s_val (r_fieldAddr (k := 4) Try.runUnderlying32 rfl Try.sizeOf28 (by decide) rfl rfl) ?_
                      refine s_val (r_load1 Try.isAgg28 rfl (H.at 5 rfl) rfl) ?_
                      refine s_val (r_loadn Try.isAgg38 Try.sizeOf38 rfl (H.at 4 rfl) (by first | exact (kC_td _) | exact (hC_td _) | exact (hC_seed _) | exact (shC_td _ _) | exact (sdC_td _ _) | exact (xrL_td _ _ _) | exact (xrC_td _ _ _ _ _ _ _) | exact (rigC_td _ _ _ _ _ _ _) | exact (doC_td _)) (by first | exact (kC_length _) | exact (hC_length _) | exact (shC_length _ _) | exact (wC_length _) | exact (sdC_length _ _) | exact (xrL_length _ _ _) | exact (xrC_length _ _ _ _ _ _ _) | exact (rigC_length _ _ _ _ _ _ _) | exact (doC_length _) | exact rfl)) ?_
                      have hr3 : URow w (some ⟨bu2, 0, none⟩) ({ x with gens := x.gens.set k.toNat 0 } : LS).gens := fun _ => ⟨bu2, 0, [], sp2, _, _, rfl, by rw [List.nil_append]; exact H.at 0 rfl, rfl⟩
                      refine s_call (r_call Try.call17 (ec rfl (ec rfl en))) (alike_spec bl ({ x with gens := x.gens.set k.toNat 0 } : LS) _ _ _ (hL3.rdM (by omega) H (fun p hp => (List.mem_cons_of_mem _ (List.mem_cons_of_mem _ (List.mem_cons_of_mem _ (List.mem_cons_of_mem _ (List.mem_cons_of_mem _ (List.mem_cons_of_mem _ (List.mem_cons_of_mem _ hp))))))))) hr3) ?_
                      rintro v w ⟨rfl, HC⟩
                      replace H := H.quiet HC
                      refine s_val (r_not rfl) ?_
                      refine c_nil (l' := [_, _, _, _, _, _, _, _, _, _, _, _, _, _, _, _, _, _, _, _, _, _, _, _, _, _, _, _, _, _, _, _, _, _, _, _, _, _, _, _, _, _, _, _, _, _, _, _, _, _, _, _, _, _, _, _, _, _, _, _, _, _, _, _, _, _, _, _, _, _, _, _, _, _, _, _, _, _, _, _, _, _, _, _, _, _, _, _, _, _, _, _, _, _, _, _, _, _, _, _, _, _, _, _, _, _, _, _, _, _, _, _, _, _, _, _, _, _, _, _, _, _, _, _, _, _, _, _, _, _, _, _, _, _, _, _, _, _, _, _, _, _, _, _, _, _, _, _, _, _, _, _, _, _, _, _, _, _, _, _, _, _, _, _, _, _, _, _, _, _, _, _, _, _, _, _, _, _, _, _, _, _, _, _, _, _, _, _, _, _, _, _, _, _, _, _, _, _, _, _, _, _, _, _, _, _, _, _, _, _, _, _, _, _, _, _, _, _, _, _, _, _, _, _, _, _, _, _, _, _, _, _, _, _, _, _, _, _, _, _, _, _, _, _, _, _, _, _]) rfl ?_
                      refine c_iff rfl ?_
                      refine wp_skip ?_
                      refine x_blockNormal ?_
                      refine x_thenNormal ?_
                      refine c_region (n := 248) ⟨rfl, rfl⟩ ?_
                      refine s_val (r_add rfl rfl (w_i64 (by omega) (by omega))) ?_
                      refine s_val (r_move rfl) ?_
                      refine c_nil0 (l' := [_, _, _, _, _, _, _, _, _, _, _, _, _, _, _, _, _, _, _, _, _, _, _, _, _, _, _, _, _, _, _, _, _, _, _, _, _, _, _, _, _, _, _, _, _, _, _, _, _, _, _, _, _, _, _, _, _, _, _, _, _, _, _, _, _, _, _, _, _, _, _, _, _, _, _, _, _, _, _, _, _, _, _, _, _, _, _, _, _, _, _, _, _, _, _, _, _, _, _, _, _, _, _, _, _, _, _, _, _, _, _, _, _, _, _, _, _, _, _, _, _, _, _, _, _, _, _, _, _, _, _, _, _, _, _, _, _, _, _, _, _, _, _, _, _, _, _, _, _, _, _, _, _, _, _, _, _, _, _, _, _, _, _, _, _, _, _, _, _, _, _, _, _, _, _, _, _, _, _, _, _, _, _, _, _, _, _, _, _, _, _, _, _, _, _, _, _, _, _, _, _, _, _, _, _, _, _, _, _, _, _, _, _, _, _, _, _, _, _, _, _, _, _, _, _, _, _, _, _, _, _, _, _, _, _, _, _, _, _, _, _, _, _, _, _, _, _, _]) rfl ?_
                      skip
                      replace H := H.sub (.cons_cons _ (.cons _ (.cons_cons _ (.cons_cons _ (.cons_cons _ (.cons_cons _ (.cons _ (List.Sublist.refl _))))))))
                      replace H := H.swp 0 (L' := (_ :: _ :: _ :: _ :: _ :: _)) rfl
                      replace H := H.swp 1 (L' := (_ :: _ :: _ :: _ :: _ :: _)) rfl
                      replace H := H.swp 2 (L' := (_ :: _ :: _ :: _ :: _ :: _)) rfl
                      replace H := H.swp 3 (L' := (_ :: _ :: _ :: _ :: _ :: _)) rfl
                      exact ⟨i + 1, _, rfl, ⟨_, _, _, _, _, _, _, _, _, _, _, _, _, _, _, _, _, _, _, _, _, _, _, _, _, _, _, _, _, _, _, _, _, _, _, _, _, _, _, _, _, _, _, _, _, _, _, _, _, _, _, _, _, _, _, _, _, _, _, _, _, _, _, _, _, _, _, _, _, _, _, _, _, _, _, _, _, _, _, _, _, _, _, _, _, _, _, _, _, _, _, _, _, _, _, _, _, _, _, _, _, _, _, _, _, _, _, _, _, _, _, _, _, _, _, _, _, _, _, _, _, _, _, _, _, _, _, _, _, _, _, _, _, _, _, _, _, _, gs, bs, { x with gens := x.gens.set k.toNat 0 }, bu2, sp2, cc, N2, rfl, by omega, hL3, ⟨by show (x.gens.set k.toNat 0).length ≤ _; rw [List.length_set]; exact hd1, by show _ ≤ (x.gens.set k.toNat 0).length + _; rw [List.length_set]; exact hd2⟩, ⟨hxg, hxz, by show x.known ≤ _; omega⟩, ⟨hl1, hl2⟩, hPL, hbr, H⟩, by omega⟩
          · skip
            refine c_rseq (n := 248) ⟨rfl, rfl⟩ ?_
            refine s_val (r_eql rfl rfl) ?_
            refine s_val (r_assign rfl) ?_
            refine c_nil (l' := [_, _, _, _, _, _, _, _, _, _, _, _, _, _, _, _, _, _, _, _, _, _, _, _, _, _, _, _, _, _, _, _, _, _, _, _, _, _, _, _, _, _, _, _, _, _, _, _, _, _, _, _, _, _, _, _, _, _, _, _, _, _, _, _, _, _, _, _, _, _, _, _, _, _, _, _, _, _, _, _, _, _, _, _, _, _, _, _, _, _, _, _, _, _, _, _, _, _, _, _, _, _, _, _, _, _, _, _, _, _, _, _, _, _, _, _, _, _, _, _, _, _, _, _, _, _, _, _, _, _, _, _, _, _, _, _, _, _, _, _, _, _, _, _, _, _, _, _, _, _, _, _, _, _, _, _, _, _, _, _, _, _, _, _, _, _, _, _, _, _, _, _, _, _, _, _, _, _, _, _, _, _, _, _, _, _, _, _, _, _, _, _, _, _, _, _, _, _, _, _, _, _, _, _, _, _, _, _, _, _, _, _, _, _, _, _, _, _, _, _, _, _, _, _, _, _, _, _, _, _, _, _, _, _, _, _, _, _, _, _, _, _, _, _, _, _, _, _]) rfl ?_
            refine c_if rfl (fun h167 => ?_) (fun h167 => ?_)
            · skip
              refine c_rseq (n := 248) ⟨rfl, rfl⟩ ?_
              refine s_val (r_fieldAddr (k := 4) Try.runUnderlying32 rfl Try.sizeOf28 (by decide) rfl rfl) ?_
              refine s_val (r_load1 Try.isAgg28 rfl (H.at 4 rfl) rfl) ?_
              refine s_call (r_call Try.call14 (ec rfl en)) (lflush_spec bl x i N (by omega) _ hL (H.ownsM (.cons _ (.cons _ (.cons _ (.cons _ (.cons _ (.cons _ (List.Sublist.refl _))))))))) ?_
              rintro v w ⟨rfl, N2, hL2, HC⟩
              have hL3 : LogN 150 51 89 72 bl x (i + 1) N2 := LogN.mono hL2 (Nat.le_succ _)
              replace H : St w0 [] w (_ :: _ :: _ :: _ :: _ :: _ :: N2) := St.callr (L := [_, _, _, _, _, _]) H HC
              refine s_val (r_neq rfl rfl) ?_
              refine c_nil (l' := [_, _, _, _, _, _, _, _, _, _, _, _, _, _, _, _, _, _, _, _, _, _, _, _, _, _, _, _, _, _, _, _, _, _, _, _, _, _, _, _, _, _, _, _, _, _, _, _, _, _, _, _, _, _, _, _, _, _, _, _, _, _, _, _, _, _, _, _, _, _, _, _, _, _, _, _, _, _, _, _, _, _, _, _, _, _, _, _, _, _, _, _, _, _, _, _, _, _, _, _, _, _, _, _, _, _, _, _, _, _, _, _, _, _, _, _, _, _, _, _, _, _, _, _, _, _, _, _, _, _, _, _, _, _, _, _, _, _, _, _, _, _, _, _, _, _, _, _, _, _, _, _, _, _, _, _, _, _, _, _, _, _, _, _, _, _, _, _, _, _, _, _, _, _, _, _, _, _, _, _, _, _, _, _, _, _, _, _, _, _, _, _, _, _, _, _, _, _, _, _, _, _, _, _, _, _, _, _, _, _, _, _, _, _, _, _, _, _, _, _, _, _, _, _, _, _, _, _, _, _, _, _, _, _, _, _, _, _, _, _, _, _, _, _, _, _, _, _]) rfl ?_
              refine c_if rfl (fun h172 => ?_) (fun h172 => ?_)
              · skip
                exfalso; omega
              · skip
                refine wp_skip ?_
                refine x_blockNormal ?_
                refine x_thenNormal ?_
                refine c_rseq (n := 248) ⟨rfl, rfl⟩ ?_
                refine s_val (r_fieldAddr (k := 4) Try.runUnderlying32 rfl Try.sizeOf28 (by decide) rfl rfl) ?_
                refine s_val (r_load1 Try.isAgg28 rfl (H.at 4 rfl) rfl) ?_
                refine s_val (r_loadn Try.isAgg38 Try.sizeOf38 rfl (H.at 3 rfl) (by first | exact (kC_td _) | exact (hC_td _) | exact (hC_seed _) | exact (shC_td _ _) | exact (sdC_td _ _) | exact (xrL_td _ _ _) | exact (xrC_td _ _ _ _ _ _ _) | exact (rigC_td _ _ _ _ _ _ _) | exact (doC_td _)) (by first | exact (kC_length _) | exact (hC_length _) | exact (shC_length _ _) | exact (wC_length _) | exact (sdC_length _ _) | exact (xrL_length _ _ _) | exact (xrC_length _ _ _ _ _ _ _) | exact (rigC_length _ _ _ _ _ _ _) | exact (doC_length _) | exact rfl)) ?_
                have hr3 : URow w (some ⟨bu, 0, none⟩) x.gens := fun _ => ⟨bu, 0, [], sp, _, _, rfl, by rw [List.nil_append]; exact H.at 5 rfl, rfl⟩
                refine s_call (r_call Try.call17 (ec rfl (ec rfl en))) (alike_spec bl x _ _ _ (hL3.rdM (by omega) H (fun p hp => (List.mem_cons_of_mem _ (List.mem_cons_of_mem _ (List.mem_cons_of_mem _ (List.mem_cons_of_mem _ (List.mem_cons_of_mem _ (List.mem_cons_of_mem _ hp)))))))) hr3) ?_
                rintro v w ⟨rfl, HC⟩
                replace H := H.quiet HC
                refine s_val (r_not rfl) ?_
                refine c_nil (l' := [_, _, _, _, _, _, _, _, _, _, _, _, _, _, _, _, _, _, _, _, _, _, _, _, _, _, _, _, _, _, _, _, _, _, _, _, _, _, _, _, _, _, _, _, _, _, _, _, _, _, _, _, _, _, _, _, _, _, _, _, _, _, _, _, _, _, _, _, _, _, _, _, _, _, _, _, _, _, _, _, _, _, _, _, _, _, _, _, _, _, _, _, _, _, _, _, _, _, _, _, _, _, _, _, _, _, _, _, _, _, _, _, _, _, _, _, _, _, _, _, _, _, _, _, _, _, _, _, _, _, _, _, _, _, _, _, _, _, _, _, _, _, _, _, _, _, _, _, _, _, _, _, _, _, _, _, _, _, _, _, _, _, _, _, _, _, _, _, _, _, _, _, _, _, _, _, _, _, _, _, _, _, _, _, _, _, _, _, _, _, _, _, _, _, _, _, _, _, _, _, _, _, _, _, _, _, _, _, _, _, _, _, _, _, _, _, _, _, _, _, _, _, _, _, _, _, _, _, _, _, _, _, _, _, _, _, _, _, _, _, _, _, _, _, _, _, _, _]) rfl ?_
                refine c_iff rfl ?_
                refine wp_skip ?_
                refine x_blockNormal ?_
                refine x_thenNormal ?_
                refine c_region (n := 248) ⟨rfl, rfl⟩ ?_
                refine s_val (r_add rfl rfl (w_i64 (by omega) (by omega))) ?_
                refine s_val (r_move rfl) ?_
                refine c_nil0 (l' := [_, _, _, _, _, _, _, _, _, _, _, _, _, _, _, _, _, _, _, _, _, _, _, _, _, _, _, _, _, _, _, _, _, _, _, _, _, _, _, _, _, _, _, _, _, _, _, _, _, _, _, _, _, _, _, _, _, _, _, _, _, _, _, _, _, _, _, _, _, _, _, _, _, _, _, _, _, _, _, _, _, _, _, _, _, _, _, _, _, _, _, _, _, _, _, _, _, _, _, _, _, _, _, _, _, _, _, _, _, _, _, _, _, _, _, _, _, _, _, _, _, _, _, _, _, _, _, _, _, _, _, _, _, _, _, _, _, _, _, _, _, _, _, _, _, _, _, _, _, _, _, _, _, _, _, _, _, _, _, _, _, _, _, _, _, _, _, _, _, _, _, _, _, _, _, _, _, _, _, _, _, _, _, _, _, _, _, _, _, _, _, _, _, _, _, _, _, _, _, _, _, _, _, _, _, _, _, _, _, _, _, _, _, _, _, _, _, _, _, _, _, _, _, _, _, _, _, _, _, _, _, _, _, _, _, _, _, _, _, _, _, _, _, _, _, _, _, _]) rfl ?_
                skip
                replace H := H.sub (.cons _ (.cons_cons _ (.cons_cons _ (.cons_cons _ (.cons_cons _ (.cons_cons _ (List.Sublist.refl _)))))))
                exact ⟨i + 1, _, rfl, ⟨_, _, _, _, _, _, _, _, _, _, _, _, _, _, _, _, _, _, _, _, _, _, _, _, _, _, _, _, _, _, _, _, _, _, _, _, _, _, _, _, _, _, _, _, _, _, _, _, _, _, _, _, _, _, _, _, _, _, _, _, _, _, _, _, _, _, _, _, _, _, _, _, _, _, _, _, _, _, _, _, _, _, _, _, _, _, _, _, _, _, _, _, _, _, _, _, _, _, _, _, _, _, _, _, _, _, _, _, _, _, _, _, _, _, _, _, _, _, _, _, _, _, _, _, _, _, _, _, _, _, _, _, _, _, _, _, _, _, gs, bs, x, bu, sp, cx, N2, rfl, by omega, hL3, ⟨hc1, hc2⟩, ⟨hxg, hxz, by omega⟩, ⟨hl1, hl2⟩, hPL, hbr, H⟩, by omega⟩
            · skip
              refine c_rseq (n := 248) ⟨rfl, rfl⟩ ?_
              refine s_new (m_bslice0 H Try.runUnderlying40 Try.sizeOf5) ?_
              intro w bz H
              refine s_val (r_fieldAddr (k := 2) Try.runUnderlying44 rfl Try.sizeOf40 (by decide) rfl rfl) ?_
              refine s_val (r_load1 Try.isAgg40 rfl (H.at 1 rfl) rfl) ?_
              refine s_any (m_append_lit H Try.runUnderlying40 Try.runUnderlying40 (fun _ h => nomatch h) Try.sizeOf5 Try.zeroValue5 rfl Try.typeInfo5 (by rw [bytes5]; omega) (by rw [bytes5]; have := h120 i (by omega); omega) (ec rfl (ec rfl en)) (((hbd i (by omega)).st (H.sub (List.nil_sublist _))).src _)) ?_
              rintro v w ⟨ao, co, No, rfl, hNo, H⟩
              replace H : St w0 [] w (_ :: _ :: _ :: _ :: _ :: _ :: (No ++ N)) := St.mid4 (A := [_, _, _, _, _, _]) H
              refine s_val (r_assign rfl) ?_
              refine c_nil (l' := [_, _, _, _, _, _, _, _, _, _, _, _, _, _, _, _, _, _, _, _, _, _, _, _, _, _, _, _, _, _, _, _, _, _, _, _, _, _, _, _, _, _, _, _, _, _, _, _, _, _, _, _, _, _, _, _, _, _, _, _, _, _, _, _, _, _, _, _, _, _, _, _, _, _, _, _, _, _, _, _, _, _, _, _, _, _, _, _, _, _, _, _, _, _, _, _, _, _, _, _, _, _, _, _, _, _, _, _, _, _, _, _, _, _, _, _, _, _, _, _, _, _, _, _, _, _, _, _, _, _, _, _, _, _, _, _, _, _, _, _, _, _, _, _, _, _, _, _, _, _, _, _, _, _, _, _, _, _, _, _, _, _, _, _, _, _, _, _, _, _, _, _, _, _, _, _, _, _, _, _, _, _, _, _, _, _, _, _, _, _, _, _, _, _, _, _, _, _, _, _, _, _, _, _, _, _, _, _, _, _, _, _, _, _, _, _, _, _, _, _, _, _, _, _, _, _, _, _, _, _, _, _, _, _, _, _, _, _, _, _, _, _, _, _, _, _, _, _]) rfl ?_
              refine c_rseq (n := 248) ⟨rfl, rfl⟩ ?_
              refine s_val (r_fieldAddr (k := 4) Try.runUnderlying32 rfl Try.sizeOf28 (by decide) rfl rfl) ?_
              refine s_val (r_load1 Try.isAgg28 rfl (H.at 4 rfl) rfl) ?_
              refine s_val (r_move rfl) ?_
              refine s_call (r_call Try.call15 (ec rfl (ec rfl en))) (append_spec bl x i N (by omega) (by omega) ao co (dl acts i).body.b _ (hNo.browK (A := [_, _, _, _, _, _]) H) hL (H.ownsM (.cons _ (.cons _ (.cons _ (.cons _ (.cons _ (.cons _ (List.sublist_append_right _ _))))))))) ?_
              rintro v w ⟨rfl, N2, hL2, HC⟩
              replace H : St w0 [] w (_ :: _ :: _ :: _ :: _ :: _ :: (No ++ N2)) := St.call3 (A := [_, _, _, _, _, _]) H HC
              refine s_val (r_move rfl) ?_
              refine s_val (r_extract rfl rfl) ?_
              refine s_val (r_extract rfl rfl) ?_
              refine s_val (r_assign rfl) ?_
              refine s_val (r_assign rfl) ?_
              refine c_nil (l' := [_, _, _, _, _, _, _, _, _, _, _, _, _, _, _, _, _, _, _, _, _, _, _, _, _, _, _, _, _, _, _, _, _, _, _, _, _, _, _, _, _, _, _, _, _, _, _, _, _, _, _, _, _, _, _, _, _, _, _, _, _, _, _, _, _, _, _, _, _, _, _, _, _, _, _, _, _, _, _, _, _, _, _, _, _, _, _, _, _, _, _, _, _, _, _, _, _, _, _, _, _, _, _, _, _, _, _, _, _, _, _, _, _, _, _, _, _, _, _, _, _, _, _, _, _, _, _, _, _, _, _, _, _, _, _, _, _, _, _, _, _, _, _, _, _, _, _, _, _, _, _, _, _, _, _, _, _, _, _, _, _, _, _, _, _, _, _, _, _, _, _, _, _, _, _, _, _, _, _, _, _, _, _, _, _, _, _, _, _, _, _, _, _, _, _, _, _, _, _, _, _, _, _, _, _, _, _, _, _, _, _, _, _, _, _, _, _, _, _, _, _, _, _, _, _, _, _, _, _, _, _, _, _, _, _, _, _, _, _, _, _, _, _, _, _, _, _, _]) rfl ?_
              refine c_seq ?_
              refine c_rseq (n := 248) ⟨rfl, rfl⟩ ?_
              refine s_val (r_move rfl) ?_
              refine s_val (r_lens Try.runUnderlying40 (ec rfl en)) ?_
              refine s_val (r_move rfl) ?_
              refine c_nil (l' := [_, _, _, _, _, _, _, _, _, _, _, _, _, _, _, _, _, _, _, _, _, _, _, _, _, _, _, _, _, _, _, _, _, _, _, _, _, _, _, _, _, _, _, _, _, _, _, _, _, _, _, _, _, _, _, _, _, _, _, _, _, _, _, _, _, _, _, _, _, _, _, _, _, _, _, _, _, _, _, _, _, _, _, _, _, _, _, _, _, _, _, _, _, _, _, _, _, _, _, _, _, _, _, _, _, _, _, _, _, _, _, _, _, _, _, _, _, _, _, _, _, _, _, _, _, _, _, _, _, _, _, _, _, _, _, _, _, _, _, _, _, _, _, _, _, _, _, _, _, _, _, _, _, _, _, _, _, _, _, _, _, _, _, _, _, _, _, _, _, _, _, _, _, _, _, _, _, _, _, _, _, _, _, _, _, _, _, _, _, _, _, _, _, _, _, _, _, _, _, _, _, _, _, _, _, _, _, _, _, _, _, _, _, _, _, _, _, _, _, _, _, _, _, _, _, _, _, _, _, _, _, _, _, _, _, _, _, _, _, _, _, _, _, _, _, _, _, _]) rfl ?_
              refine wp_block ?_
              refine c_loop (fun (l0 : List Value) (j : Nat) (l : List Value) (w : World) => ∃ (u19 u70 u71 u72 u73 u74 u75 u76 u77 u78 : Value) (ys : List UInt8) (No : List (Nat × Obj)), l = ovr l0 [N_, N_, N_, N_, N_, N_, N_, N_, N_, N_, N_, N_, N_, N_, N_, N_, N_, N_, N_, Y_ u19, N_, N_, N_, N_, N_, N_, N_, N_, N_, N_, N_, N_, N_, N_, N_, N_, N_, N_, N_, N_, N_, N_, N_, N_, N_, N_, N_, N_, N_, N_, N_, N_, N_, N_, N_, N_, N_, N_, N_, N_, N_, N_, N_, N_, N_, N_, N_, N_, N_, Y_ (.int .i64 j), Y_ u70, Y_ u71, Y_ u72, Y_ u73, Y_ u74, Y_ u75, Y_ u76, Y_ u77, Y_ u78] ∧ j ≤ (dl acts i).body.b.length ∧ ys.length = (dl acts i).body.b.length ∧ RowN 1 5 (bC ys) (dl acts i).body.b.length ao co No ∧ St w0 [] w ((b13, .cells (doC (dl acts i)).toArray 44 (0, 0)) :: (b11, .cells (uC gs).toArray 42 (0, 0)) :: (b10, .cells (bdR bs).toArray 41 (0, 0)) :: (b9, .cells (xrL x (some ⟨bu, 0, none⟩) cx).toArray 38 (0, 0)) :: (b7, .cells (rigC pp pa pb pm (some ⟨bl, 0, none⟩) g z).toArray 32 (0, 0)) :: (bu, .cells (uC x.gens ++ sp).toArray 36 (0, 0)) :: No ++ N2)) (fun (j : Nat) => (dl acts i).body.b.length - j) 0 ⟨_, _, _, _, _, _, _, _, _, _, (dl acts i).body.b, No, rfl, by omega, rfl, hNo, H⟩ ?_
              intro j l w ⟨u19, u70, u71, u72, u73, u74, u75, u76, u77, u78, ys, No, hl, hj, hyl, hNo, H⟩
              obtain rfl := hl.trans (rfl : _ = [_, _, _, _, _, _, _, _, _, _, _, _, _, _, _, _, _, _, _, _, _, _, _, _, _, _, _, _, _, _, _, _, _, _, _, _, _, _, _, _, _, _, _, _, _, _, _, _, _, _, _, _, _, _, _, _, _, _, _, _, _, _, _, _, _, _, _, _, _, _, _, _, _, _, _, _, _, _, _, _, _, _, _, _, _, _, _, _, _, _, _, _, _, _, _, _, _, _, _, _, _, _, _, _, _, _, _, _, _, _, _, _, _, _, _, _, _, _, _, _, _, _, _, _, _, _, _, _, _, _, _, _, _, _, _, _, _, _, _, _, _, _, _, _, _, _, _, _, _, _, _, _, _, _, _, _, _, _, _, _, _, _, _, _, _, _, _, _, _, _, _, _, _, _, _, _, _, _, _, _, _, _, _, _, _, _, _, _, _, _, _, _, _, _, _, _, _, _, _, _, _, _, _, _, _, _, _, _, _, _, _, _, _, _, _, _, _, _, _, _, _, _, _, _, _, _, _, _, _, _, _, _, _, _, _, _, _, _, _, _, _, _, _, _, _, _, _, _])
              clear hl
              refine c_rseq (n := 248) ⟨rfl, rfl⟩ ?_
              refine s_val (r_lss rfl rfl) ?_
              refine c_nil (l' := [_, _, _, _, _, _, _, _, _, _, _, _, _, _, _, _, _, _, _, _, _, _, _, _, _, _, _, _, _, _, _, _, _, _, _, _, _, _, _, _, _, _, _, _, _, _, _, _, _, _, _, _, _, _, _, _, _, _, _, _, _, _, _, _, _, _, _, _, _, _, _, _, _, _, _, _, _, _, _, _, _, _, _, _, _, _, _, _, _, _, _, _, _, _, _, _, _, _, _, _, _, _, _, _, _, _, _, _, _, _, _, _, _, _, _, _, _, _, _, _, _, _, _, _, _, _, _, _, _, _, _, _, _, _, _, _, _, _, _, _, _, _, _, _, _, _, _, _, _, _, _, _, _, _, _, _, _, _, _, _, _, _, _, _, _, _, _, _, _, _, _, _, _, _, _, _, _, _, _, _, _, _, _, _, _, _, _, _, _, _, _, _, _, _, _, _, _, _, _, _, _, _, _, _, _, _, _, _, _, _, _, _, _, _, _, _, _, _, _, _, _, _, _, _, _, _, _, _, _, _, _, _, _, _, _, _, _, _, _, _, _, _, _, _, _, _, _, _]) rfl ?_
              refine c_seq ?_
              refine c_if rfl (fun h70 => ?_) (fun h70 => ?_)
              · skip
                obtain ⟨bo, so, rfl, hc3, rfl, hc4⟩ := hNo.some (by omega)
                refine wp_skip ?_
                refine x_thenNormal ?_
                refine c_seq ?_
                refine wp_block ?_
                refine c_rseq (n := 248) ⟨rfl, rfl⟩ ?_
                refine s_val (r_move rfl) ?_
                refine s_val (r_assign rfl) ?_
                refine c_nil (l' := [_, _, _, _, _, _, _, _, _, _, _, _, _, _, _, _, _, _, _, _, _, _, _, _, _, _, _, _, _, _, _, _, _, _, _, _, _, _, _, _, _, _, _, _, _, _, _, _, _, _, _, _, _, _, _, _, _, _, _, _, _, _, _, _, _, _, _, _, _, _, _, _, _, _, _, _, _, _, _, _, _, _, _, _, _, _, _, _, _, _, _, _, _, _, _, _, _, _, _, _, _, _, _, _, _, _, _, _, _, _, _, _, _, _, _, _, _, _, _, _, _, _, _, _, _, _, _, _, _, _, _, _, _, _, _, _, _, _, _, _, _, _, _, _, _, _, _, _, _, _, _, _, _, _, _, _, _, _, _, _, _, _, _, _, _, _, _, _, _, _, _, _, _, _, _, _, _, _, _, _, _, _, _, _, _, _, _, _, _, _, _, _, _, _, _, _, _, _, _, _, _, _, _, _, _, _, _, _, _, _, _, _, _, _, _, _, _, _, _, _, _, _, _, _, _, _, _, _, _, _, _, _, _, _, _, _, _, _, _, _, _, _, _, _, _, _, _, _]) rfl ?_
                refine c_region (n := 248) ⟨rfl, rfl⟩ ?_
                refine s_val (r_move rfl) ?_
                refine s_val (r_move rfl) ?_
                refine s_val (r_indexAddrS Try.runUnderlying40 Try.sizeOf5 rfl rfl (by omega) (by omega)) ?_
                refine s_val (r_load1 Try.isAgg5 rfl (H.at 6 rfl) (bC_atA ys so (i := j) (by omega) (by omega))) ?_
                refine s_val (r_add rfl rfl (w_u8' _)) ?_
                refine s_val (r_indexAddrS Try.runUnderlying40 Try.sizeOf5 rfl rfl (by omega) (by omega)) ?_
                refine s_st (m_store1 H 6 Try.sizeOf5 rfl rfl rfl rfl (by rw [List.length_append, bC_length]; omega) (bC_inc ys so (i := j) (by omega) (by omega) rfl)) (L' := (_ :: _ :: _ :: _ :: _ :: _ :: _ :: _)) rfl ?_
                intro w H
                refine c_nil0 (l' := [_, _, _, _, _, _, _, _, _, _, _, _, _, _, _, _, _, _, _, _, _, _, _, _, _, _, _, _, _, _, _, _, _, _, _, _, _, _, _, _, _, _, _, _, _, _, _, _, _, _, _, _, _, _, _, _, _, _, _, _, _, _, _, _, _, _, _, _, _, _, _, _, _, _, _, _, _, _, _, _, _, _, _, _, _, _, _, _, _, _, _, _, _, _, _, _, _, _, _, _, _, _, _, _, _, _, _, _, _, _, _, _, _, _, _, _, _, _, _, _, _, _, _, _, _, _, _, _, _, _, _, _, _, _, _, _, _, _, _, _, _, _, _, _, _, _, _, _, _, _, _, _, _, _, _, _, _, _, _, _, _, _, _, _, _, _, _, _, _, _, _, _, _, _, _, _, _, _, _, _, _, _, _, _, _, _, _, _, _, _, _, _, _, _, _, _, _, _, _, _, _, _, _, _, _, _, _, _, _, _, _, _, _, _, _, _, _, _, _, _, _, _, _, _, _, _, _, _, _, _, _, _, _, _, _, _, _, _, _, _, _, _, _, _, _, _, _, _]) rfl ?_
                refine x_blockNormal ?_
                refine x_thenNormal ?_
                refine c_region (n := 248) ⟨rfl, rfl⟩ ?_
                have hb120 := h120 i (by omega)
                refine s_val (r_add rfl rfl (w_i64 (by omega) (by omega))) ?_
                refine s_val (r_move rfl) ?_
                refine c_nil0 (l' := [_, _, _, _, _, _, _, _, _, _, _, _, _, _, _, _, _, _, _, _, _, _, _, _, _, _, _, _, _, _, _, _, _, _, _, _, _, _, _, _, _, _, _, _, _, _, _, _, _, _, _, _, _, _, _, _, _, _, _, _, _, _, _, _, _, _, _, _, _, _, _, _, _, _, _, _, _, _, _, _, _, _, _, _, _, _, _, _, _, _, _, _, _, _, _, _, _, _, _, _, _, _, _, _, _, _, _, _, _, _, _, _, _, _, _, _, _, _, _, _, _, _, _, _, _, _, _, _, _, _, _, _, _, _, _, _, _, _, _, _, _, _, _, _, _, _, _, _, _, _, _, _, _, _, _, _, _, _, _, _, _, _, _, _, _, _, _, _, _, _, _, _, _, _, _, _, _, _, _, _, _, _, _, _, _, _, _, _, _, _, _, _, _, _, _, _, _, _, _, _, _, _, _, _, _, _, _, _, _, _, _, _, _, _, _, _, _, _, _, _, _, _, _, _, _, _, _, _, _, _, _, _, _, _, _, _, _, _, _, _, _, _, _, _, _, _, _, _]) rfl ?_
                exact ⟨j + 1, _, rfl, ⟨_, _, _, _, _, _, _, _, _, _, (ys.set j (ys.getD j 0 + 1)), [(bo, .cells (bC (ys.set j (ys.getD j 0 + 1)) ++ so).toArray 5 (0, 0))], rfl, by omega, (by rw [List.length_set]; exact hyl), (RowN.mk (by rw [bC_length, List.length_set]; omega) hc4 (by rw [List.length_append, bC_length, List.length_set]; rw [List.length_append, bC_length] at hc3; omega)), H⟩, by omega⟩
              · skip
                replace H := St.drop3 (A := [_, _, _, _, _, _]) H
                refine wp_exit (x_thenExit (x_thenExit (x_blockHit ?_)))
                refine x_thenNormal ?_
                refine c_seq ?_
                refine c_rseq (n := 248) ⟨rfl, rfl⟩ ?_
                refine s_val (r_fieldAddr (k := 2) Try.runUnderlying44 rfl Try.sizeOf40 (by decide) rfl rfl) ?_
                refine s_val (r_load1 Try.isAgg40 rfl (H.at 0 rfl) rfl) ?_
                refine s_val (r_lens Try.runUnderlying40 (ec rfl en)) ?_
                refine s_val (r_gtr rfl rfl) ?_
                refine c_nil (l' := [_, _, _, _, _, _, _, _, _, _, _, _, _, _, _, _, _, _, _, _, _, _, _, _, _, _, _, _, _, _, _, _, _, _, _, _, _, _, _, _, _, _, _, _, _, _, _, _, _, _, _, _, _, _, _, _, _, _, _, _, _, _, _, _, _, _, _, _, _, _, _, _, _, _, _, _, _, _, _, _, _, _, _, _, _, _, _, _, _, _, _, _, _, _, _, _, _, _, _, _, _, _, _, _, _, _, _, _, _, _, _, _, _, _, _, _, _, _, _, _, _, _, _, _, _, _, _, _, _, _, _, _, _, _, _, _, _, _, _, _, _, _, _, _, _, _, _, _, _, _, _, _, _, _, _, _, _, _, _, _, _, _, _, _, _, _, _, _, _, _, _, _, _, _, _, _, _, _, _, _, _, _, _, _, _, _, _, _, _, _, _, _, _, _, _, _, _, _, _, _, _, _, _, _, _, _, _, _, _, _, _, _, _, _, _, _, _, _, _, _, _, _, _, _, _, _, _, _, _, _, _, _, _, _, _, _, _, _, _, _, _, _, _, _, _, _, _, _]) rfl ?_
                refine c_if rfl (fun h82 => ?_) (fun h82 => ?_)
                · skip
                  have hap : appL x (dl acts i).body.b = (x, 0, 3) := by unfold appL; rw [if_pos (by omega)]
                  have q1 : (appL x (dl acts i).body.b).1 = x := by rw [hap]
                  have q2 : (appL x (dl acts i).body.b).2.1 = 0 := by rw [hap]
                  have q3 : (appL x (dl acts i).body.b).2.2 = 3 := by rw [hap]
                  rw [q1] at hL2
                  rw [q2, q3]
                  have hL3 : LogN 150 51 89 72 bl x (i + 1) N2 := hL2
                  
                  refine c_seq ?_
                  refine c_rseq (n := 248) ⟨rfl, rfl⟩ ?_
                  refine s_val (r_move rfl) ?_
                  refine s_test (r_neq rfl rfl) (fun h84 => ?_) (fun h84 => ?_)
                  · skip
                    exfalso; omega
                  · skip
                    refine s_val (r_move rfl) ?_
                    refine g_yes rfl rfl ?_
                    refine s_val (r_move rfl) ?_
                    refine g_yes rfl rfl ?_
                    refine s_test (r_neq rfl rfl) (fun h87 => ?_) (fun h87 => ?_)
                    · skip
                      exfalso; omega
                    · skip
                      refine s_val (r_pickf rfl rfl) ?_
                      refine c_nil (l' := [_, _, _, _, _, _, _, _, _, _, _, _, _, _, _, _, _, _, _, _, _, _, _, _, _, _, _, _, _, _, _, _, _, _, _, _, _, _, _, _, _, _, _, _, _, _, _, _, _, _, _, _, _, _, _, _, _, _, _, _, _, _, _, _, _, _, _, _, _, _, _, _, _, _, _, _, _, _, _, _, _, _, _, _, _, _, _, _, _, _, _, _, _, _, _, _, _, _, _, _, _, _, _, _, _, _, _, _, _, _, _, _, _, _, _, _, _, _, _, _, _, _, _, _, _, _, _, _, _, _, _, _, _, _, _, _, _, _, _, _, _, _, _, _, _, _, _, _, _, _, _, _, _, _, _, _, _, _, _, _, _, _, _, _, _, _, _, _, _, _, _, _, _, _, _, _, _, _, _, _, _, _, _, _, _, _, _, _, _, _, _, _, _, _, _, _, _, _, _, _, _, _, _, _, _, _, _, _, _, _, _, _, _, _, _, _, _, _, _, _, _, _, _, _, _, _, _, _, _, _, _, _, _, _, _, _, _, _, _, _, _, _, _, _, _, _, _, _]) rfl ?_
                      refine c_iff rfl ?_
                      refine wp_skip ?_
                      refine x_thenNormal ?_
                      refine wp_exit (x_thenExit (x_blockHit ?_))
                      refine x_thenNormal ?_
                      refine c_rseq (n := 248) ⟨rfl, rfl⟩ ?_
                      refine s_val (r_fieldAddr (k := 4) Try.runUnderlying32 rfl Try.sizeOf28 (by decide) rfl rfl) ?_
                      refine s_val (r_load1 Try.isAgg28 rfl (H.at 4 rfl) rfl) ?_
                      refine s_val (r_loadn Try.isAgg38 Try.sizeOf38 rfl (H.at 3 rfl) (by first | exact (kC_td _) | exact (hC_td _) | exact (hC_seed _) | exact (shC_td _ _) | exact (sdC_td _ _) | exact (xrL_td _ _ _) | exact (xrC_td _ _ _ _ _ _ _) | exact (rigC_td _ _ _ _ _ _ _) | exact (doC_td _)) (by first | exact (kC_length _) | exact (hC_length _) | exact (shC_length _ _) | exact (wC_length _) | exact (sdC_length _ _) | exact (xrL_length _ _ _) | exact (xrC_length _ _ _ _ _ _ _) | exact (rigC_length _ _ _ _ _ _ _) | exact (doC_length _) | exact rfl)) ?_
                      have hr3 : URow w (some ⟨bu, 0, none⟩) x.gens := fun _ => ⟨bu, 0, [], sp, _, _, rfl, by rw [List.nil_append]; exact H.at 5 rfl, rfl⟩
                      refine s_call (r_call Try.call17 (ec rfl (ec rfl en))) (alike_spec bl x _ _ _ (hL3.rdM (by omega) H (fun p hp => (List.mem_cons_of_mem _ (List.mem_cons_of_mem _ (List.mem_cons_of_mem _ (List.mem_cons_of_mem _ (List.mem_cons_of_mem _ (List.mem_cons_of_mem _ hp)))))))) hr3) ?_
                      rintro v w ⟨rfl, HC⟩
                      replace H := H.quiet HC
                      refine s_val (r_not rfl) ?_
                      refine c_nil (l' := [_, _, _, _, _, _, _, _, _, _, _, _, _, _, _, _, _, _, _, _, _, _, _, _, _, _, _, _, _, _, _, _, _, _, _, _, _, _, _, _, _, _, _, _, _, _, _, _, _, _, _, _, _, _, _, _, _, _, _, _, _, _, _, _, _, _, _, _, _, _, _, _, _, _, _, _, _, _, _, _, _, _, _, _, _, _, _, _, _, _, _, _, _, _, _, _, _, _, _, _, _, _, _, _, _, _, _, _, _, _, _, _, _, _, _, _, _, _, _, _, _, _, _, _, _, _, _, _, _, _, _, _, _, _, _, _, _, _, _, _, _, _, _, _, _, _, _, _, _, _, _, _, _, _, _, _, _, _, _, _, _, _, _, _, _, _, _, _, _, _, _, _, _, _, _, _, _, _, _, _, _, _, _, _, _, _, _, _, _, _, _, _, _, _, _, _, _, _, _, _, _, _, _, _, _, _, _, _, _, _, _, _, _, _, _, _, _, _, _, _, _, _, _, _, _, _, _, _, _, _, _, _, _, _, _, _, _, _, _, _, _, _, _, _, _, _, _, _]) rfl ?_
                      refine c_iff rfl ?_
                      refine wp_skip ?_
                      refine x_blockNormal ?_
                      refine x_thenNormal ?_
                      refine c_region (n := 248) ⟨rfl, rfl⟩ ?_
                      refine s_val (r_add rfl rfl (w_i64 (by omega) (by omega))) ?_
                      refine s_val (r_move rfl) ?_
                      refine c_nil0 (l' := [_, _, _, _, _, _, _, _, _, _, _, _, _, _, _, _, _, _, _, _, _, _, _, _, _, _, _, _, _, _, _, _, _, _, _, _, _, _, _, _, _, _, _, _, _, _, _, _, _, _, _, _, _, _, _, _, _, _, _, _, _, _, _, _, _, _, _, _, _, _, _, _, _, _, _, _, _, _, _, _, _, _, _, _, _, _, _, _, _, _, _, _, _, _, _, _, _, _, _, _, _, _, _, _, _, _, _, _, _, _, _, _, _, _, _, _, _, _, _, _, _, _, _, _, _, _, _, _, _, _, _, _, _, _, _, _, _, _, _, _, _, _, _, _, _, _, _, _, _, _, _, _, _, _, _, _, _, _, _, _, _, _, _, _, _, _, _, _, _, _, _, _, _, _, _, _, _, _, _, _, _, _, _, _, _, _, _, _, _, _, _, _, _, _, _, _, _, _, _, _, _, _, _, _, _, _, _, _, _, _, _, _, _, _, _, _, _, _, _, _, _, _, _, _, _, _, _, _, _, _, _, _, _, _, _, _, _, _, _, _, _, _, _, _, _, _, _, _]) rfl ?_
                      skip
                      replace H := H.sub (.cons _ (.cons_cons _ (.cons_cons _ (.cons_cons _ (.cons_cons _ (.cons_cons _ (List.Sublist.refl _)))))))
                      exact ⟨i + 1, _, rfl, ⟨_, _, _, _, _, _, _, _, _, _, _, _, _, _, _, _, _, _, _, _, _, _, _, _, _, _, _, _, _, _, _, _, _, _, _, _, _, _, _, _, _, _, _, _, _, _, _, _, _, _, _, _, _, _, _, _, _, _, _, _, _, _, _, _, _, _, _, _, _, _, _, _, _, _, _, _, _, _, _, _, _, _, _, _, _, _, _, _, _, _, _, _, _, _, _, _, _, _, _, _, _, _, _, _, _, _, _, _, _, _, _, _, _, _, _, _, _, _, _, _, _, _, _, _, _, _, _, _, _, _, _, _, _, _, _, _, _, _, gs, bs, x, bu, sp, cx, N2, rfl, by omega, hL3, ⟨hc1, hc2⟩, ⟨hxg, hxz, by omega⟩, ⟨hl1, hl2⟩, hPL, hbr, H⟩, by omega⟩
                · skip
                  rcases appL_cases hF (body := (dl acts i).body.b) (by omega) with hap | ⟨s, t, gn, hs0, hs1, ht0, ht1, hg0, hg1, hap⟩
                  · skip
                    have q1 : (appL x (dl acts i).body.b).1 = x := by rw [hap]
                    have q2 : (appL x (dl acts i).body.b).2.1 = 0 := by rw [hap]
                    have q3 : (appL x (dl acts i).body.b).2.2 = 6 := by rw [hap]
                    have q4 : refAt (appL x (dl acts i).body.b) = -1 := by rw [hap, refAt_full]
                    rw [q1] at hL2
                    rw [q2, q3]
                    have hL3 : LogN 150 51 89 72 bl x (i + 1) N2 := hL2
                    
                    refine wp_skip ?_
                    refine x_thenNormal ?_
                    refine c_rseq (n := 248) ⟨rfl, rfl⟩ ?_
                    refine s_val (r_loadn Try.isAgg38 Try.sizeOf38 rfl (H.at 3 rfl) (by first | exact (kC_td _) | exact (hC_td _) | exact (hC_seed _) | exact (shC_td _ _) | exact (sdC_td _ _) | exact (xrL_td _ _ _) | exact (xrC_td _ _ _ _ _ _ _) | exact (rigC_td _ _ _ _ _ _ _) | exact (doC_td _)) (by first | exact (kC_length _) | exact (hC_length _) | exact (shC_length _ _) | exact (wC_length _) | exact (sdC_length _ _) | exact (xrL_length _ _ _) | exact (xrC_length _ _ _ _ _ _ _) | exact (rigC_length _ _ _ _ _ _ _) | exact (doC_length _) | exact rfl)) ?_
                    have hr2 : URow w (some ⟨bu, 0, none⟩) x.gens := fun _ => ⟨bu, 0, [], sp, _, _, rfl, by rw [List.nil_append]; exact H.at 5 rfl, rfl⟩
                    refine s_call (r_call Try.call16 (ec rfl en)) (xappend_spec x hF _ cx (dl acts i).body.b (by omega) _ hr2) ?_
                    rintro v w ⟨a2, c2, N3, rfl, hN3, HC⟩
                    rw [q1, q4]
                    rw [q1] at hN3
                    obtain ⟨bv, sv, rfl, rfl, hd1, hd2⟩ := hN3.own1 (by omega)
                    replace H := H.call0 HC
                    refine s_val (r_move rfl) ?_
                    refine s_val (r_extract rfl rfl) ?_
                    refine s_val (r_extract rfl rfl) ?_
                    refine s_new (m_alloc (cs := (xrC 0 0 0 0 none 0 0)) H Try.zeroValue38 rfl) ?_
                    intro w b20 H
                    refine s_st (m_storen H 0 5 Try.sizeOf38 rfl rfl (by first | exact (kC_length _) | exact (hC_length _) | exact (shC_length _ _) | exact (wC_length _) | exact (sdC_length _ _) | exact (xrL_length _ _ _) | exact (xrC_length _ _ _ _ _ _ _) | exact (rigC_length _ _ _ _ _ _ _) | exact (doC_length _)) (by first | exact (kC_one _) | exact (hC_one _) | exact (shC_one _ _) | exact (elW.one _) | exact (sdC_one _ _) | exact (xrL_one _ _ _) | exact (xrC_one _ _ _ _ _ _ _) | exact (rigC_one _ _ _ _ _ _ _) | exact (elDo.one _)) rfl (by first | exact (by rw [kC_length]; omega) | exact (by rw [hC_length]; omega) | exact (by rw [wC_length]; omega) | exact (by show _ ≤ 5; omega) | exact (by show _ ≤ 7; omega) | exact (by show _ ≤ 3; omega)) (xrL_sp0 _ _ _ _ _)) (L' := (_ :: _ :: _ :: _ :: _ :: _ :: _ :: _ :: _)) rfl ?_
                    intro w H
                    refine s_val (r_assign rfl) ?_
                    refine c_nil (l' := [_, _, _, _, _, _, _, _, _, _, _, _, _, _, _, _, _, _, _, _, _, _, _, _, _, _, _, _, _, _, _, _, _, _, _, _, _, _, _, _, _, _, _, _, _, _, _, _, _, _, _, _, _, _, _, _, _, _, _, _, _, _, _, _, _, _, _, _, _, _, _, _, _, _, _, _, _, _, _, _, _, _, _, _, _, _, _, _, _, _, _, _, _, _, _, _, _, _, _, _, _, _, _, _, _, _, _, _, _, _, _, _, _, _, _, _, _, _, _, _, _, _, _, _, _, _, _, _, _, _, _, _, _, _, _, _, _, _, _, _, _, _, _, _, _, _, _, _, _, _, _, _, _, _, _, _, _, _, _, _, _, _, _, _, _, _, _, _, _, _, _, _, _, _, _, _, _, _, _, _, _, _, _, _, _, _, _, _, _, _, _, _, _, _, _, _, _, _, _, _, _, _, _, _, _, _, _, _, _, _, _, _, _, _, _, _, _, _, _, _, _, _, _, _, _, _, _, _, _, _, _, _, _, _, _, _, _, _, _, _, _, _, _, _, _, _, _, _]) rfl ?_
                    refine c_seq ?_
                    refine c_rseq (n := 248) ⟨rfl, rfl⟩ ?_
                    refine s_val (r_move rfl) ?_
                    refine s_val (r_lss rfl rfl) ?_
                    refine c_nil (l' := [_, _, _, _, _, _, _, _, _, _, _, _, _, _, _, _, _, _, _, _, _, _, _, _, _, _, _, _, _, _, _, _, _, _, _, _, _, _, _, _, _, _, _, _, _, _, _, _, _, _, _, _, _, _, _, _, _, _, _, _, _, _, _, _, _, _, _, _, _, _, _, _, _, _, _, _, _, _, _, _, _, _, _, _, _, _, _, _, _, _, _, _, _, _, _, _, _, _, _, _, _, _, _, _, _, _, _, _, _, _, _, _, _, _, _, _, _, _, _, _, _, _, _, _, _, _, _, _, _, _, _, _, _, _, _, _, _, _, _, _, _, _, _, _, _, _, _, _, _, _, _, _, _, _, _, _, _, _, _, _, _, _, _, _, _, _, _, _, _, _, _, _, _, _, _, _, _, _, _, _, _, _, _, _, _, _, _, _, _, _, _, _, _, _, _, _, _, _, _, _, _, _, _, _, _, _, _, _, _, _, _, _, _, _, _, _, _, _, _, _, _, _, _, _, _, _, _, _, _, _, _, _, _, _, _, _, _, _, _, _, _, _, _, _, _, _, _, _]) rfl ?_
                    refine c_if rfl (fun h95 => ?_) (fun h95 => ?_)
                    · skip
                      skip
                      refine c_seq ?_
                      refine c_rseq (n := 248) ⟨rfl, rfl⟩ ?_
                      refine s_val (r_move rfl) ?_
                      refine s_test (r_neq rfl rfl) (fun h97 => ?_) (fun h97 => ?_)
                      · skip
                        exfalso; omega
                      · skip
                        refine s_val (r_move rfl) ?_
                        refine g_yes rfl rfl ?_
                        refine s_val (r_move rfl) ?_
                        refine g_yes rfl rfl ?_
                        refine s_test (r_neq rfl rfl) (fun h100 => ?_) (fun h100 => ?_)
                        · skip
                          exfalso; omega
                        · skip
                          refine s_val (r_pickf rfl rfl) ?_
                          refine c_nil (l' := [_, _, _, _, _, _, _, _, _, _, _, _, _, _, _, _, _, _, _, _, _, _, _, _, _, _, _, _, _, _, _, _, _, _, _, _, _, _, _, _, _, _, _, _, _, _, _, _, _, _, _, _, _, _, _, _, _, _, _, _, _, _, _, _, _, _, _, _, _, _, _, _, _, _, _, _, _, _, _, _, _, _, _, _, _, _, _, _, _, _, _, _, _, _, _, _, _, _, _, _, _, _, _, _, _, _, _, _, _, _, _, _, _, _, _, _, _, _, _, _, _, _, _, _, _, _, _, _, _, _, _, _, _, _, _, _, _, _, _, _, _, _, _, _, _, _, _, _, _, _, _, _, _, _, _, _, _, _, _, _, _, _, _, _, _, _, _, _, _, _, _, _, _, _, _, _, _, _, _, _, _, _, _, _, _, _, _, _, _, _, _, _, _, _, _, _, _, _, _, _, _, _, _, _, _, _, _, _, _, _, _, _, _, _, _, _, _, _, _, _, _, _, _, _, _, _, _, _, _, _, _, _, _, _, _, _, _, _, _, _, _, _, _, _, _, _, _, _]) rfl ?_
                          refine c_iff rfl ?_
                          refine wp_skip ?_
                          refine x_thenNormal ?_
                          refine wp_exit (x_thenExit (x_blockHit ?_))
                          refine x_thenNormal ?_
                          refine c_rseq (n := 248) ⟨rfl, rfl⟩ ?_
                          refine s_val (r_fieldAddr (k := 4) Try.runUnderlying32 rfl Try.sizeOf28 (by decide) rfl rfl) ?_
                          refine s_val (r_load1 Try.isAgg28 rfl (H.at 6 rfl) rfl) ?_
                          refine s_val (r_loadn Try.isAgg38 Try.sizeOf38 rfl (H.at 5 rfl) (by first | exact (kC_td _) | exact (hC_td _) | exact (hC_seed _) | exact (shC_td _ _) | exact (sdC_td _ _) | exact (xrL_td _ _ _) | exact (xrC_td _ _ _ _ _ _ _) | exact (rigC_td _ _ _ _ _ _ _) | exact (doC_td _)) (by first | exact (kC_length _) | exact (hC_length _) | exact (shC_length _ _) | exact (wC_length _) | exact (sdC_length _ _) | exact (xrL_length _ _ _) | exact (xrC_length _ _ _ _ _ _ _) | exact (rigC_length _ _ _ _ _ _ _) | exact (doC_length _) | exact rfl)) ?_
                          have hr3 : URow w (some ⟨bu, 0, none⟩) x.gens := fun _ => ⟨bu, 0, [], sp, _, _, rfl, by rw [List.nil_append]; exact H.at 7 rfl, rfl⟩
                          refine s_call (r_call Try.call17 (ec rfl (ec rfl en))) (alike_spec bl x _ _ _ (hL3.rdM (by omega) H (fun p hp => (List.mem_cons_of_mem _ (List.mem_cons_of_mem _ (List.mem_cons_of_mem _ (List.mem_cons_of_mem _ (List.mem_cons_of_mem _ (List.mem_cons_of_mem _ (List.mem_cons_of_mem _ (List.mem_cons_of_mem _ hp)))))))))) hr3) ?_
                          rintro v w ⟨rfl, HC⟩
                          replace H := H.quiet HC
                          refine s_val (r_not rfl) ?_
                          refine c_nil (l' := [_, _, _, _, _, _, _, _, _, _, _, _, _, _, _, _, _, _, _, _, _, _, _, _, _, _, _, _, _, _, _, _, _, _, _, _, _, _, _, _, _, _, _, _, _, _, _, _, _, _, _, _, _, _, _, _, _, _, _, _, _, _, _, _, _, _, _, _, _, _, _, _, _, _, _, _, _, _, _, _, _, _, _, _, _, _, _, _, _, _, _, _, _, _, _, _, _, _, _, _, _, _, _, _, _, _, _, _, _, _, _, _, _, _, _, _, _, _, _, _, _, _, _, _, _, _, _, _, _, _, _, _, _, _, _, _, _, _, _, _, _, _, _, _, _, _, _, _, _, _, _, _, _, _, _, _, _, _, _, _, _, _, _, _, _, _, _, _, _, _, _, _, _, _, _, _, _, _, _, _, _, _, _, _, _, _, _, _, _, _, _, _, _, _, _, _, _, _, _, _, _, _, _, _, _, _, _, _, _, _, _, _, _, _, _, _, _, _, _, _, _, _, _, _, _, _, _, _, _, _, _, _, _, _, _, _, _, _, _, _, _, _, _, _, _, _, _, _]) rfl ?_
                          refine c_iff rfl ?_
                          refine wp_skip ?_
                          refine x_blockNormal ?_
                          refine x_thenNormal ?_
                          refine c_region (n := 248) ⟨rfl, rfl⟩ ?_
                          refine s_val (r_add rfl rfl (w_i64 (by omega) (by omega))) ?_
                          refine s_val (r_move rfl) ?_
                          refine c_nil0 (l' := [_, _, _, _, _, _, _, _, _, _, _, _, _, _, _, _, _, _, _, _, _, _, _, _, _, _, _, _, _, _, _, _, _, _, _, _, _, _, _, _, _, _, _, _, _, _, _, _, _, _, _, _, _, _, _, _, _, _, _, _, _, _, _, _, _, _, _, _, _, _, _, _, _, _, _, _, _, _, _, _, _, _, _, _, _, _, _, _, _, _, _, _, _, _, _, _, _, _, _, _, _, _, _, _, _, _, _, _, _, _, _, _, _, _, _, _, _, _, _, _, _, _, _, _, _, _, _, _, _, _, _, _, _, _, _, _, _, _, _, _, _, _, _, _, _, _, _, _, _, _, _, _, _, _, _, _, _, _, _, _, _, _, _, _, _, _, _, _, _, _, _, _, _, _, _, _, _, _, _, _, _, _, _, _, _, _, _, _, _, _, _, _, _, _, _, _, _, _, _, _, _, _, _, _, _, _, _, _, _, _, _, _, _, _, _, _, _, _, _, _, _, _, _, _, _, _, _, _, _, _, _, _, _, _, _, _, _, _, _, _, _, _, _, _, _, _, _, _]) rfl ?_
                          skip
                          replace H := H.sub (.cons _ (.cons _ (.cons _ (.cons_cons _ (.cons_cons _ (.cons_cons _ (.cons_cons _ (.cons_cons _ (List.Sublist.refl _)))))))))
                          exact ⟨i + 1, _, rfl, ⟨_, _, _, _, _, _, _, _, _, _, _, _, _, _, _, _, _, _, _, _, _, _, _, _, _, _, _, _, _, _, _, _, _, _, _, _, _, _, _, _, _, _, _, _, _, _, _, _, _, _, _, _, _, _, _, _, _, _, _, _, _, _, _, _, _, _, _, _, _, _, _, _, _, _, _, _, _, _, _, _, _, _, _, _, _, _, _, _, _, _, _, _, _, _, _, _, _, _, _, _, _, _, _, _, _, _, _, _, _, _, _, _, _, _, _, _, _, _, _, _, _, _, _, _, _, _, _, _, _, _, _, _, _, _, _, _, _, _, gs, bs, x, bu, sp, cx, N2, rfl, by omega, hL3, ⟨hc1, hc2⟩, ⟨hxg, hxz, by omega⟩, ⟨hl1, hl2⟩, hPL, hbr, H⟩, by omega⟩
                    · skip
                      exfalso; omega
                  · skip
                    obtain ⟨y, hy⟩ : ∃ y, y = putL x s t gn (dl acts i).body.b := ⟨_, rfl⟩
                    have q1 : (appL x (dl acts i).body.b).1 = y := by rw [hap]; exact hy.symm
                    have q2 : (appL x (dl acts i).body.b).2.1 = 2 + s * x.z + t := by rw [hap]
                    have q3 : (appL x (dl acts i).body.b).2.2 = 0 := by rw [hap]
                    have q4 : refAt (appL x (dl acts i).body.b) = 2 + s * x.z + t := by rw [hap, refAt_put]
                    rw [q1] at hL2
                    rw [q2, q3]
                    have hL3 : LogN 150 51 89 72 bl y (i + 1) N2 := hL2
                    have hszr := sz_rng hs0 hs1 (z := x.z) (by omega)
                    have hgs := gz_small (g := x.g) (z := x.z) (by omega) (by omega) (by omega)
                    have hFy : LogF y := hL3.F
                    have hyh : y.head = s := by rw [hy]; rfl
                    have hyz : y.g = x.g := by rw [hy]; rfl
                    have hygl := hFy.gl
                    have hyk : y.known = if gn > x.known then gn else x.known := by rw [hy]; rfl
                    have hyk1 : gn ≤ y.known ∧ x.known ≤ y.known ∧ y.known ≤ x.known + 1 := by rw [hyk]; split <;> omega
                    have hgn : y.gens.getD y.head.toNat 0 = gn := by rw [hyh, hy]; exact set_getD0 (by omega)
                    have hyC : y.C = x.C.set (2 + s * x.z + t).toNat (sealS (2 + s * x.z + t) gn (dl acts i).body.b) := by rw [hy]; rfl
                    have hcl := hF.cl
                    have hPL2 : ∀ n, PL y.C y.known (gs.set (2 + s * x.z + t).toNat (y.gens.getD y.head.toNat 0)) (bs.set (2 + s * x.z + t).toNat (dl acts i).body) n := by
                      intro n
                      have h := (hPL n).put (k' := y.known) (n := (2 + s * x.z + t).toNat) (gn := gn) (y := (dl acts i).body) hyk1.2.1 (by omega) (by omega) (by omega) hg0 hyk1.1 (by omega)
                      have e : (((2 + s * x.z + t).toNat : Nat) : Int) = 2 + s * x.z + t := by omega
                      rw [e] at h
                      rw [hgn, hyC]
                      exact h
                    refine wp_skip ?_
                    refine x_thenNormal ?_
                    refine c_rseq (n := 248) ⟨rfl, rfl⟩ ?_
                    refine s_val (r_loadn Try.isAgg38 Try.sizeOf38 rfl (H.at 3 rfl) (by first | exact (kC_td _) | exact (hC_td _) | exact (hC_seed _) | exact (shC_td _ _) | exact (sdC_td _ _) | exact (xrL_td _ _ _) | exact (xrC_td _ _ _ _ _ _ _) | exact (rigC_td _ _ _ _ _ _ _) | exact (doC_td _)) (by first | exact (kC_length _) | exact (hC_length _) | exact (shC_length _ _) | exact (wC_length _) | exact (sdC_length _ _) | exact (xrL_length _ _ _) | exact (xrC_length _ _ _ _ _ _ _) | exact (rigC_length _ _ _ _ _ _ _) | exact (doC_length _) | exact rfl)) ?_
                    have hr2 : URow w (some ⟨bu, 0, none⟩) x.gens := fun _ => ⟨bu, 0, [], sp, _, _, rfl, by rw [List.nil_append]; exact H.at 5 rfl, rfl⟩
                    refine s_call (r_call Try.call16 (ec rfl en)) (xappend_spec x hF _ cx (dl acts i).body.b (by omega) _ hr2) ?_
                    rintro v w ⟨a2, c2, N3, rfl, hN3, HC⟩
                    rw [q1, q4]
                    rw [q1] at hN3
                    obtain ⟨bv, sv, rfl, rfl, hd1, hd2⟩ := hN3.own1 (by omega)
                    replace H := H.call0 HC
                    refine s_val (r_move rfl) ?_
                    refine s_val (r_extract rfl rfl) ?_
                    refine s_val (r_extract rfl rfl) ?_
                    refine s_new (m_alloc (cs := (xrC 0 0 0 0 none 0 0)) H Try.zeroValue38 rfl) ?_
                    intro w b20 H
                    refine s_st (m_storen H 0 5 Try.sizeOf38 rfl rfl (by first | exact (kC_length _) | exact (hC_length _) | exact (shC_length _ _) | exact (wC_length _) | exact (sdC_length _ _) | exact (xrL_length _ _ _) | exact (xrC_length _ _ _ _ _ _ _) | exact (rigC_length _ _ _ _ _ _ _) | exact (doC_length _)) (by first | exact (kC_one _) | exact (hC_one _) | exact (shC_one _ _) | exact (elW.one _) | exact (sdC_one _ _) | exact (xrL_one _ _ _) | exact (xrC_one _ _ _ _ _ _ _) | exact (rigC_one _ _ _ _ _ _ _) | exact (elDo.one _)) rfl (by first | exact (by rw [kC_length]; omega) | exact (by rw [hC_length]; omega) | exact (by rw [wC_length]; omega) | exact (by show _ ≤ 5; omega) | exact (by show _ ≤ 7; omega) | exact (by show _ ≤ 3; omega)) (xrL_sp0 _ _ _ _ _)) (L' := (_ :: _ :: _ :: _ :: _ :: _ :: _ :: _ :: _)) rfl ?_
                    intro w H
                    refine s_val (r_assign rfl) ?_
                    refine c_nil (l' := [_, _, _, _, _, _, _, _, _, _, _, _, _, _, _, _, _, _, _, _, _, _, _, _, _, _, _, _, _, _, _, _, _, _, _, _, _, _, _, _, _, _, _, _, _, _, _, _, _, _, _, _, _, _, _, _, _, _, _, _, _, _, _, _, _, _, _, _, _, _, _, _, _, _, _, _, _, _, _, _, _, _, _, _, _, _, _, _, _, _, _, _, _, _, _, _, _, _, _, _, _, _, _, _, _, _, _, _, _, _, _, _, _, _, _, _, _, _, _, _, _, _, _, _, _, _, _, _, _, _, _, _, _, _, _, _, _, _, _, _, _, _, _, _, _, _, _, _, _, _, _, _, _, _, _, _, _, _, _, _, _, _, _, _, _, _, _, _, _, _, _, _, _, _, _, _, _, _, _, _, _, _, _, _, _, _, _, _, _, _, _, _, _, _, _, _, _, _, _, _, _, _, _, _, _, _, _, _, _, _, _, _, _, _, _, _, _, _, _, _, _, _, _, _, _, _, _, _, _, _, _, _, _, _, _, _, _, _, _, _, _, _, _, _, _, _, _, _]) rfl ?_
                    refine c_seq ?_
                    refine c_rseq (n := 248) ⟨rfl, rfl⟩ ?_
                    refine s_val (r_move rfl) ?_
                    refine s_val (r_lss rfl rfl) ?_
                    refine c_nil (l' := [_, _, _, _, _, _, _, _, _, _, _, _, _, _, _, _, _, _, _, _, _, _, _, _, _, _, _, _, _, _, _, _, _, _, _, _, _, _, _, _, _, _, _, _, _, _, _, _, _, _, _, _, _, _, _, _, _, _, _, _, _, _, _, _, _, _, _, _, _, _, _, _, _, _, _, _, _, _, _, _, _, _, _, _, _, _, _, _, _, _, _, _, _, _, _, _, _, _, _, _, _, _, _, _, _, _, _, _, _, _, _, _, _, _, _, _, _, _, _, _, _, _, _, _, _, _, _, _, _, _, _, _, _, _, _, _, _, _, _, _, _, _, _, _, _, _, _, _, _, _, _, _, _, _, _, _, _, _, _, _, _, _, _, _, _, _, _, _, _, _, _, _, _, _, _, _, _, _, _, _, _, _, _, _, _, _, _, _, _, _, _, _, _, _, _, _, _, _, _, _, _, _, _, _, _, _, _, _, _, _, _, _, _, _, _, _, _, _, _, _, _, _, _, _, _, _, _, _, _, _, _, _, _, _, _, _, _, _, _, _, _, _, _, _, _, _, _, _]) rfl ?_
                    refine c_if rfl (fun h95 => ?_) (fun h95 => ?_)
                    · skip
                      exfalso; omega
                    · skip
                      skip
                      refine wp_skip ?_
                      refine x_thenNormal ?_
                      refine c_rseq (n := 248) ⟨rfl, rfl⟩ ?_
                      refine s_val (r_loadn Try.isAgg38 Try.sizeOf38 rfl (H.at 0 rfl) (by first | exact (kC_td _) | exact (hC_td _) | exact (hC_seed _) | exact (shC_td _ _) | exact (sdC_td _ _) | exact (xrL_td _ _ _) | exact (xrC_td _ _ _ _ _ _ _) | exact (rigC_td _ _ _ _ _ _ _) | exact (doC_td _)) (by first | exact (kC_length _) | exact (hC_length _) | exact (shC_length _ _) | exact (wC_length _) | exact (sdC_length _ _) | exact (xrL_length _ _ _) | exact (xrC_length _ _ _ _ _ _ _) | exact (rigC_length _ _ _ _ _ _ _) | exact (doC_length _) | exact rfl)) ?_
                      refine s_st (m_storen H 5 5 Try.sizeOf38 rfl rfl (by first | exact (kC_length _) | exact (hC_length _) | exact (shC_length _ _) | exact (wC_length _) | exact (sdC_length _ _) | exact (xrL_length _ _ _) | exact (xrC_length _ _ _ _ _ _ _) | exact (rigC_length _ _ _ _ _ _ _) | exact (doC_length _)) (by first | exact (kC_one _) | exact (hC_one _) | exact (shC_one _ _) | exact (elW.one _) | exact (sdC_one _ _) | exact (xrL_one _ _ _) | exact (xrC_one _ _ _ _ _ _ _) | exact (rigC_one _ _ _ _ _ _ _) | exact (elDo.one _)) rfl (by first | exact (by rw [kC_length]; omega) | exact (by rw [hC_length]; omega) | exact (by rw [wC_length]; omega) | exact (by show _ ≤ 5; omega) | exact (by show _ ≤ 7; omega) | exact (by show _ ≤ 3; omega)) (xrL_sp _ _ _ _ _ _)) (L' := (_ :: _ :: _ :: _ :: _ :: _ :: _ :: _ :: _)) rfl ?_
                      intro w H
                      refine c_nil (l' := [_, _, _, _, _, _, _, _, _, _, _, _, _, _, _, _, _, _, _, _, _, _, _, _, _, _, _, _, _, _, _, _, _, _, _, _, _, _, _, _, _, _, _, _, _, _, _, _, _, _, _, _, _, _, _, _, _, _, _, _, _, _, _, _, _, _, _, _, _, _, _, _, _, _, _, _, _, _, _, _, _, _, _, _, _, _, _, _, _, _, _, _, _, _, _, _, _, _, _, _, _, _, _, _, _, _, _, _, _, _, _, _, _, _, _, _, _, _, _, _, _, _, _, _, _, _, _, _, _, _, _, _, _, _, _, _, _, _, _, _, _, _, _, _, _, _, _, _, _, _, _, _, _, _, _, _, _, _, _, _, _, _, _, _, _, _, _, _, _, _, _, _, _, _, _, _, _, _, _, _, _, _, _, _, _, _, _, _, _, _, _, _, _, _, _, _, _, _, _, _, _, _, _, _, _, _, _, _, _, _, _, _, _, _, _, _, _, _, _, _, _, _, _, _, _, _, _, _, _, _, _, _, _, _, _, _, _, _, _, _, _, _, _, _, _, _, _, _]) rfl ?_
                      refine c_seq ?_
                      refine c_rseq (n := 248) ⟨rfl, rfl⟩ ?_
                      refine s_val (r_move rfl) ?_
                      refine s_val (r_move rfl) ?_
                      refine s_test (r_neq rfl rfl) (fun h105 => ?_) (fun h105 => ?_)
                      · skip
                        exfalso; omega
                      · skip
                        refine s_val (r_move rfl) ?_
                        refine g_yes rfl rfl ?_
                        refine s_val (r_move rfl) ?_
                        refine g_yes rfl rfl ?_
                        refine s_test (r_neq rfl rfl) (fun h108 => ?_) (fun h108 => ?_)
                        · skip
                          exfalso; omega
                        · skip
                          refine s_val (r_pickf rfl rfl) ?_
                          refine c_nil (l' := [_, _, _, _, _, _, _, _, _, _, _, _, _, _, _, _, _, _, _, _, _, _, _, _, _, _, _, _, _, _, _, _, _, _, _, _, _, _, _, _, _, _, _, _, _, _, _, _, _, _, _, _, _, _, _, _, _, _, _, _, _, _, _, _, _, _, _, _, _, _, _, _, _, _, _, _, _, _, _, _, _, _, _, _, _, _, _, _, _, _, _, _, _, _, _, _, _, _, _, _, _, _, _, _, _, _, _, _, _, _, _, _, _, _, _, _, _, _, _, _, _, _, _, _, _, _, _, _, _, _, _, _, _, _, _, _, _, _, _, _, _, _, _, _, _, _, _, _, _, _, _, _, _, _, _, _, _, _, _, _, _, _, _, _, _, _, _, _, _, _, _, _, _, _, _, _, _, _, _, _, _, _, _, _, _, _, _, _, _, _, _, _, _, _, _, _, _, _, _, _, _, _, _, _, _, _, _, _, _, _, _, _, _, _, _, _, _, _, _, _, _, _, _, _, _, _, _, _, _, _, _, _, _, _, _, _, _, _, _, _, _, _, _, _, _, _, _, _]) rfl ?_
                          refine c_iff rfl ?_
                          refine wp_skip ?_
                          refine x_thenNormal ?_
                          refine d_begin (sz := 248) ⟨rfl, rfl⟩ (by kernel_rfl) H (H.sub (.cons_cons _ (.cons_cons _ (.cons_cons _ (.cons _ (.cons _ (.cons_cons _ (.cons_cons _ (.cons_cons _ (List.Sublist.refl _)))))))))) rfl ?_
                          intro w H
                          refine d_take (i := 0) rfl (by kernel_rfl) (fun _ _ _ h => h) (H.sub (.cons_cons _ (.cons_cons _ (.cons_cons _ (.cons _ (.cons _ (.cons_cons _ (.cons_cons _ (.cons_cons _ (List.Sublist.refl _)))))))))) (fun _ _ => r_move rfl) rfl ?_
                          refine d_take (i := 1) rfl (by kernel_rfl) (fun _ _ _ h => h) (H.sub (.cons_cons _ (.cons_cons _ (.cons_cons _ (.cons _ (.cons _ (.cons_cons _ (.cons_cons _ (.cons_cons _ (List.Sublist.refl _)))))))))) (fun _ _ => r_move rfl) rfl ?_
                          refine d_take (i := 2) rfl (by kernel_rfl) (fun _ _ _ h => h) (H.sub (.cons_cons _ (.cons_cons _ (.cons_cons _ (.cons _ (.cons _ (.cons_cons _ (.cons_cons _ (.cons_cons _ (List.Sublist.refl _)))))))))) (fun _ _ => r_fieldAddr (k := 2) Try.runUnderlying44 rfl Try.sizeOf40 (by decide) rfl rfl) rfl ?_
                          refine d_take (i := 3) rfl (by kernel_rfl) (fun _ _ _ h => h) (H.sub (.cons_cons _ (.cons_cons _ (.cons_cons _ (.cons _ (.cons _ (.cons_cons _ (.cons_cons _ (.cons_cons _ (List.Sublist.refl _)))))))))) (fun _ HS => r_load1 Try.isAgg40 rfl (HS.at 2 rfl) rfl) rfl ?_
                          refine d_take (i := 4) rfl (by kernel_rfl) (fun _ _ _ h => h) (H.sub (.cons_cons _ (.cons_cons _ (.cons_cons _ (.cons _ (.cons _ (.cons_cons _ (.cons_cons _ (.cons_cons _ (List.Sublist.refl _)))))))))) (fun _ _ => r_fieldAddr (k := 3) Try.runUnderlying38 rfl Try.sizeOf35 (by decide) rfl rfl) rfl ?_
                          refine d_take (i := 5) rfl (by kernel_rfl) (fun _ _ _ h => h) (H.sub (.cons_cons _ (.cons_cons _ (.cons_cons _ (.cons _ (.cons _ (.cons_cons _ (.cons_cons _ (.cons_cons _ (List.Sublist.refl _)))))))))) (fun _ HS => r_load1 Try.isAgg35 rfl (HS.at 3 rfl) rfl) rfl ?_
                          refine d_take (i := 6) rfl (by kernel_rfl) (fun _ _ _ h => h) (H.sub (.cons_cons _ (.cons_cons _ (.cons_cons _ (.cons _ (.cons _ (.cons_cons _ (.cons_cons _ (.cons_cons _ (List.Sublist.refl _)))))))))) (fun _ _ => r_fieldAddr (k := 1) Try.runUnderlying38 rfl Try.sizeOf3 (by decide) rfl rfl) rfl ?_
                          refine d_take (i := 7) rfl (by kernel_rfl) (fun _ _ _ h => h) (H.sub (.cons_cons _ (.cons_cons _ (.cons_cons _ (.cons _ (.cons _ (.cons_cons _ (.cons_cons _ (.cons_cons _ (List.Sublist.refl _)))))))))) (fun _ HS => r_load1 Try.isAgg3 rfl (HS.at 3 rfl) rfl) rfl ?_
                          refine d_take (i := 8) rfl (by kernel_rfl) (fun _ _ _ h => h) (H.sub (.cons_cons _ (.cons_cons _ (.cons_cons _ (.cons _ (.cons _ (.cons_cons _ (.cons_cons _ (.cons_cons _ (List.Sublist.refl _)))))))))) (fun _ _ => r_indexAddrS Try.runUnderlying35 Try.sizeOf36 rfl rfl (by omega) (by omega)) rfl ?_
                          refine d_take (i := 9) rfl (by kernel_rfl) (fun _ _ _ h => h) (H.sub (.cons_cons _ (.cons_cons _ (.cons_cons _ (.cons _ (.cons _ (.cons_cons _ (.cons_cons _ (.cons_cons _ (List.Sublist.refl _)))))))))) (fun _ HS => r_load1 Try.isAgg36 rfl (HS.at 1 rfl) (uC_atA y.gens sv (i := y.head.toNat) (by omega) (by omega))) rfl ?_
                          refine d_take (i := 10) rfl (by kernel_rfl) (fun _ _ _ h => h) (H.sub (.cons_cons _ (.cons_cons _ (.cons_cons _ (.cons _ (.cons _ (.cons_cons _ (.cons_cons _ (.cons_cons _ (List.Sublist.refl _)))))))))) (fun _ _ => r_indexAddrA Try.runUnderlying41 Try.sizeOf40 rfl rfl (by omega) (by omega)) rfl ?_
                          refine d_all1 (i := 11) (by kernel_rfl) ?_
                          refine b_st rfl go_none (m_store1 H 4 Try.sizeOf40 rfl rfl rfl rfl (by rw [bdR_length]; omega) (bdR_set bs (2 + s * x.z + t).toNat (dl acts i).body (by omega))) (L' := (_ :: _ :: _ :: _ :: _ :: _ :: _ :: _ :: _)) rfl rfl (fun _ H => (H.sub (.cons_cons _ (.cons_cons _ (.cons_cons _ (.cons _ (.cons _ (.cons_cons _ (.cons_cons _ (.cons_cons _ (List.Sublist.refl _))))))))))) ?_
                          intro w H
                          refine d_take (i := 12) rfl (by kernel_rfl) (fun _ _ _ h => h) (H.sub (.cons_cons _ (.cons_cons _ (.cons_cons _ (.cons _ (.cons _ (.cons_cons _ (.cons_cons _ (.cons_cons _ (List.Sublist.refl _)))))))))) (fun _ _ => r_indexAddrA Try.runUnderlying42 Try.sizeOf36 rfl rfl (by omega) (by omega)) rfl ?_
                          refine d_all1 (i := 13) (by kernel_rfl) ?_
                          refine b_st rfl go_none (m_store1 H 3 Try.sizeOf36 rfl rfl rfl rfl (by rw [uC_length]; omega) (uC_set gs (2 + s * x.z + t).toNat (y.gens.getD y.head.toNat 0) (by omega))) (L' := (_ :: _ :: _ :: _ :: _ :: _ :: _ :: _ :: _)) rfl rfl (fun _ H => (H.sub (.cons_cons _ (.cons_cons _ (.cons_cons _ (.cons _ (.cons _ (.cons_cons _ (.cons_cons _ (.cons_cons _ (List.Sublist.refl _))))))))))) ?_
                          intro w H
                          refine d_done (l' := [_, _, _, _, _, _, _, _, _, _, _, _, _, _, _, _, _, _, _, _, _, _, _, _, _, _, _, _, _, _, _, _, _, _, _, _, _, _, _, _, _, _, _, _, _, _, _, _, _, _, _, _, _, _, _, _, _, _, _, _, _, _, _, _, _, _, _, _, _, _, _, _, _, _, _, _, _, _, _, _, _, _, _, _, _, _, _, _, _, _, _, _, _, _, _, _, _, _, _, _, _, _, _, _, _, _, _, _, _, _, _, _, _, _, _, _, _, _, _, _, _, _, _, _, _, _, _, _, _, _, _, _, _, _, _, _, _, _, _, _, _, _, _, _, _, _, _, _, _, _, _, _, _, _, _, _, _, _, _, _, _, _, _, _, _, _, _, _, _, _, _, _, _, _, _, _, _, _, _, _, _, _, _, _, _, _, _, _, _, _, _, _, _, _, _, _, _, _, _, _, _, _, _, _, _, _, _, _, _, _, _, _, _, _, _, _, _, _, _, _, _, _, _, _, _, _, _, _, _, _, _, _, _, _, _, _, _, _, _, _, _, _, _, _, _, _, _, _]) (by kernel_rfl) rfl ?_
                          refine x_blockNormal ?_
                          refine x_thenNormal ?_
                          refine c_rseq (n := 248) ⟨rfl, rfl⟩ ?_
                          refine s_val (r_fieldAddr (k := 4) Try.runUnderlying32 rfl Try.sizeOf28 (by decide) rfl rfl) ?_
                          refine s_val (r_load1 Try.isAgg28 rfl (H.at 6 rfl) rfl) ?_
                          refine s_val (r_loadn Try.isAgg38 Try.sizeOf38 rfl (H.at 5 rfl) (by first | exact (kC_td _) | exact (hC_td _) | exact (hC_seed _) | exact (shC_td _ _) | exact (sdC_td _ _) | exact (xrL_td _ _ _) | exact (xrC_td _ _ _ _ _ _ _) | exact (rigC_td _ _ _ _ _ _ _) | exact (doC_td _)) (by first | exact (kC_length _) | exact (hC_length _) | exact (shC_length _ _) | exact (wC_length _) | exact (sdC_length _ _) | exact (xrL_length _ _ _) | exact (xrC_length _ _ _ _ _ _ _) | exact (rigC_length _ _ _ _ _ _ _) | exact (doC_length _) | exact rfl)) ?_
                          have hr3 : URow w (some ⟨bv, 0, none⟩) y.gens := fun _ => ⟨bv, 0, [], sv, _, _, rfl, by rw [List.nil_append]; exact H.at 1 rfl, rfl⟩
                          refine s_call (r_call Try.call17 (ec rfl (ec rfl en))) (alike_spec bl y _ _ _ (hL3.rdM (by omega) H (fun p hp => (List.mem_cons_of_mem _ (List.mem_cons_of_mem _ (List.mem_cons_of_mem _ (List.mem_cons_of_mem _ (List.mem_cons_of_mem _ (List.mem_cons_of_mem _ (List.mem_cons_of_mem _ (List.mem_cons_of_mem _ hp)))))))))) hr3) ?_
                          rintro v w ⟨rfl, HC⟩
                          replace H := H.quiet HC
                          refine s_val (r_not rfl) ?_
                          refine c_nil (l' := [_, _, _, _, _, _, _, _, _, _, _, _, _, _, _, _, _, _, _, _, _, _, _, _, _, _, _, _, _, _, _, _, _, _, _, _, _, _, _, _, _, _, _, _, _, _, _, _, _, _, _, _, _, _, _, _, _, _, _, _, _, _, _, _, _, _, _, _, _, _, _, _, _, _, _, _, _, _, _, _, _, _, _, _, _, _, _, _, _, _, _, _, _, _, _, _, _, _, _, _, _, _, _, _, _, _, _, _, _, _, _, _, _, _, _, _, _, _, _, _, _, _, _, _, _, _, _, _, _, _, _, _, _, _, _, _, _, _, _, _, _, _, _, _, _, _, _, _, _, _, _, _, _, _, _, _, _, _, _, _, _, _, _, _, _, _, _, _, _, _, _, _, _, _, _, _, _, _, _, _, _, _, _, _, _, _, _, _, _, _, _, _, _, _, _, _, _, _, _, _, _, _, _, _, _, _, _, _, _, _, _, _, _, _, _, _, _, _, _, _, _, _, _, _, _, _, _, _, _, _, _, _, _, _, _, _, _, _, _, _, _, _, _, _, _, _, _, _]) rfl ?_
                          refine c_iff rfl ?_
                          refine wp_skip ?_
                          refine x_blockNormal ?_
                          refine x_thenNormal ?_
                          refine c_region (n := 248) ⟨rfl, rfl⟩ ?_
                          refine s_val (r_add rfl rfl (w_i64 (by omega) (by omega))) ?_
                          refine s_val (r_move rfl) ?_
                          refine c_nil0 (l' := [_, _, _, _, _, _, _, _, _, _, _, _, _, _, _, _, _, _, _, _, _, _, _, _, _, _, _, _, _, _, _, _, _, _, _, _, _, _, _, _, _, _, _, _, _, _, _, _, _, _, _, _, _, _, _, _, _, _, _, _, _, _, _, _, _, _, _, _, _, _, _, _, _, _, _, _, _, _, _, _, _, _, _, _, _, _, _, _, _, _, _, _, _, _, _, _, _, _, _, _, _, _, _, _, _, _, _, _, _, _, _, _, _, _, _, _, _, _, _, _, _, _, _, _, _, _, _, _, _, _, _, _, _, _, _, _, _, _, _, _, _, _, _, _, _, _, _, _, _, _, _, _, _, _, _, _, _, _, _, _, _, _, _, _, _, _, _, _, _, _, _, _, _, _, _, _, _, _, _, _, _, _, _, _, _, _, _, _, _, _, _, _, _, _, _, _, _, _, _, _, _, _, _, _, _, _, _, _, _, _, _, _, _, _, _, _, _, _, _, _, _, _, _, _, _, _, _, _, _, _, _, _, _, _, _, _, _, _, _, _, _, _, _, _, _, _, _, _]) rfl ?_
                          skip
                          replace H := H.sub (.cons _ (.cons_cons _ (.cons _ (.cons_cons _ (.cons_cons _ (.cons_cons _ (.cons_cons _ (.cons _ (List.Sublist.refl _)))))))))
                          replace H := H.swp 0 (L' := (_ :: _ :: _ :: _ :: _ :: _)) rfl
                          replace H := H.swp 1 (L' := (_ :: _ :: _ :: _ :: _ :: _)) rfl
                          replace H := H.swp 2 (L' := (_ :: _ :: _ :: _ :: _ :: _)) rfl
                          replace H := H.swp 3 (L' := (_ :: _ :: _ :: _ :: _ :: _)) rfl
                          exact ⟨i + 1, _, rfl, ⟨_, _, _, _, _, _, _, _, _, _, _, _, _, _, _, _, _, _, _, _, _, _, _, _, _, _, _, _, _, _, _, _, _, _, _, _, _, _, _, _, _, _, _, _, _, _, _, _, _, _, _, _, _, _, _, _, _, _, _, _, _, _, _, _, _, _, _, _, _, _, _, _, _, _, _, _, _, _, _, _, _, _, _, _, _, _, _, _, _, _, _, _, _, _, _, _, _, _, _, _, _, _, _, _, _, _, _, _, _, _, _, _, _, _, _, _, _, _, _, _, _, _, _, _, _, _, _, _, _, _, _, _, _, _, _, _, _, _, (gs.set (2 + s * x.z + t).toNat (y.gens.getD y.head.toNat 0)), (bs.set (2 + s * x.z + t).toNat (dl acts i).body), y, bv, sv, c2, N2, rfl, by omega, hL3, ⟨hd1, hd2⟩, ⟨by rw [hy]; exact hxg, by rw [hy]; exact hxz, by omega⟩, ⟨by rw [List.length_set]; exact hl1, by rw [List.length_set]; exact hl2⟩, hPL2, (fun n => brow_set hbr (hbd i (by omega)) (by omega) n), H⟩, by omega⟩
        · skip
          skip
          refine wp_exit (x_thenExit (x_thenExit (x_blockHit ?_)))
          refine x_thenNormal ?_
          refine c_seq ?_
          refine c_rseq (n := 248) ⟨rfl, rfl⟩ ?_
          refine s_val (r_assign rfl) ?_
          refine c_nil (l' := [_, _, _, _, _, _, _, _, _, _, _, _, _, _, _, _, _, _, _, _, _, _, _, _, _, _, _, _, _, _, _, _, _, _, _, _, _, _, _, _, _, _, _, _, _, _, _, _, _, _, _, _, _, _, _, _, _, _, _, _, _, _, _, _, _, _, _, _, _, _, _, _, _, _, _, _, _, _, _, _, _, _, _, _, _, _, _, _, _, _, _, _, _, _, _, _, _, _, _, _, _, _, _, _, _, _, _, _, _, _, _, _, _, _, _, _, _, _, _, _, _, _, _, _, _, _, _, _, _, _, _, _, _, _, _, _, _, _, _, _, _, _, _, _, _, _, _, _, _, _, _, _, _, _, _, _, _, _, _, _, _, _, _, _, _, _, _, _, _, _, _, _, _, _, _, _, _, _, _, _, _, _, _, _, _, _, _, _, _, _, _, _, _, _, _, _, _, _, _, _, _, _, _, _, _, _, _, _, _, _, _, _, _, _, _, _, _, _, _, _, _, _, _, _, _, _, _, _, _, _, _, _, _, _, _, _, _, _, _, _, _, _, _, _, _, _, _, _]) rfl ?_
          refine wp_block ?_
          refine c_loop (fun (l0 : List Value) (m : Nat) (l : List Value) (w : World) => ∃ (u6 u23 u24 u25 u26 u27 u179 u180 u181 u182 u183 u184 u185 u186 u187 u188 u189 u190 u191 u192 u193 u194 u195 u196 u197 u198 u199 u200 u201 u202 u203 u204 u205 u206 u207 u208 u209 u210 u211 u212 u213 u214 u215 u216 u217 u218 u219 u220 u221 u222 u223 u224 u225 u226 u227 u228 u229 u230 u231 u232 u233 u234 u235 u236 u237 u238 u239 u240 u241 u242 u243 u244 u245 u246 u247 : Value) , l = ovr l0 [N_, N_, N_, N_, N_, N_, Y_ u6, N_, N_, N_, N_, N_, N_, N_, N_, N_, N_, N_, N_, N_, N_, N_, Y_ (.int .i64 ((m : Int) - 1)), Y_ u23, Y_ u24, Y_ u25, Y_ u26, Y_ u27, N_, N_, N_, N_, N_, N_, N_, N_, N_, N_, N_, N_, N_, N_, N_, N_, N_, N_, N_, N_, N_, N_, N_, N_, N_, N_, N_, N_, N_, N_, N_, N_, N_, N_, N_, N_, N_, N_, N_, N_, N_, N_, N_, N_, N_, N_, N_, N_, N_, N_, N_, N_, N_, N_, N_, N_, N_, N_, N_, N_, N_, N_, N_, N_, N_, N_, N_, N_, N_, N_, N_, N_, N_, N_, N_, N_, N_, N_, N_, N_, N_, N_, N_, N_, N_, N_, N_, N_, N_, N_, N_, N_, N_, N_, N_, N_, N_, N_, N_, N_, N_, N_, N_, N_, N_, N_, N_, N_, N_, N_, N_, N_, N_, N_, N_, N_, N_, N_, N_, N_, N_, N_, N_, N_, N_, N_, N_, N_, N_, N_, N_, N_, N_, N_, N_, N_, N_, N_, N_, N_, N_, N_, N_, N_, N_, N_, N_, N_, N_, N_, N_, Y_ u179, Y_ u180, Y_ u181, Y_ u182, Y_ u183, Y_ u184, Y_ u185, Y_ u186, Y_ u187, Y_ u188, Y_ u189, Y_ u190, Y_ u191, Y_ u192, Y_ u193, Y_ u194, Y_ u195, Y_ u196, Y_ u197, Y_ u198, Y_ u199, Y_ u200, Y_ u201, Y_ u202, Y_ u203, Y_ u204, Y_ u205, Y_ u206, Y_ u207, Y_ u208, Y_ u209, Y_ u210, Y_ u211, Y_ u212, Y_ u213, Y_ u214, Y_ u215, Y_ u216, Y_ u217, Y_ u218, Y_ u219, Y_ u220, Y_ u221, Y_ u222, Y_ u223, Y_ u224, Y_ u225, Y_ u226, Y_ u227, Y_ u228, Y_ u229, Y_ u230, Y_ u231, Y_ u232, Y_ u233, Y_ u234, Y_ u235, Y_ u236, Y_ u237, Y_ u238, Y_ u239, Y_ u240, Y_ u241, Y_ u242, Y_ u243, Y_ u244, Y_ u245, Y_ u246, Y_ u247] ∧ (m : Int) ≤ 2 + g * z + 2 ∧ St w0 [] w ((b11, .cells (uC gs).toArray 42 (0, 0)) :: (b10, .cells (bdR bs).toArray 41 (0, 0)) :: (b9, .cells (xrL x (some ⟨bu, 0, none⟩) cx).toArray 38 (0, 0)) :: (b7, .cells (rigC pp pa pb pm (some ⟨bl, 0, none⟩) g z).toArray 32 (0, 0)) :: (bu, .cells (uC x.gens ++ sp).toArray 36 (0, 0)) :: N)) (fun (m : Nat) => (2 + g * z + 2).toNat - m) 0 ⟨_, _, _, _, _, _, _, _, _, _, _, _, _, _, _, _, _, _, _, _, _, _, _, _, _, _, _, _, _, _, _, _, _, _, _, _, _, _, _, _, _, _, _, _, _, _, _, _, _, _, _, _, _, _, _, _, _, _, _, _, _, _, _, _, _, _, _, _, _, _, _, _, _, _, _, rfl, by omega, H⟩ ?_
          intro m l w ⟨u6, u23, u24, u25, u26, u27, u179, u180, u181, u182, u183, u184, u185, u186, u187, u188, u189, u190, u191, u192, u193, u194, u195, u196, u197, u198, u199, u200, u201, u202, u203, u204, u205, u206, u207, u208, u209, u210, u211, u212, u213, u214, u215, u216, u217, u218, u219, u220, u221, u222, u223, u224, u225, u226, u227, u228, u229, u230, u231, u232, u233, u234, u235, u236, u237, u238, u239, u240, u241, u242, u243, u244, u245, u246, u247, hl, hm, H⟩
          obtain rfl := hl.trans (rfl : _ = [_, _, _, _, _, _, _, _, _, _, _, _, _, _, _, _, _, _, _, _, _, _, _, _, _, _, _, _, _, _, _, _, _, _, _, _, _, _, _, _, _, _, _, _, _, _, _, _, _, _, _, _, _, _, _, _, _, _, _, _, _, _, _, _, _, _, _, _, _, _, _, _, _, _, _, _, _, _, _, _, _, _, _, _, _, _, _, _, _, _, _, _, _, _, _, _, _, _, _, _, _, _, _, _, _, _, _, _, _, _, _, _, _, _, _, _, _, _, _, _, _, _, _, _, _, _, _, _, _, _, _, _, _, _, _, _, _, _, _, _, _, _, _, _, _, _, _, _, _, _, _, _, _, _, _, _, _, _, _, _, _, _, _, _, _, _, _, _, _, _, _, _, _, _, _, _, _, _, _, _, _, _, _, _, _, _, _, _, _, _, _, _, _, _, _, _, _, _, _, _, _, _, _, _, _, _, _, _, _, _, _, _, _, _, _, _, _, _, _, _, _, _, _, _, _, _, _, _, _, _, _, _, _, _, _, _, _, _, _, _, _, _, _, _, _, _, _, _])
          clear hl
          refine c_seq ?_
          refine c_rseq (n := 248) ⟨rfl, rfl⟩ ?_
          refine s_val (r_move rfl) ?_
          refine s_val (r_fieldAddr (k := 5) Try.runUnderlying32 rfl Try.sizeOf30 (by decide) rfl rfl) ?_
          refine s_val (r_loadn Try.isAgg30 Try.sizeOf30 rfl (H.at 3 rfl) (rigC_sh _ _ _ _ _ _ _) (by first | exact (kC_length _) | exact (hC_length _) | exact (shC_length _ _) | exact (wC_length _) | exact (sdC_length _ _) | exact (xrL_length _ _ _) | exact (xrC_length _ _ _ _ _ _ _) | exact (rigC_length _ _ _ _ _ _ _) | exact (doC_length _) | exact rfl)) ?_
          refine s_call (r_call Try.call18 (ec rfl en)) (sectors_spec g z hg0 (by omega) hz0 (by omega) _) ?_
          rintro v w ⟨rfl, HC⟩
          replace H := H.quiet HC
          refine s_val (r_add rfl rfl (w_i64 (by omega) (by omega))) ?_
          refine s_val (r_lss rfl rfl) ?_
          refine c_nil (l' := [_, _, _, _, _, _, _, _, _, _, _, _, _, _, _, _, _, _, _, _, _, _, _, _, _, _, _, _, _, _, _, _, _, _, _, _, _, _, _, _, _, _, _, _, _, _, _, _, _, _, _, _, _, _, _, _, _, _, _, _, _, _, _, _, _, _, _, _, _, _, _, _, _, _, _, _, _, _, _, _, _, _, _, _, _, _, _, _, _, _, _, _, _, _, _, _, _, _, _, _, _, _, _, _, _, _, _, _, _, _, _, _, _, _, _, _, _, _, _, _, _, _, _, _, _, _, _, _, _, _, _, _, _, _, _, _, _, _, _, _, _, _, _, _, _, _, _, _, _, _, _, _, _, _, _, _, _, _, _, _, _, _, _, _, _, _, _, _, _, _, _, _, _, _, _, _, _, _, _, _, _, _, _, _, _, _, _, _, _, _, _, _, _, _, _, _, _, _, _, _, _, _, _, _, _, _, _, _, _, _, _, _, _, _, _, _, _, _, _, _, _, _, _, _, _, _, _, _, _, _, _, _, _, _, _, _, _, _, _, _, _, _, _, _, _, _, _, _]) rfl ?_
          refine c_if rfl (fun h184 => ?_) (fun h184 => ?_)
          · skip
            skip
            refine wp_skip ?_
            refine x_thenNormal ?_
            refine c_seq ?_
            refine wp_block ?_
            refine c_rseq (n := 248) ⟨rfl, rfl⟩ ?_
            refine s_val (r_fieldAddr (k := 4) Try.runUnderlying32 rfl Try.sizeOf28 (by decide) rfl rfl) ?_
            refine s_val (r_load1 Try.isAgg28 rfl (H.at 3 rfl) rfl) ?_
            refine s_val (r_move rfl) ?_
            refine s_call (r_call Try.call19 (ec rfl (ec rfl en))) (lread_spec bl x ((m : Int) - 1) (by omega) (by omega) _ (hL.rdM (by omega) H (fun p hp => (List.mem_cons_of_mem _ (List.mem_cons_of_mem _ (List.mem_cons_of_mem _ (List.mem_cons_of_mem _ (List.mem_cons_of_mem _ hp)))))))) ?_
            rintro v w (⟨hno, rfl, HC⟩ | ⟨hn2, hn3, hgn, (⟨hse, hge, a2, cap2, N2, rfl, hN2, HC⟩ | ⟨hlo, rfl, HC⟩)⟩)
            · skip
              replace H := H.quiet HC
              rw [hxz, hxg] at hno
              refine s_val (r_move rfl) ?_
              refine s_val (r_extract rfl rfl) ?_
              refine s_val (r_extract rfl rfl) ?_
              refine s_val (r_assign rfl) ?_
              refine s_val (r_assign rfl) ?_
              refine c_nil (l' := [_, _, _, _, _, _, _, _, _, _, _, _, _, _, _, _, _, _, _, _, _, _, _, _, _, _, _, _, _, _, _, _, _, _, _, _, _, _, _, _, _, _, _, _, _, _, _, _, _, _, _, _, _, _, _, _, _, _, _, _, _, _, _, _, _, _, _, _, _, _, _, _, _, _, _, _, _, _, _, _, _, _, _, _, _, _, _, _, _, _, _, _, _, _, _, _, _, _, _, _, _, _, _, _, _, _, _, _, _, _, _, _, _, _, _, _, _, _, _, _, _, _, _, _, _, _, _, _, _, _, _, _, _, _, _, _, _, _, _, _, _, _, _, _, _, _, _, _, _, _, _, _, _, _, _, _, _, _, _, _, _, _, _, _, _, _, _, _, _, _, _, _, _, _, _, _, _, _, _, _, _, _, _, _, _, _, _, _, _, _, _, _, _, _, _, _, _, _, _, _, _, _, _, _, _, _, _, _, _, _, _, _, _, _, _, _, _, _, _, _, _, _, _, _, _, _, _, _, _, _, _, _, _, _, _, _, _, _, _, _, _, _, _, _, _, _, _, _]) rfl ?_
              refine c_rseq (n := 248) ⟨rfl, rfl⟩ ?_
              refine s_val (r_fieldAddr (k := 5) Try.runUnderlying32 rfl Try.sizeOf30 (by decide) rfl rfl) ?_
              refine s_val (r_loadn Try.isAgg30 Try.sizeOf30 rfl (H.at 3 rfl) (rigC_sh _ _ _ _ _ _ _) (by first | exact (kC_length _) | exact (hC_length _) | exact (shC_length _ _) | exact (wC_length _) | exact (sdC_length _ _) | exact (xrL_length _ _ _) | exact (xrC_length _ _ _ _ _ _ _) | exact (rigC_length _ _ _ _ _ _ _) | exact (doC_length _) | exact rfl)) ?_
              refine s_val (r_move rfl) ?_
              refine s_call (r_call Try.call20 (ec rfl (ec rfl en))) (of_spec g z hg0 (by omega) hz0 (by omega) ((m : Int) - 1) (by omega) (by omega) _) ?_
              rintro v w (⟨hof, rfl, HC⟩ | ⟨hv2, hv3, rfl, HC⟩)
              · skip
                replace H := H.quiet HC
                refine s_val (r_move rfl) ?_
                refine s_val (r_extract rfl rfl) ?_
                refine s_val (r_extract rfl rfl) ?_
                refine s_val (r_extract rfl rfl) ?_
                refine s_val (r_assign rfl) ?_
                refine s_val (r_assign rfl) ?_
                refine s_val (r_assign rfl) ?_
                refine c_nil (l' := [_, _, _, _, _, _, _, _, _, _, _, _, _, _, _, _, _, _, _, _, _, _, _, _, _, _, _, _, _, _, _, _, _, _, _, _, _, _, _, _, _, _, _, _, _, _, _, _, _, _, _, _, _, _, _, _, _, _, _, _, _, _, _, _, _, _, _, _, _, _, _, _, _, _, _, _, _, _, _, _, _, _, _, _, _, _, _, _, _, _, _, _, _, _, _, _, _, _, _, _, _, _, _, _, _, _, _, _, _, _, _, _, _, _, _, _, _, _, _, _, _, _, _, _, _, _, _, _, _, _, _, _, _, _, _, _, _, _, _, _, _, _, _, _, _, _, _, _, _, _, _, _, _, _, _, _, _, _, _, _, _, _, _, _, _, _, _, _, _, _, _, _, _, _, _, _, _, _, _, _, _, _, _, _, _, _, _, _, _, _, _, _, _, _, _, _, _, _, _, _, _, _, _, _, _, _, _, _, _, _, _, _, _, _, _, _, _, _, _, _, _, _, _, _, _, _, _, _, _, _, _, _, _, _, _, _, _, _, _, _, _, _, _, _, _, _, _, _]) rfl ?_
                refine wp_block ?_
                refine c_rseq (n := 248) ⟨rfl, rfl⟩ ?_
                refine s_val (r_move rfl) ?_
                refine s_val (r_not rfl) ?_
                refine s_val (r_move rfl) ?_
                refine g_no rfl rfl (by decide) ?_
                refine g_no rfl rfl (by decide) ?_
                refine g_no rfl rfl (by decide) ?_
                refine g_no rfl rfl (by decide) ?_
                refine g_no rfl rfl (by decide) ?_
                refine g_no rfl rfl (by decide) ?_
                refine s_val (r_pickt rfl rfl) ?_
                refine s_val (r_assign rfl) ?_
                refine c_nil (l' := [_, _, _, _, _, _, _, _, _, _, _, _, _, _, _, _, _, _, _, _, _, _, _, _, _, _, _, _, _, _, _, _, _, _, _, _, _, _, _, _, _, _, _, _, _, _, _, _, _, _, _, _, _, _, _, _, _, _, _, _, _, _, _, _, _, _, _, _, _, _, _, _, _, _, _, _, _, _, _, _, _, _, _, _, _, _, _, _, _, _, _, _, _, _, _, _, _, _, _, _, _, _, _, _, _, _, _, _, _, _, _, _, _, _, _, _, _, _, _, _, _, _, _, _, _, _, _, _, _, _, _, _, _, _, _, _, _, _, _, _, _, _, _, _, _, _, _, _, _, _, _, _, _, _, _, _, _, _, _, _, _, _, _, _, _, _, _, _, _, _, _, _, _, _, _, _, _, _, _, _, _, _, _, _, _, _, _, _, _, _, _, _, _, _, _, _, _, _, _, _, _, _, _, _, _, _, _, _, _, _, _, _, _, _, _, _, _, _, _, _, _, _, _, _, _, _, _, _, _, _, _, _, _, _, _, _, _, _, _, _, _, _, _, _, _, _, _, _]) rfl ?_
                refine c_ift rfl ?_
                refine c_rseq (n := 248) ⟨rfl, rfl⟩ ?_
                refine s_val (r_move rfl) ?_
                refine s_test (r_neq rfl rfl) (fun h221 => ?_) (fun h221 => ?_)
                · skip
                  exfalso; omega
                · skip
                  refine s_val (r_move rfl) ?_
                  refine g_yes rfl rfl ?_
                  refine s_val (r_move rfl) ?_
                  refine g_yes rfl rfl ?_
                  refine s_val (r_lens Try.runUnderlying40 (ec rfl en)) ?_
                  refine g_yes rfl rfl ?_
                  refine s_test (r_neq rfl rfl) (fun h225 => ?_) (fun h225 => ?_)
                  · skip
                    exfalso; omega
                  · skip
                    refine s_val (r_pickf rfl rfl) ?_
                    refine c_nil (l' := [_, _, _, _, _, _, _, _, _, _, _, _, _, _, _, _, _, _, _, _, _, _, _, _, _, _, _, _, _, _, _, _, _, _, _, _, _, _, _, _, _, _, _, _, _, _, _, _, _, _, _, _, _, _, _, _, _, _, _, _, _, _, _, _, _, _, _, _, _, _, _, _, _, _, _, _, _, _, _, _, _, _, _, _, _, _, _, _, _, _, _, _, _, _, _, _, _, _, _, _, _, _, _, _, _, _, _, _, _, _, _, _, _, _, _, _, _, _, _, _, _, _, _, _, _, _, _, _, _, _, _, _, _, _, _, _, _, _, _, _, _, _, _, _, _, _, _, _, _, _, _, _, _, _, _, _, _, _, _, _, _, _, _, _, _, _, _, _, _, _, _, _, _, _, _, _, _, _, _, _, _, _, _, _, _, _, _, _, _, _, _, _, _, _, _, _, _, _, _, _, _, _, _, _, _, _, _, _, _, _, _, _, _, _, _, _, _, _, _, _, _, _, _, _, _, _, _, _, _, _, _, _, _, _, _, _, _, _, _, _, _, _, _, _, _, _, _, _]) rfl ?_
                    refine c_iff rfl ?_
                    refine wp_skip ?_
                    refine x_blockNormal ?_
                    refine x_blockNormal ?_
                    refine x_thenNormal ?_
                    refine c_region (n := 248) ⟨rfl, rfl⟩ ?_
                    refine s_val (r_move rfl) ?_
                    refine s_val (r_add rfl rfl (w_i64e (r := ((m + 1 : Nat) : Int) - 1) (by omega) (by omega) (by omega))) ?_
                    refine s_val (r_assign rfl) ?_
                    refine c_nil0 (l' := [_, _, _, _, _, _, _, _, _, _, _, _, _, _, _, _, _, _, _, _, _, _, _, _, _, _, _, _, _, _, _, _, _, _, _, _, _, _, _, _, _, _, _, _, _, _, _, _, _, _, _, _, _, _, _, _, _, _, _, _, _, _, _, _, _, _, _, _, _, _, _, _, _, _, _, _, _, _, _, _, _, _, _, _, _, _, _, _, _, _, _, _, _, _, _, _, _, _, _, _, _, _, _, _, _, _, _, _, _, _, _, _, _, _, _, _, _, _, _, _, _, _, _, _, _, _, _, _, _, _, _, _, _, _, _, _, _, _, _, _, _, _, _, _, _, _, _, _, _, _, _, _, _, _, _, _, _, _, _, _, _, _, _, _, _, _, _, _, _, _, _, _, _, _, _, _, _, _, _, _, _, _, _, _, _, _, _, _, _, _, _, _, _, _, _, _, _, _, _, _, _, _, _, _, _, _, _, _, _, _, _, _, _, _, _, _, _, _, _, _, _, _, _, _, _, _, _, _, _, _, _, _, _, _, _, _, _, _, _, _, _, _, _, _, _, _, _, _]) rfl ?_
                    skip
                    exact ⟨m + 1, _, rfl, ⟨_, _, _, _, _, _, _, _, _, _, _, _, _, _, _, _, _, _, _, _, _, _, _, _, _, _, _, _, _, _, _, _, _, _, _, _, _, _, _, _, _, _, _, _, _, _, _, _, _, _, _, _, _, _, _, _, _, _, _, _, _, _, _, _, _, _, _, _, _, _, _, _, _, _, _, rfl, by omega, H⟩, by omega⟩
              · skip
                replace H := H.quiet HC
                obtain ⟨hd0, hd1⟩ := seg_rng (g := g) hv2 hv3 hz0
                refine s_val (r_move rfl) ?_
                refine s_val (r_extract rfl rfl) ?_
                refine s_val (r_extract rfl rfl) ?_
                refine s_val (r_extract rfl rfl) ?_
                refine s_val (r_assign rfl) ?_
                refine s_val (r_assign rfl) ?_
                refine s_val (r_assign rfl) ?_
                refine c_nil (l' := [_, _, _, _, _, _, _, _, _, _, _, _, _, _, _, _, _, _, _, _, _, _, _, _, _, _, _, _, _, _, _, _, _, _, _, _, _, _, _, _, _, _, _, _, _, _, _, _, _, _, _, _, _, _, _, _, _, _, _, _, _, _, _, _, _, _, _, _, _, _, _, _, _, _, _, _, _, _, _, _, _, _, _, _, _, _, _, _, _, _, _, _, _, _, _, _, _, _, _, _, _, _, _, _, _, _, _, _, _, _, _, _, _, _, _, _, _, _, _, _, _, _, _, _, _, _, _, _, _, _, _, _, _, _, _, _, _, _, _, _, _, _, _, _, _, _, _, _, _, _, _, _, _, _, _, _, _, _, _, _, _, _, _, _, _, _, _, _, _, _, _, _, _, _, _, _, _, _, _, _, _, _, _, _, _, _, _, _, _, _, _, _, _, _, _, _, _, _, _, _, _, _, _, _, _, _, _, _, _, _, _, _, _, _, _, _, _, _, _, _, _, _, _, _, _, _, _, _, _, _, _, _, _, _, _, _, _, _, _, _, _, _, _, _, _, _, _, _]) rfl ?_
                refine wp_block ?_
                refine c_rseq (n := 248) ⟨rfl, rfl⟩ ?_
                refine s_val (r_move rfl) ?_
                refine s_val (r_not rfl) ?_
                refine s_val (r_move rfl) ?_
                refine g_yes rfl rfl ?_
                refine s_val (r_fieldAddr (k := 3) Try.runUnderlying38 rfl Try.sizeOf35 (by decide) rfl rfl) ?_
                refine g_yes rfl rfl ?_
                refine s_val (r_load1 Try.isAgg35 rfl (H.at 2 rfl) rfl) ?_
                refine g_yes rfl rfl ?_
                refine s_val (r_move rfl) ?_
                refine g_yes rfl rfl ?_
                refine s_val (r_indexAddrS Try.runUnderlying35 Try.sizeOf36 rfl rfl (by omega) (by omega)) ?_
                refine g_yes rfl rfl ?_
                refine s_val (r_load1 Try.isAgg36 rfl (H.at 4 rfl) (uC_atA x.gens sp (i := (((m : Int) - 1 - 2) / z).toNat) (by omega) (by omega))) ?_
                refine g_yes rfl rfl ?_
                refine s_test (r_eql rfl rfl) (fun h218 => ?_) (fun h218 => ?_)
                · skip
                  skip
                  refine s_val (r_pickf rfl rfl) ?_
                  refine s_val (r_assign rfl) ?_
                  refine c_nil (l' := [_, _, _, _, _, _, _, _, _, _, _, _, _, _, _, _, _, _, _, _, _, _, _, _, _, _, _, _, _, _, _, _, _, _, _, _, _, _, _, _, _, _, _, _, _, _, _, _, _, _, _, _, _, _, _, _, _, _, _, _, _, _, _, _, _, _, _, _, _, _, _, _, _, _, _, _, _, _, _, _, _, _, _, _, _, _, _, _, _, _, _, _, _, _, _, _, _, _, _, _, _, _, _, _, _, _, _, _, _, _, _, _, _, _, _, _, _, _, _, _, _, _, _, _, _, _, _, _, _, _, _, _, _, _, _, _, _, _, _, _, _, _, _, _, _, _, _, _, _, _, _, _, _, _, _, _, _, _, _, _, _, _, _, _, _, _, _, _, _, _, _, _, _, _, _, _, _, _, _, _, _, _, _, _, _, _, _, _, _, _, _, _, _, _, _, _, _, _, _, _, _, _, _, _, _, _, _, _, _, _, _, _, _, _, _, _, _, _, _, _, _, _, _, _, _, _, _, _, _, _, _, _, _, _, _, _, _, _, _, _, _, _, _, _, _, _, _, _]) rfl ?_
                  refine c_ift rfl ?_
                  refine c_rseq (n := 248) ⟨rfl, rfl⟩ ?_
                  refine s_val (r_move rfl) ?_
                  refine s_test (r_neq rfl rfl) (fun h221 => ?_) (fun h221 => ?_)
                  · skip
                    exfalso; omega
                  · skip
                    refine s_val (r_move rfl) ?_
                    refine g_yes rfl rfl ?_
                    refine s_val (r_move rfl) ?_
                    refine g_yes rfl rfl ?_
                    refine s_val (r_lens Try.runUnderlying40 (ec rfl en)) ?_
                    refine g_yes rfl rfl ?_
                    refine s_test (r_neq rfl rfl) (fun h225 => ?_) (fun h225 => ?_)
                    · skip
                      exfalso; omega
                    · skip
                      refine s_val (r_pickf rfl rfl) ?_
                      refine c_nil (l' := [_, _, _, _, _, _, _, _, _, _, _, _, _, _, _, _, _, _, _, _, _, _, _, _, _, _, _, _, _, _, _, _, _, _, _, _, _, _, _, _, _, _, _, _, _, _, _, _, _, _, _, _, _, _, _, _, _, _, _, _, _, _, _, _, _, _, _, _, _, _, _, _, _, _, _, _, _, _, _, _, _, _, _, _, _, _, _, _, _, _, _, _, _, _, _, _, _, _, _, _, _, _, _, _, _, _, _, _, _, _, _, _, _, _, _, _, _, _, _, _, _, _, _, _, _, _, _, _, _, _, _, _, _, _, _, _, _, _, _, _, _, _, _, _, _, _, _, _, _, _, _, _, _, _, _, _, _, _, _, _, _, _, _, _, _, _, _, _, _, _, _, _, _, _, _, _, _, _, _, _, _, _, _, _, _, _, _, _, _, _, _, _, _, _, _, _, _, _, _, _, _, _, _, _, _, _, _, _, _, _, _, _, _, _, _, _, _, _, _, _, _, _, _, _, _, _, _, _, _, _, _, _, _, _, _, _, _, _, _, _, _, _, _, _, _, _, _, _]) rfl ?_
                      refine c_iff rfl ?_
                      refine wp_skip ?_
                      refine x_blockNormal ?_
                      refine x_blockNormal ?_
                      refine x_thenNormal ?_
                      refine c_region (n := 248) ⟨rfl, rfl⟩ ?_
                      refine s_val (r_move rfl) ?_
                      refine s_val (r_add rfl rfl (w_i64e (r := ((m + 1 : Nat) : Int) - 1) (by omega) (by omega) (by omega))) ?_
                      refine s_val (r_assign rfl) ?_
                      refine c_nil0 (l' := [_, _, _, _, _, _, _, _, _, _, _, _, _, _, _, _, _, _, _, _, _, _, _, _, _, _, _, _, _, _, _, _, _, _, _, _, _, _, _, _, _, _, _, _, _, _, _, _, _, _, _, _, _, _, _, _, _, _, _, _, _, _, _, _, _, _, _, _, _, _, _, _, _, _, _, _, _, _, _, _, _, _, _, _, _, _, _, _, _, _, _, _, _, _, _, _, _, _, _, _, _, _, _, _, _, _, _, _, _, _, _, _, _, _, _, _, _, _, _, _, _, _, _, _, _, _, _, _, _, _, _, _, _, _, _, _, _, _, _, _, _, _, _, _, _, _, _, _, _, _, _, _, _, _, _, _, _, _, _, _, _, _, _, _, _, _, _, _, _, _, _, _, _, _, _, _, _, _, _, _, _, _, _, _, _, _, _, _, _, _, _, _, _, _, _, _, _, _, _, _, _, _, _, _, _, _, _, _, _, _, _, _, _, _, _, _, _, _, _, _, _, _, _, _, _, _, _, _, _, _, _, _, _, _, _, _, _, _, _, _, _, _, _, _, _, _, _, _]) rfl ?_
                      skip
                      exact ⟨m + 1, _, rfl, ⟨_, _, _, _, _, _, _, _, _, _, _, _, _, _, _, _, _, _, _, _, _, _, _, _, _, _, _, _, _, _, _, _, _, _, _, _, _, _, _, _, _, _, _, _, _, _, _, _, _, _, _, _, _, _, _, _, _, _, _, _, _, _, _, _, _, _, _, _, _, _, _, _, _, _, _, rfl, by omega, H⟩, by omega⟩
                · skip
                  exact hno.elim (fun h => absurd h h218) (fun h => absurd ⟨by omega, by omega⟩ h)
            · skip
              rw [hxz] at hge
              rw [hxg, hxz] at hn3
              rw [hxz] at hgn
              have em : ((m : Int) - 1).toNat = m - 1 := by omega
              have ei : (m : Int) - 1 = ((m - 1 : Nat) : Int) := by omega
              have hpr := (hPL (m - 1)).read (gn := x.gens.getD (((m : Int) - 1 - 2) / z).toNat 0) (by omega) hgn
              rw [← ei] at hpr
              rw [em] at hse hge hN2 ⊢
              replace H : St w0 [] w (_ :: _ :: _ :: _ :: _ :: (N2 ++ N)) := St.mid4 (A := [_, _, _, _, _]) (H.call0 HC)
              refine s_val (r_move rfl) ?_
              refine s_val (r_extract rfl rfl) ?_
              refine s_val (r_extract rfl rfl) ?_
              refine s_val (r_assign rfl) ?_
              refine s_val (r_assign rfl) ?_
              refine c_nil (l' := [_, _, _, _, _, _, _, _, _, _, _, _, _, _, _, _, _, _, _, _, _, _, _, _, _, _, _, _, _, _, _, _, _, _, _, _, _, _, _, _, _, _, _, _, _, _, _, _, _, _, _, _, _, _, _, _, _, _, _, _, _, _, _, _, _, _, _, _, _, _, _, _, _, _, _, _, _, _, _, _, _, _, _, _, _, _, _, _, _, _, _, _, _, _, _, _, _, _, _, _, _, _, _, _, _, _, _, _, _, _, _, _, _, _, _, _, _, _, _, _, _, _, _, _, _, _, _, _, _, _, _, _, _, _, _, _, _, _, _, _, _, _, _, _, _, _, _, _, _, _, _, _, _, _, _, _, _, _, _, _, _, _, _, _, _, _, _, _, _, _, _, _, _, _, _, _, _, _, _, _, _, _, _, _, _, _, _, _, _, _, _, _, _, _, _, _, _, _, _, _, _, _, _, _, _, _, _, _, _, _, _, _, _, _, _, _, _, _, _, _, _, _, _, _, _, _, _, _, _, _, _, _, _, _, _, _, _, _, _, _, _, _, _, _, _, _, _, _]) rfl ?_
              refine c_rseq (n := 248) ⟨rfl, rfl⟩ ?_
              refine s_val (r_fieldAddr (k := 5) Try.runUnderlying32 rfl Try.sizeOf30 (by decide) rfl rfl) ?_
              refine s_val (r_loadn Try.isAgg30 Try.sizeOf30 rfl (H.at 3 rfl) (rigC_sh _ _ _ _ _ _ _) (by first | exact (kC_length _) | exact (hC_length _) | exact (shC_length _ _) | exact (wC_length _) | exact (sdC_length _ _) | exact (xrL_length _ _ _) | exact (xrC_length _ _ _ _ _ _ _) | exact (rigC_length _ _ _ _ _ _ _) | exact (doC_length _) | exact rfl)) ?_
              refine s_val (r_move rfl) ?_
              refine s_call (r_call Try.call20 (ec rfl (ec rfl en))) (of_spec g z hg0 (by omega) hz0 (by omega) ((m : Int) - 1) (by omega) (by omega) _) ?_
              rintro v w (⟨hof, rfl, HC⟩ | ⟨hv2, hv3, rfl, HC⟩)
              · skip
                exfalso; omega
              · skip
                replace H := H.quiet HC
                obtain ⟨hd0, hd1⟩ := seg_rng (g := g) hv2 hv3 hz0
                refine s_val (r_move rfl) ?_
                refine s_val (r_extract rfl rfl) ?_
                refine s_val (r_extract rfl rfl) ?_
                refine s_val (r_extract rfl rfl) ?_
                refine s_val (r_assign rfl) ?_
                refine s_val (r_assign rfl) ?_
                refine s_val (r_assign rfl) ?_
                refine c_nil (l' := [_, _, _, _, _, _, _, _, _, _, _, _, _, _, _, _, _, _, _, _, _, _, _, _, _, _, _, _, _, _, _, _, _, _, _, _, _, _, _, _, _, _, _, _, _, _, _, _, _, _, _, _, _, _, _, _, _, _, _, _, _, _, _, _, _, _, _, _, _, _, _, _, _, _, _, _, _, _, _, _, _, _, _, _, _, _, _, _, _, _, _, _, _, _, _, _, _, _, _, _, _, _, _, _, _, _, _, _, _, _, _, _, _, _, _, _, _, _, _, _, _, _, _, _, _, _, _, _, _, _, _, _, _, _, _, _, _, _, _, _, _, _, _, _, _, _, _, _, _, _, _, _, _, _, _, _, _, _, _, _, _, _, _, _, _, _, _, _, _, _, _, _, _, _, _, _, _, _, _, _, _, _, _, _, _, _, _, _, _, _, _, _, _, _, _, _, _, _, _, _, _, _, _, _, _, _, _, _, _, _, _, _, _, _, _, _, _, _, _, _, _, _, _, _, _, _, _, _, _, _, _, _, _, _, _, _, _, _, _, _, _, _, _, _, _, _, _, _]) rfl ?_
                refine wp_block ?_
                refine c_rseq (n := 248) ⟨rfl, rfl⟩ ?_
                refine s_val (r_move rfl) ?_
                refine s_val (r_not rfl) ?_
                refine s_val (r_move rfl) ?_
                refine g_yes rfl rfl ?_
                refine s_val (r_fieldAddr (k := 3) Try.runUnderlying38 rfl Try.sizeOf35 (by decide) rfl rfl) ?_
                refine g_yes rfl rfl ?_
                refine s_val (r_load1 Try.isAgg35 rfl (H.at 2 rfl) rfl) ?_
                refine g_yes rfl rfl ?_
                refine s_val (r_move rfl) ?_
                refine g_yes rfl rfl ?_
                refine s_val (r_indexAddrS Try.runUnderlying35 Try.sizeOf36 rfl rfl (by omega) (by omega)) ?_
                refine g_yes rfl rfl ?_
                refine s_val (r_load1 Try.isAgg36 rfl (H.at 4 rfl) (uC_atA x.gens sp (i := (((m : Int) - 1 - 2) / z).toNat) (by omega) (by omega))) ?_
                refine g_yes rfl rfl ?_
                refine s_test (r_eql rfl rfl) (fun h218 => ?_) (fun h218 => ?_)
                · skip
                  exact absurd h218 hgn
                · skip
                  skip
                  refine s_val (r_pickf rfl rfl) ?_
                  refine s_val (r_assign rfl) ?_
                  refine c_nil (l' := [_, _, _, _, _, _, _, _, _, _, _, _, _, _, _, _, _, _, _, _, _, _, _, _, _, _, _, _, _, _, _, _, _, _, _, _, _, _, _, _, _, _, _, _, _, _, _, _, _, _, _, _, _, _, _, _, _, _, _, _, _, _, _, _, _, _, _, _, _, _, _, _, _, _, _, _, _, _, _, _, _, _, _, _, _, _, _, _, _, _, _, _, _, _, _, _, _, _, _, _, _, _, _, _, _, _, _, _, _, _, _, _, _, _, _, _, _, _, _, _, _, _, _, _, _, _, _, _, _, _, _, _, _, _, _, _, _, _, _, _, _, _, _, _, _, _, _, _, _, _, _, _, _, _, _, _, _, _, _, _, _, _, _, _, _, _, _, _, _, _, _, _, _, _, _, _, _, _, _, _, _, _, _, _, _, _, _, _, _, _, _, _, _, _, _, _, _, _, _, _, _, _, _, _, _, _, _, _, _, _, _, _, _, _, _, _, _, _, _, _, _, _, _, _, _, _, _, _, _, _, _, _, _, _, _, _, _, _, _, _, _, _, _, _, _, _, _, _]) rfl ?_
                  refine c_iff rfl ?_
                  refine c_seq ?_
                  refine d_begin (sz := 248) ⟨rfl, rfl⟩ (by kernel_rfl) H (H) rfl ?_
                  intro w H
                  refine d_take (i := 0) rfl (by kernel_rfl) (fun _ _ _ h => h) H (fun _ _ => r_move rfl) rfl ?_
                  refine d_take (i := 1) rfl (by kernel_rfl) (fun _ _ _ h => h) H (fun _ _ => r_indexAddrA Try.runUnderlying42 Try.sizeOf36 rfl rfl (by omega) (by omega)) rfl ?_
                  refine d_take (i := 2) rfl (by kernel_rfl) (fun _ _ _ h => h) H (fun _ HS => r_load1 Try.isAgg36 rfl (HS.at 0 rfl) (uC_at gs (i := m - 1) (by omega) (by omega))) rfl ?_
                  refine d_take (i := 3) rfl (by kernel_rfl) (fun _ _ _ h => h) H (fun _ _ => r_fieldAddr (k := 3) Try.runUnderlying38 rfl Try.sizeOf35 (by decide) rfl rfl) rfl ?_
                  refine d_take (i := 4) rfl (by kernel_rfl) (fun _ _ _ h => h) H (fun _ HS => r_load1 Try.isAgg35 rfl (HS.at 2 rfl) rfl) rfl ?_
                  refine d_take (i := 5) rfl (by kernel_rfl) (fun _ _ _ h => h) H (fun _ _ => r_move rfl) rfl ?_
                  refine d_take (i := 6) rfl (by kernel_rfl) (fun _ _ _ h => h) H (fun _ _ => r_indexAddrS Try.runUnderlying35 Try.sizeOf36 rfl rfl (by omega) (by omega)) rfl ?_
                  refine d_take (i := 7) rfl (by kernel_rfl) (fun _ _ _ h => h) H (fun _ HS => r_load1 Try.isAgg36 rfl (HS.at 4 rfl) (uC_atA x.gens sp (i := (((m : Int) - 1 - 2) / z).toNat) (by omega) (by omega))) rfl ?_
                  refine d_take (i := 8) rfl (by kernel_rfl) (fun _ _ _ h => h) H (fun _ _ => r_eql rfl rfl) rfl ?_
                  refine d_take (i := 9) rfl (by kernel_rfl) (fun _ _ _ h => h) H (fun _ _ => r_assign rfl) rfl ?_
                  refine d_done (l' := [_, _, _, _, _, _, _, _, _, _, _, _, _, _, _, _, _, _, _, _, _, _, _, _, _, _, _, _, _, _, _, _, _, _, _, _, _, _, _, _, _, _, _, _, _, _, _, _, _, _, _, _, _, _, _, _, _, _, _, _, _, _, _, _, _, _, _, _, _, _, _, _, _, _, _, _, _, _, _, _, _, _, _, _, _, _, _, _, _, _, _, _, _, _, _, _, _, _, _, _, _, _, _, _, _, _, _, _, _, _, _, _, _, _, _, _, _, _, _, _, _, _, _, _, _, _, _, _, _, _, _, _, _, _, _, _, _, _, _, _, _, _, _, _, _, _, _, _, _, _, _, _, _, _, _, _, _, _, _, _, _, _, _, _, _, _, _, _, _, _, _, _, _, _, _, _, _, _, _, _, _, _, _, _, _, _, _, _, _, _, _, _, _, _, _, _, _, _, _, _, _, _, _, _, _, _, _, _, _, _, _, _, _, _, _, _, _, _, _, _, _, _, _, _, _, _, _, _, _, _, _, _, _, _, _, _, _, _, _, _, _, _, _, _, _, _, _, _]) (by kernel_rfl) rfl ?_
                  refine x_thenNormal ?_
                  refine c_if rfl (fun h227 => ?_) (fun h227 => ?_)
                  · skip
                    obtain ⟨_, _, hbd2⟩ := hpr.1 h227
                    refine c_seq ?_
                    refine d_begin (sz := 248) ⟨rfl, rfl⟩ (by kernel_rfl) H (H) rfl ?_
                    intro w H
                    refine d_take (i := 0) rfl (by kernel_rfl) (fun _ _ _ h => h) H (fun _ _ => r_move rfl) rfl ?_
                    refine d_take (i := 1) rfl (by kernel_rfl) (fun _ _ _ h => h) H (fun _ _ => r_neq rfl rfl) rfl ?_
                    refine d_part (fun h238 => ?_) (fun h238 => ?_)
                    · skip
                      exfalso; omega
                    · skip
                      refine d_take (i := 2) rfl (by kernel_rfl) (fun _ _ _ h => h) H (fun _ _ => r_move rfl) rfl ?_
                      refine d_takeG (i := 3) rfl (by kernel_rfl) (fun _ _ _ h => h) rfl rfl H (fun _ _ => r_move rfl) rfl ?_
                      refine d_takeG (i := 4) rfl (by kernel_rfl) (fun _ _ _ h => h) rfl rfl H (fun _ HS => r_textB Try.runUnderlying40 Try.runUnderlying9 Try.runUnderlying5 (bs := bodyU (sd x.C (m - 1))) rfl (hN2.browM HS (fun p hp => (List.mem_cons_of_mem _ (List.mem_cons_of_mem _ (List.mem_cons_of_mem _ (List.mem_cons_of_mem _ (List.mem_cons_of_mem _ (List.mem_append_left _ hp))))))))) rfl ?_
                      refine d_takeG (i := 5) rfl (by kernel_rfl) (fun _ _ _ h => h) rfl rfl H (fun _ _ => r_move rfl) rfl ?_
                      refine d_takeG (i := 6) rfl (by kernel_rfl) (fun _ _ _ h => h) rfl rfl H (fun _ _ => r_indexAddrA Try.runUnderlying41 Try.sizeOf40 rfl rfl (by omega) (by omega)) rfl ?_
                      refine d_takeG (i := 7) rfl (by kernel_rfl) (fun _ _ _ h => h) rfl rfl H (fun _ HS => r_load1 Try.isAgg40 rfl (HS.at 1 rfl) (bdR_at bs (i := m - 1) (by omega) (by omega))) rfl ?_
                      refine d_takeG (i := 8) rfl (by kernel_rfl) (fun _ _ _ h => h) rfl rfl H (fun _ HS => r_textB Try.runUnderlying40 Try.runUnderlying9 Try.runUnderlying5 (a := (bs.getD (m - 1) bdZ).a) (c := (bs.getD (m - 1) bdZ).c) (bs := (bs.getD (m - 1) bdZ).b) rfl ((hbr (m - 1)).st (HS.sub (List.nil_sublist _)))) rfl ?_
                      refine d_takeG (i := 9) rfl (by kernel_rfl) (fun _ _ _ h => h) rfl rfl H (fun _ _ => r_neqT (s := bodyU (sd x.C (m - 1))) (t := (bs.getD (m - 1) bdZ).b) rfl rfl) rfl ?_
                      refine d_part (fun h246 => ?_) (fun h246 => ?_)
                      · skip
                        exact absurd hbd2 h246
                      · skip
                        refine d_take (i := 10) rfl (by kernel_rfl) (fun _ _ _ h => h) H (fun _ _ => r_pickf rfl rfl) rfl ?_
                        refine d_done (l' := [_, _, _, _, _, _, _, _, _, _, _, _, _, _, _, _, _, _, _, _, _, _, _, _, _, _, _, _, _, _, _, _, _, _, _, _, _, _, _, _, _, _, _, _, _, _, _, _, _, _, _, _, _, _, _, _, _, _, _, _, _, _, _, _, _, _, _, _, _, _, _, _, _, _, _, _, _, _, _, _, _, _, _, _, _, _, _, _, _, _, _, _, _, _, _, _, _, _, _, _, _, _, _, _, _, _, _, _, _, _, _, _, _, _, _, _, _, _, _, _, _, _, _, _, _, _, _, _, _, _, _, _, _, _, _, _, _, _, _, _, _, _, _, _, _, _, _, _, _, _, _, _, _, _, _, _, _, _, _, _, _, _, _, _, _, _, _, _, _, _, _, _, _, _, _, _, _, _, _, _, _, _, _, _, _, _, _, _, _, _, _, _, _, _, _, _, _, _, _, _, _, _, _, _, _, _, _, _, _, _, _, _, _, _, _, _, _, _, _, _, _, _, _, _, _, _, _, _, _, _, _, _, _, _, _, _, _, _, _, _, _, _, _, _, _, _, _, _]) (by kernel_rfl) rfl ?_
                        refine x_thenNormal ?_
                        refine c_iff rfl ?_
                        refine wp_skip ?_
                        refine x_blockNormal ?_
                        refine x_blockNormal ?_
                        refine x_thenNormal ?_
                        refine c_region (n := 248) ⟨rfl, rfl⟩ ?_
                        refine s_val (r_move rfl) ?_
                        refine s_val (r_add rfl rfl (w_i64e (r := ((m + 1 : Nat) : Int) - 1) (by omega) (by omega) (by omega))) ?_
                        refine s_val (r_assign rfl) ?_
                        refine c_nil0 (l' := [_, _, _, _, _, _, _, _, _, _, _, _, _, _, _, _, _, _, _, _, _, _, _, _, _, _, _, _, _, _, _, _, _, _, _, _, _, _, _, _, _, _, _, _, _, _, _, _, _, _, _, _, _, _, _, _, _, _, _, _, _, _, _, _, _, _, _, _, _, _, _, _, _, _, _, _, _, _, _, _, _, _, _, _, _, _, _, _, _, _, _, _, _, _, _, _, _, _, _, _, _, _, _, _, _, _, _, _, _, _, _, _, _, _, _, _, _, _, _, _, _, _, _, _, _, _, _, _, _, _, _, _, _, _, _, _, _, _, _, _, _, _, _, _, _, _, _, _, _, _, _, _, _, _, _, _, _, _, _, _, _, _, _, _, _, _, _, _, _, _, _, _, _, _, _, _, _, _, _, _, _, _, _, _, _, _, _, _, _, _, _, _, _, _, _, _, _, _, _, _, _, _, _, _, _, _, _, _, _, _, _, _, _, _, _, _, _, _, _, _, _, _, _, _, _, _, _, _, _, _, _, _, _, _, _, _, _, _, _, _, _, _, _, _, _, _, _, _]) rfl ?_
                        replace H := St.drop3 (A := [_, _, _, _, _]) H
                        exact ⟨m + 1, _, rfl, ⟨_, _, _, _, _, _, _, _, _, _, _, _, _, _, _, _, _, _, _, _, _, _, _, _, _, _, _, _, _, _, _, _, _, _, _, _, _, _, _, _, _, _, _, _, _, _, _, _, _, _, _, _, _, _, _, _, _, _, _, _, _, _, _, _, _, _, _, _, _, _, _, _, _, _, _, rfl, by omega, H⟩, by omega⟩
                  · skip
                    exact absurd ⟨hse, hge⟩ (hpr.2 h227)
            · skip
              rw [hxz] at hlo
              rw [hxg, hxz] at hn3
              rw [hxz] at hgn
              have em : ((m : Int) - 1).toNat = m - 1 := by omega
              have ei : (m : Int) - 1 = ((m - 1 : Nat) : Int) := by omega
              have hpr := (hPL (m - 1)).read (gn := x.gens.getD (((m : Int) - 1 - 2) / z).toNat 0) (by omega) hgn
              rw [← ei] at hpr
              rw [em] at hlo
              replace H := H.quiet HC
              refine s_val (r_move rfl) ?_
              refine s_val (r_extract rfl rfl) ?_
              refine s_val (r_extract rfl rfl) ?_
              refine s_val (r_assign rfl) ?_
              refine s_val (r_assign rfl) ?_
              refine c_nil (l' := [_, _, _, _, _, _, _, _, _, _, _, _, _, _, _, _, _, _, _, _, _, _, _, _, _, _, _, _, _, _, _, _, _, _, _, _, _, _, _, _, _, _, _, _, _, _, _, _, _, _, _, _, _, _, _, _, _, _, _, _, _, _, _, _, _, _, _, _, _, _, _, _, _, _, _, _, _, _, _, _, _, _, _, _, _, _, _, _, _, _, _, _, _, _, _, _, _, _, _, _, _, _, _, _, _, _, _, _, _, _, _, _, _, _, _, _, _, _, _, _, _, _, _, _, _, _, _, _, _, _, _, _, _, _, _, _, _, _, _, _, _, _, _, _, _, _, _, _, _, _, _, _, _, _, _, _, _, _, _, _, _, _, _, _, _, _, _, _, _, _, _, _, _, _, _, _, _, _, _, _, _, _, _, _, _, _, _, _, _, _, _, _, _, _, _, _, _, _, _, _, _, _, _, _, _, _, _, _, _, _, _, _, _, _, _, _, _, _, _, _, _, _, _, _, _, _, _, _, _, _, _, _, _, _, _, _, _, _, _, _, _, _, _, _, _, _, _, _]) rfl ?_
              refine c_rseq (n := 248) ⟨rfl, rfl⟩ ?_
              refine s_val (r_fieldAddr (k := 5) Try.runUnderlying32 rfl Try.sizeOf30 (by decide) rfl rfl) ?_
              refine s_val (r_loadn Try.isAgg30 Try.sizeOf30 rfl (H.at 3 rfl) (rigC_sh _ _ _ _ _ _ _) (by first | exact (kC_length _) | exact (hC_length _) | exact (shC_length _ _) | exact (wC_length _) | exact (sdC_length _ _) | exact (xrL_length _ _ _) | exact (xrC_length _ _ _ _ _ _ _) | exact (rigC_length _ _ _ _ _ _ _) | exact (doC_length _) | exact rfl)) ?_
              refine s_val (r_move rfl) ?_
              refine s_call (r_call Try.call20 (ec rfl (ec rfl en))) (of_spec g z hg0 (by omega) hz0 (by omega) ((m : Int) - 1) (by omega) (by omega) _) ?_
              rintro v w (⟨hof, rfl, HC⟩ | ⟨hv2, hv3, rfl, HC⟩)
              · skip
                exfalso; omega
              · skip
                replace H := H.quiet HC
                obtain ⟨hd0, hd1⟩ := seg_rng (g := g) hv2 hv3 hz0
                refine s_val (r_move rfl) ?_
                refine s_val (r_extract rfl rfl) ?_
                refine s_val (r_extract rfl rfl) ?_
                refine s_val (r_extract rfl rfl) ?_
                refine s_val (r_assign rfl) ?_
                refine s_val (r_assign rfl) ?_
                refine s_val (r_assign rfl) ?_
                refine c_nil (l' := [_, _, _, _, _, _, _, _, _, _, _, _, _, _, _, _, _, _, _, _, _, _, _, _, _, _, _, _, _, _, _, _, _, _, _, _, _, _, _, _, _, _, _, _, _, _, _, _, _, _, _, _, _, _, _, _, _, _, _, _, _, _, _, _, _, _, _, _, _, _, _, _, _, _, _, _, _, _, _, _, _, _, _, _, _, _, _, _, _, _, _, _, _, _, _, _, _, _, _, _, _, _, _, _, _, _, _, _, _, _, _, _, _, _, _, _, _, _, _, _, _, _, _, _, _, _, _, _, _, _, _, _, _, _, _, _, _, _, _, _, _, _, _, _, _, _, _, _, _, _, _, _, _, _, _, _, _, _, _, _, _, _, _, _, _, _, _, _, _, _, _, _, _, _, _, _, _, _, _, _, _, _, _, _, _, _, _, _, _, _, _, _, _, _, _, _, _, _, _, _, _, _, _, _, _, _, _, _, _, _, _, _, _, _, _, _, _, _, _, _, _, _, _, _, _, _, _, _, _, _, _, _, _, _, _, _, _, _, _, _, _, _, _, _, _, _, _, _]) rfl ?_
                refine wp_block ?_
                refine c_rseq (n := 248) ⟨rfl, rfl⟩ ?_
                refine s_val (r_move rfl) ?_
                refine s_val (r_not rfl) ?_
                refine s_val (r_move rfl) ?_
                refine g_yes rfl rfl ?_
                refine s_val (r_fieldAddr (k := 3) Try.runUnderlying38 rfl Try.sizeOf35 (by decide) rfl rfl) ?_
                refine g_yes rfl rfl ?_
                refine s_val (r_load1 Try.isAgg35 rfl (H.at 2 rfl) rfl) ?_
                refine g_yes rfl rfl ?_
                refine s_val (r_move rfl) ?_
                refine g_yes rfl rfl ?_
                refine s_val (r_indexAddrS Try.runUnderlying35 Try.sizeOf36 rfl rfl (by omega) (by omega)) ?_
                refine g_yes rfl rfl ?_
                refine s_val (r_load1 Try.isAgg36 rfl (H.at 4 rfl) (uC_atA x.gens sp (i := (((m : Int) - 1 - 2) / z).toNat) (by omega) (by omega))) ?_
                refine g_yes rfl rfl ?_
                refine s_test (r_eql rfl rfl) (fun h218 => ?_) (fun h218 => ?_)
                · skip
                  exact absurd h218 hgn
                · skip
                  skip
                  refine s_val (r_pickf rfl rfl) ?_
                  refine s_val (r_assign rfl) ?_
                  refine c_nil (l' := [_, _, _, _, _, _, _, _, _, _, _, _, _, _, _, _, _, _, _, _, _, _, _, _, _, _, _, _, _, _, _, _, _, _, _, _, _, _, _, _, _, _, _, _, _, _, _, _, _, _, _, _, _, _, _, _, _, _, _, _, _, _, _, _, _, _, _, _, _, _, _, _, _, _, _, _, _, _, _, _, _, _, _, _, _, _, _, _, _, _, _, _, _, _, _, _, _, _, _, _, _, _, _, _, _, _, _, _, _, _, _, _, _, _, _, _, _, _, _, _, _, _, _, _, _, _, _, _, _, _, _, _, _, _, _, _, _, _, _, _, _, _, _, _, _, _, _, _, _, _, _, _, _, _, _, _, _, _, _, _, _, _, _, _, _, _, _, _, _, _, _, _, _, _, _, _, _, _, _, _, _, _, _, _, _, _, _, _, _, _, _, _, _, _, _, _, _, _, _, _, _, _, _, _, _, _, _, _, _, _, _, _, _, _, _, _, _, _, _, _, _, _, _, _, _, _, _, _, _, _, _, _, _, _, _, _, _, _, _, _, _, _, _, _, _, _, _, _]) rfl ?_
                  refine c_iff rfl ?_
                  refine c_seq ?_
                  refine d_begin (sz := 248) ⟨rfl, rfl⟩ (by kernel_rfl) H (H) rfl ?_
                  intro w H
                  refine d_take (i := 0) rfl (by kernel_rfl) (fun _ _ _ h => h) H (fun _ _ => r_move rfl) rfl ?_
                  refine d_take (i := 1) rfl (by kernel_rfl) (fun _ _ _ h => h) H (fun _ _ => r_indexAddrA Try.runUnderlying42 Try.sizeOf36 rfl rfl (by omega) (by omega)) rfl ?_
                  refine d_take (i := 2) rfl (by kernel_rfl) (fun _ _ _ h => h) H (fun _ HS => r_load1 Try.isAgg36 rfl (HS.at 0 rfl) (uC_at gs (i := m - 1) (by omega) (by omega))) rfl ?_
                  refine d_take (i := 3) rfl (by kernel_rfl) (fun _ _ _ h => h) H (fun _ _ => r_fieldAddr (k := 3) Try.runUnderlying38 rfl Try.sizeOf35 (by decide) rfl rfl) rfl ?_
                  refine d_take (i := 4) rfl (by kernel_rfl) (fun _ _ _ h => h) H (fun _ HS => r_load1 Try.isAgg35 rfl (HS.at 2 rfl) rfl) rfl ?_
                  refine d_take (i := 5) rfl (by kernel_rfl) (fun _ _ _ h => h) H (fun _ _ => r_move rfl) rfl ?_
                  refine d_take (i := 6) rfl (by kernel_rfl) (fun _ _ _ h => h) H (fun _ _ => r_indexAddrS Try.runUnderlying35 Try.sizeOf36 rfl rfl (by omega) (by omega)) rfl ?_
                  refine d_take (i := 7) rfl (by kernel_rfl) (fun _ _ _ h => h) H (fun _ HS => r_load1 Try.isAgg36 rfl (HS.at 4 rfl) (uC_atA x.gens sp (i := (((m : Int) - 1 - 2) / z).toNat) (by omega) (by omega))) rfl ?_
                  refine d_take (i := 8) rfl (by kernel_rfl) (fun _ _ _ h => h) H (fun _ _ => r_eql rfl rfl) rfl ?_
                  refine d_take (i := 9) rfl (by kernel_rfl) (fun _ _ _ h => h) H (fun _ _ => r_assign rfl) rfl ?_
                  refine d_done (l' := [_, _, _, _, _, _, _, _, _, _, _, _, _, _, _, _, _, _, _, _, _, _, _, _, _, _, _, _, _, _, _, _, _, _, _, _, _, _, _, _, _, _, _, _, _, _, _, _, _, _, _, _, _, _, _, _, _, _, _, _, _, _, _, _, _, _, _, _, _, _, _, _, _, _, _, _, _, _, _, _, _, _, _, _, _, _, _, _, _, _, _, _, _, _, _, _, _, _, _, _, _, _, _, _, _, _, _, _, _, _, _, _, _, _, _, _, _, _, _, _, _, _, _, _, _, _, _, _, _, _, _, _, _, _, _, _, _, _, _, _, _, _, _, _, _, _, _, _, _, _, _, _, _, _, _, _, _, _, _, _, _, _, _, _, _, _, _, _, _, _, _, _, _, _, _, _, _, _, _, _, _, _, _, _, _, _, _, _, _, _, _, _, _, _, _, _, _, _, _, _, _, _, _, _, _, _, _, _, _, _, _, _, _, _, _, _, _, _, _, _, _, _, _, _, _, _, _, _, _, _, _, _, _, _, _, _, _, _, _, _, _, _, _, _, _, _, _, _]) (by kernel_rfl) rfl ?_
                  refine x_thenNormal ?_
                  refine c_if rfl (fun h227 => ?_) (fun h227 => ?_)
                  · skip
                    exact absurd ⟨(hpr.1 h227).1, (hpr.1 h227).2.1⟩ hlo
                  · skip
                    skip
                    refine c_rseq (n := 248) ⟨rfl, rfl⟩ ?_
                    refine s_val (r_move rfl) ?_
                    refine s_test (r_neq rfl rfl) (fun h203 => ?_) (fun h203 => ?_)
                    · skip
                      exfalso; omega
                    · skip
                      refine s_val (r_move rfl) ?_
                      refine g_yes rfl rfl ?_
                      refine s_val (r_move rfl) ?_
                      refine g_yes rfl rfl ?_
                      refine s_val (r_lens Try.runUnderlying40 (ec rfl en)) ?_
                      refine g_yes rfl rfl ?_
                      refine s_test (r_neq rfl rfl) (fun h207 => ?_) (fun h207 => ?_)
                      · skip
                        exfalso; omega
                      · skip
                        refine s_val (r_pickf rfl rfl) ?_
                        refine c_nil (l' := [_, _, _, _, _, _, _, _, _, _, _, _, _, _, _, _, _, _, _, _, _, _, _, _, _, _, _, _, _, _, _, _, _, _, _, _, _, _, _, _, _, _, _, _, _, _, _, _, _, _, _, _, _, _, _, _, _, _, _, _, _, _, _, _, _, _, _, _, _, _, _, _, _, _, _, _, _, _, _, _, _, _, _, _, _, _, _, _, _, _, _, _, _, _, _, _, _, _, _, _, _, _, _, _, _, _, _, _, _, _, _, _, _, _, _, _, _, _, _, _, _, _, _, _, _, _, _, _, _, _, _, _, _, _, _, _, _, _, _, _, _, _, _, _, _, _, _, _, _, _, _, _, _, _, _, _, _, _, _, _, _, _, _, _, _, _, _, _, _, _, _, _, _, _, _, _, _, _, _, _, _, _, _, _, _, _, _, _, _, _, _, _, _, _, _, _, _, _, _, _, _, _, _, _, _, _, _, _, _, _, _, _, _, _, _, _, _, _, _, _, _, _, _, _, _, _, _, _, _, _, _, _, _, _, _, _, _, _, _, _, _, _, _, _, _, _, _, _]) rfl ?_
                        refine c_iff rfl ?_
                        refine wp_skip ?_
                        refine x_blockNormal ?_
                        refine x_blockNormal ?_
                        refine x_thenNormal ?_
                        refine c_region (n := 248) ⟨rfl, rfl⟩ ?_
                        refine s_val (r_move rfl) ?_
                        refine s_val (r_add rfl rfl (w_i64e (r := ((m + 1 : Nat) : Int) - 1) (by omega) (by omega) (by omega))) ?_
                        refine s_val (r_assign rfl) ?_
                        refine c_nil0 (l' := [_, _, _, _, _, _, _, _, _, _, _, _, _, _, _, _, _, _, _, _, _, _, _, _, _, _, _, _, _, _, _, _, _, _, _, _, _, _, _, _, _, _, _, _, _, _, _, _, _, _, _, _, _, _, _, _, _, _, _, _, _, _, _, _, _, _, _, _, _, _, _, _, _, _, _, _, _, _, _, _, _, _, _, _, _, _, _, _, _, _, _, _, _, _, _, _, _, _, _, _, _, _, _, _, _, _, _, _, _, _, _, _, _, _, _, _, _, _, _, _, _, _, _, _, _, _, _, _, _, _, _, _, _, _, _, _, _, _, _, _, _, _, _, _, _, _, _, _, _, _, _, _, _, _, _, _, _, _, _, _, _, _, _, _, _, _, _, _, _, _, _, _, _, _, _, _, _, _, _, _, _, _, _, _, _, _, _, _, _, _, _, _, _, _, _, _, _, _, _, _, _, _, _, _, _, _, _, _, _, _, _, _, _, _, _, _, _, _, _, _, _, _, _, _, _, _, _, _, _, _, _, _, _, _, _, _, _, _, _, _, _, _, _, _, _, _, _, _]) rfl ?_
                        skip
                        exact ⟨m + 1, _, rfl, ⟨_, _, _, _, _, _, _, _, _, _, _, _, _, _, _, _, _, _, _, _, _, _, _, _, _, _, _, _, _, _, _, _, _, _, _, _, _, _, _, _, _, _, _, _, _, _, _, _, _, _, _, _, _, _, _, _, _, _, _, _, _, _, _, _, _, _, _, _, _, _, _, _, _, _, _, rfl, by omega, H⟩, by omega⟩
          · skip
            refine wp_exit (x_thenExit (x_thenExit (x_blockHit ?_)))
            refine x_thenNormal ?_
            refine c_rseq (n := 248) ⟨rfl, rfl⟩ ?_
            refine s_val (r_assign rfl) ?_
            refine c_nil (l' := [_, _, _, _, _, _, _, _, _, _, _, _, _, _, _, _, _, _, _, _, _, _, _, _, _, _, _, _, _, _, _, _, _, _, _, _, _, _, _, _, _, _, _, _, _, _, _, _, _, _, _, _, _, _, _, _, _, _, _, _, _, _, _, _, _, _, _, _, _, _, _, _, _, _, _, _, _, _, _, _, _, _, _, _, _, _, _, _, _, _, _, _, _, _, _, _, _, _, _, _, _, _, _, _, _, _, _, _, _, _, _, _, _, _, _, _, _, _, _, _, _, _, _, _, _, _, _, _, _, _, _, _, _, _, _, _, _, _, _, _, _, _, _, _, _, _, _, _, _, _, _, _, _, _, _, _, _, _, _, _, _, _, _, _, _, _, _, _, _, _, _, _, _, _, _, _, _, _, _, _, _, _, _, _, _, _, _, _, _, _, _, _, _, _, _, _, _, _, _, _, _, _, _, _, _, _, _, _, _, _, _, _, _, _, _, _, _, _, _, _, _, _, _, _, _, _, _, _, _, _, _, _, _, _, _, _, _, _, _, _, _, _, _, _, _, _, _, _]) rfl ?_
            refine wp_ret ?_
            refine e_ret (res1 rfl rfl) ⟨_, rfl, ?_⟩
            exact ⟨rfl, H.sub (List.nil_sublist _)⟩

end Go.Proofs.Ytbjalofmamoffaa
