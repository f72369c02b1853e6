import Derived.Test.YtbjalofmamoffaaPA2
import Derived.Test.YtbjalofmamoffaaPB2
import Derived.Test.YtbjalofmamoffaaPV1
namespace Go.Proofs.Ytbjalofmamoffaa
open Go Go.Er
theorem bytes3 : Try.t3.bytes = 8 := rfl

set_option maxHeartbeats 4000000 in
theorem there_spec (bd mp : Nat) (C : List Sec) (w0 : World) (hd : DevR w0 bd C) :
    Calls Try.prog 50 #[.agg (sdC bd mp).toArray] w0 fun e w => ∃ v, e = .returned v ∧ (v = .bool true ∧ St w0 [] w []) := by
  have H := St.refl w0
  refine c_enter (args := [.agg (sdC bd mp).toArray]) (l := [.agg (sdC bd mp).toArray, undef, undef, undef, undef, undef, undef, undef, undef, undef, undef, undef, undef, undef, undef, undef]) Try.func50 Try.ntmps50 rfl rfl ?_
  refine c_rseq (n := 16) ⟨rfl, rfl⟩ ?_
  refine s_new (m_box (cs := (sdC bd mp)) H rfl rfl) ?_
  intro w b1 H
  refine s_val (r_assign rfl) ?_
  refine c_nil (l' := [_,_,_,_,_,_,_,_,_,_,_,_,_,_,_,_]) rfl ?_
  refine c_seq ?_
  refine c_rseq (n := 16) ⟨rfl, rfl⟩ ?_
  refine s_val (r_fieldAddr (k := 0) Try.runUnderlying116 rfl Try.sizeOf26 (by decide) rfl rfl) ?_
  refine s_val (r_load1 Try.isAgg26 rfl (H.at 0 rfl) rfl) ?_
  refine s_val (r_nilpF Try.runUnderlying26 rfl rfl) ?_
  refine c_nil (l' := [_,_,_,_,_,_,_,_,_,_,_,_,_,_,_,_]) rfl ?_
  refine c_iff rfl ?_
  refine wp_skip ?_
  refine x_thenNormal ?_
  refine c_rseq (n := 16) ⟨rfl, rfl⟩ ?_
  refine s_val (r_fieldAddr (k := 0) Try.runUnderlying116 rfl Try.sizeOf26 (by decide) rfl rfl) ?_
  refine s_val (r_load1 Try.isAgg26 rfl (H.at 0 rfl) rfl) ?_
  refine s_call (r_call Try.call64 (ec rfl (ec rfl en))) (dread_spec bd C 0 _ (hd.st (H.sub (List.nil_sublist _)))) ?_
  rintro v w (⟨_,_, rfl, HC⟩ | ⟨_, rfl, HC⟩)
  · skip
    replace H := H.quiet HC
    refine s_val (r_move rfl) ?_
    refine s_val (r_extract rfl rfl) ?_
    refine s_val (r_extract rfl rfl) ?_
    refine s_new (m_alloc (cs := (kC zS)) H Try.zeroValue97 rfl) ?_
    intro w b3 H
    refine s_st (m_storen H 0 128 Try.sizeOf97 rfl rfl (by first | exact (kC_length _) | exact (hC_length _) | exact (shC_length _ _) | exact (wC_length _) | exact (sdC_length _ _)) (by first | exact (kC_one _) | exact (hC_one _) | exact (shC_one _ _) | exact (elW.one _) | exact (sdC_one _ _)) rfl (by first | exact (by rw [kC_length]; omega) | exact (by rw [hC_length]; omega) | exact (by rw [wC_length]; omega)) (by first | exact (kC_sp _ _) | exact (hC_sp _ _))) (L' := (_ :: _ :: _)) rfl ?_
    intro w H
    refine s_val (r_assign rfl) ?_
    refine c_nil (l' := [_,_,_,_,_,_,_,_,_,_,_,_,_,_,_,_]) rfl ?_
    refine c_rseq (n := 16) ⟨rfl, rfl⟩ ?_
    refine s_val (r_move rfl) ?_
    refine s_val (r_neq rfl rfl) ?_
    refine s_val (r_assign rfl) ?_
    refine c_nil (l' := [_,_,_,_,_,_,_,_,_,_,_,_,_,_,_,_]) rfl ?_
    refine wp_ret ?_
    refine e_ret (res1 rfl rfl) ⟨_, rfl, ?_⟩
    exact ⟨rfl, H.sub (List.nil_sublist _)⟩
  · skip
    replace H := H.quiet HC
    refine s_val (r_move rfl) ?_
    refine s_val (r_extract rfl rfl) ?_
    refine s_val (r_extract rfl rfl) ?_
    refine s_new (m_alloc (cs := (kC zS)) H Try.zeroValue97 rfl) ?_
    intro w b3 H
    refine s_st (m_storen H 0 128 Try.sizeOf97 rfl rfl (by first | exact (kC_length _) | exact (hC_length _) | exact (shC_length _ _) | exact (wC_length _) | exact (sdC_length _ _)) (by first | exact (kC_one _) | exact (hC_one _) | exact (shC_one _ _) | exact (elW.one _) | exact (sdC_one _ _)) rfl (by first | exact (by rw [kC_length]; omega) | exact (by rw [hC_length]; omega) | exact (by rw [wC_length]; omega)) (by first | exact (kC_sp _ _) | exact (hC_sp _ _))) (L' := (_ :: _ :: _)) rfl ?_
    intro w H
    refine s_val (r_assign rfl) ?_
    refine c_nil (l' := [_,_,_,_,_,_,_,_,_,_,_,_,_,_,_,_]) rfl ?_
    refine c_rseq (n := 16) ⟨rfl, rfl⟩ ?_
    refine s_val (r_move rfl) ?_
    refine s_val (r_neq rfl rfl) ?_
    refine s_val (r_assign rfl) ?_
    refine c_nil (l' := [_,_,_,_,_,_,_,_,_,_,_,_,_,_,_,_]) rfl ?_
    refine wp_ret ?_
    refine e_ret (res1 rfl rfl) ⟨_, rfl, ?_⟩
    exact ⟨rfl, H.sub (List.nil_sublist _)⟩

set_option maxHeartbeats 4000000 in
theorem mlen_spec (bm : Nat) (C : List Sec) (w0 : World) (hm : MirR 51 89 72 w0 bm C) :
    Calls Try.prog 53 #[.pointer (some ⟨bm, 0, none⟩)] w0 fun e w => ∃ v, e = .returned v ∧ (v = .int .i64 (C.length : Nat) ∧ St w0 [] w []) := by
  have hm2 := hm
  obtain ⟨ba, ma, bb, mb, g, T, fz, hbm, hdv, hmp, ⟨bg, cs, rfl, hbg⟩, hcl⟩ := hm2
  have H := St.refl w0
  refine c_enter (args := [.pointer (some ⟨bm, 0, none⟩)]) (l := [.pointer (some ⟨bm, 0, none⟩), undef, undef, undef, undef, undef, undef, undef, undef]) Try.func53 Try.ntmps53 rfl rfl ?_
  refine c_rseq (n := 9) ⟨rfl, rfl⟩ ?_
  refine s_val (r_assign rfl) ?_
  refine c_nil (l' := [_,_,_,_,_,_,_,_,_]) rfl ?_
  refine c_seq ?_
  refine c_rseq (n := 9) ⟨rfl, rfl⟩ ?_
  refine s_val (r_move rfl) ?_
  refine s_val (r_nilpF Try.runUnderlying27 rfl rfl) ?_
  refine c_nil (l' := [_,_,_,_,_,_,_,_,_]) rfl ?_
  refine c_iff rfl ?_
  refine wp_skip ?_
  refine x_thenNormal ?_
  refine c_rseq (n := 9) ⟨rfl, rfl⟩ ?_
  refine s_val (r_move rfl) ?_
  refine s_val (r_nilCheck rfl) ?_
  refine s_val (r_fieldAddr (k := 4) Try.runUnderlying119 rfl Try.sizeOf3 (by decide) rfl rfl) ?_
  refine s_val (r_load1 Try.isAgg3 rfl (H.rd0 hbm) rfl) ?_
  refine s_val (r_assign rfl) ?_
  refine c_nil (l' := [_,_,_,_,_,_,_,_,_]) rfl ?_
  refine wp_ret ?_
  refine e_ret (res1 rfl rfl) ⟨_, rfl, ?_⟩
  exact ⟨rfl, H⟩

set_option maxHeartbeats 4000000 in
theorem has_spec (bm : Nat) (C : List Sec) (n : Int) (w0 : World) (hm : MirR 51 89 72 w0 bm C) :
    Calls Try.prog 62 #[.pointer (some ⟨bm, 0, none⟩), .int .i64 n] w0 fun e w => ∃ v, e = .returned v ∧ (v = .bool (decide (0 ≤ n ∧ n < (C.length : Int))) ∧ St w0 [] w []) := by
  have hm2 := hm
  obtain ⟨ba, ma, bb, mb, g, T, fz, hbm, hdv, hmp, ⟨bg, cs, rfl, hbg⟩, hcl⟩ := hm2
  have H := St.refl w0
  refine c_enter (args := [.pointer (some ⟨bm, 0, none⟩), .int .i64 n]) (l := [.pointer (some ⟨bm, 0, none⟩), .int .i64 n, undef, undef, undef, undef, undef, undef, undef, undef, undef, undef, undef]) Try.func62 Try.ntmps62 rfl rfl ?_
  refine c_rseq (n := 13) ⟨rfl, rfl⟩ ?_
  refine s_val (r_assign rfl) ?_
  refine c_nil (l' := [_,_,_,_,_,_,_,_,_,_,_,_,_]) rfl ?_
  refine c_rseq (n := 13) ⟨rfl, rfl⟩ ?_
  refine s_val (r_move rfl) ?_
  refine s_test (r_geq rfl rfl) (fun h6 => ?_) (fun h6 => ?_)
  · skip
    refine s_val (r_move rfl) ?_
    refine g_yes rfl rfl ?_
    refine s_val (r_move rfl) ?_
    refine g_yes rfl rfl ?_
    refine s_val (r_move rfl) ?_
    refine g_yes rfl rfl ?_
    refine s_call (r_call Try.call53 (ec rfl en)) (mlen_spec _ C _ (hm.st (H.sub (List.nil_sublist _)))) ?_
    rintro v w ⟨rfl, HC⟩
    replace H := H.quiet HC
    refine g_yes rfl rfl ?_
    refine s_val (r_lss rfl rfl) ?_
    refine s_val (r_pickt rfl rfl) ?_
    refine s_val (r_assign rfl) ?_
    refine c_nil (l' := [_,_,_,_,_,_,_,_,_,_,_,_,_]) rfl ?_
    refine wp_ret ?_
    refine e_ret (res1 rfl rfl) ⟨_, rfl, ?_⟩
    exact ⟨congrArg Value.bool (decide_eq_decide.2 (by omega)), H⟩
  · skip
    refine s_val (r_move rfl) ?_
    refine g_no rfl rfl (by decide) ?_
    refine g_no rfl rfl (by decide) ?_
    refine g_no rfl rfl (by decide) ?_
    refine g_no rfl rfl (by decide) ?_
    refine s_val (r_pickf rfl rfl) ?_
    refine s_val (r_assign rfl) ?_
    refine c_nil (l' := [_,_,_,_,_,_,_,_,_,_,_,_,_]) rfl ?_
    refine wp_ret ?_
    refine e_ret (res1 rfl rfl) ⟨_, rfl, ?_⟩
    exact ⟨by rw [decide_eq_false (fun h => h6 h.1)], H⟩

set_option maxHeartbeats 4000000 in
theorem right_spec (bm : Nat) (C : List Sec) (n : Int) (h0 : 0 ≤ n) (h1 : n < 4096) (s : Sec) (w0 : World) (hm : MirR 51 89 72 w0 bm C) :
    Calls Try.prog 65 #[.pointer (some ⟨bm, 0, none⟩), .int .i64 n, .agg (kC s).toArray] w0 fun e w => ∃ v, e = .returned v ∧ (v = .bool (decide (Sealed n s)) ∧ St w0 [] w []) := by
  have hm2 := hm
  obtain ⟨ba, ma, bb, mb, g, T, fz, hbm, hdv, hmp, ⟨bg, cs, rfl, hbg⟩, hcl⟩ := hm2
  have H := St.refl w0
  refine c_enter (args := [.pointer (some ⟨bm, 0, none⟩), .int .i64 n, .agg (kC s).toArray]) (l := [.pointer (some ⟨bm, 0, none⟩), .int .i64 n, .agg (kC s).toArray, undef, undef, undef, undef, undef, undef, undef, undef, undef, undef, undef, undef, undef, undef, undef, undef, undef, undef]) Try.func65 Try.ntmps65 rfl rfl ?_
  refine c_rseq (n := 21) ⟨rfl, rfl⟩ ?_
  refine s_new (m_box (cs := (kC s)) H rfl rfl) ?_
  intro w b5 H
  refine s_val (r_assign rfl) ?_
  refine c_nil (l' := [_,_,_,_,_,_,_,_,_,_,_,_,_,_,_,_,_,_,_,_,_]) rfl ?_
  refine c_seq ?_
  refine d_begin (sz := 21) ⟨rfl, rfl⟩ (by kernel_rfl) H (H) rfl ?_
  intro w H
  refine d_take (i := 0) rfl (by kernel_rfl) (fun _ _ _ h => h) H (fun _ _ => r_move rfl) rfl ?_
  refine d_take (i := 1) rfl (by kernel_rfl) (fun _ _ _ h => h) H (fun _ _ => r_nilCheck rfl) rfl ?_
  refine d_take (i := 2) rfl (by kernel_rfl) (fun _ _ _ h => h) H (fun _ _ => r_fieldAddr (k := 5) Try.runUnderlying119 rfl Try.sizeOf66 (by decide) rfl rfl) rfl ?_
  refine d_take (i := 3) rfl (by kernel_rfl) (fun _ _ _ h => h) H (fun _ HS => r_load1 Try.isAgg66 rfl (HS.rd0 hbm) rfl) rfl ?_
  refine d_take (i := 4) rfl (by kernel_rfl) (fun _ _ _ h => h) H (fun _ _ => r_nnilf Try.runUnderlying66 ⟨_,_,_, rfl⟩ rfl rfl) rfl ?_
  refine d_take (i := 5) rfl (by kernel_rfl) (fun _ _ _ h => h) H (fun _ _ => r_move rfl) rfl ?_
  refine d_takeG (i := 6) rfl (by kernel_rfl) (fun _ _ _ h => h) rfl rfl H (fun _ _ => r_move rfl) rfl ?_
  refine d_takeG (i := 7) rfl (by kernel_rfl) (fun _ _ _ h => h) rfl rfl H (fun _ _ => r_nilCheck rfl) rfl ?_
  refine d_takeG (i := 8) rfl (by kernel_rfl) (fun _ _ _ h => h) rfl rfl H (fun _ _ => r_fieldAddr (k := 5) Try.runUnderlying119 rfl Try.sizeOf66 (by decide) rfl rfl) rfl ?_
  refine d_takeG (i := 9) rfl (by kernel_rfl) (fun _ _ _ h => h) rfl rfl H (fun _ HS => r_load1 Try.isAgg66 rfl (HS.rd0 hbm) rfl) rfl ?_
  refine d_takeG (i := 10) rfl (by kernel_rfl) (fun _ _ _ h => h) rfl rfl H (fun _ _ => r_move rfl) rfl ?_
  refine d_takeG (i := 11) rfl (by kernel_rfl) (fun _ _ _ h => h) rfl rfl H (fun _ HS => r_loadn Try.isAgg97 Try.sizeOf97 rfl (HS.at 0 rfl) (by first | exact (kC_td _) | exact (hC_td _) | exact (hC_seed _) | exact (shC_td _ _) | exact (sdC_td _ _)) (by first | exact (kC_length _) | exact (hC_length _) | exact (shC_length _ _) | exact (wC_length _) | exact (sdC_length _ _) | exact rfl)) rfl ?_
  refine d_all1 (i := 12) (by kernel_rfl) ?_
  refine b_call rfl (go_some rfl rfl) (r_callv Try.call51 rfl (ec rfl (ec rfl en)) rfl) (good1_spec cs n h0 h1 s bg _ (H.rd0 hbg)) rfl ?_
  rintro v w ⟨rfl, HC⟩
  replace H := H.quiet HC
  refine ⟨H, ?_⟩
  refine d_take (i := 13) rfl (by kernel_rfl) (fun _ _ _ h => h) H (fun _ _ => r_pickt rfl rfl) rfl ?_
  refine d_take (i := 14) rfl (by kernel_rfl) (fun _ _ _ h => h) H (fun _ _ => r_assign rfl) rfl ?_
  refine d_done (l' := [_,_,_,_,_,_,_,_,_,_,_,_,_,_,_,_,_,_,_,_,_]) (by kernel_rfl) rfl ?_
  refine x_thenNormal ?_
  refine wp_ret ?_
  refine e_ret (res1 rfl rfl) ⟨_, rfl, ?_⟩
  exact ⟨rfl, H.sub (List.nil_sublist _)⟩

set_option maxHeartbeats 4000000 in
theorem present_spec (bm : Nat) (C : List Sec) (w0 : World) (hm : MirR 51 89 72 w0 bm C) :
    Calls Try.prog 63 #[.pointer (some ⟨bm, 0, none⟩)] w0 fun e w => ∃ v, e = .returned v ∧ (∃ a cap N, v = .slice a 2 cap ∧ RowN 1 3 (iC 2) 2 a cap N ∧ St w0 [] w N) := by
  have hm2 := hm
  obtain ⟨ba, ma, bb, mb, g, T, fz, hbm, hdv, hmp, ⟨bg, cs, rfl, hbg⟩, hcl⟩ := hm2
  have H := St.refl w0
  refine c_enter (args := [.pointer (some ⟨bm, 0, none⟩)]) (l := [.pointer (some ⟨bm, 0, none⟩), undef, undef, undef, undef, undef, undef, undef, undef, undef, undef, undef, undef, undef, undef, undef, undef, undef, undef, undef, undef]) Try.func63 Try.ntmps63 rfl rfl ?_
  refine c_rseq (n := 21) ⟨rfl, rfl⟩ ?_
  refine s_val (r_assign rfl) ?_
  refine c_nil (l' := [_,_,_,_,_,_,_,_,_,_,_,_,_,_,_,_,_,_,_,_,_]) rfl ?_
  refine c_rseq (n := 21) ⟨rfl, rfl⟩ ?_
  refine s_val (r_assign rfl) ?_
  refine c_nil (l' := [_,_,_,_,_,_,_,_,_,_,_,_,_,_,_,_,_,_,_,_,_]) rfl ?_
  refine c_seq ?_
  refine c_rseq (n := 21) ⟨rfl, rfl⟩ ?_
  refine s_val (r_move rfl) ?_
  refine c_nil (l' := [_,_,_,_,_,_,_,_,_,_,_,_,_,_,_,_,_,_,_,_,_]) rfl ?_
  refine wp_block ?_
  refine c_loop (fun (l0 : List Value) (i : Nat) (l : List Value) (w : World) => ∃ (u4 u6 u7 u8 u9 u10 u11 u12 u13 u14 u15 u16 u17 u18 u19 : Value) (a : Option Addr) (cap : Nat) (N : List (Nat × Obj)), l = ovr l0 [N_, N_, N_, Y_ (.slice a i cap), Y_ u4, Y_ (.int .i64 i), Y_ u6, Y_ u7, Y_ u8, Y_ u9, Y_ u10, Y_ u11, Y_ u12, Y_ u13, Y_ u14, Y_ u15, Y_ u16, Y_ u17, Y_ u18, Y_ u19] ∧ i ≤ 2 ∧ RowN 1 3 (iC i) i a cap N ∧ St w0 [] w (N)) (fun (i : Nat) => 2 - i) 0 ⟨_,_,_,_,_,_,_,_,_,_,_,_,_,_,_, none, 0, [], rfl, by omega, RowN.nil, H⟩ ?_
  intro i l w ⟨u4, u6, u7, u8, u9, u10, u11, u12, u13, u14, u15, u16, u17, u18, u19, a, cap, N, hl, hi, hN, H⟩
  obtain rfl := hl.trans (rfl : _ = [_,_,_,_,_,_,_,_,_,_,_,_,_,_,_,_,_,_,_,_,_])
  clear hl
  refine c_rseq (n := 21) ⟨rfl, rfl⟩ ?_
  refine s_val (r_lss rfl rfl) ?_
  refine c_nil (l' := [_,_,_,_,_,_,_,_,_,_,_,_,_,_,_,_,_,_,_,_,_]) rfl ?_
  refine c_seq ?_
  refine c_if rfl (fun h6 => ?_) (fun h6 => ?_)
  · skip
    refine wp_skip ?_
    refine x_thenNormal ?_
    refine c_seq ?_
    refine wp_block ?_
    refine c_rseq (n := 21) ⟨rfl, rfl⟩ ?_
    refine s_val (r_move rfl) ?_
    refine s_val (r_assign rfl) ?_
    refine c_nil (l' := [_,_,_,_,_,_,_,_,_,_,_,_,_,_,_,_,_,_,_,_,_]) rfl ?_
    refine c_rseq (n := 21) ⟨rfl, rfl⟩ ?_
    refine s_val (r_move rfl) ?_
    refine s_val (r_move rfl) ?_
    refine s_val (r_nilCheck rfl) ?_
    refine s_val (r_fieldAddr (k := 0) Try.runUnderlying119 rfl Try.sizeOf117 (by decide) rfl rfl) ?_
    refine s_val (r_indexAddrA Try.runUnderlying117 Try.sizeOf116 rfl rfl (by omega) (by omega)) ?_
    refine s_val (r_loadn Try.isAgg116 Try.sizeOf116 rfl (H.rd0 hbm) (mC_side (i := i) (by omega) (by omega)) (by first | exact (kC_length _) | exact (hC_length _) | exact (shC_length _ _) | exact (wC_length _) | exact (sdC_length _ _) | exact rfl)) ?_
    refine s_call (r_call Try.call50 (ec rfl en)) (there_spec (bI ba bb i) (bI ma mb i) C _ ((hdv i).st (H.sub (List.nil_sublist _)))) ?_
    rintro v w ⟨rfl, HC⟩
    replace H := H.quiet HC
    refine c_nil (l' := [_,_,_,_,_,_,_,_,_,_,_,_,_,_,_,_,_,_,_,_,_]) rfl ?_
    refine c_ift rfl ?_
    refine c_region (n := 21) ⟨rfl, rfl⟩ ?_
    refine s_val (r_move rfl) ?_
    refine s_val (r_move rfl) ?_
    refine s_new (m_bslice1 (vs := [.int .i64 (i : Nat)]) H Try.runUnderlying139 Try.sizeOf3 Try.zeroValue3 (by omega) (by omega) rfl rfl rfl) ?_
    intro w b17 H
    refine s_any (m_append_row0 (L1 := [_]) (N := N) H hN Try.runUnderlying139 Try.runUnderlying139 (fun _ h => nomatch h) Try.sizeOf3 Try.zeroValue3 rfl Try.typeInfo3 (by rw [bytes3]; omega) (by rw [bytes3]; omega) (ec rfl (ec rfl en)) (Src.slice (vs := [.int .i64 (i : Nat)]) (H.at 0 rfl) rfl rfl (fun v hv => by rw [List.mem_singleton.1 hv]; rfl))) ?_
    rintro v w ⟨a2, c2, N2, rfl, hN2, H⟩
    skip
    refine s_val (r_assign rfl) ?_
    refine c_nil0 (l' := [_,_,_,_,_,_,_,_,_,_,_,_,_,_,_,_,_,_,_,_,_]) rfl ?_
    refine x_blockNormal ?_
    refine x_thenNormal ?_
    refine c_region (n := 21) ⟨rfl, rfl⟩ ?_
    refine s_val (r_add rfl rfl (w_i64 (by omega) (by omega))) ?_
    refine s_val (r_move rfl) ?_
    refine c_nil0 (l' := [_,_,_,_,_,_,_,_,_,_,_,_,_,_,_,_,_,_,_,_,_]) rfl ?_
    replace H := H.sub (.cons _ (List.Sublist.refl _))
    exact ⟨i + 1, _, rfl, ⟨_,_,_,_,_,_,_,_,_,_,_,_,_,_,_,_,_,_, rfl, by omega, by rw [iC_succ]; exact hN2, H⟩, by omega⟩
  · skip
    obtain rfl : i = 2 := by omega
    refine wp_exit (x_thenExit (x_thenExit (x_blockHit ?_)))
    refine x_thenNormal ?_
    refine c_rseq (n := 21) ⟨rfl, rfl⟩ ?_
    refine s_val (r_move rfl) ?_
    refine s_val (r_assign rfl) ?_
    refine c_nil (l' := [_,_,_,_,_,_,_,_,_,_,_,_,_,_,_,_,_,_,_,_,_]) rfl ?_
    refine wp_ret ?_
    refine e_ret (res1 rfl rfl) ⟨_, rfl, ?_⟩
    exact ⟨_,_,_, rfl, hN, H⟩

set_option maxHeartbeats 4000000 in
theorem mread_spec (bm : Nat) (C : List Sec) (n : Int) (w0 : World) (hm : MirR 51 89 72 w0 bm C) :
    Calls Try.prog 40 #[.pointer (some ⟨bm, 0, none⟩), .int .i64 n] w0 fun e w => ∃ v, e = .returned v ∧ ((¬ (0 ≤ n ∧ n < (C.length : Int)) ∧ v = .tuple #[.agg (kC zS).toArray, .int .i64 2] ∧ St w0 [] w []) ∨ (0 ≤ n ∧ n < (C.length : Int) ∧ Sealed n (sd C n.toNat) ∧ v = .tuple #[.agg (kC (sd C n.toNat)).toArray, .int .i64 0] ∧ St w0 [] w []) ∨ (0 ≤ n ∧ n < (C.length : Int) ∧ ¬ Sealed n (sd C n.toNat) ∧ v = .tuple #[.agg (kC zS).toArray, .int .i64 9] ∧ St w0 [] w [])) := by
  have hm2 := hm
  obtain ⟨ba, ma, bb, mb, g, T, fz, hbm, hdv, hmp, ⟨bg, cs, rfl, hbg⟩, hcl⟩ := hm2
  have H := St.refl w0
  refine c_enter (args := [.pointer (some ⟨bm, 0, none⟩), .int .i64 n]) (l := [.pointer (some ⟨bm, 0, none⟩), .int .i64 n, undef, undef, undef, undef, undef, undef, undef, undef, undef, undef, undef, undef, undef, undef, undef, undef, undef, undef, undef, undef, undef, undef, undef, undef, undef, undef, undef, undef, undef, undef, undef, undef, undef, undef, undef, undef, undef, undef, undef, undef, undef, undef, undef, undef, undef, undef, undef, undef, undef, undef, undef, undef, undef, undef, undef, undef, undef, undef, undef, undef, undef]) Try.func40 Try.ntmps40 rfl rfl ?_
  refine c_rseq (n := 63) ⟨rfl, rfl⟩ ?_
  refine s_new (m_alloc (cs := (kC zS)) H Try.zeroValue97 rfl) ?_
  intro w b4 H
  refine s_val (r_assign rfl) ?_
  refine c_nil (l' := [_,_,_,_,_,_,_,_,_,_,_,_,_,_,_,_,_,_,_,_,_,_,_,_,_,_,_,_,_,_,_,_,_,_,_,_,_,_,_,_,_,_,_,_,_,_,_,_,_,_,_,_,_,_,_,_,_,_,_,_,_,_,_]) rfl ?_
  refine c_seq ?_
  refine c_rseq (n := 63) ⟨rfl, rfl⟩ ?_
  refine s_val (r_move rfl) ?_
  refine s_val (r_move rfl) ?_
  refine s_call (r_call Try.call62 (ec rfl (ec rfl en))) (has_spec _ C n _ (hm.st (H.sub (List.nil_sublist _)))) ?_
  rintro v w ⟨rfl, HC⟩
  replace H := H.quiet HC
  refine s_val (r_notp rfl) ?_
  refine c_nil (l' := [_,_,_,_,_,_,_,_,_,_,_,_,_,_,_,_,_,_,_,_,_,_,_,_,_,_,_,_,_,_,_,_,_,_,_,_,_,_,_,_,_,_,_,_,_,_,_,_,_,_,_,_,_,_,_,_,_,_,_,_,_,_,_]) rfl ?_
  refine c_if rfl (fun h14 => ?_) (fun h14 => ?_)
  · skip
    refine c_rseq (n := 63) ⟨rfl, rfl⟩ ?_
    refine s_val (r_buildA (pl := []) (zs := kC (By.zero 128)) (out := kC (By.zero 128)) Try.runUnderlying97 Try.sizeOf5 Try.zeroValue97 pn (by intro p hp; simp at hp) rfl) ?_
    refine s_st (m_storen H 0 128 Try.sizeOf97 rfl rfl (by first | exact (kC_length _) | exact (hC_length _) | exact (shC_length _ _) | exact (wC_length _) | exact (sdC_length _ _)) (by first | exact (kC_one _) | exact (hC_one _) | exact (shC_one _ _) | exact (elW.one _) | exact (sdC_one _ _)) rfl (by first | exact (by rw [kC_length]; omega) | exact (by rw [hC_length]; omega) | exact (by rw [wC_length]; omega)) (by first | exact (kC_sp _ _) | exact (hC_sp _ _))) (L' := (_ :: _)) rfl ?_
    intro w H
    refine s_val (r_assign rfl) ?_
    refine c_nil (l' := [_,_,_,_,_,_,_,_,_,_,_,_,_,_,_,_,_,_,_,_,_,_,_,_,_,_,_,_,_,_,_,_,_,_,_,_,_,_,_,_,_,_,_,_,_,_,_,_,_,_,_,_,_,_,_,_,_,_,_,_,_,_,_]) rfl ?_
    refine wp_ret (x_thenRet ?_)
    refine e_ret (rc_two rfl (rc_celln Try.isAgg97 Try.sizeOf97 rfl (H.at 0 rfl) (by first | exact (kC_td _) | exact (hC_td _) | exact (hC_seed _) | exact (shC_td _ _) | exact (sdC_td _ _)) (by first | exact (kC_length _) | exact (hC_length _) | exact (shC_length _ _) | exact (wC_length _) | exact (sdC_length _ _))) (rc_tmp rfl)) ⟨_, rfl, ?_⟩
    exact .inl ⟨h14, rfl, H.sub (List.nil_sublist _)⟩
  · skip
    obtain ⟨hn0, hn1⟩ := Decidable.not_not.1 h14
    refine wp_skip ?_
    refine x_thenNormal ?_
    refine c_rseq (n := 63) ⟨rfl, rfl⟩ ?_
    refine s_val (r_move rfl) ?_
    refine s_call (r_call Try.call63 (ec rfl en)) (present_spec _ C _ (hm.st (H.sub (List.nil_sublist _)))) ?_
    rintro v w ⟨ap, cp, Np, rfl, hNp, HC⟩
    replace H := H.call0 HC
    refine s_val (r_assign rfl) ?_
    refine c_nil (l' := [_,_,_,_,_,_,_,_,_,_,_,_,_,_,_,_,_,_,_,_,_,_,_,_,_,_,_,_,_,_,_,_,_,_,_,_,_,_,_,_,_,_,_,_,_,_,_,_,_,_,_,_,_,_,_,_,_,_,_,_,_,_,_]) rfl ?_
    refine c_seq ?_
    refine c_rseq (n := 63) ⟨rfl, rfl⟩ ?_
    refine s_val (r_move rfl) ?_
    refine s_val (r_lens Try.runUnderlying139 (ec rfl en)) ?_
    refine s_val (r_eql rfl rfl) ?_
    refine c_nil (l' := [_,_,_,_,_,_,_,_,_,_,_,_,_,_,_,_,_,_,_,_,_,_,_,_,_,_,_,_,_,_,_,_,_,_,_,_,_,_,_,_,_,_,_,_,_,_,_,_,_,_,_,_,_,_,_,_,_,_,_,_,_,_,_]) rfl ?_
    refine c_if rfl (fun h20 => ?_) (fun h20 => ?_)
    · skip
      exfalso; omega
    · skip
      refine wp_skip ?_
      refine x_thenNormal ?_
      refine c_seq ?_
      refine c_rseq (n := 63) ⟨rfl, rfl⟩ ?_
      refine s_val (r_move rfl) ?_
      refine s_val (r_lens Try.runUnderlying139 (ec rfl en)) ?_
      refine s_val (r_move rfl) ?_
      refine c_nil (l' := [_,_,_,_,_,_,_,_,_,_,_,_,_,_,_,_,_,_,_,_,_,_,_,_,_,_,_,_,_,_,_,_,_,_,_,_,_,_,_,_,_,_,_,_,_,_,_,_,_,_,_,_,_,_,_,_,_,_,_,_,_,_,_]) rfl ?_
      refine wp_block ?_
      refine c_loop (fun (l0 : List Value) (k : Nat) (l : List Value) (w : World) => ∃ (u5 u8 u9 u10 u25 u26 u27 u28 u29 u30 u31 u32 u33 u34 u35 u36 u37 u38 u39 u40 u41 u42 u43 u44 u45 u46 u47 u48 u49 u50 u51 u52 u53 u54 u55 u56 u57 u58 u59 u60 u61 : Value) , l = ovr l0 [N_, N_, N_, N_, N_, Y_ u5, N_, N_, Y_ u8, Y_ u9, Y_ u10, N_, N_, N_, N_, N_, N_, N_, N_, N_, N_, N_, N_, N_, Y_ (.int .i64 k), Y_ u25, Y_ u26, Y_ u27, Y_ u28, Y_ u29, Y_ u30, Y_ u31, Y_ u32, Y_ u33, Y_ u34, Y_ u35, Y_ u36, Y_ u37, Y_ u38, Y_ u39, Y_ u40, Y_ u41, Y_ u42, Y_ u43, Y_ u44, Y_ u45, Y_ u46, Y_ u47, Y_ u48, Y_ u49, Y_ u50, Y_ u51, Y_ u52, Y_ u53, Y_ u54, Y_ u55, Y_ u56, Y_ u57, Y_ u58, Y_ u59, Y_ u60, Y_ u61] ∧ k ≤ 2 ∧ (0 < k → ¬ Sealed n (sd C n.toNat)) ∧ St w0 [] w ((b4, .cells (kC zS).toArray 97 (0, 0)) :: Np)) (fun (k : Nat) => 2 - k) 0 ⟨_,_,_,_,_,_,_,_,_,_,_,_,_,_,_,_,_,_,_,_,_,_,_,_,_,_,_,_,_,_,_,_,_,_,_,_,_,_,_,_,_, rfl, by omega, (fun h => absurd h (Nat.lt_irrefl _)), ((H.perm (List.perm_append_comm (l₁ := [_]))))⟩ ?_
      intro k l w ⟨u5, u8, u9, u10, u25, u26, u27, u28, u29, u30, u31, u32, u33, u34, u35, u36, u37, u38, u39, u40, u41, u42, u43, u44, u45, u46, u47, u48, u49, u50, u51, u52, u53, u54, u55, u56, u57, u58, u59, u60, u61, hl, hk, hns, H⟩
      obtain rfl := hl.trans (rfl : _ = [_,_,_,_,_,_,_,_,_,_,_,_,_,_,_,_,_,_,_,_,_,_,_,_,_,_,_,_,_,_,_,_,_,_,_,_,_,_,_,_,_,_,_,_,_,_,_,_,_,_,_,_,_,_,_,_,_,_,_,_,_,_,_])
      clear hl
      refine c_rseq (n := 63) ⟨rfl, rfl⟩ ?_
      refine s_val (r_lss rfl rfl) ?_
      refine c_nil (l' := [_,_,_,_,_,_,_,_,_,_,_,_,_,_,_,_,_,_,_,_,_,_,_,_,_,_,_,_,_,_,_,_,_,_,_,_,_,_,_,_,_,_,_,_,_,_,_,_,_,_,_,_,_,_,_,_,_,_,_,_,_,_,_]) rfl ?_
      refine c_seq ?_
      refine c_if rfl (fun h25 => ?_) (fun h25 => ?_)
      · skip
        obtain ⟨bw, spw, rfl, hcw, rfl, hcw2⟩ := hNp.some (by omega)
        refine wp_skip ?_
        refine x_thenNormal ?_
        refine c_seq ?_
        refine wp_block ?_
        refine c_rseq (n := 63) ⟨rfl, rfl⟩ ?_
        refine s_val (r_indexAddrS Try.runUnderlying139 Try.sizeOf3 rfl rfl (by omega) (by omega)) ?_
        refine s_val (r_load1 Try.isAgg3 rfl (H.at 1 rfl) (iC_at (i := 2) (k := k) (by omega) (by omega))) ?_
        refine s_val (r_assign rfl) ?_
        refine c_nil (l' := [_,_,_,_,_,_,_,_,_,_,_,_,_,_,_,_,_,_,_,_,_,_,_,_,_,_,_,_,_,_,_,_,_,_,_,_,_,_,_,_,_,_,_,_,_,_,_,_,_,_,_,_,_,_,_,_,_,_,_,_,_,_,_]) rfl ?_
        refine c_rseq (n := 63) ⟨rfl, rfl⟩ ?_
        refine s_val (r_move rfl) ?_
        refine s_val (r_move rfl) ?_
        refine s_val (r_nilCheck rfl) ?_
        refine s_val (r_fieldAddr (k := 0) Try.runUnderlying119 rfl Try.sizeOf117 (by decide) rfl rfl) ?_
        refine s_val (r_indexAddrA Try.runUnderlying117 Try.sizeOf116 rfl rfl (by omega) (by omega)) ?_
        refine s_val (r_fieldAddr (k := 0) Try.runUnderlying116 rfl Try.sizeOf26 (by decide) rfl rfl) ?_
        refine s_val (r_load1 Try.isAgg26 rfl (H.rd0 hbm) (mC_dev (i := k) (by omega) (by omega))) ?_
        refine s_val (r_move rfl) ?_
        refine s_call (r_call Try.call64 (ec rfl (ec rfl en))) (dread_spec (bI ba bb k) C n _ ((hdv k).st (H.sub (List.nil_sublist _)))) ?_
        rintro v w (⟨_,_, rfl, HC⟩ | ⟨hno, _⟩)
        · skip
          replace H := H.quiet HC
          refine s_val (r_move rfl) ?_
          refine s_val (r_extract rfl rfl) ?_
          refine s_val (r_extract rfl rfl) ?_
          refine s_new (m_alloc (cs := (kC zS)) H Try.zeroValue97 rfl) ?_
          intro w b9 H
          refine s_st (m_storen H 0 128 Try.sizeOf97 rfl rfl (by first | exact (kC_length _) | exact (hC_length _) | exact (shC_length _ _) | exact (wC_length _) | exact (sdC_length _ _)) (by first | exact (kC_one _) | exact (hC_one _) | exact (shC_one _ _) | exact (elW.one _) | exact (sdC_one _ _)) rfl (by first | exact (by rw [kC_length]; omega) | exact (by rw [hC_length]; omega) | exact (by rw [wC_length]; omega)) (by first | exact (kC_sp _ _) | exact (hC_sp _ _))) (L' := (_ :: _ :: _)) rfl ?_
          intro w H
          refine s_val (r_assign rfl) ?_
          refine c_nil (l' := [_,_,_,_,_,_,_,_,_,_,_,_,_,_,_,_,_,_,_,_,_,_,_,_,_,_,_,_,_,_,_,_,_,_,_,_,_,_,_,_,_,_,_,_,_,_,_,_,_,_,_,_,_,_,_,_,_,_,_,_,_,_,_]) rfl ?_
          refine c_rseq (n := 63) ⟨rfl, rfl⟩ ?_
          refine s_val (r_move rfl) ?_
          refine s_val (r_eql rfl rfl) ?_
          refine s_val (r_move rfl) ?_
          refine g_yes rfl rfl ?_
          refine s_val (r_move rfl) ?_
          refine g_yes rfl rfl ?_
          refine s_val (r_move rfl) ?_
          refine g_yes rfl rfl ?_
          refine s_val (r_nilCheck rfl) ?_
          refine g_yes rfl rfl ?_
          refine s_val (r_fieldAddr (k := 0) Try.runUnderlying119 rfl Try.sizeOf117 (by decide) rfl rfl) ?_
          refine g_yes rfl rfl ?_
          refine s_val (r_indexAddrA Try.runUnderlying117 Try.sizeOf116 rfl rfl (by omega) (by omega)) ?_
          refine g_yes rfl rfl ?_
          refine s_val (r_fieldAddr (k := 1) Try.runUnderlying116 rfl Try.sizeOf114 (by decide) rfl rfl) ?_
          refine g_yes rfl rfl ?_
          refine s_val (r_load1 Try.isAgg114 rfl (H.rd0 hbm) (mC_map (i := k) (by omega) (by omega))) ?_
          refine g_yes rfl rfl ?_
          refine s_val (r_move rfl) ?_
          refine g_yes rfl rfl ?_
          refine s_val (r_lookupZ Try.runUnderlying114 Try.runUnderlying3 Try.zeroValue4 rfl rfl (H.rd0 (hmp k))) ?_
          refine g_yes rfl rfl ?_
          refine s_val (r_not rfl) ?_
          refine s_val (r_pickt rfl rfl) ?_
          refine s_val (r_move rfl) ?_
          refine g_yes rfl rfl ?_
          refine s_val (r_move rfl) ?_
          refine g_yes rfl rfl ?_
          refine s_val (r_move rfl) ?_
          refine g_yes rfl rfl ?_
          refine s_val (r_loadn Try.isAgg97 Try.sizeOf97 rfl (H.at 0 rfl) (by first | exact (kC_td _) | exact (hC_td _) | exact (hC_seed _) | exact (shC_td _ _) | exact (sdC_td _ _)) (by first | exact (kC_length _) | exact (hC_length _) | exact (shC_length _ _) | exact (wC_length _) | exact (sdC_length _ _) | exact rfl)) ?_
          refine g_yes rfl rfl ?_
          refine s_call (r_call Try.call65 (ec rfl (ec rfl (ec rfl en)))) (right_spec bm C n hn0 (by omega) (sd C n.toNat) _ (hm.st (H.sub (List.nil_sublist _)))) ?_
          rintro v w ⟨rfl, HC⟩
          replace H := H.quiet HC
          refine s_val (r_pickt rfl rfl) ?_
          refine c_nil (l' := [_,_,_,_,_,_,_,_,_,_,_,_,_,_,_,_,_,_,_,_,_,_,_,_,_,_,_,_,_,_,_,_,_,_,_,_,_,_,_,_,_,_,_,_,_,_,_,_,_,_,_,_,_,_,_,_,_,_,_,_,_,_,_]) rfl ?_
          refine c_if rfl (fun h59 => ?_) (fun h59 => ?_)
          · skip
            refine c_rseq (n := 63) ⟨rfl, rfl⟩ ?_
            refine s_val (r_loadn Try.isAgg97 Try.sizeOf97 rfl (H.at 0 rfl) (by first | exact (kC_td _) | exact (hC_td _) | exact (hC_seed _) | exact (shC_td _ _) | exact (sdC_td _ _)) (by first | exact (kC_length _) | exact (hC_length _) | exact (shC_length _ _) | exact (wC_length _) | exact (sdC_length _ _) | exact rfl)) ?_
            refine s_st (m_storen H 1 128 Try.sizeOf97 rfl rfl (by first | exact (kC_length _) | exact (hC_length _) | exact (shC_length _ _) | exact (wC_length _) | exact (sdC_length _ _)) (by first | exact (kC_one _) | exact (hC_one _) | exact (shC_one _ _) | exact (elW.one _) | exact (sdC_one _ _)) rfl (by first | exact (by rw [kC_length]; omega) | exact (by rw [hC_length]; omega) | exact (by rw [wC_length]; omega)) (by first | exact (kC_sp _ _) | exact (hC_sp _ _))) (L' := (_ :: _ :: _)) rfl ?_
            intro w H
            refine s_val (r_assign rfl) ?_
            refine c_nil (l' := [_,_,_,_,_,_,_,_,_,_,_,_,_,_,_,_,_,_,_,_,_,_,_,_,_,_,_,_,_,_,_,_,_,_,_,_,_,_,_,_,_,_,_,_,_,_,_,_,_,_,_,_,_,_,_,_,_,_,_,_,_,_,_]) rfl ?_
            refine wp_ret (x_blockRet (x_thenRet (x_thenRet (x_blockRet (x_thenRet ?_)))))
            refine e_ret (rc_two rfl (rc_celln Try.isAgg97 Try.sizeOf97 rfl (H.at 1 rfl) (by first | exact (kC_td _) | exact (hC_td _) | exact (hC_seed _) | exact (shC_td _ _) | exact (sdC_td _ _)) (by first | exact (kC_length _) | exact (hC_length _) | exact (shC_length _ _) | exact (wC_length _) | exact (sdC_length _ _))) (rc_tmp rfl)) ⟨_, rfl, ?_⟩
            exact .inr (.inl ⟨hn0, hn1, h59, rfl, H.sub (List.nil_sublist _)⟩)
          · skip
            refine wp_skip ?_
            refine x_blockNormal ?_
            refine x_thenNormal ?_
            refine c_region (n := 63) ⟨rfl, rfl⟩ ?_
            refine s_val (r_add rfl rfl (w_i64 (by omega) (by omega))) ?_
            refine s_val (r_move rfl) ?_
            refine c_nil0 (l' := [_,_,_,_,_,_,_,_,_,_,_,_,_,_,_,_,_,_,_,_,_,_,_,_,_,_,_,_,_,_,_,_,_,_,_,_,_,_,_,_,_,_,_,_,_,_,_,_,_,_,_,_,_,_,_,_,_,_,_,_,_,_,_]) rfl ?_
            replace H := H.sub (.cons _ (.cons_cons _ (List.Sublist.refl _)))
            exact ⟨k + 1, _, rfl, ⟨_,_,_,_,_,_,_,_,_,_,_,_,_,_,_,_,_,_,_,_,_,_,_,_,_,_,_,_,_,_,_,_,_,_,_,_,_,_,_,_,_, rfl, by omega, (fun _ => h59), H⟩, by omega⟩
        · skip
          exact absurd ⟨hn0, hn1⟩ hno
      · skip
        obtain rfl : k = 2 := by omega
        refine wp_exit (x_thenExit (x_thenExit (x_blockHit ?_)))
        refine x_thenNormal ?_
        refine c_rseq (n := 63) ⟨rfl, rfl⟩ ?_
        refine s_val (r_buildA (pl := []) (zs := kC (By.zero 128)) (out := kC (By.zero 128)) Try.runUnderlying97 Try.sizeOf5 Try.zeroValue97 pn (by intro p hp; simp at hp) rfl) ?_
        refine s_st (m_storen H 0 128 Try.sizeOf97 rfl rfl (by first | exact (kC_length _) | exact (hC_length _) | exact (shC_length _ _) | exact (wC_length _) | exact (sdC_length _ _)) (by first | exact (kC_one _) | exact (hC_one _) | exact (shC_one _ _) | exact (elW.one _) | exact (sdC_one _ _)) rfl (by first | exact (by rw [kC_length]; omega) | exact (by rw [hC_length]; omega) | exact (by rw [wC_length]; omega)) (by first | exact (kC_sp _ _) | exact (hC_sp _ _))) (L' := (_ :: _)) rfl ?_
        intro w H
        refine s_val (r_assign rfl) ?_
        refine c_nil (l' := [_,_,_,_,_,_,_,_,_,_,_,_,_,_,_,_,_,_,_,_,_,_,_,_,_,_,_,_,_,_,_,_,_,_,_,_,_,_,_,_,_,_,_,_,_,_,_,_,_,_,_,_,_,_,_,_,_,_,_,_,_,_,_]) rfl ?_
        refine wp_ret ?_
        refine e_ret (rc_two rfl (rc_celln Try.isAgg97 Try.sizeOf97 rfl (H.at 0 rfl) (by first | exact (kC_td _) | exact (hC_td _) | exact (hC_seed _) | exact (shC_td _ _) | exact (sdC_td _ _)) (by first | exact (kC_length _) | exact (hC_length _) | exact (shC_length _ _) | exact (wC_length _) | exact (sdC_length _ _))) (rc_tmp rfl)) ⟨_, rfl, ?_⟩
        exact .inr (.inr ⟨hn0, hn1, hns (by omega), rfl, H.sub (List.nil_sublist _)⟩)

end Go.Proofs.Ytbjalofmamoffaa

