import Derived.Test.YtblphhclfloodaaDoorG1
import Derived.Test.YtblphhclfloodaaDoorT1
namespace Go.Proofs.YtblphhclfloodaaDoor
open Go Go.Er

set_option maxHeartbeats 4000000 in
theorem from_spec (ci : Value) (a : Option Addr) (cap : Nat) (xs : List Held) (sl sr : Key → Key) (hci : SplitsBy Tryd.prog ci sl sr) (hl : xs.length ≤ 100000) (hx : ∀ i, i < xs.length → InR (nd xs i)) (w0 : World) (hr : HRow w0 a xs) :
    Calls Tryd.prog 22 #[ci, .slice a xs.length cap] w0 fun e w => ∃ v, e = .returned v ∧ ((Valid xs ∧ ∃ bt N, v = .tuple #[.pointer (some ⟨bt, 0, none⟩), .int .i64 0] ∧ TreeN 77 55 bt ci xs N ∧ St w0 [] w N) ∨ (¬ Valid xs ∧ v = .tuple #[.pointer none, .int .i64 3] ∧ St w0 [] w [])) := by
  have H := St.refl w0
  refine c_enter (args := [ci, .slice a xs.length cap]) (l := [ci, .slice a xs.length cap, undef, undef, undef, undef, undef, undef, undef, undef, undef, undef, undef, undef, undef, undef, undef, undef, undef, undef, undef, undef, undef, undef, undef, undef, undef, undef, undef, undef, undef, undef, undef, undef, undef, undef, undef, undef, undef, undef, undef, undef, undef, undef, undef, undef, undef, undef, undef, undef, undef, undef, undef, undef, undef, undef, undef, undef]) Tryd.func22 Tryd.ntmps22 rfl rfl ?_
  refine c_rseq (n := 58) ⟨rfl, rfl⟩ ?_
  refine s_val (r_assign rfl) ?_
  refine s_val (r_assign rfl) ?_
  refine c_nil (l' := [_, _, _, _, _, _, _, _, _, _, _, _, _, _, _, _, _, _, _, _, _, _, _, _, _, _, _, _, _, _, _, _, _, _, _, _, _, _, _, _, _, _, _, _, _, _, _, _, _, _, _, _, _, _, _, _, _, _]) rfl ?_
  refine c_seq ?_
  refine c_rseq (n := 58) ⟨rfl, rfl⟩ ?_
  refine s_val (r_move rfl) ?_
  obtain ⟨Tc, vc, fc, rv, rfl, hE, hM, hC'⟩ := hci
  refine s_val (r_nili Tryd.runUnderlying75 rfl rfl) ?_
  refine c_nil (l' := [_, _, _, _, _, _, _, _, _, _, _, _, _, _, _, _, _, _, _, _, _, _, _, _, _, _, _, _, _, _, _, _, _, _, _, _, _, _, _, _, _, _, _, _, _, _, _, _, _, _, _, _, _, _, _, _, _, _]) rfl ?_
  refine c_iff rfl ?_
  refine wp_skip ?_
  refine x_thenNormal ?_
  refine c_rseq (n := 58) ⟨rfl, rfl⟩ ?_
  refine s_val (r_assign rfl) ?_
  refine c_nil (l' := [_, _, _, _, _, _, _, _, _, _, _, _, _, _, _, _, _, _, _, _, _, _, _, _, _, _, _, _, _, _, _, _, _, _, _, _, _, _, _, _, _, _, _, _, _, _, _, _, _, _, _, _, _, _, _, _, _, _]) rfl ?_
  refine c_seq ?_
  refine c_rseq (n := 58) ⟨rfl, rfl⟩ ?_
  refine s_val (r_move rfl) ?_
  refine s_val (r_lens Tryd.runUnderlying22 (ec rfl en)) ?_
  refine s_val (r_move rfl) ?_
  refine c_nil (l' := [_, _, _, _, _, _, _, _, _, _, _, _, _, _, _, _, _, _, _, _, _, _, _, _, _, _, _, _, _, _, _, _, _, _, _, _, _, _, _, _, _, _, _, _, _, _, _, _, _, _, _, _, _, _, _, _, _, _]) rfl ?_
  refine wp_block ?_
  refine c_loop (fun (l0 : List Value) (i : Nat) (l : List Value) (w : World) => ∃ (u4 u5 u8 u14 u15 u16 u17 u18 u19 u20 u21 u22 u23 u24 u25 u26 u27 u28 u29 u30 u31 u32 u33 u34 u35 u36 u37 u38 u39 u40 u41 u42 u43 u44 u45 u46 u47 u48 u49 u50 u51 u52 : Value) (e : Int), l = ovr l0 [N_, N_, N_, N_, Y_ u4, Y_ u5, Y_ (.int .u64 e), N_, Y_ u8, N_, N_, N_, N_, Y_ (.int .i64 i), Y_ u14, Y_ u15, Y_ u16, Y_ u17, Y_ u18, Y_ u19, Y_ u20, Y_ u21, Y_ u22, Y_ u23, Y_ u24, Y_ u25, Y_ u26, Y_ u27, Y_ u28, Y_ u29, Y_ u30, Y_ u31, Y_ u32, Y_ u33, Y_ u34, Y_ u35, Y_ u36, Y_ u37, Y_ u38, Y_ u39, Y_ u40, Y_ u41, Y_ u42, Y_ u43, Y_ u44, Y_ u45, Y_ u46, Y_ u47, Y_ u48, Y_ u49, Y_ u50, Y_ u51, Y_ u52] ∧ i ≤ xs.length ∧ (Valid xs ↔ okFrom e (xs.drop i)) ∧ 0 ≤ e ∧ e ≤ 18446744073709551615 ∧ St w0 [] w ([])) (fun (i : Nat) => xs.length - i) 0 ⟨_, _, _, _, _, _, _, _, _, _, _, _, _, _, _, _, _, _, _, _, _, _, _, _, _, _, _, _, _, _, _, _, _, _, _, _, _, _, _, _, _, _, _, rfl, by omega, by rw [List.drop_zero]; exact Iff.rfl, by omega, by omega, H⟩ ?_
  intro i l w ⟨u4, u5, u8, u14, u15, u16, u17, u18, u19, u20, u21, u22, u23, u24, u25, u26, u27, u28, u29, u30, u31, u32, u33, u34, u35, u36, u37, u38, u39, u40, u41, u42, u43, u44, u45, u46, u47, u48, u49, u50, u51, u52, e, hl, hi, hv, he0, he1, H⟩
  obtain rfl := hl.trans (rfl : _ = [_, _, _, _, _, _, _, _, _, _, _, _, _, _, _, _, _, _, _, _, _, _, _, _, _, _, _, _, _, _, _, _, _, _, _, _, _, _, _, _, _, _, _, _, _, _, _, _, _, _, _, _, _, _, _, _, _, _])
  clear hl
  refine c_rseq (n := 58) ⟨rfl, rfl⟩ ?_
  refine s_val (r_lss rfl rfl) ?_
  refine c_nil (l' := [_, _, _, _, _, _, _, _, _, _, _, _, _, _, _, _, _, _, _, _, _, _, _, _, _, _, _, _, _, _, _, _, _, _, _, _, _, _, _, _, _, _, _, _, _, _, _, _, _, _, _, _, _, _, _, _, _, _]) rfl ?_
  refine c_seq ?_
  refine c_if rfl (fun h14 => ?_) (fun h14 => ?_)
  · skip
    obtain ⟨bh, off, pre, post, T, fz, rfl, hb, hp⟩ := hr (by omega)
    obtain ⟨hd0, hd1, ha0, ha1⟩ := hx i (by omega)
    rw [okFrom_drop (by omega : i < xs.length)] at hv
    refine wp_skip ?_
    refine x_thenNormal ?_
    refine c_seq ?_
    refine wp_block ?_
    refine c_rseq (n := 58) ⟨rfl, rfl⟩ ?_
    refine s_val (r_indexAddrS Tryd.runUnderlying22 Tryd.sizeOf55 rfl rfl (by omega) (by omega)) ?_
    refine s_val (r_loadn Tryd.isAgg55 Tryd.sizeOf55 rfl (H.rd0 hb) (hs_tdn _ _ _ _ i hp (by omega)) (by first | exact (kC_length _) | exact (hC_length _) | exact rfl)) ?_
    refine s_new (m_alloc (cs := (hC Held.zero)) H Tryd.zeroValue55 rfl) ?_
    intro w b8 H
    refine s_st (m_storen H 0 34 Tryd.sizeOf55 rfl rfl (by first | exact (kC_length _) | exact (hC_length _)) (by first | exact (kC_one _) | exact (hC_one _)) rfl (by first | exact (by rw [kC_length]; omega) | exact (by rw [hC_length]; omega)) (by first | exact (kC_sp _ _) | exact (hC_sp _ _))) (L' := (_ :: _)) rfl ?_
    intro w H
    refine c_nil (l' := [_, _, _, _, _, _, _, _, _, _, _, _, _, _, _, _, _, _, _, _, _, _, _, _, _, _, _, _, _, _, _, _, _, _, _, _, _, _, _, _, _, _, _, _, _, _, _, _, _, _, _, _, _, _, _, _, _, _]) rfl ?_
    refine c_seq ?_
    refine c_seq ?_
    refine d_begin (sz := 58) ⟨rfl, rfl⟩ (by kernel_rfl) H (H) rfl ?_
    intro w H
    refine d_take (i := 0) rfl (by kernel_rfl) (fun _ _ _ h => h) H (fun _ _ => r_fieldAddr (k := 0) Tryd.runUnderlying55 rfl Tryd.sizeOf3 (by decide) rfl rfl) rfl ?_
    refine d_take (i := 1) rfl (by kernel_rfl) (fun _ _ _ h => h) H (fun _ HS => r_load1 Tryd.isAgg3 rfl (HS.at 0 rfl) (by first | exact rfl | exact (hC_00 _) | exact (hC_0 _) | exact (hC_1 _))) rfl ?_
    refine d_take (i := 2) rfl (by kernel_rfl) (fun _ _ _ h => h) H (fun _ _ => r_lss rfl rfl) rfl ?_
    refine d_part (fun h19 => ?_) (fun h19 => ?_)
    · skip
      refine d_take (i := 3) rfl (by kernel_rfl) (fun _ _ _ h => h) H (fun _ _ => r_move rfl) rfl ?_
      refine d_takeN (i := 4) rfl (by kernel_rfl) (fun _ _ _ h => h) rfl rfl (by decide) H rfl ?_
      refine d_takeN (i := 5) rfl (by kernel_rfl) (fun _ _ _ h => h) rfl rfl (by decide) H rfl ?_
      refine d_takeN (i := 6) rfl (by kernel_rfl) (fun _ _ _ h => h) rfl rfl (by decide) H rfl ?_
      refine d_take (i := 7) rfl (by kernel_rfl) (fun _ _ _ h => h) H (fun _ _ => r_pickt rfl rfl) rfl ?_
      refine d_take (i := 8) rfl (by kernel_rfl) (fun _ _ _ h => h) H (fun _ _ => r_move rfl) rfl ?_
      refine d_takeN (i := 9) rfl (by kernel_rfl) (fun _ _ _ h => h) rfl rfl (by decide) H rfl ?_
      refine d_takeN (i := 10) rfl (by kernel_rfl) (fun _ _ _ h => h) rfl rfl (by decide) H rfl ?_
      refine d_takeN (i := 11) rfl (by kernel_rfl) (fun _ _ _ h => h) rfl rfl (by decide) H rfl ?_
      refine d_takeN (i := 12) rfl (by kernel_rfl) (fun _ _ _ h => h) rfl rfl (by decide) H rfl ?_
      refine d_take (i := 13) rfl (by kernel_rfl) (fun _ _ _ h => h) H (fun _ _ => r_pickt rfl rfl) rfl ?_
      refine d_take (i := 14) rfl (by kernel_rfl) (fun _ _ _ h => h) H (fun _ _ => r_move rfl) rfl ?_
      refine d_takeN (i := 15) rfl (by kernel_rfl) (fun _ _ _ h => h) rfl rfl (by decide) H rfl ?_
      refine d_takeN (i := 16) rfl (by kernel_rfl) (fun _ _ _ h => h) rfl rfl (by decide) H rfl ?_
      refine d_takeN (i := 17) rfl (by kernel_rfl) (fun _ _ _ h => h) rfl rfl (by decide) H rfl ?_
      refine d_takeN (i := 18) rfl (by kernel_rfl) (fun _ _ _ h => h) rfl rfl (by decide) H rfl ?_
      refine d_takeN (i := 19) rfl (by kernel_rfl) (fun _ _ _ h => h) rfl rfl (by decide) H rfl ?_
      refine d_takeN (i := 20) rfl (by kernel_rfl) (fun _ _ _ h => h) rfl rfl (by decide) H rfl ?_
      refine d_takeN (i := 21) rfl (by kernel_rfl) (fun _ _ _ h => h) rfl rfl (by decide) H rfl ?_
      refine d_take (i := 22) rfl (by kernel_rfl) (fun _ _ _ h => h) H (fun _ _ => r_pickt rfl rfl) rfl ?_
      refine d_take (i := 23) rfl (by kernel_rfl) (fun _ _ _ h => h) H (fun _ _ => r_move rfl) rfl ?_
      refine d_takeN (i := 24) rfl (by kernel_rfl) (fun _ _ _ h => h) rfl rfl (by decide) H rfl ?_
      refine d_takeN (i := 25) rfl (by kernel_rfl) (fun _ _ _ h => h) rfl rfl (by decide) H rfl ?_
      refine d_takeN (i := 26) rfl (by kernel_rfl) (fun _ _ _ h => h) rfl rfl (by decide) H rfl ?_
      refine d_takeN (i := 27) rfl (by kernel_rfl) (fun _ _ _ h => h) rfl rfl (by decide) H rfl ?_
      refine d_take (i := 28) rfl (by kernel_rfl) (fun _ _ _ h => h) H (fun _ _ => r_pickt rfl rfl) rfl ?_
      refine d_done (l' := [_, _, _, _, _, _, _, _, _, _, _, _, _, _, _, _, _, _, _, _, _, _, _, _, _, _, _, _, _, _, _, _, _, _, _, _, _, _, _, _, _, _, _, _, _, _, _, _, _, _, _, _, _, _, _, _, _, _]) (by kernel_rfl) rfl ?_
      refine x_thenNormal ?_
      refine c_ift rfl ?_
      refine c_rseq (n := 58) ⟨rfl, rfl⟩ ?_
      refine s_val (r_assign rfl) ?_
      refine s_val (r_assign rfl) ?_
      refine c_nil (l' := [_, _, _, _, _, _, _, _, _, _, _, _, _, _, _, _, _, _, _, _, _, _, _, _, _, _, _, _, _, _, _, _, _, _, _, _, _, _, _, _, _, _, _, _, _, _, _, _, _, _, _, _, _, _, _, _, _, _]) rfl ?_
      refine wp_ret (x_thenRet (x_blockRet (x_thenRet (x_thenRet (x_blockRet (x_thenRet ?_))))))
      refine e_ret (res2 rfl rfl rfl) ⟨_, rfl, ?_⟩
      exact .inr ⟨fun hV => by have h := (hv.1 hV).1.1; omega, rfl, H.sub (List.nil_sublist _)⟩
    · skip
      refine d_take (i := 3) rfl (by kernel_rfl) (fun _ _ _ h => h) H (fun _ _ => r_move rfl) rfl ?_
      refine d_takeG (i := 4) rfl (by kernel_rfl) (fun _ _ _ h => h) rfl rfl H (fun _ _ => r_fieldAddr (k := 0) Tryd.runUnderlying55 rfl Tryd.sizeOf3 (by decide) rfl rfl) rfl ?_
      refine d_takeG (i := 5) rfl (by kernel_rfl) (fun _ _ _ h => h) rfl rfl H (fun _ HS => r_load1 Tryd.isAgg3 rfl (HS.at 0 rfl) (by first | exact rfl | exact (hC_00 _) | exact (hC_0 _) | exact (hC_1 _))) rfl ?_
      refine d_takeG (i := 6) rfl (by kernel_rfl) (fun _ _ _ h => h) rfl rfl H (fun _ _ => r_gtr rfl rfl) rfl ?_
      refine d_part (fun h23 => ?_) (fun h23 => ?_)
      · skip
        refine d_take (i := 7) rfl (by kernel_rfl) (fun _ _ _ h => h) H (fun _ _ => r_pickf rfl rfl) rfl ?_
        refine d_take (i := 8) rfl (by kernel_rfl) (fun _ _ _ h => h) H (fun _ _ => r_move rfl) rfl ?_
        refine d_takeN (i := 9) rfl (by kernel_rfl) (fun _ _ _ h => h) rfl rfl (by decide) H rfl ?_
        refine d_takeN (i := 10) rfl (by kernel_rfl) (fun _ _ _ h => h) rfl rfl (by decide) H rfl ?_
        refine d_takeN (i := 11) rfl (by kernel_rfl) (fun _ _ _ h => h) rfl rfl (by decide) H rfl ?_
        refine d_takeN (i := 12) rfl (by kernel_rfl) (fun _ _ _ h => h) rfl rfl (by decide) H rfl ?_
        refine d_take (i := 13) rfl (by kernel_rfl) (fun _ _ _ h => h) H (fun _ _ => r_pickt rfl rfl) rfl ?_
        refine d_take (i := 14) rfl (by kernel_rfl) (fun _ _ _ h => h) H (fun _ _ => r_move rfl) rfl ?_
        refine d_takeN (i := 15) rfl (by kernel_rfl) (fun _ _ _ h => h) rfl rfl (by decide) H rfl ?_
        refine d_takeN (i := 16) rfl (by kernel_rfl) (fun _ _ _ h => h) rfl rfl (by decide) H rfl ?_
        refine d_takeN (i := 17) rfl (by kernel_rfl) (fun _ _ _ h => h) rfl rfl (by decide) H rfl ?_
        refine d_takeN (i := 18) rfl (by kernel_rfl) (fun _ _ _ h => h) rfl rfl (by decide) H rfl ?_
        refine d_takeN (i := 19) rfl (by kernel_rfl) (fun _ _ _ h => h) rfl rfl (by decide) H rfl ?_
        refine d_takeN (i := 20) rfl (by kernel_rfl) (fun _ _ _ h => h) rfl rfl (by decide) H rfl ?_
        refine d_takeN (i := 21) rfl (by kernel_rfl) (fun _ _ _ h => h) rfl rfl (by decide) H rfl ?_
        refine d_take (i := 22) rfl (by kernel_rfl) (fun _ _ _ h => h) H (fun _ _ => r_pickt rfl rfl) rfl ?_
        refine d_take (i := 23) rfl (by kernel_rfl) (fun _ _ _ h => h) H (fun _ _ => r_move rfl) rfl ?_
        refine d_takeN (i := 24) rfl (by kernel_rfl) (fun _ _ _ h => h) rfl rfl (by decide) H rfl ?_
        refine d_takeN (i := 25) rfl (by kernel_rfl) (fun _ _ _ h => h) rfl rfl (by decide) H rfl ?_
        refine d_takeN (i := 26) rfl (by kernel_rfl) (fun _ _ _ h => h) rfl rfl (by decide) H rfl ?_
        refine d_takeN (i := 27) rfl (by kernel_rfl) (fun _ _ _ h => h) rfl rfl (by decide) H rfl ?_
        refine d_take (i := 28) rfl (by kernel_rfl) (fun _ _ _ h => h) H (fun _ _ => r_pickt rfl rfl) rfl ?_
        refine d_done (l' := [_, _, _, _, _, _, _, _, _, _, _, _, _, _, _, _, _, _, _, _, _, _, _, _, _, _, _, _, _, _, _, _, _, _, _, _, _, _, _, _, _, _, _, _, _, _, _, _, _, _, _, _, _, _, _, _, _, _]) (by kernel_rfl) rfl ?_
        refine x_thenNormal ?_
        refine c_ift rfl ?_
        refine c_rseq (n := 58) ⟨rfl, rfl⟩ ?_
        refine s_val (r_assign rfl) ?_
        refine s_val (r_assign rfl) ?_
        refine c_nil (l' := [_, _, _, _, _, _, _, _, _, _, _, _, _, _, _, _, _, _, _, _, _, _, _, _, _, _, _, _, _, _, _, _, _, _, _, _, _, _, _, _, _, _, _, _, _, _, _, _, _, _, _, _, _, _, _, _, _, _]) rfl ?_
        refine wp_ret (x_thenRet (x_blockRet (x_thenRet (x_thenRet (x_blockRet (x_thenRet ?_))))))
        refine e_ret (res2 rfl rfl rfl) ⟨_, rfl, ?_⟩
        exact .inr ⟨fun hV => by have h := (hv.1 hV).1.2.1; omega, rfl, H.sub (List.nil_sublist _)⟩
      · skip
        have hmp := many_pos (nd xs i).depth
        have hml := many_le (n := (nd xs i).depth) (by omega)
        have hmz := many_zero
        refine d_take (i := 7) rfl (by kernel_rfl) (fun _ _ _ h => h) H (fun _ _ => r_pickf rfl rfl) rfl ?_
        refine d_take (i := 8) rfl (by kernel_rfl) (fun _ _ _ h => h) H (fun _ _ => r_move rfl) rfl ?_
        refine d_takeG (i := 9) rfl (by kernel_rfl) (fun _ _ _ h => h) rfl rfl H (fun _ _ => r_fieldAddr (k := 1) Tryd.runUnderlying55 rfl Tryd.sizeOf38 (by decide) rfl rfl) rfl ?_
        refine d_takeG (i := 10) rfl (by kernel_rfl) (fun _ _ _ h => h) rfl rfl H (fun _ HS => r_load1 Tryd.isAgg38 rfl (HS.at 0 rfl) (by first | exact rfl | exact (hC_00 _) | exact (hC_0 _) | exact (hC_1 _))) rfl ?_
        refine d_all1 (i := 11) (by kernel_rfl) ?_
        refine b_call rfl (go_some rfl rfl) (r_call Tryd.call38 (ec rfl en)) (many_spec _ (by omega) (by omega) _) rfl ?_
        rintro v w ⟨rfl, HC⟩
        replace H := H.quiet HC
        refine ⟨H, ?_⟩
        refine d_takeG (i := 12) rfl (by kernel_rfl) (fun _ _ _ h => h) rfl rfl H (fun _ _ => r_geq rfl rfl) rfl ?_
        refine d_part (fun h29 => ?_) (fun h29 => ?_)
        · skip
          refine d_take (i := 13) rfl (by kernel_rfl) (fun _ _ _ h => h) H (fun _ _ => r_pickf rfl rfl) rfl ?_
          refine d_take (i := 14) rfl (by kernel_rfl) (fun _ _ _ h => h) H (fun _ _ => r_move rfl) rfl ?_
          refine d_takeN (i := 15) rfl (by kernel_rfl) (fun _ _ _ h => h) rfl rfl (by decide) H rfl ?_
          refine d_takeN (i := 16) rfl (by kernel_rfl) (fun _ _ _ h => h) rfl rfl (by decide) H rfl ?_
          refine d_takeN (i := 17) rfl (by kernel_rfl) (fun _ _ _ h => h) rfl rfl (by decide) H rfl ?_
          refine d_takeN (i := 18) rfl (by kernel_rfl) (fun _ _ _ h => h) rfl rfl (by decide) H rfl ?_
          refine d_takeN (i := 19) rfl (by kernel_rfl) (fun _ _ _ h => h) rfl rfl (by decide) H rfl ?_
          refine d_takeN (i := 20) rfl (by kernel_rfl) (fun _ _ _ h => h) rfl rfl (by decide) H rfl ?_
          refine d_takeN (i := 21) rfl (by kernel_rfl) (fun _ _ _ h => h) rfl rfl (by decide) H rfl ?_
          refine d_take (i := 22) rfl (by kernel_rfl) (fun _ _ _ h => h) H (fun _ _ => r_pickt rfl rfl) rfl ?_
          refine d_take (i := 23) rfl (by kernel_rfl) (fun _ _ _ h => h) H (fun _ _ => r_move rfl) rfl ?_
          refine d_takeN (i := 24) rfl (by kernel_rfl) (fun _ _ _ h => h) rfl rfl (by decide) H rfl ?_
          refine d_takeN (i := 25) rfl (by kernel_rfl) (fun _ _ _ h => h) rfl rfl (by decide) H rfl ?_
          refine d_takeN (i := 26) rfl (by kernel_rfl) (fun _ _ _ h => h) rfl rfl (by decide) H rfl ?_
          refine d_takeN (i := 27) rfl (by kernel_rfl) (fun _ _ _ h => h) rfl rfl (by decide) H rfl ?_
          refine d_take (i := 28) rfl (by kernel_rfl) (fun _ _ _ h => h) H (fun _ _ => r_pickt rfl rfl) rfl ?_
          refine d_done (l' := [_, _, _, _, _, _, _, _, _, _, _, _, _, _, _, _, _, _, _, _, _, _, _, _, _, _, _, _, _, _, _, _, _, _, _, _, _, _, _, _, _, _, _, _, _, _, _, _, _, _, _, _, _, _, _, _, _, _]) (by kernel_rfl) rfl ?_
          refine x_thenNormal ?_
          refine c_ift rfl ?_
          refine c_rseq (n := 58) ⟨rfl, rfl⟩ ?_
          refine s_val (r_assign rfl) ?_
          refine s_val (r_assign rfl) ?_
          refine c_nil (l' := [_, _, _, _, _, _, _, _, _, _, _, _, _, _, _, _, _, _, _, _, _, _, _, _, _, _, _, _, _, _, _, _, _, _, _, _, _, _, _, _, _, _, _, _, _, _, _, _, _, _, _, _, _, _, _, _, _, _]) rfl ?_
          refine wp_ret (x_thenRet (x_blockRet (x_thenRet (x_thenRet (x_blockRet (x_thenRet ?_))))))
          refine e_ret (res2 rfl rfl rfl) ⟨_, rfl, ?_⟩
          exact .inr ⟨fun hV => by have h := (hv.1 hV).1.2.2.2.2; have := many_zero; omega, rfl, H.sub (List.nil_sublist _)⟩
        · skip
          refine d_take (i := 13) rfl (by kernel_rfl) (fun _ _ _ h => h) H (fun _ _ => r_pickf rfl rfl) rfl ?_
          refine d_take (i := 14) rfl (by kernel_rfl) (fun _ _ _ h => h) H (fun _ _ => r_move rfl) rfl ?_
          refine d_takeG (i := 15) rfl (by kernel_rfl) (fun _ _ _ h => h) rfl rfl H (fun _ _ => r_fieldAddr (k := 1) Tryd.runUnderlying55 rfl Tryd.sizeOf38 (by decide) rfl rfl) rfl ?_
          refine d_takeG (i := 16) rfl (by kernel_rfl) (fun _ _ _ h => h) rfl rfl H (fun _ HS => r_load1 Tryd.isAgg38 rfl (HS.at 0 rfl) (by first | exact rfl | exact (hC_00 _) | exact (hC_0 _) | exact (hC_1 _))) rfl ?_
          refine d_takeG (i := 17) rfl (by kernel_rfl) (fun _ _ _ h => h) rfl rfl H (fun _ _ => r_fieldAddr (k := 0) Tryd.runUnderlying55 rfl Tryd.sizeOf3 (by decide) rfl rfl) rfl ?_
          refine d_takeG (i := 18) rfl (by kernel_rfl) (fun _ _ _ h => h) rfl rfl H (fun _ HS => r_load1 Tryd.isAgg3 rfl (HS.at 0 rfl) (by first | exact rfl | exact (hC_00 _) | exact (hC_0 _) | exact (hC_1 _))) rfl ?_
          refine d_all1 (i := 19) (by kernel_rfl) ?_
          refine b_call rfl (go_some rfl rfl) (r_call Tryd.call38 (ec rfl en)) (many_spec _ (by omega) (by omega) _) rfl ?_
          rintro v w ⟨rfl, HC⟩
          replace H := H.quiet HC
          refine ⟨H, ?_⟩
          refine d_takeG (i := 20) rfl (by kernel_rfl) (fun _ _ _ h => h) rfl rfl H (fun _ _ => r_rem rfl rfl (by omega) (Int.tmod_eq_emod_of_nonneg (by omega))) rfl ?_
          refine d_takeG (i := 21) rfl (by kernel_rfl) (fun _ _ _ h => h) rfl rfl H (fun _ _ => r_neq rfl rfl) rfl ?_
          refine d_part (fun h38 => ?_) (fun h38 => ?_)
          · skip
            refine d_take (i := 22) rfl (by kernel_rfl) (fun _ _ _ h => h) H (fun _ _ => r_pickf rfl rfl) rfl ?_
            refine d_take (i := 23) rfl (by kernel_rfl) (fun _ _ _ h => h) H (fun _ _ => r_move rfl) rfl ?_
            refine d_takeN (i := 24) rfl (by kernel_rfl) (fun _ _ _ h => h) rfl rfl (by decide) H rfl ?_
            refine d_takeN (i := 25) rfl (by kernel_rfl) (fun _ _ _ h => h) rfl rfl (by decide) H rfl ?_
            refine d_takeN (i := 26) rfl (by kernel_rfl) (fun _ _ _ h => h) rfl rfl (by decide) H rfl ?_
            refine d_takeN (i := 27) rfl (by kernel_rfl) (fun _ _ _ h => h) rfl rfl (by decide) H rfl ?_
            refine d_take (i := 28) rfl (by kernel_rfl) (fun _ _ _ h => h) H (fun _ _ => r_pickt rfl rfl) rfl ?_
            refine d_done (l' := [_, _, _, _, _, _, _, _, _, _, _, _, _, _, _, _, _, _, _, _, _, _, _, _, _, _, _, _, _, _, _, _, _, _, _, _, _, _, _, _, _, _, _, _, _, _, _, _, _, _, _, _, _, _, _, _, _, _]) (by kernel_rfl) rfl ?_
            refine x_thenNormal ?_
            refine c_ift rfl ?_
            refine c_rseq (n := 58) ⟨rfl, rfl⟩ ?_
            refine s_val (r_assign rfl) ?_
            refine s_val (r_assign rfl) ?_
            refine c_nil (l' := [_, _, _, _, _, _, _, _, _, _, _, _, _, _, _, _, _, _, _, _, _, _, _, _, _, _, _, _, _, _, _, _, _, _, _, _, _, _, _, _, _, _, _, _, _, _, _, _, _, _, _, _, _, _, _, _, _, _]) rfl ?_
            refine wp_ret (x_thenRet (x_blockRet (x_thenRet (x_thenRet (x_blockRet (x_thenRet ?_))))))
            refine e_ret (res2 rfl rfl rfl) ⟨_, rfl, ?_⟩
            exact .inr ⟨fun hV => h38 (hv.1 hV).1.2.2.2.1, rfl, H.sub (List.nil_sublist _)⟩
          · skip
            refine d_take (i := 22) rfl (by kernel_rfl) (fun _ _ _ h => h) H (fun _ _ => r_pickf rfl rfl) rfl ?_
            refine d_take (i := 23) rfl (by kernel_rfl) (fun _ _ _ h => h) H (fun _ _ => r_move rfl) rfl ?_
            refine d_takeG (i := 24) rfl (by kernel_rfl) (fun _ _ _ h => h) rfl rfl H (fun _ _ => r_fieldAddr (k := 1) Tryd.runUnderlying55 rfl Tryd.sizeOf38 (by decide) rfl rfl) rfl ?_
            refine d_takeG (i := 25) rfl (by kernel_rfl) (fun _ _ _ h => h) rfl rfl H (fun _ HS => r_load1 Tryd.isAgg38 rfl (HS.at 0 rfl) (by first | exact rfl | exact (hC_00 _) | exact (hC_0 _) | exact (hC_1 _))) rfl ?_
            refine d_takeG (i := 26) rfl (by kernel_rfl) (fun _ _ _ h => h) rfl rfl H (fun _ _ => r_move rfl) rfl ?_
            refine d_takeG (i := 27) rfl (by kernel_rfl) (fun _ _ _ h => h) rfl rfl H (fun _ _ => r_lss rfl rfl) rfl ?_
            refine d_part (fun h44 => ?_) (fun h44 => ?_)
            · skip
              refine d_take (i := 28) rfl (by kernel_rfl) (fun _ _ _ h => h) H (fun _ _ => r_pickf rfl rfl) rfl ?_
              refine d_done (l' := [_, _, _, _, _, _, _, _, _, _, _, _, _, _, _, _, _, _, _, _, _, _, _, _, _, _, _, _, _, _, _, _, _, _, _, _, _, _, _, _, _, _, _, _, _, _, _, _, _, _, _, _, _, _, _, _, _, _]) (by kernel_rfl) rfl ?_
              refine x_thenNormal ?_
              refine c_ift rfl ?_
              refine c_rseq (n := 58) ⟨rfl, rfl⟩ ?_
              refine s_val (r_assign rfl) ?_
              refine s_val (r_assign rfl) ?_
              refine c_nil (l' := [_, _, _, _, _, _, _, _, _, _, _, _, _, _, _, _, _, _, _, _, _, _, _, _, _, _, _, _, _, _, _, _, _, _, _, _, _, _, _, _, _, _, _, _, _, _, _, _, _, _, _, _, _, _, _, _, _, _]) rfl ?_
              refine wp_ret (x_thenRet (x_blockRet (x_thenRet (x_thenRet (x_blockRet (x_thenRet ?_))))))
              refine e_ret (res2 rfl rfl rfl) ⟨_, rfl, ?_⟩
              exact .inr ⟨fun hV => by have h := (hv.1 hV).2.1; omega, rfl, H.sub (List.nil_sublist _)⟩
            · skip
              have hok : okN (nd xs i) := ⟨by omega, by omega, by omega, by omega, by omega⟩
              refine d_take (i := 28) rfl (by kernel_rfl) (fun _ _ _ h => h) H (fun _ _ => r_pickf rfl rfl) rfl ?_
              refine d_done (l' := [_, _, _, _, _, _, _, _, _, _, _, _, _, _, _, _, _, _, _, _, _, _, _, _, _, _, _, _, _, _, _, _, _, _, _, _, _, _, _, _, _, _, _, _, _, _, _, _, _, _, _, _, _, _, _, _, _, _]) (by kernel_rfl) rfl ?_
              refine x_thenNormal ?_
              refine c_iff rfl ?_
              refine wp_skip ?_
              refine x_thenNormal ?_
              refine d_begin (sz := 58) ⟨rfl, rfl⟩ (by kernel_rfl) H (H) rfl ?_
              intro w H
              refine d_take (i := 0) rfl (by kernel_rfl) (fun _ _ _ h => h) H (fun _ _ => r_fieldAddr (k := 1) Tryd.runUnderlying55 rfl Tryd.sizeOf38 (by decide) rfl rfl) rfl ?_
              refine d_take (i := 1) rfl (by kernel_rfl) (fun _ _ _ h => h) H (fun _ HS => r_load1 Tryd.isAgg38 rfl (HS.at 0 rfl) (by first | exact rfl | exact (hC_00 _) | exact (hC_0 _) | exact (hC_1 _))) rfl ?_
              refine d_take (i := 2) rfl (by kernel_rfl) (fun _ _ _ h => h) H (fun _ _ => r_fieldAddr (k := 0) Tryd.runUnderlying55 rfl Tryd.sizeOf3 (by decide) rfl rfl) rfl ?_
              refine d_take (i := 3) rfl (by kernel_rfl) (fun _ _ _ h => h) H (fun _ HS => r_load1 Tryd.isAgg3 rfl (HS.at 0 rfl) (by first | exact rfl | exact (hC_00 _) | exact (hC_0 _) | exact (hC_1 _))) rfl ?_
              refine d_all1 (i := 4) (by kernel_rfl) ?_
              refine b_call rfl go_none (r_call Tryd.call38 (ec rfl en)) (many_spec _ (by omega) (by omega) _) rfl ?_
              rintro v w ⟨rfl, HC⟩
              replace H := H.quiet HC
              refine ⟨H, ?_⟩
              refine d_take (i := 5) rfl (by kernel_rfl) (fun _ _ _ h => h) H (fun _ _ => r_add rfl rfl (w_u64 (by omega) (by omega))) rfl ?_
              refine d_take (i := 6) rfl (by kernel_rfl) (fun _ _ _ h => h) H (fun _ _ => r_assign rfl) rfl ?_
              refine d_done (l' := [_, _, _, _, _, _, _, _, _, _, _, _, _, _, _, _, _, _, _, _, _, _, _, _, _, _, _, _, _, _, _, _, _, _, _, _, _, _, _, _, _, _, _, _, _, _, _, _, _, _, _, _, _, _, _, _, _, _]) (by kernel_rfl) rfl ?_
              refine x_blockNormal ?_
              refine x_thenNormal ?_
              refine c_region (n := 58) ⟨rfl, rfl⟩ ?_
              refine s_val (r_add rfl rfl (w_i64 (by omega) (by omega))) ?_
              refine s_val (r_move rfl) ?_
              refine c_nil0 (l' := [_, _, _, _, _, _, _, _, _, _, _, _, _, _, _, _, _, _, _, _, _, _, _, _, _, _, _, _, _, _, _, _, _, _, _, _, _, _, _, _, _, _, _, _, _, _, _, _, _, _, _, _, _, _, _, _, _, _]) rfl ?_
              replace H := H.sub (.cons _ (List.Sublist.refl _))
              exact ⟨i + 1, _, rfl, ⟨_, _, _, _, _, _, _, _, _, _, _, _, _, _, _, _, _, _, _, _, _, _, _, _, _, _, _, _, _, _, _, _, _, _, _, _, _, _, _, _, _, _, _, rfl, by omega, hv.trans ⟨fun h => h.2.2, fun h => ⟨hok, by omega, h⟩⟩, by omega, by omega, H⟩, by omega⟩
  · skip
    skip
    refine wp_exit (x_thenExit (x_thenExit (x_blockHit ?_)))
    refine x_thenNormal ?_
    refine c_rseq (n := 58) ⟨rfl, rfl⟩ ?_
    refine s_val (r_move rfl) ?_
    refine s_val (r_move rfl) ?_
    refine s_call (r_call Tryd.call37 (ec rfl en)) (clone_spec _ _ xs (by omega) _ (hr.st (H.sub (List.nil_sublist _)))) ?_
    rintro v w ⟨a2, cap2, N2, rfl, hN2, HC⟩
    replace H := H.call0 HC
    refine s_val (r_buildS Tryd.runUnderlying77 Tryd.zeroValue77 places77 (pc rfl (pc rfl pn)) rfl) ?_
    refine s_new (m_box (cs := [.iface Tc vc, .slice a2 xs.length cap2]) H rfl rfl) ?_
    intro w b57 H
    refine s_val (r_assign rfl) ?_
    refine s_val (r_assign rfl) ?_
    refine c_nil (l' := [_, _, _, _, _, _, _, _, _, _, _, _, _, _, _, _, _, _, _, _, _, _, _, _, _, _, _, _, _, _, _, _, _, _, _, _, _, _, _, _, _, _, _, _, _, _, _, _, _, _, _, _, _, _, _, _, _, _]) rfl ?_
    refine wp_ret ?_
    refine e_ret (res2 rfl rfl rfl) ⟨_, rfl, ?_⟩
    rw [List.append_nil] at H
    exact .inl ⟨hv.2 (okFrom_end (by omega)), b57, _, rfl, ⟨_, _, N2, rfl, hN2⟩, H⟩

end Go.Proofs.YtblphhclfloodaaDoor
