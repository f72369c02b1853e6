import Derived.Test.YtblphhclfloodaaDoorV2
import Derived.Test.YtblphhclfloodaaDoorE7
namespace Go.Proofs.YtblphhclfloodaaDoor
open Go Go.Er

set_option maxHeartbeats 4000000 in
theorem rdec_spec (a : Option Addr) (cap : Nat) (bs : List UInt8) (hl : bs.length ≤ 1500) (w0 : World) (hr : BRow w0 a bs) :
    Calls Tryd.prog 17 #[.slice a bs.length cap] w0 fun e w => ∃ v, e = .returned v ∧ ((∃ n, Shape bs ∧ bs.length = 2 + 36 * n ∧ Valid (decNs bs n) ∧ ∃ a' cap' N, v = .tuple #[.slice a' n cap', .bool true] ∧ RowN 34 41 (hsC (decNs bs n)) n a' cap' N ∧ St w0 [] w N) ∨ (¬ OkB bs ∧ v = .tuple #[.slice none 0 0, .bool false] ∧ St w0 [] w [])) := by
  have H := St.refl w0
  refine c_enter (args := [.slice a bs.length cap]) (l := [.slice a bs.length cap, undef, undef, undef, undef, undef, undef, undef, undef, undef, undef, undef, undef, undef, undef, undef, undef, undef, undef, undef, undef, undef, undef, undef, undef, undef, undef, undef, undef, undef, undef, undef, undef, undef, undef, undef, undef, undef, undef, undef, undef, undef, undef, undef, undef, undef, undef, undef, undef, undef, undef, undef, undef, undef, undef, undef, undef, undef, undef, undef, undef, undef, undef, undef, undef, undef, undef, undef, undef, undef, undef, undef, undef, undef, undef, undef, undef, undef, undef, undef, undef, undef, undef, undef, undef]) Tryd.func17 Tryd.ntmps17 rfl rfl ?_
  refine c_rseq (n := 85) ⟨rfl, rfl⟩ ?_
  refine s_val (r_assign rfl) ?_
  refine s_val (r_assign rfl) ?_
  refine c_nil (l' := [_, _, _, _, _, _, _, _, _, _, _, _, _, _, _, _, _, _, _, _, _, _, _, _, _, _, _, _, _, _, _, _, _, _, _, _, _, _, _, _, _, _, _, _, _, _, _, _, _, _, _, _, _, _, _, _, _, _, _, _, _, _, _, _, _, _, _, _, _, _, _, _, _, _, _, _, _, _, _, _, _, _, _, _, _]) rfl ?_
  refine c_seq ?_
  refine c_seq ?_
  refine d_begin (sz := 85) ⟨rfl, rfl⟩ (by kernel_rfl) H (H) rfl ?_
  intro w H
  refine d_take (i := 0) rfl (by kernel_rfl) (fun _ _ _ h => h) H (fun _ _ => r_move rfl) rfl ?_
  refine d_take (i := 1) rfl (by kernel_rfl) (fun _ _ _ h => h) H (fun _ _ => r_lens Tryd.runUnderlying24 (ec rfl en)) rfl ?_
  refine d_take (i := 2) rfl (by kernel_rfl) (fun _ _ _ h => h) H (fun _ _ => r_lss rfl rfl) rfl ?_
  refine d_part (fun h10 => ?_) (fun h10 => ?_)
  · skip
    refine d_take (i := 3) rfl (by kernel_rfl) (fun _ _ _ h => h) H (fun _ _ => r_move rfl) rfl ?_
    refine d_takeN (i := 4) rfl (by kernel_rfl) (fun _ _ _ h => h) rfl rfl (by decide) H rfl ?_
    refine d_takeN (i := 5) rfl (by kernel_rfl) (fun _ _ _ h => h) rfl rfl (by decide) H rfl ?_
    refine d_takeN (i := 6) rfl (by kernel_rfl) (fun _ _ _ h => h) rfl rfl (by decide) H rfl ?_
    refine d_takeN (i := 7) rfl (by kernel_rfl) (fun _ _ _ h => h) rfl rfl (by decide) H rfl ?_
    refine d_takeN (i := 8) rfl (by kernel_rfl) (fun _ _ _ h => h) rfl rfl (by decide) H rfl ?_
    refine d_takeN (i := 9) rfl (by kernel_rfl) (fun _ _ _ h => h) rfl rfl (by decide) H rfl ?_
    refine d_takeN (i := 10) rfl (by kernel_rfl) (fun _ _ _ h => h) rfl rfl (by decide) H rfl ?_
    refine d_takeN (i := 11) rfl (by kernel_rfl) (fun _ _ _ h => h) rfl rfl (by decide) H rfl ?_
    refine d_takeN (i := 12) rfl (by kernel_rfl) (fun _ _ _ h => h) rfl rfl (by decide) H rfl ?_
    refine d_takeN (i := 13) rfl (by kernel_rfl) (fun _ _ _ h => h) rfl rfl (by decide) H rfl ?_
    refine d_takeN (i := 14) rfl (by kernel_rfl) (fun _ _ _ h => h) rfl rfl (by decide) H rfl ?_
    refine d_takeN (i := 15) rfl (by kernel_rfl) (fun _ _ _ h => h) rfl rfl (by decide) H rfl ?_
    refine d_takeN (i := 16) rfl (by kernel_rfl) (fun _ _ _ h => h) rfl rfl (by decide) H rfl ?_
    refine d_takeN (i := 17) rfl (by kernel_rfl) (fun _ _ _ h => h) rfl rfl (by decide) H rfl ?_
    refine d_takeN (i := 18) rfl (by kernel_rfl) (fun _ _ _ h => h) rfl rfl (by decide) H rfl ?_
    refine d_take (i := 19) rfl (by kernel_rfl) (fun _ _ _ h => h) H (fun _ _ => r_pickt rfl rfl) rfl ?_
    refine d_done (l' := [_, _, _, _, _, _, _, _, _, _, _, _, _, _, _, _, _, _, _, _, _, _, _, _, _, _, _, _, _, _, _, _, _, _, _, _, _, _, _, _, _, _, _, _, _, _, _, _, _, _, _, _, _, _, _, _, _, _, _, _, _, _, _, _, _, _, _, _, _, _, _, _, _, _, _, _, _, _, _, _, _, _, _, _, _]) (by kernel_rfl) rfl ?_
    refine x_thenNormal ?_
    refine c_ift rfl ?_
    refine c_rseq (n := 85) ⟨rfl, rfl⟩ ?_
    refine s_val (r_assign rfl) ?_
    refine s_val (r_assign rfl) ?_
    refine c_nil (l' := [_, _, _, _, _, _, _, _, _, _, _, _, _, _, _, _, _, _, _, _, _, _, _, _, _, _, _, _, _, _, _, _, _, _, _, _, _, _, _, _, _, _, _, _, _, _, _, _, _, _, _, _, _, _, _, _, _, _, _, _, _, _, _, _, _, _, _, _, _, _, _, _, _, _, _, _, _, _, _, _, _, _, _, _, _]) rfl ?_
    refine wp_ret (x_thenRet ?_)
    refine e_ret (res2 rfl rfl rfl) ⟨_, rfl, ?_⟩
    exact .inr ⟨not_okB (fun h => by have := h.1; omega), rfl, H⟩
  · skip
    obtain ⟨bb, off, pre, post, T, fz, rfl, hb, hp⟩ := hr (by omega)
    have hq0 : 0 ≤ ((bs.getD (0) 0).toNat : Int) ∧ ((bs.getD (0) 0).toNat : Int) < 256 := bt_lt bs _
    have hq1 : 0 ≤ ((bs.getD (1) 0).toNat : Int) ∧ ((bs.getD (1) 0).toNat : Int) < 256 := bt_lt bs _
    refine d_take (i := 3) rfl (by kernel_rfl) (fun _ _ _ h => h) H (fun _ _ => r_move rfl) rfl ?_
    refine d_takeG (i := 4) rfl (by kernel_rfl) (fun _ _ _ h => h) rfl rfl H (fun _ _ => r_move rfl) rfl ?_
    refine d_takeG (i := 5) rfl (by kernel_rfl) (fun _ _ _ h => h) rfl rfl H (fun _ _ => r_lens Tryd.runUnderlying24 (ec rfl en)) rfl ?_
    refine d_takeG (i := 6) rfl (by kernel_rfl) (fun _ _ _ h => h) rfl rfl H (fun _ _ => r_move rfl) rfl ?_
    refine d_takeG (i := 7) rfl (by kernel_rfl) (fun _ _ _ h => h) rfl rfl H (fun _ _ => r_indexAddrS Tryd.runUnderlying24 Tryd.sizeOf5 rfl rfl (by omega) (by omega)) rfl ?_
    refine d_takeG (i := 8) rfl (by kernel_rfl) (fun _ _ _ h => h) rfl rfl H (fun _ HS => r_load1 Tryd.isAgg5 rfl (HS.rd0 hb) (bs_getE _ bs _ (0) hp (by omega) (by omega))) rfl ?_
    refine d_takeG (i := 9) rfl (by kernel_rfl) (fun _ _ _ h => h) rfl rfl H (fun _ _ => r_conv Tryd.runUnderlying5 Tryd.runUnderlying3 rfl (w_i64 (by omega) (by omega))) rfl ?_
    refine d_takeG (i := 10) rfl (by kernel_rfl) (fun _ _ _ h => h) rfl rfl H (fun _ _ => r_mul rfl rfl (w_i64 (by omega) (by omega))) rfl ?_
    refine d_takeG (i := 11) rfl (by kernel_rfl) (fun _ _ _ h => h) rfl rfl H (fun _ _ => r_move rfl) rfl ?_
    refine d_takeG (i := 12) rfl (by kernel_rfl) (fun _ _ _ h => h) rfl rfl H (fun _ _ => r_indexAddrS Tryd.runUnderlying24 Tryd.sizeOf5 rfl rfl (by omega) (by omega)) rfl ?_
    refine d_takeG (i := 13) rfl (by kernel_rfl) (fun _ _ _ h => h) rfl rfl H (fun _ HS => r_load1 Tryd.isAgg5 rfl (HS.rd0 hb) (bs_getE _ bs _ (1) hp (by omega) (by omega))) rfl ?_
    refine d_takeG (i := 14) rfl (by kernel_rfl) (fun _ _ _ h => h) rfl rfl H (fun _ _ => r_conv Tryd.runUnderlying5 Tryd.runUnderlying3 rfl (w_i64 (by omega) (by omega))) rfl ?_
    refine d_takeG (i := 15) rfl (by kernel_rfl) (fun _ _ _ h => h) rfl rfl H (fun _ _ => r_add rfl rfl (w_i64 (by omega) (by omega))) rfl ?_
    refine d_takeG (i := 16) rfl (by kernel_rfl) (fun _ _ _ h => h) rfl rfl H (fun _ _ => r_mul rfl rfl (w_i64 (by omega) (by omega))) rfl ?_
    refine d_takeG (i := 17) rfl (by kernel_rfl) (fun _ _ _ h => h) rfl rfl H (fun _ _ => r_add rfl rfl (w_i64 (by omega) (by omega))) rfl ?_
    refine d_takeG (i := 18) rfl (by kernel_rfl) (fun _ _ _ h => h) rfl rfl H (fun _ _ => r_neq rfl rfl) rfl ?_
    refine d_take (i := 19) rfl (by kernel_rfl) (fun _ _ _ h => h) H (fun _ _ => r_pickf rfl rfl) rfl ?_
    refine d_done (l' := [_, _, _, _, _, _, _, _, _, _, _, _, _, _, _, _, _, _, _, _, _, _, _, _, _, _, _, _, _, _, _, _, _, _, _, _, _, _, _, _, _, _, _, _, _, _, _, _, _, _, _, _, _, _, _, _, _, _, _, _, _, _, _, _, _, _, _, _, _, _, _, _, _, _, _, _, _, _, _, _, _, _, _, _, _]) (by kernel_rfl) rfl ?_
    refine x_thenNormal ?_
    refine c_if rfl (fun h27 => ?_) (fun h27 => ?_)
    · skip
      refine c_rseq (n := 85) ⟨rfl, rfl⟩ ?_
      refine s_val (r_assign rfl) ?_
      refine s_val (r_assign rfl) ?_
      refine c_nil (l' := [_, _, _, _, _, _, _, _, _, _, _, _, _, _, _, _, _, _, _, _, _, _, _, _, _, _, _, _, _, _, _, _, _, _, _, _, _, _, _, _, _, _, _, _, _, _, _, _, _, _, _, _, _, _, _, _, _, _, _, _, _, _, _, _, _, _, _, _, _, _, _, _, _, _, _, _, _, _, _, _, _, _, _, _, _]) rfl ?_
      refine wp_ret (x_thenRet ?_)
      refine e_ret (res2 rfl rfl rfl) ⟨_, rfl, ?_⟩
      exact .inr ⟨not_okB (fun h => h27 h.2), rfl, H⟩
    · skip
      have hS : Shape bs := ⟨by omega, by show (bs.length : Int) = 2 + 36 * (((bs.getD 0 0).toNat : Int) * 256 + ((bs.getD 1 0).toNat : Int)); omega⟩
      obtain ⟨m, hm⟩ : ∃ m : Nat, bs.length = 2 + 36 * m := ⟨(bs.length - 2) / 36, by have := hS.2; omega⟩
      refine wp_skip ?_
      refine x_thenNormal ?_
      refine c_rseq (n := 85) ⟨rfl, rfl⟩ ?_
      refine s_new (m_bslice0 H Tryd.runUnderlying30 Tryd.sizeOf41) ?_
      intro w b28 H
      have hN : RowN 34 41 (hsC (decNs bs 0)) 0 (some ⟨b28, 0, none⟩) 0 [(b28, .cells ([] : List Value).toArray 41 (0, 0))] := ⟨rfl, by omega, .inr ⟨b28, [], rfl, by simp, rfl⟩⟩
      refine s_val (r_assign rfl) ?_
      refine c_nil (l' := [_, _, _, _, _, _, _, _, _, _, _, _, _, _, _, _, _, _, _, _, _, _, _, _, _, _, _, _, _, _, _, _, _, _, _, _, _, _, _, _, _, _, _, _, _, _, _, _, _, _, _, _, _, _, _, _, _, _, _, _, _, _, _, _, _, _, _, _, _, _, _, _, _, _, _, _, _, _, _, _, _, _, _, _, _]) rfl ?_
      refine c_seq ?_
      refine c_rseq (n := 85) ⟨rfl, rfl⟩ ?_
      refine s_val (r_assign rfl) ?_
      refine c_nil (l' := [_, _, _, _, _, _, _, _, _, _, _, _, _, _, _, _, _, _, _, _, _, _, _, _, _, _, _, _, _, _, _, _, _, _, _, _, _, _, _, _, _, _, _, _, _, _, _, _, _, _, _, _, _, _, _, _, _, _, _, _, _, _, _, _, _, _, _, _, _, _, _, _, _, _, _, _, _, _, _, _, _, _, _, _, _]) rfl ?_
      refine wp_block ?_
      refine c_loop (fun (l0 : List Value) (i : Nat) (l : List Value) (w : World) => ∃ (u6 u7 u29 u30 u31 u32 u33 u34 u35 u36 u37 u38 u39 u40 u41 u42 u43 u44 u45 u46 u47 u48 u49 u50 u51 u52 u53 u54 u55 u56 u57 u58 u59 u60 u61 u62 u63 u64 u65 u66 u67 u68 u69 u70 u71 u72 u73 u74 u75 u76 u77 u78 u79 u80 : Value) (a' : Option Addr) (cap' : Nat) (p : Int) (N : List (Nat × Obj)), l = ovr l0 [N_, N_, N_, N_, Y_ (.slice a' i cap'), Y_ (.int .i64 p), Y_ u6, Y_ u7, N_, N_, N_, N_, N_, N_, N_, N_, N_, N_, N_, N_, N_, N_, N_, N_, N_, N_, N_, N_, N_, Y_ u29, Y_ u30, Y_ u31, Y_ u32, Y_ u33, Y_ u34, Y_ u35, Y_ u36, Y_ u37, Y_ u38, Y_ u39, Y_ u40, Y_ u41, Y_ u42, Y_ u43, Y_ u44, Y_ u45, Y_ u46, Y_ u47, Y_ u48, Y_ u49, Y_ u50, Y_ u51, Y_ u52, Y_ u53, Y_ u54, Y_ u55, Y_ u56, Y_ u57, Y_ u58, Y_ u59, Y_ u60, Y_ u61, Y_ u62, Y_ u63, Y_ u64, Y_ u65, Y_ u66, Y_ u67, Y_ u68, Y_ u69, Y_ u70, Y_ u71, Y_ u72, Y_ u73, Y_ u74, Y_ u75, Y_ u76, Y_ u77, Y_ u78, Y_ u79, Y_ u80] ∧ i ≤ m ∧ p = 2 + 36 * (i : Int) ∧ RowN 34 41 (hsC (decNs bs i)) i a' cap' N ∧ St w0 [] w (N)) (fun (i : Nat) => m - i) 0 ⟨_, _, _, _, _, _, _, _, _, _, _, _, _, _, _, _, _, _, _, _, _, _, _, _, _, _, _, _, _, _, _, _, _, _, _, _, _, _, _, _, _, _, _, _, _, _, _, _, _, _, _, _, _, _, _, _, _, _, rfl, by omega, rfl, hN, H⟩ ?_
      intro i l w ⟨u6, u7, u29, u30, u31, u32, u33, u34, u35, u36, u37, u38, u39, u40, u41, u42, u43, u44, u45, u46, u47, u48, u49, u50, u51, u52, u53, u54, u55, u56, u57, u58, u59, u60, u61, u62, u63, u64, u65, u66, u67, u68, u69, u70, u71, u72, u73, u74, u75, u76, u77, u78, u79, u80, a', cap', p, N, hl, hi, hpp, hN, H⟩
      obtain rfl := hl.trans (rfl : _ = [_, _, _, _, _, _, _, _, _, _, _, _, _, _, _, _, _, _, _, _, _, _, _, _, _, _, _, _, _, _, _, _, _, _, _, _, _, _, _, _, _, _, _, _, _, _, _, _, _, _, _, _, _, _, _, _, _, _, _, _, _, _, _, _, _, _, _, _, _, _, _, _, _, _, _, _, _, _, _, _, _, _, _, _, _])
      clear hl
      refine c_seq ?_
      refine c_rseq (n := 85) ⟨rfl, rfl⟩ ?_
      refine s_val (r_move rfl) ?_
      refine s_val (r_move rfl) ?_
      refine s_val (r_lens Tryd.runUnderlying24 (ec rfl en)) ?_
      refine s_val (r_lss rfl rfl) ?_
      refine c_nil (l' := [_, _, _, _, _, _, _, _, _, _, _, _, _, _, _, _, _, _, _, _, _, _, _, _, _, _, _, _, _, _, _, _, _, _, _, _, _, _, _, _, _, _, _, _, _, _, _, _, _, _, _, _, _, _, _, _, _, _, _, _, _, _, _, _, _, _, _, _, _, _, _, _, _, _, _, _, _, _, _, _, _, _, _, _, _]) rfl ?_
      refine c_if rfl (fun h32 => ?_) (fun h32 => ?_)
      · skip
        have hq2 : 0 ≤ ((bs.getD (2 + 36 * i) 0).toNat : Int) ∧ ((bs.getD (2 + 36 * i) 0).toNat : Int) < 256 := bt_lt bs _
        have hq3 : 0 ≤ ((bs.getD (2 + 36 * i + 1) 0).toNat : Int) ∧ ((bs.getD (2 + 36 * i + 1) 0).toNat : Int) < 256 := bt_lt bs _
        have hq4 : 0 ≤ ((bs.getD (2 + 36 * i + 1 + 1) 0).toNat : Int) ∧ ((bs.getD (2 + 36 * i + 1 + 1) 0).toNat : Int) < 256 := bt_lt bs _
        have hq5 : 0 ≤ ((bs.getD (2 + 36 * i + 1 + 2) 0).toNat : Int) ∧ ((bs.getD (2 + 36 * i + 1 + 2) 0).toNat : Int) < 256 := bt_lt bs _
        refine wp_skip ?_
        refine x_thenNormal ?_
        refine c_seq ?_
        refine wp_block ?_
        refine c_seq ?_
        refine d_begin (sz := 85) ⟨rfl, rfl⟩ (by kernel_rfl) H (H) rfl ?_
        intro w H
        refine d_take (i := 0) rfl (by kernel_rfl) (fun _ _ _ h => h) H (fun _ _ => r_move rfl) rfl ?_
        refine d_take (i := 1) rfl (by kernel_rfl) (fun _ _ _ h => h) H (fun _ _ => r_move rfl) rfl ?_
        refine d_take (i := 2) rfl (by kernel_rfl) (fun _ _ _ h => h) H (fun _ _ => r_indexAddrS Tryd.runUnderlying24 Tryd.sizeOf5 rfl rfl (by omega) (by omega)) rfl ?_
        refine d_take (i := 3) rfl (by kernel_rfl) (fun _ _ _ h => h) H (fun _ HS => r_load1 Tryd.isAgg5 rfl (HS.rd0 hb) (bs_getE _ bs _ (2 + 36 * i) hp (by omega) (by omega))) rfl ?_
        refine d_take (i := 4) rfl (by kernel_rfl) (fun _ _ _ h => h) H (fun _ _ => r_conv Tryd.runUnderlying5 Tryd.runUnderlying3 rfl (w_i64 (by omega) (by omega))) rfl ?_
        refine d_take (i := 5) rfl (by kernel_rfl) (fun _ _ _ h => h) H (fun _ _ => r_move rfl) rfl ?_
        refine d_take (i := 6) rfl (by kernel_rfl) (fun _ _ _ h => h) H (fun _ _ => r_move rfl) rfl ?_
        refine d_take (i := 7) rfl (by kernel_rfl) (fun _ _ _ h => h) H (fun _ _ => r_add rfl rfl (w_i64 (by omega) (by omega))) rfl ?_
        refine d_take (i := 8) rfl (by kernel_rfl) (fun _ _ _ h => h) H (fun _ _ => r_indexAddrS Tryd.runUnderlying24 Tryd.sizeOf5 rfl rfl (by omega) (by omega)) rfl ?_
        refine d_take (i := 9) rfl (by kernel_rfl) (fun _ _ _ h => h) H (fun _ HS => r_load1 Tryd.isAgg5 rfl (HS.rd0 hb) (bs_getE _ bs _ (2 + 36 * i + 1) hp (by omega) (by omega))) rfl ?_
        refine d_take (i := 10) rfl (by kernel_rfl) (fun _ _ _ h => h) H (fun _ _ => r_conv Tryd.runUnderlying5 Tryd.runUnderlying38 rfl (w_u64 (by omega) (by omega))) rfl ?_
        refine d_take (i := 11) rfl (by kernel_rfl) (fun _ _ _ h => h) H (fun _ _ => r_mul rfl rfl (w_u64 (by omega) (by omega))) rfl ?_
        refine d_take (i := 12) rfl (by kernel_rfl) (fun _ _ _ h => h) H (fun _ _ => r_move rfl) rfl ?_
        refine d_take (i := 13) rfl (by kernel_rfl) (fun _ _ _ h => h) H (fun _ _ => r_move rfl) rfl ?_
        refine d_take (i := 14) rfl (by kernel_rfl) (fun _ _ _ h => h) H (fun _ _ => r_add rfl rfl (w_i64 (by omega) (by omega))) rfl ?_
        refine d_take (i := 15) rfl (by kernel_rfl) (fun _ _ _ h => h) H (fun _ _ => r_indexAddrS Tryd.runUnderlying24 Tryd.sizeOf5 rfl rfl (by omega) (by omega)) rfl ?_
        refine d_take (i := 16) rfl (by kernel_rfl) (fun _ _ _ h => h) H (fun _ HS => r_load1 Tryd.isAgg5 rfl (HS.rd0 hb) (bs_getE _ bs _ (2 + 36 * i + 1 + 1) hp (by omega) (by omega))) rfl ?_
        refine d_take (i := 17) rfl (by kernel_rfl) (fun _ _ _ h => h) H (fun _ _ => r_conv Tryd.runUnderlying5 Tryd.runUnderlying38 rfl (w_u64 (by omega) (by omega))) rfl ?_
        refine d_take (i := 18) rfl (by kernel_rfl) (fun _ _ _ h => h) H (fun _ _ => r_mul rfl rfl (w_u64 (by omega) (by omega))) rfl ?_
        refine d_take (i := 19) rfl (by kernel_rfl) (fun _ _ _ h => h) H (fun _ _ => r_add rfl rfl (w_u64 (by omega) (by omega))) rfl ?_
        refine d_take (i := 20) rfl (by kernel_rfl) (fun _ _ _ h => h) H (fun _ _ => r_move rfl) rfl ?_
        refine d_take (i := 21) rfl (by kernel_rfl) (fun _ _ _ h => h) H (fun _ _ => r_move rfl) rfl ?_
        refine d_take (i := 22) rfl (by kernel_rfl) (fun _ _ _ h => h) H (fun _ _ => r_add rfl rfl (w_i64 (by omega) (by omega))) rfl ?_
        refine d_take (i := 23) rfl (by kernel_rfl) (fun _ _ _ h => h) H (fun _ _ => r_indexAddrS Tryd.runUnderlying24 Tryd.sizeOf5 rfl rfl (by omega) (by omega)) rfl ?_
        refine d_take (i := 24) rfl (by kernel_rfl) (fun _ _ _ h => h) H (fun _ HS => r_load1 Tryd.isAgg5 rfl (HS.rd0 hb) (bs_getE _ bs _ (2 + 36 * i + 1 + 2) hp (by omega) (by omega))) rfl ?_
        refine d_take (i := 25) rfl (by kernel_rfl) (fun _ _ _ h => h) H (fun _ _ => r_conv Tryd.runUnderlying5 Tryd.runUnderlying38 rfl (w_u64 (by omega) (by omega))) rfl ?_
        refine d_take (i := 26) rfl (by kernel_rfl) (fun _ _ _ h => h) H (fun _ _ => r_add rfl rfl (w_u64 (by omega) (by omega))) rfl ?_
        refine d_take (i := 27) rfl (by kernel_rfl) (fun _ _ _ h => h) H (fun _ _ => r_buildS Tryd.runUnderlying41 Tryd.zeroValue41 places41 (pc rfl (pc rfl pn)) (by first | exact (hfill _ _ _) | exact (hfill1 _) | exact (hfill2 _ _))) rfl ?_
        refine d_all1 (i := 28) (by kernel_rfl) ?_
        refine b_new rfl go_none (m_alloc (cs := (hC Held.zero)) H Tryd.zeroValue41 rfl) rfl (fun _ _ H => (H.sub (.cons _ (List.Sublist.refl _)))) ?_
        intro w b6 H
        refine d_all1 (i := 29) (by kernel_rfl) ?_
        refine b_st rfl go_none (m_storen H 0 34 Tryd.sizeOf41 rfl rfl (by first | exact (kC_length _) | exact (hC_length _)) (by first | exact (kC_one _) | exact (hC_one _)) rfl (by first | exact (by rw [kC_length]; omega) | exact (by rw [hC_length]; omega)) (by first | exact (kC_sp _ _) | exact (hC_sp _ _))) (L' := (_ :: _)) rfl rfl (fun _ H => (H.sub (.cons _ (List.Sublist.refl _)))) ?_
        intro w H
        refine d_done (l' := [_, _, _, _, _, _, _, _, _, _, _, _, _, _, _, _, _, _, _, _, _, _, _, _, _, _, _, _, _, _, _, _, _, _, _, _, _, _, _, _, _, _, _, _, _, _, _, _, _, _, _, _, _, _, _, _, _, _, _, _, _, _, _, _, _, _, _, _, _, _, _, _, _, _, _, _, _, _, _, _, _, _, _, _, _]) (by kernel_rfl) rfl ?_
        refine x_thenNormal ?_
        refine c_seq ?_
        refine c_rseq (n := 85) ⟨rfl, rfl⟩ ?_
        refine s_val (r_assign rfl) ?_
        refine c_nil (l' := [_, _, _, _, _, _, _, _, _, _, _, _, _, _, _, _, _, _, _, _, _, _, _, _, _, _, _, _, _, _, _, _, _, _, _, _, _, _, _, _, _, _, _, _, _, _, _, _, _, _, _, _, _, _, _, _, _, _, _, _, _, _, _, _, _, _, _, _, _, _, _, _, _, _, _, _, _, _, _, _, _, _, _, _, _]) rfl ?_
        refine wp_block ?_
        refine c_loop (fun (l0 : List Value) (k : Nat) (l : List Value) (w : World) => ∃ (u63 u64 u65 u66 u67 u68 u69 u70 u71 u72 u73 u74 u75 u76 : Value) , l = ovr l0 [N_, N_, N_, N_, N_, N_, N_, Y_ (.int .i64 k), N_, N_, N_, N_, N_, N_, N_, N_, N_, N_, N_, N_, N_, N_, N_, N_, N_, N_, N_, N_, N_, N_, N_, N_, N_, N_, N_, N_, N_, N_, N_, N_, N_, N_, N_, N_, N_, N_, N_, N_, N_, N_, N_, N_, N_, N_, N_, N_, N_, N_, N_, N_, N_, N_, N_, Y_ u63, Y_ u64, Y_ u65, Y_ u66, Y_ u67, Y_ u68, Y_ u69, Y_ u70, Y_ u71, Y_ u72, Y_ u73, Y_ u74, Y_ u75, Y_ u76] ∧ k ≤ 32 ∧ St w0 [] w ((b6, .cells (hC (decK bs (2 + 36 * i) k)).toArray 41 (0, 0)) :: N)) (fun (k : Nat) => 32 - k) 0 ⟨_, _, _, _, _, _, _, _, _, _, _, _, _, _, rfl, by omega, (by rw [decK_zero]; exact H)⟩ ?_
        intro k l w ⟨u63, u64, u65, u66, u67, u68, u69, u70, u71, u72, u73, u74, u75, u76, hl, hk, H⟩
        obtain rfl := hl.trans (rfl : _ = [_, _, _, _, _, _, _, _, _, _, _, _, _, _, _, _, _, _, _, _, _, _, _, _, _, _, _, _, _, _, _, _, _, _, _, _, _, _, _, _, _, _, _, _, _, _, _, _, _, _, _, _, _, _, _, _, _, _, _, _, _, _, _, _, _, _, _, _, _, _, _, _, _, _, _, _, _, _, _, _, _, _, _, _, _])
        clear hl
        refine c_seq ?_
        refine c_rseq (n := 85) ⟨rfl, rfl⟩ ?_
        refine s_val (r_move rfl) ?_
        refine s_val (r_lss rfl rfl) ?_
        refine c_nil (l' := [_, _, _, _, _, _, _, _, _, _, _, _, _, _, _, _, _, _, _, _, _, _, _, _, _, _, _, _, _, _, _, _, _, _, _, _, _, _, _, _, _, _, _, _, _, _, _, _, _, _, _, _, _, _, _, _, _, _, _, _, _, _, _, _, _, _, _, _, _, _, _, _, _, _, _, _, _, _, _, _, _, _, _, _, _]) rfl ?_
        refine c_if rfl (fun h64 => ?_) (fun h64 => ?_)
        · skip
          refine wp_skip ?_
          refine x_thenNormal ?_
          refine c_seq ?_
          refine wp_block ?_
          refine c_region (n := 85) ⟨rfl, rfl⟩ ?_
          refine s_val (r_move rfl) ?_
          refine s_val (r_move rfl) ?_
          refine s_val (r_move rfl) ?_
          refine s_val (r_add rfl rfl (w_i64 (by omega) (by omega))) ?_
          refine s_val (r_move rfl) ?_
          refine s_val (r_add rfl rfl (w_i64 (by omega) (by omega))) ?_
          refine s_val (r_indexAddrS Tryd.runUnderlying24 Tryd.sizeOf5 rfl rfl (by omega) (by omega)) ?_
          refine s_val (r_load1 Tryd.isAgg5 rfl (H.rd0 hb) (bs_getE _ bs _ (2 + 36 * i + 4 + k) hp (by omega) (by omega))) ?_
          refine s_val (r_fieldAddr (k := 2) Tryd.runUnderlying41 rfl Tryd.sizeOf39 (by decide) rfl rfl) ?_
          refine s_val (r_indexAddrA Tryd.runUnderlying39 Tryd.sizeOf5 rfl rfl (by omega) (by omega)) ?_
          refine s_st (m_store1 H 0 Tryd.sizeOf5 rfl rfl rfl rfl (by first | exact (by rw [kC_length]; omega) | exact (by rw [hC_length]; omega) | exact (by simp)) (decK_set _ _ _ (by omega) (by omega) rfl)) (L' := (_ :: _)) rfl ?_
          intro w H
          refine c_nil0 (l' := [_, _, _, _, _, _, _, _, _, _, _, _, _, _, _, _, _, _, _, _, _, _, _, _, _, _, _, _, _, _, _, _, _, _, _, _, _, _, _, _, _, _, _, _, _, _, _, _, _, _, _, _, _, _, _, _, _, _, _, _, _, _, _, _, _, _, _, _, _, _, _, _, _, _, _, _, _, _, _, _, _, _, _, _, _]) rfl ?_
          refine x_blockNormal ?_
          refine x_thenNormal ?_
          refine c_region (n := 85) ⟨rfl, rfl⟩ ?_
          refine s_val (r_move rfl) ?_
          refine s_val (r_add rfl rfl (w_i64 (by omega) (by omega))) ?_
          refine s_val (r_assign rfl) ?_
          refine c_nil0 (l' := [_, _, _, _, _, _, _, _, _, _, _, _, _, _, _, _, _, _, _, _, _, _, _, _, _, _, _, _, _, _, _, _, _, _, _, _, _, _, _, _, _, _, _, _, _, _, _, _, _, _, _, _, _, _, _, _, _, _, _, _, _, _, _, _, _, _, _, _, _, _, _, _, _, _, _, _, _, _, _, _, _, _, _, _, _]) rfl ?_
          exact ⟨k + 1, _, rfl, ⟨_, _, _, _, _, _, _, _, _, _, _, _, _, _, rfl, by omega, H⟩, by omega⟩
        · skip
          obtain rfl : k = 32 := by omega
          rw [decK_all] at H
          refine wp_exit (x_thenExit (x_thenExit (x_blockHit ?_)))
          refine x_thenNormal ?_
          refine c_region (n := 85) ⟨rfl, rfl⟩ ?_
          refine s_val (r_move rfl) ?_
          refine s_val (r_loadn Tryd.isAgg41 Tryd.sizeOf41 rfl (H.at 0 rfl) (by first | exact (kC_td _) | exact (hC_td _) | exact (hC_seed _)) (by first | exact (kC_length _) | exact (hC_length _) | exact rfl)) ?_
          refine s_new (m_bslice1 H Tryd.runUnderlying30 Tryd.sizeOf41 Tryd.zeroValue41 (by omega) (by omega) rfl rfl (hC_length _)) ?_
          intro w b79 H
          refine s_any (m_append_row (L1 := [_, _]) (N := N) H hN Tryd.runUnderlying30 Tryd.runUnderlying30 (fun _ h => nomatch h) Tryd.sizeOf41 Tryd.zeroValue41 rfl Tryd.typeInfo41 (by rw [bytes41]; omega) (by omega) (by rw [bytes41]; omega) (ec rfl (ec rfl en)) (Src.slice (H.at 0 rfl) (hC_td _) (hC_length _) (hC_one _))) ?_
          rintro v w ⟨a', cap', N, rfl, hN, H⟩
          skip
          refine s_val (r_assign rfl) ?_
          refine c_nil0 (l' := [_, _, _, _, _, _, _, _, _, _, _, _, _, _, _, _, _, _, _, _, _, _, _, _, _, _, _, _, _, _, _, _, _, _, _, _, _, _, _, _, _, _, _, _, _, _, _, _, _, _, _, _, _, _, _, _, _, _, _, _, _, _, _, _, _, _, _, _, _, _, _, _, _, _, _, _, _, _, _, _, _, _, _, _, _]) rfl ?_
          refine x_blockNormal ?_
          refine x_thenNormal ?_
          refine c_region (n := 85) ⟨rfl, rfl⟩ ?_
          refine s_val (r_move rfl) ?_
          refine s_val (r_add rfl rfl (w_i64 (by omega) (by omega))) ?_
          refine s_val (r_assign rfl) ?_
          refine c_nil0 (l' := [_, _, _, _, _, _, _, _, _, _, _, _, _, _, _, _, _, _, _, _, _, _, _, _, _, _, _, _, _, _, _, _, _, _, _, _, _, _, _, _, _, _, _, _, _, _, _, _, _, _, _, _, _, _, _, _, _, _, _, _, _, _, _, _, _, _, _, _, _, _, _, _, _, _, _, _, _, _, _, _, _, _, _, _, _]) rfl ?_
          replace H := H.sub (.cons _ (.cons _ (List.Sublist.refl _)))
          exact ⟨i + 1, _, rfl, ⟨_, _, _, _, _, _, _, _, _, _, _, _, _, _, _, _, _, _, _, _, _, _, _, _, _, _, _, _, _, _, _, _, _, _, _, _, _, _, _, _, _, _, _, _, _, _, _, _, _, _, _, _, _, _, _, _, _, _, rfl, by omega, by omega, by rw [decNs_succ, hsC_append, hsC_one1]; exact hN, H⟩, by omega⟩
      · skip
        obtain rfl : m = i := by omega
        obtain ⟨xs, hxs⟩ : ∃ xs, decNs bs m = xs := ⟨_, rfl⟩
        have hlen := decNs_length bs m
        have hinr := decNs_inR bs m
        rw [hxs] at hN hlen hinr
        subst hlen
        refine wp_exit (x_thenExit (x_thenExit (x_blockHit ?_)))
        refine x_thenNormal ?_
        refine c_seq ?_
        refine c_rseq (n := 85) ⟨rfl, rfl⟩ ?_
        refine s_val (r_move rfl) ?_
        refine s_call (r_call Tryd.call26 (ec rfl en)) (rmay_spec _ _ xs (by omega) hinr _ (hN.hrow (L := []) H)) ?_
        rintro v w ⟨rfl, HC⟩
        replace H := H.quiet HC
        refine s_val (r_notp rfl) ?_
        refine c_nil (l' := [_, _, _, _, _, _, _, _, _, _, _, _, _, _, _, _, _, _, _, _, _, _, _, _, _, _, _, _, _, _, _, _, _, _, _, _, _, _, _, _, _, _, _, _, _, _, _, _, _, _, _, _, _, _, _, _, _, _, _, _, _, _, _, _, _, _, _, _, _, _, _, _, _, _, _, _, _, _, _, _, _, _, _, _, _]) rfl ?_
        refine c_if rfl (fun h83 => ?_) (fun h83 => ?_)
        · skip
          refine c_rseq (n := 85) ⟨rfl, rfl⟩ ?_
          refine s_val (r_assign rfl) ?_
          refine s_val (r_assign rfl) ?_
          refine c_nil (l' := [_, _, _, _, _, _, _, _, _, _, _, _, _, _, _, _, _, _, _, _, _, _, _, _, _, _, _, _, _, _, _, _, _, _, _, _, _, _, _, _, _, _, _, _, _, _, _, _, _, _, _, _, _, _, _, _, _, _, _, _, _, _, _, _, _, _, _, _, _, _, _, _, _, _, _, _, _, _, _, _, _, _, _, _, _]) rfl ?_
          refine wp_ret (x_thenRet ?_)
          refine e_ret (res2 rfl rfl rfl) ⟨_, rfl, ?_⟩
          replace H := H.sub (List.nil_sublist _)
          exact .inr ⟨not_okB' hm (by rw [hxs]; exact h83), rfl, H⟩
        · skip
          refine wp_skip ?_
          refine x_thenNormal ?_
          refine c_rseq (n := 85) ⟨rfl, rfl⟩ ?_
          refine s_val (r_move rfl) ?_
          refine s_val (r_assign rfl) ?_
          refine s_val (r_assign rfl) ?_
          refine c_nil (l' := [_, _, _, _, _, _, _, _, _, _, _, _, _, _, _, _, _, _, _, _, _, _, _, _, _, _, _, _, _, _, _, _, _, _, _, _, _, _, _, _, _, _, _, _, _, _, _, _, _, _, _, _, _, _, _, _, _, _, _, _, _, _, _, _, _, _, _, _, _, _, _, _, _, _, _, _, _, _, _, _, _, _, _, _, _]) rfl ?_
          refine wp_ret ?_
          refine e_ret (res2 rfl rfl rfl) ⟨_, rfl, ?_⟩
          exact .inl ⟨_, hS, hm, by rw [hxs]; exact Decidable.not_not.1 h83, _, _, _, rfl, by rw [hxs]; exact hN, H⟩

set_option maxHeartbeats 4000000 in
theorem chunk_spec (a : Option Addr) (len cap : Nat) (w0 : World) :
    Calls Tryd.prog 28 #[.slice a len cap, .int .i64 36] w0 fun e w => ∃ v, e = .returned v ∧ (∃ b2 b3, v = .func (.func 42) #[] #[.pointer (some ⟨b2, 0, none⟩), .pointer (some ⟨b3, 0, none⟩)] ∧ St w0 [] w [(b3, .cells [.int .i64 36].toArray 3 (0, 0)), (b2, .cells [.slice a len cap].toArray 24 (0, 0))]) := by
  have H := St.refl w0
  refine c_enter (args := [.slice a len cap, .int .i64 36]) (l := [.slice a len cap, .int .i64 36, undef, undef, undef, undef, undef, undef, undef]) Tryd.func28 Tryd.ntmps28 rfl rfl ?_
  refine c_rseq (n := 9) ⟨rfl, rfl⟩ ?_
  refine s_new (m_box (cs := [.slice a len cap]) H rfl rfl) ?_
  intro w b2 H
  refine s_new (m_box (cs := [.int .i64 36]) H rfl rfl) ?_
  intro w b3 H
  refine s_val (r_assign rfl) ?_
  refine c_nil (l' := [_, _, _, _, _, _, _, _, _]) rfl ?_
  refine c_seq ?_
  refine c_rseq (n := 9) ⟨rfl, rfl⟩ ?_
  refine s_val (r_load1 Tryd.isAgg3 rfl (H.at 0 rfl) rfl) ?_
  refine s_val (r_lss rfl rfl) ?_
  refine c_nil (l' := [_, _, _, _, _, _, _, _, _]) rfl ?_
  refine c_if rfl (fun h6 => ?_) (fun h6 => ?_)
  · skip
    exfalso; omega
  · skip
    refine wp_skip ?_
    refine x_thenNormal ?_
    refine c_rseq (n := 9) ⟨rfl, rfl⟩ ?_
    refine s_val (r_makeFunc en (ec rfl (ec rfl en))) ?_
    refine s_val (r_assign rfl) ?_
    refine c_nil (l' := [_, _, _, _, _, _, _, _, _]) rfl ?_
    refine wp_ret ?_
    refine e_ret (res1 rfl rfl) ⟨_, rfl, ?_⟩
    exact ⟨_, _, rfl, H⟩

set_option maxHeartbeats 4000000 in
theorem chunk1_spec (r fnr D b1 b2 m cap : Nat) (lr : List Value) (ps : List Tmp) (as_ bo : Code) (a : Option Addr) (X : List Nat) (M : Nat → List (Nat × Obj) → Prop) (w1 : World) (N0 : List (Nat × Obj)) (hm : m ≤ 1000000) (hcap : 36 * m ≤ cap) (w0 : World) (hst : St w0 X w1 ((r, LR .ready fnr lr ps as_ bo D) :: (D, .deferred (some [])) :: (b2, .cells [.int .i64 36].toArray 3 (0, 0)) :: (b1, .cells [.slice a (36 * m) cap].toArray 24 (0, 0)) :: N0)) (hM : M 0 N0) (hY : ∀ k N w, k < m → M k N → St w0 X w ((r, LR .ready fnr lr ps as_ bo D) :: (D, .deferred (some [])) :: (b2, .cells [.int .i64 36].toArray 3 (0, 0)) :: (b1, .cells [.slice a (36 * m) cap].toArray 24 (0, 0)) :: N) → ∃ fn' tmps as' bo', (Instr.yield r #[.slice (cutA a 1 (36 * k + 36) (36 * k)) (36 * k + 36 - 36 * k) (36 * k + 36 - 36 * k)]).run Tryd.prog w = .ok (.round r fn' tmps as' bo') w ∧ RoundIn Fence.wide 0 Tryd.prog r fn' tmps as' bo' w fun e w' => e = .returned (.bool true) ∧ ∃ N', M (k + 1) N' ∧ St w0 X w' ((r, LR .ready fnr lr ps as_ bo D) :: (D, .deferred (some [])) :: (b2, .cells [.int .i64 36].toArray 3 (0, 0)) :: (b1, .cells [.slice a (36 * m) cap].toArray 24 (0, 0)) :: N')) :
    Calls Tryd.prog 42 #[.func (.yield r) #[] #[], .pointer (some ⟨b1, 0, none⟩), .pointer (some ⟨b2, 0, none⟩)] w1 fun e w => ∃ v, e = .returned v ∧ (v = .tuple #[] ∧ ∃ N, M m N ∧ St w0 X w ((r, LR .ready fnr lr ps as_ bo D) :: (D, .deferred (some [])) :: (b2, .cells [.int .i64 36].toArray 3 (0, 0)) :: (b1, .cells [.slice a (36 * m) cap].toArray 24 (0, 0)) :: N)) := by
  have H := hst
  refine c_enter (args := [.func (.yield r) #[] #[], .pointer (some ⟨b1, 0, none⟩), .pointer (some ⟨b2, 0, none⟩)]) (l := [.func (.yield r) #[] #[], .pointer (some ⟨b1, 0, none⟩), .pointer (some ⟨b2, 0, none⟩), undef, undef, undef, undef, undef, undef, undef, undef, undef, undef, undef, undef, undef, undef, undef, undef, undef, undef, undef, undef, undef, undef, undef, undef, undef, undef, undef, undef]) Tryd.func42 Tryd.ntmps42 rfl rfl ?_
  refine c_rseq (n := 31) ⟨rfl, rfl⟩ ?_
  refine s_val (r_assign rfl) ?_
  refine c_nil (l' := [_, _, _, _, _, _, _, _, _, _, _, _, _, _, _, _, _, _, _, _, _, _, _, _, _, _, _, _, _, _, _]) rfl ?_
  refine wp_block ?_
  refine c_loop (fun (l0 : List Value) (k : Nat) (l : List Value) (w : World) => ∃ (u5 u6 u7 u8 u9 u10 u11 u12 u13 u14 u15 u16 u17 u18 u19 u20 u21 u22 u23 u24 u25 u26 u27 u28 u29 u30 : Value) (N : List (Nat × Obj)) (i : Int), l = ovr l0 [N_, N_, N_, N_, Y_ (.int .i64 i), Y_ u5, Y_ u6, Y_ u7, Y_ u8, Y_ u9, Y_ u10, Y_ u11, Y_ u12, Y_ u13, Y_ u14, Y_ u15, Y_ u16, Y_ u17, Y_ u18, Y_ u19, Y_ u20, Y_ u21, Y_ u22, Y_ u23, Y_ u24, Y_ u25, Y_ u26, Y_ u27, Y_ u28, Y_ u29, Y_ u30] ∧ k ≤ m ∧ i = 36 * (k : Int) ∧ M k N ∧ St w0 X w ((r, LR .ready fnr lr ps as_ bo D) :: (D, .deferred (some [])) :: (b2, .cells [.int .i64 36].toArray 3 (0, 0)) :: (b1, .cells [.slice a (36 * m) cap].toArray 24 (0, 0)) :: N)) (fun (k : Nat) => m - k) 0 ⟨_, _, _, _, _, _, _, _, _, _, _, _, _, _, _, _, _, _, _, _, _, _, _, _, _, _, _, _, rfl, by omega, rfl, hM, H⟩ ?_
  intro k l w ⟨u5, u6, u7, u8, u9, u10, u11, u12, u13, u14, u15, u16, u17, u18, u19, u20, u21, u22, u23, u24, u25, u26, u27, u28, u29, u30, N, i, hl, hk, hi, hM, H⟩
  obtain rfl := hl.trans (rfl : _ = [_, _, _, _, _, _, _, _, _, _, _, _, _, _, _, _, _, _, _, _, _, _, _, _, _, _, _, _, _, _, _])
  clear hl
  refine c_seq ?_
  refine c_rseq (n := 31) ⟨rfl, rfl⟩ ?_
  refine s_val (r_move rfl) ?_
  refine s_val (r_load1 Tryd.isAgg24 rfl (H.at 3 rfl) rfl) ?_
  refine s_val (r_lens Tryd.runUnderlying24 (ec rfl en)) ?_
  refine s_val (r_lss rfl rfl) ?_
  refine c_nil (l' := [_, _, _, _, _, _, _, _, _, _, _, _, _, _, _, _, _, _, _, _, _, _, _, _, _, _, _, _, _, _, _]) rfl ?_
  refine c_if rfl (fun h9 => ?_) (fun h9 => ?_)
  · skip
    refine wp_skip ?_
    refine x_thenNormal ?_
    refine c_seq ?_
    refine wp_block ?_
    refine c_seq ?_
    refine d_begin (sz := 31) ⟨rfl, rfl⟩ (by kernel_rfl) H (H) rfl ?_
    intro w H
    refine d_take (i := 0) rfl (by kernel_rfl) (fun _ _ _ h => h) H (fun _ HS => r_load1 Tryd.isAgg3 rfl (HS.at 2 rfl) rfl) rfl ?_
    refine d_take (i := 1) rfl (by kernel_rfl) (fun _ _ _ h => h) H (fun _ HS => r_load1 Tryd.isAgg24 rfl (HS.at 3 rfl) rfl) rfl ?_
    refine d_take (i := 2) rfl (by kernel_rfl) (fun _ _ _ h => h) H (fun _ _ => r_move rfl) rfl ?_
    refine d_take (i := 3) rfl (by kernel_rfl) (fun _ _ _ h => h) H (fun _ _ => r_sliceL (lo := 36 * k) Tryd.runUnderlying24 Tryd.sizeOf5 rfl rfl (by omega) (by omega)) rfl ?_
    refine d_take (i := 4) rfl (by kernel_rfl) (fun _ _ _ h => h) H (fun _ _ => r_lens Tryd.runUnderlying24 (ec rfl en)) rfl ?_
    refine d_take (i := 5) rfl (by kernel_rfl) (fun _ _ _ h => h) H (fun _ _ => r_min rfl rfl) rfl ?_
    refine d_take (i := 6) rfl (by kernel_rfl) (fun _ _ _ h => h) H (fun _ _ => r_assign rfl) rfl ?_
    refine d_done (l' := [_, _, _, _, _, _, _, _, _, _, _, _, _, _, _, _, _, _, _, _, _, _, _, _, _, _, _, _, _, _, _]) (by kernel_rfl) rfl ?_
    refine x_thenNormal ?_
    refine c_seq ?_
    refine c_yieldK 10 (n := 31) ⟨rfl, rfl⟩ rfl rfl ?_ (by rintro ⟨_, _, _, h, _⟩; cases h)
    refine s_val (r_move rfl) ?_
    refine s_val (r_load1 Tryd.isAgg24 rfl (H.at 3 rfl) rfl) ?_
    refine s_val (r_move rfl) ?_
    refine s_val (r_move rfl) ?_
    refine s_val (r_move rfl) ?_
    refine s_val (r_add rfl rfl (w_i64 (by omega) (by omega))) ?_
    refine s_val (r_move rfl) ?_
    refine s_val (r_move rfl) ?_
    refine s_val (r_add rfl rfl (w_i64 (by omega) (by omega))) ?_
    obtain ⟨fn', tmps', as', bo', hyr, hyR⟩ := hY k N w (by omega) hM H
    refine s_val (r_slice3 (lo := 36 * k) (hi := 36 * k + 36) (mx := 36 * k + 36) Tryd.runUnderlying24 Tryd.sizeOf5 rfl rfl rfl rfl (by omega) (by omega) (by omega) (by omega) (by omega) (by omega)) ?_
    refine c_nil0 (l' := [_, _, _, _, _, _, _, _, _, _, _, _, _, _, _, _, _, _, _, _, _, _, _, _, _, _, _, _, _, _, _]) rfl ?_
    refine ⟨rfl, rfl, rfl, (fun _ h => nomatch h), r, _, _, _, _, r_yieldL rfl rfl hyr, hyR.mono ?_⟩
    rintro e w ⟨rfl, N', hM, H⟩
    skip
    refine ⟨_, rfl, wl_put (n := 31) ⟨rfl, rfl⟩ ?_⟩
    refine s_val (r_not rfl) ?_
    refine c_nil (l' := [_, _, _, _, _, _, _, _, _, _, _, _, _, _, _, _, _, _, _, _, _, _, _, _, _, _, _, _, _, _, _]) rfl ?_
    refine c_iff rfl ?_
    refine wp_skip ?_
    refine x_blockNormal ?_
    refine x_thenNormal ?_
    refine c_region (n := 31) ⟨rfl, rfl⟩ ?_
    refine s_val (r_move rfl) ?_
    refine s_val (r_load1 Tryd.isAgg3 rfl (H.at 2 rfl) rfl) ?_
    refine s_val (r_add rfl rfl (w_i64 (by omega) (by omega))) ?_
    refine s_val (r_assign rfl) ?_
    refine c_nil0 (l' := [_, _, _, _, _, _, _, _, _, _, _, _, _, _, _, _, _, _, _, _, _, _, _, _, _, _, _, _, _, _, _]) rfl ?_
    exact ⟨k + 1, _, rfl, ⟨_, _, _, _, _, _, _, _, _, _, _, _, _, _, _, _, _, _, _, _, _, _, _, _, _, _, _, _, rfl, by omega, by omega, hM, H⟩, by omega⟩
  · skip
    obtain rfl : m = k := by omega
    refine wp_exit (x_thenExit (x_thenExit (x_blockHit ?_)))
    refine e_end (res0 rfl) ⟨_, rfl, ?_⟩
    exact ⟨rfl, _, hM, H⟩

set_option maxHeartbeats 4000000 in
theorem dec_spec (a : Option Addr) (cap : Nat) (bs : List UInt8) (hl : bs.length ≤ 1000000) (hc : bs.length ≤ cap) (w0 : World) (hr : BRow w0 a bs) (hT : TabH w0) :
    Calls Tryd.prog 16 #[.slice a bs.length cap] w0 fun e w => ∃ v, e = .returned v ∧ ((∃ n, Shape bs ∧ bs.length = 2 + 36 * n ∧ Valid (decNs bs n) ∧ ∃ a' cap' N, v = .tuple #[.slice a' n cap', .int .i64 0] ∧ RowN 34 55 (hsC (decNs bs n)) n a' cap' N ∧ St w0 [] w N) ∨ (¬ OkB bs ∧ v = .tuple #[.slice none 0 0, .int .i64 3] ∧ St w0 [] w [])) := by
  have H := St.refl w0
  refine cM_enter (args := [.slice a bs.length cap]) (l := [.slice a bs.length cap, undef, undef, undef, undef, undef, undef, undef, undef, undef, undef, undef, undef, undef, undef, undef, undef, undef, undef, undef, undef, undef, undef, undef, undef, undef, undef, undef, undef, undef, undef, undef, undef, undef, undef, undef, undef, undef, undef, undef, undef, undef, undef, undef, undef, undef, undef, undef, undef, undef, undef, undef, undef]) Tryd.func16 Tryd.ntmps16 rfl rfl ?_
  refine c_rseq (n := 53) ⟨rfl, rfl⟩ ?_
  refine s_val (r_assign rfl) ?_
  refine s_val (r_assign rfl) ?_
  refine c_nil (l' := [_, _, _, _, _, _, _, _, _, _, _, _, _, _, _, _, _, _, _, _, _, _, _, _, _, _, _, _, _, _, _, _, _, _, _, _, _, _, _, _, _, _, _, _, _, _, _, _, _, _, _, _, _]) rfl ?_
  refine c_seq ?_
  refine c_rseq (n := 53) ⟨rfl, rfl⟩ ?_
  refine s_val (r_move rfl) ?_
  refine s_val (r_lens Tryd.runUnderlying24 (ec rfl en)) ?_
  refine s_val (r_lss rfl rfl) ?_
  refine c_nil (l' := [_, _, _, _, _, _, _, _, _, _, _, _, _, _, _, _, _, _, _, _, _, _, _, _, _, _, _, _, _, _, _, _, _, _, _, _, _, _, _, _, _, _, _, _, _, _, _, _, _, _, _, _, _]) rfl ?_
  refine c_if rfl (fun h12 => ?_) (fun h12 => ?_)
  · skip
    refine c_rseq (n := 53) ⟨rfl, rfl⟩ ?_
    refine s_val (r_assign rfl) ?_
    refine s_val (r_assign rfl) ?_
    refine c_nil (l' := [_, _, _, _, _, _, _, _, _, _, _, _, _, _, _, _, _, _, _, _, _, _, _, _, _, _, _, _, _, _, _, _, _, _, _, _, _, _, _, _, _, _, _, _, _, _, _, _, _, _, _, _, _]) rfl ?_
    refine wp_ret (x_thenRet ?_)
    refine eM_ret (res2 rfl rfl rfl) ⟨_, rfl, ?_⟩
    exact .inr ⟨not_okB (fun h => by have := h.1; omega), rfl, H⟩
  · skip
    obtain ⟨bb, off, pre, post, T, fz, rfl, hb, hp⟩ := hr (by omega)
    have hl2 : ((bs.drop 0).take 2).length = 2 := by rw [List.length_take, List.drop_zero]; omega
    have hq0 := bt_lt bs 0
    have hq1 := bt_lt bs 1
    refine wp_skip ?_
    refine x_thenNormal ?_
    refine c_rseq (n := 53) ⟨rfl, rfl⟩ ?_
    refine s_val (r_move rfl) ?_
    refine s_val (r_sliceHe (hi := 2) Tryd.runUnderlying24 Tryd.sizeOf5 rfl rfl rfl (by omega) cutA_zero hl2.symm) ?_
    refine s_call (r_call Tryd.call27 (ec rfl en)) (get_spec _ _ ((bs.drop 0).take 2) (by omega) (by omega) _ ((hr.part 0 2 (by omega) (by omega)).st H)) ?_
    rintro v w ⟨rfl, HC⟩
    replace H := H.quiet HC
    rw [List.drop_zero, getN2 (by omega)]
    refine s_val (r_move rfl) ?_
    refine s_val (r_extract rfl rfl) ?_
    refine s_val (r_extract rfl rfl) ?_
    refine s_val (r_assign rfl) ?_
    refine s_val (r_assign rfl) ?_
    refine c_nil (l' := [_, _, _, _, _, _, _, _, _, _, _, _, _, _, _, _, _, _, _, _, _, _, _, _, _, _, _, _, _, _, _, _, _, _, _, _, _, _, _, _, _, _, _, _, _, _, _, _, _, _, _, _, _]) rfl ?_
    refine c_seq ?_
    refine c_rseq (n := 53) ⟨rfl, rfl⟩ ?_
    refine s_val (r_move rfl) ?_
    refine s_val (r_lens Tryd.runUnderlying24 (ec rfl en)) ?_
    refine s_val (r_move rfl) ?_
    refine s_val (r_conv Tryd.runUnderlying38 Tryd.runUnderlying3 rfl (w_i64 (by omega) (by omega))) ?_
    refine s_val (r_mul rfl rfl (w_i64 (by omega) (by omega))) ?_
    refine s_val (r_add rfl rfl (w_i64 (by omega) (by omega))) ?_
    refine s_val (r_neq rfl rfl) ?_
    refine c_nil (l' := [_, _, _, _, _, _, _, _, _, _, _, _, _, _, _, _, _, _, _, _, _, _, _, _, _, _, _, _, _, _, _, _, _, _, _, _, _, _, _, _, _, _, _, _, _, _, _, _, _, _, _, _, _]) rfl ?_
    refine c_if rfl (fun h25 => ?_) (fun h25 => ?_)
    · skip
      refine c_rseq (n := 53) ⟨rfl, rfl⟩ ?_
      refine s_val (r_assign rfl) ?_
      refine s_val (r_assign rfl) ?_
      refine c_nil (l' := [_, _, _, _, _, _, _, _, _, _, _, _, _, _, _, _, _, _, _, _, _, _, _, _, _, _, _, _, _, _, _, _, _, _, _, _, _, _, _, _, _, _, _, _, _, _, _, _, _, _, _, _, _]) rfl ?_
      refine wp_ret (x_thenRet ?_)
      refine eM_ret (res2 rfl rfl rfl) ⟨_, rfl, ?_⟩
      exact .inr ⟨not_okB (fun h => h25 (by have := h.2; omega)), rfl, H⟩
    · skip
      have hS : Shape bs := ⟨by omega, by omega⟩
      obtain ⟨m, hm⟩ : ∃ m : Nat, bs.length = 2 + 36 * m := ⟨(bs.length - 2) / 36, by have := hS.2; omega⟩
      refine wp_skip ?_
      refine x_thenNormal ?_
      refine c_rseq (n := 53) ⟨rfl, rfl⟩ ?_
      refine s_new (m_alloc (cs := [.slice none 0 0]) H Tryd.zeroValue22 rfl) ?_
      intro w b6 H
      refine c_nil (l' := [_, _, _, _, _, _, _, _, _, _, _, _, _, _, _, _, _, _, _, _, _, _, _, _, _, _, _, _, _, _, _, _, _, _, _, _, _, _, _, _, _, _, _, _, _, _, _, _, _, _, _, _, _]) rfl ?_
      refine c_seq ?_
      refine c_rseq (n := 53) ⟨rfl, rfl⟩ ?_
      refine s_val (r_move rfl) ?_
      refine s_val (r_sliceLe (lo := 2) (n' := 36 * m) Tryd.runUnderlying24 Tryd.sizeOf5 rfl rfl rfl (by omega) rfl (by omega) rfl) ?_
      refine s_call (r_call Tryd.call28 (ec rfl (ec rfl en))) (chunk_spec _ _ _ _) ?_
      rintro v w ⟨c2, c3, rfl, HC⟩
      replace H := H.call0 HC
      refine c_nil (l' := [_, _, _, _, _, _, _, _, _, _, _, _, _, _, _, _, _, _, _, _, _, _, _, _, _, _, _, _, _, _, _, _, _, _, _, _, _, _, _, _, _, _, _, _, _, _, _, _, _, _, _, _, _]) rfl ?_
      refine wp_block ?_
      refine c_range H rfl Tryd.call42 ?_
      intro fnr w bl H
      skip
      refine Calls.mono (chunk1_spec (bl + 1) fnr bl c2 c3 m (cap - 2) _ _ _ _ _ [] (fun k N => ∃ a2 cap2 N2, RowN 34 55 (hsC (decNs bs k)) k a2 cap2 N2 ∧ N = (b6, .cells [.slice a2 k cap2].toArray 22 (0, 0)) :: N2) _ _ (by omega) (by omega) w0 H ⟨none, 0, [], RowN.nil, rfl⟩ ?_) ?_
      · skip
        rintro k _ w hk ⟨a2, cap2, N, hN, rfl⟩ H
        have ek : cutA (cutA (some ⟨bb, off, none⟩) 1 cap 2) 1 (36 * k + 36) (36 * k) = some ⟨bb, off + 2 + 36 * k, none⟩ := by rw [cutA_at (o := off + 2) (by omega) (by omega), cutA_at (o := off + 2 + 36 * k) (by omega) (by omega)]
        have e36 : 36 * k + 36 - 36 * k = 36 := by omega
        rw [ek, e36]
        have hl3 : ((bs.drop (2 + 36 * k + 1)).take 3).length = 3 := by rw [List.length_take, List.length_drop]; omega
        refine round_out (pre := [_, _, _]) (c_round1 (args := [.slice (some ⟨bb, off + 2 + 36 * k, none⟩) 36 36]) 7 (.slice (some ⟨bb, off + 2 + 36 * k, none⟩) 36 36) H rfl (l1 := [_, _, _, _, _, _, _, _, _, _, _, _, _, _, _, _, _, _, _, _, _, _, _, _, _, _, _, _, _, _, _, _, _, _, _, _, _, _, _, _, _, _, _, _, _, _, _, _, _, _, _, _, _]) rfl (l2 := [_, _, _, _, _, _, _, _, _, _, _, _, _, _, _, _, _, _, _, _, _, _, _, _, _, _, _, _, _, _, _, _, _, _, _, _, _, _, _, _, _, _, _, _, _, _, _, _, _, _, _, _, _]) rfl ?_ ?_)
        · skip
          intro K hK
          refine in_region (lets_round _) (n := 53) ⟨rfl, rfl⟩ rfl ?_
          refine s_val (r_assign rfl) ?_
          refine in_nil (l' := [_, _, _, _, _, _, _, _, _, _, _, _, _, _, _, _, _, _, _, _, _, _, _, _, _, _, _, _, _, _, _, _, _, _, _, _, _, _, _, _, _, _, _, _, _, _, _, _, _, _, _, _, _]) rfl ?_
          exact hK
        · skip
          intro w H
          refine wpIn_block ?_
          refine wpIn_seq ?_
          refine in_region (lets_round _) (n := 53) ⟨rfl, rfl⟩ rfl ?_
          refine s_val (r_move rfl) ?_
          refine s_val (r_sliceLHe (lo := 1) (hi := 4) (a' := some ⟨bb, off + 2 + 36 * k + 1, none⟩) Tryd.runUnderlying24 Tryd.sizeOf5 rfl rfl rfl rfl rfl (by omega) (by omega) (cutA_at (by omega) (by omega)) hl3.symm rfl) ?_
          refine s_call (r_call Tryd.call27 (ec rfl en)) (get_spec _ _ ((bs.drop (2 + 36 * k + 1)).take 3) (by omega) (by omega) _ ((hr.part (2 + 36 * k + 1) 3 (o := off + 2 + 36 * k + 1) (by omega) (by omega)).st H)) ?_
          rintro v w ⟨rfl, HC⟩
          replace H := H.quiet HC
          rw [getN3 (by omega)]
          refine s_val (r_move rfl) ?_
          refine s_val (r_extract rfl rfl) ?_
          refine s_val (r_extract rfl rfl) ?_
          refine s_val (r_assign rfl) ?_
          refine s_val (r_assign rfl) ?_
          refine in_nil (l' := [_, _, _, _, _, _, _, _, _, _, _, _, _, _, _, _, _, _, _, _, _, _, _, _, _, _, _, _, _, _, _, _, _, _, _, _, _, _, _, _, _, _, _, _, _, _, _, _, _, _, _, _, _]) rfl ?_
          refine x_thenNormal ?_
          refine in_draw (lets_round _) (sz := 53) ⟨rfl, rfl⟩ (by kernel_rfl) rfl H (H.sub (.cons_cons _ (.cons_cons _ (.cons_cons _ (.cons_cons _ (.cons _ (List.nil_sublist _))))))) rfl ?_
          intro w H
          refine d_take (i := 1) rfl (by kernel_rfl) (fun _ _ _ h => h) (H.sub (.cons_cons _ (.cons_cons _ (.cons_cons _ (.cons_cons _ (.cons _ (List.nil_sublist _))))))) (fun _ _ => r_move rfl) rfl ?_
          refine d_take (i := 2) rfl (by kernel_rfl) (fun _ _ _ h => h) (H.sub (.cons_cons _ (.cons_cons _ (.cons_cons _ (.cons_cons _ (.cons _ (List.nil_sublist _))))))) (fun _ _ => r_indexAddrS Tryd.runUnderlying24 Tryd.sizeOf5 rfl rfl (by omega) (by omega)) rfl ?_
          refine d_take (i := 3) rfl (by kernel_rfl) (fun _ _ _ h => h) (H.sub (.cons_cons _ (.cons_cons _ (.cons_cons _ (.cons_cons _ (.cons _ (List.nil_sublist _))))))) (fun _ HS => r_load1 Tryd.isAgg5 rfl (HS.rd0 hb) (bs_getE _ bs _ (2 + 36 * k) hp (by omega) (by omega))) rfl ?_
          have hqk : 0 ≤ ((bs.getD (2 + 36 * k) 0).toNat : Int) ∧ ((bs.getD (2 + 36 * k) 0).toNat : Int) < 256 := bt_lt bs _
          refine d_take (i := 4) rfl (by kernel_rfl) (fun _ _ _ h => h) (H.sub (.cons_cons _ (.cons_cons _ (.cons_cons _ (.cons_cons _ (.cons _ (List.nil_sublist _))))))) (fun _ _ => r_conv Tryd.runUnderlying5 Tryd.runUnderlying3 rfl (w_i64 (by omega) (by omega))) rfl ?_
          refine d_take (i := 5) rfl (by kernel_rfl) (fun _ _ _ h => h) (H.sub (.cons_cons _ (.cons_cons _ (.cons_cons _ (.cons_cons _ (.cons _ (List.nil_sublist _))))))) (fun _ _ => r_move rfl) rfl ?_
          refine d_take (i := 6) rfl (by kernel_rfl) (fun _ _ _ h => h) (H.sub (.cons_cons _ (.cons_cons _ (.cons_cons _ (.cons_cons _ (.cons _ (List.nil_sublist _))))))) (fun _ _ => r_move rfl) rfl ?_
          refine d_take (i := 7) rfl (by kernel_rfl) (fun _ _ _ h => h) (H.sub (.cons_cons _ (.cons_cons _ (.cons_cons _ (.cons_cons _ (.cons _ (List.nil_sublist _))))))) (fun _ _ => r_sliceLe (lo := 4) (a' := some ⟨bb, off + 2 + 36 * k + 4, none⟩) Tryd.runUnderlying24 Tryd.sizeOf5 rfl rfl rfl (by omega) (cutA_at (by omega) (by omega)) rfl rfl) rfl ?_
          refine d_take (i := 8) rfl (by kernel_rfl) (fun _ _ _ h => h) (H.sub (.cons_cons _ (.cons_cons _ (.cons_cons _ (.cons_cons _ (.cons _ (List.nil_sublist _))))))) (fun _ _ => r_arrayAt Tryd.runUnderlying43 rfl (by omega)) rfl ?_
          refine d_take (i := 9) rfl (by kernel_rfl) (fun _ _ _ h => h) (H.sub (.cons_cons _ (.cons_cons _ (.cons_cons _ (.cons_cons _ (.cons _ (List.nil_sublist _))))))) (fun _ HS => r_loadn Tryd.isAgg43 Tryd.sizeOf43 rfl (HS.rd0 hb) (bs_seed _ bs _ (2 + 36 * k + 4) hp (by omega) (by omega)) (by first | exact (kC_length _) | exact (hC_length _) | exact rfl)) rfl ?_
          refine d_take (i := 10) rfl (by kernel_rfl) (fun _ _ _ h => h) (H.sub (.cons_cons _ (.cons_cons _ (.cons_cons _ (.cons_cons _ (.cons _ (List.nil_sublist _))))))) (fun _ _ => r_buildS Tryd.runUnderlying55 Tryd.zeroValue55 places55 (pc rfl (pc rfl (pc rfl pn))) (by first | exact (hfill _ _ _) | exact (hfill1 _) | exact (hfill2 _ _))) rfl ?_
          refine d_all2 (i := 0) (j := 11) (by kernel_rfl) ?_ ?_
          · skip
            refine b_val rfl go_none (r_load1 Tryd.isAgg22 rfl (H.at 4 rfl) rfl) rfl (H.sub (.cons_cons _ (.cons_cons _ (.cons_cons _ (.cons_cons _ (.cons _ (List.nil_sublist _))))))) ?_
            refine d_all1 (i := 11) (by kernel_rfl) ?_
            refine b_new rfl go_none (m_bslice1 H Tryd.runUnderlying22 Tryd.sizeOf55 Tryd.zeroValue55 (by omega) (by omega) rfl rfl (hC_length _)) rfl (fun _ _ H => (H.sub (.cons _ (.cons_cons _ (.cons_cons _ (.cons_cons _ (.cons_cons _ (.cons _ (List.nil_sublist _))))))))) ?_
            intro w b47 H
            refine d_all1 (i := 12) (by kernel_rfl) ?_
            refine b_any rfl go_none (m_append_row (L1 := [_, _, _, _, _, _]) (N := N) H hN Tryd.runUnderlying22 Tryd.runUnderlying22 (fun _ h => nomatch h) Tryd.sizeOf55 Tryd.zeroValue55 rfl Tryd.typeInfo55 (by rw [bytes55]; omega) (by omega) (by rw [bytes55]; omega) (ec rfl (ec rfl en)) (Src.slice (vs := hC (decN bs (2 + 36 * k))) (H.at 0 rfl) (hC_td _) (hC_length _) (hC_one _))) rfl (by rintro v w ⟨a3, cap3, N3, rfl, hN3, H⟩; exact (H.sub (.cons _ (.cons_cons _ (.cons_cons _ (.cons_cons _ (.cons_cons _ (.cons _ (List.nil_sublist _))))))))) ?_
            rintro v w ⟨a3, cap3, N3, rfl, hN3, H⟩
            skip
            refine d_all1 (i := 13) (by kernel_rfl) ?_
            refine b_st rfl go_none (m_store1 H 5 Tryd.sizeOf22 rfl rfl rfl rfl (by first | exact (by rw [kC_length]; omega) | exact (by rw [hC_length]; omega) | exact (by simp)) rfl) (L' := (_ :: _ :: _ :: _ :: _ :: _ :: _)) rfl rfl (fun _ H => (H.sub (.cons _ (.cons_cons _ (.cons_cons _ (.cons_cons _ (.cons_cons _ (.cons _ (List.nil_sublist _))))))))) ?_
            intro w H
            refine in_done (l' := [_, _, _, _, _, _, _, _, _, _, _, _, _, _, _, _, _, _, _, _, _, _, _, _, _, _, _, _, _, _, _, _, _, _, _, _, _, _, _, _, _, _, _, _, _, _, _, _, _, _, _, _, _]) (by kernel_rfl) rfl ?_
            refine x_blockNormal ?_
            replace H := H.sub (.cons _ (.cons_cons _ (.cons_cons _ (.cons_cons _ (.cons_cons _ (.cons_cons _ (List.Sublist.refl _)))))))
            exact ⟨rfl, _, H, fun _ _ => ⟨_, rfl, _, _, _, (by rw [decNs_succ, hsC_append, hsC_one1]; exact hN3), rfl⟩⟩
          · skip
            refine b_new rfl go_none (m_bslice1 H Tryd.runUnderlying22 Tryd.sizeOf55 Tryd.zeroValue55 (by omega) (by omega) rfl rfl (hC_length _)) rfl (fun _ _ H => (H.sub (.cons _ (.cons_cons _ (.cons_cons _ (.cons_cons _ (.cons_cons _ (.cons _ (List.nil_sublist _))))))))) ?_
            intro w b47 H
            refine d_all1 (i := 0) (by kernel_rfl) ?_
            refine b_val rfl go_none (r_load1 Tryd.isAgg22 rfl (H.at 5 rfl) rfl) rfl (H.sub (.cons _ (.cons_cons _ (.cons_cons _ (.cons_cons _ (.cons_cons _ (.cons _ (List.nil_sublist _)))))))) ?_
            refine d_all1 (i := 12) (by kernel_rfl) ?_
            refine b_any rfl go_none (m_append_row (L1 := [_, _, _, _, _, _]) (N := N) H hN Tryd.runUnderlying22 Tryd.runUnderlying22 (fun _ h => nomatch h) Tryd.sizeOf55 Tryd.zeroValue55 rfl Tryd.typeInfo55 (by rw [bytes55]; omega) (by omega) (by rw [bytes55]; omega) (ec rfl (ec rfl en)) (Src.slice (vs := hC (decN bs (2 + 36 * k))) (H.at 0 rfl) (hC_td _) (hC_length _) (hC_one _))) rfl (by rintro v w ⟨a3, cap3, N3, rfl, hN3, H⟩; exact (H.sub (.cons _ (.cons_cons _ (.cons_cons _ (.cons_cons _ (.cons_cons _ (.cons _ (List.nil_sublist _))))))))) ?_
            rintro v w ⟨a3, cap3, N3, rfl, hN3, H⟩
            skip
            refine d_all1 (i := 13) (by kernel_rfl) ?_
            refine b_st rfl go_none (m_store1 H 5 Tryd.sizeOf22 rfl rfl rfl rfl (by first | exact (by rw [kC_length]; omega) | exact (by rw [hC_length]; omega) | exact (by simp)) rfl) (L' := (_ :: _ :: _ :: _ :: _ :: _ :: _)) rfl rfl (fun _ H => (H.sub (.cons _ (.cons_cons _ (.cons_cons _ (.cons_cons _ (.cons_cons _ (.cons _ (List.nil_sublist _))))))))) ?_
            intro w H
            refine in_done (l' := [_, _, _, _, _, _, _, _, _, _, _, _, _, _, _, _, _, _, _, _, _, _, _, _, _, _, _, _, _, _, _, _, _, _, _, _, _, _, _, _, _, _, _, _, _, _, _, _, _, _, _, _, _]) (by kernel_rfl) rfl ?_
            refine x_blockNormal ?_
            replace H := H.sub (.cons _ (.cons_cons _ (.cons_cons _ (.cons_cons _ (.cons_cons _ (.cons_cons _ (List.Sublist.refl _)))))))
            exact ⟨rfl, _, H, fun _ _ => ⟨_, rfl, _, _, _, (by rw [decNs_succ, hsC_append, hsC_one1]; exact hN3), rfl⟩⟩
      · skip
        rintro e w ⟨v, rfl, rfl, _, ⟨a2, cap2, N, hN, rfl⟩, H⟩
        obtain ⟨xs, hxs⟩ : ∃ xs, decNs bs m = xs := ⟨_, rfl⟩
        have hlen := decNs_length bs m
        have hinr := decNs_inR bs m
        rw [hxs] at hN hlen hinr
        subst hlen
        refine ⟨_, rfl, _, H, ?_⟩
        intro w H
        refine x_blockNormal ?_
        refine x_thenNormal ?_
        refine cD_seq ?_
        refine cD_seq ?_
        refine cD_region (n := 53) ⟨rfl, rfl⟩ rfl ?_
        refine s_val (r_load1 Tryd.isAgg22 rfl (H.at 4 rfl) rfl) ?_
        refine s_call (r_call Tryd.call24 (ec rfl en)) (may_spec _ _ xs (by omega) hinr _ (hN.hrow (L := [_, _, _, _, _]) H) (hT.st H)) ?_
        rintro v w ⟨rfl, HC⟩
        replace H := H.quiet HC
        refine s_val (r_notp rfl) ?_
        refine in_nil (l' := [_, _, _, _, _, _, _, _, _, _, _, _, _, _, _, _, _, _, _, _, _, _, _, _, _, _, _, _, _, _, _, _, _, _, _, _, _, _, _, _, _, _, _, _, _, _, _, _, _, _, _, _, _]) rfl ?_
        refine x_thenNormal ?_
        refine cD_if rfl (fun h51 => ?_) (fun h51 => ?_)
        · skip
          refine cD_seq ?_
          refine cD_region (n := 53) ⟨rfl, rfl⟩ rfl ?_
          refine s_val (r_assign rfl) ?_
          refine s_val (r_assign rfl) ?_
          refine in_nil (l' := [_, _, _, _, _, _, _, _, _, _, _, _, _, _, _, _, _, _, _, _, _, _, _, _, _, _, _, _, _, _, _, _, _, _, _, _, _, _, _, _, _, _, _, _, _, _, _, _, _, _, _, _, _]) rfl ?_
          refine x_thenNormal ?_
          refine wp_ret (x_thenRet ?_)
          refine eM_retD (k := 1) H rfl (fun w H => ⟨(res2 rfl rfl rfl), ⟨_, rfl, ?_⟩⟩)
          replace H := H.sub (List.nil_sublist _)
          exact .inr ⟨not_okB' hm (by rw [hxs]; exact h51), rfl, H⟩
        · skip
          refine wp_skip ?_
          refine x_thenNormal ?_
          refine cD_seq ?_
          refine cD_region (n := 53) ⟨rfl, rfl⟩ rfl ?_
          refine s_val (r_load1 Tryd.isAgg22 rfl (H.at 4 rfl) rfl) ?_
          refine s_val (r_assign rfl) ?_
          refine s_val (r_assign rfl) ?_
          refine in_nil (l' := [_, _, _, _, _, _, _, _, _, _, _, _, _, _, _, _, _, _, _, _, _, _, _, _, _, _, _, _, _, _, _, _, _, _, _, _, _, _, _, _, _, _, _, _, _, _, _, _, _, _, _, _, _]) rfl ?_
          refine x_thenNormal ?_
          refine wp_ret ?_
          refine eM_retD (k := 1) H rfl (fun w H => ⟨(res2 rfl rfl rfl), ⟨_, rfl, ?_⟩⟩)
          exact .inl ⟨_, hS, hm, by rw [hxs]; exact Decidable.not_not.1 h51, _, _, _, rfl, by rw [hxs]; exact hN, H.sub (.cons _ (.cons _ (.cons _ (.cons _ (.cons _ (List.Sublist.refl _))))))⟩

end Go.Proofs.YtblphhclfloodaaDoor
