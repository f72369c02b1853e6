import Derived.Test.YtihpeihlpgompaaPY0
namespace Go.Proofs.Ytihpeihlpgompaa
open Go Go.Er

set_option maxHeartbeats 4000000 in
theorem sift_specr (b n cap : Nat) (ys : List FrL) (sp : List Value) (a lo hi : Nat) (hnl : n = ys.length) (he : a + hi ≤ ys.length) (hl : ys.length ≤ 1000000) (hlo : lo ≤ 1000000) (hh : Hp fr0 frK a (lo + 1) hi ys) (w0 : World) (hown : Go.Er.Own w0 [(b, .cells (rowC frC ys ++ sp).toArray 42 (0, 0))]) :
  Calls Try.prog 48 #[.slice (some ⟨b, 0, none⟩) n cap, .int .i64 (lo : Nat), .int .i64 (hi : Nat), .int .i64 (a : Nat), .func (.func 15) #[] #[]] w0 fun e w => ∃ v, e = .returned v ∧ (v = .tuple #[] ∧ ∃ zs, Sw fr0 a (a + hi) ys zs ∧ Hp fr0 frK a lo hi zs ∧ St w0 [b] w [(b, .cells (rowC frC zs ++ sp).toArray 42 (0, 0))]) := by
 have H : St w0 [b] w0 [(b, .cells (rowC frC ys ++ sp).toArray 42 (0, 0))] := hown.st
 refine c_enter (args := [.slice (some ⟨b, 0, none⟩) n cap, .int .i64 (lo : Nat), .int .i64 (hi : Nat), .int .i64 (a : Nat), .func (.func 15) #[] #[]]) (l := [.slice (some ⟨b, 0, none⟩) n cap, .int .i64 (lo : Nat), .int .i64 (hi : Nat), .int .i64 (a : Nat), .func (.func 15) #[] #[], undef, undef, undef, undef, undef, undef, undef, undef, undef, undef, undef, undef, undef, undef, undef, undef, undef, undef, undef, undef, undef, undef, undef, undef, undef, undef, undef, undef, undef, undef, undef, undef, undef, undef, undef, undef, undef, undef, undef, undef, undef, undef, undef, undef, undef, undef, undef, undef, undef, undef, undef, undef, undef, undef, undef, undef, undef, undef, undef, undef, undef, undef, undef, undef, undef, undef, undef, undef, undef, undef, undef, undef, undef, undef, undef, undef, undef]) Try.func48 Try.ntmps48 rfl rfl ?_
 refine c_rseq (n := 82) ⟨rfl, rfl⟩ ?_
 refine s_val (r_move rfl) ?_
 refine s_val (r_assign rfl) ?_
 refine c_nil (l' := [_,_,_,_,_,_,_,_,_,_,_,_,_,_,_,_,_,_,_,_,_,_,_,_,_,_,_,_,_,_,_,_,_,_,_,_,_,_,_,_,_,_,_,_,_,_,_,_,_,_,_,_,_,_,_,_,_,_,_,_,_,_,_,_,_,_,_,_,_,_,_,_,_,_,_,_,_,_,_,_,_,_]) rfl ?_
 refine wp_block ?_
 refine c_loop (fun (l0 : List Value) (r : Nat) (l : List Value) (w : World) => ∃ (u11 u13 u14 u15 u16 u17 u18 u19 u20 u21 u22 u23 u24 u25 u26 u27 u28 u29 u30 u31 u32 u33 u34 u35 u36 u37 u38 u39 u40 u41 u42 u43 u44 u45 u46 u47 u48 u49 u50 u51 u52 u53 u54 u55 u56 u57 u58 u59 u60 u61 u62 u63 u64 u65 u66 u67 u68 u69 u70 u71 u72 u73 u74 u75 u76 u77 u78 u79 u80 u81 : Value) (zs : List FrL), l = ovr l0 [N_, N_, N_, N_, N_, N_, N_, N_, N_, N_, Y_ (.int .i64 (r : Nat)), Y_ u11, N_, Y_ u13, Y_ u14, Y_ u15, Y_ u16, Y_ u17, Y_ u18, Y_ u19, Y_ u20, Y_ u21, Y_ u22, Y_ u23, Y_ u24, Y_ u25, Y_ u26, Y_ u27, Y_ u28, Y_ u29, Y_ u30, Y_ u31, Y_ u32, Y_ u33, Y_ u34, Y_ u35, Y_ u36, Y_ u37, Y_ u38, Y_ u39, Y_ u40, Y_ u41, Y_ u42, Y_ u43, Y_ u44, Y_ u45, Y_ u46, Y_ u47, Y_ u48, Y_ u49, Y_ u50, Y_ u51, Y_ u52, Y_ u53, Y_ u54, Y_ u55, Y_ u56, Y_ u57, Y_ u58, Y_ u59, Y_ u60, Y_ u61, Y_ u62, Y_ u63, Y_ u64, Y_ u65, Y_ u66, Y_ u67, Y_ u68, Y_ u69, Y_ u70, Y_ u71, Y_ u72, Y_ u73, Y_ u74, Y_ u75, Y_ u76, Y_ u77, Y_ u78, Y_ u79, Y_ u80, Y_ u81] ∧ Sw fr0 a (a + hi) ys zs ∧ HpX fr0 frK a lo hi r zs ∧ (r ≤ lo ∨ r < hi) ∧ St w0 [b] w [(b, .cells (rowC frC zs ++ sp).toArray 42 (0, 0))]) (fun (r : Nat) => hi - r) lo ⟨_,_,_,_,_,_,_,_,_,_,_,_,_,_,_,_,_,_,_,_,_,_,_,_,_,_,_,_,_,_,_,_,_,_,_,_,_,_,_,_,_,_,_,_,_,_,_,_,_,_,_,_,_,_,_,_,_,_,_,_,_,_,_,_,_,_,_,_,_,_, ys, rfl, .refl, hh.start, (.inl (Nat.le_refl _)), H⟩ ?_
 intro r l w ⟨u11, u13, u14, u15, u16, u17, u18, u19, u20, u21, u22, u23, u24, u25, u26, u27, u28, u29, u30, u31, u32, u33, u34, u35, u36, u37, u38, u39, u40, u41, u42, u43, u44, u45, u46, u47, u48, u49, u50, u51, u52, u53, u54, u55, u56, u57, u58, u59, u60, u61, u62, u63, u64, u65, u66, u67, u68, u69, u70, u71, u72, u73, u74, u75, u76, u77, u78, u79, u80, u81, zs, hl, hsw, hx, hrb, H⟩
 obtain rfl := hl.trans (rfl : _ = [_,_,_,_,_,_,_,_,_,_,_,_,_,_,_,_,_,_,_,_,_,_,_,_,_,_,_,_,_,_,_,_,_,_,_,_,_,_,_,_,_,_,_,_,_,_,_,_,_,_,_,_,_,_,_,_,_,_,_,_,_,_,_,_,_,_,_,_,_,_,_,_,_,_,_,_,_,_,_,_,_,_])
 clear hl
 have hlen := hsw.length
 refine wp_block ?_
 refine c_rseq (n := 82) ⟨rfl, rfl⟩ ?_
 refine s_val (r_move rfl) ?_
 refine s_val (r_mul rfl rfl (w_i64e (r := ((2 * r : Nat) : Int)) (by omega) (by omega) (by omega))) ?_
 refine s_val (r_add rfl rfl (w_i64e (r := ((2 * r + 1 : Nat) : Int)) (by omega) (by omega) (by omega))) ?_
 refine s_val (r_assign rfl) ?_
 refine c_nil (l' := [_,_,_,_,_,_,_,_,_,_,_,_,_,_,_,_,_,_,_,_,_,_,_,_,_,_,_,_,_,_,_,_,_,_,_,_,_,_,_,_,_,_,_,_,_,_,_,_,_,_,_,_,_,_,_,_,_,_,_,_,_,_,_,_,_,_,_,_,_,_,_,_,_,_,_,_,_,_,_,_,_,_]) rfl ?_
 refine c_seq ?_
 refine c_rseq (n := 82) ⟨rfl, rfl⟩ ?_
 refine s_val (r_move rfl) ?_
 refine s_val (r_move rfl) ?_
 refine s_val (r_geq rfl rfl) ?_
 refine c_nil (l' := [_,_,_,_,_,_,_,_,_,_,_,_,_,_,_,_,_,_,_,_,_,_,_,_,_,_,_,_,_,_,_,_,_,_,_,_,_,_,_,_,_,_,_,_,_,_,_,_,_,_,_,_,_,_,_,_,_,_,_,_,_,_,_,_,_,_,_,_,_,_,_,_,_,_,_,_,_,_,_,_,_,_]) rfl ?_
 refine c_if rfl (fun h18 => ?_) (fun h18 => ?_)
 ·skip
  refine wp_exit (x_thenExit (x_blockMiss (by decide) (x_thenExit (x_blockHit ?_))))
  refine e_end (res0 rfl) ⟨_, rfl, ?_⟩
  exact ⟨rfl, zs, hsw, hx.leaf (by omega), H⟩
 ·skip
  refine wp_skip ?_
  refine x_thenNormal ?_
  refine c_cut (fun (l0 : List Value) (l : List Value) (w : World) => ∃ (u19 u20 u21 u22 u23 u24 u25 u26 u27 u28 u29 u30 u31 u32 u33 u34 u35 u36 u37 u38 u39 u40 u41 u42 : Value) (ch : Nat), l = ovr l0 [N_, N_, N_, N_, N_, N_, N_, N_, N_, N_, N_, Y_ (.int .i64 (ch : Nat)), N_, N_, N_, N_, N_, N_, N_, Y_ u19, Y_ u20, Y_ u21, Y_ u22, Y_ u23, Y_ u24, Y_ u25, Y_ u26, Y_ u27, Y_ u28, Y_ u29, Y_ u30, Y_ u31, Y_ u32, Y_ u33, Y_ u34, Y_ u35, Y_ u36, Y_ u37, Y_ u38, Y_ u39, Y_ u40, Y_ u41, Y_ u42] ∧ (ch = 2 * r + 1 ∨ ch = 2 * r + 2) ∧ ch < hi ∧ (∀ c, (c = 2 * r + 1 ∨ c = 2 * r + 2) → c < hi → kk fr0 frK zs (a + c) ≤ kk fr0 frK zs (a + ch)) ∧ St w0 [b] w [(b, .cells (rowC frC zs ++ sp).toArray 42 (0, 0))]) ?_ ?_
  ·skip
   refine c_seq ?_
   refine d_begin (sz := 82) ⟨rfl, rfl⟩ (by kernel_rfl) H (H) rfl ?_
   intro w H
   refine d_take (i := 0) rfl (by kernel_rfl) (fun _ _ _ h => h) H (fun _ _ => r_move rfl) rfl ?_
   refine d_take (i := 1) rfl (by kernel_rfl) (fun _ _ _ h => h) H (fun _ _ => r_add rfl rfl (w_i64e (r := ((2 * r + 2 : Nat) : Int)) (by omega) (by omega) (by omega))) rfl ?_
   refine d_take (i := 2) rfl (by kernel_rfl) (fun _ _ _ h => h) H (fun _ _ => r_move rfl) rfl ?_
   refine d_take (i := 3) rfl (by kernel_rfl) (fun _ _ _ h => h) H (fun _ _ => r_lss rfl rfl) rfl ?_
   refine d_part (fun h22 => ?_) (fun h22 => ?_)
   ·skip
    refine d_take (i := 4) rfl (by kernel_rfl) (fun _ _ _ h => h) H (fun _ _ => r_move rfl) rfl ?_
    refine d_takeG (i := 5) rfl (by kernel_rfl) (fun _ _ _ h => h) rfl rfl H (fun _ _ => r_move rfl) rfl ?_
    refine d_takeG (i := 6) rfl (by kernel_rfl) (fun _ _ _ h => h) rfl rfl H (fun _ _ => r_move rfl) rfl ?_
    refine d_takeG (i := 7) rfl (by kernel_rfl) (fun _ _ _ h => h) rfl rfl H (fun _ _ => r_move rfl) rfl ?_
    refine d_takeG (i := 8) rfl (by kernel_rfl) (fun _ _ _ h => h) rfl rfl H (fun _ _ => r_move rfl) rfl ?_
    refine d_takeG (i := 9) rfl (by kernel_rfl) (fun _ _ _ h => h) rfl rfl H (fun _ _ => r_add rfl rfl (w_i64e (r := ((a + (2 * r + 1) : Nat) : Int)) (by omega) (by omega) (by omega))) rfl ?_
    refine d_takeG (i := 10) rfl (by kernel_rfl) (fun _ _ _ h => h) rfl rfl H (fun _ _ => r_indexAddrS Try.runUnderlying29 Try.sizeOf42 rfl rfl (by omega) (by omega)) rfl ?_
    refine d_takeG (i := 11) rfl (by kernel_rfl) (fun _ _ _ h => h) rfl rfl H (fun _ HS => r_loadn Try.isAgg42 Try.sizeOf42 rfl (HS.at 0 rfl) (rw_ld elFr fr0 zs sp (a + (2 * r + 1)) (by omega) (by omega)) (by first | exact (kC_length _) | exact (hC_length _) | exact (ceC_length _) | exact (ptC_length _ _ _ _) | exact (plV_length _ _ _) | exact (elFr.len _) | exact (frC_length _) | exact rfl)) rfl ?_
    refine d_takeG (i := 12) rfl (by kernel_rfl) (fun _ _ _ h => h) rfl rfl H (fun _ _ => r_move rfl) rfl ?_
    refine d_takeG (i := 13) rfl (by kernel_rfl) (fun _ _ _ h => h) rfl rfl H (fun _ _ => r_move rfl) rfl ?_
    refine d_takeG (i := 14) rfl (by kernel_rfl) (fun _ _ _ h => h) rfl rfl H (fun _ _ => r_move rfl) rfl ?_
    refine d_takeG (i := 15) rfl (by kernel_rfl) (fun _ _ _ h => h) rfl rfl H (fun _ _ => r_add rfl rfl (w_i64e (r := ((a + (2 * r + 1) : Nat) : Int)) (by omega) (by omega) (by omega))) rfl ?_
    refine d_takeG (i := 16) rfl (by kernel_rfl) (fun _ _ _ h => h) rfl rfl H (fun _ _ => r_add rfl rfl (w_i64e (r := ((a + (2 * r + 2) : Nat) : Int)) (by omega) (by omega) (by omega))) rfl ?_
    refine d_takeG (i := 17) rfl (by kernel_rfl) (fun _ _ _ h => h) rfl rfl H (fun _ _ => r_indexAddrS Try.runUnderlying29 Try.sizeOf42 rfl rfl (by omega) (by omega)) rfl ?_
    refine d_takeG (i := 18) rfl (by kernel_rfl) (fun _ _ _ h => h) rfl rfl H (fun _ HS => r_loadn Try.isAgg42 Try.sizeOf42 rfl (HS.at 0 rfl) (rw_ld elFr fr0 zs sp (a + (2 * r + 2)) (by omega) (by omega)) (by first | exact (kC_length _) | exact (hC_length _) | exact (ceC_length _) | exact (ptC_length _ _ _ _) | exact (plV_length _ _ _) | exact (elFr.len _) | exact (frC_length _) | exact rfl)) rfl ?_
    refine d_all1 (i := 19) (by kernel_rfl) ?_
    refine b_call rfl (go_some rfl rfl) (r_callv Try.call15 rfl (ec rfl (ec rfl en)) rfl) (rcmp_spec _ _ _) rfl ?_
    rintro v w ⟨rfl, HC⟩
    replace H := H.quiet HC
    refine ⟨H, ?_⟩
    refine d_takeG (i := 20) rfl (by kernel_rfl) (fun _ _ _ h => h) rfl rfl H (fun _ _ => r_lss rfl rfl) rfl ?_
    refine d_take (i := 21) rfl (by kernel_rfl) (fun _ _ _ h => h) H (fun _ _ => r_pickt rfl rfl) rfl ?_
    refine d_done (l' := [_,_,_,_,_,_,_,_,_,_,_,_,_,_,_,_,_,_,_,_,_,_,_,_,_,_,_,_,_,_,_,_,_,_,_,_,_,_,_,_,_,_,_,_,_,_,_,_,_,_,_,_,_,_,_,_,_,_,_,_,_,_,_,_,_,_,_,_,_,_,_,_,_,_,_,_,_,_,_,_,_,_]) (by kernel_rfl) rfl ?_
    refine x_thenNormal ?_
    refine c_if rfl (fun h40 => ?_) (fun h40 => ?_)
    ·skip
     have hcm40 := cmpI_neg.1 h40
     refine c_region (n := 82) ⟨rfl, rfl⟩ ?_
     refine s_val (r_move rfl) ?_
     refine s_val (r_add rfl rfl (w_i64e (r := ((2 * r + 2 : Nat) : Int)) (by omega) (by omega) (by omega))) ?_
     refine s_val (r_assign rfl) ?_
     refine c_nil0 (l' := [_,_,_,_,_,_,_,_,_,_,_,_,_,_,_,_,_,_,_,_,_,_,_,_,_,_,_,_,_,_,_,_,_,_,_,_,_,_,_,_,_,_,_,_,_,_,_,_,_,_,_,_,_,_,_,_,_,_,_,_,_,_,_,_,_,_,_,_,_,_,_,_,_,_,_,_,_,_,_,_,_,_]) rfl ?_
     exact ⟨_, rfl, ⟨_,_,_,_,_,_,_,_,_,_,_,_,_,_,_,_,_,_,_,_,_,_,_,_,_, rfl, (.inr rfl), by omega, (fun c h1 _ => by rcases h1 with rfl | rfl; exact Int.le_of_lt hcm40; exact Int.le_refl _), H⟩⟩
    ·skip
     have hcm40 := mt cmpI_neg.2 h40
     refine wp_skip ?_
     exact ⟨_, rfl, ⟨_,_,_,_,_,_,_,_,_,_,_,_,_,_,_,_,_,_,_,_,_,_,_,_,_, rfl, (.inl rfl), by omega, (fun c h1 _ => by rcases h1 with rfl | rfl; exact Int.le_refl _; exact Int.not_lt.1 hcm40), H⟩⟩
   ·skip
    refine d_take (i := 4) rfl (by kernel_rfl) (fun _ _ _ h => h) H (fun _ _ => r_move rfl) rfl ?_
    refine d_takeN (i := 5) rfl (by kernel_rfl) (fun _ _ _ h => h) rfl rfl (by decide) H rfl ?_
    refine d_takeN (i := 6) rfl (by kernel_rfl) (fun _ _ _ h => h) rfl rfl (by decide) H rfl ?_
    refine d_takeN (i := 7) rfl (by kernel_rfl) (fun _ _ _ h => h) rfl rfl (by decide) H rfl ?_
    refine d_takeN (i := 8) rfl (by kernel_rfl) (fun _ _ _ h => h) rfl rfl (by decide) H rfl ?_
    refine d_takeN (i := 9) rfl (by kernel_rfl) (fun _ _ _ h => h) rfl rfl (by decide) H rfl ?_
    refine d_takeN (i := 10) rfl (by kernel_rfl) (fun _ _ _ h => h) rfl rfl (by decide) H rfl ?_
    refine d_takeN (i := 11) rfl (by kernel_rfl) (fun _ _ _ h => h) rfl rfl (by decide) H rfl ?_
    refine d_takeN (i := 12) rfl (by kernel_rfl) (fun _ _ _ h => h) rfl rfl (by decide) H rfl ?_
    refine d_takeN (i := 13) rfl (by kernel_rfl) (fun _ _ _ h => h) rfl rfl (by decide) H rfl ?_
    refine d_takeN (i := 14) rfl (by kernel_rfl) (fun _ _ _ h => h) rfl rfl (by decide) H rfl ?_
    refine d_takeN (i := 15) rfl (by kernel_rfl) (fun _ _ _ h => h) rfl rfl (by decide) H rfl ?_
    refine d_takeN (i := 16) rfl (by kernel_rfl) (fun _ _ _ h => h) rfl rfl (by decide) H rfl ?_
    refine d_takeN (i := 17) rfl (by kernel_rfl) (fun _ _ _ h => h) rfl rfl (by decide) H rfl ?_
    refine d_takeN (i := 18) rfl (by kernel_rfl) (fun _ _ _ h => h) rfl rfl (by decide) H rfl ?_
    refine d_takeN (i := 19) rfl (by kernel_rfl) (fun _ _ _ h => h) rfl rfl (by decide) H rfl ?_
    refine d_takeN (i := 20) rfl (by kernel_rfl) (fun _ _ _ h => h) rfl rfl (by decide) H rfl ?_
    refine d_take (i := 21) rfl (by kernel_rfl) (fun _ _ _ h => h) H (fun _ _ => r_pickf rfl rfl) rfl ?_
    refine d_done (l' := [_,_,_,_,_,_,_,_,_,_,_,_,_,_,_,_,_,_,_,_,_,_,_,_,_,_,_,_,_,_,_,_,_,_,_,_,_,_,_,_,_,_,_,_,_,_,_,_,_,_,_,_,_,_,_,_,_,_,_,_,_,_,_,_,_,_,_,_,_,_,_,_,_,_,_,_,_,_,_,_,_,_]) (by kernel_rfl) rfl ?_
    refine x_thenNormal ?_
    refine c_iff rfl ?_
    refine wp_skip ?_
    exact ⟨_, rfl, ⟨_,_,_,_,_,_,_,_,_,_,_,_,_,_,_,_,_,_,_,_,_,_,_,_,_, rfl, (.inl rfl), by omega, (fun c h1 h2 => by rcases h1 with rfl | rfl; exact Int.le_refl _; omega), H⟩⟩
  ·skip
   rintro l w ⟨u19, u20, u21, u22, u23, u24, u25, u26, u27, u28, u29, u30, u31, u32, u33, u34, u35, u36, u37, u38, u39, u40, u41, u42, ch, hl, hch, hchi, hmx, H⟩
   obtain rfl := hl.trans (rfl : _ = [_,_,_,_,_,_,_,_,_,_,_,_,_,_,_,_,_,_,_,_,_,_,_,_,_,_,_,_,_,_,_,_,_,_,_,_,_,_,_,_,_,_,_,_,_,_,_,_,_,_,_,_,_,_,_,_,_,_,_,_,_,_,_,_,_,_,_,_,_,_,_,_,_,_,_,_,_,_,_,_,_,_])
   clear hl
   refine c_seq ?_
   refine c_seq ?_
   refine d_begin (sz := 82) ⟨rfl, rfl⟩ (by kernel_rfl) H (H) rfl ?_
   intro w H
   refine d_take (i := 0) rfl (by kernel_rfl) (fun _ _ _ h => h) H (fun _ _ => r_move rfl) rfl ?_
   refine d_take (i := 1) rfl (by kernel_rfl) (fun _ _ _ h => h) H (fun _ _ => r_move rfl) rfl ?_
   refine d_take (i := 2) rfl (by kernel_rfl) (fun _ _ _ h => h) H (fun _ _ => r_move rfl) rfl ?_
   refine d_take (i := 3) rfl (by kernel_rfl) (fun _ _ _ h => h) H (fun _ _ => r_move rfl) rfl ?_
   refine d_take (i := 4) rfl (by kernel_rfl) (fun _ _ _ h => h) H (fun _ _ => r_add rfl rfl (w_i64e (r := ((a + r : Nat) : Int)) (by omega) (by omega) (by omega))) rfl ?_
   refine d_take (i := 5) rfl (by kernel_rfl) (fun _ _ _ h => h) H (fun _ _ => r_indexAddrS Try.runUnderlying29 Try.sizeOf42 rfl rfl (by omega) (by omega)) rfl ?_
   refine d_take (i := 6) rfl (by kernel_rfl) (fun _ _ _ h => h) H (fun _ HS => r_loadn Try.isAgg42 Try.sizeOf42 rfl (HS.at 0 rfl) (rw_ld elFr fr0 zs sp (a + r) (by omega) (by omega)) (by first | exact (kC_length _) | exact (hC_length _) | exact (ceC_length _) | exact (ptC_length _ _ _ _) | exact (plV_length _ _ _) | exact (elFr.len _) | exact (frC_length _) | exact rfl)) rfl ?_
   refine d_take (i := 7) rfl (by kernel_rfl) (fun _ _ _ h => h) H (fun _ _ => r_move rfl) rfl ?_
   refine d_take (i := 8) rfl (by kernel_rfl) (fun _ _ _ h => h) H (fun _ _ => r_move rfl) rfl ?_
   refine d_take (i := 9) rfl (by kernel_rfl) (fun _ _ _ h => h) H (fun _ _ => r_move rfl) rfl ?_
   refine d_take (i := 10) rfl (by kernel_rfl) (fun _ _ _ h => h) H (fun _ _ => r_add rfl rfl (w_i64e (r := ((a + ch : Nat) : Int)) (by omega) (by omega) (by omega))) rfl ?_
   refine d_take (i := 11) rfl (by kernel_rfl) (fun _ _ _ h => h) H (fun _ _ => r_indexAddrS Try.runUnderlying29 Try.sizeOf42 rfl rfl (by omega) (by omega)) rfl ?_
   refine d_take (i := 12) rfl (by kernel_rfl) (fun _ _ _ h => h) H (fun _ HS => r_loadn Try.isAgg42 Try.sizeOf42 rfl (HS.at 0 rfl) (rw_ld elFr fr0 zs sp (a + ch) (by omega) (by omega)) (by first | exact (kC_length _) | exact (hC_length _) | exact (ceC_length _) | exact (ptC_length _ _ _ _) | exact (plV_length _ _ _) | exact (elFr.len _) | exact (frC_length _) | exact rfl)) rfl ?_
   refine d_all1 (i := 13) (by kernel_rfl) ?_
   refine b_call rfl go_none (r_callv Try.call15 rfl (ec rfl (ec rfl en)) rfl) (rcmp_spec _ _ _) rfl ?_
   rintro v w ⟨rfl, HC⟩
   replace H := H.quiet HC
   refine ⟨H, ?_⟩
   refine d_take (i := 14) rfl (by kernel_rfl) (fun _ _ _ h => h) H (fun _ _ => r_lss rfl rfl) rfl ?_
   refine d_take (i := 15) rfl (by kernel_rfl) (fun _ _ _ h => h) H (fun _ _ => r_notp rfl) rfl ?_
   refine d_done (l' := [_,_,_,_,_,_,_,_,_,_,_,_,_,_,_,_,_,_,_,_,_,_,_,_,_,_,_,_,_,_,_,_,_,_,_,_,_,_,_,_,_,_,_,_,_,_,_,_,_,_,_,_,_,_,_,_,_,_,_,_,_,_,_,_,_,_,_,_,_,_,_,_,_,_,_,_,_,_,_,_,_,_]) (by kernel_rfl) rfl ?_
   refine x_thenNormal ?_
   refine c_if rfl (fun h58 => ?_) (fun h58 => ?_)
   ·skip
    have hcm58 := mt cmpI_neg.2 h58
    refine wp_ret (x_thenRet (x_blockRet (x_thenRet (x_blockRet ?_))))
    refine e_ret (res0 rfl) ⟨_, rfl, ?_⟩
    exact ⟨rfl, zs, hsw, hx.done hmx hcm58, H⟩
   ·skip
    have hcm58 := cmpI_neg.1 (Decidable.not_not.1 h58)
    refine wp_skip ?_
    refine x_thenNormal ?_
    refine c_seq ?_
    refine d_begin (sz := 82) ⟨rfl, rfl⟩ (by kernel_rfl) H (H.sub (.cons _ .slnil)) rfl ?_
    intro w H
    refine d_take (i := 0) rfl (by kernel_rfl) (fun _ _ _ h => h) (H.sub (.cons _ .slnil)) (fun _ _ => r_move rfl) rfl ?_
    refine d_take (i := 1) rfl (by kernel_rfl) (fun _ _ _ h => h) (H.sub (.cons _ .slnil)) (fun _ _ => r_move rfl) rfl ?_
    refine d_take (i := 2) rfl (by kernel_rfl) (fun _ _ _ h => h) (H.sub (.cons _ .slnil)) (fun _ _ => r_move rfl) rfl ?_
    refine d_take (i := 3) rfl (by kernel_rfl) (fun _ _ _ h => h) (H.sub (.cons _ .slnil)) (fun _ _ => r_add rfl rfl (w_i64e (r := ((a + r : Nat) : Int)) (by omega) (by omega) (by omega))) rfl ?_
    refine d_take (i := 4) rfl (by kernel_rfl) (fun _ _ _ h => h) (H.sub (.cons _ .slnil)) (fun _ _ => r_move rfl) rfl ?_
    refine d_take (i := 5) rfl (by kernel_rfl) (fun _ _ _ h => h) (H.sub (.cons _ .slnil)) (fun _ _ => r_move rfl) rfl ?_
    refine d_take (i := 6) rfl (by kernel_rfl) (fun _ _ _ h => h) (H.sub (.cons _ .slnil)) (fun _ _ => r_move rfl) rfl ?_
    refine d_take (i := 7) rfl (by kernel_rfl) (fun _ _ _ h => h) (H.sub (.cons _ .slnil)) (fun _ _ => r_add rfl rfl (w_i64e (r := ((a + ch : Nat) : Int)) (by omega) (by omega) (by omega))) rfl ?_
    refine d_take (i := 8) rfl (by kernel_rfl) (fun _ _ _ h => h) (H.sub (.cons _ .slnil)) (fun _ _ => r_move rfl) rfl ?_
    refine d_take (i := 9) rfl (by kernel_rfl) (fun _ _ _ h => h) (H.sub (.cons _ .slnil)) (fun _ _ => r_move rfl) rfl ?_
    refine d_take (i := 10) rfl (by kernel_rfl) (fun _ _ _ h => h) (H.sub (.cons _ .slnil)) (fun _ _ => r_move rfl) rfl ?_
    refine d_take (i := 11) rfl (by kernel_rfl) (fun _ _ _ h => h) (H.sub (.cons _ .slnil)) (fun _ _ => r_add rfl rfl (w_i64e (r := ((a + ch : Nat) : Int)) (by omega) (by omega) (by omega))) rfl ?_
    refine d_take (i := 12) rfl (by kernel_rfl) (fun _ _ _ h => h) (H.sub (.cons _ .slnil)) (fun _ _ => r_indexAddrS Try.runUnderlying29 Try.sizeOf42 rfl rfl (by omega) (by omega)) rfl ?_
    refine d_take (i := 14) rfl (by kernel_rfl) (fun _ _ _ h => h) (H.sub (.cons _ .slnil)) (fun _ _ => r_move rfl) rfl ?_
    refine d_take (i := 15) rfl (by kernel_rfl) (fun _ _ _ h => h) (H.sub (.cons _ .slnil)) (fun _ _ => r_move rfl) rfl ?_
    refine d_take (i := 16) rfl (by kernel_rfl) (fun _ _ _ h => h) (H.sub (.cons _ .slnil)) (fun _ _ => r_move rfl) rfl ?_
    refine d_take (i := 17) rfl (by kernel_rfl) (fun _ _ _ h => h) (H.sub (.cons _ .slnil)) (fun _ _ => r_add rfl rfl (w_i64e (r := ((a + r : Nat) : Int)) (by omega) (by omega) (by omega))) rfl ?_
    refine d_take (i := 18) rfl (by kernel_rfl) (fun _ _ _ h => h) (H.sub (.cons _ .slnil)) (fun _ _ => r_indexAddrS Try.runUnderlying29 Try.sizeOf42 rfl rfl (by omega) (by omega)) rfl ?_
    refine d_all2 (i := 13) (j := 19) (by kernel_rfl) ?_ ?_
    ·skip
     refine b_val rfl go_none (r_loadn Try.isAgg42 Try.sizeOf42 rfl (H.at 0 rfl) (rw_ld elFr fr0 zs sp (a + ch) (by omega) (by omega)) (by first | exact (kC_length _) | exact (hC_length _) | exact (ceC_length _) | exact (ptC_length _ _ _ _) | exact (plV_length _ _ _) | exact (elFr.len _) | exact (frC_length _) | exact rfl)) rfl (H.sub (.cons _ .slnil)) ?_
     refine d_all1 (i := 19) (by kernel_rfl) ?_
     refine b_val rfl go_none (r_loadn Try.isAgg42 Try.sizeOf42 rfl (H.at 0 rfl) (rw_ld elFr fr0 zs sp (a + r) (by omega) (by omega)) (by first | exact (kC_length _) | exact (hC_length _) | exact (ceC_length _) | exact (ptC_length _ _ _ _) | exact (plV_length _ _ _) | exact (elFr.len _) | exact (frC_length _) | exact rfl)) rfl (H.sub (.cons _ .slnil)) ?_
     refine d_take (i := 20) rfl (by kernel_rfl) (fun _ _ _ h => h) (H.sub (.cons _ .slnil)) (fun _ _ => r_indexAddrS Try.runUnderlying29 Try.sizeOf42 rfl rfl (by omega) (by omega)) rfl ?_
     refine d_all1 (i := 21) (by kernel_rfl) ?_
     refine b_st rfl go_none (m_storen H 0 12 Try.sizeOf42 rfl rfl (by first | exact (kC_length _) | exact (hC_length _) | exact (ceC_length _) | exact (ptC_length _ _ _ _) | exact (plV_length _ _ _) | exact (elFr.len _) | exact (frC_length _)) (by first | exact (kC_one _) | exact (hC_one _) | exact (ceC_one _) | exact (ptC_one _ _ _ _) | exact (plV_one _ _ _) | exact (elFr.one _) | exact (frC_one _)) rfl (rw_room elFr zs sp (a + r) (by omega) (by omega)) (rw_splice elFr zs sp _ (a + r) (by omega) (by omega))) (L' := [_]) rfl rfl (fun _ H => (H.sub (.cons _ .slnil))) ?_
     intro w H
     refine d_take (i := 22) rfl (by kernel_rfl) (fun _ _ _ h => h) (H.sub (.cons _ .slnil)) (fun _ _ => r_indexAddrS Try.runUnderlying29 Try.sizeOf42 rfl rfl (by omega) (by omega)) rfl ?_
     refine d_all1 (i := 23) (by kernel_rfl) ?_
     refine b_st rfl go_none (m_storen H 0 12 Try.sizeOf42 rfl rfl (by first | exact (kC_length _) | exact (hC_length _) | exact (ceC_length _) | exact (ptC_length _ _ _ _) | exact (plV_length _ _ _) | exact (elFr.len _) | exact (frC_length _)) (by first | exact (kC_one _) | exact (hC_one _) | exact (ceC_one _) | exact (ptC_one _ _ _ _) | exact (plV_one _ _ _) | exact (elFr.one _) | exact (frC_one _)) rfl (rw_room elFr _ sp (a + ch) (by rw [List.length_set]; omega) (by omega)) (rw_splice elFr _ sp _ (a + ch) (by rw [List.length_set]; omega) (by omega))) (L' := [_]) rfl rfl (fun _ H => (H.sub (.cons _ .slnil))) ?_
     intro w H
     refine d_done (l' := [_,_,_,_,_,_,_,_,_,_,_,_,_,_,_,_,_,_,_,_,_,_,_,_,_,_,_,_,_,_,_,_,_,_,_,_,_,_,_,_,_,_,_,_,_,_,_,_,_,_,_,_,_,_,_,_,_,_,_,_,_,_,_,_,_,_,_,_,_,_,_,_,_,_,_,_,_,_,_,_,_,_]) (by kernel_rfl) rfl ?_
     refine x_thenNormal ?_
     refine c_region (n := 82) ⟨rfl, rfl⟩ ?_
     refine s_val (r_move rfl) ?_
     refine s_val (r_assign rfl) ?_
     refine c_nil0 (l' := [_,_,_,_,_,_,_,_,_,_,_,_,_,_,_,_,_,_,_,_,_,_,_,_,_,_,_,_,_,_,_,_,_,_,_,_,_,_,_,_,_,_,_,_,_,_,_,_,_,_,_,_,_,_,_,_,_,_,_,_,_,_,_,_,_,_,_,_,_,_,_,_,_,_,_,_,_,_,_,_,_,_]) rfl ?_
     refine x_blockNormal ?_
     exact ⟨ch, _, rfl, ⟨_,_,_,_,_,_,_,_,_,_,_,_,_,_,_,_,_,_,_,_,_,_,_,_,_,_,_,_,_,_,_,_,_,_,_,_,_,_,_,_,_,_,_,_,_,_,_,_,_,_,_,_,_,_,_,_,_,_,_,_,_,_,_,_,_,_,_,_,_,_, swp2 fr0 zs (a + r) (a + ch), rfl, (.step (a + r) (a + ch) hsw ⟨by omega, by omega⟩ ⟨by omega, by omega⟩ he), (hx.step hch hchi (by omega) hmx hcm58), (.inr hchi), H⟩, by omega⟩
    ·skip
     refine b_val rfl go_none (r_loadn Try.isAgg42 Try.sizeOf42 rfl (H.at 0 rfl) (rw_ld elFr fr0 zs sp (a + r) (by omega) (by omega)) (by first | exact (kC_length _) | exact (hC_length _) | exact (ceC_length _) | exact (ptC_length _ _ _ _) | exact (plV_length _ _ _) | exact (elFr.len _) | exact (frC_length _) | exact rfl)) rfl (H.sub (.cons _ .slnil)) ?_
     refine d_all1 (i := 13) (by kernel_rfl) ?_
     refine b_val rfl go_none (r_loadn Try.isAgg42 Try.sizeOf42 rfl (H.at 0 rfl) (rw_ld elFr fr0 zs sp (a + ch) (by omega) (by omega)) (by first | exact (kC_length _) | exact (hC_length _) | exact (ceC_length _) | exact (ptC_length _ _ _ _) | exact (plV_length _ _ _) | exact (elFr.len _) | exact (frC_length _) | exact rfl)) rfl (H.sub (.cons _ .slnil)) ?_
     refine d_take (i := 20) rfl (by kernel_rfl) (fun _ _ _ h => h) (H.sub (.cons _ .slnil)) (fun _ _ => r_indexAddrS Try.runUnderlying29 Try.sizeOf42 rfl rfl (by omega) (by omega)) rfl ?_
     refine d_all1 (i := 21) (by kernel_rfl) ?_
     refine b_st rfl go_none (m_storen H 0 12 Try.sizeOf42 rfl rfl (by first | exact (kC_length _) | exact (hC_length _) | exact (ceC_length _) | exact (ptC_length _ _ _ _) | exact (plV_length _ _ _) | exact (elFr.len _) | exact (frC_length _)) (by first | exact (kC_one _) | exact (hC_one _) | exact (ceC_one _) | exact (ptC_one _ _ _ _) | exact (plV_one _ _ _) | exact (elFr.one _) | exact (frC_one _)) rfl (rw_room elFr zs sp (a + r) (by omega) (by omega)) (rw_splice elFr zs sp _ (a + r) (by omega) (by omega))) (L' := [_]) rfl rfl (fun _ H => (H.sub (.cons _ .slnil))) ?_
     intro w H
     refine d_take (i := 22) rfl (by kernel_rfl) (fun _ _ _ h => h) (H.sub (.cons _ .slnil)) (fun _ _ => r_indexAddrS Try.runUnderlying29 Try.sizeOf42 rfl rfl (by omega) (by omega)) rfl ?_
     refine d_all1 (i := 23) (by kernel_rfl) ?_
     refine b_st rfl go_none (m_storen H 0 12 Try.sizeOf42 rfl rfl (by first | exact (kC_length _) | exact (hC_length _) | exact (ceC_length _) | exact (ptC_length _ _ _ _) | exact (plV_length _ _ _) | exact (elFr.len _) | exact (frC_length _)) (by first | exact (kC_one _) | exact (hC_one _) | exact (ceC_one _) | exact (ptC_one _ _ _ _) | exact (plV_one _ _ _) | exact (elFr.one _) | exact (frC_one _)) rfl (rw_room elFr _ sp (a + ch) (by rw [List.length_set]; omega) (by omega)) (rw_splice elFr _ sp _ (a + ch) (by rw [List.length_set]; omega) (by omega))) (L' := [_]) rfl rfl (fun _ H => (H.sub (.cons _ .slnil))) ?_
     intro w H
     refine d_done (l' := [_,_,_,_,_,_,_,_,_,_,_,_,_,_,_,_,_,_,_,_,_,_,_,_,_,_,_,_,_,_,_,_,_,_,_,_,_,_,_,_,_,_,_,_,_,_,_,_,_,_,_,_,_,_,_,_,_,_,_,_,_,_,_,_,_,_,_,_,_,_,_,_,_,_,_,_,_,_,_,_,_,_]) (by kernel_rfl) rfl ?_
     refine x_thenNormal ?_
     refine c_region (n := 82) ⟨rfl, rfl⟩ ?_
     refine s_val (r_move rfl) ?_
     refine s_val (r_assign rfl) ?_
     refine c_nil0 (l' := [_,_,_,_,_,_,_,_,_,_,_,_,_,_,_,_,_,_,_,_,_,_,_,_,_,_,_,_,_,_,_,_,_,_,_,_,_,_,_,_,_,_,_,_,_,_,_,_,_,_,_,_,_,_,_,_,_,_,_,_,_,_,_,_,_,_,_,_,_,_,_,_,_,_,_,_,_,_,_,_,_,_]) rfl ?_
     refine x_blockNormal ?_
     exact ⟨ch, _, rfl, ⟨_,_,_,_,_,_,_,_,_,_,_,_,_,_,_,_,_,_,_,_,_,_,_,_,_,_,_,_,_,_,_,_,_,_,_,_,_,_,_,_,_,_,_,_,_,_,_,_,_,_,_,_,_,_,_,_,_,_,_,_,_,_,_,_,_,_,_,_,_,_, swp2 fr0 zs (a + r) (a + ch), rfl, (.step (a + r) (a + ch) hsw ⟨by omega, by omega⟩ ⟨by omega, by omega⟩ he), (hx.step hch hchi (by omega) hmx hcm58), (.inr hchi), H⟩, by omega⟩

set_option maxHeartbeats 4000000 in
theorem heap_specr (b n cap : Nat) (ys : List FrL) (sp : List Value) (a z : Nat) (hnl : n = ys.length) (_haz : a ≤ z) (he : z ≤ ys.length) (hl : ys.length ≤ 1000000) (hz : a < z) (w0 : World) (hown : Go.Er.Own w0 [(b, .cells (rowC frC ys ++ sp).toArray 42 (0, 0))]) :
  Calls Try.prog 32 #[.slice (some ⟨b, 0, none⟩) n cap, .int .i64 (a : Nat), .int .i64 (z : Nat), .func (.func 15) #[] #[]] w0 fun e w => ∃ v, e = .returned v ∧ (v = .tuple #[] ∧ ∃ zs, Sw fr0 a z ys zs ∧ Srt fr0 frK a z zs ∧ St w0 [b] w [(b, .cells (rowC frC zs ++ sp).toArray 42 (0, 0))]) := by
 have H : St w0 [b] w0 [(b, .cells (rowC frC ys ++ sp).toArray 42 (0, 0))] := hown.st
 refine c_enter (args := [.slice (some ⟨b, 0, none⟩) n cap, .int .i64 (a : Nat), .int .i64 (z : Nat), .func (.func 15) #[] #[]]) (l := [.slice (some ⟨b, 0, none⟩) n cap, .int .i64 (a : Nat), .int .i64 (z : Nat), .func (.func 15) #[] #[], undef, undef, undef, undef, undef, undef, undef, undef, undef, undef, undef, undef, undef, undef, undef, undef, undef, undef, undef, undef, undef, undef, undef, undef, undef, undef, undef, undef, undef, undef, undef, undef, undef, undef, undef, undef, undef, undef, undef, undef, undef, undef, undef, undef, undef, undef, undef, undef, undef, undef, undef, undef, undef, undef, undef, undef]) Try.func32 Try.ntmps32 rfl rfl ?_
 refine c_rseq (n := 60) ⟨rfl, rfl⟩ ?_
 refine s_val (r_move rfl) ?_
 refine s_val (r_assign rfl) ?_
 refine c_nil (l' := [_,_,_,_,_,_,_,_,_,_,_,_,_,_,_,_,_,_,_,_,_,_,_,_,_,_,_,_,_,_,_,_,_,_,_,_,_,_,_,_,_,_,_,_,_,_,_,_,_,_,_,_,_,_,_,_,_,_,_,_]) rfl ?_
 refine c_rseq (n := 60) ⟨rfl, rfl⟩ ?_
 refine s_val (r_assign rfl) ?_
 refine c_nil (l' := [_,_,_,_,_,_,_,_,_,_,_,_,_,_,_,_,_,_,_,_,_,_,_,_,_,_,_,_,_,_,_,_,_,_,_,_,_,_,_,_,_,_,_,_,_,_,_,_,_,_,_,_,_,_,_,_,_,_,_,_]) rfl ?_
 refine c_rseq (n := 60) ⟨rfl, rfl⟩ ?_
 refine s_val (r_move rfl) ?_
 refine s_val (r_move rfl) ?_
 refine s_val (r_sub rfl rfl (w_i64e (r := ((z - a : Nat) : Int)) (by omega) (by omega) (by omega))) ?_
 refine s_val (r_assign rfl) ?_
 refine c_nil (l' := [_,_,_,_,_,_,_,_,_,_,_,_,_,_,_,_,_,_,_,_,_,_,_,_,_,_,_,_,_,_,_,_,_,_,_,_,_,_,_,_,_,_,_,_,_,_,_,_,_,_,_,_,_,_,_,_,_,_,_,_]) rfl ?_
 refine c_seq ?_
 refine c_rseq (n := 60) ⟨rfl, rfl⟩ ?_
 refine s_val (r_move rfl) ?_
 refine s_val (r_sub rfl rfl (w_i64e (r := ((z - a - 1 : Nat) : Int)) (by omega) (by omega) (by omega))) ?_
 refine s_val (r_quo rfl rfl (by omega) ((quoI (by omega) (by omega) (by omega)).trans (show _ = (((z - a - 1) / 2 + 1 : Nat) : Int) - 1 by omega))) ?_
 refine s_val (r_assign rfl) ?_
 refine c_nil (l' := [_,_,_,_,_,_,_,_,_,_,_,_,_,_,_,_,_,_,_,_,_,_,_,_,_,_,_,_,_,_,_,_,_,_,_,_,_,_,_,_,_,_,_,_,_,_,_,_,_,_,_,_,_,_,_,_,_,_,_,_]) rfl ?_
 refine wp_block ?_
 refine c_loop (fun (l0 : List Value) (t : Nat) (l : List Value) (w : World) => ∃ (u20 u21 u22 u23 u24 u25 u26 u27 u28 u29 : Value) (zs : List FrL), l = ovr l0 [N_, N_, N_, N_, N_, N_, N_, N_, N_, N_, N_, Y_ (.int .i64 ((t : Int) - 1)), N_, N_, N_, N_, N_, N_, N_, N_, Y_ u20, Y_ u21, Y_ u22, Y_ u23, Y_ u24, Y_ u25, Y_ u26, Y_ u27, Y_ u28, Y_ u29] ∧ t ≤ (z - a - 1) / 2 + 1 ∧ Sw fr0 a z ys zs ∧ Hp fr0 frK a t (z - a) zs ∧ St w0 [b] w [(b, .cells (rowC frC zs ++ sp).toArray 42 (0, 0))]) (fun (t : Nat) => t) ((z - a - 1) / 2 + 1) ⟨_,_,_,_,_,_,_,_,_,_, ys, rfl, by omega, .refl, (Hp.leaves (by omega)), H⟩ ?_
 intro t l w ⟨u20, u21, u22, u23, u24, u25, u26, u27, u28, u29, zs, hl, ht, hsw, hh, H⟩
 obtain rfl := hl.trans (rfl : _ = [_,_,_,_,_,_,_,_,_,_,_,_,_,_,_,_,_,_,_,_,_,_,_,_,_,_,_,_,_,_,_,_,_,_,_,_,_,_,_,_,_,_,_,_,_,_,_,_,_,_,_,_,_,_,_,_,_,_,_,_])
 clear hl
 have hlen := hsw.length
 refine c_seq ?_
 refine c_rseq (n := 60) ⟨rfl, rfl⟩ ?_
 refine s_val (r_move rfl) ?_
 refine s_val (r_geq rfl rfl) ?_
 refine c_nil (l' := [_,_,_,_,_,_,_,_,_,_,_,_,_,_,_,_,_,_,_,_,_,_,_,_,_,_,_,_,_,_,_,_,_,_,_,_,_,_,_,_,_,_,_,_,_,_,_,_,_,_,_,_,_,_,_,_,_,_,_,_]) rfl ?_
 refine c_if rfl (fun h21 => ?_) (fun h21 => ?_)
 ·skip
  obtain ⟨u, rfl⟩ : ∃ u, t = u + 1 := ⟨t - 1, by omega⟩
  have eu : (((u + 1 : Nat) : Int) - 1) = (u : Nat) := by omega
  rw [eu]
  refine wp_skip ?_
  refine x_thenNormal ?_
  refine c_seq ?_
  refine wp_block ?_
  refine c_region (n := 60) ⟨rfl, rfl⟩ ?_
  refine s_val (r_move rfl) ?_
  refine s_val (r_move rfl) ?_
  refine s_val (r_move rfl) ?_
  refine s_val (r_move rfl) ?_
  refine s_val (r_move rfl) ?_
  refine s_call (r_call Try.call48 (ec rfl (ec rfl (ec rfl (ec rfl (ec rfl en)))))) (sift_specr _ _ _ _ _ a u (z - a) (by omega) (by omega) (by omega) (by omega) (hh) _ H.owns0) ?_
  rintro v w ⟨rfl, zs2, hsw2, hh2, HC⟩
  replace H := St.call (F := [_]) (L := []) H HC
  refine c_nil0 (l' := [_,_,_,_,_,_,_,_,_,_,_,_,_,_,_,_,_,_,_,_,_,_,_,_,_,_,_,_,_,_,_,_,_,_,_,_,_,_,_,_,_,_,_,_,_,_,_,_,_,_,_,_,_,_,_,_,_,_,_,_]) rfl ?_
  refine x_blockNormal ?_
  refine x_thenNormal ?_
  refine c_region (n := 60) ⟨rfl, rfl⟩ ?_
  refine s_val (r_move rfl) ?_
  refine s_val (r_sub rfl rfl (w_i64e (r := (u : Int) - 1) (by omega) (by omega) (by omega))) ?_
  refine s_val (r_assign rfl) ?_
  refine c_nil0 (l' := [_,_,_,_,_,_,_,_,_,_,_,_,_,_,_,_,_,_,_,_,_,_,_,_,_,_,_,_,_,_,_,_,_,_,_,_,_,_,_,_,_,_,_,_,_,_,_,_,_,_,_,_,_,_,_,_,_,_,_,_]) rfl ?_
  exact ⟨u, _, rfl, ⟨_,_,_,_,_,_,_,_,_,_, zs2, rfl, by omega, (hsw.trans (hsw2.mono (Nat.le_refl _) (by omega) (by omega))), hh2, H⟩, by omega⟩
 ·skip
  obtain rfl : t = 0 := by omega
  refine wp_exit (x_thenExit (x_thenExit (x_blockHit ?_)))
  refine x_thenNormal ?_
  refine c_rseq (n := 60) ⟨rfl, rfl⟩ ?_
  refine s_val (r_move rfl) ?_
  refine s_val (r_sub rfl rfl (w_i64e (r := ((z - a : Nat) : Int) - 1) (by omega) (by omega) (by omega))) ?_
  refine s_val (r_assign rfl) ?_
  refine c_nil (l' := [_,_,_,_,_,_,_,_,_,_,_,_,_,_,_,_,_,_,_,_,_,_,_,_,_,_,_,_,_,_,_,_,_,_,_,_,_,_,_,_,_,_,_,_,_,_,_,_,_,_,_,_,_,_,_,_,_,_,_,_]) rfl ?_
  refine wp_block ?_
  refine c_loop (fun (l0 : List Value) (t : Nat) (l : List Value) (w : World) => ∃ (u32 u33 u34 u35 u36 u37 u38 u39 u40 u41 u42 u43 u44 u45 u46 u47 u48 u49 u50 u51 u52 u53 u54 u55 u56 u57 u58 u59 : Value) (zs : List FrL), l = ovr l0 [N_, N_, N_, N_, N_, N_, N_, N_, N_, N_, N_, N_, Y_ (.int .i64 ((t : Int) - 1)), N_, N_, N_, N_, N_, N_, N_, N_, N_, N_, N_, N_, N_, N_, N_, N_, N_, N_, N_, Y_ u32, Y_ u33, Y_ u34, Y_ u35, Y_ u36, Y_ u37, Y_ u38, Y_ u39, Y_ u40, Y_ u41, Y_ u42, Y_ u43, Y_ u44, Y_ u45, Y_ u46, Y_ u47, Y_ u48, Y_ u49, Y_ u50, Y_ u51, Y_ u52, Y_ u53, Y_ u54, Y_ u55, Y_ u56, Y_ u57, Y_ u58, Y_ u59] ∧ t ≤ z - a ∧ Sw fr0 a z ys zs ∧ HpS fr0 frK a z t zs ∧ St w0 [b] w [(b, .cells (rowC frC zs ++ sp).toArray 42 (0, 0))]) (fun (t : Nat) => t) (z - a) ⟨_,_,_,_,_,_,_,_,_,_,_,_,_,_,_,_,_,_,_,_,_,_,_,_,_,_,_,_, zs, rfl, by omega, hsw, (HpS.start hh (by omega)), H⟩ ?_
  intro t l w ⟨u32, u33, u34, u35, u36, u37, u38, u39, u40, u41, u42, u43, u44, u45, u46, u47, u48, u49, u50, u51, u52, u53, u54, u55, u56, u57, u58, u59, zs, hl, ht, hsw, hh, H⟩
  obtain rfl := hl.trans (rfl : _ = [_,_,_,_,_,_,_,_,_,_,_,_,_,_,_,_,_,_,_,_,_,_,_,_,_,_,_,_,_,_,_,_,_,_,_,_,_,_,_,_,_,_,_,_,_,_,_,_,_,_,_,_,_,_,_,_,_,_,_,_])
  clear hl
  have hlen := hsw.length
  refine c_seq ?_
  refine c_rseq (n := 60) ⟨rfl, rfl⟩ ?_
  refine s_val (r_move rfl) ?_
  refine s_val (r_geq rfl rfl) ?_
  refine c_nil (l' := [_,_,_,_,_,_,_,_,_,_,_,_,_,_,_,_,_,_,_,_,_,_,_,_,_,_,_,_,_,_,_,_,_,_,_,_,_,_,_,_,_,_,_,_,_,_,_,_,_,_,_,_,_,_,_,_,_,_,_,_]) rfl ?_
  refine c_if rfl (fun h33 => ?_) (fun h33 => ?_)
  ·skip
   obtain ⟨u, rfl⟩ : ∃ u, t = u + 1 := ⟨t - 1, by omega⟩
   have eu : (((u + 1 : Nat) : Int) - 1) = (u : Nat) := by omega
   rw [eu]
   obtain ⟨g1, g2, g3⟩ := hh.swap (by omega) (by omega)
   have hsw1 : Sw fr0 a z ys (swp2 fr0 zs a (a + u)) := .step a (a + u) hsw ⟨by omega, by omega⟩ ⟨by omega, by omega⟩ he
   have hlen1 := hsw1.length
   refine wp_skip ?_
   refine x_thenNormal ?_
   refine c_seq ?_
   refine wp_block ?_
   refine c_seq ?_
   refine d_begin (sz := 60) ⟨rfl, rfl⟩ (by kernel_rfl) H (H.sub (.cons _ .slnil)) rfl ?_
   intro w H
   refine d_take (i := 0) rfl (by kernel_rfl) (fun _ _ _ h => h) (H.sub (.cons _ .slnil)) (fun _ _ => r_move rfl) rfl ?_
   refine d_take (i := 1) rfl (by kernel_rfl) (fun _ _ _ h => h) (H.sub (.cons _ .slnil)) (fun _ _ => r_move rfl) rfl ?_
   refine d_take (i := 2) rfl (by kernel_rfl) (fun _ _ _ h => h) (H.sub (.cons _ .slnil)) (fun _ _ => r_move rfl) rfl ?_
   refine d_take (i := 3) rfl (by kernel_rfl) (fun _ _ _ h => h) (H.sub (.cons _ .slnil)) (fun _ _ => r_move rfl) rfl ?_
   refine d_take (i := 4) rfl (by kernel_rfl) (fun _ _ _ h => h) (H.sub (.cons _ .slnil)) (fun _ _ => r_move rfl) rfl ?_
   refine d_take (i := 5) rfl (by kernel_rfl) (fun _ _ _ h => h) (H.sub (.cons _ .slnil)) (fun _ _ => r_add rfl rfl (w_i64e (r := ((a + u : Nat) : Int)) (by omega) (by omega) (by omega))) rfl ?_
   refine d_take (i := 6) rfl (by kernel_rfl) (fun _ _ _ h => h) (H.sub (.cons _ .slnil)) (fun _ _ => r_move rfl) rfl ?_
   refine d_take (i := 7) rfl (by kernel_rfl) (fun _ _ _ h => h) (H.sub (.cons _ .slnil)) (fun _ _ => r_move rfl) rfl ?_
   refine d_take (i := 8) rfl (by kernel_rfl) (fun _ _ _ h => h) (H.sub (.cons _ .slnil)) (fun _ _ => r_move rfl) rfl ?_
   refine d_take (i := 9) rfl (by kernel_rfl) (fun _ _ _ h => h) (H.sub (.cons _ .slnil)) (fun _ _ => r_add rfl rfl (w_i64e (r := ((a + u : Nat) : Int)) (by omega) (by omega) (by omega))) rfl ?_
   refine d_take (i := 10) rfl (by kernel_rfl) (fun _ _ _ h => h) (H.sub (.cons _ .slnil)) (fun _ _ => r_indexAddrS Try.runUnderlying29 Try.sizeOf42 rfl rfl (by omega) (by omega)) rfl ?_
   refine d_take (i := 12) rfl (by kernel_rfl) (fun _ _ _ h => h) (H.sub (.cons _ .slnil)) (fun _ _ => r_move rfl) rfl ?_
   refine d_take (i := 13) rfl (by kernel_rfl) (fun _ _ _ h => h) (H.sub (.cons _ .slnil)) (fun _ _ => r_move rfl) rfl ?_
   refine d_take (i := 14) rfl (by kernel_rfl) (fun _ _ _ h => h) (H.sub (.cons _ .slnil)) (fun _ _ => r_indexAddrS Try.runUnderlying29 Try.sizeOf42 rfl rfl (by omega) (by omega)) rfl ?_
   refine d_all2 (i := 11) (j := 15) (by kernel_rfl) ?_ ?_
   ·skip
    refine b_val rfl go_none (r_loadn Try.isAgg42 Try.sizeOf42 rfl (H.at 0 rfl) (rw_ld elFr fr0 zs sp (a + u) (by omega) (by omega)) (by first | exact (kC_length _) | exact (hC_length _) | exact (ceC_length _) | exact (ptC_length _ _ _ _) | exact (plV_length _ _ _) | exact (elFr.len _) | exact (frC_length _) | exact rfl)) rfl (H.sub (.cons _ .slnil)) ?_
    refine d_all1 (i := 15) (by kernel_rfl) ?_
    refine b_val rfl go_none (r_loadn Try.isAgg42 Try.sizeOf42 rfl (H.at 0 rfl) (rw_ld elFr fr0 zs sp (a) (by omega) (by omega)) (by first | exact (kC_length _) | exact (hC_length _) | exact (ceC_length _) | exact (ptC_length _ _ _ _) | exact (plV_length _ _ _) | exact (elFr.len _) | exact (frC_length _) | exact rfl)) rfl (H.sub (.cons _ .slnil)) ?_
    refine d_take (i := 16) rfl (by kernel_rfl) (fun _ _ _ h => h) (H.sub (.cons _ .slnil)) (fun _ _ => r_indexAddrS Try.runUnderlying29 Try.sizeOf42 rfl rfl (by omega) (by omega)) rfl ?_
    refine d_all1 (i := 17) (by kernel_rfl) ?_
    refine b_st rfl go_none (m_storen H 0 12 Try.sizeOf42 rfl rfl (by first | exact (kC_length _) | exact (hC_length _) | exact (ceC_length _) | exact (ptC_length _ _ _ _) | exact (plV_length _ _ _) | exact (elFr.len _) | exact (frC_length _)) (by first | exact (kC_one _) | exact (hC_one _) | exact (ceC_one _) | exact (ptC_one _ _ _ _) | exact (plV_one _ _ _) | exact (elFr.one _) | exact (frC_one _)) rfl (rw_room elFr zs sp (a) (by omega) (by omega)) (rw_splice elFr zs sp _ (a) (by omega) (by omega))) (L' := [_]) rfl rfl (fun _ H => (H.sub (.cons _ .slnil))) ?_
    intro w H
    refine d_take (i := 18) rfl (by kernel_rfl) (fun _ _ _ h => h) (H.sub (.cons _ .slnil)) (fun _ _ => r_indexAddrS Try.runUnderlying29 Try.sizeOf42 rfl rfl (by omega) (by omega)) rfl ?_
    refine d_all1 (i := 19) (by kernel_rfl) ?_
    refine b_st rfl go_none (m_storen H 0 12 Try.sizeOf42 rfl rfl (by first | exact (kC_length _) | exact (hC_length _) | exact (ceC_length _) | exact (ptC_length _ _ _ _) | exact (plV_length _ _ _) | exact (elFr.len _) | exact (frC_length _)) (by first | exact (kC_one _) | exact (hC_one _) | exact (ceC_one _) | exact (ptC_one _ _ _ _) | exact (plV_one _ _ _) | exact (elFr.one _) | exact (frC_one _)) rfl (rw_room elFr _ sp (a + u) (by rw [List.length_set]; omega) (by omega)) (rw_splice elFr _ sp _ (a + u) (by rw [List.length_set]; omega) (by omega))) (L' := [_]) rfl rfl (fun _ H => (H.sub (.cons _ .slnil))) ?_
    intro w H
    refine d_done (l' := [_,_,_,_,_,_,_,_,_,_,_,_,_,_,_,_,_,_,_,_,_,_,_,_,_,_,_,_,_,_,_,_,_,_,_,_,_,_,_,_,_,_,_,_,_,_,_,_,_,_,_,_,_,_,_,_,_,_,_,_]) (by kernel_rfl) rfl ?_
    refine x_thenNormal ?_
    refine c_region (n := 60) ⟨rfl, rfl⟩ ?_
    refine s_val (r_move rfl) ?_
    refine s_val (r_move rfl) ?_
    refine s_val (r_move rfl) ?_
    refine s_val (r_move rfl) ?_
    refine s_val (r_move rfl) ?_
    refine s_call (r_call Try.call48 (ec rfl (ec rfl (ec rfl (ec rfl (ec rfl en)))))) (sift_specr _ _ _ _ _ a 0 u (by omega) (by omega) (by omega) (by omega) (g1) _ H.owns0) ?_
    rintro v w ⟨rfl, zs2, hsw2, hh2, HC⟩
    replace H := St.call (F := [_]) (L := []) H HC
    refine c_nil0 (l' := [_,_,_,_,_,_,_,_,_,_,_,_,_,_,_,_,_,_,_,_,_,_,_,_,_,_,_,_,_,_,_,_,_,_,_,_,_,_,_,_,_,_,_,_,_,_,_,_,_,_,_,_,_,_,_,_,_,_,_,_]) rfl ?_
    refine x_blockNormal ?_
    refine x_thenNormal ?_
    refine c_region (n := 60) ⟨rfl, rfl⟩ ?_
    refine s_val (r_move rfl) ?_
    refine s_val (r_sub rfl rfl (w_i64e (r := (u : Int) - 1) (by omega) (by omega) (by omega))) ?_
    refine s_val (r_assign rfl) ?_
    refine c_nil0 (l' := [_,_,_,_,_,_,_,_,_,_,_,_,_,_,_,_,_,_,_,_,_,_,_,_,_,_,_,_,_,_,_,_,_,_,_,_,_,_,_,_,_,_,_,_,_,_,_,_,_,_,_,_,_,_,_,_,_,_,_,_]) rfl ?_
    exact ⟨u, _, rfl, ⟨_,_,_,_,_,_,_,_,_,_,_,_,_,_,_,_,_,_,_,_,_,_,_,_,_,_,_,_, zs2, rfl, by omega, (hsw1.trans (hsw2.mono (Nat.le_refl _) (by omega) (by omega))), (HpS.next g2 g3 hsw2 hh2), H⟩, by omega⟩
   ·skip
    refine b_val rfl go_none (r_loadn Try.isAgg42 Try.sizeOf42 rfl (H.at 0 rfl) (rw_ld elFr fr0 zs sp (a) (by omega) (by omega)) (by first | exact (kC_length _) | exact (hC_length _) | exact (ceC_length _) | exact (ptC_length _ _ _ _) | exact (plV_length _ _ _) | exact (elFr.len _) | exact (frC_length _) | exact rfl)) rfl (H.sub (.cons _ .slnil)) ?_
    refine d_all1 (i := 11) (by kernel_rfl) ?_
    refine b_val rfl go_none (r_loadn Try.isAgg42 Try.sizeOf42 rfl (H.at 0 rfl) (rw_ld elFr fr0 zs sp (a + u) (by omega) (by omega)) (by first | exact (kC_length _) | exact (hC_length _) | exact (ceC_length _) | exact (ptC_length _ _ _ _) | exact (plV_length _ _ _) | exact (elFr.len _) | exact (frC_length _) | exact rfl)) rfl (H.sub (.cons _ .slnil)) ?_
    refine d_take (i := 16) rfl (by kernel_rfl) (fun _ _ _ h => h) (H.sub (.cons _ .slnil)) (fun _ _ => r_indexAddrS Try.runUnderlying29 Try.sizeOf42 rfl rfl (by omega) (by omega)) rfl ?_
    refine d_all1 (i := 17) (by kernel_rfl) ?_
    refine b_st rfl go_none (m_storen H 0 12 Try.sizeOf42 rfl rfl (by first | exact (kC_length _) | exact (hC_length _) | exact (ceC_length _) | exact (ptC_length _ _ _ _) | exact (plV_length _ _ _) | exact (elFr.len _) | exact (frC_length _)) (by first | exact (kC_one _) | exact (hC_one _) | exact (ceC_one _) | exact (ptC_one _ _ _ _) | exact (plV_one _ _ _) | exact (elFr.one _) | exact (frC_one _)) rfl (rw_room elFr zs sp (a) (by omega) (by omega)) (rw_splice elFr zs sp _ (a) (by omega) (by omega))) (L' := [_]) rfl rfl (fun _ H => (H.sub (.cons _ .slnil))) ?_
    intro w H
    refine d_take (i := 18) rfl (by kernel_rfl) (fun _ _ _ h => h) (H.sub (.cons _ .slnil)) (fun _ _ => r_indexAddrS Try.runUnderlying29 Try.sizeOf42 rfl rfl (by omega) (by omega)) rfl ?_
    refine d_all1 (i := 19) (by kernel_rfl) ?_
    refine b_st rfl go_none (m_storen H 0 12 Try.sizeOf42 rfl rfl (by first | exact (kC_length _) | exact (hC_length _) | exact (ceC_length _) | exact (ptC_length _ _ _ _) | exact (plV_length _ _ _) | exact (elFr.len _) | exact (frC_length _)) (by first | exact (kC_one _) | exact (hC_one _) | exact (ceC_one _) | exact (ptC_one _ _ _ _) | exact (plV_one _ _ _) | exact (elFr.one _) | exact (frC_one _)) rfl (rw_room elFr _ sp (a + u) (by rw [List.length_set]; omega) (by omega)) (rw_splice elFr _ sp _ (a + u) (by rw [List.length_set]; omega) (by omega))) (L' := [_]) rfl rfl (fun _ H => (H.sub (.cons _ .slnil))) ?_
    intro w H
    refine d_done (l' := [_,_,_,_,_,_,_,_,_,_,_,_,_,_,_,_,_,_,_,_,_,_,_,_,_,_,_,_,_,_,_,_,_,_,_,_,_,_,_,_,_,_,_,_,_,_,_,_,_,_,_,_,_,_,_,_,_,_,_,_]) (by kernel_rfl) rfl ?_
    refine x_thenNormal ?_
    refine c_region (n := 60) ⟨rfl, rfl⟩ ?_
    refine s_val (r_move rfl) ?_
    refine s_val (r_move rfl) ?_
    refine s_val (r_move rfl) ?_
    refine s_val (r_move rfl) ?_
    refine s_val (r_move rfl) ?_
    refine s_call (r_call Try.call48 (ec rfl (ec rfl (ec rfl (ec rfl (ec rfl en)))))) (sift_specr _ _ _ _ _ a 0 u (by omega) (by omega) (by omega) (by omega) (g1) _ H.owns0) ?_
    rintro v w ⟨rfl, zs2, hsw2, hh2, HC⟩
    replace H := St.call (F := [_]) (L := []) H HC
    refine c_nil0 (l' := [_,_,_,_,_,_,_,_,_,_,_,_,_,_,_,_,_,_,_,_,_,_,_,_,_,_,_,_,_,_,_,_,_,_,_,_,_,_,_,_,_,_,_,_,_,_,_,_,_,_,_,_,_,_,_,_,_,_,_,_]) rfl ?_
    refine x_blockNormal ?_
    refine x_thenNormal ?_
    refine c_region (n := 60) ⟨rfl, rfl⟩ ?_
    refine s_val (r_move rfl) ?_
    refine s_val (r_sub rfl rfl (w_i64e (r := (u : Int) - 1) (by omega) (by omega) (by omega))) ?_
    refine s_val (r_assign rfl) ?_
    refine c_nil0 (l' := [_,_,_,_,_,_,_,_,_,_,_,_,_,_,_,_,_,_,_,_,_,_,_,_,_,_,_,_,_,_,_,_,_,_,_,_,_,_,_,_,_,_,_,_,_,_,_,_,_,_,_,_,_,_,_,_,_,_,_,_]) rfl ?_
    exact ⟨u, _, rfl, ⟨_,_,_,_,_,_,_,_,_,_,_,_,_,_,_,_,_,_,_,_,_,_,_,_,_,_,_,_, zs2, rfl, by omega, (hsw1.trans (hsw2.mono (Nat.le_refl _) (by omega) (by omega))), (HpS.next g2 g3 hsw2 hh2), H⟩, by omega⟩
  ·skip
   obtain rfl : t = 0 := by omega
   refine wp_exit (x_thenExit (x_thenExit (x_blockHit ?_)))
   refine e_end (res0 rfl) ⟨_, rfl, ?_⟩
   exact ⟨rfl, zs, hsw, hh.fin, H⟩

end Go.Proofs.Ytihpeihlpgompaa

