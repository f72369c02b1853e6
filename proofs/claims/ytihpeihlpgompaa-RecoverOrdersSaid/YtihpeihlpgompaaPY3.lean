import Derived.Test.YtihpeihlpgompaaPY0
namespace Go.Proofs.Ytihpeihlpgompaa
open Go Go.Er

set_option maxHeartbeats 4000000 in
set_option maxRecDepth 20000 in
theorem pis_specr (b n cap : Nat) (ys : List FrL) (sp : List Value) (a z : Nat) (hnl : n = ys.length) (haz : a ≤ z) (he : z ≤ ys.length) (hl : ys.length ≤ 1000000) (hz : a < z) (hah : Ahead fr0 frK a z ys) (w0 : World) (hown : Go.Er.Own w0 [(b, .cells (rowC frC ys ++ sp).toArray 42 (0, 0))]) :
  Calls Try.prog 36 #[.slice (some ⟨b, 0, none⟩) n cap, .int .i64 (a : Nat), .int .i64 (z : Nat), .func (.func 15) #[] #[]] w0 fun e w => ∃ v, e = .returned v ∧ (∃ (r : Bool) (zs : List FrL), v = .bool r ∧ Sw fr0 a z ys zs ∧ (r = true → Srt fr0 frK a z zs) ∧ St w0 [b] w [(b, .cells (rowC frC zs ++ sp).toArray 42 (0, 0))]) := by
 have H : St w0 [b] w0 [(b, .cells (rowC frC ys ++ sp).toArray 42 (0, 0))] := hown.st
 refine c_enter (args := [.slice (some ⟨b, 0, none⟩) n cap, .int .i64 (a : Nat), .int .i64 (z : Nat), .func (.func 15) #[] #[]]) (l := [.slice (some ⟨b, 0, none⟩) n cap, .int .i64 (a : Nat), .int .i64 (z : Nat), .func (.func 15) #[] #[], undef, undef, undef, undef, undef, undef, undef, undef, undef, undef, undef, undef, undef, undef, undef, undef, undef, undef, undef, undef, undef, undef, undef, undef, undef, undef, undef, undef, undef, undef, undef, undef, undef, undef, undef, undef, undef, undef, undef, undef, undef, undef, undef, undef, undef, undef, undef, undef, undef, undef, undef, undef, undef, undef, undef, undef, undef, undef, undef, undef, undef, undef, undef, undef, undef, undef, undef, undef, undef, undef, undef, undef, undef, undef, undef, undef, undef, undef, undef, undef, undef, undef, undef, undef, undef, undef, undef, undef, undef, undef, undef, undef, undef, undef, undef, undef, undef, undef, undef, undef, undef, undef, undef, undef, undef, undef, undef, undef, undef, undef, undef, undef, undef, undef, undef, undef, undef, undef, undef, undef, undef, undef, undef, undef, undef, undef, undef, undef, undef, undef, undef, undef, undef, undef, undef, undef, undef]) Try.func36 Try.ntmps36 rfl rfl ?_
 refine c_rseq (n := 141) ⟨rfl, rfl⟩ ?_
 refine s_val (r_assign rfl) ?_
 refine c_nil (l' := [_,_,_,_,_,_,_,_,_,_,_,_,_,_,_,_,_,_,_,_,_,_,_,_,_,_,_,_,_,_,_,_,_,_,_,_,_,_,_,_,_,_,_,_,_,_,_,_,_,_,_,_,_,_,_,_,_,_,_,_,_,_,_,_,_,_,_,_,_,_,_,_,_,_,_,_,_,_,_,_,_,_,_,_,_,_,_,_,_,_,_,_,_,_,_,_,_,_,_,_,_,_,_,_,_,_,_,_,_,_,_,_,_,_,_,_,_,_,_,_,_,_,_,_,_,_,_,_,_,_,_,_,_,_,_,_,_,_,_,_,_]) rfl ?_
 refine c_rseq (n := 141) ⟨rfl, rfl⟩ ?_
 refine s_val (r_move rfl) ?_
 refine s_val (r_add rfl rfl (w_i64e (r := ((a + 1 : Nat) : Int)) (by omega) (by omega) (by omega))) ?_
 refine s_val (r_assign rfl) ?_
 refine c_nil (l' := [_,_,_,_,_,_,_,_,_,_,_,_,_,_,_,_,_,_,_,_,_,_,_,_,_,_,_,_,_,_,_,_,_,_,_,_,_,_,_,_,_,_,_,_,_,_,_,_,_,_,_,_,_,_,_,_,_,_,_,_,_,_,_,_,_,_,_,_,_,_,_,_,_,_,_,_,_,_,_,_,_,_,_,_,_,_,_,_,_,_,_,_,_,_,_,_,_,_,_,_,_,_,_,_,_,_,_,_,_,_,_,_,_,_,_,_,_,_,_,_,_,_,_,_,_,_,_,_,_,_,_,_,_,_,_,_,_,_,_,_,_]) rfl ?_
 refine c_seq ?_
 refine c_rseq (n := 141) ⟨rfl, rfl⟩ ?_
 refine s_val (r_assign rfl) ?_
 refine c_nil (l' := [_,_,_,_,_,_,_,_,_,_,_,_,_,_,_,_,_,_,_,_,_,_,_,_,_,_,_,_,_,_,_,_,_,_,_,_,_,_,_,_,_,_,_,_,_,_,_,_,_,_,_,_,_,_,_,_,_,_,_,_,_,_,_,_,_,_,_,_,_,_,_,_,_,_,_,_,_,_,_,_,_,_,_,_,_,_,_,_,_,_,_,_,_,_,_,_,_,_,_,_,_,_,_,_,_,_,_,_,_,_,_,_,_,_,_,_,_,_,_,_,_,_,_,_,_,_,_,_,_,_,_,_,_,_,_,_,_,_,_,_,_]) rfl ?_
 refine wp_block ?_
 refine c_loop (fun (l0 : List Value) (q : Nat) (l : List Value) (w : World) => ∃ (u8 u11 u12 u15 u16 u17 u18 u19 u20 u21 u22 u23 u24 u25 u26 u27 u28 u29 u30 u31 u32 u33 u34 u35 u36 u37 u38 u39 u40 u41 u42 u43 u44 u45 u46 u47 u48 u49 u50 u51 u52 u53 u54 u55 u56 u57 u58 u59 u60 u61 u62 u63 u64 u65 u66 u67 u68 u69 u70 u71 u72 u73 u74 u75 u76 u77 u78 u79 u80 u81 u82 u83 u84 u85 u86 u87 u88 u89 u90 u91 u92 u93 u94 u95 u96 u97 u98 u99 u100 u101 u102 u103 u104 u105 u106 u107 u108 u109 u110 u111 u112 u113 u114 u115 u116 u117 u118 u119 u120 u121 u122 u123 u124 u125 u126 u127 u128 u129 u130 u131 u132 u133 u134 u135 u136 u137 u138 u139 u140 : Value) (i : Nat) (zs : List FrL), l = ovr l0 [N_, N_, N_, N_, N_, N_, N_, N_, Y_ u8, Y_ (.int .i64 i), Y_ (.int .i64 q), Y_ u11, Y_ u12, N_, N_, Y_ u15, Y_ u16, Y_ u17, Y_ u18, Y_ u19, Y_ u20, Y_ u21, Y_ u22, Y_ u23, Y_ u24, Y_ u25, Y_ u26, Y_ u27, Y_ u28, Y_ u29, Y_ u30, Y_ u31, Y_ u32, Y_ u33, Y_ u34, Y_ u35, Y_ u36, Y_ u37, Y_ u38, Y_ u39, Y_ u40, Y_ u41, Y_ u42, Y_ u43, Y_ u44, Y_ u45, Y_ u46, Y_ u47, Y_ u48, Y_ u49, Y_ u50, Y_ u51, Y_ u52, Y_ u53, Y_ u54, Y_ u55, Y_ u56, Y_ u57, Y_ u58, Y_ u59, Y_ u60, Y_ u61, Y_ u62, Y_ u63, Y_ u64, Y_ u65, Y_ u66, Y_ u67, Y_ u68, Y_ u69, Y_ u70, Y_ u71, Y_ u72, Y_ u73, Y_ u74, Y_ u75, Y_ u76, Y_ u77, Y_ u78, Y_ u79, Y_ u80, Y_ u81, Y_ u82, Y_ u83, Y_ u84, Y_ u85, Y_ u86, Y_ u87, Y_ u88, Y_ u89, Y_ u90, Y_ u91, Y_ u92, Y_ u93, Y_ u94, Y_ u95, Y_ u96, Y_ u97, Y_ u98, Y_ u99, Y_ u100, Y_ u101, Y_ u102, Y_ u103, Y_ u104, Y_ u105, Y_ u106, Y_ u107, Y_ u108, Y_ u109, Y_ u110, Y_ u111, Y_ u112, Y_ u113, Y_ u114, Y_ u115, Y_ u116, Y_ u117, Y_ u118, Y_ u119, Y_ u120, Y_ u121, Y_ u122, Y_ u123, Y_ u124, Y_ u125, Y_ u126, Y_ u127, Y_ u128, Y_ u129, Y_ u130, Y_ u131, Y_ u132, Y_ u133, Y_ u134, Y_ u135, Y_ u136, Y_ u137, Y_ u138, Y_ u139, Y_ u140] ∧ q ≤ 5 ∧ a < i ∧ i ≤ z ∧ Sw fr0 a z ys zs ∧ Srt fr0 frK a i zs ∧ St w0 [b] w [(b, .cells (rowC frC zs ++ sp).toArray 42 (0, 0))]) (fun (q : Nat) => 5 - q) 0 ⟨_,_,_,_,_,_,_,_,_,_,_,_,_,_,_,_,_,_,_,_,_,_,_,_,_,_,_,_,_,_,_,_,_,_,_,_,_,_,_,_,_,_,_,_,_,_,_,_,_,_,_,_,_,_,_,_,_,_,_,_,_,_,_,_,_,_,_,_,_,_,_,_,_,_,_,_,_,_,_,_,_,_,_,_,_,_,_,_,_,_,_,_,_,_,_,_,_,_,_,_,_,_,_,_,_,_,_,_,_,_,_,_,_,_,_,_,_,_,_,_,_,_,_,_,_,_,_,_,_, (a + 1), ys, rfl, by omega, by omega, by omega, .refl, (fun p q _ _ _ => by omega), H⟩ ?_
 intro q l w ⟨u8, u11, u12, u15, u16, u17, u18, u19, u20, u21, u22, u23, u24, u25, u26, u27, u28, u29, u30, u31, u32, u33, u34, u35, u36, u37, u38, u39, u40, u41, u42, u43, u44, u45, u46, u47, u48, u49, u50, u51, u52, u53, u54, u55, u56, u57, u58, u59, u60, u61, u62, u63, u64, u65, u66, u67, u68, u69, u70, u71, u72, u73, u74, u75, u76, u77, u78, u79, u80, u81, u82, u83, u84, u85, u86, u87, u88, u89, u90, u91, u92, u93, u94, u95, u96, u97, u98, u99, u100, u101, u102, u103, u104, u105, u106, u107, u108, u109, u110, u111, u112, u113, u114, u115, u116, u117, u118, u119, u120, u121, u122, u123, u124, u125, u126, u127, u128, u129, u130, u131, u132, u133, u134, u135, u136, u137, u138, u139, u140, i, zs, hl, hq, hai, hiz, hsw, hs, H⟩
 obtain rfl := hl.trans (rfl : _ = [_,_,_,_,_,_,_,_,_,_,_,_,_,_,_,_,_,_,_,_,_,_,_,_,_,_,_,_,_,_,_,_,_,_,_,_,_,_,_,_,_,_,_,_,_,_,_,_,_,_,_,_,_,_,_,_,_,_,_,_,_,_,_,_,_,_,_,_,_,_,_,_,_,_,_,_,_,_,_,_,_,_,_,_,_,_,_,_,_,_,_,_,_,_,_,_,_,_,_,_,_,_,_,_,_,_,_,_,_,_,_,_,_,_,_,_,_,_,_,_,_,_,_,_,_,_,_,_,_,_,_,_,_,_,_,_,_,_,_,_,_])
 clear hl
 have hlen := hsw.length
 refine c_seq ?_
 refine c_rseq (n := 141) ⟨rfl, rfl⟩ ?_
 refine s_val (r_move rfl) ?_
 refine s_val (r_lss rfl rfl) ?_
 refine c_nil (l' := [_,_,_,_,_,_,_,_,_,_,_,_,_,_,_,_,_,_,_,_,_,_,_,_,_,_,_,_,_,_,_,_,_,_,_,_,_,_,_,_,_,_,_,_,_,_,_,_,_,_,_,_,_,_,_,_,_,_,_,_,_,_,_,_,_,_,_,_,_,_,_,_,_,_,_,_,_,_,_,_,_,_,_,_,_,_,_,_,_,_,_,_,_,_,_,_,_,_,_,_,_,_,_,_,_,_,_,_,_,_,_,_,_,_,_,_,_,_,_,_,_,_,_,_,_,_,_,_,_,_,_,_,_,_,_,_,_,_,_,_,_]) rfl ?_
 refine c_if rfl (fun h16 => ?_) (fun h16 => ?_)
 ·skip
  refine wp_skip ?_
  refine x_thenNormal ?_
  refine c_seq ?_
  refine wp_block ?_
  refine c_seq ?_
  refine wp_block ?_
  refine c_loop (fun (l0 : List Value) (i : Nat) (l : List Value) (w : World) => ∃ (u19 u20 u21 u22 u23 u24 u25 u26 u27 u28 u29 u30 u31 u32 u33 u34 u35 u36 u37 u38 : Value) , l = ovr l0 [N_, N_, N_, N_, N_, N_, N_, N_, N_, Y_ (.int .i64 i), N_, N_, N_, N_, N_, N_, N_, N_, N_, Y_ u19, Y_ u20, Y_ u21, Y_ u22, Y_ u23, Y_ u24, Y_ u25, Y_ u26, Y_ u27, Y_ u28, Y_ u29, Y_ u30, Y_ u31, Y_ u32, Y_ u33, Y_ u34, Y_ u35, Y_ u36, Y_ u37, Y_ u38] ∧ a < i ∧ i ≤ z ∧ Srt fr0 frK a i zs ∧ St w0 [b] w [(b, .cells (rowC frC zs ++ sp).toArray 42 (0, 0))]) (fun (i : Nat) => z - i) i ⟨_,_,_,_,_,_,_,_,_,_,_,_,_,_,_,_,_,_,_,_, rfl, hai, hiz, hs, H⟩ ?_
  intro i l w ⟨u19, u20, u21, u22, u23, u24, u25, u26, u27, u28, u29, u30, u31, u32, u33, u34, u35, u36, u37, u38, hl, hai, hiz, hs, H⟩
  obtain rfl := hl.trans (rfl : _ = [_,_,_,_,_,_,_,_,_,_,_,_,_,_,_,_,_,_,_,_,_,_,_,_,_,_,_,_,_,_,_,_,_,_,_,_,_,_,_,_,_,_,_,_,_,_,_,_,_,_,_,_,_,_,_,_,_,_,_,_,_,_,_,_,_,_,_,_,_,_,_,_,_,_,_,_,_,_,_,_,_,_,_,_,_,_,_,_,_,_,_,_,_,_,_,_,_,_,_,_,_,_,_,_,_,_,_,_,_,_,_,_,_,_,_,_,_,_,_,_,_,_,_,_,_,_,_,_,_,_,_,_,_,_,_,_,_,_,_,_,_])
  clear hl
  refine c_seq ?_
  refine c_seq ?_
  refine d_begin (sz := 141) ⟨rfl, rfl⟩ (by kernel_rfl) H (H) rfl ?_
  intro w H
  refine d_take (i := 0) rfl (by kernel_rfl) (fun _ _ _ h => h) H (fun _ _ => r_move rfl) rfl ?_
  refine d_take (i := 1) rfl (by kernel_rfl) (fun _ _ _ h => h) H (fun _ _ => r_move rfl) rfl ?_
  refine d_take (i := 2) rfl (by kernel_rfl) (fun _ _ _ h => h) H (fun _ _ => r_lss rfl rfl) rfl ?_
  refine d_part (fun h21 => ?_) (fun h21 => ?_)
  ·skip
   refine d_take (i := 3) rfl (by kernel_rfl) (fun _ _ _ h => h) H (fun _ _ => r_move rfl) rfl ?_
   refine d_takeG (i := 4) rfl (by kernel_rfl) (fun _ _ _ h => h) rfl rfl H (fun _ _ => r_move rfl) rfl ?_
   refine d_takeG (i := 5) rfl (by kernel_rfl) (fun _ _ _ h => h) rfl rfl H (fun _ _ => r_move rfl) rfl ?_
   refine d_takeG (i := 6) rfl (by kernel_rfl) (fun _ _ _ h => h) rfl rfl H (fun _ _ => r_move rfl) rfl ?_
   refine d_takeG (i := 7) rfl (by kernel_rfl) (fun _ _ _ h => h) rfl rfl H (fun _ _ => r_indexAddrS Try.runUnderlying29 Try.sizeOf42 rfl rfl (by omega) (by omega)) rfl ?_
   refine d_takeG (i := 8) rfl (by kernel_rfl) (fun _ _ _ h => h) rfl rfl H (fun _ HS => r_loadn Try.isAgg42 Try.sizeOf42 rfl (HS.at 0 rfl) (rw_ld elFr fr0 zs sp (i) (by omega) (by omega)) (by first | exact (kC_length _) | exact (hC_length _) | exact (ceC_length _) | exact (ptC_length _ _ _ _) | exact (plV_length _ _ _) | exact (elFr.len _) | exact (frC_length _) | exact rfl)) rfl ?_
   refine d_takeG (i := 9) rfl (by kernel_rfl) (fun _ _ _ h => h) rfl rfl H (fun _ _ => r_move rfl) rfl ?_
   refine d_takeG (i := 10) rfl (by kernel_rfl) (fun _ _ _ h => h) rfl rfl H (fun _ _ => r_move rfl) rfl ?_
   refine d_takeG (i := 11) rfl (by kernel_rfl) (fun _ _ _ h => h) rfl rfl H (fun _ _ => r_sub rfl rfl (w_i64e (r := ((i - 1 : Nat) : Int)) (by omega) (by omega) (by omega))) rfl ?_
   refine d_takeG (i := 12) rfl (by kernel_rfl) (fun _ _ _ h => h) rfl rfl H (fun _ _ => r_indexAddrS Try.runUnderlying29 Try.sizeOf42 rfl rfl (by omega) (by omega)) rfl ?_
   refine d_takeG (i := 13) rfl (by kernel_rfl) (fun _ _ _ h => h) rfl rfl H (fun _ HS => r_loadn Try.isAgg42 Try.sizeOf42 rfl (HS.at 0 rfl) (rw_ld elFr fr0 zs sp (i - 1) (by omega) (by omega)) (by first | exact (kC_length _) | exact (hC_length _) | exact (ceC_length _) | exact (ptC_length _ _ _ _) | exact (plV_length _ _ _) | exact (elFr.len _) | exact (frC_length _) | exact rfl)) rfl ?_
   refine d_all1 (i := 14) (by kernel_rfl) ?_
   refine b_call rfl (go_some rfl rfl) (r_callv Try.call15 rfl (ec rfl (ec rfl en)) rfl) (rcmp_spec _ _ _) rfl ?_
   rintro v w ⟨rfl, HC⟩
   replace H := H.quiet HC
   refine ⟨H, ?_⟩
   refine d_takeG (i := 15) rfl (by kernel_rfl) (fun _ _ _ h => h) rfl rfl H (fun _ _ => r_lss rfl rfl) rfl ?_
   refine d_takeG (i := 16) rfl (by kernel_rfl) (fun _ _ _ h => h) rfl rfl H (fun _ _ => r_notp rfl) rfl ?_
   refine d_take (i := 17) rfl (by kernel_rfl) (fun _ _ _ h => h) H (fun _ _ => r_pickt rfl rfl) rfl ?_
   refine d_done (l' := [_,_,_,_,_,_,_,_,_,_,_,_,_,_,_,_,_,_,_,_,_,_,_,_,_,_,_,_,_,_,_,_,_,_,_,_,_,_,_,_,_,_,_,_,_,_,_,_,_,_,_,_,_,_,_,_,_,_,_,_,_,_,_,_,_,_,_,_,_,_,_,_,_,_,_,_,_,_,_,_,_,_,_,_,_,_,_,_,_,_,_,_,_,_,_,_,_,_,_,_,_,_,_,_,_,_,_,_,_,_,_,_,_,_,_,_,_,_,_,_,_,_,_,_,_,_,_,_,_,_,_,_,_,_,_,_,_,_,_,_,_]) (by kernel_rfl) rfl ?_
   refine x_thenNormal ?_
   refine c_if rfl (fun h36 => ?_) (fun h36 => ?_)
   ·skip
    have hcm36 := mt cmpI_neg.2 h36
    refine wp_skip ?_
    refine x_thenNormal ?_
    refine wp_block ?_
    refine c_region (n := 141) ⟨rfl, rfl⟩ ?_
    refine s_val (r_move rfl) ?_
    refine s_val (r_add rfl rfl (w_i64 (by omega) (by omega))) ?_
    refine s_val (r_assign rfl) ?_
    refine c_nil0 (l' := [_,_,_,_,_,_,_,_,_,_,_,_,_,_,_,_,_,_,_,_,_,_,_,_,_,_,_,_,_,_,_,_,_,_,_,_,_,_,_,_,_,_,_,_,_,_,_,_,_,_,_,_,_,_,_,_,_,_,_,_,_,_,_,_,_,_,_,_,_,_,_,_,_,_,_,_,_,_,_,_,_,_,_,_,_,_,_,_,_,_,_,_,_,_,_,_,_,_,_,_,_,_,_,_,_,_,_,_,_,_,_,_,_,_,_,_,_,_,_,_,_,_,_,_,_,_,_,_,_,_,_,_,_,_,_,_,_,_,_,_,_]) rfl ?_
    refine x_blockNormal ?_
    exact ⟨i + 1, _, rfl, ⟨_,_,_,_,_,_,_,_,_,_,_,_,_,_,_,_,_,_,_,_, rfl, by omega, by omega, (hs.snoc hcm36), H⟩, by omega⟩
   ·skip
    have hcm36 := cmpI_neg.1 (Decidable.not_not.1 h36)
    refine wp_exit (x_thenExit (x_thenExit (x_blockHit ?_)))
    refine x_thenNormal ?_
    refine c_seq ?_
    refine c_rseq (n := 141) ⟨rfl, rfl⟩ ?_
    refine s_val (r_move rfl) ?_
    refine s_val (r_move rfl) ?_
    refine s_val (r_eql rfl rfl) ?_
    refine c_nil (l' := [_,_,_,_,_,_,_,_,_,_,_,_,_,_,_,_,_,_,_,_,_,_,_,_,_,_,_,_,_,_,_,_,_,_,_,_,_,_,_,_,_,_,_,_,_,_,_,_,_,_,_,_,_,_,_,_,_,_,_,_,_,_,_,_,_,_,_,_,_,_,_,_,_,_,_,_,_,_,_,_,_,_,_,_,_,_,_,_,_,_,_,_,_,_,_,_,_,_,_,_,_,_,_,_,_,_,_,_,_,_,_,_,_,_,_,_,_,_,_,_,_,_,_,_,_,_,_,_,_,_,_,_,_,_,_,_,_,_,_,_,_]) rfl ?_
    refine c_if rfl (fun h41 => ?_) (fun h41 => ?_)
    ·skip
     obtain rfl : i = z := by omega
     refine c_rseq (n := 141) ⟨rfl, rfl⟩ ?_
     refine s_val (r_assign rfl) ?_
     refine c_nil (l' := [_,_,_,_,_,_,_,_,_,_,_,_,_,_,_,_,_,_,_,_,_,_,_,_,_,_,_,_,_,_,_,_,_,_,_,_,_,_,_,_,_,_,_,_,_,_,_,_,_,_,_,_,_,_,_,_,_,_,_,_,_,_,_,_,_,_,_,_,_,_,_,_,_,_,_,_,_,_,_,_,_,_,_,_,_,_,_,_,_,_,_,_,_,_,_,_,_,_,_,_,_,_,_,_,_,_,_,_,_,_,_,_,_,_,_,_,_,_,_,_,_,_,_,_,_,_,_,_,_,_,_,_,_,_,_,_,_,_,_,_,_]) rfl ?_
     refine wp_ret (x_thenRet (x_blockRet (x_thenRet (x_thenRet (x_blockRet (x_thenRet ?_))))))
     refine e_ret (res1 rfl rfl) ⟨_, rfl, ?_⟩
     exact ⟨true, zs, rfl, hsw, fun _ => hs, H⟩
    ·skip
     skip
     refine wp_skip ?_
     refine x_thenNormal ?_
     refine c_seq ?_
     refine c_rseq (n := 141) ⟨rfl, rfl⟩ ?_
     refine s_val (r_move rfl) ?_
     refine s_val (r_move rfl) ?_
     refine s_val (r_sub rfl rfl (w_i64e (r := ((z - a : Nat) : Int)) (by omega) (by omega) (by omega))) ?_
     refine s_val (r_lss rfl rfl) ?_
     refine c_nil (l' := [_,_,_,_,_,_,_,_,_,_,_,_,_,_,_,_,_,_,_,_,_,_,_,_,_,_,_,_,_,_,_,_,_,_,_,_,_,_,_,_,_,_,_,_,_,_,_,_,_,_,_,_,_,_,_,_,_,_,_,_,_,_,_,_,_,_,_,_,_,_,_,_,_,_,_,_,_,_,_,_,_,_,_,_,_,_,_,_,_,_,_,_,_,_,_,_,_,_,_,_,_,_,_,_,_,_,_,_,_,_,_,_,_,_,_,_,_,_,_,_,_,_,_,_,_,_,_,_,_,_,_,_,_,_,_,_,_,_,_,_,_]) rfl ?_
     refine c_if rfl (fun h45 => ?_) (fun h45 => ?_)
     ·skip
      refine c_rseq (n := 141) ⟨rfl, rfl⟩ ?_
      refine s_val (r_assign rfl) ?_
      refine c_nil (l' := [_,_,_,_,_,_,_,_,_,_,_,_,_,_,_,_,_,_,_,_,_,_,_,_,_,_,_,_,_,_,_,_,_,_,_,_,_,_,_,_,_,_,_,_,_,_,_,_,_,_,_,_,_,_,_,_,_,_,_,_,_,_,_,_,_,_,_,_,_,_,_,_,_,_,_,_,_,_,_,_,_,_,_,_,_,_,_,_,_,_,_,_,_,_,_,_,_,_,_,_,_,_,_,_,_,_,_,_,_,_,_,_,_,_,_,_,_,_,_,_,_,_,_,_,_,_,_,_,_,_,_,_,_,_,_,_,_,_,_,_,_]) rfl ?_
      refine wp_ret (x_thenRet (x_blockRet (x_thenRet (x_thenRet (x_blockRet (x_thenRet ?_))))))
      refine e_ret (res1 rfl rfl) ⟨_, rfl, ?_⟩
      exact ⟨false, zs, rfl, hsw, (fun h => nomatch h), H⟩
     ·skip
      refine wp_skip ?_
      refine x_thenNormal ?_
      refine c_seq ?_
      refine d_begin (sz := 141) ⟨rfl, rfl⟩ (by kernel_rfl) H (H.sub (.cons _ .slnil)) rfl ?_
      intro w H
      refine d_take (i := 0) rfl (by kernel_rfl) (fun _ _ _ h => h) (H.sub (.cons _ .slnil)) (fun _ _ => r_move rfl) rfl ?_
      refine d_take (i := 1) rfl (by kernel_rfl) (fun _ _ _ h => h) (H.sub (.cons _ .slnil)) (fun _ _ => r_move rfl) rfl ?_
      refine d_take (i := 2) rfl (by kernel_rfl) (fun _ _ _ h => h) (H.sub (.cons _ .slnil)) (fun _ _ => r_move rfl) rfl ?_
      refine d_take (i := 3) rfl (by kernel_rfl) (fun _ _ _ h => h) (H.sub (.cons _ .slnil)) (fun _ _ => r_move rfl) rfl ?_
      refine d_take (i := 4) rfl (by kernel_rfl) (fun _ _ _ h => h) (H.sub (.cons _ .slnil)) (fun _ _ => r_sub rfl rfl (w_i64e (r := ((i - 1 : Nat) : Int)) (by omega) (by omega) (by omega))) rfl ?_
      refine d_take (i := 5) rfl (by kernel_rfl) (fun _ _ _ h => h) (H.sub (.cons _ .slnil)) (fun _ _ => r_move rfl) rfl ?_
      refine d_take (i := 6) rfl (by kernel_rfl) (fun _ _ _ h => h) (H.sub (.cons _ .slnil)) (fun _ _ => r_move rfl) rfl ?_
      refine d_take (i := 7) rfl (by kernel_rfl) (fun _ _ _ h => h) (H.sub (.cons _ .slnil)) (fun _ _ => r_sub rfl rfl (w_i64e (r := ((i - 1 : Nat) : Int)) (by omega) (by omega) (by omega))) rfl ?_
      refine d_take (i := 8) rfl (by kernel_rfl) (fun _ _ _ h => h) (H.sub (.cons _ .slnil)) (fun _ _ => r_indexAddrS Try.runUnderlying29 Try.sizeOf42 rfl rfl (by omega) (by omega)) rfl ?_
      refine d_take (i := 10) rfl (by kernel_rfl) (fun _ _ _ h => h) (H.sub (.cons _ .slnil)) (fun _ _ => r_move rfl) rfl ?_
      refine d_take (i := 11) rfl (by kernel_rfl) (fun _ _ _ h => h) (H.sub (.cons _ .slnil)) (fun _ _ => r_move rfl) rfl ?_
      refine d_take (i := 12) rfl (by kernel_rfl) (fun _ _ _ h => h) (H.sub (.cons _ .slnil)) (fun _ _ => r_indexAddrS Try.runUnderlying29 Try.sizeOf42 rfl rfl (by omega) (by omega)) rfl ?_
      refine d_all2 (i := 9) (j := 13) (by kernel_rfl) ?_ ?_
      ·skip
       refine b_val rfl go_none (r_loadn Try.isAgg42 Try.sizeOf42 rfl (H.at 0 rfl) (rw_ld elFr fr0 zs sp (i - 1) (by omega) (by omega)) (by first | exact (kC_length _) | exact (hC_length _) | exact (ceC_length _) | exact (ptC_length _ _ _ _) | exact (plV_length _ _ _) | exact (elFr.len _) | exact (frC_length _) | exact rfl)) rfl (H.sub (.cons _ .slnil)) ?_
       refine d_all1 (i := 13) (by kernel_rfl) ?_
       refine b_val rfl go_none (r_loadn Try.isAgg42 Try.sizeOf42 rfl (H.at 0 rfl) (rw_ld elFr fr0 zs sp (i) (by omega) (by omega)) (by first | exact (kC_length _) | exact (hC_length _) | exact (ceC_length _) | exact (ptC_length _ _ _ _) | exact (plV_length _ _ _) | exact (elFr.len _) | exact (frC_length _) | exact rfl)) rfl (H.sub (.cons _ .slnil)) ?_
       refine d_take (i := 14) rfl (by kernel_rfl) (fun _ _ _ h => h) (H.sub (.cons _ .slnil)) (fun _ _ => r_indexAddrS Try.runUnderlying29 Try.sizeOf42 rfl rfl (by omega) (by omega)) rfl ?_
       refine d_all1 (i := 15) (by kernel_rfl) ?_
       refine b_st rfl go_none (m_storen H 0 12 Try.sizeOf42 rfl rfl (by first | exact (kC_length _) | exact (hC_length _) | exact (ceC_length _) | exact (ptC_length _ _ _ _) | exact (plV_length _ _ _) | exact (elFr.len _) | exact (frC_length _)) (by first | exact (kC_one _) | exact (hC_one _) | exact (ceC_one _) | exact (ptC_one _ _ _ _) | exact (plV_one _ _ _) | exact (elFr.one _) | exact (frC_one _)) rfl (rw_room elFr zs sp (i) (by omega) (by omega)) (rw_splice elFr zs sp _ (i) (by omega) (by omega))) (L' := [_]) rfl rfl (fun _ H => (H.sub (.cons _ .slnil))) ?_
       intro w H
       refine d_take (i := 16) rfl (by kernel_rfl) (fun _ _ _ h => h) (H.sub (.cons _ .slnil)) (fun _ _ => r_indexAddrS Try.runUnderlying29 Try.sizeOf42 rfl rfl (by omega) (by omega)) rfl ?_
       refine d_all1 (i := 17) (by kernel_rfl) ?_
       refine b_st rfl go_none (m_storen H 0 12 Try.sizeOf42 rfl rfl (by first | exact (kC_length _) | exact (hC_length _) | exact (ceC_length _) | exact (ptC_length _ _ _ _) | exact (plV_length _ _ _) | exact (elFr.len _) | exact (frC_length _)) (by first | exact (kC_one _) | exact (hC_one _) | exact (ceC_one _) | exact (ptC_one _ _ _ _) | exact (plV_one _ _ _) | exact (elFr.one _) | exact (frC_one _)) rfl (rw_room elFr _ sp (i - 1) (by rw [List.length_set]; omega) (by omega)) (rw_splice elFr _ sp _ (i - 1) (by rw [List.length_set]; omega) (by omega))) (L' := [_]) rfl rfl (fun _ H => (H.sub (.cons _ .slnil))) ?_
       intro w H
       refine d_done (l' := [_,_,_,_,_,_,_,_,_,_,_,_,_,_,_,_,_,_,_,_,_,_,_,_,_,_,_,_,_,_,_,_,_,_,_,_,_,_,_,_,_,_,_,_,_,_,_,_,_,_,_,_,_,_,_,_,_,_,_,_,_,_,_,_,_,_,_,_,_,_,_,_,_,_,_,_,_,_,_,_,_,_,_,_,_,_,_,_,_,_,_,_,_,_,_,_,_,_,_,_,_,_,_,_,_,_,_,_,_,_,_,_,_,_,_,_,_,_,_,_,_,_,_,_,_,_,_,_,_,_,_,_,_,_,_,_,_,_,_,_,_]) (by kernel_rfl) rfl ?_
       refine x_thenNormal ?_
       refine c_cut (fun (l0 : List Value) (l : List Value) (w : World) => ∃ (u11 u62 u63 u64 u65 u66 u67 u68 u69 u70 u71 u72 u73 u74 u75 u76 u77 u78 u79 u80 u81 u82 u83 u84 u85 u86 u87 u88 u89 u90 u91 u92 u93 u94 u95 u96 u97 u98 u99 u100 : Value) (zs2 : List FrL), l = ovr l0 [N_, N_, N_, N_, N_, N_, N_, N_, N_, N_, N_, Y_ u11, N_, N_, N_, N_, N_, N_, N_, N_, N_, N_, N_, N_, N_, N_, N_, N_, N_, N_, N_, N_, N_, N_, N_, N_, N_, N_, N_, N_, N_, N_, N_, N_, N_, N_, N_, N_, N_, N_, N_, N_, N_, N_, N_, N_, N_, N_, N_, N_, N_, N_, Y_ u62, Y_ u63, Y_ u64, Y_ u65, Y_ u66, Y_ u67, Y_ u68, Y_ u69, Y_ u70, Y_ u71, Y_ u72, Y_ u73, Y_ u74, Y_ u75, Y_ u76, Y_ u77, Y_ u78, Y_ u79, Y_ u80, Y_ u81, Y_ u82, Y_ u83, Y_ u84, Y_ u85, Y_ u86, Y_ u87, Y_ u88, Y_ u89, Y_ u90, Y_ u91, Y_ u92, Y_ u93, Y_ u94, Y_ u95, Y_ u96, Y_ u97, Y_ u98, Y_ u99, Y_ u100] ∧ Sw fr0 a z ys zs2 ∧ Srt fr0 frK a i zs2 ∧ St w0 [b] w [(b, .cells (rowC frC zs2 ++ sp).toArray 42 (0, 0))]) ?_ ?_
       ·skip
        refine c_rseq (n := 141) ⟨rfl, rfl⟩ ?_
        have hsw1 : Sw fr0 a z ys (swp2 fr0 zs i (i - 1)) := .step i (i - 1) hsw ⟨by omega, by omega⟩ ⟨by omega, by omega⟩ he
        have hin1 := hs.pair (by omega) (by omega) (cmpI_neg.1 (Decidable.not_not.1 h36))
        have hlen1 := hsw1.length
        refine s_val (r_move rfl) ?_
        refine s_val (r_move rfl) ?_
        refine s_val (r_sub rfl rfl (w_i64e (r := ((i - a : Nat) : Int)) (by omega) (by omega) (by omega))) ?_
        refine s_val (r_geq rfl rfl) ?_
        refine c_nil (l' := [_,_,_,_,_,_,_,_,_,_,_,_,_,_,_,_,_,_,_,_,_,_,_,_,_,_,_,_,_,_,_,_,_,_,_,_,_,_,_,_,_,_,_,_,_,_,_,_,_,_,_,_,_,_,_,_,_,_,_,_,_,_,_,_,_,_,_,_,_,_,_,_,_,_,_,_,_,_,_,_,_,_,_,_,_,_,_,_,_,_,_,_,_,_,_,_,_,_,_,_,_,_,_,_,_,_,_,_,_,_,_,_,_,_,_,_,_,_,_,_,_,_,_,_,_,_,_,_,_,_,_,_,_,_,_,_,_,_,_,_,_]) rfl ?_
        refine c_if rfl (fun h65 => ?_) (fun h65 => ?_)
        ·skip
         refine c_rseq (n := 141) ⟨rfl, rfl⟩ ?_
         refine s_val (r_move rfl) ?_
         refine s_val (r_sub rfl rfl (w_i64e (r := ((i - 1 : Nat) : Int)) (by omega) (by omega) (by omega))) ?_
         refine s_val (r_assign rfl) ?_
         refine c_nil (l' := [_,_,_,_,_,_,_,_,_,_,_,_,_,_,_,_,_,_,_,_,_,_,_,_,_,_,_,_,_,_,_,_,_,_,_,_,_,_,_,_,_,_,_,_,_,_,_,_,_,_,_,_,_,_,_,_,_,_,_,_,_,_,_,_,_,_,_,_,_,_,_,_,_,_,_,_,_,_,_,_,_,_,_,_,_,_,_,_,_,_,_,_,_,_,_,_,_,_,_,_,_,_,_,_,_,_,_,_,_,_,_,_,_,_,_,_,_,_,_,_,_,_,_,_,_,_,_,_,_,_,_,_,_,_,_,_,_,_,_,_,_]) rfl ?_
         refine wp_block ?_
         refine c_loop (fun (l0 : List Value) (j : Nat) (l : List Value) (w : World) => ∃ (u68 u69 u70 u71 u72 u73 u74 u75 u76 u77 u78 u79 u80 u81 u82 u83 u84 u85 u86 u87 u88 u89 u90 u91 u92 u93 u94 u95 u96 u97 u98 u99 u100 : Value) (zs2 : List FrL), l = ovr l0 [N_, N_, N_, N_, N_, N_, N_, N_, N_, N_, N_, Y_ (.int .i64 (j : Nat)), N_, N_, N_, N_, N_, N_, N_, N_, N_, N_, N_, N_, N_, N_, N_, N_, N_, N_, N_, N_, N_, N_, N_, N_, N_, N_, N_, N_, N_, N_, N_, N_, N_, N_, N_, N_, N_, N_, N_, N_, N_, N_, N_, N_, N_, N_, N_, N_, N_, N_, N_, N_, N_, N_, N_, N_, Y_ u68, Y_ u69, Y_ u70, Y_ u71, Y_ u72, Y_ u73, Y_ u74, Y_ u75, Y_ u76, Y_ u77, Y_ u78, Y_ u79, Y_ u80, Y_ u81, Y_ u82, Y_ u83, Y_ u84, Y_ u85, Y_ u86, Y_ u87, Y_ u88, Y_ u89, Y_ u90, Y_ u91, Y_ u92, Y_ u93, Y_ u94, Y_ u95, Y_ u96, Y_ u97, Y_ u98, Y_ u99, Y_ u100] ∧ a ≤ j ∧ j ≤ i - 1 ∧ Sw fr0 a z ys zs2 ∧ Ins fr0 frK a i j zs2 ∧ St w0 [b] w [(b, .cells (rowC frC zs2 ++ sp).toArray 42 (0, 0))]) (fun (j : Nat) => j) (i - 1) ⟨_,_,_,_,_,_,_,_,_,_,_,_,_,_,_,_,_,_,_,_,_,_,_,_,_,_,_,_,_,_,_,_,_,_, rfl, by omega, by omega, hsw1, hin1, H⟩ ?_
         intro j l w ⟨u68, u69, u70, u71, u72, u73, u74, u75, u76, u77, u78, u79, u80, u81, u82, u83, u84, u85, u86, u87, u88, u89, u90, u91, u92, u93, u94, u95, u96, u97, u98, u99, u100, zs2, hl, hja, hji, hsw2, hin, H⟩
         obtain rfl := hl.trans (rfl : _ = [_,_,_,_,_,_,_,_,_,_,_,_,_,_,_,_,_,_,_,_,_,_,_,_,_,_,_,_,_,_,_,_,_,_,_,_,_,_,_,_,_,_,_,_,_,_,_,_,_,_,_,_,_,_,_,_,_,_,_,_,_,_,_,_,_,_,_,_,_,_,_,_,_,_,_,_,_,_,_,_,_,_,_,_,_,_,_,_,_,_,_,_,_,_,_,_,_,_,_,_,_,_,_,_,_,_,_,_,_,_,_,_,_,_,_,_,_,_,_,_,_,_,_,_,_,_,_,_,_,_,_,_,_,_,_,_,_,_,_,_,_])
         clear hl
         have hlen2 := hsw2.length
         refine c_seq ?_
         refine c_rseq (n := 141) ⟨rfl, rfl⟩ ?_
         refine s_val (r_move rfl) ?_
         refine s_val (r_geq rfl rfl) ?_
         refine c_nil (l' := [_,_,_,_,_,_,_,_,_,_,_,_,_,_,_,_,_,_,_,_,_,_,_,_,_,_,_,_,_,_,_,_,_,_,_,_,_,_,_,_,_,_,_,_,_,_,_,_,_,_,_,_,_,_,_,_,_,_,_,_,_,_,_,_,_,_,_,_,_,_,_,_,_,_,_,_,_,_,_,_,_,_,_,_,_,_,_,_,_,_,_,_,_,_,_,_,_,_,_,_,_,_,_,_,_,_,_,_,_,_,_,_,_,_,_,_,_,_,_,_,_,_,_,_,_,_,_,_,_,_,_,_,_,_,_,_,_,_,_,_,_]) rfl ?_
         refine c_if rfl (fun h69 => ?_) (fun h69 => ?_)
         ·skip
          refine wp_skip ?_
          refine x_thenNormal ?_
          refine c_seq ?_
          refine wp_block ?_
          refine c_seq ?_
          refine c_seq ?_
          refine d_begin (sz := 141) ⟨rfl, rfl⟩ (by kernel_rfl) H (H) rfl ?_
          intro w H
          refine d_take (i := 0) rfl (by kernel_rfl) (fun _ _ _ h => h) H (fun _ _ => r_move rfl) rfl ?_
          refine d_take (i := 1) rfl (by kernel_rfl) (fun _ _ _ h => h) H (fun _ _ => r_move rfl) rfl ?_
          refine d_take (i := 2) rfl (by kernel_rfl) (fun _ _ _ h => h) H (fun _ _ => r_move rfl) rfl ?_
          refine d_take (i := 3) rfl (by kernel_rfl) (fun _ _ _ h => h) H (fun _ _ => r_indexAddrS Try.runUnderlying29 Try.sizeOf42 rfl rfl (by omega) (by omega)) rfl ?_
          refine d_take (i := 4) rfl (by kernel_rfl) (fun _ _ _ h => h) H (fun _ HS => r_loadn Try.isAgg42 Try.sizeOf42 rfl (HS.at 0 rfl) (rw_ld elFr fr0 zs2 sp (j) (by omega) (by omega)) (by first | exact (kC_length _) | exact (hC_length _) | exact (ceC_length _) | exact (ptC_length _ _ _ _) | exact (plV_length _ _ _) | exact (elFr.len _) | exact (frC_length _) | exact rfl)) rfl ?_
          refine d_take (i := 5) rfl (by kernel_rfl) (fun _ _ _ h => h) H (fun _ _ => r_move rfl) rfl ?_
          refine d_take (i := 6) rfl (by kernel_rfl) (fun _ _ _ h => h) H (fun _ _ => r_move rfl) rfl ?_
          refine d_take (i := 7) rfl (by kernel_rfl) (fun _ _ _ h => h) H (fun _ _ => r_sub rfl rfl (w_i64e (r := ((j - 1 : Nat) : Int)) (by omega) (by omega) (by omega))) rfl ?_
          refine d_take (i := 8) rfl (by kernel_rfl) (fun _ _ _ h => h) H (fun _ _ => r_indexAddrS Try.runUnderlying29 Try.sizeOf42 rfl rfl (by omega) (by omega)) rfl ?_
          refine d_take (i := 9) rfl (by kernel_rfl) (fun _ _ _ h => h) H (fun _ HS => r_loadn Try.isAgg42 Try.sizeOf42 rfl (HS.at 0 rfl) (rw_ld elFr fr0 zs2 sp (j - 1) (by omega) (by omega)) (by first | exact (kC_length _) | exact (hC_length _) | exact (ceC_length _) | exact (ptC_length _ _ _ _) | exact (plV_length _ _ _) | exact (elFr.len _) | exact (frC_length _) | exact rfl)) rfl ?_
          refine d_all1 (i := 10) (by kernel_rfl) ?_
          refine b_call rfl go_none (r_callv Try.call15 rfl (ec rfl (ec rfl en)) rfl) (rcmp_spec _ _ _) rfl ?_
          rintro v w ⟨rfl, HC⟩
          replace H := H.quiet HC
          refine ⟨H, ?_⟩
          refine d_take (i := 11) rfl (by kernel_rfl) (fun _ _ _ h => h) H (fun _ _ => r_lss rfl rfl) rfl ?_
          refine d_take (i := 12) rfl (by kernel_rfl) (fun _ _ _ h => h) H (fun _ _ => r_notp rfl) rfl ?_
          refine d_done (l' := [_,_,_,_,_,_,_,_,_,_,_,_,_,_,_,_,_,_,_,_,_,_,_,_,_,_,_,_,_,_,_,_,_,_,_,_,_,_,_,_,_,_,_,_,_,_,_,_,_,_,_,_,_,_,_,_,_,_,_,_,_,_,_,_,_,_,_,_,_,_,_,_,_,_,_,_,_,_,_,_,_,_,_,_,_,_,_,_,_,_,_,_,_,_,_,_,_,_,_,_,_,_,_,_,_,_,_,_,_,_,_,_,_,_,_,_,_,_,_,_,_,_,_,_,_,_,_,_,_,_,_,_,_,_,_,_,_,_,_,_,_]) (by kernel_rfl) rfl ?_
          refine x_thenNormal ?_
          refine c_if rfl (fun h84 => ?_) (fun h84 => ?_)
          ·skip
           have hcm84 := mt cmpI_neg.2 h84
           refine wp_exit (x_thenExit (x_blockMiss (by decide) (x_thenExit (x_thenExit (x_blockHit ?_)))))
           exact ⟨_, rfl, ⟨_,_,_,_,_,_,_,_,_,_,_,_,_,_,_,_,_,_,_,_,_,_,_,_,_,_,_,_,_,_,_,_,_,_,_,_,_,_,_,_,_, rfl, hsw2, ((hin.fin (by omega) (fun _ => hcm84)).cut (by omega)), H⟩⟩
          ·skip
           have hcm84 : kk fr0 frK zs2 j < kk fr0 frK zs2 (j - 1) := cmpI_neg.1 (Decidable.not_not.1 h84)
           have hja2 : a < j := by
            refine (Nat.lt_or_eq_of_le hja).resolve_right fun e => ?_
            subst e
            have := (hah.sw hsw2) (by omega) a (Nat.le_refl _) (by omega)
            omega
           refine wp_skip ?_
           refine x_thenNormal ?_
           refine d_begin (sz := 141) ⟨rfl, rfl⟩ (by kernel_rfl) H (H.sub (.cons _ .slnil)) rfl ?_
           intro w H
           refine d_take (i := 0) rfl (by kernel_rfl) (fun _ _ _ h => h) (H.sub (.cons _ .slnil)) (fun _ _ => r_move rfl) rfl ?_
           refine d_take (i := 1) rfl (by kernel_rfl) (fun _ _ _ h => h) (H.sub (.cons _ .slnil)) (fun _ _ => r_move rfl) rfl ?_
           refine d_take (i := 2) rfl (by kernel_rfl) (fun _ _ _ h => h) (H.sub (.cons _ .slnil)) (fun _ _ => r_move rfl) rfl ?_
           refine d_take (i := 3) rfl (by kernel_rfl) (fun _ _ _ h => h) (H.sub (.cons _ .slnil)) (fun _ _ => r_move rfl) rfl ?_
           refine d_take (i := 4) rfl (by kernel_rfl) (fun _ _ _ h => h) (H.sub (.cons _ .slnil)) (fun _ _ => r_sub rfl rfl (w_i64e (r := ((j - 1 : Nat) : Int)) (by omega) (by omega) (by omega))) rfl ?_
           refine d_take (i := 5) rfl (by kernel_rfl) (fun _ _ _ h => h) (H.sub (.cons _ .slnil)) (fun _ _ => r_move rfl) rfl ?_
           refine d_take (i := 6) rfl (by kernel_rfl) (fun _ _ _ h => h) (H.sub (.cons _ .slnil)) (fun _ _ => r_move rfl) rfl ?_
           refine d_take (i := 7) rfl (by kernel_rfl) (fun _ _ _ h => h) (H.sub (.cons _ .slnil)) (fun _ _ => r_sub rfl rfl (w_i64e (r := ((j - 1 : Nat) : Int)) (by omega) (by omega) (by omega))) rfl ?_
           refine d_take (i := 8) rfl (by kernel_rfl) (fun _ _ _ h => h) (H.sub (.cons _ .slnil)) (fun _ _ => r_indexAddrS Try.runUnderlying29 Try.sizeOf42 rfl rfl (by omega) (by omega)) rfl ?_
           refine d_take (i := 10) rfl (by kernel_rfl) (fun _ _ _ h => h) (H.sub (.cons _ .slnil)) (fun _ _ => r_move rfl) rfl ?_
           refine d_take (i := 11) rfl (by kernel_rfl) (fun _ _ _ h => h) (H.sub (.cons _ .slnil)) (fun _ _ => r_move rfl) rfl ?_
           refine d_take (i := 12) rfl (by kernel_rfl) (fun _ _ _ h => h) (H.sub (.cons _ .slnil)) (fun _ _ => r_indexAddrS Try.runUnderlying29 Try.sizeOf42 rfl rfl (by omega) (by omega)) rfl ?_
           refine d_all2 (i := 9) (j := 13) (by kernel_rfl) ?_ ?_
           ·skip
            refine b_val rfl go_none (r_loadn Try.isAgg42 Try.sizeOf42 rfl (H.at 0 rfl) (rw_ld elFr fr0 zs2 sp (j - 1) (by omega) (by omega)) (by first | exact (kC_length _) | exact (hC_length _) | exact (ceC_length _) | exact (ptC_length _ _ _ _) | exact (plV_length _ _ _) | exact (elFr.len _) | exact (frC_length _) | exact rfl)) rfl (H.sub (.cons _ .slnil)) ?_
            refine d_all1 (i := 13) (by kernel_rfl) ?_
            refine b_val rfl go_none (r_loadn Try.isAgg42 Try.sizeOf42 rfl (H.at 0 rfl) (rw_ld elFr fr0 zs2 sp (j) (by omega) (by omega)) (by first | exact (kC_length _) | exact (hC_length _) | exact (ceC_length _) | exact (ptC_length _ _ _ _) | exact (plV_length _ _ _) | exact (elFr.len _) | exact (frC_length _) | exact rfl)) rfl (H.sub (.cons _ .slnil)) ?_
            refine d_take (i := 14) rfl (by kernel_rfl) (fun _ _ _ h => h) (H.sub (.cons _ .slnil)) (fun _ _ => r_indexAddrS Try.runUnderlying29 Try.sizeOf42 rfl rfl (by omega) (by omega)) rfl ?_
            refine d_all1 (i := 15) (by kernel_rfl) ?_
            refine b_st rfl go_none (m_storen H 0 12 Try.sizeOf42 rfl rfl (by first | exact (kC_length _) | exact (hC_length _) | exact (ceC_length _) | exact (ptC_length _ _ _ _) | exact (plV_length _ _ _) | exact (elFr.len _) | exact (frC_length _)) (by first | exact (kC_one _) | exact (hC_one _) | exact (ceC_one _) | exact (ptC_one _ _ _ _) | exact (plV_one _ _ _) | exact (elFr.one _) | exact (frC_one _)) rfl (rw_room elFr zs2 sp (j) (by omega) (by omega)) (rw_splice elFr zs2 sp _ (j) (by omega) (by omega))) (L' := [_]) rfl rfl (fun _ H => (H.sub (.cons _ .slnil))) ?_
            intro w H
            refine d_take (i := 16) rfl (by kernel_rfl) (fun _ _ _ h => h) (H.sub (.cons _ .slnil)) (fun _ _ => r_indexAddrS Try.runUnderlying29 Try.sizeOf42 rfl rfl (by omega) (by omega)) rfl ?_
            refine d_all1 (i := 17) (by kernel_rfl) ?_
            refine b_st rfl go_none (m_storen H 0 12 Try.sizeOf42 rfl rfl (by first | exact (kC_length _) | exact (hC_length _) | exact (ceC_length _) | exact (ptC_length _ _ _ _) | exact (plV_length _ _ _) | exact (elFr.len _) | exact (frC_length _)) (by first | exact (kC_one _) | exact (hC_one _) | exact (ceC_one _) | exact (ptC_one _ _ _ _) | exact (plV_one _ _ _) | exact (elFr.one _) | exact (frC_one _)) rfl (rw_room elFr _ sp (j - 1) (by rw [List.length_set]; omega) (by omega)) (rw_splice elFr _ sp _ (j - 1) (by rw [List.length_set]; omega) (by omega))) (L' := [_]) rfl rfl (fun _ H => (H.sub (.cons _ .slnil))) ?_
            intro w H
            refine d_done (l' := [_,_,_,_,_,_,_,_,_,_,_,_,_,_,_,_,_,_,_,_,_,_,_,_,_,_,_,_,_,_,_,_,_,_,_,_,_,_,_,_,_,_,_,_,_,_,_,_,_,_,_,_,_,_,_,_,_,_,_,_,_,_,_,_,_,_,_,_,_,_,_,_,_,_,_,_,_,_,_,_,_,_,_,_,_,_,_,_,_,_,_,_,_,_,_,_,_,_,_,_,_,_,_,_,_,_,_,_,_,_,_,_,_,_,_,_,_,_,_,_,_,_,_,_,_,_,_,_,_,_,_,_,_,_,_,_,_,_,_,_,_]) (by kernel_rfl) rfl ?_
            refine x_blockNormal ?_
            refine x_thenNormal ?_
            refine c_region (n := 141) ⟨rfl, rfl⟩ ?_
            refine s_val (r_move rfl) ?_
            refine s_val (r_sub rfl rfl (w_i64e (r := ((j - 1 : Nat) : Int)) (by omega) (by omega) (by omega))) ?_
            refine s_val (r_assign rfl) ?_
            refine c_nil0 (l' := [_,_,_,_,_,_,_,_,_,_,_,_,_,_,_,_,_,_,_,_,_,_,_,_,_,_,_,_,_,_,_,_,_,_,_,_,_,_,_,_,_,_,_,_,_,_,_,_,_,_,_,_,_,_,_,_,_,_,_,_,_,_,_,_,_,_,_,_,_,_,_,_,_,_,_,_,_,_,_,_,_,_,_,_,_,_,_,_,_,_,_,_,_,_,_,_,_,_,_,_,_,_,_,_,_,_,_,_,_,_,_,_,_,_,_,_,_,_,_,_,_,_,_,_,_,_,_,_,_,_,_,_,_,_,_,_,_,_,_,_,_]) rfl ?_
            exact ⟨j - 1, _, rfl, ⟨_,_,_,_,_,_,_,_,_,_,_,_,_,_,_,_,_,_,_,_,_,_,_,_,_,_,_,_,_,_,_,_,_, swp2 fr0 zs2 j (j - 1), rfl, by omega, by omega, (.step j (j - 1) hsw2 ⟨by omega, by omega⟩ ⟨by omega, by omega⟩ he), (hin.step (by omega) (by omega) (by omega) hcm84), H⟩, by omega⟩
           ·skip
            refine b_val rfl go_none (r_loadn Try.isAgg42 Try.sizeOf42 rfl (H.at 0 rfl) (rw_ld elFr fr0 zs2 sp (j) (by omega) (by omega)) (by first | exact (kC_length _) | exact (hC_length _) | exact (ceC_length _) | exact (ptC_length _ _ _ _) | exact (plV_length _ _ _) | exact (elFr.len _) | exact (frC_length _) | exact rfl)) rfl (H.sub (.cons _ .slnil)) ?_
            refine d_all1 (i := 9) (by kernel_rfl) ?_
            refine b_val rfl go_none (r_loadn Try.isAgg42 Try.sizeOf42 rfl (H.at 0 rfl) (rw_ld elFr fr0 zs2 sp (j - 1) (by omega) (by omega)) (by first | exact (kC_length _) | exact (hC_length _) | exact (ceC_length _) | exact (ptC_length _ _ _ _) | exact (plV_length _ _ _) | exact (elFr.len _) | exact (frC_length _) | exact rfl)) rfl (H.sub (.cons _ .slnil)) ?_
            refine d_take (i := 14) rfl (by kernel_rfl) (fun _ _ _ h => h) (H.sub (.cons _ .slnil)) (fun _ _ => r_indexAddrS Try.runUnderlying29 Try.sizeOf42 rfl rfl (by omega) (by omega)) rfl ?_
            refine d_all1 (i := 15) (by kernel_rfl) ?_
            refine b_st rfl go_none (m_storen H 0 12 Try.sizeOf42 rfl rfl (by first | exact (kC_length _) | exact (hC_length _) | exact (ceC_length _) | exact (ptC_length _ _ _ _) | exact (plV_length _ _ _) | exact (elFr.len _) | exact (frC_length _)) (by first | exact (kC_one _) | exact (hC_one _) | exact (ceC_one _) | exact (ptC_one _ _ _ _) | exact (plV_one _ _ _) | exact (elFr.one _) | exact (frC_one _)) rfl (rw_room elFr zs2 sp (j) (by omega) (by omega)) (rw_splice elFr zs2 sp _ (j) (by omega) (by omega))) (L' := [_]) rfl rfl (fun _ H => (H.sub (.cons _ .slnil))) ?_
            intro w H
            refine d_take (i := 16) rfl (by kernel_rfl) (fun _ _ _ h => h) (H.sub (.cons _ .slnil)) (fun _ _ => r_indexAddrS Try.runUnderlying29 Try.sizeOf42 rfl rfl (by omega) (by omega)) rfl ?_
            refine d_all1 (i := 17) (by kernel_rfl) ?_
            refine b_st rfl go_none (m_storen H 0 12 Try.sizeOf42 rfl rfl (by first | exact (kC_length _) | exact (hC_length _) | exact (ceC_length _) | exact (ptC_length _ _ _ _) | exact (plV_length _ _ _) | exact (elFr.len _) | exact (frC_length _)) (by first | exact (kC_one _) | exact (hC_one _) | exact (ceC_one _) | exact (ptC_one _ _ _ _) | exact (plV_one _ _ _) | exact (elFr.one _) | exact (frC_one _)) rfl (rw_room elFr _ sp (j - 1) (by rw [List.length_set]; omega) (by omega)) (rw_splice elFr _ sp _ (j - 1) (by rw [List.length_set]; omega) (by omega))) (L' := [_]) rfl rfl (fun _ H => (H.sub (.cons _ .slnil))) ?_
            intro w H
            refine d_done (l' := [_,_,_,_,_,_,_,_,_,_,_,_,_,_,_,_,_,_,_,_,_,_,_,_,_,_,_,_,_,_,_,_,_,_,_,_,_,_,_,_,_,_,_,_,_,_,_,_,_,_,_,_,_,_,_,_,_,_,_,_,_,_,_,_,_,_,_,_,_,_,_,_,_,_,_,_,_,_,_,_,_,_,_,_,_,_,_,_,_,_,_,_,_,_,_,_,_,_,_,_,_,_,_,_,_,_,_,_,_,_,_,_,_,_,_,_,_,_,_,_,_,_,_,_,_,_,_,_,_,_,_,_,_,_,_,_,_,_,_,_,_]) (by kernel_rfl) rfl ?_
            refine x_blockNormal ?_
            refine x_thenNormal ?_
            refine c_region (n := 141) ⟨rfl, rfl⟩ ?_
            refine s_val (r_move rfl) ?_
            refine s_val (r_sub rfl rfl (w_i64e (r := ((j - 1 : Nat) : Int)) (by omega) (by omega) (by omega))) ?_
            refine s_val (r_assign rfl) ?_
            refine c_nil0 (l' := [_,_,_,_,_,_,_,_,_,_,_,_,_,_,_,_,_,_,_,_,_,_,_,_,_,_,_,_,_,_,_,_,_,_,_,_,_,_,_,_,_,_,_,_,_,_,_,_,_,_,_,_,_,_,_,_,_,_,_,_,_,_,_,_,_,_,_,_,_,_,_,_,_,_,_,_,_,_,_,_,_,_,_,_,_,_,_,_,_,_,_,_,_,_,_,_,_,_,_,_,_,_,_,_,_,_,_,_,_,_,_,_,_,_,_,_,_,_,_,_,_,_,_,_,_,_,_,_,_,_,_,_,_,_,_,_,_,_,_,_,_]) rfl ?_
            exact ⟨j - 1, _, rfl, ⟨_,_,_,_,_,_,_,_,_,_,_,_,_,_,_,_,_,_,_,_,_,_,_,_,_,_,_,_,_,_,_,_,_, swp2 fr0 zs2 j (j - 1), rfl, by omega, by omega, (.step j (j - 1) hsw2 ⟨by omega, by omega⟩ ⟨by omega, by omega⟩ he), (hin.step (by omega) (by omega) (by omega) hcm84), H⟩, by omega⟩
         ·skip
          refine wp_exit (x_thenExit (x_thenExit (x_blockHit ?_)))
          exact ⟨_, rfl, ⟨_,_,_,_,_,_,_,_,_,_,_,_,_,_,_,_,_,_,_,_,_,_,_,_,_,_,_,_,_,_,_,_,_,_,_,_,_,_,_,_,_, rfl, hsw2, ((hin.fin (by omega) (fun h => by omega)).cut (by omega)), H⟩⟩
        ·skip
         refine wp_skip ?_
         exact ⟨_, rfl, ⟨_,_,_,_,_,_,_,_,_,_,_,_,_,_,_,_,_,_,_,_,_,_,_,_,_,_,_,_,_,_,_,_,_,_,_,_,_,_,_,_,_, rfl, hsw1, ((hin1.fin (by omega) (fun h => by omega)).cut (by omega)), H⟩⟩
       ·skip
        rintro l w ⟨u11, u62, u63, u64, u65, u66, u67, u68, u69, u70, u71, u72, u73, u74, u75, u76, u77, u78, u79, u80, u81, u82, u83, u84, u85, u86, u87, u88, u89, u90, u91, u92, u93, u94, u95, u96, u97, u98, u99, u100, zs2, hl, hsw2, hs2, H⟩
        obtain rfl := hl.trans (rfl : _ = [_,_,_,_,_,_,_,_,_,_,_,_,_,_,_,_,_,_,_,_,_,_,_,_,_,_,_,_,_,_,_,_,_,_,_,_,_,_,_,_,_,_,_,_,_,_,_,_,_,_,_,_,_,_,_,_,_,_,_,_,_,_,_,_,_,_,_,_,_,_,_,_,_,_,_,_,_,_,_,_,_,_,_,_,_,_,_,_,_,_,_,_,_,_,_,_,_,_,_,_,_,_,_,_,_,_,_,_,_,_,_,_,_,_,_,_,_,_,_,_,_,_,_,_,_,_,_,_,_,_,_,_,_,_,_,_,_,_,_,_,_])
        clear hl
        have hlen2 := hsw2.length
        refine c_rseq (n := 141) ⟨rfl, rfl⟩ ?_
        refine s_val (r_move rfl) ?_
        refine s_val (r_move rfl) ?_
        refine s_val (r_sub rfl rfl (w_i64e (r := ((z - i : Nat) : Int)) (by omega) (by omega) (by omega))) ?_
        refine s_val (r_geq rfl rfl) ?_
        refine c_nil (l' := [_,_,_,_,_,_,_,_,_,_,_,_,_,_,_,_,_,_,_,_,_,_,_,_,_,_,_,_,_,_,_,_,_,_,_,_,_,_,_,_,_,_,_,_,_,_,_,_,_,_,_,_,_,_,_,_,_,_,_,_,_,_,_,_,_,_,_,_,_,_,_,_,_,_,_,_,_,_,_,_,_,_,_,_,_,_,_,_,_,_,_,_,_,_,_,_,_,_,_,_,_,_,_,_,_,_,_,_,_,_,_,_,_,_,_,_,_,_,_,_,_,_,_,_,_,_,_,_,_,_,_,_,_,_,_,_,_,_,_,_,_]) rfl ?_
        refine c_if rfl (fun h104 => ?_) (fun h104 => ?_)
        ·skip
         refine c_rseq (n := 141) ⟨rfl, rfl⟩ ?_
         refine s_val (r_move rfl) ?_
         refine s_val (r_add rfl rfl (w_i64e (r := ((i + 1 : Nat) : Int)) (by omega) (by omega) (by omega))) ?_
         refine s_val (r_assign rfl) ?_
         refine c_nil (l' := [_,_,_,_,_,_,_,_,_,_,_,_,_,_,_,_,_,_,_,_,_,_,_,_,_,_,_,_,_,_,_,_,_,_,_,_,_,_,_,_,_,_,_,_,_,_,_,_,_,_,_,_,_,_,_,_,_,_,_,_,_,_,_,_,_,_,_,_,_,_,_,_,_,_,_,_,_,_,_,_,_,_,_,_,_,_,_,_,_,_,_,_,_,_,_,_,_,_,_,_,_,_,_,_,_,_,_,_,_,_,_,_,_,_,_,_,_,_,_,_,_,_,_,_,_,_,_,_,_,_,_,_,_,_,_,_,_,_,_,_,_]) rfl ?_
         refine wp_block ?_
         refine c_loop (fun (l0 : List Value) (j : Nat) (l : List Value) (w : World) => ∃ (u107 u108 u109 u110 u111 u112 u113 u114 u115 u116 u117 u118 u119 u120 u121 u122 u123 u124 u125 u126 u127 u128 u129 u130 u131 u132 u133 u134 u135 u136 u137 u138 u139 u140 : Value) (zs3 : List FrL), l = ovr l0 [N_, N_, N_, N_, N_, N_, N_, N_, N_, N_, N_, N_, Y_ (.int .i64 (j : Nat)), N_, N_, N_, N_, N_, N_, N_, N_, N_, N_, N_, N_, N_, N_, N_, N_, N_, N_, N_, N_, N_, N_, N_, N_, N_, N_, N_, N_, N_, N_, N_, N_, N_, N_, N_, N_, N_, N_, N_, N_, N_, N_, N_, N_, N_, N_, N_, N_, N_, N_, N_, N_, N_, N_, N_, N_, N_, N_, N_, N_, N_, N_, N_, N_, N_, N_, N_, N_, N_, N_, N_, N_, N_, N_, N_, N_, N_, N_, N_, N_, N_, N_, N_, N_, N_, N_, N_, N_, N_, N_, N_, N_, N_, N_, Y_ u107, Y_ u108, Y_ u109, Y_ u110, Y_ u111, Y_ u112, Y_ u113, Y_ u114, Y_ u115, Y_ u116, Y_ u117, Y_ u118, Y_ u119, Y_ u120, Y_ u121, Y_ u122, Y_ u123, Y_ u124, Y_ u125, Y_ u126, Y_ u127, Y_ u128, Y_ u129, Y_ u130, Y_ u131, Y_ u132, Y_ u133, Y_ u134, Y_ u135, Y_ u136, Y_ u137, Y_ u138, Y_ u139, Y_ u140] ∧ i + 1 ≤ j ∧ j ≤ z ∧ Sw fr0 a z ys zs3 ∧ Srt fr0 frK a i zs3 ∧ St w0 [b] w [(b, .cells (rowC frC zs3 ++ sp).toArray 42 (0, 0))]) (fun (j : Nat) => z - j) (i + 1) ⟨_,_,_,_,_,_,_,_,_,_,_,_,_,_,_,_,_,_,_,_,_,_,_,_,_,_,_,_,_,_,_,_,_,_,_, rfl, by omega, by omega, hsw2, hs2, H⟩ ?_
         intro j l w ⟨u107, u108, u109, u110, u111, u112, u113, u114, u115, u116, u117, u118, u119, u120, u121, u122, u123, u124, u125, u126, u127, u128, u129, u130, u131, u132, u133, u134, u135, u136, u137, u138, u139, u140, zs3, hl, hji, hjz, hsw3, hs3, H⟩
         obtain rfl := hl.trans (rfl : _ = [_,_,_,_,_,_,_,_,_,_,_,_,_,_,_,_,_,_,_,_,_,_,_,_,_,_,_,_,_,_,_,_,_,_,_,_,_,_,_,_,_,_,_,_,_,_,_,_,_,_,_,_,_,_,_,_,_,_,_,_,_,_,_,_,_,_,_,_,_,_,_,_,_,_,_,_,_,_,_,_,_,_,_,_,_,_,_,_,_,_,_,_,_,_,_,_,_,_,_,_,_,_,_,_,_,_,_,_,_,_,_,_,_,_,_,_,_,_,_,_,_,_,_,_,_,_,_,_,_,_,_,_,_,_,_,_,_,_,_,_,_])
         clear hl
         have hlen3 := hsw3.length
         refine c_seq ?_
         refine c_rseq (n := 141) ⟨rfl, rfl⟩ ?_
         refine s_val (r_move rfl) ?_
         refine s_val (r_move rfl) ?_
         refine s_val (r_lss rfl rfl) ?_
         refine c_nil (l' := [_,_,_,_,_,_,_,_,_,_,_,_,_,_,_,_,_,_,_,_,_,_,_,_,_,_,_,_,_,_,_,_,_,_,_,_,_,_,_,_,_,_,_,_,_,_,_,_,_,_,_,_,_,_,_,_,_,_,_,_,_,_,_,_,_,_,_,_,_,_,_,_,_,_,_,_,_,_,_,_,_,_,_,_,_,_,_,_,_,_,_,_,_,_,_,_,_,_,_,_,_,_,_,_,_,_,_,_,_,_,_,_,_,_,_,_,_,_,_,_,_,_,_,_,_,_,_,_,_,_,_,_,_,_,_,_,_,_,_,_,_]) rfl ?_
         refine c_if rfl (fun h109 => ?_) (fun h109 => ?_)
         ·skip
          refine wp_skip ?_
          refine x_thenNormal ?_
          refine c_seq ?_
          refine wp_block ?_
          refine c_seq ?_
          refine c_seq ?_
          refine d_begin (sz := 141) ⟨rfl, rfl⟩ (by kernel_rfl) H (H) rfl ?_
          intro w H
          refine d_take (i := 0) rfl (by kernel_rfl) (fun _ _ _ h => h) H (fun _ _ => r_move rfl) rfl ?_
          refine d_take (i := 1) rfl (by kernel_rfl) (fun _ _ _ h => h) H (fun _ _ => r_move rfl) rfl ?_
          refine d_take (i := 2) rfl (by kernel_rfl) (fun _ _ _ h => h) H (fun _ _ => r_move rfl) rfl ?_
          refine d_take (i := 3) rfl (by kernel_rfl) (fun _ _ _ h => h) H (fun _ _ => r_indexAddrS Try.runUnderlying29 Try.sizeOf42 rfl rfl (by omega) (by omega)) rfl ?_
          refine d_take (i := 4) rfl (by kernel_rfl) (fun _ _ _ h => h) H (fun _ HS => r_loadn Try.isAgg42 Try.sizeOf42 rfl (HS.at 0 rfl) (rw_ld elFr fr0 zs3 sp (j) (by omega) (by omega)) (by first | exact (kC_length _) | exact (hC_length _) | exact (ceC_length _) | exact (ptC_length _ _ _ _) | exact (plV_length _ _ _) | exact (elFr.len _) | exact (frC_length _) | exact rfl)) rfl ?_
          refine d_take (i := 5) rfl (by kernel_rfl) (fun _ _ _ h => h) H (fun _ _ => r_move rfl) rfl ?_
          refine d_take (i := 6) rfl (by kernel_rfl) (fun _ _ _ h => h) H (fun _ _ => r_move rfl) rfl ?_
          refine d_take (i := 7) rfl (by kernel_rfl) (fun _ _ _ h => h) H (fun _ _ => r_sub rfl rfl (w_i64e (r := ((j - 1 : Nat) : Int)) (by omega) (by omega) (by omega))) rfl ?_
          refine d_take (i := 8) rfl (by kernel_rfl) (fun _ _ _ h => h) H (fun _ _ => r_indexAddrS Try.runUnderlying29 Try.sizeOf42 rfl rfl (by omega) (by omega)) rfl ?_
          refine d_take (i := 9) rfl (by kernel_rfl) (fun _ _ _ h => h) H (fun _ HS => r_loadn Try.isAgg42 Try.sizeOf42 rfl (HS.at 0 rfl) (rw_ld elFr fr0 zs3 sp (j - 1) (by omega) (by omega)) (by first | exact (kC_length _) | exact (hC_length _) | exact (ceC_length _) | exact (ptC_length _ _ _ _) | exact (plV_length _ _ _) | exact (elFr.len _) | exact (frC_length _) | exact rfl)) rfl ?_
          refine d_all1 (i := 10) (by kernel_rfl) ?_
          refine b_call rfl go_none (r_callv Try.call15 rfl (ec rfl (ec rfl en)) rfl) (rcmp_spec _ _ _) rfl ?_
          rintro v w ⟨rfl, HC⟩
          replace H := H.quiet HC
          refine ⟨H, ?_⟩
          refine d_take (i := 11) rfl (by kernel_rfl) (fun _ _ _ h => h) H (fun _ _ => r_lss rfl rfl) rfl ?_
          refine d_take (i := 12) rfl (by kernel_rfl) (fun _ _ _ h => h) H (fun _ _ => r_notp rfl) rfl ?_
          refine d_done (l' := [_,_,_,_,_,_,_,_,_,_,_,_,_,_,_,_,_,_,_,_,_,_,_,_,_,_,_,_,_,_,_,_,_,_,_,_,_,_,_,_,_,_,_,_,_,_,_,_,_,_,_,_,_,_,_,_,_,_,_,_,_,_,_,_,_,_,_,_,_,_,_,_,_,_,_,_,_,_,_,_,_,_,_,_,_,_,_,_,_,_,_,_,_,_,_,_,_,_,_,_,_,_,_,_,_,_,_,_,_,_,_,_,_,_,_,_,_,_,_,_,_,_,_,_,_,_,_,_,_,_,_,_,_,_,_,_,_,_,_,_,_]) (by kernel_rfl) rfl ?_
          refine x_thenNormal ?_
          refine c_if rfl (fun h124 => ?_) (fun h124 => ?_)
          ·skip
           refine wp_exit (x_thenExit (x_blockMiss (by decide) (x_thenExit (x_thenExit (x_blockHit ?_)))))
           refine x_blockNormal ?_
           refine x_thenNormal ?_
           refine c_region (n := 141) ⟨rfl, rfl⟩ ?_
           refine s_val (r_move rfl) ?_
           refine s_val (r_add rfl rfl (w_i64 (by omega) (by omega))) ?_
           refine s_val (r_assign rfl) ?_
           refine c_nil0 (l' := [_,_,_,_,_,_,_,_,_,_,_,_,_,_,_,_,_,_,_,_,_,_,_,_,_,_,_,_,_,_,_,_,_,_,_,_,_,_,_,_,_,_,_,_,_,_,_,_,_,_,_,_,_,_,_,_,_,_,_,_,_,_,_,_,_,_,_,_,_,_,_,_,_,_,_,_,_,_,_,_,_,_,_,_,_,_,_,_,_,_,_,_,_,_,_,_,_,_,_,_,_,_,_,_,_,_,_,_,_,_,_,_,_,_,_,_,_,_,_,_,_,_,_,_,_,_,_,_,_,_,_,_,_,_,_,_,_,_,_,_,_]) rfl ?_
           exact ⟨q + 1, _, rfl, ⟨_,_,_,_,_,_,_,_,_,_,_,_,_,_,_,_,_,_,_,_,_,_,_,_,_,_,_,_,_,_,_,_,_,_,_,_,_,_,_,_,_,_,_,_,_,_,_,_,_,_,_,_,_,_,_,_,_,_,_,_,_,_,_,_,_,_,_,_,_,_,_,_,_,_,_,_,_,_,_,_,_,_,_,_,_,_,_,_,_,_,_,_,_,_,_,_,_,_,_,_,_,_,_,_,_,_,_,_,_,_,_,_,_,_,_,_,_,_,_,_,_,_,_,_,_,_,_,_,_,_, zs3, rfl, by omega, hai, hiz, hsw3, hs3, H⟩, by omega⟩
          ·skip
           refine wp_skip ?_
           refine x_thenNormal ?_
           refine d_begin (sz := 141) ⟨rfl, rfl⟩ (by kernel_rfl) H (H.sub (.cons _ .slnil)) rfl ?_
           intro w H
           refine d_take (i := 0) rfl (by kernel_rfl) (fun _ _ _ h => h) (H.sub (.cons _ .slnil)) (fun _ _ => r_move rfl) rfl ?_
           refine d_take (i := 1) rfl (by kernel_rfl) (fun _ _ _ h => h) (H.sub (.cons _ .slnil)) (fun _ _ => r_move rfl) rfl ?_
           refine d_take (i := 2) rfl (by kernel_rfl) (fun _ _ _ h => h) (H.sub (.cons _ .slnil)) (fun _ _ => r_move rfl) rfl ?_
           refine d_take (i := 3) rfl (by kernel_rfl) (fun _ _ _ h => h) (H.sub (.cons _ .slnil)) (fun _ _ => r_move rfl) rfl ?_
           refine d_take (i := 4) rfl (by kernel_rfl) (fun _ _ _ h => h) (H.sub (.cons _ .slnil)) (fun _ _ => r_sub rfl rfl (w_i64e (r := ((j - 1 : Nat) : Int)) (by omega) (by omega) (by omega))) rfl ?_
           refine d_take (i := 5) rfl (by kernel_rfl) (fun _ _ _ h => h) (H.sub (.cons _ .slnil)) (fun _ _ => r_move rfl) rfl ?_
           refine d_take (i := 6) rfl (by kernel_rfl) (fun _ _ _ h => h) (H.sub (.cons _ .slnil)) (fun _ _ => r_move rfl) rfl ?_
           refine d_take (i := 7) rfl (by kernel_rfl) (fun _ _ _ h => h) (H.sub (.cons _ .slnil)) (fun _ _ => r_sub rfl rfl (w_i64e (r := ((j - 1 : Nat) : Int)) (by omega) (by omega) (by omega))) rfl ?_
           refine d_take (i := 8) rfl (by kernel_rfl) (fun _ _ _ h => h) (H.sub (.cons _ .slnil)) (fun _ _ => r_indexAddrS Try.runUnderlying29 Try.sizeOf42 rfl rfl (by omega) (by omega)) rfl ?_
           refine d_take (i := 10) rfl (by kernel_rfl) (fun _ _ _ h => h) (H.sub (.cons _ .slnil)) (fun _ _ => r_move rfl) rfl ?_
           refine d_take (i := 11) rfl (by kernel_rfl) (fun _ _ _ h => h) (H.sub (.cons _ .slnil)) (fun _ _ => r_move rfl) rfl ?_
           refine d_take (i := 12) rfl (by kernel_rfl) (fun _ _ _ h => h) (H.sub (.cons _ .slnil)) (fun _ _ => r_indexAddrS Try.runUnderlying29 Try.sizeOf42 rfl rfl (by omega) (by omega)) rfl ?_
           refine d_all2 (i := 9) (j := 13) (by kernel_rfl) ?_ ?_
           ·skip
            refine b_val rfl go_none (r_loadn Try.isAgg42 Try.sizeOf42 rfl (H.at 0 rfl) (rw_ld elFr fr0 zs3 sp (j - 1) (by omega) (by omega)) (by first | exact (kC_length _) | exact (hC_length _) | exact (ceC_length _) | exact (ptC_length _ _ _ _) | exact (plV_length _ _ _) | exact (elFr.len _) | exact (frC_length _) | exact rfl)) rfl (H.sub (.cons _ .slnil)) ?_
            refine d_all1 (i := 13) (by kernel_rfl) ?_
            refine b_val rfl go_none (r_loadn Try.isAgg42 Try.sizeOf42 rfl (H.at 0 rfl) (rw_ld elFr fr0 zs3 sp (j) (by omega) (by omega)) (by first | exact (kC_length _) | exact (hC_length _) | exact (ceC_length _) | exact (ptC_length _ _ _ _) | exact (plV_length _ _ _) | exact (elFr.len _) | exact (frC_length _) | exact rfl)) rfl (H.sub (.cons _ .slnil)) ?_
            refine d_take (i := 14) rfl (by kernel_rfl) (fun _ _ _ h => h) (H.sub (.cons _ .slnil)) (fun _ _ => r_indexAddrS Try.runUnderlying29 Try.sizeOf42 rfl rfl (by omega) (by omega)) rfl ?_
            refine d_all1 (i := 15) (by kernel_rfl) ?_
            refine b_st rfl go_none (m_storen H 0 12 Try.sizeOf42 rfl rfl (by first | exact (kC_length _) | exact (hC_length _) | exact (ceC_length _) | exact (ptC_length _ _ _ _) | exact (plV_length _ _ _) | exact (elFr.len _) | exact (frC_length _)) (by first | exact (kC_one _) | exact (hC_one _) | exact (ceC_one _) | exact (ptC_one _ _ _ _) | exact (plV_one _ _ _) | exact (elFr.one _) | exact (frC_one _)) rfl (rw_room elFr zs3 sp (j) (by omega) (by omega)) (rw_splice elFr zs3 sp _ (j) (by omega) (by omega))) (L' := [_]) rfl rfl (fun _ H => (H.sub (.cons _ .slnil))) ?_
            intro w H
            refine d_take (i := 16) rfl (by kernel_rfl) (fun _ _ _ h => h) (H.sub (.cons _ .slnil)) (fun _ _ => r_indexAddrS Try.runUnderlying29 Try.sizeOf42 rfl rfl (by omega) (by omega)) rfl ?_
            refine d_all1 (i := 17) (by kernel_rfl) ?_
            refine b_st rfl go_none (m_storen H 0 12 Try.sizeOf42 rfl rfl (by first | exact (kC_length _) | exact (hC_length _) | exact (ceC_length _) | exact (ptC_length _ _ _ _) | exact (plV_length _ _ _) | exact (elFr.len _) | exact (frC_length _)) (by first | exact (kC_one _) | exact (hC_one _) | exact (ceC_one _) | exact (ptC_one _ _ _ _) | exact (plV_one _ _ _) | exact (elFr.one _) | exact (frC_one _)) rfl (rw_room elFr _ sp (j - 1) (by rw [List.length_set]; omega) (by omega)) (rw_splice elFr _ sp _ (j - 1) (by rw [List.length_set]; omega) (by omega))) (L' := [_]) rfl rfl (fun _ H => (H.sub (.cons _ .slnil))) ?_
            intro w H
            refine d_done (l' := [_,_,_,_,_,_,_,_,_,_,_,_,_,_,_,_,_,_,_,_,_,_,_,_,_,_,_,_,_,_,_,_,_,_,_,_,_,_,_,_,_,_,_,_,_,_,_,_,_,_,_,_,_,_,_,_,_,_,_,_,_,_,_,_,_,_,_,_,_,_,_,_,_,_,_,_,_,_,_,_,_,_,_,_,_,_,_,_,_,_,_,_,_,_,_,_,_,_,_,_,_,_,_,_,_,_,_,_,_,_,_,_,_,_,_,_,_,_,_,_,_,_,_,_,_,_,_,_,_,_,_,_,_,_,_,_,_,_,_,_,_]) (by kernel_rfl) rfl ?_
            refine x_blockNormal ?_
            refine x_thenNormal ?_
            refine c_region (n := 141) ⟨rfl, rfl⟩ ?_
            refine s_val (r_move rfl) ?_
            refine s_val (r_add rfl rfl (w_i64 (by omega) (by omega))) ?_
            refine s_val (r_assign rfl) ?_
            refine c_nil0 (l' := [_,_,_,_,_,_,_,_,_,_,_,_,_,_,_,_,_,_,_,_,_,_,_,_,_,_,_,_,_,_,_,_,_,_,_,_,_,_,_,_,_,_,_,_,_,_,_,_,_,_,_,_,_,_,_,_,_,_,_,_,_,_,_,_,_,_,_,_,_,_,_,_,_,_,_,_,_,_,_,_,_,_,_,_,_,_,_,_,_,_,_,_,_,_,_,_,_,_,_,_,_,_,_,_,_,_,_,_,_,_,_,_,_,_,_,_,_,_,_,_,_,_,_,_,_,_,_,_,_,_,_,_,_,_,_,_,_,_,_,_,_]) rfl ?_
            exact ⟨j + 1, _, rfl, ⟨_,_,_,_,_,_,_,_,_,_,_,_,_,_,_,_,_,_,_,_,_,_,_,_,_,_,_,_,_,_,_,_,_,_, swp2 fr0 zs3 j (j - 1), rfl, by omega, by omega, (.step j (j - 1) hsw3 ⟨by omega, by omega⟩ ⟨by omega, by omega⟩ he), (hs3.off (by omega) (by omega) (by omega) (by omega)), H⟩, by omega⟩
           ·skip
            refine b_val rfl go_none (r_loadn Try.isAgg42 Try.sizeOf42 rfl (H.at 0 rfl) (rw_ld elFr fr0 zs3 sp (j) (by omega) (by omega)) (by first | exact (kC_length _) | exact (hC_length _) | exact (ceC_length _) | exact (ptC_length _ _ _ _) | exact (plV_length _ _ _) | exact (elFr.len _) | exact (frC_length _) | exact rfl)) rfl (H.sub (.cons _ .slnil)) ?_
            refine d_all1 (i := 9) (by kernel_rfl) ?_
            refine b_val rfl go_none (r_loadn Try.isAgg42 Try.sizeOf42 rfl (H.at 0 rfl) (rw_ld elFr fr0 zs3 sp (j - 1) (by omega) (by omega)) (by first | exact (kC_length _) | exact (hC_length _) | exact (ceC_length _) | exact (ptC_length _ _ _ _) | exact (plV_length _ _ _) | exact (elFr.len _) | exact (frC_length _) | exact rfl)) rfl (H.sub (.cons _ .slnil)) ?_
            refine d_take (i := 14) rfl (by kernel_rfl) (fun _ _ _ h => h) (H.sub (.cons _ .slnil)) (fun _ _ => r_indexAddrS Try.runUnderlying29 Try.sizeOf42 rfl rfl (by omega) (by omega)) rfl ?_
            refine d_all1 (i := 15) (by kernel_rfl) ?_
            refine b_st rfl go_none (m_storen H 0 12 Try.sizeOf42 rfl rfl (by first | exact (kC_length _) | exact (hC_length _) | exact (ceC_length _) | exact (ptC_length _ _ _ _) | exact (plV_length _ _ _) | exact (elFr.len _) | exact (frC_length _)) (by first | exact (kC_one _) | exact (hC_one _) | exact (ceC_one _) | exact (ptC_one _ _ _ _) | exact (plV_one _ _ _) | exact (elFr.one _) | exact (frC_one _)) rfl (rw_room elFr zs3 sp (j) (by omega) (by omega)) (rw_splice elFr zs3 sp _ (j) (by omega) (by omega))) (L' := [_]) rfl rfl (fun _ H => (H.sub (.cons _ .slnil))) ?_
            intro w H
            refine d_take (i := 16) rfl (by kernel_rfl) (fun _ _ _ h => h) (H.sub (.cons _ .slnil)) (fun _ _ => r_indexAddrS Try.runUnderlying29 Try.sizeOf42 rfl rfl (by omega) (by omega)) rfl ?_
            refine d_all1 (i := 17) (by kernel_rfl) ?_
            refine b_st rfl go_none (m_storen H 0 12 Try.sizeOf42 rfl rfl (by first | exact (kC_length _) | exact (hC_length _) | exact (ceC_length _) | exact (ptC_length _ _ _ _) | exact (plV_length _ _ _) | exact (elFr.len _) | exact (frC_length _)) (by first | exact (kC_one _) | exact (hC_one _) | exact (ceC_one _) | exact (ptC_one _ _ _ _) | exact (plV_one _ _ _) | exact (elFr.one _) | exact (frC_one _)) rfl (rw_room elFr _ sp (j - 1) (by rw [List.length_set]; omega) (by omega)) (rw_splice elFr _ sp _ (j - 1) (by rw [List.length_set]; omega) (by omega))) (L' := [_]) rfl rfl (fun _ H => (H.sub (.cons _ .slnil))) ?_
            intro w H
            refine d_done (l' := [_,_,_,_,_,_,_,_,_,_,_,_,_,_,_,_,_,_,_,_,_,_,_,_,_,_,_,_,_,_,_,_,_,_,_,_,_,_,_,_,_,_,_,_,_,_,_,_,_,_,_,_,_,_,_,_,_,_,_,_,_,_,_,_,_,_,_,_,_,_,_,_,_,_,_,_,_,_,_,_,_,_,_,_,_,_,_,_,_,_,_,_,_,_,_,_,_,_,_,_,_,_,_,_,_,_,_,_,_,_,_,_,_,_,_,_,_,_,_,_,_,_,_,_,_,_,_,_,_,_,_,_,_,_,_,_,_,_,_,_,_]) (by kernel_rfl) rfl ?_
            refine x_blockNormal ?_
            refine x_thenNormal ?_
            refine c_region (n := 141) ⟨rfl, rfl⟩ ?_
            refine s_val (r_move rfl) ?_
            refine s_val (r_add rfl rfl (w_i64 (by omega) (by omega))) ?_
            refine s_val (r_assign rfl) ?_
            refine c_nil0 (l' := [_,_,_,_,_,_,_,_,_,_,_,_,_,_,_,_,_,_,_,_,_,_,_,_,_,_,_,_,_,_,_,_,_,_,_,_,_,_,_,_,_,_,_,_,_,_,_,_,_,_,_,_,_,_,_,_,_,_,_,_,_,_,_,_,_,_,_,_,_,_,_,_,_,_,_,_,_,_,_,_,_,_,_,_,_,_,_,_,_,_,_,_,_,_,_,_,_,_,_,_,_,_,_,_,_,_,_,_,_,_,_,_,_,_,_,_,_,_,_,_,_,_,_,_,_,_,_,_,_,_,_,_,_,_,_,_,_,_,_,_,_]) rfl ?_
            exact ⟨j + 1, _, rfl, ⟨_,_,_,_,_,_,_,_,_,_,_,_,_,_,_,_,_,_,_,_,_,_,_,_,_,_,_,_,_,_,_,_,_,_, swp2 fr0 zs3 j (j - 1), rfl, by omega, by omega, (.step j (j - 1) hsw3 ⟨by omega, by omega⟩ ⟨by omega, by omega⟩ he), (hs3.off (by omega) (by omega) (by omega) (by omega)), H⟩, by omega⟩
         ·skip
          refine wp_exit (x_thenExit (x_thenExit (x_blockHit ?_)))
          refine x_blockNormal ?_
          refine x_thenNormal ?_
          refine c_region (n := 141) ⟨rfl, rfl⟩ ?_
          refine s_val (r_move rfl) ?_
          refine s_val (r_add rfl rfl (w_i64 (by omega) (by omega))) ?_
          refine s_val (r_assign rfl) ?_
          refine c_nil0 (l' := [_,_,_,_,_,_,_,_,_,_,_,_,_,_,_,_,_,_,_,_,_,_,_,_,_,_,_,_,_,_,_,_,_,_,_,_,_,_,_,_,_,_,_,_,_,_,_,_,_,_,_,_,_,_,_,_,_,_,_,_,_,_,_,_,_,_,_,_,_,_,_,_,_,_,_,_,_,_,_,_,_,_,_,_,_,_,_,_,_,_,_,_,_,_,_,_,_,_,_,_,_,_,_,_,_,_,_,_,_,_,_,_,_,_,_,_,_,_,_,_,_,_,_,_,_,_,_,_,_,_,_,_,_,_,_,_,_,_,_,_,_]) rfl ?_
          exact ⟨q + 1, _, rfl, ⟨_,_,_,_,_,_,_,_,_,_,_,_,_,_,_,_,_,_,_,_,_,_,_,_,_,_,_,_,_,_,_,_,_,_,_,_,_,_,_,_,_,_,_,_,_,_,_,_,_,_,_,_,_,_,_,_,_,_,_,_,_,_,_,_,_,_,_,_,_,_,_,_,_,_,_,_,_,_,_,_,_,_,_,_,_,_,_,_,_,_,_,_,_,_,_,_,_,_,_,_,_,_,_,_,_,_,_,_,_,_,_,_,_,_,_,_,_,_,_,_,_,_,_,_,_,_,_,_,_,_, zs3, rfl, by omega, hai, hiz, hsw3, hs3, H⟩, by omega⟩
        ·skip
         refine wp_skip ?_
         refine x_blockNormal ?_
         refine x_thenNormal ?_
         refine c_region (n := 141) ⟨rfl, rfl⟩ ?_
         refine s_val (r_move rfl) ?_
         refine s_val (r_add rfl rfl (w_i64 (by omega) (by omega))) ?_
         refine s_val (r_assign rfl) ?_
         refine c_nil0 (l' := [_,_,_,_,_,_,_,_,_,_,_,_,_,_,_,_,_,_,_,_,_,_,_,_,_,_,_,_,_,_,_,_,_,_,_,_,_,_,_,_,_,_,_,_,_,_,_,_,_,_,_,_,_,_,_,_,_,_,_,_,_,_,_,_,_,_,_,_,_,_,_,_,_,_,_,_,_,_,_,_,_,_,_,_,_,_,_,_,_,_,_,_,_,_,_,_,_,_,_,_,_,_,_,_,_,_,_,_,_,_,_,_,_,_,_,_,_,_,_,_,_,_,_,_,_,_,_,_,_,_,_,_,_,_,_,_,_,_,_,_,_]) rfl ?_
         exact ⟨q + 1, _, rfl, ⟨_,_,_,_,_,_,_,_,_,_,_,_,_,_,_,_,_,_,_,_,_,_,_,_,_,_,_,_,_,_,_,_,_,_,_,_,_,_,_,_,_,_,_,_,_,_,_,_,_,_,_,_,_,_,_,_,_,_,_,_,_,_,_,_,_,_,_,_,_,_,_,_,_,_,_,_,_,_,_,_,_,_,_,_,_,_,_,_,_,_,_,_,_,_,_,_,_,_,_,_,_,_,_,_,_,_,_,_,_,_,_,_,_,_,_,_,_,_,_,_,_,_,_,_,_,_,_,_,_,_, zs2, rfl, by omega, hai, hiz, hsw2, hs2, H⟩, by omega⟩
      ·skip
       refine b_val rfl go_none (r_loadn Try.isAgg42 Try.sizeOf42 rfl (H.at 0 rfl) (rw_ld elFr fr0 zs sp (i) (by omega) (by omega)) (by first | exact (kC_length _) | exact (hC_length _) | exact (ceC_length _) | exact (ptC_length _ _ _ _) | exact (plV_length _ _ _) | exact (elFr.len _) | exact (frC_length _) | exact rfl)) rfl (H.sub (.cons _ .slnil)) ?_
       refine d_all1 (i := 9) (by kernel_rfl) ?_
       refine b_val rfl go_none (r_loadn Try.isAgg42 Try.sizeOf42 rfl (H.at 0 rfl) (rw_ld elFr fr0 zs sp (i - 1) (by omega) (by omega)) (by first | exact (kC_length _) | exact (hC_length _) | exact (ceC_length _) | exact (ptC_length _ _ _ _) | exact (plV_length _ _ _) | exact (elFr.len _) | exact (frC_length _) | exact rfl)) rfl (H.sub (.cons _ .slnil)) ?_
       refine d_take (i := 14) rfl (by kernel_rfl) (fun _ _ _ h => h) (H.sub (.cons _ .slnil)) (fun _ _ => r_indexAddrS Try.runUnderlying29 Try.sizeOf42 rfl rfl (by omega) (by omega)) rfl ?_
       refine d_all1 (i := 15) (by kernel_rfl) ?_
       refine b_st rfl go_none (m_storen H 0 12 Try.sizeOf42 rfl rfl (by first | exact (kC_length _) | exact (hC_length _) | exact (ceC_length _) | exact (ptC_length _ _ _ _) | exact (plV_length _ _ _) | exact (elFr.len _) | exact (frC_length _)) (by first | exact (kC_one _) | exact (hC_one _) | exact (ceC_one _) | exact (ptC_one _ _ _ _) | exact (plV_one _ _ _) | exact (elFr.one _) | exact (frC_one _)) rfl (rw_room elFr zs sp (i) (by omega) (by omega)) (rw_splice elFr zs sp _ (i) (by omega) (by omega))) (L' := [_]) rfl rfl (fun _ H => (H.sub (.cons _ .slnil))) ?_
       intro w H
       refine d_take (i := 16) rfl (by kernel_rfl) (fun _ _ _ h => h) (H.sub (.cons _ .slnil)) (fun _ _ => r_indexAddrS Try.runUnderlying29 Try.sizeOf42 rfl rfl (by omega) (by omega)) rfl ?_
       refine d_all1 (i := 17) (by kernel_rfl) ?_
       refine b_st rfl go_none (m_storen H 0 12 Try.sizeOf42 rfl rfl (by first | exact (kC_length _) | exact (hC_length _) | exact (ceC_length _) | exact (ptC_length _ _ _ _) | exact (plV_length _ _ _) | exact (elFr.len _) | exact (frC_length _)) (by first | exact (kC_one _) | exact (hC_one _) | exact (ceC_one _) | exact (ptC_one _ _ _ _) | exact (plV_one _ _ _) | exact (elFr.one _) | exact (frC_one _)) rfl (rw_room elFr _ sp (i - 1) (by rw [List.length_set]; omega) (by omega)) (rw_splice elFr _ sp _ (i - 1) (by rw [List.length_set]; omega) (by omega))) (L' := [_]) rfl rfl (fun _ H => (H.sub (.cons _ .slnil))) ?_
       intro w H
       refine d_done (l' := [_,_,_,_,_,_,_,_,_,_,_,_,_,_,_,_,_,_,_,_,_,_,_,_,_,_,_,_,_,_,_,_,_,_,_,_,_,_,_,_,_,_,_,_,_,_,_,_,_,_,_,_,_,_,_,_,_,_,_,_,_,_,_,_,_,_,_,_,_,_,_,_,_,_,_,_,_,_,_,_,_,_,_,_,_,_,_,_,_,_,_,_,_,_,_,_,_,_,_,_,_,_,_,_,_,_,_,_,_,_,_,_,_,_,_,_,_,_,_,_,_,_,_,_,_,_,_,_,_,_,_,_,_,_,_,_,_,_,_,_,_]) (by kernel_rfl) rfl ?_
       refine x_thenNormal ?_
       refine c_cut (fun (l0 : List Value) (l : List Value) (w : World) => ∃ (u11 u62 u63 u64 u65 u66 u67 u68 u69 u70 u71 u72 u73 u74 u75 u76 u77 u78 u79 u80 u81 u82 u83 u84 u85 u86 u87 u88 u89 u90 u91 u92 u93 u94 u95 u96 u97 u98 u99 u100 : Value) (zs2 : List FrL), l = ovr l0 [N_, N_, N_, N_, N_, N_, N_, N_, N_, N_, N_, Y_ u11, N_, N_, N_, N_, N_, N_, N_, N_, N_, N_, N_, N_, N_, N_, N_, N_, N_, N_, N_, N_, N_, N_, N_, N_, N_, N_, N_, N_, N_, N_, N_, N_, N_, N_, N_, N_, N_, N_, N_, N_, N_, N_, N_, N_, N_, N_, N_, N_, N_, N_, Y_ u62, Y_ u63, Y_ u64, Y_ u65, Y_ u66, Y_ u67, Y_ u68, Y_ u69, Y_ u70, Y_ u71, Y_ u72, Y_ u73, Y_ u74, Y_ u75, Y_ u76, Y_ u77, Y_ u78, Y_ u79, Y_ u80, Y_ u81, Y_ u82, Y_ u83, Y_ u84, Y_ u85, Y_ u86, Y_ u87, Y_ u88, Y_ u89, Y_ u90, Y_ u91, Y_ u92, Y_ u93, Y_ u94, Y_ u95, Y_ u96, Y_ u97, Y_ u98, Y_ u99, Y_ u100] ∧ Sw fr0 a z ys zs2 ∧ Srt fr0 frK a i zs2 ∧ St w0 [b] w [(b, .cells (rowC frC zs2 ++ sp).toArray 42 (0, 0))]) ?_ ?_
       ·skip
        refine c_rseq (n := 141) ⟨rfl, rfl⟩ ?_
        have hsw1 : Sw fr0 a z ys (swp2 fr0 zs i (i - 1)) := .step i (i - 1) hsw ⟨by omega, by omega⟩ ⟨by omega, by omega⟩ he
        have hin1 := hs.pair (by omega) (by omega) (cmpI_neg.1 (Decidable.not_not.1 h36))
        have hlen1 := hsw1.length
        refine s_val (r_move rfl) ?_
        refine s_val (r_move rfl) ?_
        refine s_val (r_sub rfl rfl (w_i64e (r := ((i - a : Nat) : Int)) (by omega) (by omega) (by omega))) ?_
        refine s_val (r_geq rfl rfl) ?_
        refine c_nil (l' := [_,_,_,_,_,_,_,_,_,_,_,_,_,_,_,_,_,_,_,_,_,_,_,_,_,_,_,_,_,_,_,_,_,_,_,_,_,_,_,_,_,_,_,_,_,_,_,_,_,_,_,_,_,_,_,_,_,_,_,_,_,_,_,_,_,_,_,_,_,_,_,_,_,_,_,_,_,_,_,_,_,_,_,_,_,_,_,_,_,_,_,_,_,_,_,_,_,_,_,_,_,_,_,_,_,_,_,_,_,_,_,_,_,_,_,_,_,_,_,_,_,_,_,_,_,_,_,_,_,_,_,_,_,_,_,_,_,_,_,_,_]) rfl ?_
        refine c_if rfl (fun h65 => ?_) (fun h65 => ?_)
        ·skip
         refine c_rseq (n := 141) ⟨rfl, rfl⟩ ?_
         refine s_val (r_move rfl) ?_
         refine s_val (r_sub rfl rfl (w_i64e (r := ((i - 1 : Nat) : Int)) (by omega) (by omega) (by omega))) ?_
         refine s_val (r_assign rfl) ?_
         refine c_nil (l' := [_,_,_,_,_,_,_,_,_,_,_,_,_,_,_,_,_,_,_,_,_,_,_,_,_,_,_,_,_,_,_,_,_,_,_,_,_,_,_,_,_,_,_,_,_,_,_,_,_,_,_,_,_,_,_,_,_,_,_,_,_,_,_,_,_,_,_,_,_,_,_,_,_,_,_,_,_,_,_,_,_,_,_,_,_,_,_,_,_,_,_,_,_,_,_,_,_,_,_,_,_,_,_,_,_,_,_,_,_,_,_,_,_,_,_,_,_,_,_,_,_,_,_,_,_,_,_,_,_,_,_,_,_,_,_,_,_,_,_,_,_]) rfl ?_
         refine wp_block ?_
         refine c_loop (fun (l0 : List Value) (j : Nat) (l : List Value) (w : World) => ∃ (u68 u69 u70 u71 u72 u73 u74 u75 u76 u77 u78 u79 u80 u81 u82 u83 u84 u85 u86 u87 u88 u89 u90 u91 u92 u93 u94 u95 u96 u97 u98 u99 u100 : Value) (zs2 : List FrL), l = ovr l0 [N_, N_, N_, N_, N_, N_, N_, N_, N_, N_, N_, Y_ (.int .i64 (j : Nat)), N_, N_, N_, N_, N_, N_, N_, N_, N_, N_, N_, N_, N_, N_, N_, N_, N_, N_, N_, N_, N_, N_, N_, N_, N_, N_, N_, N_, N_, N_, N_, N_, N_, N_, N_, N_, N_, N_, N_, N_, N_, N_, N_, N_, N_, N_, N_, N_, N_, N_, N_, N_, N_, N_, N_, N_, Y_ u68, Y_ u69, Y_ u70, Y_ u71, Y_ u72, Y_ u73, Y_ u74, Y_ u75, Y_ u76, Y_ u77, Y_ u78, Y_ u79, Y_ u80, Y_ u81, Y_ u82, Y_ u83, Y_ u84, Y_ u85, Y_ u86, Y_ u87, Y_ u88, Y_ u89, Y_ u90, Y_ u91, Y_ u92, Y_ u93, Y_ u94, Y_ u95, Y_ u96, Y_ u97, Y_ u98, Y_ u99, Y_ u100] ∧ a ≤ j ∧ j ≤ i - 1 ∧ Sw fr0 a z ys zs2 ∧ Ins fr0 frK a i j zs2 ∧ St w0 [b] w [(b, .cells (rowC frC zs2 ++ sp).toArray 42 (0, 0))]) (fun (j : Nat) => j) (i - 1) ⟨_,_,_,_,_,_,_,_,_,_,_,_,_,_,_,_,_,_,_,_,_,_,_,_,_,_,_,_,_,_,_,_,_,_, rfl, by omega, by omega, hsw1, hin1, H⟩ ?_
         intro j l w ⟨u68, u69, u70, u71, u72, u73, u74, u75, u76, u77, u78, u79, u80, u81, u82, u83, u84, u85, u86, u87, u88, u89, u90, u91, u92, u93, u94, u95, u96, u97, u98, u99, u100, zs2, hl, hja, hji, hsw2, hin, H⟩
         obtain rfl := hl.trans (rfl : _ = [_,_,_,_,_,_,_,_,_,_,_,_,_,_,_,_,_,_,_,_,_,_,_,_,_,_,_,_,_,_,_,_,_,_,_,_,_,_,_,_,_,_,_,_,_,_,_,_,_,_,_,_,_,_,_,_,_,_,_,_,_,_,_,_,_,_,_,_,_,_,_,_,_,_,_,_,_,_,_,_,_,_,_,_,_,_,_,_,_,_,_,_,_,_,_,_,_,_,_,_,_,_,_,_,_,_,_,_,_,_,_,_,_,_,_,_,_,_,_,_,_,_,_,_,_,_,_,_,_,_,_,_,_,_,_,_,_,_,_,_,_])
         clear hl
         have hlen2 := hsw2.length
         refine c_seq ?_
         refine c_rseq (n := 141) ⟨rfl, rfl⟩ ?_
         refine s_val (r_move rfl) ?_
         refine s_val (r_geq rfl rfl) ?_
         refine c_nil (l' := [_,_,_,_,_,_,_,_,_,_,_,_,_,_,_,_,_,_,_,_,_,_,_,_,_,_,_,_,_,_,_,_,_,_,_,_,_,_,_,_,_,_,_,_,_,_,_,_,_,_,_,_,_,_,_,_,_,_,_,_,_,_,_,_,_,_,_,_,_,_,_,_,_,_,_,_,_,_,_,_,_,_,_,_,_,_,_,_,_,_,_,_,_,_,_,_,_,_,_,_,_,_,_,_,_,_,_,_,_,_,_,_,_,_,_,_,_,_,_,_,_,_,_,_,_,_,_,_,_,_,_,_,_,_,_,_,_,_,_,_,_]) rfl ?_
         refine c_if rfl (fun h69 => ?_) (fun h69 => ?_)
         ·skip
          refine wp_skip ?_
          refine x_thenNormal ?_
          refine c_seq ?_
          refine wp_block ?_
          refine c_seq ?_
          refine c_seq ?_
          refine d_begin (sz := 141) ⟨rfl, rfl⟩ (by kernel_rfl) H (H) rfl ?_
          intro w H
          refine d_take (i := 0) rfl (by kernel_rfl) (fun _ _ _ h => h) H (fun _ _ => r_move rfl) rfl ?_
          refine d_take (i := 1) rfl (by kernel_rfl) (fun _ _ _ h => h) H (fun _ _ => r_move rfl) rfl ?_
          refine d_take (i := 2) rfl (by kernel_rfl) (fun _ _ _ h => h) H (fun _ _ => r_move rfl) rfl ?_
          refine d_take (i := 3) rfl (by kernel_rfl) (fun _ _ _ h => h) H (fun _ _ => r_indexAddrS Try.runUnderlying29 Try.sizeOf42 rfl rfl (by omega) (by omega)) rfl ?_
          refine d_take (i := 4) rfl (by kernel_rfl) (fun _ _ _ h => h) H (fun _ HS => r_loadn Try.isAgg42 Try.sizeOf42 rfl (HS.at 0 rfl) (rw_ld elFr fr0 zs2 sp (j) (by omega) (by omega)) (by first | exact (kC_length _) | exact (hC_length _) | exact (ceC_length _) | exact (ptC_length _ _ _ _) | exact (plV_length _ _ _) | exact (elFr.len _) | exact (frC_length _) | exact rfl)) rfl ?_
          refine d_take (i := 5) rfl (by kernel_rfl) (fun _ _ _ h => h) H (fun _ _ => r_move rfl) rfl ?_
          refine d_take (i := 6) rfl (by kernel_rfl) (fun _ _ _ h => h) H (fun _ _ => r_move rfl) rfl ?_
          refine d_take (i := 7) rfl (by kernel_rfl) (fun _ _ _ h => h) H (fun _ _ => r_sub rfl rfl (w_i64e (r := ((j - 1 : Nat) : Int)) (by omega) (by omega) (by omega))) rfl ?_
          refine d_take (i := 8) rfl (by kernel_rfl) (fun _ _ _ h => h) H (fun _ _ => r_indexAddrS Try.runUnderlying29 Try.sizeOf42 rfl rfl (by omega) (by omega)) rfl ?_
          refine d_take (i := 9) rfl (by kernel_rfl) (fun _ _ _ h => h) H (fun _ HS => r_loadn Try.isAgg42 Try.sizeOf42 rfl (HS.at 0 rfl) (rw_ld elFr fr0 zs2 sp (j - 1) (by omega) (by omega)) (by first | exact (kC_length _) | exact (hC_length _) | exact (ceC_length _) | exact (ptC_length _ _ _ _) | exact (plV_length _ _ _) | exact (elFr.len _) | exact (frC_length _) | exact rfl)) rfl ?_
          refine d_all1 (i := 10) (by kernel_rfl) ?_
          refine b_call rfl go_none (r_callv Try.call15 rfl (ec rfl (ec rfl en)) rfl) (rcmp_spec _ _ _) rfl ?_
          rintro v w ⟨rfl, HC⟩
          replace H := H.quiet HC
          refine ⟨H, ?_⟩
          refine d_take (i := 11) rfl (by kernel_rfl) (fun _ _ _ h => h) H (fun _ _ => r_lss rfl rfl) rfl ?_
          refine d_take (i := 12) rfl (by kernel_rfl) (fun _ _ _ h => h) H (fun _ _ => r_notp rfl) rfl ?_
          refine d_done (l' := [_,_,_,_,_,_,_,_,_,_,_,_,_,_,_,_,_,_,_,_,_,_,_,_,_,_,_,_,_,_,_,_,_,_,_,_,_,_,_,_,_,_,_,_,_,_,_,_,_,_,_,_,_,_,_,_,_,_,_,_,_,_,_,_,_,_,_,_,_,_,_,_,_,_,_,_,_,_,_,_,_,_,_,_,_,_,_,_,_,_,_,_,_,_,_,_,_,_,_,_,_,_,_,_,_,_,_,_,_,_,_,_,_,_,_,_,_,_,_,_,_,_,_,_,_,_,_,_,_,_,_,_,_,_,_,_,_,_,_,_,_]) (by kernel_rfl) rfl ?_
          refine x_thenNormal ?_
          refine c_if rfl (fun h84 => ?_) (fun h84 => ?_)
          ·skip
           have hcm84 := mt cmpI_neg.2 h84
           refine wp_exit (x_thenExit (x_blockMiss (by decide) (x_thenExit (x_thenExit (x_blockHit ?_)))))
           exact ⟨_, rfl, ⟨_,_,_,_,_,_,_,_,_,_,_,_,_,_,_,_,_,_,_,_,_,_,_,_,_,_,_,_,_,_,_,_,_,_,_,_,_,_,_,_,_, rfl, hsw2, ((hin.fin (by omega) (fun _ => hcm84)).cut (by omega)), H⟩⟩
          ·skip
           have hcm84 : kk fr0 frK zs2 j < kk fr0 frK zs2 (j - 1) := cmpI_neg.1 (Decidable.not_not.1 h84)
           have hja2 : a < j := by
            refine (Nat.lt_or_eq_of_le hja).resolve_right fun e => ?_
            subst e
            have := (hah.sw hsw2) (by omega) a (Nat.le_refl _) (by omega)
            omega
           refine wp_skip ?_
           refine x_thenNormal ?_
           refine d_begin (sz := 141) ⟨rfl, rfl⟩ (by kernel_rfl) H (H.sub (.cons _ .slnil)) rfl ?_
           intro w H
           refine d_take (i := 0) rfl (by kernel_rfl) (fun _ _ _ h => h) (H.sub (.cons _ .slnil)) (fun _ _ => r_move rfl) rfl ?_
           refine d_take (i := 1) rfl (by kernel_rfl) (fun _ _ _ h => h) (H.sub (.cons _ .slnil)) (fun _ _ => r_move rfl) rfl ?_
           refine d_take (i := 2) rfl (by kernel_rfl) (fun _ _ _ h => h) (H.sub (.cons _ .slnil)) (fun _ _ => r_move rfl) rfl ?_
           refine d_take (i := 3) rfl (by kernel_rfl) (fun _ _ _ h => h) (H.sub (.cons _ .slnil)) (fun _ _ => r_move rfl) rfl ?_
           refine d_take (i := 4) rfl (by kernel_rfl) (fun _ _ _ h => h) (H.sub (.cons _ .slnil)) (fun _ _ => r_sub rfl rfl (w_i64e (r := ((j - 1 : Nat) : Int)) (by omega) (by omega) (by omega))) rfl ?_
           refine d_take (i := 5) rfl (by kernel_rfl) (fun _ _ _ h => h) (H.sub (.cons _ .slnil)) (fun _ _ => r_move rfl) rfl ?_
           refine d_take (i := 6) rfl (by kernel_rfl) (fun _ _ _ h => h) (H.sub (.cons _ .slnil)) (fun _ _ => r_move rfl) rfl ?_
           refine d_take (i := 7) rfl (by kernel_rfl) (fun _ _ _ h => h) (H.sub (.cons _ .slnil)) (fun _ _ => r_sub rfl rfl (w_i64e (r := ((j - 1 : Nat) : Int)) (by omega) (by omega) (by omega))) rfl ?_
           refine d_take (i := 8) rfl (by kernel_rfl) (fun _ _ _ h => h) (H.sub (.cons _ .slnil)) (fun _ _ => r_indexAddrS Try.runUnderlying29 Try.sizeOf42 rfl rfl (by omega) (by omega)) rfl ?_
           refine d_take (i := 10) rfl (by kernel_rfl) (fun _ _ _ h => h) (H.sub (.cons _ .slnil)) (fun _ _ => r_move rfl) rfl ?_
           refine d_take (i := 11) rfl (by kernel_rfl) (fun _ _ _ h => h) (H.sub (.cons _ .slnil)) (fun _ _ => r_move rfl) rfl ?_
           refine d_take (i := 12) rfl (by kernel_rfl) (fun _ _ _ h => h) (H.sub (.cons _ .slnil)) (fun _ _ => r_indexAddrS Try.runUnderlying29 Try.sizeOf42 rfl rfl (by omega) (by omega)) rfl ?_
           refine d_all2 (i := 9) (j := 13) (by kernel_rfl) ?_ ?_
           ·skip
            refine b_val rfl go_none (r_loadn Try.isAgg42 Try.sizeOf42 rfl (H.at 0 rfl) (rw_ld elFr fr0 zs2 sp (j - 1) (by omega) (by omega)) (by first | exact (kC_length _) | exact (hC_length _) | exact (ceC_length _) | exact (ptC_length _ _ _ _) | exact (plV_length _ _ _) | exact (elFr.len _) | exact (frC_length _) | exact rfl)) rfl (H.sub (.cons _ .slnil)) ?_
            refine d_all1 (i := 13) (by kernel_rfl) ?_
            refine b_val rfl go_none (r_loadn Try.isAgg42 Try.sizeOf42 rfl (H.at 0 rfl) (rw_ld elFr fr0 zs2 sp (j) (by omega) (by omega)) (by first | exact (kC_length _) | exact (hC_length _) | exact (ceC_length _) | exact (ptC_length _ _ _ _) | exact (plV_length _ _ _) | exact (elFr.len _) | exact (frC_length _) | exact rfl)) rfl (H.sub (.cons _ .slnil)) ?_
            refine d_take (i := 14) rfl (by kernel_rfl) (fun _ _ _ h => h) (H.sub (.cons _ .slnil)) (fun _ _ => r_indexAddrS Try.runUnderlying29 Try.sizeOf42 rfl rfl (by omega) (by omega)) rfl ?_
            refine d_all1 (i := 15) (by kernel_rfl) ?_
            refine b_st rfl go_none (m_storen H 0 12 Try.sizeOf42 rfl rfl (by first | exact (kC_length _) | exact (hC_length _) | exact (ceC_length _) | exact (ptC_length _ _ _ _) | exact (plV_length _ _ _) | exact (elFr.len _) | exact (frC_length _)) (by first | exact (kC_one _) | exact (hC_one _) | exact (ceC_one _) | exact (ptC_one _ _ _ _) | exact (plV_one _ _ _) | exact (elFr.one _) | exact (frC_one _)) rfl (rw_room elFr zs2 sp (j) (by omega) (by omega)) (rw_splice elFr zs2 sp _ (j) (by omega) (by omega))) (L' := [_]) rfl rfl (fun _ H => (H.sub (.cons _ .slnil))) ?_
            intro w H
            refine d_take (i := 16) rfl (by kernel_rfl) (fun _ _ _ h => h) (H.sub (.cons _ .slnil)) (fun _ _ => r_indexAddrS Try.runUnderlying29 Try.sizeOf42 rfl rfl (by omega) (by omega)) rfl ?_
            refine d_all1 (i := 17) (by kernel_rfl) ?_
            refine b_st rfl go_none (m_storen H 0 12 Try.sizeOf42 rfl rfl (by first | exact (kC_length _) | exact (hC_length _) | exact (ceC_length _) | exact (ptC_length _ _ _ _) | exact (plV_length _ _ _) | exact (elFr.len _) | exact (frC_length _)) (by first | exact (kC_one _) | exact (hC_one _) | exact (ceC_one _) | exact (ptC_one _ _ _ _) | exact (plV_one _ _ _) | exact (elFr.one _) | exact (frC_one _)) rfl (rw_room elFr _ sp (j - 1) (by rw [List.length_set]; omega) (by omega)) (rw_splice elFr _ sp _ (j - 1) (by rw [List.length_set]; omega) (by omega))) (L' := [_]) rfl rfl (fun _ H => (H.sub (.cons _ .slnil))) ?_
            intro w H
            refine d_done (l' := [_,_,_,_,_,_,_,_,_,_,_,_,_,_,_,_,_,_,_,_,_,_,_,_,_,_,_,_,_,_,_,_,_,_,_,_,_,_,_,_,_,_,_,_,_,_,_,_,_,_,_,_,_,_,_,_,_,_,_,_,_,_,_,_,_,_,_,_,_,_,_,_,_,_,_,_,_,_,_,_,_,_,_,_,_,_,_,_,_,_,_,_,_,_,_,_,_,_,_,_,_,_,_,_,_,_,_,_,_,_,_,_,_,_,_,_,_,_,_,_,_,_,_,_,_,_,_,_,_,_,_,_,_,_,_,_,_,_,_,_,_]) (by kernel_rfl) rfl ?_
            refine x_blockNormal ?_
            refine x_thenNormal ?_
            refine c_region (n := 141) ⟨rfl, rfl⟩ ?_
            refine s_val (r_move rfl) ?_
            refine s_val (r_sub rfl rfl (w_i64e (r := ((j - 1 : Nat) : Int)) (by omega) (by omega) (by omega))) ?_
            refine s_val (r_assign rfl) ?_
            refine c_nil0 (l' := [_,_,_,_,_,_,_,_,_,_,_,_,_,_,_,_,_,_,_,_,_,_,_,_,_,_,_,_,_,_,_,_,_,_,_,_,_,_,_,_,_,_,_,_,_,_,_,_,_,_,_,_,_,_,_,_,_,_,_,_,_,_,_,_,_,_,_,_,_,_,_,_,_,_,_,_,_,_,_,_,_,_,_,_,_,_,_,_,_,_,_,_,_,_,_,_,_,_,_,_,_,_,_,_,_,_,_,_,_,_,_,_,_,_,_,_,_,_,_,_,_,_,_,_,_,_,_,_,_,_,_,_,_,_,_,_,_,_,_,_,_]) rfl ?_
            exact ⟨j - 1, _, rfl, ⟨_,_,_,_,_,_,_,_,_,_,_,_,_,_,_,_,_,_,_,_,_,_,_,_,_,_,_,_,_,_,_,_,_, swp2 fr0 zs2 j (j - 1), rfl, by omega, by omega, (.step j (j - 1) hsw2 ⟨by omega, by omega⟩ ⟨by omega, by omega⟩ he), (hin.step (by omega) (by omega) (by omega) hcm84), H⟩, by omega⟩
           ·skip
            refine b_val rfl go_none (r_loadn Try.isAgg42 Try.sizeOf42 rfl (H.at 0 rfl) (rw_ld elFr fr0 zs2 sp (j) (by omega) (by omega)) (by first | exact (kC_length _) | exact (hC_length _) | exact (ceC_length _) | exact (ptC_length _ _ _ _) | exact (plV_length _ _ _) | exact (elFr.len _) | exact (frC_length _) | exact rfl)) rfl (H.sub (.cons _ .slnil)) ?_
            refine d_all1 (i := 9) (by kernel_rfl) ?_
            refine b_val rfl go_none (r_loadn Try.isAgg42 Try.sizeOf42 rfl (H.at 0 rfl) (rw_ld elFr fr0 zs2 sp (j - 1) (by omega) (by omega)) (by first | exact (kC_length _) | exact (hC_length _) | exact (ceC_length _) | exact (ptC_length _ _ _ _) | exact (plV_length _ _ _) | exact (elFr.len _) | exact (frC_length _) | exact rfl)) rfl (H.sub (.cons _ .slnil)) ?_
            refine d_take (i := 14) rfl (by kernel_rfl) (fun _ _ _ h => h) (H.sub (.cons _ .slnil)) (fun _ _ => r_indexAddrS Try.runUnderlying29 Try.sizeOf42 rfl rfl (by omega) (by omega)) rfl ?_
            refine d_all1 (i := 15) (by kernel_rfl) ?_
            refine b_st rfl go_none (m_storen H 0 12 Try.sizeOf42 rfl rfl (by first | exact (kC_length _) | exact (hC_length _) | exact (ceC_length _) | exact (ptC_length _ _ _ _) | exact (plV_length _ _ _) | exact (elFr.len _) | exact (frC_length _)) (by first | exact (kC_one _) | exact (hC_one _) | exact (ceC_one _) | exact (ptC_one _ _ _ _) | exact (plV_one _ _ _) | exact (elFr.one _) | exact (frC_one _)) rfl (rw_room elFr zs2 sp (j) (by omega) (by omega)) (rw_splice elFr zs2 sp _ (j) (by omega) (by omega))) (L' := [_]) rfl rfl (fun _ H => (H.sub (.cons _ .slnil))) ?_
            intro w H
            refine d_take (i := 16) rfl (by kernel_rfl) (fun _ _ _ h => h) (H.sub (.cons _ .slnil)) (fun _ _ => r_indexAddrS Try.runUnderlying29 Try.sizeOf42 rfl rfl (by omega) (by omega)) rfl ?_
            refine d_all1 (i := 17) (by kernel_rfl) ?_
            refine b_st rfl go_none (m_storen H 0 12 Try.sizeOf42 rfl rfl (by first | exact (kC_length _) | exact (hC_length _) | exact (ceC_length _) | exact (ptC_length _ _ _ _) | exact (plV_length _ _ _) | exact (elFr.len _) | exact (frC_length _)) (by first | exact (kC_one _) | exact (hC_one _) | exact (ceC_one _) | exact (ptC_one _ _ _ _) | exact (plV_one _ _ _) | exact (elFr.one _) | exact (frC_one _)) rfl (rw_room elFr _ sp (j - 1) (by rw [List.length_set]; omega) (by omega)) (rw_splice elFr _ sp _ (j - 1) (by rw [List.length_set]; omega) (by omega))) (L' := [_]) rfl rfl (fun _ H => (H.sub (.cons _ .slnil))) ?_
            intro w H
            refine d_done (l' := [_,_,_,_,_,_,_,_,_,_,_,_,_,_,_,_,_,_,_,_,_,_,_,_,_,_,_,_,_,_,_,_,_,_,_,_,_,_,_,_,_,_,_,_,_,_,_,_,_,_,_,_,_,_,_,_,_,_,_,_,_,_,_,_,_,_,_,_,_,_,_,_,_,_,_,_,_,_,_,_,_,_,_,_,_,_,_,_,_,_,_,_,_,_,_,_,_,_,_,_,_,_,_,_,_,_,_,_,_,_,_,_,_,_,_,_,_,_,_,_,_,_,_,_,_,_,_,_,_,_,_,_,_,_,_,_,_,_,_,_,_]) (by kernel_rfl) rfl ?_
            refine x_blockNormal ?_
            refine x_thenNormal ?_
            refine c_region (n := 141) ⟨rfl, rfl⟩ ?_
            refine s_val (r_move rfl) ?_
            refine s_val (r_sub rfl rfl (w_i64e (r := ((j - 1 : Nat) : Int)) (by omega) (by omega) (by omega))) ?_
            refine s_val (r_assign rfl) ?_
            refine c_nil0 (l' := [_,_,_,_,_,_,_,_,_,_,_,_,_,_,_,_,_,_,_,_,_,_,_,_,_,_,_,_,_,_,_,_,_,_,_,_,_,_,_,_,_,_,_,_,_,_,_,_,_,_,_,_,_,_,_,_,_,_,_,_,_,_,_,_,_,_,_,_,_,_,_,_,_,_,_,_,_,_,_,_,_,_,_,_,_,_,_,_,_,_,_,_,_,_,_,_,_,_,_,_,_,_,_,_,_,_,_,_,_,_,_,_,_,_,_,_,_,_,_,_,_,_,_,_,_,_,_,_,_,_,_,_,_,_,_,_,_,_,_,_,_]) rfl ?_
            exact ⟨j - 1, _, rfl, ⟨_,_,_,_,_,_,_,_,_,_,_,_,_,_,_,_,_,_,_,_,_,_,_,_,_,_,_,_,_,_,_,_,_, swp2 fr0 zs2 j (j - 1), rfl, by omega, by omega, (.step j (j - 1) hsw2 ⟨by omega, by omega⟩ ⟨by omega, by omega⟩ he), (hin.step (by omega) (by omega) (by omega) hcm84), H⟩, by omega⟩
         ·skip
          refine wp_exit (x_thenExit (x_thenExit (x_blockHit ?_)))
          exact ⟨_, rfl, ⟨_,_,_,_,_,_,_,_,_,_,_,_,_,_,_,_,_,_,_,_,_,_,_,_,_,_,_,_,_,_,_,_,_,_,_,_,_,_,_,_,_, rfl, hsw2, ((hin.fin (by omega) (fun h => by omega)).cut (by omega)), H⟩⟩
        ·skip
         refine wp_skip ?_
         exact ⟨_, rfl, ⟨_,_,_,_,_,_,_,_,_,_,_,_,_,_,_,_,_,_,_,_,_,_,_,_,_,_,_,_,_,_,_,_,_,_,_,_,_,_,_,_,_, rfl, hsw1, ((hin1.fin (by omega) (fun h => by omega)).cut (by omega)), H⟩⟩
       ·skip
        rintro l w ⟨u11, u62, u63, u64, u65, u66, u67, u68, u69, u70, u71, u72, u73, u74, u75, u76, u77, u78, u79, u80, u81, u82, u83, u84, u85, u86, u87, u88, u89, u90, u91, u92, u93, u94, u95, u96, u97, u98, u99, u100, zs2, hl, hsw2, hs2, H⟩
        obtain rfl := hl.trans (rfl : _ = [_,_,_,_,_,_,_,_,_,_,_,_,_,_,_,_,_,_,_,_,_,_,_,_,_,_,_,_,_,_,_,_,_,_,_,_,_,_,_,_,_,_,_,_,_,_,_,_,_,_,_,_,_,_,_,_,_,_,_,_,_,_,_,_,_,_,_,_,_,_,_,_,_,_,_,_,_,_,_,_,_,_,_,_,_,_,_,_,_,_,_,_,_,_,_,_,_,_,_,_,_,_,_,_,_,_,_,_,_,_,_,_,_,_,_,_,_,_,_,_,_,_,_,_,_,_,_,_,_,_,_,_,_,_,_,_,_,_,_,_,_])
        clear hl
        have hlen2 := hsw2.length
        refine c_rseq (n := 141) ⟨rfl, rfl⟩ ?_
        refine s_val (r_move rfl) ?_
        refine s_val (r_move rfl) ?_
        refine s_val (r_sub rfl rfl (w_i64e (r := ((z - i : Nat) : Int)) (by omega) (by omega) (by omega))) ?_
        refine s_val (r_geq rfl rfl) ?_
        refine c_nil (l' := [_,_,_,_,_,_,_,_,_,_,_,_,_,_,_,_,_,_,_,_,_,_,_,_,_,_,_,_,_,_,_,_,_,_,_,_,_,_,_,_,_,_,_,_,_,_,_,_,_,_,_,_,_,_,_,_,_,_,_,_,_,_,_,_,_,_,_,_,_,_,_,_,_,_,_,_,_,_,_,_,_,_,_,_,_,_,_,_,_,_,_,_,_,_,_,_,_,_,_,_,_,_,_,_,_,_,_,_,_,_,_,_,_,_,_,_,_,_,_,_,_,_,_,_,_,_,_,_,_,_,_,_,_,_,_,_,_,_,_,_,_]) rfl ?_
        refine c_if rfl (fun h104 => ?_) (fun h104 => ?_)
        ·skip
         refine c_rseq (n := 141) ⟨rfl, rfl⟩ ?_
         refine s_val (r_move rfl) ?_
         refine s_val (r_add rfl rfl (w_i64e (r := ((i + 1 : Nat) : Int)) (by omega) (by omega) (by omega))) ?_
         refine s_val (r_assign rfl) ?_
         refine c_nil (l' := [_,_,_,_,_,_,_,_,_,_,_,_,_,_,_,_,_,_,_,_,_,_,_,_,_,_,_,_,_,_,_,_,_,_,_,_,_,_,_,_,_,_,_,_,_,_,_,_,_,_,_,_,_,_,_,_,_,_,_,_,_,_,_,_,_,_,_,_,_,_,_,_,_,_,_,_,_,_,_,_,_,_,_,_,_,_,_,_,_,_,_,_,_,_,_,_,_,_,_,_,_,_,_,_,_,_,_,_,_,_,_,_,_,_,_,_,_,_,_,_,_,_,_,_,_,_,_,_,_,_,_,_,_,_,_,_,_,_,_,_,_]) rfl ?_
         refine wp_block ?_
         refine c_loop (fun (l0 : List Value) (j : Nat) (l : List Value) (w : World) => ∃ (u107 u108 u109 u110 u111 u112 u113 u114 u115 u116 u117 u118 u119 u120 u121 u122 u123 u124 u125 u126 u127 u128 u129 u130 u131 u132 u133 u134 u135 u136 u137 u138 u139 u140 : Value) (zs3 : List FrL), l = ovr l0 [N_, N_, N_, N_, N_, N_, N_, N_, N_, N_, N_, N_, Y_ (.int .i64 (j : Nat)), N_, N_, N_, N_, N_, N_, N_, N_, N_, N_, N_, N_, N_, N_, N_, N_, N_, N_, N_, N_, N_, N_, N_, N_, N_, N_, N_, N_, N_, N_, N_, N_, N_, N_, N_, N_, N_, N_, N_, N_, N_, N_, N_, N_, N_, N_, N_, N_, N_, N_, N_, N_, N_, N_, N_, N_, N_, N_, N_, N_, N_, N_, N_, N_, N_, N_, N_, N_, N_, N_, N_, N_, N_, N_, N_, N_, N_, N_, N_, N_, N_, N_, N_, N_, N_, N_, N_, N_, N_, N_, N_, N_, N_, N_, Y_ u107, Y_ u108, Y_ u109, Y_ u110, Y_ u111, Y_ u112, Y_ u113, Y_ u114, Y_ u115, Y_ u116, Y_ u117, Y_ u118, Y_ u119, Y_ u120, Y_ u121, Y_ u122, Y_ u123, Y_ u124, Y_ u125, Y_ u126, Y_ u127, Y_ u128, Y_ u129, Y_ u130, Y_ u131, Y_ u132, Y_ u133, Y_ u134, Y_ u135, Y_ u136, Y_ u137, Y_ u138, Y_ u139, Y_ u140] ∧ i + 1 ≤ j ∧ j ≤ z ∧ Sw fr0 a z ys zs3 ∧ Srt fr0 frK a i zs3 ∧ St w0 [b] w [(b, .cells (rowC frC zs3 ++ sp).toArray 42 (0, 0))]) (fun (j : Nat) => z - j) (i + 1) ⟨_,_,_,_,_,_,_,_,_,_,_,_,_,_,_,_,_,_,_,_,_,_,_,_,_,_,_,_,_,_,_,_,_,_,_, rfl, by omega, by omega, hsw2, hs2, H⟩ ?_
         intro j l w ⟨u107, u108, u109, u110, u111, u112, u113, u114, u115, u116, u117, u118, u119, u120, u121, u122, u123, u124, u125, u126, u127, u128, u129, u130, u131, u132, u133, u134, u135, u136, u137, u138, u139, u140, zs3, hl, hji, hjz, hsw3, hs3, H⟩
         obtain rfl := hl.trans (rfl : _ = [_,_,_,_,_,_,_,_,_,_,_,_,_,_,_,_,_,_,_,_,_,_,_,_,_,_,_,_,_,_,_,_,_,_,_,_,_,_,_,_,_,_,_,_,_,_,_,_,_,_,_,_,_,_,_,_,_,_,_,_,_,_,_,_,_,_,_,_,_,_,_,_,_,_,_,_,_,_,_,_,_,_,_,_,_,_,_,_,_,_,_,_,_,_,_,_,_,_,_,_,_,_,_,_,_,_,_,_,_,_,_,_,_,_,_,_,_,_,_,_,_,_,_,_,_,_,_,_,_,_,_,_,_,_,_,_,_,_,_,_,_])
         clear hl
         have hlen3 := hsw3.length
         refine c_seq ?_
         refine c_rseq (n := 141) ⟨rfl, rfl⟩ ?_
         refine s_val (r_move rfl) ?_
         refine s_val (r_move rfl) ?_
         refine s_val (r_lss rfl rfl) ?_
         refine c_nil (l' := [_,_,_,_,_,_,_,_,_,_,_,_,_,_,_,_,_,_,_,_,_,_,_,_,_,_,_,_,_,_,_,_,_,_,_,_,_,_,_,_,_,_,_,_,_,_,_,_,_,_,_,_,_,_,_,_,_,_,_,_,_,_,_,_,_,_,_,_,_,_,_,_,_,_,_,_,_,_,_,_,_,_,_,_,_,_,_,_,_,_,_,_,_,_,_,_,_,_,_,_,_,_,_,_,_,_,_,_,_,_,_,_,_,_,_,_,_,_,_,_,_,_,_,_,_,_,_,_,_,_,_,_,_,_,_,_,_,_,_,_,_]) rfl ?_
         refine c_if rfl (fun h109 => ?_) (fun h109 => ?_)
         ·skip
          refine wp_skip ?_
          refine x_thenNormal ?_
          refine c_seq ?_
          refine wp_block ?_
          refine c_seq ?_
          refine c_seq ?_
          refine d_begin (sz := 141) ⟨rfl, rfl⟩ (by kernel_rfl) H (H) rfl ?_
          intro w H
          refine d_take (i := 0) rfl (by kernel_rfl) (fun _ _ _ h => h) H (fun _ _ => r_move rfl) rfl ?_
          refine d_take (i := 1) rfl (by kernel_rfl) (fun _ _ _ h => h) H (fun _ _ => r_move rfl) rfl ?_
          refine d_take (i := 2) rfl (by kernel_rfl) (fun _ _ _ h => h) H (fun _ _ => r_move rfl) rfl ?_
          refine d_take (i := 3) rfl (by kernel_rfl) (fun _ _ _ h => h) H (fun _ _ => r_indexAddrS Try.runUnderlying29 Try.sizeOf42 rfl rfl (by omega) (by omega)) rfl ?_
          refine d_take (i := 4) rfl (by kernel_rfl) (fun _ _ _ h => h) H (fun _ HS => r_loadn Try.isAgg42 Try.sizeOf42 rfl (HS.at 0 rfl) (rw_ld elFr fr0 zs3 sp (j) (by omega) (by omega)) (by first | exact (kC_length _) | exact (hC_length _) | exact (ceC_length _) | exact (ptC_length _ _ _ _) | exact (plV_length _ _ _) | exact (elFr.len _) | exact (frC_length _) | exact rfl)) rfl ?_
          refine d_take (i := 5) rfl (by kernel_rfl) (fun _ _ _ h => h) H (fun _ _ => r_move rfl) rfl ?_
          refine d_take (i := 6) rfl (by kernel_rfl) (fun _ _ _ h => h) H (fun _ _ => r_move rfl) rfl ?_
          refine d_take (i := 7) rfl (by kernel_rfl) (fun _ _ _ h => h) H (fun _ _ => r_sub rfl rfl (w_i64e (r := ((j - 1 : Nat) : Int)) (by omega) (by omega) (by omega))) rfl ?_
          refine d_take (i := 8) rfl (by kernel_rfl) (fun _ _ _ h => h) H (fun _ _ => r_indexAddrS Try.runUnderlying29 Try.sizeOf42 rfl rfl (by omega) (by omega)) rfl ?_
          refine d_take (i := 9) rfl (by kernel_rfl) (fun _ _ _ h => h) H (fun _ HS => r_loadn Try.isAgg42 Try.sizeOf42 rfl (HS.at 0 rfl) (rw_ld elFr fr0 zs3 sp (j - 1) (by omega) (by omega)) (by first | exact (kC_length _) | exact (hC_length _) | exact (ceC_length _) | exact (ptC_length _ _ _ _) | exact (plV_length _ _ _) | exact (elFr.len _) | exact (frC_length _) | exact rfl)) rfl ?_
          refine d_all1 (i := 10) (by kernel_rfl) ?_
          refine b_call rfl go_none (r_callv Try.call15 rfl (ec rfl (ec rfl en)) rfl) (rcmp_spec _ _ _) rfl ?_
          rintro v w ⟨rfl, HC⟩
          replace H := H.quiet HC
          refine ⟨H, ?_⟩
          refine d_take (i := 11) rfl (by kernel_rfl) (fun _ _ _ h => h) H (fun _ _ => r_lss rfl rfl) rfl ?_
          refine d_take (i := 12) rfl (by kernel_rfl) (fun _ _ _ h => h) H (fun _ _ => r_notp rfl) rfl ?_
          refine d_done (l' := [_,_,_,_,_,_,_,_,_,_,_,_,_,_,_,_,_,_,_,_,_,_,_,_,_,_,_,_,_,_,_,_,_,_,_,_,_,_,_,_,_,_,_,_,_,_,_,_,_,_,_,_,_,_,_,_,_,_,_,_,_,_,_,_,_,_,_,_,_,_,_,_,_,_,_,_,_,_,_,_,_,_,_,_,_,_,_,_,_,_,_,_,_,_,_,_,_,_,_,_,_,_,_,_,_,_,_,_,_,_,_,_,_,_,_,_,_,_,_,_,_,_,_,_,_,_,_,_,_,_,_,_,_,_,_,_,_,_,_,_,_]) (by kernel_rfl) rfl ?_
          refine x_thenNormal ?_
          refine c_if rfl (fun h124 => ?_) (fun h124 => ?_)
          ·skip
           refine wp_exit (x_thenExit (x_blockMiss (by decide) (x_thenExit (x_thenExit (x_blockHit ?_)))))
           refine x_blockNormal ?_
           refine x_thenNormal ?_
           refine c_region (n := 141) ⟨rfl, rfl⟩ ?_
           refine s_val (r_move rfl) ?_
           refine s_val (r_add rfl rfl (w_i64 (by omega) (by omega))) ?_
           refine s_val (r_assign rfl) ?_
           refine c_nil0 (l' := [_,_,_,_,_,_,_,_,_,_,_,_,_,_,_,_,_,_,_,_,_,_,_,_,_,_,_,_,_,_,_,_,_,_,_,_,_,_,_,_,_,_,_,_,_,_,_,_,_,_,_,_,_,_,_,_,_,_,_,_,_,_,_,_,_,_,_,_,_,_,_,_,_,_,_,_,_,_,_,_,_,_,_,_,_,_,_,_,_,_,_,_,_,_,_,_,_,_,_,_,_,_,_,_,_,_,_,_,_,_,_,_,_,_,_,_,_,_,_,_,_,_,_,_,_,_,_,_,_,_,_,_,_,_,_,_,_,_,_,_,_]) rfl ?_
           exact ⟨q + 1, _, rfl, ⟨_,_,_,_,_,_,_,_,_,_,_,_,_,_,_,_,_,_,_,_,_,_,_,_,_,_,_,_,_,_,_,_,_,_,_,_,_,_,_,_,_,_,_,_,_,_,_,_,_,_,_,_,_,_,_,_,_,_,_,_,_,_,_,_,_,_,_,_,_,_,_,_,_,_,_,_,_,_,_,_,_,_,_,_,_,_,_,_,_,_,_,_,_,_,_,_,_,_,_,_,_,_,_,_,_,_,_,_,_,_,_,_,_,_,_,_,_,_,_,_,_,_,_,_,_,_,_,_,_,_, zs3, rfl, by omega, hai, hiz, hsw3, hs3, H⟩, by omega⟩
          ·skip
           refine wp_skip ?_
           refine x_thenNormal ?_
           refine d_begin (sz := 141) ⟨rfl, rfl⟩ (by kernel_rfl) H (H.sub (.cons _ .slnil)) rfl ?_
           intro w H
           refine d_take (i := 0) rfl (by kernel_rfl) (fun _ _ _ h => h) (H.sub (.cons _ .slnil)) (fun _ _ => r_move rfl) rfl ?_
           refine d_take (i := 1) rfl (by kernel_rfl) (fun _ _ _ h => h) (H.sub (.cons _ .slnil)) (fun _ _ => r_move rfl) rfl ?_
           refine d_take (i := 2) rfl (by kernel_rfl) (fun _ _ _ h => h) (H.sub (.cons _ .slnil)) (fun _ _ => r_move rfl) rfl ?_
           refine d_take (i := 3) rfl (by kernel_rfl) (fun _ _ _ h => h) (H.sub (.cons _ .slnil)) (fun _ _ => r_move rfl) rfl ?_
           refine d_take (i := 4) rfl (by kernel_rfl) (fun _ _ _ h => h) (H.sub (.cons _ .slnil)) (fun _ _ => r_sub rfl rfl (w_i64e (r := ((j - 1 : Nat) : Int)) (by omega) (by omega) (by omega))) rfl ?_
           refine d_take (i := 5) rfl (by kernel_rfl) (fun _ _ _ h => h) (H.sub (.cons _ .slnil)) (fun _ _ => r_move rfl) rfl ?_
           refine d_take (i := 6) rfl (by kernel_rfl) (fun _ _ _ h => h) (H.sub (.cons _ .slnil)) (fun _ _ => r_move rfl) rfl ?_
           refine d_take (i := 7) rfl (by kernel_rfl) (fun _ _ _ h => h) (H.sub (.cons _ .slnil)) (fun _ _ => r_sub rfl rfl (w_i64e (r := ((j - 1 : Nat) : Int)) (by omega) (by omega) (by omega))) rfl ?_
           refine d_take (i := 8) rfl (by kernel_rfl) (fun _ _ _ h => h) (H.sub (.cons _ .slnil)) (fun _ _ => r_indexAddrS Try.runUnderlying29 Try.sizeOf42 rfl rfl (by omega) (by omega)) rfl ?_
           refine d_take (i := 10) rfl (by kernel_rfl) (fun _ _ _ h => h) (H.sub (.cons _ .slnil)) (fun _ _ => r_move rfl) rfl ?_
           refine d_take (i := 11) rfl (by kernel_rfl) (fun _ _ _ h => h) (H.sub (.cons _ .slnil)) (fun _ _ => r_move rfl) rfl ?_
           refine d_take (i := 12) rfl (by kernel_rfl) (fun _ _ _ h => h) (H.sub (.cons _ .slnil)) (fun _ _ => r_indexAddrS Try.runUnderlying29 Try.sizeOf42 rfl rfl (by omega) (by omega)) rfl ?_
           refine d_all2 (i := 9) (j := 13) (by kernel_rfl) ?_ ?_
           ·skip
            refine b_val rfl go_none (r_loadn Try.isAgg42 Try.sizeOf42 rfl (H.at 0 rfl) (rw_ld elFr fr0 zs3 sp (j - 1) (by omega) (by omega)) (by first | exact (kC_length _) | exact (hC_length _) | exact (ceC_length _) | exact (ptC_length _ _ _ _) | exact (plV_length _ _ _) | exact (elFr.len _) | exact (frC_length _) | exact rfl)) rfl (H.sub (.cons _ .slnil)) ?_
            refine d_all1 (i := 13) (by kernel_rfl) ?_
            refine b_val rfl go_none (r_loadn Try.isAgg42 Try.sizeOf42 rfl (H.at 0 rfl) (rw_ld elFr fr0 zs3 sp (j) (by omega) (by omega)) (by first | exact (kC_length _) | exact (hC_length _) | exact (ceC_length _) | exact (ptC_length _ _ _ _) | exact (plV_length _ _ _) | exact (elFr.len _) | exact (frC_length _) | exact rfl)) rfl (H.sub (.cons _ .slnil)) ?_
            refine d_take (i := 14) rfl (by kernel_rfl) (fun _ _ _ h => h) (H.sub (.cons _ .slnil)) (fun _ _ => r_indexAddrS Try.runUnderlying29 Try.sizeOf42 rfl rfl (by omega) (by omega)) rfl ?_
            refine d_all1 (i := 15) (by kernel_rfl) ?_
            refine b_st rfl go_none (m_storen H 0 12 Try.sizeOf42 rfl rfl (by first | exact (kC_length _) | exact (hC_length _) | exact (ceC_length _) | exact (ptC_length _ _ _ _) | exact (plV_length _ _ _) | exact (elFr.len _) | exact (frC_length _)) (by first | exact (kC_one _) | exact (hC_one _) | exact (ceC_one _) | exact (ptC_one _ _ _ _) | exact (plV_one _ _ _) | exact (elFr.one _) | exact (frC_one _)) rfl (rw_room elFr zs3 sp (j) (by omega) (by omega)) (rw_splice elFr zs3 sp _ (j) (by omega) (by omega))) (L' := [_]) rfl rfl (fun _ H => (H.sub (.cons _ .slnil))) ?_
            intro w H
            refine d_take (i := 16) rfl (by kernel_rfl) (fun _ _ _ h => h) (H.sub (.cons _ .slnil)) (fun _ _ => r_indexAddrS Try.runUnderlying29 Try.sizeOf42 rfl rfl (by omega) (by omega)) rfl ?_
            refine d_all1 (i := 17) (by kernel_rfl) ?_
            refine b_st rfl go_none (m_storen H 0 12 Try.sizeOf42 rfl rfl (by first | exact (kC_length _) | exact (hC_length _) | exact (ceC_length _) | exact (ptC_length _ _ _ _) | exact (plV_length _ _ _) | exact (elFr.len _) | exact (frC_length _)) (by first | exact (kC_one _) | exact (hC_one _) | exact (ceC_one _) | exact (ptC_one _ _ _ _) | exact (plV_one _ _ _) | exact (elFr.one _) | exact (frC_one _)) rfl (rw_room elFr _ sp (j - 1) (by rw [List.length_set]; omega) (by omega)) (rw_splice elFr _ sp _ (j - 1) (by rw [List.length_set]; omega) (by omega))) (L' := [_]) rfl rfl (fun _ H => (H.sub (.cons _ .slnil))) ?_
            intro w H
            refine d_done (l' := [_,_,_,_,_,_,_,_,_,_,_,_,_,_,_,_,_,_,_,_,_,_,_,_,_,_,_,_,_,_,_,_,_,_,_,_,_,_,_,_,_,_,_,_,_,_,_,_,_,_,_,_,_,_,_,_,_,_,_,_,_,_,_,_,_,_,_,_,_,_,_,_,_,_,_,_,_,_,_,_,_,_,_,_,_,_,_,_,_,_,_,_,_,_,_,_,_,_,_,_,_,_,_,_,_,_,_,_,_,_,_,_,_,_,_,_,_,_,_,_,_,_,_,_,_,_,_,_,_,_,_,_,_,_,_,_,_,_,_,_,_]) (by kernel_rfl) rfl ?_
            refine x_blockNormal ?_
            refine x_thenNormal ?_
            refine c_region (n := 141) ⟨rfl, rfl⟩ ?_
            refine s_val (r_move rfl) ?_
            refine s_val (r_add rfl rfl (w_i64 (by omega) (by omega))) ?_
            refine s_val (r_assign rfl) ?_
            refine c_nil0 (l' := [_,_,_,_,_,_,_,_,_,_,_,_,_,_,_,_,_,_,_,_,_,_,_,_,_,_,_,_,_,_,_,_,_,_,_,_,_,_,_,_,_,_,_,_,_,_,_,_,_,_,_,_,_,_,_,_,_,_,_,_,_,_,_,_,_,_,_,_,_,_,_,_,_,_,_,_,_,_,_,_,_,_,_,_,_,_,_,_,_,_,_,_,_,_,_,_,_,_,_,_,_,_,_,_,_,_,_,_,_,_,_,_,_,_,_,_,_,_,_,_,_,_,_,_,_,_,_,_,_,_,_,_,_,_,_,_,_,_,_,_,_]) rfl ?_
            exact ⟨j + 1, _, rfl, ⟨_,_,_,_,_,_,_,_,_,_,_,_,_,_,_,_,_,_,_,_,_,_,_,_,_,_,_,_,_,_,_,_,_,_, swp2 fr0 zs3 j (j - 1), rfl, by omega, by omega, (.step j (j - 1) hsw3 ⟨by omega, by omega⟩ ⟨by omega, by omega⟩ he), (hs3.off (by omega) (by omega) (by omega) (by omega)), H⟩, by omega⟩
           ·skip
            refine b_val rfl go_none (r_loadn Try.isAgg42 Try.sizeOf42 rfl (H.at 0 rfl) (rw_ld elFr fr0 zs3 sp (j) (by omega) (by omega)) (by first | exact (kC_length _) | exact (hC_length _) | exact (ceC_length _) | exact (ptC_length _ _ _ _) | exact (plV_length _ _ _) | exact (elFr.len _) | exact (frC_length _) | exact rfl)) rfl (H.sub (.cons _ .slnil)) ?_
            refine d_all1 (i := 9) (by kernel_rfl) ?_
            refine b_val rfl go_none (r_loadn Try.isAgg42 Try.sizeOf42 rfl (H.at 0 rfl) (rw_ld elFr fr0 zs3 sp (j - 1) (by omega) (by omega)) (by first | exact (kC_length _) | exact (hC_length _) | exact (ceC_length _) | exact (ptC_length _ _ _ _) | exact (plV_length _ _ _) | exact (elFr.len _) | exact (frC_length _) | exact rfl)) rfl (H.sub (.cons _ .slnil)) ?_
            refine d_take (i := 14) rfl (by kernel_rfl) (fun _ _ _ h => h) (H.sub (.cons _ .slnil)) (fun _ _ => r_indexAddrS Try.runUnderlying29 Try.sizeOf42 rfl rfl (by omega) (by omega)) rfl ?_
            refine d_all1 (i := 15) (by kernel_rfl) ?_
            refine b_st rfl go_none (m_storen H 0 12 Try.sizeOf42 rfl rfl (by first | exact (kC_length _) | exact (hC_length _) | exact (ceC_length _) | exact (ptC_length _ _ _ _) | exact (plV_length _ _ _) | exact (elFr.len _) | exact (frC_length _)) (by first | exact (kC_one _) | exact (hC_one _) | exact (ceC_one _) | exact (ptC_one _ _ _ _) | exact (plV_one _ _ _) | exact (elFr.one _) | exact (frC_one _)) rfl (rw_room elFr zs3 sp (j) (by omega) (by omega)) (rw_splice elFr zs3 sp _ (j) (by omega) (by omega))) (L' := [_]) rfl rfl (fun _ H => (H.sub (.cons _ .slnil))) ?_
            intro w H
            refine d_take (i := 16) rfl (by kernel_rfl) (fun _ _ _ h => h) (H.sub (.cons _ .slnil)) (fun _ _ => r_indexAddrS Try.runUnderlying29 Try.sizeOf42 rfl rfl (by omega) (by omega)) rfl ?_
            refine d_all1 (i := 17) (by kernel_rfl) ?_
            refine b_st rfl go_none (m_storen H 0 12 Try.sizeOf42 rfl rfl (by first | exact (kC_length _) | exact (hC_length _) | exact (ceC_length _) | exact (ptC_length _ _ _ _) | exact (plV_length _ _ _) | exact (elFr.len _) | exact (frC_length _)) (by first | exact (kC_one _) | exact (hC_one _) | exact (ceC_one _) | exact (ptC_one _ _ _ _) | exact (plV_one _ _ _) | exact (elFr.one _) | exact (frC_one _)) rfl (rw_room elFr _ sp (j - 1) (by rw [List.length_set]; omega) (by omega)) (rw_splice elFr _ sp _ (j - 1) (by rw [List.length_set]; omega) (by omega))) (L' := [_]) rfl rfl (fun _ H => (H.sub (.cons _ .slnil))) ?_
            intro w H
            refine d_done (l' := [_,_,_,_,_,_,_,_,_,_,_,_,_,_,_,_,_,_,_,_,_,_,_,_,_,_,_,_,_,_,_,_,_,_,_,_,_,_,_,_,_,_,_,_,_,_,_,_,_,_,_,_,_,_,_,_,_,_,_,_,_,_,_,_,_,_,_,_,_,_,_,_,_,_,_,_,_,_,_,_,_,_,_,_,_,_,_,_,_,_,_,_,_,_,_,_,_,_,_,_,_,_,_,_,_,_,_,_,_,_,_,_,_,_,_,_,_,_,_,_,_,_,_,_,_,_,_,_,_,_,_,_,_,_,_,_,_,_,_,_,_]) (by kernel_rfl) rfl ?_
            refine x_blockNormal ?_
            refine x_thenNormal ?_
            refine c_region (n := 141) ⟨rfl, rfl⟩ ?_
            refine s_val (r_move rfl) ?_
            refine s_val (r_add rfl rfl (w_i64 (by omega) (by omega))) ?_
            refine s_val (r_assign rfl) ?_
            refine c_nil0 (l' := [_,_,_,_,_,_,_,_,_,_,_,_,_,_,_,_,_,_,_,_,_,_,_,_,_,_,_,_,_,_,_,_,_,_,_,_,_,_,_,_,_,_,_,_,_,_,_,_,_,_,_,_,_,_,_,_,_,_,_,_,_,_,_,_,_,_,_,_,_,_,_,_,_,_,_,_,_,_,_,_,_,_,_,_,_,_,_,_,_,_,_,_,_,_,_,_,_,_,_,_,_,_,_,_,_,_,_,_,_,_,_,_,_,_,_,_,_,_,_,_,_,_,_,_,_,_,_,_,_,_,_,_,_,_,_,_,_,_,_,_,_]) rfl ?_
            exact ⟨j + 1, _, rfl, ⟨_,_,_,_,_,_,_,_,_,_,_,_,_,_,_,_,_,_,_,_,_,_,_,_,_,_,_,_,_,_,_,_,_,_, swp2 fr0 zs3 j (j - 1), rfl, by omega, by omega, (.step j (j - 1) hsw3 ⟨by omega, by omega⟩ ⟨by omega, by omega⟩ he), (hs3.off (by omega) (by omega) (by omega) (by omega)), H⟩, by omega⟩
         ·skip
          refine wp_exit (x_thenExit (x_thenExit (x_blockHit ?_)))
          refine x_blockNormal ?_
          refine x_thenNormal ?_
          refine c_region (n := 141) ⟨rfl, rfl⟩ ?_
          refine s_val (r_move rfl) ?_
          refine s_val (r_add rfl rfl (w_i64 (by omega) (by omega))) ?_
          refine s_val (r_assign rfl) ?_
          refine c_nil0 (l' := [_,_,_,_,_,_,_,_,_,_,_,_,_,_,_,_,_,_,_,_,_,_,_,_,_,_,_,_,_,_,_,_,_,_,_,_,_,_,_,_,_,_,_,_,_,_,_,_,_,_,_,_,_,_,_,_,_,_,_,_,_,_,_,_,_,_,_,_,_,_,_,_,_,_,_,_,_,_,_,_,_,_,_,_,_,_,_,_,_,_,_,_,_,_,_,_,_,_,_,_,_,_,_,_,_,_,_,_,_,_,_,_,_,_,_,_,_,_,_,_,_,_,_,_,_,_,_,_,_,_,_,_,_,_,_,_,_,_,_,_,_]) rfl ?_
          exact ⟨q + 1, _, rfl, ⟨_,_,_,_,_,_,_,_,_,_,_,_,_,_,_,_,_,_,_,_,_,_,_,_,_,_,_,_,_,_,_,_,_,_,_,_,_,_,_,_,_,_,_,_,_,_,_,_,_,_,_,_,_,_,_,_,_,_,_,_,_,_,_,_,_,_,_,_,_,_,_,_,_,_,_,_,_,_,_,_,_,_,_,_,_,_,_,_,_,_,_,_,_,_,_,_,_,_,_,_,_,_,_,_,_,_,_,_,_,_,_,_,_,_,_,_,_,_,_,_,_,_,_,_,_,_,_,_,_,_, zs3, rfl, by omega, hai, hiz, hsw3, hs3, H⟩, by omega⟩
        ·skip
         refine wp_skip ?_
         refine x_blockNormal ?_
         refine x_thenNormal ?_
         refine c_region (n := 141) ⟨rfl, rfl⟩ ?_
         refine s_val (r_move rfl) ?_
         refine s_val (r_add rfl rfl (w_i64 (by omega) (by omega))) ?_
         refine s_val (r_assign rfl) ?_
         refine c_nil0 (l' := [_,_,_,_,_,_,_,_,_,_,_,_,_,_,_,_,_,_,_,_,_,_,_,_,_,_,_,_,_,_,_,_,_,_,_,_,_,_,_,_,_,_,_,_,_,_,_,_,_,_,_,_,_,_,_,_,_,_,_,_,_,_,_,_,_,_,_,_,_,_,_,_,_,_,_,_,_,_,_,_,_,_,_,_,_,_,_,_,_,_,_,_,_,_,_,_,_,_,_,_,_,_,_,_,_,_,_,_,_,_,_,_,_,_,_,_,_,_,_,_,_,_,_,_,_,_,_,_,_,_,_,_,_,_,_,_,_,_,_,_,_]) rfl ?_
         exact ⟨q + 1, _, rfl, ⟨_,_,_,_,_,_,_,_,_,_,_,_,_,_,_,_,_,_,_,_,_,_,_,_,_,_,_,_,_,_,_,_,_,_,_,_,_,_,_,_,_,_,_,_,_,_,_,_,_,_,_,_,_,_,_,_,_,_,_,_,_,_,_,_,_,_,_,_,_,_,_,_,_,_,_,_,_,_,_,_,_,_,_,_,_,_,_,_,_,_,_,_,_,_,_,_,_,_,_,_,_,_,_,_,_,_,_,_,_,_,_,_,_,_,_,_,_,_,_,_,_,_,_,_,_,_,_,_,_,_, zs2, rfl, by omega, hai, hiz, hsw2, hs2, H⟩, by omega⟩
  ·skip
   refine d_take (i := 3) rfl (by kernel_rfl) (fun _ _ _ h => h) H (fun _ _ => r_move rfl) rfl ?_
   refine d_takeN (i := 4) rfl (by kernel_rfl) (fun _ _ _ h => h) rfl rfl (by decide) H rfl ?_
   refine d_takeN (i := 5) rfl (by kernel_rfl) (fun _ _ _ h => h) rfl rfl (by decide) H rfl ?_
   refine d_takeN (i := 6) rfl (by kernel_rfl) (fun _ _ _ h => h) rfl rfl (by decide) H rfl ?_
   refine d_takeN (i := 7) rfl (by kernel_rfl) (fun _ _ _ h => h) rfl rfl (by decide) H rfl ?_
   refine d_takeN (i := 8) rfl (by kernel_rfl) (fun _ _ _ h => h) rfl rfl (by decide) H rfl ?_
   refine d_takeN (i := 9) rfl (by kernel_rfl) (fun _ _ _ h => h) rfl rfl (by decide) H rfl ?_
   refine d_takeN (i := 10) rfl (by kernel_rfl) (fun _ _ _ h => h) rfl rfl (by decide) H rfl ?_
   refine d_takeN (i := 11) rfl (by kernel_rfl) (fun _ _ _ h => h) rfl rfl (by decide) H rfl ?_
   refine d_takeN (i := 12) rfl (by kernel_rfl) (fun _ _ _ h => h) rfl rfl (by decide) H rfl ?_
   refine d_takeN (i := 13) rfl (by kernel_rfl) (fun _ _ _ h => h) rfl rfl (by decide) H rfl ?_
   refine d_takeN (i := 14) rfl (by kernel_rfl) (fun _ _ _ h => h) rfl rfl (by decide) H rfl ?_
   refine d_takeN (i := 15) rfl (by kernel_rfl) (fun _ _ _ h => h) rfl rfl (by decide) H rfl ?_
   refine d_takeN (i := 16) rfl (by kernel_rfl) (fun _ _ _ h => h) rfl rfl (by decide) H rfl ?_
   refine d_take (i := 17) rfl (by kernel_rfl) (fun _ _ _ h => h) H (fun _ _ => r_pickf rfl rfl) rfl ?_
   refine d_done (l' := [_,_,_,_,_,_,_,_,_,_,_,_,_,_,_,_,_,_,_,_,_,_,_,_,_,_,_,_,_,_,_,_,_,_,_,_,_,_,_,_,_,_,_,_,_,_,_,_,_,_,_,_,_,_,_,_,_,_,_,_,_,_,_,_,_,_,_,_,_,_,_,_,_,_,_,_,_,_,_,_,_,_,_,_,_,_,_,_,_,_,_,_,_,_,_,_,_,_,_,_,_,_,_,_,_,_,_,_,_,_,_,_,_,_,_,_,_,_,_,_,_,_,_,_,_,_,_,_,_,_,_,_,_,_,_,_,_,_,_,_,_]) (by kernel_rfl) rfl ?_
   refine x_thenNormal ?_
   refine c_iff rfl ?_
   refine wp_exit (x_thenExit (x_thenExit (x_blockHit ?_)))
   refine x_thenNormal ?_
   refine c_seq ?_
   refine c_rseq (n := 141) ⟨rfl, rfl⟩ ?_
   refine s_val (r_move rfl) ?_
   refine s_val (r_move rfl) ?_
   refine s_val (r_eql rfl rfl) ?_
   refine c_nil (l' := [_,_,_,_,_,_,_,_,_,_,_,_,_,_,_,_,_,_,_,_,_,_,_,_,_,_,_,_,_,_,_,_,_,_,_,_,_,_,_,_,_,_,_,_,_,_,_,_,_,_,_,_,_,_,_,_,_,_,_,_,_,_,_,_,_,_,_,_,_,_,_,_,_,_,_,_,_,_,_,_,_,_,_,_,_,_,_,_,_,_,_,_,_,_,_,_,_,_,_,_,_,_,_,_,_,_,_,_,_,_,_,_,_,_,_,_,_,_,_,_,_,_,_,_,_,_,_,_,_,_,_,_,_,_,_,_,_,_,_,_,_]) rfl ?_
   refine c_if rfl (fun h41 => ?_) (fun h41 => ?_)
   ·skip
    obtain rfl : i = z := by omega
    refine c_rseq (n := 141) ⟨rfl, rfl⟩ ?_
    refine s_val (r_assign rfl) ?_
    refine c_nil (l' := [_,_,_,_,_,_,_,_,_,_,_,_,_,_,_,_,_,_,_,_,_,_,_,_,_,_,_,_,_,_,_,_,_,_,_,_,_,_,_,_,_,_,_,_,_,_,_,_,_,_,_,_,_,_,_,_,_,_,_,_,_,_,_,_,_,_,_,_,_,_,_,_,_,_,_,_,_,_,_,_,_,_,_,_,_,_,_,_,_,_,_,_,_,_,_,_,_,_,_,_,_,_,_,_,_,_,_,_,_,_,_,_,_,_,_,_,_,_,_,_,_,_,_,_,_,_,_,_,_,_,_,_,_,_,_,_,_,_,_,_,_]) rfl ?_
    refine wp_ret (x_thenRet (x_blockRet (x_thenRet (x_thenRet (x_blockRet (x_thenRet ?_))))))
    refine e_ret (res1 rfl rfl) ⟨_, rfl, ?_⟩
    exact ⟨true, zs, rfl, hsw, fun _ => hs, H⟩
   ·skip
    exfalso; omega
 ·skip
  refine wp_exit (x_thenExit (x_thenExit (x_blockHit ?_)))
  refine x_thenNormal ?_
  refine c_rseq (n := 141) ⟨rfl, rfl⟩ ?_
  refine s_val (r_assign rfl) ?_
  refine c_nil (l' := [_,_,_,_,_,_,_,_,_,_,_,_,_,_,_,_,_,_,_,_,_,_,_,_,_,_,_,_,_,_,_,_,_,_,_,_,_,_,_,_,_,_,_,_,_,_,_,_,_,_,_,_,_,_,_,_,_,_,_,_,_,_,_,_,_,_,_,_,_,_,_,_,_,_,_,_,_,_,_,_,_,_,_,_,_,_,_,_,_,_,_,_,_,_,_,_,_,_,_,_,_,_,_,_,_,_,_,_,_,_,_,_,_,_,_,_,_,_,_,_,_,_,_,_,_,_,_,_,_,_,_,_,_,_,_,_,_,_,_,_,_]) rfl ?_
  refine wp_ret ?_
  refine e_ret (res1 rfl rfl) ⟨_, rfl, ?_⟩
  exact ⟨false, zs, rfl, hsw, (fun h => nomatch h), H⟩

end Go.Proofs.Ytihpeihlpgompaa

