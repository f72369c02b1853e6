import Derived.Test.YtobfnieebiakeaaPM
import Derived.Test.YtobfnieebiakeaaPU0
namespace Go.Proofs.Ytobfnieebiakeaa
open Go Go.Er

set_option maxHeartbeats 4000000 in
theorem isort_spec (b n cap : Nat) (ys : List Held) (sp : List Value) (a z : Nat) (hnl : n = ys.length) (haz : a ≤ z) (he : z ≤ ys.length) (hl : ys.length ≤ 1000000) (w0 : World) (hown : Go.Er.Own w0 [(b, .cells (hsC ys ++ sp).toArray 88 (0, 0))]) :
  Calls Try.prog 69 #[.slice (some ⟨b, 0, none⟩) n cap, .int .i64 (a : Nat), .int .i64 (z : Nat), .func (.func 37) #[] #[]] w0 fun e w => ∃ v, e = .returned v ∧ (v = .tuple #[] ∧ ∃ zs, Sw Held.zero a z ys zs ∧ Srt Held.zero atK a z zs ∧ St w0 [b] w [(b, .cells (hsC zs ++ sp).toArray 88 (0, 0))]) := by
 have H : St w0 [b] w0 [(b, .cells (hsC ys ++ sp).toArray 88 (0, 0))] := hown.st
 refine c_enter (args := [.slice (some ⟨b, 0, none⟩) n cap, .int .i64 (a : Nat), .int .i64 (z : Nat), .func (.func 37) #[] #[]]) (l := t50 (t3 [])) Try.func69 Try.ntmps69 rfl rfl ?_
 refine zq 53 ⟨rfl, rfl⟩ ?_
 refine zm ?_
 refine zj ?_
 refine za ?_
 refine zc (t50 (t3 [])) ?_
 refine wp_block ?_
 refine c_loop (fun (l0 : List Value) (i : Nat) (l : List Value) (w : World) => ∃ (u9 u12 u13 u14 u15 u16 u17 u18 u19 u20 u21 u22 u23 u24 u25 u26 u27 u28 u29 u30 u31 u32 u33 u34 u35 u36 u37 u38 u39 u40 u41 u42 u43 u44 u45 u46 u47 u48 u49 u50 u51 u52 : Value) (zs : List Held), l = ovr l0 [N_, N_, N_, N_, N_, N_, N_, N_, Y_ (.int .i64 i), Y_ u9, N_, N_, Y_ u12, Y_ u13, Y_ u14, Y_ u15, Y_ u16, Y_ u17, Y_ u18, Y_ u19, Y_ u20, Y_ u21, Y_ u22, Y_ u23, Y_ u24, Y_ u25, Y_ u26, Y_ u27, Y_ u28, Y_ u29, Y_ u30, Y_ u31, Y_ u32, Y_ u33, Y_ u34, Y_ u35, Y_ u36, Y_ u37, Y_ u38, Y_ u39, Y_ u40, Y_ u41, Y_ u42, Y_ u43, Y_ u44, Y_ u45, Y_ u46, Y_ u47, Y_ u48, Y_ u49, Y_ u50, Y_ u51, Y_ u52] ∧ a < i ∧ (i ≤ z ∨ i = a + 1) ∧ Sw Held.zero a z ys zs ∧ Srt Held.zero atK a i zs ∧ St w0 [b] w [(b, .cells (hsC zs ++ sp).toArray 88 (0, 0))]) (fun (i : Nat) => z - i) (a + 1) ⟨_, _, _, _, _, _, _, _, _, _, _, _, _, _, _, _, _, _, _, _, _, _, _, _, _, _, _, _, _, _, _, _, _, _, _, _, _, _, _, _, _, _, _, rfl, by omega, .inr rfl, .refl, (fun p q _ _ _ => by omega), H⟩ ?_
 intro i l w ⟨u9, u12, u13, u14, u15, u16, u17, u18, u19, u20, u21, u22, u23, u24, u25, u26, u27, u28, u29, u30, u31, u32, u33, u34, u35, u36, u37, u38, u39, u40, u41, u42, u43, u44, u45, u46, u47, u48, u49, u50, u51, u52, zs, hl, hai, hie, hsw, hs, H⟩
 obtain rfl := hl.trans (rfl : _ = t50 (t3 []))
 clear hl
 have hlen := hsw.length
 refine c_seq ?_
 refine zq 53 ⟨rfl, rfl⟩ ?_
 refine zm ?_
 refine zm ?_
 refine s_val (r_lss rfl rfl) ?_
 refine zc (t50 (t3 [])) ?_
 refine c_if rfl (fun h14 => ?_) (fun h14 => ?_)
 ·refine wp_skip ?_
  refine x_thenNormal ?_
  refine c_seq ?_
  refine wp_block ?_
  refine zq 53 ⟨rfl, rfl⟩ ?_
  refine zm ?_
  refine za ?_
  refine zc (t50 (t3 [])) ?_
  refine wp_block ?_
  refine c_loop (fun (l0 : List Value) (j : Nat) (l : List Value) (w : World) => ∃ (u18 u19 u20 u21 u22 u23 u24 u25 u26 u27 u28 u29 u30 u31 u32 u33 u34 u35 u36 u37 u38 u39 u40 u41 u42 u43 u44 u45 u46 u47 u48 u49 u50 u51 u52 : Value) (zs : List Held), l = ovr l0 [N_, N_, N_, N_, N_, N_, N_, N_, N_, Y_ (.int .i64 j), N_, N_, N_, N_, N_, N_, N_, N_, Y_ u18, Y_ u19, Y_ u20, Y_ u21, Y_ u22, Y_ u23, Y_ u24, Y_ u25, Y_ u26, Y_ u27, Y_ u28, Y_ u29, Y_ u30, Y_ u31, Y_ u32, Y_ u33, Y_ u34, Y_ u35, Y_ u36, Y_ u37, Y_ u38, Y_ u39, Y_ u40, Y_ u41, Y_ u42, Y_ u43, Y_ u44, Y_ u45, Y_ u46, Y_ u47, Y_ u48, Y_ u49, Y_ u50, Y_ u51, Y_ u52] ∧ a ≤ j ∧ j ≤ i ∧ Sw Held.zero a z ys zs ∧ Ins Held.zero atK a i j zs ∧ St w0 [b] w [(b, .cells (hsC zs ++ sp).toArray 88 (0, 0))]) (fun (j : Nat) => j) i ⟨_, _, _, _, _, _, _, _, _, _, _, _, _, _, _, _, _, _, _, _, _, _, _, _, _, _, _, _, _, _, _, _, _, _, _, _, rfl, by omega, by omega, hsw, (Ins.start hs), H⟩ ?_
  intro j l w ⟨u18, u19, u20, u21, u22, u23, u24, u25, u26, u27, u28, u29, u30, u31, u32, u33, u34, u35, u36, u37, u38, u39, u40, u41, u42, u43, u44, u45, u46, u47, u48, u49, u50, u51, u52, zs, hl, haj, hji, hsw, hin, H⟩
  obtain rfl := hl.trans (rfl : _ = t50 (t3 []))
  clear hl
  have hlen := hsw.length
  refine c_seq ?_
  refine c_seq ?_
  refine d_begin (sz := 53) ⟨rfl, rfl⟩ (by kernel_rfl) H (H) rfl ?_
  intro w H
  refine zM 0 H ?_
  refine zM 1 H ?_
  refine zd 2 rfl (by kernel_rfl) (fun _ _ _ h => h) H (r_gtr rfl rfl) rfl ?_
  refine d_part (fun h20 => ?_) (fun h20 => ?_)
  ·refine zM 3 H ?_
   refine zG 4 rfl rfl rfl (by kernel_rfl) (fun _ _ _ h => h) H (r_move rfl) rfl ?_
   refine zG 5 rfl rfl rfl (by kernel_rfl) (fun _ _ _ h => h) H (r_move rfl) rfl ?_
   refine zG 6 rfl rfl rfl (by kernel_rfl) (fun _ _ _ h => h) H (r_move rfl) rfl ?_
   refine zG 7 rfl rfl rfl (by kernel_rfl) (fun _ _ _ h => h) H (ziS qu85 qs88) rfl ?_
   refine d_takeG (i := 8) rfl (by kernel_rfl) (fun _ _ _ h => h) rfl rfl H (fun _ HS => r_loadn qg88 qs88 rfl (HS.at 0 rfl) (hs_ld zs sp (j) (by omega) (by omega)) (by first | exact (kC_length _) | exact (hC_length _) | exact rfl)) rfl ?_
   refine zG 9 rfl rfl rfl (by kernel_rfl) (fun _ _ _ h => h) H (r_move rfl) rfl ?_
   refine zG 10 rfl rfl rfl (by kernel_rfl) (fun _ _ _ h => h) H (r_move rfl) rfl ?_
   refine zG 11 rfl rfl rfl (by kernel_rfl) (fun _ _ _ h => h) H (r_sub rfl rfl (wr (r := ((j - 1 : Nat) : Int)))) rfl ?_
   refine zG 12 rfl rfl rfl (by kernel_rfl) (fun _ _ _ h => h) H (ziS qu85 qs88) rfl ?_
   refine d_takeG (i := 13) rfl (by kernel_rfl) (fun _ _ _ h => h) rfl rfl H (fun _ HS => r_loadn qg88 qs88 rfl (HS.at 0 rfl) (hs_ld zs sp (j - 1) (by omega) (by omega)) (by first | exact (kC_length _) | exact (hC_length _) | exact rfl)) rfl ?_
   refine zl1 14 ?_
   refine b_call rfl (go_some rfl rfl) (r_callv qc37 rfl (ec rfl (ec rfl en)) rfl) (punc2_spec _ _ _) rfl ?_
   rintro v w ⟨rfl, HC⟩
   replace H := H.quiet HC
   refine ⟨H, ?_⟩
   refine zG 15 rfl rfl rfl (by kernel_rfl) (fun _ _ _ h => h) H (r_lss rfl rfl) rfl ?_
   refine zd 16 rfl (by kernel_rfl) (fun _ _ _ h => h) H (r_pickt rfl rfl) rfl ?_
   refine zz (t50 (t3 [])) ?_
   refine x_thenNormal ?_
   refine c_if rfl (fun h34 => ?_) (fun h34 => ?_)
   ·have hcm34 := cmpI_neg.1 h34
    refine wp_skip ?_
    refine x_thenNormal ?_
    refine c_seq ?_
    refine wp_block ?_
    refine d_begin (sz := 53) ⟨rfl, rfl⟩ (by kernel_rfl) H (H.sub x0n) rfl ?_
    intro w H
    refine zM 0 (H.sub x0n) ?_
    refine zM 1 (H.sub x0n) ?_
    refine zM 2 (H.sub x0n) ?_
    refine zM 3 (H.sub x0n) ?_
    refine zd 4 rfl (by kernel_rfl) (fun _ _ _ h => h) (H.sub x0n) (r_sub rfl rfl (wr (r := ((j - 1 : Nat) : Int)))) rfl ?_
    refine zM 5 (H.sub x0n) ?_
    refine zM 6 (H.sub x0n) ?_
    refine zd 7 rfl (by kernel_rfl) (fun _ _ _ h => h) (H.sub x0n) (r_sub rfl rfl (wr (r := ((j - 1 : Nat) : Int)))) rfl ?_
    refine zd 8 rfl (by kernel_rfl) (fun _ _ _ h => h) (H.sub x0n) (ziS qu85 qs88) rfl ?_
    refine zM 10 (H.sub x0n) ?_
    refine zM 11 (H.sub x0n) ?_
    refine zd 12 rfl (by kernel_rfl) (fun _ _ _ h => h) (H.sub x0n) (ziS qu85 qs88) rfl ?_
    refine zl2 9 13 ?_ ?_
    ·refine b_val rfl go_none (r_loadn qg88 qs88 rfl (H.at 0 rfl) (hs_ld zs sp (j - 1) (by omega) (by omega)) (by first | exact (kC_length _) | exact (hC_length _) | exact rfl)) rfl (H.sub (.cons _ .slnil)) ?_
     refine zl1 13 ?_
     refine b_val rfl go_none (r_loadn qg88 qs88 rfl (H.at 0 rfl) (hs_ld zs sp (j) (by omega) (by omega)) (by first | exact (kC_length _) | exact (hC_length _) | exact rfl)) rfl (H.sub (.cons _ .slnil)) ?_
     refine zd 14 rfl (by kernel_rfl) (fun _ _ _ h => h) (H.sub x0n) (ziS qu85 qs88) rfl ?_
     refine zl1 15 ?_
     refine b_st rfl go_none (m_storen H 0 34 qs88 rfl rfl (by first | exact (kC_length _) | exact (hC_length _)) (by first | exact (kC_one _) | exact (hC_one _)) rfl (hs_room zs sp (j) (by omega) (by omega)) (hs_splice zs sp _ (j) (by omega) (by omega))) (L' := [_]) rfl rfl (fun _ H => (H.sub (.cons _ .slnil))) ?_
     intro w H
     refine zd 16 rfl (by kernel_rfl) (fun _ _ _ h => h) (H.sub x0n) (ziS qu85 qs88) rfl ?_
     refine zl1 17 ?_
     refine b_st rfl go_none (m_storen H 0 34 qs88 rfl rfl (by first | exact (kC_length _) | exact (hC_length _)) (by first | exact (kC_one _) | exact (hC_one _)) rfl (hs_room _ sp (j - 1) (by rw [List.length_set]; omega) (by omega)) (hs_splice _ sp _ (j - 1) (by rw [List.length_set]; omega) (by omega))) (L' := [_]) rfl rfl (fun _ H => (H.sub (.cons _ .slnil))) ?_
     intro w H
     refine zz (t50 (t3 [])) ?_
     refine x_blockNormal ?_
     refine x_thenNormal ?_
     refine c_region (n := 53) ⟨rfl, rfl⟩ ?_
     refine zm ?_
     refine s_val (r_sub rfl rfl (wr (r := ((j - 1 : Nat) : Int)))) ?_
     refine za ?_
     refine zb (t50 (t3 [])) ?_
     exact ⟨j - 1, _, rfl, ⟨_, _, _, _, _, _, _, _, _, _, _, _, _, _, _, _, _, _, _, _, _, _, _, _, _, _, _, _, _, _, _, _, _, _, _, swp2 Held.zero zs j (j - 1), rfl, by omega, by omega, (.step j (j - 1) hsw ⟨by omega, by omega⟩ ⟨by omega, by omega⟩ he), (hin.step (by omega) hji (by omega) hcm34), H⟩, by omega⟩
    ·refine b_val rfl go_none (r_loadn qg88 qs88 rfl (H.at 0 rfl) (hs_ld zs sp (j) (by omega) (by omega)) (by first | exact (kC_length _) | exact (hC_length _) | exact rfl)) rfl (H.sub (.cons _ .slnil)) ?_
     refine zl1 9 ?_
     refine b_val rfl go_none (r_loadn qg88 qs88 rfl (H.at 0 rfl) (hs_ld zs sp (j - 1) (by omega) (by omega)) (by first | exact (kC_length _) | exact (hC_length _) | exact rfl)) rfl (H.sub (.cons _ .slnil)) ?_
     refine zd 14 rfl (by kernel_rfl) (fun _ _ _ h => h) (H.sub x0n) (ziS qu85 qs88) rfl ?_
     refine zl1 15 ?_
     refine b_st rfl go_none (m_storen H 0 34 qs88 rfl rfl (by first | exact (kC_length _) | exact (hC_length _)) (by first | exact (kC_one _) | exact (hC_one _)) rfl (hs_room zs sp (j) (by omega) (by omega)) (hs_splice zs sp _ (j) (by omega) (by omega))) (L' := [_]) rfl rfl (fun _ H => (H.sub (.cons _ .slnil))) ?_
     intro w H
     refine zd 16 rfl (by kernel_rfl) (fun _ _ _ h => h) (H.sub x0n) (ziS qu85 qs88) rfl ?_
     refine zl1 17 ?_
     refine b_st rfl go_none (m_storen H 0 34 qs88 rfl rfl (by first | exact (kC_length _) | exact (hC_length _)) (by first | exact (kC_one _) | exact (hC_one _)) rfl (hs_room _ sp (j - 1) (by rw [List.length_set]; omega) (by omega)) (hs_splice _ sp _ (j - 1) (by rw [List.length_set]; omega) (by omega))) (L' := [_]) rfl rfl (fun _ H => (H.sub (.cons _ .slnil))) ?_
     intro w H
     refine zz (t50 (t3 [])) ?_
     refine x_blockNormal ?_
     refine x_thenNormal ?_
     refine c_region (n := 53) ⟨rfl, rfl⟩ ?_
     refine zm ?_
     refine s_val (r_sub rfl rfl (wr (r := ((j - 1 : Nat) : Int)))) ?_
     refine za ?_
     refine zb (t50 (t3 [])) ?_
     exact ⟨j - 1, _, rfl, ⟨_, _, _, _, _, _, _, _, _, _, _, _, _, _, _, _, _, _, _, _, _, _, _, _, _, _, _, _, _, _, _, _, _, _, _, swp2 Held.zero zs j (j - 1), rfl, by omega, by omega, (.step j (j - 1) hsw ⟨by omega, by omega⟩ ⟨by omega, by omega⟩ he), (hin.step (by omega) hji (by omega) hcm34), H⟩, by omega⟩
   ·have hcm34 := mt cmpI_neg.2 h34
    refine wp_exit (x_thenExit (x_thenExit (x_blockHit ?_)))
    refine x_blockNormal ?_
    refine x_thenNormal ?_
    refine c_region (n := 53) ⟨rfl, rfl⟩ ?_
    refine zm ?_
    refine zj ?_
    refine za ?_
    refine zb (t50 (t3 [])) ?_
    exact ⟨i + 1, _, rfl, ⟨_, _, _, _, _, _, _, _, _, _, _, _, _, _, _, _, _, _, _, _, _, _, _, _, _, _, _, _, _, _, _, _, _, _, _, _, _, _, _, _, _, _, _, rfl, by omega, .inl (by omega), hsw, (hin.fin (by omega) (fun _ => hcm34)), H⟩, by omega⟩
  ·refine zM 3 H ?_
   refine zN 4 H ?_
   refine zN 5 H ?_
   refine zN 6 H ?_
   refine zN 7 H ?_
   refine zN 8 H ?_
   refine zN 9 H ?_
   refine zN 10 H ?_
   refine zN 11 H ?_
   refine zN 12 H ?_
   refine zN 13 H ?_
   refine zN 14 H ?_
   refine zN 15 H ?_
   refine zd 16 rfl (by kernel_rfl) (fun _ _ _ h => h) H (r_pickf rfl rfl) rfl ?_
   refine zz (t50 (t3 [])) ?_
   refine x_thenNormal ?_
   refine c_iff rfl ?_
   refine wp_exit (x_thenExit (x_thenExit (x_blockHit ?_)))
   refine x_blockNormal ?_
   refine x_thenNormal ?_
   refine c_region (n := 53) ⟨rfl, rfl⟩ ?_
   refine zm ?_
   refine zj ?_
   refine za ?_
   refine zb (t50 (t3 [])) ?_
   exact ⟨i + 1, _, rfl, ⟨_, _, _, _, _, _, _, _, _, _, _, _, _, _, _, _, _, _, _, _, _, _, _, _, _, _, _, _, _, _, _, _, _, _, _, _, _, _, _, _, _, _, _, rfl, by omega, .inl (by omega), hsw, (hin.fin (by omega) (fun h => by omega)), H⟩, by omega⟩
 ·refine wp_exit (x_thenExit (x_thenExit (x_blockHit ?_)))
  refine e_end (res0 rfl) ⟨_, rfl, ?_⟩
  exact ⟨rfl, _, hsw, fun p q h1 h2 h3 => hs p q h1 h2 (by omega), H⟩

set_option maxHeartbeats 4000000 in
theorem next_spec (r n : Nat) (w0 : World) (hown : Go.Er.Own w0 [(r, .cells [.int .u64 (n : Nat)].toArray 140 (0, 0))]) :
  Calls Try.prog 86 #[.pointer (some ⟨r, 0, none⟩)] w0 fun e w => ∃ v, e = .returned v ∧ (∃ m : Nat, m < 18446744073709551616 ∧ v = .int .u64 m ∧ St w0 [r] w [(r, .cells [.int .u64 (m : Nat)].toArray 140 (0, 0))]) := by
 have H : St w0 [r] w0 [(r, .cells [.int .u64 (n : Nat)].toArray 140 (0, 0))] := hown.st
 refine c_enter (args := [.pointer (some ⟨r, 0, none⟩)]) (l := t30 (t3 [])) Try.func86 Try.ntmps86 rfl rfl ?_
 refine zq 33 ⟨rfl, rfl⟩ ?_
 refine za ?_
 refine zc (t30 (t3 [])) ?_
 refine c_cut (fun (l0 : List Value) (l : List Value) (w : World) => ∃ (u3 u4 u5 u6 u7 u8 u9 u10 u11 : Value) (n1 : Nat), l = ovr l0 [N_, N_, N_, Y_ u3, Y_ u4, Y_ u5, Y_ u6, Y_ u7, Y_ u8, Y_ u9, Y_ u10, Y_ u11] ∧ n1 < 18446744073709551616 ∧ St w0 [r] w [(r, .cells [.int .u64 (n1 : Nat)].toArray 140 (0, 0))]) ?_ ?_
 ·refine d_begin (sz := 33) ⟨rfl, rfl⟩ (by kernel_rfl) H (H.sub x0n) rfl ?_
  intro w H
  refine zM 0 (H.sub x0n) ?_
  refine zd 1 rfl (by kernel_rfl) (fun _ _ _ h => h) (H.sub x0n) (r_nilCheck rfl) rfl ?_
  refine zM 3 (H.sub x0n) ?_
  refine zd 4 rfl (by kernel_rfl) (fun _ _ _ h => h) (H.sub x0n) (r_nilCheck rfl) rfl ?_
  refine zl2 2 5 ?_ ?_
  ·refine b_val rfl go_none (z1 qg140 (H.at 0 rfl)) rfl (H.sub x0n) ?_
   refine zl1 5 ?_
   refine b_val rfl go_none (z1 qg140 (H.at 0 rfl)) rfl (H.sub x0n) ?_
   refine zd 6 rfl (by kernel_rfl) (fun _ _ _ h => h) (H.sub x0n) (r_shl rfl rfl (by omega) rfl) rfl ?_
   refine zd 7 rfl (by kernel_rfl) (fun _ _ _ h => h) (H.sub x0n) (r_xor rfl rfl (u64_mod _)) rfl ?_
   refine zd 8 rfl (by kernel_rfl) (fun _ _ _ h => h) (H.sub x0n) (r_nilCheck rfl) rfl ?_
   refine zl1 9 ?_
   refine b_st rfl go_none (m_store1 H 0 qs140 rfl rfl rfl rfl (by first | exact (by rw [kC_length]; omega) | exact (by rw [hC_length]; omega) | exact (by simp)) rfl) (L' := [_]) rfl rfl (fun _ H => (H.sub x0n)) ?_
   intro w H
   refine zz (t30 (t3 [])) ?_
   exact ⟨_, rfl, ⟨_, _, _, _, _, _, _, _, _, _, rfl, (u64_lt _), H⟩⟩
  ·refine b_val rfl go_none (z1 qg140 (H.at 0 rfl)) rfl (H.sub x0n) ?_
   refine zd 6 rfl (by kernel_rfl) (fun _ _ _ h => h) (H.sub x0n) (r_shl rfl rfl (by omega) rfl) rfl ?_
   refine zl1 2 ?_
   refine b_val rfl go_none (z1 qg140 (H.at 0 rfl)) rfl (H.sub x0n) ?_
   refine zd 7 rfl (by kernel_rfl) (fun _ _ _ h => h) (H.sub x0n) (r_xor rfl rfl (u64_mod _)) rfl ?_
   refine zd 8 rfl (by kernel_rfl) (fun _ _ _ h => h) (H.sub x0n) (r_nilCheck rfl) rfl ?_
   refine zl1 9 ?_
   refine b_st rfl go_none (m_store1 H 0 qs140 rfl rfl rfl rfl (by first | exact (by rw [kC_length]; omega) | exact (by rw [hC_length]; omega) | exact (by simp)) rfl) (L' := [_]) rfl rfl (fun _ H => (H.sub x0n)) ?_
   intro w H
   refine zz (t30 (t3 [])) ?_
   exact ⟨_, rfl, ⟨_, _, _, _, _, _, _, _, _, _, rfl, (u64_lt _), H⟩⟩
 ·rintro l w ⟨u3, u4, u5, u6, u7, u8, u9, u10, u11, n1, hl, hn1, H⟩
  obtain rfl := hl.trans (rfl : _ = t30 (t3 []))
  clear hl
  refine c_cut (fun (l0 : List Value) (l : List Value) (w : World) => ∃ (u12 u13 u14 u15 u16 u17 u18 u19 u20 : Value) (n2 : Nat), l = ovr l0 [N_, N_, N_, N_, N_, N_, N_, N_, N_, N_, N_, N_, Y_ u12, Y_ u13, Y_ u14, Y_ u15, Y_ u16, Y_ u17, Y_ u18, Y_ u19, Y_ u20] ∧ n2 < 18446744073709551616 ∧ St w0 [r] w [(r, .cells [.int .u64 (n2 : Nat)].toArray 140 (0, 0))]) ?_ ?_
  ·refine d_begin (sz := 33) ⟨rfl, rfl⟩ (by kernel_rfl) H (H.sub x0n) rfl ?_
   intro w H
   refine zM 0 (H.sub x0n) ?_
   refine zd 1 rfl (by kernel_rfl) (fun _ _ _ h => h) (H.sub x0n) (r_nilCheck rfl) rfl ?_
   refine zM 3 (H.sub x0n) ?_
   refine zd 4 rfl (by kernel_rfl) (fun _ _ _ h => h) (H.sub x0n) (r_nilCheck rfl) rfl ?_
   refine zl2 2 5 ?_ ?_
   ·refine b_val rfl go_none (z1 qg140 (H.at 0 rfl)) rfl (H.sub x0n) ?_
    refine zl1 5 ?_
    refine b_val rfl go_none (z1 qg140 (H.at 0 rfl)) rfl (H.sub x0n) ?_
    refine zd 6 rfl (by kernel_rfl) (fun _ _ _ h => h) (H.sub x0n) (r_shr rfl rfl (by omega) rfl) rfl ?_
    refine zd 7 rfl (by kernel_rfl) (fun _ _ _ h => h) (H.sub x0n) (r_xor rfl rfl (u64_mod _)) rfl ?_
    refine zd 8 rfl (by kernel_rfl) (fun _ _ _ h => h) (H.sub x0n) (r_nilCheck rfl) rfl ?_
    refine zl1 9 ?_
    refine b_st rfl go_none (m_store1 H 0 qs140 rfl rfl rfl rfl (by first | exact (by rw [kC_length]; omega) | exact (by rw [hC_length]; omega) | exact (by simp)) rfl) (L' := [_]) rfl rfl (fun _ H => (H.sub x0n)) ?_
    intro w H
    refine zz (t30 (t3 [])) ?_
    exact ⟨_, rfl, ⟨_, _, _, _, _, _, _, _, _, _, rfl, (u64_lt _), H⟩⟩
   ·refine b_val rfl go_none (z1 qg140 (H.at 0 rfl)) rfl (H.sub x0n) ?_
    refine zd 6 rfl (by kernel_rfl) (fun _ _ _ h => h) (H.sub x0n) (r_shr rfl rfl (by omega) rfl) rfl ?_
    refine zl1 2 ?_
    refine b_val rfl go_none (z1 qg140 (H.at 0 rfl)) rfl (H.sub x0n) ?_
    refine zd 7 rfl (by kernel_rfl) (fun _ _ _ h => h) (H.sub x0n) (r_xor rfl rfl (u64_mod _)) rfl ?_
    refine zd 8 rfl (by kernel_rfl) (fun _ _ _ h => h) (H.sub x0n) (r_nilCheck rfl) rfl ?_
    refine zl1 9 ?_
    refine b_st rfl go_none (m_store1 H 0 qs140 rfl rfl rfl rfl (by first | exact (by rw [kC_length]; omega) | exact (by rw [hC_length]; omega) | exact (by simp)) rfl) (L' := [_]) rfl rfl (fun _ H => (H.sub x0n)) ?_
    intro w H
    refine zz (t30 (t3 [])) ?_
    exact ⟨_, rfl, ⟨_, _, _, _, _, _, _, _, _, _, rfl, (u64_lt _), H⟩⟩
  ·rintro l w ⟨u12, u13, u14, u15, u16, u17, u18, u19, u20, n2, hl, hn2, H⟩
   obtain rfl := hl.trans (rfl : _ = t30 (t3 []))
   clear hl
   refine c_cut (fun (l0 : List Value) (l : List Value) (w : World) => ∃ (u21 u22 u23 u24 u25 u26 u27 u28 u29 : Value) (n3 : Nat), l = ovr l0 [N_, N_, N_, N_, N_, N_, N_, N_, N_, N_, N_, N_, N_, N_, N_, N_, N_, N_, N_, N_, N_, Y_ u21, Y_ u22, Y_ u23, Y_ u24, Y_ u25, Y_ u26, Y_ u27, Y_ u28, Y_ u29] ∧ n3 < 18446744073709551616 ∧ St w0 [r] w [(r, .cells [.int .u64 (n3 : Nat)].toArray 140 (0, 0))]) ?_ ?_
   ·refine d_begin (sz := 33) ⟨rfl, rfl⟩ (by kernel_rfl) H (H.sub x0n) rfl ?_
    intro w H
    refine zM 0 (H.sub x0n) ?_
    refine zd 1 rfl (by kernel_rfl) (fun _ _ _ h => h) (H.sub x0n) (r_nilCheck rfl) rfl ?_
    refine zM 3 (H.sub x0n) ?_
    refine zd 4 rfl (by kernel_rfl) (fun _ _ _ h => h) (H.sub x0n) (r_nilCheck rfl) rfl ?_
    refine zl2 2 5 ?_ ?_
    ·refine b_val rfl go_none (z1 qg140 (H.at 0 rfl)) rfl (H.sub x0n) ?_
     refine zl1 5 ?_
     refine b_val rfl go_none (z1 qg140 (H.at 0 rfl)) rfl (H.sub x0n) ?_
     refine zd 6 rfl (by kernel_rfl) (fun _ _ _ h => h) (H.sub x0n) (r_shl rfl rfl (by omega) rfl) rfl ?_
     refine zd 7 rfl (by kernel_rfl) (fun _ _ _ h => h) (H.sub x0n) (r_xor rfl rfl (u64_mod _)) rfl ?_
     refine zd 8 rfl (by kernel_rfl) (fun _ _ _ h => h) (H.sub x0n) (r_nilCheck rfl) rfl ?_
     refine zl1 9 ?_
     refine b_st rfl go_none (m_store1 H 0 qs140 rfl rfl rfl rfl (by first | exact (by rw [kC_length]; omega) | exact (by rw [hC_length]; omega) | exact (by simp)) rfl) (L' := [_]) rfl rfl (fun _ H => (H.sub x0n)) ?_
     intro w H
     refine zz (t30 (t3 [])) ?_
     exact ⟨_, rfl, ⟨_, _, _, _, _, _, _, _, _, _, rfl, (u64_lt _), H⟩⟩
    ·refine b_val rfl go_none (z1 qg140 (H.at 0 rfl)) rfl (H.sub x0n) ?_
     refine zd 6 rfl (by kernel_rfl) (fun _ _ _ h => h) (H.sub x0n) (r_shl rfl rfl (by omega) rfl) rfl ?_
     refine zl1 2 ?_
     refine b_val rfl go_none (z1 qg140 (H.at 0 rfl)) rfl (H.sub x0n) ?_
     refine zd 7 rfl (by kernel_rfl) (fun _ _ _ h => h) (H.sub x0n) (r_xor rfl rfl (u64_mod _)) rfl ?_
     refine zd 8 rfl (by kernel_rfl) (fun _ _ _ h => h) (H.sub x0n) (r_nilCheck rfl) rfl ?_
     refine zl1 9 ?_
     refine b_st rfl go_none (m_store1 H 0 qs140 rfl rfl rfl rfl (by first | exact (by rw [kC_length]; omega) | exact (by rw [hC_length]; omega) | exact (by simp)) rfl) (L' := [_]) rfl rfl (fun _ H => (H.sub x0n)) ?_
     intro w H
     refine zz (t30 (t3 [])) ?_
     exact ⟨_, rfl, ⟨_, _, _, _, _, _, _, _, _, _, rfl, (u64_lt _), H⟩⟩
   ·rintro l w ⟨u21, u22, u23, u24, u25, u26, u27, u28, u29, n3, hl, hn3, H⟩
    obtain rfl := hl.trans (rfl : _ = t30 (t3 []))
    clear hl
    refine zq 33 ⟨rfl, rfl⟩ ?_
    refine zm ?_
    refine s_val (r_nilCheck rfl) ?_
    refine zL qg140 (H.at 0 rfl) ?_
    refine za ?_
    refine zc (t30 (t3 [])) ?_
    refine wp_ret ?_
    refine zw (res1 rfl rfl) ?_
    exact ⟨_, hn3, rfl, H⟩

set_option maxHeartbeats 4000000 in
theorem len64_spec (x : Nat) (hx : x < 18) (w0 : World) :
  Calls Try.prog 78 #[.int .u64 (x : Nat)] w0 fun e w => ∃ v, e = .returned v ∧ (∃ c : Nat, LenF x c ∧ v = .int .i64 c ∧ St w0 [] w []) := by
 have H := St.refl w0
 refine c_enter (args := [.int .u64 (x : Nat)]) (l := t20 (t5 [])) Try.func78 Try.ntmps78 rfl rfl ?_
 refine zq 25 ⟨rfl, rfl⟩ ?_
 refine za ?_
 refine zc (t20 (t5 [])) ?_
 refine c_seq ?_
 refine zq 25 ⟨rfl, rfl⟩ ?_
 refine zm ?_
 refine s_val (r_geq rfl rfl) ?_
 refine zc (t20 (t5 [])) ?_
 refine c_if rfl (fun h4 => ?_) (fun h4 => ?_)
 ·exfalso; omega
 ·refine wp_skip ?_
  refine x_thenNormal ?_
  refine c_seq ?_
  refine zq 25 ⟨rfl, rfl⟩ ?_
  refine zm ?_
  refine s_val (r_geq rfl rfl) ?_
  refine zc (t20 (t5 [])) ?_
  refine c_if rfl (fun h8 => ?_) (fun h8 => ?_)
  ·exfalso; omega
  ·refine wp_skip ?_
   refine x_thenNormal ?_
   refine c_seq ?_
   refine zq 25 ⟨rfl, rfl⟩ ?_
   refine zm ?_
   refine s_val (r_geq rfl rfl) ?_
   refine zc (t20 (t5 [])) ?_
   refine c_if rfl (fun h14 => ?_) (fun h14 => ?_)
   ·exfalso; omega
   ·refine wp_skip ?_
    refine x_thenNormal ?_
    refine zq 25 ⟨rfl, rfl⟩ ?_
    refine zm ?_
    refine zm ?_
    refine s_val (r_conv qu28 qu5 rfl (w_u8 (by omega) (by omega))) ?_
    obtain ⟨u, hu8, hf⟩ := len8_get x hx
    have hu := u.toNat_lt
    refine s_val (r_indexStr qu9 rfl rfl (by omega) hu8) ?_
    refine s_val (r_conv qu5 qu3 rfl w6) ?_
    refine s_val (r_add rfl rfl (wr (r := (u.toNat : Int)))) ?_
    refine za ?_
    refine zc (t20 (t5 [])) ?_
    refine wp_ret ?_
    refine zw (res1 rfl rfl) ?_
    exact ⟨_, hf, rfl, H⟩

set_option maxHeartbeats 4000000 in
theorem len_spec (x : Nat) (hx : x < 18) (w0 : World) :
  Calls Try.prog 57 #[.int .u64 (x : Nat)] w0 fun e w => ∃ v, e = .returned v ∧ (∃ c : Nat, LenF x c ∧ v = .int .i64 c ∧ St w0 [] w []) := by
 have H := St.refl w0
 refine c_enter (args := [.int .u64 (x : Nat)]) (l := t8 []) Try.func57 Try.ntmps57 rfl rfl ?_
 refine zq 8 ⟨rfl, rfl⟩ ?_
 refine za ?_
 refine zc (t8 []) ?_
 refine c_seq ?_
 refine c_iff rfl ?_
 refine wp_skip ?_
 refine x_thenNormal ?_
 refine zq 8 ⟨rfl, rfl⟩ ?_
 refine zm ?_
 refine s_call (r_call Try.call78 (ec rfl en)) (len64_spec _ (by omega) _) ?_
 rintro v w ⟨c, hlen, rfl, HC⟩
 replace H := H.quiet HC
 refine za ?_
 refine zc (t8 []) ?_
 refine wp_ret ?_
 refine zw (res1 rfl rfl) ?_
 exact ⟨_, hlen, rfl, H⟩

set_option maxHeartbeats 4000000 in
theorem npow_spec (x : Nat) (h8 : 8 ≤ x) (hx : x < 18) (w0 : World) :
  Calls Try.prog 85 #[.int .i64 (x : Nat)] w0 fun e w => ∃ v, e = .returned v ∧ (∃ c : Nat, x < 2 ^ c ∧ 2 ^ c ≤ 2 * x ∧ v = .int .u64 (2 ^ c : Nat) ∧ St w0 [] w []) := by
 have H := St.refl w0
 refine c_enter (args := [.int .i64 (x : Nat)]) (l := t7 []) Try.func85 Try.ntmps85 rfl rfl ?_
 refine zq 7 ⟨rfl, rfl⟩ ?_
 refine za ?_
 refine zc (t7 []) ?_
 refine zq 7 ⟨rfl, rfl⟩ ?_
 refine zm ?_
 refine s_val (r_conv qu3 qu102 rfl v6) ?_
 refine s_call (r_call qc57 (ec rfl en)) (len_spec _ (by omega) _) ?_
 rintro v w ⟨c, hlen, rfl, HC⟩
 replace H := H.quiet HC
 obtain ⟨hl1, hl2, hl3⟩ := hlen
 obtain ⟨hl4, hl5⟩ := hl3 h8
 refine s_val (r_shl rfl rfl (by omega) (shl_one hl2)) ?_
 refine za ?_
 refine zc (t7 []) ?_
 refine wp_ret ?_
 refine zw (res1 rfl rfl) ?_
 exact ⟨_, hl4, hl5, rfl, H⟩

set_option maxHeartbeats 4000000 in
theorem brk_spec (b n cap : Nat) (ys : List Held) (sp : List Value) (a z : Nat) (hnl : n = ys.length) (haz : a ≤ z) (he : z ≤ ys.length) (hl : ys.length ≤ 1000000) (h17 : z - a < 18) (w0 : World) (hown : Go.Er.Own w0 [(b, .cells (hsC ys ++ sp).toArray 88 (0, 0))]) :
  Calls Try.prog 71 #[.slice (some ⟨b, 0, none⟩) n cap, .int .i64 (a : Nat), .int .i64 (z : Nat), .func (.func 37) #[] #[]] w0 fun e w => ∃ v, e = .returned v ∧ (v = .tuple #[] ∧ ∃ zs, Sw Held.zero a z ys zs ∧ St w0 [b] w [(b, .cells (hsC zs ++ sp).toArray 88 (0, 0))]) := by
 have H : St w0 [b] w0 [(b, .cells (hsC ys ++ sp).toArray 88 (0, 0))] := hown.st
 refine c_enter (args := [.slice (some ⟨b, 0, none⟩) n cap, .int .i64 (a : Nat), .int .i64 (z : Nat), .func (.func 37) #[] #[]]) (l := t60 (t7 [])) Try.func71 Try.ntmps71 rfl rfl ?_
 refine zq 67 ⟨rfl, rfl⟩ ?_
 refine zm ?_
 refine zm ?_
 refine s_val (r_sub rfl rfl (wr (r := ((z - a : Nat) : Int)))) ?_
 refine za ?_
 refine zc (t60 (t7 [])) ?_
 refine zq 67 ⟨rfl, rfl⟩ ?_
 refine zm ?_
 refine s_val (r_geq rfl rfl) ?_
 refine zc (t60 (t7 [])) ?_
 refine c_if rfl (fun h17 => ?_) (fun h17 => ?_)
 ·refine zq 67 ⟨rfl, rfl⟩ ?_
  refine zm ?_
  refine s_val (r_conv qu3 Try.runUnderlying140 rfl v6) ?_
  skip
  refine s_new (zA [.int .u64 0] H Try.zeroValue140) ?_
  intro w b9 H
  refine s_st (m_store1 H 0 qs140 rfl rfl rfl rfl (by first | exact (by rw [kC_length]; omega) | exact (by rw [hC_length]; omega) | exact (by simp)) rfl) (L' := [_,_]) rfl ?_
  intro w H
  refine zc (t60 (t7 [])) ?_
  refine zq 67 ⟨rfl, rfl⟩ ?_
  refine zm ?_
  refine s_call (r_call Try.call85 (ec rfl en)) (npow_spec _ (by omega) (by omega) _) ?_
  rintro v w ⟨c, hc1, hc2, rfl, HC⟩
  replace H := H.quiet HC
  refine za ?_
  refine zc (t60 (t7 [])) ?_
  refine zq 67 ⟨rfl, rfl⟩ ?_
  refine zm ?_
  refine zm ?_
  refine s_val (r_quo rfl rfl (by omega) (quoI (by omega) (by omega) (by omega))) ?_
  refine s_val (r_mul rfl rfl w6) ?_
  refine zj ?_
  refine s_val (r_sub rfl rfl (wr (r := ((a + (z - a) / 4 * 2 - 1 : Nat) : Int)))) ?_
  refine za ?_
  refine zc (t60 (t7 [])) ?_
  refine wp_block ?_
  refine c_loop (fun (l0 : List Value) (i : Nat) (l : List Value) (w : World) => ∃ (u12 u28 u29 u30 u31 u32 u33 u34 u35 u36 u37 u38 u39 u40 u41 u42 u43 u44 u45 u46 u47 u48 u49 u50 u51 u52 u53 u54 u55 u56 u57 u58 u59 u60 u61 u62 u63 u64 u65 u66 : Value) (n : Nat) (zs : List Held), l = ovr l0 [N_, N_, N_, N_, N_, N_, N_, N_, N_, N_, N_, Y_ (.int .i64 i), Y_ u12, N_, N_, N_, N_, N_, N_, N_, N_, N_, N_, N_, N_, N_, N_, N_, Y_ u28, Y_ u29, Y_ u30, Y_ u31, Y_ u32, Y_ u33, Y_ u34, Y_ u35, Y_ u36, Y_ u37, Y_ u38, Y_ u39, Y_ u40, Y_ u41, Y_ u42, Y_ u43, Y_ u44, Y_ u45, Y_ u46, Y_ u47, Y_ u48, Y_ u49, Y_ u50, Y_ u51, Y_ u52, Y_ u53, Y_ u54, Y_ u55, Y_ u56, Y_ u57, Y_ u58, Y_ u59, Y_ u60, Y_ u61, Y_ u62, Y_ u63, Y_ u64, Y_ u65, Y_ u66] ∧ a + (z - a) / 4 * 2 - 1 ≤ i ∧ i ≤ a + (z - a) / 4 * 2 + 2 ∧ Sw Held.zero a z ys zs ∧ St w0 [b] w [(b9, .cells [.int .u64 (n : Nat)].toArray 140 (0, 0)), (b, .cells (hsC zs ++ sp).toArray 88 (0, 0))]) (fun (i : Nat) => a + (z - a) / 4 * 2 + 2 - i) (a + (z - a) / 4 * 2 - 1) ⟨_, _, _, _, _, _, _, _, _, _, _, _, _, _, _, _, _, _, _, _, _, _, _, _, _, _, _, _, _, _, _, _, _, _, _, _, _, _, _, _, _, ys, rfl, by omega, by omega, .refl, H⟩ ?_
  intro i l w ⟨u12, u28, u29, u30, u31, u32, u33, u34, u35, u36, u37, u38, u39, u40, u41, u42, u43, u44, u45, u46, u47, u48, u49, u50, u51, u52, u53, u54, u55, u56, u57, u58, u59, u60, u61, u62, u63, u64, u65, u66, n, zs, hl, hi0, hi1, hsw, H⟩
  obtain rfl := hl.trans (rfl : _ = t60 (t7 []))
  clear hl
  have hlen := hsw.length
  refine c_seq ?_
  refine zq 67 ⟨rfl, rfl⟩ ?_
  refine zm ?_
  refine zm ?_
  refine zm ?_
  refine s_val (r_quo rfl rfl (by omega) (quoI (by omega) (by omega) (by omega))) ?_
  refine s_val (r_mul rfl rfl w6) ?_
  refine zj ?_
  refine zj ?_
  refine s_val (r_leq rfl rfl) ?_
  refine zc (t60 (t7 [])) ?_
  refine c_if rfl (fun h35 => ?_) (fun h35 => ?_)
  ·refine wp_skip ?_
   refine x_thenNormal ?_
   refine c_seq ?_
   refine wp_block ?_
   refine zq 67 ⟨rfl, rfl⟩ ?_
   refine s_call (r_call Try.call86 (ec rfl en)) (next_spec _ _ _ H.owns0) ?_
   rintro v w ⟨n2, hn2, rfl, HC⟩
   replace H := St.call (F := [_]) (L := [_]) H HC
   refine zm ?_
   refine s_val (r_sub rfl rfl (w_u64e (r := ((2 ^ c - 1 : Nat) : Int)) (by omega) (by omega) (by omega))) ?_
   obtain ⟨o, ho, hole⟩ := and_mask (n := n2) (k := c) hn2 (by omega)
   refine s_val (r_and rfl rfl ho) ?_
   refine s_val (r_conv qu102 qu3 rfl w6) ?_
   refine za ?_
   refine zc (t60 (t7 [])) ?_
   refine c_cut (fun (l0 : List Value) (l : List Value) (w : World) => ∃ (u43 u44 u45 u46 u47 u48 : Value) (o2 : Nat), l = ovr l0 [N_, N_, N_, N_, N_, N_, N_, N_, N_, N_, N_, N_, Y_ (.int .i64 o2), N_, N_, N_, N_, N_, N_, N_, N_, N_, N_, N_, N_, N_, N_, N_, N_, N_, N_, N_, N_, N_, N_, N_, N_, N_, N_, N_, N_, N_, N_, Y_ u43, Y_ u44, Y_ u45, Y_ u46, Y_ u47, Y_ u48] ∧ a + o2 < z ∧ St w0 [b] w [(b9, .cells [.int .u64 (n2 : Nat)].toArray 140 (0, 0)), (b, .cells (hsC zs ++ sp).toArray 88 (0, 0))]) ?_ ?_
   ·refine zq 67 ⟨rfl, rfl⟩ ?_
    refine zm ?_
    refine zm ?_
    refine s_val (r_geq rfl rfl) ?_
    refine zc (t60 (t7 [])) ?_
    refine c_if rfl (fun h45 => ?_) (fun h45 => ?_)
    ·refine c_region (n := 67) ⟨rfl, rfl⟩ ?_
     refine zm ?_
     refine zm ?_
     refine s_val (r_sub rfl rfl (wr (r := ((o - (z - a) : Nat) : Int)))) ?_
     refine za ?_
     refine zb (t60 (t7 [])) ?_
     exact ⟨_, rfl, ⟨_, _, _, _, _, _, _, rfl, by omega, H⟩⟩
    ·refine wp_skip ?_
     exact ⟨_, rfl, ⟨_, _, _, _, _, _, _, rfl, by omega, H⟩⟩
   ·rintro l w ⟨u43, u44, u45, u46, u47, u48, o2, hl, ho2, H⟩
    obtain rfl := hl.trans (rfl : _ = t60 (t7 []))
    clear hl
    refine d_begin (sz := 67) ⟨rfl, rfl⟩ (by kernel_rfl) H (H.sub x10n) rfl ?_
    intro w H
    refine zM 0 (H.sub x10n) ?_
    refine zM 1 (H.sub x10n) ?_
    refine zM 2 (H.sub x10n) ?_
    refine zM 3 (H.sub x10n) ?_
    refine zM 4 (H.sub x10n) ?_
    refine zd 5 rfl (by kernel_rfl) (fun _ _ _ h => h) (H.sub x10n) z_add rfl ?_
    refine zM 6 (H.sub x10n) ?_
    refine zM 7 (H.sub x10n) ?_
    refine zM 8 (H.sub x10n) ?_
    refine zd 9 rfl (by kernel_rfl) (fun _ _ _ h => h) (H.sub x10n) z_add rfl ?_
    refine zd 10 rfl (by kernel_rfl) (fun _ _ _ h => h) (H.sub x10n) (ziS qu85 qs88) rfl ?_
    refine zM 12 (H.sub x10n) ?_
    refine zM 13 (H.sub x10n) ?_
    refine zd 14 rfl (by kernel_rfl) (fun _ _ _ h => h) (H.sub x10n) (ziS qu85 qs88) rfl ?_
    refine zl2 11 15 ?_ ?_
    ·refine b_val rfl go_none (r_loadn qg88 qs88 rfl (H.at 1 rfl) (hs_ld zs sp (a + o2) (by omega) (by omega)) (by first | exact (kC_length _) | exact (hC_length _) | exact rfl)) rfl (H.sub (.cons_cons _ (.cons _ .slnil))) ?_
     refine zl1 15 ?_
     refine b_val rfl go_none (r_loadn qg88 qs88 rfl (H.at 1 rfl) (hs_ld zs sp (i) (by omega) (by omega)) (by first | exact (kC_length _) | exact (hC_length _) | exact rfl)) rfl (H.sub (.cons_cons _ (.cons _ .slnil))) ?_
     refine zd 16 rfl (by kernel_rfl) (fun _ _ _ h => h) (H.sub x10n) (ziS qu85 qs88) rfl ?_
     refine zl1 17 ?_
     refine b_st rfl go_none (m_storen H 1 34 qs88 rfl rfl (by first | exact (kC_length _) | exact (hC_length _)) (by first | exact (kC_one _) | exact (hC_one _)) rfl (hs_room zs sp (i) (by omega) (by omega)) (hs_splice zs sp _ (i) (by omega) (by omega))) (L' := [_,_]) rfl rfl (fun _ H => (H.sub (.cons_cons _ (.cons _ .slnil)))) ?_
     intro w H
     refine zd 18 rfl (by kernel_rfl) (fun _ _ _ h => h) (H.sub x10n) (ziS qu85 qs88) rfl ?_
     refine zl1 19 ?_
     refine b_st rfl go_none (m_storen H 1 34 qs88 rfl rfl (by first | exact (kC_length _) | exact (hC_length _)) (by first | exact (kC_one _) | exact (hC_one _)) rfl (hs_room _ sp (a + o2) (by rw [List.length_set]; omega) (by omega)) (hs_splice _ sp _ (a + o2) (by rw [List.length_set]; omega) (by omega))) (L' := [_,_]) rfl rfl (fun _ H => (H.sub (.cons_cons _ (.cons _ .slnil)))) ?_
     intro w H
     refine zz (t60 (t7 [])) ?_
     refine x_blockNormal ?_
     refine x_thenNormal ?_
     refine c_region (n := 67) ⟨rfl, rfl⟩ ?_
     refine zm ?_
     refine zj ?_
     refine za ?_
     refine zb (t60 (t7 [])) ?_
     exact ⟨i + 1, _, rfl, ⟨_, _, _, _, _, _, _, _, _, _, _, _, _, _, _, _, _, _, _, _, _, _, _, _, _, _, _, _, _, _, _, _, _, _, _, _, _, _, _, _, _, swp2 Held.zero zs i (a + o2), rfl, by omega, by omega, (.step i (a + o2) hsw ⟨by omega, by omega⟩ ⟨by omega, by omega⟩ he), H⟩, by omega⟩
    ·refine b_val rfl go_none (r_loadn qg88 qs88 rfl (H.at 1 rfl) (hs_ld zs sp (i) (by omega) (by omega)) (by first | exact (kC_length _) | exact (hC_length _) | exact rfl)) rfl (H.sub (.cons_cons _ (.cons _ .slnil))) ?_
     refine zl1 11 ?_
     refine b_val rfl go_none (r_loadn qg88 qs88 rfl (H.at 1 rfl) (hs_ld zs sp (a + o2) (by omega) (by omega)) (by first | exact (kC_length _) | exact (hC_length _) | exact rfl)) rfl (H.sub (.cons_cons _ (.cons _ .slnil))) ?_
     refine zd 16 rfl (by kernel_rfl) (fun _ _ _ h => h) (H.sub x10n) (ziS qu85 qs88) rfl ?_
     refine zl1 17 ?_
     refine b_st rfl go_none (m_storen H 1 34 qs88 rfl rfl (by first | exact (kC_length _) | exact (hC_length _)) (by first | exact (kC_one _) | exact (hC_one _)) rfl (hs_room zs sp (i) (by omega) (by omega)) (hs_splice zs sp _ (i) (by omega) (by omega))) (L' := [_,_]) rfl rfl (fun _ H => (H.sub (.cons_cons _ (.cons _ .slnil)))) ?_
     intro w H
     refine zd 18 rfl (by kernel_rfl) (fun _ _ _ h => h) (H.sub x10n) (ziS qu85 qs88) rfl ?_
     refine zl1 19 ?_
     refine b_st rfl go_none (m_storen H 1 34 qs88 rfl rfl (by first | exact (kC_length _) | exact (hC_length _)) (by first | exact (kC_one _) | exact (hC_one _)) rfl (hs_room _ sp (a + o2) (by rw [List.length_set]; omega) (by omega)) (hs_splice _ sp _ (a + o2) (by rw [List.length_set]; omega) (by omega))) (L' := [_,_]) rfl rfl (fun _ H => (H.sub (.cons_cons _ (.cons _ .slnil)))) ?_
     intro w H
     refine zz (t60 (t7 [])) ?_
     refine x_blockNormal ?_
     refine x_thenNormal ?_
     refine c_region (n := 67) ⟨rfl, rfl⟩ ?_
     refine zm ?_
     refine zj ?_
     refine za ?_
     refine zb (t60 (t7 [])) ?_
     exact ⟨i + 1, _, rfl, ⟨_, _, _, _, _, _, _, _, _, _, _, _, _, _, _, _, _, _, _, _, _, _, _, _, _, _, _, _, _, _, _, _, _, _, _, _, _, _, _, _, _, swp2 Held.zero zs i (a + o2), rfl, by omega, by omega, (.step i (a + o2) hsw ⟨by omega, by omega⟩ ⟨by omega, by omega⟩ he), H⟩, by omega⟩
  ·refine wp_exit (x_thenExit (x_thenExit (x_blockHit ?_)))
   refine e_end (res0 rfl) ⟨_, rfl, ?_⟩
   exact ⟨rfl, zs, hsw, H.sub (.cons _ (.cons_cons _ .slnil))⟩
 ·refine wp_skip ?_
  refine e_end (res0 rfl) ⟨_, rfl, ?_⟩
  exact ⟨rfl, ys, .refl, H⟩

set_option maxHeartbeats 4000000 in
theorem ord2_spec (b n cap s k : Nat) (ys : List Held) (sp : List Value) (hnl : n = ys.length) (x : Nat) (hx : x < ys.length) (y : Nat) (hy : y < ys.length) (_hl : ys.length ≤ 1000000) (hk : k ≤ 2000) (w0 : World) (hb : w0.heap[b]? = some (.cells (hsC ys ++ sp).toArray 88 (0, 0))) (hown : Go.Er.Own w0 [(s, .cells [.int .i64 (k : Nat)].toArray 3 (0, 0))]) (hbX : b ∉ [s]) :
  Calls Try.prog 99 #[.slice (some ⟨b, 0, none⟩) n cap, .int .i64 (x : Nat), .int .i64 (y : Nat), .pointer (some ⟨s, 0, none⟩), .func (.func 37) #[] #[]] w0 fun e w => ∃ v, e = .returned v ∧ (∃ p q k' : Nat, v = .tuple #[.int .i64 p, .int .i64 q] ∧ ((p = x ∧ q = y) ∨ (p = y ∧ q = x)) ∧ k ≤ k' ∧ k' ≤ k + 1 ∧ St w0 [s] w [(s, .cells [.int .i64 (k' : Nat)].toArray 3 (0, 0))]) := by
 have H : St w0 [s] w0 [(s, .cells [.int .i64 (k : Nat)].toArray 3 (0, 0))] := hown.st
 refine c_enter (args := [.slice (some ⟨b, 0, none⟩) n cap, .int .i64 (x : Nat), .int .i64 (y : Nat), .pointer (some ⟨s, 0, none⟩), .func (.func 37) #[] #[]]) (l := t30 (t2 [])) Try.func99 Try.ntmps99 rfl rfl ?_
 refine zq 32 ⟨rfl, rfl⟩ ?_
 refine za ?_
 refine za ?_
 refine zc (t30 (t2 [])) ?_
 refine c_seq ?_
 refine c_seq ?_
 refine d_begin (sz := 32) ⟨rfl, rfl⟩ (by kernel_rfl) H (H) rfl ?_
 intro w H
 refine zM 0 H ?_
 refine zM 1 H ?_
 refine zM 2 H ?_
 refine zd 3 rfl (by kernel_rfl) (fun _ _ _ h => h) H (ziS qu85 qs88) rfl ?_
 refine d_take (i := 4) rfl (by kernel_rfl) (fun _ _ _ h => h) H (fun _ HS => r_loadn qg88 qs88 rfl (HS.rd hb hbX) (hs_ld ys sp (y) (by omega) (by omega)) (by first | exact (kC_length _) | exact (hC_length _) | exact rfl)) rfl ?_
 refine zM 5 H ?_
 refine zM 6 H ?_
 refine zd 7 rfl (by kernel_rfl) (fun _ _ _ h => h) H (ziS qu85 qs88) rfl ?_
 refine d_take (i := 8) rfl (by kernel_rfl) (fun _ _ _ h => h) H (fun _ HS => r_loadn qg88 qs88 rfl (HS.rd hb hbX) (hs_ld ys sp (x) (by omega) (by omega)) (by first | exact (kC_length _) | exact (hC_length _) | exact rfl)) rfl ?_
 refine zl1 9 ?_
 refine b_call rfl go_none (r_callv qc37 rfl (ec rfl (ec rfl en)) rfl) (punc2_spec _ _ _) rfl ?_
 rintro v w ⟨rfl, HC⟩
 replace H := H.quiet HC
 refine ⟨H, ?_⟩
 refine zd 10 rfl (by kernel_rfl) (fun _ _ _ h => h) H (r_lss rfl rfl) rfl ?_
 refine zz (t30 (t2 [])) ?_
 refine x_thenNormal ?_
 refine c_if rfl (fun h22 => ?_) (fun h22 => ?_)
 ·refine zq 32 ⟨rfl, rfl⟩ ?_
  refine zm ?_
  refine s_val (r_nilCheck rfl) ?_
  refine zL qg3 (H.at 0 rfl) ?_
  refine s_val (r_add rfl rfl (wr (r := ((k + 1 : Nat) : Int)))) ?_
  refine s_val (r_nilCheck rfl) ?_
  refine s_st (m_store1 H 0 qs3 rfl rfl rfl rfl (by first | exact (by rw [kC_length]; omega) | exact (by rw [hC_length]; omega) | exact (by simp)) rfl) (L' := [_]) rfl ?_
  intro w H
  refine zc (t30 (t2 [])) ?_
  refine zq 32 ⟨rfl, rfl⟩ ?_
  refine zm ?_
  refine zm ?_
  refine za ?_
  refine za ?_
  refine zc (t30 (t2 [])) ?_
  refine wp_ret (x_thenRet ?_)
  refine zw (res2 rfl rfl rfl) ?_
  exact ⟨y, x, k + 1, rfl, .inr ⟨rfl, rfl⟩, by omega, by omega, H⟩
 ·refine wp_skip ?_
  refine x_thenNormal ?_
  refine zq 32 ⟨rfl, rfl⟩ ?_
  refine zm ?_
  refine zm ?_
  refine za ?_
  refine za ?_
  refine zc (t30 (t2 [])) ?_
  refine wp_ret ?_
  refine zw (res2 rfl rfl rfl) ?_
  exact ⟨x, y, k, rfl, .inl ⟨rfl, rfl⟩, by omega, by omega, H⟩

set_option maxHeartbeats 4000000 in
theorem med_spec (b n cap s k : Nat) (ys : List Held) (sp : List Value) (hnl : n = ys.length) (x : Nat) (hx : x < ys.length) (y : Nat) (hy : y < ys.length) (c : Nat) (hc : c < ys.length) (_hl : ys.length ≤ 1000000) (hk : k ≤ 1000) (w0 : World) (hb : w0.heap[b]? = some (.cells (hsC ys ++ sp).toArray 88 (0, 0))) (hown : Go.Er.Own w0 [(s, .cells [.int .i64 (k : Nat)].toArray 3 (0, 0))]) (hbX : b ∉ [s]) :
  Calls Try.prog 88 #[.slice (some ⟨b, 0, none⟩) n cap, .int .i64 (x : Nat), .int .i64 (y : Nat), .int .i64 (c : Nat), .pointer (some ⟨s, 0, none⟩), .func (.func 37) #[] #[]] w0 fun e w => ∃ v, e = .returned v ∧ (∃ m k' : Nat, v = .int .i64 m ∧ (m = x ∨ m = y ∨ m = c) ∧ k ≤ k' ∧ k' ≤ k + 3 ∧ St w0 [s] w [(s, .cells [.int .i64 (k' : Nat)].toArray 3 (0, 0))]) := by
 have H : St w0 [s] w0 [(s, .cells [.int .i64 (k : Nat)].toArray 3 (0, 0))] := hown.st
 refine c_enter (args := [.slice (some ⟨b, 0, none⟩) n cap, .int .i64 (x : Nat), .int .i64 (y : Nat), .int .i64 (c : Nat), .pointer (some ⟨s, 0, none⟩), .func (.func 37) #[] #[]]) (l := t40 (t1 [])) Try.func88 Try.ntmps88 rfl rfl ?_
 refine zq 41 ⟨rfl, rfl⟩ ?_
 refine za ?_
 refine zc (t40 (t1 [])) ?_
 refine zq 41 ⟨rfl, rfl⟩ ?_
 refine zm ?_
 refine zm ?_
 refine zm ?_
 refine zm ?_
 refine zm ?_
 refine s_call (r_call Try.call99 (ec rfl (ec rfl (ec rfl (ec rfl (ec rfl en)))))) (ord2_spec b n cap s _ ys sp hnl _ (by omega) _ (by omega) (by omega) (by omega) _ (H.rd hb hbX) H.owns0 hbX) ?_
 rintro v w ⟨p1, q1, k1, rfl, hpq1, hk1, hk1b, HC⟩
 replace H := St.call (F := [_]) (L := []) H HC
 refine zm ?_
 refine ze ?_
 refine ze ?_
 refine za ?_
 refine za ?_
 refine zc (t40 (t1 [])) ?_
 refine zq 41 ⟨rfl, rfl⟩ ?_
 refine zm ?_
 refine zm ?_
 refine zm ?_
 refine zm ?_
 refine zm ?_
 refine s_call (r_call Try.call99 (ec rfl (ec rfl (ec rfl (ec rfl (ec rfl en)))))) (ord2_spec b n cap s _ ys sp hnl _ (by omega) _ (by omega) (by omega) (by omega) _ (H.rd hb hbX) H.owns0 hbX) ?_
 rintro v w ⟨p2, q2, k2, rfl, hpq2, hk2, hk2b, HC⟩
 replace H := St.call (F := [_]) (L := []) H HC
 refine zm ?_
 refine ze ?_
 refine ze ?_
 refine za ?_
 refine za ?_
 refine zc (t40 (t1 [])) ?_
 refine zq 41 ⟨rfl, rfl⟩ ?_
 refine zm ?_
 refine zm ?_
 refine zm ?_
 refine zm ?_
 refine zm ?_
 refine s_call (r_call Try.call99 (ec rfl (ec rfl (ec rfl (ec rfl (ec rfl en)))))) (ord2_spec b n cap s _ ys sp hnl _ (by omega) _ (by omega) (by omega) (by omega) _ (H.rd hb hbX) H.owns0 hbX) ?_
 rintro v w ⟨p3, q3, k3, rfl, hpq3, hk3, hk3b, HC⟩
 replace H := St.call (F := [_]) (L := []) H HC
 refine zm ?_
 refine ze ?_
 refine ze ?_
 refine za ?_
 refine za ?_
 refine zc (t40 (t1 [])) ?_
 refine zq 41 ⟨rfl, rfl⟩ ?_
 refine zm ?_
 refine za ?_
 refine zc (t40 (t1 [])) ?_
 refine wp_ret ?_
 refine zw (res1 rfl rfl) ?_
 exact ⟨q3, k3, rfl, by omega, by omega, by omega, H⟩

set_option maxHeartbeats 4000000 in
theorem piv_spec (b n cap : Nat) (ys : List Held) (sp : List Value) (a z : Nat) (hnl : n = ys.length) (_haz : a ≤ z) (he : z ≤ ys.length) (hl : ys.length ≤ 1000000) (hz : a < z) (h50 : z - a < 50) (w0 : World) (hb : w0.heap[b]? = some (.cells (hsC ys ++ sp).toArray 88 (0, 0))) :
  Calls Try.prog 72 #[.slice (some ⟨b, 0, none⟩) n cap, .int .i64 (a : Nat), .int .i64 (z : Nat), .func (.func 37) #[] #[]] w0 fun e w => ∃ v, e = .returned v ∧ (∃ (p : Nat) (h : Int), v = .tuple #[.int .i64 p, .int .i64 h] ∧ a ≤ p ∧ p < z ∧ h ≠ 2 ∧ St w0 [] w []) := by
 have H := St.refl w0
 refine c_enter (args := [.slice (some ⟨b, 0, none⟩) n cap, .int .i64 (a : Nat), .int .i64 (z : Nat), .func (.func 37) #[] #[]]) (l := t60 (t3 [])) Try.func72 Try.ntmps72 rfl rfl ?_
 refine zq 63 ⟨rfl, rfl⟩ ?_
 refine za ?_
 refine za ?_
 refine zc (t60 (t3 [])) ?_
 refine zq 63 ⟨rfl, rfl⟩ ?_
 refine zm ?_
 refine zm ?_
 refine s_val (r_sub rfl rfl (wr (r := ((z - a : Nat) : Int)))) ?_
 refine za ?_
 refine zc (t60 (t3 [])) ?_
 refine zq 63 ⟨rfl, rfl⟩ ?_
 refine s_new (zA [.int .i64 ((0 : Nat) : Int)] H Try.zeroValue3) ?_
 intro w b11 H
 refine zc (t60 (t3 [])) ?_
 refine zq 63 ⟨rfl, rfl⟩ ?_
 refine zm ?_
 refine zm ?_
 refine s_val (r_quo rfl rfl (by omega) (quoI (by omega) (by omega) (by omega))) ?_
 refine s_val (r_mul rfl rfl w6) ?_
 refine s_val (r_add rfl rfl (wr (r := ((a + (z - a) / 4 * 1 : Nat) : Int)))) ?_
 refine za ?_
 refine zc (t60 (t3 [])) ?_
 refine zq 63 ⟨rfl, rfl⟩ ?_
 refine zm ?_
 refine zm ?_
 refine s_val (r_quo rfl rfl (by omega) (quoI (by omega) (by omega) (by omega))) ?_
 refine s_val (r_mul rfl rfl w6) ?_
 refine s_val (r_add rfl rfl (wr (r := ((a + (z - a) / 4 * 2 : Nat) : Int)))) ?_
 refine za ?_
 refine zc (t60 (t3 [])) ?_
 refine zq 63 ⟨rfl, rfl⟩ ?_
 refine zm ?_
 refine zm ?_
 refine s_val (r_quo rfl rfl (by omega) (quoI (by omega) (by omega) (by omega))) ?_
 refine s_val (r_mul rfl rfl w6) ?_
 refine s_val (r_add rfl rfl (wr (r := ((a + (z - a) / 4 * 3 : Nat) : Int)))) ?_
 refine za ?_
 refine zc (t60 (t3 [])) ?_
 refine c_cut (fun (l0 : List Value) (l : List Value) (w : World) => ∃ (u12 u14 u33 u34 u35 u36 u37 u38 u39 u40 u41 u42 u43 u44 u45 u46 u47 u48 u49 u50 u51 u52 u53 u54 : Value) (j2 k : Nat), l = ovr l0 [N_, N_, N_, N_, N_, N_, N_, N_, N_, N_, N_, N_, Y_ u12, Y_ (.int .i64 j2), Y_ u14, N_, N_, N_, N_, N_, N_, N_, N_, N_, N_, N_, N_, N_, N_, N_, N_, N_, N_, Y_ u33, Y_ u34, Y_ u35, Y_ u36, Y_ u37, Y_ u38, Y_ u39, Y_ u40, Y_ u41, Y_ u42, Y_ u43, Y_ u44, Y_ u45, Y_ u46, Y_ u47, Y_ u48, Y_ u49, Y_ u50, Y_ u51, Y_ u52, Y_ u53, Y_ u54] ∧ a ≤ j2 ∧ j2 < z ∧ k ≤ 3 ∧ St w0 [] w [(b11, .cells [.int .i64 (k : Nat)].toArray 3 (0, 0))]) ?_ ?_
 ·refine zq 63 ⟨rfl, rfl⟩ ?_
  refine zm ?_
  refine s_val (r_geq rfl rfl) ?_
  refine zc (t60 (t3 [])) ?_
  refine c_if rfl (fun h34 => ?_) (fun h34 => ?_)
  ·refine c_seq ?_
   refine zq 63 ⟨rfl, rfl⟩ ?_
   refine zm ?_
   refine s_val (r_geq rfl rfl) ?_
   refine zc (t60 (t3 [])) ?_
   refine c_if rfl (fun h36 => ?_) (fun h36 => ?_)
   ·exfalso; omega
   ·refine wp_skip ?_
    refine x_thenNormal ?_
    refine c_region (n := 63) ⟨rfl, rfl⟩ ?_
    refine zm ?_
    refine zm ?_
    refine zm ?_
    refine zm ?_
    refine zm ?_
    refine s_call (r_call Try.call88 (ec rfl (ec rfl (ec rfl (ec rfl (ec rfl (ec rfl en))))))) (med_spec b n cap b11 0 ys sp hnl _ (by omega) _ (by omega) _ (by omega) (by omega) (by omega) _ (H.rd0 hb) H.owns0 (H.ne0 hb)) ?_
    rintro v w ⟨m, k, rfl, hm, hk0, hk3, HC⟩
    replace H := St.call (F := [_]) (L := []) H HC
    refine za ?_
    refine zb (t60 (t3 [])) ?_
    exact ⟨_, rfl, ⟨_, _, _, _, _, _, _, _, _, _, _, _, _, _, _, _, _, _, _, _, _, _, _, _, _, _, rfl, by omega, by omega, by omega, H⟩⟩
  ·refine wp_skip ?_
   exact ⟨_, rfl, ⟨_, _, _, _, _, _, _, _, _, _, _, _, _, _, _, _, _, _, _, _, _, _, _, _, _, _, rfl, by omega, by omega, by omega, H⟩⟩
 ·rintro l w ⟨u12, u14, u33, u34, u35, u36, u37, u38, u39, u40, u41, u42, u43, u44, u45, u46, u47, u48, u49, u50, u51, u52, u53, u54, j2, k, hl, hj1, hj2, hk, H⟩
  obtain rfl := hl.trans (rfl : _ = t60 (t3 []))
  clear hl
  refine zq 63 ⟨rfl, rfl⟩ ?_
  refine zL qg3 (H.at 0 rfl) ?_
  refine zc (t60 (t3 [])) ?_
  refine wp_block ?_
  refine zq 63 ⟨rfl, rfl⟩ ?_
  refine s_val (r_eql rfl rfl) ?_
  refine za ?_
  refine zc (t60 (t3 [])) ?_
  refine c_if rfl (fun h57 => ?_) (fun h57 => ?_)
  ·refine zq 63 ⟨rfl, rfl⟩ ?_
   refine zm ?_
   refine za ?_
   refine za ?_
   refine zc (t60 (t3 [])) ?_
   refine wp_ret (x_blockRet ?_)
   refine zw (res2 rfl rfl rfl) ?_
   exact ⟨_, 1, rfl, hj1, hj2, by omega, H.sub (List.nil_sublist _)⟩
  ·refine zq 63 ⟨rfl, rfl⟩ ?_
   refine s_val (r_eql rfl rfl) ?_
   refine za ?_
   refine zc (t60 (t3 [])) ?_
   refine c_if rfl (fun h60 => ?_) (fun h60 => ?_)
   ·exfalso; omega
   ·refine zq 63 ⟨rfl, rfl⟩ ?_
    refine zm ?_
    refine za ?_
    refine za ?_
    refine zc (t60 (t3 [])) ?_
    refine wp_ret (x_blockRet ?_)
    refine zw (res2 rfl rfl rfl) ?_
    exact ⟨_, 0, rfl, hj1, hj2, by omega, H.sub (List.nil_sublist _)⟩

end Go.Proofs.Ytobfnieebiakeaa

