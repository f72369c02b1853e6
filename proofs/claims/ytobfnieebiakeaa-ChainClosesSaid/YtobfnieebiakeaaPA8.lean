import Derived.Test.YtobfnieebiakeaaPM
import Derived.Test.YtobfnieebiakeaaPA1
namespace Go.Proofs.Ytobfnieebiakeaa
open Go Go.Er

set_option maxHeartbeats 4000000 in
theorem rxor_spec (xa pa : Option Addr) (xc pc : Nat) (xs ps : List UInt8) (hx1 : xs.length ≤ ps.length) (hl : ps.length ≤ 1000000) (w0 : World) (hx : BRow w0 xa xs) (hp : BRow w0 pa ps) :
  Calls Try.prog 44 #[.slice xa xs.length xc, .slice pa ps.length pc] w0 fun e w => ∃ v, e = .returned v ∧ (∃ (a2 : Option Addr) (c2 : Nat) (N : List (Nat × Obj)), v = .slice a2 xs.length c2 ∧ RowN 1 5 (bC (xorB ps xs)) xs.length a2 c2 N ∧ St w0 [] w N) := by
 have H := St.refl w0
 have hxl := xorB_length (p := ps) (b := xs) hx1
 refine c_enter (args := [.slice xa xs.length xc, .slice pa ps.length pc]) (l := t50 (t5 [])) Try.func44 Try.ntmps44 rfl rfl ?_
 refine zq 55 ⟨rfl, rfl⟩ ?_
 refine za ?_
 refine zc (t50 (t5 [])) ?_
 refine zq 55 ⟨rfl, rfl⟩ ?_
 refine za ?_
 refine zc (t50 (t5 [])) ?_
 refine c_seq ?_
 refine zq 55 ⟨rfl, rfl⟩ ?_
 refine za ?_
 refine zc (t50 (t5 [])) ?_
 refine wp_block ?_
 refine c_loop (fun (l0 : List Value) (i : Nat) (l : List Value) (w : World) => ∃ (u7 u8 u9 u10 u11 u12 u13 u14 u15 u16 u17 u18 u19 u20 u21 u22 u23 u24 u25 u26 u27 u28 u29 u30 u31 u32 u33 u34 u35 u36 u37 u38 u39 u40 u41 u42 u43 u44 u45 u46 u47 u48 u49 u50 u51 u52 u53 : Value) (a3 : Option Addr) (c3 : Nat) (N : List (Nat × Obj)), l = ovr l0 [N_, N_, N_, N_, N_, Y_ (.slice a3 i c3), Y_ (.int .i64 i), Y_ u7, Y_ u8, Y_ u9, Y_ u10, Y_ u11, Y_ u12, Y_ u13, Y_ u14, Y_ u15, Y_ u16, Y_ u17, Y_ u18, Y_ u19, Y_ u20, Y_ u21, Y_ u22, Y_ u23, Y_ u24, Y_ u25, Y_ u26, Y_ u27, Y_ u28, Y_ u29, Y_ u30, Y_ u31, Y_ u32, Y_ u33, Y_ u34, Y_ u35, Y_ u36, Y_ u37, Y_ u38, Y_ u39, Y_ u40, Y_ u41, Y_ u42, Y_ u43, Y_ u44, Y_ u45, Y_ u46, Y_ u47, Y_ u48, Y_ u49, Y_ u50, Y_ u51, Y_ u52, Y_ u53] ∧ i ≤ xs.length ∧ RowN 1 5 (bC ((xorB ps xs).take i)) i a3 c3 N ∧ St w0 [] w (N)) (fun (i : Nat) => xs.length - i) 0 ⟨_, _, _, _, _, _, _, _, _, _, _, _, _, _, _, _, _, _, _, _, _, _, _, _, _, _, _, _, _, _, _, _, _, _, _, _, _, _, _, _, _, _, _, _, _, _, _, none, 0, [], rfl, Nat.zero_le _, RowN.nil, H⟩ ?_
 intro i l w ⟨u7, u8, u9, u10, u11, u12, u13, u14, u15, u16, u17, u18, u19, u20, u21, u22, u23, u24, u25, u26, u27, u28, u29, u30, u31, u32, u33, u34, u35, u36, u37, u38, u39, u40, u41, u42, u43, u44, u45, u46, u47, u48, u49, u50, u51, u52, u53, a3, c3, N, hl, hi, hR, H⟩
 obtain rfl := hl.trans (rfl : _ = t50 (t5 []))
 clear hl
 refine c_seq ?_
 refine zq 55 ⟨rfl, rfl⟩ ?_
 refine zm ?_
 refine zm ?_
 refine s_val (r_lens qu41 (ec rfl en)) ?_
 refine s_test (r_lss rfl rfl) (fun h15 => ?_) (fun h15 => ?_)
 ·obtain ⟨bx, ox, prex, postx, Tx, fx, rfl, hbx, hpx⟩ := hx (by omega)
  obtain ⟨bp, op, prep, postp, Tp, fp, rfl, hbp, hpp⟩ := hp (by omega)
  refine zm ?_
  refine zy ?_
  refine zm ?_
  refine zy ?_
  refine zm ?_
  refine zy ?_
  refine s_val (r_lens qu41 (ec rfl en)) ?_
  refine zy ?_
  refine s_test (r_lss rfl rfl) (fun h20 => ?_) (fun h20 => ?_)
  ·refine zv ?_
   refine zc (t50 (t5 [])) ?_
   refine c_ift rfl ?_
   refine wp_skip ?_
   refine x_thenNormal ?_
   refine c_seq ?_
   refine wp_block ?_
   refine zq 55 ⟨rfl, rfl⟩ ?_
   refine zm ?_
   refine zm ?_
   refine s_val (ziS qu41 qs5) ?_
   refine s_val (r_load1 qg5 rfl (H.rd0 hbx) (bs_getE _ xs _ i hpx (by omega) (by omega))) ?_
   refine za ?_
   refine zc (t50 (t5 [])) ?_
   refine zq 55 ⟨rfl, rfl⟩ ?_
   refine zm ?_
   refine zm ?_
   refine s_val (ziS qu41 qs5) ?_
   refine s_val (r_load1 qg5 rfl (H.rd0 hbp) (bs_getE _ ps _ i hpp (by omega) (by omega))) ?_
   refine za ?_
   refine zc (t50 (t5 [])) ?_
   refine zq 55 ⟨rfl, rfl⟩ ?_
   refine za ?_
   refine zc (t50 (t5 [])) ?_
   refine zq 55 ⟨rfl, rfl⟩ ?_
   refine za ?_
   refine zc (t50 (t5 [])) ?_
   refine c_seq ?_
   refine zq 55 ⟨rfl, rfl⟩ ?_
   refine za ?_
   refine zc (t50 (t5 [])) ?_
   refine wp_block ?_
   refine c_loop (fun (l0 : List Value) (k : Nat) (l : List Value) (w : World) => ∃ (u32 u33 u34 u35 u36 u37 u38 u39 u40 u41 u42 u43 u44 u45 u46 u47 u48 u49 : Value) (xa2 yb2 nn bt : Nat), l = ovr l0 [N_, N_, N_, N_, N_, N_, N_, Y_ (.int .u8 (xa2 : Int)), Y_ (.int .u8 (yb2 : Int)), Y_ (.int .u8 (nn : Int)), Y_ (.int .u8 (bt : Int)), Y_ (.int .i64 k), N_, N_, N_, N_, N_, N_, N_, N_, N_, N_, N_, N_, N_, N_, N_, N_, N_, N_, N_, N_, Y_ u32, Y_ u33, Y_ u34, Y_ u35, Y_ u36, Y_ u37, Y_ u38, Y_ u39, Y_ u40, Y_ u41, Y_ u42, Y_ u43, Y_ u44, Y_ u45, Y_ u46, Y_ u47, Y_ u48, Y_ u49] ∧ k ≤ 8 ∧ xa2 = (xs.getD i 0).toNat / 2 ^ k ∧ yb2 = (ps.getD i 0).toNat / 2 ^ k ∧ nn = xb (xs.getD i 0).toNat (ps.getD i 0).toNat k ∧ bt = 2 ^ k % 256 ∧ St w0 [] w (N)) (fun (k : Nat) => 8 - k) 0 ⟨_, _, _, _, _, _, _, _, _, _, _, _, _, _, _, _, _, _, (xs.getD i 0).toNat, (ps.getD i 0).toNat, 0, 1, rfl, Nat.zero_le _, (by rw [Nat.pow_zero, Nat.div_one]), (by rw [Nat.pow_zero, Nat.div_one]), (xb_zero _ _).symm, rfl, H⟩ ?_
   intro k l w ⟨u32, u33, u34, u35, u36, u37, u38, u39, u40, u41, u42, u43, u44, u45, u46, u47, u48, u49, xa2, yb2, nn, bt, hl, hk, hxa, hyb, hnn, hbt, H⟩
   obtain rfl := hl.trans (rfl : _ = t50 (t5 []))
   clear hl
   refine c_seq ?_
   refine zq 55 ⟨rfl, rfl⟩ ?_
   refine zm ?_
   refine s_val (r_lss rfl rfl) ?_
   refine zc (t50 (t5 [])) ?_
   refine c_if rfl (fun h33 => ?_) (fun h33 => ?_)
   ·refine wp_skip ?_
    refine x_thenNormal ?_
    refine c_seq ?_
    refine wp_block ?_
    refine c_seq ?_
    refine zq 55 ⟨rfl, rfl⟩ ?_
    refine zm ?_
    refine s_val (r_rem rfl rfl (by decide) (tm2 xa2)) ?_
    refine zm ?_
    refine s_val (r_rem rfl rfl (by decide) (tm2 yb2)) ?_
    refine s_val (r_neq rfl rfl) ?_
    refine zc (t50 (t5 [])) ?_
    refine c_if rfl (fun h40 => ?_) (fun h40 => ?_)
    ·have hbit := xb_yes (x := (xs.getD i 0).toNat) (y := (ps.getD i 0).toNat) (k := k) (fun e => h40 (by rw [hxa, hyb, e]))
     refine c_region (n := 55) ⟨rfl, rfl⟩ ?_
     refine zm ?_
     refine zm ?_
     refine s_val (r_add rfl rfl (show IntKind.u8.wrap ((nn : Int) + (bt : Int)) = ((xb (xs.getD i 0).toNat (ps.getD i 0).toNat k + 2 ^ k : Nat) : Int) by rw [hnn, hbt]; exact bit_add (by omega))) ?_
     refine za ?_
     refine zc (t50 (t5 [])) ?_
     refine zq 55 ⟨rfl, rfl⟩ ?_
     refine zm ?_
     refine s_val (r_quo rfl rfl (by decide) (td2 xa2 (by rw [hxa]; exact Nat.lt_of_le_of_lt (Nat.div_le_self _ _) (xs.getD i 0).toNat_lt))) ?_
     refine za ?_
     refine zc (t50 (t5 [])) ?_
     refine zq 55 ⟨rfl, rfl⟩ ?_
     refine zm ?_
     refine s_val (r_quo rfl rfl (by decide) (td2 yb2 (by rw [hyb]; exact Nat.lt_of_le_of_lt (Nat.div_le_self _ _) (ps.getD i 0).toNat_lt))) ?_
     refine za ?_
     refine zc (t50 (t5 [])) ?_
     refine c_region (n := 55) ⟨rfl, rfl⟩ ?_
     refine zm ?_
     refine s_val (r_mul rfl rfl (show IntKind.u8.wrap ((bt : Int) * 2) = ((2 ^ (k + 1) % 256 : Nat) : Int) by rw [hbt]; exact bit_dbl k)) ?_
     refine za ?_
     refine zb (t50 (t5 [])) ?_
     refine x_blockNormal ?_
     refine x_thenNormal ?_
     refine c_region (n := 55) ⟨rfl, rfl⟩ ?_
     refine zm ?_
     refine zj ?_
     refine za ?_
     refine zb (t50 (t5 [])) ?_
     exact ⟨k + 1, _, rfl, ⟨_, _, _, _, _, _, _, _, _, _, _, _, _, _, _, _, _, _, xa2 / 2, yb2 / 2, (xb (xs.getD i 0).toNat (ps.getD i 0).toNat k + 2 ^ k), 2 ^ (k + 1) % 256, rfl, by omega, (by rw [hxa]; exact div_pow_succ _ _), (by rw [hyb]; exact div_pow_succ _ _), hbit.symm, rfl, H⟩, by omega⟩
    ·have hbit := xb_no (x := (xs.getD i 0).toNat) (y := (ps.getD i 0).toNat) (k := k) (by have h := Decidable.not_not.1 h40; rw [hxa, hyb] at h; exact Int.ofNat_inj.1 h)
     refine wp_skip ?_
     refine x_thenNormal ?_
     refine zq 55 ⟨rfl, rfl⟩ ?_
     refine zm ?_
     refine s_val (r_quo rfl rfl (by decide) (td2 xa2 (by rw [hxa]; exact Nat.lt_of_le_of_lt (Nat.div_le_self _ _) (xs.getD i 0).toNat_lt))) ?_
     refine za ?_
     refine zc (t50 (t5 [])) ?_
     refine zq 55 ⟨rfl, rfl⟩ ?_
     refine zm ?_
     refine s_val (r_quo rfl rfl (by decide) (td2 yb2 (by rw [hyb]; exact Nat.lt_of_le_of_lt (Nat.div_le_self _ _) (ps.getD i 0).toNat_lt))) ?_
     refine za ?_
     refine zc (t50 (t5 [])) ?_
     refine c_region (n := 55) ⟨rfl, rfl⟩ ?_
     refine zm ?_
     refine s_val (r_mul rfl rfl (show IntKind.u8.wrap ((bt : Int) * 2) = ((2 ^ (k + 1) % 256 : Nat) : Int) by rw [hbt]; exact bit_dbl k)) ?_
     refine za ?_
     refine zb (t50 (t5 [])) ?_
     refine x_blockNormal ?_
     refine x_thenNormal ?_
     refine c_region (n := 55) ⟨rfl, rfl⟩ ?_
     refine zm ?_
     refine zj ?_
     refine za ?_
     refine zb (t50 (t5 [])) ?_
     exact ⟨k + 1, _, rfl, ⟨_, _, _, _, _, _, _, _, _, _, _, _, _, _, _, _, _, _, xa2 / 2, yb2 / 2, nn, 2 ^ (k + 1) % 256, rfl, by omega, (by rw [hxa]; exact div_pow_succ _ _), (by rw [hyb]; exact div_pow_succ _ _), (hnn.trans hbit.symm), rfl, H⟩, by omega⟩
   ·refine wp_exit (x_thenExit (x_thenExit (x_blockHit ?_)))
    refine x_thenNormal ?_
    refine c_region (n := 55) ⟨rfl, rfl⟩ ?_
    refine zm ?_
    refine zm ?_
    have e8 : ((nn : Nat) : Int) = (((((xs.getD i 0) ^^^ (ps.getD i 0))).toNat : Nat) : Int) := by rw [hnn, show k = 8 by omega]; exact congrArg _ (xb_all _ _)
    rw [e8]
    refine s_new (m_bslice1 (vs := bC [(((xs.getD i 0) ^^^ (ps.getD i 0)))]) H qu41 qs5 Try.zeroValue5 (by omega) (by omega) rfl rfl rfl) ?_
    intro w b52 H
    refine s_any (m_append_row0 (L1 := [_]) (N := N) H hR qu41 qu41 (fun _ h => nomatch h) qs5 Try.zeroValue5 rfl Try.typeInfo5 (by rw [bytes5]; omega) (by rw [bytes5]; omega) (ec rfl (ec rfl en)) (Src.slice (vs := bC [(((xs.getD i 0) ^^^ (ps.getD i 0)))]) (H.at 0 rfl) rfl rfl (bC_one _))) ?_
    rintro v w ⟨a5, c5, N5, rfl, hN5, H⟩
    skip
    refine za ?_
    refine zb (t50 (t5 [])) ?_
    refine x_blockNormal ?_
    refine x_thenNormal ?_
    refine c_region (n := 55) ⟨rfl, rfl⟩ ?_
    refine zm ?_
    refine zj ?_
    refine za ?_
    refine zb (t50 (t5 [])) ?_
    exact ⟨i + 1, _, rfl, ⟨_, _, _, _, _, _, _, _, _, _, _, _, _, _, _, _, _, _, _, _, _, _, _, _, _, _, _, _, _, _, _, _, _, _, _, _, _, _, _, _, _, _, _, _, _, _, _, a5, c5, N5, rfl, by omega, (by rw [xorB_take (by omega) hx1, bC_append]; exact hN5), (H.sub x0r)⟩, by omega⟩
  ·exfalso; omega
 ·obtain rfl : i = xs.length := by omega
  rw [List.take_of_length_le (by omega)] at hR
  refine zm ?_
  refine zg ?_
  refine zg ?_
  refine zg ?_
  refine zg ?_
  refine zf ?_
  refine zc (t50 (t5 [])) ?_
  refine c_iff rfl ?_
  refine wp_exit (x_thenExit (x_thenExit (x_blockHit ?_)))
  refine x_thenNormal ?_
  refine zq 55 ⟨rfl, rfl⟩ ?_
  refine zm ?_
  refine za ?_
  refine zc (t50 (t5 [])) ?_
  refine wp_ret ?_
  refine zw (res1 rfl rfl) ?_
  exact ⟨a3, c3, N, rfl, hR, H⟩

theorem rxor_l (xa pa : Option Addr) (xc pc m : Nat) (xs ps : List UInt8) (hx1 : xs.length ≤ ps.length) (hm : m = ps.length) (hl : ps.length ≤ 1000000) (w0 : World) (hx : BRow w0 xa xs) (hp : BRow w0 pa ps) :
  Calls Try.prog 44 #[.slice xa xs.length xc, .slice pa m pc] w0 fun e w => ∃ v, e = .returned v ∧ ∃ (a2 : Option Addr) (c2 : Nat) (N : List (Nat × Obj)), v = .slice a2 xs.length c2 ∧ RowN 1 5 (bC (xorB ps xs)) xs.length a2 c2 N ∧ St w0 [] w N := by
 subst hm
 exact rxor_spec xa pa xc pc xs ps hx1 hl w0 hx hp

set_option maxHeartbeats 4000000 in
theorem rhide_spec (p : Blk) (a : Option Addr) (c : Nat) (xs : List UInt8) (hl : xs.length ≤ 32) (w0 : World) (hx : BRow w0 a xs) :
  Calls Try.prog 22 #[.agg (kC p).toArray, .slice a xs.length c] w0 fun e w => ∃ v, e = .returned v ∧ (∃ (a2 : Option Addr) (c2 : Nat) (N : List (Nat × Obj)), v = .slice a2 xs.length c2 ∧ RowN 1 5 (bC (xorB p.1 xs)) xs.length a2 c2 N ∧ St w0 [] w N) := by
 have H := St.refl w0
 refine c_enter (args := [.agg (kC p).toArray, .slice a xs.length c]) (l := t10 (t1 [])) Try.func22 Try.ntmps22 rfl rfl ?_
 refine zq 11 ⟨rfl, rfl⟩ ?_
 refine s_new (m_box (cs := (kC p)) H rfl rfl) ?_
 intro w b2 H
 refine za ?_
 refine zc (t10 (t1 [])) ?_
 refine c_seq ?_
 refine zq 11 ⟨rfl, rfl⟩ ?_
 refine zm ?_
 refine s_val (r_lens qu41 (ec rfl en)) ?_
 refine s_val (r_gtr rfl rfl) ?_
 refine zc (t10 (t1 [])) ?_
 refine c_if rfl (fun h7 => ?_) (fun h7 => ?_)
 ·exfalso; omega
 ·refine wp_skip ?_
  refine x_thenNormal ?_
  refine zq 11 ⟨rfl, rfl⟩ ?_
  refine zm ?_
  refine s_val (r_sliceA qu44 qs5 rfl) ?_
  refine s_call (r_call Try.call44 (ec rfl (ec rfl en))) (rxor_l a _ c _ _ xs p.1 (by rw [p.2]; exact hl) p.2.symm (by rw [p.2]; decide) _ (hx.st (H.sub (List.nil_sublist _))) (fun _ => ⟨b2, 0, [], [], _, _, rfl, (by rw [List.nil_append, List.append_nil]; exact H.at 0 rfl), rfl⟩)) ?_
  rintro v w ⟨a2, c2, N2, rfl, hN2, HC⟩
  replace H := H.call0 HC
  refine za ?_
  refine zc (t10 (t1 [])) ?_
  refine wp_ret ?_
  refine zw (res1 rfl rfl) ?_
  exact ⟨a2, c2, N2, rfl, hN2, H.sub (List.sublist_append_left _ _)⟩

end Go.Proofs.Ytobfnieebiakeaa

