import Derived.Test.YtobfnieebiakeaaPM
import Derived.Test.YtobfnieebiakeaaPB1
import Derived.Test.YtobfnieebiakeaaPVx1
import Derived.Test.YtobfnieebiakeaaPVx2
namespace Go.Proofs.Ytobfnieebiakeaa
open Go Go.Er

def LenG (x c : Nat) : Prop := c ≤ 8 ∧ (8 ≤ x → x < 2 ^ c ∧ 2 ^ c ≤ 2 * x)
instance (x c : Nat) : Decidable (LenG x c) := by unfold LenG; infer_instance
def len8g : ByteArray := ⟨#[0, 1, 2, 2, 3, 3, 3, 3, 4, 4, 4, 4, 4, 4, 4, 4, 5, 5, 5, 5, 5, 5, 5, 5, 5, 5, 5, 5, 5, 5, 5, 5, 6, 6, 6, 6, 6, 6, 6, 6, 6, 6, 6, 6, 6, 6, 6, 6, 6, 6, 6, 6, 6, 6, 6, 6, 6, 6, 6, 6, 6, 6, 6, 6, 7, 7, 7, 7, 7, 7, 7, 7, 7, 7, 7, 7, 7, 7, 7, 7, 7, 7, 7, 7, 7, 7, 7, 7, 7, 7, 7, 7, 7, 7, 7, 7, 7, 7, 7, 7, 7, 7, 7, 7, 7, 7, 7, 7, 7, 7, 7, 7, 7, 7, 7, 7, 7, 7, 7, 7, 7, 7, 7, 7, 7, 7, 7, 7, 8, 8, 8, 8, 8, 8, 8, 8, 8, 8, 8, 8, 8, 8, 8, 8, 8, 8, 8, 8, 8, 8, 8, 8, 8, 8, 8, 8, 8, 8, 8, 8, 8, 8, 8, 8, 8, 8, 8, 8, 8, 8, 8, 8, 8, 8, 8, 8, 8, 8, 8, 8, 8, 8, 8, 8, 8, 8, 8, 8, 8, 8, 8, 8, 8, 8, 8, 8, 8, 8, 8, 8, 8, 8, 8, 8, 8, 8, 8, 8, 8, 8, 8, 8, 8, 8, 8, 8, 8, 8, 8, 8, 8, 8, 8, 8, 8, 8, 8, 8, 8, 8, 8, 8, 8, 8, 8, 8, 8, 8, 8, 8, 8, 8, 8, 8, 8, 8, 8, 8, 8, 8, 8, 8, 8, 8, 8, 8]⟩
theorem len8g_all : (List.range 256).all (fun x => match len8g[x]? with | some u => decide (x < 256 → LenG x u.toNat) | none => false) = true := by decide +kernel
theorem len8g_get (x : Nat) (hx : x < 256) : ∃ u, len8g[(x : Int).toNat]? = some u ∧ LenG x u.toNat := by
 have h := List.all_eq_true.1 len8g_all x (List.mem_range.2 (by omega))
 rw [Int.toNat_natCast]
 cases hu : len8g[x]? with
 | none => rw [hu] at h; cases h
 | some u => rw [hu] at h; exact ⟨u, rfl, of_decide_eq_true h hx⟩
theorem shl_oneg {c : Nat} (hc : c ≤ 8) : IntKind.u64.wrap (1 * 2 ^ min ((c : Nat) : Int).toNat IntKind.u64.bits) = ((2 ^ c : Nat) : Int) := by
 have e : min ((c : Nat) : Int).toNat IntKind.u64.bits = c := Nat.min_eq_left (by show c ≤ 64; omega)
 have h1 : (2 : Nat) ^ c ≤ 2 ^ 8 := Nat.pow_le_pow_right (by omega) hc
 have h2 : ((2 : Int) ^ c) = ((2 ^ c : Nat) : Int) := by simp
 rw [e, Int.one_mul, h2]
 have h3 : (2 : Nat) ^ 8 = 256 := rfl
 rw [h3] at h1
 generalize (2 : Nat) ^ c = m at h1 ⊢
 exact w_u64 (by omega) (by omega)
set_option maxHeartbeats 4000000 in
theorem xsn_spec (r n : Nat) (w0 : World) (hown : Go.Er.Own w0 [(r, .cells [.int .u64 (n : Nat)].toArray 140 (0, 0))]) :
  Calls Try.prog 86 #[.pointer (some ⟨r, 0, none⟩)] w0 fun e w => ∃ v, e = .returned v ∧ (∃ m : Nat, m < 18446744073709551616 ∧ v = .int .u64 m ∧ St w0 [r] w [(r, .cells [.int .u64 (m : Nat)].toArray 140 (0, 0))]) := by
 have H : St w0 [r] w0 [(r, .cells [.int .u64 (n : Nat)].toArray 140 (0, 0))] := hown.st
 refine c_enter (args := [.pointer (some ⟨r, 0, none⟩)]) (l := t30 (t3 [])) Try.func86 Try.ntmps86 rfl rfl ?_
 refine zq 33 ⟨rfl, rfl⟩ ?_
 refine za ?_
 refine zc (t30 (t3 [])) ?_
 refine c_cut (fun (l0 : List Value) (l : List Value) (w : World) => ∃ (u3 u4 u5 u6 u7 u8 u9 u10 u11 : Value) (n1 : Nat), l = ovr l0 [N_, N_, N_, Y_ u3, Y_ u4, Y_ u5, Y_ u6, Y_ u7, Y_ u8, Y_ u9, Y_ u10, Y_ u11] ∧ n1 < 18446744073709551616 ∧ St w0 [r] w [(r, .cells [.int .u64 (n1 : Nat)].toArray 140 (0, 0))]) ?_ ?_
 ·refine d_begin (sz := 33) ⟨rfl, rfl⟩ (by kernel_rfl) H (H.sub x0n) rfl ?_
  intro w H
  refine zM 0 (H.sub x0n) ?_
  refine zd 1 rfl (by kernel_rfl) (fun _ _ _ h => h) (H.sub x0n) (r_nilCheck rfl) rfl ?_
  refine zM 3 (H.sub x0n) ?_
  refine zd 4 rfl (by kernel_rfl) (fun _ _ _ h => h) (H.sub x0n) (r_nilCheck rfl) rfl ?_
  refine zl2 2 5 ?_ ?_
  ·refine b_val rfl go_none (z1 qg140 (H.at 0 rfl)) rfl (H.sub x0n) ?_
   refine zl1 5 ?_
   refine b_val rfl go_none (z1 qg140 (H.at 0 rfl)) rfl (H.sub x0n) ?_
   refine zd 6 rfl (by kernel_rfl) (fun _ _ _ h => h) (H.sub x0n) (r_shl rfl rfl (by omega) rfl) rfl ?_
   refine zd 7 rfl (by kernel_rfl) (fun _ _ _ h => h) (H.sub x0n) (r_xor rfl rfl (u64_mod _)) rfl ?_
   refine zd 8 rfl (by kernel_rfl) (fun _ _ _ h => h) (H.sub x0n) (r_nilCheck rfl) rfl ?_
   refine zl1 9 ?_
   refine b_st rfl go_none (m_store1 H 0 qs140 rfl rfl rfl rfl (by first | exact (by rw [kC_length]; omega) | exact (by rw [hC_length]; omega) | exact (by simp)) rfl) (L' := [_]) rfl rfl (fun _ H => (H.sub x0n)) ?_
   intro w H
   refine zz (t30 (t3 [])) ?_
   exact ⟨_, rfl, ⟨_, _, _, _, _, _, _, _, _, _, rfl, (u64_lt _), H⟩⟩
  ·refine b_val rfl go_none (z1 qg140 (H.at 0 rfl)) rfl (H.sub x0n) ?_
   refine zd 6 rfl (by kernel_rfl) (fun _ _ _ h => h) (H.sub x0n) (r_shl rfl rfl (by omega) rfl) rfl ?_
   refine zl1 2 ?_
   refine b_val rfl go_none (z1 qg140 (H.at 0 rfl)) rfl (H.sub x0n) ?_
   refine zd 7 rfl (by kernel_rfl) (fun _ _ _ h => h) (H.sub x0n) (r_xor rfl rfl (u64_mod _)) rfl ?_
   refine zd 8 rfl (by kernel_rfl) (fun _ _ _ h => h) (H.sub x0n) (r_nilCheck rfl) rfl ?_
   refine zl1 9 ?_
   refine b_st rfl go_none (m_store1 H 0 qs140 rfl rfl rfl rfl (by first | exact (by rw [kC_length]; omega) | exact (by rw [hC_length]; omega) | exact (by simp)) rfl) (L' := [_]) rfl rfl (fun _ H => (H.sub x0n)) ?_
   intro w H
   refine zz (t30 (t3 [])) ?_
   exact ⟨_, rfl, ⟨_, _, _, _, _, _, _, _, _, _, rfl, (u64_lt _), H⟩⟩
 ·rintro l w ⟨u3, u4, u5, u6, u7, u8, u9, u10, u11, n1, hl, hn1, H⟩
  obtain rfl := hl.trans (rfl : _ = t30 (t3 []))
  clear hl
  refine c_cut (fun (l0 : List Value) (l : List Value) (w : World) => ∃ (u12 u13 u14 u15 u16 u17 u18 u19 u20 : Value) (n2 : Nat), l = ovr l0 [N_, N_, N_, N_, N_, N_, N_, N_, N_, N_, N_, N_, Y_ u12, Y_ u13, Y_ u14, Y_ u15, Y_ u16, Y_ u17, Y_ u18, Y_ u19, Y_ u20] ∧ n2 < 18446744073709551616 ∧ St w0 [r] w [(r, .cells [.int .u64 (n2 : Nat)].toArray 140 (0, 0))]) ?_ ?_
  ·refine d_begin (sz := 33) ⟨rfl, rfl⟩ (by kernel_rfl) H (H.sub x0n) rfl ?_
   intro w H
   refine zM 0 (H.sub x0n) ?_
   refine zd 1 rfl (by kernel_rfl) (fun _ _ _ h => h) (H.sub x0n) (r_nilCheck rfl) rfl ?_
   refine zM 3 (H.sub x0n) ?_
   refine zd 4 rfl (by kernel_rfl) (fun _ _ _ h => h) (H.sub x0n) (r_nilCheck rfl) rfl ?_
   refine zl2 2 5 ?_ ?_
   ·refine b_val rfl go_none (z1 qg140 (H.at 0 rfl)) rfl (H.sub x0n) ?_
    refine zl1 5 ?_
    refine b_val rfl go_none (z1 qg140 (H.at 0 rfl)) rfl (H.sub x0n) ?_
    refine zd 6 rfl (by kernel_rfl) (fun _ _ _ h => h) (H.sub x0n) (r_shr rfl rfl (by omega) rfl) rfl ?_
    refine zd 7 rfl (by kernel_rfl) (fun _ _ _ h => h) (H.sub x0n) (r_xor rfl rfl (u64_mod _)) rfl ?_
    refine zd 8 rfl (by kernel_rfl) (fun _ _ _ h => h) (H.sub x0n) (r_nilCheck rfl) rfl ?_
    refine zl1 9 ?_
    refine b_st rfl go_none (m_store1 H 0 qs140 rfl rfl rfl rfl (by first | exact (by rw [kC_length]; omega) | exact (by rw [hC_length]; omega) | exact (by simp)) rfl) (L' := [_]) rfl rfl (fun _ H => (H.sub x0n)) ?_
    intro w H
    refine zz (t30 (t3 [])) ?_
    exact ⟨_, rfl, ⟨_, _, _, _, _, _, _, _, _, _, rfl, (u64_lt _), H⟩⟩
   ·refine b_val rfl go_none (z1 qg140 (H.at 0 rfl)) rfl (H.sub x0n) ?_
    refine zd 6 rfl (by kernel_rfl) (fun _ _ _ h => h) (H.sub x0n) (r_shr rfl rfl (by omega) rfl) rfl ?_
    refine zl1 2 ?_
    refine b_val rfl go_none (z1 qg140 (H.at 0 rfl)) rfl (H.sub x0n) ?_
    refine zd 7 rfl (by kernel_rfl) (fun _ _ _ h => h) (H.sub x0n) (r_xor rfl rfl (u64_mod _)) rfl ?_
    refine zd 8 rfl (by kernel_rfl) (fun _ _ _ h => h) (H.sub x0n) (r_nilCheck rfl) rfl ?_
    refine zl1 9 ?_
    refine b_st rfl go_none (m_store1 H 0 qs140 rfl rfl rfl rfl (by first | exact (by rw [kC_length]; omega) | exact (by rw [hC_length]; omega) | exact (by simp)) rfl) (L' := [_]) rfl rfl (fun _ H => (H.sub x0n)) ?_
    intro w H
    refine zz (t30 (t3 [])) ?_
    exact ⟨_, rfl, ⟨_, _, _, _, _, _, _, _, _, _, rfl, (u64_lt _), H⟩⟩
  ·rintro l w ⟨u12, u13, u14, u15, u16, u17, u18, u19, u20, n2, hl, hn2, H⟩
   obtain rfl := hl.trans (rfl : _ = t30 (t3 []))
   clear hl
   refine c_cut (fun (l0 : List Value) (l : List Value) (w : World) => ∃ (u21 u22 u23 u24 u25 u26 u27 u28 u29 : Value) (n3 : Nat), l = ovr l0 [N_, N_, N_, N_, N_, N_, N_, N_, N_, N_, N_, N_, N_, N_, N_, N_, N_, N_, N_, N_, N_, Y_ u21, Y_ u22, Y_ u23, Y_ u24, Y_ u25, Y_ u26, Y_ u27, Y_ u28, Y_ u29] ∧ n3 < 18446744073709551616 ∧ St w0 [r] w [(r, .cells [.int .u64 (n3 : Nat)].toArray 140 (0, 0))]) ?_ ?_
   ·refine d_begin (sz := 33) ⟨rfl, rfl⟩ (by kernel_rfl) H (H.sub x0n) rfl ?_
    intro w H
    refine zM 0 (H.sub x0n) ?_
    refine zd 1 rfl (by kernel_rfl) (fun _ _ _ h => h) (H.sub x0n) (r_nilCheck rfl) rfl ?_
    refine zM 3 (H.sub x0n) ?_
    refine zd 4 rfl (by kernel_rfl) (fun _ _ _ h => h) (H.sub x0n) (r_nilCheck rfl) rfl ?_
    refine zl2 2 5 ?_ ?_
    ·refine b_val rfl go_none (z1 qg140 (H.at 0 rfl)) rfl (H.sub x0n) ?_
     refine zl1 5 ?_
     refine b_val rfl go_none (z1 qg140 (H.at 0 rfl)) rfl (H.sub x0n) ?_
     refine zd 6 rfl (by kernel_rfl) (fun _ _ _ h => h) (H.sub x0n) (r_shl rfl rfl (by omega) rfl) rfl ?_
     refine zd 7 rfl (by kernel_rfl) (fun _ _ _ h => h) (H.sub x0n) (r_xor rfl rfl (u64_mod _)) rfl ?_
     refine zd 8 rfl (by kernel_rfl) (fun _ _ _ h => h) (H.sub x0n) (r_nilCheck rfl) rfl ?_
     refine zl1 9 ?_
     refine b_st rfl go_none (m_store1 H 0 qs140 rfl rfl rfl rfl (by first | exact (by rw [kC_length]; omega) | exact (by rw [hC_length]; omega) | exact (by simp)) rfl) (L' := [_]) rfl rfl (fun _ H => (H.sub x0n)) ?_
     intro w H
     refine zz (t30 (t3 [])) ?_
     exact ⟨_, rfl, ⟨_, _, _, _, _, _, _, _, _, _, rfl, (u64_lt _), H⟩⟩
    ·refine b_val rfl go_none (z1 qg140 (H.at 0 rfl)) rfl (H.sub x0n) ?_
     refine zd 6 rfl (by kernel_rfl) (fun _ _ _ h => h) (H.sub x0n) (r_shl rfl rfl (by omega) rfl) rfl ?_
     refine zl1 2 ?_
     refine b_val rfl go_none (z1 qg140 (H.at 0 rfl)) rfl (H.sub x0n) ?_
     refine zd 7 rfl (by kernel_rfl) (fun _ _ _ h => h) (H.sub x0n) (r_xor rfl rfl (u64_mod _)) rfl ?_
     refine zd 8 rfl (by kernel_rfl) (fun _ _ _ h => h) (H.sub x0n) (r_nilCheck rfl) rfl ?_
     refine zl1 9 ?_
     refine b_st rfl go_none (m_store1 H 0 qs140 rfl rfl rfl rfl (by first | exact (by rw [kC_length]; omega) | exact (by rw [hC_length]; omega) | exact (by simp)) rfl) (L' := [_]) rfl rfl (fun _ H => (H.sub x0n)) ?_
     intro w H
     refine zz (t30 (t3 [])) ?_
     exact ⟨_, rfl, ⟨_, _, _, _, _, _, _, _, _, _, rfl, (u64_lt _), H⟩⟩
   ·rintro l w ⟨u21, u22, u23, u24, u25, u26, u27, u28, u29, n3, hl, hn3, H⟩
    obtain rfl := hl.trans (rfl : _ = t30 (t3 []))
    clear hl
    refine zq 33 ⟨rfl, rfl⟩ ?_
    refine zm ?_
    refine s_val (r_nilCheck rfl) ?_
    refine zL qg140 (H.at 0 rfl) ?_
    refine za ?_
    refine zc (t30 (t3 [])) ?_
    refine wp_ret ?_
    refine zw (res1 rfl rfl) ?_
    exact ⟨_, hn3, rfl, H⟩

set_option maxHeartbeats 4000000 in
theorem len64g_spec (x : Nat) (hx : x < 256) (w0 : World) :
  Calls Try.prog 78 #[.int .u64 (x : Nat)] w0 fun e w => ∃ v, e = .returned v ∧ (∃ c : Nat, LenG x c ∧ v = .int .i64 c ∧ St w0 [] w []) := by
 have H := St.refl w0
 refine c_enter (args := [.int .u64 (x : Nat)]) (l := t20 (t5 [])) Try.func78 Try.ntmps78 rfl rfl ?_
 refine zq 25 ⟨rfl, rfl⟩ ?_
 refine za ?_
 refine zc (t20 (t5 [])) ?_
 refine c_seq ?_
 refine zq 25 ⟨rfl, rfl⟩ ?_
 refine zm ?_
 refine s_val (r_geq rfl rfl) ?_
 refine zc (t20 (t5 [])) ?_
 refine c_if rfl (fun h4 => ?_) (fun h4 => ?_)
 ·exfalso; omega
 ·refine wp_skip ?_
  refine x_thenNormal ?_
  refine c_seq ?_
  refine zq 25 ⟨rfl, rfl⟩ ?_
  refine zm ?_
  refine s_val (r_geq rfl rfl) ?_
  refine zc (t20 (t5 [])) ?_
  refine c_if rfl (fun h8 => ?_) (fun h8 => ?_)
  ·exfalso; omega
  ·refine wp_skip ?_
   refine x_thenNormal ?_
   refine c_seq ?_
   refine zq 25 ⟨rfl, rfl⟩ ?_
   refine zm ?_
   refine s_val (r_geq rfl rfl) ?_
   refine zc (t20 (t5 [])) ?_
   refine c_if rfl (fun h14 => ?_) (fun h14 => ?_)
   ·exfalso; omega
   ·refine wp_skip ?_
    refine x_thenNormal ?_
    refine zq 25 ⟨rfl, rfl⟩ ?_
    refine zm ?_
    refine zm ?_
    refine s_val (r_conv qu28 qu5 rfl (w_u8 (by omega) (by omega))) ?_
    obtain ⟨u, hu8, hf⟩ := len8g_get x hx
    have hu := u.toNat_lt
    refine s_val (r_indexStr qu9 rfl rfl (by omega) hu8) ?_
    refine s_val (r_conv qu5 qu3 rfl w6) ?_
    refine s_val (r_add rfl rfl (wr (r := (u.toNat : Int)))) ?_
    refine za ?_
    refine zc (t20 (t5 [])) ?_
    refine wp_ret ?_
    refine zw (res1 rfl rfl) ?_
    exact ⟨_, hf, rfl, H⟩

set_option maxHeartbeats 4000000 in
theorem leng_spec (x : Nat) (hx : x < 256) (w0 : World) :
  Calls Try.prog 57 #[.int .u64 (x : Nat)] w0 fun e w => ∃ v, e = .returned v ∧ (∃ c : Nat, LenG x c ∧ v = .int .i64 c ∧ St w0 [] w []) := by
 have H := St.refl w0
 refine c_enter (args := [.int .u64 (x : Nat)]) (l := t8 []) Try.func57 Try.ntmps57 rfl rfl ?_
 refine zq 8 ⟨rfl, rfl⟩ ?_
 refine za ?_
 refine zc (t8 []) ?_
 refine c_seq ?_
 refine c_iff rfl ?_
 refine wp_skip ?_
 refine x_thenNormal ?_
 refine zq 8 ⟨rfl, rfl⟩ ?_
 refine zm ?_
 refine s_call (r_call Try.call78 (ec rfl en)) (len64g_spec _ (by omega) _) ?_
 rintro v w ⟨c, hlen, rfl, HC⟩
 replace H := H.quiet HC
 refine za ?_
 refine zc (t8 []) ?_
 refine wp_ret ?_
 refine zw (res1 rfl rfl) ?_
 exact ⟨_, hlen, rfl, H⟩

set_option maxHeartbeats 4000000 in
theorem npowg_spec (x : Nat) (h8 : 8 ≤ x) (hx : x < 256) (w0 : World) :
  Calls Try.prog 85 #[.int .i64 (x : Nat)] w0 fun e w => ∃ v, e = .returned v ∧ (∃ c : Nat, x < 2 ^ c ∧ 2 ^ c ≤ 2 * x ∧ v = .int .u64 (2 ^ c : Nat) ∧ St w0 [] w []) := by
 have H := St.refl w0
 refine c_enter (args := [.int .i64 (x : Nat)]) (l := t7 []) Try.func85 Try.ntmps85 rfl rfl ?_
 refine zq 7 ⟨rfl, rfl⟩ ?_
 refine za ?_
 refine zc (t7 []) ?_
 refine zq 7 ⟨rfl, rfl⟩ ?_
 refine zm ?_
 refine s_val (r_conv qu3 qu102 rfl v6) ?_
 refine s_call (r_call qc57 (ec rfl en)) (leng_spec _ (by omega) _) ?_
 rintro v w ⟨c, hlen, rfl, HC⟩
 replace H := H.quiet HC
 obtain ⟨hl2, hl3⟩ := hlen
 obtain ⟨hl4, hl5⟩ := hl3 h8
 refine s_val (r_shl rfl rfl (by omega) (shl_oneg hl2)) ?_
 refine za ?_
 refine zc (t7 []) ?_
 refine wp_ret ?_
 refine zw (res1 rfl rfl) ?_
 exact ⟨_, hl4, hl5, rfl, H⟩

end Go.Proofs.Ytobfnieebiakeaa

