import Derived.Test.YtobfnieebiakeaaPM
import Derived.Test.YtobfnieebiakeaaPA5
namespace Go.Proofs.Ytobfnieebiakeaa
open Go Go.Er

set_option maxHeartbeats 4000000 in
theorem backc_spec (a : Option Addr) (n cap : Nat) (w0 : World) :
  Calls Try.prog 30 #[.slice a n cap] w0 fun e w => ∃ v, e = .returned v ∧ (∃ b, v = .func (.func 48) #[] #[.pointer (some ⟨b, 0, none⟩)] ∧ St w0 [] w [(b, .cells [.slice a n cap].toArray 22 (0, 0))]) := by
 have H := St.refl w0
 refine c_enter (args := [.slice a n cap]) (l := t4 []) Try.func30 Try.ntmps30 rfl rfl ?_
 refine zq 4 ⟨rfl, rfl⟩ ?_
 refine s_new (m_box (cs := [.slice a n cap]) H rfl rfl) ?_
 intro w b1 H
 refine za ?_
 refine zc (t4 []) ?_
 refine zq 4 ⟨rfl, rfl⟩ ?_
 refine s_val (r_makeFunc en (ec rfl en)) ?_
 refine za ?_
 refine zc (t4 []) ?_
 refine wp_ret ?_
 refine zw (res1 rfl rfl) ?_
 exact ⟨_, rfl, H⟩

set_option maxHeartbeats 4000000 in
theorem backc1_spec (r fnr D b1 cap : Nat) (lr : List Value) (ps : List Tmp) (as_ bo : Code) (ys : List Ce) (a : Option Addr) (M M2 : Nat → List (Nat × Obj) → Prop) (X : List Nat) (w1 : World) (N0 : List (Nat × Obj)) (hwl : ys.length ≤ 1000000) (w0 : World) (hst : St w0 X w1 ((r, LJ .ready none fnr lr ps as_ bo D) :: (D, .deferred (some [])) :: (b1, .cells [.slice a ys.length cap].toArray 22 (0, 0)) :: N0)) (hM : M ys.length N0) (hrow : ∀ k w N, M k N → St w0 X w ((r, LJ .ready none fnr lr ps as_ bo D) :: (D, .deferred (some [])) :: (b1, .cells [.slice a ys.length cap].toArray 22 (0, 0)) :: N) → RRow ceC w a ys) (hY : ∀ k y N w, ys[k]? = some y → M (k + 1) N → St w0 X w ((r, LJ .ready none fnr lr ps as_ bo D) :: (D, .deferred (some [])) :: (b1, .cells [.slice a ys.length cap].toArray 22 (0, 0)) :: N) → ∃ fn' tmps as' bo', (Instr.yield r [.int .i64 (k : Nat), .agg (ceC y).toArray].toArray).run Try.prog w = .ok (.round r fn' tmps as' bo') w ∧ RoundIn Fence.wide 0 Try.prog r fn' tmps as' bo' w fun e w' => (e = .returned (.bool true) ∧ ∃ N', M k N' ∧ St w0 X w' ((r, LJ .ready none fnr lr ps as_ bo D) :: (D, .deferred (some [])) :: (b1, .cells [.slice a ys.length cap].toArray 22 (0, 0)) :: N')) ∨ (e = .returned (.bool false) ∧ ∃ L', St w0 X w' ((r, LJ .done (some .ret) fnr lr ps as_ bo D) :: L') ∧ M2 k L')) :
  Calls Try.prog 48 #[.func (.yield r) #[] #[], .pointer (some ⟨b1, 0, none⟩)] w1 fun e w => ∃ v, e = .returned v ∧ (v = .tuple #[] ∧ ((∃ N, M 0 N ∧ St w0 X w ((r, LJ .ready none fnr lr ps as_ bo D) :: (D, .deferred (some [])) :: (b1, .cells [.slice a ys.length cap].toArray 22 (0, 0)) :: N)) ∨ ∃ k L', k < ys.length ∧ M2 k L' ∧ St w0 X w ((r, LJ .done (some .ret) fnr lr ps as_ bo D) :: L'))) := by
 have H := hst
 refine c_enter (args := [.func (.yield r) #[] #[], .pointer (some ⟨b1, 0, none⟩)]) (l := t10 (t9 [])) Try.func48 Try.ntmps48 rfl rfl ?_
 refine zq 19 ⟨rfl, rfl⟩ ?_
 refine zL qg22 (H.at 2 rfl) ?_
 refine s_val (r_lens qu22 (ec rfl en)) ?_
 refine zk ?_
 refine za ?_
 refine zc (t10 (t9 [])) ?_
 refine wp_block ?_
 refine c_loop (fun (l0 : List Value) (k : Nat) (l : List Value) (w : World) => ∃ (u7 u8 u9 u10 u11 u12 u13 u14 u15 u16 u17 u18 : Value) (N : List (Nat × Obj)), l = ovr l0 [N_, N_, N_, Y_ (.int .i64 ((k : Int) - 1)), N_, N_, N_, Y_ u7, Y_ u8, Y_ u9, Y_ u10, Y_ u11, Y_ u12, Y_ u13, Y_ u14, Y_ u15, Y_ u16, Y_ u17, Y_ u18] ∧ k ≤ ys.length ∧ M k N ∧ St w0 X w ((r, LJ .ready none fnr lr ps as_ bo D) :: (D, .deferred (some [])) :: (b1, .cells [.slice a ys.length cap].toArray 22 (0, 0)) :: N)) (fun (k : Nat) => k) ys.length ⟨_, _, _, _, _, _, _, _, _, _, _, _, N0, rfl, Nat.le_refl _, hM, H⟩ ?_
 intro k l w ⟨u7, u8, u9, u10, u11, u12, u13, u14, u15, u16, u17, u18, N, hl, hk, hM, H⟩
 obtain rfl := hl.trans (rfl : _ = t10 (t9 []))
 clear hl
 refine c_seq ?_
 refine zq 19 ⟨rfl, rfl⟩ ?_
 refine zm ?_
 refine s_val (r_geq rfl rfl) ?_
 refine zc (t10 (t9 [])) ?_
 refine c_if rfl (fun h8 => ?_) (fun h8 => ?_)
 ·obtain ⟨m, rfl⟩ : ∃ m, k = m + 1 := ⟨k - 1, by omega⟩
  obtain ⟨y, hx⟩ : ∃ y, ys[m]? = some y := ⟨_, List.getElem?_eq_getElem (by omega)⟩
  obtain ⟨bw, off, pre, post, T, fz, rfl, hbw, hpw⟩ := hrow _ w N hM H (by omega)
  obtain ⟨fn2, tm2, as2, bo2, hyr, hyR⟩ := hY m y N w hx hM H
  have em : ((m + 1 : Nat) : Int) - 1 = (m : Int) := by omega
  rw [← em] at hyr
  refine wp_skip ?_
  refine x_thenNormal ?_
  refine c_seq ?_
  refine wp_block ?_
  refine c_seq ?_
  refine c_yieldK 6 (n := 19) ⟨rfl, rfl⟩ rfl rfl ?_ (by rintro ⟨_,_,_, h, _⟩; cases h)
  refine zm ?_
  refine zm ?_
  refine zL qg22 (H.at 2 rfl) ?_
  refine zm ?_
  refine s_val (ziS qu22 qs43) ?_
  refine s_val (r_loadn qg43 qs43 rfl hbw (row_td elCe pre post hpw hx (by omega)) (ceC_length _)) ?_
  refine zb (t10 (t9 [])) ?_
  refine ⟨rfl, rfl, rfl, (fun _ h => nomatch h), r, _, _, _, _, r_yieldL2 rfl rfl rfl hyr, hyR.mono ?_⟩
  rintro e w (⟨rfl, N1, hM1, H⟩ | ⟨rfl, L2, H, hM2⟩)
  ·refine ⟨_, rfl, wl_put (n := 19) ⟨rfl, rfl⟩ ?_⟩
   refine s_val (r_not rfl) ?_
   refine zc (t10 (t9 [])) ?_
   refine c_iff rfl ?_
   refine wp_skip ?_
   refine x_blockNormal ?_
   refine x_thenNormal ?_
   refine c_region (n := 19) ⟨rfl, rfl⟩ ?_
   refine zm ?_
   refine s_val (r_sub rfl rfl (wr (r := (m : Int) - 1))) ?_
   refine za ?_
   refine zb (t10 (t9 [])) ?_
   exact ⟨m, _, rfl, ⟨_, _, _, _, _, _, _, _, _, _, _, _, _, rfl, by omega, hM1, H⟩, by omega⟩
  ·refine ⟨_, rfl, wl_put (n := 19) ⟨rfl, rfl⟩ ?_⟩
   refine s_val (r_not rfl) ?_
   refine zc (t10 (t9 [])) ?_
   refine c_ift rfl ?_
   refine wp_ret (x_blockRet (x_thenRet (x_thenRet (x_blockRet ?_))))
   refine zw (res0 rfl) ?_
   exact ⟨rfl, .inr ⟨m, _, by omega, hM2, H⟩⟩
 ·obtain rfl : k = 0 := by omega
  refine wp_exit (x_thenExit (x_thenExit (x_blockHit ?_)))
  refine e_end (res0 rfl) ⟨_, rfl, ?_⟩
  exact ⟨rfl, .inl ⟨N, hM, H⟩⟩

end Go.Proofs.Ytobfnieebiakeaa

