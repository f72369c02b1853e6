import Derived.Test.YtobfnieebiakeaaPM
import Derived.Test.YtobfnieebiakeaaPB3
import Derived.Test.YtobfnieebiakeaaPVx2
namespace Go.Proofs.Ytobfnieebiakeaa
open Go Go.Er
set_option maxHeartbeats 4000000 in
theorem small_spec (a : Option Addr) (c : Nat) (cl : List Ce) (seed : Key) (ga : Option Addr) (gc : Nat) (ns : List Int) (w0 : World) (hq : CaW w0 a cl ga ns) :
  Calls Try.prog 10 #[.agg (caC a c cl seed ga gc ns).toArray] w0 fun e w => ∃ v, e = .returned v ∧ (((v = .int .i64 1 ∧ CaS cl ns) ∨ v = .int .i64 0) ∧ St w0 [] w []) := by
 have H := St.refl w0
 refine c_enter (args := [.agg (caC a c cl seed ga gc ns).toArray]) (l := t20 (t7 [])) Try.func10 Try.ntmps10 rfl rfl ?_
 refine zq 27 ⟨rfl, rfl⟩ ?_
 refine s_new (m_box (cs := (caC a c cl seed ga gc ns)) H rfl rfl) ?_
 intro w b1 H
 refine za ?_
 refine zc (t20 (t7 [])) ?_
 refine c_seq ?_
 refine zq 27 ⟨rfl, rfl⟩ ?_
 refine zR 0 qu27 Try.sizeOf22 ?_
 refine s_val (r_load1 qg22 rfl (H.at 0 rfl) (caC_cl _ _ _ _ _ _ _)) ?_
 refine s_val (r_lens qu22 (ec rfl en)) ?_
 refine s_test (r_gtr rfl rfl) (fun h8 => ?_) (fun h8 => ?_)
 ·refine zm ?_
  refine zg ?_
  refine zg ?_
  refine zg ?_
  refine zg ?_
  refine zv ?_
  refine zc (t20 (t7 [])) ?_
  refine c_ift rfl ?_
  refine zq 27 ⟨rfl, rfl⟩ ?_
  refine za ?_
  refine zc (t20 (t7 [])) ?_
  refine wp_ret (x_thenRet ?_)
  refine zw (res1 rfl rfl) ?_
  exact ⟨.inr rfl, (H.sub (List.nil_sublist _))⟩
 ·refine zm ?_
  refine zy ?_
  refine zR 33 qu27 Try.sizeOf25 ?_
  refine zy ?_
  refine s_val (r_load1 Try.isAgg25 rfl (H.at 0 rfl) (caC_ns _ _ _ _ _ _ _)) ?_
  refine zy ?_
  refine s_val (r_lens qu25 (ec rfl en)) ?_
  refine zy ?_
  refine s_test (r_gtr rfl rfl) (fun h13 => ?_) (fun h13 => ?_)
  ·refine zf ?_
   refine zc (t20 (t7 [])) ?_
   refine c_ift rfl ?_
   refine zq 27 ⟨rfl, rfl⟩ ?_
   refine za ?_
   refine zc (t20 (t7 [])) ?_
   refine wp_ret (x_thenRet ?_)
   refine zw (res1 rfl rfl) ?_
   exact ⟨.inr rfl, (H.sub (List.nil_sublist _))⟩
  ·refine zf ?_
   refine zc (t20 (t7 [])) ?_
   refine c_iff rfl ?_
   refine wp_skip ?_
   refine x_thenNormal ?_
   refine c_seq ?_
   refine zq 27 ⟨rfl, rfl⟩ ?_
   refine zR 0 qu27 Try.sizeOf22 ?_
   refine s_val (r_load1 qg22 rfl (H.at 0 rfl) (caC_cl _ _ _ _ _ _ _)) ?_
   refine s_val (r_lens qu22 (ec rfl en)) ?_
   refine zm ?_
   refine zc (t20 (t7 [])) ?_
   refine wp_block ?_
   refine c_loop (fun (l0 : List Value) (i : Nat) (l : List Value) (w : World) => ∃ (u2 u4 u19 u20 u21 u22 u23 u24 u25 u26 : Value) , l = ovr l0 [N_, N_, Y_ u2, N_, Y_ u4, N_, N_, N_, N_, N_, N_, N_, N_, N_, N_, N_, N_, N_, Y_ (.int .i64 i), Y_ u19, Y_ u20, Y_ u21, Y_ u22, Y_ u23, Y_ u24, Y_ u25, Y_ u26] ∧ i ≤ cl.length ∧ (∀ z ∈ cl.take i, z.body.b.length ≤ 100) ∧ St w0 [] w [(b1, .cells (caC a c cl seed ga gc ns).toArray 27 (0, 0))]) (fun (i : Nat) => cl.length - i) 0 ⟨_, _, _, _, _, _, _, _, _, _, rfl, Nat.zero_le _, (fun _ h => nomatch h), H⟩ ?_
   intro i l w ⟨u2, u4, u19, u20, u21, u22, u23, u24, u25, u26, hl, hi, hsm, H⟩
   obtain rfl := hl.trans (rfl : _ = t20 (t7 []))
   clear hl
   refine zq 27 ⟨rfl, rfl⟩ ?_
   refine s_val (r_lss rfl rfl) ?_
   refine zc (t20 (t7 [])) ?_
   refine c_seq ?_
   refine c_if rfl (fun h19 => ?_) (fun h19 => ?_)
   ·obtain ⟨y, hx⟩ : ∃ y, cl[i]? = some y := ⟨_, List.getElem?_eq_getElem (by omega)⟩
    have hym := List.mem_of_getElem? hx
    obtain ⟨b0, off, pre, post, T0, fz0, rfl, hb0, hp0⟩ := hq.row (by omega)
    refine wp_skip ?_
    refine x_thenNormal ?_
    refine c_seq ?_
    refine wp_block ?_
    refine zq 27 ⟨rfl, rfl⟩ ?_
    refine s_val (ziS qu22 qs43) ?_
    refine s_val (r_loadn qg43 qs43 rfl (H.rd0 hb0) (row_td elCe pre post hp0 hx (by omega)) (ceC_length _)) ?_
    refine s_new (zA (ceC ce0) H qo43) ?_
    intro w b4 H
    refine s_st (zs H 0 11 qs43) (L' := (_ :: _ :: _)) rfl ?_
    intro w H
    refine zc (t20 (t7 [])) ?_
    refine zq 27 ⟨rfl, rfl⟩ ?_
    refine zR 10 qu43 qs41 ?_
    refine s_val (r_load1 qg41 rfl (H.at 0 rfl) (rfl : _ = some (bdV y.body))) ?_
    refine s_val (r_lens qu41 (ec rfl en)) ?_
    refine s_val (r_gtr rfl rfl) ?_
    refine zc (t20 (t7 [])) ?_
    refine c_if rfl (fun h25 => ?_) (fun h25 => ?_)
    ·refine zq 27 ⟨rfl, rfl⟩ ?_
     refine za ?_
     refine zc (t20 (t7 [])) ?_
     refine wp_ret (x_blockRet (x_thenRet (x_thenRet (x_blockRet (x_thenRet ?_)))))
     refine zw (res1 rfl rfl) ?_
     exact ⟨.inr rfl, (H.sub (List.nil_sublist _))⟩
    ·refine wp_skip ?_
     refine x_blockNormal ?_
     refine x_thenNormal ?_
     refine c_region (n := 27) ⟨rfl, rfl⟩ ?_
     refine zj ?_
     refine zm ?_
     refine zb (t20 (t7 [])) ?_
     replace H := H.sub (.cons _ (.cons_cons _ (List.Sublist.refl _)))
     exact ⟨i + 1, _, rfl, ⟨_,_,_,_,_,_,_,_,_,_, rfl, by omega, (by
       intro z hz
       rw [List.take_add_one, hx] at hz
       rcases List.mem_append.1 hz with h | h
       ·exact hsm z h
       ·rw [List.mem_singleton.1 h]; omega), H⟩, by omega⟩
   ·obtain rfl : i = cl.length := by omega
    rw [List.take_length] at hsm
    refine wp_exit (x_thenExit (x_thenExit (x_blockHit ?_)))
    refine x_thenNormal ?_
    refine zq 27 ⟨rfl, rfl⟩ ?_
    refine za ?_
    refine zc (t20 (t7 [])) ?_
    refine wp_ret ?_
    refine zw (res1 rfl rfl) ?_
    exact ⟨.inl ⟨rfl, by omega, by omega, hsm⟩, (H.sub (List.nil_sublist _))⟩

end Go.Proofs.Ytobfnieebiakeaa

