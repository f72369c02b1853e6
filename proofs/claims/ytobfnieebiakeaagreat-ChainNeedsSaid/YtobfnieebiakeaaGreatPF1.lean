import Derived.Test.YtobfnieebiakeaaGreatPM
import Derived.Test.YtobfnieebiakeaaGreatPVx2
import Derived.Test.YtobfnieebiakeaaGreatPE1
namespace Go.Proofs.YtobfnieebiakeaaGreat
open Go Go.Er

set_option maxHeartbeats 4000000 in
theorem find23_spec (a : Option Addr) (c : Nat) (cl : List Ce) (n : Int) (hl : cl.length ≤ 1000000) (w0 : World) (hr : RRow ceC w0 a cl) :
  Calls Tryz.prog 38 #[.slice a cl.length c, .int .u64 n] w0 fun e w => ∃ v, e = .returned v ∧ ((∃ (i : Nat) (y : Ce), cl[i]? = some y ∧ findP (cl.map ceP) n = some (ceP y) ∧ v = .int .i64 (i : Nat) ∧ St w0 [] w []) ∨ (findP (cl.map ceP) n = none ∧ v = .int .i64 (-1) ∧ St w0 [] w [])) := by
 have H := St.refl w0
 refine c_enter (args := [.slice a cl.length c, .int .u64 n]) (l := t20 []) Tryz.func38 Tryz.ntmps38 rfl rfl ?_
 refine zq 20 ⟨rfl, rfl⟩ ?_
 refine za ?_
 refine zc (t20 []) ?_
 refine c_seq ?_
 refine zq 20 ⟨rfl, rfl⟩ ?_
 refine za ?_
 refine zc (t20 []) ?_
 refine wp_block ?_
 refine c_loop (fun (l0 : List Value) (i : Nat) (l : List Value) (w : World) => ∃ (u4 u6 u7 u8 u9 u10 u11 u12 u13 u14 u15 u16 u17 u18 u19 : Value) , l = ovr l0 [N_, N_, N_, N_, Y_ u4, Y_ (.int .i64 i), Y_ u6, Y_ u7, Y_ u8, Y_ u9, Y_ u10, Y_ u11, Y_ u12, Y_ u13, Y_ u14, Y_ u15, Y_ u16, Y_ u17, Y_ u18, Y_ u19] ∧ i ≤ cl.length ∧ (∀ x ∈ cl.take i, x.num ≠ n) ∧ St w0 [] w []) (fun (i : Nat) => cl.length - i) 0 ⟨_, _, _, _, _, _, _, _, _, _, _, _, _, _, _, rfl, Nat.zero_le _, (fun _ h => nomatch h), H⟩ ?_
 intro i l w ⟨u4, u6, u7, u8, u9, u10, u11, u12, u13, u14, u15, u16, u17, u18, u19, hl, hi, hno, H⟩
 obtain rfl := hl.trans (rfl : _ = t20 [])
 clear hl
 refine c_seq ?_
 refine zq 20 ⟨rfl, rfl⟩ ?_
 refine zm ?_
 refine zm ?_
 refine s_val (r_lens qu22 (ec rfl en)) ?_
 refine s_val (r_lss rfl rfl) ?_
 refine zc (t20 []) ?_
 refine c_if rfl (fun h9 => ?_) (fun h9 => ?_)
 ·obtain ⟨y, hx⟩ : ∃ y, cl[i]? = some y := ⟨_, List.getElem?_eq_getElem (by omega)⟩
  have hym := List.mem_of_getElem? hx
  obtain ⟨b0, off, pre, post, T0, fz0, rfl, hb0, hp0⟩ := hr (by omega)
  refine wp_skip ?_
  refine x_thenNormal ?_
  refine c_seq ?_
  refine wp_block ?_
  refine zq 20 ⟨rfl, rfl⟩ ?_
  refine zm ?_
  refine zm ?_
  refine s_val (ziS qu22 qs65) ?_
  refine zR 1 qu65 qs28 ?_
  refine s_val (r_load1 qg28 rfl (H.rd0 hb0) (ce_num0 hp0 hx (by omega))) ?_
  refine zm ?_
  refine s_val (r_eql rfl rfl) ?_
  refine zc (t20 []) ?_
  refine c_if rfl (fun h18 => ?_) (fun h18 => ?_)
  ·refine zq 20 ⟨rfl, rfl⟩ ?_
   refine zm ?_
   refine za ?_
   refine zc (t20 []) ?_
   refine wp_ret (x_blockRet (x_thenRet (x_thenRet (x_blockRet (x_thenRet ?_)))))
   refine zw (res1 rfl rfl) ?_
   exact .inl ⟨i, y, hx, (show _ = some (ceP y) from findP_take hno hx h18), rfl, H⟩
  ·refine wp_skip ?_
   refine x_blockNormal ?_
   refine x_thenNormal ?_
   refine c_region (n := 20) ⟨rfl, rfl⟩ ?_
   refine zm ?_
   refine zj ?_
   refine za ?_
   refine zb (t20 []) ?_
   exact ⟨i + 1, _, rfl, ⟨_,_,_,_,_,_,_,_,_,_,_,_,_,_,_, rfl, by omega, (by
     intro x hxm
     rw [List.take_add_one, hx] at hxm
     rcases List.mem_append.1 hxm with h | h
     ·exact hno x h
     ·rw [List.mem_singleton.1 h]; exact h18), H⟩, by omega⟩
 ·obtain rfl : i = cl.length := by omega
  rw [List.take_length] at hno
  refine wp_exit (x_thenExit (x_thenExit (x_blockHit ?_)))
  refine x_thenNormal ?_
  refine zq 20 ⟨rfl, rfl⟩ ?_
  refine za ?_
  refine zc (t20 []) ?_
  refine wp_ret ?_
  refine zw (res1 rfl rfl) ?_
  exact .inr ⟨findP_all hno, rfl, H⟩

end Go.Proofs.YtobfnieebiakeaaGreat

