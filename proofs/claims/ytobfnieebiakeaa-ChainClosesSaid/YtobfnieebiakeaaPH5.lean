import Derived.Test.YtobfnieebiakeaaPM
import Derived.Test.YtobfnieebiakeaaPH1
import Derived.Test.YtobfnieebiakeaaPB3
import Derived.Test.YtobfnieebiakeaaPE1
namespace Go.Proofs.Ytobfnieebiakeaa
open Go Go.Er

theorem small3 (a : Option Addr) (c : Nat) (cl : List Ce) (seed : Key) (ga : Option Addr) (gc : Nat) (ns : List Int) (w0 : World) (hq : CaW w0 a cl ga ns) :
  Calls Try.prog 10 #[.agg (caC a c cl seed ga gc ns).toArray] w0 fun e w => ∃ v, e = .returned v ∧ ((v = .int .i64 1 ∧ CaS cl ns ∧ St w0 [] w []) ∨ (v = .int .i64 0 ∧ St w0 [] w [])) :=
 (small_spec a c cl seed ga gc ns w0 hq).mono fun _ _ ⟨v, he, h, H⟩ => ⟨v, he, h.imp (fun h => ⟨h.1, h.2, H⟩) (fun h => ⟨h, H⟩)⟩

set_option maxHeartbeats 4000000 in
theorem nums_spec (a : Option Addr) (c : Nat) (b : Option Addr) (d : Nat) (xs ys : List Int) (hl : xs.length ≤ 1000000) (w0 : World) (hx : URow w0 a xs) (hy : URow w0 b ys) :
  Calls Try.prog 19 #[.slice a xs.length c, .slice b ys.length d] w0 fun e w => ∃ v, e = .returned v ∧ (v = .bool (decide (xs = ys)) ∧ St w0 [] w []) := by
 have H := St.refl w0
 refine c_enter (args := [.slice a xs.length c, .slice b ys.length d]) (l := t20 (t6 [])) Try.func19 Try.ntmps19 rfl rfl ?_
 refine zq 26 ⟨rfl, rfl⟩ ?_
 refine za ?_
 refine zc (t20 (t6 [])) ?_
 refine c_seq ?_
 refine zq 26 ⟨rfl, rfl⟩ ?_
 refine zm ?_
 refine s_val (r_lens qu25 (ec rfl en)) ?_
 refine zm ?_
 refine s_val (r_lens qu25 (ec rfl en)) ?_
 refine s_val (r_neq rfl rfl) ?_
 refine zc (t20 (t6 [])) ?_
 refine c_if rfl (fun h10 => ?_) (fun h10 => ?_)
 ·refine zq 26 ⟨rfl, rfl⟩ ?_
  refine za ?_
  refine zc (t20 (t6 [])) ?_
  refine wp_ret (x_thenRet ?_)
  refine zw (res1 rfl rfl) ?_
  exact ⟨by rw [decide_eq_false (fun e => h10 (by rw [e]))], H⟩
 ·have hxy : xs.length = ys.length := by omega
  refine wp_skip ?_
  refine x_thenNormal ?_
  refine c_seq ?_
  refine zq 26 ⟨rfl, rfl⟩ ?_
  refine zm ?_
  refine s_val (r_lens qu25 (ec rfl en)) ?_
  refine zm ?_
  refine zc (t20 (t6 [])) ?_
  refine wp_block ?_
  refine c_loop (fun (l0 : List Value) (i : Nat) (l : List Value) (w : World) => ∃ (u4 u5 u14 u15 u16 u17 u18 u19 u20 u21 u22 u23 u24 u25 : Value) , l = ovr l0 [N_, N_, N_, N_, Y_ u4, Y_ u5, N_, N_, N_, N_, N_, N_, N_, Y_ (.int .i64 i), Y_ u14, Y_ u15, Y_ u16, Y_ u17, Y_ u18, Y_ u19, Y_ u20, Y_ u21, Y_ u22, Y_ u23, Y_ u24, Y_ u25] ∧ i ≤ xs.length ∧ xs.take i = ys.take i ∧ St w0 [] w []) (fun (i : Nat) => xs.length - i) 0 ⟨_, _, _, _, _, _, _, _, _, _, _, _, _, _, rfl, Nat.zero_le _, rfl, H⟩ ?_
  intro i l w ⟨u4, u5, u14, u15, u16, u17, u18, u19, u20, u21, u22, u23, u24, u25, hl, hi, hE, H⟩
  obtain rfl := hl.trans (rfl : _ = t20 (t6 []))
  clear hl
  refine zq 26 ⟨rfl, rfl⟩ ?_
  refine s_val (r_lss rfl rfl) ?_
  refine zc (t20 (t6 [])) ?_
  refine c_seq ?_
  refine c_if rfl (fun h14 => ?_) (fun h14 => ?_)
  ·obtain ⟨bu, offu, preu, postu, Tu, fzu, hau, hbu, hpu⟩ := id hx (by omega)
   obtain ⟨bt, offt, pret, postt, Tt, fzt, hat, hbt, hpt⟩ := id hy (by omega)
   subst hau hat
   refine wp_skip ?_
   refine x_thenNormal ?_
   refine c_seq ?_
   refine wp_block ?_
   refine zq 26 ⟨rfl, rfl⟩ ?_
   refine zm ?_
   refine za ?_
   refine zc (t20 (t6 [])) ?_
   refine c_seq ?_
   refine d_begin (sz := 26) ⟨rfl, rfl⟩ (by kernel_rfl) H (H) rfl ?_
   intro w H
   refine zM 0 H ?_
   refine zM 1 H ?_
   refine zd 2 rfl (by kernel_rfl) (fun _ _ _ h => h) H (ziS qu25 qs28) rfl ?_
   refine zdh 3 rfl (by kernel_rfl) (fun _ _ _ h => h) H (fun HS => r_load1 qg28 rfl (HS.rd0 hbu) (u_get preu xs postu i hpu (by omega) (by omega))) rfl ?_
   refine zM 4 H ?_
   refine zM 5 H ?_
   refine zd 6 rfl (by kernel_rfl) (fun _ _ _ h => h) H (ziS qu25 qs28) rfl ?_
   refine zdh 7 rfl (by kernel_rfl) (fun _ _ _ h => h) H (fun HS => r_load1 qg28 rfl (HS.rd0 hbt) (u_get pret ys postt i hpt (by omega) (by omega))) rfl ?_
   refine zd 8 rfl (by kernel_rfl) (fun _ _ _ h => h) H (r_neq rfl rfl) rfl ?_
   refine zz (t20 (t6 [])) ?_
   refine x_thenNormal ?_
   refine c_if rfl (fun h24 => ?_) (fun h24 => ?_)
   ·refine zq 26 ⟨rfl, rfl⟩ ?_
    refine za ?_
    refine zc (t20 (t6 [])) ?_
    refine wp_ret (x_blockRet (x_thenRet (x_thenRet (x_blockRet (x_thenRet ?_)))))
    refine zw (res1 rfl rfl) ?_
    exact ⟨by rw [decide_eq_false (fun e => h24 (by rw [e]))], H⟩
   ·refine wp_skip ?_
    refine x_blockNormal ?_
    refine x_thenNormal ?_
    refine c_region (n := 26) ⟨rfl, rfl⟩ ?_
    refine zj ?_
    refine zm ?_
    refine zb (t20 (t6 [])) ?_
    exact ⟨i + 1, _, rfl, ⟨_, _, _, _, _, _, _, _, _, _, _, _, _, _, rfl, by omega, (take_eq hE (by omega) (by omega) (Decidable.not_not.1 h24)), H⟩, by omega⟩
  ·obtain rfl : i = xs.length := by omega
   have hfin : xs = ys := by rw [List.take_length, hxy, List.take_length] at hE; exact hE
   refine wp_exit (x_thenExit (x_thenExit (x_blockHit ?_)))
   refine x_thenNormal ?_
   refine zq 26 ⟨rfl, rfl⟩ ?_
   refine za ?_
   refine zc (t20 (t6 [])) ?_
   refine wp_ret ?_
   refine zw (res1 rfl rfl) ?_
   exact ⟨by rw [decide_eq_true hfin], H⟩

set_option maxHeartbeats 4000000 in
theorem closes_law (a : Option Addr) (c : Nat) (cl : List Ce) (seed : Key) (ga : Option Addr) (gc : Nat) (ns : List Int) (al : Option Addr) (capl : Nat) (ls : List Int) (w0 : World) (hq : CaW w0 a cl ga ns) (hls : URow w0 al ls) :
  Calls Try.prog 5 #[.agg (caC a c cl seed ga gc ns).toArray, .slice al ls.length capl] w0 fun e w => ∃ v, e = .returned v ∧ (v = .bool true ∧ St w0 [] w []) := by
 have H := St.refl w0
 refine c_enter (args := [.agg (caC a c cl seed ga gc ns).toArray, .slice al ls.length capl]) (l := t90 (t4 [])) Try.func5 Try.ntmps5 rfl rfl ?_
 refine zq 94 ⟨rfl, rfl⟩ ?_
 refine s_new (m_box (cs := (caC a c cl seed ga gc ns)) H rfl rfl) ?_
 intro w b2 H
 refine za ?_
 refine zc (t90 (t4 [])) ?_
 refine c_seq ?_
 refine zq 94 ⟨rfl, rfl⟩ ?_
 refine s_call (r_call Try.call9 en) (awake23_spec _) ?_
 rintro v w ⟨rfl, HC⟩
 replace H := H.quiet HC
 refine s_val (r_not rfl) ?_
 refine zc (t90 (t4 [])) ?_
 refine c_iff rfl ?_
 refine wp_skip ?_
 refine x_thenNormal ?_
 refine c_seq ?_
 refine zq 94 ⟨rfl, rfl⟩ ?_
 refine s_val (r_loadn Try.isAgg27 Try.sizeOf27 rfl (H.at 0 rfl) (caC_td _ _ _ _ _ _ _) (caC_length _ _ _ _ _ _ _)) ?_
 refine s_call (r_call Try.call10 (ec rfl en)) (small3 a c cl seed ga gc ns _ (hq.st (H.sub (List.nil_sublist _)))) ?_
 rintro v w (⟨rfl, hs, HC⟩ | ⟨rfl, HC⟩)
 ·replace H := H.quiet HC
  obtain ⟨hs1, hs2, hs3⟩ := id hs
  refine s_test (r_eql rfl rfl) (fun h20 => ?_) (fun h20 => ?_)
  ·exact absurd h20 (by decide)
  ·refine zm ?_
   refine zy ?_
   refine zm ?_
   refine zy ?_
   refine s_val (r_lens qu25 (ec rfl en)) ?_
   refine zy ?_
   refine s_test (r_gtr rfl rfl) (fun h24 => ?_) (fun h24 => ?_)
   ·refine zf ?_
    refine zc (t90 (t4 [])) ?_
    refine c_ift rfl ?_
    refine zq 94 ⟨rfl, rfl⟩ ?_
    refine za ?_
    refine zc (t90 (t4 [])) ?_
    refine wp_ret (x_thenRet ?_)
    refine zw (res1 rfl rfl) ?_
    exact ⟨rfl, (H.sub (List.nil_sublist _))⟩
   ·refine zf ?_
    refine zc (t90 (t4 [])) ?_
    refine c_iff rfl ?_
    refine wp_skip ?_
    refine x_thenNormal ?_
    refine zq 94 ⟨rfl, rfl⟩ ?_
    refine zR 0 qu27 Try.sizeOf22 ?_
    refine s_val (r_load1 qg22 rfl (H.at 0 rfl) (caC_cl _ _ _ _ _ _ _)) ?_
    refine s_call (r_call qc13 (ec rfl en)) (get_mk _ _ _ _) ?_
    rintro v w ⟨g1, rfl, HC⟩
    replace H : St w0 [] w (_ :: []) := (H.call0 HC).sub (.cons_cons _ (List.nil_sublist _))
    refine za ?_
    refine zc (t90 (t4 [])) ?_
    refine zq 94 ⟨rfl, rfl⟩ ?_
    refine zm ?_
    refine zm ?_
    refine s_call (r_call Try.call17 (ec rfl (ec rfl en))) (close_get g1 cl al capl ls (by omega) (fun y hy => by have := hs3 y hy; omega) (by omega) _ (hq.get H (H.own (g1, Obj.cells [.slice a cl.length c].toArray 22 (0, 0)) (by simp))) (hls.st (H.sub (List.nil_sublist _)))) ?_
    rintro v w ⟨os, a31, c31, N31, hri, hm, rfl, hN31, HC⟩
    replace H : St w0 [] w (N31 ++ [(g1, Obj.cells [.slice a cl.length c].toArray 22 (0, 0))]) := H.call0 HC
    have hol : os.length ≤ 32 := by
     have h := clM_len (nd := (needF (findP (cl.map ceP)) 4)) (rise_nodup hri) (fun x hx => (hm x).1 hx) (fun n x h => need_ref 4 n x h)
     rw [List.length_map] at h; omega
    refine za ?_
    refine zc (t90 (t4 [])) ?_
    refine zq 94 ⟨rfl, rfl⟩ ?_
    refine s_new (m_makeMap H) ?_
    intro w b32 H
    refine za ?_
    refine zc (t90 (t4 [])) ?_
    refine c_seq ?_
    refine zq 94 ⟨rfl, rfl⟩ ?_
    refine zm ?_
    refine s_val (r_lens qu25 (ec rfl en)) ?_
    refine zm ?_
    refine zc (t90 (t4 [])) ?_
    refine wp_block ?_
    refine c_loop (fun (l0 : List Value) (i : Nat) (l : List Value) (w : World) => ∃ (u4 u8 u9 u36 u37 u38 u39 u40 u41 u42 u43 u44 u45 u46 u47 u48 u49 u50 u51 u52 u53 : Value) (ks : List Int), l = ovr l0 [N_, N_, N_, N_, Y_ u4, N_, N_, N_, Y_ u8, Y_ u9, N_, N_, N_, N_, N_, N_, N_, N_, N_, N_, N_, N_, N_, N_, N_, N_, N_, N_, N_, N_, N_, N_, N_, N_, N_, Y_ (.int .i64 i), Y_ u36, Y_ u37, Y_ u38, Y_ u39, Y_ u40, Y_ u41, Y_ u42, Y_ u43, Y_ u44, Y_ u45, Y_ u46, Y_ u47, Y_ u48, Y_ u49, Y_ u50, Y_ u51, Y_ u52, Y_ u53] ∧ i ≤ os.length ∧ (∀ x, x ∈ ks ↔ x ∈ os.take i) ∧ St w0 [] w ((b32, mapO ks) :: N31 ++ [(g1, Obj.cells [.slice a cl.length c].toArray 22 (0, 0))])) (fun (i : Nat) => os.length - i) 0 ⟨_, _, _, _, _, _, _, _, _, _, _, _, _, _, _, _, _, _, _, _, _, [], rfl, Nat.zero_le _, (fun x => ⟨fun h => (nomatch h), fun h => (nomatch h)⟩), H⟩ ?_
    intro i l w ⟨u4, u8, u9, u36, u37, u38, u39, u40, u41, u42, u43, u44, u45, u46, u47, u48, u49, u50, u51, u52, u53, ks, hl, hi, hks, H⟩
    obtain rfl := hl.trans (rfl : _ = t90 (t4 []))
    clear hl
    refine zq 94 ⟨rfl, rfl⟩ ?_
    refine s_val (r_lss rfl rfl) ?_
    refine zc (t90 (t4 [])) ?_
    refine c_seq ?_
    refine c_if rfl (fun h36 => ?_) (fun h36 => ?_)
    ·obtain ⟨bz, spz, hab, hcz, hNE, hcz2⟩ := RowN.some hN31 (by omega)
     subst hab
     refine wp_skip ?_
     refine x_thenNormal ?_
     refine c_seq ?_
     refine wp_block ?_
     refine zq 94 ⟨rfl, rfl⟩ ?_
     refine zm ?_
     refine s_val (ziS qu25 qs28) ?_
     refine s_val (r_load1 qg28 rfl (H.own (bz, Obj.cells (uC os ++ spz).toArray 28 (0, 0)) (by simp [hNE])) (u_get0 (i := i) (by omega) (by omega))) ?_
     refine za ?_
     refine za ?_
     refine zc (t90 (t4 [])) ?_
     refine c_seq ?_
     refine zq 94 ⟨rfl, rfl⟩ ?_
     refine zm ?_
     refine s_test (r_gtr rfl rfl) (fun h41 => ?_) (fun h41 => ?_)
     ·refine zm ?_
      refine zy ?_
      refine zm ?_
      refine zy ?_
      refine zm ?_
      refine zy ?_
      refine s_val (r_sub rfl rfl (wr (r := ((i - 1 : Nat) : Int)))) ?_
      refine zy ?_
      refine s_val (ziS qu25 qs28) ?_
      refine zy ?_
      refine s_val (r_load1 qg28 rfl (H.own (bz, Obj.cells (uC os ++ spz).toArray 28 (0, 0)) (by simp [hNE])) (u_get0 (i := i - 1) (by omega) (by omega))) ?_
      refine zy ?_
      refine zm ?_
      refine zy ?_
      refine s_test (r_geq rfl rfl) (fun h49 => ?_) (fun h49 => ?_)
      ·have := rise_get hri (i := i - 1) (j := i) (by omega) (by omega); omega
      ·refine zv ?_
       refine zc (t90 (t4 [])) ?_
       refine c_iff rfl ?_
       refine wp_skip ?_
       refine x_thenNormal ?_
       refine c_region (n := 94) ⟨rfl, rfl⟩ ?_
       refine zm ?_
       refine zm ?_
       refine s_st (m_mapUpdate H 0 qu56 qu28 rfl rfl rfl rfl) (L' := (_ :: _)) rfl ?_
       intro w H
       refine zb (t90 (t4 [])) ?_
       refine x_blockNormal ?_
       refine x_thenNormal ?_
       refine c_region (n := 94) ⟨rfl, rfl⟩ ?_
       refine zj ?_
       refine zm ?_
       refine zb (t90 (t4 [])) ?_
       exact ⟨i + 1, _, rfl, ⟨_, _, _, _, _, _, _, _, _, _, _, _, _, _, _, _, _, _, _, _, _, (ins ks (os.getD i 0)), rfl, by omega, (ins_take hks (by omega)), H⟩, by omega⟩
     ·refine zm ?_
      refine zg ?_
      refine zg ?_
      refine zg ?_
      refine zg ?_
      refine zg ?_
      refine zg ?_
      refine zg ?_
      refine zf ?_
      refine zc (t90 (t4 [])) ?_
      refine c_iff rfl ?_
      refine wp_skip ?_
      refine x_thenNormal ?_
      refine c_region (n := 94) ⟨rfl, rfl⟩ ?_
      refine zm ?_
      refine zm ?_
      refine s_st (m_mapUpdate H 0 qu56 qu28 rfl rfl rfl rfl) (L' := (_ :: _)) rfl ?_
      intro w H
      refine zb (t90 (t4 [])) ?_
      refine x_blockNormal ?_
      refine x_thenNormal ?_
      refine c_region (n := 94) ⟨rfl, rfl⟩ ?_
      refine zj ?_
      refine zm ?_
      refine zb (t90 (t4 [])) ?_
      exact ⟨i + 1, _, rfl, ⟨_, _, _, _, _, _, _, _, _, _, _, _, _, _, _, _, _, _, _, _, _, (ins ks (os.getD i 0)), rfl, by omega, (ins_take hks (by omega)), H⟩, by omega⟩
    ·obtain rfl : i = os.length := by omega
     rw [List.take_length] at hks
     refine wp_exit (x_thenExit (x_thenExit (x_blockHit ?_)))
     refine x_thenNormal ?_
     refine c_seq ?_
     refine zq 94 ⟨rfl, rfl⟩ ?_
     refine zm ?_
     refine s_val (r_lens qu25 (ec rfl en)) ?_
     refine zm ?_
     refine zc (t90 (t4 [])) ?_
     refine wp_block ?_
     have hkk := hks
     refine c_loop (fun (l0 : List Value) (j : Nat) (l : List Value) (w : World) => ∃ (u4 u11 u13 u57 u58 u59 u60 u61 u62 u63 u64 u65 u66 u67 u68 u69 u70 u71 u72 u73 u74 u75 u76 u77 : Value) , l = ovr l0 [N_, N_, N_, N_, Y_ u4, N_, N_, N_, N_, N_, N_, Y_ u11, N_, Y_ u13, N_, N_, N_, N_, N_, N_, N_, N_, N_, N_, N_, N_, N_, N_, N_, N_, N_, N_, N_, N_, N_, N_, N_, N_, N_, N_, N_, N_, N_, N_, N_, N_, N_, N_, N_, N_, N_, N_, N_, N_, N_, N_, Y_ (.int .i64 j), Y_ u57, Y_ u58, Y_ u59, Y_ u60, Y_ u61, Y_ u62, Y_ u63, Y_ u64, Y_ u65, Y_ u66, Y_ u67, Y_ u68, Y_ u69, Y_ u70, Y_ u71, Y_ u72, Y_ u73, Y_ u74, Y_ u75, Y_ u76, Y_ u77] ∧ j ≤ ls.length ∧ St w0 [] w ((b32, mapO ks) :: N31 ++ [(g1, Obj.cells [.slice a cl.length c].toArray 22 (0, 0))])) (fun (j : Nat) => ls.length - j) 0 ⟨_, _, _, _, _, _, _, _, _, _, _, _, _, _, _, _, _, _, _, _, _, _, _, _, rfl, Nat.zero_le _, H⟩ ?_
     intro j l w ⟨u4, u11, u13, u57, u58, u59, u60, u61, u62, u63, u64, u65, u66, u67, u68, u69, u70, u71, u72, u73, u74, u75, u76, u77, hl, hj, H⟩
     obtain rfl := hl.trans (rfl : _ = t90 (t4 []))
     clear hl
     refine zq 94 ⟨rfl, rfl⟩ ?_
     refine s_val (r_lss rfl rfl) ?_
     refine zc (t90 (t4 [])) ?_
     refine c_seq ?_
     refine c_if rfl (fun h57 => ?_) (fun h57 => ?_)
     ·obtain ⟨bu, offu, preu, postu, Tu, fzu, hau, hbu, hpu⟩ := id hls (by omega)
      subst hau
      refine wp_skip ?_
      refine x_thenNormal ?_
      refine c_seq ?_
      refine wp_block ?_
      refine zq 94 ⟨rfl, rfl⟩ ?_
      refine s_val (ziS qu25 qs28) ?_
      refine s_val (r_load1 qg28 rfl (H.rd0 hbu) (u_get preu ls postu j hpu (by omega) (by omega))) ?_
      refine za ?_
      refine zc (t90 (t4 [])) ?_
      refine c_seq ?_
      refine zq 94 ⟨rfl, rfl⟩ ?_
      obtain ⟨n, hn⟩ : ∃ n, n = ls.getD j 0 := ⟨_, rfl⟩
      rw [← hn]
      have hin : ∀ x, x = n ∨ x ∈ (needF (findP (cl.map ceP)) 4) n → x ∈ ks := fun x h => (hkk x).2 ((hm x).2 ⟨n, by rw [hn]; exact getD_in (by omega), h⟩)
      refine zm ?_
      refine zm ?_
      refine s_val (r_lookupY (hin n (.inl rfl)) qu56 qu28 Try.zeroValue4 rfl rfl (H.at 0 rfl)) ?_
      refine s_val (r_not rfl) ?_
      refine zc (t90 (t4 [])) ?_
      refine c_iff rfl ?_
      refine wp_skip ?_
      refine x_thenNormal ?_
      refine zq 94 ⟨rfl, rfl⟩ ?_
      refine zm ?_
      refine zm ?_
      refine s_call (r_call qc12 (ec rfl (ec rfl en))) (needs_spec g1 cl n (by omega) (fun y hy => by have := hs3 y hy; omega) _ (hq.get H (H.own (g1, Obj.cells [.slice a cl.length c].toArray 22 (0, 0)) (by simp)))) ?_
      rintro v w ⟨a66, c66, N66, rfl, hN66, HC⟩
      replace H : St w0 [] w (_ :: (N66 ++ (N31 ++ [(g1, Obj.cells [.slice a cl.length c].toArray 22 (0, 0))]))) := (H.call0 HC).perm (List.perm_append_comm_assoc [_] N66 _)
      obtain ⟨ms, hms⟩ : ∃ z, z = (needF (findP (cl.map ceP)) 4) n := ⟨_, rfl⟩
      have hm4 : ms.length ≤ 4 := by rw [hms]; exact need_len 4 n
      rw [← hms] at hN66 ⊢
      refine s_val (r_lens qu25 (ec rfl en)) ?_
      refine zm ?_
      refine zc (t90 (t4 [])) ?_
      refine wp_block ?_
      refine c_loop (fun (l0 : List Value) (q : Nat) (l : List Value) (w : World) => ∃ (u4 u13 u69 u70 u71 u72 u73 u74 u75 u76 : Value) , l = ovr l0 [N_, N_, N_, N_, Y_ u4, N_, N_, N_, N_, N_, N_, N_, N_, Y_ u13, N_, N_, N_, N_, N_, N_, N_, N_, N_, N_, N_, N_, N_, N_, N_, N_, N_, N_, N_, N_, N_, N_, N_, N_, N_, N_, N_, N_, N_, N_, N_, N_, N_, N_, N_, N_, N_, N_, N_, N_, N_, N_, N_, N_, N_, N_, N_, N_, N_, N_, N_, N_, N_, N_, Y_ (.int .i64 q), Y_ u69, Y_ u70, Y_ u71, Y_ u72, Y_ u73, Y_ u74, Y_ u75, Y_ u76] ∧ q ≤ ms.length ∧ St w0 [] w ((b32, mapO ks) :: N66 ++ (N31 ++ [(g1, Obj.cells [.slice a cl.length c].toArray 22 (0, 0))]))) (fun (q : Nat) => ms.length - q) 0 ⟨_, _, _, _, _, _, _, _, _, _, rfl, Nat.zero_le _, H⟩ ?_
      intro q l w ⟨u4, u13, u69, u70, u71, u72, u73, u74, u75, u76, hl, hqq, H⟩
      obtain rfl := hl.trans (rfl : _ = t90 (t4 []))
      clear hl
      refine zq 94 ⟨rfl, rfl⟩ ?_
      refine s_val (r_lss rfl rfl) ?_
      refine zc (t90 (t4 [])) ?_
      refine c_seq ?_
      refine c_if rfl (fun h69 => ?_) (fun h69 => ?_)
      ·obtain ⟨by_, spy, hay, hcy, hNY, hcy2⟩ := RowN.some hN66 (by omega)
       subst hay
       have hmq : ms.getD q 0 ∈ (needF (findP (cl.map ceP)) 4) n := by rw [← hms]; exact getD_in (by omega)
       refine wp_skip ?_
       refine x_thenNormal ?_
       refine c_seq ?_
       refine wp_block ?_
       refine zq 94 ⟨rfl, rfl⟩ ?_
       refine s_val (ziS qu25 qs28) ?_
       refine s_val (r_load1 qg28 rfl (H.own (by_, Obj.cells (uC ms ++ spy).toArray 28 (0, 0)) (by simp [hNY])) (u_get0 (i := q) (by omega) (by omega))) ?_
       refine za ?_
       refine zc (t90 (t4 [])) ?_
       refine zq 94 ⟨rfl, rfl⟩ ?_
       refine zm ?_
       refine zm ?_
       refine s_val (r_lookupY (hin _ (.inr hmq)) qu56 qu28 Try.zeroValue4 rfl rfl (H.at 0 rfl)) ?_
       refine s_val (r_not rfl) ?_
       refine zc (t90 (t4 [])) ?_
       refine c_iff rfl ?_
       refine wp_skip ?_
       refine x_blockNormal ?_
       refine x_thenNormal ?_
       refine c_region (n := 94) ⟨rfl, rfl⟩ ?_
       refine zj ?_
       refine zm ?_
       refine zb (t90 (t4 [])) ?_
       exact ⟨q + 1, _, rfl, ⟨_, _, _, _, _, _, _, _, _, _, rfl, by omega, H⟩, by omega⟩
      ·refine wp_exit (x_thenExit (x_thenExit (x_blockHit ?_)))
       refine x_blockNormal ?_
       refine x_thenNormal ?_
       refine c_region (n := 94) ⟨rfl, rfl⟩ ?_
       refine zj ?_
       refine zm ?_
       refine zb (t90 (t4 [])) ?_
       exact ⟨j + 1, _, rfl, ⟨_, _, _, _, _, _, _, _, _, _, _, _, _, _, _, _, _, _, _, _, _, _, _, _, rfl, by omega, (H.sub (.cons_cons _ (List.sublist_append_right _ _)))⟩, by omega⟩
     ·refine wp_exit (x_thenExit (x_thenExit (x_blockHit ?_)))
      refine x_thenNormal ?_
      refine c_seq ?_
      refine zq 94 ⟨rfl, rfl⟩ ?_
      refine zm ?_
      refine s_val (r_lens qu25 (ec rfl en)) ?_
      refine zm ?_
      refine zc (t90 (t4 [])) ?_
      refine wp_block ?_
      refine c_loop (fun (l0 : List Value) (m : Nat) (l : List Value) (w : World) => ∃ (u4 u15 u81 u82 u83 u84 u85 u86 u87 u88 : Value) , l = ovr l0 [N_, N_, N_, N_, Y_ u4, N_, N_, N_, N_, N_, N_, N_, N_, N_, N_, Y_ u15, N_, N_, N_, N_, N_, N_, N_, N_, N_, N_, N_, N_, N_, N_, N_, N_, N_, N_, N_, N_, N_, N_, N_, N_, N_, N_, N_, N_, N_, N_, N_, N_, N_, N_, N_, N_, N_, N_, N_, N_, N_, N_, N_, N_, N_, N_, N_, N_, N_, N_, N_, N_, N_, N_, N_, N_, N_, N_, N_, N_, N_, N_, N_, N_, Y_ (.int .i64 m), Y_ u81, Y_ u82, Y_ u83, Y_ u84, Y_ u85, Y_ u86, Y_ u87, Y_ u88] ∧ m ≤ ls.length ∧ (∀ n ∈ ls.take m, ((needF (findP (cl.map ceP)) 4) n).length < 4) ∧ St w0 [] w ((b32, mapO ks) :: N31 ++ [(g1, Obj.cells [.slice a cl.length c].toArray 22 (0, 0))])) (fun (m : Nat) => ls.length - m) 0 ⟨_, _, _, _, _, _, _, _, _, _, rfl, Nat.zero_le _, (fun _ h => nomatch h), H⟩ ?_
      intro m l w ⟨u4, u15, u81, u82, u83, u84, u85, u86, u87, u88, hl, hmm, hdp, H⟩
      obtain rfl := hl.trans (rfl : _ = t90 (t4 []))
      clear hl
      refine zq 94 ⟨rfl, rfl⟩ ?_
      refine s_val (r_lss rfl rfl) ?_
      refine zc (t90 (t4 [])) ?_
      refine c_seq ?_
      refine c_if rfl (fun h81 => ?_) (fun h81 => ?_)
      ·obtain ⟨bu, offu, preu, postu, Tu, fzu, hau, hbu, hpu⟩ := id hls (by omega)
       subst hau
       refine wp_skip ?_
       refine x_thenNormal ?_
       refine c_seq ?_
       refine wp_block ?_
       refine zq 94 ⟨rfl, rfl⟩ ?_
       refine s_val (ziS qu25 qs28) ?_
       refine s_val (r_load1 qg28 rfl (H.rd0 hbu) (u_get preu ls postu m hpu (by omega) (by omega))) ?_
       refine za ?_
       refine zc (t90 (t4 [])) ?_
       refine zq 94 ⟨rfl, rfl⟩ ?_
       refine zm ?_
       refine zm ?_
       refine s_call (r_call Try.call18 (ec rfl (ec rfl en))) (depth_spec g1 cl (ls.getD m 0) (by omega) (fun y hy => by have := hs3 y hy; omega) _ (hq.get H (H.own (g1, Obj.cells [.slice a cl.length c].toArray 22 (0, 0)) (by simp)))) ?_
       rintro v w ⟨rfl, HC⟩
       replace H := H.quiet HC
       refine s_val (r_geq rfl rfl) ?_
       refine zc (t90 (t4 [])) ?_
       refine c_if rfl (fun h87 => ?_) (fun h87 => ?_)
       ·refine zq 94 ⟨rfl, rfl⟩ ?_
        refine za ?_
        refine zc (t90 (t4 [])) ?_
        refine wp_ret (x_blockRet (x_thenRet (x_thenRet (x_blockRet (x_thenRet ?_)))))
        refine zw (res1 rfl rfl) ?_
        exact ⟨rfl, (H.sub (List.nil_sublist _))⟩
       ·refine wp_skip ?_
        refine x_blockNormal ?_
        refine x_thenNormal ?_
        refine c_region (n := 94) ⟨rfl, rfl⟩ ?_
        refine zj ?_
        refine zm ?_
        refine zb (t90 (t4 [])) ?_
        exact ⟨m + 1, _, rfl, ⟨_, _, _, _, _, _, _, _, _, _, rfl, by omega, (take_snoc hdp (by omega) (by omega)), H⟩, by omega⟩
      ·obtain rfl : m = ls.length := by omega
       rw [List.take_length] at hdp
       refine wp_exit (x_thenExit (x_thenExit (x_blockHit ?_)))
       refine x_thenNormal ?_
       refine zq 94 ⟨rfl, rfl⟩ ?_
       refine zm ?_
       refine zm ?_
       refine s_call (r_call Try.call17 (ec rfl (ec rfl en))) (close_get g1 cl a31 c31 os (by omega) (fun y hy => by have := hs3 y hy; omega) (by omega) _ (hq.get H (H.own (g1, Obj.cells [.slice a cl.length c].toArray 22 (0, 0)) (by simp))) (hN31.urowM H (fun p hp => by simp [hp]))) ?_
       rintro v w ⟨os2, a91, c91, N91, hri2, hm2, rfl, hN91, HC⟩
       replace H := H.call0 HC
       have hos : os2 = os := rise_uniq hri2 hri (fun x => (hm2 x).trans (close_twice hm hdp x))
       have hol2 := congrArg List.length hos
       refine zm ?_
       refine s_call (r_call Try.call19 (ec rfl (ec rfl en))) (nums_spec _ _ _ _ os2 os (by omega) _ (hN91.urowM H (fun p hp => by simp [hp])) (hN31.urowM H (fun p hp => by simp [hp]))) ?_
       rintro v w ⟨rfl, HC⟩
       replace H := H.quiet HC
       rw [decide_eq_true hos]
       refine za ?_
       refine zc (t90 (t4 [])) ?_
       refine wp_ret ?_
       refine zw (res1 rfl rfl) ?_
       exact ⟨rfl, (H.sub (List.nil_sublist _))⟩
 ·replace H := H.quiet HC
  refine s_test (r_eql rfl rfl) (fun h20 => ?_) (fun h20 => ?_)
  ·refine zm ?_
   refine zg ?_
   refine zg ?_
   refine zg ?_
   refine zv ?_
   refine zc (t90 (t4 [])) ?_
   refine c_ift rfl ?_
   refine zq 94 ⟨rfl, rfl⟩ ?_
   refine za ?_
   refine zc (t90 (t4 [])) ?_
   refine wp_ret (x_thenRet ?_)
   refine zw (res1 rfl rfl) ?_
   exact ⟨rfl, (H.sub (List.nil_sublist _))⟩
  ·exact absurd rfl h20

end Go.Proofs.Ytobfnieebiakeaa

