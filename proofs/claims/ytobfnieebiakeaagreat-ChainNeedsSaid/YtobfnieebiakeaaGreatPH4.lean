import Derived.Test.YtobfnieebiakeaaGreatPM
import Derived.Test.YtobfnieebiakeaaGreatPH2
import Derived.Test.YtobfnieebiakeaaGreatPH3
import Derived.Test.YtobfnieebiakeaaGreatPB3
import Derived.Test.YtobfnieebiakeaaGreatPE1
namespace Go.Proofs.YtobfnieebiakeaaGreat
open Go Go.Er

theorem small3 (a : Option Addr) (c : Nat) (cl : List Ce) (seed : Key) (ga : Option Addr) (gc : Nat) (ns : List Int) (w0 : World) (hq : CaW w0 a cl ga ns) :
  Calls Tryz.prog 6 #[.agg (caC a c cl seed ga gc ns).toArray] w0 fun e w => ∃ v, e = .returned v ∧ ((v = .int .i64 1 ∧ CaS cl ns ∧ St w0 [] w []) ∨ (v = .int .i64 0 ∧ St w0 [] w [])) :=
 (small_spec a c cl seed ga gc ns w0 hq).mono fun _ _ ⟨v, he, h, H⟩ => ⟨v, he, h.imp (fun h => ⟨h.1, h.2, H⟩) (fun h => ⟨h, H⟩)⟩

set_option maxHeartbeats 4000000 in
theorem needs_law (a : Option Addr) (c : Nat) (cl : List Ce) (seed : Key) (ga : Option Addr) (gc : Nat) (ns : List Int) (num : Int) (al : Option Addr) (capl : Nat) (ls : List Int) (w0 : World) (hq : CaW w0 a cl ga ns) (hls : URow w0 al ls) :
  Calls Tryz.prog 4 #[.agg (caC a c cl seed ga gc ns).toArray, .int .u64 num, .slice al ls.length capl] w0 fun e w => ∃ v, e = .returned v ∧ (v = .bool true ∧ St w0 [] w []) := by
 have H := St.refl w0
 refine c_enter (args := [.agg (caC a c cl seed ga gc ns).toArray, .int .u64 num, .slice al ls.length capl]) (l := t80 []) Tryz.func4 Tryz.ntmps4 rfl rfl ?_
 refine zq 80 ⟨rfl, rfl⟩ ?_
 refine s_new (m_box (cs := (caC a c cl seed ga gc ns)) H rfl rfl) ?_
 intro w b3 H
 refine za ?_
 refine zc (t80 []) ?_
 refine c_seq ?_
 refine zq 80 ⟨rfl, rfl⟩ ?_
 refine s_call (r_call Tryz.call5 en) (awake23_spec _) ?_
 rintro v w ⟨rfl, HC⟩
 replace H := H.quiet HC
 refine s_val (r_not rfl) ?_
 refine zc (t80 []) ?_
 refine c_iff rfl ?_
 refine wp_skip ?_
 refine x_thenNormal ?_
 refine c_seq ?_
 refine zq 80 ⟨rfl, rfl⟩ ?_
 refine s_val (r_loadn Tryz.isAgg27 Tryz.sizeOf27 rfl (H.at 0 rfl) (caC_td _ _ _ _ _ _ _) (caC_length _ _ _ _ _ _ _)) ?_
 refine s_call (r_call Tryz.call6 (ec rfl en)) (small3 a c cl seed ga gc ns _ (hq.st (H.sub (List.nil_sublist _)))) ?_
 rintro v w (⟨rfl, hs, HC⟩ | ⟨rfl, HC⟩)
 ·replace H := H.quiet HC
  obtain ⟨hs1, hs2, hs3⟩ := id hs
  refine s_test (r_eql rfl rfl) (fun h14 => ?_) (fun h14 => ?_)
  ·exact absurd h14 (by decide)
  ·refine zm ?_
   refine zy ?_
   refine zm ?_
   refine zy ?_
   refine s_val (r_lens qu25 (ec rfl en)) ?_
   refine zy ?_
   refine s_test (r_gtr rfl rfl) (fun h18 => ?_) (fun h18 => ?_)
   ·refine zf ?_
    refine zc (t80 []) ?_
    refine c_ift rfl ?_
    refine zq 80 ⟨rfl, rfl⟩ ?_
    refine za ?_
    refine zc (t80 []) ?_
    refine wp_ret (x_thenRet ?_)
    refine zw (res1 rfl rfl) ?_
    exact ⟨rfl, (H.sub (List.nil_sublist _))⟩
   ·refine zf ?_
    refine zc (t80 []) ?_
    refine c_iff rfl ?_
    refine wp_skip ?_
    refine x_thenNormal ?_
    refine zq 80 ⟨rfl, rfl⟩ ?_
    refine s_new (m_bslice0 H qu25 qs28) ?_
    intro w b20 H
    refine zm ?_
    replace H := St.mvEnd (A := []) H
    refine s_any (m_append_row0 (L1 := [_]) (N := [_]) H (RowN.mk (cs := []) (sp := []) rfl (Nat.le_refl _) (Nat.le_refl _)) qu25 qu25 (fun _ h => nomatch h) qs28 qo28 rfl Tryz.typeInfo28 (by rw [bytes28]; omega) (by rw [bytes28]; omega) (ec rfl (ec rfl en)) ((hls.st (H.sub (List.nil_sublist _))).src _)) ?_
    rintro v w ⟨a5, c5, N5, rfl, hN5, H⟩
    replace H : St w0 [] w (_ :: N5) := H
    rw [Nat.zero_add] at hN5 ⊢
    replace hN5 : RowN 1 28 (uC ls) ls.length a5 c5 N5 := hN5
    refine za ?_
    refine zc (t80 []) ?_
    refine zq 80 ⟨rfl, rfl⟩ ?_
    refine zR 0 qu27 qs22 ?_
    refine s_val (r_load1 qg22 rfl (H.own (b3, Obj.cells (caC a c cl seed ga gc ns).toArray 27 (0, 0)) (by simp)) (caC_cl _ _ _ _ _ _ _)) ?_
    refine s_call (r_call qc9 (ec rfl en)) (get_mk _ _ _ _) ?_
    rintro v w ⟨g1, rfl, HC⟩
    replace H := H.call0 HC
    refine zm ?_
    refine s_call (r_call qc11 (ec rfl (ec rfl en))) (needs_spec g1 cl num (by omega) (fun y hy => by have := hs3 y hy; omega) _ (hq.get H (H.own (g1, Obj.cells [.slice a cl.length c].toArray 22 (0, 0)) (by simp)))) ?_
    rintro v w ⟨a27, c27, N27, rfl, hN27, HC⟩
    replace H := H.call0 HC
    refine za ?_
    refine zc (t80 []) ?_
    refine zq 80 ⟨rfl, rfl⟩ ?_
    refine zR 0 qu27 qs22 ?_
    refine s_val (r_load1 qg22 rfl (H.own (b3, Obj.cells (caC a c cl seed ga gc ns).toArray 27 (0, 0)) (by simp)) (caC_cl _ _ _ _ _ _ _)) ?_
    refine s_call (r_call qc9 (ec rfl en)) (get_mk _ _ _ _) ?_
    rintro v w ⟨g2, rfl, HC⟩
    replace H := H.call0 HC
    refine zm ?_
    refine s_call (r_call Tryz.call12 (ec rfl (ec rfl en))) (close_get g2 cl a5 c5 ls (by omega) (fun y hy => by have := hs3 y hy; omega) (by omega) _ (hq.get H (H.own (g2, Obj.cells [.slice a cl.length c].toArray 22 (0, 0)) (by simp))) (hN5.urowM H (fun p hp => by simp [hp]))) ?_
    rintro v w ⟨os32, a32, c32, N32, hri32, hm32, rfl, hN32, HC⟩
    replace H := H.call0 HC
    have hk32 : os32.length ≤ 200 := by
     have h := clM_len (nd := (needF (findP (cl.map ceP)) 4)) (rise_nodup hri32) (fun x hx => (hm32 x).1 hx) (fun n x h => need_ref 4 n x h)
     rw [List.length_map] at h; omega
    refine za ?_
    refine zc (t80 []) ?_
    refine zq 80 ⟨rfl, rfl⟩ ?_
    refine zm ?_
    refine zR 0 qu27 qs22 ?_
    refine s_val (r_load1 qg22 rfl (H.own (b3, Obj.cells (caC a c cl seed ga gc ns).toArray 27 (0, 0)) (by simp)) (caC_cl _ _ _ _ _ _ _)) ?_
    refine zm ?_
    refine s_call (r_call Tryz.call14 (ec rfl (ec rfl en))) (needs23_spec a c cl num (by omega) _ (hq.row.st (H.sub (List.nil_sublist _))) (fun y hy => (hq.body y hy).st (H.sub (List.nil_sublist _)))) ?_
    rintro v w ⟨a37, c37, N37, rfl, hN37, HC⟩
    replace H := H.call0 HC
    refine s_call (r_call qc13 (ec rfl (ec rfl en))) (nums_spec _ _ _ _ (needF (findP (cl.map ceP)) 4 num) (needF (findP (cl.map ceP)) 4 num) (by have := need_len (g := (findP (cl.map ceP))) 4 num; omega) _ (hN27.urowM H (fun p hp => by simp [hp])) (hN37.urowM H (fun p hp => by simp [hp]))) ?_
    rintro v w ⟨rfl, HC⟩
    replace H := H.quiet HC
    rw [decide_eq_true (rfl)]
    refine zm ?_
    refine zy ?_
    refine zR 0 qu27 qs22 ?_
    refine zy ?_
    refine s_val (r_load1 qg22 rfl (H.own (b3, Obj.cells (caC a c cl seed ga gc ns).toArray 27 (0, 0)) (by simp)) (caC_cl _ _ _ _ _ _ _)) ?_
    refine zy ?_
    refine s_call (r_call qc9 (ec rfl en)) (get_mk _ _ _ _) ?_
    rintro v w ⟨g3, rfl, HC⟩
    replace H := H.call0 HC
    refine zy ?_
    refine zm ?_
    refine zy ?_
    refine s_call (r_call Tryz.call15 (ec rfl (ec rfl en))) (depth_spec g3 cl num (by omega) (fun y hy => by have := hs3 y hy; omega) _ (hq.get H (H.own (g3, Obj.cells [.slice a cl.length c].toArray 22 (0, 0)) (by simp)))) ?_
    rintro v w ⟨rfl, HC⟩
    replace H := H.quiet HC
    refine zy ?_
    refine zm ?_
    refine zy ?_
    refine s_val (r_lens qu25 (ec rfl en)) ?_
    refine zy ?_
    refine s_test (r_eql rfl rfl) (fun h47 => ?_) (fun h47 => ?_)
    ·refine zv ?_
     refine zm ?_
     refine zy ?_
     refine zm ?_
     refine zy ?_
     refine zR 0 qu27 qs22 ?_
     refine zy ?_
     refine s_val (r_load1 qg22 rfl (H.own (b3, Obj.cells (caC a c cl seed ga gc ns).toArray 27 (0, 0)) (by simp)) (caC_cl _ _ _ _ _ _ _)) ?_
     refine zy ?_
     refine zm ?_
     refine zy ?_
     refine s_call (r_call Tryz.call16 (ec rfl (ec rfl en))) (close23_spec a c cl al capl ls (by omega) (by omega) _ (hq.row.st (H.sub (List.nil_sublist _))) (fun y hy => (hq.body y hy).st (H.sub (List.nil_sublist _))) (hls.st (H.sub (List.nil_sublist _)))) ?_
     rintro v w ⟨os54, a54, c54, N54, hri54, hm54, rfl, hN54, HC⟩
     replace H := H.call0 HC
     refine zy ?_
     refine s_call (r_call qc13 (ec rfl (ec rfl en))) (nums_spec _ _ _ _ os32 os54 (by omega) _ (hN32.urowM H (fun p hp => by simp [hp])) (hN54.urowM H (fun p hp => by simp [hp]))) ?_
     rintro v w ⟨rfl, HC⟩
     replace H := H.quiet HC
     rw [decide_eq_true (rise_uniq hri32 hri54 (fun x => (hm32 x).trans (hm54 x).symm))]
     refine zv ?_
     refine zm ?_
     refine zy ?_
     refine zm ?_
     refine zy ?_
     refine zm ?_
     refine zy ?_
     refine s_call (r_call qc13 (ec rfl (ec rfl en))) (nums_spec _ _ _ _ ls ls (by omega) _ (hN5.urowM H (fun p hp => by simp [hp])) (hls.st (H.sub (List.nil_sublist _)))) ?_
     rintro v w ⟨rfl, HC⟩
     replace H := H.quiet HC
     rw [decide_eq_true (rfl)]
     refine zv ?_
     refine zm ?_
     refine zy ?_
     refine zm ?_
     refine zy ?_
     refine s_call (r_call qc11 (ec rfl (ec rfl en))) (needs_nil num _) ?_
     rintro v w ⟨rfl, HC⟩
     replace H := H.quiet HC
     refine zy ?_
     refine s_val (r_lens qu25 (ec rfl en)) ?_
     refine zy ?_
     refine s_test (r_eql rfl rfl) (fun h66 => ?_) (fun h66 => ?_)
     ·refine zv ?_
      refine zm ?_
      refine zy ?_
      refine zm ?_
      refine zy ?_
      refine s_call (r_call Tryz.call12 (ec rfl (ec rfl en))) (close_nil al capl ls (by omega) _ (hls.st (H.sub (List.nil_sublist _)))) ?_
      rintro v w ⟨os70, a70, c70, N70, hri70, hm70, rfl, hN70, HC⟩
      replace H := H.call0 HC
      have hk70 : os70.length ≤ 200 := by
       have h := clM_len (nd := (fun _ => [])) (rise_nodup hri70) (fun x hx => (hm70 x).1 hx) (fun n x h => (nomatch h : x ∈ ([] : List Int)))
       have h2 : os70.length ≤ ls.length + 0 := h; omega
      refine zy ?_
      refine zm ?_
      refine zy ?_
      refine s_call (r_call Tryz.call17 (ec rfl en)) (sorted23_spec al capl ls (by omega) _ (hls.st (H.sub (List.nil_sublist _)))) ?_
      rintro v w ⟨os72, a72, c72, N72, hri72, hm72, rfl, hN72, HC⟩
      replace H := H.call0 HC
      refine zy ?_
      refine s_call (r_call qc13 (ec rfl (ec rfl en))) (nums_spec _ _ _ _ os70 os72 (by omega) _ (hN70.urowM H (fun p hp => by simp [hp])) (hN72.urowM H (fun p hp => by simp [hp]))) ?_
      rintro v w ⟨rfl, HC⟩
      replace H := H.quiet HC
      rw [decide_eq_true (rise_uniq hri70 hri72 (fun x => ((hm70 x).trans clM_none).trans (hm72 x).symm))]
      refine zv ?_
      refine zm ?_
      refine zy ?_
      refine zm ?_
      refine zy ?_
      refine s_call (r_call Tryz.call15 (ec rfl (ec rfl en))) (depth_nil num _) ?_
      rintro v w ⟨rfl, HC⟩
      replace H := H.quiet HC
      refine zy ?_
      refine s_test (r_eql rfl rfl) (fun h78 => ?_) (fun h78 => ?_)
      ·refine zv ?_
       refine za ?_
       refine zc (t80 []) ?_
       refine wp_ret ?_
       refine zw (res1 rfl rfl) ?_
       exact ⟨rfl, (H.sub (List.nil_sublist _))⟩
      ·exact absurd rfl h78
     ·exact absurd rfl h66
    ·exact absurd rfl h47
 ·replace H := H.quiet HC
  refine s_test (r_eql rfl rfl) (fun h14 => ?_) (fun h14 => ?_)
  ·refine zm ?_
   refine zg ?_
   refine zg ?_
   refine zg ?_
   refine zv ?_
   refine zc (t80 []) ?_
   refine c_ift rfl ?_
   refine zq 80 ⟨rfl, rfl⟩ ?_
   refine za ?_
   refine zc (t80 []) ?_
   refine wp_ret (x_thenRet ?_)
   refine zw (res1 rfl rfl) ?_
   exact ⟨rfl, (H.sub (List.nil_sublist _))⟩
  ·exact absurd rfl h14

end Go.Proofs.YtobfnieebiakeaaGreat

