import Derived.Test.YtobfnieebiakeaaGreatPM
import Derived.Test.YtobfnieebiakeaaGreatPV1
import Derived.Test.YtobfnieebiakeaaGreatPVx2
namespace Go.Proofs.YtobfnieebiakeaaGreat
open Go Go.Er

set_option maxHeartbeats 4000000 in
theorem minute_spec (n : Int) (w0 : World) :
  Calls Tryz.prog 61 #[.int .i64 n] w0 fun e w => ∃ v, e = .returned v ∧ (((inM n 1073741824) ∧ v = .bool true ∧ St w0 [] w []) ∨ (¬ (inM n 1073741824) ∧ v = .bool false ∧ St w0 [] w [])) := by
 have H := St.refl w0
 refine c_enter (args := [.int .i64 n]) (l := t9 []) Tryz.func61 Tryz.ntmps61 rfl rfl ?_
 refine zq 9 ⟨rfl, rfl⟩ ?_
 refine za ?_
 refine zc (t9 []) ?_
 refine zq 9 ⟨rfl, rfl⟩ ?_
 refine zm ?_
 refine s_test (r_geq rfl rfl) (fun h4 => ?_) (fun h4 => ?_)
 ·refine zm ?_
  refine zy ?_
  refine zm ?_
  refine zy ?_
  refine s_test (r_leq rfl rfl) (fun h7 => ?_) (fun h7 => ?_)
  ·refine zv ?_
   refine za ?_
   refine zc (t9 []) ?_
   refine wp_ret ?_
   refine zw (res1 rfl rfl) ?_
   exact .inl ⟨⟨h4, h7⟩, rfl, (H.sub (List.nil_sublist _))⟩
  ·refine zv ?_
   refine za ?_
   refine zc (t9 []) ?_
   refine wp_ret ?_
   refine zw (res1 rfl rfl) ?_
   exact .inr ⟨fun h => h7 h.2, rfl, (H.sub (List.nil_sublist _))⟩
 ·refine zm ?_
  refine zg ?_
  refine zg ?_
  refine zf ?_
  refine za ?_
  refine zc (t9 []) ?_
  refine wp_ret ?_
  refine zw (res1 rfl rfl) ?_
  exact .inr ⟨fun h => h4 h.1, rfl, (H.sub (List.nil_sublist _))⟩

set_option maxHeartbeats 4000000 in
theorem there12_spec (a b c : Int) (w0 : World) :
  Calls Tryz.prog 62 #[.agg (plV a b c).toArray] w0 fun e w => ∃ v, e = .returned v ∧ (((inM a 15 ∧ inM b 7 ∧ inM c 255) ∧ v = .bool true ∧ St w0 [] w []) ∨ (¬ (inM a 15 ∧ inM b 7 ∧ inM c 255) ∧ v = .bool false ∧ St w0 [] w [])) := by
 have H := St.refl w0
 refine c_enter (args := [.agg (plV a b c).toArray]) (l := t30 (t1 [])) Tryz.func62 Tryz.ntmps62 rfl rfl ?_
 refine zq 31 ⟨rfl, rfl⟩ ?_
 refine s_new (m_box (cs := (plV a b c)) H rfl rfl) ?_
 intro w b1 H
 refine za ?_
 refine zc (t30 (t1 [])) ?_
 refine zq 31 ⟨rfl, rfl⟩ ?_
 refine zR 0 qu63 qs3 ?_
 refine zL qg3 (H.at 0 rfl) ?_
 refine s_test (r_geq rfl rfl) (fun h5 => ?_) (fun h5 => ?_)
 ·refine zm ?_
  refine zy ?_
  refine zR 0 qu63 qs3 ?_
  refine zy ?_
  refine zL qg3 (H.at 0 rfl) ?_
  refine zy ?_
  refine s_test (r_leq rfl rfl) (fun h9 => ?_) (fun h9 => ?_)
  ·refine zv ?_
   refine zm ?_
   refine zy ?_
   refine zR 1 qu63 qs3 ?_
   refine zy ?_
   refine zL qg3 (H.at 0 rfl) ?_
   refine zy ?_
   refine s_test (r_geq rfl rfl) (fun h14 => ?_) (fun h14 => ?_)
   ·refine zv ?_
    refine zm ?_
    refine zy ?_
    refine zR 1 qu63 qs3 ?_
    refine zy ?_
    refine zL qg3 (H.at 0 rfl) ?_
    refine zy ?_
    refine s_test (r_leq rfl rfl) (fun h19 => ?_) (fun h19 => ?_)
    ·refine zv ?_
     refine zm ?_
     refine zy ?_
     refine zR 2 qu63 qs3 ?_
     refine zy ?_
     refine zL qg3 (H.at 0 rfl) ?_
     refine zy ?_
     refine s_test (r_geq rfl rfl) (fun h24 => ?_) (fun h24 => ?_)
     ·refine zv ?_
      refine zm ?_
      refine zy ?_
      refine zR 2 qu63 qs3 ?_
      refine zy ?_
      refine zL qg3 (H.at 0 rfl) ?_
      refine zy ?_
      refine s_test (r_leq rfl rfl) (fun h29 => ?_) (fun h29 => ?_)
      ·refine zv ?_
       refine za ?_
       refine zc (t30 (t1 [])) ?_
       refine wp_ret ?_
       refine zw (res1 rfl rfl) ?_
       exact .inl ⟨⟨⟨h5, h9⟩, ⟨h14, h19⟩, ⟨h24, h29⟩⟩, rfl, (H.sub (List.nil_sublist _))⟩
      ·refine zv ?_
       refine za ?_
       refine zc (t30 (t1 [])) ?_
       refine wp_ret ?_
       refine zw (res1 rfl rfl) ?_
       exact .inr ⟨fun h => h29 h.2.2.2, rfl, (H.sub (List.nil_sublist _))⟩
     ·refine zv ?_
      refine zm ?_
      refine zg ?_
      refine zg ?_
      refine zg ?_
      refine zf ?_
      refine za ?_
      refine zc (t30 (t1 [])) ?_
      refine wp_ret ?_
      refine zw (res1 rfl rfl) ?_
      exact .inr ⟨fun h => h24 h.2.2.1, rfl, (H.sub (List.nil_sublist _))⟩
    ·refine zv ?_
     refine zm ?_
     refine zg ?_
     refine zg ?_
     refine zg ?_
     refine zf ?_
     refine zm ?_
     refine zg ?_
     refine zg ?_
     refine zg ?_
     refine zf ?_
     refine za ?_
     refine zc (t30 (t1 [])) ?_
     refine wp_ret ?_
     refine zw (res1 rfl rfl) ?_
     exact .inr ⟨fun h => h19 h.2.1.2, rfl, (H.sub (List.nil_sublist _))⟩
   ·refine zv ?_
    refine zm ?_
    refine zg ?_
    refine zg ?_
    refine zg ?_
    refine zf ?_
    refine zm ?_
    refine zg ?_
    refine zg ?_
    refine zg ?_
    refine zf ?_
    refine zm ?_
    refine zg ?_
    refine zg ?_
    refine zg ?_
    refine zf ?_
    refine za ?_
    refine zc (t30 (t1 [])) ?_
    refine wp_ret ?_
    refine zw (res1 rfl rfl) ?_
    exact .inr ⟨fun h => h14 h.2.1.1, rfl, (H.sub (List.nil_sublist _))⟩
  ·refine zv ?_
   refine zm ?_
   refine zg ?_
   refine zg ?_
   refine zg ?_
   refine zf ?_
   refine zm ?_
   refine zg ?_
   refine zg ?_
   refine zg ?_
   refine zf ?_
   refine zm ?_
   refine zg ?_
   refine zg ?_
   refine zg ?_
   refine zf ?_
   refine zm ?_
   refine zg ?_
   refine zg ?_
   refine zg ?_
   refine zf ?_
   refine za ?_
   refine zc (t30 (t1 [])) ?_
   refine wp_ret ?_
   refine zw (res1 rfl rfl) ?_
   exact .inr ⟨fun h => h9 h.1.2, rfl, (H.sub (List.nil_sublist _))⟩
 ·refine zm ?_
  refine zg ?_
  refine zg ?_
  refine zg ?_
  refine zf ?_
  refine zm ?_
  refine zg ?_
  refine zg ?_
  refine zg ?_
  refine zf ?_
  refine zm ?_
  refine zg ?_
  refine zg ?_
  refine zg ?_
  refine zf ?_
  refine zm ?_
  refine zg ?_
  refine zg ?_
  refine zg ?_
  refine zf ?_
  refine zm ?_
  refine zg ?_
  refine zg ?_
  refine zg ?_
  refine zf ?_
  refine za ?_
  refine zc (t30 (t1 [])) ?_
  refine wp_ret ?_
  refine zw (res1 rfl rfl) ?_
  exact .inr ⟨fun h => h5 h.1.1, rfl, (H.sub (List.nil_sublist _))⟩

end Go.Proofs.YtobfnieebiakeaaGreat

