import Derived.Test.YtobfnieebiakeaaGreatPM
import Derived.Test.YtobfnieebiakeaaGreatPX3
import Derived.Test.YtobfnieebiakeaaGreatPVx2
namespace Go.Proofs.YtobfnieebiakeaaGreat
open Go Go.Er

set_option maxHeartbeats 4000000 in
theorem csame12_spec (x y : Ce) (w0 : World) (hx : BRow w0 x.body.a x.body.b) (hy : BRow w0 y.body.a y.body.b) :
  Calls Tryz.prog 63 #[.agg (ceC x).toArray, .agg (ceC y).toArray] w0 fun e w => ∃ v, e = .returned v ∧ (((ceEq x y) ∧ v = .bool true ∧ St w0 [] w []) ∨ (¬ (ceEq x y) ∧ v = .bool false ∧ St w0 [] w [])) := by
 have H := St.refl w0
 refine c_enter (args := [.agg (ceC x).toArray, .agg (ceC y).toArray]) (l := t60 (t8 [])) Tryz.func63 Tryz.ntmps63 rfl rfl ?_
 refine zq 68 ⟨rfl, rfl⟩ ?_
 refine s_new (m_box (cs := (ceC x)) H rfl rfl) ?_
 intro w b2 H
 refine s_new (m_box (cs := (ceC y)) H rfl rfl) ?_
 intro w b3 H
 refine za ?_
 refine zc (t60 (t8 [])) ?_
 refine zq 68 ⟨rfl, rfl⟩ ?_
 refine zR 0 qu65 qs3 ?_
 refine zL qg3 (H.at 1 rfl) ?_
 refine zR 0 qu65 qs3 ?_
 refine zL qg3 (H.at 0 rfl) ?_
 refine s_test (r_eql rfl rfl) (fun h9 => ?_) (fun h9 => ?_)
 ·refine zm ?_
  refine zy ?_
  refine zR 1 qu65 qs28 ?_
  refine zy ?_
  refine zL qg28 (H.at 1 rfl) ?_
  refine zy ?_
  refine zR 1 qu65 qs28 ?_
  refine zy ?_
  refine zL qg28 (H.at 0 rfl) ?_
  refine zy ?_
  refine s_test (r_eql rfl rfl) (fun h15 => ?_) (fun h15 => ?_)
  ·refine zv ?_
   refine zm ?_
   refine zy ?_
   refine zR 2 qu65 qs3 ?_
   refine zy ?_
   refine zL qg3 (H.at 1 rfl) ?_
   refine zy ?_
   refine zR 2 qu65 qs3 ?_
   refine zy ?_
   refine zL qg3 (H.at 0 rfl) ?_
   refine zy ?_
   refine s_test (r_eql rfl rfl) (fun h22 => ?_) (fun h22 => ?_)
   ·refine zv ?_
    refine zm ?_
    refine zy ?_
    refine zR 3 qu65 qs63 ?_
    refine zy ?_
    refine s_val (zo qg63 qs63 (H.at 1 rfl)) ?_
    refine zy ?_
    refine zR 3 qu65 qs63 ?_
    refine zy ?_
    refine s_val (zo qg63 qs63 (H.at 0 rfl)) ?_
    refine zy ?_
    refine s_test (r_eqlTr tripT63 rfl rfl) (fun h29 => ?_) (fun h29 => ?_)
    ·refine zv ?_
     refine zm ?_
     refine zy ?_
     refine zR 6 qu65 qs28 ?_
     refine zy ?_
     refine zL qg28 (H.at 1 rfl) ?_
     refine zy ?_
     refine zR 6 qu65 qs28 ?_
     refine zy ?_
     refine zL qg28 (H.at 0 rfl) ?_
     refine zy ?_
     refine s_test (r_eql rfl rfl) (fun h36 => ?_) (fun h36 => ?_)
     ·refine zv ?_
      refine zm ?_
      refine zy ?_
      refine zR 7 qu65 qs3 ?_
      refine zy ?_
      refine zL qg3 (H.at 1 rfl) ?_
      refine zy ?_
      refine zR 7 qu65 qs3 ?_
      refine zy ?_
      refine zL qg3 (H.at 0 rfl) ?_
      refine zy ?_
      refine s_test (r_eql rfl rfl) (fun h43 => ?_) (fun h43 => ?_)
      ·refine zv ?_
       refine zm ?_
       refine zy ?_
       refine zR 8 qu65 qs3 ?_
       refine zy ?_
       refine zL qg3 (H.at 1 rfl) ?_
       refine zy ?_
       refine zR 8 qu65 qs3 ?_
       refine zy ?_
       refine zL qg3 (H.at 0 rfl) ?_
       refine zy ?_
       refine s_test (r_eql rfl rfl) (fun h50 => ?_) (fun h50 => ?_)
       ·refine zv ?_
        refine zm ?_
        refine zy ?_
        refine zR 9 qu65 qs3 ?_
        refine zy ?_
        refine zL qg3 (H.at 1 rfl) ?_
        refine zy ?_
        refine zR 9 qu65 qs3 ?_
        refine zy ?_
        refine zL qg3 (H.at 0 rfl) ?_
        refine zy ?_
        refine s_test (r_eql rfl rfl) (fun h57 => ?_) (fun h57 => ?_)
        ·refine zv ?_
         refine zm ?_
         refine zy ?_
         refine zR 10 qu65 qs59 ?_
         refine zy ?_
         refine zL qg59 (H.at 1 rfl) ?_
         refine zy ?_
         refine s_val (r_textB qu59 qu9 qu5 (a := x.body.a) (c := x.body.c) (bs := x.body.b) rfl (hx.st (H.sub (List.nil_sublist _)))) ?_
         refine zy ?_
         refine zR 10 qu65 qs59 ?_
         refine zy ?_
         refine zL qg59 (H.at 0 rfl) ?_
         refine zy ?_
         refine s_val (r_textB qu59 qu9 qu5 (a := y.body.a) (c := y.body.c) (bs := y.body.b) rfl (hy.st (H.sub (List.nil_sublist _)))) ?_
         refine zy ?_
         refine s_test (r_eqlT (s := x.body.b) (t := y.body.b) rfl rfl) (fun h66 => ?_) (fun h66 => ?_)
         ·refine zv ?_
          refine za ?_
          refine zc (t60 (t8 [])) ?_
          refine wp_ret ?_
          refine zw (res1 rfl rfl) ?_
          exact .inl ⟨⟨h9, h15, h22, h29, h36, h43, h50, h57, h66⟩, rfl, (H.sub (List.nil_sublist _))⟩
         ·refine zv ?_
          refine za ?_
          refine zc (t60 (t8 [])) ?_
          refine wp_ret ?_
          refine zw (res1 rfl rfl) ?_
          exact .inr ⟨fun h => h66 h.2.2.2.2.2.2.2.2, rfl, (H.sub (List.nil_sublist _))⟩
        ·refine zv ?_
         refine zm ?_
         refine zg ?_
         refine zg ?_
         refine zg ?_
         refine zg ?_
         refine zg ?_
         refine zg ?_
         refine zg ?_
         refine zf ?_
         refine za ?_
         refine zc (t60 (t8 [])) ?_
         refine wp_ret ?_
         refine zw (res1 rfl rfl) ?_
         exact .inr ⟨fun h => h57 h.2.2.2.2.2.2.2.1, rfl, (H.sub (List.nil_sublist _))⟩
       ·refine zv ?_
        refine zm ?_
        refine zg ?_
        refine zg ?_
        refine zg ?_
        refine zg ?_
        refine zg ?_
        refine zf ?_
        refine zm ?_
        refine zg ?_
        refine zg ?_
        refine zg ?_
        refine zg ?_
        refine zg ?_
        refine zg ?_
        refine zg ?_
        refine zf ?_
        refine za ?_
        refine zc (t60 (t8 [])) ?_
        refine wp_ret ?_
        refine zw (res1 rfl rfl) ?_
        exact .inr ⟨fun h => h50 h.2.2.2.2.2.2.1, rfl, (H.sub (List.nil_sublist _))⟩
      ·refine zv ?_
       refine zm ?_
       refine zg ?_
       refine zg ?_
       refine zg ?_
       refine zg ?_
       refine zg ?_
       refine zf ?_
       refine zm ?_
       refine zg ?_
       refine zg ?_
       refine zg ?_
       refine zg ?_
       refine zg ?_
       refine zf ?_
       refine zm ?_
       refine zg ?_
       refine zg ?_
       refine zg ?_
       refine zg ?_
       refine zg ?_
       refine zg ?_
       refine zg ?_
       refine zf ?_
       refine za ?_
       refine zc (t60 (t8 [])) ?_
       refine wp_ret ?_
       refine zw (res1 rfl rfl) ?_
       exact .inr ⟨fun h => h43 h.2.2.2.2.2.1, rfl, (H.sub (List.nil_sublist _))⟩
     ·refine zv ?_
      refine zm ?_
      refine zg ?_
      refine zg ?_
      refine zg ?_
      refine zg ?_
      refine zg ?_
      refine zf ?_
      refine zm ?_
      refine zg ?_
      refine zg ?_
      refine zg ?_
      refine zg ?_
      refine zg ?_
      refine zf ?_
      refine zm ?_
      refine zg ?_
      refine zg ?_
      refine zg ?_
      refine zg ?_
      refine zg ?_
      refine zf ?_
      refine zm ?_
      refine zg ?_
      refine zg ?_
      refine zg ?_
      refine zg ?_
      refine zg ?_
      refine zg ?_
      refine zg ?_
      refine zf ?_
      refine za ?_
      refine zc (t60 (t8 [])) ?_
      refine wp_ret ?_
      refine zw (res1 rfl rfl) ?_
      exact .inr ⟨fun h => h36 h.2.2.2.2.1, rfl, (H.sub (List.nil_sublist _))⟩
    ·refine zv ?_
     refine zm ?_
     refine zg ?_
     refine zg ?_
     refine zg ?_
     refine zg ?_
     refine zg ?_
     refine zf ?_
     refine zm ?_
     refine zg ?_
     refine zg ?_
     refine zg ?_
     refine zg ?_
     refine zg ?_
     refine zf ?_
     refine zm ?_
     refine zg ?_
     refine zg ?_
     refine zg ?_
     refine zg ?_
     refine zg ?_
     refine zf ?_
     refine zm ?_
     refine zg ?_
     refine zg ?_
     refine zg ?_
     refine zg ?_
     refine zg ?_
     refine zf ?_
     refine zm ?_
     refine zg ?_
     refine zg ?_
     refine zg ?_
     refine zg ?_
     refine zg ?_
     refine zg ?_
     refine zg ?_
     refine zf ?_
     refine za ?_
     refine zc (t60 (t8 [])) ?_
     refine wp_ret ?_
     refine zw (res1 rfl rfl) ?_
     exact .inr ⟨fun h => h29 h.2.2.2.1, rfl, (H.sub (List.nil_sublist _))⟩
   ·refine zv ?_
    refine zm ?_
    refine zg ?_
    refine zg ?_
    refine zg ?_
    refine zg ?_
    refine zg ?_
    refine zf ?_
    refine zm ?_
    refine zg ?_
    refine zg ?_
    refine zg ?_
    refine zg ?_
    refine zg ?_
    refine zf ?_
    refine zm ?_
    refine zg ?_
    refine zg ?_
    refine zg ?_
    refine zg ?_
    refine zg ?_
    refine zf ?_
    refine zm ?_
    refine zg ?_
    refine zg ?_
    refine zg ?_
    refine zg ?_
    refine zg ?_
    refine zf ?_
    refine zm ?_
    refine zg ?_
    refine zg ?_
    refine zg ?_
    refine zg ?_
    refine zg ?_
    refine zf ?_
    refine zm ?_
    refine zg ?_
    refine zg ?_
    refine zg ?_
    refine zg ?_
    refine zg ?_
    refine zg ?_
    refine zg ?_
    refine zf ?_
    refine za ?_
    refine zc (t60 (t8 [])) ?_
    refine wp_ret ?_
    refine zw (res1 rfl rfl) ?_
    exact .inr ⟨fun h => h22 h.2.2.1, rfl, (H.sub (List.nil_sublist _))⟩
  ·refine zv ?_
   refine zm ?_
   refine zg ?_
   refine zg ?_
   refine zg ?_
   refine zg ?_
   refine zg ?_
   refine zf ?_
   refine zm ?_
   refine zg ?_
   refine zg ?_
   refine zg ?_
   refine zg ?_
   refine zg ?_
   refine zf ?_
   refine zm ?_
   refine zg ?_
   refine zg ?_
   refine zg ?_
   refine zg ?_
   refine zg ?_
   refine zf ?_
   refine zm ?_
   refine zg ?_
   refine zg ?_
   refine zg ?_
   refine zg ?_
   refine zg ?_
   refine zf ?_
   refine zm ?_
   refine zg ?_
   refine zg ?_
   refine zg ?_
   refine zg ?_
   refine zg ?_
   refine zf ?_
   refine zm ?_
   refine zg ?_
   refine zg ?_
   refine zg ?_
   refine zg ?_
   refine zg ?_
   refine zf ?_
   refine zm ?_
   refine zg ?_
   refine zg ?_
   refine zg ?_
   refine zg ?_
   refine zg ?_
   refine zg ?_
   refine zg ?_
   refine zf ?_
   refine za ?_
   refine zc (t60 (t8 [])) ?_
   refine wp_ret ?_
   refine zw (res1 rfl rfl) ?_
   exact .inr ⟨fun h => h15 h.2.1, rfl, (H.sub (List.nil_sublist _))⟩
 ·refine zm ?_
  refine zg ?_
  refine zg ?_
  refine zg ?_
  refine zg ?_
  refine zg ?_
  refine zf ?_
  refine zm ?_
  refine zg ?_
  refine zg ?_
  refine zg ?_
  refine zg ?_
  refine zg ?_
  refine zf ?_
  refine zm ?_
  refine zg ?_
  refine zg ?_
  refine zg ?_
  refine zg ?_
  refine zg ?_
  refine zf ?_
  refine zm ?_
  refine zg ?_
  refine zg ?_
  refine zg ?_
  refine zg ?_
  refine zg ?_
  refine zf ?_
  refine zm ?_
  refine zg ?_
  refine zg ?_
  refine zg ?_
  refine zg ?_
  refine zg ?_
  refine zf ?_
  refine zm ?_
  refine zg ?_
  refine zg ?_
  refine zg ?_
  refine zg ?_
  refine zg ?_
  refine zf ?_
  refine zm ?_
  refine zg ?_
  refine zg ?_
  refine zg ?_
  refine zg ?_
  refine zg ?_
  refine zf ?_
  refine zm ?_
  refine zg ?_
  refine zg ?_
  refine zg ?_
  refine zg ?_
  refine zg ?_
  refine zg ?_
  refine zg ?_
  refine zf ?_
  refine za ?_
  refine zc (t60 (t8 [])) ?_
  refine wp_ret ?_
  refine zw (res1 rfl rfl) ?_
  exact .inr ⟨fun h => h9 h.1, rfl, (H.sub (List.nil_sublist _))⟩

end Go.Proofs.YtobfnieebiakeaaGreat

