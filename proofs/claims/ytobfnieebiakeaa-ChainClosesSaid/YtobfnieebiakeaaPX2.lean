import Derived.Test.YtobfnieebiakeaaPM
import Derived.Test.YtobfnieebiakeaaPX1
namespace Go.Proofs.Ytobfnieebiakeaa
open Go Go.Er
theorem tripT40 : TripT Try.prog 40 := ⟨by kernel_rfl, by kernel_rfl, by kernel_rfl, ⟨ "Branch", 3, 0, false, "", "", 0⟩, ⟨ "Vol", 3, 1, false, "", "", 8⟩, ⟨ "Blk", 3, 2, false, "", "", 16⟩, by kernel_rfl, by decide, by decide, by decide, rfl, rfl, rfl, by kernel_rfl, by kernel_rfl, by kernel_rfl, qg3, qg3, qg3⟩

set_option maxHeartbeats 4000000 in
theorem csame_spec (x y : Ce) (w0 : World) (hx : BRow w0 x.body.a x.body.b) (hy : BRow w0 y.body.a y.body.b) :
  Calls Try.prog 65 #[.agg (ceC x).toArray, .agg (ceC y).toArray] w0 fun e w => ∃ v, e = .returned v ∧ (((ceEq x y) ∧ v = .bool true ∧ St w0 [] w []) ∨ (¬ (ceEq x y) ∧ v = .bool false ∧ St w0 [] w [])) := by
 have H := St.refl w0
 refine c_enter (args := [.agg (ceC x).toArray, .agg (ceC y).toArray]) (l := t60 (t8 [])) Try.func65 Try.ntmps65 rfl rfl ?_
 refine zq 68 ⟨rfl, rfl⟩ ?_
 refine s_new (m_box (cs := (ceC x)) H rfl rfl) ?_
 intro w b2 H
 refine s_new (m_box (cs := (ceC y)) H rfl rfl) ?_
 intro w b3 H
 refine za ?_
 refine zc (t60 (t8 [])) ?_
 refine zq 68 ⟨rfl, rfl⟩ ?_
 refine zR 10 qu43 qs41 ?_
 refine zL qg41 (H.at 1 rfl) ?_
 refine zR 10 qu43 qs41 ?_
 refine zL qg41 (H.at 0 rfl) ?_
 refine s_call (r_call Try.call82 (ec rfl (ec rfl en))) (equalb_spec x.body y.body _ (hx.st (H.sub (List.nil_sublist _))) (hy.st (H.sub (List.nil_sublist _)))) ?_
 rintro v w (⟨hy10, rfl, HC⟩ | ⟨hy10, rfl, HC⟩)
 ·replace H := H.quiet HC
  refine za ?_
  refine zc (t60 (t8 [])) ?_
  refine zq 68 ⟨rfl, rfl⟩ ?_
  refine zm ?_
  refine zm ?_
  refine zy ?_
  refine zR 0 qu43 qs3 ?_
  refine zy ?_
  refine zL qg3 (H.at 1 rfl) ?_
  refine zy ?_
  refine zR 0 qu43 qs3 ?_
  refine zy ?_
  refine zL qg3 (H.at 0 rfl) ?_
  refine zy ?_
  refine s_test (r_eql rfl rfl) (fun h17 => ?_) (fun h17 => ?_)
  ·refine zv ?_
   refine zm ?_
   refine zy ?_
   refine zR 1 qu43 qs28 ?_
   refine zy ?_
   refine zL qg28 (H.at 1 rfl) ?_
   refine zy ?_
   refine zR 1 qu43 qs28 ?_
   refine zy ?_
   refine zL qg28 (H.at 0 rfl) ?_
   refine zy ?_
   refine s_test (r_eql rfl rfl) (fun h24 => ?_) (fun h24 => ?_)
   ·refine zv ?_
    refine zm ?_
    refine zy ?_
    refine zR 2 qu43 qs3 ?_
    refine zy ?_
    refine zL qg3 (H.at 1 rfl) ?_
    refine zy ?_
    refine zR 2 qu43 qs3 ?_
    refine zy ?_
    refine zL qg3 (H.at 0 rfl) ?_
    refine zy ?_
    refine s_test (r_eql rfl rfl) (fun h31 => ?_) (fun h31 => ?_)
    ·refine zv ?_
     refine zm ?_
     refine zy ?_
     refine zR 3 qu43 qs40 ?_
     refine zy ?_
     refine s_val (zo qg40 qs40 (H.at 1 rfl)) ?_
     refine zy ?_
     refine zR 3 qu43 qs40 ?_
     refine zy ?_
     refine s_val (zo qg40 qs40 (H.at 0 rfl)) ?_
     refine zy ?_
     refine s_test (r_eqlTr tripT40 rfl rfl) (fun h38 => ?_) (fun h38 => ?_)
     ·refine zv ?_
      refine zm ?_
      refine zy ?_
      refine zR 6 qu43 qs28 ?_
      refine zy ?_
      refine zL qg28 (H.at 1 rfl) ?_
      refine zy ?_
      refine zR 6 qu43 qs28 ?_
      refine zy ?_
      refine zL qg28 (H.at 0 rfl) ?_
      refine zy ?_
      refine s_test (r_eql rfl rfl) (fun h45 => ?_) (fun h45 => ?_)
      ·refine zv ?_
       refine zm ?_
       refine zy ?_
       refine zR 7 qu43 qs3 ?_
       refine zy ?_
       refine zL qg3 (H.at 1 rfl) ?_
       refine zy ?_
       refine zR 7 qu43 qs3 ?_
       refine zy ?_
       refine zL qg3 (H.at 0 rfl) ?_
       refine zy ?_
       refine s_test (r_eql rfl rfl) (fun h52 => ?_) (fun h52 => ?_)
       ·refine zv ?_
        refine zm ?_
        refine zy ?_
        refine zR 8 qu43 qs3 ?_
        refine zy ?_
        refine zL qg3 (H.at 1 rfl) ?_
        refine zy ?_
        refine zR 8 qu43 qs3 ?_
        refine zy ?_
        refine zL qg3 (H.at 0 rfl) ?_
        refine zy ?_
        refine s_test (r_eql rfl rfl) (fun h59 => ?_) (fun h59 => ?_)
        ·refine zv ?_
         refine zm ?_
         refine zy ?_
         refine zR 9 qu43 qs3 ?_
         refine zy ?_
         refine zL qg3 (H.at 1 rfl) ?_
         refine zy ?_
         refine zR 9 qu43 qs3 ?_
         refine zy ?_
         refine zL qg3 (H.at 0 rfl) ?_
         refine zy ?_
         refine s_test (r_eql rfl rfl) (fun h66 => ?_) (fun h66 => ?_)
         ·refine zv ?_
          refine za ?_
          refine zc (t60 (t8 [])) ?_
          refine wp_ret ?_
          refine zw (res1 rfl rfl) ?_
          exact .inl ⟨⟨h17, h24, h31, h38, h45, h52, h59, h66, hy10⟩, rfl, H.sub (List.nil_sublist _)⟩
         ·refine zv ?_
          refine za ?_
          refine zc (t60 (t8 [])) ?_
          refine wp_ret ?_
          refine zw (res1 rfl rfl) ?_
          exact .inr ⟨fun h => h66 h.2.2.2.2.2.2.2.1, rfl, H.sub (List.nil_sublist _)⟩
        ·refine zv ?_
         refine zm ?_
         refine zg ?_
         refine zg ?_
         refine zg ?_
         refine zg ?_
         refine zg ?_
         refine zf ?_
         refine za ?_
         refine zc (t60 (t8 [])) ?_
         refine wp_ret ?_
         refine zw (res1 rfl rfl) ?_
         exact .inr ⟨fun h => h59 h.2.2.2.2.2.2.1, rfl, H.sub (List.nil_sublist _)⟩
       ·refine zv ?_
        refine zm ?_
        refine zg ?_
        refine zg ?_
        refine zg ?_
        refine zg ?_
        refine zg ?_
        refine zf ?_
        refine zm ?_
        refine zg ?_
        refine zg ?_
        refine zg ?_
        refine zg ?_
        refine zg ?_
        refine zf ?_
        refine za ?_
        refine zc (t60 (t8 [])) ?_
        refine wp_ret ?_
        refine zw (res1 rfl rfl) ?_
        exact .inr ⟨fun h => h52 h.2.2.2.2.2.1, rfl, H.sub (List.nil_sublist _)⟩
      ·refine zv ?_
       refine zm ?_
       refine zg ?_
       refine zg ?_
       refine zg ?_
       refine zg ?_
       refine zg ?_
       refine zf ?_
       refine zm ?_
       refine zg ?_
       refine zg ?_
       refine zg ?_
       refine zg ?_
       refine zg ?_
       refine zf ?_
       refine zm ?_
       refine zg ?_
       refine zg ?_
       refine zg ?_
       refine zg ?_
       refine zg ?_
       refine zf ?_
       refine za ?_
       refine zc (t60 (t8 [])) ?_
       refine wp_ret ?_
       refine zw (res1 rfl rfl) ?_
       exact .inr ⟨fun h => h45 h.2.2.2.2.1, rfl, H.sub (List.nil_sublist _)⟩
     ·refine zv ?_
      refine zm ?_
      refine zg ?_
      refine zg ?_
      refine zg ?_
      refine zg ?_
      refine zg ?_
      refine zf ?_
      refine zm ?_
      refine zg ?_
      refine zg ?_
      refine zg ?_
      refine zg ?_
      refine zg ?_
      refine zf ?_
      refine zm ?_
      refine zg ?_
      refine zg ?_
      refine zg ?_
      refine zg ?_
      refine zg ?_
      refine zf ?_
      refine zm ?_
      refine zg ?_
      refine zg ?_
      refine zg ?_
      refine zg ?_
      refine zg ?_
      refine zf ?_
      refine za ?_
      refine zc (t60 (t8 [])) ?_
      refine wp_ret ?_
      refine zw (res1 rfl rfl) ?_
      exact .inr ⟨fun h => h38 h.2.2.2.1, rfl, H.sub (List.nil_sublist _)⟩
    ·refine zv ?_
     refine zm ?_
     refine zg ?_
     refine zg ?_
     refine zg ?_
     refine zg ?_
     refine zg ?_
     refine zf ?_
     refine zm ?_
     refine zg ?_
     refine zg ?_
     refine zg ?_
     refine zg ?_
     refine zg ?_
     refine zf ?_
     refine zm ?_
     refine zg ?_
     refine zg ?_
     refine zg ?_
     refine zg ?_
     refine zg ?_
     refine zf ?_
     refine zm ?_
     refine zg ?_
     refine zg ?_
     refine zg ?_
     refine zg ?_
     refine zg ?_
     refine zf ?_
     refine zm ?_
     refine zg ?_
     refine zg ?_
     refine zg ?_
     refine zg ?_
     refine zg ?_
     refine zf ?_
     refine za ?_
     refine zc (t60 (t8 [])) ?_
     refine wp_ret ?_
     refine zw (res1 rfl rfl) ?_
     exact .inr ⟨fun h => h31 h.2.2.1, rfl, H.sub (List.nil_sublist _)⟩
   ·refine zv ?_
    refine zm ?_
    refine zg ?_
    refine zg ?_
    refine zg ?_
    refine zg ?_
    refine zg ?_
    refine zf ?_
    refine zm ?_
    refine zg ?_
    refine zg ?_
    refine zg ?_
    refine zg ?_
    refine zg ?_
    refine zf ?_
    refine zm ?_
    refine zg ?_
    refine zg ?_
    refine zg ?_
    refine zg ?_
    refine zg ?_
    refine zf ?_
    refine zm ?_
    refine zg ?_
    refine zg ?_
    refine zg ?_
    refine zg ?_
    refine zg ?_
    refine zf ?_
    refine zm ?_
    refine zg ?_
    refine zg ?_
    refine zg ?_
    refine zg ?_
    refine zg ?_
    refine zf ?_
    refine zm ?_
    refine zg ?_
    refine zg ?_
    refine zg ?_
    refine zg ?_
    refine zg ?_
    refine zf ?_
    refine za ?_
    refine zc (t60 (t8 [])) ?_
    refine wp_ret ?_
    refine zw (res1 rfl rfl) ?_
    exact .inr ⟨fun h => h24 h.2.1, rfl, H.sub (List.nil_sublist _)⟩
  ·refine zv ?_
   refine zm ?_
   refine zg ?_
   refine zg ?_
   refine zg ?_
   refine zg ?_
   refine zg ?_
   refine zf ?_
   refine zm ?_
   refine zg ?_
   refine zg ?_
   refine zg ?_
   refine zg ?_
   refine zg ?_
   refine zf ?_
   refine zm ?_
   refine zg ?_
   refine zg ?_
   refine zg ?_
   refine zg ?_
   refine zg ?_
   refine zf ?_
   refine zm ?_
   refine zg ?_
   refine zg ?_
   refine zg ?_
   refine zg ?_
   refine zg ?_
   refine zf ?_
   refine zm ?_
   refine zg ?_
   refine zg ?_
   refine zg ?_
   refine zg ?_
   refine zg ?_
   refine zf ?_
   refine zm ?_
   refine zg ?_
   refine zg ?_
   refine zg ?_
   refine zg ?_
   refine zg ?_
   refine zf ?_
   refine zm ?_
   refine zg ?_
   refine zg ?_
   refine zg ?_
   refine zg ?_
   refine zg ?_
   refine zf ?_
   refine za ?_
   refine zc (t60 (t8 [])) ?_
   refine wp_ret ?_
   refine zw (res1 rfl rfl) ?_
   exact .inr ⟨fun h => h17 h.1, rfl, H.sub (List.nil_sublist _)⟩
 ·replace H := H.quiet HC
  refine za ?_
  refine zc (t60 (t8 [])) ?_
  refine zq 68 ⟨rfl, rfl⟩ ?_
  refine zm ?_
  refine zm ?_
  refine zg ?_
  refine zg ?_
  refine zg ?_
  refine zg ?_
  refine zg ?_
  refine zf ?_
  refine zm ?_
  refine zg ?_
  refine zg ?_
  refine zg ?_
  refine zg ?_
  refine zg ?_
  refine zf ?_
  refine zm ?_
  refine zg ?_
  refine zg ?_
  refine zg ?_
  refine zg ?_
  refine zg ?_
  refine zf ?_
  refine zm ?_
  refine zg ?_
  refine zg ?_
  refine zg ?_
  refine zg ?_
  refine zg ?_
  refine zf ?_
  refine zm ?_
  refine zg ?_
  refine zg ?_
  refine zg ?_
  refine zg ?_
  refine zg ?_
  refine zf ?_
  refine zm ?_
  refine zg ?_
  refine zg ?_
  refine zg ?_
  refine zg ?_
  refine zg ?_
  refine zf ?_
  refine zm ?_
  refine zg ?_
  refine zg ?_
  refine zg ?_
  refine zg ?_
  refine zg ?_
  refine zf ?_
  refine zm ?_
  refine zg ?_
  refine zg ?_
  refine zg ?_
  refine zg ?_
  refine zg ?_
  refine zf ?_
  refine za ?_
  refine zc (t60 (t8 [])) ?_
  refine wp_ret ?_
  refine zw (res1 rfl rfl) ?_
  exact .inr ⟨fun h => hy10 h.2.2.2.2.2.2.2.2, rfl, H.sub (List.nil_sublist _)⟩

set_option maxHeartbeats 4000000 in
set_option maxRecDepth 20000 in
theorem fields_spec (y : Ce) (w0 : World) :
  Calls Try.prog 67 #[.agg (ceC y).toArray] w0 fun e w => ∃ v, e = .returned v ∧ (((fieldsC (ceP y)) ∧ v = .bool true ∧ St w0 [] w []) ∨ (¬ (fieldsC (ceP y)) ∧ v = .bool false ∧ St w0 [] w [])) := by
 have H := St.refl w0
 refine c_enter (args := [.agg (ceC y).toArray]) (l := t100 (t40 (t2 []))) Try.func67 Try.ntmps67 rfl rfl ?_
 refine zq 142 ⟨rfl, rfl⟩ ?_
 refine s_new (m_box (cs := (ceC y)) H rfl rfl) ?_
 intro w b1 H
 refine za ?_
 refine zc (t100 (t40 (t2 []))) ?_
 refine zq 142 ⟨rfl, rfl⟩ ?_
 refine zR 3 qu43 qs40 ?_
 refine s_val (zo qg40 qs40 (H.at 0 rfl)) ?_
 refine s_new (zA (plV 0 0 0) H Try.zeroValue40) ?_
 intro w b3 H
 refine s_st (m_storen H 0 3 qs40 rfl rfl (by first | exact (kC_length _) | exact (hC_length _) | exact (ceC_length _) | exact (ptC_length _ _ _ _) | exact (plV_length _ _ _)) (by first | exact (kC_one _) | exact (hC_one _) | exact (ceC_one _) | exact (ptC_one _ _ _ _) | exact (plV_one _ _ _)) rfl (by show 0 + 3 ≤ 3; omega) (rfl : _ = plV y.br y.vol y.blk)) (L' := (_ :: _ :: _)) rfl ?_
 intro w H
 refine zc (t100 (t40 (t2 []))) ?_
 refine c_cut (fun (l0 : List Value) (l : List Value) (w : World) => ∃ (u8 u9 u10 u11 u12 u13 u14 u15 u16 u17 : Value) (eb : Bool), l = ovr l0 [N_, N_, N_, N_, Y_ (.bool eb), N_, N_, N_, Y_ u8, Y_ u9, Y_ u10, Y_ u11, Y_ u12, Y_ u13, Y_ u14, Y_ u15, Y_ u16, Y_ u17] ∧ eb = decide (elderC (ceP y)) ∧ St w0 [] w [(b3, .cells (plV y.br y.vol y.blk).toArray 40 (0, 0)), (b1, .cells (ceC y).toArray 43 (0, 0))]) ?_ ?_
 ·refine c_region (n := 142) ⟨rfl, rfl⟩ ?_
  refine zR 6 qu43 qs28 ?_
  refine zL qg28 (H.at 1 rfl) ?_
  refine s_test (r_geq rfl rfl) (fun h10 => ?_) (fun h10 => ?_)
  ·refine zm ?_
   refine zy ?_
   refine zR 6 qu43 qs28 ?_
   refine zy ?_
   refine zL qg28 (H.at 1 rfl) ?_
   refine zy ?_
   refine zR 1 qu43 qs28 ?_
   refine zy ?_
   refine zL qg28 (H.at 1 rfl) ?_
   refine zy ?_
   refine s_val (r_lss rfl rfl) ?_
   refine zv ?_
   refine za ?_
   refine zb (t100 (t40 (t2 []))) ?_
   exact ⟨_, rfl, ⟨_, _, _, _, _, _, _, _, _, _, _, rfl, (decide_eq_decide.2 ⟨fun h => ⟨h10, h⟩, fun h => h.2⟩), H⟩⟩
  ·refine zm ?_
   refine zg ?_
   refine zg ?_
   refine zg ?_
   refine zg ?_
   refine zg ?_
   refine zf ?_
   refine za ?_
   refine zb (t100 (t40 (t2 []))) ?_
   exact ⟨_, rfl, ⟨_, _, _, _, _, _, _, _, _, _, _, rfl, (by rw [decide_eq_false (fun h => h10 h.1)]), H⟩⟩
 ·rintro l w ⟨u8, u9, u10, u11, u12, u13, u14, u15, u16, u17, eb, hl, heb, H⟩
  obtain rfl := hl.trans (rfl : _ = t100 (t40 (t2 [])))
  clear hl
  refine c_cut (fun (l0 : List Value) (l : List Value) (w : World) => ∃ (u18 u19 u20 u21 u22 u23 u24 u25 : Value) (bb : Bool), l = ovr l0 [N_, N_, N_, N_, N_, Y_ (.bool bb), N_, N_, N_, N_, N_, N_, N_, N_, N_, N_, N_, N_, Y_ u18, Y_ u19, Y_ u20, Y_ u21, Y_ u22, Y_ u23, Y_ u24, Y_ u25] ∧ bb = decide (branchC (ceP y)) ∧ St w0 [] w [(b3, .cells (plV y.br y.vol y.blk).toArray 40 (0, 0)), (b1, .cells (ceC y).toArray 43 (0, 0))]) ?_ ?_
  ·refine c_region (n := 142) ⟨rfl, rfl⟩ ?_
   refine zR 0 qu40 qs3 ?_
   refine zL qg3 (H.at 0 rfl) ?_
   refine s_test (r_geq rfl rfl) (fun h20 => ?_) (fun h20 => ?_)
   ·refine zm ?_
    refine zy ?_
    refine zR 0 qu40 qs3 ?_
    refine zy ?_
    refine zL qg3 (H.at 0 rfl) ?_
    refine zy ?_
    refine s_val (r_lss rfl rfl) ?_
    refine zv ?_
    refine za ?_
    refine zb (t100 (t40 (t2 []))) ?_
    exact ⟨_, rfl, ⟨_, _, _, _, _, _, _, _, _, rfl, (decide_eq_decide.2 ⟨fun h => ⟨h20, h⟩, fun h => h.2⟩), H⟩⟩
   ·refine zm ?_
    refine zg ?_
    refine zg ?_
    refine zg ?_
    refine zf ?_
    refine za ?_
    refine zb (t100 (t40 (t2 []))) ?_
    exact ⟨_, rfl, ⟨_, _, _, _, _, _, _, _, _, rfl, (by rw [decide_eq_false (fun h => h20 h.1)]), H⟩⟩
  ·rintro l w ⟨u18, u19, u20, u21, u22, u23, u24, u25, bb, hl, hbb, H⟩
   obtain rfl := hl.trans (rfl : _ = t100 (t40 (t2 [])))
   clear hl
   refine c_seq ?_
   refine zq 142 ⟨rfl, rfl⟩ ?_
   refine zR 0 qu43 qs3 ?_
   refine zL qg3 (H.at 1 rfl) ?_
   refine zc (t100 (t40 (t2 []))) ?_
   refine wp_block ?_
   refine zq 142 ⟨rfl, rfl⟩ ?_
   refine s_val (r_eql rfl rfl) ?_
   refine za ?_
   refine zc (t100 (t40 (t2 []))) ?_
   refine c_if rfl (fun h28 => ?_) (fun h28 => ?_)
   ·refine zq 142 ⟨rfl, rfl⟩ ?_
    refine s_val (zo qg40 qs40 (H.at 0 rfl)) ?_
    refine s_call (r_call qc83 (ec rfl en)) (placeok_spec _ _ _ _) ?_
    rintro v w (⟨hy31, rfl, HC⟩ | ⟨hy31, rfl, HC⟩)
    ·replace H := H.quiet HC
     refine zm ?_
     refine zy ?_
     refine zR 6 qu43 qs28 ?_
     refine zy ?_
     refine zL qg28 (H.at 1 rfl) ?_
     refine zy ?_
     refine s_test (r_leq rfl rfl) (fun h35 => ?_) (fun h35 => ?_)
     ·refine zv ?_
      refine zm ?_
      refine zy ?_
      refine zR 10 qu43 qs41 ?_
      refine zy ?_
      refine zL qg41 (H.at 1 rfl) ?_
      refine zy ?_
      refine s_val (r_lens qu41 (ec rfl en)) ?_
      refine zy ?_
      refine s_test (r_eql rfl rfl) (fun h41 => ?_) (fun h41 => ?_)
      ·refine zv ?_
       refine za ?_
       refine zc (t100 (t40 (t2 []))) ?_
       refine wp_ret (x_blockRet (x_thenRet ?_))
       refine zw (res1 rfl rfl) ?_
       exact .inl ⟨(fieldsC_1 (y := ceP y) h28).2 ⟨hy31, h35, by have : (y.body.b.length : Int) = 32 := h41; show y.body.b.length = 32; omega⟩, rfl, H.sub (List.nil_sublist _)⟩
      ·refine zv ?_
       refine za ?_
       refine zc (t100 (t40 (t2 []))) ?_
       refine wp_ret (x_blockRet (x_thenRet ?_))
       refine zw (res1 rfl rfl) ?_
       exact .inr ⟨fun h => by have h := (fieldsC_1 (y := ceP y) h28).1 h; exact h41 (by have := h.2.2; show (y.body.b.length : Int) = 32; exact congrArg Int.ofNat this), rfl, H.sub (List.nil_sublist _)⟩
     ·refine zv ?_
      refine zm ?_
      refine zg ?_
      refine zg ?_
      refine zg ?_
      refine zg ?_
      refine zf ?_
      refine za ?_
      refine zc (t100 (t40 (t2 []))) ?_
      refine wp_ret (x_blockRet (x_thenRet ?_))
      refine zw (res1 rfl rfl) ?_
      exact .inr ⟨fun h => by have h := (fieldsC_1 (y := ceP y) h28).1 h; exact h35 h.2.1, rfl, H.sub (List.nil_sublist _)⟩
    ·replace H := H.quiet HC
     refine zm ?_
     refine zg ?_
     refine zg ?_
     refine zg ?_
     refine zf ?_
     refine zm ?_
     refine zg ?_
     refine zg ?_
     refine zg ?_
     refine zg ?_
     refine zf ?_
     refine za ?_
     refine zc (t100 (t40 (t2 []))) ?_
     refine wp_ret (x_blockRet (x_thenRet ?_))
     refine zw (res1 rfl rfl) ?_
     exact .inr ⟨fun h => by have h := (fieldsC_1 (y := ceP y) h28).1 h; exact hy31 h.1, rfl, H.sub (List.nil_sublist _)⟩
   ·refine zq 142 ⟨rfl, rfl⟩ ?_
    refine s_val (r_eql rfl rfl) ?_
    refine za ?_
    refine zc (t100 (t40 (t2 []))) ?_
    refine c_if rfl (fun h43 => ?_) (fun h43 => ?_)
    ·cases eb
     ·refine zq 142 ⟨rfl, rfl⟩ ?_
      refine s_val (zo qg40 qs40 (H.at 0 rfl)) ?_
      refine s_call (r_call qc83 (ec rfl en)) (placeok_spec _ _ _ _) ?_
      rintro v w (⟨hy46, rfl, HC⟩ | ⟨hy46, rfl, HC⟩)
      ·replace H := H.quiet HC
       refine zm ?_
       refine zy ?_
       refine zm ?_
       refine zv ?_
       refine za ?_
       refine zc (t100 (t40 (t2 []))) ?_
       refine wp_ret (x_blockRet (x_thenRet ?_))
       refine zw (res1 rfl rfl) ?_
       exact .inr ⟨fun h => by have h := (fieldsC_2 (y := ceP y) h43).1 h; exact of_decide_eq_false heb.symm h.2, rfl, H.sub (List.nil_sublist _)⟩
      ·replace H := H.quiet HC
       refine zm ?_
       refine zg ?_
       refine zf ?_
       refine za ?_
       refine zc (t100 (t40 (t2 []))) ?_
       refine wp_ret (x_blockRet (x_thenRet ?_))
       refine zw (res1 rfl rfl) ?_
       exact .inr ⟨fun h => by have h := (fieldsC_2 (y := ceP y) h43).1 h; exact hy46 h.1, rfl, H.sub (List.nil_sublist _)⟩
     ·refine zq 142 ⟨rfl, rfl⟩ ?_
      refine s_val (zo qg40 qs40 (H.at 0 rfl)) ?_
      refine s_call (r_call qc83 (ec rfl en)) (placeok_spec _ _ _ _) ?_
      rintro v w (⟨hy46, rfl, HC⟩ | ⟨hy46, rfl, HC⟩)
      ·replace H := H.quiet HC
       refine zm ?_
       refine zy ?_
       refine zm ?_
       refine zv ?_
       refine za ?_
       refine zc (t100 (t40 (t2 []))) ?_
       refine wp_ret (x_blockRet (x_thenRet ?_))
       refine zw (res1 rfl rfl) ?_
       exact .inl ⟨(fieldsC_2 (y := ceP y) h43).2 ⟨hy46, of_decide_eq_true heb.symm⟩, rfl, H.sub (List.nil_sublist _)⟩
      ·replace H := H.quiet HC
       refine zm ?_
       refine zg ?_
       refine zf ?_
       refine za ?_
       refine zc (t100 (t40 (t2 []))) ?_
       refine wp_ret (x_blockRet (x_thenRet ?_))
       refine zw (res1 rfl rfl) ?_
       exact .inr ⟨fun h => by have h := (fieldsC_2 (y := ceP y) h43).1 h; exact hy46 h.1, rfl, H.sub (List.nil_sublist _)⟩
    ·refine zq 142 ⟨rfl, rfl⟩ ?_
     refine s_val (r_eql rfl rfl) ?_
     refine za ?_
     refine zc (t100 (t40 (t2 []))) ?_
     refine c_if rfl (fun h50 => ?_) (fun h50 => ?_)
     ·cases eb
      ·refine zq 142 ⟨rfl, rfl⟩ ?_
       refine s_val (zo qg40 qs40 (H.at 0 rfl)) ?_
       refine s_call (r_call qc83 (ec rfl en)) (placeok_spec _ _ _ _) ?_
       rintro v w (⟨hy53, rfl, HC⟩ | ⟨hy53, rfl, HC⟩)
       ·replace H := H.quiet HC
        refine zm ?_
        refine zy ?_
        refine zm ?_
        refine zv ?_
        refine zm ?_
        refine zg ?_
        refine zg ?_
        refine zg ?_
        refine zg ?_
        refine zf ?_
        refine zm ?_
        refine zg ?_
        refine zg ?_
        refine zg ?_
        refine zg ?_
        refine zf ?_
        refine za ?_
        refine zc (t100 (t40 (t2 []))) ?_
        refine wp_ret (x_blockRet (x_thenRet ?_))
        refine zw (res1 rfl rfl) ?_
        exact .inr ⟨fun h => by have h := (fieldsC_3 (y := ceP y) h50).1 h; exact of_decide_eq_false heb.symm h.2.1, rfl, H.sub (List.nil_sublist _)⟩
       ·replace H := H.quiet HC
        refine zm ?_
        refine zg ?_
        refine zf ?_
        refine zm ?_
        refine zg ?_
        refine zg ?_
        refine zg ?_
        refine zg ?_
        refine zf ?_
        refine zm ?_
        refine zg ?_
        refine zg ?_
        refine zg ?_
        refine zg ?_
        refine zf ?_
        refine za ?_
        refine zc (t100 (t40 (t2 []))) ?_
        refine wp_ret (x_blockRet (x_thenRet ?_))
        refine zw (res1 rfl rfl) ?_
        exact .inr ⟨fun h => by have h := (fieldsC_3 (y := ceP y) h50).1 h; exact hy53 h.1, rfl, H.sub (List.nil_sublist _)⟩
      ·refine zq 142 ⟨rfl, rfl⟩ ?_
       refine s_val (zo qg40 qs40 (H.at 0 rfl)) ?_
       refine s_call (r_call qc83 (ec rfl en)) (placeok_spec _ _ _ _) ?_
       rintro v w (⟨hy53, rfl, HC⟩ | ⟨hy53, rfl, HC⟩)
       ·replace H := H.quiet HC
        refine zm ?_
        refine zy ?_
        refine zm ?_
        refine zv ?_
        refine zm ?_
        refine zy ?_
        refine zR 10 qu43 qs41 ?_
        refine zy ?_
        refine zL qg41 (H.at 1 rfl) ?_
        refine zy ?_
        refine s_val (r_lens qu41 (ec rfl en)) ?_
        refine zy ?_
        refine s_test (r_geq rfl rfl) (fun h61 => ?_) (fun h61 => ?_)
        ·refine zv ?_
         refine zm ?_
         refine zy ?_
         refine zR 10 qu43 qs41 ?_
         refine zy ?_
         refine zL qg41 (H.at 1 rfl) ?_
         refine zy ?_
         refine s_val (r_lens qu41 (ec rfl en)) ?_
         refine zy ?_
         refine s_test (r_leq rfl rfl) (fun h67 => ?_) (fun h67 => ?_)
         ·refine zv ?_
          refine za ?_
          refine zc (t100 (t40 (t2 []))) ?_
          refine wp_ret (x_blockRet (x_thenRet ?_))
          refine zw (res1 rfl rfl) ?_
          exact .inl ⟨(fieldsC_3 (y := ceP y) h50).2 ⟨hy53, of_decide_eq_true heb.symm, by have : (y.body.b.length : Int) ≥ 1 := h61; show 1 ≤ y.body.b.length; omega, by have : (y.body.b.length : Int) ≤ 20 := h67; show y.body.b.length ≤ 20; omega⟩, rfl, H.sub (List.nil_sublist _)⟩
         ·refine zv ?_
          refine za ?_
          refine zc (t100 (t40 (t2 []))) ?_
          refine wp_ret (x_blockRet (x_thenRet ?_))
          refine zw (res1 rfl rfl) ?_
          exact .inr ⟨fun h => by have h := (fieldsC_3 (y := ceP y) h50).1 h; exact h67 (by have h9 : y.body.b.length ≤ 20 := h.2.2.2; omega), rfl, H.sub (List.nil_sublist _)⟩
        ·refine zv ?_
         refine zm ?_
         refine zg ?_
         refine zg ?_
         refine zg ?_
         refine zg ?_
         refine zf ?_
         refine za ?_
         refine zc (t100 (t40 (t2 []))) ?_
         refine wp_ret (x_blockRet (x_thenRet ?_))
         refine zw (res1 rfl rfl) ?_
         exact .inr ⟨fun h => by have h := (fieldsC_3 (y := ceP y) h50).1 h; exact h61 (by have h9 : 1 ≤ y.body.b.length := h.2.2.1; omega), rfl, H.sub (List.nil_sublist _)⟩
       ·replace H := H.quiet HC
        refine zm ?_
        refine zg ?_
        refine zf ?_
        refine zm ?_
        refine zg ?_
        refine zg ?_
        refine zg ?_
        refine zg ?_
        refine zf ?_
        refine zm ?_
        refine zg ?_
        refine zg ?_
        refine zg ?_
        refine zg ?_
        refine zf ?_
        refine za ?_
        refine zc (t100 (t40 (t2 []))) ?_
        refine wp_ret (x_blockRet (x_thenRet ?_))
        refine zw (res1 rfl rfl) ?_
        exact .inr ⟨fun h => by have h := (fieldsC_3 (y := ceP y) h50).1 h; exact hy53 h.1, rfl, H.sub (List.nil_sublist _)⟩
     ·refine zq 142 ⟨rfl, rfl⟩ ?_
      refine s_val (r_eql rfl rfl) ?_
      refine za ?_
      refine zc (t100 (t40 (t2 []))) ?_
      refine c_if rfl (fun h69 => ?_) (fun h69 => ?_)
      ·rcases bb with _ | _ <;> rcases eb with _ | _
       ·refine zq 142 ⟨rfl, rfl⟩ ?_
        refine zm ?_
        refine zm ?_
        refine zg ?_
        refine zg ?_
        refine zg ?_
        refine zf ?_
        refine zm ?_
        refine zg ?_
        refine zg ?_
        refine zg ?_
        refine zg ?_
        refine zg ?_
        refine zf ?_
        refine zm ?_
        refine zg ?_
        refine zg ?_
        refine zg ?_
        refine zf ?_
        refine zm ?_
        refine zg ?_
        refine zf ?_
        refine za ?_
        refine zc (t100 (t40 (t2 []))) ?_
        refine wp_ret (x_blockRet (x_thenRet ?_))
        refine zw (res1 rfl rfl) ?_
        exact .inr ⟨fun h => by have h := (fieldsC_4 (y := ceP y) h69).1 h; exact of_decide_eq_false hbb.symm h.1, rfl, H.sub (List.nil_sublist _)⟩
       ·refine zq 142 ⟨rfl, rfl⟩ ?_
        refine zm ?_
        refine zm ?_
        refine zg ?_
        refine zg ?_
        refine zg ?_
        refine zf ?_
        refine zm ?_
        refine zg ?_
        refine zg ?_
        refine zg ?_
        refine zg ?_
        refine zg ?_
        refine zf ?_
        refine zm ?_
        refine zg ?_
        refine zg ?_
        refine zg ?_
        refine zf ?_
        refine zm ?_
        refine zg ?_
        refine zf ?_
        refine za ?_
        refine zc (t100 (t40 (t2 []))) ?_
        refine wp_ret (x_blockRet (x_thenRet ?_))
        refine zw (res1 rfl rfl) ?_
        exact .inr ⟨fun h => by have h := (fieldsC_4 (y := ceP y) h69).1 h; exact of_decide_eq_false hbb.symm h.1, rfl, H.sub (List.nil_sublist _)⟩
       ·refine zq 142 ⟨rfl, rfl⟩ ?_
        refine zm ?_
        refine zm ?_
        refine zy ?_
        refine zR 1 qu40 qs3 ?_
        refine zy ?_
        refine zL qg3 (H.at 0 rfl) ?_
        refine zy ?_
        refine s_call (r_call qc66 (ec rfl (ec rfl en))) (within_spec _ _ _) ?_
        rintro v w (⟨hy75, rfl, HC⟩ | ⟨hy75, rfl, HC⟩)
        ·replace H := H.quiet HC
         refine zv ?_
         refine zm ?_
         refine zy ?_
         refine zR 1 qu40 qs3 ?_
         refine zy ?_
         refine zL qg3 (H.at 0 rfl) ?_
         refine zy ?_
         refine zR 0 qu40 qs3 ?_
         refine zy ?_
         refine zL qg3 (H.at 0 rfl) ?_
         refine zy ?_
         refine s_test (r_neq rfl rfl) (fun h82 => ?_) (fun h82 => ?_)
         ·refine zv ?_
          refine zm ?_
          refine zy ?_
          refine zR 2 qu40 qs3 ?_
          refine zy ?_
          refine zL qg3 (H.at 0 rfl) ?_
          refine zy ?_
          refine s_test (r_eql rfl rfl) (fun h87 => ?_) (fun h87 => ?_)
          ·refine zv ?_
           refine zm ?_
           refine zy ?_
           refine zm ?_
           refine zv ?_
           refine za ?_
           refine zc (t100 (t40 (t2 []))) ?_
           refine wp_ret (x_blockRet (x_thenRet ?_))
           refine zw (res1 rfl rfl) ?_
           exact .inr ⟨fun h => by have h := (fieldsC_4 (y := ceP y) h69).1 h; exact of_decide_eq_false heb.symm h.2.2.2.2, rfl, H.sub (List.nil_sublist _)⟩
          ·refine zv ?_
           refine zm ?_
           refine zg ?_
           refine zf ?_
           refine za ?_
           refine zc (t100 (t40 (t2 []))) ?_
           refine wp_ret (x_blockRet (x_thenRet ?_))
           refine zw (res1 rfl rfl) ?_
           exact .inr ⟨fun h => by have h := (fieldsC_4 (y := ceP y) h69).1 h; exact h87 h.2.2.2.1, rfl, H.sub (List.nil_sublist _)⟩
         ·refine zv ?_
          refine zm ?_
          refine zg ?_
          refine zg ?_
          refine zg ?_
          refine zf ?_
          refine zm ?_
          refine zg ?_
          refine zf ?_
          refine za ?_
          refine zc (t100 (t40 (t2 []))) ?_
          refine wp_ret (x_blockRet (x_thenRet ?_))
          refine zw (res1 rfl rfl) ?_
          exact .inr ⟨fun h => by have h := (fieldsC_4 (y := ceP y) h69).1 h; exact h82 h.2.2.1, rfl, H.sub (List.nil_sublist _)⟩
        ·replace H := H.quiet HC
         refine zv ?_
         refine zm ?_
         refine zg ?_
         refine zg ?_
         refine zg ?_
         refine zg ?_
         refine zg ?_
         refine zf ?_
         refine zm ?_
         refine zg ?_
         refine zg ?_
         refine zg ?_
         refine zf ?_
         refine zm ?_
         refine zg ?_
         refine zf ?_
         refine za ?_
         refine zc (t100 (t40 (t2 []))) ?_
         refine wp_ret (x_blockRet (x_thenRet ?_))
         refine zw (res1 rfl rfl) ?_
         exact .inr ⟨fun h => by have h := (fieldsC_4 (y := ceP y) h69).1 h; exact hy75 h.2.1, rfl, H.sub (List.nil_sublist _)⟩
       ·refine zq 142 ⟨rfl, rfl⟩ ?_
        refine zm ?_
        refine zm ?_
        refine zy ?_
        refine zR 1 qu40 qs3 ?_
        refine zy ?_
        refine zL qg3 (H.at 0 rfl) ?_
        refine zy ?_
        refine s_call (r_call qc66 (ec rfl (ec rfl en))) (within_spec _ _ _) ?_
        rintro v w (⟨hy75, rfl, HC⟩ | ⟨hy75, rfl, HC⟩)
        ·replace H := H.quiet HC
         refine zv ?_
         refine zm ?_
         refine zy ?_
         refine zR 1 qu40 qs3 ?_
         refine zy ?_
         refine zL qg3 (H.at 0 rfl) ?_
         refine zy ?_
         refine zR 0 qu40 qs3 ?_
         refine zy ?_
         refine zL qg3 (H.at 0 rfl) ?_
         refine zy ?_
         refine s_test (r_neq rfl rfl) (fun h82 => ?_) (fun h82 => ?_)
         ·refine zv ?_
          refine zm ?_
          refine zy ?_
          refine zR 2 qu40 qs3 ?_
          refine zy ?_
          refine zL qg3 (H.at 0 rfl) ?_
          refine zy ?_
          refine s_test (r_eql rfl rfl) (fun h87 => ?_) (fun h87 => ?_)
          ·refine zv ?_
           refine zm ?_
           refine zy ?_
           refine zm ?_
           refine zv ?_
           refine za ?_
           refine zc (t100 (t40 (t2 []))) ?_
           refine wp_ret (x_blockRet (x_thenRet ?_))
           refine zw (res1 rfl rfl) ?_
           exact .inl ⟨(fieldsC_4 (y := ceP y) h69).2 ⟨of_decide_eq_true hbb.symm, hy75, h82, h87, of_decide_eq_true heb.symm⟩, rfl, H.sub (List.nil_sublist _)⟩
          ·refine zv ?_
           refine zm ?_
           refine zg ?_
           refine zf ?_
           refine za ?_
           refine zc (t100 (t40 (t2 []))) ?_
           refine wp_ret (x_blockRet (x_thenRet ?_))
           refine zw (res1 rfl rfl) ?_
           exact .inr ⟨fun h => by have h := (fieldsC_4 (y := ceP y) h69).1 h; exact h87 h.2.2.2.1, rfl, H.sub (List.nil_sublist _)⟩
         ·refine zv ?_
          refine zm ?_
          refine zg ?_
          refine zg ?_
          refine zg ?_
          refine zf ?_
          refine zm ?_
          refine zg ?_
          refine zf ?_
          refine za ?_
          refine zc (t100 (t40 (t2 []))) ?_
          refine wp_ret (x_blockRet (x_thenRet ?_))
          refine zw (res1 rfl rfl) ?_
          exact .inr ⟨fun h => by have h := (fieldsC_4 (y := ceP y) h69).1 h; exact h82 h.2.2.1, rfl, H.sub (List.nil_sublist _)⟩
        ·replace H := H.quiet HC
         refine zv ?_
         refine zm ?_
         refine zg ?_
         refine zg ?_
         refine zg ?_
         refine zg ?_
         refine zg ?_
         refine zf ?_
         refine zm ?_
         refine zg ?_
         refine zg ?_
         refine zg ?_
         refine zf ?_
         refine zm ?_
         refine zg ?_
         refine zf ?_
         refine za ?_
         refine zc (t100 (t40 (t2 []))) ?_
         refine wp_ret (x_blockRet (x_thenRet ?_))
         refine zw (res1 rfl rfl) ?_
         exact .inr ⟨fun h => by have h := (fieldsC_4 (y := ceP y) h69).1 h; exact hy75 h.2.1, rfl, H.sub (List.nil_sublist _)⟩
      ·refine zq 142 ⟨rfl, rfl⟩ ?_
       refine s_val (r_eql rfl rfl) ?_
       refine za ?_
       refine zc (t100 (t40 (t2 []))) ?_
       refine c_if rfl (fun h92 => ?_) (fun h92 => ?_)
       ·cases bb
        ·refine zq 142 ⟨rfl, rfl⟩ ?_
         refine zm ?_
         refine zm ?_
         refine zg ?_
         refine zg ?_
         refine zg ?_
         refine zf ?_
         refine zm ?_
         refine zg ?_
         refine zg ?_
         refine zg ?_
         refine zf ?_
         refine za ?_
         refine zc (t100 (t40 (t2 []))) ?_
         refine wp_ret (x_blockRet (x_thenRet ?_))
         refine zw (res1 rfl rfl) ?_
         exact .inr ⟨fun h => by have h := (fieldsC_5 (y := ceP y) h92).1 h; exact of_decide_eq_false hbb.symm h.1, rfl, H.sub (List.nil_sublist _)⟩
        ·refine zq 142 ⟨rfl, rfl⟩ ?_
         refine zm ?_
         refine zm ?_
         refine zy ?_
         refine zR 1 qu40 qs3 ?_
         refine zy ?_
         refine zL qg3 (H.at 0 rfl) ?_
         refine zy ?_
         refine s_test (r_eql rfl rfl) (fun h98 => ?_) (fun h98 => ?_)
         ·refine zv ?_
          refine zm ?_
          refine zy ?_
          refine zR 2 qu40 qs3 ?_
          refine zy ?_
          refine zL qg3 (H.at 0 rfl) ?_
          refine zy ?_
          refine s_test (r_eql rfl rfl) (fun h103 => ?_) (fun h103 => ?_)
          ·refine zv ?_
           refine za ?_
           refine zc (t100 (t40 (t2 []))) ?_
           refine wp_ret (x_blockRet (x_thenRet ?_))
           refine zw (res1 rfl rfl) ?_
           exact .inl ⟨(fieldsC_5 (y := ceP y) h92).2 ⟨of_decide_eq_true hbb.symm, h98, h103⟩, rfl, H.sub (List.nil_sublist _)⟩
          ·refine zv ?_
           refine za ?_
           refine zc (t100 (t40 (t2 []))) ?_
           refine wp_ret (x_blockRet (x_thenRet ?_))
           refine zw (res1 rfl rfl) ?_
           exact .inr ⟨fun h => by have h := (fieldsC_5 (y := ceP y) h92).1 h; exact h103 h.2.2, rfl, H.sub (List.nil_sublist _)⟩
         ·refine zv ?_
          refine zm ?_
          refine zg ?_
          refine zg ?_
          refine zg ?_
          refine zf ?_
          refine za ?_
          refine zc (t100 (t40 (t2 []))) ?_
          refine wp_ret (x_blockRet (x_thenRet ?_))
          refine zw (res1 rfl rfl) ?_
          exact .inr ⟨fun h => by have h := (fieldsC_5 (y := ceP y) h92).1 h; exact h98 h.2.1, rfl, H.sub (List.nil_sublist _)⟩
       ·refine zq 142 ⟨rfl, rfl⟩ ?_
        refine s_val (r_eql rfl rfl) ?_
        refine za ?_
        refine zc (t100 (t40 (t2 []))) ?_
        refine c_if rfl (fun h105 => ?_) (fun h105 => ?_)
        ·refine zq 142 ⟨rfl, rfl⟩ ?_
         refine zR 6 qu43 qs28 ?_
         refine zL qg28 (H.at 1 rfl) ?_
         refine s_test (r_geq rfl rfl) (fun h109 => ?_) (fun h109 => ?_)
         ·refine zm ?_
          refine zy ?_
          refine zR 6 qu43 qs28 ?_
          refine zy ?_
          refine zL qg28 (H.at 1 rfl) ?_
          refine zy ?_
          refine s_test (r_leq rfl rfl) (fun h113 => ?_) (fun h113 => ?_)
          ·refine zv ?_
           refine zm ?_
           refine zy ?_
           refine zR 7 qu43 qs3 ?_
           refine zy ?_
           refine zL qg3 (H.at 1 rfl) ?_
           refine zy ?_
           refine zR 8 qu43 qs3 ?_
           refine zy ?_
           refine zL qg3 (H.at 1 rfl) ?_
           refine zy ?_
           refine s_call (r_call qc66 (ec rfl (ec rfl en))) (within_spec _ _ _) ?_
           rintro v w (⟨hy120, rfl, HC⟩ | ⟨hy120, rfl, HC⟩)
           ·replace H := H.quiet HC
            refine zv ?_
            refine zm ?_
            refine zy ?_
            refine zR 8 qu43 qs3 ?_
            refine zy ?_
            refine zL qg3 (H.at 1 rfl) ?_
            refine zy ?_
            refine s_call (r_call qc66 (ec rfl (ec rfl en))) (within_spec _ _ _) ?_
            rintro v w (⟨hy125, rfl, HC⟩ | ⟨hy125, rfl, HC⟩)
            ·replace H := H.quiet HC
             refine zv ?_
             refine zm ?_
             refine zy ?_
             refine zR 9 qu43 qs3 ?_
             refine zy ?_
             refine zL qg3 (H.at 1 rfl) ?_
             refine zy ?_
             refine s_call (r_call qc66 (ec rfl (ec rfl en))) (within_spec _ _ _) ?_
             rintro v w (⟨hy130, rfl, HC⟩ | ⟨hy130, rfl, HC⟩)
             ·replace H := H.quiet HC
              refine zv ?_
              refine za ?_
              refine zc (t100 (t40 (t2 []))) ?_
              refine wp_ret (x_blockRet (x_thenRet ?_))
              refine zw (res1 rfl rfl) ?_
              exact .inl ⟨(fieldsC_6 (y := ceP y) h105).2 ⟨h109, h113, hy120, hy125, hy130⟩, rfl, H.sub (List.nil_sublist _)⟩
             ·replace H := H.quiet HC
              refine zv ?_
              refine za ?_
              refine zc (t100 (t40 (t2 []))) ?_
              refine wp_ret (x_blockRet (x_thenRet ?_))
              refine zw (res1 rfl rfl) ?_
              exact .inr ⟨fun h => by have h := (fieldsC_6 (y := ceP y) h105).1 h; exact hy130 h.2.2.2.2, rfl, H.sub (List.nil_sublist _)⟩
            ·replace H := H.quiet HC
             refine zv ?_
             refine zm ?_
             refine zg ?_
             refine zg ?_
             refine zg ?_
             refine zf ?_
             refine za ?_
             refine zc (t100 (t40 (t2 []))) ?_
             refine wp_ret (x_blockRet (x_thenRet ?_))
             refine zw (res1 rfl rfl) ?_
             exact .inr ⟨fun h => by have h := (fieldsC_6 (y := ceP y) h105).1 h; exact hy125 h.2.2.2.1, rfl, H.sub (List.nil_sublist _)⟩
           ·replace H := H.quiet HC
            refine zv ?_
            refine zm ?_
            refine zg ?_
            refine zg ?_
            refine zg ?_
            refine zf ?_
            refine zm ?_
            refine zg ?_
            refine zg ?_
            refine zg ?_
            refine zf ?_
            refine za ?_
            refine zc (t100 (t40 (t2 []))) ?_
            refine wp_ret (x_blockRet (x_thenRet ?_))
            refine zw (res1 rfl rfl) ?_
            exact .inr ⟨fun h => by have h := (fieldsC_6 (y := ceP y) h105).1 h; exact hy120 h.2.2.1, rfl, H.sub (List.nil_sublist _)⟩
          ·refine zv ?_
           refine zm ?_
           refine zg ?_
           refine zg ?_
           refine zg ?_
           refine zg ?_
           refine zg ?_
           refine zf ?_
           refine zm ?_
           refine zg ?_
           refine zg ?_
           refine zg ?_
           refine zf ?_
           refine zm ?_
           refine zg ?_
           refine zg ?_
           refine zg ?_
           refine zf ?_
           refine za ?_
           refine zc (t100 (t40 (t2 []))) ?_
           refine wp_ret (x_blockRet (x_thenRet ?_))
           refine zw (res1 rfl rfl) ?_
           exact .inr ⟨fun h => by have h := (fieldsC_6 (y := ceP y) h105).1 h; exact h113 h.2.1, rfl, H.sub (List.nil_sublist _)⟩
         ·refine zm ?_
          refine zg ?_
          refine zg ?_
          refine zg ?_
          refine zf ?_
          refine zm ?_
          refine zg ?_
          refine zg ?_
          refine zg ?_
          refine zg ?_
          refine zg ?_
          refine zf ?_
          refine zm ?_
          refine zg ?_
          refine zg ?_
          refine zg ?_
          refine zf ?_
          refine zm ?_
          refine zg ?_
          refine zg ?_
          refine zg ?_
          refine zf ?_
          refine za ?_
          refine zc (t100 (t40 (t2 []))) ?_
          refine wp_ret (x_blockRet (x_thenRet ?_))
          refine zw (res1 rfl rfl) ?_
          exact .inr ⟨fun h => by have h := (fieldsC_6 (y := ceP y) h105).1 h; exact h109 h.1, rfl, H.sub (List.nil_sublist _)⟩
        ·refine zq 142 ⟨rfl, rfl⟩ ?_
         refine s_val (r_eql rfl rfl) ?_
         refine za ?_
         refine zc (t100 (t40 (t2 []))) ?_
         refine c_if rfl (fun h132 => ?_) (fun h132 => ?_)
         ·refine zq 142 ⟨rfl, rfl⟩ ?_
          refine zR 6 qu43 qs28 ?_
          refine zL qg28 (H.at 1 rfl) ?_
          refine s_test (r_geq rfl rfl) (fun h136 => ?_) (fun h136 => ?_)
          ·refine zm ?_
           refine zy ?_
           refine zR 6 qu43 qs28 ?_
           refine zy ?_
           refine zL qg28 (H.at 1 rfl) ?_
           refine zy ?_
           refine s_test (r_leq rfl rfl) (fun h140 => ?_) (fun h140 => ?_)
           ·refine zv ?_
            refine za ?_
            refine zc (t100 (t40 (t2 []))) ?_
            refine wp_ret (x_blockRet (x_thenRet ?_))
            refine zw (res1 rfl rfl) ?_
            exact .inl ⟨(fieldsC_7 (y := ceP y) h132).2 ⟨h136, h140⟩, rfl, H.sub (List.nil_sublist _)⟩
           ·refine zv ?_
            refine za ?_
            refine zc (t100 (t40 (t2 []))) ?_
            refine wp_ret (x_blockRet (x_thenRet ?_))
            refine zw (res1 rfl rfl) ?_
            exact .inr ⟨fun h => by have h := (fieldsC_7 (y := ceP y) h132).1 h; exact h140 h.2, rfl, H.sub (List.nil_sublist _)⟩
          ·refine zm ?_
           refine zg ?_
           refine zg ?_
           refine zg ?_
           refine zf ?_
           refine za ?_
           refine zc (t100 (t40 (t2 []))) ?_
           refine wp_ret (x_blockRet (x_thenRet ?_))
           refine zw (res1 rfl rfl) ?_
           exact .inr ⟨fun h => by have h := (fieldsC_7 (y := ceP y) h132).1 h; exact h136 h.1, rfl, H.sub (List.nil_sublist _)⟩
         ·refine wp_skip ?_
          refine x_blockNormal ?_
          refine x_thenNormal ?_
          refine zq 142 ⟨rfl, rfl⟩ ?_
          refine za ?_
          refine zc (t100 (t40 (t2 []))) ?_
          refine wp_ret ?_
          refine zw (res1 rfl rfl) ?_
          exact .inl ⟨fieldsC_8 h28 h43 h50 h69 h92 h105 h132, rfl, H.sub (List.nil_sublist _)⟩

end Go.Proofs.Ytobfnieebiakeaa

