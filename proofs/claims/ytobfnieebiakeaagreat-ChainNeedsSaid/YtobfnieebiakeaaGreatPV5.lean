import Derived.Test.YtobfnieebiakeaaGreatPM
import Derived.Test.YtobfnieebiakeaaGreatPV4
namespace Go.Proofs.YtobfnieebiakeaaGreat
open Go Go.Er

set_option maxHeartbeats 4000000 in
set_option maxRecDepth 20000 in
theorem right12_spec (y : Ce) (w0 : World) (hy : BRow w0 y.body.a y.body.b) :
  Calls Tryz.prog 39 #[.agg (ceC y).toArray] w0 fun e w => ∃ v, e = .returned v ∧ (((rightC (ceP y)) ∧ v = .bool true ∧ St w0 [] w []) ∨ (¬ (rightC (ceP y)) ∧ v = .bool false ∧ St w0 [] w [])) := by
 have H := St.refl w0
 refine c_enter (args := [.agg (ceC y).toArray]) (l := t100 (t100 (t30 (t8 [])))) Tryz.func39 Tryz.ntmps39 rfl rfl ?_
 refine zq 238 ⟨rfl, rfl⟩ ?_
 refine s_new (m_box (cs := (ceC y)) H rfl rfl) ?_
 intro w b1 H
 refine za ?_
 refine zc (t100 (t100 (t30 (t8 [])))) ?_
 refine c_seq ?_
 refine zq 238 ⟨rfl, rfl⟩ ?_
 refine zR 1 qu65 qs28 ?_
 refine zL qg28 (H.at 0 rfl) ?_
 refine s_test (r_lss rfl rfl) (fun h8 => ?_) (fun h8 => ?_)
 ·refine zm ?_
  refine zg ?_
  refine zg ?_
  refine zg ?_
  refine zv ?_
  refine zm ?_
  refine zg ?_
  refine zg ?_
  refine zg ?_
  refine zg ?_
  refine zv ?_
  refine zc (t100 (t100 (t30 (t8 [])))) ?_
  refine c_ift rfl ?_
  refine zq 238 ⟨rfl, rfl⟩ ?_
  refine za ?_
  refine zc (t100 (t100 (t30 (t8 [])))) ?_
  refine wp_ret (x_thenRet ?_)
  refine zw (res1 rfl rfl) ?_
  exact .inr ⟨fun h => by have h3 : 1 ≤ y.num := h.2.2.1; exact absurd h8 (by show ¬ y.num < 1; omega), rfl, (H.sub (List.nil_sublist _))⟩
 ·refine zm ?_
  refine zy ?_
  refine zR 1 qu65 qs28 ?_
  refine zy ?_
  refine zL qg28 (H.at 0 rfl) ?_
  refine zy ?_
  refine s_test (r_gtr rfl rfl) (fun h12 => ?_) (fun h12 => ?_)
  ·refine zf ?_
   refine zm ?_
   refine zg ?_
   refine zg ?_
   refine zg ?_
   refine zg ?_
   refine zv ?_
   refine zc (t100 (t100 (t30 (t8 [])))) ?_
   refine c_ift rfl ?_
   refine zq 238 ⟨rfl, rfl⟩ ?_
   refine za ?_
   refine zc (t100 (t100 (t30 (t8 [])))) ?_
   refine wp_ret (x_thenRet ?_)
   refine zw (res1 rfl rfl) ?_
   exact .inr ⟨fun h => by have h3 : y.num ≤ 65535 := h.2.2.2.1; exact absurd h12 (by show ¬ y.num > 65535; omega), rfl, (H.sub (List.nil_sublist _))⟩
  ·refine zf ?_
   refine zm ?_
   refine zy ?_
   refine zR 2 qu65 qs3 ?_
   refine zy ?_
   refine zL qg3 (H.at 0 rfl) ?_
   refine zy ?_
   refine s_call (r_call qc61 (ec rfl en)) (minute_spec _ _) ?_
   rintro v w (⟨hy17, rfl, HC⟩ | ⟨hy17, rfl, HC⟩)
   ·replace H := H.quiet HC
    refine zy ?_
    refine s_val (r_not rfl) ?_
    refine zf ?_
    refine zc (t100 (t100 (t30 (t8 [])))) ?_
    refine c_iff rfl ?_
    refine wp_skip ?_
    refine x_thenNormal ?_
    refine zq 238 ⟨rfl, rfl⟩ ?_
    refine zR 0 qu65 qs3 ?_
    refine zL qg3 (H.at 0 rfl) ?_
    refine zR 1 qu65 qs28 ?_
    refine zL qg28 (H.at 0 rfl) ?_
    refine zR 2 qu65 qs3 ?_
    refine zL qg3 (H.at 0 rfl) ?_
    refine s_val (r_buildS qu65 qo65 places65 (pc rfl (pc rfl (pc rfl pn))) (rfl : fillL _ _ _ = some (ceC (oD0 y)))) ?_
    refine s_new (zA (ceC ce0) H qo65) ?_
    intro w b3 H
    refine s_st (zs H 0 11 qs65) (L' := (_ :: _ :: _)) rfl ?_
    intro w H
    refine zc (t100 (t100 (t30 (t8 [])))) ?_
    refine c_cut (fun (l0 : List Value) (l : List Value) (w : World) => ∃ (u27 u28 u29 u30 u31 u32 u33 u34 u35 u36 : Value) (eb : Bool), l = ovr l0 [N_, N_, N_, N_, Y_ (.bool eb), N_, N_, N_, N_, N_, N_, N_, N_, N_, N_, N_, N_, N_, N_, N_, N_, N_, N_, N_, N_, N_, N_, Y_ u27, Y_ u28, Y_ u29, Y_ u30, Y_ u31, Y_ u32, Y_ u33, Y_ u34, Y_ u35, Y_ u36] ∧ eb = decide (elderC (ceP y)) ∧ St w0 [] w [(b3, .cells (ceC (oD0 y)).toArray 65 (0, 0)), (b1, .cells (ceC y).toArray 65 (0, 0))]) ?_ ?_
    ·refine c_region (n := 238) ⟨rfl, rfl⟩ ?_
     refine zR 6 qu65 qs28 ?_
     refine zL qg28 (H.at 1 rfl) ?_
     refine s_test (r_geq rfl rfl) (fun h29 => ?_) (fun h29 => ?_)
     ·refine zm ?_
      refine zy ?_
      refine zR 6 qu65 qs28 ?_
      refine zy ?_
      refine zL qg28 (H.at 1 rfl) ?_
      refine zy ?_
      refine zR 1 qu65 qs28 ?_
      refine zy ?_
      refine zL qg28 (H.at 1 rfl) ?_
      refine zy ?_
      refine s_val (r_lss rfl rfl) ?_
      refine zv ?_
      refine za ?_
      refine zb (t100 (t100 (t30 (t8 [])))) ?_
      exact ⟨_, rfl, ⟨_, _, _, _, _, _, _, _, _, _, _, rfl, (decide_eq_decide.2 ⟨fun h => ⟨h29, h⟩, fun h => h.2⟩), H⟩⟩
     ·refine zm ?_
      refine zg ?_
      refine zg ?_
      refine zg ?_
      refine zg ?_
      refine zg ?_
      refine zf ?_
      refine za ?_
      refine zb (t100 (t100 (t30 (t8 [])))) ?_
      exact ⟨_, rfl, ⟨_, _, _, _, _, _, _, _, _, _, _, rfl, (by rw [decide_eq_false (fun h => h29 h.1)]), H⟩⟩
    ·rintro l w ⟨u27, u28, u29, u30, u31, u32, u33, u34, u35, u36, eb, hl, heb, H⟩
     obtain rfl := hl.trans (rfl : _ = t100 (t100 (t30 (t8 []))))
     clear hl
     have hnum : numOk y := ⟨by omega, by omega, hy17⟩
     refine zq 238 ⟨rfl, rfl⟩ ?_
     refine za ?_
     refine zc (t100 (t100 (t30 (t8 [])))) ?_
     refine c_seq ?_
     refine zq 238 ⟨rfl, rfl⟩ ?_
     refine zR 0 qu65 qs3 ?_
     refine zL qg3 (H.at 1 rfl) ?_
     refine zc (t100 (t100 (t30 (t8 [])))) ?_
     refine wp_block ?_
     refine zq 238 ⟨rfl, rfl⟩ ?_
     refine s_val (r_eql rfl rfl) ?_
     refine za ?_
     refine zc (t100 (t100 (t30 (t8 [])))) ?_
     refine c_if rfl (fun h39 => ?_) (fun h39 => ?_)
     ·refine c_seq ?_
      refine d_begin (sz := 238) ⟨rfl, rfl⟩ (by kernel_rfl) H (H.sub x01r) rfl ?_
      intro w H
      refine zd 0 rfl (by kernel_rfl) (fun _ _ _ h => h) (H.sub x01r) (zr 3 qu65 qs63) rfl ?_
      refine zdh 1 rfl (by kernel_rfl) (fun _ _ _ h => h) (H.sub x01r) (fun HS => zp qg63 qs63 (HS.at 0 rfl) (ceC_place _)) rfl ?_
      refine zd 2 rfl (by kernel_rfl) (fun _ _ _ h => h) (H.sub x01r) (zr 6 qu65 qs28) rfl ?_
      refine zdh 3 rfl (by kernel_rfl) (fun _ _ _ h => h) (H.sub x01r) (fun HS => z1 qg28 (HS.at 0 rfl)) rfl ?_
      refine zd 4 rfl (by kernel_rfl) (fun _ _ _ h => h) (H.sub x01r) (zr 10 qu65 qs59) rfl ?_
      refine zdh 5 rfl (by kernel_rfl) (fun _ _ _ h => h) (H.sub x01r) (fun HS => z1 qg59 (HS.at 0 rfl)) rfl ?_
      refine zd 6 rfl (by kernel_rfl) (fun _ _ _ h => h) (H.sub x01r) (zr 3 qu65 qs63) rfl ?_
      refine zl1 7 ?_
      refine b_st rfl go_none (zs H 0 3 qs63) (L' := (_ :: _ :: _)) rfl rfl (fun _ H => (H.sub x01r)) ?_
      intro w H
      refine zd 8 rfl (by kernel_rfl) (fun _ _ _ h => h) (H.sub x01r) (zr 6 qu65 qs28) rfl ?_
      refine zl1 9 ?_
      refine b_st rfl go_none (m_store1 H 0 qs28 rfl rfl rfl rfl (by show 6 < 11; omega) rfl) (L' := (_ :: _ :: _)) rfl rfl (fun _ H => (H.sub x01r)) ?_
      intro w H
      refine zd 10 rfl (by kernel_rfl) (fun _ _ _ h => h) (H.sub x01r) (zr 10 qu65 qs59) rfl ?_
      refine zl1 11 ?_
      refine b_st rfl go_none (m_store1 H 0 qs59 rfl rfl rfl rfl (by show 10 < 11; omega) (rfl : _ = ceC (cR1 y))) (L' := (_ :: _ :: _)) rfl rfl (fun _ H => (H.sub x01r)) ?_
      intro w H
      refine zz (t100 (t100 (t30 (t8 [])))) ?_
      refine x_thenNormal ?_
      refine c_region (n := 238) ⟨rfl, rfl⟩ ?_
      refine zR 3 qu65 qs63 ?_
      refine s_val (zp qg63 qs63 (H.at 1 rfl) (ceC_place _)) ?_
      refine s_call (r_call qc62 (ec rfl en)) (there12_spec _ _ _ _) ?_
      rintro v w (⟨hy52, rfl, HC⟩ | ⟨hy52, rfl, HC⟩)
      ·replace H := H.quiet HC
       refine zm ?_
       refine zy ?_
       refine zR 6 qu65 qs28 ?_
       refine zy ?_
       refine zL qg28 (H.at 1 rfl) ?_
       refine zy ?_
       refine s_test (r_leq rfl rfl) (fun h56 => ?_) (fun h56 => ?_)
       ·refine zv ?_
        refine zm ?_
        refine zy ?_
        refine zR 10 qu65 qs59 ?_
        refine zy ?_
        refine zL qg59 (H.at 1 rfl) ?_
        refine zy ?_
        refine s_val (r_lens qu59 (ec rfl en)) ?_
        refine zy ?_
        refine s_test (r_eql rfl rfl) (fun h62 => ?_) (fun h62 => ?_)
        ·refine zv ?_
         refine za ?_
         refine zb (t100 (t100 (t30 (t8 [])))) ?_
         refine x_blockNormal ?_
         refine x_thenNormal ?_
         refine zq 238 ⟨rfl, rfl⟩ ?_
         refine zm ?_
         refine zm ?_
         refine zy ?_
         refine s_val (zp qg65 qs65 (H.at 1 rfl) (ceC_td _)) ?_
         refine zy ?_
         refine s_val (zp qg65 qs65 (H.at 0 rfl) (ceC_td _)) ?_
         refine zy ?_
         refine s_call (r_call qc63 (ec rfl (ec rfl en))) (csame12_spec y (cR1 y) _ (hy.st (H.sub (List.nil_sublist _))) (hy.st (H.sub (List.nil_sublist _)))) ?_
         rintro v w (⟨hy236, rfl, HC⟩ | ⟨hy236, rfl, HC⟩)
         ·replace H := H.quiet HC
          refine zv ?_
          refine za ?_
          refine zc (t100 (t100 (t30 (t8 [])))) ?_
          refine wp_ret ?_
          refine zw (res1 rfl rfl) ?_
          have hok := r12_1 (ok := true) h39 hnum (okT rfl ⟨hy52, h56, h62⟩)
          exact .inl ⟨hok.2 ⟨rfl, hy236⟩, rfl, (H.sub (List.nil_sublist _))⟩
         ·replace H := H.quiet HC
          refine zv ?_
          refine za ?_
          refine zc (t100 (t100 (t30 (t8 [])))) ?_
          refine wp_ret ?_
          refine zw (res1 rfl rfl) ?_
          have hok := r12_1 (ok := true) h39 hnum (okT rfl ⟨hy52, h56, h62⟩)
          exact .inr ⟨fun h => hy236 (hok.1 h).2, rfl, (H.sub (List.nil_sublist _))⟩
        ·refine zv ?_
         refine za ?_
         refine zb (t100 (t100 (t30 (t8 [])))) ?_
         refine x_blockNormal ?_
         refine x_thenNormal ?_
         refine zq 238 ⟨rfl, rfl⟩ ?_
         refine zm ?_
         refine zm ?_
         refine zg ?_
         refine zg ?_
         refine zg ?_
         refine zf ?_
         refine za ?_
         refine zc (t100 (t100 (t30 (t8 [])))) ?_
         refine wp_ret ?_
         refine zw (res1 rfl rfl) ?_
         have hok := r12_1 (ok := false) h39 hnum (okF rfl (fun h => h62 (h.2.2)))
         exact .inr ⟨fun h => absurd (hok.1 h).1 (by decide), rfl, (H.sub (List.nil_sublist _))⟩
       ·refine zv ?_
        refine zm ?_
        refine zg ?_
        refine zg ?_
        refine zg ?_
        refine zg ?_
        refine zf ?_
        refine za ?_
        refine zb (t100 (t100 (t30 (t8 [])))) ?_
        refine x_blockNormal ?_
        refine x_thenNormal ?_
        refine zq 238 ⟨rfl, rfl⟩ ?_
        refine zm ?_
        refine zm ?_
        refine zg ?_
        refine zg ?_
        refine zg ?_
        refine zf ?_
        refine za ?_
        refine zc (t100 (t100 (t30 (t8 [])))) ?_
        refine wp_ret ?_
        refine zw (res1 rfl rfl) ?_
        have hok := r12_1 (ok := false) h39 hnum (okF rfl (fun h => h56 (h.2.1)))
        exact .inr ⟨fun h => absurd (hok.1 h).1 (by decide), rfl, (H.sub (List.nil_sublist _))⟩
      ·replace H := H.quiet HC
       refine zm ?_
       refine zg ?_
       refine zg ?_
       refine zg ?_
       refine zf ?_
       refine zm ?_
       refine zg ?_
       refine zg ?_
       refine zg ?_
       refine zg ?_
       refine zf ?_
       refine za ?_
       refine zb (t100 (t100 (t30 (t8 [])))) ?_
       refine x_blockNormal ?_
       refine x_thenNormal ?_
       refine zq 238 ⟨rfl, rfl⟩ ?_
       refine zm ?_
       refine zm ?_
       refine zg ?_
       refine zg ?_
       refine zg ?_
       refine zf ?_
       refine za ?_
       refine zc (t100 (t100 (t30 (t8 [])))) ?_
       refine wp_ret ?_
       refine zw (res1 rfl rfl) ?_
       have hok := r12_1 (ok := false) h39 hnum (okF rfl (fun h => hy52 (h.1)))
       exact .inr ⟨fun h => absurd (hok.1 h).1 (by decide), rfl, (H.sub (List.nil_sublist _))⟩
     ·refine zq 238 ⟨rfl, rfl⟩ ?_
      refine s_val (r_eql rfl rfl) ?_
      refine za ?_
      refine zc (t100 (t100 (t30 (t8 [])))) ?_
      refine c_if rfl (fun h64 => ?_) (fun h64 => ?_)
      ·cases eb
       ·refine c_seq ?_
        refine d_begin (sz := 238) ⟨rfl, rfl⟩ (by kernel_rfl) H (H.sub x01r) rfl ?_
        intro w H
        refine zd 0 rfl (by kernel_rfl) (fun _ _ _ h => h) (H.sub x01r) (zr 3 qu65 qs63) rfl ?_
        refine zdh 1 rfl (by kernel_rfl) (fun _ _ _ h => h) (H.sub x01r) (fun HS => zp qg63 qs63 (HS.at 0 rfl) (ceC_place _)) rfl ?_
        refine zd 2 rfl (by kernel_rfl) (fun _ _ _ h => h) (H.sub x01r) (zr 6 qu65 qs28) rfl ?_
        refine zdh 3 rfl (by kernel_rfl) (fun _ _ _ h => h) (H.sub x01r) (fun HS => z1 qg28 (HS.at 0 rfl)) rfl ?_
        refine zd 4 rfl (by kernel_rfl) (fun _ _ _ h => h) (H.sub x01r) (zr 3 qu65 qs63) rfl ?_
        refine zl1 5 ?_
        refine b_st rfl go_none (zs H 0 3 qs63) (L' := (_ :: _ :: _)) rfl rfl (fun _ H => (H.sub x01r)) ?_
        intro w H
        refine zd 6 rfl (by kernel_rfl) (fun _ _ _ h => h) (H.sub x01r) (zr 6 qu65 qs28) rfl ?_
        refine zl1 7 ?_
        refine b_st rfl go_none (m_store1 H 0 qs28 rfl rfl rfl rfl (by show 6 < 11; omega) (rfl : _ = ceC (cR2 y))) (L' := (_ :: _ :: _)) rfl rfl (fun _ H => (H.sub x01r)) ?_
        intro w H
        refine zz (t100 (t100 (t30 (t8 [])))) ?_
        refine x_thenNormal ?_
        refine c_region (n := 238) ⟨rfl, rfl⟩ ?_
        refine zR 3 qu65 qs63 ?_
        refine s_val (zp qg63 qs63 (H.at 1 rfl) (ceC_place _)) ?_
        refine s_call (r_call qc62 (ec rfl en)) (there12_spec _ _ _ _) ?_
        rintro v w (⟨hy74, rfl, HC⟩ | ⟨hy74, rfl, HC⟩)
        ·replace H := H.quiet HC
         refine zm ?_
         refine zy ?_
         refine zm ?_
         refine zv ?_
         refine za ?_
         refine zb (t100 (t100 (t30 (t8 [])))) ?_
         refine x_blockNormal ?_
         refine x_thenNormal ?_
         refine zq 238 ⟨rfl, rfl⟩ ?_
         refine zm ?_
         refine zm ?_
         refine zg ?_
         refine zg ?_
         refine zg ?_
         refine zf ?_
         refine za ?_
         refine zc (t100 (t100 (t30 (t8 [])))) ?_
         refine wp_ret ?_
         refine zw (res1 rfl rfl) ?_
         have hok := r12_2 (ok := false) h64 hnum (okF rfl (fun h => (of_decide_eq_false heb.symm) (h.2)))
         exact .inr ⟨fun h => absurd (hok.1 h).1 (by decide), rfl, (H.sub (List.nil_sublist _))⟩
        ·replace H := H.quiet HC
         refine zm ?_
         refine zg ?_
         refine zf ?_
         refine za ?_
         refine zb (t100 (t100 (t30 (t8 [])))) ?_
         refine x_blockNormal ?_
         refine x_thenNormal ?_
         refine zq 238 ⟨rfl, rfl⟩ ?_
         refine zm ?_
         refine zm ?_
         refine zg ?_
         refine zg ?_
         refine zg ?_
         refine zf ?_
         refine za ?_
         refine zc (t100 (t100 (t30 (t8 [])))) ?_
         refine wp_ret ?_
         refine zw (res1 rfl rfl) ?_
         have hok := r12_2 (ok := false) h64 hnum (okF rfl (fun h => hy74 (h.1)))
         exact .inr ⟨fun h => absurd (hok.1 h).1 (by decide), rfl, (H.sub (List.nil_sublist _))⟩
       ·refine c_seq ?_
        refine d_begin (sz := 238) ⟨rfl, rfl⟩ (by kernel_rfl) H (H.sub x01r) rfl ?_
        intro w H
        refine zd 0 rfl (by kernel_rfl) (fun _ _ _ h => h) (H.sub x01r) (zr 3 qu65 qs63) rfl ?_
        refine zdh 1 rfl (by kernel_rfl) (fun _ _ _ h => h) (H.sub x01r) (fun HS => zp qg63 qs63 (HS.at 0 rfl) (ceC_place _)) rfl ?_
        refine zd 2 rfl (by kernel_rfl) (fun _ _ _ h => h) (H.sub x01r) (zr 6 qu65 qs28) rfl ?_
        refine zdh 3 rfl (by kernel_rfl) (fun _ _ _ h => h) (H.sub x01r) (fun HS => z1 qg28 (HS.at 0 rfl)) rfl ?_
        refine zd 4 rfl (by kernel_rfl) (fun _ _ _ h => h) (H.sub x01r) (zr 3 qu65 qs63) rfl ?_
        refine zl1 5 ?_
        refine b_st rfl go_none (zs H 0 3 qs63) (L' := (_ :: _ :: _)) rfl rfl (fun _ H => (H.sub x01r)) ?_
        intro w H
        refine zd 6 rfl (by kernel_rfl) (fun _ _ _ h => h) (H.sub x01r) (zr 6 qu65 qs28) rfl ?_
        refine zl1 7 ?_
        refine b_st rfl go_none (m_store1 H 0 qs28 rfl rfl rfl rfl (by show 6 < 11; omega) (rfl : _ = ceC (cR2 y))) (L' := (_ :: _ :: _)) rfl rfl (fun _ H => (H.sub x01r)) ?_
        intro w H
        refine zz (t100 (t100 (t30 (t8 [])))) ?_
        refine x_thenNormal ?_
        refine c_region (n := 238) ⟨rfl, rfl⟩ ?_
        refine zR 3 qu65 qs63 ?_
        refine s_val (zp qg63 qs63 (H.at 1 rfl) (ceC_place _)) ?_
        refine s_call (r_call qc62 (ec rfl en)) (there12_spec _ _ _ _) ?_
        rintro v w (⟨hy74, rfl, HC⟩ | ⟨hy74, rfl, HC⟩)
        ·replace H := H.quiet HC
         refine zm ?_
         refine zy ?_
         refine zm ?_
         refine zv ?_
         refine za ?_
         refine zb (t100 (t100 (t30 (t8 [])))) ?_
         refine x_blockNormal ?_
         refine x_thenNormal ?_
         refine zq 238 ⟨rfl, rfl⟩ ?_
         refine zm ?_
         refine zm ?_
         refine zy ?_
         refine s_val (zp qg65 qs65 (H.at 1 rfl) (ceC_td _)) ?_
         refine zy ?_
         refine s_val (zp qg65 qs65 (H.at 0 rfl) (ceC_td _)) ?_
         refine zy ?_
         refine s_call (r_call qc63 (ec rfl (ec rfl en))) (csame12_spec y (cR2 y) _ (hy.st (H.sub (List.nil_sublist _))) (brow_nil _ _)) ?_
         rintro v w (⟨hy236, rfl, HC⟩ | ⟨hy236, rfl, HC⟩)
         ·replace H := H.quiet HC
          refine zv ?_
          refine za ?_
          refine zc (t100 (t100 (t30 (t8 [])))) ?_
          refine wp_ret ?_
          refine zw (res1 rfl rfl) ?_
          have hok := r12_2 (ok := true) h64 hnum (okT rfl ⟨hy74, (of_decide_eq_true heb.symm)⟩)
          exact .inl ⟨hok.2 ⟨rfl, hy236⟩, rfl, (H.sub (List.nil_sublist _))⟩
         ·replace H := H.quiet HC
          refine zv ?_
          refine za ?_
          refine zc (t100 (t100 (t30 (t8 [])))) ?_
          refine wp_ret ?_
          refine zw (res1 rfl rfl) ?_
          have hok := r12_2 (ok := true) h64 hnum (okT rfl ⟨hy74, (of_decide_eq_true heb.symm)⟩)
          exact .inr ⟨fun h => hy236 (hok.1 h).2, rfl, (H.sub (List.nil_sublist _))⟩
        ·replace H := H.quiet HC
         refine zm ?_
         refine zg ?_
         refine zf ?_
         refine za ?_
         refine zb (t100 (t100 (t30 (t8 [])))) ?_
         refine x_blockNormal ?_
         refine x_thenNormal ?_
         refine zq 238 ⟨rfl, rfl⟩ ?_
         refine zm ?_
         refine zm ?_
         refine zg ?_
         refine zg ?_
         refine zg ?_
         refine zf ?_
         refine za ?_
         refine zc (t100 (t100 (t30 (t8 [])))) ?_
         refine wp_ret ?_
         refine zw (res1 rfl rfl) ?_
         have hok := r12_2 (ok := false) h64 hnum (okF rfl (fun h => hy74 (h.1)))
         exact .inr ⟨fun h => absurd (hok.1 h).1 (by decide), rfl, (H.sub (List.nil_sublist _))⟩
      ·refine zq 238 ⟨rfl, rfl⟩ ?_
       refine s_val (r_eql rfl rfl) ?_
       refine za ?_
       refine zc (t100 (t100 (t30 (t8 [])))) ?_
       refine c_if rfl (fun h78 => ?_) (fun h78 => ?_)
       ·cases eb
        ·refine c_seq ?_
         refine d_begin (sz := 238) ⟨rfl, rfl⟩ (by kernel_rfl) H (H.sub x01r) rfl ?_
         intro w H
         refine zd 0 rfl (by kernel_rfl) (fun _ _ _ h => h) (H.sub x01r) (zr 3 qu65 qs63) rfl ?_
         refine zdh 1 rfl (by kernel_rfl) (fun _ _ _ h => h) (H.sub x01r) (fun HS => zp qg63 qs63 (HS.at 0 rfl) (ceC_place _)) rfl ?_
         refine zd 2 rfl (by kernel_rfl) (fun _ _ _ h => h) (H.sub x01r) (zr 6 qu65 qs28) rfl ?_
         refine zdh 3 rfl (by kernel_rfl) (fun _ _ _ h => h) (H.sub x01r) (fun HS => z1 qg28 (HS.at 0 rfl)) rfl ?_
         refine zd 4 rfl (by kernel_rfl) (fun _ _ _ h => h) (H.sub x01r) (zr 10 qu65 qs59) rfl ?_
         refine zdh 5 rfl (by kernel_rfl) (fun _ _ _ h => h) (H.sub x01r) (fun HS => z1 qg59 (HS.at 0 rfl)) rfl ?_
         refine zd 6 rfl (by kernel_rfl) (fun _ _ _ h => h) (H.sub x01r) (zr 3 qu65 qs63) rfl ?_
         refine zl1 7 ?_
         refine b_st rfl go_none (zs H 0 3 qs63) (L' := (_ :: _ :: _)) rfl rfl (fun _ H => (H.sub x01r)) ?_
         intro w H
         refine zd 8 rfl (by kernel_rfl) (fun _ _ _ h => h) (H.sub x01r) (zr 6 qu65 qs28) rfl ?_
         refine zl1 9 ?_
         refine b_st rfl go_none (m_store1 H 0 qs28 rfl rfl rfl rfl (by show 6 < 11; omega) rfl) (L' := (_ :: _ :: _)) rfl rfl (fun _ H => (H.sub x01r)) ?_
         intro w H
         refine zd 10 rfl (by kernel_rfl) (fun _ _ _ h => h) (H.sub x01r) (zr 10 qu65 qs59) rfl ?_
         refine zl1 11 ?_
         refine b_st rfl go_none (m_store1 H 0 qs59 rfl rfl rfl rfl (by show 10 < 11; omega) (rfl : _ = ceC (cR1 y))) (L' := (_ :: _ :: _)) rfl rfl (fun _ H => (H.sub x01r)) ?_
         intro w H
         refine zz (t100 (t100 (t30 (t8 [])))) ?_
         refine x_thenNormal ?_
         refine c_region (n := 238) ⟨rfl, rfl⟩ ?_
         refine zR 3 qu65 qs63 ?_
         refine s_val (zp qg63 qs63 (H.at 1 rfl) (ceC_place _)) ?_
         refine s_call (r_call qc62 (ec rfl en)) (there12_spec _ _ _ _) ?_
         rintro v w (⟨hy91, rfl, HC⟩ | ⟨hy91, rfl, HC⟩)
         ·replace H := H.quiet HC
          refine zm ?_
          refine zy ?_
          refine zm ?_
          refine zv ?_
          refine zm ?_
          refine zg ?_
          refine zg ?_
          refine zg ?_
          refine zg ?_
          refine zf ?_
          refine zm ?_
          refine zg ?_
          refine zg ?_
          refine zg ?_
          refine zg ?_
          refine zf ?_
          refine za ?_
          refine zb (t100 (t100 (t30 (t8 [])))) ?_
          refine x_blockNormal ?_
          refine x_thenNormal ?_
          refine zq 238 ⟨rfl, rfl⟩ ?_
          refine zm ?_
          refine zm ?_
          refine zg ?_
          refine zg ?_
          refine zg ?_
          refine zf ?_
          refine za ?_
          refine zc (t100 (t100 (t30 (t8 [])))) ?_
          refine wp_ret ?_
          refine zw (res1 rfl rfl) ?_
          have hok := r12_3 (ok := false) h78 hnum (okF rfl (fun h => (of_decide_eq_false heb.symm) (h.2.1)))
          exact .inr ⟨fun h => absurd (hok.1 h).1 (by decide), rfl, (H.sub (List.nil_sublist _))⟩
         ·replace H := H.quiet HC
          refine zm ?_
          refine zg ?_
          refine zf ?_
          refine zm ?_
          refine zg ?_
          refine zg ?_
          refine zg ?_
          refine zg ?_
          refine zf ?_
          refine zm ?_
          refine zg ?_
          refine zg ?_
          refine zg ?_
          refine zg ?_
          refine zf ?_
          refine za ?_
          refine zb (t100 (t100 (t30 (t8 [])))) ?_
          refine x_blockNormal ?_
          refine x_thenNormal ?_
          refine zq 238 ⟨rfl, rfl⟩ ?_
          refine zm ?_
          refine zm ?_
          refine zg ?_
          refine zg ?_
          refine zg ?_
          refine zf ?_
          refine za ?_
          refine zc (t100 (t100 (t30 (t8 [])))) ?_
          refine wp_ret ?_
          refine zw (res1 rfl rfl) ?_
          have hok := r12_3 (ok := false) h78 hnum (okF rfl (fun h => hy91 (h.1)))
          exact .inr ⟨fun h => absurd (hok.1 h).1 (by decide), rfl, (H.sub (List.nil_sublist _))⟩
        ·refine c_seq ?_
         refine d_begin (sz := 238) ⟨rfl, rfl⟩ (by kernel_rfl) H (H.sub x01r) rfl ?_
         intro w H
         refine zd 0 rfl (by kernel_rfl) (fun _ _ _ h => h) (H.sub x01r) (zr 3 qu65 qs63) rfl ?_
         refine zdh 1 rfl (by kernel_rfl) (fun _ _ _ h => h) (H.sub x01r) (fun HS => zp qg63 qs63 (HS.at 0 rfl) (ceC_place _)) rfl ?_
         refine zd 2 rfl (by kernel_rfl) (fun _ _ _ h => h) (H.sub x01r) (zr 6 qu65 qs28) rfl ?_
         refine zdh 3 rfl (by kernel_rfl) (fun _ _ _ h => h) (H.sub x01r) (fun HS => z1 qg28 (HS.at 0 rfl)) rfl ?_
         refine zd 4 rfl (by kernel_rfl) (fun _ _ _ h => h) (H.sub x01r) (zr 10 qu65 qs59) rfl ?_
         refine zdh 5 rfl (by kernel_rfl) (fun _ _ _ h => h) (H.sub x01r) (fun HS => z1 qg59 (HS.at 0 rfl)) rfl ?_
         refine zd 6 rfl (by kernel_rfl) (fun _ _ _ h => h) (H.sub x01r) (zr 3 qu65 qs63) rfl ?_
         refine zl1 7 ?_
         refine b_st rfl go_none (zs H 0 3 qs63) (L' := (_ :: _ :: _)) rfl rfl (fun _ H => (H.sub x01r)) ?_
         intro w H
         refine zd 8 rfl (by kernel_rfl) (fun _ _ _ h => h) (H.sub x01r) (zr 6 qu65 qs28) rfl ?_
         refine zl1 9 ?_
         refine b_st rfl go_none (m_store1 H 0 qs28 rfl rfl rfl rfl (by show 6 < 11; omega) rfl) (L' := (_ :: _ :: _)) rfl rfl (fun _ H => (H.sub x01r)) ?_
         intro w H
         refine zd 10 rfl (by kernel_rfl) (fun _ _ _ h => h) (H.sub x01r) (zr 10 qu65 qs59) rfl ?_
         refine zl1 11 ?_
         refine b_st rfl go_none (m_store1 H 0 qs59 rfl rfl rfl rfl (by show 10 < 11; omega) (rfl : _ = ceC (cR1 y))) (L' := (_ :: _ :: _)) rfl rfl (fun _ H => (H.sub x01r)) ?_
         intro w H
         refine zz (t100 (t100 (t30 (t8 [])))) ?_
         refine x_thenNormal ?_
         refine c_region (n := 238) ⟨rfl, rfl⟩ ?_
         refine zR 3 qu65 qs63 ?_
         refine s_val (zp qg63 qs63 (H.at 1 rfl) (ceC_place _)) ?_
         refine s_call (r_call qc62 (ec rfl en)) (there12_spec _ _ _ _) ?_
         rintro v w (⟨hy91, rfl, HC⟩ | ⟨hy91, rfl, HC⟩)
         ·replace H := H.quiet HC
          refine zm ?_
          refine zy ?_
          refine zm ?_
          refine zv ?_
          refine zm ?_
          refine zy ?_
          refine zR 10 qu65 qs59 ?_
          refine zy ?_
          refine zL qg59 (H.at 1 rfl) ?_
          refine zy ?_
          refine s_val (r_lens qu59 (ec rfl en)) ?_
          refine zy ?_
          refine s_test (r_geq rfl rfl) (fun h99 => ?_) (fun h99 => ?_)
          ·refine zv ?_
           refine zm ?_
           refine zy ?_
           refine zR 10 qu65 qs59 ?_
           refine zy ?_
           refine zL qg59 (H.at 1 rfl) ?_
           refine zy ?_
           refine s_val (r_lens qu59 (ec rfl en)) ?_
           refine zy ?_
           refine s_test (r_leq rfl rfl) (fun h105 => ?_) (fun h105 => ?_)
           ·refine zv ?_
            refine za ?_
            refine zb (t100 (t100 (t30 (t8 [])))) ?_
            refine x_blockNormal ?_
            refine x_thenNormal ?_
            refine zq 238 ⟨rfl, rfl⟩ ?_
            refine zm ?_
            refine zm ?_
            refine zy ?_
            refine s_val (zp qg65 qs65 (H.at 1 rfl) (ceC_td _)) ?_
            refine zy ?_
            refine s_val (zp qg65 qs65 (H.at 0 rfl) (ceC_td _)) ?_
            refine zy ?_
            refine s_call (r_call qc63 (ec rfl (ec rfl en))) (csame12_spec y (cR1 y) _ (hy.st (H.sub (List.nil_sublist _))) (hy.st (H.sub (List.nil_sublist _)))) ?_
            rintro v w (⟨hy236, rfl, HC⟩ | ⟨hy236, rfl, HC⟩)
            ·replace H := H.quiet HC
             refine zv ?_
             refine za ?_
             refine zc (t100 (t100 (t30 (t8 [])))) ?_
             refine wp_ret ?_
             refine zw (res1 rfl rfl) ?_
             have hok := r12_3 (ok := true) h78 hnum (okT rfl ⟨hy91, (of_decide_eq_true heb.symm), h99, h105⟩)
             exact .inl ⟨hok.2 ⟨rfl, hy236⟩, rfl, (H.sub (List.nil_sublist _))⟩
            ·replace H := H.quiet HC
             refine zv ?_
             refine za ?_
             refine zc (t100 (t100 (t30 (t8 [])))) ?_
             refine wp_ret ?_
             refine zw (res1 rfl rfl) ?_
             have hok := r12_3 (ok := true) h78 hnum (okT rfl ⟨hy91, (of_decide_eq_true heb.symm), h99, h105⟩)
             exact .inr ⟨fun h => hy236 (hok.1 h).2, rfl, (H.sub (List.nil_sublist _))⟩
           ·refine zv ?_
            refine za ?_
            refine zb (t100 (t100 (t30 (t8 [])))) ?_
            refine x_blockNormal ?_
            refine x_thenNormal ?_
            refine zq 238 ⟨rfl, rfl⟩ ?_
            refine zm ?_
            refine zm ?_
            refine zg ?_
            refine zg ?_
            refine zg ?_
            refine zf ?_
            refine za ?_
            refine zc (t100 (t100 (t30 (t8 [])))) ?_
            refine wp_ret ?_
            refine zw (res1 rfl rfl) ?_
            have hok := r12_3 (ok := false) h78 hnum (okF rfl (fun h => h105 (h.2.2.2)))
            exact .inr ⟨fun h => absurd (hok.1 h).1 (by decide), rfl, (H.sub (List.nil_sublist _))⟩
          ·refine zv ?_
           refine zm ?_
           refine zg ?_
           refine zg ?_
           refine zg ?_
           refine zg ?_
           refine zf ?_
           refine za ?_
           refine zb (t100 (t100 (t30 (t8 [])))) ?_
           refine x_blockNormal ?_
           refine x_thenNormal ?_
           refine zq 238 ⟨rfl, rfl⟩ ?_
           refine zm ?_
           refine zm ?_
           refine zg ?_
           refine zg ?_
           refine zg ?_
           refine zf ?_
           refine za ?_
           refine zc (t100 (t100 (t30 (t8 [])))) ?_
           refine wp_ret ?_
           refine zw (res1 rfl rfl) ?_
           have hok := r12_3 (ok := false) h78 hnum (okF rfl (fun h => h99 (h.2.2.1)))
           exact .inr ⟨fun h => absurd (hok.1 h).1 (by decide), rfl, (H.sub (List.nil_sublist _))⟩
         ·replace H := H.quiet HC
          refine zm ?_
          refine zg ?_
          refine zf ?_
          refine zm ?_
          refine zg ?_
          refine zg ?_
          refine zg ?_
          refine zg ?_
          refine zf ?_
          refine zm ?_
          refine zg ?_
          refine zg ?_
          refine zg ?_
          refine zg ?_
          refine zf ?_
          refine za ?_
          refine zb (t100 (t100 (t30 (t8 [])))) ?_
          refine x_blockNormal ?_
          refine x_thenNormal ?_
          refine zq 238 ⟨rfl, rfl⟩ ?_
          refine zm ?_
          refine zm ?_
          refine zg ?_
          refine zg ?_
          refine zg ?_
          refine zf ?_
          refine za ?_
          refine zc (t100 (t100 (t30 (t8 [])))) ?_
          refine wp_ret ?_
          refine zw (res1 rfl rfl) ?_
          have hok := r12_3 (ok := false) h78 hnum (okF rfl (fun h => hy91 (h.1)))
          exact .inr ⟨fun h => absurd (hok.1 h).1 (by decide), rfl, (H.sub (List.nil_sublist _))⟩
       ·refine zq 238 ⟨rfl, rfl⟩ ?_
        refine s_val (r_eql rfl rfl) ?_
        refine za ?_
        refine zc (t100 (t100 (t30 (t8 [])))) ?_
        refine c_if rfl (fun h107 => ?_) (fun h107 => ?_)
        ·cases eb
         ·refine c_seq ?_
          refine d_begin (sz := 238) ⟨rfl, rfl⟩ (by kernel_rfl) H (H.sub x01r) rfl ?_
          intro w H
          refine zd 0 rfl (by kernel_rfl) (fun _ _ _ h => h) (H.sub x01r) (zr 3 qu65 qs63) rfl ?_
          refine zd 1 rfl (by kernel_rfl) (fun _ _ _ h => h) (H.sub x01r) (zr 0 qu63 qs3) rfl ?_
          refine zdh 2 rfl (by kernel_rfl) (fun _ _ _ h => h) (H.sub x01r) (fun HS => z1 qg3 (HS.at 0 rfl)) rfl ?_
          refine zd 3 rfl (by kernel_rfl) (fun _ _ _ h => h) (H.sub x01r) (zr 3 qu65 qs63) rfl ?_
          refine zd 4 rfl (by kernel_rfl) (fun _ _ _ h => h) (H.sub x01r) (zr 1 qu63 qs3) rfl ?_
          refine zdh 5 rfl (by kernel_rfl) (fun _ _ _ h => h) (H.sub x01r) (fun HS => z1 qg3 (HS.at 0 rfl)) rfl ?_
          refine zd 6 rfl (by kernel_rfl) (fun _ _ _ h => h) (H.sub x01r) (zr 6 qu65 qs28) rfl ?_
          refine zdh 7 rfl (by kernel_rfl) (fun _ _ _ h => h) (H.sub x01r) (fun HS => z1 qg28 (HS.at 0 rfl)) rfl ?_
          refine zd 8 rfl (by kernel_rfl) (fun _ _ _ h => h) (H.sub x01r) (zr 3 qu65 qs63) rfl ?_
          refine zd 9 rfl (by kernel_rfl) (fun _ _ _ h => h) (H.sub x01r) (zr 0 qu63 qs3) rfl ?_
          refine zl1 10 ?_
          refine b_st rfl go_none (m_store1 H 0 qs3 rfl rfl rfl rfl (by show 3 < 11; omega) rfl) (L' := (_ :: _ :: _)) rfl rfl (fun _ H => (H.sub x01r)) ?_
          intro w H
          refine zd 11 rfl (by kernel_rfl) (fun _ _ _ h => h) (H.sub x01r) (zr 3 qu65 qs63) rfl ?_
          refine zd 12 rfl (by kernel_rfl) (fun _ _ _ h => h) (H.sub x01r) (zr 1 qu63 qs3) rfl ?_
          refine zl1 13 ?_
          refine b_st rfl go_none (m_store1 H 0 qs3 rfl rfl rfl rfl (by show 4 < 11; omega) rfl) (L' := (_ :: _ :: _)) rfl rfl (fun _ H => (H.sub x01r)) ?_
          intro w H
          refine zd 14 rfl (by kernel_rfl) (fun _ _ _ h => h) (H.sub x01r) (zr 6 qu65 qs28) rfl ?_
          refine zl1 15 ?_
          refine b_st rfl go_none (m_store1 H 0 qs28 rfl rfl rfl rfl (by show 6 < 11; omega) (rfl : _ = ceC (cR4 y))) (L' := (_ :: _ :: _)) rfl rfl (fun _ H => (H.sub x01r)) ?_
          intro w H
          refine zz (t100 (t100 (t30 (t8 [])))) ?_
          refine x_thenNormal ?_
          refine c_region (n := 238) ⟨rfl, rfl⟩ ?_
          refine zm ?_
          refine zm ?_
          refine zg ?_
          refine zg ?_
          refine zg ?_
          refine zg ?_
          refine zf ?_
          refine zm ?_
          refine zg ?_
          refine zg ?_
          refine zg ?_
          refine zg ?_
          refine zf ?_
          refine zm ?_
          refine zg ?_
          refine zg ?_
          refine zg ?_
          refine zg ?_
          refine zf ?_
          refine zm ?_
          refine zg ?_
          refine zg ?_
          refine zg ?_
          refine zg ?_
          refine zf ?_
          refine zm ?_
          refine zg ?_
          refine zg ?_
          refine zg ?_
          refine zg ?_
          refine zg ?_
          refine zg ?_
          refine zg ?_
          refine zf ?_
          refine za ?_
          refine zb (t100 (t100 (t30 (t8 [])))) ?_
          refine x_blockNormal ?_
          refine x_thenNormal ?_
          refine zq 238 ⟨rfl, rfl⟩ ?_
          refine zm ?_
          refine zm ?_
          refine zg ?_
          refine zg ?_
          refine zg ?_
          refine zf ?_
          refine za ?_
          refine zc (t100 (t100 (t30 (t8 [])))) ?_
          refine wp_ret ?_
          refine zw (res1 rfl rfl) ?_
          have hok := r12_4 (ok := false) h107 hnum (okF rfl (fun h => (of_decide_eq_false heb.symm) (h.1)))
          exact .inr ⟨fun h => absurd (hok.1 h).1 (by decide), rfl, (H.sub (List.nil_sublist _))⟩
         ·refine c_seq ?_
          refine d_begin (sz := 238) ⟨rfl, rfl⟩ (by kernel_rfl) H (H.sub x01r) rfl ?_
          intro w H
          refine zd 0 rfl (by kernel_rfl) (fun _ _ _ h => h) (H.sub x01r) (zr 3 qu65 qs63) rfl ?_
          refine zd 1 rfl (by kernel_rfl) (fun _ _ _ h => h) (H.sub x01r) (zr 0 qu63 qs3) rfl ?_
          refine zdh 2 rfl (by kernel_rfl) (fun _ _ _ h => h) (H.sub x01r) (fun HS => z1 qg3 (HS.at 0 rfl)) rfl ?_
          refine zd 3 rfl (by kernel_rfl) (fun _ _ _ h => h) (H.sub x01r) (zr 3 qu65 qs63) rfl ?_
          refine zd 4 rfl (by kernel_rfl) (fun _ _ _ h => h) (H.sub x01r) (zr 1 qu63 qs3) rfl ?_
          refine zdh 5 rfl (by kernel_rfl) (fun _ _ _ h => h) (H.sub x01r) (fun HS => z1 qg3 (HS.at 0 rfl)) rfl ?_
          refine zd 6 rfl (by kernel_rfl) (fun _ _ _ h => h) (H.sub x01r) (zr 6 qu65 qs28) rfl ?_
          refine zdh 7 rfl (by kernel_rfl) (fun _ _ _ h => h) (H.sub x01r) (fun HS => z1 qg28 (HS.at 0 rfl)) rfl ?_
          refine zd 8 rfl (by kernel_rfl) (fun _ _ _ h => h) (H.sub x01r) (zr 3 qu65 qs63) rfl ?_
          refine zd 9 rfl (by kernel_rfl) (fun _ _ _ h => h) (H.sub x01r) (zr 0 qu63 qs3) rfl ?_
          refine zl1 10 ?_
          refine b_st rfl go_none (m_store1 H 0 qs3 rfl rfl rfl rfl (by show 3 < 11; omega) rfl) (L' := (_ :: _ :: _)) rfl rfl (fun _ H => (H.sub x01r)) ?_
          intro w H
          refine zd 11 rfl (by kernel_rfl) (fun _ _ _ h => h) (H.sub x01r) (zr 3 qu65 qs63) rfl ?_
          refine zd 12 rfl (by kernel_rfl) (fun _ _ _ h => h) (H.sub x01r) (zr 1 qu63 qs3) rfl ?_
          refine zl1 13 ?_
          refine b_st rfl go_none (m_store1 H 0 qs3 rfl rfl rfl rfl (by show 4 < 11; omega) rfl) (L' := (_ :: _ :: _)) rfl rfl (fun _ H => (H.sub x01r)) ?_
          intro w H
          refine zd 14 rfl (by kernel_rfl) (fun _ _ _ h => h) (H.sub x01r) (zr 6 qu65 qs28) rfl ?_
          refine zl1 15 ?_
          refine b_st rfl go_none (m_store1 H 0 qs28 rfl rfl rfl rfl (by show 6 < 11; omega) (rfl : _ = ceC (cR4 y))) (L' := (_ :: _ :: _)) rfl rfl (fun _ H => (H.sub x01r)) ?_
          intro w H
          refine zz (t100 (t100 (t30 (t8 [])))) ?_
          refine x_thenNormal ?_
          refine c_region (n := 238) ⟨rfl, rfl⟩ ?_
          refine zm ?_
          refine zm ?_
          refine zy ?_
          refine zR 3 qu65 qs63 ?_
          refine zy ?_
          refine zR 0 qu63 qs3 ?_
          refine zy ?_
          refine zL qg3 (H.at 1 rfl) ?_
          refine zy ?_
          refine s_test (r_geq rfl rfl) (fun h127 => ?_) (fun h127 => ?_)
          ·refine zv ?_
           refine zm ?_
           refine zy ?_
           refine zR 3 qu65 qs63 ?_
           refine zy ?_
           refine zR 0 qu63 qs3 ?_
           refine zy ?_
           refine zL qg3 (H.at 1 rfl) ?_
           refine zy ?_
           refine s_test (r_leq rfl rfl) (fun h133 => ?_) (fun h133 => ?_)
           ·refine zv ?_
            refine zm ?_
            refine zy ?_
            refine zR 3 qu65 qs63 ?_
            refine zy ?_
            refine zR 1 qu63 qs3 ?_
            refine zy ?_
            refine zL qg3 (H.at 1 rfl) ?_
            refine zy ?_
            refine s_test (r_geq rfl rfl) (fun h139 => ?_) (fun h139 => ?_)
            ·refine zv ?_
             refine zm ?_
             refine zy ?_
             refine zR 3 qu65 qs63 ?_
             refine zy ?_
             refine zR 1 qu63 qs3 ?_
             refine zy ?_
             refine zL qg3 (H.at 1 rfl) ?_
             refine zy ?_
             refine s_test (r_leq rfl rfl) (fun h145 => ?_) (fun h145 => ?_)
             ·refine zv ?_
              refine zm ?_
              refine zy ?_
              refine zR 3 qu65 qs63 ?_
              refine zy ?_
              refine zR 1 qu63 qs3 ?_
              refine zy ?_
              refine zL qg3 (H.at 1 rfl) ?_
              refine zy ?_
              refine zR 3 qu65 qs63 ?_
              refine zy ?_
              refine zR 0 qu63 qs3 ?_
              refine zy ?_
              refine zL qg3 (H.at 1 rfl) ?_
              refine zy ?_
              refine s_test (r_neq rfl rfl) (fun h154 => ?_) (fun h154 => ?_)
              ·refine zv ?_
               refine za ?_
               refine zb (t100 (t100 (t30 (t8 [])))) ?_
               refine x_blockNormal ?_
               refine x_thenNormal ?_
               refine zq 238 ⟨rfl, rfl⟩ ?_
               refine zm ?_
               refine zm ?_
               refine zy ?_
               refine s_val (zp qg65 qs65 (H.at 1 rfl) (ceC_td _)) ?_
               refine zy ?_
               refine s_val (zp qg65 qs65 (H.at 0 rfl) (ceC_td _)) ?_
               refine zy ?_
               refine s_call (r_call qc63 (ec rfl (ec rfl en))) (csame12_spec y (cR4 y) _ (hy.st (H.sub (List.nil_sublist _))) (brow_nil _ _)) ?_
               rintro v w (⟨hy236, rfl, HC⟩ | ⟨hy236, rfl, HC⟩)
               ·replace H := H.quiet HC
                refine zv ?_
                refine za ?_
                refine zc (t100 (t100 (t30 (t8 [])))) ?_
                refine wp_ret ?_
                refine zw (res1 rfl rfl) ?_
                have hok := r12_4 (ok := true) h107 hnum (okT rfl ⟨(of_decide_eq_true heb.symm), h127, h133, h139, h145, h154⟩)
                exact .inl ⟨hok.2 ⟨rfl, hy236⟩, rfl, (H.sub (List.nil_sublist _))⟩
               ·replace H := H.quiet HC
                refine zv ?_
                refine za ?_
                refine zc (t100 (t100 (t30 (t8 [])))) ?_
                refine wp_ret ?_
                refine zw (res1 rfl rfl) ?_
                have hok := r12_4 (ok := true) h107 hnum (okT rfl ⟨(of_decide_eq_true heb.symm), h127, h133, h139, h145, h154⟩)
                exact .inr ⟨fun h => hy236 (hok.1 h).2, rfl, (H.sub (List.nil_sublist _))⟩
              ·refine zv ?_
               refine za ?_
               refine zb (t100 (t100 (t30 (t8 [])))) ?_
               refine x_blockNormal ?_
               refine x_thenNormal ?_
               refine zq 238 ⟨rfl, rfl⟩ ?_
               refine zm ?_
               refine zm ?_
               refine zg ?_
               refine zg ?_
               refine zg ?_
               refine zf ?_
               refine za ?_
               refine zc (t100 (t100 (t30 (t8 [])))) ?_
               refine wp_ret ?_
               refine zw (res1 rfl rfl) ?_
               have hok := r12_4 (ok := false) h107 hnum (okF rfl (fun h => h154 (h.2.2.2.2.2)))
               exact .inr ⟨fun h => absurd (hok.1 h).1 (by decide), rfl, (H.sub (List.nil_sublist _))⟩
             ·refine zv ?_
              refine zm ?_
              refine zg ?_
              refine zg ?_
              refine zg ?_
              refine zg ?_
              refine zg ?_
              refine zg ?_
              refine zg ?_
              refine zf ?_
              refine za ?_
              refine zb (t100 (t100 (t30 (t8 [])))) ?_
              refine x_blockNormal ?_
              refine x_thenNormal ?_
              refine zq 238 ⟨rfl, rfl⟩ ?_
              refine zm ?_
              refine zm ?_
              refine zg ?_
              refine zg ?_
              refine zg ?_
              refine zf ?_
              refine za ?_
              refine zc (t100 (t100 (t30 (t8 [])))) ?_
              refine wp_ret ?_
              refine zw (res1 rfl rfl) ?_
              have hok := r12_4 (ok := false) h107 hnum (okF rfl (fun h => h145 (h.2.2.2.2.1)))
              exact .inr ⟨fun h => absurd (hok.1 h).1 (by decide), rfl, (H.sub (List.nil_sublist _))⟩
            ·refine zv ?_
             refine zm ?_
             refine zg ?_
             refine zg ?_
             refine zg ?_
             refine zg ?_
             refine zf ?_
             refine zm ?_
             refine zg ?_
             refine zg ?_
             refine zg ?_
             refine zg ?_
             refine zg ?_
             refine zg ?_
             refine zg ?_
             refine zf ?_
             refine za ?_
             refine zb (t100 (t100 (t30 (t8 [])))) ?_
             refine x_blockNormal ?_
             refine x_thenNormal ?_
             refine zq 238 ⟨rfl, rfl⟩ ?_
             refine zm ?_
             refine zm ?_
             refine zg ?_
             refine zg ?_
             refine zg ?_
             refine zf ?_
             refine za ?_
             refine zc (t100 (t100 (t30 (t8 [])))) ?_
             refine wp_ret ?_
             refine zw (res1 rfl rfl) ?_
             have hok := r12_4 (ok := false) h107 hnum (okF rfl (fun h => h139 (h.2.2.2.1)))
             exact .inr ⟨fun h => absurd (hok.1 h).1 (by decide), rfl, (H.sub (List.nil_sublist _))⟩
           ·refine zv ?_
            refine zm ?_
            refine zg ?_
            refine zg ?_
            refine zg ?_
            refine zg ?_
            refine zf ?_
            refine zm ?_
            refine zg ?_
            refine zg ?_
            refine zg ?_
            refine zg ?_
            refine zf ?_
            refine zm ?_
            refine zg ?_
            refine zg ?_
            refine zg ?_
            refine zg ?_
            refine zg ?_
            refine zg ?_
            refine zg ?_
            refine zf ?_
            refine za ?_
            refine zb (t100 (t100 (t30 (t8 [])))) ?_
            refine x_blockNormal ?_
            refine x_thenNormal ?_
            refine zq 238 ⟨rfl, rfl⟩ ?_
            refine zm ?_
            refine zm ?_
            refine zg ?_
            refine zg ?_
            refine zg ?_
            refine zf ?_
            refine za ?_
            refine zc (t100 (t100 (t30 (t8 [])))) ?_
            refine wp_ret ?_
            refine zw (res1 rfl rfl) ?_
            have hok := r12_4 (ok := false) h107 hnum (okF rfl (fun h => h133 (h.2.2.1)))
            exact .inr ⟨fun h => absurd (hok.1 h).1 (by decide), rfl, (H.sub (List.nil_sublist _))⟩
          ·refine zv ?_
           refine zm ?_
           refine zg ?_
           refine zg ?_
           refine zg ?_
           refine zg ?_
           refine zf ?_
           refine zm ?_
           refine zg ?_
           refine zg ?_
           refine zg ?_
           refine zg ?_
           refine zf ?_
           refine zm ?_
           refine zg ?_
           refine zg ?_
           refine zg ?_
           refine zg ?_
           refine zf ?_
           refine zm ?_
           refine zg ?_
           refine zg ?_
           refine zg ?_
           refine zg ?_
           refine zg ?_
           refine zg ?_
           refine zg ?_
           refine zf ?_
           refine za ?_
           refine zb (t100 (t100 (t30 (t8 [])))) ?_
           refine x_blockNormal ?_
           refine x_thenNormal ?_
           refine zq 238 ⟨rfl, rfl⟩ ?_
           refine zm ?_
           refine zm ?_
           refine zg ?_
           refine zg ?_
           refine zg ?_
           refine zf ?_
           refine za ?_
           refine zc (t100 (t100 (t30 (t8 [])))) ?_
           refine wp_ret ?_
           refine zw (res1 rfl rfl) ?_
           have hok := r12_4 (ok := false) h107 hnum (okF rfl (fun h => h127 (h.2.1)))
           exact .inr ⟨fun h => absurd (hok.1 h).1 (by decide), rfl, (H.sub (List.nil_sublist _))⟩
        ·refine zq 238 ⟨rfl, rfl⟩ ?_
         refine s_val (r_eql rfl rfl) ?_
         refine za ?_
         refine zc (t100 (t100 (t30 (t8 [])))) ?_
         refine c_if rfl (fun h156 => ?_) (fun h156 => ?_)
         ·refine zq 238 ⟨rfl, rfl⟩ ?_
          refine zR 3 qu65 qs63 ?_
          refine zR 0 qu63 qs3 ?_
          refine zL qg3 (H.at 1 rfl) ?_
          refine zR 3 qu65 qs63 ?_
          refine zR 0 qu63 qs3 ?_
          refine s_st (m_store1 H 0 qs3 rfl rfl rfl rfl (by show 3 < 11; omega) (rfl : _ = ceC (cR5 y))) (L' := (_ :: _ :: _)) rfl ?_
          intro w H
          refine zc (t100 (t100 (t30 (t8 [])))) ?_
          refine c_region (n := 238) ⟨rfl, rfl⟩ ?_
          refine zR 3 qu65 qs63 ?_
          refine zR 0 qu63 qs3 ?_
          refine zL qg3 (H.at 1 rfl) ?_
          refine s_test (r_geq rfl rfl) (fun h166 => ?_) (fun h166 => ?_)
          ·refine zm ?_
           refine zy ?_
           refine zR 3 qu65 qs63 ?_
           refine zy ?_
           refine zR 0 qu63 qs3 ?_
           refine zy ?_
           refine zL qg3 (H.at 1 rfl) ?_
           refine zy ?_
           refine s_test (r_leq rfl rfl) (fun h171 => ?_) (fun h171 => ?_)
           ·refine zv ?_
            refine za ?_
            refine zb (t100 (t100 (t30 (t8 [])))) ?_
            refine x_blockNormal ?_
            refine x_thenNormal ?_
            refine zq 238 ⟨rfl, rfl⟩ ?_
            refine zm ?_
            refine zm ?_
            refine zy ?_
            refine s_val (zp qg65 qs65 (H.at 1 rfl) (ceC_td _)) ?_
            refine zy ?_
            refine s_val (zp qg65 qs65 (H.at 0 rfl) (ceC_td _)) ?_
            refine zy ?_
            refine s_call (r_call qc63 (ec rfl (ec rfl en))) (csame12_spec y (cR5 y) _ (hy.st (H.sub (List.nil_sublist _))) (brow_nil _ _)) ?_
            rintro v w (⟨hy236, rfl, HC⟩ | ⟨hy236, rfl, HC⟩)
            ·replace H := H.quiet HC
             refine zv ?_
             refine za ?_
             refine zc (t100 (t100 (t30 (t8 [])))) ?_
             refine wp_ret ?_
             refine zw (res1 rfl rfl) ?_
             have hok := r12_5 (ok := true) h156 hnum (okT rfl ⟨h166, h171⟩)
             exact .inl ⟨hok.2 ⟨rfl, hy236⟩, rfl, (H.sub (List.nil_sublist _))⟩
            ·replace H := H.quiet HC
             refine zv ?_
             refine za ?_
             refine zc (t100 (t100 (t30 (t8 [])))) ?_
             refine wp_ret ?_
             refine zw (res1 rfl rfl) ?_
             have hok := r12_5 (ok := true) h156 hnum (okT rfl ⟨h166, h171⟩)
             exact .inr ⟨fun h => hy236 (hok.1 h).2, rfl, (H.sub (List.nil_sublist _))⟩
           ·refine zv ?_
            refine za ?_
            refine zb (t100 (t100 (t30 (t8 [])))) ?_
            refine x_blockNormal ?_
            refine x_thenNormal ?_
            refine zq 238 ⟨rfl, rfl⟩ ?_
            refine zm ?_
            refine zm ?_
            refine zg ?_
            refine zg ?_
            refine zg ?_
            refine zf ?_
            refine za ?_
            refine zc (t100 (t100 (t30 (t8 [])))) ?_
            refine wp_ret ?_
            refine zw (res1 rfl rfl) ?_
            have hok := r12_5 (ok := false) h156 hnum (okF rfl (fun h => h171 (h.2)))
            exact .inr ⟨fun h => absurd (hok.1 h).1 (by decide), rfl, (H.sub (List.nil_sublist _))⟩
          ·refine zm ?_
           refine zg ?_
           refine zg ?_
           refine zg ?_
           refine zg ?_
           refine zf ?_
           refine za ?_
           refine zb (t100 (t100 (t30 (t8 [])))) ?_
           refine x_blockNormal ?_
           refine x_thenNormal ?_
           refine zq 238 ⟨rfl, rfl⟩ ?_
           refine zm ?_
           refine zm ?_
           refine zg ?_
           refine zg ?_
           refine zg ?_
           refine zf ?_
           refine za ?_
           refine zc (t100 (t100 (t30 (t8 [])))) ?_
           refine wp_ret ?_
           refine zw (res1 rfl rfl) ?_
           have hok := r12_5 (ok := false) h156 hnum (okF rfl (fun h => h166 (h.1)))
           exact .inr ⟨fun h => absurd (hok.1 h).1 (by decide), rfl, (H.sub (List.nil_sublist _))⟩
         ·refine zq 238 ⟨rfl, rfl⟩ ?_
          refine s_val (r_eql rfl rfl) ?_
          refine za ?_
          refine zc (t100 (t100 (t30 (t8 [])))) ?_
          refine c_if rfl (fun h173 => ?_) (fun h173 => ?_)
          ·refine c_seq ?_
           refine d_begin (sz := 238) ⟨rfl, rfl⟩ (by kernel_rfl) H (H.sub x01r) rfl ?_
           intro w H
           refine zd 0 rfl (by kernel_rfl) (fun _ _ _ h => h) (H.sub x01r) (zr 6 qu65 qs28) rfl ?_
           refine zdh 1 rfl (by kernel_rfl) (fun _ _ _ h => h) (H.sub x01r) (fun HS => z1 qg28 (HS.at 0 rfl)) rfl ?_
           refine zd 2 rfl (by kernel_rfl) (fun _ _ _ h => h) (H.sub x01r) (zr 7 qu65 qs3) rfl ?_
           refine zdh 3 rfl (by kernel_rfl) (fun _ _ _ h => h) (H.sub x01r) (fun HS => z1 qg3 (HS.at 0 rfl)) rfl ?_
           refine zd 4 rfl (by kernel_rfl) (fun _ _ _ h => h) (H.sub x01r) (zr 8 qu65 qs3) rfl ?_
           refine zdh 5 rfl (by kernel_rfl) (fun _ _ _ h => h) (H.sub x01r) (fun HS => z1 qg3 (HS.at 0 rfl)) rfl ?_
           refine zd 6 rfl (by kernel_rfl) (fun _ _ _ h => h) (H.sub x01r) (zr 9 qu65 qs3) rfl ?_
           refine zdh 7 rfl (by kernel_rfl) (fun _ _ _ h => h) (H.sub x01r) (fun HS => z1 qg3 (HS.at 0 rfl)) rfl ?_
           refine zd 8 rfl (by kernel_rfl) (fun _ _ _ h => h) (H.sub x01r) (zr 6 qu65 qs28) rfl ?_
           refine zl1 9 ?_
           refine b_st rfl go_none (m_store1 H 0 qs28 rfl rfl rfl rfl (by show 6 < 11; omega) rfl) (L' := (_ :: _ :: _)) rfl rfl (fun _ H => (H.sub x01r)) ?_
           intro w H
           refine zd 10 rfl (by kernel_rfl) (fun _ _ _ h => h) (H.sub x01r) (zr 7 qu65 qs3) rfl ?_
           refine zl1 11 ?_
           refine b_st rfl go_none (m_store1 H 0 qs3 rfl rfl rfl rfl (by show 7 < 11; omega) rfl) (L' := (_ :: _ :: _)) rfl rfl (fun _ H => (H.sub x01r)) ?_
           intro w H
           refine zd 12 rfl (by kernel_rfl) (fun _ _ _ h => h) (H.sub x01r) (zr 8 qu65 qs3) rfl ?_
           refine zl1 13 ?_
           refine b_st rfl go_none (m_store1 H 0 qs3 rfl rfl rfl rfl (by show 8 < 11; omega) rfl) (L' := (_ :: _ :: _)) rfl rfl (fun _ H => (H.sub x01r)) ?_
           intro w H
           refine zd 14 rfl (by kernel_rfl) (fun _ _ _ h => h) (H.sub x01r) (zr 9 qu65 qs3) rfl ?_
           refine zl1 15 ?_
           refine b_st rfl go_none (m_store1 H 0 qs3 rfl rfl rfl rfl (by show 9 < 11; omega) (rfl : _ = ceC (cR6 y))) (L' := (_ :: _ :: _)) rfl rfl (fun _ H => (H.sub x01r)) ?_
           intro w H
           refine zz (t100 (t100 (t30 (t8 [])))) ?_
           refine x_thenNormal ?_
           refine c_region (n := 238) ⟨rfl, rfl⟩ ?_
           refine zR 6 qu65 qs28 ?_
           refine zL qg28 (H.at 1 rfl) ?_
           refine s_test (r_geq rfl rfl) (fun h189 => ?_) (fun h189 => ?_)
           ·refine zm ?_
            refine zy ?_
            refine zR 6 qu65 qs28 ?_
            refine zy ?_
            refine zL qg28 (H.at 1 rfl) ?_
            refine zy ?_
            refine s_test (r_leq rfl rfl) (fun h193 => ?_) (fun h193 => ?_)
            ·refine zv ?_
             refine zm ?_
             refine zy ?_
             refine zR 7 qu65 qs3 ?_
             refine zy ?_
             refine zL qg3 (H.at 1 rfl) ?_
             refine zy ?_
             refine s_call (r_call qc61 (ec rfl en)) (minute_spec _ _) ?_
             rintro v w (⟨hy198, rfl, HC⟩ | ⟨hy198, rfl, HC⟩)
             ·replace H := H.quiet HC
              refine zv ?_
              refine zm ?_
              refine zy ?_
              refine zR 8 qu65 qs3 ?_
              refine zy ?_
              refine zL qg3 (H.at 1 rfl) ?_
              refine zy ?_
              refine s_call (r_call qc61 (ec rfl en)) (minute_spec _ _) ?_
              rintro v w (⟨hy203, rfl, HC⟩ | ⟨hy203, rfl, HC⟩)
              ·replace H := H.quiet HC
               refine zv ?_
               refine zm ?_
               refine zy ?_
               refine zR 9 qu65 qs3 ?_
               refine zy ?_
               refine zL qg3 (H.at 1 rfl) ?_
               refine zy ?_
               refine s_call (r_call qc61 (ec rfl en)) (minute_spec _ _) ?_
               rintro v w (⟨hy208, rfl, HC⟩ | ⟨hy208, rfl, HC⟩)
               ·replace H := H.quiet HC
                refine zv ?_
                refine zm ?_
                refine zy ?_
                refine zR 7 qu65 qs3 ?_
                refine zy ?_
                refine zL qg3 (H.at 1 rfl) ?_
                refine zy ?_
                refine zR 8 qu65 qs3 ?_
                refine zy ?_
                refine zL qg3 (H.at 1 rfl) ?_
                refine zy ?_
                refine s_test (r_leq rfl rfl) (fun h215 => ?_) (fun h215 => ?_)
                ·refine zv ?_
                 refine za ?_
                 refine zb (t100 (t100 (t30 (t8 [])))) ?_
                 refine x_blockNormal ?_
                 refine x_thenNormal ?_
                 refine zq 238 ⟨rfl, rfl⟩ ?_
                 refine zm ?_
                 refine zm ?_
                 refine zy ?_
                 refine s_val (zp qg65 qs65 (H.at 1 rfl) (ceC_td _)) ?_
                 refine zy ?_
                 refine s_val (zp qg65 qs65 (H.at 0 rfl) (ceC_td _)) ?_
                 refine zy ?_
                 refine s_call (r_call qc63 (ec rfl (ec rfl en))) (csame12_spec y (cR6 y) _ (hy.st (H.sub (List.nil_sublist _))) (brow_nil _ _)) ?_
                 rintro v w (⟨hy236, rfl, HC⟩ | ⟨hy236, rfl, HC⟩)
                 ·replace H := H.quiet HC
                  refine zv ?_
                  refine za ?_
                  refine zc (t100 (t100 (t30 (t8 [])))) ?_
                  refine wp_ret ?_
                  refine zw (res1 rfl rfl) ?_
                  have hok := r12_6 (ok := true) h173 hnum (okT rfl ⟨h189, h193, hy198, hy203, hy208, h215⟩)
                  exact .inl ⟨hok.2 ⟨rfl, hy236⟩, rfl, (H.sub (List.nil_sublist _))⟩
                 ·replace H := H.quiet HC
                  refine zv ?_
                  refine za ?_
                  refine zc (t100 (t100 (t30 (t8 [])))) ?_
                  refine wp_ret ?_
                  refine zw (res1 rfl rfl) ?_
                  have hok := r12_6 (ok := true) h173 hnum (okT rfl ⟨h189, h193, hy198, hy203, hy208, h215⟩)
                  exact .inr ⟨fun h => hy236 (hok.1 h).2, rfl, (H.sub (List.nil_sublist _))⟩
                ·refine zv ?_
                 refine za ?_
                 refine zb (t100 (t100 (t30 (t8 [])))) ?_
                 refine x_blockNormal ?_
                 refine x_thenNormal ?_
                 refine zq 238 ⟨rfl, rfl⟩ ?_
                 refine zm ?_
                 refine zm ?_
                 refine zg ?_
                 refine zg ?_
                 refine zg ?_
                 refine zf ?_
                 refine za ?_
                 refine zc (t100 (t100 (t30 (t8 [])))) ?_
                 refine wp_ret ?_
                 refine zw (res1 rfl rfl) ?_
                 have hok := r12_6 (ok := false) h173 hnum (okF rfl (fun h => h215 (h.2.2.2.2.2)))
                 exact .inr ⟨fun h => absurd (hok.1 h).1 (by decide), rfl, (H.sub (List.nil_sublist _))⟩
               ·replace H := H.quiet HC
                refine zv ?_
                refine zm ?_
                refine zg ?_
                refine zg ?_
                refine zg ?_
                refine zg ?_
                refine zg ?_
                refine zf ?_
                refine za ?_
                refine zb (t100 (t100 (t30 (t8 [])))) ?_
                refine x_blockNormal ?_
                refine x_thenNormal ?_
                refine zq 238 ⟨rfl, rfl⟩ ?_
                refine zm ?_
                refine zm ?_
                refine zg ?_
                refine zg ?_
                refine zg ?_
                refine zf ?_
                refine za ?_
                refine zc (t100 (t100 (t30 (t8 [])))) ?_
                refine wp_ret ?_
                refine zw (res1 rfl rfl) ?_
                have hok := r12_6 (ok := false) h173 hnum (okF rfl (fun h => hy208 (h.2.2.2.2.1)))
                exact .inr ⟨fun h => absurd (hok.1 h).1 (by decide), rfl, (H.sub (List.nil_sublist _))⟩
              ·replace H := H.quiet HC
               refine zv ?_
               refine zm ?_
               refine zg ?_
               refine zg ?_
               refine zg ?_
               refine zf ?_
               refine zm ?_
               refine zg ?_
               refine zg ?_
               refine zg ?_
               refine zg ?_
               refine zg ?_
               refine zf ?_
               refine za ?_
               refine zb (t100 (t100 (t30 (t8 [])))) ?_
               refine x_blockNormal ?_
               refine x_thenNormal ?_
               refine zq 238 ⟨rfl, rfl⟩ ?_
               refine zm ?_
               refine zm ?_
               refine zg ?_
               refine zg ?_
               refine zg ?_
               refine zf ?_
               refine za ?_
               refine zc (t100 (t100 (t30 (t8 [])))) ?_
               refine wp_ret ?_
               refine zw (res1 rfl rfl) ?_
               have hok := r12_6 (ok := false) h173 hnum (okF rfl (fun h => hy203 (h.2.2.2.1)))
               exact .inr ⟨fun h => absurd (hok.1 h).1 (by decide), rfl, (H.sub (List.nil_sublist _))⟩
             ·replace H := H.quiet HC
              refine zv ?_
              refine zm ?_
              refine zg ?_
              refine zg ?_
              refine zg ?_
              refine zf ?_
              refine zm ?_
              refine zg ?_
              refine zg ?_
              refine zg ?_
              refine zf ?_
              refine zm ?_
              refine zg ?_
              refine zg ?_
              refine zg ?_
              refine zg ?_
              refine zg ?_
              refine zf ?_
              refine za ?_
              refine zb (t100 (t100 (t30 (t8 [])))) ?_
              refine x_blockNormal ?_
              refine x_thenNormal ?_
              refine zq 238 ⟨rfl, rfl⟩ ?_
              refine zm ?_
              refine zm ?_
              refine zg ?_
              refine zg ?_
              refine zg ?_
              refine zf ?_
              refine za ?_
              refine zc (t100 (t100 (t30 (t8 [])))) ?_
              refine wp_ret ?_
              refine zw (res1 rfl rfl) ?_
              have hok := r12_6 (ok := false) h173 hnum (okF rfl (fun h => hy198 (h.2.2.1)))
              exact .inr ⟨fun h => absurd (hok.1 h).1 (by decide), rfl, (H.sub (List.nil_sublist _))⟩
            ·refine zv ?_
             refine zm ?_
             refine zg ?_
             refine zg ?_
             refine zg ?_
             refine zf ?_
             refine zm ?_
             refine zg ?_
             refine zg ?_
             refine zg ?_
             refine zf ?_
             refine zm ?_
             refine zg ?_
             refine zg ?_
             refine zg ?_
             refine zf ?_
             refine zm ?_
             refine zg ?_
             refine zg ?_
             refine zg ?_
             refine zg ?_
             refine zg ?_
             refine zf ?_
             refine za ?_
             refine zb (t100 (t100 (t30 (t8 [])))) ?_
             refine x_blockNormal ?_
             refine x_thenNormal ?_
             refine zq 238 ⟨rfl, rfl⟩ ?_
             refine zm ?_
             refine zm ?_
             refine zg ?_
             refine zg ?_
             refine zg ?_
             refine zf ?_
             refine za ?_
             refine zc (t100 (t100 (t30 (t8 [])))) ?_
             refine wp_ret ?_
             refine zw (res1 rfl rfl) ?_
             have hok := r12_6 (ok := false) h173 hnum (okF rfl (fun h => h193 (h.2.1)))
             exact .inr ⟨fun h => absurd (hok.1 h).1 (by decide), rfl, (H.sub (List.nil_sublist _))⟩
           ·refine zm ?_
            refine zg ?_
            refine zg ?_
            refine zg ?_
            refine zf ?_
            refine zm ?_
            refine zg ?_
            refine zg ?_
            refine zg ?_
            refine zf ?_
            refine zm ?_
            refine zg ?_
            refine zg ?_
            refine zg ?_
            refine zf ?_
            refine zm ?_
            refine zg ?_
            refine zg ?_
            refine zg ?_
            refine zf ?_
            refine zm ?_
            refine zg ?_
            refine zg ?_
            refine zg ?_
            refine zg ?_
            refine zg ?_
            refine zf ?_
            refine za ?_
            refine zb (t100 (t100 (t30 (t8 [])))) ?_
            refine x_blockNormal ?_
            refine x_thenNormal ?_
            refine zq 238 ⟨rfl, rfl⟩ ?_
            refine zm ?_
            refine zm ?_
            refine zg ?_
            refine zg ?_
            refine zg ?_
            refine zf ?_
            refine za ?_
            refine zc (t100 (t100 (t30 (t8 [])))) ?_
            refine wp_ret ?_
            refine zw (res1 rfl rfl) ?_
            have hok := r12_6 (ok := false) h173 hnum (okF rfl (fun h => h189 (h.1)))
            exact .inr ⟨fun h => absurd (hok.1 h).1 (by decide), rfl, (H.sub (List.nil_sublist _))⟩
          ·refine zq 238 ⟨rfl, rfl⟩ ?_
           refine s_val (r_eql rfl rfl) ?_
           refine za ?_
           refine zc (t100 (t100 (t30 (t8 [])))) ?_
           refine c_if rfl (fun h217 => ?_) (fun h217 => ?_)
           ·refine zq 238 ⟨rfl, rfl⟩ ?_
            refine zR 6 qu65 qs28 ?_
            refine zL qg28 (H.at 1 rfl) ?_
            refine zR 6 qu65 qs28 ?_
            refine s_st (m_store1 H 0 qs28 rfl rfl rfl rfl (by show 6 < 11; omega) (rfl : _ = ceC (cR7 y))) (L' := (_ :: _ :: _)) rfl ?_
            intro w H
            refine zc (t100 (t100 (t30 (t8 [])))) ?_
            refine c_region (n := 238) ⟨rfl, rfl⟩ ?_
            refine zR 6 qu65 qs28 ?_
            refine zL qg28 (H.at 1 rfl) ?_
            refine s_test (r_geq rfl rfl) (fun h224 => ?_) (fun h224 => ?_)
            ·refine zm ?_
             refine zy ?_
             refine zR 6 qu65 qs28 ?_
             refine zy ?_
             refine zL qg28 (H.at 1 rfl) ?_
             refine zy ?_
             refine s_test (r_leq rfl rfl) (fun h228 => ?_) (fun h228 => ?_)
             ·refine zv ?_
              refine za ?_
              refine zb (t100 (t100 (t30 (t8 [])))) ?_
              refine x_blockNormal ?_
              refine x_thenNormal ?_
              refine zq 238 ⟨rfl, rfl⟩ ?_
              refine zm ?_
              refine zm ?_
              refine zy ?_
              refine s_val (zp qg65 qs65 (H.at 1 rfl) (ceC_td _)) ?_
              refine zy ?_
              refine s_val (zp qg65 qs65 (H.at 0 rfl) (ceC_td _)) ?_
              refine zy ?_
              refine s_call (r_call qc63 (ec rfl (ec rfl en))) (csame12_spec y (cR7 y) _ (hy.st (H.sub (List.nil_sublist _))) (brow_nil _ _)) ?_
              rintro v w (⟨hy236, rfl, HC⟩ | ⟨hy236, rfl, HC⟩)
              ·replace H := H.quiet HC
               refine zv ?_
               refine za ?_
               refine zc (t100 (t100 (t30 (t8 [])))) ?_
               refine wp_ret ?_
               refine zw (res1 rfl rfl) ?_
               have hok := r12_7 (ok := true) h217 hnum (okT rfl ⟨h224, h228⟩)
               exact .inl ⟨hok.2 ⟨rfl, hy236⟩, rfl, (H.sub (List.nil_sublist _))⟩
              ·replace H := H.quiet HC
               refine zv ?_
               refine za ?_
               refine zc (t100 (t100 (t30 (t8 [])))) ?_
               refine wp_ret ?_
               refine zw (res1 rfl rfl) ?_
               have hok := r12_7 (ok := true) h217 hnum (okT rfl ⟨h224, h228⟩)
               exact .inr ⟨fun h => hy236 (hok.1 h).2, rfl, (H.sub (List.nil_sublist _))⟩
             ·refine zv ?_
              refine za ?_
              refine zb (t100 (t100 (t30 (t8 [])))) ?_
              refine x_blockNormal ?_
              refine x_thenNormal ?_
              refine zq 238 ⟨rfl, rfl⟩ ?_
              refine zm ?_
              refine zm ?_
              refine zg ?_
              refine zg ?_
              refine zg ?_
              refine zf ?_
              refine za ?_
              refine zc (t100 (t100 (t30 (t8 [])))) ?_
              refine wp_ret ?_
              refine zw (res1 rfl rfl) ?_
              have hok := r12_7 (ok := false) h217 hnum (okF rfl (fun h => h228 (h.2)))
              exact .inr ⟨fun h => absurd (hok.1 h).1 (by decide), rfl, (H.sub (List.nil_sublist _))⟩
            ·refine zm ?_
             refine zg ?_
             refine zg ?_
             refine zg ?_
             refine zf ?_
             refine za ?_
             refine zb (t100 (t100 (t30 (t8 [])))) ?_
             refine x_blockNormal ?_
             refine x_thenNormal ?_
             refine zq 238 ⟨rfl, rfl⟩ ?_
             refine zm ?_
             refine zm ?_
             refine zg ?_
             refine zg ?_
             refine zg ?_
             refine zf ?_
             refine za ?_
             refine zc (t100 (t100 (t30 (t8 [])))) ?_
             refine wp_ret ?_
             refine zw (res1 rfl rfl) ?_
             have hok := r12_7 (ok := false) h217 hnum (okF rfl (fun h => h224 (h.1)))
             exact .inr ⟨fun h => absurd (hok.1 h).1 (by decide), rfl, (H.sub (List.nil_sublist _))⟩
           ·refine zq 238 ⟨rfl, rfl⟩ ?_
            refine s_val (r_eql rfl rfl) ?_
            refine za ?_
            refine zc (t100 (t100 (t30 (t8 [])))) ?_
            refine c_if rfl (fun h230 => ?_) (fun h230 => ?_)
            ·refine c_region (n := 238) ⟨rfl, rfl⟩ ?_
             refine za ?_
             refine zb (t100 (t100 (t30 (t8 [])))) ?_
             refine x_blockNormal ?_
             refine x_thenNormal ?_
             refine zq 238 ⟨rfl, rfl⟩ ?_
             refine zm ?_
             refine zm ?_
             refine zy ?_
             refine s_val (zp qg65 qs65 (H.at 1 rfl) (ceC_td _)) ?_
             refine zy ?_
             refine s_val (zp qg65 qs65 (H.at 0 rfl) (ceC_td _)) ?_
             refine zy ?_
             refine s_call (r_call qc63 (ec rfl (ec rfl en))) (csame12_spec y (oD0 y) _ (hy.st (H.sub (List.nil_sublist _))) (brow_nil _ _)) ?_
             rintro v w (⟨hy236, rfl, HC⟩ | ⟨hy236, rfl, HC⟩)
             ·replace H := H.quiet HC
              refine zv ?_
              refine za ?_
              refine zc (t100 (t100 (t30 (t8 [])))) ?_
              refine wp_ret ?_
              refine zw (res1 rfl rfl) ?_
              have hok := r12_8 (ok := true) h230 hnum (okT rfl trivial)
              exact .inl ⟨hok.2 ⟨rfl, hy236⟩, rfl, (H.sub (List.nil_sublist _))⟩
             ·replace H := H.quiet HC
              refine zv ?_
              refine za ?_
              refine zc (t100 (t100 (t30 (t8 [])))) ?_
              refine wp_ret ?_
              refine zw (res1 rfl rfl) ?_
              have hok := r12_8 (ok := true) h230 hnum (okT rfl trivial)
              exact .inr ⟨fun h => hy236 (hok.1 h).2, rfl, (H.sub (List.nil_sublist _))⟩
            ·refine wp_skip ?_
             refine x_blockNormal ?_
             refine x_thenNormal ?_
             refine zq 238 ⟨rfl, rfl⟩ ?_
             refine zm ?_
             refine zm ?_
             refine zg ?_
             refine zg ?_
             refine zg ?_
             refine zf ?_
             refine za ?_
             refine zc (t100 (t100 (t30 (t8 [])))) ?_
             refine wp_ret ?_
             refine zw (res1 rfl rfl) ?_
             have hok := r12_9 h39 h64 h78 h107 h156 h173 h217 h230
             exact .inr ⟨fun h => absurd (hok.1 h).1 (by decide), rfl, (H.sub (List.nil_sublist _))⟩
   ·replace H := H.quiet HC
    refine zy ?_
    refine s_val (r_not rfl) ?_
    refine zf ?_
    refine zc (t100 (t100 (t30 (t8 [])))) ?_
    refine c_ift rfl ?_
    refine zq 238 ⟨rfl, rfl⟩ ?_
    refine za ?_
    refine zc (t100 (t100 (t30 (t8 [])))) ?_
    refine wp_ret (x_thenRet ?_)
    refine zw (res1 rfl rfl) ?_
    exact .inr ⟨fun h => hy17 h.2.2.2.2.1, rfl, (H.sub (List.nil_sublist _))⟩

end Go.Proofs.YtobfnieebiakeaaGreat

