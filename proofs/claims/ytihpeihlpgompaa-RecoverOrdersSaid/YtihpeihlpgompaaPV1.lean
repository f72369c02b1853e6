import Derived.Test.YtihpeihlpgompaaPX3
import Derived.Test.YtihpeihlpgompaaPVx1
namespace Go.Proofs.Ytihpeihlpgompaa
open Go Go.Er

set_option maxHeartbeats 4000000 in
theorem csame12_spec (x y : Ce) (w0 : World) (hx : BRow w0 x.body.a x.body.b) (hy : BRow w0 y.body.a y.body.b) :
  Calls Try.prog 10 #[.agg (ceC x).toArray, .agg (ceC y).toArray] w0 fun e w => ∃ v, e = .returned v ∧ (((ceEq x y) ∧ v = .bool true ∧ St w0 [] w []) ∨ (¬ (ceEq x y) ∧ v = .bool false ∧ St w0 [] w [])) := by
 have H := St.refl w0
 refine c_enter (args := [.agg (ceC x).toArray, .agg (ceC y).toArray]) (l := [.agg (ceC x).toArray, .agg (ceC y).toArray, undef, undef, undef, undef, undef, undef, undef, undef, undef, undef, undef, undef, undef, undef, undef, undef, undef, undef, undef, undef, undef, undef, undef, undef, undef, undef, undef, undef, undef, undef, undef, undef, undef, undef, undef, undef, undef, undef, undef, undef, undef, undef, undef, undef, undef, undef, undef, undef, undef, undef, undef, undef, undef, undef, undef, undef, undef, undef, undef, undef, undef, undef, undef, undef, undef, undef]) Try.func10 Try.ntmps10 rfl rfl ?_
 refine c_rseq (n := 68) ⟨rfl, rfl⟩ ?_
 refine s_new (m_box (cs := (ceC x)) H rfl rfl) ?_
 intro w b2 H
 refine s_new (m_box (cs := (ceC y)) H rfl rfl) ?_
 intro w b3 H
 refine s_val (r_assign rfl) ?_
 refine c_nil (l' := [_,_,_,_,_,_,_,_,_,_,_,_,_,_,_,_,_,_,_,_,_,_,_,_,_,_,_,_,_,_,_,_,_,_,_,_,_,_,_,_,_,_,_,_,_,_,_,_,_,_,_,_,_,_,_,_,_,_,_,_,_,_,_,_,_,_,_,_]) rfl ?_
 refine c_rseq (n := 68) ⟨rfl, rfl⟩ ?_
 refine s_val (r_fieldAddr (k := 0) Try.runUnderlying40 rfl Try.sizeOf3 (by decide) rfl rfl) ?_
 refine s_val (r_load1 Try.isAgg3 rfl (H.at 1 rfl) rfl) ?_
 refine s_val (r_fieldAddr (k := 0) Try.runUnderlying40 rfl Try.sizeOf3 (by decide) rfl rfl) ?_
 refine s_val (r_load1 Try.isAgg3 rfl (H.at 0 rfl) rfl) ?_
 refine s_test (r_eql rfl rfl) (fun h9 => ?_) (fun h9 => ?_)
 ·skip
  refine s_val (r_move rfl) ?_
  refine g_yes rfl rfl ?_
  refine s_val (r_fieldAddr (k := 1) Try.runUnderlying40 rfl Try.sizeOf24 (by decide) rfl rfl) ?_
  refine g_yes rfl rfl ?_
  refine s_val (r_load1 Try.isAgg24 rfl (H.at 1 rfl) rfl) ?_
  refine g_yes rfl rfl ?_
  refine s_val (r_fieldAddr (k := 1) Try.runUnderlying40 rfl Try.sizeOf24 (by decide) rfl rfl) ?_
  refine g_yes rfl rfl ?_
  refine s_val (r_load1 Try.isAgg24 rfl (H.at 0 rfl) rfl) ?_
  refine g_yes rfl rfl ?_
  refine s_test (r_eql rfl rfl) (fun h15 => ?_) (fun h15 => ?_)
  ·skip
   refine s_val (r_pickt rfl rfl) ?_
   refine s_val (r_move rfl) ?_
   refine g_yes rfl rfl ?_
   refine s_val (r_fieldAddr (k := 2) Try.runUnderlying40 rfl Try.sizeOf3 (by decide) rfl rfl) ?_
   refine g_yes rfl rfl ?_
   refine s_val (r_load1 Try.isAgg3 rfl (H.at 1 rfl) rfl) ?_
   refine g_yes rfl rfl ?_
   refine s_val (r_fieldAddr (k := 2) Try.runUnderlying40 rfl Try.sizeOf3 (by decide) rfl rfl) ?_
   refine g_yes rfl rfl ?_
   refine s_val (r_load1 Try.isAgg3 rfl (H.at 0 rfl) rfl) ?_
   refine g_yes rfl rfl ?_
   refine s_test (r_eql rfl rfl) (fun h22 => ?_) (fun h22 => ?_)
   ·skip
    refine s_val (r_pickt rfl rfl) ?_
    refine s_val (r_move rfl) ?_
    refine g_yes rfl rfl ?_
    refine s_val (r_fieldAddr (k := 3) Try.runUnderlying40 rfl Try.sizeOf38 (by decide) rfl rfl) ?_
    refine g_yes rfl rfl ?_
    refine s_val (r_loadn Try.isAgg38 Try.sizeOf38 rfl (H.at 1 rfl) (by first | exact (kC_td _) | exact (hC_td _) | exact (hC_seed _) | exact (ceC_td _) | exact (ceC_place _) | exact (ptC_td _ _ _ _) | exact (plV_td _ _ _) | exact (frC_td _) | exact (frC_cell _) | exact (fdV_td _ _ _)) (by first | exact (kC_length _) | exact (hC_length _) | exact (ceC_length _) | exact (ptC_length _ _ _ _) | exact (plV_length _ _ _) | exact (elFr.len _) | exact (frC_length _) | exact (fdV_length _ _ _) | exact rfl)) ?_
    refine g_yes rfl rfl ?_
    refine s_val (r_fieldAddr (k := 3) Try.runUnderlying40 rfl Try.sizeOf38 (by decide) rfl rfl) ?_
    refine g_yes rfl rfl ?_
    refine s_val (r_loadn Try.isAgg38 Try.sizeOf38 rfl (H.at 0 rfl) (by first | exact (kC_td _) | exact (hC_td _) | exact (hC_seed _) | exact (ceC_td _) | exact (ceC_place _) | exact (ptC_td _ _ _ _) | exact (plV_td _ _ _) | exact (frC_td _) | exact (frC_cell _) | exact (fdV_td _ _ _)) (by first | exact (kC_length _) | exact (hC_length _) | exact (ceC_length _) | exact (ptC_length _ _ _ _) | exact (plV_length _ _ _) | exact (elFr.len _) | exact (frC_length _) | exact (fdV_length _ _ _) | exact rfl)) ?_
    refine g_yes rfl rfl ?_
    refine s_test (r_eqlTr tripT38 rfl rfl) (fun h29 => ?_) (fun h29 => ?_)
    ·skip
     refine s_val (r_pickt rfl rfl) ?_
     refine s_val (r_move rfl) ?_
     refine g_yes rfl rfl ?_
     refine s_val (r_fieldAddr (k := 6) Try.runUnderlying40 rfl Try.sizeOf24 (by decide) rfl rfl) ?_
     refine g_yes rfl rfl ?_
     refine s_val (r_load1 Try.isAgg24 rfl (H.at 1 rfl) rfl) ?_
     refine g_yes rfl rfl ?_
     refine s_val (r_fieldAddr (k := 6) Try.runUnderlying40 rfl Try.sizeOf24 (by decide) rfl rfl) ?_
     refine g_yes rfl rfl ?_
     refine s_val (r_load1 Try.isAgg24 rfl (H.at 0 rfl) rfl) ?_
     refine g_yes rfl rfl ?_
     refine s_test (r_eql rfl rfl) (fun h36 => ?_) (fun h36 => ?_)
     ·skip
      refine s_val (r_pickt rfl rfl) ?_
      refine s_val (r_move rfl) ?_
      refine g_yes rfl rfl ?_
      refine s_val (r_fieldAddr (k := 7) Try.runUnderlying40 rfl Try.sizeOf3 (by decide) rfl rfl) ?_
      refine g_yes rfl rfl ?_
      refine s_val (r_load1 Try.isAgg3 rfl (H.at 1 rfl) rfl) ?_
      refine g_yes rfl rfl ?_
      refine s_val (r_fieldAddr (k := 7) Try.runUnderlying40 rfl Try.sizeOf3 (by decide) rfl rfl) ?_
      refine g_yes rfl rfl ?_
      refine s_val (r_load1 Try.isAgg3 rfl (H.at 0 rfl) rfl) ?_
      refine g_yes rfl rfl ?_
      refine s_test (r_eql rfl rfl) (fun h43 => ?_) (fun h43 => ?_)
      ·skip
       refine s_val (r_pickt rfl rfl) ?_
       refine s_val (r_move rfl) ?_
       refine g_yes rfl rfl ?_
       refine s_val (r_fieldAddr (k := 8) Try.runUnderlying40 rfl Try.sizeOf3 (by decide) rfl rfl) ?_
       refine g_yes rfl rfl ?_
       refine s_val (r_load1 Try.isAgg3 rfl (H.at 1 rfl) rfl) ?_
       refine g_yes rfl rfl ?_
       refine s_val (r_fieldAddr (k := 8) Try.runUnderlying40 rfl Try.sizeOf3 (by decide) rfl rfl) ?_
       refine g_yes rfl rfl ?_
       refine s_val (r_load1 Try.isAgg3 rfl (H.at 0 rfl) rfl) ?_
       refine g_yes rfl rfl ?_
       refine s_test (r_eql rfl rfl) (fun h50 => ?_) (fun h50 => ?_)
       ·skip
        refine s_val (r_pickt rfl rfl) ?_
        refine s_val (r_move rfl) ?_
        refine g_yes rfl rfl ?_
        refine s_val (r_fieldAddr (k := 9) Try.runUnderlying40 rfl Try.sizeOf3 (by decide) rfl rfl) ?_
        refine g_yes rfl rfl ?_
        refine s_val (r_load1 Try.isAgg3 rfl (H.at 1 rfl) rfl) ?_
        refine g_yes rfl rfl ?_
        refine s_val (r_fieldAddr (k := 9) Try.runUnderlying40 rfl Try.sizeOf3 (by decide) rfl rfl) ?_
        refine g_yes rfl rfl ?_
        refine s_val (r_load1 Try.isAgg3 rfl (H.at 0 rfl) rfl) ?_
        refine g_yes rfl rfl ?_
        refine s_test (r_eql rfl rfl) (fun h57 => ?_) (fun h57 => ?_)
        ·skip
         refine s_val (r_pickt rfl rfl) ?_
         refine s_val (r_move rfl) ?_
         refine g_yes rfl rfl ?_
         refine s_val (r_fieldAddr (k := 10) Try.runUnderlying40 rfl Try.sizeOf25 (by decide) rfl rfl) ?_
         refine g_yes rfl rfl ?_
         refine s_val (r_load1 Try.isAgg25 rfl (H.at 1 rfl) rfl) ?_
         refine g_yes rfl rfl ?_
         refine s_val (r_textB Try.runUnderlying25 Try.runUnderlying9 Try.runUnderlying5 (a := x.body.a) (c := x.body.c) (bs := x.body.b) rfl (hx.st (H.sub (List.nil_sublist _)))) ?_
         refine g_yes rfl rfl ?_
         refine s_val (r_fieldAddr (k := 10) Try.runUnderlying40 rfl Try.sizeOf25 (by decide) rfl rfl) ?_
         refine g_yes rfl rfl ?_
         refine s_val (r_load1 Try.isAgg25 rfl (H.at 0 rfl) rfl) ?_
         refine g_yes rfl rfl ?_
         refine s_val (r_textB Try.runUnderlying25 Try.runUnderlying9 Try.runUnderlying5 (a := y.body.a) (c := y.body.c) (bs := y.body.b) rfl (hy.st (H.sub (List.nil_sublist _)))) ?_
         refine g_yes rfl rfl ?_
         refine s_test (r_eqlT (s := x.body.b) (t := y.body.b) rfl rfl) (fun h66 => ?_) (fun h66 => ?_)
         ·skip
          refine s_val (r_pickt rfl rfl) ?_
          refine s_val (r_assign rfl) ?_
          refine c_nil (l' := [_,_,_,_,_,_,_,_,_,_,_,_,_,_,_,_,_,_,_,_,_,_,_,_,_,_,_,_,_,_,_,_,_,_,_,_,_,_,_,_,_,_,_,_,_,_,_,_,_,_,_,_,_,_,_,_,_,_,_,_,_,_,_,_,_,_,_,_]) rfl ?_
          refine wp_ret ?_
          refine e_ret (res1 rfl rfl) ⟨_, rfl, ?_⟩
          exact .inl ⟨⟨h9, h15, h22, h29, h36, h43, h50, h57, h66⟩, rfl, (H.sub (List.nil_sublist _))⟩
         ·skip
          refine s_val (r_pickt rfl rfl) ?_
          refine s_val (r_assign rfl) ?_
          refine c_nil (l' := [_,_,_,_,_,_,_,_,_,_,_,_,_,_,_,_,_,_,_,_,_,_,_,_,_,_,_,_,_,_,_,_,_,_,_,_,_,_,_,_,_,_,_,_,_,_,_,_,_,_,_,_,_,_,_,_,_,_,_,_,_,_,_,_,_,_,_,_]) rfl ?_
          refine wp_ret ?_
          refine e_ret (res1 rfl rfl) ⟨_, rfl, ?_⟩
          exact .inr ⟨fun h => h66 h.2.2.2.2.2.2.2.2, rfl, (H.sub (List.nil_sublist _))⟩
        ·skip
         refine s_val (r_pickt rfl rfl) ?_
         refine s_val (r_move rfl) ?_
         refine g_no rfl rfl (by decide) ?_
         refine g_no rfl rfl (by decide) ?_
         refine g_no rfl rfl (by decide) ?_
         refine g_no rfl rfl (by decide) ?_
         refine g_no rfl rfl (by decide) ?_
         refine g_no rfl rfl (by decide) ?_
         refine g_no rfl rfl (by decide) ?_
         refine s_val (r_pickf rfl rfl) ?_
         refine s_val (r_assign rfl) ?_
         refine c_nil (l' := [_,_,_,_,_,_,_,_,_,_,_,_,_,_,_,_,_,_,_,_,_,_,_,_,_,_,_,_,_,_,_,_,_,_,_,_,_,_,_,_,_,_,_,_,_,_,_,_,_,_,_,_,_,_,_,_,_,_,_,_,_,_,_,_,_,_,_,_]) rfl ?_
         refine wp_ret ?_
         refine e_ret (res1 rfl rfl) ⟨_, rfl, ?_⟩
         exact .inr ⟨fun h => h57 h.2.2.2.2.2.2.2.1, rfl, (H.sub (List.nil_sublist _))⟩
       ·skip
        refine s_val (r_pickt rfl rfl) ?_
        refine s_val (r_move rfl) ?_
        refine g_no rfl rfl (by decide) ?_
        refine g_no rfl rfl (by decide) ?_
        refine g_no rfl rfl (by decide) ?_
        refine g_no rfl rfl (by decide) ?_
        refine g_no rfl rfl (by decide) ?_
        refine s_val (r_pickf rfl rfl) ?_
        refine s_val (r_move rfl) ?_
        refine g_no rfl rfl (by decide) ?_
        refine g_no rfl rfl (by decide) ?_
        refine g_no rfl rfl (by decide) ?_
        refine g_no rfl rfl (by decide) ?_
        refine g_no rfl rfl (by decide) ?_
        refine g_no rfl rfl (by decide) ?_
        refine g_no rfl rfl (by decide) ?_
        refine s_val (r_pickf rfl rfl) ?_
        refine s_val (r_assign rfl) ?_
        refine c_nil (l' := [_,_,_,_,_,_,_,_,_,_,_,_,_,_,_,_,_,_,_,_,_,_,_,_,_,_,_,_,_,_,_,_,_,_,_,_,_,_,_,_,_,_,_,_,_,_,_,_,_,_,_,_,_,_,_,_,_,_,_,_,_,_,_,_,_,_,_,_]) rfl ?_
        refine wp_ret ?_
        refine e_ret (res1 rfl rfl) ⟨_, rfl, ?_⟩
        exact .inr ⟨fun h => h50 h.2.2.2.2.2.2.1, rfl, (H.sub (List.nil_sublist _))⟩
      ·skip
       refine s_val (r_pickt rfl rfl) ?_
       refine s_val (r_move rfl) ?_
       refine g_no rfl rfl (by decide) ?_
       refine g_no rfl rfl (by decide) ?_
       refine g_no rfl rfl (by decide) ?_
       refine g_no rfl rfl (by decide) ?_
       refine g_no rfl rfl (by decide) ?_
       refine s_val (r_pickf rfl rfl) ?_
       refine s_val (r_move rfl) ?_
       refine g_no rfl rfl (by decide) ?_
       refine g_no rfl rfl (by decide) ?_
       refine g_no rfl rfl (by decide) ?_
       refine g_no rfl rfl (by decide) ?_
       refine g_no rfl rfl (by decide) ?_
       refine s_val (r_pickf rfl rfl) ?_
       refine s_val (r_move rfl) ?_
       refine g_no rfl rfl (by decide) ?_
       refine g_no rfl rfl (by decide) ?_
       refine g_no rfl rfl (by decide) ?_
       refine g_no rfl rfl (by decide) ?_
       refine g_no rfl rfl (by decide) ?_
       refine g_no rfl rfl (by decide) ?_
       refine g_no rfl rfl (by decide) ?_
       refine s_val (r_pickf rfl rfl) ?_
       refine s_val (r_assign rfl) ?_
       refine c_nil (l' := [_,_,_,_,_,_,_,_,_,_,_,_,_,_,_,_,_,_,_,_,_,_,_,_,_,_,_,_,_,_,_,_,_,_,_,_,_,_,_,_,_,_,_,_,_,_,_,_,_,_,_,_,_,_,_,_,_,_,_,_,_,_,_,_,_,_,_,_]) rfl ?_
       refine wp_ret ?_
       refine e_ret (res1 rfl rfl) ⟨_, rfl, ?_⟩
       exact .inr ⟨fun h => h43 h.2.2.2.2.2.1, rfl, (H.sub (List.nil_sublist _))⟩
     ·skip
      refine s_val (r_pickt rfl rfl) ?_
      refine s_val (r_move rfl) ?_
      refine g_no rfl rfl (by decide) ?_
      refine g_no rfl rfl (by decide) ?_
      refine g_no rfl rfl (by decide) ?_
      refine g_no rfl rfl (by decide) ?_
      refine g_no rfl rfl (by decide) ?_
      refine s_val (r_pickf rfl rfl) ?_
      refine s_val (r_move rfl) ?_
      refine g_no rfl rfl (by decide) ?_
      refine g_no rfl rfl (by decide) ?_
      refine g_no rfl rfl (by decide) ?_
      refine g_no rfl rfl (by decide) ?_
      refine g_no rfl rfl (by decide) ?_
      refine s_val (r_pickf rfl rfl) ?_
      refine s_val (r_move rfl) ?_
      refine g_no rfl rfl (by decide) ?_
      refine g_no rfl rfl (by decide) ?_
      refine g_no rfl rfl (by decide) ?_
      refine g_no rfl rfl (by decide) ?_
      refine g_no rfl rfl (by decide) ?_
      refine s_val (r_pickf rfl rfl) ?_
      refine s_val (r_move rfl) ?_
      refine g_no rfl rfl (by decide) ?_
      refine g_no rfl rfl (by decide) ?_
      refine g_no rfl rfl (by decide) ?_
      refine g_no rfl rfl (by decide) ?_
      refine g_no rfl rfl (by decide) ?_
      refine g_no rfl rfl (by decide) ?_
      refine g_no rfl rfl (by decide) ?_
      refine s_val (r_pickf rfl rfl) ?_
      refine s_val (r_assign rfl) ?_
      refine c_nil (l' := [_,_,_,_,_,_,_,_,_,_,_,_,_,_,_,_,_,_,_,_,_,_,_,_,_,_,_,_,_,_,_,_,_,_,_,_,_,_,_,_,_,_,_,_,_,_,_,_,_,_,_,_,_,_,_,_,_,_,_,_,_,_,_,_,_,_,_,_]) rfl ?_
      refine wp_ret ?_
      refine e_ret (res1 rfl rfl) ⟨_, rfl, ?_⟩
      exact .inr ⟨fun h => h36 h.2.2.2.2.1, rfl, (H.sub (List.nil_sublist _))⟩
    ·skip
     refine s_val (r_pickt rfl rfl) ?_
     refine s_val (r_move rfl) ?_
     refine g_no rfl rfl (by decide) ?_
     refine g_no rfl rfl (by decide) ?_
     refine g_no rfl rfl (by decide) ?_
     refine g_no rfl rfl (by decide) ?_
     refine g_no rfl rfl (by decide) ?_
     refine s_val (r_pickf rfl rfl) ?_
     refine s_val (r_move rfl) ?_
     refine g_no rfl rfl (by decide) ?_
     refine g_no rfl rfl (by decide) ?_
     refine g_no rfl rfl (by decide) ?_
     refine g_no rfl rfl (by decide) ?_
     refine g_no rfl rfl (by decide) ?_
     refine s_val (r_pickf rfl rfl) ?_
     refine s_val (r_move rfl) ?_
     refine g_no rfl rfl (by decide) ?_
     refine g_no rfl rfl (by decide) ?_
     refine g_no rfl rfl (by decide) ?_
     refine g_no rfl rfl (by decide) ?_
     refine g_no rfl rfl (by decide) ?_
     refine s_val (r_pickf rfl rfl) ?_
     refine s_val (r_move rfl) ?_
     refine g_no rfl rfl (by decide) ?_
     refine g_no rfl rfl (by decide) ?_
     refine g_no rfl rfl (by decide) ?_
     refine g_no rfl rfl (by decide) ?_
     refine g_no rfl rfl (by decide) ?_
     refine s_val (r_pickf rfl rfl) ?_
     refine s_val (r_move rfl) ?_
     refine g_no rfl rfl (by decide) ?_
     refine g_no rfl rfl (by decide) ?_
     refine g_no rfl rfl (by decide) ?_
     refine g_no rfl rfl (by decide) ?_
     refine g_no rfl rfl (by decide) ?_
     refine g_no rfl rfl (by decide) ?_
     refine g_no rfl rfl (by decide) ?_
     refine s_val (r_pickf rfl rfl) ?_
     refine s_val (r_assign rfl) ?_
     refine c_nil (l' := [_,_,_,_,_,_,_,_,_,_,_,_,_,_,_,_,_,_,_,_,_,_,_,_,_,_,_,_,_,_,_,_,_,_,_,_,_,_,_,_,_,_,_,_,_,_,_,_,_,_,_,_,_,_,_,_,_,_,_,_,_,_,_,_,_,_,_,_]) rfl ?_
     refine wp_ret ?_
     refine e_ret (res1 rfl rfl) ⟨_, rfl, ?_⟩
     exact .inr ⟨fun h => h29 h.2.2.2.1, rfl, (H.sub (List.nil_sublist _))⟩
   ·skip
    refine s_val (r_pickt rfl rfl) ?_
    refine s_val (r_move rfl) ?_
    refine g_no rfl rfl (by decide) ?_
    refine g_no rfl rfl (by decide) ?_
    refine g_no rfl rfl (by decide) ?_
    refine g_no rfl rfl (by decide) ?_
    refine g_no rfl rfl (by decide) ?_
    refine s_val (r_pickf rfl rfl) ?_
    refine s_val (r_move rfl) ?_
    refine g_no rfl rfl (by decide) ?_
    refine g_no rfl rfl (by decide) ?_
    refine g_no rfl rfl (by decide) ?_
    refine g_no rfl rfl (by decide) ?_
    refine g_no rfl rfl (by decide) ?_
    refine s_val (r_pickf rfl rfl) ?_
    refine s_val (r_move rfl) ?_
    refine g_no rfl rfl (by decide) ?_
    refine g_no rfl rfl (by decide) ?_
    refine g_no rfl rfl (by decide) ?_
    refine g_no rfl rfl (by decide) ?_
    refine g_no rfl rfl (by decide) ?_
    refine s_val (r_pickf rfl rfl) ?_
    refine s_val (r_move rfl) ?_
    refine g_no rfl rfl (by decide) ?_
    refine g_no rfl rfl (by decide) ?_
    refine g_no rfl rfl (by decide) ?_
    refine g_no rfl rfl (by decide) ?_
    refine g_no rfl rfl (by decide) ?_
    refine s_val (r_pickf rfl rfl) ?_
    refine s_val (r_move rfl) ?_
    refine g_no rfl rfl (by decide) ?_
    refine g_no rfl rfl (by decide) ?_
    refine g_no rfl rfl (by decide) ?_
    refine g_no rfl rfl (by decide) ?_
    refine g_no rfl rfl (by decide) ?_
    refine s_val (r_pickf rfl rfl) ?_
    refine s_val (r_move rfl) ?_
    refine g_no rfl rfl (by decide) ?_
    refine g_no rfl rfl (by decide) ?_
    refine g_no rfl rfl (by decide) ?_
    refine g_no rfl rfl (by decide) ?_
    refine g_no rfl rfl (by decide) ?_
    refine g_no rfl rfl (by decide) ?_
    refine g_no rfl rfl (by decide) ?_
    refine s_val (r_pickf rfl rfl) ?_
    refine s_val (r_assign rfl) ?_
    refine c_nil (l' := [_,_,_,_,_,_,_,_,_,_,_,_,_,_,_,_,_,_,_,_,_,_,_,_,_,_,_,_,_,_,_,_,_,_,_,_,_,_,_,_,_,_,_,_,_,_,_,_,_,_,_,_,_,_,_,_,_,_,_,_,_,_,_,_,_,_,_,_]) rfl ?_
    refine wp_ret ?_
    refine e_ret (res1 rfl rfl) ⟨_, rfl, ?_⟩
    exact .inr ⟨fun h => h22 h.2.2.1, rfl, (H.sub (List.nil_sublist _))⟩
  ·skip
   refine s_val (r_pickt rfl rfl) ?_
   refine s_val (r_move rfl) ?_
   refine g_no rfl rfl (by decide) ?_
   refine g_no rfl rfl (by decide) ?_
   refine g_no rfl rfl (by decide) ?_
   refine g_no rfl rfl (by decide) ?_
   refine g_no rfl rfl (by decide) ?_
   refine s_val (r_pickf rfl rfl) ?_
   refine s_val (r_move rfl) ?_
   refine g_no rfl rfl (by decide) ?_
   refine g_no rfl rfl (by decide) ?_
   refine g_no rfl rfl (by decide) ?_
   refine g_no rfl rfl (by decide) ?_
   refine g_no rfl rfl (by decide) ?_
   refine s_val (r_pickf rfl rfl) ?_
   refine s_val (r_move rfl) ?_
   refine g_no rfl rfl (by decide) ?_
   refine g_no rfl rfl (by decide) ?_
   refine g_no rfl rfl (by decide) ?_
   refine g_no rfl rfl (by decide) ?_
   refine g_no rfl rfl (by decide) ?_
   refine s_val (r_pickf rfl rfl) ?_
   refine s_val (r_move rfl) ?_
   refine g_no rfl rfl (by decide) ?_
   refine g_no rfl rfl (by decide) ?_
   refine g_no rfl rfl (by decide) ?_
   refine g_no rfl rfl (by decide) ?_
   refine g_no rfl rfl (by decide) ?_
   refine s_val (r_pickf rfl rfl) ?_
   refine s_val (r_move rfl) ?_
   refine g_no rfl rfl (by decide) ?_
   refine g_no rfl rfl (by decide) ?_
   refine g_no rfl rfl (by decide) ?_
   refine g_no rfl rfl (by decide) ?_
   refine g_no rfl rfl (by decide) ?_
   refine s_val (r_pickf rfl rfl) ?_
   refine s_val (r_move rfl) ?_
   refine g_no rfl rfl (by decide) ?_
   refine g_no rfl rfl (by decide) ?_
   refine g_no rfl rfl (by decide) ?_
   refine g_no rfl rfl (by decide) ?_
   refine g_no rfl rfl (by decide) ?_
   refine s_val (r_pickf rfl rfl) ?_
   refine s_val (r_move rfl) ?_
   refine g_no rfl rfl (by decide) ?_
   refine g_no rfl rfl (by decide) ?_
   refine g_no rfl rfl (by decide) ?_
   refine g_no rfl rfl (by decide) ?_
   refine g_no rfl rfl (by decide) ?_
   refine g_no rfl rfl (by decide) ?_
   refine g_no rfl rfl (by decide) ?_
   refine s_val (r_pickf rfl rfl) ?_
   refine s_val (r_assign rfl) ?_
   refine c_nil (l' := [_,_,_,_,_,_,_,_,_,_,_,_,_,_,_,_,_,_,_,_,_,_,_,_,_,_,_,_,_,_,_,_,_,_,_,_,_,_,_,_,_,_,_,_,_,_,_,_,_,_,_,_,_,_,_,_,_,_,_,_,_,_,_,_,_,_,_,_]) rfl ?_
   refine wp_ret ?_
   refine e_ret (res1 rfl rfl) ⟨_, rfl, ?_⟩
   exact .inr ⟨fun h => h15 h.2.1, rfl, (H.sub (List.nil_sublist _))⟩
 ·skip
  refine s_val (r_move rfl) ?_
  refine g_no rfl rfl (by decide) ?_
  refine g_no rfl rfl (by decide) ?_
  refine g_no rfl rfl (by decide) ?_
  refine g_no rfl rfl (by decide) ?_
  refine g_no rfl rfl (by decide) ?_
  refine s_val (r_pickf rfl rfl) ?_
  refine s_val (r_move rfl) ?_
  refine g_no rfl rfl (by decide) ?_
  refine g_no rfl rfl (by decide) ?_
  refine g_no rfl rfl (by decide) ?_
  refine g_no rfl rfl (by decide) ?_
  refine g_no rfl rfl (by decide) ?_
  refine s_val (r_pickf rfl rfl) ?_
  refine s_val (r_move rfl) ?_
  refine g_no rfl rfl (by decide) ?_
  refine g_no rfl rfl (by decide) ?_
  refine g_no rfl rfl (by decide) ?_
  refine g_no rfl rfl (by decide) ?_
  refine g_no rfl rfl (by decide) ?_
  refine s_val (r_pickf rfl rfl) ?_
  refine s_val (r_move rfl) ?_
  refine g_no rfl rfl (by decide) ?_
  refine g_no rfl rfl (by decide) ?_
  refine g_no rfl rfl (by decide) ?_
  refine g_no rfl rfl (by decide) ?_
  refine g_no rfl rfl (by decide) ?_
  refine s_val (r_pickf rfl rfl) ?_
  refine s_val (r_move rfl) ?_
  refine g_no rfl rfl (by decide) ?_
  refine g_no rfl rfl (by decide) ?_
  refine g_no rfl rfl (by decide) ?_
  refine g_no rfl rfl (by decide) ?_
  refine g_no rfl rfl (by decide) ?_
  refine s_val (r_pickf rfl rfl) ?_
  refine s_val (r_move rfl) ?_
  refine g_no rfl rfl (by decide) ?_
  refine g_no rfl rfl (by decide) ?_
  refine g_no rfl rfl (by decide) ?_
  refine g_no rfl rfl (by decide) ?_
  refine g_no rfl rfl (by decide) ?_
  refine s_val (r_pickf rfl rfl) ?_
  refine s_val (r_move rfl) ?_
  refine g_no rfl rfl (by decide) ?_
  refine g_no rfl rfl (by decide) ?_
  refine g_no rfl rfl (by decide) ?_
  refine g_no rfl rfl (by decide) ?_
  refine g_no rfl rfl (by decide) ?_
  refine s_val (r_pickf rfl rfl) ?_
  refine s_val (r_move rfl) ?_
  refine g_no rfl rfl (by decide) ?_
  refine g_no rfl rfl (by decide) ?_
  refine g_no rfl rfl (by decide) ?_
  refine g_no rfl rfl (by decide) ?_
  refine g_no rfl rfl (by decide) ?_
  refine g_no rfl rfl (by decide) ?_
  refine g_no rfl rfl (by decide) ?_
  refine s_val (r_pickf rfl rfl) ?_
  refine s_val (r_assign rfl) ?_
  refine c_nil (l' := [_,_,_,_,_,_,_,_,_,_,_,_,_,_,_,_,_,_,_,_,_,_,_,_,_,_,_,_,_,_,_,_,_,_,_,_,_,_,_,_,_,_,_,_,_,_,_,_,_,_,_,_,_,_,_,_,_,_,_,_,_,_,_,_,_,_,_,_]) rfl ?_
  refine wp_ret ?_
  refine e_ret (res1 rfl rfl) ⟨_, rfl, ?_⟩
  exact .inr ⟨fun h => h9 h.1, rfl, (H.sub (List.nil_sublist _))⟩

theorem csame12_yes (x y : Ce) (h : ceEq x y) (w0 : World) (hx : BRow w0 x.body.a x.body.b) (hy : BRow w0 y.body.a y.body.b) :
  Calls Try.prog 10 #[.agg (ceC x).toArray, .agg (ceC y).toArray] w0 fun e w => ∃ v, e = .returned v ∧ v = .bool true ∧ St w0 [] w [] :=
 (csame12_spec x y w0 hx hy).mono fun _ _ ⟨v, he, hv⟩ => ⟨v, he, by
  rcases hv with ⟨_, hv, H⟩ | ⟨hn, _⟩
  ·exact ⟨hv, H⟩
  ·exact absurd h hn⟩

set_option maxHeartbeats 4000000 in
theorem mark_spec (n m : Int) (w0 : World) :
  Calls Try.prog 11 #[.int .u64 n, .int .i64 m] w0 fun e w => ∃ v, e = .returned v ∧ (v = .agg (ceC (mk8 n m)).toArray ∧ St w0 [] w []) := by
 have H := St.refl w0
 refine c_enter (args := [.int .u64 n, .int .i64 m]) (l := [.int .u64 n, .int .i64 m, undef, undef, undef, undef, undef, undef]) Try.func11 Try.ntmps11 rfl rfl ?_
 refine c_rseq (n := 8) ⟨rfl, rfl⟩ ?_
 refine s_new (m_alloc (cs := (ceC ce0)) H Try.zeroValue40 rfl) ?_
 intro w b4 H
 refine c_nil (l' := [_,_,_,_,_,_,_,_]) rfl ?_
 refine c_rseq (n := 8) ⟨rfl, rfl⟩ ?_
 refine s_val (r_move rfl) ?_
 refine s_val (r_move rfl) ?_
 refine s_val (r_buildS Try.runUnderlying40 Try.zeroValue40 places40 (pc rfl (pc rfl (pc rfl pn))) (rfl : fillL _ _ _ = some (ceC (mk8 n m)))) ?_
 refine s_st (m_storen H 0 11 Try.sizeOf40 rfl rfl (by first | exact (kC_length _) | exact (hC_length _) | exact (ceC_length _) | exact (ptC_length _ _ _ _) | exact (plV_length _ _ _) | exact (elFr.len _) | exact (frC_length _) | exact (fdV_length _ _ _)) (by first | exact (kC_one _) | exact (hC_one _) | exact (ceC_one _) | exact (ptC_one _ _ _ _) | exact (plV_one _ _ _) | exact (elFr.one _) | exact (frC_one _) | exact (fdV_one _ _ _)) rfl (by show 0 + 11 ≤ 11; omega) (ceC_sp _ _)) (L' := [_]) rfl ?_
 intro w H
 refine c_nil (l' := [_,_,_,_,_,_,_,_]) rfl ?_
 refine wp_ret ?_
 refine e_ret (rc_one rfl (rc_celln Try.isAgg40 Try.sizeOf40 rfl (H.at 0 rfl) (by first | exact (kC_td _) | exact (hC_td _) | exact (hC_seed _) | exact (ceC_td _) | exact (ceC_place _) | exact (ptC_td _ _ _ _) | exact (plV_td _ _ _) | exact (frC_td _) | exact (frC_cell _) | exact (fdV_td _ _ _)) (by first | exact (kC_length _) | exact (hC_length _) | exact (ceC_length _) | exact (ptC_length _ _ _ _) | exact (plV_length _ _ _) | exact (elFr.len _) | exact (frC_length _) | exact (fdV_length _ _ _)))) ⟨_, rfl, ?_⟩
 exact ⟨rfl, (H.sub (List.nil_sublist _))⟩

end Go.Proofs.Ytihpeihlpgompaa

