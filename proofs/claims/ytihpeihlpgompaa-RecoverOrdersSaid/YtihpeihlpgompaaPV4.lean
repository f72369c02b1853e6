import Derived.Test.YtihpeihlpgompaaPV1
import Derived.Test.YtihpeihlpgompaaPVx2
namespace Go.Proofs.Ytihpeihlpgompaa
open Go Go.Er

set_option maxHeartbeats 4000000 in
theorem minute_spec (n : Int) (w0 : World) :
  Calls Try.prog 53 #[.int .i64 n] w0 fun e w => ∃ v, e = .returned v ∧ (((inM n 1073741824) ∧ v = .bool true ∧ St w0 [] w []) ∨ (¬ (inM n 1073741824) ∧ v = .bool false ∧ St w0 [] w [])) := by
 have H := St.refl w0
 refine c_enter (args := [.int .i64 n]) (l := [.int .i64 n, undef, undef, undef, undef, undef, undef, undef, undef]) Try.func53 Try.ntmps53 rfl rfl ?_
 refine c_rseq (n := 9) ⟨rfl, rfl⟩ ?_
 refine s_val (r_assign rfl) ?_
 refine c_nil (l' := [_,_,_,_,_,_,_,_,_]) rfl ?_
 refine c_rseq (n := 9) ⟨rfl, rfl⟩ ?_
 refine s_val (r_move rfl) ?_
 refine s_test (r_geq rfl rfl) (fun h4 => ?_) (fun h4 => ?_)
 ·skip
  refine s_val (r_move rfl) ?_
  refine g_yes rfl rfl ?_
  refine s_val (r_move rfl) ?_
  refine g_yes rfl rfl ?_
  refine s_test (r_leq rfl rfl) (fun h7 => ?_) (fun h7 => ?_)
  ·skip
   refine s_val (r_pickt rfl rfl) ?_
   refine s_val (r_assign rfl) ?_
   refine c_nil (l' := [_,_,_,_,_,_,_,_,_]) rfl ?_
   refine wp_ret ?_
   refine e_ret (res1 rfl rfl) ⟨_, rfl, ?_⟩
   exact .inl ⟨⟨h4, h7⟩, rfl, (H.sub (List.nil_sublist _))⟩
  ·skip
   refine s_val (r_pickt rfl rfl) ?_
   refine s_val (r_assign rfl) ?_
   refine c_nil (l' := [_,_,_,_,_,_,_,_,_]) rfl ?_
   refine wp_ret ?_
   refine e_ret (res1 rfl rfl) ⟨_, rfl, ?_⟩
   exact .inr ⟨fun h => h7 h.2, rfl, (H.sub (List.nil_sublist _))⟩
 ·skip
  refine s_val (r_move rfl) ?_
  refine g_no rfl rfl (by decide) ?_
  refine g_no rfl rfl (by decide) ?_
  refine s_val (r_pickf rfl rfl) ?_
  refine s_val (r_assign rfl) ?_
  refine c_nil (l' := [_,_,_,_,_,_,_,_,_]) rfl ?_
  refine wp_ret ?_
  refine e_ret (res1 rfl rfl) ⟨_, rfl, ?_⟩
  exact .inr ⟨fun h => h4 h.1, rfl, (H.sub (List.nil_sublist _))⟩

set_option maxHeartbeats 4000000 in
theorem there12_spec (a b c : Int) (w0 : World) :
  Calls Try.prog 54 #[.agg (plV a b c).toArray] w0 fun e w => ∃ v, e = .returned v ∧ (((inM a 15 ∧ inM b 7 ∧ inM c 255) ∧ v = .bool true ∧ St w0 [] w []) ∨ (¬ (inM a 15 ∧ inM b 7 ∧ inM c 255) ∧ v = .bool false ∧ St w0 [] w [])) := by
 have H := St.refl w0
 refine c_enter (args := [.agg (plV a b c).toArray]) (l := [.agg (plV a b c).toArray, undef, undef, undef, undef, undef, undef, undef, undef, undef, undef, undef, undef, undef, undef, undef, undef, undef, undef, undef, undef, undef, undef, undef, undef, undef, undef, undef, undef, undef, undef]) Try.func54 Try.ntmps54 rfl rfl ?_
 refine c_rseq (n := 31) ⟨rfl, rfl⟩ ?_
 refine s_new (m_box (cs := (plV a b c)) H rfl rfl) ?_
 intro w b1 H
 refine s_val (r_assign rfl) ?_
 refine c_nil (l' := [_,_,_,_,_,_,_,_,_,_,_,_,_,_,_,_,_,_,_,_,_,_,_,_,_,_,_,_,_,_,_]) rfl ?_
 refine c_rseq (n := 31) ⟨rfl, rfl⟩ ?_
 refine s_val (r_fieldAddr (k := 0) Try.runUnderlying38 rfl Try.sizeOf3 (by decide) rfl rfl) ?_
 refine s_val (r_load1 Try.isAgg3 rfl (H.at 0 rfl) rfl) ?_
 refine s_test (r_geq rfl rfl) (fun h5 => ?_) (fun h5 => ?_)
 ·skip
  refine s_val (r_move rfl) ?_
  refine g_yes rfl rfl ?_
  refine s_val (r_fieldAddr (k := 0) Try.runUnderlying38 rfl Try.sizeOf3 (by decide) rfl rfl) ?_
  refine g_yes rfl rfl ?_
  refine s_val (r_load1 Try.isAgg3 rfl (H.at 0 rfl) rfl) ?_
  refine g_yes rfl rfl ?_
  refine s_test (r_leq rfl rfl) (fun h9 => ?_) (fun h9 => ?_)
  ·skip
   refine s_val (r_pickt rfl rfl) ?_
   refine s_val (r_move rfl) ?_
   refine g_yes rfl rfl ?_
   refine s_val (r_fieldAddr (k := 1) Try.runUnderlying38 rfl Try.sizeOf3 (by decide) rfl rfl) ?_
   refine g_yes rfl rfl ?_
   refine s_val (r_load1 Try.isAgg3 rfl (H.at 0 rfl) rfl) ?_
   refine g_yes rfl rfl ?_
   refine s_test (r_geq rfl rfl) (fun h14 => ?_) (fun h14 => ?_)
   ·skip
    refine s_val (r_pickt rfl rfl) ?_
    refine s_val (r_move rfl) ?_
    refine g_yes rfl rfl ?_
    refine s_val (r_fieldAddr (k := 1) Try.runUnderlying38 rfl Try.sizeOf3 (by decide) rfl rfl) ?_
    refine g_yes rfl rfl ?_
    refine s_val (r_load1 Try.isAgg3 rfl (H.at 0 rfl) rfl) ?_
    refine g_yes rfl rfl ?_
    refine s_test (r_leq rfl rfl) (fun h19 => ?_) (fun h19 => ?_)
    ·skip
     refine s_val (r_pickt rfl rfl) ?_
     refine s_val (r_move rfl) ?_
     refine g_yes rfl rfl ?_
     refine s_val (r_fieldAddr (k := 2) Try.runUnderlying38 rfl Try.sizeOf3 (by decide) rfl rfl) ?_
     refine g_yes rfl rfl ?_
     refine s_val (r_load1 Try.isAgg3 rfl (H.at 0 rfl) rfl) ?_
     refine g_yes rfl rfl ?_
     refine s_test (r_geq rfl rfl) (fun h24 => ?_) (fun h24 => ?_)
     ·skip
      refine s_val (r_pickt rfl rfl) ?_
      refine s_val (r_move rfl) ?_
      refine g_yes rfl rfl ?_
      refine s_val (r_fieldAddr (k := 2) Try.runUnderlying38 rfl Try.sizeOf3 (by decide) rfl rfl) ?_
      refine g_yes rfl rfl ?_
      refine s_val (r_load1 Try.isAgg3 rfl (H.at 0 rfl) rfl) ?_
      refine g_yes rfl rfl ?_
      refine s_test (r_leq rfl rfl) (fun h29 => ?_) (fun h29 => ?_)
      ·skip
       refine s_val (r_pickt rfl rfl) ?_
       refine s_val (r_assign rfl) ?_
       refine c_nil (l' := [_,_,_,_,_,_,_,_,_,_,_,_,_,_,_,_,_,_,_,_,_,_,_,_,_,_,_,_,_,_,_]) rfl ?_
       refine wp_ret ?_
       refine e_ret (res1 rfl rfl) ⟨_, rfl, ?_⟩
       exact .inl ⟨⟨⟨h5, h9⟩, ⟨h14, h19⟩, ⟨h24, h29⟩⟩, rfl, (H.sub (List.nil_sublist _))⟩
      ·skip
       refine s_val (r_pickt rfl rfl) ?_
       refine s_val (r_assign rfl) ?_
       refine c_nil (l' := [_,_,_,_,_,_,_,_,_,_,_,_,_,_,_,_,_,_,_,_,_,_,_,_,_,_,_,_,_,_,_]) rfl ?_
       refine wp_ret ?_
       refine e_ret (res1 rfl rfl) ⟨_, rfl, ?_⟩
       exact .inr ⟨fun h => h29 h.2.2.2, rfl, (H.sub (List.nil_sublist _))⟩
     ·skip
      refine s_val (r_pickt rfl rfl) ?_
      refine s_val (r_move rfl) ?_
      refine g_no rfl rfl (by decide) ?_
      refine g_no rfl rfl (by decide) ?_
      refine g_no rfl rfl (by decide) ?_
      refine s_val (r_pickf rfl rfl) ?_
      refine s_val (r_assign rfl) ?_
      refine c_nil (l' := [_,_,_,_,_,_,_,_,_,_,_,_,_,_,_,_,_,_,_,_,_,_,_,_,_,_,_,_,_,_,_]) rfl ?_
      refine wp_ret ?_
      refine e_ret (res1 rfl rfl) ⟨_, rfl, ?_⟩
      exact .inr ⟨fun h => h24 h.2.2.1, rfl, (H.sub (List.nil_sublist _))⟩
    ·skip
     refine s_val (r_pickt rfl rfl) ?_
     refine s_val (r_move rfl) ?_
     refine g_no rfl rfl (by decide) ?_
     refine g_no rfl rfl (by decide) ?_
     refine g_no rfl rfl (by decide) ?_
     refine s_val (r_pickf rfl rfl) ?_
     refine s_val (r_move rfl) ?_
     refine g_no rfl rfl (by decide) ?_
     refine g_no rfl rfl (by decide) ?_
     refine g_no rfl rfl (by decide) ?_
     refine s_val (r_pickf rfl rfl) ?_
     refine s_val (r_assign rfl) ?_
     refine c_nil (l' := [_,_,_,_,_,_,_,_,_,_,_,_,_,_,_,_,_,_,_,_,_,_,_,_,_,_,_,_,_,_,_]) rfl ?_
     refine wp_ret ?_
     refine e_ret (res1 rfl rfl) ⟨_, rfl, ?_⟩
     exact .inr ⟨fun h => h19 h.2.1.2, rfl, (H.sub (List.nil_sublist _))⟩
   ·skip
    refine s_val (r_pickt rfl rfl) ?_
    refine s_val (r_move rfl) ?_
    refine g_no rfl rfl (by decide) ?_
    refine g_no rfl rfl (by decide) ?_
    refine g_no rfl rfl (by decide) ?_
    refine s_val (r_pickf rfl rfl) ?_
    refine s_val (r_move rfl) ?_
    refine g_no rfl rfl (by decide) ?_
    refine g_no rfl rfl (by decide) ?_
    refine g_no rfl rfl (by decide) ?_
    refine s_val (r_pickf rfl rfl) ?_
    refine s_val (r_move rfl) ?_
    refine g_no rfl rfl (by decide) ?_
    refine g_no rfl rfl (by decide) ?_
    refine g_no rfl rfl (by decide) ?_
    refine s_val (r_pickf rfl rfl) ?_
    refine s_val (r_assign rfl) ?_
    refine c_nil (l' := [_,_,_,_,_,_,_,_,_,_,_,_,_,_,_,_,_,_,_,_,_,_,_,_,_,_,_,_,_,_,_]) rfl ?_
    refine wp_ret ?_
    refine e_ret (res1 rfl rfl) ⟨_, rfl, ?_⟩
    exact .inr ⟨fun h => h14 h.2.1.1, rfl, (H.sub (List.nil_sublist _))⟩
  ·skip
   refine s_val (r_pickt rfl rfl) ?_
   refine s_val (r_move rfl) ?_
   refine g_no rfl rfl (by decide) ?_
   refine g_no rfl rfl (by decide) ?_
   refine g_no rfl rfl (by decide) ?_
   refine s_val (r_pickf rfl rfl) ?_
   refine s_val (r_move rfl) ?_
   refine g_no rfl rfl (by decide) ?_
   refine g_no rfl rfl (by decide) ?_
   refine g_no rfl rfl (by decide) ?_
   refine s_val (r_pickf rfl rfl) ?_
   refine s_val (r_move rfl) ?_
   refine g_no rfl rfl (by decide) ?_
   refine g_no rfl rfl (by decide) ?_
   refine g_no rfl rfl (by decide) ?_
   refine s_val (r_pickf rfl rfl) ?_
   refine s_val (r_move rfl) ?_
   refine g_no rfl rfl (by decide) ?_
   refine g_no rfl rfl (by decide) ?_
   refine g_no rfl rfl (by decide) ?_
   refine s_val (r_pickf rfl rfl) ?_
   refine s_val (r_assign rfl) ?_
   refine c_nil (l' := [_,_,_,_,_,_,_,_,_,_,_,_,_,_,_,_,_,_,_,_,_,_,_,_,_,_,_,_,_,_,_]) rfl ?_
   refine wp_ret ?_
   refine e_ret (res1 rfl rfl) ⟨_, rfl, ?_⟩
   exact .inr ⟨fun h => h9 h.1.2, rfl, (H.sub (List.nil_sublist _))⟩
 ·skip
  refine s_val (r_move rfl) ?_
  refine g_no rfl rfl (by decide) ?_
  refine g_no rfl rfl (by decide) ?_
  refine g_no rfl rfl (by decide) ?_
  refine s_val (r_pickf rfl rfl) ?_
  refine s_val (r_move rfl) ?_
  refine g_no rfl rfl (by decide) ?_
  refine g_no rfl rfl (by decide) ?_
  refine g_no rfl rfl (by decide) ?_
  refine s_val (r_pickf rfl rfl) ?_
  refine s_val (r_move rfl) ?_
  refine g_no rfl rfl (by decide) ?_
  refine g_no rfl rfl (by decide) ?_
  refine g_no rfl rfl (by decide) ?_
  refine s_val (r_pickf rfl rfl) ?_
  refine s_val (r_move rfl) ?_
  refine g_no rfl rfl (by decide) ?_
  refine g_no rfl rfl (by decide) ?_
  refine g_no rfl rfl (by decide) ?_
  refine s_val (r_pickf rfl rfl) ?_
  refine s_val (r_move rfl) ?_
  refine g_no rfl rfl (by decide) ?_
  refine g_no rfl rfl (by decide) ?_
  refine g_no rfl rfl (by decide) ?_
  refine s_val (r_pickf rfl rfl) ?_
  refine s_val (r_assign rfl) ?_
  refine c_nil (l' := [_,_,_,_,_,_,_,_,_,_,_,_,_,_,_,_,_,_,_,_,_,_,_,_,_,_,_,_,_,_,_]) rfl ?_
  refine wp_ret ?_
  refine e_ret (res1 rfl rfl) ⟨_, rfl, ?_⟩
  exact .inr ⟨fun h => h5 h.1.1, rfl, (H.sub (List.nil_sublist _))⟩

set_option maxHeartbeats 4000000 in
theorem has12_spec (k : Int) (w0 : World) :
  Calls Try.prog 41 #[.int .i64 k] w0 fun e w => ∃ v, e = .returned v ∧ (v = .tuple #[.bool (kPl k), .bool (kRf k), .bool (kMi k), .bool (kBo k)] ∧ St w0 [] w []) := by
 have H := St.refl w0
 refine c_enter (args := [.int .i64 k]) (l := [.int .i64 k, undef, undef, undef, undef, undef, undef, undef, undef, undef, undef, undef, undef, undef, undef, undef, undef, undef, undef, undef, undef, undef, undef, undef, undef, undef, undef, undef, undef, undef, undef, undef, undef, undef, undef, undef, undef, undef, undef, undef, undef, undef, undef, undef, undef, undef, undef]) Try.func41 Try.ntmps41 rfl rfl ?_
 refine c_rseq (n := 47) ⟨rfl, rfl⟩ ?_
 refine s_val (r_assign rfl) ?_
 refine s_val (r_assign rfl) ?_
 refine s_val (r_assign rfl) ?_
 refine s_val (r_assign rfl) ?_
 refine c_nil (l' := [_,_,_,_,_,_,_,_,_,_,_,_,_,_,_,_,_,_,_,_,_,_,_,_,_,_,_,_,_,_,_,_,_,_,_,_,_,_,_,_,_,_,_,_,_,_,_]) rfl ?_
 refine c_rseq (n := 47) ⟨rfl, rfl⟩ ?_
 refine s_val (r_move rfl) ?_
 refine s_test (r_eql rfl rfl) (fun h8 => ?_) (fun h8 => ?_)
 ·skip
  refine s_val (r_move rfl) ?_
  refine g_no rfl rfl (by decide) ?_
  refine g_no rfl rfl (by decide) ?_
  refine s_val (r_pickt rfl rfl) ?_
  refine s_val (r_move rfl) ?_
  refine g_no rfl rfl (by decide) ?_
  refine g_no rfl rfl (by decide) ?_
  refine s_val (r_pickt rfl rfl) ?_
  refine s_val (r_assign rfl) ?_
  refine c_nil (l' := [_,_,_,_,_,_,_,_,_,_,_,_,_,_,_,_,_,_,_,_,_,_,_,_,_,_,_,_,_,_,_,_,_,_,_,_,_,_,_,_,_,_,_,_,_,_,_]) rfl ?_
  refine c_rseq (n := 47) ⟨rfl, rfl⟩ ?_
  refine s_val (r_move rfl) ?_
  refine s_val (r_move rfl) ?_
  refine g_no rfl rfl (by decide) ?_
  refine g_no rfl rfl (by decide) ?_
  refine s_val (r_pickt rfl rfl) ?_
  refine s_val (r_move rfl) ?_
  refine g_no rfl rfl (by decide) ?_
  refine g_no rfl rfl (by decide) ?_
  refine s_val (r_pickt rfl rfl) ?_
  refine s_val (r_move rfl) ?_
  refine s_val (r_move rfl) ?_
  refine g_no rfl rfl (by decide) ?_
  refine g_no rfl rfl (by decide) ?_
  refine s_val (r_pickt rfl rfl) ?_
  refine s_val (r_move rfl) ?_
  refine g_no rfl rfl (by decide) ?_
  refine g_no rfl rfl (by decide) ?_
  refine s_val (r_pickt rfl rfl) ?_
  refine s_val (r_move rfl) ?_
  refine g_no rfl rfl (by decide) ?_
  refine g_no rfl rfl (by decide) ?_
  refine s_val (r_pickt rfl rfl) ?_
  refine s_val (r_move rfl) ?_
  refine s_val (r_eql rfl rfl) ?_
  refine s_val (r_move rfl) ?_
  refine s_test (r_eql rfl rfl) (fun h42 => ?_) (fun h42 => ?_)
  ·skip
   refine s_val (r_move rfl) ?_
   refine g_no rfl rfl (by decide) ?_
   refine g_no rfl rfl (by decide) ?_
   refine s_val (r_pickt rfl rfl) ?_
   refine s_val (r_assign rfl) ?_
   refine s_val (r_assign rfl) ?_
   refine s_val (r_assign rfl) ?_
   refine s_val (r_assign rfl) ?_
   refine c_nil (l' := [_,_,_,_,_,_,_,_,_,_,_,_,_,_,_,_,_,_,_,_,_,_,_,_,_,_,_,_,_,_,_,_,_,_,_,_,_,_,_,_,_,_,_,_,_,_,_]) rfl ?_
   refine wp_ret ?_
   refine e_ret (res4 rfl rfl rfl rfl rfl) ⟨_, rfl, ?_⟩
   obtain rfl : k = 1 := by omega
   exact ⟨rfl, (H.sub (List.nil_sublist _))⟩
  ·skip
   exfalso; omega
 ·skip
  refine s_val (r_move rfl) ?_
  refine g_yes rfl rfl ?_
  refine s_val (r_move rfl) ?_
  refine g_yes rfl rfl ?_
  refine s_test (r_eql rfl rfl) (fun h11 => ?_) (fun h11 => ?_)
  ·skip
   refine s_val (r_pickf rfl rfl) ?_
   refine s_val (r_move rfl) ?_
   refine g_no rfl rfl (by decide) ?_
   refine g_no rfl rfl (by decide) ?_
   refine s_val (r_pickt rfl rfl) ?_
   refine s_val (r_assign rfl) ?_
   refine c_nil (l' := [_,_,_,_,_,_,_,_,_,_,_,_,_,_,_,_,_,_,_,_,_,_,_,_,_,_,_,_,_,_,_,_,_,_,_,_,_,_,_,_,_,_,_,_,_,_,_]) rfl ?_
   refine c_rseq (n := 47) ⟨rfl, rfl⟩ ?_
   refine s_val (r_move rfl) ?_
   refine s_val (r_move rfl) ?_
   refine g_no rfl rfl (by decide) ?_
   refine g_no rfl rfl (by decide) ?_
   refine s_val (r_pickt rfl rfl) ?_
   refine s_val (r_move rfl) ?_
   refine g_no rfl rfl (by decide) ?_
   refine g_no rfl rfl (by decide) ?_
   refine s_val (r_pickt rfl rfl) ?_
   refine s_val (r_move rfl) ?_
   refine s_val (r_move rfl) ?_
   refine g_no rfl rfl (by decide) ?_
   refine g_no rfl rfl (by decide) ?_
   refine s_val (r_pickt rfl rfl) ?_
   refine s_val (r_move rfl) ?_
   refine g_no rfl rfl (by decide) ?_
   refine g_no rfl rfl (by decide) ?_
   refine s_val (r_pickt rfl rfl) ?_
   refine s_val (r_move rfl) ?_
   refine g_no rfl rfl (by decide) ?_
   refine g_no rfl rfl (by decide) ?_
   refine s_val (r_pickt rfl rfl) ?_
   refine s_val (r_move rfl) ?_
   refine s_val (r_eql rfl rfl) ?_
   refine s_val (r_move rfl) ?_
   refine s_test (r_eql rfl rfl) (fun h42 => ?_) (fun h42 => ?_)
   ·skip
    exfalso; omega
   ·skip
    refine s_val (r_move rfl) ?_
    refine g_yes rfl rfl ?_
    refine s_val (r_move rfl) ?_
    refine g_yes rfl rfl ?_
    refine s_test (r_eql rfl rfl) (fun h45 => ?_) (fun h45 => ?_)
    ·skip
     exfalso; omega
    ·skip
     refine s_val (r_pickf rfl rfl) ?_
     refine s_val (r_assign rfl) ?_
     refine s_val (r_assign rfl) ?_
     refine s_val (r_assign rfl) ?_
     refine s_val (r_assign rfl) ?_
     refine c_nil (l' := [_,_,_,_,_,_,_,_,_,_,_,_,_,_,_,_,_,_,_,_,_,_,_,_,_,_,_,_,_,_,_,_,_,_,_,_,_,_,_,_,_,_,_,_,_,_,_]) rfl ?_
     refine wp_ret ?_
     refine e_ret (res4 rfl rfl rfl rfl rfl) ⟨_, rfl, ?_⟩
     obtain rfl : k = 2 := by omega
     exact ⟨rfl, (H.sub (List.nil_sublist _))⟩
  ·skip
   refine s_val (r_pickf rfl rfl) ?_
   refine s_val (r_move rfl) ?_
   refine g_yes rfl rfl ?_
   refine s_val (r_move rfl) ?_
   refine g_yes rfl rfl ?_
   refine s_test (r_eql rfl rfl) (fun h15 => ?_) (fun h15 => ?_)
   ·skip
    refine s_val (r_pickf rfl rfl) ?_
    refine s_val (r_assign rfl) ?_
    refine c_nil (l' := [_,_,_,_,_,_,_,_,_,_,_,_,_,_,_,_,_,_,_,_,_,_,_,_,_,_,_,_,_,_,_,_,_,_,_,_,_,_,_,_,_,_,_,_,_,_,_]) rfl ?_
    refine c_rseq (n := 47) ⟨rfl, rfl⟩ ?_
    refine s_val (r_move rfl) ?_
    refine s_val (r_move rfl) ?_
    refine g_no rfl rfl (by decide) ?_
    refine g_no rfl rfl (by decide) ?_
    refine s_val (r_pickt rfl rfl) ?_
    refine s_val (r_move rfl) ?_
    refine g_no rfl rfl (by decide) ?_
    refine g_no rfl rfl (by decide) ?_
    refine s_val (r_pickt rfl rfl) ?_
    refine s_val (r_move rfl) ?_
    refine s_val (r_move rfl) ?_
    refine g_no rfl rfl (by decide) ?_
    refine g_no rfl rfl (by decide) ?_
    refine s_val (r_pickt rfl rfl) ?_
    refine s_val (r_move rfl) ?_
    refine g_no rfl rfl (by decide) ?_
    refine g_no rfl rfl (by decide) ?_
    refine s_val (r_pickt rfl rfl) ?_
    refine s_val (r_move rfl) ?_
    refine g_no rfl rfl (by decide) ?_
    refine g_no rfl rfl (by decide) ?_
    refine s_val (r_pickt rfl rfl) ?_
    refine s_val (r_move rfl) ?_
    refine s_val (r_eql rfl rfl) ?_
    refine s_val (r_move rfl) ?_
    refine s_test (r_eql rfl rfl) (fun h42 => ?_) (fun h42 => ?_)
    ·skip
     exfalso; omega
    ·skip
     refine s_val (r_move rfl) ?_
     refine g_yes rfl rfl ?_
     refine s_val (r_move rfl) ?_
     refine g_yes rfl rfl ?_
     refine s_test (r_eql rfl rfl) (fun h45 => ?_) (fun h45 => ?_)
     ·skip
      refine s_val (r_pickf rfl rfl) ?_
      refine s_val (r_assign rfl) ?_
      refine s_val (r_assign rfl) ?_
      refine s_val (r_assign rfl) ?_
      refine s_val (r_assign rfl) ?_
      refine c_nil (l' := [_,_,_,_,_,_,_,_,_,_,_,_,_,_,_,_,_,_,_,_,_,_,_,_,_,_,_,_,_,_,_,_,_,_,_,_,_,_,_,_,_,_,_,_,_,_,_]) rfl ?_
      refine wp_ret ?_
      refine e_ret (res4 rfl rfl rfl rfl rfl) ⟨_, rfl, ?_⟩
      obtain rfl : k = 3 := by omega
      exact ⟨rfl, (H.sub (List.nil_sublist _))⟩
     ·skip
      exfalso; omega
   ·skip
    refine s_val (r_pickf rfl rfl) ?_
    refine s_val (r_assign rfl) ?_
    refine c_nil (l' := [_,_,_,_,_,_,_,_,_,_,_,_,_,_,_,_,_,_,_,_,_,_,_,_,_,_,_,_,_,_,_,_,_,_,_,_,_,_,_,_,_,_,_,_,_,_,_]) rfl ?_
    refine c_rseq (n := 47) ⟨rfl, rfl⟩ ?_
    refine s_val (r_move rfl) ?_
    refine s_val (r_move rfl) ?_
    refine g_yes rfl rfl ?_
    refine s_val (r_move rfl) ?_
    refine g_yes rfl rfl ?_
    refine s_test (r_eql rfl rfl) (fun h20 => ?_) (fun h20 => ?_)
    ·skip
     refine s_val (r_pickf rfl rfl) ?_
     refine s_val (r_move rfl) ?_
     refine g_no rfl rfl (by decide) ?_
     refine g_no rfl rfl (by decide) ?_
     refine s_val (r_pickt rfl rfl) ?_
     refine s_val (r_move rfl) ?_
     refine s_val (r_move rfl) ?_
     refine g_yes rfl rfl ?_
     refine s_val (r_move rfl) ?_
     refine g_yes rfl rfl ?_
     refine s_test (r_eql rfl rfl) (fun h29 => ?_) (fun h29 => ?_)
     ·skip
      refine s_val (r_pickf rfl rfl) ?_
      refine s_val (r_move rfl) ?_
      refine g_no rfl rfl (by decide) ?_
      refine g_no rfl rfl (by decide) ?_
      refine s_val (r_pickt rfl rfl) ?_
      refine s_val (r_move rfl) ?_
      refine g_no rfl rfl (by decide) ?_
      refine g_no rfl rfl (by decide) ?_
      refine s_val (r_pickt rfl rfl) ?_
      refine s_val (r_move rfl) ?_
      refine s_val (r_eql rfl rfl) ?_
      refine s_val (r_move rfl) ?_
      refine s_test (r_eql rfl rfl) (fun h42 => ?_) (fun h42 => ?_)
      ·skip
       exfalso; omega
      ·skip
       refine s_val (r_move rfl) ?_
       refine g_yes rfl rfl ?_
       refine s_val (r_move rfl) ?_
       refine g_yes rfl rfl ?_
       refine s_test (r_eql rfl rfl) (fun h45 => ?_) (fun h45 => ?_)
       ·skip
        exfalso; omega
       ·skip
        refine s_val (r_pickf rfl rfl) ?_
        refine s_val (r_assign rfl) ?_
        refine s_val (r_assign rfl) ?_
        refine s_val (r_assign rfl) ?_
        refine s_val (r_assign rfl) ?_
        refine c_nil (l' := [_,_,_,_,_,_,_,_,_,_,_,_,_,_,_,_,_,_,_,_,_,_,_,_,_,_,_,_,_,_,_,_,_,_,_,_,_,_,_,_,_,_,_,_,_,_,_]) rfl ?_
        refine wp_ret ?_
        refine e_ret (res4 rfl rfl rfl rfl rfl) ⟨_, rfl, ?_⟩
        obtain rfl : k = 4 := by omega
        exact ⟨rfl, (H.sub (List.nil_sublist _))⟩
     ·skip
      exfalso; omega
    ·skip
     refine s_val (r_pickf rfl rfl) ?_
     refine s_val (r_move rfl) ?_
     refine g_yes rfl rfl ?_
     refine s_val (r_move rfl) ?_
     refine g_yes rfl rfl ?_
     refine s_test (r_eql rfl rfl) (fun h24 => ?_) (fun h24 => ?_)
     ·skip
      refine s_val (r_pickf rfl rfl) ?_
      refine s_val (r_move rfl) ?_
      refine s_val (r_move rfl) ?_
      refine g_yes rfl rfl ?_
      refine s_val (r_move rfl) ?_
      refine g_yes rfl rfl ?_
      refine s_test (r_eql rfl rfl) (fun h29 => ?_) (fun h29 => ?_)
      ·skip
       exfalso; omega
      ·skip
       refine s_val (r_pickf rfl rfl) ?_
       refine s_val (r_move rfl) ?_
       refine g_yes rfl rfl ?_
       refine s_val (r_move rfl) ?_
       refine g_yes rfl rfl ?_
       refine s_test (r_eql rfl rfl) (fun h33 => ?_) (fun h33 => ?_)
       ·skip
        exfalso; omega
       ·skip
        refine s_val (r_pickf rfl rfl) ?_
        refine s_val (r_move rfl) ?_
        refine g_yes rfl rfl ?_
        refine s_val (r_move rfl) ?_
        refine g_yes rfl rfl ?_
        refine s_test (r_eql rfl rfl) (fun h37 => ?_) (fun h37 => ?_)
        ·skip
         exfalso; omega
        ·skip
         refine s_val (r_pickf rfl rfl) ?_
         refine s_val (r_move rfl) ?_
         refine s_val (r_eql rfl rfl) ?_
         refine s_val (r_move rfl) ?_
         refine s_test (r_eql rfl rfl) (fun h42 => ?_) (fun h42 => ?_)
         ·skip
          exfalso; omega
         ·skip
          refine s_val (r_move rfl) ?_
          refine g_yes rfl rfl ?_
          refine s_val (r_move rfl) ?_
          refine g_yes rfl rfl ?_
          refine s_test (r_eql rfl rfl) (fun h45 => ?_) (fun h45 => ?_)
          ·skip
           exfalso; omega
          ·skip
           refine s_val (r_pickf rfl rfl) ?_
           refine s_val (r_assign rfl) ?_
           refine s_val (r_assign rfl) ?_
           refine s_val (r_assign rfl) ?_
           refine s_val (r_assign rfl) ?_
           refine c_nil (l' := [_,_,_,_,_,_,_,_,_,_,_,_,_,_,_,_,_,_,_,_,_,_,_,_,_,_,_,_,_,_,_,_,_,_,_,_,_,_,_,_,_,_,_,_,_,_,_]) rfl ?_
           refine wp_ret ?_
           refine e_ret (res4 rfl rfl rfl rfl rfl) ⟨_, rfl, ?_⟩
           obtain rfl : k = 5 := by omega
           exact ⟨rfl, (H.sub (List.nil_sublist _))⟩
     ·skip
      refine s_val (r_pickf rfl rfl) ?_
      refine s_val (r_move rfl) ?_
      refine s_val (r_move rfl) ?_
      refine g_yes rfl rfl ?_
      refine s_val (r_move rfl) ?_
      refine g_yes rfl rfl ?_
      refine s_test (r_eql rfl rfl) (fun h29 => ?_) (fun h29 => ?_)
      ·skip
       exfalso; omega
      ·skip
       refine s_val (r_pickf rfl rfl) ?_
       refine s_val (r_move rfl) ?_
       refine g_yes rfl rfl ?_
       refine s_val (r_move rfl) ?_
       refine g_yes rfl rfl ?_
       refine s_test (r_eql rfl rfl) (fun h33 => ?_) (fun h33 => ?_)
       ·skip
        refine s_val (r_pickf rfl rfl) ?_
        refine s_val (r_move rfl) ?_
        refine g_no rfl rfl (by decide) ?_
        refine g_no rfl rfl (by decide) ?_
        refine s_val (r_pickt rfl rfl) ?_
        refine s_val (r_move rfl) ?_
        refine s_val (r_eql rfl rfl) ?_
        refine s_val (r_move rfl) ?_
        refine s_test (r_eql rfl rfl) (fun h42 => ?_) (fun h42 => ?_)
        ·skip
         exfalso; omega
        ·skip
         refine s_val (r_move rfl) ?_
         refine g_yes rfl rfl ?_
         refine s_val (r_move rfl) ?_
         refine g_yes rfl rfl ?_
         refine s_test (r_eql rfl rfl) (fun h45 => ?_) (fun h45 => ?_)
         ·skip
          exfalso; omega
         ·skip
          refine s_val (r_pickf rfl rfl) ?_
          refine s_val (r_assign rfl) ?_
          refine s_val (r_assign rfl) ?_
          refine s_val (r_assign rfl) ?_
          refine s_val (r_assign rfl) ?_
          refine c_nil (l' := [_,_,_,_,_,_,_,_,_,_,_,_,_,_,_,_,_,_,_,_,_,_,_,_,_,_,_,_,_,_,_,_,_,_,_,_,_,_,_,_,_,_,_,_,_,_,_]) rfl ?_
          refine wp_ret ?_
          refine e_ret (res4 rfl rfl rfl rfl rfl) ⟨_, rfl, ?_⟩
          obtain rfl : k = 6 := by omega
          exact ⟨rfl, (H.sub (List.nil_sublist _))⟩
       ·skip
        refine s_val (r_pickf rfl rfl) ?_
        refine s_val (r_move rfl) ?_
        refine g_yes rfl rfl ?_
        refine s_val (r_move rfl) ?_
        refine g_yes rfl rfl ?_
        refine s_test (r_eql rfl rfl) (fun h37 => ?_) (fun h37 => ?_)
        ·skip
         refine s_val (r_pickf rfl rfl) ?_
         refine s_val (r_move rfl) ?_
         refine s_val (r_eql rfl rfl) ?_
         refine s_val (r_move rfl) ?_
         refine s_test (r_eql rfl rfl) (fun h42 => ?_) (fun h42 => ?_)
         ·skip
          exfalso; omega
         ·skip
          refine s_val (r_move rfl) ?_
          refine g_yes rfl rfl ?_
          refine s_val (r_move rfl) ?_
          refine g_yes rfl rfl ?_
          refine s_test (r_eql rfl rfl) (fun h45 => ?_) (fun h45 => ?_)
          ·skip
           exfalso; omega
          ·skip
           refine s_val (r_pickf rfl rfl) ?_
           refine s_val (r_assign rfl) ?_
           refine s_val (r_assign rfl) ?_
           refine s_val (r_assign rfl) ?_
           refine s_val (r_assign rfl) ?_
           refine c_nil (l' := [_,_,_,_,_,_,_,_,_,_,_,_,_,_,_,_,_,_,_,_,_,_,_,_,_,_,_,_,_,_,_,_,_,_,_,_,_,_,_,_,_,_,_,_,_,_,_]) rfl ?_
           refine wp_ret ?_
           refine e_ret (res4 rfl rfl rfl rfl rfl) ⟨_, rfl, ?_⟩
           obtain rfl : k = 7 := by omega
           exact ⟨rfl, (H.sub (List.nil_sublist _))⟩
        ·skip
         refine s_val (r_pickf rfl rfl) ?_
         refine s_val (r_move rfl) ?_
         refine s_val (r_eql rfl rfl) ?_
         refine s_val (r_move rfl) ?_
         refine s_test (r_eql rfl rfl) (fun h42 => ?_) (fun h42 => ?_)
         ·skip
          exfalso; omega
         ·skip
          refine s_val (r_move rfl) ?_
          refine g_yes rfl rfl ?_
          refine s_val (r_move rfl) ?_
          refine g_yes rfl rfl ?_
          refine s_test (r_eql rfl rfl) (fun h45 => ?_) (fun h45 => ?_)
          ·skip
           exfalso; omega
          ·skip
           refine s_val (r_pickf rfl rfl) ?_
           refine s_val (r_assign rfl) ?_
           refine s_val (r_assign rfl) ?_
           refine s_val (r_assign rfl) ?_
           refine s_val (r_assign rfl) ?_
           refine c_nil (l' := [_,_,_,_,_,_,_,_,_,_,_,_,_,_,_,_,_,_,_,_,_,_,_,_,_,_,_,_,_,_,_,_,_,_,_,_,_,_,_,_,_,_,_,_,_,_,_]) rfl ?_
           refine wp_ret ?_
           refine e_ret (res4 rfl rfl rfl rfl rfl) ⟨_, rfl, ?_⟩
           exact ⟨by unfold kPl kRf kMi kBo; rw [decide_eq_false (p := 1 ≤ k ∧ k ≤ 5) (by omega), decide_eq_false (p := (1 ≤ k ∧ k ≤ 4) ∨ k = 6 ∨ k = 7) (by omega), decide_eq_false (p := k = 1 ∨ k = 3) (by omega)], (H.sub (List.nil_sublist _))⟩

set_option maxHeartbeats 4000000 in
theorem get12_spec (a : Option Addr) (cap : Nat) (bs : List UInt8) (h8 : bs.length ≤ 4) (w0 : World) (hr : BRow w0 a bs) :
  Calls Try.prog 42 #[.slice a bs.length cap] w0 fun e w => ∃ v, e = .returned v ∧ (v = .int .u64 (getN bs) ∧ St w0 [] w []) := by
 have H := St.refl w0
 refine c_enter (args := [.slice a bs.length cap]) (l := [.slice a bs.length cap, undef, undef, undef, undef, undef, undef, undef, undef, undef, undef, undef, undef, undef, undef, undef, undef, undef, undef, undef]) Try.func42 Try.ntmps42 rfl rfl ?_
 refine c_rseq (n := 20) ⟨rfl, rfl⟩ ?_
 refine s_val (r_assign rfl) ?_
 refine c_nil (l' := [_,_,_,_,_,_,_,_,_,_,_,_,_,_,_,_,_,_,_,_]) rfl ?_
 refine c_rseq (n := 20) ⟨rfl, rfl⟩ ?_
 refine s_val (r_assign rfl) ?_
 refine c_nil (l' := [_,_,_,_,_,_,_,_,_,_,_,_,_,_,_,_,_,_,_,_]) rfl ?_
 refine c_seq ?_
 refine c_rseq (n := 20) ⟨rfl, rfl⟩ ?_
 refine s_val (r_assign rfl) ?_
 refine c_nil (l' := [_,_,_,_,_,_,_,_,_,_,_,_,_,_,_,_,_,_,_,_]) rfl ?_
 refine wp_block ?_
 refine c_loop (fun (l0 : List Value) (i : Nat) (l : List Value) (w : World) => ∃ (u5 u6 u7 u8 u9 u10 u11 u12 u13 u14 u15 u16 u17 u18 : Value) , l = ovr l0 [N_, N_, N_, Y_ (.int .u64 (getN (bs.take i))), Y_ (.int .i64 i), Y_ u5, Y_ u6, Y_ u7, Y_ u8, Y_ u9, Y_ u10, Y_ u11, Y_ u12, Y_ u13, Y_ u14, Y_ u15, Y_ u16, Y_ u17, Y_ u18] ∧ i ≤ bs.length ∧ St w0 [] w []) (fun (i : Nat) => bs.length - i) 0 ⟨_,_,_,_,_,_,_,_,_,_,_,_,_,_, rfl, by omega, H⟩ ?_
 intro i l w ⟨u5, u6, u7, u8, u9, u10, u11, u12, u13, u14, u15, u16, u17, u18, hl, hi, H⟩
 obtain rfl := hl.trans (rfl : _ = [_,_,_,_,_,_,_,_,_,_,_,_,_,_,_,_,_,_,_,_])
 clear hl
 refine c_seq ?_
 refine c_rseq (n := 20) ⟨rfl, rfl⟩ ?_
 refine s_val (r_move rfl) ?_
 refine s_val (r_move rfl) ?_
 refine s_val (r_lens Try.runUnderlying25 (ec rfl en)) ?_
 refine s_val (r_lss rfl rfl) ?_
 refine c_nil (l' := [_,_,_,_,_,_,_,_,_,_,_,_,_,_,_,_,_,_,_,_]) rfl ?_
 refine c_if rfl (fun h8 => ?_) (fun h8 => ?_)
 ·skip
  refine wp_skip ?_
  refine x_thenNormal ?_
  refine c_seq ?_
  refine wp_block ?_
  refine c_region (n := 20) ⟨rfl, rfl⟩ ?_
  refine s_val (r_move rfl) ?_
  have hgn := getN_lt bs (i := i) (by omega)
  refine s_val (r_mul rfl rfl (w_u64 (by omega) (by omega))) ?_
  refine s_val (r_move rfl) ?_
  refine s_val (r_move rfl) ?_
  obtain ⟨bb, off, pre, post, T, fz, rfl, hb, hp⟩ := hr (by omega)
  refine s_val (r_indexAddrS Try.runUnderlying25 Try.sizeOf5 rfl rfl (by omega) (by omega)) ?_
  refine s_val (r_load1 Try.isAgg5 rfl (H.rd0 hb) (bs_getE _ bs _ i hp (by omega) (by omega))) ?_
  refine s_val (r_conv Try.runUnderlying5 Try.runUnderlying24 rfl (w_u64 (by omega) (by have := (bs.getD i 0).toNat_lt; omega))) ?_
  refine s_val (r_add rfl rfl (w_u64e (getN_take (by omega)).symm (by omega) (by have := (bs.getD i 0).toNat_lt; omega))) ?_
  refine s_val (r_assign rfl) ?_
  refine c_nil0 (l' := [_,_,_,_,_,_,_,_,_,_,_,_,_,_,_,_,_,_,_,_]) rfl ?_
  refine x_blockNormal ?_
  refine x_thenNormal ?_
  refine c_region (n := 20) ⟨rfl, rfl⟩ ?_
  refine s_val (r_move rfl) ?_
  refine s_val (r_add rfl rfl (w_i64 (by omega) (by omega))) ?_
  refine s_val (r_assign rfl) ?_
  refine c_nil0 (l' := [_,_,_,_,_,_,_,_,_,_,_,_,_,_,_,_,_,_,_,_]) rfl ?_
  exact ⟨i + 1, _, rfl, ⟨_,_,_,_,_,_,_,_,_,_,_,_,_,_, rfl, by omega, H⟩, by omega⟩
 ·skip
  obtain rfl : i = bs.length := by omega
  refine wp_exit (x_thenExit (x_thenExit (x_blockHit ?_)))
  refine x_thenNormal ?_
  refine c_rseq (n := 20) ⟨rfl, rfl⟩ ?_
  refine s_val (r_move rfl) ?_
  refine s_val (r_assign rfl) ?_
  refine c_nil (l' := [_,_,_,_,_,_,_,_,_,_,_,_,_,_,_,_,_,_,_,_]) rfl ?_
  refine wp_ret ?_
  refine e_ret (res1 rfl rfl) ⟨_, rfl, ?_⟩
  exact ⟨by rw [List.take_length], H⟩

theorem get12_l (a : Option Addr) (c n : Nat) (bs : List UInt8) (hn : n = bs.length) (h4 : bs.length ≤ 4) (w0 : World) (hr : BRow w0 a bs) :
  Calls Try.prog 42 #[.slice a n c] w0 fun e w => ∃ v, e = .returned v ∧ v = .int .u64 (getN bs) ∧ St w0 [] w [] := by
 subst hn
 exact get12_spec a c bs h4 w0 hr

end Go.Proofs.Ytihpeihlpgompaa

