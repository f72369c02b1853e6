import Derived.Test.YtihpeihlpgompaaPV5
import Derived.Test.YtihpeihlpgompaaPX4
namespace Go.Proofs.Ytihpeihlpgompaa
open Go Go.Er

set_option maxHeartbeats 4000000 in
set_option maxRecDepth 20000 in
theorem decode12_spec (a : Option Addr) (bs : List UInt8) (c : Nat) (hc : bs.length ≤ c) (hl : bs.length ≤ 1000000) (w0 : World) (hr : BRow w0 a bs) :
  Calls Try.prog 23 #[.slice a bs.length c] w0 fun e w => ∃ v, e = .returned v ∧ ((∃ (y : Ce) (n : Nat), decF bs = some (ceP y, bs.drop n) ∧ v = .tuple #[.agg (ceC y).toArray, .int .i64 (n : Int), .int .i64 0] ∧ n ≤ bs.length ∧ (∀ W, BRow W a bs → BRow W y.body.a y.body.b) ∧ St w0 [] w []) ∨ (decF bs = none ∧ ∃ e, v = .tuple #[.agg (ceC ce0).toArray, .int .i64 0, .int .i64 e] ∧ e ≠ 0 ∧ St w0 [] w [])) := by
 have H := St.refl w0
 refine c_enter (args := [.slice a bs.length c]) (l := [.slice a bs.length c, undef, undef, undef, undef, undef, undef, undef, undef, undef, undef, undef, undef, undef, undef, undef, undef, undef, undef, undef, undef, undef, undef, undef, undef, undef, undef, undef, undef, undef, undef, undef, undef, undef, undef, undef, undef, undef, undef, undef, undef, undef, undef, undef, undef, undef, undef, undef, undef, undef, undef, undef, undef, undef, undef, undef, undef, undef, undef, undef, undef, undef, undef, undef, undef, undef, undef, undef, undef, undef, undef, undef, undef, undef, undef, undef, undef, undef, undef, undef, undef, undef, undef, undef, undef, undef, undef, undef, undef, undef, undef, undef, undef, undef, undef, undef, undef, undef, undef, undef, undef, undef, undef, undef, undef, undef, undef, undef, undef, undef, undef, undef, undef, undef, undef, undef, undef, undef, undef, undef, undef, undef, undef, undef, undef, undef, undef, undef, undef, undef, undef, undef, undef, undef, undef, undef, undef, undef, undef, undef, undef, undef, undef, undef, undef, undef, undef, undef, undef, undef]) Try.func23 Try.ntmps23 rfl rfl ?_
 refine c_rseq (n := 150) ⟨rfl, rfl⟩ ?_
 refine s_new (m_alloc (cs := (ceC ce0)) H Try.zeroValue40 rfl) ?_
 intro w b2 H
 refine s_val (r_assign rfl) ?_
 refine s_val (r_assign rfl) ?_
 refine c_nil (l' := [_,_,_,_,_,_,_,_,_,_,_,_,_,_,_,_,_,_,_,_,_,_,_,_,_,_,_,_,_,_,_,_,_,_,_,_,_,_,_,_,_,_,_,_,_,_,_,_,_,_,_,_,_,_,_,_,_,_,_,_,_,_,_,_,_,_,_,_,_,_,_,_,_,_,_,_,_,_,_,_,_,_,_,_,_,_,_,_,_,_,_,_,_,_,_,_,_,_,_,_,_,_,_,_,_,_,_,_,_,_,_,_,_,_,_,_,_,_,_,_,_,_,_,_,_,_,_,_,_,_,_,_,_,_,_,_,_,_,_,_,_,_,_,_,_,_,_,_,_,_]) rfl ?_
 refine c_seq ?_
 refine c_rseq (n := 150) ⟨rfl, rfl⟩ ?_
 refine s_val (r_move rfl) ?_
 refine s_val (r_lens Try.runUnderlying25 (ec rfl en)) ?_
 refine s_val (r_eql rfl rfl) ?_
 refine c_nil (l' := [_,_,_,_,_,_,_,_,_,_,_,_,_,_,_,_,_,_,_,_,_,_,_,_,_,_,_,_,_,_,_,_,_,_,_,_,_,_,_,_,_,_,_,_,_,_,_,_,_,_,_,_,_,_,_,_,_,_,_,_,_,_,_,_,_,_,_,_,_,_,_,_,_,_,_,_,_,_,_,_,_,_,_,_,_,_,_,_,_,_,_,_,_,_,_,_,_,_,_,_,_,_,_,_,_,_,_,_,_,_,_,_,_,_,_,_,_,_,_,_,_,_,_,_,_,_,_,_,_,_,_,_,_,_,_,_,_,_,_,_,_,_,_,_,_,_,_,_,_,_]) rfl ?_
 refine c_if rfl (fun h15 => ?_) (fun h15 => ?_)
 ·skip
  refine c_rseq (n := 150) ⟨rfl, rfl⟩ ?_
  refine s_val (r_buildS (zs := ceC ce0) (out := ceC ce0) Try.runUnderlying40 Try.zeroValue40 places40 pn rfl) ?_
  refine s_st (m_storen H 0 11 Try.sizeOf40 rfl rfl (by first | exact (kC_length _) | exact (hC_length _) | exact (ceC_length _) | exact (ptC_length _ _ _ _) | exact (plV_length _ _ _) | exact (elFr.len _) | exact (frC_length _) | exact (fdV_length _ _ _)) (by first | exact (kC_one _) | exact (hC_one _) | exact (ceC_one _) | exact (ptC_one _ _ _ _) | exact (plV_one _ _ _) | exact (elFr.one _) | exact (frC_one _) | exact (fdV_one _ _ _)) rfl (by show 0 + 11 ≤ 11; omega) (ceC_sp _ _)) (L' := [_]) rfl ?_
  intro w H
  refine s_val (r_assign rfl) ?_
  refine s_val (r_assign rfl) ?_
  refine c_nil (l' := [_,_,_,_,_,_,_,_,_,_,_,_,_,_,_,_,_,_,_,_,_,_,_,_,_,_,_,_,_,_,_,_,_,_,_,_,_,_,_,_,_,_,_,_,_,_,_,_,_,_,_,_,_,_,_,_,_,_,_,_,_,_,_,_,_,_,_,_,_,_,_,_,_,_,_,_,_,_,_,_,_,_,_,_,_,_,_,_,_,_,_,_,_,_,_,_,_,_,_,_,_,_,_,_,_,_,_,_,_,_,_,_,_,_,_,_,_,_,_,_,_,_,_,_,_,_,_,_,_,_,_,_,_,_,_,_,_,_,_,_,_,_,_,_,_,_,_,_,_,_]) rfl ?_
  refine wp_ret (x_thenRet ?_)
  refine e_ret (rc_three rfl (rc_celln Try.isAgg40 Try.sizeOf40 rfl (H.at 0 rfl) (by first | exact (kC_td _) | exact (hC_td _) | exact (hC_seed _) | exact (ceC_td _) | exact (ceC_place _) | exact (ptC_td _ _ _ _) | exact (plV_td _ _ _) | exact (frC_td _) | exact (frC_cell _) | exact (fdV_td _ _ _)) (by first | exact (kC_length _) | exact (hC_length _) | exact (ceC_length _) | exact (ptC_length _ _ _ _) | exact (plV_length _ _ _) | exact (elFr.len _) | exact (frC_length _) | exact (fdV_length _ _ _))) (rc_tmp rfl) (rc_tmp rfl)) ⟨_, rfl, ?_⟩
  have hz : bs = [] := List.length_eq_zero_iff.1 (by omega)
  exact .inr ⟨(by rw [hz]; exact decF_nil), _, rfl, by decide, (H.sub (List.nil_sublist _))⟩
 ·skip
  have hne : bs ≠ [] := fun h => by rw [h] at h15; exact h15 rfl
  have hp0 : 0 < bs.length := List.length_pos_iff.2 hne
  obtain ⟨bb, off, pre, post, T, fz, rfl, hb, hp⟩ := hr hp0
  refine wp_skip ?_
  refine x_thenNormal ?_
  refine c_rseq (n := 150) ⟨rfl, rfl⟩ ?_
  refine s_val (r_move rfl) ?_
  refine s_val (r_indexAddrS Try.runUnderlying25 Try.sizeOf5 rfl rfl (by omega) (by omega)) ?_
  refine s_val (r_load1 Try.isAgg5 rfl (H.rd0 hb) (bs_getE _ bs _ 0 hp (by omega) (by omega))) ?_
  have hlt := (bs.getD 0 0).toNat_lt
  refine s_val (r_conv Try.runUnderlying5 Try.runUnderlying3 rfl (w_i64 (by omega) (by omega))) ?_
  refine s_val (r_buildS Try.runUnderlying40 Try.zeroValue40 places40 (pc rfl pn) (rfl : fillL _ _ _ = some (ceC (⟨((bs.getD 0 0).toNat : Int), 0, 0, 0, 0, 0, 0, 0, 0, 0, bdZ⟩ : Ce)))) ?_
  refine s_new (m_alloc (cs := (ceC ce0)) H Try.zeroValue40 rfl) ?_
  intro w b5 H
  refine s_st (m_storen H 0 11 Try.sizeOf40 rfl rfl (by first | exact (kC_length _) | exact (hC_length _) | exact (ceC_length _) | exact (ptC_length _ _ _ _) | exact (plV_length _ _ _) | exact (elFr.len _) | exact (frC_length _) | exact (fdV_length _ _ _)) (by first | exact (kC_one _) | exact (hC_one _) | exact (ceC_one _) | exact (ptC_one _ _ _ _) | exact (plV_one _ _ _) | exact (elFr.one _) | exact (frC_one _) | exact (fdV_one _ _ _)) rfl (by show 0 + 11 ≤ 11; omega) (ceC_sp _ _)) (L' := [_,_]) rfl ?_
  intro w H
  obtain ⟨k, hk⟩ : ∃ k : Int, k = ((bs.getD 0 0).toNat : Int) := ⟨_, rfl⟩
  rw [← hk] at H ⊢
  have hkg : k = gt bs 0 1 := hk.trans (gt_one (by omega)).symm
  refine c_nil (l' := [_,_,_,_,_,_,_,_,_,_,_,_,_,_,_,_,_,_,_,_,_,_,_,_,_,_,_,_,_,_,_,_,_,_,_,_,_,_,_,_,_,_,_,_,_,_,_,_,_,_,_,_,_,_,_,_,_,_,_,_,_,_,_,_,_,_,_,_,_,_,_,_,_,_,_,_,_,_,_,_,_,_,_,_,_,_,_,_,_,_,_,_,_,_,_,_,_,_,_,_,_,_,_,_,_,_,_,_,_,_,_,_,_,_,_,_,_,_,_,_,_,_,_,_,_,_,_,_,_,_,_,_,_,_,_,_,_,_,_,_,_,_,_,_,_,_,_,_,_,_]) rfl ?_
  refine c_seq ?_
  refine c_rseq (n := 150) ⟨rfl, rfl⟩ ?_
  refine s_val (r_fieldAddr (k := 0) Try.runUnderlying40 rfl Try.sizeOf3 (by decide) rfl rfl) ?_
  refine s_val (r_load1 Try.isAgg3 rfl (H.at 0 rfl) (rfl : _ = some (Value.int .i64 k))) ?_
  refine s_test (r_lss rfl rfl) (fun h24 => ?_) (fun h24 => ?_)
  ·skip
   refine s_val (r_move rfl) ?_
   refine g_no rfl rfl (by decide) ?_
   refine g_no rfl rfl (by decide) ?_
   refine g_no rfl rfl (by decide) ?_
   refine s_val (r_pickt rfl rfl) ?_
   refine c_nil (l' := [_,_,_,_,_,_,_,_,_,_,_,_,_,_,_,_,_,_,_,_,_,_,_,_,_,_,_,_,_,_,_,_,_,_,_,_,_,_,_,_,_,_,_,_,_,_,_,_,_,_,_,_,_,_,_,_,_,_,_,_,_,_,_,_,_,_,_,_,_,_,_,_,_,_,_,_,_,_,_,_,_,_,_,_,_,_,_,_,_,_,_,_,_,_,_,_,_,_,_,_,_,_,_,_,_,_,_,_,_,_,_,_,_,_,_,_,_,_,_,_,_,_,_,_,_,_,_,_,_,_,_,_,_,_,_,_,_,_,_,_,_,_,_,_,_,_,_,_,_,_]) rfl ?_
   refine c_ift rfl ?_
   refine c_rseq (n := 150) ⟨rfl, rfl⟩ ?_
   refine s_val (r_buildS (zs := ceC ce0) (out := ceC ce0) Try.runUnderlying40 Try.zeroValue40 places40 pn rfl) ?_
   refine s_st (m_storen H 1 11 Try.sizeOf40 rfl rfl (by first | exact (kC_length _) | exact (hC_length _) | exact (ceC_length _) | exact (ptC_length _ _ _ _) | exact (plV_length _ _ _) | exact (elFr.len _) | exact (frC_length _) | exact (fdV_length _ _ _)) (by first | exact (kC_one _) | exact (hC_one _) | exact (ceC_one _) | exact (ptC_one _ _ _ _) | exact (plV_one _ _ _) | exact (elFr.one _) | exact (frC_one _) | exact (fdV_one _ _ _)) rfl (by show 0 + 11 ≤ 11; omega) (ceC_sp _ _)) (L' := [_,_]) rfl ?_
   intro w H
   refine s_val (r_assign rfl) ?_
   refine s_val (r_assign rfl) ?_
   refine c_nil (l' := [_,_,_,_,_,_,_,_,_,_,_,_,_,_,_,_,_,_,_,_,_,_,_,_,_,_,_,_,_,_,_,_,_,_,_,_,_,_,_,_,_,_,_,_,_,_,_,_,_,_,_,_,_,_,_,_,_,_,_,_,_,_,_,_,_,_,_,_,_,_,_,_,_,_,_,_,_,_,_,_,_,_,_,_,_,_,_,_,_,_,_,_,_,_,_,_,_,_,_,_,_,_,_,_,_,_,_,_,_,_,_,_,_,_,_,_,_,_,_,_,_,_,_,_,_,_,_,_,_,_,_,_,_,_,_,_,_,_,_,_,_,_,_,_,_,_,_,_,_,_]) rfl ?_
   refine wp_ret (x_thenRet ?_)
   refine e_ret (rc_three rfl (rc_celln Try.isAgg40 Try.sizeOf40 rfl (H.at 1 rfl) (by first | exact (kC_td _) | exact (hC_td _) | exact (hC_seed _) | exact (ceC_td _) | exact (ceC_place _) | exact (ptC_td _ _ _ _) | exact (plV_td _ _ _) | exact (frC_td _) | exact (frC_cell _) | exact (fdV_td _ _ _)) (by first | exact (kC_length _) | exact (hC_length _) | exact (ceC_length _) | exact (ptC_length _ _ _ _) | exact (plV_length _ _ _) | exact (elFr.len _) | exact (frC_length _) | exact (fdV_length _ _ _))) (rc_tmp rfl) (rc_tmp rfl)) ⟨_, rfl, ?_⟩
   exact .inr ⟨decF_kind hne (by rw [← hkg]; exact decide_eq_false (by omega)), _, rfl, by decide, (H.sub (List.nil_sublist _))⟩
  ·skip
   refine s_val (r_move rfl) ?_
   refine g_yes rfl rfl ?_
   refine s_val (r_fieldAddr (k := 0) Try.runUnderlying40 rfl Try.sizeOf3 (by decide) rfl rfl) ?_
   refine g_yes rfl rfl ?_
   refine s_val (r_load1 Try.isAgg3 rfl (H.at 0 rfl) (rfl : _ = some (Value.int .i64 k))) ?_
   refine g_yes rfl rfl ?_
   refine s_test (r_gtr rfl rfl) (fun h28 => ?_) (fun h28 => ?_)
   ·skip
    refine s_val (r_pickf rfl rfl) ?_
    refine c_nil (l' := [_,_,_,_,_,_,_,_,_,_,_,_,_,_,_,_,_,_,_,_,_,_,_,_,_,_,_,_,_,_,_,_,_,_,_,_,_,_,_,_,_,_,_,_,_,_,_,_,_,_,_,_,_,_,_,_,_,_,_,_,_,_,_,_,_,_,_,_,_,_,_,_,_,_,_,_,_,_,_,_,_,_,_,_,_,_,_,_,_,_,_,_,_,_,_,_,_,_,_,_,_,_,_,_,_,_,_,_,_,_,_,_,_,_,_,_,_,_,_,_,_,_,_,_,_,_,_,_,_,_,_,_,_,_,_,_,_,_,_,_,_,_,_,_,_,_,_,_,_,_]) rfl ?_
    refine c_ift rfl ?_
    refine c_rseq (n := 150) ⟨rfl, rfl⟩ ?_
    refine s_val (r_buildS (zs := ceC ce0) (out := ceC ce0) Try.runUnderlying40 Try.zeroValue40 places40 pn rfl) ?_
    refine s_st (m_storen H 1 11 Try.sizeOf40 rfl rfl (by first | exact (kC_length _) | exact (hC_length _) | exact (ceC_length _) | exact (ptC_length _ _ _ _) | exact (plV_length _ _ _) | exact (elFr.len _) | exact (frC_length _) | exact (fdV_length _ _ _)) (by first | exact (kC_one _) | exact (hC_one _) | exact (ceC_one _) | exact (ptC_one _ _ _ _) | exact (plV_one _ _ _) | exact (elFr.one _) | exact (frC_one _) | exact (fdV_one _ _ _)) rfl (by show 0 + 11 ≤ 11; omega) (ceC_sp _ _)) (L' := [_,_]) rfl ?_
    intro w H
    refine s_val (r_assign rfl) ?_
    refine s_val (r_assign rfl) ?_
    refine c_nil (l' := [_,_,_,_,_,_,_,_,_,_,_,_,_,_,_,_,_,_,_,_,_,_,_,_,_,_,_,_,_,_,_,_,_,_,_,_,_,_,_,_,_,_,_,_,_,_,_,_,_,_,_,_,_,_,_,_,_,_,_,_,_,_,_,_,_,_,_,_,_,_,_,_,_,_,_,_,_,_,_,_,_,_,_,_,_,_,_,_,_,_,_,_,_,_,_,_,_,_,_,_,_,_,_,_,_,_,_,_,_,_,_,_,_,_,_,_,_,_,_,_,_,_,_,_,_,_,_,_,_,_,_,_,_,_,_,_,_,_,_,_,_,_,_,_,_,_,_,_,_,_]) rfl ?_
    refine wp_ret (x_thenRet ?_)
    refine e_ret (rc_three rfl (rc_celln Try.isAgg40 Try.sizeOf40 rfl (H.at 1 rfl) (by first | exact (kC_td _) | exact (hC_td _) | exact (hC_seed _) | exact (ceC_td _) | exact (ceC_place _) | exact (ptC_td _ _ _ _) | exact (plV_td _ _ _) | exact (frC_td _) | exact (frC_cell _) | exact (fdV_td _ _ _)) (by first | exact (kC_length _) | exact (hC_length _) | exact (ceC_length _) | exact (ptC_length _ _ _ _) | exact (plV_length _ _ _) | exact (elFr.len _) | exact (frC_length _) | exact (fdV_length _ _ _))) (rc_tmp rfl) (rc_tmp rfl)) ⟨_, rfl, ?_⟩
    exact .inr ⟨decF_kind hne (by rw [← hkg]; exact decide_eq_false (by omega)), _, rfl, by decide, (H.sub (List.nil_sublist _))⟩
   ·skip
    refine s_val (r_pickf rfl rfl) ?_
    refine c_nil (l' := [_,_,_,_,_,_,_,_,_,_,_,_,_,_,_,_,_,_,_,_,_,_,_,_,_,_,_,_,_,_,_,_,_,_,_,_,_,_,_,_,_,_,_,_,_,_,_,_,_,_,_,_,_,_,_,_,_,_,_,_,_,_,_,_,_,_,_,_,_,_,_,_,_,_,_,_,_,_,_,_,_,_,_,_,_,_,_,_,_,_,_,_,_,_,_,_,_,_,_,_,_,_,_,_,_,_,_,_,_,_,_,_,_,_,_,_,_,_,_,_,_,_,_,_,_,_,_,_,_,_,_,_,_,_,_,_,_,_,_,_,_,_,_,_,_,_,_,_,_,_]) rfl ?_
    refine c_iff rfl ?_
    refine wp_skip ?_
    refine x_thenNormal ?_
    refine c_rseq (n := 150) ⟨rfl, rfl⟩ ?_
    refine s_val (r_fieldAddr (k := 0) Try.runUnderlying40 rfl Try.sizeOf3 (by decide) rfl rfl) ?_
    refine s_val (r_load1 Try.isAgg3 rfl (H.at 0 rfl) (rfl : _ = some (Value.int .i64 k))) ?_
    refine s_call (r_call Try.call41 (ec rfl en)) (has12_spec _ _) ?_
    rintro v w ⟨rfl, HC⟩
    replace H := H.quiet HC
    refine s_val (r_move rfl) ?_
    refine s_val (r_extract rfl rfl) ?_
    refine s_val (r_extract rfl rfl) ?_
    refine s_val (r_extract rfl rfl) ?_
    refine s_val (r_extract rfl rfl) ?_
    refine s_val (r_assign rfl) ?_
    refine s_val (r_assign rfl) ?_
    refine s_val (r_assign rfl) ?_
    refine s_val (r_assign rfl) ?_
    refine c_nil (l' := [_,_,_,_,_,_,_,_,_,_,_,_,_,_,_,_,_,_,_,_,_,_,_,_,_,_,_,_,_,_,_,_,_,_,_,_,_,_,_,_,_,_,_,_,_,_,_,_,_,_,_,_,_,_,_,_,_,_,_,_,_,_,_,_,_,_,_,_,_,_,_,_,_,_,_,_,_,_,_,_,_,_,_,_,_,_,_,_,_,_,_,_,_,_,_,_,_,_,_,_,_,_,_,_,_,_,_,_,_,_,_,_,_,_,_,_,_,_,_,_,_,_,_,_,_,_,_,_,_,_,_,_,_,_,_,_,_,_,_,_,_,_,_,_,_,_,_,_,_,_]) rfl ?_
    refine c_rseq (n := 150) ⟨rfl, rfl⟩ ?_
    refine s_val (r_assign rfl) ?_
    refine c_nil (l' := [_,_,_,_,_,_,_,_,_,_,_,_,_,_,_,_,_,_,_,_,_,_,_,_,_,_,_,_,_,_,_,_,_,_,_,_,_,_,_,_,_,_,_,_,_,_,_,_,_,_,_,_,_,_,_,_,_,_,_,_,_,_,_,_,_,_,_,_,_,_,_,_,_,_,_,_,_,_,_,_,_,_,_,_,_,_,_,_,_,_,_,_,_,_,_,_,_,_,_,_,_,_,_,_,_,_,_,_,_,_,_,_,_,_,_,_,_,_,_,_,_,_,_,_,_,_,_,_,_,_,_,_,_,_,_,_,_,_,_,_,_,_,_,_,_,_,_,_,_,_]) rfl ?_
    refine c_cut (fun (l0 : List Value) (l : List Value) (w : World) => ∃ (u39 u40 u41 : Value) (n2 : Int), l = ovr l0 [N_, N_, N_, N_, N_, N_, N_, N_, N_, N_, Y_ (.int .i64 n2), N_, N_, N_, N_, N_, N_, N_, N_, N_, N_, N_, N_, N_, N_, N_, N_, N_, N_, N_, N_, N_, N_, N_, N_, N_, N_, N_, N_, Y_ u39, Y_ u40, Y_ u41] ∧ n2 = ((7 + cn (kPl k) 4 : Nat) : Int) ∧ St w0 [] w [(b5, .cells (ceC (⟨k, 0, 0, 0, 0, 0, 0, 0, 0, 0, bdZ⟩ : Ce)).toArray 40 (0, 0)), (b2, .cells (ceC ce0).toArray 40 (0, 0))]) ?_ ?_
    ·skip
     refine c_rseq (n := 150) ⟨rfl, rfl⟩ ?_
     refine s_val (r_move rfl) ?_
     refine c_nil (l' := [_,_,_,_,_,_,_,_,_,_,_,_,_,_,_,_,_,_,_,_,_,_,_,_,_,_,_,_,_,_,_,_,_,_,_,_,_,_,_,_,_,_,_,_,_,_,_,_,_,_,_,_,_,_,_,_,_,_,_,_,_,_,_,_,_,_,_,_,_,_,_,_,_,_,_,_,_,_,_,_,_,_,_,_,_,_,_,_,_,_,_,_,_,_,_,_,_,_,_,_,_,_,_,_,_,_,_,_,_,_,_,_,_,_,_,_,_,_,_,_,_,_,_,_,_,_,_,_,_,_,_,_,_,_,_,_,_,_,_,_,_,_,_,_,_,_,_,_,_,_]) rfl ?_
     refine c_ifb rfl (fun h39 => ?_) (fun h39 => ?_)
     ·skip
      refine c_region (n := 150) ⟨rfl, rfl⟩ ?_
      refine s_val (r_move rfl) ?_
      refine s_val (r_add rfl rfl (w_i64 (by omega) (by omega))) ?_
      refine s_val (r_assign rfl) ?_
      refine c_nil0 (l' := [_,_,_,_,_,_,_,_,_,_,_,_,_,_,_,_,_,_,_,_,_,_,_,_,_,_,_,_,_,_,_,_,_,_,_,_,_,_,_,_,_,_,_,_,_,_,_,_,_,_,_,_,_,_,_,_,_,_,_,_,_,_,_,_,_,_,_,_,_,_,_,_,_,_,_,_,_,_,_,_,_,_,_,_,_,_,_,_,_,_,_,_,_,_,_,_,_,_,_,_,_,_,_,_,_,_,_,_,_,_,_,_,_,_,_,_,_,_,_,_,_,_,_,_,_,_,_,_,_,_,_,_,_,_,_,_,_,_,_,_,_,_,_,_,_,_,_,_,_,_]) rfl ?_
      exact ⟨_, rfl, ⟨_,_,_,_, rfl, (by rw [cn_yes h39]; rfl), H⟩⟩
     ·skip
      refine wp_skip ?_
      exact ⟨_, rfl, ⟨_,_,_,_, rfl, (by rw [cn_no h39]; rfl), H⟩⟩
    ·skip
     rintro l w ⟨u39, u40, u41, n2, hl, hn2, H⟩
     obtain rfl := hl.trans (rfl : _ = [_,_,_,_,_,_,_,_,_,_,_,_,_,_,_,_,_,_,_,_,_,_,_,_,_,_,_,_,_,_,_,_,_,_,_,_,_,_,_,_,_,_,_,_,_,_,_,_,_,_,_,_,_,_,_,_,_,_,_,_,_,_,_,_,_,_,_,_,_,_,_,_,_,_,_,_,_,_,_,_,_,_,_,_,_,_,_,_,_,_,_,_,_,_,_,_,_,_,_,_,_,_,_,_,_,_,_,_,_,_,_,_,_,_,_,_,_,_,_,_,_,_,_,_,_,_,_,_,_,_,_,_,_,_,_,_,_,_,_,_,_,_,_,_,_,_,_,_,_,_])
     clear hl
     obtain ⟨m2, hm2⟩ : ∃ m : Nat, m = 7 + cn (kPl k) 4 := ⟨_, rfl⟩
     rw [← hm2] at hn2
     subst hn2
     have hle2 := cn_le (kPl k) 4
     refine c_cut (fun (l0 : List Value) (l : List Value) (w : World) => ∃ (u42 u43 u44 : Value) (n3 : Int), l = ovr l0 [N_, N_, N_, N_, N_, N_, N_, N_, N_, N_, Y_ (.int .i64 n3), N_, N_, N_, N_, N_, N_, N_, N_, N_, N_, N_, N_, N_, N_, N_, N_, N_, N_, N_, N_, N_, N_, N_, N_, N_, N_, N_, N_, N_, N_, N_, Y_ u42, Y_ u43, Y_ u44] ∧ n3 = ((m2 + cn (kRf k) 2 : Nat) : Int) ∧ St w0 [] w [(b5, .cells (ceC (⟨k, 0, 0, 0, 0, 0, 0, 0, 0, 0, bdZ⟩ : Ce)).toArray 40 (0, 0)), (b2, .cells (ceC ce0).toArray 40 (0, 0))]) ?_ ?_
     ·skip
      refine c_rseq (n := 150) ⟨rfl, rfl⟩ ?_
      refine s_val (r_move rfl) ?_
      refine c_nil (l' := [_,_,_,_,_,_,_,_,_,_,_,_,_,_,_,_,_,_,_,_,_,_,_,_,_,_,_,_,_,_,_,_,_,_,_,_,_,_,_,_,_,_,_,_,_,_,_,_,_,_,_,_,_,_,_,_,_,_,_,_,_,_,_,_,_,_,_,_,_,_,_,_,_,_,_,_,_,_,_,_,_,_,_,_,_,_,_,_,_,_,_,_,_,_,_,_,_,_,_,_,_,_,_,_,_,_,_,_,_,_,_,_,_,_,_,_,_,_,_,_,_,_,_,_,_,_,_,_,_,_,_,_,_,_,_,_,_,_,_,_,_,_,_,_,_,_,_,_,_,_]) rfl ?_
      refine c_ifb rfl (fun h42 => ?_) (fun h42 => ?_)
      ·skip
       refine c_region (n := 150) ⟨rfl, rfl⟩ ?_
       refine s_val (r_move rfl) ?_
       refine s_val (r_add rfl rfl (w_i64 (by omega) (by omega))) ?_
       refine s_val (r_assign rfl) ?_
       refine c_nil0 (l' := [_,_,_,_,_,_,_,_,_,_,_,_,_,_,_,_,_,_,_,_,_,_,_,_,_,_,_,_,_,_,_,_,_,_,_,_,_,_,_,_,_,_,_,_,_,_,_,_,_,_,_,_,_,_,_,_,_,_,_,_,_,_,_,_,_,_,_,_,_,_,_,_,_,_,_,_,_,_,_,_,_,_,_,_,_,_,_,_,_,_,_,_,_,_,_,_,_,_,_,_,_,_,_,_,_,_,_,_,_,_,_,_,_,_,_,_,_,_,_,_,_,_,_,_,_,_,_,_,_,_,_,_,_,_,_,_,_,_,_,_,_,_,_,_,_,_,_,_,_,_]) rfl ?_
       exact ⟨_, rfl, ⟨_,_,_,_, rfl, (by rw [cn_yes h42]; rfl), H⟩⟩
      ·skip
       refine wp_skip ?_
       exact ⟨_, rfl, ⟨_,_,_,_, rfl, (by rw [cn_no h42]; rfl), H⟩⟩
     ·skip
      rintro l w ⟨u42, u43, u44, n3, hl, hn3, H⟩
      obtain rfl := hl.trans (rfl : _ = [_,_,_,_,_,_,_,_,_,_,_,_,_,_,_,_,_,_,_,_,_,_,_,_,_,_,_,_,_,_,_,_,_,_,_,_,_,_,_,_,_,_,_,_,_,_,_,_,_,_,_,_,_,_,_,_,_,_,_,_,_,_,_,_,_,_,_,_,_,_,_,_,_,_,_,_,_,_,_,_,_,_,_,_,_,_,_,_,_,_,_,_,_,_,_,_,_,_,_,_,_,_,_,_,_,_,_,_,_,_,_,_,_,_,_,_,_,_,_,_,_,_,_,_,_,_,_,_,_,_,_,_,_,_,_,_,_,_,_,_,_,_,_,_,_,_,_,_,_,_])
      clear hl
      obtain ⟨m3, hm3⟩ : ∃ m : Nat, m = m2 + cn (kRf k) 2 := ⟨_, rfl⟩
      rw [← hm3] at hn3
      subst hn3
      have hle3 := cn_le (kRf k) 2
      refine c_cut (fun (l0 : List Value) (l : List Value) (w : World) => ∃ (u45 u46 u47 : Value) (n4 : Int), l = ovr l0 [N_, N_, N_, N_, N_, N_, N_, N_, N_, N_, Y_ (.int .i64 n4), N_, N_, N_, N_, N_, N_, N_, N_, N_, N_, N_, N_, N_, N_, N_, N_, N_, N_, N_, N_, N_, N_, N_, N_, N_, N_, N_, N_, N_, N_, N_, N_, N_, N_, Y_ u45, Y_ u46, Y_ u47] ∧ n4 = ((m3 + cn (kMi k) 12 : Nat) : Int) ∧ St w0 [] w [(b5, .cells (ceC (⟨k, 0, 0, 0, 0, 0, 0, 0, 0, 0, bdZ⟩ : Ce)).toArray 40 (0, 0)), (b2, .cells (ceC ce0).toArray 40 (0, 0))]) ?_ ?_
      ·skip
       refine c_rseq (n := 150) ⟨rfl, rfl⟩ ?_
       refine s_val (r_move rfl) ?_
       refine c_nil (l' := [_,_,_,_,_,_,_,_,_,_,_,_,_,_,_,_,_,_,_,_,_,_,_,_,_,_,_,_,_,_,_,_,_,_,_,_,_,_,_,_,_,_,_,_,_,_,_,_,_,_,_,_,_,_,_,_,_,_,_,_,_,_,_,_,_,_,_,_,_,_,_,_,_,_,_,_,_,_,_,_,_,_,_,_,_,_,_,_,_,_,_,_,_,_,_,_,_,_,_,_,_,_,_,_,_,_,_,_,_,_,_,_,_,_,_,_,_,_,_,_,_,_,_,_,_,_,_,_,_,_,_,_,_,_,_,_,_,_,_,_,_,_,_,_,_,_,_,_,_,_]) rfl ?_
       refine c_ifb rfl (fun h45 => ?_) (fun h45 => ?_)
       ·skip
        refine c_region (n := 150) ⟨rfl, rfl⟩ ?_
        refine s_val (r_move rfl) ?_
        refine s_val (r_add rfl rfl (w_i64 (by omega) (by omega))) ?_
        refine s_val (r_assign rfl) ?_
        refine c_nil0 (l' := [_,_,_,_,_,_,_,_,_,_,_,_,_,_,_,_,_,_,_,_,_,_,_,_,_,_,_,_,_,_,_,_,_,_,_,_,_,_,_,_,_,_,_,_,_,_,_,_,_,_,_,_,_,_,_,_,_,_,_,_,_,_,_,_,_,_,_,_,_,_,_,_,_,_,_,_,_,_,_,_,_,_,_,_,_,_,_,_,_,_,_,_,_,_,_,_,_,_,_,_,_,_,_,_,_,_,_,_,_,_,_,_,_,_,_,_,_,_,_,_,_,_,_,_,_,_,_,_,_,_,_,_,_,_,_,_,_,_,_,_,_,_,_,_,_,_,_,_,_,_]) rfl ?_
        exact ⟨_, rfl, ⟨_,_,_,_, rfl, (by rw [cn_yes h45]; rfl), H⟩⟩
       ·skip
        refine wp_skip ?_
        exact ⟨_, rfl, ⟨_,_,_,_, rfl, (by rw [cn_no h45]; rfl), H⟩⟩
      ·skip
       rintro l w ⟨u45, u46, u47, n4, hl, hn4, H⟩
       obtain rfl := hl.trans (rfl : _ = [_,_,_,_,_,_,_,_,_,_,_,_,_,_,_,_,_,_,_,_,_,_,_,_,_,_,_,_,_,_,_,_,_,_,_,_,_,_,_,_,_,_,_,_,_,_,_,_,_,_,_,_,_,_,_,_,_,_,_,_,_,_,_,_,_,_,_,_,_,_,_,_,_,_,_,_,_,_,_,_,_,_,_,_,_,_,_,_,_,_,_,_,_,_,_,_,_,_,_,_,_,_,_,_,_,_,_,_,_,_,_,_,_,_,_,_,_,_,_,_,_,_,_,_,_,_,_,_,_,_,_,_,_,_,_,_,_,_,_,_,_,_,_,_,_,_,_,_,_,_])
       clear hl
       obtain ⟨m4, hm4⟩ : ∃ m : Nat, m = m3 + cn (kMi k) 12 := ⟨_, rfl⟩
       rw [← hm4] at hn4
       subst hn4
       have hle4 := cn_le (kMi k) 12
       refine c_cut (fun (l0 : List Value) (l : List Value) (w : World) => ∃ (u48 u49 u50 : Value) (n5 : Int), l = ovr l0 [N_, N_, N_, N_, N_, N_, N_, N_, N_, N_, Y_ (.int .i64 n5), N_, N_, N_, N_, N_, N_, N_, N_, N_, N_, N_, N_, N_, N_, N_, N_, N_, N_, N_, N_, N_, N_, N_, N_, N_, N_, N_, N_, N_, N_, N_, N_, N_, N_, N_, N_, N_, Y_ u48, Y_ u49, Y_ u50] ∧ n5 = ((m4 + cn (kBo k) 1 : Nat) : Int) ∧ St w0 [] w [(b5, .cells (ceC (⟨k, 0, 0, 0, 0, 0, 0, 0, 0, 0, bdZ⟩ : Ce)).toArray 40 (0, 0)), (b2, .cells (ceC ce0).toArray 40 (0, 0))]) ?_ ?_
       ·skip
        refine c_rseq (n := 150) ⟨rfl, rfl⟩ ?_
        refine s_val (r_move rfl) ?_
        refine c_nil (l' := [_,_,_,_,_,_,_,_,_,_,_,_,_,_,_,_,_,_,_,_,_,_,_,_,_,_,_,_,_,_,_,_,_,_,_,_,_,_,_,_,_,_,_,_,_,_,_,_,_,_,_,_,_,_,_,_,_,_,_,_,_,_,_,_,_,_,_,_,_,_,_,_,_,_,_,_,_,_,_,_,_,_,_,_,_,_,_,_,_,_,_,_,_,_,_,_,_,_,_,_,_,_,_,_,_,_,_,_,_,_,_,_,_,_,_,_,_,_,_,_,_,_,_,_,_,_,_,_,_,_,_,_,_,_,_,_,_,_,_,_,_,_,_,_,_,_,_,_,_,_]) rfl ?_
        refine c_ifb rfl (fun h48 => ?_) (fun h48 => ?_)
        ·skip
         refine c_region (n := 150) ⟨rfl, rfl⟩ ?_
         refine s_val (r_move rfl) ?_
         refine s_val (r_add rfl rfl (w_i64 (by omega) (by omega))) ?_
         refine s_val (r_assign rfl) ?_
         refine c_nil0 (l' := [_,_,_,_,_,_,_,_,_,_,_,_,_,_,_,_,_,_,_,_,_,_,_,_,_,_,_,_,_,_,_,_,_,_,_,_,_,_,_,_,_,_,_,_,_,_,_,_,_,_,_,_,_,_,_,_,_,_,_,_,_,_,_,_,_,_,_,_,_,_,_,_,_,_,_,_,_,_,_,_,_,_,_,_,_,_,_,_,_,_,_,_,_,_,_,_,_,_,_,_,_,_,_,_,_,_,_,_,_,_,_,_,_,_,_,_,_,_,_,_,_,_,_,_,_,_,_,_,_,_,_,_,_,_,_,_,_,_,_,_,_,_,_,_,_,_,_,_,_,_]) rfl ?_
         exact ⟨_, rfl, ⟨_,_,_,_, rfl, (by rw [cn_yes h48]; rfl), H⟩⟩
        ·skip
         refine wp_skip ?_
         exact ⟨_, rfl, ⟨_,_,_,_, rfl, (by rw [cn_no h48]; rfl), H⟩⟩
       ·skip
        rintro l w ⟨u48, u49, u50, n5, hl, hn5, H⟩
        obtain rfl := hl.trans (rfl : _ = [_,_,_,_,_,_,_,_,_,_,_,_,_,_,_,_,_,_,_,_,_,_,_,_,_,_,_,_,_,_,_,_,_,_,_,_,_,_,_,_,_,_,_,_,_,_,_,_,_,_,_,_,_,_,_,_,_,_,_,_,_,_,_,_,_,_,_,_,_,_,_,_,_,_,_,_,_,_,_,_,_,_,_,_,_,_,_,_,_,_,_,_,_,_,_,_,_,_,_,_,_,_,_,_,_,_,_,_,_,_,_,_,_,_,_,_,_,_,_,_,_,_,_,_,_,_,_,_,_,_,_,_,_,_,_,_,_,_,_,_,_,_,_,_,_,_,_,_,_,_])
        clear hl
        obtain ⟨m5, hm5⟩ : ∃ m : Nat, m = m4 + cn (kBo k) 1 := ⟨_, rfl⟩
        rw [← hm5] at hn5
        subst hn5
        have hle5 := cn_le (kBo k) 1
        refine c_seq ?_
        refine c_rseq (n := 150) ⟨rfl, rfl⟩ ?_
        refine s_val (r_move rfl) ?_
        refine s_val (r_lens Try.runUnderlying25 (ec rfl en)) ?_
        refine s_val (r_move rfl) ?_
        refine s_val (r_lss rfl rfl) ?_
        refine c_nil (l' := [_,_,_,_,_,_,_,_,_,_,_,_,_,_,_,_,_,_,_,_,_,_,_,_,_,_,_,_,_,_,_,_,_,_,_,_,_,_,_,_,_,_,_,_,_,_,_,_,_,_,_,_,_,_,_,_,_,_,_,_,_,_,_,_,_,_,_,_,_,_,_,_,_,_,_,_,_,_,_,_,_,_,_,_,_,_,_,_,_,_,_,_,_,_,_,_,_,_,_,_,_,_,_,_,_,_,_,_,_,_,_,_,_,_,_,_,_,_,_,_,_,_,_,_,_,_,_,_,_,_,_,_,_,_,_,_,_,_,_,_,_,_,_,_,_,_,_,_,_,_]) rfl ?_
        refine c_if rfl (fun h54 => ?_) (fun h54 => ?_)
        ·skip
         refine c_rseq (n := 150) ⟨rfl, rfl⟩ ?_
         refine s_val (r_buildS (zs := ceC ce0) (out := ceC ce0) Try.runUnderlying40 Try.zeroValue40 places40 pn rfl) ?_
         refine s_st (m_storen H 1 11 Try.sizeOf40 rfl rfl (by first | exact (kC_length _) | exact (hC_length _) | exact (ceC_length _) | exact (ptC_length _ _ _ _) | exact (plV_length _ _ _) | exact (elFr.len _) | exact (frC_length _) | exact (fdV_length _ _ _)) (by first | exact (kC_one _) | exact (hC_one _) | exact (ceC_one _) | exact (ptC_one _ _ _ _) | exact (plV_one _ _ _) | exact (elFr.one _) | exact (frC_one _) | exact (fdV_one _ _ _)) rfl (by show 0 + 11 ≤ 11; omega) (ceC_sp _ _)) (L' := [_,_]) rfl ?_
         intro w H
         refine s_val (r_assign rfl) ?_
         refine s_val (r_assign rfl) ?_
         refine c_nil (l' := [_,_,_,_,_,_,_,_,_,_,_,_,_,_,_,_,_,_,_,_,_,_,_,_,_,_,_,_,_,_,_,_,_,_,_,_,_,_,_,_,_,_,_,_,_,_,_,_,_,_,_,_,_,_,_,_,_,_,_,_,_,_,_,_,_,_,_,_,_,_,_,_,_,_,_,_,_,_,_,_,_,_,_,_,_,_,_,_,_,_,_,_,_,_,_,_,_,_,_,_,_,_,_,_,_,_,_,_,_,_,_,_,_,_,_,_,_,_,_,_,_,_,_,_,_,_,_,_,_,_,_,_,_,_,_,_,_,_,_,_,_,_,_,_,_,_,_,_,_,_]) rfl ?_
         refine wp_ret (x_thenRet ?_)
         refine e_ret (rc_three rfl (rc_celln Try.isAgg40 Try.sizeOf40 rfl (H.at 1 rfl) (by first | exact (kC_td _) | exact (hC_td _) | exact (hC_seed _) | exact (ceC_td _) | exact (ceC_place _) | exact (ptC_td _ _ _ _) | exact (plV_td _ _ _) | exact (frC_td _) | exact (frC_cell _) | exact (fdV_td _ _ _)) (by first | exact (kC_length _) | exact (hC_length _) | exact (ceC_length _) | exact (ptC_length _ _ _ _) | exact (plV_length _ _ _) | exact (elFr.len _) | exact (frC_length _) | exact (fdV_length _ _ _))) (rc_tmp rfl) (rc_tmp rfl)) ⟨_, rfl, ?_⟩
         exact .inr ⟨decF_short hne (cellF_short hne hkg hm2 hm3 hm4 hm5 (by omega)), _, rfl, by decide, (H.sub (List.nil_sublist _))⟩
        ·skip
         have g12 := take_rng (bs.drop 1) (n := 2) (by omega)
         have g34 := take_rng (bs.drop 3) (n := 4) (by omega)
         refine wp_skip ?_
         refine x_thenNormal ?_
         refine c_seq ?_
         refine d_begin (sz := 150) ⟨rfl, rfl⟩ (by kernel_rfl) H (H.sub (.cons _ (.cons_cons _ .slnil))) rfl ?_
         intro w H
         refine d_take (i := 0) rfl (by kernel_rfl) (fun _ _ _ h => h) (H.sub (.cons _ (.cons_cons _ .slnil))) (fun _ _ => r_move rfl) rfl ?_
         refine d_take (i := 1) rfl (by kernel_rfl) (fun _ _ _ h => h) (H.sub (.cons _ (.cons_cons _ .slnil))) (fun _ _ => r_sliceLH (lo := 1) (hi := 3) Try.runUnderlying25 Try.sizeOf5 rfl rfl rfl rfl rfl (by omega) (by omega)) rfl ?_
         refine d_take (i := 3) rfl (by kernel_rfl) (fun _ _ _ h => h) (H.sub (.cons _ (.cons_cons _ .slnil))) (fun _ _ => r_move rfl) rfl ?_
         refine d_take (i := 4) rfl (by kernel_rfl) (fun _ _ _ h => h) (H.sub (.cons _ (.cons_cons _ .slnil))) (fun _ _ => r_sliceLH (lo := 3) (hi := 7) Try.runUnderlying25 Try.sizeOf5 rfl rfl rfl rfl rfl (by omega) (by omega)) rfl ?_
         refine d_all1 (i := 2) (by kernel_rfl) ?_
         refine b_call rfl go_none (r_call Try.call42 (ec rfl en)) (get12_l _ _ _ ((bs.drop 1).take 2) (by rw [List.length_take, List.length_drop]; omega) (by rw [List.length_take]; omega) _ ((hr.cut (lo := 1) (n := 2) (by omega) (by omega)).st (H.sub (List.nil_sublist _)))) rfl ?_
         rintro v w ⟨rfl, HC⟩
         replace H := H.quiet HC
         refine ⟨(H.sub (.cons _ (.cons_cons _ .slnil))), ?_⟩
         refine d_take (i := 7) rfl (by kernel_rfl) (fun _ _ _ h => h) (H.sub (.cons _ (.cons_cons _ .slnil))) (fun _ _ => r_fieldAddr (k := 1) Try.runUnderlying40 rfl Try.sizeOf24 (by decide) rfl rfl) rfl ?_
         refine d_all1 (i := 5) (by kernel_rfl) ?_
         refine b_call rfl go_none (r_call Try.call42 (ec rfl en)) (get12_l _ _ _ ((bs.drop 3).take 4) (by rw [List.length_take, List.length_drop]; omega) (by rw [List.length_take]; omega) _ ((hr.cut (lo := 3) (n := 4) (by omega) (by omega)).st (H.sub (List.nil_sublist _)))) rfl ?_
         rintro v w ⟨rfl, HC⟩
         replace H := H.quiet HC
         refine ⟨(H.sub (.cons _ (.cons_cons _ .slnil))), ?_⟩
         refine d_take (i := 6) rfl (by kernel_rfl) (fun _ _ _ h => h) (H.sub (.cons _ (.cons_cons _ .slnil))) (fun _ _ => r_conv Try.runUnderlying24 Try.runUnderlying3 rfl (w_i64 (by omega) (by omega))) rfl ?_
         refine d_all1 (i := 8) (by kernel_rfl) ?_
         refine b_st rfl go_none (m_store1 H 0 Try.sizeOf24 rfl rfl rfl rfl (by show 1 < 11; omega) rfl) (L' := [_,_]) rfl rfl (fun _ H => (H.sub (.cons _ (.cons_cons _ .slnil)))) ?_
         intro w H
         refine d_take (i := 9) rfl (by kernel_rfl) (fun _ _ _ h => h) (H.sub (.cons _ (.cons_cons _ .slnil))) (fun _ _ => r_fieldAddr (k := 2) Try.runUnderlying40 rfl Try.sizeOf3 (by decide) rfl rfl) rfl ?_
         refine d_all1 (i := 10) (by kernel_rfl) ?_
         refine b_st rfl go_none (m_store1 H 0 Try.sizeOf3 rfl rfl rfl rfl (by show 2 < 11; omega) (rfl : _ = ceC (⟨k, gt bs 1 2, gt bs 3 4, 0, 0, 0, 0, 0, 0, 0, bdZ⟩ : Ce))) (L' := [_,_]) rfl rfl (fun _ H => (H.sub (.cons _ (.cons_cons _ .slnil)))) ?_
         intro w H
         refine d_done (l' := [_,_,_,_,_,_,_,_,_,_,_,_,_,_,_,_,_,_,_,_,_,_,_,_,_,_,_,_,_,_,_,_,_,_,_,_,_,_,_,_,_,_,_,_,_,_,_,_,_,_,_,_,_,_,_,_,_,_,_,_,_,_,_,_,_,_,_,_,_,_,_,_,_,_,_,_,_,_,_,_,_,_,_,_,_,_,_,_,_,_,_,_,_,_,_,_,_,_,_,_,_,_,_,_,_,_,_,_,_,_,_,_,_,_,_,_,_,_,_,_,_,_,_,_,_,_,_,_,_,_,_,_,_,_,_,_,_,_,_,_,_,_,_,_,_,_,_,_,_,_]) (by kernel_rfl) rfl ?_
         refine x_thenNormal ?_
         refine c_rseq (n := 150) ⟨rfl, rfl⟩ ?_
         refine s_val (r_assign rfl) ?_
         refine c_nil (l' := [_,_,_,_,_,_,_,_,_,_,_,_,_,_,_,_,_,_,_,_,_,_,_,_,_,_,_,_,_,_,_,_,_,_,_,_,_,_,_,_,_,_,_,_,_,_,_,_,_,_,_,_,_,_,_,_,_,_,_,_,_,_,_,_,_,_,_,_,_,_,_,_,_,_,_,_,_,_,_,_,_,_,_,_,_,_,_,_,_,_,_,_,_,_,_,_,_,_,_,_,_,_,_,_,_,_,_,_,_,_,_,_,_,_,_,_,_,_,_,_,_,_,_,_,_,_,_,_,_,_,_,_,_,_,_,_,_,_,_,_,_,_,_,_,_,_,_,_,_,_]) rfl ?_
         refine c_cut (fun (l0 : List Value) (l : List Value) (w : World) => ∃ (u65 u66 u67 u68 u69 u70 u71 u72 u73 u74 u75 u76 u77 u78 u79 : Value) (q2 : Int), l = ovr l0 [N_, N_, N_, N_, N_, N_, N_, N_, N_, N_, N_, Y_ (.int .i64 q2), N_, N_, N_, N_, N_, N_, N_, N_, N_, N_, N_, N_, N_, N_, N_, N_, N_, N_, N_, N_, N_, N_, N_, N_, N_, N_, N_, N_, N_, N_, N_, N_, N_, N_, N_, N_, N_, N_, N_, N_, N_, N_, N_, N_, N_, N_, N_, N_, N_, N_, N_, N_, N_, Y_ u65, Y_ u66, Y_ u67, Y_ u68, Y_ u69, Y_ u70, Y_ u71, Y_ u72, Y_ u73, Y_ u74, Y_ u75, Y_ u76, Y_ u77, Y_ u78, Y_ u79] ∧ q2 = (m2 : Int) ∧ St w0 [] w [(b5, .cells (ceC (⟨k, gt bs 1 2, gt bs 3 4, gI (kPl k) bs 7 1, gI (kPl k) bs 8 1, gI (kPl k) bs 9 2, 0, 0, 0, 0, bdZ⟩ : Ce)).toArray 40 (0, 0)), (b2, .cells (ceC ce0).toArray 40 (0, 0))]) ?_ ?_
         ·skip
          refine c_rseq (n := 150) ⟨rfl, rfl⟩ ?_
          refine s_val (r_move rfl) ?_
          refine c_nil (l' := [_,_,_,_,_,_,_,_,_,_,_,_,_,_,_,_,_,_,_,_,_,_,_,_,_,_,_,_,_,_,_,_,_,_,_,_,_,_,_,_,_,_,_,_,_,_,_,_,_,_,_,_,_,_,_,_,_,_,_,_,_,_,_,_,_,_,_,_,_,_,_,_,_,_,_,_,_,_,_,_,_,_,_,_,_,_,_,_,_,_,_,_,_,_,_,_,_,_,_,_,_,_,_,_,_,_,_,_,_,_,_,_,_,_,_,_,_,_,_,_,_,_,_,_,_,_,_,_,_,_,_,_,_,_,_,_,_,_,_,_,_,_,_,_,_,_,_,_,_,_]) rfl ?_
          refine c_ifb rfl (fun h65 => ?_) (fun h65 => ?_)
          ·skip
           have hc4 := cn_yes h65 4
           have g92 := take_rng (bs.drop 9) (n := 2) (by omega)
           refine c_seq ?_
           refine d_begin (sz := 150) ⟨rfl, rfl⟩ (by kernel_rfl) H (H.sub (.cons _ (.cons_cons _ .slnil))) rfl ?_
           intro w H
           refine d_take (i := 0) rfl (by kernel_rfl) (fun _ _ _ h => h) (H.sub (.cons _ (.cons_cons _ .slnil))) (fun _ _ => r_move rfl) rfl ?_
           refine d_take (i := 1) rfl (by kernel_rfl) (fun _ _ _ h => h) (H.sub (.cons _ (.cons_cons _ .slnil))) (fun _ _ => r_indexAddrS Try.runUnderlying25 Try.sizeOf5 rfl rfl (by omega) (by omega)) rfl ?_
           refine d_take (i := 2) rfl (by kernel_rfl) (fun _ _ _ h => h) (H.sub (.cons _ (.cons_cons _ .slnil))) (fun _ HS => r_load1 Try.isAgg5 rfl (HS.rd0 hb) (bs_getE _ bs _ 7 hp (by omega) (by omega))) rfl ?_
           have hlt := (bs.getD 7 0).toNat_lt
           refine d_take (i := 3) rfl (by kernel_rfl) (fun _ _ _ h => h) (H.sub (.cons _ (.cons_cons _ .slnil))) (fun _ _ => r_conv Try.runUnderlying5 Try.runUnderlying3 rfl (w_i64 (by omega) (by omega))) rfl ?_
           refine d_take (i := 4) rfl (by kernel_rfl) (fun _ _ _ h => h) (H.sub (.cons _ (.cons_cons _ .slnil))) (fun _ _ => r_move rfl) rfl ?_
           refine d_take (i := 5) rfl (by kernel_rfl) (fun _ _ _ h => h) (H.sub (.cons _ (.cons_cons _ .slnil))) (fun _ _ => r_indexAddrS Try.runUnderlying25 Try.sizeOf5 rfl rfl (by omega) (by omega)) rfl ?_
           refine d_take (i := 6) rfl (by kernel_rfl) (fun _ _ _ h => h) (H.sub (.cons _ (.cons_cons _ .slnil))) (fun _ HS => r_load1 Try.isAgg5 rfl (HS.rd0 hb) (bs_getE _ bs _ 8 hp (by omega) (by omega))) rfl ?_
           have hlt := (bs.getD 8 0).toNat_lt
           refine d_take (i := 7) rfl (by kernel_rfl) (fun _ _ _ h => h) (H.sub (.cons _ (.cons_cons _ .slnil))) (fun _ _ => r_conv Try.runUnderlying5 Try.runUnderlying3 rfl (w_i64 (by omega) (by omega))) rfl ?_
           refine d_take (i := 8) rfl (by kernel_rfl) (fun _ _ _ h => h) (H.sub (.cons _ (.cons_cons _ .slnil))) (fun _ _ => r_move rfl) rfl ?_
           refine d_take (i := 9) rfl (by kernel_rfl) (fun _ _ _ h => h) (H.sub (.cons _ (.cons_cons _ .slnil))) (fun _ _ => r_sliceLH (lo := 9) (hi := 11) Try.runUnderlying25 Try.sizeOf5 rfl rfl rfl rfl rfl (by omega) (by omega)) rfl ?_
           refine d_all1 (i := 10) (by kernel_rfl) ?_
           refine b_call rfl go_none (r_call Try.call42 (ec rfl en)) (get12_l _ _ _ ((bs.drop 9).take 2) (by rw [List.length_take, List.length_drop]; omega) (by rw [List.length_take]; omega) _ ((hr.cut (lo := 9) (n := 2) (by omega) (by omega)).st (H.sub (List.nil_sublist _)))) rfl ?_
           rintro v w ⟨rfl, HC⟩
           replace H := H.quiet HC
           refine ⟨(H.sub (.cons _ (.cons_cons _ .slnil))), ?_⟩
           refine d_take (i := 11) rfl (by kernel_rfl) (fun _ _ _ h => h) (H.sub (.cons _ (.cons_cons _ .slnil))) (fun _ _ => r_conv Try.runUnderlying24 Try.runUnderlying3 rfl (w_i64 (by omega) (by omega))) rfl ?_
           refine d_take (i := 12) rfl (by kernel_rfl) (fun _ _ _ h => h) (H.sub (.cons _ (.cons_cons _ .slnil))) (fun _ _ => r_buildS Try.runUnderlying38 Try.zeroValue38 places38 (pc rfl (pc rfl (pc rfl pn))) (rfl : fillL _ _ _ = some (plV ((bs.getD 7 0).toNat : Int) ((bs.getD 8 0).toNat : Int) (getN ((bs.drop 9).take 2))))) rfl ?_
           refine d_take (i := 13) rfl (by kernel_rfl) (fun _ _ _ h => h) (H.sub (.cons _ (.cons_cons _ .slnil))) (fun _ _ => r_fieldAddr (k := 3) Try.runUnderlying40 rfl Try.sizeOf38 (by decide) rfl rfl) rfl ?_
           refine d_all1 (i := 14) (by kernel_rfl) ?_
           refine b_st rfl go_none (m_storen H 0 3 Try.sizeOf38 rfl rfl (by first | exact (kC_length _) | exact (hC_length _) | exact (ceC_length _) | exact (ptC_length _ _ _ _) | exact (plV_length _ _ _) | exact (elFr.len _) | exact (frC_length _) | exact (fdV_length _ _ _)) (by first | exact (kC_one _) | exact (hC_one _) | exact (ceC_one _) | exact (ptC_one _ _ _ _) | exact (plV_one _ _ _) | exact (elFr.one _) | exact (frC_one _) | exact (fdV_one _ _ _)) rfl (by show 3 + 3 ≤ 11; omega) (rfl : _ = ceC (⟨k, gt bs 1 2, gt bs 3 4, ((bs.getD 7 0).toNat : Int), ((bs.getD 8 0).toNat : Int), getN ((bs.drop 9).take 2), 0, 0, 0, 0, bdZ⟩ : Ce))) (L' := [_,_]) rfl rfl (fun _ H => (H.sub (.cons _ (.cons_cons _ .slnil)))) ?_
           intro w H
           have hce : ceC (⟨k, gt bs 1 2, gt bs 3 4, ((bs.getD 7 0).toNat : Int), ((bs.getD 8 0).toNat : Int), getN ((bs.drop 9).take 2), 0, 0, 0, 0, bdZ⟩ : Ce) = ceC (⟨k, gt bs 1 2, gt bs 3 4, gI (kPl k) bs 7 1, gI (kPl k) bs 8 1, gI (kPl k) bs 9 2, 0, 0, 0, 0, bdZ⟩ : Ce) := by rw [gI_one h65 (by omega), gI_one h65 (by omega), gI_yes h65]
           rw [hce] at H
           refine d_done (l' := [_,_,_,_,_,_,_,_,_,_,_,_,_,_,_,_,_,_,_,_,_,_,_,_,_,_,_,_,_,_,_,_,_,_,_,_,_,_,_,_,_,_,_,_,_,_,_,_,_,_,_,_,_,_,_,_,_,_,_,_,_,_,_,_,_,_,_,_,_,_,_,_,_,_,_,_,_,_,_,_,_,_,_,_,_,_,_,_,_,_,_,_,_,_,_,_,_,_,_,_,_,_,_,_,_,_,_,_,_,_,_,_,_,_,_,_,_,_,_,_,_,_,_,_,_,_,_,_,_,_,_,_,_,_,_,_,_,_,_,_,_,_,_,_,_,_,_,_,_,_]) (by kernel_rfl) rfl ?_
           refine x_thenNormal ?_
           refine c_region (n := 150) ⟨rfl, rfl⟩ ?_
           refine s_val (r_assign rfl) ?_
           refine c_nil0 (l' := [_,_,_,_,_,_,_,_,_,_,_,_,_,_,_,_,_,_,_,_,_,_,_,_,_,_,_,_,_,_,_,_,_,_,_,_,_,_,_,_,_,_,_,_,_,_,_,_,_,_,_,_,_,_,_,_,_,_,_,_,_,_,_,_,_,_,_,_,_,_,_,_,_,_,_,_,_,_,_,_,_,_,_,_,_,_,_,_,_,_,_,_,_,_,_,_,_,_,_,_,_,_,_,_,_,_,_,_,_,_,_,_,_,_,_,_,_,_,_,_,_,_,_,_,_,_,_,_,_,_,_,_,_,_,_,_,_,_,_,_,_,_,_,_,_,_,_,_,_,_]) rfl ?_
           exact ⟨_, rfl, ⟨_,_,_,_,_,_,_,_,_,_,_,_,_,_,_,_, rfl, (by rw [hm2, cn_yes h65]; rfl), H⟩⟩
          ·skip
           have hce : ceC (⟨k, gt bs 1 2, gt bs 3 4, 0, 0, 0, 0, 0, 0, 0, bdZ⟩ : Ce) = ceC (⟨k, gt bs 1 2, gt bs 3 4, gI (kPl k) bs 7 1, gI (kPl k) bs 8 1, gI (kPl k) bs 9 2, 0, 0, 0, 0, bdZ⟩ : Ce) := by rw [gI_no h65, gI_no h65, gI_no h65]
           rw [hce] at H
           refine wp_skip ?_
           exact ⟨_, rfl, ⟨_,_,_,_,_,_,_,_,_,_,_,_,_,_,_,_, rfl, (by rw [hm2, cn_no h65]; rfl), H⟩⟩
         ·skip
          rintro l w ⟨u65, u66, u67, u68, u69, u70, u71, u72, u73, u74, u75, u76, u77, u78, u79, q2, hl, hq2, H⟩
          obtain rfl := hl.trans (rfl : _ = [_,_,_,_,_,_,_,_,_,_,_,_,_,_,_,_,_,_,_,_,_,_,_,_,_,_,_,_,_,_,_,_,_,_,_,_,_,_,_,_,_,_,_,_,_,_,_,_,_,_,_,_,_,_,_,_,_,_,_,_,_,_,_,_,_,_,_,_,_,_,_,_,_,_,_,_,_,_,_,_,_,_,_,_,_,_,_,_,_,_,_,_,_,_,_,_,_,_,_,_,_,_,_,_,_,_,_,_,_,_,_,_,_,_,_,_,_,_,_,_,_,_,_,_,_,_,_,_,_,_,_,_,_,_,_,_,_,_,_,_,_,_,_,_,_,_,_,_,_,_])
          clear hl
          subst hq2
          refine c_cut (fun (l0 : List Value) (l : List Value) (w : World) => ∃ (u80 u81 u82 u83 u84 u85 u86 u87 u88 u89 : Value) (q3 : Int), l = ovr l0 [N_, N_, N_, N_, N_, N_, N_, N_, N_, N_, N_, Y_ (.int .i64 q3), N_, N_, N_, N_, N_, N_, N_, N_, N_, N_, N_, N_, N_, N_, N_, N_, N_, N_, N_, N_, N_, N_, N_, N_, N_, N_, N_, N_, N_, N_, N_, N_, N_, N_, N_, N_, N_, N_, N_, N_, N_, N_, N_, N_, N_, N_, N_, N_, N_, N_, N_, N_, N_, N_, N_, N_, N_, N_, N_, N_, N_, N_, N_, N_, N_, N_, N_, N_, Y_ u80, Y_ u81, Y_ u82, Y_ u83, Y_ u84, Y_ u85, Y_ u86, Y_ u87, Y_ u88, Y_ u89] ∧ q3 = (m3 : Int) ∧ St w0 [] w [(b5, .cells (ceC (⟨k, gt bs 1 2, gt bs 3 4, gI (kPl k) bs 7 1, gI (kPl k) bs 8 1, gI (kPl k) bs 9 2, gI (kRf k) bs m2 2, 0, 0, 0, bdZ⟩ : Ce)).toArray 40 (0, 0)), (b2, .cells (ceC ce0).toArray 40 (0, 0))]) ?_ ?_
          ·skip
           refine c_rseq (n := 150) ⟨rfl, rfl⟩ ?_
           refine s_val (r_move rfl) ?_
           refine c_nil (l' := [_,_,_,_,_,_,_,_,_,_,_,_,_,_,_,_,_,_,_,_,_,_,_,_,_,_,_,_,_,_,_,_,_,_,_,_,_,_,_,_,_,_,_,_,_,_,_,_,_,_,_,_,_,_,_,_,_,_,_,_,_,_,_,_,_,_,_,_,_,_,_,_,_,_,_,_,_,_,_,_,_,_,_,_,_,_,_,_,_,_,_,_,_,_,_,_,_,_,_,_,_,_,_,_,_,_,_,_,_,_,_,_,_,_,_,_,_,_,_,_,_,_,_,_,_,_,_,_,_,_,_,_,_,_,_,_,_,_,_,_,_,_,_,_,_,_,_,_,_,_]) rfl ?_
           refine c_ifb rfl (fun h80 => ?_) (fun h80 => ?_)
           ·skip
            have hc2 := cn_yes h80 2
            have g22 := take_rng (bs.drop m2) (n := 2) (by omega)
            refine c_rseq (n := 150) ⟨rfl, rfl⟩ ?_
            refine s_val (r_move rfl) ?_
            refine s_val (r_move rfl) ?_
            refine s_val (r_move rfl) ?_
            refine s_val (r_add rfl rfl (w_i64 (by omega) (by omega))) ?_
            refine s_val (r_sliceLH (lo := m2) (hi := m2 + 2) Try.runUnderlying25 Try.sizeOf5 rfl rfl rfl rfl rfl (by omega) (by omega)) ?_
            refine s_call (r_call Try.call42 (ec rfl en)) (get12_l _ _ _ ((bs.drop m2).take 2) (by rw [List.length_take, List.length_drop]; omega) (by rw [List.length_take]; omega) _ ((hr.cut (lo := m2) (n := 2) (by omega) (by omega)).st (H.sub (List.nil_sublist _)))) ?_
            rintro v w ⟨rfl, HC⟩
            replace H := H.quiet HC
            refine s_val (r_fieldAddr (k := 6) Try.runUnderlying40 rfl Try.sizeOf24 (by decide) rfl rfl) ?_
            refine s_st (m_store1 H 0 Try.sizeOf24 rfl rfl rfl rfl (by show 6 < 11; omega) (rfl : _ = ceC (⟨k, gt bs 1 2, gt bs 3 4, gI (kPl k) bs 7 1, gI (kPl k) bs 8 1, gI (kPl k) bs 9 2, getN ((bs.drop m2).take 2), 0, 0, 0, bdZ⟩ : Ce))) (L' := [_,_]) rfl ?_
            intro w H
            have hce : ceC (⟨k, gt bs 1 2, gt bs 3 4, gI (kPl k) bs 7 1, gI (kPl k) bs 8 1, gI (kPl k) bs 9 2, getN ((bs.drop m2).take 2), 0, 0, 0, bdZ⟩ : Ce) = ceC (⟨k, gt bs 1 2, gt bs 3 4, gI (kPl k) bs 7 1, gI (kPl k) bs 8 1, gI (kPl k) bs 9 2, gI (kRf k) bs m2 2, 0, 0, 0, bdZ⟩ : Ce) := by rw [gI_yes h80]
            rw [hce] at H
            refine c_nil (l' := [_,_,_,_,_,_,_,_,_,_,_,_,_,_,_,_,_,_,_,_,_,_,_,_,_,_,_,_,_,_,_,_,_,_,_,_,_,_,_,_,_,_,_,_,_,_,_,_,_,_,_,_,_,_,_,_,_,_,_,_,_,_,_,_,_,_,_,_,_,_,_,_,_,_,_,_,_,_,_,_,_,_,_,_,_,_,_,_,_,_,_,_,_,_,_,_,_,_,_,_,_,_,_,_,_,_,_,_,_,_,_,_,_,_,_,_,_,_,_,_,_,_,_,_,_,_,_,_,_,_,_,_,_,_,_,_,_,_,_,_,_,_,_,_,_,_,_,_,_,_]) rfl ?_
            refine c_region (n := 150) ⟨rfl, rfl⟩ ?_
            refine s_val (r_move rfl) ?_
            refine s_val (r_add rfl rfl (w_i64 (by omega) (by omega))) ?_
            refine s_val (r_assign rfl) ?_
            refine c_nil0 (l' := [_,_,_,_,_,_,_,_,_,_,_,_,_,_,_,_,_,_,_,_,_,_,_,_,_,_,_,_,_,_,_,_,_,_,_,_,_,_,_,_,_,_,_,_,_,_,_,_,_,_,_,_,_,_,_,_,_,_,_,_,_,_,_,_,_,_,_,_,_,_,_,_,_,_,_,_,_,_,_,_,_,_,_,_,_,_,_,_,_,_,_,_,_,_,_,_,_,_,_,_,_,_,_,_,_,_,_,_,_,_,_,_,_,_,_,_,_,_,_,_,_,_,_,_,_,_,_,_,_,_,_,_,_,_,_,_,_,_,_,_,_,_,_,_,_,_,_,_,_,_]) rfl ?_
            exact ⟨_, rfl, ⟨_,_,_,_,_,_,_,_,_,_,_, rfl, (by rw [hm3, cn_yes h80]; rfl), H⟩⟩
           ·skip
            have hce : ceC (⟨k, gt bs 1 2, gt bs 3 4, gI (kPl k) bs 7 1, gI (kPl k) bs 8 1, gI (kPl k) bs 9 2, 0, 0, 0, 0, bdZ⟩ : Ce) = ceC (⟨k, gt bs 1 2, gt bs 3 4, gI (kPl k) bs 7 1, gI (kPl k) bs 8 1, gI (kPl k) bs 9 2, gI (kRf k) bs m2 2, 0, 0, 0, bdZ⟩ : Ce) := by rw [gI_no h80]
            rw [hce] at H
            refine wp_skip ?_
            exact ⟨_, rfl, ⟨_,_,_,_,_,_,_,_,_,_,_, rfl, (by rw [hm3, cn_no h80]; rfl), H⟩⟩
          ·skip
           rintro l w ⟨u80, u81, u82, u83, u84, u85, u86, u87, u88, u89, q3, hl, hq3, H⟩
           obtain rfl := hl.trans (rfl : _ = [_,_,_,_,_,_,_,_,_,_,_,_,_,_,_,_,_,_,_,_,_,_,_,_,_,_,_,_,_,_,_,_,_,_,_,_,_,_,_,_,_,_,_,_,_,_,_,_,_,_,_,_,_,_,_,_,_,_,_,_,_,_,_,_,_,_,_,_,_,_,_,_,_,_,_,_,_,_,_,_,_,_,_,_,_,_,_,_,_,_,_,_,_,_,_,_,_,_,_,_,_,_,_,_,_,_,_,_,_,_,_,_,_,_,_,_,_,_,_,_,_,_,_,_,_,_,_,_,_,_,_,_,_,_,_,_,_,_,_,_,_,_,_,_,_,_,_,_,_,_])
           clear hl
           subst hq3
           refine c_cut (fun (l0 : List Value) (l : List Value) (w : World) => ∃ (u90 u91 u92 u93 u94 u95 u96 u97 u98 u99 u100 u101 u102 u103 u104 u105 u106 u107 u108 u109 u110 u111 u112 u113 u114 u115 u116 u117 u118 : Value) (q4 : Int), l = ovr l0 [N_, N_, N_, N_, N_, N_, N_, N_, N_, N_, N_, Y_ (.int .i64 q4), N_, N_, N_, N_, N_, N_, N_, N_, N_, N_, N_, N_, N_, N_, N_, N_, N_, N_, N_, N_, N_, N_, N_, N_, N_, N_, N_, N_, N_, N_, N_, N_, N_, N_, N_, N_, N_, N_, N_, N_, N_, N_, N_, N_, N_, N_, N_, N_, N_, N_, N_, N_, N_, N_, N_, N_, N_, N_, N_, N_, N_, N_, N_, N_, N_, N_, N_, N_, N_, N_, N_, N_, N_, N_, N_, N_, N_, N_, Y_ u90, Y_ u91, Y_ u92, Y_ u93, Y_ u94, Y_ u95, Y_ u96, Y_ u97, Y_ u98, Y_ u99, Y_ u100, Y_ u101, Y_ u102, Y_ u103, Y_ u104, Y_ u105, Y_ u106, Y_ u107, Y_ u108, Y_ u109, Y_ u110, Y_ u111, Y_ u112, Y_ u113, Y_ u114, Y_ u115, Y_ u116, Y_ u117, Y_ u118] ∧ q4 = (m4 : Int) ∧ St w0 [] w [(b5, .cells (ceC (⟨k, gt bs 1 2, gt bs 3 4, gI (kPl k) bs 7 1, gI (kPl k) bs 8 1, gI (kPl k) bs 9 2, gI (kRf k) bs m2 2, gI (kMi k) bs m3 4, gI (kMi k) bs (m3 + 4) 4, gI (kMi k) bs (m3 + 8) 4, bdZ⟩ : Ce)).toArray 40 (0, 0)), (b2, .cells (ceC ce0).toArray 40 (0, 0))]) ?_ ?_
           ·skip
            refine c_rseq (n := 150) ⟨rfl, rfl⟩ ?_
            refine s_val (r_move rfl) ?_
            refine c_nil (l' := [_,_,_,_,_,_,_,_,_,_,_,_,_,_,_,_,_,_,_,_,_,_,_,_,_,_,_,_,_,_,_,_,_,_,_,_,_,_,_,_,_,_,_,_,_,_,_,_,_,_,_,_,_,_,_,_,_,_,_,_,_,_,_,_,_,_,_,_,_,_,_,_,_,_,_,_,_,_,_,_,_,_,_,_,_,_,_,_,_,_,_,_,_,_,_,_,_,_,_,_,_,_,_,_,_,_,_,_,_,_,_,_,_,_,_,_,_,_,_,_,_,_,_,_,_,_,_,_,_,_,_,_,_,_,_,_,_,_,_,_,_,_,_,_,_,_,_,_,_,_]) rfl ?_
            refine c_ifb rfl (fun h90 => ?_) (fun h90 => ?_)
            ·skip
             have hc12 := cn_yes h90 12
             have g30 := take_rng (bs.drop m3) (n := 4) (by omega)
             have g31 := take_rng (bs.drop (m3 + 4)) (n := 4) (by omega)
             have g32 := take_rng (bs.drop (m3 + 8)) (n := 4) (by omega)
             refine c_seq ?_
             refine d_begin (sz := 150) ⟨rfl, rfl⟩ (by kernel_rfl) H (H.sub (.cons _ (.cons_cons _ .slnil))) rfl ?_
             intro w H
             refine d_take (i := 0) rfl (by kernel_rfl) (fun _ _ _ h => h) (H.sub (.cons _ (.cons_cons _ .slnil))) (fun _ _ => r_move rfl) rfl ?_
             refine d_take (i := 1) rfl (by kernel_rfl) (fun _ _ _ h => h) (H.sub (.cons _ (.cons_cons _ .slnil))) (fun _ _ => r_move rfl) rfl ?_
             refine d_take (i := 2) rfl (by kernel_rfl) (fun _ _ _ h => h) (H.sub (.cons _ (.cons_cons _ .slnil))) (fun _ _ => r_move rfl) rfl ?_
             refine d_take (i := 3) rfl (by kernel_rfl) (fun _ _ _ h => h) (H.sub (.cons _ (.cons_cons _ .slnil))) (fun _ _ => r_add rfl rfl (w_i64 (by omega) (by omega))) rfl ?_
             refine d_take (i := 4) rfl (by kernel_rfl) (fun _ _ _ h => h) (H.sub (.cons _ (.cons_cons _ .slnil))) (fun _ _ => r_sliceLH (lo := m3) (hi := m3 + 4) Try.runUnderlying25 Try.sizeOf5 rfl rfl rfl rfl rfl (by omega) (by omega)) rfl ?_
             refine d_take (i := 7) rfl (by kernel_rfl) (fun _ _ _ h => h) (H.sub (.cons _ (.cons_cons _ .slnil))) (fun _ _ => r_move rfl) rfl ?_
             refine d_take (i := 8) rfl (by kernel_rfl) (fun _ _ _ h => h) (H.sub (.cons _ (.cons_cons _ .slnil))) (fun _ _ => r_move rfl) rfl ?_
             refine d_take (i := 9) rfl (by kernel_rfl) (fun _ _ _ h => h) (H.sub (.cons _ (.cons_cons _ .slnil))) (fun _ _ => r_add rfl rfl (w_i64 (by omega) (by omega))) rfl ?_
             refine d_take (i := 10) rfl (by kernel_rfl) (fun _ _ _ h => h) (H.sub (.cons _ (.cons_cons _ .slnil))) (fun _ _ => r_move rfl) rfl ?_
             refine d_take (i := 11) rfl (by kernel_rfl) (fun _ _ _ h => h) (H.sub (.cons _ (.cons_cons _ .slnil))) (fun _ _ => r_add rfl rfl (w_i64 (by omega) (by omega))) rfl ?_
             refine d_take (i := 12) rfl (by kernel_rfl) (fun _ _ _ h => h) (H.sub (.cons _ (.cons_cons _ .slnil))) (fun _ _ => r_sliceLH (lo := m3 + 4) (hi := m3 + 8) Try.runUnderlying25 Try.sizeOf5 rfl rfl rfl rfl rfl (by omega) (by omega)) rfl ?_
             refine d_take (i := 15) rfl (by kernel_rfl) (fun _ _ _ h => h) (H.sub (.cons _ (.cons_cons _ .slnil))) (fun _ _ => r_move rfl) rfl ?_
             refine d_take (i := 16) rfl (by kernel_rfl) (fun _ _ _ h => h) (H.sub (.cons _ (.cons_cons _ .slnil))) (fun _ _ => r_move rfl) rfl ?_
             refine d_take (i := 17) rfl (by kernel_rfl) (fun _ _ _ h => h) (H.sub (.cons _ (.cons_cons _ .slnil))) (fun _ _ => r_add rfl rfl (w_i64 (by omega) (by omega))) rfl ?_
             refine d_take (i := 18) rfl (by kernel_rfl) (fun _ _ _ h => h) (H.sub (.cons _ (.cons_cons _ .slnil))) (fun _ _ => r_move rfl) rfl ?_
             refine d_take (i := 19) rfl (by kernel_rfl) (fun _ _ _ h => h) (H.sub (.cons _ (.cons_cons _ .slnil))) (fun _ _ => r_add rfl rfl (w_i64 (by omega) (by omega))) rfl ?_
             refine d_take (i := 20) rfl (by kernel_rfl) (fun _ _ _ h => h) (H.sub (.cons _ (.cons_cons _ .slnil))) (fun _ _ => r_sliceLH (lo := m3 + 8) (hi := m3 + 12) Try.runUnderlying25 Try.sizeOf5 rfl rfl rfl rfl rfl (by omega) (by omega)) rfl ?_
             refine d_all1 (i := 5) (by kernel_rfl) ?_
             refine b_call rfl go_none (r_call Try.call42 (ec rfl en)) (get12_l _ _ _ ((bs.drop m3).take 4) (by rw [List.length_take, List.length_drop]; omega) (by rw [List.length_take]; omega) _ ((hr.cut (lo := m3) (n := 4) (by omega) (by omega)).st (H.sub (List.nil_sublist _)))) rfl ?_
             rintro v w ⟨rfl, HC⟩
             replace H := H.quiet HC
             refine ⟨(H.sub (.cons _ (.cons_cons _ .slnil))), ?_⟩
             refine d_take (i := 6) rfl (by kernel_rfl) (fun _ _ _ h => h) (H.sub (.cons _ (.cons_cons _ .slnil))) (fun _ _ => r_conv Try.runUnderlying24 Try.runUnderlying3 rfl (w_i64 (by omega) (by omega))) rfl ?_
             refine d_take (i := 23) rfl (by kernel_rfl) (fun _ _ _ h => h) (H.sub (.cons _ (.cons_cons _ .slnil))) (fun _ _ => r_fieldAddr (k := 7) Try.runUnderlying40 rfl Try.sizeOf3 (by decide) rfl rfl) rfl ?_
             refine d_all1 (i := 13) (by kernel_rfl) ?_
             refine b_call rfl go_none (r_call Try.call42 (ec rfl en)) (get12_l _ _ _ ((bs.drop (m3 + 4)).take 4) (by rw [List.length_take, List.length_drop]; omega) (by rw [List.length_take]; omega) _ ((hr.cut (lo := (m3 + 4)) (n := 4) (by omega) (by omega)).st (H.sub (List.nil_sublist _)))) rfl ?_
             rintro v w ⟨rfl, HC⟩
             replace H := H.quiet HC
             refine ⟨(H.sub (.cons _ (.cons_cons _ .slnil))), ?_⟩
             refine d_take (i := 14) rfl (by kernel_rfl) (fun _ _ _ h => h) (H.sub (.cons _ (.cons_cons _ .slnil))) (fun _ _ => r_conv Try.runUnderlying24 Try.runUnderlying3 rfl (w_i64 (by omega) (by omega))) rfl ?_
             refine d_all1 (i := 21) (by kernel_rfl) ?_
             refine b_call rfl go_none (r_call Try.call42 (ec rfl en)) (get12_l _ _ _ ((bs.drop (m3 + 8)).take 4) (by rw [List.length_take, List.length_drop]; omega) (by rw [List.length_take]; omega) _ ((hr.cut (lo := (m3 + 8)) (n := 4) (by omega) (by omega)).st (H.sub (List.nil_sublist _)))) rfl ?_
             rintro v w ⟨rfl, HC⟩
             replace H := H.quiet HC
             refine ⟨(H.sub (.cons _ (.cons_cons _ .slnil))), ?_⟩
             refine d_take (i := 22) rfl (by kernel_rfl) (fun _ _ _ h => h) (H.sub (.cons _ (.cons_cons _ .slnil))) (fun _ _ => r_conv Try.runUnderlying24 Try.runUnderlying3 rfl (w_i64 (by omega) (by omega))) rfl ?_
             refine d_all1 (i := 24) (by kernel_rfl) ?_
             refine b_st rfl go_none (m_store1 H 0 Try.sizeOf3 rfl rfl rfl rfl (by show 7 < 11; omega) rfl) (L' := [_,_]) rfl rfl (fun _ H => (H.sub (.cons _ (.cons_cons _ .slnil)))) ?_
             intro w H
             refine d_take (i := 25) rfl (by kernel_rfl) (fun _ _ _ h => h) (H.sub (.cons _ (.cons_cons _ .slnil))) (fun _ _ => r_fieldAddr (k := 8) Try.runUnderlying40 rfl Try.sizeOf3 (by decide) rfl rfl) rfl ?_
             refine d_all1 (i := 26) (by kernel_rfl) ?_
             refine b_st rfl go_none (m_store1 H 0 Try.sizeOf3 rfl rfl rfl rfl (by show 8 < 11; omega) rfl) (L' := [_,_]) rfl rfl (fun _ H => (H.sub (.cons _ (.cons_cons _ .slnil)))) ?_
             intro w H
             refine d_take (i := 27) rfl (by kernel_rfl) (fun _ _ _ h => h) (H.sub (.cons _ (.cons_cons _ .slnil))) (fun _ _ => r_fieldAddr (k := 9) Try.runUnderlying40 rfl Try.sizeOf3 (by decide) rfl rfl) rfl ?_
             refine d_all1 (i := 28) (by kernel_rfl) ?_
             refine b_st rfl go_none (m_store1 H 0 Try.sizeOf3 rfl rfl rfl rfl (by show 9 < 11; omega) (rfl : _ = ceC (⟨k, gt bs 1 2, gt bs 3 4, gI (kPl k) bs 7 1, gI (kPl k) bs 8 1, gI (kPl k) bs 9 2, gI (kRf k) bs m2 2, getN ((bs.drop m3).take 4), getN ((bs.drop (m3 + 4)).take 4), getN ((bs.drop (m3 + 8)).take 4), bdZ⟩ : Ce))) (L' := [_,_]) rfl rfl (fun _ H => (H.sub (.cons _ (.cons_cons _ .slnil)))) ?_
             intro w H
             have hce : ceC (⟨k, gt bs 1 2, gt bs 3 4, gI (kPl k) bs 7 1, gI (kPl k) bs 8 1, gI (kPl k) bs 9 2, gI (kRf k) bs m2 2, getN ((bs.drop m3).take 4), getN ((bs.drop (m3 + 4)).take 4), getN ((bs.drop (m3 + 8)).take 4), bdZ⟩ : Ce) = ceC (⟨k, gt bs 1 2, gt bs 3 4, gI (kPl k) bs 7 1, gI (kPl k) bs 8 1, gI (kPl k) bs 9 2, gI (kRf k) bs m2 2, gI (kMi k) bs m3 4, gI (kMi k) bs (m3 + 4) 4, gI (kMi k) bs (m3 + 8) 4, bdZ⟩ : Ce) := by rw [gI_yes h90, gI_yes h90, gI_yes h90]
             rw [hce] at H
             refine d_done (l' := [_,_,_,_,_,_,_,_,_,_,_,_,_,_,_,_,_,_,_,_,_,_,_,_,_,_,_,_,_,_,_,_,_,_,_,_,_,_,_,_,_,_,_,_,_,_,_,_,_,_,_,_,_,_,_,_,_,_,_,_,_,_,_,_,_,_,_,_,_,_,_,_,_,_,_,_,_,_,_,_,_,_,_,_,_,_,_,_,_,_,_,_,_,_,_,_,_,_,_,_,_,_,_,_,_,_,_,_,_,_,_,_,_,_,_,_,_,_,_,_,_,_,_,_,_,_,_,_,_,_,_,_,_,_,_,_,_,_,_,_,_,_,_,_,_,_,_,_,_,_]) (by kernel_rfl) rfl ?_
             refine x_thenNormal ?_
             refine c_region (n := 150) ⟨rfl, rfl⟩ ?_
             refine s_val (r_move rfl) ?_
             refine s_val (r_add rfl rfl (w_i64 (by omega) (by omega))) ?_
             refine s_val (r_assign rfl) ?_
             refine c_nil0 (l' := [_,_,_,_,_,_,_,_,_,_,_,_,_,_,_,_,_,_,_,_,_,_,_,_,_,_,_,_,_,_,_,_,_,_,_,_,_,_,_,_,_,_,_,_,_,_,_,_,_,_,_,_,_,_,_,_,_,_,_,_,_,_,_,_,_,_,_,_,_,_,_,_,_,_,_,_,_,_,_,_,_,_,_,_,_,_,_,_,_,_,_,_,_,_,_,_,_,_,_,_,_,_,_,_,_,_,_,_,_,_,_,_,_,_,_,_,_,_,_,_,_,_,_,_,_,_,_,_,_,_,_,_,_,_,_,_,_,_,_,_,_,_,_,_,_,_,_,_,_,_]) rfl ?_
             exact ⟨_, rfl, ⟨_,_,_,_,_,_,_,_,_,_,_,_,_,_,_,_,_,_,_,_,_,_,_,_,_,_,_,_,_,_, rfl, (by rw [hm4, cn_yes h90]; rfl), H⟩⟩
            ·skip
             have hce : ceC (⟨k, gt bs 1 2, gt bs 3 4, gI (kPl k) bs 7 1, gI (kPl k) bs 8 1, gI (kPl k) bs 9 2, gI (kRf k) bs m2 2, 0, 0, 0, bdZ⟩ : Ce) = ceC (⟨k, gt bs 1 2, gt bs 3 4, gI (kPl k) bs 7 1, gI (kPl k) bs 8 1, gI (kPl k) bs 9 2, gI (kRf k) bs m2 2, gI (kMi k) bs m3 4, gI (kMi k) bs (m3 + 4) 4, gI (kMi k) bs (m3 + 8) 4, bdZ⟩ : Ce) := by rw [gI_no h90, gI_no h90, gI_no h90]
             rw [hce] at H
             refine wp_skip ?_
             exact ⟨_, rfl, ⟨_,_,_,_,_,_,_,_,_,_,_,_,_,_,_,_,_,_,_,_,_,_,_,_,_,_,_,_,_,_, rfl, (by rw [hm4, cn_no h90]; rfl), H⟩⟩
           ·skip
            rintro l w ⟨u90, u91, u92, u93, u94, u95, u96, u97, u98, u99, u100, u101, u102, u103, u104, u105, u106, u107, u108, u109, u110, u111, u112, u113, u114, u115, u116, u117, u118, q4, hl, hq4, H⟩
            obtain rfl := hl.trans (rfl : _ = [_,_,_,_,_,_,_,_,_,_,_,_,_,_,_,_,_,_,_,_,_,_,_,_,_,_,_,_,_,_,_,_,_,_,_,_,_,_,_,_,_,_,_,_,_,_,_,_,_,_,_,_,_,_,_,_,_,_,_,_,_,_,_,_,_,_,_,_,_,_,_,_,_,_,_,_,_,_,_,_,_,_,_,_,_,_,_,_,_,_,_,_,_,_,_,_,_,_,_,_,_,_,_,_,_,_,_,_,_,_,_,_,_,_,_,_,_,_,_,_,_,_,_,_,_,_,_,_,_,_,_,_,_,_,_,_,_,_,_,_,_,_,_,_,_,_,_,_,_,_])
            clear hl
            subst hq4
            refine c_cut (fun (l0 : List Value) (l : List Value) (w : World) => ∃ (u3 u4 u12 u119 u120 u121 u122 u123 u124 u125 u126 u127 u128 u129 u130 u131 u132 u133 u134 u135 u136 u137 u138 u139 u140 u141 u142 u143 : Value) (q : Int) (nq : Nat) (bd : Bd), l = ovr l0 [N_, N_, N_, Y_ u3, Y_ u4, N_, N_, N_, N_, N_, N_, Y_ (.int .i64 q), Y_ u12, N_, N_, N_, N_, N_, N_, N_, N_, N_, N_, N_, N_, N_, N_, N_, N_, N_, N_, N_, N_, N_, N_, N_, N_, N_, N_, N_, N_, N_, N_, N_, N_, N_, N_, N_, N_, N_, N_, N_, N_, N_, N_, N_, N_, N_, N_, N_, N_, N_, N_, N_, N_, N_, N_, N_, N_, N_, N_, N_, N_, N_, N_, N_, N_, N_, N_, N_, N_, N_, N_, N_, N_, N_, N_, N_, N_, N_, N_, N_, N_, N_, N_, N_, N_, N_, N_, N_, N_, N_, N_, N_, N_, N_, N_, N_, N_, N_, N_, N_, N_, N_, N_, N_, N_, N_, N_, Y_ u119, Y_ u120, Y_ u121, Y_ u122, Y_ u123, Y_ u124, Y_ u125, Y_ u126, Y_ u127, Y_ u128, Y_ u129, Y_ u130, Y_ u131, Y_ u132, Y_ u133, Y_ u134, Y_ u135, Y_ u136, Y_ u137, Y_ u138, Y_ u139, Y_ u140, Y_ u141, Y_ u142, Y_ u143] ∧ q = (nq : Int) ∧ nq ≤ bs.length ∧ (∀ W, BRow W (some ⟨bb, off, none⟩) bs → BRow W bd.a bd.b) ∧ cellF bs = (ceP (⟨k, gt bs 1 2, gt bs 3 4, gI (kPl k) bs 7 1, gI (kPl k) bs 8 1, gI (kPl k) bs 9 2, gI (kRf k) bs m2 2, gI (kMi k) bs m3 4, gI (kMi k) bs (m3 + 4) 4, gI (kMi k) bs (m3 + 8) 4, bd⟩ : Ce), (bs.drop nq, false)) ∧ St w0 [] w [(b5, .cells (ceC (⟨k, gt bs 1 2, gt bs 3 4, gI (kPl k) bs 7 1, gI (kPl k) bs 8 1, gI (kPl k) bs 9 2, gI (kRf k) bs m2 2, gI (kMi k) bs m3 4, gI (kMi k) bs (m3 + 4) 4, gI (kMi k) bs (m3 + 8) 4, bd⟩ : Ce)).toArray 40 (0, 0)), (b2, .cells (ceC ce0).toArray 40 (0, 0))]) ?_ ?_
            ·skip
             refine c_rseq (n := 150) ⟨rfl, rfl⟩ ?_
             refine s_val (r_move rfl) ?_
             refine c_nil (l' := [_,_,_,_,_,_,_,_,_,_,_,_,_,_,_,_,_,_,_,_,_,_,_,_,_,_,_,_,_,_,_,_,_,_,_,_,_,_,_,_,_,_,_,_,_,_,_,_,_,_,_,_,_,_,_,_,_,_,_,_,_,_,_,_,_,_,_,_,_,_,_,_,_,_,_,_,_,_,_,_,_,_,_,_,_,_,_,_,_,_,_,_,_,_,_,_,_,_,_,_,_,_,_,_,_,_,_,_,_,_,_,_,_,_,_,_,_,_,_,_,_,_,_,_,_,_,_,_,_,_,_,_,_,_,_,_,_,_,_,_,_,_,_,_,_,_,_,_,_,_]) rfl ?_
             refine c_ifb rfl (fun h119 => ?_) (fun h119 => ?_)
             ·skip
              have hc1 := cn_yes h119 1
              refine c_rseq (n := 150) ⟨rfl, rfl⟩ ?_
              refine s_val (r_move rfl) ?_
              refine s_val (r_move rfl) ?_
              refine s_val (r_indexAddrS Try.runUnderlying25 Try.sizeOf5 rfl rfl (by omega) (by omega)) ?_
              refine s_val (r_load1 Try.isAgg5 rfl (H.rd0 hb) (bs_getE _ bs _ m4 hp (by omega) (by omega))) ?_
              have hlt := (bs.getD m4 0).toNat_lt
              refine s_val (r_conv Try.runUnderlying5 Try.runUnderlying3 rfl (w_i64 (by omega) (by omega))) ?_
              obtain ⟨kk, hkk⟩ : ∃ j : Nat, j = (bs.getD m4 0).toNat := ⟨_, rfl⟩
              rw [← hkk] at hlt ⊢
              refine s_val (r_assign rfl) ?_
              refine c_nil (l' := [_,_,_,_,_,_,_,_,_,_,_,_,_,_,_,_,_,_,_,_,_,_,_,_,_,_,_,_,_,_,_,_,_,_,_,_,_,_,_,_,_,_,_,_,_,_,_,_,_,_,_,_,_,_,_,_,_,_,_,_,_,_,_,_,_,_,_,_,_,_,_,_,_,_,_,_,_,_,_,_,_,_,_,_,_,_,_,_,_,_,_,_,_,_,_,_,_,_,_,_,_,_,_,_,_,_,_,_,_,_,_,_,_,_,_,_,_,_,_,_,_,_,_,_,_,_,_,_,_,_,_,_,_,_,_,_,_,_,_,_,_,_,_,_,_,_,_,_,_,_]) rfl ?_
              refine c_rseq (n := 150) ⟨rfl, rfl⟩ ?_
              refine s_val (r_move rfl) ?_
              have hc1 := cn_yes h119 1
              refine s_val (r_add rfl rfl (w_i64 (by omega) (by omega))) ?_
              refine s_val (r_assign rfl) ?_
              refine c_nil (l' := [_,_,_,_,_,_,_,_,_,_,_,_,_,_,_,_,_,_,_,_,_,_,_,_,_,_,_,_,_,_,_,_,_,_,_,_,_,_,_,_,_,_,_,_,_,_,_,_,_,_,_,_,_,_,_,_,_,_,_,_,_,_,_,_,_,_,_,_,_,_,_,_,_,_,_,_,_,_,_,_,_,_,_,_,_,_,_,_,_,_,_,_,_,_,_,_,_,_,_,_,_,_,_,_,_,_,_,_,_,_,_,_,_,_,_,_,_,_,_,_,_,_,_,_,_,_,_,_,_,_,_,_,_,_,_,_,_,_,_,_,_,_,_,_,_,_,_,_,_,_]) rfl ?_
              refine c_seq ?_
              refine c_rseq (n := 150) ⟨rfl, rfl⟩ ?_
              refine s_val (r_move rfl) ?_
              refine s_val (r_lens Try.runUnderlying25 (ec rfl en)) ?_
              refine s_val (r_move rfl) ?_
              refine s_val (r_move rfl) ?_
              refine s_val (r_add rfl rfl (w_i64 (by omega) (by omega))) ?_
              refine s_val (r_lss rfl rfl) ?_
              refine c_nil (l' := [_,_,_,_,_,_,_,_,_,_,_,_,_,_,_,_,_,_,_,_,_,_,_,_,_,_,_,_,_,_,_,_,_,_,_,_,_,_,_,_,_,_,_,_,_,_,_,_,_,_,_,_,_,_,_,_,_,_,_,_,_,_,_,_,_,_,_,_,_,_,_,_,_,_,_,_,_,_,_,_,_,_,_,_,_,_,_,_,_,_,_,_,_,_,_,_,_,_,_,_,_,_,_,_,_,_,_,_,_,_,_,_,_,_,_,_,_,_,_,_,_,_,_,_,_,_,_,_,_,_,_,_,_,_,_,_,_,_,_,_,_,_,_,_,_,_,_,_,_,_]) rfl ?_
              refine c_if rfl (fun h132 => ?_) (fun h132 => ?_)
              ·skip
               refine c_rseq (n := 150) ⟨rfl, rfl⟩ ?_
               refine s_val (r_buildS (zs := ceC ce0) (out := ceC ce0) Try.runUnderlying40 Try.zeroValue40 places40 pn rfl) ?_
               refine s_st (m_storen H 1 11 Try.sizeOf40 rfl rfl (by first | exact (kC_length _) | exact (hC_length _) | exact (ceC_length _) | exact (ptC_length _ _ _ _) | exact (plV_length _ _ _) | exact (elFr.len _) | exact (frC_length _) | exact (fdV_length _ _ _)) (by first | exact (kC_one _) | exact (hC_one _) | exact (ceC_one _) | exact (ptC_one _ _ _ _) | exact (plV_one _ _ _) | exact (elFr.one _) | exact (frC_one _) | exact (fdV_one _ _ _)) rfl (by show 0 + 11 ≤ 11; omega) (ceC_sp _ _)) (L' := [_,_]) rfl ?_
               intro w H
               refine s_val (r_assign rfl) ?_
               refine s_val (r_assign rfl) ?_
               refine c_nil (l' := [_,_,_,_,_,_,_,_,_,_,_,_,_,_,_,_,_,_,_,_,_,_,_,_,_,_,_,_,_,_,_,_,_,_,_,_,_,_,_,_,_,_,_,_,_,_,_,_,_,_,_,_,_,_,_,_,_,_,_,_,_,_,_,_,_,_,_,_,_,_,_,_,_,_,_,_,_,_,_,_,_,_,_,_,_,_,_,_,_,_,_,_,_,_,_,_,_,_,_,_,_,_,_,_,_,_,_,_,_,_,_,_,_,_,_,_,_,_,_,_,_,_,_,_,_,_,_,_,_,_,_,_,_,_,_,_,_,_,_,_,_,_,_,_,_,_,_,_,_,_]) rfl ?_
               refine wp_ret (x_thenRet (x_thenRet ?_))
               refine e_ret (rc_three rfl (rc_celln Try.isAgg40 Try.sizeOf40 rfl (H.at 1 rfl) (by first | exact (kC_td _) | exact (hC_td _) | exact (hC_seed _) | exact (ceC_td _) | exact (ceC_place _) | exact (ptC_td _ _ _ _) | exact (plV_td _ _ _) | exact (frC_td _) | exact (frC_cell _) | exact (fdV_td _ _ _)) (by first | exact (kC_length _) | exact (hC_length _) | exact (ceC_length _) | exact (ptC_length _ _ _ _) | exact (plV_length _ _ _) | exact (elFr.len _) | exact (frC_length _) | exact (fdV_length _ _ _))) (rc_tmp rfl) (rc_tmp rfl)) ⟨_, rfl, ?_⟩
               exact .inr ⟨decF_short hne ((cellF_body hkg hm2 hm3 hm4 hm5 (by omega) h119 hkk).1 (by omega)), _, rfl, by decide, (H.sub (List.nil_sublist _))⟩
              ·skip
               refine wp_skip ?_
               refine x_thenNormal ?_
               refine c_rseq (n := 150) ⟨rfl, rfl⟩ ?_
               refine s_val (r_move rfl) ?_
               refine s_val (r_move rfl) ?_
               refine s_val (r_move rfl) ?_
               refine s_val (r_move rfl) ?_
               refine s_val (r_add rfl rfl (w_i64 (by omega) (by omega))) ?_
               refine s_val (r_sliceLHe (lo := m4 + 1) (hi := m4 + 1 + kk) (n' := ((bs.drop (m4 + 1)).take kk).length) Try.runUnderlying25 Try.sizeOf5 rfl rfl rfl rfl rfl (by omega) (by omega) rfl (by rw [List.length_take, List.length_drop]; omega) rfl) ?_
               refine s_val (r_fieldAddr (k := 10) Try.runUnderlying40 rfl Try.sizeOf25 (by decide) rfl rfl) ?_
               refine s_st (m_store1 H 0 Try.sizeOf25 rfl rfl rfl rfl (by show 10 < 11; omega) (rfl : _ = ceC (⟨k, gt bs 1 2, gt bs 3 4, gI (kPl k) bs 7 1, gI (kPl k) bs 8 1, gI (kPl k) bs 9 2, gI (kRf k) bs m2 2, gI (kMi k) bs m3 4, gI (kMi k) bs (m3 + 4) 4, gI (kMi k) bs (m3 + 8) 4, ⟨cutA (some ⟨bb, off, none⟩) 1 c (m4 + 1), (bs.drop (m4 + 1)).take kk, c - (m4 + 1)⟩⟩ : Ce))) (L' := [_,_]) rfl ?_
               intro w H
               refine c_nil (l' := [_,_,_,_,_,_,_,_,_,_,_,_,_,_,_,_,_,_,_,_,_,_,_,_,_,_,_,_,_,_,_,_,_,_,_,_,_,_,_,_,_,_,_,_,_,_,_,_,_,_,_,_,_,_,_,_,_,_,_,_,_,_,_,_,_,_,_,_,_,_,_,_,_,_,_,_,_,_,_,_,_,_,_,_,_,_,_,_,_,_,_,_,_,_,_,_,_,_,_,_,_,_,_,_,_,_,_,_,_,_,_,_,_,_,_,_,_,_,_,_,_,_,_,_,_,_,_,_,_,_,_,_,_,_,_,_,_,_,_,_,_,_,_,_,_,_,_,_,_,_]) rfl ?_
               refine c_region (n := 150) ⟨rfl, rfl⟩ ?_
               refine s_val (r_move rfl) ?_
               refine s_val (r_move rfl) ?_
               refine s_val (r_add rfl rfl (w_i64 (by omega) (by omega))) ?_
               refine s_val (r_assign rfl) ?_
               refine c_nil0 (l' := [_,_,_,_,_,_,_,_,_,_,_,_,_,_,_,_,_,_,_,_,_,_,_,_,_,_,_,_,_,_,_,_,_,_,_,_,_,_,_,_,_,_,_,_,_,_,_,_,_,_,_,_,_,_,_,_,_,_,_,_,_,_,_,_,_,_,_,_,_,_,_,_,_,_,_,_,_,_,_,_,_,_,_,_,_,_,_,_,_,_,_,_,_,_,_,_,_,_,_,_,_,_,_,_,_,_,_,_,_,_,_,_,_,_,_,_,_,_,_,_,_,_,_,_,_,_,_,_,_,_,_,_,_,_,_,_,_,_,_,_,_,_,_,_,_,_,_,_,_,_]) rfl ?_
               exact ⟨_, rfl, ⟨_,_,_,_,_,_,_,_,_,_,_,_,_,_,_,_,_,_,_,_,_,_,_,_,_,_,_,_,_,_,_, rfl, (rfl : _ = ((m4 + 1 + kk : Nat) : Int)), (by omega), (by exact fun W hW => hW.cut (lo := m4 + 1) (n := kk) (by omega) (by omega)), (by exact (cellF_body hkg hm2 hm3 hm4 hm5 (by omega) h119 hkk).2 (by omega)), H⟩⟩
             ·skip
              refine wp_skip ?_
              exact ⟨_, rfl, ⟨_,_,_,_,_,_,_,_,_,_,_,_,_,_,_,_,_,_,_,_,_,_,_,_,_,_,_,_,_,_,_, rfl, (rfl : _ = ((m4 : Nat) : Int)), (by omega), (by exact fun _ _ => brow_nil _ _), (by exact cellF_plain hkg hm2 hm3 hm4 hm5 (by omega) h119), H⟩⟩
            ·skip
             rintro l w ⟨u3, u4, u12, u119, u120, u121, u122, u123, u124, u125, u126, u127, u128, u129, u130, u131, u132, u133, u134, u135, u136, u137, u138, u139, u140, u141, u142, u143, q, nq, bd, hl, hq, hqn, hbr, hcF, H⟩
             obtain rfl := hl.trans (rfl : _ = [_,_,_,_,_,_,_,_,_,_,_,_,_,_,_,_,_,_,_,_,_,_,_,_,_,_,_,_,_,_,_,_,_,_,_,_,_,_,_,_,_,_,_,_,_,_,_,_,_,_,_,_,_,_,_,_,_,_,_,_,_,_,_,_,_,_,_,_,_,_,_,_,_,_,_,_,_,_,_,_,_,_,_,_,_,_,_,_,_,_,_,_,_,_,_,_,_,_,_,_,_,_,_,_,_,_,_,_,_,_,_,_,_,_,_,_,_,_,_,_,_,_,_,_,_,_,_,_,_,_,_,_,_,_,_,_,_,_,_,_,_,_,_,_,_,_,_,_,_,_])
             clear hl
             subst hq
             refine c_seq ?_
             refine c_rseq (n := 150) ⟨rfl, rfl⟩ ?_
             refine s_val (r_loadn Try.isAgg40 Try.sizeOf40 rfl (H.at 0 rfl) (ceC_td _) (by first | exact (kC_length _) | exact (hC_length _) | exact (ceC_length _) | exact (ptC_length _ _ _ _) | exact (plV_length _ _ _) | exact (elFr.len _) | exact (frC_length _) | exact (fdV_length _ _ _) | exact rfl)) ?_
             refine s_call (r_call Try.call43 (ec rfl en)) (right12_spec (⟨k, gt bs 1 2, gt bs 3 4, gI (kPl k) bs 7 1, gI (kPl k) bs 8 1, gI (kPl k) bs 9 2, gI (kRf k) bs m2 2, gI (kMi k) bs m3 4, gI (kMi k) bs (m3 + 4) 4, gI (kMi k) bs (m3 + 8) 4, bd⟩ : Ce) _ ((hbr _ hr).st (H.sub (List.nil_sublist _)))) ?_
             rintro v w (⟨hy145, rfl, HC⟩ | ⟨hy145, rfl, HC⟩)
             ·skip
              replace H := H.quiet HC
              refine s_val (r_not rfl) ?_
              refine c_nil (l' := [_,_,_,_,_,_,_,_,_,_,_,_,_,_,_,_,_,_,_,_,_,_,_,_,_,_,_,_,_,_,_,_,_,_,_,_,_,_,_,_,_,_,_,_,_,_,_,_,_,_,_,_,_,_,_,_,_,_,_,_,_,_,_,_,_,_,_,_,_,_,_,_,_,_,_,_,_,_,_,_,_,_,_,_,_,_,_,_,_,_,_,_,_,_,_,_,_,_,_,_,_,_,_,_,_,_,_,_,_,_,_,_,_,_,_,_,_,_,_,_,_,_,_,_,_,_,_,_,_,_,_,_,_,_,_,_,_,_,_,_,_,_,_,_,_,_,_,_,_,_]) rfl ?_
              refine c_iff rfl ?_
              refine wp_skip ?_
              refine x_thenNormal ?_
              refine c_rseq (n := 150) ⟨rfl, rfl⟩ ?_
              refine s_val (r_loadn Try.isAgg40 Try.sizeOf40 rfl (H.at 0 rfl) (ceC_td _) (by first | exact (kC_length _) | exact (hC_length _) | exact (ceC_length _) | exact (ptC_length _ _ _ _) | exact (plV_length _ _ _) | exact (elFr.len _) | exact (frC_length _) | exact (fdV_length _ _ _) | exact rfl)) ?_
              refine s_val (r_move rfl) ?_
              refine s_st (m_storen H 1 11 Try.sizeOf40 rfl rfl (by first | exact (kC_length _) | exact (hC_length _) | exact (ceC_length _) | exact (ptC_length _ _ _ _) | exact (plV_length _ _ _) | exact (elFr.len _) | exact (frC_length _) | exact (fdV_length _ _ _)) (by first | exact (kC_one _) | exact (hC_one _) | exact (ceC_one _) | exact (ptC_one _ _ _ _) | exact (plV_one _ _ _) | exact (elFr.one _) | exact (frC_one _) | exact (fdV_one _ _ _)) rfl (by show 0 + 11 ≤ 11; omega) (ceC_sp _ _)) (L' := [_,_]) rfl ?_
              intro w H
              refine s_val (r_assign rfl) ?_
              refine s_val (r_assign rfl) ?_
              refine c_nil (l' := [_,_,_,_,_,_,_,_,_,_,_,_,_,_,_,_,_,_,_,_,_,_,_,_,_,_,_,_,_,_,_,_,_,_,_,_,_,_,_,_,_,_,_,_,_,_,_,_,_,_,_,_,_,_,_,_,_,_,_,_,_,_,_,_,_,_,_,_,_,_,_,_,_,_,_,_,_,_,_,_,_,_,_,_,_,_,_,_,_,_,_,_,_,_,_,_,_,_,_,_,_,_,_,_,_,_,_,_,_,_,_,_,_,_,_,_,_,_,_,_,_,_,_,_,_,_,_,_,_,_,_,_,_,_,_,_,_,_,_,_,_,_,_,_,_,_,_,_,_,_]) rfl ?_
              refine wp_ret ?_
              refine e_ret (rc_three rfl (rc_celln Try.isAgg40 Try.sizeOf40 rfl (H.at 1 rfl) (by first | exact (kC_td _) | exact (hC_td _) | exact (hC_seed _) | exact (ceC_td _) | exact (ceC_place _) | exact (ptC_td _ _ _ _) | exact (plV_td _ _ _) | exact (frC_td _) | exact (frC_cell _) | exact (fdV_td _ _ _)) (by first | exact (kC_length _) | exact (hC_length _) | exact (ceC_length _) | exact (ptC_length _ _ _ _) | exact (plV_length _ _ _) | exact (elFr.len _) | exact (frC_length _) | exact (fdV_length _ _ _))) (rc_tmp rfl) (rc_tmp rfl)) ⟨_, rfl, ?_⟩
              exact .inl ⟨_, nq, decF_yes hne hcF hy145, rfl, hqn, hbr, (H.sub (List.nil_sublist _))⟩
             ·skip
              replace H := H.quiet HC
              refine s_val (r_not rfl) ?_
              refine c_nil (l' := [_,_,_,_,_,_,_,_,_,_,_,_,_,_,_,_,_,_,_,_,_,_,_,_,_,_,_,_,_,_,_,_,_,_,_,_,_,_,_,_,_,_,_,_,_,_,_,_,_,_,_,_,_,_,_,_,_,_,_,_,_,_,_,_,_,_,_,_,_,_,_,_,_,_,_,_,_,_,_,_,_,_,_,_,_,_,_,_,_,_,_,_,_,_,_,_,_,_,_,_,_,_,_,_,_,_,_,_,_,_,_,_,_,_,_,_,_,_,_,_,_,_,_,_,_,_,_,_,_,_,_,_,_,_,_,_,_,_,_,_,_,_,_,_,_,_,_,_,_,_]) rfl ?_
              refine c_ift rfl ?_
              refine c_rseq (n := 150) ⟨rfl, rfl⟩ ?_
              refine s_val (r_buildS (zs := ceC ce0) (out := ceC ce0) Try.runUnderlying40 Try.zeroValue40 places40 pn rfl) ?_
              refine s_st (m_storen H 1 11 Try.sizeOf40 rfl rfl (by first | exact (kC_length _) | exact (hC_length _) | exact (ceC_length _) | exact (ptC_length _ _ _ _) | exact (plV_length _ _ _) | exact (elFr.len _) | exact (frC_length _) | exact (fdV_length _ _ _)) (by first | exact (kC_one _) | exact (hC_one _) | exact (ceC_one _) | exact (ptC_one _ _ _ _) | exact (plV_one _ _ _) | exact (elFr.one _) | exact (frC_one _) | exact (fdV_one _ _ _)) rfl (by show 0 + 11 ≤ 11; omega) (ceC_sp _ _)) (L' := [_,_]) rfl ?_
              intro w H
              refine s_val (r_assign rfl) ?_
              refine s_val (r_assign rfl) ?_
              refine c_nil (l' := [_,_,_,_,_,_,_,_,_,_,_,_,_,_,_,_,_,_,_,_,_,_,_,_,_,_,_,_,_,_,_,_,_,_,_,_,_,_,_,_,_,_,_,_,_,_,_,_,_,_,_,_,_,_,_,_,_,_,_,_,_,_,_,_,_,_,_,_,_,_,_,_,_,_,_,_,_,_,_,_,_,_,_,_,_,_,_,_,_,_,_,_,_,_,_,_,_,_,_,_,_,_,_,_,_,_,_,_,_,_,_,_,_,_,_,_,_,_,_,_,_,_,_,_,_,_,_,_,_,_,_,_,_,_,_,_,_,_,_,_,_,_,_,_,_,_,_,_,_,_]) rfl ?_
              refine wp_ret (x_thenRet ?_)
              refine e_ret (rc_three rfl (rc_celln Try.isAgg40 Try.sizeOf40 rfl (H.at 1 rfl) (by first | exact (kC_td _) | exact (hC_td _) | exact (hC_seed _) | exact (ceC_td _) | exact (ceC_place _) | exact (ptC_td _ _ _ _) | exact (plV_td _ _ _) | exact (frC_td _) | exact (frC_cell _) | exact (fdV_td _ _ _)) (by first | exact (kC_length _) | exact (hC_length _) | exact (ceC_length _) | exact (ptC_length _ _ _ _) | exact (plV_length _ _ _) | exact (elFr.len _) | exact (frC_length _) | exact (fdV_length _ _ _))) (rc_tmp rfl) (rc_tmp rfl)) ⟨_, rfl, ?_⟩
              exact .inr ⟨decF_wrong (by rw [hcF]; exact hy145), _, rfl, by decide, (H.sub (List.nil_sublist _))⟩

end Go.Proofs.Ytihpeihlpgompaa

