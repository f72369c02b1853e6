import Derived.Test.YtbjalofmamoffaaPC3
import Derived.Test.YtbjalofmamoffaaPV2
namespace Go.Proofs.Ytbjalofmamoffaa
open Go Go.Er

set_option maxHeartbeats 4000000 in
theorem checka_spec (g z : Int) (w0 : World) :
    Calls Try.prog 29 #[.agg (shC g z).toArray] w0 fun e w => ∃ v, e = .returned v ∧ (v = .int .i64 (shE g z) ∧ St w0 [] w []) := by
  have H := St.refl w0
  refine c_enter (args := [.agg (shC g z).toArray]) (l := [.agg (shC g z).toArray, undef, undef, undef, undef, undef, undef, undef, undef, undef, undef, undef, undef, undef, undef, undef, undef, undef, undef, undef, undef]) Try.func29 Try.ntmps29 rfl rfl ?_
  refine c_rseq (n := 21) ⟨rfl, rfl⟩ ?_
  refine s_new (m_box (cs := (shC g z)) H rfl rfl) ?_
  intro w b1 H
  refine s_val (r_assign rfl) ?_
  refine c_nil (l' := [_,_,_,_,_,_,_,_,_,_,_,_,_,_,_,_,_,_,_,_,_]) rfl ?_
  refine c_seq ?_
  refine c_rseq (n := 21) ⟨rfl, rfl⟩ ?_
  refine s_val (r_fieldAddr (k := 0) Try.runUnderlying30 rfl Try.sizeOf3 (by decide) rfl rfl) ?_
  refine s_val (r_load1 Try.isAgg3 rfl (H.at 0 rfl) rfl) ?_
  refine s_test (r_lss rfl rfl) (fun h5 => ?_) (fun h5 => ?_)
  · skip
    refine s_val (r_move rfl) ?_
    refine g_no rfl rfl (by decide) ?_
    refine g_no rfl rfl (by decide) ?_
    refine g_no rfl rfl (by decide) ?_
    refine s_val (r_pickt rfl rfl) ?_
    refine s_val (r_move rfl) ?_
    refine g_no rfl rfl (by decide) ?_
    refine g_no rfl rfl (by decide) ?_
    refine g_no rfl rfl (by decide) ?_
    refine s_val (r_pickt rfl rfl) ?_
    refine s_val (r_move rfl) ?_
    refine g_no rfl rfl (by decide) ?_
    refine g_no rfl rfl (by decide) ?_
    refine g_no rfl rfl (by decide) ?_
    refine s_val (r_pickt rfl rfl) ?_
    refine c_nil (l' := [_,_,_,_,_,_,_,_,_,_,_,_,_,_,_,_,_,_,_,_,_]) rfl ?_
    refine c_ift rfl ?_
    refine c_rseq (n := 21) ⟨rfl, rfl⟩ ?_
    refine s_val (r_assign rfl) ?_
    refine c_nil (l' := [_,_,_,_,_,_,_,_,_,_,_,_,_,_,_,_,_,_,_,_,_]) rfl ?_
    refine wp_ret (x_thenRet ?_)
    refine e_ret (res1 rfl rfl) ⟨_, rfl, ?_⟩
    exact ⟨by unfold shE; first | rw [if_pos (by omega)] | rw [if_neg (by omega)], H.sub (List.nil_sublist _)⟩
  · skip
    refine s_val (r_move rfl) ?_
    refine g_yes rfl rfl ?_
    refine s_val (r_fieldAddr (k := 0) Try.runUnderlying30 rfl Try.sizeOf3 (by decide) rfl rfl) ?_
    refine g_yes rfl rfl ?_
    refine s_val (r_load1 Try.isAgg3 rfl (H.at 0 rfl) rfl) ?_
    refine g_yes rfl rfl ?_
    refine s_test (r_gtr rfl rfl) (fun h9 => ?_) (fun h9 => ?_)
    · skip
      refine s_val (r_pickf rfl rfl) ?_
      refine s_val (r_move rfl) ?_
      refine g_no rfl rfl (by decide) ?_
      refine g_no rfl rfl (by decide) ?_
      refine g_no rfl rfl (by decide) ?_
      refine s_val (r_pickt rfl rfl) ?_
      refine s_val (r_move rfl) ?_
      refine g_no rfl rfl (by decide) ?_
      refine g_no rfl rfl (by decide) ?_
      refine g_no rfl rfl (by decide) ?_
      refine s_val (r_pickt rfl rfl) ?_
      refine c_nil (l' := [_,_,_,_,_,_,_,_,_,_,_,_,_,_,_,_,_,_,_,_,_]) rfl ?_
      refine c_ift rfl ?_
      refine c_rseq (n := 21) ⟨rfl, rfl⟩ ?_
      refine s_val (r_assign rfl) ?_
      refine c_nil (l' := [_,_,_,_,_,_,_,_,_,_,_,_,_,_,_,_,_,_,_,_,_]) rfl ?_
      refine wp_ret (x_thenRet ?_)
      refine e_ret (res1 rfl rfl) ⟨_, rfl, ?_⟩
      exact ⟨by unfold shE; first | rw [if_pos (by omega)] | rw [if_neg (by omega)], H.sub (List.nil_sublist _)⟩
    · skip
      refine s_val (r_pickf rfl rfl) ?_
      refine s_val (r_move rfl) ?_
      refine g_yes rfl rfl ?_
      refine s_val (r_fieldAddr (k := 1) Try.runUnderlying30 rfl Try.sizeOf3 (by decide) rfl rfl) ?_
      refine g_yes rfl rfl ?_
      refine s_val (r_load1 Try.isAgg3 rfl (H.at 0 rfl) rfl) ?_
      refine g_yes rfl rfl ?_
      refine s_test (r_lss rfl rfl) (fun h14 => ?_) (fun h14 => ?_)
      · skip
        refine s_val (r_pickf rfl rfl) ?_
        refine s_val (r_move rfl) ?_
        refine g_no rfl rfl (by decide) ?_
        refine g_no rfl rfl (by decide) ?_
        refine g_no rfl rfl (by decide) ?_
        refine s_val (r_pickt rfl rfl) ?_
        refine c_nil (l' := [_,_,_,_,_,_,_,_,_,_,_,_,_,_,_,_,_,_,_,_,_]) rfl ?_
        refine c_ift rfl ?_
        refine c_rseq (n := 21) ⟨rfl, rfl⟩ ?_
        refine s_val (r_assign rfl) ?_
        refine c_nil (l' := [_,_,_,_,_,_,_,_,_,_,_,_,_,_,_,_,_,_,_,_,_]) rfl ?_
        refine wp_ret (x_thenRet ?_)
        refine e_ret (res1 rfl rfl) ⟨_, rfl, ?_⟩
        exact ⟨by unfold shE; first | rw [if_pos (by omega)] | rw [if_neg (by omega)], H.sub (List.nil_sublist _)⟩
      · skip
        refine s_val (r_pickf rfl rfl) ?_
        refine s_val (r_move rfl) ?_
        refine g_yes rfl rfl ?_
        refine s_val (r_fieldAddr (k := 1) Try.runUnderlying30 rfl Try.sizeOf3 (by decide) rfl rfl) ?_
        refine g_yes rfl rfl ?_
        refine s_val (r_load1 Try.isAgg3 rfl (H.at 0 rfl) rfl) ?_
        refine g_yes rfl rfl ?_
        refine s_val (r_gtr rfl rfl) ?_
        refine s_val (r_pickf rfl rfl) ?_
        refine c_nil (l' := [_,_,_,_,_,_,_,_,_,_,_,_,_,_,_,_,_,_,_,_,_]) rfl ?_
        refine c_if rfl (fun h20 => ?_) (fun h20 => ?_)
        · skip
          refine c_rseq (n := 21) ⟨rfl, rfl⟩ ?_
          refine s_val (r_assign rfl) ?_
          refine c_nil (l' := [_,_,_,_,_,_,_,_,_,_,_,_,_,_,_,_,_,_,_,_,_]) rfl ?_
          refine wp_ret (x_thenRet ?_)
          refine e_ret (res1 rfl rfl) ⟨_, rfl, ?_⟩
          exact ⟨by unfold shE; first | rw [if_pos (by omega)] | rw [if_neg (by omega)], H.sub (List.nil_sublist _)⟩
        · skip
          refine wp_skip ?_
          refine x_thenNormal ?_
          refine c_rseq (n := 21) ⟨rfl, rfl⟩ ?_
          refine s_val (r_assign rfl) ?_
          refine c_nil (l' := [_,_,_,_,_,_,_,_,_,_,_,_,_,_,_,_,_,_,_,_,_]) rfl ?_
          refine wp_ret ?_
          refine e_ret (res1 rfl rfl) ⟨_, rfl, ?_⟩
          exact ⟨by unfold shE; first | rw [if_pos (by omega)] | rw [if_neg (by omega)], H.sub (List.nil_sublist _)⟩

set_option maxHeartbeats 4000000 in
theorem maya_spec (g z : Int) (w0 : World) :
    Calls Try.prog 39 #[.agg (shC g z).toArray] w0 fun e w => ∃ v, e = .returned v ∧ (v = .bool (decide (shE g z = 0)) ∧ St w0 [] w []) := by
  have H := St.refl w0
  refine c_enter (args := [.agg (shC g z).toArray]) (l := [.agg (shC g z).toArray, undef, undef, undef, undef, undef, undef, undef, undef, undef, undef]) Try.func39 Try.ntmps39 rfl rfl ?_
  refine c_rseq (n := 11) ⟨rfl, rfl⟩ ?_
  refine s_new (m_box (cs := (shC g z)) H rfl rfl) ?_
  intro w b1 H
  refine s_val (r_assign rfl) ?_
  refine c_nil (l' := [_,_,_,_,_,_,_,_,_,_,_]) rfl ?_
  refine c_rseq (n := 11) ⟨rfl, rfl⟩ ?_
  refine s_val (r_loadn Try.isAgg30 Try.sizeOf30 rfl (H.at 0 rfl) (by first | exact (kC_td _) | exact (hC_td _) | exact (hC_seed _) | exact (shC_td _ _) | exact (sdC_td _ _) | exact (xrL_td _ _ _) | exact (xrC_td _ _ _ _ _ _ _) | exact (rigC_td _ _ _ _ _ _ _) | exact (doC_td _) | exact (fdV_td _ _ _)) (by first | exact (kC_length _) | exact (hC_length _) | exact (shC_length _ _) | exact (wC_length _) | exact (sdC_length _ _) | exact (xrL_length _ _ _) | exact (xrC_length _ _ _ _ _ _ _) | exact (rigC_length _ _ _ _ _ _ _) | exact (doC_length _) | exact (elFd.len _) | exact (fdV_length _ _ _) | exact (elFd.len _) | exact rfl)) ?_
  refine s_val (r_buildS Try.runUnderlying30 Try.zeroValue30 places30 pn rfl) ?_
  refine s_testb (r_neqP pairT30 rfl rfl rfl) (fun h5 => ?_) (fun h5 => ?_)
  · skip
    refine s_val (r_move rfl) ?_
    refine g_yes rfl rfl ?_
    refine s_val (r_loadn Try.isAgg30 Try.sizeOf30 rfl (H.at 0 rfl) (by first | exact (kC_td _) | exact (hC_td _) | exact (hC_seed _) | exact (shC_td _ _) | exact (sdC_td _ _) | exact (xrL_td _ _ _) | exact (xrC_td _ _ _ _ _ _ _) | exact (rigC_td _ _ _ _ _ _ _) | exact (doC_td _) | exact (fdV_td _ _ _)) (by first | exact (kC_length _) | exact (hC_length _) | exact (shC_length _ _) | exact (wC_length _) | exact (sdC_length _ _) | exact (xrL_length _ _ _) | exact (xrC_length _ _ _ _ _ _ _) | exact (rigC_length _ _ _ _ _ _ _) | exact (doC_length _) | exact (elFd.len _) | exact (fdV_length _ _ _) | exact (elFd.len _) | exact rfl)) ?_
    refine g_yes rfl rfl ?_
    refine s_call (r_call Try.call29 (ec rfl en)) (checka_spec g z _) ?_
    rintro v w ⟨rfl, HC⟩
    replace H := H.quiet HC
    refine g_yes rfl rfl ?_
    refine s_val (r_eql rfl rfl) ?_
    refine s_val (r_pickt rfl rfl) ?_
    refine s_val (r_assign rfl) ?_
    refine c_nil (l' := [_,_,_,_,_,_,_,_,_,_,_]) rfl ?_
    refine wp_ret ?_
    refine e_ret (res1 rfl rfl) ⟨_, rfl, ?_⟩
    exact ⟨rfl, H.sub (List.nil_sublist _)⟩
  · skip
    have hgz0 : g = 0 ∧ z = 0 := by simpa using h5
    refine s_val (r_move rfl) ?_
    refine g_no rfl rfl (by decide) ?_
    refine g_no rfl rfl (by decide) ?_
    refine g_no rfl rfl (by decide) ?_
    refine s_val (r_pickf rfl rfl) ?_
    refine s_val (r_assign rfl) ?_
    refine c_nil (l' := [_,_,_,_,_,_,_,_,_,_,_]) rfl ?_
    refine wp_ret ?_
    refine e_ret (res1 rfl rfl) ⟨_, rfl, ?_⟩
    exact ⟨by rw [decide_eq_false (by unfold shE; rw [if_neg (by omega)]; decide)], H.sub (List.nil_sublist _)⟩

set_option maxHeartbeats 4000000 in
theorem sectorsa_spec (g z : Int) (w0 : World) :
    Calls Try.prog 18 #[.agg (shC g z).toArray] w0 fun e w => ∃ v, e = .returned v ∧ (v = .int .i64 (shN g z) ∧ St w0 [] w []) := by
  have H := St.refl w0
  refine c_enter (args := [.agg (shC g z).toArray]) (l := [.agg (shC g z).toArray, undef, undef, undef, undef, undef, undef, undef, undef, undef, undef, undef]) Try.func18 Try.ntmps18 rfl rfl ?_
  refine c_rseq (n := 12) ⟨rfl, rfl⟩ ?_
  refine s_new (m_box (cs := (shC g z)) H rfl rfl) ?_
  intro w b1 H
  refine s_val (r_assign rfl) ?_
  refine c_nil (l' := [_,_,_,_,_,_,_,_,_,_,_,_]) rfl ?_
  refine c_seq ?_
  refine c_rseq (n := 12) ⟨rfl, rfl⟩ ?_
  refine s_val (r_loadn Try.isAgg30 Try.sizeOf30 rfl (H.at 0 rfl) (by first | exact (kC_td _) | exact (hC_td _) | exact (hC_seed _) | exact (shC_td _ _) | exact (sdC_td _ _) | exact (xrL_td _ _ _) | exact (xrC_td _ _ _ _ _ _ _) | exact (rigC_td _ _ _ _ _ _ _) | exact (doC_td _) | exact (fdV_td _ _ _)) (by first | exact (kC_length _) | exact (hC_length _) | exact (shC_length _ _) | exact (wC_length _) | exact (sdC_length _ _) | exact (xrL_length _ _ _) | exact (xrC_length _ _ _ _ _ _ _) | exact (rigC_length _ _ _ _ _ _ _) | exact (doC_length _) | exact (elFd.len _) | exact (fdV_length _ _ _) | exact (elFd.len _) | exact rfl)) ?_
  refine s_call (r_call Try.call39 (ec rfl en)) (maya_spec g z _) ?_
  rintro v w ⟨rfl, HC⟩
  replace H := H.quiet HC
  refine s_val (r_notp rfl) ?_
  refine c_nil (l' := [_,_,_,_,_,_,_,_,_,_,_,_]) rfl ?_
  refine c_if rfl (fun h5 => ?_) (fun h5 => ?_)
  · skip
    refine c_rseq (n := 12) ⟨rfl, rfl⟩ ?_
    refine s_val (r_assign rfl) ?_
    refine c_nil (l' := [_,_,_,_,_,_,_,_,_,_,_,_]) rfl ?_
    refine wp_ret (x_thenRet ?_)
    refine e_ret (res1 rfl rfl) ⟨_, rfl, ?_⟩
    exact ⟨by unfold shN; rw [if_neg h5], H.sub (List.nil_sublist _)⟩
  · skip
    refine wp_skip ?_
    refine x_thenNormal ?_
    refine c_rseq (n := 12) ⟨rfl, rfl⟩ ?_
    refine s_val (r_fieldAddr (k := 0) Try.runUnderlying30 rfl Try.sizeOf3 (by decide) rfl rfl) ?_
    refine s_val (r_load1 Try.isAgg3 rfl (H.at 0 rfl) rfl) ?_
    refine s_val (r_fieldAddr (k := 1) Try.runUnderlying30 rfl Try.sizeOf3 (by decide) rfl rfl) ?_
    refine s_val (r_load1 Try.isAgg3 rfl (H.at 0 rfl) rfl) ?_
    obtain ⟨q1, q2, q3, q4⟩ := shE_ok (Decidable.not_not.1 h5)
    have hgz := gz_rng (g := g) (z := z) (by omega) q2 (by omega) q4
    refine s_val (r_mul rfl rfl (w_i64 (by omega) (by omega))) ?_
    refine s_val (r_add rfl rfl (w_i64 (by omega) (by omega))) ?_
    refine s_val (r_assign rfl) ?_
    refine c_nil (l' := [_,_,_,_,_,_,_,_,_,_,_,_]) rfl ?_
    refine wp_ret ?_
    refine e_ret (res1 rfl rfl) ⟨_, rfl, ?_⟩
    exact ⟨by unfold shN; rw [if_pos (Decidable.not_not.1 h5)], H.sub (List.nil_sublist _)⟩

set_option maxHeartbeats 4000000 in
theorem mlenq_spec (bm ba ma bb mb k : Nat) (gv : Value) (Tm : TypeId) (fzm : Nat × Nat) (w0 : World) (hbm : w0.heap[bm]? = some (.cells (mC ba ma bb mb k gv).toArray Tm fzm)) :
    Calls Try.prog 53 #[.pointer (some ⟨bm, 0, none⟩)] w0 fun e w => ∃ v, e = .returned v ∧ (v = .int .i64 (k : Nat) ∧ St w0 [] w []) := by
  have H := St.refl w0
  refine c_enter (args := [.pointer (some ⟨bm, 0, none⟩)]) (l := [.pointer (some ⟨bm, 0, none⟩), undef, undef, undef, undef, undef, undef, undef, undef]) Try.func53 Try.ntmps53 rfl rfl ?_
  refine c_rseq (n := 9) ⟨rfl, rfl⟩ ?_
  refine s_val (r_assign rfl) ?_
  refine c_nil (l' := [_,_,_,_,_,_,_,_,_]) rfl ?_
  refine c_seq ?_
  refine c_rseq (n := 9) ⟨rfl, rfl⟩ ?_
  refine s_val (r_move rfl) ?_
  refine s_val (r_nilpF Try.runUnderlying27 rfl rfl) ?_
  refine c_nil (l' := [_,_,_,_,_,_,_,_,_]) rfl ?_
  refine c_iff rfl ?_
  refine wp_skip ?_
  refine x_thenNormal ?_
  refine c_rseq (n := 9) ⟨rfl, rfl⟩ ?_
  refine s_val (r_move rfl) ?_
  refine s_val (r_nilCheck rfl) ?_
  refine s_val (r_fieldAddr (k := 4) Try.runUnderlying119 rfl Try.sizeOf3 (by decide) rfl rfl) ?_
  refine s_val (r_load1 Try.isAgg3 rfl (H.rd0 hbm) rfl) ?_
  refine s_val (r_assign rfl) ?_
  refine c_nil (l' := [_,_,_,_,_,_,_,_,_]) rfl ?_
  refine wp_ret ?_
  refine e_ret (res1 rfl rfl) ⟨_, rfl, ?_⟩
  exact ⟨rfl, H.sub (List.nil_sublist _)⟩

set_option maxHeartbeats 4000000 in
theorem hasq_spec (bm ba ma bb mb k : Nat) (gv : Value) (Tm : TypeId) (fzm : Nat × Nat) (n : Int) (w0 : World) (hbm : w0.heap[bm]? = some (.cells (mC ba ma bb mb k gv).toArray Tm fzm)) :
    Calls Try.prog 62 #[.pointer (some ⟨bm, 0, none⟩), .int .i64 n] w0 fun e w => ∃ v, e = .returned v ∧ (v = .bool (decide (0 ≤ n ∧ n < (k : Int))) ∧ St w0 [] w []) := by
  have H := St.refl w0
  refine c_enter (args := [.pointer (some ⟨bm, 0, none⟩), .int .i64 n]) (l := [.pointer (some ⟨bm, 0, none⟩), .int .i64 n, undef, undef, undef, undef, undef, undef, undef, undef, undef, undef, undef]) Try.func62 Try.ntmps62 rfl rfl ?_
  refine c_rseq (n := 13) ⟨rfl, rfl⟩ ?_
  refine s_val (r_assign rfl) ?_
  refine c_nil (l' := [_,_,_,_,_,_,_,_,_,_,_,_,_]) rfl ?_
  refine c_rseq (n := 13) ⟨rfl, rfl⟩ ?_
  refine s_val (r_move rfl) ?_
  refine s_test (r_geq rfl rfl) (fun h6 => ?_) (fun h6 => ?_)
  · skip
    refine s_val (r_move rfl) ?_
    refine g_yes rfl rfl ?_
    refine s_val (r_move rfl) ?_
    refine g_yes rfl rfl ?_
    refine s_val (r_move rfl) ?_
    refine g_yes rfl rfl ?_
    refine s_call (r_call Try.call53 (ec rfl en)) (mlenq_spec bm ba ma bb mb k gv Tm fzm _ (H.rd0 hbm)) ?_
    rintro v w ⟨rfl, HC⟩
    replace H := H.quiet HC
    refine g_yes rfl rfl ?_
    refine s_val (r_lss rfl rfl) ?_
    refine s_val (r_pickt rfl rfl) ?_
    refine s_val (r_assign rfl) ?_
    refine c_nil (l' := [_,_,_,_,_,_,_,_,_,_,_,_,_]) rfl ?_
    refine wp_ret ?_
    refine e_ret (res1 rfl rfl) ⟨_, rfl, ?_⟩
    exact ⟨congrArg Value.bool (decide_eq_decide.2 (by omega)), H⟩
  · skip
    refine s_val (r_move rfl) ?_
    refine g_no rfl rfl (by decide) ?_
    refine g_no rfl rfl (by decide) ?_
    refine g_no rfl rfl (by decide) ?_
    refine g_no rfl rfl (by decide) ?_
    refine s_val (r_pickf rfl rfl) ?_
    refine s_val (r_assign rfl) ?_
    refine c_nil (l' := [_,_,_,_,_,_,_,_,_,_,_,_,_]) rfl ?_
    refine wp_ret ?_
    refine e_ret (res1 rfl rfl) ⟨_, rfl, ?_⟩
    exact ⟨by rw [decide_eq_false (fun h => h6 h.1)], H⟩

set_option maxHeartbeats 4000000 in
theorem newlogq_spec (bm ba ma bb mb k : Nat) (gv : Value) (Tm : TypeId) (fzm : Nat × Nat) (cs : List Value) (g z : Int) (hg0 : 3 ≤ g) (hg1 : g ≤ 64) (hz0 : 1 ≤ z) (hz1 : z ≤ 32) (hcl : 2 + g * z ≤ (k : Int)) (w0 : World) (hbm : w0.heap[bm]? = some (.cells (mC ba ma bb mb k gv).toArray Tm fzm)) :
    Calls Try.prog 30 #[.pointer (some ⟨bm, 0, none⟩), .iface 72 (.agg cs.toArray), .agg (shC g z).toArray] w0 fun e w => ∃ v, e = .returned v ∧ (∃ bl bu, v = .tuple #[.pointer (some ⟨bl, 0, none⟩), .int .i64 0] ∧ St w0 [] w [(bl, .cells (lgC bm (.iface 72 (.agg cs.toArray)) g z bu g.toNat (-1) 0 0).toArray 91 (0, 0)), (bu, .cells (uC (List.replicate g.toNat 0)).toArray 36 (0, 0))]) := by
  have H := St.refl w0
  refine c_enter (args := [.pointer (some ⟨bm, 0, none⟩), .iface 72 (.agg cs.toArray), .agg (shC g z).toArray]) (l := [.pointer (some ⟨bm, 0, none⟩), .iface 72 (.agg cs.toArray), .agg (shC g z).toArray, undef, undef, undef, undef, undef, undef, undef, undef, undef, undef, undef, undef, undef, undef, undef, undef, undef, undef, undef, undef, undef, undef, undef, undef, undef, undef, undef, undef, undef, undef, undef]) Try.func30 Try.ntmps30 rfl rfl ?_
  refine c_rseq (n := 34) ⟨rfl, rfl⟩ ?_
  refine s_new (m_box (cs := (shC g z)) H rfl rfl) ?_
  intro w b5 H
  refine s_val (r_assign rfl) ?_
  refine s_val (r_assign rfl) ?_
  refine c_nil (l' := [_,_,_,_,_,_,_,_,_,_,_,_,_,_,_,_,_,_,_,_,_,_,_,_,_,_,_,_,_,_,_,_,_,_]) rfl ?_
  refine c_seq ?_
  refine wp_block ?_
  refine c_rseq (n := 34) ⟨rfl, rfl⟩ ?_
  refine s_val (r_move rfl) ?_
  refine s_val (r_nilpF Try.runUnderlying27 rfl rfl) ?_
  refine s_val (r_move rfl) ?_
  refine g_yes rfl rfl ?_
  refine s_val (r_move rfl) ?_
  refine g_yes rfl rfl ?_
  refine s_val (r_nili Try.runUnderlying89 rfl rfl) ?_
  refine s_val (r_pickf rfl rfl) ?_
  refine s_val (r_assign rfl) ?_
  refine c_nil (l' := [_,_,_,_,_,_,_,_,_,_,_,_,_,_,_,_,_,_,_,_,_,_,_,_,_,_,_,_,_,_,_,_,_,_]) rfl ?_
  refine c_iff rfl ?_
  refine c_rseq (n := 34) ⟨rfl, rfl⟩ ?_
  refine s_val (r_loadn Try.isAgg30 Try.sizeOf30 rfl (H.at 0 rfl) (by first | exact (kC_td _) | exact (hC_td _) | exact (hC_seed _) | exact (shC_td _ _) | exact (sdC_td _ _) | exact (xrL_td _ _ _) | exact (xrC_td _ _ _ _ _ _ _) | exact (rigC_td _ _ _ _ _ _ _) | exact (doC_td _) | exact (fdV_td _ _ _)) (by first | exact (kC_length _) | exact (hC_length _) | exact (shC_length _ _) | exact (wC_length _) | exact (sdC_length _ _) | exact (xrL_length _ _ _) | exact (xrC_length _ _ _ _ _ _ _) | exact (rigC_length _ _ _ _ _ _ _) | exact (doC_length _) | exact (elFd.len _) | exact (fdV_length _ _ _) | exact (elFd.len _) | exact rfl)) ?_
  refine s_call (r_call Try.call29 (ec rfl en)) (check_spec g z hg0 hg1 hz0 hz1 _) ?_
  rintro v w ⟨rfl, HC⟩
  replace H := H.quiet HC
  refine s_val (r_neq rfl rfl) ?_
  refine s_val (r_move rfl) ?_
  refine g_yes rfl rfl ?_
  refine s_val (r_loadn Try.isAgg30 Try.sizeOf30 rfl (H.at 0 rfl) (by first | exact (kC_td _) | exact (hC_td _) | exact (hC_seed _) | exact (shC_td _ _) | exact (sdC_td _ _) | exact (xrL_td _ _ _) | exact (xrC_td _ _ _ _ _ _ _) | exact (rigC_td _ _ _ _ _ _ _) | exact (doC_td _) | exact (fdV_td _ _ _)) (by first | exact (kC_length _) | exact (hC_length _) | exact (shC_length _ _) | exact (wC_length _) | exact (sdC_length _ _) | exact (xrL_length _ _ _) | exact (xrC_length _ _ _ _ _ _ _) | exact (rigC_length _ _ _ _ _ _ _) | exact (doC_length _) | exact (elFd.len _) | exact (fdV_length _ _ _) | exact (elFd.len _) | exact rfl)) ?_
  refine g_yes rfl rfl ?_
  refine s_call (r_call Try.call18 (ec rfl en)) (sectors_spec g z hg0 hg1 hz0 hz1 _) ?_
  rintro v w ⟨rfl, HC⟩
  replace H := H.quiet HC
  refine g_yes rfl rfl ?_
  refine s_val (r_move rfl) ?_
  refine g_yes rfl rfl ?_
  refine s_call (r_call Try.call53 (ec rfl en)) (mlenq_spec bm ba ma bb mb k gv Tm fzm _ (H.rd0 hbm)) ?_
  rintro v w ⟨rfl, HC⟩
  replace H := H.quiet HC
  refine g_yes rfl rfl ?_
  refine s_val (r_gtr rfl rfl) ?_
  refine s_val (r_pickf rfl rfl) ?_
  refine s_val (r_assign rfl) ?_
  refine c_nil (l' := [_,_,_,_,_,_,_,_,_,_,_,_,_,_,_,_,_,_,_,_,_,_,_,_,_,_,_,_,_,_,_,_,_,_]) rfl ?_
  refine c_if rfl (fun h15 => ?_) (fun h15 => ?_)
  · skip
    exfalso; omega
  · skip
    refine wp_skip ?_
    refine x_blockNormal ?_
    refine x_thenNormal ?_
    refine c_seq ?_
    refine d_begin (sz := 34) ⟨rfl, rfl⟩ (by kernel_rfl) H (H.sub (.cons_cons _ (List.nil_sublist _))) rfl ?_
    intro w H
    refine d_take (i := 0) rfl (by kernel_rfl) (fun _ _ _ h => h) (H.sub (.cons_cons _ (List.nil_sublist _))) (fun _ _ => r_move rfl) rfl ?_
    refine d_take (i := 1) rfl (by kernel_rfl) (fun _ _ _ h => h) (H.sub (.cons_cons _ (List.nil_sublist _))) (fun _ _ => r_move rfl) rfl ?_
    refine d_take (i := 2) rfl (by kernel_rfl) (fun _ _ _ h => h) (H.sub (.cons_cons _ (List.nil_sublist _))) (fun _ HS => r_loadn Try.isAgg30 Try.sizeOf30 rfl (HS.at 0 rfl) (by first | exact (kC_td _) | exact (hC_td _) | exact (hC_seed _) | exact (shC_td _ _) | exact (sdC_td _ _) | exact (xrL_td _ _ _) | exact (xrC_td _ _ _ _ _ _ _) | exact (rigC_td _ _ _ _ _ _ _) | exact (doC_td _) | exact (fdV_td _ _ _)) (by first | exact (kC_length _) | exact (hC_length _) | exact (shC_length _ _) | exact (wC_length _) | exact (sdC_length _ _) | exact (xrL_length _ _ _) | exact (xrC_length _ _ _ _ _ _ _) | exact (rigC_length _ _ _ _ _ _ _) | exact (doC_length _) | exact (elFd.len _) | exact (fdV_length _ _ _) | exact (elFd.len _) | exact rfl)) rfl ?_
    refine d_take (i := 3) rfl (by kernel_rfl) (fun _ _ _ h => h) (H.sub (.cons_cons _ (List.nil_sublist _))) (fun _ _ => r_fieldAddr (k := 0) Try.runUnderlying30 rfl Try.sizeOf3 (by decide) rfl rfl) rfl ?_
    refine d_take (i := 4) rfl (by kernel_rfl) (fun _ _ _ h => h) (H.sub (.cons_cons _ (List.nil_sublist _))) (fun _ HS => r_load1 Try.isAgg3 rfl (HS.at 0 rfl) rfl) rfl ?_
    refine d_all1 (i := 5) (by kernel_rfl) ?_
    refine b_new rfl go_none (m_make (n := g.toNat) (nb := 8) (v := .int .u64 0) H Try.underlying35 (by kernel_rfl) rfl rfl rfl (by omega) (by omega) (by omega) (by omega)) rfl (fun _ _ H => (H.sub (.cons _ (.cons_cons _ (List.nil_sublist _))))) ?_
    intro w bu H
    refine d_take (i := 6) rfl (by kernel_rfl) (fun _ _ _ h => h) (H.sub (.cons _ (.cons_cons _ (List.nil_sublist _)))) (fun _ _ => r_buildS Try.runUnderlying91 Try.zeroValue91 places91 (pc rfl (pc rfl (pc rfl (pc rfl (pc rfl pn))))) rfl) rfl ?_
    refine d_all1 (i := 7) (by kernel_rfl) ?_
    refine b_new rfl go_none (m_box (cs := (lgC bm (.iface 72 (.agg cs.toArray)) g z bu g.toNat (-1) 0 0)) H rfl rfl) rfl (fun _ _ H => (H.sub (.cons _ (.cons _ (.cons_cons _ (List.nil_sublist _)))))) ?_
    intro w b33 H
    refine d_take (i := 8) rfl (by kernel_rfl) (fun _ _ _ h => h) (H.sub (.cons _ (.cons _ (.cons_cons _ (List.nil_sublist _))))) (fun _ _ => r_assign rfl) rfl ?_
    refine d_take (i := 9) rfl (by kernel_rfl) (fun _ _ _ h => h) (H.sub (.cons _ (.cons _ (.cons_cons _ (List.nil_sublist _))))) (fun _ _ => r_assign rfl) rfl ?_
    refine d_done (l' := [_,_,_,_,_,_,_,_,_,_,_,_,_,_,_,_,_,_,_,_,_,_,_,_,_,_,_,_,_,_,_,_,_,_]) (by kernel_rfl) rfl ?_
    refine x_thenNormal ?_
    refine wp_ret ?_
    refine e_ret (res2 rfl rfl rfl) ⟨_, rfl, ?_⟩
    have e : uC (List.replicate g.toNat 0) = List.replicate g.toNat (.int .u64 0) := by simp [uC]
    rw [e]
    exact ⟨b33, bu, rfl, H.sub (.cons_cons _ (.cons_cons _ (List.nil_sublist _)))⟩

set_option maxHeartbeats 4000000 in
theorem newlog_bad (bm ba ma bb mb k : Nat) (gv : Value) (Tm : TypeId) (fzm : Nat × Nat) (cs : List Value) (g z : Int) (hno : ¬ (shE g z = 0 ∧ 2 + g * z ≤ (k : Int))) (w0 : World) (hbm : w0.heap[bm]? = some (.cells (mC ba ma bb mb k gv).toArray Tm fzm)) :
    Calls Try.prog 30 #[.pointer (some ⟨bm, 0, none⟩), .iface 72 (.agg cs.toArray), .agg (shC g z).toArray] w0 fun e w => ∃ v, e = .returned v ∧ (v = .tuple #[.pointer none, .int .i64 2] ∧ St w0 [] w []) := by
  have H := St.refl w0
  refine c_enter (args := [.pointer (some ⟨bm, 0, none⟩), .iface 72 (.agg cs.toArray), .agg (shC g z).toArray]) (l := [.pointer (some ⟨bm, 0, none⟩), .iface 72 (.agg cs.toArray), .agg (shC g z).toArray, undef, undef, undef, undef, undef, undef, undef, undef, undef, undef, undef, undef, undef, undef, undef, undef, undef, undef, undef, undef, undef, undef, undef, undef, undef, undef, undef, undef, undef, undef, undef]) Try.func30 Try.ntmps30 rfl rfl ?_
  refine c_rseq (n := 34) ⟨rfl, rfl⟩ ?_
  refine s_new (m_box (cs := (shC g z)) H rfl rfl) ?_
  intro w b5 H
  refine s_val (r_assign rfl) ?_
  refine s_val (r_assign rfl) ?_
  refine c_nil (l' := [_,_,_,_,_,_,_,_,_,_,_,_,_,_,_,_,_,_,_,_,_,_,_,_,_,_,_,_,_,_,_,_,_,_]) rfl ?_
  refine c_seq ?_
  refine wp_block ?_
  refine c_rseq (n := 34) ⟨rfl, rfl⟩ ?_
  refine s_val (r_move rfl) ?_
  refine s_val (r_nilpF Try.runUnderlying27 rfl rfl) ?_
  refine s_val (r_move rfl) ?_
  refine g_yes rfl rfl ?_
  refine s_val (r_move rfl) ?_
  refine g_yes rfl rfl ?_
  refine s_val (r_nili Try.runUnderlying89 rfl rfl) ?_
  refine s_val (r_pickf rfl rfl) ?_
  refine s_val (r_assign rfl) ?_
  refine c_nil (l' := [_,_,_,_,_,_,_,_,_,_,_,_,_,_,_,_,_,_,_,_,_,_,_,_,_,_,_,_,_,_,_,_,_,_]) rfl ?_
  refine c_iff rfl ?_
  refine c_rseq (n := 34) ⟨rfl, rfl⟩ ?_
  refine s_val (r_loadn Try.isAgg30 Try.sizeOf30 rfl (H.at 0 rfl) (by first | exact (kC_td _) | exact (hC_td _) | exact (hC_seed _) | exact (shC_td _ _) | exact (sdC_td _ _) | exact (xrL_td _ _ _) | exact (xrC_td _ _ _ _ _ _ _) | exact (rigC_td _ _ _ _ _ _ _) | exact (doC_td _) | exact (fdV_td _ _ _)) (by first | exact (kC_length _) | exact (hC_length _) | exact (shC_length _ _) | exact (wC_length _) | exact (sdC_length _ _) | exact (xrL_length _ _ _) | exact (xrC_length _ _ _ _ _ _ _) | exact (rigC_length _ _ _ _ _ _ _) | exact (doC_length _) | exact (elFd.len _) | exact (fdV_length _ _ _) | exact (elFd.len _) | exact rfl)) ?_
  refine s_call (r_call Try.call29 (ec rfl en)) (checka_spec g z _) ?_
  rintro v w ⟨rfl, HC⟩
  replace H := H.quiet HC
  refine s_test (r_neq rfl rfl) (fun h18 => ?_) (fun h18 => ?_)
  · skip
    refine s_val (r_move rfl) ?_
    refine g_no rfl rfl (by decide) ?_
    refine g_no rfl rfl (by decide) ?_
    refine g_no rfl rfl (by decide) ?_
    refine g_no rfl rfl (by decide) ?_
    refine g_no rfl rfl (by decide) ?_
    refine s_val (r_pickt rfl rfl) ?_
    refine s_val (r_assign rfl) ?_
    refine c_nil (l' := [_,_,_,_,_,_,_,_,_,_,_,_,_,_,_,_,_,_,_,_,_,_,_,_,_,_,_,_,_,_,_,_,_,_]) rfl ?_
    refine c_ift rfl ?_
    refine c_rseq (n := 34) ⟨rfl, rfl⟩ ?_
    refine s_val (r_assign rfl) ?_
    refine s_val (r_assign rfl) ?_
    refine c_nil (l' := [_,_,_,_,_,_,_,_,_,_,_,_,_,_,_,_,_,_,_,_,_,_,_,_,_,_,_,_,_,_,_,_,_,_]) rfl ?_
    refine wp_ret (x_blockRet (x_thenRet ?_))
    refine e_ret (res2 rfl rfl rfl) ⟨_, rfl, ?_⟩
    exact ⟨rfl, H.sub (List.nil_sublist _)⟩
  · skip
    refine s_val (r_move rfl) ?_
    refine g_yes rfl rfl ?_
    refine s_val (r_loadn Try.isAgg30 Try.sizeOf30 rfl (H.at 0 rfl) (by first | exact (kC_td _) | exact (hC_td _) | exact (hC_seed _) | exact (shC_td _ _) | exact (sdC_td _ _) | exact (xrL_td _ _ _) | exact (xrC_td _ _ _ _ _ _ _) | exact (rigC_td _ _ _ _ _ _ _) | exact (doC_td _) | exact (fdV_td _ _ _)) (by first | exact (kC_length _) | exact (hC_length _) | exact (shC_length _ _) | exact (wC_length _) | exact (sdC_length _ _) | exact (xrL_length _ _ _) | exact (xrC_length _ _ _ _ _ _ _) | exact (rigC_length _ _ _ _ _ _ _) | exact (doC_length _) | exact (elFd.len _) | exact (fdV_length _ _ _) | exact (elFd.len _) | exact rfl)) ?_
    refine g_yes rfl rfl ?_
    refine s_call (r_call Try.call18 (ec rfl en)) (sectorsa_spec g z _) ?_
    rintro v w ⟨rfl, HC⟩
    replace H := H.quiet HC
    refine g_yes rfl rfl ?_
    refine s_val (r_move rfl) ?_
    refine g_yes rfl rfl ?_
    refine s_call (r_call Try.call53 (ec rfl en)) (mlenq_spec bm ba ma bb mb k gv Tm fzm _ (H.rd0 hbm)) ?_
    rintro v w ⟨rfl, HC⟩
    replace H := H.quiet HC
    refine g_yes rfl rfl ?_
    refine s_val (r_gtr rfl rfl) ?_
    refine s_val (r_pickf rfl rfl) ?_
    refine s_val (r_assign rfl) ?_
    refine c_nil (l' := [_,_,_,_,_,_,_,_,_,_,_,_,_,_,_,_,_,_,_,_,_,_,_,_,_,_,_,_,_,_,_,_,_,_]) rfl ?_
    refine c_if rfl (fun h15 => ?_) (fun h15 => ?_)
    · skip
      refine c_rseq (n := 34) ⟨rfl, rfl⟩ ?_
      refine s_val (r_assign rfl) ?_
      refine s_val (r_assign rfl) ?_
      refine c_nil (l' := [_,_,_,_,_,_,_,_,_,_,_,_,_,_,_,_,_,_,_,_,_,_,_,_,_,_,_,_,_,_,_,_,_,_]) rfl ?_
      refine wp_ret (x_blockRet (x_thenRet ?_))
      refine e_ret (res2 rfl rfl rfl) ⟨_, rfl, ?_⟩
      exact ⟨rfl, H.sub (List.nil_sublist _)⟩
    · skip
      exfalso
      have q0 := Decidable.not_not.1 h18
      have q1 : shN g z = 2 + g * z := if_pos q0
      exact hno ⟨q0, by omega⟩

set_option maxHeartbeats 4000000 in
theorem newlog_nilm (cs : List Value) (g z : Int) (w0 : World) :
    Calls Try.prog 30 #[.pointer none, .iface 72 (.agg cs.toArray), .agg (shC g z).toArray] w0 fun e w => ∃ v, e = .returned v ∧ (v = .tuple #[.pointer none, .int .i64 1] ∧ St w0 [] w []) := by
  have H := St.refl w0
  refine c_enter (args := [.pointer none, .iface 72 (.agg cs.toArray), .agg (shC g z).toArray]) (l := [.pointer none, .iface 72 (.agg cs.toArray), .agg (shC g z).toArray, undef, undef, undef, undef, undef, undef, undef, undef, undef, undef, undef, undef, undef, undef, undef, undef, undef, undef, undef, undef, undef, undef, undef, undef, undef, undef, undef, undef, undef, undef, undef]) Try.func30 Try.ntmps30 rfl rfl ?_
  refine c_rseq (n := 34) ⟨rfl, rfl⟩ ?_
  refine s_new (m_box (cs := (shC g z)) H rfl rfl) ?_
  intro w b5 H
  refine s_val (r_assign rfl) ?_
  refine s_val (r_assign rfl) ?_
  refine c_nil (l' := [_,_,_,_,_,_,_,_,_,_,_,_,_,_,_,_,_,_,_,_,_,_,_,_,_,_,_,_,_,_,_,_,_,_]) rfl ?_
  refine c_seq ?_
  refine wp_block ?_
  refine c_rseq (n := 34) ⟨rfl, rfl⟩ ?_
  refine s_val (r_move rfl) ?_
  refine s_val (r_nilpT Try.runUnderlying27 rfl rfl) ?_
  refine s_val (r_move rfl) ?_
  refine g_no rfl rfl (by decide) ?_
  refine g_no rfl rfl (by decide) ?_
  refine s_val (r_pickt rfl rfl) ?_
  refine s_val (r_assign rfl) ?_
  refine c_nil (l' := [_,_,_,_,_,_,_,_,_,_,_,_,_,_,_,_,_,_,_,_,_,_,_,_,_,_,_,_,_,_,_,_,_,_]) rfl ?_
  refine c_ift rfl ?_
  refine c_rseq (n := 34) ⟨rfl, rfl⟩ ?_
  refine s_val (r_assign rfl) ?_
  refine s_val (r_assign rfl) ?_
  refine c_nil (l' := [_,_,_,_,_,_,_,_,_,_,_,_,_,_,_,_,_,_,_,_,_,_,_,_,_,_,_,_,_,_,_,_,_,_]) rfl ?_
  refine wp_ret (x_blockRet (x_thenRet ?_))
  refine e_ret (res2 rfl rfl rfl) ⟨_, rfl, ?_⟩
  exact ⟨rfl, H.sub (List.nil_sublist _)⟩

set_option maxHeartbeats 4000000 in
theorem newlog_nilc (bm ba ma bb mb k : Nat) (gv : Value) (Tm : TypeId) (fzm : Nat × Nat) (g z : Int) (w0 : World) (_hbm : w0.heap[bm]? = some (.cells (mC ba ma bb mb k gv).toArray Tm fzm)) :
    Calls Try.prog 30 #[.pointer (some ⟨bm, 0, none⟩), .nilIface, .agg (shC g z).toArray] w0 fun e w => ∃ v, e = .returned v ∧ (v = .tuple #[.pointer none, .int .i64 1] ∧ St w0 [] w []) := by
  have H := St.refl w0
  refine c_enter (args := [.pointer (some ⟨bm, 0, none⟩), .nilIface, .agg (shC g z).toArray]) (l := [.pointer (some ⟨bm, 0, none⟩), .nilIface, .agg (shC g z).toArray, undef, undef, undef, undef, undef, undef, undef, undef, undef, undef, undef, undef, undef, undef, undef, undef, undef, undef, undef, undef, undef, undef, undef, undef, undef, undef, undef, undef, undef, undef, undef]) Try.func30 Try.ntmps30 rfl rfl ?_
  refine c_rseq (n := 34) ⟨rfl, rfl⟩ ?_
  refine s_new (m_box (cs := (shC g z)) H rfl rfl) ?_
  intro w b5 H
  refine s_val (r_assign rfl) ?_
  refine s_val (r_assign rfl) ?_
  refine c_nil (l' := [_,_,_,_,_,_,_,_,_,_,_,_,_,_,_,_,_,_,_,_,_,_,_,_,_,_,_,_,_,_,_,_,_,_]) rfl ?_
  refine c_seq ?_
  refine wp_block ?_
  refine c_rseq (n := 34) ⟨rfl, rfl⟩ ?_
  refine s_val (r_move rfl) ?_
  refine s_val (r_nilpF Try.runUnderlying27 rfl rfl) ?_
  refine s_val (r_move rfl) ?_
  refine g_yes rfl rfl ?_
  refine s_val (r_move rfl) ?_
  refine g_yes rfl rfl ?_
  refine s_val (r_nilit Try.runUnderlying89 rfl) ?_
  refine s_val (r_pickf rfl rfl) ?_
  refine s_val (r_assign rfl) ?_
  refine c_nil (l' := [_,_,_,_,_,_,_,_,_,_,_,_,_,_,_,_,_,_,_,_,_,_,_,_,_,_,_,_,_,_,_,_,_,_]) rfl ?_
  refine c_ift rfl ?_
  refine c_rseq (n := 34) ⟨rfl, rfl⟩ ?_
  refine s_val (r_assign rfl) ?_
  refine s_val (r_assign rfl) ?_
  refine c_nil (l' := [_,_,_,_,_,_,_,_,_,_,_,_,_,_,_,_,_,_,_,_,_,_,_,_,_,_,_,_,_,_,_,_,_,_]) rfl ?_
  refine wp_ret (x_blockRet (x_thenRet ?_))
  refine e_ret (res2 rfl rfl rfl) ⟨_, rfl, ?_⟩
  exact ⟨rfl, H.sub (List.nil_sublist _)⟩

set_option maxHeartbeats 4000000 in
theorem open_bad (bm ba ma bb mb k : Nat) (gv : Value) (Tm : TypeId) (fzm : Nat × Nat) (cs : List Value) (g z : Int) (hno : ¬ (shE g z = 0 ∧ 2 + g * z ≤ (k : Int))) (w0 : World) (hbm : w0.heap[bm]? = some (.cells (mC ba ma bb mb k gv).toArray Tm fzm)) :
    Calls Try.prog 21 #[.pointer (some ⟨bm, 0, none⟩), .iface 72 (.agg cs.toArray), .agg (shC g z).toArray] w0 fun e w => ∃ v, e = .returned v ∧ (v = .tuple #[.pointer none, .slice none 0 0, .int .i64 2] ∧ St w0 [] w []) := by
  have H := St.refl w0
  refine c_enter (args := [.pointer (some ⟨bm, 0, none⟩), .iface 72 (.agg cs.toArray), .agg (shC g z).toArray]) (l := [.pointer (some ⟨bm, 0, none⟩), .iface 72 (.agg cs.toArray), .agg (shC g z).toArray, undef, undef, undef, undef, undef, undef, undef, undef, undef, undef, undef, undef, undef, undef, undef, undef, undef, undef, undef, undef, undef, undef, undef, undef, undef, undef, undef, undef, undef, undef, undef, undef, undef, undef, undef, undef, undef, undef, undef, undef, undef, undef, undef, undef, undef, undef, undef, undef, undef, undef, undef, undef, undef, undef, undef, undef, undef, undef, undef, undef, undef, undef, undef, undef, undef, undef, undef, undef]) Try.func21 Try.ntmps21 rfl rfl ?_
  refine c_rseq (n := 71) ⟨rfl, rfl⟩ ?_
  refine s_new (m_box (cs := (shC g z)) H rfl rfl) ?_
  intro w b5 H
  refine s_val (r_assign rfl) ?_
  refine s_val (r_assign rfl) ?_
  refine s_val (r_assign rfl) ?_
  refine c_nil (l' := [_,_,_,_,_,_,_,_,_,_,_,_,_,_,_,_,_,_,_,_,_,_,_,_,_,_,_,_,_,_,_,_,_,_,_,_,_,_,_,_,_,_,_,_,_,_,_,_,_,_,_,_,_,_,_,_,_,_,_,_,_,_,_,_,_,_,_,_,_,_,_]) rfl ?_
  refine c_rseq (n := 71) ⟨rfl, rfl⟩ ?_
  refine s_val (r_move rfl) ?_
  refine s_val (r_move rfl) ?_
  refine s_val (r_loadn Try.isAgg30 Try.sizeOf30 rfl (H.at 0 rfl) (by first | exact (kC_td _) | exact (hC_td _) | exact (hC_seed _) | exact (shC_td _ _) | exact (sdC_td _ _) | exact (xrL_td _ _ _) | exact (xrC_td _ _ _ _ _ _ _) | exact (rigC_td _ _ _ _ _ _ _) | exact (doC_td _) | exact (fdV_td _ _ _)) (by first | exact (kC_length _) | exact (hC_length _) | exact (shC_length _ _) | exact (wC_length _) | exact (sdC_length _ _) | exact (xrL_length _ _ _) | exact (xrC_length _ _ _ _ _ _ _) | exact (rigC_length _ _ _ _ _ _ _) | exact (doC_length _) | exact (elFd.len _) | exact (fdV_length _ _ _) | exact (elFd.len _) | exact rfl)) ?_
  refine s_call (r_call Try.call30 (ec rfl (ec rfl (ec rfl en)))) (newlog_bad bm ba ma bb mb k gv Tm fzm cs g z hno _ (H.rd0 hbm)) ?_
  rintro v w ⟨rfl, HC⟩
  replace H := H.quiet HC
  refine s_val (r_move rfl) ?_
  refine s_val (r_extract rfl rfl) ?_
  refine s_val (r_extract rfl rfl) ?_
  refine s_val (r_assign rfl) ?_
  refine s_val (r_assign rfl) ?_
  refine c_nil (l' := [_,_,_,_,_,_,_,_,_,_,_,_,_,_,_,_,_,_,_,_,_,_,_,_,_,_,_,_,_,_,_,_,_,_,_,_,_,_,_,_,_,_,_,_,_,_,_,_,_,_,_,_,_,_,_,_,_,_,_,_,_,_,_,_,_,_,_,_,_,_,_]) rfl ?_
  refine c_seq ?_
  refine c_rseq (n := 71) ⟨rfl, rfl⟩ ?_
  refine s_val (r_move rfl) ?_
  refine s_val (r_neq rfl rfl) ?_
  refine c_nil (l' := [_,_,_,_,_,_,_,_,_,_,_,_,_,_,_,_,_,_,_,_,_,_,_,_,_,_,_,_,_,_,_,_,_,_,_,_,_,_,_,_,_,_,_,_,_,_,_,_,_,_,_,_,_,_,_,_,_,_,_,_,_,_,_,_,_,_,_,_,_,_,_]) rfl ?_
  refine c_ift rfl ?_
  refine c_rseq (n := 71) ⟨rfl, rfl⟩ ?_
  refine s_val (r_move rfl) ?_
  refine s_val (r_assign rfl) ?_
  refine s_val (r_assign rfl) ?_
  refine s_val (r_assign rfl) ?_
  refine c_nil (l' := [_,_,_,_,_,_,_,_,_,_,_,_,_,_,_,_,_,_,_,_,_,_,_,_,_,_,_,_,_,_,_,_,_,_,_,_,_,_,_,_,_,_,_,_,_,_,_,_,_,_,_,_,_,_,_,_,_,_,_,_,_,_,_,_,_,_,_,_,_,_,_]) rfl ?_
  refine wp_ret (x_thenRet ?_)
  refine e_ret (res3 rfl rfl rfl rfl) ⟨_, rfl, ?_⟩
  exact ⟨rfl, H.sub (List.nil_sublist _)⟩

set_option maxHeartbeats 4000000 in
theorem open_nilm (cs : List Value) (g z : Int) (w0 : World) :
    Calls Try.prog 21 #[.pointer none, .iface 72 (.agg cs.toArray), .agg (shC g z).toArray] w0 fun e w => ∃ v, e = .returned v ∧ (v = .tuple #[.pointer none, .slice none 0 0, .int .i64 1] ∧ St w0 [] w []) := by
  have H := St.refl w0
  refine c_enter (args := [.pointer none, .iface 72 (.agg cs.toArray), .agg (shC g z).toArray]) (l := [.pointer none, .iface 72 (.agg cs.toArray), .agg (shC g z).toArray, undef, undef, undef, undef, undef, undef, undef, undef, undef, undef, undef, undef, undef, undef, undef, undef, undef, undef, undef, undef, undef, undef, undef, undef, undef, undef, undef, undef, undef, undef, undef, undef, undef, undef, undef, undef, undef, undef, undef, undef, undef, undef, undef, undef, undef, undef, undef, undef, undef, undef, undef, undef, undef, undef, undef, undef, undef, undef, undef, undef, undef, undef, undef, undef, undef, undef, undef, undef]) Try.func21 Try.ntmps21 rfl rfl ?_
  refine c_rseq (n := 71) ⟨rfl, rfl⟩ ?_
  refine s_new (m_box (cs := (shC g z)) H rfl rfl) ?_
  intro w b5 H
  refine s_val (r_assign rfl) ?_
  refine s_val (r_assign rfl) ?_
  refine s_val (r_assign rfl) ?_
  refine c_nil (l' := [_,_,_,_,_,_,_,_,_,_,_,_,_,_,_,_,_,_,_,_,_,_,_,_,_,_,_,_,_,_,_,_,_,_,_,_,_,_,_,_,_,_,_,_,_,_,_,_,_,_,_,_,_,_,_,_,_,_,_,_,_,_,_,_,_,_,_,_,_,_,_]) rfl ?_
  refine c_rseq (n := 71) ⟨rfl, rfl⟩ ?_
  refine s_val (r_move rfl) ?_
  refine s_val (r_move rfl) ?_
  refine s_val (r_loadn Try.isAgg30 Try.sizeOf30 rfl (H.at 0 rfl) (by first | exact (kC_td _) | exact (hC_td _) | exact (hC_seed _) | exact (shC_td _ _) | exact (sdC_td _ _) | exact (xrL_td _ _ _) | exact (xrC_td _ _ _ _ _ _ _) | exact (rigC_td _ _ _ _ _ _ _) | exact (doC_td _) | exact (fdV_td _ _ _)) (by first | exact (kC_length _) | exact (hC_length _) | exact (shC_length _ _) | exact (wC_length _) | exact (sdC_length _ _) | exact (xrL_length _ _ _) | exact (xrC_length _ _ _ _ _ _ _) | exact (rigC_length _ _ _ _ _ _ _) | exact (doC_length _) | exact (elFd.len _) | exact (fdV_length _ _ _) | exact (elFd.len _) | exact rfl)) ?_
  refine s_call (r_call Try.call30 (ec rfl (ec rfl (ec rfl en)))) (newlog_nilm cs g z _) ?_
  rintro v w ⟨rfl, HC⟩
  replace H := H.quiet HC
  refine s_val (r_move rfl) ?_
  refine s_val (r_extract rfl rfl) ?_
  refine s_val (r_extract rfl rfl) ?_
  refine s_val (r_assign rfl) ?_
  refine s_val (r_assign rfl) ?_
  refine c_nil (l' := [_,_,_,_,_,_,_,_,_,_,_,_,_,_,_,_,_,_,_,_,_,_,_,_,_,_,_,_,_,_,_,_,_,_,_,_,_,_,_,_,_,_,_,_,_,_,_,_,_,_,_,_,_,_,_,_,_,_,_,_,_,_,_,_,_,_,_,_,_,_,_]) rfl ?_
  refine c_seq ?_
  refine c_rseq (n := 71) ⟨rfl, rfl⟩ ?_
  refine s_val (r_move rfl) ?_
  refine s_val (r_neq rfl rfl) ?_
  refine c_nil (l' := [_,_,_,_,_,_,_,_,_,_,_,_,_,_,_,_,_,_,_,_,_,_,_,_,_,_,_,_,_,_,_,_,_,_,_,_,_,_,_,_,_,_,_,_,_,_,_,_,_,_,_,_,_,_,_,_,_,_,_,_,_,_,_,_,_,_,_,_,_,_,_]) rfl ?_
  refine c_ift rfl ?_
  refine c_rseq (n := 71) ⟨rfl, rfl⟩ ?_
  refine s_val (r_move rfl) ?_
  refine s_val (r_assign rfl) ?_
  refine s_val (r_assign rfl) ?_
  refine s_val (r_assign rfl) ?_
  refine c_nil (l' := [_,_,_,_,_,_,_,_,_,_,_,_,_,_,_,_,_,_,_,_,_,_,_,_,_,_,_,_,_,_,_,_,_,_,_,_,_,_,_,_,_,_,_,_,_,_,_,_,_,_,_,_,_,_,_,_,_,_,_,_,_,_,_,_,_,_,_,_,_,_,_]) rfl ?_
  refine wp_ret (x_thenRet ?_)
  refine e_ret (res3 rfl rfl rfl rfl) ⟨_, rfl, ?_⟩
  exact ⟨rfl, H.sub (List.nil_sublist _)⟩

set_option maxHeartbeats 4000000 in
theorem open_nilc (bm ba ma bb mb k : Nat) (gv : Value) (Tm : TypeId) (fzm : Nat × Nat) (g z : Int) (w0 : World) (hbm : w0.heap[bm]? = some (.cells (mC ba ma bb mb k gv).toArray Tm fzm)) :
    Calls Try.prog 21 #[.pointer (some ⟨bm, 0, none⟩), .nilIface, .agg (shC g z).toArray] w0 fun e w => ∃ v, e = .returned v ∧ (v = .tuple #[.pointer none, .slice none 0 0, .int .i64 1] ∧ St w0 [] w []) := by
  have H := St.refl w0
  refine c_enter (args := [.pointer (some ⟨bm, 0, none⟩), .nilIface, .agg (shC g z).toArray]) (l := [.pointer (some ⟨bm, 0, none⟩), .nilIface, .agg (shC g z).toArray, undef, undef, undef, undef, undef, undef, undef, undef, undef, undef, undef, undef, undef, undef, undef, undef, undef, undef, undef, undef, undef, undef, undef, undef, undef, undef, undef, undef, undef, undef, undef, undef, undef, undef, undef, undef, undef, undef, undef, undef, undef, undef, undef, undef, undef, undef, undef, undef, undef, undef, undef, undef, undef, undef, undef, undef, undef, undef, undef, undef, undef, undef, undef, undef, undef, undef, undef, undef]) Try.func21 Try.ntmps21 rfl rfl ?_
  refine c_rseq (n := 71) ⟨rfl, rfl⟩ ?_
  refine s_new (m_box (cs := (shC g z)) H rfl rfl) ?_
  intro w b5 H
  refine s_val (r_assign rfl) ?_
  refine s_val (r_assign rfl) ?_
  refine s_val (r_assign rfl) ?_
  refine c_nil (l' := [_,_,_,_,_,_,_,_,_,_,_,_,_,_,_,_,_,_,_,_,_,_,_,_,_,_,_,_,_,_,_,_,_,_,_,_,_,_,_,_,_,_,_,_,_,_,_,_,_,_,_,_,_,_,_,_,_,_,_,_,_,_,_,_,_,_,_,_,_,_,_]) rfl ?_
  refine c_rseq (n := 71) ⟨rfl, rfl⟩ ?_
  refine s_val (r_move rfl) ?_
  refine s_val (r_move rfl) ?_
  refine s_val (r_loadn Try.isAgg30 Try.sizeOf30 rfl (H.at 0 rfl) (by first | exact (kC_td _) | exact (hC_td _) | exact (hC_seed _) | exact (shC_td _ _) | exact (sdC_td _ _) | exact (xrL_td _ _ _) | exact (xrC_td _ _ _ _ _ _ _) | exact (rigC_td _ _ _ _ _ _ _) | exact (doC_td _) | exact (fdV_td _ _ _)) (by first | exact (kC_length _) | exact (hC_length _) | exact (shC_length _ _) | exact (wC_length _) | exact (sdC_length _ _) | exact (xrL_length _ _ _) | exact (xrC_length _ _ _ _ _ _ _) | exact (rigC_length _ _ _ _ _ _ _) | exact (doC_length _) | exact (elFd.len _) | exact (fdV_length _ _ _) | exact (elFd.len _) | exact rfl)) ?_
  refine s_call (r_call Try.call30 (ec rfl (ec rfl (ec rfl en)))) (newlog_nilc bm ba ma bb mb k gv Tm fzm g z _ (H.rd0 hbm)) ?_
  rintro v w ⟨rfl, HC⟩
  replace H := H.quiet HC
  refine s_val (r_move rfl) ?_
  refine s_val (r_extract rfl rfl) ?_
  refine s_val (r_extract rfl rfl) ?_
  refine s_val (r_assign rfl) ?_
  refine s_val (r_assign rfl) ?_
  refine c_nil (l' := [_,_,_,_,_,_,_,_,_,_,_,_,_,_,_,_,_,_,_,_,_,_,_,_,_,_,_,_,_,_,_,_,_,_,_,_,_,_,_,_,_,_,_,_,_,_,_,_,_,_,_,_,_,_,_,_,_,_,_,_,_,_,_,_,_,_,_,_,_,_,_]) rfl ?_
  refine c_seq ?_
  refine c_rseq (n := 71) ⟨rfl, rfl⟩ ?_
  refine s_val (r_move rfl) ?_
  refine s_val (r_neq rfl rfl) ?_
  refine c_nil (l' := [_,_,_,_,_,_,_,_,_,_,_,_,_,_,_,_,_,_,_,_,_,_,_,_,_,_,_,_,_,_,_,_,_,_,_,_,_,_,_,_,_,_,_,_,_,_,_,_,_,_,_,_,_,_,_,_,_,_,_,_,_,_,_,_,_,_,_,_,_,_,_]) rfl ?_
  refine c_ift rfl ?_
  refine c_rseq (n := 71) ⟨rfl, rfl⟩ ?_
  refine s_val (r_move rfl) ?_
  refine s_val (r_assign rfl) ?_
  refine s_val (r_assign rfl) ?_
  refine s_val (r_assign rfl) ?_
  refine c_nil (l' := [_,_,_,_,_,_,_,_,_,_,_,_,_,_,_,_,_,_,_,_,_,_,_,_,_,_,_,_,_,_,_,_,_,_,_,_,_,_,_,_,_,_,_,_,_,_,_,_,_,_,_,_,_,_,_,_,_,_,_,_,_,_,_,_,_,_,_,_,_,_,_]) rfl ?_
  refine wp_ret (x_thenRet ?_)
  refine e_ret (res3 rfl rfl rfl rfl) ⟨_, rfl, ?_⟩
  exact ⟨rfl, H.sub (List.nil_sublist _)⟩

set_option maxHeartbeats 4000000 in
theorem out_spec (bd bp bs m k capw : Nat) (aw : Option Addr) (T : TypeId) (w0 : World) (hown : Go.Er.Own w0 [(bd, .cells (dC bp bs m aw k capw).toArray T (0, 0))]) :
    Calls Try.prog 25 #[.pointer (some ⟨bd, 0, none⟩), .bool true] w0 fun e w => ∃ v, e = .returned v ∧ (v = .tuple #[] ∧ St w0 [bd] w [(bd, .cells (dO bp bs m).toArray T (0, 0))]) := by
  have H : St w0 [bd] w0 [(bd, .cells (dC bp bs m aw k capw).toArray T (0, 0))] := hown.st
  refine c_enter (args := [.pointer (some ⟨bd, 0, none⟩), .bool true]) (l := [.pointer (some ⟨bd, 0, none⟩), .bool true, undef, undef, undef, undef, undef, undef, undef, undef, undef, undef, undef, undef]) Try.func25 Try.ntmps25 rfl rfl ?_
  refine c_seq ?_
  refine c_rseq (n := 14) ⟨rfl, rfl⟩ ?_
  refine s_val (r_move rfl) ?_
  refine s_val (r_nilpF Try.runUnderlying26 rfl rfl) ?_
  refine c_nil (l' := [_,_,_,_,_,_,_,_,_,_,_,_,_,_]) rfl ?_
  refine c_iff rfl ?_
  refine wp_skip ?_
  refine x_thenNormal ?_
  refine c_seq ?_
  refine c_rseq (n := 14) ⟨rfl, rfl⟩ ?_
  refine s_val (r_move rfl) ?_
  refine c_nil (l' := [_,_,_,_,_,_,_,_,_,_,_,_,_,_]) rfl ?_
  refine c_ift rfl ?_
  refine c_region (n := 14) ⟨rfl, rfl⟩ ?_
  refine s_val (r_move rfl) ?_
  refine s_val (r_nilCheck rfl) ?_
  refine s_val (r_fieldAddr (k := 2) Try.runUnderlying124 rfl Try.sizeOf122 (by decide) rfl rfl) ?_
  refine s_st (m_store1 H 0 Try.sizeOf122 rfl rfl rfl rfl (by show 2 < 7; omega) rfl) (L' := [_]) rfl ?_
  intro w H
  refine c_nil (l' := [_,_,_,_,_,_,_,_,_,_,_,_,_,_]) rfl ?_
  refine c_region (n := 14) ⟨rfl, rfl⟩ ?_
  refine s_val (r_move rfl) ?_
  refine s_val (r_move rfl) ?_
  refine s_val (r_nilCheck rfl) ?_
  refine s_val (r_fieldAddr (k := 6) Try.runUnderlying124 rfl Try.sizeOf4 (by decide) rfl rfl) ?_
  refine s_st (m_store1 H 0 Try.sizeOf4 rfl rfl rfl rfl (by show 6 < 7; omega) (rfl : _ = dO bp bs m)) (L' := [_]) rfl ?_
  intro w H
  refine c_nil0 (l' := [_,_,_,_,_,_,_,_,_,_,_,_,_,_]) rfl ?_
  refine e_end (res0 rfl) ⟨_, rfl, ?_⟩
  exact ⟨rfl, H⟩

set_option maxHeartbeats 4000000 in
theorem downo_spec (bd : Nat) (w0 : World) (hd : DevO w0 bd) :
    Calls Try.prog 76 #[.pointer (some ⟨bd, 0, none⟩)] w0 fun e w => ∃ v, e = .returned v ∧ (v = .bool true ∧ St w0 [] w []) := by
  have hd2 := hd
  obtain ⟨bp, bs, m, T, fz, hbd⟩ := hd2
  have H := St.refl w0
  refine c_enter (args := [.pointer (some ⟨bd, 0, none⟩)]) (l := [.pointer (some ⟨bd, 0, none⟩), undef, undef, undef, undef, undef, undef, undef, undef, undef, undef, undef, undef, undef, undef, undef]) Try.func76 Try.ntmps76 rfl rfl ?_
  refine c_rseq (n := 16) ⟨rfl, rfl⟩ ?_
  refine s_val (r_assign rfl) ?_
  refine c_nil (l' := [_,_,_,_,_,_,_,_,_,_,_,_,_,_,_,_]) rfl ?_
  refine c_rseq (n := 16) ⟨rfl, rfl⟩ ?_
  refine s_val (r_move rfl) ?_
  refine s_val (r_nilCheck rfl) ?_
  refine s_val (r_fieldAddr (k := 6) Try.runUnderlying124 rfl Try.sizeOf4 (by decide) rfl rfl) ?_
  refine s_val (r_load1 Try.isAgg4 rfl (H.rd0 hbd) rfl) ?_
  refine s_val (r_move rfl) ?_
  refine g_no rfl rfl (by decide) ?_
  refine g_no rfl rfl (by decide) ?_
  refine g_no rfl rfl (by decide) ?_
  refine g_no rfl rfl (by decide) ?_
  refine g_no rfl rfl (by decide) ?_
  refine g_no rfl rfl (by decide) ?_
  refine g_no rfl rfl (by decide) ?_
  refine s_val (r_pickt rfl rfl) ?_
  refine s_val (r_assign rfl) ?_
  refine c_nil (l' := [_,_,_,_,_,_,_,_,_,_,_,_,_,_,_,_]) rfl ?_
  refine wp_ret ?_
  refine e_ret (res1 rfl rfl) ⟨_, rfl, ?_⟩
  exact ⟨rfl, H.sub (List.nil_sublist _)⟩

set_option maxHeartbeats 4000000 in
theorem dreado_spec (bd : Nat) (n : Int) (w0 : World) (hd : DevO w0 bd) :
    Calls Try.prog 64 #[.pointer (some ⟨bd, 0, none⟩), .int .i64 n] w0 fun e w => ∃ v, e = .returned v ∧ (v = .tuple #[.agg (kC zS).toArray, .int .i64 13] ∧ St w0 [] w []) := by
  have hd2 := hd
  obtain ⟨bp, bs, m, T, fz, hbd⟩ := hd2
  have H := St.refl w0
  refine c_enter (args := [.pointer (some ⟨bd, 0, none⟩), .int .i64 n]) (l := [.pointer (some ⟨bd, 0, none⟩), .int .i64 n, undef, undef, undef, undef, undef, undef, undef, undef, undef, undef, undef, undef, undef, undef, undef, undef, undef, undef, undef, undef, undef, undef, undef, undef, undef, undef, undef, undef, undef, undef, undef, undef, undef, undef, undef, undef, undef, undef, undef, undef]) Try.func64 Try.ntmps64 rfl rfl ?_
  refine c_rseq (n := 42) ⟨rfl, rfl⟩ ?_
  refine s_new (m_box (cs := [.int .i64 n]) H rfl rfl) ?_
  intro w b3 H
  refine s_new (m_alloc (cs := (kC zS)) H Try.zeroValue97 rfl) ?_
  intro w b4 H
  refine s_new (m_alloc (cs := [.int .i64 0]) H Try.zeroValue45 rfl) ?_
  intro w b5 H
  refine c_nil (l' := [_,_,_,_,_,_,_,_,_,_,_,_,_,_,_,_,_,_,_,_,_,_,_,_,_,_,_,_,_,_,_,_,_,_,_,_,_,_,_,_,_,_]) rfl ?_
  refine c_seq ?_
  refine wp_block ?_
  refine c_rseq (n := 42) ⟨rfl, rfl⟩ ?_
  refine s_val (r_move rfl) ?_
  refine s_val (r_nilpF Try.runUnderlying26 rfl rfl) ?_
  refine s_val (r_assign rfl) ?_
  refine c_nil (l' := [_,_,_,_,_,_,_,_,_,_,_,_,_,_,_,_,_,_,_,_,_,_,_,_,_,_,_,_,_,_,_,_,_,_,_,_,_,_,_,_,_,_]) rfl ?_
  refine c_iff rfl ?_
  refine c_rseq (n := 42) ⟨rfl, rfl⟩ ?_
  refine s_val (r_move rfl) ?_
  refine s_call (r_call Try.call76 (ec rfl en)) (downo_spec bd _ (hd.st (H.sub (List.nil_sublist _)))) ?_
  rintro v w ⟨rfl, HC⟩
  replace H := H.quiet HC
  refine s_val (r_assign rfl) ?_
  refine c_nil (l' := [_,_,_,_,_,_,_,_,_,_,_,_,_,_,_,_,_,_,_,_,_,_,_,_,_,_,_,_,_,_,_,_,_,_,_,_,_,_,_,_,_,_]) rfl ?_
  refine c_ift rfl ?_
  refine c_rseq (n := 42) ⟨rfl, rfl⟩ ?_
  refine s_val (r_buildA (pl := []) (zs := kC (By.zero 128)) (out := kC (By.zero 128)) Try.runUnderlying97 Try.sizeOf5 Try.zeroValue97 pn (by intro p hp; simp at hp) rfl) ?_
  refine s_st (m_storen H 1 128 Try.sizeOf97 rfl rfl (by first | exact (kC_length _) | exact (hC_length _) | exact (shC_length _ _) | exact (wC_length _) | exact (sdC_length _ _) | exact (xrL_length _ _ _) | exact (xrC_length _ _ _ _ _ _ _) | exact (rigC_length _ _ _ _ _ _ _) | exact (doC_length _) | exact (elFd.len _) | exact (fdV_length _ _ _) | exact (elFd.len _)) (by first | exact (kC_one _) | exact (hC_one _) | exact (shC_one _ _) | exact (elW.one _) | exact (sdC_one _ _) | exact (xrL_one _ _ _) | exact (xrC_one _ _ _ _ _ _ _) | exact (rigC_one _ _ _ _ _ _ _) | exact (elDo.one _) | exact (elFd.one _) | exact (fdV_one _ _ _)) rfl (by first | exact (by rw [kC_length]; omega) | exact (by rw [hC_length]; omega) | exact (by rw [wC_length]; omega) | exact (by show _ ≤ 5; omega) | exact (by show _ ≤ 7; omega) | exact (by show _ ≤ 3; omega)) (by first | exact (kC_sp _ _) | exact (hC_sp _ _))) (L' := (_ :: _ :: _ :: _)) rfl ?_
  intro w H
  refine s_st (m_store1 H 0 Try.sizeOf45 rfl rfl rfl rfl (by show 0 < 1; omega) rfl) (L' := (_ :: _ :: _ :: _)) rfl ?_
  intro w H
  refine c_nil (l' := [_,_,_,_,_,_,_,_,_,_,_,_,_,_,_,_,_,_,_,_,_,_,_,_,_,_,_,_,_,_,_,_,_,_,_,_,_,_,_,_,_,_]) rfl ?_
  refine wp_ret (x_blockRet (x_thenRet ?_))
  refine e_ret (rc_two rfl (rc_celln Try.isAgg97 Try.sizeOf97 rfl (H.at 1 rfl) (by first | exact (kC_td _) | exact (hC_td _) | exact (hC_seed _) | exact (shC_td _ _) | exact (sdC_td _ _) | exact (xrL_td _ _ _) | exact (xrC_td _ _ _ _ _ _ _) | exact (rigC_td _ _ _ _ _ _ _) | exact (doC_td _) | exact (fdV_td _ _ _)) (by first | exact (kC_length _) | exact (hC_length _) | exact (shC_length _ _) | exact (wC_length _) | exact (sdC_length _ _) | exact (xrL_length _ _ _) | exact (xrC_length _ _ _ _ _ _ _) | exact (rigC_length _ _ _ _ _ _ _) | exact (doC_length _) | exact (elFd.len _) | exact (fdV_length _ _ _) | exact (elFd.len _))) (rc_cell1 Try.isAgg45 rfl (H.at 0 rfl) rfl)) ⟨_, rfl, ?_⟩
  exact ⟨rfl, H.sub (List.nil_sublist _)⟩

set_option maxHeartbeats 4000000 in
theorem thereo_spec (bd mp : Nat) (w0 : World) (hd : DevO w0 bd) :
    Calls Try.prog 50 #[.agg (sdC bd mp).toArray] w0 fun e w => ∃ v, e = .returned v ∧ (v = .bool false ∧ St w0 [] w []) := by
  have H := St.refl w0
  refine c_enter (args := [.agg (sdC bd mp).toArray]) (l := [.agg (sdC bd mp).toArray, undef, undef, undef, undef, undef, undef, undef, undef, undef, undef, undef, undef, undef, undef, undef]) Try.func50 Try.ntmps50 rfl rfl ?_
  refine c_rseq (n := 16) ⟨rfl, rfl⟩ ?_
  refine s_new (m_box (cs := (sdC bd mp)) H rfl rfl) ?_
  intro w b1 H
  refine s_val (r_assign rfl) ?_
  refine c_nil (l' := [_,_,_,_,_,_,_,_,_,_,_,_,_,_,_,_]) rfl ?_
  refine c_seq ?_
  refine c_rseq (n := 16) ⟨rfl, rfl⟩ ?_
  refine s_val (r_fieldAddr (k := 0) Try.runUnderlying116 rfl Try.sizeOf26 (by decide) rfl rfl) ?_
  refine s_val (r_load1 Try.isAgg26 rfl (H.at 0 rfl) rfl) ?_
  refine s_val (r_nilpF Try.runUnderlying26 rfl rfl) ?_
  refine c_nil (l' := [_,_,_,_,_,_,_,_,_,_,_,_,_,_,_,_]) rfl ?_
  refine c_iff rfl ?_
  refine wp_skip ?_
  refine x_thenNormal ?_
  refine c_rseq (n := 16) ⟨rfl, rfl⟩ ?_
  refine s_val (r_fieldAddr (k := 0) Try.runUnderlying116 rfl Try.sizeOf26 (by decide) rfl rfl) ?_
  refine s_val (r_load1 Try.isAgg26 rfl (H.at 0 rfl) rfl) ?_
  refine s_call (r_call Try.call64 (ec rfl (ec rfl en))) (dreado_spec bd 0 _ (hd.st (H.sub (List.nil_sublist _)))) ?_
  rintro v w ⟨rfl, HC⟩
  replace H := H.quiet HC
  refine s_val (r_move rfl) ?_
  refine s_val (r_extract rfl rfl) ?_
  refine s_val (r_extract rfl rfl) ?_
  refine s_new (m_alloc (cs := (kC zS)) H Try.zeroValue97 rfl) ?_
  intro w b3 H
  refine s_st (m_storen H 0 128 Try.sizeOf97 rfl rfl (by first | exact (kC_length _) | exact (hC_length _) | exact (shC_length _ _) | exact (wC_length _) | exact (sdC_length _ _) | exact (xrL_length _ _ _) | exact (xrC_length _ _ _ _ _ _ _) | exact (rigC_length _ _ _ _ _ _ _) | exact (doC_length _) | exact (elFd.len _) | exact (fdV_length _ _ _) | exact (elFd.len _)) (by first | exact (kC_one _) | exact (hC_one _) | exact (shC_one _ _) | exact (elW.one _) | exact (sdC_one _ _) | exact (xrL_one _ _ _) | exact (xrC_one _ _ _ _ _ _ _) | exact (rigC_one _ _ _ _ _ _ _) | exact (elDo.one _) | exact (elFd.one _) | exact (fdV_one _ _ _)) rfl (by first | exact (by rw [kC_length]; omega) | exact (by rw [hC_length]; omega) | exact (by rw [wC_length]; omega) | exact (by show _ ≤ 5; omega) | exact (by show _ ≤ 7; omega) | exact (by show _ ≤ 3; omega)) (by first | exact (kC_sp _ _) | exact (hC_sp _ _))) (L' := (_ :: _ :: _)) rfl ?_
  intro w H
  refine s_val (r_assign rfl) ?_
  refine c_nil (l' := [_,_,_,_,_,_,_,_,_,_,_,_,_,_,_,_]) rfl ?_
  refine c_rseq (n := 16) ⟨rfl, rfl⟩ ?_
  refine s_val (r_move rfl) ?_
  refine s_val (r_neq rfl rfl) ?_
  refine s_val (r_assign rfl) ?_
  refine c_nil (l' := [_,_,_,_,_,_,_,_,_,_,_,_,_,_,_,_]) rfl ?_
  refine wp_ret ?_
  refine e_ret (res1 rfl rfl) ⟨_, rfl, ?_⟩
  exact ⟨rfl, H.sub (List.nil_sublist _)⟩

set_option maxHeartbeats 4000000 in
theorem presento_spec (bm ba ma bb mb k : Nat) (gv : Value) (Tm : TypeId) (fzm : Nat × Nat) (w0 : World) (hbm : w0.heap[bm]? = some (.cells (mC ba ma bb mb k gv).toArray Tm fzm)) (hdo : ∀ i, DevO w0 (bI ba bb i)) :
    Calls Try.prog 63 #[.pointer (some ⟨bm, 0, none⟩)] w0 fun e w => ∃ v, e = .returned v ∧ (v = .slice none 0 0 ∧ St w0 [] w []) := by
  have H := St.refl w0
  refine c_enter (args := [.pointer (some ⟨bm, 0, none⟩)]) (l := [.pointer (some ⟨bm, 0, none⟩), undef, undef, undef, undef, undef, undef, undef, undef, undef, undef, undef, undef, undef, undef, undef, undef, undef, undef, undef, undef]) Try.func63 Try.ntmps63 rfl rfl ?_
  refine c_rseq (n := 21) ⟨rfl, rfl⟩ ?_
  refine s_val (r_assign rfl) ?_
  refine c_nil (l' := [_,_,_,_,_,_,_,_,_,_,_,_,_,_,_,_,_,_,_,_,_]) rfl ?_
  refine c_rseq (n := 21) ⟨rfl, rfl⟩ ?_
  refine s_val (r_assign rfl) ?_
  refine c_nil (l' := [_,_,_,_,_,_,_,_,_,_,_,_,_,_,_,_,_,_,_,_,_]) rfl ?_
  refine c_seq ?_
  refine c_rseq (n := 21) ⟨rfl, rfl⟩ ?_
  refine s_val (r_move rfl) ?_
  refine c_nil (l' := [_,_,_,_,_,_,_,_,_,_,_,_,_,_,_,_,_,_,_,_,_]) rfl ?_
  refine wp_block ?_
  refine c_loop (fun (l0 : List Value) (i : Nat) (l : List Value) (w : World) => ∃ (u4 u6 u7 u8 u9 u10 u11 u12 u13 u14 u15 u16 u17 u18 u19 : Value) , l = ovr l0 [N_, N_, N_, Y_ (.slice none 0 0), Y_ u4, Y_ (.int .i64 i), Y_ u6, Y_ u7, Y_ u8, Y_ u9, Y_ u10, Y_ u11, Y_ u12, Y_ u13, Y_ u14, Y_ u15, Y_ u16, Y_ u17, Y_ u18, Y_ u19] ∧ i ≤ 2 ∧ St w0 [] w ([])) (fun (i : Nat) => 2 - i) 0 ⟨_,_,_,_,_,_,_,_,_,_,_,_,_,_,_, rfl, by omega, H⟩ ?_
  intro i l w ⟨u4, u6, u7, u8, u9, u10, u11, u12, u13, u14, u15, u16, u17, u18, u19, hl, hi, H⟩
  obtain rfl := hl.trans (rfl : _ = [_,_,_,_,_,_,_,_,_,_,_,_,_,_,_,_,_,_,_,_,_])
  clear hl
  refine c_rseq (n := 21) ⟨rfl, rfl⟩ ?_
  refine s_val (r_lss rfl rfl) ?_
  refine c_nil (l' := [_,_,_,_,_,_,_,_,_,_,_,_,_,_,_,_,_,_,_,_,_]) rfl ?_
  refine c_seq ?_
  refine c_if rfl (fun h6 => ?_) (fun h6 => ?_)
  · skip
    refine wp_skip ?_
    refine x_thenNormal ?_
    refine c_seq ?_
    refine wp_block ?_
    refine c_rseq (n := 21) ⟨rfl, rfl⟩ ?_
    refine s_val (r_move rfl) ?_
    refine s_val (r_assign rfl) ?_
    refine c_nil (l' := [_,_,_,_,_,_,_,_,_,_,_,_,_,_,_,_,_,_,_,_,_]) rfl ?_
    refine c_rseq (n := 21) ⟨rfl, rfl⟩ ?_
    refine s_val (r_move rfl) ?_
    refine s_val (r_move rfl) ?_
    refine s_val (r_nilCheck rfl) ?_
    refine s_val (r_fieldAddr (k := 0) Try.runUnderlying119 rfl Try.sizeOf117 (by decide) rfl rfl) ?_
    refine s_val (r_indexAddrA Try.runUnderlying117 Try.sizeOf116 rfl rfl (by omega) (by omega)) ?_
    refine s_val (r_loadn Try.isAgg116 Try.sizeOf116 rfl (H.rd0 hbm) (mC_side (i := i) (by omega) (by omega)) (by first | exact (kC_length _) | exact (hC_length _) | exact (shC_length _ _) | exact (wC_length _) | exact (sdC_length _ _) | exact (xrL_length _ _ _) | exact (xrC_length _ _ _ _ _ _ _) | exact (rigC_length _ _ _ _ _ _ _) | exact (doC_length _) | exact (elFd.len _) | exact (fdV_length _ _ _) | exact (elFd.len _) | exact rfl)) ?_
    refine s_call (r_call Try.call50 (ec rfl en)) (thereo_spec (bI ba bb i) (bI ma mb i) _ ((hdo i).st (H.sub (List.nil_sublist _)))) ?_
    rintro v w ⟨rfl, HC⟩
    replace H := H.quiet HC
    refine c_nil (l' := [_,_,_,_,_,_,_,_,_,_,_,_,_,_,_,_,_,_,_,_,_]) rfl ?_
    refine c_iff rfl ?_
    refine wp_skip ?_
    refine x_blockNormal ?_
    refine x_thenNormal ?_
    refine c_region (n := 21) ⟨rfl, rfl⟩ ?_
    refine s_val (r_add rfl rfl (w_i64 (by omega) (by omega))) ?_
    refine s_val (r_move rfl) ?_
    refine c_nil0 (l' := [_,_,_,_,_,_,_,_,_,_,_,_,_,_,_,_,_,_,_,_,_]) rfl ?_
    exact ⟨i + 1, _, rfl, ⟨_,_,_,_,_,_,_,_,_,_,_,_,_,_,_, rfl, by omega, H⟩, by omega⟩
  · skip
    refine wp_exit (x_thenExit (x_thenExit (x_blockHit ?_)))
    refine x_thenNormal ?_
    refine c_rseq (n := 21) ⟨rfl, rfl⟩ ?_
    refine s_val (r_move rfl) ?_
    refine s_val (r_assign rfl) ?_
    refine c_nil (l' := [_,_,_,_,_,_,_,_,_,_,_,_,_,_,_,_,_,_,_,_,_]) rfl ?_
    refine wp_ret ?_
    refine e_ret (res1 rfl rfl) ⟨_, rfl, ?_⟩
    exact ⟨rfl, H.sub (List.nil_sublist _)⟩

set_option maxHeartbeats 4000000 in
theorem mreado_spec (bm ba ma bb mb k : Nat) (gv : Value) (Tm : TypeId) (fzm : Nat × Nat) (hk : 0 < k) (w0 : World) (hbm : w0.heap[bm]? = some (.cells (mC ba ma bb mb k gv).toArray Tm fzm)) (hdo : ∀ i, DevO w0 (bI ba bb i)) :
    Calls Try.prog 40 #[.pointer (some ⟨bm, 0, none⟩), .int .i64 0] w0 fun e w => ∃ v, e = .returned v ∧ (v = .tuple #[.agg (kC zS).toArray, .int .i64 13] ∧ St w0 [] w []) := by
  have H := St.refl w0
  refine c_enter (args := [.pointer (some ⟨bm, 0, none⟩), .int .i64 0]) (l := [.pointer (some ⟨bm, 0, none⟩), .int .i64 0, undef, undef, undef, undef, undef, undef, undef, undef, undef, undef, undef, undef, undef, undef, undef, undef, undef, undef, undef, undef, undef, undef, undef, undef, undef, undef, undef, undef, undef, undef, undef, undef, undef, undef, undef, undef, undef, undef, undef, undef, undef, undef, undef, undef, undef, undef, undef, undef, undef, undef, undef, undef, undef, undef, undef, undef, undef, undef, undef, undef, undef]) Try.func40 Try.ntmps40 rfl rfl ?_
  refine c_rseq (n := 63) ⟨rfl, rfl⟩ ?_
  refine s_new (m_alloc (cs := (kC zS)) H Try.zeroValue97 rfl) ?_
  intro w b4 H
  refine s_val (r_assign rfl) ?_
  refine c_nil (l' := [_,_,_,_,_,_,_,_,_,_,_,_,_,_,_,_,_,_,_,_,_,_,_,_,_,_,_,_,_,_,_,_,_,_,_,_,_,_,_,_,_,_,_,_,_,_,_,_,_,_,_,_,_,_,_,_,_,_,_,_,_,_,_]) rfl ?_
  refine c_seq ?_
  refine c_rseq (n := 63) ⟨rfl, rfl⟩ ?_
  refine s_val (r_move rfl) ?_
  refine s_val (r_move rfl) ?_
  refine s_call (r_call Try.call62 (ec rfl (ec rfl en))) (hasq_spec bm ba ma bb mb k gv Tm fzm 0 _ (H.rd0 hbm)) ?_
  rintro v w ⟨rfl, HC⟩
  rw [decide_eq_true (show (0 : Int) ≤ 0 ∧ (0 : Int) < (k : Int) by omega)]
  replace H := H.quiet HC
  refine s_val (r_not rfl) ?_
  refine c_nil (l' := [_,_,_,_,_,_,_,_,_,_,_,_,_,_,_,_,_,_,_,_,_,_,_,_,_,_,_,_,_,_,_,_,_,_,_,_,_,_,_,_,_,_,_,_,_,_,_,_,_,_,_,_,_,_,_,_,_,_,_,_,_,_,_]) rfl ?_
  refine c_iff rfl ?_
  refine wp_skip ?_
  refine x_thenNormal ?_
  refine c_rseq (n := 63) ⟨rfl, rfl⟩ ?_
  refine s_val (r_move rfl) ?_
  refine s_call (r_call Try.call63 (ec rfl en)) (presento_spec bm ba ma bb mb k gv Tm fzm _ (H.rd0 hbm) (fun i => (hdo i).st (H.sub (List.nil_sublist _)))) ?_
  rintro v w ⟨rfl, HC⟩
  replace H := H.quiet HC
  refine s_val (r_assign rfl) ?_
  refine c_nil (l' := [_,_,_,_,_,_,_,_,_,_,_,_,_,_,_,_,_,_,_,_,_,_,_,_,_,_,_,_,_,_,_,_,_,_,_,_,_,_,_,_,_,_,_,_,_,_,_,_,_,_,_,_,_,_,_,_,_,_,_,_,_,_,_]) rfl ?_
  refine c_seq ?_
  refine c_rseq (n := 63) ⟨rfl, rfl⟩ ?_
  refine s_val (r_move rfl) ?_
  refine s_val (r_lens Try.runUnderlying139 (ec rfl en)) ?_
  refine s_val (r_eql rfl rfl) ?_
  refine c_nil (l' := [_,_,_,_,_,_,_,_,_,_,_,_,_,_,_,_,_,_,_,_,_,_,_,_,_,_,_,_,_,_,_,_,_,_,_,_,_,_,_,_,_,_,_,_,_,_,_,_,_,_,_,_,_,_,_,_,_,_,_,_,_,_,_]) rfl ?_
  refine c_ift rfl ?_
  refine c_rseq (n := 63) ⟨rfl, rfl⟩ ?_
  refine s_val (r_buildA (pl := []) (zs := kC (By.zero 128)) (out := kC (By.zero 128)) Try.runUnderlying97 Try.sizeOf5 Try.zeroValue97 pn (by intro p hp; simp at hp) rfl) ?_
  refine s_st (m_storen H 0 128 Try.sizeOf97 rfl rfl (by first | exact (kC_length _) | exact (hC_length _) | exact (shC_length _ _) | exact (wC_length _) | exact (sdC_length _ _) | exact (xrL_length _ _ _) | exact (xrC_length _ _ _ _ _ _ _) | exact (rigC_length _ _ _ _ _ _ _) | exact (doC_length _) | exact (elFd.len _) | exact (fdV_length _ _ _) | exact (elFd.len _)) (by first | exact (kC_one _) | exact (hC_one _) | exact (shC_one _ _) | exact (elW.one _) | exact (sdC_one _ _) | exact (xrL_one _ _ _) | exact (xrC_one _ _ _ _ _ _ _) | exact (rigC_one _ _ _ _ _ _ _) | exact (elDo.one _) | exact (elFd.one _) | exact (fdV_one _ _ _)) rfl (by first | exact (by rw [kC_length]; omega) | exact (by rw [hC_length]; omega) | exact (by rw [wC_length]; omega) | exact (by show _ ≤ 5; omega) | exact (by show _ ≤ 7; omega) | exact (by show _ ≤ 3; omega)) (by first | exact (kC_sp _ _) | exact (hC_sp _ _))) (L' := (_ :: _)) rfl ?_
  intro w H
  refine s_val (r_assign rfl) ?_
  refine c_nil (l' := [_,_,_,_,_,_,_,_,_,_,_,_,_,_,_,_,_,_,_,_,_,_,_,_,_,_,_,_,_,_,_,_,_,_,_,_,_,_,_,_,_,_,_,_,_,_,_,_,_,_,_,_,_,_,_,_,_,_,_,_,_,_,_]) rfl ?_
  refine wp_ret (x_thenRet ?_)
  refine e_ret (rc_two rfl (rc_celln Try.isAgg97 Try.sizeOf97 rfl (H.at 0 rfl) (by first | exact (kC_td _) | exact (hC_td _) | exact (hC_seed _) | exact (shC_td _ _) | exact (sdC_td _ _) | exact (xrL_td _ _ _) | exact (xrC_td _ _ _ _ _ _ _) | exact (rigC_td _ _ _ _ _ _ _) | exact (doC_td _) | exact (fdV_td _ _ _)) (by first | exact (kC_length _) | exact (hC_length _) | exact (shC_length _ _) | exact (wC_length _) | exact (sdC_length _ _) | exact (xrL_length _ _ _) | exact (xrC_length _ _ _ _ _ _ _) | exact (rigC_length _ _ _ _ _ _ _) | exact (doC_length _) | exact (elFd.len _) | exact (fdV_length _ _ _) | exact (elFd.len _))) (rc_tmp rfl)) ⟨_, rfl, ?_⟩
  exact ⟨rfl, H.sub (List.nil_sublist _)⟩

set_option maxHeartbeats 4000000 in
theorem open_out (bm ba ma bb mb k : Nat) (gv : Value) (Tm : TypeId) (fzm : Nat × Nat) (cs : List Value) (g z : Int) (hg0 : 3 ≤ g) (hg1 : g ≤ 64) (hz0 : 1 ≤ z) (hz1 : z ≤ 32) (hgz : 0 ≤ g * z) (hcl : 2 + g * z ≤ (k : Int)) (w0 : World) (hbm : w0.heap[bm]? = some (.cells (mC ba ma bb mb k gv).toArray Tm fzm)) (hdo : ∀ i, DevO w0 (bI ba bb i)) :
    Calls Try.prog 21 #[.pointer (some ⟨bm, 0, none⟩), .iface 72 (.agg cs.toArray), .agg (shC g z).toArray] w0 fun e w => ∃ v, e = .returned v ∧ (v = .tuple #[.pointer none, .slice none 0 0, .int .i64 13] ∧ St w0 [] w []) := by
  have H := St.refl w0
  refine c_enter (args := [.pointer (some ⟨bm, 0, none⟩), .iface 72 (.agg cs.toArray), .agg (shC g z).toArray]) (l := [.pointer (some ⟨bm, 0, none⟩), .iface 72 (.agg cs.toArray), .agg (shC g z).toArray, undef, undef, undef, undef, undef, undef, undef, undef, undef, undef, undef, undef, undef, undef, undef, undef, undef, undef, undef, undef, undef, undef, undef, undef, undef, undef, undef, undef, undef, undef, undef, undef, undef, undef, undef, undef, undef, undef, undef, undef, undef, undef, undef, undef, undef, undef, undef, undef, undef, undef, undef, undef, undef, undef, undef, undef, undef, undef, undef, undef, undef, undef, undef, undef, undef, undef, undef, undef]) Try.func21 Try.ntmps21 rfl rfl ?_
  refine c_rseq (n := 71) ⟨rfl, rfl⟩ ?_
  refine s_new (m_box (cs := (shC g z)) H rfl rfl) ?_
  intro w b5 H
  refine s_val (r_assign rfl) ?_
  refine s_val (r_assign rfl) ?_
  refine s_val (r_assign rfl) ?_
  refine c_nil (l' := [_,_,_,_,_,_,_,_,_,_,_,_,_,_,_,_,_,_,_,_,_,_,_,_,_,_,_,_,_,_,_,_,_,_,_,_,_,_,_,_,_,_,_,_,_,_,_,_,_,_,_,_,_,_,_,_,_,_,_,_,_,_,_,_,_,_,_,_,_,_,_]) rfl ?_
  refine c_rseq (n := 71) ⟨rfl, rfl⟩ ?_
  refine s_val (r_move rfl) ?_
  refine s_val (r_move rfl) ?_
  refine s_val (r_loadn Try.isAgg30 Try.sizeOf30 rfl (H.at 0 rfl) (by first | exact (kC_td _) | exact (hC_td _) | exact (hC_seed _) | exact (shC_td _ _) | exact (sdC_td _ _) | exact (xrL_td _ _ _) | exact (xrC_td _ _ _ _ _ _ _) | exact (rigC_td _ _ _ _ _ _ _) | exact (doC_td _) | exact (fdV_td _ _ _)) (by first | exact (kC_length _) | exact (hC_length _) | exact (shC_length _ _) | exact (wC_length _) | exact (sdC_length _ _) | exact (xrL_length _ _ _) | exact (xrC_length _ _ _ _ _ _ _) | exact (rigC_length _ _ _ _ _ _ _) | exact (doC_length _) | exact (elFd.len _) | exact (fdV_length _ _ _) | exact (elFd.len _) | exact rfl)) ?_
  refine s_call (r_call Try.call30 (ec rfl (ec rfl (ec rfl en)))) (newlogq_spec bm ba ma bb mb k gv Tm fzm cs g z hg0 hg1 hz0 hz1 hcl _ (H.rd0 hbm)) ?_
  rintro v w ⟨bl, bu, rfl, HC⟩
  replace H := H.call0 HC
  refine s_val (r_move rfl) ?_
  refine s_val (r_extract rfl rfl) ?_
  refine s_val (r_extract rfl rfl) ?_
  refine s_val (r_assign rfl) ?_
  refine s_val (r_assign rfl) ?_
  refine c_nil (l' := [_,_,_,_,_,_,_,_,_,_,_,_,_,_,_,_,_,_,_,_,_,_,_,_,_,_,_,_,_,_,_,_,_,_,_,_,_,_,_,_,_,_,_,_,_,_,_,_,_,_,_,_,_,_,_,_,_,_,_,_,_,_,_,_,_,_,_,_,_,_,_]) rfl ?_
  refine c_seq ?_
  refine c_rseq (n := 71) ⟨rfl, rfl⟩ ?_
  refine s_val (r_move rfl) ?_
  refine s_val (r_neq rfl rfl) ?_
  refine c_nil (l' := [_,_,_,_,_,_,_,_,_,_,_,_,_,_,_,_,_,_,_,_,_,_,_,_,_,_,_,_,_,_,_,_,_,_,_,_,_,_,_,_,_,_,_,_,_,_,_,_,_,_,_,_,_,_,_,_,_,_,_,_,_,_,_,_,_,_,_,_,_,_,_]) rfl ?_
  refine c_iff rfl ?_
  refine wp_skip ?_
  refine x_thenNormal ?_
  refine c_seq ?_
  refine c_rseq (n := 71) ⟨rfl, rfl⟩ ?_
  refine s_val (r_move rfl) ?_
  refine s_call (r_call Try.call40 (ec rfl (ec rfl en))) (mreado_spec bm ba ma bb mb k gv Tm fzm (by omega) _ (H.rd0 hbm) (fun i => (hdo i).st (H.sub (List.nil_sublist _)))) ?_
  rintro v w ⟨rfl, HC⟩
  replace H := H.quiet HC
  refine s_val (r_move rfl) ?_
  refine s_val (r_extract rfl rfl) ?_
  refine s_val (r_extract rfl rfl) ?_
  refine s_new (m_alloc (cs := (kC zS)) H Try.zeroValue97 rfl) ?_
  intro w b11 H
  refine s_st (m_storen H 0 128 Try.sizeOf97 rfl rfl (by first | exact (kC_length _) | exact (hC_length _) | exact (shC_length _ _) | exact (wC_length _) | exact (sdC_length _ _) | exact (xrL_length _ _ _) | exact (xrC_length _ _ _ _ _ _ _) | exact (rigC_length _ _ _ _ _ _ _) | exact (doC_length _) | exact (elFd.len _) | exact (fdV_length _ _ _) | exact (elFd.len _)) (by first | exact (kC_one _) | exact (hC_one _) | exact (shC_one _ _) | exact (elW.one _) | exact (sdC_one _ _) | exact (xrL_one _ _ _) | exact (xrC_one _ _ _ _ _ _ _) | exact (rigC_one _ _ _ _ _ _ _) | exact (elDo.one _) | exact (elFd.one _) | exact (fdV_one _ _ _)) rfl (by first | exact (by rw [kC_length]; omega) | exact (by rw [hC_length]; omega) | exact (by rw [wC_length]; omega) | exact (by show _ ≤ 5; omega) | exact (by show _ ≤ 7; omega) | exact (by show _ ≤ 3; omega)) (by first | exact (kC_sp _ _) | exact (hC_sp _ _))) (L' := (_ :: _ :: _ :: _ :: _)) rfl ?_
  intro w H
  refine s_val (r_assign rfl) ?_
  refine c_nil (l' := [_,_,_,_,_,_,_,_,_,_,_,_,_,_,_,_,_,_,_,_,_,_,_,_,_,_,_,_,_,_,_,_,_,_,_,_,_,_,_,_,_,_,_,_,_,_,_,_,_,_,_,_,_,_,_,_,_,_,_,_,_,_,_,_,_,_,_,_,_,_,_]) rfl ?_
  refine c_rseq (n := 71) ⟨rfl, rfl⟩ ?_
  refine s_val (r_move rfl) ?_
  refine s_val (r_eql rfl rfl) ?_
  refine c_nil (l' := [_,_,_,_,_,_,_,_,_,_,_,_,_,_,_,_,_,_,_,_,_,_,_,_,_,_,_,_,_,_,_,_,_,_,_,_,_,_,_,_,_,_,_,_,_,_,_,_,_,_,_,_,_,_,_,_,_,_,_,_,_,_,_,_,_,_,_,_,_,_,_]) rfl ?_
  refine c_ift rfl ?_
  refine c_rseq (n := 71) ⟨rfl, rfl⟩ ?_
  refine s_val (r_move rfl) ?_
  refine s_val (r_assign rfl) ?_
  refine s_val (r_assign rfl) ?_
  refine s_val (r_assign rfl) ?_
  refine c_nil (l' := [_,_,_,_,_,_,_,_,_,_,_,_,_,_,_,_,_,_,_,_,_,_,_,_,_,_,_,_,_,_,_,_,_,_,_,_,_,_,_,_,_,_,_,_,_,_,_,_,_,_,_,_,_,_,_,_,_,_,_,_,_,_,_,_,_,_,_,_,_,_,_]) rfl ?_
  refine wp_ret (x_thenRet ?_)
  refine e_ret (res3 rfl rfl rfl rfl) ⟨_, rfl, ?_⟩
  exact ⟨rfl, H.sub (List.nil_sublist _)⟩

set_option maxHeartbeats 4000000 in
theorem append_nil  (w0 : World) :
    Calls Try.prog 15 #[.pointer none, .slice none 0 0] w0 fun e w => ∃ v, e = .returned v ∧ (v = .tuple #[.int .i64 0, .int .i64 1] ∧ St w0 [] w []) := by
  have H := St.refl w0
  refine c_enter (args := [.pointer none, .slice none 0 0]) (l := [.pointer none, .slice none 0 0, undef, undef, undef, undef, undef, undef, undef, undef, undef, undef, undef, undef, undef, undef, undef, undef, undef, undef, undef, undef, undef, undef, undef, undef, undef, undef, undef, undef, undef, undef, undef, undef, undef, undef, undef, undef, undef, undef, undef, undef, undef, undef, undef, undef, undef, undef, undef, undef, undef, undef, undef, undef, undef, undef, undef, undef, undef, undef, undef, undef, undef, undef, undef, undef, undef, undef, undef, undef, undef, undef, undef, undef, undef, undef, undef, undef, undef, undef, undef, undef, undef, undef, undef, undef, undef, undef]) Try.func15 Try.ntmps15 rfl rfl ?_
  refine c_rseq (n := 88) ⟨rfl, rfl⟩ ?_
  refine s_val (r_assign rfl) ?_
  refine s_val (r_assign rfl) ?_
  refine c_nil (l' := [_,_,_,_,_,_,_,_,_,_,_,_,_,_,_,_,_,_,_,_,_,_,_,_,_,_,_,_,_,_,_,_,_,_,_,_,_,_,_,_,_,_,_,_,_,_,_,_,_,_,_,_,_,_,_,_,_,_,_,_,_,_,_,_,_,_,_,_,_,_,_,_,_,_,_,_,_,_,_,_,_,_,_,_,_,_,_,_]) rfl ?_
  refine c_seq ?_
  refine wp_block ?_
  refine c_rseq (n := 88) ⟨rfl, rfl⟩ ?_
  refine s_val (r_move rfl) ?_
  refine s_val (r_nilpT Try.runUnderlying28 rfl rfl) ?_
  refine s_val (r_assign rfl) ?_
  refine c_nil (l' := [_,_,_,_,_,_,_,_,_,_,_,_,_,_,_,_,_,_,_,_,_,_,_,_,_,_,_,_,_,_,_,_,_,_,_,_,_,_,_,_,_,_,_,_,_,_,_,_,_,_,_,_,_,_,_,_,_,_,_,_,_,_,_,_,_,_,_,_,_,_,_,_,_,_,_,_,_,_,_,_,_,_,_,_,_,_,_,_]) rfl ?_
  refine c_ift rfl ?_
  refine c_rseq (n := 88) ⟨rfl, rfl⟩ ?_
  refine s_val (r_assign rfl) ?_
  refine s_val (r_assign rfl) ?_
  refine c_nil (l' := [_,_,_,_,_,_,_,_,_,_,_,_,_,_,_,_,_,_,_,_,_,_,_,_,_,_,_,_,_,_,_,_,_,_,_,_,_,_,_,_,_,_,_,_,_,_,_,_,_,_,_,_,_,_,_,_,_,_,_,_,_,_,_,_,_,_,_,_,_,_,_,_,_,_,_,_,_,_,_,_,_,_,_,_,_,_,_,_]) rfl ?_
  refine wp_ret (x_blockRet (x_thenRet ?_))
  refine e_ret (res2 rfl rfl rfl) ⟨_, rfl, ?_⟩
  exact ⟨rfl, H.sub (List.nil_sublist _)⟩

set_option maxHeartbeats 4000000 in
theorem read_nil  (w0 : World) :
    Calls Try.prog 19 #[.pointer none, .int .i64 2] w0 fun e w => ∃ v, e = .returned v ∧ (v = .tuple #[.slice none 0 0, .int .i64 1] ∧ St w0 [] w []) := by
  have H := St.refl w0
  refine c_enter (args := [.pointer none, .int .i64 2]) (l := [.pointer none, .int .i64 2, undef, undef, undef, undef, undef, undef, undef, undef, undef, undef, undef, undef, undef, undef, undef, undef, undef, undef, undef, undef, undef, undef, undef, undef, undef, undef, undef, undef, undef, undef, undef, undef, undef, undef, undef, undef, undef, undef, undef, undef, undef, undef, undef, undef, undef, undef, undef, undef, undef, undef, undef, undef, undef, undef, undef, undef, undef, undef, undef, undef, undef, undef, undef, undef, undef, undef, undef, undef, undef, undef, undef, undef]) Try.func19 Try.ntmps19 rfl rfl ?_
  refine c_rseq (n := 74) ⟨rfl, rfl⟩ ?_
  refine s_val (r_assign rfl) ?_
  refine s_val (r_assign rfl) ?_
  refine c_nil (l' := [_,_,_,_,_,_,_,_,_,_,_,_,_,_,_,_,_,_,_,_,_,_,_,_,_,_,_,_,_,_,_,_,_,_,_,_,_,_,_,_,_,_,_,_,_,_,_,_,_,_,_,_,_,_,_,_,_,_,_,_,_,_,_,_,_,_,_,_,_,_,_,_,_,_]) rfl ?_
  refine c_seq ?_
  refine c_rseq (n := 74) ⟨rfl, rfl⟩ ?_
  refine s_val (r_move rfl) ?_
  refine s_val (r_nilpT Try.runUnderlying28 rfl rfl) ?_
  refine c_nil (l' := [_,_,_,_,_,_,_,_,_,_,_,_,_,_,_,_,_,_,_,_,_,_,_,_,_,_,_,_,_,_,_,_,_,_,_,_,_,_,_,_,_,_,_,_,_,_,_,_,_,_,_,_,_,_,_,_,_,_,_,_,_,_,_,_,_,_,_,_,_,_,_,_,_,_]) rfl ?_
  refine c_ift rfl ?_
  refine c_rseq (n := 74) ⟨rfl, rfl⟩ ?_
  refine s_val (r_assign rfl) ?_
  refine s_val (r_assign rfl) ?_
  refine c_nil (l' := [_,_,_,_,_,_,_,_,_,_,_,_,_,_,_,_,_,_,_,_,_,_,_,_,_,_,_,_,_,_,_,_,_,_,_,_,_,_,_,_,_,_,_,_,_,_,_,_,_,_,_,_,_,_,_,_,_,_,_,_,_,_,_,_,_,_,_,_,_,_,_,_,_,_]) rfl ?_
  refine wp_ret (x_thenRet ?_)
  refine e_ret (res2 rfl rfl rfl) ⟨_, rfl, ?_⟩
  exact ⟨rfl, H.sub (List.nil_sublist _)⟩

set_option maxHeartbeats 4000000 in
theorem head_nil  (w0 : World) :
    Calls Try.prog 31 #[.pointer none] w0 fun e w => ∃ v, e = .returned v ∧ (v = .tuple #[.int .i64 (-1), .int .i64 0] ∧ St w0 [] w []) := by
  have H := St.refl w0
  refine c_enter (args := [.pointer none]) (l := [.pointer none, undef, undef, undef, undef, undef, undef, undef, undef, undef, undef, undef, undef, undef, undef, undef, undef, undef, undef, undef, undef]) Try.func31 Try.ntmps31 rfl rfl ?_
  refine c_rseq (n := 21) ⟨rfl, rfl⟩ ?_
  refine s_val (r_assign rfl) ?_
  refine s_val (r_assign rfl) ?_
  refine c_nil (l' := [_,_,_,_,_,_,_,_,_,_,_,_,_,_,_,_,_,_,_,_,_]) rfl ?_
  refine c_seq ?_
  refine c_rseq (n := 21) ⟨rfl, rfl⟩ ?_
  refine s_val (r_move rfl) ?_
  refine s_val (r_nilpT Try.runUnderlying28 rfl rfl) ?_
  refine s_val (r_move rfl) ?_
  refine g_no rfl rfl (by decide) ?_
  refine g_no rfl rfl (by decide) ?_
  refine g_no rfl rfl (by decide) ?_
  refine g_no rfl rfl (by decide) ?_
  refine g_no rfl rfl (by decide) ?_
  refine s_val (r_pickt rfl rfl) ?_
  refine c_nil (l' := [_,_,_,_,_,_,_,_,_,_,_,_,_,_,_,_,_,_,_,_,_]) rfl ?_
  refine c_ift rfl ?_
  refine c_rseq (n := 21) ⟨rfl, rfl⟩ ?_
  refine s_val (r_assign rfl) ?_
  refine s_val (r_assign rfl) ?_
  refine c_nil (l' := [_,_,_,_,_,_,_,_,_,_,_,_,_,_,_,_,_,_,_,_,_]) rfl ?_
  refine wp_ret (x_thenRet ?_)
  refine e_ret (res2 rfl rfl rfl) ⟨_, rfl, ?_⟩
  exact ⟨rfl, H.sub (List.nil_sublist _)⟩

set_option maxHeartbeats 4000000 in
theorem flush_nil  (w0 : World) :
    Calls Try.prog 14 #[.pointer none] w0 fun e w => ∃ v, e = .returned v ∧ (v = .int .i64 1 ∧ St w0 [] w []) := by
  have H := St.refl w0
  refine c_enter (args := [.pointer none]) (l := [.pointer none, undef, undef, undef, undef, undef, undef, undef, undef, undef]) Try.func14 Try.ntmps14 rfl rfl ?_
  refine c_rseq (n := 10) ⟨rfl, rfl⟩ ?_
  refine s_val (r_assign rfl) ?_
  refine c_nil (l' := [_,_,_,_,_,_,_,_,_,_]) rfl ?_
  refine c_seq ?_
  refine c_rseq (n := 10) ⟨rfl, rfl⟩ ?_
  refine s_val (r_move rfl) ?_
  refine s_val (r_nilpT Try.runUnderlying28 rfl rfl) ?_
  refine c_nil (l' := [_,_,_,_,_,_,_,_,_,_]) rfl ?_
  refine c_ift rfl ?_
  refine c_rseq (n := 10) ⟨rfl, rfl⟩ ?_
  refine s_val (r_assign rfl) ?_
  refine c_nil (l' := [_,_,_,_,_,_,_,_,_,_]) rfl ?_
  refine wp_ret (x_thenRet ?_)
  refine e_ret (res1 rfl rfl) ⟨_, rfl, ?_⟩
  exact ⟨rfl, H.sub (List.nil_sublist _)⟩

set_option maxHeartbeats 4000000 in
theorem free_nil  (w0 : World) :
    Calls Try.prog 13 #[.pointer none, .int .i64 0] w0 fun e w => ∃ v, e = .returned v ∧ (v = .int .i64 1 ∧ St w0 [] w []) := by
  have H := St.refl w0
  refine c_enter (args := [.pointer none, .int .i64 0]) (l := [.pointer none, .int .i64 0, undef, undef, undef, undef, undef, undef, undef, undef, undef, undef, undef, undef, undef, undef, undef, undef, undef, undef, undef, undef, undef, undef, undef, undef, undef, undef, undef, undef, undef, undef, undef, undef, undef, undef, undef, undef, undef, undef, undef, undef]) Try.func13 Try.ntmps13 rfl rfl ?_
  refine c_rseq (n := 42) ⟨rfl, rfl⟩ ?_
  refine s_val (r_assign rfl) ?_
  refine c_nil (l' := [_,_,_,_,_,_,_,_,_,_,_,_,_,_,_,_,_,_,_,_,_,_,_,_,_,_,_,_,_,_,_,_,_,_,_,_,_,_,_,_,_,_]) rfl ?_
  refine c_seq ?_
  refine wp_block ?_
  refine c_rseq (n := 42) ⟨rfl, rfl⟩ ?_
  refine s_val (r_move rfl) ?_
  refine s_val (r_nilpT Try.runUnderlying28 rfl rfl) ?_
  refine s_val (r_assign rfl) ?_
  refine c_nil (l' := [_,_,_,_,_,_,_,_,_,_,_,_,_,_,_,_,_,_,_,_,_,_,_,_,_,_,_,_,_,_,_,_,_,_,_,_,_,_,_,_,_,_]) rfl ?_
  refine c_ift rfl ?_
  refine c_rseq (n := 42) ⟨rfl, rfl⟩ ?_
  refine s_val (r_assign rfl) ?_
  refine c_nil (l' := [_,_,_,_,_,_,_,_,_,_,_,_,_,_,_,_,_,_,_,_,_,_,_,_,_,_,_,_,_,_,_,_,_,_,_,_,_,_,_,_,_,_]) rfl ?_
  refine wp_ret (x_blockRet (x_thenRet ?_))
  refine e_ret (res1 rfl rfl) ⟨_, rfl, ?_⟩
  exact ⟨rfl, H.sub (List.nil_sublist _)⟩

set_option maxHeartbeats 4000000 in
theorem gen_nil  (w0 : World) :
    Calls Try.prog 26 #[.pointer none, .int .i64 0] w0 fun e w => ∃ v, e = .returned v ∧ (v = .int .u64 0 ∧ St w0 [] w []) := by
  have H := St.refl w0
  refine c_enter (args := [.pointer none, .int .i64 0]) (l := [.pointer none, .int .i64 0, undef, undef, undef, undef, undef, undef, undef, undef, undef, undef, undef, undef, undef, undef, undef, undef, undef, undef, undef, undef, undef, undef, undef, undef, undef]) Try.func26 Try.ntmps26 rfl rfl ?_
  refine c_rseq (n := 27) ⟨rfl, rfl⟩ ?_
  refine s_val (r_assign rfl) ?_
  refine c_nil (l' := [_,_,_,_,_,_,_,_,_,_,_,_,_,_,_,_,_,_,_,_,_,_,_,_,_,_,_]) rfl ?_
  refine c_seq ?_
  refine c_rseq (n := 27) ⟨rfl, rfl⟩ ?_
  refine s_val (r_move rfl) ?_
  refine s_val (r_nilpT Try.runUnderlying28 rfl rfl) ?_
  refine s_val (r_move rfl) ?_
  refine g_no rfl rfl (by decide) ?_
  refine g_no rfl rfl (by decide) ?_
  refine s_val (r_pickt rfl rfl) ?_
  refine s_val (r_move rfl) ?_
  refine g_no rfl rfl (by decide) ?_
  refine g_no rfl rfl (by decide) ?_
  refine g_no rfl rfl (by decide) ?_
  refine g_no rfl rfl (by decide) ?_
  refine g_no rfl rfl (by decide) ?_
  refine g_no rfl rfl (by decide) ?_
  refine g_no rfl rfl (by decide) ?_
  refine s_val (r_pickt rfl rfl) ?_
  refine c_nil (l' := [_,_,_,_,_,_,_,_,_,_,_,_,_,_,_,_,_,_,_,_,_,_,_,_,_,_,_]) rfl ?_
  refine c_ift rfl ?_
  refine c_rseq (n := 27) ⟨rfl, rfl⟩ ?_
  refine s_val (r_assign rfl) ?_
  refine c_nil (l' := [_,_,_,_,_,_,_,_,_,_,_,_,_,_,_,_,_,_,_,_,_,_,_,_,_,_,_]) rfl ?_
  refine wp_ret (x_thenRet ?_)
  refine e_ret (res1 rfl rfl) ⟨_, rfl, ?_⟩
  exact ⟨rfl, H.sub (List.nil_sublist _)⟩

set_option maxHeartbeats 4000000 in
theorem room_nil  (w0 : World) :
    Calls Try.prog 24 #[.pointer none] w0 fun e w => ∃ v, e = .returned v ∧ (v = .int .i64 0 ∧ St w0 [] w []) := by
  have H := St.refl w0
  refine c_enter (args := [.pointer none]) (l := [.pointer none, undef, undef, undef, undef, undef, undef, undef, undef, undef, undef, undef, undef, undef, undef, undef, undef, undef, undef, undef, undef, undef, undef, undef, undef, undef, undef, undef, undef, undef, undef, undef, undef, undef, undef, undef, undef, undef, undef, undef, undef, undef, undef]) Try.func24 Try.ntmps24 rfl rfl ?_
  refine c_rseq (n := 43) ⟨rfl, rfl⟩ ?_
  refine s_val (r_assign rfl) ?_
  refine c_nil (l' := [_,_,_,_,_,_,_,_,_,_,_,_,_,_,_,_,_,_,_,_,_,_,_,_,_,_,_,_,_,_,_,_,_,_,_,_,_,_,_,_,_,_,_]) rfl ?_
  refine c_seq ?_
  refine c_rseq (n := 43) ⟨rfl, rfl⟩ ?_
  refine s_val (r_move rfl) ?_
  refine s_val (r_nilpT Try.runUnderlying28 rfl rfl) ?_
  refine c_nil (l' := [_,_,_,_,_,_,_,_,_,_,_,_,_,_,_,_,_,_,_,_,_,_,_,_,_,_,_,_,_,_,_,_,_,_,_,_,_,_,_,_,_,_,_]) rfl ?_
  refine c_ift rfl ?_
  refine c_rseq (n := 43) ⟨rfl, rfl⟩ ?_
  refine s_val (r_assign rfl) ?_
  refine c_nil (l' := [_,_,_,_,_,_,_,_,_,_,_,_,_,_,_,_,_,_,_,_,_,_,_,_,_,_,_,_,_,_,_,_,_,_,_,_,_,_,_,_,_,_,_]) rfl ?_
  refine wp_ret (x_thenRet ?_)
  refine e_ret (res1 rfl rfl) ⟨_, rfl, ?_⟩
  exact ⟨rfl, H.sub (List.nil_sublist _)⟩

theorem newlog_any (bm ba ma bb mb k : Nat) (gv : Value) (Tm : TypeId) (fzm : Nat × Nat) (cs : List Value) (g z : Int) (w0 : World) (hbm : w0.heap[bm]? = some (.cells (mC ba ma bb mb k gv).toArray Tm fzm)) :
    Calls Try.prog 30 #[.pointer (some ⟨bm, 0, none⟩), .iface 72 (.agg cs.toArray), .agg (shC g z).toArray] w0 fun e w => ∃ v, e = .returned v ∧ ((shE g z = 0 ∧ 2 + g * z ≤ (k : Int) ∧ ∃ bl bu, v = .tuple #[.pointer (some ⟨bl, 0, none⟩), .int .i64 0] ∧ St w0 [] w [(bl, .cells (lgC bm (.iface 72 (.agg cs.toArray)) g z bu g.toNat (-1) 0 0).toArray 91 (0, 0)), (bu, .cells (uC (List.replicate g.toNat 0)).toArray 36 (0, 0))]) ∨ (¬ (shE g z = 0 ∧ 2 + g * z ≤ (k : Int)) ∧ v = .tuple #[.pointer none, .int .i64 2] ∧ St w0 [] w [])) := by
  by_cases h : shE g z = 0 ∧ 2 + g * z ≤ (k : Int)
  · obtain ⟨q1, q2, q3, q4⟩ := shE_ok h.1
    exact (newlogq_spec bm ba ma bb mb k gv Tm fzm cs g z q1 q2 q3 q4 h.2 w0 hbm).mono fun _ _ ⟨v, he, hv⟩ => ⟨v, he, .inl ⟨h.1, h.2, hv⟩⟩
  · exact (newlog_bad bm ba ma bb mb k gv Tm fzm cs g z h w0 hbm).mono fun _ _ ⟨v, he, hv⟩ => ⟨v, he, .inr ⟨h, hv⟩⟩

end Go.Proofs.Ytbjalofmamoffaa

