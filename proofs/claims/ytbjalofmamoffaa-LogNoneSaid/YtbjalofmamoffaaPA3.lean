import Derived.Test.YtbjalofmamoffaaPA1
import Derived.Test.YtbjalofmamoffaaPV1
namespace Go.Proofs.Ytbjalofmamoffaa
open Go Go.Er
set_option linter.unusedSimpArgs false in
theorem places30 : Places Try.prog #[⟨ "Segs", 3, 0, false, "", "", 0⟩, ⟨ "Size", 3, 1, false, "", "", 8⟩] [(0, 1), (1, 1)] := fun w => by simp [Try.sizeOf3 w]
theorem pairT30 : PairT Try.prog 30 := ⟨by kernel_rfl, by kernel_rfl, by kernel_rfl, ⟨ "Segs", 3, 0, false, "", "", 0⟩, ⟨ "Size", 3, 1, false, "", "", 8⟩, by kernel_rfl, by decide, by decide, rfl, rfl, by kernel_rfl, by kernel_rfl, Try.isAgg3, Try.isAgg3⟩

set_option maxHeartbeats 4000000 in
theorem check_spec (g z : Int) (hg0 : 3 ≤ g) (hg1 : g ≤ 64) (hz0 : 1 ≤ z) (hz1 : z ≤ 32) (w0 : World) :
    Calls Try.prog 29 #[.agg (shC g z).toArray] w0 fun e w => ∃ v, e = .returned v ∧ (v = .int .i64 0 ∧ St w0 [] w []) := by
  have H := St.refl w0
  refine c_enter (args := [.agg (shC g z).toArray]) (l := [.agg (shC g z).toArray, undef, undef, undef, undef, undef, undef, undef, undef, undef, undef, undef, undef, undef, undef, undef, undef, undef, undef, undef, undef]) Try.func29 Try.ntmps29 rfl rfl ?_
  refine c_rseq (n := 21) ⟨rfl, rfl⟩ ?_
  refine s_new (m_box (cs := (shC g z)) H rfl rfl) ?_
  intro w b1 H
  refine s_val (r_assign rfl) ?_
  refine c_nil (l' := [_,_,_,_,_,_,_,_,_,_,_,_,_,_,_,_,_,_,_,_,_]) rfl ?_
  refine c_seq ?_
  refine c_rseq (n := 21) ⟨rfl, rfl⟩ ?_
  refine s_val (r_fieldAddr (k := 0) Try.runUnderlying30 rfl Try.sizeOf3 (by decide) rfl rfl) ?_
  refine s_val (r_load1 Try.isAgg3 rfl (H.at 0 rfl) rfl) ?_
  refine s_test (r_lss rfl rfl) (fun h5 => ?_) (fun h5 => ?_)
  · skip
    exfalso; omega
  · skip
    refine s_val (r_move rfl) ?_
    refine g_yes rfl rfl ?_
    refine s_val (r_fieldAddr (k := 0) Try.runUnderlying30 rfl Try.sizeOf3 (by decide) rfl rfl) ?_
    refine g_yes rfl rfl ?_
    refine s_val (r_load1 Try.isAgg3 rfl (H.at 0 rfl) rfl) ?_
    refine g_yes rfl rfl ?_
    refine s_test (r_gtr rfl rfl) (fun h9 => ?_) (fun h9 => ?_)
    · skip
      exfalso; omega
    · skip
      refine s_val (r_pickf rfl rfl) ?_
      refine s_val (r_move rfl) ?_
      refine g_yes rfl rfl ?_
      refine s_val (r_fieldAddr (k := 1) Try.runUnderlying30 rfl Try.sizeOf3 (by decide) rfl rfl) ?_
      refine g_yes rfl rfl ?_
      refine s_val (r_load1 Try.isAgg3 rfl (H.at 0 rfl) rfl) ?_
      refine g_yes rfl rfl ?_
      refine s_test (r_lss rfl rfl) (fun h14 => ?_) (fun h14 => ?_)
      · skip
        exfalso; omega
      · skip
        refine s_val (r_pickf rfl rfl) ?_
        refine s_val (r_move rfl) ?_
        refine g_yes rfl rfl ?_
        refine s_val (r_fieldAddr (k := 1) Try.runUnderlying30 rfl Try.sizeOf3 (by decide) rfl rfl) ?_
        refine g_yes rfl rfl ?_
        refine s_val (r_load1 Try.isAgg3 rfl (H.at 0 rfl) rfl) ?_
        refine g_yes rfl rfl ?_
        refine s_val (r_gtr rfl rfl) ?_
        refine s_val (r_pickf rfl rfl) ?_
        refine c_nil (l' := [_,_,_,_,_,_,_,_,_,_,_,_,_,_,_,_,_,_,_,_,_]) rfl ?_
        refine c_if rfl (fun h20 => ?_) (fun h20 => ?_)
        · skip
          exfalso; omega
        · skip
          refine wp_skip ?_
          refine x_thenNormal ?_
          refine c_rseq (n := 21) ⟨rfl, rfl⟩ ?_
          refine s_val (r_assign rfl) ?_
          refine c_nil (l' := [_,_,_,_,_,_,_,_,_,_,_,_,_,_,_,_,_,_,_,_,_]) rfl ?_
          refine wp_ret ?_
          refine e_ret (res1 rfl rfl) ⟨_, rfl, ?_⟩
          exact ⟨rfl, H.sub (List.nil_sublist _)⟩

set_option maxHeartbeats 4000000 in
theorem may_spec (g z : Int) (hg0 : 3 ≤ g) (hg1 : g ≤ 64) (hz0 : 1 ≤ z) (hz1 : z ≤ 32) (w0 : World) :
    Calls Try.prog 39 #[.agg (shC g z).toArray] w0 fun e w => ∃ v, e = .returned v ∧ (v = .bool true ∧ St w0 [] w []) := by
  have H := St.refl w0
  refine c_enter (args := [.agg (shC g z).toArray]) (l := [.agg (shC g z).toArray, undef, undef, undef, undef, undef, undef, undef, undef, undef, undef]) Try.func39 Try.ntmps39 rfl rfl ?_
  refine c_rseq (n := 11) ⟨rfl, rfl⟩ ?_
  refine s_new (m_box (cs := (shC g z)) H rfl rfl) ?_
  intro w b1 H
  refine s_val (r_assign rfl) ?_
  refine c_nil (l' := [_,_,_,_,_,_,_,_,_,_,_]) rfl ?_
  refine c_rseq (n := 11) ⟨rfl, rfl⟩ ?_
  refine s_val (r_loadn Try.isAgg30 Try.sizeOf30 rfl (H.at 0 rfl) (by first | exact (kC_td _) | exact (hC_td _) | exact (hC_seed _) | exact (shC_td _ _)) (by first | exact (kC_length _) | exact (hC_length _) | exact (shC_length _ _) | exact rfl)) ?_
  refine s_val (r_buildS Try.runUnderlying30 Try.zeroValue30 places30 pn rfl) ?_
  refine s_val (r_neqP pairT30 rfl rfl (by rw [decide_eq_false (by omega)]; first | done | rfl)) ?_
  refine s_val (r_move rfl) ?_
  refine g_yes rfl rfl ?_
  refine s_val (r_loadn Try.isAgg30 Try.sizeOf30 rfl (H.at 0 rfl) (by first | exact (kC_td _) | exact (hC_td _) | exact (hC_seed _) | exact (shC_td _ _)) (by first | exact (kC_length _) | exact (hC_length _) | exact (shC_length _ _) | exact rfl)) ?_
  refine g_yes rfl rfl ?_
  refine s_call (r_call Try.call29 (ec rfl en)) (check_spec g z (by omega) (by omega) (by omega) (by omega) _) ?_
  rintro v w ⟨rfl, HC⟩
  replace H := H.quiet HC
  refine g_yes rfl rfl ?_
  refine s_val (r_eql rfl rfl) ?_
  refine s_val (r_pickt rfl rfl) ?_
  refine s_val (r_assign rfl) ?_
  refine c_nil (l' := [_,_,_,_,_,_,_,_,_,_,_]) rfl ?_
  refine wp_ret ?_
  refine e_ret (res1 rfl rfl) ⟨_, rfl, ?_⟩
  exact ⟨rfl, H.sub (List.nil_sublist _)⟩

set_option maxHeartbeats 4000000 in
theorem sectors_spec (g z : Int) (hg0 : 3 ≤ g) (hg1 : g ≤ 64) (hz0 : 1 ≤ z) (hz1 : z ≤ 32) (w0 : World) :
    Calls Try.prog 18 #[.agg (shC g z).toArray] w0 fun e w => ∃ v, e = .returned v ∧ (v = .int .i64 (2 + g * z) ∧ St w0 [] w []) := by
  have H := St.refl w0
  refine c_enter (args := [.agg (shC g z).toArray]) (l := [.agg (shC g z).toArray, undef, undef, undef, undef, undef, undef, undef, undef, undef, undef, undef]) Try.func18 Try.ntmps18 rfl rfl ?_
  refine c_rseq (n := 12) ⟨rfl, rfl⟩ ?_
  refine s_new (m_box (cs := (shC g z)) H rfl rfl) ?_
  intro w b1 H
  refine s_val (r_assign rfl) ?_
  refine c_nil (l' := [_,_,_,_,_,_,_,_,_,_,_,_]) rfl ?_
  refine c_seq ?_
  refine c_rseq (n := 12) ⟨rfl, rfl⟩ ?_
  refine s_val (r_loadn Try.isAgg30 Try.sizeOf30 rfl (H.at 0 rfl) (by first | exact (kC_td _) | exact (hC_td _) | exact (hC_seed _) | exact (shC_td _ _)) (by first | exact (kC_length _) | exact (hC_length _) | exact (shC_length _ _) | exact rfl)) ?_
  refine s_call (r_call Try.call39 (ec rfl en)) (may_spec g z (by omega) (by omega) (by omega) (by omega) _) ?_
  rintro v w ⟨rfl, HC⟩
  replace H := H.quiet HC
  refine s_val (r_not rfl) ?_
  refine c_nil (l' := [_,_,_,_,_,_,_,_,_,_,_,_]) rfl ?_
  refine c_iff rfl ?_
  refine wp_skip ?_
  refine x_thenNormal ?_
  refine c_rseq (n := 12) ⟨rfl, rfl⟩ ?_
  refine s_val (r_fieldAddr (k := 0) Try.runUnderlying30 rfl Try.sizeOf3 (by decide) rfl rfl) ?_
  refine s_val (r_load1 Try.isAgg3 rfl (H.at 0 rfl) rfl) ?_
  refine s_val (r_fieldAddr (k := 1) Try.runUnderlying30 rfl Try.sizeOf3 (by decide) rfl rfl) ?_
  refine s_val (r_load1 Try.isAgg3 rfl (H.at 0 rfl) rfl) ?_
  have hgz := gz_rng (g := g) (z := z) (by omega) hg1 (by omega) hz1
  refine s_val (r_mul rfl rfl (w_i64 (by omega) (by omega))) ?_
  refine s_val (r_add rfl rfl (w_i64 (by omega) (by omega))) ?_
  refine s_val (r_assign rfl) ?_
  refine c_nil (l' := [_,_,_,_,_,_,_,_,_,_,_,_]) rfl ?_
  refine wp_ret ?_
  refine e_ret (res1 rfl rfl) ⟨_, rfl, ?_⟩
  exact ⟨rfl, H.sub (List.nil_sublist _)⟩

set_option maxHeartbeats 4000000 in
theorem sector_spec (g z : Int) (hg0 : 3 ≤ g) (hg1 : g ≤ 64) (hz0 : 1 ≤ z) (hz1 : z ≤ 32) (s t : Int) (hs0 : 0 ≤ s) (hs1 : s < g) (ht0 : 0 ≤ t) (ht1 : t < z) (w0 : World) :
    Calls Try.prog 34 #[.agg (shC g z).toArray, .int .i64 s, .int .i64 t] w0 fun e w => ∃ v, e = .returned v ∧ (v = .tuple #[.int .i64 (2 + s * z + t), .bool true] ∧ St w0 [] w []) := by
  have H := St.refl w0
  refine c_enter (args := [.agg (shC g z).toArray, .int .i64 s, .int .i64 t]) (l := [.agg (shC g z).toArray, .int .i64 s, .int .i64 t, undef, undef, undef, undef, undef, undef, undef, undef, undef, undef, undef, undef, undef, undef, undef, undef, undef, undef, undef, undef, undef, undef, undef, undef, undef, undef, undef, undef, undef, undef, undef, undef, undef, undef, undef]) Try.func34 Try.ntmps34 rfl rfl ?_
  refine c_rseq (n := 38) ⟨rfl, rfl⟩ ?_
  refine s_new (m_box (cs := (shC g z)) H rfl rfl) ?_
  intro w b3 H
  refine s_val (r_assign rfl) ?_
  refine s_val (r_assign rfl) ?_
  refine c_nil (l' := [_,_,_,_,_,_,_,_,_,_,_,_,_,_,_,_,_,_,_,_,_,_,_,_,_,_,_,_,_,_,_,_,_,_,_,_,_,_]) rfl ?_
  refine c_seq ?_
  refine c_rseq (n := 38) ⟨rfl, rfl⟩ ?_
  refine s_val (r_loadn Try.isAgg30 Try.sizeOf30 rfl (H.at 0 rfl) (by first | exact (kC_td _) | exact (hC_td _) | exact (hC_seed _) | exact (shC_td _ _)) (by first | exact (kC_length _) | exact (hC_length _) | exact (shC_length _ _) | exact rfl)) ?_
  refine s_call (r_call Try.call39 (ec rfl en)) (may_spec g z (by omega) (by omega) (by omega) (by omega) _) ?_
  rintro v w ⟨rfl, HC⟩
  replace H := H.quiet HC
  refine s_val (r_not rfl) ?_
  refine s_val (r_move rfl) ?_
  refine g_yes rfl rfl ?_
  refine s_val (r_move rfl) ?_
  refine g_yes rfl rfl ?_
  refine s_test (r_lss rfl rfl) (fun h13 => ?_) (fun h13 => ?_)
  · skip
    exfalso; omega
  · skip
    refine s_val (r_pickf rfl rfl) ?_
    refine s_val (r_move rfl) ?_
    refine g_yes rfl rfl ?_
    refine s_val (r_move rfl) ?_
    refine g_yes rfl rfl ?_
    refine s_val (r_fieldAddr (k := 0) Try.runUnderlying30 rfl Try.sizeOf3 (by decide) rfl rfl) ?_
    refine g_yes rfl rfl ?_
    refine s_val (r_load1 Try.isAgg3 rfl (H.at 0 rfl) rfl) ?_
    refine g_yes rfl rfl ?_
    refine s_test (r_geq rfl rfl) (fun h19 => ?_) (fun h19 => ?_)
    · skip
      exfalso; omega
    · skip
      refine s_val (r_pickf rfl rfl) ?_
      refine s_val (r_move rfl) ?_
      refine g_yes rfl rfl ?_
      refine s_val (r_move rfl) ?_
      refine g_yes rfl rfl ?_
      refine s_test (r_lss rfl rfl) (fun h23 => ?_) (fun h23 => ?_)
      · skip
        exfalso; omega
      · skip
        refine s_val (r_pickf rfl rfl) ?_
        refine s_val (r_move rfl) ?_
        refine g_yes rfl rfl ?_
        refine s_val (r_move rfl) ?_
        refine g_yes rfl rfl ?_
        refine s_val (r_fieldAddr (k := 1) Try.runUnderlying30 rfl Try.sizeOf3 (by decide) rfl rfl) ?_
        refine g_yes rfl rfl ?_
        refine s_val (r_load1 Try.isAgg3 rfl (H.at 0 rfl) rfl) ?_
        refine g_yes rfl rfl ?_
        refine s_val (r_geq rfl rfl) ?_
        refine s_val (r_pickf rfl rfl) ?_
        refine c_nil (l' := [_,_,_,_,_,_,_,_,_,_,_,_,_,_,_,_,_,_,_,_,_,_,_,_,_,_,_,_,_,_,_,_,_,_,_,_,_,_]) rfl ?_
        refine c_if rfl (fun h30 => ?_) (fun h30 => ?_)
        · skip
          exfalso; omega
        · skip
          refine wp_skip ?_
          refine x_thenNormal ?_
          refine c_rseq (n := 38) ⟨rfl, rfl⟩ ?_
          refine s_val (r_move rfl) ?_
          refine s_val (r_fieldAddr (k := 1) Try.runUnderlying30 rfl Try.sizeOf3 (by decide) rfl rfl) ?_
          refine s_val (r_load1 Try.isAgg3 rfl (H.at 0 rfl) rfl) ?_
          have hgz := gz_rng (g := g) (z := z) (by omega) hg1 (by omega) hz1
          have hsz := sz_rng hs0 hs1 (z := z) (by omega)
          refine s_val (r_mul rfl rfl (w_i64 (by omega) (by omega))) ?_
          refine s_val (r_add rfl rfl (w_i64 (by omega) (by omega))) ?_
          refine s_val (r_move rfl) ?_
          refine s_val (r_add rfl rfl (w_i64 (by omega) (by omega))) ?_
          refine s_val (r_assign rfl) ?_
          refine s_val (r_assign rfl) ?_
          refine c_nil (l' := [_,_,_,_,_,_,_,_,_,_,_,_,_,_,_,_,_,_,_,_,_,_,_,_,_,_,_,_,_,_,_,_,_,_,_,_,_,_]) rfl ?_
          refine wp_ret ?_
          refine e_ret (res2 rfl rfl rfl) ⟨_, rfl, ?_⟩
          exact ⟨rfl, H.sub (List.nil_sublist _)⟩

set_option maxHeartbeats 4000000 in
theorem of_spec (g z : Int) (hg0 : 3 ≤ g) (hg1 : g ≤ 64) (hz0 : 1 ≤ z) (hz1 : z ≤ 32) (n : Int) (_hn0 : -1000000 ≤ n) (hn1 : n ≤ 1000000) (w0 : World) :
    Calls Try.prog 20 #[.agg (shC g z).toArray, .int .i64 n] w0 fun e w => ∃ v, e = .returned v ∧ (((n < 2 ∨ 2 + g * z ≤ n) ∧ v = .tuple #[.int .i64 0, .int .i64 0, .bool false] ∧ St w0 [] w []) ∨ (2 ≤ n ∧ n < 2 + g * z ∧ v = .tuple #[.int .i64 ((n - 2) / z), .int .i64 ((n - 2) % z), .bool true] ∧ St w0 [] w [])) := by
  have H := St.refl w0
  refine c_enter (args := [.agg (shC g z).toArray, .int .i64 n]) (l := [.agg (shC g z).toArray, .int .i64 n, undef, undef, undef, undef, undef, undef, undef, undef, undef, undef, undef, undef, undef, undef, undef, undef, undef, undef, undef, undef, undef, undef, undef, undef, undef, undef, undef, undef, undef]) Try.func20 Try.ntmps20 rfl rfl ?_
  refine c_rseq (n := 31) ⟨rfl, rfl⟩ ?_
  refine s_new (m_box (cs := (shC g z)) H rfl rfl) ?_
  intro w b2 H
  refine s_val (r_assign rfl) ?_
  refine s_val (r_assign rfl) ?_
  refine s_val (r_assign rfl) ?_
  refine c_nil (l' := [_,_,_,_,_,_,_,_,_,_,_,_,_,_,_,_,_,_,_,_,_,_,_,_,_,_,_,_,_,_,_]) rfl ?_
  refine c_seq ?_
  refine c_rseq (n := 31) ⟨rfl, rfl⟩ ?_
  refine s_val (r_loadn Try.isAgg30 Try.sizeOf30 rfl (H.at 0 rfl) (by first | exact (kC_td _) | exact (hC_td _) | exact (hC_seed _) | exact (shC_td _ _)) (by first | exact (kC_length _) | exact (hC_length _) | exact (shC_length _ _) | exact rfl)) ?_
  refine s_call (r_call Try.call39 (ec rfl en)) (may_spec g z (by omega) (by omega) (by omega) (by omega) _) ?_
  rintro v w ⟨rfl, HC⟩
  replace H := H.quiet HC
  refine s_val (r_not rfl) ?_
  refine s_val (r_move rfl) ?_
  refine g_yes rfl rfl ?_
  refine s_val (r_move rfl) ?_
  refine g_yes rfl rfl ?_
  refine s_test (r_lss rfl rfl) (fun h13 => ?_) (fun h13 => ?_)
  · skip
    refine s_val (r_pickf rfl rfl) ?_
    refine s_val (r_move rfl) ?_
    refine g_no rfl rfl (by decide) ?_
    refine g_no rfl rfl (by decide) ?_
    refine g_no rfl rfl (by decide) ?_
    refine g_no rfl rfl (by decide) ?_
    refine s_val (r_pickt rfl rfl) ?_
    refine c_nil (l' := [_,_,_,_,_,_,_,_,_,_,_,_,_,_,_,_,_,_,_,_,_,_,_,_,_,_,_,_,_,_,_]) rfl ?_
    refine c_ift rfl ?_
    refine c_rseq (n := 31) ⟨rfl, rfl⟩ ?_
    refine s_val (r_assign rfl) ?_
    refine s_val (r_assign rfl) ?_
    refine s_val (r_assign rfl) ?_
    refine c_nil (l' := [_,_,_,_,_,_,_,_,_,_,_,_,_,_,_,_,_,_,_,_,_,_,_,_,_,_,_,_,_,_,_]) rfl ?_
    refine wp_ret (x_thenRet ?_)
    refine e_ret (res3 rfl rfl rfl rfl) ⟨_, rfl, ?_⟩
    exact .inl ⟨.inl h13, rfl, H.sub (List.nil_sublist _)⟩
  · skip
    refine s_val (r_pickf rfl rfl) ?_
    refine s_val (r_move rfl) ?_
    refine g_yes rfl rfl ?_
    refine s_val (r_move rfl) ?_
    refine g_yes rfl rfl ?_
    refine s_val (r_loadn Try.isAgg30 Try.sizeOf30 rfl (H.at 0 rfl) (by first | exact (kC_td _) | exact (hC_td _) | exact (hC_seed _) | exact (shC_td _ _)) (by first | exact (kC_length _) | exact (hC_length _) | exact (shC_length _ _) | exact rfl)) ?_
    refine g_yes rfl rfl ?_
    have hgz := gz_rng (g := g) (z := z) (by omega) hg1 (by omega) hz1
    refine s_call (r_call Try.call18 (ec rfl en)) (sectors_spec g z (by omega) (by omega) (by omega) (by omega) _) ?_
    rintro v w ⟨rfl, HC⟩
    replace H := H.quiet HC
    refine g_yes rfl rfl ?_
    refine s_val (r_geq rfl rfl) ?_
    refine s_val (r_pickf rfl rfl) ?_
    refine c_nil (l' := [_,_,_,_,_,_,_,_,_,_,_,_,_,_,_,_,_,_,_,_,_,_,_,_,_,_,_,_,_,_,_]) rfl ?_
    refine c_if rfl (fun h20 => ?_) (fun h20 => ?_)
    · skip
      refine c_rseq (n := 31) ⟨rfl, rfl⟩ ?_
      refine s_val (r_assign rfl) ?_
      refine s_val (r_assign rfl) ?_
      refine s_val (r_assign rfl) ?_
      refine c_nil (l' := [_,_,_,_,_,_,_,_,_,_,_,_,_,_,_,_,_,_,_,_,_,_,_,_,_,_,_,_,_,_,_]) rfl ?_
      refine wp_ret (x_thenRet ?_)
      refine e_ret (res3 rfl rfl rfl rfl) ⟨_, rfl, ?_⟩
      exact .inl ⟨.inr h20, rfl, H.sub (List.nil_sublist _)⟩
    · skip
      refine wp_skip ?_
      refine x_thenNormal ?_
      refine c_rseq (n := 31) ⟨rfl, rfl⟩ ?_
      refine s_val (r_move rfl) ?_
      refine s_val (r_sub rfl rfl (w_i64 (by omega) (by omega))) ?_
      refine s_val (r_assign rfl) ?_
      refine c_nil (l' := [_,_,_,_,_,_,_,_,_,_,_,_,_,_,_,_,_,_,_,_,_,_,_,_,_,_,_,_,_,_,_]) rfl ?_
      refine c_seq ?_
      refine d_begin (sz := 31) ⟨rfl, rfl⟩ (by kernel_rfl) H (H) rfl ?_
      intro w H
      refine d_take (i := 0) rfl (by kernel_rfl) (fun _ _ _ h => h) H (fun _ _ => r_move rfl) rfl ?_
      refine d_take (i := 1) rfl (by kernel_rfl) (fun _ _ _ h => h) H (fun _ _ => r_fieldAddr (k := 1) Try.runUnderlying30 rfl Try.sizeOf3 (by decide) rfl rfl) rfl ?_
      refine d_take (i := 2) rfl (by kernel_rfl) (fun _ _ _ h => h) H (fun _ HS => r_load1 Try.isAgg3 rfl (HS.at 0 rfl) rfl) rfl ?_
      refine d_take (i := 3) rfl (by kernel_rfl) (fun _ _ _ h => h) H (fun _ _ => r_quo rfl rfl (by omega) (quoI (by omega) (by omega) (by omega))) rfl ?_
      refine d_take (i := 4) rfl (by kernel_rfl) (fun _ _ _ h => h) H (fun _ _ => r_move rfl) rfl ?_
      refine d_take (i := 5) rfl (by kernel_rfl) (fun _ _ _ h => h) H (fun _ _ => r_fieldAddr (k := 1) Try.runUnderlying30 rfl Try.sizeOf3 (by decide) rfl rfl) rfl ?_
      refine d_take (i := 6) rfl (by kernel_rfl) (fun _ _ _ h => h) H (fun _ HS => r_load1 Try.isAgg3 rfl (HS.at 0 rfl) rfl) rfl ?_
      refine d_take (i := 7) rfl (by kernel_rfl) (fun _ _ _ h => h) H (fun _ _ => r_rem rfl rfl (by omega) (Int.tmod_eq_emod_of_nonneg (by omega))) rfl ?_
      refine d_take (i := 8) rfl (by kernel_rfl) (fun _ _ _ h => h) H (fun _ _ => r_assign rfl) rfl ?_
      refine d_take (i := 9) rfl (by kernel_rfl) (fun _ _ _ h => h) H (fun _ _ => r_assign rfl) rfl ?_
      refine d_take (i := 10) rfl (by kernel_rfl) (fun _ _ _ h => h) H (fun _ _ => r_assign rfl) rfl ?_
      refine d_done (l' := [_,_,_,_,_,_,_,_,_,_,_,_,_,_,_,_,_,_,_,_,_,_,_,_,_,_,_,_,_,_,_]) (by kernel_rfl) rfl ?_
      refine x_thenNormal ?_
      refine wp_ret ?_
      refine e_ret (res3 rfl rfl rfl rfl) ⟨_, rfl, ?_⟩
      exact .inr ⟨by omega, by omega, rfl, H.sub (List.nil_sublist _)⟩

set_option maxHeartbeats 4000000 in
theorem index_spec (a : Option Addr) (cap : Nat) (ns : List Int) (hl : ns.length ≤ 1000000) (w0 : World) (hr : URow w0 a ns) :
    Calls Try.prog 56 #[.slice a ns.length cap, .int .u64 0] w0 fun e w => ∃ v, e = .returned v ∧ (v = .int .i64 (firstZ ns) ∧ St w0 [] w []) := by
  have H := St.refl w0
  refine c_enter (args := [.slice a ns.length cap, .int .u64 0]) (l := [.slice a ns.length cap, .int .u64 0, undef, undef, undef, undef, undef, undef, undef, undef, undef, undef, undef, undef, undef, undef, undef, undef, undef]) Try.func56 Try.ntmps56 rfl rfl ?_
  refine c_rseq (n := 19) ⟨rfl, rfl⟩ ?_
  refine s_val (r_assign rfl) ?_
  refine c_nil (l' := [_,_,_,_,_,_,_,_,_,_,_,_,_,_,_,_,_,_,_]) rfl ?_
  refine c_seq ?_
  refine c_rseq (n := 19) ⟨rfl, rfl⟩ ?_
  refine s_val (r_move rfl) ?_
  refine s_val (r_lens Try.runUnderlying35 (ec rfl en)) ?_
  refine s_val (r_move rfl) ?_
  refine c_nil (l' := [_,_,_,_,_,_,_,_,_,_,_,_,_,_,_,_,_,_,_]) rfl ?_
  refine wp_block ?_
  refine c_loop (fun (l0 : List Value) (i : Nat) (l : List Value) (w : World) => ∃ (u4 u5 u9 u10 u11 u12 u13 u14 u15 u16 u17 u18 : Value) , l = ovr l0 [N_, N_, N_, N_, Y_ u4, Y_ u5, N_, N_, Y_ (.int .i64 i), Y_ u9, Y_ u10, Y_ u11, Y_ u12, Y_ u13, Y_ u14, Y_ u15, Y_ u16, Y_ u17, Y_ u18] ∧ i ≤ ns.length ∧ (∀ j, j < i → ns.getD j 0 ≠ 0) ∧ St w0 [] w []) (fun (i : Nat) => ns.length - i) 0 ⟨_,_,_,_,_,_,_,_,_,_,_,_, rfl, by omega, (fun _ h => absurd h (Nat.not_lt_zero _)), H⟩ ?_
  intro i l w ⟨u4, u5, u9, u10, u11, u12, u13, u14, u15, u16, u17, u18, hl, hi, hno, H⟩
  obtain rfl := hl.trans (rfl : _ = [_,_,_,_,_,_,_,_,_,_,_,_,_,_,_,_,_,_,_])
  clear hl
  refine c_rseq (n := 19) ⟨rfl, rfl⟩ ?_
  refine s_val (r_lss rfl rfl) ?_
  refine c_nil (l' := [_,_,_,_,_,_,_,_,_,_,_,_,_,_,_,_,_,_,_]) rfl ?_
  refine c_seq ?_
  refine c_if rfl (fun h9 => ?_) (fun h9 => ?_)
  · skip
    obtain ⟨bu, off, pre, post, T, fz, rfl, hbu, hpu⟩ := hr (by omega)
    refine wp_skip ?_
    refine x_thenNormal ?_
    refine c_seq ?_
    refine wp_block ?_
    refine c_rseq (n := 19) ⟨rfl, rfl⟩ ?_
    refine s_val (r_move rfl) ?_
    refine s_val (r_assign rfl) ?_
    refine c_nil (l' := [_,_,_,_,_,_,_,_,_,_,_,_,_,_,_,_,_,_,_]) rfl ?_
    refine c_rseq (n := 19) ⟨rfl, rfl⟩ ?_
    refine s_val (r_move rfl) ?_
    refine s_val (r_move rfl) ?_
    refine s_val (r_move rfl) ?_
    refine s_val (r_indexAddrS Try.runUnderlying35 Try.sizeOf36 rfl rfl (by omega) (by omega)) ?_
    refine s_val (r_load1 Try.isAgg36 rfl (H.rd0 hbu) (u_get pre ns post i hpu (by omega) (by omega))) ?_
    refine s_val (r_eql rfl rfl) ?_
    refine c_nil (l' := [_,_,_,_,_,_,_,_,_,_,_,_,_,_,_,_,_,_,_]) rfl ?_
    refine c_if rfl (fun h16 => ?_) (fun h16 => ?_)
    · skip
      refine c_rseq (n := 19) ⟨rfl, rfl⟩ ?_
      refine s_val (r_move rfl) ?_
      refine s_val (r_assign rfl) ?_
      refine c_nil (l' := [_,_,_,_,_,_,_,_,_,_,_,_,_,_,_,_,_,_,_]) rfl ?_
      refine wp_ret (x_blockRet (x_thenRet (x_thenRet (x_blockRet (x_thenRet ?_)))))
      refine e_ret (res1 rfl rfl) ⟨_, rfl, ?_⟩
      exact ⟨by rw [firstZ_some (by omega) h16.symm hno], H⟩
    · skip
      refine wp_skip ?_
      refine x_blockNormal ?_
      refine x_thenNormal ?_
      refine c_region (n := 19) ⟨rfl, rfl⟩ ?_
      refine s_val (r_add rfl rfl (w_i64 (by omega) (by omega))) ?_
      refine s_val (r_move rfl) ?_
      refine c_nil0 (l' := [_,_,_,_,_,_,_,_,_,_,_,_,_,_,_,_,_,_,_]) rfl ?_
      exact ⟨i + 1, _, rfl, ⟨_,_,_,_,_,_,_,_,_,_,_,_, rfl, by omega, (fun j hj => (Nat.lt_succ_iff_lt_or_eq.1 hj).elim (hno j) (fun e => e ▸ fun h => h16 h.symm)), H⟩, by omega⟩
  · skip
    obtain rfl : i = ns.length := by omega
    refine wp_exit (x_thenExit (x_thenExit (x_blockHit ?_)))
    refine x_thenNormal ?_
    refine c_rseq (n := 19) ⟨rfl, rfl⟩ ?_
    refine s_val (r_assign rfl) ?_
    refine c_nil (l' := [_,_,_,_,_,_,_,_,_,_,_,_,_,_,_,_,_,_,_]) rfl ?_
    refine wp_ret ?_
    refine e_ret (res1 rfl rfl) ⟨_, rfl, ?_⟩
    exact ⟨by rw [firstZ_none hno], H⟩

end Go.Proofs.Ytbjalofmamoffaa

