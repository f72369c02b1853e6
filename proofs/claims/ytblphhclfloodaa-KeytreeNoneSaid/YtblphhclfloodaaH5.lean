import Derived.Test.YtblphhclfloodaaG3
import Derived.Test.YtblphhclfloodaaG6
import Derived.Test.YtblphhclfloodaaH4
namespace Go.Proofs.Ytblphhclfloodaa
open Go Go.Er

set_option maxHeartbeats 4000000 in
set_option maxRecDepth 20000 in
theorem none_spec (seed : Key) (n : Int) (hn0 : 0 ≤ n) (hn1 : n < 18446744073709551616) (w0 : World) :
    Calls Try.prog 11 #[.agg (kC seed).toArray, .int .u64 n] w0 fun e w => ∃ v, e = .returned v ∧ (v = .bool true ∧ St w0 [] w []) := by
  have H := St.refl w0
  refine c_enter (args := [.agg (kC seed).toArray, .int .u64 n]) (l := [.agg (kC seed).toArray, .int .u64 n, undef, undef, undef, undef, undef, undef, undef, undef, undef, undef, undef, undef, undef, undef, undef, undef, undef, undef, undef, undef, undef, undef, undef, undef, undef, undef, undef, undef, undef, undef, undef, undef, undef, undef, undef, undef, undef, undef, undef, undef, undef, undef, undef, undef, undef, undef, undef, undef, undef, undef, undef, undef, undef, undef, undef, undef, undef, undef, undef, undef, undef, undef, undef, undef, undef, undef, undef, undef, undef, undef, undef, undef, undef, undef, undef, undef, undef, undef, undef, undef, undef, undef, undef, undef, undef, undef, undef, undef, undef, undef, undef, undef, undef, undef, undef, undef, undef, undef, undef, undef, undef, undef, undef, undef, undef, undef, undef, undef]) Try.func11 Try.ntmps11 rfl rfl ?_
  refine c_rseq (n := 110) ⟨rfl, rfl⟩ ?_
  refine s_new (m_box (cs := (kC seed)) H rfl rfl) ?_
  intro w b2 H
  refine s_val (r_assign rfl) ?_
  refine c_nil (l' := [_, _, _, _, _, _, _, _, _, _, _, _, _, _, _, _, _, _, _, _, _, _, _, _, _, _, _, _, _, _, _, _, _, _, _, _, _, _, _, _, _, _, _, _, _, _, _, _, _, _, _, _, _, _, _, _, _, _, _, _, _, _, _, _, _, _, _, _, _, _, _, _, _, _, _, _, _, _, _, _, _, _, _, _, _, _, _, _, _, _, _, _, _, _, _, _, _, _, _, _, _, _, _, _, _, _, _, _, _, _]) rfl ?_
  refine c_seq ?_
  refine c_rseq (n := 110) ⟨rfl, rfl⟩ ?_
  refine s_call (r_call Try.call12 en) (awake_spec _) ?_
  rintro v w ⟨rfl, HC⟩
  replace H := H.quiet HC
  refine s_val (r_not rfl) ?_
  refine c_nil (l' := [_, _, _, _, _, _, _, _, _, _, _, _, _, _, _, _, _, _, _, _, _, _, _, _, _, _, _, _, _, _, _, _, _, _, _, _, _, _, _, _, _, _, _, _, _, _, _, _, _, _, _, _, _, _, _, _, _, _, _, _, _, _, _, _, _, _, _, _, _, _, _, _, _, _, _, _, _, _, _, _, _, _, _, _, _, _, _, _, _, _, _, _, _, _, _, _, _, _, _, _, _, _, _, _, _, _, _, _, _, _]) rfl ?_
  refine c_iff rfl ?_
  refine wp_skip ?_
  refine x_thenNormal ?_
  refine c_rseq (n := 110) ⟨rfl, rfl⟩ ?_
  refine s_val (r_assign rfl) ?_
  refine c_nil (l' := [_, _, _, _, _, _, _, _, _, _, _, _, _, _, _, _, _, _, _, _, _, _, _, _, _, _, _, _, _, _, _, _, _, _, _, _, _, _, _, _, _, _, _, _, _, _, _, _, _, _, _, _, _, _, _, _, _, _, _, _, _, _, _, _, _, _, _, _, _, _, _, _, _, _, _, _, _, _, _, _, _, _, _, _, _, _, _, _, _, _, _, _, _, _, _, _, _, _, _, _, _, _, _, _, _, _, _, _, _, _]) rfl ?_
  refine c_rseq (n := 110) ⟨rfl, rfl⟩ ?_
  refine s_new (m_alloc (cs := [.nilIface, .slice none 0 0]) H Try.zeroValue68 rfl) ?_
  intro w b6 H
  refine c_nil (l' := [_, _, _, _, _, _, _, _, _, _, _, _, _, _, _, _, _, _, _, _, _, _, _, _, _, _, _, _, _, _, _, _, _, _, _, _, _, _, _, _, _, _, _, _, _, _, _, _, _, _, _, _, _, _, _, _, _, _, _, _, _, _, _, _, _, _, _, _, _, _, _, _, _, _, _, _, _, _, _, _, _, _, _, _, _, _, _, _, _, _, _, _, _, _, _, _, _, _, _, _, _, _, _, _, _, _, _, _, _, _]) rfl ?_
  refine c_rseq (n := 110) ⟨rfl, rfl⟩ ?_
  refine s_val (r_loadn Try.isAgg23 Try.sizeOf23 rfl (H.at 1 rfl) (by first | exact (kC_td _) | exact (hC_td _) | exact (hC_seed _)) (by first | exact (kC_length _) | exact (hC_length _) | exact rfl)) ?_
  refine s_val (r_buildS Try.runUnderlying41 Try.zeroValue41 places41 (pc rfl pn) (hfill1 _)) ?_
  refine s_new (m_bslice1 H Try.runUnderlying35 Try.sizeOf41 Try.zeroValue41 (by omega) (by omega) rfl rfl (hC_length _)) ?_
  intro w b20 H
  refine s_call (r_call Try.call25 (ec rfl (ec rfl en))) (fromn_spec _ _) ?_
  rintro v w ⟨rfl, HC⟩
  replace H := H.quiet HC
  refine s_val (r_move rfl) ?_
  refine s_val (r_extract rfl rfl) ?_
  refine s_val (r_extract rfl rfl) ?_
  refine s_val (r_assign rfl) ?_
  refine s_val (r_assign rfl) ?_
  refine c_nil (l' := [_, _, _, _, _, _, _, _, _, _, _, _, _, _, _, _, _, _, _, _, _, _, _, _, _, _, _, _, _, _, _, _, _, _, _, _, _, _, _, _, _, _, _, _, _, _, _, _, _, _, _, _, _, _, _, _, _, _, _, _, _, _, _, _, _, _, _, _, _, _, _, _, _, _, _, _, _, _, _, _, _, _, _, _, _, _, _, _, _, _, _, _, _, _, _, _, _, _, _, _, _, _, _, _, _, _, _, _, _, _]) rfl ?_
  refine c_rseq (n := 110) ⟨rfl, rfl⟩ ?_
  refine s_val (r_buildS Try.runUnderlying29 Try.zeroValue29 places29 pn rfl) ?_
  refine s_val (r_makeIface Try.runUnderlying29 (fun _ h => nomatch h) rfl) ?_
  refine s_call (r_call Try.call25 (ec rfl (ec rfl en))) (from_spec _ none 0 [] splitL splitR splits_little (by simp) (fun i hi => absurd hi (Nat.not_lt_zero _)) _ (fun h => absurd h (Nat.lt_irrefl _))) ?_
  rintro v w (⟨_, bu, Nu, rfl, hTu, HC⟩ | ⟨hn, _⟩)
  · skip
    replace H : St w0 [] _ (_ :: _ :: _ :: Nu) := (H.call0 HC).perm (List.perm_append_comm (l₁ := [_, _, _]))
    refine s_val (r_move rfl) ?_
    refine s_val (r_extract rfl rfl) ?_
    refine s_val (r_extract rfl rfl) ?_
    refine s_val (r_assign rfl) ?_
    refine s_val (r_assign rfl) ?_
    refine c_nil (l' := [_, _, _, _, _, _, _, _, _, _, _, _, _, _, _, _, _, _, _, _, _, _, _, _, _, _, _, _, _, _, _, _, _, _, _, _, _, _, _, _, _, _, _, _, _, _, _, _, _, _, _, _, _, _, _, _, _, _, _, _, _, _, _, _, _, _, _, _, _, _, _, _, _, _, _, _, _, _, _, _, _, _, _, _, _, _, _, _, _, _, _, _, _, _, _, _, _, _, _, _, _, _, _, _, _, _, _, _, _, _]) rfl ?_
    refine c_rseq (n := 110) ⟨rfl, rfl⟩ ?_
    refine s_val (r_move rfl) ?_
    refine s_val (r_move rfl) ?_
    refine s_call (r_call Try.call19 (ec rfl (ec rfl en))) (keyn_spec _ _) ?_
    rintro v w ⟨rfl, HC⟩
    replace H := H.quiet HC
    refine s_val (r_move rfl) ?_
    refine s_val (r_extract rfl rfl) ?_
    refine s_val (r_extract rfl rfl) ?_
    refine s_new (m_alloc (cs := (kC (By.zero 32))) H Try.zeroValue23 rfl) ?_
    intro w b11 H
    refine s_st (m_storen H 0 32 Try.sizeOf23 rfl rfl (by first | exact (kC_length _) | exact (hC_length _)) (by first | exact (kC_one _) | exact (hC_one _)) rfl (by first | exact (by rw [kC_length]; omega) | exact (by rw [hC_length]; omega)) (by first | exact (kC_sp _ _) | exact (hC_sp _ _))) (L' := (_ :: _ :: _ :: _ :: _)) rfl ?_
    intro w H
    refine s_val (r_assign rfl) ?_
    refine c_nil (l' := [_, _, _, _, _, _, _, _, _, _, _, _, _, _, _, _, _, _, _, _, _, _, _, _, _, _, _, _, _, _, _, _, _, _, _, _, _, _, _, _, _, _, _, _, _, _, _, _, _, _, _, _, _, _, _, _, _, _, _, _, _, _, _, _, _, _, _, _, _, _, _, _, _, _, _, _, _, _, _, _, _, _, _, _, _, _, _, _, _, _, _, _, _, _, _, _, _, _, _, _, _, _, _, _, _, _, _, _, _, _]) rfl ?_
    refine c_rseq (n := 110) ⟨rfl, rfl⟩ ?_
    refine s_val (r_move rfl) ?_
    refine s_call (r_call Try.call19 (ec rfl (ec rfl en))) (keyz_spec _ _ _ _ n hn0 _ (H.at 2 rfl)) ?_
    rintro v w ⟨rfl, HC⟩
    replace H := H.quiet HC
    refine s_val (r_move rfl) ?_
    refine s_val (r_extract rfl rfl) ?_
    refine s_val (r_extract rfl rfl) ?_
    refine s_new (m_alloc (cs := (kC (By.zero 32))) H Try.zeroValue23 rfl) ?_
    intro w b13 H
    refine s_st (m_storen H 0 32 Try.sizeOf23 rfl rfl (by first | exact (kC_length _) | exact (hC_length _)) (by first | exact (kC_one _) | exact (hC_one _)) rfl (by first | exact (by rw [kC_length]; omega) | exact (by rw [hC_length]; omega)) (by first | exact (kC_sp _ _) | exact (hC_sp _ _))) (L' := (_ :: _ :: _ :: _ :: _ :: _)) rfl ?_
    intro w H
    refine s_val (r_assign rfl) ?_
    refine c_nil (l' := [_, _, _, _, _, _, _, _, _, _, _, _, _, _, _, _, _, _, _, _, _, _, _, _, _, _, _, _, _, _, _, _, _, _, _, _, _, _, _, _, _, _, _, _, _, _, _, _, _, _, _, _, _, _, _, _, _, _, _, _, _, _, _, _, _, _, _, _, _, _, _, _, _, _, _, _, _, _, _, _, _, _, _, _, _, _, _, _, _, _, _, _, _, _, _, _, _, _, _, _, _, _, _, _, _, _, _, _, _, _]) rfl ?_
    refine c_rseq (n := 110) ⟨rfl, rfl⟩ ?_
    refine s_val (r_loadn Try.isAgg23 Try.sizeOf23 rfl (H.at 4 rfl) (by first | exact (kC_td _) | exact (hC_td _) | exact (hC_seed _)) (by first | exact (kC_length _) | exact (hC_length _) | exact rfl)) ?_
    refine s_call (r_call Try.call13 (ec rfl (ec rfl en))) (newn_spec _ _) ?_
    rintro v w ⟨rfl, HC⟩
    replace H := H.quiet HC
    refine s_val (r_nilpT Try.runUnderlying26 rfl rfl) ?_
    refine s_val (r_move rfl) ?_
    refine g_yes rfl rfl ?_
    refine s_val (r_move rfl) ?_
    refine g_yes rfl rfl ?_
    refine s_val (r_nilpT Try.runUnderlying26 rfl rfl) ?_
    refine s_val (r_pickt rfl rfl) ?_
    refine s_val (r_move rfl) ?_
    refine g_yes rfl rfl ?_
    refine s_val (r_move rfl) ?_
    refine g_yes rfl rfl ?_
    refine s_test (r_eql rfl rfl) (fun h50 => ?_) (fun h50 => ?_)
    · skip
      refine s_val (r_pickt rfl rfl) ?_
      refine s_val (r_move rfl) ?_
      refine g_yes rfl rfl ?_
      refine s_val (r_move rfl) ?_
      refine g_yes rfl rfl ?_
      refine s_testb (r_nnilp Try.runUnderlying26 rfl rfl) (fun h54 => ?_) (fun h54 => ?_)
      · skip
        refine s_val (r_pickt rfl rfl) ?_
        refine s_val (r_move rfl) ?_
        refine g_yes rfl rfl ?_
        refine s_val (r_move rfl) ?_
        refine g_yes rfl rfl ?_
        refine s_test (r_eql rfl rfl) (fun h58 => ?_) (fun h58 => ?_)
        · skip
          refine s_val (r_pickt rfl rfl) ?_
          refine s_val (r_move rfl) ?_
          refine g_yes rfl rfl ?_
          refine s_val (r_move rfl) ?_
          refine g_yes rfl rfl ?_
          refine s_call (r_call Try.call18 (ec rfl en)) (count_spec _ _ [] Nu (by simp) trivial _ hTu (H.ownsM (.cons _ (.cons _ (.cons _ (.cons _ (.cons _ (List.Sublist.refl _)))))))) ?_
          rintro v w ⟨rfl, HC⟩
          replace H := H.quiet HC
          refine g_yes rfl rfl ?_
          refine s_test (r_eql rfl rfl) (fun h63 => ?_) (fun h63 => ?_)
          · skip
            refine s_val (r_pickt rfl rfl) ?_
            refine s_val (r_move rfl) ?_
            refine g_yes rfl rfl ?_
            refine s_val (r_move rfl) ?_
            refine g_yes rfl rfl ?_
            refine s_val (r_not rfl) ?_
            refine s_val (r_pickt rfl rfl) ?_
            refine s_val (r_move rfl) ?_
            refine g_yes rfl rfl ?_
            refine s_val (r_move rfl) ?_
            refine g_yes rfl rfl ?_
            refine s_val (r_not rfl) ?_
            refine s_val (r_pickt rfl rfl) ?_
            refine s_val (r_move rfl) ?_
            refine g_yes rfl rfl ?_
            refine s_val (r_move rfl) ?_
            refine g_yes rfl rfl ?_
            refine s_val (r_move rfl) ?_
            refine g_yes rfl rfl ?_
            refine s_call (r_call Try.call23 (ec rfl (ec rfl en))) (hasn_spec _ _) ?_
            rintro v w ⟨rfl, HC⟩
            replace H := H.quiet HC
            refine g_yes rfl rfl ?_
            refine s_val (r_not rfl) ?_
            refine s_val (r_pickt rfl rfl) ?_
            refine s_val (r_move rfl) ?_
            refine g_yes rfl rfl ?_
            refine s_val (r_move rfl) ?_
            refine g_yes rfl rfl ?_
            refine s_val (r_move rfl) ?_
            refine g_yes rfl rfl ?_
            refine s_call (r_call Try.call14 (ec rfl (ec rfl en))) (puncn_spec _ _) ?_
            rintro v w ⟨rfl, HC⟩
            replace H := H.quiet HC
            refine g_yes rfl rfl ?_
            refine s_val (r_not rfl) ?_
            refine s_val (r_pickt rfl rfl) ?_
            refine s_val (r_move rfl) ?_
            refine g_yes rfl rfl ?_
            refine s_val (r_move rfl) ?_
            refine g_yes rfl rfl ?_
            refine s_call (r_call Try.call17 (ec rfl en)) (heldn_spec _) ?_
            rintro v w ⟨rfl, HC⟩
            replace H := H.quiet HC
            refine g_yes rfl rfl ?_
            refine s_val (r_lens Try.runUnderlying35 (ec rfl en)) ?_
            refine g_yes rfl rfl ?_
            refine s_test (r_eql rfl rfl) (fun h89 => ?_) (fun h89 => ?_)
            · skip
              refine s_val (r_pickt rfl rfl) ?_
              refine s_val (r_move rfl) ?_
              refine g_yes rfl rfl ?_
              refine s_val (r_move rfl) ?_
              refine g_yes rfl rfl ?_
              refine s_call (r_call Try.call18 (ec rfl en)) (countn_spec _) ?_
              rintro v w ⟨rfl, HC⟩
              replace H := H.quiet HC
              refine g_yes rfl rfl ?_
              refine s_test (r_eql rfl rfl) (fun h94 => ?_) (fun h94 => ?_)
              · skip
                refine s_val (r_pickt rfl rfl) ?_
                refine s_val (r_move rfl) ?_
                refine g_yes rfl rfl ?_
                refine s_val (r_move rfl) ?_
                refine g_yes rfl rfl ?_
                refine s_call (r_call Try.call27 (ec rfl en)) (clonen_spec _) ?_
                rintro v w ⟨rfl, HC⟩
                replace H := H.quiet HC
                refine g_yes rfl rfl ?_
                refine s_val (r_nilpT Try.runUnderlying26 rfl rfl) ?_
                refine s_val (r_pickt rfl rfl) ?_
                refine s_val (r_move rfl) ?_
                refine g_yes rfl rfl ?_
                refine s_val (r_move rfl) ?_
                refine g_yes rfl rfl ?_
                refine s_call (r_call Try.call14 (ec rfl (ec rfl en))) (puncz_spec _ _ _ _ n hn0 _ (H.at 3 rfl)) ?_
                rintro v w ⟨rfl, HC⟩
                replace H := H.quiet HC
                refine g_yes rfl rfl ?_
                refine s_val (r_not rfl) ?_
                refine s_val (r_pickt rfl rfl) ?_
                refine s_val (r_move rfl) ?_
                refine g_yes rfl rfl ?_
                refine s_call (r_call Try.call18 (ec rfl en)) (count_spec _ _ [] [(b6, _)] (by simp) trivial _ ⟨_, _, [], rfl, RowN.nil⟩ ⟨fun p hp => by rw [List.mem_singleton.1 hp]; exact H.at 3 rfl, List.nodup_cons.2 ⟨(fun h => nomatch h), List.nodup_nil⟩⟩) ?_
                rintro v w ⟨rfl, HC⟩
                replace H := H.quiet HC
                refine g_yes rfl rfl ?_
                refine s_val (r_eql rfl rfl) ?_
                refine s_val (r_pickt rfl rfl) ?_
                refine s_val (r_assign rfl) ?_
                refine c_nil (l' := [_, _, _, _, _, _, _, _, _, _, _, _, _, _, _, _, _, _, _, _, _, _, _, _, _, _, _, _, _, _, _, _, _, _, _, _, _, _, _, _, _, _, _, _, _, _, _, _, _, _, _, _, _, _, _, _, _, _, _, _, _, _, _, _, _, _, _, _, _, _, _, _, _, _, _, _, _, _, _, _, _, _, _, _, _, _, _, _, _, _, _, _, _, _, _, _, _, _, _, _, _, _, _, _, _, _, _, _, _, _]) rfl ?_
                refine wp_ret ?_
                refine e_ret (res1 rfl rfl) ⟨_, rfl, ?_⟩
                exact ⟨by rfl, H.sub (List.nil_sublist _)⟩
              · skip
                exact absurd rfl h94
            · skip
              exact absurd rfl h89
          · skip
            exact absurd rfl h63
        · skip
          exact absurd rfl h58
      · skip
        simp at h54
    · skip
      exact absurd rfl h50
  · skip
    exact absurd trivial hn

end Go.Proofs.Ytblphhclfloodaa
