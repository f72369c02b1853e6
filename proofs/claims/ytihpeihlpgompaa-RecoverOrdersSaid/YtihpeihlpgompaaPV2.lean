import Derived.Test.YtihpeihlpgompaaPV1
import Derived.Test.YtihpeihlpgompaaPX6
import Derived.Test.YtihpeihlpgompaaPX9
namespace Go.Proofs.Ytihpeihlpgompaa
open Go Go.Er
set_option linter.unusedSimpArgs false in
theorem places27 : Places Try.prog #[⟨ "At", 3, 0, false, "", "", 0⟩, ⟨ "Gen", 24, 1, false, "", "", 8⟩, ⟨ "Body", 25, 2, false, "", "", 16⟩] [(0, 1), (1, 1), (2, 1)] := fun w => by simp [Try.sizeOf24 w, Try.sizeOf25 w, Try.sizeOf3 w]

set_option maxHeartbeats 4000000 in
theorem awake_spec  (w0 : World) :
  Calls Try.prog 5 #[] w0 fun e w => ∃ v, e = .returned v ∧ (v = .bool true ∧ St w0 [] w []) := by
 have H := St.refl w0
 refine c_enter (args := []) (l := [undef, undef, undef, undef, undef, undef, undef, undef, undef, undef, undef, undef, undef, undef, undef, undef, undef, undef, undef, undef, undef, undef, undef, undef, undef, undef, undef, undef, undef, undef, undef, undef, undef, undef, undef, undef, undef, undef, undef, undef, undef, undef, undef, undef, undef, undef, undef, undef, undef, undef, undef, undef, undef, undef, undef, undef, undef, undef, undef, undef, undef, undef, undef, undef, undef, undef, undef, undef, undef, undef, undef, undef, undef, undef, undef, undef, undef, undef, undef, undef, undef, undef, undef, undef, undef, undef]) Try.func5 Try.ntmps5 rfl rfl ?_
 refine c_rseq (n := 86) ⟨rfl, rfl⟩ ?_
 refine s_val (r_assign rfl) ?_
 refine c_nil (l' := [_,_,_,_,_,_,_,_,_,_,_,_,_,_,_,_,_,_,_,_,_,_,_,_,_,_,_,_,_,_,_,_,_,_,_,_,_,_,_,_,_,_,_,_,_,_,_,_,_,_,_,_,_,_,_,_,_,_,_,_,_,_,_,_,_,_,_,_,_,_,_,_,_,_,_,_,_,_,_,_,_,_,_,_,_,_]) rfl ?_
 refine c_rseq (n := 86) ⟨rfl, rfl⟩ ?_
 refine s_val (r_assign rfl) ?_
 refine c_nil (l' := [_,_,_,_,_,_,_,_,_,_,_,_,_,_,_,_,_,_,_,_,_,_,_,_,_,_,_,_,_,_,_,_,_,_,_,_,_,_,_,_,_,_,_,_,_,_,_,_,_,_,_,_,_,_,_,_,_,_,_,_,_,_,_,_,_,_,_,_,_,_,_,_,_,_,_,_,_,_,_,_,_,_,_,_,_,_]) rfl ?_
 refine c_rseq (n := 86) ⟨rfl, rfl⟩ ?_
 refine s_val (r_move rfl) ?_
 refine s_call (r_callv Try.call11 rfl (ec rfl (ec rfl en)) rfl) (mark_spec 3 1 _) ?_
 rintro v w ⟨rfl, HC⟩
 replace H := H.quiet HC
 refine s_val (r_move rfl) ?_
 refine s_call (r_callv Try.call11 rfl (ec rfl (ec rfl en)) rfl) (mark_spec 5 1 _) ?_
 rintro v w ⟨rfl, HC⟩
 replace H := H.quiet HC
 refine s_new (m_bslice2 (us := ceC (mk8 3 1)) (vs := ceC (mk8 5 1)) H Try.runUnderlying53 Try.sizeOf40 Try.zeroValue40 (by omega) (by omega) rfl rfl rfl rfl rfl rfl) ?_
 intro w b14 H
 refine s_call (r_call Try.call12 (ec rfl en)) (fill_spec (some ⟨b14, 0, none⟩) 2 [mk8 3 1, mk8 5 1] (by decide) (by decide) ex_hA (by rw [ex_lA]; decide) _ (fun _ => ⟨b14, 0, [], [], _,_, rfl, H.at 0 rfl, rfl⟩) ex_rA) ?_
 rintro v w ⟨bda, boa, ca, spa, ia, cia, NBa, rfl, hba, hRa, HC⟩
 replace H := (H.call0 HC).sub (List.sublist_append_left _ _)
 refine s_val (r_move rfl) ?_
 refine s_val (r_extract rfl rfl) ?_
 refine s_val (r_extract rfl rfl) ?_
 refine s_val (r_extract rfl rfl) ?_
 refine s_val (r_assign rfl) ?_
 refine s_val (r_assign rfl) ?_
 refine s_val (r_assign rfl) ?_
 refine c_nil (l' := [_,_,_,_,_,_,_,_,_,_,_,_,_,_,_,_,_,_,_,_,_,_,_,_,_,_,_,_,_,_,_,_,_,_,_,_,_,_,_,_,_,_,_,_,_,_,_,_,_,_,_,_,_,_,_,_,_,_,_,_,_,_,_,_,_,_,_,_,_,_,_,_,_,_,_,_,_,_,_,_,_,_,_,_,_,_]) rfl ?_
 refine c_rseq (n := 86) ⟨rfl, rfl⟩ ?_
 refine s_val (r_move rfl) ?_
 refine s_call (r_callv Try.call11 rfl (ec rfl (ec rfl en)) rfl) (mark_spec 3 2 _) ?_
 rintro v w ⟨rfl, HC⟩
 replace H := H.quiet HC
 refine s_new (m_bslice1 (vs := ceC (mk8 3 2)) H Try.runUnderlying53 Try.sizeOf40 Try.zeroValue40 (by omega) (by omega) rfl rfl rfl) ?_
 intro w b22 H
 refine s_call (r_call Try.call12 (ec rfl en)) (fill_spec (some ⟨b22, 0, none⟩) 1 [mk8 3 2] (by decide) (by decide) ex_hB (by rw [ex_lB]; decide) _ (fun _ => ⟨b22, 0, [], [], _,_, rfl, H.at 0 rfl, rfl⟩) ex_rB) ?_
 rintro v w ⟨bdb, bob, cb, spb, ib, cib, NBb, rfl, hbb, hRb, HC⟩
 replace H := St.aw (H.call0 HC)
 refine s_val (r_move rfl) ?_
 refine s_val (r_extract rfl rfl) ?_
 refine s_val (r_extract rfl rfl) ?_
 refine s_val (r_extract rfl rfl) ?_
 refine s_val (r_assign rfl) ?_
 refine s_val (r_assign rfl) ?_
 refine s_val (r_assign rfl) ?_
 refine c_nil (l' := [_,_,_,_,_,_,_,_,_,_,_,_,_,_,_,_,_,_,_,_,_,_,_,_,_,_,_,_,_,_,_,_,_,_,_,_,_,_,_,_,_,_,_,_,_,_,_,_,_,_,_,_,_,_,_,_,_,_,_,_,_,_,_,_,_,_,_,_,_,_,_,_,_,_,_,_,_,_,_,_,_,_,_,_,_,_]) rfl ?_
 refine c_seq ?_
 refine c_rseq (n := 86) ⟨rfl, rfl⟩ ?_
 refine s_val (r_move rfl) ?_
 refine s_test (r_neq rfl rfl) (fun h28 => ?_) (fun h28 => ?_)
 ·skip
  exfalso; omega
 ·skip
  refine s_val (r_move rfl) ?_
  refine g_yes rfl rfl ?_
  refine s_val (r_move rfl) ?_
  refine g_yes rfl rfl ?_
  refine s_test (r_neq rfl rfl) (fun h31 => ?_) (fun h31 => ?_)
  ·skip
   exfalso; omega
  ·skip
   refine s_val (r_pickf rfl rfl) ?_
   refine s_val (r_move rfl) ?_
   refine g_yes rfl rfl ?_
   refine s_val (r_move rfl) ?_
   refine g_yes rfl rfl ?_
   refine s_val (r_lens Try.runUnderlying47 (ec rfl en)) ?_
   refine g_yes rfl rfl ?_
   refine s_test (r_neq rfl rfl) (fun h36 => ?_) (fun h36 => ?_)
   ·skip
    exfalso; omega
   ·skip
    refine s_val (r_pickf rfl rfl) ?_
    refine s_val (r_move rfl) ?_
    refine g_yes rfl rfl ?_
    refine s_val (r_move rfl) ?_
    refine g_yes rfl rfl ?_
    refine s_val (r_lens Try.runUnderlying47 (ec rfl en)) ?_
    refine g_yes rfl rfl ?_
    refine s_test (r_neq rfl rfl) (fun h41 => ?_) (fun h41 => ?_)
    ·skip
     exfalso; omega
    ·skip
     refine s_val (r_pickf rfl rfl) ?_
     refine c_nil (l' := [_,_,_,_,_,_,_,_,_,_,_,_,_,_,_,_,_,_,_,_,_,_,_,_,_,_,_,_,_,_,_,_,_,_,_,_,_,_,_,_,_,_,_,_,_,_,_,_,_,_,_,_,_,_,_,_,_,_,_,_,_,_,_,_,_,_,_,_,_,_,_,_,_,_,_,_,_,_,_,_,_,_,_,_,_,_]) rfl ?_
     refine c_iff rfl ?_
     refine wp_skip ?_
     refine x_thenNormal ?_
     refine c_seq ?_
     refine d_begin (sz := 86) ⟨rfl, rfl⟩ (by kernel_rfl) H (H.sub (.cons_cons _ (.cons_cons _ (List.nil_sublist _)))) rfl ?_
     intro w H
     refine d_take (i := 0) rfl (by kernel_rfl) (fun _ _ _ h => h) (H.sub (.cons_cons _ (.cons_cons _ (List.nil_sublist _)))) (fun _ _ => r_move rfl) rfl ?_
     refine d_take (i := 1) rfl (by kernel_rfl) (fun _ _ _ h => h) (H.sub (.cons_cons _ (.cons_cons _ (List.nil_sublist _)))) (fun _ _ => r_indexAddrS Try.runUnderlying47 Try.sizeOf25 rfl rfl (by omega) (by omega)) rfl ?_
     refine d_take (i := 2) rfl (by kernel_rfl) (fun _ _ _ h => h) (H.sub (.cons_cons _ (.cons_cons _ (List.nil_sublist _)))) (fun _ HS => r_load1 Try.isAgg25 rfl (HS.at 1 rfl) (bd1_at (by omega))) rfl ?_
     refine d_take (i := 3) rfl (by kernel_rfl) (fun _ _ _ h => h) (H.sub (.cons_cons _ (.cons_cons _ (List.nil_sublist _)))) (fun _ _ => r_buildS Try.runUnderlying27 Try.zeroValue27 places27 (pc rfl (pc rfl (pc rfl pn))) (rfl : fillL _ _ _ = some (fdV 2 1 bda))) rfl ?_
     refine d_take (i := 4) rfl (by kernel_rfl) (fun _ _ _ h => h) (H.sub (.cons_cons _ (.cons_cons _ (List.nil_sublist _)))) (fun _ _ => r_move rfl) rfl ?_
     refine d_take (i := 5) rfl (by kernel_rfl) (fun _ _ _ h => h) (H.sub (.cons_cons _ (.cons_cons _ (List.nil_sublist _)))) (fun _ _ => r_indexAddrS Try.runUnderlying47 Try.sizeOf25 rfl rfl (by omega) (by omega)) rfl ?_
     refine d_take (i := 6) rfl (by kernel_rfl) (fun _ _ _ h => h) (H.sub (.cons_cons _ (.cons_cons _ (List.nil_sublist _)))) (fun _ HS => r_load1 Try.isAgg25 rfl (HS.at 0 rfl) (bd1_at (by omega))) rfl ?_
     refine d_take (i := 7) rfl (by kernel_rfl) (fun _ _ _ h => h) (H.sub (.cons_cons _ (.cons_cons _ (List.nil_sublist _)))) (fun _ _ => r_buildS Try.runUnderlying27 Try.zeroValue27 places27 (pc rfl (pc rfl (pc rfl pn))) (rfl : fillL _ _ _ = some (fdV 4 2 bdb))) rfl ?_
     refine d_all1 (i := 8) (by kernel_rfl) ?_
     refine b_new rfl go_none (m_bslice2 (us := fdV 2 1 bda) (vs := fdV 4 2 bdb) H Try.runUnderlying22 Try.sizeOf27 Try.zeroValue27 (by omega) (by omega) rfl rfl rfl rfl rfl rfl) rfl (fun _ _ H => (H.sub (.cons _ (.cons_cons _ (.cons_cons _ (List.nil_sublist _)))))) ?_
     intro w b51 H
     refine d_all1 (i := 9) (by kernel_rfl) ?_
     obtain ⟨ya, hya⟩ : ∃ y : Fa, y = ⟨2, 1, bda⟩ := ⟨_, rfl⟩
     obtain ⟨yb, hyb⟩ : ∃ y : Fa, y = ⟨4, 2, bdb⟩ := ⟨_, rfl⟩
     have eya : ya.bd.b = bodyN [mk8 3 1, mk8 5 1] := by rw [hya]; exact hba
     have eyb : yb.bd.b = bodyN [mk8 3 2] := by rw [hyb]; exact hbb
     refine b_call rfl go_none (r_call Try.call7 (ec rfl en)) (order_spec (some ⟨b51, 0, none⟩) 2 [ya, yb] (ex_two ⟨by rw [hya]; exact hRa.2.1, by rw [eya, ex_lA]; decide⟩ ⟨by rw [hyb]; exact hRb.2.1, by rw [eyb, ex_lB]; decide⟩) (by show 2 ≤ _; decide) (ex_lenF eya eyb) _ (fun _ => ⟨b51, 0, [], [], _,_, rfl, (by rw [hya, hyb]; exact H.at 0 rfl), rfl⟩) (ex_two (by rw [hya]; exact hRa.browM H (fun p hp => by simp only [List.mem_append, List.mem_cons, hp, or_true])) (by rw [hyb]; exact hRb.browM H (fun p hp => by simp only [List.mem_append, List.mem_cons, hp, true_or, or_true])))) rfl ?_
     rintro v w ⟨zs, az, cz, Nz, Nbz, rfl, hOz, hRz, hCz, HC⟩
     replace H := St.mid4 (A := [_,_,_]) (H.call0 HC)
     obtain ⟨z0, z1, rfl, e1, e2, e3, e4⟩ := ex_ord (by rw [hya]) (by rw [hyb]) eya eyb hOz
     obtain ⟨bz, spz, rfl, hcz, rfl, hcz2⟩ := RowN.some hRz (by show 0 < 2; omega)
     refine ⟨(H.sub (.cons _ (.cons_cons _ (.cons_cons _ (List.nil_sublist _))))), ?_⟩
     refine d_take (i := 10) rfl (by kernel_rfl) (fun _ _ _ h => h) (H.sub (.cons _ (.cons_cons _ (.cons_cons _ (List.nil_sublist _))))) (fun _ _ => r_assign rfl) rfl ?_
     refine d_done (l' := [_,_,_,_,_,_,_,_,_,_,_,_,_,_,_,_,_,_,_,_,_,_,_,_,_,_,_,_,_,_,_,_,_,_,_,_,_,_,_,_,_,_,_,_,_,_,_,_,_,_,_,_,_,_,_,_,_,_,_,_,_,_,_,_,_,_,_,_,_,_,_,_,_,_,_,_,_,_,_,_,_,_,_,_,_,_]) (by kernel_rfl) rfl ?_
     refine x_thenNormal ?_
     refine c_rseq (n := 86) ⟨rfl, rfl⟩ ?_
     refine s_val (r_move rfl) ?_
     refine s_val (r_lens Try.runUnderlying29 (ec rfl en)) ?_
     refine s_test (r_eql rfl rfl) (fun h55 => ?_) (fun h55 => ?_)
     ·skip
      refine s_val (r_move rfl) ?_
      refine g_yes rfl rfl ?_
      refine s_val (r_move rfl) ?_
      refine g_yes rfl rfl ?_
      refine s_val (r_indexAddrS Try.runUnderlying29 Try.sizeOf42 rfl rfl (by omega) (by omega)) ?_
      refine g_yes rfl rfl ?_
      refine s_val (r_fieldAddr (k := 0) Try.runUnderlying42 rfl Try.sizeOf3 (by decide) rfl rfl) ?_
      refine g_yes rfl rfl ?_
      refine s_val (r_load1 Try.isAgg3 rfl (H.own (bz, Obj.cells (rowC frC [z0, z1] ++ spz).toArray 42 (0, 0)) (List.mem_append_right _ (List.mem_append_left _ (List.mem_append_left _ (List.mem_singleton.2 rfl))))) (fr_at (i := 0) (x := z0) rfl (by omega))) ?_
      refine g_yes rfl rfl ?_
      refine s_test (r_eql rfl rfl) (fun h61 => ?_) (fun h61 => ?_)
      ·skip
       refine s_val (r_pickt rfl rfl) ?_
       refine s_val (r_move rfl) ?_
       refine g_yes rfl rfl ?_
       refine s_val (r_move rfl) ?_
       refine g_yes rfl rfl ?_
       refine s_val (r_indexAddrS Try.runUnderlying29 Try.sizeOf42 rfl rfl (by omega) (by omega)) ?_
       refine g_yes rfl rfl ?_
       refine s_val (r_fieldAddr (k := 1) Try.runUnderlying42 rfl Try.sizeOf40 (by decide) rfl rfl) ?_
       refine g_yes rfl rfl ?_
       refine s_val (r_fieldAddr (k := 2) Try.runUnderlying40 rfl Try.sizeOf3 (by decide) rfl rfl) ?_
       refine g_yes rfl rfl ?_
       refine s_val (r_load1 Try.isAgg3 rfl (H.own (bz, Obj.cells (rowC frC [z0, z1] ++ spz).toArray 42 (0, 0)) (List.mem_append_right _ (List.mem_append_left _ (List.mem_append_left _ (List.mem_singleton.2 rfl))))) (fr_min (i := 0) (x := z0) rfl (by omega))) ?_
       refine g_yes rfl rfl ?_
       refine s_test (r_eql rfl rfl) (fun h69 => ?_) (fun h69 => ?_)
       ·skip
        refine s_val (r_pickt rfl rfl) ?_
        refine s_val (r_move rfl) ?_
        refine g_yes rfl rfl ?_
        refine s_val (r_move rfl) ?_
        refine g_yes rfl rfl ?_
        refine s_val (r_indexAddrS Try.runUnderlying29 Try.sizeOf42 rfl rfl (by omega) (by omega)) ?_
        refine g_yes rfl rfl ?_
        refine s_val (r_fieldAddr (k := 0) Try.runUnderlying42 rfl Try.sizeOf3 (by decide) rfl rfl) ?_
        refine g_yes rfl rfl ?_
        refine s_val (r_load1 Try.isAgg3 rfl (H.own (bz, Obj.cells (rowC frC [z0, z1] ++ spz).toArray 42 (0, 0)) (List.mem_append_right _ (List.mem_append_left _ (List.mem_append_left _ (List.mem_singleton.2 rfl))))) (fr_at (i := 1) (x := z1) rfl (by omega))) ?_
        refine g_yes rfl rfl ?_
        refine s_test (r_eql rfl rfl) (fun h76 => ?_) (fun h76 => ?_)
        ·skip
         refine s_val (r_pickt rfl rfl) ?_
         refine s_val (r_move rfl) ?_
         refine g_yes rfl rfl ?_
         refine s_val (r_move rfl) ?_
         refine g_yes rfl rfl ?_
         refine s_val (r_indexAddrS Try.runUnderlying29 Try.sizeOf42 rfl rfl (by omega) (by omega)) ?_
         refine g_yes rfl rfl ?_
         refine s_val (r_fieldAddr (k := 1) Try.runUnderlying42 rfl Try.sizeOf40 (by decide) rfl rfl) ?_
         refine g_yes rfl rfl ?_
         refine s_val (r_fieldAddr (k := 1) Try.runUnderlying40 rfl Try.sizeOf24 (by decide) rfl rfl) ?_
         refine g_yes rfl rfl ?_
         refine s_val (r_load1 Try.isAgg24 rfl (H.own (bz, Obj.cells (rowC frC [z0, z1] ++ spz).toArray 42 (0, 0)) (List.mem_append_right _ (List.mem_append_left _ (List.mem_append_left _ (List.mem_singleton.2 rfl))))) (fr_num (i := 1) (x := z1) rfl (by omega))) ?_
         refine g_yes rfl rfl ?_
         refine s_test (r_eql rfl rfl) (fun h84 => ?_) (fun h84 => ?_)
         ·skip
          refine s_val (r_pickt rfl rfl) ?_
          refine s_val (r_assign rfl) ?_
          refine c_nil (l' := [_,_,_,_,_,_,_,_,_,_,_,_,_,_,_,_,_,_,_,_,_,_,_,_,_,_,_,_,_,_,_,_,_,_,_,_,_,_,_,_,_,_,_,_,_,_,_,_,_,_,_,_,_,_,_,_,_,_,_,_,_,_,_,_,_,_,_,_,_,_,_,_,_,_,_,_,_,_,_,_,_,_,_,_,_,_]) rfl ?_
          refine wp_ret ?_
          refine e_ret (res1 rfl rfl) ⟨_, rfl, ?_⟩
          exact ⟨rfl, (H.sub (List.nil_sublist _))⟩
         ·skip
          exfalso; omega
        ·skip
         exfalso; omega
       ·skip
        exfalso; omega
      ·skip
       exfalso; omega
     ·skip
      exact absurd rfl h55

end Go.Proofs.Ytihpeihlpgompaa

