import Derived.Test.YtbjalofmamoffaaC3
import Derived.Test.YtbjalofmamoffaaD4
import Derived.Test.YtbjalofmamoffaaT6
namespace Go.Proofs.Ytbjalofmamoffaa
open Go Go.Er
set_option linter.unusedSimpArgs false in
theorem places38 : Places Try.prog #[⟨ "Size", 3, 0, false, "", "", 0⟩, ⟨ "Head", 3, 1, false, "", "", 8⟩, ⟨ "Slot", 3, 2, false, "", "", 16⟩, ⟨ "Gens", 35, 3, false, "", "", 24⟩, ⟨ "Last", 36, 4, false, "", "", 48⟩] [(0, 1), (1, 1), (2, 1), (3, 1), (4, 1)] := fun w => by simp [Try.sizeOf3 w, Try.sizeOf35 w, Try.sizeOf36 w]
theorem bytes36 : Try.t36.bytes = 8 := rfl

set_option maxHeartbeats 4000000 in
theorem xnew_spec (g z : Int) (hg0 : 3 ≤ g) (hg1 : g ≤ 64) (w0 : World) :
    Calls Try.prog 11 #[.int .i64 g, .int .i64 z] w0 fun e w => ∃ v, e = .returned v ∧ (∃ a c N, v = .agg (xrL (newL g z) a c).toArray ∧ RowN 1 36 (uC (newL g z).gens) (newL g z).gens.length a c N ∧ St w0 [] w N) := by
  have H := St.refl w0
  refine c_enter (args := [.int .i64 g, .int .i64 z]) (l := [.int .i64 g, .int .i64 z, undef, undef, undef, undef, undef, undef, undef]) Try.func11 Try.ntmps11 rfl rfl ?_
  refine c_rseq (n := 9) ⟨rfl, rfl⟩ ?_
  refine s_new (m_alloc (cs := (xrC 0 0 0 0 none 0 0)) H Try.zeroValue38 rfl) ?_
  intro w b4 H
  refine c_nil (l' := [_, _, _, _, _, _, _, _, _]) rfl ?_
  refine c_rseq (n := 9) ⟨rfl, rfl⟩ ?_
  refine s_val (r_move rfl) ?_
  refine s_val (r_move rfl) ?_
  refine s_new (m_make (n := g.toNat) (nb := 8) (v := .int .u64 0) H Try.underlying35 (by kernel_rfl) rfl rfl rfl (by omega) (by omega) (by omega) (by omega)) ?_
  intro w bg H
  refine s_val (r_buildS Try.runUnderlying38 Try.zeroValue38 places38 (pc rfl (pc rfl (pc rfl pn))) (rfl : fillL _ _ _ = some (xrC z (-1) 0 0 (some ⟨bg, 0, none⟩) g.toNat g.toNat))) ?_
  refine s_st (m_storen H 1 5 Try.sizeOf38 rfl rfl (by first | exact (kC_length _) | exact (hC_length _) | exact (shC_length _ _) | exact (wC_length _) | exact (sdC_length _ _) | exact (xrL_length _ _ _) | exact (xrC_length _ _ _ _ _ _ _) | exact (rigC_length _ _ _ _ _ _ _) | exact (doC_length _)) (by first | exact (kC_one _) | exact (hC_one _) | exact (shC_one _ _) | exact (elW.one _) | exact (sdC_one _ _) | exact (xrL_one _ _ _) | exact (xrC_one _ _ _ _ _ _ _) | exact (rigC_one _ _ _ _ _ _ _) | exact (elDo.one _)) rfl (by first | exact (by rw [kC_length]; omega) | exact (by rw [hC_length]; omega) | exact (by rw [wC_length]; omega) | exact (by show _ ≤ 5; omega) | exact (by show _ ≤ 7; omega) | exact (by show _ ≤ 3; omega)) xrC_sp) (L' := (_ :: _ :: _)) rfl ?_
  intro w H
  refine c_nil (l' := [_, _, _, _, _, _, _, _, _]) rfl ?_
  refine wp_ret ?_
  refine e_ret (rc_one rfl (rc_celln Try.isAgg38 Try.sizeOf38 rfl (H.at 1 rfl) (by first | exact (kC_td _) | exact (hC_td _) | exact (hC_seed _) | exact (shC_td _ _) | exact (sdC_td _ _) | exact (xrL_td _ _ _) | exact (xrC_td _ _ _ _ _ _ _) | exact (rigC_td _ _ _ _ _ _ _) | exact (doC_td _)) (by first | exact (kC_length _) | exact (hC_length _) | exact (shC_length _ _) | exact (wC_length _) | exact (sdC_length _ _) | exact (xrL_length _ _ _) | exact (xrC_length _ _ _ _ _ _ _) | exact (rigC_length _ _ _ _ _ _ _) | exact (doC_length _)))) ⟨_, rfl, ?_⟩
  have e : List.replicate g.toNat (Value.int .u64 0) = uC (newL g z).gens ++ [] := by simp [uC, newL]
  have hl : (newL g z).gens.length = g.toNat := List.length_replicate
  rw [e] at H
  exact ⟨some ⟨bg, 0, none⟩, g.toNat, _, by unfold xrL; rw [hl]; rfl, RowN.mk1 (by omega) (by omega), H.sub (.cons_cons _ (List.nil_sublist _))⟩

set_option maxHeartbeats 4000000 in
theorem xcopy_spec (x : LS) (hF : LogF x) (a : Option Addr) (c : Nat) (w0 : World) (hr : URow w0 a x.gens) :
    Calls Try.prog 12 #[.agg (xrL x a c).toArray] w0 fun e w => ∃ v, e = .returned v ∧ (∃ a2 c2 N, v = .agg (xrL x a2 c2).toArray ∧ RowN 1 36 (uC x.gens) x.gens.length a2 c2 N ∧ St w0 [] w N) := by
  obtain ⟨fg0, fg1, fz0, fz1, fgl, fcl, fu, ⟨fh0, fh1⟩, ⟨fs0, fs1⟩, ⟨fk0, fk1⟩, fkg⟩ := id hF
  have H := St.refl w0
  refine c_enter (args := [.agg (xrL x a c).toArray]) (l := [.agg (xrL x a c).toArray, undef, undef, undef, undef, undef, undef, undef, undef]) Try.func12 Try.ntmps12 rfl rfl ?_
  refine c_rseq (n := 9) ⟨rfl, rfl⟩ ?_
  refine s_new (m_box (cs := (xrL x a c)) H rfl rfl) ?_
  intro w b1 H
  refine s_new (m_alloc (cs := (xrC 0 0 0 0 none 0 0)) H Try.zeroValue38 rfl) ?_
  intro w b2 H
  refine c_nil (l' := [_, _, _, _, _, _, _, _, _]) rfl ?_
  refine c_rseq (n := 9) ⟨rfl, rfl⟩ ?_
  refine s_new (m_bslice0 H Try.runUnderlying35 Try.sizeOf36) ?_
  intro w bz H
  refine s_val (r_fieldAddr (k := 3) Try.runUnderlying38 rfl Try.sizeOf35 (by decide) rfl rfl) ?_
  refine s_val (r_load1 Try.isAgg35 rfl (H.at 2 rfl) rfl) ?_
  refine s_any (m_append_lit H Try.runUnderlying35 Try.runUnderlying35 (fun _ h => nomatch h) Try.sizeOf36 Try.zeroValue36 rfl Try.typeInfo36 (by rw [bytes36]; omega) (by rw [bytes36]; omega) (ec rfl (ec rfl en)) ((hr.st (H.sub (List.nil_sublist _))).src _)) ?_
  rintro v w ⟨ao, co, No, rfl, hNo, H⟩
  replace H : St w0 [] w (_ :: _ :: No) := H.perm (List.perm_append_comm (l₁ := [_, _]))
  refine s_val (r_fieldAddr (k := 3) Try.runUnderlying38 rfl Try.sizeOf35 (by decide) rfl rfl) ?_
  refine s_st (m_store1 H 1 Try.sizeOf35 rfl rfl rfl rfl (by show 3 < 5; omega) (rfl : _ = xrL x ao co)) (L' := (_ :: _ :: _)) rfl ?_
  intro w H
  refine c_nil (l' := [_, _, _, _, _, _, _, _, _]) rfl ?_
  refine c_rseq (n := 9) ⟨rfl, rfl⟩ ?_
  refine s_val (r_loadn Try.isAgg38 Try.sizeOf38 rfl (H.at 1 rfl) (by first | exact (kC_td _) | exact (hC_td _) | exact (hC_seed _) | exact (shC_td _ _) | exact (sdC_td _ _) | exact (xrL_td _ _ _) | exact (xrC_td _ _ _ _ _ _ _) | exact (rigC_td _ _ _ _ _ _ _) | exact (doC_td _)) (by first | exact (kC_length _) | exact (hC_length _) | exact (shC_length _ _) | exact (wC_length _) | exact (sdC_length _ _) | exact (xrL_length _ _ _) | exact (xrC_length _ _ _ _ _ _ _) | exact (rigC_length _ _ _ _ _ _ _) | exact (doC_length _) | exact rfl)) ?_
  refine s_st (m_storen H 0 5 Try.sizeOf38 rfl rfl (by first | exact (kC_length _) | exact (hC_length _) | exact (shC_length _ _) | exact (wC_length _) | exact (sdC_length _ _) | exact (xrL_length _ _ _) | exact (xrC_length _ _ _ _ _ _ _) | exact (rigC_length _ _ _ _ _ _ _) | exact (doC_length _)) (by first | exact (kC_one _) | exact (hC_one _) | exact (shC_one _ _) | exact (elW.one _) | exact (sdC_one _ _) | exact (xrL_one _ _ _) | exact (xrC_one _ _ _ _ _ _ _) | exact (rigC_one _ _ _ _ _ _ _) | exact (elDo.one _)) rfl (by first | exact (by rw [kC_length]; omega) | exact (by rw [hC_length]; omega) | exact (by rw [wC_length]; omega) | exact (by show _ ≤ 5; omega) | exact (by show _ ≤ 7; omega) | exact (by show _ ≤ 3; omega)) (xrL_sp0 _ _ _ _ _)) (L' := (_ :: _ :: _)) rfl ?_
  intro w H
  refine c_nil (l' := [_, _, _, _, _, _, _, _, _]) rfl ?_
  refine wp_ret ?_
  refine e_ret (rc_one rfl (rc_celln Try.isAgg38 Try.sizeOf38 rfl (H.at 0 rfl) (by first | exact (kC_td _) | exact (hC_td _) | exact (hC_seed _) | exact (shC_td _ _) | exact (sdC_td _ _) | exact (xrL_td _ _ _) | exact (xrC_td _ _ _ _ _ _ _) | exact (rigC_td _ _ _ _ _ _ _) | exact (doC_td _)) (by first | exact (kC_length _) | exact (hC_length _) | exact (shC_length _ _) | exact (wC_length _) | exact (sdC_length _ _) | exact (xrL_length _ _ _) | exact (xrC_length _ _ _ _ _ _ _) | exact (rigC_length _ _ _ _ _ _ _) | exact (doC_length _)))) ⟨_, rfl, ?_⟩
  exact ⟨_, _, _, rfl, hNo, H.sub (.cons _ (.cons _ (List.Sublist.refl _)))⟩

set_option maxHeartbeats 4000000 in
theorem xfree_spec (x : LS) (hF : LogF x) (a : Option Addr) (c : Nat) (w0 : World) (hr : URow w0 a x.gens) :
    Calls Try.prog 37 #[.agg (xrL x a c).toArray] w0 fun e w => ∃ v, e = .returned v ∧ (v = .int .i64 (firstZ x.gens) ∧ St w0 [] w []) := by
  obtain ⟨fg0, fg1, fz0, fz1, fgl, fcl, fu, ⟨fh0, fh1⟩, ⟨fs0, fs1⟩, ⟨fk0, fk1⟩, fkg⟩ := id hF
  have H := St.refl w0
  refine c_enter (args := [.agg (xrL x a c).toArray]) (l := [.agg (xrL x a c).toArray, undef, undef, undef, undef, undef, undef, undef, undef, undef, undef, undef, undef, undef, undef, undef, undef, undef]) Try.func37 Try.ntmps37 rfl rfl ?_
  refine c_rseq (n := 18) ⟨rfl, rfl⟩ ?_
  refine s_new (m_box (cs := (xrL x a c)) H rfl rfl) ?_
  intro w b1 H
  refine s_val (r_assign rfl) ?_
  refine c_nil (l' := [_, _, _, _, _, _, _, _, _, _, _, _, _, _, _, _, _, _]) rfl ?_
  refine c_seq ?_
  refine c_rseq (n := 18) ⟨rfl, rfl⟩ ?_
  refine s_val (r_assign rfl) ?_
  refine c_nil (l' := [_, _, _, _, _, _, _, _, _, _, _, _, _, _, _, _, _, _]) rfl ?_
  refine wp_block ?_
  refine c_loop (fun (l0 : List Value) (i : Nat) (l : List Value) (w : World) => ∃ (u4 u5 u6 u7 u8 u9 u10 u11 u12 u13 u14 u15 u16 u17 : Value) , l = ovr l0 [N_, N_, Y_ (.int .i64 0), Y_ (.int .i64 i), Y_ u4, Y_ u5, Y_ u6, Y_ u7, Y_ u8, Y_ u9, Y_ u10, Y_ u11, Y_ u12, Y_ u13, Y_ u14, Y_ u15, Y_ u16, Y_ u17] ∧ i ≤ x.gens.length ∧ (∀ j, j < i → x.gens.getD j 0 ≠ 0) ∧ St w0 [] w ((b1, .cells (xrL x a c).toArray 38 (0, 0)) :: [])) (fun (i : Nat) => x.gens.length - i) 0 ⟨_, _, _, _, _, _, _, _, _, _, _, _, _, _, rfl, by omega, (fun _ h => absurd h (Nat.not_lt_zero _)), H⟩ ?_
  intro i l w ⟨u4, u5, u6, u7, u8, u9, u10, u11, u12, u13, u14, u15, u16, u17, hl, hi, hno, H⟩
  obtain rfl := hl.trans (rfl : _ = [_, _, _, _, _, _, _, _, _, _, _, _, _, _, _, _, _, _])
  clear hl
  refine c_seq ?_
  refine c_rseq (n := 18) ⟨rfl, rfl⟩ ?_
  refine s_val (r_move rfl) ?_
  refine s_val (r_fieldAddr (k := 3) Try.runUnderlying38 rfl Try.sizeOf35 (by decide) rfl rfl) ?_
  refine s_val (r_load1 Try.isAgg35 rfl (H.at 0 rfl) rfl) ?_
  refine s_val (r_lens Try.runUnderlying35 (ec rfl en)) ?_
  refine s_val (r_lss rfl rfl) ?_
  refine c_nil (l' := [_, _, _, _, _, _, _, _, _, _, _, _, _, _, _, _, _, _]) rfl ?_
  refine c_if rfl (fun h8 => ?_) (fun h8 => ?_)
  · skip
    obtain ⟨bu, off, pre, post, T, fz, rfl, hbu, hpu⟩ := hr (by omega)
    refine wp_skip ?_
    refine x_thenNormal ?_
    refine c_seq ?_
    refine wp_block ?_
    refine c_rseq (n := 18) ⟨rfl, rfl⟩ ?_
    refine s_val (r_fieldAddr (k := 3) Try.runUnderlying38 rfl Try.sizeOf35 (by decide) rfl rfl) ?_
    refine s_val (r_load1 Try.isAgg35 rfl (H.at 0 rfl) rfl) ?_
    refine s_val (r_move rfl) ?_
    refine s_val (r_indexAddrS Try.runUnderlying35 Try.sizeOf36 rfl rfl (by omega) (by omega)) ?_
    refine s_val (r_load1 Try.isAgg36 rfl (H.rd0 hbu) (u_get pre x.gens post i hpu (by omega) (by omega))) ?_
    refine s_val (r_eql rfl rfl) ?_
    refine c_nil (l' := [_, _, _, _, _, _, _, _, _, _, _, _, _, _, _, _, _, _]) rfl ?_
    refine c_if rfl (fun h16 => ?_) (fun h16 => ?_)
    · skip
      refine c_rseq (n := 18) ⟨rfl, rfl⟩ ?_
      refine s_val (r_move rfl) ?_
      refine s_val (r_assign rfl) ?_
      refine c_nil (l' := [_, _, _, _, _, _, _, _, _, _, _, _, _, _, _, _, _, _]) rfl ?_
      refine wp_ret (x_blockRet (x_thenRet (x_thenRet (x_blockRet (x_thenRet ?_)))))
      refine e_ret (res1 rfl rfl) ⟨_, rfl, ?_⟩
      exact ⟨by rw [firstZ_some (by omega) h16 hno], H.sub (List.nil_sublist _)⟩
    · skip
      refine wp_skip ?_
      refine x_blockNormal ?_
      refine x_thenNormal ?_
      refine c_region (n := 18) ⟨rfl, rfl⟩ ?_
      refine s_val (r_move rfl) ?_
      refine s_val (r_add rfl rfl (w_i64 (by omega) (by omega))) ?_
      refine s_val (r_assign rfl) ?_
      refine c_nil0 (l' := [_, _, _, _, _, _, _, _, _, _, _, _, _, _, _, _, _, _]) rfl ?_
      exact ⟨i + 1, _, rfl, ⟨_, _, _, _, _, _, _, _, _, _, _, _, _, _, rfl, by omega, (fun j hj => (Nat.lt_succ_iff_lt_or_eq.1 hj).elim (hno j) (fun e => e ▸ h16)), H⟩, by omega⟩
  · skip
    obtain rfl : i = x.gens.length := by omega
    refine wp_exit (x_thenExit (x_thenExit (x_blockHit ?_)))
    refine x_thenNormal ?_
    refine c_rseq (n := 18) ⟨rfl, rfl⟩ ?_
    refine s_val (r_assign rfl) ?_
    refine c_nil (l' := [_, _, _, _, _, _, _, _, _, _, _, _, _, _, _, _, _, _]) rfl ?_
    refine wp_ret ?_
    refine e_ret (res1 rfl rfl) ⟨_, rfl, ?_⟩
    exact ⟨by rw [firstZ_none hno], H.sub (List.nil_sublist _)⟩

set_option maxHeartbeats 4000000 in
theorem xroom_spec (x : LS) (hF : LogF x) (a : Option Addr) (c : Nat) (w0 : World) (hr : URow w0 a x.gens) :
    Calls Try.prog 38 #[.agg (xrL x a c).toArray] w0 fun e w => ∃ v, e = .returned v ∧ (v = .int .i64 (room x) ∧ St w0 [] w []) := by
  obtain ⟨fg0, fg1, fz0, fz1, fgl, fcl, fu, ⟨fh0, fh1⟩, ⟨fs0, fs1⟩, ⟨fk0, fk1⟩, fkg⟩ := id hF
  have H := St.refl w0
  refine c_enter (args := [.agg (xrL x a c).toArray]) (l := [.agg (xrL x a c).toArray, undef, undef, undef, undef, undef, undef, undef, undef, undef, undef, undef, undef, undef, undef, undef, undef, undef, undef, undef, undef, undef, undef, undef, undef, undef, undef, undef, undef, undef, undef]) Try.func38 Try.ntmps38 rfl rfl ?_
  refine c_rseq (n := 31) ⟨rfl, rfl⟩ ?_
  refine s_new (m_box (cs := (xrL x a c)) H rfl rfl) ?_
  intro w b1 H
  refine s_val (r_assign rfl) ?_
  refine c_nil (l' := [_, _, _, _, _, _, _, _, _, _, _, _, _, _, _, _, _, _, _, _, _, _, _, _, _, _, _, _, _, _, _]) rfl ?_
  refine c_rseq (n := 31) ⟨rfl, rfl⟩ ?_
  refine s_val (r_assign rfl) ?_
  refine c_nil (l' := [_, _, _, _, _, _, _, _, _, _, _, _, _, _, _, _, _, _, _, _, _, _, _, _, _, _, _, _, _, _, _]) rfl ?_
  refine c_cut (fun (l0 : List Value) (l : List Value) (w : World) => ∃ (u5 u6 u7 u8 u9 u10 u11 u12 : Value) (n0 : Int), l = ovr l0 [N_, N_, N_, Y_ (.int .i64 n0), N_, Y_ u5, Y_ u6, Y_ u7, Y_ u8, Y_ u9, Y_ u10, Y_ u11, Y_ u12] ∧ n0 = (if 0 ≤ x.head then x.z - x.slot else 0) ∧ St w0 [] w [(b1, .cells (xrL x a c).toArray 38 (0, 0))]) ?_ ?_
  · skip
    refine c_rseq (n := 31) ⟨rfl, rfl⟩ ?_
    refine s_val (r_fieldAddr (k := 1) Try.runUnderlying38 rfl Try.sizeOf3 (by decide) rfl rfl) ?_
    refine s_val (r_load1 Try.isAgg3 rfl (H.at 0 rfl) rfl) ?_
    refine s_val (r_geq rfl rfl) ?_
    refine c_nil (l' := [_, _, _, _, _, _, _, _, _, _, _, _, _, _, _, _, _, _, _, _, _, _, _, _, _, _, _, _, _, _, _]) rfl ?_
    refine c_if rfl (fun h7 => ?_) (fun h7 => ?_)
    · skip
      refine c_region (n := 31) ⟨rfl, rfl⟩ ?_
      refine s_val (r_fieldAddr (k := 0) Try.runUnderlying38 rfl Try.sizeOf3 (by decide) rfl rfl) ?_
      refine s_val (r_load1 Try.isAgg3 rfl (H.at 0 rfl) rfl) ?_
      refine s_val (r_fieldAddr (k := 2) Try.runUnderlying38 rfl Try.sizeOf3 (by decide) rfl rfl) ?_
      refine s_val (r_load1 Try.isAgg3 rfl (H.at 0 rfl) rfl) ?_
      refine s_val (r_sub rfl rfl (w_i64 (by omega) (by omega))) ?_
      refine s_val (r_assign rfl) ?_
      refine c_nil0 (l' := [_, _, _, _, _, _, _, _, _, _, _, _, _, _, _, _, _, _, _, _, _, _, _, _, _, _, _, _, _, _, _]) rfl ?_
      exact ⟨_, rfl, ⟨_, _, _, _, _, _, _, _, _, rfl, (by rw [if_pos h7]), H⟩⟩
    · skip
      refine wp_skip ?_
      exact ⟨_, rfl, ⟨_, _, _, _, _, _, _, _, _, rfl, (by rw [if_neg h7]), H⟩⟩
  · skip
    rintro l w ⟨u5, u6, u7, u8, u9, u10, u11, u12, n0, hl, hn0, H⟩
    obtain rfl := hl.trans (rfl : _ = [_, _, _, _, _, _, _, _, _, _, _, _, _, _, _, _, _, _, _, _, _, _, _, _, _, _, _, _, _, _, _])
    clear hl
    have hn1 : 0 ≤ n0 ∧ n0 ≤ 32 := by rw [hn0]; split <;> omega
    refine c_seq ?_
    refine c_rseq (n := 31) ⟨rfl, rfl⟩ ?_
    refine s_val (r_assign rfl) ?_
    refine c_nil (l' := [_, _, _, _, _, _, _, _, _, _, _, _, _, _, _, _, _, _, _, _, _, _, _, _, _, _, _, _, _, _, _]) rfl ?_
    refine wp_block ?_
    refine c_loop (fun (l0 : List Value) (i : Nat) (l : List Value) (w : World) => ∃ (u13 u14 u15 u16 u17 u18 u19 u20 u21 u22 u23 u24 u25 u26 u27 u28 u29 : Value) , l = ovr l0 [N_, N_, N_, Y_ (.int .i64 (rmL x.gens x.z n0 i)), Y_ (.int .i64 i), N_, N_, N_, N_, N_, N_, N_, N_, Y_ u13, Y_ u14, Y_ u15, Y_ u16, Y_ u17, Y_ u18, Y_ u19, Y_ u20, Y_ u21, Y_ u22, Y_ u23, Y_ u24, Y_ u25, Y_ u26, Y_ u27, Y_ u28, Y_ u29] ∧ i ≤ x.gens.length ∧ St w0 [] w ((b1, .cells (xrL x a c).toArray 38 (0, 0)) :: [])) (fun (i : Nat) => x.gens.length - i) 0 ⟨_, _, _, _, _, _, _, _, _, _, _, _, _, _, _, _, _, rfl, by omega, H⟩ ?_
    intro i l w ⟨u13, u14, u15, u16, u17, u18, u19, u20, u21, u22, u23, u24, u25, u26, u27, u28, u29, hl, hi, H⟩
    obtain rfl := hl.trans (rfl : _ = [_, _, _, _, _, _, _, _, _, _, _, _, _, _, _, _, _, _, _, _, _, _, _, _, _, _, _, _, _, _, _])
    clear hl
    have hrm := rmL_rng (ns := x.gens) (n0 := n0) (z := x.z) (by omega) (by omega) i
    refine c_seq ?_
    refine c_rseq (n := 31) ⟨rfl, rfl⟩ ?_
    refine s_val (r_move rfl) ?_
    refine s_val (r_fieldAddr (k := 3) Try.runUnderlying38 rfl Try.sizeOf35 (by decide) rfl rfl) ?_
    refine s_val (r_load1 Try.isAgg35 rfl (H.at 0 rfl) rfl) ?_
    refine s_val (r_lens Try.runUnderlying35 (ec rfl en)) ?_
    refine s_val (r_lss rfl rfl) ?_
    refine c_nil (l' := [_, _, _, _, _, _, _, _, _, _, _, _, _, _, _, _, _, _, _, _, _, _, _, _, _, _, _, _, _, _, _]) rfl ?_
    refine c_if rfl (fun h17 => ?_) (fun h17 => ?_)
    · skip
      obtain ⟨bu, off, pre, post, T, fz, rfl, hbu, hpu⟩ := hr (by omega)
      refine wp_skip ?_
      refine x_thenNormal ?_
      refine c_seq ?_
      refine wp_block ?_
      refine c_rseq (n := 31) ⟨rfl, rfl⟩ ?_
      refine s_val (r_fieldAddr (k := 3) Try.runUnderlying38 rfl Try.sizeOf35 (by decide) rfl rfl) ?_
      refine s_val (r_load1 Try.isAgg35 rfl (H.at 0 rfl) rfl) ?_
      refine s_val (r_move rfl) ?_
      refine s_val (r_indexAddrS Try.runUnderlying35 Try.sizeOf36 rfl rfl (by omega) (by omega)) ?_
      refine s_val (r_load1 Try.isAgg36 rfl (H.rd0 hbu) (u_get pre x.gens post i hpu (by omega) (by omega))) ?_
      refine s_val (r_eql rfl rfl) ?_
      refine c_nil (l' := [_, _, _, _, _, _, _, _, _, _, _, _, _, _, _, _, _, _, _, _, _, _, _, _, _, _, _, _, _, _, _]) rfl ?_
      refine c_if rfl (fun h25 => ?_) (fun h25 => ?_)
      · skip
        have hst : rmL x.gens x.z n0 (i + 1) = rmL x.gens x.z n0 i + x.z := by show (if _ then _ else _) = _; rw [if_pos h25]
        refine c_region (n := 31) ⟨rfl, rfl⟩ ?_
        refine s_val (r_move rfl) ?_
        refine s_val (r_fieldAddr (k := 0) Try.runUnderlying38 rfl Try.sizeOf3 (by decide) rfl rfl) ?_
        refine s_val (r_load1 Try.isAgg3 rfl (H.at 0 rfl) rfl) ?_
        refine s_val (r_add rfl rfl (w_i64e (r := rmL x.gens x.z n0 (i + 1)) hst.symm (by omega) (by omega))) ?_
        refine s_val (r_assign rfl) ?_
        refine c_nil0 (l' := [_, _, _, _, _, _, _, _, _, _, _, _, _, _, _, _, _, _, _, _, _, _, _, _, _, _, _, _, _, _, _]) rfl ?_
        refine x_blockNormal ?_
        refine x_thenNormal ?_
        refine c_region (n := 31) ⟨rfl, rfl⟩ ?_
        refine s_val (r_move rfl) ?_
        refine s_val (r_add rfl rfl (w_i64 (by omega) (by omega))) ?_
        refine s_val (r_assign rfl) ?_
        refine c_nil0 (l' := [_, _, _, _, _, _, _, _, _, _, _, _, _, _, _, _, _, _, _, _, _, _, _, _, _, _, _, _, _, _, _]) rfl ?_
        skip
        exact ⟨i + 1, _, rfl, ⟨_, _, _, _, _, _, _, _, _, _, _, _, _, _, _, _, _, rfl, by omega, H⟩, by omega⟩
      · skip
        have hst : rmL x.gens x.z n0 (i + 1) = rmL x.gens x.z n0 i := by show (if _ then _ else _) = _; rw [if_neg h25]
        refine wp_skip ?_
        refine x_blockNormal ?_
        refine x_thenNormal ?_
        refine c_region (n := 31) ⟨rfl, rfl⟩ ?_
        refine s_val (r_move rfl) ?_
        refine s_val (r_add rfl rfl (w_i64 (by omega) (by omega))) ?_
        refine s_val (r_assign rfl) ?_
        refine c_nil0 (l' := [_, _, _, _, _, _, _, _, _, _, _, _, _, _, _, _, _, _, _, _, _, _, _, _, _, _, _, _, _, _, _]) rfl ?_
        rw [← hst]
        exact ⟨i + 1, _, rfl, ⟨_, _, _, _, _, _, _, _, _, _, _, _, _, _, _, _, _, rfl, by omega, H⟩, by omega⟩
    · skip
      obtain rfl : i = x.gens.length := by omega
      refine wp_exit (x_thenExit (x_thenExit (x_blockHit ?_)))
      refine x_thenNormal ?_
      refine c_rseq (n := 31) ⟨rfl, rfl⟩ ?_
      refine s_val (r_move rfl) ?_
      refine s_val (r_assign rfl) ?_
      refine c_nil (l' := [_, _, _, _, _, _, _, _, _, _, _, _, _, _, _, _, _, _, _, _, _, _, _, _, _, _, _, _, _, _, _]) rfl ?_
      refine wp_ret ?_
      refine e_ret (res1 rfl rfl) ⟨_, rfl, ?_⟩
      exact ⟨by unfold room; rw [← hn0], H.sub (List.nil_sublist _)⟩

set_option maxHeartbeats 4000000 in
theorem xappend_spec (x : LS) (hF : LogF x) (a : Option Addr) (c : Nat) (body : List UInt8) (hb : body.length ≤ 103) (w0 : World) (hr : URow w0 a x.gens) :
    Calls Try.prog 16 #[.agg (xrL x a c).toArray] w0 fun e w => ∃ v, e = .returned v ∧ (∃ a2 c2 N2, v = .tuple #[.agg (xrL (appL x body).1 a2 c2).toArray, .int .i64 (refAt (appL x body))] ∧ RowN 1 36 (uC (appL x body).1.gens) (appL x body).1.gens.length a2 c2 N2 ∧ St w0 [] w N2) := by
  obtain ⟨fg0, fg1, fz0, fz1, fgl, fcl, fu, ⟨fh0, fh1⟩, ⟨fs0, fs1⟩, ⟨fk0, fk1⟩, fkg⟩ := id hF
  have H := St.refl w0
  refine c_enter (args := [.agg (xrL x a c).toArray]) (l := [.agg (xrL x a c).toArray, undef, undef, undef, undef, undef, undef, undef, undef, undef, undef, undef, undef, undef, undef, undef, undef, undef, undef, undef, undef, undef, undef, undef, undef, undef, undef, undef, undef, undef, undef, undef, undef, undef, undef, undef, undef, undef, undef, undef, undef, undef, undef, undef, undef, undef, undef, undef, undef, undef]) Try.func16 Try.ntmps16 rfl rfl ?_
  refine c_rseq (n := 50) ⟨rfl, rfl⟩ ?_
  refine s_new (m_box (cs := (xrL x a c)) H rfl rfl) ?_
  intro w b1 H
  refine s_new (m_alloc (cs := (xrC 0 0 0 0 none 0 0)) H Try.zeroValue38 rfl) ?_
  intro w b2 H
  refine s_val (r_assign rfl) ?_
  refine c_nil (l' := [_, _, _, _, _, _, _, _, _, _, _, _, _, _, _, _, _, _, _, _, _, _, _, _, _, _, _, _, _, _, _, _, _, _, _, _, _, _, _, _, _, _, _, _, _, _, _, _, _, _]) rfl ?_
  refine c_rseq (n := 50) ⟨rfl, rfl⟩ ?_
  refine s_val (r_loadn Try.isAgg38 Try.sizeOf38 rfl (H.at 1 rfl) (by first | exact (kC_td _) | exact (hC_td _) | exact (hC_seed _) | exact (shC_td _ _) | exact (sdC_td _ _) | exact (xrL_td _ _ _) | exact (xrC_td _ _ _ _ _ _ _) | exact (rigC_td _ _ _ _ _ _ _) | exact (doC_td _)) (by first | exact (kC_length _) | exact (hC_length _) | exact (shC_length _ _) | exact (wC_length _) | exact (sdC_length _ _) | exact (xrL_length _ _ _) | exact (xrC_length _ _ _ _ _ _ _) | exact (rigC_length _ _ _ _ _ _ _) | exact (doC_length _) | exact rfl)) ?_
  have hr2 := hr.st (H.sub (List.nil_sublist _))
  refine s_call (r_call Try.call12 (ec rfl en)) (xcopy_spec x hF _ _ _ hr2) ?_
  rintro v w ⟨ac, cc, Nc, rfl, hNc, HC⟩
  replace H : St w0 [] w (_ :: _ :: Nc) := (H.call0 HC).perm (List.perm_append_comm (l₁ := [_, _]))
  obtain ⟨bu, sp, rfl, rfl, hc1, hc2⟩ := hNc.own1 (by omega)
  refine s_st (m_storen H 1 5 Try.sizeOf38 rfl rfl (by first | exact (kC_length _) | exact (hC_length _) | exact (shC_length _ _) | exact (wC_length _) | exact (sdC_length _ _) | exact (xrL_length _ _ _) | exact (xrC_length _ _ _ _ _ _ _) | exact (rigC_length _ _ _ _ _ _ _) | exact (doC_length _)) (by first | exact (kC_one _) | exact (hC_one _) | exact (shC_one _ _) | exact (elW.one _) | exact (sdC_one _ _) | exact (xrL_one _ _ _) | exact (xrC_one _ _ _ _ _ _ _) | exact (rigC_one _ _ _ _ _ _ _) | exact (elDo.one _)) rfl (by first | exact (by rw [kC_length]; omega) | exact (by rw [hC_length]; omega) | exact (by rw [wC_length]; omega) | exact (by show _ ≤ 5; omega) | exact (by show _ ≤ 7; omega) | exact (by show _ ≤ 3; omega)) (rfl : _ = xrL x (some ⟨bu, 0, none⟩) cc)) (L' := (_ :: _ :: _ :: _)) rfl ?_
  intro w H
  refine c_nil (l' := [_, _, _, _, _, _, _, _, _, _, _, _, _, _, _, _, _, _, _, _, _, _, _, _, _, _, _, _, _, _, _, _, _, _, _, _, _, _, _, _, _, _, _, _, _, _, _, _, _, _]) rfl ?_
  refine c_seq ?_
  refine c_rseq (n := 50) ⟨rfl, rfl⟩ ?_
  refine s_val (r_fieldAddr (k := 1) Try.runUnderlying38 rfl Try.sizeOf3 (by decide) rfl rfl) ?_
  refine s_val (r_load1 Try.isAgg3 rfl (H.at 1 rfl) rfl) ?_
  refine s_test (r_lss rfl rfl) (fun h9 => ?_) (fun h9 => ?_)
  · skip
    refine s_val (r_move rfl) ?_
    refine g_no rfl rfl (by decide) ?_
    refine g_no rfl rfl (by decide) ?_
    refine g_no rfl rfl (by decide) ?_
    refine g_no rfl rfl (by decide) ?_
    refine g_no rfl rfl (by decide) ?_
    refine s_val (r_pickt rfl rfl) ?_
    refine c_nil (l' := [_, _, _, _, _, _, _, _, _, _, _, _, _, _, _, _, _, _, _, _, _, _, _, _, _, _, _, _, _, _, _, _, _, _, _, _, _, _, _, _, _, _, _, _, _, _, _, _, _, _]) rfl ?_
    refine c_ift rfl ?_
    refine c_rseq (n := 50) ⟨rfl, rfl⟩ ?_
    refine s_val (r_loadn Try.isAgg38 Try.sizeOf38 rfl (H.at 1 rfl) (by first | exact (kC_td _) | exact (hC_td _) | exact (hC_seed _) | exact (shC_td _ _) | exact (sdC_td _ _) | exact (xrL_td _ _ _) | exact (xrC_td _ _ _ _ _ _ _) | exact (rigC_td _ _ _ _ _ _ _) | exact (doC_td _)) (by first | exact (kC_length _) | exact (hC_length _) | exact (shC_length _ _) | exact (wC_length _) | exact (sdC_length _ _) | exact (xrL_length _ _ _) | exact (xrC_length _ _ _ _ _ _ _) | exact (rigC_length _ _ _ _ _ _ _) | exact (doC_length _) | exact rfl)) ?_
    have hr2 := hNc.urowM H (fun p hp => List.mem_cons_of_mem _ (List.mem_cons_of_mem _ hp))
    refine s_call (r_call Try.call37 (ec rfl en)) (xfree_spec x hF _ _ _ hr2) ?_
    rintro v w ⟨rfl, HC⟩
    replace H := H.quiet HC
    refine s_val (r_assign rfl) ?_
    refine c_nil (l' := [_, _, _, _, _, _, _, _, _, _, _, _, _, _, _, _, _, _, _, _, _, _, _, _, _, _, _, _, _, _, _, _, _, _, _, _, _, _, _, _, _, _, _, _, _, _, _, _, _, _]) rfl ?_
    refine c_seq ?_
    refine c_rseq (n := 50) ⟨rfl, rfl⟩ ?_
    refine s_val (r_move rfl) ?_
    refine s_val (r_lss rfl rfl) ?_
    refine c_nil (l' := [_, _, _, _, _, _, _, _, _, _, _, _, _, _, _, _, _, _, _, _, _, _, _, _, _, _, _, _, _, _, _, _, _, _, _, _, _, _, _, _, _, _, _, _, _, _, _, _, _, _]) rfl ?_
    refine c_if rfl (fun h20 => ?_) (fun h20 => ?_)
    · skip
      refine c_rseq (n := 50) ⟨rfl, rfl⟩ ?_
      refine s_val (r_loadn Try.isAgg38 Try.sizeOf38 rfl (H.at 1 rfl) (by first | exact (kC_td _) | exact (hC_td _) | exact (hC_seed _) | exact (shC_td _ _) | exact (sdC_td _ _) | exact (xrL_td _ _ _) | exact (xrC_td _ _ _ _ _ _ _) | exact (rigC_td _ _ _ _ _ _ _) | exact (doC_td _)) (by first | exact (kC_length _) | exact (hC_length _) | exact (shC_length _ _) | exact (wC_length _) | exact (sdC_length _ _) | exact (xrL_length _ _ _) | exact (xrC_length _ _ _ _ _ _ _) | exact (rigC_length _ _ _ _ _ _ _) | exact (doC_length _) | exact rfl)) ?_
      refine s_st (m_storen H 0 5 Try.sizeOf38 rfl rfl (by first | exact (kC_length _) | exact (hC_length _) | exact (shC_length _ _) | exact (wC_length _) | exact (sdC_length _ _) | exact (xrL_length _ _ _) | exact (xrC_length _ _ _ _ _ _ _) | exact (rigC_length _ _ _ _ _ _ _) | exact (doC_length _)) (by first | exact (kC_one _) | exact (hC_one _) | exact (shC_one _ _) | exact (elW.one _) | exact (sdC_one _ _) | exact (xrL_one _ _ _) | exact (xrC_one _ _ _ _ _ _ _) | exact (rigC_one _ _ _ _ _ _ _) | exact (elDo.one _)) rfl (by first | exact (by rw [kC_length]; omega) | exact (by rw [hC_length]; omega) | exact (by rw [wC_length]; omega) | exact (by show _ ≤ 5; omega) | exact (by show _ ≤ 7; omega) | exact (by show _ ≤ 3; omega)) (xrL_sp0 _ _ _ _ _)) (L' := (_ :: _ :: _ :: _)) rfl ?_
      intro w H
      refine s_val (r_assign rfl) ?_
      refine c_nil (l' := [_, _, _, _, _, _, _, _, _, _, _, _, _, _, _, _, _, _, _, _, _, _, _, _, _, _, _, _, _, _, _, _, _, _, _, _, _, _, _, _, _, _, _, _, _, _, _, _, _, _]) rfl ?_
      refine wp_ret (x_thenRet (x_thenRet ?_))
      refine e_ret (rc_two rfl (rc_celln Try.isAgg38 Try.sizeOf38 rfl (H.at 0 rfl) (by first | exact (kC_td _) | exact (hC_td _) | exact (hC_seed _) | exact (shC_td _ _) | exact (sdC_td _ _) | exact (xrL_td _ _ _) | exact (xrC_td _ _ _ _ _ _ _) | exact (rigC_td _ _ _ _ _ _ _) | exact (doC_td _)) (by first | exact (kC_length _) | exact (hC_length _) | exact (shC_length _ _) | exact (wC_length _) | exact (sdC_length _ _) | exact (xrL_length _ _ _) | exact (xrC_length _ _ _ _ _ _ _) | exact (rigC_length _ _ _ _ _ _ _) | exact (doC_length _))) (rc_tmp rfl)) ⟨_, rfl, ?_⟩
      have hap : appL x body = (x, 0, 6) := by unfold appL; rw [if_neg (by omega), if_neg (by omega), if_neg (by omega)]
      have hra : refAt (appL x body) = -1 := by rw [hap]; unfold refAt; rw [if_neg (show ¬ ((6 : Int) = 0) by decide)]
      refine ⟨some ⟨bu, 0, none⟩, cc, _, ?_, ?_, H.sub (.cons _ (.cons _ (List.Sublist.refl _)))⟩
      · rw [hra, hap]
      · rw [hap]; exact hNc
    · skip
      obtain ⟨hs0, hs1⟩ : 0 ≤ firstZ x.gens ∧ firstZ x.gens < x.g := ⟨by omega, firstZ_rng hF⟩
      have hszr := sz_rng hs0 hs1 (z := x.z) (by omega)
      refine wp_skip ?_
      refine x_thenNormal ?_
      refine c_rseq (n := 50) ⟨rfl, rfl⟩ ?_
      refine s_val (r_fieldAddr (k := 4) Try.runUnderlying38 rfl Try.sizeOf36 (by decide) rfl rfl) ?_
      refine s_val (r_load1 Try.isAgg36 rfl (H.at 1 rfl) rfl) ?_
      refine s_val (r_add rfl rfl (w_u64 (by omega) (by omega))) ?_
      refine s_val (r_fieldAddr (k := 4) Try.runUnderlying38 rfl Try.sizeOf36 (by decide) rfl rfl) ?_
      refine s_st (m_store1 H 1 Try.sizeOf36 rfl rfl rfl rfl (by show 4 < 5; omega) (rfl : _ = xrC x.z x.head x.slot (x.known + 1) (some ⟨bu, 0, none⟩) x.gens.length cc)) (L' := (_ :: _ :: _ :: _)) rfl ?_
      intro w H
      refine c_nil (l' := [_, _, _, _, _, _, _, _, _, _, _, _, _, _, _, _, _, _, _, _, _, _, _, _, _, _, _, _, _, _, _, _, _, _, _, _, _, _, _, _, _, _, _, _, _, _, _, _, _, _]) rfl ?_
      refine c_rseq (n := 50) ⟨rfl, rfl⟩ ?_
      refine s_val (r_fieldAddr (k := 3) Try.runUnderlying38 rfl Try.sizeOf35 (by decide) rfl rfl) ?_
      refine s_val (r_load1 Try.isAgg35 rfl (H.at 1 rfl) rfl) ?_
      refine s_val (r_move rfl) ?_
      refine s_val (r_fieldAddr (k := 4) Try.runUnderlying38 rfl Try.sizeOf36 (by decide) rfl rfl) ?_
      refine s_val (r_load1 Try.isAgg36 rfl (H.at 1 rfl) rfl) ?_
      refine s_val (r_indexAddrS Try.runUnderlying35 Try.sizeOf36 rfl rfl (by omega) (by omega)) ?_
      refine s_st (m_store1 H 2 Try.sizeOf36 rfl rfl rfl rfl (by rw [List.length_append, uC_length]; omega) (uC_setA x.gens sp (firstZ x.gens).toNat (x.known + 1) (by omega) (by omega))) (L' := (_ :: _ :: _ :: _)) rfl ?_
      intro w H
      refine c_nil (l' := [_, _, _, _, _, _, _, _, _, _, _, _, _, _, _, _, _, _, _, _, _, _, _, _, _, _, _, _, _, _, _, _, _, _, _, _, _, _, _, _, _, _, _, _, _, _, _, _, _, _]) rfl ?_
      refine c_rseq (n := 50) ⟨rfl, rfl⟩ ?_
      refine s_val (r_move rfl) ?_
      refine s_val (r_fieldAddr (k := 1) Try.runUnderlying38 rfl Try.sizeOf3 (by decide) rfl rfl) ?_
      refine s_st (m_store1 H 1 Try.sizeOf3 rfl rfl rfl rfl (by show 1 < 5; omega) (rfl : _ = xrC x.z (firstZ x.gens) x.slot (x.known + 1) (some ⟨bu, 0, none⟩) x.gens.length cc)) (L' := (_ :: _ :: _ :: _)) rfl ?_
      intro w H
      refine c_nil (l' := [_, _, _, _, _, _, _, _, _, _, _, _, _, _, _, _, _, _, _, _, _, _, _, _, _, _, _, _, _, _, _, _, _, _, _, _, _, _, _, _, _, _, _, _, _, _, _, _, _, _]) rfl ?_
      refine c_region (n := 50) ⟨rfl, rfl⟩ ?_
      refine s_val (r_fieldAddr (k := 2) Try.runUnderlying38 rfl Try.sizeOf3 (by decide) rfl rfl) ?_
      refine s_st (m_store1 H 1 Try.sizeOf3 rfl rfl rfl rfl (by show 2 < 5; omega) (rfl : _ = xrC x.z (firstZ x.gens) 0 (x.known + 1) (some ⟨bu, 0, none⟩) x.gens.length cc)) (L' := (_ :: _ :: _ :: _)) rfl ?_
      intro w H
      refine c_nil (l' := [_, _, _, _, _, _, _, _, _, _, _, _, _, _, _, _, _, _, _, _, _, _, _, _, _, _, _, _, _, _, _, _, _, _, _, _, _, _, _, _, _, _, _, _, _, _, _, _, _, _]) rfl ?_
      refine c_rseq (n := 50) ⟨rfl, rfl⟩ ?_
      refine s_val (r_fieldAddr (k := 2) Try.runUnderlying38 rfl Try.sizeOf3 (by decide) rfl rfl) ?_
      refine s_val (r_load1 Try.isAgg3 rfl (H.at 1 rfl) rfl) ?_
      refine s_val (r_add rfl rfl (w_i64 (by omega) (by omega))) ?_
      refine s_val (r_fieldAddr (k := 2) Try.runUnderlying38 rfl Try.sizeOf3 (by decide) rfl rfl) ?_
      refine s_st (m_store1 H 1 Try.sizeOf3 rfl rfl rfl rfl (by show 2 < 5; omega) (rfl : _ = xrC x.z (firstZ x.gens) (0 + 1) (x.known + 1) (some ⟨bu, 0, none⟩) x.gens.length cc)) (L' := (_ :: _ :: _ :: _)) rfl ?_
      intro w H
      refine c_nil (l' := [_, _, _, _, _, _, _, _, _, _, _, _, _, _, _, _, _, _, _, _, _, _, _, _, _, _, _, _, _, _, _, _, _, _, _, _, _, _, _, _, _, _, _, _, _, _, _, _, _, _]) rfl ?_
      refine c_seq ?_
      refine d_begin (sz := 50) ⟨rfl, rfl⟩ (by kernel_rfl) H (H.sub (.cons _ (.cons_cons _ (.cons_cons _ (List.Sublist.refl _))))) rfl ?_
      intro w H
      have hgz := gz_rng (g := x.g) (z := x.z) (by omega) fg1 (by omega) fz1
      refine d_take (i := 0) rfl (by kernel_rfl) (fun _ _ _ h => h) (H.sub (.cons _ (.cons_cons _ (.cons_cons _ (List.Sublist.refl _))))) (fun _ HS => r_loadn Try.isAgg38 Try.sizeOf38 rfl (HS.at 0 rfl) (by first | exact (kC_td _) | exact (hC_td _) | exact (hC_seed _) | exact (shC_td _ _) | exact (sdC_td _ _) | exact (xrL_td _ _ _) | exact (xrC_td _ _ _ _ _ _ _) | exact (rigC_td _ _ _ _ _ _ _) | exact (doC_td _)) (by first | exact (kC_length _) | exact (hC_length _) | exact (shC_length _ _) | exact (wC_length _) | exact (sdC_length _ _) | exact (xrL_length _ _ _) | exact (xrC_length _ _ _ _ _ _ _) | exact (rigC_length _ _ _ _ _ _ _) | exact (doC_length _) | exact rfl)) rfl ?_
      refine d_take (i := 1) rfl (by kernel_rfl) (fun _ _ _ h => h) (H.sub (.cons _ (.cons_cons _ (.cons_cons _ (List.Sublist.refl _))))) (fun _ _ => r_fieldAddr (k := 1) Try.runUnderlying38 rfl Try.sizeOf3 (by decide) rfl rfl) rfl ?_
      refine d_take (i := 2) rfl (by kernel_rfl) (fun _ _ _ h => h) (H.sub (.cons _ (.cons_cons _ (.cons_cons _ (List.Sublist.refl _))))) (fun _ HS => r_load1 Try.isAgg3 rfl (HS.at 0 rfl) rfl) rfl ?_
      refine d_take (i := 3) rfl (by kernel_rfl) (fun _ _ _ h => h) (H.sub (.cons _ (.cons_cons _ (.cons_cons _ (List.Sublist.refl _))))) (fun _ _ => r_fieldAddr (k := 0) Try.runUnderlying38 rfl Try.sizeOf3 (by decide) rfl rfl) rfl ?_
      refine d_take (i := 4) rfl (by kernel_rfl) (fun _ _ _ h => h) (H.sub (.cons _ (.cons_cons _ (.cons_cons _ (List.Sublist.refl _))))) (fun _ HS => r_load1 Try.isAgg3 rfl (HS.at 0 rfl) rfl) rfl ?_
      refine d_take (i := 5) rfl (by kernel_rfl) (fun _ _ _ h => h) (H.sub (.cons _ (.cons_cons _ (.cons_cons _ (List.Sublist.refl _))))) (fun _ _ => r_mul rfl rfl (w_i64 (by omega) (by omega))) rfl ?_
      refine d_take (i := 6) rfl (by kernel_rfl) (fun _ _ _ h => h) (H.sub (.cons _ (.cons_cons _ (.cons_cons _ (List.Sublist.refl _))))) (fun _ _ => r_add rfl rfl (w_i64 (by omega) (by omega))) rfl ?_
      refine d_take (i := 7) rfl (by kernel_rfl) (fun _ _ _ h => h) (H.sub (.cons _ (.cons_cons _ (.cons_cons _ (List.Sublist.refl _))))) (fun _ _ => r_fieldAddr (k := 2) Try.runUnderlying38 rfl Try.sizeOf3 (by decide) rfl rfl) rfl ?_
      refine d_take (i := 8) rfl (by kernel_rfl) (fun _ _ _ h => h) (H.sub (.cons _ (.cons_cons _ (.cons_cons _ (List.Sublist.refl _))))) (fun _ HS => r_load1 Try.isAgg3 rfl (HS.at 0 rfl) rfl) rfl ?_
      refine d_take (i := 9) rfl (by kernel_rfl) (fun _ _ _ h => h) (H.sub (.cons _ (.cons_cons _ (.cons_cons _ (List.Sublist.refl _))))) (fun _ _ => r_add rfl rfl (w_i64 (by omega) (by omega))) rfl ?_
      refine d_take (i := 10) rfl (by kernel_rfl) (fun _ _ _ h => h) (H.sub (.cons _ (.cons_cons _ (.cons_cons _ (List.Sublist.refl _))))) (fun _ _ => r_sub rfl rfl (w_i64 (by omega) (by omega))) rfl ?_
      refine d_all1 (i := 11) (by kernel_rfl) ?_
      refine b_st rfl go_none (m_storen H 0 5 Try.sizeOf38 rfl rfl (by first | exact (kC_length _) | exact (hC_length _) | exact (shC_length _ _) | exact (wC_length _) | exact (sdC_length _ _) | exact (xrL_length _ _ _) | exact (xrC_length _ _ _ _ _ _ _) | exact (rigC_length _ _ _ _ _ _ _) | exact (doC_length _)) (by first | exact (kC_one _) | exact (hC_one _) | exact (shC_one _ _) | exact (elW.one _) | exact (sdC_one _ _) | exact (xrL_one _ _ _) | exact (xrC_one _ _ _ _ _ _ _) | exact (rigC_one _ _ _ _ _ _ _) | exact (elDo.one _)) rfl (by first | exact (by rw [kC_length]; omega) | exact (by rw [hC_length]; omega) | exact (by rw [wC_length]; omega) | exact (by show _ ≤ 5; omega) | exact (by show _ ≤ 7; omega) | exact (by show _ ≤ 3; omega)) xrC_sp) (L' := (_ :: _ :: _ :: _)) rfl rfl (fun _ H => (H.sub (.cons _ (.cons_cons _ (.cons_cons _ (List.Sublist.refl _)))))) ?_
      intro w H
      refine d_take (i := 12) rfl (by kernel_rfl) (fun _ _ _ h => h) (H.sub (.cons _ (.cons_cons _ (.cons_cons _ (List.Sublist.refl _))))) (fun _ _ => r_assign rfl) rfl ?_
      refine d_done (l' := [_, _, _, _, _, _, _, _, _, _, _, _, _, _, _, _, _, _, _, _, _, _, _, _, _, _, _, _, _, _, _, _, _, _, _, _, _, _, _, _, _, _, _, _, _, _, _, _, _, _]) (by kernel_rfl) rfl ?_
      refine x_thenNormal ?_
      refine wp_ret ?_
      refine e_ret (rc_two rfl (rc_celln Try.isAgg38 Try.sizeOf38 rfl (H.at 0 rfl) (by first | exact (kC_td _) | exact (hC_td _) | exact (hC_seed _) | exact (shC_td _ _) | exact (sdC_td _ _) | exact (xrL_td _ _ _) | exact (xrC_td _ _ _ _ _ _ _) | exact (rigC_td _ _ _ _ _ _ _) | exact (doC_td _)) (by first | exact (kC_length _) | exact (hC_length _) | exact (shC_length _ _) | exact (wC_length _) | exact (sdC_length _ _) | exact (xrL_length _ _ _) | exact (xrC_length _ _ _ _ _ _ _) | exact (rigC_length _ _ _ _ _ _ _) | exact (doC_length _))) (rc_tmp rfl)) ⟨_, rfl, ?_⟩
      have hap : appL x body = (putL x (firstZ x.gens) 0 (x.known + 1) body, 2 + firstZ x.gens * x.z + 0, 0) := by unfold appL; rw [if_neg (by omega), if_neg (by omega), if_pos (by omega)]
      have e2 : (putL x (firstZ x.gens) 0 (x.known + 1) body).known = x.known + 1 := if_pos (by omega)
      have e1 : (putL x (firstZ x.gens) 0 (x.known + 1) body).gens = x.gens.set (firstZ x.gens).toNat (x.known + 1) := rfl
      have hra : refAt (appL x body) = 2 + firstZ x.gens * x.z + (0 + 1) - 1 := by rw [hap]; unfold refAt; rw [if_pos rfl]; show 2 + firstZ x.gens * x.z + 0 = _; omega
      refine ⟨some ⟨bu, 0, none⟩, cc, _, ?_, ?_, H.sub (.cons _ (.cons _ (List.Sublist.refl _)))⟩
      · rw [hra, hap]; unfold xrL; rw [e1, e2, List.length_set]; rfl
      · rw [hap]; show RowN 1 36 (uC (putL x (firstZ x.gens) 0 (x.known + 1) body).gens) (putL x (firstZ x.gens) 0 (x.known + 1) body).gens.length _ _ _; rw [e1]; exact RowN.mk1 (by rw [List.length_set]; omega) (by rw [List.length_set]; omega)
  · skip
    refine s_val (r_move rfl) ?_
    refine g_yes rfl rfl ?_
    refine s_val (r_fieldAddr (k := 2) Try.runUnderlying38 rfl Try.sizeOf3 (by decide) rfl rfl) ?_
    refine g_yes rfl rfl ?_
    refine s_val (r_load1 Try.isAgg3 rfl (H.at 1 rfl) rfl) ?_
    refine g_yes rfl rfl ?_
    refine s_val (r_fieldAddr (k := 0) Try.runUnderlying38 rfl Try.sizeOf3 (by decide) rfl rfl) ?_
    refine g_yes rfl rfl ?_
    refine s_val (r_load1 Try.isAgg3 rfl (H.at 1 rfl) rfl) ?_
    refine g_yes rfl rfl ?_
    refine s_val (r_geq rfl rfl) ?_
    refine s_val (r_pickf rfl rfl) ?_
    refine c_nil (l' := [_, _, _, _, _, _, _, _, _, _, _, _, _, _, _, _, _, _, _, _, _, _, _, _, _, _, _, _, _, _, _, _, _, _, _, _, _, _, _, _, _, _, _, _, _, _, _, _, _, _]) rfl ?_
    refine c_if rfl (fun h16 => ?_) (fun h16 => ?_)
    · skip
      refine c_rseq (n := 50) ⟨rfl, rfl⟩ ?_
      refine s_val (r_loadn Try.isAgg38 Try.sizeOf38 rfl (H.at 1 rfl) (by first | exact (kC_td _) | exact (hC_td _) | exact (hC_seed _) | exact (shC_td _ _) | exact (sdC_td _ _) | exact (xrL_td _ _ _) | exact (xrC_td _ _ _ _ _ _ _) | exact (rigC_td _ _ _ _ _ _ _) | exact (doC_td _)) (by first | exact (kC_length _) | exact (hC_length _) | exact (shC_length _ _) | exact (wC_length _) | exact (sdC_length _ _) | exact (xrL_length _ _ _) | exact (xrC_length _ _ _ _ _ _ _) | exact (rigC_length _ _ _ _ _ _ _) | exact (doC_length _) | exact rfl)) ?_
      have hr2 := hNc.urowM H (fun p hp => List.mem_cons_of_mem _ (List.mem_cons_of_mem _ hp))
      refine s_call (r_call Try.call37 (ec rfl en)) (xfree_spec x hF _ _ _ hr2) ?_
      rintro v w ⟨rfl, HC⟩
      replace H := H.quiet HC
      refine s_val (r_assign rfl) ?_
      refine c_nil (l' := [_, _, _, _, _, _, _, _, _, _, _, _, _, _, _, _, _, _, _, _, _, _, _, _, _, _, _, _, _, _, _, _, _, _, _, _, _, _, _, _, _, _, _, _, _, _, _, _, _, _]) rfl ?_
      refine c_seq ?_
      refine c_rseq (n := 50) ⟨rfl, rfl⟩ ?_
      refine s_val (r_move rfl) ?_
      refine s_val (r_lss rfl rfl) ?_
      refine c_nil (l' := [_, _, _, _, _, _, _, _, _, _, _, _, _, _, _, _, _, _, _, _, _, _, _, _, _, _, _, _, _, _, _, _, _, _, _, _, _, _, _, _, _, _, _, _, _, _, _, _, _, _]) rfl ?_
      refine c_if rfl (fun h20 => ?_) (fun h20 => ?_)
      · skip
        refine c_rseq (n := 50) ⟨rfl, rfl⟩ ?_
        refine s_val (r_loadn Try.isAgg38 Try.sizeOf38 rfl (H.at 1 rfl) (by first | exact (kC_td _) | exact (hC_td _) | exact (hC_seed _) | exact (shC_td _ _) | exact (sdC_td _ _) | exact (xrL_td _ _ _) | exact (xrC_td _ _ _ _ _ _ _) | exact (rigC_td _ _ _ _ _ _ _) | exact (doC_td _)) (by first | exact (kC_length _) | exact (hC_length _) | exact (shC_length _ _) | exact (wC_length _) | exact (sdC_length _ _) | exact (xrL_length _ _ _) | exact (xrC_length _ _ _ _ _ _ _) | exact (rigC_length _ _ _ _ _ _ _) | exact (doC_length _) | exact rfl)) ?_
        refine s_st (m_storen H 0 5 Try.sizeOf38 rfl rfl (by first | exact (kC_length _) | exact (hC_length _) | exact (shC_length _ _) | exact (wC_length _) | exact (sdC_length _ _) | exact (xrL_length _ _ _) | exact (xrC_length _ _ _ _ _ _ _) | exact (rigC_length _ _ _ _ _ _ _) | exact (doC_length _)) (by first | exact (kC_one _) | exact (hC_one _) | exact (shC_one _ _) | exact (elW.one _) | exact (sdC_one _ _) | exact (xrL_one _ _ _) | exact (xrC_one _ _ _ _ _ _ _) | exact (rigC_one _ _ _ _ _ _ _) | exact (elDo.one _)) rfl (by first | exact (by rw [kC_length]; omega) | exact (by rw [hC_length]; omega) | exact (by rw [wC_length]; omega) | exact (by show _ ≤ 5; omega) | exact (by show _ ≤ 7; omega) | exact (by show _ ≤ 3; omega)) (xrL_sp0 _ _ _ _ _)) (L' := (_ :: _ :: _ :: _)) rfl ?_
        intro w H
        refine s_val (r_assign rfl) ?_
        refine c_nil (l' := [_, _, _, _, _, _, _, _, _, _, _, _, _, _, _, _, _, _, _, _, _, _, _, _, _, _, _, _, _, _, _, _, _, _, _, _, _, _, _, _, _, _, _, _, _, _, _, _, _, _]) rfl ?_
        refine wp_ret (x_thenRet (x_thenRet ?_))
        refine e_ret (rc_two rfl (rc_celln Try.isAgg38 Try.sizeOf38 rfl (H.at 0 rfl) (by first | exact (kC_td _) | exact (hC_td _) | exact (hC_seed _) | exact (shC_td _ _) | exact (sdC_td _ _) | exact (xrL_td _ _ _) | exact (xrC_td _ _ _ _ _ _ _) | exact (rigC_td _ _ _ _ _ _ _) | exact (doC_td _)) (by first | exact (kC_length _) | exact (hC_length _) | exact (shC_length _ _) | exact (wC_length _) | exact (sdC_length _ _) | exact (xrL_length _ _ _) | exact (xrC_length _ _ _ _ _ _ _) | exact (rigC_length _ _ _ _ _ _ _) | exact (doC_length _))) (rc_tmp rfl)) ⟨_, rfl, ?_⟩
        have hap : appL x body = (x, 0, 6) := by unfold appL; rw [if_neg (by omega), if_neg (by omega), if_neg (by omega)]
        have hra : refAt (appL x body) = -1 := by rw [hap]; unfold refAt; rw [if_neg (show ¬ ((6 : Int) = 0) by decide)]
        refine ⟨some ⟨bu, 0, none⟩, cc, _, ?_, ?_, H.sub (.cons _ (.cons _ (List.Sublist.refl _)))⟩
        · rw [hra, hap]
        · rw [hap]; exact hNc
      · skip
        obtain ⟨hs0, hs1⟩ : 0 ≤ firstZ x.gens ∧ firstZ x.gens < x.g := ⟨by omega, firstZ_rng hF⟩
        have hszr := sz_rng hs0 hs1 (z := x.z) (by omega)
        refine wp_skip ?_
        refine x_thenNormal ?_
        refine c_rseq (n := 50) ⟨rfl, rfl⟩ ?_
        refine s_val (r_fieldAddr (k := 4) Try.runUnderlying38 rfl Try.sizeOf36 (by decide) rfl rfl) ?_
        refine s_val (r_load1 Try.isAgg36 rfl (H.at 1 rfl) rfl) ?_
        refine s_val (r_add rfl rfl (w_u64 (by omega) (by omega))) ?_
        refine s_val (r_fieldAddr (k := 4) Try.runUnderlying38 rfl Try.sizeOf36 (by decide) rfl rfl) ?_
        refine s_st (m_store1 H 1 Try.sizeOf36 rfl rfl rfl rfl (by show 4 < 5; omega) (rfl : _ = xrC x.z x.head x.slot (x.known + 1) (some ⟨bu, 0, none⟩) x.gens.length cc)) (L' := (_ :: _ :: _ :: _)) rfl ?_
        intro w H
        refine c_nil (l' := [_, _, _, _, _, _, _, _, _, _, _, _, _, _, _, _, _, _, _, _, _, _, _, _, _, _, _, _, _, _, _, _, _, _, _, _, _, _, _, _, _, _, _, _, _, _, _, _, _, _]) rfl ?_
        refine c_rseq (n := 50) ⟨rfl, rfl⟩ ?_
        refine s_val (r_fieldAddr (k := 3) Try.runUnderlying38 rfl Try.sizeOf35 (by decide) rfl rfl) ?_
        refine s_val (r_load1 Try.isAgg35 rfl (H.at 1 rfl) rfl) ?_
        refine s_val (r_move rfl) ?_
        refine s_val (r_fieldAddr (k := 4) Try.runUnderlying38 rfl Try.sizeOf36 (by decide) rfl rfl) ?_
        refine s_val (r_load1 Try.isAgg36 rfl (H.at 1 rfl) rfl) ?_
        refine s_val (r_indexAddrS Try.runUnderlying35 Try.sizeOf36 rfl rfl (by omega) (by omega)) ?_
        refine s_st (m_store1 H 2 Try.sizeOf36 rfl rfl rfl rfl (by rw [List.length_append, uC_length]; omega) (uC_setA x.gens sp (firstZ x.gens).toNat (x.known + 1) (by omega) (by omega))) (L' := (_ :: _ :: _ :: _)) rfl ?_
        intro w H
        refine c_nil (l' := [_, _, _, _, _, _, _, _, _, _, _, _, _, _, _, _, _, _, _, _, _, _, _, _, _, _, _, _, _, _, _, _, _, _, _, _, _, _, _, _, _, _, _, _, _, _, _, _, _, _]) rfl ?_
        refine c_rseq (n := 50) ⟨rfl, rfl⟩ ?_
        refine s_val (r_move rfl) ?_
        refine s_val (r_fieldAddr (k := 1) Try.runUnderlying38 rfl Try.sizeOf3 (by decide) rfl rfl) ?_
        refine s_st (m_store1 H 1 Try.sizeOf3 rfl rfl rfl rfl (by show 1 < 5; omega) (rfl : _ = xrC x.z (firstZ x.gens) x.slot (x.known + 1) (some ⟨bu, 0, none⟩) x.gens.length cc)) (L' := (_ :: _ :: _ :: _)) rfl ?_
        intro w H
        refine c_nil (l' := [_, _, _, _, _, _, _, _, _, _, _, _, _, _, _, _, _, _, _, _, _, _, _, _, _, _, _, _, _, _, _, _, _, _, _, _, _, _, _, _, _, _, _, _, _, _, _, _, _, _]) rfl ?_
        refine c_region (n := 50) ⟨rfl, rfl⟩ ?_
        refine s_val (r_fieldAddr (k := 2) Try.runUnderlying38 rfl Try.sizeOf3 (by decide) rfl rfl) ?_
        refine s_st (m_store1 H 1 Try.sizeOf3 rfl rfl rfl rfl (by show 2 < 5; omega) (rfl : _ = xrC x.z (firstZ x.gens) 0 (x.known + 1) (some ⟨bu, 0, none⟩) x.gens.length cc)) (L' := (_ :: _ :: _ :: _)) rfl ?_
        intro w H
        refine c_nil (l' := [_, _, _, _, _, _, _, _, _, _, _, _, _, _, _, _, _, _, _, _, _, _, _, _, _, _, _, _, _, _, _, _, _, _, _, _, _, _, _, _, _, _, _, _, _, _, _, _, _, _]) rfl ?_
        refine c_rseq (n := 50) ⟨rfl, rfl⟩ ?_
        refine s_val (r_fieldAddr (k := 2) Try.runUnderlying38 rfl Try.sizeOf3 (by decide) rfl rfl) ?_
        refine s_val (r_load1 Try.isAgg3 rfl (H.at 1 rfl) rfl) ?_
        refine s_val (r_add rfl rfl (w_i64 (by omega) (by omega))) ?_
        refine s_val (r_fieldAddr (k := 2) Try.runUnderlying38 rfl Try.sizeOf3 (by decide) rfl rfl) ?_
        refine s_st (m_store1 H 1 Try.sizeOf3 rfl rfl rfl rfl (by show 2 < 5; omega) (rfl : _ = xrC x.z (firstZ x.gens) (0 + 1) (x.known + 1) (some ⟨bu, 0, none⟩) x.gens.length cc)) (L' := (_ :: _ :: _ :: _)) rfl ?_
        intro w H
        refine c_nil (l' := [_, _, _, _, _, _, _, _, _, _, _, _, _, _, _, _, _, _, _, _, _, _, _, _, _, _, _, _, _, _, _, _, _, _, _, _, _, _, _, _, _, _, _, _, _, _, _, _, _, _]) rfl ?_
        refine c_seq ?_
        refine d_begin (sz := 50) ⟨rfl, rfl⟩ (by kernel_rfl) H (H.sub (.cons _ (.cons_cons _ (.cons_cons _ (List.Sublist.refl _))))) rfl ?_
        intro w H
        have hgz := gz_rng (g := x.g) (z := x.z) (by omega) fg1 (by omega) fz1
        refine d_take (i := 0) rfl (by kernel_rfl) (fun _ _ _ h => h) (H.sub (.cons _ (.cons_cons _ (.cons_cons _ (List.Sublist.refl _))))) (fun _ HS => r_loadn Try.isAgg38 Try.sizeOf38 rfl (HS.at 0 rfl) (by first | exact (kC_td _) | exact (hC_td _) | exact (hC_seed _) | exact (shC_td _ _) | exact (sdC_td _ _) | exact (xrL_td _ _ _) | exact (xrC_td _ _ _ _ _ _ _) | exact (rigC_td _ _ _ _ _ _ _) | exact (doC_td _)) (by first | exact (kC_length _) | exact (hC_length _) | exact (shC_length _ _) | exact (wC_length _) | exact (sdC_length _ _) | exact (xrL_length _ _ _) | exact (xrC_length _ _ _ _ _ _ _) | exact (rigC_length _ _ _ _ _ _ _) | exact (doC_length _) | exact rfl)) rfl ?_
        refine d_take (i := 1) rfl (by kernel_rfl) (fun _ _ _ h => h) (H.sub (.cons _ (.cons_cons _ (.cons_cons _ (List.Sublist.refl _))))) (fun _ _ => r_fieldAddr (k := 1) Try.runUnderlying38 rfl Try.sizeOf3 (by decide) rfl rfl) rfl ?_
        refine d_take (i := 2) rfl (by kernel_rfl) (fun _ _ _ h => h) (H.sub (.cons _ (.cons_cons _ (.cons_cons _ (List.Sublist.refl _))))) (fun _ HS => r_load1 Try.isAgg3 rfl (HS.at 0 rfl) rfl) rfl ?_
        refine d_take (i := 3) rfl (by kernel_rfl) (fun _ _ _ h => h) (H.sub (.cons _ (.cons_cons _ (.cons_cons _ (List.Sublist.refl _))))) (fun _ _ => r_fieldAddr (k := 0) Try.runUnderlying38 rfl Try.sizeOf3 (by decide) rfl rfl) rfl ?_
        refine d_take (i := 4) rfl (by kernel_rfl) (fun _ _ _ h => h) (H.sub (.cons _ (.cons_cons _ (.cons_cons _ (List.Sublist.refl _))))) (fun _ HS => r_load1 Try.isAgg3 rfl (HS.at 0 rfl) rfl) rfl ?_
        refine d_take (i := 5) rfl (by kernel_rfl) (fun _ _ _ h => h) (H.sub (.cons _ (.cons_cons _ (.cons_cons _ (List.Sublist.refl _))))) (fun _ _ => r_mul rfl rfl (w_i64 (by omega) (by omega))) rfl ?_
        refine d_take (i := 6) rfl (by kernel_rfl) (fun _ _ _ h => h) (H.sub (.cons _ (.cons_cons _ (.cons_cons _ (List.Sublist.refl _))))) (fun _ _ => r_add rfl rfl (w_i64 (by omega) (by omega))) rfl ?_
        refine d_take (i := 7) rfl (by kernel_rfl) (fun _ _ _ h => h) (H.sub (.cons _ (.cons_cons _ (.cons_cons _ (List.Sublist.refl _))))) (fun _ _ => r_fieldAddr (k := 2) Try.runUnderlying38 rfl Try.sizeOf3 (by decide) rfl rfl) rfl ?_
        refine d_take (i := 8) rfl (by kernel_rfl) (fun _ _ _ h => h) (H.sub (.cons _ (.cons_cons _ (.cons_cons _ (List.Sublist.refl _))))) (fun _ HS => r_load1 Try.isAgg3 rfl (HS.at 0 rfl) rfl) rfl ?_
        refine d_take (i := 9) rfl (by kernel_rfl) (fun _ _ _ h => h) (H.sub (.cons _ (.cons_cons _ (.cons_cons _ (List.Sublist.refl _))))) (fun _ _ => r_add rfl rfl (w_i64 (by omega) (by omega))) rfl ?_
        refine d_take (i := 10) rfl (by kernel_rfl) (fun _ _ _ h => h) (H.sub (.cons _ (.cons_cons _ (.cons_cons _ (List.Sublist.refl _))))) (fun _ _ => r_sub rfl rfl (w_i64 (by omega) (by omega))) rfl ?_
        refine d_all1 (i := 11) (by kernel_rfl) ?_
        refine b_st rfl go_none (m_storen H 0 5 Try.sizeOf38 rfl rfl (by first | exact (kC_length _) | exact (hC_length _) | exact (shC_length _ _) | exact (wC_length _) | exact (sdC_length _ _) | exact (xrL_length _ _ _) | exact (xrC_length _ _ _ _ _ _ _) | exact (rigC_length _ _ _ _ _ _ _) | exact (doC_length _)) (by first | exact (kC_one _) | exact (hC_one _) | exact (shC_one _ _) | exact (elW.one _) | exact (sdC_one _ _) | exact (xrL_one _ _ _) | exact (xrC_one _ _ _ _ _ _ _) | exact (rigC_one _ _ _ _ _ _ _) | exact (elDo.one _)) rfl (by first | exact (by rw [kC_length]; omega) | exact (by rw [hC_length]; omega) | exact (by rw [wC_length]; omega) | exact (by show _ ≤ 5; omega) | exact (by show _ ≤ 7; omega) | exact (by show _ ≤ 3; omega)) xrC_sp) (L' := (_ :: _ :: _ :: _)) rfl rfl (fun _ H => (H.sub (.cons _ (.cons_cons _ (.cons_cons _ (List.Sublist.refl _)))))) ?_
        intro w H
        refine d_take (i := 12) rfl (by kernel_rfl) (fun _ _ _ h => h) (H.sub (.cons _ (.cons_cons _ (.cons_cons _ (List.Sublist.refl _))))) (fun _ _ => r_assign rfl) rfl ?_
        refine d_done (l' := [_, _, _, _, _, _, _, _, _, _, _, _, _, _, _, _, _, _, _, _, _, _, _, _, _, _, _, _, _, _, _, _, _, _, _, _, _, _, _, _, _, _, _, _, _, _, _, _, _, _]) (by kernel_rfl) rfl ?_
        refine x_thenNormal ?_
        refine wp_ret ?_
        refine e_ret (rc_two rfl (rc_celln Try.isAgg38 Try.sizeOf38 rfl (H.at 0 rfl) (by first | exact (kC_td _) | exact (hC_td _) | exact (hC_seed _) | exact (shC_td _ _) | exact (sdC_td _ _) | exact (xrL_td _ _ _) | exact (xrC_td _ _ _ _ _ _ _) | exact (rigC_td _ _ _ _ _ _ _) | exact (doC_td _)) (by first | exact (kC_length _) | exact (hC_length _) | exact (shC_length _ _) | exact (wC_length _) | exact (sdC_length _ _) | exact (xrL_length _ _ _) | exact (xrC_length _ _ _ _ _ _ _) | exact (rigC_length _ _ _ _ _ _ _) | exact (doC_length _))) (rc_tmp rfl)) ⟨_, rfl, ?_⟩
        have hap : appL x body = (putL x (firstZ x.gens) 0 (x.known + 1) body, 2 + firstZ x.gens * x.z + 0, 0) := by unfold appL; rw [if_neg (by omega), if_neg (by omega), if_pos (by omega)]
        have e2 : (putL x (firstZ x.gens) 0 (x.known + 1) body).known = x.known + 1 := if_pos (by omega)
        have e1 : (putL x (firstZ x.gens) 0 (x.known + 1) body).gens = x.gens.set (firstZ x.gens).toNat (x.known + 1) := rfl
        have hra : refAt (appL x body) = 2 + firstZ x.gens * x.z + (0 + 1) - 1 := by rw [hap]; unfold refAt; rw [if_pos rfl]; show 2 + firstZ x.gens * x.z + 0 = _; omega
        refine ⟨some ⟨bu, 0, none⟩, cc, _, ?_, ?_, H.sub (.cons _ (.cons _ (List.Sublist.refl _)))⟩
        · rw [hra, hap]; unfold xrL; rw [e1, e2, List.length_set]; rfl
        · rw [hap]; show RowN 1 36 (uC (putL x (firstZ x.gens) 0 (x.known + 1) body).gens) (putL x (firstZ x.gens) 0 (x.known + 1) body).gens.length _ _ _; rw [e1]; exact RowN.mk1 (by rw [List.length_set]; omega) (by rw [List.length_set]; omega)
    · skip
      have hszr := sz_rng (show 0 ≤ x.head by omega) fh1 (z := x.z) (by omega)
      refine wp_skip ?_
      refine x_thenNormal ?_
      refine c_rseq (n := 50) ⟨rfl, rfl⟩ ?_
      refine s_val (r_fieldAddr (k := 2) Try.runUnderlying38 rfl Try.sizeOf3 (by decide) rfl rfl) ?_
      refine s_val (r_load1 Try.isAgg3 rfl (H.at 1 rfl) rfl) ?_
      refine s_val (r_add rfl rfl (w_i64 (by omega) (by omega))) ?_
      refine s_val (r_fieldAddr (k := 2) Try.runUnderlying38 rfl Try.sizeOf3 (by decide) rfl rfl) ?_
      refine s_st (m_store1 H 1 Try.sizeOf3 rfl rfl rfl rfl (by show 2 < 5; omega) (rfl : _ = xrC x.z x.head (x.slot + 1) x.known (some ⟨bu, 0, none⟩) x.gens.length cc)) (L' := (_ :: _ :: _ :: _)) rfl ?_
      intro w H
      refine c_nil (l' := [_, _, _, _, _, _, _, _, _, _, _, _, _, _, _, _, _, _, _, _, _, _, _, _, _, _, _, _, _, _, _, _, _, _, _, _, _, _, _, _, _, _, _, _, _, _, _, _, _, _]) rfl ?_
      refine c_seq ?_
      refine d_begin (sz := 50) ⟨rfl, rfl⟩ (by kernel_rfl) H (H.sub (.cons _ (.cons_cons _ (.cons_cons _ (List.Sublist.refl _))))) rfl ?_
      intro w H
      have hgz := gz_rng (g := x.g) (z := x.z) (by omega) fg1 (by omega) fz1
      refine d_take (i := 0) rfl (by kernel_rfl) (fun _ _ _ h => h) (H.sub (.cons _ (.cons_cons _ (.cons_cons _ (List.Sublist.refl _))))) (fun _ HS => r_loadn Try.isAgg38 Try.sizeOf38 rfl (HS.at 0 rfl) (by first | exact (kC_td _) | exact (hC_td _) | exact (hC_seed _) | exact (shC_td _ _) | exact (sdC_td _ _) | exact (xrL_td _ _ _) | exact (xrC_td _ _ _ _ _ _ _) | exact (rigC_td _ _ _ _ _ _ _) | exact (doC_td _)) (by first | exact (kC_length _) | exact (hC_length _) | exact (shC_length _ _) | exact (wC_length _) | exact (sdC_length _ _) | exact (xrL_length _ _ _) | exact (xrC_length _ _ _ _ _ _ _) | exact (rigC_length _ _ _ _ _ _ _) | exact (doC_length _) | exact rfl)) rfl ?_
      refine d_take (i := 1) rfl (by kernel_rfl) (fun _ _ _ h => h) (H.sub (.cons _ (.cons_cons _ (.cons_cons _ (List.Sublist.refl _))))) (fun _ _ => r_fieldAddr (k := 1) Try.runUnderlying38 rfl Try.sizeOf3 (by decide) rfl rfl) rfl ?_
      refine d_take (i := 2) rfl (by kernel_rfl) (fun _ _ _ h => h) (H.sub (.cons _ (.cons_cons _ (.cons_cons _ (List.Sublist.refl _))))) (fun _ HS => r_load1 Try.isAgg3 rfl (HS.at 0 rfl) rfl) rfl ?_
      refine d_take (i := 3) rfl (by kernel_rfl) (fun _ _ _ h => h) (H.sub (.cons _ (.cons_cons _ (.cons_cons _ (List.Sublist.refl _))))) (fun _ _ => r_fieldAddr (k := 0) Try.runUnderlying38 rfl Try.sizeOf3 (by decide) rfl rfl) rfl ?_
      refine d_take (i := 4) rfl (by kernel_rfl) (fun _ _ _ h => h) (H.sub (.cons _ (.cons_cons _ (.cons_cons _ (List.Sublist.refl _))))) (fun _ HS => r_load1 Try.isAgg3 rfl (HS.at 0 rfl) rfl) rfl ?_
      refine d_take (i := 5) rfl (by kernel_rfl) (fun _ _ _ h => h) (H.sub (.cons _ (.cons_cons _ (.cons_cons _ (List.Sublist.refl _))))) (fun _ _ => r_mul rfl rfl (w_i64 (by omega) (by omega))) rfl ?_
      refine d_take (i := 6) rfl (by kernel_rfl) (fun _ _ _ h => h) (H.sub (.cons _ (.cons_cons _ (.cons_cons _ (List.Sublist.refl _))))) (fun _ _ => r_add rfl rfl (w_i64 (by omega) (by omega))) rfl ?_
      refine d_take (i := 7) rfl (by kernel_rfl) (fun _ _ _ h => h) (H.sub (.cons _ (.cons_cons _ (.cons_cons _ (List.Sublist.refl _))))) (fun _ _ => r_fieldAddr (k := 2) Try.runUnderlying38 rfl Try.sizeOf3 (by decide) rfl rfl) rfl ?_
      refine d_take (i := 8) rfl (by kernel_rfl) (fun _ _ _ h => h) (H.sub (.cons _ (.cons_cons _ (.cons_cons _ (List.Sublist.refl _))))) (fun _ HS => r_load1 Try.isAgg3 rfl (HS.at 0 rfl) rfl) rfl ?_
      refine d_take (i := 9) rfl (by kernel_rfl) (fun _ _ _ h => h) (H.sub (.cons _ (.cons_cons _ (.cons_cons _ (List.Sublist.refl _))))) (fun _ _ => r_add rfl rfl (w_i64 (by omega) (by omega))) rfl ?_
      refine d_take (i := 10) rfl (by kernel_rfl) (fun _ _ _ h => h) (H.sub (.cons _ (.cons_cons _ (.cons_cons _ (List.Sublist.refl _))))) (fun _ _ => r_sub rfl rfl (w_i64 (by omega) (by omega))) rfl ?_
      refine d_all1 (i := 11) (by kernel_rfl) ?_
      refine b_st rfl go_none (m_storen H 0 5 Try.sizeOf38 rfl rfl (by first | exact (kC_length _) | exact (hC_length _) | exact (shC_length _ _) | exact (wC_length _) | exact (sdC_length _ _) | exact (xrL_length _ _ _) | exact (xrC_length _ _ _ _ _ _ _) | exact (rigC_length _ _ _ _ _ _ _) | exact (doC_length _)) (by first | exact (kC_one _) | exact (hC_one _) | exact (shC_one _ _) | exact (elW.one _) | exact (sdC_one _ _) | exact (xrL_one _ _ _) | exact (xrC_one _ _ _ _ _ _ _) | exact (rigC_one _ _ _ _ _ _ _) | exact (elDo.one _)) rfl (by first | exact (by rw [kC_length]; omega) | exact (by rw [hC_length]; omega) | exact (by rw [wC_length]; omega) | exact (by show _ ≤ 5; omega) | exact (by show _ ≤ 7; omega) | exact (by show _ ≤ 3; omega)) xrC_sp) (L' := (_ :: _ :: _ :: _)) rfl rfl (fun _ H => (H.sub (.cons _ (.cons_cons _ (.cons_cons _ (List.Sublist.refl _)))))) ?_
      intro w H
      refine d_take (i := 12) rfl (by kernel_rfl) (fun _ _ _ h => h) (H.sub (.cons _ (.cons_cons _ (.cons_cons _ (List.Sublist.refl _))))) (fun _ _ => r_assign rfl) rfl ?_
      refine d_done (l' := [_, _, _, _, _, _, _, _, _, _, _, _, _, _, _, _, _, _, _, _, _, _, _, _, _, _, _, _, _, _, _, _, _, _, _, _, _, _, _, _, _, _, _, _, _, _, _, _, _, _]) (by kernel_rfl) rfl ?_
      refine x_thenNormal ?_
      refine wp_ret ?_
      refine e_ret (rc_two rfl (rc_celln Try.isAgg38 Try.sizeOf38 rfl (H.at 0 rfl) (by first | exact (kC_td _) | exact (hC_td _) | exact (hC_seed _) | exact (shC_td _ _) | exact (sdC_td _ _) | exact (xrL_td _ _ _) | exact (xrC_td _ _ _ _ _ _ _) | exact (rigC_td _ _ _ _ _ _ _) | exact (doC_td _)) (by first | exact (kC_length _) | exact (hC_length _) | exact (shC_length _ _) | exact (wC_length _) | exact (sdC_length _ _) | exact (xrL_length _ _ _) | exact (xrC_length _ _ _ _ _ _ _) | exact (rigC_length _ _ _ _ _ _ _) | exact (doC_length _))) (rc_tmp rfl)) ⟨_, rfl, ?_⟩
      have hap : appL x body = (putL x x.head x.slot (x.gens.getD x.head.toNat 0) body, 2 + x.head * x.z + x.slot, 0) := by unfold appL; rw [if_neg (by omega), if_pos ⟨by omega, by omega⟩]
      obtain ⟨e1, e2⟩ := putL_same hF (show 0 ≤ x.head by omega) body
      have hra : refAt (appL x body) = 2 + x.head * x.z + (x.slot + 1) - 1 := by rw [hap]; unfold refAt; rw [if_pos rfl]; show 2 + x.head * x.z + x.slot = _; omega
      refine ⟨some ⟨bu, 0, none⟩, cc, _, ?_, ?_, H.sub (.cons _ (.cons _ (List.Sublist.refl _)))⟩
      · rw [hra, hap]; unfold xrL; rw [e1, e2]; rfl
      · rw [hap]; show RowN 1 36 (uC (putL x x.head x.slot (x.gens.getD x.head.toNat 0) body).gens) _ _ _ _; rw [e1]; exact hNc

end Go.Proofs.Ytbjalofmamoffaa
