import Derived.Test.YtbjalofmamoffaaC4
namespace Go.Proofs.Ytbjalofmamoffaa
open Go Go.Er
set_option linter.unusedSimpArgs false in
theorem places32 : Places Try.prog #[⟨ "P", 25, 0, false, "", "", 0⟩, ⟨ "A", 26, 1, false, "", "", 8⟩, ⟨ "B", 26, 2, false, "", "", 16⟩, ⟨ "M", 27, 3, false, "", "", 24⟩, ⟨ "L", 28, 4, false, "", "", 32⟩, ⟨ "S", 30, 5, false, "", "", 40⟩] [(0, 1), (1, 1), (2, 1), (3, 1), (4, 1), (5, 2)] := fun w => by simp [Try.sizeOf25 w, Try.sizeOf26 w, Try.sizeOf27 w, Try.sizeOf28 w, Try.sizeOf30 w]
set_option linter.unusedSimpArgs false in
theorem places72 : Places Try.prog #[⟨ "At", 69, 0, false, "", "", 0⟩, ⟨ "N", 36, 32, false, "", "", 32⟩, ⟨ "Off", 70, 33, false, "", "", 40⟩] [(0, 32), (32, 1), (33, 32)] := fun w => by simp [Try.sizeOf36 w, Try.sizeOf69 w, Try.sizeOf70 w]

set_option maxHeartbeats 4000000 in
theorem alike_spec (bl : Nat) (x : LS) (a : Option Addr) (c : Nat) (w0 : World) (hg : LogR 51 89 72 w0 bl x) (hr : URow w0 a x.gens) :
    Calls Try.prog 17 #[.pointer (some ⟨bl, 0, none⟩), .agg (xrL x a c).toArray] w0 fun e w => ∃ v, e = .returned v ∧ (v = .bool true ∧ St w0 [] w []) := by
  obtain ⟨_, _, _, _, _, _, _, _, _, _, hF⟩ := id hg
  obtain ⟨fg0, fg1, fz0, fz1, fgl, fcl, fu, ⟨fh0, fh1⟩, ⟨fs0, fs1⟩, ⟨fk0, fk1⟩, fkg⟩ := id hF
  have H := St.refl w0
  refine c_enter (args := [.pointer (some ⟨bl, 0, none⟩), .agg (xrL x a c).toArray]) (l := [.pointer (some ⟨bl, 0, none⟩), .agg (xrL x a c).toArray, undef, undef, undef, undef, undef, undef, undef, undef, undef, undef, undef, undef, undef, undef, undef, undef, undef, undef, undef, undef, undef, undef, undef, undef, undef, undef, undef, undef, undef, undef, undef, undef, undef, undef, undef, undef, undef, undef, undef, undef, undef, undef, undef, undef, undef, undef, undef, undef, undef, undef, undef, undef, undef, undef, undef, undef, undef, undef, undef]) Try.func17 Try.ntmps17 rfl rfl ?_
  refine c_rseq (n := 61) ⟨rfl, rfl⟩ ?_
  refine s_new (m_box (cs := (xrL x a c)) H rfl rfl) ?_
  intro w b3 H
  refine s_val (r_assign rfl) ?_
  refine c_nil (l' := [_, _, _, _, _, _, _, _, _, _, _, _, _, _, _, _, _, _, _, _, _, _, _, _, _, _, _, _, _, _, _, _, _, _, _, _, _, _, _, _, _, _, _, _, _, _, _, _, _, _, _, _, _, _, _, _, _, _, _, _, _]) rfl ?_
  refine c_rseq (n := 61) ⟨rfl, rfl⟩ ?_
  refine s_val (r_move rfl) ?_
  refine s_call (r_call Try.call31 (ec rfl en)) (head_spec bl x _ (hg.st (H.sub (List.nil_sublist _)))) ?_
  rintro v w ⟨(⟨hh, rfl⟩ | ⟨hh, rfl⟩), HC⟩
  · skip
    replace H := H.quiet HC
    refine s_val (r_move rfl) ?_
    refine s_val (r_extract rfl rfl) ?_
    refine s_val (r_extract rfl rfl) ?_
    refine s_val (r_assign rfl) ?_
    refine s_val (r_assign rfl) ?_
    refine c_nil (l' := [_, _, _, _, _, _, _, _, _, _, _, _, _, _, _, _, _, _, _, _, _, _, _, _, _, _, _, _, _, _, _, _, _, _, _, _, _, _, _, _, _, _, _, _, _, _, _, _, _, _, _, _, _, _, _, _, _, _, _, _, _]) rfl ?_
    refine c_rseq (n := 61) ⟨rfl, rfl⟩ ?_
    refine s_val (r_fieldAddr (k := 2) Try.runUnderlying38 rfl Try.sizeOf3 (by decide) rfl rfl) ?_
    refine s_val (r_load1 Try.isAgg3 rfl (H.at 0 rfl) rfl) ?_
    refine s_val (r_assign rfl) ?_
    refine c_nil (l' := [_, _, _, _, _, _, _, _, _, _, _, _, _, _, _, _, _, _, _, _, _, _, _, _, _, _, _, _, _, _, _, _, _, _, _, _, _, _, _, _, _, _, _, _, _, _, _, _, _, _, _, _, _, _, _, _, _, _, _, _, _]) rfl ?_
    refine c_seq ?_
    refine c_rseq (n := 61) ⟨rfl, rfl⟩ ?_
    refine s_val (r_fieldAddr (k := 1) Try.runUnderlying38 rfl Try.sizeOf3 (by decide) rfl rfl) ?_
    refine s_val (r_load1 Try.isAgg3 rfl (H.at 0 rfl) rfl) ?_
    refine s_val (r_lss rfl rfl) ?_
    refine c_nil (l' := [_, _, _, _, _, _, _, _, _, _, _, _, _, _, _, _, _, _, _, _, _, _, _, _, _, _, _, _, _, _, _, _, _, _, _, _, _, _, _, _, _, _, _, _, _, _, _, _, _, _, _, _, _, _, _, _, _, _, _, _, _]) rfl ?_
    refine c_if rfl (fun h19 => ?_) (fun h19 => ?_)
    · skip
      skip
      refine c_region (n := 61) ⟨rfl, rfl⟩ ?_
      refine s_val (r_assign rfl) ?_
      refine c_nil (l' := [_, _, _, _, _, _, _, _, _, _, _, _, _, _, _, _, _, _, _, _, _, _, _, _, _, _, _, _, _, _, _, _, _, _, _, _, _, _, _, _, _, _, _, _, _, _, _, _, _, _, _, _, _, _, _, _, _, _, _, _, _]) rfl ?_
      refine c_seq ?_
      refine c_seq ?_
      refine d_begin (sz := 61) ⟨rfl, rfl⟩ (by kernel_rfl) H (H) rfl ?_
      intro w H
      refine d_take (i := 0) rfl (by kernel_rfl) (fun _ _ _ h => h) H (fun _ _ => r_move rfl) rfl ?_
      refine d_take (i := 1) rfl (by kernel_rfl) (fun _ _ _ h => h) H (fun _ _ => r_fieldAddr (k := 1) Try.runUnderlying38 rfl Try.sizeOf3 (by decide) rfl rfl) rfl ?_
      refine d_take (i := 2) rfl (by kernel_rfl) (fun _ _ _ h => h) H (fun _ HS => r_load1 Try.isAgg3 rfl (HS.at 0 rfl) rfl) rfl ?_
      refine d_take (i := 3) rfl (by kernel_rfl) (fun _ _ _ h => h) H (fun _ _ => r_neq rfl rfl) rfl ?_
      refine d_part (fun h23 => ?_) (fun h23 => ?_)
      · skip
        exfalso; omega
      · skip
        refine d_take (i := 4) rfl (by kernel_rfl) (fun _ _ _ h => h) H (fun _ _ => r_move rfl) rfl ?_
        refine d_takeG (i := 5) rfl (by kernel_rfl) (fun _ _ _ h => h) rfl rfl H (fun _ _ => r_move rfl) rfl ?_
        refine d_takeG (i := 6) rfl (by kernel_rfl) (fun _ _ _ h => h) rfl rfl H (fun _ _ => r_move rfl) rfl ?_
        refine d_takeG (i := 7) rfl (by kernel_rfl) (fun _ _ _ h => h) rfl rfl H (fun _ _ => r_neq rfl rfl) rfl ?_
        refine d_part (fun h27 => ?_) (fun h27 => ?_)
        · skip
          exfalso; omega
        · skip
          refine d_take (i := 8) rfl (by kernel_rfl) (fun _ _ _ h => h) H (fun _ _ => r_pickf rfl rfl) rfl ?_
          refine d_take (i := 9) rfl (by kernel_rfl) (fun _ _ _ h => h) H (fun _ _ => r_move rfl) rfl ?_
          refine d_takeG (i := 10) rfl (by kernel_rfl) (fun _ _ _ h => h) rfl rfl H (fun _ _ => r_move rfl) rfl ?_
          refine d_takeG (i := 12) rfl (by kernel_rfl) (fun _ _ _ h => h) rfl rfl H (fun _ HS => r_loadn Try.isAgg38 Try.sizeOf38 rfl (HS.at 0 rfl) (by first | exact (kC_td _) | exact (hC_td _) | exact (hC_seed _) | exact (shC_td _ _) | exact (sdC_td _ _) | exact (xrL_td _ _ _) | exact (xrC_td _ _ _ _ _ _ _) | exact (rigC_td _ _ _ _ _ _ _) | exact (doC_td _)) (by first | exact (kC_length _) | exact (hC_length _) | exact (shC_length _ _) | exact (wC_length _) | exact (sdC_length _ _) | exact (xrL_length _ _ _) | exact (xrC_length _ _ _ _ _ _ _) | exact (rigC_length _ _ _ _ _ _ _) | exact (doC_length _) | exact rfl)) rfl ?_
          refine d_all1 (i := 11) (by kernel_rfl) ?_
          refine b_call rfl (go_some rfl rfl) (r_call Try.call24 (ec rfl en)) (room_spec bl x _ (hg.st (H.sub (List.nil_sublist _)))) rfl ?_
          rintro v w ⟨rfl, HC⟩
          replace H := H.quiet HC
          refine ⟨H, ?_⟩
          refine d_all1 (i := 13) (by kernel_rfl) ?_
          have hr2 := hr.st (H.sub (List.nil_sublist _))
          refine b_call rfl (go_some rfl rfl) (r_call Try.call38 (ec rfl en)) (xroom_spec x hF _ _ _ hr2) rfl ?_
          rintro v w ⟨rfl, HC⟩
          replace H := H.quiet HC
          refine ⟨H, ?_⟩
          refine d_takeG (i := 14) rfl (by kernel_rfl) (fun _ _ _ h => h) rfl rfl H (fun _ _ => r_neq rfl rfl) rfl ?_
          refine d_part (fun h34 => ?_) (fun h34 => ?_)
          · skip
            exfalso; omega
          · skip
            refine d_take (i := 15) rfl (by kernel_rfl) (fun _ _ _ h => h) H (fun _ _ => r_pickf rfl rfl) rfl ?_
            refine d_done (l' := [_, _, _, _, _, _, _, _, _, _, _, _, _, _, _, _, _, _, _, _, _, _, _, _, _, _, _, _, _, _, _, _, _, _, _, _, _, _, _, _, _, _, _, _, _, _, _, _, _, _, _, _, _, _, _, _, _, _, _, _, _]) (by kernel_rfl) rfl ?_
            refine x_thenNormal ?_
            refine c_iff rfl ?_
            refine wp_skip ?_
            refine x_thenNormal ?_
            refine c_seq ?_
            refine c_rseq (n := 61) ⟨rfl, rfl⟩ ?_
            refine s_val (r_fieldAddr (k := 3) Try.runUnderlying38 rfl Try.sizeOf35 (by decide) rfl rfl) ?_
            refine s_val (r_load1 Try.isAgg35 rfl (H.at 0 rfl) rfl) ?_
            refine s_val (r_lens Try.runUnderlying35 (ec rfl en)) ?_
            refine s_val (r_move rfl) ?_
            refine c_nil (l' := [_, _, _, _, _, _, _, _, _, _, _, _, _, _, _, _, _, _, _, _, _, _, _, _, _, _, _, _, _, _, _, _, _, _, _, _, _, _, _, _, _, _, _, _, _, _, _, _, _, _, _, _, _, _, _, _, _, _, _, _, _]) rfl ?_
            refine wp_block ?_
            refine c_loop (fun (l0 : List Value) (i : Nat) (l : List Value) (w : World) => ∃ (u4 u8 u9 u40 u41 u42 u43 u44 u45 u46 u47 u48 u49 : Value) , l = ovr l0 [N_, N_, N_, N_, Y_ u4, N_, N_, N_, Y_ u8, Y_ u9, N_, N_, N_, N_, N_, N_, N_, N_, N_, N_, N_, N_, N_, N_, N_, N_, N_, N_, N_, N_, N_, N_, N_, N_, N_, N_, N_, N_, N_, Y_ (.int .i64 i), Y_ u40, Y_ u41, Y_ u42, Y_ u43, Y_ u44, Y_ u45, Y_ u46, Y_ u47, Y_ u48, Y_ u49] ∧ i ≤ x.gens.length ∧ St w0 [] w ((b3, .cells (xrL x a c).toArray 38 (0, 0)) :: [])) (fun (i : Nat) => x.gens.length - i) 0 ⟨_, _, _, _, _, _, _, _, _, _, _, _, _, rfl, by omega, H⟩ ?_
            intro i l w ⟨u4, u8, u9, u40, u41, u42, u43, u44, u45, u46, u47, u48, u49, hl, hi, H⟩
            obtain rfl := hl.trans (rfl : _ = [_, _, _, _, _, _, _, _, _, _, _, _, _, _, _, _, _, _, _, _, _, _, _, _, _, _, _, _, _, _, _, _, _, _, _, _, _, _, _, _, _, _, _, _, _, _, _, _, _, _, _, _, _, _, _, _, _, _, _, _, _])
            clear hl
            refine c_rseq (n := 61) ⟨rfl, rfl⟩ ?_
            refine s_val (r_lss rfl rfl) ?_
            refine c_nil (l' := [_, _, _, _, _, _, _, _, _, _, _, _, _, _, _, _, _, _, _, _, _, _, _, _, _, _, _, _, _, _, _, _, _, _, _, _, _, _, _, _, _, _, _, _, _, _, _, _, _, _, _, _, _, _, _, _, _, _, _, _, _]) rfl ?_
            refine c_seq ?_
            refine c_if rfl (fun h40 => ?_) (fun h40 => ?_)
            · skip
              obtain ⟨bu, off, pre, post, T, fz, rfl, hbu, hpu⟩ := hr (by omega)
              refine wp_skip ?_
              refine x_thenNormal ?_
              refine c_seq ?_
              refine wp_block ?_
              refine c_rseq (n := 61) ⟨rfl, rfl⟩ ?_
              refine s_val (r_move rfl) ?_
              refine s_val (r_indexAddrS Try.runUnderlying35 Try.sizeOf36 rfl rfl (by omega) (by omega)) ?_
              refine s_val (r_load1 Try.isAgg36 rfl (H.rd0 hbu) (u_get pre x.gens post i hpu (by omega) (by omega))) ?_
              refine s_val (r_assign rfl) ?_
              refine s_val (r_assign rfl) ?_
              refine c_nil (l' := [_, _, _, _, _, _, _, _, _, _, _, _, _, _, _, _, _, _, _, _, _, _, _, _, _, _, _, _, _, _, _, _, _, _, _, _, _, _, _, _, _, _, _, _, _, _, _, _, _, _, _, _, _, _, _, _, _, _, _, _, _]) rfl ?_
              refine c_rseq (n := 61) ⟨rfl, rfl⟩ ?_
              refine s_val (r_move rfl) ?_
              refine s_val (r_move rfl) ?_
              refine s_call (r_call Try.call26 (ec rfl (ec rfl en))) (gen_spec bl x ((i : Nat)) _ (hg.st (H.sub (List.nil_sublist _)))) ?_
              rintro v w ⟨rfl, HC⟩
              replace H := H.quiet HC
              refine s_val (r_move rfl) ?_
              refine s_val (r_neq rfl rfl) ?_
              refine c_nil (l' := [_, _, _, _, _, _, _, _, _, _, _, _, _, _, _, _, _, _, _, _, _, _, _, _, _, _, _, _, _, _, _, _, _, _, _, _, _, _, _, _, _, _, _, _, _, _, _, _, _, _, _, _, _, _, _, _, _, _, _, _, _]) rfl ?_
              refine c_if rfl (fun h48 => ?_) (fun h48 => ?_)
              · skip
                exact absurd (by unfold genAt; rw [if_pos (by omega), Int.toNat_natCast]) h48
              · skip
                refine wp_skip ?_
                refine x_blockNormal ?_
                refine x_thenNormal ?_
                refine c_region (n := 61) ⟨rfl, rfl⟩ ?_
                refine s_val (r_add rfl rfl (w_i64 (by omega) (by omega))) ?_
                refine s_val (r_move rfl) ?_
                refine c_nil0 (l' := [_, _, _, _, _, _, _, _, _, _, _, _, _, _, _, _, _, _, _, _, _, _, _, _, _, _, _, _, _, _, _, _, _, _, _, _, _, _, _, _, _, _, _, _, _, _, _, _, _, _, _, _, _, _, _, _, _, _, _, _, _]) rfl ?_
                exact ⟨i + 1, _, rfl, ⟨_, _, _, _, _, _, _, _, _, _, _, _, _, rfl, by omega, H⟩, by omega⟩
            · skip
              skip
              refine wp_exit (x_thenExit (x_thenExit (x_blockHit ?_)))
              refine x_thenNormal ?_
              refine c_rseq (n := 61) ⟨rfl, rfl⟩ ?_
              refine s_val (r_move rfl) ?_
              refine s_call (r_call Try.call26 (ec rfl (ec rfl en))) (gen_spec bl x (-1) _ (hg.st (H.sub (List.nil_sublist _)))) ?_
              rintro v w ⟨rfl, HC⟩
              replace H := H.quiet HC
              refine s_test (r_eql rfl rfl) (fun h52 => ?_) (fun h52 => ?_)
              · skip
                refine s_val (r_move rfl) ?_
                refine g_yes rfl rfl ?_
                refine s_val (r_move rfl) ?_
                refine g_yes rfl rfl ?_
                refine s_val (r_fieldAddr (k := 3) Try.runUnderlying38 rfl Try.sizeOf35 (by decide) rfl rfl) ?_
                refine g_yes rfl rfl ?_
                refine s_val (r_load1 Try.isAgg35 rfl (H.at 0 rfl) rfl) ?_
                refine g_yes rfl rfl ?_
                refine s_val (r_lens Try.runUnderlying35 (ec rfl en)) ?_
                refine g_yes rfl rfl ?_
                refine s_call (r_call Try.call26 (ec rfl (ec rfl en))) (gen_spec bl x ((x.gens.length : Nat)) _ (hg.st (H.sub (List.nil_sublist _)))) ?_
                rintro v w ⟨rfl, HC⟩
                replace H := H.quiet HC
                refine g_yes rfl rfl ?_
                refine s_test (r_eql rfl rfl) (fun h59 => ?_) (fun h59 => ?_)
                · skip
                  refine s_val (r_pickt rfl rfl) ?_
                  refine s_val (r_assign rfl) ?_
                  refine c_nil (l' := [_, _, _, _, _, _, _, _, _, _, _, _, _, _, _, _, _, _, _, _, _, _, _, _, _, _, _, _, _, _, _, _, _, _, _, _, _, _, _, _, _, _, _, _, _, _, _, _, _, _, _, _, _, _, _, _, _, _, _, _, _]) rfl ?_
                  refine wp_ret ?_
                  refine e_ret (res1 rfl rfl) ⟨_, rfl, ?_⟩
                  exact ⟨rfl, H.sub (List.nil_sublist _)⟩
                · skip
                  exact absurd (by unfold genAt; rw [if_pos (by omega), List.getD_eq_getElem?_getD, List.getElem?_eq_none (by omega)]; rfl) h59
              · skip
                exact absurd (by unfold genAt; rw [if_neg (by omega)]) h52
    · skip
      exfalso; omega
  · skip
    replace H := H.quiet HC
    refine s_val (r_move rfl) ?_
    refine s_val (r_extract rfl rfl) ?_
    refine s_val (r_extract rfl rfl) ?_
    refine s_val (r_assign rfl) ?_
    refine s_val (r_assign rfl) ?_
    refine c_nil (l' := [_, _, _, _, _, _, _, _, _, _, _, _, _, _, _, _, _, _, _, _, _, _, _, _, _, _, _, _, _, _, _, _, _, _, _, _, _, _, _, _, _, _, _, _, _, _, _, _, _, _, _, _, _, _, _, _, _, _, _, _, _]) rfl ?_
    refine c_rseq (n := 61) ⟨rfl, rfl⟩ ?_
    refine s_val (r_fieldAddr (k := 2) Try.runUnderlying38 rfl Try.sizeOf3 (by decide) rfl rfl) ?_
    refine s_val (r_load1 Try.isAgg3 rfl (H.at 0 rfl) rfl) ?_
    refine s_val (r_assign rfl) ?_
    refine c_nil (l' := [_, _, _, _, _, _, _, _, _, _, _, _, _, _, _, _, _, _, _, _, _, _, _, _, _, _, _, _, _, _, _, _, _, _, _, _, _, _, _, _, _, _, _, _, _, _, _, _, _, _, _, _, _, _, _, _, _, _, _, _, _]) rfl ?_
    refine c_seq ?_
    refine c_rseq (n := 61) ⟨rfl, rfl⟩ ?_
    refine s_val (r_fieldAddr (k := 1) Try.runUnderlying38 rfl Try.sizeOf3 (by decide) rfl rfl) ?_
    refine s_val (r_load1 Try.isAgg3 rfl (H.at 0 rfl) rfl) ?_
    refine s_val (r_lss rfl rfl) ?_
    refine c_nil (l' := [_, _, _, _, _, _, _, _, _, _, _, _, _, _, _, _, _, _, _, _, _, _, _, _, _, _, _, _, _, _, _, _, _, _, _, _, _, _, _, _, _, _, _, _, _, _, _, _, _, _, _, _, _, _, _, _, _, _, _, _, _]) rfl ?_
    refine c_if rfl (fun h19 => ?_) (fun h19 => ?_)
    · skip
      exfalso; omega
    · skip
      skip
      refine wp_skip ?_
      refine x_thenNormal ?_
      refine c_seq ?_
      refine c_seq ?_
      refine d_begin (sz := 61) ⟨rfl, rfl⟩ (by kernel_rfl) H (H) rfl ?_
      intro w H
      refine d_take (i := 0) rfl (by kernel_rfl) (fun _ _ _ h => h) H (fun _ _ => r_move rfl) rfl ?_
      refine d_take (i := 1) rfl (by kernel_rfl) (fun _ _ _ h => h) H (fun _ _ => r_fieldAddr (k := 1) Try.runUnderlying38 rfl Try.sizeOf3 (by decide) rfl rfl) rfl ?_
      refine d_take (i := 2) rfl (by kernel_rfl) (fun _ _ _ h => h) H (fun _ HS => r_load1 Try.isAgg3 rfl (HS.at 0 rfl) rfl) rfl ?_
      refine d_take (i := 3) rfl (by kernel_rfl) (fun _ _ _ h => h) H (fun _ _ => r_neq rfl rfl) rfl ?_
      refine d_part (fun h23 => ?_) (fun h23 => ?_)
      · skip
        exfalso; omega
      · skip
        refine d_take (i := 4) rfl (by kernel_rfl) (fun _ _ _ h => h) H (fun _ _ => r_move rfl) rfl ?_
        refine d_takeG (i := 5) rfl (by kernel_rfl) (fun _ _ _ h => h) rfl rfl H (fun _ _ => r_move rfl) rfl ?_
        refine d_takeG (i := 6) rfl (by kernel_rfl) (fun _ _ _ h => h) rfl rfl H (fun _ _ => r_move rfl) rfl ?_
        refine d_takeG (i := 7) rfl (by kernel_rfl) (fun _ _ _ h => h) rfl rfl H (fun _ _ => r_neq rfl rfl) rfl ?_
        refine d_part (fun h27 => ?_) (fun h27 => ?_)
        · skip
          exfalso; omega
        · skip
          refine d_take (i := 8) rfl (by kernel_rfl) (fun _ _ _ h => h) H (fun _ _ => r_pickf rfl rfl) rfl ?_
          refine d_take (i := 9) rfl (by kernel_rfl) (fun _ _ _ h => h) H (fun _ _ => r_move rfl) rfl ?_
          refine d_takeG (i := 10) rfl (by kernel_rfl) (fun _ _ _ h => h) rfl rfl H (fun _ _ => r_move rfl) rfl ?_
          refine d_takeG (i := 12) rfl (by kernel_rfl) (fun _ _ _ h => h) rfl rfl H (fun _ HS => r_loadn Try.isAgg38 Try.sizeOf38 rfl (HS.at 0 rfl) (by first | exact (kC_td _) | exact (hC_td _) | exact (hC_seed _) | exact (shC_td _ _) | exact (sdC_td _ _) | exact (xrL_td _ _ _) | exact (xrC_td _ _ _ _ _ _ _) | exact (rigC_td _ _ _ _ _ _ _) | exact (doC_td _)) (by first | exact (kC_length _) | exact (hC_length _) | exact (shC_length _ _) | exact (wC_length _) | exact (sdC_length _ _) | exact (xrL_length _ _ _) | exact (xrC_length _ _ _ _ _ _ _) | exact (rigC_length _ _ _ _ _ _ _) | exact (doC_length _) | exact rfl)) rfl ?_
          refine d_all1 (i := 11) (by kernel_rfl) ?_
          refine b_call rfl (go_some rfl rfl) (r_call Try.call24 (ec rfl en)) (room_spec bl x _ (hg.st (H.sub (List.nil_sublist _)))) rfl ?_
          rintro v w ⟨rfl, HC⟩
          replace H := H.quiet HC
          refine ⟨H, ?_⟩
          refine d_all1 (i := 13) (by kernel_rfl) ?_
          have hr2 := hr.st (H.sub (List.nil_sublist _))
          refine b_call rfl (go_some rfl rfl) (r_call Try.call38 (ec rfl en)) (xroom_spec x hF _ _ _ hr2) rfl ?_
          rintro v w ⟨rfl, HC⟩
          replace H := H.quiet HC
          refine ⟨H, ?_⟩
          refine d_takeG (i := 14) rfl (by kernel_rfl) (fun _ _ _ h => h) rfl rfl H (fun _ _ => r_neq rfl rfl) rfl ?_
          refine d_part (fun h34 => ?_) (fun h34 => ?_)
          · skip
            exfalso; omega
          · skip
            refine d_take (i := 15) rfl (by kernel_rfl) (fun _ _ _ h => h) H (fun _ _ => r_pickf rfl rfl) rfl ?_
            refine d_done (l' := [_, _, _, _, _, _, _, _, _, _, _, _, _, _, _, _, _, _, _, _, _, _, _, _, _, _, _, _, _, _, _, _, _, _, _, _, _, _, _, _, _, _, _, _, _, _, _, _, _, _, _, _, _, _, _, _, _, _, _, _, _]) (by kernel_rfl) rfl ?_
            refine x_thenNormal ?_
            refine c_iff rfl ?_
            refine wp_skip ?_
            refine x_thenNormal ?_
            refine c_seq ?_
            refine c_rseq (n := 61) ⟨rfl, rfl⟩ ?_
            refine s_val (r_fieldAddr (k := 3) Try.runUnderlying38 rfl Try.sizeOf35 (by decide) rfl rfl) ?_
            refine s_val (r_load1 Try.isAgg35 rfl (H.at 0 rfl) rfl) ?_
            refine s_val (r_lens Try.runUnderlying35 (ec rfl en)) ?_
            refine s_val (r_move rfl) ?_
            refine c_nil (l' := [_, _, _, _, _, _, _, _, _, _, _, _, _, _, _, _, _, _, _, _, _, _, _, _, _, _, _, _, _, _, _, _, _, _, _, _, _, _, _, _, _, _, _, _, _, _, _, _, _, _, _, _, _, _, _, _, _, _, _, _, _]) rfl ?_
            refine wp_block ?_
            refine c_loop (fun (l0 : List Value) (i : Nat) (l : List Value) (w : World) => ∃ (u4 u8 u9 u40 u41 u42 u43 u44 u45 u46 u47 u48 u49 : Value) , l = ovr l0 [N_, N_, N_, N_, Y_ u4, N_, N_, N_, Y_ u8, Y_ u9, N_, N_, N_, N_, N_, N_, N_, N_, N_, N_, N_, N_, N_, N_, N_, N_, N_, N_, N_, N_, N_, N_, N_, N_, N_, N_, N_, N_, N_, Y_ (.int .i64 i), Y_ u40, Y_ u41, Y_ u42, Y_ u43, Y_ u44, Y_ u45, Y_ u46, Y_ u47, Y_ u48, Y_ u49] ∧ i ≤ x.gens.length ∧ St w0 [] w ((b3, .cells (xrL x a c).toArray 38 (0, 0)) :: [])) (fun (i : Nat) => x.gens.length - i) 0 ⟨_, _, _, _, _, _, _, _, _, _, _, _, _, rfl, by omega, H⟩ ?_
            intro i l w ⟨u4, u8, u9, u40, u41, u42, u43, u44, u45, u46, u47, u48, u49, hl, hi, H⟩
            obtain rfl := hl.trans (rfl : _ = [_, _, _, _, _, _, _, _, _, _, _, _, _, _, _, _, _, _, _, _, _, _, _, _, _, _, _, _, _, _, _, _, _, _, _, _, _, _, _, _, _, _, _, _, _, _, _, _, _, _, _, _, _, _, _, _, _, _, _, _, _])
            clear hl
            refine c_rseq (n := 61) ⟨rfl, rfl⟩ ?_
            refine s_val (r_lss rfl rfl) ?_
            refine c_nil (l' := [_, _, _, _, _, _, _, _, _, _, _, _, _, _, _, _, _, _, _, _, _, _, _, _, _, _, _, _, _, _, _, _, _, _, _, _, _, _, _, _, _, _, _, _, _, _, _, _, _, _, _, _, _, _, _, _, _, _, _, _, _]) rfl ?_
            refine c_seq ?_
            refine c_if rfl (fun h40 => ?_) (fun h40 => ?_)
            · skip
              obtain ⟨bu, off, pre, post, T, fz, rfl, hbu, hpu⟩ := hr (by omega)
              refine wp_skip ?_
              refine x_thenNormal ?_
              refine c_seq ?_
              refine wp_block ?_
              refine c_rseq (n := 61) ⟨rfl, rfl⟩ ?_
              refine s_val (r_move rfl) ?_
              refine s_val (r_indexAddrS Try.runUnderlying35 Try.sizeOf36 rfl rfl (by omega) (by omega)) ?_
              refine s_val (r_load1 Try.isAgg36 rfl (H.rd0 hbu) (u_get pre x.gens post i hpu (by omega) (by omega))) ?_
              refine s_val (r_assign rfl) ?_
              refine s_val (r_assign rfl) ?_
              refine c_nil (l' := [_, _, _, _, _, _, _, _, _, _, _, _, _, _, _, _, _, _, _, _, _, _, _, _, _, _, _, _, _, _, _, _, _, _, _, _, _, _, _, _, _, _, _, _, _, _, _, _, _, _, _, _, _, _, _, _, _, _, _, _, _]) rfl ?_
              refine c_rseq (n := 61) ⟨rfl, rfl⟩ ?_
              refine s_val (r_move rfl) ?_
              refine s_val (r_move rfl) ?_
              refine s_call (r_call Try.call26 (ec rfl (ec rfl en))) (gen_spec bl x ((i : Nat)) _ (hg.st (H.sub (List.nil_sublist _)))) ?_
              rintro v w ⟨rfl, HC⟩
              replace H := H.quiet HC
              refine s_val (r_move rfl) ?_
              refine s_val (r_neq rfl rfl) ?_
              refine c_nil (l' := [_, _, _, _, _, _, _, _, _, _, _, _, _, _, _, _, _, _, _, _, _, _, _, _, _, _, _, _, _, _, _, _, _, _, _, _, _, _, _, _, _, _, _, _, _, _, _, _, _, _, _, _, _, _, _, _, _, _, _, _, _]) rfl ?_
              refine c_if rfl (fun h48 => ?_) (fun h48 => ?_)
              · skip
                exact absurd (by unfold genAt; rw [if_pos (by omega), Int.toNat_natCast]) h48
              · skip
                refine wp_skip ?_
                refine x_blockNormal ?_
                refine x_thenNormal ?_
                refine c_region (n := 61) ⟨rfl, rfl⟩ ?_
                refine s_val (r_add rfl rfl (w_i64 (by omega) (by omega))) ?_
                refine s_val (r_move rfl) ?_
                refine c_nil0 (l' := [_, _, _, _, _, _, _, _, _, _, _, _, _, _, _, _, _, _, _, _, _, _, _, _, _, _, _, _, _, _, _, _, _, _, _, _, _, _, _, _, _, _, _, _, _, _, _, _, _, _, _, _, _, _, _, _, _, _, _, _, _]) rfl ?_
                exact ⟨i + 1, _, rfl, ⟨_, _, _, _, _, _, _, _, _, _, _, _, _, rfl, by omega, H⟩, by omega⟩
            · skip
              skip
              refine wp_exit (x_thenExit (x_thenExit (x_blockHit ?_)))
              refine x_thenNormal ?_
              refine c_rseq (n := 61) ⟨rfl, rfl⟩ ?_
              refine s_val (r_move rfl) ?_
              refine s_call (r_call Try.call26 (ec rfl (ec rfl en))) (gen_spec bl x (-1) _ (hg.st (H.sub (List.nil_sublist _)))) ?_
              rintro v w ⟨rfl, HC⟩
              replace H := H.quiet HC
              refine s_test (r_eql rfl rfl) (fun h52 => ?_) (fun h52 => ?_)
              · skip
                refine s_val (r_move rfl) ?_
                refine g_yes rfl rfl ?_
                refine s_val (r_move rfl) ?_
                refine g_yes rfl rfl ?_
                refine s_val (r_fieldAddr (k := 3) Try.runUnderlying38 rfl Try.sizeOf35 (by decide) rfl rfl) ?_
                refine g_yes rfl rfl ?_
                refine s_val (r_load1 Try.isAgg35 rfl (H.at 0 rfl) rfl) ?_
                refine g_yes rfl rfl ?_
                refine s_val (r_lens Try.runUnderlying35 (ec rfl en)) ?_
                refine g_yes rfl rfl ?_
                refine s_call (r_call Try.call26 (ec rfl (ec rfl en))) (gen_spec bl x ((x.gens.length : Nat)) _ (hg.st (H.sub (List.nil_sublist _)))) ?_
                rintro v w ⟨rfl, HC⟩
                replace H := H.quiet HC
                refine g_yes rfl rfl ?_
                refine s_test (r_eql rfl rfl) (fun h59 => ?_) (fun h59 => ?_)
                · skip
                  refine s_val (r_pickt rfl rfl) ?_
                  refine s_val (r_assign rfl) ?_
                  refine c_nil (l' := [_, _, _, _, _, _, _, _, _, _, _, _, _, _, _, _, _, _, _, _, _, _, _, _, _, _, _, _, _, _, _, _, _, _, _, _, _, _, _, _, _, _, _, _, _, _, _, _, _, _, _, _, _, _, _, _, _, _, _, _, _]) rfl ?_
                  refine wp_ret ?_
                  refine e_ret (res1 rfl rfl) ⟨_, rfl, ?_⟩
                  exact ⟨rfl, H.sub (List.nil_sublist _)⟩
                · skip
                  exact absurd (by unfold genAt; rw [if_pos (by omega), List.getD_eq_getElem?_getD, List.getElem?_eq_none (by omega)]; rfl) h59
              · skip
                exact absurd (by unfold genAt; rw [if_neg (by omega)]) h52

set_option maxHeartbeats 4000000 in
theorem great_spec (acts : List DoL) (a : Option Addr) (c : Nat) (hl : acts.length ≤ 9223372036854775807) (w0 : World) (hr : RRow doC w0 a acts) :
    Calls Try.prog 9 #[.slice a acts.length c] w0 fun e w => ∃ v, e = .returned v ∧ ((v = .int .i64 1 ∧ St w0 [] w []) ∨ (v = .int .i64 0 ∧ acts.length ≤ 30 ∧ (∀ i, i < acts.length → (dl acts i).body.b.length ≤ 120) ∧ St w0 [] w [])) := by
  have H := St.refl w0
  refine c_enter (args := [.slice a acts.length c]) (l := [.slice a acts.length c, undef, undef, undef, undef, undef, undef, undef, undef, undef, undef, undef, undef, undef, undef, undef, undef, undef, undef]) Try.func9 Try.ntmps9 rfl rfl ?_
  refine c_rseq (n := 19) ⟨rfl, rfl⟩ ?_
  refine s_val (r_assign rfl) ?_
  refine c_nil (l' := [_, _, _, _, _, _, _, _, _, _, _, _, _, _, _, _, _, _, _]) rfl ?_
  refine c_seq ?_
  refine c_rseq (n := 19) ⟨rfl, rfl⟩ ?_
  refine s_val (r_move rfl) ?_
  refine s_val (r_lens Try.runUnderlying22 (ec rfl en)) ?_
  refine s_val (r_gtr rfl rfl) ?_
  refine c_nil (l' := [_, _, _, _, _, _, _, _, _, _, _, _, _, _, _, _, _, _, _]) rfl ?_
  refine c_if rfl (fun h7 => ?_) (fun h7 => ?_)
  · skip
    refine c_rseq (n := 19) ⟨rfl, rfl⟩ ?_
    refine s_val (r_assign rfl) ?_
    refine c_nil (l' := [_, _, _, _, _, _, _, _, _, _, _, _, _, _, _, _, _, _, _]) rfl ?_
    refine wp_ret (x_thenRet ?_)
    refine e_ret (res1 rfl rfl) ⟨_, rfl, ?_⟩
    exact .inl ⟨rfl, H⟩
  · skip
    refine wp_skip ?_
    refine x_thenNormal ?_
    refine c_seq ?_
    refine c_rseq (n := 19) ⟨rfl, rfl⟩ ?_
    refine s_val (r_move rfl) ?_
    refine s_val (r_lens Try.runUnderlying22 (ec rfl en)) ?_
    refine s_val (r_move rfl) ?_
    refine c_nil (l' := [_, _, _, _, _, _, _, _, _, _, _, _, _, _, _, _, _, _, _]) rfl ?_
    refine wp_block ?_
    refine c_loop (fun (l0 : List Value) (i : Nat) (l : List Value) (w : World) => ∃ (u4 u11 u12 u13 u14 u15 u16 u17 u18 : Value) , l = ovr l0 [N_, N_, Y_ (.int .i64 0), N_, Y_ u4, N_, N_, N_, N_, N_, Y_ (.int .i64 i), Y_ u11, Y_ u12, Y_ u13, Y_ u14, Y_ u15, Y_ u16, Y_ u17, Y_ u18] ∧ i ≤ acts.length ∧ (∀ j, j < i → (dl acts j).body.b.length ≤ 120) ∧ St w0 [] w ([])) (fun (i : Nat) => acts.length - i) 0 ⟨_, _, _, _, _, _, _, _, _, rfl, by omega, (fun _ h => absurd h (Nat.not_lt_zero _)), H⟩ ?_
    intro i l w ⟨u4, u11, u12, u13, u14, u15, u16, u17, u18, hl, hi, hs, H⟩
    obtain rfl := hl.trans (rfl : _ = [_, _, _, _, _, _, _, _, _, _, _, _, _, _, _, _, _, _, _])
    clear hl
    refine c_rseq (n := 19) ⟨rfl, rfl⟩ ?_
    refine s_val (r_lss rfl rfl) ?_
    refine c_nil (l' := [_, _, _, _, _, _, _, _, _, _, _, _, _, _, _, _, _, _, _]) rfl ?_
    refine c_seq ?_
    refine c_if rfl (fun h11 => ?_) (fun h11 => ?_)
    · skip
      obtain ⟨b, off, pre, post, T, fz, rfl, hb, hp⟩ := hr (by omega)
      refine wp_skip ?_
      refine x_thenNormal ?_
      refine c_seq ?_
      refine wp_block ?_
      refine c_rseq (n := 19) ⟨rfl, rfl⟩ ?_
      refine s_val (r_indexAddrS Try.runUnderlying22 Try.sizeOf44 rfl rfl (by omega) (by omega)) ?_
      refine s_val (r_loadn Try.isAgg44 Try.sizeOf44 rfl (H.rd0 hb) (row_td elDo pre post (off := off) (i := i) hp (dl_get (by omega)) (by omega)) (doC_length _)) ?_
      refine s_new (m_alloc (cs := (doC doZ)) H Try.zeroValue44 rfl) ?_
      intro w b4 H
      refine s_st (m_storen H 0 3 Try.sizeOf44 rfl rfl (by first | exact (kC_length _) | exact (hC_length _) | exact (shC_length _ _) | exact (wC_length _) | exact (sdC_length _ _) | exact (xrL_length _ _ _) | exact (xrC_length _ _ _ _ _ _ _) | exact (rigC_length _ _ _ _ _ _ _) | exact (doC_length _)) (by first | exact (kC_one _) | exact (hC_one _) | exact (shC_one _ _) | exact (elW.one _) | exact (sdC_one _ _) | exact (xrL_one _ _ _) | exact (xrC_one _ _ _ _ _ _ _) | exact (rigC_one _ _ _ _ _ _ _) | exact (elDo.one _)) rfl (by first | exact (by rw [kC_length]; omega) | exact (by rw [hC_length]; omega) | exact (by rw [wC_length]; omega) | exact (by show _ ≤ 5; omega) | exact (by show _ ≤ 7; omega) | exact (by show _ ≤ 3; omega)) (doC_sp _ _)) (L' := (_ :: _)) rfl ?_
      intro w H
      refine c_nil (l' := [_, _, _, _, _, _, _, _, _, _, _, _, _, _, _, _, _, _, _]) rfl ?_
      refine c_rseq (n := 19) ⟨rfl, rfl⟩ ?_
      refine s_val (r_fieldAddr (k := 2) Try.runUnderlying44 rfl Try.sizeOf40 (by decide) rfl rfl) ?_
      refine s_val (r_load1 Try.isAgg40 rfl (H.at 0 rfl) rfl) ?_
      refine s_val (r_lens Try.runUnderlying40 (ec rfl en)) ?_
      refine s_val (r_gtr rfl rfl) ?_
      refine c_nil (l' := [_, _, _, _, _, _, _, _, _, _, _, _, _, _, _, _, _, _, _]) rfl ?_
      refine c_if rfl (fun h17 => ?_) (fun h17 => ?_)
      · skip
        refine c_rseq (n := 19) ⟨rfl, rfl⟩ ?_
        refine s_val (r_assign rfl) ?_
        refine c_nil (l' := [_, _, _, _, _, _, _, _, _, _, _, _, _, _, _, _, _, _, _]) rfl ?_
        refine wp_ret (x_blockRet (x_thenRet (x_thenRet (x_blockRet (x_thenRet ?_)))))
        refine e_ret (res1 rfl rfl) ⟨_, rfl, ?_⟩
        exact .inl ⟨rfl, H.sub (List.nil_sublist _)⟩
      · skip
        refine wp_skip ?_
        refine x_blockNormal ?_
        refine x_thenNormal ?_
        refine c_region (n := 19) ⟨rfl, rfl⟩ ?_
        refine s_val (r_add rfl rfl (w_i64 (by omega) (by omega))) ?_
        refine s_val (r_move rfl) ?_
        refine c_nil0 (l' := [_, _, _, _, _, _, _, _, _, _, _, _, _, _, _, _, _, _, _]) rfl ?_
        replace H := H.sub (.cons _ (List.Sublist.refl _))
        exact ⟨i + 1, _, rfl, ⟨_, _, _, _, _, _, _, _, _, rfl, by omega, (fun j hj => (Nat.lt_succ_iff_lt_or_eq.1 hj).elim (hs j) (fun e => by subst e; omega)), H⟩, by omega⟩
    · skip
      obtain rfl : i = acts.length := by omega
      refine wp_exit (x_thenExit (x_thenExit (x_blockHit ?_)))
      refine x_thenNormal ?_
      refine c_rseq (n := 19) ⟨rfl, rfl⟩ ?_
      refine s_val (r_assign rfl) ?_
      refine c_nil (l' := [_, _, _, _, _, _, _, _, _, _, _, _, _, _, _, _, _, _, _]) rfl ?_
      refine wp_ret ?_
      refine e_ret (res1 rfl rfl) ⟨_, rfl, ?_⟩
      exact .inr ⟨rfl, by omega, hs, H⟩

set_option maxHeartbeats 4000000 in
theorem made_spec (sg sz : Int) (hs0 : 0 ≤ sg) (hs1 : sg < 256) (ht0 : 0 ≤ sz) (ht1 : sz < 256) (w0 : World) :
    Calls Try.prog 10 #[.int .u8 sg, .int .u8 sz] w0 fun e w => ∃ v, e = .returned v ∧ (∃ bl N pp pa pb pm, v = .tuple #[.agg (rigC pp pa pb pm (some ⟨bl, 0, none⟩) (3 + sg % 4) (1 + sz % 4)).toArray, .int .i64 1] ∧ LogN 150 51 89 72 bl (newL (3 + sg % 4) (1 + sz % 4)) 0 N ∧ St w0 [] w N) := by
  obtain ⟨g, hg⟩ : ∃ g, g = 3 + sg % 4 := ⟨_, rfl⟩
  obtain ⟨z, hz⟩ : ∃ z, z = 1 + sz % 4 := ⟨_, rfl⟩
  rw [← hg, ← hz]
  have hg0 : 3 ≤ g := by omega
  have hg1 : g ≤ 64 := by omega
  have hz0 : 1 ≤ z := by omega
  have hz1 : z ≤ 32 := by omega
  have hgz := gz_rng (g := g) (z := z) (by omega) hg1 (by omega) hz1
  obtain ⟨m, hm⟩ : ∃ m : Nat, (m : Int) = 2 + g * z := ⟨(2 + g * z).toNat, by omega⟩
  have H := St.refl w0
  refine c_enter (args := [.int .u8 sg, .int .u8 sz]) (l := [.int .u8 sg, .int .u8 sz, undef, undef, undef, undef, undef, undef, undef, undef, undef, undef, undef, undef, undef, undef, undef, undef, undef, undef, undef, undef, undef, undef, undef, undef, undef, undef, undef, undef, undef, undef, undef, undef, undef, undef, undef, undef, undef, undef, undef, undef, undef, undef, undef, undef, undef, undef, undef, undef, undef, undef, undef, undef, undef, undef, undef, undef, undef, undef, undef, undef, undef]) Try.func10 Try.ntmps10 rfl rfl ?_
  refine c_rseq (n := 63) ⟨rfl, rfl⟩ ?_
  refine s_new (m_alloc (cs := (rigC none none none none none 0 0)) H Try.zeroValue32 rfl) ?_
  intro w b4 H
  refine s_val (r_assign rfl) ?_
  refine c_nil (l' := [_, _, _, _, _, _, _, _, _, _, _, _, _, _, _, _, _, _, _, _, _, _, _, _, _, _, _, _, _, _, _, _, _, _, _, _, _, _, _, _, _, _, _, _, _, _, _, _, _, _, _, _, _, _, _, _, _, _, _, _, _, _, _]) rfl ?_
  refine c_rseq (n := 63) ⟨rfl, rfl⟩ ?_
  refine s_call (r_call Try.call27 en) (newpower_spec _) ?_
  rintro v w ⟨bp, Np, rfl, hNp, HC⟩
  replace H : St w0 [] w (_ :: Np) := (H.call0 HC).perm (List.perm_append_comm (l₁ := [_]))
  refine s_val (r_move rfl) ?_
  refine s_val (r_conv Try.runUnderlying5 Try.runUnderlying3 rfl (w_i64 (by omega) (by omega))) ?_
  refine s_val (r_rem rfl rfl (by omega) (Int.tmod_eq_emod_of_nonneg (by omega))) ?_
  refine s_val (r_add rfl rfl (w_i64e (r := g) (by omega) (by omega) (by omega))) ?_
  refine s_val (r_move rfl) ?_
  refine s_val (r_conv Try.runUnderlying5 Try.runUnderlying3 rfl (w_i64 (by omega) (by omega))) ?_
  refine s_val (r_rem rfl rfl (by omega) (Int.tmod_eq_emod_of_nonneg (by omega))) ?_
  refine s_val (r_add rfl rfl (w_i64e (r := z) (by omega) (by omega) (by omega))) ?_
  refine s_val (r_buildS Try.runUnderlying30 Try.zeroValue30 places30 (pc rfl (pc rfl pn)) (rfl : fillL _ _ _ = some (shC g z))) ?_
  refine s_val (r_buildS Try.runUnderlying32 Try.zeroValue32 places32 (pc rfl (pc rfl pn)) (rfl : fillL _ _ _ = some (rigC (some ⟨bp, 0, none⟩) none none none none g z))) ?_
  refine s_new (m_alloc (cs := (rigC none none none none none 0 0)) H Try.zeroValue32 rfl) ?_
  intro w b6 H
  refine s_st (m_storen H 0 7 Try.sizeOf32 rfl rfl (by first | exact (kC_length _) | exact (hC_length _) | exact (shC_length _ _) | exact (wC_length _) | exact (sdC_length _ _) | exact (xrL_length _ _ _) | exact (xrC_length _ _ _ _ _ _ _) | exact (rigC_length _ _ _ _ _ _ _) | exact (doC_length _)) (by first | exact (kC_one _) | exact (hC_one _) | exact (shC_one _ _) | exact (elW.one _) | exact (sdC_one _ _) | exact (xrL_one _ _ _) | exact (xrC_one _ _ _ _ _ _ _) | exact (rigC_one _ _ _ _ _ _ _) | exact (elDo.one _)) rfl (by first | exact (by rw [kC_length]; omega) | exact (by rw [hC_length]; omega) | exact (by rw [wC_length]; omega) | exact (by show _ ≤ 5; omega) | exact (by show _ ≤ 7; omega) | exact (by show _ ≤ 3; omega)) rigC_sp) (L' := (_ :: _ :: _)) rfl ?_
  intro w H
  refine c_nil (l' := [_, _, _, _, _, _, _, _, _, _, _, _, _, _, _, _, _, _, _, _, _, _, _, _, _, _, _, _, _, _, _, _, _, _, _, _, _, _, _, _, _, _, _, _, _, _, _, _, _, _, _, _, _, _, _, _, _, _, _, _, _, _, _]) rfl ?_
  refine c_seq ?_
  refine d_beginS (fun W => ∃ pa pb : Option Addr, St w0 [] W [(b6, .cells (rigC (some ⟨bp, 0, none⟩) pa pb none none g z).toArray 32 (0, 0))]) (sz := 63) ⟨rfl, rfl⟩ (by kernel_rfl) H ((by first | exact ⟨_, H.one 0 rfl⟩ | exact ⟨_, H.one 1 rfl⟩ | exact ⟨_, _, H.one 0 rfl⟩ | exact ⟨_, _, H.one 1 rfl⟩ | exact ⟨_, _, H.one 2 rfl⟩ | exact ⟨_, _, H.one 3 rfl⟩ | exact ⟨_, _, H.one 4 rfl⟩)) rfl ?_
  intro w H
  refine d_take (i := 0) rfl (by kernel_rfl) (fun _ _ _ h => h) ((by first | exact ⟨_, H.one 0 rfl⟩ | exact ⟨_, H.one 1 rfl⟩ | exact ⟨_, _, H.one 0 rfl⟩ | exact ⟨_, _, H.one 1 rfl⟩ | exact ⟨_, _, H.one 2 rfl⟩ | exact ⟨_, _, H.one 3 rfl⟩ | exact ⟨_, _, H.one 4 rfl⟩)) (fun _ _ => r_fieldAddr (k := 5) Try.runUnderlying32 rfl Try.sizeOf30 (by decide) rfl rfl) rfl ?_
  refine d_take (i := 1) rfl (by kernel_rfl) (fun _ _ _ h => h) ((by first | exact ⟨_, H.one 0 rfl⟩ | exact ⟨_, H.one 1 rfl⟩ | exact ⟨_, _, H.one 0 rfl⟩ | exact ⟨_, _, H.one 1 rfl⟩ | exact ⟨_, _, H.one 2 rfl⟩ | exact ⟨_, _, H.one 3 rfl⟩ | exact ⟨_, _, H.one 4 rfl⟩)) (fun _ HS => by obtain ⟨pa, pb, HS⟩ := HS; exact r_loadn Try.isAgg30 Try.sizeOf30 rfl (HS.at 0 rfl) (rigC_sh _ _ _ _ _ _ _) (by first | exact (kC_length _) | exact (hC_length _) | exact (shC_length _ _) | exact (wC_length _) | exact (sdC_length _ _) | exact (xrL_length _ _ _) | exact (xrC_length _ _ _ _ _ _ _) | exact (rigC_length _ _ _ _ _ _ _) | exact (doC_length _) | exact rfl)) rfl ?_
  refine d_take (i := 3) rfl (by kernel_rfl) (fun _ _ _ h => h) ((by first | exact ⟨_, H.one 0 rfl⟩ | exact ⟨_, H.one 1 rfl⟩ | exact ⟨_, _, H.one 0 rfl⟩ | exact ⟨_, _, H.one 1 rfl⟩ | exact ⟨_, _, H.one 2 rfl⟩ | exact ⟨_, _, H.one 3 rfl⟩ | exact ⟨_, _, H.one 4 rfl⟩)) (fun _ _ => r_fieldAddr (k := 0) Try.runUnderlying32 rfl Try.sizeOf25 (by decide) rfl rfl) rfl ?_
  refine d_take (i := 4) rfl (by kernel_rfl) (fun _ _ _ h => h) ((by first | exact ⟨_, H.one 0 rfl⟩ | exact ⟨_, H.one 1 rfl⟩ | exact ⟨_, _, H.one 0 rfl⟩ | exact ⟨_, _, H.one 1 rfl⟩ | exact ⟨_, _, H.one 2 rfl⟩ | exact ⟨_, _, H.one 3 rfl⟩ | exact ⟨_, _, H.one 4 rfl⟩)) (fun _ HS => by obtain ⟨pa, pb, HS⟩ := HS; exact r_load1 Try.isAgg25 rfl (HS.at 0 rfl) rfl) rfl ?_
  refine d_take (i := 6) rfl (by kernel_rfl) (fun _ _ _ h => h) ((by first | exact ⟨_, H.one 0 rfl⟩ | exact ⟨_, H.one 1 rfl⟩ | exact ⟨_, _, H.one 0 rfl⟩ | exact ⟨_, _, H.one 1 rfl⟩ | exact ⟨_, _, H.one 2 rfl⟩ | exact ⟨_, _, H.one 3 rfl⟩ | exact ⟨_, _, H.one 4 rfl⟩)) (fun _ _ => r_fieldAddr (k := 5) Try.runUnderlying32 rfl Try.sizeOf30 (by decide) rfl rfl) rfl ?_
  refine d_take (i := 7) rfl (by kernel_rfl) (fun _ _ _ h => h) ((by first | exact ⟨_, H.one 0 rfl⟩ | exact ⟨_, H.one 1 rfl⟩ | exact ⟨_, _, H.one 0 rfl⟩ | exact ⟨_, _, H.one 1 rfl⟩ | exact ⟨_, _, H.one 2 rfl⟩ | exact ⟨_, _, H.one 3 rfl⟩ | exact ⟨_, _, H.one 4 rfl⟩)) (fun _ HS => by obtain ⟨pa, pb, HS⟩ := HS; exact r_loadn Try.isAgg30 Try.sizeOf30 rfl (HS.at 0 rfl) (rigC_sh _ _ _ _ _ _ _) (by first | exact (kC_length _) | exact (hC_length _) | exact (shC_length _ _) | exact (wC_length _) | exact (sdC_length _ _) | exact (xrL_length _ _ _) | exact (xrC_length _ _ _ _ _ _ _) | exact (rigC_length _ _ _ _ _ _ _) | exact (doC_length _) | exact rfl)) rfl ?_
  refine d_take (i := 9) rfl (by kernel_rfl) (fun _ _ _ h => h) ((by first | exact ⟨_, H.one 0 rfl⟩ | exact ⟨_, H.one 1 rfl⟩ | exact ⟨_, _, H.one 0 rfl⟩ | exact ⟨_, _, H.one 1 rfl⟩ | exact ⟨_, _, H.one 2 rfl⟩ | exact ⟨_, _, H.one 3 rfl⟩ | exact ⟨_, _, H.one 4 rfl⟩)) (fun _ _ => r_fieldAddr (k := 0) Try.runUnderlying32 rfl Try.sizeOf25 (by decide) rfl rfl) rfl ?_
  refine d_take (i := 10) rfl (by kernel_rfl) (fun _ _ _ h => h) ((by first | exact ⟨_, H.one 0 rfl⟩ | exact ⟨_, H.one 1 rfl⟩ | exact ⟨_, _, H.one 0 rfl⟩ | exact ⟨_, _, H.one 1 rfl⟩ | exact ⟨_, _, H.one 2 rfl⟩ | exact ⟨_, _, H.one 3 rfl⟩ | exact ⟨_, _, H.one 4 rfl⟩)) (fun _ HS => by obtain ⟨pa, pb, HS⟩ := HS; exact r_load1 Try.isAgg25 rfl (HS.at 0 rfl) rfl) rfl ?_
  refine d_all1 (i := 2) (by kernel_rfl) ?_
  refine b_call rfl go_none (r_call Try.call18 (ec rfl en)) (sectors_spec g z hg0 hg1 hz0 hz1 _) rfl ?_
  rintro v w ⟨rfl, HC⟩
  replace H := H.quiet HC
  rw [← hm]
  refine ⟨((by first | exact ⟨_, H.one 0 rfl⟩ | exact ⟨_, H.one 1 rfl⟩ | exact ⟨_, _, H.one 0 rfl⟩ | exact ⟨_, _, H.one 1 rfl⟩ | exact ⟨_, _, H.one 2 rfl⟩ | exact ⟨_, _, H.one 3 rfl⟩ | exact ⟨_, _, H.one 4 rfl⟩)), ?_⟩
  refine d_all1 (i := 5) (by kernel_rfl) ?_
  refine b_call rfl go_none (r_call Try.call28 (ec rfl (ec rfl en))) (newdev_spec m (by omega) bp [] Np (by decide) _ hNp (H.ownsM (.cons _ (.cons _ (List.Sublist.refl _))))) rfl ?_
  rintro v w ⟨ba, Na, Np2, fs2, rfl, hA, hl2, hNp2, HC⟩
  replace H : St w0 [] w (_ :: _ :: (Na ++ Np2)) := St.callr (L := [_, _]) H HC
  refine ⟨((by first | exact ⟨_, H.one 0 rfl⟩ | exact ⟨_, H.one 1 rfl⟩ | exact ⟨_, _, H.one 0 rfl⟩ | exact ⟨_, _, H.one 1 rfl⟩ | exact ⟨_, _, H.one 2 rfl⟩ | exact ⟨_, _, H.one 3 rfl⟩ | exact ⟨_, _, H.one 4 rfl⟩)), ?_⟩
  refine d_take (i := 12) rfl (by kernel_rfl) (fun _ _ _ h => h) ((by first | exact ⟨_, H.one 0 rfl⟩ | exact ⟨_, H.one 1 rfl⟩ | exact ⟨_, _, H.one 0 rfl⟩ | exact ⟨_, _, H.one 1 rfl⟩ | exact ⟨_, _, H.one 2 rfl⟩ | exact ⟨_, _, H.one 3 rfl⟩ | exact ⟨_, _, H.one 4 rfl⟩)) (fun _ _ => r_fieldAddr (k := 1) Try.runUnderlying32 rfl Try.sizeOf26 (by decide) rfl rfl) rfl ?_
  refine d_all1 (i := 8) (by kernel_rfl) ?_
  refine b_call rfl go_none (r_call Try.call18 (ec rfl en)) (sectors_spec g z hg0 hg1 hz0 hz1 _) rfl ?_
  rintro v w ⟨rfl, HC⟩
  replace H := H.quiet HC
  rw [← hm]
  refine ⟨((by first | exact ⟨_, H.one 0 rfl⟩ | exact ⟨_, H.one 1 rfl⟩ | exact ⟨_, _, H.one 0 rfl⟩ | exact ⟨_, _, H.one 1 rfl⟩ | exact ⟨_, _, H.one 2 rfl⟩ | exact ⟨_, _, H.one 3 rfl⟩ | exact ⟨_, _, H.one 4 rfl⟩)), ?_⟩
  refine d_all1 (i := 11) (by kernel_rfl) ?_
  refine b_call rfl go_none (r_call Try.call28 (ec rfl (ec rfl en))) (newdev_spec m (by omega) bp fs2 Np2 (by rw [hl2]; decide) _ hNp2 (H.ownsM (.cons _ (.cons _ (List.sublist_append_right _ _))))) rfl ?_
  rintro v w ⟨bb, Nb, Np3, fs3, rfl, hB, hl3, hNp3, HC⟩
  replace H : St w0 [] w (_ :: _ :: (Na ++ (Nb ++ Np3))) := (St.callr (L := _ :: _ :: Na) H HC)
  refine ⟨((by first | exact ⟨_, H.one 0 rfl⟩ | exact ⟨_, H.one 1 rfl⟩ | exact ⟨_, _, H.one 0 rfl⟩ | exact ⟨_, _, H.one 1 rfl⟩ | exact ⟨_, _, H.one 2 rfl⟩ | exact ⟨_, _, H.one 3 rfl⟩ | exact ⟨_, _, H.one 4 rfl⟩)), ?_⟩
  refine d_all1 (i := 13) (by kernel_rfl) ?_
  refine b_st rfl go_none (m_store1 H 0 Try.sizeOf26 rfl rfl rfl rfl (by show 1 < 7; omega) (rfl : _ = rigC (some ⟨bp, 0, none⟩) (some ⟨ba, 0, none⟩) none none none g z)) (L' := (_ :: _ :: _)) rfl rfl (fun _ H => ((by first | exact ⟨_, H.one 0 rfl⟩ | exact ⟨_, H.one 1 rfl⟩ | exact ⟨_, _, H.one 0 rfl⟩ | exact ⟨_, _, H.one 1 rfl⟩ | exact ⟨_, _, H.one 2 rfl⟩ | exact ⟨_, _, H.one 3 rfl⟩ | exact ⟨_, _, H.one 4 rfl⟩))) ?_
  intro w H
  refine d_take (i := 14) rfl (by kernel_rfl) (fun _ _ _ h => h) ((by first | exact ⟨_, H.one 0 rfl⟩ | exact ⟨_, H.one 1 rfl⟩ | exact ⟨_, _, H.one 0 rfl⟩ | exact ⟨_, _, H.one 1 rfl⟩ | exact ⟨_, _, H.one 2 rfl⟩ | exact ⟨_, _, H.one 3 rfl⟩ | exact ⟨_, _, H.one 4 rfl⟩)) (fun _ _ => r_fieldAddr (k := 2) Try.runUnderlying32 rfl Try.sizeOf26 (by decide) rfl rfl) rfl ?_
  refine d_all1 (i := 15) (by kernel_rfl) ?_
  refine b_st rfl go_none (m_store1 H 0 Try.sizeOf26 rfl rfl rfl rfl (by show 2 < 7; omega) (rfl : _ = rigC (some ⟨bp, 0, none⟩) (some ⟨ba, 0, none⟩) (some ⟨bb, 0, none⟩) none none g z)) (L' := (_ :: _ :: _)) rfl rfl (fun _ H => ((by first | exact ⟨_, H.one 0 rfl⟩ | exact ⟨_, H.one 1 rfl⟩ | exact ⟨_, _, H.one 0 rfl⟩ | exact ⟨_, _, H.one 1 rfl⟩ | exact ⟨_, _, H.one 2 rfl⟩ | exact ⟨_, _, H.one 3 rfl⟩ | exact ⟨_, _, H.one 4 rfl⟩))) ?_
  intro w H
  refine d_done (l' := [_, _, _, _, _, _, _, _, _, _, _, _, _, _, _, _, _, _, _, _, _, _, _, _, _, _, _, _, _, _, _, _, _, _, _, _, _, _, _, _, _, _, _, _, _, _, _, _, _, _, _, _, _, _, _, _, _, _, _, _, _, _, _]) (by kernel_rfl) rfl ?_
  refine x_thenNormal ?_
  refine c_seq ?_
  refine d_beginS (fun W => ∃ pm : Option Addr, St w0 [] W [(b6, .cells (rigC (some ⟨bp, 0, none⟩) (some ⟨ba, 0, none⟩) (some ⟨bb, 0, none⟩) pm none g z).toArray 32 (0, 0))]) (sz := 63) ⟨rfl, rfl⟩ (by kernel_rfl) H ((by first | exact ⟨_, H.one 0 rfl⟩ | exact ⟨_, H.one 1 rfl⟩ | exact ⟨_, _, H.one 0 rfl⟩ | exact ⟨_, _, H.one 1 rfl⟩ | exact ⟨_, _, H.one 2 rfl⟩ | exact ⟨_, _, H.one 3 rfl⟩ | exact ⟨_, _, H.one 4 rfl⟩)) rfl ?_
  intro w H
  obtain ⟨lf, ac, cc, Tp, Nc, rfl, hNc⟩ := hNp3
  replace H : St w0 [] w (_ :: _ :: (bp, .cells (pC lf ac fs3.length cc).toArray Tp (0, 0)) :: (Na ++ Nb)) := H.trMade
  refine d_take (i := 0) rfl (by kernel_rfl) (fun _ _ _ h => h) ((by first | exact ⟨_, H.one 0 rfl⟩ | exact ⟨_, H.one 1 rfl⟩ | exact ⟨_, _, H.one 0 rfl⟩ | exact ⟨_, _, H.one 1 rfl⟩ | exact ⟨_, _, H.one 2 rfl⟩ | exact ⟨_, _, H.one 3 rfl⟩ | exact ⟨_, _, H.one 4 rfl⟩)) (fun _ _ => r_fieldAddr (k := 1) Try.runUnderlying32 rfl Try.sizeOf26 (by decide) rfl rfl) rfl ?_
  refine d_take (i := 1) rfl (by kernel_rfl) (fun _ _ _ h => h) ((by first | exact ⟨_, H.one 0 rfl⟩ | exact ⟨_, H.one 1 rfl⟩ | exact ⟨_, _, H.one 0 rfl⟩ | exact ⟨_, _, H.one 1 rfl⟩ | exact ⟨_, _, H.one 2 rfl⟩ | exact ⟨_, _, H.one 3 rfl⟩ | exact ⟨_, _, H.one 4 rfl⟩)) (fun _ HS => by obtain ⟨pm, HS⟩ := HS; exact r_load1 Try.isAgg26 rfl (HS.at 0 rfl) rfl) rfl ?_
  refine d_take (i := 2) rfl (by kernel_rfl) (fun _ _ _ h => h) ((by first | exact ⟨_, H.one 0 rfl⟩ | exact ⟨_, H.one 1 rfl⟩ | exact ⟨_, _, H.one 0 rfl⟩ | exact ⟨_, _, H.one 1 rfl⟩ | exact ⟨_, _, H.one 2 rfl⟩ | exact ⟨_, _, H.one 3 rfl⟩ | exact ⟨_, _, H.one 4 rfl⟩)) (fun _ _ => r_fieldAddr (k := 2) Try.runUnderlying32 rfl Try.sizeOf26 (by decide) rfl rfl) rfl ?_
  refine d_take (i := 3) rfl (by kernel_rfl) (fun _ _ _ h => h) ((by first | exact ⟨_, H.one 0 rfl⟩ | exact ⟨_, H.one 1 rfl⟩ | exact ⟨_, _, H.one 0 rfl⟩ | exact ⟨_, _, H.one 1 rfl⟩ | exact ⟨_, _, H.one 2 rfl⟩ | exact ⟨_, _, H.one 3 rfl⟩ | exact ⟨_, _, H.one 4 rfl⟩)) (fun _ HS => by obtain ⟨pm, HS⟩ := HS; exact r_load1 Try.isAgg26 rfl (HS.at 0 rfl) rfl) rfl ?_
  refine d_take (i := 4) rfl (by kernel_rfl) (fun _ _ _ h => h) ((by first | exact ⟨_, H.one 0 rfl⟩ | exact ⟨_, H.one 1 rfl⟩ | exact ⟨_, _, H.one 0 rfl⟩ | exact ⟨_, _, H.one 1 rfl⟩ | exact ⟨_, _, H.one 2 rfl⟩ | exact ⟨_, _, H.one 3 rfl⟩ | exact ⟨_, _, H.one 4 rfl⟩)) (fun _ _ => r_buildS (zs := litZ) (out := litZ) Try.runUnderlying72 Try.zeroValue72 places72 pn rfl) rfl ?_
  refine d_take (i := 5) rfl (by kernel_rfl) (fun _ _ _ h => h) ((by first | exact ⟨_, H.one 0 rfl⟩ | exact ⟨_, H.one 1 rfl⟩ | exact ⟨_, _, H.one 0 rfl⟩ | exact ⟨_, _, H.one 1 rfl⟩ | exact ⟨_, _, H.one 2 rfl⟩ | exact ⟨_, _, H.one 3 rfl⟩ | exact ⟨_, _, H.one 4 rfl⟩)) (fun _ _ => r_makeIface Try.runUnderlying72 (fun _ h => nomatch h) rfl) rfl ?_
  refine d_all1 (i := 6) (by kernel_rfl) ?_
  refine b_call rfl go_none (r_call Try.call23 (ec rfl en)) (good_spec litZ _) rfl ?_
  rintro v w ⟨bg, rfl, HC⟩
  replace H := H.call0 HC
  refine ⟨((by first | exact ⟨_, H.one 0 rfl⟩ | exact ⟨_, H.one 1 rfl⟩ | exact ⟨_, _, H.one 0 rfl⟩ | exact ⟨_, _, H.one 1 rfl⟩ | exact ⟨_, _, H.one 2 rfl⟩ | exact ⟨_, _, H.one 3 rfl⟩ | exact ⟨_, _, H.one 4 rfl⟩)), ?_⟩
  refine d_all1 (i := 7) (by kernel_rfl) ?_
  refine b_call rfl go_none (r_call Try.call22 (ec rfl (ec rfl (ec rfl en)))) (newmir_spec ba bb bg (List.replicate m zS) (by rw [List.length_replicate]; omega) _ (hA.rdM (by omega) H (List.mem_cons_of_mem _ (List.mem_cons_of_mem _ (List.mem_cons_of_mem _ List.mem_cons_self))) (fun p hp => (List.mem_cons_of_mem _ (List.mem_cons_of_mem _ (List.mem_cons_of_mem _ (List.mem_cons_of_mem _ (List.mem_append_left _ hp))))))) (hB.rdM (by omega) H (List.mem_cons_of_mem _ (List.mem_cons_of_mem _ (List.mem_cons_of_mem _ List.mem_cons_self))) (fun p hp => (List.mem_cons_of_mem _ (List.mem_cons_of_mem _ (List.mem_cons_of_mem _ (List.mem_cons_of_mem _ (List.mem_append_right _ hp)))))))) rfl ?_
  rintro v w ⟨bm, ma, mb, rfl, HC⟩
  replace H := (H.call0 HC).trMir
  refine ⟨((by first | exact ⟨_, H.one 0 rfl⟩ | exact ⟨_, H.one 1 rfl⟩ | exact ⟨_, _, H.one 0 rfl⟩ | exact ⟨_, _, H.one 1 rfl⟩ | exact ⟨_, _, H.one 2 rfl⟩ | exact ⟨_, _, H.one 3 rfl⟩ | exact ⟨_, _, H.one 4 rfl⟩)), ?_⟩
  refine d_take (i := 8) rfl (by kernel_rfl) (fun _ _ _ h => h) ((by first | exact ⟨_, H.one 0 rfl⟩ | exact ⟨_, H.one 1 rfl⟩ | exact ⟨_, _, H.one 0 rfl⟩ | exact ⟨_, _, H.one 1 rfl⟩ | exact ⟨_, _, H.one 2 rfl⟩ | exact ⟨_, _, H.one 3 rfl⟩ | exact ⟨_, _, H.one 4 rfl⟩)) (fun _ _ => r_fieldAddr (k := 3) Try.runUnderlying32 rfl Try.sizeOf27 (by decide) rfl rfl) rfl ?_
  refine d_all1 (i := 9) (by kernel_rfl) ?_
  refine b_st rfl go_none (m_store1 H 0 Try.sizeOf27 rfl rfl rfl rfl (by show 3 < 7; omega) (rfl : _ = rigC (some ⟨bp, 0, none⟩) (some ⟨ba, 0, none⟩) (some ⟨bb, 0, none⟩) (some ⟨bm, 0, none⟩) none g z)) (L' := (_ :: _ :: _ :: _ :: _ :: _ :: _ :: _)) rfl rfl (fun _ H => ((by first | exact ⟨_, H.one 0 rfl⟩ | exact ⟨_, H.one 1 rfl⟩ | exact ⟨_, _, H.one 0 rfl⟩ | exact ⟨_, _, H.one 1 rfl⟩ | exact ⟨_, _, H.one 2 rfl⟩ | exact ⟨_, _, H.one 3 rfl⟩ | exact ⟨_, _, H.one 4 rfl⟩))) ?_
  intro w H
  refine d_done (l' := [_, _, _, _, _, _, _, _, _, _, _, _, _, _, _, _, _, _, _, _, _, _, _, _, _, _, _, _, _, _, _, _, _, _, _, _, _, _, _, _, _, _, _, _, _, _, _, _, _, _, _, _, _, _, _, _, _, _, _, _, _, _, _]) (by kernel_rfl) rfl ?_
  refine x_thenNormal ?_
  refine c_rseq (n := 63) ⟨rfl, rfl⟩ ?_
  have hM : MirN 150 51 89 72 bm (List.replicate m zS) 0 (_ :: _ :: _ :: _ :: _ :: (Na ++ Nb)) := ⟨ba, ma, bb, mb, bg, litZ, bp, lf, ac, fs3.length, cc, 119, Tp, Na, Nb, rfl, hA, hB, by rw [List.length_replicate]; omega⟩
  refine s_val (r_fieldAddr (k := 3) Try.runUnderlying32 rfl Try.sizeOf27 (by decide) rfl rfl) ?_
  refine s_val (r_load1 Try.isAgg27 rfl (H.at 0 rfl) rfl) ?_
  refine s_val (r_buildS (zs := litZ) (out := litZ) Try.runUnderlying72 Try.zeroValue72 places72 pn rfl) ?_
  refine s_val (r_makeIface Try.runUnderlying72 (fun _ h => nomatch h) rfl) ?_
  refine s_val (r_fieldAddr (k := 5) Try.runUnderlying32 rfl Try.sizeOf30 (by decide) rfl rfl) ?_
  refine s_val (r_loadn Try.isAgg30 Try.sizeOf30 rfl (H.at 0 rfl) (rigC_sh _ _ _ _ _ _ _) (by first | exact (kC_length _) | exact (hC_length _) | exact (shC_length _ _) | exact (wC_length _) | exact (sdC_length _ _) | exact (xrL_length _ _ _) | exact (xrC_length _ _ _ _ _ _ _) | exact (rigC_length _ _ _ _ _ _ _) | exact (doC_length _) | exact rfl)) ?_
  refine s_call (r_call Try.call30 (ec rfl (ec rfl (ec rfl en)))) (newlog_spec bm (List.replicate m zS) litZ g z hg0 hg1 hz0 hz1 (by rw [List.length_replicate]; exact hm) _ (hM.rdM (by omega) H (fun p hp => List.mem_cons_of_mem _ (List.mem_cons_of_mem _ hp)))) ?_
  rintro v w ⟨bl, bu, rfl, HC⟩
  replace H := H.call0 HC
  refine s_val (r_move rfl) ?_
  refine s_val (r_extract rfl rfl) ?_
  refine s_val (r_extract rfl rfl) ?_
  refine s_val (r_assign rfl) ?_
  refine s_val (r_assign rfl) ?_
  refine c_nil (l' := [_, _, _, _, _, _, _, _, _, _, _, _, _, _, _, _, _, _, _, _, _, _, _, _, _, _, _, _, _, _, _, _, _, _, _, _, _, _, _, _, _, _, _, _, _, _, _, _, _, _, _, _, _, _, _, _, _, _, _, _, _, _, _]) rfl ?_
  refine c_rseq (n := 63) ⟨rfl, rfl⟩ ?_
  refine s_val (r_move rfl) ?_
  refine s_val (r_fieldAddr (k := 4) Try.runUnderlying32 rfl Try.sizeOf28 (by decide) rfl rfl) ?_
  refine s_st (m_store1 H 2 Try.sizeOf28 rfl rfl rfl rfl (by show 4 < 7; omega) (rfl : _ = rigC (some ⟨bp, 0, none⟩) (some ⟨ba, 0, none⟩) (some ⟨bb, 0, none⟩) (some ⟨bm, 0, none⟩) (some ⟨bl, 0, none⟩) g z)) (L' := (_ :: _ :: _ :: _ :: _ :: _ :: _ :: _ :: _ :: _)) rfl ?_
  intro w H
  refine c_nil (l' := [_, _, _, _, _, _, _, _, _, _, _, _, _, _, _, _, _, _, _, _, _, _, _, _, _, _, _, _, _, _, _, _, _, _, _, _, _, _, _, _, _, _, _, _, _, _, _, _, _, _, _, _, _, _, _, _, _, _, _, _, _, _, _]) rfl ?_
  refine c_seq ?_
  refine c_rseq (n := 63) ⟨rfl, rfl⟩ ?_
  refine s_val (r_move rfl) ?_
  refine s_val (r_neq rfl rfl) ?_
  refine s_val (r_move rfl) ?_
  refine g_yes rfl rfl ?_
  refine s_val (r_move rfl) ?_
  refine g_yes rfl rfl ?_
  refine s_val (r_nilpF Try.runUnderlying28 rfl rfl) ?_
  refine s_val (r_pickf rfl rfl) ?_
  refine c_nil (l' := [_, _, _, _, _, _, _, _, _, _, _, _, _, _, _, _, _, _, _, _, _, _, _, _, _, _, _, _, _, _, _, _, _, _, _, _, _, _, _, _, _, _, _, _, _, _, _, _, _, _, _, _, _, _, _, _, _, _, _, _, _, _, _]) rfl ?_
  refine c_iff rfl ?_
  refine wp_skip ?_
  refine x_thenNormal ?_
  refine c_rseq (n := 63) ⟨rfl, rfl⟩ ?_
  refine s_val (r_loadn Try.isAgg32 Try.sizeOf32 rfl (H.at 2 rfl) (by first | exact (kC_td _) | exact (hC_td _) | exact (hC_seed _) | exact (shC_td _ _) | exact (sdC_td _ _) | exact (xrL_td _ _ _) | exact (xrC_td _ _ _ _ _ _ _) | exact (rigC_td _ _ _ _ _ _ _) | exact (doC_td _)) (by first | exact (kC_length _) | exact (hC_length _) | exact (shC_length _ _) | exact (wC_length _) | exact (sdC_length _ _) | exact (xrL_length _ _ _) | exact (xrC_length _ _ _ _ _ _ _) | exact (rigC_length _ _ _ _ _ _ _) | exact (doC_length _) | exact rfl)) ?_
  refine s_st (m_storen H 3 7 Try.sizeOf32 rfl rfl (by first | exact (kC_length _) | exact (hC_length _) | exact (shC_length _ _) | exact (wC_length _) | exact (sdC_length _ _) | exact (xrL_length _ _ _) | exact (xrC_length _ _ _ _ _ _ _) | exact (rigC_length _ _ _ _ _ _ _) | exact (doC_length _)) (by first | exact (kC_one _) | exact (hC_one _) | exact (shC_one _ _) | exact (elW.one _) | exact (sdC_one _ _) | exact (xrL_one _ _ _) | exact (xrC_one _ _ _ _ _ _ _) | exact (rigC_one _ _ _ _ _ _ _) | exact (elDo.one _)) rfl (by first | exact (by rw [kC_length]; omega) | exact (by rw [hC_length]; omega) | exact (by rw [wC_length]; omega) | exact (by show _ ≤ 5; omega) | exact (by show _ ≤ 7; omega) | exact (by show _ ≤ 3; omega)) rigC_sp) (L' := (_ :: _ :: _ :: _ :: _ :: _ :: _ :: _ :: _ :: _)) rfl ?_
  intro w H
  refine s_val (r_assign rfl) ?_
  refine c_nil (l' := [_, _, _, _, _, _, _, _, _, _, _, _, _, _, _, _, _, _, _, _, _, _, _, _, _, _, _, _, _, _, _, _, _, _, _, _, _, _, _, _, _, _, _, _, _, _, _, _, _, _, _, _, _, _, _, _, _, _, _, _, _, _, _]) rfl ?_
  refine wp_ret ?_
  refine e_ret (rc_two rfl (rc_celln Try.isAgg32 Try.sizeOf32 rfl (H.at 3 rfl) (by first | exact (kC_td _) | exact (hC_td _) | exact (hC_seed _) | exact (shC_td _ _) | exact (sdC_td _ _) | exact (xrL_td _ _ _) | exact (xrC_td _ _ _ _ _ _ _) | exact (rigC_td _ _ _ _ _ _ _) | exact (doC_td _)) (by first | exact (kC_length _) | exact (hC_length _) | exact (shC_length _ _) | exact (wC_length _) | exact (sdC_length _ _) | exact (xrL_length _ _ _) | exact (xrC_length _ _ _ _ _ _ _) | exact (rigC_length _ _ _ _ _ _ _) | exact (doC_length _))) (rc_tmp rfl)) ⟨_, rfl, ?_⟩
  have hF := newL_F hg0 hg1 hz0 hz1
  have hgl : (newL g z).gens.length = g.toNat := List.length_replicate
  have hC : (newL g z).C = List.replicate m zS := by show List.replicate (2 + g * z).toNat zS = _; rw [show (2 + g * z).toNat = m by omega]
  refine ⟨bl, _, _, _, _, _, rfl, ?_, H.sub (.cons_cons _ (.cons_cons _ (.cons _ (.cons _ (List.Sublist.refl _)))))⟩
  exact ⟨bm, litZ, bu, _, _, _, by rw [hgl]; rfl, by rw [hC]; exact hM, hF⟩

end Go.Proofs.Ytbjalofmamoffaa
