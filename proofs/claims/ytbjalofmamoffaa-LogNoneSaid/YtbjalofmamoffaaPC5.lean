import Derived.Test.YtbjalofmamoffaaPC3
import Derived.Test.YtbjalofmamoffaaPV2
import Derived.Test.YtbjalofmamoffaaPV1
namespace Go.Proofs.Ytbjalofmamoffaa
open Go Go.Er
set_option linter.unusedSimpArgs false in
theorem places32 : Places Try.prog #[⟨ "P", 25, 0, false, "", "", 0⟩, ⟨ "A", 26, 1, false, "", "", 8⟩, ⟨ "B", 26, 2, false, "", "", 16⟩, ⟨ "M", 27, 3, false, "", "", 24⟩, ⟨ "L", 28, 4, false, "", "", 32⟩, ⟨ "S", 30, 5, false, "", "", 40⟩] [(0, 1), (1, 1), (2, 1), (3, 1), (4, 1), (5, 2)] := fun w => by simp [Try.sizeOf25 w, Try.sizeOf26 w, Try.sizeOf27 w, Try.sizeOf28 w, Try.sizeOf30 w]
set_option linter.unusedSimpArgs false in
theorem places72 : Places Try.prog #[⟨ "At", 69, 0, false, "", "", 0⟩, ⟨ "N", 36, 32, false, "", "", 32⟩, ⟨ "Off", 70, 33, false, "", "", 40⟩] [(0, 32), (32, 1), (33, 32)] := fun w => by simp [Try.sizeOf36 w, Try.sizeOf69 w, Try.sizeOf70 w]

set_option maxHeartbeats 4000000 in
theorem made_spec (sg sz : Int) (hs0 : 0 ≤ sg) (hs1 : sg < 256) (ht0 : 0 ≤ sz) (ht1 : sz < 256) (w0 : World) :
    Calls Try.prog 10 #[.int .u8 sg, .int .u8 sz] w0 fun e w => ∃ v, e = .returned v ∧ (∃ bl ba bb N pp pm, v = .tuple #[.agg (rigC pp (some ⟨ba, 0, none⟩) (some ⟨bb, 0, none⟩) pm (some ⟨bl, 0, none⟩) (3 + sg % 4) (1 + sz % 4)).toArray, .int .i64 1] ∧ LogN 150 51 89 72 ba bb bl (newL (3 + sg % 4) (1 + sz % 4)) 0 N ∧ St w0 [] w N) := by
  obtain ⟨g, hg⟩ : ∃ g, g = 3 + sg % 4 := ⟨_, rfl⟩
  obtain ⟨z, hz⟩ : ∃ z, z = 1 + sz % 4 := ⟨_, rfl⟩
  rw [← hg, ← hz]
  have hg0 : 3 ≤ g := by omega
  have hg1 : g ≤ 64 := by omega
  have hz0 : 1 ≤ z := by omega
  have hz1 : z ≤ 32 := by omega
  have hgz := gz_rng (g := g) (z := z) (by omega) hg1 (by omega) hz1
  obtain ⟨m, hm⟩ : ∃ m : Nat, (m : Int) = 2 + g * z := ⟨(2 + g * z).toNat, by omega⟩
  have H := St.refl w0
  refine c_enter (args := [.int .u8 sg, .int .u8 sz]) (l := [.int .u8 sg, .int .u8 sz, undef, undef, undef, undef, undef, undef, undef, undef, undef, undef, undef, undef, undef, undef, undef, undef, undef, undef, undef, undef, undef, undef, undef, undef, undef, undef, undef, undef, undef, undef, undef, undef, undef, undef, undef, undef, undef, undef, undef, undef, undef, undef, undef, undef, undef, undef, undef, undef, undef, undef, undef, undef, undef, undef, undef, undef, undef, undef, undef, undef, undef]) Try.func10 Try.ntmps10 rfl rfl ?_
  refine c_rseq (n := 63) ⟨rfl, rfl⟩ ?_
  refine s_new (m_alloc (cs := (rigC none none none none none 0 0)) H Try.zeroValue32 rfl) ?_
  intro w b4 H
  refine s_val (r_assign rfl) ?_
  refine c_nil (l' := [_,_,_,_,_,_,_,_,_,_,_,_,_,_,_,_,_,_,_,_,_,_,_,_,_,_,_,_,_,_,_,_,_,_,_,_,_,_,_,_,_,_,_,_,_,_,_,_,_,_,_,_,_,_,_,_,_,_,_,_,_,_,_]) rfl ?_
  refine c_rseq (n := 63) ⟨rfl, rfl⟩ ?_
  refine s_call (r_call Try.call27 en) (newpower_spec _) ?_
  rintro v w ⟨bp, Np, rfl, hNp, HC⟩
  replace H : St w0 [] w (_ :: Np) := (H.call0 HC).perm (List.perm_append_comm (l₁ := [_]))
  refine s_val (r_move rfl) ?_
  refine s_val (r_conv Try.runUnderlying5 Try.runUnderlying3 rfl (w_i64 (by omega) (by omega))) ?_
  refine s_val (r_rem rfl rfl (by omega) (Int.tmod_eq_emod_of_nonneg (by omega))) ?_
  refine s_val (r_add rfl rfl (w_i64e (r := g) (by omega) (by omega) (by omega))) ?_
  refine s_val (r_move rfl) ?_
  refine s_val (r_conv Try.runUnderlying5 Try.runUnderlying3 rfl (w_i64 (by omega) (by omega))) ?_
  refine s_val (r_rem rfl rfl (by omega) (Int.tmod_eq_emod_of_nonneg (by omega))) ?_
  refine s_val (r_add rfl rfl (w_i64e (r := z) (by omega) (by omega) (by omega))) ?_
  refine s_val (r_buildS Try.runUnderlying30 Try.zeroValue30 places30 (pc rfl (pc rfl pn)) (rfl : fillL _ _ _ = some (shC g z))) ?_
  refine s_val (r_buildS Try.runUnderlying32 Try.zeroValue32 places32 (pc rfl (pc rfl pn)) (rfl : fillL _ _ _ = some (rigC (some ⟨bp, 0, none⟩) none none none none g z))) ?_
  refine s_new (m_alloc (cs := (rigC none none none none none 0 0)) H Try.zeroValue32 rfl) ?_
  intro w b6 H
  refine s_st (m_storen H 0 7 Try.sizeOf32 rfl rfl (by first | exact (kC_length _) | exact (hC_length _) | exact (shC_length _ _) | exact (wC_length _) | exact (sdC_length _ _) | exact (xrL_length _ _ _) | exact (xrC_length _ _ _ _ _ _ _) | exact (rigC_length _ _ _ _ _ _ _) | exact (doC_length _)) (by first | exact (kC_one _) | exact (hC_one _) | exact (shC_one _ _) | exact (elW.one _) | exact (sdC_one _ _) | exact (xrL_one _ _ _) | exact (xrC_one _ _ _ _ _ _ _) | exact (rigC_one _ _ _ _ _ _ _) | exact (elDo.one _)) rfl (by first | exact (by rw [kC_length]; omega) | exact (by rw [hC_length]; omega) | exact (by rw [wC_length]; omega) | exact (by show _ ≤ 5; omega) | exact (by show _ ≤ 7; omega) | exact (by show _ ≤ 3; omega)) rigC_sp) (L' := (_ :: _ :: _)) rfl ?_
  intro w H
  refine c_nil (l' := [_,_,_,_,_,_,_,_,_,_,_,_,_,_,_,_,_,_,_,_,_,_,_,_,_,_,_,_,_,_,_,_,_,_,_,_,_,_,_,_,_,_,_,_,_,_,_,_,_,_,_,_,_,_,_,_,_,_,_,_,_,_,_]) rfl ?_
  refine c_seq ?_
  refine d_beginS (fun W => ∃ pa pb : Option Addr, St w0 [] W [(b6, .cells (rigC (some ⟨bp, 0, none⟩) pa pb none none g z).toArray 32 (0, 0))]) (sz := 63) ⟨rfl, rfl⟩ (by kernel_rfl) H ((by first | exact ⟨_, H.one 0 rfl⟩ | exact ⟨_, H.one 1 rfl⟩ | exact ⟨_,_, H.one 0 rfl⟩ | exact ⟨_,_, H.one 1 rfl⟩ | exact ⟨_,_, H.one 2 rfl⟩ | exact ⟨_,_, H.one 3 rfl⟩ | exact ⟨_,_, H.one 4 rfl⟩)) rfl ?_
  intro w H
  refine d_take (i := 0) rfl (by kernel_rfl) (fun _ _ _ h => h) ((by first | exact ⟨_, H.one 0 rfl⟩ | exact ⟨_, H.one 1 rfl⟩ | exact ⟨_,_, H.one 0 rfl⟩ | exact ⟨_,_, H.one 1 rfl⟩ | exact ⟨_,_, H.one 2 rfl⟩ | exact ⟨_,_, H.one 3 rfl⟩ | exact ⟨_,_, H.one 4 rfl⟩)) (fun _ _ => r_fieldAddr (k := 5) Try.runUnderlying32 rfl Try.sizeOf30 (by decide) rfl rfl) rfl ?_
  refine d_take (i := 1) rfl (by kernel_rfl) (fun _ _ _ h => h) ((by first | exact ⟨_, H.one 0 rfl⟩ | exact ⟨_, H.one 1 rfl⟩ | exact ⟨_,_, H.one 0 rfl⟩ | exact ⟨_,_, H.one 1 rfl⟩ | exact ⟨_,_, H.one 2 rfl⟩ | exact ⟨_,_, H.one 3 rfl⟩ | exact ⟨_,_, H.one 4 rfl⟩)) (fun _ HS => by obtain ⟨pa, pb, HS⟩ := HS; exact r_loadn Try.isAgg30 Try.sizeOf30 rfl (HS.at 0 rfl) (rigC_sh _ _ _ _ _ _ _) (by first | exact (kC_length _) | exact (hC_length _) | exact (shC_length _ _) | exact (wC_length _) | exact (sdC_length _ _) | exact (xrL_length _ _ _) | exact (xrC_length _ _ _ _ _ _ _) | exact (rigC_length _ _ _ _ _ _ _) | exact (doC_length _) | exact rfl)) rfl ?_
  refine d_take (i := 3) rfl (by kernel_rfl) (fun _ _ _ h => h) ((by first | exact ⟨_, H.one 0 rfl⟩ | exact ⟨_, H.one 1 rfl⟩ | exact ⟨_,_, H.one 0 rfl⟩ | exact ⟨_,_, H.one 1 rfl⟩ | exact ⟨_,_, H.one 2 rfl⟩ | exact ⟨_,_, H.one 3 rfl⟩ | exact ⟨_,_, H.one 4 rfl⟩)) (fun _ _ => r_fieldAddr (k := 0) Try.runUnderlying32 rfl Try.sizeOf25 (by decide) rfl rfl) rfl ?_
  refine d_take (i := 4) rfl (by kernel_rfl) (fun _ _ _ h => h) ((by first | exact ⟨_, H.one 0 rfl⟩ | exact ⟨_, H.one 1 rfl⟩ | exact ⟨_,_, H.one 0 rfl⟩ | exact ⟨_,_, H.one 1 rfl⟩ | exact ⟨_,_, H.one 2 rfl⟩ | exact ⟨_,_, H.one 3 rfl⟩ | exact ⟨_,_, H.one 4 rfl⟩)) (fun _ HS => by obtain ⟨pa, pb, HS⟩ := HS; exact r_load1 Try.isAgg25 rfl (HS.at 0 rfl) rfl) rfl ?_
  refine d_take (i := 6) rfl (by kernel_rfl) (fun _ _ _ h => h) ((by first | exact ⟨_, H.one 0 rfl⟩ | exact ⟨_, H.one 1 rfl⟩ | exact ⟨_,_, H.one 0 rfl⟩ | exact ⟨_,_, H.one 1 rfl⟩ | exact ⟨_,_, H.one 2 rfl⟩ | exact ⟨_,_, H.one 3 rfl⟩ | exact ⟨_,_, H.one 4 rfl⟩)) (fun _ _ => r_fieldAddr (k := 5) Try.runUnderlying32 rfl Try.sizeOf30 (by decide) rfl rfl) rfl ?_
  refine d_take (i := 7) rfl (by kernel_rfl) (fun _ _ _ h => h) ((by first | exact ⟨_, H.one 0 rfl⟩ | exact ⟨_, H.one 1 rfl⟩ | exact ⟨_,_, H.one 0 rfl⟩ | exact ⟨_,_, H.one 1 rfl⟩ | exact ⟨_,_, H.one 2 rfl⟩ | exact ⟨_,_, H.one 3 rfl⟩ | exact ⟨_,_, H.one 4 rfl⟩)) (fun _ HS => by obtain ⟨pa, pb, HS⟩ := HS; exact r_loadn Try.isAgg30 Try.sizeOf30 rfl (HS.at 0 rfl) (rigC_sh _ _ _ _ _ _ _) (by first | exact (kC_length _) | exact (hC_length _) | exact (shC_length _ _) | exact (wC_length _) | exact (sdC_length _ _) | exact (xrL_length _ _ _) | exact (xrC_length _ _ _ _ _ _ _) | exact (rigC_length _ _ _ _ _ _ _) | exact (doC_length _) | exact rfl)) rfl ?_
  refine d_take (i := 9) rfl (by kernel_rfl) (fun _ _ _ h => h) ((by first | exact ⟨_, H.one 0 rfl⟩ | exact ⟨_, H.one 1 rfl⟩ | exact ⟨_,_, H.one 0 rfl⟩ | exact ⟨_,_, H.one 1 rfl⟩ | exact ⟨_,_, H.one 2 rfl⟩ | exact ⟨_,_, H.one 3 rfl⟩ | exact ⟨_,_, H.one 4 rfl⟩)) (fun _ _ => r_fieldAddr (k := 0) Try.runUnderlying32 rfl Try.sizeOf25 (by decide) rfl rfl) rfl ?_
  refine d_take (i := 10) rfl (by kernel_rfl) (fun _ _ _ h => h) ((by first | exact ⟨_, H.one 0 rfl⟩ | exact ⟨_, H.one 1 rfl⟩ | exact ⟨_,_, H.one 0 rfl⟩ | exact ⟨_,_, H.one 1 rfl⟩ | exact ⟨_,_, H.one 2 rfl⟩ | exact ⟨_,_, H.one 3 rfl⟩ | exact ⟨_,_, H.one 4 rfl⟩)) (fun _ HS => by obtain ⟨pa, pb, HS⟩ := HS; exact r_load1 Try.isAgg25 rfl (HS.at 0 rfl) rfl) rfl ?_
  refine d_all1 (i := 2) (by kernel_rfl) ?_
  refine b_call rfl go_none (r_call Try.call18 (ec rfl en)) (sectors_spec g z hg0 hg1 hz0 hz1 _) rfl ?_
  rintro v w ⟨rfl, HC⟩
  replace H := H.quiet HC
  rw [← hm]
  refine ⟨((by first | exact ⟨_, H.one 0 rfl⟩ | exact ⟨_, H.one 1 rfl⟩ | exact ⟨_,_, H.one 0 rfl⟩ | exact ⟨_,_, H.one 1 rfl⟩ | exact ⟨_,_, H.one 2 rfl⟩ | exact ⟨_,_, H.one 3 rfl⟩ | exact ⟨_,_, H.one 4 rfl⟩)), ?_⟩
  refine d_all1 (i := 5) (by kernel_rfl) ?_
  refine b_call rfl go_none (r_call Try.call28 (ec rfl (ec rfl en))) (newdev_spec m (by omega) bp [] Np (by decide) _ hNp (H.ownsM (.cons _ (.cons _ (List.Sublist.refl _))))) rfl ?_
  rintro v w ⟨ba, Na, Np2, fs2, rfl, hA, hl2, hNp2, HC⟩
  replace H : St w0 [] w (_ :: _ :: (Na ++ Np2)) := St.callr (L := [_,_]) H HC
  refine ⟨((by first | exact ⟨_, H.one 0 rfl⟩ | exact ⟨_, H.one 1 rfl⟩ | exact ⟨_,_, H.one 0 rfl⟩ | exact ⟨_,_, H.one 1 rfl⟩ | exact ⟨_,_, H.one 2 rfl⟩ | exact ⟨_,_, H.one 3 rfl⟩ | exact ⟨_,_, H.one 4 rfl⟩)), ?_⟩
  refine d_take (i := 12) rfl (by kernel_rfl) (fun _ _ _ h => h) ((by first | exact ⟨_, H.one 0 rfl⟩ | exact ⟨_, H.one 1 rfl⟩ | exact ⟨_,_, H.one 0 rfl⟩ | exact ⟨_,_, H.one 1 rfl⟩ | exact ⟨_,_, H.one 2 rfl⟩ | exact ⟨_,_, H.one 3 rfl⟩ | exact ⟨_,_, H.one 4 rfl⟩)) (fun _ _ => r_fieldAddr (k := 1) Try.runUnderlying32 rfl Try.sizeOf26 (by decide) rfl rfl) rfl ?_
  refine d_all1 (i := 8) (by kernel_rfl) ?_
  refine b_call rfl go_none (r_call Try.call18 (ec rfl en)) (sectors_spec g z hg0 hg1 hz0 hz1 _) rfl ?_
  rintro v w ⟨rfl, HC⟩
  replace H := H.quiet HC
  rw [← hm]
  refine ⟨((by first | exact ⟨_, H.one 0 rfl⟩ | exact ⟨_, H.one 1 rfl⟩ | exact ⟨_,_, H.one 0 rfl⟩ | exact ⟨_,_, H.one 1 rfl⟩ | exact ⟨_,_, H.one 2 rfl⟩ | exact ⟨_,_, H.one 3 rfl⟩ | exact ⟨_,_, H.one 4 rfl⟩)), ?_⟩
  refine d_all1 (i := 11) (by kernel_rfl) ?_
  refine b_call rfl go_none (r_call Try.call28 (ec rfl (ec rfl en))) (newdev_spec m (by omega) bp fs2 Np2 (by rw [hl2]; decide) _ hNp2 (H.ownsM (.cons _ (.cons _ (List.sublist_append_right _ _))))) rfl ?_
  rintro v w ⟨bb, Nb, Np3, fs3, rfl, hB, hl3, hNp3, HC⟩
  replace H : St w0 [] w (_ :: _ :: (Na ++ (Nb ++ Np3))) := (St.callr (L := _ :: _ :: Na) H HC)
  refine ⟨((by first | exact ⟨_, H.one 0 rfl⟩ | exact ⟨_, H.one 1 rfl⟩ | exact ⟨_,_, H.one 0 rfl⟩ | exact ⟨_,_, H.one 1 rfl⟩ | exact ⟨_,_, H.one 2 rfl⟩ | exact ⟨_,_, H.one 3 rfl⟩ | exact ⟨_,_, H.one 4 rfl⟩)), ?_⟩
  refine d_all1 (i := 13) (by kernel_rfl) ?_
  refine b_st rfl go_none (m_store1 H 0 Try.sizeOf26 rfl rfl rfl rfl (by show 1 < 7; omega) (rfl : _ = rigC (some ⟨bp, 0, none⟩) (some ⟨ba, 0, none⟩) none none none g z)) (L' := (_ :: _ :: _)) rfl rfl (fun _ H => ((by first | exact ⟨_, H.one 0 rfl⟩ | exact ⟨_, H.one 1 rfl⟩ | exact ⟨_,_, H.one 0 rfl⟩ | exact ⟨_,_, H.one 1 rfl⟩ | exact ⟨_,_, H.one 2 rfl⟩ | exact ⟨_,_, H.one 3 rfl⟩ | exact ⟨_,_, H.one 4 rfl⟩))) ?_
  intro w H
  refine d_take (i := 14) rfl (by kernel_rfl) (fun _ _ _ h => h) ((by first | exact ⟨_, H.one 0 rfl⟩ | exact ⟨_, H.one 1 rfl⟩ | exact ⟨_,_, H.one 0 rfl⟩ | exact ⟨_,_, H.one 1 rfl⟩ | exact ⟨_,_, H.one 2 rfl⟩ | exact ⟨_,_, H.one 3 rfl⟩ | exact ⟨_,_, H.one 4 rfl⟩)) (fun _ _ => r_fieldAddr (k := 2) Try.runUnderlying32 rfl Try.sizeOf26 (by decide) rfl rfl) rfl ?_
  refine d_all1 (i := 15) (by kernel_rfl) ?_
  refine b_st rfl go_none (m_store1 H 0 Try.sizeOf26 rfl rfl rfl rfl (by show 2 < 7; omega) (rfl : _ = rigC (some ⟨bp, 0, none⟩) (some ⟨ba, 0, none⟩) (some ⟨bb, 0, none⟩) none none g z)) (L' := (_ :: _ :: _)) rfl rfl (fun _ H => ((by first | exact ⟨_, H.one 0 rfl⟩ | exact ⟨_, H.one 1 rfl⟩ | exact ⟨_,_, H.one 0 rfl⟩ | exact ⟨_,_, H.one 1 rfl⟩ | exact ⟨_,_, H.one 2 rfl⟩ | exact ⟨_,_, H.one 3 rfl⟩ | exact ⟨_,_, H.one 4 rfl⟩))) ?_
  intro w H
  refine d_done (l' := [_,_,_,_,_,_,_,_,_,_,_,_,_,_,_,_,_,_,_,_,_,_,_,_,_,_,_,_,_,_,_,_,_,_,_,_,_,_,_,_,_,_,_,_,_,_,_,_,_,_,_,_,_,_,_,_,_,_,_,_,_,_,_]) (by kernel_rfl) rfl ?_
  refine x_thenNormal ?_
  refine c_seq ?_
  refine d_beginS (fun W => ∃ pm : Option Addr, St w0 [] W [(b6, .cells (rigC (some ⟨bp, 0, none⟩) (some ⟨ba, 0, none⟩) (some ⟨bb, 0, none⟩) pm none g z).toArray 32 (0, 0))]) (sz := 63) ⟨rfl, rfl⟩ (by kernel_rfl) H ((by first | exact ⟨_, H.one 0 rfl⟩ | exact ⟨_, H.one 1 rfl⟩ | exact ⟨_,_, H.one 0 rfl⟩ | exact ⟨_,_, H.one 1 rfl⟩ | exact ⟨_,_, H.one 2 rfl⟩ | exact ⟨_,_, H.one 3 rfl⟩ | exact ⟨_,_, H.one 4 rfl⟩)) rfl ?_
  intro w H
  obtain ⟨lf, ac, cc, Tp, Nc, rfl, hNc⟩ := hNp3
  replace H : St w0 [] w (_ :: _ :: (bp, .cells (pC lf ac fs3.length cc).toArray Tp (0, 0)) :: (Na ++ Nb)) := H.trMade
  refine d_take (i := 0) rfl (by kernel_rfl) (fun _ _ _ h => h) ((by first | exact ⟨_, H.one 0 rfl⟩ | exact ⟨_, H.one 1 rfl⟩ | exact ⟨_,_, H.one 0 rfl⟩ | exact ⟨_,_, H.one 1 rfl⟩ | exact ⟨_,_, H.one 2 rfl⟩ | exact ⟨_,_, H.one 3 rfl⟩ | exact ⟨_,_, H.one 4 rfl⟩)) (fun _ _ => r_fieldAddr (k := 1) Try.runUnderlying32 rfl Try.sizeOf26 (by decide) rfl rfl) rfl ?_
  refine d_take (i := 1) rfl (by kernel_rfl) (fun _ _ _ h => h) ((by first | exact ⟨_, H.one 0 rfl⟩ | exact ⟨_, H.one 1 rfl⟩ | exact ⟨_,_, H.one 0 rfl⟩ | exact ⟨_,_, H.one 1 rfl⟩ | exact ⟨_,_, H.one 2 rfl⟩ | exact ⟨_,_, H.one 3 rfl⟩ | exact ⟨_,_, H.one 4 rfl⟩)) (fun _ HS => by obtain ⟨pm, HS⟩ := HS; exact r_load1 Try.isAgg26 rfl (HS.at 0 rfl) rfl) rfl ?_
  refine d_take (i := 2) rfl (by kernel_rfl) (fun _ _ _ h => h) ((by first | exact ⟨_, H.one 0 rfl⟩ | exact ⟨_, H.one 1 rfl⟩ | exact ⟨_,_, H.one 0 rfl⟩ | exact ⟨_,_, H.one 1 rfl⟩ | exact ⟨_,_, H.one 2 rfl⟩ | exact ⟨_,_, H.one 3 rfl⟩ | exact ⟨_,_, H.one 4 rfl⟩)) (fun _ _ => r_fieldAddr (k := 2) Try.runUnderlying32 rfl Try.sizeOf26 (by decide) rfl rfl) rfl ?_
  refine d_take (i := 3) rfl (by kernel_rfl) (fun _ _ _ h => h) ((by first | exact ⟨_, H.one 0 rfl⟩ | exact ⟨_, H.one 1 rfl⟩ | exact ⟨_,_, H.one 0 rfl⟩ | exact ⟨_,_, H.one 1 rfl⟩ | exact ⟨_,_, H.one 2 rfl⟩ | exact ⟨_,_, H.one 3 rfl⟩ | exact ⟨_,_, H.one 4 rfl⟩)) (fun _ HS => by obtain ⟨pm, HS⟩ := HS; exact r_load1 Try.isAgg26 rfl (HS.at 0 rfl) rfl) rfl ?_
  refine d_take (i := 4) rfl (by kernel_rfl) (fun _ _ _ h => h) ((by first | exact ⟨_, H.one 0 rfl⟩ | exact ⟨_, H.one 1 rfl⟩ | exact ⟨_,_, H.one 0 rfl⟩ | exact ⟨_,_, H.one 1 rfl⟩ | exact ⟨_,_, H.one 2 rfl⟩ | exact ⟨_,_, H.one 3 rfl⟩ | exact ⟨_,_, H.one 4 rfl⟩)) (fun _ _ => r_buildS (zs := litZ) (out := litZ) Try.runUnderlying72 Try.zeroValue72 places72 pn rfl) rfl ?_
  refine d_take (i := 5) rfl (by kernel_rfl) (fun _ _ _ h => h) ((by first | exact ⟨_, H.one 0 rfl⟩ | exact ⟨_, H.one 1 rfl⟩ | exact ⟨_,_, H.one 0 rfl⟩ | exact ⟨_,_, H.one 1 rfl⟩ | exact ⟨_,_, H.one 2 rfl⟩ | exact ⟨_,_, H.one 3 rfl⟩ | exact ⟨_,_, H.one 4 rfl⟩)) (fun _ _ => r_makeIface Try.runUnderlying72 (fun _ h => nomatch h) rfl) rfl ?_
  refine d_all1 (i := 6) (by kernel_rfl) ?_
  refine b_call rfl go_none (r_call Try.call23 (ec rfl en)) (good_spec litZ _) rfl ?_
  rintro v w ⟨bg, rfl, HC⟩
  replace H := H.call0 HC
  refine ⟨((by first | exact ⟨_, H.one 0 rfl⟩ | exact ⟨_, H.one 1 rfl⟩ | exact ⟨_,_, H.one 0 rfl⟩ | exact ⟨_,_, H.one 1 rfl⟩ | exact ⟨_,_, H.one 2 rfl⟩ | exact ⟨_,_, H.one 3 rfl⟩ | exact ⟨_,_, H.one 4 rfl⟩)), ?_⟩
  refine d_all1 (i := 7) (by kernel_rfl) ?_
  refine b_call rfl go_none (r_call Try.call22 (ec rfl (ec rfl (ec rfl en)))) (newmir_spec ba bb bg (List.replicate m zS) (by rw [List.length_replicate]; omega) _ (hA.rdM (by omega) H (List.mem_cons_of_mem _ (List.mem_cons_of_mem _ (List.mem_cons_of_mem _ List.mem_cons_self))) (fun p hp => (List.mem_cons_of_mem _ (List.mem_cons_of_mem _ (List.mem_cons_of_mem _ (List.mem_cons_of_mem _ (List.mem_append_left _ hp))))))) (hB.rdM (by omega) H (List.mem_cons_of_mem _ (List.mem_cons_of_mem _ (List.mem_cons_of_mem _ List.mem_cons_self))) (fun p hp => (List.mem_cons_of_mem _ (List.mem_cons_of_mem _ (List.mem_cons_of_mem _ (List.mem_cons_of_mem _ (List.mem_append_right _ hp)))))))) rfl ?_
  rintro v w ⟨bm, ma, mb, rfl, HC⟩
  replace H := (H.call0 HC).trMir
  refine ⟨((by first | exact ⟨_, H.one 0 rfl⟩ | exact ⟨_, H.one 1 rfl⟩ | exact ⟨_,_, H.one 0 rfl⟩ | exact ⟨_,_, H.one 1 rfl⟩ | exact ⟨_,_, H.one 2 rfl⟩ | exact ⟨_,_, H.one 3 rfl⟩ | exact ⟨_,_, H.one 4 rfl⟩)), ?_⟩
  refine d_take (i := 8) rfl (by kernel_rfl) (fun _ _ _ h => h) ((by first | exact ⟨_, H.one 0 rfl⟩ | exact ⟨_, H.one 1 rfl⟩ | exact ⟨_,_, H.one 0 rfl⟩ | exact ⟨_,_, H.one 1 rfl⟩ | exact ⟨_,_, H.one 2 rfl⟩ | exact ⟨_,_, H.one 3 rfl⟩ | exact ⟨_,_, H.one 4 rfl⟩)) (fun _ _ => r_fieldAddr (k := 3) Try.runUnderlying32 rfl Try.sizeOf27 (by decide) rfl rfl) rfl ?_
  refine d_all1 (i := 9) (by kernel_rfl) ?_
  refine b_st rfl go_none (m_store1 H 0 Try.sizeOf27 rfl rfl rfl rfl (by show 3 < 7; omega) (rfl : _ = rigC (some ⟨bp, 0, none⟩) (some ⟨ba, 0, none⟩) (some ⟨bb, 0, none⟩) (some ⟨bm, 0, none⟩) none g z)) (L' := (_ :: _ :: _ :: _ :: _ :: _ :: _ :: _)) rfl rfl (fun _ H => ((by first | exact ⟨_, H.one 0 rfl⟩ | exact ⟨_, H.one 1 rfl⟩ | exact ⟨_,_, H.one 0 rfl⟩ | exact ⟨_,_, H.one 1 rfl⟩ | exact ⟨_,_, H.one 2 rfl⟩ | exact ⟨_,_, H.one 3 rfl⟩ | exact ⟨_,_, H.one 4 rfl⟩))) ?_
  intro w H
  refine d_done (l' := [_,_,_,_,_,_,_,_,_,_,_,_,_,_,_,_,_,_,_,_,_,_,_,_,_,_,_,_,_,_,_,_,_,_,_,_,_,_,_,_,_,_,_,_,_,_,_,_,_,_,_,_,_,_,_,_,_,_,_,_,_,_,_]) (by kernel_rfl) rfl ?_
  refine x_thenNormal ?_
  refine c_rseq (n := 63) ⟨rfl, rfl⟩ ?_
  have hM : MirN 150 51 89 72 ba bb bm (List.replicate m zS) 0 (_ :: _ :: _ :: _ :: _ :: (Na ++ Nb)) := ⟨ma, mb, bg, litZ, bp, lf, ac, fs3.length, cc, 119, Tp, Na, Nb, rfl, hA, hB, by rw [List.length_replicate]; omega⟩
  refine s_val (r_fieldAddr (k := 3) Try.runUnderlying32 rfl Try.sizeOf27 (by decide) rfl rfl) ?_
  refine s_val (r_load1 Try.isAgg27 rfl (H.at 0 rfl) rfl) ?_
  refine s_val (r_buildS (zs := litZ) (out := litZ) Try.runUnderlying72 Try.zeroValue72 places72 pn rfl) ?_
  refine s_val (r_makeIface Try.runUnderlying72 (fun _ h => nomatch h) rfl) ?_
  refine s_val (r_fieldAddr (k := 5) Try.runUnderlying32 rfl Try.sizeOf30 (by decide) rfl rfl) ?_
  refine s_val (r_loadn Try.isAgg30 Try.sizeOf30 rfl (H.at 0 rfl) (rigC_sh _ _ _ _ _ _ _) (by first | exact (kC_length _) | exact (hC_length _) | exact (shC_length _ _) | exact (wC_length _) | exact (sdC_length _ _) | exact (xrL_length _ _ _) | exact (xrC_length _ _ _ _ _ _ _) | exact (rigC_length _ _ _ _ _ _ _) | exact (doC_length _) | exact rfl)) ?_
  refine s_call (r_call Try.call30 (ec rfl (ec rfl (ec rfl en)))) (newlog_spec bm (List.replicate m zS) litZ g z hg0 hg1 hz0 hz1 (by rw [List.length_replicate]; omega) _ (hM.rdM (by omega) H (fun p hp => List.mem_cons_of_mem _ (List.mem_cons_of_mem _ hp)))) ?_
  rintro v w ⟨bl, bu, rfl, HC⟩
  replace H := H.call0 HC
  refine s_val (r_move rfl) ?_
  refine s_val (r_extract rfl rfl) ?_
  refine s_val (r_extract rfl rfl) ?_
  refine s_val (r_assign rfl) ?_
  refine s_val (r_assign rfl) ?_
  refine c_nil (l' := [_,_,_,_,_,_,_,_,_,_,_,_,_,_,_,_,_,_,_,_,_,_,_,_,_,_,_,_,_,_,_,_,_,_,_,_,_,_,_,_,_,_,_,_,_,_,_,_,_,_,_,_,_,_,_,_,_,_,_,_,_,_,_]) rfl ?_
  refine c_rseq (n := 63) ⟨rfl, rfl⟩ ?_
  refine s_val (r_move rfl) ?_
  refine s_val (r_fieldAddr (k := 4) Try.runUnderlying32 rfl Try.sizeOf28 (by decide) rfl rfl) ?_
  refine s_st (m_store1 H 2 Try.sizeOf28 rfl rfl rfl rfl (by show 4 < 7; omega) (rfl : _ = rigC (some ⟨bp, 0, none⟩) (some ⟨ba, 0, none⟩) (some ⟨bb, 0, none⟩) (some ⟨bm, 0, none⟩) (some ⟨bl, 0, none⟩) g z)) (L' := (_ :: _ :: _ :: _ :: _ :: _ :: _ :: _ :: _ :: _)) rfl ?_
  intro w H
  refine c_nil (l' := [_,_,_,_,_,_,_,_,_,_,_,_,_,_,_,_,_,_,_,_,_,_,_,_,_,_,_,_,_,_,_,_,_,_,_,_,_,_,_,_,_,_,_,_,_,_,_,_,_,_,_,_,_,_,_,_,_,_,_,_,_,_,_]) rfl ?_
  refine c_seq ?_
  refine c_rseq (n := 63) ⟨rfl, rfl⟩ ?_
  refine s_val (r_move rfl) ?_
  refine s_val (r_neq rfl rfl) ?_
  refine s_val (r_move rfl) ?_
  refine g_yes rfl rfl ?_
  refine s_val (r_move rfl) ?_
  refine g_yes rfl rfl ?_
  refine s_val (r_nilpF Try.runUnderlying28 rfl rfl) ?_
  refine s_val (r_pickf rfl rfl) ?_
  refine c_nil (l' := [_,_,_,_,_,_,_,_,_,_,_,_,_,_,_,_,_,_,_,_,_,_,_,_,_,_,_,_,_,_,_,_,_,_,_,_,_,_,_,_,_,_,_,_,_,_,_,_,_,_,_,_,_,_,_,_,_,_,_,_,_,_,_]) rfl ?_
  refine c_iff rfl ?_
  refine wp_skip ?_
  refine x_thenNormal ?_
  refine c_rseq (n := 63) ⟨rfl, rfl⟩ ?_
  refine s_val (r_loadn Try.isAgg32 Try.sizeOf32 rfl (H.at 2 rfl) (by first | exact (kC_td _) | exact (hC_td _) | exact (hC_seed _) | exact (shC_td _ _) | exact (sdC_td _ _) | exact (xrL_td _ _ _) | exact (xrC_td _ _ _ _ _ _ _) | exact (rigC_td _ _ _ _ _ _ _) | exact (doC_td _)) (by first | exact (kC_length _) | exact (hC_length _) | exact (shC_length _ _) | exact (wC_length _) | exact (sdC_length _ _) | exact (xrL_length _ _ _) | exact (xrC_length _ _ _ _ _ _ _) | exact (rigC_length _ _ _ _ _ _ _) | exact (doC_length _) | exact rfl)) ?_
  refine s_st (m_storen H 3 7 Try.sizeOf32 rfl rfl (by first | exact (kC_length _) | exact (hC_length _) | exact (shC_length _ _) | exact (wC_length _) | exact (sdC_length _ _) | exact (xrL_length _ _ _) | exact (xrC_length _ _ _ _ _ _ _) | exact (rigC_length _ _ _ _ _ _ _) | exact (doC_length _)) (by first | exact (kC_one _) | exact (hC_one _) | exact (shC_one _ _) | exact (elW.one _) | exact (sdC_one _ _) | exact (xrL_one _ _ _) | exact (xrC_one _ _ _ _ _ _ _) | exact (rigC_one _ _ _ _ _ _ _) | exact (elDo.one _)) rfl (by first | exact (by rw [kC_length]; omega) | exact (by rw [hC_length]; omega) | exact (by rw [wC_length]; omega) | exact (by show _ ≤ 5; omega) | exact (by show _ ≤ 7; omega) | exact (by show _ ≤ 3; omega)) rigC_sp) (L' := (_ :: _ :: _ :: _ :: _ :: _ :: _ :: _ :: _ :: _)) rfl ?_
  intro w H
  refine s_val (r_assign rfl) ?_
  refine c_nil (l' := [_,_,_,_,_,_,_,_,_,_,_,_,_,_,_,_,_,_,_,_,_,_,_,_,_,_,_,_,_,_,_,_,_,_,_,_,_,_,_,_,_,_,_,_,_,_,_,_,_,_,_,_,_,_,_,_,_,_,_,_,_,_,_]) rfl ?_
  refine wp_ret ?_
  refine e_ret (rc_two rfl (rc_celln Try.isAgg32 Try.sizeOf32 rfl (H.at 3 rfl) (by first | exact (kC_td _) | exact (hC_td _) | exact (hC_seed _) | exact (shC_td _ _) | exact (sdC_td _ _) | exact (xrL_td _ _ _) | exact (xrC_td _ _ _ _ _ _ _) | exact (rigC_td _ _ _ _ _ _ _) | exact (doC_td _)) (by first | exact (kC_length _) | exact (hC_length _) | exact (shC_length _ _) | exact (wC_length _) | exact (sdC_length _ _) | exact (xrL_length _ _ _) | exact (xrC_length _ _ _ _ _ _ _) | exact (rigC_length _ _ _ _ _ _ _) | exact (doC_length _))) (rc_tmp rfl)) ⟨_, rfl, ?_⟩
  have hF := newL_F hg0 hg1 hz0 hz1
  have hgl : (newL g z).gens.length = g.toNat := List.length_replicate
  have hC : (newL g z).C = List.replicate m zS := by show List.replicate (2 + g * z).toNat zS = _; rw [show (2 + g * z).toNat = m by omega]
  refine ⟨bl, ba, bb, _,_,_, rfl, ?_, H.sub (.cons_cons _ (.cons_cons _ (.cons _ (.cons _ (List.Sublist.refl _)))))⟩
  exact ⟨bm, litZ, bu, _,_,_, by rw [hgl]; rfl, by rw [hC]; exact hM, hF⟩

end Go.Proofs.Ytbjalofmamoffaa

