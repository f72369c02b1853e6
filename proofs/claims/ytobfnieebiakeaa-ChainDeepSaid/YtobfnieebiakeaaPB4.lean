import Derived.Test.YtobfnieebiakeaaPB3
import Derived.Test.YtobfnieebiakeaaPVx2
namespace Go.Proofs.Ytobfnieebiakeaa
open Go Go.Er

set_option maxHeartbeats 4000000 in
theorem deep_law (seed : Key) (b : Blk) (many : Int) (hm0 : 0 ≤ many) (hm1 : many < 256) (w0 : World) :
  Calls Try.prog 6 #[.agg (kC seed).toArray, .agg (kC b).toArray, .int .u8 many] w0 fun e w => ∃ v, e = .returned v ∧ (v = .bool true ∧ St w0 [] w []) := by
 have H := St.refl w0
 refine c_enter (args := [.agg (kC seed).toArray, .agg (kC b).toArray, .int .u8 many]) (l := [.agg (kC seed).toArray, .agg (kC b).toArray, .int .u8 many, undef, undef, undef, undef, undef, undef, undef, undef, undef, undef, undef, undef, undef, undef, undef, undef, undef, undef, undef, undef, undef, undef, undef, undef, undef, undef, undef, undef, undef, undef, undef, undef, undef, undef, undef, undef, undef, undef, undef, undef, undef, undef, undef, undef, undef, undef, undef, undef, undef, undef, undef, undef, undef, undef, undef, undef, undef, undef, undef, undef, undef, undef, undef, undef, undef, undef, undef, undef, undef, undef, undef, undef, undef, undef, undef, undef, undef, undef, undef, undef, undef, undef, undef, undef, undef, undef, undef, undef, undef, undef, undef, undef, undef]) Try.func6 Try.ntmps6 rfl rfl ?_
 refine c_rseq (n := 96) ⟨rfl, rfl⟩ ?_
 refine s_new (m_box (cs := (kC seed)) H rfl rfl) ?_
 intro w b3 H
 refine s_new (m_box (cs := (kC b)) H rfl rfl) ?_
 intro w b4 H
 refine s_val (r_assign rfl) ?_
 refine c_nil (l' := [_,_,_,_,_,_,_,_,_,_,_,_,_,_,_,_,_,_,_,_,_,_,_,_,_,_,_,_,_,_,_,_,_,_,_,_,_,_,_,_,_,_,_,_,_,_,_,_,_,_,_,_,_,_,_,_,_,_,_,_,_,_,_,_,_,_,_,_,_,_,_,_,_,_,_,_,_,_,_,_,_,_,_,_,_,_,_,_,_,_,_,_,_,_,_,_]) rfl ?_
 refine c_seq ?_
 refine c_rseq (n := 96) ⟨rfl, rfl⟩ ?_
 refine s_call (r_call Try.call9 en) (awake23_spec _) ?_
 rintro v w ⟨rfl, HC⟩
 replace H := H.quiet HC
 refine s_val (r_not rfl) ?_
 refine c_nil (l' := [_,_,_,_,_,_,_,_,_,_,_,_,_,_,_,_,_,_,_,_,_,_,_,_,_,_,_,_,_,_,_,_,_,_,_,_,_,_,_,_,_,_,_,_,_,_,_,_,_,_,_,_,_,_,_,_,_,_,_,_,_,_,_,_,_,_,_,_,_,_,_,_,_,_,_,_,_,_,_,_,_,_,_,_,_,_,_,_,_,_,_,_,_,_,_,_]) rfl ?_
 refine c_iff rfl ?_
 refine wp_skip ?_
 refine x_thenNormal ?_
 refine c_rseq (n := 96) ⟨rfl, rfl⟩ ?_
 refine s_val (r_move rfl) ?_
 refine s_val (r_conv Try.runUnderlying5 Try.runUnderlying3 rfl (w_i64 (by omega) (by omega))) ?_
 refine s_val (r_rem rfl rfl (by decide) (Int.tmod_eq_emod_of_nonneg hm0)) ?_
 refine s_val (r_add rfl rfl (w_i64 (by omega) (by omega))) ?_
 obtain ⟨n, hn, hn1, hn9⟩ : ∃ n : Nat, 1 + many % 9 = (n : Int) ∧ 1 ≤ n ∧ n ≤ 9 := ⟨(1 + many % 9).toNat, by omega, by omega, by omega⟩
 rw [hn]
 refine s_val (r_assign rfl) ?_
 refine c_nil (l' := [_,_,_,_,_,_,_,_,_,_,_,_,_,_,_,_,_,_,_,_,_,_,_,_,_,_,_,_,_,_,_,_,_,_,_,_,_,_,_,_,_,_,_,_,_,_,_,_,_,_,_,_,_,_,_,_,_,_,_,_,_,_,_,_,_,_,_,_,_,_,_,_,_,_,_,_,_,_,_,_,_,_,_,_,_,_,_,_,_,_,_,_,_,_,_,_]) rfl ?_
 refine c_rseq (n := 96) ⟨rfl, rfl⟩ ?_
 refine s_val (r_buildS (zs := litC) (out := litC) Try.runUnderlying49 Try.zeroValue49 places49 pn rfl) ?_
 refine s_val (r_makeIface Try.runUnderlying49 (fun _ h => nomatch h) rfl) ?_
 refine s_val (r_loadn Try.isAgg24 Try.sizeOf24 rfl (H.at 1 rfl) (by first | exact (kC_td _) | exact (hC_td _) | exact (hC_seed _) | exact (ceC_td _) | exact (ceC_place _) | exact (ptC_td _ _ _ _) | exact (plV_td _ _ _)) (by first | exact (kC_length _) | exact (hC_length _) | exact (ceC_length _) | exact (ptC_length _ _ _ _) | exact (plV_length _ _ _) | exact litC_length | exact rfl)) ?_
 refine s_call (r_call Try.call20 (ec rfl (ec rfl en))) (new_spec (.iface 49 (.agg litC.toArray)) seed litL litR (splits_lit litC) _) ?_
 rintro v w ⟨bt, NT, rfl, hT, HC⟩
 replace H : St w0 [] w (_ :: _ :: NT) := (H.call0 HC).perm (List.perm_append_comm (l₁ := [_,_]) (l₂ := NT))
 obtain ⟨xs, hxs⟩ : ∃ xs, xs = tree0 litL litR seed [] := ⟨_, rfl⟩
 rw [show [root seed] = xs by rw [hxs, tree0_nil]] at hT
 have hv : Valid xs := by rw [hxs]; exact tree0_valid []
 have hx1 : xs.length = 1 := by rw [hxs, tree0_nil]; rfl
 have hxl : xs.length ≤ 100000 := by omega
 have hh2 : hasH xs 2 = true := by rw [hxs]; exact has_tree (by decide) (by decide) (fun h => nomatch h)
 refine s_val (r_assign rfl) ?_
 refine c_nil (l' := [_,_,_,_,_,_,_,_,_,_,_,_,_,_,_,_,_,_,_,_,_,_,_,_,_,_,_,_,_,_,_,_,_,_,_,_,_,_,_,_,_,_,_,_,_,_,_,_,_,_,_,_,_,_,_,_,_,_,_,_,_,_,_,_,_,_,_,_,_,_,_,_,_,_,_,_,_,_,_,_,_,_,_,_,_,_,_,_,_,_,_,_,_,_,_,_]) rfl ?_
 refine c_rseq (n := 96) ⟨rfl, rfl⟩ ?_
 refine s_val (r_move rfl) ?_
 refine s_call (r_call Try.call16 (ec rfl en)) (leaf_spec _ _) ?_
 rintro v w ⟨rfl, HC⟩
 replace H := H.quiet HC
 rw [show lf 1 = 2 from rfl]
 refine s_call (r_call Try.call21 (ec rfl (ec rfl en))) (key_spec bt (.iface 49 (.agg litC.toArray)) xs NT hxl hv 2 (by decide) litL litR (splits_lit litC) _ hT (H.ownsM (.cons _ (.cons _ (List.Sublist.refl _))))) ?_
 rintro v w ⟨k, ok, hkr, rfl, HC⟩
 replace H := H.quiet HC
 obtain ⟨rfl, _⟩ := keyH_of hv hkr
 refine s_val (r_move rfl) ?_
 refine s_val (r_extract rfl rfl) ?_
 refine s_val (r_extract rfl rfl) ?_
 refine s_new (m_alloc (cs := (kC (By.zero 32))) H Try.zeroValue24 rfl) ?_
 intro w b9 H
 refine s_st (m_storen H 0 32 Try.sizeOf24 rfl rfl (by first | exact (kC_length _) | exact (hC_length _) | exact (ceC_length _) | exact (ptC_length _ _ _ _) | exact (plV_length _ _ _) | exact litC_length) (by first | exact (kC_one _) | exact (hC_one _) | exact (ceC_one _) | exact (ptC_one _ _ _ _) | exact (plV_one _ _ _) | exact litC_one) rfl (by first | exact (by rw [kC_length]; omega) | exact (by rw [hC_length]; omega)) (by first | exact (kC_sp _ _) | exact (hC_sp _ _) | exact (kC_sp _ _) | exact (ceC_sp _ _))) (L' := (_ :: _ :: _ :: _)) rfl ?_
 intro w H
 refine s_val (r_assign rfl) ?_
 refine c_nil (l' := [_,_,_,_,_,_,_,_,_,_,_,_,_,_,_,_,_,_,_,_,_,_,_,_,_,_,_,_,_,_,_,_,_,_,_,_,_,_,_,_,_,_,_,_,_,_,_,_,_,_,_,_,_,_,_,_,_,_,_,_,_,_,_,_,_,_,_,_,_,_,_,_,_,_,_,_,_,_,_,_,_,_,_,_,_,_,_,_,_,_,_,_,_,_,_,_]) rfl ?_
 refine c_seq ?_
 refine d_beginS (fun W => W.heap[b9]? = some (Obj.cells (kC (keyH xs 2)).toArray 24 (0, 0)) ∧ St w0 [] W []) (sz := 96) ⟨rfl, rfl⟩ (by kernel_rfl) H (⟨H.own (b9, Obj.cells (kC (keyH xs 2)).toArray 24 (0, 0)) (by first | exact List.mem_cons_self | exact List.mem_cons_of_mem _ List.mem_cons_self | exact List.mem_cons_of_mem _ (List.mem_cons_of_mem _ List.mem_cons_self) | exact List.mem_append_right _ List.mem_cons_self), H.sub (List.nil_sublist _)⟩) rfl ?_
 intro w H
 refine d_take (i := 0) rfl (by kernel_rfl) (fun _ _ _ h => h) (⟨H.own (b9, Obj.cells (kC (keyH xs 2)).toArray 24 (0, 0)) (by first | exact List.mem_cons_self | exact List.mem_cons_of_mem _ List.mem_cons_self | exact List.mem_cons_of_mem _ (List.mem_cons_of_mem _ List.mem_cons_self) | exact List.mem_append_right _ List.mem_cons_self), H.sub (List.nil_sublist _)⟩) (fun _ HS => by obtain ⟨HSk, HS⟩ := HS; exact r_loadn Try.isAgg24 Try.sizeOf24 rfl (id HSk) (by first | exact (kC_td _) | exact (hC_td _) | exact (hC_seed _) | exact (ceC_td _) | exact (ceC_place _) | exact (ptC_td _ _ _ _) | exact (plV_td _ _ _)) (by first | exact (kC_length _) | exact (hC_length _) | exact (ceC_length _) | exact (ptC_length _ _ _ _) | exact (plV_length _ _ _) | exact litC_length | exact rfl)) rfl ?_
 refine d_take (i := 2) rfl (by kernel_rfl) (fun _ _ _ h => h) (⟨H.own (b9, Obj.cells (kC (keyH xs 2)).toArray 24 (0, 0)) (by first | exact List.mem_cons_self | exact List.mem_cons_of_mem _ List.mem_cons_self | exact List.mem_cons_of_mem _ (List.mem_cons_of_mem _ List.mem_cons_self) | exact List.mem_append_right _ List.mem_cons_self), H.sub (List.nil_sublist _)⟩) (fun _ _ => r_sliceA Try.runUnderlying44 Try.sizeOf5 rfl) rfl ?_
 refine d_all1 (i := 1) (by kernel_rfl) ?_
 refine b_call rfl go_none (r_call Try.call23 (ec rfl (ec rfl en))) (pad_spec (keyH xs 2) 1 (by decide) (by decide) _) rfl ?_
 rintro v w ⟨rfl, HC⟩
 replace H := H.quiet HC
 refine ⟨(⟨H.own (b9, Obj.cells (kC (keyH xs 2)).toArray 24 (0, 0)) (by first | exact List.mem_cons_self | exact List.mem_cons_of_mem _ List.mem_cons_self | exact List.mem_cons_of_mem _ (List.mem_cons_of_mem _ List.mem_cons_self) | exact List.mem_append_right _ List.mem_cons_self), H.sub (List.nil_sublist _)⟩), ?_⟩
 refine d_all1 (i := 3) (by kernel_rfl) ?_
 refine b_call rfl go_none (r_call Try.call22 (ec rfl (ec rfl en))) (rhide_l (padB (keyH xs 2) 1) _ _ _ b.1 b.2.symm (by rw [b.2]; decide) _ (fun _ => ⟨b4, 0, [], [], _,_, rfl, (by rw [List.nil_append, List.append_nil]; exact H.at 1 rfl), rfl⟩)) rfl ?_
 rintro v w ⟨a26, c26, N26, rfl, hN26, HC⟩
 replace H := H.call0 HC
 have hxl2 : (xorB (padB (keyH xs 2) 1).1 b.1).length = b.1.length := xorB_length (by rw [(padB _ _).2, b.2]; decide)
 rw [← hxl2] at hN26 ⊢
 obtain ⟨bh, sph, rfl, hc26, rfl, hc27⟩ := RowN.some hN26 (by rw [hxl2, b.2]; decide)
 replace H : St w0 [] w (_ :: _ :: _ :: _ :: _) := H
 obtain ⟨bd, hbd⟩ : ∃ q : Bd, q = ⟨some ⟨bh, 0, none⟩, (xorB (padB (keyH xs 2) 1).1 b.1), c26⟩ := ⟨_, rfl⟩
 have hbb : bd.b = (xorB (padB (keyH xs 2) 1).1 b.1) := by rw [hbd]
 have hb32 : bd.b.length = 32 := by rw [hbb, hxl2, b.2]
 refine ⟨(⟨H.own (b9, Obj.cells (kC (keyH xs 2)).toArray 24 (0, 0)) (by first | exact List.mem_cons_self | exact List.mem_cons_of_mem _ List.mem_cons_self | exact List.mem_cons_of_mem _ (List.mem_cons_of_mem _ List.mem_cons_self) | exact List.mem_append_right _ List.mem_cons_self), H.sub (List.nil_sublist _)⟩), ?_⟩
 rw [show Value.slice (some ⟨bh, 0, none⟩) (xorB (padB (keyH xs 2) 1).1 b.1).length c26 = bdV bd by rw [hbd]; rfl]
 refine d_take (i := 4) rfl (by kernel_rfl) (fun _ _ _ h => h) (⟨H.own (b9, Obj.cells (kC (keyH xs 2)).toArray 24 (0, 0)) (by first | exact List.mem_cons_self | exact List.mem_cons_of_mem _ List.mem_cons_self | exact List.mem_cons_of_mem _ (List.mem_cons_of_mem _ List.mem_cons_self) | exact List.mem_append_right _ List.mem_cons_self), H.sub (List.nil_sublist _)⟩) (fun _ _ => r_buildS Try.runUnderlying43 Try.zeroValue43 places43 (pc rfl (pc rfl (pc rfl pn))) (rfl : fillL _ _ _ = some (ceC (fullC 1 bd)))) rfl ?_
 refine d_all1 (i := 5) (by kernel_rfl) ?_
 refine b_new rfl go_none (m_bslice1 (vs := ceC (fullC 1 bd)) H Try.runUnderlying22 Try.sizeOf43 Try.zeroValue43 (by omega) (by omega) rfl rfl rfl) rfl (fun _ _ H => (⟨H.own (b9, Obj.cells (kC (keyH xs 2)).toArray 24 (0, 0)) (by first | exact List.mem_cons_self | exact List.mem_cons_of_mem _ List.mem_cons_self | exact List.mem_cons_of_mem _ (List.mem_cons_of_mem _ List.mem_cons_self) | exact List.mem_append_right _ List.mem_cons_self), H.sub (List.nil_sublist _)⟩)) ?_
 intro w b36 H
 refine d_take (i := 6) rfl (by kernel_rfl) (fun _ _ _ h => h) (⟨H.own (b9, Obj.cells (kC (keyH xs 2)).toArray 24 (0, 0)) (by first | exact List.mem_cons_self | exact List.mem_cons_of_mem _ List.mem_cons_self | exact List.mem_cons_of_mem _ (List.mem_cons_of_mem _ List.mem_cons_self) | exact List.mem_append_right _ List.mem_cons_self), H.sub (List.nil_sublist _)⟩) (fun _ _ => r_assign rfl) rfl ?_
 refine d_done (l' := [_,_,_,_,_,_,_,_,_,_,_,_,_,_,_,_,_,_,_,_,_,_,_,_,_,_,_,_,_,_,_,_,_,_,_,_,_,_,_,_,_,_,_,_,_,_,_,_,_,_,_,_,_,_,_,_,_,_,_,_,_,_,_,_,_,_,_,_,_,_,_,_,_,_,_,_,_,_,_,_,_,_,_,_,_,_,_,_,_,_,_,_,_,_,_,_]) (by kernel_rfl) rfl ?_
 refine x_thenNormal ?_
 refine c_seq ?_
 refine c_rseq (n := 96) ⟨rfl, rfl⟩ ?_
 refine s_val (r_assign rfl) ?_
 refine c_nil (l' := [_,_,_,_,_,_,_,_,_,_,_,_,_,_,_,_,_,_,_,_,_,_,_,_,_,_,_,_,_,_,_,_,_,_,_,_,_,_,_,_,_,_,_,_,_,_,_,_,_,_,_,_,_,_,_,_,_,_,_,_,_,_,_,_,_,_,_,_,_,_,_,_,_,_,_,_,_,_,_,_,_,_,_,_,_,_,_,_,_,_,_,_,_,_,_,_]) rfl ?_
 refine wp_block ?_
 have hR0 : RowN 11 43 (rowC ceC (deepL bd 1)) 1 (some ⟨b36, 0, none⟩) 1 [(b36, Obj.cells (rowC ceC (deepL bd 1) ++ []).toArray 43 (0, 0))] := RowN.mk (sp := []) rfl (Nat.le_refl _) (Nat.le_refl _)
 replace H : St w0 [] w (_ :: _ :: _ :: _ :: ([(b36, Obj.cells (rowC ceC (deepL bd 1) ++ []).toArray 43 (0, 0))] ++ NT)) := H.perm (List.perm_middle (l₁ := [_,_,_,_]))
 refine c_loop (fun (l0 : List Value) (k : Nat) (l : List Value) (w : World) => ∃ (u37 u38 u39 u40 u41 u42 u43 u44 u45 u46 u47 u48 u49 u50 : Value) (a3 : Option Addr) (c3 : Nat) (N : List (Nat × Obj)), l = ovr l0 [N_, N_, N_, N_, N_, N_, N_, N_, N_, N_, N_, Y_ (.slice a3 k c3), Y_ (.int .i64 ((k + 1 : Nat) : Int)), N_, N_, N_, N_, N_, N_, N_, N_, N_, N_, N_, N_, N_, N_, N_, N_, N_, N_, N_, N_, N_, N_, N_, N_, Y_ u37, Y_ u38, Y_ u39, Y_ u40, Y_ u41, Y_ u42, Y_ u43, Y_ u44, Y_ u45, Y_ u46, Y_ u47, Y_ u48, Y_ u49, Y_ u50] ∧ 1 ≤ k ∧ k ≤ n ∧ RowN 11 43 (rowC ceC (deepL bd k)) k a3 c3 N ∧ St w0 [] w ((bh, .cells (bC (xorB (padB (keyH xs 2) 1).1 b.1) ++ sph).toArray 5 (0, 0)) :: (b9, .cells (kC (keyH xs 2)).toArray 24 (0, 0)) :: (b4, .cells (kC b).toArray 44 (0, 0)) :: (b3, .cells (kC seed).toArray 24 (0, 0)) :: N ++ NT)) (fun (k : Nat) => n - k) 1 ⟨_,_,_,_,_,_,_,_,_,_,_,_,_,_,_,_,_, rfl, Nat.le_refl _, hn1, hR0, H⟩ ?_
 intro k l w ⟨u37, u38, u39, u40, u41, u42, u43, u44, u45, u46, u47, u48, u49, u50, a3, c3, N, hl, hk1, hkn, hR, H⟩
 obtain rfl := hl.trans (rfl : _ = [_,_,_,_,_,_,_,_,_,_,_,_,_,_,_,_,_,_,_,_,_,_,_,_,_,_,_,_,_,_,_,_,_,_,_,_,_,_,_,_,_,_,_,_,_,_,_,_,_,_,_,_,_,_,_,_,_,_,_,_,_,_,_,_,_,_,_,_,_,_,_,_,_,_,_,_,_,_,_,_,_,_,_,_,_,_,_,_,_,_,_,_,_,_,_,_])
 clear hl
 refine c_seq ?_
 refine c_rseq (n := 96) ⟨rfl, rfl⟩ ?_
 refine s_val (r_move rfl) ?_
 refine s_val (r_move rfl) ?_
 refine s_val (r_leq rfl rfl) ?_
 refine c_nil (l' := [_,_,_,_,_,_,_,_,_,_,_,_,_,_,_,_,_,_,_,_,_,_,_,_,_,_,_,_,_,_,_,_,_,_,_,_,_,_,_,_,_,_,_,_,_,_,_,_,_,_,_,_,_,_,_,_,_,_,_,_,_,_,_,_,_,_,_,_,_,_,_,_,_,_,_,_,_,_,_,_,_,_,_,_,_,_,_,_,_,_,_,_,_,_,_,_]) rfl ?_
 refine c_if rfl (fun h39 => ?_) (fun h39 => ?_)
 ·skip
  refine wp_skip ?_
  refine x_thenNormal ?_
  refine c_seq ?_
  refine wp_block ?_
  refine c_region (n := 96) ⟨rfl, rfl⟩ ?_
  refine s_val (r_move rfl) ?_
  refine s_val (r_move rfl) ?_
  refine s_val (r_conv Try.runUnderlying3 Try.runUnderlying28 rfl (w_u64 (by omega) (by omega))) ?_
  refine s_val (r_move rfl) ?_
  refine s_val (r_sub rfl rfl (w_i64e (r := (k : Int)) (by omega) (by omega) (by omega))) ?_
  refine s_val (r_conv Try.runUnderlying3 Try.runUnderlying28 rfl (w_u64 (by omega) (by omega))) ?_
  refine s_val (r_buildS Try.runUnderlying43 Try.zeroValue43 places43 (pc rfl (pc rfl (pc rfl pn))) (rfl : fillL _ _ _ = some (ceC (sameC ((k + 1 : Nat) : Int) (k : Int))))) ?_
  refine s_new (m_bslice1 (vs := ceC (sameC ((k + 1 : Nat) : Int) (k : Int))) H Try.runUnderlying22 Try.sizeOf43 Try.zeroValue43 (by omega) (by omega) rfl rfl rfl) ?_
  intro w b49 H
  replace H := St.rot3 (A := [_,_,_,_,_]) H
  refine s_any (m_append_row0 (L1 := [_,_,_,_,_] ++ NT) (N := N) H hR Try.runUnderlying22 Try.runUnderlying22 (fun _ h => nomatch h) Try.sizeOf43 Try.zeroValue43 rfl Try.typeInfo43 (by rw [bytes43]; omega) (by rw [bytes43]; omega) (ec rfl (ec rfl en)) (Src.slice (vs := ceC (sameC ((k + 1 : Nat) : Int) (k : Int))) (H.at 0 rfl) rfl rfl (ceC_one _))) ?_
  rintro v w ⟨a5, c5, N5, rfl, hN5, H⟩
  replace H : St w0 [] w (_ :: _ :: _ :: _ :: _ :: (N5 ++ NT)) := St.unrot3 (A := [_,_,_,_,_]) (R := NT) H
  have hN6 : RowN 11 43 (rowC ceC (deepL bd (k + 1))) (k + 1) a5 c5 N5 := by rw [deepL_succ hk1, rowC_append, rowC_one1]; exact hN5
  refine s_val (r_assign rfl) ?_
  refine c_nil0 (l' := [_,_,_,_,_,_,_,_,_,_,_,_,_,_,_,_,_,_,_,_,_,_,_,_,_,_,_,_,_,_,_,_,_,_,_,_,_,_,_,_,_,_,_,_,_,_,_,_,_,_,_,_,_,_,_,_,_,_,_,_,_,_,_,_,_,_,_,_,_,_,_,_,_,_,_,_,_,_,_,_,_,_,_,_,_,_,_,_,_,_,_,_,_,_,_,_]) rfl ?_
  refine x_blockNormal ?_
  refine x_thenNormal ?_
  refine c_region (n := 96) ⟨rfl, rfl⟩ ?_
  refine s_val (r_move rfl) ?_
  refine s_val (r_add rfl rfl (w_i64 (by omega) (by omega))) ?_
  refine s_val (r_assign rfl) ?_
  refine c_nil0 (l' := [_,_,_,_,_,_,_,_,_,_,_,_,_,_,_,_,_,_,_,_,_,_,_,_,_,_,_,_,_,_,_,_,_,_,_,_,_,_,_,_,_,_,_,_,_,_,_,_,_,_,_,_,_,_,_,_,_,_,_,_,_,_,_,_,_,_,_,_,_,_,_,_,_,_,_,_,_,_,_,_,_,_,_,_,_,_,_,_,_,_,_,_,_,_,_,_]) rfl ?_
  exact ⟨k + 1, _, rfl, ⟨_,_,_,_,_,_,_,_,_,_,_,_,_,_, a5, c5, N5, rfl, by omega, by omega, hN6, (H.sub (.cons _ (List.Sublist.refl _)))⟩, by omega⟩
 ·skip
  obtain rfl : n = k := by omega
  refine wp_exit (x_thenExit (x_thenExit (x_blockHit ?_)))
  refine x_thenNormal ?_
  refine c_rseq (n := 96) ⟨rfl, rfl⟩ ?_
  refine s_val (r_buildS (zs := litC) (out := litC) Try.runUnderlying49 Try.zeroValue49 places49 pn rfl) ?_
  refine s_val (r_makeIface Try.runUnderlying49 (fun _ h => nomatch h) rfl) ?_
  refine s_val (r_move rfl) ?_
  refine s_call (r_call Try.call13 (ec rfl en)) (get_mk _ _ _ _) ?_
  rintro v w ⟨g1, rfl, HC⟩
  replace H : St w0 [] w (_ :: _ :: _ :: _ :: _ :: _) := H.call0 HC
  refine s_val (r_move rfl) ?_
  refine s_val (r_move rfl) ?_
  refine s_val (r_conv Try.runUnderlying3 Try.runUnderlying28 rfl (w_u64 (by omega) (by omega))) ?_
  refine s_call (r_call Try.call14 (ec rfl (ec rfl (ec rfl (ec rfl en))))) (read_spec g1 (deepL bd n) (n : Int) (by rw [deepL_len]; omega) (fun y hy => (deepL_small hb32 n y hy).1) (fun y hy => (deepL_small hb32 n y hy).2) bt xs NT hxl hv _ (GetW.mkR (H.at 0 rfl) (deepL_len _) (hR.rrowM (fun _ => by omega) H (fun p hp => (List.mem_cons_of_mem _ (List.mem_cons_of_mem _ (List.mem_cons_of_mem _ (List.mem_cons_of_mem _ (List.mem_cons_of_mem _ (List.mem_append_left _ hp)))))))) (deepL_body (show BRow _ bd.a bd.b from fun _ => ⟨bh, 0, [], sph, _,_, (by rw [hbd]), (by rw [hbb, List.nil_append]; exact H.at 1 rfl), rfl⟩) n)) hT (H.ownsM (.cons _ (.cons _ (.cons _ (.cons _ (.cons _ (List.sublist_append_right _ _)))))))) ?_
  rintro v w ⟨rfl, HC⟩
  replace H := H.quiet HC
  refine s_val (r_move rfl) ?_
  refine s_val (r_extract rfl rfl) ?_
  refine s_val (r_extract rfl rfl) ?_
  refine s_new (m_alloc (cs := (kC (By.zero 32))) H Try.zeroValue44 rfl) ?_
  intro w b13 H
  refine s_st (m_storen H 0 32 Try.sizeOf44 rfl rfl (by first | exact (kC_length _) | exact (hC_length _) | exact (ceC_length _) | exact (ptC_length _ _ _ _) | exact (plV_length _ _ _) | exact litC_length) (by first | exact (kC_one _) | exact (hC_one _) | exact (ceC_one _) | exact (ptC_one _ _ _ _) | exact (plV_one _ _ _) | exact litC_one) rfl (by first | exact (by rw [kC_length]; omega) | exact (by rw [hC_length]; omega)) (by first | exact (kC_sp _ _) | exact (hC_sp _ _) | exact (kC_sp _ _) | exact (ceC_sp _ _))) (L' := (_ :: _ :: _ :: _ :: _ :: _ :: _)) rfl ?_
  intro w H
  refine s_val (r_assign rfl) ?_
  refine c_nil (l' := [_,_,_,_,_,_,_,_,_,_,_,_,_,_,_,_,_,_,_,_,_,_,_,_,_,_,_,_,_,_,_,_,_,_,_,_,_,_,_,_,_,_,_,_,_,_,_,_,_,_,_,_,_,_,_,_,_,_,_,_,_,_,_,_,_,_,_,_,_,_,_,_,_,_,_,_,_,_,_,_,_,_,_,_,_,_,_,_,_,_,_,_,_,_,_,_]) rfl ?_
  refine c_seq ?_
  refine c_rseq (n := 96) ⟨rfl, rfl⟩ ?_
  refine s_val (r_move rfl) ?_
  refine s_val (r_gtr rfl rfl) ?_
  refine c_nil (l' := [_,_,_,_,_,_,_,_,_,_,_,_,_,_,_,_,_,_,_,_,_,_,_,_,_,_,_,_,_,_,_,_,_,_,_,_,_,_,_,_,_,_,_,_,_,_,_,_,_,_,_,_,_,_,_,_,_,_,_,_,_,_,_,_,_,_,_,_,_,_,_,_,_,_,_,_,_,_,_,_,_,_,_,_,_,_,_,_,_,_,_,_,_,_,_,_]) rfl ?_
  refine c_if rfl (fun h63 => ?_) (fun h63 => ?_)
  ·skip
   have hrd := deep_read6 (bd := bd) (has := hasH xs) (key := keyH xs) (n := n) (by omega) (by omega)
   have hr1 := congrArg Prod.fst hrd
   have hr2 := congrArg Prod.snd hrd
   refine c_rseq (n := 96) ⟨rfl, rfl⟩ ?_
   refine s_val (r_move rfl) ?_
   refine s_test (r_eql rfl rfl) (fun h65 => ?_) (fun h65 => ?_)
   ·skip
    refine s_val (r_move rfl) ?_
    refine g_yes rfl rfl ?_
    refine s_val (r_loadn Try.isAgg44 Try.sizeOf44 rfl (H.at 0 rfl) (by first | exact (kC_td _) | exact (hC_td _) | exact (hC_seed _) | exact (ceC_td _) | exact (ceC_place _) | exact (ptC_td _ _ _ _) | exact (plV_td _ _ _)) (by first | exact (kC_length _) | exact (hC_length _) | exact (ceC_length _) | exact (ptC_length _ _ _ _) | exact (plV_length _ _ _) | exact litC_length | exact rfl)) ?_
    refine g_yes rfl rfl ?_
    refine s_val (r_buildA (pl := []) (zs := kC (By.zero 32)) (out := kC (By.zero 32)) Try.runUnderlying44 Try.sizeOf5 Try.zeroValue44 pn (by intro p hp; simp at hp) rfl) ?_
    refine g_yes rfl rfl ?_
    refine s_test (r_eqlB byT44 rfl rfl) (fun h69 => ?_) (fun h69 => ?_)
    ·skip
     refine s_val (r_pickt rfl rfl) ?_
     refine s_val (r_move rfl) ?_
     refine g_yes rfl rfl ?_
     refine s_val (r_move rfl) ?_
     refine g_yes rfl rfl ?_
     refine s_call (r_call Try.call13 (ec rfl en)) (get_mk _ _ _ _) ?_
     rintro v w ⟨g2, rfl, HC⟩
     replace H : St w0 [] w (_ :: _ :: _ :: _ :: _ :: _ :: _ :: _) := H.call0 HC
     refine g_yes rfl rfl ?_
     refine s_val (r_move rfl) ?_
     refine g_yes rfl rfl ?_
     refine s_val (r_conv Try.runUnderlying3 Try.runUnderlying28 rfl (w_u64 (by omega) (by omega))) ?_
     refine g_yes rfl rfl ?_
     refine s_call (r_call Try.call18 (ec rfl (ec rfl en))) (depth_spec g2 (deepL bd n) (n : Int) (by rw [deepL_len]; omega) (fun y hy => (deepL_small hb32 n y hy).1) _ (GetW.mkR (H.at 0 rfl) (deepL_len _) (hR.rrowM (fun _ => by omega) H (fun p hp => (List.mem_cons_of_mem _ (List.mem_cons_of_mem _ (List.mem_cons_of_mem _ (List.mem_cons_of_mem _ (List.mem_cons_of_mem _ (List.mem_cons_of_mem _ (List.mem_cons_of_mem _ (List.mem_append_left _ hp)))))))))) (deepL_body (show BRow _ bd.a bd.b from fun _ => ⟨bh, 0, [], sph, _,_, (by rw [hbd]), (by rw [hbb, List.nil_append]; exact H.at 3 rfl), rfl⟩) n))) ?_
     rintro v w ⟨rfl, HC⟩
     replace H := H.quiet HC
     rw [deep_needs hn1 (by omega)]
     refine g_yes rfl rfl ?_
     refine s_test (r_eql rfl rfl) (fun h77 => ?_) (fun h77 => ?_)
     ·skip
      refine s_val (r_pickt rfl rfl) ?_
      refine s_val (r_assign rfl) ?_
      refine c_nil (l' := [_,_,_,_,_,_,_,_,_,_,_,_,_,_,_,_,_,_,_,_,_,_,_,_,_,_,_,_,_,_,_,_,_,_,_,_,_,_,_,_,_,_,_,_,_,_,_,_,_,_,_,_,_,_,_,_,_,_,_,_,_,_,_,_,_,_,_,_,_,_,_,_,_,_,_,_,_,_,_,_,_,_,_,_,_,_,_,_,_,_,_,_,_,_,_,_]) rfl ?_
      refine wp_ret (x_thenRet ?_)
      refine e_ret (res1 rfl rfl) ⟨_, rfl, ?_⟩
      exact ⟨rfl, (H.sub (List.nil_sublist _))⟩
     ·skip
      exfalso; omega
    ·skip
     exact absurd hr1 h69
   ·skip
    exact absurd hr2 h65
  ·skip
   have hrd := deep_read5 (has := hasH xs) (key := keyH xs) (n := n) hb32 hn1 (by omega) hh2 hbb
   have hr1 := congrArg Prod.fst hrd
   have hr2 := congrArg Prod.snd hrd
   refine wp_skip ?_
   refine x_thenNormal ?_
   refine c_rseq (n := 96) ⟨rfl, rfl⟩ ?_
   refine s_val (r_move rfl) ?_
   refine s_test (r_eql rfl rfl) (fun h80 => ?_) (fun h80 => ?_)
   ·skip
    refine s_val (r_move rfl) ?_
    refine g_yes rfl rfl ?_
    refine s_val (r_loadn Try.isAgg44 Try.sizeOf44 rfl (H.at 0 rfl) (by first | exact (kC_td _) | exact (hC_td _) | exact (hC_seed _) | exact (ceC_td _) | exact (ceC_place _) | exact (ptC_td _ _ _ _) | exact (plV_td _ _ _)) (by first | exact (kC_length _) | exact (hC_length _) | exact (ceC_length _) | exact (ptC_length _ _ _ _) | exact (plV_length _ _ _) | exact litC_length | exact rfl)) ?_
    refine g_yes rfl rfl ?_
    refine s_val (r_loadn Try.isAgg44 Try.sizeOf44 rfl (H.at 4 rfl) (by first | exact (kC_td _) | exact (hC_td _) | exact (hC_seed _) | exact (ceC_td _) | exact (ceC_place _) | exact (ptC_td _ _ _ _) | exact (plV_td _ _ _)) (by first | exact (kC_length _) | exact (hC_length _) | exact (ceC_length _) | exact (ptC_length _ _ _ _) | exact (plV_length _ _ _) | exact litC_length | exact rfl)) ?_
    refine g_yes rfl rfl ?_
    refine s_test (r_eqlB byT44 rfl rfl) (fun h84 => ?_) (fun h84 => ?_)
    ·skip
     refine s_val (r_pickt rfl rfl) ?_
     refine s_val (r_move rfl) ?_
     refine g_yes rfl rfl ?_
     refine s_val (r_move rfl) ?_
     refine g_yes rfl rfl ?_
     refine s_call (r_call Try.call13 (ec rfl en)) (get_mk _ _ _ _) ?_
     rintro v w ⟨g3, rfl, HC⟩
     replace H : St w0 [] w (_ :: _ :: _ :: _ :: _ :: _ :: _ :: _) := H.call0 HC
     refine g_yes rfl rfl ?_
     refine s_val (r_move rfl) ?_
     refine g_yes rfl rfl ?_
     refine s_val (r_conv Try.runUnderlying3 Try.runUnderlying28 rfl (w_u64 (by omega) (by omega))) ?_
     refine g_yes rfl rfl ?_
     refine s_call (r_call Try.call18 (ec rfl (ec rfl en))) (depth_spec g3 (deepL bd n) (n : Int) (by rw [deepL_len]; omega) (fun y hy => (deepL_small hb32 n y hy).1) _ (GetW.mkR (H.at 0 rfl) (deepL_len _) (hR.rrowM (fun _ => by omega) H (fun p hp => (List.mem_cons_of_mem _ (List.mem_cons_of_mem _ (List.mem_cons_of_mem _ (List.mem_cons_of_mem _ (List.mem_cons_of_mem _ (List.mem_cons_of_mem _ (List.mem_cons_of_mem _ (List.mem_append_left _ hp)))))))))) (deepL_body (show BRow _ bd.a bd.b from fun _ => ⟨bh, 0, [], sph, _,_, (by rw [hbd]), (by rw [hbb, List.nil_append]; exact H.at 3 rfl), rfl⟩) n))) ?_
     rintro v w ⟨rfl, HC⟩
     replace H := H.quiet HC
     rw [deep_needs hn1 (by omega)]
     refine g_yes rfl rfl ?_
     refine s_val (r_move rfl) ?_
     refine g_yes rfl rfl ?_
     refine s_val (r_sub rfl rfl (w_i64e (r := ((n - 1 : Nat) : Int)) (by omega) (by omega) (by omega))) ?_
     refine g_yes rfl rfl ?_
     refine s_test (r_eql rfl rfl) (fun h94 => ?_) (fun h94 => ?_)
     ·skip
      refine s_val (r_pickt rfl rfl) ?_
      refine s_val (r_assign rfl) ?_
      refine c_nil (l' := [_,_,_,_,_,_,_,_,_,_,_,_,_,_,_,_,_,_,_,_,_,_,_,_,_,_,_,_,_,_,_,_,_,_,_,_,_,_,_,_,_,_,_,_,_,_,_,_,_,_,_,_,_,_,_,_,_,_,_,_,_,_,_,_,_,_,_,_,_,_,_,_,_,_,_,_,_,_,_,_,_,_,_,_,_,_,_,_,_,_,_,_,_,_,_,_]) rfl ?_
      refine wp_ret ?_
      refine e_ret (res1 rfl rfl) ⟨_, rfl, ?_⟩
      exact ⟨rfl, (H.sub (List.nil_sublist _))⟩
     ·skip
      exfalso; omega
    ·skip
     exact absurd hr1 h84
   ·skip
    exact absurd hr2 h80

end Go.Proofs.Ytobfnieebiakeaa

