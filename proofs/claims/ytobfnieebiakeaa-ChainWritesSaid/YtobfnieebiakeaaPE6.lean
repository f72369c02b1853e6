import Derived.Test.YtobfnieebiakeaaPE5
import Derived.Test.YtobfnieebiakeaaPB3
namespace Go.Proofs.Ytobfnieebiakeaa
open Go Go.Er

theorem make_l (old new : Blk) (w0 : World) : Calls Try.prog 25 #[.agg (kC old).toArray, .agg (kC new).toArray] w0 fun e w => ∃ v, e = .returned v ∧ ∃ (ds : List UInt8) (ok : Bool) (a2 : Option Addr) (c2 : Nat) (N : List (Nat × Obj)), v = .tuple #[.slice a2 ds.length c2, .bool ok] ∧ (ok = true → applyD old ds = some new ∧ ds.length ≤ 20) ∧ RowN 1 5 (bC ds) ds.length a2 c2 N ∧ St w0 [] w N :=
 (make_spec old new w0).mono fun _ _ ⟨v, he, h⟩ => ⟨v, he, by
  rcases h with ⟨ds, a, c, N, h1, h2, rfl, hN, H⟩ | ⟨rfl, H⟩
  ·exact ⟨ds, true, a, c, N, rfl, fun _ => ⟨h1, h2⟩, hN, H⟩
  ·exact ⟨[], false, none, 0, [], rfl, (fun h => nomatch h), RowN.nil, H⟩⟩

set_option maxHeartbeats 4000000 in
set_option maxRecDepth 20000 in
theorem writes_law (seed : Key) (al : Option Addr) (cl : Nat) (ls : List Blk) (w0 : World) (hr : RRow kC w0 al ls) :
  Calls Try.prog 8 #[.agg (kC seed).toArray, .slice al ls.length cl] w0 fun e w => ∃ v, e = .returned v ∧ (v = .bool true ∧ St w0 [] w []) := by
 have H := St.refl w0
 refine c_enter (args := [.agg (kC seed).toArray, .slice al ls.length cl]) (l := [.agg (kC seed).toArray, .slice al ls.length cl, undef, undef, undef, undef, undef, undef, undef, undef, undef, undef, undef, undef, undef, undef, undef, undef, undef, undef, undef, undef, undef, undef, undef, undef, undef, undef, undef, undef, undef, undef, undef, undef, undef, undef, undef, undef, undef, undef, undef, undef, undef, undef, undef, undef, undef, undef, undef, undef, undef, undef, undef, undef, undef, undef, undef, undef, undef, undef, undef, undef, undef, undef, undef, undef, undef, undef, undef, undef, undef, undef, undef, undef, undef, undef, undef, undef, undef, undef, undef, undef, undef, undef, undef, undef, undef, undef, undef, undef, undef, undef, undef, undef, undef, undef, undef, undef, undef, undef, undef, undef, undef, undef, undef, undef, undef, undef, undef, undef, undef, undef, undef, undef, undef, undef, undef, undef, undef, undef, undef, undef, undef, undef, undef, undef, undef, undef, undef, undef, undef, undef]) Try.func8 Try.ntmps8 rfl rfl ?_
 refine c_rseq (n := 132) ⟨rfl, rfl⟩ ?_
 refine s_new (m_box (cs := (kC seed)) H rfl rfl) ?_
 intro w b2 H
 refine s_val (r_assign rfl) ?_
 refine c_nil (l' := [_,_,_,_,_,_,_,_,_,_,_,_,_,_,_,_,_,_,_,_,_,_,_,_,_,_,_,_,_,_,_,_,_,_,_,_,_,_,_,_,_,_,_,_,_,_,_,_,_,_,_,_,_,_,_,_,_,_,_,_,_,_,_,_,_,_,_,_,_,_,_,_,_,_,_,_,_,_,_,_,_,_,_,_,_,_,_,_,_,_,_,_,_,_,_,_,_,_,_,_,_,_,_,_,_,_,_,_,_,_,_,_,_,_,_,_,_,_,_,_,_,_,_,_,_,_,_,_,_,_,_,_]) rfl ?_
 refine c_seq ?_
 refine c_rseq (n := 132) ⟨rfl, rfl⟩ ?_
 refine s_call (r_call Try.call9 en) (awake23_spec _) ?_
 rintro v w ⟨rfl, HC⟩
 replace H := H.quiet HC
 refine s_val (r_not rfl) ?_
 refine c_nil (l' := [_,_,_,_,_,_,_,_,_,_,_,_,_,_,_,_,_,_,_,_,_,_,_,_,_,_,_,_,_,_,_,_,_,_,_,_,_,_,_,_,_,_,_,_,_,_,_,_,_,_,_,_,_,_,_,_,_,_,_,_,_,_,_,_,_,_,_,_,_,_,_,_,_,_,_,_,_,_,_,_,_,_,_,_,_,_,_,_,_,_,_,_,_,_,_,_,_,_,_,_,_,_,_,_,_,_,_,_,_,_,_,_,_,_,_,_,_,_,_,_,_,_,_,_,_,_,_,_,_,_,_,_]) rfl ?_
 refine c_iff rfl ?_
 refine wp_skip ?_
 refine x_thenNormal ?_
 refine c_seq ?_
 refine c_rseq (n := 132) ⟨rfl, rfl⟩ ?_
 refine s_val (r_move rfl) ?_
 refine s_val (r_lens Try.runUnderlying68 (ec rfl en)) ?_
 refine s_val (r_gtr rfl rfl) ?_
 refine c_nil (l' := [_,_,_,_,_,_,_,_,_,_,_,_,_,_,_,_,_,_,_,_,_,_,_,_,_,_,_,_,_,_,_,_,_,_,_,_,_,_,_,_,_,_,_,_,_,_,_,_,_,_,_,_,_,_,_,_,_,_,_,_,_,_,_,_,_,_,_,_,_,_,_,_,_,_,_,_,_,_,_,_,_,_,_,_,_,_,_,_,_,_,_,_,_,_,_,_,_,_,_,_,_,_,_,_,_,_,_,_,_,_,_,_,_,_,_,_,_,_,_,_,_,_,_,_,_,_,_,_,_,_,_,_]) rfl ?_
 refine c_if rfl (fun h24 => ?_) (fun h24 => ?_)
 ·skip
  refine c_rseq (n := 132) ⟨rfl, rfl⟩ ?_
  refine s_val (r_assign rfl) ?_
  refine c_nil (l' := [_,_,_,_,_,_,_,_,_,_,_,_,_,_,_,_,_,_,_,_,_,_,_,_,_,_,_,_,_,_,_,_,_,_,_,_,_,_,_,_,_,_,_,_,_,_,_,_,_,_,_,_,_,_,_,_,_,_,_,_,_,_,_,_,_,_,_,_,_,_,_,_,_,_,_,_,_,_,_,_,_,_,_,_,_,_,_,_,_,_,_,_,_,_,_,_,_,_,_,_,_,_,_,_,_,_,_,_,_,_,_,_,_,_,_,_,_,_,_,_,_,_,_,_,_,_,_,_,_,_,_,_]) rfl ?_
  refine wp_ret (x_thenRet ?_)
  refine e_ret (res1 rfl rfl) ⟨_, rfl, ?_⟩
  exact ⟨rfl, (H.sub (List.nil_sublist _))⟩
 ·skip
  refine wp_skip ?_
  refine x_thenNormal ?_
  refine c_rseq (n := 132) ⟨rfl, rfl⟩ ?_
  refine s_val (r_buildS (zs := litC) (out := litC) Try.runUnderlying49 Try.zeroValue49 places49 pn rfl) ?_
  refine s_val (r_makeIface Try.runUnderlying49 (fun _ h => nomatch h) rfl) ?_
  refine s_val (r_loadn Try.isAgg24 Try.sizeOf24 rfl (H.at 0 rfl) (by first | exact (kC_td _) | exact (hC_td _) | exact (hC_seed _) | exact (ceC_td _) | exact (ceC_place _) | exact (ptC_td _ _ _ _) | exact (plV_td _ _ _)) (by first | exact (kC_length _) | exact (hC_length _) | exact (ceC_length _) | exact (ptC_length _ _ _ _) | exact (plV_length _ _ _) | exact litC_length | exact rfl)) ?_
  refine s_call (r_call Try.call20 (ec rfl (ec rfl en))) (new_spec (.iface 49 (.agg litC.toArray)) seed litL litR (splits_lit litC) _) ?_
  rintro v w ⟨bt, NT, rfl, hT, HC⟩
  replace H : St w0 [] w (_ :: NT) := (H.call0 HC).perm (List.perm_append_comm (l₁ := [_]) (l₂ := NT))
  obtain ⟨xs, hxs⟩ : ∃ xs, xs = tree0 litL litR seed [] := ⟨_, rfl⟩
  rw [show [root seed] = xs by rw [hxs, tree0_nil]] at hT
  have hv : Valid xs := by rw [hxs]; exact tree0_valid []
  have hx1 : xs.length = 1 := by rw [hxs, tree0_nil]; rfl
  have hxl : xs.length ≤ 100000 := by omega
  refine s_val (r_assign rfl) ?_
  refine c_nil (l' := [_,_,_,_,_,_,_,_,_,_,_,_,_,_,_,_,_,_,_,_,_,_,_,_,_,_,_,_,_,_,_,_,_,_,_,_,_,_,_,_,_,_,_,_,_,_,_,_,_,_,_,_,_,_,_,_,_,_,_,_,_,_,_,_,_,_,_,_,_,_,_,_,_,_,_,_,_,_,_,_,_,_,_,_,_,_,_,_,_,_,_,_,_,_,_,_,_,_,_,_,_,_,_,_,_,_,_,_,_,_,_,_,_,_,_,_,_,_,_,_,_,_,_,_,_,_,_,_,_,_,_,_]) rfl ?_
  refine c_rseq (n := 132) ⟨rfl, rfl⟩ ?_
  refine s_val (r_assign rfl) ?_
  refine c_nil (l' := [_,_,_,_,_,_,_,_,_,_,_,_,_,_,_,_,_,_,_,_,_,_,_,_,_,_,_,_,_,_,_,_,_,_,_,_,_,_,_,_,_,_,_,_,_,_,_,_,_,_,_,_,_,_,_,_,_,_,_,_,_,_,_,_,_,_,_,_,_,_,_,_,_,_,_,_,_,_,_,_,_,_,_,_,_,_,_,_,_,_,_,_,_,_,_,_,_,_,_,_,_,_,_,_,_,_,_,_,_,_,_,_,_,_,_,_,_,_,_,_,_,_,_,_,_,_,_,_,_,_,_,_]) rfl ?_
  refine c_rseq (n := 132) ⟨rfl, rfl⟩ ?_
  refine s_val (r_assign rfl) ?_
  refine c_nil (l' := [_,_,_,_,_,_,_,_,_,_,_,_,_,_,_,_,_,_,_,_,_,_,_,_,_,_,_,_,_,_,_,_,_,_,_,_,_,_,_,_,_,_,_,_,_,_,_,_,_,_,_,_,_,_,_,_,_,_,_,_,_,_,_,_,_,_,_,_,_,_,_,_,_,_,_,_,_,_,_,_,_,_,_,_,_,_,_,_,_,_,_,_,_,_,_,_,_,_,_,_,_,_,_,_,_,_,_,_,_,_,_,_,_,_,_,_,_,_,_,_,_,_,_,_,_,_,_,_,_,_,_,_]) rfl ?_
  refine c_seq ?_
  refine c_rseq (n := 132) ⟨rfl, rfl⟩ ?_
  refine s_val (r_move rfl) ?_
  refine s_val (r_lens Try.runUnderlying68 (ec rfl en)) ?_
  refine s_val (r_move rfl) ?_
  refine c_nil (l' := [_,_,_,_,_,_,_,_,_,_,_,_,_,_,_,_,_,_,_,_,_,_,_,_,_,_,_,_,_,_,_,_,_,_,_,_,_,_,_,_,_,_,_,_,_,_,_,_,_,_,_,_,_,_,_,_,_,_,_,_,_,_,_,_,_,_,_,_,_,_,_,_,_,_,_,_,_,_,_,_,_,_,_,_,_,_,_,_,_,_,_,_,_,_,_,_,_,_,_,_,_,_,_,_,_,_,_,_,_,_,_,_,_,_,_,_,_,_,_,_,_,_,_,_,_,_,_,_,_,_,_,_]) rfl ?_
  refine wp_block ?_
  refine c_loop (fun (l0 : List Value) (i : Nat) (l : List Value) (w : World) => ∃ (u4 u8 u9 u10 u11 u12 u13 u14 u15 u32 u33 u34 u35 u36 u37 u38 u39 u40 u41 u42 u43 u44 u45 u46 u47 u48 u49 u50 u51 u52 u53 u54 u55 u56 u57 u58 u59 u60 u61 u62 u63 u64 u65 u66 u67 u68 u69 u70 u71 u72 u73 u74 u75 u76 u77 u78 u79 u80 u81 u82 u83 u84 u85 u86 u87 u88 u89 u90 u91 u92 u93 u94 u95 u96 u97 u98 u99 u100 u101 u102 u103 u104 : Value) (deep : Nat) (cs : List Ce) (a6 : Option Addr) (c6 : Nat) (N Nb : List (Nat × Obj)), l = ovr l0 [N_, N_, N_, N_, Y_ u4, N_, Y_ (.slice a6 cs.length c6), Y_ (.int .i64 (deep : Nat)), Y_ u8, Y_ u9, Y_ u10, Y_ u11, Y_ u12, Y_ u13, Y_ u14, Y_ u15, N_, N_, N_, N_, N_, N_, N_, N_, N_, N_, N_, N_, N_, N_, N_, Y_ (.int .i64 i), Y_ u32, Y_ u33, Y_ u34, Y_ u35, Y_ u36, Y_ u37, Y_ u38, Y_ u39, Y_ u40, Y_ u41, Y_ u42, Y_ u43, Y_ u44, Y_ u45, Y_ u46, Y_ u47, Y_ u48, Y_ u49, Y_ u50, Y_ u51, Y_ u52, Y_ u53, Y_ u54, Y_ u55, Y_ u56, Y_ u57, Y_ u58, Y_ u59, Y_ u60, Y_ u61, Y_ u62, Y_ u63, Y_ u64, Y_ u65, Y_ u66, Y_ u67, Y_ u68, Y_ u69, Y_ u70, Y_ u71, Y_ u72, Y_ u73, Y_ u74, Y_ u75, Y_ u76, Y_ u77, Y_ u78, Y_ u79, Y_ u80, Y_ u81, Y_ u82, Y_ u83, Y_ u84, Y_ u85, Y_ u86, Y_ u87, Y_ u88, Y_ u89, Y_ u90, Y_ u91, Y_ u92, Y_ u93, Y_ u94, Y_ u95, Y_ u96, Y_ u97, Y_ u98, Y_ u99, Y_ u100, Y_ u101, Y_ u102, Y_ u103, Y_ u104] ∧ i ≤ ls.length ∧ WrI (hasH xs) (keyH xs) ls cs i deep ∧ RowN 11 43 (rowC ceC cs) cs.length a6 c6 N ∧ CsN 5 cs Nb ∧ St w0 [] w ((b2, .cells (kC seed).toArray 24 (0, 0)) :: N ++ (Nb ++ NT))) (fun (i : Nat) => ls.length - i) 0 ⟨_,_,_,_,_,_,_,_,_,_,_,_,_,_,_,_,_,_,_,_,_,_,_,_,_,_,_,_,_,_,_,_,_,_,_,_,_,_,_,_,_,_,_,_,_,_,_,_,_,_,_,_,_,_,_,_,_,_,_,_,_,_,_,_,_,_,_,_,_,_,_,_,_,_,_,_,_,_,_,_,_,_, 0, [], none, 0, [], [], rfl, Nat.zero_le _, (WrI.start _ _ _), RowN.nil, CsN.nil, H⟩ ?_
  intro i l w ⟨u4, u8, u9, u10, u11, u12, u13, u14, u15, u32, u33, u34, u35, u36, u37, u38, u39, u40, u41, u42, u43, u44, u45, u46, u47, u48, u49, u50, u51, u52, u53, u54, u55, u56, u57, u58, u59, u60, u61, u62, u63, u64, u65, u66, u67, u68, u69, u70, u71, u72, u73, u74, u75, u76, u77, u78, u79, u80, u81, u82, u83, u84, u85, u86, u87, u88, u89, u90, u91, u92, u93, u94, u95, u96, u97, u98, u99, u100, u101, u102, u103, u104, deep, cs, a6, c6, N, Nb, hl, hi, hW, hR, hC, H⟩
  obtain rfl := hl.trans (rfl : _ = [_,_,_,_,_,_,_,_,_,_,_,_,_,_,_,_,_,_,_,_,_,_,_,_,_,_,_,_,_,_,_,_,_,_,_,_,_,_,_,_,_,_,_,_,_,_,_,_,_,_,_,_,_,_,_,_,_,_,_,_,_,_,_,_,_,_,_,_,_,_,_,_,_,_,_,_,_,_,_,_,_,_,_,_,_,_,_,_,_,_,_,_,_,_,_,_,_,_,_,_,_,_,_,_,_,_,_,_,_,_,_,_,_,_,_,_,_,_,_,_,_,_,_,_,_,_,_,_,_,_,_,_])
  clear hl
  have hdp := hW.deep
  have hwl := hW.len
  refine c_rseq (n := 132) ⟨rfl, rfl⟩ ?_
  refine s_val (r_lss rfl rfl) ?_
  refine c_nil (l' := [_,_,_,_,_,_,_,_,_,_,_,_,_,_,_,_,_,_,_,_,_,_,_,_,_,_,_,_,_,_,_,_,_,_,_,_,_,_,_,_,_,_,_,_,_,_,_,_,_,_,_,_,_,_,_,_,_,_,_,_,_,_,_,_,_,_,_,_,_,_,_,_,_,_,_,_,_,_,_,_,_,_,_,_,_,_,_,_,_,_,_,_,_,_,_,_,_,_,_,_,_,_,_,_,_,_,_,_,_,_,_,_,_,_,_,_,_,_,_,_,_,_,_,_,_,_,_,_,_,_,_,_]) rfl ?_
  refine c_seq ?_
  refine c_if rfl (fun h32 => ?_) (fun h32 => ?_)
  ·skip
   obtain ⟨b, hx⟩ : ∃ b, ls[i]? = some b := ⟨_, List.getElem?_eq_getElem (by omega)⟩
   obtain ⟨b0, off, pre, post, T0, fz0, rfl, hb0, hp0⟩ := hr (by omega)
   refine wp_skip ?_
   refine x_thenNormal ?_
   refine c_seq ?_
   refine wp_block ?_
   refine c_rseq (n := 132) ⟨rfl, rfl⟩ ?_
   refine s_val (r_move rfl) ?_
   refine s_val (r_indexAddrS Try.runUnderlying68 Try.sizeOf44 rfl rfl (by omega) (by omega)) ?_
   refine s_val (r_loadn Try.isAgg44 Try.sizeOf44 rfl (H.rd0 hb0) (row_td elKB pre post hp0 hx (by omega)) (kC_length _)) ?_
   refine s_new (m_alloc (cs := (kC (By.zero 32))) H Try.zeroValue44 rfl) ?_
   intro w b9 H
   refine s_val (r_assign rfl) ?_
   refine s_st (m_storen H 0 32 Try.sizeOf44 rfl rfl (by first | exact (kC_length _) | exact (hC_length _) | exact (ceC_length _) | exact (ptC_length _ _ _ _) | exact (plV_length _ _ _) | exact litC_length) (by first | exact (kC_one _) | exact (hC_one _) | exact (ceC_one _) | exact (ptC_one _ _ _ _) | exact (plV_one _ _ _) | exact litC_one) rfl (by first | exact (by rw [kC_length]; omega) | exact (by rw [hC_length]; omega)) (by first | exact (kC_sp _ _) | exact (hC_sp _ _) | exact (kC_sp _ _) | exact (ceC_sp _ _))) (L' := (_ :: _ :: _)) rfl ?_
   intro w H
   refine c_nil (l' := [_,_,_,_,_,_,_,_,_,_,_,_,_,_,_,_,_,_,_,_,_,_,_,_,_,_,_,_,_,_,_,_,_,_,_,_,_,_,_,_,_,_,_,_,_,_,_,_,_,_,_,_,_,_,_,_,_,_,_,_,_,_,_,_,_,_,_,_,_,_,_,_,_,_,_,_,_,_,_,_,_,_,_,_,_,_,_,_,_,_,_,_,_,_,_,_,_,_,_,_,_,_,_,_,_,_,_,_,_,_,_,_,_,_,_,_,_,_,_,_,_,_,_,_,_,_,_,_,_,_,_,_]) rfl ?_
   refine c_rseq (n := 132) ⟨rfl, rfl⟩ ?_
   refine s_val (r_move rfl) ?_
   refine s_val (r_add rfl rfl (w_i64e (r := ((i + 1 : Nat) : Int)) (by omega) (by omega) (by omega))) ?_
   refine s_val (r_conv Try.runUnderlying3 Try.runUnderlying28 rfl (w_u64 (by omega) (by omega))) ?_
   refine s_val (r_assign rfl) ?_
   refine c_nil (l' := [_,_,_,_,_,_,_,_,_,_,_,_,_,_,_,_,_,_,_,_,_,_,_,_,_,_,_,_,_,_,_,_,_,_,_,_,_,_,_,_,_,_,_,_,_,_,_,_,_,_,_,_,_,_,_,_,_,_,_,_,_,_,_,_,_,_,_,_,_,_,_,_,_,_,_,_,_,_,_,_,_,_,_,_,_,_,_,_,_,_,_,_,_,_,_,_,_,_,_,_,_,_,_,_,_,_,_,_,_,_,_,_,_,_,_,_,_,_,_,_,_,_,_,_,_,_,_,_,_,_,_,_]) rfl ?_
   refine c_rseq (n := 132) ⟨rfl, rfl⟩ ?_
   refine s_val (r_move rfl) ?_
   refine s_val (r_move rfl) ?_
   refine s_call (r_call Try.call16 (ec rfl en)) (leaf_spec _ _) ?_
   rintro v w ⟨rfl, HC⟩
   replace H := H.quiet HC
   rw [show lf ((i + 1 : Nat) : Int) = 2 * ((i + 1 : Nat) : Int) by unfold lf; omega]
   have hh : hasH xs (2 * ((i + 1 : Nat) : Int)) = true := by rw [hxs]; exact has_tree (by omega) (by omega) (fun h => nomatch h)
   refine s_call (r_call Try.call21 (ec rfl (ec rfl en))) (key_spec bt (.iface 49 (.agg litC.toArray)) xs NT hxl hv (2 * ((i + 1 : Nat) : Int)) (by omega) litL litR (splits_lit litC) _ hT (H.ownsM (.cons _ (.cons _ ((List.sublist_append_right _ _).trans (List.sublist_append_right _ _)))))) ?_
   rintro v w ⟨k, ok, hkr, rfl, HC⟩
   replace H := H.quiet HC
   obtain ⟨rfl, _⟩ := keyH_of hv hkr
   refine s_val (r_move rfl) ?_
   refine s_val (r_extract rfl rfl) ?_
   refine s_val (r_extract rfl rfl) ?_
   refine s_new (m_alloc (cs := (kC (By.zero 32))) H Try.zeroValue24 rfl) ?_
   intro w b11 H
   refine s_st (m_storen H 0 32 Try.sizeOf24 rfl rfl (by first | exact (kC_length _) | exact (hC_length _) | exact (ceC_length _) | exact (ptC_length _ _ _ _) | exact (plV_length _ _ _) | exact litC_length) (by first | exact (kC_one _) | exact (hC_one _) | exact (ceC_one _) | exact (ptC_one _ _ _ _) | exact (plV_one _ _ _) | exact litC_one) rfl (by first | exact (by rw [kC_length]; omega) | exact (by rw [hC_length]; omega)) (by first | exact (kC_sp _ _) | exact (hC_sp _ _) | exact (kC_sp _ _) | exact (ceC_sp _ _))) (L' := (_ :: _ :: _ :: _)) rfl ?_
   intro w H
   refine s_val (r_assign rfl) ?_
   refine c_nil (l' := [_,_,_,_,_,_,_,_,_,_,_,_,_,_,_,_,_,_,_,_,_,_,_,_,_,_,_,_,_,_,_,_,_,_,_,_,_,_,_,_,_,_,_,_,_,_,_,_,_,_,_,_,_,_,_,_,_,_,_,_,_,_,_,_,_,_,_,_,_,_,_,_,_,_,_,_,_,_,_,_,_,_,_,_,_,_,_,_,_,_,_,_,_,_,_,_,_,_,_,_,_,_,_,_,_,_,_,_,_,_,_,_,_,_,_,_,_,_,_,_,_,_,_,_,_,_,_,_,_,_,_,_]) rfl ?_
   skip
   refine c_cut (fun (l0 : List Value) (l : List Value) (w : World) => ∃ (u46 u47 u48 u49 u50 u51 u52 : Value) (b13 bh : Nat) (sph : List Value) (bd : Bd), l = ovr l0 [N_, N_, N_, N_, N_, N_, N_, N_, N_, N_, N_, N_, N_, Y_ (.pointer (some ⟨b13, 0, none⟩)), N_, N_, N_, N_, N_, N_, N_, N_, N_, N_, N_, N_, N_, N_, N_, N_, N_, N_, N_, N_, N_, N_, N_, N_, N_, N_, N_, N_, N_, N_, N_, N_, Y_ u46, Y_ u47, Y_ u48, Y_ u49, Y_ u50, Y_ u51, Y_ u52] ∧ bd.b = (xorB (padB (keyH xs (2 * ((i + 1 : Nat) : Int))) ((i + 1 : Nat) : Int)).1 b.1) ∧ RowN 1 5 (bC bd.b) bd.b.length bd.a bd.c [(bh, Obj.cells (bC bd.b ++ sph).toArray 5 (0, 0))] ∧ St w0 [] w ((b13, .cells (ceC (fullC ((i + 1 : Nat) : Int) bd)).toArray 43 (0, 0)) :: (bh, .cells (bC bd.b ++ sph).toArray 5 (0, 0)) :: (b11, .cells (kC (keyH xs (2 * ((i + 1 : Nat) : Int)))).toArray 24 (0, 0)) :: (b9, .cells (kC b).toArray 44 (0, 0)) :: (b2, .cells (kC seed).toArray 24 (0, 0)) :: N ++ (Nb ++ NT))) ?_ ?_
   ·skip
    refine d_beginS (fun W => W.heap[b11]? = some (Obj.cells (kC (keyH xs (2 * ((i + 1 : Nat) : Int)))).toArray 24 (0, 0)) ∧ St w0 [] W []) (sz := 132) ⟨rfl, rfl⟩ (by kernel_rfl) H (⟨H.own (b11, Obj.cells (kC (keyH xs (2 * ((i + 1 : Nat) : Int)))).toArray 24 (0, 0)) (by first | exact List.mem_cons_self | exact (List.mem_cons_of_mem _ List.mem_cons_self) | exact (List.mem_cons_of_mem _ (List.mem_cons_of_mem _ List.mem_cons_self))), H.sub (List.nil_sublist _)⟩) rfl ?_
    intro w H
    refine d_take (i := 0) rfl (by kernel_rfl) (fun _ _ _ h => h) (⟨H.own (b11, Obj.cells (kC (keyH xs (2 * ((i + 1 : Nat) : Int)))).toArray 24 (0, 0)) (by first | exact List.mem_cons_self | exact (List.mem_cons_of_mem _ List.mem_cons_self) | exact (List.mem_cons_of_mem _ (List.mem_cons_of_mem _ List.mem_cons_self))), H.sub (List.nil_sublist _)⟩) (fun _ _ => r_move rfl) rfl ?_
    refine d_take (i := 1) rfl (by kernel_rfl) (fun _ _ _ h => h) (⟨H.own (b11, Obj.cells (kC (keyH xs (2 * ((i + 1 : Nat) : Int)))).toArray 24 (0, 0)) (by first | exact List.mem_cons_self | exact (List.mem_cons_of_mem _ List.mem_cons_self) | exact (List.mem_cons_of_mem _ (List.mem_cons_of_mem _ List.mem_cons_self))), H.sub (List.nil_sublist _)⟩) (fun _ HS => by obtain ⟨HSk, HS⟩ := HS; exact r_loadn Try.isAgg24 Try.sizeOf24 rfl (id HSk) (by first | exact (kC_td _) | exact (hC_td _) | exact (hC_seed _) | exact (ceC_td _) | exact (ceC_place _) | exact (ptC_td _ _ _ _) | exact (plV_td _ _ _)) (by first | exact (kC_length _) | exact (hC_length _) | exact (ceC_length _) | exact (ptC_length _ _ _ _) | exact (plV_length _ _ _) | exact litC_length | exact rfl)) rfl ?_
    refine d_take (i := 2) rfl (by kernel_rfl) (fun _ _ _ h => h) (⟨H.own (b11, Obj.cells (kC (keyH xs (2 * ((i + 1 : Nat) : Int)))).toArray 24 (0, 0)) (by first | exact List.mem_cons_self | exact (List.mem_cons_of_mem _ List.mem_cons_self) | exact (List.mem_cons_of_mem _ (List.mem_cons_of_mem _ List.mem_cons_self))), H.sub (List.nil_sublist _)⟩) (fun _ _ => r_move rfl) rfl ?_
    refine d_take (i := 4) rfl (by kernel_rfl) (fun _ _ _ h => h) (⟨H.own (b11, Obj.cells (kC (keyH xs (2 * ((i + 1 : Nat) : Int)))).toArray 24 (0, 0)) (by first | exact List.mem_cons_self | exact (List.mem_cons_of_mem _ List.mem_cons_self) | exact (List.mem_cons_of_mem _ (List.mem_cons_of_mem _ List.mem_cons_self))), H.sub (List.nil_sublist _)⟩) (fun _ _ => r_sliceA Try.runUnderlying44 Try.sizeOf5 rfl) rfl ?_
    refine d_all2 (i := 3) (j := 7) (by kernel_rfl) ?_ ?_
    ·skip
     refine b_call rfl go_none (r_call Try.call23 (ec rfl (ec rfl en))) (pad_spec (keyH xs (2 * ((i + 1 : Nat) : Int))) ((i + 1 : Nat) : Int) (by omega) (by omega) _) rfl ?_
     rintro v w ⟨rfl, HC⟩
     replace H := H.quiet HC
     refine ⟨(⟨H.own (b11, Obj.cells (kC (keyH xs (2 * ((i + 1 : Nat) : Int)))).toArray 24 (0, 0)) (by first | exact List.mem_cons_self | exact (List.mem_cons_of_mem _ List.mem_cons_self) | exact (List.mem_cons_of_mem _ (List.mem_cons_of_mem _ List.mem_cons_self))), H.sub (List.nil_sublist _)⟩), ?_⟩
     refine d_all2 (i := 5) (j := 7) (by kernel_rfl) ?_ ?_
     ·skip
      refine b_call rfl go_none (r_call Try.call22 (ec rfl (ec rfl en))) (rhide_l (padB (keyH xs (2 * ((i + 1 : Nat) : Int))) ((i + 1 : Nat) : Int)) _ _ _ b.1 b.2.symm (by rw [b.2]; decide) _ (fun _ => ⟨b9, 0, [], [], _,_, rfl, (by rw [List.nil_append, List.append_nil]; exact H.at 1 rfl), rfl⟩)) rfl ?_
      rintro v w ⟨ah, ch, Nh, rfl, hNh, HC⟩
      replace H := H.call0 HC
      have hxl2 : (xorB (padB (keyH xs (2 * ((i + 1 : Nat) : Int))) ((i + 1 : Nat) : Int)).1 b.1).length = b.1.length := xorB_length (by rw [(padB _ _).2, b.2]; decide)
      rw [← hxl2] at hNh ⊢
      obtain ⟨bh, sph, rfl, _, rfl, _⟩ := RowN.some hNh (by rw [hxl2, b.2]; decide)
      replace H : St w0 [] w (_ :: _ :: _ :: _ :: _) := H
      obtain ⟨bd, hbd⟩ : ∃ q : Bd, q = ⟨some ⟨bh, 0, none⟩, xorB (padB (keyH xs (2 * ((i + 1 : Nat) : Int))) ((i + 1 : Nat) : Int)).1 b.1, ch⟩ := ⟨_, rfl⟩
      have hbdb : bd.b = xorB (padB (keyH xs (2 * ((i + 1 : Nat) : Int))) ((i + 1 : Nat) : Int)).1 b.1 := by rw [hbd]
      have hNbd : RowN 1 5 (bC bd.b) bd.b.length bd.a bd.c [(bh, Obj.cells (bC bd.b ++ sph).toArray 5 (0, 0))] := by rw [hbd]; exact hNh
      rw [← hbdb] at H
      refine ⟨(⟨H.own (b11, Obj.cells (kC (keyH xs (2 * ((i + 1 : Nat) : Int)))).toArray 24 (0, 0)) (by first | exact List.mem_cons_self | exact (List.mem_cons_of_mem _ List.mem_cons_self) | exact (List.mem_cons_of_mem _ (List.mem_cons_of_mem _ List.mem_cons_self))), H.sub (List.nil_sublist _)⟩), ?_⟩
      rw [show Value.slice (some ⟨bh, 0, none⟩) (xorB (padB (keyH xs (2 * ((i + 1 : Nat) : Int))) ((i + 1 : Nat) : Int)).1 b.1).length ch = bdV bd by rw [hbd]; rfl]
      refine d_take (i := 6) rfl (by kernel_rfl) (fun _ _ _ h => h) (⟨H.own (b11, Obj.cells (kC (keyH xs (2 * ((i + 1 : Nat) : Int)))).toArray 24 (0, 0)) (by first | exact List.mem_cons_self | exact (List.mem_cons_of_mem _ List.mem_cons_self) | exact (List.mem_cons_of_mem _ (List.mem_cons_of_mem _ List.mem_cons_self))), H.sub (List.nil_sublist _)⟩) (fun _ _ => r_buildS Try.runUnderlying43 Try.zeroValue43 places43 (pc rfl (pc rfl (pc rfl pn))) (rfl : fillL _ _ _ = some (ceC (fullC ((i + 1 : Nat) : Int) bd)))) rfl ?_
      refine d_all1 (i := 7) (by kernel_rfl) ?_
      refine b_new rfl go_none (m_alloc (cs := (ceC ce0)) H Try.zeroValue43 rfl) rfl (fun _ _ H => (⟨H.own (b11, Obj.cells (kC (keyH xs (2 * ((i + 1 : Nat) : Int)))).toArray 24 (0, 0)) (by first | exact List.mem_cons_self | exact (List.mem_cons_of_mem _ List.mem_cons_self) | exact (List.mem_cons_of_mem _ (List.mem_cons_of_mem _ List.mem_cons_self))), H.sub (List.nil_sublist _)⟩)) ?_
      intro w b13 H
      refine d_all1 (i := 8) (by kernel_rfl) ?_
      refine b_st rfl go_none (m_storen H 0 11 Try.sizeOf43 rfl rfl (by first | exact (kC_length _) | exact (hC_length _) | exact (ceC_length _) | exact (ptC_length _ _ _ _) | exact (plV_length _ _ _) | exact litC_length) (by first | exact (kC_one _) | exact (hC_one _) | exact (ceC_one _) | exact (ptC_one _ _ _ _) | exact (plV_one _ _ _) | exact litC_one) rfl (by show 0 + 11 ≤ 11; omega) (ceC_sp _ _)) (L' := (_ :: _ :: _ :: _ :: _ :: _)) rfl rfl (fun _ H => (⟨H.own (b11, Obj.cells (kC (keyH xs (2 * ((i + 1 : Nat) : Int)))).toArray 24 (0, 0)) (by first | exact List.mem_cons_self | exact (List.mem_cons_of_mem _ List.mem_cons_self) | exact (List.mem_cons_of_mem _ (List.mem_cons_of_mem _ List.mem_cons_self))), H.sub (List.nil_sublist _)⟩)) ?_
      intro w H
      refine d_done (l' := [_,_,_,_,_,_,_,_,_,_,_,_,_,_,_,_,_,_,_,_,_,_,_,_,_,_,_,_,_,_,_,_,_,_,_,_,_,_,_,_,_,_,_,_,_,_,_,_,_,_,_,_,_,_,_,_,_,_,_,_,_,_,_,_,_,_,_,_,_,_,_,_,_,_,_,_,_,_,_,_,_,_,_,_,_,_,_,_,_,_,_,_,_,_,_,_,_,_,_,_,_,_,_,_,_,_,_,_,_,_,_,_,_,_,_,_,_,_,_,_,_,_,_,_,_,_,_,_,_,_,_,_]) (by kernel_rfl) rfl ?_
      exact ⟨_, rfl, ⟨_,_,_,_,_,_,_,_,_,_,_, rfl, hbdb, hNbd, H⟩⟩
     ·skip
      refine b_new rfl go_none (m_alloc (cs := (ceC ce0)) H Try.zeroValue43 rfl) rfl (fun _ _ H => (⟨H.own (b11, Obj.cells (kC (keyH xs (2 * ((i + 1 : Nat) : Int)))).toArray 24 (0, 0)) (by first | exact List.mem_cons_self | exact (List.mem_cons_of_mem _ List.mem_cons_self) | exact (List.mem_cons_of_mem _ (List.mem_cons_of_mem _ List.mem_cons_self))), H.sub (List.nil_sublist _)⟩)) ?_
      intro w b13 H
      refine d_all1 (i := 5) (by kernel_rfl) ?_
      refine b_call rfl go_none (r_call Try.call22 (ec rfl (ec rfl en))) (rhide_l (padB (keyH xs (2 * ((i + 1 : Nat) : Int))) ((i + 1 : Nat) : Int)) _ _ _ b.1 b.2.symm (by rw [b.2]; decide) _ (fun _ => ⟨b9, 0, [], [], _,_, rfl, (by rw [List.nil_append, List.append_nil]; exact H.at 2 rfl), rfl⟩)) rfl ?_
      rintro v w ⟨ah, ch, Nh, rfl, hNh, HC⟩
      replace H := H.call0 HC
      have hxl2 : (xorB (padB (keyH xs (2 * ((i + 1 : Nat) : Int))) ((i + 1 : Nat) : Int)).1 b.1).length = b.1.length := xorB_length (by rw [(padB _ _).2, b.2]; decide)
      rw [← hxl2] at hNh ⊢
      obtain ⟨bh, sph, rfl, _, rfl, _⟩ := RowN.some hNh (by rw [hxl2, b.2]; decide)
      replace H : St w0 [] w (_ :: _ :: _ :: _ :: _ :: _) := H
      obtain ⟨bd, hbd⟩ : ∃ q : Bd, q = ⟨some ⟨bh, 0, none⟩, xorB (padB (keyH xs (2 * ((i + 1 : Nat) : Int))) ((i + 1 : Nat) : Int)).1 b.1, ch⟩ := ⟨_, rfl⟩
      have hbdb : bd.b = xorB (padB (keyH xs (2 * ((i + 1 : Nat) : Int))) ((i + 1 : Nat) : Int)).1 b.1 := by rw [hbd]
      have hNbd : RowN 1 5 (bC bd.b) bd.b.length bd.a bd.c [(bh, Obj.cells (bC bd.b ++ sph).toArray 5 (0, 0))] := by rw [hbd]; exact hNh
      rw [← hbdb] at H
      refine ⟨(⟨H.own (b11, Obj.cells (kC (keyH xs (2 * ((i + 1 : Nat) : Int)))).toArray 24 (0, 0)) (by first | exact List.mem_cons_self | exact (List.mem_cons_of_mem _ List.mem_cons_self) | exact (List.mem_cons_of_mem _ (List.mem_cons_of_mem _ List.mem_cons_self))), H.sub (List.nil_sublist _)⟩), ?_⟩
      rw [show Value.slice (some ⟨bh, 0, none⟩) (xorB (padB (keyH xs (2 * ((i + 1 : Nat) : Int))) ((i + 1 : Nat) : Int)).1 b.1).length ch = bdV bd by rw [hbd]; rfl]
      refine d_take (i := 6) rfl (by kernel_rfl) (fun _ _ _ h => h) (⟨H.own (b11, Obj.cells (kC (keyH xs (2 * ((i + 1 : Nat) : Int)))).toArray 24 (0, 0)) (by first | exact List.mem_cons_self | exact (List.mem_cons_of_mem _ List.mem_cons_self) | exact (List.mem_cons_of_mem _ (List.mem_cons_of_mem _ List.mem_cons_self))), H.sub (List.nil_sublist _)⟩) (fun _ _ => r_buildS Try.runUnderlying43 Try.zeroValue43 places43 (pc rfl (pc rfl (pc rfl pn))) (rfl : fillL _ _ _ = some (ceC (fullC ((i + 1 : Nat) : Int) bd)))) rfl ?_
      refine d_all1 (i := 8) (by kernel_rfl) ?_
      refine b_st rfl go_none (m_storen H 1 11 Try.sizeOf43 rfl rfl (by first | exact (kC_length _) | exact (hC_length _) | exact (ceC_length _) | exact (ptC_length _ _ _ _) | exact (plV_length _ _ _) | exact litC_length) (by first | exact (kC_one _) | exact (hC_one _) | exact (ceC_one _) | exact (ptC_one _ _ _ _) | exact (plV_one _ _ _) | exact litC_one) rfl (by show 0 + 11 ≤ 11; omega) (ceC_sp _ _)) (L' := (_ :: _ :: _ :: _ :: _ :: _)) rfl rfl (fun _ H => (⟨H.own (b11, Obj.cells (kC (keyH xs (2 * ((i + 1 : Nat) : Int)))).toArray 24 (0, 0)) (by first | exact List.mem_cons_self | exact (List.mem_cons_of_mem _ List.mem_cons_self) | exact (List.mem_cons_of_mem _ (List.mem_cons_of_mem _ List.mem_cons_self))), H.sub (List.nil_sublist _)⟩)) ?_
      intro w H
      refine d_done (l' := [_,_,_,_,_,_,_,_,_,_,_,_,_,_,_,_,_,_,_,_,_,_,_,_,_,_,_,_,_,_,_,_,_,_,_,_,_,_,_,_,_,_,_,_,_,_,_,_,_,_,_,_,_,_,_,_,_,_,_,_,_,_,_,_,_,_,_,_,_,_,_,_,_,_,_,_,_,_,_,_,_,_,_,_,_,_,_,_,_,_,_,_,_,_,_,_,_,_,_,_,_,_,_,_,_,_,_,_,_,_,_,_,_,_,_,_,_,_,_,_,_,_,_,_,_,_,_,_,_,_,_,_]) (by kernel_rfl) rfl ?_
      replace H := H.swp 0 (L' := (_ :: _ :: _ :: _ :: _ :: _)) rfl
      exact ⟨_, rfl, ⟨_,_,_,_,_,_,_,_,_,_,_, rfl, hbdb, hNbd, H⟩⟩
    ·skip
     refine b_new rfl go_none (m_alloc (cs := (ceC ce0)) H Try.zeroValue43 rfl) rfl (fun _ _ H => (⟨H.own (b11, Obj.cells (kC (keyH xs (2 * ((i + 1 : Nat) : Int)))).toArray 24 (0, 0)) (by first | exact List.mem_cons_self | exact (List.mem_cons_of_mem _ List.mem_cons_self) | exact (List.mem_cons_of_mem _ (List.mem_cons_of_mem _ List.mem_cons_self))), H.sub (List.nil_sublist _)⟩)) ?_
     intro w b13 H
     refine d_all1 (i := 3) (by kernel_rfl) ?_
     refine b_call rfl go_none (r_call Try.call23 (ec rfl (ec rfl en))) (pad_spec (keyH xs (2 * ((i + 1 : Nat) : Int))) ((i + 1 : Nat) : Int) (by omega) (by omega) _) rfl ?_
     rintro v w ⟨rfl, HC⟩
     replace H := H.quiet HC
     refine ⟨(⟨H.own (b11, Obj.cells (kC (keyH xs (2 * ((i + 1 : Nat) : Int)))).toArray 24 (0, 0)) (by first | exact List.mem_cons_self | exact (List.mem_cons_of_mem _ List.mem_cons_self) | exact (List.mem_cons_of_mem _ (List.mem_cons_of_mem _ List.mem_cons_self))), H.sub (List.nil_sublist _)⟩), ?_⟩
     refine d_all1 (i := 5) (by kernel_rfl) ?_
     refine b_call rfl go_none (r_call Try.call22 (ec rfl (ec rfl en))) (rhide_l (padB (keyH xs (2 * ((i + 1 : Nat) : Int))) ((i + 1 : Nat) : Int)) _ _ _ b.1 b.2.symm (by rw [b.2]; decide) _ (fun _ => ⟨b9, 0, [], [], _,_, rfl, (by rw [List.nil_append, List.append_nil]; exact H.at 2 rfl), rfl⟩)) rfl ?_
     rintro v w ⟨ah, ch, Nh, rfl, hNh, HC⟩
     replace H := H.call0 HC
     have hxl2 : (xorB (padB (keyH xs (2 * ((i + 1 : Nat) : Int))) ((i + 1 : Nat) : Int)).1 b.1).length = b.1.length := xorB_length (by rw [(padB _ _).2, b.2]; decide)
     rw [← hxl2] at hNh ⊢
     obtain ⟨bh, sph, rfl, _, rfl, _⟩ := RowN.some hNh (by rw [hxl2, b.2]; decide)
     replace H : St w0 [] w (_ :: _ :: _ :: _ :: _ :: _) := H
     obtain ⟨bd, hbd⟩ : ∃ q : Bd, q = ⟨some ⟨bh, 0, none⟩, xorB (padB (keyH xs (2 * ((i + 1 : Nat) : Int))) ((i + 1 : Nat) : Int)).1 b.1, ch⟩ := ⟨_, rfl⟩
     have hbdb : bd.b = xorB (padB (keyH xs (2 * ((i + 1 : Nat) : Int))) ((i + 1 : Nat) : Int)).1 b.1 := by rw [hbd]
     have hNbd : RowN 1 5 (bC bd.b) bd.b.length bd.a bd.c [(bh, Obj.cells (bC bd.b ++ sph).toArray 5 (0, 0))] := by rw [hbd]; exact hNh
     rw [← hbdb] at H
     refine ⟨(⟨H.own (b11, Obj.cells (kC (keyH xs (2 * ((i + 1 : Nat) : Int)))).toArray 24 (0, 0)) (by first | exact List.mem_cons_self | exact (List.mem_cons_of_mem _ List.mem_cons_self) | exact (List.mem_cons_of_mem _ (List.mem_cons_of_mem _ List.mem_cons_self))), H.sub (List.nil_sublist _)⟩), ?_⟩
     rw [show Value.slice (some ⟨bh, 0, none⟩) (xorB (padB (keyH xs (2 * ((i + 1 : Nat) : Int))) ((i + 1 : Nat) : Int)).1 b.1).length ch = bdV bd by rw [hbd]; rfl]
     refine d_take (i := 6) rfl (by kernel_rfl) (fun _ _ _ h => h) (⟨H.own (b11, Obj.cells (kC (keyH xs (2 * ((i + 1 : Nat) : Int)))).toArray 24 (0, 0)) (by first | exact List.mem_cons_self | exact (List.mem_cons_of_mem _ List.mem_cons_self) | exact (List.mem_cons_of_mem _ (List.mem_cons_of_mem _ List.mem_cons_self))), H.sub (List.nil_sublist _)⟩) (fun _ _ => r_buildS Try.runUnderlying43 Try.zeroValue43 places43 (pc rfl (pc rfl (pc rfl pn))) (rfl : fillL _ _ _ = some (ceC (fullC ((i + 1 : Nat) : Int) bd)))) rfl ?_
     refine d_all1 (i := 8) (by kernel_rfl) ?_
     refine b_st rfl go_none (m_storen H 1 11 Try.sizeOf43 rfl rfl (by first | exact (kC_length _) | exact (hC_length _) | exact (ceC_length _) | exact (ptC_length _ _ _ _) | exact (plV_length _ _ _) | exact litC_length) (by first | exact (kC_one _) | exact (hC_one _) | exact (ceC_one _) | exact (ptC_one _ _ _ _) | exact (plV_one _ _ _) | exact litC_one) rfl (by show 0 + 11 ≤ 11; omega) (ceC_sp _ _)) (L' := (_ :: _ :: _ :: _ :: _ :: _)) rfl rfl (fun _ H => (⟨H.own (b11, Obj.cells (kC (keyH xs (2 * ((i + 1 : Nat) : Int)))).toArray 24 (0, 0)) (by first | exact List.mem_cons_self | exact (List.mem_cons_of_mem _ List.mem_cons_self) | exact (List.mem_cons_of_mem _ (List.mem_cons_of_mem _ List.mem_cons_self))), H.sub (List.nil_sublist _)⟩)) ?_
     intro w H
     refine d_done (l' := [_,_,_,_,_,_,_,_,_,_,_,_,_,_,_,_,_,_,_,_,_,_,_,_,_,_,_,_,_,_,_,_,_,_,_,_,_,_,_,_,_,_,_,_,_,_,_,_,_,_,_,_,_,_,_,_,_,_,_,_,_,_,_,_,_,_,_,_,_,_,_,_,_,_,_,_,_,_,_,_,_,_,_,_,_,_,_,_,_,_,_,_,_,_,_,_,_,_,_,_,_,_,_,_,_,_,_,_,_,_,_,_,_,_,_,_,_,_,_,_,_,_,_,_,_,_,_,_,_,_,_,_]) (by kernel_rfl) rfl ?_
     replace H := H.swp 0 (L' := (_ :: _ :: _ :: _ :: _ :: _)) rfl
     exact ⟨_, rfl, ⟨_,_,_,_,_,_,_,_,_,_,_, rfl, hbdb, hNbd, H⟩⟩
   ·skip
    rintro l w ⟨u46, u47, u48, u49, u50, u51, u52, b13, bh, sph, bd, hl, hbdb, hNbd, H⟩
    obtain rfl := hl.trans (rfl : _ = [_,_,_,_,_,_,_,_,_,_,_,_,_,_,_,_,_,_,_,_,_,_,_,_,_,_,_,_,_,_,_,_,_,_,_,_,_,_,_,_,_,_,_,_,_,_,_,_,_,_,_,_,_,_,_,_,_,_,_,_,_,_,_,_,_,_,_,_,_,_,_,_,_,_,_,_,_,_,_,_,_,_,_,_,_,_,_,_,_,_,_,_,_,_,_,_,_,_,_,_,_,_,_,_,_,_,_,_,_,_,_,_,_,_,_,_,_,_,_,_,_,_,_,_,_,_,_,_,_,_,_,_])
    clear hl
    refine c_seq ?_
    refine c_rseq (n := 132) ⟨rfl, rfl⟩ ?_
    refine s_val (r_move rfl) ?_
    refine s_test (r_gtr rfl rfl) (fun h54 => ?_) (fun h54 => ?_)
    ·skip
     obtain ⟨b1, hx1⟩ : ∃ b1, ls[i - 1]? = some b1 := ⟨_, List.getElem?_eq_getElem (by omega)⟩
     refine s_val (r_move rfl) ?_
     refine g_yes rfl rfl ?_
     refine s_val (r_move rfl) ?_
     refine g_yes rfl rfl ?_
     refine s_test (r_lss rfl rfl) (fun h57 => ?_) (fun h57 => ?_)
     ·skip
      refine s_val (r_pickt rfl rfl) ?_
      refine c_nil (l' := [_,_,_,_,_,_,_,_,_,_,_,_,_,_,_,_,_,_,_,_,_,_,_,_,_,_,_,_,_,_,_,_,_,_,_,_,_,_,_,_,_,_,_,_,_,_,_,_,_,_,_,_,_,_,_,_,_,_,_,_,_,_,_,_,_,_,_,_,_,_,_,_,_,_,_,_,_,_,_,_,_,_,_,_,_,_,_,_,_,_,_,_,_,_,_,_,_,_,_,_,_,_,_,_,_,_,_,_,_,_,_,_,_,_,_,_,_,_,_,_,_,_,_,_,_,_,_,_,_,_,_,_]) rfl ?_
      refine c_ift rfl ?_
      refine c_seq ?_
      refine d_begin (sz := 132) ⟨rfl, rfl⟩ (by kernel_rfl) H (H.sub (.cons_cons _ (.cons_cons _ (.cons_cons _ (.cons_cons _ (.cons_cons _ (List.nil_sublist _))))))) rfl ?_
      intro w H
      refine d_take (i := 0) rfl (by kernel_rfl) (fun _ _ _ h => h) (H.sub (.cons_cons _ (.cons_cons _ (.cons_cons _ (.cons_cons _ (.cons_cons _ (List.nil_sublist _))))))) (fun _ _ => r_move rfl) rfl ?_
      refine d_take (i := 1) rfl (by kernel_rfl) (fun _ _ _ h => h) (H.sub (.cons_cons _ (.cons_cons _ (.cons_cons _ (.cons_cons _ (.cons_cons _ (List.nil_sublist _))))))) (fun _ _ => r_move rfl) rfl ?_
      refine d_take (i := 2) rfl (by kernel_rfl) (fun _ _ _ h => h) (H.sub (.cons_cons _ (.cons_cons _ (.cons_cons _ (.cons_cons _ (.cons_cons _ (List.nil_sublist _))))))) (fun _ _ => r_sub rfl rfl (w_i64e (r := ((i - 1 : Nat) : Int)) (by omega) (by omega) (by omega))) rfl ?_
      refine d_take (i := 3) rfl (by kernel_rfl) (fun _ _ _ h => h) (H.sub (.cons_cons _ (.cons_cons _ (.cons_cons _ (.cons_cons _ (.cons_cons _ (List.nil_sublist _))))))) (fun _ _ => r_indexAddrS Try.runUnderlying68 Try.sizeOf44 rfl rfl (by omega) (by omega)) rfl ?_
      refine d_take (i := 4) rfl (by kernel_rfl) (fun _ _ _ h => h) (H.sub (.cons_cons _ (.cons_cons _ (.cons_cons _ (.cons_cons _ (.cons_cons _ (List.nil_sublist _))))))) (fun _ HS => r_loadn Try.isAgg44 Try.sizeOf44 rfl (HS.rd0 hb0) (row_td elKB pre post hp0 hx1 (by omega)) (kC_length _)) rfl ?_
      refine d_take (i := 5) rfl (by kernel_rfl) (fun _ _ _ h => h) (H.sub (.cons_cons _ (.cons_cons _ (.cons_cons _ (.cons_cons _ (.cons_cons _ (List.nil_sublist _))))))) (fun _ HS => r_loadn Try.isAgg44 Try.sizeOf44 rfl (HS.at 3 rfl) (by first | exact (kC_td _) | exact (hC_td _) | exact (hC_seed _) | exact (ceC_td _) | exact (ceC_place _) | exact (ptC_td _ _ _ _) | exact (plV_td _ _ _)) (by first | exact (kC_length _) | exact (hC_length _) | exact (ceC_length _) | exact (ptC_length _ _ _ _) | exact (plV_length _ _ _) | exact litC_length | exact rfl)) rfl ?_
      refine d_all1 (i := 6) (by kernel_rfl) ?_
      refine b_call rfl go_none (r_call Try.call25 (ec rfl (ec rfl en))) (make_l b1 b _) rfl ?_
      rintro v w ⟨ds, ok, a66, c66, N66, rfl, hmk, hN66, HC⟩
      replace H : St w0 [] w (_ :: _ :: _ :: _ :: _ :: (N66 ++ (N ++ (Nb ++ NT)))) := (H.call0 HC).perm (List.perm_append_comm_assoc [_,_,_,_,_] N66 _)
      refine ⟨(H.sub (.cons_cons _ (.cons_cons _ (.cons_cons _ (.cons_cons _ (.cons_cons _ (List.nil_sublist _))))))), ?_⟩
      refine d_take (i := 7) rfl (by kernel_rfl) (fun _ _ _ h => h) (H.sub (.cons_cons _ (.cons_cons _ (.cons_cons _ (.cons_cons _ (.cons_cons _ (List.nil_sublist _))))))) (fun _ _ => r_move rfl) rfl ?_
      refine d_take (i := 8) rfl (by kernel_rfl) (fun _ _ _ h => h) (H.sub (.cons_cons _ (.cons_cons _ (.cons_cons _ (.cons_cons _ (.cons_cons _ (List.nil_sublist _))))))) (fun _ _ => r_extract rfl rfl) rfl ?_
      refine d_take (i := 9) rfl (by kernel_rfl) (fun _ _ _ h => h) (H.sub (.cons_cons _ (.cons_cons _ (.cons_cons _ (.cons_cons _ (.cons_cons _ (List.nil_sublist _))))))) (fun _ _ => r_extract rfl rfl) rfl ?_
      refine d_take (i := 10) rfl (by kernel_rfl) (fun _ _ _ h => h) (H.sub (.cons_cons _ (.cons_cons _ (.cons_cons _ (.cons_cons _ (.cons_cons _ (List.nil_sublist _))))))) (fun _ _ => r_assign rfl) rfl ?_
      refine d_take (i := 11) rfl (by kernel_rfl) (fun _ _ _ h => h) (H.sub (.cons_cons _ (.cons_cons _ (.cons_cons _ (.cons_cons _ (.cons_cons _ (List.nil_sublist _))))))) (fun _ _ => r_assign rfl) rfl ?_
      refine d_done (l' := [_,_,_,_,_,_,_,_,_,_,_,_,_,_,_,_,_,_,_,_,_,_,_,_,_,_,_,_,_,_,_,_,_,_,_,_,_,_,_,_,_,_,_,_,_,_,_,_,_,_,_,_,_,_,_,_,_,_,_,_,_,_,_,_,_,_,_,_,_,_,_,_,_,_,_,_,_,_,_,_,_,_,_,_,_,_,_,_,_,_,_,_,_,_,_,_,_,_,_,_,_,_,_,_,_,_,_,_,_,_,_,_,_,_,_,_,_,_,_,_,_,_,_,_,_,_,_,_,_,_,_,_]) (by kernel_rfl) rfl ?_
      refine x_thenNormal ?_
      refine c_rseq (n := 132) ⟨rfl, rfl⟩ ?_
      refine s_testb (r_move rfl) (fun h69 => ?_) (fun h69 => ?_)
      ·skip
       obtain ⟨hap, hd20⟩ := hmk h69
       refine s_val (r_move rfl) ?_
       refine g_yes rfl rfl ?_
       refine s_val (r_move rfl) ?_
       refine g_yes rfl rfl ?_
       refine s_val (r_lens Try.runUnderlying41 (ec rfl en)) ?_
       refine g_yes rfl rfl ?_
       refine s_test (r_eql rfl rfl) (fun h73 => ?_) (fun h73 => ?_)
       ·skip
        have hnil : ds = [] := List.length_eq_zero_iff.1 (by omega)
        have hb1 : b1 = b := by rw [hnil] at hap; exact Option.some.inj hap
        refine s_val (r_pickt rfl rfl) ?_
        refine c_nil (l' := [_,_,_,_,_,_,_,_,_,_,_,_,_,_,_,_,_,_,_,_,_,_,_,_,_,_,_,_,_,_,_,_,_,_,_,_,_,_,_,_,_,_,_,_,_,_,_,_,_,_,_,_,_,_,_,_,_,_,_,_,_,_,_,_,_,_,_,_,_,_,_,_,_,_,_,_,_,_,_,_,_,_,_,_,_,_,_,_,_,_,_,_,_,_,_,_,_,_,_,_,_,_,_,_,_,_,_,_,_,_,_,_,_,_,_,_,_,_,_,_,_,_,_,_,_,_,_,_,_,_,_,_]) rfl ?_
        refine c_ift rfl ?_
        refine c_region (n := 132) ⟨rfl, rfl⟩ ?_
        refine s_val (r_move rfl) ?_
        refine s_val (r_move rfl) ?_
        refine s_val (r_sub rfl rfl (w_u64e (r := (i : Int)) (by omega) (by omega) (by omega))) ?_
        refine s_val (r_buildS Try.runUnderlying43 Try.zeroValue43 places43 (pc rfl (pc rfl (pc rfl pn))) (rfl : fillL _ _ _ = some (ceC (sameC ((i + 1 : Nat) : Int) (i : Int))))) ?_
        refine s_st (m_storen H 0 11 Try.sizeOf43 rfl rfl (by first | exact (kC_length _) | exact (hC_length _) | exact (ceC_length _) | exact (ptC_length _ _ _ _) | exact (plV_length _ _ _) | exact litC_length) (by first | exact (kC_one _) | exact (hC_one _) | exact (ceC_one _) | exact (ptC_one _ _ _ _) | exact (plV_one _ _ _) | exact litC_one) rfl (by show 0 + 11 ≤ 11; omega) (ceC_sp _ _)) (L' := (_ :: _ :: _ :: _ :: _ :: _)) rfl ?_
        intro w H
        refine c_nil (l' := [_,_,_,_,_,_,_,_,_,_,_,_,_,_,_,_,_,_,_,_,_,_,_,_,_,_,_,_,_,_,_,_,_,_,_,_,_,_,_,_,_,_,_,_,_,_,_,_,_,_,_,_,_,_,_,_,_,_,_,_,_,_,_,_,_,_,_,_,_,_,_,_,_,_,_,_,_,_,_,_,_,_,_,_,_,_,_,_,_,_,_,_,_,_,_,_,_,_,_,_,_,_,_,_,_,_,_,_,_,_,_,_,_,_,_,_,_,_,_,_,_,_,_,_,_,_,_,_,_,_,_,_]) rfl ?_
        refine c_rseq (n := 132) ⟨rfl, rfl⟩ ?_
        replace H : St w0 [] w (_ :: _ :: _ :: _ :: _ :: (N ++ (Nb ++ NT))) := H.sub (.cons_cons _ (.cons_cons _ (.cons_cons _ (.cons_cons _ (.cons_cons _ ((List.sublist_append_right _ _)))))))
        refine s_val (r_move rfl) ?_
        refine s_val (r_add rfl rfl (w_i64e (r := ((deep + 1 : Nat) : Int)) (by omega) (by omega) (by omega))) ?_
        refine s_val (r_assign rfl) ?_
        refine c_nil (l' := [_,_,_,_,_,_,_,_,_,_,_,_,_,_,_,_,_,_,_,_,_,_,_,_,_,_,_,_,_,_,_,_,_,_,_,_,_,_,_,_,_,_,_,_,_,_,_,_,_,_,_,_,_,_,_,_,_,_,_,_,_,_,_,_,_,_,_,_,_,_,_,_,_,_,_,_,_,_,_,_,_,_,_,_,_,_,_,_,_,_,_,_,_,_,_,_,_,_,_,_,_,_,_,_,_,_,_,_,_,_,_,_,_,_,_,_,_,_,_,_,_,_,_,_,_,_,_,_,_,_,_,_]) rfl ?_
        refine c_seq ?_
        refine c_rseq (n := 132) ⟨rfl, rfl⟩ ?_
        refine s_val (r_fieldAddr (k := 0) Try.runUnderlying43 rfl Try.sizeOf3 (by decide) rfl rfl) ?_
        refine s_val (r_load1 Try.isAgg3 rfl (H.at 0 rfl) rfl) ?_
        refine s_val (r_eql rfl rfl) ?_
        refine c_nil (l' := [_,_,_,_,_,_,_,_,_,_,_,_,_,_,_,_,_,_,_,_,_,_,_,_,_,_,_,_,_,_,_,_,_,_,_,_,_,_,_,_,_,_,_,_,_,_,_,_,_,_,_,_,_,_,_,_,_,_,_,_,_,_,_,_,_,_,_,_,_,_,_,_,_,_,_,_,_,_,_,_,_,_,_,_,_,_,_,_,_,_,_,_,_,_,_,_,_,_,_,_,_,_,_,_,_,_,_,_,_,_,_,_,_,_,_,_,_,_,_,_,_,_,_,_,_,_,_,_,_,_,_,_]) rfl ?_
        refine c_if rfl (fun h93 => ?_) (fun h93 => ?_)
        ·skip
         exact absurd (show (2 : Int) = 1 from h93) (by decide)
        ·skip
         skip
         refine wp_skip ?_
         refine x_thenNormal ?_
         refine c_rseq (n := 132) ⟨rfl, rfl⟩ ?_
         refine s_val (r_move rfl) ?_
         refine s_val (r_loadn Try.isAgg43 Try.sizeOf43 rfl (H.at 0 rfl) (ceC_td _) (by first | exact (kC_length _) | exact (hC_length _) | exact (ceC_length _) | exact (ptC_length _ _ _ _) | exact (plV_length _ _ _) | exact litC_length | exact rfl)) ?_
         refine s_new (m_bslice1 (vs := ceC (sameC ((i + 1 : Nat) : Int) (i : Int))) H Try.runUnderlying22 Try.sizeOf43 Try.zeroValue43 (by omega) (by omega) rfl rfl rfl) ?_
         intro w b96 H
         replace H := St.rot3 (A := [_,_,_,_,_,_]) H
         refine s_any (m_append_row0 (L1 := [_,_,_,_,_,_] ++ (Nb ++ NT)) (N := N) H hR Try.runUnderlying22 Try.runUnderlying22 (fun _ h => nomatch h) Try.sizeOf43 Try.zeroValue43 rfl Try.typeInfo43 (by rw [bytes43]; omega) (by rw [bytes43, hW.len]; omega) (ec rfl (ec rfl en)) (Src.slice (vs := ceC (sameC ((i + 1 : Nat) : Int) (i : Int))) (H.at 0 rfl) rfl rfl (ceC_one _))) ?_
         rintro v w ⟨a5, c5, N5, rfl, hN5, H⟩
         replace H : St w0 [] w (_ :: _ :: _ :: _ :: _ :: _ :: (N5 ++ (Nb ++ NT))) := St.unrot3 (A := [_,_,_,_,_,_]) (R := Nb ++ NT) H
         obtain ⟨cs2, hc2⟩ : ∃ z, z = cs ++ [(sameC ((i + 1 : Nat) : Int) (i : Int))] := ⟨_, rfl⟩
         have hll : cs2.length = cs.length + 1 := by rw [hc2, List.length_append]; rfl
         rw [← hll] at hN5 ⊢
         have hN6 : RowN 11 43 (rowC ceC cs2) cs2.length a5 c5 N5 := by rw [hc2, rowC_append, rowC_one1, ← hc2]; exact hN5
         have hC2 : CsN 5 cs2 ([] ++ Nb) := by rw [hc2]; exact hC.snoc (RowN.nil : RowN 1 5 (bC (sameC ((i + 1 : Nat) : Int) (i : Int)).body.b) (sameC ((i + 1 : Nat) : Int) (i : Int)).body.b.length (sameC ((i + 1 : Nat) : Int) (i : Int)).body.a (sameC ((i + 1 : Nat) : Int) (i : Int)).body.c [])
         have hrd : Rds (findP ((cs ++ [(sameC ((i + 1 : Nat) : Int) (i : Int))]).map ceP)) (hasH xs) (keyH xs) ((i + 1 : Nat) : Int) b (deep + 1) := rds_same (hW.find rfl) (by omega) (by omega) (by omega) (hb1 ▸ hW.prev (by omega) hx1)
         have hW2 : WrI (hasH xs) (keyH xs) ls cs2 (i + 1) (deep + 1) := by rw [hc2]; exact hW.step hx rfl hrd (by omega) (by show (0 : Int) ≤ (i : Int); omega) (Nat.zero_le _)
         rw [← hc2] at hrd
         refine s_val (r_assign rfl) ?_
         refine c_nil (l' := [_,_,_,_,_,_,_,_,_,_,_,_,_,_,_,_,_,_,_,_,_,_,_,_,_,_,_,_,_,_,_,_,_,_,_,_,_,_,_,_,_,_,_,_,_,_,_,_,_,_,_,_,_,_,_,_,_,_,_,_,_,_,_,_,_,_,_,_,_,_,_,_,_,_,_,_,_,_,_,_,_,_,_,_,_,_,_,_,_,_,_,_,_,_,_,_,_,_,_,_,_,_,_,_,_,_,_,_,_,_,_,_,_,_,_,_,_,_,_,_,_,_,_,_,_,_,_,_,_,_,_,_]) rfl ?_
         refine c_rseq (n := 132) ⟨rfl, rfl⟩ ?_
         refine s_val (r_move rfl) ?_
         refine s_call (r_call Try.call13 (ec rfl en)) (get_mk _ _ _ _) ?_
         rintro v w ⟨g, rfl, HC⟩
         replace H : St w0 [] w (_ :: _ :: _ :: _ :: _ :: _ :: _ :: _) := H.call0 HC
         refine s_val (r_move rfl) ?_
         refine s_call (r_call Try.call18 (ec rfl (ec rfl en))) (depth_spec g cs2 ((i + 1 : Nat) : Int) (by rw [hW2.len]; omega) (fun y hy => Nat.le_trans (hW2.body y hy) (by decide)) _ (GetW.mkR (H.at 0 rfl) rfl (hN6.rrowM (fun h => h) H (fun p hp => (List.mem_cons_of_mem _ (List.mem_cons_of_mem _ (List.mem_cons_of_mem _ (List.mem_cons_of_mem _ (List.mem_cons_of_mem _ (List.mem_cons_of_mem _ (List.mem_cons_of_mem _ (List.mem_append_left _ hp)))))))))) (hC2.brow H (fun p hp => (List.mem_cons_of_mem _ (List.mem_cons_of_mem _ (List.mem_cons_of_mem _ (List.mem_cons_of_mem _ (List.mem_cons_of_mem _ (List.mem_cons_of_mem _ (List.mem_cons_of_mem _ (List.mem_append_right _ (List.mem_append_left _ hp))))))))))))) ?_
         rintro v w ⟨rfl, HC⟩
         replace H := H.quiet HC
         rw [hrd.depth (by omega)]
         refine s_val (r_move rfl) ?_
         refine s_val (r_neq rfl rfl) ?_
         refine c_nil (l' := [_,_,_,_,_,_,_,_,_,_,_,_,_,_,_,_,_,_,_,_,_,_,_,_,_,_,_,_,_,_,_,_,_,_,_,_,_,_,_,_,_,_,_,_,_,_,_,_,_,_,_,_,_,_,_,_,_,_,_,_,_,_,_,_,_,_,_,_,_,_,_,_,_,_,_,_,_,_,_,_,_,_,_,_,_,_,_,_,_,_,_,_,_,_,_,_,_,_,_,_,_,_,_,_,_,_,_,_,_,_,_,_,_,_,_,_,_,_,_,_,_,_,_,_,_,_,_,_,_,_,_,_]) rfl ?_
         refine c_if rfl (fun h103 => ?_) (fun h103 => ?_)
         ·skip
          exact absurd rfl h103
         ·skip
          refine wp_skip ?_
          refine x_blockNormal ?_
          refine x_thenNormal ?_
          refine c_region (n := 132) ⟨rfl, rfl⟩ ?_
          refine s_val (r_add rfl rfl (w_i64 (by omega) (by omega))) ?_
          refine s_val (r_move rfl) ?_
          refine c_nil0 (l' := [_,_,_,_,_,_,_,_,_,_,_,_,_,_,_,_,_,_,_,_,_,_,_,_,_,_,_,_,_,_,_,_,_,_,_,_,_,_,_,_,_,_,_,_,_,_,_,_,_,_,_,_,_,_,_,_,_,_,_,_,_,_,_,_,_,_,_,_,_,_,_,_,_,_,_,_,_,_,_,_,_,_,_,_,_,_,_,_,_,_,_,_,_,_,_,_,_,_,_,_,_,_,_,_,_,_,_,_,_,_,_,_,_,_,_,_,_,_,_,_,_,_,_,_,_,_,_,_,_,_,_,_]) rfl ?_
          replace H : St w0 [] w (_ :: (N5 ++ (Nb ++ NT))) := H.sub (.cons _ (.cons _ (.cons _ (.cons _ (.cons _ (.cons _ (.cons_cons _ (List.Sublist.refl _))))))))
          exact ⟨i + 1, _, rfl, ⟨_,_,_,_,_,_,_,_,_,_,_,_,_,_,_,_,_,_,_,_,_,_,_,_,_,_,_,_,_,_,_,_,_,_,_,_,_,_,_,_,_,_,_,_,_,_,_,_,_,_,_,_,_,_,_,_,_,_,_,_,_,_,_,_,_,_,_,_,_,_,_,_,_,_,_,_,_,_,_,_,_,_, (deep + 1), cs2, a5, c5, N5, ([] ++ Nb), rfl, by omega, hW2, hN6, hC2, H⟩, by omega⟩
       ·skip
        refine s_val (r_pickt rfl rfl) ?_
        refine c_nil (l' := [_,_,_,_,_,_,_,_,_,_,_,_,_,_,_,_,_,_,_,_,_,_,_,_,_,_,_,_,_,_,_,_,_,_,_,_,_,_,_,_,_,_,_,_,_,_,_,_,_,_,_,_,_,_,_,_,_,_,_,_,_,_,_,_,_,_,_,_,_,_,_,_,_,_,_,_,_,_,_,_,_,_,_,_,_,_,_,_,_,_,_,_,_,_,_,_,_,_,_,_,_,_,_,_,_,_,_,_,_,_,_,_,_,_,_,_,_,_,_,_,_,_,_,_,_,_,_,_,_,_,_,_]) rfl ?_
        refine c_iff rfl ?_
        refine c_rseq (n := 132) ⟨rfl, rfl⟩ ?_
        refine s_val (r_move rfl) ?_
        refine c_nil (l' := [_,_,_,_,_,_,_,_,_,_,_,_,_,_,_,_,_,_,_,_,_,_,_,_,_,_,_,_,_,_,_,_,_,_,_,_,_,_,_,_,_,_,_,_,_,_,_,_,_,_,_,_,_,_,_,_,_,_,_,_,_,_,_,_,_,_,_,_,_,_,_,_,_,_,_,_,_,_,_,_,_,_,_,_,_,_,_,_,_,_,_,_,_,_,_,_,_,_,_,_,_,_,_,_,_,_,_,_,_,_,_,_,_,_,_,_,_,_,_,_,_,_,_,_,_,_,_,_,_,_,_,_]) rfl ?_
        refine c_ifb rfl (fun h79 => ?_) (fun h79 => ?_)
        ·skip
         skip
         refine c_region (n := 132) ⟨rfl, rfl⟩ ?_
         refine s_val (r_move rfl) ?_
         refine s_val (r_move rfl) ?_
         refine s_val (r_sub rfl rfl (w_u64e (r := (i : Int)) (by omega) (by omega) (by omega))) ?_
         refine s_val (r_loadn Try.isAgg24 Try.sizeOf24 rfl (H.at 2 rfl) (by first | exact (kC_td _) | exact (hC_td _) | exact (hC_seed _) | exact (ceC_td _) | exact (ceC_place _) | exact (ptC_td _ _ _ _) | exact (plV_td _ _ _)) (by first | exact (kC_length _) | exact (hC_length _) | exact (ceC_length _) | exact (ptC_length _ _ _ _) | exact (plV_length _ _ _) | exact litC_length | exact rfl)) ?_
         refine s_val (r_move rfl) ?_
         refine s_call (r_call Try.call23 (ec rfl (ec rfl en))) (pad_spec (keyH xs (2 * ((i + 1 : Nat) : Int))) ((i + 1 : Nat) : Int) (by omega) (by omega) _) ?_
         rintro v w ⟨rfl, HC⟩
         replace H := H.quiet HC
         refine s_val (r_move rfl) ?_
         refine s_call (r_call Try.call22 (ec rfl (ec rfl en))) (rhide_l (padB (keyH xs (2 * ((i + 1 : Nat) : Int))) ((i + 1 : Nat) : Int)) _ _ _ ds rfl (by omega) _ (hN66.browM H (fun p hp => (List.mem_cons_of_mem _ (List.mem_cons_of_mem _ (List.mem_cons_of_mem _ (List.mem_cons_of_mem _ (List.mem_cons_of_mem _ (List.mem_append_left _ hp))))))))) ?_
         rintro v w ⟨ah, ci, Nh, rfl, hNh, HC⟩
         replace H := H.call0 HC
         have hxl2 : (xorB (padB (keyH xs (2 * ((i + 1 : Nat) : Int))) ((i + 1 : Nat) : Int)).1 ds).length = ds.length := xorB_length (by rw [(padB _ _).2]; omega)
         rw [← hxl2] at hNh ⊢
         obtain ⟨bi, spi, rfl, _, rfl, _⟩ := RowN.some hNh (by rw [hxl2]; omega)
         replace H : St w0 [] w (_ :: _ :: _ :: _ :: _ :: _ :: _) := H
         obtain ⟨be, hbe⟩ : ∃ q : Bd, q = ⟨some ⟨bi, 0, none⟩, xorB (padB (keyH xs (2 * ((i + 1 : Nat) : Int))) ((i + 1 : Nat) : Int)).1 ds, ci⟩ := ⟨_, rfl⟩
         have hbeb : be.b = xorB (padB (keyH xs (2 * ((i + 1 : Nat) : Int))) ((i + 1 : Nat) : Int)).1 ds := by rw [hbe]
         have hNbe : RowN 1 5 (bC be.b) be.b.length be.a be.c [(bi, Obj.cells (bC be.b ++ spi).toArray 5 (0, 0))] := by rw [hbe]; exact hNh
         rw [← hbeb] at H
         rw [show Value.slice (some ⟨bi, 0, none⟩) (xorB (padB (keyH xs (2 * ((i + 1 : Nat) : Int))) ((i + 1 : Nat) : Int)).1 ds).length ci = bdV be by rw [hbe]; rfl]
         refine s_val (r_buildS Try.runUnderlying43 Try.zeroValue43 places43 (pc rfl (pc rfl (pc rfl (pc rfl pn)))) (rfl : fillL _ _ _ = some (ceC (deltaC ((i + 1 : Nat) : Int) (i : Int) be)))) ?_
         refine s_st (m_storen H 1 11 Try.sizeOf43 rfl rfl (by first | exact (kC_length _) | exact (hC_length _) | exact (ceC_length _) | exact (ptC_length _ _ _ _) | exact (plV_length _ _ _) | exact litC_length) (by first | exact (kC_one _) | exact (hC_one _) | exact (ceC_one _) | exact (ptC_one _ _ _ _) | exact (plV_one _ _ _) | exact litC_one) rfl (by show 0 + 11 ≤ 11; omega) (ceC_sp _ _)) (L' := (_ :: _ :: _ :: _ :: _ :: _ :: _)) rfl ?_
         intro w H
         refine c_nil (l' := [_,_,_,_,_,_,_,_,_,_,_,_,_,_,_,_,_,_,_,_,_,_,_,_,_,_,_,_,_,_,_,_,_,_,_,_,_,_,_,_,_,_,_,_,_,_,_,_,_,_,_,_,_,_,_,_,_,_,_,_,_,_,_,_,_,_,_,_,_,_,_,_,_,_,_,_,_,_,_,_,_,_,_,_,_,_,_,_,_,_,_,_,_,_,_,_,_,_,_,_,_,_,_,_,_,_,_,_,_,_,_,_,_,_,_,_,_,_,_,_,_,_,_,_,_,_,_,_,_,_,_,_]) rfl ?_
         refine c_rseq (n := 132) ⟨rfl, rfl⟩ ?_
         replace H : St w0 [] w (_ :: _ :: _ :: _ :: _ :: _ :: (N ++ (Nb ++ NT))) := H.sub (.cons_cons _ (.cons_cons _ (.cons_cons _ (.cons_cons _ (.cons_cons _ (.cons_cons _ ((List.sublist_append_right _ _))))))))
         refine s_val (r_move rfl) ?_
         refine s_val (r_add rfl rfl (w_i64e (r := ((deep + 1 : Nat) : Int)) (by omega) (by omega) (by omega))) ?_
         refine s_val (r_assign rfl) ?_
         refine c_nil (l' := [_,_,_,_,_,_,_,_,_,_,_,_,_,_,_,_,_,_,_,_,_,_,_,_,_,_,_,_,_,_,_,_,_,_,_,_,_,_,_,_,_,_,_,_,_,_,_,_,_,_,_,_,_,_,_,_,_,_,_,_,_,_,_,_,_,_,_,_,_,_,_,_,_,_,_,_,_,_,_,_,_,_,_,_,_,_,_,_,_,_,_,_,_,_,_,_,_,_,_,_,_,_,_,_,_,_,_,_,_,_,_,_,_,_,_,_,_,_,_,_,_,_,_,_,_,_,_,_,_,_,_,_]) rfl ?_
         refine c_seq ?_
         refine c_rseq (n := 132) ⟨rfl, rfl⟩ ?_
         refine s_val (r_fieldAddr (k := 0) Try.runUnderlying43 rfl Try.sizeOf3 (by decide) rfl rfl) ?_
         refine s_val (r_load1 Try.isAgg3 rfl (H.at 1 rfl) rfl) ?_
         refine s_val (r_eql rfl rfl) ?_
         refine c_nil (l' := [_,_,_,_,_,_,_,_,_,_,_,_,_,_,_,_,_,_,_,_,_,_,_,_,_,_,_,_,_,_,_,_,_,_,_,_,_,_,_,_,_,_,_,_,_,_,_,_,_,_,_,_,_,_,_,_,_,_,_,_,_,_,_,_,_,_,_,_,_,_,_,_,_,_,_,_,_,_,_,_,_,_,_,_,_,_,_,_,_,_,_,_,_,_,_,_,_,_,_,_,_,_,_,_,_,_,_,_,_,_,_,_,_,_,_,_,_,_,_,_,_,_,_,_,_,_,_,_,_,_,_,_]) rfl ?_
         refine c_if rfl (fun h93 => ?_) (fun h93 => ?_)
         ·skip
          exact absurd (show (3 : Int) = 1 from h93) (by decide)
         ·skip
          skip
          refine wp_skip ?_
          refine x_thenNormal ?_
          refine c_rseq (n := 132) ⟨rfl, rfl⟩ ?_
          refine s_val (r_move rfl) ?_
          refine s_val (r_loadn Try.isAgg43 Try.sizeOf43 rfl (H.at 1 rfl) (ceC_td _) (by first | exact (kC_length _) | exact (hC_length _) | exact (ceC_length _) | exact (ptC_length _ _ _ _) | exact (plV_length _ _ _) | exact litC_length | exact rfl)) ?_
          refine s_new (m_bslice1 (vs := ceC (deltaC ((i + 1 : Nat) : Int) (i : Int) be)) H Try.runUnderlying22 Try.sizeOf43 Try.zeroValue43 (by omega) (by omega) rfl rfl rfl) ?_
          intro w b96 H
          replace H := St.rot3 (A := [_,_,_,_,_,_,_]) H
          refine s_any (m_append_row0 (L1 := [_,_,_,_,_,_,_] ++ (Nb ++ NT)) (N := N) H hR Try.runUnderlying22 Try.runUnderlying22 (fun _ h => nomatch h) Try.sizeOf43 Try.zeroValue43 rfl Try.typeInfo43 (by rw [bytes43]; omega) (by rw [bytes43, hW.len]; omega) (ec rfl (ec rfl en)) (Src.slice (vs := ceC (deltaC ((i + 1 : Nat) : Int) (i : Int) be)) (H.at 0 rfl) rfl rfl (ceC_one _))) ?_
          rintro v w ⟨a5, c5, N5, rfl, hN5, H⟩
          replace H : St w0 [] w (_ :: _ :: _ :: _ :: _ :: _ :: _ :: (N5 ++ (Nb ++ NT))) := St.unrot3 (A := [_,_,_,_,_,_,_]) (R := Nb ++ NT) H
          obtain ⟨cs2, hc2⟩ : ∃ z, z = cs ++ [(deltaC ((i + 1 : Nat) : Int) (i : Int) be)] := ⟨_, rfl⟩
          have hll : cs2.length = cs.length + 1 := by rw [hc2, List.length_append]; rfl
          rw [← hll] at hN5 ⊢
          have hN6 : RowN 11 43 (rowC ceC cs2) cs2.length a5 c5 N5 := by rw [hc2, rowC_append, rowC_one1, ← hc2]; exact hN5
          have hC2 : CsN 5 cs2 ([(bi, Obj.cells (bC be.b ++ spi).toArray 5 (0, 0))] ++ Nb) := by rw [hc2]; exact hC.snoc hNbe
          have hrd : Rds (findP ((cs ++ [(deltaC ((i + 1 : Nat) : Int) (i : Int) be)]).map ceP)) (hasH xs) (keyH xs) ((i + 1 : Nat) : Int) b (deep + 1) := rds_delta (hW.find rfl) (by omega) (by omega) (by omega) hbeb (by omega) hd20 hap hh (hW.prev (by omega) hx1)
          have hW2 : WrI (hasH xs) (keyH xs) ls cs2 (i + 1) (deep + 1) := by rw [hc2]; exact hW.step hx rfl hrd (by omega) (by show (0 : Int) ≤ (i : Int); omega) (by show be.b.length ≤ 32; rw [hbeb, xorB_length (by rw [(padB _ _).2]; omega)]; omega)
          rw [← hc2] at hrd
          refine s_val (r_assign rfl) ?_
          refine c_nil (l' := [_,_,_,_,_,_,_,_,_,_,_,_,_,_,_,_,_,_,_,_,_,_,_,_,_,_,_,_,_,_,_,_,_,_,_,_,_,_,_,_,_,_,_,_,_,_,_,_,_,_,_,_,_,_,_,_,_,_,_,_,_,_,_,_,_,_,_,_,_,_,_,_,_,_,_,_,_,_,_,_,_,_,_,_,_,_,_,_,_,_,_,_,_,_,_,_,_,_,_,_,_,_,_,_,_,_,_,_,_,_,_,_,_,_,_,_,_,_,_,_,_,_,_,_,_,_,_,_,_,_,_,_]) rfl ?_
          refine c_rseq (n := 132) ⟨rfl, rfl⟩ ?_
          refine s_val (r_move rfl) ?_
          refine s_call (r_call Try.call13 (ec rfl en)) (get_mk _ _ _ _) ?_
          rintro v w ⟨g, rfl, HC⟩
          replace H : St w0 [] w (_ :: _ :: _ :: _ :: _ :: _ :: _ :: _ :: _) := H.call0 HC
          refine s_val (r_move rfl) ?_
          refine s_call (r_call Try.call18 (ec rfl (ec rfl en))) (depth_spec g cs2 ((i + 1 : Nat) : Int) (by rw [hW2.len]; omega) (fun y hy => Nat.le_trans (hW2.body y hy) (by decide)) _ (GetW.mkR (H.at 0 rfl) rfl (hN6.rrowM (fun h => h) H (fun p hp => (List.mem_cons_of_mem _ (List.mem_cons_of_mem _ (List.mem_cons_of_mem _ (List.mem_cons_of_mem _ (List.mem_cons_of_mem _ (List.mem_cons_of_mem _ (List.mem_cons_of_mem _ (List.mem_cons_of_mem _ (List.mem_append_left _ hp))))))))))) (hC2.brow H (fun p hp => (List.mem_append.1 hp).elim (fun h => by rw [List.mem_singleton.1 h]; exact (List.mem_cons_of_mem _ (List.mem_cons_of_mem _ List.mem_cons_self))) (fun h => (List.mem_cons_of_mem _ (List.mem_cons_of_mem _ (List.mem_cons_of_mem _ (List.mem_cons_of_mem _ (List.mem_cons_of_mem _ (List.mem_cons_of_mem _ (List.mem_cons_of_mem _ (List.mem_cons_of_mem _ (List.mem_append_right _ (List.mem_append_left _ h))))))))))))))) ?_
          rintro v w ⟨rfl, HC⟩
          replace H := H.quiet HC
          rw [hrd.depth (by omega)]
          refine s_val (r_move rfl) ?_
          refine s_val (r_neq rfl rfl) ?_
          refine c_nil (l' := [_,_,_,_,_,_,_,_,_,_,_,_,_,_,_,_,_,_,_,_,_,_,_,_,_,_,_,_,_,_,_,_,_,_,_,_,_,_,_,_,_,_,_,_,_,_,_,_,_,_,_,_,_,_,_,_,_,_,_,_,_,_,_,_,_,_,_,_,_,_,_,_,_,_,_,_,_,_,_,_,_,_,_,_,_,_,_,_,_,_,_,_,_,_,_,_,_,_,_,_,_,_,_,_,_,_,_,_,_,_,_,_,_,_,_,_,_,_,_,_,_,_,_,_,_,_,_,_,_,_,_,_]) rfl ?_
          refine c_if rfl (fun h103 => ?_) (fun h103 => ?_)
          ·skip
           exact absurd rfl h103
          ·skip
           refine wp_skip ?_
           refine x_blockNormal ?_
           refine x_thenNormal ?_
           refine c_region (n := 132) ⟨rfl, rfl⟩ ?_
           refine s_val (r_add rfl rfl (w_i64 (by omega) (by omega))) ?_
           refine s_val (r_move rfl) ?_
           refine c_nil0 (l' := [_,_,_,_,_,_,_,_,_,_,_,_,_,_,_,_,_,_,_,_,_,_,_,_,_,_,_,_,_,_,_,_,_,_,_,_,_,_,_,_,_,_,_,_,_,_,_,_,_,_,_,_,_,_,_,_,_,_,_,_,_,_,_,_,_,_,_,_,_,_,_,_,_,_,_,_,_,_,_,_,_,_,_,_,_,_,_,_,_,_,_,_,_,_,_,_,_,_,_,_,_,_,_,_,_,_,_,_,_,_,_,_,_,_,_,_,_,_,_,_,_,_,_,_,_,_,_,_,_,_,_,_]) rfl ?_
           replace H : St w0 [] w (_ :: _ :: (N5 ++ (Nb ++ NT))) := H.sub (.cons _ (.cons _ (.cons_cons _ (.cons _ (.cons _ (.cons _ (.cons _ (.cons_cons _ (List.Sublist.refl _)))))))))
           replace H := St.bodyIn H
           exact ⟨i + 1, _, rfl, ⟨_,_,_,_,_,_,_,_,_,_,_,_,_,_,_,_,_,_,_,_,_,_,_,_,_,_,_,_,_,_,_,_,_,_,_,_,_,_,_,_,_,_,_,_,_,_,_,_,_,_,_,_,_,_,_,_,_,_,_,_,_,_,_,_,_,_,_,_,_,_,_,_,_,_,_,_,_,_,_,_,_,_, (deep + 1), cs2, a5, c5, N5, ([(bi, Obj.cells (bC be.b ++ spi).toArray 5 (0, 0))] ++ Nb), rfl, by omega, hW2, hN6, hC2, H⟩, by omega⟩
        ·skip
         rw [h69] at h79; cases h79
      ·skip
       refine s_val (r_move rfl) ?_
       refine g_no rfl rfl (by decide) ?_
       refine g_no rfl rfl (by decide) ?_
       refine g_no rfl rfl (by decide) ?_
       refine s_val (r_pickf rfl rfl) ?_
       refine c_nil (l' := [_,_,_,_,_,_,_,_,_,_,_,_,_,_,_,_,_,_,_,_,_,_,_,_,_,_,_,_,_,_,_,_,_,_,_,_,_,_,_,_,_,_,_,_,_,_,_,_,_,_,_,_,_,_,_,_,_,_,_,_,_,_,_,_,_,_,_,_,_,_,_,_,_,_,_,_,_,_,_,_,_,_,_,_,_,_,_,_,_,_,_,_,_,_,_,_,_,_,_,_,_,_,_,_,_,_,_,_,_,_,_,_,_,_,_,_,_,_,_,_,_,_,_,_,_,_,_,_,_,_,_,_]) rfl ?_
       refine c_iff rfl ?_
       refine c_rseq (n := 132) ⟨rfl, rfl⟩ ?_
       refine s_val (r_move rfl) ?_
       refine c_nil (l' := [_,_,_,_,_,_,_,_,_,_,_,_,_,_,_,_,_,_,_,_,_,_,_,_,_,_,_,_,_,_,_,_,_,_,_,_,_,_,_,_,_,_,_,_,_,_,_,_,_,_,_,_,_,_,_,_,_,_,_,_,_,_,_,_,_,_,_,_,_,_,_,_,_,_,_,_,_,_,_,_,_,_,_,_,_,_,_,_,_,_,_,_,_,_,_,_,_,_,_,_,_,_,_,_,_,_,_,_,_,_,_,_,_,_,_,_,_,_,_,_,_,_,_,_,_,_,_,_,_,_,_,_]) rfl ?_
       refine c_ifb rfl (fun h79 => ?_) (fun h79 => ?_)
       ·skip
        rw [h69] at h79; cases h79
       ·skip
        skip
        refine wp_skip ?_
        refine x_thenNormal ?_
        refine c_rseq (n := 132) ⟨rfl, rfl⟩ ?_
        replace H : St w0 [] w (_ :: _ :: _ :: _ :: _ :: (N ++ (Nb ++ NT))) := H.sub (.cons_cons _ (.cons_cons _ (.cons_cons _ (.cons_cons _ (.cons_cons _ ((List.sublist_append_right _ _)))))))
        refine s_val (r_move rfl) ?_
        refine s_val (r_add rfl rfl (w_i64e (r := ((deep + 1 : Nat) : Int)) (by omega) (by omega) (by omega))) ?_
        refine s_val (r_assign rfl) ?_
        refine c_nil (l' := [_,_,_,_,_,_,_,_,_,_,_,_,_,_,_,_,_,_,_,_,_,_,_,_,_,_,_,_,_,_,_,_,_,_,_,_,_,_,_,_,_,_,_,_,_,_,_,_,_,_,_,_,_,_,_,_,_,_,_,_,_,_,_,_,_,_,_,_,_,_,_,_,_,_,_,_,_,_,_,_,_,_,_,_,_,_,_,_,_,_,_,_,_,_,_,_,_,_,_,_,_,_,_,_,_,_,_,_,_,_,_,_,_,_,_,_,_,_,_,_,_,_,_,_,_,_,_,_,_,_,_,_]) rfl ?_
        refine c_seq ?_
        refine c_rseq (n := 132) ⟨rfl, rfl⟩ ?_
        refine s_val (r_fieldAddr (k := 0) Try.runUnderlying43 rfl Try.sizeOf3 (by decide) rfl rfl) ?_
        refine s_val (r_load1 Try.isAgg3 rfl (H.at 0 rfl) rfl) ?_
        refine s_val (r_eql rfl rfl) ?_
        refine c_nil (l' := [_,_,_,_,_,_,_,_,_,_,_,_,_,_,_,_,_,_,_,_,_,_,_,_,_,_,_,_,_,_,_,_,_,_,_,_,_,_,_,_,_,_,_,_,_,_,_,_,_,_,_,_,_,_,_,_,_,_,_,_,_,_,_,_,_,_,_,_,_,_,_,_,_,_,_,_,_,_,_,_,_,_,_,_,_,_,_,_,_,_,_,_,_,_,_,_,_,_,_,_,_,_,_,_,_,_,_,_,_,_,_,_,_,_,_,_,_,_,_,_,_,_,_,_,_,_,_,_,_,_,_,_]) rfl ?_
        refine c_if rfl (fun h93 => ?_) (fun h93 => ?_)
        ·skip
         skip
         refine c_region (n := 132) ⟨rfl, rfl⟩ ?_
         refine s_val (r_assign rfl) ?_
         refine c_nil (l' := [_,_,_,_,_,_,_,_,_,_,_,_,_,_,_,_,_,_,_,_,_,_,_,_,_,_,_,_,_,_,_,_,_,_,_,_,_,_,_,_,_,_,_,_,_,_,_,_,_,_,_,_,_,_,_,_,_,_,_,_,_,_,_,_,_,_,_,_,_,_,_,_,_,_,_,_,_,_,_,_,_,_,_,_,_,_,_,_,_,_,_,_,_,_,_,_,_,_,_,_,_,_,_,_,_,_,_,_,_,_,_,_,_,_,_,_,_,_,_,_,_,_,_,_,_,_,_,_,_,_,_,_]) rfl ?_
         refine c_rseq (n := 132) ⟨rfl, rfl⟩ ?_
         refine s_val (r_move rfl) ?_
         refine s_val (r_loadn Try.isAgg43 Try.sizeOf43 rfl (H.at 0 rfl) (ceC_td _) (by first | exact (kC_length _) | exact (hC_length _) | exact (ceC_length _) | exact (ptC_length _ _ _ _) | exact (plV_length _ _ _) | exact litC_length | exact rfl)) ?_
         refine s_new (m_bslice1 (vs := ceC (fullC ((i + 1 : Nat) : Int) bd)) H Try.runUnderlying22 Try.sizeOf43 Try.zeroValue43 (by omega) (by omega) rfl rfl rfl) ?_
         intro w b96 H
         replace H := St.rot3 (A := [_,_,_,_,_,_]) H
         refine s_any (m_append_row0 (L1 := [_,_,_,_,_,_] ++ (Nb ++ NT)) (N := N) H hR Try.runUnderlying22 Try.runUnderlying22 (fun _ h => nomatch h) Try.sizeOf43 Try.zeroValue43 rfl Try.typeInfo43 (by rw [bytes43]; omega) (by rw [bytes43, hW.len]; omega) (ec rfl (ec rfl en)) (Src.slice (vs := ceC (fullC ((i + 1 : Nat) : Int) bd)) (H.at 0 rfl) rfl rfl (ceC_one _))) ?_
         rintro v w ⟨a5, c5, N5, rfl, hN5, H⟩
         replace H : St w0 [] w (_ :: _ :: _ :: _ :: _ :: _ :: (N5 ++ (Nb ++ NT))) := St.unrot3 (A := [_,_,_,_,_,_]) (R := Nb ++ NT) H
         obtain ⟨cs2, hc2⟩ : ∃ z, z = cs ++ [(fullC ((i + 1 : Nat) : Int) bd)] := ⟨_, rfl⟩
         have hll : cs2.length = cs.length + 1 := by rw [hc2, List.length_append]; rfl
         rw [← hll] at hN5 ⊢
         have hN6 : RowN 11 43 (rowC ceC cs2) cs2.length a5 c5 N5 := by rw [hc2, rowC_append, rowC_one1, ← hc2]; exact hN5
         have hC2 : CsN 5 cs2 ([(bh, Obj.cells (bC bd.b ++ sph).toArray 5 (0, 0))] ++ Nb) := by rw [hc2]; exact hC.snoc hNbd
         have hrd : Rds (findP ((cs ++ [(fullC ((i + 1 : Nat) : Int) bd)]).map ceP)) (hasH xs) (keyH xs) ((i + 1 : Nat) : Int) b 0 := rds_full (hW.find rfl) (by omega) (by omega) hbdb hh
         have hW2 : WrI (hasH xs) (keyH xs) ls cs2 (i + 1) 0 := by rw [hc2]; exact hW.step hx rfl hrd (by omega) (Int.le_refl 0) (by show bd.b.length ≤ 32; rw [hbdb, xorB_length (by rw [(padB _ _).2, b.2]; decide), b.2]; decide)
         rw [← hc2] at hrd
         refine s_val (r_assign rfl) ?_
         refine c_nil (l' := [_,_,_,_,_,_,_,_,_,_,_,_,_,_,_,_,_,_,_,_,_,_,_,_,_,_,_,_,_,_,_,_,_,_,_,_,_,_,_,_,_,_,_,_,_,_,_,_,_,_,_,_,_,_,_,_,_,_,_,_,_,_,_,_,_,_,_,_,_,_,_,_,_,_,_,_,_,_,_,_,_,_,_,_,_,_,_,_,_,_,_,_,_,_,_,_,_,_,_,_,_,_,_,_,_,_,_,_,_,_,_,_,_,_,_,_,_,_,_,_,_,_,_,_,_,_,_,_,_,_,_,_]) rfl ?_
         refine c_rseq (n := 132) ⟨rfl, rfl⟩ ?_
         refine s_val (r_move rfl) ?_
         refine s_call (r_call Try.call13 (ec rfl en)) (get_mk _ _ _ _) ?_
         rintro v w ⟨g, rfl, HC⟩
         replace H : St w0 [] w (_ :: _ :: _ :: _ :: _ :: _ :: _ :: _) := H.call0 HC
         refine s_val (r_move rfl) ?_
         refine s_call (r_call Try.call18 (ec rfl (ec rfl en))) (depth_spec g cs2 ((i + 1 : Nat) : Int) (by rw [hW2.len]; omega) (fun y hy => Nat.le_trans (hW2.body y hy) (by decide)) _ (GetW.mkR (H.at 0 rfl) rfl (hN6.rrowM (fun h => h) H (fun p hp => (List.mem_cons_of_mem _ (List.mem_cons_of_mem _ (List.mem_cons_of_mem _ (List.mem_cons_of_mem _ (List.mem_cons_of_mem _ (List.mem_cons_of_mem _ (List.mem_cons_of_mem _ (List.mem_append_left _ hp)))))))))) (hC2.brow H (fun p hp => (List.mem_append.1 hp).elim (fun h => by rw [List.mem_singleton.1 h]; exact (List.mem_cons_of_mem _ (List.mem_cons_of_mem _ (List.mem_cons_of_mem _ List.mem_cons_self)))) (fun h => (List.mem_cons_of_mem _ (List.mem_cons_of_mem _ (List.mem_cons_of_mem _ (List.mem_cons_of_mem _ (List.mem_cons_of_mem _ (List.mem_cons_of_mem _ (List.mem_cons_of_mem _ (List.mem_append_right _ (List.mem_append_left _ h)))))))))))))) ?_
         rintro v w ⟨rfl, HC⟩
         replace H := H.quiet HC
         rw [hrd.depth (by omega)]
         refine s_val (r_move rfl) ?_
         refine s_val (r_neq rfl rfl) ?_
         refine c_nil (l' := [_,_,_,_,_,_,_,_,_,_,_,_,_,_,_,_,_,_,_,_,_,_,_,_,_,_,_,_,_,_,_,_,_,_,_,_,_,_,_,_,_,_,_,_,_,_,_,_,_,_,_,_,_,_,_,_,_,_,_,_,_,_,_,_,_,_,_,_,_,_,_,_,_,_,_,_,_,_,_,_,_,_,_,_,_,_,_,_,_,_,_,_,_,_,_,_,_,_,_,_,_,_,_,_,_,_,_,_,_,_,_,_,_,_,_,_,_,_,_,_,_,_,_,_,_,_,_,_,_,_,_,_]) rfl ?_
         refine c_if rfl (fun h103 => ?_) (fun h103 => ?_)
         ·skip
          exact absurd rfl h103
         ·skip
          refine wp_skip ?_
          refine x_blockNormal ?_
          refine x_thenNormal ?_
          refine c_region (n := 132) ⟨rfl, rfl⟩ ?_
          refine s_val (r_add rfl rfl (w_i64 (by omega) (by omega))) ?_
          refine s_val (r_move rfl) ?_
          refine c_nil0 (l' := [_,_,_,_,_,_,_,_,_,_,_,_,_,_,_,_,_,_,_,_,_,_,_,_,_,_,_,_,_,_,_,_,_,_,_,_,_,_,_,_,_,_,_,_,_,_,_,_,_,_,_,_,_,_,_,_,_,_,_,_,_,_,_,_,_,_,_,_,_,_,_,_,_,_,_,_,_,_,_,_,_,_,_,_,_,_,_,_,_,_,_,_,_,_,_,_,_,_,_,_,_,_,_,_,_,_,_,_,_,_,_,_,_,_,_,_,_,_,_,_,_,_,_,_,_,_,_,_,_,_,_,_]) rfl ?_
          replace H : St w0 [] w (_ :: _ :: (N5 ++ (Nb ++ NT))) := H.sub (.cons _ (.cons _ (.cons _ (.cons_cons _ (.cons _ (.cons _ (.cons_cons _ (List.Sublist.refl _))))))))
          replace H := St.bodyIn H
          exact ⟨i + 1, _, rfl, ⟨_,_,_,_,_,_,_,_,_,_,_,_,_,_,_,_,_,_,_,_,_,_,_,_,_,_,_,_,_,_,_,_,_,_,_,_,_,_,_,_,_,_,_,_,_,_,_,_,_,_,_,_,_,_,_,_,_,_,_,_,_,_,_,_,_,_,_,_,_,_,_,_,_,_,_,_,_,_,_,_,_,_, 0, cs2, a5, c5, N5, ([(bh, Obj.cells (bC bd.b ++ sph).toArray 5 (0, 0))] ++ Nb), rfl, by omega, hW2, hN6, hC2, H⟩, by omega⟩
        ·skip
         exact absurd rfl h93
     ·skip
      refine s_val (r_pickt rfl rfl) ?_
      refine c_nil (l' := [_,_,_,_,_,_,_,_,_,_,_,_,_,_,_,_,_,_,_,_,_,_,_,_,_,_,_,_,_,_,_,_,_,_,_,_,_,_,_,_,_,_,_,_,_,_,_,_,_,_,_,_,_,_,_,_,_,_,_,_,_,_,_,_,_,_,_,_,_,_,_,_,_,_,_,_,_,_,_,_,_,_,_,_,_,_,_,_,_,_,_,_,_,_,_,_,_,_,_,_,_,_,_,_,_,_,_,_,_,_,_,_,_,_,_,_,_,_,_,_,_,_,_,_,_,_,_,_,_,_,_,_]) rfl ?_
      refine c_iff rfl ?_
      refine wp_skip ?_
      refine x_thenNormal ?_
      refine c_rseq (n := 132) ⟨rfl, rfl⟩ ?_
      skip
      refine s_val (r_move rfl) ?_
      refine s_val (r_add rfl rfl (w_i64e (r := ((deep + 1 : Nat) : Int)) (by omega) (by omega) (by omega))) ?_
      refine s_val (r_assign rfl) ?_
      refine c_nil (l' := [_,_,_,_,_,_,_,_,_,_,_,_,_,_,_,_,_,_,_,_,_,_,_,_,_,_,_,_,_,_,_,_,_,_,_,_,_,_,_,_,_,_,_,_,_,_,_,_,_,_,_,_,_,_,_,_,_,_,_,_,_,_,_,_,_,_,_,_,_,_,_,_,_,_,_,_,_,_,_,_,_,_,_,_,_,_,_,_,_,_,_,_,_,_,_,_,_,_,_,_,_,_,_,_,_,_,_,_,_,_,_,_,_,_,_,_,_,_,_,_,_,_,_,_,_,_,_,_,_,_,_,_]) rfl ?_
      refine c_seq ?_
      refine c_rseq (n := 132) ⟨rfl, rfl⟩ ?_
      refine s_val (r_fieldAddr (k := 0) Try.runUnderlying43 rfl Try.sizeOf3 (by decide) rfl rfl) ?_
      refine s_val (r_load1 Try.isAgg3 rfl (H.at 0 rfl) rfl) ?_
      refine s_val (r_eql rfl rfl) ?_
      refine c_nil (l' := [_,_,_,_,_,_,_,_,_,_,_,_,_,_,_,_,_,_,_,_,_,_,_,_,_,_,_,_,_,_,_,_,_,_,_,_,_,_,_,_,_,_,_,_,_,_,_,_,_,_,_,_,_,_,_,_,_,_,_,_,_,_,_,_,_,_,_,_,_,_,_,_,_,_,_,_,_,_,_,_,_,_,_,_,_,_,_,_,_,_,_,_,_,_,_,_,_,_,_,_,_,_,_,_,_,_,_,_,_,_,_,_,_,_,_,_,_,_,_,_,_,_,_,_,_,_,_,_,_,_,_,_]) rfl ?_
      refine c_if rfl (fun h93 => ?_) (fun h93 => ?_)
      ·skip
       skip
       refine c_region (n := 132) ⟨rfl, rfl⟩ ?_
       refine s_val (r_assign rfl) ?_
       refine c_nil (l' := [_,_,_,_,_,_,_,_,_,_,_,_,_,_,_,_,_,_,_,_,_,_,_,_,_,_,_,_,_,_,_,_,_,_,_,_,_,_,_,_,_,_,_,_,_,_,_,_,_,_,_,_,_,_,_,_,_,_,_,_,_,_,_,_,_,_,_,_,_,_,_,_,_,_,_,_,_,_,_,_,_,_,_,_,_,_,_,_,_,_,_,_,_,_,_,_,_,_,_,_,_,_,_,_,_,_,_,_,_,_,_,_,_,_,_,_,_,_,_,_,_,_,_,_,_,_,_,_,_,_,_,_]) rfl ?_
       refine c_rseq (n := 132) ⟨rfl, rfl⟩ ?_
       refine s_val (r_move rfl) ?_
       refine s_val (r_loadn Try.isAgg43 Try.sizeOf43 rfl (H.at 0 rfl) (ceC_td _) (by first | exact (kC_length _) | exact (hC_length _) | exact (ceC_length _) | exact (ptC_length _ _ _ _) | exact (plV_length _ _ _) | exact litC_length | exact rfl)) ?_
       refine s_new (m_bslice1 (vs := ceC (fullC ((i + 1 : Nat) : Int) bd)) H Try.runUnderlying22 Try.sizeOf43 Try.zeroValue43 (by omega) (by omega) rfl rfl rfl) ?_
       intro w b96 H
       replace H := St.rot3 (A := [_,_,_,_,_,_]) H
       refine s_any (m_append_row0 (L1 := [_,_,_,_,_,_] ++ (Nb ++ NT)) (N := N) H hR Try.runUnderlying22 Try.runUnderlying22 (fun _ h => nomatch h) Try.sizeOf43 Try.zeroValue43 rfl Try.typeInfo43 (by rw [bytes43]; omega) (by rw [bytes43, hW.len]; omega) (ec rfl (ec rfl en)) (Src.slice (vs := ceC (fullC ((i + 1 : Nat) : Int) bd)) (H.at 0 rfl) rfl rfl (ceC_one _))) ?_
       rintro v w ⟨a5, c5, N5, rfl, hN5, H⟩
       replace H : St w0 [] w (_ :: _ :: _ :: _ :: _ :: _ :: (N5 ++ (Nb ++ NT))) := St.unrot3 (A := [_,_,_,_,_,_]) (R := Nb ++ NT) H
       obtain ⟨cs2, hc2⟩ : ∃ z, z = cs ++ [(fullC ((i + 1 : Nat) : Int) bd)] := ⟨_, rfl⟩
       have hll : cs2.length = cs.length + 1 := by rw [hc2, List.length_append]; rfl
       rw [← hll] at hN5 ⊢
       have hN6 : RowN 11 43 (rowC ceC cs2) cs2.length a5 c5 N5 := by rw [hc2, rowC_append, rowC_one1, ← hc2]; exact hN5
       have hC2 : CsN 5 cs2 ([(bh, Obj.cells (bC bd.b ++ sph).toArray 5 (0, 0))] ++ Nb) := by rw [hc2]; exact hC.snoc hNbd
       have hrd : Rds (findP ((cs ++ [(fullC ((i + 1 : Nat) : Int) bd)]).map ceP)) (hasH xs) (keyH xs) ((i + 1 : Nat) : Int) b 0 := rds_full (hW.find rfl) (by omega) (by omega) hbdb hh
       have hW2 : WrI (hasH xs) (keyH xs) ls cs2 (i + 1) 0 := by rw [hc2]; exact hW.step hx rfl hrd (by omega) (Int.le_refl 0) (by show bd.b.length ≤ 32; rw [hbdb, xorB_length (by rw [(padB _ _).2, b.2]; decide), b.2]; decide)
       rw [← hc2] at hrd
       refine s_val (r_assign rfl) ?_
       refine c_nil (l' := [_,_,_,_,_,_,_,_,_,_,_,_,_,_,_,_,_,_,_,_,_,_,_,_,_,_,_,_,_,_,_,_,_,_,_,_,_,_,_,_,_,_,_,_,_,_,_,_,_,_,_,_,_,_,_,_,_,_,_,_,_,_,_,_,_,_,_,_,_,_,_,_,_,_,_,_,_,_,_,_,_,_,_,_,_,_,_,_,_,_,_,_,_,_,_,_,_,_,_,_,_,_,_,_,_,_,_,_,_,_,_,_,_,_,_,_,_,_,_,_,_,_,_,_,_,_,_,_,_,_,_,_]) rfl ?_
       refine c_rseq (n := 132) ⟨rfl, rfl⟩ ?_
       refine s_val (r_move rfl) ?_
       refine s_call (r_call Try.call13 (ec rfl en)) (get_mk _ _ _ _) ?_
       rintro v w ⟨g, rfl, HC⟩
       replace H : St w0 [] w (_ :: _ :: _ :: _ :: _ :: _ :: _ :: _) := H.call0 HC
       refine s_val (r_move rfl) ?_
       refine s_call (r_call Try.call18 (ec rfl (ec rfl en))) (depth_spec g cs2 ((i + 1 : Nat) : Int) (by rw [hW2.len]; omega) (fun y hy => Nat.le_trans (hW2.body y hy) (by decide)) _ (GetW.mkR (H.at 0 rfl) rfl (hN6.rrowM (fun h => h) H (fun p hp => (List.mem_cons_of_mem _ (List.mem_cons_of_mem _ (List.mem_cons_of_mem _ (List.mem_cons_of_mem _ (List.mem_cons_of_mem _ (List.mem_cons_of_mem _ (List.mem_cons_of_mem _ (List.mem_append_left _ hp)))))))))) (hC2.brow H (fun p hp => (List.mem_append.1 hp).elim (fun h => by rw [List.mem_singleton.1 h]; exact (List.mem_cons_of_mem _ (List.mem_cons_of_mem _ (List.mem_cons_of_mem _ List.mem_cons_self)))) (fun h => (List.mem_cons_of_mem _ (List.mem_cons_of_mem _ (List.mem_cons_of_mem _ (List.mem_cons_of_mem _ (List.mem_cons_of_mem _ (List.mem_cons_of_mem _ (List.mem_cons_of_mem _ (List.mem_append_right _ (List.mem_append_left _ h)))))))))))))) ?_
       rintro v w ⟨rfl, HC⟩
       replace H := H.quiet HC
       rw [hrd.depth (by omega)]
       refine s_val (r_move rfl) ?_
       refine s_val (r_neq rfl rfl) ?_
       refine c_nil (l' := [_,_,_,_,_,_,_,_,_,_,_,_,_,_,_,_,_,_,_,_,_,_,_,_,_,_,_,_,_,_,_,_,_,_,_,_,_,_,_,_,_,_,_,_,_,_,_,_,_,_,_,_,_,_,_,_,_,_,_,_,_,_,_,_,_,_,_,_,_,_,_,_,_,_,_,_,_,_,_,_,_,_,_,_,_,_,_,_,_,_,_,_,_,_,_,_,_,_,_,_,_,_,_,_,_,_,_,_,_,_,_,_,_,_,_,_,_,_,_,_,_,_,_,_,_,_,_,_,_,_,_,_]) rfl ?_
       refine c_if rfl (fun h103 => ?_) (fun h103 => ?_)
       ·skip
        exact absurd rfl h103
       ·skip
        refine wp_skip ?_
        refine x_blockNormal ?_
        refine x_thenNormal ?_
        refine c_region (n := 132) ⟨rfl, rfl⟩ ?_
        refine s_val (r_add rfl rfl (w_i64 (by omega) (by omega))) ?_
        refine s_val (r_move rfl) ?_
        refine c_nil0 (l' := [_,_,_,_,_,_,_,_,_,_,_,_,_,_,_,_,_,_,_,_,_,_,_,_,_,_,_,_,_,_,_,_,_,_,_,_,_,_,_,_,_,_,_,_,_,_,_,_,_,_,_,_,_,_,_,_,_,_,_,_,_,_,_,_,_,_,_,_,_,_,_,_,_,_,_,_,_,_,_,_,_,_,_,_,_,_,_,_,_,_,_,_,_,_,_,_,_,_,_,_,_,_,_,_,_,_,_,_,_,_,_,_,_,_,_,_,_,_,_,_,_,_,_,_,_,_,_,_,_,_,_,_]) rfl ?_
        replace H : St w0 [] w (_ :: _ :: (N5 ++ (Nb ++ NT))) := H.sub (.cons _ (.cons _ (.cons _ (.cons_cons _ (.cons _ (.cons _ (.cons_cons _ (List.Sublist.refl _))))))))
        replace H := St.bodyIn H
        exact ⟨i + 1, _, rfl, ⟨_,_,_,_,_,_,_,_,_,_,_,_,_,_,_,_,_,_,_,_,_,_,_,_,_,_,_,_,_,_,_,_,_,_,_,_,_,_,_,_,_,_,_,_,_,_,_,_,_,_,_,_,_,_,_,_,_,_,_,_,_,_,_,_,_,_,_,_,_,_,_,_,_,_,_,_,_,_,_,_,_,_, 0, cs2, a5, c5, N5, ([(bh, Obj.cells (bC bd.b ++ sph).toArray 5 (0, 0))] ++ Nb), rfl, by omega, hW2, hN6, hC2, H⟩, by omega⟩
      ·skip
       exact absurd rfl h93
    ·skip
     refine s_val (r_move rfl) ?_
     refine g_no rfl rfl (by decide) ?_
     refine g_no rfl rfl (by decide) ?_
     refine s_val (r_pickf rfl rfl) ?_
     refine c_nil (l' := [_,_,_,_,_,_,_,_,_,_,_,_,_,_,_,_,_,_,_,_,_,_,_,_,_,_,_,_,_,_,_,_,_,_,_,_,_,_,_,_,_,_,_,_,_,_,_,_,_,_,_,_,_,_,_,_,_,_,_,_,_,_,_,_,_,_,_,_,_,_,_,_,_,_,_,_,_,_,_,_,_,_,_,_,_,_,_,_,_,_,_,_,_,_,_,_,_,_,_,_,_,_,_,_,_,_,_,_,_,_,_,_,_,_,_,_,_,_,_,_,_,_,_,_,_,_,_,_,_,_,_,_]) rfl ?_
     refine c_iff rfl ?_
     refine wp_skip ?_
     refine x_thenNormal ?_
     refine c_rseq (n := 132) ⟨rfl, rfl⟩ ?_
     skip
     refine s_val (r_move rfl) ?_
     refine s_val (r_add rfl rfl (w_i64e (r := ((deep + 1 : Nat) : Int)) (by omega) (by omega) (by omega))) ?_
     refine s_val (r_assign rfl) ?_
     refine c_nil (l' := [_,_,_,_,_,_,_,_,_,_,_,_,_,_,_,_,_,_,_,_,_,_,_,_,_,_,_,_,_,_,_,_,_,_,_,_,_,_,_,_,_,_,_,_,_,_,_,_,_,_,_,_,_,_,_,_,_,_,_,_,_,_,_,_,_,_,_,_,_,_,_,_,_,_,_,_,_,_,_,_,_,_,_,_,_,_,_,_,_,_,_,_,_,_,_,_,_,_,_,_,_,_,_,_,_,_,_,_,_,_,_,_,_,_,_,_,_,_,_,_,_,_,_,_,_,_,_,_,_,_,_,_]) rfl ?_
     refine c_seq ?_
     refine c_rseq (n := 132) ⟨rfl, rfl⟩ ?_
     refine s_val (r_fieldAddr (k := 0) Try.runUnderlying43 rfl Try.sizeOf3 (by decide) rfl rfl) ?_
     refine s_val (r_load1 Try.isAgg3 rfl (H.at 0 rfl) rfl) ?_
     refine s_val (r_eql rfl rfl) ?_
     refine c_nil (l' := [_,_,_,_,_,_,_,_,_,_,_,_,_,_,_,_,_,_,_,_,_,_,_,_,_,_,_,_,_,_,_,_,_,_,_,_,_,_,_,_,_,_,_,_,_,_,_,_,_,_,_,_,_,_,_,_,_,_,_,_,_,_,_,_,_,_,_,_,_,_,_,_,_,_,_,_,_,_,_,_,_,_,_,_,_,_,_,_,_,_,_,_,_,_,_,_,_,_,_,_,_,_,_,_,_,_,_,_,_,_,_,_,_,_,_,_,_,_,_,_,_,_,_,_,_,_,_,_,_,_,_,_]) rfl ?_
     refine c_if rfl (fun h93 => ?_) (fun h93 => ?_)
     ·skip
      skip
      refine c_region (n := 132) ⟨rfl, rfl⟩ ?_
      refine s_val (r_assign rfl) ?_
      refine c_nil (l' := [_,_,_,_,_,_,_,_,_,_,_,_,_,_,_,_,_,_,_,_,_,_,_,_,_,_,_,_,_,_,_,_,_,_,_,_,_,_,_,_,_,_,_,_,_,_,_,_,_,_,_,_,_,_,_,_,_,_,_,_,_,_,_,_,_,_,_,_,_,_,_,_,_,_,_,_,_,_,_,_,_,_,_,_,_,_,_,_,_,_,_,_,_,_,_,_,_,_,_,_,_,_,_,_,_,_,_,_,_,_,_,_,_,_,_,_,_,_,_,_,_,_,_,_,_,_,_,_,_,_,_,_]) rfl ?_
      refine c_rseq (n := 132) ⟨rfl, rfl⟩ ?_
      refine s_val (r_move rfl) ?_
      refine s_val (r_loadn Try.isAgg43 Try.sizeOf43 rfl (H.at 0 rfl) (ceC_td _) (by first | exact (kC_length _) | exact (hC_length _) | exact (ceC_length _) | exact (ptC_length _ _ _ _) | exact (plV_length _ _ _) | exact litC_length | exact rfl)) ?_
      refine s_new (m_bslice1 (vs := ceC (fullC ((i + 1 : Nat) : Int) bd)) H Try.runUnderlying22 Try.sizeOf43 Try.zeroValue43 (by omega) (by omega) rfl rfl rfl) ?_
      intro w b96 H
      replace H := St.rot3 (A := [_,_,_,_,_,_]) H
      refine s_any (m_append_row0 (L1 := [_,_,_,_,_,_] ++ (Nb ++ NT)) (N := N) H hR Try.runUnderlying22 Try.runUnderlying22 (fun _ h => nomatch h) Try.sizeOf43 Try.zeroValue43 rfl Try.typeInfo43 (by rw [bytes43]; omega) (by rw [bytes43, hW.len]; omega) (ec rfl (ec rfl en)) (Src.slice (vs := ceC (fullC ((i + 1 : Nat) : Int) bd)) (H.at 0 rfl) rfl rfl (ceC_one _))) ?_
      rintro v w ⟨a5, c5, N5, rfl, hN5, H⟩
      replace H : St w0 [] w (_ :: _ :: _ :: _ :: _ :: _ :: (N5 ++ (Nb ++ NT))) := St.unrot3 (A := [_,_,_,_,_,_]) (R := Nb ++ NT) H
      obtain ⟨cs2, hc2⟩ : ∃ z, z = cs ++ [(fullC ((i + 1 : Nat) : Int) bd)] := ⟨_, rfl⟩
      have hll : cs2.length = cs.length + 1 := by rw [hc2, List.length_append]; rfl
      rw [← hll] at hN5 ⊢
      have hN6 : RowN 11 43 (rowC ceC cs2) cs2.length a5 c5 N5 := by rw [hc2, rowC_append, rowC_one1, ← hc2]; exact hN5
      have hC2 : CsN 5 cs2 ([(bh, Obj.cells (bC bd.b ++ sph).toArray 5 (0, 0))] ++ Nb) := by rw [hc2]; exact hC.snoc hNbd
      have hrd : Rds (findP ((cs ++ [(fullC ((i + 1 : Nat) : Int) bd)]).map ceP)) (hasH xs) (keyH xs) ((i + 1 : Nat) : Int) b 0 := rds_full (hW.find rfl) (by omega) (by omega) hbdb hh
      have hW2 : WrI (hasH xs) (keyH xs) ls cs2 (i + 1) 0 := by rw [hc2]; exact hW.step hx rfl hrd (by omega) (Int.le_refl 0) (by show bd.b.length ≤ 32; rw [hbdb, xorB_length (by rw [(padB _ _).2, b.2]; decide), b.2]; decide)
      rw [← hc2] at hrd
      refine s_val (r_assign rfl) ?_
      refine c_nil (l' := [_,_,_,_,_,_,_,_,_,_,_,_,_,_,_,_,_,_,_,_,_,_,_,_,_,_,_,_,_,_,_,_,_,_,_,_,_,_,_,_,_,_,_,_,_,_,_,_,_,_,_,_,_,_,_,_,_,_,_,_,_,_,_,_,_,_,_,_,_,_,_,_,_,_,_,_,_,_,_,_,_,_,_,_,_,_,_,_,_,_,_,_,_,_,_,_,_,_,_,_,_,_,_,_,_,_,_,_,_,_,_,_,_,_,_,_,_,_,_,_,_,_,_,_,_,_,_,_,_,_,_,_]) rfl ?_
      refine c_rseq (n := 132) ⟨rfl, rfl⟩ ?_
      refine s_val (r_move rfl) ?_
      refine s_call (r_call Try.call13 (ec rfl en)) (get_mk _ _ _ _) ?_
      rintro v w ⟨g, rfl, HC⟩
      replace H : St w0 [] w (_ :: _ :: _ :: _ :: _ :: _ :: _ :: _) := H.call0 HC
      refine s_val (r_move rfl) ?_
      refine s_call (r_call Try.call18 (ec rfl (ec rfl en))) (depth_spec g cs2 ((i + 1 : Nat) : Int) (by rw [hW2.len]; omega) (fun y hy => Nat.le_trans (hW2.body y hy) (by decide)) _ (GetW.mkR (H.at 0 rfl) rfl (hN6.rrowM (fun h => h) H (fun p hp => (List.mem_cons_of_mem _ (List.mem_cons_of_mem _ (List.mem_cons_of_mem _ (List.mem_cons_of_mem _ (List.mem_cons_of_mem _ (List.mem_cons_of_mem _ (List.mem_cons_of_mem _ (List.mem_append_left _ hp)))))))))) (hC2.brow H (fun p hp => (List.mem_append.1 hp).elim (fun h => by rw [List.mem_singleton.1 h]; exact (List.mem_cons_of_mem _ (List.mem_cons_of_mem _ (List.mem_cons_of_mem _ List.mem_cons_self)))) (fun h => (List.mem_cons_of_mem _ (List.mem_cons_of_mem _ (List.mem_cons_of_mem _ (List.mem_cons_of_mem _ (List.mem_cons_of_mem _ (List.mem_cons_of_mem _ (List.mem_cons_of_mem _ (List.mem_append_right _ (List.mem_append_left _ h)))))))))))))) ?_
      rintro v w ⟨rfl, HC⟩
      replace H := H.quiet HC
      rw [hrd.depth (by omega)]
      refine s_val (r_move rfl) ?_
      refine s_val (r_neq rfl rfl) ?_
      refine c_nil (l' := [_,_,_,_,_,_,_,_,_,_,_,_,_,_,_,_,_,_,_,_,_,_,_,_,_,_,_,_,_,_,_,_,_,_,_,_,_,_,_,_,_,_,_,_,_,_,_,_,_,_,_,_,_,_,_,_,_,_,_,_,_,_,_,_,_,_,_,_,_,_,_,_,_,_,_,_,_,_,_,_,_,_,_,_,_,_,_,_,_,_,_,_,_,_,_,_,_,_,_,_,_,_,_,_,_,_,_,_,_,_,_,_,_,_,_,_,_,_,_,_,_,_,_,_,_,_,_,_,_,_,_,_]) rfl ?_
      refine c_if rfl (fun h103 => ?_) (fun h103 => ?_)
      ·skip
       exact absurd rfl h103
      ·skip
       refine wp_skip ?_
       refine x_blockNormal ?_
       refine x_thenNormal ?_
       refine c_region (n := 132) ⟨rfl, rfl⟩ ?_
       refine s_val (r_add rfl rfl (w_i64 (by omega) (by omega))) ?_
       refine s_val (r_move rfl) ?_
       refine c_nil0 (l' := [_,_,_,_,_,_,_,_,_,_,_,_,_,_,_,_,_,_,_,_,_,_,_,_,_,_,_,_,_,_,_,_,_,_,_,_,_,_,_,_,_,_,_,_,_,_,_,_,_,_,_,_,_,_,_,_,_,_,_,_,_,_,_,_,_,_,_,_,_,_,_,_,_,_,_,_,_,_,_,_,_,_,_,_,_,_,_,_,_,_,_,_,_,_,_,_,_,_,_,_,_,_,_,_,_,_,_,_,_,_,_,_,_,_,_,_,_,_,_,_,_,_,_,_,_,_,_,_,_,_,_,_]) rfl ?_
       replace H : St w0 [] w (_ :: _ :: (N5 ++ (Nb ++ NT))) := H.sub (.cons _ (.cons _ (.cons _ (.cons_cons _ (.cons _ (.cons _ (.cons_cons _ (List.Sublist.refl _))))))))
       replace H := St.bodyIn H
       exact ⟨i + 1, _, rfl, ⟨_,_,_,_,_,_,_,_,_,_,_,_,_,_,_,_,_,_,_,_,_,_,_,_,_,_,_,_,_,_,_,_,_,_,_,_,_,_,_,_,_,_,_,_,_,_,_,_,_,_,_,_,_,_,_,_,_,_,_,_,_,_,_,_,_,_,_,_,_,_,_,_,_,_,_,_,_,_,_,_,_,_, 0, cs2, a5, c5, N5, ([(bh, Obj.cells (bC bd.b ++ sph).toArray 5 (0, 0))] ++ Nb), rfl, by omega, hW2, hN6, hC2, H⟩, by omega⟩
     ·skip
      exact absurd rfl h93
  ·skip
   obtain rfl : i = ls.length := by omega
   refine wp_exit (x_thenExit (x_thenExit (x_blockHit ?_)))
   refine x_thenNormal ?_
   refine c_seq ?_
   refine c_rseq (n := 132) ⟨rfl, rfl⟩ ?_
   refine s_val (r_move rfl) ?_
   refine s_val (r_lens Try.runUnderlying68 (ec rfl en)) ?_
   refine s_val (r_move rfl) ?_
   refine c_nil (l' := [_,_,_,_,_,_,_,_,_,_,_,_,_,_,_,_,_,_,_,_,_,_,_,_,_,_,_,_,_,_,_,_,_,_,_,_,_,_,_,_,_,_,_,_,_,_,_,_,_,_,_,_,_,_,_,_,_,_,_,_,_,_,_,_,_,_,_,_,_,_,_,_,_,_,_,_,_,_,_,_,_,_,_,_,_,_,_,_,_,_,_,_,_,_,_,_,_,_,_,_,_,_,_,_,_,_,_,_,_,_,_,_,_,_,_,_,_,_,_,_,_,_,_,_,_,_,_,_,_,_,_,_]) rfl ?_
   refine wp_block ?_
   refine c_loop (fun (l0 : List Value) (j : Nat) (l : List Value) (w : World) => ∃ (u4 u16 u17 u18 u19 u108 u109 u110 u111 u112 u113 u114 u115 u116 u117 u118 u119 u120 u121 u122 u123 u124 u125 u126 u127 u128 u129 u130 u131 : Value) , l = ovr l0 [N_, N_, N_, N_, Y_ u4, N_, N_, N_, N_, N_, N_, N_, N_, N_, N_, N_, Y_ u16, Y_ u17, Y_ u18, Y_ u19, N_, N_, N_, N_, N_, N_, N_, N_, N_, N_, N_, N_, N_, N_, N_, N_, N_, N_, N_, N_, N_, N_, N_, N_, N_, N_, N_, N_, N_, N_, N_, N_, N_, N_, N_, N_, N_, N_, N_, N_, N_, N_, N_, N_, N_, N_, N_, N_, N_, N_, N_, N_, N_, N_, N_, N_, N_, N_, N_, N_, N_, N_, N_, N_, N_, N_, N_, N_, N_, N_, N_, N_, N_, N_, N_, N_, N_, N_, N_, N_, N_, N_, N_, N_, N_, N_, N_, Y_ (.int .i64 j), Y_ u108, Y_ u109, Y_ u110, Y_ u111, Y_ u112, Y_ u113, Y_ u114, Y_ u115, Y_ u116, Y_ u117, Y_ u118, Y_ u119, Y_ u120, Y_ u121, Y_ u122, Y_ u123, Y_ u124, Y_ u125, Y_ u126, Y_ u127, Y_ u128, Y_ u129, Y_ u130, Y_ u131] ∧ j ≤ ls.length ∧ St w0 [] w ((b2, .cells (kC seed).toArray 24 (0, 0)) :: N ++ (Nb ++ NT))) (fun (j : Nat) => ls.length - j) 0 ⟨_,_,_,_,_,_,_,_,_,_,_,_,_,_,_,_,_,_,_,_,_,_,_,_,_,_,_,_,_, rfl, Nat.zero_le _, H⟩ ?_
   intro j l w ⟨u4, u16, u17, u18, u19, u108, u109, u110, u111, u112, u113, u114, u115, u116, u117, u118, u119, u120, u121, u122, u123, u124, u125, u126, u127, u128, u129, u130, u131, hl, hj, H⟩
   obtain rfl := hl.trans (rfl : _ = [_,_,_,_,_,_,_,_,_,_,_,_,_,_,_,_,_,_,_,_,_,_,_,_,_,_,_,_,_,_,_,_,_,_,_,_,_,_,_,_,_,_,_,_,_,_,_,_,_,_,_,_,_,_,_,_,_,_,_,_,_,_,_,_,_,_,_,_,_,_,_,_,_,_,_,_,_,_,_,_,_,_,_,_,_,_,_,_,_,_,_,_,_,_,_,_,_,_,_,_,_,_,_,_,_,_,_,_,_,_,_,_,_,_,_,_,_,_,_,_,_,_,_,_,_,_,_,_,_,_,_,_])
   clear hl
   have hwl := hW.len
   refine c_rseq (n := 132) ⟨rfl, rfl⟩ ?_
   refine s_val (r_lss rfl rfl) ?_
   refine c_nil (l' := [_,_,_,_,_,_,_,_,_,_,_,_,_,_,_,_,_,_,_,_,_,_,_,_,_,_,_,_,_,_,_,_,_,_,_,_,_,_,_,_,_,_,_,_,_,_,_,_,_,_,_,_,_,_,_,_,_,_,_,_,_,_,_,_,_,_,_,_,_,_,_,_,_,_,_,_,_,_,_,_,_,_,_,_,_,_,_,_,_,_,_,_,_,_,_,_,_,_,_,_,_,_,_,_,_,_,_,_,_,_,_,_,_,_,_,_,_,_,_,_,_,_,_,_,_,_,_,_,_,_,_,_]) rfl ?_
   refine c_seq ?_
   refine c_if rfl (fun h108 => ?_) (fun h108 => ?_)
   ·skip
    obtain ⟨b, hx⟩ : ∃ b, ls[j]? = some b := ⟨_, List.getElem?_eq_getElem (by omega)⟩
    obtain ⟨b0, off, pre, post, T0, fz0, rfl, hb0, hp0⟩ := hr (by omega)
    obtain ⟨d, hd4, hrd⟩ := hW.all j b (by omega) hx
    refine wp_skip ?_
    refine x_thenNormal ?_
    refine c_seq ?_
    refine wp_block ?_
    refine c_rseq (n := 132) ⟨rfl, rfl⟩ ?_
    refine s_val (r_move rfl) ?_
    refine s_val (r_indexAddrS Try.runUnderlying68 Try.sizeOf44 rfl rfl (by omega) (by omega)) ?_
    refine s_val (r_loadn Try.isAgg44 Try.sizeOf44 rfl (H.rd0 hb0) (row_td elKB pre post hp0 hx (by omega)) (kC_length _)) ?_
    refine s_new (m_alloc (cs := (kC (By.zero 32))) H Try.zeroValue44 rfl) ?_
    intro w b17 H
    refine s_val (r_assign rfl) ?_
    refine s_st (m_storen H 0 32 Try.sizeOf44 rfl rfl (by first | exact (kC_length _) | exact (hC_length _) | exact (ceC_length _) | exact (ptC_length _ _ _ _) | exact (plV_length _ _ _) | exact litC_length) (by first | exact (kC_one _) | exact (hC_one _) | exact (ceC_one _) | exact (ptC_one _ _ _ _) | exact (plV_one _ _ _) | exact litC_one) rfl (by first | exact (by rw [kC_length]; omega) | exact (by rw [hC_length]; omega)) (by first | exact (kC_sp _ _) | exact (hC_sp _ _) | exact (kC_sp _ _) | exact (ceC_sp _ _))) (L' := (_ :: _ :: _)) rfl ?_
    intro w H
    refine c_nil (l' := [_,_,_,_,_,_,_,_,_,_,_,_,_,_,_,_,_,_,_,_,_,_,_,_,_,_,_,_,_,_,_,_,_,_,_,_,_,_,_,_,_,_,_,_,_,_,_,_,_,_,_,_,_,_,_,_,_,_,_,_,_,_,_,_,_,_,_,_,_,_,_,_,_,_,_,_,_,_,_,_,_,_,_,_,_,_,_,_,_,_,_,_,_,_,_,_,_,_,_,_,_,_,_,_,_,_,_,_,_,_,_,_,_,_,_,_,_,_,_,_,_,_,_,_,_,_,_,_,_,_,_,_]) rfl ?_
    refine c_rseq (n := 132) ⟨rfl, rfl⟩ ?_
    refine s_val (r_buildS (zs := litC) (out := litC) Try.runUnderlying49 Try.zeroValue49 places49 pn rfl) ?_
    refine s_val (r_makeIface Try.runUnderlying49 (fun _ h => nomatch h) rfl) ?_
    refine s_val (r_move rfl) ?_
    refine s_call (r_call Try.call13 (ec rfl en)) (get_mk _ _ _ _) ?_
    rintro v w ⟨g, rfl, HC⟩
    replace H : St w0 [] w (_ :: _ :: _ :: _) := H.call0 HC
    refine s_val (r_move rfl) ?_
    refine s_val (r_move rfl) ?_
    refine s_val (r_add rfl rfl (w_i64e (r := ((j + 1 : Nat) : Int)) (by omega) (by omega) (by omega))) ?_
    refine s_val (r_conv Try.runUnderlying3 Try.runUnderlying28 rfl (w_u64 (by omega) (by omega))) ?_
    refine s_call (r_call Try.call14 (ec rfl (ec rfl (ec rfl (ec rfl en))))) (read_spec g cs ((j + 1 : Nat) : Int) (by rw [hW.len]; omega) (fun y hy => Nat.le_trans (hW.body y hy) (by decide)) hW.refs bt xs NT hxl hv _ (GetW.mkR (H.at 0 rfl) rfl (hR.rrowM (fun h => h) H (fun p hp => (List.mem_cons_of_mem _ (List.mem_cons_of_mem _ (List.mem_cons_of_mem _ (List.mem_append_left _ hp)))))) (hC.brow H (fun p hp => (List.mem_cons_of_mem _ (List.mem_cons_of_mem _ (List.mem_cons_of_mem _ (List.mem_append_right _ (List.mem_append_left _ hp)))))))) hT (H.ownsM (.cons _ (.cons _ (.cons _ ((List.sublist_append_right _ _).trans (List.sublist_append_right _ _))))))) ?_
    rintro v w ⟨rfl, HC⟩
    replace H := H.quiet HC
    rw [hrd.read hd4]
    refine s_val (r_move rfl) ?_
    refine s_val (r_extract rfl rfl) ?_
    refine s_val (r_extract rfl rfl) ?_
    refine s_new (m_alloc (cs := (kC (By.zero 32))) H Try.zeroValue44 rfl) ?_
    intro w b18 H
    refine s_st (m_storen H 0 32 Try.sizeOf44 rfl rfl (by first | exact (kC_length _) | exact (hC_length _) | exact (ceC_length _) | exact (ptC_length _ _ _ _) | exact (plV_length _ _ _) | exact litC_length) (by first | exact (kC_one _) | exact (hC_one _) | exact (ceC_one _) | exact (ptC_one _ _ _ _) | exact (plV_one _ _ _) | exact litC_one) rfl (by first | exact (by rw [kC_length]; omega) | exact (by rw [hC_length]; omega)) (by first | exact (kC_sp _ _) | exact (hC_sp _ _) | exact (kC_sp _ _) | exact (ceC_sp _ _))) (L' := (_ :: _ :: _ :: _ :: _)) rfl ?_
    intro w H
    refine s_val (r_assign rfl) ?_
    refine c_nil (l' := [_,_,_,_,_,_,_,_,_,_,_,_,_,_,_,_,_,_,_,_,_,_,_,_,_,_,_,_,_,_,_,_,_,_,_,_,_,_,_,_,_,_,_,_,_,_,_,_,_,_,_,_,_,_,_,_,_,_,_,_,_,_,_,_,_,_,_,_,_,_,_,_,_,_,_,_,_,_,_,_,_,_,_,_,_,_,_,_,_,_,_,_,_,_,_,_,_,_,_,_,_,_,_,_,_,_,_,_,_,_,_,_,_,_,_,_,_,_,_,_,_,_,_,_,_,_,_,_,_,_,_,_]) rfl ?_
    refine c_rseq (n := 132) ⟨rfl, rfl⟩ ?_
    refine s_val (r_move rfl) ?_
    refine s_test (r_neq rfl rfl) (fun h125 => ?_) (fun h125 => ?_)
    ·skip
     exact absurd rfl h125
    ·skip
     refine s_val (r_move rfl) ?_
     refine g_yes rfl rfl ?_
     refine s_val (r_loadn Try.isAgg44 Try.sizeOf44 rfl (H.at 0 rfl) (by first | exact (kC_td _) | exact (hC_td _) | exact (hC_seed _) | exact (ceC_td _) | exact (ceC_place _) | exact (ptC_td _ _ _ _) | exact (plV_td _ _ _)) (by first | exact (kC_length _) | exact (hC_length _) | exact (ceC_length _) | exact (ptC_length _ _ _ _) | exact (plV_length _ _ _) | exact litC_length | exact rfl)) ?_
     refine g_yes rfl rfl ?_
     refine s_val (r_loadn Try.isAgg44 Try.sizeOf44 rfl (H.at 2 rfl) (by first | exact (kC_td _) | exact (hC_td _) | exact (hC_seed _) | exact (ceC_td _) | exact (ceC_place _) | exact (ptC_td _ _ _ _) | exact (plV_td _ _ _)) (by first | exact (kC_length _) | exact (hC_length _) | exact (ceC_length _) | exact (ptC_length _ _ _ _) | exact (plV_length _ _ _) | exact litC_length | exact rfl)) ?_
     refine g_yes rfl rfl ?_
     refine s_test (r_neqB byT44 rfl rfl) (fun h129 => ?_) (fun h129 => ?_)
     ·skip
      exact absurd rfl h129
     ·skip
      refine s_val (r_pickf rfl rfl) ?_
      refine c_nil (l' := [_,_,_,_,_,_,_,_,_,_,_,_,_,_,_,_,_,_,_,_,_,_,_,_,_,_,_,_,_,_,_,_,_,_,_,_,_,_,_,_,_,_,_,_,_,_,_,_,_,_,_,_,_,_,_,_,_,_,_,_,_,_,_,_,_,_,_,_,_,_,_,_,_,_,_,_,_,_,_,_,_,_,_,_,_,_,_,_,_,_,_,_,_,_,_,_,_,_,_,_,_,_,_,_,_,_,_,_,_,_,_,_,_,_,_,_,_,_,_,_,_,_,_,_,_,_,_,_,_,_,_,_]) rfl ?_
      refine c_iff rfl ?_
      refine wp_skip ?_
      refine x_blockNormal ?_
      refine x_thenNormal ?_
      refine c_region (n := 132) ⟨rfl, rfl⟩ ?_
      refine s_val (r_add rfl rfl (w_i64 (by omega) (by omega))) ?_
      refine s_val (r_move rfl) ?_
      refine c_nil0 (l' := [_,_,_,_,_,_,_,_,_,_,_,_,_,_,_,_,_,_,_,_,_,_,_,_,_,_,_,_,_,_,_,_,_,_,_,_,_,_,_,_,_,_,_,_,_,_,_,_,_,_,_,_,_,_,_,_,_,_,_,_,_,_,_,_,_,_,_,_,_,_,_,_,_,_,_,_,_,_,_,_,_,_,_,_,_,_,_,_,_,_,_,_,_,_,_,_,_,_,_,_,_,_,_,_,_,_,_,_,_,_,_,_,_,_,_,_,_,_,_,_,_,_,_,_,_,_,_,_,_,_,_,_]) rfl ?_
      exact ⟨j + 1, _, rfl, ⟨_,_,_,_,_,_,_,_,_,_,_,_,_,_,_,_,_,_,_,_,_,_,_,_,_,_,_,_,_, rfl, by omega, (H.sub (.cons _ (.cons _ (.cons _ (.cons_cons _ (List.Sublist.refl _))))))⟩, by omega⟩
   ·skip
    refine wp_exit (x_thenExit (x_thenExit (x_blockHit ?_)))
    refine x_thenNormal ?_
    refine c_rseq (n := 132) ⟨rfl, rfl⟩ ?_
    refine s_val (r_assign rfl) ?_
    refine c_nil (l' := [_,_,_,_,_,_,_,_,_,_,_,_,_,_,_,_,_,_,_,_,_,_,_,_,_,_,_,_,_,_,_,_,_,_,_,_,_,_,_,_,_,_,_,_,_,_,_,_,_,_,_,_,_,_,_,_,_,_,_,_,_,_,_,_,_,_,_,_,_,_,_,_,_,_,_,_,_,_,_,_,_,_,_,_,_,_,_,_,_,_,_,_,_,_,_,_,_,_,_,_,_,_,_,_,_,_,_,_,_,_,_,_,_,_,_,_,_,_,_,_,_,_,_,_,_,_,_,_,_,_,_,_]) rfl ?_
    refine wp_ret ?_
    refine e_ret (res1 rfl rfl) ⟨_, rfl, ?_⟩
    exact ⟨rfl, (H.sub (List.nil_sublist _))⟩

end Go.Proofs.Ytobfnieebiakeaa

