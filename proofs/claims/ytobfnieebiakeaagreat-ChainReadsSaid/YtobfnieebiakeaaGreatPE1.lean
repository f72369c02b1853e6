import Derived.Test.YtobfnieebiakeaaGreatPM
import Derived.Test.YtobfnieebiakeaaGreatPB3
import Derived.Test.YtobfnieebiakeaaGreatPVx2
namespace Go.Proofs.YtobfnieebiakeaaGreat
open Go Go.Er
set_option linter.unusedSimpArgs false in
theorem places68 : Places Tryz.prog #[⟨ "Leaf", 28, 0, false, "", "", 0⟩, ⟨ "Key", 24, 1, false, "", "", 8⟩] [(0, 1), (1, 32)] := fun w => by simp [qs24 w, qs28 w]
theorem bytes68 : Tryz.t68.bytes = 40 := rfl

set_option maxHeartbeats 4000000 in
theorem small_spec (a : Option Addr) (c : Nat) (cl : List Ce) (seed : Key) (ga : Option Addr) (gc : Nat) (ns : List Int) (w0 : World) (hq : CaW w0 a cl ga ns) :
  Calls Tryz.prog 6 #[.agg (caC a c cl seed ga gc ns).toArray] w0 fun e w => ∃ v, e = .returned v ∧ (((v = .int .i64 1 ∧ CaS cl ns) ∨ v = .int .i64 0) ∧ St w0 [] w []) := by
 have H := St.refl w0
 refine c_enter (args := [.agg (caC a c cl seed ga gc ns).toArray]) (l := t20 (t7 [])) Tryz.func6 Tryz.ntmps6 rfl rfl ?_
 refine zq 27 ⟨rfl, rfl⟩ ?_
 refine s_new (m_box (cs := (caC a c cl seed ga gc ns)) H rfl rfl) ?_
 intro w b1 H
 refine za ?_
 refine zc (t20 (t7 [])) ?_
 refine c_seq ?_
 refine zq 27 ⟨rfl, rfl⟩ ?_
 refine zR 0 qu27 qs22 ?_
 refine s_val (r_load1 qg22 rfl (H.at 0 rfl) (caC_cl _ _ _ _ _ _ _)) ?_
 refine s_val (r_lens qu22 (ec rfl en)) ?_
 refine s_test (r_gtr rfl rfl) (fun h8 => ?_) (fun h8 => ?_)
 ·refine zm ?_
  refine zg ?_
  refine zg ?_
  refine zg ?_
  refine zg ?_
  refine zv ?_
  refine zc (t20 (t7 [])) ?_
  refine c_ift rfl ?_
  refine zq 27 ⟨rfl, rfl⟩ ?_
  refine za ?_
  refine zc (t20 (t7 [])) ?_
  refine wp_ret (x_thenRet ?_)
  refine zw (res1 rfl rfl) ?_
  exact ⟨.inr rfl, (H.sub (List.nil_sublist _))⟩
 ·refine zm ?_
  refine zy ?_
  refine zR 33 qu27 Tryz.sizeOf25 ?_
  refine zy ?_
  refine s_val (r_load1 qg25 rfl (H.at 0 rfl) (caC_ns _ _ _ _ _ _ _)) ?_
  refine zy ?_
  refine s_val (r_lens qu25 (ec rfl en)) ?_
  refine zy ?_
  refine s_test (r_gtr rfl rfl) (fun h13 => ?_) (fun h13 => ?_)
  ·refine zf ?_
   refine zc (t20 (t7 [])) ?_
   refine c_ift rfl ?_
   refine zq 27 ⟨rfl, rfl⟩ ?_
   refine za ?_
   refine zc (t20 (t7 [])) ?_
   refine wp_ret (x_thenRet ?_)
   refine zw (res1 rfl rfl) ?_
   exact ⟨.inr rfl, (H.sub (List.nil_sublist _))⟩
  ·refine zf ?_
   refine zc (t20 (t7 [])) ?_
   refine c_iff rfl ?_
   refine wp_skip ?_
   refine x_thenNormal ?_
   refine c_seq ?_
   refine zq 27 ⟨rfl, rfl⟩ ?_
   refine zR 0 qu27 qs22 ?_
   refine s_val (r_load1 qg22 rfl (H.at 0 rfl) (caC_cl _ _ _ _ _ _ _)) ?_
   refine s_val (r_lens qu22 (ec rfl en)) ?_
   refine zm ?_
   refine zc (t20 (t7 [])) ?_
   refine wp_block ?_
   refine c_loop (fun (l0 : List Value) (i : Nat) (l : List Value) (w : World) => ∃ (u2 u4 u19 u20 u21 u22 u23 u24 u25 u26 : Value) , l = ovr l0 [N_, N_, Y_ u2, N_, Y_ u4, N_, N_, N_, N_, N_, N_, N_, N_, N_, N_, N_, N_, N_, Y_ (.int .i64 i), Y_ u19, Y_ u20, Y_ u21, Y_ u22, Y_ u23, Y_ u24, Y_ u25, Y_ u26] ∧ i ≤ cl.length ∧ (∀ z ∈ cl.take i, z.body.b.length ≤ 100) ∧ St w0 [] w [(b1, .cells (caC a c cl seed ga gc ns).toArray 27 (0, 0))]) (fun (i : Nat) => cl.length - i) 0 ⟨_, _, _, _, _, _, _, _, _, _, rfl, Nat.zero_le _, (fun _ h => nomatch h), H⟩ ?_
   intro i l w ⟨u2, u4, u19, u20, u21, u22, u23, u24, u25, u26, hl, hi, hsm, H⟩
   obtain rfl := hl.trans (rfl : _ = t20 (t7 []))
   clear hl
   refine zq 27 ⟨rfl, rfl⟩ ?_
   refine s_val (r_lss rfl rfl) ?_
   refine zc (t20 (t7 [])) ?_
   refine c_seq ?_
   refine c_if rfl (fun h19 => ?_) (fun h19 => ?_)
   ·obtain ⟨y, hx⟩ : ∃ y, cl[i]? = some y := ⟨_, List.getElem?_eq_getElem (by omega)⟩
    have hym := List.mem_of_getElem? hx
    obtain ⟨b0, off, pre, post, T0, fz0, rfl, hb0, hp0⟩ := hq.row (by omega)
    refine wp_skip ?_
    refine x_thenNormal ?_
    refine c_seq ?_
    refine wp_block ?_
    refine zq 27 ⟨rfl, rfl⟩ ?_
    refine s_val (ziS qu22 qs65) ?_
    refine s_val (r_loadn qg65 qs65 rfl (H.rd0 hb0) (row_td elCe pre post hp0 hx (by omega)) (ceC_length _)) ?_
    refine s_new (zA (ceC ce0) H qo65) ?_
    intro w b4 H
    refine s_st (zs H 0 11 qs65) (L' := (_ :: _ :: _)) rfl ?_
    intro w H
    refine zc (t20 (t7 [])) ?_
    refine zq 27 ⟨rfl, rfl⟩ ?_
    refine zR 10 qu65 qs59 ?_
    refine s_val (r_load1 qg59 rfl (H.at 0 rfl) (rfl : _ = some (bdV y.body))) ?_
    refine s_val (r_lens qu59 (ec rfl en)) ?_
    refine s_val (r_gtr rfl rfl) ?_
    refine zc (t20 (t7 [])) ?_
    refine c_if rfl (fun h25 => ?_) (fun h25 => ?_)
    ·refine zq 27 ⟨rfl, rfl⟩ ?_
     refine za ?_
     refine zc (t20 (t7 [])) ?_
     refine wp_ret (x_blockRet (x_thenRet (x_thenRet (x_blockRet (x_thenRet ?_)))))
     refine zw (res1 rfl rfl) ?_
     exact ⟨.inr rfl, (H.sub (List.nil_sublist _))⟩
    ·refine wp_skip ?_
     refine x_blockNormal ?_
     refine x_thenNormal ?_
     refine c_region (n := 27) ⟨rfl, rfl⟩ ?_
     refine zj ?_
     refine zm ?_
     refine zb (t20 (t7 [])) ?_
     replace H := H.sub (.cons _ (.cons_cons _ (List.Sublist.refl _)))
     exact ⟨i + 1, _, rfl, ⟨_,_,_,_,_,_,_,_,_,_, rfl, by omega, (by
       intro z hz
       rw [List.take_add_one, hx] at hz
       rcases List.mem_append.1 hz with h | h
       ·exact hsm z h
       ·rw [List.mem_singleton.1 h]; omega), H⟩, by omega⟩
   ·obtain rfl : i = cl.length := by omega
    rw [List.take_length] at hsm
    refine wp_exit (x_thenExit (x_thenExit (x_blockHit ?_)))
    refine x_thenNormal ?_
    refine zq 27 ⟨rfl, rfl⟩ ?_
    refine za ?_
    refine zc (t20 (t7 [])) ?_
    refine wp_ret ?_
    refine zw (res1 rfl rfl) ?_
    exact ⟨.inl ⟨rfl, by omega, by omega, hsm⟩, (H.sub (List.nil_sublist _))⟩

set_option maxHeartbeats 4000000 in
theorem laid_spec (a : Option Addr) (c : Nat) (cl : List Ce) (seed : Key) (ga : Option Addr) (gc : Nat) (ns : List Int) (hs : CaS cl ns) (w0 : World) (hq : CaW w0 a cl ga ns) :
  Calls Tryz.prog 7 #[.agg (caC a c cl seed ga gc ns).toArray] w0 fun e w => ∃ v, e = .returned v ∧ (∃ (bt : Nat) (xs : List Held) (ak : Option Addr) (ck : Nat) (Nt Nk : List (Nat × Obj)), v = .tuple #[.pointer (some ⟨bt, 0, none⟩), .slice ak (keysF xs cl).length ck] ∧ xs = tree0 litL litR seed ns.reverse ∧ TreeN 98 95 bt (.iface 40 (.agg litC.toArray)) xs Nt ∧ RowN 33 68 (rowC knC (keysF xs cl)) (keysF xs cl).length ak ck Nk ∧ St w0 [] w (Nk ++ Nt)) := by
 obtain ⟨hs1, hs2, _⟩ := id hs
 have H := St.refl w0
 refine c_enter (args := [.agg (caC a c cl seed ga gc ns).toArray]) (l := t50 (t5 [])) Tryz.func7 Tryz.ntmps7 rfl rfl ?_
 refine zq 55 ⟨rfl, rfl⟩ ?_
 refine s_new (m_box (cs := (caC a c cl seed ga gc ns)) H rfl rfl) ?_
 intro w b1 H
 refine za ?_
 refine za ?_
 refine zc (t50 (t5 [])) ?_
 refine zq 55 ⟨rfl, rfl⟩ ?_
 refine s_val (r_buildS (zs := litC) (out := litC) qu40 qo40 places40 pn rfl) ?_
 refine s_val (r_makeIface qu40 (fun _ h => nomatch h) rfl) ?_
 refine zR 1 qu27 qs24 ?_
 refine s_val (zp qg24 qs24 (H.at 0 rfl) (caC_seed _ _ _ _ _ _ _)) ?_
 refine s_call (r_call Tryz.call18 (ec rfl (ec rfl en))) (new_spec (.iface 40 (.agg litC.toArray)) seed litL litR (splits_lit litC) _) ?_
 rintro v w ⟨bt, NT, rfl, hT, HC⟩
 replace H : St w0 [] w (_ :: NT) := (H.call0 HC).perm (List.perm_append_comm (l₁ := [_]) (l₂ := NT))
 refine za ?_
 refine zc (t50 (t5 [])) ?_
 refine c_seq ?_
 refine zq 55 ⟨rfl, rfl⟩ ?_
 refine zR 33 qu27 Tryz.sizeOf25 ?_
 refine s_val (r_load1 qg25 rfl (H.at 0 rfl) (caC_ns _ _ _ _ _ _ _)) ?_
 refine s_val (r_lens qu25 (ec rfl en)) ?_
 refine zm ?_
 refine zc (t50 (t5 [])) ?_
 refine wp_block ?_
 refine c_loop (fun (l0 : List Value) (i : Nat) (l : List Value) (w : World) => ∃ (u6 u22 u23 u24 u25 u26 u27 u28 : Value) (NT : List (Nat × Obj)) (la : List Int) (xs : List Held), l = ovr l0 [N_, N_, N_, N_, N_, N_, Y_ u6, N_, N_, N_, N_, N_, N_, N_, N_, N_, N_, N_, N_, N_, N_, Y_ (.int .i64 i), Y_ u22, Y_ u23, Y_ u24, Y_ u25, Y_ u26, Y_ u27, Y_ u28] ∧ i ≤ ns.length ∧ xs = tree0 litL litR seed la ∧ la = (ns.take i).reverse ∧ TreeN 98 95 bt (.iface 40 (.agg litC.toArray)) xs NT ∧ St w0 [] w ((b1, .cells (caC a c cl seed ga gc ns).toArray 27 (0, 0)) :: NT)) (fun (i : Nat) => ns.length - i) 0 ⟨_, _, _, _, _, _, _, _, NT, [], [root seed], rfl, Nat.zero_le _, tree0_nil.symm, rfl, hT, H⟩ ?_
 intro i l w ⟨u6, u22, u23, u24, u25, u26, u27, u28, NT, la, xs, hl, hi, hxs, hla, hT, H⟩
 obtain rfl := hl.trans (rfl : _ = t50 (t5 []))
 clear hl
 have hv : Valid xs := by rw [hxs]; exact tree0_valid _
 have hxl : xs.length ≤ 1 + 17 * la.length := by rw [hxs]; exact tree0_lenN la
 have hll : la.length = i := by rw [hla, List.length_reverse, List.length_take]; omega
 refine zq 55 ⟨rfl, rfl⟩ ?_
 refine s_val (r_lss rfl rfl) ?_
 refine zc (t50 (t5 [])) ?_
 refine c_seq ?_
 refine c_if rfl (fun h22 => ?_) (fun h22 => ?_)
 ·obtain ⟨bu, off, pre, post, T, fz, rfl, hbu, hpu⟩ := hq.gone (by omega)
  refine wp_skip ?_
  refine x_thenNormal ?_
  refine c_seq ?_
  refine wp_block ?_
  refine zq 55 ⟨rfl, rfl⟩ ?_
  refine s_val (ziS qu25 qs28) ?_
  refine s_val (r_load1 qg28 rfl (H.rd0 hbu) (u_get pre ns post i hpu (by omega) (by omega))) ?_
  refine za ?_
  refine zc (t50 (t5 [])) ?_
  refine c_region (n := 55) ⟨rfl, rfl⟩ ?_
  refine zm ?_
  refine zm ?_
  obtain ⟨hn0, hn1⟩ := hq.u64.get (i := i) (by omega)
  refine s_call (r_call Tryz.call23 (ec rfl (ec rfl en))) (punc_t bt (.iface 40 (.agg litC.toArray)) xs (ns.getD i 0) NT litL litR (splits_lit litC) (by omega) hv hn0 hn1 _ hT (H.ownsM (.cons _ (List.Sublist.refl _)))) ?_
  rintro v w ⟨rfl, NT2, hT2, HC⟩
  replace H : St w0 [] w (_ :: NT2) := St.callr (L := [_]) H HC
  refine zb (t50 (t5 [])) ?_
  refine x_blockNormal ?_
  refine x_thenNormal ?_
  refine c_region (n := 55) ⟨rfl, rfl⟩ ?_
  refine zj ?_
  refine zm ?_
  refine zb (t50 (t5 [])) ?_
  exact ⟨i + 1, _, rfl, ⟨_, _, _, _, _, _, _, _, NT2, _, (punc litL litR xs (ns.getD i 0)), rfl, by omega, (by rw [hxs, tree0_punc]), (take_rev (by omega) hla), hT2, H⟩, by omega⟩
 ·obtain rfl : i = ns.length := by omega
  rw [List.take_length] at hla
  refine wp_exit (x_thenExit (x_thenExit (x_blockHit ?_)))
  refine x_thenNormal ?_
  refine zq 55 ⟨rfl, rfl⟩ ?_
  refine za ?_
  refine zc (t50 (t5 [])) ?_
  refine c_seq ?_
  refine zq 55 ⟨rfl, rfl⟩ ?_
  refine zR 0 qu27 qs22 ?_
  refine s_val (r_load1 qg22 rfl (H.at 0 rfl) (caC_cl _ _ _ _ _ _ _)) ?_
  refine s_val (r_lens qu22 (ec rfl en)) ?_
  refine zm ?_
  refine zc (t50 (t5 [])) ?_
  refine wp_block ?_
  refine c_loop (fun (l0 : List Value) (i : Nat) (l : List Value) (w : World) => ∃ (u9 u10 u11 u12 u33 u34 u35 u36 u37 u38 u39 u40 u41 u42 u43 u44 u45 u46 u47 u48 u49 u50 u51 u52 : Value) (Nk : List (Nat × Obj)) (a7 : Option Addr) (c7 : Nat) (ks : List Kn), l = ovr l0 [N_, N_, N_, N_, N_, N_, N_, Y_ (.slice a7 ks.length c7), N_, Y_ u9, Y_ u10, Y_ u11, Y_ u12, N_, N_, N_, N_, N_, N_, N_, N_, N_, N_, N_, N_, N_, N_, N_, N_, N_, N_, N_, Y_ (.int .i64 i), Y_ u33, Y_ u34, Y_ u35, Y_ u36, Y_ u37, Y_ u38, Y_ u39, Y_ u40, Y_ u41, Y_ u42, Y_ u43, Y_ u44, Y_ u45, Y_ u46, Y_ u47, Y_ u48, Y_ u49, Y_ u50, Y_ u51, Y_ u52] ∧ i ≤ cl.length ∧ ks = keysF xs (cl.take i) ∧ RowN 33 68 (rowC knC ks) ks.length a7 c7 Nk ∧ St w0 [] w ((b1, .cells (caC a c cl seed ga gc ns).toArray 27 (0, 0)) :: Nk ++ NT)) (fun (i : Nat) => cl.length - i) 0 ⟨_, _, _, _, _, _, _, _, _, _, _, _, _, _, _, _, _, _, _, _, _, _, _, _, [], none, 0, [], rfl, Nat.zero_le _, rfl, RowN.nil, H⟩ ?_
  intro i l w ⟨u9, u10, u11, u12, u33, u34, u35, u36, u37, u38, u39, u40, u41, u42, u43, u44, u45, u46, u47, u48, u49, u50, u51, u52, Nk, a7, c7, ks, hl, hi, hks, hR, H⟩
  obtain rfl := hl.trans (rfl : _ = t50 (t5 []))
  clear hl
  refine zq 55 ⟨rfl, rfl⟩ ?_
  refine s_val (r_lss rfl rfl) ?_
  refine zc (t50 (t5 [])) ?_
  refine c_seq ?_
  refine c_if rfl (fun h33 => ?_) (fun h33 => ?_)
  ·obtain ⟨y, hx⟩ : ∃ y, cl[i]? = some y := ⟨_, List.getElem?_eq_getElem (by omega)⟩
   have hym := List.mem_of_getElem? hx
   obtain ⟨b0, off, pre, post, T0, fz0, rfl, hb0, hp0⟩ := hq.row (by omega)
   refine wp_skip ?_
   refine x_thenNormal ?_
   refine c_seq ?_
   refine wp_block ?_
   refine zq 55 ⟨rfl, rfl⟩ ?_
   refine s_val (ziS qu22 qs65) ?_
   refine s_val (r_loadn qg65 qs65 rfl (H.rd0 hb0) (row_td elCe pre post hp0 hx (by omega)) (ceC_length _)) ?_
   refine s_new (zA (ceC ce0) H qo65) ?_
   intro w b9 H
   refine s_st (zs H 0 11 qs65) (L' := (_ :: _ :: _)) rfl ?_
   intro w H
   refine zc (t50 (t5 [])) ?_
   refine zq 55 ⟨rfl, rfl⟩ ?_
   refine zR 1 qu65 qs28 ?_
   refine s_val (r_load1 qg28 rfl (H.at 0 rfl) (rfl : _ = some (Value.int .u64 y.num))) ?_
   refine s_call (r_call qc20 (ec rfl en)) (leaf_spec _ _) ?_
   rintro v w ⟨rfl, HC⟩
   replace H := H.quiet HC
   refine za ?_
   refine zc (t50 (t5 [])) ?_
   refine zq 55 ⟨rfl, rfl⟩ ?_
   refine zm ?_
   refine zm ?_
   refine s_call (r_call Tryz.call19 (ec rfl (ec rfl en))) (key_spec bt (.iface 40 (.agg litC.toArray)) xs NT (by omega) hv (lf y.num) (lf_nn _) litL litR (splits_lit litC) _ hT (H.ownsM (.cons _ (.cons _ (List.sublist_append_right _ _))))) ?_
   rintro v w ⟨k, ok, hkr, rfl, HC⟩
   replace H := H.quiet HC
   obtain ⟨rfl, rfl⟩ := keyH_of hv hkr
   refine zm ?_
   refine ze ?_
   refine ze ?_
   refine s_new (zA (kC (By.zero 32)) H qo24) ?_
   intro w b11 H
   refine s_st (zs H 0 32 qs24) (L' := (_ :: _ :: _ :: _)) rfl ?_
   intro w H
   refine za ?_
   refine zc (t50 (t5 [])) ?_
   refine zq 55 ⟨rfl, rfl⟩ ?_
   refine zm ?_
   refine zc (t50 (t5 [])) ?_
   refine c_ifb rfl (fun h45 => ?_) (fun h45 => ?_)
   ·refine c_region (n := 55) ⟨rfl, rfl⟩ ?_
    refine zm ?_
    refine zm ?_
    refine s_val (zo qg24 qs24 (H.at 0 rfl)) ?_
    refine s_val (r_buildS Tryz.runUnderlying68 Tryz.zeroValue68 places68 (pc rfl (pc rfl pn)) (knfill _ _)) ?_
    refine s_new (m_bslice1 (vs := knC ⟨lf y.num, keyH xs (lf y.num)⟩) H qu32 qs68 Tryz.zeroValue68 (by omega) (by omega) rfl rfl (knC_length _)) ?_
    intro w b50 H
    replace H := St.rot3 (A := [_,_,_,_]) H
    have hlk : ks.length ≤ 12 := by rw [hks]; exact Nat.le_trans (keysF_len _ _) (by rw [List.length_take]; omega)
    refine s_any (m_append_row0 (L1 := [_,_,_,_] ++ NT) (N := Nk) H hR qu32 qu32 (fun _ h => nomatch h) qs68 Tryz.zeroValue68 rfl Tryz.typeInfo68 (by rw [bytes68]; omega) (by rw [bytes68]; omega) (ec rfl (ec rfl en)) (Src.slice (H.at 0 rfl) (knC_td _) (knC_length _) (knC_one _))) ?_
    rintro v w ⟨a5, c5, N5, rfl, hN5, H⟩
    replace H : St w0 [] w (_ :: _ :: _ :: _ :: (N5 ++ NT)) := St.unrot3 (A := [_,_,_,_]) (R := NT) H
    obtain ⟨ks2, hk2⟩ : ∃ z, z = ks ++ [⟨lf y.num, keyH xs (lf y.num)⟩] := ⟨_, rfl⟩
    have hll : ks2.length = ks.length + 1 := by rw [hk2, List.length_append]; rfl
    rw [← hll] at hN5 ⊢
    have hN6 : RowN 33 68 (rowC knC ks2) ks2.length a5 c5 N5 := by rw [hk2, rowC_append, rowC_one1, ← hk2]; exact hN5
    have hk3 : ks2 = keysF xs (cl.take (i + 1)) := by rw [hk2, hks, keysF_y hx h45]
    refine za ?_
    refine zb (t50 (t5 [])) ?_
    refine x_blockNormal ?_
    refine x_thenNormal ?_
    refine c_region (n := 55) ⟨rfl, rfl⟩ ?_
    refine zj ?_
    refine zm ?_
    refine zb (t50 (t5 [])) ?_
    exact ⟨i + 1, _, rfl, ⟨_, _, _, _, _, _, _, _, _, _, _, _, _, _, _, _, _, _, _, _, _, _, _, _, N5, a5, c5, ks2, rfl, by omega, hk3, hN6, (H.sub x000r)⟩, by omega⟩
   ·refine wp_skip ?_
    refine x_blockNormal ?_
    refine x_thenNormal ?_
    refine c_region (n := 55) ⟨rfl, rfl⟩ ?_
    refine zj ?_
    refine zm ?_
    refine zb (t50 (t5 [])) ?_
    exact ⟨i + 1, _, rfl, ⟨_, _, _, _, _, _, _, _, _, _, _, _, _, _, _, _, _, _, _, _, _, _, _, _, Nk, a7, c7, ks, rfl, by omega, (by rw [keysF_n hx h45]; exact hks), hR, (H.sub x00r)⟩, by omega⟩
  ·obtain rfl : i = cl.length := by omega
   rw [List.take_length] at hks
   subst hks
   refine wp_exit (x_thenExit (x_thenExit (x_blockHit ?_)))
   refine x_thenNormal ?_
   refine zq 55 ⟨rfl, rfl⟩ ?_
   refine zm ?_
   refine zm ?_
   refine za ?_
   refine za ?_
   refine zc (t50 (t5 [])) ?_
   refine wp_ret ?_
   refine zw (res2 rfl rfl rfl) ?_
   exact ⟨bt, xs, a7, c7, NT, Nk, rfl, hla ▸ hxs, hT, hR, H.sub (.cons _ (List.Sublist.refl _))⟩

end Go.Proofs.YtobfnieebiakeaaGreat

