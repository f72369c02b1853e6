import Derived.Test.YtobfnieebiakeaaPM
import Derived.Test.YtobfnieebiakeaaPA6
namespace Go.Proofs.Ytobfnieebiakeaa
open Go Go.Er
theorem bytes43 : Try.t43.bytes = 104 := rfl

set_option maxHeartbeats 4000000 in
theorem read_spec (bg : Nat) (cl : List Ce) (n : Int) (hl : cl.length ≤ 1000000) (hb : ∀ y ∈ cl, y.body.b.length ≤ 1000000) (hrf : ∀ y ∈ cl, 0 ≤ y.ref) (bt : Nat) (xs : List Held) (NT : List (Nat × Obj)) (hxl : xs.length ≤ 100000) (hv : Valid xs) (w0 : World) (hg : GetW w0 bg cl) (hT : TreeN 90 88 bt (.iface 49 (.agg litC.toArray)) xs NT) (hown : Go.Er.Own w0 NT) :
  Calls Try.prog 14 #[(.iface 49 (.agg litC.toArray)), (.func (.func 27) #[] #[.pointer (some ⟨bg, 0, none⟩)]), .pointer (some ⟨bt, 0, none⟩), .int .u64 n] w0 fun e w => ∃ v, e = .returned v ∧ (v = .tuple #[.agg (kC (readF (findP (cl.map ceP)) (hasH xs) (keyH xs) n).1).toArray, .int .i64 (readF (findP (cl.map ceP)) (hasH xs) (keyH xs) n).2] ∧ St w0 [] w []) := by
 have H := St.refl w0
 refine cM_enter (args := [(.iface 49 (.agg litC.toArray)), (.func (.func 27) #[] #[.pointer (some ⟨bg, 0, none⟩)]), .pointer (some ⟨bt, 0, none⟩), .int .u64 n]) (l := t90 (t1 [])) Try.func14 Try.ntmps14 rfl rfl ?_
 refine zq 91 ⟨rfl, rfl⟩ ?_
 refine s_new (m_box (cs := [(.iface 49 (.agg litC.toArray))]) H rfl rfl) ?_
 intro w b4 H
 refine s_new (m_box (cs := [.pointer (some ⟨bt, 0, none⟩)]) H rfl rfl) ?_
 intro w b6 H
 refine s_new (zA (kC (By.zero 32)) H qo44) ?_
 intro w b8 H
 refine s_new (zA [.int .i64 0] H Try.zeroValue45) ?_
 intro w b9 H
 refine zc (t90 (t1 [])) ?_
 refine c_seq ?_
 refine zq 91 ⟨rfl, rfl⟩ ?_
 refine zL qg76 (H.at 3 rfl) ?_
 refine s_val (r_nili Try.runUnderlying76 rfl rfl) ?_
 refine zm ?_
 refine zy ?_
 refine zm ?_
 refine zy ?_
 refine s_val (r_nilf Try.runUnderlying37 ⟨_, _, _, rfl⟩ rfl rfl) ?_
 refine zf ?_
 refine zc (t90 (t1 [])) ?_
 refine c_iff rfl ?_
 refine wp_skip ?_
 refine x_thenNormal ?_
 refine zq 91 ⟨rfl, rfl⟩ ?_
 refine za ?_
 refine zc (t90 (t1 [])) ?_
 refine c_seq ?_
 refine wp_block ?_
 refine c_loop (fun (l0 : List Value) (k : Nat) (l : List Value) (w : World) => ∃ (u11 u12 u13 u26 u27 u28 u29 u30 u31 u32 u33 u34 u35 u36 u37 u38 u39 u40 u41 u42 u43 u44 u45 u46 u47 u48 u49 u50 u51 u52 u53 u54 u55 u56 u57 u58 u59 u60 : Value) (ys : List Ce) (m : Int) (ay : Option Addr) (cy : Nat) (Nr Nb : List (Nat × Obj)), l = ovr l0 [N_, N_, N_, Y_ (.int .u64 m), N_, N_, N_, N_, N_, N_, Y_ (.slice ay ys.length cy), Y_ u11, Y_ u12, Y_ u13, N_, N_, N_, N_, N_, N_, N_, N_, N_, N_, N_, N_, Y_ u26, Y_ u27, Y_ u28, Y_ u29, Y_ u30, Y_ u31, Y_ u32, Y_ u33, Y_ u34, Y_ u35, Y_ u36, Y_ u37, Y_ u38, Y_ u39, Y_ u40, Y_ u41, Y_ u42, Y_ u43, Y_ u44, Y_ u45, Y_ u46, Y_ u47, Y_ u48, Y_ u49, Y_ u50, Y_ u51, Y_ u52, Y_ u53, Y_ u54, Y_ u55, Y_ u56, Y_ u57, Y_ u58, Y_ u59, Y_ u60] ∧ k = ys.length ∧ ys.length ≤ 5 ∧ (WayI (findP (cl.map ceP)) (hasH xs) n (ys.map ceP) m ∨ (wayF (findP (cl.map ceP)) (hasH xs) 5 0 n = (ys.map ceP, 0) ∧ ∃ z, ys[ys.length - 1]? = some z ∧ z.kind = 1)) ∧ RowN 11 43 (rowC ceC ys) ys.length ay cy Nr ∧ CsN 5 ys Nb ∧ (∀ z ∈ ys, momK z.kind = true ∧ rightC (ceP z) ∧ 0 ≤ z.ref) ∧ St w0 [] w ((b9, .cells [.int .i64 0].toArray 45 (0, 0)) :: (b8, .cells (kC (By.zero 32)).toArray 44 (0, 0)) :: (b6, .cells [.pointer (some ⟨bt, 0, none⟩)].toArray 31 (0, 0)) :: (b4, .cells [(.iface 49 (.agg litC.toArray))].toArray 76 (0, 0)) :: Nr ++ Nb)) (fun (k : Nat) => 5 - k) 0 ⟨_, _, _, _, _, _, _, _, _, _, _, _, _, _, _, _, _, _, _, _, _, _, _, _, _, _, _, _, _, _, _, _, _, _, _, _, _, _, [], n, none, 0, [], [], rfl, rfl, (Nat.zero_le _), (.inl (WayI.start _ _ _)), RowN.nil, CsN.nil, (fun _ h => nomatch h), H⟩ ?_
 intro k l w ⟨u11, u12, u13, u26, u27, u28, u29, u30, u31, u32, u33, u34, u35, u36, u37, u38, u39, u40, u41, u42, u43, u44, u45, u46, u47, u48, u49, u50, u51, u52, u53, u54, u55, u56, u57, u58, u59, u60, ys, m, ay, cy, Nr, Nb, hl, hk, hl5, hW, hR, hC, hQ, H⟩
 obtain rfl := hl.trans (rfl : _ = t90 (t1 []))
 clear hl
 refine c_seq ?_
 refine c_cut (fun (l0 : List Value) (l : List Value) (w : World) => ∃ (u26 u27 u28 u29 u30 u31 u32 u33 u34 u35 u36 u37 : Value) (bb : Bool), l = ovr l0 [N_, N_, N_, N_, N_, N_, N_, N_, N_, N_, N_, N_, N_, N_, N_, N_, N_, N_, N_, N_, N_, N_, N_, N_, N_, N_, Y_ u26, Y_ u27, Y_ u28, Y_ u29, Y_ u30, Y_ u31, Y_ u32, Y_ u33, Y_ u34, Y_ u35, Y_ u36, Y_ u37, Y_ (.bool bb)] ∧ ((bb = true → WayI (findP (cl.map ceP)) (hasH xs) n (ys.map ceP) m) ∧ (bb = false → (wayF (findP (cl.map ceP)) (hasH xs) 5 0 n = (ys.map ceP, 0) ∧ ∃ z, ys[ys.length - 1]? = some z ∧ z.kind = 1))) ∧ St w0 [] w ((b9, .cells [.int .i64 0].toArray 45 (0, 0)) :: (b8, .cells (kC (By.zero 32)).toArray 44 (0, 0)) :: (b6, .cells [.pointer (some ⟨bt, 0, none⟩)].toArray 31 (0, 0)) :: (b4, .cells [(.iface 49 (.agg litC.toArray))].toArray 76 (0, 0)) :: Nr ++ Nb)) ?_ ?_
 ·refine c_region (n := 91) ⟨rfl, rfl⟩ ?_
  refine zm ?_
  refine s_val (r_lens qu22 (ec rfl en)) ?_
  refine s_test (r_eql rfl rfl) (fun h28 => ?_) (fun h28 => ?_)
  ·refine zm ?_
   refine zg ?_
   refine zg ?_
   refine zg ?_
   refine zg ?_
   refine zg ?_
   refine zg ?_
   refine zg ?_
   refine zg ?_
   refine zv ?_
   refine zb (t90 (t1 [])) ?_
   exact ⟨_, rfl, ⟨_, _, _, _, _, _, _, _, _, _, _, _, _, rfl, (by exact ⟨fun _ => hW.resolve_right (fun ⟨_, z, hz, _⟩ => by have := (List.getElem?_eq_some_iff.1 hz).1; omega), fun h => nomatch h⟩), H⟩⟩
  ·obtain ⟨y, hx⟩ : ∃ y, ys[ys.length - 1]? = some y := ⟨_, List.getElem?_eq_getElem (by omega)⟩
   obtain ⟨bz, spz, rfl, hcz, hNrE, hcz2⟩ := RowN.some hR (by omega)
   refine zm ?_
   refine zy ?_
   refine zm ?_
   refine zy ?_
   refine zm ?_
   refine zy ?_
   refine s_val (r_lens qu22 (ec rfl en)) ?_
   refine zy ?_
   refine zk ?_
   refine zy ?_
   refine s_val (ziS qu22 qs43) ?_
   refine zy ?_
   refine zR 0 qu43 qs3 ?_
   refine zy ?_
   refine s_val (r_load1 qg3 rfl (H.own (bz, Obj.cells (rowC ceC ys ++ spz).toArray 43 (0, 0)) (List.mem_cons_of_mem _ (List.mem_cons_of_mem _ (List.mem_cons_of_mem _ (List.mem_cons_of_mem _ (List.mem_append_left _ (by rw [hNrE]; exact List.mem_singleton.2 rfl))))))) (ce_kind hx (by omega))) ?_
   refine zy ?_
   refine s_test (r_neq rfl rfl) (fun h37 => ?_) (fun h37 => ?_)
   ·refine zf ?_
    refine zb (t90 (t1 [])) ?_
    exact ⟨_, rfl, ⟨_, _, _, _, _, _, _, _, _, _, _, _, _, rfl, (by exact ⟨fun _ => hW.resolve_right (fun ⟨_, z, hz, hk⟩ => by rw [hx] at hz; injection hz with hz; subst hz; exact h37 hk), fun h => nomatch h⟩), H⟩⟩
   ·refine zf ?_
    refine zb (t90 (t1 [])) ?_
    exact ⟨_, rfl, ⟨_, _, _, _, _, _, _, _, _, _, _, _, _, rfl, (by exact ⟨(fun h => nomatch h), fun _ => hW.resolve_left (fun hw => hw.2.1 (ceP y) (List.mem_map.2 ⟨y, List.mem_of_getElem? hx, rfl⟩) (Decidable.not_not.1 h37))⟩), H⟩⟩
 ·rintro l w ⟨u26, u27, u28, u29, u30, u31, u32, u33, u34, u35, u36, u37, bb, hl, hbb, H⟩
  obtain rfl := hl.trans (rfl : _ = t90 (t1 []))
  clear hl
  refine c_ifb rfl (fun h38 => ?_) (fun h38 => ?_)
  ·have hWI := hbb.1 h38
   have h4 : ys.length ≤ 4 := by have h := hWI.1; rwa [List.length_map] at h
   refine wp_skip ?_
   refine x_thenNormal ?_
   refine wp_block ?_
   refine zq 91 ⟨rfl, rfl⟩ ?_
   refine zm ?_
   refine zm ?_
   refine s_call (r_call Try.call28 (ec rfl (ec rfl en))) (told_spec bg cl m hl hb _ (hg.st (H.sub (List.nil_sublist _)))) ?_
   rintro v w (⟨y, No, hfd, rfl, hNo, HC⟩ | ⟨hfd, rfl, HC⟩)
   ·replace H : St w0 [] w (_ :: _ :: _ :: _ :: (Nr ++ (No ++ Nb))) := St.mid5 (A := [_,_,_,_]) (H.call0 HC)
    refine zm ?_
    refine ze ?_
    refine ze ?_
    refine s_new (zA (ceC ce0) H qo43) ?_
    intro w b11 H
    refine s_st (zs H 0 11 qs43) (L' := (_ :: _ :: _ :: _ :: _ :: _)) rfl ?_
    intro w H
    refine za ?_
    refine zc (t90 (t1 [])) ?_
    refine c_seq ?_
    refine zq 91 ⟨rfl, rfl⟩ ?_
    refine s_val (zp qg43 qs43 (H.at 0 rfl) (ceC_td _)) ?_
    refine zm ?_
    refine zm ?_
    refine s_val (r_lens qu22 (ec rfl en)) ?_
    refine zL qg31 (H.at 3 rfl) ?_
    refine s_call (r_call Try.call29 (ec rfl (ec rfl (ec rfl (ec rfl en))))) (look_spec y (momK y.kind) ys.length (by omega) bt (.iface 49 (.agg litC.toArray)) xs NT hxl hv _ (hNo.browM H (fun p hp => (List.mem_cons_of_mem _ (List.mem_cons_of_mem _ (List.mem_cons_of_mem _ (List.mem_cons_of_mem _ (List.mem_cons_of_mem _ (List.mem_append_right _ (List.mem_append_left _ hp))))))))) hT (hown.stM (H.sub (List.nil_sublist _)))) ?_
    rintro v w ⟨rfl, HC⟩
    replace H := H.quiet HC
    have hlk : lookF (findP (cl.map ceP)) (hasH xs) ys.length m = lookV (ceP y) (momK y.kind) ys.length (hasH xs) := lookV_in hfd (findP_num hfd)
    rw [← hlk]
    refine za ?_
    refine zc (t90 (t1 [])) ?_
    refine zq 91 ⟨rfl, rfl⟩ ?_
    refine zm ?_
    refine s_val (r_neq rfl rfl) ?_
    refine zc (t90 (t1 [])) ?_
    refine c_if rfl (fun h52 => ?_) (fun h52 => ?_)
    ·refine zq 91 ⟨rfl, rfl⟩ ?_
     refine s_val (r_buildA (pl := []) (zs := kC (By.zero 32)) (out := kC (By.zero 32)) qu44 qs5 qo44 pn (by intro p hp; simp at hp) rfl) ?_
     refine zm ?_
     refine s_st (zs H 2 32 qs44) (L' := (_ :: _ :: _ :: _ :: _ :: _)) rfl ?_
     intro w H
     refine s_st (m_store1 H 1 qs45 rfl rfl rfl rfl (by show 0 < 1; omega) rfl) (L' := (_ :: _ :: _ :: _ :: _ :: _)) rfl ?_
     intro w H
     refine zc (t90 (t1 [])) ?_
     refine wp_ret (x_thenRet (x_blockRet (x_thenRet (x_blockRet (x_thenRet ?_)))))
     refine eM_ret (rc_two rfl (ro qg44 qs44 (H.at 2 rfl)) (rc_cell1 qg45 rfl (H.at 1 rfl) rfl)) ⟨_, rfl, ?_⟩
     have hw := hWI.bad (by rw [List.length_map]; exact h52)
     rw [List.length_map] at hw
     have hrd : readF (findP (cl.map ceP)) (hasH xs) (keyH xs) n = (By.zero 32, lookF (findP (cl.map ceP)) (hasH xs) ys.length m) := by unfold readF; rw [hw]; exact readW_bad h52
     rw [hrd]
     exact ⟨rfl, (H.sub (List.nil_sublist _))⟩
    ·have hl0 : lookF (findP (cl.map ceP)) (hasH xs) ys.length m = 0 := Decidable.not_not.1 h52
     obtain ⟨c1, hc1, hmo, hrt, _,_⟩ := look_fine hl0
     rw [hfd] at hc1
     injection hc1 with hc1
     subst hc1
     refine wp_skip ?_
     refine x_thenNormal ?_
     refine zq 91 ⟨rfl, rfl⟩ ?_
     refine zm ?_
     refine s_val (zp qg43 qs43 (H.at 0 rfl) (ceC_td _)) ?_
     refine s_new (m_bslice1 (vs := ceC y) H qu22 qs43 qo43 (by omega) (by omega) rfl rfl rfl) ?_
     intro w b57 H
     replace H := St.rot3 (A := [_,_,_,_,_,_]) H
     refine s_any (m_append_row0 (L1 := [_,_,_,_,_,_] ++ (No ++ Nb)) (N := Nr) H hR qu22 qu22 (fun _ h => nomatch h) qs43 qo43 rfl Try.typeInfo43 (by rw [bytes43]; omega) (by rw [bytes43]; omega) (ec rfl (ec rfl en)) (Src.slice (vs := ceC y) (H.at 0 rfl) rfl rfl (ceC_one _))) ?_
     rintro v w ⟨a5, c5, N4, rfl, hN4, H⟩
     replace H : St w0 [] w (_ :: _ :: _ :: _ :: _ :: _ :: (N4 ++ (No ++ Nb))) := St.unrot3 (A := [_,_,_,_,_,_]) (R := No ++ Nb) H
     obtain ⟨ys2, hy2⟩ : ∃ ys2, ys2 = ys ++ [y] := ⟨_, rfl⟩
     have hll : ys2.length = ys.length + 1 := by rw [hy2, List.length_append]; rfl
     rw [← hll] at hN4 ⊢
     have hN5 : RowN 11 43 (rowC ceC ys2) ys2.length a5 c5 N4 := by rw [hy2, rowC_append, rowC_one1, ← hy2]; exact hN4
     have hC2 : CsN 5 ys2 (No ++ Nb) := by rw [hy2]; exact hC.snoc hNo
     have hQ2 : ∀ z ∈ ys2, momK z.kind = true ∧ rightC (ceP z) ∧ 0 ≤ z.ref := by
      intro z hz
      rw [hy2] at hz
      rcases List.mem_append.1 hz with h | h
      ·exact hQ z h
      ·rw [List.mem_singleton.1 h]; exact ⟨hmo, hrt, ce_ref hfd hrf⟩
     have hW2 : WayI (findP (cl.map ceP)) (hasH xs) n (ys2.map ceP) y.ref ∨ (wayF (findP (cl.map ceP)) (hasH xs) 5 0 n = (ys2.map ceP, 0) ∧ ∃ z, ys2[ys2.length - 1]? = some z ∧ z.kind = 1) := by
      have e : ys2.map ceP = ys.map ceP ++ [ceP y] := by rw [hy2, List.map_append]; rfl
      rcases Decidable.em (y.kind = 1) with h | h
      ·refine .inr ⟨by rw [e]; exact hWI.full (by rw [List.length_map]; exact hl0) hfd h, y, ?_, h⟩
       rw [hll, hy2, Nat.add_sub_cancel, List.getElem?_append_right (Nat.le_refl _), Nat.sub_self]; rfl
      ·refine .inl ?_
       rw [e]
       exact hWI.on (by rw [List.length_map]; exact hl0) hfd h
     refine za ?_
     refine zc (t90 (t1 [])) ?_
     refine c_region (n := 91) ⟨rfl, rfl⟩ ?_
     refine zR 6 qu43 qs28 ?_
     refine s_val (r_load1 qg28 rfl (H.at 1 rfl) (rfl : _ = some (Value.int .u64 y.ref))) ?_
     refine za ?_
     refine zb (t90 (t1 [])) ?_
     refine x_blockNormal ?_
     exact ⟨ys2.length, _, rfl, ⟨_, _, _, _, _, _, _, _, _, _, _, _, _, _, _, _, _, _, _, _, _, _, _, _, _, _, _, _, _, _, _, _, _, _, _, _, _, _, ys2, y.ref, a5, c5, N4, (No ++ Nb), rfl, rfl, (by omega), hW2, hN5, hC2, hQ2, (H.sub x00r)⟩, by omega⟩
   ·replace H := H.quiet HC
    refine zm ?_
    refine ze ?_
    refine ze ?_
    refine s_new (zA (ceC ce0) H qo43) ?_
    intro w b11 H
    refine s_st (zs H 0 11 qs43) (L' := (_ :: _ :: _ :: _ :: _ :: _)) rfl ?_
    intro w H
    refine za ?_
    refine zc (t90 (t1 [])) ?_
    refine c_seq ?_
    refine zq 91 ⟨rfl, rfl⟩ ?_
    refine s_val (zp qg43 qs43 (H.at 0 rfl) (ceC_td _)) ?_
    refine zm ?_
    refine zm ?_
    refine s_val (r_lens qu22 (ec rfl en)) ?_
    refine zL qg31 (H.at 3 rfl) ?_
    refine s_call (r_call Try.call29 (ec rfl (ec rfl (ec rfl (ec rfl en))))) (look_spec ce0 false ys.length (by omega) bt (.iface 49 (.agg litC.toArray)) xs NT hxl hv _ (brow_nil _ _) hT (hown.stM (H.sub (List.nil_sublist _)))) ?_
    rintro v w ⟨rfl, HC⟩
    replace H := H.quiet HC
    have hlk : lookF (findP (cl.map ceP)) (hasH xs) ys.length m = lookV (ceP ce0) false ys.length (hasH xs) := lookV_no hfd
    rw [← hlk]
    refine za ?_
    refine zc (t90 (t1 [])) ?_
    refine zq 91 ⟨rfl, rfl⟩ ?_
    refine zm ?_
    refine s_val (r_neq rfl rfl) ?_
    refine zc (t90 (t1 [])) ?_
    refine c_if rfl (fun h52 => ?_) (fun h52 => ?_)
    ·refine zq 91 ⟨rfl, rfl⟩ ?_
     refine s_val (r_buildA (pl := []) (zs := kC (By.zero 32)) (out := kC (By.zero 32)) qu44 qs5 qo44 pn (by intro p hp; simp at hp) rfl) ?_
     refine zm ?_
     refine s_st (zs H 2 32 qs44) (L' := (_ :: _ :: _ :: _ :: _ :: _)) rfl ?_
     intro w H
     refine s_st (m_store1 H 1 qs45 rfl rfl rfl rfl (by show 0 < 1; omega) rfl) (L' := (_ :: _ :: _ :: _ :: _ :: _)) rfl ?_
     intro w H
     refine zc (t90 (t1 [])) ?_
     refine wp_ret (x_thenRet (x_blockRet (x_thenRet (x_blockRet (x_thenRet ?_)))))
     refine eM_ret (rc_two rfl (ro qg44 qs44 (H.at 2 rfl)) (rc_cell1 qg45 rfl (H.at 1 rfl) rfl)) ⟨_, rfl, ?_⟩
     have hw := hWI.bad (by rw [List.length_map]; exact h52)
     rw [List.length_map] at hw
     have hrd : readF (findP (cl.map ceP)) (hasH xs) (keyH xs) n = (By.zero 32, lookF (findP (cl.map ceP)) (hasH xs) ys.length m) := by unfold readF; rw [hw]; exact readW_bad h52
     rw [hrd]
     exact ⟨rfl, (H.sub (List.nil_sublist _))⟩
    ·exact absurd (show lookF (findP (cl.map ceP)) (hasH xs) ys.length m ≠ 0 by rw [look_none hfd]; decide) h52
  ·obtain ⟨hwy, _⟩ := hbb.2 h38
   refine wp_exit (x_thenExit (x_thenExit (x_blockHit ?_)))
   refine x_thenNormal ?_
   refine zq 91 ⟨rfl, rfl⟩ ?_
   refine s_new (zA (kC (By.zero 32)) H qo44) ?_
   intro w b14 H
   refine zc (t90 (t1 [])) ?_
   refine c_seq ?_
   refine zq 91 ⟨rfl, rfl⟩ ?_
   refine zm ?_
   refine s_call (r_call Try.call30 (ec rfl en)) (backc_spec _ _ _ _) ?_
   rintro v w ⟨bk, rfl, HC⟩
   replace H := H.call0 HC
   refine zc (t90 (t1 [])) ?_
   refine wp_block ?_
   refine c_rangeR H rfl Try.call48 ?_
   intro fnr w bl H
   skip
   refine Calls.mono (backc1_spec (bl + 1) fnr bl bk cy _ _ _ _ ys ay (fun k N => ∃ b, foldB (keyH xs) ((ys.map ceP).drop k) = some b ∧ N = ((b14, .cells (kC b).toArray 44 (0, 0)) :: (b9, .cells [.int .i64 0].toArray 45 (0, 0)) :: (b8, .cells (kC (By.zero 32)).toArray 44 (0, 0)) :: (b6, .cells [.pointer (some ⟨bt, 0, none⟩)].toArray 31 (0, 0)) :: (b4, .cells [(.iface 49 (.agg litC.toArray))].toArray 76 (0, 0)) :: (Nr ++ Nb))) (fun _ L2 => foldB (keyH xs) (ys.map ceP) = none ∧ ∃ b : Blk, L2 = ((bl, .deferred (some [])) :: (bk, .cells [.slice ay ys.length cy].toArray 22 (0, 0)) :: ((b14, .cells (kC b).toArray 44 (0, 0)) :: (b9, .cells [.int .i64 3].toArray 45 (0, 0)) :: (b8, .cells (kC (By.zero 32)).toArray 44 (0, 0)) :: (b6, .cells [.pointer (some ⟨bt, 0, none⟩)].toArray 31 (0, 0)) :: (b4, .cells [(.iface 49 (.agg litC.toArray))].toArray 76 (0, 0)) :: (Nr ++ Nb)))) [] _ _ (by omega) w0 H ⟨By.zero 32, (by rw [List.drop_of_length_le (by rw [List.length_map]; exact Nat.le_refl _)]; rfl), rfl⟩ (by rintro k w N ⟨b, _, rfl⟩ H; exact hR.rrowM (fun h => h) H (fun p hp => by simp only [List.mem_cons, List.mem_append, hp, true_or, or_true])) ?_) ?_
   ·rintro k y N w hx ⟨b, hb, rfl⟩ H
    have hym := List.mem_of_getElem? hx
    obtain ⟨hmo, hrt, hr0⟩ := hQ y hym
    refine round_outM (M := (fun k N => ∃ b, foldB (keyH xs) ((ys.map ceP).drop k) = some b ∧ N = ((b14, .cells (kC b).toArray 44 (0, 0)) :: (b9, .cells [.int .i64 0].toArray 45 (0, 0)) :: (b8, .cells (kC (By.zero 32)).toArray 44 (0, 0)) :: (b6, .cells [.pointer (some ⟨bt, 0, none⟩)].toArray 31 (0, 0)) :: (b4, .cells [(.iface 49 (.agg litC.toArray))].toArray 76 (0, 0)) :: (Nr ++ Nb))) k) (M2 := fun L2 => foldB (keyH xs) (ys.map ceP) = none ∧ ∃ b : Blk, L2 = ((bl, .deferred (some [])) :: (bk, .cells [.slice ay ys.length cy].toArray 22 (0, 0)) :: ((b14, .cells (kC b).toArray 44 (0, 0)) :: (b9, .cells [.int .i64 3].toArray 45 (0, 0)) :: (b8, .cells (kC (By.zero 32)).toArray 44 (0, 0)) :: (b6, .cells [.pointer (some ⟨bt, 0, none⟩)].toArray 31 (0, 0)) :: (b4, .cells [(.iface 49 (.agg litC.toArray))].toArray 76 (0, 0)) :: (Nr ++ Nb)))) [_,_] (c_roundA (args := [.int .i64 (k : Nat), .agg (ceC y).toArray]) 16 (.cells (ceC y).toArray 43 (0, 0)) H rfl (l1 := [_,_,_,_,_,_,_,_,_,_,_,_,_,_,_,_,_,_,_,_,_,_,_,_,_,_,_,_,_,_,_,_,_,_,_,_,_,_,_,_,_,_,_,_,_,_,_,_,_,_,_,_,_,_,_,_,_,_,_,_,_,_,_,_,_,_,_,_,_,_,_,_,_,_,_,_,_,_,_,_,_,_,_,_,_,_,_,_,_,_,_]) rfl ?_ ?_)
    ·refine in_region (lets_round _) (n := 91) ⟨rfl, rfl⟩ rfl ?_
     refine s_new (zA (ceC ce0) H qo43) ?_
     intro w b16 H
     refine s_st (zs H 0 11 qs43) (L' := (_ :: _ :: _ :: _ :: _ :: _ :: _ :: _ :: _ :: _)) rfl ?_
     intro w H
     refine in_nil (l' := t90 (t1 [])) rfl ?_
     exact ⟨_, rfl, H⟩
    ·intro b16 l2 w hl2 H
     obtain rfl := hl2.symm.trans (rfl : _ = [_,_,_,_,_,_,_,_,_,_,_,_,_,_,_,_,_,_,_,_,_,_,_,_,_,_,_,_,_,_,_,_,_,_,_,_,_,_,_,_,_,_,_,_,_,_,_,_,_,_,_,_,_,_,_,_,_,_,_,_,_,_,_,_,_,_,_,_,_,_,_,_,_,_,_,_,_,_,_,_,_,_,_,_,_,_,_,_,_,_,_])
     refine wpIn_block ?_
     refine wpIn_seq ?_
     refine in_region (lets_round _) (n := 91) ⟨rfl, rfl⟩ rfl ?_
     refine zR 0 qu43 qs3 ?_
     refine s_val (r_load1 qg3 rfl (H.at 0 rfl) (rfl : _ = some (Value.int .i64 y.kind))) ?_
     refine in_nil (l' := t90 (t1 [])) rfl ?_
     refine x_thenNormal ?_
     refine wpIn_block ?_
     refine wpIn_seq ?_
     refine in_region (lets_round _) (n := 91) ⟨rfl, rfl⟩ rfl ?_
     refine s_val (r_eql rfl rfl) ?_
     refine za ?_
     refine in_nil (l' := t90 (t1 [])) rfl ?_
     refine x_thenNormal ?_
     refine in_if rfl (fun h67 => ?_) (fun h67 => ?_)
     ·refine in_draw (lets_round _) (sz := 91) ⟨rfl, rfl⟩ (by kernel_rfl) rfl H (H.sub x111101111r) rfl ?_
      intro w H
      refine zd 0 rfl (by kernel_rfl) (fun _ _ _ h => h) (H.sub x111101111r) (r_sliceA qu44 qs5 rfl) rfl ?_
      refine zdh 1 rfl (by kernel_rfl) (fun _ _ _ h => h) (H.sub x111101111r) (fun HS => z1 qg76 (HS.at 7 rfl)) rfl ?_
      refine zdh 2 rfl (by kernel_rfl) (fun _ _ _ h => h) (H.sub x111101111r) (fun HS => z1 qg31 (HS.at 6 rfl)) rfl ?_
      refine zdh 3 rfl (by kernel_rfl) (fun _ _ _ h => h) (H.sub x111101111r) (fun HS => zp qg43 qs43 (HS.at 0 rfl) (ceC_td _)) rfl ?_
      refine zl1 4 ?_
      have hbl : y.body.b.length ≤ 32 := right_body (c := ceP y) hrt (.inl h67)
      have hsl : (shownC (keyH xs) (ceP y)).length = y.body.b.length := shownC_length hbl
      refine b_call rfl go_none (r_call Try.call31 (ec rfl (ec rfl (ec rfl en)))) (shown_spec y hrt (.inl h67) hr0 bt xs NT hxl hv _ (hC.brow H (fun p hp => by simp only [List.mem_cons, List.mem_append, hp, or_true]) y hym) hT (hown.stM (H.sub (List.nil_sublist _)))) rfl ?_
      rintro v w ⟨bs2, rfl, HC⟩
      replace H := H.call0 HC
      refine ⟨(H.sub x0111101111r), ?_⟩
      refine zl1 5 ?_
      refine b_any rfl go_none (m_copyS H 5 qu41 qs5 (ec rfl (ec rfl en)) (blk_src (bs := shownC (keyH xs) (ceP y)) (H.at 0 rfl) _) (by omega) rfl (by rw [bC_length, kC_length]; omega) (put_splice b (by omega))) rfl (by rintro v w H; exact (H.sub x0111101111r)) ?_
      rintro v w H
      replace H : St w0 [] w (_ :: _ :: _ :: _ :: _ :: _ :: _ :: _ :: _ :: _ :: _) := H
      refine in_done (l' := [_,_,_,_,_,_,_,_,_,_,_,_,_,_,_,_,_,_,_,_,_,_,_,_,_,_,_,_,_,_,_,_,_,_,_,_,_,_,_,_,_,_,_,_,_,_,_,_,_,_,_,_,_,_,_,_,_,_,_,_,_,_,_,_,_,_,_,_,_,_,_,_,_,_,_,_,_,_,_,_,_,_,_,_,_,_,_,_,_,_,_]) (by kernel_rfl) rfl ?_
      refine x_blockNormal ?_
      refine x_blockNormal ?_
      have hb2 : foldB (keyH xs) ((ys.map ceP).drop k) = some (putAt b 0 (shownC (keyH xs) (ceP y))) := by
       rw [fold_at hx, hb]
       exact step_full (c := ceP y) h67
      exact .inl ⟨rfl, _, H.sub (.cons _ (.cons _ (List.Sublist.refl _))), fun _ _ => ⟨_, rfl, _, hb2, rfl⟩⟩
     ·refine wpIn_seq ?_
      refine in_region (lets_round _) (n := 91) ⟨rfl, rfl⟩ rfl ?_
      refine s_val (r_eql rfl rfl) ?_
      refine za ?_
      refine in_nil (l' := t90 (t1 [])) rfl ?_
      refine x_thenNormal ?_
      refine in_if rfl (fun h75 => ?_) (fun h75 => ?_)
      ·refine wpIn_seq ?_
       refine in_draw (lets_round _) (sz := 91) ⟨rfl, rfl⟩ (by kernel_rfl) rfl H (H) rfl ?_
       intro w H
       refine zdh 0 rfl (by kernel_rfl) (fun _ _ _ h => h) H (fun HS => zo qg44 qs44 (HS.at 4 rfl)) rfl ?_
       refine zdh 1 rfl (by kernel_rfl) (fun _ _ _ h => h) H (fun HS => z1 qg76 (HS.at 8 rfl)) rfl ?_
       refine zdh 2 rfl (by kernel_rfl) (fun _ _ _ h => h) H (fun HS => z1 qg31 (HS.at 7 rfl)) rfl ?_
       refine zdh 3 rfl (by kernel_rfl) (fun _ _ _ h => h) H (fun HS => zp qg43 qs43 (HS.at 0 rfl) (ceC_td _)) rfl ?_
       refine zl2 4 9 ?_ ?_
       ·have hbl : y.body.b.length ≤ 32 := right_body (c := ceP y) hrt (.inr h75)
        have hsl : (shownC (keyH xs) (ceP y)).length = y.body.b.length := shownC_length hbl
        refine b_call rfl go_none (r_call Try.call31 (ec rfl (ec rfl (ec rfl en)))) (shown_spec y hrt (.inr h75) hr0 bt xs NT hxl hv _ (hC.brow H (fun p hp => by simp only [List.mem_cons, List.mem_append, hp, or_true]) y hym) hT (hown.stM (H.sub (List.nil_sublist _)))) rfl ?_
        rintro v w ⟨bs2, rfl, HC⟩
        replace H := H.call0 HC
        refine ⟨(H.sub x0111111111r), ?_⟩
        refine zl2 5 9 ?_ ?_
        ·refine b_call rfl go_none (r_call Try.call32 (ec rfl (ec rfl en))) (apply_spec b _ _ (shownC (keyH xs) (ceP y)) (Nat.le_refl _) (by omega) _ (fun _ => ⟨bs2, 0, [], [], _, _, rfl, (by rw [List.nil_append, List.append_nil]; exact H.at 0 rfl), rfl⟩)) rfl ?_
         rintro v w ⟨rfl, HC⟩
         replace H := H.quiet HC
         refine ⟨(H.sub x0111111111r), ?_⟩
         refine zM 6 (H.sub x0111111111r) ?_
         refine zd 7 rfl (by kernel_rfl) (fun _ _ _ h => h) (H.sub x0111111111r) (r_extract rfl rfl) rfl ?_
         refine zd 8 rfl (by kernel_rfl) (fun _ _ _ h => h) (H.sub x0111111111r) (r_extract rfl rfl) rfl ?_
         refine zl1 9 ?_
         refine b_new rfl go_none (zA (kC (By.zero 32)) H qo44) rfl (fun _ _ H => (H.sub x00111111111r)) ?_
         intro w b17 H
         refine zl1 10 ?_
         refine b_st rfl go_none (zs H 0 32 qs44) (L' := (_ :: _ :: _ :: _ :: _ :: _ :: _ :: _ :: _ :: _ :: _ :: _)) rfl rfl (fun _ H => (H.sub x00111111111r)) ?_
         intro w H
         refine zd 11 rfl (by kernel_rfl) (fun _ _ _ h => h) (H.sub x00111111111r) (r_assign rfl) rfl ?_
         refine in_done (l' := [_,_,_,_,_,_,_,_,_,_,_,_,_,_,_,_,_,_,_,_,_,_,_,_,_,_,_,_,_,_,_,_,_,_,_,_,_,_,_,_,_,_,_,_,_,_,_,_,_,_,_,_,_,_,_,_,_,_,_,_,_,_,_,_,_,_,_,_,_,_,_,_,_,_,_,_,_,_,_,_,_,_,_,_,_,_,_,_,_,_,_]) (by kernel_rfl) rfl ?_
         refine x_thenNormal ?_
         refine wpIn_seq ?_
         refine wpIn_seq ?_
         refine in_region (lets_round _) (n := 91) ⟨rfl, rfl⟩ rfl ?_
         refine zm ?_
         refine s_val (r_neq rfl rfl) ?_
         refine in_nil (l' := t90 (t1 [])) rfl ?_
         refine x_thenNormal ?_
         refine in_if rfl (fun h87 => ?_) (fun h87 => ?_)
         ·have hap : applyD b (shownC (keyH xs) (ceP y)) = none := by
           rcases Decidable.em (applyD b (shownC (keyH xs) (ceP y)) = none) with h | h
           ·exact h
           ·rw [if_neg h] at h87; exact absurd rfl h87
          refine wpIn_seq ?_
          refine in_region (lets_round _) (n := 91) ⟨rfl, rfl⟩ rfl ?_
          refine s_val (r_buildA (pl := []) (zs := kC (By.zero 32)) (out := kC (By.zero 32)) qu44 qs5 qo44 pn (by intro p hp; simp at hp) rfl) ?_
          refine s_st (zs H 8 32 qs44) (L' := (_ :: _ :: _ :: _ :: _ :: _ :: _ :: _ :: _ :: _ :: _ :: _)) rfl ?_
          intro w H
          refine s_st (m_store1 H 7 qs45 rfl rfl rfl rfl (by show 0 < 1; omega) rfl) (L' := (_ :: _ :: _ :: _ :: _ :: _ :: _ :: _ :: _ :: _ :: _ :: _)) rfl ?_
          intro w H
          refine in_nil (l' := t90 (t1 [])) rfl ?_
          refine x_thenNormal ?_
          refine wpIn_ret (x_thenRet (x_blockRet (x_blockRet ?_)))
          have hnone : foldB (keyH xs) (ys.map ceP) = none := fold_none (k := k) (by rw [fold_at hx, hb]; exact (step_delta (c := ceP y) h75).trans hap)
          exact .inr ⟨rfl, _, H.sub (.cons _ (.cons _ (.cons _ (List.Sublist.refl _)))), fun _ _ => ⟨hnone, _, rfl⟩⟩
         ·have hap : applyD b (shownC (keyH xs) (ceP y)) = some ((applyD b (shownC (keyH xs) (ceP y))).getD (By.zero 32)) := by
           cases h : applyD b (shownC (keyH xs) (ceP y)) with
           | none => rw [if_pos h] at h87; exact absurd (show (3 : Int) ≠ 0 by decide) h87
           | some b2 => rfl
          refine wpIn_skip ?_
          refine x_thenNormal ?_
          refine in_region (lets_round _) (n := 91) ⟨rfl, rfl⟩ rfl ?_
          refine s_val (zo qg44 qs44 (H.at 0 rfl)) ?_
          refine s_st (zs H 6 32 qs44) (L' := (_ :: _ :: _ :: _ :: _ :: _ :: _ :: _ :: _ :: _ :: _ :: _)) rfl ?_
          intro w H
          refine in_nil (l' := t90 (t1 [])) rfl ?_
          refine x_blockNormal ?_
          refine x_blockNormal ?_
          have hb2 : foldB (keyH xs) ((ys.map ceP).drop k) = some ((applyD b (shownC (keyH xs) (ceP y))).getD (By.zero 32)) := by
           rw [fold_at hx, hb]
           exact (step_delta (c := ceP y) h75).trans (by rw [hap]; rfl)
          exact .inl ⟨rfl, _, H.sub (.cons _ (.cons _ (.cons _ (List.Sublist.refl _)))), fun _ _ => ⟨_, rfl, _, hb2, rfl⟩⟩
        ·refine b_new rfl go_none (zA (kC (By.zero 32)) H qo44) rfl (fun _ _ H => (H.sub x00111111111r)) ?_
         intro w b17 H
         refine zl1 5 ?_
         refine b_call rfl go_none (r_call Try.call32 (ec rfl (ec rfl en))) (apply_spec b _ _ (shownC (keyH xs) (ceP y)) (Nat.le_refl _) (by omega) _ (fun _ => ⟨bs2, 0, [], [], _, _, rfl, (by rw [List.nil_append, List.append_nil]; exact H.at 1 rfl), rfl⟩)) rfl ?_
         rintro v w ⟨rfl, HC⟩
         replace H := H.quiet HC
         refine ⟨(H.sub x00111111111r), ?_⟩
         refine zM 6 (H.sub x00111111111r) ?_
         refine zd 7 rfl (by kernel_rfl) (fun _ _ _ h => h) (H.sub x00111111111r) (r_extract rfl rfl) rfl ?_
         refine zd 8 rfl (by kernel_rfl) (fun _ _ _ h => h) (H.sub x00111111111r) (r_extract rfl rfl) rfl ?_
         refine zl1 10 ?_
         refine b_st rfl go_none (zs H 0 32 qs44) (L' := (_ :: _ :: _ :: _ :: _ :: _ :: _ :: _ :: _ :: _ :: _ :: _)) rfl rfl (fun _ H => (H.sub x00111111111r)) ?_
         intro w H
         refine zd 11 rfl (by kernel_rfl) (fun _ _ _ h => h) (H.sub x00111111111r) (r_assign rfl) rfl ?_
         refine in_done (l' := [_,_,_,_,_,_,_,_,_,_,_,_,_,_,_,_,_,_,_,_,_,_,_,_,_,_,_,_,_,_,_,_,_,_,_,_,_,_,_,_,_,_,_,_,_,_,_,_,_,_,_,_,_,_,_,_,_,_,_,_,_,_,_,_,_,_,_,_,_,_,_,_,_,_,_,_,_,_,_,_,_,_,_,_,_,_,_,_,_,_,_]) (by kernel_rfl) rfl ?_
         refine x_thenNormal ?_
         refine wpIn_seq ?_
         refine wpIn_seq ?_
         refine in_region (lets_round _) (n := 91) ⟨rfl, rfl⟩ rfl ?_
         refine zm ?_
         refine s_val (r_neq rfl rfl) ?_
         refine in_nil (l' := t90 (t1 [])) rfl ?_
         refine x_thenNormal ?_
         refine in_if rfl (fun h87 => ?_) (fun h87 => ?_)
         ·have hap : applyD b (shownC (keyH xs) (ceP y)) = none := by
           rcases Decidable.em (applyD b (shownC (keyH xs) (ceP y)) = none) with h | h
           ·exact h
           ·rw [if_neg h] at h87; exact absurd rfl h87
          refine wpIn_seq ?_
          refine in_region (lets_round _) (n := 91) ⟨rfl, rfl⟩ rfl ?_
          refine s_val (r_buildA (pl := []) (zs := kC (By.zero 32)) (out := kC (By.zero 32)) qu44 qs5 qo44 pn (by intro p hp; simp at hp) rfl) ?_
          refine s_st (zs H 8 32 qs44) (L' := (_ :: _ :: _ :: _ :: _ :: _ :: _ :: _ :: _ :: _ :: _ :: _)) rfl ?_
          intro w H
          refine s_st (m_store1 H 7 qs45 rfl rfl rfl rfl (by show 0 < 1; omega) rfl) (L' := (_ :: _ :: _ :: _ :: _ :: _ :: _ :: _ :: _ :: _ :: _ :: _)) rfl ?_
          intro w H
          refine in_nil (l' := t90 (t1 [])) rfl ?_
          refine x_thenNormal ?_
          refine wpIn_ret (x_thenRet (x_blockRet (x_blockRet ?_)))
          have hnone : foldB (keyH xs) (ys.map ceP) = none := fold_none (k := k) (by rw [fold_at hx, hb]; exact (step_delta (c := ceP y) h75).trans hap)
          exact .inr ⟨rfl, _, H.sub (.cons _ (.cons _ (.cons _ (List.Sublist.refl _)))), fun _ _ => ⟨hnone, _, rfl⟩⟩
         ·have hap : applyD b (shownC (keyH xs) (ceP y)) = some ((applyD b (shownC (keyH xs) (ceP y))).getD (By.zero 32)) := by
           cases h : applyD b (shownC (keyH xs) (ceP y)) with
           | none => rw [if_pos h] at h87; exact absurd (show (3 : Int) ≠ 0 by decide) h87
           | some b2 => rfl
          refine wpIn_skip ?_
          refine x_thenNormal ?_
          refine in_region (lets_round _) (n := 91) ⟨rfl, rfl⟩ rfl ?_
          refine s_val (zo qg44 qs44 (H.at 0 rfl)) ?_
          refine s_st (zs H 6 32 qs44) (L' := (_ :: _ :: _ :: _ :: _ :: _ :: _ :: _ :: _ :: _ :: _ :: _)) rfl ?_
          intro w H
          refine in_nil (l' := t90 (t1 [])) rfl ?_
          refine x_blockNormal ?_
          refine x_blockNormal ?_
          have hb2 : foldB (keyH xs) ((ys.map ceP).drop k) = some ((applyD b (shownC (keyH xs) (ceP y))).getD (By.zero 32)) := by
           rw [fold_at hx, hb]
           exact (step_delta (c := ceP y) h75).trans (by rw [hap]; rfl)
          exact .inl ⟨rfl, _, H.sub (.cons _ (.cons _ (.cons _ (List.Sublist.refl _)))), fun _ _ => ⟨_, rfl, _, hb2, rfl⟩⟩
       ·refine b_new rfl go_none (zA (kC (By.zero 32)) H qo44) rfl (fun _ _ H => (H.sub x0111111111r)) ?_
        intro w b17 H
        refine zl1 4 ?_
        have hbl : y.body.b.length ≤ 32 := right_body (c := ceP y) hrt (.inr h75)
        have hsl : (shownC (keyH xs) (ceP y)).length = y.body.b.length := shownC_length hbl
        refine b_call rfl go_none (r_call Try.call31 (ec rfl (ec rfl (ec rfl en)))) (shown_spec y hrt (.inr h75) hr0 bt xs NT hxl hv _ (hC.brow H (fun p hp => by simp only [List.mem_cons, List.mem_append, hp, or_true]) y hym) hT (hown.stM (H.sub (List.nil_sublist _)))) rfl ?_
        rintro v w ⟨bs2, rfl, HC⟩
        replace H := H.call0 HC
        refine ⟨(H.sub x00111111111r), ?_⟩
        refine zl1 5 ?_
        refine b_call rfl go_none (r_call Try.call32 (ec rfl (ec rfl en))) (apply_spec b _ _ (shownC (keyH xs) (ceP y)) (Nat.le_refl _) (by omega) _ (fun _ => ⟨bs2, 0, [], [], _, _, rfl, (by rw [List.nil_append, List.append_nil]; exact H.at 0 rfl), rfl⟩)) rfl ?_
        rintro v w ⟨rfl, HC⟩
        replace H := H.quiet HC
        refine ⟨(H.sub x00111111111r), ?_⟩
        refine zM 6 (H.sub x00111111111r) ?_
        refine zd 7 rfl (by kernel_rfl) (fun _ _ _ h => h) (H.sub x00111111111r) (r_extract rfl rfl) rfl ?_
        refine zd 8 rfl (by kernel_rfl) (fun _ _ _ h => h) (H.sub x00111111111r) (r_extract rfl rfl) rfl ?_
        refine zl1 10 ?_
        refine b_st rfl go_none (zs H 1 32 qs44) (L' := (_ :: _ :: _ :: _ :: _ :: _ :: _ :: _ :: _ :: _ :: _ :: _)) rfl rfl (fun _ H => (H.sub x00111111111r)) ?_
        intro w H
        refine zd 11 rfl (by kernel_rfl) (fun _ _ _ h => h) (H.sub x00111111111r) (r_assign rfl) rfl ?_
        refine in_done (l' := [_,_,_,_,_,_,_,_,_,_,_,_,_,_,_,_,_,_,_,_,_,_,_,_,_,_,_,_,_,_,_,_,_,_,_,_,_,_,_,_,_,_,_,_,_,_,_,_,_,_,_,_,_,_,_,_,_,_,_,_,_,_,_,_,_,_,_,_,_,_,_,_,_,_,_,_,_,_,_,_,_,_,_,_,_,_,_,_,_,_,_]) (by kernel_rfl) rfl ?_
        refine x_thenNormal ?_
        refine wpIn_seq ?_
        refine wpIn_seq ?_
        refine in_region (lets_round _) (n := 91) ⟨rfl, rfl⟩ rfl ?_
        refine zm ?_
        refine s_val (r_neq rfl rfl) ?_
        refine in_nil (l' := t90 (t1 [])) rfl ?_
        refine x_thenNormal ?_
        refine in_if rfl (fun h87 => ?_) (fun h87 => ?_)
        ·have hap : applyD b (shownC (keyH xs) (ceP y)) = none := by
          rcases Decidable.em (applyD b (shownC (keyH xs) (ceP y)) = none) with h | h
          ·exact h
          ·rw [if_neg h] at h87; exact absurd rfl h87
         refine wpIn_seq ?_
         refine in_region (lets_round _) (n := 91) ⟨rfl, rfl⟩ rfl ?_
         refine s_val (r_buildA (pl := []) (zs := kC (By.zero 32)) (out := kC (By.zero 32)) qu44 qs5 qo44 pn (by intro p hp; simp at hp) rfl) ?_
         refine s_st (zs H 8 32 qs44) (L' := (_ :: _ :: _ :: _ :: _ :: _ :: _ :: _ :: _ :: _ :: _ :: _)) rfl ?_
         intro w H
         refine s_st (m_store1 H 7 qs45 rfl rfl rfl rfl (by show 0 < 1; omega) rfl) (L' := (_ :: _ :: _ :: _ :: _ :: _ :: _ :: _ :: _ :: _ :: _ :: _)) rfl ?_
         intro w H
         refine in_nil (l' := t90 (t1 [])) rfl ?_
         refine x_thenNormal ?_
         refine wpIn_ret (x_thenRet (x_blockRet (x_blockRet ?_)))
         have hnone : foldB (keyH xs) (ys.map ceP) = none := fold_none (k := k) (by rw [fold_at hx, hb]; exact (step_delta (c := ceP y) h75).trans hap)
         exact .inr ⟨rfl, _, H.sub (.cons _ (.cons _ (.cons _ (List.Sublist.refl _)))), fun _ _ => ⟨hnone, _, rfl⟩⟩
        ·have hap : applyD b (shownC (keyH xs) (ceP y)) = some ((applyD b (shownC (keyH xs) (ceP y))).getD (By.zero 32)) := by
          cases h : applyD b (shownC (keyH xs) (ceP y)) with
          | none => rw [if_pos h] at h87; exact absurd (show (3 : Int) ≠ 0 by decide) h87
          | some b2 => rfl
         refine wpIn_skip ?_
         refine x_thenNormal ?_
         refine in_region (lets_round _) (n := 91) ⟨rfl, rfl⟩ rfl ?_
         refine s_val (zo qg44 qs44 (H.at 1 rfl)) ?_
         refine s_st (zs H 6 32 qs44) (L' := (_ :: _ :: _ :: _ :: _ :: _ :: _ :: _ :: _ :: _ :: _ :: _)) rfl ?_
         intro w H
         refine in_nil (l' := t90 (t1 [])) rfl ?_
         refine x_blockNormal ?_
         refine x_blockNormal ?_
         have hb2 : foldB (keyH xs) ((ys.map ceP).drop k) = some ((applyD b (shownC (keyH xs) (ceP y))).getD (By.zero 32)) := by
          rw [fold_at hx, hb]
          exact (step_delta (c := ceP y) h75).trans (by rw [hap]; rfl)
         exact .inl ⟨rfl, _, H.sub (.cons _ (.cons _ (.cons _ (List.Sublist.refl _)))), fun _ _ => ⟨_, rfl, _, hb2, rfl⟩⟩
      ·refine wpIn_skip ?_
       refine x_blockNormal ?_
       refine x_blockNormal ?_
       have hb2 : foldB (keyH xs) ((ys.map ceP).drop k) = some b := by
        rw [fold_at hx, hb]
        exact step_same (c := ceP y) h67 h75
       exact .inl ⟨rfl, _, H.sub (.cons _ (List.Sublist.refl _)), fun _ _ => ⟨_, rfl, _, hb2, rfl⟩⟩
   ·rintro e w ⟨v, rfl, _, ⟨_, ⟨b, hb, rfl⟩, H⟩ | ⟨k, L2, hk, ⟨hnone, b, rfl⟩, H⟩⟩
    ·refine ⟨_, rfl, .inl ⟨_, H, ?_⟩⟩
     intro w H
     refine x_blockNormal ?_
     refine x_thenNormal ?_
     refine cD_seq ?_
     refine cD_region (n := 91) ⟨rfl, rfl⟩ rfl ?_
     refine s_val (zo qg44 qs44 (H.at 3 rfl)) ?_
     refine s_st (zs H 5 32 qs44) (L' := (_ :: _ :: _ :: _ :: _ :: _ :: _ :: _ :: _)) rfl ?_
     intro w H
     refine s_st (m_store1 H 4 qs45 rfl rfl rfl rfl (by show 0 < 1; omega) rfl) (L' := (_ :: _ :: _ :: _ :: _ :: _ :: _ :: _ :: _)) rfl ?_
     intro w H
     refine in_nil (l' := t90 (t1 [])) rfl ?_
     refine x_thenNormal ?_
     refine wp_ret ?_
     refine eM_retD (k := 1) H rfl (fun w H => ⟨(rc_two rfl (ro qg44 qs44 (H.at 5 rfl)) (rc_cell1 qg45 rfl (H.at 4 rfl) rfl)), ⟨_, rfl, ?_⟩⟩)
     rw [List.drop_zero] at hb
     have hrd : readF (findP (cl.map ceP)) (hasH xs) (keyH xs) n = (b, 0) := by unfold readF; rw [hwy]; exact readW_some hb
     rw [hrd]
     exact ⟨rfl, (H.sub (List.nil_sublist _))⟩
    ·refine ⟨_, rfl, .inr ⟨_, H, ?_⟩⟩
     intro w H
     refine (x_blockRet (x_thenRet ?_))
     refine eM_retD (k := 1) H rfl (fun w H => ⟨(rc_two rfl (ro qg44 qs44 (H.at 5 rfl)) (rc_cell1 qg45 rfl (H.at 4 rfl) rfl)), ⟨_, rfl, ?_⟩⟩)
     have hrd : readF (findP (cl.map ceP)) (hasH xs) (keyH xs) n = (By.zero 32, 3) := by unfold readF; rw [hwy]; exact readW_none hnone
     rw [hrd]
     exact ⟨rfl, (H.sub (List.nil_sublist _))⟩

end Go.Proofs.Ytobfnieebiakeaa

