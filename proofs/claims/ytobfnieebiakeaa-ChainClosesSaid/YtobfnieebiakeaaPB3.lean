import Derived.Test.YtobfnieebiakeaaPM
import Derived.Test.YtobfnieebiakeaaPA7
import Derived.Test.YtobfnieebiakeaaPA8
import Derived.Test.YtobfnieebiakeaaPB2
import Derived.Test.YtobfnieebiakeaaPVx2
namespace Go.Proofs.Ytobfnieebiakeaa
open Go Go.Er
set_option linter.unusedSimpArgs false in
theorem places49 : Places Try.prog #[⟨ "At", 24, 0, false, "", "", 0⟩, ⟨ "N", 28, 32, false, "", "", 32⟩, ⟨ "Off", 44, 33, false, "", "", 40⟩] [(0, 32), (32, 1), (33, 32)] := fun w => by simp [qs24 w, qs28 w, qs44 w]
theorem byT44 : ByT Try.prog 32 44 := ⟨by kernel_rfl, 5, Try.underlying44, Try.underlying5, qs5⟩

theorem rhide_l (p : Blk) (a : Option Addr) (c m : Nat) (xs : List UInt8) (hm : m = xs.length) (hl : xs.length ≤ 32) (w0 : World) (hx : BRow w0 a xs) :
  Calls Try.prog 22 #[.agg (kC p).toArray, .slice a m c] w0 fun e w => ∃ v, e = .returned v ∧ ∃ (a2 : Option Addr) (c2 : Nat) (N : List (Nat × Obj)), v = .slice a2 xs.length c2 ∧ RowN 1 5 (bC (xorB p.1 xs)) xs.length a2 c2 N ∧ St w0 [] w N := by
 subst hm
 exact rhide_spec p a c xs hl w0 hx

set_option maxHeartbeats 4000000 in
theorem awake23_spec  (w0 : World) :
  Calls Try.prog 9 #[] w0 fun e w => ∃ v, e = .returned v ∧ (v = .bool true ∧ St w0 [] w []) := by
 have H := St.refl w0
 refine c_enter (args := []) (l := t90 (t1 [])) Try.func9 Try.ntmps9 rfl rfl ?_
 refine zq 91 ⟨rfl, rfl⟩ ?_
 refine za ?_
 refine zc (t90 (t1 [])) ?_
 refine zq 91 ⟨rfl, rfl⟩ ?_
 refine s_val (r_buildS (zs := litC) (out := litC) qu49 Try.zeroValue49 places49 pn rfl) ?_
 refine s_val (r_makeIface qu49 (fun _ h => nomatch h) rfl) ?_
 refine s_val (r_buildA (pl := [(0, 1)]) (zs := kC (By.zero 32)) (out := kC key5) (pv := [(0, .int .u8 5)]) qu24 qs5 qo24 (pc rfl pn) (by intro p hp; simp at hp; subst hp; rfl) (kfill1 rfl rfl)) ?_
 refine s_call (r_call Try.call20 (ec rfl (ec rfl en))) (new_spec (.iface 49 (.agg litC.toArray)) key5 litL litR (splits_lit litC) _) ?_
 rintro v w ⟨bt, NT, rfl, hT, HC⟩
 replace H : St w0 [] w NT := (H.call0 HC).sub (by rw [List.append_nil]; exact List.Sublist.refl _)
 obtain ⟨xs, hxs⟩ : ∃ xs, xs = tree0 litL litR key5 [] := ⟨_, rfl⟩
 rw [show [root key5] = xs by rw [hxs, tree0_nil]] at hT
 have hv : Valid xs := by rw [hxs]; exact tree0_valid []
 have hx1 : xs.length = 1 := by rw [hxs, tree0_nil]; rfl
 have hxl : xs.length ≤ 100000 := by omega
 have hh6 : hasH xs 6 = true := by rw [hxs]; exact has_tree (by decide) (by decide) (fun h => nomatch h)
 refine za ?_
 refine zc (t90 (t1 [])) ?_
 refine zq 91 ⟨rfl, rfl⟩ ?_
 refine zm ?_
 refine s_call (r_call qc16 (ec rfl en)) (leaf_spec _ _) ?_
 rintro v w ⟨rfl, HC⟩
 replace H := H.quiet HC
 rw [show lf 3 = 6 from rfl]
 refine s_call (r_call Try.call21 (ec rfl (ec rfl en))) (key_spec bt (.iface 49 (.agg litC.toArray)) xs NT hxl hv 6 (by decide) litL litR (splits_lit litC) _ hT (H.ownsM (List.Sublist.refl _))) ?_
 rintro v w ⟨k, ok, hkr, rfl, HC⟩
 replace H := H.quiet HC
 obtain ⟨rfl, _⟩ := keyH_of hv hkr
 refine zm ?_
 refine ze ?_
 refine ze ?_
 refine s_new (zA (kC (By.zero 32)) H qo24) ?_
 intro w b2 H
 refine s_st (zs H 0 32 qs24) (L' := (_ :: _)) rfl ?_
 intro w H
 refine za ?_
 refine zc (t90 (t1 [])) ?_
 refine zq 91 ⟨rfl, rfl⟩ ?_
 refine s_new (zA (kC (By.zero 32)) H qo44) ?_
 intro w b4 H
 refine zc (t90 (t1 [])) ?_
 refine zq 91 ⟨rfl, rfl⟩ ?_
 refine s_val (ziA qu44 qs5) ?_
 refine s_st (m_store1 H 0 qs5 rfl rfl rfl rfl (by rw [kC_length]; omega) exB_set) (L' := (_ :: _ :: _)) rfl ?_
 intro w H
 refine zc (t90 (t1 [])) ?_
 refine c_cut (fun (l0 : List Value) (l : List Value) (w : World) => ∃ (u23 u24 u25 u26 u27 : Value) (b5 bh c26 : Nat) (sph : List Value), l = ovr l0 [N_, N_, N_, N_, N_, Y_ (.pointer (some ⟨b5, 0, none⟩)), N_, N_, N_, N_, N_, N_, N_, N_, N_, N_, N_, N_, N_, N_, N_, N_, N_, Y_ u23, Y_ u24, Y_ u25, Y_ u26, Y_ u27] ∧ St w0 [] w ((b5, .cells (ceC (fullC 3 ⟨some ⟨bh, 0, none⟩, (xorB (padB (keyH xs 6) 3).1 exB.1), c26⟩)).toArray 43 (0, 0)) :: (bh, .cells (bC (xorB (padB (keyH xs 6) 3).1 exB.1) ++ sph).toArray 5 (0, 0)) :: (b4, .cells (kC exB).toArray 44 (0, 0)) :: (b2, .cells (kC (keyH xs 6)).toArray 24 (0, 0)) :: NT)) ?_ ?_
 ·refine d_beginS (fun W => W.heap[b2]? = some (Obj.cells (kC (keyH xs 6)).toArray 24 (0, 0)) ∧ St w0 [] W []) (sz := 91) ⟨rfl, rfl⟩ (by kernel_rfl) H (⟨H.own (b2, Obj.cells (kC (keyH xs 6)).toArray 24 (0, 0)) (by first | (simp only [List.mem_cons, true_or, or_true]; done) | simp only [List.mem_cons, List.mem_append, true_or, or_true]), H.sub (List.nil_sublist _)⟩) rfl ?_
  intro w H
  refine zdh 0 rfl (by kernel_rfl) (fun _ _ _ h => h) (⟨H.own (b2, Obj.cells (kC (keyH xs 6)).toArray 24 (0, 0)) (by first | (simp only [List.mem_cons, true_or, or_true]; done) | simp only [List.mem_cons, List.mem_append, true_or, or_true]), H.sub (List.nil_sublist _)⟩) (fun HS => by obtain ⟨HSk, HS⟩ := HS; exact zo qg24 qs24 (id HSk)) rfl ?_
  refine zd 2 rfl (by kernel_rfl) (fun _ _ _ h => h) (⟨H.own (b2, Obj.cells (kC (keyH xs 6)).toArray 24 (0, 0)) (by first | (simp only [List.mem_cons, true_or, or_true]; done) | simp only [List.mem_cons, List.mem_append, true_or, or_true]), H.sub (List.nil_sublist _)⟩) (r_sliceA qu44 qs5 rfl) rfl ?_
  refine zl2 1 5 ?_ ?_
  ·refine b_call rfl go_none (r_call qc23 (ec rfl (ec rfl en))) (pad_spec (keyH xs 6) 3 (by decide) (by decide) _) rfl ?_
   rintro v w ⟨rfl, HC⟩
   replace H := H.quiet HC
   refine ⟨(⟨H.own (b2, Obj.cells (kC (keyH xs 6)).toArray 24 (0, 0)) (by first | (simp only [List.mem_cons, true_or, or_true]; done) | simp only [List.mem_cons, List.mem_append, true_or, or_true]), H.sub (List.nil_sublist _)⟩), ?_⟩
   refine zl2 3 5 ?_ ?_
   ·refine b_call rfl go_none (r_call Try.call22 (ec rfl (ec rfl en))) (rhide_l (padB (keyH xs 6) 3) _ _ _ exB.1 rfl (by decide) _ (fun _ => ⟨b4, 0, [], [], _, _, rfl, (by rw [List.nil_append, List.append_nil]; exact H.at 0 rfl), rfl⟩)) rfl ?_
    rintro v w ⟨a26, c26, N26, rfl, hN26, HC⟩
    replace H := H.call0 HC
    have hxl2 : (xorB (padB (keyH xs 6) 3).1 exB.1).length = exB.1.length := xorB_length (by rw [(padB _ _).2]; decide)
    rw [← hxl2] at hN26 ⊢
    obtain ⟨bh, sph, rfl, hc26, rfl, hc27⟩ := RowN.some hN26 (by rw [hxl2]; decide)
    replace H : St w0 [] w (_ :: _ :: _ :: _) := H
    refine ⟨(⟨H.own (b2, Obj.cells (kC (keyH xs 6)).toArray 24 (0, 0)) (by first | (simp only [List.mem_cons, true_or, or_true]; done) | simp only [List.mem_cons, List.mem_append, true_or, or_true]), H.sub (List.nil_sublist _)⟩), ?_⟩
    refine zd 4 rfl (by kernel_rfl) (fun _ _ _ h => h) (⟨H.own (b2, Obj.cells (kC (keyH xs 6)).toArray 24 (0, 0)) (by first | (simp only [List.mem_cons, true_or, or_true]; done) | simp only [List.mem_cons, List.mem_append, true_or, or_true]), H.sub (List.nil_sublist _)⟩) (r_buildS qu43 qo43 places43 (pc rfl (pc rfl (pc rfl pn))) (rfl : fillL _ _ _ = some (ceC (fullC 3 ⟨some ⟨bh, 0, none⟩, (xorB (padB (keyH xs 6) 3).1 exB.1), c26⟩)))) rfl ?_
    refine zl1 5 ?_
    refine b_new rfl go_none (zA (ceC ce0) H qo43) rfl (fun _ _ H => (⟨H.own (b2, Obj.cells (kC (keyH xs 6)).toArray 24 (0, 0)) (by first | (simp only [List.mem_cons, true_or, or_true]; done) | simp only [List.mem_cons, List.mem_append, true_or, or_true]), H.sub (List.nil_sublist _)⟩)) ?_
    intro w b5 H
    refine zl1 6 ?_
    refine b_st rfl go_none (zs H 0 11 qs43) (L' := (_ :: _ :: _ :: _ :: _)) rfl rfl (fun _ H => (⟨H.own (b2, Obj.cells (kC (keyH xs 6)).toArray 24 (0, 0)) (by first | (simp only [List.mem_cons, true_or, or_true]; done) | simp only [List.mem_cons, List.mem_append, true_or, or_true]), H.sub (List.nil_sublist _)⟩)) ?_
    intro w H
    refine zz (t90 (t1 [])) ?_
    exact ⟨_, rfl, ⟨_, _, _, _, _, _, _, _, _, rfl, H⟩⟩
   ·refine b_new rfl go_none (zA (ceC ce0) H qo43) rfl (fun _ _ H => (⟨H.own (b2, Obj.cells (kC (keyH xs 6)).toArray 24 (0, 0)) (by first | (simp only [List.mem_cons, true_or, or_true]; done) | simp only [List.mem_cons, List.mem_append, true_or, or_true]), H.sub (List.nil_sublist _)⟩)) ?_
    intro w b5 H
    refine zl1 3 ?_
    refine b_call rfl go_none (r_call Try.call22 (ec rfl (ec rfl en))) (rhide_l (padB (keyH xs 6) 3) _ _ _ exB.1 rfl (by decide) _ (fun _ => ⟨b4, 0, [], [], _, _, rfl, (by rw [List.nil_append, List.append_nil]; exact H.at 1 rfl), rfl⟩)) rfl ?_
    rintro v w ⟨a26, c26, N26, rfl, hN26, HC⟩
    replace H := H.call0 HC
    have hxl2 : (xorB (padB (keyH xs 6) 3).1 exB.1).length = exB.1.length := xorB_length (by rw [(padB _ _).2]; decide)
    rw [← hxl2] at hN26 ⊢
    obtain ⟨bh, sph, rfl, hc26, rfl, hc27⟩ := RowN.some hN26 (by rw [hxl2]; decide)
    replace H : St w0 [] w (_ :: _ :: _ :: _ :: _) := H
    refine ⟨(⟨H.own (b2, Obj.cells (kC (keyH xs 6)).toArray 24 (0, 0)) (by first | (simp only [List.mem_cons, true_or, or_true]; done) | simp only [List.mem_cons, List.mem_append, true_or, or_true]), H.sub (List.nil_sublist _)⟩), ?_⟩
    refine zd 4 rfl (by kernel_rfl) (fun _ _ _ h => h) (⟨H.own (b2, Obj.cells (kC (keyH xs 6)).toArray 24 (0, 0)) (by first | (simp only [List.mem_cons, true_or, or_true]; done) | simp only [List.mem_cons, List.mem_append, true_or, or_true]), H.sub (List.nil_sublist _)⟩) (r_buildS qu43 qo43 places43 (pc rfl (pc rfl (pc rfl pn))) (rfl : fillL _ _ _ = some (ceC (fullC 3 ⟨some ⟨bh, 0, none⟩, (xorB (padB (keyH xs 6) 3).1 exB.1), c26⟩)))) rfl ?_
    refine zl1 6 ?_
    refine b_st rfl go_none (zs H 1 11 qs43) (L' := (_ :: _ :: _ :: _ :: _)) rfl rfl (fun _ H => (⟨H.own (b2, Obj.cells (kC (keyH xs 6)).toArray 24 (0, 0)) (by first | (simp only [List.mem_cons, true_or, or_true]; done) | simp only [List.mem_cons, List.mem_append, true_or, or_true]), H.sub (List.nil_sublist _)⟩)) ?_
    intro w H
    refine zz (t90 (t1 [])) ?_
    replace H := H.swp 0 (L' := (_ :: _ :: _ :: _ :: _)) rfl
    exact ⟨_, rfl, ⟨_, _, _, _, _, _, _, _, _, rfl, H⟩⟩
  ·refine b_new rfl go_none (zA (ceC ce0) H qo43) rfl (fun _ _ H => (⟨H.own (b2, Obj.cells (kC (keyH xs 6)).toArray 24 (0, 0)) (by first | (simp only [List.mem_cons, true_or, or_true]; done) | simp only [List.mem_cons, List.mem_append, true_or, or_true]), H.sub (List.nil_sublist _)⟩)) ?_
   intro w b5 H
   refine zl1 1 ?_
   refine b_call rfl go_none (r_call qc23 (ec rfl (ec rfl en))) (pad_spec (keyH xs 6) 3 (by decide) (by decide) _) rfl ?_
   rintro v w ⟨rfl, HC⟩
   replace H := H.quiet HC
   refine ⟨(⟨H.own (b2, Obj.cells (kC (keyH xs 6)).toArray 24 (0, 0)) (by first | (simp only [List.mem_cons, true_or, or_true]; done) | simp only [List.mem_cons, List.mem_append, true_or, or_true]), H.sub (List.nil_sublist _)⟩), ?_⟩
   refine zl1 3 ?_
   refine b_call rfl go_none (r_call Try.call22 (ec rfl (ec rfl en))) (rhide_l (padB (keyH xs 6) 3) _ _ _ exB.1 rfl (by decide) _ (fun _ => ⟨b4, 0, [], [], _, _, rfl, (by rw [List.nil_append, List.append_nil]; exact H.at 1 rfl), rfl⟩)) rfl ?_
   rintro v w ⟨a26, c26, N26, rfl, hN26, HC⟩
   replace H := H.call0 HC
   have hxl2 : (xorB (padB (keyH xs 6) 3).1 exB.1).length = exB.1.length := xorB_length (by rw [(padB _ _).2]; decide)
   rw [← hxl2] at hN26 ⊢
   obtain ⟨bh, sph, rfl, hc26, rfl, hc27⟩ := RowN.some hN26 (by rw [hxl2]; decide)
   replace H : St w0 [] w (_ :: _ :: _ :: _ :: _) := H
   refine ⟨(⟨H.own (b2, Obj.cells (kC (keyH xs 6)).toArray 24 (0, 0)) (by first | (simp only [List.mem_cons, true_or, or_true]; done) | simp only [List.mem_cons, List.mem_append, true_or, or_true]), H.sub (List.nil_sublist _)⟩), ?_⟩
   refine zd 4 rfl (by kernel_rfl) (fun _ _ _ h => h) (⟨H.own (b2, Obj.cells (kC (keyH xs 6)).toArray 24 (0, 0)) (by first | (simp only [List.mem_cons, true_or, or_true]; done) | simp only [List.mem_cons, List.mem_append, true_or, or_true]), H.sub (List.nil_sublist _)⟩) (r_buildS qu43 qo43 places43 (pc rfl (pc rfl (pc rfl pn))) (rfl : fillL _ _ _ = some (ceC (fullC 3 ⟨some ⟨bh, 0, none⟩, (xorB (padB (keyH xs 6) 3).1 exB.1), c26⟩)))) rfl ?_
   refine zl1 6 ?_
   refine b_st rfl go_none (zs H 1 11 qs43) (L' := (_ :: _ :: _ :: _ :: _)) rfl rfl (fun _ H => (⟨H.own (b2, Obj.cells (kC (keyH xs 6)).toArray 24 (0, 0)) (by first | (simp only [List.mem_cons, true_or, or_true]; done) | simp only [List.mem_cons, List.mem_append, true_or, or_true]), H.sub (List.nil_sublist _)⟩)) ?_
   intro w H
   refine zz (t90 (t1 [])) ?_
   replace H := H.swp 0 (L' := (_ :: _ :: _ :: _ :: _)) rfl
   exact ⟨_, rfl, ⟨_, _, _, _, _, _, _, _, _, rfl, H⟩⟩
 ·rintro l w ⟨u23, u24, u25, u26, u27, b5, bh, c26, sph, hl, H⟩
  obtain rfl := hl.trans (rfl : _ = t90 (t1 []))
  clear hl
  obtain ⟨bd, hbd⟩ : ∃ b : Bd, b = ⟨some ⟨bh, 0, none⟩, (xorB (padB (keyH xs 6) 3).1 exB.1), c26⟩ := ⟨_, rfl⟩
  rw [← hbd] at H
  have hbb : bd.b = (xorB (padB (keyH xs 6) 3).1 exB.1) := by rw [hbd]
  have hb32 : bd.b.length = 32 := by rw [hbb, xorB_length (by rw [(padB _ _).2]; decide)]; rfl
  have hbl : ∀ y ∈ exL bd, y.body.b.length ≤ 1000000 := by
   intro y hy
   simp only [exL, List.mem_cons, List.not_mem_nil, or_false] at hy
   rcases hy with rfl | rfl
   ·show bd.b.length ≤ 1000000; omega
   ·exact Nat.zero_le _
  have hrf : ∀ y ∈ exL bd, 0 ≤ y.ref := by
   intro y hy
   simp only [exL, List.mem_cons, List.not_mem_nil, or_false] at hy
   rcases hy with rfl | rfl
   ·exact Int.le_refl _
   ·show (0 : Int) ≤ 3; decide
  refine zq 91 ⟨rfl, rfl⟩ ?_
  refine s_val (zp qg43 qs43 (H.at 0 rfl) (ceC_td _)) ?_
  refine s_val (r_buildS qu43 qo43 places43 (pc rfl (pc rfl (pc rfl pn))) (rfl : fillL _ _ _ = some (ceC (sameC 9 3)))) ?_
  refine s_new (m_bslice2 (us := ceC (fullC 3 bd)) (vs := ceC (sameC 9 3)) H qu22 qs43 qo43 (by omega) (by omega) rfl rfl rfl rfl rfl rfl) ?_
  intro w b30 H
  refine za ?_
  refine zc (t90 (t1 [])) ?_
  refine zq 91 ⟨rfl, rfl⟩ ?_
  refine s_val (r_buildS (zs := litC) (out := litC) qu49 Try.zeroValue49 places49 pn rfl) ?_
  refine s_val (r_makeIface qu49 (fun _ h => nomatch h) rfl) ?_
  refine zm ?_
  refine s_call (r_call qc13 (ec rfl en)) (get_mk _ _ _ _) ?_
  rintro v w ⟨g1, rfl, HC⟩
  replace H : St w0 [] w (_ :: _ :: _ :: _ :: _ :: _ :: _) := H.call0 HC
  refine zm ?_
  refine s_call (r_call Try.call14 (ec rfl (ec rfl (ec rfl (ec rfl en))))) (read_spec g1 (exL bd) 9 (by show 2 ≤ _; decide) hbl hrf bt xs NT hxl hv _ (GetW.mk2 (H.at 0 rfl) (H.at 1 rfl) (show BRow _ bd.a bd.b from fun _ => ⟨bh, 0, [], sph, _, _, (by rw [hbd]), (by rw [hbb, List.nil_append]; exact H.at 3 rfl), rfl⟩) (brow_nil _ _)) hT (H.ownsM (.cons _ (.cons _ (.cons _ (.cons _ (.cons _ (.cons _ (List.Sublist.refl _))))))))) ?_
  rintro v w ⟨rfl, HC⟩
  replace H := H.quiet HC
  have hr1 : (readF (findP ((exL bd).map ceP)) (hasH xs) (keyH xs) 9).1 = exB := by rw [ex_readY hh6 hbb]
  have hr2 : (readF (findP ((exL bd).map ceP)) (hasH xs) (keyH xs) 9).2 = 0 := by rw [ex_readY hh6 hbb]
  rw [hr1, hr2]
  refine zm ?_
  refine ze ?_
  refine ze ?_
  refine s_new (zA (kC (By.zero 32)) H qo44) ?_
  intro w b7 H
  refine s_st (zs H 0 32 qs44) (L' := (_ :: _ :: _ :: _ :: _ :: _ :: _ :: _)) rfl ?_
  intro w H
  refine za ?_
  refine zc (t90 (t1 [])) ?_
  refine zq 91 ⟨rfl, rfl⟩ ?_
  refine zm ?_
  refine s_call (r_call qc13 (ec rfl en)) (get_mk _ _ _ _) ?_
  rintro v w ⟨g2, rfl, HC⟩
  replace H : St w0 [] w (_ :: _ :: _ :: _ :: _ :: _ :: _ :: _ :: _) := H.call0 HC
  refine s_call (r_call qc12 (ec rfl (ec rfl en))) (needs_spec g2 (exL bd) 9 (by show 2 ≤ _; decide) hbl _ (GetW.mk2 (H.at 0 rfl) (H.at 3 rfl) (show BRow _ bd.a bd.b from fun _ => ⟨bh, 0, [], sph, _, _, (by rw [hbd]), (by rw [hbb, List.nil_append]; exact H.at 5 rfl), rfl⟩) (brow_nil _ _))) ?_
  rintro v w ⟨a42, c42, N42, rfl, hN42, HC⟩
  replace H := H.call0 HC
  rw [ex_need] at hN42 ⊢
  obtain ⟨bn, spn, rfl, hc42, rfl, hc43⟩ := RowN.some hN42 (by decide)
  replace H : St w0 [] w (_ :: _ :: _ :: _ :: _ :: _ :: _ :: _ :: _ :: _) := H
  refine za ?_
  refine zc (t90 (t1 [])) ?_
  refine zq 91 ⟨rfl, rfl⟩ ?_
  refine zm ?_
  refine s_call (r_call qc16 (ec rfl en)) (leaf_spec _ _) ?_
  rintro v w ⟨rfl, HC⟩
  replace H := H.quiet HC
  rw [show lf 3 = 6 from rfl]
  refine s_call (r_call Try.call15 (ec rfl (ec rfl en))) (punc_t bt (.iface 49 (.agg litC.toArray)) xs 6 NT litL litR (splits_lit litC) hxl hv (by decide) (by decide) _ hT (H.ownsM (.cons _ (.cons _ (.cons _ (.cons _ (.cons _ (.cons _ (.cons _ (.cons _ (.cons _ (List.Sublist.refl _)))))))))))) ?_
  rintro v w ⟨rfl, NT2, hT2, HC⟩
  replace H : St w0 [] w (_ :: _ :: _ :: _ :: _ :: _ :: _ :: _ :: _ :: NT2) := St.callr (L := [_,_,_,_,_,_,_,_,_]) H HC
  obtain ⟨ys, hys⟩ : ∃ ys, ys = punc litL litR xs 6 := ⟨_, rfl⟩
  rw [← hys] at hT2
  have hyt : ys = tree0 litL litR key5 [6] := by rw [hys, hxs, tree0_punc]
  have hvy : Valid ys := by rw [hyt]; exact tree0_valid _
  have hyl : ys.length ≤ 100000 := by have h := len_tree (sl := litL) (sr := litR) (n := 6) hv; rw [← hys] at h; omega
  have hh0 : hasH ys 6 = false := by rw [hyt]; exact has_gone (List.mem_singleton.2 rfl)
  refine zc (t90 (t1 [])) ?_
  refine zq 91 ⟨rfl, rfl⟩ ?_
  refine s_val (r_buildS (zs := litC) (out := litC) qu49 Try.zeroValue49 places49 pn rfl) ?_
  refine s_val (r_makeIface qu49 (fun _ h => nomatch h) rfl) ?_
  refine zm ?_
  refine s_call (r_call qc13 (ec rfl en)) (get_mk _ _ _ _) ?_
  rintro v w ⟨g3, rfl, HC⟩
  replace H : St w0 [] w (_ :: _ :: _ :: _ :: _ :: _ :: _ :: _ :: _ :: _ :: _) := H.call0 HC
  refine zm ?_
  refine s_call (r_call Try.call14 (ec rfl (ec rfl (ec rfl (ec rfl en))))) (read_spec g3 (exL bd) 9 (by show 2 ≤ _; decide) hbl hrf bt ys NT2 hyl hvy _ (GetW.mk2 (H.at 0 rfl) (H.at 5 rfl) (show BRow _ bd.a bd.b from fun _ => ⟨bh, 0, [], sph, _, _, (by rw [hbd]), (by rw [hbb, List.nil_append]; exact H.at 7 rfl), rfl⟩) (brow_nil _ _)) hT2 (H.ownsM (.cons _ (.cons _ (.cons _ (.cons _ (.cons _ (.cons _ (.cons _ (.cons _ (.cons _ (.cons _ (List.Sublist.refl _))))))))))))) ?_
  rintro v w ⟨rfl, HC⟩
  replace H := H.quiet HC
  have hr1 : (readF (findP ((exL bd).map ceP)) (hasH ys) (keyH ys) 9).1 = By.zero 32 := by rw [ex_readN hh0 hb32]
  have hr2 : (readF (findP ((exL bd).map ceP)) (hasH ys) (keyH ys) 9).2 = 10 := by rw [ex_readN hh0 hb32]
  rw [hr1, hr2]
  refine zm ?_
  refine ze ?_
  refine ze ?_
  refine s_new (zA (kC (By.zero 32)) H qo44) ?_
  intro w b10 H
  refine s_st (zs H 0 32 qs44) (L' := (_ :: _ :: _ :: _ :: _ :: _ :: _ :: _ :: _ :: _ :: _ :: _)) rfl ?_
  intro w H
  refine za ?_
  refine zc (t90 (t1 [])) ?_
  refine zq 91 ⟨rfl, rfl⟩ ?_
  refine zm ?_
  refine s_test (r_eql rfl rfl) (fun h56 => ?_) (fun h56 => ?_)
  ·refine zm ?_
   refine zy ?_
   refine s_val (zo qg44 qs44 (H.at 4 rfl)) ?_
   refine zy ?_
   refine s_val (zo qg44 qs44 (H.at 9 rfl)) ?_
   refine zy ?_
   refine s_test (r_eqlB byT44 rfl rfl) (fun h60 => ?_) (fun h60 => ?_)
   ·refine zv ?_
    refine zm ?_
    refine zy ?_
    refine zm ?_
    refine zy ?_
    refine s_val (r_lens qu25 (ec rfl en)) ?_
    refine zy ?_
    refine s_test (r_eql rfl rfl) (fun h65 => ?_) (fun h65 => ?_)
    ·refine zv ?_
     refine zm ?_
     refine zy ?_
     refine zm ?_
     refine zy ?_
     refine s_val (ziS qu25 qs28) ?_
     refine zy ?_
     refine s_val (r_load1 qg28 rfl (H.own (bn, Obj.cells (uC [3] ++ spn).toArray 28 (0, 0)) (by simp only [List.mem_cons, true_or, or_true])) (u_get0 (i := 0) (by decide) (by omega))) ?_
     refine zy ?_
     refine s_test (r_eql rfl rfl) (fun h71 => ?_) (fun h71 => ?_)
     ·refine zv ?_
      refine zm ?_
      refine zy ?_
      refine zm ?_
      refine zy ?_
      refine s_test (r_eql rfl rfl) (fun h75 => ?_) (fun h75 => ?_)
      ·refine zv ?_
       refine zm ?_
       refine zy ?_
       refine zm ?_
       refine zy ?_
       refine s_call (r_call qc13 (ec rfl en)) (get_mk _ _ _ _) ?_
       rintro v w ⟨g4, rfl, HC⟩
       replace H : St w0 [] w (_ :: _ :: _ :: _ :: _ :: _ :: _ :: _ :: _ :: _ :: _ :: _ :: _) := H.call0 HC
       refine zy ?_
       refine s_call (r_call Try.call18 (ec rfl (ec rfl en))) (depth_spec g4 (exL bd) 9 (by show 2 ≤ _; decide) hbl _ (GetW.mk2 (H.at 0 rfl) (H.at 7 rfl) (show BRow _ bd.a bd.b from fun _ => ⟨bh, 0, [], sph, _, _, (by rw [hbd]), (by rw [hbb, List.nil_append]; exact H.at 9 rfl), rfl⟩) (brow_nil _ _))) ?_
       rintro v w ⟨rfl, HC⟩
       replace H := H.quiet HC
       rw [ex_need]
       refine zy ?_
       refine s_test (r_eql rfl rfl) (fun h81 => ?_) (fun h81 => ?_)
       ·refine zv ?_
        refine zm ?_
        refine zy ?_
        refine zm ?_
        refine zy ?_
        refine s_call (r_call qc13 (ec rfl en)) (get_mk _ _ _ _) ?_
        rintro v w ⟨g5, rfl, HC⟩
        replace H : St w0 [] w (_ :: _ :: _ :: _ :: _ :: _ :: _ :: _ :: _ :: _ :: _ :: _ :: _ :: _) := H.call0 HC
        refine zy ?_
        refine s_new (m_bslice1 (vs := [.int .u64 9]) H qu25 qs28 qo28 (by omega) (by omega) rfl rfl rfl) ?_
        intro w b86 H
        refine zy ?_
        refine s_call (r_call Try.call17 (ec rfl (ec rfl en))) (close_spec g5 (exL bd) (some ⟨b86, 0, none⟩) 1 [9] (by show 2 ≤ _; decide) hbl (by decide) (by decide) _ (GetW.mk2 (H.at 1 rfl) (H.at 9 rfl) (show BRow _ bd.a bd.b from fun _ => ⟨bh, 0, [], sph, _, _, (by rw [hbd]), (by rw [hbb, List.nil_append]; exact H.at 11 rfl), rfl⟩) (brow_nil _ _)) (fun _ => ⟨b86, 0, [], [], _, _, rfl, H.at 0 rfl, rfl⟩)) ?_
        rintro v w ⟨os, a87, c87, N87, hon, hom, rfl, hN87, HC⟩
        have hol := ex_close hon hom
        replace H := H.call0 HC
        refine zy ?_
        refine s_val (r_lens qu25 (ec rfl en)) ?_
        refine zy ?_
        refine s_test (r_eql rfl rfl) (fun h89 => ?_) (fun h89 => ?_)
        ·refine zv ?_
         refine za ?_
         refine zc (t90 (t1 [])) ?_
         refine wp_ret ?_
         refine zw (res1 rfl rfl) ?_
         exact ⟨rfl, (H.sub (List.nil_sublist _))⟩
        ·exfalso; omega
       ·exact absurd (show ((([3] : List Int).length : Nat) : Int) = 1 from rfl) h81
      ·exact absurd rfl h75
     ·exact absurd rfl h71
    ·exact absurd (show ((([3] : List Int).length : Nat) : Int) = 1 from rfl) h65
   ·exact absurd rfl h60
  ·exact absurd rfl h56

end Go.Proofs.Ytobfnieebiakeaa

