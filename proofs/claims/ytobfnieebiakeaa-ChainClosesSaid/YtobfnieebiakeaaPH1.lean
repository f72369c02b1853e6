import Derived.Test.YtobfnieebiakeaaPM
import Derived.Test.YtobfnieebiakeaaPY5
import Derived.Test.YtobfnieebiakeaaPB2
import Derived.Test.YtobfnieebiakeaaPVx2
namespace Go.Proofs.Ytobfnieebiakeaa
open Go Go.Er

set_option maxHeartbeats 4000000 in
theorem sortg_spec (b n cap : Nat) (zs : List Int) (sp : List Value) (hn : n = zs.length) (h255 : zs.length < 256) (hD : zs.Nodup) (w0 : World) (hown : Go.Er.Own w0 [(b, .cells (uC zs ++ sp).toArray 28 (0, 0))]) :
  Calls Try.prog 62 #[.slice (some ⟨b, 0, none⟩) n cap] w0 fun e w => ∃ v, e = .returned v ∧ (v = .tuple #[] ∧ ∃ zs2, zs2.Perm zs ∧ Rise zs2 ∧ St w0 [b] w [(b, .cells (uC zs2 ++ sp).toArray 28 (0, 0))]) := by
 have H : St w0 [b] w0 [(b, .cells (uC zs ++ sp).toArray 28 (0, 0))] := hown.st
 refine c_enter (args := [.slice (some ⟨b, 0, none⟩) n cap]) (l := t10 (t1 [])) Try.func62 Try.ntmps62 rfl rfl ?_
 refine zq 11 ⟨rfl, rfl⟩ ?_
 refine zm ?_
 refine s_val (r_lens qu25 (ec rfl en)) ?_
 refine za ?_
 refine zc (t10 (t1 [])) ?_
 refine c_region (n := 11) ⟨rfl, rfl⟩ ?_
 refine zm ?_
 refine zm ?_
 refine zm ?_
 refine s_val (r_conv qu3 qu102 rfl v6) ?_
 refine s_call (r_call qc57 (ec rfl en)) (leng_spec _ (by omega) _) ?_
 rintro v w ⟨c, hlen, rfl, HC⟩
 replace H := H.quiet HC
 refine s_call (r_call qc81 (ec rfl (ec rfl (ec rfl (ec rfl en))))) (pdq_allu _ _ _ _ _ _ 0 n c (by omega) (by omega) (by omega) (by omega) (by have := hlen.1; omega) (by omega) (unl_nodup hD) Ahead.zero (Nat.lt_succ_self _) _ H.owns0) ?_
 rintro v w ⟨rfl, zs2, hsw, hs, HC⟩
 replace H := St.call (F := [_]) (L := []) H HC
 refine zb (t10 (t1 [])) ?_
 refine e_end (res0 rfl) ⟨_, rfl, ?_⟩
 exact ⟨rfl, zs2, hsw.perm, srt_rise (by rw [hsw.length, ← hn]; exact hs) (hsw.perm.nodup_iff.2 hD), H⟩

set_option maxHeartbeats 4000000 in
theorem sortg_nil  (w0 : World) :
  Calls Try.prog 62 #[.slice none 0 0] w0 fun e w => ∃ v, e = .returned v ∧ (v = .tuple #[] ∧ St w0 [] w []) := by
 have H := St.refl w0
 refine c_enter (args := [.slice none 0 0]) (l := t10 (t1 [])) Try.func62 Try.ntmps62 rfl rfl ?_
 refine zq 11 ⟨rfl, rfl⟩ ?_
 refine zm ?_
 refine s_val (r_lens qu25 (ec rfl en)) ?_
 refine za ?_
 refine zc (t10 (t1 [])) ?_
 refine c_region (n := 11) ⟨rfl, rfl⟩ ?_
 refine zm ?_
 refine zm ?_
 refine zm ?_
 refine s_val (r_conv qu3 qu102 rfl v6) ?_
 refine s_call (r_call qc57 (ec rfl en)) (leng_spec 0 (by omega) _) ?_
 rintro v w ⟨c, hlen, rfl, HC⟩
 replace H := H.quiet HC
 refine s_call (r_call qc81 (ec rfl (ec rfl (ec rfl (ec rfl en))))) (pdq_nilu _ _) ?_
 rintro v w ⟨rfl, HC⟩
 replace H := H.quiet HC
 refine zb (t10 (t1 [])) ?_
 refine e_end (res0 rfl) ⟨_, rfl, ?_⟩
 exact ⟨rfl, H⟩

theorem collect_l (b1 bm : Nat) (ls : List Int) (hlen : ls.length ≤ 1000000) (w0 : World) (hb1 : w0.heap[b1]? = some (.cells [.map (some bm)].toArray 56 (0, 0))) (hbm : w0.heap[bm]? = some (vmO (vbU ls))) :
  Calls Try.prog 61 #[(.func (.func 63) #[] #[.pointer (some ⟨b1, 0, none⟩)])] w0 fun e w => ∃ v, e = .returned v ∧ ((ls = [] ∧ v = .slice none 0 0 ∧ St w0 [] w []) ∨ (∃ (os : List Int) (b c2 : Nat) (sp : List Value), os.Perm ls ∧ v = .slice (some ⟨b, 0, none⟩) os.length c2 ∧ c2 ≤ (uC os ++ sp).length ∧ os.length ≤ c2 ∧ St w0 [] w [(b, .cells (uC os ++ sp).toArray 28 (0, 0))])) :=
 (collect_spec b1 bm ls hlen w0 hb1 hbm).mono fun _ _ ⟨v, he, os, a2, c2, N, hp, hv, hN, H⟩ => ⟨v, he, by
  obtain ⟨_, hnc, ⟨h0, rfl, rfl, rfl⟩ | ⟨b, sp, rfl, hc, rfl⟩⟩ := hN
  ·have e : os = [] := List.length_eq_zero_iff.1 h0
   subst e
   exact .inl ⟨hp.nil_eq.symm, hv, H⟩
  ·exact .inr ⟨os, b, c2, sp, hp, hv, by omega, hnc, H⟩⟩

set_option maxHeartbeats 4000000 in
theorem sortedg_spec (b1 bm : Nat) (ls : List Int) (hlen : ls.length ≤ 1000000) (h255 : ls.length < 256) (hD : ls.Nodup) (w0 : World) (hb1 : w0.heap[b1]? = some (.cells [.map (some bm)].toArray 56 (0, 0))) (hbm : w0.heap[bm]? = some (vmO (vbU ls))) :
  Calls Try.prog 41 #[(.func (.func 63) #[] #[.pointer (some ⟨b1, 0, none⟩)])] w0 fun e w => ∃ v, e = .returned v ∧ (∃ (os : List Int) (a2 : Option Addr) (c2 : Nat) (N : List (Nat × Obj)), os.Perm ls ∧ Rise os ∧ v = .slice a2 os.length c2 ∧ RowN 1 28 (uC os) os.length a2 c2 N ∧ St w0 [] w N) := by
 have H := St.refl w0
 refine c_enter (args := [(.func (.func 63) #[] #[.pointer (some ⟨b1, 0, none⟩)])]) (l := t9 []) Try.func41 Try.ntmps41 rfl rfl ?_
 refine zq 9 ⟨rfl, rfl⟩ ?_
 refine za ?_
 refine zc (t9 []) ?_
 refine zq 9 ⟨rfl, rfl⟩ ?_
 refine zm ?_
 refine s_call (r_call Try.call61 (ec rfl en)) (collect_l b1 bm ls hlen _ (H.rd0 hb1) (H.rd0 hbm)) ?_
 rintro v w (⟨hnil, rfl, HC⟩ | ⟨os, b, c2, sp, hp, rfl, hcp, hlc, HC⟩)
 ·replace H := H.quiet HC
  refine za ?_
  refine zc (t9 []) ?_
  refine zq 9 ⟨rfl, rfl⟩ ?_
  refine zm ?_
  refine s_call (r_call Try.call62 (ec rfl en)) (sortg_nil _) ?_
  rintro v w ⟨rfl, HC⟩
  replace H := H.quiet HC
  refine zc (t9 []) ?_
  refine zq 9 ⟨rfl, rfl⟩ ?_
  refine zm ?_
  refine za ?_
  refine zc (t9 []) ?_
  refine wp_ret ?_
  refine zw (res1 rfl rfl) ?_
  exact ⟨[], none, 0, [], by rw [hnil], List.Pairwise.nil, rfl, RowN.nil, H⟩
 ·replace H := H.call0 HC
  have hol := hp.length_eq
  refine za ?_
  refine zc (t9 []) ?_
  refine zq 9 ⟨rfl, rfl⟩ ?_
  refine zm ?_
  refine s_call (r_call Try.call62 (ec rfl en)) (sortg_spec b _ c2 os sp rfl (by omega) (hp.nodup_iff.2 hD) _ (H.ownsM (.cons_cons _ (List.nil_sublist _)))) ?_
  rintro v w ⟨rfl, zs2, hp2, hrz, HC⟩
  replace H : St w0 [] w (_ :: []) := St.call (F := [_]) H HC
  have hol2 := hp2.length_eq
  refine zc (t9 []) ?_
  refine zq 9 ⟨rfl, rfl⟩ ?_
  refine zm ?_
  refine za ?_
  refine zc (t9 []) ?_
  refine wp_ret ?_
  refine zw (res1 rfl rfl) ?_
  rw [← hol2]
  exact ⟨zs2, _, c2, _, hp2.trans hp, hrz, rfl, RowN.mk (by rw [uC_length, Nat.mul_one]) (by omega) (by rw [List.length_append, uC_length] at hcp ⊢; omega), H⟩

set_option maxHeartbeats 4000000 in
theorem closeg_spec (gv : Value) (nd : Int → List Int) (U : List Int) (a : Option Addr) (c : Nat) (ns : List Int) (hU : ∀ n x, x ∈ nd n → x ∈ U) (h4 : ∀ n, (nd n).length ≤ 4) (hb : ns.length + U.length < 256) (w0 : World) (hnd : (∀ (n : Int) (w : World) (L : List (Nat × Obj)), St w0 [] w L → Calls Try.prog 12 #[gv, .int .u64 n] w fun e w2 => ∃ v, e = .returned v ∧ ∃ (a2 : Option Addr) (c2 : Nat) (N : List (Nat × Obj)), v = .slice a2 (nd n).length c2 ∧ RowN 1 28 (uC (nd n)) (nd n).length a2 c2 N ∧ St w [] w2 N)) (hr : URow w0 a ns) :
  Calls Try.prog 17 #[gv, .slice a ns.length c] w0 fun e w => ∃ v, e = .returned v ∧ (∃ (os : List Int) (a2 : Option Addr) (c2 : Nat) (N : List (Nat × Obj)), Rise os ∧ (∀ x, x ∈ os ↔ ClM nd ns x) ∧ v = .slice a2 os.length c2 ∧ RowN 1 28 (uC os) os.length a2 c2 N ∧ St w0 [] w N) := by
 have H := St.refl w0
 refine c_enter (args := [gv, .slice a ns.length c]) (l := t30 (t4 [])) Try.func17 Try.ntmps17 rfl rfl ?_
 refine zq 34 ⟨rfl, rfl⟩ ?_
 refine za ?_
 refine zc (t30 (t4 [])) ?_
 refine zq 34 ⟨rfl, rfl⟩ ?_
 refine s_new (m_makeMapV H) ?_
 intro w b10 H
 refine za ?_
 refine zc (t30 (t4 [])) ?_
 refine c_seq ?_
 refine zq 34 ⟨rfl, rfl⟩ ?_
 refine zm ?_
 refine s_val (r_lens qu25 (ec rfl en)) ?_
 refine zm ?_
 refine zc (t30 (t4 [])) ?_
 refine wp_block ?_
 refine c_loop (fun (l0 : List Value) (i : Nat) (l : List Value) (w : World) => ∃ (u7 u9 u14 u15 u16 u17 u18 u19 u20 u21 u22 u23 u24 u25 u26 u27 u28 u29 u30 : Value) (ks : List Int), l = ovr l0 [N_, N_, N_, N_, N_, N_, N_, Y_ u7, N_, Y_ u9, N_, N_, N_, Y_ (.int .i64 i), Y_ u14, Y_ u15, Y_ u16, Y_ u17, Y_ u18, Y_ u19, Y_ u20, Y_ u21, Y_ u22, Y_ u23, Y_ u24, Y_ u25, Y_ u26, Y_ u27, Y_ u28, Y_ u29, Y_ u30] ∧ i ≤ ns.length ∧ ks.Nodup ∧ (∀ x, x ∈ ks ↔ ClM nd (ns.take i) x) ∧ St w0 [] w ((b10, vmO (vbU ks)) :: [])) (fun (i : Nat) => ns.length - i) 0 ⟨_, _, _, _, _, _, _, _, _, _, _, _, _, _, _, _, _, _, _, [], rfl, Nat.zero_le _, .nil, (fun x => ⟨fun h => (nomatch h), fun h => absurd h clM_nil⟩), H⟩ ?_
 intro i l w ⟨u7, u9, u14, u15, u16, u17, u18, u19, u20, u21, u22, u23, u24, u25, u26, u27, u28, u29, u30, ks, hl, hi, hD, hK, H⟩
 obtain rfl := hl.trans (rfl : _ = t30 (t4 []))
 clear hl
 refine zq 34 ⟨rfl, rfl⟩ ?_
 refine s_val (r_lss rfl rfl) ?_
 refine zc (t30 (t4 [])) ?_
 refine c_seq ?_
 refine c_if rfl (fun h14 => ?_) (fun h14 => ?_)
 ·obtain ⟨bu, off, pre, post, T, fz, rfl, hbu, hpu⟩ := hr (by omega)
  refine wp_skip ?_
  refine x_thenNormal ?_
  refine c_seq ?_
  refine wp_block ?_
  refine zq 34 ⟨rfl, rfl⟩ ?_
  refine s_val (ziS qu25 qs28) ?_
  refine s_val (r_load1 qg28 rfl (H.rd0 hbu) (u_get pre ns post i hpu (by omega) (by omega))) ?_
  refine za ?_
  refine zc (t30 (t4 [])) ?_
  refine zq 34 ⟨rfl, rfl⟩ ?_
  obtain ⟨n, hn⟩ : ∃ n, n = ns.getD i 0 := ⟨_, rfl⟩
  rw [← hn]
  refine zm ?_
  refine zm ?_
  refine s_st (m_mapUpdateV H 0 qu56 qu28 rfl rfl rfl rfl) (L' := (_ :: _)) rfl ?_
  intro w H
  replace H := St.putU (ls := ks) H
  refine zc (t30 (t4 [])) ?_
  refine zq 34 ⟨rfl, rfl⟩ ?_
  refine zm ?_
  refine zm ?_
  refine s_call (r_call qc12 (ec rfl (ec rfl en))) (hnd n _ _ H) ?_
  rintro v w ⟨a2, c2, N2, rfl, hN2, HC⟩
  replace H : St w0 [] w (_ :: N2) := (H.call0 HC).perm (List.perm_append_comm (l₁ := [_]) (l₂ := N2))
  obtain ⟨ms, hms⟩ : ∃ m, m = nd n := ⟨_, rfl⟩
  have hm4 : ms.length ≤ 4 := by rw [hms]; exact h4 n
  rw [← hms] at hN2 ⊢
  refine s_val (r_lens qu25 (ec rfl en)) ?_
  refine zm ?_
  refine zc (t30 (t4 [])) ?_
  refine wp_block ?_
  refine c_loop (fun (l0 : List Value) (j : Nat) (l : List Value) (w : World) => ∃ (u9 u24 u25 u26 u27 u28 u29 : Value) (k1 : List Int), l = ovr l0 [N_, N_, N_, N_, N_, N_, N_, N_, N_, Y_ u9, N_, N_, N_, N_, N_, N_, N_, N_, N_, N_, N_, N_, N_, Y_ (.int .i64 j), Y_ u24, Y_ u25, Y_ u26, Y_ u27, Y_ u28, Y_ u29] ∧ j ≤ ms.length ∧ k1.Nodup ∧ (∀ x, x ∈ k1 ↔ x ∈ insU ks n ∨ x ∈ ms.take j) ∧ St w0 [] w ((b10, vmO (vbU k1)) :: N2)) (fun (j : Nat) => ms.length - j) 0 ⟨_, _, _, _, _, _, _, (insU ks n), rfl, Nat.zero_le _, (nodup_insU hD), (fun x => ⟨fun h => .inl h, fun h => h.resolve_right (fun h => nomatch h)⟩), H⟩ ?_
  intro j l w ⟨u9, u24, u25, u26, u27, u28, u29, k1, hl, hj, hD1, hJ, H⟩
  obtain rfl := hl.trans (rfl : _ = t30 (t4 []))
  clear hl
  refine zq 34 ⟨rfl, rfl⟩ ?_
  refine s_val (r_lss rfl rfl) ?_
  refine zc (t30 (t4 [])) ?_
  refine c_seq ?_
  refine c_if rfl (fun h24 => ?_) (fun h24 => ?_)
  ·obtain ⟨bz, spz, rfl, hcz, hN2E, hcz2⟩ := RowN.some hN2 (by omega)
   refine wp_skip ?_
   refine x_thenNormal ?_
   refine c_seq ?_
   refine wp_block ?_
   refine zq 34 ⟨rfl, rfl⟩ ?_
   refine s_val (ziS qu25 qs28) ?_
   refine s_val (r_load1 qg28 rfl (H.own (bz, Obj.cells (uC ms ++ spz).toArray 28 (0, 0)) (List.mem_cons_of_mem _ (by rw [hN2E]; exact List.mem_singleton.2 rfl))) (u_get0 (i := j) (by omega) (by omega))) ?_
   refine za ?_
   refine zc (t30 (t4 [])) ?_
   refine c_region (n := 34) ⟨rfl, rfl⟩ ?_
   refine zm ?_
   refine zm ?_
   refine s_st (m_mapUpdateV H 0 qu56 qu28 rfl rfl rfl rfl) (L' := (_ :: _)) rfl ?_
   intro w H
   replace H := St.putU (ls := k1) H
   refine zb (t30 (t4 [])) ?_
   refine x_blockNormal ?_
   refine x_thenNormal ?_
   refine c_region (n := 34) ⟨rfl, rfl⟩ ?_
   refine zj ?_
   refine zm ?_
   refine zb (t30 (t4 [])) ?_
   exact ⟨j + 1, _, rfl, ⟨_,_,_,_,_,_,_, (insU k1 (ms.getD j 0)), rfl, by omega, (nodup_insU hD1), (fun x => by
     have e : ms[j]? = some (ms.getD j 0) := by rw [List.getD_eq_getElem?_getD, List.getElem?_eq_getElem (by omega)]; rfl
     rw [mem_insU, hJ x, List.take_add_one, e, List.mem_append]
     constructor
     ·rintro (h | h | h)
      ·exact .inr (.inr (List.mem_singleton.2 h))
      ·exact .inl h
      ·exact .inr (.inl h)
     ·rintro (h | h | h)
      ·exact .inr (.inl h)
      ·exact .inr (.inr h)
      ·exact .inl (List.mem_singleton.1 h)), H⟩, by omega⟩
  ·obtain rfl : j = ms.length := by omega
   rw [List.take_length] at hJ
   refine wp_exit (x_thenExit (x_thenExit (x_blockHit ?_)))
   refine x_blockNormal ?_
   refine x_thenNormal ?_
   refine c_region (n := 34) ⟨rfl, rfl⟩ ?_
   refine zj ?_
   refine zm ?_
   refine zb (t30 (t4 [])) ?_
   exact ⟨i + 1, _, rfl, ⟨_,_,_,_,_,_,_,_,_,_,_,_,_,_,_,_,_,_,_, k1, rfl, by omega, hD1, (fun x => by
     have e : ns[i]? = some n := by rw [hn, List.getD_eq_getElem?_getD, List.getElem?_eq_getElem (by omega)]; rfl
     rw [hJ x, mem_insU, hK x, clM_take e, hms]
     constructor
     ·rintro ((h | h) | h)
      ·exact .inr (.inl h)
      ·exact .inl h
      ·exact .inr (.inr h)
     ·rintro (h | h | h)
      ·exact .inl (.inr h)
      ·exact .inl (.inl h)
      ·exact .inr h), (H.sub (.cons_cons _ (List.nil_sublist _)))⟩, by omega⟩
 ·obtain rfl : i = ns.length := by omega
  rw [List.take_length] at hK
  have hkl := clM_len hD (fun x hx => (hK x).1 hx) hU
  refine wp_exit (x_thenExit (x_thenExit (x_blockHit ?_)))
  refine x_thenNormal ?_
  refine zq 34 ⟨rfl, rfl⟩ ?_
  refine zm ?_
  refine s_call (r_call Try.call42 (ec rfl en)) (keysm_spec _ _) ?_
  rintro v w ⟨b1, rfl, HC⟩
  replace H := H.call0 HC
  refine s_call (r_call Try.call41 (ec rfl en)) (sortedg_spec b1 b10 ks (by omega) (by omega) hD _ (H.at 0 rfl) (H.at 1 rfl)) ?_
  rintro v w ⟨os, a2, c2, N2, hp, hri, rfl, hN2, HC⟩
  replace H := H.call0 HC
  refine za ?_
  refine zc (t30 (t4 [])) ?_
  refine wp_ret ?_
  refine zw (res1 rfl rfl) ?_
  exact ⟨os, a2, c2, N2, hri, fun x => (hp.mem_iff).trans (hK x), rfl, hN2, H.sub (List.sublist_append_left _ _)⟩

theorem close_get (bg : Nat) (cl : List Ce) (a : Option Addr) (c : Nat) (ns : List Int) (hl : cl.length ≤ 100) (hb : ∀ y ∈ cl, y.body.b.length ≤ 1000000) (hn : ns.length ≤ 150) (w0 : World) (hg : GetW w0 bg cl) (hr : URow w0 a ns) :
  Calls Try.prog 17 #[(.func (.func 27) #[] #[.pointer (some ⟨bg, 0, none⟩)]), .slice a ns.length c] w0 fun e w => ∃ v, e = .returned v ∧ (∃ (os : List Int) (a2 : Option Addr) (c2 : Nat) (N : List (Nat × Obj)), Rise os ∧ (∀ x, x ∈ os ↔ ClM (needF (findP (cl.map ceP)) 4) ns x) ∧ v = .slice a2 os.length c2 ∧ RowN 1 28 (uC os) os.length a2 c2 N ∧ St w0 [] w N) :=
 closeg_spec _ (needF (findP (cl.map ceP)) 4) (cl.map Ce.ref) a c ns (fun n x h => need_ref 4 n x h) (fun n => need_len 4 n) (by rw [List.length_map]; omega) w0 (fun n w _ H => needs_spec bg cl n (by omega) hb w (hg.st (H.sub (List.nil_sublist _)))) hr

end Go.Proofs.Ytobfnieebiakeaa

