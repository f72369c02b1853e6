import Derived.Test.YtobfnieebiakeaaPM
import Derived.Test.YtobfnieebiakeaaPB1
namespace Go.Proofs.Ytobfnieebiakeaa
open Go Go.Er

set_option maxHeartbeats 4000000 in
theorem close_spec (bg : Nat) (cl : List Ce) (a : Option Addr) (c : Nat) (ns : List Int) (hl : cl.length ≤ 1000000) (hb : ∀ y ∈ cl, y.body.b.length ≤ 1000000) (h0 : 0 < ns.length) (h12 : ns.length * 5 ≤ 12) (w0 : World) (hg : GetW w0 bg cl) (hr : URow w0 a ns) :
  Calls Try.prog 17 #[(.func (.func 27) #[] #[.pointer (some ⟨bg, 0, none⟩)]), .slice a ns.length c] w0 fun e w => ∃ v, e = .returned v ∧ (∃ (os : List Int) (a2 : Option Addr) (c2 : Nat) (N : List (Nat × Obj)), os.Nodup ∧ (∀ x, x ∈ os ↔ ∃ n ∈ ns, x = n ∨ x ∈ needF (findP (cl.map ceP)) 4 n) ∧ v = .slice a2 os.length c2 ∧ RowN 1 28 (uC os) os.length a2 c2 N ∧ St w0 [] w N) := by
 have H := St.refl w0
 refine c_enter (args := [(.func (.func 27) #[] #[.pointer (some ⟨bg, 0, none⟩)]), .slice a ns.length c]) (l := t30 (t4 [])) Try.func17 Try.ntmps17 rfl rfl ?_
 refine zq 34 ⟨rfl, rfl⟩ ?_
 refine za ?_
 refine zc (t30 (t4 [])) ?_
 refine zq 34 ⟨rfl, rfl⟩ ?_
 refine s_new (m_makeMapV H) ?_
 intro w b10 H
 refine za ?_
 refine zc (t30 (t4 [])) ?_
 refine c_seq ?_
 refine zq 34 ⟨rfl, rfl⟩ ?_
 refine zm ?_
 refine s_val (r_lens qu25 (ec rfl en)) ?_
 refine zm ?_
 refine zc (t30 (t4 [])) ?_
 refine wp_block ?_
 refine c_loop (fun (l0 : List Value) (i : Nat) (l : List Value) (w : World) => ∃ (u7 u9 u14 u15 u16 u17 u18 u19 u20 u21 u22 u23 u24 u25 u26 u27 u28 u29 u30 : Value) (ks : List Int), l = ovr l0 [N_, N_, N_, N_, N_, N_, N_, Y_ u7, N_, Y_ u9, N_, N_, N_, Y_ (.int .i64 i), Y_ u14, Y_ u15, Y_ u16, Y_ u17, Y_ u18, Y_ u19, Y_ u20, Y_ u21, Y_ u22, Y_ u23, Y_ u24, Y_ u25, Y_ u26, Y_ u27, Y_ u28, Y_ u29, Y_ u30] ∧ i ≤ ns.length ∧ ks.Nodup ∧ (∀ x, x ∈ ks ↔ ∃ n ∈ ns.take i, x = n ∨ x ∈ needF (findP (cl.map ceP)) 4 n) ∧ ks.length ≤ i * 5 ∧ St w0 [] w ((b10, vmO (vbU ks)) :: [])) (fun (i : Nat) => ns.length - i) 0 ⟨_, _, _, _, _, _, _, _, _, _, _, _, _, _, _, _, _, _, _, [], rfl, Nat.zero_le _, .nil, (fun x => ⟨fun h => (nomatch h), fun ⟨_, h, _⟩ => (nomatch h)⟩), (Nat.zero_le _), H⟩ ?_
 intro i l w ⟨u7, u9, u14, u15, u16, u17, u18, u19, u20, u21, u22, u23, u24, u25, u26, u27, u28, u29, u30, ks, hl, hi, hD, hK, hkl, H⟩
 obtain rfl := hl.trans (rfl : _ = t30 (t4 []))
 clear hl
 refine zq 34 ⟨rfl, rfl⟩ ?_
 refine s_val (r_lss rfl rfl) ?_
 refine zc (t30 (t4 [])) ?_
 refine c_seq ?_
 refine c_if rfl (fun h14 => ?_) (fun h14 => ?_)
 ·obtain ⟨bu, off, pre, post, T, fz, rfl, hbu, hpu⟩ := hr (by omega)
  refine wp_skip ?_
  refine x_thenNormal ?_
  refine c_seq ?_
  refine wp_block ?_
  refine zq 34 ⟨rfl, rfl⟩ ?_
  refine s_val (ziS qu25 qs28) ?_
  refine s_val (r_load1 qg28 rfl (H.rd0 hbu) (u_get pre ns post i hpu (by omega) (by omega))) ?_
  refine za ?_
  refine zc (t30 (t4 [])) ?_
  refine zq 34 ⟨rfl, rfl⟩ ?_
  obtain ⟨n, hn⟩ : ∃ n, n = ns.getD i 0 := ⟨_, rfl⟩
  rw [← hn]
  refine zm ?_
  refine zm ?_
  refine s_st (m_mapUpdateV H 0 qu56 qu28 rfl rfl rfl rfl) (L' := (_ :: _)) rfl ?_
  intro w H
  replace H := St.putU (ls := ks) H
  refine zc (t30 (t4 [])) ?_
  refine zq 34 ⟨rfl, rfl⟩ ?_
  refine zm ?_
  refine zm ?_
  refine s_call (r_call qc12 (ec rfl (ec rfl en))) (needs_spec bg cl n hl hb _ (hg.st (H.sub (List.nil_sublist _)))) ?_
  rintro v w ⟨a2, c2, N2, rfl, hN2, HC⟩
  replace H : St w0 [] w (_ :: N2) := (H.call0 HC).perm (List.perm_append_comm (l₁ := [_]) (l₂ := N2))
  obtain ⟨ms, hms⟩ : ∃ m, m = needF (findP (cl.map ceP)) 4 n := ⟨_, rfl⟩
  have hm4 : ms.length ≤ 4 := by rw [hms]; exact need_len _ _
  rw [← hms] at hN2 ⊢
  refine s_val (r_lens qu25 (ec rfl en)) ?_
  refine zm ?_
  refine zc (t30 (t4 [])) ?_
  refine wp_block ?_
  refine c_loop (fun (l0 : List Value) (j : Nat) (l : List Value) (w : World) => ∃ (u9 u24 u25 u26 u27 u28 u29 : Value) (k1 : List Int), l = ovr l0 [N_, N_, N_, N_, N_, N_, N_, N_, N_, Y_ u9, N_, N_, N_, N_, N_, N_, N_, N_, N_, N_, N_, N_, N_, Y_ (.int .i64 j), Y_ u24, Y_ u25, Y_ u26, Y_ u27, Y_ u28, Y_ u29] ∧ j ≤ ms.length ∧ k1.Nodup ∧ (∀ x, x ∈ k1 ↔ x ∈ insU ks n ∨ x ∈ ms.take j) ∧ k1.length ≤ i * 5 + 1 + j ∧ St w0 [] w ((b10, vmO (vbU k1)) :: N2)) (fun (j : Nat) => ms.length - j) 0 ⟨_, _, _, _, _, _, _, (insU ks n), rfl, Nat.zero_le _, (nodup_insU hD), (fun x => ⟨fun h => .inl h, fun h => h.resolve_right (fun h => nomatch h)⟩), (by have := insU_len ks n; omega), H⟩ ?_
  intro j l w ⟨u9, u24, u25, u26, u27, u28, u29, k1, hl, hj, hD1, hJ, hkl1, H⟩
  obtain rfl := hl.trans (rfl : _ = t30 (t4 []))
  clear hl
  refine zq 34 ⟨rfl, rfl⟩ ?_
  refine s_val (r_lss rfl rfl) ?_
  refine zc (t30 (t4 [])) ?_
  refine c_seq ?_
  refine c_if rfl (fun h24 => ?_) (fun h24 => ?_)
  ·obtain ⟨bz, spz, rfl, hcz, hN2E, hcz2⟩ := RowN.some hN2 (by omega)
   refine wp_skip ?_
   refine x_thenNormal ?_
   refine c_seq ?_
   refine wp_block ?_
   refine zq 34 ⟨rfl, rfl⟩ ?_
   refine s_val (ziS qu25 qs28) ?_
   refine s_val (r_load1 qg28 rfl (H.own (bz, Obj.cells (uC ms ++ spz).toArray 28 (0, 0)) (List.mem_cons_of_mem _ (by rw [hN2E]; exact List.mem_singleton.2 rfl))) (u_get0 (i := j) (by omega) (by omega))) ?_
   refine za ?_
   refine zc (t30 (t4 [])) ?_
   refine c_region (n := 34) ⟨rfl, rfl⟩ ?_
   refine zm ?_
   refine zm ?_
   refine s_st (m_mapUpdateV H 0 qu56 qu28 rfl rfl rfl rfl) (L' := (_ :: _)) rfl ?_
   intro w H
   replace H := St.putU (ls := k1) H
   refine zb (t30 (t4 [])) ?_
   refine x_blockNormal ?_
   refine x_thenNormal ?_
   refine c_region (n := 34) ⟨rfl, rfl⟩ ?_
   refine zj ?_
   refine zm ?_
   refine zb (t30 (t4 [])) ?_
   exact ⟨j + 1, _, rfl, ⟨_,_,_,_,_,_,_, (insU k1 (ms.getD j 0)), rfl, by omega, (nodup_insU hD1), (fun x => by
     have e : ms[j]? = some (ms.getD j 0) := by rw [List.getD_eq_getElem?_getD, List.getElem?_eq_getElem (by omega)]; rfl
     rw [mem_insU, hJ x, List.take_add_one, e, List.mem_append]
     constructor
     ·rintro (h | h | h)
      ·exact .inr (.inr (List.mem_singleton.2 h))
      ·exact .inl h
      ·exact .inr (.inl h)
     ·rintro (h | h | h)
      ·exact .inr (.inl h)
      ·exact .inr (.inr h)
      ·exact .inl (List.mem_singleton.1 h)), (by have := insU_len k1 (ms.getD j 0); omega), H⟩, by omega⟩
  ·obtain rfl : j = ms.length := by omega
   rw [List.take_length] at hJ
   refine wp_exit (x_thenExit (x_thenExit (x_blockHit ?_)))
   refine x_blockNormal ?_
   refine x_thenNormal ?_
   refine c_region (n := 34) ⟨rfl, rfl⟩ ?_
   refine zj ?_
   refine zm ?_
   refine zb (t30 (t4 [])) ?_
   exact ⟨i + 1, _, rfl, ⟨_,_,_,_,_,_,_,_,_,_,_,_,_,_,_,_,_,_,_, k1, rfl, by omega, hD1, (fun x => by
     rw [hJ x, mem_insU, hK x, List.take_succ_eq_append_getElem (by omega)]
     have e : ns[i] = n := by rw [hn, List.getD_eq_getElem?_getD, List.getElem?_eq_getElem (by omega)]; rfl
     constructor
     ·rintro ((h | ⟨m, h1, h2⟩) | h)
      ·exact ⟨n, List.mem_append_right _ (by rw [e]; exact List.mem_singleton.2 rfl), .inl h⟩
      ·exact ⟨m, List.mem_append_left _ h1, h2⟩
      ·exact ⟨n, List.mem_append_right _ (by rw [e]; exact List.mem_singleton.2 rfl), .inr (hms ▸ h)⟩
     ·rintro ⟨m, h1, h2⟩
      rcases List.mem_append.1 h1 with h1 | h1
      ·exact .inl (.inr ⟨m, h1, h2⟩)
      ·rw [List.mem_singleton.1 h1, e] at h2
       rcases h2 with h2 | h2
       ·exact .inl (.inl h2)
       ·exact .inr (hms ▸ h2)), (by omega), (H.sub (.cons_cons _ (List.nil_sublist _)))⟩, by omega⟩
 ·obtain rfl : i = ns.length := by omega
  rw [List.take_length] at hK
  have hk0 : 0 < ks.length := by
   obtain ⟨n, hn⟩ : ∃ n, n ∈ ns := ⟨ns.getD 0 0, getD_mem h0⟩
   exact List.length_pos_of_mem ((hK n).2 ⟨n, hn, .inl rfl⟩)
  refine wp_exit (x_thenExit (x_thenExit (x_blockHit ?_)))
  refine x_thenNormal ?_
  refine zq 34 ⟨rfl, rfl⟩ ?_
  refine zm ?_
  refine s_call (r_call Try.call42 (ec rfl en)) (keysm_spec _ _) ?_
  rintro v w ⟨b1, rfl, HC⟩
  replace H := H.call0 HC
  refine s_call (r_call Try.call41 (ec rfl en)) (sorted_spec b1 b10 ks (by omega) (by omega) (by omega) _ (H.at 0 rfl) (H.at 1 rfl)) ?_
  rintro v w ⟨os, a2, c2, N2, hp, rfl, hN2, HC⟩
  replace H := H.call0 HC
  refine za ?_
  refine zc (t30 (t4 [])) ?_
  refine wp_ret ?_
  refine zw (res1 rfl rfl) ?_
  exact ⟨os, a2, c2, N2, hp.nodup_iff.2 hD, fun x => (hp.mem_iff).trans (hK x), rfl, hN2, H.sub (List.sublist_append_left _ _)⟩

end Go.Proofs.Ytobfnieebiakeaa

