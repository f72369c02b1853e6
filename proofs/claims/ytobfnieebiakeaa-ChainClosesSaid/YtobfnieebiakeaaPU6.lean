import Derived.Test.YtobfnieebiakeaaPM
import Derived.Test.YtobfnieebiakeaaPU5
import Derived.Test.YtobfnieebiakeaaPU4
import Derived.Test.YtobfnieebiakeaaPU7
import Derived.Test.YtobfnieebiakeaaPVx1
namespace Go.Proofs.Ytobfnieebiakeaa
open Go Go.Er

theorem nodup_ne {w0 w : World} {X : List Nat} {L : List (Nat × Obj)} (h : St w0 X w L) (i j : Nat) {a b : Nat} {o o' : Obj} (hi : L[i]? = some (a, o)) (hj : L[j]? = some (b, o')) (hij : i ≠ j) : a ≠ b := by
 intro e
 subst e
 have h1 : (L.map (·.1))[i]? = some a := by simp [hi]
 have h2 : (L.map (·.1))[j]? = some a := by simp [hj]
 have hl : i < (L.map (·.1)).length := by
  rcases Nat.lt_or_ge i (L.map (·.1)).length with h' | h'
  ·exact h'
  ·rw [List.getElem?_eq_none h'] at h1; cases h1
 exact hij ((List.getElem?_inj hl h.nodup).1 (h1.trans h2.symm))
theorem takes_rest (b : Nat) : Takes Try.prog 35 [.pointer (some ⟨b, 0, none⟩)] (RestF b 85 88) := by
 refine ⟨Try.call35, ?_⟩
 intro acc x N w0 hF hown hl
 rcases hF with ⟨rfl, rfl⟩ | ⟨hne, bs, cap, sp, rfl, hcap⟩
 ·refine (punc1n_spec x b w0 hown).mono ?_
  rintro e w ⟨v, rfl, N', hF', _, hS⟩
  exact ⟨v, rfl, N', hF', hS⟩
 ·refine (punc1_spec x b bs cap acc sp hl hcap w0 hown).mono ?_
  rintro e w ⟨v, rfl, N', hF', _, hS⟩
  exact ⟨v, rfl, N', hF', hS⟩


set_option maxHeartbeats 4000000 in
theorem punc_spec (bt cap : Nat) (ci : Value) (a : Option Addr) (xs : List Held) (n : Int) (N : List (Nat × Obj)) (sl sr : Key → Key) (hci : SplitsBy Try.prog ci sl sr) (hl : xs.length ≤ 100000) (hv : Valid xs) (hn0 : 0 ≤ n) (_hn1 : n < 18446744073709551616) (hN : RowN 34 88 (hsC xs) xs.length a cap N) (w0 : World) (hown : Go.Er.Own w0 ((bt, .cells [ci, .slice a xs.length cap].toArray 90 (0, 0)) :: N)) :
  Calls Try.prog 15 #[.pointer (some ⟨bt, 0, none⟩), .int .u64 n] w0 fun e w => ∃ v, e = .returned v ∧ (v = .bool (decide (∃ x ∈ xs, InN x n)) ∧ ∃ a' cap' N', RowN 34 88 (hsC (punc sl sr xs n)) (punc sl sr xs n).length a' cap' N' ∧ St w0 (bt :: N.map (·.1)) w ((bt, .cells [ci, (.slice a' (punc sl sr xs n).length cap')].toArray 90 (0, 0)) :: N')) := by
 have H : St w0 (bt :: N.map (·.1)) w0 ((bt, .cells [ci, .slice a xs.length cap].toArray 90 (0, 0)) :: N) := hown.st
 refine c_enter (args := [.pointer (some ⟨bt, 0, none⟩), .int .u64 n]) (l := t40 (t3 [])) Try.func15 Try.ntmps15 rfl rfl ?_
 refine zq 43 ⟨rfl, rfl⟩ ?_
 refine za ?_
 refine zc (t40 (t3 [])) ?_
 refine zq 43 ⟨rfl, rfl⟩ ?_
 refine zm ?_
 refine zm ?_
 refine s_call (r_call Try.call33 (ec rfl (ec rfl en))) (find_spec _ _ _ _ _ _ xs (by omega) hv n hn0 _ (H.at 0 rfl) (hN.hrowM H (by intro p hp; simp [hp]))) ?_
 rintro v w ⟨i, ok, (⟨rfl, hi, hin⟩ | ⟨rfl, rfl, hno⟩), rfl, HC⟩
 ·obtain ⟨bh, sp, rfl, hcap, rfl, hnc⟩ := hN.some (by omega)
  replace H := H.quiet HC
  have hk := hv.get hi
  have hke := hk.end_le
  obtain ⟨hd0, hd1, ha0, ha2, ha1⟩ := hk
  have hk := hv.get hi
  refine zm ?_
  refine ze ?_
  refine ze ?_
  refine za ?_
  refine za ?_
  refine zc (t40 (t3 [])) ?_
  refine c_seq ?_
  refine zq 43 ⟨rfl, rfl⟩ ?_
  refine zm ?_
  refine s_val (r_not rfl) ?_
  refine zc (t40 (t3 [])) ?_
  refine c_iff rfl ?_
  refine wp_skip ?_
  refine x_thenNormal ?_
  refine zq 43 ⟨rfl, rfl⟩ ?_
  refine s_new (zA [.slice none 0 0] H Try.zeroValue85) ?_
  intro w b7 H
  refine zc (t40 (t3 [])) ?_
  refine zq 43 ⟨rfl, rfl⟩ ?_
  refine zm ?_
  refine zm ?_
  refine s_val (r_nilCheck rfl) ?_
  refine zR 1 qu90 qs85 ?_
  refine zL qg85 (H.at 1 rfl) ?_
  refine zm ?_
  refine s_val (ziS qu85 qs88) ?_
  refine s_val (r_loadn qg88 qs88 rfl (H.at 2 rfl) (hs_ld xs sp i (by omega) (by omega)) (by first | exact (kC_length _) | exact (hC_length _) | exact rfl)) ?_
  refine zm ?_
  refine s_val (r_makeFunc en (ec rfl en)) ?_
  refine s_call (r_call Try.call34 (ec rfl (ec rfl (ec rfl (ec rfl en))))) (down_spec bt ci _ _ _ (nd xs i) n _ _ _ [(b7, .cells [.slice none 0 0].toArray 85 (0, 0))] sl sr hci (takes_rest b7) hd0 hd1 ha0 hke _ (H.at 1 rfl) (.inl ⟨rfl, rfl⟩) H.owns0 (by simpa using (nodup_ne H 0 1 rfl rfl (by omega)).symm)) ?_
  rintro v w ⟨N2, rfl, (⟨hacc, rfl⟩ | ⟨hne, bs, capr, spr, rfl, hcr⟩), HC⟩
  ·replace H := St.call (F := [_]) (L := [_,_]) H HC
   have hzw := path_none hk hin hacc
   refine zc (t40 (t3 [])) ?_
   refine zq 43 ⟨rfl, rfl⟩ ?_
   refine zL qg85 (H.at 0 rfl) ?_
   refine s_call (r_call Try.call36 (ec rfl (ec rfl en))) (sort_nil _) ?_
   rintro v w ⟨rfl, HC⟩
   replace H := H.quiet HC
   refine zc (t40 (t3 [])) ?_
   refine c_seq ?_
   refine d_begin (sz := 43) ⟨rfl, rfl⟩ (by kernel_rfl) H (H.sub x100n) rfl ?_
   intro w H
   refine zM 0 (H.sub x100n) ?_
   refine zM 1 (H.sub x100n) ?_
   refine zd 2 rfl (by kernel_rfl) (fun _ _ _ h => h) (H.sub x100n) (r_nilCheck rfl) rfl ?_
   refine zd 3 rfl (by kernel_rfl) (fun _ _ _ h => h) (H.sub x100n) (zr 1 qu90 qs85) rfl ?_
   refine zM 5 (H.sub x100n) ?_
   refine zM 6 (H.sub x100n) ?_
   refine zd 7 rfl (by kernel_rfl) (fun _ _ _ h => h) (H.sub x100n) (r_add rfl rfl (wr (r := ((i + 1 : Nat) : Int)))) rfl ?_
   refine zM 9 (H.sub x100n) ?_
   refine zdh 10 rfl (by kernel_rfl) (fun _ _ _ h => h) (H.sub x100n) (fun HS => z1 qg85 (HS.at 0 rfl)) rfl ?_
   refine zl1 4 ?_
   refine b_val rfl go_none (z1 qg85 (H.at 1 rfl)) rfl (H.sub x100n) ?_
   refine zl1 8 ?_
   refine b_call rfl go_none (r_call Try.call40 (ec rfl (ec rfl (ec rfl en)))) (del_spec _ _ _ xs sp i rfl (by omega) (by omega) hcap (by omega) _ (St.owns (L := [_,_]) H)) rfl ?_
   rintro v w ⟨sp2, rfl, hcap2, HC⟩
   replace H := St.callr (L := [_,_]) (F := [_]) H HC
   have hzl : (xs.take i ++ xs.drop (i + 1)).length = xs.length - 1 := by rw [List.length_append, List.length_take, List.length_drop]; omega
   refine ⟨(H.sub x100n), ?_⟩
   refine zl1 11 ?_
   refine b_call rfl go_none (r_call Try.call39 (ec rfl (ec rfl (ec rfl en)))) (ins_spec _ _ _ 0 _ _ (xs.take i ++ xs.drop (i + 1)) ([] : List Held) sp2 i rfl rfl (by omega) (by omega) hcap2 (by omega) (by omega) _ (fun h => absurd h (Nat.lt_irrefl _)) (St.owns (L := [_,_]) H)) rfl ?_
   rintro v w ⟨bn, cap', sp', rfl, hnc', hcap', HC⟩
   have e1 := cut_take (xs := xs) (i := i) (by omega) (xs.drop (i + 1))
   have e2 := cut_drop (xs := xs) (i := i) (by omega) (xs.drop (i + 1))
   have e3 : xs.take i ++ ([] : List Held) ++ xs.drop (i + 1) = punc sl sr xs n := by rw [hzw]; exact (punc_hit hv hi hin).symm
   rw [e1, e2, e3] at hnc' hcap' HC
   rw [e1, e2, e3]
   replace H := St.callr (L := [_,_]) (F := [_]) H HC
   refine ⟨(H.sub x100n), ?_⟩
   refine zd 12 rfl (by kernel_rfl) (fun _ _ _ h => h) (H.sub x100n) (r_nilCheck rfl) rfl ?_
   refine zd 13 rfl (by kernel_rfl) (fun _ _ _ h => h) (H.sub x100n) (zr 1 qu90 qs85) rfl ?_
   refine zl1 14 ?_
   refine b_st rfl go_none (m_store1 H 1 qs85 rfl rfl rfl rfl (by first | exact (by rw [kC_length]; omega) | exact (by rw [hC_length]; omega) | exact (by simp)) rfl) (L' := [_,_,_]) rfl rfl (fun _ H => (H.sub x100n)) ?_
   intro w H
   refine zz (t40 (t3 [])) ?_
   refine x_thenNormal ?_
   refine zq 43 ⟨rfl, rfl⟩ ?_
   refine za ?_
   refine zc (t40 (t3 [])) ?_
   refine wp_ret ?_
   refine zw (res1 rfl rfl) ?_
   exact ⟨by rw [decide_eq_true (has_of hi hin)], _, _, _, RowN.mk (by rw [hsC_length]; omega) hnc' hcap', H.sub (.cons _ (List.Sublist.refl _))⟩
  ·replace H := St.call (F := [_]) (L := [_,_]) H HC
   have hu := path_unl (sl := sl) (sr := sr) hk hin
   have hpl := path_len (sl := sl) (sr := sr) (17 - (nd xs i).depth).toNat (nd xs i) n
   obtain ⟨acc, hacc⟩ : ∃ acc, (path sl sr (17 - (nd xs i).depth).toNat (nd xs i) n).1 = acc := ⟨_, rfl⟩
   rw [hacc] at hu hpl H hcr
   refine zc (t40 (t3 [])) ?_
   refine zq 43 ⟨rfl, rfl⟩ ?_
   refine zL qg85 (H.at 1 rfl) ?_
   refine s_call (r_call Try.call36 (ec rfl (ec rfl en))) (sort_spec _ _ _ acc spr rfl (by omega) hu _ H.owns0) ?_
   rintro v w ⟨rfl, zs, hperm, hsrt, HC⟩
   replace H := St.call (F := [_]) (L := [_,_,_]) H HC
   have hzw := sort_wo hk hin (by rw [hacc]; exact hperm) hsrt
   have hzl2 := hperm.length_eq
   refine zc (t40 (t3 [])) ?_
   refine c_seq ?_
   refine d_begin (sz := 43) ⟨rfl, rfl⟩ (by kernel_rfl) H (H.sub x1100n) rfl ?_
   intro w H
   refine zM 0 (H.sub x1100n) ?_
   refine zM 1 (H.sub x1100n) ?_
   refine zd 2 rfl (by kernel_rfl) (fun _ _ _ h => h) (H.sub x1100n) (r_nilCheck rfl) rfl ?_
   refine zd 3 rfl (by kernel_rfl) (fun _ _ _ h => h) (H.sub x1100n) (zr 1 qu90 qs85) rfl ?_
   refine zM 5 (H.sub x1100n) ?_
   refine zM 6 (H.sub x1100n) ?_
   refine zd 7 rfl (by kernel_rfl) (fun _ _ _ h => h) (H.sub x1100n) (r_add rfl rfl (wr (r := ((i + 1 : Nat) : Int)))) rfl ?_
   refine zM 9 (H.sub x1100n) ?_
   refine zdh 10 rfl (by kernel_rfl) (fun _ _ _ h => h) (H.sub x1100n) (fun HS => z1 qg85 (HS.at 1 rfl)) rfl ?_
   refine zl1 4 ?_
   refine b_val rfl go_none (z1 qg85 (H.at 2 rfl)) rfl (H.sub x1100n) ?_
   refine zl1 8 ?_
   refine b_call rfl go_none (r_call Try.call40 (ec rfl (ec rfl (ec rfl en)))) (del_spec _ _ _ xs sp i rfl (by omega) (by omega) hcap (by omega) _ (St.owns (L := [_,_,_]) H)) rfl ?_
   rintro v w ⟨sp2, rfl, hcap2, HC⟩
   replace H := St.callr (L := [_,_,_]) (F := [_]) H HC
   have hzl : (xs.take i ++ xs.drop (i + 1)).length = xs.length - 1 := by rw [List.length_append, List.length_take, List.length_drop]; omega
   refine ⟨(H.sub x1100n), ?_⟩
   refine zl1 11 ?_
   refine b_call rfl go_none (r_call Try.call39 (ec rfl (ec rfl (ec rfl en)))) (ins_spec _ _ _ _ _ _ (xs.take i ++ xs.drop (i + 1)) zs sp2 i rfl (by rw [hzl2]) (by omega) (by omega) hcap2 (by omega) (by omega) _ (fun _ => ⟨bs, spr, rfl, H.at 0 rfl, nodup_ne H 0 3 rfl rfl (by omega)⟩) (St.owns (L := [_,_,_]) H)) rfl ?_
   rintro v w ⟨bn, cap', sp', rfl, hnc', hcap', HC⟩
   have e1 := cut_take (xs := xs) (i := i) (by omega) (xs.drop (i + 1))
   have e2 := cut_drop (xs := xs) (i := i) (by omega) (xs.drop (i + 1))
   have e3 : xs.take i ++ zs ++ xs.drop (i + 1) = punc sl sr xs n := by rw [hzw]; exact (punc_hit hv hi hin).symm
   rw [e1, e2, e3] at hnc' hcap' HC
   rw [e1, e2, e3]
   replace H := St.callr (L := [_,_,_]) (F := [_]) H HC
   refine ⟨(H.sub x1100n), ?_⟩
   refine zd 12 rfl (by kernel_rfl) (fun _ _ _ h => h) (H.sub x1100n) (r_nilCheck rfl) rfl ?_
   refine zd 13 rfl (by kernel_rfl) (fun _ _ _ h => h) (H.sub x1100n) (zr 1 qu90 qs85) rfl ?_
   refine zl1 14 ?_
   refine b_st rfl go_none (m_store1 H 2 qs85 rfl rfl rfl rfl (by first | exact (by rw [kC_length]; omega) | exact (by rw [hC_length]; omega) | exact (by simp)) rfl) (L' := [_,_,_,_]) rfl rfl (fun _ H => (H.sub x1100n)) ?_
   intro w H
   refine zz (t40 (t3 [])) ?_
   refine x_thenNormal ?_
   refine zq 43 ⟨rfl, rfl⟩ ?_
   refine za ?_
   refine zc (t40 (t3 [])) ?_
   refine wp_ret ?_
   refine zw (res1 rfl rfl) ?_
   exact ⟨by rw [decide_eq_true (has_of hi hin)], _, _, _, RowN.mk (by rw [hsC_length]; omega) hnc' hcap', H.sub (.cons _ (.cons _ (List.Sublist.refl _)))⟩
 ·replace H := H.quiet HC
  refine zm ?_
  refine ze ?_
  refine ze ?_
  refine za ?_
  refine za ?_
  refine zc (t40 (t3 [])) ?_
  refine c_seq ?_
  refine zq 43 ⟨rfl, rfl⟩ ?_
  refine zm ?_
  refine s_val (r_not rfl) ?_
  refine zc (t40 (t3 [])) ?_
  refine c_ift rfl ?_
  refine zq 43 ⟨rfl, rfl⟩ ?_
  refine za ?_
  refine zc (t40 (t3 [])) ?_
  refine wp_ret (x_thenRet ?_)
  refine zw (res1 rfl rfl) ?_
  have hm := punc_miss (sl := sl) (sr := sr) (.inr ⟨rfl, rfl, hno⟩ : FindR xs n 0 false)
  rw [hm]
  exact ⟨by rw [decide_eq_false (not_has hno)], _, _, _, hN, H⟩

end Go.Proofs.Ytobfnieebiakeaa

