import Derived.Test.YtobfnieebiakeaaPM
import Derived.Test.YtobfnieebiakeaaPU6
import Derived.Test.YtobfnieebiakeaaPVx1
namespace Go.Proofs.Ytobfnieebiakeaa
open Go Go.Er
set_option linter.unusedSimpArgs false in
theorem places90 : Places Try.prog #[⟨ "c", 76, 0, false, "", "erewhile/keytree", 0⟩, ⟨ "held", 85, 1, false, "", "erewhile/keytree", 16⟩] [(0, 1), (1, 1)] := fun w => by simp [Try.sizeOf76 w, qs85 w]

set_option maxHeartbeats 4000000 in
theorem new_spec (ci : Value) (k : Key) (sl sr : Key → Key) (hci : SplitsBy Try.prog ci sl sr) (w0 : World) :
  Calls Try.prog 20 #[ci, .agg (kC k).toArray] w0 fun e w => ∃ v, e = .returned v ∧ (∃ bt N, v = .pointer (some ⟨bt, 0, none⟩) ∧ TreeN 90 88 bt ci [root k] N ∧ St w0 [] w N) := by
 have H := St.refl w0
 refine c_enter (args := [ci, .agg (kC k).toArray]) (l := t10 (t3 [])) Try.func20 Try.ntmps20 rfl rfl ?_
 refine zq 13 ⟨rfl, rfl⟩ ?_
 refine s_new (m_box (cs := (kC k)) H rfl rfl) ?_
 intro w b3 H
 refine za ?_
 refine zc (t10 (t3 [])) ?_
 refine c_seq ?_
 refine zq 13 ⟨rfl, rfl⟩ ?_
 refine zm ?_
 obtain ⟨Tc, vc, fc, rv, rfl, hE, hM, hC'⟩ := hci
 refine s_val (r_nili Try.runUnderlying76 rfl rfl) ?_
 refine zc (t10 (t3 [])) ?_
 refine c_iff rfl ?_
 refine wp_skip ?_
 refine x_thenNormal ?_
 refine zq 13 ⟨rfl, rfl⟩ ?_
 refine zm ?_
 refine s_val (zo qg24 qs24 (H.at 0 rfl)) ?_
 refine s_val (r_buildS qu88 qo88 places88 (pc rfl pn) (hfill1 _)) ?_
 refine s_new (m_bslice1 H qu85 qs88 qo88 (by omega) (by omega) rfl rfl (hC_length _)) ?_
 intro w b10 H
 refine s_val (r_buildS qu90 Try.zeroValue90 places90 (pc rfl (pc rfl pn)) rfl) ?_
 refine s_new (m_box (cs := [.iface Tc vc, .slice (some ⟨b10, 0, none⟩) 1 1]) H rfl rfl) ?_
 intro w b12 H
 refine za ?_
 refine zc (t10 (t3 [])) ?_
 refine wp_ret ?_
 refine zw (res1 rfl rfl) ?_
 refine ⟨b12, [_,_], rfl, ⟨_, 1, [(b10, _)], rfl, ?_⟩, H.sub (.cons_cons _ (.cons_cons _ (.cons _ .slnil)))⟩
 exact ⟨by rw [hsC_length]; rfl, Nat.le_refl _, .inr ⟨b10, [], rfl, by rw [List.append_nil, hsC_length]; exact Nat.le_refl _, by rw [List.append_nil]; simp [hsC, root]⟩⟩

set_option maxHeartbeats 4000000 in
theorem has_spec (bt : Nat) (ci : Value) (xs : List Held) (N : List (Nat × Obj)) (hl : xs.length ≤ 100000) (hv : Valid xs) (n : Int) (hn0 : 0 ≤ n) (w0 : World) (hT : TreeN 90 88 bt ci xs N) (hown : Go.Er.Own w0 N) :
  Calls Try.prog 47 #[.pointer (some ⟨bt, 0, none⟩), .int .u64 n] w0 fun e w => ∃ v, e = .returned v ∧ (v = .bool (decide (∃ x ∈ xs, InN x n)) ∧ St w0 [] w []) := by
 obtain ⟨a, cap, hbt, hr⟩ := hT.rd hown
 have H := St.refl w0
 refine c_enter (args := [.pointer (some ⟨bt, 0, none⟩), .int .u64 n]) (l := t10 (t4 [])) Try.func47 Try.ntmps47 rfl rfl ?_
 refine zq 14 ⟨rfl, rfl⟩ ?_
 refine za ?_
 refine zc (t10 (t4 [])) ?_
 refine zq 14 ⟨rfl, rfl⟩ ?_
 refine zm ?_
 refine zm ?_
 refine s_call (r_call Try.call33 (ec rfl (ec rfl en))) (find_spec _ _ _ _ _ _ xs (by omega) hv n hn0 _ (H.rd0 hbt) (hr.st H)) ?_
 rintro v w ⟨i, ok, (⟨rfl, hi, hin⟩ | ⟨rfl, rfl, hno⟩), rfl, HC⟩
 ·replace H := H.quiet HC
  refine zm ?_
  refine ze ?_
  refine ze ?_
  refine za ?_
  refine za ?_
  refine zc (t10 (t4 [])) ?_
  refine zq 14 ⟨rfl, rfl⟩ ?_
  refine zm ?_
  refine za ?_
  refine zc (t10 (t4 [])) ?_
  refine wp_ret ?_
  refine zw (res1 rfl rfl) ?_
  exact ⟨by rw [decide_eq_true (has_of hi hin)], H⟩
 ·replace H := H.quiet HC
  refine zm ?_
  refine ze ?_
  refine ze ?_
  refine za ?_
  refine za ?_
  refine zc (t10 (t4 [])) ?_
  refine zq 14 ⟨rfl, rfl⟩ ?_
  refine zm ?_
  refine za ?_
  refine zc (t10 (t4 [])) ?_
  refine wp_ret ?_
  refine zw (res1 rfl rfl) ?_
  exact ⟨by rw [decide_eq_false (not_has hno)], H⟩

theorem takes_key : Takes Try.prog 43 [] (fun _ N => N = []) := by
 refine ⟨Try.call43, ?_⟩
 rintro acc x N w0 rfl hown hl
 refine (key1_spec x w0).mono ?_
 rintro e w ⟨v, rfl, _, hS⟩
 exact ⟨v, rfl, [], rfl, hS⟩

set_option maxHeartbeats 4000000 in
theorem key_spec (bt : Nat) (ci : Value) (xs : List Held) (N : List (Nat × Obj)) (hl : xs.length ≤ 100000) (hv : Valid xs) (n : Int) (hn0 : 0 ≤ n) (sl sr : Key → Key) (hci : SplitsBy Try.prog ci sl sr) (w0 : World) (hT : TreeN 90 88 bt ci xs N) (hown : Go.Er.Own w0 N) :
  Calls Try.prog 21 #[.pointer (some ⟨bt, 0, none⟩), .int .u64 n] w0 fun e w => ∃ v, e = .returned v ∧ (∃ k ok, KeyR sl sr xs n k ok ∧ v = .tuple #[.agg (kC k).toArray, .bool ok] ∧ St w0 [] w []) := by
 obtain ⟨a, cap, hbt, hr⟩ := hT.rd hown
 have H := St.refl w0
 refine c_enter (args := [.pointer (some ⟨bt, 0, none⟩), .int .u64 n]) (l := t20 (t7 [])) Try.func21 Try.ntmps21 rfl rfl ?_
 refine zq 27 ⟨rfl, rfl⟩ ?_
 refine s_new (zA (kC (By.zero 32)) H qo24) ?_
 intro w b4 H
 refine za ?_
 refine zc (t20 (t7 [])) ?_
 refine zq 27 ⟨rfl, rfl⟩ ?_
 refine zm ?_
 refine zm ?_
 refine s_call (r_call Try.call33 (ec rfl (ec rfl en))) (find_spec _ _ _ _ _ _ xs (by omega) hv n hn0 _ (H.rd0 hbt) (hr.st H)) ?_
 rintro v w ⟨i, ok, (⟨rfl, hi, hin⟩ | ⟨rfl, rfl, hno⟩), rfl, HC⟩
 ·replace H := H.quiet HC
  obtain ⟨bh, off, pre, post, T, fz, rfl, hb, hp⟩ := hr (by omega)
  have hk := hv.get hi
  have hke := hk.end_le
  obtain ⟨hd0, hd1, ha0, ha2, ha1⟩ := hk
  refine zm ?_
  refine ze ?_
  refine ze ?_
  refine za ?_
  refine za ?_
  refine zc (t20 (t7 [])) ?_
  refine c_seq ?_
  refine zq 27 ⟨rfl, rfl⟩ ?_
  refine zm ?_
  refine s_val (r_not rfl) ?_
  refine zc (t20 (t7 [])) ?_
  refine c_iff rfl ?_
  refine wp_skip ?_
  refine x_thenNormal ?_
  refine zq 27 ⟨rfl, rfl⟩ ?_
  refine zm ?_
  refine zm ?_
  refine s_val (r_nilCheck rfl) ?_
  refine zR 1 qu90 qs85 ?_
  refine zL qg85 (H.rd0 hbt) ?_
  refine zm ?_
  refine s_val (ziS qu85 qs88) ?_
  refine s_val (r_loadn qg88 qs88 rfl (H.rd0 hb) (hs_tdn _ _ _ _ i hp (by omega)) (by first | exact (kC_length _) | exact (hC_length _) | exact (ceC_length _) | exact (ptC_length _ _ _ _) | exact (plV_length _ _ _) | exact litC_length | exact rfl)) ?_
  refine zm ?_
  refine s_call (r_call Try.call34 (ec rfl (ec rfl (ec rfl (ec rfl en))))) (down_spec bt ci _ _ _ (nd xs i) n _ _ _ [] sl sr hci takes_key hd0 hd1 ha0 hke _ (H.rd0 hbt) rfl St.ownNil (by simp)) ?_
  rintro v w ⟨N2, rfl, rfl, HC⟩
  replace H := H.quiet HC
  refine s_st (zs H 0 32 qs24) (L' := [_]) rfl ?_
  intro w H
  refine za ?_
  refine zc (t20 (t7 [])) ?_
  refine wp_ret ?_
  refine zw (rc_two rfl (ro qg24 qs24 (H.at 0 rfl)) (rc_tmp rfl)) ?_
  exact ⟨_, true, .inl ⟨rfl, _, by rw [← nd_eq hi]; exact List.getElem_mem hi, hin, rfl⟩, rfl, H.sub (.cons _ .slnil)⟩
 ·replace H := H.quiet HC
  refine zm ?_
  refine ze ?_
  refine ze ?_
  refine za ?_
  refine za ?_
  refine zc (t20 (t7 [])) ?_
  refine c_seq ?_
  refine zq 27 ⟨rfl, rfl⟩ ?_
  refine zm ?_
  refine s_val (r_not rfl) ?_
  refine zc (t20 (t7 [])) ?_
  refine c_ift rfl ?_
  refine zq 27 ⟨rfl, rfl⟩ ?_
  refine s_val (r_buildA (pl := []) (zs := kC (By.zero 32)) (out := kC (By.zero 32)) qu24 qs5 qo24 pn (by intro p hp; simp at hp) rfl) ?_
  refine s_st (zs H 0 32 qs24) (L' := [_]) rfl ?_
  intro w H
  refine za ?_
  refine zc (t20 (t7 [])) ?_
  refine wp_ret (x_thenRet ?_)
  refine zw (rc_two rfl (ro qg24 qs24 (H.at 0 rfl)) (rc_tmp rfl)) ?_
  exact ⟨By.zero 32, false, .inr ⟨rfl, rfl, not_has hno⟩, rfl, H.sub (.cons _ .slnil)⟩

theorem punc_t (bt : Nat) (ci : Value) (xs : List Held) (n : Int) (N : List (Nat × Obj)) (sl sr : Key → Key) (hci : SplitsBy Try.prog ci sl sr) (hl : xs.length ≤ 100000) (hv : Valid xs) (hn0 : 0 ≤ n) (hn1 : n < 18446744073709551616) (w0 : World) (hT : TreeN 90 88 bt ci xs N) (hown : Go.Er.Own w0 N) :
  Calls Try.prog 15 #[.pointer (some ⟨bt, 0, none⟩), .int .u64 n] w0 fun e w => ∃ v, e = .returned v ∧ v = .bool (decide (∃ x ∈ xs, InN x n)) ∧ ∃ N', TreeN 90 88 bt ci (punc sl sr xs n) N' ∧ St w0 (N.map (·.1)) w N' := by
 obtain ⟨a, cap, N1, rfl, hN⟩ := hT
 refine (punc_spec bt cap ci a xs n N1 sl sr hci hl hv hn0 hn1 hN w0 hown).mono ?_
 rintro e w ⟨v, rfl, rfl, a', cap', N', hN', hS⟩
 exact ⟨_, rfl, rfl, _, ⟨a', cap', N', rfl, hN'⟩, hS⟩

end Go.Proofs.Ytobfnieebiakeaa

