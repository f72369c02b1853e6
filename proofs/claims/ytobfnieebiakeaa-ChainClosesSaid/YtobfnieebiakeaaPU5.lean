import Derived.Test.YtobfnieebiakeaaPM
import Derived.Test.YtobfnieebiakeaaPU0
import Derived.Test.YtobfnieebiakeaaPVx1
namespace Go.Proofs.Ytobfnieebiakeaa
open Go Go.Er

set_option maxHeartbeats 4000000 in
theorem del_spec (b n cap : Nat) (ys : List Held) (sp : List Value) (i : Nat) (hnl : n = ys.length) (hi : i < n) (hnc : n ≤ cap) (hcap : cap * 34 ≤ (hsC ys ++ sp).length) (hl : n ≤ 1000000) (w0 : World) (hown : Go.Er.Own w0 [(b, .cells (hsC ys ++ sp).toArray 88 (0, 0))]) :
  Calls Try.prog 40 #[.slice (some ⟨b, 0, none⟩) n cap, .int .i64 (i : Nat), .int .i64 ((i + 1 : Nat) : Int)] w0 fun e w => ∃ v, e = .returned v ∧ (∃ sp', v = .slice (some ⟨b, 0, none⟩) (ys.take i ++ ys.drop (i + 1)).length cap ∧ cap * 34 ≤ (hsC (ys.take i ++ ys.drop (i + 1)) ++ sp').length ∧ St w0 [b] w [(b, .cells (hsC (ys.take i ++ ys.drop (i + 1)) ++ sp').toArray 88 (0, 0))]) := by
 have H : St w0 [b] w0 [(b, .cells (hsC ys ++ sp).toArray 88 (0, 0))] := hown.st
 refine c_enter (args := [.slice (some ⟨b, 0, none⟩) n cap, .int .i64 (i : Nat), .int .i64 ((i + 1 : Nat) : Int)]) (l := t30 (t3 [])) Try.func40 Try.ntmps40 rfl rfl ?_
 refine zq 33 ⟨rfl, rfl⟩ ?_
 refine za ?_
 refine zc (t30 (t3 [])) ?_
 refine zq 33 ⟨rfl, rfl⟩ ?_
 refine zm ?_
 refine zm ?_
 refine zm ?_
 refine zm ?_
 refine s_val (r_lens qu85 (ec rfl en)) ?_
 refine s_val (r_slice3 (lo := i) (hi := i + 1) (mx := n) qu85 qs88 rfl rfl rfl rfl rfl rfl rfl (by omega) (by omega) (by omega)) ?_
 refine zc (t30 (t3 [])) ?_
 refine c_seq ?_
 refine zq 33 ⟨rfl, rfl⟩ ?_
 refine zm ?_
 refine zm ?_
 refine s_val (r_eql rfl rfl) ?_
 refine zc (t30 (t3 [])) ?_
 refine c_if rfl (fun h16 => ?_) (fun h16 => ?_)
 ·exfalso; omega
 ·refine wp_skip ?_
  refine x_thenNormal ?_
  refine zq 33 ⟨rfl, rfl⟩ ?_
  refine zm ?_
  refine s_val (r_lens qu85 (ec rfl en)) ?_
  refine za ?_
  refine zc (t30 (t3 [])) ?_
  refine c_seq ?_
  refine d_begin (sz := 33) ⟨rfl, rfl⟩ (by kernel_rfl) H (H.sub x0n) rfl ?_
  intro w H
  refine zM 0 (H.sub x0n) ?_
  refine zM 1 (H.sub x0n) ?_
  refine zd 2 rfl (by kernel_rfl) (fun _ _ _ h => h) (H.sub x0n) (r_sliceHe (hi := i) qu85 qs88 rfl rfl rfl (by omega) cutA_zero rfl) rfl ?_
  refine zM 3 (H.sub x0n) ?_
  refine zM 4 (H.sub x0n) ?_
  refine zd 5 rfl (by kernel_rfl) (fun _ _ _ h => h) (H.sub x0n) (r_sliceLe (lo := i + 1) (n' := n - (i + 1)) qu85 qs88 rfl rfl rfl (by omega) rfl rfl rfl) rfl ?_
  refine zl1 6 ?_
  refine b_any rfl go_none (m_append_fit H 0 qu85 qu85 (fun _ h => nomatch h) qs88 rfl hcap (n := i) (m := n - (i + 1)) (by omega) (ec rfl (ec rfl en)) (src_drop (H.at 0 rfl) (by omega) rfl (by omega) (by omega) _) (del_cells ys sp i (by omega))) rfl (by rintro v w ⟨rfl, H⟩; exact (H.sub x0n)) ?_
  rintro v w ⟨rfl, H⟩
  skip
  refine zd 7 rfl (by kernel_rfl) (fun _ _ _ h => h) (H.sub x0n) (r_assign rfl) rfl ?_
  refine zz (t30 (t3 [])) ?_
  refine x_thenNormal ?_
  refine zq 33 ⟨rfl, rfl⟩ ?_
  have hzl : (ys.take i ++ ys.drop (i + 1)).length = n - 1 := by rw [List.length_append, List.length_take, List.length_drop]; omega
  obtain ⟨zs, hzs⟩ : ∃ zs, ys.take i ++ ys.drop (i + 1) = zs := ⟨_, rfl⟩
  rw [hzs] at H hzl
  rw [List.length_append, hsC_length] at hcap
  refine zm ?_
  refine zm ?_
  refine s_val (r_lens qu85 (ec rfl en)) ?_
  refine zm ?_
  refine s_val (r_sliceLHe (lo := n - 1) (hi := n) (n' := 1) (a' := some ⟨b, (n - 1) * 34, none⟩) qu85 qs88 rfl rfl rfl (by omega) (by omega) (by omega) (by omega) (cutA_at (by omega) (by omega)) (by omega) rfl) ?_
  refine s_any (m_clear H 0 qu85 qo88 (ec rfl en) ((zeros_one _).trans rfl) (vs := hC Held.zero) (hC_one _) rfl (by rw [List.length_append, hsC_length, delSp_length _ _ _ (by omega), hC_length]; omega) (by omega) (hs_end zs _ _ (by omega))) ?_
  rintro v w H
  skip
  refine zc (t30 (t3 [])) ?_
  refine zq 33 ⟨rfl, rfl⟩ ?_
  refine zm ?_
  refine za ?_
  refine zc (t30 (t3 [])) ?_
  refine wp_ret ?_
  refine zw (res1 rfl rfl) ?_
  rw [← hzs] at H
  refine ⟨_, by rw [List.length_append, List.length_take, List.length_drop]; congr 1; omega, ?_, H⟩
  rw [hzs, List.length_append, List.length_append, hsC_length, List.length_drop, hC_length, delSp_length _ _ _ (by omega), hzl]
  omega

set_option maxHeartbeats 4000000 in
theorem ins_spec (b n cap mv cv : Nat) (av : Option Addr) (ys vs : List Held) (sp : List Value) (i : Nat) (hnl : n = ys.length) (hmv : mv = vs.length) (hi : i ≤ n) (hnc : n ≤ cap) (hcap : cap * 34 ≤ (hsC ys ++ sp).length) (hl : n ≤ 1000000) (hm : mv ≤ 1000) (w0 : World) (hv : 0 < mv → ∃ bv spv, av = some ⟨bv, 0, none⟩ ∧ w0.heap[bv]? = some (.cells (hsC vs ++ spv).toArray 88 (0, 0)) ∧ bv ≠ b) (hown : Go.Er.Own w0 [(b, .cells (hsC ys ++ sp).toArray 88 (0, 0))]) :
  Calls Try.prog 39 #[.slice (some ⟨b, 0, none⟩) n cap, .int .i64 (i : Nat), .slice av mv cv] w0 fun e w => ∃ v, e = .returned v ∧ (∃ b' cap' sp', v = .slice (some ⟨b', 0, none⟩) (ys.take i ++ vs ++ ys.drop i).length cap' ∧ (ys.take i ++ vs ++ ys.drop i).length ≤ cap' ∧ cap' * 34 ≤ (hsC (ys.take i ++ vs ++ ys.drop i) ++ sp').length ∧ St w0 [b] w [(b', .cells (hsC (ys.take i ++ vs ++ ys.drop i) ++ sp').toArray 88 (0, 0))]) := by
 have H : St w0 [b] w0 [(b, .cells (hsC ys ++ sp).toArray 88 (0, 0))] := hown.st
 refine c_enter (args := [.slice (some ⟨b, 0, none⟩) n cap, .int .i64 (i : Nat), .slice av mv cv]) (l := t90 (t5 [])) Try.func39 Try.ntmps39 rfl rfl ?_
 refine zq 95 ⟨rfl, rfl⟩ ?_
 refine za ?_
 refine zc (t90 (t5 [])) ?_
 refine zq 95 ⟨rfl, rfl⟩ ?_
 refine zm ?_
 refine zm ?_
 refine s_val (r_sliceL (lo := i) qu85 qs88 rfl rfl rfl (by omega)) ?_
 refine zc (t90 (t5 [])) ?_
 refine zq 95 ⟨rfl, rfl⟩ ?_
 refine zm ?_
 refine s_val (r_lens qu85 (ec rfl en)) ?_
 refine za ?_
 refine zc (t90 (t5 [])) ?_
 refine c_seq ?_
 refine zq 95 ⟨rfl, rfl⟩ ?_
 refine zm ?_
 refine s_val (r_eql rfl rfl) ?_
 refine zc (t90 (t5 [])) ?_
 refine c_if rfl (fun h16 => ?_) (fun h16 => ?_)
 ·obtain rfl : vs = [] := List.length_eq_zero_iff.1 (by omega)
  refine zq 95 ⟨rfl, rfl⟩ ?_
  refine zm ?_
  refine za ?_
  refine zc (t90 (t5 [])) ?_
  refine wp_ret (x_thenRet ?_)
  refine zw (res1 rfl rfl) ?_
  exact ⟨b, cap, sp, by rw [List.append_nil, List.take_append_drop, hnl], by rw [List.append_nil, List.take_append_drop]; omega, by rw [List.append_nil, List.take_append_drop]; exact hcap, by rw [List.append_nil, List.take_append_drop]; exact H⟩
 ·obtain ⟨bv, spv, rfl, hbv, hne⟩ := hv (by omega)
  have hXv : bv ∉ [b] := by simpa using hne
  have hcl := hcap
  rw [List.length_append, hsC_length] at hcl
  refine wp_skip ?_
  refine x_thenNormal ?_
  refine zq 95 ⟨rfl, rfl⟩ ?_
  refine zm ?_
  refine s_val (r_lens qu85 (ec rfl en)) ?_
  refine za ?_
  refine zc (t90 (t5 [])) ?_
  refine c_seq ?_
  refine zq 95 ⟨rfl, rfl⟩ ?_
  refine zm ?_
  refine zm ?_
  refine s_val (r_eql rfl rfl) ?_
  refine zc (t90 (t5 [])) ?_
  refine c_if rfl (fun h22 => ?_) (fun h22 => ?_)
  ·obtain rfl : i = n := by omega
   refine zq 95 ⟨rfl, rfl⟩ ?_
   refine zm ?_
   refine zm ?_
   refine s_any (m_append_own2 H 0 qu85 qu85 (fun _ h => nomatch h) qs88 qo88 rfl Try.typeInfo88 rfl (by rw [hsC_length]; omega) hcap (by rw [bytesHeld]; omega) (by rw [bytesHeld]; omega) (ec rfl (ec rfl en)) (src_all (H.rd hbv hXv) hmv _)) ?_
   rintro v w ⟨b', cap', sp', rfl, hcap', hnc', H⟩
   skip
   refine za ?_
   refine zc (t90 (t5 [])) ?_
   refine wp_ret (x_thenRet ?_)
   refine zw (res1 rfl rfl) ?_
   have e1 : ys.take i ++ vs ++ ys.drop i = ys ++ vs := by rw [List.take_of_length_le (by omega), List.drop_of_length_le (by omega), List.append_nil]
   rw [e1]
   rw [← hsC_append] at hcap' H
   exact ⟨b', cap', sp', by rw [List.length_append, hnl, hmv], by rw [List.length_append]; omega, hcap', H⟩
  ·refine wp_skip ?_
   refine x_thenNormal ?_
   refine c_seq ?_
   refine zq 95 ⟨rfl, rfl⟩ ?_
   refine zm ?_
   refine zm ?_
   refine zj ?_
   refine zm ?_
   refine s_val (r_cap qu85 (ec rfl en)) ?_
   refine s_val (r_gtr rfl rfl) ?_
   refine zc (t90 (t5 [])) ?_
   refine c_if rfl (fun h31 => ?_) (fun h31 => ?_)
   ·have ep := hs_part ys sp i
    rw [ep] at H
    refine zq 95 ⟨rfl, rfl⟩ ?_
    refine zm ?_
    refine zm ?_
    refine s_val (r_sliceHe (hi := i) qu85 qs88 rfl rfl rfl (by omega) cutA_zero rfl) ?_
    refine zm ?_
    refine zm ?_
    refine zj ?_
    refine zm ?_
    refine s_val (r_sub rfl rfl (wr (r := ((n + mv - i : Nat) : Int)))) ?_
    refine s_any (m_append_zeros (q := .i64) (m := n + mv - i) H 0 qu85 qu3 qs88 qo88 rfl Try.typeInfo88 rfl (hs_take_len (by omega)) (by omega) (by rw [bytesHeld]; omega) (by omega) (by omega) (by omega) (by rw [bytesHeld]; omega) (ec rfl (ec rfl en))) ?_
    rintro v w ⟨bn, cap', sp', rfl, hcap', hnc', H⟩
    generalize hZ : (Builtin.zeroCells _ (n + mv - i)).toList = Z at hcap' H
    have hZl : Z.length = (n + mv - i) * 34 := by rw [← hZ, Array.length_toList, zeroCells_size]; rfl
    rw [List.length_append, List.length_append, hs_take_len (by omega)] at hcap'
    refine za ?_
    refine zc (t90 (t5 [])) ?_
    refine zq 95 ⟨rfl, rfl⟩ ?_
    refine zm ?_
    refine zm ?_
    refine s_val (r_sliceLe (lo := i) (a' := some ⟨bn, i * 34, none⟩) qu85 qs88 rfl rfl rfl (by omega) (cutA_at (by omega) (by omega)) rfl rfl) ?_
    refine zm ?_
    refine s_any (m_copy H 0 (m := mv) (n := mv) qu85 qs88 (ec rfl (ec rfl en)) (by simp [Builtin.lenOf]) (Nat.min_eq_left (by omega)) ((src_all (H.rd hbv hXv) hmv _).cells w.drawn) (hsC_one _) rfl (by rw [List.length_append, List.length_append, hs_take_len (by omega), hsC_length]; omega) ((congrArg (fun c => splice c _ _) (List.append_assoc _ _ _)).trans (hs_ins _ _ _ (by rw [List.length_take]; omega)))) ?_
    rintro v w H
    skip
    refine zc (t90 (t5 [])) ?_
    refine c_seq ?_
    refine d_begin (sz := 95) ⟨rfl, rfl⟩ (by kernel_rfl) H (H.sub x01n) rfl ?_
    intro w H
    refine zM 0 (H.sub x01n) ?_
    refine zM 1 (H.sub x01n) ?_
    refine zM 2 (H.sub x01n) ?_
    refine zd 3 rfl (by kernel_rfl) (fun _ _ _ h => h) (H.sub x01n) z_add rfl ?_
    refine zd 4 rfl (by kernel_rfl) (fun _ _ _ h => h) (H.sub x01n) (r_sliceLe (lo := i + mv) (a' := some ⟨bn, (i + mv) * 34, none⟩) qu85 qs88 rfl rfl (by omega) (by omega) (cutA_at (by omega) (by omega)) rfl rfl) rfl ?_
    refine zM 5 (H.sub x01n) ?_
    refine zM 6 (H.sub x01n) ?_
    refine zd 7 rfl (by kernel_rfl) (fun _ _ _ h => h) (H.sub x01n) (r_sliceLe (lo := i) (n' := n - i) (a' := some ⟨b, i * 34, none⟩) qu85 qs88 rfl rfl rfl (by omega) (cutA_at (by omega) (by omega)) (by omega) rfl) rfl ?_
    refine zl1 8 ?_
    refine b_any rfl go_none (m_copy H 0 (m := n - i) (n := n - i) qu85 qs88 (ec rfl (ec rfl en)) (by simp [Builtin.lenOf]) (Nat.min_eq_left (by omega)) (first_at (D := ys.drop i) (H.at 1 rfl) (hs_take_len (by omega)) (by rw [List.length_drop]; omega)) (hsC_one _) rfl (by rw [List.length_append, hsC_length, hsC_length, List.length_drop, List.length_append, List.length_take, List.length_drop, List.length_append]; omega) (hs_ins _ _ _ (by rw [List.length_append, List.length_take]; omega))) rfl (by rintro v w H; exact (H.sub x01n)) ?_
    rintro v w H
    skip
    refine zz (t90 (t5 [])) ?_
    refine x_thenNormal ?_
    refine zq 95 ⟨rfl, rfl⟩ ?_
    refine zm ?_
    refine za ?_
    refine zc (t90 (t5 [])) ?_
    refine wp_ret (x_thenRet ?_)
    refine zw (res1 rfl rfl) ?_
    have hdl : (ys.drop i).length = n - i := by rw [List.length_drop, hnl]
    have hl3 : (ys.take i ++ vs ++ ys.drop i).length = n + mv := by rw [List.length_append, List.length_append, List.length_take, List.length_drop]; omega
    exact ⟨bn, cap', _, by rw [hl3]; congr 1; omega, by omega, (by rw [List.length_append, hsC_length, hl3]; simp only [List.length_drop, List.length_append]; omega), H.sub (.cons_cons _ (.cons _ .slnil))⟩
   ·have ep := hs_part ys sp i
    rw [ep] at H
    refine wp_skip ?_
    refine x_thenNormal ?_
    refine zq 95 ⟨rfl, rfl⟩ ?_
    refine zm ?_
    refine zm ?_
    refine zm ?_
    refine zj ?_
    refine s_val (r_sliceHe (hi := n + mv) qu85 qs88 rfl rfl (by omega) (by omega) cutA_zero rfl) ?_
    refine za ?_
    refine zc (t90 (t5 [])) ?_
    refine c_seq ?_
    refine zq 95 ⟨rfl, rfl⟩ ?_
    refine zm ?_
    refine zm ?_
    refine zm ?_
    refine zm ?_
    refine zj ?_
    refine s_val (r_sliceLe (lo := i + mv) (n' := n - i) (a' := some ⟨b, (i + mv) * 34, none⟩) qu85 qs88 rfl rfl (by omega) (by omega) (cutA_at (by omega) (by omega)) (by omega) rfl) ?_
    refine s_val (r_apart (T := 85) (T2 := 4) Try.func59 rfl rfl (by kernel_rfl) (by kernel_rfl) Try.underlying85 qs88 (ec rfl (ec rfl en)) hne (H.rd hbv hXv) (H.at 0 rfl) (by rw [List.length_append, List.length_append, hsC_length, hsC_length, List.length_take, List.length_drop]; omega)) ?_
    refine s_val (r_not rfl) ?_
    refine zc (t90 (t5 [])) ?_
    refine c_ift rfl ?_
    refine c_seq ?_
    refine d_begin (sz := 95) ⟨rfl, rfl⟩ (by kernel_rfl) H (H.sub x0n) rfl ?_
    intro w H
    refine zM 0 (H.sub x0n) ?_
    refine zM 1 (H.sub x0n) ?_
    refine zM 2 (H.sub x0n) ?_
    refine zd 3 rfl (by kernel_rfl) (fun _ _ _ h => h) (H.sub x0n) z_add rfl ?_
    refine zd 4 rfl (by kernel_rfl) (fun _ _ _ h => h) (H.sub x0n) (r_sliceLe (lo := i + mv) (n' := n - i) (a' := some ⟨b, (i + mv) * 34, none⟩) qu85 qs88 rfl rfl (by omega) (by omega) (cutA_at (by omega) (by omega)) (by omega) rfl) rfl ?_
    refine zM 5 (H.sub x0n) ?_
    refine zM 6 (H.sub x0n) ?_
    refine zd 7 rfl (by kernel_rfl) (fun _ _ _ h => h) (H.sub x0n) (r_sliceLe (lo := i) (n' := n + mv - i) (a' := some ⟨b, i * 34, none⟩) qu85 qs88 rfl rfl rfl (by omega) (cutA_at (by omega) (by omega)) (by omega) rfl) rfl ?_
    refine zl1 8 ?_
    refine b_any rfl go_none (m_copy H 0 (m := n + mv - i) (n := n - i) qu85 qs88 (ec rfl (ec rfl en)) (by simp [Builtin.lenOf]) (Nat.min_eq_right (by omega)) (first_at (D := ys.drop i) (H.at 0 rfl) (hs_take_len (by omega)) (by rw [List.length_drop]; omega)) (hsC_one _) rfl (by rw [List.length_append, List.length_append, hsC_length, hsC_length, List.length_take, List.length_drop]; omega) (splice_right (k := 34 * vs.length) (by rw [hs_take_len (by omega)]; omega) (by rw [List.length_append, hsC_length, List.length_drop]; omega))) rfl (by rintro v w H; exact (H.sub x0n)) ?_
    rintro v w H
    skip
    refine zz (t90 (t5 [])) ?_
    refine x_thenNormal ?_
    refine zq 95 ⟨rfl, rfl⟩ ?_
    refine zm ?_
    refine zm ?_
    refine s_val (r_sliceLe (lo := i) (n' := n + mv - i) (a' := some ⟨b, i * 34, none⟩) qu85 qs88 rfl rfl rfl (by omega) (cutA_at (by omega) (by omega)) (by omega) rfl) ?_
    refine zm ?_
    refine s_any (m_copy H 0 (m := mv) (n := mv) qu85 qs88 (ec rfl (ec rfl en)) (by simp [Builtin.lenOf]) (Nat.min_eq_left (by omega)) ((src_all (H.rd hbv hXv) hmv _).cells w.drawn) (hsC_one _) rfl (by rw [List.length_append, splice_length' (by rw [List.length_append, hsC_length, List.length_drop]; omega), List.length_append, hsC_length, hsC_length, hsC_length, List.length_take, List.length_drop]; omega) (ins_cells _ _ _ _ _ (by rw [List.length_append, hsC_length, List.length_drop]; omega) (by rw [List.length_take]; omega))) ?_
    rintro v w H
    skip
    refine zc (t90 (t5 [])) ?_
    refine zq 95 ⟨rfl, rfl⟩ ?_
    refine zm ?_
    refine za ?_
    refine zc (t90 (t5 [])) ?_
    refine wp_ret (x_thenRet ?_)
    refine zw (res1 rfl rfl) ?_
    have hdl : (ys.drop i).length = n - i := by rw [List.length_drop, hnl]
    have hl3 : (ys.take i ++ vs ++ ys.drop i).length = n + mv := by rw [List.length_append, List.length_append, List.length_take, List.length_drop]; omega
    exact ⟨b, cap, _, by rw [hl3], by omega, (by rw [List.length_append, hsC_length, hl3]; simp only [List.length_drop, List.length_append, hsC_length]; omega), H⟩

end Go.Proofs.Ytobfnieebiakeaa

