import Derived.Test.YtblphhclfloodaaG8
namespace Go.Proofs.Ytblphhclfloodaa
open Go Go.Er

section
variable {sl sr : Key → Key}
theorem mid3 {α : Type} {a b c : α} {N1 N2 : List α} : (a :: b :: c :: (N2 ++ N1)).Perm (N2 ++ a :: b :: c :: N1) := by
  have h := (List.perm_append_comm (l₁ := [a, b, c]) (l₂ := N2)).append_right N1
  simpa using h
theorem kids_ok {x : Held} (hx : okN x) (hd : x.depth < 17) : okN (kidL sl x) ∧ okN (kidR sr x) := by
  obtain ⟨d0, d1, a0, a1, a2⟩ := id hx
  have h2 := many_succ (n := x.depth) hd
  have hp := many_pos (x.depth + 1)
  have he := hx.end_le
  obtain ⟨q, hq⟩ := Int.dvd_of_emod_eq_zero a1
  have e1 : x.at_ = many (x.depth + 1) * (2 * q) := by rw [hq, h2, Int.mul_comm 2, Int.mul_assoc]
  refine ⟨⟨by show 0 ≤ x.depth + 1; omega, by show x.depth + 1 ≤ 17; omega, a0, ?_, a2⟩, ⟨by show 0 ≤ x.depth + 1; omega, by show x.depth + 1 ≤ 17; omega, by show 0 ≤ x.at_ + many (x.depth + 1); omega, ?_, by show x.at_ + many (x.depth + 1) < _; omega⟩⟩
  · show x.at_ % many (x.depth + 1) = 0
    rw [e1]; exact Int.mul_emod_right _ _
  · show (x.at_ + many (x.depth + 1)) % many (x.depth + 1) = 0
    rw [Int.add_emod_right, e1]; exact Int.mul_emod_right _ _
theorem wo_end {x : Held} {n : Int} (hd : x.depth = 17) (hi : InN x n) : wo sl sr x n = [] := by
  have e : (17 - x.depth).toNat = 0 := by omega
  unfold wo; rw [e]; simp [woF, hi]
theorem wo_kids {x : Held} {n : Int} (hd : x.depth < 17) (hd0 : 0 ≤ x.depth) (hi : InN x n) : wo sl sr x n = wo sl sr (kidL sl x) n ++ wo sl sr (kidR sr x) n := by
  obtain ⟨k, hk⟩ : ∃ k, (17 - x.depth).toNat = k + 1 := ⟨(17 - x.depth).toNat - 1, by omega⟩
  have e1 : (17 - (kidL sl x).depth).toNat = k := by show (17 - (x.depth + 1)).toNat = k; omega
  have e2 : (17 - (kidR sr x).depth).toNat = k := by show (17 - (x.depth + 1)).toNat = k; omega
  unfold wo; rw [hk, e1, e2]; simp only [woF, if_pos hi]
theorem woF_len : ∀ (k : Nat) (x : Held) (n : Int), (woF sl sr k x n).length ≤ k + 1
  | 0, x, n => by simp only [woF]; split <;> simp
  | k + 1, x, n => by
    simp only [woF]
    split
    · rw [List.length_append]
      by_cases h : InN (kidL sl x) n
      · have h1 := woF_len k (kidL sl x) n
        have h2 : ¬ InN (kidR sr x) n := by unfold InN kidL kidR at *; dsimp only at *; omega
        rw [woF_out h2]; simp only [List.length_singleton]; omega
      · have h1 := woF_len k (kidR sr x) n
        rw [woF_out h]; simp only [List.length_singleton]; omega
    · simp
theorem wo_len (x : Held) (n : Int) : (wo sl sr x n).length ≤ (17 - x.depth).toNat + 1 := woF_len _ x n
theorem punc_lenb {n : Int} : ∀ (xs : List Held), (∀ x ∈ xs, 0 ≤ x.depth) → (punc sl sr xs n).length ≤ 18 * xs.length
  | [], _ => by simp [punc]
  | x :: xs, h => by
    have h1 := wo_len (sl := sl) (sr := sr) x n
    have h2 := punc_lenb (n := n) xs fun y hy => h y (List.mem_cons_of_mem _ hy)
    have h3 := h x List.mem_cons_self
    have e : punc sl sr (x :: xs) n = wo sl sr x n ++ punc sl sr xs n := rfl
    rw [e, List.length_append]
    simp only [List.length_cons]
    omega
theorem punc_take {xs : List Held} {n : Int} {i : Nat} (hi : i < xs.length) : punc sl sr (xs.take (i + 1)) n = punc sl sr (xs.take i) n ++ wo sl sr (nd xs i) n := by
  rw [List.take_succ_eq_append_getElem hi, punc_append, nd_eq hi]; simp [punc]
end

set_option maxHeartbeats 4000000 in
theorem wo_step (x : Held) (n : Int) (hx : okN x) (hn0 : 0 ≤ n) (hn1 : n < 18446744073709551616) (ih : x.depth < 17 → ∀ (y : Held), okN y → y.depth = x.depth + 1 → ∀ (w0 : World), Calls Try.prog 42 #[.agg (hC y).toArray, .int .u64 n] w0 fun e w => ∃ v, e = .returned v ∧ (∃ a' cap' N, v = .slice a' (wo splitL splitR y n).length cap' ∧ RowN 34 51 (hsC (wo splitL splitR y n)) (wo splitL splitR y n).length a' cap' N ∧ St w0 [] w N)) (w0 : World) :
    Calls Try.prog 42 #[.agg (hC x).toArray, .int .u64 n] w0 fun e w => ∃ v, e = .returned v ∧ (∃ a' cap' N, v = .slice a' (wo splitL splitR x n).length cap' ∧ RowN 34 51 (hsC (wo splitL splitR x n)) (wo splitL splitR x n).length a' cap' N ∧ St w0 [] w N) := by
  have H := St.refl w0
  obtain ⟨hd0, hd1, ha0, ha2, ha1⟩ := id hx
  refine c_enter (args := [.agg (hC x).toArray, .int .u64 n]) (l := [.agg (hC x).toArray, .int .u64 n, undef, undef, undef, undef, undef, undef, undef, undef, undef, undef, undef, undef, undef, undef, undef, undef, undef, undef, undef, undef, undef, undef, undef, undef, undef, undef, undef, undef, undef, undef, undef, undef, undef, undef, undef, undef, undef, undef, undef, undef, undef, undef, undef, undef, undef, undef]) Try.func42 Try.ntmps42 rfl rfl ?_
  refine c_rseq (n := 48) ⟨rfl, rfl⟩ ?_
  refine s_new (m_box (cs := (hC x)) H rfl rfl) ?_
  intro w b2 H
  refine s_val (r_assign rfl) ?_
  refine c_nil (l' := [_, _, _, _, _, _, _, _, _, _, _, _, _, _, _, _, _, _, _, _, _, _, _, _, _, _, _, _, _, _, _, _, _, _, _, _, _, _, _, _, _, _, _, _, _, _, _, _]) rfl ?_
  refine c_seq ?_
  refine c_rseq (n := 48) ⟨rfl, rfl⟩ ?_
  refine s_val (r_loadn Try.isAgg51 Try.sizeOf51 rfl (H.at 0 rfl) (by first | exact (kC_td _) | exact (hC_td _) | exact (hC_seed _)) (by first | exact (kC_length _) | exact (hC_length _) | exact rfl)) ?_
  refine s_val (r_move rfl) ?_
  refine s_call (r_call Try.call40 (ec rfl (ec rfl en))) (in_spec _ _ hx hn0 hn1 _) ?_
  rintro v w ⟨rfl, HC⟩
  replace H := H.quiet HC
  refine s_val (r_notp rfl) ?_
  refine c_nil (l' := [_, _, _, _, _, _, _, _, _, _, _, _, _, _, _, _, _, _, _, _, _, _, _, _, _, _, _, _, _, _, _, _, _, _, _, _, _, _, _, _, _, _, _, _, _, _, _, _]) rfl ?_
  refine c_if rfl (fun h11 => ?_) (fun h11 => ?_)
  · skip
    refine c_rseq (n := 48) ⟨rfl, rfl⟩ ?_
    refine s_val (r_loadn Try.isAgg51 Try.sizeOf51 rfl (H.at 0 rfl) (by first | exact (kC_td _) | exact (hC_td _) | exact (hC_seed _)) (by first | exact (kC_length _) | exact (hC_length _) | exact rfl)) ?_
    refine s_new (m_bslice1 H Try.runUnderlying33 Try.sizeOf51 Try.zeroValue51 (by omega) (by omega) rfl rfl (hC_length _)) ?_
    intro w b13 H
    refine s_val (r_assign rfl) ?_
    refine c_nil (l' := [_, _, _, _, _, _, _, _, _, _, _, _, _, _, _, _, _, _, _, _, _, _, _, _, _, _, _, _, _, _, _, _, _, _, _, _, _, _, _, _, _, _, _, _, _, _, _, _]) rfl ?_
    refine wp_ret (x_thenRet ?_)
    refine e_ret (res1 rfl rfl) ⟨_, rfl, ?_⟩
    rw [wo_out h11]
    rw [← hsC_one1 x, ← List.append_nil (hsC [x])] at H
    exact ⟨_, 1, _, rfl, RowN.mk (by rw [hsC_length, Nat.mul_comm]) (Nat.le_refl _) (by rw [List.append_nil, hsC_length]; exact Nat.le_refl _), H.sub (.cons_cons _ (List.nil_sublist _))⟩
  · skip
    have hin : InN x n := Decidable.not_not.1 h11
    refine wp_skip ?_
    refine x_thenNormal ?_
    refine c_seq ?_
    refine c_rseq (n := 48) ⟨rfl, rfl⟩ ?_
    refine s_val (r_fieldAddr (k := 0) Try.runUnderlying51 rfl Try.sizeOf3 (by decide) rfl rfl) ?_
    refine s_val (r_load1 Try.isAgg3 rfl (H.at 0 rfl) (by first | exact rfl | exact (hC_00 _) | exact (hC_0 _) | exact (hC_1 _))) ?_
    refine s_val (r_eql rfl rfl) ?_
    refine c_nil (l' := [_, _, _, _, _, _, _, _, _, _, _, _, _, _, _, _, _, _, _, _, _, _, _, _, _, _, _, _, _, _, _, _, _, _, _, _, _, _, _, _, _, _, _, _, _, _, _, _]) rfl ?_
    refine c_if rfl (fun h16 => ?_) (fun h16 => ?_)
    · skip
      refine c_rseq (n := 48) ⟨rfl, rfl⟩ ?_
      refine s_val (r_assign rfl) ?_
      refine c_nil (l' := [_, _, _, _, _, _, _, _, _, _, _, _, _, _, _, _, _, _, _, _, _, _, _, _, _, _, _, _, _, _, _, _, _, _, _, _, _, _, _, _, _, _, _, _, _, _, _, _]) rfl ?_
      refine wp_ret (x_thenRet ?_)
      refine e_ret (res1 rfl rfl) ⟨_, rfl, ?_⟩
      rw [wo_end h16 hin]
      exact ⟨none, 0, [], rfl, RowN.nil, H.sub (List.nil_sublist _)⟩
    · skip
      have hdl : x.depth < 17 := by omega
      obtain ⟨hokL, hokR⟩ := kids_ok (sl := splitL) (sr := splitR) hx hdl
      have hmp := many_pos (x.depth + 1)
      have hke : x.at_ + many (x.depth + 1) < 131072 := hokR.2.2.2.2
      refine wp_skip ?_
      refine x_thenNormal ?_
      refine c_rseq (n := 48) ⟨rfl, rfl⟩ ?_
      refine s_val (r_fieldAddr (k := 2) Try.runUnderlying51 rfl Try.sizeOf22 (by decide) rfl rfl) ?_
      refine s_val (r_loadn Try.isAgg22 Try.sizeOf22 rfl (H.at 0 rfl) (by first | exact (kC_td _) | exact (hC_td _) | exact (hC_seed _)) (by first | exact (kC_length _) | exact (hC_length _) | exact rfl)) ?_
      refine s_call (r_call Try.call39 (ec rfl en)) (rsplit_spec _ _) ?_
      rintro v w ⟨rfl, HC⟩
      replace H := H.quiet HC
      refine s_val (r_move rfl) ?_
      refine s_val (r_extract rfl rfl) ?_
      refine s_val (r_extract rfl rfl) ?_
      refine s_new (m_alloc (cs := (kC (By.zero 32))) H Try.zeroValue22 rfl) ?_
      intro w b5 H
      refine s_new (m_alloc (cs := (kC (By.zero 32))) H Try.zeroValue22 rfl) ?_
      intro w b6 H
      refine s_st (m_storen H 1 32 Try.sizeOf22 rfl rfl (by first | exact (kC_length _) | exact (hC_length _)) (by first | exact (kC_one _) | exact (hC_one _)) rfl (by first | exact (by rw [kC_length]; omega) | exact (by rw [hC_length]; omega)) (by first | exact (kC_sp _ _) | exact (hC_sp _ _))) (L' := (_ :: _ :: _ :: _)) rfl ?_
      intro w H
      refine s_st (m_storen H 0 32 Try.sizeOf22 rfl rfl (by first | exact (kC_length _) | exact (hC_length _)) (by first | exact (kC_one _) | exact (hC_one _)) rfl (by first | exact (by rw [kC_length]; omega) | exact (by rw [hC_length]; omega)) (by first | exact (kC_sp _ _) | exact (hC_sp _ _))) (L' := (_ :: _ :: _ :: _)) rfl ?_
      intro w H
      refine c_nil (l' := [_, _, _, _, _, _, _, _, _, _, _, _, _, _, _, _, _, _, _, _, _, _, _, _, _, _, _, _, _, _, _, _, _, _, _, _, _, _, _, _, _, _, _, _, _, _, _, _]) rfl ?_
      refine c_rseq (n := 48) ⟨rfl, rfl⟩ ?_
      refine s_val (r_fieldAddr (k := 0) Try.runUnderlying51 rfl Try.sizeOf3 (by decide) rfl rfl) ?_
      refine s_val (r_load1 Try.isAgg3 rfl (H.at 2 rfl) (by first | exact rfl | exact (hC_00 _) | exact (hC_0 _) | exact (hC_1 _))) ?_
      refine s_val (r_add rfl rfl (w_i64 (by omega) (by omega))) ?_
      refine s_val (r_fieldAddr (k := 1) Try.runUnderlying51 rfl Try.sizeOf31 (by decide) rfl rfl) ?_
      refine s_val (r_load1 Try.isAgg31 rfl (H.at 2 rfl) (by first | exact rfl | exact (hC_00 _) | exact (hC_0 _) | exact (hC_1 _))) ?_
      refine s_val (r_loadn Try.isAgg22 Try.sizeOf22 rfl (H.at 1 rfl) (by first | exact (kC_td _) | exact (hC_td _) | exact (hC_seed _)) (by first | exact (kC_length _) | exact (hC_length _) | exact rfl)) ?_
      refine s_val (r_buildS Try.runUnderlying51 Try.zeroValue51 places51 (pc rfl (pc rfl (pc rfl pn))) (by first | exact (hfill _ _ _) | exact (hfill1 _))) ?_
      refine s_val (r_move rfl) ?_
      refine s_call (r_call Try.call42 (ec rfl (ec rfl en))) (ih hdl (kidL splitL x) hokL rfl _) ?_
      rintro v w ⟨a1, cap1, N1, rfl, hN1, HC⟩
      replace H : St w0 [] _ (_ :: _ :: _ :: N1) := (H.call0 HC).perm (List.perm_append_comm (l₁ := [_, _, _]))
      refine s_val (r_assign rfl) ?_
      refine c_nil (l' := [_, _, _, _, _, _, _, _, _, _, _, _, _, _, _, _, _, _, _, _, _, _, _, _, _, _, _, _, _, _, _, _, _, _, _, _, _, _, _, _, _, _, _, _, _, _, _, _]) rfl ?_
      refine c_seq ?_
      refine d_begin (sz := 48) ⟨rfl, rfl⟩ (by kernel_rfl) H (H.sub (.cons_cons _ (.cons_cons _ (.cons_cons _ (List.nil_sublist _))))) rfl ?_
      intro w H
      refine d_take (i := 0) rfl (by kernel_rfl) (fun _ _ _ h => h) (H.sub (.cons_cons _ (.cons_cons _ (.cons_cons _ (List.nil_sublist _))))) (fun _ _ => r_move rfl) rfl ?_
      refine d_take (i := 1) rfl (by kernel_rfl) (fun _ _ _ h => h) (H.sub (.cons_cons _ (.cons_cons _ (.cons_cons _ (List.nil_sublist _))))) (fun _ _ => r_fieldAddr (k := 0) Try.runUnderlying51 rfl Try.sizeOf3 (by decide) rfl rfl) rfl ?_
      refine d_take (i := 2) rfl (by kernel_rfl) (fun _ _ _ h => h) (H.sub (.cons_cons _ (.cons_cons _ (.cons_cons _ (List.nil_sublist _))))) (fun _ HS => r_load1 Try.isAgg3 rfl (HS.at 2 rfl) (by first | exact rfl | exact (hC_00 _) | exact (hC_0 _) | exact (hC_1 _))) rfl ?_
      refine d_take (i := 3) rfl (by kernel_rfl) (fun _ _ _ h => h) (H.sub (.cons_cons _ (.cons_cons _ (.cons_cons _ (List.nil_sublist _))))) (fun _ _ => r_add rfl rfl (w_i64 (by omega) (by omega))) rfl ?_
      refine d_take (i := 4) rfl (by kernel_rfl) (fun _ _ _ h => h) (H.sub (.cons_cons _ (.cons_cons _ (.cons_cons _ (List.nil_sublist _))))) (fun _ _ => r_fieldAddr (k := 1) Try.runUnderlying51 rfl Try.sizeOf31 (by decide) rfl rfl) rfl ?_
      refine d_take (i := 5) rfl (by kernel_rfl) (fun _ _ _ h => h) (H.sub (.cons_cons _ (.cons_cons _ (.cons_cons _ (List.nil_sublist _))))) (fun _ HS => r_load1 Try.isAgg31 rfl (HS.at 2 rfl) (by first | exact rfl | exact (hC_00 _) | exact (hC_0 _) | exact (hC_1 _))) rfl ?_
      refine d_take (i := 6) rfl (by kernel_rfl) (fun _ _ _ h => h) (H.sub (.cons_cons _ (.cons_cons _ (.cons_cons _ (List.nil_sublist _))))) (fun _ _ => r_fieldAddr (k := 0) Try.runUnderlying51 rfl Try.sizeOf3 (by decide) rfl rfl) rfl ?_
      refine d_take (i := 7) rfl (by kernel_rfl) (fun _ _ _ h => h) (H.sub (.cons_cons _ (.cons_cons _ (.cons_cons _ (List.nil_sublist _))))) (fun _ HS => r_load1 Try.isAgg3 rfl (HS.at 2 rfl) (by first | exact rfl | exact (hC_00 _) | exact (hC_0 _) | exact (hC_1 _))) rfl ?_
      refine d_take (i := 8) rfl (by kernel_rfl) (fun _ _ _ h => h) (H.sub (.cons_cons _ (.cons_cons _ (.cons_cons _ (List.nil_sublist _))))) (fun _ _ => r_add rfl rfl (w_i64 (by omega) (by omega))) rfl ?_
      refine d_take (i := 11) rfl (by kernel_rfl) (fun _ _ _ h => h) (H.sub (.cons_cons _ (.cons_cons _ (.cons_cons _ (List.nil_sublist _))))) (fun _ HS => r_loadn Try.isAgg22 Try.sizeOf22 rfl (HS.at 0 rfl) (by first | exact (kC_td _) | exact (hC_td _) | exact (hC_seed _)) (by first | exact (kC_length _) | exact (hC_length _) | exact rfl)) rfl ?_
      refine d_take (i := 13) rfl (by kernel_rfl) (fun _ _ _ h => h) (H.sub (.cons_cons _ (.cons_cons _ (.cons_cons _ (List.nil_sublist _))))) (fun _ _ => r_move rfl) rfl ?_
      refine d_all1 (i := 9) (by kernel_rfl) ?_
      refine b_call rfl go_none (r_call Try.call41 (ec rfl en)) (rmany_spec _ (by omega) (by omega) _) rfl ?_
      rintro v w ⟨rfl, HC⟩
      replace H := H.quiet HC
      refine ⟨(H.sub (.cons_cons _ (.cons_cons _ (.cons_cons _ (List.nil_sublist _))))), ?_⟩
      refine d_take (i := 10) rfl (by kernel_rfl) (fun _ _ _ h => h) (H.sub (.cons_cons _ (.cons_cons _ (.cons_cons _ (List.nil_sublist _))))) (fun _ _ => r_add rfl rfl (w_u64 (by omega) (by omega))) rfl ?_
      refine d_take (i := 12) rfl (by kernel_rfl) (fun _ _ _ h => h) (H.sub (.cons_cons _ (.cons_cons _ (.cons_cons _ (List.nil_sublist _))))) (fun _ _ => r_buildS Try.runUnderlying51 Try.zeroValue51 places51 (pc rfl (pc rfl (pc rfl pn))) (by first | exact (hfill _ _ _) | exact (hfill1 _))) rfl ?_
      refine d_all1 (i := 14) (by kernel_rfl) ?_
      refine b_call rfl go_none (r_call Try.call42 (ec rfl (ec rfl en))) (ih hdl (kidR splitR x) hokR rfl _) rfl ?_
      rintro v w ⟨a2, cap2, N2, rfl, hN2, HC⟩
      replace H : St w0 [] _ (_ :: _ :: _ :: (N2 ++ N1)) := (H.call0 HC).perm mid3
      refine ⟨(H.sub (.cons_cons _ (.cons_cons _ (.cons_cons _ (List.nil_sublist _))))), ?_⟩
      refine d_all1 (i := 15) (by kernel_rfl) ?_
      refine b_any rfl go_none (m_append_row0 (L1 := _ :: _ :: _ :: N2) (N := N1) H hN1 Try.runUnderlying33 Try.runUnderlying33 (fun _ h => nomatch h) Try.sizeOf51 Try.zeroValue51 rfl Try.typeInfo51 (by rw [bytes51]; omega) (by rw [bytes51]; have := wo_len (sl := splitL) (sr := splitR) (kidL splitL x) n; have := wo_len (sl := splitL) (sr := splitR) (kidR splitR x) n; have := hokL.1; have := hokR.1; omega) (ec rfl (ec rfl en)) ((hN2.hrowM H (fun p hp => by simp [hp])).src _)) rfl (by rintro v w ⟨a', cap', N', rfl, hN', H⟩; exact (H.sub (.cons_cons _ (.cons_cons _ (.cons_cons _ (List.nil_sublist _)))))) ?_
      rintro v w ⟨a', cap', N', rfl, hN', H⟩
      skip
      refine d_take (i := 16) rfl (by kernel_rfl) (fun _ _ _ h => h) (H.sub (.cons_cons _ (.cons_cons _ (.cons_cons _ (List.nil_sublist _))))) (fun _ _ => r_assign rfl) rfl ?_
      refine d_done (l' := [_, _, _, _, _, _, _, _, _, _, _, _, _, _, _, _, _, _, _, _, _, _, _, _, _, _, _, _, _, _, _, _, _, _, _, _, _, _, _, _, _, _, _, _, _, _, _, _]) (by kernel_rfl) rfl ?_
      refine x_thenNormal ?_
      refine wp_ret ?_
      refine e_ret (res1 rfl rfl) ⟨_, rfl, ?_⟩
      rw [wo_kids hdl hd0 hin]
      exact ⟨_, _, N', by rw [List.length_append], by rw [hsC_append, List.length_append]; exact hN', H.sub (List.sublist_append_right (_ :: _ :: _ :: N2) N')⟩

theorem wo_spec (n : Int) (hn0 : 0 ≤ n) (hn1 : n < 18446744073709551616) : ∀ (k : Nat) (x : Held), x.depth = 17 - (k : Int) → okN x → ∀ (w0 : World), Calls Try.prog 42 #[.agg (hC x).toArray, .int .u64 n] w0 fun e w => ∃ v, e = .returned v ∧ (∃ a' cap' N, v = .slice a' (wo splitL splitR x n).length cap' ∧ RowN 34 51 (hsC (wo splitL splitR x n)) (wo splitL splitR x n).length a' cap' N ∧ St w0 [] w N)
  | 0, x, hd, hx, w0 => wo_step x n hx hn0 hn1 (fun h => absurd h (by omega)) w0
  | k + 1, x, hd, hx, w0 => wo_step x n hx hn0 hn1 (fun _ y hy he w => wo_spec n hn0 hn1 k y (by omega) hy w) w0
theorem wo_any (x : Held) (n : Int) (hx : okN x) (hn0 : 0 ≤ n) (hn1 : n < 18446744073709551616) (w0 : World) : Calls Try.prog 42 #[.agg (hC x).toArray, .int .u64 n] w0 fun e w => ∃ v, e = .returned v ∧ (∃ a' cap' N, v = .slice a' (wo splitL splitR x n).length cap' ∧ RowN 34 51 (hsC (wo splitL splitR x n)) (wo splitL splitR x n).length a' cap' N ∧ St w0 [] w N) :=
  wo_spec n hn0 hn1 (17 - x.depth).toNat x (by have := hx.2.1; omega) hx w0

set_option maxHeartbeats 4000000 in
theorem rpunc_spec (a : Option Addr) (cap : Nat) (xs : List Held) (n : Int) (hl : xs.length ≤ 100000) (hv : Valid xs) (hn0 : 0 ≤ n) (hn1 : n < 18446744073709551616) (w0 : World) (hr : HRow w0 a xs) :
    Calls Try.prog 22 #[.slice a xs.length cap, .int .u64 n] w0 fun e w => ∃ v, e = .returned v ∧ (∃ a' cap' N, v = .slice a' (punc splitL splitR xs n).length cap' ∧ RowN 34 51 (hsC (punc splitL splitR xs n)) (punc splitL splitR xs n).length a' cap' N ∧ St w0 [] w N) := by
  have H := St.refl w0
  refine c_enter (args := [.slice a xs.length cap, .int .u64 n]) (l := [.slice a xs.length cap, .int .u64 n, undef, undef, undef, undef, undef, undef, undef, undef, undef, undef, undef, undef, undef, undef, undef, undef, undef, undef, undef, undef]) Try.func22 Try.ntmps22 rfl rfl ?_
  refine c_rseq (n := 22) ⟨rfl, rfl⟩ ?_
  refine s_val (r_assign rfl) ?_
  refine c_nil (l' := [_, _, _, _, _, _, _, _, _, _, _, _, _, _, _, _, _, _, _, _, _, _]) rfl ?_
  refine c_rseq (n := 22) ⟨rfl, rfl⟩ ?_
  refine s_val (r_assign rfl) ?_
  refine c_nil (l' := [_, _, _, _, _, _, _, _, _, _, _, _, _, _, _, _, _, _, _, _, _, _]) rfl ?_
  refine c_seq ?_
  refine c_rseq (n := 22) ⟨rfl, rfl⟩ ?_
  refine s_val (r_assign rfl) ?_
  refine c_nil (l' := [_, _, _, _, _, _, _, _, _, _, _, _, _, _, _, _, _, _, _, _, _, _]) rfl ?_
  refine wp_block ?_
  refine c_loop (fun (l0 : List Value) (i : Nat) (l : List Value) (w : World) => ∃ (u7 u8 u9 u10 u11 u12 u13 u14 u15 u16 u17 u18 u19 u20 : Value) (a' : Option Addr) (cap' : Nat) (N : List (Nat × Obj)), l = ovr l0 [N_, N_, N_, N_, N_, Y_ (.slice a' (punc splitL splitR (xs.take i) n).length cap'), Y_ (.int .i64 i), Y_ u7, Y_ u8, Y_ u9, Y_ u10, Y_ u11, Y_ u12, Y_ u13, Y_ u14, Y_ u15, Y_ u16, Y_ u17, Y_ u18, Y_ u19, Y_ u20] ∧ i ≤ xs.length ∧ RowN 34 51 (hsC (punc splitL splitR (xs.take i) n)) (punc splitL splitR (xs.take i) n).length a' cap' N ∧ St w0 [] w (N)) (fun (i : Nat) => xs.length - i) 0 ⟨_, _, _, _, _, _, _, _, _, _, _, _, _, _, _, _, _, rfl, by omega, RowN.nil, H⟩ ?_
  intro i l w ⟨u7, u8, u9, u10, u11, u12, u13, u14, u15, u16, u17, u18, u19, u20, a', cap', N, hl, hi, hN, H⟩
  obtain rfl := hl.trans (rfl : _ = [_, _, _, _, _, _, _, _, _, _, _, _, _, _, _, _, _, _, _, _, _, _])
  clear hl
  refine c_seq ?_
  refine c_rseq (n := 22) ⟨rfl, rfl⟩ ?_
  refine s_val (r_move rfl) ?_
  refine s_val (r_move rfl) ?_
  refine s_val (r_lens Try.runUnderlying33 (ec rfl en)) ?_
  refine s_val (r_lss rfl rfl) ?_
  refine c_nil (l' := [_, _, _, _, _, _, _, _, _, _, _, _, _, _, _, _, _, _, _, _, _, _]) rfl ?_
  refine c_if rfl (fun h10 => ?_) (fun h10 => ?_)
  · skip
    obtain ⟨bh, off, pre, post, T, fz, rfl, hb, hp⟩ := hr (by omega)
    have hpb := punc_lenb (sl := splitL) (sr := splitR) (n := n) (xs.take i) (fun x hx => (hv.mem (List.mem_of_mem_take hx)).1)
    have hdi := (hv.get (i := i) (by omega)).1
    have htl : (xs.take i).length = i := by rw [List.length_take]; omega
    refine wp_skip ?_
    refine x_thenNormal ?_
    refine c_seq ?_
    refine wp_block ?_
    refine c_region (n := 22) ⟨rfl, rfl⟩ ?_
    refine s_val (r_move rfl) ?_
    refine s_val (r_move rfl) ?_
    refine s_val (r_move rfl) ?_
    refine s_val (r_indexAddrS Try.runUnderlying33 Try.sizeOf51 rfl rfl (by omega) (by omega)) ?_
    refine s_val (r_loadn Try.isAgg51 Try.sizeOf51 rfl (H.rd0 hb) (hs_tdn _ _ _ _ i hp (by omega)) (by first | exact (kC_length _) | exact (hC_length _) | exact rfl)) ?_
    refine s_val (r_move rfl) ?_
    refine s_call (r_call Try.call42 (ec rfl (ec rfl en))) (wo_any _ n (hv.get (by omega)) hn0 hn1 _) ?_
    rintro v w ⟨a1, cap1, N1, rfl, hN1, HC⟩
    replace H := H.call0 HC
    refine s_any (m_append_row0 (L1 := N1) (N := N) H hN Try.runUnderlying33 Try.runUnderlying33 (fun _ h => nomatch h) Try.sizeOf51 Try.zeroValue51 rfl Try.typeInfo51 (by rw [bytes51]; omega) (by rw [bytes51]; have := wo_len (sl := splitL) (sr := splitR) (nd xs i) n; omega) (ec rfl (ec rfl en)) ((hN1.hrowM H (fun p hp => List.mem_append_left _ hp)).src _)) ?_
    rintro v w ⟨a', cap', N', rfl, hN', H⟩
    replace H := H.sub (List.sublist_append_right N1 N')
    rw [← hsC_append, ← List.length_append, ← punc_take (by omega)] at hN'
    rw [← List.length_append, ← punc_take (by omega)]
    refine s_val (r_assign rfl) ?_
    refine c_nil0 (l' := [_, _, _, _, _, _, _, _, _, _, _, _, _, _, _, _, _, _, _, _, _, _]) rfl ?_
    refine x_blockNormal ?_
    refine x_thenNormal ?_
    refine c_region (n := 22) ⟨rfl, rfl⟩ ?_
    refine s_val (r_move rfl) ?_
    refine s_val (r_add rfl rfl (w_i64 (by omega) (by omega))) ?_
    refine s_val (r_assign rfl) ?_
    refine c_nil0 (l' := [_, _, _, _, _, _, _, _, _, _, _, _, _, _, _, _, _, _, _, _, _, _]) rfl ?_
    exact ⟨i + 1, _, rfl, ⟨_, _, _, _, _, _, _, _, _, _, _, _, _, _, _, _, _, rfl, by omega, hN', H⟩, by omega⟩
  · skip
    obtain rfl : i = xs.length := by omega
    rw [List.take_length] at hN
    refine wp_exit (x_thenExit (x_thenExit (x_blockHit ?_)))
    refine x_thenNormal ?_
    refine c_rseq (n := 22) ⟨rfl, rfl⟩ ?_
    refine s_val (r_move rfl) ?_
    refine s_val (r_assign rfl) ?_
    refine c_nil (l' := [_, _, _, _, _, _, _, _, _, _, _, _, _, _, _, _, _, _, _, _, _, _]) rfl ?_
    refine wp_ret ?_
    refine e_ret (res1 rfl rfl) ⟨_, rfl, ?_⟩
    rw [List.take_length]
    exact ⟨_, _, _, rfl, hN, H⟩

end Go.Proofs.Ytblphhclfloodaa
