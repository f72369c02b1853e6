import Derived.Test.YtblphhclfloodaaU6
import Derived.Test.YtblphhclfloodaaT0
namespace Go.Proofs.Ytblphhclfloodaa
open Go Go.Er
set_option linter.unusedSimpArgs false in
theorem places68 : Places Try.prog #[⟨ "c", 66, 0, false, "", "erewhile/keytree", 0⟩, ⟨ "held", 35, 1, false, "", "erewhile/keytree", 16⟩] [(0, 1), (1, 1)] := fun w => by simp [Try.sizeOf35 w, Try.sizeOf66 w]

set_option maxHeartbeats 4000000 in
theorem new_spec (ci : Value) (k : Key) (sl sr : Key → Key) (hci : SplitsBy Try.prog ci sl sr) (w0 : World) :
    Calls Try.prog 13 #[ci, .agg (kC k).toArray] w0 fun e w => ∃ v, e = .returned v ∧ (∃ bt N, v = .pointer (some ⟨bt, 0, none⟩) ∧ TreeN 68 41 bt ci [root k] N ∧ St w0 [] w N) := by
  have H := St.refl w0
  refine c_enter (args := [ci, .agg (kC k).toArray]) (l := [ci, .agg (kC k).toArray, undef, undef, undef, undef, undef, undef, undef, undef, undef, undef, undef]) Try.func13 Try.ntmps13 rfl rfl ?_
  refine c_rseq (n := 13) ⟨rfl, rfl⟩ ?_
  refine s_new (m_box (cs := (kC k)) H rfl rfl) ?_
  intro w b3 H
  refine s_val (r_assign rfl) ?_
  refine c_nil (l' := [_, _, _, _, _, _, _, _, _, _, _, _, _]) rfl ?_
  refine c_seq ?_
  refine c_rseq (n := 13) ⟨rfl, rfl⟩ ?_
  refine s_val (r_move rfl) ?_
  obtain ⟨Tc, vc, fc, rv, rfl, hE, hM, hC'⟩ := hci
  refine s_val (r_nili Try.runUnderlying66 rfl rfl) ?_
  refine c_nil (l' := [_, _, _, _, _, _, _, _, _, _, _, _, _]) rfl ?_
  refine c_iff rfl ?_
  refine wp_skip ?_
  refine x_thenNormal ?_
  refine c_rseq (n := 13) ⟨rfl, rfl⟩ ?_
  refine s_val (r_move rfl) ?_
  refine s_val (r_loadn Try.isAgg23 Try.sizeOf23 rfl (H.at 0 rfl) (by first | exact (kC_td _) | exact (hC_td _) | exact (hC_seed _)) (by first | exact (kC_length _) | exact (hC_length _) | exact rfl)) ?_
  refine s_val (r_buildS Try.runUnderlying41 Try.zeroValue41 places41 (pc rfl pn) (hfill1 _)) ?_
  refine s_new (m_bslice1 H Try.runUnderlying35 Try.sizeOf41 Try.zeroValue41 (by omega) (by omega) rfl rfl (hC_length _)) ?_
  intro w b10 H
  refine s_val (r_buildS Try.runUnderlying68 Try.zeroValue68 places68 (pc rfl (pc rfl pn)) rfl) ?_
  refine s_new (m_box (cs := [.iface Tc vc, .slice (some ⟨b10, 0, none⟩) 1 1]) H rfl rfl) ?_
  intro w b12 H
  refine s_val (r_assign rfl) ?_
  refine c_nil (l' := [_, _, _, _, _, _, _, _, _, _, _, _, _]) rfl ?_
  refine wp_ret ?_
  refine e_ret (res1 rfl rfl) ⟨_, rfl, ?_⟩
  refine ⟨b12, [_, _], rfl, ⟨_, 1, [(b10, _)], rfl, ?_⟩, H.sub (.cons_cons _ (.cons_cons _ (.cons _ .slnil)))⟩
  exact ⟨by rw [hsC_length]; rfl, Nat.le_refl _, .inr ⟨b10, [], rfl, by rw [List.append_nil, hsC_length]; exact Nat.le_refl _, by rw [List.append_nil]; simp [hsC, root]⟩⟩

set_option maxHeartbeats 4000000 in
theorem held_spec (bt : Nat) (ci : Value) (xs : List Held) (N : List (Nat × Obj)) (hl : xs.length ≤ 100000) (_hv : Valid xs) (w0 : World) (hT : TreeN 68 41 bt ci xs N) (hown : Go.Er.Own w0 N) :
    Calls Try.prog 17 #[.pointer (some ⟨bt, 0, none⟩)] w0 fun e w => ∃ v, e = .returned v ∧ (∃ a' cap' N', v = .slice a' xs.length cap' ∧ RowN 34 41 (hsC xs) xs.length a' cap' N' ∧ St w0 [] w N') := by
  obtain ⟨a, cap, hbt, hr⟩ := hT.rd hown
  have H := St.refl w0
  refine c_enter (args := [.pointer (some ⟨bt, 0, none⟩)]) (l := [.pointer (some ⟨bt, 0, none⟩), undef, undef, undef, undef, undef, undef, undef, undef, undef]) Try.func17 Try.ntmps17 rfl rfl ?_
  refine c_rseq (n := 10) ⟨rfl, rfl⟩ ?_
  refine s_val (r_assign rfl) ?_
  refine c_nil (l' := [_, _, _, _, _, _, _, _, _, _]) rfl ?_
  refine c_seq ?_
  refine c_rseq (n := 10) ⟨rfl, rfl⟩ ?_
  refine s_val (r_move rfl) ?_
  refine s_val (r_nilpF Try.runUnderlying26 rfl rfl) ?_
  refine c_nil (l' := [_, _, _, _, _, _, _, _, _, _]) rfl ?_
  refine c_iff rfl ?_
  refine wp_skip ?_
  refine x_thenNormal ?_
  refine c_rseq (n := 10) ⟨rfl, rfl⟩ ?_
  refine s_val (r_move rfl) ?_
  refine s_val (r_nilCheck rfl) ?_
  refine s_val (r_fieldAddr (k := 1) Try.runUnderlying68 rfl Try.sizeOf35 (by decide) rfl rfl) ?_
  refine s_val (r_load1 Try.isAgg35 rfl (H.rd0 hbt) rfl) ?_
  refine s_call (r_call Try.call36 (ec rfl en)) (clone_spec _ _ xs (by omega) _ (hr.st H)) ?_
  rintro v w ⟨a2, cap2, N2, rfl, hN2, HC⟩
  replace H := H.call0 HC
  refine s_val (r_assign rfl) ?_
  refine c_nil (l' := [_, _, _, _, _, _, _, _, _, _]) rfl ?_
  refine wp_ret ?_
  refine e_ret (res1 rfl rfl) ⟨_, rfl, ?_⟩
  refine ⟨_, _, _, rfl, hN2, ?_⟩
  rw [List.append_nil] at H
  exact H

set_option maxHeartbeats 4000000 in
theorem count_spec (bt : Nat) (ci : Value) (xs : List Held) (N : List (Nat × Obj)) (hl : xs.length ≤ 100000) (hv : Valid xs) (w0 : World) (hT : TreeN 68 41 bt ci xs N) (hown : Go.Er.Own w0 N) :
    Calls Try.prog 18 #[.pointer (some ⟨bt, 0, none⟩)] w0 fun e w => ∃ v, e = .returned v ∧ (v = .int .i64 (cnt xs) ∧ St w0 [] w []) := by
  obtain ⟨a, cap, hbt, hr⟩ := hT.rd hown
  have H := St.refl w0
  refine c_enter (args := [.pointer (some ⟨bt, 0, none⟩)]) (l := [.pointer (some ⟨bt, 0, none⟩), undef, undef, undef, undef, undef, undef, undef, undef, undef, undef, undef, undef, undef, undef, undef, undef, undef, undef, undef, undef, undef, undef, undef, undef]) Try.func18 Try.ntmps18 rfl rfl ?_
  refine c_rseq (n := 25) ⟨rfl, rfl⟩ ?_
  refine s_val (r_assign rfl) ?_
  refine c_nil (l' := [_, _, _, _, _, _, _, _, _, _, _, _, _, _, _, _, _, _, _, _, _, _, _, _, _]) rfl ?_
  refine c_seq ?_
  refine c_rseq (n := 25) ⟨rfl, rfl⟩ ?_
  refine s_val (r_move rfl) ?_
  refine s_val (r_nilpF Try.runUnderlying26 rfl rfl) ?_
  refine c_nil (l' := [_, _, _, _, _, _, _, _, _, _, _, _, _, _, _, _, _, _, _, _, _, _, _, _, _]) rfl ?_
  refine c_iff rfl ?_
  refine wp_skip ?_
  refine x_thenNormal ?_
  refine c_rseq (n := 25) ⟨rfl, rfl⟩ ?_
  refine s_val (r_assign rfl) ?_
  refine c_nil (l' := [_, _, _, _, _, _, _, _, _, _, _, _, _, _, _, _, _, _, _, _, _, _, _, _, _]) rfl ?_
  refine c_seq ?_
  refine c_rseq (n := 25) ⟨rfl, rfl⟩ ?_
  refine s_val (r_move rfl) ?_
  refine s_val (r_nilCheck rfl) ?_
  refine s_val (r_fieldAddr (k := 1) Try.runUnderlying68 rfl Try.sizeOf35 (by decide) rfl rfl) ?_
  refine s_val (r_load1 Try.isAgg35 rfl (H.rd0 hbt) (by first | exact rfl | exact (hC_00 _) | exact (hC_0 _))) ?_
  refine s_val (r_lens Try.runUnderlying35 (ec rfl en)) ?_
  refine s_val (r_move rfl) ?_
  refine c_nil (l' := [_, _, _, _, _, _, _, _, _, _, _, _, _, _, _, _, _, _, _, _, _, _, _, _, _]) rfl ?_
  refine wp_block ?_
  refine c_loop (fun (l0 : List Value) (k : Nat) (l : List Value) (w : World) => ∃ (u5 u14 u15 u16 u17 u18 u19 u20 u21 u22 u23 : Value) , l = ovr l0 [N_, N_, N_, Y_ (.int .i64 (cnt (xs.take k))), N_, Y_ u5, N_, N_, N_, N_, N_, N_, N_, Y_ (.int .i64 k), Y_ u14, Y_ u15, Y_ u16, Y_ u17, Y_ u18, Y_ u19, Y_ u20, Y_ u21, Y_ u22, Y_ u23] ∧ k ≤ xs.length ∧ St w0 [] w []) (fun (k : Nat) => xs.length - k) 0 ⟨_, _, _, _, _, _, _, _, _, _, _, rfl, by omega, H⟩ ?_
  intro k l w ⟨u5, u14, u15, u16, u17, u18, u19, u20, u21, u22, u23, hl, hk, H⟩
  obtain rfl := hl.trans (rfl : _ = [_, _, _, _, _, _, _, _, _, _, _, _, _, _, _, _, _, _, _, _, _, _, _, _, _])
  clear hl
  have hcb := cnt_takeb hv k
  refine c_rseq (n := 25) ⟨rfl, rfl⟩ ?_
  refine s_val (r_lss rfl rfl) ?_
  refine c_nil (l' := [_, _, _, _, _, _, _, _, _, _, _, _, _, _, _, _, _, _, _, _, _, _, _, _, _]) rfl ?_
  refine c_seq ?_
  refine c_if rfl (fun h14 => ?_) (fun h14 => ?_)
  · skip
    obtain ⟨bh, off, pre, post, T, fz, rfl, hb, hp⟩ := hr (by omega)
    obtain ⟨hd0, hd1, ha0, ha2, ha1⟩ := hv.get (i := k) (by omega)
    have hmp := many_pos (nd xs k).depth
    have hml := many_le hd0
    refine wp_skip ?_
    refine x_thenNormal ?_
    refine c_seq ?_
    refine wp_block ?_
    refine c_rseq (n := 25) ⟨rfl, rfl⟩ ?_
    refine s_val (r_indexAddrS Try.runUnderlying35 Try.sizeOf41 rfl rfl (by omega) (by omega)) ?_
    refine s_val (r_loadn Try.isAgg41 Try.sizeOf41 rfl (H.rd0 hb) (hs_tdn _ _ _ _ k hp (by omega)) (by first | exact (kC_length _) | exact (hC_length _) | exact rfl)) ?_
    refine s_new (m_alloc (cs := (hC Held.zero)) H Try.zeroValue41 rfl) ?_
    intro w b5 H
    refine s_st (m_storen H 0 34 Try.sizeOf41 rfl rfl (by first | exact (kC_length _) | exact (hC_length _)) (by first | exact (kC_one _) | exact (hC_one _)) rfl (by first | exact (by rw [kC_length]; omega) | exact (by rw [hC_length]; omega)) (by first | exact (kC_sp _ _) | exact (hC_sp _ _))) (L' := [_]) rfl ?_
    intro w H
    refine c_nil (l' := [_, _, _, _, _, _, _, _, _, _, _, _, _, _, _, _, _, _, _, _, _, _, _, _, _]) rfl ?_
    refine c_region (n := 25) ⟨rfl, rfl⟩ ?_
    refine s_val (r_move rfl) ?_
    refine s_val (r_fieldAddr (k := 0) Try.runUnderlying41 rfl Try.sizeOf3 (by decide) rfl rfl) ?_
    refine s_val (r_load1 Try.isAgg3 rfl (H.at 0 rfl) (by first | exact rfl | exact (hC_00 _) | exact (hC_0 _))) ?_
    refine s_call (r_call Try.call37 (ec rfl en)) (many_spec _ (by omega) (by omega) _) ?_
    rintro v w ⟨rfl, HC⟩
    replace H := H.quiet HC
    refine s_val (r_conv Try.runUnderlying31 Try.runUnderlying3 rfl (w_i64 (by omega) (by omega))) ?_
    refine s_val (r_add rfl rfl (w_i64e (r := cnt (xs.take (k + 1))) (cnt_take (by omega)).symm (by omega) (by omega))) ?_
    refine s_val (r_assign rfl) ?_
    refine c_nil0 (l' := [_, _, _, _, _, _, _, _, _, _, _, _, _, _, _, _, _, _, _, _, _, _, _, _, _]) rfl ?_
    refine x_blockNormal ?_
    refine x_thenNormal ?_
    refine c_region (n := 25) ⟨rfl, rfl⟩ ?_
    refine s_val (r_add rfl rfl (w_i64 (by omega) (by omega))) ?_
    refine s_val (r_move rfl) ?_
    refine c_nil0 (l' := [_, _, _, _, _, _, _, _, _, _, _, _, _, _, _, _, _, _, _, _, _, _, _, _, _]) rfl ?_
    replace H := H.sub (.cons _ .slnil)
    exact ⟨k + 1, _, rfl, ⟨_, _, _, _, _, _, _, _, _, _, _, rfl, by omega, H⟩, by omega⟩
  · skip
    obtain rfl : k = xs.length := by omega
    rw [List.take_length]
    refine wp_exit (x_thenExit (x_thenExit (x_blockHit ?_)))
    refine x_thenNormal ?_
    refine c_rseq (n := 25) ⟨rfl, rfl⟩ ?_
    refine s_val (r_move rfl) ?_
    refine s_val (r_assign rfl) ?_
    refine c_nil (l' := [_, _, _, _, _, _, _, _, _, _, _, _, _, _, _, _, _, _, _, _, _, _, _, _, _]) rfl ?_
    refine wp_ret ?_
    refine e_ret (res1 rfl rfl) ⟨_, rfl, ?_⟩
    exact ⟨rfl, H⟩

set_option maxHeartbeats 4000000 in
theorem has_spec (bt : Nat) (ci : Value) (xs : List Held) (N : List (Nat × Obj)) (hl : xs.length ≤ 100000) (hv : Valid xs) (n : Int) (hn0 : 0 ≤ n) (w0 : World) (hT : TreeN 68 41 bt ci xs N) (hown : Go.Er.Own w0 N) :
    Calls Try.prog 23 #[.pointer (some ⟨bt, 0, none⟩), .int .u64 n] w0 fun e w => ∃ v, e = .returned v ∧ (v = .bool (decide (∃ x ∈ xs, InN x n)) ∧ St w0 [] w []) := by
  obtain ⟨a, cap, hbt, hr⟩ := hT.rd hown
  have H := St.refl w0
  refine c_enter (args := [.pointer (some ⟨bt, 0, none⟩), .int .u64 n]) (l := [.pointer (some ⟨bt, 0, none⟩), .int .u64 n, undef, undef, undef, undef, undef, undef, undef, undef, undef, undef, undef, undef]) Try.func23 Try.ntmps23 rfl rfl ?_
  refine c_rseq (n := 14) ⟨rfl, rfl⟩ ?_
  refine s_val (r_assign rfl) ?_
  refine c_nil (l' := [_, _, _, _, _, _, _, _, _, _, _, _, _, _]) rfl ?_
  refine c_rseq (n := 14) ⟨rfl, rfl⟩ ?_
  refine s_val (r_move rfl) ?_
  refine s_val (r_move rfl) ?_
  refine s_call (r_call Try.call28 (ec rfl (ec rfl en))) (find_spec _ _ _ _ _ _ xs (by omega) hv n hn0 _ (H.rd0 hbt) (hr.st H)) ?_
  rintro v w ⟨i, ok, (⟨rfl, hi, hin⟩ | ⟨rfl, rfl, hno⟩), rfl, HC⟩
  · skip
    replace H := H.quiet HC
    refine s_val (r_move rfl) ?_
    refine s_val (r_extract rfl rfl) ?_
    refine s_val (r_extract rfl rfl) ?_
    refine s_val (r_assign rfl) ?_
    refine s_val (r_assign rfl) ?_
    refine c_nil (l' := [_, _, _, _, _, _, _, _, _, _, _, _, _, _]) rfl ?_
    refine c_rseq (n := 14) ⟨rfl, rfl⟩ ?_
    refine s_val (r_move rfl) ?_
    refine s_val (r_assign rfl) ?_
    refine c_nil (l' := [_, _, _, _, _, _, _, _, _, _, _, _, _, _]) rfl ?_
    refine wp_ret ?_
    refine e_ret (res1 rfl rfl) ⟨_, rfl, ?_⟩
    exact ⟨by rw [decide_eq_true (has_of hi hin)], H⟩
  · skip
    replace H := H.quiet HC
    refine s_val (r_move rfl) ?_
    refine s_val (r_extract rfl rfl) ?_
    refine s_val (r_extract rfl rfl) ?_
    refine s_val (r_assign rfl) ?_
    refine s_val (r_assign rfl) ?_
    refine c_nil (l' := [_, _, _, _, _, _, _, _, _, _, _, _, _, _]) rfl ?_
    refine c_rseq (n := 14) ⟨rfl, rfl⟩ ?_
    refine s_val (r_move rfl) ?_
    refine s_val (r_assign rfl) ?_
    refine c_nil (l' := [_, _, _, _, _, _, _, _, _, _, _, _, _, _]) rfl ?_
    refine wp_ret ?_
    refine e_ret (res1 rfl rfl) ⟨_, rfl, ?_⟩
    exact ⟨by rw [decide_eq_false (not_has hno)], H⟩

theorem takes_key : Takes Try.prog 38 [] (fun _ N => N = []) := by
  refine ⟨Try.call38, ?_⟩
  rintro acc x N w0 rfl hown hl
  refine (key1_spec x w0).mono ?_
  rintro e w ⟨v, rfl, _, hS⟩
  exact ⟨v, rfl, [], rfl, hS⟩

set_option maxHeartbeats 4000000 in
theorem key_spec (bt : Nat) (ci : Value) (xs : List Held) (N : List (Nat × Obj)) (hl : xs.length ≤ 100000) (hv : Valid xs) (n : Int) (hn0 : 0 ≤ n) (sl sr : Key → Key) (hci : SplitsBy Try.prog ci sl sr) (w0 : World) (hT : TreeN 68 41 bt ci xs N) (hown : Go.Er.Own w0 N) :
    Calls Try.prog 19 #[.pointer (some ⟨bt, 0, none⟩), .int .u64 n] w0 fun e w => ∃ v, e = .returned v ∧ (∃ k ok, KeyR sl sr xs n k ok ∧ v = .tuple #[.agg (kC k).toArray, .bool ok] ∧ St w0 [] w []) := by
  obtain ⟨a, cap, hbt, hr⟩ := hT.rd hown
  have H := St.refl w0
  refine c_enter (args := [.pointer (some ⟨bt, 0, none⟩), .int .u64 n]) (l := [.pointer (some ⟨bt, 0, none⟩), .int .u64 n, undef, undef, undef, undef, undef, undef, undef, undef, undef, undef, undef, undef, undef, undef, undef, undef, undef, undef, undef, undef, undef, undef, undef, undef, undef]) Try.func19 Try.ntmps19 rfl rfl ?_
  refine c_rseq (n := 27) ⟨rfl, rfl⟩ ?_
  refine s_new (m_alloc (cs := (kC (By.zero 32))) H Try.zeroValue23 rfl) ?_
  intro w b4 H
  refine s_val (r_assign rfl) ?_
  refine c_nil (l' := [_, _, _, _, _, _, _, _, _, _, _, _, _, _, _, _, _, _, _, _, _, _, _, _, _, _, _]) rfl ?_
  refine c_rseq (n := 27) ⟨rfl, rfl⟩ ?_
  refine s_val (r_move rfl) ?_
  refine s_val (r_move rfl) ?_
  refine s_call (r_call Try.call28 (ec rfl (ec rfl en))) (find_spec _ _ _ _ _ _ xs (by omega) hv n hn0 _ (H.rd0 hbt) (hr.st H)) ?_
  rintro v w ⟨i, ok, (⟨rfl, hi, hin⟩ | ⟨rfl, rfl, hno⟩), rfl, HC⟩
  · skip
    replace H := H.quiet HC
    obtain ⟨bh, off, pre, post, T, fz, rfl, hb, hp⟩ := hr (by omega)
    have hk := hv.get hi
    have hke := hk.end_le
    obtain ⟨hd0, hd1, ha0, ha2, ha1⟩ := hk
    refine s_val (r_move rfl) ?_
    refine s_val (r_extract rfl rfl) ?_
    refine s_val (r_extract rfl rfl) ?_
    refine s_val (r_assign rfl) ?_
    refine s_val (r_assign rfl) ?_
    refine c_nil (l' := [_, _, _, _, _, _, _, _, _, _, _, _, _, _, _, _, _, _, _, _, _, _, _, _, _, _, _]) rfl ?_
    refine c_seq ?_
    refine c_rseq (n := 27) ⟨rfl, rfl⟩ ?_
    refine s_val (r_move rfl) ?_
    refine s_val (r_not rfl) ?_
    refine c_nil (l' := [_, _, _, _, _, _, _, _, _, _, _, _, _, _, _, _, _, _, _, _, _, _, _, _, _, _, _]) rfl ?_
    refine c_iff rfl ?_
    refine wp_skip ?_
    refine x_thenNormal ?_
    refine c_rseq (n := 27) ⟨rfl, rfl⟩ ?_
    refine s_val (r_move rfl) ?_
    refine s_val (r_move rfl) ?_
    refine s_val (r_nilCheck rfl) ?_
    refine s_val (r_fieldAddr (k := 1) Try.runUnderlying68 rfl Try.sizeOf35 (by decide) rfl rfl) ?_
    refine s_val (r_load1 Try.isAgg35 rfl (H.rd0 hbt) rfl) ?_
    refine s_val (r_move rfl) ?_
    refine s_val (r_indexAddrS Try.runUnderlying35 Try.sizeOf41 rfl rfl (by omega) (by omega)) ?_
    refine s_val (r_loadn Try.isAgg41 Try.sizeOf41 rfl (H.rd0 hb) (hs_tdn _ _ _ _ i hp (by omega)) (by first | exact (kC_length _) | exact (hC_length _) | exact rfl)) ?_
    refine s_val (r_move rfl) ?_
    refine s_call (r_call Try.call29 (ec rfl (ec rfl (ec rfl (ec rfl en))))) (down_spec bt ci _ _ _ (nd xs i) n _ _ _ [] sl sr hci takes_key hd0 hd1 ha0 hke _ (H.rd0 hbt) rfl St.ownNil (by simp)) ?_
    rintro v w ⟨N2, rfl, rfl, HC⟩
    replace H := H.quiet HC
    refine s_st (m_storen H 0 32 Try.sizeOf23 rfl rfl (by first | exact (kC_length _) | exact (hC_length _)) (by first | exact (kC_one _) | exact (hC_one _)) rfl (by first | exact (by rw [kC_length]; omega) | exact (by rw [hC_length]; omega)) (by first | exact (kC_sp _ _) | exact (hC_sp _ _))) (L' := [_]) rfl ?_
    intro w H
    refine s_val (r_assign rfl) ?_
    refine c_nil (l' := [_, _, _, _, _, _, _, _, _, _, _, _, _, _, _, _, _, _, _, _, _, _, _, _, _, _, _]) rfl ?_
    refine wp_ret ?_
    refine e_ret (rc_two rfl (rc_celln Try.isAgg23 Try.sizeOf23 rfl (H.at 0 rfl) (by first | exact (kC_td _) | exact (hC_td _) | exact (hC_seed _)) (by first | exact (kC_length _) | exact (hC_length _))) (rc_tmp rfl)) ⟨_, rfl, ?_⟩
    exact ⟨_, true, .inl ⟨rfl, _, by rw [← nd_eq hi]; exact List.getElem_mem hi, hin, rfl⟩, rfl, H.sub (.cons _ .slnil)⟩
  · skip
    replace H := H.quiet HC
    refine s_val (r_move rfl) ?_
    refine s_val (r_extract rfl rfl) ?_
    refine s_val (r_extract rfl rfl) ?_
    refine s_val (r_assign rfl) ?_
    refine s_val (r_assign rfl) ?_
    refine c_nil (l' := [_, _, _, _, _, _, _, _, _, _, _, _, _, _, _, _, _, _, _, _, _, _, _, _, _, _, _]) rfl ?_
    refine c_seq ?_
    refine c_rseq (n := 27) ⟨rfl, rfl⟩ ?_
    refine s_val (r_move rfl) ?_
    refine s_val (r_not rfl) ?_
    refine c_nil (l' := [_, _, _, _, _, _, _, _, _, _, _, _, _, _, _, _, _, _, _, _, _, _, _, _, _, _, _]) rfl ?_
    refine c_ift rfl ?_
    refine c_rseq (n := 27) ⟨rfl, rfl⟩ ?_
    refine s_val (r_buildA (pl := []) (zs := kC (By.zero 32)) (out := kC (By.zero 32)) Try.runUnderlying23 Try.sizeOf5 Try.zeroValue23 pn (by intro p hp; simp at hp) rfl) ?_
    refine s_st (m_storen H 0 32 Try.sizeOf23 rfl rfl (by first | exact (kC_length _) | exact (hC_length _)) (by first | exact (kC_one _) | exact (hC_one _)) rfl (by first | exact (by rw [kC_length]; omega) | exact (by rw [hC_length]; omega)) (by first | exact (kC_sp _ _) | exact (hC_sp _ _))) (L' := [_]) rfl ?_
    intro w H
    refine s_val (r_assign rfl) ?_
    refine c_nil (l' := [_, _, _, _, _, _, _, _, _, _, _, _, _, _, _, _, _, _, _, _, _, _, _, _, _, _, _]) rfl ?_
    refine wp_ret (x_thenRet ?_)
    refine e_ret (rc_two rfl (rc_celln Try.isAgg23 Try.sizeOf23 rfl (H.at 0 rfl) (by first | exact (kC_td _) | exact (hC_td _) | exact (hC_seed _)) (by first | exact (kC_length _) | exact (hC_length _))) (rc_tmp rfl)) ⟨_, rfl, ?_⟩
    exact ⟨By.zero 32, false, .inr ⟨rfl, rfl, not_has hno⟩, rfl, H.sub (.cons _ .slnil)⟩

theorem punc_t (bt : Nat) (ci : Value) (xs : List Held) (n : Int) (N : List (Nat × Obj)) (sl sr : Key → Key) (hci : SplitsBy Try.prog ci sl sr) (hl : xs.length ≤ 100000) (hv : Valid xs) (hn0 : 0 ≤ n) (hn1 : n < 18446744073709551616) (w0 : World) (hT : TreeN 68 41 bt ci xs N) (hown : Go.Er.Own w0 N) :
    Calls Try.prog 14 #[.pointer (some ⟨bt, 0, none⟩), .int .u64 n] w0 fun e w => ∃ v, e = .returned v ∧ v = .bool (decide (∃ x ∈ xs, InN x n)) ∧ ∃ N', TreeN 68 41 bt ci (punc sl sr xs n) N' ∧ St w0 (N.map (·.1)) w N' := by
  obtain ⟨a, cap, N1, rfl, hN⟩ := hT
  refine (punc_spec bt cap ci a xs n N1 sl sr hci hl hv hn0 hn1 hN w0 hown).mono ?_
  rintro e w ⟨v, rfl, rfl, a', cap', N', hN', hS⟩
  exact ⟨_, rfl, rfl, _, ⟨a', cap', N', rfl, hN'⟩, hS⟩

end Go.Proofs.Ytblphhclfloodaa
