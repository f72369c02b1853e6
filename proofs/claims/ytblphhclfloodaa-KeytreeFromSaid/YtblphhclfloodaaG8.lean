import Derived.Test.YtblphhclfloodaaG2
import Derived.Test.YtblphhclfloodaaT1
namespace Go.Proofs.Ytblphhclfloodaa
open Go Go.Er

theorem hC_spk (h : Held) (k : Key) : splice (hC h) (0 + 2) (kC k) = hC ⟨h.depth, h.at_, k⟩ := by
  have hl : (kC k).length = 32 := kC_length k
  unfold splice
  rw [hl]
  show [Value.int .i64 h.depth, .int .u64 h.at_] ++ kC k ++ (kC h.seed).drop 32 = _
  rw [List.drop_of_length_le (by rw [kC_length]; omega), List.append_nil]; rfl
/-- a node on the way to a leaf -/
structure WayK (x : Held) (n : Int) (k : Nat) (y : Held) : Prop where
  depth : y.depth = 17 - (k : Int)
  d0 : 0 ≤ y.depth
  at0 : 0 ≤ y.at_
  at1 : y.at_ + many y.depth ≤ 131072
  hin : InN y n
  keq : leafK splitL splitR y n = leafK splitL splitR x n
theorem WayK.start {x : Held} {n : Int} (hx : okN x) (hin : InN x n) : WayK x n (17 - x.depth).toNat x := ⟨by have := hx.2.1; omega, hx.1, hx.2.2.1, hx.end_le, hin, rfl⟩
theorem WayK.right {x y : Held} {n : Int} {k : Nat} (w : WayK x n (k + 1) y) (h : y.at_ + many (y.depth + 1) ≤ n) : WayK x n k (kidR splitR y) := by
  obtain ⟨w1, w2, w3, w4, w5, w6⟩ := w
  have h2 := many_succ (n := y.depth) (by omega)
  have hp := many_pos (y.depth + 1)
  refine ⟨by show y.depth + 1 = _; omega, by show 0 ≤ y.depth + 1; omega, by show 0 ≤ y.at_ + many (y.depth + 1); omega, by show y.at_ + many (y.depth + 1) + many (y.depth + 1) ≤ _; omega, ?_, ?_⟩
  · unfold InN at *; show y.at_ + many (y.depth + 1) ≤ n ∧ n < y.at_ + many (y.depth + 1) + many (y.depth + 1); omega
  · rw [← w6, leafK_step (k := k) (h := y) w1, if_pos (by show y.at_ + many (y.depth + 1) ≤ n; omega)]
theorem WayK.left {x y : Held} {n : Int} {k : Nat} (w : WayK x n (k + 1) y) (h : ¬ y.at_ + many (y.depth + 1) ≤ n) : WayK x n k (kidL splitL y) := by
  obtain ⟨w1, w2, w3, w4, w5, w6⟩ := w
  have h2 := many_succ (n := y.depth) (by omega)
  have hp := many_pos (y.depth + 1)
  refine ⟨by show y.depth + 1 = _; omega, by show 0 ≤ y.depth + 1; omega, w3, by show y.at_ + many (y.depth + 1) ≤ _; omega, ?_, ?_⟩
  · unfold InN at *; show y.at_ ≤ n ∧ n < y.at_ + many (y.depth + 1); omega
  · rw [← w6, leafK_step (k := k) (h := y) w1, if_neg (by show ¬ y.at_ + many (y.depth + 1) ≤ n; omega)]
theorem WayK.key {x y : Held} {n : Int} (w : WayK x n 0 y) : y.seed = leafK splitL splitR x n := by
  rw [← w.keq, leafK_last (by have := w.depth; omega)]

set_option maxHeartbeats 4000000 in
theorem in_spec (x : Held) (n : Int) (hx : okN x) (hn0 : 0 ≤ n) (hn1 : n < 18446744073709551616) (w0 : World) :
    Calls Try.prog 40 #[.agg (hC x).toArray, .int .u64 n] w0 fun e w => ∃ v, e = .returned v ∧ (v = .bool (decide (InN x n)) ∧ St w0 [] w []) := by
  have H := St.refl w0
  obtain ⟨hd0, hd1, ha0, ha2, ha1⟩ := hx
  refine c_enter (args := [.agg (hC x).toArray, .int .u64 n]) (l := [.agg (hC x).toArray, .int .u64 n, undef, undef, undef, undef, undef, undef, undef, undef, undef, undef, undef, undef, undef, undef, undef, undef, undef]) Try.func40 Try.ntmps40 rfl rfl ?_
  refine c_rseq (n := 19) ⟨rfl, rfl⟩ ?_
  refine s_new (m_box (cs := (hC x)) H rfl rfl) ?_
  intro w b2 H
  refine s_val (r_assign rfl) ?_
  refine c_nil (l' := [_, _, _, _, _, _, _, _, _, _, _, _, _, _, _, _, _, _, _]) rfl ?_
  refine c_seq ?_
  refine d_begin (sz := 19) ⟨rfl, rfl⟩ (by kernel_rfl) H (H) rfl ?_
  intro w H
  refine d_take (i := 0) rfl (by kernel_rfl) (fun _ _ _ h => h) H (fun _ _ => r_move rfl) rfl ?_
  refine d_take (i := 1) rfl (by kernel_rfl) (fun _ _ _ h => h) H (fun _ _ => r_fieldAddr (k := 1) Try.runUnderlying51 rfl Try.sizeOf31 (by decide) rfl rfl) rfl ?_
  refine d_take (i := 2) rfl (by kernel_rfl) (fun _ _ _ h => h) H (fun _ HS => r_load1 Try.isAgg31 rfl (HS.at 0 rfl) (by first | exact rfl | exact (hC_00 _) | exact (hC_0 _) | exact (hC_1 _))) rfl ?_
  refine d_take (i := 3) rfl (by kernel_rfl) (fun _ _ _ h => h) H (fun _ _ => r_geq rfl rfl) rfl ?_
  refine d_part (fun h8 => ?_) (fun h8 => ?_)
  · skip
    refine d_take (i := 4) rfl (by kernel_rfl) (fun _ _ _ h => h) H (fun _ _ => r_move rfl) rfl ?_
    refine d_takeG (i := 5) rfl (by kernel_rfl) (fun _ _ _ h => h) rfl rfl H (fun _ _ => r_move rfl) rfl ?_
    refine d_takeG (i := 6) rfl (by kernel_rfl) (fun _ _ _ h => h) rfl rfl H (fun _ _ => r_fieldAddr (k := 1) Try.runUnderlying51 rfl Try.sizeOf31 (by decide) rfl rfl) rfl ?_
    refine d_takeG (i := 7) rfl (by kernel_rfl) (fun _ _ _ h => h) rfl rfl H (fun _ HS => r_load1 Try.isAgg31 rfl (HS.at 0 rfl) (by first | exact rfl | exact (hC_00 _) | exact (hC_0 _) | exact (hC_1 _))) rfl ?_
    refine d_takeG (i := 8) rfl (by kernel_rfl) (fun _ _ _ h => h) rfl rfl H (fun _ _ => r_sub rfl rfl (w_u64 (by omega) (by omega))) rfl ?_
    refine d_takeG (i := 9) rfl (by kernel_rfl) (fun _ _ _ h => h) rfl rfl H (fun _ _ => r_fieldAddr (k := 0) Try.runUnderlying51 rfl Try.sizeOf3 (by decide) rfl rfl) rfl ?_
    refine d_takeG (i := 10) rfl (by kernel_rfl) (fun _ _ _ h => h) rfl rfl H (fun _ HS => r_load1 Try.isAgg3 rfl (HS.at 0 rfl) (by first | exact rfl | exact (hC_00 _) | exact (hC_0 _) | exact (hC_1 _))) rfl ?_
    refine d_all1 (i := 11) (by kernel_rfl) ?_
    refine b_call rfl (go_some rfl rfl) (r_call Try.call41 (ec rfl en)) (rmany_spec _ (by omega) (by omega) _) rfl ?_
    rintro v w ⟨rfl, HC⟩
    replace H := H.quiet HC
    refine ⟨H, ?_⟩
    refine d_takeG (i := 12) rfl (by kernel_rfl) (fun _ _ _ h => h) rfl rfl H (fun _ _ => r_lss rfl rfl) rfl ?_
    refine d_take (i := 13) rfl (by kernel_rfl) (fun _ _ _ h => h) H (fun _ _ => r_pickt rfl rfl) rfl ?_
    refine d_take (i := 14) rfl (by kernel_rfl) (fun _ _ _ h => h) H (fun _ _ => r_assign rfl) rfl ?_
    refine d_done (l' := [_, _, _, _, _, _, _, _, _, _, _, _, _, _, _, _, _, _, _]) (by kernel_rfl) rfl ?_
    refine x_thenNormal ?_
    refine wp_ret ?_
    refine e_ret (res1 rfl rfl) ⟨_, rfl, ?_⟩
    exact ⟨congrArg Value.bool (decide_eq_decide.2 (by unfold InN; omega)), H.sub (.cons _ .slnil)⟩
  · skip
    refine d_take (i := 4) rfl (by kernel_rfl) (fun _ _ _ h => h) H (fun _ _ => r_move rfl) rfl ?_
    refine d_takeN (i := 5) rfl (by kernel_rfl) (fun _ _ _ h => h) rfl rfl (by decide) H rfl ?_
    refine d_takeN (i := 6) rfl (by kernel_rfl) (fun _ _ _ h => h) rfl rfl (by decide) H rfl ?_
    refine d_takeN (i := 7) rfl (by kernel_rfl) (fun _ _ _ h => h) rfl rfl (by decide) H rfl ?_
    refine d_takeN (i := 8) rfl (by kernel_rfl) (fun _ _ _ h => h) rfl rfl (by decide) H rfl ?_
    refine d_takeN (i := 9) rfl (by kernel_rfl) (fun _ _ _ h => h) rfl rfl (by decide) H rfl ?_
    refine d_takeN (i := 10) rfl (by kernel_rfl) (fun _ _ _ h => h) rfl rfl (by decide) H rfl ?_
    refine d_takeN (i := 11) rfl (by kernel_rfl) (fun _ _ _ h => h) rfl rfl (by decide) H rfl ?_
    refine d_takeN (i := 12) rfl (by kernel_rfl) (fun _ _ _ h => h) rfl rfl (by decide) H rfl ?_
    refine d_take (i := 13) rfl (by kernel_rfl) (fun _ _ _ h => h) H (fun _ _ => r_pickf rfl rfl) rfl ?_
    refine d_take (i := 14) rfl (by kernel_rfl) (fun _ _ _ h => h) H (fun _ _ => r_assign rfl) rfl ?_
    refine d_done (l' := [_, _, _, _, _, _, _, _, _, _, _, _, _, _, _, _, _, _, _]) (by kernel_rfl) rfl ?_
    refine x_thenNormal ?_
    refine wp_ret ?_
    refine e_ret (res1 rfl rfl) ⟨_, rfl, ?_⟩
    exact ⟨by rw [decide_eq_false (by unfold InN; omega)], H.sub (.cons _ .slnil)⟩

set_option maxHeartbeats 4000000 in
theorem rkey_spec (a : Option Addr) (cap : Nat) (xs : List Held) (n : Int) (hl : xs.length ≤ 1000000) (hv : Valid xs) (hn0 : 0 ≤ n) (hn1 : n < 18446744073709551616) (w0 : World) (hr : HRow w0 a xs) :
    Calls Try.prog 21 #[.slice a xs.length cap, .int .u64 n] w0 fun e w => ∃ v, e = .returned v ∧ (∃ k ok, KeyR splitL splitR xs n k ok ∧ v = .tuple #[.agg (kC k).toArray, .bool ok] ∧ St w0 [] w []) := by
  have H := St.refl w0
  refine c_enter (args := [.slice a xs.length cap, .int .u64 n]) (l := [.slice a xs.length cap, .int .u64 n, undef, undef, undef, undef, undef, undef, undef, undef, undef, undef, undef, undef, undef, undef, undef, undef, undef, undef, undef, undef, undef, undef, undef, undef, undef, undef, undef, undef, undef, undef, undef, undef, undef, undef, undef, undef, undef, undef, undef, undef, undef, undef, undef, undef, undef, undef, undef, undef, undef, undef, undef, undef, undef, undef, undef, undef, undef, undef, undef, undef]) Try.func21 Try.ntmps21 rfl rfl ?_
  refine c_rseq (n := 62) ⟨rfl, rfl⟩ ?_
  refine s_new (m_alloc (cs := (kC (By.zero 32))) H Try.zeroValue22 rfl) ?_
  intro w b4 H
  refine s_val (r_assign rfl) ?_
  refine c_nil (l' := [_, _, _, _, _, _, _, _, _, _, _, _, _, _, _, _, _, _, _, _, _, _, _, _, _, _, _, _, _, _, _, _, _, _, _, _, _, _, _, _, _, _, _, _, _, _, _, _, _, _, _, _, _, _, _, _, _, _, _, _, _, _]) rfl ?_
  refine c_seq ?_
  refine c_rseq (n := 62) ⟨rfl, rfl⟩ ?_
  refine s_val (r_assign rfl) ?_
  refine c_nil (l' := [_, _, _, _, _, _, _, _, _, _, _, _, _, _, _, _, _, _, _, _, _, _, _, _, _, _, _, _, _, _, _, _, _, _, _, _, _, _, _, _, _, _, _, _, _, _, _, _, _, _, _, _, _, _, _, _, _, _, _, _, _, _]) rfl ?_
  refine wp_block ?_
  refine c_loop (fun (l0 : List Value) (i : Nat) (l : List Value) (w : World) => ∃ (u5 u7 u8 u9 u10 u11 u12 u13 u14 u15 u16 u17 u18 u19 u20 u21 u22 u23 u24 u25 u26 u27 u28 u29 u30 u31 u32 u33 u34 u35 u36 u37 u38 u39 u40 u41 u42 u43 u44 u45 u46 u47 u48 u49 u50 u51 u52 u53 u54 u55 u56 u57 u58 u59 u60 : Value) , l = ovr l0 [N_, N_, N_, N_, N_, Y_ u5, Y_ (.int .i64 i), Y_ u7, Y_ u8, Y_ u9, Y_ u10, Y_ u11, Y_ u12, Y_ u13, Y_ u14, Y_ u15, Y_ u16, Y_ u17, Y_ u18, Y_ u19, Y_ u20, Y_ u21, Y_ u22, Y_ u23, Y_ u24, Y_ u25, Y_ u26, Y_ u27, Y_ u28, Y_ u29, Y_ u30, Y_ u31, Y_ u32, Y_ u33, Y_ u34, Y_ u35, Y_ u36, Y_ u37, Y_ u38, Y_ u39, Y_ u40, Y_ u41, Y_ u42, Y_ u43, Y_ u44, Y_ u45, Y_ u46, Y_ u47, Y_ u48, Y_ u49, Y_ u50, Y_ u51, Y_ u52, Y_ u53, Y_ u54, Y_ u55, Y_ u56, Y_ u57, Y_ u58, Y_ u59, Y_ u60] ∧ i ≤ xs.length ∧ (∀ j, j < i → ¬ InN (nd xs j) n) ∧ St w0 [] w [(b4, .cells (kC (By.zero 32)).toArray 22 (0, 0))]) (fun (i : Nat) => xs.length - i) 0 ⟨_, _, _, _, _, _, _, _, _, _, _, _, _, _, _, _, _, _, _, _, _, _, _, _, _, _, _, _, _, _, _, _, _, _, _, _, _, _, _, _, _, _, _, _, _, _, _, _, _, _, _, _, _, _, _, rfl, by omega, (fun _ h => nomatch h), H⟩ ?_
  intro i l w ⟨u5, u7, u8, u9, u10, u11, u12, u13, u14, u15, u16, u17, u18, u19, u20, u21, u22, u23, u24, u25, u26, u27, u28, u29, u30, u31, u32, u33, u34, u35, u36, u37, u38, u39, u40, u41, u42, u43, u44, u45, u46, u47, u48, u49, u50, u51, u52, u53, u54, u55, u56, u57, u58, u59, u60, hl, hi, hno, H⟩
  obtain rfl := hl.trans (rfl : _ = [_, _, _, _, _, _, _, _, _, _, _, _, _, _, _, _, _, _, _, _, _, _, _, _, _, _, _, _, _, _, _, _, _, _, _, _, _, _, _, _, _, _, _, _, _, _, _, _, _, _, _, _, _, _, _, _, _, _, _, _, _, _])
  clear hl
  
  refine c_seq ?_
  refine c_rseq (n := 62) ⟨rfl, rfl⟩ ?_
  refine s_val (r_move rfl) ?_
  refine s_val (r_move rfl) ?_
  refine s_val (r_lens Try.runUnderlying33 (ec rfl en)) ?_
  refine s_val (r_lss rfl rfl) ?_
  refine c_nil (l' := [_, _, _, _, _, _, _, _, _, _, _, _, _, _, _, _, _, _, _, _, _, _, _, _, _, _, _, _, _, _, _, _, _, _, _, _, _, _, _, _, _, _, _, _, _, _, _, _, _, _, _, _, _, _, _, _, _, _, _, _, _, _]) rfl ?_
  refine c_if rfl (fun h13 => ?_) (fun h13 => ?_)
  · skip
    obtain ⟨bh, off, pre, post, T, fz, rfl, hb, hp⟩ := hr (by omega)
    refine wp_skip ?_
    refine x_thenNormal ?_
    refine c_seq ?_
    refine wp_block ?_
    refine c_seq ?_
    refine c_rseq (n := 62) ⟨rfl, rfl⟩ ?_
    refine s_val (r_move rfl) ?_
    refine s_val (r_move rfl) ?_
    refine s_val (r_indexAddrS Try.runUnderlying33 Try.sizeOf51 rfl rfl (by omega) (by omega)) ?_
    refine s_val (r_loadn Try.isAgg51 Try.sizeOf51 rfl (H.rd0 hb) (hs_tdn _ _ _ _ i hp (by omega)) (by first | exact (kC_length _) | exact (hC_length _) | exact rfl)) ?_
    refine s_val (r_move rfl) ?_
    refine s_call (r_call Try.call40 (ec rfl (ec rfl en))) (in_spec _ _ (hv.get (by omega)) hn0 hn1 _) ?_
    rintro v w ⟨rfl, HC⟩
    replace H := H.quiet HC
    refine s_val (r_notp rfl) ?_
    refine c_nil (l' := [_, _, _, _, _, _, _, _, _, _, _, _, _, _, _, _, _, _, _, _, _, _, _, _, _, _, _, _, _, _, _, _, _, _, _, _, _, _, _, _, _, _, _, _, _, _, _, _, _, _, _, _, _, _, _, _, _, _, _, _, _, _]) rfl ?_
    refine c_if rfl (fun h22 => ?_) (fun h22 => ?_)
    · skip
      refine wp_exit (x_thenExit (x_blockHit ?_))
      refine x_thenNormal ?_
      refine c_region (n := 62) ⟨rfl, rfl⟩ ?_
      refine s_val (r_move rfl) ?_
      refine s_val (r_add rfl rfl (w_i64 (by omega) (by omega))) ?_
      refine s_val (r_assign rfl) ?_
      refine c_nil0 (l' := [_, _, _, _, _, _, _, _, _, _, _, _, _, _, _, _, _, _, _, _, _, _, _, _, _, _, _, _, _, _, _, _, _, _, _, _, _, _, _, _, _, _, _, _, _, _, _, _, _, _, _, _, _, _, _, _, _, _, _, _, _, _]) rfl ?_
      exact ⟨i + 1, _, rfl, ⟨_, _, _, _, _, _, _, _, _, _, _, _, _, _, _, _, _, _, _, _, _, _, _, _, _, _, _, _, _, _, _, _, _, _, _, _, _, _, _, _, _, _, _, _, _, _, _, _, _, _, _, _, _, _, _, rfl, by omega, (fun j hj => (Nat.lt_succ_iff_lt_or_eq.1 hj).elim (hno j) (fun e => e ▸ h22)), H⟩, by omega⟩
    · skip
      have hin : InN (nd xs i) n := Decidable.not_not.1 h22
      refine wp_skip ?_
      refine x_thenNormal ?_
      refine c_rseq (n := 62) ⟨rfl, rfl⟩ ?_
      refine s_val (r_move rfl) ?_
      refine s_val (r_move rfl) ?_
      refine s_val (r_indexAddrS Try.runUnderlying33 Try.sizeOf51 rfl rfl (by omega) (by omega)) ?_
      refine s_val (r_loadn Try.isAgg51 Try.sizeOf51 rfl (H.rd0 hb) (hs_tdn _ _ _ _ i hp (by omega)) (by first | exact (kC_length _) | exact (hC_length _) | exact rfl)) ?_
      refine s_new (m_alloc (cs := (hC Held.zero)) H Try.zeroValue51 rfl) ?_
      intro w b7 H
      refine s_st (m_storen H 0 34 Try.sizeOf51 rfl rfl (by first | exact (kC_length _) | exact (hC_length _)) (by first | exact (kC_one _) | exact (hC_one _)) rfl (by first | exact (by rw [kC_length]; omega) | exact (by rw [hC_length]; omega)) (by first | exact (kC_sp _ _) | exact (hC_sp _ _))) (L' := [_, _]) rfl ?_
      intro w H
      refine c_nil (l' := [_, _, _, _, _, _, _, _, _, _, _, _, _, _, _, _, _, _, _, _, _, _, _, _, _, _, _, _, _, _, _, _, _, _, _, _, _, _, _, _, _, _, _, _, _, _, _, _, _, _, _, _, _, _, _, _, _, _, _, _, _, _]) rfl ?_
      refine c_seq ?_
      refine wp_block ?_
      refine c_loop (fun (l0 : List Value) (k : Nat) (l : List Value) (w : World) => ∃ (u8 u9 u27 u28 u29 u30 u31 u32 u33 u34 u35 u36 u37 u38 u39 u40 u41 u42 u43 u44 u45 u46 u47 u48 u49 u50 u51 u52 u53 u54 u55 u56 u57 u58 : Value) (y : Held), l = ovr l0 [N_, N_, N_, N_, N_, N_, N_, N_, Y_ u8, Y_ u9, N_, N_, N_, N_, N_, N_, N_, N_, N_, N_, N_, N_, N_, N_, N_, N_, N_, Y_ u27, Y_ u28, Y_ u29, Y_ u30, Y_ u31, Y_ u32, Y_ u33, Y_ u34, Y_ u35, Y_ u36, Y_ u37, Y_ u38, Y_ u39, Y_ u40, Y_ u41, Y_ u42, Y_ u43, Y_ u44, Y_ u45, Y_ u46, Y_ u47, Y_ u48, Y_ u49, Y_ u50, Y_ u51, Y_ u52, Y_ u53, Y_ u54, Y_ u55, Y_ u56, Y_ u57, Y_ u58] ∧ WayK (nd xs i) n k y ∧ St w0 [] w [(b7, .cells (hC y).toArray 51 (0, 0)), (b4, .cells (kC (By.zero 32)).toArray 22 (0, 0))]) (fun (k : Nat) => k) (17 - (nd xs i).depth).toNat ⟨_, _, _, _, _, _, _, _, _, _, _, _, _, _, _, _, _, _, _, _, _, _, _, _, _, _, _, _, _, _, _, _, _, _, nd xs i, rfl, WayK.start (hv.get (by omega)) hin, H⟩ ?_
      intro k l w ⟨u8, u9, u27, u28, u29, u30, u31, u32, u33, u34, u35, u36, u37, u38, u39, u40, u41, u42, u43, u44, u45, u46, u47, u48, u49, u50, u51, u52, u53, u54, u55, u56, u57, u58, y, hl, hw, H⟩
      obtain rfl := hl.trans (rfl : _ = [_, _, _, _, _, _, _, _, _, _, _, _, _, _, _, _, _, _, _, _, _, _, _, _, _, _, _, _, _, _, _, _, _, _, _, _, _, _, _, _, _, _, _, _, _, _, _, _, _, _, _, _, _, _, _, _, _, _, _, _, _, _])
      clear hl
      refine c_seq ?_
      refine c_rseq (n := 62) ⟨rfl, rfl⟩ ?_
      refine s_val (r_fieldAddr (k := 0) Try.runUnderlying51 rfl Try.sizeOf3 (by decide) rfl rfl) ?_
      refine s_val (r_load1 Try.isAgg3 rfl (H.at 0 rfl) (by first | exact rfl | exact (hC_00 _) | exact (hC_0 _) | exact (hC_1 _))) ?_
      refine s_val (r_lss rfl rfl) ?_
      refine c_nil (l' := [_, _, _, _, _, _, _, _, _, _, _, _, _, _, _, _, _, _, _, _, _, _, _, _, _, _, _, _, _, _, _, _, _, _, _, _, _, _, _, _, _, _, _, _, _, _, _, _, _, _, _, _, _, _, _, _, _, _, _, _, _, _]) rfl ?_
      refine c_if rfl (fun h29 => ?_) (fun h29 => ?_)
      · skip
        obtain ⟨k, rfl⟩ : ∃ j, k = j + 1 := ⟨k - 1, by have := hw.depth; omega⟩
        have hwd := hw.depth
        have hw00 := hw.d0
        have hw0 := hw.at0
        have hw1 := hw.at1
        have hmp := many_pos (y.depth + 1)
        have hms := many_succ (n := y.depth) (by omega)
        refine wp_skip ?_
        refine x_thenNormal ?_
        refine wp_block ?_
        refine c_rseq (n := 62) ⟨rfl, rfl⟩ ?_
        refine s_val (r_fieldAddr (k := 2) Try.runUnderlying51 rfl Try.sizeOf22 (by decide) rfl rfl) ?_
        refine s_val (r_loadn Try.isAgg22 Try.sizeOf22 rfl (H.at 0 rfl) (by first | exact (kC_td _) | exact (hC_td _) | exact (hC_seed _)) (by first | exact (kC_length _) | exact (hC_length _) | exact rfl)) ?_
        refine s_call (r_call Try.call39 (ec rfl en)) (rsplit_spec _ _) ?_
        rintro v w ⟨rfl, HC⟩
        replace H := H.quiet HC
        refine s_val (r_move rfl) ?_
        refine s_val (r_extract rfl rfl) ?_
        refine s_val (r_extract rfl rfl) ?_
        refine s_new (m_alloc (cs := (kC (By.zero 32))) H Try.zeroValue22 rfl) ?_
        intro w b8 H
        refine s_new (m_alloc (cs := (kC (By.zero 32))) H Try.zeroValue22 rfl) ?_
        intro w b9 H
        refine s_st (m_storen H 1 32 Try.sizeOf22 rfl rfl (by first | exact (kC_length _) | exact (hC_length _)) (by first | exact (kC_one _) | exact (hC_one _)) rfl (by first | exact (by rw [kC_length]; omega) | exact (by rw [hC_length]; omega)) (by first | exact (kC_sp _ _) | exact (hC_sp _ _))) (L' := [_, _, _, _]) rfl ?_
        intro w H
        refine s_st (m_storen H 0 32 Try.sizeOf22 rfl rfl (by first | exact (kC_length _) | exact (hC_length _)) (by first | exact (kC_one _) | exact (hC_one _)) rfl (by first | exact (by rw [kC_length]; omega) | exact (by rw [hC_length]; omega)) (by first | exact (kC_sp _ _) | exact (hC_sp _ _))) (L' := [_, _, _, _]) rfl ?_
        intro w H
        refine c_nil (l' := [_, _, _, _, _, _, _, _, _, _, _, _, _, _, _, _, _, _, _, _, _, _, _, _, _, _, _, _, _, _, _, _, _, _, _, _, _, _, _, _, _, _, _, _, _, _, _, _, _, _, _, _, _, _, _, _, _, _, _, _, _, _]) rfl ?_
        refine c_rseq (n := 62) ⟨rfl, rfl⟩ ?_
        refine s_val (r_fieldAddr (k := 0) Try.runUnderlying51 rfl Try.sizeOf3 (by decide) rfl rfl) ?_
        refine s_val (r_load1 Try.isAgg3 rfl (H.at 2 rfl) (by first | exact rfl | exact (hC_00 _) | exact (hC_0 _) | exact (hC_1 _))) ?_
        refine s_val (r_add rfl rfl (w_i64 (by omega) (by omega))) ?_
        refine s_val (r_fieldAddr (k := 0) Try.runUnderlying51 rfl Try.sizeOf3 (by decide) rfl rfl) ?_
        refine s_st (m_store1 H 2 Try.sizeOf3 rfl rfl rfl rfl (by first | exact (by rw [kC_length]; omega) | exact (by rw [hC_length]; omega) | exact (by simp)) (show _ = hC ⟨y.depth + 1, y.at_, y.seed⟩ from rfl)) (L' := [_, _, _, _]) rfl ?_
        intro w H
        refine c_nil (l' := [_, _, _, _, _, _, _, _, _, _, _, _, _, _, _, _, _, _, _, _, _, _, _, _, _, _, _, _, _, _, _, _, _, _, _, _, _, _, _, _, _, _, _, _, _, _, _, _, _, _, _, _, _, _, _, _, _, _, _, _, _, _]) rfl ?_
        refine c_rseq (n := 62) ⟨rfl, rfl⟩ ?_
        refine s_val (r_loadn Try.isAgg22 Try.sizeOf22 rfl (H.at 1 rfl) (by first | exact (kC_td _) | exact (hC_td _) | exact (hC_seed _)) (by first | exact (kC_length _) | exact (hC_length _) | exact rfl)) ?_
        refine s_val (r_fieldAddr (k := 2) Try.runUnderlying51 rfl Try.sizeOf22 (by decide) rfl rfl) ?_
        refine s_st (m_storen H 2 32 Try.sizeOf22 rfl rfl (by first | exact (kC_length _) | exact (hC_length _)) (by first | exact (kC_one _) | exact (hC_one _)) rfl (by first | exact (by rw [kC_length]; omega) | exact (by rw [hC_length]; omega)) (show _ = hC ⟨y.depth + 1, y.at_, splitL y.seed⟩ from hC_spk _ _)) (L' := [_, _, _, _]) rfl ?_
        intro w H
        refine c_nil (l' := [_, _, _, _, _, _, _, _, _, _, _, _, _, _, _, _, _, _, _, _, _, _, _, _, _, _, _, _, _, _, _, _, _, _, _, _, _, _, _, _, _, _, _, _, _, _, _, _, _, _, _, _, _, _, _, _, _, _, _, _, _, _]) rfl ?_
        refine c_seq ?_
        refine d_begin (sz := 62) ⟨rfl, rfl⟩ (by kernel_rfl) H (H) rfl ?_
        intro w H
        refine d_take (i := 0) rfl (by kernel_rfl) (fun _ _ _ h => h) H (fun _ _ => r_move rfl) rfl ?_
        refine d_take (i := 1) rfl (by kernel_rfl) (fun _ _ _ h => h) H (fun _ _ => r_fieldAddr (k := 1) Try.runUnderlying51 rfl Try.sizeOf31 (by decide) rfl rfl) rfl ?_
        refine d_take (i := 2) rfl (by kernel_rfl) (fun _ _ _ h => h) H (fun _ HS => r_load1 Try.isAgg31 rfl (HS.at 2 rfl) (show _ = some (Value.int .u64 y.at_) from rfl)) rfl ?_
        refine d_take (i := 3) rfl (by kernel_rfl) (fun _ _ _ h => h) H (fun _ _ => r_fieldAddr (k := 0) Try.runUnderlying51 rfl Try.sizeOf3 (by decide) rfl rfl) rfl ?_
        refine d_take (i := 4) rfl (by kernel_rfl) (fun _ _ _ h => h) H (fun _ HS => r_load1 Try.isAgg3 rfl (HS.at 2 rfl) (show _ = some (Value.int .i64 (y.depth + 1)) from rfl)) rfl ?_
        refine d_all1 (i := 5) (by kernel_rfl) ?_
        refine b_call rfl go_none (r_call Try.call41 (ec rfl en)) (rmany_spec _ (by omega) (by omega) _) rfl ?_
        rintro v w ⟨rfl, HC⟩
        replace H := H.quiet HC
        refine ⟨H, ?_⟩
        refine d_take (i := 6) rfl (by kernel_rfl) (fun _ _ _ h => h) H (fun _ _ => r_add rfl rfl (w_u64 (by omega) (by omega))) rfl ?_
        refine d_take (i := 7) rfl (by kernel_rfl) (fun _ _ _ h => h) H (fun _ _ => r_geq rfl rfl) rfl ?_
        refine d_done (l' := [_, _, _, _, _, _, _, _, _, _, _, _, _, _, _, _, _, _, _, _, _, _, _, _, _, _, _, _, _, _, _, _, _, _, _, _, _, _, _, _, _, _, _, _, _, _, _, _, _, _, _, _, _, _, _, _, _, _, _, _, _, _]) (by kernel_rfl) rfl ?_
        refine x_thenNormal ?_
        refine c_if rfl (fun h49 => ?_) (fun h49 => ?_)
        · skip
          refine c_seq ?_
          refine d_begin (sz := 62) ⟨rfl, rfl⟩ (by kernel_rfl) H (H.sub (.cons_cons _ (.cons_cons _ (.cons _ (.cons_cons _ .slnil))))) rfl ?_
          intro w H
          refine d_take (i := 0) rfl (by kernel_rfl) (fun _ _ _ h => h) (H.sub (.cons_cons _ (.cons_cons _ (.cons _ (.cons_cons _ .slnil))))) (fun _ _ => r_fieldAddr (k := 1) Try.runUnderlying51 rfl Try.sizeOf31 (by decide) rfl rfl) rfl ?_
          refine d_take (i := 2) rfl (by kernel_rfl) (fun _ _ _ h => h) (H.sub (.cons_cons _ (.cons_cons _ (.cons _ (.cons_cons _ .slnil))))) (fun _ _ => r_fieldAddr (k := 0) Try.runUnderlying51 rfl Try.sizeOf3 (by decide) rfl rfl) rfl ?_
          refine d_all2 (i := 1) (j := 3) (by kernel_rfl) ?_ ?_
          · skip
            refine b_val rfl go_none (r_load1 Try.isAgg31 rfl (H.at 2 rfl) (show _ = some (Value.int .u64 y.at_) from rfl)) rfl (H.sub (.cons_cons _ (.cons_cons _ (.cons _ (.cons_cons _ .slnil))))) ?_
            refine d_all1 (i := 3) (by kernel_rfl) ?_
            refine b_val rfl go_none (r_load1 Try.isAgg3 rfl (H.at 2 rfl) (show _ = some (Value.int .i64 (y.depth + 1)) from rfl)) rfl (H.sub (.cons_cons _ (.cons_cons _ (.cons _ (.cons_cons _ .slnil))))) ?_
            refine d_all1 (i := 4) (by kernel_rfl) ?_
            refine b_call rfl go_none (r_call Try.call41 (ec rfl en)) (rmany_spec _ (by omega) (by omega) _) rfl ?_
            rintro v w ⟨rfl, HC⟩
            replace H := H.quiet HC
            refine ⟨(H.sub (.cons_cons _ (.cons_cons _ (.cons _ (.cons_cons _ .slnil))))), ?_⟩
            refine d_take (i := 5) rfl (by kernel_rfl) (fun _ _ _ h => h) (H.sub (.cons_cons _ (.cons_cons _ (.cons _ (.cons_cons _ .slnil))))) (fun _ _ => r_add rfl rfl (w_u64 (by omega) (by omega))) rfl ?_
            refine d_take (i := 6) rfl (by kernel_rfl) (fun _ _ _ h => h) (H.sub (.cons_cons _ (.cons_cons _ (.cons _ (.cons_cons _ .slnil))))) (fun _ _ => r_fieldAddr (k := 1) Try.runUnderlying51 rfl Try.sizeOf31 (by decide) rfl rfl) rfl ?_
            refine d_all1 (i := 7) (by kernel_rfl) ?_
            refine b_st rfl go_none (m_store1 H 2 Try.sizeOf31 rfl rfl rfl rfl (by first | exact (by rw [kC_length]; omega) | exact (by rw [hC_length]; omega) | exact (by simp)) (show _ = hC ⟨y.depth + 1, y.at_ + many (y.depth + 1), splitL y.seed⟩ from rfl)) (L' := [_, _, _, _]) rfl rfl (fun _ H => (H.sub (.cons_cons _ (.cons_cons _ (.cons _ (.cons_cons _ .slnil)))))) ?_
            intro w H
            refine d_done (l' := [_, _, _, _, _, _, _, _, _, _, _, _, _, _, _, _, _, _, _, _, _, _, _, _, _, _, _, _, _, _, _, _, _, _, _, _, _, _, _, _, _, _, _, _, _, _, _, _, _, _, _, _, _, _, _, _, _, _, _, _, _, _]) (by kernel_rfl) rfl ?_
            refine x_thenNormal ?_
            refine c_region (n := 62) ⟨rfl, rfl⟩ ?_
            refine s_val (r_loadn Try.isAgg22 Try.sizeOf22 rfl (H.at 0 rfl) (by first | exact (kC_td _) | exact (hC_td _) | exact (hC_seed _)) (by first | exact (kC_length _) | exact (hC_length _) | exact rfl)) ?_
            refine s_val (r_fieldAddr (k := 2) Try.runUnderlying51 rfl Try.sizeOf22 (by decide) rfl rfl) ?_
            refine s_st (m_storen H 2 32 Try.sizeOf22 rfl rfl (by first | exact (kC_length _) | exact (hC_length _)) (by first | exact (kC_one _) | exact (hC_one _)) rfl (by first | exact (by rw [kC_length]; omega) | exact (by rw [hC_length]; omega)) (show _ = hC ⟨y.depth + 1, y.at_ + many (y.depth + 1), splitR y.seed⟩ from hC_spk _ _)) (L' := [_, _, _, _]) rfl ?_
            intro w H
            refine c_nil0 (l' := [_, _, _, _, _, _, _, _, _, _, _, _, _, _, _, _, _, _, _, _, _, _, _, _, _, _, _, _, _, _, _, _, _, _, _, _, _, _, _, _, _, _, _, _, _, _, _, _, _, _, _, _, _, _, _, _, _, _, _, _, _, _]) rfl ?_
            refine x_blockNormal ?_
            replace H := H.sub (.cons _ (.cons _ (.cons_cons _ (.cons_cons _ .slnil))))
            exact ⟨k, _, rfl, ⟨_, _, _, _, _, _, _, _, _, _, _, _, _, _, _, _, _, _, _, _, _, _, _, _, _, _, _, _, _, _, _, _, _, _, kidR splitR y, rfl, hw.right h49, H⟩, by omega⟩
          · skip
            refine b_val rfl go_none (r_load1 Try.isAgg3 rfl (H.at 2 rfl) (show _ = some (Value.int .i64 (y.depth + 1)) from rfl)) rfl (H.sub (.cons_cons _ (.cons_cons _ (.cons _ (.cons_cons _ .slnil))))) ?_
            refine d_all2 (i := 1) (j := 4) (by kernel_rfl) ?_ ?_
            · skip
              refine b_val rfl go_none (r_load1 Try.isAgg31 rfl (H.at 2 rfl) (show _ = some (Value.int .u64 y.at_) from rfl)) rfl (H.sub (.cons_cons _ (.cons_cons _ (.cons _ (.cons_cons _ .slnil))))) ?_
              refine d_all1 (i := 4) (by kernel_rfl) ?_
              refine b_call rfl go_none (r_call Try.call41 (ec rfl en)) (rmany_spec _ (by omega) (by omega) _) rfl ?_
              rintro v w ⟨rfl, HC⟩
              replace H := H.quiet HC
              refine ⟨(H.sub (.cons_cons _ (.cons_cons _ (.cons _ (.cons_cons _ .slnil))))), ?_⟩
              refine d_take (i := 5) rfl (by kernel_rfl) (fun _ _ _ h => h) (H.sub (.cons_cons _ (.cons_cons _ (.cons _ (.cons_cons _ .slnil))))) (fun _ _ => r_add rfl rfl (w_u64 (by omega) (by omega))) rfl ?_
              refine d_take (i := 6) rfl (by kernel_rfl) (fun _ _ _ h => h) (H.sub (.cons_cons _ (.cons_cons _ (.cons _ (.cons_cons _ .slnil))))) (fun _ _ => r_fieldAddr (k := 1) Try.runUnderlying51 rfl Try.sizeOf31 (by decide) rfl rfl) rfl ?_
              refine d_all1 (i := 7) (by kernel_rfl) ?_
              refine b_st rfl go_none (m_store1 H 2 Try.sizeOf31 rfl rfl rfl rfl (by first | exact (by rw [kC_length]; omega) | exact (by rw [hC_length]; omega) | exact (by simp)) (show _ = hC ⟨y.depth + 1, y.at_ + many (y.depth + 1), splitL y.seed⟩ from rfl)) (L' := [_, _, _, _]) rfl rfl (fun _ H => (H.sub (.cons_cons _ (.cons_cons _ (.cons _ (.cons_cons _ .slnil)))))) ?_
              intro w H
              refine d_done (l' := [_, _, _, _, _, _, _, _, _, _, _, _, _, _, _, _, _, _, _, _, _, _, _, _, _, _, _, _, _, _, _, _, _, _, _, _, _, _, _, _, _, _, _, _, _, _, _, _, _, _, _, _, _, _, _, _, _, _, _, _, _, _]) (by kernel_rfl) rfl ?_
              refine x_thenNormal ?_
              refine c_region (n := 62) ⟨rfl, rfl⟩ ?_
              refine s_val (r_loadn Try.isAgg22 Try.sizeOf22 rfl (H.at 0 rfl) (by first | exact (kC_td _) | exact (hC_td _) | exact (hC_seed _)) (by first | exact (kC_length _) | exact (hC_length _) | exact rfl)) ?_
              refine s_val (r_fieldAddr (k := 2) Try.runUnderlying51 rfl Try.sizeOf22 (by decide) rfl rfl) ?_
              refine s_st (m_storen H 2 32 Try.sizeOf22 rfl rfl (by first | exact (kC_length _) | exact (hC_length _)) (by first | exact (kC_one _) | exact (hC_one _)) rfl (by first | exact (by rw [kC_length]; omega) | exact (by rw [hC_length]; omega)) (show _ = hC ⟨y.depth + 1, y.at_ + many (y.depth + 1), splitR y.seed⟩ from hC_spk _ _)) (L' := [_, _, _, _]) rfl ?_
              intro w H
              refine c_nil0 (l' := [_, _, _, _, _, _, _, _, _, _, _, _, _, _, _, _, _, _, _, _, _, _, _, _, _, _, _, _, _, _, _, _, _, _, _, _, _, _, _, _, _, _, _, _, _, _, _, _, _, _, _, _, _, _, _, _, _, _, _, _, _, _]) rfl ?_
              refine x_blockNormal ?_
              replace H := H.sub (.cons _ (.cons _ (.cons_cons _ (.cons_cons _ .slnil))))
              exact ⟨k, _, rfl, ⟨_, _, _, _, _, _, _, _, _, _, _, _, _, _, _, _, _, _, _, _, _, _, _, _, _, _, _, _, _, _, _, _, _, _, kidR splitR y, rfl, hw.right h49, H⟩, by omega⟩
            · skip
              refine b_call rfl go_none (r_call Try.call41 (ec rfl en)) (rmany_spec _ (by omega) (by omega) _) rfl ?_
              rintro v w ⟨rfl, HC⟩
              replace H := H.quiet HC
              refine ⟨(H.sub (.cons_cons _ (.cons_cons _ (.cons _ (.cons_cons _ .slnil))))), ?_⟩
              refine d_all1 (i := 1) (by kernel_rfl) ?_
              refine b_val rfl go_none (r_load1 Try.isAgg31 rfl (H.at 2 rfl) (show _ = some (Value.int .u64 y.at_) from rfl)) rfl (H.sub (.cons_cons _ (.cons_cons _ (.cons _ (.cons_cons _ .slnil))))) ?_
              refine d_take (i := 5) rfl (by kernel_rfl) (fun _ _ _ h => h) (H.sub (.cons_cons _ (.cons_cons _ (.cons _ (.cons_cons _ .slnil))))) (fun _ _ => r_add rfl rfl (w_u64 (by omega) (by omega))) rfl ?_
              refine d_take (i := 6) rfl (by kernel_rfl) (fun _ _ _ h => h) (H.sub (.cons_cons _ (.cons_cons _ (.cons _ (.cons_cons _ .slnil))))) (fun _ _ => r_fieldAddr (k := 1) Try.runUnderlying51 rfl Try.sizeOf31 (by decide) rfl rfl) rfl ?_
              refine d_all1 (i := 7) (by kernel_rfl) ?_
              refine b_st rfl go_none (m_store1 H 2 Try.sizeOf31 rfl rfl rfl rfl (by first | exact (by rw [kC_length]; omega) | exact (by rw [hC_length]; omega) | exact (by simp)) (show _ = hC ⟨y.depth + 1, y.at_ + many (y.depth + 1), splitL y.seed⟩ from rfl)) (L' := [_, _, _, _]) rfl rfl (fun _ H => (H.sub (.cons_cons _ (.cons_cons _ (.cons _ (.cons_cons _ .slnil)))))) ?_
              intro w H
              refine d_done (l' := [_, _, _, _, _, _, _, _, _, _, _, _, _, _, _, _, _, _, _, _, _, _, _, _, _, _, _, _, _, _, _, _, _, _, _, _, _, _, _, _, _, _, _, _, _, _, _, _, _, _, _, _, _, _, _, _, _, _, _, _, _, _]) (by kernel_rfl) rfl ?_
              refine x_thenNormal ?_
              refine c_region (n := 62) ⟨rfl, rfl⟩ ?_
              refine s_val (r_loadn Try.isAgg22 Try.sizeOf22 rfl (H.at 0 rfl) (by first | exact (kC_td _) | exact (hC_td _) | exact (hC_seed _)) (by first | exact (kC_length _) | exact (hC_length _) | exact rfl)) ?_
              refine s_val (r_fieldAddr (k := 2) Try.runUnderlying51 rfl Try.sizeOf22 (by decide) rfl rfl) ?_
              refine s_st (m_storen H 2 32 Try.sizeOf22 rfl rfl (by first | exact (kC_length _) | exact (hC_length _)) (by first | exact (kC_one _) | exact (hC_one _)) rfl (by first | exact (by rw [kC_length]; omega) | exact (by rw [hC_length]; omega)) (show _ = hC ⟨y.depth + 1, y.at_ + many (y.depth + 1), splitR y.seed⟩ from hC_spk _ _)) (L' := [_, _, _, _]) rfl ?_
              intro w H
              refine c_nil0 (l' := [_, _, _, _, _, _, _, _, _, _, _, _, _, _, _, _, _, _, _, _, _, _, _, _, _, _, _, _, _, _, _, _, _, _, _, _, _, _, _, _, _, _, _, _, _, _, _, _, _, _, _, _, _, _, _, _, _, _, _, _, _, _]) rfl ?_
              refine x_blockNormal ?_
              replace H := H.sub (.cons _ (.cons _ (.cons_cons _ (.cons_cons _ .slnil))))
              exact ⟨k, _, rfl, ⟨_, _, _, _, _, _, _, _, _, _, _, _, _, _, _, _, _, _, _, _, _, _, _, _, _, _, _, _, _, _, _, _, _, _, kidR splitR y, rfl, hw.right h49, H⟩, by omega⟩
        · skip
          refine wp_skip ?_
          refine x_blockNormal ?_
          replace H := H.sub (.cons _ (.cons _ (.cons_cons _ (.cons_cons _ .slnil))))
          exact ⟨k, _, rfl, ⟨_, _, _, _, _, _, _, _, _, _, _, _, _, _, _, _, _, _, _, _, _, _, _, _, _, _, _, _, _, _, _, _, _, _, kidL splitL y, rfl, hw.left h49, H⟩, by omega⟩
      · skip
        obtain rfl : k = 0 := by have := hw.depth; omega
        refine wp_exit (x_thenExit (x_thenExit (x_blockHit ?_)))
        refine x_thenNormal ?_
        refine c_rseq (n := 62) ⟨rfl, rfl⟩ ?_
        refine s_val (r_fieldAddr (k := 2) Try.runUnderlying51 rfl Try.sizeOf22 (by decide) rfl rfl) ?_
        refine s_val (r_loadn Try.isAgg22 Try.sizeOf22 rfl (H.at 0 rfl) (by first | exact (kC_td _) | exact (hC_td _) | exact (hC_seed _)) (by first | exact (kC_length _) | exact (hC_length _) | exact rfl)) ?_
        refine s_st (m_storen H 1 32 Try.sizeOf22 rfl rfl (by first | exact (kC_length _) | exact (hC_length _)) (by first | exact (kC_one _) | exact (hC_one _)) rfl (by first | exact (by rw [kC_length]; omega) | exact (by rw [hC_length]; omega)) (by first | exact (kC_sp _ _) | exact (hC_sp _ _))) (L' := [_, _]) rfl ?_
        intro w H
        refine s_val (r_assign rfl) ?_
        refine c_nil (l' := [_, _, _, _, _, _, _, _, _, _, _, _, _, _, _, _, _, _, _, _, _, _, _, _, _, _, _, _, _, _, _, _, _, _, _, _, _, _, _, _, _, _, _, _, _, _, _, _, _, _, _, _, _, _, _, _, _, _, _, _, _, _]) rfl ?_
        refine wp_ret (x_blockRet (x_thenRet (x_thenRet (x_blockRet (x_thenRet ?_)))))
        refine e_ret (rc_two rfl (rc_celln Try.isAgg22 Try.sizeOf22 rfl (H.at 1 rfl) (by first | exact (kC_td _) | exact (hC_td _) | exact (hC_seed _)) (by first | exact (kC_length _) | exact (hC_length _))) (rc_tmp rfl)) ⟨_, rfl, ?_⟩
        exact ⟨_, true, .inl ⟨rfl, _, by rw [← nd_eq (by omega)]; exact List.getElem_mem (by omega), hin, hw.key⟩, rfl, H.sub (.cons _ (.cons _ .slnil))⟩
  · skip
    refine wp_exit (x_thenExit (x_thenExit (x_blockHit ?_)))
    refine x_thenNormal ?_
    refine c_rseq (n := 62) ⟨rfl, rfl⟩ ?_
    refine s_val (r_buildA (pl := []) (zs := kC (By.zero 32)) (out := kC (By.zero 32)) Try.runUnderlying22 Try.sizeOf5 Try.zeroValue22 pn (by intro p hp; simp at hp) rfl) ?_
    refine s_st (m_storen H 0 32 Try.sizeOf22 rfl rfl (by first | exact (kC_length _) | exact (hC_length _)) (by first | exact (kC_one _) | exact (hC_one _)) rfl (by first | exact (by rw [kC_length]; omega) | exact (by rw [hC_length]; omega)) (by first | exact (kC_sp _ _) | exact (hC_sp _ _))) (L' := [_]) rfl ?_
    intro w H
    refine s_val (r_assign rfl) ?_
    refine c_nil (l' := [_, _, _, _, _, _, _, _, _, _, _, _, _, _, _, _, _, _, _, _, _, _, _, _, _, _, _, _, _, _, _, _, _, _, _, _, _, _, _, _, _, _, _, _, _, _, _, _, _, _, _, _, _, _, _, _, _, _, _, _, _, _]) rfl ?_
    refine wp_ret ?_
    refine e_ret (rc_two rfl (rc_celln Try.isAgg22 Try.sizeOf22 rfl (H.at 0 rfl) (by first | exact (kC_td _) | exact (hC_td _) | exact (hC_seed _)) (by first | exact (kC_length _) | exact (hC_length _))) (rc_tmp rfl)) ⟨_, rfl, ?_⟩
    exact ⟨By.zero 32, false, .inr ⟨rfl, rfl, fun ⟨x, hx, hi⟩ => by obtain ⟨j, hj, rfl⟩ := nd_mem hx; exact hno j (by omega) hi⟩, rfl, H.sub (.cons _ .slnil)⟩

set_option maxHeartbeats 4000000 in
theorem rcount_spec (a : Option Addr) (cap : Nat) (xs : List Held) (hl : xs.length ≤ 100000) (hv : Valid xs) (w0 : World) (hr : HRow w0 a xs) :
    Calls Try.prog 24 #[.slice a xs.length cap] w0 fun e w => ∃ v, e = .returned v ∧ (v = .int .i64 (cnt xs) ∧ St w0 [] w []) := by
  have H := St.refl w0
  refine c_enter (args := [.slice a xs.length cap]) (l := [.slice a xs.length cap, undef, undef, undef, undef, undef, undef, undef, undef, undef, undef, undef, undef, undef, undef, undef, undef, undef, undef, undef, undef]) Try.func24 Try.ntmps24 rfl rfl ?_
  refine c_rseq (n := 21) ⟨rfl, rfl⟩ ?_
  refine s_val (r_assign rfl) ?_
  refine c_nil (l' := [_, _, _, _, _, _, _, _, _, _, _, _, _, _, _, _, _, _, _, _, _]) rfl ?_
  refine c_rseq (n := 21) ⟨rfl, rfl⟩ ?_
  refine s_val (r_assign rfl) ?_
  refine c_nil (l' := [_, _, _, _, _, _, _, _, _, _, _, _, _, _, _, _, _, _, _, _, _]) rfl ?_
  refine c_seq ?_
  refine c_rseq (n := 21) ⟨rfl, rfl⟩ ?_
  refine s_val (r_assign rfl) ?_
  refine c_nil (l' := [_, _, _, _, _, _, _, _, _, _, _, _, _, _, _, _, _, _, _, _, _]) rfl ?_
  refine wp_block ?_
  refine c_loop (fun (l0 : List Value) (k : Nat) (l : List Value) (w : World) => ∃ (u5 u6 u7 u8 u9 u10 u11 u12 u13 u14 u15 u16 u17 u18 u19 : Value) , l = ovr l0 [N_, N_, N_, Y_ (.int .i64 (cnt (xs.take k))), Y_ (.int .i64 k), Y_ u5, Y_ u6, Y_ u7, Y_ u8, Y_ u9, Y_ u10, Y_ u11, Y_ u12, Y_ u13, Y_ u14, Y_ u15, Y_ u16, Y_ u17, Y_ u18, Y_ u19] ∧ k ≤ xs.length ∧ St w0 [] w []) (fun (k : Nat) => xs.length - k) 0 ⟨_, _, _, _, _, _, _, _, _, _, _, _, _, _, _, rfl, by omega, H⟩ ?_
  intro k l w ⟨u5, u6, u7, u8, u9, u10, u11, u12, u13, u14, u15, u16, u17, u18, u19, hl, hk, H⟩
  obtain rfl := hl.trans (rfl : _ = [_, _, _, _, _, _, _, _, _, _, _, _, _, _, _, _, _, _, _, _, _])
  clear hl
  have hcb := cnt_takeb hv k
  refine c_seq ?_
  refine c_rseq (n := 21) ⟨rfl, rfl⟩ ?_
  refine s_val (r_move rfl) ?_
  refine s_val (r_move rfl) ?_
  refine s_val (r_lens Try.runUnderlying33 (ec rfl en)) ?_
  refine s_val (r_lss rfl rfl) ?_
  refine c_nil (l' := [_, _, _, _, _, _, _, _, _, _, _, _, _, _, _, _, _, _, _, _, _]) rfl ?_
  refine c_if rfl (fun h8 => ?_) (fun h8 => ?_)
  · skip
    obtain ⟨bh, off, pre, post, T, fz, rfl, hb, hp⟩ := hr (by omega)
    obtain ⟨hd0, hd1, ha0, ha2, ha1⟩ := hv.get (i := k) (by omega)
    have hmp := many_pos (nd xs k).depth
    have hml := many_le hd0
    refine wp_skip ?_
    refine x_thenNormal ?_
    refine c_seq ?_
    refine wp_block ?_
    refine c_region (n := 21) ⟨rfl, rfl⟩ ?_
    refine s_val (r_move rfl) ?_
    refine s_val (r_move rfl) ?_
    refine s_val (r_move rfl) ?_
    refine s_val (r_indexAddrS Try.runUnderlying33 Try.sizeOf51 rfl rfl (by omega) (by omega)) ?_
    refine s_val (r_fieldAddr (k := 0) Try.runUnderlying51 rfl Try.sizeOf3 (by decide) rfl rfl) ?_
    refine s_val (r_load1 Try.isAgg3 rfl (H.rd0 hb) (hs_depth _ _ _ _ k hp (by omega))) ?_
    refine s_call (r_call Try.call41 (ec rfl en)) (rmany_spec _ (by omega) (by omega) _) ?_
    rintro v w ⟨rfl, HC⟩
    replace H := H.quiet HC
    refine s_val (r_conv Try.runUnderlying31 Try.runUnderlying3 rfl (w_i64 (by omega) (by omega))) ?_
    refine s_val (r_add rfl rfl (w_i64e (r := cnt (xs.take (k + 1))) (cnt_take (by omega)).symm (by omega) (by omega))) ?_
    refine s_val (r_assign rfl) ?_
    refine c_nil0 (l' := [_, _, _, _, _, _, _, _, _, _, _, _, _, _, _, _, _, _, _, _, _]) rfl ?_
    refine x_blockNormal ?_
    refine x_thenNormal ?_
    refine c_region (n := 21) ⟨rfl, rfl⟩ ?_
    refine s_val (r_move rfl) ?_
    refine s_val (r_add rfl rfl (w_i64 (by omega) (by omega))) ?_
    refine s_val (r_assign rfl) ?_
    refine c_nil0 (l' := [_, _, _, _, _, _, _, _, _, _, _, _, _, _, _, _, _, _, _, _, _]) rfl ?_
    exact ⟨k + 1, _, rfl, ⟨_, _, _, _, _, _, _, _, _, _, _, _, _, _, _, rfl, by omega, H⟩, by omega⟩
  · skip
    obtain rfl : k = xs.length := by omega
    rw [List.take_length]
    refine wp_exit (x_thenExit (x_thenExit (x_blockHit ?_)))
    refine x_thenNormal ?_
    refine c_rseq (n := 21) ⟨rfl, rfl⟩ ?_
    refine s_val (r_move rfl) ?_
    refine s_val (r_assign rfl) ?_
    refine c_nil (l' := [_, _, _, _, _, _, _, _, _, _, _, _, _, _, _, _, _, _, _, _, _]) rfl ?_
    refine wp_ret ?_
    refine e_ret (res1 rfl rfl) ⟨_, rfl, ?_⟩
    exact ⟨rfl, H⟩

end Go.Proofs.Ytblphhclfloodaa
