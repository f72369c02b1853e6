import Derived.Test.YtbjalofmamoffaaPA2
import Derived.Test.YtbjalofmamoffaaPA3
import Derived.Test.YtbjalofmamoffaaPB5
import Derived.Test.YtbjalofmamoffaaPV1
namespace Go.Proofs.Ytbjalofmamoffaa
open Go Go.Er

set_option maxHeartbeats 4000000 in
theorem gen_spec (bl : Nat) (x : LS) (s : Int) (w0 : World) (hg : LogR 51 89 72 w0 bl x) :
    Calls Try.prog 26 #[.pointer (some ⟨bl, 0, none⟩), .int .i64 s] w0 fun e w => ∃ v, e = .returned v ∧ (v = .int .u64 (genAt x.gens s) ∧ St w0 [] w []) := by
  have hg2 := hg
  obtain ⟨bm, cs, bu, T, fz, T2, fz2, hbl, hbu, hmr, hF⟩ := hg2
  obtain ⟨fg0, fg1, fz0, fz1, fgl, fcl, fu, ⟨fh0, fh1⟩, ⟨fs0, fs1⟩, ⟨fk0, fk1⟩, fkg⟩ := id hF
  have H := St.refl w0
  refine c_enter (args := [.pointer (some ⟨bl, 0, none⟩), .int .i64 s]) (l := [.pointer (some ⟨bl, 0, none⟩), .int .i64 s, undef, undef, undef, undef, undef, undef, undef, undef, undef, undef, undef, undef, undef, undef, undef, undef, undef, undef, undef, undef, undef, undef, undef, undef, undef]) Try.func26 Try.ntmps26 rfl rfl ?_
  refine c_rseq (n := 27) ⟨rfl, rfl⟩ ?_
  refine s_val (r_assign rfl) ?_
  refine c_nil (l' := [_,_,_,_,_,_,_,_,_,_,_,_,_,_,_,_,_,_,_,_,_,_,_,_,_,_,_]) rfl ?_
  refine c_seq ?_
  refine c_rseq (n := 27) ⟨rfl, rfl⟩ ?_
  refine s_val (r_move rfl) ?_
  refine s_val (r_nilpF Try.runUnderlying28 rfl rfl) ?_
  refine s_val (r_move rfl) ?_
  refine g_yes rfl rfl ?_
  refine s_val (r_move rfl) ?_
  refine g_yes rfl rfl ?_
  refine s_test (r_lss rfl rfl) (fun h9 => ?_) (fun h9 => ?_)
  · skip
    refine s_val (r_pickf rfl rfl) ?_
    refine s_val (r_move rfl) ?_
    refine g_no rfl rfl (by decide) ?_
    refine g_no rfl rfl (by decide) ?_
    refine g_no rfl rfl (by decide) ?_
    refine g_no rfl rfl (by decide) ?_
    refine g_no rfl rfl (by decide) ?_
    refine g_no rfl rfl (by decide) ?_
    refine g_no rfl rfl (by decide) ?_
    refine s_val (r_pickt rfl rfl) ?_
    refine c_nil (l' := [_,_,_,_,_,_,_,_,_,_,_,_,_,_,_,_,_,_,_,_,_,_,_,_,_,_,_]) rfl ?_
    refine c_ift rfl ?_
    refine c_rseq (n := 27) ⟨rfl, rfl⟩ ?_
    refine s_val (r_assign rfl) ?_
    refine c_nil (l' := [_,_,_,_,_,_,_,_,_,_,_,_,_,_,_,_,_,_,_,_,_,_,_,_,_,_,_]) rfl ?_
    refine wp_ret (x_thenRet ?_)
    refine e_ret (res1 rfl rfl) ⟨_, rfl, ?_⟩
    exact ⟨by unfold genAt; rw [if_neg (by omega)], H⟩
  · skip
    refine s_val (r_pickf rfl rfl) ?_
    refine s_val (r_move rfl) ?_
    refine g_yes rfl rfl ?_
    refine s_val (r_move rfl) ?_
    refine g_yes rfl rfl ?_
    refine s_val (r_move rfl) ?_
    refine g_yes rfl rfl ?_
    refine s_val (r_nilCheck rfl) ?_
    refine g_yes rfl rfl ?_
    refine s_val (r_fieldAddr (k := 4) Try.runUnderlying91 rfl Try.sizeOf35 (by decide) rfl rfl) ?_
    refine g_yes rfl rfl ?_
    refine s_val (r_load1 Try.isAgg35 rfl (H.rd0 hbl) rfl) ?_
    refine g_yes rfl rfl ?_
    refine s_val (r_lens Try.runUnderlying35 (ec rfl en)) ?_
    refine g_yes rfl rfl ?_
    refine s_val (r_geq rfl rfl) ?_
    refine s_val (r_pickf rfl rfl) ?_
    refine c_nil (l' := [_,_,_,_,_,_,_,_,_,_,_,_,_,_,_,_,_,_,_,_,_,_,_,_,_,_,_]) rfl ?_
    refine c_if rfl (fun h19 => ?_) (fun h19 => ?_)
    · skip
      refine c_rseq (n := 27) ⟨rfl, rfl⟩ ?_
      refine s_val (r_assign rfl) ?_
      refine c_nil (l' := [_,_,_,_,_,_,_,_,_,_,_,_,_,_,_,_,_,_,_,_,_,_,_,_,_,_,_]) rfl ?_
      refine wp_ret (x_thenRet ?_)
      refine e_ret (res1 rfl rfl) ⟨_, rfl, ?_⟩
      exact ⟨by unfold genAt; rw [if_pos (by omega), List.getD_eq_getElem?_getD, List.getElem?_eq_none (by omega)]; rfl, H⟩
    · skip
      refine wp_skip ?_
      refine x_thenNormal ?_
      refine c_rseq (n := 27) ⟨rfl, rfl⟩ ?_
      refine s_val (r_move rfl) ?_
      refine s_val (r_nilCheck rfl) ?_
      refine s_val (r_fieldAddr (k := 4) Try.runUnderlying91 rfl Try.sizeOf35 (by decide) rfl rfl) ?_
      refine s_val (r_load1 Try.isAgg35 rfl (H.rd0 hbl) rfl) ?_
      refine s_val (r_move rfl) ?_
      refine s_val (r_indexAddrS Try.runUnderlying35 Try.sizeOf36 rfl rfl (by omega) (by omega)) ?_
      refine s_val (r_load1 Try.isAgg36 rfl (H.rd0 hbu) (uC_at x.gens (i := s.toNat) (by omega) (by omega))) ?_
      refine s_val (r_assign rfl) ?_
      refine c_nil (l' := [_,_,_,_,_,_,_,_,_,_,_,_,_,_,_,_,_,_,_,_,_,_,_,_,_,_,_]) rfl ?_
      refine wp_ret ?_
      refine e_ret (res1 rfl rfl) ⟨_, rfl, ?_⟩
      exact ⟨by unfold genAt; rw [if_pos (by omega)], H⟩

set_option maxHeartbeats 4000000 in
theorem head_spec (bl : Nat) (x : LS) (w0 : World) (hg : LogR 51 89 72 w0 bl x) :
    Calls Try.prog 31 #[.pointer (some ⟨bl, 0, none⟩)] w0 fun e w => ∃ v, e = .returned v ∧ (((x.head < 0 ∧ v = .tuple #[.int .i64 (-1), .int .i64 0]) ∨ (0 ≤ x.head ∧ v = .tuple #[.int .i64 x.head, .int .i64 x.slot])) ∧ St w0 [] w []) := by
  have hg2 := hg
  obtain ⟨bm, cs, bu, T, fz, T2, fz2, hbl, hbu, hmr, hF⟩ := hg2
  obtain ⟨fg0, fg1, fz0, fz1, fgl, fcl, fu, ⟨fh0, fh1⟩, ⟨fs0, fs1⟩, ⟨fk0, fk1⟩, fkg⟩ := id hF
  have H := St.refl w0
  refine c_enter (args := [.pointer (some ⟨bl, 0, none⟩)]) (l := [.pointer (some ⟨bl, 0, none⟩), undef, undef, undef, undef, undef, undef, undef, undef, undef, undef, undef, undef, undef, undef, undef, undef, undef, undef, undef, undef]) Try.func31 Try.ntmps31 rfl rfl ?_
  refine c_rseq (n := 21) ⟨rfl, rfl⟩ ?_
  refine s_val (r_assign rfl) ?_
  refine s_val (r_assign rfl) ?_
  refine c_nil (l' := [_,_,_,_,_,_,_,_,_,_,_,_,_,_,_,_,_,_,_,_,_]) rfl ?_
  refine c_seq ?_
  refine c_rseq (n := 21) ⟨rfl, rfl⟩ ?_
  refine s_val (r_move rfl) ?_
  refine s_val (r_nilpF Try.runUnderlying28 rfl rfl) ?_
  refine s_val (r_move rfl) ?_
  refine g_yes rfl rfl ?_
  refine s_val (r_move rfl) ?_
  refine g_yes rfl rfl ?_
  refine s_val (r_nilCheck rfl) ?_
  refine g_yes rfl rfl ?_
  refine s_val (r_fieldAddr (k := 5) Try.runUnderlying91 rfl Try.sizeOf3 (by decide) rfl rfl) ?_
  refine g_yes rfl rfl ?_
  refine s_val (r_load1 Try.isAgg3 rfl (H.rd0 hbl) rfl) ?_
  refine g_yes rfl rfl ?_
  refine s_val (r_lss rfl rfl) ?_
  refine s_val (r_pickf rfl rfl) ?_
  refine c_nil (l' := [_,_,_,_,_,_,_,_,_,_,_,_,_,_,_,_,_,_,_,_,_]) rfl ?_
  refine c_if rfl (fun h12 => ?_) (fun h12 => ?_)
  · skip
    refine c_rseq (n := 21) ⟨rfl, rfl⟩ ?_
    refine s_val (r_assign rfl) ?_
    refine s_val (r_assign rfl) ?_
    refine c_nil (l' := [_,_,_,_,_,_,_,_,_,_,_,_,_,_,_,_,_,_,_,_,_]) rfl ?_
    refine wp_ret (x_thenRet ?_)
    refine e_ret (res2 rfl rfl rfl) ⟨_, rfl, ?_⟩
    exact ⟨.inl ⟨h12, rfl⟩, H⟩
  · skip
    refine wp_skip ?_
    refine x_thenNormal ?_
    refine c_seq ?_
    refine d_begin (sz := 21) ⟨rfl, rfl⟩ (by kernel_rfl) H (H) rfl ?_
    intro w H
    refine d_take (i := 0) rfl (by kernel_rfl) (fun _ _ _ h => h) H (fun _ _ => r_move rfl) rfl ?_
    refine d_take (i := 1) rfl (by kernel_rfl) (fun _ _ _ h => h) H (fun _ _ => r_nilCheck rfl) rfl ?_
    refine d_take (i := 2) rfl (by kernel_rfl) (fun _ _ _ h => h) H (fun _ _ => r_fieldAddr (k := 5) Try.runUnderlying91 rfl Try.sizeOf3 (by decide) rfl rfl) rfl ?_
    refine d_take (i := 3) rfl (by kernel_rfl) (fun _ _ _ h => h) H (fun _ HS => r_load1 Try.isAgg3 rfl (HS.rd0 hbl) rfl) rfl ?_
    refine d_take (i := 4) rfl (by kernel_rfl) (fun _ _ _ h => h) H (fun _ _ => r_move rfl) rfl ?_
    refine d_take (i := 5) rfl (by kernel_rfl) (fun _ _ _ h => h) H (fun _ _ => r_nilCheck rfl) rfl ?_
    refine d_take (i := 6) rfl (by kernel_rfl) (fun _ _ _ h => h) H (fun _ _ => r_fieldAddr (k := 6) Try.runUnderlying91 rfl Try.sizeOf3 (by decide) rfl rfl) rfl ?_
    refine d_take (i := 7) rfl (by kernel_rfl) (fun _ _ _ h => h) H (fun _ HS => r_load1 Try.isAgg3 rfl (HS.rd0 hbl) rfl) rfl ?_
    refine d_take (i := 8) rfl (by kernel_rfl) (fun _ _ _ h => h) H (fun _ _ => r_assign rfl) rfl ?_
    refine d_take (i := 9) rfl (by kernel_rfl) (fun _ _ _ h => h) H (fun _ _ => r_assign rfl) rfl ?_
    refine d_done (l' := [_,_,_,_,_,_,_,_,_,_,_,_,_,_,_,_,_,_,_,_,_]) (by kernel_rfl) rfl ?_
    refine x_thenNormal ?_
    refine wp_ret ?_
    refine e_ret (res2 rfl rfl rfl) ⟨_, rfl, ?_⟩
    exact ⟨.inr ⟨by omega, rfl⟩, H⟩

set_option maxHeartbeats 4000000 in
theorem room_spec (bl : Nat) (x : LS) (w0 : World) (hg : LogR 51 89 72 w0 bl x) :
    Calls Try.prog 24 #[.pointer (some ⟨bl, 0, none⟩)] w0 fun e w => ∃ v, e = .returned v ∧ (v = .int .i64 (room x) ∧ St w0 [] w []) := by
  have hg2 := hg
  obtain ⟨bm, cs, bu, T, fz, T2, fz2, hbl, hbu, hmr, hF⟩ := hg2
  obtain ⟨fg0, fg1, fz0, fz1, fgl, fcl, fu, ⟨fh0, fh1⟩, ⟨fs0, fs1⟩, ⟨fk0, fk1⟩, fkg⟩ := id hF
  have H := St.refl w0
  refine c_enter (args := [.pointer (some ⟨bl, 0, none⟩)]) (l := [.pointer (some ⟨bl, 0, none⟩), undef, undef, undef, undef, undef, undef, undef, undef, undef, undef, undef, undef, undef, undef, undef, undef, undef, undef, undef, undef, undef, undef, undef, undef, undef, undef, undef, undef, undef, undef, undef, undef, undef, undef, undef, undef, undef, undef, undef, undef, undef, undef]) Try.func24 Try.ntmps24 rfl rfl ?_
  refine c_rseq (n := 43) ⟨rfl, rfl⟩ ?_
  refine s_val (r_assign rfl) ?_
  refine c_nil (l' := [_,_,_,_,_,_,_,_,_,_,_,_,_,_,_,_,_,_,_,_,_,_,_,_,_,_,_,_,_,_,_,_,_,_,_,_,_,_,_,_,_,_,_]) rfl ?_
  refine c_seq ?_
  refine c_rseq (n := 43) ⟨rfl, rfl⟩ ?_
  refine s_val (r_move rfl) ?_
  refine s_val (r_nilpF Try.runUnderlying28 rfl rfl) ?_
  refine c_nil (l' := [_,_,_,_,_,_,_,_,_,_,_,_,_,_,_,_,_,_,_,_,_,_,_,_,_,_,_,_,_,_,_,_,_,_,_,_,_,_,_,_,_,_,_]) rfl ?_
  refine c_iff rfl ?_
  refine wp_skip ?_
  refine x_thenNormal ?_
  refine c_rseq (n := 43) ⟨rfl, rfl⟩ ?_
  refine s_val (r_assign rfl) ?_
  refine c_nil (l' := [_,_,_,_,_,_,_,_,_,_,_,_,_,_,_,_,_,_,_,_,_,_,_,_,_,_,_,_,_,_,_,_,_,_,_,_,_,_,_,_,_,_,_]) rfl ?_
  refine c_cut (fun (l0 : List Value) (l : List Value) (w : World) => ∃ (u8 u9 u10 u11 u12 u13 u14 u15 u16 u17 u18 u19 u20 u21 u22 : Value) (n0 : Int), l = ovr l0 [N_, N_, N_, Y_ (.int .i64 n0), N_, N_, N_, N_, Y_ u8, Y_ u9, Y_ u10, Y_ u11, Y_ u12, Y_ u13, Y_ u14, Y_ u15, Y_ u16, Y_ u17, Y_ u18, Y_ u19, Y_ u20, Y_ u21, Y_ u22] ∧ n0 = (if 0 ≤ x.head then x.z - x.slot else 0) ∧ St w0 [] w []) ?_ ?_
  · skip
    refine c_rseq (n := 43) ⟨rfl, rfl⟩ ?_
    refine s_val (r_move rfl) ?_
    refine s_val (r_nilCheck rfl) ?_
    refine s_val (r_fieldAddr (k := 5) Try.runUnderlying91 rfl Try.sizeOf3 (by decide) rfl rfl) ?_
    refine s_val (r_load1 Try.isAgg3 rfl (H.rd0 hbl) rfl) ?_
    refine s_val (r_geq rfl rfl) ?_
    refine c_nil (l' := [_,_,_,_,_,_,_,_,_,_,_,_,_,_,_,_,_,_,_,_,_,_,_,_,_,_,_,_,_,_,_,_,_,_,_,_,_,_,_,_,_,_,_]) rfl ?_
    refine c_if rfl (fun h12 => ?_) (fun h12 => ?_)
    · skip
      refine d_begin (sz := 43) ⟨rfl, rfl⟩ (by kernel_rfl) H (H) rfl ?_
      intro w H
      refine d_take (i := 0) rfl (by kernel_rfl) (fun _ _ _ h => h) H (fun _ _ => r_move rfl) rfl ?_
      refine d_take (i := 1) rfl (by kernel_rfl) (fun _ _ _ h => h) H (fun _ _ => r_nilCheck rfl) rfl ?_
      refine d_take (i := 2) rfl (by kernel_rfl) (fun _ _ _ h => h) H (fun _ _ => r_fieldAddr (k := 2) Try.runUnderlying91 rfl Try.sizeOf30 (by decide) rfl rfl) rfl ?_
      refine d_take (i := 3) rfl (by kernel_rfl) (fun _ _ _ h => h) H (fun _ _ => r_fieldAddr (k := 1) Try.runUnderlying30 rfl Try.sizeOf3 (by decide) rfl rfl) rfl ?_
      refine d_take (i := 4) rfl (by kernel_rfl) (fun _ _ _ h => h) H (fun _ HS => r_load1 Try.isAgg3 rfl (HS.rd0 hbl) rfl) rfl ?_
      refine d_take (i := 5) rfl (by kernel_rfl) (fun _ _ _ h => h) H (fun _ _ => r_move rfl) rfl ?_
      refine d_take (i := 6) rfl (by kernel_rfl) (fun _ _ _ h => h) H (fun _ _ => r_nilCheck rfl) rfl ?_
      refine d_take (i := 7) rfl (by kernel_rfl) (fun _ _ _ h => h) H (fun _ _ => r_fieldAddr (k := 6) Try.runUnderlying91 rfl Try.sizeOf3 (by decide) rfl rfl) rfl ?_
      refine d_take (i := 8) rfl (by kernel_rfl) (fun _ _ _ h => h) H (fun _ HS => r_load1 Try.isAgg3 rfl (HS.rd0 hbl) rfl) rfl ?_
      refine d_take (i := 9) rfl (by kernel_rfl) (fun _ _ _ h => h) H (fun _ _ => r_sub rfl rfl (w_i64 (by omega) (by omega))) rfl ?_
      refine d_take (i := 10) rfl (by kernel_rfl) (fun _ _ _ h => h) H (fun _ _ => r_assign rfl) rfl ?_
      refine d_done (l' := [_,_,_,_,_,_,_,_,_,_,_,_,_,_,_,_,_,_,_,_,_,_,_,_,_,_,_,_,_,_,_,_,_,_,_,_,_,_,_,_,_,_,_]) (by kernel_rfl) rfl ?_
      exact ⟨_, rfl, ⟨_,_,_,_,_,_,_,_,_,_,_,_,_,_,_,_, rfl, (by rw [if_pos h12]), H⟩⟩
    · skip
      refine wp_skip ?_
      exact ⟨_, rfl, ⟨_,_,_,_,_,_,_,_,_,_,_,_,_,_,_,_, rfl, (by rw [if_neg h12]), H⟩⟩
  · skip
    rintro l w ⟨u8, u9, u10, u11, u12, u13, u14, u15, u16, u17, u18, u19, u20, u21, u22, n0, hl, hn0, H⟩
    obtain rfl := hl.trans (rfl : _ = [_,_,_,_,_,_,_,_,_,_,_,_,_,_,_,_,_,_,_,_,_,_,_,_,_,_,_,_,_,_,_,_,_,_,_,_,_,_,_,_,_,_,_])
    clear hl
    have hn1 : 0 ≤ n0 ∧ n0 ≤ 32 := by rw [hn0]; split <;> omega
    refine c_seq ?_
    refine c_rseq (n := 43) ⟨rfl, rfl⟩ ?_
    refine s_val (r_move rfl) ?_
    refine s_val (r_nilCheck rfl) ?_
    refine s_val (r_fieldAddr (k := 4) Try.runUnderlying91 rfl Try.sizeOf35 (by decide) rfl rfl) ?_
    refine s_val (r_load1 Try.isAgg35 rfl (H.rd0 hbl) rfl) ?_
    refine s_val (r_lens Try.runUnderlying35 (ec rfl en)) ?_
    refine s_val (r_move rfl) ?_
    refine c_nil (l' := [_,_,_,_,_,_,_,_,_,_,_,_,_,_,_,_,_,_,_,_,_,_,_,_,_,_,_,_,_,_,_,_,_,_,_,_,_,_,_,_,_,_,_]) rfl ?_
    refine wp_block ?_
    refine c_loop (fun (l0 : List Value) (i : Nat) (l : List Value) (w : World) => ∃ (u5 u29 u30 u31 u32 u33 u34 u35 u36 u37 u38 u39 u40 u41 : Value) , l = ovr l0 [N_, N_, N_, Y_ (.int .i64 (rmL x.gens x.z n0 i)), N_, Y_ u5, N_, N_, N_, N_, N_, N_, N_, N_, N_, N_, N_, N_, N_, N_, N_, N_, N_, N_, N_, N_, N_, N_, Y_ (.int .i64 i), Y_ u29, Y_ u30, Y_ u31, Y_ u32, Y_ u33, Y_ u34, Y_ u35, Y_ u36, Y_ u37, Y_ u38, Y_ u39, Y_ u40, Y_ u41] ∧ i ≤ x.gens.length ∧ St w0 [] w ([])) (fun (i : Nat) => x.gens.length - i) 0 ⟨_,_,_,_,_,_,_,_,_,_,_,_,_,_, rfl, by omega, H⟩ ?_
    intro i l w ⟨u5, u29, u30, u31, u32, u33, u34, u35, u36, u37, u38, u39, u40, u41, hl, hi, H⟩
    obtain rfl := hl.trans (rfl : _ = [_,_,_,_,_,_,_,_,_,_,_,_,_,_,_,_,_,_,_,_,_,_,_,_,_,_,_,_,_,_,_,_,_,_,_,_,_,_,_,_,_,_,_])
    clear hl
    have hrm := rmL_rng (ns := x.gens) (n0 := n0) (z := x.z) (by omega) (by omega) i
    refine c_rseq (n := 43) ⟨rfl, rfl⟩ ?_
    refine s_val (r_lss rfl rfl) ?_
    refine c_nil (l' := [_,_,_,_,_,_,_,_,_,_,_,_,_,_,_,_,_,_,_,_,_,_,_,_,_,_,_,_,_,_,_,_,_,_,_,_,_,_,_,_,_,_,_]) rfl ?_
    refine c_seq ?_
    refine c_if rfl (fun h29 => ?_) (fun h29 => ?_)
    · skip
      refine wp_skip ?_
      refine x_thenNormal ?_
      refine c_seq ?_
      refine wp_block ?_
      refine c_rseq (n := 43) ⟨rfl, rfl⟩ ?_
      refine s_val (r_indexAddrS Try.runUnderlying35 Try.sizeOf36 rfl rfl (by omega) (by omega)) ?_
      refine s_val (r_load1 Try.isAgg36 rfl (H.rd0 hbu) (uC_at x.gens (i := i) (by omega) (by omega))) ?_
      refine s_val (r_assign rfl) ?_
      refine c_nil (l' := [_,_,_,_,_,_,_,_,_,_,_,_,_,_,_,_,_,_,_,_,_,_,_,_,_,_,_,_,_,_,_,_,_,_,_,_,_,_,_,_,_,_,_]) rfl ?_
      refine c_rseq (n := 43) ⟨rfl, rfl⟩ ?_
      refine s_val (r_move rfl) ?_
      refine s_val (r_eql rfl rfl) ?_
      refine c_nil (l' := [_,_,_,_,_,_,_,_,_,_,_,_,_,_,_,_,_,_,_,_,_,_,_,_,_,_,_,_,_,_,_,_,_,_,_,_,_,_,_,_,_,_,_]) rfl ?_
      refine c_if rfl (fun h33 => ?_) (fun h33 => ?_)
      · skip
        have hst : rmL x.gens x.z n0 (i + 1) = rmL x.gens x.z n0 i + x.z := by show (if _ then _ else _) = _; rw [if_pos h33]
        refine c_region (n := 43) ⟨rfl, rfl⟩ ?_
        refine s_val (r_move rfl) ?_
        refine s_val (r_move rfl) ?_
        refine s_val (r_nilCheck rfl) ?_
        refine s_val (r_fieldAddr (k := 2) Try.runUnderlying91 rfl Try.sizeOf30 (by decide) rfl rfl) ?_
        refine s_val (r_fieldAddr (k := 1) Try.runUnderlying30 rfl Try.sizeOf3 (by decide) rfl rfl) ?_
        refine s_val (r_load1 Try.isAgg3 rfl (H.rd0 hbl) rfl) ?_
        refine s_val (r_add rfl rfl (w_i64e (r := rmL x.gens x.z n0 (i + 1)) hst.symm (by omega) (by omega))) ?_
        refine s_val (r_assign rfl) ?_
        refine c_nil0 (l' := [_,_,_,_,_,_,_,_,_,_,_,_,_,_,_,_,_,_,_,_,_,_,_,_,_,_,_,_,_,_,_,_,_,_,_,_,_,_,_,_,_,_,_]) rfl ?_
        refine x_blockNormal ?_
        refine x_thenNormal ?_
        refine c_region (n := 43) ⟨rfl, rfl⟩ ?_
        refine s_val (r_add rfl rfl (w_i64 (by omega) (by omega))) ?_
        refine s_val (r_move rfl) ?_
        refine c_nil0 (l' := [_,_,_,_,_,_,_,_,_,_,_,_,_,_,_,_,_,_,_,_,_,_,_,_,_,_,_,_,_,_,_,_,_,_,_,_,_,_,_,_,_,_,_]) rfl ?_
        skip
        exact ⟨i + 1, _, rfl, ⟨_,_,_,_,_,_,_,_,_,_,_,_,_,_, rfl, by omega, H⟩, by omega⟩
      · skip
        have hst : rmL x.gens x.z n0 (i + 1) = rmL x.gens x.z n0 i := by show (if _ then _ else _) = _; rw [if_neg h33]
        refine wp_skip ?_
        refine x_blockNormal ?_
        refine x_thenNormal ?_
        refine c_region (n := 43) ⟨rfl, rfl⟩ ?_
        refine s_val (r_add rfl rfl (w_i64 (by omega) (by omega))) ?_
        refine s_val (r_move rfl) ?_
        refine c_nil0 (l' := [_,_,_,_,_,_,_,_,_,_,_,_,_,_,_,_,_,_,_,_,_,_,_,_,_,_,_,_,_,_,_,_,_,_,_,_,_,_,_,_,_,_,_]) rfl ?_
        rw [← hst]
        exact ⟨i + 1, _, rfl, ⟨_,_,_,_,_,_,_,_,_,_,_,_,_,_, rfl, by omega, H⟩, by omega⟩
    · skip
      obtain rfl : i = x.gens.length := by omega
      refine wp_exit (x_thenExit (x_thenExit (x_blockHit ?_)))
      refine x_thenNormal ?_
      refine c_rseq (n := 43) ⟨rfl, rfl⟩ ?_
      refine s_val (r_move rfl) ?_
      refine s_val (r_assign rfl) ?_
      refine c_nil (l' := [_,_,_,_,_,_,_,_,_,_,_,_,_,_,_,_,_,_,_,_,_,_,_,_,_,_,_,_,_,_,_,_,_,_,_,_,_,_,_,_,_,_,_]) rfl ?_
      refine wp_ret ?_
      refine e_ret (res1 rfl rfl) ⟨_, rfl, ?_⟩
      exact ⟨by unfold room; rw [← hn0], H⟩

set_option maxHeartbeats 4000000 in
theorem next_spec (bl : Nat) (x : LS) (w0 : World) (hg : LogR 51 89 72 w0 bl x) :
    Calls Try.prog 33 #[.pointer (some ⟨bl, 0, none⟩)] w0 fun e w => ∃ v, e = .returned v ∧ (((0 ≤ x.head ∧ x.slot < x.z ∧ v = .tuple #[.int .i64 x.head, .int .i64 x.slot, .int .u64 (x.gens.getD x.head.toNat 0), .bool true]) ∨ (¬ (0 ≤ x.head ∧ x.slot < x.z) ∧ v = .tuple #[.int .i64 (firstZ x.gens), .int .i64 0, .int .u64 (x.known + 1), .bool (decide (0 ≤ firstZ x.gens))])) ∧ St w0 [] w []) := by
  have hg2 := hg
  obtain ⟨bm, cs, bu, T, fz, T2, fz2, hbl, hbu, hmr, hF⟩ := hg2
  obtain ⟨fg0, fg1, fz0, fz1, fgl, fcl, fu, ⟨fh0, fh1⟩, ⟨fs0, fs1⟩, ⟨fk0, fk1⟩, fkg⟩ := id hF
  have H := St.refl w0
  refine c_enter (args := [.pointer (some ⟨bl, 0, none⟩)]) (l := [.pointer (some ⟨bl, 0, none⟩), undef, undef, undef, undef, undef, undef, undef, undef, undef, undef, undef, undef, undef, undef, undef, undef, undef, undef, undef, undef, undef, undef, undef, undef, undef, undef, undef, undef, undef, undef, undef, undef, undef, undef, undef, undef, undef, undef, undef, undef, undef, undef, undef, undef, undef, undef, undef, undef, undef, undef, undef, undef, undef]) Try.func33 Try.ntmps33 rfl rfl ?_
  refine c_rseq (n := 54) ⟨rfl, rfl⟩ ?_
  refine s_val (r_assign rfl) ?_
  refine s_val (r_assign rfl) ?_
  refine s_val (r_assign rfl) ?_
  refine s_val (r_assign rfl) ?_
  refine c_nil (l' := [_,_,_,_,_,_,_,_,_,_,_,_,_,_,_,_,_,_,_,_,_,_,_,_,_,_,_,_,_,_,_,_,_,_,_,_,_,_,_,_,_,_,_,_,_,_,_,_,_,_,_,_,_,_]) rfl ?_
  refine c_seq ?_
  refine c_seq ?_
  refine d_begin (sz := 54) ⟨rfl, rfl⟩ (by kernel_rfl) H (H) rfl ?_
  intro w H
  refine d_take (i := 0) rfl (by kernel_rfl) (fun _ _ _ h => h) H (fun _ _ => r_move rfl) rfl ?_
  refine d_take (i := 1) rfl (by kernel_rfl) (fun _ _ _ h => h) H (fun _ _ => r_nilCheck rfl) rfl ?_
  refine d_take (i := 2) rfl (by kernel_rfl) (fun _ _ _ h => h) H (fun _ _ => r_fieldAddr (k := 5) Try.runUnderlying91 rfl Try.sizeOf3 (by decide) rfl rfl) rfl ?_
  refine d_take (i := 3) rfl (by kernel_rfl) (fun _ _ _ h => h) H (fun _ HS => r_load1 Try.isAgg3 rfl (HS.rd0 hbl) rfl) rfl ?_
  refine d_take (i := 4) rfl (by kernel_rfl) (fun _ _ _ h => h) H (fun _ _ => r_geq rfl rfl) rfl ?_
  refine d_part (fun h10 => ?_) (fun h10 => ?_)
  · skip
    refine d_take (i := 5) rfl (by kernel_rfl) (fun _ _ _ h => h) H (fun _ _ => r_move rfl) rfl ?_
    refine d_takeG (i := 6) rfl (by kernel_rfl) (fun _ _ _ h => h) rfl rfl H (fun _ _ => r_move rfl) rfl ?_
    refine d_takeG (i := 7) rfl (by kernel_rfl) (fun _ _ _ h => h) rfl rfl H (fun _ _ => r_nilCheck rfl) rfl ?_
    refine d_takeG (i := 8) rfl (by kernel_rfl) (fun _ _ _ h => h) rfl rfl H (fun _ _ => r_fieldAddr (k := 6) Try.runUnderlying91 rfl Try.sizeOf3 (by decide) rfl rfl) rfl ?_
    refine d_takeG (i := 9) rfl (by kernel_rfl) (fun _ _ _ h => h) rfl rfl H (fun _ HS => r_load1 Try.isAgg3 rfl (HS.rd0 hbl) rfl) rfl ?_
    refine d_takeG (i := 10) rfl (by kernel_rfl) (fun _ _ _ h => h) rfl rfl H (fun _ _ => r_move rfl) rfl ?_
    refine d_takeG (i := 11) rfl (by kernel_rfl) (fun _ _ _ h => h) rfl rfl H (fun _ _ => r_nilCheck rfl) rfl ?_
    refine d_takeG (i := 12) rfl (by kernel_rfl) (fun _ _ _ h => h) rfl rfl H (fun _ _ => r_fieldAddr (k := 2) Try.runUnderlying91 rfl Try.sizeOf30 (by decide) rfl rfl) rfl ?_
    refine d_takeG (i := 13) rfl (by kernel_rfl) (fun _ _ _ h => h) rfl rfl H (fun _ _ => r_fieldAddr (k := 1) Try.runUnderlying30 rfl Try.sizeOf3 (by decide) rfl rfl) rfl ?_
    refine d_takeG (i := 14) rfl (by kernel_rfl) (fun _ _ _ h => h) rfl rfl H (fun _ HS => r_load1 Try.isAgg3 rfl (HS.rd0 hbl) rfl) rfl ?_
    refine d_takeG (i := 15) rfl (by kernel_rfl) (fun _ _ _ h => h) rfl rfl H (fun _ _ => r_lss rfl rfl) rfl ?_
    refine d_take (i := 16) rfl (by kernel_rfl) (fun _ _ _ h => h) H (fun _ _ => r_pickt rfl rfl) rfl ?_
    refine d_done (l' := [_,_,_,_,_,_,_,_,_,_,_,_,_,_,_,_,_,_,_,_,_,_,_,_,_,_,_,_,_,_,_,_,_,_,_,_,_,_,_,_,_,_,_,_,_,_,_,_,_,_,_,_,_,_]) (by kernel_rfl) rfl ?_
    refine x_thenNormal ?_
    refine c_if rfl (fun h22 => ?_) (fun h22 => ?_)
    · skip
      refine c_seq ?_
      refine d_begin (sz := 54) ⟨rfl, rfl⟩ (by kernel_rfl) H (H) rfl ?_
      intro w H
      refine d_take (i := 0) rfl (by kernel_rfl) (fun _ _ _ h => h) H (fun _ _ => r_move rfl) rfl ?_
      refine d_take (i := 1) rfl (by kernel_rfl) (fun _ _ _ h => h) H (fun _ _ => r_nilCheck rfl) rfl ?_
      refine d_take (i := 2) rfl (by kernel_rfl) (fun _ _ _ h => h) H (fun _ _ => r_fieldAddr (k := 5) Try.runUnderlying91 rfl Try.sizeOf3 (by decide) rfl rfl) rfl ?_
      refine d_take (i := 3) rfl (by kernel_rfl) (fun _ _ _ h => h) H (fun _ HS => r_load1 Try.isAgg3 rfl (HS.rd0 hbl) rfl) rfl ?_
      refine d_take (i := 4) rfl (by kernel_rfl) (fun _ _ _ h => h) H (fun _ _ => r_move rfl) rfl ?_
      refine d_take (i := 5) rfl (by kernel_rfl) (fun _ _ _ h => h) H (fun _ _ => r_nilCheck rfl) rfl ?_
      refine d_take (i := 6) rfl (by kernel_rfl) (fun _ _ _ h => h) H (fun _ _ => r_fieldAddr (k := 6) Try.runUnderlying91 rfl Try.sizeOf3 (by decide) rfl rfl) rfl ?_
      refine d_take (i := 7) rfl (by kernel_rfl) (fun _ _ _ h => h) H (fun _ HS => r_load1 Try.isAgg3 rfl (HS.rd0 hbl) rfl) rfl ?_
      refine d_take (i := 8) rfl (by kernel_rfl) (fun _ _ _ h => h) H (fun _ _ => r_move rfl) rfl ?_
      refine d_take (i := 9) rfl (by kernel_rfl) (fun _ _ _ h => h) H (fun _ _ => r_nilCheck rfl) rfl ?_
      refine d_take (i := 10) rfl (by kernel_rfl) (fun _ _ _ h => h) H (fun _ _ => r_fieldAddr (k := 4) Try.runUnderlying91 rfl Try.sizeOf35 (by decide) rfl rfl) rfl ?_
      refine d_take (i := 11) rfl (by kernel_rfl) (fun _ _ _ h => h) H (fun _ HS => r_load1 Try.isAgg35 rfl (HS.rd0 hbl) rfl) rfl ?_
      refine d_take (i := 12) rfl (by kernel_rfl) (fun _ _ _ h => h) H (fun _ _ => r_move rfl) rfl ?_
      refine d_take (i := 13) rfl (by kernel_rfl) (fun _ _ _ h => h) H (fun _ _ => r_nilCheck rfl) rfl ?_
      refine d_take (i := 14) rfl (by kernel_rfl) (fun _ _ _ h => h) H (fun _ _ => r_fieldAddr (k := 5) Try.runUnderlying91 rfl Try.sizeOf3 (by decide) rfl rfl) rfl ?_
      refine d_take (i := 15) rfl (by kernel_rfl) (fun _ _ _ h => h) H (fun _ HS => r_load1 Try.isAgg3 rfl (HS.rd0 hbl) rfl) rfl ?_
      refine d_take (i := 16) rfl (by kernel_rfl) (fun _ _ _ h => h) H (fun _ _ => r_indexAddrS Try.runUnderlying35 Try.sizeOf36 rfl rfl (by omega) (by omega)) rfl ?_
      refine d_take (i := 17) rfl (by kernel_rfl) (fun _ _ _ h => h) H (fun _ HS => r_load1 Try.isAgg36 rfl (HS.rd0 hbu) (uC_at x.gens (i := x.head.toNat) (by omega) (by omega))) rfl ?_
      refine d_take (i := 18) rfl (by kernel_rfl) (fun _ _ _ h => h) H (fun _ _ => r_assign rfl) rfl ?_
      refine d_take (i := 19) rfl (by kernel_rfl) (fun _ _ _ h => h) H (fun _ _ => r_assign rfl) rfl ?_
      refine d_take (i := 20) rfl (by kernel_rfl) (fun _ _ _ h => h) H (fun _ _ => r_assign rfl) rfl ?_
      refine d_take (i := 21) rfl (by kernel_rfl) (fun _ _ _ h => h) H (fun _ _ => r_assign rfl) rfl ?_
      refine d_done (l' := [_,_,_,_,_,_,_,_,_,_,_,_,_,_,_,_,_,_,_,_,_,_,_,_,_,_,_,_,_,_,_,_,_,_,_,_,_,_,_,_,_,_,_,_,_,_,_,_,_,_,_,_,_,_]) (by kernel_rfl) rfl ?_
      refine x_thenNormal ?_
      refine wp_ret (x_thenRet ?_)
      refine e_ret (res4 rfl rfl rfl rfl rfl) ⟨_, rfl, ?_⟩
      exact ⟨.inl ⟨h10, h22, rfl⟩, H⟩
    · skip
      refine wp_skip ?_
      refine x_thenNormal ?_
      refine c_rseq (n := 54) ⟨rfl, rfl⟩ ?_
      refine s_val (r_move rfl) ?_
      refine s_val (r_nilCheck rfl) ?_
      refine s_val (r_fieldAddr (k := 4) Try.runUnderlying91 rfl Try.sizeOf35 (by decide) rfl rfl) ?_
      refine s_val (r_load1 Try.isAgg35 rfl (H.rd0 hbl) rfl) ?_
      refine s_call (r_call Try.call56 (ec rfl (ec rfl en))) (index_spec _ _ x.gens (by omega) _ (fun _ => ⟨bu, 0, [], [], _,_, rfl, by rw [List.append_nil]; exact H.rd0 hbu, rfl⟩)) ?_
      rintro v w ⟨rfl, HC⟩
      replace H := H.quiet HC
      refine s_val (r_assign rfl) ?_
      refine c_nil (l' := [_,_,_,_,_,_,_,_,_,_,_,_,_,_,_,_,_,_,_,_,_,_,_,_,_,_,_,_,_,_,_,_,_,_,_,_,_,_,_,_,_,_,_,_,_,_,_,_,_,_,_,_,_,_]) rfl ?_
      refine c_seq ?_
      refine d_begin (sz := 54) ⟨rfl, rfl⟩ (by kernel_rfl) H (H) rfl ?_
      intro w H
      refine d_take (i := 0) rfl (by kernel_rfl) (fun _ _ _ h => h) H (fun _ _ => r_move rfl) rfl ?_
      refine d_take (i := 1) rfl (by kernel_rfl) (fun _ _ _ h => h) H (fun _ _ => r_move rfl) rfl ?_
      refine d_take (i := 2) rfl (by kernel_rfl) (fun _ _ _ h => h) H (fun _ _ => r_nilCheck rfl) rfl ?_
      refine d_take (i := 3) rfl (by kernel_rfl) (fun _ _ _ h => h) H (fun _ _ => r_fieldAddr (k := 7) Try.runUnderlying91 rfl Try.sizeOf36 (by decide) rfl rfl) rfl ?_
      refine d_take (i := 4) rfl (by kernel_rfl) (fun _ _ _ h => h) H (fun _ HS => r_load1 Try.isAgg36 rfl (HS.rd0 hbl) rfl) rfl ?_
      refine d_take (i := 5) rfl (by kernel_rfl) (fun _ _ _ h => h) H (fun _ _ => r_add rfl rfl (w_u64 (by omega) (by omega))) rfl ?_
      refine d_take (i := 6) rfl (by kernel_rfl) (fun _ _ _ h => h) H (fun _ _ => r_move rfl) rfl ?_
      refine d_take (i := 7) rfl (by kernel_rfl) (fun _ _ _ h => h) H (fun _ _ => r_geq rfl rfl) rfl ?_
      refine d_take (i := 8) rfl (by kernel_rfl) (fun _ _ _ h => h) H (fun _ _ => r_assign rfl) rfl ?_
      refine d_take (i := 9) rfl (by kernel_rfl) (fun _ _ _ h => h) H (fun _ _ => r_assign rfl) rfl ?_
      refine d_take (i := 10) rfl (by kernel_rfl) (fun _ _ _ h => h) H (fun _ _ => r_assign rfl) rfl ?_
      refine d_take (i := 11) rfl (by kernel_rfl) (fun _ _ _ h => h) H (fun _ _ => r_assign rfl) rfl ?_
      refine d_done (l' := [_,_,_,_,_,_,_,_,_,_,_,_,_,_,_,_,_,_,_,_,_,_,_,_,_,_,_,_,_,_,_,_,_,_,_,_,_,_,_,_,_,_,_,_,_,_,_,_,_,_,_,_,_,_]) (by kernel_rfl) rfl ?_
      refine x_thenNormal ?_
      refine wp_ret ?_
      refine e_ret (res4 rfl rfl rfl rfl rfl) ⟨_, rfl, ?_⟩
      exact ⟨.inr ⟨fun h => h22 h.2, rfl⟩, H⟩
  · skip
    refine d_take (i := 5) rfl (by kernel_rfl) (fun _ _ _ h => h) H (fun _ _ => r_move rfl) rfl ?_
    refine d_takeN (i := 6) rfl (by kernel_rfl) (fun _ _ _ h => h) rfl rfl (by decide) H rfl ?_
    refine d_takeN (i := 7) rfl (by kernel_rfl) (fun _ _ _ h => h) rfl rfl (by decide) H rfl ?_
    refine d_takeN (i := 8) rfl (by kernel_rfl) (fun _ _ _ h => h) rfl rfl (by decide) H rfl ?_
    refine d_takeN (i := 9) rfl (by kernel_rfl) (fun _ _ _ h => h) rfl rfl (by decide) H rfl ?_
    refine d_takeN (i := 10) rfl (by kernel_rfl) (fun _ _ _ h => h) rfl rfl (by decide) H rfl ?_
    refine d_takeN (i := 11) rfl (by kernel_rfl) (fun _ _ _ h => h) rfl rfl (by decide) H rfl ?_
    refine d_takeN (i := 12) rfl (by kernel_rfl) (fun _ _ _ h => h) rfl rfl (by decide) H rfl ?_
    refine d_takeN (i := 13) rfl (by kernel_rfl) (fun _ _ _ h => h) rfl rfl (by decide) H rfl ?_
    refine d_takeN (i := 14) rfl (by kernel_rfl) (fun _ _ _ h => h) rfl rfl (by decide) H rfl ?_
    refine d_takeN (i := 15) rfl (by kernel_rfl) (fun _ _ _ h => h) rfl rfl (by decide) H rfl ?_
    refine d_take (i := 16) rfl (by kernel_rfl) (fun _ _ _ h => h) H (fun _ _ => r_pickf rfl rfl) rfl ?_
    refine d_done (l' := [_,_,_,_,_,_,_,_,_,_,_,_,_,_,_,_,_,_,_,_,_,_,_,_,_,_,_,_,_,_,_,_,_,_,_,_,_,_,_,_,_,_,_,_,_,_,_,_,_,_,_,_,_,_]) (by kernel_rfl) rfl ?_
    refine x_thenNormal ?_
    refine c_iff rfl ?_
    refine wp_skip ?_
    refine x_thenNormal ?_
    refine c_rseq (n := 54) ⟨rfl, rfl⟩ ?_
    refine s_val (r_move rfl) ?_
    refine s_val (r_nilCheck rfl) ?_
    refine s_val (r_fieldAddr (k := 4) Try.runUnderlying91 rfl Try.sizeOf35 (by decide) rfl rfl) ?_
    refine s_val (r_load1 Try.isAgg35 rfl (H.rd0 hbl) rfl) ?_
    refine s_call (r_call Try.call56 (ec rfl (ec rfl en))) (index_spec _ _ x.gens (by omega) _ (fun _ => ⟨bu, 0, [], [], _,_, rfl, by rw [List.append_nil]; exact H.rd0 hbu, rfl⟩)) ?_
    rintro v w ⟨rfl, HC⟩
    replace H := H.quiet HC
    refine s_val (r_assign rfl) ?_
    refine c_nil (l' := [_,_,_,_,_,_,_,_,_,_,_,_,_,_,_,_,_,_,_,_,_,_,_,_,_,_,_,_,_,_,_,_,_,_,_,_,_,_,_,_,_,_,_,_,_,_,_,_,_,_,_,_,_,_]) rfl ?_
    refine c_seq ?_
    refine d_begin (sz := 54) ⟨rfl, rfl⟩ (by kernel_rfl) H (H) rfl ?_
    intro w H
    refine d_take (i := 0) rfl (by kernel_rfl) (fun _ _ _ h => h) H (fun _ _ => r_move rfl) rfl ?_
    refine d_take (i := 1) rfl (by kernel_rfl) (fun _ _ _ h => h) H (fun _ _ => r_move rfl) rfl ?_
    refine d_take (i := 2) rfl (by kernel_rfl) (fun _ _ _ h => h) H (fun _ _ => r_nilCheck rfl) rfl ?_
    refine d_take (i := 3) rfl (by kernel_rfl) (fun _ _ _ h => h) H (fun _ _ => r_fieldAddr (k := 7) Try.runUnderlying91 rfl Try.sizeOf36 (by decide) rfl rfl) rfl ?_
    refine d_take (i := 4) rfl (by kernel_rfl) (fun _ _ _ h => h) H (fun _ HS => r_load1 Try.isAgg36 rfl (HS.rd0 hbl) rfl) rfl ?_
    refine d_take (i := 5) rfl (by kernel_rfl) (fun _ _ _ h => h) H (fun _ _ => r_add rfl rfl (w_u64 (by omega) (by omega))) rfl ?_
    refine d_take (i := 6) rfl (by kernel_rfl) (fun _ _ _ h => h) H (fun _ _ => r_move rfl) rfl ?_
    refine d_take (i := 7) rfl (by kernel_rfl) (fun _ _ _ h => h) H (fun _ _ => r_geq rfl rfl) rfl ?_
    refine d_take (i := 8) rfl (by kernel_rfl) (fun _ _ _ h => h) H (fun _ _ => r_assign rfl) rfl ?_
    refine d_take (i := 9) rfl (by kernel_rfl) (fun _ _ _ h => h) H (fun _ _ => r_assign rfl) rfl ?_
    refine d_take (i := 10) rfl (by kernel_rfl) (fun _ _ _ h => h) H (fun _ _ => r_assign rfl) rfl ?_
    refine d_take (i := 11) rfl (by kernel_rfl) (fun _ _ _ h => h) H (fun _ _ => r_assign rfl) rfl ?_
    refine d_done (l' := [_,_,_,_,_,_,_,_,_,_,_,_,_,_,_,_,_,_,_,_,_,_,_,_,_,_,_,_,_,_,_,_,_,_,_,_,_,_,_,_,_,_,_,_,_,_,_,_,_,_,_,_,_,_]) (by kernel_rfl) rfl ?_
    refine x_thenNormal ?_
    refine wp_ret ?_
    refine e_ret (res4 rfl rfl rfl rfl rfl) ⟨_, rfl, ?_⟩
    exact ⟨.inr ⟨fun h => h10 h.1, rfl⟩, H⟩

theorem unpack_yes (cs : List Value) (n : Int) (h0 : 0 ≤ n) (h1 : n < 4096) (s : Sec) (hs : Sealed n s) (w0 : World) :
    Calls Try.prog 41 #[.iface 72 (.agg cs.toArray), .int .i64 n, .agg (kC s).toArray] w0 fun e w => ∃ v, e = .returned v ∧ ∃ a cap N, v = .tuple #[.int .u64 (genU s), .slice a (bodyU s).length cap, .bool true] ∧ RowN 1 5 (bC (bodyU s)) (bodyU s).length a cap N ∧ St w0 [] w N :=
  (unpack_spec cs n h0 h1 s w0).mono fun _ _ ⟨v, he, h⟩ => ⟨v, he, (h.resolve_right fun h => h.1 hs).2⟩

set_option maxHeartbeats 4000000 in
theorem lread_spec (bl : Nat) (x : LS) (n : Int) (hn0 : -1000000 ≤ n) (hn1 : n ≤ 1000000) (w0 : World) (hg : LogR 51 89 72 w0 bl x) :
    Calls Try.prog 19 #[.pointer (some ⟨bl, 0, none⟩), .int .i64 n] w0 fun e w => ∃ v, e = .returned v ∧ (((x.gens.getD ((n - 2) / x.z).toNat 0 = 0 ∨ ¬ (2 ≤ n ∧ n < 2 + x.g * x.z)) ∧ v = .tuple #[.slice none 0 0, .int .i64 2] ∧ St w0 [] w []) ∨ (2 ≤ n ∧ n < 2 + x.g * x.z ∧ x.gens.getD ((n - 2) / x.z).toNat 0 ≠ 0 ∧ ((Sealed n (sd x.C n.toNat) ∧ genU (sd x.C n.toNat) = x.gens.getD ((n - 2) / x.z).toNat 0 ∧ ∃ a cap N, v = .tuple #[.slice a (bodyU (sd x.C n.toNat)).length cap, .int .i64 0] ∧ RowN 1 5 (bC (bodyU (sd x.C n.toNat))) (bodyU (sd x.C n.toNat)).length a cap N ∧ St w0 [] w N) ∨ (¬ (Sealed n (sd x.C n.toNat) ∧ genU (sd x.C n.toNat) = x.gens.getD ((n - 2) / x.z).toNat 0) ∧ v = .tuple #[.slice none 0 0, .int .i64 9] ∧ St w0 [] w [])))) := by
  have hg2 := hg
  obtain ⟨bm, cs, bu, T, fz, T2, fz2, hbl, hbu, hmr, hF⟩ := hg2
  obtain ⟨fg0, fg1, fz0, fz1, fgl, fcl, fu, ⟨fh0, fh1⟩, ⟨fs0, fs1⟩, ⟨fk0, fk1⟩, fkg⟩ := id hF
  have H := St.refl w0
  refine c_enter (args := [.pointer (some ⟨bl, 0, none⟩), .int .i64 n]) (l := [.pointer (some ⟨bl, 0, none⟩), .int .i64 n, undef, undef, undef, undef, undef, undef, undef, undef, undef, undef, undef, undef, undef, undef, undef, undef, undef, undef, undef, undef, undef, undef, undef, undef, undef, undef, undef, undef, undef, undef, undef, undef, undef, undef, undef, undef, undef, undef, undef, undef, undef, undef, undef, undef, undef, undef, undef, undef, undef, undef, undef, undef, undef, undef, undef, undef, undef, undef, undef, undef, undef, undef, undef, undef, undef, undef, undef, undef, undef, undef, undef, undef]) Try.func19 Try.ntmps19 rfl rfl ?_
  refine c_rseq (n := 74) ⟨rfl, rfl⟩ ?_
  refine s_val (r_assign rfl) ?_
  refine s_val (r_assign rfl) ?_
  refine c_nil (l' := [_,_,_,_,_,_,_,_,_,_,_,_,_,_,_,_,_,_,_,_,_,_,_,_,_,_,_,_,_,_,_,_,_,_,_,_,_,_,_,_,_,_,_,_,_,_,_,_,_,_,_,_,_,_,_,_,_,_,_,_,_,_,_,_,_,_,_,_,_,_,_,_,_,_]) rfl ?_
  refine c_seq ?_
  refine c_rseq (n := 74) ⟨rfl, rfl⟩ ?_
  refine s_val (r_move rfl) ?_
  refine s_val (r_nilpF Try.runUnderlying28 rfl rfl) ?_
  refine c_nil (l' := [_,_,_,_,_,_,_,_,_,_,_,_,_,_,_,_,_,_,_,_,_,_,_,_,_,_,_,_,_,_,_,_,_,_,_,_,_,_,_,_,_,_,_,_,_,_,_,_,_,_,_,_,_,_,_,_,_,_,_,_,_,_,_,_,_,_,_,_,_,_,_,_,_,_]) rfl ?_
  refine c_iff rfl ?_
  refine wp_skip ?_
  refine x_thenNormal ?_
  refine c_rseq (n := 74) ⟨rfl, rfl⟩ ?_
  refine s_val (r_move rfl) ?_
  refine s_val (r_nilCheck rfl) ?_
  refine s_val (r_fieldAddr (k := 2) Try.runUnderlying91 rfl Try.sizeOf30 (by decide) rfl rfl) ?_
  refine s_val (r_loadn Try.isAgg30 Try.sizeOf30 rfl (H.rd0 hbl) (lgC_sh _ _ _ _ _ _ _ _ _) (by first | exact (kC_length _) | exact (hC_length _) | exact (shC_length _ _) | exact (wC_length _) | exact (sdC_length _ _) | exact rfl)) ?_
  refine s_val (r_move rfl) ?_
  refine s_call (r_call Try.call20 (ec rfl (ec rfl en))) (of_spec x.g x.z fg0 fg1 fz0 fz1 n hn0 hn1 _) ?_
  rintro v w (⟨hof, rfl, HC⟩ | ⟨hn2, hn3, rfl, HC⟩)
  · skip
    replace H := H.quiet HC
    refine s_val (r_move rfl) ?_
    refine s_val (r_extract rfl rfl) ?_
    refine s_val (r_extract rfl rfl) ?_
    refine s_val (r_extract rfl rfl) ?_
    refine s_val (r_assign rfl) ?_
    refine s_val (r_assign rfl) ?_
    refine s_val (r_assign rfl) ?_
    refine c_nil (l' := [_,_,_,_,_,_,_,_,_,_,_,_,_,_,_,_,_,_,_,_,_,_,_,_,_,_,_,_,_,_,_,_,_,_,_,_,_,_,_,_,_,_,_,_,_,_,_,_,_,_,_,_,_,_,_,_,_,_,_,_,_,_,_,_,_,_,_,_,_,_,_,_,_,_]) rfl ?_
    refine c_seq ?_
    refine c_rseq (n := 74) ⟨rfl, rfl⟩ ?_
    refine s_val (r_move rfl) ?_
    refine s_val (r_not rfl) ?_
    refine s_val (r_move rfl) ?_
    refine g_no rfl rfl (by decide) ?_
    refine g_no rfl rfl (by decide) ?_
    refine g_no rfl rfl (by decide) ?_
    refine g_no rfl rfl (by decide) ?_
    refine g_no rfl rfl (by decide) ?_
    refine g_no rfl rfl (by decide) ?_
    refine g_no rfl rfl (by decide) ?_
    refine g_no rfl rfl (by decide) ?_
    refine s_val (r_pickt rfl rfl) ?_
    refine c_nil (l' := [_,_,_,_,_,_,_,_,_,_,_,_,_,_,_,_,_,_,_,_,_,_,_,_,_,_,_,_,_,_,_,_,_,_,_,_,_,_,_,_,_,_,_,_,_,_,_,_,_,_,_,_,_,_,_,_,_,_,_,_,_,_,_,_,_,_,_,_,_,_,_,_,_,_]) rfl ?_
    refine c_ift rfl ?_
    refine c_rseq (n := 74) ⟨rfl, rfl⟩ ?_
    refine s_val (r_assign rfl) ?_
    refine s_val (r_assign rfl) ?_
    refine c_nil (l' := [_,_,_,_,_,_,_,_,_,_,_,_,_,_,_,_,_,_,_,_,_,_,_,_,_,_,_,_,_,_,_,_,_,_,_,_,_,_,_,_,_,_,_,_,_,_,_,_,_,_,_,_,_,_,_,_,_,_,_,_,_,_,_,_,_,_,_,_,_,_,_,_,_,_]) rfl ?_
    refine wp_ret (x_thenRet ?_)
    refine e_ret (res2 rfl rfl rfl) ⟨_, rfl, ?_⟩
    exact .inl ⟨.inr (by omega), rfl, H⟩
  · skip
    replace H := H.quiet HC
    obtain ⟨hd0, hd1⟩ := seg_rng (g := x.g) hn2 hn3 fz0
    refine s_val (r_move rfl) ?_
    refine s_val (r_extract rfl rfl) ?_
    refine s_val (r_extract rfl rfl) ?_
    refine s_val (r_extract rfl rfl) ?_
    refine s_val (r_assign rfl) ?_
    refine s_val (r_assign rfl) ?_
    refine s_val (r_assign rfl) ?_
    refine c_nil (l' := [_,_,_,_,_,_,_,_,_,_,_,_,_,_,_,_,_,_,_,_,_,_,_,_,_,_,_,_,_,_,_,_,_,_,_,_,_,_,_,_,_,_,_,_,_,_,_,_,_,_,_,_,_,_,_,_,_,_,_,_,_,_,_,_,_,_,_,_,_,_,_,_,_,_]) rfl ?_
    refine c_seq ?_
    refine c_rseq (n := 74) ⟨rfl, rfl⟩ ?_
    refine s_val (r_move rfl) ?_
    refine s_val (r_not rfl) ?_
    refine s_val (r_move rfl) ?_
    refine g_yes rfl rfl ?_
    refine s_val (r_move rfl) ?_
    refine g_yes rfl rfl ?_
    refine s_val (r_nilCheck rfl) ?_
    refine g_yes rfl rfl ?_
    refine s_val (r_fieldAddr (k := 4) Try.runUnderlying91 rfl Try.sizeOf35 (by decide) rfl rfl) ?_
    refine g_yes rfl rfl ?_
    refine s_val (r_load1 Try.isAgg35 rfl (H.rd0 hbl) rfl) ?_
    refine g_yes rfl rfl ?_
    refine s_val (r_move rfl) ?_
    refine g_yes rfl rfl ?_
    refine s_val (r_indexAddrS Try.runUnderlying35 Try.sizeOf36 rfl rfl (by omega) (by omega)) ?_
    refine g_yes rfl rfl ?_
    refine s_val (r_load1 Try.isAgg36 rfl (H.rd0 hbu) (uC_at x.gens (i := ((n - 2) / x.z).toNat) (by omega) (by omega))) ?_
    refine g_yes rfl rfl ?_
    refine s_val (r_eql rfl rfl) ?_
    refine s_val (r_pickf rfl rfl) ?_
    refine c_nil (l' := [_,_,_,_,_,_,_,_,_,_,_,_,_,_,_,_,_,_,_,_,_,_,_,_,_,_,_,_,_,_,_,_,_,_,_,_,_,_,_,_,_,_,_,_,_,_,_,_,_,_,_,_,_,_,_,_,_,_,_,_,_,_,_,_,_,_,_,_,_,_,_,_,_,_]) rfl ?_
    refine c_if rfl (fun h36 => ?_) (fun h36 => ?_)
    · skip
      refine c_rseq (n := 74) ⟨rfl, rfl⟩ ?_
      refine s_val (r_assign rfl) ?_
      refine s_val (r_assign rfl) ?_
      refine c_nil (l' := [_,_,_,_,_,_,_,_,_,_,_,_,_,_,_,_,_,_,_,_,_,_,_,_,_,_,_,_,_,_,_,_,_,_,_,_,_,_,_,_,_,_,_,_,_,_,_,_,_,_,_,_,_,_,_,_,_,_,_,_,_,_,_,_,_,_,_,_,_,_,_,_,_,_]) rfl ?_
      refine wp_ret (x_thenRet ?_)
      refine e_ret (res2 rfl rfl rfl) ⟨_, rfl, ?_⟩
      exact .inl ⟨.inl h36, rfl, H⟩
    · skip
      skip
      refine wp_skip ?_
      refine x_thenNormal ?_
      refine c_rseq (n := 74) ⟨rfl, rfl⟩ ?_
      refine s_val (r_move rfl) ?_
      refine s_val (r_nilCheck rfl) ?_
      refine s_val (r_fieldAddr (k := 0) Try.runUnderlying91 rfl Try.sizeOf27 (by decide) rfl rfl) ?_
      have hgz := gz_rng (g := x.g) (z := x.z) (by omega) fg1 (by omega) fz1
      refine s_val (r_load1 Try.isAgg27 rfl (H.rd0 hbl) rfl) ?_
      refine s_val (r_move rfl) ?_
      refine s_call (r_call Try.call40 (ec rfl (ec rfl en))) (mread_spec bm x.C n _ (hmr.st (H.sub (List.nil_sublist _)))) ?_
      rintro v w (⟨hno, _⟩ | ⟨_,_, hsl, rfl, HC⟩ | ⟨_,_, hsl, rfl, HC⟩)
      · skip
        exact absurd (show 0 ≤ n ∧ n < (x.C.length : Int) by omega) hno
      · skip
        replace H := H.quiet HC
        refine s_val (r_move rfl) ?_
        refine s_val (r_extract rfl rfl) ?_
        refine s_val (r_extract rfl rfl) ?_
        refine s_new (m_alloc (cs := (kC zS)) H Try.zeroValue97 rfl) ?_
        intro w b9 H
        refine s_st (m_storen H 0 128 Try.sizeOf97 rfl rfl (by first | exact (kC_length _) | exact (hC_length _) | exact (shC_length _ _) | exact (wC_length _) | exact (sdC_length _ _)) (by first | exact (kC_one _) | exact (hC_one _) | exact (shC_one _ _) | exact (elW.one _) | exact (sdC_one _ _)) rfl (by first | exact (by rw [kC_length]; omega) | exact (by rw [hC_length]; omega) | exact (by rw [wC_length]; omega)) (by first | exact (kC_sp _ _) | exact (hC_sp _ _))) (L' := (_ :: _)) rfl ?_
        intro w H
        refine s_val (r_assign rfl) ?_
        refine c_nil (l' := [_,_,_,_,_,_,_,_,_,_,_,_,_,_,_,_,_,_,_,_,_,_,_,_,_,_,_,_,_,_,_,_,_,_,_,_,_,_,_,_,_,_,_,_,_,_,_,_,_,_,_,_,_,_,_,_,_,_,_,_,_,_,_,_,_,_,_,_,_,_,_,_,_,_]) rfl ?_
        refine c_seq ?_
        refine c_rseq (n := 74) ⟨rfl, rfl⟩ ?_
        refine s_val (r_move rfl) ?_
        refine s_val (r_neq rfl rfl) ?_
        refine c_nil (l' := [_,_,_,_,_,_,_,_,_,_,_,_,_,_,_,_,_,_,_,_,_,_,_,_,_,_,_,_,_,_,_,_,_,_,_,_,_,_,_,_,_,_,_,_,_,_,_,_,_,_,_,_,_,_,_,_,_,_,_,_,_,_,_,_,_,_,_,_,_,_,_,_,_,_]) rfl ?_
        refine c_if rfl (fun h47 => ?_) (fun h47 => ?_)
        · skip
          exact absurd rfl h47
        · skip
          skip
          refine wp_skip ?_
          refine x_thenNormal ?_
          refine c_seq ?_
          refine d_begin (sz := 74) ⟨rfl, rfl⟩ (by kernel_rfl) H (H.sub (.cons_cons _ (List.nil_sublist _))) rfl ?_
          intro w H
          refine d_take (i := 0) rfl (by kernel_rfl) (fun _ _ _ h => h) (H.sub (.cons_cons _ (List.nil_sublist _))) (fun _ _ => r_move rfl) rfl ?_
          refine d_take (i := 1) rfl (by kernel_rfl) (fun _ _ _ h => h) (H.sub (.cons_cons _ (List.nil_sublist _))) (fun _ _ => r_nilCheck rfl) rfl ?_
          refine d_take (i := 2) rfl (by kernel_rfl) (fun _ _ _ h => h) (H.sub (.cons_cons _ (List.nil_sublist _))) (fun _ _ => r_fieldAddr (k := 1) Try.runUnderlying91 rfl Try.sizeOf89 (by decide) rfl rfl) rfl ?_
          refine d_take (i := 3) rfl (by kernel_rfl) (fun _ _ _ h => h) (H.sub (.cons_cons _ (List.nil_sublist _))) (fun _ HS => r_load1 Try.isAgg89 rfl (HS.rd0 hbl) rfl) rfl ?_
          refine d_take (i := 4) rfl (by kernel_rfl) (fun _ _ _ h => h) (H.sub (.cons_cons _ (List.nil_sublist _))) (fun _ _ => r_move rfl) rfl ?_
          refine d_take (i := 5) rfl (by kernel_rfl) (fun _ _ _ h => h) (H.sub (.cons_cons _ (List.nil_sublist _))) (fun _ HS => r_loadn Try.isAgg97 Try.sizeOf97 rfl (HS.at 0 rfl) (by first | exact (kC_td _) | exact (hC_td _) | exact (hC_seed _) | exact (shC_td _ _) | exact (sdC_td _ _)) (by first | exact (kC_length _) | exact (hC_length _) | exact (shC_length _ _) | exact (wC_length _) | exact (sdC_length _ _) | exact rfl)) rfl ?_
          refine d_all1 (i := 6) (by kernel_rfl) ?_
          refine b_call rfl go_none (r_call Try.call41 (ec rfl (ec rfl (ec rfl en)))) (unpack_yes cs n (by omega) (by omega) (sd x.C n.toNat) hsl _) rfl ?_
          rintro v w ⟨a2, cap2, N2, rfl, hN2, HC⟩
          replace H : St w0 [] _ (_ :: N2) := (H.call0 HC).perm (List.perm_append_comm (l₁ := [_]))
          refine ⟨(H.sub (.cons_cons _ (List.nil_sublist _))), ?_⟩
          refine d_take (i := 7) rfl (by kernel_rfl) (fun _ _ _ h => h) (H.sub (.cons_cons _ (List.nil_sublist _))) (fun _ _ => r_move rfl) rfl ?_
          refine d_take (i := 8) rfl (by kernel_rfl) (fun _ _ _ h => h) (H.sub (.cons_cons _ (List.nil_sublist _))) (fun _ _ => r_extract rfl rfl) rfl ?_
          refine d_take (i := 9) rfl (by kernel_rfl) (fun _ _ _ h => h) (H.sub (.cons_cons _ (List.nil_sublist _))) (fun _ _ => r_extract rfl rfl) rfl ?_
          refine d_take (i := 10) rfl (by kernel_rfl) (fun _ _ _ h => h) (H.sub (.cons_cons _ (List.nil_sublist _))) (fun _ _ => r_extract rfl rfl) rfl ?_
          refine d_take (i := 11) rfl (by kernel_rfl) (fun _ _ _ h => h) (H.sub (.cons_cons _ (List.nil_sublist _))) (fun _ _ => r_assign rfl) rfl ?_
          refine d_take (i := 12) rfl (by kernel_rfl) (fun _ _ _ h => h) (H.sub (.cons_cons _ (List.nil_sublist _))) (fun _ _ => r_assign rfl) rfl ?_
          refine d_take (i := 13) rfl (by kernel_rfl) (fun _ _ _ h => h) (H.sub (.cons_cons _ (List.nil_sublist _))) (fun _ _ => r_assign rfl) rfl ?_
          refine d_done (l' := [_,_,_,_,_,_,_,_,_,_,_,_,_,_,_,_,_,_,_,_,_,_,_,_,_,_,_,_,_,_,_,_,_,_,_,_,_,_,_,_,_,_,_,_,_,_,_,_,_,_,_,_,_,_,_,_,_,_,_,_,_,_,_,_,_,_,_,_,_,_,_,_,_,_]) (by kernel_rfl) rfl ?_
          refine x_thenNormal ?_
          refine c_seq ?_
          refine c_rseq (n := 74) ⟨rfl, rfl⟩ ?_
          refine s_val (r_move rfl) ?_
          refine s_val (r_not rfl) ?_
          refine s_val (r_move rfl) ?_
          refine g_yes rfl rfl ?_
          refine s_val (r_move rfl) ?_
          refine g_yes rfl rfl ?_
          refine s_val (r_move rfl) ?_
          refine g_yes rfl rfl ?_
          refine s_val (r_nilCheck rfl) ?_
          refine g_yes rfl rfl ?_
          refine s_val (r_fieldAddr (k := 4) Try.runUnderlying91 rfl Try.sizeOf35 (by decide) rfl rfl) ?_
          refine g_yes rfl rfl ?_
          refine s_val (r_load1 Try.isAgg35 rfl (H.rd0 hbl) rfl) ?_
          refine g_yes rfl rfl ?_
          refine s_val (r_move rfl) ?_
          refine g_yes rfl rfl ?_
          refine s_val (r_indexAddrS Try.runUnderlying35 Try.sizeOf36 rfl rfl (by omega) (by omega)) ?_
          refine g_yes rfl rfl ?_
          refine s_val (r_load1 Try.isAgg36 rfl (H.rd0 hbu) (uC_at x.gens (i := ((n - 2) / x.z).toNat) (by omega) (by omega))) ?_
          refine g_yes rfl rfl ?_
          refine s_val (r_neq rfl rfl) ?_
          refine s_val (r_pickf rfl rfl) ?_
          refine c_nil (l' := [_,_,_,_,_,_,_,_,_,_,_,_,_,_,_,_,_,_,_,_,_,_,_,_,_,_,_,_,_,_,_,_,_,_,_,_,_,_,_,_,_,_,_,_,_,_,_,_,_,_,_,_,_,_,_,_,_,_,_,_,_,_,_,_,_,_,_,_,_,_,_,_,_,_]) rfl ?_
          refine c_if rfl (fun h72 => ?_) (fun h72 => ?_)
          · skip
            refine c_rseq (n := 74) ⟨rfl, rfl⟩ ?_
            refine s_val (r_assign rfl) ?_
            refine s_val (r_assign rfl) ?_
            refine c_nil (l' := [_,_,_,_,_,_,_,_,_,_,_,_,_,_,_,_,_,_,_,_,_,_,_,_,_,_,_,_,_,_,_,_,_,_,_,_,_,_,_,_,_,_,_,_,_,_,_,_,_,_,_,_,_,_,_,_,_,_,_,_,_,_,_,_,_,_,_,_,_,_,_,_,_,_]) rfl ?_
            refine wp_ret (x_thenRet ?_)
            refine e_ret (res2 rfl rfl rfl) ⟨_, rfl, ?_⟩
            exact .inr ⟨hn2, hn3, h36, .inr ⟨fun h => h72 h.2, rfl, H.sub (List.nil_sublist _)⟩⟩
          · skip
            refine wp_skip ?_
            refine x_thenNormal ?_
            refine c_rseq (n := 74) ⟨rfl, rfl⟩ ?_
            refine s_val (r_move rfl) ?_
            refine s_val (r_assign rfl) ?_
            refine s_val (r_assign rfl) ?_
            refine c_nil (l' := [_,_,_,_,_,_,_,_,_,_,_,_,_,_,_,_,_,_,_,_,_,_,_,_,_,_,_,_,_,_,_,_,_,_,_,_,_,_,_,_,_,_,_,_,_,_,_,_,_,_,_,_,_,_,_,_,_,_,_,_,_,_,_,_,_,_,_,_,_,_,_,_,_,_]) rfl ?_
            refine wp_ret ?_
            refine e_ret (res2 rfl rfl rfl) ⟨_, rfl, ?_⟩
            exact .inr ⟨hn2, hn3, h36, .inl ⟨hsl, Decidable.not_not.1 h72, _,_,_, rfl, hN2, H.sub (.cons _ (List.Sublist.refl _))⟩⟩
      · skip
        replace H := H.quiet HC
        refine s_val (r_move rfl) ?_
        refine s_val (r_extract rfl rfl) ?_
        refine s_val (r_extract rfl rfl) ?_
        refine s_new (m_alloc (cs := (kC zS)) H Try.zeroValue97 rfl) ?_
        intro w b9 H
        refine s_st (m_storen H 0 128 Try.sizeOf97 rfl rfl (by first | exact (kC_length _) | exact (hC_length _) | exact (shC_length _ _) | exact (wC_length _) | exact (sdC_length _ _)) (by first | exact (kC_one _) | exact (hC_one _) | exact (shC_one _ _) | exact (elW.one _) | exact (sdC_one _ _)) rfl (by first | exact (by rw [kC_length]; omega) | exact (by rw [hC_length]; omega) | exact (by rw [wC_length]; omega)) (by first | exact (kC_sp _ _) | exact (hC_sp _ _))) (L' := (_ :: _)) rfl ?_
        intro w H
        refine s_val (r_assign rfl) ?_
        refine c_nil (l' := [_,_,_,_,_,_,_,_,_,_,_,_,_,_,_,_,_,_,_,_,_,_,_,_,_,_,_,_,_,_,_,_,_,_,_,_,_,_,_,_,_,_,_,_,_,_,_,_,_,_,_,_,_,_,_,_,_,_,_,_,_,_,_,_,_,_,_,_,_,_,_,_,_,_]) rfl ?_
        refine c_seq ?_
        refine c_rseq (n := 74) ⟨rfl, rfl⟩ ?_
        refine s_val (r_move rfl) ?_
        refine s_val (r_neq rfl rfl) ?_
        refine c_nil (l' := [_,_,_,_,_,_,_,_,_,_,_,_,_,_,_,_,_,_,_,_,_,_,_,_,_,_,_,_,_,_,_,_,_,_,_,_,_,_,_,_,_,_,_,_,_,_,_,_,_,_,_,_,_,_,_,_,_,_,_,_,_,_,_,_,_,_,_,_,_,_,_,_,_,_]) rfl ?_
        refine c_if rfl (fun h47 => ?_) (fun h47 => ?_)
        · skip
          skip
          refine c_rseq (n := 74) ⟨rfl, rfl⟩ ?_
          refine s_val (r_move rfl) ?_
          refine s_val (r_assign rfl) ?_
          refine s_val (r_assign rfl) ?_
          refine c_nil (l' := [_,_,_,_,_,_,_,_,_,_,_,_,_,_,_,_,_,_,_,_,_,_,_,_,_,_,_,_,_,_,_,_,_,_,_,_,_,_,_,_,_,_,_,_,_,_,_,_,_,_,_,_,_,_,_,_,_,_,_,_,_,_,_,_,_,_,_,_,_,_,_,_,_,_]) rfl ?_
          refine wp_ret (x_thenRet ?_)
          refine e_ret (res2 rfl rfl rfl) ⟨_, rfl, ?_⟩
          exact .inr ⟨hn2, hn3, h36, .inr ⟨fun h => hsl h.1, rfl, H.sub (List.nil_sublist _)⟩⟩
        · skip
          exact absurd h47 (by decide)

end Go.Proofs.Ytbjalofmamoffaa

