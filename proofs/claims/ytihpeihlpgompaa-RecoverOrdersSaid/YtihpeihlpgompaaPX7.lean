import Derived.Test.YtihpeihlpgompaaPX3
import Derived.Test.YtihpeihlpgompaaPVx1
namespace Go.Proofs.Ytihpeihlpgompaa
open Go Go.Er

set_option maxHeartbeats 4000000 in
theorem encn_spec (r : Nat) (y : Bd) (N : List (Nat × Obj)) (size : Nat) (al : Option Addr) (cl : Nat) (ns : List Int) (hs1 : 1 ≤ size) (hs8 : size ≤ 8) (hns : ∀ n ∈ ns, 0 ≤ n ∧ n < 9223372036854775808) (hnl : ns.length ≤ 100) (hyl : y.b.length ≤ 1000000) (hR : RowN 1 5 (bC y.b) y.b.length y.a y.c N) (w0 : World) (hrX : ∀ w L, St w0 (r :: N.map (·.1)) w L → RRow i6C w al ns) (hown : Go.Er.Own w0 ((r, .cells (bd1 y).toArray 25 (0, 0)) :: N)) :
  Calls Try.prog 25 #[.int .i64 (size : Nat), .slice al ns.length cl, .pointer (some ⟨r, 0, none⟩)] w0 fun e w => ∃ v, e = .returned v ∧ (v = .tuple #[] ∧ ∃ (u : Bd) (N' : List (Nat × Obj)), u.b = y.b ++ numsB size ns ∧ RowN 1 5 (bC u.b) u.b.length u.a u.c N' ∧ St w0 (r :: N.map (·.1)) w ((r, .cells (bd1 u).toArray 25 (0, 0)) :: N')) := by
 have H : St w0 (r :: N.map (·.1)) w0 ((r, .cells (bd1 y).toArray 25 (0, 0)) :: N) := hown.st
 refine c_enter (args := [.int .i64 (size : Nat), .slice al ns.length cl, .pointer (some ⟨r, 0, none⟩)]) (l := [.int .i64 (size : Nat), .slice al ns.length cl, .pointer (some ⟨r, 0, none⟩), undef, undef, undef, undef, undef, undef, undef, undef, undef, undef, undef, undef, undef, undef, undef, undef, undef]) Try.func25 Try.ntmps25 rfl rfl ?_
 refine c_rseq (n := 20) ⟨rfl, rfl⟩ ?_
 refine s_val (r_move rfl) ?_
 refine s_val (r_lens Try.runUnderlying48 (ec rfl en)) ?_
 refine s_val (r_move rfl) ?_
 refine c_nil (l' := [_,_,_,_,_,_,_,_,_,_,_,_,_,_,_,_,_,_,_,_]) rfl ?_
 refine wp_block ?_
 refine c_loop (fun (l0 : List Value) (i : Nat) (l : List Value) (w : World) => ∃ (u6 u10 u11 u12 u13 u14 u15 u16 u17 u18 u19 : Value) (u : Bd) (N2 : List (Nat × Obj)), l = ovr l0 [N_, N_, N_, N_, N_, N_, Y_ u6, N_, N_, Y_ (.int .i64 i), Y_ u10, Y_ u11, Y_ u12, Y_ u13, Y_ u14, Y_ u15, Y_ u16, Y_ u17, Y_ u18, Y_ u19] ∧ i ≤ ns.length ∧ u.b = y.b ++ numsB size (ns.take i) ∧ RowN 1 5 (bC u.b) u.b.length u.a u.c N2 ∧ St w0 (r :: N.map (·.1)) w ((r, .cells (bd1 u).toArray 25 (0, 0)) :: N2)) (fun (i : Nat) => ns.length - i) 0 ⟨_,_,_,_,_,_,_,_,_,_,_, y, N, rfl, Nat.zero_le _, (by rw [List.take_zero]; exact (List.append_nil _).symm), hR, H⟩ ?_
 intro i l w ⟨u6, u10, u11, u12, u13, u14, u15, u16, u17, u18, u19, u, N2, hl, hi, hu, hR2, H⟩
 obtain rfl := hl.trans (rfl : _ = [_,_,_,_,_,_,_,_,_,_,_,_,_,_,_,_,_,_,_,_])
 clear hl
 refine c_rseq (n := 20) ⟨rfl, rfl⟩ ?_
 refine s_val (r_lss rfl rfl) ?_
 refine c_nil (l' := [_,_,_,_,_,_,_,_,_,_,_,_,_,_,_,_,_,_,_,_]) rfl ?_
 refine c_seq ?_
 refine c_if rfl (fun h10 => ?_) (fun h10 => ?_)
 ·skip
  obtain ⟨n, hn⟩ : ∃ n, n = ns.getD i 0 := ⟨_, rfl⟩
  have hx2 : ns[i]? = some n := by rw [hn, List.getD_eq_getElem?_getD, List.getElem?_eq_getElem (by omega)]; rfl
  obtain ⟨hn0, hn1⟩ := hns n (List.mem_of_getElem? hx2)
  obtain ⟨b2, off2, pre2, post2, T2, fz2, rfl, hb2, hp2⟩ := hrX _ _ H (by omega)
  have hul : u.b.length ≤ y.b.length + 800 := by
   have h1 : (ns.take i).length * size ≤ 100 * 8 := Nat.mul_le_mul (by rw [List.length_take]; omega) hs8
   rw [hu, List.length_append, numsB_length]; omega
  refine wp_skip ?_
  refine x_thenNormal ?_
  refine c_seq ?_
  refine wp_block ?_
  refine c_rseq (n := 20) ⟨rfl, rfl⟩ ?_
  refine s_val (r_indexAddrS Try.runUnderlying48 Try.sizeOf3 rfl rfl (by omega) (by omega)) ?_
  refine s_val (r_load1 Try.isAgg3 rfl hb2 (i6_at hp2 hx2 (by omega))) ?_
  refine s_val (r_assign rfl) ?_
  refine c_nil (l' := [_,_,_,_,_,_,_,_,_,_,_,_,_,_,_,_,_,_,_,_]) rfl ?_
  refine d_begin (sz := 20) ⟨rfl, rfl⟩ (by kernel_rfl) H (H.sub (List.nil_sublist _)) rfl ?_
  intro w H
  refine d_take (i := 1) rfl (by kernel_rfl) (fun _ _ _ h => h) (H.sub (List.nil_sublist _)) (fun _ _ => r_move rfl) rfl ?_
  refine d_take (i := 2) rfl (by kernel_rfl) (fun _ _ _ h => h) (H.sub (List.nil_sublist _)) (fun _ _ => r_conv Try.runUnderlying3 Try.runUnderlying24 rfl (w_u64 (by omega) (by omega))) rfl ?_
  refine d_take (i := 3) rfl (by kernel_rfl) (fun _ _ _ h => h) (H.sub (List.nil_sublist _)) (fun _ _ => r_move rfl) rfl ?_
  refine d_all2 (i := 0) (j := 4) (by kernel_rfl) ?_ ?_
  ·skip
   refine b_val rfl go_none (r_load1 Try.isAgg25 rfl (H.at 0 rfl) rfl) rfl (H.sub (List.nil_sublist _)) ?_
   refine d_all1 (i := 4) (by kernel_rfl) ?_
   refine b_call rfl go_none (r_call Try.call26 (ec rfl (ec rfl en))) (put_spec n size (by omega) (by omega) (by omega) (by omega) _) rfl ?_
   rintro v w ⟨bp, rfl, HC⟩
   replace H := H.call0 HC
   refine ⟨(H.sub (List.nil_sublist _)), ?_⟩
   refine d_all1 (i := 5) (by kernel_rfl) ?_
   refine b_any rfl go_none (m_append_row0 (L1 := [_,_]) (N := N2) H hR2 Try.runUnderlying25 Try.runUnderlying25 (fun _ h => nomatch h) Try.sizeOf5 Try.zeroValue5 rfl Try.typeInfo5 (by rw [bytes5]; omega) (by rw [bytes5]; omega) (ec rfl (ec rfl en)) (Src.slice (vs := bC (putB n size)) (H.at 0 rfl) (putB_src n size) (putB_len6 n size) (bC_one _))) rfl (by rintro v w ⟨a5, c5, N4, rfl, hN4, H⟩; exact (H.sub (List.nil_sublist _))) ?_
   rintro v w ⟨a5, c5, N4, rfl, hN4, H⟩
   skip
   refine d_all1 (i := 6) (by kernel_rfl) ?_
   refine b_st rfl go_none (m_store1 H 1 Try.sizeOf25 rfl rfl rfl rfl (by show 0 < 1; omega) (bd1_set (b := u.b ++ putB n size) (by rw [List.length_append, putB_length]))) (L' := (_ :: _ :: _)) rfl rfl (fun _ H => (H.sub (List.nil_sublist _))) ?_
   intro w H
   refine d_done (l' := [_,_,_,_,_,_,_,_,_,_,_,_,_,_,_,_,_,_,_,_]) (by kernel_rfl) rfl ?_
   refine x_blockNormal ?_
   refine x_thenNormal ?_
   refine c_region (n := 20) ⟨rfl, rfl⟩ ?_
   refine s_val (r_add rfl rfl (w_i64 (by omega) (by omega))) ?_
   refine s_val (r_move rfl) ?_
   refine c_nil0 (l' := [_,_,_,_,_,_,_,_,_,_,_,_,_,_,_,_,_,_,_,_]) rfl ?_
   replace H := H.sub (.cons _ (.cons_cons _ (List.Sublist.refl _)))
   exact ⟨i + 1, _, rfl, ⟨_,_,_,_,_,_,_,_,_,_,_, ⟨a5, u.b ++ putB n size, c5⟩, N4, rfl, by omega, (by rw [numsB_take hx2, ← List.append_assoc, ← hu]), (by rw [bC_append, List.length_append, putB_length]; exact hN4), H⟩, by omega⟩
  ·skip
   refine b_call rfl go_none (r_call Try.call26 (ec rfl (ec rfl en))) (put_spec n size (by omega) (by omega) (by omega) (by omega) _) rfl ?_
   rintro v w ⟨bp, rfl, HC⟩
   replace H := H.call0 HC
   refine ⟨(H.sub (List.nil_sublist _)), ?_⟩
   refine d_all1 (i := 0) (by kernel_rfl) ?_
   refine b_val rfl go_none (r_load1 Try.isAgg25 rfl (H.at 1 rfl) rfl) rfl (H.sub (List.nil_sublist _)) ?_
   refine d_all1 (i := 5) (by kernel_rfl) ?_
   refine b_any rfl go_none (m_append_row0 (L1 := [_,_]) (N := N2) H hR2 Try.runUnderlying25 Try.runUnderlying25 (fun _ h => nomatch h) Try.sizeOf5 Try.zeroValue5 rfl Try.typeInfo5 (by rw [bytes5]; omega) (by rw [bytes5]; omega) (ec rfl (ec rfl en)) (Src.slice (vs := bC (putB n size)) (H.at 0 rfl) (putB_src n size) (putB_len6 n size) (bC_one _))) rfl (by rintro v w ⟨a5, c5, N4, rfl, hN4, H⟩; exact (H.sub (List.nil_sublist _))) ?_
   rintro v w ⟨a5, c5, N4, rfl, hN4, H⟩
   skip
   refine d_all1 (i := 6) (by kernel_rfl) ?_
   refine b_st rfl go_none (m_store1 H 1 Try.sizeOf25 rfl rfl rfl rfl (by show 0 < 1; omega) (bd1_set (b := u.b ++ putB n size) (by rw [List.length_append, putB_length]))) (L' := (_ :: _ :: _)) rfl rfl (fun _ H => (H.sub (List.nil_sublist _))) ?_
   intro w H
   refine d_done (l' := [_,_,_,_,_,_,_,_,_,_,_,_,_,_,_,_,_,_,_,_]) (by kernel_rfl) rfl ?_
   refine x_blockNormal ?_
   refine x_thenNormal ?_
   refine c_region (n := 20) ⟨rfl, rfl⟩ ?_
   refine s_val (r_add rfl rfl (w_i64 (by omega) (by omega))) ?_
   refine s_val (r_move rfl) ?_
   refine c_nil0 (l' := [_,_,_,_,_,_,_,_,_,_,_,_,_,_,_,_,_,_,_,_]) rfl ?_
   replace H := H.sub (.cons _ (.cons_cons _ (List.Sublist.refl _)))
   exact ⟨i + 1, _, rfl, ⟨_,_,_,_,_,_,_,_,_,_,_, ⟨a5, u.b ++ putB n size, c5⟩, N4, rfl, by omega, (by rw [numsB_take hx2, ← List.append_assoc, ← hu]), (by rw [bC_append, List.length_append, putB_length]; exact hN4), H⟩, by omega⟩
 ·skip
  obtain rfl : i = ns.length := by omega
  rw [List.take_length] at hu
  refine wp_exit (x_thenExit (x_thenExit (x_blockHit ?_)))
  refine e_end (res0 rfl) ⟨_, rfl, ?_⟩
  exact ⟨rfl, u, N2, hu, hR2, H⟩

theorem encn_l (r : Nat) (y : Bd) (N : List (Nat × Obj)) (size : Nat) (si : Int) (hsi : si = (size : Int)) (al : Option Addr) (cl : Nat) (ns : List Int) (hs1 : 1 ≤ size) (hs8 : size ≤ 8) (hns : ∀ n ∈ ns, 0 ≤ n ∧ n < 9223372036854775808) (hnl : ns.length ≤ 100) (hyl : y.b.length ≤ 1000000) (hR : RowN 1 5 (bC y.b) y.b.length y.a y.c N) (w0 : World) (hrX : ∀ w L, St w0 (r :: N.map (·.1)) w L → RRow i6C w al ns) (hown : Go.Er.Own w0 ((r, .cells (bd1 y).toArray 25 (0, 0)) :: N)) :
  Calls Try.prog 25 #[.int .i64 si, .slice al ns.length cl, .pointer (some ⟨r, 0, none⟩)] w0 fun e w => ∃ v, e = .returned v ∧ v = .tuple #[] ∧ ∃ (u : Bd) (N' : List (Nat × Obj)), u.b = y.b ++ numsB size ns ∧ RowN 1 5 (bC u.b) u.b.length u.a u.c N' ∧ St w0 (r :: N.map (·.1)) w ((r, .cells (bd1 u).toArray 25 (0, 0)) :: N') := by
 subst hsi
 exact encn_spec r y N size al cl ns hs1 hs8 hns hnl hyl hR w0 hrX hown

end Go.Proofs.Ytihpeihlpgompaa

