import Derived.Test.YtihpeihlpgompaaPW2
import Derived.Test.YtihpeihlpgompaaPV2
namespace Go.Proofs.Ytihpeihlpgompaa
open Go Go.Er
set_option linter.unusedSimpArgs false in
theorem places60 : Places Try.prog #[⟨ "At", 3, 0, false, "", "", 0⟩, ⟨ "Body", 25, 1, false, "", "", 8⟩] [(0, 1), (1, 1)] := fun w => by simp [Try.sizeOf25 w, Try.sizeOf3 w]
theorem bytes60 : Try.t60.bytes = 32 := rfl

set_option maxHeartbeats 4000000 in
theorem bodies_spec (a : Option Addr) (c : Nat) (ys : List Fa) (hl : ys.length ≤ 1000000) (w0 : World) (hr : RRow faC w0 a ys) :
  Calls Try.prog 9 #[.slice a ys.length c] w0 fun e w => ∃ v, e = .returned v ∧ (∃ (a2 : Option Addr) (c2 : Nat) (N : List (Nat × Obj)), v = .slice a2 ys.length c2 ∧ RowN 2 60 (rowC fbC ys) ys.length a2 c2 N ∧ St w0 [] w N) := by
 have H := St.refl w0
 refine c_enter (args := [.slice a ys.length c]) (l := [.slice a ys.length c, undef, undef, undef, undef, undef, undef, undef, undef, undef, undef, undef, undef, undef, undef, undef, undef, undef, undef, undef, undef, undef, undef, undef, undef, undef]) Try.func9 Try.ntmps9 rfl rfl ?_
 refine c_rseq (n := 26) ⟨rfl, rfl⟩ ?_
 refine s_val (r_assign rfl) ?_
 refine c_nil (l' := [_,_,_,_,_,_,_,_,_,_,_,_,_,_,_,_,_,_,_,_,_,_,_,_,_,_]) rfl ?_
 refine c_rseq (n := 26) ⟨rfl, rfl⟩ ?_
 refine s_val (r_assign rfl) ?_
 refine c_nil (l' := [_,_,_,_,_,_,_,_,_,_,_,_,_,_,_,_,_,_,_,_,_,_,_,_,_,_]) rfl ?_
 refine c_seq ?_
 refine c_rseq (n := 26) ⟨rfl, rfl⟩ ?_
 refine s_val (r_assign rfl) ?_
 refine c_nil (l' := [_,_,_,_,_,_,_,_,_,_,_,_,_,_,_,_,_,_,_,_,_,_,_,_,_,_]) rfl ?_
 refine wp_block ?_
 refine c_loop (fun (l0 : List Value) (i : Nat) (l : List Value) (w : World) => ∃ (u5 u6 u7 u8 u9 u10 u11 u12 u13 u14 u15 u16 u17 u18 u19 u20 u21 u22 u23 u24 : Value) (a3 : Option Addr) (c3 : Nat) (N : List (Nat × Obj)), l = ovr l0 [N_, N_, N_, Y_ (.slice a3 i c3), Y_ (.int .i64 i), Y_ u5, Y_ u6, Y_ u7, Y_ u8, Y_ u9, Y_ u10, Y_ u11, Y_ u12, Y_ u13, Y_ u14, Y_ u15, Y_ u16, Y_ u17, Y_ u18, Y_ u19, Y_ u20, Y_ u21, Y_ u22, Y_ u23, Y_ u24] ∧ i ≤ ys.length ∧ RowN 2 60 (rowC fbC (ys.take i)) i a3 c3 N ∧ St w0 [] w (N)) (fun (i : Nat) => ys.length - i) 0 ⟨_,_,_,_,_,_,_,_,_,_,_,_,_,_,_,_,_,_,_,_, none, 0, [], rfl, Nat.zero_le _, RowN.nil, H⟩ ?_
 intro i l w ⟨u5, u6, u7, u8, u9, u10, u11, u12, u13, u14, u15, u16, u17, u18, u19, u20, u21, u22, u23, u24, a3, c3, N, hl, hi, hR, H⟩
 obtain rfl := hl.trans (rfl : _ = [_,_,_,_,_,_,_,_,_,_,_,_,_,_,_,_,_,_,_,_,_,_,_,_,_,_])
 clear hl
 refine c_seq ?_
 refine c_rseq (n := 26) ⟨rfl, rfl⟩ ?_
 refine s_val (r_move rfl) ?_
 refine s_val (r_move rfl) ?_
 refine s_val (r_lens Try.runUnderlying22 (ec rfl en)) ?_
 refine s_val (r_lss rfl rfl) ?_
 refine c_nil (l' := [_,_,_,_,_,_,_,_,_,_,_,_,_,_,_,_,_,_,_,_,_,_,_,_,_,_]) rfl ?_
 refine c_if rfl (fun h8 => ?_) (fun h8 => ?_)
 ·skip
  obtain ⟨y, hx⟩ : ∃ y, ys[i]? = some y := ⟨_, List.getElem?_eq_getElem (by omega)⟩
  obtain ⟨b0, off, pre, post, T0, fz0, rfl, hb0, hp0⟩ := hr (by omega)
  refine wp_skip ?_
  refine x_thenNormal ?_
  refine c_seq ?_
  refine wp_block ?_
  refine d_begin (sz := 26) ⟨rfl, rfl⟩ (by kernel_rfl) H (H.sub (List.nil_sublist _)) rfl ?_
  intro w H
  refine d_take (i := 0) rfl (by kernel_rfl) (fun _ _ _ h => h) (H.sub (List.nil_sublist _)) (fun _ _ => r_move rfl) rfl ?_
  refine d_take (i := 1) rfl (by kernel_rfl) (fun _ _ _ h => h) (H.sub (List.nil_sublist _)) (fun _ _ => r_move rfl) rfl ?_
  refine d_take (i := 2) rfl (by kernel_rfl) (fun _ _ _ h => h) (H.sub (List.nil_sublist _)) (fun _ _ => r_move rfl) rfl ?_
  refine d_take (i := 3) rfl (by kernel_rfl) (fun _ _ _ h => h) (H.sub (List.nil_sublist _)) (fun _ _ => r_indexAddrS Try.runUnderlying22 Try.sizeOf27 rfl rfl (by omega) (by omega)) rfl ?_
  refine d_take (i := 4) rfl (by kernel_rfl) (fun _ _ _ h => h) (H.sub (List.nil_sublist _)) (fun _ _ => r_fieldAddr (k := 0) Try.runUnderlying27 rfl Try.sizeOf3 (by decide) rfl rfl) rfl ?_
  refine d_take (i := 5) rfl (by kernel_rfl) (fun _ _ _ h => h) (H.sub (List.nil_sublist _)) (fun _ HS => r_load1 Try.isAgg3 rfl (HS.rd0 hb0) (fa_at hp0 hx (by omega))) rfl ?_
  refine d_take (i := 6) rfl (by kernel_rfl) (fun _ _ _ h => h) (H.sub (List.nil_sublist _)) (fun _ _ => r_move rfl) rfl ?_
  refine d_take (i := 7) rfl (by kernel_rfl) (fun _ _ _ h => h) (H.sub (List.nil_sublist _)) (fun _ _ => r_move rfl) rfl ?_
  refine d_take (i := 8) rfl (by kernel_rfl) (fun _ _ _ h => h) (H.sub (List.nil_sublist _)) (fun _ _ => r_indexAddrS Try.runUnderlying22 Try.sizeOf27 rfl rfl (by omega) (by omega)) rfl ?_
  refine d_take (i := 9) rfl (by kernel_rfl) (fun _ _ _ h => h) (H.sub (List.nil_sublist _)) (fun _ _ => r_fieldAddr (k := 2) Try.runUnderlying27 rfl Try.sizeOf25 (by decide) rfl rfl) rfl ?_
  refine d_take (i := 10) rfl (by kernel_rfl) (fun _ _ _ h => h) (H.sub (List.nil_sublist _)) (fun _ HS => r_load1 Try.isAgg25 rfl (HS.rd0 hb0) (fa_bd hp0 hx (by omega))) rfl ?_
  refine d_take (i := 11) rfl (by kernel_rfl) (fun _ _ _ h => h) (H.sub (List.nil_sublist _)) (fun _ _ => r_buildS Try.runUnderlying60 Try.zeroValue60 places60 (pc rfl (pc rfl pn)) (rfl : fillL _ _ _ = some (fbC y))) rfl ?_
  refine d_all1 (i := 12) (by kernel_rfl) ?_
  refine b_new rfl go_none (m_bslice1 (vs := fbC y) H Try.runUnderlying33 Try.sizeOf60 Try.zeroValue60 (by omega) (by omega) rfl rfl rfl) rfl (fun _ _ H => (H.sub (List.nil_sublist _))) ?_
  intro w b23 H
  refine d_all1 (i := 13) (by kernel_rfl) ?_
  refine b_any rfl go_none (m_append_row0 (L1 := [_]) (N := N) H hR Try.runUnderlying33 Try.runUnderlying33 (fun _ h => nomatch h) Try.sizeOf60 Try.zeroValue60 rfl Try.typeInfo60 (by rw [bytes60]; omega) (by rw [bytes60]; omega) (ec rfl (ec rfl en)) (Src.slice (vs := fbC y) (H.at 0 rfl) rfl rfl (fbC_one _))) rfl (by rintro v w ⟨a5, c5, N5, rfl, hN5, H⟩; exact (H.sub (List.nil_sublist _))) ?_
  rintro v w ⟨a5, c5, N5, rfl, hN5, H⟩
  skip
  refine d_take (i := 14) rfl (by kernel_rfl) (fun _ _ _ h => h) (H.sub (List.nil_sublist _)) (fun _ _ => r_assign rfl) rfl ?_
  refine d_done (l' := [_,_,_,_,_,_,_,_,_,_,_,_,_,_,_,_,_,_,_,_,_,_,_,_,_,_]) (by kernel_rfl) rfl ?_
  refine x_blockNormal ?_
  refine x_thenNormal ?_
  refine c_region (n := 26) ⟨rfl, rfl⟩ ?_
  refine s_val (r_move rfl) ?_
  refine s_val (r_add rfl rfl (w_i64 (by omega) (by omega))) ?_
  refine s_val (r_assign rfl) ?_
  refine c_nil0 (l' := [_,_,_,_,_,_,_,_,_,_,_,_,_,_,_,_,_,_,_,_,_,_,_,_,_,_]) rfl ?_
  exact ⟨i + 1, _, rfl, ⟨_,_,_,_,_,_,_,_,_,_,_,_,_,_,_,_,_,_,_,_, a5, c5, N5, rfl, by omega, (by rw [List.take_add_one, hx, rowC_append]; show RowN 2 _ (_ ++ rowC fbC [y]) _ _ _ _; rw [rowC_one1]; exact hN5), (H.sub (.cons _ (List.Sublist.refl _)))⟩, by omega⟩
 ·skip
  obtain rfl : i = ys.length := by omega
  rw [List.take_length] at hR
  refine wp_exit (x_thenExit (x_thenExit (x_blockHit ?_)))
  refine x_thenNormal ?_
  refine c_rseq (n := 26) ⟨rfl, rfl⟩ ?_
  refine s_val (r_move rfl) ?_
  refine s_val (r_assign rfl) ?_
  refine c_nil (l' := [_,_,_,_,_,_,_,_,_,_,_,_,_,_,_,_,_,_,_,_,_,_,_,_,_,_]) rfl ?_
  refine wp_ret ?_
  refine e_ret (res1 rfl rfl) ⟨_, rfl, ?_⟩
  exact ⟨a3, c3, N, rfl, hR, H⟩

set_option maxHeartbeats 4000000 in
theorem same17_spec (a b : Option Addr) (c d : Nat) (xs ys : List FrL) (he : xs.map frP = ys.map frP) (hl : xs.length ≤ 1000000) (w0 : World) (hx : RRow frC w0 a xs) (hy : RRow frC w0 b ys) (hbx : ∀ x ∈ xs, BRow w0 x.c.body.a x.c.body.b) (hby : ∀ x ∈ ys, BRow w0 x.c.body.a x.c.body.b) :
  Calls Try.prog 6 #[.slice a xs.length c, .slice b ys.length d] w0 fun e w => ∃ v, e = .returned v ∧ (v = .bool true ∧ St w0 [] w []) := by
 have H := St.refl w0
 have hlen : xs.length = ys.length := by have h := congrArg List.length he; rwa [List.length_map, List.length_map] at h
 refine c_enter (args := [.slice a xs.length c, .slice b ys.length d]) (l := [.slice a xs.length c, .slice b ys.length d, undef, undef, undef, undef, undef, undef, undef, undef, undef, undef, undef, undef, undef, undef, undef, undef, undef, undef, undef, undef, undef, undef, undef, undef, undef, undef, undef, undef, undef, undef, undef, undef, undef, undef, undef, undef, undef, undef, undef, undef]) Try.func6 Try.ntmps6 rfl rfl ?_
 refine c_rseq (n := 42) ⟨rfl, rfl⟩ ?_
 refine s_val (r_assign rfl) ?_
 refine c_nil (l' := [_,_,_,_,_,_,_,_,_,_,_,_,_,_,_,_,_,_,_,_,_,_,_,_,_,_,_,_,_,_,_,_,_,_,_,_,_,_,_,_,_,_]) rfl ?_
 refine c_seq ?_
 refine c_rseq (n := 42) ⟨rfl, rfl⟩ ?_
 refine s_val (r_move rfl) ?_
 refine s_val (r_lens Try.runUnderlying29 (ec rfl en)) ?_
 refine s_val (r_move rfl) ?_
 refine s_val (r_lens Try.runUnderlying31 (ec rfl en)) ?_
 refine s_val (r_neq rfl rfl) ?_
 refine c_nil (l' := [_,_,_,_,_,_,_,_,_,_,_,_,_,_,_,_,_,_,_,_,_,_,_,_,_,_,_,_,_,_,_,_,_,_,_,_,_,_,_,_,_,_]) rfl ?_
 refine c_if rfl (fun h10 => ?_) (fun h10 => ?_)
 ·skip
  exfalso; omega
 ·skip
  refine wp_skip ?_
  refine x_thenNormal ?_
  refine c_seq ?_
  refine c_rseq (n := 42) ⟨rfl, rfl⟩ ?_
  refine s_val (r_assign rfl) ?_
  refine c_nil (l' := [_,_,_,_,_,_,_,_,_,_,_,_,_,_,_,_,_,_,_,_,_,_,_,_,_,_,_,_,_,_,_,_,_,_,_,_,_,_,_,_,_,_]) rfl ?_
  refine wp_block ?_
  refine c_loop (fun (l0 : List Value) (i : Nat) (l : List Value) (w : World) => ∃ (u4 u11 u12 u13 u14 u15 u16 u17 u18 u19 u20 u21 u22 u23 u24 u25 u26 u27 u28 u29 u30 u31 u32 u33 u34 u35 u36 u37 u38 u39 u40 u41 : Value) , l = ovr l0 [N_, N_, N_, N_, Y_ u4, Y_ (.int .i64 i), N_, N_, N_, N_, N_, Y_ u11, Y_ u12, Y_ u13, Y_ u14, Y_ u15, Y_ u16, Y_ u17, Y_ u18, Y_ u19, Y_ u20, Y_ u21, Y_ u22, Y_ u23, Y_ u24, Y_ u25, Y_ u26, Y_ u27, Y_ u28, Y_ u29, Y_ u30, Y_ u31, Y_ u32, Y_ u33, Y_ u34, Y_ u35, Y_ u36, Y_ u37, Y_ u38, Y_ u39, Y_ u40, Y_ u41] ∧ i ≤ xs.length ∧ St w0 [] w []) (fun (i : Nat) => xs.length - i) 0 ⟨_,_,_,_,_,_,_,_,_,_,_,_,_,_,_,_,_,_,_,_,_,_,_,_,_,_,_,_,_,_,_,_, rfl, Nat.zero_le _, H⟩ ?_
  intro i l w ⟨u4, u11, u12, u13, u14, u15, u16, u17, u18, u19, u20, u21, u22, u23, u24, u25, u26, u27, u28, u29, u30, u31, u32, u33, u34, u35, u36, u37, u38, u39, u40, u41, hl, hi, H⟩
  obtain rfl := hl.trans (rfl : _ = [_,_,_,_,_,_,_,_,_,_,_,_,_,_,_,_,_,_,_,_,_,_,_,_,_,_,_,_,_,_,_,_,_,_,_,_,_,_,_,_,_,_])
  clear hl
  refine c_seq ?_
  refine c_rseq (n := 42) ⟨rfl, rfl⟩ ?_
  refine s_val (r_move rfl) ?_
  refine s_val (r_move rfl) ?_
  refine s_val (r_lens Try.runUnderlying29 (ec rfl en)) ?_
  refine s_val (r_lss rfl rfl) ?_
  refine c_nil (l' := [_,_,_,_,_,_,_,_,_,_,_,_,_,_,_,_,_,_,_,_,_,_,_,_,_,_,_,_,_,_,_,_,_,_,_,_,_,_,_,_,_,_]) rfl ?_
  refine c_if rfl (fun h14 => ?_) (fun h14 => ?_)
  ·skip
   obtain ⟨x, hxi⟩ : ∃ x, xs[i]? = some x := ⟨_, List.getElem?_eq_getElem (by omega)⟩
   obtain ⟨y, hyi⟩ : ∃ y, ys[i]? = some y := ⟨_, List.getElem?_eq_getElem (by omega)⟩
   obtain ⟨ea, ece⟩ := frP_same he hxi hyi
   have hxm := List.mem_of_getElem? hxi
   have hym := List.mem_of_getElem? hyi
   obtain ⟨b1, off1, pre1, post1, T1, fz1, rfl, hb1, hp1⟩ := hx (by omega)
   obtain ⟨b2, off2, pre2, post2, T2, fz2, rfl, hb2, hp2⟩ := hy (by omega)
   refine wp_skip ?_
   refine x_thenNormal ?_
   refine c_seq ?_
   refine wp_block ?_
   refine c_seq ?_
   refine d_begin (sz := 42) ⟨rfl, rfl⟩ (by kernel_rfl) H (H) rfl ?_
   intro w H
   refine d_take (i := 0) rfl (by kernel_rfl) (fun _ _ _ h => h) H (fun _ _ => r_move rfl) rfl ?_
   refine d_take (i := 1) rfl (by kernel_rfl) (fun _ _ _ h => h) H (fun _ _ => r_move rfl) rfl ?_
   refine d_take (i := 2) rfl (by kernel_rfl) (fun _ _ _ h => h) H (fun _ _ => r_indexAddrS Try.runUnderlying29 Try.sizeOf42 rfl rfl (by omega) (by omega)) rfl ?_
   refine d_take (i := 3) rfl (by kernel_rfl) (fun _ _ _ h => h) H (fun _ _ => r_fieldAddr (k := 0) Try.runUnderlying42 rfl Try.sizeOf3 (by decide) rfl rfl) rfl ?_
   refine d_take (i := 4) rfl (by kernel_rfl) (fun _ _ _ h => h) H (fun _ HS => r_load1 Try.isAgg3 rfl (HS.rd0 hb1) (frw_at hp1 hxi (by omega))) rfl ?_
   refine d_take (i := 5) rfl (by kernel_rfl) (fun _ _ _ h => h) H (fun _ _ => r_move rfl) rfl ?_
   refine d_take (i := 6) rfl (by kernel_rfl) (fun _ _ _ h => h) H (fun _ _ => r_move rfl) rfl ?_
   refine d_take (i := 7) rfl (by kernel_rfl) (fun _ _ _ h => h) H (fun _ _ => r_indexAddrS Try.runUnderlying31 Try.sizeOf52 rfl rfl (by omega) (by omega)) rfl ?_
   refine d_take (i := 8) rfl (by kernel_rfl) (fun _ _ _ h => h) H (fun _ _ => r_fieldAddr (k := 0) Try.runUnderlying52 rfl Try.sizeOf3 (by decide) rfl rfl) rfl ?_
   refine d_take (i := 9) rfl (by kernel_rfl) (fun _ _ _ h => h) H (fun _ HS => r_load1 Try.isAgg3 rfl (HS.rd0 hb2) (frw_at hp2 hyi (by omega))) rfl ?_
   refine d_take (i := 10) rfl (by kernel_rfl) (fun _ _ _ h => h) H (fun _ _ => r_neq rfl rfl) rfl ?_
   refine d_part (fun h27 => ?_) (fun h27 => ?_)
   ·skip
    exfalso; omega
   ·skip
    refine d_take (i := 11) rfl (by kernel_rfl) (fun _ _ _ h => h) H (fun _ _ => r_move rfl) rfl ?_
    refine d_takeG (i := 12) rfl (by kernel_rfl) (fun _ _ _ h => h) rfl rfl H (fun _ _ => r_move rfl) rfl ?_
    refine d_takeG (i := 13) rfl (by kernel_rfl) (fun _ _ _ h => h) rfl rfl H (fun _ _ => r_move rfl) rfl ?_
    refine d_takeG (i := 14) rfl (by kernel_rfl) (fun _ _ _ h => h) rfl rfl H (fun _ _ => r_indexAddrS Try.runUnderlying29 Try.sizeOf42 rfl rfl (by omega) (by omega)) rfl ?_
    refine d_takeG (i := 15) rfl (by kernel_rfl) (fun _ _ _ h => h) rfl rfl H (fun _ _ => r_fieldAddr (k := 1) Try.runUnderlying42 rfl Try.sizeOf40 (by decide) rfl rfl) rfl ?_
    refine d_takeG (i := 16) rfl (by kernel_rfl) (fun _ _ _ h => h) rfl rfl H (fun _ HS => r_loadn Try.isAgg40 Try.sizeOf40 rfl (HS.rd0 hb1) (frw_cell hp1 hxi (by omega)) (ceC_length _)) rfl ?_
    refine d_takeG (i := 17) rfl (by kernel_rfl) (fun _ _ _ h => h) rfl rfl H (fun _ _ => r_move rfl) rfl ?_
    refine d_takeG (i := 18) rfl (by kernel_rfl) (fun _ _ _ h => h) rfl rfl H (fun _ _ => r_move rfl) rfl ?_
    refine d_takeG (i := 19) rfl (by kernel_rfl) (fun _ _ _ h => h) rfl rfl H (fun _ _ => r_indexAddrS Try.runUnderlying31 Try.sizeOf52 rfl rfl (by omega) (by omega)) rfl ?_
    refine d_takeG (i := 20) rfl (by kernel_rfl) (fun _ _ _ h => h) rfl rfl H (fun _ _ => r_fieldAddr (k := 1) Try.runUnderlying52 rfl Try.sizeOf40 (by decide) rfl rfl) rfl ?_
    refine d_takeG (i := 21) rfl (by kernel_rfl) (fun _ _ _ h => h) rfl rfl H (fun _ HS => r_loadn Try.isAgg40 Try.sizeOf40 rfl (HS.rd0 hb2) (frw_cell hp2 hyi (by omega)) (ceC_length _)) rfl ?_
    refine d_all1 (i := 22) (by kernel_rfl) ?_
    refine b_call rfl (go_some rfl rfl) (r_call Try.call10 (ec rfl (ec rfl en))) (csame12_yes x.c y.c ece _ ((hbx x hxm).st (H.sub (List.nil_sublist _))) ((hby y hym).st (H.sub (List.nil_sublist _)))) rfl ?_
    rintro v w ⟨rfl, HC⟩
    replace H := H.quiet HC
    refine ⟨H, ?_⟩
    refine d_takeG (i := 23) rfl (by kernel_rfl) (fun _ _ _ h => h) rfl rfl H (fun _ _ => r_not rfl) rfl ?_
    refine d_take (i := 24) rfl (by kernel_rfl) (fun _ _ _ h => h) H (fun _ _ => r_pickf rfl rfl) rfl ?_
    refine d_done (l' := [_,_,_,_,_,_,_,_,_,_,_,_,_,_,_,_,_,_,_,_,_,_,_,_,_,_,_,_,_,_,_,_,_,_,_,_,_,_,_,_,_,_]) (by kernel_rfl) rfl ?_
    refine x_thenNormal ?_
    refine c_iff rfl ?_
    refine wp_skip ?_
    refine x_blockNormal ?_
    refine x_thenNormal ?_
    refine c_region (n := 42) ⟨rfl, rfl⟩ ?_
    refine s_val (r_move rfl) ?_
    refine s_val (r_add rfl rfl (w_i64 (by omega) (by omega))) ?_
    refine s_val (r_assign rfl) ?_
    refine c_nil0 (l' := [_,_,_,_,_,_,_,_,_,_,_,_,_,_,_,_,_,_,_,_,_,_,_,_,_,_,_,_,_,_,_,_,_,_,_,_,_,_,_,_,_,_]) rfl ?_
    exact ⟨i + 1, _, rfl, ⟨_,_,_,_,_,_,_,_,_,_,_,_,_,_,_,_,_,_,_,_,_,_,_,_,_,_,_,_,_,_,_,_, rfl, by omega, H⟩, by omega⟩
  ·skip
   refine wp_exit (x_thenExit (x_thenExit (x_blockHit ?_)))
   refine x_thenNormal ?_
   refine c_rseq (n := 42) ⟨rfl, rfl⟩ ?_
   refine s_val (r_assign rfl) ?_
   refine c_nil (l' := [_,_,_,_,_,_,_,_,_,_,_,_,_,_,_,_,_,_,_,_,_,_,_,_,_,_,_,_,_,_,_,_,_,_,_,_,_,_,_,_,_,_]) rfl ?_
   refine wp_ret ?_
   refine e_ret (res1 rfl rfl) ⟨_, rfl, ?_⟩
   exact ⟨rfl, H⟩

set_option maxHeartbeats 4000000 in
theorem orders_spec (a : Option Addr) (c : Nat) (ys : List Fa) (_hcap : ys.length ≤ c) (_hcm : c ≤ 9223372036854775807) (hyc : ∀ y ∈ ys, y.bd.b.length ≤ y.bd.c) (w0 : World) (hr : RRow faC w0 a ys) (hbr : ∀ y ∈ ys, BRow w0 y.bd.a y.bd.b) :
  Calls Try.prog 3 #[.slice a ys.length c] w0 fun e w => ∃ v, e = .returned v ∧ (v = .bool true ∧ St w0 [] w []) := by
 have H := St.refl w0
 refine c_enter (args := [.slice a ys.length c]) (l := [.slice a ys.length c, undef, undef, undef, undef, undef, undef, undef, undef, undef, undef, undef, undef, undef, undef, undef, undef, undef, undef, undef, undef, undef, undef, undef, undef, undef, undef, undef]) Try.func3 Try.ntmps3 rfl rfl ?_
 refine c_rseq (n := 28) ⟨rfl, rfl⟩ ?_
 refine s_val (r_assign rfl) ?_
 refine c_nil (l' := [_,_,_,_,_,_,_,_,_,_,_,_,_,_,_,_,_,_,_,_,_,_,_,_,_,_,_,_]) rfl ?_
 refine c_seq ?_
 refine c_rseq (n := 28) ⟨rfl, rfl⟩ ?_
 refine s_call (r_call Try.call5 en) (awake_spec _) ?_
 rintro v w ⟨rfl, HC⟩
 replace H := H.quiet HC
 refine s_val (r_not rfl) ?_
 refine c_nil (l' := [_,_,_,_,_,_,_,_,_,_,_,_,_,_,_,_,_,_,_,_,_,_,_,_,_,_,_,_]) rfl ?_
 refine c_iff rfl ?_
 refine wp_skip ?_
 refine x_thenNormal ?_
 refine c_seq ?_
 refine c_rseq (n := 28) ⟨rfl, rfl⟩ ?_
 refine s_val (r_move rfl) ?_
 refine s_val (r_lens Try.runUnderlying22 (ec rfl en)) ?_
 refine s_val (r_gtr rfl rfl) ?_
 refine c_nil (l' := [_,_,_,_,_,_,_,_,_,_,_,_,_,_,_,_,_,_,_,_,_,_,_,_,_,_,_,_]) rfl ?_
 refine c_if rfl (fun h8 => ?_) (fun h8 => ?_)
 ·skip
  refine c_rseq (n := 28) ⟨rfl, rfl⟩ ?_
  refine s_val (r_assign rfl) ?_
  refine c_nil (l' := [_,_,_,_,_,_,_,_,_,_,_,_,_,_,_,_,_,_,_,_,_,_,_,_,_,_,_,_]) rfl ?_
  refine wp_ret (x_thenRet ?_)
  refine e_ret (res1 rfl rfl) ⟨_, rfl, ?_⟩
  exact ⟨rfl, (H.sub (List.nil_sublist _))⟩
 ·skip
  refine wp_skip ?_
  refine x_thenNormal ?_
  refine c_seq ?_
  refine c_rseq (n := 28) ⟨rfl, rfl⟩ ?_
  refine s_val (r_assign rfl) ?_
  refine c_nil (l' := [_,_,_,_,_,_,_,_,_,_,_,_,_,_,_,_,_,_,_,_,_,_,_,_,_,_,_,_]) rfl ?_
  refine wp_block ?_
  refine c_loop (fun (l0 : List Value) (i : Nat) (l : List Value) (w : World) => ∃ (u2 u9 u10 u11 u12 u13 u14 u15 u16 u17 u18 u19 u20 u21 : Value) , l = ovr l0 [N_, N_, Y_ u2, Y_ (.int .i64 i), N_, N_, N_, N_, N_, Y_ u9, Y_ u10, Y_ u11, Y_ u12, Y_ u13, Y_ u14, Y_ u15, Y_ u16, Y_ u17, Y_ u18, Y_ u19, Y_ u20, Y_ u21] ∧ i ≤ ys.length ∧ (∀ j y, j < i → ys[j]? = some y → y.bd.b.length ≤ 200) ∧ St w0 [] w ([])) (fun (i : Nat) => ys.length - i) 0 ⟨_,_,_,_,_,_,_,_,_,_,_,_,_,_, rfl, Nat.zero_le _, (fun _ _ h => absurd h (Nat.not_lt_zero _)), H⟩ ?_
  intro i l w ⟨u2, u9, u10, u11, u12, u13, u14, u15, u16, u17, u18, u19, u20, u21, hl, hi, hall, H⟩
  obtain rfl := hl.trans (rfl : _ = [_,_,_,_,_,_,_,_,_,_,_,_,_,_,_,_,_,_,_,_,_,_,_,_,_,_,_,_])
  clear hl
  refine c_seq ?_
  refine c_rseq (n := 28) ⟨rfl, rfl⟩ ?_
  refine s_val (r_move rfl) ?_
  refine s_val (r_move rfl) ?_
  refine s_val (r_lens Try.runUnderlying22 (ec rfl en)) ?_
  refine s_val (r_lss rfl rfl) ?_
  refine c_nil (l' := [_,_,_,_,_,_,_,_,_,_,_,_,_,_,_,_,_,_,_,_,_,_,_,_,_,_,_,_]) rfl ?_
  refine c_if rfl (fun h12 => ?_) (fun h12 => ?_)
  ·skip
   obtain ⟨y, hx⟩ : ∃ y, ys[i]? = some y := ⟨_, List.getElem?_eq_getElem (by omega)⟩
   obtain ⟨b0, off, pre, post, T0, fz0, rfl, hb0, hp0⟩ := hr (by omega)
   refine wp_skip ?_
   refine x_thenNormal ?_
   refine c_seq ?_
   refine wp_block ?_
   refine c_rseq (n := 28) ⟨rfl, rfl⟩ ?_
   refine s_val (r_move rfl) ?_
   refine s_val (r_move rfl) ?_
   refine s_val (r_indexAddrS Try.runUnderlying22 Try.sizeOf27 rfl rfl (by omega) (by omega)) ?_
   refine s_val (r_fieldAddr (k := 2) Try.runUnderlying27 rfl Try.sizeOf25 (by decide) rfl rfl) ?_
   refine s_val (r_load1 Try.isAgg25 rfl (H.rd0 hb0) (fa_bd hp0 hx (by omega))) ?_
   refine s_val (r_lens Try.runUnderlying25 (ec rfl en)) ?_
   refine s_val (r_gtr rfl rfl) ?_
   refine c_nil (l' := [_,_,_,_,_,_,_,_,_,_,_,_,_,_,_,_,_,_,_,_,_,_,_,_,_,_,_,_]) rfl ?_
   refine c_if rfl (fun h21 => ?_) (fun h21 => ?_)
   ·skip
    refine c_rseq (n := 28) ⟨rfl, rfl⟩ ?_
    refine s_val (r_assign rfl) ?_
    refine c_nil (l' := [_,_,_,_,_,_,_,_,_,_,_,_,_,_,_,_,_,_,_,_,_,_,_,_,_,_,_,_]) rfl ?_
    refine wp_ret (x_blockRet (x_thenRet (x_thenRet (x_blockRet (x_thenRet ?_)))))
    refine e_ret (res1 rfl rfl) ⟨_, rfl, ?_⟩
    exact ⟨rfl, (H.sub (List.nil_sublist _))⟩
   ·skip
    refine wp_skip ?_
    refine x_blockNormal ?_
    refine x_thenNormal ?_
    refine c_region (n := 28) ⟨rfl, rfl⟩ ?_
    refine s_val (r_move rfl) ?_
    refine s_val (r_add rfl rfl (w_i64 (by omega) (by omega))) ?_
    refine s_val (r_assign rfl) ?_
    refine c_nil0 (l' := [_,_,_,_,_,_,_,_,_,_,_,_,_,_,_,_,_,_,_,_,_,_,_,_,_,_,_,_]) rfl ?_
    exact ⟨i + 1, _, rfl, ⟨_,_,_,_,_,_,_,_,_,_,_,_,_,_, rfl, by omega, (fun j y2 hj he => by
      rcases Nat.lt_or_ge j i with h | h
      ·exact hall j y2 h he
      ·obtain rfl : j = i := by omega
       rw [hx] at he
       injection he with he
       subst he
       omega), H⟩, by omega⟩
  ·skip
   obtain rfl : i = ys.length := by omega
   have hyb : ∀ y ∈ ys, y.bd.b.length ≤ y.bd.c ∧ y.bd.b.length ≤ 1000000 := fun y hy => by
    obtain ⟨j, hj, e⟩ := List.getElem_of_mem hy
    have h1 := hall j y hj (by rw [List.getElem?_eq_getElem hj, e])
    exact ⟨hyc y hy, by omega⟩
   refine wp_exit (x_thenExit (x_thenExit (x_blockHit ?_)))
   refine x_thenNormal ?_
   refine c_rseq (n := 28) ⟨rfl, rfl⟩ ?_
   refine s_val (r_move rfl) ?_
   refine s_call (r_call Try.call7 (ec rfl en)) (order_spec _ _ ys hyb (by omega) (by have := ents_len ys; omega) _ (hr.st (H.sub (List.nil_sublist _))) (fun y hy => (hbr y hy).st (H.sub (List.nil_sublist _)))) ?_
   rintro v w ⟨zc, a2, c2, Nc, Nbc, rfl, hOc, hRc, hCc, HC⟩
   replace H := H.call0 HC
   refine s_val (r_move rfl) ?_
   refine s_call (r_call Try.call9 (ec rfl en)) (bodies_spec _ _ ys (by omega) _ (hr.st (H.sub (List.nil_sublist _)))) ?_
   rintro v w ⟨ab, cb, Nb, rfl, hRb, HC⟩
   replace H := H.call0 HC
   refine s_call (r_call Try.call8 (ec rfl en)) (order17_spec _ _ ys hyb (by omega) (by have := ents_len ys; omega) _ (hRb.rrowM (fun h => h) H (fun p hp => List.mem_append_left _ hp)) (fun y hy => (hbr y hy).st (H.sub (List.nil_sublist _)))) ?_
   rintro v w ⟨zd, ad, cd, Nd, rfl, hOd, hRd, hBd, HC⟩
   have hBd2 := fun x hx => (hBd x hx).st HC
   replace H := H.call0 HC
   refine s_call (r_call Try.call6 (ec rfl (ec rfl en))) (same17_spec a2 ad c2 cd zc zd (hOc.same hOd) (by have := ents_len ys; have := hOc.len; omega) _ (hRc.rrowM (fun h => h) H (fun p hp => List.mem_append_right _ (List.mem_append_right _ (List.mem_append_left _ (List.mem_append_left _ hp))))) (hRd.rrowM (fun h => h) H (fun p hp => List.mem_append_left _ hp)) (fun x hx => hCc.brow H (fun p hp => List.mem_append_right _ (List.mem_append_right _ (List.mem_append_left _ (List.mem_append_right _ hp)))) _ (List.mem_map.2 ⟨x, hx, rfl⟩)) hBd2) ?_
   rintro v w ⟨rfl, HC⟩
   replace H := H.quiet HC
   refine s_val (r_assign rfl) ?_
   refine c_nil (l' := [_,_,_,_,_,_,_,_,_,_,_,_,_,_,_,_,_,_,_,_,_,_,_,_,_,_,_,_]) rfl ?_
   refine wp_ret ?_
   refine e_ret (res1 rfl rfl) ⟨_, rfl, ?_⟩
   exact ⟨rfl, (H.sub (List.nil_sublist _))⟩

end Go.Proofs.Ytihpeihlpgompaa

