import Derived.Test.YtihpeihlpgompaaPV2
namespace Go.Proofs.Ytihpeihlpgompaa
open Go Go.Er

theorem order_l (a : Option Addr) (n c : Nat) (ys : List Fa) (hn : n = ys.length) (hb : ∀ y ∈ ys, y.bd.b.length ≤ y.bd.c ∧ y.bd.b.length ≤ 1000000) (hl : ys.length ≤ 18) (w0 : World) (hr : RRow faC w0 a ys) (hbr : ∀ y ∈ ys, BRow w0 y.bd.a y.bd.b) :
    Calls Try.prog 7 #[.slice a n c] w0 fun e w => ∃ v, e = .returned v ∧ (∃ (zs : List FrL) (a2 : Option Addr) (c2 : Nat) (Nr Nb : List (Nat × Obj)), v = .slice a2 zs.length c2 ∧ OrdI zs (ents ys) ∧ RowN 12 42 (rowC frC zs) zs.length a2 c2 Nr ∧ CsN 5 (zs.map FrL.c) Nb ∧ St w0 [] w (Nr ++ Nb)) := by
  subst hn
  exact order_spec a c ys hb (by omega) (by have := ents_len ys; omega) w0 hr hbr

set_option maxHeartbeats 4000000 in
set_option maxRecDepth 20000 in
theorem parts_spec (a : Option Addr) (c : Nat) (ys : List Fa) (cut : Int) (hc0 : 0 ≤ cut) (hc1 : cut < 256) (hcap : ys.length ≤ c) (_hcm : c ≤ 9223372036854775807) (hyc : ∀ y ∈ ys, y.bd.b.length ≤ y.bd.c) (w0 : World) (hr : RRow faC w0 a ys) (hbr : ∀ y ∈ ys, BRow w0 y.bd.a y.bd.b) :
    Calls Try.prog 4 #[.slice a ys.length c, .int .u8 cut] w0 fun e w => ∃ v, e = .returned v ∧ (v = .bool true ∧ St w0 [] w []) := by
  have H := St.refl w0
  refine c_enter (args := [.slice a ys.length c, .int .u8 cut]) (l := [.slice a ys.length c, .int .u8 cut, undef, undef, undef, undef, undef, undef, undef, undef, undef, undef, undef, undef, undef, undef, undef, undef, undef, undef, undef, undef, undef, undef, undef, undef, undef, undef, undef, undef, undef, undef, undef, undef, undef, undef, undef, undef, undef, undef, undef, undef, undef, undef, undef, undef, undef, undef, undef, undef, undef, undef, undef, undef, undef, undef, undef, undef, undef, undef, undef, undef, undef, undef, undef, undef, undef, undef, undef, undef, undef, undef, undef, undef, undef, undef, undef, undef, undef, undef, undef, undef, undef, undef, undef, undef, undef, undef, undef, undef, undef, undef, undef, undef, undef, undef, undef, undef, undef, undef, undef, undef, undef, undef, undef, undef, undef, undef, undef, undef, undef, undef, undef, undef, undef, undef, undef, undef, undef, undef, undef, undef, undef, undef, undef, undef, undef, undef, undef, undef, undef, undef, undef, undef, undef, undef, undef, undef, undef, undef, undef, undef, undef, undef, undef, undef, undef, undef, undef, undef]) Try.func4 Try.ntmps4 rfl rfl ?_
  refine c_rseq (n := 150) ⟨rfl, rfl⟩ ?_
  refine s_val (r_assign rfl) ?_
  refine c_nil (l' := [_,_,_,_,_,_,_,_,_,_,_,_,_,_,_,_,_,_,_,_,_,_,_,_,_,_,_,_,_,_,_,_,_,_,_,_,_,_,_,_,_,_,_,_,_,_,_,_,_,_,_,_,_,_,_,_,_,_,_,_,_,_,_,_,_,_,_,_,_,_,_,_,_,_,_,_,_,_,_,_,_,_,_,_,_,_,_,_,_,_,_,_,_,_,_,_,_,_,_,_,_,_,_,_,_,_,_,_,_,_,_,_,_,_,_,_,_,_,_,_,_,_,_,_,_,_,_,_,_,_,_,_,_,_,_,_,_,_,_,_,_,_,_,_,_,_,_,_,_,_]) rfl ?_
  refine c_seq ?_
  refine c_rseq (n := 150) ⟨rfl, rfl⟩ ?_
  refine s_call (r_call Try.call5 en) (awake_spec _) ?_
  rintro v w ⟨rfl, HC⟩
  replace H := H.quiet HC
  refine s_val (r_not rfl) ?_
  refine c_nil (l' := [_,_,_,_,_,_,_,_,_,_,_,_,_,_,_,_,_,_,_,_,_,_,_,_,_,_,_,_,_,_,_,_,_,_,_,_,_,_,_,_,_,_,_,_,_,_,_,_,_,_,_,_,_,_,_,_,_,_,_,_,_,_,_,_,_,_,_,_,_,_,_,_,_,_,_,_,_,_,_,_,_,_,_,_,_,_,_,_,_,_,_,_,_,_,_,_,_,_,_,_,_,_,_,_,_,_,_,_,_,_,_,_,_,_,_,_,_,_,_,_,_,_,_,_,_,_,_,_,_,_,_,_,_,_,_,_,_,_,_,_,_,_,_,_,_,_,_,_,_,_]) rfl ?_
  refine c_iff rfl ?_
  refine wp_skip ?_
  refine x_thenNormal ?_
  refine c_seq ?_
  refine c_rseq (n := 150) ⟨rfl, rfl⟩ ?_
  refine s_val (r_move rfl) ?_
  refine s_val (r_lens Try.runUnderlying22 (ec rfl en)) ?_
  refine s_val (r_gtr rfl rfl) ?_
  refine c_nil (l' := [_,_,_,_,_,_,_,_,_,_,_,_,_,_,_,_,_,_,_,_,_,_,_,_,_,_,_,_,_,_,_,_,_,_,_,_,_,_,_,_,_,_,_,_,_,_,_,_,_,_,_,_,_,_,_,_,_,_,_,_,_,_,_,_,_,_,_,_,_,_,_,_,_,_,_,_,_,_,_,_,_,_,_,_,_,_,_,_,_,_,_,_,_,_,_,_,_,_,_,_,_,_,_,_,_,_,_,_,_,_,_,_,_,_,_,_,_,_,_,_,_,_,_,_,_,_,_,_,_,_,_,_,_,_,_,_,_,_,_,_,_,_,_,_,_,_,_,_,_,_]) rfl ?_
  refine c_if rfl (fun h20 => ?_) (fun h20 => ?_)
  · skip
    skip
    refine c_rseq (n := 150) ⟨rfl, rfl⟩ ?_
    refine s_val (r_assign rfl) ?_
    refine c_nil (l' := [_,_,_,_,_,_,_,_,_,_,_,_,_,_,_,_,_,_,_,_,_,_,_,_,_,_,_,_,_,_,_,_,_,_,_,_,_,_,_,_,_,_,_,_,_,_,_,_,_,_,_,_,_,_,_,_,_,_,_,_,_,_,_,_,_,_,_,_,_,_,_,_,_,_,_,_,_,_,_,_,_,_,_,_,_,_,_,_,_,_,_,_,_,_,_,_,_,_,_,_,_,_,_,_,_,_,_,_,_,_,_,_,_,_,_,_,_,_,_,_,_,_,_,_,_,_,_,_,_,_,_,_,_,_,_,_,_,_,_,_,_,_,_,_,_,_,_,_,_,_]) rfl ?_
    refine wp_ret (x_thenRet ?_)
    refine e_ret (res1 rfl rfl) ⟨_, rfl, ?_⟩
    exact ⟨rfl, (H.sub (List.nil_sublist _))⟩
  · skip
    refine wp_skip ?_
    refine x_thenNormal ?_
    refine c_seq ?_
    refine c_rseq (n := 150) ⟨rfl, rfl⟩ ?_
    refine s_val (r_assign rfl) ?_
    refine c_nil (l' := [_,_,_,_,_,_,_,_,_,_,_,_,_,_,_,_,_,_,_,_,_,_,_,_,_,_,_,_,_,_,_,_,_,_,_,_,_,_,_,_,_,_,_,_,_,_,_,_,_,_,_,_,_,_,_,_,_,_,_,_,_,_,_,_,_,_,_,_,_,_,_,_,_,_,_,_,_,_,_,_,_,_,_,_,_,_,_,_,_,_,_,_,_,_,_,_,_,_,_,_,_,_,_,_,_,_,_,_,_,_,_,_,_,_,_,_,_,_,_,_,_,_,_,_,_,_,_,_,_,_,_,_,_,_,_,_,_,_,_,_,_,_,_,_,_,_,_,_,_,_]) rfl ?_
    refine wp_block ?_
    refine c_loop (fun (l0 : List Value) (i : Nat) (l : List Value) (w : World) => ∃ (u4 u21 u22 u23 u24 u25 u26 u27 u28 u29 u30 u31 u32 u33 : Value) , l = ovr l0 [N_, N_, N_, N_, Y_ u4, Y_ (.int .i64 i), N_, N_, N_, N_, N_, N_, N_, N_, N_, N_, N_, N_, N_, N_, N_, Y_ u21, Y_ u22, Y_ u23, Y_ u24, Y_ u25, Y_ u26, Y_ u27, Y_ u28, Y_ u29, Y_ u30, Y_ u31, Y_ u32, Y_ u33] ∧ i ≤ ys.length ∧ (∀ j y, j < i → ys[j]? = some y → y.bd.b.length ≤ 103) ∧ St w0 [] w ([])) (fun (i : Nat) => ys.length - i) 0 ⟨_,_,_,_,_,_,_,_,_,_,_,_,_,_, rfl, Nat.zero_le _, (fun _ _ h => absurd h (Nat.not_lt_zero _)), H⟩ ?_
    intro i l w ⟨u4, u21, u22, u23, u24, u25, u26, u27, u28, u29, u30, u31, u32, u33, hl, hi, hall, H⟩
    obtain rfl := hl.trans (rfl : _ = [_,_,_,_,_,_,_,_,_,_,_,_,_,_,_,_,_,_,_,_,_,_,_,_,_,_,_,_,_,_,_,_,_,_,_,_,_,_,_,_,_,_,_,_,_,_,_,_,_,_,_,_,_,_,_,_,_,_,_,_,_,_,_,_,_,_,_,_,_,_,_,_,_,_,_,_,_,_,_,_,_,_,_,_,_,_,_,_,_,_,_,_,_,_,_,_,_,_,_,_,_,_,_,_,_,_,_,_,_,_,_,_,_,_,_,_,_,_,_,_,_,_,_,_,_,_,_,_,_,_,_,_,_,_,_,_,_,_,_,_,_,_,_,_,_,_,_,_,_,_])
    clear hl
    refine c_seq ?_
    refine c_rseq (n := 150) ⟨rfl, rfl⟩ ?_
    refine s_val (r_move rfl) ?_
    refine s_val (r_move rfl) ?_
    refine s_val (r_lens Try.runUnderlying22 (ec rfl en)) ?_
    refine s_val (r_lss rfl rfl) ?_
    refine c_nil (l' := [_,_,_,_,_,_,_,_,_,_,_,_,_,_,_,_,_,_,_,_,_,_,_,_,_,_,_,_,_,_,_,_,_,_,_,_,_,_,_,_,_,_,_,_,_,_,_,_,_,_,_,_,_,_,_,_,_,_,_,_,_,_,_,_,_,_,_,_,_,_,_,_,_,_,_,_,_,_,_,_,_,_,_,_,_,_,_,_,_,_,_,_,_,_,_,_,_,_,_,_,_,_,_,_,_,_,_,_,_,_,_,_,_,_,_,_,_,_,_,_,_,_,_,_,_,_,_,_,_,_,_,_,_,_,_,_,_,_,_,_,_,_,_,_,_,_,_,_,_,_]) rfl ?_
    refine c_if rfl (fun h24 => ?_) (fun h24 => ?_)
    · skip
      obtain ⟨y, hx⟩ : ∃ y, ys[i]? = some y := ⟨_, List.getElem?_eq_getElem (by omega)⟩
      obtain ⟨b0, off, pre, post, T0, fz0, rfl, hb0, hp0⟩ := hr (by omega)
      refine wp_skip ?_
      refine x_thenNormal ?_
      refine c_seq ?_
      refine wp_block ?_
      refine c_rseq (n := 150) ⟨rfl, rfl⟩ ?_
      refine s_val (r_move rfl) ?_
      refine s_val (r_move rfl) ?_
      refine s_val (r_indexAddrS Try.runUnderlying22 Try.sizeOf27 rfl rfl (by omega) (by omega)) ?_
      refine s_val (r_fieldAddr (k := 2) Try.runUnderlying27 rfl Try.sizeOf25 (by decide) rfl rfl) ?_
      refine s_val (r_load1 Try.isAgg25 rfl (H.rd0 hb0) (fa_bd hp0 hx (by omega))) ?_
      refine s_val (r_lens Try.runUnderlying25 (ec rfl en)) ?_
      refine s_val (r_gtr rfl rfl) ?_
      refine c_nil (l' := [_,_,_,_,_,_,_,_,_,_,_,_,_,_,_,_,_,_,_,_,_,_,_,_,_,_,_,_,_,_,_,_,_,_,_,_,_,_,_,_,_,_,_,_,_,_,_,_,_,_,_,_,_,_,_,_,_,_,_,_,_,_,_,_,_,_,_,_,_,_,_,_,_,_,_,_,_,_,_,_,_,_,_,_,_,_,_,_,_,_,_,_,_,_,_,_,_,_,_,_,_,_,_,_,_,_,_,_,_,_,_,_,_,_,_,_,_,_,_,_,_,_,_,_,_,_,_,_,_,_,_,_,_,_,_,_,_,_,_,_,_,_,_,_,_,_,_,_,_,_]) rfl ?_
      refine c_if rfl (fun h33 => ?_) (fun h33 => ?_)
      · skip
        refine c_rseq (n := 150) ⟨rfl, rfl⟩ ?_
        refine s_val (r_assign rfl) ?_
        refine c_nil (l' := [_,_,_,_,_,_,_,_,_,_,_,_,_,_,_,_,_,_,_,_,_,_,_,_,_,_,_,_,_,_,_,_,_,_,_,_,_,_,_,_,_,_,_,_,_,_,_,_,_,_,_,_,_,_,_,_,_,_,_,_,_,_,_,_,_,_,_,_,_,_,_,_,_,_,_,_,_,_,_,_,_,_,_,_,_,_,_,_,_,_,_,_,_,_,_,_,_,_,_,_,_,_,_,_,_,_,_,_,_,_,_,_,_,_,_,_,_,_,_,_,_,_,_,_,_,_,_,_,_,_,_,_,_,_,_,_,_,_,_,_,_,_,_,_,_,_,_,_,_,_]) rfl ?_
        refine wp_ret (x_blockRet (x_thenRet (x_thenRet (x_blockRet (x_thenRet ?_)))))
        refine e_ret (res1 rfl rfl) ⟨_, rfl, ?_⟩
        exact ⟨rfl, (H.sub (List.nil_sublist _))⟩
      · skip
        refine wp_skip ?_
        refine x_blockNormal ?_
        refine x_thenNormal ?_
        refine c_region (n := 150) ⟨rfl, rfl⟩ ?_
        refine s_val (r_move rfl) ?_
        refine s_val (r_add rfl rfl (w_i64 (by omega) (by omega))) ?_
        refine s_val (r_assign rfl) ?_
        refine c_nil0 (l' := [_,_,_,_,_,_,_,_,_,_,_,_,_,_,_,_,_,_,_,_,_,_,_,_,_,_,_,_,_,_,_,_,_,_,_,_,_,_,_,_,_,_,_,_,_,_,_,_,_,_,_,_,_,_,_,_,_,_,_,_,_,_,_,_,_,_,_,_,_,_,_,_,_,_,_,_,_,_,_,_,_,_,_,_,_,_,_,_,_,_,_,_,_,_,_,_,_,_,_,_,_,_,_,_,_,_,_,_,_,_,_,_,_,_,_,_,_,_,_,_,_,_,_,_,_,_,_,_,_,_,_,_,_,_,_,_,_,_,_,_,_,_,_,_,_,_,_,_,_,_]) rfl ?_
        exact ⟨i + 1, _, rfl, ⟨_,_,_,_,_,_,_,_,_,_,_,_,_,_, rfl, by omega, (fun j y2 hj he => by
            rcases Nat.lt_or_ge j i with h | h
            · exact hall j y2 h he
            · obtain rfl : j = i := by omega
              rw [hx] at he
              injection he with he
              subst he
              omega), H⟩, by omega⟩
    · skip
      obtain rfl : i = ys.length := by omega
      have hyb : ∀ y ∈ ys, y.bd.b.length ≤ y.bd.c ∧ y.bd.b.length ≤ 1000000 := fun y hy => by
        obtain ⟨j, hj, e⟩ := List.getElem_of_mem hy
        have h1 := hall j y hj (by rw [List.getElem?_eq_getElem hj, e])
        exact ⟨hyc y hy, by omega⟩
      refine wp_exit (x_thenExit (x_thenExit (x_blockHit ?_)))
      refine x_thenNormal ?_
      refine c_rseq (n := 150) ⟨rfl, rfl⟩ ?_
      refine s_val (r_move rfl) ?_
      refine s_val (r_conv Try.runUnderlying5 Try.runUnderlying3 rfl (w_i64 (by omega) (by omega))) ?_
      refine s_val (r_move rfl) ?_
      refine s_val (r_lens Try.runUnderlying22 (ec rfl en)) ?_
      refine s_val (r_add rfl rfl (w_i64 (by omega) (by omega))) ?_
      refine s_val (r_rem rfl rfl (by omega) (remK hc0)) ?_
      obtain ⟨k, hk, hkl⟩ := remN cut ys.length
      rw [hk]
      refine s_val (r_assign rfl) ?_
      refine c_nil (l' := [_,_,_,_,_,_,_,_,_,_,_,_,_,_,_,_,_,_,_,_,_,_,_,_,_,_,_,_,_,_,_,_,_,_,_,_,_,_,_,_,_,_,_,_,_,_,_,_,_,_,_,_,_,_,_,_,_,_,_,_,_,_,_,_,_,_,_,_,_,_,_,_,_,_,_,_,_,_,_,_,_,_,_,_,_,_,_,_,_,_,_,_,_,_,_,_,_,_,_,_,_,_,_,_,_,_,_,_,_,_,_,_,_,_,_,_,_,_,_,_,_,_,_,_,_,_,_,_,_,_,_,_,_,_,_,_,_,_,_,_,_,_,_,_,_,_,_,_,_,_]) rfl ?_
      refine c_seq ?_
      refine d_begin (sz := 150) ⟨rfl, rfl⟩ (by kernel_rfl) H (H.sub (List.nil_sublist _)) rfl ?_
      intro w H
      refine d_take (i := 0) rfl (by kernel_rfl) (fun _ _ _ h => h) (H.sub (List.nil_sublist _)) (fun _ _ => r_move rfl) rfl ?_
      refine d_take (i := 1) rfl (by kernel_rfl) (fun _ _ _ h => h) (H.sub (List.nil_sublist _)) (fun _ _ => r_move rfl) rfl ?_
      refine d_take (i := 2) rfl (by kernel_rfl) (fun _ _ _ h => h) (H.sub (List.nil_sublist _)) (fun _ _ => r_sliceH (hi := k) Try.runUnderlying22 Try.sizeOf27 rfl rfl rfl (by omega)) rfl ?_
      refine d_take (i := 4) rfl (by kernel_rfl) (fun _ _ _ h => h) (H.sub (List.nil_sublist _)) (fun _ _ => r_move rfl) rfl ?_
      refine d_take (i := 5) rfl (by kernel_rfl) (fun _ _ _ h => h) (H.sub (List.nil_sublist _)) (fun _ _ => r_move rfl) rfl ?_
      refine d_take (i := 6) rfl (by kernel_rfl) (fun _ _ _ h => h) (H.sub (List.nil_sublist _)) (fun _ _ => r_sliceL (lo := k) Try.runUnderlying22 Try.sizeOf27 rfl rfl rfl (by omega)) rfl ?_
      refine d_take (i := 8) rfl (by kernel_rfl) (fun _ _ _ h => h) (H.sub (List.nil_sublist _)) (fun _ _ => r_move rfl) rfl ?_
      refine d_all1 (i := 3) (by kernel_rfl) ?_
      refine b_call rfl go_none (r_call Try.call7 (ec rfl en)) (order_l _ k _ (ys.take k) (by rw [List.length_take]; omega) (fun y hy => hyb y (List.mem_of_mem_take hy)) (by rw [List.length_take]; omega) _ (rrow_take (hr.st (H.sub (List.nil_sublist _))) _ _) (fun y hy => (hbr y (List.mem_of_mem_take hy)).st (H.sub (List.nil_sublist _)))) rfl ?_
      rintro v w ⟨za, aa, ca, Na, Nba, rfl, hOa, hRa, hCa, HC⟩
      replace H := H.call0 HC
      refine ⟨(H.sub (List.nil_sublist _)), ?_⟩
      refine d_all1 (i := 7) (by kernel_rfl) ?_
      refine b_call rfl go_none (r_call Try.call7 (ec rfl en)) (order_l _ (ys.length - k) _ (ys.drop k) (by rw [List.length_drop]) (fun y hy => hyb y (List.mem_of_mem_drop hy)) (by rw [List.length_drop]; omega) _ (rrow_drop elFa (hr.st (H.sub (List.nil_sublist _))) hcap _) (fun y hy => (hbr y (List.mem_of_mem_drop hy)).st (H.sub (List.nil_sublist _)))) rfl ?_
      rintro v w ⟨zb, ab, cb, Nb, Nbb, rfl, hOb, hRb, hCb, HC⟩
      replace H := H.call0 HC
      refine ⟨(H.sub (List.nil_sublist _)), ?_⟩
      refine d_all1 (i := 9) (by kernel_rfl) ?_
      refine b_call rfl go_none (r_call Try.call7 (ec rfl en)) (order_l _ ys.length _ (ys) rfl (fun y hy => hyb y (hy)) (by omega) _ (hr.st (H.sub (List.nil_sublist _))) (fun y hy => (hbr y (hy)).st (H.sub (List.nil_sublist _)))) rfl ?_
      rintro v w ⟨zc, ac, cc, Nc, Nbc, rfl, hOc, hRc, hCc, HC⟩
      replace H := H.call0 HC
      refine ⟨(H.sub (List.nil_sublist _)), ?_⟩
      refine d_take (i := 10) rfl (by kernel_rfl) (fun _ _ _ h => h) (H.sub (List.nil_sublist _)) (fun _ _ => r_assign rfl) rfl ?_
      refine d_take (i := 11) rfl (by kernel_rfl) (fun _ _ _ h => h) (H.sub (List.nil_sublist _)) (fun _ _ => r_assign rfl) rfl ?_
      refine d_take (i := 12) rfl (by kernel_rfl) (fun _ _ _ h => h) (H.sub (List.nil_sublist _)) (fun _ _ => r_assign rfl) rfl ?_
      refine d_done (l' := [_,_,_,_,_,_,_,_,_,_,_,_,_,_,_,_,_,_,_,_,_,_,_,_,_,_,_,_,_,_,_,_,_,_,_,_,_,_,_,_,_,_,_,_,_,_,_,_,_,_,_,_,_,_,_,_,_,_,_,_,_,_,_,_,_,_,_,_,_,_,_,_,_,_,_,_,_,_,_,_,_,_,_,_,_,_,_,_,_,_,_,_,_,_,_,_,_,_,_,_,_,_,_,_,_,_,_,_,_,_,_,_,_,_,_,_,_,_,_,_,_,_,_,_,_,_,_,_,_,_,_,_,_,_,_,_,_,_,_,_,_,_,_,_,_,_,_,_,_,_]) (by kernel_rfl) rfl ?_
      refine x_thenNormal ?_
      refine c_rseq (n := 150) ⟨rfl, rfl⟩ ?_
      have la1 := hOa.len
      have la2 := ents_len (ys.take k)
      rw [List.length_take] at la2
      have lb1 := hOb.len
      have lb2 := ents_len (ys.drop k)
      rw [List.length_drop] at lb2
      have lc1 := hOc.len
      have lc2 := ents_len ys
      refine s_new (m_makeMapV H) ?_
      intro w b50 H
      refine s_val (r_assign rfl) ?_
      refine c_nil (l' := [_,_,_,_,_,_,_,_,_,_,_,_,_,_,_,_,_,_,_,_,_,_,_,_,_,_,_,_,_,_,_,_,_,_,_,_,_,_,_,_,_,_,_,_,_,_,_,_,_,_,_,_,_,_,_,_,_,_,_,_,_,_,_,_,_,_,_,_,_,_,_,_,_,_,_,_,_,_,_,_,_,_,_,_,_,_,_,_,_,_,_,_,_,_,_,_,_,_,_,_,_,_,_,_,_,_,_,_,_,_,_,_,_,_,_,_,_,_,_,_,_,_,_,_,_,_,_,_,_,_,_,_,_,_,_,_,_,_,_,_,_,_,_,_,_,_,_,_,_,_]) rfl ?_
      refine c_seq ?_
      refine c_rseq (n := 150) ⟨rfl, rfl⟩ ?_
      refine s_val (r_assign rfl) ?_
      refine c_nil (l' := [_,_,_,_,_,_,_,_,_,_,_,_,_,_,_,_,_,_,_,_,_,_,_,_,_,_,_,_,_,_,_,_,_,_,_,_,_,_,_,_,_,_,_,_,_,_,_,_,_,_,_,_,_,_,_,_,_,_,_,_,_,_,_,_,_,_,_,_,_,_,_,_,_,_,_,_,_,_,_,_,_,_,_,_,_,_,_,_,_,_,_,_,_,_,_,_,_,_,_,_,_,_,_,_,_,_,_,_,_,_,_,_,_,_,_,_,_,_,_,_,_,_,_,_,_,_,_,_,_,_,_,_,_,_,_,_,_,_,_,_,_,_,_,_,_,_,_,_,_,_]) rfl ?_
      refine wp_block ?_
      refine c_loop (fun (l0 : List Value) (i : Nat) (l : List Value) (w : World) => ∃ (u51 u52 u53 u54 u55 u56 u57 u58 u59 u60 u61 u62 u63 u64 u65 u66 u67 : Value) (xs : List FrL), l = ovr l0 [N_, N_, N_, N_, N_, N_, N_, N_, N_, N_, N_, Y_ (.int .i64 i), N_, N_, N_, N_, N_, N_, N_, N_, N_, N_, N_, N_, N_, N_, N_, N_, N_, N_, N_, N_, N_, N_, N_, N_, N_, N_, N_, N_, N_, N_, N_, N_, N_, N_, N_, N_, N_, N_, N_, Y_ u51, Y_ u52, Y_ u53, Y_ u54, Y_ u55, Y_ u56, Y_ u57, Y_ u58, Y_ u59, Y_ u60, Y_ u61, Y_ u62, Y_ u63, Y_ u64, Y_ u65, Y_ u66, Y_ u67] ∧ i ≤ za.length ∧ MapI xs ([] ++ (za.map frP).take i) ∧ (∀ x ∈ xs, x ∈ za ∨ x ∈ zb) ∧ St w0 [] w ((b50, vmO (vfr xs)) :: (Nc ++ Nbc) ++ ((Nb ++ Nbb) ++ ((Na ++ Nba) ++ [])))) (fun (i : Nat) => za.length - i) 0 ⟨_,_,_,_,_,_,_,_,_,_,_,_,_,_,_,_,_, [], rfl, Nat.zero_le _, MapI.nil, (fun _ h => nomatch h), H⟩ ?_
      intro i l w ⟨u51, u52, u53, u54, u55, u56, u57, u58, u59, u60, u61, u62, u63, u64, u65, u66, u67, xs, hl, hi, hM, hX, H⟩
      obtain rfl := hl.trans (rfl : _ = [_,_,_,_,_,_,_,_,_,_,_,_,_,_,_,_,_,_,_,_,_,_,_,_,_,_,_,_,_,_,_,_,_,_,_,_,_,_,_,_,_,_,_,_,_,_,_,_,_,_,_,_,_,_,_,_,_,_,_,_,_,_,_,_,_,_,_,_,_,_,_,_,_,_,_,_,_,_,_,_,_,_,_,_,_,_,_,_,_,_,_,_,_,_,_,_,_,_,_,_,_,_,_,_,_,_,_,_,_,_,_,_,_,_,_,_,_,_,_,_,_,_,_,_,_,_,_,_,_,_,_,_,_,_,_,_,_,_,_,_,_,_,_,_,_,_,_,_,_,_])
      clear hl
      refine c_seq ?_
      refine c_rseq (n := 150) ⟨rfl, rfl⟩ ?_
      refine s_val (r_move rfl) ?_
      refine s_val (r_move rfl) ?_
      refine s_val (r_lens Try.runUnderlying29 (ec rfl en)) ?_
      refine s_val (r_lss rfl rfl) ?_
      refine c_nil (l' := [_,_,_,_,_,_,_,_,_,_,_,_,_,_,_,_,_,_,_,_,_,_,_,_,_,_,_,_,_,_,_,_,_,_,_,_,_,_,_,_,_,_,_,_,_,_,_,_,_,_,_,_,_,_,_,_,_,_,_,_,_,_,_,_,_,_,_,_,_,_,_,_,_,_,_,_,_,_,_,_,_,_,_,_,_,_,_,_,_,_,_,_,_,_,_,_,_,_,_,_,_,_,_,_,_,_,_,_,_,_,_,_,_,_,_,_,_,_,_,_,_,_,_,_,_,_,_,_,_,_,_,_,_,_,_,_,_,_,_,_,_,_,_,_,_,_,_,_,_,_]) rfl ?_
      refine c_if rfl (fun h54 => ?_) (fun h54 => ?_)
      · skip
        obtain ⟨x, hx⟩ : ∃ x, za[i]? = some x := ⟨_, List.getElem?_eq_getElem (by omega)⟩
        obtain ⟨bz, spz, rfl, hcz, rfl, hcz2⟩ := RowN.some hRa (by omega)
        refine wp_skip ?_
        refine x_thenNormal ?_
        refine c_seq ?_
        refine wp_block ?_
        refine d_begin (sz := 150) ⟨rfl, rfl⟩ (by kernel_rfl) H (H.sub (.cons _ (List.Sublist.refl _))) rfl ?_
        intro w H
        refine d_take (i := 0) rfl (by kernel_rfl) (fun _ _ _ h => h) (H.sub (.cons _ (List.Sublist.refl _))) (fun _ _ => r_move rfl) rfl ?_
        refine d_take (i := 1) rfl (by kernel_rfl) (fun _ _ _ h => h) (H.sub (.cons _ (List.Sublist.refl _))) (fun _ _ => r_move rfl) rfl ?_
        refine d_take (i := 2) rfl (by kernel_rfl) (fun _ _ _ h => h) (H.sub (.cons _ (List.Sublist.refl _))) (fun _ _ => r_move rfl) rfl ?_
        refine d_take (i := 3) rfl (by kernel_rfl) (fun _ _ _ h => h) (H.sub (.cons _ (List.Sublist.refl _))) (fun _ _ => r_indexAddrS Try.runUnderlying29 Try.sizeOf42 rfl rfl (by omega) (by omega)) rfl ?_
        refine d_take (i := 4) rfl (by kernel_rfl) (fun _ _ _ h => h) (H.sub (.cons _ (List.Sublist.refl _))) (fun _ _ => r_fieldAddr (k := 1) Try.runUnderlying42 rfl Try.sizeOf40 (by decide) rfl rfl) rfl ?_
        refine d_take (i := 5) rfl (by kernel_rfl) (fun _ _ _ h => h) (H.sub (.cons _ (List.Sublist.refl _))) (fun _ _ => r_fieldAddr (k := 1) Try.runUnderlying40 rfl Try.sizeOf24 (by decide) rfl rfl) rfl ?_
        refine d_take (i := 6) rfl (by kernel_rfl) (fun _ _ _ h => h) (H.sub (.cons _ (List.Sublist.refl _))) (fun _ HS => r_load1 Try.isAgg24 rfl (HS.own (bz, Obj.cells (rowC frC za ++ spz).toArray 42 (0, 0)) (List.mem_append_right _ (List.mem_append_right _ (List.mem_append_left _ (List.mem_append_left _ (List.mem_singleton.2 rfl)))))) (fr_num hx (by omega))) rfl ?_
        refine d_take (i := 7) rfl (by kernel_rfl) (fun _ _ _ h => h) (H.sub (.cons _ (List.Sublist.refl _))) (fun _ _ => r_move rfl) rfl ?_
        refine d_take (i := 8) rfl (by kernel_rfl) (fun _ _ _ h => h) (H.sub (.cons _ (List.Sublist.refl _))) (fun _ _ => r_move rfl) rfl ?_
        refine d_take (i := 9) rfl (by kernel_rfl) (fun _ _ _ h => h) (H.sub (.cons _ (List.Sublist.refl _))) (fun _ _ => r_indexAddrS Try.runUnderlying29 Try.sizeOf42 rfl rfl (by omega) (by omega)) rfl ?_
        refine d_take (i := 10) rfl (by kernel_rfl) (fun _ _ _ h => h) (H.sub (.cons _ (List.Sublist.refl _))) (fun _ HS => r_loadn Try.isAgg42 Try.sizeOf42 rfl (HS.own (bz, Obj.cells (rowC frC za ++ spz).toArray 42 (0, 0)) (List.mem_append_right _ (List.mem_append_right _ (List.mem_append_left _ (List.mem_append_left _ (List.mem_singleton.2 rfl)))))) (fr_all hx (by omega)) (frC_length _)) rfl ?_
        refine d_all1 (i := 11) (by kernel_rfl) ?_
        refine b_st rfl go_none (m_mapUpdateV H 0 Try.runUnderlying36 Try.runUnderlying24 rfl rfl rfl rfl) (L' := (_ :: _)) rfl rfl (fun _ H => (H.sub (.cons _ (List.Sublist.refl _)))) ?_
        intro w H
        replace H := St.put1 (y := x) (xs := xs) H
        refine d_done (l' := [_,_,_,_,_,_,_,_,_,_,_,_,_,_,_,_,_,_,_,_,_,_,_,_,_,_,_,_,_,_,_,_,_,_,_,_,_,_,_,_,_,_,_,_,_,_,_,_,_,_,_,_,_,_,_,_,_,_,_,_,_,_,_,_,_,_,_,_,_,_,_,_,_,_,_,_,_,_,_,_,_,_,_,_,_,_,_,_,_,_,_,_,_,_,_,_,_,_,_,_,_,_,_,_,_,_,_,_,_,_,_,_,_,_,_,_,_,_,_,_,_,_,_,_,_,_,_,_,_,_,_,_,_,_,_,_,_,_,_,_,_,_,_,_,_,_,_,_,_,_]) (by kernel_rfl) rfl ?_
        refine x_blockNormal ?_
        refine x_thenNormal ?_
        refine c_region (n := 150) ⟨rfl, rfl⟩ ?_
        refine s_val (r_move rfl) ?_
        refine s_val (r_add rfl rfl (w_i64 (by omega) (by omega))) ?_
        refine s_val (r_assign rfl) ?_
        refine c_nil0 (l' := [_,_,_,_,_,_,_,_,_,_,_,_,_,_,_,_,_,_,_,_,_,_,_,_,_,_,_,_,_,_,_,_,_,_,_,_,_,_,_,_,_,_,_,_,_,_,_,_,_,_,_,_,_,_,_,_,_,_,_,_,_,_,_,_,_,_,_,_,_,_,_,_,_,_,_,_,_,_,_,_,_,_,_,_,_,_,_,_,_,_,_,_,_,_,_,_,_,_,_,_,_,_,_,_,_,_,_,_,_,_,_,_,_,_,_,_,_,_,_,_,_,_,_,_,_,_,_,_,_,_,_,_,_,_,_,_,_,_,_,_,_,_,_,_,_,_,_,_,_,_]) rfl ?_
        exact ⟨i + 1, _, rfl, ⟨_,_,_,_,_,_,_,_,_,_,_,_,_,_,_,_,_, (putX xs x), rfl, by omega, (mapI_take hM hx), (mem_put_or hM.1 hX (.inl (List.mem_of_getElem? hx))), H⟩, by omega⟩
      · skip
        obtain rfl : i = za.length := by omega
        rw [← List.length_map (f := frP), List.take_length, List.nil_append] at hM
        refine wp_exit (x_thenExit (x_thenExit (x_blockHit ?_)))
        refine x_thenNormal ?_
        refine c_seq ?_
        refine c_rseq (n := 150) ⟨rfl, rfl⟩ ?_
        refine s_val (r_assign rfl) ?_
        refine c_nil (l' := [_,_,_,_,_,_,_,_,_,_,_,_,_,_,_,_,_,_,_,_,_,_,_,_,_,_,_,_,_,_,_,_,_,_,_,_,_,_,_,_,_,_,_,_,_,_,_,_,_,_,_,_,_,_,_,_,_,_,_,_,_,_,_,_,_,_,_,_,_,_,_,_,_,_,_,_,_,_,_,_,_,_,_,_,_,_,_,_,_,_,_,_,_,_,_,_,_,_,_,_,_,_,_,_,_,_,_,_,_,_,_,_,_,_,_,_,_,_,_,_,_,_,_,_,_,_,_,_,_,_,_,_,_,_,_,_,_,_,_,_,_,_,_,_,_,_,_,_,_,_]) rfl ?_
        refine wp_block ?_
        refine c_loop (fun (l0 : List Value) (j : Nat) (l : List Value) (w : World) => ∃ (u68 u69 u70 u71 u72 u73 u74 u75 u76 u77 u78 u79 u80 u81 u82 u83 u84 : Value) (xs : List FrL), l = ovr l0 [N_, N_, N_, N_, N_, N_, N_, N_, N_, N_, N_, N_, Y_ (.int .i64 j), N_, N_, N_, N_, N_, N_, N_, N_, N_, N_, N_, N_, N_, N_, N_, N_, N_, N_, N_, N_, N_, N_, N_, N_, N_, N_, N_, N_, N_, N_, N_, N_, N_, N_, N_, N_, N_, N_, N_, N_, N_, N_, N_, N_, N_, N_, N_, N_, N_, N_, N_, N_, N_, N_, N_, Y_ u68, Y_ u69, Y_ u70, Y_ u71, Y_ u72, Y_ u73, Y_ u74, Y_ u75, Y_ u76, Y_ u77, Y_ u78, Y_ u79, Y_ u80, Y_ u81, Y_ u82, Y_ u83, Y_ u84] ∧ j ≤ zb.length ∧ MapI xs (za.map frP ++ (zb.map frP).take j) ∧ (∀ x ∈ xs, x ∈ za ∨ x ∈ zb) ∧ St w0 [] w ((b50, vmO (vfr xs)) :: (Nc ++ Nbc) ++ ((Nb ++ Nbb) ++ ((Na ++ Nba) ++ [])))) (fun (j : Nat) => zb.length - j) 0 ⟨_,_,_,_,_,_,_,_,_,_,_,_,_,_,_,_,_, xs, rfl, Nat.zero_le _, (by rw [List.take_zero, List.append_nil]; exact hM), hX, H⟩ ?_
        intro j l w ⟨u68, u69, u70, u71, u72, u73, u74, u75, u76, u77, u78, u79, u80, u81, u82, u83, u84, xs, hl, hj, hM, hX, H⟩
        obtain rfl := hl.trans (rfl : _ = [_,_,_,_,_,_,_,_,_,_,_,_,_,_,_,_,_,_,_,_,_,_,_,_,_,_,_,_,_,_,_,_,_,_,_,_,_,_,_,_,_,_,_,_,_,_,_,_,_,_,_,_,_,_,_,_,_,_,_,_,_,_,_,_,_,_,_,_,_,_,_,_,_,_,_,_,_,_,_,_,_,_,_,_,_,_,_,_,_,_,_,_,_,_,_,_,_,_,_,_,_,_,_,_,_,_,_,_,_,_,_,_,_,_,_,_,_,_,_,_,_,_,_,_,_,_,_,_,_,_,_,_,_,_,_,_,_,_,_,_,_,_,_,_,_,_,_,_,_,_])
        clear hl
        refine c_seq ?_
        refine c_rseq (n := 150) ⟨rfl, rfl⟩ ?_
        refine s_val (r_move rfl) ?_
        refine s_val (r_move rfl) ?_
        refine s_val (r_lens Try.runUnderlying29 (ec rfl en)) ?_
        refine s_val (r_lss rfl rfl) ?_
        refine c_nil (l' := [_,_,_,_,_,_,_,_,_,_,_,_,_,_,_,_,_,_,_,_,_,_,_,_,_,_,_,_,_,_,_,_,_,_,_,_,_,_,_,_,_,_,_,_,_,_,_,_,_,_,_,_,_,_,_,_,_,_,_,_,_,_,_,_,_,_,_,_,_,_,_,_,_,_,_,_,_,_,_,_,_,_,_,_,_,_,_,_,_,_,_,_,_,_,_,_,_,_,_,_,_,_,_,_,_,_,_,_,_,_,_,_,_,_,_,_,_,_,_,_,_,_,_,_,_,_,_,_,_,_,_,_,_,_,_,_,_,_,_,_,_,_,_,_,_,_,_,_,_,_]) rfl ?_
        refine c_if rfl (fun h71 => ?_) (fun h71 => ?_)
        · skip
          obtain ⟨x, hx⟩ : ∃ x, zb[j]? = some x := ⟨_, List.getElem?_eq_getElem (by omega)⟩
          obtain ⟨bz, spz, rfl, hcz, rfl, hcz2⟩ := RowN.some hRb (by omega)
          refine wp_skip ?_
          refine x_thenNormal ?_
          refine c_seq ?_
          refine wp_block ?_
          refine d_begin (sz := 150) ⟨rfl, rfl⟩ (by kernel_rfl) H (H.sub (.cons _ (List.Sublist.refl _))) rfl ?_
          intro w H
          refine d_take (i := 0) rfl (by kernel_rfl) (fun _ _ _ h => h) (H.sub (.cons _ (List.Sublist.refl _))) (fun _ _ => r_move rfl) rfl ?_
          refine d_take (i := 1) rfl (by kernel_rfl) (fun _ _ _ h => h) (H.sub (.cons _ (List.Sublist.refl _))) (fun _ _ => r_move rfl) rfl ?_
          refine d_take (i := 2) rfl (by kernel_rfl) (fun _ _ _ h => h) (H.sub (.cons _ (List.Sublist.refl _))) (fun _ _ => r_move rfl) rfl ?_
          refine d_take (i := 3) rfl (by kernel_rfl) (fun _ _ _ h => h) (H.sub (.cons _ (List.Sublist.refl _))) (fun _ _ => r_indexAddrS Try.runUnderlying29 Try.sizeOf42 rfl rfl (by omega) (by omega)) rfl ?_
          refine d_take (i := 4) rfl (by kernel_rfl) (fun _ _ _ h => h) (H.sub (.cons _ (List.Sublist.refl _))) (fun _ _ => r_fieldAddr (k := 1) Try.runUnderlying42 rfl Try.sizeOf40 (by decide) rfl rfl) rfl ?_
          refine d_take (i := 5) rfl (by kernel_rfl) (fun _ _ _ h => h) (H.sub (.cons _ (List.Sublist.refl _))) (fun _ _ => r_fieldAddr (k := 1) Try.runUnderlying40 rfl Try.sizeOf24 (by decide) rfl rfl) rfl ?_
          refine d_take (i := 6) rfl (by kernel_rfl) (fun _ _ _ h => h) (H.sub (.cons _ (List.Sublist.refl _))) (fun _ HS => r_load1 Try.isAgg24 rfl (HS.own (bz, Obj.cells (rowC frC zb ++ spz).toArray 42 (0, 0)) (List.mem_append_right _ (List.mem_append_left _ (List.mem_append_left _ (List.mem_singleton.2 rfl))))) (fr_num hx (by omega))) rfl ?_
          refine d_take (i := 7) rfl (by kernel_rfl) (fun _ _ _ h => h) (H.sub (.cons _ (List.Sublist.refl _))) (fun _ _ => r_move rfl) rfl ?_
          refine d_take (i := 8) rfl (by kernel_rfl) (fun _ _ _ h => h) (H.sub (.cons _ (List.Sublist.refl _))) (fun _ _ => r_move rfl) rfl ?_
          refine d_take (i := 9) rfl (by kernel_rfl) (fun _ _ _ h => h) (H.sub (.cons _ (List.Sublist.refl _))) (fun _ _ => r_indexAddrS Try.runUnderlying29 Try.sizeOf42 rfl rfl (by omega) (by omega)) rfl ?_
          refine d_take (i := 10) rfl (by kernel_rfl) (fun _ _ _ h => h) (H.sub (.cons _ (List.Sublist.refl _))) (fun _ HS => r_loadn Try.isAgg42 Try.sizeOf42 rfl (HS.own (bz, Obj.cells (rowC frC zb ++ spz).toArray 42 (0, 0)) (List.mem_append_right _ (List.mem_append_left _ (List.mem_append_left _ (List.mem_singleton.2 rfl))))) (fr_all hx (by omega)) (frC_length _)) rfl ?_
          refine d_all1 (i := 11) (by kernel_rfl) ?_
          refine b_st rfl go_none (m_mapUpdateV H 0 Try.runUnderlying36 Try.runUnderlying24 rfl rfl rfl rfl) (L' := (_ :: _)) rfl rfl (fun _ H => (H.sub (.cons _ (List.Sublist.refl _)))) ?_
          intro w H
          replace H := St.put1 (y := x) (xs := xs) H
          refine d_done (l' := [_,_,_,_,_,_,_,_,_,_,_,_,_,_,_,_,_,_,_,_,_,_,_,_,_,_,_,_,_,_,_,_,_,_,_,_,_,_,_,_,_,_,_,_,_,_,_,_,_,_,_,_,_,_,_,_,_,_,_,_,_,_,_,_,_,_,_,_,_,_,_,_,_,_,_,_,_,_,_,_,_,_,_,_,_,_,_,_,_,_,_,_,_,_,_,_,_,_,_,_,_,_,_,_,_,_,_,_,_,_,_,_,_,_,_,_,_,_,_,_,_,_,_,_,_,_,_,_,_,_,_,_,_,_,_,_,_,_,_,_,_,_,_,_,_,_,_,_,_,_]) (by kernel_rfl) rfl ?_
          refine x_blockNormal ?_
          refine x_thenNormal ?_
          refine c_region (n := 150) ⟨rfl, rfl⟩ ?_
          refine s_val (r_move rfl) ?_
          refine s_val (r_add rfl rfl (w_i64 (by omega) (by omega))) ?_
          refine s_val (r_assign rfl) ?_
          refine c_nil0 (l' := [_,_,_,_,_,_,_,_,_,_,_,_,_,_,_,_,_,_,_,_,_,_,_,_,_,_,_,_,_,_,_,_,_,_,_,_,_,_,_,_,_,_,_,_,_,_,_,_,_,_,_,_,_,_,_,_,_,_,_,_,_,_,_,_,_,_,_,_,_,_,_,_,_,_,_,_,_,_,_,_,_,_,_,_,_,_,_,_,_,_,_,_,_,_,_,_,_,_,_,_,_,_,_,_,_,_,_,_,_,_,_,_,_,_,_,_,_,_,_,_,_,_,_,_,_,_,_,_,_,_,_,_,_,_,_,_,_,_,_,_,_,_,_,_,_,_,_,_,_,_]) rfl ?_
          exact ⟨j + 1, _, rfl, ⟨_,_,_,_,_,_,_,_,_,_,_,_,_,_,_,_,_, (putX xs x), rfl, by omega, (mapI_take hM hx), (mem_put_or hM.1 hX (.inr (List.mem_of_getElem? hx))), H⟩, by omega⟩
        · skip
          obtain rfl : j = zb.length := by omega
          rw [← List.length_map (f := frP), List.take_length] at hM
          obtain ⟨hlen, hgot⟩ := parts_all hM hOa hOb (by rw [← ents_append, List.take_append_drop]; exact hOc)
          refine wp_exit (x_thenExit (x_thenExit (x_blockHit ?_)))
          refine x_thenNormal ?_
          refine c_seq ?_
          refine c_rseq (n := 150) ⟨rfl, rfl⟩ ?_
          refine s_val (r_move rfl) ?_
          refine s_val (r_lens Try.runUnderlying29 (ec rfl en)) ?_
          refine s_val (r_move rfl) ?_
          refine s_val (r_lenMapV Try.runUnderlying36 (ec rfl en) (H.at 0 rfl)) ?_
          refine s_val (r_neq rfl rfl) ?_
          refine c_nil (l' := [_,_,_,_,_,_,_,_,_,_,_,_,_,_,_,_,_,_,_,_,_,_,_,_,_,_,_,_,_,_,_,_,_,_,_,_,_,_,_,_,_,_,_,_,_,_,_,_,_,_,_,_,_,_,_,_,_,_,_,_,_,_,_,_,_,_,_,_,_,_,_,_,_,_,_,_,_,_,_,_,_,_,_,_,_,_,_,_,_,_,_,_,_,_,_,_,_,_,_,_,_,_,_,_,_,_,_,_,_,_,_,_,_,_,_,_,_,_,_,_,_,_,_,_,_,_,_,_,_,_,_,_,_,_,_,_,_,_,_,_,_,_,_,_,_,_,_,_,_,_]) rfl ?_
          refine c_if rfl (fun h89 => ?_) (fun h89 => ?_)
          · skip
            exact absurd (by rw [vfr_length]; exact congrArg Int.ofNat hlen) h89
          · skip
            refine wp_skip ?_
            refine x_thenNormal ?_
            refine c_seq ?_
            refine c_rseq (n := 150) ⟨rfl, rfl⟩ ?_
            refine s_val (r_assign rfl) ?_
            refine c_nil (l' := [_,_,_,_,_,_,_,_,_,_,_,_,_,_,_,_,_,_,_,_,_,_,_,_,_,_,_,_,_,_,_,_,_,_,_,_,_,_,_,_,_,_,_,_,_,_,_,_,_,_,_,_,_,_,_,_,_,_,_,_,_,_,_,_,_,_,_,_,_,_,_,_,_,_,_,_,_,_,_,_,_,_,_,_,_,_,_,_,_,_,_,_,_,_,_,_,_,_,_,_,_,_,_,_,_,_,_,_,_,_,_,_,_,_,_,_,_,_,_,_,_,_,_,_,_,_,_,_,_,_,_,_,_,_,_,_,_,_,_,_,_,_,_,_,_,_,_,_,_,_]) rfl ?_
            refine wp_block ?_
            refine c_loop (fun (l0 : List Value) (m : Nat) (l : List Value) (w : World) => ∃ (u4 u14 u15 u90 u91 u92 u93 u94 u95 u96 u97 u98 u99 u100 u101 u102 u103 u104 u105 u106 u107 u108 u109 u110 u111 u112 u113 u114 u115 u116 u117 u118 u119 u120 u121 u122 u123 u124 u125 u126 u127 u128 u129 u130 u131 u132 u133 u134 u135 u136 u137 u138 u139 u140 u141 u142 u143 u144 u145 u146 u147 u148 u149 : Value) , l = ovr l0 [N_, N_, N_, N_, Y_ u4, N_, N_, N_, N_, N_, N_, N_, N_, Y_ (.int .i64 m), Y_ u14, Y_ u15, N_, N_, N_, N_, N_, N_, N_, N_, N_, N_, N_, N_, N_, N_, N_, N_, N_, N_, N_, N_, N_, N_, N_, N_, N_, N_, N_, N_, N_, N_, N_, N_, N_, N_, N_, N_, N_, N_, N_, N_, N_, N_, N_, N_, N_, N_, N_, N_, N_, N_, N_, N_, N_, N_, N_, N_, N_, N_, N_, N_, N_, N_, N_, N_, N_, N_, N_, N_, N_, N_, N_, N_, N_, N_, Y_ u90, Y_ u91, Y_ u92, Y_ u93, Y_ u94, Y_ u95, Y_ u96, Y_ u97, Y_ u98, Y_ u99, Y_ u100, Y_ u101, Y_ u102, Y_ u103, Y_ u104, Y_ u105, Y_ u106, Y_ u107, Y_ u108, Y_ u109, Y_ u110, Y_ u111, Y_ u112, Y_ u113, Y_ u114, Y_ u115, Y_ u116, Y_ u117, Y_ u118, Y_ u119, Y_ u120, Y_ u121, Y_ u122, Y_ u123, Y_ u124, Y_ u125, Y_ u126, Y_ u127, Y_ u128, Y_ u129, Y_ u130, Y_ u131, Y_ u132, Y_ u133, Y_ u134, Y_ u135, Y_ u136, Y_ u137, Y_ u138, Y_ u139, Y_ u140, Y_ u141, Y_ u142, Y_ u143, Y_ u144, Y_ u145, Y_ u146, Y_ u147, Y_ u148, Y_ u149] ∧ m ≤ zc.length ∧ St w0 [] w ((b50, vmO (vfr xs)) :: (Nc ++ Nbc) ++ ((Nb ++ Nbb) ++ ((Na ++ Nba) ++ [])))) (fun (m : Nat) => zc.length - m) 0 ⟨_,_,_,_,_,_,_,_,_,_,_,_,_,_,_,_,_,_,_,_,_,_,_,_,_,_,_,_,_,_,_,_,_,_,_,_,_,_,_,_,_,_,_,_,_,_,_,_,_,_,_,_,_,_,_,_,_,_,_,_,_,_,_, rfl, Nat.zero_le _, H⟩ ?_
            intro m l w ⟨u4, u14, u15, u90, u91, u92, u93, u94, u95, u96, u97, u98, u99, u100, u101, u102, u103, u104, u105, u106, u107, u108, u109, u110, u111, u112, u113, u114, u115, u116, u117, u118, u119, u120, u121, u122, u123, u124, u125, u126, u127, u128, u129, u130, u131, u132, u133, u134, u135, u136, u137, u138, u139, u140, u141, u142, u143, u144, u145, u146, u147, u148, u149, hl, hm, H⟩
            obtain rfl := hl.trans (rfl : _ = [_,_,_,_,_,_,_,_,_,_,_,_,_,_,_,_,_,_,_,_,_,_,_,_,_,_,_,_,_,_,_,_,_,_,_,_,_,_,_,_,_,_,_,_,_,_,_,_,_,_,_,_,_,_,_,_,_,_,_,_,_,_,_,_,_,_,_,_,_,_,_,_,_,_,_,_,_,_,_,_,_,_,_,_,_,_,_,_,_,_,_,_,_,_,_,_,_,_,_,_,_,_,_,_,_,_,_,_,_,_,_,_,_,_,_,_,_,_,_,_,_,_,_,_,_,_,_,_,_,_,_,_,_,_,_,_,_,_,_,_,_,_,_,_,_,_,_,_,_,_])
            clear hl
            refine c_seq ?_
            refine c_rseq (n := 150) ⟨rfl, rfl⟩ ?_
            refine s_val (r_move rfl) ?_
            refine s_val (r_move rfl) ?_
            refine s_val (r_lens Try.runUnderlying29 (ec rfl en)) ?_
            refine s_val (r_lss rfl rfl) ?_
            refine c_nil (l' := [_,_,_,_,_,_,_,_,_,_,_,_,_,_,_,_,_,_,_,_,_,_,_,_,_,_,_,_,_,_,_,_,_,_,_,_,_,_,_,_,_,_,_,_,_,_,_,_,_,_,_,_,_,_,_,_,_,_,_,_,_,_,_,_,_,_,_,_,_,_,_,_,_,_,_,_,_,_,_,_,_,_,_,_,_,_,_,_,_,_,_,_,_,_,_,_,_,_,_,_,_,_,_,_,_,_,_,_,_,_,_,_,_,_,_,_,_,_,_,_,_,_,_,_,_,_,_,_,_,_,_,_,_,_,_,_,_,_,_,_,_,_,_,_,_,_,_,_,_,_]) rfl ?_
            refine c_if rfl (fun h93 => ?_) (fun h93 => ?_)
            · skip
              obtain ⟨x, hx⟩ : ∃ x, zc[m]? = some x := ⟨_, List.getElem?_eq_getElem (by omega)⟩
              obtain ⟨bz, spz, rfl, hcz, rfl, hcz2⟩ := RowN.some hRc (by omega)
              have hxm : x ∈ zc := List.mem_of_getElem? hx
              obtain ⟨ii, y, hat, hiv, hym, hya, hyx⟩ := hgot x hxm
              have hyB : ∀ {w : World} {l1 l2 : Nat × Obj}, St w0 [] w (l1 :: l2 :: (([(bz, Obj.cells (rowC frC zc ++ spz).toArray 42 (0, 0))] ++ Nbc) ++ ((Nb ++ Nbb) ++ ((Na ++ Nba) ++ [])))) → BRow w y.c.body.a y.c.body.b := fun H => by
                rcases hX y hym with h | h
                · exact hCa.brow H (fun p hp => (List.mem_cons_of_mem _ (List.mem_cons_of_mem _ (List.mem_append_right _ (List.mem_append_right _ (List.mem_append_left _ (List.mem_append_right _ hp))))))) _ (List.mem_map.2 ⟨y, h, rfl⟩)
                · exact hCb.brow H (fun p hp => (List.mem_cons_of_mem _ (List.mem_cons_of_mem _ (List.mem_append_right _ (List.mem_append_left _ (List.mem_append_right _ hp)))))) _ (List.mem_map.2 ⟨y, h, rfl⟩)
              refine wp_skip ?_
              refine x_thenNormal ?_
              refine c_seq ?_
              refine wp_block ?_
              refine c_rseq (n := 150) ⟨rfl, rfl⟩ ?_
              refine s_val (r_move rfl) ?_
              refine s_val (r_move rfl) ?_
              refine s_val (r_move rfl) ?_
              refine s_val (r_indexAddrS Try.runUnderlying29 Try.sizeOf42 rfl rfl (by omega) (by omega)) ?_
              refine s_val (r_fieldAddr (k := 1) Try.runUnderlying42 rfl Try.sizeOf40 (by decide) rfl rfl) ?_
              refine s_val (r_fieldAddr (k := 1) Try.runUnderlying40 rfl Try.sizeOf24 (by decide) rfl rfl) ?_
              refine s_val (r_load1 Try.isAgg24 rfl (H.own (bz, Obj.cells (rowC frC zc ++ spz).toArray 42 (0, 0)) (List.mem_cons_of_mem _ (List.mem_append_left _ (List.mem_append_left _ (List.mem_singleton.2 rfl))))) (fr_num hx (by omega))) ?_
              refine s_val (r_lookupV hat hiv Try.runUnderlying36 Try.runUnderlying24 rfl rfl (H.at 0 rfl)) ?_
              refine s_val (r_move rfl) ?_
              refine s_val (r_extract rfl rfl) ?_
              refine s_val (r_extract rfl rfl) ?_
              refine s_new (m_alloc (cs := (frC fr0)) H Try.zeroValue42 rfl) ?_
              intro w b14 H
              refine s_st (m_storen H 0 12 Try.sizeOf42 rfl rfl (by first | exact (kC_length _) | exact (hC_length _) | exact (ceC_length _) | exact (ptC_length _ _ _ _) | exact (plV_length _ _ _) | exact (elFr.len _) | exact (frC_length _) | exact (fdV_length _ _ _)) (by first | exact (kC_one _) | exact (hC_one _) | exact (ceC_one _) | exact (ptC_one _ _ _ _) | exact (plV_one _ _ _) | exact (elFr.one _) | exact (frC_one _) | exact (fdV_one _ _ _)) rfl (by show 0 + 12 ≤ 12; omega) (frC_sp _ _)) (L' := (_ :: _ :: _)) rfl ?_
              intro w H
              refine s_val (r_assign rfl) ?_
              refine c_nil (l' := [_,_,_,_,_,_,_,_,_,_,_,_,_,_,_,_,_,_,_,_,_,_,_,_,_,_,_,_,_,_,_,_,_,_,_,_,_,_,_,_,_,_,_,_,_,_,_,_,_,_,_,_,_,_,_,_,_,_,_,_,_,_,_,_,_,_,_,_,_,_,_,_,_,_,_,_,_,_,_,_,_,_,_,_,_,_,_,_,_,_,_,_,_,_,_,_,_,_,_,_,_,_,_,_,_,_,_,_,_,_,_,_,_,_,_,_,_,_,_,_,_,_,_,_,_,_,_,_,_,_,_,_,_,_,_,_,_,_,_,_,_,_,_,_,_,_,_,_,_,_]) rfl ?_
              refine c_seq ?_
              refine d_begin (sz := 150) ⟨rfl, rfl⟩ (by kernel_rfl) H (H) rfl ?_
              intro w H
              refine d_take (i := 0) rfl (by kernel_rfl) (fun _ _ _ h => h) H (fun _ _ => r_move rfl) rfl ?_
              refine d_take (i := 1) rfl (by kernel_rfl) (fun _ _ _ h => h) H (fun _ _ => r_not rfl) rfl ?_
              refine d_take (i := 2) rfl (by kernel_rfl) (fun _ _ _ h => h) H (fun _ _ => r_move rfl) rfl ?_
              refine d_takeG (i := 3) rfl (by kernel_rfl) (fun _ _ _ h => h) rfl rfl H (fun _ _ => r_fieldAddr (k := 0) Try.runUnderlying42 rfl Try.sizeOf3 (by decide) rfl rfl) rfl ?_
              refine d_takeG (i := 4) rfl (by kernel_rfl) (fun _ _ _ h => h) rfl rfl H (fun _ HS => r_load1 Try.isAgg3 rfl (HS.at 0 rfl) rfl) rfl ?_
              refine d_takeG (i := 5) rfl (by kernel_rfl) (fun _ _ _ h => h) rfl rfl H (fun _ _ => r_move rfl) rfl ?_
              refine d_takeG (i := 6) rfl (by kernel_rfl) (fun _ _ _ h => h) rfl rfl H (fun _ _ => r_move rfl) rfl ?_
              refine d_takeG (i := 7) rfl (by kernel_rfl) (fun _ _ _ h => h) rfl rfl H (fun _ _ => r_indexAddrS Try.runUnderlying29 Try.sizeOf42 rfl rfl (by omega) (by omega)) rfl ?_
              refine d_takeG (i := 8) rfl (by kernel_rfl) (fun _ _ _ h => h) rfl rfl H (fun _ _ => r_fieldAddr (k := 0) Try.runUnderlying42 rfl Try.sizeOf3 (by decide) rfl rfl) rfl ?_
              refine d_takeG (i := 9) rfl (by kernel_rfl) (fun _ _ _ h => h) rfl rfl H (fun _ HS => r_load1 Try.isAgg3 rfl (HS.own (bz, Obj.cells (rowC frC zc ++ spz).toArray 42 (0, 0)) (List.mem_cons_of_mem _ (List.mem_cons_of_mem _ (List.mem_append_left _ (List.mem_append_left _ (List.mem_singleton.2 rfl)))))) (fr_at hx (by omega))) rfl ?_
              refine d_takeG (i := 10) rfl (by kernel_rfl) (fun _ _ _ h => h) rfl rfl H (fun _ _ => r_neq rfl rfl) rfl ?_
              refine d_part (fun h117 => ?_) (fun h117 => ?_)
              · skip
                exfalso; omega
              · skip
                refine d_take (i := 11) rfl (by kernel_rfl) (fun _ _ _ h => h) H (fun _ _ => r_pickf rfl rfl) rfl ?_
                refine d_take (i := 12) rfl (by kernel_rfl) (fun _ _ _ h => h) H (fun _ _ => r_move rfl) rfl ?_
                refine d_takeG (i := 13) rfl (by kernel_rfl) (fun _ _ _ h => h) rfl rfl H (fun _ _ => r_fieldAddr (k := 1) Try.runUnderlying42 rfl Try.sizeOf40 (by decide) rfl rfl) rfl ?_
                refine d_takeG (i := 14) rfl (by kernel_rfl) (fun _ _ _ h => h) rfl rfl H (fun _ HS => r_loadn Try.isAgg40 Try.sizeOf40 rfl (HS.at 0 rfl) (frC_cell _) (ceC_length _)) rfl ?_
                refine d_takeG (i := 15) rfl (by kernel_rfl) (fun _ _ _ h => h) rfl rfl H (fun _ _ => r_move rfl) rfl ?_
                refine d_takeG (i := 16) rfl (by kernel_rfl) (fun _ _ _ h => h) rfl rfl H (fun _ _ => r_move rfl) rfl ?_
                refine d_takeG (i := 17) rfl (by kernel_rfl) (fun _ _ _ h => h) rfl rfl H (fun _ _ => r_indexAddrS Try.runUnderlying29 Try.sizeOf42 rfl rfl (by omega) (by omega)) rfl ?_
                refine d_takeG (i := 18) rfl (by kernel_rfl) (fun _ _ _ h => h) rfl rfl H (fun _ _ => r_fieldAddr (k := 1) Try.runUnderlying42 rfl Try.sizeOf40 (by decide) rfl rfl) rfl ?_
                refine d_takeG (i := 19) rfl (by kernel_rfl) (fun _ _ _ h => h) rfl rfl H (fun _ HS => r_loadn Try.isAgg40 Try.sizeOf40 rfl (HS.own (bz, Obj.cells (rowC frC zc ++ spz).toArray 42 (0, 0)) (List.mem_cons_of_mem _ (List.mem_cons_of_mem _ (List.mem_append_left _ (List.mem_append_left _ (List.mem_singleton.2 rfl)))))) (fr_cell hx (by omega)) (ceC_length _)) rfl ?_
                refine d_all1 (i := 20) (by kernel_rfl) ?_
                refine b_call rfl (go_some rfl rfl) (r_call Try.call10 (ec rfl (ec rfl en))) (csame12_yes y.c x.c hyx _ (hyB H) (hCc.brow H (fun p hp => (List.mem_cons_of_mem _ (List.mem_cons_of_mem _ (List.mem_append_left _ (List.mem_append_right _ hp))))) _ (List.mem_map.2 ⟨x, hxm, rfl⟩))) rfl ?_
                rintro v w ⟨rfl, HC⟩
                replace H := H.quiet HC
                refine ⟨H, ?_⟩
                refine d_takeG (i := 21) rfl (by kernel_rfl) (fun _ _ _ h => h) rfl rfl H (fun _ _ => r_not rfl) rfl ?_
                refine d_take (i := 22) rfl (by kernel_rfl) (fun _ _ _ h => h) H (fun _ _ => r_pickf rfl rfl) rfl ?_
                refine d_take (i := 23) rfl (by kernel_rfl) (fun _ _ _ h => h) H (fun _ _ => r_move rfl) rfl ?_
                refine d_takeG (i := 24) rfl (by kernel_rfl) (fun _ _ _ h => h) rfl rfl H (fun _ _ => r_move rfl) rfl ?_
                refine d_takeG (i := 25) rfl (by kernel_rfl) (fun _ _ _ h => h) rfl rfl H (fun _ _ => r_gtr rfl rfl) rfl ?_
                refine d_part (fun h132 => ?_) (fun h132 => ?_)
                · skip
                  obtain ⟨x3, hx3⟩ : ∃ x3, zc[m - 1]? = some x3 := ⟨_, List.getElem?_eq_getElem (by omega)⟩
                  have hlt := srtE_get hOc.1 hx3 hx (by omega)
                  refine d_takeG (i := 26) rfl (by kernel_rfl) (fun _ _ _ h => h) rfl rfl H (fun _ _ => r_move rfl) rfl ?_
                  refine d_takeG (i := 27) rfl (by kernel_rfl) (fun _ _ _ h => h) rfl rfl H (fun _ _ => r_move rfl) rfl ?_
                  refine d_takeG (i := 28) rfl (by kernel_rfl) (fun _ _ _ h => h) rfl rfl H (fun _ _ => r_move rfl) rfl ?_
                  refine d_takeG (i := 29) rfl (by kernel_rfl) (fun _ _ _ h => h) rfl rfl H (fun _ _ => r_indexAddrS Try.runUnderlying29 Try.sizeOf42 rfl rfl (by omega) (by omega)) rfl ?_
                  refine d_takeG (i := 30) rfl (by kernel_rfl) (fun _ _ _ h => h) rfl rfl H (fun _ _ => r_fieldAddr (k := 1) Try.runUnderlying42 rfl Try.sizeOf40 (by decide) rfl rfl) rfl ?_
                  refine d_takeG (i := 31) rfl (by kernel_rfl) (fun _ _ _ h => h) rfl rfl H (fun _ _ => r_fieldAddr (k := 1) Try.runUnderlying40 rfl Try.sizeOf24 (by decide) rfl rfl) rfl ?_
                  refine d_takeG (i := 32) rfl (by kernel_rfl) (fun _ _ _ h => h) rfl rfl H (fun _ HS => r_load1 Try.isAgg24 rfl (HS.own (bz, Obj.cells (rowC frC zc ++ spz).toArray 42 (0, 0)) (List.mem_cons_of_mem _ (List.mem_cons_of_mem _ (List.mem_append_left _ (List.mem_append_left _ (List.mem_singleton.2 rfl)))))) (fr_num hx (by omega))) rfl ?_
                  refine d_takeG (i := 33) rfl (by kernel_rfl) (fun _ _ _ h => h) rfl rfl H (fun _ _ => r_move rfl) rfl ?_
                  refine d_takeG (i := 34) rfl (by kernel_rfl) (fun _ _ _ h => h) rfl rfl H (fun _ _ => r_move rfl) rfl ?_
                  refine d_takeG (i := 35) rfl (by kernel_rfl) (fun _ _ _ h => h) rfl rfl H (fun _ _ => r_sub rfl rfl (w_i64 (by omega) (by omega))) rfl ?_
                  refine d_takeG (i := 36) rfl (by kernel_rfl) (fun _ _ _ h => h) rfl rfl H (fun _ _ => r_indexAddrS Try.runUnderlying29 Try.sizeOf42 rfl rfl (by omega) (by omega)) rfl ?_
                  refine d_takeG (i := 37) rfl (by kernel_rfl) (fun _ _ _ h => h) rfl rfl H (fun _ _ => r_fieldAddr (k := 1) Try.runUnderlying42 rfl Try.sizeOf40 (by decide) rfl rfl) rfl ?_
                  refine d_takeG (i := 38) rfl (by kernel_rfl) (fun _ _ _ h => h) rfl rfl H (fun _ _ => r_fieldAddr (k := 1) Try.runUnderlying40 rfl Try.sizeOf24 (by decide) rfl rfl) rfl ?_
                  refine d_takeG (i := 39) rfl (by kernel_rfl) (fun _ _ _ h => h) rfl rfl H (fun _ HS => r_load1 Try.isAgg24 rfl (HS.own (bz, Obj.cells (rowC frC zc ++ spz).toArray 42 (0, 0)) (List.mem_cons_of_mem _ (List.mem_cons_of_mem _ (List.mem_append_left _ (List.mem_append_left _ (List.mem_singleton.2 rfl)))))) (fr_num hx3 (by omega))) rfl ?_
                  refine d_takeG (i := 40) rfl (by kernel_rfl) (fun _ _ _ h => h) rfl rfl H (fun _ _ => r_leq rfl rfl) rfl ?_
                  refine d_part (fun h147 => ?_) (fun h147 => ?_)
                  · skip
                    exfalso; omega
                  · skip
                    refine d_takeG (i := 41) rfl (by kernel_rfl) (fun _ _ _ h => h) rfl rfl H (fun _ _ => r_pickt rfl rfl) rfl ?_
                    refine d_take (i := 42) rfl (by kernel_rfl) (fun _ _ _ h => h) H (fun _ _ => r_pickf rfl rfl) rfl ?_
                    refine d_done (l' := [_,_,_,_,_,_,_,_,_,_,_,_,_,_,_,_,_,_,_,_,_,_,_,_,_,_,_,_,_,_,_,_,_,_,_,_,_,_,_,_,_,_,_,_,_,_,_,_,_,_,_,_,_,_,_,_,_,_,_,_,_,_,_,_,_,_,_,_,_,_,_,_,_,_,_,_,_,_,_,_,_,_,_,_,_,_,_,_,_,_,_,_,_,_,_,_,_,_,_,_,_,_,_,_,_,_,_,_,_,_,_,_,_,_,_,_,_,_,_,_,_,_,_,_,_,_,_,_,_,_,_,_,_,_,_,_,_,_,_,_,_,_,_,_,_,_,_,_,_,_]) (by kernel_rfl) rfl ?_
                    refine x_thenNormal ?_
                    refine c_iff rfl ?_
                    refine wp_skip ?_
                    refine x_blockNormal ?_
                    refine x_thenNormal ?_
                    refine c_region (n := 150) ⟨rfl, rfl⟩ ?_
                    refine s_val (r_move rfl) ?_
                    refine s_val (r_add rfl rfl (w_i64 (by omega) (by omega))) ?_
                    refine s_val (r_assign rfl) ?_
                    refine c_nil0 (l' := [_,_,_,_,_,_,_,_,_,_,_,_,_,_,_,_,_,_,_,_,_,_,_,_,_,_,_,_,_,_,_,_,_,_,_,_,_,_,_,_,_,_,_,_,_,_,_,_,_,_,_,_,_,_,_,_,_,_,_,_,_,_,_,_,_,_,_,_,_,_,_,_,_,_,_,_,_,_,_,_,_,_,_,_,_,_,_,_,_,_,_,_,_,_,_,_,_,_,_,_,_,_,_,_,_,_,_,_,_,_,_,_,_,_,_,_,_,_,_,_,_,_,_,_,_,_,_,_,_,_,_,_,_,_,_,_,_,_,_,_,_,_,_,_,_,_,_,_,_,_]) rfl ?_
                    replace H := H.sub (.cons _ (.cons_cons _ (List.Sublist.refl _)))
                    exact ⟨m + 1, _, rfl, ⟨_,_,_,_,_,_,_,_,_,_,_,_,_,_,_,_,_,_,_,_,_,_,_,_,_,_,_,_,_,_,_,_,_,_,_,_,_,_,_,_,_,_,_,_,_,_,_,_,_,_,_,_,_,_,_,_,_,_,_,_,_,_,_, rfl, by omega, H⟩, by omega⟩
                · skip
                  refine d_takeG (i := 26) rfl (by kernel_rfl) (fun _ _ _ h => h) rfl rfl H (fun _ _ => r_move rfl) rfl ?_
                  refine d_takeN (i := 27) rfl (by kernel_rfl) (fun _ _ _ h => h) rfl rfl (by decide) H rfl ?_
                  refine d_takeN (i := 28) rfl (by kernel_rfl) (fun _ _ _ h => h) rfl rfl (by decide) H rfl ?_
                  refine d_takeN (i := 29) rfl (by kernel_rfl) (fun _ _ _ h => h) rfl rfl (by decide) H rfl ?_
                  refine d_takeN (i := 30) rfl (by kernel_rfl) (fun _ _ _ h => h) rfl rfl (by decide) H rfl ?_
                  refine d_takeN (i := 31) rfl (by kernel_rfl) (fun _ _ _ h => h) rfl rfl (by decide) H rfl ?_
                  refine d_takeN (i := 32) rfl (by kernel_rfl) (fun _ _ _ h => h) rfl rfl (by decide) H rfl ?_
                  refine d_takeN (i := 33) rfl (by kernel_rfl) (fun _ _ _ h => h) rfl rfl (by decide) H rfl ?_
                  refine d_takeN (i := 34) rfl (by kernel_rfl) (fun _ _ _ h => h) rfl rfl (by decide) H rfl ?_
                  refine d_takeN (i := 35) rfl (by kernel_rfl) (fun _ _ _ h => h) rfl rfl (by decide) H rfl ?_
                  refine d_takeN (i := 36) rfl (by kernel_rfl) (fun _ _ _ h => h) rfl rfl (by decide) H rfl ?_
                  refine d_takeN (i := 37) rfl (by kernel_rfl) (fun _ _ _ h => h) rfl rfl (by decide) H rfl ?_
                  refine d_takeN (i := 38) rfl (by kernel_rfl) (fun _ _ _ h => h) rfl rfl (by decide) H rfl ?_
                  refine d_takeN (i := 39) rfl (by kernel_rfl) (fun _ _ _ h => h) rfl rfl (by decide) H rfl ?_
                  refine d_takeN (i := 40) rfl (by kernel_rfl) (fun _ _ _ h => h) rfl rfl (by decide) H rfl ?_
                  refine d_takeG (i := 41) rfl (by kernel_rfl) (fun _ _ _ h => h) rfl rfl H (fun _ _ => r_pickf rfl rfl) rfl ?_
                  refine d_take (i := 42) rfl (by kernel_rfl) (fun _ _ _ h => h) H (fun _ _ => r_pickf rfl rfl) rfl ?_
                  refine d_done (l' := [_,_,_,_,_,_,_,_,_,_,_,_,_,_,_,_,_,_,_,_,_,_,_,_,_,_,_,_,_,_,_,_,_,_,_,_,_,_,_,_,_,_,_,_,_,_,_,_,_,_,_,_,_,_,_,_,_,_,_,_,_,_,_,_,_,_,_,_,_,_,_,_,_,_,_,_,_,_,_,_,_,_,_,_,_,_,_,_,_,_,_,_,_,_,_,_,_,_,_,_,_,_,_,_,_,_,_,_,_,_,_,_,_,_,_,_,_,_,_,_,_,_,_,_,_,_,_,_,_,_,_,_,_,_,_,_,_,_,_,_,_,_,_,_,_,_,_,_,_,_]) (by kernel_rfl) rfl ?_
                  refine x_thenNormal ?_
                  refine c_iff rfl ?_
                  refine wp_skip ?_
                  refine x_blockNormal ?_
                  refine x_thenNormal ?_
                  refine c_region (n := 150) ⟨rfl, rfl⟩ ?_
                  refine s_val (r_move rfl) ?_
                  refine s_val (r_add rfl rfl (w_i64 (by omega) (by omega))) ?_
                  refine s_val (r_assign rfl) ?_
                  refine c_nil0 (l' := [_,_,_,_,_,_,_,_,_,_,_,_,_,_,_,_,_,_,_,_,_,_,_,_,_,_,_,_,_,_,_,_,_,_,_,_,_,_,_,_,_,_,_,_,_,_,_,_,_,_,_,_,_,_,_,_,_,_,_,_,_,_,_,_,_,_,_,_,_,_,_,_,_,_,_,_,_,_,_,_,_,_,_,_,_,_,_,_,_,_,_,_,_,_,_,_,_,_,_,_,_,_,_,_,_,_,_,_,_,_,_,_,_,_,_,_,_,_,_,_,_,_,_,_,_,_,_,_,_,_,_,_,_,_,_,_,_,_,_,_,_,_,_,_,_,_,_,_,_,_]) rfl ?_
                  replace H := H.sub (.cons _ (.cons_cons _ (List.Sublist.refl _)))
                  exact ⟨m + 1, _, rfl, ⟨_,_,_,_,_,_,_,_,_,_,_,_,_,_,_,_,_,_,_,_,_,_,_,_,_,_,_,_,_,_,_,_,_,_,_,_,_,_,_,_,_,_,_,_,_,_,_,_,_,_,_,_,_,_,_,_,_,_,_,_,_,_,_, rfl, by omega, H⟩, by omega⟩
            · skip
              refine wp_exit (x_thenExit (x_thenExit (x_blockHit ?_)))
              refine x_thenNormal ?_
              refine c_rseq (n := 150) ⟨rfl, rfl⟩ ?_
              refine s_val (r_assign rfl) ?_
              refine c_nil (l' := [_,_,_,_,_,_,_,_,_,_,_,_,_,_,_,_,_,_,_,_,_,_,_,_,_,_,_,_,_,_,_,_,_,_,_,_,_,_,_,_,_,_,_,_,_,_,_,_,_,_,_,_,_,_,_,_,_,_,_,_,_,_,_,_,_,_,_,_,_,_,_,_,_,_,_,_,_,_,_,_,_,_,_,_,_,_,_,_,_,_,_,_,_,_,_,_,_,_,_,_,_,_,_,_,_,_,_,_,_,_,_,_,_,_,_,_,_,_,_,_,_,_,_,_,_,_,_,_,_,_,_,_,_,_,_,_,_,_,_,_,_,_,_,_,_,_,_,_,_,_]) rfl ?_
              refine wp_ret ?_
              refine e_ret (res1 rfl rfl) ⟨_, rfl, ?_⟩
              exact ⟨rfl, (H.sub (List.nil_sublist _))⟩

end Go.Proofs.Ytihpeihlpgompaa

