import Derived.Test.YtobfnieebiakeaaPVx2
import Derived.Test.YtobfnieebiakeaaPA4
namespace Go.Proofs.Ytobfnieebiakeaa
open Go Go.Er

set_option maxHeartbeats 4000000 in
theorem make_spec (old new : Blk) (w0 : World) :
  Calls Try.prog 25 #[.agg (kC old).toArray, .agg (kC new).toArray] w0 fun e w => ∃ v, e = .returned v ∧ ((∃ (ds : List UInt8) (a2 : Option Addr) (c2 : Nat) (N : List (Nat × Obj)), applyD old ds = some new ∧ ds.length ≤ 20 ∧ v = .tuple #[.slice a2 ds.length c2, .bool true] ∧ RowN 1 5 (bC ds) ds.length a2 c2 N ∧ St w0 [] w N) ∨ (v = .tuple #[.slice none 0 0, .bool false] ∧ St w0 [] w [])) := by
 have H := St.refl w0
 refine c_enter (args := [.agg (kC old).toArray, .agg (kC new).toArray]) (l := [.agg (kC old).toArray, .agg (kC new).toArray, undef, undef, undef, undef, undef, undef, undef, undef, undef, undef, undef, undef, undef, undef, undef, undef, undef, undef, undef, undef, undef, undef, undef, undef, undef, undef, undef, undef, undef, undef, undef, undef, undef, undef, undef, undef, undef, undef, undef, undef, undef, undef, undef, undef, undef, undef, undef, undef, undef]) Try.func25 Try.ntmps25 rfl rfl ?_
 refine c_rseq (n := 51) ⟨rfl, rfl⟩ ?_
 refine s_new (m_box (cs := (kC old)) H rfl rfl) ?_
 intro w b2 H
 refine s_new (m_box (cs := (kC new)) H rfl rfl) ?_
 intro w b3 H
 refine s_val (r_assign rfl) ?_
 refine s_val (r_assign rfl) ?_
 refine c_nil (l' := [_,_,_,_,_,_,_,_,_,_,_,_,_,_,_,_,_,_,_,_,_,_,_,_,_,_,_,_,_,_,_,_,_,_,_,_,_,_,_,_,_,_,_,_,_,_,_,_,_,_,_]) rfl ?_
 refine c_rseq (n := 51) ⟨rfl, rfl⟩ ?_
 refine s_val (r_assign rfl) ?_
 refine c_nil (l' := [_,_,_,_,_,_,_,_,_,_,_,_,_,_,_,_,_,_,_,_,_,_,_,_,_,_,_,_,_,_,_,_,_,_,_,_,_,_,_,_,_,_,_,_,_,_,_,_,_,_,_]) rfl ?_
 refine c_seq ?_
 refine c_rseq (n := 51) ⟨rfl, rfl⟩ ?_
 refine s_val (r_assign rfl) ?_
 refine c_nil (l' := [_,_,_,_,_,_,_,_,_,_,_,_,_,_,_,_,_,_,_,_,_,_,_,_,_,_,_,_,_,_,_,_,_,_,_,_,_,_,_,_,_,_,_,_,_,_,_,_,_,_,_]) rfl ?_
 refine wp_block ?_
 refine c_loop (fun (l0 : List Value) (i : Nat) (l : List Value) (w : World) => ∃ (u8 u9 u10 u11 u12 u13 u14 u15 u16 u17 u18 u19 u20 u21 u22 u23 u24 u25 u26 u27 u28 u29 u30 u31 u32 u33 u34 u35 u36 u37 u38 u39 u40 u41 u42 u43 u44 u45 u46 : Value) (o : List UInt8) (nx : Nat) (a2 : Option Addr) (c2 : Nat) (N : List (Nat × Obj)), l = ovr l0 [N_, N_, N_, N_, N_, N_, Y_ (.slice a2 o.length c2), Y_ (.int .i64 i), Y_ u8, Y_ u9, Y_ u10, Y_ u11, Y_ u12, Y_ u13, Y_ u14, Y_ u15, Y_ u16, Y_ u17, Y_ u18, Y_ u19, Y_ u20, Y_ u21, Y_ u22, Y_ u23, Y_ u24, Y_ u25, Y_ u26, Y_ u27, Y_ u28, Y_ u29, Y_ u30, Y_ u31, Y_ u32, Y_ u33, Y_ u34, Y_ u35, Y_ u36, Y_ u37, Y_ u38, Y_ u39, Y_ u40, Y_ u41, Y_ u42, Y_ u43, Y_ u44, Y_ u45, Y_ u46] ∧ i ≤ 33 ∧ o.length ≤ 3 * i ∧ MkI old new o nx i ∧ RowN 1 5 (bC o) o.length a2 c2 N ∧ St w0 [] w ((b3, .cells (kC new).toArray 44 (0, 0)) :: (b2, .cells (kC old).toArray 44 (0, 0)) :: N)) (fun (i : Nat) => 33 - i) 0 ⟨_,_,_,_,_,_,_,_,_,_,_,_,_,_,_,_,_,_,_,_,_,_,_,_,_,_,_,_,_,_,_,_,_,_,_,_,_,_,_, [], 0, none, 0, [], rfl, Nat.zero_le _, Nat.zero_le _, MkI.start, RowN.nil, H⟩ ?_
 intro i l w ⟨u8, u9, u10, u11, u12, u13, u14, u15, u16, u17, u18, u19, u20, u21, u22, u23, u24, u25, u26, u27, u28, u29, u30, u31, u32, u33, u34, u35, u36, u37, u38, u39, u40, u41, u42, u43, u44, u45, u46, o, nx, a2, c2, N, hl, hi33, hol3, hM, hR, H⟩
 obtain rfl := hl.trans (rfl : _ = [_,_,_,_,_,_,_,_,_,_,_,_,_,_,_,_,_,_,_,_,_,_,_,_,_,_,_,_,_,_,_,_,_,_,_,_,_,_,_,_,_,_,_,_,_,_,_,_,_,_,_])
 clear hl
 refine c_seq ?_
 refine c_rseq (n := 51) ⟨rfl, rfl⟩ ?_
 refine s_val (r_move rfl) ?_
 refine s_val (r_lss rfl rfl) ?_
 refine c_nil (l' := [_,_,_,_,_,_,_,_,_,_,_,_,_,_,_,_,_,_,_,_,_,_,_,_,_,_,_,_,_,_,_,_,_,_,_,_,_,_,_,_,_,_,_,_,_,_,_,_,_,_,_]) rfl ?_
 refine c_if rfl (fun h10 => ?_) (fun h10 => ?_)
 ·skip
  refine wp_skip ?_
  refine x_thenNormal ?_
  refine c_seq ?_
  refine wp_block ?_
  refine c_seq ?_
  refine c_seq ?_
  refine d_begin (sz := 51) ⟨rfl, rfl⟩ (by kernel_rfl) H (H) rfl ?_
  intro w H
  refine d_take (i := 0) rfl (by kernel_rfl) (fun _ _ _ h => h) H (fun _ _ => r_move rfl) rfl ?_
  refine d_take (i := 1) rfl (by kernel_rfl) (fun _ _ _ h => h) H (fun _ _ => r_indexAddrA Try.runUnderlying44 Try.sizeOf5 rfl rfl (by omega) (by omega)) rfl ?_
  refine d_take (i := 2) rfl (by kernel_rfl) (fun _ _ _ h => h) H (fun _ HS => r_load1 Try.isAgg5 rfl (HS.at 1 rfl) (kC_byt old i (by omega) (by omega))) rfl ?_
  refine d_take (i := 3) rfl (by kernel_rfl) (fun _ _ _ h => h) H (fun _ _ => r_move rfl) rfl ?_
  refine d_take (i := 4) rfl (by kernel_rfl) (fun _ _ _ h => h) H (fun _ _ => r_indexAddrA Try.runUnderlying44 Try.sizeOf5 rfl rfl (by omega) (by omega)) rfl ?_
  refine d_take (i := 5) rfl (by kernel_rfl) (fun _ _ _ h => h) H (fun _ HS => r_load1 Try.isAgg5 rfl (HS.at 0 rfl) (kC_byt new i (by omega) (by omega))) rfl ?_
  refine d_take (i := 6) rfl (by kernel_rfl) (fun _ _ _ h => h) H (fun _ _ => r_eql rfl rfl) rfl ?_
  refine d_done (l' := [_,_,_,_,_,_,_,_,_,_,_,_,_,_,_,_,_,_,_,_,_,_,_,_,_,_,_,_,_,_,_,_,_,_,_,_,_,_,_,_,_,_,_,_,_,_,_,_,_,_,_]) (by kernel_rfl) rfl ?_
  refine x_thenNormal ?_
  refine c_if rfl (fun h19 => ?_) (fun h19 => ?_)
  ·skip
   have heq : byt old i = byt new i := UInt8.toNat_inj.1 (Int.ofNat_inj.1 h19)
   refine wp_exit (x_thenExit (x_blockHit ?_))
   refine x_thenNormal ?_
   refine c_region (n := 51) ⟨rfl, rfl⟩ ?_
   refine s_val (r_move rfl) ?_
   refine s_val (r_add rfl rfl (w_i64 (by omega) (by omega))) ?_
   refine s_val (r_assign rfl) ?_
   refine c_nil0 (l' := [_,_,_,_,_,_,_,_,_,_,_,_,_,_,_,_,_,_,_,_,_,_,_,_,_,_,_,_,_,_,_,_,_,_,_,_,_,_,_,_,_,_,_,_,_,_,_,_,_,_,_]) rfl ?_
   exact ⟨i + 1, _, rfl, ⟨_,_,_,_,_,_,_,_,_,_,_,_,_,_,_,_,_,_,_,_,_,_,_,_,_,_,_,_,_,_,_,_,_,_,_,_,_,_,_, o, nx, a2, c2, N, rfl, by omega, by omega, (hM.skip (by omega) heq), hR, H⟩, by omega⟩
  ·skip
   refine wp_skip ?_
   refine x_thenNormal ?_
   refine c_rseq (n := 51) ⟨rfl, rfl⟩ ?_
   refine s_val (r_move rfl) ?_
   refine s_val (r_assign rfl) ?_
   refine c_nil (l' := [_,_,_,_,_,_,_,_,_,_,_,_,_,_,_,_,_,_,_,_,_,_,_,_,_,_,_,_,_,_,_,_,_,_,_,_,_,_,_,_,_,_,_,_,_,_,_,_,_,_,_]) rfl ?_
   refine c_seq ?_
   refine wp_block ?_
   refine c_loop (fun (l0 : List Value) (j : Nat) (l : List Value) (w : World) => ∃ (u21 u22 u23 u24 u25 u26 u27 u28 u29 u30 u31 u32 u33 : Value) , l = ovr l0 [N_, N_, N_, N_, N_, N_, N_, Y_ (.int .i64 j), N_, N_, N_, N_, N_, N_, N_, N_, N_, N_, N_, N_, N_, Y_ u21, Y_ u22, Y_ u23, Y_ u24, Y_ u25, Y_ u26, Y_ u27, Y_ u28, Y_ u29, Y_ u30, Y_ u31, Y_ u32, Y_ u33] ∧ i ≤ j ∧ j ≤ 32 ∧ St w0 [] w ((b3, .cells (kC new).toArray 44 (0, 0)) :: (b2, .cells (kC old).toArray 44 (0, 0)) :: N)) (fun (j : Nat) => 32 - j) i ⟨_,_,_,_,_,_,_,_,_,_,_,_,_, rfl, Nat.le_refl _, by omega, H⟩ ?_
   intro j l w ⟨u21, u22, u23, u24, u25, u26, u27, u28, u29, u30, u31, u32, u33, hl, hij0, hj32, H⟩
   obtain rfl := hl.trans (rfl : _ = [_,_,_,_,_,_,_,_,_,_,_,_,_,_,_,_,_,_,_,_,_,_,_,_,_,_,_,_,_,_,_,_,_,_,_,_,_,_,_,_,_,_,_,_,_,_,_,_,_,_,_])
   clear hl
   refine c_seq ?_
   refine c_seq ?_
   refine d_begin (sz := 51) ⟨rfl, rfl⟩ (by kernel_rfl) H (H) rfl ?_
   intro w H
   refine d_take (i := 0) rfl (by kernel_rfl) (fun _ _ _ h => h) H (fun _ _ => r_move rfl) rfl ?_
   refine d_take (i := 1) rfl (by kernel_rfl) (fun _ _ _ h => h) H (fun _ _ => r_lss rfl rfl) rfl ?_
   refine d_part (fun h22 => ?_) (fun h22 => ?_)
   ·skip
    refine d_take (i := 2) rfl (by kernel_rfl) (fun _ _ _ h => h) H (fun _ _ => r_move rfl) rfl ?_
    refine d_takeG (i := 3) rfl (by kernel_rfl) (fun _ _ _ h => h) rfl rfl H (fun _ _ => r_move rfl) rfl ?_
    refine d_takeG (i := 4) rfl (by kernel_rfl) (fun _ _ _ h => h) rfl rfl H (fun _ _ => r_indexAddrA Try.runUnderlying44 Try.sizeOf5 rfl rfl (by omega) (by omega)) rfl ?_
    refine d_takeG (i := 5) rfl (by kernel_rfl) (fun _ _ _ h => h) rfl rfl H (fun _ HS => r_load1 Try.isAgg5 rfl (HS.at 1 rfl) (kC_byt old j (by omega) (by omega))) rfl ?_
    refine d_takeG (i := 6) rfl (by kernel_rfl) (fun _ _ _ h => h) rfl rfl H (fun _ _ => r_move rfl) rfl ?_
    refine d_takeG (i := 7) rfl (by kernel_rfl) (fun _ _ _ h => h) rfl rfl H (fun _ _ => r_indexAddrA Try.runUnderlying44 Try.sizeOf5 rfl rfl (by omega) (by omega)) rfl ?_
    refine d_takeG (i := 8) rfl (by kernel_rfl) (fun _ _ _ h => h) rfl rfl H (fun _ HS => r_load1 Try.isAgg5 rfl (HS.at 0 rfl) (kC_byt new j (by omega) (by omega))) rfl ?_
    refine d_takeG (i := 9) rfl (by kernel_rfl) (fun _ _ _ h => h) rfl rfl H (fun _ _ => r_neq rfl rfl) rfl ?_
    refine d_part (fun h30 => ?_) (fun h30 => ?_)
    ·skip
     refine d_take (i := 10) rfl (by kernel_rfl) (fun _ _ _ h => h) H (fun _ _ => r_pickt rfl rfl) rfl ?_
     refine d_done (l' := [_,_,_,_,_,_,_,_,_,_,_,_,_,_,_,_,_,_,_,_,_,_,_,_,_,_,_,_,_,_,_,_,_,_,_,_,_,_,_,_,_,_,_,_,_,_,_,_,_,_,_]) (by kernel_rfl) rfl ?_
     refine x_thenNormal ?_
     refine c_ift rfl ?_
     refine wp_skip ?_
     refine x_thenNormal ?_
     refine wp_block ?_
     refine c_region (n := 51) ⟨rfl, rfl⟩ ?_
     refine s_val (r_move rfl) ?_
     refine s_val (r_add rfl rfl (w_i64 (by omega) (by omega))) ?_
     refine s_val (r_assign rfl) ?_
     refine c_nil0 (l' := [_,_,_,_,_,_,_,_,_,_,_,_,_,_,_,_,_,_,_,_,_,_,_,_,_,_,_,_,_,_,_,_,_,_,_,_,_,_,_,_,_,_,_,_,_,_,_,_,_,_,_]) rfl ?_
     refine x_blockNormal ?_
     exact ⟨j + 1, _, rfl, ⟨_,_,_,_,_,_,_,_,_,_,_,_,_, rfl, by omega, by omega, H⟩, by omega⟩
    ·skip
     have hne : byt old j = byt new j := UInt8.toNat_inj.1 (Int.ofNat_inj.1 (Decidable.not_not.1 h30))
     have hij : i < j := by
      refine Nat.lt_of_le_of_ne hij0 fun e => ?_
      subst e
      exact h19 (by rw [hne])
     have hj : j ≤ 32 := hj32
     have hej : j < 32 → byt old j = byt new j := fun _ => hne
     refine d_take (i := 10) rfl (by kernel_rfl) (fun _ _ _ h => h) H (fun _ _ => r_pickt rfl rfl) rfl ?_
     refine d_done (l' := [_,_,_,_,_,_,_,_,_,_,_,_,_,_,_,_,_,_,_,_,_,_,_,_,_,_,_,_,_,_,_,_,_,_,_,_,_,_,_,_,_,_,_,_,_,_,_,_,_,_,_]) (by kernel_rfl) rfl ?_
     refine x_thenNormal ?_
     refine c_iff rfl ?_
     refine wp_exit (x_thenExit (x_thenExit (x_blockHit ?_)))
     refine x_thenNormal ?_
     refine d_begin (sz := 51) ⟨rfl, rfl⟩ (by kernel_rfl) H (H.sub (.cons_cons _ (.cons_cons _ (List.nil_sublist _)))) rfl ?_
     intro w H
     refine d_take (i := 0) rfl (by kernel_rfl) (fun _ _ _ h => h) (H.sub (.cons_cons _ (.cons_cons _ (List.nil_sublist _)))) (fun _ _ => r_move rfl) rfl ?_
     refine d_take (i := 1) rfl (by kernel_rfl) (fun _ _ _ h => h) (H.sub (.cons_cons _ (.cons_cons _ (List.nil_sublist _)))) (fun _ _ => r_move rfl) rfl ?_
     refine d_take (i := 2) rfl (by kernel_rfl) (fun _ _ _ h => h) (H.sub (.cons_cons _ (.cons_cons _ (List.nil_sublist _)))) (fun _ _ => r_conv Try.runUnderlying3 Try.runUnderlying5 rfl (w_ofNat (by omega))) rfl ?_
     refine d_take (i := 3) rfl (by kernel_rfl) (fun _ _ _ h => h) (H.sub (.cons_cons _ (.cons_cons _ (List.nil_sublist _)))) (fun _ _ => r_move rfl) rfl ?_
     refine d_take (i := 4) rfl (by kernel_rfl) (fun _ _ _ h => h) (H.sub (.cons_cons _ (.cons_cons _ (List.nil_sublist _)))) (fun _ _ => r_move rfl) rfl ?_
     refine d_take (i := 5) rfl (by kernel_rfl) (fun _ _ _ h => h) (H.sub (.cons_cons _ (.cons_cons _ (List.nil_sublist _)))) (fun _ _ => r_sub rfl rfl (w_i64e (r := ((j - i : Nat) : Int)) (by omega) (by omega) (by omega))) rfl ?_
     refine d_take (i := 6) rfl (by kernel_rfl) (fun _ _ _ h => h) (H.sub (.cons_cons _ (.cons_cons _ (List.nil_sublist _)))) (fun _ _ => r_conv Try.runUnderlying3 Try.runUnderlying5 rfl (w_ofNat (by omega))) rfl ?_
     refine d_take (i := 9) rfl (by kernel_rfl) (fun _ _ _ h => h) (H.sub (.cons_cons _ (.cons_cons _ (List.nil_sublist _)))) (fun _ _ => r_move rfl) rfl ?_
     refine d_take (i := 10) rfl (by kernel_rfl) (fun _ _ _ h => h) (H.sub (.cons_cons _ (.cons_cons _ (List.nil_sublist _)))) (fun _ _ => r_move rfl) rfl ?_
     have hxl : ((new.1.drop i).take (j - i)).length = j - i := by rw [List.length_take, List.length_drop, new.2]; omega
     refine d_take (i := 11) rfl (by kernel_rfl) (fun _ _ _ h => h) (H.sub (.cons_cons _ (.cons_cons _ (List.nil_sublist _)))) (fun _ _ => r_sliceALH (lo := i) (hi := j) Try.runUnderlying44 Try.sizeOf5 rfl rfl rfl rfl rfl (by omega) (by omega) (by omega) (by rw [Nat.zero_add, Nat.mul_one]) hxl.symm rfl) rfl ?_
     refine d_all1 (i := 7) (by kernel_rfl) ?_
     refine b_new rfl go_none (m_bslice2 (us := [.int .u8 ((UInt8.ofNat i).toNat : Int)]) (vs := [.int .u8 ((UInt8.ofNat (j - i)).toNat : Int)]) H Try.runUnderlying41 Try.sizeOf5 Try.zeroValue5 (by omega) (by omega) rfl rfl rfl rfl rfl rfl) rfl (fun _ _ H => (H.sub (.cons _ (.cons_cons _ (.cons_cons _ (List.nil_sublist _)))))) ?_
     intro w b41 H
     refine d_all1 (i := 8) (by kernel_rfl) ?_
     skip
     refine b_any rfl go_none (m_append_row0 (L1 := [_,_,_]) (N := N) H hR Try.runUnderlying41 Try.runUnderlying41 (fun _ h => nomatch h) Try.sizeOf5 Try.zeroValue5 rfl Try.typeInfo5 (by rw [bytes5]; omega) (by rw [bytes5]; omega) (ec rfl (ec rfl en)) (Src.slice (vs := bC [UInt8.ofNat i, UInt8.ofNat (j - i)]) (H.at 0 rfl) rfl rfl (bC_one _))) rfl (by rintro v w ⟨a5, c5, N5, rfl, hN5, H⟩; exact (H.sub (.cons _ (.cons_cons _ (.cons_cons _ (List.nil_sublist _)))))) ?_
     rintro v w ⟨a5, c5, N5, rfl, hN5, H⟩
     skip
     refine d_all1 (i := 12) (by kernel_rfl) ?_
     refine b_any rfl go_none (m_append_row0 (L1 := [_,_,_]) (N := N5) H hN5 Try.runUnderlying41 Try.runUnderlying41 (fun _ h => nomatch h) Try.sizeOf5 Try.zeroValue5 rfl Try.typeInfo5 (by rw [bytes5]; omega) (by rw [bytes5]; omega) (ec rfl (ec rfl en)) (BRow.src (show BRow _ (some ⟨b3, i, none⟩) ((new.1.drop i).take (j - i)) from fun _ => ⟨b3, i, bC (new.1.take i), bC (new.1.drop j), _,_, rfl, (by rw [← kC_cut hij hj]; exact H.at 1 rfl), (by rw [bC_length, List.length_take, new.2]; omega)⟩) _)) rfl (by rintro v w ⟨a6, c6, N6, rfl, hN6, H⟩; exact (H.sub (.cons _ (.cons_cons _ (.cons_cons _ (List.nil_sublist _)))))) ?_
     rintro v w ⟨a6, c6, N6, rfl, hN6, H⟩
     have hrl := runB_length (new := new) (Nat.le_of_lt hij) hj
     obtain ⟨o2, ho2⟩ : ∃ z, z = o ++ runB new i j := ⟨_, rfl⟩
     have hol : o2.length = o.length + (2 + (j - i)) := by rw [ho2, List.length_append, hrl]
     rw [show o.length + 2 + ((new.1.drop i).take (j - i)).length = o2.length by rw [hol]; omega] at hN6 ⊢
     have hN7 : RowN 1 5 (bC o2) o2.length a6 c6 N6 := by
      have e : bC o2 = bC o ++ bC [UInt8.ofNat i, UInt8.ofNat (j - i)] ++ bC ((new.1.drop i).take (j - i)) := by rw [ho2]; unfold runB; rw [bC_append, bC_append, List.append_assoc]
      rw [e]; exact hN6
     have hM2 := hM.run hij hj hej
     rw [← ho2] at hM2
     refine d_take (i := 13) rfl (by kernel_rfl) (fun _ _ _ h => h) (H.sub (.cons _ (.cons_cons _ (.cons_cons _ (List.nil_sublist _))))) (fun _ _ => r_assign rfl) rfl ?_
     refine d_done (l' := [_,_,_,_,_,_,_,_,_,_,_,_,_,_,_,_,_,_,_,_,_,_,_,_,_,_,_,_,_,_,_,_,_,_,_,_,_,_,_,_,_,_,_,_,_,_,_,_,_,_,_]) (by kernel_rfl) rfl ?_
     refine x_blockNormal ?_
     refine x_thenNormal ?_
     refine c_region (n := 51) ⟨rfl, rfl⟩ ?_
     refine s_val (r_move rfl) ?_
     refine s_val (r_add rfl rfl (w_i64 (by omega) (by omega))) ?_
     refine s_val (r_assign rfl) ?_
     refine c_nil0 (l' := [_,_,_,_,_,_,_,_,_,_,_,_,_,_,_,_,_,_,_,_,_,_,_,_,_,_,_,_,_,_,_,_,_,_,_,_,_,_,_,_,_,_,_,_,_,_,_,_,_,_,_]) rfl ?_
     exact ⟨j + 1, _, rfl, ⟨_,_,_,_,_,_,_,_,_,_,_,_,_,_,_,_,_,_,_,_,_,_,_,_,_,_,_,_,_,_,_,_,_,_,_,_,_,_,_, o2, j + 1, a6, c6, N6, rfl, by omega, by omega, hM2, hN7, (H.sub (.cons _ (List.Sublist.refl _)))⟩, by omega⟩
   ·skip
    have hij : i < j := by omega
    have hj : j ≤ 32 := hj32
    have hej : j < 32 → byt old j = byt new j := fun h => by omega
    refine d_take (i := 2) rfl (by kernel_rfl) (fun _ _ _ h => h) H (fun _ _ => r_move rfl) rfl ?_
    refine d_takeN (i := 3) rfl (by kernel_rfl) (fun _ _ _ h => h) rfl rfl (by decide) H rfl ?_
    refine d_takeN (i := 4) rfl (by kernel_rfl) (fun _ _ _ h => h) rfl rfl (by decide) H rfl ?_
    refine d_takeN (i := 5) rfl (by kernel_rfl) (fun _ _ _ h => h) rfl rfl (by decide) H rfl ?_
    refine d_takeN (i := 6) rfl (by kernel_rfl) (fun _ _ _ h => h) rfl rfl (by decide) H rfl ?_
    refine d_takeN (i := 7) rfl (by kernel_rfl) (fun _ _ _ h => h) rfl rfl (by decide) H rfl ?_
    refine d_takeN (i := 8) rfl (by kernel_rfl) (fun _ _ _ h => h) rfl rfl (by decide) H rfl ?_
    refine d_takeN (i := 9) rfl (by kernel_rfl) (fun _ _ _ h => h) rfl rfl (by decide) H rfl ?_
    refine d_take (i := 10) rfl (by kernel_rfl) (fun _ _ _ h => h) H (fun _ _ => r_pickf rfl rfl) rfl ?_
    refine d_done (l' := [_,_,_,_,_,_,_,_,_,_,_,_,_,_,_,_,_,_,_,_,_,_,_,_,_,_,_,_,_,_,_,_,_,_,_,_,_,_,_,_,_,_,_,_,_,_,_,_,_,_,_]) (by kernel_rfl) rfl ?_
    refine x_thenNormal ?_
    refine c_iff rfl ?_
    refine wp_exit (x_thenExit (x_thenExit (x_blockHit ?_)))
    refine x_thenNormal ?_
    refine d_begin (sz := 51) ⟨rfl, rfl⟩ (by kernel_rfl) H (H.sub (.cons_cons _ (.cons_cons _ (List.nil_sublist _)))) rfl ?_
    intro w H
    refine d_take (i := 0) rfl (by kernel_rfl) (fun _ _ _ h => h) (H.sub (.cons_cons _ (.cons_cons _ (List.nil_sublist _)))) (fun _ _ => r_move rfl) rfl ?_
    refine d_take (i := 1) rfl (by kernel_rfl) (fun _ _ _ h => h) (H.sub (.cons_cons _ (.cons_cons _ (List.nil_sublist _)))) (fun _ _ => r_move rfl) rfl ?_
    refine d_take (i := 2) rfl (by kernel_rfl) (fun _ _ _ h => h) (H.sub (.cons_cons _ (.cons_cons _ (List.nil_sublist _)))) (fun _ _ => r_conv Try.runUnderlying3 Try.runUnderlying5 rfl (w_ofNat (by omega))) rfl ?_
    refine d_take (i := 3) rfl (by kernel_rfl) (fun _ _ _ h => h) (H.sub (.cons_cons _ (.cons_cons _ (List.nil_sublist _)))) (fun _ _ => r_move rfl) rfl ?_
    refine d_take (i := 4) rfl (by kernel_rfl) (fun _ _ _ h => h) (H.sub (.cons_cons _ (.cons_cons _ (List.nil_sublist _)))) (fun _ _ => r_move rfl) rfl ?_
    refine d_take (i := 5) rfl (by kernel_rfl) (fun _ _ _ h => h) (H.sub (.cons_cons _ (.cons_cons _ (List.nil_sublist _)))) (fun _ _ => r_sub rfl rfl (w_i64e (r := ((j - i : Nat) : Int)) (by omega) (by omega) (by omega))) rfl ?_
    refine d_take (i := 6) rfl (by kernel_rfl) (fun _ _ _ h => h) (H.sub (.cons_cons _ (.cons_cons _ (List.nil_sublist _)))) (fun _ _ => r_conv Try.runUnderlying3 Try.runUnderlying5 rfl (w_ofNat (by omega))) rfl ?_
    refine d_take (i := 9) rfl (by kernel_rfl) (fun _ _ _ h => h) (H.sub (.cons_cons _ (.cons_cons _ (List.nil_sublist _)))) (fun _ _ => r_move rfl) rfl ?_
    refine d_take (i := 10) rfl (by kernel_rfl) (fun _ _ _ h => h) (H.sub (.cons_cons _ (.cons_cons _ (List.nil_sublist _)))) (fun _ _ => r_move rfl) rfl ?_
    have hxl : ((new.1.drop i).take (j - i)).length = j - i := by rw [List.length_take, List.length_drop, new.2]; omega
    refine d_take (i := 11) rfl (by kernel_rfl) (fun _ _ _ h => h) (H.sub (.cons_cons _ (.cons_cons _ (List.nil_sublist _)))) (fun _ _ => r_sliceALH (lo := i) (hi := j) Try.runUnderlying44 Try.sizeOf5 rfl rfl rfl rfl rfl (by omega) (by omega) (by omega) (by rw [Nat.zero_add, Nat.mul_one]) hxl.symm rfl) rfl ?_
    refine d_all1 (i := 7) (by kernel_rfl) ?_
    refine b_new rfl go_none (m_bslice2 (us := [.int .u8 ((UInt8.ofNat i).toNat : Int)]) (vs := [.int .u8 ((UInt8.ofNat (j - i)).toNat : Int)]) H Try.runUnderlying41 Try.sizeOf5 Try.zeroValue5 (by omega) (by omega) rfl rfl rfl rfl rfl rfl) rfl (fun _ _ H => (H.sub (.cons _ (.cons_cons _ (.cons_cons _ (List.nil_sublist _)))))) ?_
    intro w b41 H
    refine d_all1 (i := 8) (by kernel_rfl) ?_
    skip
    refine b_any rfl go_none (m_append_row0 (L1 := [_,_,_]) (N := N) H hR Try.runUnderlying41 Try.runUnderlying41 (fun _ h => nomatch h) Try.sizeOf5 Try.zeroValue5 rfl Try.typeInfo5 (by rw [bytes5]; omega) (by rw [bytes5]; omega) (ec rfl (ec rfl en)) (Src.slice (vs := bC [UInt8.ofNat i, UInt8.ofNat (j - i)]) (H.at 0 rfl) rfl rfl (bC_one _))) rfl (by rintro v w ⟨a5, c5, N5, rfl, hN5, H⟩; exact (H.sub (.cons _ (.cons_cons _ (.cons_cons _ (List.nil_sublist _)))))) ?_
    rintro v w ⟨a5, c5, N5, rfl, hN5, H⟩
    skip
    refine d_all1 (i := 12) (by kernel_rfl) ?_
    refine b_any rfl go_none (m_append_row0 (L1 := [_,_,_]) (N := N5) H hN5 Try.runUnderlying41 Try.runUnderlying41 (fun _ h => nomatch h) Try.sizeOf5 Try.zeroValue5 rfl Try.typeInfo5 (by rw [bytes5]; omega) (by rw [bytes5]; omega) (ec rfl (ec rfl en)) (BRow.src (show BRow _ (some ⟨b3, i, none⟩) ((new.1.drop i).take (j - i)) from fun _ => ⟨b3, i, bC (new.1.take i), bC (new.1.drop j), _,_, rfl, (by rw [← kC_cut hij hj]; exact H.at 1 rfl), (by rw [bC_length, List.length_take, new.2]; omega)⟩) _)) rfl (by rintro v w ⟨a6, c6, N6, rfl, hN6, H⟩; exact (H.sub (.cons _ (.cons_cons _ (.cons_cons _ (List.nil_sublist _)))))) ?_
    rintro v w ⟨a6, c6, N6, rfl, hN6, H⟩
    have hrl := runB_length (new := new) (Nat.le_of_lt hij) hj
    obtain ⟨o2, ho2⟩ : ∃ z, z = o ++ runB new i j := ⟨_, rfl⟩
    have hol : o2.length = o.length + (2 + (j - i)) := by rw [ho2, List.length_append, hrl]
    rw [show o.length + 2 + ((new.1.drop i).take (j - i)).length = o2.length by rw [hol]; omega] at hN6 ⊢
    have hN7 : RowN 1 5 (bC o2) o2.length a6 c6 N6 := by
     have e : bC o2 = bC o ++ bC [UInt8.ofNat i, UInt8.ofNat (j - i)] ++ bC ((new.1.drop i).take (j - i)) := by rw [ho2]; unfold runB; rw [bC_append, bC_append, List.append_assoc]
     rw [e]; exact hN6
    have hM2 := hM.run hij hj hej
    rw [← ho2] at hM2
    refine d_take (i := 13) rfl (by kernel_rfl) (fun _ _ _ h => h) (H.sub (.cons _ (.cons_cons _ (.cons_cons _ (List.nil_sublist _))))) (fun _ _ => r_assign rfl) rfl ?_
    refine d_done (l' := [_,_,_,_,_,_,_,_,_,_,_,_,_,_,_,_,_,_,_,_,_,_,_,_,_,_,_,_,_,_,_,_,_,_,_,_,_,_,_,_,_,_,_,_,_,_,_,_,_,_,_]) (by kernel_rfl) rfl ?_
    refine x_blockNormal ?_
    refine x_thenNormal ?_
    refine c_region (n := 51) ⟨rfl, rfl⟩ ?_
    refine s_val (r_move rfl) ?_
    refine s_val (r_add rfl rfl (w_i64 (by omega) (by omega))) ?_
    refine s_val (r_assign rfl) ?_
    refine c_nil0 (l' := [_,_,_,_,_,_,_,_,_,_,_,_,_,_,_,_,_,_,_,_,_,_,_,_,_,_,_,_,_,_,_,_,_,_,_,_,_,_,_,_,_,_,_,_,_,_,_,_,_,_,_]) rfl ?_
    exact ⟨j + 1, _, rfl, ⟨_,_,_,_,_,_,_,_,_,_,_,_,_,_,_,_,_,_,_,_,_,_,_,_,_,_,_,_,_,_,_,_,_,_,_,_,_,_,_, o2, j + 1, a6, c6, N6, rfl, by omega, by omega, hM2, hN7, (H.sub (.cons _ (List.Sublist.refl _)))⟩, by omega⟩
 ·skip
  have hi32 : 32 ≤ i := by omega
  refine wp_exit (x_thenExit (x_thenExit (x_blockHit ?_)))
  refine x_thenNormal ?_
  refine c_seq ?_
  refine c_rseq (n := 51) ⟨rfl, rfl⟩ ?_
  refine s_val (r_move rfl) ?_
  refine s_val (r_lens Try.runUnderlying41 (ec rfl en)) ?_
  refine s_val (r_gtr rfl rfl) ?_
  refine c_nil (l' := [_,_,_,_,_,_,_,_,_,_,_,_,_,_,_,_,_,_,_,_,_,_,_,_,_,_,_,_,_,_,_,_,_,_,_,_,_,_,_,_,_,_,_,_,_,_,_,_,_,_,_]) rfl ?_
  refine c_if rfl (fun h49 => ?_) (fun h49 => ?_)
  ·skip
   refine c_rseq (n := 51) ⟨rfl, rfl⟩ ?_
   refine s_val (r_assign rfl) ?_
   refine s_val (r_assign rfl) ?_
   refine c_nil (l' := [_,_,_,_,_,_,_,_,_,_,_,_,_,_,_,_,_,_,_,_,_,_,_,_,_,_,_,_,_,_,_,_,_,_,_,_,_,_,_,_,_,_,_,_,_,_,_,_,_,_,_]) rfl ?_
   refine wp_ret (x_thenRet ?_)
   refine e_ret (res2 rfl rfl rfl) ⟨_, rfl, ?_⟩
   exact .inr ⟨rfl, (H.sub (List.nil_sublist _))⟩
  ·skip
   refine wp_skip ?_
   refine x_thenNormal ?_
   refine c_rseq (n := 51) ⟨rfl, rfl⟩ ?_
   refine s_val (r_move rfl) ?_
   refine s_val (r_assign rfl) ?_
   refine s_val (r_assign rfl) ?_
   refine c_nil (l' := [_,_,_,_,_,_,_,_,_,_,_,_,_,_,_,_,_,_,_,_,_,_,_,_,_,_,_,_,_,_,_,_,_,_,_,_,_,_,_,_,_,_,_,_,_,_,_,_,_,_,_]) rfl ?_
   refine wp_ret ?_
   refine e_ret (res2 rfl rfl rfl) ⟨_, rfl, ?_⟩
   exact .inl ⟨o, a2, c2, N, hM.fin hi32 (by omega), by omega, rfl, hR, H.sub (.cons _ (.cons _ (List.Sublist.refl _)))⟩

end Go.Proofs.Ytobfnieebiakeaa

