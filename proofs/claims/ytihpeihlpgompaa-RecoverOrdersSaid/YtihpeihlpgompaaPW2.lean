import Derived.Test.YtihpeihlpgompaaPW1
namespace Go.Proofs.Ytihpeihlpgompaa
open Go Go.Er
set_option linter.unusedSimpArgs false in
theorem places52 : Places Try.prog #[⟨ "At", 3, 0, false, "", "", 0⟩, ⟨ "Cell", 40, 1, false, "", "", 8⟩] [(0, 1), (1, 11)] := fun w => by simp [Try.sizeOf3 w, Try.sizeOf40 w]
theorem bytes52 : Try.t52.bytes = 112 := rfl

set_option maxHeartbeats 4000000 in
theorem order17_spec (a : Option Addr) (c : Nat) (ys : List Fa) (hb : ∀ y ∈ ys, y.bd.b.length ≤ y.bd.c ∧ y.bd.b.length ≤ 1000000) (hl : ys.length ≤ 1000000) (hE : (ents ys).length < 256) (w0 : World) (hr : RRow fbC w0 a ys) (hbr : ∀ y ∈ ys, BRow w0 y.bd.a y.bd.b) :
  Calls Try.prog 8 #[.slice a ys.length c] w0 fun e w => ∃ v, e = .returned v ∧ (∃ (zs : List FrL) (a2 : Option Addr) (c2 : Nat) (N : List (Nat × Obj)), v = .slice a2 zs.length c2 ∧ OrdI zs (ents ys) ∧ RowN 12 52 (rowC frC zs) zs.length a2 c2 N ∧ (∀ x ∈ zs, BRow w0 x.c.body.a x.c.body.b) ∧ St w0 [] w N) := by
 have H := St.refl w0
 refine c_enter (args := [.slice a ys.length c]) (l := [.slice a ys.length c, undef, undef, undef, undef, undef, undef, undef, undef, undef, undef, undef, undef, undef, undef, undef, undef, undef, undef, undef, undef, undef, undef, undef, undef, undef, undef, undef, undef, undef, undef, undef, undef, undef, undef, undef, undef, undef, undef, undef, undef, undef, undef, undef, undef, undef, undef, undef, undef, undef, undef, undef, undef, undef, undef, undef, undef, undef, undef, undef, undef, undef, undef, undef, undef, undef, undef, undef, undef, undef, undef, undef, undef, undef, undef, undef, undef, undef, undef, undef, undef, undef, undef, undef, undef, undef, undef, undef, undef, undef, undef, undef]) Try.func8 Try.ntmps8 rfl rfl ?_
 refine c_rseq (n := 92) ⟨rfl, rfl⟩ ?_
 refine s_val (r_assign rfl) ?_
 refine c_nil (l' := [_,_,_,_,_,_,_,_,_,_,_,_,_,_,_,_,_,_,_,_,_,_,_,_,_,_,_,_,_,_,_,_,_,_,_,_,_,_,_,_,_,_,_,_,_,_,_,_,_,_,_,_,_,_,_,_,_,_,_,_,_,_,_,_,_,_,_,_,_,_,_,_,_,_,_,_,_,_,_,_,_,_,_,_,_,_,_,_,_,_,_,_]) rfl ?_
 refine c_rseq (n := 92) ⟨rfl, rfl⟩ ?_
 refine s_val (r_assign rfl) ?_
 refine c_nil (l' := [_,_,_,_,_,_,_,_,_,_,_,_,_,_,_,_,_,_,_,_,_,_,_,_,_,_,_,_,_,_,_,_,_,_,_,_,_,_,_,_,_,_,_,_,_,_,_,_,_,_,_,_,_,_,_,_,_,_,_,_,_,_,_,_,_,_,_,_,_,_,_,_,_,_,_,_,_,_,_,_,_,_,_,_,_,_,_,_,_,_,_,_]) rfl ?_
 refine c_seq ?_
 refine c_rseq (n := 92) ⟨rfl, rfl⟩ ?_
 refine s_val (r_assign rfl) ?_
 refine c_nil (l' := [_,_,_,_,_,_,_,_,_,_,_,_,_,_,_,_,_,_,_,_,_,_,_,_,_,_,_,_,_,_,_,_,_,_,_,_,_,_,_,_,_,_,_,_,_,_,_,_,_,_,_,_,_,_,_,_,_,_,_,_,_,_,_,_,_,_,_,_,_,_,_,_,_,_,_,_,_,_,_,_,_,_,_,_,_,_,_,_,_,_,_,_]) rfl ?_
 refine wp_block ?_
 refine c_loop (fun (l0 : List Value) (i : Nat) (l : List Value) (w : World) => ∃ (u5 u6 u7 u8 u9 u10 u11 u12 u13 u14 u15 u16 u17 u18 u19 u20 u21 u22 u23 u24 u25 u26 u27 u28 u29 u30 u31 u32 u33 u34 u35 u36 u37 u38 u39 u40 u41 u42 u43 u44 u45 u46 u47 u48 u49 u50 u51 u52 u53 u54 u55 u56 u57 u58 u59 u60 u61 u62 u63 u64 u65 u66 u67 u68 u69 u70 u71 u72 u73 u74 u75 u76 u77 u78 u79 u80 u81 u82 u83 u84 u85 u86 u87 u88 u89 u90 : Value) (os : List FrL) (a3 : Option Addr) (c3 : Nat) (N : List (Nat × Obj)), l = ovr l0 [N_, N_, N_, Y_ (.slice a3 os.length c3), Y_ (.int .i64 i), Y_ u5, Y_ u6, Y_ u7, Y_ u8, Y_ u9, Y_ u10, Y_ u11, Y_ u12, Y_ u13, Y_ u14, Y_ u15, Y_ u16, Y_ u17, Y_ u18, Y_ u19, Y_ u20, Y_ u21, Y_ u22, Y_ u23, Y_ u24, Y_ u25, Y_ u26, Y_ u27, Y_ u28, Y_ u29, Y_ u30, Y_ u31, Y_ u32, Y_ u33, Y_ u34, Y_ u35, Y_ u36, Y_ u37, Y_ u38, Y_ u39, Y_ u40, Y_ u41, Y_ u42, Y_ u43, Y_ u44, Y_ u45, Y_ u46, Y_ u47, Y_ u48, Y_ u49, Y_ u50, Y_ u51, Y_ u52, Y_ u53, Y_ u54, Y_ u55, Y_ u56, Y_ u57, Y_ u58, Y_ u59, Y_ u60, Y_ u61, Y_ u62, Y_ u63, Y_ u64, Y_ u65, Y_ u66, Y_ u67, Y_ u68, Y_ u69, Y_ u70, Y_ u71, Y_ u72, Y_ u73, Y_ u74, Y_ u75, Y_ u76, Y_ u77, Y_ u78, Y_ u79, Y_ u80, Y_ u81, Y_ u82, Y_ u83, Y_ u84, Y_ u85, Y_ u86, Y_ u87, Y_ u88, Y_ u89, Y_ u90] ∧ i ≤ ys.length ∧ OrdI os (ents (ys.take i)) ∧ RowN 12 52 (rowC frC os) os.length a3 c3 N ∧ (∀ x ∈ os, BRow w0 x.c.body.a x.c.body.b) ∧ St w0 [] w (N)) (fun (i : Nat) => ys.length - i) 0 ⟨_,_,_,_,_,_,_,_,_,_,_,_,_,_,_,_,_,_,_,_,_,_,_,_,_,_,_,_,_,_,_,_,_,_,_,_,_,_,_,_,_,_,_,_,_,_,_,_,_,_,_,_,_,_,_,_,_,_,_,_,_,_,_,_,_,_,_,_,_,_,_,_,_,_,_,_,_,_,_,_,_,_,_,_,_,_, [], none, 0, [], rfl, Nat.zero_le _, OrdI.nil, RowN.nil, (fun _ h => nomatch h), H⟩ ?_
 intro i l w ⟨u5, u6, u7, u8, u9, u10, u11, u12, u13, u14, u15, u16, u17, u18, u19, u20, u21, u22, u23, u24, u25, u26, u27, u28, u29, u30, u31, u32, u33, u34, u35, u36, u37, u38, u39, u40, u41, u42, u43, u44, u45, u46, u47, u48, u49, u50, u51, u52, u53, u54, u55, u56, u57, u58, u59, u60, u61, u62, u63, u64, u65, u66, u67, u68, u69, u70, u71, u72, u73, u74, u75, u76, u77, u78, u79, u80, u81, u82, u83, u84, u85, u86, u87, u88, u89, u90, os, a3, c3, N, hl, hi, hO, hR, hB, H⟩
 obtain rfl := hl.trans (rfl : _ = [_,_,_,_,_,_,_,_,_,_,_,_,_,_,_,_,_,_,_,_,_,_,_,_,_,_,_,_,_,_,_,_,_,_,_,_,_,_,_,_,_,_,_,_,_,_,_,_,_,_,_,_,_,_,_,_,_,_,_,_,_,_,_,_,_,_,_,_,_,_,_,_,_,_,_,_,_,_,_,_,_,_,_,_,_,_,_,_,_,_,_,_])
 clear hl
 refine c_seq ?_
 refine c_rseq (n := 92) ⟨rfl, rfl⟩ ?_
 refine s_val (r_move rfl) ?_
 refine s_val (r_move rfl) ?_
 refine s_val (r_lens Try.runUnderlying33 (ec rfl en)) ?_
 refine s_val (r_lss rfl rfl) ?_
 refine c_nil (l' := [_,_,_,_,_,_,_,_,_,_,_,_,_,_,_,_,_,_,_,_,_,_,_,_,_,_,_,_,_,_,_,_,_,_,_,_,_,_,_,_,_,_,_,_,_,_,_,_,_,_,_,_,_,_,_,_,_,_,_,_,_,_,_,_,_,_,_,_,_,_,_,_,_,_,_,_,_,_,_,_,_,_,_,_,_,_,_,_,_,_,_,_]) rfl ?_
 refine c_if rfl (fun h13 => ?_) (fun h13 => ?_)
 ·skip
  obtain ⟨y, hy⟩ : ∃ y, y = ys.getD i faZ := ⟨_, rfl⟩
  have hx : ys[i]? = some y := by rw [hy, List.getD_eq_getElem?_getD, List.getElem?_eq_getElem (by omega)]; rfl
  have hym : y ∈ ys := List.mem_of_getElem? hx
  have hen := ents_take (l := ys) (i := i) (by omega)
  rw [← hy] at hen
  obtain ⟨b0, off, pre, post, T0, fz0, rfl, hb0, hp0⟩ := hr (by omega)
  refine wp_skip ?_
  refine x_thenNormal ?_
  refine c_seq ?_
  refine wp_block ?_
  refine c_rseq (n := 92) ⟨rfl, rfl⟩ ?_
  refine s_val (r_move rfl) ?_
  refine s_val (r_move rfl) ?_
  refine s_val (r_indexAddrS Try.runUnderlying33 Try.sizeOf60 rfl rfl (by omega) (by omega)) ?_
  refine s_val (r_fieldAddr (k := 1) Try.runUnderlying60 rfl Try.sizeOf25 (by decide) rfl rfl) ?_
  refine s_val (r_load1 Try.isAgg25 rfl (H.rd0 hb0) (fb_bd hp0 hx (by omega))) ?_
  refine s_call (r_call Try.call17 (ec rfl en)) (open13_spec y.bd.a y.bd.b y.bd.c (hb y hym).1 (hb y hym).2 _ ((hbr y hym).st (H.sub (List.nil_sublist _)))) ?_
  rintro v w ⟨cs, a2, c2, Nr, ok, rfl, ho, h14, hNr, hCw, HC⟩
  have hCB : ∀ z ∈ cs, BRow w0 z.body.a z.body.b := hCw w0 (hbr y hym)
  replace H := (H.call0 HC).perm (List.perm_append_comm (l₁ := N))
  refine s_val (r_move rfl) ?_
  refine s_val (r_extract rfl rfl) ?_
  refine s_val (r_extract rfl rfl) ?_
  refine s_val (r_assign rfl) ?_
  refine s_val (r_assign rfl) ?_
  refine c_nil (l' := [_,_,_,_,_,_,_,_,_,_,_,_,_,_,_,_,_,_,_,_,_,_,_,_,_,_,_,_,_,_,_,_,_,_,_,_,_,_,_,_,_,_,_,_,_,_,_,_,_,_,_,_,_,_,_,_,_,_,_,_,_,_,_,_,_,_,_,_,_,_,_,_,_,_,_,_,_,_,_,_,_,_,_,_,_,_,_,_,_,_,_,_]) rfl ?_
  refine c_rseq (n := 92) ⟨rfl, rfl⟩ ?_
  refine s_val (r_assign rfl) ?_
  refine c_nil (l' := [_,_,_,_,_,_,_,_,_,_,_,_,_,_,_,_,_,_,_,_,_,_,_,_,_,_,_,_,_,_,_,_,_,_,_,_,_,_,_,_,_,_,_,_,_,_,_,_,_,_,_,_,_,_,_,_,_,_,_,_,_,_,_,_,_,_,_,_,_,_,_,_,_,_,_,_,_,_,_,_,_,_,_,_,_,_,_,_,_,_,_,_]) rfl ?_
  refine wp_block ?_
  refine c_loop (fun (l0 : List Value) (k : Nat) (l : List Value) (w : World) => ∃ (u8 u9 u25 u26 u27 u28 u29 u30 u31 u32 u33 u34 u35 u36 u37 u38 u39 u40 u41 u42 u43 u44 u45 u46 u47 u48 u49 u50 u51 u52 u53 u54 u55 u56 u57 u58 u59 u60 u61 u62 u63 u64 u65 u66 u67 u68 u69 u70 u71 u72 u73 u74 u75 u76 u77 u78 u79 u80 u81 u82 u83 u84 u85 u86 u87 u88 u89 u90 : Value) (os1 : List FrL) (a4 : Option Addr) (c4 : Nat) (N1 : List (Nat × Obj)), l = ovr l0 [N_, N_, N_, Y_ (.slice a4 os1.length c4), N_, N_, N_, Y_ (.int .i64 k), Y_ u8, Y_ u9, N_, N_, N_, N_, N_, N_, N_, N_, N_, N_, N_, N_, N_, N_, N_, Y_ u25, Y_ u26, Y_ u27, Y_ u28, Y_ u29, Y_ u30, Y_ u31, Y_ u32, Y_ u33, Y_ u34, Y_ u35, Y_ u36, Y_ u37, Y_ u38, Y_ u39, Y_ u40, Y_ u41, Y_ u42, Y_ u43, Y_ u44, Y_ u45, Y_ u46, Y_ u47, Y_ u48, Y_ u49, Y_ u50, Y_ u51, Y_ u52, Y_ u53, Y_ u54, Y_ u55, Y_ u56, Y_ u57, Y_ u58, Y_ u59, Y_ u60, Y_ u61, Y_ u62, Y_ u63, Y_ u64, Y_ u65, Y_ u66, Y_ u67, Y_ u68, Y_ u69, Y_ u70, Y_ u71, Y_ u72, Y_ u73, Y_ u74, Y_ u75, Y_ u76, Y_ u77, Y_ u78, Y_ u79, Y_ u80, Y_ u81, Y_ u82, Y_ u83, Y_ u84, Y_ u85, Y_ u86, Y_ u87, Y_ u88, Y_ u89, Y_ u90] ∧ k ≤ cs.length ∧ OrdI os1 (ents (ys.take i) ++ (cs.take k).map (fun z => (y.at_, ceP z))) ∧ RowN 12 52 (rowC frC os1) os1.length a4 c4 N1 ∧ (∀ x ∈ os1, BRow w0 x.c.body.a x.c.body.b) ∧ St w0 [] w (N1 ++ Nr)) (fun (k : Nat) => cs.length - k) 0 ⟨_,_,_,_,_,_,_,_,_,_,_,_,_,_,_,_,_,_,_,_,_,_,_,_,_,_,_,_,_,_,_,_,_,_,_,_,_,_,_,_,_,_,_,_,_,_,_,_,_,_,_,_,_,_,_,_,_,_,_,_,_,_,_,_,_,_,_,_, os, a3, c3, N, rfl, Nat.zero_le _, (by rw [List.take_zero, List.map_nil, List.append_nil]; exact hO), hR, hB, H⟩ ?_
  intro k l w ⟨u8, u9, u25, u26, u27, u28, u29, u30, u31, u32, u33, u34, u35, u36, u37, u38, u39, u40, u41, u42, u43, u44, u45, u46, u47, u48, u49, u50, u51, u52, u53, u54, u55, u56, u57, u58, u59, u60, u61, u62, u63, u64, u65, u66, u67, u68, u69, u70, u71, u72, u73, u74, u75, u76, u77, u78, u79, u80, u81, u82, u83, u84, u85, u86, u87, u88, u89, u90, os1, a4, c4, N1, hl, hk, hO1, hR1, hB1, H⟩
  obtain rfl := hl.trans (rfl : _ = [_,_,_,_,_,_,_,_,_,_,_,_,_,_,_,_,_,_,_,_,_,_,_,_,_,_,_,_,_,_,_,_,_,_,_,_,_,_,_,_,_,_,_,_,_,_,_,_,_,_,_,_,_,_,_,_,_,_,_,_,_,_,_,_,_,_,_,_,_,_,_,_,_,_,_,_,_,_,_,_,_,_,_,_,_,_,_,_,_,_,_,_])
  clear hl
  refine c_seq ?_
  refine c_rseq (n := 92) ⟨rfl, rfl⟩ ?_
  refine s_val (r_move rfl) ?_
  refine s_val (r_move rfl) ?_
  refine s_val (r_lens Try.runUnderlying53 (ec rfl en)) ?_
  refine s_val (r_lss rfl rfl) ?_
  refine c_nil (l' := [_,_,_,_,_,_,_,_,_,_,_,_,_,_,_,_,_,_,_,_,_,_,_,_,_,_,_,_,_,_,_,_,_,_,_,_,_,_,_,_,_,_,_,_,_,_,_,_,_,_,_,_,_,_,_,_,_,_,_,_,_,_,_,_,_,_,_,_,_,_,_,_,_,_,_,_,_,_,_,_,_,_,_,_,_,_,_,_,_,_,_,_]) rfl ?_
  refine c_if rfl (fun h28 => ?_) (fun h28 => ?_)
  ·skip
   obtain ⟨z, hz⟩ : ∃ z, z = cs.getD k ce0 := ⟨_, rfl⟩
   have hx2 : cs[k]? = some z := by rw [hz, List.getD_eq_getElem?_getD, List.getElem?_eq_getElem (by omega)]; rfl
   have hzm : z ∈ cs := List.mem_of_getElem? hx2
   obtain ⟨bc, spc, rfl, hcc, hNrE, hcc2⟩ := RowN.some hNr (by omega)
   have hol := hO1.len
   have hel : (ents (ys.take i) ++ (cs.take k).map (fun z => (y.at_, ceP z))).length ≤ 1000000 := by
    have h1 : (ents (ys.take (i + 1))).length ≤ (ents ys).length := by
     have h2 := congrArg List.length (ents_append (ys.take (i + 1)) (ys.drop (i + 1)))
     rw [List.take_append_drop, List.length_append] at h2; omega
    rw [hen] at h1
    unfold entB at h1
    rw [ho, List.length_append, List.length_map, List.length_map] at h1
    rw [List.length_append, List.length_map, List.length_take]; omega
   refine wp_skip ?_
   refine x_thenNormal ?_
   refine c_seq ?_
   refine wp_block ?_
   refine c_rseq (n := 92) ⟨rfl, rfl⟩ ?_
   refine s_val (r_assign rfl) ?_
   refine c_nil (l' := [_,_,_,_,_,_,_,_,_,_,_,_,_,_,_,_,_,_,_,_,_,_,_,_,_,_,_,_,_,_,_,_,_,_,_,_,_,_,_,_,_,_,_,_,_,_,_,_,_,_,_,_,_,_,_,_,_,_,_,_,_,_,_,_,_,_,_,_,_,_,_,_,_,_,_,_,_,_,_,_,_,_,_,_,_,_,_,_,_,_,_,_]) rfl ?_
   refine c_seq ?_
   refine wp_block ?_
   refine c_loop (fun (l0 : List Value) (j : Nat) (l : List Value) (w : World) => ∃ (u31 u32 u33 u34 u35 u36 u37 u38 u39 u40 u41 u42 u43 u44 u45 u46 u47 u48 u49 u50 : Value) , l = ovr l0 [N_, N_, N_, N_, N_, N_, N_, N_, Y_ (.int .i64 j), N_, N_, N_, N_, N_, N_, N_, N_, N_, N_, N_, N_, N_, N_, N_, N_, N_, N_, N_, N_, N_, N_, Y_ u31, Y_ u32, Y_ u33, Y_ u34, Y_ u35, Y_ u36, Y_ u37, Y_ u38, Y_ u39, Y_ u40, Y_ u41, Y_ u42, Y_ u43, Y_ u44, Y_ u45, Y_ u46, Y_ u47, Y_ u48, Y_ u49, Y_ u50] ∧ j ≤ os1.length ∧ (∀ q ∈ os1.take j, q.c.num < z.num) ∧ St w0 [] w (N1 ++ Nr)) (fun (j : Nat) => os1.length - j) 0 ⟨_,_,_,_,_,_,_,_,_,_,_,_,_,_,_,_,_,_,_,_, rfl, Nat.zero_le _, (fun _ h => nomatch h), H⟩ ?_
   intro j l w ⟨u31, u32, u33, u34, u35, u36, u37, u38, u39, u40, u41, u42, u43, u44, u45, u46, u47, u48, u49, u50, hl, hj, hlt, H⟩
   obtain rfl := hl.trans (rfl : _ = [_,_,_,_,_,_,_,_,_,_,_,_,_,_,_,_,_,_,_,_,_,_,_,_,_,_,_,_,_,_,_,_,_,_,_,_,_,_,_,_,_,_,_,_,_,_,_,_,_,_,_,_,_,_,_,_,_,_,_,_,_,_,_,_,_,_,_,_,_,_,_,_,_,_,_,_,_,_,_,_,_,_,_,_,_,_,_,_,_,_,_,_])
   clear hl
   refine c_seq ?_
   refine c_seq ?_
   refine d_begin (sz := 92) ⟨rfl, rfl⟩ (by kernel_rfl) H (H) rfl ?_
   intro w H
   refine d_take (i := 0) rfl (by kernel_rfl) (fun _ _ _ h => h) H (fun _ _ => r_move rfl) rfl ?_
   refine d_take (i := 1) rfl (by kernel_rfl) (fun _ _ _ h => h) H (fun _ _ => r_move rfl) rfl ?_
   refine d_take (i := 2) rfl (by kernel_rfl) (fun _ _ _ h => h) H (fun _ _ => r_lens Try.runUnderlying31 (ec rfl en)) rfl ?_
   refine d_take (i := 3) rfl (by kernel_rfl) (fun _ _ _ h => h) H (fun _ _ => r_lss rfl rfl) rfl ?_
   refine d_part (fun h34 => ?_) (fun h34 => ?_)
   ·skip
    obtain ⟨x, hxj⟩ : ∃ x, os1[j]? = some x := ⟨_, List.getElem?_eq_getElem (by omega)⟩
    obtain ⟨bz, spz, rfl, hcz, hN1E, hcz2⟩ := RowN.some hR1 (by omega)
    refine d_take (i := 4) rfl (by kernel_rfl) (fun _ _ _ h => h) H (fun _ _ => r_move rfl) rfl ?_
    refine d_takeG (i := 5) rfl (by kernel_rfl) (fun _ _ _ h => h) rfl rfl H (fun _ _ => r_move rfl) rfl ?_
    refine d_takeG (i := 6) rfl (by kernel_rfl) (fun _ _ _ h => h) rfl rfl H (fun _ _ => r_move rfl) rfl ?_
    refine d_takeG (i := 7) rfl (by kernel_rfl) (fun _ _ _ h => h) rfl rfl H (fun _ _ => r_indexAddrS Try.runUnderlying31 Try.sizeOf52 rfl rfl (by omega) (by omega)) rfl ?_
    refine d_takeG (i := 8) rfl (by kernel_rfl) (fun _ _ _ h => h) rfl rfl H (fun _ _ => r_fieldAddr (k := 1) Try.runUnderlying52 rfl Try.sizeOf40 (by decide) rfl rfl) rfl ?_
    refine d_takeG (i := 9) rfl (by kernel_rfl) (fun _ _ _ h => h) rfl rfl H (fun _ _ => r_fieldAddr (k := 1) Try.runUnderlying40 rfl Try.sizeOf24 (by decide) rfl rfl) rfl ?_
    refine d_takeG (i := 10) rfl (by kernel_rfl) (fun _ _ _ h => h) rfl rfl H (fun _ HS => r_load1 Try.isAgg24 rfl (HS.own (bz, Obj.cells (rowC frC os1 ++ spz).toArray 52 (0, 0)) (List.mem_append_left _ (by rw [hN1E]; exact List.mem_singleton.2 rfl))) (fr_num hxj (by omega))) rfl ?_
    refine d_takeG (i := 11) rfl (by kernel_rfl) (fun _ _ _ h => h) rfl rfl H (fun _ _ => r_move rfl) rfl ?_
    refine d_takeG (i := 12) rfl (by kernel_rfl) (fun _ _ _ h => h) rfl rfl H (fun _ _ => r_move rfl) rfl ?_
    refine d_takeG (i := 13) rfl (by kernel_rfl) (fun _ _ _ h => h) rfl rfl H (fun _ _ => r_indexAddrS Try.runUnderlying53 Try.sizeOf40 rfl rfl (by omega) (by omega)) rfl ?_
    refine d_takeG (i := 14) rfl (by kernel_rfl) (fun _ _ _ h => h) rfl rfl H (fun _ _ => r_fieldAddr (k := 1) Try.runUnderlying40 rfl Try.sizeOf24 (by decide) rfl rfl) rfl ?_
    refine d_takeG (i := 15) rfl (by kernel_rfl) (fun _ _ _ h => h) rfl rfl H (fun _ HS => r_load1 Try.isAgg24 rfl (HS.own (bc, Obj.cells (rowC ceC cs ++ spc).toArray 40 (0, 0)) (List.mem_append_right _ (by rw [hNrE]; exact List.mem_singleton.2 rfl))) (ce_num hx2 (by omega))) rfl ?_
    refine d_takeG (i := 16) rfl (by kernel_rfl) (fun _ _ _ h => h) rfl rfl H (fun _ _ => r_lss rfl rfl) rfl ?_
    refine d_part (fun h47 => ?_) (fun h47 => ?_)
    ·skip
     refine d_take (i := 17) rfl (by kernel_rfl) (fun _ _ _ h => h) H (fun _ _ => r_pickt rfl rfl) rfl ?_
     refine d_done (l' := [_,_,_,_,_,_,_,_,_,_,_,_,_,_,_,_,_,_,_,_,_,_,_,_,_,_,_,_,_,_,_,_,_,_,_,_,_,_,_,_,_,_,_,_,_,_,_,_,_,_,_,_,_,_,_,_,_,_,_,_,_,_,_,_,_,_,_,_,_,_,_,_,_,_,_,_,_,_,_,_,_,_,_,_,_,_,_,_,_,_,_,_]) (by kernel_rfl) rfl ?_
     refine x_thenNormal ?_
     refine c_ift rfl ?_
     refine wp_skip ?_
     refine x_thenNormal ?_
     refine wp_block ?_
     refine c_region (n := 92) ⟨rfl, rfl⟩ ?_
     refine s_val (r_move rfl) ?_
     refine s_val (r_add rfl rfl (w_i64 (by omega) (by omega))) ?_
     refine s_val (r_assign rfl) ?_
     refine c_nil0 (l' := [_,_,_,_,_,_,_,_,_,_,_,_,_,_,_,_,_,_,_,_,_,_,_,_,_,_,_,_,_,_,_,_,_,_,_,_,_,_,_,_,_,_,_,_,_,_,_,_,_,_,_,_,_,_,_,_,_,_,_,_,_,_,_,_,_,_,_,_,_,_,_,_,_,_,_,_,_,_,_,_,_,_,_,_,_,_,_,_,_,_,_,_]) rfl ?_
     refine x_blockNormal ?_
     exact ⟨j + 1, _, rfl, ⟨_,_,_,_,_,_,_,_,_,_,_,_,_,_,_,_,_,_,_,_, rfl, by omega, (take_all hlt hxj h47), H⟩, by omega⟩
    ·skip
     refine d_take (i := 17) rfl (by kernel_rfl) (fun _ _ _ h => h) H (fun _ _ => r_pickt rfl rfl) rfl ?_
     refine d_done (l' := [_,_,_,_,_,_,_,_,_,_,_,_,_,_,_,_,_,_,_,_,_,_,_,_,_,_,_,_,_,_,_,_,_,_,_,_,_,_,_,_,_,_,_,_,_,_,_,_,_,_,_,_,_,_,_,_,_,_,_,_,_,_,_,_,_,_,_,_,_,_,_,_,_,_,_,_,_,_,_,_,_,_,_,_,_,_,_,_,_,_,_,_]) (by kernel_rfl) rfl ?_
     refine x_thenNormal ?_
     refine c_iff rfl ?_
     refine wp_exit (x_thenExit (x_thenExit (x_blockHit ?_)))
     refine x_thenNormal ?_
     refine c_rseq (n := 92) ⟨rfl, rfl⟩ ?_
     refine s_val (r_move rfl) ?_
     refine s_val (r_move rfl) ?_
     refine s_val (r_sliceL (lo := j) Try.runUnderlying31 Try.sizeOf52 rfl rfl rfl (by omega)) ?_
     refine s_val (r_assign rfl) ?_
     refine c_nil (l' := [_,_,_,_,_,_,_,_,_,_,_,_,_,_,_,_,_,_,_,_,_,_,_,_,_,_,_,_,_,_,_,_,_,_,_,_,_,_,_,_,_,_,_,_,_,_,_,_,_,_,_,_,_,_,_,_,_,_,_,_,_,_,_,_,_,_,_,_,_,_,_,_,_,_,_,_,_,_,_,_,_,_,_,_,_,_,_,_,_,_,_,_]) rfl ?_
     refine c_seq ?_
     refine c_seq ?_
     refine d_begin (sz := 92) ⟨rfl, rfl⟩ (by kernel_rfl) H (H) rfl ?_
     intro w H
     refine d_take (i := 0) rfl (by kernel_rfl) (fun _ _ _ h => h) H (fun _ _ => r_move rfl) rfl ?_
     refine d_take (i := 1) rfl (by kernel_rfl) (fun _ _ _ h => h) H (fun _ _ => r_lens Try.runUnderlying31 (ec rfl en)) rfl ?_
     refine d_take (i := 2) rfl (by kernel_rfl) (fun _ _ _ h => h) H (fun _ _ => r_gtr rfl rfl) rfl ?_
     refine d_part (fun h56 => ?_) (fun h56 => ?_)
     ·skip
      have hcp := hR1.2.1
      have hca : cutA (some ⟨bz, 0, none⟩) 12 c4 j = some ⟨bz, j * 12, none⟩ := cutA_at (by omega) (by omega)
      rw [hca]
      refine d_take (i := 3) rfl (by kernel_rfl) (fun _ _ _ h => h) H (fun _ _ => r_move rfl) rfl ?_
      refine d_takeG (i := 4) rfl (by kernel_rfl) (fun _ _ _ h => h) rfl rfl H (fun _ _ => r_move rfl) rfl ?_
      refine d_takeG (i := 5) rfl (by kernel_rfl) (fun _ _ _ h => h) rfl rfl H (fun _ _ => r_indexAddrS Try.runUnderlying31 Try.sizeOf52 rfl rfl (by omega) (by omega)) rfl ?_
      refine d_takeG (i := 6) rfl (by kernel_rfl) (fun _ _ _ h => h) rfl rfl H (fun _ _ => r_fieldAddr (k := 1) Try.runUnderlying52 rfl Try.sizeOf40 (by decide) rfl rfl) rfl ?_
      refine d_takeG (i := 7) rfl (by kernel_rfl) (fun _ _ _ h => h) rfl rfl H (fun _ _ => r_fieldAddr (k := 1) Try.runUnderlying40 rfl Try.sizeOf24 (by decide) rfl rfl) rfl ?_
      refine d_takeG (i := 8) rfl (by kernel_rfl) (fun _ _ _ h => h) rfl rfl H (fun _ HS => r_load1 Try.isAgg24 rfl (HS.own (bz, Obj.cells (rowC frC os1 ++ spz).toArray 52 (0, 0)) (List.mem_append_left _ (by rw [hN1E]; exact List.mem_singleton.2 rfl))) (fr_num hxj (by omega))) rfl ?_
      refine d_takeG (i := 9) rfl (by kernel_rfl) (fun _ _ _ h => h) rfl rfl H (fun _ _ => r_move rfl) rfl ?_
      refine d_takeG (i := 10) rfl (by kernel_rfl) (fun _ _ _ h => h) rfl rfl H (fun _ _ => r_move rfl) rfl ?_
      refine d_takeG (i := 11) rfl (by kernel_rfl) (fun _ _ _ h => h) rfl rfl H (fun _ _ => r_indexAddrS Try.runUnderlying53 Try.sizeOf40 rfl rfl (by omega) (by omega)) rfl ?_
      refine d_takeG (i := 12) rfl (by kernel_rfl) (fun _ _ _ h => h) rfl rfl H (fun _ _ => r_fieldAddr (k := 1) Try.runUnderlying40 rfl Try.sizeOf24 (by decide) rfl rfl) rfl ?_
      refine d_takeG (i := 13) rfl (by kernel_rfl) (fun _ _ _ h => h) rfl rfl H (fun _ HS => r_load1 Try.isAgg24 rfl (HS.own (bc, Obj.cells (rowC ceC cs ++ spc).toArray 40 (0, 0)) (List.mem_append_right _ (by rw [hNrE]; exact List.mem_singleton.2 rfl))) (ce_num hx2 (by omega))) rfl ?_
      refine d_takeG (i := 14) rfl (by kernel_rfl) (fun _ _ _ h => h) rfl rfl H (fun _ _ => r_eql rfl rfl) rfl ?_
      refine d_part (fun h68 => ?_) (fun h68 => ?_)
      ·skip
       have hcp := hR1.2.1
       have hins : OrdI (os1.take j ++ (⟨y.at_, z⟩ : FrL) :: os1.drop (j + 1)) ((ents (ys.take i) ++ (cs.take k).map (fun z => (y.at_, ceP z))) ++ [frP (⟨y.at_, z⟩ : FrL)]) := ordI_eq hO1 hlt hxj h68
       refine d_take (i := 15) rfl (by kernel_rfl) (fun _ _ _ h => h) H (fun _ _ => r_pickt rfl rfl) rfl ?_
       refine d_done (l' := [_,_,_,_,_,_,_,_,_,_,_,_,_,_,_,_,_,_,_,_,_,_,_,_,_,_,_,_,_,_,_,_,_,_,_,_,_,_,_,_,_,_,_,_,_,_,_,_,_,_,_,_,_,_,_,_,_,_,_,_,_,_,_,_,_,_,_,_,_,_,_,_,_,_,_,_,_,_,_,_,_,_,_,_,_,_,_,_,_,_,_,_]) (by kernel_rfl) rfl ?_
       refine x_thenNormal ?_
       refine c_ift rfl ?_
       refine c_region (n := 92) ⟨rfl, rfl⟩ ?_
       refine s_val (r_move rfl) ?_
       refine s_val (r_sliceL (lo := 1) Try.runUnderlying31 Try.sizeOf52 rfl rfl rfl (by omega)) ?_
       refine s_val (r_assign rfl) ?_
       refine c_nil (l' := [_,_,_,_,_,_,_,_,_,_,_,_,_,_,_,_,_,_,_,_,_,_,_,_,_,_,_,_,_,_,_,_,_,_,_,_,_,_,_,_,_,_,_,_,_,_,_,_,_,_,_,_,_,_,_,_,_,_,_,_,_,_,_,_,_,_,_,_,_,_,_,_,_,_,_,_,_,_,_,_,_,_,_,_,_,_,_,_,_,_,_,_]) rfl ?_
       refine d_beginS (fun W => W.heap[bc]? = some (Obj.cells (rowC ceC cs ++ spc).toArray 40 (0, 0)) ∧ St w0 [] W []) (sz := 92) ⟨rfl, rfl⟩ (by kernel_rfl) H (⟨H.own (bc, Obj.cells (rowC ceC cs ++ spc).toArray 40 (0, 0)) (by simp only [hNrE, List.mem_append, List.mem_cons, true_or, or_true]), H.sub (List.nil_sublist _)⟩) rfl ?_
       intro w H
       refine d_take (i := 1) rfl (by kernel_rfl) (fun _ _ _ h => h) (⟨H.own (bc, Obj.cells (rowC ceC cs ++ spc).toArray 40 (0, 0)) (by simp only [hNrE, List.mem_append, List.mem_cons, true_or, or_true]), H.sub (List.nil_sublist _)⟩) (fun _ _ => r_move rfl) rfl ?_
       refine d_take (i := 2) rfl (by kernel_rfl) (fun _ _ _ h => h) (⟨H.own (bc, Obj.cells (rowC ceC cs ++ spc).toArray 40 (0, 0)) (by simp only [hNrE, List.mem_append, List.mem_cons, true_or, or_true]), H.sub (List.nil_sublist _)⟩) (fun _ _ => r_move rfl) rfl ?_
       refine d_take (i := 3) rfl (by kernel_rfl) (fun _ _ _ h => h) (⟨H.own (bc, Obj.cells (rowC ceC cs ++ spc).toArray 40 (0, 0)) (by simp only [hNrE, List.mem_append, List.mem_cons, true_or, or_true]), H.sub (List.nil_sublist _)⟩) (fun _ _ => r_sliceH (hi := j) Try.runUnderlying31 Try.sizeOf52 rfl rfl rfl (by omega)) rfl ?_
       refine d_take (i := 5) rfl (by kernel_rfl) (fun _ _ _ h => h) (⟨H.own (bc, Obj.cells (rowC ceC cs ++ spc).toArray 40 (0, 0)) (by simp only [hNrE, List.mem_append, List.mem_cons, true_or, or_true]), H.sub (List.nil_sublist _)⟩) (fun _ _ => r_move rfl) rfl ?_
       refine d_take (i := 6) rfl (by kernel_rfl) (fun _ _ _ h => h) (⟨H.own (bc, Obj.cells (rowC ceC cs ++ spc).toArray 40 (0, 0)) (by simp only [hNrE, List.mem_append, List.mem_cons, true_or, or_true]), H.sub (List.nil_sublist _)⟩) (fun _ _ => r_move rfl) rfl ?_
       refine d_take (i := 7) rfl (by kernel_rfl) (fun _ _ _ h => h) (⟨H.own (bc, Obj.cells (rowC ceC cs ++ spc).toArray 40 (0, 0)) (by simp only [hNrE, List.mem_append, List.mem_cons, true_or, or_true]), H.sub (List.nil_sublist _)⟩) (fun _ _ => r_indexAddrS Try.runUnderlying33 Try.sizeOf60 rfl rfl (by omega) (by omega)) rfl ?_
       refine d_take (i := 8) rfl (by kernel_rfl) (fun _ _ _ h => h) (⟨H.own (bc, Obj.cells (rowC ceC cs ++ spc).toArray 40 (0, 0)) (by simp only [hNrE, List.mem_append, List.mem_cons, true_or, or_true]), H.sub (List.nil_sublist _)⟩) (fun _ _ => r_fieldAddr (k := 0) Try.runUnderlying60 rfl Try.sizeOf3 (by decide) rfl rfl) rfl ?_
       refine d_take (i := 9) rfl (by kernel_rfl) (fun _ _ _ h => h) (⟨H.own (bc, Obj.cells (rowC ceC cs ++ spc).toArray 40 (0, 0)) (by simp only [hNrE, List.mem_append, List.mem_cons, true_or, or_true]), H.sub (List.nil_sublist _)⟩) (fun _ HS => by obtain ⟨HSc, HS⟩ := HS; exact r_load1 Try.isAgg3 rfl (HS.rd0 hb0) (fb_at hp0 hx (by omega))) rfl ?_
       refine d_take (i := 10) rfl (by kernel_rfl) (fun _ _ _ h => h) (⟨H.own (bc, Obj.cells (rowC ceC cs ++ spc).toArray 40 (0, 0)) (by simp only [hNrE, List.mem_append, List.mem_cons, true_or, or_true]), H.sub (List.nil_sublist _)⟩) (fun _ _ => r_move rfl) rfl ?_
       refine d_take (i := 11) rfl (by kernel_rfl) (fun _ _ _ h => h) (⟨H.own (bc, Obj.cells (rowC ceC cs ++ spc).toArray 40 (0, 0)) (by simp only [hNrE, List.mem_append, List.mem_cons, true_or, or_true]), H.sub (List.nil_sublist _)⟩) (fun _ _ => r_move rfl) rfl ?_
       refine d_take (i := 12) rfl (by kernel_rfl) (fun _ _ _ h => h) (⟨H.own (bc, Obj.cells (rowC ceC cs ++ spc).toArray 40 (0, 0)) (by simp only [hNrE, List.mem_append, List.mem_cons, true_or, or_true]), H.sub (List.nil_sublist _)⟩) (fun _ _ => r_indexAddrS Try.runUnderlying53 Try.sizeOf40 rfl rfl (by omega) (by omega)) rfl ?_
       refine d_take (i := 13) rfl (by kernel_rfl) (fun _ _ _ h => h) (⟨H.own (bc, Obj.cells (rowC ceC cs ++ spc).toArray 40 (0, 0)) (by simp only [hNrE, List.mem_append, List.mem_cons, true_or, or_true]), H.sub (List.nil_sublist _)⟩) (fun _ HS => by obtain ⟨HSc, HS⟩ := HS; exact r_loadn Try.isAgg40 Try.sizeOf40 rfl (id HSc) (ce_all hx2 (by omega)) (ceC_length _)) rfl ?_
       refine d_take (i := 14) rfl (by kernel_rfl) (fun _ _ _ h => h) (⟨H.own (bc, Obj.cells (rowC ceC cs ++ spc).toArray 40 (0, 0)) (by simp only [hNrE, List.mem_append, List.mem_cons, true_or, or_true]), H.sub (List.nil_sublist _)⟩) (fun _ _ => r_buildS Try.runUnderlying52 Try.zeroValue52 places52 (pc rfl (pc rfl pn)) (rfl : fillL _ _ _ = some (frC (⟨y.at_, z⟩ : FrL)))) rfl ?_
       refine d_take (i := 17) rfl (by kernel_rfl) (fun _ _ _ h => h) (⟨H.own (bc, Obj.cells (rowC ceC cs ++ spc).toArray 40 (0, 0)) (by simp only [hNrE, List.mem_append, List.mem_cons, true_or, or_true]), H.sub (List.nil_sublist _)⟩) (fun _ _ => r_move rfl) rfl ?_
       refine d_all2 (i := 0) (j := 15) (by kernel_rfl) ?_ ?_
       ·skip
        refine b_new rfl go_none (m_bslice0 H Try.runUnderlying31 Try.sizeOf52) rfl (fun _ _ H => (⟨H.own (bc, Obj.cells (rowC ceC cs ++ spc).toArray 40 (0, 0)) (by simp only [hNrE, List.mem_append, List.mem_cons, true_or, or_true]), H.sub (List.nil_sublist _)⟩)) ?_
        intro w b72 H
        refine d_all2 (i := 4) (j := 15) (by kernel_rfl) ?_ ?_
        ·skip
         refine b_any rfl go_none (m_append_lit H Try.runUnderlying31 Try.runUnderlying31 (fun _ h => nomatch h) Try.sizeOf52 Try.zeroValue52 rfl Try.typeInfo52 (by rw [bytes52]; omega) (by rw [bytes52]; omega) (ec rfl (ec rfl en)) (row_take_src elFr (hR1.rrowM (fun h => h) H (fun p hp => (List.mem_cons_of_mem _ (List.mem_append_left _ hp)))) hj _)) rfl (by rintro v w ⟨a6, c6, N6, rfl, hN6, H⟩; exact (⟨H.own (bc, Obj.cells (rowC ceC cs ++ spc).toArray 40 (0, 0)) (by simp only [hNrE, List.mem_append, List.mem_cons, true_or, or_true]), H.sub (List.nil_sublist _)⟩)) ?_
         rintro v w ⟨a6, c6, N6, rfl, hN6, H⟩
         replace H := H.perm (List.perm_append_comm (l₂ := N6))
         refine d_all1 (i := 15) (by kernel_rfl) ?_
         refine b_new rfl go_none (m_bslice1 (vs := frC (⟨y.at_, z⟩ : FrL)) H Try.runUnderlying31 Try.sizeOf52 Try.zeroValue52 (by omega) (by omega) rfl rfl rfl) rfl (fun _ _ H => (⟨H.own (bc, Obj.cells (rowC ceC cs ++ spc).toArray 40 (0, 0)) (by simp only [hNrE, List.mem_append, List.mem_cons, true_or, or_true]), H.sub (List.nil_sublist _)⟩)) ?_
         intro w b87 H
         refine d_all1 (i := 16) (by kernel_rfl) ?_
         refine b_any rfl go_none (m_append_row0 (L1 := _ :: (N1 ++ Nr)) (N := N6) H hN6 Try.runUnderlying31 Try.runUnderlying31 (fun _ h => nomatch h) Try.sizeOf52 Try.zeroValue52 rfl Try.typeInfo52 (by rw [bytes52]; omega) (by rw [bytes52]; omega) (ec rfl (ec rfl en)) (Src.slice (vs := frC (⟨y.at_, z⟩ : FrL)) (H.at 0 rfl) rfl rfl (frC_one _))) rfl (by rintro v w ⟨a7, c7, N7, rfl, hN7, H⟩; exact (⟨H.own (bc, Obj.cells (rowC ceC cs ++ spc).toArray 40 (0, 0)) (by simp only [hNrE, List.mem_append, List.mem_cons, true_or, or_true]), H.sub (List.nil_sublist _)⟩)) ?_
         rintro v w ⟨a7, c7, N7, rfl, hN7, H⟩
         skip
         refine d_all1 (i := 18) (by kernel_rfl) ?_
         refine b_any rfl go_none (m_append_row0 (L1 := _ :: (N1 ++ Nr)) (N := N7) (m := os1.length - j - 1) (vs := rowC frC (os1.drop (j + 1))) H hN7 Try.runUnderlying31 Try.runUnderlying31 (fun _ h => nomatch h) Try.sizeOf52 Try.zeroValue52 rfl Try.typeInfo52 (by rw [bytes52]; omega) (by rw [bytes52]; omega) (ec rfl (ec rfl en)) (by rw [← hca]; exact row_drop2_src elFr (hR1.rrowM (fun h => h) H (fun p hp => List.mem_append_left _ (List.mem_cons_of_mem _ (List.mem_append_left _ hp)))) hcp j _)) rfl (by rintro v w ⟨a8, c8, N8, rfl, hN8, H⟩; exact (⟨H.own (bc, Obj.cells (rowC ceC cs ++ spc).toArray 40 (0, 0)) (by simp only [hNrE, List.mem_append, List.mem_cons, true_or, or_true]), H.sub (List.nil_sublist _)⟩)) ?_
         rintro v w ⟨a8, c8, N8, rfl, hN8, H⟩
         obtain ⟨os2, hy2⟩ : ∃ o, o = os1.take j ++ (⟨y.at_, z⟩ : FrL) :: os1.drop (j + 1) := ⟨_, rfl⟩
         have hll : os2.length = j + 1 + (os1.length - j - 1) := by rw [hy2, List.length_append, List.length_cons, List.length_take, List.length_drop]; omega
         rw [← hll] at hN8 ⊢
         have hN9 : RowN 12 52 (rowC frC os2) os2.length a8 c8 N8 := by
          have e : rowC frC os2 = (rowC frC (os1.take j) ++ frC (⟨y.at_, z⟩ : FrL)) ++ rowC frC (os1.drop (j + 1)) := by rw [hy2]; simp [rowC]
          rw [e]; exact hN8
         have hO3 : OrdI os2 (ents (ys.take i) ++ (cs.take (k + 1)).map (fun z => (y.at_, ceP z))) := by
          rw [List.take_add_one, hx2, List.map_append, ← List.append_assoc, hy2]; exact hins
         have hB3 : ∀ q ∈ os2, BRow w0 q.c.body.a q.c.body.b := by
          intro q hq
          rw [hy2] at hq
          rcases ins_mem hq with rfl | h
          ·exact hCB z hzm
          ·exact hB1 q h
         refine d_take (i := 19) rfl (by kernel_rfl) (fun _ _ _ h => h) (⟨H.own (bc, Obj.cells (rowC ceC cs ++ spc).toArray 40 (0, 0)) (by simp only [hNrE, List.mem_append, List.mem_cons, true_or, or_true]), H.sub (List.nil_sublist _)⟩) (fun _ _ => r_assign rfl) rfl ?_
         refine d_done (l' := [_,_,_,_,_,_,_,_,_,_,_,_,_,_,_,_,_,_,_,_,_,_,_,_,_,_,_,_,_,_,_,_,_,_,_,_,_,_,_,_,_,_,_,_,_,_,_,_,_,_,_,_,_,_,_,_,_,_,_,_,_,_,_,_,_,_,_,_,_,_,_,_,_,_,_,_,_,_,_,_,_,_,_,_,_,_,_,_,_,_,_,_]) (by kernel_rfl) rfl ?_
         refine x_blockNormal ?_
         refine x_thenNormal ?_
         refine c_region (n := 92) ⟨rfl, rfl⟩ ?_
         refine s_val (r_move rfl) ?_
         refine s_val (r_add rfl rfl (w_i64 (by omega) (by omega))) ?_
         refine s_val (r_assign rfl) ?_
         refine c_nil0 (l' := [_,_,_,_,_,_,_,_,_,_,_,_,_,_,_,_,_,_,_,_,_,_,_,_,_,_,_,_,_,_,_,_,_,_,_,_,_,_,_,_,_,_,_,_,_,_,_,_,_,_,_,_,_,_,_,_,_,_,_,_,_,_,_,_,_,_,_,_,_,_,_,_,_,_,_,_,_,_,_,_,_,_,_,_,_,_,_,_,_,_,_,_]) rfl ?_
         exact ⟨k + 1, _, rfl, ⟨_,_,_,_,_,_,_,_,_,_,_,_,_,_,_,_,_,_,_,_,_,_,_,_,_,_,_,_,_,_,_,_,_,_,_,_,_,_,_,_,_,_,_,_,_,_,_,_,_,_,_,_,_,_,_,_,_,_,_,_,_,_,_,_,_,_,_,_, os2, a8, c8, N8, rfl, by omega, hO3, hN9, hB3, ((H.sub (((List.sublist_append_right N1 Nr).cons _).append (List.Sublist.refl N8))).perm List.perm_append_comm)⟩, by omega⟩
        ·skip
         refine b_new rfl go_none (m_bslice1 (vs := frC (⟨y.at_, z⟩ : FrL)) H Try.runUnderlying31 Try.sizeOf52 Try.zeroValue52 (by omega) (by omega) rfl rfl rfl) rfl (fun _ _ H => (⟨H.own (bc, Obj.cells (rowC ceC cs ++ spc).toArray 40 (0, 0)) (by simp only [hNrE, List.mem_append, List.mem_cons, true_or, or_true]), H.sub (List.nil_sublist _)⟩)) ?_
         intro w b87 H
         refine d_all1 (i := 4) (by kernel_rfl) ?_
         refine b_any rfl go_none (m_append_lit (H.swp 0 (L' := _ :: _ :: _) rfl) Try.runUnderlying31 Try.runUnderlying31 (fun _ h => nomatch h) Try.sizeOf52 Try.zeroValue52 rfl Try.typeInfo52 (by rw [bytes52]; omega) (by rw [bytes52]; omega) (ec rfl (ec rfl en)) (row_take_src elFr (hR1.rrowM (fun h => h) H (fun p hp => (List.mem_cons_of_mem _ (List.mem_cons_of_mem _ (List.mem_append_left _ hp))))) hj _)) rfl (by rintro v w ⟨a6, c6, N6, rfl, hN6, H⟩; exact (⟨H.own (bc, Obj.cells (rowC ceC cs ++ spc).toArray 40 (0, 0)) (by simp only [hNrE, List.mem_append, List.mem_cons, true_or, or_true]), H.sub (List.nil_sublist _)⟩)) ?_
         rintro v w ⟨a6, c6, N6, rfl, hN6, H⟩
         replace H := H.perm (List.perm_append_comm (l₂ := N6))
         refine d_all1 (i := 16) (by kernel_rfl) ?_
         refine b_any rfl go_none (m_append_row0 (L1 := _ :: (N1 ++ Nr)) (N := N6) H hN6 Try.runUnderlying31 Try.runUnderlying31 (fun _ h => nomatch h) Try.sizeOf52 Try.zeroValue52 rfl Try.typeInfo52 (by rw [bytes52]; omega) (by rw [bytes52]; omega) (ec rfl (ec rfl en)) (Src.slice (vs := frC (⟨y.at_, z⟩ : FrL)) (H.at 0 rfl) rfl rfl (frC_one _))) rfl (by rintro v w ⟨a7, c7, N7, rfl, hN7, H⟩; exact (⟨H.own (bc, Obj.cells (rowC ceC cs ++ spc).toArray 40 (0, 0)) (by simp only [hNrE, List.mem_append, List.mem_cons, true_or, or_true]), H.sub (List.nil_sublist _)⟩)) ?_
         rintro v w ⟨a7, c7, N7, rfl, hN7, H⟩
         skip
         refine d_all1 (i := 18) (by kernel_rfl) ?_
         refine b_any rfl go_none (m_append_row0 (L1 := _ :: (N1 ++ Nr)) (N := N7) (m := os1.length - j - 1) (vs := rowC frC (os1.drop (j + 1))) H hN7 Try.runUnderlying31 Try.runUnderlying31 (fun _ h => nomatch h) Try.sizeOf52 Try.zeroValue52 rfl Try.typeInfo52 (by rw [bytes52]; omega) (by rw [bytes52]; omega) (ec rfl (ec rfl en)) (by rw [← hca]; exact row_drop2_src elFr (hR1.rrowM (fun h => h) H (fun p hp => List.mem_append_left _ (List.mem_cons_of_mem _ (List.mem_append_left _ hp)))) hcp j _)) rfl (by rintro v w ⟨a8, c8, N8, rfl, hN8, H⟩; exact (⟨H.own (bc, Obj.cells (rowC ceC cs ++ spc).toArray 40 (0, 0)) (by simp only [hNrE, List.mem_append, List.mem_cons, true_or, or_true]), H.sub (List.nil_sublist _)⟩)) ?_
         rintro v w ⟨a8, c8, N8, rfl, hN8, H⟩
         obtain ⟨os2, hy2⟩ : ∃ o, o = os1.take j ++ (⟨y.at_, z⟩ : FrL) :: os1.drop (j + 1) := ⟨_, rfl⟩
         have hll : os2.length = j + 1 + (os1.length - j - 1) := by rw [hy2, List.length_append, List.length_cons, List.length_take, List.length_drop]; omega
         rw [← hll] at hN8 ⊢
         have hN9 : RowN 12 52 (rowC frC os2) os2.length a8 c8 N8 := by
          have e : rowC frC os2 = (rowC frC (os1.take j) ++ frC (⟨y.at_, z⟩ : FrL)) ++ rowC frC (os1.drop (j + 1)) := by rw [hy2]; simp [rowC]
          rw [e]; exact hN8
         have hO3 : OrdI os2 (ents (ys.take i) ++ (cs.take (k + 1)).map (fun z => (y.at_, ceP z))) := by
          rw [List.take_add_one, hx2, List.map_append, ← List.append_assoc, hy2]; exact hins
         have hB3 : ∀ q ∈ os2, BRow w0 q.c.body.a q.c.body.b := by
          intro q hq
          rw [hy2] at hq
          rcases ins_mem hq with rfl | h
          ·exact hCB z hzm
          ·exact hB1 q h
         refine d_take (i := 19) rfl (by kernel_rfl) (fun _ _ _ h => h) (⟨H.own (bc, Obj.cells (rowC ceC cs ++ spc).toArray 40 (0, 0)) (by simp only [hNrE, List.mem_append, List.mem_cons, true_or, or_true]), H.sub (List.nil_sublist _)⟩) (fun _ _ => r_assign rfl) rfl ?_
         refine d_done (l' := [_,_,_,_,_,_,_,_,_,_,_,_,_,_,_,_,_,_,_,_,_,_,_,_,_,_,_,_,_,_,_,_,_,_,_,_,_,_,_,_,_,_,_,_,_,_,_,_,_,_,_,_,_,_,_,_,_,_,_,_,_,_,_,_,_,_,_,_,_,_,_,_,_,_,_,_,_,_,_,_,_,_,_,_,_,_,_,_,_,_,_,_]) (by kernel_rfl) rfl ?_
         refine x_blockNormal ?_
         refine x_thenNormal ?_
         refine c_region (n := 92) ⟨rfl, rfl⟩ ?_
         refine s_val (r_move rfl) ?_
         refine s_val (r_add rfl rfl (w_i64 (by omega) (by omega))) ?_
         refine s_val (r_assign rfl) ?_
         refine c_nil0 (l' := [_,_,_,_,_,_,_,_,_,_,_,_,_,_,_,_,_,_,_,_,_,_,_,_,_,_,_,_,_,_,_,_,_,_,_,_,_,_,_,_,_,_,_,_,_,_,_,_,_,_,_,_,_,_,_,_,_,_,_,_,_,_,_,_,_,_,_,_,_,_,_,_,_,_,_,_,_,_,_,_,_,_,_,_,_,_,_,_,_,_,_,_]) rfl ?_
         exact ⟨k + 1, _, rfl, ⟨_,_,_,_,_,_,_,_,_,_,_,_,_,_,_,_,_,_,_,_,_,_,_,_,_,_,_,_,_,_,_,_,_,_,_,_,_,_,_,_,_,_,_,_,_,_,_,_,_,_,_,_,_,_,_,_,_,_,_,_,_,_,_,_,_,_,_,_, os2, a8, c8, N8, rfl, by omega, hO3, hN9, hB3, ((H.sub (((List.sublist_append_right N1 Nr).cons _).append (List.Sublist.refl N8))).perm List.perm_append_comm)⟩, by omega⟩
       ·skip
        refine b_new rfl go_none (m_bslice1 (vs := frC (⟨y.at_, z⟩ : FrL)) H Try.runUnderlying31 Try.sizeOf52 Try.zeroValue52 (by omega) (by omega) rfl rfl rfl) rfl (fun _ _ H => (⟨H.own (bc, Obj.cells (rowC ceC cs ++ spc).toArray 40 (0, 0)) (by simp only [hNrE, List.mem_append, List.mem_cons, true_or, or_true]), H.sub (List.nil_sublist _)⟩)) ?_
        intro w b87 H
        refine d_all1 (i := 0) (by kernel_rfl) ?_
        refine b_new rfl go_none (m_bslice0 H Try.runUnderlying31 Try.sizeOf52) rfl (fun _ _ H => (⟨H.own (bc, Obj.cells (rowC ceC cs ++ spc).toArray 40 (0, 0)) (by simp only [hNrE, List.mem_append, List.mem_cons, true_or, or_true]), H.sub (List.nil_sublist _)⟩)) ?_
        intro w b72 H
        refine d_all1 (i := 4) (by kernel_rfl) ?_
        refine b_any rfl go_none (m_append_lit H Try.runUnderlying31 Try.runUnderlying31 (fun _ h => nomatch h) Try.sizeOf52 Try.zeroValue52 rfl Try.typeInfo52 (by rw [bytes52]; omega) (by rw [bytes52]; omega) (ec rfl (ec rfl en)) (row_take_src elFr (hR1.rrowM (fun h => h) H (fun p hp => (List.mem_cons_of_mem _ (List.mem_cons_of_mem _ (List.mem_append_left _ hp))))) hj _)) rfl (by rintro v w ⟨a6, c6, N6, rfl, hN6, H⟩; exact (⟨H.own (bc, Obj.cells (rowC ceC cs ++ spc).toArray 40 (0, 0)) (by simp only [hNrE, List.mem_append, List.mem_cons, true_or, or_true]), H.sub (List.nil_sublist _)⟩)) ?_
        rintro v w ⟨a6, c6, N6, rfl, hN6, H⟩
        replace H := H.perm (List.perm_append_comm (l₂ := N6))
        refine d_all1 (i := 16) (by kernel_rfl) ?_
        refine b_any rfl go_none (m_append_row0 (L1 := _ :: (N1 ++ Nr)) (N := N6) H hN6 Try.runUnderlying31 Try.runUnderlying31 (fun _ h => nomatch h) Try.sizeOf52 Try.zeroValue52 rfl Try.typeInfo52 (by rw [bytes52]; omega) (by rw [bytes52]; omega) (ec rfl (ec rfl en)) (Src.slice (vs := frC (⟨y.at_, z⟩ : FrL)) (H.at 0 rfl) rfl rfl (frC_one _))) rfl (by rintro v w ⟨a7, c7, N7, rfl, hN7, H⟩; exact (⟨H.own (bc, Obj.cells (rowC ceC cs ++ spc).toArray 40 (0, 0)) (by simp only [hNrE, List.mem_append, List.mem_cons, true_or, or_true]), H.sub (List.nil_sublist _)⟩)) ?_
        rintro v w ⟨a7, c7, N7, rfl, hN7, H⟩
        skip
        refine d_all1 (i := 18) (by kernel_rfl) ?_
        refine b_any rfl go_none (m_append_row0 (L1 := _ :: (N1 ++ Nr)) (N := N7) (m := os1.length - j - 1) (vs := rowC frC (os1.drop (j + 1))) H hN7 Try.runUnderlying31 Try.runUnderlying31 (fun _ h => nomatch h) Try.sizeOf52 Try.zeroValue52 rfl Try.typeInfo52 (by rw [bytes52]; omega) (by rw [bytes52]; omega) (ec rfl (ec rfl en)) (by rw [← hca]; exact row_drop2_src elFr (hR1.rrowM (fun h => h) H (fun p hp => List.mem_append_left _ (List.mem_cons_of_mem _ (List.mem_append_left _ hp)))) hcp j _)) rfl (by rintro v w ⟨a8, c8, N8, rfl, hN8, H⟩; exact (⟨H.own (bc, Obj.cells (rowC ceC cs ++ spc).toArray 40 (0, 0)) (by simp only [hNrE, List.mem_append, List.mem_cons, true_or, or_true]), H.sub (List.nil_sublist _)⟩)) ?_
        rintro v w ⟨a8, c8, N8, rfl, hN8, H⟩
        obtain ⟨os2, hy2⟩ : ∃ o, o = os1.take j ++ (⟨y.at_, z⟩ : FrL) :: os1.drop (j + 1) := ⟨_, rfl⟩
        have hll : os2.length = j + 1 + (os1.length - j - 1) := by rw [hy2, List.length_append, List.length_cons, List.length_take, List.length_drop]; omega
        rw [← hll] at hN8 ⊢
        have hN9 : RowN 12 52 (rowC frC os2) os2.length a8 c8 N8 := by
         have e : rowC frC os2 = (rowC frC (os1.take j) ++ frC (⟨y.at_, z⟩ : FrL)) ++ rowC frC (os1.drop (j + 1)) := by rw [hy2]; simp [rowC]
         rw [e]; exact hN8
        have hO3 : OrdI os2 (ents (ys.take i) ++ (cs.take (k + 1)).map (fun z => (y.at_, ceP z))) := by
         rw [List.take_add_one, hx2, List.map_append, ← List.append_assoc, hy2]; exact hins
        have hB3 : ∀ q ∈ os2, BRow w0 q.c.body.a q.c.body.b := by
         intro q hq
         rw [hy2] at hq
         rcases ins_mem hq with rfl | h
         ·exact hCB z hzm
         ·exact hB1 q h
        refine d_take (i := 19) rfl (by kernel_rfl) (fun _ _ _ h => h) (⟨H.own (bc, Obj.cells (rowC ceC cs ++ spc).toArray 40 (0, 0)) (by simp only [hNrE, List.mem_append, List.mem_cons, true_or, or_true]), H.sub (List.nil_sublist _)⟩) (fun _ _ => r_assign rfl) rfl ?_
        refine d_done (l' := [_,_,_,_,_,_,_,_,_,_,_,_,_,_,_,_,_,_,_,_,_,_,_,_,_,_,_,_,_,_,_,_,_,_,_,_,_,_,_,_,_,_,_,_,_,_,_,_,_,_,_,_,_,_,_,_,_,_,_,_,_,_,_,_,_,_,_,_,_,_,_,_,_,_,_,_,_,_,_,_,_,_,_,_,_,_,_,_,_,_,_,_]) (by kernel_rfl) rfl ?_
        refine x_blockNormal ?_
        refine x_thenNormal ?_
        refine c_region (n := 92) ⟨rfl, rfl⟩ ?_
        refine s_val (r_move rfl) ?_
        refine s_val (r_add rfl rfl (w_i64 (by omega) (by omega))) ?_
        refine s_val (r_assign rfl) ?_
        refine c_nil0 (l' := [_,_,_,_,_,_,_,_,_,_,_,_,_,_,_,_,_,_,_,_,_,_,_,_,_,_,_,_,_,_,_,_,_,_,_,_,_,_,_,_,_,_,_,_,_,_,_,_,_,_,_,_,_,_,_,_,_,_,_,_,_,_,_,_,_,_,_,_,_,_,_,_,_,_,_,_,_,_,_,_,_,_,_,_,_,_,_,_,_,_,_,_]) rfl ?_
        exact ⟨k + 1, _, rfl, ⟨_,_,_,_,_,_,_,_,_,_,_,_,_,_,_,_,_,_,_,_,_,_,_,_,_,_,_,_,_,_,_,_,_,_,_,_,_,_,_,_,_,_,_,_,_,_,_,_,_,_,_,_,_,_,_,_,_,_,_,_,_,_,_,_,_,_,_,_, os2, a8, c8, N8, rfl, by omega, hO3, hN9, hB3, ((H.sub (((List.sublist_append_right N1 Nr).cons _).append (List.Sublist.refl N8))).perm List.perm_append_comm)⟩, by omega⟩
      ·skip
       have hcp := hR1.2.1
       have hins : OrdI (os1.take j ++ (⟨y.at_, z⟩ : FrL) :: os1.drop j) ((ents (ys.take i) ++ (cs.take k).map (fun z => (y.at_, ceP z))) ++ [frP (⟨y.at_, z⟩ : FrL)]) := ordI_at hO1 hlt (fun q hq => by rw [hxj] at hq; injection hq with hq; subst hq; show z.num < x.c.num; omega)
       refine d_take (i := 15) rfl (by kernel_rfl) (fun _ _ _ h => h) H (fun _ _ => r_pickt rfl rfl) rfl ?_
       refine d_done (l' := [_,_,_,_,_,_,_,_,_,_,_,_,_,_,_,_,_,_,_,_,_,_,_,_,_,_,_,_,_,_,_,_,_,_,_,_,_,_,_,_,_,_,_,_,_,_,_,_,_,_,_,_,_,_,_,_,_,_,_,_,_,_,_,_,_,_,_,_,_,_,_,_,_,_,_,_,_,_,_,_,_,_,_,_,_,_,_,_,_,_,_,_]) (by kernel_rfl) rfl ?_
       refine x_thenNormal ?_
       refine c_iff rfl ?_
       refine wp_skip ?_
       refine x_thenNormal ?_
       refine d_beginS (fun W => W.heap[bc]? = some (Obj.cells (rowC ceC cs ++ spc).toArray 40 (0, 0)) ∧ St w0 [] W []) (sz := 92) ⟨rfl, rfl⟩ (by kernel_rfl) H (⟨H.own (bc, Obj.cells (rowC ceC cs ++ spc).toArray 40 (0, 0)) (by simp only [hNrE, List.mem_append, List.mem_cons, true_or, or_true]), H.sub (List.nil_sublist _)⟩) rfl ?_
       intro w H
       refine d_take (i := 1) rfl (by kernel_rfl) (fun _ _ _ h => h) (⟨H.own (bc, Obj.cells (rowC ceC cs ++ spc).toArray 40 (0, 0)) (by simp only [hNrE, List.mem_append, List.mem_cons, true_or, or_true]), H.sub (List.nil_sublist _)⟩) (fun _ _ => r_move rfl) rfl ?_
       refine d_take (i := 2) rfl (by kernel_rfl) (fun _ _ _ h => h) (⟨H.own (bc, Obj.cells (rowC ceC cs ++ spc).toArray 40 (0, 0)) (by simp only [hNrE, List.mem_append, List.mem_cons, true_or, or_true]), H.sub (List.nil_sublist _)⟩) (fun _ _ => r_move rfl) rfl ?_
       refine d_take (i := 3) rfl (by kernel_rfl) (fun _ _ _ h => h) (⟨H.own (bc, Obj.cells (rowC ceC cs ++ spc).toArray 40 (0, 0)) (by simp only [hNrE, List.mem_append, List.mem_cons, true_or, or_true]), H.sub (List.nil_sublist _)⟩) (fun _ _ => r_sliceH (hi := j) Try.runUnderlying31 Try.sizeOf52 rfl rfl rfl (by omega)) rfl ?_
       refine d_take (i := 5) rfl (by kernel_rfl) (fun _ _ _ h => h) (⟨H.own (bc, Obj.cells (rowC ceC cs ++ spc).toArray 40 (0, 0)) (by simp only [hNrE, List.mem_append, List.mem_cons, true_or, or_true]), H.sub (List.nil_sublist _)⟩) (fun _ _ => r_move rfl) rfl ?_
       refine d_take (i := 6) rfl (by kernel_rfl) (fun _ _ _ h => h) (⟨H.own (bc, Obj.cells (rowC ceC cs ++ spc).toArray 40 (0, 0)) (by simp only [hNrE, List.mem_append, List.mem_cons, true_or, or_true]), H.sub (List.nil_sublist _)⟩) (fun _ _ => r_move rfl) rfl ?_
       refine d_take (i := 7) rfl (by kernel_rfl) (fun _ _ _ h => h) (⟨H.own (bc, Obj.cells (rowC ceC cs ++ spc).toArray 40 (0, 0)) (by simp only [hNrE, List.mem_append, List.mem_cons, true_or, or_true]), H.sub (List.nil_sublist _)⟩) (fun _ _ => r_indexAddrS Try.runUnderlying33 Try.sizeOf60 rfl rfl (by omega) (by omega)) rfl ?_
       refine d_take (i := 8) rfl (by kernel_rfl) (fun _ _ _ h => h) (⟨H.own (bc, Obj.cells (rowC ceC cs ++ spc).toArray 40 (0, 0)) (by simp only [hNrE, List.mem_append, List.mem_cons, true_or, or_true]), H.sub (List.nil_sublist _)⟩) (fun _ _ => r_fieldAddr (k := 0) Try.runUnderlying60 rfl Try.sizeOf3 (by decide) rfl rfl) rfl ?_
       refine d_take (i := 9) rfl (by kernel_rfl) (fun _ _ _ h => h) (⟨H.own (bc, Obj.cells (rowC ceC cs ++ spc).toArray 40 (0, 0)) (by simp only [hNrE, List.mem_append, List.mem_cons, true_or, or_true]), H.sub (List.nil_sublist _)⟩) (fun _ HS => by obtain ⟨HSc, HS⟩ := HS; exact r_load1 Try.isAgg3 rfl (HS.rd0 hb0) (fb_at hp0 hx (by omega))) rfl ?_
       refine d_take (i := 10) rfl (by kernel_rfl) (fun _ _ _ h => h) (⟨H.own (bc, Obj.cells (rowC ceC cs ++ spc).toArray 40 (0, 0)) (by simp only [hNrE, List.mem_append, List.mem_cons, true_or, or_true]), H.sub (List.nil_sublist _)⟩) (fun _ _ => r_move rfl) rfl ?_
       refine d_take (i := 11) rfl (by kernel_rfl) (fun _ _ _ h => h) (⟨H.own (bc, Obj.cells (rowC ceC cs ++ spc).toArray 40 (0, 0)) (by simp only [hNrE, List.mem_append, List.mem_cons, true_or, or_true]), H.sub (List.nil_sublist _)⟩) (fun _ _ => r_move rfl) rfl ?_
       refine d_take (i := 12) rfl (by kernel_rfl) (fun _ _ _ h => h) (⟨H.own (bc, Obj.cells (rowC ceC cs ++ spc).toArray 40 (0, 0)) (by simp only [hNrE, List.mem_append, List.mem_cons, true_or, or_true]), H.sub (List.nil_sublist _)⟩) (fun _ _ => r_indexAddrS Try.runUnderlying53 Try.sizeOf40 rfl rfl (by omega) (by omega)) rfl ?_
       refine d_take (i := 13) rfl (by kernel_rfl) (fun _ _ _ h => h) (⟨H.own (bc, Obj.cells (rowC ceC cs ++ spc).toArray 40 (0, 0)) (by simp only [hNrE, List.mem_append, List.mem_cons, true_or, or_true]), H.sub (List.nil_sublist _)⟩) (fun _ HS => by obtain ⟨HSc, HS⟩ := HS; exact r_loadn Try.isAgg40 Try.sizeOf40 rfl (id HSc) (ce_all hx2 (by omega)) (ceC_length _)) rfl ?_
       refine d_take (i := 14) rfl (by kernel_rfl) (fun _ _ _ h => h) (⟨H.own (bc, Obj.cells (rowC ceC cs ++ spc).toArray 40 (0, 0)) (by simp only [hNrE, List.mem_append, List.mem_cons, true_or, or_true]), H.sub (List.nil_sublist _)⟩) (fun _ _ => r_buildS Try.runUnderlying52 Try.zeroValue52 places52 (pc rfl (pc rfl pn)) (rfl : fillL _ _ _ = some (frC (⟨y.at_, z⟩ : FrL)))) rfl ?_
       refine d_take (i := 17) rfl (by kernel_rfl) (fun _ _ _ h => h) (⟨H.own (bc, Obj.cells (rowC ceC cs ++ spc).toArray 40 (0, 0)) (by simp only [hNrE, List.mem_append, List.mem_cons, true_or, or_true]), H.sub (List.nil_sublist _)⟩) (fun _ _ => r_move rfl) rfl ?_
       refine d_all2 (i := 0) (j := 15) (by kernel_rfl) ?_ ?_
       ·skip
        refine b_new rfl go_none (m_bslice0 H Try.runUnderlying31 Try.sizeOf52) rfl (fun _ _ H => (⟨H.own (bc, Obj.cells (rowC ceC cs ++ spc).toArray 40 (0, 0)) (by simp only [hNrE, List.mem_append, List.mem_cons, true_or, or_true]), H.sub (List.nil_sublist _)⟩)) ?_
        intro w b72 H
        refine d_all2 (i := 4) (j := 15) (by kernel_rfl) ?_ ?_
        ·skip
         refine b_any rfl go_none (m_append_lit H Try.runUnderlying31 Try.runUnderlying31 (fun _ h => nomatch h) Try.sizeOf52 Try.zeroValue52 rfl Try.typeInfo52 (by rw [bytes52]; omega) (by rw [bytes52]; omega) (ec rfl (ec rfl en)) (row_take_src elFr (hR1.rrowM (fun h => h) H (fun p hp => (List.mem_cons_of_mem _ (List.mem_append_left _ hp)))) hj _)) rfl (by rintro v w ⟨a6, c6, N6, rfl, hN6, H⟩; exact (⟨H.own (bc, Obj.cells (rowC ceC cs ++ spc).toArray 40 (0, 0)) (by simp only [hNrE, List.mem_append, List.mem_cons, true_or, or_true]), H.sub (List.nil_sublist _)⟩)) ?_
         rintro v w ⟨a6, c6, N6, rfl, hN6, H⟩
         replace H := H.perm (List.perm_append_comm (l₂ := N6))
         refine d_all1 (i := 15) (by kernel_rfl) ?_
         refine b_new rfl go_none (m_bslice1 (vs := frC (⟨y.at_, z⟩ : FrL)) H Try.runUnderlying31 Try.sizeOf52 Try.zeroValue52 (by omega) (by omega) rfl rfl rfl) rfl (fun _ _ H => (⟨H.own (bc, Obj.cells (rowC ceC cs ++ spc).toArray 40 (0, 0)) (by simp only [hNrE, List.mem_append, List.mem_cons, true_or, or_true]), H.sub (List.nil_sublist _)⟩)) ?_
         intro w b87 H
         refine d_all1 (i := 16) (by kernel_rfl) ?_
         refine b_any rfl go_none (m_append_row0 (L1 := _ :: (N1 ++ Nr)) (N := N6) H hN6 Try.runUnderlying31 Try.runUnderlying31 (fun _ h => nomatch h) Try.sizeOf52 Try.zeroValue52 rfl Try.typeInfo52 (by rw [bytes52]; omega) (by rw [bytes52]; omega) (ec rfl (ec rfl en)) (Src.slice (vs := frC (⟨y.at_, z⟩ : FrL)) (H.at 0 rfl) rfl rfl (frC_one _))) rfl (by rintro v w ⟨a7, c7, N7, rfl, hN7, H⟩; exact (⟨H.own (bc, Obj.cells (rowC ceC cs ++ spc).toArray 40 (0, 0)) (by simp only [hNrE, List.mem_append, List.mem_cons, true_or, or_true]), H.sub (List.nil_sublist _)⟩)) ?_
         rintro v w ⟨a7, c7, N7, rfl, hN7, H⟩
         skip
         refine d_all1 (i := 18) (by kernel_rfl) ?_
         refine b_any rfl go_none (m_append_row0 (L1 := _ :: (N1 ++ Nr)) (N := N7) (m := os1.length - j) (vs := rowC frC (os1.drop j)) H hN7 Try.runUnderlying31 Try.runUnderlying31 (fun _ h => nomatch h) Try.sizeOf52 Try.zeroValue52 rfl Try.typeInfo52 (by rw [bytes52]; omega) (by rw [bytes52]; omega) (ec rfl (ec rfl en)) (by rw [← hca]; exact row_drop_src elFr (hR1.rrowM (fun h => h) H (fun p hp => List.mem_append_left _ (List.mem_cons_of_mem _ (List.mem_append_left _ hp)))) hcp j _)) rfl (by rintro v w ⟨a8, c8, N8, rfl, hN8, H⟩; exact (⟨H.own (bc, Obj.cells (rowC ceC cs ++ spc).toArray 40 (0, 0)) (by simp only [hNrE, List.mem_append, List.mem_cons, true_or, or_true]), H.sub (List.nil_sublist _)⟩)) ?_
         rintro v w ⟨a8, c8, N8, rfl, hN8, H⟩
         obtain ⟨os2, hy2⟩ : ∃ o, o = os1.take j ++ (⟨y.at_, z⟩ : FrL) :: os1.drop j := ⟨_, rfl⟩
         have hll : os2.length = j + 1 + (os1.length - j) := by rw [hy2, List.length_append, List.length_cons, List.length_take, List.length_drop]; omega
         rw [← hll] at hN8 ⊢
         have hN9 : RowN 12 52 (rowC frC os2) os2.length a8 c8 N8 := by
          have e : rowC frC os2 = (rowC frC (os1.take j) ++ frC (⟨y.at_, z⟩ : FrL)) ++ rowC frC (os1.drop j) := by rw [hy2]; simp [rowC]
          rw [e]; exact hN8
         have hO3 : OrdI os2 (ents (ys.take i) ++ (cs.take (k + 1)).map (fun z => (y.at_, ceP z))) := by
          rw [List.take_add_one, hx2, List.map_append, ← List.append_assoc, hy2]; exact hins
         have hB3 : ∀ q ∈ os2, BRow w0 q.c.body.a q.c.body.b := by
          intro q hq
          rw [hy2] at hq
          rcases ins_mem hq with rfl | h
          ·exact hCB z hzm
          ·exact hB1 q h
         refine d_take (i := 19) rfl (by kernel_rfl) (fun _ _ _ h => h) (⟨H.own (bc, Obj.cells (rowC ceC cs ++ spc).toArray 40 (0, 0)) (by simp only [hNrE, List.mem_append, List.mem_cons, true_or, or_true]), H.sub (List.nil_sublist _)⟩) (fun _ _ => r_assign rfl) rfl ?_
         refine d_done (l' := [_,_,_,_,_,_,_,_,_,_,_,_,_,_,_,_,_,_,_,_,_,_,_,_,_,_,_,_,_,_,_,_,_,_,_,_,_,_,_,_,_,_,_,_,_,_,_,_,_,_,_,_,_,_,_,_,_,_,_,_,_,_,_,_,_,_,_,_,_,_,_,_,_,_,_,_,_,_,_,_,_,_,_,_,_,_,_,_,_,_,_,_]) (by kernel_rfl) rfl ?_
         refine x_blockNormal ?_
         refine x_thenNormal ?_
         refine c_region (n := 92) ⟨rfl, rfl⟩ ?_
         refine s_val (r_move rfl) ?_
         refine s_val (r_add rfl rfl (w_i64 (by omega) (by omega))) ?_
         refine s_val (r_assign rfl) ?_
         refine c_nil0 (l' := [_,_,_,_,_,_,_,_,_,_,_,_,_,_,_,_,_,_,_,_,_,_,_,_,_,_,_,_,_,_,_,_,_,_,_,_,_,_,_,_,_,_,_,_,_,_,_,_,_,_,_,_,_,_,_,_,_,_,_,_,_,_,_,_,_,_,_,_,_,_,_,_,_,_,_,_,_,_,_,_,_,_,_,_,_,_,_,_,_,_,_,_]) rfl ?_
         exact ⟨k + 1, _, rfl, ⟨_,_,_,_,_,_,_,_,_,_,_,_,_,_,_,_,_,_,_,_,_,_,_,_,_,_,_,_,_,_,_,_,_,_,_,_,_,_,_,_,_,_,_,_,_,_,_,_,_,_,_,_,_,_,_,_,_,_,_,_,_,_,_,_,_,_,_,_, os2, a8, c8, N8, rfl, by omega, hO3, hN9, hB3, ((H.sub (((List.sublist_append_right N1 Nr).cons _).append (List.Sublist.refl N8))).perm List.perm_append_comm)⟩, by omega⟩
        ·skip
         refine b_new rfl go_none (m_bslice1 (vs := frC (⟨y.at_, z⟩ : FrL)) H Try.runUnderlying31 Try.sizeOf52 Try.zeroValue52 (by omega) (by omega) rfl rfl rfl) rfl (fun _ _ H => (⟨H.own (bc, Obj.cells (rowC ceC cs ++ spc).toArray 40 (0, 0)) (by simp only [hNrE, List.mem_append, List.mem_cons, true_or, or_true]), H.sub (List.nil_sublist _)⟩)) ?_
         intro w b87 H
         refine d_all1 (i := 4) (by kernel_rfl) ?_
         refine b_any rfl go_none (m_append_lit (H.swp 0 (L' := _ :: _ :: _) rfl) Try.runUnderlying31 Try.runUnderlying31 (fun _ h => nomatch h) Try.sizeOf52 Try.zeroValue52 rfl Try.typeInfo52 (by rw [bytes52]; omega) (by rw [bytes52]; omega) (ec rfl (ec rfl en)) (row_take_src elFr (hR1.rrowM (fun h => h) H (fun p hp => (List.mem_cons_of_mem _ (List.mem_cons_of_mem _ (List.mem_append_left _ hp))))) hj _)) rfl (by rintro v w ⟨a6, c6, N6, rfl, hN6, H⟩; exact (⟨H.own (bc, Obj.cells (rowC ceC cs ++ spc).toArray 40 (0, 0)) (by simp only [hNrE, List.mem_append, List.mem_cons, true_or, or_true]), H.sub (List.nil_sublist _)⟩)) ?_
         rintro v w ⟨a6, c6, N6, rfl, hN6, H⟩
         replace H := H.perm (List.perm_append_comm (l₂ := N6))
         refine d_all1 (i := 16) (by kernel_rfl) ?_
         refine b_any rfl go_none (m_append_row0 (L1 := _ :: (N1 ++ Nr)) (N := N6) H hN6 Try.runUnderlying31 Try.runUnderlying31 (fun _ h => nomatch h) Try.sizeOf52 Try.zeroValue52 rfl Try.typeInfo52 (by rw [bytes52]; omega) (by rw [bytes52]; omega) (ec rfl (ec rfl en)) (Src.slice (vs := frC (⟨y.at_, z⟩ : FrL)) (H.at 0 rfl) rfl rfl (frC_one _))) rfl (by rintro v w ⟨a7, c7, N7, rfl, hN7, H⟩; exact (⟨H.own (bc, Obj.cells (rowC ceC cs ++ spc).toArray 40 (0, 0)) (by simp only [hNrE, List.mem_append, List.mem_cons, true_or, or_true]), H.sub (List.nil_sublist _)⟩)) ?_
         rintro v w ⟨a7, c7, N7, rfl, hN7, H⟩
         skip
         refine d_all1 (i := 18) (by kernel_rfl) ?_
         refine b_any rfl go_none (m_append_row0 (L1 := _ :: (N1 ++ Nr)) (N := N7) (m := os1.length - j) (vs := rowC frC (os1.drop j)) H hN7 Try.runUnderlying31 Try.runUnderlying31 (fun _ h => nomatch h) Try.sizeOf52 Try.zeroValue52 rfl Try.typeInfo52 (by rw [bytes52]; omega) (by rw [bytes52]; omega) (ec rfl (ec rfl en)) (by rw [← hca]; exact row_drop_src elFr (hR1.rrowM (fun h => h) H (fun p hp => List.mem_append_left _ (List.mem_cons_of_mem _ (List.mem_append_left _ hp)))) hcp j _)) rfl (by rintro v w ⟨a8, c8, N8, rfl, hN8, H⟩; exact (⟨H.own (bc, Obj.cells (rowC ceC cs ++ spc).toArray 40 (0, 0)) (by simp only [hNrE, List.mem_append, List.mem_cons, true_or, or_true]), H.sub (List.nil_sublist _)⟩)) ?_
         rintro v w ⟨a8, c8, N8, rfl, hN8, H⟩
         obtain ⟨os2, hy2⟩ : ∃ o, o = os1.take j ++ (⟨y.at_, z⟩ : FrL) :: os1.drop j := ⟨_, rfl⟩
         have hll : os2.length = j + 1 + (os1.length - j) := by rw [hy2, List.length_append, List.length_cons, List.length_take, List.length_drop]; omega
         rw [← hll] at hN8 ⊢
         have hN9 : RowN 12 52 (rowC frC os2) os2.length a8 c8 N8 := by
          have e : rowC frC os2 = (rowC frC (os1.take j) ++ frC (⟨y.at_, z⟩ : FrL)) ++ rowC frC (os1.drop j) := by rw [hy2]; simp [rowC]
          rw [e]; exact hN8
         have hO3 : OrdI os2 (ents (ys.take i) ++ (cs.take (k + 1)).map (fun z => (y.at_, ceP z))) := by
          rw [List.take_add_one, hx2, List.map_append, ← List.append_assoc, hy2]; exact hins
         have hB3 : ∀ q ∈ os2, BRow w0 q.c.body.a q.c.body.b := by
          intro q hq
          rw [hy2] at hq
          rcases ins_mem hq with rfl | h
          ·exact hCB z hzm
          ·exact hB1 q h
         refine d_take (i := 19) rfl (by kernel_rfl) (fun _ _ _ h => h) (⟨H.own (bc, Obj.cells (rowC ceC cs ++ spc).toArray 40 (0, 0)) (by simp only [hNrE, List.mem_append, List.mem_cons, true_or, or_true]), H.sub (List.nil_sublist _)⟩) (fun _ _ => r_assign rfl) rfl ?_
         refine d_done (l' := [_,_,_,_,_,_,_,_,_,_,_,_,_,_,_,_,_,_,_,_,_,_,_,_,_,_,_,_,_,_,_,_,_,_,_,_,_,_,_,_,_,_,_,_,_,_,_,_,_,_,_,_,_,_,_,_,_,_,_,_,_,_,_,_,_,_,_,_,_,_,_,_,_,_,_,_,_,_,_,_,_,_,_,_,_,_,_,_,_,_,_,_]) (by kernel_rfl) rfl ?_
         refine x_blockNormal ?_
         refine x_thenNormal ?_
         refine c_region (n := 92) ⟨rfl, rfl⟩ ?_
         refine s_val (r_move rfl) ?_
         refine s_val (r_add rfl rfl (w_i64 (by omega) (by omega))) ?_
         refine s_val (r_assign rfl) ?_
         refine c_nil0 (l' := [_,_,_,_,_,_,_,_,_,_,_,_,_,_,_,_,_,_,_,_,_,_,_,_,_,_,_,_,_,_,_,_,_,_,_,_,_,_,_,_,_,_,_,_,_,_,_,_,_,_,_,_,_,_,_,_,_,_,_,_,_,_,_,_,_,_,_,_,_,_,_,_,_,_,_,_,_,_,_,_,_,_,_,_,_,_,_,_,_,_,_,_]) rfl ?_
         exact ⟨k + 1, _, rfl, ⟨_,_,_,_,_,_,_,_,_,_,_,_,_,_,_,_,_,_,_,_,_,_,_,_,_,_,_,_,_,_,_,_,_,_,_,_,_,_,_,_,_,_,_,_,_,_,_,_,_,_,_,_,_,_,_,_,_,_,_,_,_,_,_,_,_,_,_,_, os2, a8, c8, N8, rfl, by omega, hO3, hN9, hB3, ((H.sub (((List.sublist_append_right N1 Nr).cons _).append (List.Sublist.refl N8))).perm List.perm_append_comm)⟩, by omega⟩
       ·skip
        refine b_new rfl go_none (m_bslice1 (vs := frC (⟨y.at_, z⟩ : FrL)) H Try.runUnderlying31 Try.sizeOf52 Try.zeroValue52 (by omega) (by omega) rfl rfl rfl) rfl (fun _ _ H => (⟨H.own (bc, Obj.cells (rowC ceC cs ++ spc).toArray 40 (0, 0)) (by simp only [hNrE, List.mem_append, List.mem_cons, true_or, or_true]), H.sub (List.nil_sublist _)⟩)) ?_
        intro w b87 H
        refine d_all1 (i := 0) (by kernel_rfl) ?_
        refine b_new rfl go_none (m_bslice0 H Try.runUnderlying31 Try.sizeOf52) rfl (fun _ _ H => (⟨H.own (bc, Obj.cells (rowC ceC cs ++ spc).toArray 40 (0, 0)) (by simp only [hNrE, List.mem_append, List.mem_cons, true_or, or_true]), H.sub (List.nil_sublist _)⟩)) ?_
        intro w b72 H
        refine d_all1 (i := 4) (by kernel_rfl) ?_
        refine b_any rfl go_none (m_append_lit H Try.runUnderlying31 Try.runUnderlying31 (fun _ h => nomatch h) Try.sizeOf52 Try.zeroValue52 rfl Try.typeInfo52 (by rw [bytes52]; omega) (by rw [bytes52]; omega) (ec rfl (ec rfl en)) (row_take_src elFr (hR1.rrowM (fun h => h) H (fun p hp => (List.mem_cons_of_mem _ (List.mem_cons_of_mem _ (List.mem_append_left _ hp))))) hj _)) rfl (by rintro v w ⟨a6, c6, N6, rfl, hN6, H⟩; exact (⟨H.own (bc, Obj.cells (rowC ceC cs ++ spc).toArray 40 (0, 0)) (by simp only [hNrE, List.mem_append, List.mem_cons, true_or, or_true]), H.sub (List.nil_sublist _)⟩)) ?_
        rintro v w ⟨a6, c6, N6, rfl, hN6, H⟩
        replace H := H.perm (List.perm_append_comm (l₂ := N6))
        refine d_all1 (i := 16) (by kernel_rfl) ?_
        refine b_any rfl go_none (m_append_row0 (L1 := _ :: (N1 ++ Nr)) (N := N6) H hN6 Try.runUnderlying31 Try.runUnderlying31 (fun _ h => nomatch h) Try.sizeOf52 Try.zeroValue52 rfl Try.typeInfo52 (by rw [bytes52]; omega) (by rw [bytes52]; omega) (ec rfl (ec rfl en)) (Src.slice (vs := frC (⟨y.at_, z⟩ : FrL)) (H.at 0 rfl) rfl rfl (frC_one _))) rfl (by rintro v w ⟨a7, c7, N7, rfl, hN7, H⟩; exact (⟨H.own (bc, Obj.cells (rowC ceC cs ++ spc).toArray 40 (0, 0)) (by simp only [hNrE, List.mem_append, List.mem_cons, true_or, or_true]), H.sub (List.nil_sublist _)⟩)) ?_
        rintro v w ⟨a7, c7, N7, rfl, hN7, H⟩
        skip
        refine d_all1 (i := 18) (by kernel_rfl) ?_
        refine b_any rfl go_none (m_append_row0 (L1 := _ :: (N1 ++ Nr)) (N := N7) (m := os1.length - j) (vs := rowC frC (os1.drop j)) H hN7 Try.runUnderlying31 Try.runUnderlying31 (fun _ h => nomatch h) Try.sizeOf52 Try.zeroValue52 rfl Try.typeInfo52 (by rw [bytes52]; omega) (by rw [bytes52]; omega) (ec rfl (ec rfl en)) (by rw [← hca]; exact row_drop_src elFr (hR1.rrowM (fun h => h) H (fun p hp => List.mem_append_left _ (List.mem_cons_of_mem _ (List.mem_append_left _ hp)))) hcp j _)) rfl (by rintro v w ⟨a8, c8, N8, rfl, hN8, H⟩; exact (⟨H.own (bc, Obj.cells (rowC ceC cs ++ spc).toArray 40 (0, 0)) (by simp only [hNrE, List.mem_append, List.mem_cons, true_or, or_true]), H.sub (List.nil_sublist _)⟩)) ?_
        rintro v w ⟨a8, c8, N8, rfl, hN8, H⟩
        obtain ⟨os2, hy2⟩ : ∃ o, o = os1.take j ++ (⟨y.at_, z⟩ : FrL) :: os1.drop j := ⟨_, rfl⟩
        have hll : os2.length = j + 1 + (os1.length - j) := by rw [hy2, List.length_append, List.length_cons, List.length_take, List.length_drop]; omega
        rw [← hll] at hN8 ⊢
        have hN9 : RowN 12 52 (rowC frC os2) os2.length a8 c8 N8 := by
         have e : rowC frC os2 = (rowC frC (os1.take j) ++ frC (⟨y.at_, z⟩ : FrL)) ++ rowC frC (os1.drop j) := by rw [hy2]; simp [rowC]
         rw [e]; exact hN8
        have hO3 : OrdI os2 (ents (ys.take i) ++ (cs.take (k + 1)).map (fun z => (y.at_, ceP z))) := by
         rw [List.take_add_one, hx2, List.map_append, ← List.append_assoc, hy2]; exact hins
        have hB3 : ∀ q ∈ os2, BRow w0 q.c.body.a q.c.body.b := by
         intro q hq
         rw [hy2] at hq
         rcases ins_mem hq with rfl | h
         ·exact hCB z hzm
         ·exact hB1 q h
        refine d_take (i := 19) rfl (by kernel_rfl) (fun _ _ _ h => h) (⟨H.own (bc, Obj.cells (rowC ceC cs ++ spc).toArray 40 (0, 0)) (by simp only [hNrE, List.mem_append, List.mem_cons, true_or, or_true]), H.sub (List.nil_sublist _)⟩) (fun _ _ => r_assign rfl) rfl ?_
        refine d_done (l' := [_,_,_,_,_,_,_,_,_,_,_,_,_,_,_,_,_,_,_,_,_,_,_,_,_,_,_,_,_,_,_,_,_,_,_,_,_,_,_,_,_,_,_,_,_,_,_,_,_,_,_,_,_,_,_,_,_,_,_,_,_,_,_,_,_,_,_,_,_,_,_,_,_,_,_,_,_,_,_,_,_,_,_,_,_,_,_,_,_,_,_,_]) (by kernel_rfl) rfl ?_
        refine x_blockNormal ?_
        refine x_thenNormal ?_
        refine c_region (n := 92) ⟨rfl, rfl⟩ ?_
        refine s_val (r_move rfl) ?_
        refine s_val (r_add rfl rfl (w_i64 (by omega) (by omega))) ?_
        refine s_val (r_assign rfl) ?_
        refine c_nil0 (l' := [_,_,_,_,_,_,_,_,_,_,_,_,_,_,_,_,_,_,_,_,_,_,_,_,_,_,_,_,_,_,_,_,_,_,_,_,_,_,_,_,_,_,_,_,_,_,_,_,_,_,_,_,_,_,_,_,_,_,_,_,_,_,_,_,_,_,_,_,_,_,_,_,_,_,_,_,_,_,_,_,_,_,_,_,_,_,_,_,_,_,_,_]) rfl ?_
        exact ⟨k + 1, _, rfl, ⟨_,_,_,_,_,_,_,_,_,_,_,_,_,_,_,_,_,_,_,_,_,_,_,_,_,_,_,_,_,_,_,_,_,_,_,_,_,_,_,_,_,_,_,_,_,_,_,_,_,_,_,_,_,_,_,_,_,_,_,_,_,_,_,_,_,_,_,_, os2, a8, c8, N8, rfl, by omega, hO3, hN9, hB3, ((H.sub (((List.sublist_append_right N1 Nr).cons _).append (List.Sublist.refl N8))).perm List.perm_append_comm)⟩, by omega⟩
     ·skip
      exfalso; omega
   ·skip
    refine d_take (i := 4) rfl (by kernel_rfl) (fun _ _ _ h => h) H (fun _ _ => r_move rfl) rfl ?_
    refine d_takeN (i := 5) rfl (by kernel_rfl) (fun _ _ _ h => h) rfl rfl (by decide) H rfl ?_
    refine d_takeN (i := 6) rfl (by kernel_rfl) (fun _ _ _ h => h) rfl rfl (by decide) H rfl ?_
    refine d_takeN (i := 7) rfl (by kernel_rfl) (fun _ _ _ h => h) rfl rfl (by decide) H rfl ?_
    refine d_takeN (i := 8) rfl (by kernel_rfl) (fun _ _ _ h => h) rfl rfl (by decide) H rfl ?_
    refine d_takeN (i := 9) rfl (by kernel_rfl) (fun _ _ _ h => h) rfl rfl (by decide) H rfl ?_
    refine d_takeN (i := 10) rfl (by kernel_rfl) (fun _ _ _ h => h) rfl rfl (by decide) H rfl ?_
    refine d_takeN (i := 11) rfl (by kernel_rfl) (fun _ _ _ h => h) rfl rfl (by decide) H rfl ?_
    refine d_takeN (i := 12) rfl (by kernel_rfl) (fun _ _ _ h => h) rfl rfl (by decide) H rfl ?_
    refine d_takeN (i := 13) rfl (by kernel_rfl) (fun _ _ _ h => h) rfl rfl (by decide) H rfl ?_
    refine d_takeN (i := 14) rfl (by kernel_rfl) (fun _ _ _ h => h) rfl rfl (by decide) H rfl ?_
    refine d_takeN (i := 15) rfl (by kernel_rfl) (fun _ _ _ h => h) rfl rfl (by decide) H rfl ?_
    refine d_takeN (i := 16) rfl (by kernel_rfl) (fun _ _ _ h => h) rfl rfl (by decide) H rfl ?_
    refine d_take (i := 17) rfl (by kernel_rfl) (fun _ _ _ h => h) H (fun _ _ => r_pickf rfl rfl) rfl ?_
    refine d_done (l' := [_,_,_,_,_,_,_,_,_,_,_,_,_,_,_,_,_,_,_,_,_,_,_,_,_,_,_,_,_,_,_,_,_,_,_,_,_,_,_,_,_,_,_,_,_,_,_,_,_,_,_,_,_,_,_,_,_,_,_,_,_,_,_,_,_,_,_,_,_,_,_,_,_,_,_,_,_,_,_,_,_,_,_,_,_,_,_,_,_,_,_,_]) (by kernel_rfl) rfl ?_
    refine x_thenNormal ?_
    refine c_iff rfl ?_
    refine wp_exit (x_thenExit (x_thenExit (x_blockHit ?_)))
    refine x_thenNormal ?_
    refine c_rseq (n := 92) ⟨rfl, rfl⟩ ?_
    refine s_val (r_move rfl) ?_
    refine s_val (r_move rfl) ?_
    refine s_val (r_sliceL (lo := j) Try.runUnderlying31 Try.sizeOf52 rfl rfl rfl (by omega)) ?_
    refine s_val (r_assign rfl) ?_
    refine c_nil (l' := [_,_,_,_,_,_,_,_,_,_,_,_,_,_,_,_,_,_,_,_,_,_,_,_,_,_,_,_,_,_,_,_,_,_,_,_,_,_,_,_,_,_,_,_,_,_,_,_,_,_,_,_,_,_,_,_,_,_,_,_,_,_,_,_,_,_,_,_,_,_,_,_,_,_,_,_,_,_,_,_,_,_,_,_,_,_,_,_,_,_,_,_]) rfl ?_
    refine c_seq ?_
    refine c_seq ?_
    refine d_begin (sz := 92) ⟨rfl, rfl⟩ (by kernel_rfl) H (H) rfl ?_
    intro w H
    refine d_take (i := 0) rfl (by kernel_rfl) (fun _ _ _ h => h) H (fun _ _ => r_move rfl) rfl ?_
    refine d_take (i := 1) rfl (by kernel_rfl) (fun _ _ _ h => h) H (fun _ _ => r_lens Try.runUnderlying31 (ec rfl en)) rfl ?_
    refine d_take (i := 2) rfl (by kernel_rfl) (fun _ _ _ h => h) H (fun _ _ => r_gtr rfl rfl) rfl ?_
    refine d_part (fun h56 => ?_) (fun h56 => ?_)
    ·skip
     exfalso; omega
    ·skip
     have hcp := hR1.2.1
     have hins : OrdI (os1.take j ++ (⟨y.at_, z⟩ : FrL) :: os1.drop j) ((ents (ys.take i) ++ (cs.take k).map (fun z => (y.at_, ceP z))) ++ [frP (⟨y.at_, z⟩ : FrL)]) := ordI_at hO1 hlt (fun x hx => by have := (List.getElem?_eq_some_iff.1 hx).1; omega)
     refine d_take (i := 3) rfl (by kernel_rfl) (fun _ _ _ h => h) H (fun _ _ => r_move rfl) rfl ?_
     refine d_takeN (i := 4) rfl (by kernel_rfl) (fun _ _ _ h => h) rfl rfl (by decide) H rfl ?_
     refine d_takeN (i := 5) rfl (by kernel_rfl) (fun _ _ _ h => h) rfl rfl (by decide) H rfl ?_
     refine d_takeN (i := 6) rfl (by kernel_rfl) (fun _ _ _ h => h) rfl rfl (by decide) H rfl ?_
     refine d_takeN (i := 7) rfl (by kernel_rfl) (fun _ _ _ h => h) rfl rfl (by decide) H rfl ?_
     refine d_takeN (i := 8) rfl (by kernel_rfl) (fun _ _ _ h => h) rfl rfl (by decide) H rfl ?_
     refine d_takeN (i := 9) rfl (by kernel_rfl) (fun _ _ _ h => h) rfl rfl (by decide) H rfl ?_
     refine d_takeN (i := 10) rfl (by kernel_rfl) (fun _ _ _ h => h) rfl rfl (by decide) H rfl ?_
     refine d_takeN (i := 11) rfl (by kernel_rfl) (fun _ _ _ h => h) rfl rfl (by decide) H rfl ?_
     refine d_takeN (i := 12) rfl (by kernel_rfl) (fun _ _ _ h => h) rfl rfl (by decide) H rfl ?_
     refine d_takeN (i := 13) rfl (by kernel_rfl) (fun _ _ _ h => h) rfl rfl (by decide) H rfl ?_
     refine d_takeN (i := 14) rfl (by kernel_rfl) (fun _ _ _ h => h) rfl rfl (by decide) H rfl ?_
     refine d_take (i := 15) rfl (by kernel_rfl) (fun _ _ _ h => h) H (fun _ _ => r_pickf rfl rfl) rfl ?_
     refine d_done (l' := [_,_,_,_,_,_,_,_,_,_,_,_,_,_,_,_,_,_,_,_,_,_,_,_,_,_,_,_,_,_,_,_,_,_,_,_,_,_,_,_,_,_,_,_,_,_,_,_,_,_,_,_,_,_,_,_,_,_,_,_,_,_,_,_,_,_,_,_,_,_,_,_,_,_,_,_,_,_,_,_,_,_,_,_,_,_,_,_,_,_,_,_]) (by kernel_rfl) rfl ?_
     refine x_thenNormal ?_
     refine c_iff rfl ?_
     refine wp_skip ?_
     refine x_thenNormal ?_
     refine d_beginS (fun W => W.heap[bc]? = some (Obj.cells (rowC ceC cs ++ spc).toArray 40 (0, 0)) ∧ St w0 [] W []) (sz := 92) ⟨rfl, rfl⟩ (by kernel_rfl) H (⟨H.own (bc, Obj.cells (rowC ceC cs ++ spc).toArray 40 (0, 0)) (by simp only [hNrE, List.mem_append, List.mem_cons, true_or, or_true]), H.sub (List.nil_sublist _)⟩) rfl ?_
     intro w H
     refine d_take (i := 1) rfl (by kernel_rfl) (fun _ _ _ h => h) (⟨H.own (bc, Obj.cells (rowC ceC cs ++ spc).toArray 40 (0, 0)) (by simp only [hNrE, List.mem_append, List.mem_cons, true_or, or_true]), H.sub (List.nil_sublist _)⟩) (fun _ _ => r_move rfl) rfl ?_
     refine d_take (i := 2) rfl (by kernel_rfl) (fun _ _ _ h => h) (⟨H.own (bc, Obj.cells (rowC ceC cs ++ spc).toArray 40 (0, 0)) (by simp only [hNrE, List.mem_append, List.mem_cons, true_or, or_true]), H.sub (List.nil_sublist _)⟩) (fun _ _ => r_move rfl) rfl ?_
     refine d_take (i := 3) rfl (by kernel_rfl) (fun _ _ _ h => h) (⟨H.own (bc, Obj.cells (rowC ceC cs ++ spc).toArray 40 (0, 0)) (by simp only [hNrE, List.mem_append, List.mem_cons, true_or, or_true]), H.sub (List.nil_sublist _)⟩) (fun _ _ => r_sliceH (hi := j) Try.runUnderlying31 Try.sizeOf52 rfl rfl rfl (by omega)) rfl ?_
     refine d_take (i := 5) rfl (by kernel_rfl) (fun _ _ _ h => h) (⟨H.own (bc, Obj.cells (rowC ceC cs ++ spc).toArray 40 (0, 0)) (by simp only [hNrE, List.mem_append, List.mem_cons, true_or, or_true]), H.sub (List.nil_sublist _)⟩) (fun _ _ => r_move rfl) rfl ?_
     refine d_take (i := 6) rfl (by kernel_rfl) (fun _ _ _ h => h) (⟨H.own (bc, Obj.cells (rowC ceC cs ++ spc).toArray 40 (0, 0)) (by simp only [hNrE, List.mem_append, List.mem_cons, true_or, or_true]), H.sub (List.nil_sublist _)⟩) (fun _ _ => r_move rfl) rfl ?_
     refine d_take (i := 7) rfl (by kernel_rfl) (fun _ _ _ h => h) (⟨H.own (bc, Obj.cells (rowC ceC cs ++ spc).toArray 40 (0, 0)) (by simp only [hNrE, List.mem_append, List.mem_cons, true_or, or_true]), H.sub (List.nil_sublist _)⟩) (fun _ _ => r_indexAddrS Try.runUnderlying33 Try.sizeOf60 rfl rfl (by omega) (by omega)) rfl ?_
     refine d_take (i := 8) rfl (by kernel_rfl) (fun _ _ _ h => h) (⟨H.own (bc, Obj.cells (rowC ceC cs ++ spc).toArray 40 (0, 0)) (by simp only [hNrE, List.mem_append, List.mem_cons, true_or, or_true]), H.sub (List.nil_sublist _)⟩) (fun _ _ => r_fieldAddr (k := 0) Try.runUnderlying60 rfl Try.sizeOf3 (by decide) rfl rfl) rfl ?_
     refine d_take (i := 9) rfl (by kernel_rfl) (fun _ _ _ h => h) (⟨H.own (bc, Obj.cells (rowC ceC cs ++ spc).toArray 40 (0, 0)) (by simp only [hNrE, List.mem_append, List.mem_cons, true_or, or_true]), H.sub (List.nil_sublist _)⟩) (fun _ HS => by obtain ⟨HSc, HS⟩ := HS; exact r_load1 Try.isAgg3 rfl (HS.rd0 hb0) (fb_at hp0 hx (by omega))) rfl ?_
     refine d_take (i := 10) rfl (by kernel_rfl) (fun _ _ _ h => h) (⟨H.own (bc, Obj.cells (rowC ceC cs ++ spc).toArray 40 (0, 0)) (by simp only [hNrE, List.mem_append, List.mem_cons, true_or, or_true]), H.sub (List.nil_sublist _)⟩) (fun _ _ => r_move rfl) rfl ?_
     refine d_take (i := 11) rfl (by kernel_rfl) (fun _ _ _ h => h) (⟨H.own (bc, Obj.cells (rowC ceC cs ++ spc).toArray 40 (0, 0)) (by simp only [hNrE, List.mem_append, List.mem_cons, true_or, or_true]), H.sub (List.nil_sublist _)⟩) (fun _ _ => r_move rfl) rfl ?_
     refine d_take (i := 12) rfl (by kernel_rfl) (fun _ _ _ h => h) (⟨H.own (bc, Obj.cells (rowC ceC cs ++ spc).toArray 40 (0, 0)) (by simp only [hNrE, List.mem_append, List.mem_cons, true_or, or_true]), H.sub (List.nil_sublist _)⟩) (fun _ _ => r_indexAddrS Try.runUnderlying53 Try.sizeOf40 rfl rfl (by omega) (by omega)) rfl ?_
     refine d_take (i := 13) rfl (by kernel_rfl) (fun _ _ _ h => h) (⟨H.own (bc, Obj.cells (rowC ceC cs ++ spc).toArray 40 (0, 0)) (by simp only [hNrE, List.mem_append, List.mem_cons, true_or, or_true]), H.sub (List.nil_sublist _)⟩) (fun _ HS => by obtain ⟨HSc, HS⟩ := HS; exact r_loadn Try.isAgg40 Try.sizeOf40 rfl (id HSc) (ce_all hx2 (by omega)) (ceC_length _)) rfl ?_
     refine d_take (i := 14) rfl (by kernel_rfl) (fun _ _ _ h => h) (⟨H.own (bc, Obj.cells (rowC ceC cs ++ spc).toArray 40 (0, 0)) (by simp only [hNrE, List.mem_append, List.mem_cons, true_or, or_true]), H.sub (List.nil_sublist _)⟩) (fun _ _ => r_buildS Try.runUnderlying52 Try.zeroValue52 places52 (pc rfl (pc rfl pn)) (rfl : fillL _ _ _ = some (frC (⟨y.at_, z⟩ : FrL)))) rfl ?_
     refine d_take (i := 17) rfl (by kernel_rfl) (fun _ _ _ h => h) (⟨H.own (bc, Obj.cells (rowC ceC cs ++ spc).toArray 40 (0, 0)) (by simp only [hNrE, List.mem_append, List.mem_cons, true_or, or_true]), H.sub (List.nil_sublist _)⟩) (fun _ _ => r_move rfl) rfl ?_
     refine d_all2 (i := 0) (j := 15) (by kernel_rfl) ?_ ?_
     ·skip
      refine b_new rfl go_none (m_bslice0 H Try.runUnderlying31 Try.sizeOf52) rfl (fun _ _ H => (⟨H.own (bc, Obj.cells (rowC ceC cs ++ spc).toArray 40 (0, 0)) (by simp only [hNrE, List.mem_append, List.mem_cons, true_or, or_true]), H.sub (List.nil_sublist _)⟩)) ?_
      intro w b72 H
      refine d_all2 (i := 4) (j := 15) (by kernel_rfl) ?_ ?_
      ·skip
       refine b_any rfl go_none (m_append_lit H Try.runUnderlying31 Try.runUnderlying31 (fun _ h => nomatch h) Try.sizeOf52 Try.zeroValue52 rfl Try.typeInfo52 (by rw [bytes52]; omega) (by rw [bytes52]; omega) (ec rfl (ec rfl en)) (row_take_src elFr (hR1.rrowM (fun h => h) H (fun p hp => (List.mem_cons_of_mem _ (List.mem_append_left _ hp)))) hj _)) rfl (by rintro v w ⟨a6, c6, N6, rfl, hN6, H⟩; exact (⟨H.own (bc, Obj.cells (rowC ceC cs ++ spc).toArray 40 (0, 0)) (by simp only [hNrE, List.mem_append, List.mem_cons, true_or, or_true]), H.sub (List.nil_sublist _)⟩)) ?_
       rintro v w ⟨a6, c6, N6, rfl, hN6, H⟩
       replace H := H.perm (List.perm_append_comm (l₂ := N6))
       refine d_all1 (i := 15) (by kernel_rfl) ?_
       refine b_new rfl go_none (m_bslice1 (vs := frC (⟨y.at_, z⟩ : FrL)) H Try.runUnderlying31 Try.sizeOf52 Try.zeroValue52 (by omega) (by omega) rfl rfl rfl) rfl (fun _ _ H => (⟨H.own (bc, Obj.cells (rowC ceC cs ++ spc).toArray 40 (0, 0)) (by simp only [hNrE, List.mem_append, List.mem_cons, true_or, or_true]), H.sub (List.nil_sublist _)⟩)) ?_
       intro w b87 H
       refine d_all1 (i := 16) (by kernel_rfl) ?_
       refine b_any rfl go_none (m_append_row0 (L1 := _ :: (N1 ++ Nr)) (N := N6) H hN6 Try.runUnderlying31 Try.runUnderlying31 (fun _ h => nomatch h) Try.sizeOf52 Try.zeroValue52 rfl Try.typeInfo52 (by rw [bytes52]; omega) (by rw [bytes52]; omega) (ec rfl (ec rfl en)) (Src.slice (vs := frC (⟨y.at_, z⟩ : FrL)) (H.at 0 rfl) rfl rfl (frC_one _))) rfl (by rintro v w ⟨a7, c7, N7, rfl, hN7, H⟩; exact (⟨H.own (bc, Obj.cells (rowC ceC cs ++ spc).toArray 40 (0, 0)) (by simp only [hNrE, List.mem_append, List.mem_cons, true_or, or_true]), H.sub (List.nil_sublist _)⟩)) ?_
       rintro v w ⟨a7, c7, N7, rfl, hN7, H⟩
       skip
       refine d_all1 (i := 18) (by kernel_rfl) ?_
       refine b_any rfl go_none (m_append_row0 (L1 := _ :: (N1 ++ Nr)) (N := N7) (m := os1.length - j) (vs := rowC frC (os1.drop j)) H hN7 Try.runUnderlying31 Try.runUnderlying31 (fun _ h => nomatch h) Try.sizeOf52 Try.zeroValue52 rfl Try.typeInfo52 (by rw [bytes52]; omega) (by rw [bytes52]; omega) (ec rfl (ec rfl en)) (row_drop_src elFr (hR1.rrowM (fun h => h) H (fun p hp => List.mem_append_left _ (List.mem_cons_of_mem _ (List.mem_append_left _ hp)))) hcp j _)) rfl (by rintro v w ⟨a8, c8, N8, rfl, hN8, H⟩; exact (⟨H.own (bc, Obj.cells (rowC ceC cs ++ spc).toArray 40 (0, 0)) (by simp only [hNrE, List.mem_append, List.mem_cons, true_or, or_true]), H.sub (List.nil_sublist _)⟩)) ?_
       rintro v w ⟨a8, c8, N8, rfl, hN8, H⟩
       obtain ⟨os2, hy2⟩ : ∃ o, o = os1.take j ++ (⟨y.at_, z⟩ : FrL) :: os1.drop j := ⟨_, rfl⟩
       have hll : os2.length = j + 1 + (os1.length - j) := by rw [hy2, List.length_append, List.length_cons, List.length_take, List.length_drop]; omega
       rw [← hll] at hN8 ⊢
       have hN9 : RowN 12 52 (rowC frC os2) os2.length a8 c8 N8 := by
        have e : rowC frC os2 = (rowC frC (os1.take j) ++ frC (⟨y.at_, z⟩ : FrL)) ++ rowC frC (os1.drop j) := by rw [hy2]; simp [rowC]
        rw [e]; exact hN8
       have hO3 : OrdI os2 (ents (ys.take i) ++ (cs.take (k + 1)).map (fun z => (y.at_, ceP z))) := by
        rw [List.take_add_one, hx2, List.map_append, ← List.append_assoc, hy2]; exact hins
       have hB3 : ∀ q ∈ os2, BRow w0 q.c.body.a q.c.body.b := by
        intro q hq
        rw [hy2] at hq
        rcases ins_mem hq with rfl | h
        ·exact hCB z hzm
        ·exact hB1 q h
       refine d_take (i := 19) rfl (by kernel_rfl) (fun _ _ _ h => h) (⟨H.own (bc, Obj.cells (rowC ceC cs ++ spc).toArray 40 (0, 0)) (by simp only [hNrE, List.mem_append, List.mem_cons, true_or, or_true]), H.sub (List.nil_sublist _)⟩) (fun _ _ => r_assign rfl) rfl ?_
       refine d_done (l' := [_,_,_,_,_,_,_,_,_,_,_,_,_,_,_,_,_,_,_,_,_,_,_,_,_,_,_,_,_,_,_,_,_,_,_,_,_,_,_,_,_,_,_,_,_,_,_,_,_,_,_,_,_,_,_,_,_,_,_,_,_,_,_,_,_,_,_,_,_,_,_,_,_,_,_,_,_,_,_,_,_,_,_,_,_,_,_,_,_,_,_,_]) (by kernel_rfl) rfl ?_
       refine x_blockNormal ?_
       refine x_thenNormal ?_
       refine c_region (n := 92) ⟨rfl, rfl⟩ ?_
       refine s_val (r_move rfl) ?_
       refine s_val (r_add rfl rfl (w_i64 (by omega) (by omega))) ?_
       refine s_val (r_assign rfl) ?_
       refine c_nil0 (l' := [_,_,_,_,_,_,_,_,_,_,_,_,_,_,_,_,_,_,_,_,_,_,_,_,_,_,_,_,_,_,_,_,_,_,_,_,_,_,_,_,_,_,_,_,_,_,_,_,_,_,_,_,_,_,_,_,_,_,_,_,_,_,_,_,_,_,_,_,_,_,_,_,_,_,_,_,_,_,_,_,_,_,_,_,_,_,_,_,_,_,_,_]) rfl ?_
       exact ⟨k + 1, _, rfl, ⟨_,_,_,_,_,_,_,_,_,_,_,_,_,_,_,_,_,_,_,_,_,_,_,_,_,_,_,_,_,_,_,_,_,_,_,_,_,_,_,_,_,_,_,_,_,_,_,_,_,_,_,_,_,_,_,_,_,_,_,_,_,_,_,_,_,_,_,_, os2, a8, c8, N8, rfl, by omega, hO3, hN9, hB3, ((H.sub (((List.sublist_append_right N1 Nr).cons _).append (List.Sublist.refl N8))).perm List.perm_append_comm)⟩, by omega⟩
      ·skip
       refine b_new rfl go_none (m_bslice1 (vs := frC (⟨y.at_, z⟩ : FrL)) H Try.runUnderlying31 Try.sizeOf52 Try.zeroValue52 (by omega) (by omega) rfl rfl rfl) rfl (fun _ _ H => (⟨H.own (bc, Obj.cells (rowC ceC cs ++ spc).toArray 40 (0, 0)) (by simp only [hNrE, List.mem_append, List.mem_cons, true_or, or_true]), H.sub (List.nil_sublist _)⟩)) ?_
       intro w b87 H
       refine d_all1 (i := 4) (by kernel_rfl) ?_
       refine b_any rfl go_none (m_append_lit (H.swp 0 (L' := _ :: _ :: _) rfl) Try.runUnderlying31 Try.runUnderlying31 (fun _ h => nomatch h) Try.sizeOf52 Try.zeroValue52 rfl Try.typeInfo52 (by rw [bytes52]; omega) (by rw [bytes52]; omega) (ec rfl (ec rfl en)) (row_take_src elFr (hR1.rrowM (fun h => h) H (fun p hp => (List.mem_cons_of_mem _ (List.mem_cons_of_mem _ (List.mem_append_left _ hp))))) hj _)) rfl (by rintro v w ⟨a6, c6, N6, rfl, hN6, H⟩; exact (⟨H.own (bc, Obj.cells (rowC ceC cs ++ spc).toArray 40 (0, 0)) (by simp only [hNrE, List.mem_append, List.mem_cons, true_or, or_true]), H.sub (List.nil_sublist _)⟩)) ?_
       rintro v w ⟨a6, c6, N6, rfl, hN6, H⟩
       replace H := H.perm (List.perm_append_comm (l₂ := N6))
       refine d_all1 (i := 16) (by kernel_rfl) ?_
       refine b_any rfl go_none (m_append_row0 (L1 := _ :: (N1 ++ Nr)) (N := N6) H hN6 Try.runUnderlying31 Try.runUnderlying31 (fun _ h => nomatch h) Try.sizeOf52 Try.zeroValue52 rfl Try.typeInfo52 (by rw [bytes52]; omega) (by rw [bytes52]; omega) (ec rfl (ec rfl en)) (Src.slice (vs := frC (⟨y.at_, z⟩ : FrL)) (H.at 0 rfl) rfl rfl (frC_one _))) rfl (by rintro v w ⟨a7, c7, N7, rfl, hN7, H⟩; exact (⟨H.own (bc, Obj.cells (rowC ceC cs ++ spc).toArray 40 (0, 0)) (by simp only [hNrE, List.mem_append, List.mem_cons, true_or, or_true]), H.sub (List.nil_sublist _)⟩)) ?_
       rintro v w ⟨a7, c7, N7, rfl, hN7, H⟩
       skip
       refine d_all1 (i := 18) (by kernel_rfl) ?_
       refine b_any rfl go_none (m_append_row0 (L1 := _ :: (N1 ++ Nr)) (N := N7) (m := os1.length - j) (vs := rowC frC (os1.drop j)) H hN7 Try.runUnderlying31 Try.runUnderlying31 (fun _ h => nomatch h) Try.sizeOf52 Try.zeroValue52 rfl Try.typeInfo52 (by rw [bytes52]; omega) (by rw [bytes52]; omega) (ec rfl (ec rfl en)) (row_drop_src elFr (hR1.rrowM (fun h => h) H (fun p hp => List.mem_append_left _ (List.mem_cons_of_mem _ (List.mem_append_left _ hp)))) hcp j _)) rfl (by rintro v w ⟨a8, c8, N8, rfl, hN8, H⟩; exact (⟨H.own (bc, Obj.cells (rowC ceC cs ++ spc).toArray 40 (0, 0)) (by simp only [hNrE, List.mem_append, List.mem_cons, true_or, or_true]), H.sub (List.nil_sublist _)⟩)) ?_
       rintro v w ⟨a8, c8, N8, rfl, hN8, H⟩
       obtain ⟨os2, hy2⟩ : ∃ o, o = os1.take j ++ (⟨y.at_, z⟩ : FrL) :: os1.drop j := ⟨_, rfl⟩
       have hll : os2.length = j + 1 + (os1.length - j) := by rw [hy2, List.length_append, List.length_cons, List.length_take, List.length_drop]; omega
       rw [← hll] at hN8 ⊢
       have hN9 : RowN 12 52 (rowC frC os2) os2.length a8 c8 N8 := by
        have e : rowC frC os2 = (rowC frC (os1.take j) ++ frC (⟨y.at_, z⟩ : FrL)) ++ rowC frC (os1.drop j) := by rw [hy2]; simp [rowC]
        rw [e]; exact hN8
       have hO3 : OrdI os2 (ents (ys.take i) ++ (cs.take (k + 1)).map (fun z => (y.at_, ceP z))) := by
        rw [List.take_add_one, hx2, List.map_append, ← List.append_assoc, hy2]; exact hins
       have hB3 : ∀ q ∈ os2, BRow w0 q.c.body.a q.c.body.b := by
        intro q hq
        rw [hy2] at hq
        rcases ins_mem hq with rfl | h
        ·exact hCB z hzm
        ·exact hB1 q h
       refine d_take (i := 19) rfl (by kernel_rfl) (fun _ _ _ h => h) (⟨H.own (bc, Obj.cells (rowC ceC cs ++ spc).toArray 40 (0, 0)) (by simp only [hNrE, List.mem_append, List.mem_cons, true_or, or_true]), H.sub (List.nil_sublist _)⟩) (fun _ _ => r_assign rfl) rfl ?_
       refine d_done (l' := [_,_,_,_,_,_,_,_,_,_,_,_,_,_,_,_,_,_,_,_,_,_,_,_,_,_,_,_,_,_,_,_,_,_,_,_,_,_,_,_,_,_,_,_,_,_,_,_,_,_,_,_,_,_,_,_,_,_,_,_,_,_,_,_,_,_,_,_,_,_,_,_,_,_,_,_,_,_,_,_,_,_,_,_,_,_,_,_,_,_,_,_]) (by kernel_rfl) rfl ?_
       refine x_blockNormal ?_
       refine x_thenNormal ?_
       refine c_region (n := 92) ⟨rfl, rfl⟩ ?_
       refine s_val (r_move rfl) ?_
       refine s_val (r_add rfl rfl (w_i64 (by omega) (by omega))) ?_
       refine s_val (r_assign rfl) ?_
       refine c_nil0 (l' := [_,_,_,_,_,_,_,_,_,_,_,_,_,_,_,_,_,_,_,_,_,_,_,_,_,_,_,_,_,_,_,_,_,_,_,_,_,_,_,_,_,_,_,_,_,_,_,_,_,_,_,_,_,_,_,_,_,_,_,_,_,_,_,_,_,_,_,_,_,_,_,_,_,_,_,_,_,_,_,_,_,_,_,_,_,_,_,_,_,_,_,_]) rfl ?_
       exact ⟨k + 1, _, rfl, ⟨_,_,_,_,_,_,_,_,_,_,_,_,_,_,_,_,_,_,_,_,_,_,_,_,_,_,_,_,_,_,_,_,_,_,_,_,_,_,_,_,_,_,_,_,_,_,_,_,_,_,_,_,_,_,_,_,_,_,_,_,_,_,_,_,_,_,_,_, os2, a8, c8, N8, rfl, by omega, hO3, hN9, hB3, ((H.sub (((List.sublist_append_right N1 Nr).cons _).append (List.Sublist.refl N8))).perm List.perm_append_comm)⟩, by omega⟩
     ·skip
      refine b_new rfl go_none (m_bslice1 (vs := frC (⟨y.at_, z⟩ : FrL)) H Try.runUnderlying31 Try.sizeOf52 Try.zeroValue52 (by omega) (by omega) rfl rfl rfl) rfl (fun _ _ H => (⟨H.own (bc, Obj.cells (rowC ceC cs ++ spc).toArray 40 (0, 0)) (by simp only [hNrE, List.mem_append, List.mem_cons, true_or, or_true]), H.sub (List.nil_sublist _)⟩)) ?_
      intro w b87 H
      refine d_all1 (i := 0) (by kernel_rfl) ?_
      refine b_new rfl go_none (m_bslice0 H Try.runUnderlying31 Try.sizeOf52) rfl (fun _ _ H => (⟨H.own (bc, Obj.cells (rowC ceC cs ++ spc).toArray 40 (0, 0)) (by simp only [hNrE, List.mem_append, List.mem_cons, true_or, or_true]), H.sub (List.nil_sublist _)⟩)) ?_
      intro w b72 H
      refine d_all1 (i := 4) (by kernel_rfl) ?_
      refine b_any rfl go_none (m_append_lit H Try.runUnderlying31 Try.runUnderlying31 (fun _ h => nomatch h) Try.sizeOf52 Try.zeroValue52 rfl Try.typeInfo52 (by rw [bytes52]; omega) (by rw [bytes52]; omega) (ec rfl (ec rfl en)) (row_take_src elFr (hR1.rrowM (fun h => h) H (fun p hp => (List.mem_cons_of_mem _ (List.mem_cons_of_mem _ (List.mem_append_left _ hp))))) hj _)) rfl (by rintro v w ⟨a6, c6, N6, rfl, hN6, H⟩; exact (⟨H.own (bc, Obj.cells (rowC ceC cs ++ spc).toArray 40 (0, 0)) (by simp only [hNrE, List.mem_append, List.mem_cons, true_or, or_true]), H.sub (List.nil_sublist _)⟩)) ?_
      rintro v w ⟨a6, c6, N6, rfl, hN6, H⟩
      replace H := H.perm (List.perm_append_comm (l₂ := N6))
      refine d_all1 (i := 16) (by kernel_rfl) ?_
      refine b_any rfl go_none (m_append_row0 (L1 := _ :: (N1 ++ Nr)) (N := N6) H hN6 Try.runUnderlying31 Try.runUnderlying31 (fun _ h => nomatch h) Try.sizeOf52 Try.zeroValue52 rfl Try.typeInfo52 (by rw [bytes52]; omega) (by rw [bytes52]; omega) (ec rfl (ec rfl en)) (Src.slice (vs := frC (⟨y.at_, z⟩ : FrL)) (H.at 0 rfl) rfl rfl (frC_one _))) rfl (by rintro v w ⟨a7, c7, N7, rfl, hN7, H⟩; exact (⟨H.own (bc, Obj.cells (rowC ceC cs ++ spc).toArray 40 (0, 0)) (by simp only [hNrE, List.mem_append, List.mem_cons, true_or, or_true]), H.sub (List.nil_sublist _)⟩)) ?_
      rintro v w ⟨a7, c7, N7, rfl, hN7, H⟩
      skip
      refine d_all1 (i := 18) (by kernel_rfl) ?_
      refine b_any rfl go_none (m_append_row0 (L1 := _ :: (N1 ++ Nr)) (N := N7) (m := os1.length - j) (vs := rowC frC (os1.drop j)) H hN7 Try.runUnderlying31 Try.runUnderlying31 (fun _ h => nomatch h) Try.sizeOf52 Try.zeroValue52 rfl Try.typeInfo52 (by rw [bytes52]; omega) (by rw [bytes52]; omega) (ec rfl (ec rfl en)) (row_drop_src elFr (hR1.rrowM (fun h => h) H (fun p hp => List.mem_append_left _ (List.mem_cons_of_mem _ (List.mem_append_left _ hp)))) hcp j _)) rfl (by rintro v w ⟨a8, c8, N8, rfl, hN8, H⟩; exact (⟨H.own (bc, Obj.cells (rowC ceC cs ++ spc).toArray 40 (0, 0)) (by simp only [hNrE, List.mem_append, List.mem_cons, true_or, or_true]), H.sub (List.nil_sublist _)⟩)) ?_
      rintro v w ⟨a8, c8, N8, rfl, hN8, H⟩
      obtain ⟨os2, hy2⟩ : ∃ o, o = os1.take j ++ (⟨y.at_, z⟩ : FrL) :: os1.drop j := ⟨_, rfl⟩
      have hll : os2.length = j + 1 + (os1.length - j) := by rw [hy2, List.length_append, List.length_cons, List.length_take, List.length_drop]; omega
      rw [← hll] at hN8 ⊢
      have hN9 : RowN 12 52 (rowC frC os2) os2.length a8 c8 N8 := by
       have e : rowC frC os2 = (rowC frC (os1.take j) ++ frC (⟨y.at_, z⟩ : FrL)) ++ rowC frC (os1.drop j) := by rw [hy2]; simp [rowC]
       rw [e]; exact hN8
      have hO3 : OrdI os2 (ents (ys.take i) ++ (cs.take (k + 1)).map (fun z => (y.at_, ceP z))) := by
       rw [List.take_add_one, hx2, List.map_append, ← List.append_assoc, hy2]; exact hins
      have hB3 : ∀ q ∈ os2, BRow w0 q.c.body.a q.c.body.b := by
       intro q hq
       rw [hy2] at hq
       rcases ins_mem hq with rfl | h
       ·exact hCB z hzm
       ·exact hB1 q h
      refine d_take (i := 19) rfl (by kernel_rfl) (fun _ _ _ h => h) (⟨H.own (bc, Obj.cells (rowC ceC cs ++ spc).toArray 40 (0, 0)) (by simp only [hNrE, List.mem_append, List.mem_cons, true_or, or_true]), H.sub (List.nil_sublist _)⟩) (fun _ _ => r_assign rfl) rfl ?_
      refine d_done (l' := [_,_,_,_,_,_,_,_,_,_,_,_,_,_,_,_,_,_,_,_,_,_,_,_,_,_,_,_,_,_,_,_,_,_,_,_,_,_,_,_,_,_,_,_,_,_,_,_,_,_,_,_,_,_,_,_,_,_,_,_,_,_,_,_,_,_,_,_,_,_,_,_,_,_,_,_,_,_,_,_,_,_,_,_,_,_,_,_,_,_,_,_]) (by kernel_rfl) rfl ?_
      refine x_blockNormal ?_
      refine x_thenNormal ?_
      refine c_region (n := 92) ⟨rfl, rfl⟩ ?_
      refine s_val (r_move rfl) ?_
      refine s_val (r_add rfl rfl (w_i64 (by omega) (by omega))) ?_
      refine s_val (r_assign rfl) ?_
      refine c_nil0 (l' := [_,_,_,_,_,_,_,_,_,_,_,_,_,_,_,_,_,_,_,_,_,_,_,_,_,_,_,_,_,_,_,_,_,_,_,_,_,_,_,_,_,_,_,_,_,_,_,_,_,_,_,_,_,_,_,_,_,_,_,_,_,_,_,_,_,_,_,_,_,_,_,_,_,_,_,_,_,_,_,_,_,_,_,_,_,_,_,_,_,_,_,_]) rfl ?_
      exact ⟨k + 1, _, rfl, ⟨_,_,_,_,_,_,_,_,_,_,_,_,_,_,_,_,_,_,_,_,_,_,_,_,_,_,_,_,_,_,_,_,_,_,_,_,_,_,_,_,_,_,_,_,_,_,_,_,_,_,_,_,_,_,_,_,_,_,_,_,_,_,_,_,_,_,_,_, os2, a8, c8, N8, rfl, by omega, hO3, hN9, hB3, ((H.sub (((List.sublist_append_right N1 Nr).cons _).append (List.Sublist.refl N8))).perm List.perm_append_comm)⟩, by omega⟩
  ·skip
   obtain rfl : k = cs.length := by omega
   have hO2 : OrdI os1 (ents (ys.take (i + 1))) := by
    rw [hen]
    unfold entB
    rw [ho, List.map_map]
    rw [List.take_length] at hO1
    exact hO1
   refine wp_exit (x_thenExit (x_thenExit (x_blockHit ?_)))
   refine x_blockNormal ?_
   refine x_thenNormal ?_
   refine c_region (n := 92) ⟨rfl, rfl⟩ ?_
   refine s_val (r_move rfl) ?_
   refine s_val (r_add rfl rfl (w_i64 (by omega) (by omega))) ?_
   refine s_val (r_assign rfl) ?_
   refine c_nil0 (l' := [_,_,_,_,_,_,_,_,_,_,_,_,_,_,_,_,_,_,_,_,_,_,_,_,_,_,_,_,_,_,_,_,_,_,_,_,_,_,_,_,_,_,_,_,_,_,_,_,_,_,_,_,_,_,_,_,_,_,_,_,_,_,_,_,_,_,_,_,_,_,_,_,_,_,_,_,_,_,_,_,_,_,_,_,_,_,_,_,_,_,_,_]) rfl ?_
   exact ⟨i + 1, _, rfl, ⟨_,_,_,_,_,_,_,_,_,_,_,_,_,_,_,_,_,_,_,_,_,_,_,_,_,_,_,_,_,_,_,_,_,_,_,_,_,_,_,_,_,_,_,_,_,_,_,_,_,_,_,_,_,_,_,_,_,_,_,_,_,_,_,_,_,_,_,_,_,_,_,_,_,_,_,_,_,_,_,_,_,_,_,_,_,_, os1, a4, c4, N1, rfl, by omega, hO2, hR1, hB1, (H.sub (List.sublist_append_left _ _))⟩, by omega⟩
 ·skip
  obtain rfl : i = ys.length := by omega
  rw [List.take_length] at hO
  refine wp_exit (x_thenExit (x_thenExit (x_blockHit ?_)))
  refine x_thenNormal ?_
  refine c_rseq (n := 92) ⟨rfl, rfl⟩ ?_
  refine s_val (r_move rfl) ?_
  refine s_val (r_assign rfl) ?_
  refine c_nil (l' := [_,_,_,_,_,_,_,_,_,_,_,_,_,_,_,_,_,_,_,_,_,_,_,_,_,_,_,_,_,_,_,_,_,_,_,_,_,_,_,_,_,_,_,_,_,_,_,_,_,_,_,_,_,_,_,_,_,_,_,_,_,_,_,_,_,_,_,_,_,_,_,_,_,_,_,_,_,_,_,_,_,_,_,_,_,_,_,_,_,_,_,_]) rfl ?_
  refine wp_ret ?_
  refine e_ret (res1 rfl rfl) ⟨_, rfl, ?_⟩
  exact ⟨os, a3, c3, N, rfl, hO, hR, hB, H⟩

end Go.Proofs.Ytihpeihlpgompaa

