import Derived.Test.YtobfnieebiakeaaPM
import Derived.Test.YtobfnieebiakeaaPW1
namespace Go.Proofs.Ytobfnieebiakeaa
open Go Go.Er

set_option maxHeartbeats 4000000 in
theorem down_spec (bt : Nat) (ci hv : Value) (Tt : TypeId) (fzt : Nat × Nat) (h : Held) (n : Int) (f : FuncId) (cs : List Value) (Foot : List Held → List (Nat × Obj) → Prop) (N0 : List (Nat × Obj)) (sl sr : Key → Key) (hci : SplitsBy Try.prog ci sl sr) (hT : Takes Try.prog f cs Foot) (hd0 : 0 ≤ h.depth) (hd1 : h.depth ≤ 17) (ha0 : 0 ≤ h.at_) (ha1 : h.at_ + many h.depth ≤ 131072) (w0 : World) (hbt : w0.heap[bt]? = some (.cells [ci, hv].toArray Tt fzt)) (hF0 : Foot [] N0) (hown : Go.Er.Own w0 N0) (hbX : bt ∉ N0.map (·.1)) :
  Calls Try.prog 34 #[.pointer (some ⟨bt, 0, none⟩), .agg (hC h).toArray, .int .u64 n, .func (.func f) #[] cs.toArray] w0 fun e w => ∃ v, e = .returned v ∧ (∃ N, v = .agg (kC (path sl sr (17 - h.depth).toNat h n).2.seed).toArray ∧ Foot (path sl sr (17 - h.depth).toNat h n).1 N ∧ St w0 (N0.map (·.1)) w N) := by
 have H : St w0 (N0.map (·.1)) w0 N0 := hown.st
 refine c_enter (args := [.pointer (some ⟨bt, 0, none⟩), .agg (hC h).toArray, .int .u64 n, .func (.func f) #[] cs.toArray]) (l := t30 (t4 [])) Try.func34 Try.ntmps34 rfl rfl ?_
 refine zq 34 ⟨rfl, rfl⟩ ?_
 refine s_new (m_box H rfl rfl) ?_
 intro w b4 H
 refine s_new (m_box H rfl rfl) ?_
 intro w b5 H
 refine s_new (zA (kC (By.zero 32)) H qo24) ?_
 intro w b8 H
 refine zc (t30 (t4 [])) ?_
 refine zq 34 ⟨rfl, rfl⟩ ?_
 refine s_val (r_makeFunc en (ec rfl en)) ?_
 refine za ?_
 refine zc (t30 (t4 [])) ?_
 refine c_seq ?_
 refine wp_block ?_
 refine c_loop (fun (l0 : List Value) (k : Nat) (l : List Value) (w : World) => ∃ (u10 u11 u13 u14 u15 u16 u17 u18 u19 u20 u21 u22 u23 u24 u25 u26 u27 u28 u29 u30 u31 : Value) (hc : Held) (acc : List Held) (N : List (Nat × Obj)), l = ovr l0 [N_, N_, N_, N_, N_, N_, N_, N_, N_, N_, Y_ u10, Y_ u11, N_, Y_ u13, Y_ u14, Y_ u15, Y_ u16, Y_ u17, Y_ u18, Y_ u19, Y_ u20, Y_ u21, Y_ u22, Y_ u23, Y_ u24, Y_ u25, Y_ u26, Y_ u27, Y_ u28, Y_ u29, Y_ u30, Y_ u31] ∧ WayD sl sr h n k hc acc ∧ Foot acc N ∧ St w0 (N0.map (·.1)) w ((b8, .cells (kC (By.zero 32)).toArray 24 (0, 0)) :: (b5, .cells (hC hc).toArray 88 (0, 0)) :: (b4, .cells ([.pointer (some ⟨bt, 0, none⟩)]).toArray 31 (0, 0)) :: N)) (fun (k : Nat) => k) (17 - h.depth).toNat ⟨_, _, _, _, _, _, _, _, _, _, _, _, _, _, _, _, _, _, _, _, _, _, _, _, rfl, WayD.start hd0 hd1 ha0 ha1, hF0, H⟩ ?_
 intro k l w ⟨u10, u11, u13, u14, u15, u16, u17, u18, u19, u20, u21, u22, u23, u24, u25, u26, u27, u28, u29, u30, u31, hc, acc, N, hl, hw, hF, H⟩
 obtain rfl := hl.trans (rfl : _ = t30 (t4 []))
 clear hl
 refine c_seq ?_
 refine zq 34 ⟨rfl, rfl⟩ ?_
 refine zR 0 qu88 qs3 ?_
 refine s_val (z2 qg3 (H.at 1 rfl)) ?_
 refine s_val (r_lss rfl rfl) ?_
 refine zc (t30 (t4 [])) ?_
 refine c_if rfl (fun h15 => ?_) (fun h15 => ?_)
 ·obtain ⟨k, rfl⟩ : ∃ j, k = j + 1 := ⟨k - 1, by have := hw.depth; omega⟩
  have hwd := hw.depth
  have hwl := hw.le
  have hw0 := hw.at0
  have hw1 := hw.at1
  have hwn := hw.len
  have hmp := many_pos hc.depth
  refine wp_skip ?_
  refine x_thenNormal ?_
  refine wp_block ?_
  refine zq 34 ⟨rfl, rfl⟩ ?_
  refine zm ?_
  refine s_val (zo qg88 qs88 (H.at 1 rfl)) ?_
  refine s_call (r_callv Try.call55 rfl (ec rfl en) rfl) (down1_spec _ _ _ _ _ _ _ _ _ _ _ hci (by omega) (by omega) (by omega) (by omega) _ (H.at 2 rfl) (H.rd hbt hbX)) ?_
  rintro v w ⟨rfl, HC⟩
  replace H := H.quiet HC
  refine zm ?_
  refine ze ?_
  refine ze ?_
  refine s_new (zA (hC Held.zero) H qo88) ?_
  intro w b10 H
  refine s_new (zA (hC Held.zero) H qo88) ?_
  intro w b11 H
  refine s_st (zs H 1 34 qs88) (L' := (_ :: _ :: _ :: _ :: _ :: _)) rfl ?_
  intro w H
  refine s_st (zs H 0 34 qs88) (L' := (_ :: _ :: _ :: _ :: _ :: _)) rfl ?_
  intro w H
  refine zc (t30 (t4 [])) ?_
  refine c_seq ?_
  refine zq 34 ⟨rfl, rfl⟩ ?_
  refine zm ?_
  refine zR 1 qu88 qs28 ?_
  refine s_val (z2 qg28 (H.at 0 rfl)) ?_
  refine s_val (r_geq rfl rfl) ?_
  refine zc (t30 (t4 [])) ?_
  refine c_if rfl (fun h25 => ?_) (fun h25 => ?_)
  ·refine c_region (n := 34) ⟨rfl, rfl⟩ ?_
   refine s_val (zo qg88 qs88 (H.at 0 rfl)) ?_
   refine s_val (zo qg88 qs88 (H.at 1 rfl)) ?_
   refine s_st (zs H 1 34 qs88) (L' := (_ :: _ :: _ :: _ :: _ :: _)) rfl ?_
   intro w H
   refine s_st (zs H 0 34 qs88) (L' := (_ :: _ :: _ :: _ :: _ :: _)) rfl ?_
   intro w H
   refine zc (t30 (t4 [])) ?_
   refine zq 34 ⟨rfl, rfl⟩ ?_
   refine zm ?_
   refine s_val (zo qg88 qs88 (H.at 0 rfl)) ?_
   refine s_call (r_callv hT.1 rfl (ec rfl en) rfl) (hT.2 acc _ N _ hF (St.owns (L := [_,_,_,_,_]) H) (by omega)) ?_
   rintro v w ⟨N', hF', HC⟩
   replace H : St _ _ _ (_ :: _ :: _ :: _ :: _ :: N') := St.callr (L := [_,_,_,_,_]) H HC
   refine zc (t30 (t4 [])) ?_
   refine c_region (n := 34) ⟨rfl, rfl⟩ ?_
   refine s_val (zo qg88 qs88 (H.at 1 rfl)) ?_
   refine s_st (zs H 3 34 qs88) (L' := (_ :: _ :: _ :: _ :: _ :: _)) rfl ?_
   intro w H
   refine zb (t30 (t4 [])) ?_
   refine x_blockNormal ?_
   replace H := H.sub (.cons _ (.cons _ (.cons_cons _ (.cons_cons _ (.cons_cons _ (List.Sublist.refl _))))))
   exact ⟨k, _, rfl, ⟨_, _, _, _, _, _, _, _, _, _, _, _, _, _, _, _, _, _, _, _, _, _, _, _, rfl, hw.right h25, hF', H⟩, by omega⟩
  ·refine wp_skip ?_
   refine x_thenNormal ?_
   refine zq 34 ⟨rfl, rfl⟩ ?_
   refine zm ?_
   refine s_val (zo qg88 qs88 (H.at 0 rfl)) ?_
   refine s_call (r_callv hT.1 rfl (ec rfl en) rfl) (hT.2 acc _ N _ hF (St.owns (L := [_,_,_,_,_]) H) (by omega)) ?_
   rintro v w ⟨N', hF', HC⟩
   replace H : St _ _ _ (_ :: _ :: _ :: _ :: _ :: N') := St.callr (L := [_,_,_,_,_]) H HC
   refine zc (t30 (t4 [])) ?_
   refine c_region (n := 34) ⟨rfl, rfl⟩ ?_
   refine s_val (zo qg88 qs88 (H.at 1 rfl)) ?_
   refine s_st (zs H 3 34 qs88) (L' := (_ :: _ :: _ :: _ :: _ :: _)) rfl ?_
   intro w H
   refine zb (t30 (t4 [])) ?_
   refine x_blockNormal ?_
   replace H := H.sub (.cons _ (.cons _ (.cons_cons _ (.cons_cons _ (.cons_cons _ (List.Sublist.refl _))))))
   exact ⟨k, _, rfl, ⟨_, _, _, _, _, _, _, _, _, _, _, _, _, _, _, _, _, _, _, _, _, _, _, _, rfl, hw.left h25, hF', H⟩, by omega⟩
 ·obtain rfl : k = 0 := by have := hw.depth; have := hw.le; omega
  refine wp_exit (x_thenExit (x_thenExit (x_blockHit ?_)))
  refine x_thenNormal ?_
  refine zq 34 ⟨rfl, rfl⟩ ?_
  refine zR 2 qu88 qs24 ?_
  refine s_val (zo qg24 qs24 (H.at 1 rfl)) ?_
  refine s_st (zs H 0 32 qs24) (L' := (_ :: _ :: _ :: _)) rfl ?_
  intro w H
  refine zc (t30 (t4 [])) ?_
  refine wp_ret ?_
  refine zw (rc_one rfl (ro qg24 qs24 (H.at 0 rfl))) ?_
  exact ⟨_, by rw [hw.fin], by rw [hw.fin]; exact hF, H.sub (.cons _ (.cons _ (.cons _ (List.Sublist.refl _))))⟩

set_option maxHeartbeats 4000000 in
theorem key1_spec (x : Held) (w0 : World) :
  Calls Try.prog 43 #[.agg (hC x).toArray] w0 fun e w => ∃ v, e = .returned v ∧ (v = .tuple #[] ∧ St w0 [] w []) := by
 have H := St.refl w0
 refine c_enter (args := [.agg (hC x).toArray]) (l := t2 []) Try.func43 Try.ntmps43 rfl rfl ?_
 refine c_region (n := 2) ⟨rfl, rfl⟩ ?_
 refine s_new (m_box H rfl rfl) ?_
 intro w b1 H
 refine zb (t2 []) ?_
 refine e_end (res0 rfl) ⟨_, rfl, ?_⟩
 exact ⟨rfl, H.sub (.cons _ .slnil)⟩

set_option maxHeartbeats 4000000 in
theorem punc1n_spec (x : Held) (b : Nat) (w0 : World) (hown : Go.Er.Own w0 [(b, .cells [.slice none 0 0].toArray 85 (0, 0))]) :
  Calls Try.prog 35 #[.agg (hC x).toArray, .pointer (some ⟨b, 0, none⟩)] w0 fun e w => ∃ v, e = .returned v ∧ (∃ N, RestF b 85 88 [x] N ∧ v = .tuple #[] ∧ St w0 [b] w N) := by
 have H : St w0 [b] w0 [(b, .cells [.slice none 0 0].toArray 85 (0, 0))] := hown.st
 refine c_enter (args := [.agg (hC x).toArray, .pointer (some ⟨b, 0, none⟩)]) (l := t7 []) Try.func35 Try.ntmps35 rfl rfl ?_
 refine zq 7 ⟨rfl, rfl⟩ ?_
 refine s_new (m_box H rfl rfl) ?_
 intro w b2 H
 refine zc (t7 []) ?_
 refine c_region (n := 7) ⟨rfl, rfl⟩ ?_
 refine zL qg85 (H.at 1 rfl) ?_
 refine s_val (zo qg88 qs88 (H.at 0 rfl)) ?_
 refine s_new (m_bslice1 H qu85 qs88 qo88 (by omega) (by omega) rfl rfl (hC_length _)) ?_
 intro w b5 H
 refine s_any (m_append_nil H qu85 qu85 (fun _ h => nomatch h) qs88 qo88 rfl Try.typeInfo88 (by rw [bytesHeld]; omega) (by omega) (by rw [bytesHeld]; omega) (ec rfl (ec rfl en)) (Src.slice (H.at 0 rfl) (hC_td _) (hC_length _) (hC_one _))) ?_
 rintro v w ⟨b', cap', sp', rfl, hcap, H⟩
 skip
 refine s_st (m_store1 H 3 qs85 rfl rfl rfl rfl (by first | exact (by rw [kC_length]; omega) | exact (by rw [hC_length]; omega) | exact (by simp)) (by first | exact rfl | exact rfl)) (L' := [_,_,_,_]) rfl ?_
 intro w H
 refine zb (t7 []) ?_
 replace H := H.sub (.cons_cons _ (.cons _ (.cons _ (.cons_cons _ .slnil))))
 refine e_end (res0 rfl) ⟨_, rfl, ?_⟩
 rw [← hsC_one1 x] at hcap H
 exact ⟨_, .inr ⟨by simp, b', cap', sp', rfl, hcap⟩, rfl, H⟩

set_option maxHeartbeats 4000000 in
theorem punc1_spec (x : Held) (b bs cap : Nat) (acc : List Held) (sp : List Value) (hacc : acc.length ≤ 17) (hcap : cap * 34 ≤ (hsC acc ++ sp).length) (w0 : World) (hown : Go.Er.Own w0 [(bs, .cells (hsC acc ++ sp).toArray 88 (0, 0)), (b, .cells [.slice (some ⟨bs, 0, none⟩) acc.length cap].toArray 85 (0, 0))]) :
  Calls Try.prog 35 #[.agg (hC x).toArray, .pointer (some ⟨b, 0, none⟩)] w0 fun e w => ∃ v, e = .returned v ∧ (∃ N, RestF b 85 88 (acc ++ [x]) N ∧ v = .tuple #[] ∧ St w0 [bs, b] w N) := by
 have H : St w0 [bs, b] w0 _ := hown.st
 refine c_enter (args := [.agg (hC x).toArray, .pointer (some ⟨b, 0, none⟩)]) (l := t7 []) Try.func35 Try.ntmps35 rfl rfl ?_
 refine zq 7 ⟨rfl, rfl⟩ ?_
 refine s_new (m_box H rfl rfl) ?_
 intro w b2 H
 refine zc (t7 []) ?_
 refine c_region (n := 7) ⟨rfl, rfl⟩ ?_
 refine zL qg85 (H.at 2 rfl) ?_
 refine s_val (zo qg88 qs88 (H.at 0 rfl)) ?_
 refine s_new (m_bslice1 H qu85 qs88 qo88 (by omega) (by omega) rfl rfl (hC_length _)) ?_
 intro w b5 H
 refine s_any (m_append_own H 2 qu85 qu85 (fun _ h => nomatch h) qs88 qo88 rfl Try.typeInfo88 rfl (by rw [hsC_length]; omega) hcap (by rw [bytesHeld]; omega) (by rw [bytesHeld]; omega) (ec rfl (ec rfl en)) (Src.slice (H.at 0 rfl) (hC_td _) (hC_length _) (hC_one _))) ?_
 rintro v w ⟨b', cap', sp', rfl, hcap', H⟩
 skip
 refine s_st (m_store1 H 3 qs85 rfl rfl rfl rfl (by first | exact (by rw [kC_length]; omega) | exact (by rw [hC_length]; omega) | exact (by simp)) (by first | exact rfl | exact rfl)) (L' := [_,_,_,_]) rfl ?_
 intro w H
 refine zb (t7 []) ?_
 replace H := H.sub (.cons_cons _ (.cons _ (.cons _ (.cons_cons _ .slnil))))
 refine e_end (res0 rfl) ⟨_, rfl, ?_⟩
 have e : hsC acc ++ hC x = hsC (acc ++ [x]) := by rw [hsC_append, hsC_one1]
 rw [e] at H hcap'
 rw [show acc.length + 1 = (acc ++ [x]).length from by simp] at H
 exact ⟨_, .inr ⟨by simp, b', cap', sp', rfl, hcap'⟩, rfl, H⟩

set_option maxHeartbeats 4000000 in
theorem punc2_spec (x y : Held) (w0 : World) :
  Calls Try.prog 37 #[.agg (hC x).toArray, .agg (hC y).toArray] w0 fun e w => ∃ v, e = .returned v ∧ (v = .int .i64 (cmpI x.at_ y.at_) ∧ St w0 [] w []) := by
 have H := St.refl w0
 refine c_enter (args := [.agg (hC x).toArray, .agg (hC y).toArray]) (l := t10 []) Try.func37 Try.ntmps37 rfl rfl ?_
 refine zq 10 ⟨rfl, rfl⟩ ?_
 refine s_new (m_box H rfl rfl) ?_
 intro w b2 H
 refine s_new (m_box H rfl rfl) ?_
 intro w b3 H
 refine za ?_
 refine zc (t10 []) ?_
 refine zq 10 ⟨rfl, rfl⟩ ?_
 refine zR 1 qu88 qs28 ?_
 refine s_val (z2 qg28 (H.at 1 rfl)) ?_
 refine zR 1 qu88 qs28 ?_
 refine s_val (z2 qg28 (H.at 0 rfl)) ?_
 refine s_call (r_call Try.call38 (ec rfl (ec rfl en))) (compare_spec _ _ _) ?_
 rintro v w ⟨rfl, HC⟩
 replace H := H.quiet HC
 refine za ?_
 refine zc (t10 []) ?_
 refine wp_ret ?_
 refine zw (res1 rfl rfl) ?_
 exact ⟨rfl, H.sub (.cons _ (.cons _ .slnil))⟩

end Go.Proofs.Ytobfnieebiakeaa

