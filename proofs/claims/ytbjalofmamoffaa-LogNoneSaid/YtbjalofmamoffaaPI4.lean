import Derived.Test.YtbjalofmamoffaaPC3
import Derived.Test.YtbjalofmamoffaaPV2
namespace Go.Proofs.Ytbjalofmamoffaa
open Go Go.Er

set_option maxHeartbeats 4000000 in
theorem take_spec {ba bb : Nat} (bm bl : Nat) (x : LS) (q : Nat) (N : List (Nat × Obj)) (_hq : q ≤ 80000) (s t n gn : Int) (bd : Bd) (hO : x.head < 0 → x.known = 0) (hs0 : 0 ≤ s) (hs1 : s < x.g) (ht0 : 0 ≤ t) (ht1 : t < x.z) (hg0 : 0 ≤ gn) (hg1 : gn < 1000000000) (w0 : World) (hg : LogM 150 51 89 72 ba bb bm bl x q N) (hown : Go.Er.Own w0 N) :
    Calls Try.prog 43 #[.pointer (some ⟨bl, 0, none⟩), .int .i64 s, .int .i64 t, .agg (fdV n gn bd).toArray] w0 fun e w => ∃ v, e = .returned v ∧ (v = .tuple #[] ∧ ∃ N', LogM 150 51 89 72 ba bb bm bl (takeL x s t gn) q N' ∧ St w0 (N.map (·.1)) w N') := by
  obtain ⟨XN, hXN⟩ : ∃ X, X = N.map (·.1) := ⟨_, rfl⟩
  have H : St w0 XN w0 N := by rw [hXN]; exact hown.st
  have hg2 := hg
  obtain ⟨cs, bu, T, T2, Nm, rfl, hm, hF⟩ := hg2
  obtain ⟨fg0, fg1, fz0, fz1, fgl, fcl, fu, ⟨fh0, fh1⟩, ⟨fs0, fs1⟩, ⟨fk0, fk1⟩, fkg⟩ := id hF
  refine c_enter (args := [.pointer (some ⟨bl, 0, none⟩), .int .i64 s, .int .i64 t, .agg (fdV n gn bd).toArray]) (l := [.pointer (some ⟨bl, 0, none⟩), .int .i64 s, .int .i64 t, .agg (fdV n gn bd).toArray, undef, undef, undef, undef, undef, undef, undef, undef, undef, undef, undef, undef, undef, undef, undef, undef, undef, undef, undef, undef, undef, undef, undef, undef, undef, undef, undef, undef, undef, undef, undef, undef, undef, undef, undef, undef, undef, undef, undef, undef, undef, undef, undef, undef, undef, undef, undef, undef, undef, undef, undef, undef, undef, undef, undef, undef, undef, undef, undef, undef, undef, undef, undef, undef, undef, undef, undef]) Try.func43 Try.ntmps43 rfl rfl ?_
  refine c_rseq (n := 71) ⟨rfl, rfl⟩ ?_
  refine s_new (m_box (cs := (fdV n gn bd)) H rfl rfl) ?_
  intro w b7 H
  refine c_nil (l' := [_,_,_,_,_,_,_,_,_,_,_,_,_,_,_,_,_,_,_,_,_,_,_,_,_,_,_,_,_,_,_,_,_,_,_,_,_,_,_,_,_,_,_,_,_,_,_,_,_,_,_,_,_,_,_,_,_,_,_,_,_,_,_,_,_,_,_,_,_,_,_]) rfl ?_
  refine c_seq ?_
  refine c_seq ?_
  refine d_begin (sz := 71) ⟨rfl, rfl⟩ (by kernel_rfl) H (H.sub (.cons_cons _ (.cons_cons _ (.cons_cons _ (List.nil_sublist _))))) rfl ?_
  intro w H
  refine d_take (i := 0) rfl (by kernel_rfl) (fun _ _ _ h => h) (H.sub (.cons_cons _ (.cons_cons _ (.cons_cons _ (List.nil_sublist _))))) (fun _ _ => r_fieldAddr (k := 1) Try.runUnderlying74 rfl Try.sizeOf36 (by decide) rfl rfl) rfl ?_
  refine d_take (i := 1) rfl (by kernel_rfl) (fun _ _ _ h => h) (H.sub (.cons_cons _ (.cons_cons _ (.cons_cons _ (List.nil_sublist _))))) (fun _ HS => r_load1 Try.isAgg36 rfl (HS.at 0 rfl) rfl) rfl ?_
  refine d_take (i := 2) rfl (by kernel_rfl) (fun _ _ _ h => h) (H.sub (.cons_cons _ (.cons_cons _ (.cons_cons _ (List.nil_sublist _))))) (fun _ _ => r_move rfl) rfl ?_
  refine d_take (i := 3) rfl (by kernel_rfl) (fun _ _ _ h => h) (H.sub (.cons_cons _ (.cons_cons _ (.cons_cons _ (List.nil_sublist _))))) (fun _ _ => r_nilCheck rfl) rfl ?_
  refine d_take (i := 4) rfl (by kernel_rfl) (fun _ _ _ h => h) (H.sub (.cons_cons _ (.cons_cons _ (.cons_cons _ (List.nil_sublist _))))) (fun _ _ => r_fieldAddr (k := 4) Try.runUnderlying91 rfl Try.sizeOf35 (by decide) rfl rfl) rfl ?_
  refine d_take (i := 5) rfl (by kernel_rfl) (fun _ _ _ h => h) (H.sub (.cons_cons _ (.cons_cons _ (.cons_cons _ (List.nil_sublist _))))) (fun _ HS => r_load1 Try.isAgg35 rfl (HS.at 1 rfl) rfl) rfl ?_
  refine d_take (i := 6) rfl (by kernel_rfl) (fun _ _ _ h => h) (H.sub (.cons_cons _ (.cons_cons _ (.cons_cons _ (List.nil_sublist _))))) (fun _ _ => r_move rfl) rfl ?_
  refine d_take (i := 7) rfl (by kernel_rfl) (fun _ _ _ h => h) (H.sub (.cons_cons _ (.cons_cons _ (.cons_cons _ (List.nil_sublist _))))) (fun _ _ => r_indexAddrS Try.runUnderlying35 Try.sizeOf36 rfl rfl (by omega) (by omega)) rfl ?_
  refine d_take (i := 8) rfl (by kernel_rfl) (fun _ _ _ h => h) (H.sub (.cons_cons _ (.cons_cons _ (.cons_cons _ (List.nil_sublist _))))) (fun _ HS => r_load1 Try.isAgg36 rfl (HS.at 2 rfl) (uC_at x.gens (i := s.toNat) (by omega) (by omega))) rfl ?_
  refine d_take (i := 9) rfl (by kernel_rfl) (fun _ _ _ h => h) (H.sub (.cons_cons _ (.cons_cons _ (.cons_cons _ (List.nil_sublist _))))) (fun _ _ => r_geq rfl rfl) rfl ?_
  refine d_done (l' := [_,_,_,_,_,_,_,_,_,_,_,_,_,_,_,_,_,_,_,_,_,_,_,_,_,_,_,_,_,_,_,_,_,_,_,_,_,_,_,_,_,_,_,_,_,_,_,_,_,_,_,_,_,_,_,_,_,_,_,_,_,_,_,_,_,_,_,_,_,_,_]) (by kernel_rfl) rfl ?_
  refine x_thenNormal ?_
  refine c_if rfl (fun h17 => ?_) (fun h17 => ?_)
  · skip
    refine d_begin (sz := 71) ⟨rfl, rfl⟩ (by kernel_rfl) H (H.sub (.cons_cons _ (.cons_cons _ (List.nil_sublist _)))) rfl ?_
    intro w H
    refine d_take (i := 0) rfl (by kernel_rfl) (fun _ _ _ h => h) (H.sub (.cons_cons _ (.cons_cons _ (List.nil_sublist _)))) (fun _ _ => r_move rfl) rfl ?_
    refine d_take (i := 1) rfl (by kernel_rfl) (fun _ _ _ h => h) (H.sub (.cons_cons _ (.cons_cons _ (List.nil_sublist _)))) (fun _ _ => r_nilCheck rfl) rfl ?_
    refine d_take (i := 2) rfl (by kernel_rfl) (fun _ _ _ h => h) (H.sub (.cons_cons _ (.cons_cons _ (List.nil_sublist _)))) (fun _ _ => r_fieldAddr (k := 4) Try.runUnderlying91 rfl Try.sizeOf35 (by decide) rfl rfl) rfl ?_
    refine d_take (i := 3) rfl (by kernel_rfl) (fun _ _ _ h => h) (H.sub (.cons_cons _ (.cons_cons _ (List.nil_sublist _)))) (fun _ HS => r_load1 Try.isAgg35 rfl (HS.at 1 rfl) rfl) rfl ?_
    refine d_take (i := 4) rfl (by kernel_rfl) (fun _ _ _ h => h) (H.sub (.cons_cons _ (.cons_cons _ (List.nil_sublist _)))) (fun _ _ => r_move rfl) rfl ?_
    refine d_take (i := 5) rfl (by kernel_rfl) (fun _ _ _ h => h) (H.sub (.cons_cons _ (.cons_cons _ (List.nil_sublist _)))) (fun _ _ => r_fieldAddr (k := 1) Try.runUnderlying74 rfl Try.sizeOf36 (by decide) rfl rfl) rfl ?_
    refine d_take (i := 6) rfl (by kernel_rfl) (fun _ _ _ h => h) (H.sub (.cons_cons _ (.cons_cons _ (List.nil_sublist _)))) (fun _ HS => r_load1 Try.isAgg36 rfl (HS.at 0 rfl) rfl) rfl ?_
    refine d_take (i := 7) rfl (by kernel_rfl) (fun _ _ _ h => h) (H.sub (.cons_cons _ (.cons_cons _ (List.nil_sublist _)))) (fun _ _ => r_indexAddrS Try.runUnderlying35 Try.sizeOf36 rfl rfl (by omega) (by omega)) rfl ?_
    refine d_all1 (i := 8) (by kernel_rfl) ?_
    refine b_st rfl go_none (m_store1 H 2 Try.sizeOf36 rfl rfl rfl rfl (by rw [uC_length]; omega) (uC_set x.gens s.toNat gn (by omega))) (L' := (_ :: _ :: _ :: _)) rfl rfl (fun _ H => (H.sub (.cons_cons _ (.cons_cons _ (List.nil_sublist _))))) ?_
    intro w H
    refine d_done (l' := [_,_,_,_,_,_,_,_,_,_,_,_,_,_,_,_,_,_,_,_,_,_,_,_,_,_,_,_,_,_,_,_,_,_,_,_,_,_,_,_,_,_,_,_,_,_,_,_,_,_,_,_,_,_,_,_,_,_,_,_,_,_,_,_,_,_,_,_,_,_,_]) (by kernel_rfl) rfl ?_
    refine x_thenNormal ?_
    refine c_seq ?_
    refine d_begin (sz := 71) ⟨rfl, rfl⟩ (by kernel_rfl) H (H.sub (.cons_cons _ (.cons_cons _ (.cons_cons _ (List.nil_sublist _))))) rfl ?_
    intro w H
    refine d_take (i := 0) rfl (by kernel_rfl) (fun _ _ _ h => h) (H.sub (.cons_cons _ (.cons_cons _ (.cons_cons _ (List.nil_sublist _))))) (fun _ _ => r_fieldAddr (k := 1) Try.runUnderlying74 rfl Try.sizeOf36 (by decide) rfl rfl) rfl ?_
    refine d_take (i := 1) rfl (by kernel_rfl) (fun _ _ _ h => h) (H.sub (.cons_cons _ (.cons_cons _ (.cons_cons _ (List.nil_sublist _))))) (fun _ HS => r_load1 Try.isAgg36 rfl (HS.at 0 rfl) rfl) rfl ?_
    refine d_take (i := 2) rfl (by kernel_rfl) (fun _ _ _ h => h) (H.sub (.cons_cons _ (.cons_cons _ (.cons_cons _ (List.nil_sublist _))))) (fun _ _ => r_move rfl) rfl ?_
    refine d_take (i := 3) rfl (by kernel_rfl) (fun _ _ _ h => h) (H.sub (.cons_cons _ (.cons_cons _ (.cons_cons _ (List.nil_sublist _))))) (fun _ _ => r_nilCheck rfl) rfl ?_
    refine d_take (i := 4) rfl (by kernel_rfl) (fun _ _ _ h => h) (H.sub (.cons_cons _ (.cons_cons _ (.cons_cons _ (List.nil_sublist _))))) (fun _ _ => r_fieldAddr (k := 7) Try.runUnderlying91 rfl Try.sizeOf36 (by decide) rfl rfl) rfl ?_
    refine d_take (i := 5) rfl (by kernel_rfl) (fun _ _ _ h => h) (H.sub (.cons_cons _ (.cons_cons _ (.cons_cons _ (List.nil_sublist _))))) (fun _ HS => r_load1 Try.isAgg36 rfl (HS.at 1 rfl) rfl) rfl ?_
    refine d_take (i := 6) rfl (by kernel_rfl) (fun _ _ _ h => h) (H.sub (.cons_cons _ (.cons_cons _ (.cons_cons _ (List.nil_sublist _))))) (fun _ _ => r_gtr rfl rfl) rfl ?_
    refine d_part (fun h32 => ?_) (fun h32 => ?_)
    · skip
      refine d_take (i := 7) rfl (by kernel_rfl) (fun _ _ _ h => h) (H.sub (.cons_cons _ (.cons_cons _ (.cons_cons _ (List.nil_sublist _))))) (fun _ _ => r_move rfl) rfl ?_
      refine d_takeN (i := 8) rfl (by kernel_rfl) (fun _ _ _ h => h) rfl rfl (by decide) (H.sub (.cons_cons _ (.cons_cons _ (.cons_cons _ (List.nil_sublist _))))) rfl ?_
      refine d_takeN (i := 9) rfl (by kernel_rfl) (fun _ _ _ h => h) rfl rfl (by decide) (H.sub (.cons_cons _ (.cons_cons _ (.cons_cons _ (List.nil_sublist _))))) rfl ?_
      refine d_takeN (i := 10) rfl (by kernel_rfl) (fun _ _ _ h => h) rfl rfl (by decide) (H.sub (.cons_cons _ (.cons_cons _ (.cons_cons _ (List.nil_sublist _))))) rfl ?_
      refine d_takeN (i := 11) rfl (by kernel_rfl) (fun _ _ _ h => h) rfl rfl (by decide) (H.sub (.cons_cons _ (.cons_cons _ (.cons_cons _ (List.nil_sublist _))))) rfl ?_
      refine d_takeN (i := 12) rfl (by kernel_rfl) (fun _ _ _ h => h) rfl rfl (by decide) (H.sub (.cons_cons _ (.cons_cons _ (.cons_cons _ (List.nil_sublist _))))) rfl ?_
      refine d_take (i := 13) rfl (by kernel_rfl) (fun _ _ _ h => h) (H.sub (.cons_cons _ (.cons_cons _ (.cons_cons _ (List.nil_sublist _))))) (fun _ _ => r_pickt rfl rfl) rfl ?_
      refine d_take (i := 14) rfl (by kernel_rfl) (fun _ _ _ h => h) (H.sub (.cons_cons _ (.cons_cons _ (.cons_cons _ (List.nil_sublist _))))) (fun _ _ => r_move rfl) rfl ?_
      refine d_takeN (i := 15) rfl (by kernel_rfl) (fun _ _ _ h => h) rfl rfl (by decide) (H.sub (.cons_cons _ (.cons_cons _ (.cons_cons _ (List.nil_sublist _))))) rfl ?_
      refine d_takeN (i := 16) rfl (by kernel_rfl) (fun _ _ _ h => h) rfl rfl (by decide) (H.sub (.cons_cons _ (.cons_cons _ (.cons_cons _ (List.nil_sublist _))))) rfl ?_
      refine d_takeN (i := 17) rfl (by kernel_rfl) (fun _ _ _ h => h) rfl rfl (by decide) (H.sub (.cons_cons _ (.cons_cons _ (.cons_cons _ (List.nil_sublist _))))) rfl ?_
      refine d_takeN (i := 18) rfl (by kernel_rfl) (fun _ _ _ h => h) rfl rfl (by decide) (H.sub (.cons_cons _ (.cons_cons _ (.cons_cons _ (List.nil_sublist _))))) rfl ?_
      refine d_takeN (i := 19) rfl (by kernel_rfl) (fun _ _ _ h => h) rfl rfl (by decide) (H.sub (.cons_cons _ (.cons_cons _ (.cons_cons _ (List.nil_sublist _))))) rfl ?_
      refine d_takeN (i := 20) rfl (by kernel_rfl) (fun _ _ _ h => h) rfl rfl (by decide) (H.sub (.cons_cons _ (.cons_cons _ (.cons_cons _ (List.nil_sublist _))))) rfl ?_
      refine d_takeN (i := 21) rfl (by kernel_rfl) (fun _ _ _ h => h) rfl rfl (by decide) (H.sub (.cons_cons _ (.cons_cons _ (.cons_cons _ (List.nil_sublist _))))) rfl ?_
      refine d_takeN (i := 22) rfl (by kernel_rfl) (fun _ _ _ h => h) rfl rfl (by decide) (H.sub (.cons_cons _ (.cons_cons _ (.cons_cons _ (List.nil_sublist _))))) rfl ?_
      refine d_takeU (i := 23) rfl (by kernel_rfl) (fun _ _ _ h => h) rfl rfl (H.sub (.cons_cons _ (.cons_cons _ (.cons_cons _ (List.nil_sublist _))))) rfl ?_
      refine d_takeU (i := 24) rfl (by kernel_rfl) (fun _ _ _ h => h) rfl rfl (H.sub (.cons_cons _ (.cons_cons _ (.cons_cons _ (List.nil_sublist _))))) rfl ?_
      refine d_takeU (i := 25) rfl (by kernel_rfl) (fun _ _ _ h => h) rfl rfl (H.sub (.cons_cons _ (.cons_cons _ (.cons_cons _ (List.nil_sublist _))))) rfl ?_
      refine d_takeU (i := 26) rfl (by kernel_rfl) (fun _ _ _ h => h) rfl rfl (H.sub (.cons_cons _ (.cons_cons _ (.cons_cons _ (List.nil_sublist _))))) rfl ?_
      refine d_takeU (i := 27) rfl (by kernel_rfl) (fun _ _ _ h => h) rfl rfl (H.sub (.cons_cons _ (.cons_cons _ (.cons_cons _ (List.nil_sublist _))))) rfl ?_
      refine d_takeU (i := 28) rfl (by kernel_rfl) (fun _ _ _ h => h) rfl rfl (H.sub (.cons_cons _ (.cons_cons _ (.cons_cons _ (List.nil_sublist _))))) rfl ?_
      refine d_takeN (i := 29) rfl (by kernel_rfl) (fun _ _ _ h => h) rfl rfl (by decide) (H.sub (.cons_cons _ (.cons_cons _ (.cons_cons _ (List.nil_sublist _))))) rfl ?_
      refine d_take (i := 30) rfl (by kernel_rfl) (fun _ _ _ h => h) (H.sub (.cons_cons _ (.cons_cons _ (.cons_cons _ (List.nil_sublist _))))) (fun _ _ => r_pickt rfl rfl) rfl ?_
      refine d_done (l' := [_,_,_,_,_,_,_,_,_,_,_,_,_,_,_,_,_,_,_,_,_,_,_,_,_,_,_,_,_,_,_,_,_,_,_,_,_,_,_,_,_,_,_,_,_,_,_,_,_,_,_,_,_,_,_,_,_,_,_,_,_,_,_,_,_,_,_,_,_,_,_]) (by kernel_rfl) rfl ?_
      refine x_thenNormal ?_
      refine c_ift rfl ?_
      refine c_region (n := 71) ⟨rfl, rfl⟩ ?_
      refine s_val (r_move rfl) ?_
      refine s_val (r_move rfl) ?_
      refine s_val (r_move rfl) ?_
      refine s_val (r_fieldAddr (k := 1) Try.runUnderlying74 rfl Try.sizeOf36 (by decide) rfl rfl) ?_
      refine s_val (r_load1 Try.isAgg36 rfl (H.at 0 rfl) rfl) ?_
      refine s_val (r_move rfl) ?_
      refine s_val (r_move rfl) ?_
      refine s_val (r_add rfl rfl (w_i64 (by omega) (by omega))) ?_
      refine s_val (r_nilCheck rfl) ?_
      refine s_val (r_fieldAddr (k := 7) Try.runUnderlying91 rfl Try.sizeOf36 (by decide) rfl rfl) ?_
      refine s_st (m_store1 H 1 Try.sizeOf36 rfl rfl rfl rfl (by show _ < 8; omega) rfl) (L' := (_ :: _ :: _ :: _)) rfl ?_
      intro w H
      refine s_val (r_nilCheck rfl) ?_
      refine s_val (r_fieldAddr (k := 5) Try.runUnderlying91 rfl Try.sizeOf3 (by decide) rfl rfl) ?_
      refine s_st (m_store1 H 1 Try.sizeOf3 rfl rfl rfl rfl (by show _ < 8; omega) rfl) (L' := (_ :: _ :: _ :: _)) rfl ?_
      intro w H
      refine s_val (r_nilCheck rfl) ?_
      refine s_val (r_fieldAddr (k := 6) Try.runUnderlying91 rfl Try.sizeOf3 (by decide) rfl rfl) ?_
      refine s_st (m_store1 H 1 Try.sizeOf3 rfl rfl rfl rfl (by show _ < 8; omega) rfl) (L' := (_ :: _ :: _ :: _)) rfl ?_
      intro w H
      refine c_nil0 (l' := [_,_,_,_,_,_,_,_,_,_,_,_,_,_,_,_,_,_,_,_,_,_,_,_,_,_,_,_,_,_,_,_,_,_,_,_,_,_,_,_,_,_,_,_,_,_,_,_,_,_,_,_,_,_,_,_,_,_,_,_,_,_,_,_,_,_,_,_,_,_,_]) rfl ?_
      refine e_end (res0 rfl) ⟨_, rfl, ?_⟩
      have hge : x.gens.getD s.toNat 0 ≤ gn := by omega
      have hc : (x.known < gn ∨ x.head < 0 ∨ (gn = x.known ∧ s = x.head)) := by omega
      have e : takeL x s t gn = { x with gens := x.gens.set s.toNat gn, known := gn, head := s, slot := t + 1 } := by unfold takeL; rw [if_pos hc, if_pos hge]
      have hF2 := (LogO.take ⟨hF, hO⟩ hs0 hs1 ht0 ht1 hg0 hg1).1
      rw [e] at hF2 ⊢
      rw [← hXN]
      exact ⟨rfl, _, ⟨cs, bu, T, T2, Nm, by show _ = (bl, Obj.cells (lgC _ _ _ _ _ (List.length (List.set _ _ _)) _ _ _).toArray T (0, 0)) :: _; rw [List.length_set]; try rfl, hm, hF2⟩, H.sub (.cons _ (List.Sublist.refl _))⟩
    · skip
      refine d_take (i := 7) rfl (by kernel_rfl) (fun _ _ _ h => h) (H.sub (.cons_cons _ (.cons_cons _ (.cons_cons _ (List.nil_sublist _))))) (fun _ _ => r_move rfl) rfl ?_
      refine d_takeG (i := 8) rfl (by kernel_rfl) (fun _ _ _ h => h) rfl rfl (H.sub (.cons_cons _ (.cons_cons _ (.cons_cons _ (List.nil_sublist _))))) (fun _ _ => r_move rfl) rfl ?_
      refine d_takeG (i := 9) rfl (by kernel_rfl) (fun _ _ _ h => h) rfl rfl (H.sub (.cons_cons _ (.cons_cons _ (.cons_cons _ (List.nil_sublist _))))) (fun _ _ => r_nilCheck rfl) rfl ?_
      refine d_takeG (i := 10) rfl (by kernel_rfl) (fun _ _ _ h => h) rfl rfl (H.sub (.cons_cons _ (.cons_cons _ (.cons_cons _ (List.nil_sublist _))))) (fun _ _ => r_fieldAddr (k := 5) Try.runUnderlying91 rfl Try.sizeOf3 (by decide) rfl rfl) rfl ?_
      refine d_takeG (i := 11) rfl (by kernel_rfl) (fun _ _ _ h => h) rfl rfl (H.sub (.cons_cons _ (.cons_cons _ (.cons_cons _ (List.nil_sublist _))))) (fun _ HS => r_load1 Try.isAgg3 rfl (HS.at 1 rfl) rfl) rfl ?_
      refine d_takeG (i := 12) rfl (by kernel_rfl) (fun _ _ _ h => h) rfl rfl (H.sub (.cons_cons _ (.cons_cons _ (.cons_cons _ (List.nil_sublist _))))) (fun _ _ => r_lss rfl rfl) rfl ?_
      refine d_part (fun h38 => ?_) (fun h38 => ?_)
      · skip
        refine d_take (i := 13) rfl (by kernel_rfl) (fun _ _ _ h => h) (H.sub (.cons_cons _ (.cons_cons _ (.cons_cons _ (List.nil_sublist _))))) (fun _ _ => r_pickf rfl rfl) rfl ?_
        refine d_take (i := 14) rfl (by kernel_rfl) (fun _ _ _ h => h) (H.sub (.cons_cons _ (.cons_cons _ (.cons_cons _ (List.nil_sublist _))))) (fun _ _ => r_move rfl) rfl ?_
        refine d_takeN (i := 15) rfl (by kernel_rfl) (fun _ _ _ h => h) rfl rfl (by decide) (H.sub (.cons_cons _ (.cons_cons _ (.cons_cons _ (List.nil_sublist _))))) rfl ?_
        refine d_takeN (i := 16) rfl (by kernel_rfl) (fun _ _ _ h => h) rfl rfl (by decide) (H.sub (.cons_cons _ (.cons_cons _ (.cons_cons _ (List.nil_sublist _))))) rfl ?_
        refine d_takeN (i := 17) rfl (by kernel_rfl) (fun _ _ _ h => h) rfl rfl (by decide) (H.sub (.cons_cons _ (.cons_cons _ (.cons_cons _ (List.nil_sublist _))))) rfl ?_
        refine d_takeN (i := 18) rfl (by kernel_rfl) (fun _ _ _ h => h) rfl rfl (by decide) (H.sub (.cons_cons _ (.cons_cons _ (.cons_cons _ (List.nil_sublist _))))) rfl ?_
        refine d_takeN (i := 19) rfl (by kernel_rfl) (fun _ _ _ h => h) rfl rfl (by decide) (H.sub (.cons_cons _ (.cons_cons _ (.cons_cons _ (List.nil_sublist _))))) rfl ?_
        refine d_takeN (i := 20) rfl (by kernel_rfl) (fun _ _ _ h => h) rfl rfl (by decide) (H.sub (.cons_cons _ (.cons_cons _ (.cons_cons _ (List.nil_sublist _))))) rfl ?_
        refine d_takeN (i := 21) rfl (by kernel_rfl) (fun _ _ _ h => h) rfl rfl (by decide) (H.sub (.cons_cons _ (.cons_cons _ (.cons_cons _ (List.nil_sublist _))))) rfl ?_
        refine d_takeN (i := 22) rfl (by kernel_rfl) (fun _ _ _ h => h) rfl rfl (by decide) (H.sub (.cons_cons _ (.cons_cons _ (.cons_cons _ (List.nil_sublist _))))) rfl ?_
        refine d_takeU (i := 23) rfl (by kernel_rfl) (fun _ _ _ h => h) rfl rfl (H.sub (.cons_cons _ (.cons_cons _ (.cons_cons _ (List.nil_sublist _))))) rfl ?_
        refine d_takeU (i := 24) rfl (by kernel_rfl) (fun _ _ _ h => h) rfl rfl (H.sub (.cons_cons _ (.cons_cons _ (.cons_cons _ (List.nil_sublist _))))) rfl ?_
        refine d_takeU (i := 25) rfl (by kernel_rfl) (fun _ _ _ h => h) rfl rfl (H.sub (.cons_cons _ (.cons_cons _ (.cons_cons _ (List.nil_sublist _))))) rfl ?_
        refine d_takeU (i := 26) rfl (by kernel_rfl) (fun _ _ _ h => h) rfl rfl (H.sub (.cons_cons _ (.cons_cons _ (.cons_cons _ (List.nil_sublist _))))) rfl ?_
        refine d_takeU (i := 27) rfl (by kernel_rfl) (fun _ _ _ h => h) rfl rfl (H.sub (.cons_cons _ (.cons_cons _ (.cons_cons _ (List.nil_sublist _))))) rfl ?_
        refine d_takeU (i := 28) rfl (by kernel_rfl) (fun _ _ _ h => h) rfl rfl (H.sub (.cons_cons _ (.cons_cons _ (.cons_cons _ (List.nil_sublist _))))) rfl ?_
        refine d_takeN (i := 29) rfl (by kernel_rfl) (fun _ _ _ h => h) rfl rfl (by decide) (H.sub (.cons_cons _ (.cons_cons _ (.cons_cons _ (List.nil_sublist _))))) rfl ?_
        refine d_take (i := 30) rfl (by kernel_rfl) (fun _ _ _ h => h) (H.sub (.cons_cons _ (.cons_cons _ (.cons_cons _ (List.nil_sublist _))))) (fun _ _ => r_pickt rfl rfl) rfl ?_
        refine d_done (l' := [_,_,_,_,_,_,_,_,_,_,_,_,_,_,_,_,_,_,_,_,_,_,_,_,_,_,_,_,_,_,_,_,_,_,_,_,_,_,_,_,_,_,_,_,_,_,_,_,_,_,_,_,_,_,_,_,_,_,_,_,_,_,_,_,_,_,_,_,_,_,_]) (by kernel_rfl) rfl ?_
        refine x_thenNormal ?_
        refine c_ift rfl ?_
        refine c_region (n := 71) ⟨rfl, rfl⟩ ?_
        refine s_val (r_move rfl) ?_
        refine s_val (r_move rfl) ?_
        refine s_val (r_move rfl) ?_
        refine s_val (r_fieldAddr (k := 1) Try.runUnderlying74 rfl Try.sizeOf36 (by decide) rfl rfl) ?_
        refine s_val (r_load1 Try.isAgg36 rfl (H.at 0 rfl) rfl) ?_
        refine s_val (r_move rfl) ?_
        refine s_val (r_move rfl) ?_
        refine s_val (r_add rfl rfl (w_i64 (by omega) (by omega))) ?_
        refine s_val (r_nilCheck rfl) ?_
        refine s_val (r_fieldAddr (k := 7) Try.runUnderlying91 rfl Try.sizeOf36 (by decide) rfl rfl) ?_
        refine s_st (m_store1 H 1 Try.sizeOf36 rfl rfl rfl rfl (by show _ < 8; omega) rfl) (L' := (_ :: _ :: _ :: _)) rfl ?_
        intro w H
        refine s_val (r_nilCheck rfl) ?_
        refine s_val (r_fieldAddr (k := 5) Try.runUnderlying91 rfl Try.sizeOf3 (by decide) rfl rfl) ?_
        refine s_st (m_store1 H 1 Try.sizeOf3 rfl rfl rfl rfl (by show _ < 8; omega) rfl) (L' := (_ :: _ :: _ :: _)) rfl ?_
        intro w H
        refine s_val (r_nilCheck rfl) ?_
        refine s_val (r_fieldAddr (k := 6) Try.runUnderlying91 rfl Try.sizeOf3 (by decide) rfl rfl) ?_
        refine s_st (m_store1 H 1 Try.sizeOf3 rfl rfl rfl rfl (by show _ < 8; omega) rfl) (L' := (_ :: _ :: _ :: _)) rfl ?_
        intro w H
        refine c_nil0 (l' := [_,_,_,_,_,_,_,_,_,_,_,_,_,_,_,_,_,_,_,_,_,_,_,_,_,_,_,_,_,_,_,_,_,_,_,_,_,_,_,_,_,_,_,_,_,_,_,_,_,_,_,_,_,_,_,_,_,_,_,_,_,_,_,_,_,_,_,_,_,_,_]) rfl ?_
        refine e_end (res0 rfl) ⟨_, rfl, ?_⟩
        have hge : x.gens.getD s.toNat 0 ≤ gn := by omega
        have hc : (x.known < gn ∨ x.head < 0 ∨ (gn = x.known ∧ s = x.head)) := by omega
        have e : takeL x s t gn = { x with gens := x.gens.set s.toNat gn, known := gn, head := s, slot := t + 1 } := by unfold takeL; rw [if_pos hc, if_pos hge]
        have hF2 := (LogO.take ⟨hF, hO⟩ hs0 hs1 ht0 ht1 hg0 hg1).1
        rw [e] at hF2 ⊢
        rw [← hXN]
        exact ⟨rfl, _, ⟨cs, bu, T, T2, Nm, by show _ = (bl, Obj.cells (lgC _ _ _ _ _ (List.length (List.set _ _ _)) _ _ _).toArray T (0, 0)) :: _; rw [List.length_set]; try rfl, hm, hF2⟩, H.sub (.cons _ (List.Sublist.refl _))⟩
      · skip
        refine d_take (i := 13) rfl (by kernel_rfl) (fun _ _ _ h => h) (H.sub (.cons_cons _ (.cons_cons _ (.cons_cons _ (List.nil_sublist _))))) (fun _ _ => r_pickf rfl rfl) rfl ?_
        refine d_take (i := 14) rfl (by kernel_rfl) (fun _ _ _ h => h) (H.sub (.cons_cons _ (.cons_cons _ (.cons_cons _ (List.nil_sublist _))))) (fun _ _ => r_move rfl) rfl ?_
        refine d_takeG (i := 15) rfl (by kernel_rfl) (fun _ _ _ h => h) rfl rfl (H.sub (.cons_cons _ (.cons_cons _ (.cons_cons _ (List.nil_sublist _))))) (fun _ _ => r_fieldAddr (k := 1) Try.runUnderlying74 rfl Try.sizeOf36 (by decide) rfl rfl) rfl ?_
        refine d_takeG (i := 16) rfl (by kernel_rfl) (fun _ _ _ h => h) rfl rfl (H.sub (.cons_cons _ (.cons_cons _ (.cons_cons _ (List.nil_sublist _))))) (fun _ HS => r_load1 Try.isAgg36 rfl (HS.at 0 rfl) rfl) rfl ?_
        refine d_takeG (i := 17) rfl (by kernel_rfl) (fun _ _ _ h => h) rfl rfl (H.sub (.cons_cons _ (.cons_cons _ (.cons_cons _ (List.nil_sublist _))))) (fun _ _ => r_move rfl) rfl ?_
        refine d_takeG (i := 18) rfl (by kernel_rfl) (fun _ _ _ h => h) rfl rfl (H.sub (.cons_cons _ (.cons_cons _ (.cons_cons _ (List.nil_sublist _))))) (fun _ _ => r_nilCheck rfl) rfl ?_
        refine d_takeG (i := 19) rfl (by kernel_rfl) (fun _ _ _ h => h) rfl rfl (H.sub (.cons_cons _ (.cons_cons _ (.cons_cons _ (List.nil_sublist _))))) (fun _ _ => r_fieldAddr (k := 7) Try.runUnderlying91 rfl Try.sizeOf36 (by decide) rfl rfl) rfl ?_
        refine d_takeG (i := 20) rfl (by kernel_rfl) (fun _ _ _ h => h) rfl rfl (H.sub (.cons_cons _ (.cons_cons _ (.cons_cons _ (List.nil_sublist _))))) (fun _ HS => r_load1 Try.isAgg36 rfl (HS.at 1 rfl) rfl) rfl ?_
        refine d_takeG (i := 21) rfl (by kernel_rfl) (fun _ _ _ h => h) rfl rfl (H.sub (.cons_cons _ (.cons_cons _ (.cons_cons _ (List.nil_sublist _))))) (fun _ _ => r_eql rfl rfl) rfl ?_
        refine d_part (fun h47 => ?_) (fun h47 => ?_)
        · skip
          refine d_takeG (i := 22) rfl (by kernel_rfl) (fun _ _ _ h => h) rfl rfl (H.sub (.cons_cons _ (.cons_cons _ (.cons_cons _ (List.nil_sublist _))))) (fun _ _ => r_move rfl) rfl ?_
          refine d_takeG (i := 23) rfl (by kernel_rfl) (fun _ _ _ h => h) rfl rfl (H.sub (.cons_cons _ (.cons_cons _ (.cons_cons _ (List.nil_sublist _))))) (fun _ _ => r_move rfl) rfl ?_
          refine d_takeG (i := 24) rfl (by kernel_rfl) (fun _ _ _ h => h) rfl rfl (H.sub (.cons_cons _ (.cons_cons _ (.cons_cons _ (List.nil_sublist _))))) (fun _ _ => r_move rfl) rfl ?_
          refine d_takeG (i := 25) rfl (by kernel_rfl) (fun _ _ _ h => h) rfl rfl (H.sub (.cons_cons _ (.cons_cons _ (.cons_cons _ (List.nil_sublist _))))) (fun _ _ => r_nilCheck rfl) rfl ?_
          refine d_takeG (i := 26) rfl (by kernel_rfl) (fun _ _ _ h => h) rfl rfl (H.sub (.cons_cons _ (.cons_cons _ (.cons_cons _ (List.nil_sublist _))))) (fun _ _ => r_fieldAddr (k := 5) Try.runUnderlying91 rfl Try.sizeOf3 (by decide) rfl rfl) rfl ?_
          refine d_takeG (i := 27) rfl (by kernel_rfl) (fun _ _ _ h => h) rfl rfl (H.sub (.cons_cons _ (.cons_cons _ (.cons_cons _ (List.nil_sublist _))))) (fun _ HS => r_load1 Try.isAgg3 rfl (HS.at 1 rfl) rfl) rfl ?_
          refine d_takeG (i := 28) rfl (by kernel_rfl) (fun _ _ _ h => h) rfl rfl (H.sub (.cons_cons _ (.cons_cons _ (.cons_cons _ (List.nil_sublist _))))) (fun _ _ => r_eql rfl rfl) rfl ?_
          refine d_takeG (i := 29) rfl (by kernel_rfl) (fun _ _ _ h => h) rfl rfl (H.sub (.cons_cons _ (.cons_cons _ (.cons_cons _ (List.nil_sublist _))))) (fun _ _ => r_pickt rfl rfl) rfl ?_
          refine d_take (i := 30) rfl (by kernel_rfl) (fun _ _ _ h => h) (H.sub (.cons_cons _ (.cons_cons _ (.cons_cons _ (List.nil_sublist _))))) (fun _ _ => r_pickf rfl rfl) rfl ?_
          refine d_done (l' := [_,_,_,_,_,_,_,_,_,_,_,_,_,_,_,_,_,_,_,_,_,_,_,_,_,_,_,_,_,_,_,_,_,_,_,_,_,_,_,_,_,_,_,_,_,_,_,_,_,_,_,_,_,_,_,_,_,_,_,_,_,_,_,_,_,_,_,_,_,_,_]) (by kernel_rfl) rfl ?_
          refine x_thenNormal ?_
          refine c_if rfl (fun h56 => ?_) (fun h56 => ?_)
          · skip
            refine c_region (n := 71) ⟨rfl, rfl⟩ ?_
            refine s_val (r_move rfl) ?_
            refine s_val (r_move rfl) ?_
            refine s_val (r_move rfl) ?_
            refine s_val (r_fieldAddr (k := 1) Try.runUnderlying74 rfl Try.sizeOf36 (by decide) rfl rfl) ?_
            refine s_val (r_load1 Try.isAgg36 rfl (H.at 0 rfl) rfl) ?_
            refine s_val (r_move rfl) ?_
            refine s_val (r_move rfl) ?_
            refine s_val (r_add rfl rfl (w_i64 (by omega) (by omega))) ?_
            refine s_val (r_nilCheck rfl) ?_
            refine s_val (r_fieldAddr (k := 7) Try.runUnderlying91 rfl Try.sizeOf36 (by decide) rfl rfl) ?_
            refine s_st (m_store1 H 1 Try.sizeOf36 rfl rfl rfl rfl (by show _ < 8; omega) rfl) (L' := (_ :: _ :: _ :: _)) rfl ?_
            intro w H
            refine s_val (r_nilCheck rfl) ?_
            refine s_val (r_fieldAddr (k := 5) Try.runUnderlying91 rfl Try.sizeOf3 (by decide) rfl rfl) ?_
            refine s_st (m_store1 H 1 Try.sizeOf3 rfl rfl rfl rfl (by show _ < 8; omega) rfl) (L' := (_ :: _ :: _ :: _)) rfl ?_
            intro w H
            refine s_val (r_nilCheck rfl) ?_
            refine s_val (r_fieldAddr (k := 6) Try.runUnderlying91 rfl Try.sizeOf3 (by decide) rfl rfl) ?_
            refine s_st (m_store1 H 1 Try.sizeOf3 rfl rfl rfl rfl (by show _ < 8; omega) rfl) (L' := (_ :: _ :: _ :: _)) rfl ?_
            intro w H
            refine c_nil0 (l' := [_,_,_,_,_,_,_,_,_,_,_,_,_,_,_,_,_,_,_,_,_,_,_,_,_,_,_,_,_,_,_,_,_,_,_,_,_,_,_,_,_,_,_,_,_,_,_,_,_,_,_,_,_,_,_,_,_,_,_,_,_,_,_,_,_,_,_,_,_,_,_]) rfl ?_
            refine e_end (res0 rfl) ⟨_, rfl, ?_⟩
            have hge : x.gens.getD s.toNat 0 ≤ gn := by omega
            have hc : (x.known < gn ∨ x.head < 0 ∨ (gn = x.known ∧ s = x.head)) := by omega
            have e : takeL x s t gn = { x with gens := x.gens.set s.toNat gn, known := gn, head := s, slot := t + 1 } := by unfold takeL; rw [if_pos hc, if_pos hge]
            have hF2 := (LogO.take ⟨hF, hO⟩ hs0 hs1 ht0 ht1 hg0 hg1).1
            rw [e] at hF2 ⊢
            rw [← hXN]
            exact ⟨rfl, _, ⟨cs, bu, T, T2, Nm, by show _ = (bl, Obj.cells (lgC _ _ _ _ _ (List.length (List.set _ _ _)) _ _ _).toArray T (0, 0)) :: _; rw [List.length_set]; try rfl, hm, hF2⟩, H.sub (.cons _ (List.Sublist.refl _))⟩
          · skip
            refine wp_skip ?_
            refine e_end (res0 rfl) ⟨_, rfl, ?_⟩
            have hge : x.gens.getD s.toNat 0 ≤ gn := by omega
            have hc : ¬ (x.known < gn ∨ x.head < 0 ∨ (gn = x.known ∧ s = x.head)) := by omega
            have e : takeL x s t gn = { x with gens := x.gens.set s.toNat gn } := by unfold takeL; rw [if_neg hc, if_pos hge]
            have hF2 := (LogO.take ⟨hF, hO⟩ hs0 hs1 ht0 ht1 hg0 hg1).1
            rw [e] at hF2 ⊢
            rw [← hXN]
            exact ⟨rfl, _, ⟨cs, bu, T, T2, Nm, by show _ = (bl, Obj.cells (lgC _ _ _ _ _ (List.length (List.set _ _ _)) _ _ _).toArray T (0, 0)) :: _; rw [List.length_set]; try rfl, hm, hF2⟩, H.sub (.cons _ (List.Sublist.refl _))⟩
        · skip
          refine d_takeG (i := 22) rfl (by kernel_rfl) (fun _ _ _ h => h) rfl rfl (H.sub (.cons_cons _ (.cons_cons _ (.cons_cons _ (List.nil_sublist _))))) (fun _ _ => r_move rfl) rfl ?_
          refine d_takeN (i := 23) rfl (by kernel_rfl) (fun _ _ _ h => h) rfl rfl (by decide) (H.sub (.cons_cons _ (.cons_cons _ (.cons_cons _ (List.nil_sublist _))))) rfl ?_
          refine d_takeN (i := 24) rfl (by kernel_rfl) (fun _ _ _ h => h) rfl rfl (by decide) (H.sub (.cons_cons _ (.cons_cons _ (.cons_cons _ (List.nil_sublist _))))) rfl ?_
          refine d_takeN (i := 25) rfl (by kernel_rfl) (fun _ _ _ h => h) rfl rfl (by decide) (H.sub (.cons_cons _ (.cons_cons _ (.cons_cons _ (List.nil_sublist _))))) rfl ?_
          refine d_takeN (i := 26) rfl (by kernel_rfl) (fun _ _ _ h => h) rfl rfl (by decide) (H.sub (.cons_cons _ (.cons_cons _ (.cons_cons _ (List.nil_sublist _))))) rfl ?_
          refine d_takeN (i := 27) rfl (by kernel_rfl) (fun _ _ _ h => h) rfl rfl (by decide) (H.sub (.cons_cons _ (.cons_cons _ (.cons_cons _ (List.nil_sublist _))))) rfl ?_
          refine d_takeN (i := 28) rfl (by kernel_rfl) (fun _ _ _ h => h) rfl rfl (by decide) (H.sub (.cons_cons _ (.cons_cons _ (.cons_cons _ (List.nil_sublist _))))) rfl ?_
          refine d_takeG (i := 29) rfl (by kernel_rfl) (fun _ _ _ h => h) rfl rfl (H.sub (.cons_cons _ (.cons_cons _ (.cons_cons _ (List.nil_sublist _))))) (fun _ _ => r_pickf rfl rfl) rfl ?_
          refine d_take (i := 30) rfl (by kernel_rfl) (fun _ _ _ h => h) (H.sub (.cons_cons _ (.cons_cons _ (.cons_cons _ (List.nil_sublist _))))) (fun _ _ => r_pickf rfl rfl) rfl ?_
          refine d_done (l' := [_,_,_,_,_,_,_,_,_,_,_,_,_,_,_,_,_,_,_,_,_,_,_,_,_,_,_,_,_,_,_,_,_,_,_,_,_,_,_,_,_,_,_,_,_,_,_,_,_,_,_,_,_,_,_,_,_,_,_,_,_,_,_,_,_,_,_,_,_,_,_]) (by kernel_rfl) rfl ?_
          refine x_thenNormal ?_
          refine c_iff rfl ?_
          refine wp_skip ?_
          refine e_end (res0 rfl) ⟨_, rfl, ?_⟩
          have hge : x.gens.getD s.toNat 0 ≤ gn := by omega
          have hc : ¬ (x.known < gn ∨ x.head < 0 ∨ (gn = x.known ∧ s = x.head)) := by omega
          have e : takeL x s t gn = { x with gens := x.gens.set s.toNat gn } := by unfold takeL; rw [if_neg hc, if_pos hge]
          have hF2 := (LogO.take ⟨hF, hO⟩ hs0 hs1 ht0 ht1 hg0 hg1).1
          rw [e] at hF2 ⊢
          rw [← hXN]
          exact ⟨rfl, _, ⟨cs, bu, T, T2, Nm, by show _ = (bl, Obj.cells (lgC _ _ _ _ _ (List.length (List.set _ _ _)) _ _ _).toArray T (0, 0)) :: _; rw [List.length_set]; try rfl, hm, hF2⟩, H.sub (.cons _ (List.Sublist.refl _))⟩
  · skip
    refine wp_skip ?_
    refine x_thenNormal ?_
    refine c_seq ?_
    refine d_begin (sz := 71) ⟨rfl, rfl⟩ (by kernel_rfl) H (H.sub (.cons_cons _ (.cons_cons _ (.cons_cons _ (List.nil_sublist _))))) rfl ?_
    intro w H
    refine d_take (i := 0) rfl (by kernel_rfl) (fun _ _ _ h => h) (H.sub (.cons_cons _ (.cons_cons _ (.cons_cons _ (List.nil_sublist _))))) (fun _ _ => r_fieldAddr (k := 1) Try.runUnderlying74 rfl Try.sizeOf36 (by decide) rfl rfl) rfl ?_
    refine d_take (i := 1) rfl (by kernel_rfl) (fun _ _ _ h => h) (H.sub (.cons_cons _ (.cons_cons _ (.cons_cons _ (List.nil_sublist _))))) (fun _ HS => r_load1 Try.isAgg36 rfl (HS.at 0 rfl) rfl) rfl ?_
    refine d_take (i := 2) rfl (by kernel_rfl) (fun _ _ _ h => h) (H.sub (.cons_cons _ (.cons_cons _ (.cons_cons _ (List.nil_sublist _))))) (fun _ _ => r_move rfl) rfl ?_
    refine d_take (i := 3) rfl (by kernel_rfl) (fun _ _ _ h => h) (H.sub (.cons_cons _ (.cons_cons _ (.cons_cons _ (List.nil_sublist _))))) (fun _ _ => r_nilCheck rfl) rfl ?_
    refine d_take (i := 4) rfl (by kernel_rfl) (fun _ _ _ h => h) (H.sub (.cons_cons _ (.cons_cons _ (.cons_cons _ (List.nil_sublist _))))) (fun _ _ => r_fieldAddr (k := 7) Try.runUnderlying91 rfl Try.sizeOf36 (by decide) rfl rfl) rfl ?_
    refine d_take (i := 5) rfl (by kernel_rfl) (fun _ _ _ h => h) (H.sub (.cons_cons _ (.cons_cons _ (.cons_cons _ (List.nil_sublist _))))) (fun _ HS => r_load1 Try.isAgg36 rfl (HS.at 1 rfl) rfl) rfl ?_
    refine d_take (i := 6) rfl (by kernel_rfl) (fun _ _ _ h => h) (H.sub (.cons_cons _ (.cons_cons _ (.cons_cons _ (List.nil_sublist _))))) (fun _ _ => r_gtr rfl rfl) rfl ?_
    refine d_part (fun h32 => ?_) (fun h32 => ?_)
    · skip
      refine d_take (i := 7) rfl (by kernel_rfl) (fun _ _ _ h => h) (H.sub (.cons_cons _ (.cons_cons _ (.cons_cons _ (List.nil_sublist _))))) (fun _ _ => r_move rfl) rfl ?_
      refine d_takeN (i := 8) rfl (by kernel_rfl) (fun _ _ _ h => h) rfl rfl (by decide) (H.sub (.cons_cons _ (.cons_cons _ (.cons_cons _ (List.nil_sublist _))))) rfl ?_
      refine d_takeN (i := 9) rfl (by kernel_rfl) (fun _ _ _ h => h) rfl rfl (by decide) (H.sub (.cons_cons _ (.cons_cons _ (.cons_cons _ (List.nil_sublist _))))) rfl ?_
      refine d_takeN (i := 10) rfl (by kernel_rfl) (fun _ _ _ h => h) rfl rfl (by decide) (H.sub (.cons_cons _ (.cons_cons _ (.cons_cons _ (List.nil_sublist _))))) rfl ?_
      refine d_takeN (i := 11) rfl (by kernel_rfl) (fun _ _ _ h => h) rfl rfl (by decide) (H.sub (.cons_cons _ (.cons_cons _ (.cons_cons _ (List.nil_sublist _))))) rfl ?_
      refine d_takeN (i := 12) rfl (by kernel_rfl) (fun _ _ _ h => h) rfl rfl (by decide) (H.sub (.cons_cons _ (.cons_cons _ (.cons_cons _ (List.nil_sublist _))))) rfl ?_
      refine d_take (i := 13) rfl (by kernel_rfl) (fun _ _ _ h => h) (H.sub (.cons_cons _ (.cons_cons _ (.cons_cons _ (List.nil_sublist _))))) (fun _ _ => r_pickt rfl rfl) rfl ?_
      refine d_take (i := 14) rfl (by kernel_rfl) (fun _ _ _ h => h) (H.sub (.cons_cons _ (.cons_cons _ (.cons_cons _ (List.nil_sublist _))))) (fun _ _ => r_move rfl) rfl ?_
      refine d_takeN (i := 15) rfl (by kernel_rfl) (fun _ _ _ h => h) rfl rfl (by decide) (H.sub (.cons_cons _ (.cons_cons _ (.cons_cons _ (List.nil_sublist _))))) rfl ?_
      refine d_takeN (i := 16) rfl (by kernel_rfl) (fun _ _ _ h => h) rfl rfl (by decide) (H.sub (.cons_cons _ (.cons_cons _ (.cons_cons _ (List.nil_sublist _))))) rfl ?_
      refine d_takeN (i := 17) rfl (by kernel_rfl) (fun _ _ _ h => h) rfl rfl (by decide) (H.sub (.cons_cons _ (.cons_cons _ (.cons_cons _ (List.nil_sublist _))))) rfl ?_
      refine d_takeN (i := 18) rfl (by kernel_rfl) (fun _ _ _ h => h) rfl rfl (by decide) (H.sub (.cons_cons _ (.cons_cons _ (.cons_cons _ (List.nil_sublist _))))) rfl ?_
      refine d_takeN (i := 19) rfl (by kernel_rfl) (fun _ _ _ h => h) rfl rfl (by decide) (H.sub (.cons_cons _ (.cons_cons _ (.cons_cons _ (List.nil_sublist _))))) rfl ?_
      refine d_takeN (i := 20) rfl (by kernel_rfl) (fun _ _ _ h => h) rfl rfl (by decide) (H.sub (.cons_cons _ (.cons_cons _ (.cons_cons _ (List.nil_sublist _))))) rfl ?_
      refine d_takeN (i := 21) rfl (by kernel_rfl) (fun _ _ _ h => h) rfl rfl (by decide) (H.sub (.cons_cons _ (.cons_cons _ (.cons_cons _ (List.nil_sublist _))))) rfl ?_
      refine d_takeN (i := 22) rfl (by kernel_rfl) (fun _ _ _ h => h) rfl rfl (by decide) (H.sub (.cons_cons _ (.cons_cons _ (.cons_cons _ (List.nil_sublist _))))) rfl ?_
      refine d_takeU (i := 23) rfl (by kernel_rfl) (fun _ _ _ h => h) rfl rfl (H.sub (.cons_cons _ (.cons_cons _ (.cons_cons _ (List.nil_sublist _))))) rfl ?_
      refine d_takeU (i := 24) rfl (by kernel_rfl) (fun _ _ _ h => h) rfl rfl (H.sub (.cons_cons _ (.cons_cons _ (.cons_cons _ (List.nil_sublist _))))) rfl ?_
      refine d_takeU (i := 25) rfl (by kernel_rfl) (fun _ _ _ h => h) rfl rfl (H.sub (.cons_cons _ (.cons_cons _ (.cons_cons _ (List.nil_sublist _))))) rfl ?_
      refine d_takeU (i := 26) rfl (by kernel_rfl) (fun _ _ _ h => h) rfl rfl (H.sub (.cons_cons _ (.cons_cons _ (.cons_cons _ (List.nil_sublist _))))) rfl ?_
      refine d_takeU (i := 27) rfl (by kernel_rfl) (fun _ _ _ h => h) rfl rfl (H.sub (.cons_cons _ (.cons_cons _ (.cons_cons _ (List.nil_sublist _))))) rfl ?_
      refine d_takeU (i := 28) rfl (by kernel_rfl) (fun _ _ _ h => h) rfl rfl (H.sub (.cons_cons _ (.cons_cons _ (.cons_cons _ (List.nil_sublist _))))) rfl ?_
      refine d_takeN (i := 29) rfl (by kernel_rfl) (fun _ _ _ h => h) rfl rfl (by decide) (H.sub (.cons_cons _ (.cons_cons _ (.cons_cons _ (List.nil_sublist _))))) rfl ?_
      refine d_take (i := 30) rfl (by kernel_rfl) (fun _ _ _ h => h) (H.sub (.cons_cons _ (.cons_cons _ (.cons_cons _ (List.nil_sublist _))))) (fun _ _ => r_pickt rfl rfl) rfl ?_
      refine d_done (l' := [_,_,_,_,_,_,_,_,_,_,_,_,_,_,_,_,_,_,_,_,_,_,_,_,_,_,_,_,_,_,_,_,_,_,_,_,_,_,_,_,_,_,_,_,_,_,_,_,_,_,_,_,_,_,_,_,_,_,_,_,_,_,_,_,_,_,_,_,_,_,_]) (by kernel_rfl) rfl ?_
      refine x_thenNormal ?_
      refine c_ift rfl ?_
      refine c_region (n := 71) ⟨rfl, rfl⟩ ?_
      refine s_val (r_move rfl) ?_
      refine s_val (r_move rfl) ?_
      refine s_val (r_move rfl) ?_
      refine s_val (r_fieldAddr (k := 1) Try.runUnderlying74 rfl Try.sizeOf36 (by decide) rfl rfl) ?_
      refine s_val (r_load1 Try.isAgg36 rfl (H.at 0 rfl) rfl) ?_
      refine s_val (r_move rfl) ?_
      refine s_val (r_move rfl) ?_
      refine s_val (r_add rfl rfl (w_i64 (by omega) (by omega))) ?_
      refine s_val (r_nilCheck rfl) ?_
      refine s_val (r_fieldAddr (k := 7) Try.runUnderlying91 rfl Try.sizeOf36 (by decide) rfl rfl) ?_
      refine s_st (m_store1 H 1 Try.sizeOf36 rfl rfl rfl rfl (by show _ < 8; omega) rfl) (L' := (_ :: _ :: _ :: _)) rfl ?_
      intro w H
      refine s_val (r_nilCheck rfl) ?_
      refine s_val (r_fieldAddr (k := 5) Try.runUnderlying91 rfl Try.sizeOf3 (by decide) rfl rfl) ?_
      refine s_st (m_store1 H 1 Try.sizeOf3 rfl rfl rfl rfl (by show _ < 8; omega) rfl) (L' := (_ :: _ :: _ :: _)) rfl ?_
      intro w H
      refine s_val (r_nilCheck rfl) ?_
      refine s_val (r_fieldAddr (k := 6) Try.runUnderlying91 rfl Try.sizeOf3 (by decide) rfl rfl) ?_
      refine s_st (m_store1 H 1 Try.sizeOf3 rfl rfl rfl rfl (by show _ < 8; omega) rfl) (L' := (_ :: _ :: _ :: _)) rfl ?_
      intro w H
      refine c_nil0 (l' := [_,_,_,_,_,_,_,_,_,_,_,_,_,_,_,_,_,_,_,_,_,_,_,_,_,_,_,_,_,_,_,_,_,_,_,_,_,_,_,_,_,_,_,_,_,_,_,_,_,_,_,_,_,_,_,_,_,_,_,_,_,_,_,_,_,_,_,_,_,_,_]) rfl ?_
      refine e_end (res0 rfl) ⟨_, rfl, ?_⟩
      have hge : ¬ x.gens.getD s.toNat 0 ≤ gn := by omega
      have hc : (x.known < gn ∨ x.head < 0 ∨ (gn = x.known ∧ s = x.head)) := by omega
      have e : takeL x s t gn = { x with gens := x.gens, known := gn, head := s, slot := t + 1 } := by unfold takeL; rw [if_pos hc, if_neg hge]
      have hF2 := (LogO.take ⟨hF, hO⟩ hs0 hs1 ht0 ht1 hg0 hg1).1
      rw [e] at hF2 ⊢
      rw [← hXN]
      exact ⟨rfl, _, ⟨cs, bu, T, T2, Nm, rfl, hm, hF2⟩, H.sub (.cons _ (List.Sublist.refl _))⟩
    · skip
      refine d_take (i := 7) rfl (by kernel_rfl) (fun _ _ _ h => h) (H.sub (.cons_cons _ (.cons_cons _ (.cons_cons _ (List.nil_sublist _))))) (fun _ _ => r_move rfl) rfl ?_
      refine d_takeG (i := 8) rfl (by kernel_rfl) (fun _ _ _ h => h) rfl rfl (H.sub (.cons_cons _ (.cons_cons _ (.cons_cons _ (List.nil_sublist _))))) (fun _ _ => r_move rfl) rfl ?_
      refine d_takeG (i := 9) rfl (by kernel_rfl) (fun _ _ _ h => h) rfl rfl (H.sub (.cons_cons _ (.cons_cons _ (.cons_cons _ (List.nil_sublist _))))) (fun _ _ => r_nilCheck rfl) rfl ?_
      refine d_takeG (i := 10) rfl (by kernel_rfl) (fun _ _ _ h => h) rfl rfl (H.sub (.cons_cons _ (.cons_cons _ (.cons_cons _ (List.nil_sublist _))))) (fun _ _ => r_fieldAddr (k := 5) Try.runUnderlying91 rfl Try.sizeOf3 (by decide) rfl rfl) rfl ?_
      refine d_takeG (i := 11) rfl (by kernel_rfl) (fun _ _ _ h => h) rfl rfl (H.sub (.cons_cons _ (.cons_cons _ (.cons_cons _ (List.nil_sublist _))))) (fun _ HS => r_load1 Try.isAgg3 rfl (HS.at 1 rfl) rfl) rfl ?_
      refine d_takeG (i := 12) rfl (by kernel_rfl) (fun _ _ _ h => h) rfl rfl (H.sub (.cons_cons _ (.cons_cons _ (.cons_cons _ (List.nil_sublist _))))) (fun _ _ => r_lss rfl rfl) rfl ?_
      refine d_part (fun h38 => ?_) (fun h38 => ?_)
      · skip
        refine d_take (i := 13) rfl (by kernel_rfl) (fun _ _ _ h => h) (H.sub (.cons_cons _ (.cons_cons _ (.cons_cons _ (List.nil_sublist _))))) (fun _ _ => r_pickf rfl rfl) rfl ?_
        refine d_take (i := 14) rfl (by kernel_rfl) (fun _ _ _ h => h) (H.sub (.cons_cons _ (.cons_cons _ (.cons_cons _ (List.nil_sublist _))))) (fun _ _ => r_move rfl) rfl ?_
        refine d_takeN (i := 15) rfl (by kernel_rfl) (fun _ _ _ h => h) rfl rfl (by decide) (H.sub (.cons_cons _ (.cons_cons _ (.cons_cons _ (List.nil_sublist _))))) rfl ?_
        refine d_takeN (i := 16) rfl (by kernel_rfl) (fun _ _ _ h => h) rfl rfl (by decide) (H.sub (.cons_cons _ (.cons_cons _ (.cons_cons _ (List.nil_sublist _))))) rfl ?_
        refine d_takeN (i := 17) rfl (by kernel_rfl) (fun _ _ _ h => h) rfl rfl (by decide) (H.sub (.cons_cons _ (.cons_cons _ (.cons_cons _ (List.nil_sublist _))))) rfl ?_
        refine d_takeN (i := 18) rfl (by kernel_rfl) (fun _ _ _ h => h) rfl rfl (by decide) (H.sub (.cons_cons _ (.cons_cons _ (.cons_cons _ (List.nil_sublist _))))) rfl ?_
        refine d_takeN (i := 19) rfl (by kernel_rfl) (fun _ _ _ h => h) rfl rfl (by decide) (H.sub (.cons_cons _ (.cons_cons _ (.cons_cons _ (List.nil_sublist _))))) rfl ?_
        refine d_takeN (i := 20) rfl (by kernel_rfl) (fun _ _ _ h => h) rfl rfl (by decide) (H.sub (.cons_cons _ (.cons_cons _ (.cons_cons _ (List.nil_sublist _))))) rfl ?_
        refine d_takeN (i := 21) rfl (by kernel_rfl) (fun _ _ _ h => h) rfl rfl (by decide) (H.sub (.cons_cons _ (.cons_cons _ (.cons_cons _ (List.nil_sublist _))))) rfl ?_
        refine d_takeN (i := 22) rfl (by kernel_rfl) (fun _ _ _ h => h) rfl rfl (by decide) (H.sub (.cons_cons _ (.cons_cons _ (.cons_cons _ (List.nil_sublist _))))) rfl ?_
        refine d_takeU (i := 23) rfl (by kernel_rfl) (fun _ _ _ h => h) rfl rfl (H.sub (.cons_cons _ (.cons_cons _ (.cons_cons _ (List.nil_sublist _))))) rfl ?_
        refine d_takeU (i := 24) rfl (by kernel_rfl) (fun _ _ _ h => h) rfl rfl (H.sub (.cons_cons _ (.cons_cons _ (.cons_cons _ (List.nil_sublist _))))) rfl ?_
        refine d_takeU (i := 25) rfl (by kernel_rfl) (fun _ _ _ h => h) rfl rfl (H.sub (.cons_cons _ (.cons_cons _ (.cons_cons _ (List.nil_sublist _))))) rfl ?_
        refine d_takeU (i := 26) rfl (by kernel_rfl) (fun _ _ _ h => h) rfl rfl (H.sub (.cons_cons _ (.cons_cons _ (.cons_cons _ (List.nil_sublist _))))) rfl ?_
        refine d_takeU (i := 27) rfl (by kernel_rfl) (fun _ _ _ h => h) rfl rfl (H.sub (.cons_cons _ (.cons_cons _ (.cons_cons _ (List.nil_sublist _))))) rfl ?_
        refine d_takeU (i := 28) rfl (by kernel_rfl) (fun _ _ _ h => h) rfl rfl (H.sub (.cons_cons _ (.cons_cons _ (.cons_cons _ (List.nil_sublist _))))) rfl ?_
        refine d_takeN (i := 29) rfl (by kernel_rfl) (fun _ _ _ h => h) rfl rfl (by decide) (H.sub (.cons_cons _ (.cons_cons _ (.cons_cons _ (List.nil_sublist _))))) rfl ?_
        refine d_take (i := 30) rfl (by kernel_rfl) (fun _ _ _ h => h) (H.sub (.cons_cons _ (.cons_cons _ (.cons_cons _ (List.nil_sublist _))))) (fun _ _ => r_pickt rfl rfl) rfl ?_
        refine d_done (l' := [_,_,_,_,_,_,_,_,_,_,_,_,_,_,_,_,_,_,_,_,_,_,_,_,_,_,_,_,_,_,_,_,_,_,_,_,_,_,_,_,_,_,_,_,_,_,_,_,_,_,_,_,_,_,_,_,_,_,_,_,_,_,_,_,_,_,_,_,_,_,_]) (by kernel_rfl) rfl ?_
        refine x_thenNormal ?_
        refine c_ift rfl ?_
        refine c_region (n := 71) ⟨rfl, rfl⟩ ?_
        refine s_val (r_move rfl) ?_
        refine s_val (r_move rfl) ?_
        refine s_val (r_move rfl) ?_
        refine s_val (r_fieldAddr (k := 1) Try.runUnderlying74 rfl Try.sizeOf36 (by decide) rfl rfl) ?_
        refine s_val (r_load1 Try.isAgg36 rfl (H.at 0 rfl) rfl) ?_
        refine s_val (r_move rfl) ?_
        refine s_val (r_move rfl) ?_
        refine s_val (r_add rfl rfl (w_i64 (by omega) (by omega))) ?_
        refine s_val (r_nilCheck rfl) ?_
        refine s_val (r_fieldAddr (k := 7) Try.runUnderlying91 rfl Try.sizeOf36 (by decide) rfl rfl) ?_
        refine s_st (m_store1 H 1 Try.sizeOf36 rfl rfl rfl rfl (by show _ < 8; omega) rfl) (L' := (_ :: _ :: _ :: _)) rfl ?_
        intro w H
        refine s_val (r_nilCheck rfl) ?_
        refine s_val (r_fieldAddr (k := 5) Try.runUnderlying91 rfl Try.sizeOf3 (by decide) rfl rfl) ?_
        refine s_st (m_store1 H 1 Try.sizeOf3 rfl rfl rfl rfl (by show _ < 8; omega) rfl) (L' := (_ :: _ :: _ :: _)) rfl ?_
        intro w H
        refine s_val (r_nilCheck rfl) ?_
        refine s_val (r_fieldAddr (k := 6) Try.runUnderlying91 rfl Try.sizeOf3 (by decide) rfl rfl) ?_
        refine s_st (m_store1 H 1 Try.sizeOf3 rfl rfl rfl rfl (by show _ < 8; omega) rfl) (L' := (_ :: _ :: _ :: _)) rfl ?_
        intro w H
        refine c_nil0 (l' := [_,_,_,_,_,_,_,_,_,_,_,_,_,_,_,_,_,_,_,_,_,_,_,_,_,_,_,_,_,_,_,_,_,_,_,_,_,_,_,_,_,_,_,_,_,_,_,_,_,_,_,_,_,_,_,_,_,_,_,_,_,_,_,_,_,_,_,_,_,_,_]) rfl ?_
        refine e_end (res0 rfl) ⟨_, rfl, ?_⟩
        have hge : ¬ x.gens.getD s.toNat 0 ≤ gn := by omega
        have hc : (x.known < gn ∨ x.head < 0 ∨ (gn = x.known ∧ s = x.head)) := by omega
        have e : takeL x s t gn = { x with gens := x.gens, known := gn, head := s, slot := t + 1 } := by unfold takeL; rw [if_pos hc, if_neg hge]
        have hF2 := (LogO.take ⟨hF, hO⟩ hs0 hs1 ht0 ht1 hg0 hg1).1
        rw [e] at hF2 ⊢
        rw [← hXN]
        exact ⟨rfl, _, ⟨cs, bu, T, T2, Nm, rfl, hm, hF2⟩, H.sub (.cons _ (List.Sublist.refl _))⟩
      · skip
        refine d_take (i := 13) rfl (by kernel_rfl) (fun _ _ _ h => h) (H.sub (.cons_cons _ (.cons_cons _ (.cons_cons _ (List.nil_sublist _))))) (fun _ _ => r_pickf rfl rfl) rfl ?_
        refine d_take (i := 14) rfl (by kernel_rfl) (fun _ _ _ h => h) (H.sub (.cons_cons _ (.cons_cons _ (.cons_cons _ (List.nil_sublist _))))) (fun _ _ => r_move rfl) rfl ?_
        refine d_takeG (i := 15) rfl (by kernel_rfl) (fun _ _ _ h => h) rfl rfl (H.sub (.cons_cons _ (.cons_cons _ (.cons_cons _ (List.nil_sublist _))))) (fun _ _ => r_fieldAddr (k := 1) Try.runUnderlying74 rfl Try.sizeOf36 (by decide) rfl rfl) rfl ?_
        refine d_takeG (i := 16) rfl (by kernel_rfl) (fun _ _ _ h => h) rfl rfl (H.sub (.cons_cons _ (.cons_cons _ (.cons_cons _ (List.nil_sublist _))))) (fun _ HS => r_load1 Try.isAgg36 rfl (HS.at 0 rfl) rfl) rfl ?_
        refine d_takeG (i := 17) rfl (by kernel_rfl) (fun _ _ _ h => h) rfl rfl (H.sub (.cons_cons _ (.cons_cons _ (.cons_cons _ (List.nil_sublist _))))) (fun _ _ => r_move rfl) rfl ?_
        refine d_takeG (i := 18) rfl (by kernel_rfl) (fun _ _ _ h => h) rfl rfl (H.sub (.cons_cons _ (.cons_cons _ (.cons_cons _ (List.nil_sublist _))))) (fun _ _ => r_nilCheck rfl) rfl ?_
        refine d_takeG (i := 19) rfl (by kernel_rfl) (fun _ _ _ h => h) rfl rfl (H.sub (.cons_cons _ (.cons_cons _ (.cons_cons _ (List.nil_sublist _))))) (fun _ _ => r_fieldAddr (k := 7) Try.runUnderlying91 rfl Try.sizeOf36 (by decide) rfl rfl) rfl ?_
        refine d_takeG (i := 20) rfl (by kernel_rfl) (fun _ _ _ h => h) rfl rfl (H.sub (.cons_cons _ (.cons_cons _ (.cons_cons _ (List.nil_sublist _))))) (fun _ HS => r_load1 Try.isAgg36 rfl (HS.at 1 rfl) rfl) rfl ?_
        refine d_takeG (i := 21) rfl (by kernel_rfl) (fun _ _ _ h => h) rfl rfl (H.sub (.cons_cons _ (.cons_cons _ (.cons_cons _ (List.nil_sublist _))))) (fun _ _ => r_eql rfl rfl) rfl ?_
        refine d_part (fun h47 => ?_) (fun h47 => ?_)
        · skip
          refine d_takeG (i := 22) rfl (by kernel_rfl) (fun _ _ _ h => h) rfl rfl (H.sub (.cons_cons _ (.cons_cons _ (.cons_cons _ (List.nil_sublist _))))) (fun _ _ => r_move rfl) rfl ?_
          refine d_takeG (i := 23) rfl (by kernel_rfl) (fun _ _ _ h => h) rfl rfl (H.sub (.cons_cons _ (.cons_cons _ (.cons_cons _ (List.nil_sublist _))))) (fun _ _ => r_move rfl) rfl ?_
          refine d_takeG (i := 24) rfl (by kernel_rfl) (fun _ _ _ h => h) rfl rfl (H.sub (.cons_cons _ (.cons_cons _ (.cons_cons _ (List.nil_sublist _))))) (fun _ _ => r_move rfl) rfl ?_
          refine d_takeG (i := 25) rfl (by kernel_rfl) (fun _ _ _ h => h) rfl rfl (H.sub (.cons_cons _ (.cons_cons _ (.cons_cons _ (List.nil_sublist _))))) (fun _ _ => r_nilCheck rfl) rfl ?_
          refine d_takeG (i := 26) rfl (by kernel_rfl) (fun _ _ _ h => h) rfl rfl (H.sub (.cons_cons _ (.cons_cons _ (.cons_cons _ (List.nil_sublist _))))) (fun _ _ => r_fieldAddr (k := 5) Try.runUnderlying91 rfl Try.sizeOf3 (by decide) rfl rfl) rfl ?_
          refine d_takeG (i := 27) rfl (by kernel_rfl) (fun _ _ _ h => h) rfl rfl (H.sub (.cons_cons _ (.cons_cons _ (.cons_cons _ (List.nil_sublist _))))) (fun _ HS => r_load1 Try.isAgg3 rfl (HS.at 1 rfl) rfl) rfl ?_
          refine d_takeG (i := 28) rfl (by kernel_rfl) (fun _ _ _ h => h) rfl rfl (H.sub (.cons_cons _ (.cons_cons _ (.cons_cons _ (List.nil_sublist _))))) (fun _ _ => r_eql rfl rfl) rfl ?_
          refine d_takeG (i := 29) rfl (by kernel_rfl) (fun _ _ _ h => h) rfl rfl (H.sub (.cons_cons _ (.cons_cons _ (.cons_cons _ (List.nil_sublist _))))) (fun _ _ => r_pickt rfl rfl) rfl ?_
          refine d_take (i := 30) rfl (by kernel_rfl) (fun _ _ _ h => h) (H.sub (.cons_cons _ (.cons_cons _ (.cons_cons _ (List.nil_sublist _))))) (fun _ _ => r_pickf rfl rfl) rfl ?_
          refine d_done (l' := [_,_,_,_,_,_,_,_,_,_,_,_,_,_,_,_,_,_,_,_,_,_,_,_,_,_,_,_,_,_,_,_,_,_,_,_,_,_,_,_,_,_,_,_,_,_,_,_,_,_,_,_,_,_,_,_,_,_,_,_,_,_,_,_,_,_,_,_,_,_,_]) (by kernel_rfl) rfl ?_
          refine x_thenNormal ?_
          refine c_if rfl (fun h56 => ?_) (fun h56 => ?_)
          · skip
            refine c_region (n := 71) ⟨rfl, rfl⟩ ?_
            refine s_val (r_move rfl) ?_
            refine s_val (r_move rfl) ?_
            refine s_val (r_move rfl) ?_
            refine s_val (r_fieldAddr (k := 1) Try.runUnderlying74 rfl Try.sizeOf36 (by decide) rfl rfl) ?_
            refine s_val (r_load1 Try.isAgg36 rfl (H.at 0 rfl) rfl) ?_
            refine s_val (r_move rfl) ?_
            refine s_val (r_move rfl) ?_
            refine s_val (r_add rfl rfl (w_i64 (by omega) (by omega))) ?_
            refine s_val (r_nilCheck rfl) ?_
            refine s_val (r_fieldAddr (k := 7) Try.runUnderlying91 rfl Try.sizeOf36 (by decide) rfl rfl) ?_
            refine s_st (m_store1 H 1 Try.sizeOf36 rfl rfl rfl rfl (by show _ < 8; omega) rfl) (L' := (_ :: _ :: _ :: _)) rfl ?_
            intro w H
            refine s_val (r_nilCheck rfl) ?_
            refine s_val (r_fieldAddr (k := 5) Try.runUnderlying91 rfl Try.sizeOf3 (by decide) rfl rfl) ?_
            refine s_st (m_store1 H 1 Try.sizeOf3 rfl rfl rfl rfl (by show _ < 8; omega) rfl) (L' := (_ :: _ :: _ :: _)) rfl ?_
            intro w H
            refine s_val (r_nilCheck rfl) ?_
            refine s_val (r_fieldAddr (k := 6) Try.runUnderlying91 rfl Try.sizeOf3 (by decide) rfl rfl) ?_
            refine s_st (m_store1 H 1 Try.sizeOf3 rfl rfl rfl rfl (by show _ < 8; omega) rfl) (L' := (_ :: _ :: _ :: _)) rfl ?_
            intro w H
            refine c_nil0 (l' := [_,_,_,_,_,_,_,_,_,_,_,_,_,_,_,_,_,_,_,_,_,_,_,_,_,_,_,_,_,_,_,_,_,_,_,_,_,_,_,_,_,_,_,_,_,_,_,_,_,_,_,_,_,_,_,_,_,_,_,_,_,_,_,_,_,_,_,_,_,_,_]) rfl ?_
            refine e_end (res0 rfl) ⟨_, rfl, ?_⟩
            have hge : ¬ x.gens.getD s.toNat 0 ≤ gn := by omega
            have hc : (x.known < gn ∨ x.head < 0 ∨ (gn = x.known ∧ s = x.head)) := by omega
            have e : takeL x s t gn = { x with gens := x.gens, known := gn, head := s, slot := t + 1 } := by unfold takeL; rw [if_pos hc, if_neg hge]
            have hF2 := (LogO.take ⟨hF, hO⟩ hs0 hs1 ht0 ht1 hg0 hg1).1
            rw [e] at hF2 ⊢
            rw [← hXN]
            exact ⟨rfl, _, ⟨cs, bu, T, T2, Nm, rfl, hm, hF2⟩, H.sub (.cons _ (List.Sublist.refl _))⟩
          · skip
            refine wp_skip ?_
            refine e_end (res0 rfl) ⟨_, rfl, ?_⟩
            have hge : ¬ x.gens.getD s.toNat 0 ≤ gn := by omega
            have hc : ¬ (x.known < gn ∨ x.head < 0 ∨ (gn = x.known ∧ s = x.head)) := by omega
            have e : takeL x s t gn = { x with gens := x.gens } := by unfold takeL; rw [if_neg hc, if_neg hge]
            have hF2 := (LogO.take ⟨hF, hO⟩ hs0 hs1 ht0 ht1 hg0 hg1).1
            rw [e] at hF2 ⊢
            rw [← hXN]
            exact ⟨rfl, _, ⟨cs, bu, T, T2, Nm, rfl, hm, hF2⟩, H.sub (.cons _ (List.Sublist.refl _))⟩
        · skip
          refine d_takeG (i := 22) rfl (by kernel_rfl) (fun _ _ _ h => h) rfl rfl (H.sub (.cons_cons _ (.cons_cons _ (.cons_cons _ (List.nil_sublist _))))) (fun _ _ => r_move rfl) rfl ?_
          refine d_takeN (i := 23) rfl (by kernel_rfl) (fun _ _ _ h => h) rfl rfl (by decide) (H.sub (.cons_cons _ (.cons_cons _ (.cons_cons _ (List.nil_sublist _))))) rfl ?_
          refine d_takeN (i := 24) rfl (by kernel_rfl) (fun _ _ _ h => h) rfl rfl (by decide) (H.sub (.cons_cons _ (.cons_cons _ (.cons_cons _ (List.nil_sublist _))))) rfl ?_
          refine d_takeN (i := 25) rfl (by kernel_rfl) (fun _ _ _ h => h) rfl rfl (by decide) (H.sub (.cons_cons _ (.cons_cons _ (.cons_cons _ (List.nil_sublist _))))) rfl ?_
          refine d_takeN (i := 26) rfl (by kernel_rfl) (fun _ _ _ h => h) rfl rfl (by decide) (H.sub (.cons_cons _ (.cons_cons _ (.cons_cons _ (List.nil_sublist _))))) rfl ?_
          refine d_takeN (i := 27) rfl (by kernel_rfl) (fun _ _ _ h => h) rfl rfl (by decide) (H.sub (.cons_cons _ (.cons_cons _ (.cons_cons _ (List.nil_sublist _))))) rfl ?_
          refine d_takeN (i := 28) rfl (by kernel_rfl) (fun _ _ _ h => h) rfl rfl (by decide) (H.sub (.cons_cons _ (.cons_cons _ (.cons_cons _ (List.nil_sublist _))))) rfl ?_
          refine d_takeG (i := 29) rfl (by kernel_rfl) (fun _ _ _ h => h) rfl rfl (H.sub (.cons_cons _ (.cons_cons _ (.cons_cons _ (List.nil_sublist _))))) (fun _ _ => r_pickf rfl rfl) rfl ?_
          refine d_take (i := 30) rfl (by kernel_rfl) (fun _ _ _ h => h) (H.sub (.cons_cons _ (.cons_cons _ (.cons_cons _ (List.nil_sublist _))))) (fun _ _ => r_pickf rfl rfl) rfl ?_
          refine d_done (l' := [_,_,_,_,_,_,_,_,_,_,_,_,_,_,_,_,_,_,_,_,_,_,_,_,_,_,_,_,_,_,_,_,_,_,_,_,_,_,_,_,_,_,_,_,_,_,_,_,_,_,_,_,_,_,_,_,_,_,_,_,_,_,_,_,_,_,_,_,_,_,_]) (by kernel_rfl) rfl ?_
          refine x_thenNormal ?_
          refine c_iff rfl ?_
          refine wp_skip ?_
          refine e_end (res0 rfl) ⟨_, rfl, ?_⟩
          have hge : ¬ x.gens.getD s.toNat 0 ≤ gn := by omega
          have hc : ¬ (x.known < gn ∨ x.head < 0 ∨ (gn = x.known ∧ s = x.head)) := by omega
          have e : takeL x s t gn = { x with gens := x.gens } := by unfold takeL; rw [if_neg hc, if_neg hge]
          have hF2 := (LogO.take ⟨hF, hO⟩ hs0 hs1 ht0 ht1 hg0 hg1).1
          rw [e] at hF2 ⊢
          rw [← hXN]
          exact ⟨rfl, _, ⟨cs, bu, T, T2, Nm, rfl, hm, hF2⟩, H.sub (.cons _ (List.Sublist.refl _))⟩

end Go.Proofs.Ytbjalofmamoffaa

