import Derived.Test.YtobfnieebiakeaaPM
import Derived.Test.YtobfnieebiakeaaPA2
import Derived.Test.YtobfnieebiakeaaPJ2
namespace Go.Proofs.Ytobfnieebiakeaa
open Go Go.Er

theorem right_d (y : Ce) (w0 : World) (hy : BRow w0 y.body.a y.body.b) : Calls Try.prog 45 #[.agg (ceC y).toArray] w0 fun e w => ∃ v, e = .returned v ∧ v = .bool (decide (rightC (ceP y))) ∧ St w0 [] w [] :=
 (right_c y w0 hy).mono fun _ _ ⟨v, he, h⟩ => ⟨v, he, by
  rcases h with ⟨h, hv, H⟩ | ⟨h, hv, H⟩
  ·exact ⟨by rw [hv, decide_eq_true h], H⟩
  ·exact ⟨by rw [hv, decide_eq_false h], H⟩⟩
theorem told3 (bg : Nat) (cl : List Ce) (n : Int) (hl : cl.length ≤ 1000000) (hb : ∀ y ∈ cl, y.body.b.length ≤ 1000000) (w0 : World) (hg : GetW w0 bg cl) :
  Calls Try.prog 28 #[(.func (.func 27) #[] #[.pointer (some ⟨bg, 0, none⟩)]), .int .u64 n] w0 fun e w => ∃ v, e = .returned v ∧ (
   (∃ (y : Ce) (N : List (Nat × Obj)), findP (cl.map ceP) n = some (ceP y) ∧ momK y.kind = true ∧ v = .tuple #[.agg (ceC y).toArray, .bool true] ∧ RowN 1 5 (bC y.body.b) y.body.b.length y.body.a y.body.c N ∧ St w0 [] w N) ∨
   (∃ (y : Ce) (N : List (Nat × Obj)), findP (cl.map ceP) n = some (ceP y) ∧ momK y.kind = false ∧ v = .tuple #[.agg (ceC y).toArray, .bool false] ∧ RowN 1 5 (bC y.body.b) y.body.b.length y.body.a y.body.c N ∧ St w0 [] w N) ∨
   (findP (cl.map ceP) n = none ∧ v = .tuple #[.agg (ceC ce0).toArray, .bool false] ∧ St w0 [] w [])) :=
 (told_spec bg cl n hl hb w0 hg).mono fun _ _ ⟨v, he, h⟩ => ⟨v, he, by
  rcases h with ⟨y, N, h1, hv, h2, H⟩ | h
  ·cases hm : momK y.kind with
   | true => rw [hm] at hv; exact .inl ⟨y, N, h1, hm, hv, h2, H⟩
   | false => rw [hm] at hv; exact .inr (.inl ⟨y, N, h1, hm, hv, h2, H⟩)
  ·exact .inr (.inr h)⟩

set_option maxHeartbeats 4000000 in
theorem look_spec (y : Ce) (ok : Bool) (refs : Nat) (_hrf : refs ≤ 1000) (bt : Nat) (ci : Value) (xs : List Held) (NT : List (Nat × Obj)) (hxl : xs.length ≤ 100000) (hv : Valid xs) (w0 : World) (hy : BRow w0 y.body.a y.body.b) (hT : TreeN 90 88 bt ci xs NT) (hown : Go.Er.Own w0 NT) :
  Calls Try.prog 29 #[.agg (ceC y).toArray, .bool ok, .int .i64 (refs : Nat), .pointer (some ⟨bt, 0, none⟩)] w0 fun e w => ∃ v, e = .returned v ∧ (v = .int .i64 (lookV (ceP y) ok refs (hasH xs)) ∧ St w0 [] w []) := by
 have H := St.refl w0
 refine c_enter (args := [.agg (ceC y).toArray, .bool ok, .int .i64 (refs : Nat), .pointer (some ⟨bt, 0, none⟩)]) (l := t30 (t6 [])) Try.func29 Try.ntmps29 rfl rfl ?_
 refine zq 36 ⟨rfl, rfl⟩ ?_
 refine s_new (m_box (cs := (ceC y)) H rfl rfl) ?_
 intro w b4 H
 refine za ?_
 refine zc (t30 (t6 [])) ?_
 refine c_seq ?_
 refine wp_block ?_
 refine zq 36 ⟨rfl, rfl⟩ ?_
 refine zm ?_
 refine s_val (r_not rfl) ?_
 refine za ?_
 refine zc (t30 (t6 [])) ?_
 refine c_ifb rfl (fun h9 => ?_) (fun h9 => ?_)
 ·refine zq 36 ⟨rfl, rfl⟩ ?_
  refine za ?_
  refine zc (t30 (t6 [])) ?_
  refine wp_ret (x_blockRet (x_thenRet ?_))
  refine zw (res1 rfl rfl) ?_
  exact ⟨by unfold lookV; rw [if_pos (by simpa using h9)], (H.sub (List.nil_sublist _))⟩
 ·refine zq 36 ⟨rfl, rfl⟩ ?_
  refine s_val (zp qg43 qs43 (H.at 0 rfl) (ceC_td _)) ?_
  refine s_call (r_call Try.call45 (ec rfl en)) (right_c y _ (hy.st (H.sub (List.nil_sublist _)))) ?_
  rintro v w (⟨hy14, rfl, HC⟩ | ⟨hy14, rfl, HC⟩)
  ·replace H := H.quiet HC
   refine s_val (r_not rfl) ?_
   refine za ?_
   refine zc (t30 (t6 [])) ?_
   refine c_iff rfl ?_
   refine zq 36 ⟨rfl, rfl⟩ ?_
   refine zR 0 qu43 qs3 ?_
   refine s_val (r_load1 qg3 rfl (H.at 0 rfl) (rfl : _ = some (Value.int .i64 y.kind))) ?_
   refine s_test (r_neq rfl rfl) (fun h19 => ?_) (fun h19 => ?_)
   ·refine zm ?_
    refine zy ?_
    refine zm ?_
    refine zy ?_
    refine s_test (r_eql rfl rfl) (fun h22 => ?_) (fun h22 => ?_)
    ·refine zv ?_
     refine za ?_
     refine zc (t30 (t6 [])) ?_
     refine c_ift rfl ?_
     refine zq 36 ⟨rfl, rfl⟩ ?_
     refine za ?_
     refine zc (t30 (t6 [])) ?_
     refine wp_ret (x_blockRet (x_thenRet ?_))
     refine zw (res1 rfl rfl) ?_
     exact ⟨by unfold lookV; rw [if_neg (show ¬ ok = false by simpa using h9), if_neg (fun h => h hy14), if_pos ⟨h19, by omega⟩], (H.sub (List.nil_sublist _))⟩
    ·refine zv ?_
     refine za ?_
     refine zc (t30 (t6 [])) ?_
     refine c_iff rfl ?_
     refine zq 36 ⟨rfl, rfl⟩ ?_
     refine zR 0 qu43 qs3 ?_
     refine s_val (r_load1 qg3 rfl (H.at 0 rfl) (rfl : _ = some (Value.int .i64 y.kind))) ?_
     refine s_test (r_neq rfl rfl) (fun h27 => ?_) (fun h27 => ?_)
     ·refine zm ?_
      refine zy ?_
      refine zm ?_
      refine zy ?_
      refine zR 1 qu43 qs28 ?_
      refine zy ?_
      refine s_val (r_load1 qg28 rfl (H.at 0 rfl) (rfl : _ = some (Value.int .u64 y.num))) ?_
      refine zy ?_
      refine s_call (r_call qc16 (ec rfl en)) (leaf_spec _ _) ?_
      rintro v w ⟨rfl, HC⟩
      replace H := H.quiet HC
      have hlf : lf y.num = 2 * y.num := lf_right hy14
      rw [hlf]
      have hn1 : 1 ≤ y.num := hy14.2.2.1
      refine zy ?_
      refine s_call (r_call Try.call47 (ec rfl (ec rfl en))) (has_spec bt ci xs NT hxl hv (2 * y.num) (by omega) _ hT (hown.stM (H.sub (List.nil_sublist _)))) ?_
      rintro v w ⟨rfl, HC⟩
      replace H := H.quiet HC
      obtain ⟨hh, hhe⟩ : ∃ h, h = hasH xs (2 * y.num) := ⟨_, rfl⟩
      rw [show decide (∃ x ∈ xs, InN x (2 * y.num)) = hh from hhe.symm]
      refine zy ?_
      refine s_testb (r_not rfl) (fun h34 => ?_) (fun h34 => ?_)
      ·refine zv ?_
       refine za ?_
       refine zc (t30 (t6 [])) ?_
       refine c_ift rfl ?_
       refine zq 36 ⟨rfl, rfl⟩ ?_
       refine za ?_
       refine zc (t30 (t6 [])) ?_
       refine wp_ret (x_blockRet (x_thenRet ?_))
       refine zw (res1 rfl rfl) ?_
       exact ⟨by unfold lookV; rw [if_neg (show ¬ ok = false by simpa using h9), if_neg (fun h => h hy14), if_neg (show ¬ ((ceP y).kind ≠ 1 ∧ refs = 4) from fun h => h22 (by have := h.2; omega)), if_pos ⟨h27, by rw [show hasH xs (2 * (ceP y).num) = hh from hhe.symm]; simpa using h34⟩], (H.sub (List.nil_sublist _))⟩
      ·refine zv ?_
       refine za ?_
       refine zc (t30 (t6 [])) ?_
       refine c_iff rfl ?_
       refine wp_skip ?_
       refine x_blockNormal ?_
       refine x_thenNormal ?_
       refine zq 36 ⟨rfl, rfl⟩ ?_
       refine za ?_
       refine zc (t30 (t6 [])) ?_
       refine wp_ret ?_
       refine zw (res1 rfl rfl) ?_
       exact ⟨by unfold lookV; rw [if_neg (show ¬ ok = false by simpa using h9), if_neg (fun h => h hy14), if_neg (show ¬ ((ceP y).kind ≠ 1 ∧ refs = 4) from fun h => h22 (by have := h.2; omega)), if_neg (show ¬ ((ceP y).kind ≠ 2 ∧ hasH xs (2 * (ceP y).num) = false) from fun h => by have h2 := h.2; rw [show hasH xs (2 * (ceP y).num) = hh from hhe.symm] at h2; simp [h2] at h34)], (H.sub (List.nil_sublist _))⟩
     ·refine zm ?_
      refine zg ?_
      refine zg ?_
      refine zg ?_
      refine zg ?_
      refine zg ?_
      refine zg ?_
      refine zf ?_
      refine za ?_
      refine zc (t30 (t6 [])) ?_
      refine c_iff rfl ?_
      refine wp_skip ?_
      refine x_blockNormal ?_
      refine x_thenNormal ?_
      refine zq 36 ⟨rfl, rfl⟩ ?_
      refine za ?_
      refine zc (t30 (t6 [])) ?_
      refine wp_ret ?_
      refine zw (res1 rfl rfl) ?_
      exact ⟨by unfold lookV; rw [if_neg (show ¬ ok = false by simpa using h9), if_neg (fun h => h hy14), if_neg (show ¬ ((ceP y).kind ≠ 1 ∧ refs = 4) from fun h => h22 (by have := h.2; omega)), if_neg (show ¬ ((ceP y).kind ≠ 2 ∧ _) from fun h => h27 h.1)], (H.sub (List.nil_sublist _))⟩
   ·refine zm ?_
    refine zg ?_
    refine zg ?_
    refine zf ?_
    refine za ?_
    refine zc (t30 (t6 [])) ?_
    refine c_iff rfl ?_
    refine zq 36 ⟨rfl, rfl⟩ ?_
    refine zR 0 qu43 qs3 ?_
    refine s_val (r_load1 qg3 rfl (H.at 0 rfl) (rfl : _ = some (Value.int .i64 y.kind))) ?_
    refine s_test (r_neq rfl rfl) (fun h27 => ?_) (fun h27 => ?_)
    ·refine zm ?_
     refine zy ?_
     refine zm ?_
     refine zy ?_
     refine zR 1 qu43 qs28 ?_
     refine zy ?_
     refine s_val (r_load1 qg28 rfl (H.at 0 rfl) (rfl : _ = some (Value.int .u64 y.num))) ?_
     refine zy ?_
     refine s_call (r_call qc16 (ec rfl en)) (leaf_spec _ _) ?_
     rintro v w ⟨rfl, HC⟩
     replace H := H.quiet HC
     have hlf : lf y.num = 2 * y.num := lf_right hy14
     rw [hlf]
     have hn1 : 1 ≤ y.num := hy14.2.2.1
     refine zy ?_
     refine s_call (r_call Try.call47 (ec rfl (ec rfl en))) (has_spec bt ci xs NT hxl hv (2 * y.num) (by omega) _ hT (hown.stM (H.sub (List.nil_sublist _)))) ?_
     rintro v w ⟨rfl, HC⟩
     replace H := H.quiet HC
     obtain ⟨hh, hhe⟩ : ∃ h, h = hasH xs (2 * y.num) := ⟨_, rfl⟩
     rw [show decide (∃ x ∈ xs, InN x (2 * y.num)) = hh from hhe.symm]
     refine zy ?_
     refine s_testb (r_not rfl) (fun h34 => ?_) (fun h34 => ?_)
     ·refine zv ?_
      refine za ?_
      refine zc (t30 (t6 [])) ?_
      refine c_ift rfl ?_
      refine zq 36 ⟨rfl, rfl⟩ ?_
      refine za ?_
      refine zc (t30 (t6 [])) ?_
      refine wp_ret (x_blockRet (x_thenRet ?_))
      refine zw (res1 rfl rfl) ?_
      exact ⟨by unfold lookV; rw [if_neg (show ¬ ok = false by simpa using h9), if_neg (fun h => h hy14), if_neg (show ¬ ((ceP y).kind ≠ 1 ∧ refs = 4) from fun h => h19 h.1), if_pos ⟨h27, by rw [show hasH xs (2 * (ceP y).num) = hh from hhe.symm]; simpa using h34⟩], (H.sub (List.nil_sublist _))⟩
     ·refine zv ?_
      refine za ?_
      refine zc (t30 (t6 [])) ?_
      refine c_iff rfl ?_
      refine wp_skip ?_
      refine x_blockNormal ?_
      refine x_thenNormal ?_
      refine zq 36 ⟨rfl, rfl⟩ ?_
      refine za ?_
      refine zc (t30 (t6 [])) ?_
      refine wp_ret ?_
      refine zw (res1 rfl rfl) ?_
      exact ⟨by unfold lookV; rw [if_neg (show ¬ ok = false by simpa using h9), if_neg (fun h => h hy14), if_neg (show ¬ ((ceP y).kind ≠ 1 ∧ refs = 4) from fun h => h19 h.1), if_neg (show ¬ ((ceP y).kind ≠ 2 ∧ hasH xs (2 * (ceP y).num) = false) from fun h => by have h2 := h.2; rw [show hasH xs (2 * (ceP y).num) = hh from hhe.symm] at h2; simp [h2] at h34)], (H.sub (List.nil_sublist _))⟩
    ·refine zm ?_
     refine zg ?_
     refine zg ?_
     refine zg ?_
     refine zg ?_
     refine zg ?_
     refine zg ?_
     refine zf ?_
     refine za ?_
     refine zc (t30 (t6 [])) ?_
     refine c_iff rfl ?_
     refine wp_skip ?_
     refine x_blockNormal ?_
     refine x_thenNormal ?_
     refine zq 36 ⟨rfl, rfl⟩ ?_
     refine za ?_
     refine zc (t30 (t6 [])) ?_
     refine wp_ret ?_
     refine zw (res1 rfl rfl) ?_
     exact ⟨by unfold lookV; rw [if_neg (show ¬ ok = false by simpa using h9), if_neg (fun h => h hy14), if_neg (show ¬ ((ceP y).kind ≠ 1 ∧ refs = 4) from fun h => h19 h.1), if_neg (show ¬ ((ceP y).kind ≠ 2 ∧ _) from fun h => h27 h.1)], (H.sub (List.nil_sublist _))⟩
  ·replace H := H.quiet HC
   refine s_val (r_not rfl) ?_
   refine za ?_
   refine zc (t30 (t6 [])) ?_
   refine c_ift rfl ?_
   refine zq 36 ⟨rfl, rfl⟩ ?_
   refine za ?_
   refine zc (t30 (t6 [])) ?_
   refine wp_ret (x_blockRet (x_thenRet ?_))
   refine zw (res1 rfl rfl) ?_
   exact ⟨by unfold lookV; rw [if_neg (show ¬ ok = false by simpa using h9), if_pos hy14], (H.sub (List.nil_sublist _))⟩

end Go.Proofs.Ytobfnieebiakeaa

