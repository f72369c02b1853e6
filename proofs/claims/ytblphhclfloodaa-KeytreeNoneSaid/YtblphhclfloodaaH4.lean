import Derived.Test.YtblphhclfloodaaG1
import Derived.Test.YtblphhclfloodaaT1
namespace Go.Proofs.Ytblphhclfloodaa
open Go Go.Er

set_option maxHeartbeats 4000000 in
theorem findn_spec (n : Int) (w0 : World) :
    Calls Try.prog 28 #[.pointer none, .int .u64 n] w0 fun e w => ∃ v, e = .returned v ∧ (v = .tuple #[.int .i64 0, .bool false] ∧ St w0 [] w []) := by
  have H := St.refl w0
  refine c_enter (args := [.pointer none, .int .u64 n]) (l := [.pointer none, .int .u64 n, undef, undef, undef, undef, undef, undef, undef, undef, undef, undef, undef, undef, undef, undef, undef, undef, undef, undef, undef, undef, undef, undef, undef, undef, undef, undef, undef, undef, undef, undef, undef, undef, undef, undef, undef, undef, undef, undef, undef, undef, undef, undef, undef, undef, undef, undef, undef, undef, undef, undef, undef, undef]) Try.func28 Try.ntmps28 rfl rfl ?_
  refine c_rseq (n := 54) ⟨rfl, rfl⟩ ?_
  refine s_val (r_assign rfl) ?_
  refine s_val (r_assign rfl) ?_
  refine c_nil (l' := [_, _, _, _, _, _, _, _, _, _, _, _, _, _, _, _, _, _, _, _, _, _, _, _, _, _, _, _, _, _, _, _, _, _, _, _, _, _, _, _, _, _, _, _, _, _, _, _, _, _, _, _, _, _]) rfl ?_
  refine c_seq ?_
  refine c_rseq (n := 54) ⟨rfl, rfl⟩ ?_
  refine s_val (r_move rfl) ?_
  refine s_val (r_nilpT Try.runUnderlying26 rfl rfl) ?_
  refine s_val (r_move rfl) ?_
  refine g_no rfl rfl (by decide) ?_
  refine g_no rfl rfl (by decide) ?_
  refine g_no rfl rfl (by decide) ?_
  refine s_val (r_pickt rfl rfl) ?_
  refine c_nil (l' := [_, _, _, _, _, _, _, _, _, _, _, _, _, _, _, _, _, _, _, _, _, _, _, _, _, _, _, _, _, _, _, _, _, _, _, _, _, _, _, _, _, _, _, _, _, _, _, _, _, _, _, _, _, _]) rfl ?_
  refine c_ift rfl ?_
  refine c_rseq (n := 54) ⟨rfl, rfl⟩ ?_
  refine s_val (r_assign rfl) ?_
  refine s_val (r_assign rfl) ?_
  refine c_nil (l' := [_, _, _, _, _, _, _, _, _, _, _, _, _, _, _, _, _, _, _, _, _, _, _, _, _, _, _, _, _, _, _, _, _, _, _, _, _, _, _, _, _, _, _, _, _, _, _, _, _, _, _, _, _, _]) rfl ?_
  refine wp_ret (x_thenRet ?_)
  refine e_ret (res2 rfl rfl rfl) ⟨_, rfl, ?_⟩
  exact ⟨rfl, H⟩

set_option maxHeartbeats 4000000 in
theorem keyn_spec (n : Int) (w0 : World) :
    Calls Try.prog 19 #[.pointer none, .int .u64 n] w0 fun e w => ∃ v, e = .returned v ∧ (v = .tuple #[.agg (kC (By.zero 32)).toArray, .bool false] ∧ St w0 [] w []) := by
  have H := St.refl w0
  refine c_enter (args := [.pointer none, .int .u64 n]) (l := [.pointer none, .int .u64 n, undef, undef, undef, undef, undef, undef, undef, undef, undef, undef, undef, undef, undef, undef, undef, undef, undef, undef, undef, undef, undef, undef, undef, undef, undef]) Try.func19 Try.ntmps19 rfl rfl ?_
  refine c_rseq (n := 27) ⟨rfl, rfl⟩ ?_
  refine s_new (m_alloc (cs := (kC (By.zero 32))) H Try.zeroValue23 rfl) ?_
  intro w b4 H
  refine s_val (r_assign rfl) ?_
  refine c_nil (l' := [_, _, _, _, _, _, _, _, _, _, _, _, _, _, _, _, _, _, _, _, _, _, _, _, _, _, _]) rfl ?_
  refine c_rseq (n := 27) ⟨rfl, rfl⟩ ?_
  refine s_val (r_move rfl) ?_
  refine s_val (r_move rfl) ?_
  refine s_call (r_call Try.call28 (ec rfl (ec rfl en))) (findn_spec _ _) ?_
  rintro v w ⟨rfl, HC⟩
  replace H := H.quiet HC
  refine s_val (r_move rfl) ?_
  refine s_val (r_extract rfl rfl) ?_
  refine s_val (r_extract rfl rfl) ?_
  refine s_val (r_assign rfl) ?_
  refine s_val (r_assign rfl) ?_
  refine c_nil (l' := [_, _, _, _, _, _, _, _, _, _, _, _, _, _, _, _, _, _, _, _, _, _, _, _, _, _, _]) rfl ?_
  refine c_seq ?_
  refine c_rseq (n := 27) ⟨rfl, rfl⟩ ?_
  refine s_val (r_move rfl) ?_
  refine s_val (r_not rfl) ?_
  refine c_nil (l' := [_, _, _, _, _, _, _, _, _, _, _, _, _, _, _, _, _, _, _, _, _, _, _, _, _, _, _]) rfl ?_
  refine c_ift rfl ?_
  refine c_rseq (n := 27) ⟨rfl, rfl⟩ ?_
  refine s_val (r_buildA (pl := []) (zs := kC (By.zero 32)) (out := kC (By.zero 32)) Try.runUnderlying23 Try.sizeOf5 Try.zeroValue23 pn (by intro p hp; simp at hp) rfl) ?_
  refine s_st (m_storen H 0 32 Try.sizeOf23 rfl rfl (by first | exact (kC_length _) | exact (hC_length _)) (by first | exact (kC_one _) | exact (hC_one _)) rfl (by first | exact (by rw [kC_length]; omega) | exact (by rw [hC_length]; omega)) (by first | exact (kC_sp _ _) | exact (hC_sp _ _))) (L' := [_]) rfl ?_
  intro w H
  refine s_val (r_assign rfl) ?_
  refine c_nil (l' := [_, _, _, _, _, _, _, _, _, _, _, _, _, _, _, _, _, _, _, _, _, _, _, _, _, _, _]) rfl ?_
  refine wp_ret (x_thenRet ?_)
  refine e_ret (rc_two rfl (rc_celln Try.isAgg23 Try.sizeOf23 rfl (H.at 0 rfl) (by first | exact (kC_td _) | exact (hC_td _) | exact (hC_seed _)) (by first | exact (kC_length _) | exact (hC_length _))) (rc_tmp rfl)) ⟨_, rfl, ?_⟩
  exact ⟨rfl, H.sub (.cons _ .slnil)⟩

set_option maxHeartbeats 4000000 in
theorem hasn_spec (n : Int) (w0 : World) :
    Calls Try.prog 23 #[.pointer none, .int .u64 n] w0 fun e w => ∃ v, e = .returned v ∧ (v = .bool false ∧ St w0 [] w []) := by
  have H := St.refl w0
  refine c_enter (args := [.pointer none, .int .u64 n]) (l := [.pointer none, .int .u64 n, undef, undef, undef, undef, undef, undef, undef, undef, undef, undef, undef, undef]) Try.func23 Try.ntmps23 rfl rfl ?_
  refine c_rseq (n := 14) ⟨rfl, rfl⟩ ?_
  refine s_val (r_assign rfl) ?_
  refine c_nil (l' := [_, _, _, _, _, _, _, _, _, _, _, _, _, _]) rfl ?_
  refine c_rseq (n := 14) ⟨rfl, rfl⟩ ?_
  refine s_val (r_move rfl) ?_
  refine s_val (r_move rfl) ?_
  refine s_call (r_call Try.call28 (ec rfl (ec rfl en))) (findn_spec _ _) ?_
  rintro v w ⟨rfl, HC⟩
  replace H := H.quiet HC
  refine s_val (r_move rfl) ?_
  refine s_val (r_extract rfl rfl) ?_
  refine s_val (r_extract rfl rfl) ?_
  refine s_val (r_assign rfl) ?_
  refine s_val (r_assign rfl) ?_
  refine c_nil (l' := [_, _, _, _, _, _, _, _, _, _, _, _, _, _]) rfl ?_
  refine c_rseq (n := 14) ⟨rfl, rfl⟩ ?_
  refine s_val (r_move rfl) ?_
  refine s_val (r_assign rfl) ?_
  refine c_nil (l' := [_, _, _, _, _, _, _, _, _, _, _, _, _, _]) rfl ?_
  refine wp_ret ?_
  refine e_ret (res1 rfl rfl) ⟨_, rfl, ?_⟩
  exact ⟨rfl, H⟩

set_option maxHeartbeats 4000000 in
theorem puncn_spec (n : Int) (w0 : World) :
    Calls Try.prog 14 #[.pointer none, .int .u64 n] w0 fun e w => ∃ v, e = .returned v ∧ (v = .bool false ∧ St w0 [] w []) := by
  have H := St.refl w0
  refine c_enter (args := [.pointer none, .int .u64 n]) (l := [.pointer none, .int .u64 n, undef, undef, undef, undef, undef, undef, undef, undef, undef, undef, undef, undef, undef, undef, undef, undef, undef, undef, undef, undef, undef, undef, undef, undef, undef, undef, undef, undef, undef, undef, undef, undef, undef, undef, undef, undef, undef, undef, undef, undef, undef]) Try.func14 Try.ntmps14 rfl rfl ?_
  refine c_rseq (n := 43) ⟨rfl, rfl⟩ ?_
  refine s_val (r_assign rfl) ?_
  refine c_nil (l' := [_, _, _, _, _, _, _, _, _, _, _, _, _, _, _, _, _, _, _, _, _, _, _, _, _, _, _, _, _, _, _, _, _, _, _, _, _, _, _, _, _, _, _]) rfl ?_
  refine c_rseq (n := 43) ⟨rfl, rfl⟩ ?_
  refine s_val (r_move rfl) ?_
  refine s_val (r_move rfl) ?_
  refine s_call (r_call Try.call28 (ec rfl (ec rfl en))) (findn_spec _ _) ?_
  rintro v w ⟨rfl, HC⟩
  replace H := H.quiet HC
  refine s_val (r_move rfl) ?_
  refine s_val (r_extract rfl rfl) ?_
  refine s_val (r_extract rfl rfl) ?_
  refine s_val (r_assign rfl) ?_
  refine s_val (r_assign rfl) ?_
  refine c_nil (l' := [_, _, _, _, _, _, _, _, _, _, _, _, _, _, _, _, _, _, _, _, _, _, _, _, _, _, _, _, _, _, _, _, _, _, _, _, _, _, _, _, _, _, _]) rfl ?_
  refine c_seq ?_
  refine c_rseq (n := 43) ⟨rfl, rfl⟩ ?_
  refine s_val (r_move rfl) ?_
  refine s_val (r_not rfl) ?_
  refine c_nil (l' := [_, _, _, _, _, _, _, _, _, _, _, _, _, _, _, _, _, _, _, _, _, _, _, _, _, _, _, _, _, _, _, _, _, _, _, _, _, _, _, _, _, _, _]) rfl ?_
  refine c_ift rfl ?_
  refine c_rseq (n := 43) ⟨rfl, rfl⟩ ?_
  refine s_val (r_assign rfl) ?_
  refine c_nil (l' := [_, _, _, _, _, _, _, _, _, _, _, _, _, _, _, _, _, _, _, _, _, _, _, _, _, _, _, _, _, _, _, _, _, _, _, _, _, _, _, _, _, _, _]) rfl ?_
  refine wp_ret (x_thenRet ?_)
  refine e_ret (res1 rfl rfl) ⟨_, rfl, ?_⟩
  exact ⟨rfl, H⟩

set_option maxHeartbeats 4000000 in
theorem heldn_spec  (w0 : World) :
    Calls Try.prog 17 #[.pointer none] w0 fun e w => ∃ v, e = .returned v ∧ (v = .slice none 0 0 ∧ St w0 [] w []) := by
  have H := St.refl w0
  refine c_enter (args := [.pointer none]) (l := [.pointer none, undef, undef, undef, undef, undef, undef, undef, undef, undef]) Try.func17 Try.ntmps17 rfl rfl ?_
  refine c_rseq (n := 10) ⟨rfl, rfl⟩ ?_
  refine s_val (r_assign rfl) ?_
  refine c_nil (l' := [_, _, _, _, _, _, _, _, _, _]) rfl ?_
  refine c_seq ?_
  refine c_rseq (n := 10) ⟨rfl, rfl⟩ ?_
  refine s_val (r_move rfl) ?_
  refine s_val (r_nilpT Try.runUnderlying26 rfl rfl) ?_
  refine c_nil (l' := [_, _, _, _, _, _, _, _, _, _]) rfl ?_
  refine c_ift rfl ?_
  refine c_rseq (n := 10) ⟨rfl, rfl⟩ ?_
  refine s_val (r_assign rfl) ?_
  refine c_nil (l' := [_, _, _, _, _, _, _, _, _, _]) rfl ?_
  refine wp_ret (x_thenRet ?_)
  refine e_ret (res1 rfl rfl) ⟨_, rfl, ?_⟩
  exact ⟨rfl, H⟩

set_option maxHeartbeats 4000000 in
theorem countn_spec  (w0 : World) :
    Calls Try.prog 18 #[.pointer none] w0 fun e w => ∃ v, e = .returned v ∧ (v = .int .i64 0 ∧ St w0 [] w []) := by
  have H := St.refl w0
  refine c_enter (args := [.pointer none]) (l := [.pointer none, undef, undef, undef, undef, undef, undef, undef, undef, undef, undef, undef, undef, undef, undef, undef, undef, undef, undef, undef, undef, undef, undef, undef, undef]) Try.func18 Try.ntmps18 rfl rfl ?_
  refine c_rseq (n := 25) ⟨rfl, rfl⟩ ?_
  refine s_val (r_assign rfl) ?_
  refine c_nil (l' := [_, _, _, _, _, _, _, _, _, _, _, _, _, _, _, _, _, _, _, _, _, _, _, _, _]) rfl ?_
  refine c_seq ?_
  refine c_rseq (n := 25) ⟨rfl, rfl⟩ ?_
  refine s_val (r_move rfl) ?_
  refine s_val (r_nilpT Try.runUnderlying26 rfl rfl) ?_
  refine c_nil (l' := [_, _, _, _, _, _, _, _, _, _, _, _, _, _, _, _, _, _, _, _, _, _, _, _, _]) rfl ?_
  refine c_ift rfl ?_
  refine c_rseq (n := 25) ⟨rfl, rfl⟩ ?_
  refine s_val (r_assign rfl) ?_
  refine c_nil (l' := [_, _, _, _, _, _, _, _, _, _, _, _, _, _, _, _, _, _, _, _, _, _, _, _, _]) rfl ?_
  refine wp_ret (x_thenRet ?_)
  refine e_ret (res1 rfl rfl) ⟨_, rfl, ?_⟩
  exact ⟨rfl, H⟩

set_option maxHeartbeats 4000000 in
theorem clonen_spec  (w0 : World) :
    Calls Try.prog 27 #[.pointer none] w0 fun e w => ∃ v, e = .returned v ∧ (v = .pointer none ∧ St w0 [] w []) := by
  have H := St.refl w0
  refine c_enter (args := [.pointer none]) (l := [.pointer none, undef, undef, undef, undef, undef, undef, undef, undef, undef, undef, undef, undef, undef, undef, undef]) Try.func27 Try.ntmps27 rfl rfl ?_
  refine c_rseq (n := 16) ⟨rfl, rfl⟩ ?_
  refine s_val (r_assign rfl) ?_
  refine c_nil (l' := [_, _, _, _, _, _, _, _, _, _, _, _, _, _, _, _]) rfl ?_
  refine c_seq ?_
  refine c_rseq (n := 16) ⟨rfl, rfl⟩ ?_
  refine s_val (r_move rfl) ?_
  refine s_val (r_nilpT Try.runUnderlying26 rfl rfl) ?_
  refine c_nil (l' := [_, _, _, _, _, _, _, _, _, _, _, _, _, _, _, _]) rfl ?_
  refine c_ift rfl ?_
  refine c_rseq (n := 16) ⟨rfl, rfl⟩ ?_
  refine s_val (r_assign rfl) ?_
  refine c_nil (l' := [_, _, _, _, _, _, _, _, _, _, _, _, _, _, _, _]) rfl ?_
  refine wp_ret (x_thenRet ?_)
  refine e_ret (res1 rfl rfl) ⟨_, rfl, ?_⟩
  exact ⟨rfl, H⟩

set_option maxHeartbeats 4000000 in
theorem fromn_spec (s : Value) (w0 : World) :
    Calls Try.prog 25 #[.nilIface, s] w0 fun e w => ∃ v, e = .returned v ∧ (v = .tuple #[.pointer none, .int .i64 1] ∧ St w0 [] w []) := by
  have H := St.refl w0
  refine c_enter (args := [.nilIface, s]) (l := [.nilIface, s, undef, undef, undef, undef, undef, undef, undef, undef, undef, undef, undef, undef, undef, undef, undef, undef, undef, undef, undef, undef, undef, undef, undef, undef, undef, undef, undef, undef, undef, undef, undef, undef, undef, undef, undef, undef, undef, undef, undef, undef, undef, undef, undef, undef, undef, undef, undef, undef, undef, undef, undef, undef, undef, undef, undef, undef]) Try.func25 Try.ntmps25 rfl rfl ?_
  refine c_rseq (n := 58) ⟨rfl, rfl⟩ ?_
  refine s_val (r_assign rfl) ?_
  refine s_val (r_assign rfl) ?_
  refine c_nil (l' := [_, _, _, _, _, _, _, _, _, _, _, _, _, _, _, _, _, _, _, _, _, _, _, _, _, _, _, _, _, _, _, _, _, _, _, _, _, _, _, _, _, _, _, _, _, _, _, _, _, _, _, _, _, _, _, _, _, _]) rfl ?_
  refine c_seq ?_
  refine c_rseq (n := 58) ⟨rfl, rfl⟩ ?_
  refine s_val (r_move rfl) ?_
  refine s_val (r_nilit Try.runUnderlying66 rfl) ?_
  refine c_nil (l' := [_, _, _, _, _, _, _, _, _, _, _, _, _, _, _, _, _, _, _, _, _, _, _, _, _, _, _, _, _, _, _, _, _, _, _, _, _, _, _, _, _, _, _, _, _, _, _, _, _, _, _, _, _, _, _, _, _, _]) rfl ?_
  refine c_ift rfl ?_
  refine c_rseq (n := 58) ⟨rfl, rfl⟩ ?_
  refine s_val (r_assign rfl) ?_
  refine s_val (r_assign rfl) ?_
  refine c_nil (l' := [_, _, _, _, _, _, _, _, _, _, _, _, _, _, _, _, _, _, _, _, _, _, _, _, _, _, _, _, _, _, _, _, _, _, _, _, _, _, _, _, _, _, _, _, _, _, _, _, _, _, _, _, _, _, _, _, _, _]) rfl ?_
  refine wp_ret (x_thenRet ?_)
  refine e_ret (res2 rfl rfl rfl) ⟨_, rfl, ?_⟩
  exact ⟨rfl, H⟩

set_option maxHeartbeats 4000000 in
theorem newn_spec (k : Key) (w0 : World) :
    Calls Try.prog 13 #[.nilIface, .agg (kC k).toArray] w0 fun e w => ∃ v, e = .returned v ∧ (v = .pointer none ∧ St w0 [] w []) := by
  have H := St.refl w0
  refine c_enter (args := [.nilIface, .agg (kC k).toArray]) (l := [.nilIface, .agg (kC k).toArray, undef, undef, undef, undef, undef, undef, undef, undef, undef, undef, undef]) Try.func13 Try.ntmps13 rfl rfl ?_
  refine c_rseq (n := 13) ⟨rfl, rfl⟩ ?_
  refine s_new (m_box (cs := (kC k)) H rfl rfl) ?_
  intro w b3 H
  refine s_val (r_assign rfl) ?_
  refine c_nil (l' := [_, _, _, _, _, _, _, _, _, _, _, _, _]) rfl ?_
  refine c_seq ?_
  refine c_rseq (n := 13) ⟨rfl, rfl⟩ ?_
  refine s_val (r_move rfl) ?_
  refine s_val (r_nilit Try.runUnderlying66 rfl) ?_
  refine c_nil (l' := [_, _, _, _, _, _, _, _, _, _, _, _, _]) rfl ?_
  refine c_ift rfl ?_
  refine c_rseq (n := 13) ⟨rfl, rfl⟩ ?_
  refine s_val (r_assign rfl) ?_
  refine c_nil (l' := [_, _, _, _, _, _, _, _, _, _, _, _, _]) rfl ?_
  refine wp_ret (x_thenRet ?_)
  replace H := H.sub (.cons _ .slnil)
  refine e_ret (res1 rfl rfl) ⟨_, rfl, ?_⟩
  exact ⟨rfl, H⟩

set_option maxHeartbeats 4000000 in
theorem keyz_spec (bt : Nat) (ci : Value) (cap : Nat) (a : Option Addr) (n : Int) (hn0 : 0 ≤ n) (w0 : World) (hbt : w0.heap[bt]? = some (.cells [ci, .slice a 0 cap].toArray 68 (0, 0))) :
    Calls Try.prog 19 #[.pointer (some ⟨bt, 0, none⟩), .int .u64 n] w0 fun e w => ∃ v, e = .returned v ∧ (v = .tuple #[.agg (kC (By.zero 32)).toArray, .bool false] ∧ St w0 [] w []) := by
  have H := St.refl w0
  refine c_enter (args := [.pointer (some ⟨bt, 0, none⟩), .int .u64 n]) (l := [.pointer (some ⟨bt, 0, none⟩), .int .u64 n, undef, undef, undef, undef, undef, undef, undef, undef, undef, undef, undef, undef, undef, undef, undef, undef, undef, undef, undef, undef, undef, undef, undef, undef, undef]) Try.func19 Try.ntmps19 rfl rfl ?_
  refine c_rseq (n := 27) ⟨rfl, rfl⟩ ?_
  refine s_new (m_alloc (cs := (kC (By.zero 32))) H Try.zeroValue23 rfl) ?_
  intro w b4 H
  refine s_val (r_assign rfl) ?_
  refine c_nil (l' := [_, _, _, _, _, _, _, _, _, _, _, _, _, _, _, _, _, _, _, _, _, _, _, _, _, _, _]) rfl ?_
  refine c_rseq (n := 27) ⟨rfl, rfl⟩ ?_
  refine s_val (r_move rfl) ?_
  refine s_val (r_move rfl) ?_
  refine s_call (r_call Try.call28 (ec rfl (ec rfl en))) (find_spec _ _ _ _ _ _ [] (by simp) trivial n hn0 _ (H.rd0 hbt) (fun h => absurd h (Nat.lt_irrefl _))) ?_
  rintro v w ⟨i, ok, (⟨rfl, hi, hin⟩ | ⟨rfl, rfl, hno⟩), rfl, HC⟩
  · skip
    exact absurd hi (Nat.not_lt_zero _)
  · skip
    replace H := H.quiet HC
    refine s_val (r_move rfl) ?_
    refine s_val (r_extract rfl rfl) ?_
    refine s_val (r_extract rfl rfl) ?_
    refine s_val (r_assign rfl) ?_
    refine s_val (r_assign rfl) ?_
    refine c_nil (l' := [_, _, _, _, _, _, _, _, _, _, _, _, _, _, _, _, _, _, _, _, _, _, _, _, _, _, _]) rfl ?_
    refine c_seq ?_
    refine c_rseq (n := 27) ⟨rfl, rfl⟩ ?_
    refine s_val (r_move rfl) ?_
    refine s_val (r_not rfl) ?_
    refine c_nil (l' := [_, _, _, _, _, _, _, _, _, _, _, _, _, _, _, _, _, _, _, _, _, _, _, _, _, _, _]) rfl ?_
    refine c_ift rfl ?_
    refine c_rseq (n := 27) ⟨rfl, rfl⟩ ?_
    refine s_val (r_buildA (pl := []) (zs := kC (By.zero 32)) (out := kC (By.zero 32)) Try.runUnderlying23 Try.sizeOf5 Try.zeroValue23 pn (by intro p hp; simp at hp) rfl) ?_
    refine s_st (m_storen H 0 32 Try.sizeOf23 rfl rfl (by first | exact (kC_length _) | exact (hC_length _)) (by first | exact (kC_one _) | exact (hC_one _)) rfl (by first | exact (by rw [kC_length]; omega) | exact (by rw [hC_length]; omega)) (by first | exact (kC_sp _ _) | exact (hC_sp _ _))) (L' := [_]) rfl ?_
    intro w H
    refine s_val (r_assign rfl) ?_
    refine c_nil (l' := [_, _, _, _, _, _, _, _, _, _, _, _, _, _, _, _, _, _, _, _, _, _, _, _, _, _, _]) rfl ?_
    refine wp_ret (x_thenRet ?_)
    refine e_ret (rc_two rfl (rc_celln Try.isAgg23 Try.sizeOf23 rfl (H.at 0 rfl) (by first | exact (kC_td _) | exact (hC_td _) | exact (hC_seed _)) (by first | exact (kC_length _) | exact (hC_length _))) (rc_tmp rfl)) ⟨_, rfl, ?_⟩
    exact ⟨rfl, H.sub (.cons _ .slnil)⟩

set_option maxHeartbeats 4000000 in
theorem puncz_spec (bt : Nat) (ci : Value) (cap : Nat) (a : Option Addr) (n : Int) (hn0 : 0 ≤ n) (w0 : World) (hbt : w0.heap[bt]? = some (.cells [ci, .slice a 0 cap].toArray 68 (0, 0))) :
    Calls Try.prog 14 #[.pointer (some ⟨bt, 0, none⟩), .int .u64 n] w0 fun e w => ∃ v, e = .returned v ∧ (v = .bool false ∧ St w0 [] w []) := by
  have H := St.refl w0
  refine c_enter (args := [.pointer (some ⟨bt, 0, none⟩), .int .u64 n]) (l := [.pointer (some ⟨bt, 0, none⟩), .int .u64 n, undef, undef, undef, undef, undef, undef, undef, undef, undef, undef, undef, undef, undef, undef, undef, undef, undef, undef, undef, undef, undef, undef, undef, undef, undef, undef, undef, undef, undef, undef, undef, undef, undef, undef, undef, undef, undef, undef, undef, undef, undef]) Try.func14 Try.ntmps14 rfl rfl ?_
  refine c_rseq (n := 43) ⟨rfl, rfl⟩ ?_
  refine s_val (r_assign rfl) ?_
  refine c_nil (l' := [_, _, _, _, _, _, _, _, _, _, _, _, _, _, _, _, _, _, _, _, _, _, _, _, _, _, _, _, _, _, _, _, _, _, _, _, _, _, _, _, _, _, _]) rfl ?_
  refine c_rseq (n := 43) ⟨rfl, rfl⟩ ?_
  refine s_val (r_move rfl) ?_
  refine s_val (r_move rfl) ?_
  refine s_call (r_call Try.call28 (ec rfl (ec rfl en))) (find_spec _ _ _ _ _ _ [] (by simp) trivial n hn0 _ (H.rd0 hbt) (fun h => absurd h (Nat.lt_irrefl _))) ?_
  rintro v w ⟨i, ok, (⟨rfl, hi, hin⟩ | ⟨rfl, rfl, hno⟩), rfl, HC⟩
  · skip
    exact absurd hi (Nat.not_lt_zero _)
  · skip
    replace H := H.quiet HC
    refine s_val (r_move rfl) ?_
    refine s_val (r_extract rfl rfl) ?_
    refine s_val (r_extract rfl rfl) ?_
    refine s_val (r_assign rfl) ?_
    refine s_val (r_assign rfl) ?_
    refine c_nil (l' := [_, _, _, _, _, _, _, _, _, _, _, _, _, _, _, _, _, _, _, _, _, _, _, _, _, _, _, _, _, _, _, _, _, _, _, _, _, _, _, _, _, _, _]) rfl ?_
    refine c_seq ?_
    refine c_rseq (n := 43) ⟨rfl, rfl⟩ ?_
    refine s_val (r_move rfl) ?_
    refine s_val (r_not rfl) ?_
    refine c_nil (l' := [_, _, _, _, _, _, _, _, _, _, _, _, _, _, _, _, _, _, _, _, _, _, _, _, _, _, _, _, _, _, _, _, _, _, _, _, _, _, _, _, _, _, _]) rfl ?_
    refine c_ift rfl ?_
    refine c_rseq (n := 43) ⟨rfl, rfl⟩ ?_
    refine s_val (r_assign rfl) ?_
    refine c_nil (l' := [_, _, _, _, _, _, _, _, _, _, _, _, _, _, _, _, _, _, _, _, _, _, _, _, _, _, _, _, _, _, _, _, _, _, _, _, _, _, _, _, _, _, _]) rfl ?_
    refine wp_ret (x_thenRet ?_)
    refine e_ret (res1 rfl rfl) ⟨_, rfl, ?_⟩
    exact ⟨rfl, H⟩

end Go.Proofs.Ytblphhclfloodaa
