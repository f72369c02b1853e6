import Derived.Test.YtbjalofmamoffaaPA1
import Derived.Test.YtbjalofmamoffaaPV1
namespace Go.Proofs.Ytbjalofmamoffaa
open Go Go.Er

set_option maxHeartbeats 4000000 in
theorem down_spec (bd : Nat) (C : List Sec) (w0 : World) (hd : DevR w0 bd C) :
    Calls Try.prog 76 #[.pointer (some ⟨bd, 0, none⟩)] w0 fun e w => ∃ v, e = .returned v ∧ (v = .bool false ∧ St w0 [] w []) := by
  have hd2 := hd
  obtain ⟨bp, bs, aw, capw, ss, ws, T, fz, T2, fz2, hbd, hbs, hws, ⟨lf, ac, nc, cc, T3, fz3, hbp⟩, hC, hin, hwl⟩ := hd2
  have hlen : ss.length = C.length := by rw [← hC, apW_length]
  have H := St.refl w0
  refine c_enter (args := [.pointer (some ⟨bd, 0, none⟩)]) (l := [.pointer (some ⟨bd, 0, none⟩), undef, undef, undef, undef, undef, undef, undef, undef, undef, undef, undef, undef, undef, undef, undef]) Try.func76 Try.ntmps76 rfl rfl ?_
  refine c_rseq (n := 16) ⟨rfl, rfl⟩ ?_
  refine s_val (r_assign rfl) ?_
  refine c_nil (l' := [_,_,_,_,_,_,_,_,_,_,_,_,_,_,_,_]) rfl ?_
  refine c_rseq (n := 16) ⟨rfl, rfl⟩ ?_
  refine s_val (r_move rfl) ?_
  refine s_val (r_nilCheck rfl) ?_
  refine s_val (r_fieldAddr (k := 6) Try.runUnderlying124 rfl Try.sizeOf4 (by decide) rfl rfl) ?_
  refine s_val (r_load1 Try.isAgg4 rfl (H.rd0 hbd) rfl) ?_
  refine s_val (r_move rfl) ?_
  refine g_yes rfl rfl ?_
  refine s_val (r_move rfl) ?_
  refine g_yes rfl rfl ?_
  refine s_val (r_nilCheck rfl) ?_
  refine g_yes rfl rfl ?_
  refine s_val (r_fieldAddr (k := 0) Try.runUnderlying124 rfl Try.sizeOf25 (by decide) rfl rfl) ?_
  refine g_yes rfl rfl ?_
  refine s_val (r_load1 Try.isAgg25 rfl (H.rd0 hbd) rfl) ?_
  refine g_yes rfl rfl ?_
  refine s_val (r_nilCheck rfl) ?_
  refine g_yes rfl rfl ?_
  refine s_val (r_fieldAddr (k := 0) Try.runUnderlying127 rfl Try.sizeOf4 (by decide) rfl rfl) ?_
  refine g_yes rfl rfl ?_
  refine s_val (r_load1 Try.isAgg4 rfl (H.rd0 hbp) rfl) ?_
  refine s_val (r_pickf rfl rfl) ?_
  refine s_val (r_assign rfl) ?_
  refine c_nil (l' := [_,_,_,_,_,_,_,_,_,_,_,_,_,_,_,_]) rfl ?_
  refine wp_ret ?_
  refine e_ret (res1 rfl rfl) ⟨_, rfl, ?_⟩
  exact ⟨rfl, H⟩

set_option maxHeartbeats 4000000 in
theorem dthere_spec (bd : Nat) (C : List Sec) (n : Int) (w0 : World) (hd : DevR w0 bd C) :
    Calls Try.prog 77 #[.pointer (some ⟨bd, 0, none⟩), .int .i64 n] w0 fun e w => ∃ v, e = .returned v ∧ (v = .bool (decide (0 ≤ n ∧ n < (C.length : Int))) ∧ St w0 [] w []) := by
  have hd2 := hd
  obtain ⟨bp, bs, aw, capw, ss, ws, T, fz, T2, fz2, hbd, hbs, hws, ⟨lf, ac, nc, cc, T3, fz3, hbp⟩, hC, hin, hwl⟩ := hd2
  have hlen : ss.length = C.length := by rw [← hC, apW_length]
  have H := St.refl w0
  refine c_enter (args := [.pointer (some ⟨bd, 0, none⟩), .int .i64 n]) (l := [.pointer (some ⟨bd, 0, none⟩), .int .i64 n, undef, undef, undef, undef, undef, undef, undef, undef, undef, undef, undef, undef, undef, undef]) Try.func77 Try.ntmps77 rfl rfl ?_
  refine c_rseq (n := 16) ⟨rfl, rfl⟩ ?_
  refine s_val (r_assign rfl) ?_
  refine c_nil (l' := [_,_,_,_,_,_,_,_,_,_,_,_,_,_,_,_]) rfl ?_
  refine c_rseq (n := 16) ⟨rfl, rfl⟩ ?_
  refine s_val (r_move rfl) ?_
  refine s_test (r_geq rfl rfl) (fun h6 => ?_) (fun h6 => ?_)
  · skip
    refine s_val (r_move rfl) ?_
    refine g_yes rfl rfl ?_
    refine s_val (r_move rfl) ?_
    refine g_yes rfl rfl ?_
    refine s_val (r_move rfl) ?_
    refine g_yes rfl rfl ?_
    refine s_val (r_nilCheck rfl) ?_
    refine g_yes rfl rfl ?_
    refine s_val (r_fieldAddr (k := 1) Try.runUnderlying124 rfl Try.sizeOf121 (by decide) rfl rfl) ?_
    refine g_yes rfl rfl ?_
    refine s_val (r_load1 Try.isAgg121 rfl (H.rd0 hbd) rfl) ?_
    refine g_yes rfl rfl ?_
    refine s_val (r_lens Try.runUnderlying121 (ec rfl en)) ?_
    refine g_yes rfl rfl ?_
    refine s_val (r_lss rfl rfl) ?_
    refine s_val (r_pickt rfl rfl) ?_
    refine s_val (r_assign rfl) ?_
    refine c_nil (l' := [_,_,_,_,_,_,_,_,_,_,_,_,_,_,_,_]) rfl ?_
    refine wp_ret ?_
    refine e_ret (res1 rfl rfl) ⟨_, rfl, ?_⟩
    exact ⟨congrArg Value.bool (decide_eq_decide.2 (by omega)), H⟩
  · skip
    refine s_val (r_move rfl) ?_
    refine g_no rfl rfl (by decide) ?_
    refine g_no rfl rfl (by decide) ?_
    refine g_no rfl rfl (by decide) ?_
    refine g_no rfl rfl (by decide) ?_
    refine g_no rfl rfl (by decide) ?_
    refine g_no rfl rfl (by decide) ?_
    refine g_no rfl rfl (by decide) ?_
    refine s_val (r_pickf rfl rfl) ?_
    refine s_val (r_assign rfl) ?_
    refine c_nil (l' := [_,_,_,_,_,_,_,_,_,_,_,_,_,_,_,_]) rfl ?_
    refine wp_ret ?_
    refine e_ret (res1 rfl rfl) ⟨_, rfl, ?_⟩
    exact ⟨by rw [decide_eq_false (fun h => h6 h.1)], H⟩

set_option maxHeartbeats 4000000 in
theorem dlen_spec (bd : Nat) (C : List Sec) (w0 : World) (hd : DevR w0 bd C) :
    Calls Try.prog 49 #[.pointer (some ⟨bd, 0, none⟩)] w0 fun e w => ∃ v, e = .returned v ∧ (v = .int .i64 (C.length : Nat) ∧ St w0 [] w []) := by
  have hd2 := hd
  obtain ⟨bp, bs, aw, capw, ss, ws, T, fz, T2, fz2, hbd, hbs, hws, ⟨lf, ac, nc, cc, T3, fz3, hbp⟩, hC, hin, hwl⟩ := hd2
  have hlen : ss.length = C.length := by rw [← hC, apW_length]
  have H := St.refl w0
  refine c_enter (args := [.pointer (some ⟨bd, 0, none⟩)]) (l := [.pointer (some ⟨bd, 0, none⟩), undef, undef, undef, undef, undef, undef, undef, undef, undef]) Try.func49 Try.ntmps49 rfl rfl ?_
  refine c_rseq (n := 10) ⟨rfl, rfl⟩ ?_
  refine s_val (r_assign rfl) ?_
  refine c_nil (l' := [_,_,_,_,_,_,_,_,_,_]) rfl ?_
  refine c_seq ?_
  refine c_rseq (n := 10) ⟨rfl, rfl⟩ ?_
  refine s_val (r_move rfl) ?_
  refine s_val (r_nilpF Try.runUnderlying26 rfl rfl) ?_
  refine c_nil (l' := [_,_,_,_,_,_,_,_,_,_]) rfl ?_
  refine c_iff rfl ?_
  refine wp_skip ?_
  refine x_thenNormal ?_
  refine c_rseq (n := 10) ⟨rfl, rfl⟩ ?_
  refine s_val (r_move rfl) ?_
  refine s_val (r_nilCheck rfl) ?_
  refine s_val (r_fieldAddr (k := 1) Try.runUnderlying124 rfl Try.sizeOf121 (by decide) rfl rfl) ?_
  refine s_val (r_load1 Try.isAgg121 rfl (H.rd0 hbd) rfl) ?_
  refine s_val (r_lens Try.runUnderlying121 (ec rfl en)) ?_
  refine s_val (r_assign rfl) ?_
  refine c_nil (l' := [_,_,_,_,_,_,_,_,_,_]) rfl ?_
  refine wp_ret ?_
  refine e_ret (res1 rfl rfl) ⟨_, rfl, ?_⟩
  exact ⟨by rw [hlen], H⟩

set_option maxHeartbeats 4000000 in
theorem operate_spec (bd : Nat) (C : List Sec) (w0 : World) (hd : DevR w0 bd C) :
    Calls Try.prog 90 #[.pointer (some ⟨bd, 0, none⟩)] w0 fun e w => ∃ v, e = .returned v ∧ (v = .bool true ∧ St w0 [] w []) := by
  have hd2 := hd
  obtain ⟨bp, bs, aw, capw, ss, ws, T, fz, T2, fz2, hbd, hbs, hws, ⟨lf, ac, nc, cc, T3, fz3, hbp⟩, hC, hin, hwl⟩ := hd2
  have hlen : ss.length = C.length := by rw [← hC, apW_length]
  have H := St.refl w0
  refine c_enter (args := [.pointer (some ⟨bd, 0, none⟩)]) (l := [.pointer (some ⟨bd, 0, none⟩), undef, undef, undef, undef, undef, undef, undef, undef, undef, undef, undef, undef, undef, undef, undef, undef, undef, undef, undef, undef, undef, undef, undef, undef, undef, undef, undef, undef, undef, undef, undef, undef, undef, undef, undef, undef, undef, undef, undef, undef, undef, undef, undef, undef]) Try.func90 Try.ntmps90 rfl rfl ?_
  refine c_rseq (n := 45) ⟨rfl, rfl⟩ ?_
  refine s_val (r_assign rfl) ?_
  refine c_nil (l' := [_,_,_,_,_,_,_,_,_,_,_,_,_,_,_,_,_,_,_,_,_,_,_,_,_,_,_,_,_,_,_,_,_,_,_,_,_,_,_,_,_,_,_,_,_]) rfl ?_
  refine c_rseq (n := 45) ⟨rfl, rfl⟩ ?_
  refine s_val (r_move rfl) ?_
  refine s_val (r_nilCheck rfl) ?_
  refine s_val (r_fieldAddr (k := 0) Try.runUnderlying124 rfl Try.sizeOf25 (by decide) rfl rfl) ?_
  refine s_val (r_load1 Try.isAgg25 rfl (H.rd0 hbd) rfl) ?_
  refine s_val (r_assign rfl) ?_
  refine c_nil (l' := [_,_,_,_,_,_,_,_,_,_,_,_,_,_,_,_,_,_,_,_,_,_,_,_,_,_,_,_,_,_,_,_,_,_,_,_,_,_,_,_,_,_,_,_,_]) rfl ?_
  refine c_seq ?_
  refine c_rseq (n := 45) ⟨rfl, rfl⟩ ?_
  refine s_val (r_move rfl) ?_
  refine s_val (r_nilCheck rfl) ?_
  refine s_val (r_fieldAddr (k := 2) Try.runUnderlying127 rfl Try.sizeOf4 (by decide) rfl rfl) ?_
  refine s_val (r_load1 Try.isAgg4 rfl (H.rd0 hbp) rfl) ?_
  refine s_val (r_not rfl) ?_
  refine c_nil (l' := [_,_,_,_,_,_,_,_,_,_,_,_,_,_,_,_,_,_,_,_,_,_,_,_,_,_,_,_,_,_,_,_,_,_,_,_,_,_,_,_,_,_,_,_,_]) rfl ?_
  refine c_ift rfl ?_
  refine c_rseq (n := 45) ⟨rfl, rfl⟩ ?_
  refine s_val (r_assign rfl) ?_
  refine c_nil (l' := [_,_,_,_,_,_,_,_,_,_,_,_,_,_,_,_,_,_,_,_,_,_,_,_,_,_,_,_,_,_,_,_,_,_,_,_,_,_,_,_,_,_,_,_,_]) rfl ?_
  refine wp_ret (x_thenRet ?_)
  refine e_ret (res1 rfl rfl) ⟨_, rfl, ?_⟩
  exact ⟨rfl, H⟩

set_option maxHeartbeats 4000000 in
theorem back_spec (a : Option Addr) (n cap : Nat) (w0 : World) :
    Calls Try.prog 78 #[.slice a n cap] w0 fun e w => ∃ v, e = .returned v ∧ (∃ b, v = .func (.func 91) #[] #[.pointer (some ⟨b, 0, none⟩)] ∧ St w0 [] w [(b, .cells [.slice a n cap].toArray 122 (0, 0))]) := by
  have H := St.refl w0
  refine c_enter (args := [.slice a n cap]) (l := [.slice a n cap, undef, undef, undef]) Try.func78 Try.ntmps78 rfl rfl ?_
  refine c_rseq (n := 4) ⟨rfl, rfl⟩ ?_
  refine s_new (m_box (cs := [.slice a n cap]) H rfl rfl) ?_
  intro w b1 H
  refine s_val (r_assign rfl) ?_
  refine c_nil (l' := [_,_,_,_]) rfl ?_
  refine c_rseq (n := 4) ⟨rfl, rfl⟩ ?_
  refine s_val (r_makeFunc en (ec rfl en)) ?_
  refine s_val (r_assign rfl) ?_
  refine c_nil (l' := [_,_,_,_]) rfl ?_
  refine wp_ret ?_
  refine e_ret (res1 rfl rfl) ⟨_, rfl, ?_⟩
  exact ⟨_, rfl, H⟩

set_option maxHeartbeats 4000000 in
theorem back1_spec (r fnr D b1 cap : Nat) (lr : List Value) (ps : List Tmp) (as_ bo : Code) (ws : List (Int × Sec)) (a : Option Addr) (L0 : List (Nat × Obj)) (A : Nat → Prop) (M2 : Nat → List (Nat × Obj) → Prop) (X : List Nat) (w1 : World) (hwl : ws.length ≤ 1000000) (w0 : World) (hst : St w0 X w1 ((r, LJ .ready none fnr lr ps as_ bo D) :: (D, .deferred (some [])) :: (b1, .cells [.slice a ws.length cap].toArray 122 (0, 0)) :: L0)) (hrow : ∀ w, St w0 X w ((r, LJ .ready none fnr lr ps as_ bo D) :: (D, .deferred (some [])) :: (b1, .cells [.slice a ws.length cap].toArray 122 (0, 0)) :: L0) → RRow wC w a ws) (hY : ∀ k w, k < ws.length → St w0 X w ((r, LJ .ready none fnr lr ps as_ bo D) :: (D, .deferred (some [])) :: (b1, .cells [.slice a ws.length cap].toArray 122 (0, 0)) :: L0) → ∃ fn' tmps as' bo', (Instr.yield r [.int .i64 (k : Nat), .agg (wC (wd ws k)).toArray].toArray).run Try.prog w = .ok (.round r fn' tmps as' bo') w ∧ RoundIn Fence.wide 0 Try.prog r fn' tmps as' bo' w fun e w' => (e = .returned (.bool true) ∧ A k ∧ St w0 X w' ((r, LJ .ready none fnr lr ps as_ bo D) :: (D, .deferred (some [])) :: (b1, .cells [.slice a ws.length cap].toArray 122 (0, 0)) :: L0)) ∨ (e = .returned (.bool false) ∧ ∃ L', St w0 X w' ((r, LJ .done (some .ret) fnr lr ps as_ bo D) :: L') ∧ M2 k L')) :
    Calls Try.prog 91 #[.func (.yield r) #[] #[], .pointer (some ⟨b1, 0, none⟩)] w1 fun e w => ∃ v, e = .returned v ∧ (v = .tuple #[] ∧ (((∀ k, k < ws.length → A k) ∧ St w0 X w ((r, LJ .ready none fnr lr ps as_ bo D) :: (D, .deferred (some [])) :: (b1, .cells [.slice a ws.length cap].toArray 122 (0, 0)) :: L0)) ∨ ∃ k L', k < ws.length ∧ (∀ j, k < j → j < ws.length → A j) ∧ M2 k L' ∧ St w0 X w ((r, LJ .done (some .ret) fnr lr ps as_ bo D) :: L'))) := by
  have H := hst
  refine c_enter (args := [.func (.yield r) #[] #[], .pointer (some ⟨b1, 0, none⟩)]) (l := [.func (.yield r) #[] #[], .pointer (some ⟨b1, 0, none⟩), undef, undef, undef, undef, undef, undef, undef, undef, undef, undef, undef, undef, undef, undef, undef, undef, undef]) Try.func91 Try.ntmps91 rfl rfl ?_
  refine c_rseq (n := 19) ⟨rfl, rfl⟩ ?_
  refine s_val (r_load1 Try.isAgg122 rfl (H.at 2 rfl) rfl) ?_
  refine s_val (r_lens Try.runUnderlying122 (ec rfl en)) ?_
  refine s_val (r_sub rfl rfl (w_i64 (by omega) (by omega))) ?_
  refine s_val (r_assign rfl) ?_
  refine c_nil (l' := [_,_,_,_,_,_,_,_,_,_,_,_,_,_,_,_,_,_,_]) rfl ?_
  refine wp_block ?_
  refine c_loop (fun (l0 : List Value) (k : Nat) (l : List Value) (w : World) => ∃ (u7 u8 u9 u10 u11 u12 u13 u14 u15 u16 u17 u18 : Value) , l = ovr l0 [N_, N_, N_, Y_ (.int .i64 ((k : Int) - 1)), N_, N_, N_, Y_ u7, Y_ u8, Y_ u9, Y_ u10, Y_ u11, Y_ u12, Y_ u13, Y_ u14, Y_ u15, Y_ u16, Y_ u17, Y_ u18] ∧ k ≤ ws.length ∧ (∀ j, k ≤ j → j < ws.length → A j) ∧ St w0 X w ((r, LJ .ready none fnr lr ps as_ bo D) :: (D, .deferred (some [])) :: (b1, .cells [.slice a ws.length cap].toArray 122 (0, 0)) :: L0)) (fun (k : Nat) => k) ws.length ⟨_,_,_,_,_,_,_,_,_,_,_,_, rfl, by omega, (fun j h1 h2 => absurd h2 (by omega)), H⟩ ?_
  intro k l w ⟨u7, u8, u9, u10, u11, u12, u13, u14, u15, u16, u17, u18, hl, hk, hA, H⟩
  obtain rfl := hl.trans (rfl : _ = [_,_,_,_,_,_,_,_,_,_,_,_,_,_,_,_,_,_,_])
  clear hl
  refine c_seq ?_
  refine c_rseq (n := 19) ⟨rfl, rfl⟩ ?_
  refine s_val (r_move rfl) ?_
  refine s_val (r_geq rfl rfl) ?_
  refine c_nil (l' := [_,_,_,_,_,_,_,_,_,_,_,_,_,_,_,_,_,_,_]) rfl ?_
  refine c_if rfl (fun h8 => ?_) (fun h8 => ?_)
  · skip
    obtain ⟨m, rfl⟩ : ∃ m, k = m + 1 := ⟨k - 1, by omega⟩
    obtain ⟨bw, off, pre, post, T, fz, rfl, hbw, hpw⟩ := hrow w H (by omega)
    obtain ⟨fn2, tm2, as2, bo2, hyr, hyR⟩ := hY m w (by omega) H
    have em : ((m + 1 : Nat) : Int) - 1 = (m : Int) := by omega
    rw [← em] at hyr
    refine wp_skip ?_
    refine x_thenNormal ?_
    refine c_seq ?_
    refine wp_block ?_
    refine c_seq ?_
    refine c_yieldK 6 (n := 19) ⟨rfl, rfl⟩ rfl rfl ?_ (by rintro ⟨_,_,_, h, _⟩; cases h)
    refine s_val (r_move rfl) ?_
    refine s_val (r_move rfl) ?_
    refine s_val (r_load1 Try.isAgg122 rfl (H.at 2 rfl) rfl) ?_
    refine s_val (r_move rfl) ?_
    refine s_val (r_indexAddrS Try.runUnderlying122 Try.sizeOf150 rfl rfl (by omega) (by omega)) ?_
    refine s_val (r_loadn Try.isAgg150 Try.sizeOf150 rfl hbw (row_td elW pre post hpw (wd_get (k := m) (by omega)) (by omega)) (elW.len _)) ?_
    refine c_nil0 (l' := [_,_,_,_,_,_,_,_,_,_,_,_,_,_,_,_,_,_,_]) rfl ?_
    refine ⟨rfl, rfl, rfl, (fun _ h => nomatch h), r, _,_,_,_, r_yieldL2 rfl rfl rfl hyr, hyR.mono ?_⟩
    rintro e w (⟨rfl, hA1, H⟩ | ⟨rfl, L2, H, hM2⟩)
    · skip
      refine ⟨_, rfl, wl_put (n := 19) ⟨rfl, rfl⟩ ?_⟩
      refine s_val (r_not rfl) ?_
      refine c_nil (l' := [_,_,_,_,_,_,_,_,_,_,_,_,_,_,_,_,_,_,_]) rfl ?_
      refine c_iff rfl ?_
      refine wp_skip ?_
      refine x_blockNormal ?_
      refine x_thenNormal ?_
      refine c_region (n := 19) ⟨rfl, rfl⟩ ?_
      refine s_val (r_move rfl) ?_
      refine s_val (r_sub rfl rfl (w_i64e (r := (m : Int) - 1) (by omega) (by omega) (by omega))) ?_
      refine s_val (r_assign rfl) ?_
      refine c_nil0 (l' := [_,_,_,_,_,_,_,_,_,_,_,_,_,_,_,_,_,_,_]) rfl ?_
      exact ⟨m, _, rfl, ⟨_,_,_,_,_,_,_,_,_,_,_,_, rfl, by omega, (fun j h1 h2 => (Nat.lt_or_ge m j).elim (fun h => hA j h h2) (fun h => (Nat.le_antisymm h h1) ▸ hA1)), H⟩, by omega⟩
    · skip
      refine ⟨_, rfl, wl_put (n := 19) ⟨rfl, rfl⟩ ?_⟩
      refine s_val (r_not rfl) ?_
      refine c_nil (l' := [_,_,_,_,_,_,_,_,_,_,_,_,_,_,_,_,_,_,_]) rfl ?_
      refine c_ift rfl ?_
      refine wp_ret (x_blockRet (x_thenRet (x_thenRet (x_blockRet ?_))))
      refine e_ret (res0 rfl) ⟨_, rfl, ?_⟩
      exact ⟨rfl, .inr ⟨m, _, by omega, fun j h1 h2 => hA j (by omega) h2, hM2, H⟩⟩
  · skip
    obtain rfl : k = 0 := by omega
    refine wp_exit (x_thenExit (x_thenExit (x_blockHit ?_)))
    refine e_end (res0 rfl) ⟨_, rfl, ?_⟩
    exact ⟨rfl, .inl ⟨fun j hj => hA j (by omega) hj, H⟩⟩

set_option maxHeartbeats 4000000 in
theorem dread_spec (bd : Nat) (C : List Sec) (n : Int) (w0 : World) (hd : DevR w0 bd C) :
    Calls Try.prog 64 #[.pointer (some ⟨bd, 0, none⟩), .int .i64 n] w0 fun e w => ∃ v, e = .returned v ∧ ((0 ≤ n ∧ n < (C.length : Int) ∧ v = .tuple #[.agg (kC (sd C n.toNat)).toArray, .int .i64 0] ∧ St w0 [] w []) ∨ (¬ (0 ≤ n ∧ n < (C.length : Int)) ∧ v = .tuple #[.agg (kC zS).toArray, .int .i64 2] ∧ St w0 [] w [])) := by
  have hd2 := hd
  obtain ⟨bp, bs, aw, capw, ss, ws, T, fz, T2, fz2, hbd, hbs, hws, ⟨lf, ac, nc, cc, T3, fz3, hbp⟩, hC, hin, hwl⟩ := hd2
  have hlen : ss.length = C.length := by rw [← hC, apW_length]
  have H := St.refl w0
  refine cM_enter (args := [.pointer (some ⟨bd, 0, none⟩), .int .i64 n]) (l := [.pointer (some ⟨bd, 0, none⟩), .int .i64 n, undef, undef, undef, undef, undef, undef, undef, undef, undef, undef, undef, undef, undef, undef, undef, undef, undef, undef, undef, undef, undef, undef, undef, undef, undef, undef, undef, undef, undef, undef, undef, undef, undef, undef, undef, undef, undef, undef, undef, undef]) Try.func64 Try.ntmps64 rfl rfl ?_
  refine c_rseq (n := 42) ⟨rfl, rfl⟩ ?_
  refine s_new (m_box (cs := [.int .i64 n]) H rfl rfl) ?_
  intro w b3 H
  refine s_new (m_alloc (cs := (kC zS)) H Try.zeroValue97 rfl) ?_
  intro w b4 H
  refine s_new (m_alloc (cs := [.int .i64 0]) H Try.zeroValue45 rfl) ?_
  intro w b5 H
  refine c_nil (l' := [_,_,_,_,_,_,_,_,_,_,_,_,_,_,_,_,_,_,_,_,_,_,_,_,_,_,_,_,_,_,_,_,_,_,_,_,_,_,_,_,_,_]) rfl ?_
  refine c_seq ?_
  refine wp_block ?_
  refine c_rseq (n := 42) ⟨rfl, rfl⟩ ?_
  refine s_val (r_move rfl) ?_
  refine s_val (r_nilpF Try.runUnderlying26 rfl rfl) ?_
  refine s_val (r_assign rfl) ?_
  refine c_nil (l' := [_,_,_,_,_,_,_,_,_,_,_,_,_,_,_,_,_,_,_,_,_,_,_,_,_,_,_,_,_,_,_,_,_,_,_,_,_,_,_,_,_,_]) rfl ?_
  refine c_iff rfl ?_
  refine c_rseq (n := 42) ⟨rfl, rfl⟩ ?_
  refine s_val (r_move rfl) ?_
  refine s_call (r_call Try.call76 (ec rfl en)) (down_spec _ C _ (hd.st H)) ?_
  rintro v w ⟨rfl, HC⟩
  replace H := H.quiet HC
  refine s_val (r_assign rfl) ?_
  refine c_nil (l' := [_,_,_,_,_,_,_,_,_,_,_,_,_,_,_,_,_,_,_,_,_,_,_,_,_,_,_,_,_,_,_,_,_,_,_,_,_,_,_,_,_,_]) rfl ?_
  refine c_iff rfl ?_
  refine c_rseq (n := 42) ⟨rfl, rfl⟩ ?_
  refine s_val (r_move rfl) ?_
  refine s_val (r_load1 Try.isAgg3 rfl (H.at 2 rfl) rfl) ?_
  refine s_call (r_call Try.call77 (ec rfl (ec rfl en))) (dthere_spec _ C n _ (hd.st H)) ?_
  rintro v w ⟨rfl, HC⟩
  replace H := H.quiet HC
  refine s_val (r_notp rfl) ?_
  refine s_val (r_assign rfl) ?_
  refine c_nil (l' := [_,_,_,_,_,_,_,_,_,_,_,_,_,_,_,_,_,_,_,_,_,_,_,_,_,_,_,_,_,_,_,_,_,_,_,_,_,_,_,_,_,_]) rfl ?_
  refine c_if rfl (fun h16 => ?_) (fun h16 => ?_)
  · skip
    refine c_rseq (n := 42) ⟨rfl, rfl⟩ ?_
    refine s_val (r_buildA (pl := []) (zs := kC (By.zero 128)) (out := kC (By.zero 128)) Try.runUnderlying97 Try.sizeOf5 Try.zeroValue97 pn (by intro p hp; simp at hp) rfl) ?_
    refine s_st (m_storen H 1 128 Try.sizeOf97 rfl rfl (by first | exact (kC_length _) | exact (hC_length _) | exact (shC_length _ _) | exact (wC_length _)) (by first | exact (kC_one _) | exact (hC_one _) | exact (shC_one _ _) | exact (elW.one _)) rfl (by first | exact (by rw [kC_length]; omega) | exact (by rw [hC_length]; omega) | exact (by rw [wC_length]; omega)) (by first | exact (kC_sp _ _) | exact (hC_sp _ _) | exact (wC_sp _ _))) (L' := [_,_,_]) rfl ?_
    intro w H
    refine s_st (m_store1 H 0 Try.sizeOf45 rfl rfl rfl rfl (by show 0 < 1; omega) rfl) (L' := [_,_,_]) rfl ?_
    intro w H
    refine c_nil (l' := [_,_,_,_,_,_,_,_,_,_,_,_,_,_,_,_,_,_,_,_,_,_,_,_,_,_,_,_,_,_,_,_,_,_,_,_,_,_,_,_,_,_]) rfl ?_
    refine wp_ret (x_blockRet (x_thenRet ?_))
    refine eM_ret (rc_two rfl (rc_celln Try.isAgg97 Try.sizeOf97 rfl (H.at 1 rfl) (by first | exact (kC_td _) | exact (hC_td _) | exact (hC_seed _) | exact (shC_td _ _) | exact (elS_td (sd_get (by omega)) (by omega)) | exact (wC_td _) | exact (wC_sec _)) (by first | exact (kC_length _) | exact (hC_length _) | exact (shC_length _ _) | exact (wC_length _))) (rc_cell1 Try.isAgg45 rfl (H.at 0 rfl) rfl)) ⟨_, rfl, ?_⟩
    exact .inr ⟨h16, rfl, H.sub (List.nil_sublist _)⟩
  · skip
    have hn := Decidable.not_not.1 h16
    obtain ⟨hn0, hn1⟩ := hn
    refine wp_skip ?_
    refine x_blockNormal ?_
    refine x_thenNormal ?_
    refine c_seq ?_
    refine c_rseq (n := 42) ⟨rfl, rfl⟩ ?_
    refine s_val (r_move rfl) ?_
    refine s_val (r_nilCheck rfl) ?_
    refine s_val (r_fieldAddr (k := 2) Try.runUnderlying124 rfl Try.sizeOf122 (by decide) rfl rfl) ?_
    refine s_val (r_load1 Try.isAgg122 rfl (H.rd0 hbd) rfl) ?_
    refine s_call (r_call Try.call78 (ec rfl en)) (back_spec _ _ _ _) ?_
    rintro v w ⟨bk, rfl, HC⟩
    replace H := H.call0 HC
    refine c_nil (l' := [_,_,_,_,_,_,_,_,_,_,_,_,_,_,_,_,_,_,_,_,_,_,_,_,_,_,_,_,_,_,_,_,_,_,_,_,_,_,_,_,_,_]) rfl ?_
    refine wp_block ?_
    refine c_rangeR H rfl Try.call91 ?_
    intro fnr w bl H
    skip
    refine Calls.mono (back1_spec (bl + 1) fnr bl bk capw _ _ _ _ ws aw [(b5, .cells [.int .i64 0].toArray 45 (0, 0)), (b4, .cells (kC zS).toArray 97 (0, 0)), (b3, .cells [.int .i64 n].toArray 3 (0, 0))] (fun k => (wd ws k).1 ≠ n) (fun k L2 => L2 = ((bl, .deferred (some [])) :: (bk, .cells [.slice aw ws.length capw].toArray 122 (0, 0)) :: (b5, .cells [.int .i64 0].toArray 45 (0, 0)) :: (b4, .cells (kC (wd ws k).2).toArray 97 (0, 0)) :: [(b3, .cells [.int .i64 n].toArray 3 (0, 0))]) ∧ (wd ws k).1 = n) [] _ hwl w0 H (fun w H => hws.st H) ?_) ?_
    · skip
      intro k w hk H
      refine round_outR (Lr := ((bl, .deferred (some [])) :: (bk, .cells [.slice aw ws.length capw].toArray 122 (0, 0)) :: [(b5, .cells [.int .i64 0].toArray 45 (0, 0)), (b4, .cells (kC zS).toArray 97 (0, 0)), (b3, .cells [.int .i64 n].toArray 3 (0, 0))])) (A := (wd ws k).1 ≠ n) (F := fun L2 => L2 = ((bl, .deferred (some [])) :: (bk, .cells [.slice aw ws.length capw].toArray 122 (0, 0)) :: (b5, .cells [.int .i64 0].toArray 45 (0, 0)) :: (b4, .cells (kC (wd ws k).2).toArray 97 (0, 0)) :: [(b3, .cells [.int .i64 n].toArray 3 (0, 0))]) ∧ (wd ws k).1 = n) (c_roundA (args := [.int .i64 (k : Nat), .agg (wC (wd ws k)).toArray]) 7 (.cells (wC (wd ws k)).toArray 150 (0, 0)) H rfl (l1 := [_,_,_,_,_,_,_,_,_,_,_,_,_,_,_,_,_,_,_,_,_,_,_,_,_,_,_,_,_,_,_,_,_,_,_,_,_,_,_,_,_,_]) rfl ?_ ?_)
      · skip
        refine in_region (lets_round _) (n := 42) ⟨rfl, rfl⟩ rfl ?_
        refine s_new (m_alloc (cs := (wC (0, zS))) H Try.zeroValue150 rfl) ?_
        intro w b7 H
        refine s_st (m_storen H 0 129 Try.sizeOf150 rfl rfl (by first | exact (kC_length _) | exact (hC_length _) | exact (shC_length _ _) | exact (wC_length _)) (by first | exact (kC_one _) | exact (hC_one _) | exact (shC_one _ _) | exact (elW.one _)) rfl (by first | exact (by rw [kC_length]; omega) | exact (by rw [hC_length]; omega) | exact (by rw [wC_length]; omega)) (by first | exact (kC_sp _ _) | exact (hC_sp _ _) | exact (wC_sp _ _))) (L' := [_,_,_,_,_,_,_]) rfl ?_
        intro w H
        refine in_nil (l' := [_,_,_,_,_,_,_,_,_,_,_,_,_,_,_,_,_,_,_,_,_,_,_,_,_,_,_,_,_,_,_,_,_,_,_,_,_,_,_,_,_,_]) rfl ?_
        exact ⟨_, rfl, H⟩
      · skip
        intro b7 l2 w hl2 H
        obtain rfl := hl2.symm.trans (rfl : _ = [_,_,_,_,_,_,_,_,_,_,_,_,_,_,_,_,_,_,_,_,_,_,_,_,_,_,_,_,_,_,_,_,_,_,_,_,_,_,_,_,_,_])
        refine wpIn_block ?_
        refine wpIn_seq ?_
        refine in_region (lets_round _) (n := 42) ⟨rfl, rfl⟩ rfl ?_
        refine s_val (r_fieldAddr (k := 0) Try.runUnderlying150 rfl Try.sizeOf3 (by decide) rfl rfl) ?_
        refine s_val (r_load1 Try.isAgg3 rfl (H.at 0 rfl) rfl) ?_
        refine s_val (r_load1 Try.isAgg3 rfl (H.at 6 rfl) rfl) ?_
        refine s_val (r_eql rfl rfl) ?_
        refine in_nil (l' := [_,_,_,_,_,_,_,_,_,_,_,_,_,_,_,_,_,_,_,_,_,_,_,_,_,_,_,_,_,_,_,_,_,_,_,_,_,_,_,_,_,_]) rfl ?_
        refine x_thenNormal ?_
        refine in_if rfl (fun h32 => ?_) (fun h32 => ?_)
        · skip
          refine wpIn_seq ?_
          refine in_region (lets_round _) (n := 42) ⟨rfl, rfl⟩ rfl ?_
          refine s_val (r_fieldAddr (k := 1) Try.runUnderlying150 rfl Try.sizeOf97 (by decide) rfl rfl) ?_
          refine s_val (r_loadn Try.isAgg97 Try.sizeOf97 rfl (H.at 0 rfl) (by first | exact (kC_td _) | exact (hC_td _) | exact (hC_seed _) | exact (shC_td _ _) | exact (elS_td (sd_get (by omega)) (by omega)) | exact (wC_td _) | exact (wC_sec _)) (by first | exact (kC_length _) | exact (hC_length _) | exact (shC_length _ _) | exact (wC_length _) | exact rfl)) ?_
          refine s_st (m_storen H 5 128 Try.sizeOf97 rfl rfl (by first | exact (kC_length _) | exact (hC_length _) | exact (shC_length _ _) | exact (wC_length _)) (by first | exact (kC_one _) | exact (hC_one _) | exact (shC_one _ _) | exact (elW.one _)) rfl (by first | exact (by rw [kC_length]; omega) | exact (by rw [hC_length]; omega) | exact (by rw [wC_length]; omega)) (by first | exact (kC_sp _ _) | exact (hC_sp _ _) | exact (wC_sp _ _))) (L' := [_,_,_,_,_,_,_]) rfl ?_
          intro w H
          refine s_st (m_store1 H 4 Try.sizeOf45 rfl rfl rfl rfl (by show 0 < 1; omega) rfl) (L' := [_,_,_,_,_,_,_]) rfl ?_
          intro w H
          refine in_nil (l' := [_,_,_,_,_,_,_,_,_,_,_,_,_,_,_,_,_,_,_,_,_,_,_,_,_,_,_,_,_,_,_,_,_,_,_,_,_,_,_,_,_,_]) rfl ?_
          refine x_thenNormal ?_
          refine wpIn_ret (x_blockRet ?_)
          exact .inr ⟨rfl, _, H.sub (.cons _ (List.Sublist.refl _)), fun _ _ => ⟨rfl, h32⟩⟩
        · skip
          refine wpIn_skip ?_
          refine x_blockNormal ?_
          exact .inl ⟨rfl, _, H.sub (.cons _ (List.Sublist.refl _)), fun _ _ => ⟨rfl, h32⟩⟩
    · skip
      rintro e w ⟨v, rfl, _, ⟨hall, H⟩ | ⟨k, L2, hk, hall, ⟨rfl, hkn⟩, H⟩⟩
      · skip
        refine ⟨_, rfl, .inl ⟨_, H, ?_⟩⟩
        intro w H
        refine x_blockNormal ?_
        refine x_thenNormal ?_
        refine cD_seq ?_
        refine cD_draw (sz := 42) ⟨rfl, rfl⟩ (by kernel_rfl) rfl H (H.sub (.cons_cons _ (.cons_cons _ (.cons_cons _ (.cons _ (.cons _ (.cons_cons _ .slnil))))))) rfl ?_
        intro w H
        refine d_all2 (i := 0) (j := 4) (by kernel_rfl) ?_ ?_
        · skip
          refine b_val rfl go_none (r_move rfl) rfl (H.sub (.cons_cons _ (.cons_cons _ (.cons_cons _ (.cons _ (.cons _ (.cons_cons _ .slnil))))))) ?_
          refine d_all2 (i := 1) (j := 4) (by kernel_rfl) ?_ ?_
          · skip
            refine b_val rfl go_none (r_nilCheck rfl) rfl (H.sub (.cons_cons _ (.cons_cons _ (.cons_cons _ (.cons _ (.cons _ (.cons_cons _ .slnil))))))) ?_
            refine d_all2 (i := 2) (j := 4) (by kernel_rfl) ?_ ?_
            · skip
              refine b_val rfl go_none (r_fieldAddr (k := 1) Try.runUnderlying124 rfl Try.sizeOf121 (by decide) rfl rfl) rfl (H.sub (.cons_cons _ (.cons_cons _ (.cons_cons _ (.cons _ (.cons _ (.cons_cons _ .slnil))))))) ?_
              refine d_all2 (i := 3) (j := 4) (by kernel_rfl) ?_ ?_
              · skip
                refine b_val rfl go_none (r_load1 Try.isAgg121 rfl (H.rd0 hbd) rfl) rfl (H.sub (.cons_cons _ (.cons_cons _ (.cons_cons _ (.cons _ (.cons _ (.cons_cons _ .slnil))))))) ?_
                refine d_all1 (i := 4) (by kernel_rfl) ?_
                refine b_val rfl go_none (r_load1 Try.isAgg3 rfl (H.at 5 rfl) rfl) rfl (H.sub (.cons_cons _ (.cons_cons _ (.cons_cons _ (.cons _ (.cons _ (.cons_cons _ .slnil))))))) ?_
                refine d_all1 (i := 5) (by kernel_rfl) ?_
                refine b_val rfl go_none (r_indexAddrS Try.runUnderlying121 Try.sizeOf97 rfl rfl (by omega) (by omega)) rfl (H.sub (.cons_cons _ (.cons_cons _ (.cons_cons _ (.cons _ (.cons _ (.cons_cons _ .slnil))))))) ?_
                refine d_all1 (i := 6) (by kernel_rfl) ?_
                refine b_val rfl go_none (r_loadn Try.isAgg97 Try.sizeOf97 rfl (H.rd0 hbs) (elS_td (sd_get (k := n.toNat) (by omega)) (by omega)) (by first | exact (kC_length _) | exact (hC_length _) | exact (shC_length _ _) | exact (wC_length _) | exact rfl)) rfl (H.sub (.cons_cons _ (.cons_cons _ (.cons_cons _ (.cons _ (.cons _ (.cons_cons _ .slnil))))))) ?_
                refine d_all1 (i := 7) (by kernel_rfl) ?_
                refine b_st rfl go_none (m_storen H 4 128 Try.sizeOf97 rfl rfl (by first | exact (kC_length _) | exact (hC_length _) | exact (shC_length _ _) | exact (wC_length _)) (by first | exact (kC_one _) | exact (hC_one _) | exact (shC_one _ _) | exact (elW.one _)) rfl (by first | exact (by rw [kC_length]; omega) | exact (by rw [hC_length]; omega) | exact (by rw [wC_length]; omega)) (by first | exact (kC_sp _ _) | exact (hC_sp _ _) | exact (wC_sp _ _))) (L' := [_,_,_,_,_,_]) rfl rfl (fun _ H => (H.sub (.cons_cons _ (.cons_cons _ (.cons_cons _ (.cons _ (.cons _ (.cons_cons _ .slnil)))))))) ?_
                intro w H
                refine d_all1 (i := 8) (by kernel_rfl) ?_
                refine b_st rfl go_none (m_store1 H 3 Try.sizeOf45 rfl rfl rfl rfl (by show 0 < 1; omega) rfl) (L' := [_,_,_,_,_,_]) rfl rfl (fun _ H => (H.sub (.cons_cons _ (.cons_cons _ (.cons_cons _ (.cons _ (.cons _ (.cons_cons _ .slnil)))))))) ?_
                intro w H
                refine in_done (l' := [_,_,_,_,_,_,_,_,_,_,_,_,_,_,_,_,_,_,_,_,_,_,_,_,_,_,_,_,_,_,_,_,_,_,_,_,_,_,_,_,_,_]) (by kernel_rfl) rfl ?_
                refine x_thenNormal ?_
                refine wp_ret ?_
                refine eM_retD (k := 1) H rfl (fun w H => ⟨(rc_two rfl (rc_celln Try.isAgg97 Try.sizeOf97 rfl (H.at 4 rfl) (by first | exact (kC_td _) | exact (hC_td _) | exact (hC_seed _) | exact (shC_td _ _) | exact (elS_td (sd_get (by omega)) (by omega)) | exact (wC_td _) | exact (wC_sec _)) (by first | exact (kC_length _) | exact (hC_length _) | exact (shC_length _ _) | exact (wC_length _))) (rc_cell1 Try.isAgg45 rfl (H.at 3 rfl) rfl)), ⟨_, rfl, ?_⟩⟩)
                exact .inl ⟨hn0, hn1, by rw [← hC, ap_none (n := n.toNat) (fun j hj => by rw [Int.toNat_of_nonneg hn0]; exact hall j hj) hin], H.sub (List.nil_sublist _)⟩
              · skip
                refine b_val rfl go_none (r_load1 Try.isAgg3 rfl (H.at 5 rfl) rfl) rfl (H.sub (.cons_cons _ (.cons_cons _ (.cons_cons _ (.cons _ (.cons _ (.cons_cons _ .slnil))))))) ?_
                refine d_all1 (i := 3) (by kernel_rfl) ?_
                refine b_val rfl go_none (r_load1 Try.isAgg121 rfl (H.rd0 hbd) rfl) rfl (H.sub (.cons_cons _ (.cons_cons _ (.cons_cons _ (.cons _ (.cons _ (.cons_cons _ .slnil))))))) ?_
                refine d_all1 (i := 5) (by kernel_rfl) ?_
                refine b_val rfl go_none (r_indexAddrS Try.runUnderlying121 Try.sizeOf97 rfl rfl (by omega) (by omega)) rfl (H.sub (.cons_cons _ (.cons_cons _ (.cons_cons _ (.cons _ (.cons _ (.cons_cons _ .slnil))))))) ?_
                refine d_all1 (i := 6) (by kernel_rfl) ?_
                refine b_val rfl go_none (r_loadn Try.isAgg97 Try.sizeOf97 rfl (H.rd0 hbs) (elS_td (sd_get (k := n.toNat) (by omega)) (by omega)) (by first | exact (kC_length _) | exact (hC_length _) | exact (shC_length _ _) | exact (wC_length _) | exact rfl)) rfl (H.sub (.cons_cons _ (.cons_cons _ (.cons_cons _ (.cons _ (.cons _ (.cons_cons _ .slnil))))))) ?_
                refine d_all1 (i := 7) (by kernel_rfl) ?_
                refine b_st rfl go_none (m_storen H 4 128 Try.sizeOf97 rfl rfl (by first | exact (kC_length _) | exact (hC_length _) | exact (shC_length _ _) | exact (wC_length _)) (by first | exact (kC_one _) | exact (hC_one _) | exact (shC_one _ _) | exact (elW.one _)) rfl (by first | exact (by rw [kC_length]; omega) | exact (by rw [hC_length]; omega) | exact (by rw [wC_length]; omega)) (by first | exact (kC_sp _ _) | exact (hC_sp _ _) | exact (wC_sp _ _))) (L' := [_,_,_,_,_,_]) rfl rfl (fun _ H => (H.sub (.cons_cons _ (.cons_cons _ (.cons_cons _ (.cons _ (.cons _ (.cons_cons _ .slnil)))))))) ?_
                intro w H
                refine d_all1 (i := 8) (by kernel_rfl) ?_
                refine b_st rfl go_none (m_store1 H 3 Try.sizeOf45 rfl rfl rfl rfl (by show 0 < 1; omega) rfl) (L' := [_,_,_,_,_,_]) rfl rfl (fun _ H => (H.sub (.cons_cons _ (.cons_cons _ (.cons_cons _ (.cons _ (.cons _ (.cons_cons _ .slnil)))))))) ?_
                intro w H
                refine in_done (l' := [_,_,_,_,_,_,_,_,_,_,_,_,_,_,_,_,_,_,_,_,_,_,_,_,_,_,_,_,_,_,_,_,_,_,_,_,_,_,_,_,_,_]) (by kernel_rfl) rfl ?_
                refine x_thenNormal ?_
                refine wp_ret ?_
                refine eM_retD (k := 1) H rfl (fun w H => ⟨(rc_two rfl (rc_celln Try.isAgg97 Try.sizeOf97 rfl (H.at 4 rfl) (by first | exact (kC_td _) | exact (hC_td _) | exact (hC_seed _) | exact (shC_td _ _) | exact (elS_td (sd_get (by omega)) (by omega)) | exact (wC_td _) | exact (wC_sec _)) (by first | exact (kC_length _) | exact (hC_length _) | exact (shC_length _ _) | exact (wC_length _))) (rc_cell1 Try.isAgg45 rfl (H.at 3 rfl) rfl)), ⟨_, rfl, ?_⟩⟩)
                exact .inl ⟨hn0, hn1, by rw [← hC, ap_none (n := n.toNat) (fun j hj => by rw [Int.toNat_of_nonneg hn0]; exact hall j hj) hin], H.sub (List.nil_sublist _)⟩
            · skip
              refine b_val rfl go_none (r_load1 Try.isAgg3 rfl (H.at 5 rfl) rfl) rfl (H.sub (.cons_cons _ (.cons_cons _ (.cons_cons _ (.cons _ (.cons _ (.cons_cons _ .slnil))))))) ?_
              refine d_all1 (i := 2) (by kernel_rfl) ?_
              refine b_val rfl go_none (r_fieldAddr (k := 1) Try.runUnderlying124 rfl Try.sizeOf121 (by decide) rfl rfl) rfl (H.sub (.cons_cons _ (.cons_cons _ (.cons_cons _ (.cons _ (.cons _ (.cons_cons _ .slnil))))))) ?_
              refine d_all1 (i := 3) (by kernel_rfl) ?_
              refine b_val rfl go_none (r_load1 Try.isAgg121 rfl (H.rd0 hbd) rfl) rfl (H.sub (.cons_cons _ (.cons_cons _ (.cons_cons _ (.cons _ (.cons _ (.cons_cons _ .slnil))))))) ?_
              refine d_all1 (i := 5) (by kernel_rfl) ?_
              refine b_val rfl go_none (r_indexAddrS Try.runUnderlying121 Try.sizeOf97 rfl rfl (by omega) (by omega)) rfl (H.sub (.cons_cons _ (.cons_cons _ (.cons_cons _ (.cons _ (.cons _ (.cons_cons _ .slnil))))))) ?_
              refine d_all1 (i := 6) (by kernel_rfl) ?_
              refine b_val rfl go_none (r_loadn Try.isAgg97 Try.sizeOf97 rfl (H.rd0 hbs) (elS_td (sd_get (k := n.toNat) (by omega)) (by omega)) (by first | exact (kC_length _) | exact (hC_length _) | exact (shC_length _ _) | exact (wC_length _) | exact rfl)) rfl (H.sub (.cons_cons _ (.cons_cons _ (.cons_cons _ (.cons _ (.cons _ (.cons_cons _ .slnil))))))) ?_
              refine d_all1 (i := 7) (by kernel_rfl) ?_
              refine b_st rfl go_none (m_storen H 4 128 Try.sizeOf97 rfl rfl (by first | exact (kC_length _) | exact (hC_length _) | exact (shC_length _ _) | exact (wC_length _)) (by first | exact (kC_one _) | exact (hC_one _) | exact (shC_one _ _) | exact (elW.one _)) rfl (by first | exact (by rw [kC_length]; omega) | exact (by rw [hC_length]; omega) | exact (by rw [wC_length]; omega)) (by first | exact (kC_sp _ _) | exact (hC_sp _ _) | exact (wC_sp _ _))) (L' := [_,_,_,_,_,_]) rfl rfl (fun _ H => (H.sub (.cons_cons _ (.cons_cons _ (.cons_cons _ (.cons _ (.cons _ (.cons_cons _ .slnil)))))))) ?_
              intro w H
              refine d_all1 (i := 8) (by kernel_rfl) ?_
              refine b_st rfl go_none (m_store1 H 3 Try.sizeOf45 rfl rfl rfl rfl (by show 0 < 1; omega) rfl) (L' := [_,_,_,_,_,_]) rfl rfl (fun _ H => (H.sub (.cons_cons _ (.cons_cons _ (.cons_cons _ (.cons _ (.cons _ (.cons_cons _ .slnil)))))))) ?_
              intro w H
              refine in_done (l' := [_,_,_,_,_,_,_,_,_,_,_,_,_,_,_,_,_,_,_,_,_,_,_,_,_,_,_,_,_,_,_,_,_,_,_,_,_,_,_,_,_,_]) (by kernel_rfl) rfl ?_
              refine x_thenNormal ?_
              refine wp_ret ?_
              refine eM_retD (k := 1) H rfl (fun w H => ⟨(rc_two rfl (rc_celln Try.isAgg97 Try.sizeOf97 rfl (H.at 4 rfl) (by first | exact (kC_td _) | exact (hC_td _) | exact (hC_seed _) | exact (shC_td _ _) | exact (elS_td (sd_get (by omega)) (by omega)) | exact (wC_td _) | exact (wC_sec _)) (by first | exact (kC_length _) | exact (hC_length _) | exact (shC_length _ _) | exact (wC_length _))) (rc_cell1 Try.isAgg45 rfl (H.at 3 rfl) rfl)), ⟨_, rfl, ?_⟩⟩)
              exact .inl ⟨hn0, hn1, by rw [← hC, ap_none (n := n.toNat) (fun j hj => by rw [Int.toNat_of_nonneg hn0]; exact hall j hj) hin], H.sub (List.nil_sublist _)⟩
          · skip
            refine b_val rfl go_none (r_load1 Try.isAgg3 rfl (H.at 5 rfl) rfl) rfl (H.sub (.cons_cons _ (.cons_cons _ (.cons_cons _ (.cons _ (.cons _ (.cons_cons _ .slnil))))))) ?_
            refine d_all1 (i := 1) (by kernel_rfl) ?_
            refine b_val rfl go_none (r_nilCheck rfl) rfl (H.sub (.cons_cons _ (.cons_cons _ (.cons_cons _ (.cons _ (.cons _ (.cons_cons _ .slnil))))))) ?_
            refine d_all1 (i := 2) (by kernel_rfl) ?_
            refine b_val rfl go_none (r_fieldAddr (k := 1) Try.runUnderlying124 rfl Try.sizeOf121 (by decide) rfl rfl) rfl (H.sub (.cons_cons _ (.cons_cons _ (.cons_cons _ (.cons _ (.cons _ (.cons_cons _ .slnil))))))) ?_
            refine d_all1 (i := 3) (by kernel_rfl) ?_
            refine b_val rfl go_none (r_load1 Try.isAgg121 rfl (H.rd0 hbd) rfl) rfl (H.sub (.cons_cons _ (.cons_cons _ (.cons_cons _ (.cons _ (.cons _ (.cons_cons _ .slnil))))))) ?_
            refine d_all1 (i := 5) (by kernel_rfl) ?_
            refine b_val rfl go_none (r_indexAddrS Try.runUnderlying121 Try.sizeOf97 rfl rfl (by omega) (by omega)) rfl (H.sub (.cons_cons _ (.cons_cons _ (.cons_cons _ (.cons _ (.cons _ (.cons_cons _ .slnil))))))) ?_
            refine d_all1 (i := 6) (by kernel_rfl) ?_
            refine b_val rfl go_none (r_loadn Try.isAgg97 Try.sizeOf97 rfl (H.rd0 hbs) (elS_td (sd_get (k := n.toNat) (by omega)) (by omega)) (by first | exact (kC_length _) | exact (hC_length _) | exact (shC_length _ _) | exact (wC_length _) | exact rfl)) rfl (H.sub (.cons_cons _ (.cons_cons _ (.cons_cons _ (.cons _ (.cons _ (.cons_cons _ .slnil))))))) ?_
            refine d_all1 (i := 7) (by kernel_rfl) ?_
            refine b_st rfl go_none (m_storen H 4 128 Try.sizeOf97 rfl rfl (by first | exact (kC_length _) | exact (hC_length _) | exact (shC_length _ _) | exact (wC_length _)) (by first | exact (kC_one _) | exact (hC_one _) | exact (shC_one _ _) | exact (elW.one _)) rfl (by first | exact (by rw [kC_length]; omega) | exact (by rw [hC_length]; omega) | exact (by rw [wC_length]; omega)) (by first | exact (kC_sp _ _) | exact (hC_sp _ _) | exact (wC_sp _ _))) (L' := [_,_,_,_,_,_]) rfl rfl (fun _ H => (H.sub (.cons_cons _ (.cons_cons _ (.cons_cons _ (.cons _ (.cons _ (.cons_cons _ .slnil)))))))) ?_
            intro w H
            refine d_all1 (i := 8) (by kernel_rfl) ?_
            refine b_st rfl go_none (m_store1 H 3 Try.sizeOf45 rfl rfl rfl rfl (by show 0 < 1; omega) rfl) (L' := [_,_,_,_,_,_]) rfl rfl (fun _ H => (H.sub (.cons_cons _ (.cons_cons _ (.cons_cons _ (.cons _ (.cons _ (.cons_cons _ .slnil)))))))) ?_
            intro w H
            refine in_done (l' := [_,_,_,_,_,_,_,_,_,_,_,_,_,_,_,_,_,_,_,_,_,_,_,_,_,_,_,_,_,_,_,_,_,_,_,_,_,_,_,_,_,_]) (by kernel_rfl) rfl ?_
            refine x_thenNormal ?_
            refine wp_ret ?_
            refine eM_retD (k := 1) H rfl (fun w H => ⟨(rc_two rfl (rc_celln Try.isAgg97 Try.sizeOf97 rfl (H.at 4 rfl) (by first | exact (kC_td _) | exact (hC_td _) | exact (hC_seed _) | exact (shC_td _ _) | exact (elS_td (sd_get (by omega)) (by omega)) | exact (wC_td _) | exact (wC_sec _)) (by first | exact (kC_length _) | exact (hC_length _) | exact (shC_length _ _) | exact (wC_length _))) (rc_cell1 Try.isAgg45 rfl (H.at 3 rfl) rfl)), ⟨_, rfl, ?_⟩⟩)
            exact .inl ⟨hn0, hn1, by rw [← hC, ap_none (n := n.toNat) (fun j hj => by rw [Int.toNat_of_nonneg hn0]; exact hall j hj) hin], H.sub (List.nil_sublist _)⟩
        · skip
          refine b_val rfl go_none (r_load1 Try.isAgg3 rfl (H.at 5 rfl) rfl) rfl (H.sub (.cons_cons _ (.cons_cons _ (.cons_cons _ (.cons _ (.cons _ (.cons_cons _ .slnil))))))) ?_
          refine d_all1 (i := 0) (by kernel_rfl) ?_
          refine b_val rfl go_none (r_move rfl) rfl (H.sub (.cons_cons _ (.cons_cons _ (.cons_cons _ (.cons _ (.cons _ (.cons_cons _ .slnil))))))) ?_
          refine d_all1 (i := 1) (by kernel_rfl) ?_
          refine b_val rfl go_none (r_nilCheck rfl) rfl (H.sub (.cons_cons _ (.cons_cons _ (.cons_cons _ (.cons _ (.cons _ (.cons_cons _ .slnil))))))) ?_
          refine d_all1 (i := 2) (by kernel_rfl) ?_
          refine b_val rfl go_none (r_fieldAddr (k := 1) Try.runUnderlying124 rfl Try.sizeOf121 (by decide) rfl rfl) rfl (H.sub (.cons_cons _ (.cons_cons _ (.cons_cons _ (.cons _ (.cons _ (.cons_cons _ .slnil))))))) ?_
          refine d_all1 (i := 3) (by kernel_rfl) ?_
          refine b_val rfl go_none (r_load1 Try.isAgg121 rfl (H.rd0 hbd) rfl) rfl (H.sub (.cons_cons _ (.cons_cons _ (.cons_cons _ (.cons _ (.cons _ (.cons_cons _ .slnil))))))) ?_
          refine d_all1 (i := 5) (by kernel_rfl) ?_
          refine b_val rfl go_none (r_indexAddrS Try.runUnderlying121 Try.sizeOf97 rfl rfl (by omega) (by omega)) rfl (H.sub (.cons_cons _ (.cons_cons _ (.cons_cons _ (.cons _ (.cons _ (.cons_cons _ .slnil))))))) ?_
          refine d_all1 (i := 6) (by kernel_rfl) ?_
          refine b_val rfl go_none (r_loadn Try.isAgg97 Try.sizeOf97 rfl (H.rd0 hbs) (elS_td (sd_get (k := n.toNat) (by omega)) (by omega)) (by first | exact (kC_length _) | exact (hC_length _) | exact (shC_length _ _) | exact (wC_length _) | exact rfl)) rfl (H.sub (.cons_cons _ (.cons_cons _ (.cons_cons _ (.cons _ (.cons _ (.cons_cons _ .slnil))))))) ?_
          refine d_all1 (i := 7) (by kernel_rfl) ?_
          refine b_st rfl go_none (m_storen H 4 128 Try.sizeOf97 rfl rfl (by first | exact (kC_length _) | exact (hC_length _) | exact (shC_length _ _) | exact (wC_length _)) (by first | exact (kC_one _) | exact (hC_one _) | exact (shC_one _ _) | exact (elW.one _)) rfl (by first | exact (by rw [kC_length]; omega) | exact (by rw [hC_length]; omega) | exact (by rw [wC_length]; omega)) (by first | exact (kC_sp _ _) | exact (hC_sp _ _) | exact (wC_sp _ _))) (L' := [_,_,_,_,_,_]) rfl rfl (fun _ H => (H.sub (.cons_cons _ (.cons_cons _ (.cons_cons _ (.cons _ (.cons _ (.cons_cons _ .slnil)))))))) ?_
          intro w H
          refine d_all1 (i := 8) (by kernel_rfl) ?_
          refine b_st rfl go_none (m_store1 H 3 Try.sizeOf45 rfl rfl rfl rfl (by show 0 < 1; omega) rfl) (L' := [_,_,_,_,_,_]) rfl rfl (fun _ H => (H.sub (.cons_cons _ (.cons_cons _ (.cons_cons _ (.cons _ (.cons _ (.cons_cons _ .slnil)))))))) ?_
          intro w H
          refine in_done (l' := [_,_,_,_,_,_,_,_,_,_,_,_,_,_,_,_,_,_,_,_,_,_,_,_,_,_,_,_,_,_,_,_,_,_,_,_,_,_,_,_,_,_]) (by kernel_rfl) rfl ?_
          refine x_thenNormal ?_
          refine wp_ret ?_
          refine eM_retD (k := 1) H rfl (fun w H => ⟨(rc_two rfl (rc_celln Try.isAgg97 Try.sizeOf97 rfl (H.at 4 rfl) (by first | exact (kC_td _) | exact (hC_td _) | exact (hC_seed _) | exact (shC_td _ _) | exact (elS_td (sd_get (by omega)) (by omega)) | exact (wC_td _) | exact (wC_sec _)) (by first | exact (kC_length _) | exact (hC_length _) | exact (shC_length _ _) | exact (wC_length _))) (rc_cell1 Try.isAgg45 rfl (H.at 3 rfl) rfl)), ⟨_, rfl, ?_⟩⟩)
          exact .inl ⟨hn0, hn1, by rw [← hC, ap_none (n := n.toNat) (fun j hj => by rw [Int.toNat_of_nonneg hn0]; exact hall j hj) hin], H.sub (List.nil_sublist _)⟩
      · skip
        refine ⟨_, rfl, .inr ⟨_, H, ?_⟩⟩
        intro w H
        refine (x_blockRet (x_thenRet ?_))
        refine eM_retD (k := 1) H rfl (fun w H => ⟨(rc_two rfl (rc_celln Try.isAgg97 Try.sizeOf97 rfl (H.at 4 rfl) (by first | exact (kC_td _) | exact (hC_td _) | exact (hC_seed _) | exact (shC_td _ _) | exact (elS_td (sd_get (by omega)) (by omega)) | exact (wC_td _) | exact (wC_sec _)) (by first | exact (kC_length _) | exact (hC_length _) | exact (shC_length _ _) | exact (wC_length _))) (rc_cell1 Try.isAgg45 rfl (H.at 3 rfl) rfl)), ⟨_, rfl, ?_⟩⟩)
        exact .inl ⟨hn0, hn1, by rw [← hC, ap_last (n := n.toNat) hk (by omega) (fun j h1 h2 => by rw [Int.toNat_of_nonneg hn0]; exact hall j h1 h2) hin], H.sub (List.nil_sublist _)⟩

end Go.Proofs.Ytbjalofmamoffaa

