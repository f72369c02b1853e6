import Derived.Test.YtblphhclfloodaaDoorV3
import Derived.Test.YtblphhclfloodaaDoorF7
namespace Go.Proofs.YtblphhclfloodaaDoor
open Go Go.Er

theorem enc_ok (a : Option Addr) (cap : Nat) (xs : List Held) (hl : xs.length ≤ 65535) (hx : ∀ i, i < xs.length → InR (nd xs i)) (w0 : World) (hr : HRow w0 a xs) (hT : TabH w0) (hV : Valid xs) :
    Calls Tryd.prog 12 #[.slice a xs.length cap] w0 fun e w => ∃ v, e = .returned v ∧ ∃ a' cap' N, v = .tuple #[.slice a' (encB xs).length cap', .int .i64 0] ∧ RowN 1 5 (bC (encB xs)) (encB xs).length a' cap' N ∧ St w0 [] w N :=
  (enc_spec a cap xs hl hx w0 hr hT).mono fun _ _ ⟨v, he, h⟩ => ⟨v, he, (h.resolve_right fun h => h.1 hV).2⟩
theorem renc_ok (a : Option Addr) (cap : Nat) (xs : List Held) (hl : xs.length ≤ 65535) (hx : ∀ i, i < xs.length → InR (nd xs i)) (w0 : World) (hr : HRow w0 a xs) (hV : Valid xs) :
    Calls Tryd.prog 13 #[.slice a xs.length cap] w0 fun e w => ∃ v, e = .returned v ∧ ∃ a' cap' N, v = .tuple #[.slice a' (encB xs).length cap', .bool true] ∧ RowN 1 5 (bC (encB xs)) (encB xs).length a' cap' N ∧ St w0 [] w N :=
  (renc_spec a cap xs hl hx w0 hr).mono fun _ _ ⟨v, he, h⟩ => ⟨v, he, (h.resolve_right fun h => h.1 hV).2⟩
theorem renc_no (a : Option Addr) (cap : Nat) (xs : List Held) (hl : xs.length ≤ 65535) (hx : ∀ i, i < xs.length → InR (nd xs i)) (w0 : World) (hr : HRow w0 a xs) (hV : ¬ Valid xs) :
    Calls Tryd.prog 13 #[.slice a xs.length cap] w0 fun e w => ∃ v, e = .returned v ∧ v = .tuple #[.slice none 0 0, .bool false] ∧ St w0 [] w [] :=
  (renc_spec a cap xs hl hx w0 hr).mono fun _ _ ⟨v, he, h⟩ => ⟨v, he, (h.resolve_left fun h => hV h.1).2⟩
theorem dec_ok (a : Option Addr) (cap : Nat) (xs : List Held) (hl : xs.length ≤ 20000) (hc : (encB xs).length ≤ cap) (w0 : World) (hr : BRow w0 a (encB xs)) (hT : TabH w0) (hV : Valid xs) :
    Calls Tryd.prog 16 #[.slice a (encB xs).length cap] w0 fun e w => ∃ v, e = .returned v ∧ ∃ a' cap' N, v = .tuple #[.slice a' xs.length cap', .int .i64 0] ∧ RowN 34 55 (hsC xs) xs.length a' cap' N ∧ St w0 [] w N :=
  (dec_spec a cap (encB xs) (by rw [encB_length]; omega) hc w0 hr hT).mono fun _ _ ⟨v, he, h⟩ => ⟨v, he, by
    obtain ⟨n, _, hn, _, a', cap', N, hv, hN, hS⟩ := h.resolve_right fun h => h.1 (okB_enc (by omega) hV)
    obtain rfl : n = xs.length := by rw [encB_length] at hn; omega
    rw [dec_enc hV] at hN
    exact ⟨a', cap', N, hv, hN, hS⟩⟩
theorem dec_no (a : Option Addr) (cap : Nat) (bs : List UInt8) (hl : bs.length ≤ 1000000) (hc : bs.length ≤ cap) (w0 : World) (hr : BRow w0 a bs) (hT : TabH w0) (hN : ¬ OkB bs) :
    Calls Tryd.prog 16 #[.slice a bs.length cap] w0 fun e w => ∃ v, e = .returned v ∧ v = .tuple #[.slice none 0 0, .int .i64 3] ∧ St w0 [] w [] :=
  (dec_spec a cap bs hl hc w0 hr hT).mono fun _ _ ⟨v, he, h⟩ => ⟨v, he, (h.resolve_left fun ⟨n, h1, h2, h3, _⟩ => hN ⟨n, h1, h2, h3⟩).2⟩
theorem dec_yes (a : Option Addr) (cap : Nat) (bs : List UInt8) (m : Nat) (hl : bs.length ≤ 1000000) (hc : bs.length ≤ cap) (w0 : World) (hr : BRow w0 a bs) (hT : TabH w0) (hS : Shape bs) (hm : bs.length = 2 + 36 * m) (hV : Valid (decNs bs m)) :
    Calls Tryd.prog 16 #[.slice a bs.length cap] w0 fun e w => ∃ v, e = .returned v ∧ ∃ a' cap' N, v = .tuple #[.slice a' m cap', .int .i64 0] ∧ RowN 34 55 (hsC (decNs bs m)) m a' cap' N ∧ St w0 [] w N :=
  (dec_spec a cap bs hl hc w0 hr hT).mono fun _ _ ⟨v, he, h⟩ => ⟨v, he, by
    obtain ⟨n, _, hn, _, a', cap', N, hv, hN, hS⟩ := h.resolve_right fun h => h.1 ⟨m, hS, hm, hV⟩
    obtain rfl : n = m := by omega
    exact ⟨a', cap', N, hv, hN, hS⟩⟩
theorem rdec_yes (a : Option Addr) (cap : Nat) (bs : List UInt8) (m : Nat) (hl : bs.length ≤ 1500) (w0 : World) (hr : BRow w0 a bs) (hS : Shape bs) (hm : bs.length = 2 + 36 * m) (hV : Valid (decNs bs m)) :
    Calls Tryd.prog 17 #[.slice a bs.length cap] w0 fun e w => ∃ v, e = .returned v ∧ ∃ a' cap' N, v = .tuple #[.slice a' m cap', .bool true] ∧ RowN 34 41 (hsC (decNs bs m)) m a' cap' N ∧ St w0 [] w N :=
  (rdec_spec a cap bs hl w0 hr).mono fun _ _ ⟨v, he, h⟩ => ⟨v, he, by
    obtain ⟨n, _, hn, _, a', cap', N, hv, hN, hS⟩ := h.resolve_right fun h => h.1 ⟨m, hS, hm, hV⟩
    obtain rfl : n = m := by omega
    exact ⟨a', cap', N, hv, hN, hS⟩⟩
theorem rdec_no (a : Option Addr) (cap : Nat) (bs : List UInt8) (hl : bs.length ≤ 1500) (w0 : World) (hr : BRow w0 a bs) (hN : ¬ OkB bs) :
    Calls Tryd.prog 17 #[.slice a bs.length cap] w0 fun e w => ∃ v, e = .returned v ∧ v = .tuple #[.slice none 0 0, .bool false] ∧ St w0 [] w [] :=
  (rdec_spec a cap bs hl w0 hr).mono fun _ _ ⟨v, he, h⟩ => ⟨v, he, (h.resolve_left fun ⟨n, h1, h2, h3, _⟩ => hN ⟨n, h1, h2, h3⟩).2⟩


set_option maxHeartbeats 4000000 in
theorem awake_spec  (w0 : World) (hT : TabH w0) :
    Calls Tryd.prog 11 #[] w0 fun e w => ∃ v, e = .returned v ∧ (v = .bool true ∧ St w0 [] w []) := by
  have H := St.refl w0
  refine c_enter (args := []) (l := [undef, undef, undef, undef, undef, undef, undef, undef, undef, undef, undef, undef, undef, undef, undef, undef, undef, undef, undef, undef, undef, undef, undef, undef, undef, undef, undef, undef, undef, undef, undef, undef, undef, undef, undef, undef, undef, undef, undef, undef, undef, undef, undef, undef, undef, undef, undef, undef, undef, undef, undef, undef, undef, undef, undef, undef, undef, undef, undef, undef, undef, undef, undef, undef]) Tryd.func11 Tryd.ntmps11 rfl rfl ?_
  refine c_rseq (n := 64) ⟨rfl, rfl⟩ ?_
  refine s_val (r_assign rfl) ?_
  refine c_nil (l' := [_, _, _, _, _, _, _, _, _, _, _, _, _, _, _, _, _, _, _, _, _, _, _, _, _, _, _, _, _, _, _, _, _, _, _, _, _, _, _, _, _, _, _, _, _, _, _, _, _, _, _, _, _, _, _, _, _, _, _, _, _, _, _, _]) rfl ?_
  refine c_rseq (n := 64) ⟨rfl, rfl⟩ ?_
  refine s_val (r_buildA (pl := [(0, 1)]) (zs := kC (By.zero 32)) (out := kC key7) Tryd.runUnderlying43 Tryd.sizeOf5 Tryd.zeroValue43 (pc rfl pn) (by intro p hp; simp at hp; subst hp; rfl) (kfill1 (k := key7) rfl rfl)) ?_
  refine s_val (r_buildS Tryd.runUnderlying55 Tryd.zeroValue55 places55 (pc rfl pn) (hfill1 _)) ?_
  refine s_new (m_bslice1 H Tryd.runUnderlying22 Tryd.sizeOf55 Tryd.zeroValue55 (by omega) (by omega) rfl rfl (hC_length _)) ?_
  intro w b10 H
  refine s_call (r_call Tryd.call12 (ec rfl en)) (enc_ok _ _ one7 (by decide) one7_inR _ (fun _ => ⟨b10, 0, [], [], _, _, rfl, H.at 0 rfl, rfl⟩) (hT.st H) one7_valid) ?_
  rintro v w ⟨a1, c1, N1, rfl, hN1, HC⟩
  replace H := H.call0 HC
  refine s_val (r_move rfl) ?_
  refine s_val (r_extract rfl rfl) ?_
  refine s_val (r_extract rfl rfl) ?_
  refine s_val (r_assign rfl) ?_
  refine s_val (r_assign rfl) ?_
  refine c_nil (l' := [_, _, _, _, _, _, _, _, _, _, _, _, _, _, _, _, _, _, _, _, _, _, _, _, _, _, _, _, _, _, _, _, _, _, _, _, _, _, _, _, _, _, _, _, _, _, _, _, _, _, _, _, _, _, _, _, _, _, _, _, _, _, _, _]) rfl ?_
  refine c_rseq (n := 64) ⟨rfl, rfl⟩ ?_
  refine s_val (r_move rfl) ?_
  refine s_call (r_call Tryd.call16 (ec rfl en)) (dec_ok _ _ one7 (by decide) hN1.2.1 _ (hN1.browM H (by intro p hp; simp [hp])) (hT.st H) one7_valid) ?_
  rintro v w ⟨a2, c2, N2, rfl, hN2, HC⟩
  replace H := H.call0 HC
  refine s_val (r_move rfl) ?_
  refine s_val (r_extract rfl rfl) ?_
  refine s_val (r_extract rfl rfl) ?_
  refine s_val (r_assign rfl) ?_
  refine s_val (r_assign rfl) ?_
  refine c_nil (l' := [_, _, _, _, _, _, _, _, _, _, _, _, _, _, _, _, _, _, _, _, _, _, _, _, _, _, _, _, _, _, _, _, _, _, _, _, _, _, _, _, _, _, _, _, _, _, _, _, _, _, _, _, _, _, _, _, _, _, _, _, _, _, _, _]) rfl ?_
  refine c_rseq (n := 64) ⟨rfl, rfl⟩ ?_
  refine s_new (m_bslice1 H Tryd.runUnderlying24 Tryd.sizeOf5 Tryd.zeroValue5 (by omega) (by omega) rfl rfl rfl) ?_
  intro w b20 H
  refine s_call (r_call Tryd.call16 (ec rfl en)) (dec_no _ _ [0] (by decide) (by decide) _ (fun _ => ⟨b20, 0, [], [], _, _, rfl, H.at 0 rfl, rfl⟩) (hT.st H) not_okB0) ?_
  rintro v w ⟨rfl, HC⟩
  replace H := H.quiet HC
  refine s_val (r_move rfl) ?_
  refine s_val (r_extract rfl rfl) ?_
  refine s_val (r_extract rfl rfl) ?_
  refine s_val (r_assign rfl) ?_
  refine s_val (r_assign rfl) ?_
  refine c_nil (l' := [_, _, _, _, _, _, _, _, _, _, _, _, _, _, _, _, _, _, _, _, _, _, _, _, _, _, _, _, _, _, _, _, _, _, _, _, _, _, _, _, _, _, _, _, _, _, _, _, _, _, _, _, _, _, _, _, _, _, _, _, _, _, _, _]) rfl ?_
  refine c_rseq (n := 64) ⟨rfl, rfl⟩ ?_
  refine s_val (r_move rfl) ?_
  refine s_test (r_eql rfl rfl) (fun h25 => ?_) (fun h25 => ?_)
  · skip
    refine s_val (r_move rfl) ?_
    refine g_yes rfl rfl ?_
    refine s_val (r_move rfl) ?_
    refine g_yes rfl rfl ?_
    refine s_test (r_eql rfl rfl) (fun h28 => ?_) (fun h28 => ?_)
    · skip
      refine s_val (r_pickt rfl rfl) ?_
      refine s_val (r_move rfl) ?_
      refine g_yes rfl rfl ?_
      refine s_val (r_move rfl) ?_
      refine g_yes rfl rfl ?_
      refine s_test (r_eql rfl rfl) (fun h32 => ?_) (fun h32 => ?_)
      · skip
        refine s_val (r_pickt rfl rfl) ?_
        refine s_val (r_move rfl) ?_
        refine g_yes rfl rfl ?_
        refine s_val (r_move rfl) ?_
        refine g_yes rfl rfl ?_
        refine s_val (r_lens Tryd.runUnderlying24 (ec rfl en)) ?_
        refine g_yes rfl rfl ?_
        refine s_test (r_eql rfl rfl) (fun h37 => ?_) (fun h37 => ?_)
        · skip
          refine s_val (r_pickt rfl rfl) ?_
          refine s_val (r_move rfl) ?_
          refine g_yes rfl rfl ?_
          refine s_val (r_move rfl) ?_
          refine g_yes rfl rfl ?_
          obtain ⟨b1, o1, p1, q1, T1, f1, ea1, hb1, hp1⟩ := hN1.browM H (by intro p hp; simp [hp]) (by rw [encB_length]; omega)
          subst ea1
          refine s_val (r_indexAddrS Tryd.runUnderlying24 Tryd.sizeOf5 rfl rfl (by omega) (by rw [encB_length]; decide)) ?_
          refine g_yes rfl rfl ?_
          refine s_val (r_load1 Tryd.isAgg5 rfl hb1 (bs_getE _ _ _ 1 hp1 (by rw [encB_length]; decide) (by omega))) ?_
          refine g_yes rfl rfl ?_
          refine s_test (r_eql rfl rfl) (fun h43 => ?_) (fun h43 => ?_)
          · skip
            refine s_val (r_pickt rfl rfl) ?_
            refine s_val (r_move rfl) ?_
            refine g_yes rfl rfl ?_
            refine s_val (r_move rfl) ?_
            refine g_yes rfl rfl ?_
            refine s_val (r_indexAddrS Tryd.runUnderlying24 Tryd.sizeOf5 rfl rfl (by omega) (by rw [encB_length]; decide)) ?_
            refine g_yes rfl rfl ?_
            refine s_val (r_load1 Tryd.isAgg5 rfl hb1 (bs_getE _ _ _ 6 hp1 (by rw [encB_length]; decide) (by omega))) ?_
            refine g_yes rfl rfl ?_
            refine s_test (r_eql rfl rfl) (fun h49 => ?_) (fun h49 => ?_)
            · skip
              refine s_val (r_pickt rfl rfl) ?_
              refine s_val (r_move rfl) ?_
              refine g_yes rfl rfl ?_
              refine s_val (r_move rfl) ?_
              refine g_yes rfl rfl ?_
              refine s_val (r_lens Tryd.runUnderlying22 (ec rfl en)) ?_
              refine g_yes rfl rfl ?_
              refine s_test (r_eql rfl rfl) (fun h54 => ?_) (fun h54 => ?_)
              · skip
                refine s_val (r_pickt rfl rfl) ?_
                refine s_val (r_move rfl) ?_
                refine g_yes rfl rfl ?_
                refine s_val (r_move rfl) ?_
                refine g_yes rfl rfl ?_
                obtain ⟨b2, o2, p2, q2, T2, f2, ea2, hb2, hp2⟩ := hN2.hrowM (xs := one7) H (by intro p hp; simp [hp]) (by decide)
                subst ea2
                refine s_val (r_indexAddrS Tryd.runUnderlying22 Tryd.sizeOf55 rfl rfl (by omega) (by decide)) ?_
                refine g_yes rfl rfl ?_
                refine s_val (r_loadn Tryd.isAgg55 Tryd.sizeOf55 rfl hb2 (hs_tdn _ _ _ _ 0 hp2 (by decide)) (by first | exact (kC_length _) | exact (hC_length _) | exact rfl)) ?_
                refine g_yes rfl rfl ?_
                refine s_val (r_buildA (pl := [(0, 1)]) (zs := kC (By.zero 32)) (out := kC key7) Tryd.runUnderlying43 Tryd.sizeOf5 Tryd.zeroValue43 (pc rfl pn) (by intro p hp; simp at hp; subst hp; rfl) (kfill1 (k := key7) rfl rfl)) ?_
                refine g_yes rfl rfl ?_
                refine s_val (r_buildS Tryd.runUnderlying55 Tryd.zeroValue55 places55 (pc rfl pn) (hfill1 _)) ?_
                refine g_yes rfl rfl ?_
                refine s_test (r_eqlN nodeT55 (a := nd one7 0) (b := nd one7 0) rfl rfl) (fun h62 => ?_) (fun h62 => ?_)
                · skip
                  refine s_val (r_pickt rfl rfl) ?_
                  refine s_val (r_assign rfl) ?_
                  refine c_nil (l' := [_, _, _, _, _, _, _, _, _, _, _, _, _, _, _, _, _, _, _, _, _, _, _, _, _, _, _, _, _, _, _, _, _, _, _, _, _, _, _, _, _, _, _, _, _, _, _, _, _, _, _, _, _, _, _, _, _, _, _, _, _, _, _, _]) rfl ?_
                  refine wp_ret ?_
                  refine e_ret (res1 rfl rfl) ⟨_, rfl, ?_⟩
                  exact ⟨rfl, H.sub (List.nil_sublist _)⟩
                · skip
                  exact absurd rfl h62
              · skip
                exact absurd rfl h54
            · skip
              exact absurd (by decide +kernel) h49
          · skip
            exact absurd (by decide +kernel) h43
        · skip
          exact absurd (by rw [encB_length]; rfl) h37
      · skip
        exfalso; omega
    · skip
      exfalso; omega
  · skip
    exfalso; omega

end Go.Proofs.YtblphhclfloodaaDoor
