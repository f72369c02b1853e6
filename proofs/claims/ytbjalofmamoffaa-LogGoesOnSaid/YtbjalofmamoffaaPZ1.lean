import Derived.Test.YtbjalofmamoffaaPI5
import Derived.Test.YtbjalofmamoffaaPC6
import Derived.Test.YtbjalofmamoffaaPV2
namespace Go.Proofs.Ytbjalofmamoffaa
open Go Go.Er

theorem append_ord {ba bb : Nat} (bl g z : Nat) (C : List Sec) (bs : List (List UInt8)) (q : Nat) (N : List (Nat × Obj)) (hq : q ≤ 80000) (hO : OrdL g z bs C) (a : Option Addr) (cap : Nat) (body : List UInt8) (hb : body.length ≤ 103) (w0 : World) (hrX : ∀ w L, St w0 (N.map (·.1)) w L → BRow w a body) (hg : LogN 150 51 89 72 ba bb bl (ordS g z C bs.length) q N) (hown : Go.Er.Own w0 N) :
    Calls Try.prog 15 #[.pointer (some ⟨bl, 0, none⟩), .slice a body.length cap] w0 fun e w => ∃ v, e = .returned v ∧
      ((bs.length = g * z ∧ v = .tuple #[.int .i64 0, .int .i64 6] ∧ ∃ N', LogN 150 51 89 72 ba bb bl (ordS g z C bs.length) (q + 1) N' ∧ St w0 (N.map (·.1)) w N') ∨
       (bs.length < g * z ∧ ∃ C', v = .tuple #[.int .i64 ((2 + bs.length : Nat) : Int), .int .i64 0] ∧ OrdL g z (bs ++ [body]) C' ∧ ∃ N', LogN 150 51 89 72 ba bb bl (ordS g z C' (bs ++ [body]).length) (q + 1) N' ∧ St w0 (N.map (·.1)) w N')) := by
  refine (append_spec bl (ordS g z C bs.length) q N hq (ord_known hO.1) a cap body w0 hrX hg hown).mono ?_
  rintro e w ⟨v, he, hv, N', h1, h2⟩
  refine ⟨v, he, ?_⟩
  rcases ord_append2 hO hb with ⟨hf, hap⟩ | ⟨hf, C', hap, hO'⟩
  · rw [hap] at hv h1
    exact .inl ⟨hf, hv, N', h1, h2⟩
  · rw [hap] at hv h1
    exact .inr ⟨hf, C', hv, hO', N', h1, h2⟩
theorem lread_ord (bl g z : Nat) (C : List Sec) (bs : List (List UInt8)) (hO : OrdL g z bs C) (m : Nat) (hm : m < bs.length) (n : Int) (hn : n = ((2 + m : Nat) : Int)) (w0 : World) (hg : LogR 51 89 72 w0 bl (ordS g z C bs.length)) :
    Calls Try.prog 19 #[.pointer (some ⟨bl, 0, none⟩), .int .i64 n] w0 fun e w => ∃ v, e = .returned v ∧ ∃ a cap N, v = .tuple #[.slice a (bs.getD m []).length cap, .int .i64 0] ∧ RowN 1 5 (bC (bs.getD m [])) (bs.getD m []).length a cap N ∧ St w0 [] w N := by
  subst hn
  have hle := hO.1.le
  have hgz := hO.1.gz
  refine (lread_spec bl (ordS g z C bs.length) ((2 + m : Nat) : Int) (by omega) (by omega) w0 hg).mono ?_
  rintro e w ⟨v, he, h⟩
  refine ⟨v, he, ?_⟩
  have hgen := ord_read hO.1 hm
  obtain ⟨s1, s2, s3⟩ := hO.1.gen hm
  have e1 : sd (ordS g z C bs.length).C ((2 + m : Nat) : Int).toNat = sd C (2 + m) := by rw [Int.toNat_natCast]; rfl
  have hin : 2 ≤ ((2 + m : Nat) : Int) ∧ ((2 + m : Nat) : Int) < 2 + (ordS g z C bs.length).g * (ordS g z C bs.length).z := by
    have e : (ordS g z C bs.length).g * (ordS g z C bs.length).z = ((g * z : Nat) : Int) := by rw [Int.natCast_mul]; rfl
    rw [e]; omega
  rw [e1, hgen] at h
  rcases h with ⟨h0 | h0, _⟩ | ⟨_,_,_, ⟨_,_, a, cap, N, h1, h2, h3⟩ | ⟨h0, _⟩⟩
  · generalize m / z = d at h0
    omega
  · exact absurd hin h0
  · rw [s3] at h1 h2
    exact ⟨a, cap, N, h1, h2, h3⟩
  · exact absurd ⟨s1, s2⟩ h0

end Go.Proofs.Ytbjalofmamoffaa

