import Derived.Test.YtbjalofmamoffaaPI5
import Derived.Test.YtbjalofmamoffaaPC6
import Derived.Test.YtbjalofmamoffaaPV2
namespace Go.Proofs.Ytbjalofmamoffaa
open Go Go.Er

theorem append_ord {ba bb : Nat} (bl g z : Nat) (C : List Sec) (bs : List (List UInt8)) (q : Nat) (N : List (Nat × Obj)) (hq : q ≤ 80000) (hO : OrdL g z bs C) (a : Option Addr) (cap : Nat) (body : List UInt8) (hb : body.length ≤ 103) (w0 : World) (hrX : ∀ w L, St w0 (N.map (·.1)) w L → BRow w a body) (hg : LogN 150 51 89 72 ba bb bl (ordS g z C bs.length) q N) (hown : Go.Er.Own w0 N) :
    Calls Try.prog 15 #[.pointer (some ⟨bl, 0, none⟩), .slice a body.length cap] w0 fun e w => ∃ v, e = .returned v ∧
      ((bs.length = g * z ∧ v = .tuple #[.int .i64 0, .int .i64 6] ∧ ∃ N', LogN 150 51 89 72 ba bb bl (ordS g z C bs.length) (q + 1) N' ∧ St w0 (N.map (·.1)) w N') ∨
       (bs.length < g * z ∧ ∃ C', v = .tuple #[.int .i64 ((2 + bs.length : Nat) : Int), .int .i64 0] ∧ OrdL g z (bs ++ [body]) C' ∧ ∃ N', LogN 150 51 89 72 ba bb bl (ordS g z C' (bs ++ [body]).length) (q + 1) N' ∧ St w0 (N.map (·.1)) w N')) := by
  refine (append_spec bl (ordS g z C bs.length) q N hq (ord_known hO.1) a cap body w0 hrX hg hown).mono ?_
  rintro e w ⟨v, he, hv, N', h1, h2⟩
  refine ⟨v, he, ?_⟩
  rcases ord_append2 hO hb with ⟨hf, hap⟩ | ⟨hf, C', hap, hO'⟩
  · rw [hap] at hv h1
    exact .inl ⟨hf, hv, N', h1, h2⟩
  · rw [hap] at hv h1
    exact .inr ⟨hf, C', hv, hO', N', h1, h2⟩
end Go.Proofs.Ytbjalofmamoffaa

