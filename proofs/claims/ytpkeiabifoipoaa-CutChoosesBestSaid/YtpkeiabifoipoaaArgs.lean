/- Arguments of struct types opened. -/
import Derived.Test.YtpkeiabifoipoaaLaw
namespace Go.Proofs.Ytpkeiabifoipoaa
open Go.ChangeShapes Go.WideShapes Go.Joins Go.Deep
set_option maxRecDepth 100000 in
theorem in_wish {H : Type} {enc : TypeId × Value → H} {W : World} {v : Value} (ho : ∃ base, Value.okWide Try.prog W .any base 24 v) (hd : ∃ d p, DataW.Trod enc Try.prog W 0 (fun _ => true) true 24 v d p) :
    ∃ x0 x1 x2, v = .agg #[.int .i64 x0, .int .i64 x1, .int .i64 x2] := by
  obtain ⟨base, ho⟩ := ho
  obtain ⟨d, p, hd⟩ := hd
  obtain ⟨v0, v1, v2, y0, y1, y2, n, rfl, _, _, h0, h1, h2⟩ := open_agg3 Try.underlying24 (by kernel_rfl) (by kernel_rfl) ho hd
  obtain ⟨x0, e0, _, _⟩ := DataW.trod_int Try.underlying3 h0
  obtain ⟨x1, e1, _, _⟩ := DataW.trod_int Try.underlying3 h1
  obtain ⟨x2, e2, _, _⟩ := DataW.trod_int Try.underlying3 h2
  simp at e0 e1 e2
  subst e0 e1 e2
  exact ⟨x0, x1, x2, rfl⟩
end Go.Proofs.Ytpkeiabifoipoaa
