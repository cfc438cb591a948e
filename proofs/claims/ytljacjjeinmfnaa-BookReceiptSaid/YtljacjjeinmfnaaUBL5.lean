/- quarrylaw14.BookBloom answers true. No condition. -/
import Derived.Test.YtljacjjeinmfnaaU13
namespace Go.Proofs.Ytljacjjeinmfnaa
set_option linter.unusedVariables false
set_option linter.unusedSimpArgs false
open Go Go.RowKit
set_option maxRecDepth 100000
section
variable {N M : Heaplet} {ao bo : Option Addr} {n cap m cbp : Nat} {gs gt : List LogM} {xs xt : List LV}
theorem FBloomR_b {M J : Heaplet} {a : Option Addr} {c k : Nat} {ys : List LV} {G : List LogM} (h : RSl M 22 a k c (logsC ys)) (hj : LogsN J G ys) (hk : k ≤ 1099511627776) : Fn Try.prog 14 #[.slice a k c] [] [M, J] (fun v L => v = .agg (u8s (bloomL G)).toArray ∧ L = []) :=
  Fn.overJ (Ns := [M, J]) fun K hK => FBloom_b (h.le (hK _ (by simp))) (hj.le (hK _ (by simp))) hk
end
end Go.Proofs.Ytljacjjeinmfnaa
