/- Greatest common divisors and shares in lowest terms, walked. -/
import Derived.Test.YtpephpnbhlfdaaaPeD
import Derived.Test.YtpephpnbhlfdaaaMc1
import Derived.Test.YtpephpnbhlfdaaaMc2
import Derived.Test.YtpephpnbhlfdaaaMc3
set_option maxRecDepth 100000
set_option maxHeartbeats 4000000
set_option linter.all false
namespace Go.Pe.Try
open Go.Proofs.Try
theorem tmod_cast (a b : Nat) : ((a : Int).tmod (b : Int)) = ((a % b : Nat) : Int) := rfl
def lowest (a b : Nat) : List D := [.int .i64 ((a : Int).tdiv (Nat.gcd a b : Nat)), .int .i64 ((b : Int).tdiv (Nat.gcd a b : Nat))]
theorem tdiv_inR (a g : Nat) (h : a ≤ 1000000) : InR .i64 ((a : Int).tdiv (g : Int)) := by
  have h1 : 0 ≤ (a : Int).tdiv (g : Int) := Int.tdiv_nonneg (by omega) (by omega)
  have h2 : (a : Int).tdiv (g : Int) ≤ a := Int.tdiv_le_self _ (by omega)
  exact ⟨by omega, by omega⟩
end Go.Pe.Try
