/- A decided appeal, walked. -/
import Derived.Test.YtpephpnbhlfdaaaAp16
set_option maxRecDepth 100000
set_option maxHeartbeats 4000000
set_option linter.all false
namespace Go.Pe.Try
open Go.Proofs.Try
/-- the states that are told apart: decided as told. -/
def decS (b : Bool) : Int := if b then 2 else 3
def decL (xs : List App) (i : Nat) (x : App) (b : Bool) : List App := xs.set i { x with s := decS b }
def decOK (xs : List App) (x : App) : Bool := goodA xs && decide (x.s = 1)
/-- what is left of the list. -/
def decR (xs : List App) (id : Int) (b : Bool) : Option (List App) := match xs[(findA xs id).toNat]? with
  | some x => if (decide (0 ≤ findA xs id) && decOK xs x) = true then some (decL xs (findA xs id).toNat x b) else none
  | none => none
theorem decR_neg {xs : List App} {id : Int} {b : Bool} (h : decide (0 ≤ findA xs id) = false) : decR xs id b = none := by
  unfold decR
  rw [h]
  split <;> simp
theorem decR_at {xs : List App} {id : Int} {b : Bool} {i : Nat} {x : App} (h : findA xs id = (i : Int)) (hr : xs[i]? = some x) : decR xs id b = if decOK xs x = true then some (decL xs i x b) else none := by
  unfold decR
  rw [h, Int.toNat_natCast, hr]
  simp
/-- the results of a call that hands back appeals. -/
def listR (f : App → D) : Option (List App) → List D
  | some ys => [.sl true 6 (dl f ys), .bool true]
  | none => [.sl true 6 .nil, .bool false]
end Go.Pe.Try
