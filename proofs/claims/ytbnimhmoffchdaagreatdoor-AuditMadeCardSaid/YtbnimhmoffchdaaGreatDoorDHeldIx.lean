/- Deco: stores into elements of owned rows, in regions that draw their order. -/
import Derived.Test.YtbnimhmoffchdaaGreatDoorDNest
import Derived.Lib.SliceRun
namespace Go.Proofs.YtbnimhmoffchdaaGreatDoor
open Go.RowKit
set_option linter.unusedSectionVars false
variable [JF]

section
variable {σ : Type} {P : Program} {n : Nat} {ops : Array Oper} {E : σ → Env} {HQ : σ → World → Prop} {S : World → Prop} {fuel : Nat} {listed : Array Bool} {e : Env} {w w0 : World} {o : Oper} {H : List HE} {dst : Option Tmp} {ty : TypeId} {ps : String} {af : Array Edge} {g : Option (Nat × Bool)} {α : Type}
end
/-- A body that ends without a return. -/
theorem xm_normR {P : Program} {fn : Func} {n : Nat} {w0 : World} {ρ : Type} {R : ρ → Ending → World → Prop} {m : Option ρ} {e : Env} {H : List HE} (h : Xm n w0 (fun r => bodyPost P fn (R r)) .ret m e H) : Xm n w0 (fun r => bodyPost P fn (R r)) .normal m e H := fun r hr w hw a hf => h r hr w hw a hf
end Go.Proofs.YtbnimhmoffchdaaGreatDoor
