/- Loops of few rounds, unrolled. No program in sight. -/
import Derived.Test.YtdpigpopcbjkmaaDoorLp
set_option linter.unusedSimpArgs false
set_option linter.unusedVariables false
namespace Go.Proofs.YtdpigpopcbjkmaaDoor.Abs
open Go Go.RowKit

def vcI (C : CT) (b : AC) (Q : AE → St → Prop) (n : Nat) (s : St) : Prop := vcIter (fun Q' s' => vc C b Q' s') Q n s
def lqi (C : CT) (b : AC) (Q : AE → St → Prop) (n : Nat) : AE → St → Prop := fun e s' => match e with | .normal => vcI C b Q n s' | e => Q e s'
section
variable {C : CT} {b : AC} {Q : AE → St → Prop} {n : Nat} {s : St}
theorem lqi_n : lqi C b Q n .normal s = vcI C b Q n s := Eq.trans rfl rfl
theorem lqi_e {j : Nat} : lqi C b Q n (.exit j) s = Q (.exit j) s := Eq.trans rfl rfl
theorem lqi_r : lqi C b Q n .ret s = Q .ret s := Eq.trans rfl rfl
attribute [go_sem] lqi_n lqi_e lqi_r
theorem vcI_step (h : vc C b (lqi C b Q n) s) : vcI C b Q (n + 1) s := by
  refine ⟨s, .refl s, vc_mono (fun e s' he => ?_) h⟩
  cases e with
  | normal => exact he
  | exit id => exact he
  | ret => exact he
theorem vc_unroll (n : Nat) (h : vcI C b Q n s) : vc C (.loop b) Q s := ⟨n, h⟩
end
theorem wr_0 : IntKind.i64.wrap 0 = 0 := by decide
theorem wr_1 : IntKind.i64.wrap 1 = 1 := by decide
theorem wr_2 : IntKind.i64.wrap 2 = 2 := by decide
theorem wr_3 : IntKind.i64.wrap 3 = 3 := by decide
theorem wr_4 : IntKind.i64.wrap 4 = 4 := by decide
theorem wr_5 : IntKind.i64.wrap 5 = 5 := by decide
theorem wr_6 : IntKind.i64.wrap 6 = 6 := by decide
theorem wr_n1 : IntKind.i64.wrap (-1) = -1 := by decide
attribute [go_sem] wr_0 wr_1 wr_2 wr_3 wr_4 wr_5 wr_6 wr_n1
end Go.Proofs.YtdpigpopcbjkmaaDoor.Abs
