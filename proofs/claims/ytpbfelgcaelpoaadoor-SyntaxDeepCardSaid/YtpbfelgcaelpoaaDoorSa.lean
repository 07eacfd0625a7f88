/- Syntax: Parse, its deferred closure; the example of the document (own work). -/
import Derived.Test.YtpbfelgcaelpoaaDoorDa
import Derived.Test.YtpbfelgcaelpoaaDoorAsX
set_option linter.unusedSimpArgs false
set_option linter.unusedVariables false
namespace Go.Proofs.YtpbfelgcaelpoaaDoor
open Go.AS Go.RowKit
noncomputable def b19 : Code := Tryd.f19.body.getD .skip
noncomputable def hd19 : Code := match b19 with
  | .seq a _ => a
  | c => c
noncomputable def rest19 : Code := match b19 with
  | .seq _ b => b
  | c => c
noncomputable def id19 : Nat := match hd19 with
  | .region i _ _ => i
  | _ => 0
noncomputable def ops19 : Array Oper := match hd19 with
  | .region _ ops _ => ops
  | _ => #[]
noncomputable def o19_0 : Oper := ops19.getD 0 default
noncomputable def o19_1 : Oper := ops19.getD 1 default
noncomputable def rf10 : RFun := ⟨Tryd.f10.ntmps, compR Tryd.prog 1 Tryd.f10.ntmps (Tryd.f10.body.getD .skip), (compRes Tryd.prog Tryd.f10.results.toList).getD []⟩
noncomputable def callP : CallF := runFK S0 F1 5000
noncomputable def gParse : List AV → Heap → Option (ARes × Heap) := gRec (runCL callP 5000) rf10 19 Tryd.f19.ntmps (compR Tryd.prog 1 Tryd.f19.ntmps rest19) 5 2
noncomputable def S1 : Sums := fun f => if f = 10 then some gParse else S0 f
set_option maxRecDepth 100000 in
theorem parse_callS (base : Nat) : CallS Tryd.prog 1 base (fun f' args h => if f' = 10 then gParse args h else none) := by
  have hrun : runCL callP 5000 = runC callP 5000 := funext fun c => funext fun s => runCL_eq callP 5000 c s
  unfold gParse
  rw [hrun]
  exact rec_callS (id := id19) (o0 := o19_0) (o1 := o19_1) mixed (calls_of_sums sums0 5000 base) Tryd.func10 rfl (by kernel_rfl) ⟨rfl, rfl, by kernel_rfl⟩ Tryd.func19 (by kernel_rfl) (by kernel_rfl) (by kernel_rfl)
    (by kernel_rfl) (by kernel_rfl) (by kernel_rfl) (by kernel_rfl) (by kernel_rfl) (by kernel_rfl) (of_decide_eq_true (by kernel_rfl)) (of_decide_eq_true (by kernel_rfl))
theorem sums1 (base : Nat) : SumS Tryd.prog 1 base S1 := SumS.cons (parse_callS base) (sums0 base)
end Go.Proofs.YtpbfelgcaelpoaaDoor
