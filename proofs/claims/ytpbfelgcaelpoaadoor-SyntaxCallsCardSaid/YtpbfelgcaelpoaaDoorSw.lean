/- SyntaxCalls: the walk (own work). -/
import Derived.Test.YtpbfelgcaelpoaaDoorSk0
import Derived.Test.YtpbfelgcaelpoaaDoorSk1
import Derived.Test.YtpbfelgcaelpoaaDoorSk2
import Derived.Test.YtpbfelgcaelpoaaDoorSk3
import Derived.Test.YtpbfelgcaelpoaaDoorSk4
import Derived.Test.YtpbfelgcaelpoaaDoorSk5
import Derived.Test.YtpbfelgcaelpoaaDoorSk6
import Derived.Test.YtpbfelgcaelpoaaDoorSk7
set_option linter.unusedVariables false
namespace Go.Proofs.YtpbfelgcaelpoaaDoor
open Go.AS Go.RowKit
theorem scalls_all (m : Int) (b : Bool) (w n : Nat) (hw : w < 8) (hn : n < 8) : scallsOk m b w n = true := by
  match w, hw with
  | 0, _ => exact scalls_0 m b n hn
  | 1, _ => exact scalls_1 m b n hn
  | 2, _ => exact scalls_2 m b n hn
  | 3, _ => exact scalls_3 m b n hn
  | 4, _ => exact scalls_4 m b n hn
  | 5, _ => exact scalls_5 m b n hn
  | 6, _ => exact scalls_6 m b n hn
  | 7, _ => exact scalls_7 m b n hn
  | w + 8, h => exact absurd h (by omega)
theorem syntaxCalls_walk (a0 a1 : Int) (a2 : Bool) (w0 : (Lit.int .i64 a0).wf = true) (w1 : (Lit.int .i64 a1).wf = true) (W : World) (m : Int) (hm : W.cell? ⟨0, 0, none⟩ = some (.int .i64 m)) :
    Calls Tryd.prog 4 #[.int .i64 a0, .int .i64 a1, .bool a2] W fun e w' => e = .returned (.bool true) ∧ Below W.heap.size W w' := by
  obtain ⟨p, hp, vp⟩ := resVS (φ := φM) (x := a0) (n := 8) (by omega)
  obtain ⟨n, hn, vn⟩ := resVS (φ := φM) (x := a1) (n := 8) (by omega)
  refine law_callsS sums2 Tryd.func4 rfl (by kernel_rfl) (scalls_all m a2 p n hp hn) ?_ hm
  exact ⟨_, _, rfl, vp, _, _, rfl, vn, _, _, rfl, by simp [VR], rfl⟩
end Go.Proofs.YtpbfelgcaelpoaaDoor
