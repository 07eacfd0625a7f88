/- Fits: a table of texts, each run by itself (own work). -/
import Derived.Test.YtpbfelgcaelpoaaDoorDa
set_option linter.unusedSimpArgs false
set_option linter.unusedVariables false
namespace Go.Proofs.YtpbfelgcaelpoaaDoor
open Go.AS Go.RowKit
noncomputable section
def signN : List Nat := [35, 58, 61, 36, 37, 92, 59, 124, 40, 41, 123, 125, 44, 38, 33, 43, 42, 63, 91, 39, 34, 0, 32, 9, 10]
def memN (c : Nat) (l : List Nat) : Bool := List.rec false (fun x _ ih => Bool.rec ih true (Nat.beq c x)) l
def fitC (c : Nat) : Bool := Bool.rec true false (memN c signN)
def wordN : List (List Nat) := [[100, 101, 102, 105, 110, 101], [101, 110, 100, 101, 102], [117, 110, 100, 101, 102, 105, 110, 101], [105, 110, 99, 108, 117, 100, 101], [45, 105, 110, 99, 108, 117, 100, 101], [105, 102, 101, 113], [105, 102, 110, 101, 113], [105, 102, 100, 101, 102], [105, 102, 110, 100, 101, 102], [101, 108, 115, 101], [101, 110, 100, 105, 102]]
def wordTab : List (List Nat × AV) := ([], .bool false) :: (wordN.map (fun l => (l, AV.bool false)) ++ wordN.map (fun l => (l ++ [120], AV.bool true)))
def otherTab : List (List Nat × AV) := [([118], .bool true), ([119], .bool true), ([116, 120], .bool true), ([116], .bool true), ([117], .bool true), ([112, 48], .bool true), ([112, 49], .bool true), ([112, 50], .bool true), ([112, 51], .bool true),
  ([111, 48], .bool true), ([111, 49], .bool true), ([111, 50], .bool true), ([120, 46, 111], .bool true), ([120, 46, 99], .bool true), ([104], .bool true), ([37, 46, 111], .bool false), ([37, 46, 99], .bool false)]
def fitsRun (m : Int) (s : List Nat) (v : AV) : Bool := retIs v (runFK S0 F1 1000 16 [.str s] (hM m))
def fitsEnt (m : Int) (e : List Nat × AV) : Bool := fitsRun m e.1 e.2
def fitsC (m : Int) (c : Nat) : Bool := fitsRun m [97, c, 98] (.bool (fitC c))
end
set_option maxRecDepth 100000 in
theorem fits_words (m : Int) : allB (fitsEnt m) wordTab = true := by kernel_rfl
set_option maxRecDepth 100000 in
theorem fits_others (m : Int) : allB (fitsEnt m) otherTab = true := by kernel_rfl
end Go.Proofs.YtpbfelgcaelpoaaDoor
