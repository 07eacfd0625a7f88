/- SyntaxDeep: all runs (own work). -/
import Derived.Test.YtpbfelgcaelpoaaDoorSf0
import Derived.Test.YtpbfelgcaelpoaaDoorSf1
import Derived.Test.YtpbfelgcaelpoaaDoorSf2
import Derived.Test.YtpbfelgcaelpoaaDoorSf3
import Derived.Test.YtpbfelgcaelpoaaDoorSf4
import Derived.Test.YtpbfelgcaelpoaaDoorSf5
import Derived.Test.YtpbfelgcaelpoaaDoorSf6
import Derived.Test.YtpbfelgcaelpoaaDoorSf7
import Derived.Test.YtpbfelgcaelpoaaDoorSf8
import Derived.Test.YtpbfelgcaelpoaaDoorSf9
import Derived.Test.YtpbfelgcaelpoaaDoorSf10
import Derived.Test.YtpbfelgcaelpoaaDoorSf11
namespace Go.Proofs.YtpbfelgcaelpoaaDoor
open Go.AS
theorem deep_true (m : Int) (n : Nat) (hn : n < 60) : deepOk m true n = true := by
  by_cases h0 : n < 8
  · exact upB_all 8 0 (deep_true0 m) n (by omega) (by omega)
  by_cases h8 : n < 12
  · exact upB_all 4 8 (deep_true8 m) n (by omega) (by omega)
  by_cases h12 : n < 15
  · exact upB_all 3 12 (deep_true12 m) n (by omega) (by omega)
  by_cases h15 : n < 17
  · exact upB_all 2 15 (deep_true15 m) n (by omega) (by omega)
  by_cases h17 : n < 19
  · exact upB_all 2 17 (deep_true17 m) n (by omega) (by omega)
  by_cases h19 : n < 21
  · exact upB_all 2 19 (deep_true19 m) n (by omega) (by omega)
  by_cases h21 : n < 22
  · exact upB_all 1 21 (deep_true21 m) n (by omega) (by omega)
  by_cases h22 : n < 23
  · exact upB_all 1 22 (deep_true22 m) n (by omega) (by omega)
  by_cases h23 : n < 24
  · exact upB_all 1 23 (deep_true23 m) n (by omega) (by omega)
  by_cases h24 : n < 25
  · exact upB_all 1 24 (deep_true24 m) n (by omega) (by omega)
  by_cases h25 : n < 26
  · exact upB_all 1 25 (deep_true25 m) n (by omega) (by omega)
  by_cases h26 : n < 27
  · exact upB_all 1 26 (deep_true26 m) n (by omega) (by omega)
  by_cases h27 : n < 28
  · exact upB_all 1 27 (deep_true27 m) n (by omega) (by omega)
  by_cases h28 : n < 29
  · exact upB_all 1 28 (deep_true28 m) n (by omega) (by omega)
  by_cases h29 : n < 30
  · exact upB_all 1 29 (deep_true29 m) n (by omega) (by omega)
  by_cases h30 : n < 31
  · exact upB_all 1 30 (deep_true30 m) n (by omega) (by omega)
  by_cases h31 : n < 32
  · exact upB_all 1 31 (deep_true31 m) n (by omega) (by omega)
  by_cases h32 : n < 33
  · exact upB_all 1 32 (deep_true32 m) n (by omega) (by omega)
  by_cases h33 : n < 34
  · exact upB_all 1 33 (deep_true33 m) n (by omega) (by omega)
  by_cases h34 : n < 35
  · exact upB_all 1 34 (deep_true34 m) n (by omega) (by omega)
  by_cases h35 : n < 36
  · exact upB_all 1 35 (deep_true35 m) n (by omega) (by omega)
  by_cases h36 : n < 37
  · exact upB_all 1 36 (deep_true36 m) n (by omega) (by omega)
  by_cases h37 : n < 38
  · exact upB_all 1 37 (deep_true37 m) n (by omega) (by omega)
  by_cases h38 : n < 39
  · exact upB_all 1 38 (deep_true38 m) n (by omega) (by omega)
  by_cases h39 : n < 40
  · exact upB_all 1 39 (deep_true39 m) n (by omega) (by omega)
  by_cases h40 : n < 41
  · exact upB_all 1 40 (deep_true40 m) n (by omega) (by omega)
  by_cases h41 : n < 42
  · exact upB_all 1 41 (deep_true41 m) n (by omega) (by omega)
  by_cases h42 : n < 43
  · exact upB_all 1 42 (deep_true42 m) n (by omega) (by omega)
  by_cases h43 : n < 44
  · exact upB_all 1 43 (deep_true43 m) n (by omega) (by omega)
  by_cases h44 : n < 45
  · exact upB_all 1 44 (deep_true44 m) n (by omega) (by omega)
  by_cases h45 : n < 46
  · exact upB_all 1 45 (deep_true45 m) n (by omega) (by omega)
  by_cases h46 : n < 47
  · exact upB_all 1 46 (deep_true46 m) n (by omega) (by omega)
  by_cases h47 : n < 48
  · exact upB_all 1 47 (deep_true47 m) n (by omega) (by omega)
  by_cases h48 : n < 49
  · exact upB_all 1 48 (deep_true48 m) n (by omega) (by omega)
  by_cases h49 : n < 50
  · exact upB_all 1 49 (deep_true49 m) n (by omega) (by omega)
  by_cases h50 : n < 51
  · exact upB_all 1 50 (deep_true50 m) n (by omega) (by omega)
  by_cases h51 : n < 52
  · exact upB_all 1 51 (deep_true51 m) n (by omega) (by omega)
  by_cases h52 : n < 53
  · exact upB_all 1 52 (deep_true52 m) n (by omega) (by omega)
  by_cases h53 : n < 54
  · exact upB_all 1 53 (deep_true53 m) n (by omega) (by omega)
  by_cases h54 : n < 55
  · exact upB_all 1 54 (deep_true54 m) n (by omega) (by omega)
  by_cases h55 : n < 56
  · exact upB_all 1 55 (deep_true55 m) n (by omega) (by omega)
  by_cases h56 : n < 57
  · exact upB_all 1 56 (deep_true56 m) n (by omega) (by omega)
  by_cases h57 : n < 58
  · exact upB_all 1 57 (deep_true57 m) n (by omega) (by omega)
  by_cases h58 : n < 59
  · exact upB_all 1 58 (deep_true58 m) n (by omega) (by omega)
  by_cases h59 : n < 60
  · exact upB_all 1 59 (deep_true59 m) n (by omega) (by omega)
  omega
theorem deep_false (m : Int) (n : Nat) (hn : n < 60) : deepOk m false n = true := by
  by_cases h0 : n < 8
  · exact upB_all 8 0 (deep_false0 m) n (by omega) (by omega)
  by_cases h8 : n < 12
  · exact upB_all 4 8 (deep_false8 m) n (by omega) (by omega)
  by_cases h12 : n < 15
  · exact upB_all 3 12 (deep_false12 m) n (by omega) (by omega)
  by_cases h15 : n < 17
  · exact upB_all 2 15 (deep_false15 m) n (by omega) (by omega)
  by_cases h17 : n < 19
  · exact upB_all 2 17 (deep_false17 m) n (by omega) (by omega)
  by_cases h19 : n < 21
  · exact upB_all 2 19 (deep_false19 m) n (by omega) (by omega)
  by_cases h21 : n < 22
  · exact upB_all 1 21 (deep_false21 m) n (by omega) (by omega)
  by_cases h22 : n < 23
  · exact upB_all 1 22 (deep_false22 m) n (by omega) (by omega)
  by_cases h23 : n < 24
  · exact upB_all 1 23 (deep_false23 m) n (by omega) (by omega)
  by_cases h24 : n < 25
  · exact upB_all 1 24 (deep_false24 m) n (by omega) (by omega)
  by_cases h25 : n < 26
  · exact upB_all 1 25 (deep_false25 m) n (by omega) (by omega)
  by_cases h26 : n < 27
  · exact upB_all 1 26 (deep_false26 m) n (by omega) (by omega)
  by_cases h27 : n < 28
  · exact upB_all 1 27 (deep_false27 m) n (by omega) (by omega)
  by_cases h28 : n < 29
  · exact upB_all 1 28 (deep_false28 m) n (by omega) (by omega)
  by_cases h29 : n < 30
  · exact upB_all 1 29 (deep_false29 m) n (by omega) (by omega)
  by_cases h30 : n < 31
  · exact upB_all 1 30 (deep_false30 m) n (by omega) (by omega)
  by_cases h31 : n < 32
  · exact upB_all 1 31 (deep_false31 m) n (by omega) (by omega)
  by_cases h32 : n < 33
  · exact upB_all 1 32 (deep_false32 m) n (by omega) (by omega)
  by_cases h33 : n < 34
  · exact upB_all 1 33 (deep_false33 m) n (by omega) (by omega)
  by_cases h34 : n < 35
  · exact upB_all 1 34 (deep_false34 m) n (by omega) (by omega)
  by_cases h35 : n < 36
  · exact upB_all 1 35 (deep_false35 m) n (by omega) (by omega)
  by_cases h36 : n < 37
  · exact upB_all 1 36 (deep_false36 m) n (by omega) (by omega)
  by_cases h37 : n < 38
  · exact upB_all 1 37 (deep_false37 m) n (by omega) (by omega)
  by_cases h38 : n < 39
  · exact upB_all 1 38 (deep_false38 m) n (by omega) (by omega)
  by_cases h39 : n < 40
  · exact upB_all 1 39 (deep_false39 m) n (by omega) (by omega)
  by_cases h40 : n < 41
  · exact upB_all 1 40 (deep_false40 m) n (by omega) (by omega)
  by_cases h41 : n < 42
  · exact upB_all 1 41 (deep_false41 m) n (by omega) (by omega)
  by_cases h42 : n < 43
  · exact upB_all 1 42 (deep_false42 m) n (by omega) (by omega)
  by_cases h43 : n < 44
  · exact upB_all 1 43 (deep_false43 m) n (by omega) (by omega)
  by_cases h44 : n < 45
  · exact upB_all 1 44 (deep_false44 m) n (by omega) (by omega)
  by_cases h45 : n < 46
  · exact upB_all 1 45 (deep_false45 m) n (by omega) (by omega)
  by_cases h46 : n < 47
  · exact upB_all 1 46 (deep_false46 m) n (by omega) (by omega)
  by_cases h47 : n < 48
  · exact upB_all 1 47 (deep_false47 m) n (by omega) (by omega)
  by_cases h48 : n < 49
  · exact upB_all 1 48 (deep_false48 m) n (by omega) (by omega)
  by_cases h49 : n < 50
  · exact upB_all 1 49 (deep_false49 m) n (by omega) (by omega)
  by_cases h50 : n < 51
  · exact upB_all 1 50 (deep_false50 m) n (by omega) (by omega)
  by_cases h51 : n < 52
  · exact upB_all 1 51 (deep_false51 m) n (by omega) (by omega)
  by_cases h52 : n < 53
  · exact upB_all 1 52 (deep_false52 m) n (by omega) (by omega)
  by_cases h53 : n < 54
  · exact upB_all 1 53 (deep_false53 m) n (by omega) (by omega)
  by_cases h54 : n < 55
  · exact upB_all 1 54 (deep_false54 m) n (by omega) (by omega)
  by_cases h55 : n < 56
  · exact upB_all 1 55 (deep_false55 m) n (by omega) (by omega)
  by_cases h56 : n < 57
  · exact upB_all 1 56 (deep_false56 m) n (by omega) (by omega)
  by_cases h57 : n < 58
  · exact upB_all 1 57 (deep_false57 m) n (by omega) (by omega)
  by_cases h58 : n < 59
  · exact upB_all 1 58 (deep_false58 m) n (by omega) (by omega)
  by_cases h59 : n < 60
  · exact upB_all 1 59 (deep_false59 m) n (by omega) (by omega)
  omega
theorem deep_all (m : Int) (b : Bool) (n : Nat) (hn : n < 60) : deepOk m b n = true := by
  cases b
  · exact deep_false m n hn
  · exact deep_true m n hn
end Go.Proofs.YtpbfelgcaelpoaaDoor
