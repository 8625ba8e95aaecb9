/-
  Facts of the program's types; bags and datagrams as plain records.
-/
import Derived.Test.YteloibaggcihnaaProg
import Derived.Test.YteloibaggcihnaaAbD
import Derived.KernelRfl
set_option linter.all false
set_option linter.unusedVariables false
set_option linter.unusedSimpArgs false

namespace Go.Proofs.Bo
open Go Go.Abs

@[go_sem] theorem psz0 : psz Try.prog 0 = some 1 := by kernel_rfl
@[go_sem] theorem pby0 : pby Try.prog 0 = 0 := by kernel_rfl
@[go_sem] theorem pty0 : pty Try.prog 0 = some (false, 1) := by kernel_rfl
@[go_sem] theorem psz1 : psz Try.prog 1 = some 1 := by kernel_rfl
@[go_sem] theorem pby1 : pby Try.prog 1 = 8 := by kernel_rfl
@[go_sem] theorem pty1 : pty Try.prog 1 = some (false, 1) := by kernel_rfl
@[go_sem] theorem psz2 : psz Try.prog 2 = some 1 := by kernel_rfl
@[go_sem] theorem pby2 : pby Try.prog 2 = 8 := by kernel_rfl
@[go_sem] theorem pty2 : pty Try.prog 2 = some (false, 1) := by kernel_rfl
@[go_sem] theorem pint2 : pint Try.prog 2 = some .i64 := by kernel_rfl
@[go_sem] theorem psz3 : psz Try.prog 3 = some 1 := by kernel_rfl
@[go_sem] theorem pby3 : pby Try.prog 3 = 8 := by kernel_rfl
@[go_sem] theorem pty3 : pty Try.prog 3 = some (false, 1) := by kernel_rfl
@[go_sem] theorem pint3 : pint Try.prog 3 = some .i64 := by kernel_rfl
@[go_sem] theorem psz4 : psz Try.prog 4 = some 1 := by kernel_rfl
@[go_sem] theorem pby4 : pby Try.prog 4 = 1 := by kernel_rfl
@[go_sem] theorem pty4 : pty Try.prog 4 = some (false, 1) := by kernel_rfl
@[go_sem] theorem pbl4 : Try.prog.underlying 4 = some .bool := by kernel_rfl
@[go_sem] theorem psz5 : psz Try.prog 5 = some 1 := by kernel_rfl
@[go_sem] theorem pby5 : pby Try.prog 5 = 1 := by kernel_rfl
@[go_sem] theorem pty5 : pty Try.prog 5 = some (false, 1) := by kernel_rfl
@[go_sem] theorem pint5 : pint Try.prog 5 = some .u8 := by kernel_rfl
@[go_sem] theorem psz6 : psz Try.prog 6 = some 1 := by kernel_rfl
@[go_sem] theorem pby6 : pby Try.prog 6 = 1 := by kernel_rfl
@[go_sem] theorem pty6 : pty Try.prog 6 = some (false, 1) := by kernel_rfl
@[go_sem] theorem pint6 : pint Try.prog 6 = some .u8 := by kernel_rfl
@[go_sem] theorem psz7 : psz Try.prog 7 = some 4 := by kernel_rfl
@[go_sem] theorem pby7 : pby Try.prog 7 = 24 := by kernel_rfl
@[go_sem] theorem pty7 : pty Try.prog 7 = some (true, 4) := by kernel_rfl
@[go_sem] theorem pfld7_0 : pfld Try.prog 7 0 = some (0, 2) := by kernel_rfl
@[go_sem] theorem pfld7_1 : pfld Try.prog 7 1 = some (1, 3) := by kernel_rfl
@[go_sem] theorem pfld7_2 : pfld Try.prog 7 2 = some (2, 4) := by kernel_rfl
@[go_sem] theorem pfld7_3 : pfld Try.prog 7 3 = some (3, 6) := by kernel_rfl
@[go_sem] theorem pplaces7 : pplaces Try.prog 7 = some [(0, 1), (1, 1), (2, 1), (3, 1)] := by kernel_rfl
@[go_sem] theorem psz8 : psz Try.prog 8 = some 4 := by kernel_rfl
@[go_sem] theorem pby8 : pby Try.prog 8 = 24 := by kernel_rfl
@[go_sem] theorem pty8 : pty Try.prog 8 = some (true, 4) := by kernel_rfl
@[go_sem] theorem pfld8_0 : pfld Try.prog 8 0 = some (0, 2) := by kernel_rfl
@[go_sem] theorem pfld8_1 : pfld Try.prog 8 1 = some (1, 3) := by kernel_rfl
@[go_sem] theorem pfld8_2 : pfld Try.prog 8 2 = some (2, 4) := by kernel_rfl
@[go_sem] theorem pfld8_3 : pfld Try.prog 8 3 = some (3, 6) := by kernel_rfl
@[go_sem] theorem pplaces8 : pplaces Try.prog 8 = some [(0, 1), (1, 1), (2, 1), (3, 1)] := by kernel_rfl
@[go_sem] theorem psz9 : psz Try.prog 9 = some 1 := by kernel_rfl
@[go_sem] theorem pby9 : pby Try.prog 9 = 16 := by kernel_rfl
@[go_sem] theorem pty9 : pty Try.prog 9 = some (false, 1) := by kernel_rfl
@[go_sem] theorem pstr9 : pstr Try.prog 9 = true := by kernel_rfl
@[go_sem] theorem psz10 : psz Try.prog 10 = some 1 := by kernel_rfl
@[go_sem] theorem pby10 : pby Try.prog 10 = 16 := by kernel_rfl
@[go_sem] theorem pty10 : pty Try.prog 10 = some (false, 1) := by kernel_rfl
@[go_sem] theorem pstr10 : pstr Try.prog 10 = true := by kernel_rfl
@[go_sem] theorem psz11 : psz Try.prog 11 = some 1 := by kernel_rfl
@[go_sem] theorem pby11 : pby Try.prog 11 = 16 := by kernel_rfl
@[go_sem] theorem pty11 : pty Try.prog 11 = some (false, 1) := by kernel_rfl
@[go_sem] theorem pstr11 : pstr Try.prog 11 = true := by kernel_rfl
@[go_sem] theorem psz12 : psz Try.prog 12 = some 1 := by kernel_rfl
@[go_sem] theorem pby12 : pby Try.prog 12 = 8 := by kernel_rfl
@[go_sem] theorem pty12 : pty Try.prog 12 = some (false, 1) := by kernel_rfl
@[go_sem] theorem pint12 : pint Try.prog 12 = some .u64 := by kernel_rfl
@[go_sem] theorem psz13 : psz Try.prog 13 = some 2 := by kernel_rfl
@[go_sem] theorem pby13 : pby Try.prog 13 = 24 := by kernel_rfl
@[go_sem] theorem pty13 : pty Try.prog 13 = some (true, 2) := by kernel_rfl
@[go_sem] theorem pfld13_0 : pfld Try.prog 13 0 = some (0, 9) := by kernel_rfl
@[go_sem] theorem pfld13_1 : pfld Try.prog 13 1 = some (1, 12) := by kernel_rfl
@[go_sem] theorem pplaces13 : pplaces Try.prog 13 = some [(0, 1), (1, 1)] := by kernel_rfl
@[go_sem] theorem psz14 : psz Try.prog 14 = some 2 := by kernel_rfl
@[go_sem] theorem pby14 : pby Try.prog 14 = 24 := by kernel_rfl
@[go_sem] theorem pty14 : pty Try.prog 14 = some (true, 2) := by kernel_rfl
@[go_sem] theorem pfld14_0 : pfld Try.prog 14 0 = some (0, 9) := by kernel_rfl
@[go_sem] theorem pfld14_1 : pfld Try.prog 14 1 = some (1, 12) := by kernel_rfl
@[go_sem] theorem pplaces14 : pplaces Try.prog 14 = some [(0, 1), (1, 1)] := by kernel_rfl
@[go_sem] theorem psz15 : psz Try.prog 15 = some 1 := by kernel_rfl
@[go_sem] theorem pby15 : pby Try.prog 15 = 8 := by kernel_rfl
@[go_sem] theorem pty15 : pty Try.prog 15 = some (false, 1) := by kernel_rfl
@[go_sem] theorem psz16 : psz Try.prog 16 = some 1 := by kernel_rfl
@[go_sem] theorem pby16 : pby Try.prog 16 = 8 := by kernel_rfl
@[go_sem] theorem pty16 : pty Try.prog 16 = some (false, 1) := by kernel_rfl
@[go_sem] theorem psz17 : psz Try.prog 17 = some 1 := by kernel_rfl
@[go_sem] theorem pby17 : pby Try.prog 17 = 8 := by kernel_rfl
@[go_sem] theorem pty17 : pty Try.prog 17 = some (false, 1) := by kernel_rfl
@[go_sem] theorem psz18 : psz Try.prog 18 = some 1 := by kernel_rfl
@[go_sem] theorem pby18 : pby Try.prog 18 = 8 := by kernel_rfl
@[go_sem] theorem pty18 : pty Try.prog 18 = some (true, 1) := by kernel_rfl
@[go_sem] theorem pfld18_0 : pfld Try.prog 18 0 = some (0, 17) := by kernel_rfl
@[go_sem] theorem pplaces18 : pplaces Try.prog 18 = some [(0, 1)] := by kernel_rfl
@[go_sem] theorem psz19 : psz Try.prog 19 = some 1 := by kernel_rfl
@[go_sem] theorem pby19 : pby Try.prog 19 = 8 := by kernel_rfl
@[go_sem] theorem pty19 : pty Try.prog 19 = some (true, 1) := by kernel_rfl
@[go_sem] theorem pfld19_0 : pfld Try.prog 19 0 = some (0, 17) := by kernel_rfl
@[go_sem] theorem pplaces19 : pplaces Try.prog 19 = some [(0, 1)] := by kernel_rfl
@[go_sem] theorem psz20 : psz Try.prog 20 = some 1 := by kernel_rfl
@[go_sem] theorem pby20 : pby Try.prog 20 = 16 := by kernel_rfl
@[go_sem] theorem pty20 : pty Try.prog 20 = some (false, 1) := by kernel_rfl
@[go_sem] theorem psz21 : psz Try.prog 21 = some 1 := by kernel_rfl
@[go_sem] theorem pby21 : pby Try.prog 21 = 4 := by kernel_rfl
@[go_sem] theorem pty21 : pty Try.prog 21 = some (false, 1) := by kernel_rfl
@[go_sem] theorem pint21 : pint Try.prog 21 = some .i32 := by kernel_rfl
@[go_sem] theorem psz22 : psz Try.prog 22 = some 1 := by kernel_rfl
@[go_sem] theorem pby22 : pby Try.prog 22 = 24 := by kernel_rfl
@[go_sem] theorem pty22 : pty Try.prog 22 = some (false, 1) := by kernel_rfl
@[go_sem] theorem pelem22 : pelem Try.prog 22 = some 27 := by kernel_rfl
@[go_sem] theorem psz23 : psz Try.prog 23 = some 2 := by kernel_rfl
@[go_sem] theorem pby23 : pby Try.prog 23 = 32 := by kernel_rfl
@[go_sem] theorem pty23 : pty Try.prog 23 = some (true, 2) := by kernel_rfl
@[go_sem] theorem pfld23_0 : pfld Try.prog 23 0 = some (0, 22) := by kernel_rfl
@[go_sem] theorem pfld23_1 : pfld Try.prog 23 1 = some (1, 3) := by kernel_rfl
@[go_sem] theorem pplaces23 : pplaces Try.prog 23 = some [(0, 1), (1, 1)] := by kernel_rfl
@[go_sem] theorem psz24 : psz Try.prog 24 = some 2 := by kernel_rfl
@[go_sem] theorem pby24 : pby Try.prog 24 = 32 := by kernel_rfl
@[go_sem] theorem pty24 : pty Try.prog 24 = some (true, 2) := by kernel_rfl
@[go_sem] theorem pfld24_0 : pfld Try.prog 24 0 = some (0, 22) := by kernel_rfl
@[go_sem] theorem pfld24_1 : pfld Try.prog 24 1 = some (1, 3) := by kernel_rfl
@[go_sem] theorem pplaces24 : pplaces Try.prog 24 = some [(0, 1), (1, 1)] := by kernel_rfl
@[go_sem] theorem psz25 : psz Try.prog 25 = some 1 := by kernel_rfl
@[go_sem] theorem pby25 : pby Try.prog 25 = 24 := by kernel_rfl
@[go_sem] theorem pty25 : pty Try.prog 25 = some (false, 1) := by kernel_rfl
@[go_sem] theorem pelem25 : pelem Try.prog 25 = some 5 := by kernel_rfl
@[go_sem] theorem psz26 : psz Try.prog 26 = some 3 := by kernel_rfl
@[go_sem] theorem pby26 : pby Try.prog 26 = 40 := by kernel_rfl
@[go_sem] theorem pty26 : pty Try.prog 26 = some (true, 3) := by kernel_rfl
@[go_sem] theorem pfld26_0 : pfld Try.prog 26 0 = some (0, 3) := by kernel_rfl
@[go_sem] theorem pfld26_1 : pfld Try.prog 26 1 = some (1, 25) := by kernel_rfl
@[go_sem] theorem pfld26_2 : pfld Try.prog 26 2 = some (2, 4) := by kernel_rfl
@[go_sem] theorem pplaces26 : pplaces Try.prog 26 = some [(0, 1), (1, 1), (2, 1)] := by kernel_rfl
@[go_sem] theorem psz27 : psz Try.prog 27 = some 3 := by kernel_rfl
@[go_sem] theorem pby27 : pby Try.prog 27 = 40 := by kernel_rfl
@[go_sem] theorem pty27 : pty Try.prog 27 = some (true, 3) := by kernel_rfl
@[go_sem] theorem pfld27_0 : pfld Try.prog 27 0 = some (0, 3) := by kernel_rfl
@[go_sem] theorem pfld27_1 : pfld Try.prog 27 1 = some (1, 25) := by kernel_rfl
@[go_sem] theorem pfld27_2 : pfld Try.prog 27 2 = some (2, 4) := by kernel_rfl
@[go_sem] theorem pplaces27 : pplaces Try.prog 27 = some [(0, 1), (1, 1), (2, 1)] := by kernel_rfl
@[go_sem] theorem psz28 : psz Try.prog 28 = some 1 := by kernel_rfl
@[go_sem] theorem pby28 : pby Try.prog 28 = 8 := by kernel_rfl
@[go_sem] theorem pty28 : pty Try.prog 28 = some (false, 1) := by kernel_rfl
@[go_sem] theorem psz29 : psz Try.prog 29 = some 1 := by kernel_rfl
@[go_sem] theorem pby29 : pby Try.prog 29 = 8 := by kernel_rfl
@[go_sem] theorem pty29 : pty Try.prog 29 = some (false, 1) := by kernel_rfl
@[go_sem] theorem psz30 : psz Try.prog 30 = some 1 := by kernel_rfl
@[go_sem] theorem pby30 : pby Try.prog 30 = 8 := by kernel_rfl
@[go_sem] theorem pty30 : pty Try.prog 30 = some (false, 1) := by kernel_rfl
@[go_sem] theorem psz31 : psz Try.prog 31 = some 1 := by kernel_rfl
@[go_sem] theorem pby31 : pby Try.prog 31 = 8 := by kernel_rfl
@[go_sem] theorem pty31 : pty Try.prog 31 = some (false, 1) := by kernel_rfl
@[go_sem] theorem psz32 : psz Try.prog 32 = some 1 := by kernel_rfl
@[go_sem] theorem pby32 : pby Try.prog 32 = 0 := by kernel_rfl
@[go_sem] theorem pty32 : pty Try.prog 32 = some (false, 1) := by kernel_rfl
@[go_sem] theorem psz33 : psz Try.prog 33 = some 1 := by kernel_rfl
@[go_sem] theorem pby33 : pby Try.prog 33 = 8 := by kernel_rfl
@[go_sem] theorem pty33 : pty Try.prog 33 = some (false, 1) := by kernel_rfl
@[go_sem] theorem psz34 : psz Try.prog 34 = some 1 := by kernel_rfl
@[go_sem] theorem pby34 : pby Try.prog 34 = 8 := by kernel_rfl
@[go_sem] theorem pty34 : pty Try.prog 34 = some (false, 1) := by kernel_rfl
@[go_sem] theorem pint34 : pint Try.prog 34 = some .i64 := by kernel_rfl
@[go_sem] theorem psz35 : psz Try.prog 35 = some 1 := by kernel_rfl
@[go_sem] theorem pby35 : pby Try.prog 35 = 0 := by kernel_rfl
@[go_sem] theorem pty35 : pty Try.prog 35 = some (false, 1) := by kernel_rfl
@[go_sem] theorem psz36 : psz Try.prog 36 = some 1 := by kernel_rfl
@[go_sem] theorem pby36 : pby Try.prog 36 = 8 := by kernel_rfl
@[go_sem] theorem pty36 : pty Try.prog 36 = some (false, 1) := by kernel_rfl
@[go_sem] theorem psz37 : psz Try.prog 37 = some 1 := by kernel_rfl
@[go_sem] theorem pby37 : pby Try.prog 37 = 8 := by kernel_rfl
@[go_sem] theorem pty37 : pty Try.prog 37 = some (false, 1) := by kernel_rfl
@[go_sem] theorem psz38 : psz Try.prog 38 = some 1 := by kernel_rfl
@[go_sem] theorem pby38 : pby Try.prog 38 = 24 := by kernel_rfl
@[go_sem] theorem pty38 : pty Try.prog 38 = some (false, 1) := by kernel_rfl
@[go_sem] theorem pelem38 : pelem Try.prog 38 = some 24 := by kernel_rfl
@[go_sem] theorem psz39 : psz Try.prog 39 = some 1 := by kernel_rfl
@[go_sem] theorem pby39 : pby Try.prog 39 = 8 := by kernel_rfl
@[go_sem] theorem pty39 : pty Try.prog 39 = some (false, 1) := by kernel_rfl
@[go_sem] theorem psz40 : psz Try.prog 40 = some 1 := by kernel_rfl
@[go_sem] theorem pby40 : pby Try.prog 40 = 8 := by kernel_rfl
@[go_sem] theorem pty40 : pty Try.prog 40 = some (false, 1) := by kernel_rfl
@[go_sem] theorem psz41 : psz Try.prog 41 = some 1 := by kernel_rfl
@[go_sem] theorem pby41 : pby Try.prog 41 = 8 := by kernel_rfl
@[go_sem] theorem pty41 : pty Try.prog 41 = some (false, 1) := by kernel_rfl
@[go_sem] theorem psz42 : psz Try.prog 42 = some 1 := by kernel_rfl
@[go_sem] theorem pby42 : pby Try.prog 42 = 24 := by kernel_rfl
@[go_sem] theorem pty42 : pty Try.prog 42 = some (false, 1) := by kernel_rfl
@[go_sem] theorem pelem42 : pelem Try.prog 42 = some 3 := by kernel_rfl
@[go_sem] theorem psz43 : psz Try.prog 43 = some 1 := by kernel_rfl
@[go_sem] theorem pby43 : pby Try.prog 43 = 8 := by kernel_rfl
@[go_sem] theorem pty43 : pty Try.prog 43 = some (false, 1) := by kernel_rfl
@[go_sem] theorem psz44 : psz Try.prog 44 = some 1 := by kernel_rfl
@[go_sem] theorem pby44 : pby Try.prog 44 = 8 := by kernel_rfl
@[go_sem] theorem pty44 : pty Try.prog 44 = some (false, 1) := by kernel_rfl
@[go_sem] theorem psz45 : psz Try.prog 45 = some 1 := by kernel_rfl
@[go_sem] theorem pby45 : pby Try.prog 45 = 8 := by kernel_rfl
@[go_sem] theorem pty45 : pty Try.prog 45 = some (false, 1) := by kernel_rfl
@[go_sem] theorem psz46 : psz Try.prog 46 = some 1 := by kernel_rfl
@[go_sem] theorem pby46 : pby Try.prog 46 = 8 := by kernel_rfl
@[go_sem] theorem pty46 : pty Try.prog 46 = some (false, 1) := by kernel_rfl
@[go_sem] theorem psz47 : psz Try.prog 47 = some 1 := by kernel_rfl
@[go_sem] theorem pby47 : pby Try.prog 47 = 8 := by kernel_rfl
@[go_sem] theorem pty47 : pty Try.prog 47 = some (false, 1) := by kernel_rfl
@[go_sem] theorem psz48 : psz Try.prog 48 = some 1 := by kernel_rfl
@[go_sem] theorem pby48 : pby Try.prog 48 = 8 := by kernel_rfl
@[go_sem] theorem pty48 : pty Try.prog 48 = some (false, 1) := by kernel_rfl
@[go_sem] theorem psz49 : psz Try.prog 49 = some 1 := by kernel_rfl
@[go_sem] theorem pby49 : pby Try.prog 49 = 8 := by kernel_rfl
@[go_sem] theorem pty49 : pty Try.prog 49 = some (false, 1) := by kernel_rfl
@[go_sem] theorem psz50 : psz Try.prog 50 = some 1 := by kernel_rfl
@[go_sem] theorem pby50 : pby Try.prog 50 = 8 := by kernel_rfl
@[go_sem] theorem pty50 : pty Try.prog 50 = some (false, 1) := by kernel_rfl
@[go_sem] theorem psz51 : psz Try.prog 51 = some 1 := by kernel_rfl
@[go_sem] theorem pby51 : pby Try.prog 51 = 8 := by kernel_rfl
@[go_sem] theorem pty51 : pty Try.prog 51 = some (false, 1) := by kernel_rfl
@[go_sem] theorem psz52 : psz Try.prog 52 = some 1 := by kernel_rfl
@[go_sem] theorem pby52 : pby Try.prog 52 = 8 := by kernel_rfl
@[go_sem] theorem pty52 : pty Try.prog 52 = some (false, 1) := by kernel_rfl
@[go_sem] theorem psz53 : psz Try.prog 53 = some 1 := by kernel_rfl
@[go_sem] theorem pby53 : pby Try.prog 53 = 8 := by kernel_rfl
@[go_sem] theorem pty53 : pty Try.prog 53 = some (false, 1) := by kernel_rfl
@[go_sem] theorem psz54 : psz Try.prog 54 = some 1 := by kernel_rfl
@[go_sem] theorem pby54 : pby Try.prog 54 = 8 := by kernel_rfl
@[go_sem] theorem pty54 : pty Try.prog 54 = some (false, 1) := by kernel_rfl
@[go_sem] theorem psz55 : psz Try.prog 55 = some 1 := by kernel_rfl
@[go_sem] theorem pby55 : pby Try.prog 55 = 8 := by kernel_rfl
@[go_sem] theorem pty55 : pty Try.prog 55 = some (false, 1) := by kernel_rfl
@[go_sem] theorem psz56 : psz Try.prog 56 = some 1 := by kernel_rfl
@[go_sem] theorem pby56 : pby Try.prog 56 = 8 := by kernel_rfl
@[go_sem] theorem pty56 : pty Try.prog 56 = some (false, 1) := by kernel_rfl
@[go_sem] theorem psz57 : psz Try.prog 57 = some 4 := by kernel_rfl
@[go_sem] theorem pby57 : pby Try.prog 57 = 40 := by kernel_rfl
@[go_sem] theorem pty57 : pty Try.prog 57 = some (true, 4) := by kernel_rfl
@[go_sem] theorem pfld57_0 : pfld Try.prog 57 0 = some (0, 17) := by kernel_rfl
@[go_sem] theorem pfld57_1 : pfld Try.prog 57 1 = some (1, 17) := by kernel_rfl
@[go_sem] theorem pfld57_2 : pfld Try.prog 57 2 = some (2, 17) := by kernel_rfl
@[go_sem] theorem pfld57_3 : pfld Try.prog 57 3 = some (3, 9) := by kernel_rfl
@[go_sem] theorem pplaces57 : pplaces Try.prog 57 = some [(0, 1), (1, 1), (2, 1), (3, 1)] := by kernel_rfl
@[go_sem] theorem psz58 : psz Try.prog 58 = some 4 := by kernel_rfl
@[go_sem] theorem pby58 : pby Try.prog 58 = 40 := by kernel_rfl
@[go_sem] theorem pty58 : pty Try.prog 58 = some (true, 4) := by kernel_rfl
@[go_sem] theorem pfld58_0 : pfld Try.prog 58 0 = some (0, 17) := by kernel_rfl
@[go_sem] theorem pfld58_1 : pfld Try.prog 58 1 = some (1, 17) := by kernel_rfl
@[go_sem] theorem pfld58_2 : pfld Try.prog 58 2 = some (2, 17) := by kernel_rfl
@[go_sem] theorem pfld58_3 : pfld Try.prog 58 3 = some (3, 9) := by kernel_rfl
@[go_sem] theorem pplaces58 : pplaces Try.prog 58 = some [(0, 1), (1, 1), (2, 1), (3, 1)] := by kernel_rfl
@[go_sem] theorem psz59 : psz Try.prog 59 = some 0 := by kernel_rfl
@[go_sem] theorem pby59 : pby Try.prog 59 = 0 := by kernel_rfl
@[go_sem] theorem pty59 : pty Try.prog 59 = some (true, 0) := by kernel_rfl
@[go_sem] theorem parr59 : parr Try.prog 59 = some (0, 16) := by kernel_rfl
@[go_sem] theorem psz60 : psz Try.prog 60 = some 0 := by kernel_rfl
@[go_sem] theorem pby60 : pby Try.prog 60 = 0 := by kernel_rfl
@[go_sem] theorem pty60 : pty Try.prog 60 = some (true, 0) := by kernel_rfl
@[go_sem] theorem pfld60_0 : pfld Try.prog 60 0 = some (0, 59) := by kernel_rfl
@[go_sem] theorem pplaces60 : pplaces Try.prog 60 = some [(0, 0)] := by kernel_rfl
@[go_sem] theorem psz61 : psz Try.prog 61 = some 0 := by kernel_rfl
@[go_sem] theorem pby61 : pby Try.prog 61 = 0 := by kernel_rfl
@[go_sem] theorem pty61 : pty Try.prog 61 = some (true, 0) := by kernel_rfl
@[go_sem] theorem pfld61_0 : pfld Try.prog 61 0 = some (0, 59) := by kernel_rfl
@[go_sem] theorem pplaces61 : pplaces Try.prog 61 = some [(0, 0)] := by kernel_rfl
@[go_sem] theorem psz62 : psz Try.prog 62 = some 1 := by kernel_rfl
@[go_sem] theorem pby62 : pby Try.prog 62 = 8 := by kernel_rfl
@[go_sem] theorem pty62 : pty Try.prog 62 = some (false, 1) := by kernel_rfl
@[go_sem] theorem psz63 : psz Try.prog 63 = some 1 := by kernel_rfl
@[go_sem] theorem pby63 : pby Try.prog 63 = 4 := by kernel_rfl
@[go_sem] theorem pty63 : pty Try.prog 63 = some (false, 1) := by kernel_rfl
@[go_sem] theorem pint63 : pint Try.prog 63 = some .u32 := by kernel_rfl
@[go_sem] theorem psz64 : psz Try.prog 64 = some 1 := by kernel_rfl
@[go_sem] theorem pby64 : pby Try.prog 64 = 1 := by kernel_rfl
@[go_sem] theorem pty64 : pty Try.prog 64 = some (false, 1) := by kernel_rfl
@[go_sem] theorem pint64 : pint Try.prog 64 = some .u8 := by kernel_rfl
@[go_sem] theorem psz65 : psz Try.prog 65 = some 1 := by kernel_rfl
@[go_sem] theorem pby65 : pby Try.prog 65 = 1 := by kernel_rfl
@[go_sem] theorem pty65 : pty Try.prog 65 = some (false, 1) := by kernel_rfl
@[go_sem] theorem pint65 : pint Try.prog 65 = some .u8 := by kernel_rfl
@[go_sem] theorem psz66 : psz Try.prog 66 = some 1 := by kernel_rfl
@[go_sem] theorem pby66 : pby Try.prog 66 = 8 := by kernel_rfl
@[go_sem] theorem pty66 : pty Try.prog 66 = some (false, 1) := by kernel_rfl
@[go_sem] theorem psz67 : psz Try.prog 67 = some 1 := by kernel_rfl
@[go_sem] theorem pby67 : pby Try.prog 67 = 8 := by kernel_rfl
@[go_sem] theorem pty67 : pty Try.prog 67 = some (false, 1) := by kernel_rfl
@[go_sem] theorem psz68 : psz Try.prog 68 = some 1 := by kernel_rfl
@[go_sem] theorem pby68 : pby Try.prog 68 = 4 := by kernel_rfl
@[go_sem] theorem pty68 : pty Try.prog 68 = some (false, 1) := by kernel_rfl
@[go_sem] theorem pint68 : pint Try.prog 68 = some .i32 := by kernel_rfl
@[go_sem] theorem psz69 : psz Try.prog 69 = some 1 := by kernel_rfl
@[go_sem] theorem pby69 : pby Try.prog 69 = 4 := by kernel_rfl
@[go_sem] theorem pty69 : pty Try.prog 69 = some (false, 1) := by kernel_rfl
@[go_sem] theorem pint69 : pint Try.prog 69 = some .i32 := by kernel_rfl
@[go_sem] theorem psz70 : psz Try.prog 70 = some 11 := by kernel_rfl
@[go_sem] theorem pby70 : pby Try.prog 70 = 48 := by kernel_rfl
@[go_sem] theorem pty70 : pty Try.prog 70 = some (true, 11) := by kernel_rfl
@[go_sem] theorem pfld70_0 : pfld Try.prog 70 0 = some (0, 12) := by kernel_rfl
@[go_sem] theorem pfld70_1 : pfld Try.prog 70 1 = some (1, 12) := by kernel_rfl
@[go_sem] theorem pfld70_2 : pfld Try.prog 70 2 = some (2, 63) := by kernel_rfl
@[go_sem] theorem pfld70_3 : pfld Try.prog 70 3 = some (3, 64) := by kernel_rfl
@[go_sem] theorem pfld70_4 : pfld Try.prog 70 4 = some (4, 5) := by kernel_rfl
@[go_sem] theorem pfld70_5 : pfld Try.prog 70 5 = some (5, 5) := by kernel_rfl
@[go_sem] theorem pfld70_6 : pfld Try.prog 70 6 = some (6, 65) := by kernel_rfl
@[go_sem] theorem pfld70_7 : pfld Try.prog 70 7 = some (7, 66) := by kernel_rfl
@[go_sem] theorem pfld70_8 : pfld Try.prog 70 8 = some (8, 67) := by kernel_rfl
@[go_sem] theorem pfld70_9 : pfld Try.prog 70 9 = some (9, 68) := by kernel_rfl
@[go_sem] theorem pfld70_10 : pfld Try.prog 70 10 = some (10, 69) := by kernel_rfl
@[go_sem] theorem pplaces70 : pplaces Try.prog 70 = some [(0, 1), (1, 1), (2, 1), (3, 1), (4, 1), (5, 1), (6, 1), (7, 1), (8, 1), (9, 1), (10, 1)] := by kernel_rfl
@[go_sem] theorem psz71 : psz Try.prog 71 = some 11 := by kernel_rfl
@[go_sem] theorem pby71 : pby Try.prog 71 = 48 := by kernel_rfl
@[go_sem] theorem pty71 : pty Try.prog 71 = some (true, 11) := by kernel_rfl
@[go_sem] theorem pfld71_0 : pfld Try.prog 71 0 = some (0, 12) := by kernel_rfl
@[go_sem] theorem pfld71_1 : pfld Try.prog 71 1 = some (1, 12) := by kernel_rfl
@[go_sem] theorem pfld71_2 : pfld Try.prog 71 2 = some (2, 63) := by kernel_rfl
@[go_sem] theorem pfld71_3 : pfld Try.prog 71 3 = some (3, 64) := by kernel_rfl
@[go_sem] theorem pfld71_4 : pfld Try.prog 71 4 = some (4, 5) := by kernel_rfl
@[go_sem] theorem pfld71_5 : pfld Try.prog 71 5 = some (5, 5) := by kernel_rfl
@[go_sem] theorem pfld71_6 : pfld Try.prog 71 6 = some (6, 65) := by kernel_rfl
@[go_sem] theorem pfld71_7 : pfld Try.prog 71 7 = some (7, 66) := by kernel_rfl
@[go_sem] theorem pfld71_8 : pfld Try.prog 71 8 = some (8, 67) := by kernel_rfl
@[go_sem] theorem pfld71_9 : pfld Try.prog 71 9 = some (9, 68) := by kernel_rfl
@[go_sem] theorem pfld71_10 : pfld Try.prog 71 10 = some (10, 69) := by kernel_rfl
@[go_sem] theorem pplaces71 : pplaces Try.prog 71 = some [(0, 1), (1, 1), (2, 1), (3, 1), (4, 1), (5, 1), (6, 1), (7, 1), (8, 1), (9, 1), (10, 1)] := by kernel_rfl
@[go_sem] theorem psz72 : psz Try.prog 72 = some 1 := by kernel_rfl
@[go_sem] theorem pby72 : pby Try.prog 72 = 8 := by kernel_rfl
@[go_sem] theorem pty72 : pty Try.prog 72 = some (false, 1) := by kernel_rfl

def ztab : List (Nat × List PV) := [
  (3, [.int .i64 0]),
  (5, [.int .u8 0]),
  (24, [.nil, .int .i64 0]),
  (27, [.int .i64 0, .nil, .bool false]),
  (48, [.nilf])]
def Z : Zeros := ofTable ztab
theorem hZ : ZOk Try.prog Z := ZOk.of_table ztab (by kernel_rfl)
@[go_sem] theorem Z3 : Z 3 = [.int .i64 0] := rfl
@[go_sem] theorem Z5 : Z 5 = [.int .u8 0] := rfl
@[go_sem] theorem Z24 : Z 24 = [.nil, .int .i64 0] := rfl
@[go_sem] theorem Z27 : Z 27 = [.int .i64 0, .nil, .bool false] := rfl
@[go_sem] theorem Z48 : Z 48 = [.nilf] := rfl
theorem hm : Try.prog.follows .mixedOrders = true := by kernel_rfl

end Go.Proofs.Bo

namespace Go.Proofs.Bo
open Go Go.Abs
attribute [local irreducible] AWP vops vopsD

structure Gram where
  to : Int
  bytes : List UInt8
  harmed : Bool
  deriving DecidableEq
structure Bag where
  grams : List Gram
  lost : Int
  deriving DecidableEq

def eB (b : UInt8) : List PV := [.int .u8 b.toNat]
def eGram (g : Gram) : List PV := [.int .i64 g.to, .lst 1 (g.bytes.map eB), .bool g.harmed]
def eBag (b : Bag) : List PV := [.lst 3 (b.grams.map eGram), .int .i64 b.lost]

theorem eB_flats (l : List UInt8) : (l.map eB).all flats = true := by simp [eB, flats, flat]

@[go_sem] theorem u8s_eB (l : List UInt8) : u8s (l.map eB) = some (l.map fun b => (b.toNat : Int)) := by
  induction l with
  | nil => rfl
  | cons b l ih => simp only [List.map_cons, eB, u8s]; rw [show (List.map eB l) = List.map eB l from rfl, ih]; rfl

theorem mkStr_toList (l : List UInt8) : (mkStr (l.map fun b => (b.toNat : Int))).toList = l := by
  have h : ∀ (l : List UInt8) (s : ByteArray), (l.map fun b => (b.toNat : Int)).foldl (fun r n => r.push (UInt8.ofNat n.toNat)) s = ⟨s.data ++ l.toArray⟩ := by
    intro l
    induction l with
    | nil => intro s; simp
    | cons b l ih =>
      intro s
      simp only [List.map_cons, List.foldl_cons, ih]
      simp [ByteArray.push]
  unfold mkStr
  rw [h]
  simp [ByteArray.toList_eq]
end Go.Proofs.Bo
