/-
 PROVED: the calls' runs. No condition.
-/
import Derived.Test.YtligncjhmmgajaaGreatDoorT0
set_option linter.unusedVariables false
set_option maxRecDepth 1000000
namespace C2
open Go Go.X Go.Proofs Cm
theorem jCl:ek hints A2 51 qAr:=by decide +kernel
theorem jCh:ek hints A2 51 qAn:=by decide +kernel
theorem qWm:ek hints A3 145 jBc:=by decide +kernel
theorem qWi:ek hints A3 145 jA8:=by decide +kernel
theorem qWg:ek hints A7 178 jA6:=by decide +kernel
theorem qWd:ek hints A7 178 jA3:=by decide +kernel
theorem jB9:ek hints A9 68 qAf:=by decide +kernel
theorem okD128_2:ek hints A11 128 D128_2:=by decide +kernel
theorem okD128_6:ek hints A11 128 D128_6:=by decide +kernel
theorem qA9:ek hints A12 38 D38_2:=by decide +kernel
theorem qA4:ek hints A12 38 D38_6:=by decide +kernel
theorem jCc:ek hints A13 55 qAi:=by decide +kernel
theorem qL3:ek hints B0 125 qPg:=by decide +kernel
theorem qLz:ek hints B0 125 qPc:=by decide +kernel
theorem qLv:ek hints B0 125 qO8:=by decide +kernel
theorem qH1:ek hints B0 125 qIo:=by decide +kernel
theorem okE128_3:ek hints B0 128 E128_3:=by decide +kernel
theorem okE128_7:ek hints B0 128 E128_7:=by decide +kernel
theorem okE128_11:ek hints B0 128 E128_11:=by decide +kernel
theorem okE128_15:ek hints B0 128 E128_15:=by decide +kernel
theorem qZa:ek hints A0 7 E7_0:=by decide +kernel
theorem qRc:ek hints B2 38 JB:=by decide +kernel
theorem qQ8:ek hints B2 38 JA:=by decide +kernel
theorem qLs:ek hints B2 38 qFr:=by decide +kernel
theorem qLo:ek hints B2 38 qO5:=by decide +kernel
theorem qRm:ek hints B0 30 qMx:=by decide +kernel
theorem qRh:ek hints B0 34 qMs:=by decide +kernel
theorem qQ5:ek hints B0 68 qMo:=by decide +kernel
theorem qRt:ek qKb B3 14 qIk:=by decide +kernel
theorem qRq:ek qKb B3 14 qIh:=by decide +kernel
end C2
