/-
 PROVED: the calls' runs. No condition.
-/
import Derived.Test.YtligncjhmmgajaaGreatDoorT0
set_option linter.unusedVariables false
set_option maxRecDepth 1000000
namespace C1
open Go Go.X Go.Proofs Cm
theorem jCn:ek hints A2 51 qAt:=by decide +kernel
theorem jCl:ek hints A2 51 qAr:=by decide +kernel
theorem jCj:ek hints A2 51 qAp:=by decide +kernel
theorem jCh:ek hints A2 51 qAn:=by decide +kernel
theorem qWo:ek hints A3 145 jBe:=by decide +kernel
theorem qWm:ek hints A3 145 jBc:=by decide +kernel
theorem qWk:ek hints A3 145 jBa:=by decide +kernel
theorem qWi:ek hints A3 145 jA8:=by decide +kernel
theorem jB7:ek hints A4 91 qAd:=by decide +kernel
theorem jCe:ek hints A5 54 qAk:=by decide +kernel
theorem qWf:ek hints A7 178 jA5:=by decide +kernel
theorem qWd:ek hints A7 178 jA3:=by decide +kernel
theorem qWp:ek hints A8 115 jBf:=by decide +kernel
theorem jB9:ek hints A9 68 qAf:=by decide +kernel
theorem jCd:ek hints A11 55 qAj:=by decide +kernel
theorem jCb:ek hints A11 55 qAh:=by decide +kernel
theorem qL3:ek hints B0 125 qPg:=by decide +kernel
theorem qL1:ek hints B0 125 qPe:=by decide +kernel
theorem qLz:ek hints B0 125 qPc:=by decide +kernel
theorem qLx:ek hints B0 125 qPa:=by decide +kernel
theorem qLv:ek hints B0 125 qO8:=by decide +kernel
theorem qH3:ek hints B0 125 qIq:=by decide +kernel
theorem qH1:ek hints B0 125 qIo:=by decide +kernel
theorem qHz:ek hints B0 125 qIm:=by decide +kernel
theorem qZa:ek hints A0 7 E7_0:=by decide +kernel
theorem qZb:ek hints A13 6 E6_0:=by decide +kernel
theorem qRe:ek hints B1 38 jA1:=by decide +kernel
theorem qRc:ek hints B1 38 JB:=by decide +kernel
theorem qRa:ek hints B1 38 jA0:=by decide +kernel
theorem qQ8:ek hints B1 38 JA:=by decide +kernel
theorem qQ6:ek hints B1 38 jAx:=by decide +kernel
theorem qLs:ek hints B1 38 qFr:=by decide +kernel
theorem qLq:ek hints B1 38 qFq:=by decide +kernel
theorem qLo:ek hints B1 38 qO5:=by decide +kernel
theorem qLm:ek hints B1 38 qO3:=by decide +kernel
theorem qRo:ek hints B0 30 qMy:=by decide +kernel
theorem qRm:ek hints B0 30 qMx:=by decide +kernel
theorem qRk:ek hints B0 30 qMv:=by decide +kernel
theorem qRh:ek hints B0 34 qMs:=by decide +kernel
theorem qQ3:ek hints B0 71 qMm:=by decide +kernel
theorem qQ5:ek hints B0 68 qMo:=by decide +kernel
theorem qRs:ek qKb B2 14 qIj:=by decide +kernel
theorem qRq:ek qKb B2 14 qIh:=by decide +kernel
end C1
