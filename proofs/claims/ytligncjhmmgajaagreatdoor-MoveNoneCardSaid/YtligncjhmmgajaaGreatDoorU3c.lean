/-
 PROVED: the calls' runs. No condition.
-/
import Derived.Test.YtligncjhmmgajaaGreatDoorT1
set_option linter.unusedVariables false
set_option maxRecDepth 1000000
namespace C3
open Go Go.X Go.Proofs Cm
theorem jCo:ek hints A2 51 qAu:=by decide +kernel
theorem jCl:ek hints A2 51 qAr:=by decide +kernel
theorem jCi:ek hints A2 51 qAo:=by decide +kernel
theorem qWo:ek hints A3 145 jBe:=by decide +kernel
theorem qWl:ek hints A3 145 jBb:=by decide +kernel
theorem qWi:ek hints A3 145 jA8:=by decide +kernel
theorem jCf:ek hints A5 54 qAl:=by decide +kernel
theorem qWf:ek hints A7 178 jA5:=by decide +kernel
theorem qWq:ek hints A8 115 jBg:=by decide +kernel
theorem qWp:ek hints A8 115 jBf:=by decide +kernel
theorem qBb:ek hints A11 38 D38_0:=by decide +kernel
theorem qA8:ek hints A11 38 D38_3:=by decide +kernel
theorem qA4:ek hints A11 38 D38_6:=by decide +kernel
theorem jCb:ek hints A12 55 qAh:=by decide +kernel
theorem qL3:ek hints B0 125 qPg:=by decide +kernel
theorem qL0:ek hints B0 125 qPd:=by decide +kernel
theorem qLx:ek hints B0 125 qPa:=by decide +kernel
theorem qLu:ek hints B0 125 qO7:=by decide +kernel
theorem qH1:ek hints B0 125 qIo:=by decide +kernel
theorem qHy:ek hints B0 125 qIl:=by decide +kernel
theorem qZb:ek hints A14 6 E6_0:=by decide +kernel
theorem qRd:ek hints B1 38 qMq:=by decide +kernel
theorem qRa:ek hints B1 38 jA0:=by decide +kernel
theorem qQ7:ek hints B1 38 jAy:=by decide +kernel
theorem qLs:ek hints B1 38 qFr:=by decide +kernel
theorem qLp:ek hints B1 38 qFp:=by decide +kernel
theorem qLm:ek hints B1 38 qO3:=by decide +kernel
theorem qRo:ek hints B0 30 qMy:=by decide +kernel
theorem qRl:ek hints B0 30 qMw:=by decide +kernel
theorem qRh:ek hints B0 34 qMs:=by decide +kernel
theorem qQ4:ek hints B0 69 qMn:=by decide +kernel
theorem qRq:ek qKb B2 14 qIh:=by decide +kernel
end C3
