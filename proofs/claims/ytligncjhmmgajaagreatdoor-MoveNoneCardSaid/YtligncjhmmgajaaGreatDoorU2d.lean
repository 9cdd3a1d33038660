/-
 PROVED: the calls' runs. No condition.
-/
import Derived.Test.YtligncjhmmgajaaGreatDoorT0
set_option linter.unusedVariables false
set_option maxRecDepth 1000000
namespace C2
open Go Go.X Go.Proofs Cm
theorem qGu:ek hints A1 264 qIs:=by decide +kernel
theorem jCn:ek hints A2 51 qAt:=by decide +kernel
theorem jCj:ek hints A2 51 qAp:=by decide +kernel
theorem qWo:ek hints A3 145 jBe:=by decide +kernel
theorem qWk:ek hints A3 145 jBa:=by decide +kernel
theorem jB8:ek hints A4 91 qAe:=by decide +kernel
theorem jCf:ek hints A5 54 qAl:=by decide +kernel
theorem qWf:ek hints A7 178 jA5:=by decide +kernel
theorem qWq:ek hints A8 115 jBg:=by decide +kernel
theorem qWp:ek hints A8 115 jBf:=by decide +kernel
theorem okD128_3:ek hints A11 128 D128_3:=by decide +kernel
theorem qBb:ek hints A12 38 D38_0:=by decide +kernel
theorem qA7:ek hints A12 38 D38_4:=by decide +kernel
theorem jCb:ek hints A13 55 qAh:=by decide +kernel
theorem qL2:ek hints B0 125 qPf:=by decide +kernel
theorem qLy:ek hints B0 125 qPb:=by decide +kernel
theorem qLu:ek hints B0 125 qO7:=by decide +kernel
theorem qH0:ek hints B0 125 qIn:=by decide +kernel
theorem okE128_0:ek hints B0 128 E128_0:=by decide +kernel
theorem okE128_4:ek hints B0 128 E128_4:=by decide +kernel
theorem okE128_8:ek hints B0 128 E128_8:=by decide +kernel
theorem okE128_12:ek hints B0 128 E128_12:=by decide +kernel
theorem okE128_16:ek hints B0 128 E128_16:=by decide +kernel
theorem qZb:ek hints A15 6 E6_0:=by decide +kernel
theorem qRe:ek hints B2 38 jA1:=by decide +kernel
theorem qRa:ek hints B2 38 jA0:=by decide +kernel
theorem qQ6:ek hints B2 38 jAx:=by decide +kernel
theorem qLq:ek hints B2 38 qFq:=by decide +kernel
theorem qLm:ek hints B2 38 qO3:=by decide +kernel
theorem qRp:ek hints B0 30 qMz:=by decide +kernel
theorem qRl:ek hints B0 30 qMw:=by decide +kernel
theorem qRg:ek hints B0 34 qMr:=by decide +kernel
end C2
