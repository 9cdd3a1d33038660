/-
 PROVED: the calls' runs. No condition.
-/
import Derived.Test.YtligncjhmmgajaaGreatDoorT0
set_option linter.unusedVariables false
set_option maxRecDepth 1000000
namespace C2
open Go Go.X Go.Proofs Cm
theorem jCm:ek hints A2 51 qAs:=by decide +kernel
theorem jCi:ek hints A2 51 qAo:=by decide +kernel
theorem qWn:ek hints A3 145 jBd:=by decide +kernel
theorem qWj:ek hints A3 145 jA9:=by decide +kernel
theorem qJ1:ek hints A6 22 qS3:=by decide +kernel
theorem qWh:ek hints A7 178 jA7:=by decide +kernel
theorem qWe:ek hints A7 178 jA4:=by decide +kernel
theorem jCa:ek hints A9 68 qAg:=by decide +kernel
theorem jCp:ek hints A10 24 qAv:=by decide +kernel
theorem okD128_1:ek hints A11 128 D128_1:=by decide +kernel
theorem okD128_5:ek hints A11 128 D128_5:=by decide +kernel
theorem qBa:ek hints A12 38 D38_1:=by decide +kernel
theorem qA5:ek hints A12 38 D38_5:=by decide +kernel
theorem jCd:ek hints A13 55 qAj:=by decide +kernel
theorem qL0:ek hints B0 125 qPd:=by decide +kernel
theorem qLw:ek hints B0 125 qO9:=by decide +kernel
theorem qH2:ek hints B0 125 qIp:=by decide +kernel
theorem qHy:ek hints B0 125 qIl:=by decide +kernel
theorem okE128_2:ek hints B0 128 E128_2:=by decide +kernel
theorem okE128_6:ek hints B0 128 E128_6:=by decide +kernel
theorem okE128_10:ek hints B0 128 E128_10:=by decide +kernel
theorem okE128_14:ek hints B0 128 E128_14:=by decide +kernel
theorem qRd:ek hints B2 38 qMq:=by decide +kernel
theorem qQ9:ek hints B2 38 jAz:=by decide +kernel
theorem qLt:ek hints B2 38 qO6:=by decide +kernel
theorem qLp:ek hints B2 38 qFp:=by decide +kernel
theorem qRn:ek hints B0 30 JC:=by decide +kernel
theorem qRi:ek hints B0 34 qMt:=by decide +kernel
theorem qRj:ek hints B0 32 qMu:=by decide +kernel
theorem qQ4:ek hints B0 69 qMn:=by decide +kernel
theorem qRr:ek qKb B3 14 qIi:=by decide +kernel
end C2
