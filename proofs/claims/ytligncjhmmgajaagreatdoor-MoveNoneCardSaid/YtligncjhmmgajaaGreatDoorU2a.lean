/-
 PROVED: the calls' runs. No condition.
-/
import Derived.Test.YtligncjhmmgajaaGreatDoorT0
set_option linter.unusedVariables false
set_option maxRecDepth 1000000
namespace C2
open Go Go.X Go.Proofs Cm
theorem qGw:ek hints A0 125 qIu:=by decide +kernel
theorem qGv:ek hints A0 125 qIt:=by decide +kernel
theorem qGt:ek hints A1 264 qIr:=by decide +kernel
theorem jCo:ek hints A2 51 qAu:=by decide +kernel
theorem jCk:ek hints A2 51 qAq:=by decide +kernel
theorem jCg:ek hints A2 51 qAm:=by decide +kernel
theorem qWl:ek hints A3 145 jBb:=by decide +kernel
theorem jB7:ek hints A4 91 qAd:=by decide +kernel
theorem jCe:ek hints A5 54 qAk:=by decide +kernel
theorem okD128_0:ek hints A11 128 D128_0:=by decide +kernel
theorem okD128_4:ek hints A11 128 D128_4:=by decide +kernel
theorem qA8:ek hints A12 38 D38_3:=by decide +kernel
theorem qJ0:ek hints A14 23 qS2:=by decide +kernel
theorem qL1:ek hints B0 125 qPe:=by decide +kernel
theorem qLx:ek hints B0 125 qPa:=by decide +kernel
theorem qH3:ek hints B0 125 qIq:=by decide +kernel
theorem qHz:ek hints B0 125 qIm:=by decide +kernel
theorem okE128_1:ek hints B0 128 E128_1:=by decide +kernel
theorem okE128_5:ek hints B0 128 E128_5:=by decide +kernel
theorem okE128_9:ek hints B0 128 E128_9:=by decide +kernel
theorem okE128_13:ek hints B0 128 E128_13:=by decide +kernel
theorem okE128_17:ek hints B0 128 E128_17:=by decide +kernel
theorem qRf:ek hints B2 38 jA2:=by decide +kernel
theorem qRb:ek hints B2 38 qMp:=by decide +kernel
theorem qQ7:ek hints B2 38 jAy:=by decide +kernel
theorem qLr:ek hints B2 38 qC:=by decide +kernel
theorem qLn:ek hints B2 38 qO4:=by decide +kernel
theorem qRo:ek hints B0 30 qMy:=by decide +kernel
theorem qRk:ek hints B0 30 qMv:=by decide +kernel
theorem qQ3:ek hints B0 71 qMm:=by decide +kernel
theorem qRs:ek qKb B3 14 qIj:=by decide +kernel
end C2
