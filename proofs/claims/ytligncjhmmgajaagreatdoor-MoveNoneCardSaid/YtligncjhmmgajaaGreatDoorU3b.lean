/-
 PROVED: the calls' runs. No condition.
-/
import Derived.Test.YtligncjhmmgajaaGreatDoorT1
set_option linter.unusedVariables false
set_option maxRecDepth 1000000
namespace C3
open Go Go.X Go.Proofs Cm
theorem qGv:ek hints A0 125 qIt:=by decide +kernel
theorem qGt:ek hints A1 264 qIr:=by decide +kernel
theorem jCm:ek hints A2 51 qAs:=by decide +kernel
theorem jCj:ek hints A2 51 qAp:=by decide +kernel
theorem jCg:ek hints A2 51 qAm:=by decide +kernel
theorem qWm:ek hints A3 145 jBc:=by decide +kernel
theorem qWj:ek hints A3 145 jA9:=by decide +kernel
theorem jB7:ek hints A4 91 qAd:=by decide +kernel
theorem qJ1:ek hints A6 22 qS3:=by decide +kernel
theorem qWg:ek hints A7 178 jA6:=by decide +kernel
theorem qWd:ek hints A7 178 jA3:=by decide +kernel
theorem jB9:ek hints A9 68 qAf:=by decide +kernel
theorem qA9:ek hints A11 38 D38_2:=by decide +kernel
theorem qA5:ek hints A11 38 D38_5:=by decide +kernel
theorem jCc:ek hints A12 55 qAi:=by decide +kernel
theorem qJ0:ek hints A13 23 qS2:=by decide +kernel
theorem qL1:ek hints B0 125 qPe:=by decide +kernel
theorem qLy:ek hints B0 125 qPb:=by decide +kernel
theorem qLv:ek hints B0 125 qO8:=by decide +kernel
theorem qH2:ek hints B0 125 qIp:=by decide +kernel
theorem qHz:ek hints B0 125 qIm:=by decide +kernel
theorem qRe:ek hints B1 38 jA1:=by decide +kernel
theorem qRb:ek hints B1 38 qMp:=by decide +kernel
theorem qQ8:ek hints B1 38 JA:=by decide +kernel
theorem qLt:ek hints B1 38 qO6:=by decide +kernel
theorem qLq:ek hints B1 38 qFq:=by decide +kernel
theorem qLn:ek hints B1 38 qO4:=by decide +kernel
theorem qRp:ek hints B0 30 qMz:=by decide +kernel
theorem qRm:ek hints B0 30 qMx:=by decide +kernel
theorem qRi:ek hints B0 34 qMt:=by decide +kernel
theorem qQ3:ek hints B0 71 qMm:=by decide +kernel
theorem qQ5:ek hints B0 68 qMo:=by decide +kernel
theorem qRt:ek qKb B2 14 qIk:=by decide +kernel
theorem qRr:ek qKb B2 14 qIi:=by decide +kernel
end C3
