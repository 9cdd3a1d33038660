/-
 PROVED: the calls' runs. No condition.
-/
import Derived.Test.YtligncjhmmgajaaGreatDoorT0
set_option linter.unusedVariables false
set_option maxRecDepth 1000000
namespace C1
open Go Go.X Go.Proofs Cm
theorem qGw:ek hints A0 125 qIu:=by decide +kernel
theorem qGv:ek hints A0 125 qIt:=by decide +kernel
theorem qGu:ek hints A1 264 qIs:=by decide +kernel
theorem qGt:ek hints A1 264 qIr:=by decide +kernel
theorem jCo:ek hints A2 51 qAu:=by decide +kernel
theorem jCm:ek hints A2 51 qAs:=by decide +kernel
theorem jCk:ek hints A2 51 qAq:=by decide +kernel
theorem jCi:ek hints A2 51 qAo:=by decide +kernel
theorem jCg:ek hints A2 51 qAm:=by decide +kernel
theorem qWn:ek hints A3 145 jBd:=by decide +kernel
theorem qWl:ek hints A3 145 jBb:=by decide +kernel
theorem qWj:ek hints A3 145 jA9:=by decide +kernel
theorem jB8:ek hints A4 91 qAe:=by decide +kernel
theorem jCf:ek hints A5 54 qAl:=by decide +kernel
theorem qJ1:ek hints A6 22 qS3:=by decide +kernel
theorem qWh:ek hints A7 178 jA7:=by decide +kernel
theorem qWg:ek hints A7 178 jA6:=by decide +kernel
theorem qWe:ek hints A7 178 jA4:=by decide +kernel
theorem qWq:ek hints A8 115 jBg:=by decide +kernel
theorem jCa:ek hints A9 68 qAg:=by decide +kernel
theorem jCp:ek hints A10 24 qAv:=by decide +kernel
theorem jCc:ek hints A11 55 qAi:=by decide +kernel
theorem qJ0:ek hints A12 23 qS2:=by decide +kernel
theorem qL2:ek hints B0 125 qPf:=by decide +kernel
theorem qL0:ek hints B0 125 qPd:=by decide +kernel
theorem qLy:ek hints B0 125 qPb:=by decide +kernel
theorem qLw:ek hints B0 125 qO9:=by decide +kernel
theorem qLu:ek hints B0 125 qO7:=by decide +kernel
theorem qH2:ek hints B0 125 qIp:=by decide +kernel
theorem qH0:ek hints B0 125 qIn:=by decide +kernel
theorem qHy:ek hints B0 125 qIl:=by decide +kernel
theorem qRf:ek hints B1 38 jA2:=by decide +kernel
theorem qRd:ek hints B1 38 qMq:=by decide +kernel
theorem qRb:ek hints B1 38 qMp:=by decide +kernel
theorem qQ9:ek hints B1 38 jAz:=by decide +kernel
theorem qQ7:ek hints B1 38 jAy:=by decide +kernel
theorem qLt:ek hints B1 38 qO6:=by decide +kernel
theorem qLr:ek hints B1 38 qC:=by decide +kernel
theorem qLp:ek hints B1 38 qFp:=by decide +kernel
theorem qLn:ek hints B1 38 qO4:=by decide +kernel
theorem qRp:ek hints B0 30 qMz:=by decide +kernel
theorem qRn:ek hints B0 30 JC:=by decide +kernel
theorem qRl:ek hints B0 30 qMw:=by decide +kernel
theorem qRi:ek hints B0 34 qMt:=by decide +kernel
theorem qRg:ek hints B0 34 qMr:=by decide +kernel
theorem qRj:ek hints B0 32 qMu:=by decide +kernel
theorem qQ4:ek hints B0 69 qMn:=by decide +kernel
theorem qRt:ek qKb B2 14 qIk:=by decide +kernel
theorem qRr:ek qKb B2 14 qIi:=by decide +kernel
end C1
