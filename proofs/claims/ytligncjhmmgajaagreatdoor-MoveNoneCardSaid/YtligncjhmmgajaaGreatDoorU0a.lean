/-
 PROVED: the calls' runs. No condition.
-/
import Derived.Test.YtligncjhmmgajaaGreatDoorT0
set_option linter.unusedVariables false
set_option maxRecDepth 1000000
namespace C0
open Go Go.X Go.Proofs Cm
theorem qGw:ek hints A0 125 qIu:=by decide +kernel
theorem okD125_2:ek hints A0 125 D125_2:=by decide +kernel
theorem okD125_4:ek hints A0 125 D125_4:=by decide +kernel
theorem okD125_6:ek hints A0 125 D125_6:=by decide +kernel
theorem qGu:ek hints A1 264 qIs:=by decide +kernel
theorem qJ1:ek hints A2 22 qS3:=by decide +kernel
theorem qJ0:ek hints A3 23 qS2:=by decide +kernel
theorem qL2:ek hints B0 125 qPf:=by decide +kernel
theorem qL0:ek hints B0 125 qPd:=by decide +kernel
theorem qLy:ek hints B0 125 qPb:=by decide +kernel
theorem qLw:ek hints B0 125 qO9:=by decide +kernel
theorem qLu:ek hints B0 125 qO7:=by decide +kernel
theorem qH2:ek hints B0 125 qIp:=by decide +kernel
theorem qH0:ek hints B0 125 qIn:=by decide +kernel
theorem qHy:ek hints B0 125 qIl:=by decide +kernel
theorem qRf:ek hints B1 38 jA2:=by decide +kernel
theorem qRd:ek hints B1 38 qMq:=by decide +kernel
theorem qRb:ek hints B1 38 qMp:=by decide +kernel
theorem qQ9:ek hints B1 38 jAz:=by decide +kernel
theorem qQ7:ek hints B1 38 jAy:=by decide +kernel
theorem qLt:ek hints B1 38 qO6:=by decide +kernel
theorem qLr:ek hints B1 38 qC:=by decide +kernel
theorem qLp:ek hints B1 38 qFp:=by decide +kernel
theorem qLn:ek hints B1 38 qO4:=by decide +kernel
theorem qRp:ek hints B0 30 qMz:=by decide +kernel
theorem qRn:ek hints B0 30 JC:=by decide +kernel
theorem qRl:ek hints B0 30 qMw:=by decide +kernel
theorem qRi:ek hints B0 34 qMt:=by decide +kernel
theorem qRg:ek hints B0 34 qMr:=by decide +kernel
theorem qRj:ek hints B0 32 qMu:=by decide +kernel
theorem qQ4:ek hints B0 69 qMn:=by decide +kernel
theorem qRt:ek qKb B2 14 qIk:=by decide +kernel
theorem qRr:ek qKb B2 14 qIi:=by decide +kernel
end C0
