/-
 PROVED: the calls' runs. No condition.
-/
import Derived.Test.YtligncjhmmgajaaGreatDoorT1
set_option linter.unusedVariables false
set_option maxRecDepth 1000000
namespace C3
open Go Go.X Go.Proofs Cm
theorem qGw:ek hints A0 125 qIu:=by decide +kernel
theorem qGu:ek hints A1 264 qIs:=by decide +kernel
theorem jCn:ek hints A2 51 qAt:=by decide +kernel
theorem jCk:ek hints A2 51 qAq:=by decide +kernel
theorem jCh:ek hints A2 51 qAn:=by decide +kernel
theorem qWn:ek hints A3 145 jBd:=by decide +kernel
theorem qWk:ek hints A3 145 jBa:=by decide +kernel
theorem okD145_7:ek hints A3 145 D145_7:=by decide +kernel
theorem jB8:ek hints A4 91 qAe:=by decide +kernel
theorem jCe:ek hints A5 54 qAk:=by decide +kernel
theorem qWh:ek hints A7 178 jA7:=by decide +kernel
theorem qWe:ek hints A7 178 jA4:=by decide +kernel
theorem jCa:ek hints A9 68 qAg:=by decide +kernel
theorem jCp:ek hints A10 24 qAv:=by decide +kernel
theorem qBa:ek hints A11 38 D38_1:=by decide +kernel
theorem qA7:ek hints A11 38 D38_4:=by decide +kernel
theorem jCd:ek hints A12 55 qAj:=by decide +kernel
theorem qL2:ek hints B0 125 qPf:=by decide +kernel
theorem qLz:ek hints B0 125 qPc:=by decide +kernel
theorem qLw:ek hints B0 125 qO9:=by decide +kernel
theorem qH3:ek hints B0 125 qIq:=by decide +kernel
theorem qH0:ek hints B0 125 qIn:=by decide +kernel
theorem qZa:ek hints A0 7 E7_0:=by decide +kernel
theorem qRf:ek hints B1 38 jA2:=by decide +kernel
theorem qRc:ek hints B1 38 JB:=by decide +kernel
theorem qQ9:ek hints B1 38 jAz:=by decide +kernel
theorem qQ6:ek hints B1 38 jAx:=by decide +kernel
theorem qLr:ek hints B1 38 qC:=by decide +kernel
theorem qLo:ek hints B1 38 qO5:=by decide +kernel
theorem qRn:ek hints B0 30 JC:=by decide +kernel
theorem qRk:ek hints B0 30 qMv:=by decide +kernel
theorem qRg:ek hints B0 34 qMr:=by decide +kernel
theorem qRj:ek hints B0 32 qMu:=by decide +kernel
theorem qRs:ek qKb B2 14 qIj:=by decide +kernel
end C3
