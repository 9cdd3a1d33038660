/-
 PROVED: the tables serve as summaries;awake answers true. Conditions: the world has the program's variables,and the handle of errors.As.
-/
import Derived.Test.YtligncjhmmgajaaGreatDoorR0
import Derived.Test.YtligncjhmmgajaaGreatDoorU0a
import Derived.Test.YtligncjhmmgajaaGreatDoorU0b
import Derived.Test.YtligncjhmmgajaaGreatDoorU1a
import Derived.Test.YtligncjhmmgajaaGreatDoorU1b
import Derived.Test.YtligncjhmmgajaaGreatDoorU2a
import Derived.Test.YtligncjhmmgajaaGreatDoorU2b
import Derived.Test.YtligncjhmmgajaaGreatDoorU2c
import Derived.Test.YtligncjhmmgajaaGreatDoorU2d
import Derived.Test.YtligncjhmmgajaaGreatDoorU3a
import Derived.Test.YtligncjhmmgajaaGreatDoorU3b
import Derived.Test.YtligncjhmmgajaaGreatDoorU3c
import Derived.Test.YtligncjhmmgajaaGreatDoorUwa
set_option linter.unusedVariables false
set_option maxRecDepth 1000000
noncomputable section
namespace Cm
open Go Go.X Go.Proofs MnN
abbrev gS (W:World) (s:qm):Prop:=Q7 Tryz.prog W s
def SX (E7 E6 E38 E30 E34 E32 E71 E68 E69 E14:List Ent):qm:=qb (upN [980,1200,1310,1600]) 14 (J9 14 E14 (qb (upN [1111]) 69 (J9 69 E69 (qb (upN [1101]) 68 (J9 68 E68 (qb (upN [1040]) 71 (J9 71 E71 (qb (upN [1100]) 32 (J9 32 E32 (qb (upN [970,1030,1300]) 34 (J9 34 E34 (orX Tryz.prog 30 (qHe E30 (upN [1000,1400])) (λ_=>none) 5000 5 (qb (upN [1000,1400]) 30 (J9 30 E30 (qb (upN [965,1050,1080,1450,1480]) 38 (J9 38 E38 (qb (upN [200]) 6 (J9 6 E6 (qb (upN [100]) 7 (J9 7 E7 (asX 36 hitN (qPi 4))))))))))))))))))))))
def SZ (E7 E6 E38 E30 E34 E32 E71 E68 E69 E14:List Ent):QC:=ql (upN [980,1200,1310,1600]) 14 (Jv 14 E14 (ql (upN [1111]) 69 (Jv 69 E69 (ql (upN [1101]) 68 (Jv 68 E68 (ql (upN [1040]) 71 (Jv 71 E71 (ql (upN [1100]) 32 (Jv 32 E32 (ql (upN [970,1030,1300]) 34 (Jv 34 E34 (orZ Tryz.prog 30 (qHe E30 (upN [1000,1400])) (λ_=>none) 5000 5 (ql (upN [1000,1400]) 30 (Jv 30 E30 (ql (upN [965,1050,1080,1450,1480]) 38 (Jv 38 E38 (ql (upN [200]) 6 (Jv 6 E6 (ql (upN [100]) 7 (Jv 7 E7 (asZ 36 hitN (jF7 4))))))))))))))))))))))
theorem fitG (E7 E6 E38 E30 E34 E32 E71 E68 E69 E14:List Ent):jH (SZ E7 E6 E38 E30 E34 E32 E71 E68 E69 E14) (SX E7 E6 E38 E30 E34 E32 E71 E68 E69 E14):=(Qm (Qq (Qm (Qq (Qm (Qq (Qm (Qq (Qm (Qq (Qm (Qq (qQp (Qm (Qq (Qm (Qq (Qm (Qq (Qm (Qq (qQq (qVt 4) 36 hitN) _ _) _ _) _ _) _ _) _ _) _ _) _ _) _ _) ⟨λ_ _=>rfl,λ_ _ h=>by cases h⟩ (by kernel_rfl) _ _ _) _ _) _ _) _ _) _ _) _ _) _ _) _ _) _ _) _ _) _ _) _ _) _ _)
theorem soundG {W:World} {k k2:qI} {E7 E6 E38 E30 E34 E32 E71 E68 E69 E14:List Ent} {s7 s6 s38 s30 s34 s32 s71 s68 s69 s14:qm} (o:Ok W) (hT:Q7 Tryz.prog W (qPi 4)) (h7:Q7 Tryz.prog W s7) (c7:∀e,e∈E7->ek k s7 7 e) (h6:Q7 Tryz.prog W s6) (c6:∀e,e∈E6->ek k s6 6 e) (h38:Q7 Tryz.prog W s38) (c38:∀e,e∈E38->ek k s38 38 e) (h30:Q7 Tryz.prog W s30) (c30:∀e,e∈E30->ek k s30 30 e) (h34:Q7 Tryz.prog W s34) (c34:∀e,e∈E34->ek k s34 34 e) (h32:Q7 Tryz.prog W s32) (c32:∀e,e∈E32->ek k s32 32 e) (h71:Q7 Tryz.prog W s71) (c71:∀e,e∈E71->ek k s71 71 e) (h68:Q7 Tryz.prog W s68) (c68:∀e,e∈E68->ek k s68 68 e) (h69:Q7 Tryz.prog W s69) (c69:∀e,e∈E69->ek k s69 69 e) (h14:Q7 Tryz.prog W s14) (c14:∀e,e∈E14->ek k2 s14 14 e):Q7 Tryz.prog W (SX E7 E6 E38 E30 E34 E32 E71 E68 E69 E14):=(ad o (ad o (ad o (ad o (ad o (ad o (Q7.or (ad o (ad o (ad o (ad o (qP6 hT (Go.Proofs.YtligncjhmmgajaaGreatDoor.As.facts o.2)) h7 c7) h6 c6) h38 c38) h30 c30) qT9 hmo _ _ _ _) h34 c34) h32 c32) h71 c71) h68 c68) h69 c69) h14 c14)
end Cm
namespace C3
open Go Go.X Go.Proofs MnN Cm
def Sz:QC:=ql (upN [980,1200,1310,1600]) 14 (Jv 14 E14 (ql (upN [1111]) 69 (Jv 69 E69 (ql (upN [1101]) 68 (Jv 68 E68 (ql (upN [1040]) 71 (Jv 71 E71 (ql (upN [1100]) 32 (Jv 32 E32 (ql (upN [970,1030,1300]) 34 (Jv 34 E34 (orZ Tryz.prog 30 (qHe E30 (upN [1000,1400])) (λ_=>none) 5000 5 (ql (upN [1000,1400]) 30 (Jv 30 E30 (ql (upN [965,1050,1080,1450,1480]) 38 (Jv 38 E38 (ql (upN [200]) 6 (Jv 6 E6 (ql (upN [100]) 7 (Jv 7 E7 (asZ 36 hitN (jF7 4))))))))))))))))))))))
theorem walked:jq Sz:=by constructor <;> rfl
theorem walked2:j7 Sz:=by constructor <;> rfl
section
variable (o1 o2:Q4) (pk:Int) (pl:SL)
def h0:Obs:=obsL (obA o1 o2 pk pl [])
def hN:Obs:=obsL (obA o1 o2 pk pl [(201,O94),(202,O88),(210,O51),(322,O44),(333,O52),(335,.cells [p 202,p 333,q 1,p 891,q 1,.nils,p 334,q 3,q 0,q 0,n,.nils,.nils,q 0,.nilp,.nils,q 0,.nils] 0 false false),(343,O38),(708,O7),(864,O45),(865,O98),(867,O3),(890,O60),(904,O21),(906,O15),(908,O40)])
def hY:Obs:=obsL (obA o1 o2 pk pl [(201,O93),(202,O89),(210,O49),(322,O44),(333,O52),(335,.cells [p 202,p 333,q 1,p 891,q 1,.nils,p 334,q 3,q 0,q 0,n,.nils,.nils,q 0,.nilp,.nils,q 0,.nils] 0 false false),(343,O38),(708,O7),(864,O45),(865,O97),(867,O4),(904,O21),(906,O15),(908,O40),(1001,O56),(1003,O59),(1106,O16),(1108,O12),(1110,O30)])
def ng:Gath Sz 5000 333 335 (hN o1 o2 pk pl) (970) (976) o1 o2 [2,3] :=
 ⟨qIk,(Qh [980,1200,1310,1600] 0 qIk E14 rfl (by kernel_rfl)),lb (by kernel_rfl),⟨false,1006,0,2,2,true⟩,by kernel_rfl,rfl,rfl,QR (QN qIk ((hN o1 o2 pk pl)) 1006),4,true,false,by kernel_rfl,at2 (by kernel_rfl),QR ((hN o1 o2 pk pl) 335),by kernel_rfl,by kernel_rfl,⟨by kernel_rfl,by kernel_rfl,by kernel_rfl⟩⟩
def nh:Obs:=obsL (obA o1 o2 pk pl [(201,O94),(202,O92),(210,O49),(333,O52),(335,.cells [p 202,p 333,q 1,p 891,q 1,.nils,p 334,q 3,q 0,q 0,n,.nils,.nils,q 0,.nilp,.nils,q 0,.nils] 0 false false),(343,O38),(708,O7),(864,O45),(865,O98),(904,O21),(906,O15),(908,O40)])
def ngl:Gath Sz 5000 333 335 (nh o1 o2 pk pl) (1087) (1088) o1 o2 [2,3] :=
 ⟨qIj,(Qh [980,1200,1310,1600] 1 qIj E14 rfl (by kernel_rfl)),lb (by kernel_rfl),⟨false,1226,0,2,2,true⟩,by kernel_rfl,rfl,rfl,QR (QN qIj ((nh o1 o2 pk pl)) 1226),4,true,false,by kernel_rfl,at2 (by kernel_rfl),QR ((nh o1 o2 pk pl) 335),by kernel_rfl,by kernel_rfl,⟨by kernel_rfl,by kernel_rfl,by kernel_rfl⟩⟩
def nl2:Liv Sz 5000 333 2 (hN o1 o2 pk pl) 913 970 (nh o1 o2 pk pl) 1087 :=
 ⟨qMz,1001,(qX [1000,1400] 0 qMz E30 rfl (by kernel_rfl)),by kernel_rfl,lb (by kernel_rfl),.inl ⟨.ptr 210 0,.nilp,by kernel_rfl⟩,qMq,⟨false,1055,0,26,26,false⟩,(Qh [965,1050,1080,1450,1480] 2 qMq E38 rfl (by kernel_rfl)),by kernel_rfl,lb (by kernel_rfl),2,jN 210 864 0 (by kernel_rfl),by decide,JB,⟨false,1085,0,26,26,false⟩,(Qh [965,1050,1080,1450,1480] 3 JB E38 rfl (by kernel_rfl)),by kernel_rfl,lb (by kernel_rfl),QO (by kernel_rfl),lb (by kernel_rfl),QQ (by kernel_rfl),λi h1 h2=>⟨wr2 (by kernel_rfl) i h1 h2,wr2 (by kernel_rfl) i h1 h2,wr2 (by kernel_rfl) i h1 h2⟩⟩
def nl3:Liv Sz 5000 333 3 (hN o1 o2 pk pl) 913 970 (nh o1 o2 pk pl) 1087 :=
 ⟨qMy,1001,(qX [1000,1400] 1 qMy E30 rfl (by kernel_rfl)),by kernel_rfl,lb (by kernel_rfl),.inl ⟨.ptr 210 0,.nilp,by kernel_rfl⟩,qMp,⟨false,1055,0,2,2,false⟩,(Qh [965,1050,1080,1450,1480] 4 qMp E38 rfl (by kernel_rfl)),by kernel_rfl,lb (by kernel_rfl),2,jN 210 864 0 (by kernel_rfl),by decide,JB,⟨false,1085,0,26,26,false⟩,(Qh [965,1050,1080,1450,1480] 3 JB E38 rfl (by kernel_rfl)),by kernel_rfl,lb (by kernel_rfl),QO (by kernel_rfl),lb (by kernel_rfl),QQ (by kernel_rfl),λi h1 h2=>⟨wr2 (by kernel_rfl) i h1 h2,wr2 (by kernel_rfl) i h1 h2,wr2 (by kernel_rfl) i h1 h2⟩⟩
def nT:Two Sz 5000 4096 333 335 (hN o1 o2 pk pl) 913 933 o1 o2 :=
 ⟨⟨qMt,4096,(Qh [970,1030,1300] 0 qMt E34 rfl (by kernel_rfl)),by kernel_rfl,lb (by kernel_rfl),by kernel_rfl,by kernel_rfl⟩,rfl,lb (by kernel_rfl),mapD ((hN o1 o2 pk pl) 865),qNj 210 864 0 865 1 (by kernel_rfl),λr=>by kernel_rfl,[2,3],lb (by kernel_rfl),out2 (by kernel_rfl) (by kernel_rfl) (λn=>by kernel_rfl),ng o1 o2 pk pl,λr h2 hr m KK h' a b hz=>qUt (c:=qHe E30 (upN [1000,1400])) rfl (λx h1 h3=>qUp (c:=1000) (by kernel_rfl) (lb (by kernel_rfl)) (out2 (P:=λr=>2<=r->(E30.all λe=>cnd (Nat.beq e.next 1000) (eqL qx e.args [.ptr 333 0,.int .i64 (Int.ofNat r)]) false |> not)=true) (λh=>absurd h (by decide)) (λh=>absurd h (by decide)) (λn _=>by kernel_rfl) r hr h2) x h1 h3) m KK h' a b hz,in2 ⟨⟨nh o1 o2 pk pl,1087,nl2 o1 o2 pk pl,⟨by kernel_rfl,by kernel_rfl,by kernel_rfl⟩,ngl o1 o2 pk pl⟩⟩ ⟨⟨nh o1 o2 pk pl,1087,nl3 o1 o2 pk pl,⟨by kernel_rfl,by kernel_rfl,by kernel_rfl⟩,ngl o1 o2 pk pl⟩⟩,⟨by kernel_rfl,by kernel_rfl,by kernel_rfl⟩,lb (by kernel_rfl)⟩
def yg:Gath Sz 5000 333 335 (hY o1 o2 pk pl) (1300) (1306) o1 o2 [2,3,4] :=
 ⟨qIi,(Qh [980,1200,1310,1600] 2 qIi E14 rfl (by kernel_rfl)),lb (by kernel_rfl),⟨false,1347,0,3,3,true⟩,by kernel_rfl,rfl,rfl,QR (QN qIi ((hY o1 o2 pk pl)) 1347),4,true,false,by kernel_rfl,at3 (by kernel_rfl),QR ((hY o1 o2 pk pl) 335),by kernel_rfl,by kernel_rfl,⟨by kernel_rfl,by kernel_rfl,by kernel_rfl⟩⟩
def yh:Obs:=obsL (obA o1 o2 pk pl [(201,O93),(202,O72),(210,O50),(333,O52),(335,.cells [p 202,p 333,q 1,p 891,q 1,.nils,p 334,q 3,q 0,q 0,n,.nils,.nils,q 0,.nilp,.nils,q 0,.nils] 0 false false),(343,O38),(708,O7),(864,O45),(865,O97),(904,O21),(906,O15),(908,O40),(1106,O16),(1108,O12),(1110,O30)])
def ygl:Gath Sz 5000 333 335 (yh o1 o2 pk pl) (1487) (1488) o1 o2 [2,3,4] :=
 ⟨qIh,(Qh [980,1200,1310,1600] 3 qIh E14 rfl (by kernel_rfl)),lb (by kernel_rfl),⟨false,1637,0,3,3,true⟩,by kernel_rfl,rfl,rfl,QR (QN qIh ((yh o1 o2 pk pl)) 1637),4,true,false,by kernel_rfl,at3 (by kernel_rfl),QR ((yh o1 o2 pk pl) 335),by kernel_rfl,by kernel_rfl,⟨by kernel_rfl,by kernel_rfl,by kernel_rfl⟩⟩
def yl2:Liv Sz 5000 333 2 (hY o1 o2 pk pl) 1114 1300 (yh o1 o2 pk pl) 1487 :=
 ⟨qMx,1401,(qX [1000,1400] 3 qMx E30 rfl (by kernel_rfl)),by kernel_rfl,lb (by kernel_rfl),.inl ⟨.ptr 210 0,.nilp,by kernel_rfl⟩,qFr,⟨false,1455,0,26,26,false⟩,(Qh [965,1050,1080,1450,1480] 11 qFr E38 rfl (by kernel_rfl)),by kernel_rfl,lb (by kernel_rfl),2,jN 210 864 0 (by kernel_rfl),by decide,qC,⟨false,1485,0,26,26,false⟩,(Qh [965,1050,1080,1450,1480] 12 qC E38 rfl (by kernel_rfl)),by kernel_rfl,lb (by kernel_rfl),QO (by kernel_rfl),lb (by kernel_rfl),QQ (by kernel_rfl),λi h1 h2=>⟨wr2 (by kernel_rfl) i h1 h2,wr2 (by kernel_rfl) i h1 h2,wr2 (by kernel_rfl) i h1 h2⟩⟩
def yl3:Liv Sz 5000 333 3 (hY o1 o2 pk pl) 1114 1300 (yh o1 o2 pk pl) 1487 :=
 ⟨qMw,1401,(qX [1000,1400] 4 qMw E30 rfl (by kernel_rfl)),by kernel_rfl,lb (by kernel_rfl),.inl ⟨.ptr 210 0,.nilp,by kernel_rfl⟩,qFq,⟨false,1455,0,2,2,false⟩,(Qh [965,1050,1080,1450,1480] 13 qFq E38 rfl (by kernel_rfl)),by kernel_rfl,lb (by kernel_rfl),2,jN 210 864 0 (by kernel_rfl),by decide,qC,⟨false,1485,0,26,26,false⟩,(Qh [965,1050,1080,1450,1480] 12 qC E38 rfl (by kernel_rfl)),by kernel_rfl,lb (by kernel_rfl),QO (by kernel_rfl),lb (by kernel_rfl),QQ (by kernel_rfl),λi h1 h2=>⟨wr2 (by kernel_rfl) i h1 h2,wr2 (by kernel_rfl) i h1 h2,wr2 (by kernel_rfl) i h1 h2⟩⟩
def yl4:Liv Sz 5000 333 4 (hY o1 o2 pk pl) 1114 1300 (yh o1 o2 pk pl) 1487 :=
 ⟨qMv,1401,(qX [1000,1400] 5 qMv E30 rfl (by kernel_rfl)),by kernel_rfl,lb (by kernel_rfl),.inl ⟨.ptr 210 0,.nilp,by kernel_rfl⟩,qFp,⟨false,1455,0,2,2,false⟩,(Qh [965,1050,1080,1450,1480] 14 qFp E38 rfl (by kernel_rfl)),by kernel_rfl,lb (by kernel_rfl),2,jN 210 864 0 (by kernel_rfl),by decide,qC,⟨false,1485,0,26,26,false⟩,(Qh [965,1050,1080,1450,1480] 12 qC E38 rfl (by kernel_rfl)),by kernel_rfl,lb (by kernel_rfl),QO (by kernel_rfl),lb (by kernel_rfl),QQ (by kernel_rfl),λi h1 h2=>⟨wr2 (by kernel_rfl) i h1 h2,wr2 (by kernel_rfl) i h1 h2,wr2 (by kernel_rfl) i h1 h2⟩⟩
def yT:Two Sz 5000 4096 333 335 (hY o1 o2 pk pl) 1114 1120 o1 o2 :=
 ⟨⟨qMr,4096,(Qh [970,1030,1300] 2 qMr E34 rfl (by kernel_rfl)),by kernel_rfl,lb (by kernel_rfl),by kernel_rfl,by kernel_rfl⟩,rfl,lb (by kernel_rfl),mapD ((hY o1 o2 pk pl) 865),qNj 210 864 0 865 2 (by kernel_rfl),λr=>by kernel_rfl,[2,3,4],lb (by kernel_rfl),out3 (by kernel_rfl) (by kernel_rfl) (λn=>by kernel_rfl),yg o1 o2 pk pl,λr h2 hr m KK h' a b hz=>qUt (c:=qHe E30 (upN [1000,1400])) rfl (λx h1 h3=>qUp (c:=1400) (by kernel_rfl) (lb (by kernel_rfl)) (out3 (P:=λr=>2<=r->(E30.all λe=>cnd (Nat.beq e.next 1400) (eqL qx e.args [.ptr 333 0,.int .i64 (Int.ofNat r)]) false |> not)=true) (λh=>absurd h (by decide)) (λh=>absurd h (by decide)) (λn _=>by kernel_rfl) r hr h2) x h1 h3) m KK h' a b hz,in3 ⟨⟨yh o1 o2 pk pl,1487,yl2 o1 o2 pk pl,⟨by kernel_rfl,by kernel_rfl,by kernel_rfl⟩,ygl o1 o2 pk pl⟩⟩ ⟨⟨yh o1 o2 pk pl,1487,yl3 o1 o2 pk pl,⟨by kernel_rfl,by kernel_rfl,by kernel_rfl⟩,ygl o1 o2 pk pl⟩⟩ ⟨⟨yh o1 o2 pk pl,1487,yl4 o1 o2 pk pl,⟨by kernel_rfl,by kernel_rfl,by kernel_rfl⟩,ygl o1 o2 pk pl⟩⟩,⟨by kernel_rfl,by kernel_rfl,by kernel_rfl⟩,lb (by kernel_rfl)⟩
def bNT:NewT Sz 5000 1001 (QN JC (QN JA (hN o1 o2 pk pl))) 1004 (hY o1 o2 pk pl) 1114 :=
 ⟨qMu,1114,(Qh [1100] 0 qMu E32 rfl (by kernel_rfl)),by kernel_rfl,QO (by kernel_rfl),lb (by kernel_rfl),QQ (by kernel_rfl),λi h1 h2=>wr2 (by kernel_rfl) i h1 h2⟩
def bNB:NewB Sz 5000 1001 (QN JC (QN JA (hN o1 o2 pk pl))) 1004 (hY o1 o2 pk pl) 1114 :=
 ⟨qMs,4096,(Qh [970,1030,1300] 1 qMs E34 rfl (by kernel_rfl)),by kernel_rfl,qMm,⟨false,1040,0,2,2,false⟩,(Qh [1040] 0 qMm E71 rfl (by kernel_rfl)),by kernel_rfl,lb (by kernel_rfl),qMo,4,(Qh [1101] 0 qMo E68 rfl (by kernel_rfl)),by kernel_rfl,lb (by kernel_rfl),qMn,(Qh [1111] 0 qMn E69 rfl (by kernel_rfl)),by kernel_rfl,lb (by kernel_rfl),QO (by kernel_rfl),lb (by kernel_rfl),QQ (by kernel_rfl),λi h1 h2=>⟨wr2 (by kernel_rfl) i h1 h2,wr2 (by kernel_rfl) i h1 h2,wr2 (by kernel_rfl) i h1 h2,wr2 (by kernel_rfl) i h1 h2⟩⟩
def bgn:Beg Sz 5000 333 (hN o1 o2 pk pl) 913 (hY o1 o2 pk pl) 1114 :=
 ⟨2,jN 210 864 0 (by kernel_rfl),by decide,JA,⟨false,970,0,26,26,false⟩,(Qh [965,1050,1080,1450,1480] 7 JA E38 rfl (by kernel_rfl)),by kernel_rfl,JC,1001,(qX [1000,1400] 2 JC E30 rfl (by kernel_rfl)),by kernel_rfl,lb (by kernel_rfl),λi h1 h2=>⟨wr2 (by kernel_rfl) i h1 h2,wr2 (by kernel_rfl) i h1 h2⟩,.inl ⟨.ptr 210 0,.nilp,by kernel_rfl⟩,bNT o1 o2 pk pl,lb (by kernel_rfl),bNB o1 o2 pk pl,lb (by kernel_rfl),1115,lb (by kernel_rfl),lb (by kernel_rfl)⟩
def rec:SzA Sz 5000 4096 pk pl o1 o2 (h0 o1 o2 pk pl) :=
 ⟨E7_0,⟨false,106,0,3,3,false⟩,(Qh [100] 0 E7_0 E7 rfl (by kernel_rfl)),by kernel_rfl,lb (by kernel_rfl),E6_0,335,(Qh [200] 0 E6_0 E6 rfl (by kernel_rfl)),by kernel_rfl,lb (by kernel_rfl),hN o1 o2 pk pl,913,QO (by kernel_rfl),QQ (by kernel_rfl),lb (by kernel_rfl),333,933,nT o1 o2 pk pl,lb (by kernel_rfl),⟨⟨by kernel_rfl,by kernel_rfl,by kernel_rfl⟩,by kernel_rfl,⟨QR (hN o1 o2 pk pl 335),by kernel_rfl,by kernel_rfl⟩,lb (by kernel_rfl)⟩,hY o1 o2 pk pl,1114,bgn o1 o2 pk pl,lb (by kernel_rfl),⟨qM7 (by kernel_rfl),qM7 (by kernel_rfl)⟩,1120,yT o1 o2 pk pl,lb (by kernel_rfl),⟨⟨by kernel_rfl,by kernel_rfl,by kernel_rfl⟩,by kernel_rfl,⟨QR (hY o1 o2 pk pl 335),by kernel_rfl,by kernel_rfl⟩,lb (by kernel_rfl)⟩⟩
end
end C3
namespace C0
open Go Go.X Go.Proofs Cm
section
variable {W:World}
theorem sA0 (o:Ok W):gS W A0:=qYt o.1 o.2
theorem sB0 (o:Ok W):gS W B0:=qYt o.1 o.2
theorem sA1 (o:Ok W):gS W A1:=nx o (sA0 o) (fa qGw (fa qGv (fa okD125_2 (fa okD125_3 (fa okD125_4 (fa okD125_5 (fa okD125_6 (fa okD125_7 fz))))))))
theorem sA2 (o:Ok W):gS W A2:=nx o (sA1 o) (fa qGu (fa qGt fz))
theorem sA3 (o:Ok W):gS W A3:=nx o (sA2 o) (fa qJ1 fz)
theorem sA4 (o:Ok W):gS W A4:=nx o (sA3 o) (fa qJ0 fz)
theorem sB1 (o:Ok W):gS W B1:=nx o (sB0 o) (fa qL3 (fa qL2 (fa qL1 (fa qL0 (fa qLz (fa qLy (fa qLx (fa qLw (fa qLv (fa qLu (fa qH3 (fa qH2 (fa qH1 (fa qH0 (fa qHz (fa qHy fz))))))))))))))))
theorem sB2 (o:Ok W):gS W B2:=nx o (sB1 o) (fa qRf (fa qRe (fa qRd (fa qRc (fa qRb (fa qRa (fa qQ9 (fa qQ8 (fa qQ7 (fa qQ6 (fa qLt (fa qLs (fa qLr (fa qLq (fa qLp (fa qLo (fa qLn (fa qLm fz))))))))))))))))))
open MnN
def Sx:qm:=SX E7 E6 E38 E30 E34 E32 E71 E68 E69 E14
theorem sSx (o:Ok W) (hT:Q7 Tryz.prog W (qPi 4)):Q7 Tryz.prog W Sx:=soundG o hT (sA0 o) (fa qZa fz) (sA4 o) (fa qZb fz) (sB1 o) (fa qRf (fa qRe (fa qRd (fa qRc (fa qRb (fa qRa (fa qQ9 (fa qQ8 (fa qQ7 (fa qQ6 (fa qLt (fa qLs (fa qLr (fa qLq (fa qLp (fa qLo (fa qLn (fa qLm fz)))))))))))))))))) (sB0 o) (fa qRp (fa qRo (fa qRn (fa qRm (fa qRl (fa qRk fz)))))) (sB0 o) (fa qRi (fa qRh (fa qRg fz))) (sB0 o) (fa qRj fz) (sB0 o) (fa qQ3 fz) (sB0 o) (fa qQ5 fz) (sB0 o) (fa qQ4 fz) (sB2 o) (fa qRt (fa qRs (fa qRr (fa qRq fz))))
theorem fit:jH Sz Sx:=fitG E7 E6 E38 E30 E34 E32 E71 E68 E69 E14
end
end C0
namespace C1
open Go Go.X Go.Proofs Cm
section
variable {W:World}
theorem sA0 (o:Ok W):gS W A0:=qYt o.1 o.2
theorem sB0 (o:Ok W):gS W B0:=qYt o.1 o.2
theorem sA1 (o:Ok W):gS W A1:=nx o (sA0 o) (fa qGw (fa qGv fz))
theorem sA2 (o:Ok W):gS W A2:=nx o (sA1 o) (fa qGu (fa qGt fz))
theorem sA3 (o:Ok W):gS W A3:=nx o (sA2 o) (fa jCo (fa jCn (fa jCm (fa jCl (fa jCk (fa jCj (fa jCi (fa jCh (fa jCg fz)))))))))
theorem sA4 (o:Ok W):gS W A4:=nx o (sA3 o) (fa qWo (fa qWn (fa qWm (fa qWl (fa qWk (fa qWj (fa qWi fz)))))))
theorem sA5 (o:Ok W):gS W A5:=nx o (sA4 o) (fa jB8 (fa jB7 fz))
theorem sA6 (o:Ok W):gS W A6:=nx o (sA5 o) (fa jCf (fa jCe fz))
theorem sA7 (o:Ok W):gS W A7:=nx o (sA6 o) (fa qJ1 fz)
theorem sA8 (o:Ok W):gS W A8:=nx o (sA7 o) (fa qWh (fa qWg (fa qWf (fa qWe (fa qWd fz)))))
theorem sA9 (o:Ok W):gS W A9:=nx o (sA8 o) (fa qWq (fa qWp fz))
theorem sA10 (o:Ok W):gS W A10:=nx o (sA9 o) (fa jCa (fa jB9 fz))
theorem sA11 (o:Ok W):gS W A11:=nx o (sA10 o) (fa jCp fz)
theorem sA12 (o:Ok W):gS W A12:=nx o (sA11 o) (fa jCd (fa jCc (fa jCb fz)))
theorem sA13 (o:Ok W):gS W A13:=nx o (sA12 o) (fa qJ0 fz)
theorem sB1 (o:Ok W):gS W B1:=nx o (sB0 o) (fa qL3 (fa qL2 (fa qL1 (fa qL0 (fa qLz (fa qLy (fa qLx (fa qLw (fa qLv (fa qLu (fa qH3 (fa qH2 (fa qH1 (fa qH0 (fa qHz (fa qHy fz))))))))))))))))
theorem sB2 (o:Ok W):gS W B2:=nx o (sB1 o) (fa qRf (fa qRe (fa qRd (fa qRc (fa qRb (fa qRa (fa qQ9 (fa qQ8 (fa qQ7 (fa qQ6 (fa qLt (fa qLs (fa qLr (fa qLq (fa qLp (fa qLo (fa qLn (fa qLm fz))))))))))))))))))
open MnN
def Sx:qm:=SX E7 E6 E38 E30 E34 E32 E71 E68 E69 E14
theorem sSx (o:Ok W) (hT:Q7 Tryz.prog W (qPi 4)):Q7 Tryz.prog W Sx:=soundG o hT (sA0 o) (fa qZa fz) (sA13 o) (fa qZb fz) (sB1 o) (fa qRf (fa qRe (fa qRd (fa qRc (fa qRb (fa qRa (fa qQ9 (fa qQ8 (fa qQ7 (fa qQ6 (fa qLt (fa qLs (fa qLr (fa qLq (fa qLp (fa qLo (fa qLn (fa qLm fz)))))))))))))))))) (sB0 o) (fa qRp (fa qRo (fa qRn (fa qRm (fa qRl (fa qRk fz)))))) (sB0 o) (fa qRi (fa qRh (fa qRg fz))) (sB0 o) (fa qRj fz) (sB0 o) (fa qQ3 fz) (sB0 o) (fa qQ5 fz) (sB0 o) (fa qQ4 fz) (sB2 o) (fa qRt (fa qRs (fa qRr (fa qRq fz))))
theorem fit:jH Sz Sx:=fitG E7 E6 E38 E30 E34 E32 E71 E68 E69 E14
end
end C1
namespace C2
open Go Go.X Go.Proofs Cm
section
variable {W:World}
theorem sA0 (o:Ok W):gS W A0:=qYt o.1 o.2
theorem sB0 (o:Ok W):gS W B0:=qYt o.1 o.2
theorem sA1 (o:Ok W):gS W A1:=nx o (sA0 o) (fa qGw (fa qGv fz))
theorem sA2 (o:Ok W):gS W A2:=nx o (sA1 o) (fa qGu (fa qGt fz))
theorem sA3 (o:Ok W):gS W A3:=nx o (sA2 o) (fa jCo (fa jCn (fa jCm (fa jCl (fa jCk (fa jCj (fa jCi (fa jCh (fa jCg fz)))))))))
theorem sA4 (o:Ok W):gS W A4:=nx o (sA3 o) (fa qWo (fa qWn (fa qWm (fa qWl (fa qWk (fa qWj (fa qWi fz)))))))
theorem sA5 (o:Ok W):gS W A5:=nx o (sA4 o) (fa jB8 (fa jB7 fz))
theorem sA6 (o:Ok W):gS W A6:=nx o (sA5 o) (fa jCf (fa jCe fz))
theorem sA7 (o:Ok W):gS W A7:=nx o (sA6 o) (fa qJ1 fz)
theorem sA8 (o:Ok W):gS W A8:=nx o (sA7 o) (fa qWh (fa qWg (fa qWf (fa qWe (fa qWd fz)))))
theorem sA9 (o:Ok W):gS W A9:=nx o (sA8 o) (fa qWq (fa qWp fz))
theorem sA10 (o:Ok W):gS W A10:=nx o (sA9 o) (fa jCa (fa jB9 fz))
theorem sA11 (o:Ok W):gS W A11:=nx o (sA10 o) (fa jCp fz)
theorem sA12 (o:Ok W):gS W A12:=nx o (sA11 o) (fa okD128_0 (fa okD128_1 (fa okD128_2 (fa okD128_3 (fa okD128_4 (fa okD128_5 (fa okD128_6 fz)))))))
theorem sA13 (o:Ok W):gS W A13:=nx o (sA12 o) (fa qBb (fa qBa (fa qA9 (fa qA8 (fa qA7 (fa qA5 (fa qA4 fz)))))))
theorem sA14 (o:Ok W):gS W A14:=nx o (sA13 o) (fa jCd (fa jCc (fa jCb fz)))
theorem sA15 (o:Ok W):gS W A15:=nx o (sA14 o) (fa qJ0 fz)
theorem sB1 (o:Ok W):gS W B1:=nx o (sB0 o) (fa qL3 (fa qL2 (fa qL1 (fa qL0 (fa qLz (fa qLy (fa qLx (fa qLw (fa qLv (fa qLu (fa qH3 (fa qH2 (fa qH1 (fa qH0 (fa qHz (fa qHy fz))))))))))))))))
theorem sB2 (o:Ok W):gS W B2:=Cb.nx2 o (sB1 o) (sB0 o) (fa okE128_0 (fa okE128_1 (fa okE128_2 (fa okE128_3 (fa okE128_4 (fa okE128_5 (fa okE128_6 (fa okE128_7 (fa okE128_8 (fa okE128_9 (fa okE128_10 (fa okE128_11 (fa okE128_12 (fa okE128_13 (fa okE128_14 (fa okE128_15 (fa okE128_16 (fa okE128_17 fz))))))))))))))))))
theorem sB3 (o:Ok W):gS W B3:=nx o (sB2 o) (fa qRf (fa qRe (fa qRd (fa qRc (fa qRb (fa qRa (fa qQ9 (fa qQ8 (fa qQ7 (fa qQ6 (fa qLt (fa qLs (fa qLr (fa qLq (fa qLp (fa qLo (fa qLn (fa qLm fz))))))))))))))))))
open MnN
def Sx:qm:=SX E7 E6 E38 E30 E34 E32 E71 E68 E69 E14
theorem sSx (o:Ok W) (hT:Q7 Tryz.prog W (qPi 4)):Q7 Tryz.prog W Sx:=soundG o hT (sA0 o) (fa qZa fz) (sA15 o) (fa qZb fz) (sB2 o) (fa qRf (fa qRe (fa qRd (fa qRc (fa qRb (fa qRa (fa qQ9 (fa qQ8 (fa qQ7 (fa qQ6 (fa qLt (fa qLs (fa qLr (fa qLq (fa qLp (fa qLo (fa qLn (fa qLm fz)))))))))))))))))) (sB0 o) (fa qRp (fa qRo (fa qRn (fa qRm (fa qRl (fa qRk fz)))))) (sB0 o) (fa qRi (fa qRh (fa qRg fz))) (sB0 o) (fa qRj fz) (sB0 o) (fa qQ3 fz) (sB0 o) (fa qQ5 fz) (sB0 o) (fa qQ4 fz) (sB3 o) (fa qRt (fa qRs (fa qRr (fa qRq fz))))
theorem fit:jH Sz Sx:=fitG E7 E6 E38 E30 E34 E32 E71 E68 E69 E14
end
end C2
namespace C3
open Go Go.X Go.Proofs Cm
section
variable {W:World}
theorem sA0 (o:Ok W):gS W A0:=sBase3 o.1 o.2
theorem sB0 (o:Ok W):gS W B0:=sBase3 o.1 o.2
theorem sA1 (o:Ok W):gS W A1:=nx o (sA0 o) (fa qGw (fa qGv fz))
theorem sA2 (o:Ok W):gS W A2:=nx o (sA1 o) (fa qGu (fa qGt fz))
theorem sA3 (o:Ok W):gS W A3:=nx o (sA2 o) (fa jCo (fa jCn (fa jCm (fa jCl (fa jCk (fa jCj (fa jCi (fa jCh (fa jCg fz)))))))))
theorem sA4 (o:Ok W):gS W A4:=nx o (sA3 o) (fa qWo (fa qWn (fa qWm (fa qWl (fa qWk (fa qWj (fa qWi (fa okD145_7 fz))))))))
theorem sA5 (o:Ok W):gS W A5:=nx o (sA4 o) (fa jB8 (fa jB7 fz))
theorem sA6 (o:Ok W):gS W A6:=nx o (sA5 o) (fa jCf (fa jCe fz))
theorem sA7 (o:Ok W):gS W A7:=nx o (sA6 o) (fa qJ1 fz)
theorem sA8 (o:Ok W):gS W A8:=nx o (sA7 o) (fa qWh (fa qWg (fa qWf (fa qWe (fa qWd fz)))))
theorem sA9 (o:Ok W):gS W A9:=nx o (sA8 o) (fa qWq (fa qWp fz))
theorem sA10 (o:Ok W):gS W A10:=nx o (sA9 o) (fa jCa (fa jB9 fz))
theorem sA11 (o:Ok W):gS W A11:=nx o (sA10 o) (fa jCp fz)
theorem sA12 (o:Ok W):gS W A12:=nx o (sA11 o) (fa qBb (fa qBa (fa qA9 (fa qA8 (fa qA7 (fa qA5 (fa qA4 fz)))))))
theorem sA13 (o:Ok W):gS W A13:=nx o (sA12 o) (fa jCd (fa jCc (fa jCb fz)))
theorem sA14 (o:Ok W):gS W A14:=nx o (sA13 o) (fa qJ0 fz)
theorem sB1 (o:Ok W):gS W B1:=nx o (sB0 o) (fa qL3 (fa qL2 (fa qL1 (fa qL0 (fa qLz (fa qLy (fa qLx (fa qLw (fa qLv (fa qLu (fa qH3 (fa qH2 (fa qH1 (fa qH0 (fa qHz (fa qHy fz))))))))))))))))
theorem sB2 (o:Ok W):gS W B2:=nx o (sB1 o) (fa qRf (fa qRe (fa qRd (fa qRc (fa qRb (fa qRa (fa qQ9 (fa qQ8 (fa qQ7 (fa qQ6 (fa qLt (fa qLs (fa qLr (fa qLq (fa qLp (fa qLo (fa qLn (fa qLm fz))))))))))))))))))
open MnN
def Sx:qm:=SX E7 E6 E38 E30 E34 E32 E71 E68 E69 E14
theorem sSx (o:Ok W) (hT:Q7 Tryz.prog W (qPi 4)):Q7 Tryz.prog W Sx:=soundG o hT (sA0 o) (fa qZa fz) (sA14 o) (fa qZb fz) (sB1 o) (fa qRf (fa qRe (fa qRd (fa qRc (fa qRb (fa qRa (fa qQ9 (fa qQ8 (fa qQ7 (fa qQ6 (fa qLt (fa qLs (fa qLr (fa qLq (fa qLp (fa qLo (fa qLn (fa qLm fz)))))))))))))))))) (sB0 o) (fa qRp (fa qRo (fa qRn (fa qRm (fa qRl (fa qRk fz)))))) (sB0 o) (fa qRi (fa qRh (fa qRg fz))) (sB0 o) (fa qRj fz) (sB0 o) (fa qQ3 fz) (sB0 o) (fa qQ5 fz) (sB0 o) (fa qQ4 fz) (sB2 o) (fa qRt (fa qRs (fa qRr (fa qRq fz))))
theorem fit:jH Sz Sx:=fitG E7 E6 E38 E30 E34 E32 E71 E68 E69 E14
end
end C3
namespace Cb
open Go Go.X Go.Proofs Cm
end Cb
namespace Ca
open Go Go.X Go.Proofs Cm
section
variable {W:World}
theorem sA0 (o:Ok W):gS W A0:=qYt o.1 o.2
theorem sA1 (o:Ok W):gS W A1:=nx o (sA0 o) (fa Ca.qGw (fa Ca.qGv fz))
theorem sA2 (o:Ok W):gS W A2:=nx o (sA1 o) (fa Ca.qGu (fa Ca.qGt fz))
theorem sA3 (o:Ok W):gS W A3:=nx o (sA2 o) (fa Ca.qJ1 fz)
theorem sA4 (o:Ok W):gS W A4:=nx o (sA3 o) (fa Ca.okD32_0 fz)
theorem sA5 (o:Ok W):gS W A5:=nx o (sA4 o) (fa Ca.okD33_0 fz)
theorem sA6 (o:Ok W):gS W A6:=nx o (sA5 o) (fa Ca.qJ0 fz)
theorem sA7 (o:Ok W):gS W A7:=nx o (sA6 o) (fa Ca.okD8_0 fz)
theorem sA8 (o:Ok W):gS W A8:=nx o (sA7 o) (fa Ca.okD9_0 fz)
theorem sX0 (o:Ok W):gS W Cb.X0:=sA8 o
theorem sX1 (o:Ok W):gS W Cb.X1:=nx o (sX0 o) (fa Cb.qBb (fa Cb.qBa (fa Cb.qA9 (fa Cb.qA8 (fa Cb.qA7 (fa Cb.qA5 (fa Cb.qA4 (fa Cb.okD38_7 (fa Cb.okD38_8 (fa Cb.okD38_9 (fa Cb.okD38_10 (fa Cb.okD38_11 (fa Cb.okD38_12 (fa Cb.okD38_13 (fa Cb.okD38_14 fz)))))))))))))))
theorem sX2 (o:Ok W):gS W Cb.X2:=nx o (sX1 o) (fa Cb.qWo (fa Cb.qWn (fa Cb.qWm (fa Cb.qWl fz))))
theorem sX3 (o:Ok W):gS W Cb.X3:=nx o (sX2 o) (fa Cb.jCo (fa Cb.jCn (fa Cb.jCm (fa Cb.jCl fz))))
theorem sX4 (o:Ok W):gS W Cb.X4:=nx o (sX3 o) (fa Cb.qWh (fa Cb.qWg (fa Cb.qWf (fa Cb.qWe fz))))
theorem sX5 (o:Ok W):gS W Cb.X5:=nx o (sX4 o) (fa Cb.qWq fz)
theorem sX6 (o:Ok W):gS W Cb.X6:=nx o (sX5 o) (fa Cb.jCa fz)
theorem sA9 (o:Ok W):gS W A9:=Cb.nx2 o (sA8 o) (sX6 o) (fa Ca.okD17_0 (fa Ca.okD17_1 fz))
theorem sA10 (o:Ok W):gS W A10:=nx o (sA9 o) (fa Ca.okD18_0 (fa Ca.okD18_1 fz))
theorem sA11 (o:Ok W):gS W A11:=nx o (sA10 o) (fa Ca.okD19_0 fz)
theorem sA12 (o:Ok W):gS W A12:=nx o (sA11 o) (fa Ca.okD6_0 fz)
theorem last (o:Ok W):gS W A12:=sA12 o
end
end Ca
end
