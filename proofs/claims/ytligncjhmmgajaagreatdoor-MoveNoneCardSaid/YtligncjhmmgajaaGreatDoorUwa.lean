/-
 PROVED: the calls' runs. No condition.
-/
import Derived.Test.YtligncjhmmgajaaGreatDoorT0
set_option linter.unusedVariables false
set_option maxRecDepth 1000000
noncomputable section
namespace Cb
open Go Go.X Go.Proofs Cm
def R0:List AV:=(b8 18 0x326201000100000031610100010000000200)
def R1:List AV:=(b8 26 0x3363010001000000326201000100000031610100010000000300)
def R2:List AV:=(b8 64 0x607080d09130e190a1f14220f281a360b172034152c232e1025293c1b30373f050c12181e21273516332b2d243b2f3e04111d26322a3a3d031c313902380100)
def R3:List AV:=(z 512 0x2c4a96f4114ab5dd 0x200000003000000000000000300000000035942)
def R4:List AV:=(z 512 0x47081467c275849 0x200000003000000000000000400000000035942)
def R5:List AV:=(z 512 0x77657859ab8d2a64 0x3363010001000000326201000100000031610100010000000300000000001a00000003000000000000000300000000035942)
def R6:List AV:=(z 512 0xab71c5c32cf51f2e 0x31610100010000000100000000000a00000003000000000000000300000000035942)
def R7:List AV:=(z 512 0xd0c1a9e61f6e08ce 0x326201000100000031610100010000000200000000001200000003000000000000000300000000035942)
def R8:List AV:=(z 512 0xfb9e486781ce6a94 0x3363010001000000326201000100000031610100010000000300000000001a00000002000000000000000200000000035942)
def O0:Q4:=.cells (qi 1 (q 128) (qi 1 (q 4) (qi 1 (j 15) (qi 1023 (j 0) [])))) 0 false false
def O1:Q4:=.cells (qi 1 (q 128) (qi 1 (q 5) (qi 1 (j 31) (qi 1023 (j 0) [])))) 0 false false
def O2:Q4:=.cells R0 1 false false
def O3:Q4:=.cells R1 1 false false
def O4:Q4:=.cells R4 1 true false
def O5:Q4:=.cells R6 1 true false
def O6:Q4:=.cells R7 1 true false
def O7:Q4:=.cells [.nils,n,g 1155 0 3 3] 0 false false
def O8:Q4:=.cells [.nils,n,g 1367 0 4 4] 0 false false
def O9:Q4:=.cells [.nils,n,g 1523 0 1 1] 0 false false
def O10:Q4:=.cells [.nils,n,g 746 0 1 1] 0 false false
def O11:Q4:=.cells [.nils,n,g 999 0 2 2] 0 false false
def O12:Q4:=.cells [c 0,c 0] 1 false false
def O13:Q4:=.cells [c 0,c 1,c 0,c 0,c 0,c 1,c 0,c 1,c 97,c 49] 1 false false
def O14:Q4:=.cells [g 1521 0 512 512] 1 true false
def O15:Q4:=.cells [g 542 0 512 512,n,.nils] 0 false false
def O16:Q4:=.cells [g 744 0 512 512,g 997 0 512 512,g 1153 0 512 512,g 1365 0 512 512] 1 true false
def O17:Q4:=.cells [g 744 0 512 512,g 997 0 512 512,g 1153 0 512 512] 1 true false
def O18:Q4:=.cells [g 744 0 512 512,g 997 0 512 512] 1 true false
def O19:Q4:=.cells [g 744 0 512 512] 1 true false
def O20:Q4:=.cells [j 2,q 0,.nils,m 699,m 700] 0 false false
def O21:Q4:=.cells [j 2,q 2,.nils,m 133,m 134] 0 false false
def O22:Q4:=.cells [j 2,q 2,.nils,m 699,m 700] 0 false false
def O23:Q4:=.cells [j 2,q 4,.nils,m 699,m 700] 0 false false
def O24:Q4:=.cells [p 12,p 132,p 698,p 701,s 678 0 0 0,n,g 728 0 1 1] 0 false false
def O25:Q4:=.cells [p 20,.nilp,n,q 0] 0 false false
def O26:Q4:=.cells [p 20,.nilp,y,q 3] 0 false false
def O27:Q4:=.cells [v 0,w 0,q 512,q 128,m 11,n,q 0,q 0,n,j 10,j 9] 0 false false
def O28:Q4:=.cells [v 0,w 0,q 512,q 128,m 11,n,q 0,q 0,n,j 11,j 10] 0 false false
def O29:Q4:=.cells [v 0,w 0,q 512,q 128,m 11,n,q 0,q 0,n,j 11,j 9] 0 false false
def O30:Q4:=.cells [v 0,w 0,q 512,q 128,m 11,n,q 0,q 0,n,j 12,j 10] 0 false false
def O31:Q4:=.cells [v 0,w 0,q 512,q 128,m 11,n,q 0,q 0,n,j 13,j 10] 0 false false
def O32:Q4:=.cells [v 0,w 0,q 512,q 128,m 11,n,q 0,q 0,n,j 14,j 10] 0 false false
def O33:Q4:=.cells [v 0,w 0,q 512,q 128,m 11,n,q 0,q 0,n,j 14,j 11] 0 false false
def O34:Q4:=.cells [v 0,w 0,q 512,q 128,m 11,n,q 0,q 0,n,j 15,j 11] 0 false false
def O35:Q4:=.cells [v 0,w 0,q 512,q 128,m 11,n,q 0,q 0,n,j 16,j 11] 0 false false
def O36:Q4:=.cells [v 0,w 0,q 512,q 128,m 11,n,q 0,q 0,n,j 17,j 11] 0 false false
def O37:Q4:=.cells [v 0,w 0,q 512,q 128,m 11,n,q 0,q 0,n,j 17,j 12] 0 false false
def O38:Q4:=.cells [v 0,w 0,q 512,q 128,m 11,n,q 0,q 0,n,j 18,j 12] 0 false false
def O39:Q4:=.cells [v 0,w 0,q 512,q 128,m 11,n,q 0,q 0,n,j 19,j 12] 0 false false
def O40:Q4:=.cells [v 0,w 0,q 512,q 128,m 11,n,q 0,q 0,n,j 19,j 13] 0 false false
def O41:Q4:=.cells [v 0,w 0,q 512,q 128,m 11,n,q 0,q 0,n,j 24,j 14] 0 false false
def O42:Q4:=.cells [v 0,w 0,q 512,q 128,m 11,n,q 0,q 0,n,j 25,j 14] 0 false false
def O43:Q4:=.cells [v 0,w 0,q 512,q 128,m 11,n,q 0,q 0,n,j 8,j 9] 0 false false
def O44:Q4:=.cells [v 0,w 0,q 512,q 128,m 11,n,q 0,q 0,n,j 9,j 9] 0 false false
def O45:Q4:=.map [((q 0),(p 30)),((q 1),(p 36)),((q 2),(p 153)),((q 3),(p 742)),((q 4),(p 1519))] 5
def O46:Q4:=.map [((q 0),(p 30)),((q 1),(p 36)),((q 2),(p 153)),((q 3),(p 742))] 4
def O47:Q4:=.map [((q 2),(.agg [q 3,j 2])),((q 3),(.agg [q 3,j 3]))] 1
def O48:Q4:=.map [((q 3),(.agg [q 3,j 3])),((q 4),(.agg [q 3,j 3]))] 3
def D38_0:Ent:=⟨814,[p 143,q 2],[(11,O46),(12,.cells [v 0,w 0,q 512,q 128,m 11,n,q 0,q 0,n,j 7,j 9] 0 false false),(20,O24),(143,O25),(153,O15),(542,.cells R8 1 true false),(698,O22),(699,O47)],[(12,O43)],(tb 9 [O3,.tomb]),(.tuple [q 3,s 823 0 26 26,q 0])⟩
def D38_1:Ent:=⟨913,[p 726,q 3],[(11,O46),(12,O43),(20,O24),(698,O22),(699,O47),(726,O26),(742,O10),(744,.cells R3 1 true false),(746,O19)],[(12,O44)],(tb 9 [O12,.tomb]),(.tuple [q 3,s 922 0 2 2,q 0])⟩
def D38_2:Ent:=⟨931,[p 726,q 3],[(11,O46),(12,O44),(20,O24),(698,O22),(699,O47),(726,O26),(742,O10),(744,.cells R3 1 true false),(746,O19)],[(12,O27)],(tb 9 [O12,.tomb]),(.tuple [q 3,s 940 0 2 2,q 0])⟩
def D38_3:Ent:=⟨949,[p 726,q 3],[(11,O46),(12,O27),(20,O24),(698,O22),(699,O47),(726,O26),(742,O10),(744,.cells R3 1 true false),(746,O19)],[(12,O29)],(tb 9 [O12,.tomb]),(.tuple [q 3,s 958 0 2 2,q 0])⟩
def D38_4:Ent:=⟨1014,[p 726,q 3],[(11,O46),(12,O28),(20,O24),(698,O22),(699,O47),(726,O26),(742,O11),(997,O5),(999,O18)],[(12,O30)],(tb 9 [O13,.tomb]),(.tuple [q 3,s 1023 0 10 10,q 0])⟩
def D38_5:Ent:=⟨1045,[p 726,q 3],[(11,O46),(12,O30),(20,O24),(698,O22),(699,O47),(726,O26),(742,O11),(997,O5),(999,O18)],[(12,O31)],(tb 9 [O13,.tomb]),(.tuple [q 3,s 1054 0 10 10,q 0])⟩
def D38_6:Ent:=⟨1076,[p 726,q 3],[(11,O46),(12,O31),(20,O24),(698,O22),(699,O47),(726,O26),(742,O11),(997,O5),(999,O18)],[(12,O32)],(tb 9 [O13,.tomb]),(.tuple [q 3,s 1085 0 10 10,q 0])⟩
def D38_7:Ent:=⟨1170,[p 726,q 3],[(11,O46),(12,O33),(20,O24),(698,O22),(699,O47),(726,O26),(742,O7),(1153,O6),(1155,O17)],[(12,O34)],(tb 9 [O2,.tomb]),(.tuple [q 3,s 1179 0 18 18,q 0])⟩
def D38_8:Ent:=⟨1214,[p 726,q 3],[(11,O46),(12,O34),(20,O24),(698,O22),(699,O47),(726,O26),(742,O7),(1153,O6),(1155,O17)],[(12,O35)],(tb 9 [O2,.tomb]),(.tuple [q 3,s 1223 0 18 18,q 0])⟩
def D38_9:Ent:=⟨1258,[p 726,q 3],[(11,O46),(12,O35),(20,O24),(698,O22),(699,O47),(726,O26),(742,O7),(1153,O6),(1155,O17)],[(12,O36)],(tb 9 [O2,.tomb]),(.tuple [q 3,s 1267 0 18 18,q 0])⟩
def D38_10:Ent:=⟨1382,[p 143,q 2],[(11,O46),(12,O37),(20,O24),(143,O25),(153,O15),(542,.cells R8 1 true false),(698,O22),(699,O47)],[(12,O38)],(tb 9 [O3,.tomb]),(.tuple [q 3,s 1391 0 26 26,q 0])⟩
def D38_11:Ent:=⟨1446,[p 143,q 2],[(11,O46),(12,O38),(20,O24),(143,O25),(153,O15),(542,.cells R8 1 true false),(698,O22),(699,O47)],[(12,O39)],(tb 9 [O3,.tomb]),(.tuple [q 3,s 1455 0 26 26,q 0])⟩
def D38_12:Ent:=⟨1897,[p 143,q 4],[(11,O45),(12,.cells [v 0,w 0,q 512,q 128,m 11,n,q 0,q 0,n,j 23,j 14] 0 false false),(20,O24),(143,O25),(698,O23),(699,O48),(1519,O9),(1521,O4),(1523,O14)],[(12,O41)],(tb 9 [O12,.tomb]),(.tuple [q 3,s 1906 0 2 2,q 0])⟩
def D38_13:Ent:=⟨1919,[p 143,q 4],[(11,O45),(12,O41),(20,O24),(143,O25),(698,O23),(699,O48),(1519,O9),(1521,O4),(1523,O14)],[(12,O42)],(tb 9 [O12,.tomb]),(.tuple [q 3,s 1928 0 2 2,q 0])⟩
def D38_14:Ent:=⟨1949,[p 143,q 3],[(11,O45),(12,O42),(20,O24),(143,O25),(698,.cells [j 2,q 3,.nils,m 699,m 700] 0 false false),(699,.map [((q 3),(.agg [q 3,j 3]))] 4),(742,.cells [.nils,n,g 1851 0 5 5] 0 false false),(1849,.cells (z 512 0xbdbc10bd89f21cfb 0x3363010001000000326201000100000039610100010000000300000000001a00000003000000000000000300000000035942) 1 true false),(1851,.cells [g 744 0 512 512,g 997 0 512 512,g 1153 0 512 512,g 1365 0 512 512,g 1849 0 512 512] 1 true false)],[(12,.cells [v 0,w 0,q 512,q 128,m 11,n,q 0,q 0,n,j 26,j 14] 0 false false)],(tb 9 [.cells (b8 26 0x3363010001000000326201000100000039610100010000000300) 1 false false,.tomb]),(.tuple [q 3,s 1958 0 26 26,q 0])⟩
def D38:List Ent:=[D38_0,D38_1,D38_2,D38_3,D38_4,D38_5,D38_6,D38_7,D38_8,D38_9,D38_10,D38_11,D38_12,D38_13,D38_14]
def jBe:Ent:=⟨992,[q 512,(.agg [q 3,q 3,j 3]),s 981 0 10 10],[(981,O13)],[],[.tomb,.cells R6 1 false false,.tomb,.tomb],(.tuple [s 993 0 512 512,q 0])⟩
def jBd:Ent:=⟨1148,[q 512,(.agg [q 3,q 3,j 3]),s 1133 0 18 18],[(1133,O2)],[],[.tomb,.cells R7 1 false false,.tomb,.tomb],(.tuple [s 1149 0 512 512,q 0])⟩
def jBc:Ent:=⟨1360,[q 512,(.agg [q 3,q 3,j 3]),s 1341 0 26 26],[(1341,O3)],[],[.tomb,.cells R5 1 false false,.tomb,.tomb],(.tuple [s 1361 0 512 512,q 0])⟩
def jBb:Ent:=⟨1515,[q 512,(.agg [q 3,q 4,j 3]),s 1513 0 2 2],[(1513,O12)],[],[.tomb,.cells R4 1 false false,.tomb,.tomb],(.tuple [s 1516 0 512 512,q 0])⟩
def D145:List Ent:=[jBe,jBd,jBc,jBb]
def qAu:Ent:=⟨996,[p 12,q 3,s 993 0 512 512],[(11,O46),(12,O29),(742,O10),(746,O19),(993,.cells R6 1 false false)],[(12,O28),(742,O11),(746,.tomb)],[.tomb,O5,.tomb,O18],q 0⟩
def qAt:Ent:=⟨1152,[p 12,q 3,s 1149 0 512 512],[(11,O46),(12,O32),(742,O11),(999,O18),(1149,.cells R7 1 false false)],[(12,O33),(742,O7),(999,.tomb)],[.tomb,O6,.tomb,O17],q 0⟩
def qAs:Ent:=⟨1364,[p 12,q 3,s 1361 0 512 512],[(11,O46),(12,O36),(742,O7),(1155,O17),(1361,.cells R5 1 false false)],[(12,O37),(742,O8),(1155,.tomb)],[.tomb,.cells R5 1 true false,.tomb,O16],q 0⟩
def qAr:Ent:=⟨1519,[p 12,q 4,s 1516 0 512 512],[(11,O46),(12,O39),(1516,.cells R4 1 false false)],[(11,O45),(12,O40)],[O9,.tomb,O4,.tomb,O14],q 0⟩
def D51:List Ent:=[qAu,qAt,qAs,qAr]
def jA7:Ent:=⟨992,[p 20,q 3,q 3,s 981 0 10 10],[(11,O46),(12,O29),(20,O24),(132,O21),(742,O10),(746,O19),(981,O13)],[(12,O28),(742,O11),(746,.tomb)],(tb 5 [O5,.tomb,O18]),(.tuple [])⟩
def jA6:Ent:=⟨1148,[p 20,q 3,q 3,s 1133 0 18 18],[(11,O46),(12,O32),(20,O24),(132,O21),(742,O11),(999,O18),(1133,O2)],[(12,O33),(742,O7),(999,.tomb)],(tb 5 [O6,.tomb,O17]),(.tuple [])⟩
def jA5:Ent:=⟨1360,[p 20,q 3,q 3,s 1341 0 26 26],[(11,O46),(12,O36),(20,O24),(132,O21),(742,O7),(1155,O17),(1341,O3)],[(12,O37),(742,O8),(1155,.tomb)],(tb 5 [.cells R5 1 true false,.tomb,O16]),(.tuple [])⟩
def jA4:Ent:=⟨1515,[p 20,q 4,q 3,s 1513 0 2 2],[(11,O46),(12,O39),(20,O24),(132,O21),(1513,O12)],[(11,O45),(12,O40)],(tb 4 [O9,.tomb,O4,.tomb,O14]),(.tuple [])⟩
def D178:List Ent:=[jA7,jA6,jA5,jA4]
def jBg:Ent:=⟨1515,[p 20,q 3,s 1513 0 2 2],[(1,.ro R2),(11,O46),(12,O39),(20,O24),(132,O21),(698,O20),(699,.map [((q 3),(.agg [q 3,j 3]))] 2),(701,O0),(1513,O12)],[(11,O45),(12,O40),(699,O48),(701,O1)],(tb 4 [O9,.tomb,O4,.tomb,O14]),q 4⟩
def D115:List Ent:=[jBg]
def qAg:Ent:=⟨1514,[p 143,q 3,s 1513 0 2 2],[(1,.ro R2),(11,O46),(12,O39),(20,O24),(132,O21),(143,O25),(698,O20),(699,.map [((q 3),(.agg [q 3,j 3]))] 2),(701,O0),(1513,O12)],[(11,O45),(12,O40),(699,O48),(701,O1)],(tb 5 [O9,.tomb,O4,.tomb,O14]),(.tuple [q 4,q 0])⟩
def D68:List Ent:=[qAg]
def X0:=Ca.A8
def X1:=st 38 D38 X0
def X2:=st 145 D145 X1
def X3:=st 51 D51 X2
def X4:=st 178 D178 X3
def X5:=st 115 D115 X4
def X6:=st 68 D68 X5
section
variable {W:World}
theorem nx2 {S s:qm} {f:FuncId} {t:List Ent} {k:qI} (o:Ok W) (hS:Q7 Tryz.prog W S) (hs:Q7 Tryz.prog W s) (h:∀e,e∈t->ek k s f e):Q7 Tryz.prog W (st f t S):=by
 intro g r hr args q kp p E h2 w vs hb hsat rr hv;have hr1:cnd (Nat.beq g f) (some (replay t)) (S g)=some r:=hr;cases hg:Nat.beq g f with
 | false=>rw[hg,Q8] at hr1;exact hS g r hr1 args q kp p E h2 w vs hb hsat rr hv
 | true =>rw[hg,Q6] at hr1;cases hr1;have e:=beq_iff.1 hg;subst e;exact qYx h hs (pos o.1) hmo args q kp p E h2 w vs hb hsat rr hv
end
end Cb
namespace Cb
open Go Go.X Go.Proofs Cm
theorem qBb:ek hints X0 38 D38_0:=by decide +kernel
theorem qBa:ek hints X0 38 D38_1:=by decide +kernel
theorem qA9:ek hints X0 38 D38_2:=by decide +kernel
theorem qA8:ek hints X0 38 D38_3:=by decide +kernel
theorem qA7:ek hints X0 38 D38_4:=by decide +kernel
theorem qA5:ek hints X0 38 D38_5:=by decide +kernel
theorem qA4:ek hints X0 38 D38_6:=by decide +kernel
theorem okD38_7:ek hints X0 38 D38_7:=by decide +kernel
theorem okD38_8:ek hints X0 38 D38_8:=by decide +kernel
theorem okD38_9:ek hints X0 38 D38_9:=by decide +kernel
theorem okD38_10:ek hints X0 38 D38_10:=by decide +kernel
theorem okD38_11:ek hints X0 38 D38_11:=by decide +kernel
theorem okD38_12:ek hints X0 38 D38_12:=by decide +kernel
theorem okD38_13:ek hints X0 38 D38_13:=by decide +kernel
theorem okD38_14:ek hints X0 38 D38_14:=by decide +kernel
theorem qWo:ek hints X1 145 jBe:=by decide +kernel
theorem qWn:ek hints X1 145 jBd:=by decide +kernel
theorem qWm:ek hints X1 145 jBc:=by decide +kernel
theorem qWl:ek hints X1 145 jBb:=by decide +kernel
theorem jCo:ek hints X2 51 qAu:=by decide +kernel
theorem jCn:ek hints X2 51 qAt:=by decide +kernel
theorem jCm:ek hints X2 51 qAs:=by decide +kernel
theorem jCl:ek hints X2 51 qAr:=by decide +kernel
theorem qWh:ek hints X3 178 jA7:=by decide +kernel
theorem qWg:ek hints X3 178 jA6:=by decide +kernel
theorem qWf:ek hints X3 178 jA5:=by decide +kernel
theorem qWe:ek hints X3 178 jA4:=by decide +kernel
theorem qWq:ek hints X4 115 jBg:=by decide +kernel
theorem jCa:ek hints X5 68 qAg:=by decide +kernel
end Cb
namespace Ca
open Go Go.X Go.Proofs Cm
theorem qGw:ek hints A0 125 qIu:=by decide +kernel
theorem qGv:ek hints A0 125 qIt:=by decide +kernel
theorem qGu:ek hints A1 264 qIs:=by decide +kernel
theorem qGt:ek hints A1 264 qIr:=by decide +kernel
theorem qJ1:ek hints A2 22 qS3:=by decide +kernel
theorem okD32_0:ek hints A3 32 D32_0:=by decide +kernel
theorem okD33_0:ek hints A4 33 D33_0:=by decide +kernel
theorem qJ0:ek hints A5 23 qS2:=by decide +kernel
theorem okD8_0:ek hints A6 8 D8_0:=by decide +kernel
theorem okD9_0:ek hints A7 9 D9_0:=by decide +kernel
theorem okD17_0:ek hints Cb.X6 17 D17_0:=by decide +kernel
theorem okD17_1:ek hints Cb.X6 17 D17_1:=by decide +kernel
theorem okD18_0:ek hints A9 18 D18_0:=by decide +kernel
theorem okD18_1:ek hints A9 18 D18_1:=by decide +kernel
theorem okD19_0:ek hints A10 19 D19_0:=by decide +kernel
theorem okD6_0:ek hints A11 6 D6_0:=by decide +kernel
theorem runs:jD0 ((qVo Tryz.prog hints A12 5000 60 4 []).run 0 (jR 3 1 (MnN.tabL.map λz=>AV.int .u8 z)) Log.nil)=true:=by decide +kernel
end Ca
end
