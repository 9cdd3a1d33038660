/-
  PROVED: BulkArgs of banyanlaw15 on a device of blocks of 2048 bytes: its calls, run over abstract values one by one; the law over them, whatever its list and its fill. Conditions: the size is of that kind.
-/
import Derived.Test.YtbhbiccfkkoanaaGreatDoorXh
import Derived.Test.YtbhbiccfkkoanaaGreatDoorZz
import Derived.Test.YtbhbiccfkkoanaaGreatDoorBaN
set_option linter.unusedVariables false
set_option maxRecDepth 1000000
namespace Go.Proofs.YtbhbiccfkkoanaaGreatDoor.B2
open Go Go.X
noncomputable def q (x : Nat) : AV := .int .i64 (.ofNat x)
noncomputable def c (x : Nat) : AV := .int .u8 (.ofNat x)
noncomputable def w (x : Nat) : AV := .int .u32 (.ofNat x)
noncomputable def j (x : Nat) : AV := .int .u64 (.ofNat x)
noncomputable def v (x : Nat) : AV := .int .i32 (.ofNat x)
noncomputable def s (a b x d : Nat) : AV := .slice a b x d false
noncomputable def g (a b x d : Nat) : AV := .slice a b x d true
noncomputable def p (a : Nat) : AV := .ptr a 0
noncomputable def r (a b : Nat) : AV := .ptr a b
noncomputable def m (a : Nat) : AV := .map a
noncomputable def b8t (n : Nat) : Nat → List AV → List AV := Nat.rec (motive := fun _ => Nat → List AV → List AV) (fun _ l => l) (fun _ ih x l => forceNat (Nat.land x 255) fun b => forceNat (Nat.shiftRight x 8) fun y => (.int .u8 (.ofNat b)) :: ih y l) n
noncomputable def S0 : Sums := asX 29 Go.Proofs.YtbhbiccfkkoanaaGreatDoor.As.hitF (byteX 178 SuN.moreK (fun _ => none))
noncomputable def E73_0 : Ent := ⟨85,[.nils],[],[],[],(.tuple [])⟩
noncomputable def E73_1 : Ent := ⟨217,[g 216 0 1 1],[],[],[],(.tuple [])⟩
noncomputable def E73_2 : Ent := ⟨317,[g 316 0 1 1],[],[],[],(.tuple [])⟩
noncomputable def E73_3 : Ent := ⟨313,[g 312 0 1 1],[],[],[],(.tuple [])⟩
noncomputable def E73 : List Ent := [E73_0, E73_1, E73_2, E73_3]
theorem ok73_0 : entOk Tryz.prog Cut.hints S0 5000 60 73 E73_0 = true := by decide +kernel
theorem ok73_1 : entOk Tryz.prog Cut.hints S0 5000 60 73 E73_1 = true := by decide +kernel
theorem ok73_2 : entOk Tryz.prog Cut.hints S0 5000 60 73 E73_2 = true := by decide +kernel
theorem ok73_3 : entOk Tryz.prog Cut.hints S0 5000 60 73 E73_3 = true := by decide +kernel
theorem ok73 : ∀ e, e ∈ E73 → entOk Tryz.prog Cut.hints S0 5000 60 73 e = true := List.forall_mem_cons.2 ⟨ok73_0, List.forall_mem_cons.2 ⟨ok73_1, List.forall_mem_cons.2 ⟨ok73_2, List.forall_mem_cons.2 ⟨ok73_3, List.forall_mem_nil _⟩⟩⟩⟩
noncomputable def S1 : Sums := fun f => cnd (Nat.beq f 73) (some (replay E73)) (S0 f)
noncomputable def E24_0 : Ent := ⟨4,[q 2048,q 64],[],[],[.map [] 0,.cells [v 0,w 0,q 2048,q 64,m 4,(.bool false),q 0,q 0,(.bool false),j 0,j 0] 0 false false],(.tuple [p 5,q 0])⟩
noncomputable def E24 : List Ent := [E24_0]
theorem ok24_0 : entOk Tryz.prog Cut.hints S1 5000 60 24 E24_0 = true := by decide +kernel
theorem ok24 : ∀ e, e ∈ E24 → entOk Tryz.prog Cut.hints S1 5000 60 24 e = true := List.forall_mem_cons.2 ⟨ok24_0, List.forall_mem_nil _⟩
noncomputable def S2 : Sums := fun f => cnd (Nat.beq f 24) (some (replay E24)) (S1 f)
noncomputable def E26_0 : Ent := ⟨6,[p 5],[(4,.map [] 0),(5,.cells [v 0,w 0,q 2048,q 64,m 4,(.bool false),q 0,q 0,(.bool false),j 0,j 0] 0 false false)],[(4,.map [((q 0),(p 23)),((q 1),(p 29))] 2),(5,.cells [v 0,w 0,q 2048,q 64,m 4,(.bool false),q 0,q 0,(.bool false),j 0,j 3] 0 false false)],[.cells [q 0] 0 false false,.map [] 0,.map [] 0,.cells [j 0,q 0,.nils,m 7,m 8] 0 false false,.cells [j 1,q 0,.nils,m 11,m 12] 0 false false,.map [] 0,.map [] 0,.cells [p 5,p 10,p 125,p 128,s 105 0 0 0,(.bool false),.nils] 0 false false,.cells (repA 1 (q 64) (repA 1 (q 2) (repA 1 (j 3) (repA 1023 (j 0) [])))) 0 false false,.map [] 0,.cells [p 10,p 9] 1 false false,.tomb,.tomb,.tomb,.tomb,.tomb,.cells (repA 2048 (c 0) []) 1 false false,.cells [g 25 0 2048 2048,(.bool false),.nils] 0 false false,.cells [] 1 false false,.cells (repA 2048 (c 0) []) 1 true false,.cells [g 25 0 2048 2048] 1 false false,.cells [g 25 0 2048 2048] 1 true false,.cells (repA 2048 (c 0) []) 1 false false,.cells [g 121 0 2048 2048,(.bool false),.nils] 0 false false,.cells [] 1 false false,.cells (repA 2048 (c 0) []) 1 true false,.cells [g 31 0 2048 2048] 1 false false,.cells [g 31 0 2048 2048] 1 true false,.tomb,.cells [c 0] 1 false false,.tomb,.cells [c 0] 1 false false,.tomb,.cells [c 0] 1 false false,.tomb,.cells [c 0] 1 false false,.tomb,.cells [c 0] 1 false false,.tomb,.cells [c 0] 1 false false,.tomb,.cells [c 0] 1 false false,.tomb,.cells [c 0] 1 false false,.tomb,.cells [c 1] 1 false false,.tomb,.cells [c 0] 1 false false,.tomb,.cells [c 0] 1 false false,.tomb,.cells [c 0] 1 false false,.tomb,.cells [c 0] 1 false false,.tomb,.cells [c 0] 1 false false,.tomb,.cells [c 0] 1 false false,.tomb,.cells [m 12] 0 false false,.tomb,.tomb,.tomb,.tomb,.cells [c 0] 1 false false,.tomb,.cells [c 0] 1 false false,.tomb,.cells [c 0] 1 false false,.tomb,.cells [c 0] 1 false false,.tomb,.cells [c 0] 1 false false,.tomb,.cells [m 11] 0 false false,.tomb,.tomb,.tomb,.tomb,.map [] 0,.map [] 0,.tomb,.cells [.nils] 0 false false,.tomb,.cells [c 0] 1 false false,.tomb,.cells [c 0] 1 false false,.tomb,.cells [c 0] 1 false false,.tomb,.cells [c 0] 1 false false,.cells (b8 24 0x10000000000000000) 1 true false,.cells [g 97 0 24 24] 0 false false,.cells [q 2012] 0 false false,.cells [g 104 0 1 1] 0 false false,.tomb,.tomb,.cells [s 97 0 24 24] 1 false false,.cells [s 97 0 24 24] 1 true false,.cells [q 1] 1 false false,.tomb,.cells [c 0] 1 false false,.tomb,.cells [c 0] 1 false false,.tomb,.cells [c 0] 1 false false,.tomb,.cells [c 0] 1 false false,.tomb,.cells (b8 28 0x1000000000000000000000000) 1 true false,.cells [q 1,q 1,j 1] 0 false false,.cells (b8t 37 0x1000000000000000000000000000000001c00000001000000000000000100000000015942 (repA 2003 (c 0) (b8t 8 0xf45b5e947b3b89e []))) 1 false false,.cells [c 66,c 89,c 0,c 0,c 0,c 0,c 0] 0 false false,.cells [c 66,c 89,c 0,c 0,c 0,c 0,c 0] 0 false false,.cells [] 1 false false,.cells (b8t 37 0x1000000000000000000000000000000001c00000001000000000000000100000000015942 (repA 2003 (c 0) (b8t 8 0xf45b5e947b3b89e []))) 1 true false,.cells [g 121 0 2048 2048] 1 false false,.cells [g 121 0 2048 2048] 1 true false,.tomb,.cells [j 1,q 0,.nils,m 126,m 127] 0 false false,.map [] 0,.map [] 0,.cells (repA 1 (q 64) (repA 1 (q 2) (repA 1 (j 3) (repA 1023 (j 0) [])))) 0 false false,.map [] 0,.cells [p 125,p 10] 1 false false,.tomb,.tomb,.tomb,.tomb,.tomb,.cells [p 13,.nilp,(.bool false),q 0] 0 false false],(.tuple [p 136,q 0])⟩
noncomputable def E26 : List Ent := [E26_0]
theorem ok26_0 : entOk Tryz.prog Cut.hints S2 5000 60 26 E26_0 = true := by decide +kernel
theorem ok26 : ∀ e, e ∈ E26 → entOk Tryz.prog Cut.hints S2 5000 60 26 e = true := List.forall_mem_cons.2 ⟨ok26_0, List.forall_mem_nil _⟩
noncomputable def S3 : Sums := fun f => cnd (Nat.beq f 26) (some (replay E26)) (S2 f)
noncomputable def E11_0 : Ent := ⟨151,[p 136,q 3,s 150 0 2 2],[(1,.ro (b8 64 0x607080d09130e190a1f14220f281a360b172034152c232e1025293c1b30373f050c12181e21273516332b2d243b2f3e04111d26322a3a3d031c313902380100)),(4,.map [((q 0),(p 23)),((q 1),(p 29))] 2),(5,.cells [v 0,w 0,q 2048,q 64,m 4,(.bool false),q 0,q 0,(.bool false),j 0,j 3] 0 false false),(10,.cells [j 1,q 0,.nils,m 11,m 12] 0 false false),(13,.cells [p 5,p 10,p 125,p 128,s 105 0 0 0,(.bool false),.nils] 0 false false),(125,.cells [j 1,q 0,.nils,m 126,m 127] 0 false false),(126,.map [] 0),(128,.cells (repA 1 (q 64) (repA 1 (q 2) (repA 1 (j 3) (repA 1023 (j 0) [])))) 0 false false),(136,.cells [p 13,.nilp,(.bool false),q 0] 0 false false),(150,.cells [c 0,c 0] 1 false false)],[(4,.map [((q 0),(p 23)),((q 1),(p 29)),((q 2),(p 156))] 3),(5,.cells [v 0,w 0,q 2048,q 64,m 4,(.bool false),q 0,q 0,(.bool false),j 0,j 4] 0 false false),(126,.map [((q 2),(.agg [q 3,j 2]))] 1),(128,.cells (repA 1 (q 64) (repA 1 (q 3) (repA 1 (j 7) (repA 1023 (j 0) [])))) 0 false false)],[.cells [q 0] 0 false false,.cells [q 3,q 2,j 2] 0 false false,.cells (b8t 20 0x200000002000000000000000200000000035942 (repA 2020 (c 0) (b8t 8 0x9240e41dce02a601 []))) 1 false false,.cells [c 66,c 89,c 0,c 0,c 0,c 0,c 0] 0 false false,.cells [c 66,c 89,c 0,c 0,c 0,c 0,c 0] 0 false false,.cells [.nils,(.bool false),g 160 0 1 1] 0 false false,.cells [] 1 false false,.cells (b8t 20 0x200000002000000000000000200000000035942 (repA 2020 (c 0) (b8t 8 0x9240e41dce02a601 []))) 1 true false,.cells [g 158 0 2048 2048] 1 false false,.cells [g 158 0 2048 2048] 1 true false],(.tuple [q 2,q 0])⟩
noncomputable def E11 : List Ent := [E11_0]
theorem ok11_0 : entOk Tryz.prog Cut.hints S3 5000 60 11 E11_0 = true := by decide +kernel
theorem ok11 : ∀ e, e ∈ E11 → entOk Tryz.prog Cut.hints S3 5000 60 11 e = true := List.forall_mem_cons.2 ⟨ok11_0, List.forall_mem_nil _⟩
noncomputable def S4 : Sums := fun f => cnd (Nat.beq f 11) (some (replay E11)) (S3 f)
noncomputable def E12_0 : Ent := ⟨161,[p 136,q 2],[(13,.cells [p 5,p 10,p 125,p 128,s 105 0 0 0,(.bool false),.nils] 0 false false),(125,.cells [j 1,q 0,.nils,m 126,m 127] 0 false false),(126,.map [((q 2),(.agg [q 3,j 2]))] 1),(136,.cells [p 13,.nilp,(.bool false),q 0] 0 false false)],[(125,.cells [j 1,q 2,.nils,m 126,m 127] 0 false false)],[.cells [q 0] 0 false false,.cells [q 3,j 2] 0 false false,.cells [q 3,j 2] 0 false false],q 0⟩
noncomputable def E12_1 : Ent := ⟨301,[p 136,q 2],[(13,.cells [p 5,p 125,p 284,p 287,s 264 0 0 0,(.bool false),.nils] 0 false false),(136,.cells [p 13,.nilp,(.bool false),q 0] 0 false false),(284,.cells [j 2,q 2,.nils,m 285,m 286] 0 false false),(285,.map [((q 2),(.agg [q 3,j 2]))] 0)],[(284,.cells [j 2,q 2,.nils,m 285,m 286] 0 false false)],[.cells [q 0] 0 false false,.cells [q 3,j 2] 0 false false,.cells [q 3,j 2] 0 false false],q 0⟩
noncomputable def E12_2 : Ent := ⟨307,[p 297,q 2],[(297,.cells [p 13,p 296,(.bool false),q 0] 0 false false)],[],[.cells [q 117] 0 false false],q 117⟩
noncomputable def E12 : List Ent := [E12_0, E12_1, E12_2]
theorem ok12_0 : entOk Tryz.prog Cut.hints S4 5000 60 12 E12_0 = true := by decide +kernel
theorem ok12_1 : entOk Tryz.prog Cut.hints S4 5000 60 12 E12_1 = true := by decide +kernel
theorem ok12_2 : entOk Tryz.prog Cut.hints S4 5000 60 12 E12_2 = true := by decide +kernel
theorem ok12 : ∀ e, e ∈ E12 → entOk Tryz.prog Cut.hints S4 5000 60 12 e = true := List.forall_mem_cons.2 ⟨ok12_0, List.forall_mem_cons.2 ⟨ok12_1, List.forall_mem_cons.2 ⟨ok12_2, List.forall_mem_nil _⟩⟩⟩
noncomputable def S5 : Sums := fun f => cnd (Nat.beq f 12) (some (replay E12)) (S4 f)
noncomputable def E13_0 : Ent := ⟨164,[p 136],[(4,.map [((q 0),(p 23)),((q 1),(p 29)),((q 2),(p 156))] 3),(5,.cells [v 0,w 0,q 2048,q 64,m 4,(.bool false),q 0,q 0,(.bool false),j 0,j 4] 0 false false),(10,.cells [j 1,q 0,.nils,m 11,m 12] 0 false false),(13,.cells [p 5,p 10,p 125,p 128,s 105 0 0 0,(.bool false),.nils] 0 false false),(23,.cells [g 25 0 2048 2048,(.bool false),.nils] 0 false false),(29,.cells [g 121 0 2048 2048,(.bool false),.nils] 0 false false),(125,.cells [j 1,q 2,.nils,m 126,m 127] 0 false false),(126,.map [((q 2),(.agg [q 3,j 2]))] 1),(127,.map [] 0),(136,.cells [p 13,.nilp,(.bool false),q 0] 0 false false),(156,.cells [.nils,(.bool false),g 160 0 1 1] 0 false false),(160,.cells [g 158 0 2048 2048] 1 true false)],[(5,.cells [v 0,w 0,q 2048,q 64,m 4,(.bool false),q 0,q 0,(.bool false),j 0,j 5] 0 false false),(13,.cells [p 5,p 125,p 284,p 287,s 264 0 0 0,(.bool false),.nils] 0 false false),(23,.cells [g 280 0 2048 2048,(.bool false),.nils] 0 false false),(125,.cells [j 2,q 2,.nils,m 126,m 127] 0 false false),(156,.cells [g 158 0 2048 2048,(.bool false),.nils] 0 false false)],[.cells [q 0] 0 false false,.cells [c 0] 1 false false,.tomb,.cells [c 0] 1 false false,.tomb,.cells [c 0] 1 false false,.tomb,.cells [c 0] 1 false false,.tomb,.cells [c 0] 1 false false,.tomb,.cells [c 0] 1 false false,.tomb,.cells [c 0] 1 false false,.tomb,.cells [c 0] 1 false false,.tomb,.cells [c 2] 1 false false,.tomb,.cells [c 0] 1 false false,.tomb,.cells [c 0] 1 false false,.tomb,.cells [c 0] 1 false false,.tomb,.cells [c 2] 1 false false,.tomb,.cells [c 0] 1 false false,.tomb,.cells [c 0] 1 false false,.tomb,.cells [m 127] 0 false false,.tomb,.tomb,.tomb,.tomb,.cells [c 0] 1 false false,.tomb,.cells [c 0] 1 false false,.tomb,.cells [c 0] 1 false false,.tomb,.cells [c 0] 1 false false,.tomb,.cells [c 1] 1 false false,.tomb,.cells [m 126] 0 false false,.tomb,.tomb,.tomb,.tomb,.tomb,.cells [q 2] 1 true false,.cells [q 3,j 2] 0 false false,.cells [c 0] 1 false false,.tomb,.cells [c 0] 1 false false,.tomb,.cells [c 0] 1 false false,.tomb,.cells [c 2] 1 false false,.tomb,.cells [c 3] 1 false false,.tomb,.cells [c 0] 1 false false,.tomb,.cells [c 0] 1 false false,.tomb,.cells [c 0] 1 false false,.tomb,.cells [c 0] 1 false false,.tomb,.cells [c 0] 1 false false,.tomb,.cells [c 0] 1 false false,.tomb,.cells [c 0] 1 false false,.tomb,.cells [c 2] 1 false false,.tomb,.map [] 0,.map [] 0,.tomb,.cells [.nils] 0 false false,.tomb,.cells [c 0] 1 false false,.tomb,.cells [c 0] 1 false false,.tomb,.cells [c 0] 1 false false,.tomb,.cells [c 0] 1 false false,.cells (b8 37 0x20000000000000003020000000100000000000002000000020000000000000000) 1 true false,.cells [g 256 0 37 37] 0 false false,.cells [q 2012] 0 false false,.cells [g 263 0 1 1] 0 false false,.tomb,.tomb,.cells [s 256 0 37 37] 1 false false,.cells [s 256 0 37 37] 1 true false,.cells [q 0] 1 false false,.tomb,.cells [c 0] 1 false false,.tomb,.cells [c 0] 1 false false,.tomb,.cells [c 0] 1 false false,.tomb,.cells [c 0] 1 false false,.tomb,.cells (b8 41 0x2000000000000000302000000010000000000000200000002000000000000000000000000) 1 true false,.cells [q 1,q 0,j 2] 0 false false,.cells (b8t 61 0x2000000000000000302000000010000000000000200000002000000000000000000000000000000002900000002000000000000000000000000015942 (repA 1979 (c 0) (b8t 8 0x9a002ede7154dfa6 []))) 1 false false,.cells [c 66,c 89,c 0,c 0,c 0,c 0,c 0] 0 false false,.cells [c 66,c 89,c 0,c 0,c 0,c 0,c 0] 0 false false,.cells [] 1 false false,.cells (b8t 61 0x2000000000000000302000000010000000000000200000002000000000000000000000000000000002900000002000000000000000000000000015942 (repA 1979 (c 0) (b8t 8 0x9a002ede7154dfa6 []))) 1 true false,.cells [g 280 0 2048 2048] 1 false false,.cells [g 280 0 2048 2048] 1 true false,.tomb,.cells [j 2,q 2,.nils,m 285,m 286] 0 false false,.map [((q 2),(.agg [q 3,j 2]))] 0,.map [] 0,.cells (repA 1 (q 64) (repA 1 (q 3) (repA 1 (j 7) (repA 1023 (j 0) [])))) 0 false false,.map [((q 2),(.agg []))] 2,.cells [p 284,p 125] 1 false false,.tomb,.tomb,.tomb,.tomb,.tomb],q 0⟩
noncomputable def E13 : List Ent := [E13_0]
theorem ok13_0 : entOk Tryz.prog Cut.hints S5 5000 60 13 E13_0 = true := by decide +kernel
theorem ok13 : ∀ e, e ∈ E13 → entOk Tryz.prog Cut.hints S5 5000 60 13 e = true := List.forall_mem_cons.2 ⟨ok13_0, List.forall_mem_nil _⟩
noncomputable def S6 : Sums := fun f => cnd (Nat.beq f 13) (some (replay E13)) (S5 f)
noncomputable def E14_0 : Ent := ⟨295,[p 136,(.str [97])],[(13,.cells [p 5,p 125,p 284,p 287,s 264 0 0 0,(.bool false),.nils] 0 false false),(125,.cells [j 2,q 2,.nils,m 126,m 127] 0 false false),(136,.cells [p 13,.nilp,(.bool false),q 0] 0 false false),(284,.cells [j 2,q 2,.nils,m 285,m 286] 0 false false),(286,.map [] 0)],[(286,.map [((.str [97]),(p 296))] 1)],[.cells [q 0] 0 false false,.cells [j 2,q 2,.nils,m 126,.nilMap] 0 false false],q 0⟩
noncomputable def E14 : List Ent := [E14_0]
theorem ok14_0 : entOk Tryz.prog Cut.hints S6 5000 60 14 E14_0 = true := by decide +kernel
theorem ok14 : ∀ e, e ∈ E14 → entOk Tryz.prog Cut.hints S6 5000 60 14 e = true := List.forall_mem_cons.2 ⟨ok14_0, List.forall_mem_nil _⟩
noncomputable def S7 : Sums := fun f => cnd (Nat.beq f 14) (some (replay E14)) (S6 f)
noncomputable def E15_0 : Ent := ⟨297,[p 136,(.str [97])],[(13,.cells [p 5,p 125,p 284,p 287,s 264 0 0 0,(.bool false),.nils] 0 false false),(136,.cells [p 13,.nilp,(.bool false),q 0] 0 false false),(284,.cells [j 2,q 2,.nils,m 285,m 286] 0 false false),(286,.map [((.str [97]),(p 296))] 1)],[],[.cells [p 13,p 296,(.bool false),q 0] 0 false false],(.tuple [p 297,q 0])⟩
noncomputable def E15 : List Ent := [E15_0]
theorem ok15_0 : entOk Tryz.prog Cut.hints S7 5000 60 15 E15_0 = true := by decide +kernel
theorem ok15 : ∀ e, e ∈ E15 → entOk Tryz.prog Cut.hints S7 5000 60 15 e = true := List.forall_mem_cons.2 ⟨ok15_0, List.forall_mem_nil _⟩
noncomputable def S8 : Sums := fun f => cnd (Nat.beq f 15) (some (replay E15)) (S7 f)
noncomputable def E16_0 : Ent := ⟨301,[p 136],[(13,.cells [p 5,p 125,p 284,p 287,s 264 0 0 0,(.bool false),.nils] 0 false false),(136,.cells [p 13,.nilp,(.bool false),q 0] 0 false false),(284,.cells [j 2,q 2,.nils,m 285,m 286] 0 false false)],[],[],q 2⟩
noncomputable def E16_1 : Ent := ⟨304,[p 136],[(13,.cells [p 5,p 125,p 284,p 287,s 264 0 0 0,(.bool false),.nils] 0 false false),(136,.cells [p 13,.nilp,(.bool false),q 0] 0 false false),(284,.cells [j 2,q 2,.nils,m 285,m 286] 0 false false)],[],[],q 2⟩
noncomputable def E16_2 : Ent := ⟨307,[p 297],[(296,.cells [j 2,q 2,.nils,m 126,.nilMap] 0 false false),(297,.cells [p 13,p 296,(.bool false),q 0] 0 false false)],[],[],q 2⟩
noncomputable def E16_3 : Ent := ⟨310,[p 136],[(13,.cells [p 5,p 125,p 284,p 287,s 264 0 0 0,(.bool false),.nils] 0 false false),(136,.cells [p 13,.nilp,(.bool false),q 0] 0 false false),(284,.cells [j 2,q 2,.nils,m 285,m 286] 0 false false)],[],[],q 2⟩
noncomputable def E16_4 : Ent := ⟨306,[p 136],[(13,.cells [p 5,p 125,p 284,p 287,s 264 0 0 0,(.bool false),.nils] 0 false false),(136,.cells [p 13,.nilp,(.bool false),q 0] 0 false false),(284,.cells [j 2,q 2,.nils,m 285,m 286] 0 false false)],[],[],q 2⟩
noncomputable def E16 : List Ent := [E16_0, E16_1, E16_2, E16_3, E16_4]
theorem ok16_0 : entOk Tryz.prog Cut.hints S8 5000 60 16 E16_0 = true := by decide +kernel
theorem ok16_1 : entOk Tryz.prog Cut.hints S8 5000 60 16 E16_1 = true := by decide +kernel
theorem ok16_2 : entOk Tryz.prog Cut.hints S8 5000 60 16 E16_2 = true := by decide +kernel
theorem ok16_3 : entOk Tryz.prog Cut.hints S8 5000 60 16 E16_3 = true := by decide +kernel
theorem ok16_4 : entOk Tryz.prog Cut.hints S8 5000 60 16 E16_4 = true := by decide +kernel
theorem ok16 : ∀ e, e ∈ E16 → entOk Tryz.prog Cut.hints S8 5000 60 16 e = true := List.forall_mem_cons.2 ⟨ok16_0, List.forall_mem_cons.2 ⟨ok16_1, List.forall_mem_cons.2 ⟨ok16_2, List.forall_mem_cons.2 ⟨ok16_3, List.forall_mem_cons.2 ⟨ok16_4, List.forall_mem_nil _⟩⟩⟩⟩⟩
noncomputable def S9 : Sums := fun f => cnd (Nat.beq f 16) (some (replay E16)) (S8 f)
noncomputable def E18_0 : Ent := ⟨310,[p 136],[(13,.cells [p 5,p 125,p 284,p 287,s 264 0 0 0,(.bool false),.nils] 0 false false),(136,.cells [p 13,.nilp,(.bool false),q 0] 0 false false),(284,.cells [j 2,q 2,.nils,m 285,m 286] 0 false false),(285,.map [((q 2),(.agg [q 3,j 2]))] 0)],[],[.cells [m 285] 0 false false,.tomb,.tomb,.tomb,.tomb,.tomb,.cells [q 2] 1 true false],g 316 0 1 1⟩
noncomputable def E18_1 : Ent := ⟨306,[p 136],[(13,.cells [p 5,p 125,p 284,p 287,s 264 0 0 0,(.bool false),.nils] 0 false false),(136,.cells [p 13,.nilp,(.bool false),q 0] 0 false false),(284,.cells [j 2,q 2,.nils,m 285,m 286] 0 false false),(285,.map [((q 2),(.agg [q 3,j 2]))] 0)],[],[.cells [m 285] 0 false false,.tomb,.tomb,.tomb,.tomb,.tomb,.cells [q 2] 1 true false],g 312 0 1 1⟩
noncomputable def E18 : List Ent := [E18_0, E18_1]
theorem ok18_0 : entOk Tryz.prog Cut.hints S9 5000 60 18 E18_0 = true := by decide +kernel
theorem ok18_1 : entOk Tryz.prog Cut.hints S9 5000 60 18 E18_1 = true := by decide +kernel
theorem ok18 : ∀ e, e ∈ E18 → entOk Tryz.prog Cut.hints S9 5000 60 18 e = true := List.forall_mem_cons.2 ⟨ok18_0, List.forall_mem_cons.2 ⟨ok18_1, List.forall_mem_nil _⟩⟩
noncomputable def S10 : Sums := fun f => cnd (Nat.beq f 18) (some (replay E18)) (S9 f)
noncomputable def E17_0 : Ent := ⟨318,[g 316 0 1 1,s 317 0 1 1],[(316,.cells [q 2] 1 true false),(317,.cells [q 2] 1 false false)],[],[],(.bool true)⟩
noncomputable def E17_1 : Ent := ⟨314,[g 312 0 1 1,s 313 0 1 1],[(312,.cells [q 2] 1 true false),(313,.cells [q 2] 1 false false)],[],[],(.bool true)⟩
noncomputable def E17 : List Ent := [E17_0, E17_1]
theorem ok17_0 : entOk Tryz.prog Cut.hints S10 5000 60 17 E17_0 = true := by decide +kernel
theorem ok17_1 : entOk Tryz.prog Cut.hints S10 5000 60 17 E17_1 = true := by decide +kernel
theorem ok17 : ∀ e, e ∈ E17 → entOk Tryz.prog Cut.hints S10 5000 60 17 e = true := List.forall_mem_cons.2 ⟨ok17_0, List.forall_mem_cons.2 ⟨ok17_1, List.forall_mem_nil _⟩⟩
noncomputable def S11 : Sums := fun f => cnd (Nat.beq f 17) (some (replay E17)) (S10 f)
noncomputable def E10_0 : Ent := ⟨147,[(.iface 34 (q 1))],[],[],[.cells [q 1] 0 false false],q 1⟩
noncomputable def E10_1 : Ent := ⟨148,[(.iface 34 (q 1))],[],[],[.cells [q 1] 0 false false],q 1⟩
noncomputable def E10_2 : Ent := ⟨149,[(.iface 34 (q 1))],[],[],[.cells [q 1] 0 false false],q 1⟩
noncomputable def E10_3 : Ent := ⟨308,[(.iface 34 (q 152))],[],[],[.cells [q 152] 0 false false],q 152⟩
noncomputable def E10_4 : Ent := ⟨309,[(.iface 34 (q 117))],[],[],[.cells [q 117] 0 false false],q 117⟩
noncomputable def E10_5 : Ent := ⟨304,[(.iface 34 (q 1))],[],[],[.cells [q 1] 0 false false],q 1⟩
noncomputable def E10_6 : Ent := ⟨305,[(.iface 34 (q 1))],[],[],[.cells [q 1] 0 false false],q 1⟩
noncomputable def E10 : List Ent := [E10_0, E10_1, E10_2, E10_3, E10_4, E10_5, E10_6]
theorem ok10_0 : entOk Tryz.prog Cut.hints S11 5000 60 10 E10_0 = true := by decide +kernel
theorem ok10_1 : entOk Tryz.prog Cut.hints S11 5000 60 10 E10_1 = true := by decide +kernel
theorem ok10_2 : entOk Tryz.prog Cut.hints S11 5000 60 10 E10_2 = true := by decide +kernel
theorem ok10_3 : entOk Tryz.prog Cut.hints S11 5000 60 10 E10_3 = true := by decide +kernel
theorem ok10_4 : entOk Tryz.prog Cut.hints S11 5000 60 10 E10_4 = true := by decide +kernel
theorem ok10_5 : entOk Tryz.prog Cut.hints S11 5000 60 10 E10_5 = true := by decide +kernel
theorem ok10_6 : entOk Tryz.prog Cut.hints S11 5000 60 10 E10_6 = true := by decide +kernel
theorem ok10 : ∀ e, e ∈ E10 → entOk Tryz.prog Cut.hints S11 5000 60 10 e = true := List.forall_mem_cons.2 ⟨ok10_0, List.forall_mem_cons.2 ⟨ok10_1, List.forall_mem_cons.2 ⟨ok10_2, List.forall_mem_cons.2 ⟨ok10_3, List.forall_mem_cons.2 ⟨ok10_4, List.forall_mem_cons.2 ⟨ok10_5, List.forall_mem_cons.2 ⟨ok10_6, List.forall_mem_nil _⟩⟩⟩⟩⟩⟩⟩
noncomputable def S12 : Sums := fun f => cnd (Nat.beq f 10) (some (replay E10)) (S11 f)
section
variable {W : World}
theorem ss0 (hW : 3 ≤ W.heap.size) (hg : W.cell? ⟨0, 0, none⟩ = some (.iface 189 (.agg #[.pointer (some ⟨3, 30, none⟩)]))) : SumsSound Tryz.prog W S0 := as_sound (SuN.more_sound noSums hW) (Go.Proofs.YtbhbiccfkkoanaaGreatDoor.As.facts hg)
theorem ss1 (hW : 3 ≤ W.heap.size) (hmo : Tryz.prog.follows .mixedOrders = true) (hg : W.cell? ⟨0, 0, none⟩ = some (.iface 189 (.agg #[.pointer (some ⟨3, 30, none⟩)]))) : SumsSound Tryz.prog W S1 := SumsSound.add (ss0 hW hg) (.inl (Nat.lt_of_lt_of_le (by decide) hW)) hmo ok73
theorem ss2 (hW : 3 ≤ W.heap.size) (hmo : Tryz.prog.follows .mixedOrders = true) (hg : W.cell? ⟨0, 0, none⟩ = some (.iface 189 (.agg #[.pointer (some ⟨3, 30, none⟩)]))) : SumsSound Tryz.prog W S2 := SumsSound.add (ss1 hW hmo hg) (.inl (Nat.lt_of_lt_of_le (by decide) hW)) hmo ok24
theorem ss3 (hW : 3 ≤ W.heap.size) (hmo : Tryz.prog.follows .mixedOrders = true) (hg : W.cell? ⟨0, 0, none⟩ = some (.iface 189 (.agg #[.pointer (some ⟨3, 30, none⟩)]))) : SumsSound Tryz.prog W S3 := SumsSound.add (ss2 hW hmo hg) (.inl (Nat.lt_of_lt_of_le (by decide) hW)) hmo ok26
theorem ss4 (hW : 3 ≤ W.heap.size) (hmo : Tryz.prog.follows .mixedOrders = true) (hg : W.cell? ⟨0, 0, none⟩ = some (.iface 189 (.agg #[.pointer (some ⟨3, 30, none⟩)]))) : SumsSound Tryz.prog W S4 := SumsSound.add (ss3 hW hmo hg) (.inl (Nat.lt_of_lt_of_le (by decide) hW)) hmo ok11
theorem ss5 (hW : 3 ≤ W.heap.size) (hmo : Tryz.prog.follows .mixedOrders = true) (hg : W.cell? ⟨0, 0, none⟩ = some (.iface 189 (.agg #[.pointer (some ⟨3, 30, none⟩)]))) : SumsSound Tryz.prog W S5 := SumsSound.add (ss4 hW hmo hg) (.inl (Nat.lt_of_lt_of_le (by decide) hW)) hmo ok12
theorem ss6 (hW : 3 ≤ W.heap.size) (hmo : Tryz.prog.follows .mixedOrders = true) (hg : W.cell? ⟨0, 0, none⟩ = some (.iface 189 (.agg #[.pointer (some ⟨3, 30, none⟩)]))) : SumsSound Tryz.prog W S6 := SumsSound.add (ss5 hW hmo hg) (.inl (Nat.lt_of_lt_of_le (by decide) hW)) hmo ok13
theorem ss7 (hW : 3 ≤ W.heap.size) (hmo : Tryz.prog.follows .mixedOrders = true) (hg : W.cell? ⟨0, 0, none⟩ = some (.iface 189 (.agg #[.pointer (some ⟨3, 30, none⟩)]))) : SumsSound Tryz.prog W S7 := SumsSound.add (ss6 hW hmo hg) (.inl (Nat.lt_of_lt_of_le (by decide) hW)) hmo ok14
theorem ss8 (hW : 3 ≤ W.heap.size) (hmo : Tryz.prog.follows .mixedOrders = true) (hg : W.cell? ⟨0, 0, none⟩ = some (.iface 189 (.agg #[.pointer (some ⟨3, 30, none⟩)]))) : SumsSound Tryz.prog W S8 := SumsSound.add (ss7 hW hmo hg) (.inl (Nat.lt_of_lt_of_le (by decide) hW)) hmo ok15
theorem ss9 (hW : 3 ≤ W.heap.size) (hmo : Tryz.prog.follows .mixedOrders = true) (hg : W.cell? ⟨0, 0, none⟩ = some (.iface 189 (.agg #[.pointer (some ⟨3, 30, none⟩)]))) : SumsSound Tryz.prog W S9 := SumsSound.add (ss8 hW hmo hg) (.inl (Nat.lt_of_lt_of_le (by decide) hW)) hmo ok16
theorem ss10 (hW : 3 ≤ W.heap.size) (hmo : Tryz.prog.follows .mixedOrders = true) (hg : W.cell? ⟨0, 0, none⟩ = some (.iface 189 (.agg #[.pointer (some ⟨3, 30, none⟩)]))) : SumsSound Tryz.prog W S10 := SumsSound.add (ss9 hW hmo hg) (.inl (Nat.lt_of_lt_of_le (by decide) hW)) hmo ok18
theorem ss11 (hW : 3 ≤ W.heap.size) (hmo : Tryz.prog.follows .mixedOrders = true) (hg : W.cell? ⟨0, 0, none⟩ = some (.iface 189 (.agg #[.pointer (some ⟨3, 30, none⟩)]))) : SumsSound Tryz.prog W S11 := SumsSound.add (ss10 hW hmo hg) (.inl (Nat.lt_of_lt_of_le (by decide) hW)) hmo ok17
theorem ss12 (hW : 3 ≤ W.heap.size) (hmo : Tryz.prog.follows .mixedOrders = true) (hg : W.cell? ⟨0, 0, none⟩ = some (.iface 189 (.agg #[.pointer (some ⟨3, 30, none⟩)]))) : SumsSound Tryz.prog W S12 := SumsSound.add (ss11 hW hmo hg) (.inl (Nat.lt_of_lt_of_le (by decide) hW)) hmo ok10
end
noncomputable def F7_0 (lz : Bool) (fill : Int) : Ent := ⟨138,[.nilp,.bool lz,p 137,.int .i64 fill],[],[],[.cells [.nilp] 0 false false,.cells [q 0] 0 false false,.cells [(.iface 34 (q 1))] 0 false false],(.tuple [q 0,(.iface 34 (q 1))])⟩
noncomputable def F8 (fill : Int) : Ent := ⟨141,[p 136,.nilFunc,.int .i64 fill],[],[],[.cells [p 136] 0 false false,.cells [q 0] 0 false false,.cells [(.iface 34 (q 1))] 0 false false],(.tuple [q 0,(.iface 34 (q 1))])⟩
noncomputable def F9 (fill : Int) : Ent := ⟨144,[p 136,.nilFunc,.int .i64 fill],[],[],[.cells [p 136] 0 false false,.cells [q 0] 0 false false,.cells [(.iface 34 (q 1))] 0 false false],(.tuple [q 0,(.iface 34 (q 1))])⟩
noncomputable def G7_1 (lz : Bool) (fill : Int) : Ent := ⟨298,[p 136,.bool lz,p 137,.int .i64 fill],[(13,.cells [p 5,p 125,p 284,p 287,s 264 0 0 0,(.bool false),.nils] 0 false false),(136,.cells [p 13,.nilp,(.bool false),q 0] 0 false false),(284,.cells [j 2,q 2,.nils,m 285,m 286] 0 false false),(285,.map [((q 2),(.agg [q 3,j 2]))] 0)],[(284,.cells [j 2,q 2,.nils,m 285,m 286] 0 false false)],[.cells [p 136] 0 false false,.cells [q 0] 0 false false,.cells [(.iface 34 (q 152))] 0 false false,.cells [q 0] 0 false false,.cells [q 3,j 2] 0 false false,.cells [q 3,j 2] 0 false false],(.tuple [q 0,(.iface 34 (q 152))])⟩
noncomputable def D7_1 (lz : Bool) (fill : Int) : Ent := ⟨298,[p 136,.bool lz,p 137,.int .i64 fill],[],[],[.cells [p 136] 0 false false,.cells [q 0] 0 false false,.cells [(.iface 34 (q 1))] 0 false false],(.tuple [q 0,(.iface 34 (q 1))])⟩
noncomputable def G7_2 (lz : Bool) (fill : Int) : Ent := ⟨304,[p 297,.bool lz,p 137,.int .i64 fill],[(296,.cells [j 2,q 2,.nils,m 126,.nilMap] 0 false false),(297,.cells [p 13,p 296,(.bool false),q 0] 0 false false)],[],[.cells [p 297] 0 false false,.cells [q 0] 0 false false,.cells [(.iface 34 (q 117))] 0 false false,.cells [q 117] 0 false false],(.tuple [q 0,(.iface 34 (q 117))])⟩
noncomputable def D7_2 (lz : Bool) (fill : Int) : Ent := ⟨301,[p 297,.bool lz,p 137,.int .i64 fill],[],[],[.cells [p 297] 0 false false,.cells [q 0] 0 false false,.cells [(.iface 34 (q 1))] 0 false false],(.tuple [q 0,(.iface 34 (q 1))])⟩
theorem ok7_0 (fill : Int) : ∀ lz, entOk Tryz.prog Cut.hints S12 5000 60 7 (F7_0 lz fill) = true
  | true => by kernel_rfl
  | false => by kernel_rfl
theorem ok8 (fill : Int) : entOk Tryz.prog Cut.hints S12 5000 60 8 (F8 fill) = true := by kernel_rfl
theorem ok9 (fill : Int) : entOk Tryz.prog Cut.hints S12 5000 60 9 (F9 fill) = true := by kernel_rfl
theorem okg1' : (List.range 51).all (fun i => cnd (entOk Tryz.prog Cut.hints S12 5000 60 7 (G7_1 true (.ofNat (i + 50)))) (entOk Tryz.prog Cut.hints S12 5000 60 7 (G7_1 false (.ofNat (i + 50)))) false) = true := by decide +kernel
theorem okg1 (lz : Bool) {fill : Int} (h1 : 50 ≤ fill) (h2 : fill ≤ 100) : entOk Tryz.prog Cut.hints S12 5000 60 7 (G7_1 lz fill) = true := by
  obtain ⟨i, rfl⟩ : ∃ i : Nat, fill = .ofNat (i + 50) := ⟨(fill - 50).toNat, by show fill = (((fill - 50).toNat + 50 : Nat) : Int); omega⟩
  have h2 : ((i + 50 : Nat) : Int) ≤ 100 := h2
  have h3 := List.all_eq_true.1 okg1' i (List.mem_range.2 (by omega))
  obtain ⟨h4, h5⟩ := cnd_and.1 h3
  cases lz
  · exact h5
  · exact h4
theorem okd1' : (List.range 50).all (fun i => cnd (entOk Tryz.prog Cut.hints S12 5000 60 7 (D7_1 true (.ofNat i))) (entOk Tryz.prog Cut.hints S12 5000 60 7 (D7_1 false (.ofNat i))) false) = true := by decide +kernel
theorem okn1 (i : Nat) : ∀ lz, entOk Tryz.prog Cut.hints S12 5000 60 7 (D7_1 lz (.negSucc i)) = true
  | true => by kernel_rfl
  | false => by kernel_rfl
theorem okm1 (i : Nat) : ∀ lz, entOk Tryz.prog Cut.hints S12 5000 60 7 (D7_1 lz (.ofNat (i + 101))) = true
  | true => by kernel_rfl
  | false => by kernel_rfl
theorem okd1 (lz : Bool) : ∀ {fill : Int}, (fill < 50 ∨ 100 < fill) → entOk Tryz.prog Cut.hints S12 5000 60 7 (D7_1 lz fill) = true
  | .negSucc i, _ => okn1 i lz
  | .ofNat i, h => by
    have h : (i : Int) < 50 ∨ (100 : Int) < (i : Int) := h
    by_cases hi : i < 50
    · have h3 := List.all_eq_true.1 okd1' i (List.mem_range.2 hi)
      obtain ⟨h4, h5⟩ := cnd_and.1 h3
      cases lz
      · exact h5
      · exact h4
    · obtain ⟨k, rfl⟩ : ∃ k, i = k + 101 := ⟨i - 101, by omega⟩
      exact okm1 k lz
theorem okg2' : (List.range 51).all (fun i => cnd (entOk Tryz.prog Cut.hints S12 5000 60 7 (G7_2 true (.ofNat (i + 50)))) (entOk Tryz.prog Cut.hints S12 5000 60 7 (G7_2 false (.ofNat (i + 50)))) false) = true := by decide +kernel
theorem okg2 (lz : Bool) {fill : Int} (h1 : 50 ≤ fill) (h2 : fill ≤ 100) : entOk Tryz.prog Cut.hints S12 5000 60 7 (G7_2 lz fill) = true := by
  obtain ⟨i, rfl⟩ : ∃ i : Nat, fill = .ofNat (i + 50) := ⟨(fill - 50).toNat, by show fill = (((fill - 50).toNat + 50 : Nat) : Int); omega⟩
  have h2 : ((i + 50 : Nat) : Int) ≤ 100 := h2
  have h3 := List.all_eq_true.1 okg2' i (List.mem_range.2 (by omega))
  obtain ⟨h4, h5⟩ := cnd_and.1 h3
  cases lz
  · exact h5
  · exact h4
theorem okd2' : (List.range 50).all (fun i => cnd (entOk Tryz.prog Cut.hints S12 5000 60 7 (D7_2 true (.ofNat i))) (entOk Tryz.prog Cut.hints S12 5000 60 7 (D7_2 false (.ofNat i))) false) = true := by decide +kernel
theorem okn2 (i : Nat) : ∀ lz, entOk Tryz.prog Cut.hints S12 5000 60 7 (D7_2 lz (.negSucc i)) = true
  | true => by kernel_rfl
  | false => by kernel_rfl
theorem okm2 (i : Nat) : ∀ lz, entOk Tryz.prog Cut.hints S12 5000 60 7 (D7_2 lz (.ofNat (i + 101))) = true
  | true => by kernel_rfl
  | false => by kernel_rfl
theorem okd2 (lz : Bool) : ∀ {fill : Int}, (fill < 50 ∨ 100 < fill) → entOk Tryz.prog Cut.hints S12 5000 60 7 (D7_2 lz fill) = true
  | .negSucc i, _ => okn2 i lz
  | .ofNat i, h => by
    have h : (i : Int) < 50 ∨ (100 : Int) < (i : Int) := h
    by_cases hi : i < 50
    · have h3 := List.all_eq_true.1 okd2' i (List.mem_range.2 hi)
      obtain ⟨h4, h5⟩ := cnd_and.1 h3
      cases lz
      · exact h5
      · exact h4
    · obtain ⟨k, rfl⟩ : ∃ k, i = k + 101 := ⟨i - 101, by omega⟩
      exact okm2 k lz
end Go.Proofs.YtbhbiccfkkoanaaGreatDoor.B2
