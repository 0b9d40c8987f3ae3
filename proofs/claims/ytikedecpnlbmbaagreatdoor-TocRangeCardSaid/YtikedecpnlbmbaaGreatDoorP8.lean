/- The digest of bytes: the code of sha.Sum walked on any bytes; bytes as arguments: proved without conditions but those that each names. -/
import Derived.Test.YtikedecpnlbmbaaGreatDoorP6
import Derived.Test.YtikedecpnlbmbaaGreatDoorProg
import Derived.Test.YtikedecpnlbmbaaGreatDoorP7
import Derived.Deep.Slices
import Derived.ChangeArms
set_option maxRecDepth 1000000
set_option linter.unusedVariables false
set_option linter.unusedSimpArgs false
namespace Go.AI
open Go.Proofs N8
noncomputable section
def c104 : CF := ⟨[(gt4, none)], (seqD (seqO (oMv (k (nI .u32 0))) st4 <| normD) (seqD (seqO (oMv gt0) st5 <| seqO (oMv gt1) st6 <| seqO (oNeg gt6) st7 <| seqO (oCallF 147 [gt5, gt7]) st8 <| seqO (oMv gt8) st4 <| normD) retD))⟩
def c147 : CF := ⟨[(gt4, none)], (seqD (seqO (oMv (k (nI .u32 0))) st4 <| normD) (seqD (seqO (oMv gt1) st6 <| seqO (oInt gt6 .u64) st7 <| seqO (oBits gt7 (k (nI .u64 31)) landF) st8 <| seqO (oMv gt8) st5 <| normD) (seqD (seqO (oMv gt0) st9 <| seqO (oMv gt5) st10 <| seqO (oShl gt9 gt10) st11 <| seqO (oMv gt0) st12 <| seqO (oMv gt5) st13 <| seqO (oSub (k (nI .u64 32)) gt13) st14 <| seqO (oShr gt12 gt14) st15 <| seqO (oBits gt11 gt15 lorF) st16 <| seqO (oMv gt16) st4 <| normD) retD)))⟩
def c103_l0 : D := (seqD (seqO (oCmp gt24 gt23 iltF strLt) st25 <| normD) (seqD (condD gt25 normD (exitD 2)) (seqD (blockD 3 (seqD (seqO (oIdxS gt22 gt24 1) st26 <| seqO (oLoad1 gt26) st27 <| seqO (oMv gt27) st6 <| normD) (seqO (oMv gt4) st28 <| seqO (oMv gt4) st29 <| seqO (oIdxA gt3 gt29 64 1) st30 <| seqO (oLoad1 gt30) st31 <| seqO (oShl gt31 (k (nI .u64 8))) st32 <| seqO (oMv gt6) st33 <| seqO (oInt gt33 .u32) st34 <| seqO (oBits gt32 gt34 lorF) st35 <| seqO (oIdxA gt3 gt28 64 1) st36 <| seqO (oStore gt36 gt35 1) d0 <| normD))) (seqO (oAddS gt24 (k (nI .i64 1))) st37 <| seqO (oMv gt37) st24 <| normD))))
def c103_l1 : D := (seqD (seqO (oCmp gt11 (k (nI .i64 64)) iltF strLt) st12 <| normD) (seqD (condD gt12 normD (exitD 0)) (seqD (blockD 1 (seqD (seqO (oMv gt11) st13 <| seqO (oMv gt13) st4 <| normD) (seqD (seqD (seqO (oMv gt4) st14 <| seqO (oCmp gt14 (k (nI .i64 16)) iltF strLt) st15 <| normD) (condD gt15 (seqD (seqD (seqO (oMv gt0) st16 <| seqO (oMv gt4) st17 <| seqO (oMul (k (nI .i64 4)) gt17) st18 <| seqO (oMv gt4) st19 <| seqO (oMul (k (nI .i64 4)) gt19) st20 <| seqO (oAddS gt20 (k (nI .i64 4))) st21 <| seqO (oSlice 1 gt16 (some gt18) (some gt21) none) st22 <| seqO (oLenL gt22) st23 <| seqO (oMv (k (nI .i64 0))) st24 <| normD) (blockD 2 (loopD c103_l0))) (exitD 1)) normD)) (seqD (drawnD [⟨oMv gt4, none, [(st4, gt4)], st38, .free, 0, 0⟩, ⟨oSub gt38 (k (nI .i64 15)), none, [(st38, gt38)], st39, .free, 1, 1⟩, ⟨oIdxA gt3 gt39 64 1, none, [(st3, gt3), (st39, gt39)], st40, .free, 2, 3⟩, ⟨oLoad1 gt40, none, [(st40, gt40)], st41, .read, 3, 7⟩, ⟨oMv gt4, none, [(st4, gt4)], st42, .free, 4, 0⟩, ⟨oSub gt42 (k (nI .i64 2)), none, [(st42, gt42)], st43, .free, 5, 16⟩, ⟨oIdxA gt3 gt43 64 1, none, [(st3, gt3), (st43, gt43)], st44, .free, 6, 48⟩, ⟨oLoad1 gt44, none, [(st44, gt44)], st45, .read, 7, 112⟩, ⟨oMv gt41, none, [(st41, gt41)], st7, .eff, 8, 15⟩, ⟨oMv gt45, none, [(st45, gt45)], st8, .eff, 9, 511⟩]) (seqD (seqO (oMv gt7) st46 <| seqO (oCallF 104 [gt46, (k (nI .i64 7))]) st47 <| seqO (oMv gt7) st48 <| seqO (oCallF 104 [gt48, (k (nI .i64 18))]) st49 <| seqO (oBits gt47 gt49 xorF) st50 <| seqO (oMv gt7) st51 <| seqO (oShr gt51 (k (nI .u64 3))) st52 <| seqO (oBits gt50 gt52 xorF) st53 <| seqO (oMv gt53) st9 <| normD) (seqD (seqO (oMv gt8) st54 <| seqO (oCallF 104 [gt54, (k (nI .i64 17))]) st55 <| seqO (oMv gt8) st56 <| seqO (oCallF 104 [gt56, (k (nI .i64 19))]) st57 <| seqO (oBits gt55 gt57 xorF) st58 <| seqO (oMv gt8) st59 <| seqO (oShr gt59 (k (nI .u64 10))) st60 <| seqO (oBits gt58 gt60 xorF) st61 <| seqO (oMv gt61) st10 <| normD) (drawnD [⟨oMv gt4, none, [(st4, gt4)], st62, .free, 0, 0⟩, ⟨oMv gt10, none, [(st10, gt10)], st63, .free, 1, 0⟩, ⟨oMv gt4, none, [(st4, gt4)], st64, .free, 2, 0⟩, ⟨oSub gt64 (k (nI .i64 7)), none, [(st64, gt64)], st65, .free, 3, 4⟩, ⟨oIdxA gt3 gt65 64 1, none, [(st3, gt3), (st65, gt65)], st66, .free, 4, 12⟩, ⟨oLoad1 gt66, none, [(st66, gt66)], st67, .read, 5, 28⟩, ⟨oAddS gt63 gt67, none, [(st63, gt63), (st67, gt67)], st68, .free, 6, 62⟩, ⟨oMv gt9, none, [(st9, gt9)], st69, .free, 7, 0⟩, ⟨oAddS gt68 gt69, none, [(st68, gt68), (st69, gt69)], st70, .free, 8, 254⟩, ⟨oMv gt4, none, [(st4, gt4)], st71, .free, 9, 0⟩, ⟨oSub gt71 (k (nI .i64 16)), none, [(st71, gt71)], st72, .free, 10, 512⟩, ⟨oIdxA gt3 gt72 64 1, none, [(st3, gt3), (st72, gt72)], st73, .free, 11, 1536⟩, ⟨oLoad1 gt73, none, [(st73, gt73)], st74, .read, 12, 3584⟩, ⟨oAddS gt70 gt74, none, [(st70, gt70), (st74, gt74)], st75, .free, 13, 8190⟩, ⟨oIdxA gt3 gt62 64 1, none, [(st3, gt3), (st62, gt62)], st76, .free, 14, 16383⟩, ⟨oStore gt76 gt75 1, none, [(st76, gt76), (st75, gt75)], d0, .eff, 15, 32767⟩]))))))) (seqO (oAddS gt11 (k (nI .i64 1))) st77 <| seqO (oMv gt77) st11 <| normD))))
def c103 : CF := ⟨[(gt2, some (64, true))], (seqD (seqO (oAllocZ 163 64 (nI .u32 0)) st2 <| normD) (seqD (seqO (oAllocZ 163 64 (nI .u32 0)) st3 <| normD) (seqD (seqD (seqO (oMv (k (nI .i64 0))) st11 <| normD) (blockD 0 (loopD c103_l1))) (seqD (seqO (oLoad gt3 64) st78 <| seqO (oStore gt2 gt78 64) d0 <| normD) retD))))⟩
def c71_l0 : D := (seqD (seqO (oCmp gt18 (k (nI .i64 64)) iltF strLt) st19 <| normD) (seqD (condD gt19 normD (exitD 0)) (seqD (blockD 1 (seqD (seqO (oMv gt18) st20 <| seqO (oMv gt20) st6 <| normD) (seqD (drawnD [⟨oIdxA gt4 (k (nI .i64 4)) 8 1, none, [(st4, gt4)], st21, .free, 0, 0⟩, ⟨oLoad1 gt21, none, [(st21, gt21)], st22, .read, 1, 1⟩, ⟨oIdxA gt4 (k (nI .i64 0)) 8 1, none, [(st4, gt4)], st23, .free, 2, 0⟩, ⟨oLoad1 gt23, none, [(st23, gt23)], st24, .read, 3, 4⟩, ⟨oMv gt22, none, [(st22, gt22)], st7, .eff, 4, 3⟩, ⟨oMv gt24, none, [(st24, gt24)], st8, .eff, 5, 31⟩]) (seqD (drawnD [⟨oIdxA gt4 (k (nI .i64 7)) 8 1, none, [(st4, gt4)], st25, .free, 0, 0⟩, ⟨oLoad1 gt25, none, [(st25, gt25)], st26, .read, 1, 1⟩, ⟨oMv gt7, none, [(st7, gt7)], st27, .free, 2, 0⟩, ⟨oMv gt7, none, [(st7, gt7)], st29, .free, 4, 0⟩, ⟨oMv gt7, none, [(st7, gt7)], st32, .free, 7, 0⟩, ⟨oMv gt7, none, [(st7, gt7)], st36, .free, 11, 0⟩, ⟨oIdxA gt4 (k (nI .i64 5)) 8 1, none, [(st4, gt4)], st37, .free, 12, 0⟩, ⟨oLoad1 gt37, none, [(st37, gt37)], st38, .read, 13, 4096⟩, ⟨oBits gt36 gt38 landF, none, [(st36, gt36), (st38, gt38)], st39, .free, 14, 14336⟩, ⟨oMv gt7, none, [(st7, gt7)], st40, .free, 15, 0⟩, ⟨oXorU gt40, none, [(st40, gt40)], st41, .free, 16, 32768⟩, ⟨oIdxA gt4 (k (nI .i64 6)) 8 1, none, [(st4, gt4)], st42, .free, 17, 0⟩, ⟨oLoad1 gt42, none, [(st42, gt42)], st43, .read, 18, 131072⟩, ⟨oBits gt41 gt43 landF, none, [(st41, gt41), (st43, gt43)], st44, .free, 19, 491520⟩, ⟨oBits gt39 gt44 xorF, none, [(st39, gt39), (st44, gt44)], st45, .free, 20, 1046528⟩, ⟨oMv gt6, none, [(st6, gt6)], st47, .free, 22, 0⟩, ⟨oIdxA (k (.ptr 5 0)) gt47 64 1, none, [(st47, gt47)], st48, .free, 23, 4194304⟩, ⟨oLoad1 gt48, none, [(st48, gt48)], st49, .read, 24, 12582912⟩, ⟨oMv gt6, none, [(st6, gt6)], st51, .free, 26, 0⟩, ⟨oIdxA gt5 gt51 64 1, none, [(st5, gt5), (st51, gt51)], st52, .free, 27, 67108864⟩, ⟨oLoad1 gt52, none, [(st52, gt52)], st53, .read, 28, 201326592⟩, ⟨oCallF 104 [gt27, (k (nI .i64 6))], none, [(st27, gt27)], st28, .eff, 3, 4⟩, ⟨oCallF 104 [gt29, (k (nI .i64 11))], none, [(st29, gt29)], st30, .eff, 5, 28⟩, ⟨oBits gt28 gt30 xorF, none, [(st28, gt28), (st30, gt30)], st31, .free, 6, 60⟩, ⟨oCallF 104 [gt32, (k (nI .i64 25))], none, [(st32, gt32)], st33, .eff, 8, 188⟩, ⟨oBits gt31 gt33 xorF, none, [(st31, gt31), (st33, gt33)], st34, .free, 9, 508⟩, ⟨oAddS gt26 gt34, none, [(st26, gt26), (st34, gt34)], st35, .free, 10, 1023⟩, ⟨oAddS gt35 gt45, none, [(st35, gt35), (st45, gt45)], st46, .free, 21, 2097151⟩, ⟨oAddS gt46 gt49, none, [(st46, gt46), (st49, gt49)], st50, .free, 25, 33554431⟩, ⟨oAddS gt50 gt53, none, [(st50, gt50), (st53, gt53)], st54, .free, 29, 536870911⟩, ⟨oMv gt54, none, [(st54, gt54)], st9, .eff, 30, 1073741823⟩]) (seqD (drawnD [⟨oMv gt8, none, [(st8, gt8)], st55, .free, 0, 0⟩, ⟨oMv gt8, none, [(st8, gt8)], st57, .free, 2, 0⟩, ⟨oMv gt8, none, [(st8, gt8)], st60, .free, 5, 0⟩, ⟨oMv gt8, none, [(st8, gt8)], st63, .free, 8, 0⟩, ⟨oIdxA gt4 (k (nI .i64 1)) 8 1, none, [(st4, gt4)], st64, .free, 9, 0⟩, ⟨oLoad1 gt64, none, [(st64, gt64)], st65, .read, 10, 512⟩, ⟨oBits gt63 gt65 landF, none, [(st63, gt63), (st65, gt65)], st66, .free, 11, 1792⟩, ⟨oMv gt8, none, [(st8, gt8)], st67, .free, 12, 0⟩, ⟨oIdxA gt4 (k (nI .i64 2)) 8 1, none, [(st4, gt4)], st68, .free, 13, 0⟩, ⟨oLoad1 gt68, none, [(st68, gt68)], st69, .read, 14, 8192⟩, ⟨oBits gt67 gt69 landF, none, [(st67, gt67), (st69, gt69)], st70, .free, 15, 28672⟩, ⟨oBits gt66 gt70 xorF, none, [(st66, gt66), (st70, gt70)], st71, .free, 16, 65280⟩, ⟨oIdxA gt4 (k (nI .i64 1)) 8 1, none, [(st4, gt4)], st72, .free, 17, 0⟩, ⟨oLoad1 gt72, none, [(st72, gt72)], st73, .read, 18, 131072⟩, ⟨oIdxA gt4 (k (nI .i64 2)) 8 1, none, [(st4, gt4)], st74, .free, 19, 0⟩, ⟨oLoad1 gt74, none, [(st74, gt74)], st75, .read, 20, 524288⟩, ⟨oBits gt73 gt75 landF, none, [(st73, gt73), (st75, gt75)], st76, .free, 21, 1966080⟩, ⟨oBits gt71 gt76 xorF, none, [(st71, gt71), (st76, gt76)], st77, .free, 22, 4194048⟩, ⟨oCallF 104 [gt55, (k (nI .i64 2))], none, [(st55, gt55)], st56, .eff, 1, 1⟩, ⟨oCallF 104 [gt57, (k (nI .i64 13))], none, [(st57, gt57)], st58, .eff, 3, 7⟩, ⟨oBits gt56 gt58 xorF, none, [(st56, gt56), (st58, gt58)], st59, .free, 4, 15⟩, ⟨oCallF 104 [gt60, (k (nI .i64 22))], none, [(st60, gt60)], st61, .eff, 6, 47⟩, ⟨oBits gt59 gt61 xorF, none, [(st59, gt59), (st61, gt61)], st62, .free, 7, 127⟩, ⟨oAddS gt62 gt77, none, [(st62, gt62), (st77, gt77)], st78, .free, 23, 8388607⟩, ⟨oMv gt78, none, [(st78, gt78)], st10, .eff, 24, 16777215⟩]) (seqD (drawnD [⟨oSlArr 8 1 gt4 (some (k (nI .i64 1))) none none, none, [(st4, gt4)], st79, .free, 0, 0⟩, ⟨oSlArr 8 1 gt4 none (some (k (nI .i64 7))) none, none, [(st4, gt4)], st80, .free, 1, 0⟩, ⟨oCopy gt79 gt80 1, none, [(st79, gt79), (st80, gt80)], st81, .eff, 2, 3⟩]) (seqD (seqO (oIdxA gt4 (k (nI .i64 4)) 8 1) st82 <| seqO (oLoad1 gt82) st83 <| seqO (oMv gt9) st84 <| seqO (oAddS gt83 gt84) st85 <| seqO (oIdxA gt4 (k (nI .i64 4)) 8 1) st86 <| seqO (oStore gt86 gt85 1) d0 <| normD) (seqO (oMv gt9) st87 <| seqO (oMv gt10) st88 <| seqO (oAddS gt87 gt88) st89 <| seqO (oIdxA gt4 (k (nI .i64 0)) 8 1) st90 <| seqO (oStore gt90 gt89 1) d0 <| normD)))))))) (seqO (oAddS gt18 (k (nI .i64 1))) st91 <| seqO (oMv gt91) st18 <| normD))))
def c71_l1 : D := (seqD (seqO (oCmp gt92 (k (nI .i64 8)) iltF strLt) st93 <| normD) (seqD (condD gt93 normD (exitD 2)) (seqD (blockD 3 (seqD (seqO (oMv gt92) st94 <| seqO (oMv gt94) st11 <| normD) (drawnD [⟨oMv gt0, none, [(st0, gt0)], st95, .free, 0, 0⟩, ⟨oMv gt11, none, [(st11, gt11)], st96, .free, 1, 0⟩, ⟨oNil gt95, none, [(st95, gt95)], st97, .free, 2, 1⟩, ⟨oOff gt97 0, none, [(st97, gt97)], st98, .free, 3, 5⟩, ⟨oIdxA gt98 gt96 8 1, none, [(st98, gt98), (st96, gt96)], st99, .free, 4, 15⟩, ⟨oLoad1 gt99, none, [(st99, gt99)], st100, .read, 5, 31⟩, ⟨oMv gt11, none, [(st11, gt11)], st101, .free, 6, 0⟩, ⟨oIdxA gt4 gt101 8 1, none, [(st4, gt4), (st101, gt101)], st102, .free, 7, 64⟩, ⟨oLoad1 gt102, none, [(st102, gt102)], st103, .read, 8, 192⟩, ⟨oAddS gt100 gt103, none, [(st100, gt100), (st103, gt103)], st104, .free, 9, 511⟩, ⟨oNil gt95, none, [(st95, gt95)], st105, .free, 10, 1⟩, ⟨oOff gt105 0, none, [(st105, gt105)], st106, .free, 11, 1025⟩, ⟨oIdxA gt106 gt96 8 1, none, [(st106, gt106), (st96, gt96)], st107, .free, 12, 4095⟩, ⟨oStore gt107 gt104 1, none, [(st107, gt107), (st104, gt104)], d0, .eff, 13, 8191⟩]))) (seqO (oAddS gt92 (k (nI .i64 1))) st108 <| seqO (oMv gt108) st92 <| normD))))
def c71 : CF := ⟨[], (seqD (seqO (oMv gt0) st12 <| seqO (oNil gt12) st13 <| seqO (oOff gt13 0) st14 <| seqO (oLoad gt14 8) st15 <| seqO (oAlloc 131 [(nI .u32 0), (nI .u32 0), (nI .u32 0), (nI .u32 0), (nI .u32 0), (nI .u32 0), (nI .u32 0), (nI .u32 0)]) st4 <| seqO (oStore gt4 gt15 8) d0 <| normD) (seqD (seqO (oMv gt1) st16 <| seqO (oCallF 103 [gt16]) st17 <| seqO (oAllocZ 163 64 (nI .u32 0)) st5 <| seqO (oStore gt5 gt17 64) d0 <| normD) (seqD (seqD (seqO (oMv (k (nI .i64 0))) st18 <| normD) (blockD 0 (loopD c71_l0))) (seqD (seqO (oMv (k (nI .i64 0))) st92 <| normD) (blockD 2 (loopD c71_l1))))))⟩
def c70_l0 : D := (seqD (seqD (seqO (oMv gt0) st5 <| seqO (oLenL gt5) st6 <| seqO (oCmp gt6 (k (nI .i64 64)) igeF strGe) st7 <| normD) (condD gt7 normD (exitD 0))) (seqD (blockD 1 (seqO (oMv gt1) st10 <| seqO (oMv gt0) st11 <| seqO (oSlice 1 gt11 none (some (k (nI .i64 64))) none) st12 <| seqO (oCall gt10 Tryz.prog [gt12]) st13 <| normD)) (seqO (oMv gt0) st8 <| seqO (oSlice 1 gt8 (some (k (nI .i64 64))) none none) st9 <| seqO (oMv gt9) st0 <| normD)))
def c70 : CF := ⟨[(gt4, none)], (seqD (seqO (oMv (k .nils)) st4 <| normD) (seqD (blockD 0 (loopD c70_l0)) (seqD (seqO (oMv gt0) st14 <| seqO (oMv gt14) st4 <| normD) retD)))⟩
def c69 : CF := ⟨[(gt2, none)], (seqD (seqO (oMv (k (.bool false))) st2 <| normD) (seqD (seqO (oMv gt0) st3 <| seqO (oEq gt3 (k .nilp) eqP false) st4 <| seqO (oMv gt4) st5 <| seqG gt5 false (oMv gt0) st6 <| seqG gt5 false (oNil gt6) st7 <| seqG gt5 false (oOff gt7 10) st8 <| seqG gt5 false (oLoad1 gt8) st9 <| seqG gt5 false (oNot gt9) st10 <| seqO (oPick gt5 (k (.bool true)) gt10) st11 <| seqO (oMv gt11) st2 <| normD) retD))⟩
def c46_l0 : D := (seqD (seqD (seqO (oMv gt5) st24 <| seqO (oLenL gt24) st25 <| seqO (oRem gt25 (k (nI .i64 64))) st26 <| seqO (oEq gt26 (k (nI .i64 56)) eqI true) st27 <| normD) (condD gt27 normD (exitD 0))) (blockD 1 (seqO (oMv gt5) st28 <| seqO (oBSlice 5 1 1 [(nI .u8 0)] [⟨0, 1, (k (nI .u8 0))⟩]) st29 <| seqO (oAppend gt28 gt29 5 1 1) st30 <| seqO (oMv gt30) st5 <| normD)))
def c46_l1 : D := (seqD (seqD (seqO (oMv gt6) st31 <| seqO (oCmp gt31 (k (nI .i64 0)) igeF strGe) st32 <| normD) (condD gt32 normD (exitD 2))) (seqD (blockD 3 (seqO (oMv gt5) st35 <| seqO (oMv gt0) st36 <| seqO (oNil gt36) st37 <| seqO (oOff gt37 9) st38 <| seqO (oLoad1 gt38) st39 <| seqO (oShl gt39 (k (nI .u64 3))) st40 <| seqO (oMv gt6) st41 <| seqO (oMul (k (nI .i64 8)) gt41) st42 <| seqO (oShr gt40 gt42) st43 <| seqO (oInt gt43 .u8) st44 <| seqO (oBSlice 5 1 1 [(nI .u8 0)] [⟨0, 1, gt44⟩]) st45 <| seqO (oAppend gt35 gt45 5 1 1) st46 <| seqO (oMv gt46) st5 <| normD)) (seqO (oMv gt6) st33 <| seqO (oSub gt33 (k (nI .i64 1))) st34 <| seqO (oMv gt34) st6 <| normD)))
def c46_l2 : D := (seqD (seqO (oCmp gt51 (k (nI .i64 32)) iltF strLt) st52 <| normD) (seqD (condD gt52 normD (exitD 4)) (seqD (blockD 5 (seqD (seqO (oMv gt51) st53 <| seqO (oMv gt53) st7 <| normD) (seqO (oMv gt7) st54 <| seqO (oMv gt4) st55 <| seqO (oMv gt7) st56 <| seqO (oQuo gt56 (k (nI .i64 4))) st57 <| seqO (oNil gt55) st58 <| seqO (oOff gt58 0) st59 <| seqO (oIdxA gt59 gt57 8 1) st60 <| seqO (oLoad1 gt60) st61 <| seqO (oMv gt7) st62 <| seqO (oRem gt62 (k (nI .i64 4))) st63 <| seqO (oMul (k (nI .i64 8)) gt63) st64 <| seqO (oSub (k (nI .i64 24)) gt64) st65 <| seqO (oShr gt61 gt65) st66 <| seqO (oInt gt66 .u8) st67 <| seqO (oIdxA gt3 gt54 32 1) st68 <| seqO (oStore gt68 gt67 1) d0 <| normD))) (seqO (oAddS gt51 (k (nI .i64 1))) st69 <| seqO (oMv gt69) st51 <| normD))))
def c46 : CF := ⟨[(gt2, some (32, true))], (seqD (seqO (oAllocZ 42 32 (nI .u8 0)) st2 <| normD) (seqD (seqO (oAllocZ 42 32 (nI .u8 0)) st3 <| normD) (seqD (seqD (seqO (oMv gt0) st8 <| seqO (oCallF 69 [gt8]) st9 <| normD) (condD gt9 (seqD (seqO (oLoad gt3 32) st10 <| seqO (oStore gt2 gt10 32) d0 <| normD) retD) normD)) (seqD (seqO (oMv gt0) st11 <| seqO (oNil gt11) st12 <| seqO (oOff gt12 0) st13 <| seqO (oLoad gt13 8) st14 <| seqO (oBuild [(nI .u32 0), (nI .u32 0), (nI .u32 0), (nI .u32 0), (nI .u32 0), (nI .u32 0), (nI .u32 0), (nI .u32 0), .nils, (nI .u64 0), (.bool false)] [⟨0, 8, gt14⟩, ⟨10, 1, (k (.bool true))⟩]) st15 <| seqO (oBox gt15 134) st16 <| seqO (oMv gt16) st4 <| normD) (seqD (seqO (oMv gt0) st17 <| seqO (oNil gt17) st18 <| seqO (oOff gt18 8) st19 <| seqO (oLoad1 gt19) st20 <| seqO (oAppend (k .nils) gt20 5 1 1) st21 <| seqO (oBSlice 5 1 1 [(nI .u8 0)] [⟨0, 1, (k (nI .u8 128))⟩]) st22 <| seqO (oAppend gt21 gt22 5 1 1) st23 <| seqO (oMv gt23) st5 <| normD) (seqD (blockD 0 (loopD c46_l0)) (seqD (seqD (seqO (oMv (k (nI .i64 7))) st6 <| normD) (blockD 2 (loopD c46_l1))) (seqD (seqO (oMv gt5) st47 <| seqO (oMv gt4) st48 <| seqO (oFunc 71 [gt48] []) st49 <| seqO (oCallF 70 [gt47, gt49]) st50 <| normD) (seqD (seqD (seqO (oMv (k (nI .i64 0))) st51 <| normD) (blockD 4 (loopD c46_l2))) (seqD (seqO (oLoad gt3 32) st70 <| seqO (oStore gt2 gt70 32) d0 <| normD) retD))))))))))⟩
def c45 : CF := ⟨[(gt4, none)], (seqD (seqO (oMv (k (nI .i64 0))) st4 <| normD) (seqD (seqD (seqO (oMv gt0) st6 <| seqO (oCallF 69 [gt6]) st7 <| normD) (condD gt7 (seqD (seqO (oMv (k (nI .i64 2))) st4 <| normD) retD) normD)) (seqD (seqO (oMv gt0) st8 <| seqO (oNil gt8) st9 <| seqO (oOff gt9 9) st10 <| seqO (oLoad1 gt10) st11 <| seqO (oMv gt1) st12 <| seqO (oLenL gt12) st13 <| seqO (oInt gt13 .u64) st14 <| seqO (oAddS gt11 gt14) st15 <| seqO (oNil gt8) st16 <| seqO (oOff gt16 9) st17 <| seqO (oStore gt17 gt15 1) d0 <| normD) (seqD (seqO (oMv gt0) st18 <| seqO (oNil gt18) st19 <| seqO (oOff gt19 8) st20 <| seqO (oLoad1 gt20) st21 <| seqO (oMv gt1) st22 <| seqO (oAppend gt21 gt22 5 1 1) st23 <| seqO (oMv gt0) st24 <| seqO (oFunc 71 [gt24] []) st25 <| seqO (oCallF 70 [gt23, gt25]) st26 <| seqO (oMv gt26) st5 <| normD) (seqD (seqO (oMv gt0) st27 <| seqO (oMv gt5) st28 <| seqO (oAppend (k .nils) gt28 5 1 1) st29 <| seqO (oNil gt27) st30 <| seqO (oOff gt30 8) st31 <| seqO (oStore gt31 gt29 1) d0 <| normD) (seqD (seqO (oMv (k (nI .i64 0))) st4 <| normD) retD))))))⟩
def c44 : CF := ⟨[(gt0, none)], (seqD (seqO (oMv (k .nilp)) st0 <| normD) (seqD (seqO (oLoad (k (.ptr 1 0)) 8) st1 <| seqO (oBuild [(nI .u32 0), (nI .u32 0), (nI .u32 0), (nI .u32 0), (nI .u32 0), (nI .u32 0), (nI .u32 0), (nI .u32 0), .nils, (nI .u64 0), (.bool false)] [⟨0, 8, gt1⟩, ⟨10, 1, (k (.bool true))⟩]) st2 <| seqO (oBox gt2 134) st3 <| seqO (oMv gt3) st0 <| normD) retD))⟩
def c24_l0 : D := (seqD (seqO (oCmp gt9 gt8 iltF strLt) st10 <| normD) (seqD (condD gt10 normD (exitD 0)) (seqD (blockD 1 (seqD (seqO (oIdxS gt7 gt9 1) st11 <| seqO (oLoad1 gt11) st12 <| seqO (oMv gt12) st5 <| normD) (seqO (oMv gt3) st13 <| seqO (oMv gt5) st14 <| seqO (oCallF 45 [gt13, gt14]) st15 <| normD))) (seqO (oAddS gt9 (k (nI .i64 1))) st16 <| seqO (oMv gt16) st9 <| normD))))
def c24 : CF := ⟨[(gt2, some (32, true))], (seqD (seqO (oAllocZ 42 32 (nI .u8 0)) st2 <| normD) (seqD (seqO (oCallF 44 []) st6 <| seqO (oMv gt6) st3 <| normD) (seqD (seqD (seqO (oMv gt0) st7 <| seqO (oLenL gt7) st8 <| seqO (oMv (k (nI .i64 0))) st9 <| normD) (blockD 0 (loopD c24_l0))) (seqD (seqO (oMv gt3) st17 <| seqO (oCallF 46 [gt17]) st18 <| seqO (oStore gt2 gt18 32) d0 <| normD) retD))))⟩
def c10 : CF := ⟨[(gt2, some (32, true))], (seqD (seqO (oAllocZ 42 32 (nI .u8 0)) st2 <| normD) (seqD (seqO (oMv gt0) st3 <| seqO (oBSlice 29 1 1 [.nils] [⟨0, 1, gt3⟩]) st4 <| seqO (oCallF 24 [gt4]) st5 <| seqO (oStore gt2 gt5 32) d0 <| normD) retD))⟩
end
end Go.AI

namespace Go.AI
open Go
noncomputable section
variable {lib : Nat → List AV → Heap → Option CR} {fs : T CF} {fuel : Nat}
theorem rot_run {n : Nat} (hl : ∀ l H, lib 147 l H = none) (hf : fs.get 147 = some c147) (a : UInt32) (k : Int) (s : Nat) (h1 : 0 < s) (h2 : s < 32) (hs : Nat.land (bitsOf 18446744073709551616 (IntKind.u64.wrap k)) 31 = s) (H : Heap) :
    callN lib fs fuel (n + 1) 147 [u32V a, .int .i64 k] H = .ret (u32V ((a <<< UInt32.ofNat s) ||| (a >>> UInt32.ofNat (32 - s)))) H := by
  rw [callN_fn (hl _ _) hf]
  have i1 : ∀ H, intV .u64 (.int .i64 k) H = .val (.int .u64 (IntKind.u64.wrap k)) H := fun H => valI_run _ _ _
  have i2 : ∀ H, bitsV landF (.int .u64 (IntKind.u64.wrap k)) (nI .u64 31) H = .val (nI .u64 s) H := fun H => by
    show valI .u64 (.ofNat (Nat.land (bitsOf 18446744073709551616 (IntKind.u64.wrap k)) (31 % 18446744073709551616))) H = _
    rw [valI_run, show 31 % 18446744073709551616 = 31 from rfl, hs, wrap_u64, Nat.mod_eq_of_lt (by omega)]; rfl
  have i3 : ∀ H, subV (nI .u64 32) (nI .u64 s) H = .val (nI .u64 (32 - s)) H := fun H => by
    show valI .u64 (isub (.ofNat 32) (.ofNat s)) H = _
    rw [valI_run, isub_nat (by omega), wrap_u64, Nat.mod_eq_of_lt (by omega)]; rfl
  simp only [c147, outF_ret, results_one, i1, i2, i3, shlV_32 _ h2, shrV_32 _ (show 32 - s < 32 by omega), orV_32, BaseG, N8G, argsT_2, gtr0, gtr1, gtr4, gtr5, gtr6, gtr7, gtr8, gtr9, gtr10, gtr11, gtr12, gtr13, gtr14, gtr15, gtr16, str4, str5, str6, str7, str8, str9, str10, str11, str12, str13, str14, str15, str16, str0, str1, gtr0, gtr1, gtr4]
theorem turn_run {n : Nat} (hl : ∀ l H, lib 147 l H = none) (hl2 : ∀ l H, lib 104 l H = none) (hf : fs.get 147 = some c147) (hf2 : fs.get 104 = some c104) (a : UInt32) (k s : Nat) (h0 : k < 9223372036854775808) (h1 : 0 < s) (h2 : s < 32)
    (hs : Nat.land (bitsOf 18446744073709551616 (IntKind.u64.wrap (IntKind.i64.wrap (isub 0 (.ofNat k))))) 31 = s) (H : Heap) :
    callN lib fs fuel (n + 2) 104 [u32V a, nI .i64 k] H = .ret (u32V ((a <<< UInt32.ofNat s) ||| (a >>> UInt32.ofNat (32 - s)))) H := by
  rw [callN_fn (hl2 _ _) hf2]
  have i1 : ∀ H, negV (nI .i64 k) H = .val (.int .i64 (IntKind.i64.wrap (isub 0 (.ofNat k)))) H := fun H => valI_run _ _ _
  simp only [c104, outF_ret, results_one, i1, rot_run hl hf a _ s h1 h2 hs, BaseG, N8G, argsT_2, gtr0, gtr1, gtr4, gtr5, gtr6, gtr7, gtr8, str4, str5, str6, str7, str8, str0, str1, gtr0, gtr1, gtr4]
end
end Go.AI

namespace Go.AI
open Go
noncomputable section
variable {lib : Nat → List AV → Heap → Option CR} {fs : T CF} {fuel : Nat}
def rotr (x : UInt32) (k : Nat) : UInt32 := (x <<< UInt32.ofNat (32 - k)) ||| (x >>> UInt32.ofNat k)
def sg0 (x : UInt32) : UInt32 := rotr x 7 ^^^ rotr x 18 ^^^ (x >>> UInt32.ofNat 3)
def sg1 (x : UInt32) : UInt32 := rotr x 17 ^^^ rotr x 19 ^^^ (x >>> UInt32.ofNat 10)
theorem turn_is {n : Nat} (hl : ∀ l H, lib 147 l H = none) (hl2 : ∀ l H, lib 104 l H = none) (hf : fs.get 147 = some c147) (hf2 : fs.get 104 = some c104) (a : UInt32) (k : Nat) (h0 : 0 < k) (h : k < 32) (H : Heap) :
    callN lib fs fuel (n + 2) 104 [u32V a, nI .i64 k] H = .ret (u32V (rotr a k)) H := by
  have := turn_run (fuel := fuel) (n := n) hl hl2 hf hf2 a k (32 - k) (by omega) (by omega) (by omega) (by
    have : ∀ k : Fin 32, 0 < k.val → Nat.land (bitsOf 18446744073709551616 (IntKind.u64.wrap (IntKind.i64.wrap (isub 0 (.ofNat k.val))))) 31 = 32 - k.val := by decide +kernel
    exact this ⟨k, h⟩ h0) H
  rw [this, show 32 - (32 - k) = k by omega]
  rfl
end
end Go.AI

namespace Go.AI
open Go
noncomputable section
variable {lib : Nat → List AV → Heap → Option CR} {fs : T CF} {fuel : Nat}
/-- a word's bytes, the first so many -/
def accW (bl : List UInt8) (t : Nat) : Nat → UInt32
  | 0 => 0
  | k + 1 => (accW bl t k <<< UInt32.ofNat 8) ||| (bl.getD (4 * t + k) 0).toUInt32
structure L0 (t bk o : Nat) (cap : Option Nat) (b : Nat) (ws : List UInt32) (bl : List UInt8) (tm0 : TM) (H0 : Heap) (k : Nat) (tm : TM) (H : Heap) : Prop where
  t24 : gt24 tm = nI .i64 k
  t23 : gt23 tm = nI .i64 4
  t22 : gt22 tm = .slice bk (o + 4 * t) 4 cap
  t4 : gt4 tm = nI .i64 t
  t3 : gt3 tm = .ptr b 0
  t0 : gt0 tm = gt0 tm0
  t2 : gt2 tm = gt2 tm0
  t11 : gt11 tm = gt11 tm0
  keep : Keep H0 H [b]
  row : ∃ r, Own H b 163 (((ws ++ [accW bl t k]) ++ List.replicate (63 - t) 0).map u32V) r
theorem l0_step {t bk o b : Nat} {cap : Option Nat} {ws : List UInt32} {bl : List UInt8} {tm0 : TM} {H0 : Heap} {rb : Row} {oc : Option Nat} (hb : Bytes H0 bk o oc bl rb) (hbl : bl.length = 64) (hne : bk ≠ b) (hbk : bk < H0.nx) (ht : t < 16) (hws : ws.length = t)
    (c : Ctx) (x : X) (k : Nat) (tm : TM) (H : Heap) (hk : k < 4) (h : L0 t bk o cap b ws bl tm0 H0 k tm H) : ∃ tm' H', c103_l0 c tm H x = .ok .normal tm' H' x ∧ L0 t bk o cap b ws bl tm0 H0 (k + 1) tm' H' := by
  obtain ⟨r, own⟩ := h.row
  have i24 := h.t24; have i23 := h.t23; have i22 := h.t22; have i4 := h.t4; have i3 := h.t3
  simp only [gtr24, gtr23, gtr22, gtr4, gtr3] at i24 i23 i22 i4 i3
  have lk : k < 4 := hk
  have dk : decide (k < 4) = true := decide_eq_true hk
  have ldb : load1V (.ptr bk (o + 4 * t + k)) H = .val (u8V (bl.getD (4 * t + k) 0)) H := by
    show onRow H bk _ = _
    unfold onRow
    rw [h.keep.get bk hbk (by simpa using hne), hb.at_]
    show onIf (Nat.ble (Nat.succ (o + 4 * t + k)) rb.size) _ = _
    have := hb.fits
    rw [Nat.ble_eq_true_of_le (by omega), Nat.add_assoc o, hb.get _ (by omega)]; rfl
  have ld : load1V (.ptr b t) H = .val (u32V (accW bl t k)) H := by
    rw [load1V_row own.at_ own.cells (by simp; omega), List.getD_eq_getElem?_getD, List.getElem?_map, List.append_assoc, List.getElem?_append_right (by omega), hws, Nat.sub_self]
    rfl
  have st : ∀ v : UInt32, storeV 1 (.ptr b t) (u32V v) H = .val undefA (H.put b (.row (r.setCells (storeN r.cells t [u32V v])))) := fun v => storeV_row (v := u32V v) own.at_ own.cells own.own own.ro own.fz (Nat.le_refl _) rfl (by simp; omega)
  simp (disch := first | omega | rfl) only [c103_l0, i24, i23, i22, i4, i3, cmpV_lt, dk, idxSV_slice, idxAV_ptr, ldb, ld, st, intV_u8_32, orV_32, shlV_32, addV_i, BaseG, N8G, HpG, Nat.zero_add, gtr3, gtr4, gtr6, gtr22, gtr23, gtr24, gtr25, gtr26, gtr27, gtr28, gtr29, gtr30, gtr31, gtr32, gtr33, gtr34, gtr35, gtr36, gtr37, str6, str24, str25, str26, str27, str28, str29, str30, str31, str32, str33, str34, str35, str36, str37]
  refine ⟨_, _, rfl, ?_⟩
  refine ⟨rfl, i23, i22, i4, i3, h.t0, h.t2, h.t11, h.keep.trans (Keep.put fun _ => List.mem_singleton.2 rfl) (fun c hc _ => hc), r.setCells (storeN r.cells t [u32V (accW bl t (k + 1))]), ⟨by rw [put_get, if_pos rfl]; rfl, own.elem, own.sz, own.own, own.fz, own.sm, ?_, own.ro⟩⟩
  have := own.cells.store1 (o := t) (v := u32V (accW bl t (k + 1))) (by simp; omega)
  have e : (((ws ++ [accW bl t k]) ++ List.replicate (63 - t) 0).map u32V).set t (u32V (accW bl t (k + 1))) = ((ws ++ [accW bl t (k + 1)]) ++ List.replicate (63 - t) 0).map u32V := by
    rw [List.map_append, List.map_append, List.map_append, List.map_append, List.append_assoc, List.append_assoc, List.set_append_right _ _ (by rw [List.length_map]; omega), List.length_map, hws, Nat.sub_self]
    rfl
  rw [e] at this
  exact this
end
end Go.AI

namespace Go.AI
open Go
noncomputable section
variable {lib : Nat → List AV → Heap → Option CR} {fs : T CF} {fuel : Nat}
theorem l0_last {t bk o b : Nat} {cap : Option Nat} {ws : List UInt32} {bl : List UInt8} {tm0 : TM} {H0 : Heap} (c : Ctx) (x : X) (tm : TM) (H : Heap) (h : L0 t bk o cap b ws bl tm0 H0 4 tm H) :
    ∃ tm' H', c103_l0 c tm H x = .ok (.exit 2) tm' H' x ∧ L0 t bk o cap b ws bl tm0 H0 4 tm' H' := by
  have i24 := h.t24; have i23 := h.t23; have i22 := h.t22; have i4 := h.t4; have i3 := h.t3
  simp only [gtr24, gtr23, gtr22, gtr4, gtr3] at i24 i23 i22 i4 i3
  have dk : decide (4 < 4) = false := rfl
  simp only [c103_l0, i24, i23, cmpV_lt, dk, BaseG, N8G, HpG, Nat.zero_add, gtr3, gtr4, gtr6, gtr22, gtr23, gtr24, gtr25, gtr26, gtr27, gtr28, gtr29, gtr30, gtr31, gtr32, gtr33, gtr34, gtr35, gtr36, gtr37, str6, str24, str25, str26, str27, str28, str29, str30, str31, str32, str33, str34, str35, str36, str37]
  exact ⟨_, _, rfl, i24, i23, i22, i4, i3, h.t0, h.t2, h.t11, h.keep, h.row⟩
theorem l0_run {t bk o b : Nat} {cap : Option Nat} {ws : List UInt32} {bl : List UInt8} {tm0 : TM} {H0 : Heap} {rb : Row} {oc : Option Nat} (hb : Bytes H0 bk o oc bl rb) (hbl : bl.length = 64) (hne : bk ≠ b) (hbk : bk < H0.nx) (ht : t < 16) (hws : ws.length = t)
    (c : Ctx) (x : X) {F : Nat} (hF : 4 < F) (tm : TM) (H : Heap) (h : L0 t bk o cap b ws bl tm0 H0 0 tm H) : ∃ tm' H', loopN (c103_l0 c) F tm H x = .ok (.exit 2) tm' H' x ∧ L0 t bk o cap b ws bl tm0 H0 4 tm' H' :=
  loopN_exit (L0 t bk o cap b ws bl tm0 H0) (L0 t bk o cap b ws bl tm0 H0 4) 4 (fun k tm H hk hi => l0_step hb hbl hne hbk ht hws c x k tm H hk hi) (fun tm H hi => l0_last c x tm H hi) 4 0 F tm H rfl hF h
theorem sh_after_loop {a : TM → Heap → X → Res} {F i : Nat} {H : Heap} {x : X} {L : Res} {P : TM → Prop} {Q : TM → Heap → Prop} (lp : ∀ T, P T → ∃ tm' H', loopN a F T H x = .ok (.exit i) tm' H' x ∧ Q tm' H') {T : TM} (hL : loopN a F T H x = L) (hi : P T) :
    ∃ tm' H', L = .ok (.exit i) tm' H' x ∧ Q tm' H' := by
  obtain ⟨b, c, e, j⟩ := lp T hi
  exact ⟨b, c, hL.symm.trans e, j⟩
def nextW (l : List UInt32) : UInt32 := sg1 (l.getD (l.length - 2) 0) + l.getD (l.length - 7) 0 + sg0 (l.getD (l.length - 15) 0) + l.getD (l.length - 16) 0
def schedW (bl : List UInt8) : Nat → List UInt32
  | 0 => []
  | t + 1 => schedW bl t ++ [if t < 16 then accW bl t 4 else nextW (schedW bl t)]
theorem schedW_length (bl : List UInt8) : ∀ t, (schedW bl t).length = t
  | 0 => rfl
  | t + 1 => by unfold schedW; rw [List.length_append, schedW_length bl t]; rfl
structure L1 (bk o : Nat) (cap : Option Nat) (b b2 : Nat) (bl : List UInt8) (H0 : Heap) (t : Nat) (tm : TM) (H : Heap) : Prop where
  t11 : gt11 tm = nI .i64 t
  t0 : gt0 tm = .slice bk o 64 cap
  t2 : gt2 tm = .ptr b2 0
  t3 : gt3 tm = .ptr b 0
  keep : Keep H0 H [b]
  row : ∃ r, Own H b 163 ((schedW bl t ++ List.replicate (64 - t) 0).map u32V) r
theorem l1_low {bk o b b2 : Nat} {cap : Option Nat} {bl : List UInt8} {H0 : Heap} {rb : Row} (hb : Bytes H0 bk o cap bl rb) (hbl : bl.length = 64) (hne : bk ≠ b) (hbk : bk < H0.nx) (c : Ctx) (hF : 4 < c.fuel) (x : X)
    (t : Nat) (tm : TM) (H : Heap) (ht : t < 16) (h : L1 bk o cap b b2 bl H0 t tm H) : ∃ tm' H', c103_l1 c tm H x = .ok .normal tm' H' x ∧ L1 bk o cap b b2 bl H0 (t + 1) tm' H' := by
  obtain ⟨r, own⟩ := h.row
  have i11 := h.t11; have i0 := h.t0; have i2 := h.t2; have i3 := h.t3
  simp only [gtr11, gtr0, gtr2, gtr3] at i11 i0 i2 i3
  have d1 : decide (t < 64) = true := decide_eq_true (by omega)
  have d2 : decide (t < 16) = true := decide_eq_true ht
  have sl : sliceV 1 (.slice bk o 64 cap) (some (nI .i64 (4 * t))) (some (nI .i64 (4 * t + 4))) H = .val (.slice bk (o + 4 * t) 4 (capSub cap (4 * t))) H := by
    have h1 := hb.fits
    rw [sliceV_is (r := rb) (by rw [h.keep.get bk hbk (by simpa using hne)]; exact hb.at_) hb.sz (by omega) (by omega) (fun c hc => by have := hb.cap c hc; omega), show 4 * t + 4 - 4 * t = 4 by omega]
  have lp := fun (T : TM) (hi : L0 t bk o (capSub cap (4 * t)) b (schedW bl t) bl tm H0 0 T H) => l0_run hb hbl hne hbk ht (schedW_length bl t) c x hF T H hi
  simp (disch := omega) only [c103_l1, i11, i0, i2, i3, d1, d2, cmpV_lt, mulV_i, addV_i, oSlice_run, Option.map_some, sl, loopD_run, lenV_slice, BaseG, N8G, HpG, Nat.zero_add, gtr0, gtr3, gtr4, gtr7, gtr8, gtr9, gtr10, gtr11, gtr12, gtr13, gtr14, gtr15, gtr16, gtr17, gtr18, gtr19, gtr20, gtr21, gtr22, gtr38, gtr39, gtr40, gtr41, gtr42, gtr43, gtr44, gtr45, gtr46, gtr47, gtr48, gtr49, gtr50, gtr51, gtr52, gtr53, gtr54, gtr55, gtr56, gtr57, gtr58, gtr59, gtr60, gtr61, gtr62, gtr63, gtr64, gtr65, gtr66, gtr67, gtr68, gtr69, gtr70, gtr71, gtr72, gtr73, gtr74, gtr75, gtr76, gtr77, str3, str4, str7, str8, str9, str10, str11, str12, str13, str14, str15, str16, str17, str18, str19, str20, str21, str22, str23, str24, str38, str39, str40, str41, str42, str43, str44, str45, str46, str47, str48, str49, str50, str51, str52, str53, str54, str55, str56, str57, str58, str59, str60, str61, str62, str63, str64, str65, str66, str67, str68, str69, str70, str71, str72, str73, str74, str75, str76, str77]
  generalize hL : loopN (c103_l0 c) c.fuel _ H x = L
  obtain ⟨tm2, H2, rfl, j⟩ := sh_after_loop (P := fun T => L0 t bk o (capSub cap (4 * t)) b (schedW bl t) bl tm H0 0 T H) (Q := L0 t bk o (capSub cap (4 * t)) b (schedW bl t) bl tm H0 4) lp hL ⟨rfl, rfl, rfl, rfl, i3, rfl, rfl, rfl, h.keep, r, by
    have e : ((schedW bl t ++ [accW bl t 0]) ++ List.replicate (63 - t) 0).map u32V = (schedW bl t ++ List.replicate (64 - t) 0).map u32V := by
      rw [List.append_assoc]
      show ((schedW bl t ++ List.replicate (63 - t + 1) 0)).map u32V = _
      rw [show 63 - t + 1 = 64 - t by omega]
    rw [e]; exact own⟩
  have j0 := j.t0; have j2 := j.t2; have j11 := j.t11; have j3 := j.t3
  simp only [gtr11, gtr0, gtr2, gtr3, N8G] at j11 j0 j2 j3
  simp (disch := first | omega | rfl) only [j11, j0, j2, j3, i0, i2, i11, addV_i, leaveB_same, leaveB_normal, thenR_normal, thenR_exit, exitD_run, seqO_run, oAddS_run, oMv_run, goOn_val, gtr11, gtr77, str77, str11, k_run, normD_run, N8G]
  refine ⟨_, _, rfl, rfl, j0.trans i0, j2.trans i2, j3, j.keep, ?_⟩
  have e : (schedW bl t ++ [accW bl t 4]) ++ List.replicate (63 - t) 0 = schedW bl (t + 1) ++ List.replicate (64 - (t + 1)) 0 := by
    rw [show 63 - t = 64 - (t + 1) by omega]
    show _ = (schedW bl t ++ [if t < 16 then accW bl t 4 else nextW (schedW bl t)]) ++ _
    rw [if_pos ht]
  rw [← e]
  exact j.row
theorem l1_high {n : Nat} (hl : ∀ l H, lib 147 l H = none) (hl2 : ∀ l H, lib 104 l H = none) (hf : fs.get 147 = some c147) (hf2 : fs.get 104 = some c104)
    {bk o b b2 : Nat} {cap : Option Nat} {bl : List UInt8} {H0 : Heap} (hbn : b < H0.nx) {rng : AV → (List AV → Heap → CR) → TM → Heap → X → Res} {yld : Nat → List AV → Heap → CR} (x : X)
    (t : Nat) (tm : TM) (H : Heap) (ht : 16 ≤ t) (ht2 : t < 64) (h : L1 bk o cap b b2 bl H0 t tm H) : ∃ tm' H', c103_l1 ⟨callN lib fs fuel (n + 2), yld, rng, fuel, false⟩ tm H x = .ok .normal tm' H' x ∧ L1 bk o cap b b2 bl H0 (t + 1) tm' H' := by
  obtain ⟨r, own⟩ := h.row
  have i11 := h.t11; have i0 := h.t0; have i2 := h.t2; have i3 := h.t3
  simp only [gtr11, gtr0, gtr2, gtr3] at i11 i0 i2 i3
  have d1 : decide (t < 64) = true := decide_eq_true (by omega)
  have d2 : decide (t < 16) = false := decide_eq_false (by omega)
  have hb : b < H.nx := Nat.lt_of_lt_of_le hbn h.keep.nx
  have hlen := schedW_length bl t
  have ld : ∀ (H' : Heap) (o : Nat), H'.t = H.t → o < t → load1V (.ptr b o) H' = .val (u32V ((schedW bl t).getD o 0)) H' := fun H' o he ho => by
    rw [load1V_row (b := b) (r := r) (by rw [he]; exact own.at_) own.cells (by simp; omega), List.getD_eq_getElem?_getD, List.getElem?_map, List.getElem?_append_left (by omega), List.getD_eq_getElem?_getD, List.getElem?_eq_getElem (show o < (schedW bl t).length by omega)]
    rfl
  have tn := fun (a : UInt32) (k : Nat) (h0 : 0 < k) (h : k < 32) (H : Heap) => turn_is (n := n) (fuel := fuel) hl hl2 hf hf2 a k h0 h H
  have st : ∀ v : UInt32, storeV 1 (.ptr b t) (u32V v) H = .val undefA (H.put b (.row (r.setCells (storeN r.cells t [u32V v])))) := fun v => storeV_row (v := u32V v) own.at_ own.cells own.own own.ro own.fz (Nat.le_refl _) rfl (by simp; omega)
  simp (disch := first | omega | rfl) only [c103_l1, i11, i3, d1, d2, cmpV_lt, ld, tn, st, lowV_ptr hb, subV_i, addV_i, idxAV_ptr, addV_32, xorV_32, shrV_32, BaseG, N8G, drawnD_run, planD_nil, planD_cons, normF_run, stepK_free, stepK_read, stepK_eff, freeK_val, readK_val, effK_val, effK_call, retK_ret, keepR_nil, keepR_cons, still_nil, still_cons, rdOk_run, isSame_u32, isSame_u8, isSame_nI, lowOs_nil, lowOs_cons, lowV_nI, lowV_u32, lowV_u8, lowV_bool, rsF_nil, rsF_cons, List.map_cons, List.map_nil, cond_true, cond_false, Nat.testBit_eq_decide_div_mod_eq, Nat.reducePow, Nat.reduceDiv, Nat.reduceMod, decide_true, Nat.reduceEqDiff, decide_false, reduceCtorEq, Nat.zero_ne_one, HpG, Nat.zero_add, gtr0, gtr3, gtr4, gtr7, gtr8, gtr9, gtr10, gtr11, gtr12, gtr13, gtr14, gtr15, gtr16, gtr17, gtr18, gtr19, gtr20, gtr21, gtr22, gtr38, gtr39, gtr40, gtr41, gtr42, gtr43, gtr44, gtr45, gtr46, gtr47, gtr48, gtr49, gtr50, gtr51, gtr52, gtr53, gtr54, gtr55, gtr56, gtr57, gtr58, gtr59, gtr60, gtr61, gtr62, gtr63, gtr64, gtr65, gtr66, gtr67, gtr68, gtr69, gtr70, gtr71, gtr72, gtr73, gtr74, gtr75, gtr76, gtr77, str3, str4, str7, str8, str9, str10, str11, str12, str13, str14, str15, str16, str17, str18, str19, str20, str21, str22, str23, str24, str38, str39, str40, str41, str42, str43, str44, str45, str46, str47, str48, str49, str50, str51, str52, str53, str54, str55, str56, str57, str58, str59, str60, str61, str62, str63, str64, str65, str66, str67, str68, str69, str70, str71, str72, str73, str74, str75, str76, str77]
  refine ⟨_, _, rfl, rfl, i0, i2, i3, h.keep.trans (Keep.put fun _ => List.mem_singleton.2 rfl) (fun c hc _ => hc), r.setCells (storeN r.cells t [u32V (nextW (schedW bl t))]), ⟨?_, own.elem, own.sz, own.own, own.fz, own.sm, ?_, own.ro⟩⟩
  · rw [put_get, if_pos rfl]
    unfold nextW
    rw [hlen]
    rfl
  · have := own.cells.store1 (o := t) (v := u32V (nextW (schedW bl t))) (by simp; omega)
    have e : ((schedW bl t ++ List.replicate (64 - t) 0).map u32V).set t (u32V (nextW (schedW bl t))) = (schedW bl (t + 1) ++ List.replicate (64 - (t + 1)) 0).map u32V := by
      rw [List.map_append, List.set_append_right _ _ (by rw [List.length_map]; omega), List.length_map, hlen, Nat.sub_self, show 64 - t = (64 - (t + 1)) + 1 by omega, List.replicate_succ, List.map_cons, List.set_cons_zero]
      show _ = ((schedW bl t ++ [if t < 16 then accW bl t 4 else nextW (schedW bl t)]) ++ _).map u32V
      rw [if_neg (by omega), List.append_assoc, List.map_append]
      rfl
    rw [e] at this
    exact this
theorem l1_last {bk o b b2 : Nat} {cap : Option Nat} {bl : List UInt8} {H0 : Heap} (c : Ctx) (x : X) (tm : TM) (H : Heap) (h : L1 bk o cap b b2 bl H0 64 tm H) : ∃ tm' H', c103_l1 c tm H x = .ok (.exit 0) tm' H' x ∧ L1 bk o cap b b2 bl H0 64 tm' H' := by
  have i11 := h.t11; have i0 := h.t0; have i2 := h.t2; have i3 := h.t3
  simp only [gtr11, gtr0, gtr2, gtr3] at i11 i0 i2 i3
  have d1 : decide (64 < 64) = false := rfl
  simp only [c103_l1, i11, d1, cmpV_lt, BaseG, N8G, HpG, Nat.zero_add, gtr0, gtr3, gtr4, gtr7, gtr8, gtr9, gtr10, gtr11, gtr12, gtr13, gtr14, gtr15, gtr16, gtr17, gtr18, gtr19, gtr20, gtr21, gtr22, gtr38, gtr39, gtr40, gtr41, gtr42, gtr43, gtr44, gtr45, gtr46, gtr47, gtr48, gtr49, gtr50, gtr51, gtr52, gtr53, gtr54, gtr55, gtr56, gtr57, gtr58, gtr59, gtr60, gtr61, gtr62, gtr63, gtr64, gtr65, gtr66, gtr67, gtr68, gtr69, gtr70, gtr71, gtr72, gtr73, gtr74, gtr75, gtr76, gtr77, str3, str4, str7, str8, str9, str10, str11, str12, str13, str14, str15, str16, str17, str18, str19, str20, str21, str22, str23, str24, str38, str39, str40, str41, str42, str43, str44, str45, str46, str47, str48, str49, str50, str51, str52, str53, str54, str55, str56, str57, str58, str59, str60, str61, str62, str63, str64, str65, str66, str67, str68, str69, str70, str71, str72, str73, str74, str75, str76, str77]
  exact ⟨_, _, rfl, i11, i0, i2, i3, h.keep, h.row⟩
theorem l1_run {n : Nat} (hl : ∀ l H, lib 147 l H = none) (hl2 : ∀ l H, lib 104 l H = none) (hf : fs.get 147 = some c147) (hf2 : fs.get 104 = some c104)
    {bk o b b2 : Nat} {cap : Option Nat} {bl : List UInt8} {H0 : Heap} {rb : Row} (hb : Bytes H0 bk o cap bl rb) (hbl : bl.length = 64) (hne : bk ≠ b) (hbk : bk < H0.nx) (hbn : b < H0.nx) {rng : AV → (List AV → Heap → CR) → TM → Heap → X → Res} {yld : Nat → List AV → Heap → CR} (hF : 64 < fuel) (x : X) (tm : TM) (H : Heap)
    (h : L1 bk o cap b b2 bl H0 0 tm H) : ∃ tm' H', loopN (c103_l1 ⟨callN lib fs fuel (n + 2), yld, rng, fuel, false⟩) fuel tm H x = .ok (.exit 0) tm' H' x ∧ L1 bk o cap b b2 bl H0 64 tm' H' :=
  loopN_exit (L1 bk o cap b b2 bl H0) (L1 bk o cap b b2 bl H0 64) 64 (fun t tm H ht hi => if h16 : t < 16 then l1_low hb hbl hne hbk _ (show 4 < fuel by omega) x t tm H h16 hi else l1_high hl hl2 hf hf2 hbn x t tm H (by omega) ht hi)
    (fun tm H hi => l1_last _ x tm H hi) 64 0 fuel tm H rfl hF h
end
end Go.AI

namespace Go.AI
open Go
noncomputable section
variable {lib : Nat → List AV → Heap → Option CR} {fs : T CF} {fuel : Nat}
theorem u32V_0 : u32V 0 = nI .u32 0 := rfl
theorem schedW_0 (bl : List UInt8) : (schedW bl 0 ++ List.replicate (64 - 0) 0).map u32V = List.replicate 64 (nI .u32 0) := by
  rw [show schedW bl 0 = [] from rfl, List.nil_append, List.map_replicate, u32V_0]
attribute [local irreducible] schedW
/-- a block's words -/
def sched (bl : List UInt8) : List UInt32 := schedW bl 64
theorem sched_def (bl : List UInt8) : schedW bl 64 = sched bl := rfl
theorem sched_length (bl : List UInt8) : (sched bl).length = 64 := schedW_length bl 64
attribute [local irreducible] sched
theorem Bytes.keep {H H' : Heap} {bk o : Nat} {cap : Option Nat} {bl : List UInt8} {rb : Row} {S : List Nat} (h : Bytes H bk o cap bl rb) (k : Keep H H' S) (hlt : bk < H.nx) (hS : bk ∉ S) : Bytes H' bk o cap bl rb :=
  ⟨(k.get bk hlt hS).trans h.at_, h.sz, h.fits, h.get, h.cap⟩
theorem sched_run {n : Nat} (hl : ∀ l H, lib 147 l H = none) (hl2 : ∀ l H, lib 104 l H = none) (hl3 : ∀ l H, lib 103 l H = none) (hf : fs.get 147 = some c147) (hf2 : fs.get 104 = some c104) (hf3 : fs.get 103 = some c103) (hF : 64 < fuel)
    {bk o : Nat} {cap : Option Nat} {bl : List UInt8} {H : Heap} {rb : Row} (hb : Bytes H bk o cap bl rb) (hbl : bl.length = 64) (hbk : bk < H.nx) (hro : H.ro ≤ H.nx) :
    ∃ H', callN lib fs fuel (n + 3) 103 [.slice bk o 64 cap] H = .ret (.agg ((sched bl).map u32V)) H' ∧ Keep H H' [] := by
  rw [callN_fn (hl3 _ _) hf3]
  simp only [c103, argsT_1, loopD_run, BaseG, N8G, HpG, Nat.zero_add, gtr2, gtr3, gtr78, str2, str3, str11, str78]
  generalize hL : loopN (c103_l1 _) fuel _ _ _ = L
  generalize ha : (H.new (.row ⟨163, 1, 64, .leaf, nI .u32 0, 0, false, true, true⟩)) = Ha at hL
  have nxa : Ha.nx = H.nx + 1 := by rw [← ha]; rfl
  have ga : Ha.t.get H.nx = some (.row ⟨163, 1, 64, .leaf, nI .u32 0, 0, false, true, true⟩) := by rw [← ha, new_get, if_pos rfl]
  have ka : Keep H Ha [] := by rw [← ha]; exact Keep.new H _ []
  generalize hb' : (Ha.new (.row ⟨163, 1, 64, .leaf, nI .u32 0, 0, false, true, true⟩)) = Hb at hL
  have nxb : Hb.nx = H.nx + 2 := by rw [← hb', new_nx, nxa]
  have gb : Hb.t.get (H.nx + 1) = some (.row ⟨163, 1, 64, .leaf, nI .u32 0, 0, false, true, true⟩) := by rw [← hb', new_get, nxa, if_pos rfl]
  have gb2 : Hb.t.get H.nx = some (.row ⟨163, 1, 64, .leaf, nI .u32 0, 0, false, true, true⟩) := by rw [← hb', new_get, nxa, if_neg (by omega), ga]
  have kab : Keep H Hb [] := by rw [← hb']; exact ka.then_new _
  have own0 : Own Hb (H.nx + 1) 163 ((schedW bl 0 ++ List.replicate (64 - 0) 0).map u32V) ⟨163, 1, 64, .leaf, nI .u32 0, 0, false, true, true⟩ := by
    refine ⟨gb, rfl, rfl, rfl, rfl, rfl, ?_, by rw [kab.ro]; omega⟩
    rw [schedW_0]
    exact Cells.zero 163 64 (nI .u32 0) 0 false true true
  obtain ⟨tm2, H2, rfl, j⟩ := sh_after_loop (P := fun T => L1 bk o cap (H.nx + 1) H.nx bl Hb 0 T Hb) (Q := L1 bk o cap (H.nx + 1) H.nx bl Hb 64)
    (fun T hi => l1_run hl hl2 hf hf2 (hb.keep kab hbk (by simp)) hbl (by omega) (Nat.lt_of_lt_of_le hbk kab.nx) (by omega) hF _ T Hb hi) hL ⟨rfl, rfl, rfl, rfl, Keep.refl _ _, _, own0⟩
  obtain ⟨r, own⟩ := j.row
  rw [sched_def, show 64 - 64 = 0 from rfl, List.replicate_zero, List.append_nil] at own
  have j2 := j.t2; have j3 := j.t3
  simp only [gtr2, gtr3] at j2 j3
  have hlen := sched_length bl
  have ld : loadV 64 (.ptr (H.nx + 1) 0) H2 = .val (.agg ((sched bl).map u32V)) H2 := by
    rw [loadV_row own.at_ own.cells (by simp; omega), List.drop_zero, List.take_of_length_le (by simp; omega)]
  have r2 : H2.t.get H.nx = some (.row ⟨163, 1, 64, .leaf, nI .u32 0, 0, false, true, true⟩) := by
    rw [j.keep.get H.nx (by omega) (by simp), gb2]
  have hv : ((sched bl).map u32V).length = 64 := by rw [List.length_map]; exact hlen
  have st : storeV 64 (.ptr H.nx 0) (.agg ((sched bl).map u32V)) H2 = .val undefA (H2.put H.nx (.row (_))) := storeV_row (v := .agg ((sched bl).map u32V)) r2 (Cells.zero 163 64 (nI .u32 0) 0 false true true) rfl (by rw [j.keep.ro, kab.ro]; exact hro) rfl (by omega) hv (by simp)
  simp only [j2, j3, ld, st, leaveB_same, leaveB_normal, thenR_normal, thenR_ret, seqD_run, seqO_run, oLoad_run, oStore_run, goOn_val, gtr2, gtr3, gtr78, str78, retD_run, normD_run, d0_run, outF_ret, N8G]
  have cl := (Cells.zero 163 64 (nI .u32 0) 0 false true true).store (o := 0) (vs := (sched bl).map u32V) (by rw [hv]; simp)
  have e : (List.replicate 64 (nI .u32 0)).take 0 ++ ((sched bl).map u32V ++ (List.replicate 64 (nI .u32 0)).drop (0 + ((sched bl).map u32V).length)) = (sched bl).map u32V := by
    rw [List.take_zero, List.nil_append, hv, List.drop_of_length_le (by simp), List.append_nil]
  rw [e] at cl
  refine ⟨_, results_agg j2 (by rw [put_get, if_pos rfl]; rfl) cl hv, ?_⟩
  refine (kab.trans j.keep (fun c hc hlt => ?_)).then_put (fun hlt => absurd hlt (Nat.lt_irrefl _))
  simp only [List.mem_singleton] at hc; omega
end
end Go.AI

namespace Go.AI
open Go
noncomputable section
attribute [local irreducible] sched
variable {lib : Nat → List AV → Heap → Option CR} {fs : T CF} {fuel : Nat}
theorem Own.store {H : Heap} {b e : Nat} {l : List AV} {r : Row} (own : Own H b e l r) {o : Nat} {vs : List AV} (ho : o + vs.length ≤ l.length) :
    Own (H.put b (.row (r.setCells (storeN r.cells o vs)))) b e (l.take o ++ (vs ++ l.drop (o + vs.length))) (r.setCells (storeN r.cells o vs)) :=
  ⟨by rw [put_get, if_pos rfl], own.elem, own.sz, own.own, own.fz, own.sm, own.cells.store ho, own.ro⟩
theorem list8 {l : List UInt32} (h : l.length = 8) : ∃ a0 a1 a2 a3 a4 a5 a6 a7, l = [a0, a1, a2, a3, a4, a5, a6, a7] := by
  match l, h with
  | [a0, a1, a2, a3, a4, a5, a6, a7], _ => exact ⟨a0, a1, a2, a3, a4, a5, a6, a7, rfl⟩
def t1F (v : List UInt32) (k w : UInt32) : UInt32 :=
  v.getD 7 0 + (rotr (v.getD 4 0) 6 ^^^ rotr (v.getD 4 0) 11 ^^^ rotr (v.getD 4 0) 25) + (v.getD 4 0 &&& v.getD 5 0 ^^^ ~~~(v.getD 4 0) &&& v.getD 6 0) + k + w
def t2F (v : List UInt32) : UInt32 :=
  (rotr (v.getD 0 0) 2 ^^^ rotr (v.getD 0 0) 13 ^^^ rotr (v.getD 0 0) 22) + (v.getD 0 0 &&& v.getD 1 0 ^^^ v.getD 0 0 &&& v.getD 2 0 ^^^ v.getD 1 0 &&& v.getD 2 0)
def roundF (v : List UInt32) (k w : UInt32) : List UInt32 :=
  [t1F v k w + t2F v, v.getD 0 0, v.getD 1 0, v.getD 2 0, v.getD 3 0 + t1F v k w, v.getD 4 0, v.getD 5 0, v.getD 6 0]
def roundsF (K W v : List UInt32) : Nat → List UInt32
  | 0 => v
  | t + 1 => roundF (roundsF K W v t) (K.getD t 0) (W.getD t 0)
theorem roundsF_length (K W v : List UInt32) (h : v.length = 8) : ∀ t, (roundsF K W v t).length = 8
  | 0 => h
  | _ + 1 => rfl
structure L3 (sb bv bw : Nat) (K W v : List UInt32) (H0 : Heap) (t : Nat) (tm : TM) (H : Heap) : Prop where
  t18 : gt18 tm = nI .i64 t
  t0 : gt0 tm = .ptr sb 0
  t4 : gt4 tm = .ptr bv 0
  t5 : gt5 tm = .ptr bw 0
  keep : Keep H0 H [bv]
  row : ∃ r, Own H bv 131 ((roundsF K W v t).map u32V) r
theorem l3_step {n : Nat} (hl : ∀ l H, lib 147 l H = none) (hl2 : ∀ l H, lib 104 l H = none) (hf : fs.get 147 = some c147) (hf2 : fs.get 104 = some c104)
    {sb bv bw : Nat} {K W v : List UInt32} {H0 : Heap} {rK rW : Row} (hv : v.length = 8) (hK : H0.t.get 5 = some (.row rK)) (cK : Cells rK (K.map u32V)) (nK : K.length = 64) (hW : H0.t.get bw = some (.row rW)) (cW : Cells rW (W.map u32V)) (nW : W.length = 64)
    (h7 : 5 < bv) (hbv : bv < H0.nx) (hbw : bw < H0.nx) (hne : bw ≠ bv) {rng : AV → (List AV → Heap → CR) → TM → Heap → X → Res} {yld : Nat → List AV → Heap → CR} (x : X)
    (t : Nat) (tm : TM) (H : Heap) (ht : t < 64) (h : L3 sb bv bw K W v H0 t tm H) : ∃ tm' H', c71_l0 ⟨callN lib fs fuel (n + 2), yld, rng, fuel, false⟩ tm H x = .ok .normal tm' H' x ∧ L3 sb bv bw K W v H0 (t + 1) tm' H' := by
  obtain ⟨r, own⟩ := h.row
  have i18 := h.t18; have i0 := h.t0; have i4 := h.t4; have i5 := h.t5
  simp only [gtr18, gtr0, gtr4, gtr5] at i18 i0 i4 i5
  have d1 : decide (t < 64) = true := decide_eq_true ht
  have lb : bv < H.nx := Nat.lt_of_lt_of_le hbv h.keep.nx
  have lw : bw < H.nx := Nat.lt_of_lt_of_le hbw h.keep.nx
  have l7 : 5 < H.nx := Nat.lt_trans h7 lb
  have hnext : roundsF K W v (t + 1) = roundF (roundsF K W v t) (K.getD t 0) (W.getD t 0) := rfl
  have hlen := roundsF_length K W v hv t
  generalize roundsF K W v t = vt at own hlen hnext
  obtain ⟨a0, a1, a2, a3, a4, a5, a6, a7, rfl⟩ := list8 hlen
  have ldv : ∀ (H' : Heap) (o : Nat), H'.t = H.t → o < 8 → load1V (.ptr bv o) H' = .val ((([a0, a1, a2, a3, a4, a5, a6, a7] : List UInt32).map u32V).getD o .unk) H' := fun H' o he ho => load1V_row (by rw [he]; exact own.at_) own.cells ho
  have lv0 := fun H' he => ldv H' 0 he (by omega); have lv1 := fun H' he => ldv H' 1 he (by omega); have lv2 := fun H' he => ldv H' 2 he (by omega)
  have lv4 := fun H' he => ldv H' 4 he (by omega); have lv5 := fun H' he => ldv H' 5 he (by omega); have lv6 := fun H' he => ldv H' 6 he (by omega); have lv7 := fun H' he => ldv H' 7 he (by omega)
  simp only [List.map_cons, List.map_nil, List.getD_cons_zero, List.getD_cons_succ] at lv0 lv1 lv2 lv4 lv5 lv6 lv7
  have lw1 : ∀ (H' : Heap), H'.t = H.t → load1V (.ptr bw t) H' = .val (u32V (W.getD t 0)) H' := fun H' he => by
    rw [load1V_row (r := rW) (by rw [he, h.keep.get bw hbw (by simpa using hne)]; exact hW) cW (by simp; omega), List.getD_eq_getElem?_getD, List.getElem?_map, List.getD_eq_getElem?_getD, List.getElem?_eq_getElem (show t < W.length by omega)]; rfl
  have lk1 : ∀ (H' : Heap), H'.t = H.t → load1V (.ptr 5 t) H' = .val (u32V (K.getD t 0)) H' := fun H' he => by
    rw [load1V_row (r := rK) (by rw [he, h.keep.get 5 (Nat.lt_trans h7 hbv) (by simp; omega)]; exact hK) cK (by simp; omega), List.getD_eq_getElem?_getD, List.getElem?_map, List.getD_eq_getElem?_getD, List.getElem?_eq_getElem (show t < K.length by omega)]; rfl
  have tn := fun (a : UInt32) (k : Nat) (h0 : 0 < k) (h : k < 32) (H : Heap) => turn_is (n := n) (fuel := fuel) hl hl2 hf hf2 a k h0 h H
  have cp : copyV 1 (.slice bv 1 7 (some 7)) (.slice bv 0 7 (some 8)) H = .val (nI .i64 7) (H.put bv (.row (r.setCells (storeN r.cells 1 [u32V a0, u32V a1, u32V a2, u32V a3, u32V a4, u32V a5, u32V a6])))) :=
    copyV_is own.at_ own.cells own.own own.ro own.fz (by simp) (by omega) own.at_ own.cells (by simp)
  have own1 := own.store (o := 1) (vs := [u32V a0, u32V a1, u32V a2, u32V a3, u32V a4, u32V a5, u32V a6]) (by simp)
  generalize hr1 : r.setCells (storeN r.cells 1 [u32V a0, u32V a1, u32V a2, u32V a3, u32V a4, u32V a5, u32V a6]) = r1 at own1 cp
  generalize hH1 : H.put bv (.row r1) = H1 at own1 cp
  have ld3 : load1V (.ptr bv 4) H1 = .val (u32V a3) H1 := load1V_row own1.at_ own1.cells (by simp)
  have st1 : ∀ z : UInt32, storeV 1 (.ptr bv 4) (u32V z) H1 = .val undefA (H1.put bv (.row (r1.setCells (storeN r1.cells 4 [u32V z])))) := fun z => storeV_row (v := u32V z) own1.at_ own1.cells own1.own own1.ro own1.fz (Nat.le_refl _) rfl (by simp)
  have own2 := fun z : UInt32 => own1.store (o := 4) (vs := [u32V z]) (by simp)
  have st2 : ∀ z y : UInt32, storeV 1 (.ptr bv 0) (u32V y) (H1.put bv (.row (r1.setCells (storeN r1.cells 4 [u32V z])))) = .val undefA ((H1.put bv (.row (r1.setCells (storeN r1.cells 4 [u32V z])))).put bv (.row ((r1.setCells (storeN r1.cells 4 [u32V z])).setCells (storeN (r1.setCells (storeN r1.cells 4 [u32V z])).cells 0 [u32V y])))) :=
    fun z y => storeV_row (v := u32V y) (own2 z).at_ (own2 z).cells (own2 z).own (own2 z).ro (own2 z).fz (Nat.le_refl _) rfl (by simp)
  have own3 := fun z y : UInt32 => (own2 z).store (o := 0) (vs := [u32V y]) (by simp)
  have k1 : Keep H0 H1 [bv] := by rw [← hH1]; exact h.keep.then_put fun _ => List.mem_singleton.2 rfl
  simp (disch := first | omega | rfl) only [c71_l0, i18, i4, i5, d1, cmpV_lt, lv0, lv1, lv2, lv4, lv5, lv6, lv7, lw1, lk1, tn, cp, ld3, st1, st2, lowV_ptr lb, lowV_ptr lw, lowV_ptr l7, lowV_slice lb, addV_i, idxAV_ptr, addV_32, xorV_32, andV_32, notV_32, oSlArr_run, oCopy_run, Option.map_some, Option.map_none, slArrV_lo, slArrV_hi, BaseG, N8G, drawnD_run, planD_nil, planD_cons, normF_run, stepK_free, stepK_read, stepK_eff, freeK_val, readK_val, effK_val, effK_call, retK_ret, keepR_nil, keepR_cons, still_nil, still_cons, rdOk_run, isSame_u32, isSame_u8, isSame_nI, lowOs_nil, lowOs_cons, lowV_nI, lowV_u32, lowV_u8, lowV_bool, rsF_nil, rsF_cons, List.map_cons, List.map_nil, cond_true, cond_false, Nat.testBit_eq_decide_div_mod_eq, Nat.reducePow, Nat.reduceDiv, Nat.reduceMod, decide_true, Nat.reduceEqDiff, decide_false, reduceCtorEq, Nat.zero_ne_one, HpG, Nat.zero_add, gtr4, gtr5, gtr6, gtr7, gtr8, gtr9, gtr10, gtr18, gtr19, gtr20, gtr21, gtr22, gtr23, gtr24, gtr25, gtr26, gtr27, gtr28, gtr29, gtr30, gtr31, gtr32, gtr33, gtr34, gtr35, gtr36, gtr37, gtr38, gtr39, gtr40, gtr41, gtr42, gtr43, gtr44, gtr45, gtr46, gtr47, gtr48, gtr49, gtr50, gtr51, gtr52, gtr53, gtr54, gtr55, gtr56, gtr57, gtr58, gtr59, gtr60, gtr61, gtr62, gtr63, gtr64, gtr65, gtr66, gtr67, gtr68, gtr69, gtr70, gtr71, gtr72, gtr73, gtr74, gtr75, gtr76, gtr77, gtr78, gtr79, gtr80, gtr82, gtr83, gtr84, gtr85, gtr86, gtr87, gtr88, gtr89, gtr90, gtr91, str4, str5, str6, str7, str8, str9, str10, str18, str19, str20, str21, str22, str23, str24, str25, str26, str27, str28, str29, str30, str31, str32, str33, str34, str35, str36, str37, str38, str39, str40, str41, str42, str43, str44, str45, str46, str47, str48, str49, str50, str51, str52, str53, str54, str55, str56, str57, str58, str59, str60, str61, str62, str63, str64, str65, str66, str67, str68, str69, str70, str71, str72, str73, str74, str75, str76, str77, str78, str79, str80, str81, str82, str83, str84, str85, str86, str87, str88, str89, str90, str91]
  refine ⟨_, _, rfl, rfl, i0, i4, i5, (k1.then_put fun _ => List.mem_singleton.2 rfl).then_put fun _ => List.mem_singleton.2 rfl, ?_⟩
  rw [hnext]
  exact ⟨_, own3 (a3 + t1F [a0, a1, a2, a3, a4, a5, a6, a7] (K.getD t 0) (W.getD t 0)) (t1F [a0, a1, a2, a3, a4, a5, a6, a7] (K.getD t 0) (W.getD t 0) + t2F [a0, a1, a2, a3, a4, a5, a6, a7])⟩
end
end Go.AI

namespace Go.AI
open Go
noncomputable section
attribute [local irreducible] sched
variable {lib : Nat → List AV → Heap → Option CR} {fs : T CF} {fuel : Nat}
theorem l3_last {sb bv bw : Nat} {K W v : List UInt32} {H0 : Heap} (c : Ctx) (x : X) (tm : TM) (H : Heap) (h : L3 sb bv bw K W v H0 64 tm H) : ∃ tm' H', c71_l0 c tm H x = .ok (.exit 0) tm' H' x ∧ L3 sb bv bw K W v H0 64 tm' H' := by
  have i18 := h.t18; have i0 := h.t0; have i4 := h.t4; have i5 := h.t5
  simp only [gtr18, gtr0, gtr4, gtr5] at i18 i0 i4 i5
  have d1 : decide (64 < 64) = false := rfl
  simp only [c71_l0, i18, d1, cmpV_lt, BaseG, N8G, HpG, Nat.zero_add, gtr4, gtr5, gtr6, gtr7, gtr8, gtr9, gtr10, gtr18, gtr19, gtr20, gtr21, gtr22, gtr23, gtr24, gtr25, gtr26, gtr27, gtr28, gtr29, gtr30, gtr31, gtr32, gtr33, gtr34, gtr35, gtr36, gtr37, gtr38, gtr39, gtr40, gtr41, gtr42, gtr43, gtr44, gtr45, gtr46, gtr47, gtr48, gtr49, gtr50, gtr51, gtr52, gtr53, gtr54, gtr55, gtr56, gtr57, gtr58, gtr59, gtr60, gtr61, gtr62, gtr63, gtr64, gtr65, gtr66, gtr67, gtr68, gtr69, gtr70, gtr71, gtr72, gtr73, gtr74, gtr75, gtr76, gtr77, gtr78, gtr79, gtr80, gtr82, gtr83, gtr84, gtr85, gtr86, gtr87, gtr88, gtr89, gtr90, gtr91, str4, str5, str6, str7, str8, str9, str10, str18, str19, str20, str21, str22, str23, str24, str25, str26, str27, str28, str29, str30, str31, str32, str33, str34, str35, str36, str37, str38, str39, str40, str41, str42, str43, str44, str45, str46, str47, str48, str49, str50, str51, str52, str53, str54, str55, str56, str57, str58, str59, str60, str61, str62, str63, str64, str65, str66, str67, str68, str69, str70, str71, str72, str73, str74, str75, str76, str77, str78, str79, str80, str81, str82, str83, str84, str85, str86, str87, str88, str89, str90, str91]
  exact ⟨_, _, rfl, i18, i0, i4, i5, h.keep, h.row⟩
theorem l3_run {n : Nat} (hl : ∀ l H, lib 147 l H = none) (hl2 : ∀ l H, lib 104 l H = none) (hf : fs.get 147 = some c147) (hf2 : fs.get 104 = some c104)
    {sb bv bw : Nat} {K W v : List UInt32} {H0 : Heap} {rK rW : Row} (hv : v.length = 8) (hK : H0.t.get 5 = some (.row rK)) (cK : Cells rK (K.map u32V)) (nK : K.length = 64) (hW : H0.t.get bw = some (.row rW)) (cW : Cells rW (W.map u32V)) (nW : W.length = 64)
    (h7 : 5 < bv) (hbv : bv < H0.nx) (hbw : bw < H0.nx) (hne : bw ≠ bv) {rng : AV → (List AV → Heap → CR) → TM → Heap → X → Res} {yld : Nat → List AV → Heap → CR} (hF : 64 < fuel) (x : X) (tm : TM) (H : Heap)
    (h : L3 sb bv bw K W v H0 0 tm H) : ∃ tm' H', loopN (c71_l0 ⟨callN lib fs fuel (n + 2), yld, rng, fuel, false⟩) fuel tm H x = .ok (.exit 0) tm' H' x ∧ L3 sb bv bw K W v H0 64 tm' H' :=
  loopN_exit (L3 sb bv bw K W v H0) (L3 sb bv bw K W v H0 64) 64 (fun t tm H ht hi => l3_step hl hl2 hf hf2 hv hK cK nK hW cW nW h7 hbv hbw hne x t tm H ht hi) (fun tm H hi => l3_last _ x tm H hi) 64 0 fuel tm H rfl hF h
/-! ### the words are added -/
/-- the first so many are added -/
def addsF (h v : List UInt32) (t : Nat) : List UInt32 := (List.range 8).map fun i => if i < t then h.getD i 0 + v.getD i 0 else h.getD i 0
structure L4 (sb bv : Nat) (e : Nat) (h v : List UInt32) (rest : List AV) (H0 : Heap) (t : Nat) (tm : TM) (H : Heap) : Prop where
  t92 : gt92 tm = nI .i64 t
  t0 : gt0 tm = .ptr sb 0
  t4 : gt4 tm = .ptr bv 0
  keep : Keep H0 H [sb]
  row : ∃ r, Own H sb e ((addsF h v t).map u32V ++ rest) r
theorem getD_map32 (l : List UInt32) (i : Nat) (h : i < l.length) : (l.map u32V).getD i .unk = u32V (l.getD i 0) := by
  rw [List.getD_eq_getElem?_getD, List.getElem?_map, List.getD_eq_getElem?_getD, List.getElem?_eq_getElem h]; rfl
theorem addsF_length (h v : List UInt32) (t : Nat) : (addsF h v t).length = 8 := by unfold addsF; simp
theorem addsF_get (h v : List UInt32) (t i : Nat) (hi : i < 8) : (addsF h v t).getD i 0 = if i < t then h.getD i 0 + v.getD i 0 else h.getD i 0 := by
  unfold addsF
  rw [List.getD_eq_getElem?_getD, List.getElem?_map, List.getElem?_range hi]; rfl
theorem addsF_succ (h v : List UInt32) (t : Nat) (ht : t < 8) : (addsF h v t).set t (h.getD t 0 + v.getD t 0) = addsF h v (t + 1) := by
  refine List.ext_getElem? fun i => ?_
  by_cases hi : i < 8
  · rw [List.getElem?_set]
    have e1 : (addsF h v (t + 1))[i]? = some (if i < t + 1 then h.getD i 0 + v.getD i 0 else h.getD i 0) := by
      unfold addsF; rw [List.getElem?_map, List.getElem?_range hi]; rfl
    rw [e1]
    by_cases h1 : t = i
    · subst h1; rw [if_pos rfl, if_pos (by rw [addsF_length]; exact ht), if_pos (by omega)]
    · rw [if_neg h1]
      unfold addsF; rw [List.getElem?_map, List.getElem?_range hi]
      show some (if i < t then _ else _) = _
      by_cases h2 : i < t
      · rw [if_pos h2, if_pos (by omega)]
      · rw [if_neg h2, if_neg (by omega)]
  · rw [List.getElem?_eq_none (by rw [List.length_set, addsF_length]; omega), List.getElem?_eq_none (by rw [addsF_length]; omega)]
theorem l4_step {sb bv e : Nat} {h v : List UInt32} {rest : List AV} {H0 : Heap} {rV : Row} (hV : H0.t.get bv = some (.row rV)) (cV : Cells rV (v.map u32V)) (nV : v.length = 8) (hbv : bv < H0.nx) (hsb : sb < H0.nx) (hne : bv ≠ sb)
    (c : Ctx) (x : X) (t : Nat) (tm : TM) (H : Heap) (ht : t < 8) (hi : L4 sb bv e h v rest H0 t tm H) : ∃ tm' H', c71_l1 c tm H x = .ok .normal tm' H' x ∧ L4 sb bv e h v rest H0 (t + 1) tm' H' := by
  obtain ⟨r, own⟩ := hi.row
  have i92 := hi.t92; have i0 := hi.t0; have i4 := hi.t4
  simp only [gtr92, gtr0, gtr4] at i92 i0 i4
  have d1 : decide (t < 8) = true := decide_eq_true ht
  have lb : bv < H.nx := Nat.lt_of_lt_of_le hbv hi.keep.nx
  have ls : sb < H.nx := Nat.lt_of_lt_of_le hsb hi.keep.nx
  have ll := addsF_length h v t
  have lds : ∀ (H' : Heap), H'.t = H.t → load1V (.ptr sb t) H' = .val (u32V (h.getD t 0)) H' := fun H' he => by
    rw [load1V_row (r := r) (by rw [he]; exact own.at_) own.cells (by rw [List.length_append, List.length_map, ll]; omega), List.getD_eq_getElem?_getD, List.getElem?_append_left (by rw [List.length_map, ll]; omega), ← List.getD_eq_getElem?_getD, getD_map32 _ _ (by omega), addsF_get _ _ _ _ ht, if_neg (Nat.lt_irrefl _)]
  have ldv : ∀ (H' : Heap), H'.t = H.t → load1V (.ptr bv t) H' = .val (u32V (v.getD t 0)) H' := fun H' he => by
    rw [load1V_row (r := rV) (by rw [he, hi.keep.get bv hbv (by simpa using hne)]; exact hV) cV (by simp; omega), getD_map32 _ _ (by omega)]
  have st : ∀ z : UInt32, storeV 1 (.ptr sb t) (u32V z) H = .val undefA (H.put sb (.row (r.setCells (storeN r.cells t [u32V z])))) := fun z => storeV_row (v := u32V z) own.at_ own.cells own.own own.ro own.fz (Nat.le_refl _) rfl (by rw [List.length_append, List.length_map, ll]; omega)
  simp (disch := first | omega | rfl) only [c71_l1, i92, i0, i4, d1, cmpV_lt, lds, ldv, st, lowV_ptr lb, lowV_ptr ls, addV_i, idxAV_ptr, addV_32, BaseG, N8G, drawnD_run, planD_nil, planD_cons, normF_run, stepK_free, stepK_read, stepK_eff, freeK_val, readK_val, effK_val, effK_call, retK_ret, keepR_nil, keepR_cons, still_nil, still_cons, rdOk_run, isSame_u32, isSame_u8, isSame_nI, lowOs_nil, lowOs_cons, lowV_nI, lowV_u32, lowV_u8, lowV_bool, rsF_nil, rsF_cons, List.map_cons, List.map_nil, cond_true, cond_false, Nat.testBit_eq_decide_div_mod_eq, Nat.reducePow, Nat.reduceDiv, Nat.reduceMod, decide_true, Nat.reduceEqDiff, decide_false, reduceCtorEq, Nat.zero_ne_one, HpG, Nat.zero_add, gtr0, gtr4, gtr11, gtr92, gtr93, gtr94, gtr95, gtr96, gtr97, gtr98, gtr99, gtr100, gtr101, gtr102, gtr103, gtr104, gtr105, gtr106, gtr107, gtr108, str0, str4, str11, str92, str93, str94, str95, str96, str97, str98, str99, str100, str101, str102, str103, str104, str105, str106, str107, str108]
  refine ⟨_, _, rfl, rfl, i0, i4, hi.keep.then_put fun _ => List.mem_singleton.2 rfl, r.setCells (storeN r.cells t [u32V (h.getD t 0 + v.getD t 0)]), ⟨by rw [put_get, if_pos rfl], own.elem, own.sz, own.own, own.fz, own.sm, ?_, own.ro⟩⟩
  have := own.cells.store1 (o := t) (v := u32V (h.getD t 0 + v.getD t 0)) (by rw [List.length_append, List.length_map, ll]; omega)
  rw [List.set_append_left _ _ (by rw [List.length_map, ll]; omega), ← List.map_set, addsF_succ h v t ht] at this
  exact this
theorem l4_last {sb bv e : Nat} {h v : List UInt32} {rest : List AV} {H0 : Heap} (c : Ctx) (x : X) (tm : TM) (H : Heap) (hi : L4 sb bv e h v rest H0 8 tm H) : ∃ tm' H', c71_l1 c tm H x = .ok (.exit 2) tm' H' x ∧ L4 sb bv e h v rest H0 8 tm' H' := by
  have i92 := hi.t92; have i0 := hi.t0; have i4 := hi.t4
  simp only [gtr92, gtr0, gtr4] at i92 i0 i4
  have d1 : decide (8 < 8) = false := rfl
  simp only [c71_l1, i92, d1, cmpV_lt, BaseG, N8G, HpG, Nat.zero_add, gtr0, gtr4, gtr11, gtr92, gtr93, gtr94, gtr95, gtr96, gtr97, gtr98, gtr99, gtr100, gtr101, gtr102, gtr103, gtr104, gtr105, gtr106, gtr107, gtr108, str0, str4, str11, str92, str93, str94, str95, str96, str97, str98, str99, str100, str101, str102, str103, str104, str105, str106, str107, str108]
  exact ⟨_, _, rfl, i92, i0, i4, hi.keep, hi.row⟩
theorem l4_run {sb bv e : Nat} {h v : List UInt32} {rest : List AV} {H0 : Heap} {rV : Row} (hV : H0.t.get bv = some (.row rV)) (cV : Cells rV (v.map u32V)) (nV : v.length = 8) (hbv : bv < H0.nx) (hsb : sb < H0.nx) (hne : bv ≠ sb)
    (c : Ctx) (hF : 8 < c.fuel) (x : X) (tm : TM) (H : Heap) (hi : L4 sb bv e h v rest H0 0 tm H) : ∃ tm' H', loopN (c71_l1 c) c.fuel tm H x = .ok (.exit 2) tm' H' x ∧ L4 sb bv e h v rest H0 8 tm' H' :=
  loopN_exit (L4 sb bv e h v rest H0) (L4 sb bv e h v rest H0 8) 8 (fun t tm H ht hi => l4_step hV cV nV hbv hsb hne c x t tm H ht hi) (fun tm H hi => l4_last c x tm H hi) 8 0 c.fuel tm H rfl hF hi
end
end Go.AI

namespace Go.AI
open Go
noncomputable section
attribute [local irreducible] sched
variable {lib : Nat → List AV → Heap → Option CR} {fs : T CF} {fuel : Nat}
/-- what a block makes of the words -/
def blockF (K h : List UInt32) (bl : List UInt8) : List UInt32 := addsF h (roundsF K (sched bl) h 64) 8
theorem Cells.whole {r : Row} {l vs : List AV} (h : Cells r l) (hl : vs.length = l.length) : Cells (r.setCells (storeN r.cells 0 vs)) vs := by
  have := h.store (o := 0) (vs := vs) (by omega)
  rw [List.take_zero, List.nil_append, Nat.zero_add, List.drop_of_length_le (by omega), List.append_nil] at this
  exact this
theorem oAlloc8 (e : Nat) (v : AV) (tm : TM) (H : Heap) : oAlloc e [v, v, v, v, v, v, v, v] tm H = .val (.ptr H.nx 0) (H.newRow e 1 [v, v, v, v, v, v, v, v] true) := rfl
theorem addsF_0 (h v : List UInt32) (hh : h.length = 8) : addsF h v 0 = h := by
  obtain ⟨a0, a1, a2, a3, a4, a5, a6, a7, rfl⟩ := list8 hh
  rfl
theorem take_run {n : Nat} (hl : ∀ l H, lib 147 l H = none) (hl2 : ∀ l H, lib 104 l H = none) (hl3 : ∀ l H, lib 103 l H = none) (hl4 : ∀ l H, lib 71 l H = none) (hf : fs.get 147 = some c147) (hf2 : fs.get 104 = some c104) (hf3 : fs.get 103 = some c103) (hf4 : fs.get 71 = some c71) (hF : 64 < fuel)
    {sb bk o e : Nat} {cap : Option Nat} {bl : List UInt8} {H : Heap} {rb rK r : Row} {K h : List UInt32} {rest : List AV} (hK : H.t.get 5 = some (.row rK)) (cK : Cells rK (K.map u32V)) (nK : K.length = 64) (h7 : 5 < H.nx) (h7s : 5 ≠ sb)
    (own : Own H sb e (h.map u32V ++ rest) r) (hh : h.length = 8) (hsb : sb < H.nx) (hb : Bytes H bk o cap bl rb) (hbl : bl.length = 64) (hbk : bk < H.nx) (hro : H.ro ≤ H.nx) :
    ∃ H', callN lib fs fuel (n + 4) 71 [.ptr sb 0, .slice bk o 64 cap] H = .ret (.tup []) H' ∧ Keep H H' [sb] ∧ ∃ r', Own H' sb e ((blockF K h bl).map u32V ++ rest) r' := by
  rw [callN_fn (hl4 _ _) hf4]
  have ld : loadV 8 (.ptr sb 0) H = .val (.agg (h.map u32V)) H := by
    rw [loadV_row own.at_ own.cells (by rw [List.length_append, List.length_map]; omega), List.drop_zero, List.take_left' (by rw [List.length_map]; exact hh)]
  -- the words' own row
  generalize ha : H.newRow 131 1 [nI .u32 0, nI .u32 0, nI .u32 0, nI .u32 0, nI .u32 0, nI .u32 0, nI .u32 0, nI .u32 0] true = Ha
  have nxa : Ha.nx = H.nx + 1 := by rw [← ha]; rfl
  have ka : Keep H Ha [] := by rw [← ha]; exact Keep.new H _ []
  have ga : Ha.t.get H.nx = some (.row ⟨131, 1, 8, T.ofList [nI .u32 0, nI .u32 0, nI .u32 0, nI .u32 0, nI .u32 0, nI .u32 0, nI .u32 0, nI .u32 0], .unk, 0, false, true, true⟩) := by
    rw [← ha, newRow_eq, new_get, if_pos rfl]; rfl
  generalize hra : (⟨131, 1, 8, T.ofList [nI .u32 0, nI .u32 0, nI .u32 0, nI .u32 0, nI .u32 0, nI .u32 0, nI .u32 0, nI .u32 0], .unk, 0, false, true, true⟩ : Row) = ra at ga
  have ca : Cells ra [nI .u32 0, nI .u32 0, nI .u32 0, nI .u32 0, nI .u32 0, nI .u32 0, nI .u32 0, nI .u32 0] := by
    rw [← hra]
    have := Cells.new 131 1 [nI .u32 0, nI .u32 0, nI .u32 0, nI .u32 0, nI .u32 0, nI .u32 0, nI .u32 0, nI .u32 0] 0 false true true
    exact this
  have oa : ra.own = true ∧ ra.fz = 0 ∧ ra.sm = false ∧ ra.elem = 131 ∧ ra.sz = 1 := by rw [← hra]; exact ⟨rfl, rfl, rfl, rfl, rfl⟩
  have roa : Ha.ro ≤ H.nx := by rw [ka.ro]; exact hro
  have nh : (h.map u32V).length = 8 := by rw [List.length_map]; exact hh
  have sta : storeV 8 (.ptr H.nx 0) (.agg (h.map u32V)) Ha = .val undefA (Ha.put H.nx (.row (ra.setCells (storeN ra.cells 0 (h.map u32V))))) := storeV_row (v := .agg (h.map u32V)) ga ca oa.1 roa oa.2.1 (by omega) nh (by simp)
  generalize hv' : ra.setCells (storeN ra.cells 0 (h.map u32V)) = rv at sta
  have cv : Cells rv (h.map u32V) := by rw [← hv']; exact ca.whole (by rw [nh]; rfl)
  have ov : rv.own = true ∧ rv.fz = 0 ∧ rv.sm = false ∧ rv.elem = 131 ∧ rv.sz = 1 := by rw [← hv']; exact oa
  generalize hbh : Ha.put H.nx (.row rv) = Hb at sta
  have nxb : Hb.nx = H.nx + 1 := by rw [← hbh]; exact nxa
  have kb : Keep H Hb [] := by rw [← hbh]; exact ka.then_put fun hlt => absurd hlt (Nat.lt_irrefl _)
  have gv : Hb.t.get H.nx = some (.row rv) := by rw [← hbh, put_get, if_pos rfl]
  -- the schedule
  obtain ⟨Hc, ec, kc⟩ := sched_run (n := n) (fuel := fuel) hl hl2 hl3 hf hf2 hf3 hF (hb.keep kb hbk (by simp)) hbl (by omega) (by rw [kb.ro]; omega)
  have kbc : Keep H Hc [] := kb.trans kc fun c hc _ => hc
  have nxc : H.nx + 1 ≤ Hc.nx := by have := kc.nx; omega
  have gvc : Hc.t.get H.nx = some (.row rv) := by rw [kc.get H.nx (by omega) (by simp)]; exact gv
  -- its row
  generalize hd : Hc.new (.row ⟨163, 1, 64, .leaf, nI .u32 0, 0, false, true, true⟩) = Hd
  have nxd : Hd.nx = Hc.nx + 1 := by rw [← hd]; rfl
  have kd : Keep H Hd [] := by rw [← hd]; exact kbc.then_new _
  have gd : Hd.t.get Hc.nx = some (.row ⟨163, 1, 64, .leaf, nI .u32 0, 0, false, true, true⟩) := by rw [← hd, new_get, if_pos rfl]
  have gvd : Hd.t.get H.nx = some (.row rv) := by rw [← hd, new_get, if_neg (by omega)]; exact gvc
  have nw : ((sched bl).map u32V).length = 64 := by rw [List.length_map]; exact sched_length bl
  have cd := Cells.zero 163 64 (nI .u32 0) 0 false true true
  have std : storeV 64 (.ptr Hc.nx 0) (.agg ((sched bl).map u32V)) Hd = .val undefA (Hd.put Hc.nx (.row (Row.setCells ⟨163, 1, 64, .leaf, nI .u32 0, 0, false, true, true⟩ (storeN .leaf 0 ((sched bl).map u32V))))) :=
    storeV_row (v := .agg ((sched bl).map u32V)) gd cd rfl (by rw [kd.ro]; omega) rfl (by omega) nw (by simp)
  have cw : Cells (Row.setCells ⟨163, 1, 64, .leaf, nI .u32 0, 0, false, true, true⟩ (storeN .leaf 0 ((sched bl).map u32V))) ((sched bl).map u32V) := cd.whole (by rw [nw, List.length_replicate])
  generalize hrw : Row.setCells ⟨163, 1, 64, .leaf, nI .u32 0, 0, false, true, true⟩ (storeN .leaf 0 ((sched bl).map u32V)) = rw_ at std cw
  generalize he : Hd.put Hc.nx (.row rw_) = He at std
  have nxe : He.nx = Hc.nx + 1 := by rw [← he]; exact nxd
  have ke : Keep H He [] := by rw [← he]; exact kd.then_put fun hlt => by omega
  have ge : He.t.get Hc.nx = some (.row rw_) := by rw [← he, put_get, if_pos rfl]
  have gve : He.t.get H.nx = some (.row rv) := by rw [← he, put_get, if_neg (by omega)]; exact gvd
  simp only [c71, argsT_2, ld, oAlloc8, ha, sta, ec, oAllocZ_run, hd, std, loopD_run, BaseG, N8G, HpG, Nat.zero_add, gtr0, gtr1, gtr4, gtr5, gtr12, gtr13, gtr14, gtr15, gtr16, gtr17, str4, str5, str12, str13, str14, str15, str16, str17, str18, str92, str0, str1, gtr0, gtr1]
  generalize hL : loopN (c71_l0 _) fuel _ _ _ = L
  have ownv : Own He H.nx 131 ((roundsF K (sched bl) h 0).map u32V) rv := ⟨gve, ov.2.2.2.1, ov.2.2.2.2, ov.1, ov.2.1, ov.2.2.1, cv, by rw [ke.ro]; exact hro⟩
  obtain ⟨tm2, Hf, rfl, j⟩ := sh_after_loop (P := fun T => L3 sb H.nx Hc.nx K (sched bl) h He 0 T He) (Q := L3 sb H.nx Hc.nx K (sched bl) h He 64)
    (fun T hi => l3_run (n := n + 1) hl hl2 hf hf2 hh (by rw [ke.get 5 h7 (by simp)]; exact hK) cK nK ge cw (sched_length bl) h7 (by omega) (by omega) (by omega) hF _ T He hi) hL ⟨rfl, rfl, rfl, rfl, Keep.refl _ _, _, ownv⟩
  obtain ⟨rv2, own2⟩ := j.row
  have j0 := j.t0; have j4 := j.t4
  simp only [gtr0, gtr4] at j0 j4
  simp only [leaveB_same, thenR_normal, seqD_run, seqO_run, oMv_run, goOn_val, k_run, normD_run, blockD_run, loopD_run, str92]
  generalize hL2 : loopN (c71_l1 _) fuel _ _ _ = L2
  have kf : Keep H Hf [] := ke.trans j.keep fun c hc hlt => by simp only [List.mem_singleton] at hc; omega
  have owns : Own Hf sb e ((addsF h (roundsF K (sched bl) h 64) 0).map u32V ++ rest) r := by
    rw [addsF_0 _ _ hh]
    exact ⟨by rw [kf.get sb hsb (by simp)]; exact own.at_, own.elem, own.sz, own.own, own.fz, own.sm, own.cells, by rw [kf.ro]; exact own.ro⟩
  have nxf : He.nx ≤ Hf.nx := j.keep.nx
  obtain ⟨tm3, Hg, rfl, q⟩ := sh_after_loop (P := fun T => L4 sb H.nx e h (roundsF K (sched bl) h 64) rest Hf 0 T Hf) (Q := L4 sb H.nx e h (roundsF K (sched bl) h 64) rest Hf 8)
    (fun T hi => l4_run own2.at_ own2.cells (roundsF_length K (sched bl) h hh 64) (by omega) (by omega) (by omega) _ (show 8 < fuel by omega) _ T Hf hi) hL2 ⟨rfl, j0, j4, Keep.refl _ _, _, owns⟩
  simp only [leaveB_same, outF_normal, results_none]
  exact ⟨_, rfl, kf.trans' q.keep, q.row⟩
end
end Go.AI

namespace Go.AI
open Go
noncomputable section
attribute [local irreducible] sched
variable {lib : Nat → List AV → Heap → Option CR} {fs : T CF} {fuel : Nat}
/-- a value of bytes -/
def BV (H : Heap) (v : AV) (l : List UInt8) : Prop :=
  (l = [] ∧ (v = .nils ∨ ∃ b o c, v = .slice b o 0 c)) ∨ (l ≠ [] ∧ ∃ b o c r, v = .slice b o l.length c ∧ Bytes H b o c l r ∧ b < H.nx)
theorem BV.len {H : Heap} {v : AV} {l : List UInt8} (h : BV H v l) (H' : Heap) : lenV v H' = .val (nI .i64 l.length) H' := by
  rcases h with ⟨rfl, rfl | ⟨b, o, c, rfl⟩⟩ | ⟨_, b, o, c, r, rfl, _⟩
  · exact lenV_nil H'
  · exact lenV_slice ..
  · exact lenV_slice ..
theorem Bytes.take {H : Heap} {b o n : Nat} {c : Option Nat} {l : List UInt8} {r : Row} (h : Bytes H b o c l r) (hn : n ≤ l.length) : Bytes H b o (capSub c 0) (l.take n) r := by
  have hl : (l.take n).length = n := by rw [List.length_take, Nat.min_eq_left hn]
  refine ⟨h.at_, h.sz, by have := h.fits; omega, fun i hi => ?_, fun k hk => ?_⟩
  · rw [h.get i (by omega), List.getD_eq_getElem?_getD, List.getD_eq_getElem?_getD, List.getElem?_take_of_lt (by omega)]
  · cases c with
    | none => cases hk
    | some c =>
      cases hk
      have := h.cap c rfl
      show (l.take n).length ≤ c - 0 ∧ o + (c - 0) ≤ r.size
      omega
theorem Bytes.drop {H : Heap} {b o n : Nat} {c : Option Nat} {l : List UInt8} {r : Row} (h : Bytes H b o c l r) (hn : n ≤ l.length) : Bytes H b (o + n) (capSub c n) (l.drop n) r := by
  have hl : (l.drop n).length = l.length - n := List.length_drop ..
  have hf := h.fits
  refine ⟨h.at_, h.sz, by omega, fun i hi => ?_, fun k hk => ?_⟩
  · rw [Nat.add_assoc, h.get (n + i) (by omega), List.getD_eq_getElem?_getD, List.getD_eq_getElem?_getD, List.getElem?_drop]
  · cases c with
    | none => cases hk
    | some c =>
      cases hk
      have := h.cap c rfl
      show (l.drop n).length ≤ c - n ∧ o + n + (c - n) ≤ r.size
      omega
theorem BV.keep {H H' : Heap} {S : List Nat} {v : AV} {l : List UInt8} (h : BV H v l) (k : Keep H H' S) (hS : ∀ b o n c, v = .slice b o n c → b ∉ S) : BV H' v l := by
  rcases h with h | ⟨hne, b, o, c, r, rfl, hb, hlt⟩
  · exact .inl h
  · exact .inr ⟨hne, b, o, c, r, rfl, hb.keep k hlt (hS _ _ _ _ rfl), Nat.lt_of_lt_of_le hlt k.nx⟩
/-- all behind the first so many -/
theorem sliceV_from {H : Heap} {b o n : Nat} {c : Option Nat} {l : List UInt8} {r : Row} (h : Bytes H b o c l r) (hb : b < H.nx) (hn : n ≤ l.length) (k : IntKind) :
    ∃ v H', sliceV 1 (.slice b o l.length c) (some (nI k n)) none H = .val v H' ∧ BV H' v (l.drop n) ∧ Keep H H' [] ∧ ∀ b' o' m c', v = .slice b' o' m c' → b' = b ∨ H.nx ≤ b' := by
  have hcap : l.length ≤ capOf r o c := by
    cases c with
    | none =>
      show l.length ≤ cond (Nat.beq r.sz 1) (r.size - o) _
      rw [h.sz]; have := h.fits; show l.length ≤ r.size - o; omega
    | some k => exact (h.cap k rfl).1
  have hs : szOk r 1 c = true := by
    cases c with
    | none => show Nat.beq r.sz 1 = true; rw [h.sz]; rfl
    | some c => rfl
  have e : sliceV 1 (.slice b o l.length c) (some (nI k n)) none H = cond (Nat.beq n (capOf r o c)) (Option.rec (.val (.slice H.nx 0 (l.length - n) none) ⟨Nat.succ H.nx, H.t, H.ro⟩) (fun _ => .val (.slice b o (l.length - n) (some 0)) H) c) (.val (.slice b (o + n) (l.length - n) (capSub c n)) H) := by
    show onRow H b _ = _
    unfold onRow
    rw [h.at_]
    show onIf (szOk r 1 c) (onIf (Nat.ble n l.length) (onIf (Nat.ble n (capOf r o c)) (cond (Nat.beq n (capOf r o c)) _ (.val (.slice b (o + n * 1) (l.length - n) _) H)))) = _
    rw [hs, Nat.ble_eq_true_of_le hn, Nat.ble_eq_true_of_le (Nat.le_trans hn hcap), Nat.mul_one]
    cases c <;> rfl
  rw [e, beq_nat]
  by_cases hq : n = capOf r o c
  · rw [decide_eq_true hq]
    have h0 : l.length - n = 0 := by omega
    cases c with
    | none =>
      refine ⟨_, _, rfl, .inl ⟨List.drop_of_length_le (by omega), .inr ⟨_, _, _, by rw [h0]⟩⟩, ⟨Nat.le_succ _, rfl, fun _ _ _ => rfl⟩, fun b' o' m c' hv => ?_⟩
      cases hv; exact .inr (Nat.le_refl _)
    | some c =>
      refine ⟨_, _, rfl, .inl ⟨List.drop_of_length_le (by omega), .inr ⟨_, _, _, by rw [h0]⟩⟩, Keep.refl _ _, fun b' o' m c' hv => ?_⟩
      cases hv; exact .inl rfl
  · rw [decide_eq_false hq]
    refine ⟨_, _, rfl, ?_, Keep.refl _ _, fun b' o' m c' hv => ?_⟩
    · have hl : (l.drop n).length = l.length - n := List.length_drop ..
      by_cases h0 : l.drop n = []
      · exact .inl ⟨h0, .inr ⟨_, _, _, by rw [← hl, h0]; rfl⟩⟩
      · exact .inr ⟨h0, _, _, _, r, by rw [hl], h.drop hn, hb⟩
    · cases hv; exact .inl rfl
end
end Go.AI

namespace Go.AI
open Go
noncomputable section
attribute [local irreducible] sched
variable {lib : Nat → List AV → Heap → Option CR} {fs : T CF} {fuel : Nat}
theorem sliceV_to {H : Heap} {b o n : Nat} {c : Option Nat} {l : List UInt8} {r : Row} (h : Bytes H b o c l r) (h0 : 0 < n) (hn : n ≤ l.length) (k : IntKind) :
    sliceV 1 (.slice b o l.length c) none (some (nI k n)) H = .val (.slice b o n (capSub c 0)) H := by
  have hcap : l.length ≤ capOf r o c := by
    cases c with
    | none =>
      show l.length ≤ cond (Nat.beq r.sz 1) (r.size - o) _
      rw [h.sz]; have := h.fits; show l.length ≤ r.size - o; omega
    | some k => exact (h.cap k rfl).1
  have hs : szOk r 1 c = true := by
    cases c with
    | none => show Nat.beq r.sz 1 = true; rw [h.sz]; rfl
    | some c => rfl
  show onRow H b _ = _
  unfold onRow
  rw [h.at_]
  show onIf (szOk r 1 c) (onIf (Nat.ble n (capOf r o c)) (onIf (Nat.ble 0 n) (onIf (Nat.ble 0 (capOf r o c)) (cond (Nat.beq 0 (capOf r o c)) _ (.val (.slice b (o + 0 * 1) (n - 0) _) H))))) = _
  rw [hs, Nat.ble_eq_true_of_le (Nat.le_trans hn hcap), Nat.ble_eq_true_of_le (Nat.zero_le _), Nat.ble_eq_true_of_le (Nat.zero_le _), beq_nat, decide_eq_false (by omega), Nat.zero_mul]
  cases c <;> rfl
def callFV (P : Program) (a : AV) (args : List AV) (H : Heap) : OR := match a with
  | .func f p q => .oth (.call f (p ++ (args ++ q)) H)
  | .meth n r => onIface r .fail fun u v => methodA P n u fun g => .oth (.call g (v :: args) H)
  | .yield b => .oth (.yield b args H)
  | _ => .fail
theorem oCall_run (x : EvF) (P : Program) (args : List EvF) (tm : TM) (H : Heap) : oCall x P args tm H = callFV P (x tm) (evs tm args) H := rfl
theorem callFV_func (P : Program) (f : Nat) (p q args : List AV) (H : Heap) : callFV P (.func f p q) args H = .oth (.call f (p ++ (args ++ q)) H) := rfl
/-- whole blocks, the first so many -/
def blocksF (K h : List UInt32) (l : List UInt8) : Nat → List UInt32
  | 0 => h
  | t + 1 => blockF K (blocksF K h l t) ((l.drop (64 * t)).take 64)
theorem blocksF_length (K h : List UInt32) (l : List UInt8) (hh : h.length = 8) : ∀ t, (blocksF K h l t).length = 8
  | 0 => hh
  | _ + 1 => addsF_length ..
structure L5 (sb e : Nat) (K h : List UInt32) (l : List UInt8) (rest : List AV) (H0 : Heap) (t : Nat) (tm : TM) (H : Heap) : Prop where
  t1 : gt1 tm = .func 71 [.ptr sb 0] []
  t0 : BV H (gt0 tm) (l.drop (64 * t))
  far : ∀ b o n c, gt0 tm = .slice b o n c → b ≠ sb
  keep : Keep H0 H [sb]
  row : ∃ r, Own H sb e ((blocksF K h l t).map u32V ++ rest) r
theorem l5_step {n : Nat} (hl : ∀ l H, lib 147 l H = none) (hl2 : ∀ l H, lib 104 l H = none) (hl3 : ∀ l H, lib 103 l H = none) (hl4 : ∀ l H, lib 71 l H = none) (hf : fs.get 147 = some c147) (hf2 : fs.get 104 = some c104) (hf3 : fs.get 103 = some c103) (hf4 : fs.get 71 = some c71) (hF : 64 < fuel)
    {sb e : Nat} {K h : List UInt32} {l : List UInt8} {rest : List AV} {H0 : Heap} {rK : Row} (hK : H0.t.get 5 = some (.row rK)) (cK : Cells rK (K.map u32V)) (nK : K.length = 64) (h7 : 5 < H0.nx) (h7s : 5 ≠ sb) (hh : h.length = 8) (hsb : sb < H0.nx) (hro : H0.ro ≤ H0.nx)
    {rng : AV → (List AV → Heap → CR) → TM → Heap → X → Res} {yld : Nat → List AV → Heap → CR} (x : X)
    (t : Nat) (tm : TM) (H : Heap) (ht : t < l.length / 64) (hi : L5 sb e K h l rest H0 t tm H) : ∃ tm' H', c70_l0 ⟨callN lib fs fuel (n + 4), yld, rng, fuel, false⟩ tm H x = .ok .normal tm' H' x ∧ L5 sb e K h l rest H0 (t + 1) tm' H' := by
  obtain ⟨r, own⟩ := hi.row
  have i1 := hi.t1; have i0 := hi.t0; have far := hi.far
  simp only [gtr1, gtr0] at i1 i0 far
  have hlen : 64 ≤ (l.drop (64 * t)).length := by rw [List.length_drop]; omega
  have hne : l.drop (64 * t) ≠ [] := fun e => by rw [e] at hlen; simp at hlen
  rcases i0 with ⟨h0, _⟩ | ⟨_, b, o, c, rb, e0, hb, hlt⟩
  · exact absurd h0 hne
  have hbs := far _ _ _ _ e0
  have d1 : decide (64 ≤ (l.drop (64 * t)).length) = true := decide_eq_true hlen
  have lv : ∀ H', lenV (.slice b o (l.drop (64 * t)).length c) H' = .val (nI .i64 (l.drop (64 * t)).length) H' := fun H' => lenV_slice ..
  have sl : sliceV 1 (.slice b o (l.drop (64 * t)).length c) none (some (nI .i64 64)) H = .val (.slice b o 64 (capSub c 0)) H := sliceV_to hb (by omega) hlen _
  have hl8 := blocksF_length K h l hh t
  have nx0 := hi.keep.nx
  obtain ⟨H1, e1, k1, r1, own1⟩ := take_run (n := n) (fuel := fuel) hl hl2 hl3 hl4 hf hf2 hf3 hf4 hF (K := K) (by rw [hi.keep.get 5 h7 (by simpa using h7s)]; exact hK) cK nK (Nat.lt_of_lt_of_le h7 nx0) h7s own hl8 (Nat.lt_of_lt_of_le hsb nx0) (hb.take hlen)
    (by rw [List.length_take]; omega) hlt (by rw [hi.keep.ro]; omega)
  obtain ⟨v2, H2, e2, bv2, k2, far2⟩ := sliceV_from (n := 64) (hb.keep k1 hlt (by simpa using hbs)) (Nat.lt_of_lt_of_le hlt k1.nx) hlen .i64
  have app : ([.ptr sb 0] : List AV) ++ ([.slice b o 64 (capSub c 0)] ++ []) = [.ptr sb 0, .slice b o 64 (capSub c 0)] := rfl
  simp only [c70_l0, i1, e0, lv, d1, cmpV_ge, oSlice_run, Option.map_some, Option.map_none, sl, oCall_run, callFV_func, app, e1, e2, BaseG, N8G, HpG, Nat.zero_add, gtr0, gtr1, gtr5, gtr6, gtr7, gtr8, gtr9, gtr10, gtr11, gtr12, str0, str5, str6, str7, str8, str9, str10, str11, str12, str13]
  refine ⟨_, _, rfl, i1, ?_, ?_, ?_, r1, ?_⟩
  · show BV H2 v2 (l.drop (64 * (t + 1)))
    rw [show 64 * (t + 1) = 64 * t + 64 by omega, ← List.drop_drop]
    exact bv2
  · intro b' o' m c' hv
    have hv : v2 = .slice b' o' m c' := hv
    rcases far2 b' o' m c' hv with rfl | h3
    · exact hbs
    · have := k1.nx; omega
  · exact (hi.keep.trans k1 fun c hc _ => hc).trans k2 fun c hc _ => by simp at hc
  · have hlt1 : sb < H1.nx := by have := k1.nx; omega
    exact ⟨by rw [k2.get sb hlt1 (by simp)]; exact own1.at_, own1.elem, own1.sz, own1.own, own1.fz, own1.sm, own1.cells, by rw [k2.ro]; exact own1.ro⟩
end
end Go.AI

namespace Go.AI
open Go
noncomputable section
attribute [local irreducible] sched
variable {lib : Nat → List AV → Heap → Option CR} {fs : T CF} {fuel : Nat}
theorem l5_last {sb e : Nat} {K h : List UInt32} {l : List UInt8} {rest : List AV} {H0 : Heap} (c : Ctx) (x : X) (tm : TM) (H : Heap) (hi : L5 sb e K h l rest H0 (l.length / 64) tm H) :
    ∃ tm' H', c70_l0 c tm H x = .ok (.exit 0) tm' H' x ∧ L5 sb e K h l rest H0 (l.length / 64) tm' H' := by
  have i1 := hi.t1; have i0 := hi.t0; have far := hi.far
  simp only [gtr1, gtr0] at i1 i0 far
  have hlen : (l.drop (64 * (l.length / 64))).length < 64 := by rw [List.length_drop]; omega
  have d1 : decide (64 ≤ (l.drop (64 * (l.length / 64))).length) = false := decide_eq_false (by omega)
  have lv := fun H' => i0.len H'
  simp only [c70_l0, lv, d1, cmpV_ge, BaseG, N8G, HpG, Nat.zero_add, gtr0, gtr1, gtr5, gtr6, gtr7, gtr8, gtr9, gtr10, gtr11, gtr12, str0, str5, str6, str7, str8, str9, str10, str11, str12, str13]
  exact ⟨_, _, rfl, i1, i0, far, hi.keep, hi.row⟩
theorem blocks_run {n : Nat} (hl : ∀ l H, lib 147 l H = none) (hl2 : ∀ l H, lib 104 l H = none) (hl3 : ∀ l H, lib 103 l H = none) (hl4 : ∀ l H, lib 71 l H = none) (hf : fs.get 147 = some c147) (hf2 : fs.get 104 = some c104) (hf3 : fs.get 103 = some c103) (hf4 : fs.get 71 = some c71) (hF : 64 < fuel) (hl5 : ∀ l H, lib 70 l H = none) (hf5 : fs.get 70 = some c70)
    {sb e : Nat} {K h : List UInt32} {l : List UInt8} {v : AV} {rest : List AV} {H : Heap} {rK r : Row} (hlF : l.length / 64 < fuel) (hK : H.t.get 5 = some (.row rK)) (cK : Cells rK (K.map u32V)) (nK : K.length = 64) (h7 : 5 < H.nx) (h7s : 5 ≠ sb) (hh : h.length = 8) (hsb : sb < H.nx) (hro : H.ro ≤ H.nx)
    (hv : BV H v l) (far : ∀ b o n c, v = .slice b o n c → b ≠ sb) (own : Own H sb e (h.map u32V ++ rest) r) :
    ∃ v' H', callN lib fs fuel (n + 5) 70 [v, .func 71 [.ptr sb 0] []] H = .ret v' H' ∧ BV H' v' (l.drop (64 * (l.length / 64))) ∧ (∀ b o n c, v' = .slice b o n c → b ≠ sb) ∧ Keep H H' [sb] ∧ ∃ r', Own H' sb e ((blocksF K h l (l.length / 64)).map u32V ++ rest) r' := by
  rw [callN_fn (hl5 _ _) hf5]
  simp only [c70, argsT_2, loopD_run, BaseG, N8G, HpG, Nat.zero_add, gtr0, gtr4, gtr14, str4, str14, str0, str1, gtr0, gtr1]
  generalize hL : loopN (c70_l0 _) fuel _ _ _ = L
  obtain ⟨tm2, H2, rfl, j⟩ := sh_after_loop (P := fun T => L5 sb e K h l rest H 0 T H) (Q := L5 sb e K h l rest H (l.length / 64))
    (fun T hi => loopN_exit (L5 sb e K h l rest H) (L5 sb e K h l rest H (l.length / 64)) (l.length / 64) (fun t tm H' ht hi => l5_step (n := n) hl hl2 hl3 hl4 hf hf2 hf3 hf4 hF hK cK nK h7 h7s hh hsb hro _ t tm H' ht hi) (fun tm H' hi => l5_last _ _ tm H' hi) (l.length / 64) 0 fuel T H (Nat.zero_add _) hlF hi) hL
    ⟨rfl, hv, far, Keep.refl _ _, r, own⟩
  have j0 := j.t0; have f0 := j.far
  simp only [gtr0] at j0 f0
  simp only [leaveB_same, thenR_normal, seqD_run, seqO_run, oMv_run, goOn_val, gtr0, gtr14, str14, str4, gtr4, normD_run, retD_run, outF_ret, results_one, N8G]
  exact ⟨_, _, rfl, j0, f0, j.keep, j.row⟩
end
end Go.AI

namespace Go.AI
open Go
noncomputable section
attribute [local irreducible] sched
variable {lib : Nat → List AV → Heap → Option CR} {fs : T CF} {fuel : Nat}
theorem eqP_ptr_nil (b o : Nat) (H : Heap) : eqV eqP false (.ptr b o) .nilp H = .val (.bool false) H := rfl
theorem notV_bool (b : Bool) (H : Heap) : notV (.bool b) H = .val (.bool (!b)) H := by cases b <;> rfl
theorem pickV_false (a b : AV) (H : Heap) : pickV (.bool false) a b H = .val b H := rfl
/-- a state: its words, what is left, how many bytes it took -/
structure StIs (H : Heap) (sb : Nat) (h : List UInt32) (left : AV) (many : Nat) (r : Row) : Prop extends Own H sb 134 (h.map u32V ++ [left, nI .u64 many, .bool true]) r where
  len : h.length = 8
  low : sb < H.nx
theorem StIs.load {H H' : Heap} {sb many i : Nat} {h : List UInt32} {left : AV} {r : Row} (s : StIs H sb h left many r) (he : H'.t = H.t) (hi : i < 3) : load1V (.ptr sb (8 + i)) H' = .val (([left, nI .u64 many, .bool true] : List AV).getD i .unk) H' := by
  have hl : (h.map u32V).length = 8 := by rw [List.length_map]; exact s.len
  rw [load1V_row (r := r) (by rw [he]; exact s.at_) s.cells (by rw [List.length_append, hl]; simp; omega), List.getD_eq_getElem?_getD, List.getElem?_append_right (by omega), hl, Nat.add_sub_cancel_left, ← List.getD_eq_getElem?_getD]
theorem none_run {n : Nat} (hl : ∀ l H, lib 69 l H = none) (hf : fs.get 69 = some c69) {H : Heap} {sb many : Nat} {h : List UInt32} {left : AV} {r : Row} (s : StIs H sb h left many r) :
    callN lib fs fuel (n + 1) 69 [.ptr sb 0] H = .ret (.bool false) H := by
  rw [callN_fn (hl _ _) hf]
  have ld : load1V (.ptr sb 10) H = .val (.bool true) H := s.load rfl (by omega : 2 < 3)
  simp only [c69, argsT_1, eqP_ptr_nil, seqG_run, guardK_ff, ld, notV_bool, pickV_false, Bool.not_true, outF_ret, results_one, BaseG, N8G, HpG, Nat.zero_add, gtr0, gtr2, gtr3, gtr4, gtr5, gtr6, gtr7, gtr8, gtr9, gtr10, gtr11, str2, str3, str4, str5, str6, str7, str8, str9, str10, str11, str0, gtr0]
theorem buildV_state (a0 a1 a2 a3 a4 a5 a6 a7 : AV) (H : Heap) :
    buildV [(nI .u32 0), (nI .u32 0), (nI .u32 0), (nI .u32 0), (nI .u32 0), (nI .u32 0), (nI .u32 0), (nI .u32 0), .nils, (nI .u64 0), (.bool false)] [(0, 8, .agg [a0, a1, a2, a3, a4, a5, a6, a7]), (10, 1, .bool true)] H = .val (.agg [a0, a1, a2, a3, a4, a5, a6, a7, .nils, nI .u64 0, .bool true]) H := rfl
def boxV (e : Nat) (a : AV) (H : Heap) : OR := onIf (Nat.ble 1 (lenL a.cells)) <| .val (.ptr H.nx 0) (H.newRow e 1 a.cells true)
theorem oBox_run (x : EvF) (e : Nat) (tm : TM) (H : Heap) : oBox x e tm H = boxV e (x tm) H := rfl
theorem boxV_agg (e : Nat) (a : AV) (l : List AV) (H : Heap) : boxV e (.agg (a :: l)) H = .val (.ptr H.nx 0) (H.newRow e 1 (a :: l) true) := rfl
theorem new_state {H : Heap} {h : List UInt32} {left : AV} {many : Nat} (hh : h.length = 8) (hro : H.ro ≤ H.nx) : ∃ r, StIs (H.newRow 134 1 (h.map u32V ++ [left, nI .u64 many, .bool true]) true) H.nx h left many r :=
  ⟨_, ⟨⟨by rw [newRow_eq, new_get, if_pos rfl], rfl, rfl, rfl, rfl, rfl, Cells.new .., hro⟩, hh, Nat.lt_succ_self _⟩⟩
theorem new_run {n : Nat} (hl : ∀ l H, lib 44 l H = none) (hf : fs.get 44 = some c44) {H : Heap} {h : List UInt32} {rB : Row} (hB : H.t.get 1 = some (.row rB)) (cB : Cells rB (h.map u32V)) (hh : h.length = 8) :
    callN lib fs fuel (n + 1) 44 [] H = .ret (.ptr H.nx 0) (H.newRow 134 1 (h.map u32V ++ [.nils, nI .u64 0, .bool true]) true) := by
  rw [callN_fn (hl _ _) hf]
  have nh : (h.map u32V).length = 8 := by rw [List.length_map]; exact hh
  have ld : loadV 8 (.ptr 1 0) H = .val (.agg (h.map u32V)) H := by
    rw [loadV_row hB cB (by omega), List.drop_zero, List.take_of_length_le (by omega)]
  obtain ⟨a0, a1, a2, a3, a4, a5, a6, a7, rfl⟩ := list8 hh
  simp only [List.map_cons, List.map_nil, List.cons_append, List.nil_append] at ld ⊢
  simp only [c44, argsT_0, ld, oBuild_run, List.map_cons, List.map_nil, buildV_state, oBox_run, boxV_agg, outF_ret, results_one, BaseG, N8G, HpG, Nat.zero_add, gtr0, gtr1, gtr2, gtr3, str0, str1, str2, str3, str0, gtr0]
end
end Go.AI

namespace Go.AI
open Go
noncomputable section
attribute [local irreducible] sched
variable {lib : Nat → List AV → Heap → Option CR} {fs : T CF} {fuel : Nat}
theorem BV.src {H : Heap} {v : AV} {l : List UInt8} (h : BV H v l) : Src H v (l.map u8V) := by
  rcases h with ⟨rfl, rfl | ⟨b, o, c, rfl⟩⟩ | ⟨_, b, o, c, r, rfl, hb, _⟩
  · exact Src.nils H
  · exact Src.none H b o c
  · have := Src.row (c := c) (l := l.map u8V) hb.at_ (by rw [List.length_map]; exact hb.fits) (fun i hi => by
      rw [List.length_map] at hi
      rw [hb.get i hi, List.getD_eq_getElem?_getD, List.getD_eq_getElem?_getD, List.getElem?_map, List.getElem?_eq_getElem hi]; rfl)
    rw [List.length_map] at this
    exact this
theorem Cells.bytes {H : Heap} {b : Nat} {r : Row} {l : List UInt8} (hr : H.t.get b = some (.row r)) (hs : r.sz = 1) (hc : Cells r (l.map u8V)) : Bytes H b 0 none l r := by
  have hz := hc.size
  rw [List.length_map] at hz
  refine ⟨hr, hs, by omega, fun i hi => ?_, fun c hc => by cases hc⟩
  rw [Nat.zero_add, hc.get i (by rw [List.length_map]; exact hi), List.getD_eq_getElem?_getD, List.getElem?_map, List.getD_eq_getElem?_getD, List.getElem?_eq_getElem hi]; rfl
/-- bytes copied to a row of their own (or none) -/
theorem copy_run {H : Heap} {v : AV} {l : List UInt8} (h : BV H v l) (hl : l.length ≤ 140737488355328) (hro : H.ro ≤ H.nx) :
    ∃ v' H', appendV 5 1 1 .nils v H = .val v' H' ∧ BV H' v' l ∧ Keep H H' [] ∧ (∀ b o n c, v' = .slice b o n c → b = H.nx ∧ H.nx < H'.nx) := by
  rw [appendV_src (Nat.le_refl 1) h.src]
  by_cases h0 : l = []
  · subst h0
    exact ⟨_, _, appX_nil0 5 1 H, .inl ⟨rfl, .inl rfl⟩, Keep.refl _ _, fun b o n c e => by cases e⟩
  · have hp : 0 < (l.map u8V).length := by rw [List.length_map]; exact List.length_pos_iff.2 h0
    have g := grow_new (H := H) (e := 5) (l := l.map u8V) hro
    refine ⟨_, _, appX_nil hp (by rw [List.length_map]; exact hl), .inr ⟨h0, H.nx, 0, none, _, by rw [List.length_map], g.cells.bytes g.at_ g.sz, Nat.lt_succ_self _⟩, Keep.new _ _ _, fun b o n c e => ?_⟩
    cases e; exact ⟨rfl, Nat.lt_succ_self _⟩
theorem oFunc_run (f : Nat) (a b : List EvF) (tm : TM) (H : Heap) : oFunc f a b tm H = .val (.func f (evs tm a) (evs tm b)) H := rfl
theorem intV_i_u64 {n : Nat} (h : n < 9223372036854775808) (H : Heap) : intV .u64 (nI .i64 n) H = .val (nI .u64 n) H := by
  show valI .u64 (.ofNat n) H = _
  rw [valI_run, wrap_u64, Nat.mod_eq_of_lt (by omega)]; rfl
theorem addV_u64 {a b : Nat} (h : a + b < 18446744073709551616) (H : Heap) : addV (nI .u64 a) (nI .u64 b) H = .val (nI .u64 (a + b)) H := by
  show onIf (kEq .u64 .u64) (valI .u64 (iadd (.ofNat a) (.ofNat b)) H) = _
  rw [kEq_self, valI_run, iadd_nat, wrap_u64, Nat.mod_eq_of_lt h]; rfl
theorem StIs.store {H : Heap} {sb many i : Nat} {h : List UInt32} {left : AV} {r : Row} (s : StIs H sb h left many r) (hi : i < 3) (v : AV) (hv : v.cells = [v]) :
    storeV 1 (.ptr sb (8 + i)) v H = .val undefA (H.put sb (.row (r.setCells (storeN r.cells (8 + i) [v])))) := by
  have hl : (h.map u32V).length = 8 := by rw [List.length_map]; exact s.len
  have := storeV_row (v := v) (n := 1) (o := 8 + i) s.at_ s.cells s.own s.ro s.fz (Nat.le_refl _) (by rw [hv]; rfl) (by rw [List.length_append, hl]; simp; omega)
  rw [hv] at this
  exact this
theorem StIs.stored {H : Heap} {sb many i : Nat} {h : List UInt32} {left : AV} {r : Row} (s : StIs H sb h left many r) (hi : i < 3) (v : AV) :
    Own (H.put sb (.row (r.setCells (storeN r.cells (8 + i) [v])))) sb 134 (h.map u32V ++ ([left, nI .u64 many, .bool true] : List AV).set i v) (r.setCells (storeN r.cells (8 + i) [v])) := by
  have hl : (h.map u32V).length = 8 := by rw [List.length_map]; exact s.len
  refine ⟨by rw [put_get, if_pos rfl], s.elem, s.sz, s.own, s.fz, s.sm, ?_, s.ro⟩
  have := s.cells.store1 (o := 8 + i) (v := v) (by rw [List.length_append, hl]; simp; omega)
  rw [List.set_append_right _ _ (by omega), hl, Nat.add_sub_cancel_left] at this
  exact this
theorem write_run {n : Nat} (hl : ∀ l H, lib 147 l H = none) (hl2 : ∀ l H, lib 104 l H = none) (hl3 : ∀ l H, lib 103 l H = none) (hl4 : ∀ l H, lib 71 l H = none) (hf : fs.get 147 = some c147) (hf2 : fs.get 104 = some c104) (hf3 : fs.get 103 = some c103) (hf4 : fs.get 71 = some c71) (hF : 64 < fuel) (hl5 : ∀ l H, lib 70 l H = none) (hf5 : fs.get 70 = some c70) (hl6 : ∀ l H, lib 69 l H = none) (hf6 : fs.get 69 = some c69) (hl7 : ∀ l H, lib 45 l H = none) (hf7 : fs.get 45 = some c45)
    {sb many : Nat} {K h : List UInt32} {l : List UInt8} {v : AV} {H : Heap} {rK r : Row} (hlF : l.length / 64 < fuel) (hll : l.length ≤ 140737488355328) (hmany : many + l.length < 18446744073709551616) (hK : H.t.get 5 = some (.row rK)) (cK : Cells rK (K.map u32V)) (nK : K.length = 64) (h7 : 5 < H.nx) (h7s : 5 ≠ sb) (hro : H.ro ≤ H.nx)
    (hv : BV H v l) (far : ∀ b o n c, v = .slice b o n c → b ≠ sb) (s : StIs H sb h .nils many r) :
    ∃ left H' r', callN lib fs fuel (n + 6) 45 [.ptr sb 0, v] H = .ret (nI .i64 0) H' ∧ BV H' left (l.drop (64 * (l.length / 64))) ∧ (∀ b o n c, left = .slice b o n c → H.nx ≤ b) ∧ Keep H H' [sb] ∧ StIs H' sb (blocksF K h l (l.length / 64)) left (many + l.length) r' := by
  rw [callN_fn (hl7 _ _) hf7]
  have en := none_run (fuel := fuel) (n := n + 4) hl6 hf6 s
  have ld9 : load1V (.ptr sb 9) H = .val (nI .u64 many) H := s.load rfl (by omega : 1 < 3)
  have st9 := s.store (i := 1) (by omega) (nI .u64 (many + l.length)) rfl
  have own1 := s.stored (i := 1) (by omega) (nI .u64 (many + l.length))
  generalize hr1 : r.setCells (storeN r.cells (8 + 1) [nI .u64 (many + l.length)]) = r1 at st9 own1
  generalize hH1 : H.put sb (.row r1) = H1 at st9 own1
  have k1 : Keep H H1 [sb] := by rw [← hH1]; exact Keep.put fun _ => List.mem_singleton.2 rfl
  have nx1 : H1.nx = H.nx := by rw [← hH1]; rfl
  have s1 : StIs H1 sb h .nils (many + l.length) r1 := ⟨own1, s.len, by rw [nx1]; exact s.low⟩
  have ld8 : load1V (.ptr sb 8) H1 = .val .nils H1 := s1.load rfl (by omega : 0 < 3)
  have hv1 : BV H1 v l := hv.keep k1 fun b o n c e => by simpa using far b o n c e
  obtain ⟨v2, H2, e2, hv2, k2, far2⟩ := copy_run hv1 hll (by rw [k1.ro, nx1]; exact hro)
  have own2 : Own H2 sb 134 (h.map u32V ++ [.nils, nI .u64 (many + l.length), .bool true]) r1 := ⟨by rw [k2.get sb s1.low (by simp)]; exact own1.at_, own1.elem, own1.sz, own1.own, own1.fz, own1.sm, own1.cells, by rw [k2.ro]; exact own1.ro⟩
  have nx2 : H.nx ≤ H2.nx := by have := k2.nx; omega
  have far2' : ∀ b o n c, v2 = .slice b o n c → b ≠ sb := fun b o n c e => by have := (far2 b o n c e).1; have := s1.low; omega
  obtain ⟨v3, H3, e3, hv3, far3, k3, r3, own3⟩ := blocks_run (n := n) (fuel := fuel) hl hl2 hl3 hl4 hf hf2 hf3 hf4 hF hl5 hf5 hlF (by rw [k2.get 5 (by omega) (by simp), k1.get 5 h7 (by simpa using h7s)]; exact hK) cK nK (by omega) h7s s.len (by have := s.low; omega) (by rw [k2.ro, k1.ro]; omega) hv2 far2' own2
  have hl3' : (l.drop (64 * (l.length / 64))).length ≤ 140737488355328 := by rw [List.length_drop]; omega
  have nx3 : H.nx ≤ H3.nx := by have := k3.nx; omega
  obtain ⟨v4, H4, e4, hv4, k4, far4⟩ := copy_run hv3 hl3' (by rw [k3.ro, k2.ro, k1.ro]; omega)
  have s4 : StIs H4 sb (blocksF K h l (l.length / 64)) .nils (many + l.length) r3 := ⟨⟨by rw [k4.get sb (by have := s.low; omega) (by simp)]; exact own3.at_, own3.elem, own3.sz, own3.own, own3.fz, own3.sm, own3.cells, by rw [k4.ro]; exact own3.ro⟩, blocksF_length K h l s.len _, by have := s.low; have := k4.nx; omega⟩
  have hcell : v4.cells = [v4] := by
    rcases hv4 with ⟨_, rfl | ⟨b, o, c, rfl⟩⟩ | ⟨_, b, o, c, r, rfl, _⟩ <;> rfl
  have st8 := s4.store (i := 0) (by omega) v4 hcell
  have own5 := s4.stored (i := 0) (by omega) v4
  have app : ([.ptr sb 0] : List AV) = [.ptr sb 0] := rfl
  simp (disch := omega) only [c45, argsT_2, en, ld9, hv.len, intV_i_u64, addV_u64, st9, ld8, oAppend_run, e2, oFunc_run, e3, e4, st8, Nat.reduceAdd, BaseG, N8G, HpG, Nat.zero_add, gtr0, gtr1, gtr4, gtr5, gtr6, gtr7, gtr8, gtr9, gtr10, gtr11, gtr12, gtr13, gtr14, gtr15, gtr16, gtr17, gtr18, gtr19, gtr20, gtr21, gtr22, gtr23, gtr24, gtr25, gtr26, gtr27, gtr28, gtr29, gtr30, gtr31, str4, str5, str6, str7, str8, str9, str10, str11, str12, str13, str14, str15, str16, str17, str18, str19, str20, str21, str22, str23, str24, str25, str26, str27, str28, str29, str30, str31, str0, str1, gtr0, gtr1]
  refine ⟨v4, _, _, rfl, ?_, fun b o n c e => ?_, ?_, own5, s4.len, ?_⟩
  · exact hv4.keep (Keep.put fun _ => List.mem_singleton.2 rfl) fun b o n c e => by
      have := (far4 b o n c e).1; have := s4.low; simp only [List.mem_singleton]; have := s.low; omega
  · have := (far4 b o n c e).1; omega
  · exact (((k1.trans k2 fun c hc _ => by simp at hc).trans k3 fun c hc _ => hc).trans k4 fun c hc _ => by simp at hc).then_put fun _ => List.mem_singleton.2 rfl
  · exact s4.low
end
end Go.AI

namespace Go.AI
open Go
noncomputable section
attribute [local irreducible] sched
variable {lib : Nat → List AV → Heap → Option CR} {fs : T CF} {fuel : Nat}
/-- bytes in a row that grows -/
def ShTail (H : Heap) (v : AV) (l : List UInt8) (lo : Nat) : Prop := ∃ b r, v = .slice b 0 l.length none ∧ Grow H b 5 (l.map u8V) r ∧ lo ≤ b
/-- one byte more -/
theorem tail_push {H : Heap} {v : AV} {l : List UInt8} {lo : Nat} (h : ShTail H v l lo) (hl : l.length < 140737488355328) (x : UInt8) :
    ∃ v' H', appendV 5 1 1 v (.slice H.nx 0 1 none) (H.newRow 5 1 [u8V x] true) = .val v' H' ∧ ShTail H' v' (l ++ [x]) lo ∧ H.nx ≤ H'.nx ∧ H'.ro = H.ro ∧ ∀ c, c < lo → c < H.nx → H'.t.get c = H.t.get c := by
  obtain ⟨b, r, rfl, g, hlo⟩ := h
  generalize hH1 : H.newRow 5 1 [u8V x] true = H1
  have nx1 : H1.nx = H.nx + 1 := by rw [← hH1]; rfl
  have k1 : Keep H H1 [] := by rw [← hH1]; exact Keep.new H _ []
  have gx : H1.t.get H.nx = some (.row ⟨5, 1, 1, T.ofList [u8V x], .unk, 0, false, true, true⟩) := by rw [← hH1, newRow_eq, new_get, if_pos rfl]; rfl
  have src : Src H1 (.slice H.nx 0 1 none) [u8V x] := Src.row (l := [u8V x]) gx (Nat.le_refl _) (fun i hi => by
    have : i = 0 := by simp at hi; exact hi
    subst this
    rfl)
  have g1 : Grow H1 b 5 (l.map u8V) r := ⟨⟨by rw [k1.get b g.low (by simp)]; exact g.at_, g.elem, g.sz, g.own, g.fz, g.sm, g.cells, by rw [k1.ro]; exact g.ro⟩, g.exact_, by have := g.low; omega⟩
  obtain ⟨H', r', e, g', k', nx'⟩ := appX_grow (m := [u8V x]) g1 (by simp) (by rw [List.length_map]; simp; omega)
  rw [appendV_src (Nat.le_refl 1) src]
  rw [List.length_map] at e
  refine ⟨_, H', e, ⟨H1.nx, r', by rw [List.length_append]; rfl, by rw [List.map_append]; exact g', by have := g.low; omega⟩, by omega, by rw [k'.ro, k1.ro], fun c hc hn => ?_⟩
  rw [k'.get c (by omega) (by simp; omega), k1.get c hn (by simp)]
theorem tail_first {H : Heap} {v : AV} {l : List UInt8} (h : BV H v l) (hl : l.length < 140737488355328) (hro : H.ro ≤ H.nx) (x : UInt8) :
    ∃ v1 H1 v' H', appendV 5 1 1 .nils v H = .val v1 H1 ∧ appendV 5 1 1 v1 (.slice H1.nx 0 1 none) (H1.newRow 5 1 [u8V x] true) = .val v' H' ∧ ShTail H' v' (l ++ [x]) H.nx ∧ Keep H H' [] := by
  rw [appendV_src (Nat.le_refl 1) h.src]
  by_cases h0 : l = []
  · subst h0
    generalize hH1 : H.newRow 5 1 [u8V x] true = H1
    have nx1 : H1.nx = H.nx + 1 := by rw [← hH1]; rfl
    have k1 : Keep H H1 [] := by rw [← hH1]; exact Keep.new H _ []
    have gx : H1.t.get H.nx = some (.row ⟨5, 1, 1, T.ofList [u8V x], .unk, 0, false, true, true⟩) := by rw [← hH1, newRow_eq, new_get, if_pos rfl]; rfl
    have src : Src H1 (.slice H.nx 0 1 none) [u8V x] := Src.row (l := [u8V x]) gx (Nat.le_refl _) (fun i hi => by
      have : i = 0 := by simp at hi; exact hi
      subst this
      rfl)
    have g := grow_new (H := H1) (e := 5) (l := [u8V x]) (by rw [k1.ro]; omega)
    refine ⟨_, _, _, _, appX_nil0 5 1 H, (by rw [hH1, appendV_src (Nat.le_refl 1) src]; exact appX_nil (l := [u8V x]) (by simp) (by simp)), ⟨_, _, rfl, g, by omega⟩, k1.then_new _⟩
  · have hp : 0 < (l.map u8V).length := by rw [List.length_map]; exact List.length_pos_iff.2 h0
    have g := grow_new (H := H) (e := 5) (l := l.map u8V) hro
    have e0 := appX_nil (e := 5) (H := H) hp (by rw [List.length_map]; omega)
    obtain ⟨v', H', e, tl, nx, ro, k⟩ := tail_push (v := .slice H.nx 0 (l.map u8V).length none) (lo := H.nx) ⟨H.nx, _, by rw [List.length_map], g, Nat.le_refl _⟩ hl x
    exact ⟨_, _, v', H', e0, e, tl, Nat.le_trans (Nat.le_succ _) nx, ro, fun c hc hn => (k c hc (Nat.lt_succ_of_lt hc)).trans ((Keep.new H _ []).get c hc hn)⟩
end
end Go.AI

namespace Go.AI
open Go
noncomputable section
attribute [local irreducible] sched
variable {lib : Nat → List AV → Heap → Option CR} {fs : T CF} {fuel : Nat}
/-- padding: so many noughts -/
structure L6 (sb b2 b3 cb : Nat) (l : List UInt8) (H0 : Heap) (t : Nat) (tm : TM) (H : Heap) : Prop where
  t0 : gt0 tm = .ptr sb 0
  t2 : gt2 tm = .ptr b2 0
  t3 : gt3 tm = .ptr b3 0
  t4 : gt4 tm = .ptr cb 0
  t5 : ShTail H (gt5 tm) (l ++ List.replicate t 0) H0.nx
  keep : Keep H0 H []
theorem ShTail.len {H : Heap} {v : AV} {l : List UInt8} {lo : Nat} (h : ShTail H v l lo) (H' : Heap) : lenV v H' = .val (nI .i64 l.length) H' := by
  obtain ⟨b, r, rfl, _⟩ := h; exact lenV_slice ..
theorem keep_push {H0 H H' : Heap} (k : Keep H0 H []) (nx : H.nx ≤ H'.nx) (ro : H'.ro = H.ro) (h : ∀ c, c < H0.nx → c < H.nx → H'.t.get c = H.t.get c) : Keep H0 H' [] :=
  ⟨Nat.le_trans k.nx nx, ro.trans k.ro, fun c hc _ => (h c hc (Nat.lt_of_lt_of_le hc k.nx)).trans (k.get c hc (by simp))⟩
theorem l6_step {sb b2 b3 cb : Nat} {l : List UInt8} {H0 : Heap} {N : Nat} (hN : ∀ t, t < N → (l.length + t) % 64 ≠ 56) (hl : l.length + N < 140737488355328) (c : Ctx) (x : X) (t : Nat) (tm : TM) (H : Heap) (ht : t < N) (h : L6 sb b2 b3 cb l H0 t tm H) :
    ∃ tm' H', c46_l0 c tm H x = .ok .normal tm' H' x ∧ L6 sb b2 b3 cb l H0 (t + 1) tm' H' := by
  have i0 := h.t0; have i2 := h.t2; have i3 := h.t3; have i4 := h.t4; have i5 := h.t5
  simp only [gtr0, gtr2, gtr3, gtr4, gtr5] at i0 i2 i3 i4 i5
  have hlen : (l ++ List.replicate t (0 : UInt8)).length = l.length + t := by simp
  have d1 : decide ((l ++ List.replicate t (0 : UInt8)).length % 64 ≠ 56) = true := decide_eq_true (by rw [hlen]; exact hN t ht)
  obtain ⟨v', H', e, tl, nx, ro, k⟩ := tail_push i5 (by rw [hlen]; omega) 0
  have bs : bsliceV 5 1 1 [nI .u8 0] [(0, 1, nI .u8 0)] H = .val (.slice H.nx 0 1 none) (H.newRow 5 1 [u8V 0] true) := bsliceV_one 5 (nI .u8 0) (nI .u8 0) rfl H
  simp (disch := omega) only [c46_l0, i5.len, remV_i, eqV_ne, d1, oBSlice_run, List.map_cons, List.map_nil, bs, oAppend_run, e, BaseG, N8G, HpG, Nat.zero_add, gtr5, gtr24, gtr25, gtr26, gtr27, gtr28, gtr29, gtr30, str5, str24, str25, str26, str27, str28, str29, str30]
  refine ⟨_, _, rfl, i0, i2, i3, i4, ?_, keep_push h.keep nx ro k⟩
  have e2 : l ++ List.replicate (t + 1) (0 : UInt8) = (l ++ List.replicate t 0) ++ [0] := by rw [List.replicate_succ', List.append_assoc]
  rw [e2]
  exact tl
theorem l6_last {sb b2 b3 cb : Nat} {l : List UInt8} {H0 : Heap} {N : Nat} (hN : (l.length + N) % 64 = 56) (c : Ctx) (x : X) (tm : TM) (H : Heap) (h : L6 sb b2 b3 cb l H0 N tm H) :
    ∃ tm' H', c46_l0 c tm H x = .ok (.exit 0) tm' H' x ∧ L6 sb b2 b3 cb l H0 N tm' H' := by
  have i0 := h.t0; have i2 := h.t2; have i3 := h.t3; have i4 := h.t4; have i5 := h.t5
  simp only [gtr0, gtr2, gtr3, gtr4, gtr5] at i0 i2 i3 i4 i5
  have hlen : (l ++ List.replicate N (0 : UInt8)).length = l.length + N := by simp
  have d1 : decide ((l ++ List.replicate N (0 : UInt8)).length % 64 ≠ 56) = false := decide_eq_false (by rw [hlen]; exact fun h => h hN)
  simp (disch := omega) only [c46_l0, i5.len, remV_i, eqV_ne, d1, BaseG, N8G, HpG, Nat.zero_add, gtr5, gtr24, gtr25, gtr26, gtr27, gtr28, gtr29, gtr30, str5, str24, str25, str26, str27, str28, str29, str30]
  exact ⟨_, _, rfl, i0, i2, i3, i4, i5, h.keep⟩
end
end Go.AI

namespace Go.AI
open Go
noncomputable section
attribute [local irreducible] sched
variable {lib : Nat → List AV → Heap → Option CR} {fs : T CF} {fuel : Nat}
def idx7 (t : Nat) : AV := if t < 8 then nI .i64 (7 - t) else .int .i64 (.negSucc 0)
def lenByte (many t : Nat) : UInt8 := UInt8.ofNat ((many * 8 % 18446744073709551616) / 2 ^ (8 * (7 - t)))
def lenBytes (many t : Nat) : List UInt8 := (List.range t).map (lenByte many)
theorem lenBytes_succ (many t : Nat) : lenBytes many (t + 1) = lenBytes many t ++ [lenByte many t] := by
  unfold lenBytes; rw [List.range_succ, List.map_append]; rfl
theorem shlV_u64_3 (a : Nat) (H : Heap) : shlV (nI .u64 a) (nI .u64 3) H = .val (nI .u64 (a * 8 % 18446744073709551616)) H := by
  show valI .u64 (imul (.ofNat a) (.ofNat 8)) H = _
  rw [valI_run, imul_nat, wrap_u64]; rfl
theorem shrV_u64 (a : Nat) {n : Nat} (h : n < 64) (H : Heap) : shrV (nI .u64 a) (nI .i64 n) H = .val (nI .u64 (a / 2 ^ n)) H := by
  show forceI (.ofNat (Nat.div a (Nat.pow 2 (minN n 64)))) (fun n => OR.val (.int .u64 n) H) = _
  rw [forceI_eq]
  have : minN n 64 = n := by unfold minN; rw [Nat.ble_eq_true_of_le (by omega)]; rfl
  rw [this]; rfl
theorem intV_u64_u8 (a : Nat) (H : Heap) : intV .u8 (nI .u64 a) H = .val (u8V (UInt8.ofNat a)) H := by
  show valI .u8 (.ofNat a) H = _
  rw [valI_run, wrap_u8]
  unfold u8V
  rw [UInt8.toNat_ofNat']
structure L7 (sb b2 b3 cb many : Nat) (l : List UInt8) (H0 : Heap) (t : Nat) (tm : TM) (H : Heap) : Prop where
  t0 : gt0 tm = .ptr sb 0
  t2 : gt2 tm = .ptr b2 0
  t3 : gt3 tm = .ptr b3 0
  t4 : gt4 tm = .ptr cb 0
  t5 : ShTail H (gt5 tm) (l ++ lenBytes many t) H0.nx
  t6 : gt6 tm = idx7 t
  keep : Keep H0 H []
theorem l7_step {sb b2 b3 cb many : Nat} {l : List UInt8} {H0 : Heap} {h : List UInt32} {left : AV} {r : Row} (s : StIs H0 sb h left many r) (hl : l.length + 8 < 140737488355328) (c : Ctx) (x : X) (t : Nat) (tm : TM) (H : Heap) (ht : t < 8) (hi : L7 sb b2 b3 cb many l H0 t tm H) :
    ∃ tm' H', c46_l1 c tm H x = .ok .normal tm' H' x ∧ L7 sb b2 b3 cb many l H0 (t + 1) tm' H' := by
  have i0 := hi.t0; have i2 := hi.t2; have i3 := hi.t3; have i4 := hi.t4; have i5 := hi.t5; have i6 := hi.t6
  rw [show idx7 t = nI .i64 (7 - t) from if_pos ht] at i6
  simp only [gtr0, gtr2, gtr3, gtr4, gtr5, gtr6] at i0 i2 i3 i4 i5 i6
  have d1 : decide (0 ≤ 7 - t) = true := decide_eq_true (Nat.zero_le _)
  have s1 : StIs H sb h left many r := ⟨⟨by rw [hi.keep.get sb s.low (by simp)]; exact s.at_, s.elem, s.sz, s.own, s.fz, s.sm, s.cells, by rw [hi.keep.ro]; exact s.ro⟩, s.len, Nat.lt_of_lt_of_le s.low hi.keep.nx⟩
  have ld : load1V (.ptr sb 9) H = .val (nI .u64 many) H := s1.load rfl (by omega : 1 < 3)
  have hlen : (l ++ lenBytes many t).length = l.length + t := by simp [lenBytes]
  obtain ⟨v', H', e, tl, nx, ro, k⟩ := tail_push i5 (by rw [hlen]; omega) (lenByte many t)
  have bs : bsliceV 5 1 1 [nI .u8 0] [(0, 1, u8V (lenByte many t))] H = .val (.slice H.nx 0 1 none) (H.newRow 5 1 [u8V (lenByte many t)] true) := bsliceV_one 5 (nI .u8 0) _ rfl H
  have dec : ∀ H', subV (nI .i64 (7 - t)) (nI .i64 1) H' = .val (idx7 (t + 1)) H' := fun H' => by
    by_cases h7 : t = 7
    · subst h7
      show valI .i64 (isub (.ofNat 0) (.ofNat 1)) H' = _
      rw [valI_run]; rfl
    · rw [subV_i (by omega) (by omega), show idx7 (t + 1) = nI .i64 (7 - (t + 1)) from if_pos (by omega), show 7 - t - 1 = 7 - (t + 1) by omega]
  have lb : ∀ H', intV .u8 (nI .u64 (many * 8 % 18446744073709551616 / 2 ^ (8 * (7 - t)))) H' = .val (u8V (lenByte many t)) H' := fun H' => intV_u64_u8 _ H'
  simp (disch := omega) only [c46_l1, i0, i6, cmpV_ge, d1, ld, shlV_u64_3, mulV_i, shrV_u64, lb, oBSlice_run, List.map_cons, List.map_nil, bs, oAppend_run, e, dec, BaseG, N8G, HpG, Nat.zero_add, gtr0, gtr5, gtr6, gtr31, gtr32, gtr33, gtr34, gtr35, gtr36, gtr37, gtr38, gtr39, gtr40, gtr41, gtr42, gtr43, gtr44, gtr45, gtr46, str5, str6, str31, str32, str33, str34, str35, str36, str37, str38, str39, str40, str41, str42, str43, str44, str45, str46]
  refine ⟨_, _, rfl, i0, i2, i3, i4, ?_, rfl, keep_push hi.keep nx ro k⟩
  rw [lenBytes_succ, ← List.append_assoc]
  exact tl
theorem l7_last {sb b2 b3 cb many : Nat} {l : List UInt8} {H0 : Heap} (c : Ctx) (x : X) (tm : TM) (H : Heap) (hi : L7 sb b2 b3 cb many l H0 8 tm H) :
    ∃ tm' H', c46_l1 c tm H x = .ok (.exit 2) tm' H' x ∧ L7 sb b2 b3 cb many l H0 8 tm' H' := by
  have i0 := hi.t0; have i2 := hi.t2; have i3 := hi.t3; have i4 := hi.t4; have i5 := hi.t5; have i6 := hi.t6
  rw [show idx7 8 = .int .i64 (.negSucc 0) from rfl] at i6
  simp only [gtr0, gtr2, gtr3, gtr4, gtr5, gtr6] at i0 i2 i3 i4 i5 i6
  have d1 : ∀ H', cmpV igeF strGe (.int .i64 (.negSucc 0)) (nI .i64 0) H' = .val (.bool false) H' := fun H' => rfl
  simp (disch := omega) only [c46_l1, i6, d1, BaseG, N8G, HpG, Nat.zero_add, gtr0, gtr5, gtr6, gtr31, gtr32, gtr33, gtr34, gtr35, gtr36, gtr37, gtr38, gtr39, gtr40, gtr41, gtr42, gtr43, gtr44, gtr45, gtr46, str5, str6, str31, str32, str33, str34, str35, str36, str37, str38, str39, str40, str41, str42, str43, str44, str45, str46]
  exact ⟨_, _, rfl, i0, i2, i3, i4, i5, i6, hi.keep⟩
end
end Go.AI

namespace Go.AI
open Go
noncomputable section
attribute [local irreducible] sched
variable {lib : Nat → List AV → Heap → Option CR} {fs : T CF} {fuel : Nat}
def digB (h : List UInt32) (i : Nat) : UInt8 := ((h.getD (i / 4) 0) >>> UInt32.ofNat (24 - 8 * (i % 4))).toUInt8
def digs (h : List UInt32) (t : Nat) : List UInt8 := (List.range t).map (digB h)
theorem digs_succ (h : List UInt32) (t : Nat) : digs h (t + 1) = digs h t ++ [digB h t] := by
  unfold digs; rw [List.range_succ, List.map_append]; rfl
theorem digs_length (h : List UInt32) (t : Nat) : (digs h t).length = t := by unfold digs; simp
theorem shrV_32k (a : UInt32) {n : Nat} (h : n < 32) (k : IntKind) (H : Heap) : shrV (u32V a) (nI k n) H = .val (u32V (a >>> UInt32.ofNat n)) H := shrV_32 a h H
theorem intV_32_u8 (a : UInt32) (H : Heap) : intV .u8 (u32V a) H = .val (u8V a.toUInt8) H := by
  show valI .u8 (.ofNat a.toNat) H = _
  rw [valI_run, wrap_u8]
  unfold u8V
  rw [UInt32.toNat_toUInt8]
structure L8 (b2 b3 cb : Nat) (h : List UInt32) (H0 : Heap) (t : Nat) (tm : TM) (H : Heap) : Prop where
  t2 : gt2 tm = .ptr b2 0
  t3 : gt3 tm = .ptr b3 0
  t4 : gt4 tm = .ptr cb 0
  t51 : gt51 tm = nI .i64 t
  keep : Keep H0 H [b3]
  row : ∃ r, Own H b3 42 ((digs h t ++ List.replicate (32 - t) 0).map u8V) r
theorem l8_step {b2 b3 cb many : Nat} {H0 : Heap} {h : List UInt32} {left : AV} {rc : Row} (s : StIs H0 cb h left many rc) (hne : cb ≠ b3) (c : Ctx) (x : X) (t : Nat) (tm : TM) (H : Heap) (ht : t < 32) (hi : L8 b2 b3 cb h H0 t tm H) :
    ∃ tm' H', c46_l2 c tm H x = .ok .normal tm' H' x ∧ L8 b2 b3 cb h H0 (t + 1) tm' H' := by
  obtain ⟨r, own⟩ := hi.row
  have i2 := hi.t2; have i3 := hi.t3; have i4 := hi.t4; have i51 := hi.t51
  simp only [gtr2, gtr3, gtr4, gtr51] at i2 i3 i4 i51
  have d1 : decide (t < 32) = true := decide_eq_true ht
  have hl := digs_length h t
  have ld : load1V (.ptr cb (t / 4)) H = .val (u32V (h.getD (t / 4) 0)) H := by
    have h8 : t / 4 < (h.map u32V).length := by rw [List.length_map, s.len]; omega
    rw [load1V_row (r := rc) (by rw [hi.keep.get cb s.low (by simpa using hne)]; exact s.at_) s.cells (by rw [List.length_append]; omega), List.getD_eq_getElem?_getD, List.getElem?_append_left h8, ← List.getD_eq_getElem?_getD, getD_map32 _ _ (by rw [s.len]; omega)]
  have st : storeV 1 (.ptr b3 t) (u8V (digB h t)) H = .val undefA (H.put b3 (.row (r.setCells (storeN r.cells t [u8V (digB h t)])))) := storeV_row (v := u8V (digB h t)) own.at_ own.cells own.own own.ro own.fz (Nat.le_refl _) rfl (by simp; omega)
  have lb : ∀ H', intV .u8 (u32V ((h.getD (t / 4) 0) >>> UInt32.ofNat (24 - 8 * (t % 4)))) H' = .val (u8V (digB h t)) H' := fun H' => intV_32_u8 _ H'
  simp (disch := omega) only [c46_l2, i3, i4, i51, cmpV_lt, d1, quoV_i, remV_i, mulV_i, subV_i, addV_i, idxAV_ptr, ld, shrV_32k, lb, st, BaseG, N8G, HpG, Nat.zero_add, gtr3, gtr4, gtr7, gtr51, gtr52, gtr53, gtr54, gtr55, gtr56, gtr57, gtr58, gtr59, gtr60, gtr61, gtr62, gtr63, gtr64, gtr65, gtr66, gtr67, gtr68, gtr69, str7, str51, str52, str53, str54, str55, str56, str57, str58, str59, str60, str61, str62, str63, str64, str65, str66, str67, str68, str69]
  refine ⟨_, _, rfl, i2, i3, i4, rfl, hi.keep.then_put fun _ => List.mem_singleton.2 rfl, r.setCells (storeN r.cells t [u8V (digB h t)]), ⟨by rw [put_get, if_pos rfl], own.elem, own.sz, own.own, own.fz, own.sm, ?_, own.ro⟩⟩
  have := own.cells.store1 (o := t) (v := u8V (digB h t)) (by simp; omega)
  have e : ((digs h t ++ List.replicate (32 - t) 0).map u8V).set t (u8V (digB h t)) = (digs h (t + 1) ++ List.replicate (32 - (t + 1)) 0).map u8V := by
    rw [List.map_append, List.set_append_right _ _ (by rw [List.length_map]; omega), List.length_map, hl, Nat.sub_self, show 32 - t = (32 - (t + 1)) + 1 by omega, List.replicate_succ, List.map_cons, List.set_cons_zero, digs_succ, List.append_assoc, List.map_append]
    rfl
  rw [e] at this
  exact this
theorem l8_last {b2 b3 cb : Nat} {H0 : Heap} {h : List UInt32} (c : Ctx) (x : X) (tm : TM) (H : Heap) (hi : L8 b2 b3 cb h H0 32 tm H) :
    ∃ tm' H', c46_l2 c tm H x = .ok (.exit 4) tm' H' x ∧ L8 b2 b3 cb h H0 32 tm' H' := by
  have i2 := hi.t2; have i3 := hi.t3; have i4 := hi.t4; have i51 := hi.t51
  simp only [gtr2, gtr3, gtr4, gtr51] at i2 i3 i4 i51
  have d1 : decide (32 < 32) = false := rfl
  simp (disch := omega) only [c46_l2, i51, cmpV_lt, d1, BaseG, N8G, HpG, Nat.zero_add, gtr3, gtr4, gtr7, gtr51, gtr52, gtr53, gtr54, gtr55, gtr56, gtr57, gtr58, gtr59, gtr60, gtr61, gtr62, gtr63, gtr64, gtr65, gtr66, gtr67, gtr68, gtr69, str7, str51, str52, str53, str54, str55, str56, str57, str58, str59, str60, str61, str62, str63, str64, str65, str66, str67, str68, str69]
  exact ⟨_, _, rfl, i2, i3, i4, i51, hi.keep, hi.row⟩
end
end Go.AI

namespace Go.AI
open Go
noncomputable section
attribute [local irreducible] sched
variable {lib : Nat → List AV → Heap → Option CR} {fs : T CF} {fuel : Nat}
/-- what is put behind -/
def padN (m : Nat) : Nat := (119 - m) % 64
def padF (l : List UInt8) (many : Nat) : List UInt8 := (l ++ [128]) ++ List.replicate (padN l.length) 0 ++ lenBytes many 8
theorem padF_length (l : List UInt8) (many : Nat) : (padF l many).length = l.length + 1 + padN l.length + 8 := by unfold padF lenBytes; simp; omega
theorem ShTail.bv {H : Heap} {v : AV} {l : List UInt8} {lo : Nat} (h : ShTail H v l lo) (hne : l ≠ []) : BV H v l ∧ ∀ b o n c, v = .slice b o n c → lo ≤ b := by
  obtain ⟨b, r, rfl, g, hlo⟩ := h
  exact ⟨.inr ⟨hne, b, 0, none, r, rfl, g.cells.bytes g.at_ g.sz, g.low⟩, fun b o n c e => by cases e; exact hlo⟩
/-- the digest of a state -/
def sumF (K h : List UInt32) (l : List UInt8) (many : Nat) : List UInt8 := digs (blocksF K h (padF l many) ((padF l many).length / 64)) 32
theorem sum_run {n : Nat} (hl : ∀ l H, lib 147 l H = none) (hl2 : ∀ l H, lib 104 l H = none) (hl3 : ∀ l H, lib 103 l H = none) (hl4 : ∀ l H, lib 71 l H = none) (hf : fs.get 147 = some c147) (hf2 : fs.get 104 = some c104) (hf3 : fs.get 103 = some c103) (hf4 : fs.get 71 = some c71) (hF : 64 < fuel) (hl5 : ∀ l H, lib 70 l H = none) (hf5 : fs.get 70 = some c70) (hl6 : ∀ l H, lib 69 l H = none) (hf6 : fs.get 69 = some c69) (hl8 : ∀ l H, lib 46 l H = none) (hf8 : fs.get 46 = some c46)
    {sb many : Nat} {K h : List UInt32} {l : List UInt8} {left : AV} {H : Heap} {rK r : Row} (hll : l.length < 64) (hK : H.t.get 5 = some (.row rK)) (cK : Cells rK (K.map u32V)) (nK : K.length = 64) (h7 : 5 < H.nx) (h7s : 5 ≠ sb) (hro : H.ro ≤ H.nx)
    (s : StIs H sb h left many r) (hv : BV H left l) :
    ∃ H', callN lib fs fuel (n + 6) 46 [.ptr sb 0] H = .ret (.agg ((sumF K h l many).map u8V)) H' ∧ Keep H H' [] := by
  rw [callN_fn (hl8 _ _) hf8]
  generalize ha : H.new (.row ⟨42, 1, 32, .leaf, nI .u8 0, 0, false, true, true⟩) = Ha
  have nxa : Ha.nx = H.nx + 1 := by rw [← ha]; rfl
  have ka : Keep H Ha [] := by rw [← ha]; exact Keep.new H _ []
  have ga : Ha.t.get H.nx = some (.row ⟨42, 1, 32, .leaf, nI .u8 0, 0, false, true, true⟩) := by rw [← ha, new_get, if_pos rfl]
  generalize hb : Ha.new (.row ⟨42, 1, 32, .leaf, nI .u8 0, 0, false, true, true⟩) = Hb
  have nxb : Hb.nx = H.nx + 2 := by rw [← hb, new_nx, nxa]
  have kb : Keep H Hb [] := by rw [← hb]; exact ka.then_new _
  have gb : Hb.t.get (H.nx + 1) = some (.row ⟨42, 1, 32, .leaf, nI .u8 0, 0, false, true, true⟩) := by rw [← hb, new_get, nxa, if_pos rfl]
  have gb2 : Hb.t.get H.nx = some (.row ⟨42, 1, 32, .leaf, nI .u8 0, 0, false, true, true⟩) := by rw [← hb, new_get, nxa, if_neg (by omega), ga]
  have sB : StIs Hb sb h left many r := ⟨⟨by rw [kb.get sb s.low (by simp)]; exact s.at_, s.elem, s.sz, s.own, s.fz, s.sm, s.cells, by rw [kb.ro]; exact s.ro⟩, s.len, by have := s.low; omega⟩
  have en := none_run (fuel := fuel) (n := n + 4) hl6 hf6 sB
  have ld : loadV 8 (.ptr sb 0) Hb = .val (.agg (h.map u32V)) Hb := by
    rw [loadV_row sB.at_ sB.cells (by rw [List.length_append, List.length_map, s.len]; omega), List.drop_zero, List.take_left' (by rw [List.length_map]; exact s.len)]
  have bld : ∀ H', buildV [(nI .u32 0), (nI .u32 0), (nI .u32 0), (nI .u32 0), (nI .u32 0), (nI .u32 0), (nI .u32 0), (nI .u32 0), .nils, (nI .u64 0), (.bool false)] [(0, 8, .agg (h.map u32V)), (10, 1, .bool true)] H' = .val (.agg (h.map u32V ++ [.nils, nI .u64 0, .bool true])) H' := fun H' => by
    obtain ⟨a0, a1, a2, a3, a4, a5, a6, a7, rfl⟩ := list8 s.len
    rfl
  have box : boxV 134 (.agg (h.map u32V ++ [.nils, nI .u64 0, .bool true])) Hb = .val (.ptr (H.nx + 2) 0) (Hb.newRow 134 1 (h.map u32V ++ [.nils, nI .u64 0, .bool true]) true) := by
    rw [← nxb]
    obtain ⟨a0, a1, a2, a3, a4, a5, a6, a7, rfl⟩ := list8 s.len
    rfl
  obtain ⟨rc, sc⟩ := new_state (H := Hb) (left := .nils) (many := 0) s.len (by rw [kb.ro]; omega)
  generalize hc : Hb.newRow 134 1 (h.map u32V ++ [.nils, nI .u64 0, .bool true]) true = Hc at box sc
  rw [nxb] at sc
  have nxc : Hc.nx = H.nx + 3 := by rw [← hc, newRow_eq, new_nx, nxb]
  have kbc : Keep Hb Hc [] := by rw [← hc]; exact Keep.new Hb _ []
  have kc : Keep H Hc [] := kb.trans' kbc
  have sC : StIs Hc sb h left many r := ⟨⟨by rw [kc.get sb s.low (by simp)]; exact s.at_, s.elem, s.sz, s.own, s.fz, s.sm, s.cells, by rw [kc.ro]; exact s.ro⟩, s.len, by have := s.low; omega⟩
  have ld8 : load1V (.ptr sb 8) Hc = .val left Hc := sC.load rfl (by omega : 0 < 3)
  obtain ⟨v1, H1, v', H', e1, e2, tl, k'⟩ := tail_first (hv.keep kc (S := []) (by simp)) (by omega) (by rw [kc.ro]; omega) 128
  have bs : bsliceV 5 1 1 [nI .u8 0] [(0, 1, nI .u8 128)] H1 = .val (.slice H1.nx 0 1 none) (H1.newRow 5 1 [u8V 128] true) := bsliceV_one 5 (nI .u8 0) (nI .u8 128) rfl H1
  simp only [c46, argsT_1, ha, hb, nxa, en, ld, oBuild_run, List.map_cons, List.map_nil, bld, oBox_run, box, ld8, oAppend_run, e1, oBSlice_run, bs, e2, loopD_run, BaseG, N8G, HpG, Nat.zero_add, gtr0, gtr2, gtr3, gtr4, gtr5, gtr8, gtr9, gtr10, gtr11, gtr12, gtr13, gtr14, gtr15, gtr16, gtr17, gtr18, gtr19, gtr20, gtr21, gtr22, gtr23, gtr47, gtr48, gtr49, gtr70, str2, str3, str4, str5, str6, str8, str9, str10, str11, str12, str13, str14, str15, str16, str17, str18, str19, str20, str21, str22, str23, str47, str48, str49, str50, str51, str70, str0, gtr0]
  generalize hL : loopN (c46_l0 _) fuel _ _ _ = L
  have hN1 : ∀ t, t < padN l.length → ((l ++ [128] : List UInt8).length + t) % 64 ≠ 56 := fun t ht => by
    rw [List.length_append]; unfold padN at ht; simp only [List.length_cons, List.length_nil]; omega
  have hN2 : ((l ++ [128] : List UInt8).length + padN l.length) % 64 = 56 := by
    rw [List.length_append]; unfold padN; simp only [List.length_cons, List.length_nil]; omega
  have hNl : padN l.length < 64 := by unfold padN; omega
  have hl1 : (l ++ [128] : List UInt8).length = l.length + 1 := by simp
  -- the tail's row is behind all others
  obtain ⟨tb, tr, tv, tg, tlo⟩ := tl
  obtain ⟨tm2, H2, rfl, j⟩ := sh_after_loop (P := fun T => L6 sb H.nx (H.nx + 1) (H.nx + 2) (l ++ [128]) Hc 0 T H') (Q := L6 sb H.nx (H.nx + 1) (H.nx + 2) (l ++ [128]) Hc (padN l.length))
    (fun T hi => loopN_exit (L6 sb H.nx (H.nx + 1) (H.nx + 2) (l ++ [128]) Hc) (L6 sb H.nx (H.nx + 1) (H.nx + 2) (l ++ [128]) Hc (padN l.length)) (padN l.length)
      (fun t tm H ht hi => l6_step hN1 (by rw [hl1]; omega) _ _ t tm H ht hi) (fun tm H hi => l6_last hN2 _ _ tm H hi) (padN l.length) 0 fuel T H' (Nat.zero_add _) (by omega) hi) hL
    ⟨rfl, rfl, rfl, rfl, by rw [List.replicate_zero, List.append_nil]; exact ⟨tb, tr, tv, tg, tlo⟩, k'⟩
  have j0 := j.t0; have j2 := j.t2; have j3 := j.t3; have j4 := j.t4; have j5 := j.t5
  simp only [gtr0, gtr2, gtr3, gtr4, gtr5] at j0 j2 j3 j4 j5
  simp only [leaveB_same, thenR_normal, seqD_run, seqO_run, oMv_run, goOn_val, k_run, normD_run, blockD_run, loopD_run, str6]
  generalize hL2 : loopN (c46_l1 _) fuel _ _ _ = L2
  have hl2' : ((l ++ [128] : List UInt8) ++ List.replicate (padN l.length) 0).length = l.length + 1 + padN l.length := by simp; omega
  obtain ⟨tm3, H3, rfl, q⟩ := sh_after_loop (P := fun T => L7 sb H.nx (H.nx + 1) (H.nx + 2) many ((l ++ [128]) ++ List.replicate (padN l.length) 0) Hc 0 T H2) (Q := L7 sb H.nx (H.nx + 1) (H.nx + 2) many ((l ++ [128]) ++ List.replicate (padN l.length) 0) Hc 8)
    (fun T hi => loopN_exit (L7 sb H.nx (H.nx + 1) (H.nx + 2) many ((l ++ [128]) ++ List.replicate (padN l.length) 0) Hc) (L7 sb H.nx (H.nx + 1) (H.nx + 2) many ((l ++ [128]) ++ List.replicate (padN l.length) 0) Hc 8) 8
      (fun t tm H ht hi => l7_step sC (by rw [hl2']; omega) _ _ t tm H ht hi) (fun tm H hi => l7_last _ _ tm H hi) 8 0 fuel T H2 (Nat.zero_add _) (by omega) hi) hL2
    ⟨j0, j2, j3, j4, by rw [show lenBytes many 0 = [] from rfl, List.append_nil]; exact j5, rfl, j.keep⟩
  have q0 := q.t0; have q2 := q.t2; have q3 := q.t3; have q4 := q.t4; have q5 := q.t5
  simp only [gtr0, gtr2, gtr3, gtr4, gtr5] at q0 q2 q3 q4 q5
  have hpl := padF_length l many
  have hpne : padF l many ≠ [] := fun e => by rw [e] at hpl; simp at hpl
  obtain ⟨bv, bfar⟩ := ShTail.bv (l := padF l many) q5 hpne
  have scH : Own H3 (H.nx + 2) 134 (h.map u32V ++ [.nils, nI .u64 0, .bool true]) rc := ⟨by rw [q.keep.get (H.nx + 2) (by omega) (by simp)]; exact sc.at_, sc.elem, sc.sz, sc.own, sc.fz, sc.sm, sc.cells, by rw [q.keep.ro]; exact sc.ro⟩
  have nx3 : H.nx + 3 ≤ H3.nx := by have := q.keep.nx; omega
  obtain ⟨v4, H4, e4, _, _, k4, r4, own4⟩ := blocks_run (n := n) (fuel := fuel) hl hl2 hl3 hl4 hf hf2 hf3 hf4 hF hl5 hf5 (l := padF l many) (by omega) (by rw [q.keep.get 5 (by omega) (by simp), kc.get 5 h7 (by simp)]; exact hK) cK nK (by omega) (by omega) s.len (by omega) (by rw [q.keep.ro, kc.ro]; omega) bv
    (fun b o n c e => by have := bfar b o n c e; omega) scH
  simp only [leaveB_same, thenR_normal, seqD_run, seqO_run, oMv_run, goOn_val, k_run, normD_run, blockD_run, loopD_run, oFunc_run, oCallF_run, goOn_call, onCR_ret, evs_cons, evs_nil, str47, str48, str49, str50, str51, gtr5, gtr4, gtr47, gtr48, gtr49, q4, e4, N8G]
  generalize hL3 : loopN (c46_l2 _) fuel _ _ _ = L3x
  have s4 : StIs H4 (H.nx + 2) (blocksF K h (padF l many) ((padF l many).length / 64)) .nils 0 r4 := ⟨own4, blocksF_length K h _ s.len _, by have := k4.nx; omega⟩
  have g4 : ∀ b, b = H.nx ∨ b = H.nx + 1 → H4.t.get b = Hb.t.get b := fun b hb => by
    rw [k4.get b (by omega) (by simp; omega), q.keep.get b (by omega) (by simp), kbc.get b (by omega) (by simp)]
  have ro4 : H4.ro = H.ro := by rw [k4.ro, q.keep.ro, kc.ro]
  obtain ⟨tm5, H5, rfl, z⟩ := sh_after_loop (P := fun T => L8 H.nx (H.nx + 1) (H.nx + 2) (blocksF K h (padF l many) ((padF l many).length / 64)) H4 0 T H4) (Q := L8 H.nx (H.nx + 1) (H.nx + 2) (blocksF K h (padF l many) ((padF l many).length / 64)) H4 32)
    (fun T hi => loopN_exit (L8 H.nx (H.nx + 1) (H.nx + 2) (blocksF K h (padF l many) ((padF l many).length / 64)) H4) (L8 H.nx (H.nx + 1) (H.nx + 2) (blocksF K h (padF l many) ((padF l many).length / 64)) H4 32) 32
      (fun t tm H ht hi => l8_step s4 (by omega) _ _ t tm H ht hi) (fun tm H hi => l8_last _ _ tm H hi) 32 0 fuel T H4 (Nat.zero_add _) (by omega) hi) hL3
    ⟨q2, q3, q4, rfl, Keep.refl _ _, _, ⟨by rw [g4 _ (.inr rfl)]; exact gb, rfl, rfl, rfl, rfl, rfl, Cells.zero 42 32 (nI .u8 0) 0 false true true, by rw [ro4]; omega⟩⟩
  obtain ⟨r5, own5⟩ := z.row
  rw [show 32 - 32 = 0 from rfl, List.replicate_zero, List.append_nil] at own5
  have z2 := z.t2; have z3 := z.t3
  simp only [gtr2, gtr3] at z2 z3
  have nd : ((sumF K h l many).map u8V).length = 32 := by rw [List.length_map]; exact digs_length _ _
  have own5 : Own H5 (H.nx + 1) 42 ((sumF K h l many).map u8V) r5 := own5
  have ldd : loadV 32 (.ptr (H.nx + 1) 0) H5 = .val (.agg ((sumF K h l many).map u8V)) H5 := by
    rw [loadV_row own5.at_ own5.cells (by omega), List.drop_zero, List.take_of_length_le (by omega)]
  have r2 : H5.t.get H.nx = some (.row ⟨42, 1, 32, .leaf, nI .u8 0, 0, false, true, true⟩) := by
    rw [z.keep.get H.nx (by have := k4.nx; omega) (by simp), g4 _ (.inl rfl), gb2]
  have std : storeV 32 (.ptr H.nx 0) (.agg ((sumF K h l many).map u8V)) H5 = .val undefA (H5.put H.nx (.row (Row.setCells ⟨42, 1, 32, .leaf, nI .u8 0, 0, false, true, true⟩ (storeN .leaf 0 ((sumF K h l many).map u8V))))) :=
    storeV_row (v := .agg ((sumF K h l many).map u8V)) r2 (Cells.zero 42 32 (nI .u8 0) 0 false true true) rfl (by rw [z.keep.ro, ro4]; exact hro) rfl (by omega) nd (by simp)
  have cw : Cells (Row.setCells ⟨42, 1, 32, .leaf, nI .u8 0, 0, false, true, true⟩ (storeN .leaf 0 ((sumF K h l many).map u8V))) ((sumF K h l many).map u8V) := (Cells.zero 42 32 (nI .u8 0) 0 false true true).whole (by rw [nd, List.length_replicate])
  simp only [leaveB_same, thenR_normal, thenR_ret, seqD_run, seqO_run, oLoad_run, oStore_run, goOn_val, gtr2, gtr3, gtr70, str70, z2, z3, ldd, std, d0_run, normD_run, retD_run, outF_ret, N8G]
  refine ⟨_, results_agg z2 (by rw [put_get, if_pos rfl]) cw nd, Keep.then_put ?_ fun hlt => absurd hlt (Nat.lt_irrefl _)⟩
  have kH3 : Keep H H3 [] := kc.trans' q.keep
  exact ((kH3.trans k4 (S := []) fun c hc hlt => by simp only [List.mem_singleton] at hc; omega).trans z.keep fun c hc hlt => by simp only [List.mem_singleton] at hc; omega)
end
end Go.AI

namespace Go.AI
open Go
noncomputable section
attribute [local irreducible] sched
variable {lib : Nat → List AV → Heap → Option CR} {fs : T CF} {fuel : Nat}
/-- the digest of bytes -/
def shaF (K B : List UInt32) (l : List UInt8) : List UInt8 := sumF K (blocksF K B l (l.length / 64)) (l.drop (64 * (l.length / 64))) l.length
theorem sh_loopN_succ (a : TM → Heap → X → Res) (n : Nat) (tm : TM) (H : Heap) (x : X) : loopN a (n + 1) tm H x = thenR (a tm H x) (loopN a n) := rfl
theorem all_run {n : Nat} (hl : ∀ l H, lib 147 l H = none) (hl2 : ∀ l H, lib 104 l H = none) (hl3 : ∀ l H, lib 103 l H = none) (hl4 : ∀ l H, lib 71 l H = none) (hf : fs.get 147 = some c147) (hf2 : fs.get 104 = some c104) (hf3 : fs.get 103 = some c103) (hf4 : fs.get 71 = some c71) (hF : 64 < fuel) (hl5 : ∀ l H, lib 70 l H = none) (hf5 : fs.get 70 = some c70) (hl6 : ∀ l H, lib 69 l H = none) (hf6 : fs.get 69 = some c69) (hl8 : ∀ l H, lib 46 l H = none) (hf8 : fs.get 46 = some c46)
    (hl7 : ∀ l H, lib 45 l H = none) (hf7 : fs.get 45 = some c45) (hl9 : ∀ l H, lib 44 l H = none) (hf9 : fs.get 44 = some c44) (hlA : ∀ l H, lib 24 l H = none) (hfA : fs.get 24 = some c24)
    {K B : List UInt32} {l : List UInt8} {v : AV} {H : Heap} {rK rB rp : Row} {pb : Nat} (hlF : l.length / 64 < fuel) (hll : l.length ≤ 140737488355328) (hK : H.t.get 5 = some (.row rK)) (cK : Cells rK (K.map u32V)) (nK : K.length = 64) (h7 : 5 < H.nx) (hB : H.t.get 1 = some (.row rB)) (cB : Cells rB (B.map u32V)) (nB : B.length = 8) (hro : H.ro ≤ H.nx)
    (hv : BV H v l) (far : ∀ b o n c, v = .slice b o n c → b < H.nx) (hp : H.t.get pb = some (.row rp)) (cp : Cells rp [v]) (hpb : pb < H.nx) :
    ∃ H', callN lib fs fuel (n + 7) 24 [.slice pb 0 1 none] H = .ret (.agg ((shaF K B l).map u8V)) H' ∧ Keep H H' [] := by
  rw [callN_fn (hlA _ _) hfA]
  generalize ha : H.new (.row ⟨42, 1, 32, .leaf, nI .u8 0, 0, false, true, true⟩) = Ha
  have nxa : Ha.nx = H.nx + 1 := by rw [← ha]; rfl
  have ka : Keep H Ha [] := by rw [← ha]; exact Keep.new H _ []
  have ga : Ha.t.get H.nx = some (.row ⟨42, 1, 32, .leaf, nI .u8 0, 0, false, true, true⟩) := by rw [← ha, new_get, if_pos rfl]
  have en := new_run (fuel := fuel) (lib := lib) (n := n + 5) hl9 hf9 (H := Ha) (by rw [ka.get 1 (by omega) (by simp)]; exact hB) cB nB
  obtain ⟨rs, ss⟩ := new_state (H := Ha) (left := .nils) (many := 0) nB (by rw [ka.ro]; omega)
  generalize hb : Ha.newRow 134 1 (B.map u32V ++ [.nils, nI .u64 0, .bool true]) true = Hb at en ss
  have nxb : Hb.nx = H.nx + 2 := by rw [← hb, newRow_eq, new_nx, nxa]
  have kab : Keep Ha Hb [] := by rw [← hb]; exact Keep.new Ha _ []
  have kb : Keep H Hb [] := ka.trans' kab
  rw [nxa] at en ss
  have ldp : load1V (.ptr pb 0) Hb = .val v Hb := load1V_row (l := [v]) (by rw [kb.get pb hpb (by simp)]; exact hp) cp (by simp)
  obtain ⟨left, Hc, rc, ew, bl, fl, kc, sc⟩ := write_run (n := n) (fuel := fuel) hl hl2 hl3 hl4 hf hf2 hf3 hf4 hF hl5 hf5 hl6 hf6 hl7 hf7 hlF hll (many := 0) (by omega) (by rw [kb.get 5 h7 (by simp)]; exact hK) cK nK (by omega) (by omega) (by rw [kb.ro]; omega)
    (hv.keep kb (S := []) (by simp)) (fun b o n c e => by have := far b o n c e; omega) ss
  rw [Nat.zero_add] at sc
  obtain ⟨Hd, es, kd⟩ := sum_run (n := n) (fuel := fuel) hl hl2 hl3 hl4 hf hf2 hf3 hf4 hF hl5 hf5 hl6 hf6 hl8 hf8 (by rw [List.length_drop]; omega) (K := K) (by rw [kc.get 5 (by omega) (by simp; omega), kb.get 5 h7 (by simp)]; exact hK) cK nK (by have := kc.nx; omega) (by omega) (by rw [kc.ro, kb.ro]; have := kc.nx; omega) sc bl
  obtain ⟨F, rfl⟩ : ∃ F, fuel = F + 2 := ⟨fuel - 2, by omega⟩
  have d1 : decide (0 < 1) = true := rfl
  have d2 : decide (1 < 1) = false := rfl
  have es : callN lib fs (F + 2) (n + 6) 46 [.ptr (H.nx + 1) 0] Hc = .ret (.agg ((shaF K B l).map u8V)) Hd := es
  have nd : ((shaF K B l).map u8V).length = 32 := by rw [List.length_map]; exact digs_length _ _
  have kcd : Keep Hb Hd [H.nx + 1] := kc.trans kd fun c hc _ => by simp at hc
  have r2 : Hd.t.get H.nx = some (.row ⟨42, 1, 32, .leaf, nI .u8 0, 0, false, true, true⟩) := by
    rw [kcd.get H.nx (by omega) (by simp), kab.get H.nx (by omega) (by simp), ga]
  have std : storeV 32 (.ptr H.nx 0) (.agg ((shaF K B l).map u8V)) Hd = .val undefA (Hd.put H.nx (.row (Row.setCells ⟨42, 1, 32, .leaf, nI .u8 0, 0, false, true, true⟩ (storeN .leaf 0 ((shaF K B l).map u8V))))) :=
    storeV_row (v := .agg ((shaF K B l).map u8V)) r2 (Cells.zero 42 32 (nI .u8 0) 0 false true true) rfl (by rw [kcd.ro, kb.ro]; exact hro) rfl (by omega) nd (by simp)
  have cw : Cells (Row.setCells ⟨42, 1, 32, .leaf, nI .u8 0, 0, false, true, true⟩ (storeN .leaf 0 ((shaF K B l).map u8V))) ((shaF K B l).map u8V) := (Cells.zero 42 32 (nI .u8 0) 0 false true true).whole (by rw [nd, List.length_replicate])
  simp (disch := omega) only [c24, c24_l0, argsT_1, ha, en, loopD_run, sh_loopN_succ, lenV_slice, cmpV_lt, d1, d2, idxSV_slice, Nat.zero_add, Nat.add_zero, ldp, ew, es, std, addV_i, BaseG, N8G, HpG, Nat.zero_add, gtr0, gtr2, gtr3, gtr5, gtr6, gtr7, gtr8, gtr9, gtr10, gtr11, gtr12, gtr13, gtr14, gtr16, gtr17, gtr18, str2, str3, str5, str6, str7, str8, str9, str10, str11, str12, str13, str14, str15, str16, str17, str18, str0, gtr0]
  simp only [outF_ret]
  refine ⟨_, results_agg rfl (by rw [put_get, if_pos rfl]) cw nd, Keep.then_put ?_ (fun hlt => absurd hlt (Nat.lt_irrefl _))⟩
  exact kb.trans kcd (fun c hc hlt => by simp only [List.mem_singleton] at hc; omega)
end
end Go.AI

namespace Go.AI
open Go
noncomputable section
attribute [local irreducible] sched
variable {lib : Nat → List AV → Heap → Option CR} {fs : T CF} {fuel : Nat}
theorem one_run {n : Nat} (hl : ∀ l H, lib 147 l H = none) (hl2 : ∀ l H, lib 104 l H = none) (hl3 : ∀ l H, lib 103 l H = none) (hl4 : ∀ l H, lib 71 l H = none) (hf : fs.get 147 = some c147) (hf2 : fs.get 104 = some c104) (hf3 : fs.get 103 = some c103) (hf4 : fs.get 71 = some c71) (hF : 64 < fuel) (hl5 : ∀ l H, lib 70 l H = none) (hf5 : fs.get 70 = some c70) (hl6 : ∀ l H, lib 69 l H = none) (hf6 : fs.get 69 = some c69) (hl8 : ∀ l H, lib 46 l H = none) (hf8 : fs.get 46 = some c46)
    (hl7 : ∀ l H, lib 45 l H = none) (hf7 : fs.get 45 = some c45) (hl9 : ∀ l H, lib 44 l H = none) (hf9 : fs.get 44 = some c44) (hlA : ∀ l H, lib 24 l H = none) (hfA : fs.get 24 = some c24) (hlB : ∀ l H, lib 10 l H = none) (hfB : fs.get 10 = some c10)
    {K B : List UInt32} {l : List UInt8} {v : AV} {H : Heap} {rK rB : Row} (hlF : l.length / 64 < fuel) (hll : l.length ≤ 140737488355328) (hK : H.t.get 5 = some (.row rK)) (cK : Cells rK (K.map u32V)) (nK : K.length = 64) (h7 : 5 < H.nx) (hB : H.t.get 1 = some (.row rB)) (cB : Cells rB (B.map u32V)) (nB : B.length = 8) (hro : H.ro ≤ H.nx)
    (hv : BV H v l) (far : ∀ b o n c, v = .slice b o n c → b < H.nx) :
    ∃ H', callN lib fs fuel (n + 8) 10 [v] H = .ret (.agg ((shaF K B l).map u8V)) H' ∧ Keep H H' [] := by
  rw [callN_fn (hlB _ _) hfB]
  generalize ha : H.new (.row ⟨42, 1, 32, .leaf, nI .u8 0, 0, false, true, true⟩) = Ha
  have nxa : Ha.nx = H.nx + 1 := by rw [← ha]; rfl
  have ka : Keep H Ha [] := by rw [← ha]; exact Keep.new H _ []
  have ga : Ha.t.get H.nx = some (.row ⟨42, 1, 32, .leaf, nI .u8 0, 0, false, true, true⟩) := by rw [← ha, new_get, if_pos rfl]
  have vc : v.cells = [v] := by
    rcases hv with ⟨_, rfl | ⟨b, o, c, rfl⟩⟩ | ⟨_, b, o, c, r, rfl, _⟩ <;> rfl
  have bs : bsliceV 29 1 1 [.nils] [(0, 1, v)] Ha = .val (.slice (H.nx + 1) 0 1 none) (Ha.newRow 29 1 [v] true) := by
    rw [← nxa]; exact bsliceV_one 29 .nils v vc Ha
  generalize hb : Ha.newRow 29 1 [v] true = Hb at bs
  have nxb : Hb.nx = H.nx + 2 := by rw [← hb, newRow_eq, new_nx, nxa]
  have kab : Keep Ha Hb [] := by rw [← hb]; exact Keep.new Ha _ []
  have kb : Keep H Hb [] := ka.trans' kab
  have gb : Hb.t.get (H.nx + 1) = some (.row ⟨29, 1, 1, T.ofList [v], .unk, 0, false, true, true⟩) := by rw [← hb, newRow_eq, new_get, nxa, if_pos rfl]; rfl
  obtain ⟨Hd, es, kd⟩ := all_run (n := n) (fuel := fuel) hl hl2 hl3 hl4 hf hf2 hf3 hf4 hF hl5 hf5 hl6 hf6 hl8 hf8 hl7 hf7 hl9 hf9 hlA hfA (H := Hb) (v := v) (l := l) hlF hll (by rw [kb.get 5 h7 (by simp)]; exact hK) cK nK (by omega) (by rw [kb.get 1 (by omega) (by simp)]; exact hB) cB nB (by rw [kb.ro]; omega) (hv.keep kb (S := []) (by simp)) (fun b o n c e => by have := far b o n c e; omega) gb (Cells.new 29 1 [v] 0 false true true) (by omega)
  have nd : ((shaF K B l).map u8V).length = 32 := by rw [List.length_map]; exact digs_length _ _
  have kad : Keep Ha Hd [] := kab.trans' kd
  have r2 : Hd.t.get H.nx = some (.row ⟨42, 1, 32, .leaf, nI .u8 0, 0, false, true, true⟩) := by
    rw [kad.get H.nx (by omega) (by simp), ga]
  have std : storeV 32 (.ptr H.nx 0) (.agg ((shaF K B l).map u8V)) Hd = .val undefA (Hd.put H.nx (.row (Row.setCells ⟨42, 1, 32, .leaf, nI .u8 0, 0, false, true, true⟩ (storeN .leaf 0 ((shaF K B l).map u8V))))) :=
    storeV_row (v := .agg ((shaF K B l).map u8V)) r2 (Cells.zero 42 32 (nI .u8 0) 0 false true true) rfl (by rw [kad.ro, ka.ro]; exact hro) rfl (by omega) nd (by simp)
  have cw : Cells (Row.setCells ⟨42, 1, 32, .leaf, nI .u8 0, 0, false, true, true⟩ (storeN .leaf 0 ((shaF K B l).map u8V))) ((shaF K B l).map u8V) := (Cells.zero 42 32 (nI .u8 0) 0 false true true).whole (by rw [nd, List.length_replicate])
  simp (disch := omega) only [c10, argsT_1, ha, oBSlice_run, List.map_cons, List.map_nil, bs, es, std, BaseG, N8G, HpG, Nat.zero_add, gtr0, gtr2, gtr3, gtr4, gtr5, str2, str3, str4, str5, str0, gtr0]
  simp only [outF_ret]
  exact ⟨_, results_agg rfl (by rw [put_get, if_pos rfl]) cw nd, Keep.then_put (ka.trans' kad) (fun hlt => absurd hlt (Nat.lt_irrefl _))⟩
end
end Go.AI

namespace Go.AI
open Go
noncomputable section
attribute [local irreducible] sched
theorem u8V_inj {x y : UInt8} (h : u8V x = u8V y) : x = y := by
  unfold u8V at h
  injection h with _ h
  injection h with h
  exact UInt8.toNat_inj.1 h
theorem Bytes.uniq {H : Heap} {b o : Nat} {c : Option Nat} {l l' : List UInt8} {r r' : Row} (h : Bytes H b o c l r) (h' : Bytes H b o c l' r') (e : l.length = l'.length) : l = l' := by
  have hr : r = r' := by
    have := h.at_.symm.trans h'.at_
    injection this with this
    injection this
  subst hr
  refine List.ext_getElem e fun i h1 h2 => ?_
  have a := h.get i h1
  have b := h'.get i h2
  rw [a] at b
  have := u8V_inj b
  rwa [List.getD_eq_getElem?_getD, List.getD_eq_getElem?_getD, List.getElem?_eq_getElem h1, List.getElem?_eq_getElem h2] at this
theorem BV.uniq {H : Heap} {v : AV} {l l' : List UInt8} (h : BV H v l) (h' : BV H v l') : l = l' := by
  have e : l.length = l'.length := by
    have a := h.len H
    rw [h'.len H] at a
    injection a with a _
    injection a with _ a
    injection a with a
    exact a.symm
  rcases h with ⟨rfl, _⟩ | ⟨hne, b, o, c, r, rfl, hb, _⟩
  · exact (List.length_eq_zero_iff.1 e.symm).symm
  · rcases h' with ⟨rfl, _⟩ | ⟨hne', b', o', c', r', e', hb', _⟩
    · exact List.length_eq_zero_iff.1 e
    · injection e' with e1 e2 e3 e4
      subst e1; subst e2; subst e4
      exact hb.uniq hb' e
/-- when the digest is known -/
structure ShaAt (top : Nat) (K B : List UInt32) (H : Heap) (v : AV) (l : List UInt8) : Prop where
  bv : BV H v l
  short : l.length ≤ 64 * top
  keys : ∃ r, H.t.get 5 = some (.row r) ∧ Cells r (K.map u32V)
  beg : ∃ r, H.t.get 1 = some (.row r) ∧ Cells r (B.map u32V)
  nx : 5 < H.nx
  ro : H.ro ≤ H.nx
theorem BV.far {H : Heap} {v : AV} {l : List UInt8} (h : BV H v l) (hne : l ≠ []) : ∀ b o n c, v = .slice b o n c → b < H.nx := by
  rcases h with ⟨rfl, _⟩ | ⟨_, b, o, c, r, rfl, _, hlt⟩
  · exact absurd rfl hne
  · intro b o n c e; cases e; exact hlt
/-- the digest of bytes, where they are known -/
def shaLib (f0 top : Nat) (K B : List UInt32) (base : Nat → List AV → Heap → Option CR) (f : Nat) (args : List AV) (H : Heap) : Option CR :=
  cond (Nat.beq f f0) (open Classical in if h : ∃ v l, args = [v] ∧ ShaAt top K B H v l ∧ (∀ b o n c, v = .slice b o n c → b < H.nx) then some (.ret (.agg ((shaF K B h.choose_spec.choose).map u8V)) H) else none) (base f args H)
theorem shaLib_is {f0 top : Nat} {K B : List UInt32} {base : Nat → List AV → Heap → Option CR} {H : Heap} {v : AV} {l : List UInt8} (h : ShaAt top K B H v l) (far : ∀ b o n c, v = .slice b o n c → b < H.nx) :
    shaLib f0 top K B base f0 [v] H = some (.ret (.agg ((shaF K B l).map u8V)) H) := by
  have hx : ∃ v' l', [v] = [v'] ∧ ShaAt top K B H v' l' ∧ (∀ b o n c, v' = .slice b o n c → b < H.nx) := ⟨v, l, rfl, h, far⟩
  unfold shaLib
  rw [show Nat.beq f0 f0 = true from Nat.beq_refl f0, cond_true, dif_pos hx]
  obtain ⟨e1, e2, _⟩ := hx.choose_spec.choose_spec
  generalize hx.choose_spec.choose = l2 at e2
  generalize hx.choose = v2 at e1 e2
  injection e1 with e1 _
  subst e1
  rw [e2.bv.uniq h.bv]
theorem lowL_u8 (n : Nat) : ∀ l : List UInt8, lowL n (l.map u8V) = true
  | [] => rfl
  | x :: l => by
    show cond (lowV n (u8V x)) (lowL n (l.map u8V)) false = true
    rw [lowL_u8 n l]; rfl
variable {lib : Nat → List AV → Heap → Option CR} {fs : T CF} {fuel : Nat} {P : Program}
theorem shaLib_ok {n : Nat} (hl : ∀ l H, lib 147 l H = none) (hl2 : ∀ l H, lib 104 l H = none) (hl3 : ∀ l H, lib 103 l H = none) (hl4 : ∀ l H, lib 71 l H = none) (hf : fs.get 147 = some c147) (hf2 : fs.get 104 = some c104) (hf3 : fs.get 103 = some c103) (hf4 : fs.get 71 = some c71) (hF : 64 < fuel) (hl5 : ∀ l H, lib 70 l H = none) (hf5 : fs.get 70 = some c70) (hl6 : ∀ l H, lib 69 l H = none) (hf6 : fs.get 69 = some c69) (hl8 : ∀ l H, lib 46 l H = none) (hf8 : fs.get 46 = some c46)
    (hl7 : ∀ l H, lib 45 l H = none) (hf7 : fs.get 45 = some c45) (hl9 : ∀ l H, lib 44 l H = none) (hf9 : fs.get 44 = some c44) (hlA : ∀ l H, lib 24 l H = none) (hfA : fs.get 24 = some c24) (hlB : ∀ l H, lib 10 l H = none) (hfB : fs.get 10 = some c10) (hcall : CallOk P (callN lib fs fuel (n + 8))) {K B : List UInt32} (nK : K.length = 64) (nB : B.length = 8) {top : Nat} (htop : top < fuel) (htop2 : 64 * top ≤ 140737488355328)
    {base : Nat → List AV → Heap → Option CR} (hb : LibOk P base) : LibOk P (shaLib 10 top K B base) := by
  intro f args H r hr σ w vs hs hv
  unfold shaLib at hr
  cases e : Nat.beq f 10 with
  | false => rw [e] at hr; exact hb f args H r hr σ w vs hs hv
  | true =>
    have := Nat.eq_of_beq_eq_true e
    subst this
    rw [e, cond_true] at hr
    split at hr
    · rename_i hx
      obtain ⟨e1, h1, far⟩ := hx.choose_spec.choose_spec
      generalize hx.choose_spec.choose = l at hr h1
      generalize hx.choose = v at e1 h1 far
      subst e1
      cases hr
      obtain ⟨rK, gK, cK⟩ := h1.keys
      obtain ⟨rB, gB, cB⟩ := h1.beg
      have hs1 := h1.short
      obtain ⟨H', e2, k⟩ := one_run (n := n) (fuel := fuel) hl hl2 hl3 hl4 hf hf2 hf3 hf4 hF hl5 hf5 hl6 hf6 hl8 hf8 hl7 hf7 hl9 hf9 hlA hfA hlB hfB (by omega) (by omega) gK cK nK h1.nx gB cB nB h1.ro h1.bv far
      exact keep_ok hcall e2 k (lowL_u8 0 _) hs hv
    · cases hr
end
end Go.AI

/- Arguments that are bytes. -/
namespace Go.AI
open Go Go.Deep
noncomputable section
variable {P : Program} {H : Type} {enc : TypeId × Value → H}
/-- what is told of an argument that is bytes -/
structure BArg (W : World) (id : Nat) (v : Value) (a : AV) (ws : List (Nat × Win)) (l : List UInt8) : Prop where
  ids : ∀ b x, (b, x) ∈ ws → b = id
  few : ws.length ≤ 1
  win : ∀ σ b x, (b, x) ∈ ws → WinOk W σ x
  rel : ∀ σ : Mp, (∀ b x, (b, x) ∈ ws → σ b = some x.loc) → Rel σ a v
  bv : ∀ G : Heap, (∀ b x, (b, x) ∈ ws → G.t.get b = some (.row x.row) ∧ b < G.nx) → BV G a l
  far : ∀ b o n c, a = .slice b o n c → b = id
  sl : ∀ G : Heap, (∀ b x, (b, x) ∈ ws → G.t.get b = some (.row x.row) ∧ b < G.nx) → (a = .nils ∧ l = []) ∨ ∃ b o c r, a = .slice b o l.length (some c) ∧ G.t.get b = some (.row r) ∧ l.length ≤ c ∧ b < G.nx
/-- a slice of bytes of the world -/
theorem bytes_arg {W : World} {r : Reach} {base : Nat} {t e : TypeId} {v : Value} {d : DataW H} {p : List MemPlace} (id : Nat) (ht : P.underlying t = some (.slice e)) (he : P.underlying e = some (.int .u8)) (hc : P.cellsOf e = 1)
    (hok : Value.okWide P W r base t v) (h : DataW.Trod enc P W 0 (fun _ => true) true t v d p) : ∃ a ws l, BArg W id v a ws l := by
  obtain ⟨fuel, h⟩ := h
  have hk : Cell.ok P W r base t v := by
    unfold Value.okWide Cell.okWide at hok
    rw [ht] at hok
    simpa using hok
  rcases open_slice1 ht hc h with ⟨e1, _⟩ | ⟨a, len, cap, m, n, V, D, Pl, e1, _, hl, _, hm, _, hV⟩
  · have : v = .slice none 0 0 := by
      unfold Cell.ok at hk
      rw [ht] at hk
      cases v <;> simp_all [Value.cells]
    subst this
    exact ⟨.nils, [], [], ⟨(fun _ _ h => by cases h), Nat.zero_le _, (fun _ _ _ h => by cases h), (fun _ _ => by simp [Rel]), (fun _ _ => .inl ⟨rfl, .inl rfl⟩), (fun _ _ _ _ h => by cases h), (fun _ _ => .inl ⟨rfl, rfl⟩)⟩⟩
  · have hm : m = cap := by rw [hm]; exact if_pos rfl
    have : v = .slice (some a) len cap := by
      unfold Cell.ok at hk
      rw [ht] at hk
      cases v <;> simp_all [Value.cells]
    subst this
    unfold Cell.ok at hk
    rw [ht] at hk
    obtain ⟨_, _, _, hsp, row, cells, hsh, _⟩ := hk
    obtain ⟨ab, ao, asp⟩ := a
    simp only at hsp
    subst hsp
    obtain ⟨cs, el, fr, hcs⟩ : ∃ cs el fr, W.heap[ab]? = some (.cells cs el fr) := by
      unfold World.shape? at hsh
      split at hsh
      · rename_i c e2 f e1; exact ⟨c, e2, f, e1⟩
      · cases hsh
    have hcell : ∀ i, i < cap → ∃ u : UInt8, cs[ao + i]? = some (.int .u8 (.ofNat u.toNat)) := by
      intro i hi
      obtain ⟨h1, h2⟩ := hV i (by omega)
      obtain ⟨n, h3, _, h4⟩ := DataW.trod_int he h2
      have h5 : W.cell? (Addr.add ⟨ab, ao, none⟩ i) = cs[ao + i]? := by
        have h6 : Addr.add ⟨ab, ao, none⟩ i = ⟨ab, ao + i, none⟩ := by
          unfold Addr.add
          split
          · rename_i h0; subst h0; rfl
          · rfl
        rw [h6]
        unfold World.cell?
        rw [hcs]
        rfl
      rw [h5] at h1
      simp only [List.cons.injEq, and_true] at h3
      rw [h1, h3]
      have h6 : 0 ≤ n ∧ n ≤ 255 := by
        simp only [Lit.wf, Bool.and_eq_true, decide_eq_true_eq] at h4
        exact h4
      refine ⟨n.toNat.toUInt8, ?_⟩
      have : n.toNat.toUInt8.toNat = n.toNat := by
        show n.toNat % 256 = _
        omega
      rw [this]
      congr 2
      exact (Int.toNat_of_nonneg h6.1).symm
    obtain ⟨f, hf⟩ := Classical.axiomOfChoice (r := fun (i : Nat) (u : UInt8) => i < cap → cs[ao + i]? = some (.int .u8 (.ofNat u.toNat))) (fun i => by
      by_cases hi : i < cap
      · obtain ⟨u, hu⟩ := hcell i hi; exact ⟨u, fun _ => hu⟩
      · exact ⟨0, fun h => absurd h hi⟩)
    have hnum : ∀ i, i < cap → ((List.range cap).map fun i => u8V (f i))[i]? = some (u8V (f i)) := fun i hi => by
      rw [List.getElem?_map, List.getElem?_range hi]; rfl
    by_cases h0 : cap = 0
    · have hl0 : len = 0 := by omega
      subst hl0
      refine ⟨.slice id ao 0 (some cap), [(id, ⟨⟨ab, 0, 0, 1⟩, el, []⟩)], [], ⟨fun b x h => ?_, Nat.le_refl _, fun σ b x h => ?_, fun σ hσ => ?_, (fun _ _ => .inl ⟨rfl, .inr ⟨_, _, _, rfl⟩⟩), (fun _ _ _ _ h => by cases h; rfl), (fun G hG => by
        obtain ⟨g1, g2⟩ := hG _ _ (List.mem_cons_self ..)
        exact .inr ⟨id, ao, cap, _, rfl, g1, Nat.zero_le _, g2⟩)⟩⟩
      · simp at h; exact h.1
      · simp at h; obtain ⟨_, rfl⟩ := h
        exact ⟨rfl, Nat.le_refl _, cs, fr, hcs, Nat.zero_le _, fun i x hx => by simp at hx⟩
      · simp only [Rel]
        exact ⟨_, hσ _ _ (List.mem_cons_self ..), by simp⟩
    · have hsz : ao + cap ≤ cs.size := by
        have := hf (cap - 1) (by omega)
        have := (Array.getElem?_eq_some_iff.1 this).1
        omega
      refine ⟨.slice id 0 len (some cap), [(id, ⟨⟨ab, ao, cap, 1⟩, el, (List.range cap).map fun i => u8V (f i)⟩)], (List.range len).map f, ⟨fun b x h => ?_, Nat.le_refl _, fun σ b x h => ?_, fun σ hσ => ?_, fun G hG => ?_, (fun _ _ _ _ h => by cases h; rfl), (fun G hG => by
        obtain ⟨g1, g2⟩ := hG _ _ (List.mem_cons_self ..)
        exact .inr ⟨id, 0, cap, _, by rw [List.length_map, List.length_range], g1, by rw [List.length_map, List.length_range]; exact hl, g2⟩)⟩⟩
      · simp at h; exact h.1
      · simp at h; obtain ⟨_, rfl⟩ := h
        refine ⟨rfl, by simp, cs, fr, hcs, hsz, fun i x hx => ?_⟩
        have hi : i < cap := by
          have := (List.getElem?_eq_some_iff.1 hx).1
          simpa using this
        rw [hnum i hi] at hx; cases hx
        exact ⟨_, hf i hi, by simp [Rel, u8V], rfl⟩
      · simp only [Rel]
        exact ⟨_, hσ _ _ (List.mem_cons_self ..), rfl⟩
      · obtain ⟨g1, g2⟩ := hG _ _ (List.mem_cons_self ..)
        by_cases hn : len = 0
        · subst hn; exact .inl ⟨rfl, .inr ⟨_, _, _, rfl⟩⟩
        · refine .inr ⟨by intro e; have := congrArg List.length e; simp at this; exact hn this, id, 0, some cap, _, by simp, ⟨g1, rfl, ?_, fun i hi => ?_, fun c e => ?_⟩, g2⟩
          · show 0 + _ ≤ lenL _
            rw [lenL_eq]; simp; omega
          · rw [List.length_map, List.length_range] at hi
            rw [Nat.zero_add, Win.get_row (hnum i (by omega))]
            rw [List.getD_eq_getElem?_getD, List.getElem?_map, List.getElem?_range hi]
            rfl
          · cases e
            refine ⟨by simp; omega, ?_⟩
            show 0 + cap ≤ lenL _
            rw [lenL_eq]; simp
end
end Go.AI
