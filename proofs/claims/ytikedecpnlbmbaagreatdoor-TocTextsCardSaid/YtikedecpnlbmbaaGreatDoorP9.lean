/- The walk of the law's code on any bytes: proved for any arguments that are told. -/
import Derived.Test.YtikedecpnlbmbaaGreatDoorP6
import Derived.Test.YtikedecpnlbmbaaGreatDoorProg
import Derived.Test.YtikedecpnlbmbaaGreatDoorP7
set_option maxRecDepth 1000000
set_option linter.unusedVariables false
set_option linter.unusedSimpArgs false
namespace Go.AI
open Go.Proofs N8
noncomputable section
def c14 : CF := ⟨[(gt2, none)], (seqD (seqO (oMv (k (.bool false))) st2 <| normD) (seqD (seqO (oMv gt0) st3 <| seqO (oCmp gt3 (k (nI .u8 32)) igeF strGe) st4 <| seqO (oMv gt4) st5 <| seqG gt5 true (oMv gt0) st6 <| seqG gt5 true (oCmp gt6 (k (nI .u8 126)) ileF strLe) st7 <| seqO (oPick gt5 gt7 (k (.bool false))) st8 <| seqO (oMv gt8) st9 <| seqG gt9 true (oMv gt0) st10 <| seqG gt9 true (oEq gt10 (k (nI .u8 37)) eqI true) st11 <| seqO (oPick gt9 gt11 (k (.bool false))) st12 <| seqO (oMv gt12) st2 <| normD) retD))⟩
def c27 : CF := ⟨[], (seqD (seqO (oMv gt0) st2 <| seqO (oNil gt2) st3 <| seqO (oOff gt3 0) st4 <| seqO (oLoad1 gt4) st5 <| seqO (oEq gt5 (k .nilp) eqP false) st6 <| normD) (condD gt6 (seqO (oMv gt0) st7 <| seqO (oMv gt0) st8 <| seqO (oPtrU gt8) st9 <| seqO (oCallF 49 [gt9]) st10 <| seqO (oPtrP gt10 56 2) st11 <| seqO (oNil gt7) st12 <| seqO (oOff gt12 0) st13 <| seqO (oStore gt13 gt11 1) d0 <| normD) (seqD (seqO (oMv gt0) st14 <| seqO (oNil gt14) st15 <| seqO (oOff gt15 0) st16 <| seqO (oLoad1 gt16) st17 <| seqO (oMv gt0) st18 <| seqO (oEq gt17 gt18 eqP true) st19 <| normD) (condD gt19 badD normD))))⟩
def c15 : CF := ⟨[(gt4, none)], (seqD (seqO (oMv (k .nili)) st4 <| normD) (seqD (seqO (oMv gt0) st5 <| seqO (oCallF 27 [gt5]) st6 <| normD) (seqD (seqO (oMv gt0) st7 <| seqO (oMv gt0) st8 <| seqO (oNil gt8) st9 <| seqO (oOff gt9 1) st10 <| seqO (oLoad1 gt10) st11 <| seqO (oMv gt1) st12 <| seqO (oBSlice 5 1 1 [(nI .u8 0)] [⟨0, 1, gt12⟩]) st13 <| seqO (oAppend gt11 gt13 5 1 1) st14 <| seqO (oNil gt7) st15 <| seqO (oOff gt15 1) st16 <| seqO (oStore gt16 gt14 1) d0 <| normD) (seqD (seqO (oMv (k .nili)) st4 <| normD) retD))))⟩
def c16_r0 : D := drawnD [⟨oMv gt0, none, [(st0, gt0)], st3, .free, 0, 0⟩, ⟨oNil gt3, none, [(st3, gt3)], st4, .free, 1, 1⟩, ⟨oOff gt4 1, none, [(st4, gt4)], st5, .free, 2, 3⟩, ⟨oLoad1 gt5, none, [(st5, gt5)], st6, .read, 3, 7⟩, ⟨oUSData gt6, none, [(st6, gt6)], st7, .read, 4, 15⟩, ⟨oMv gt0, none, [(st0, gt0)], st8, .free, 5, 0⟩, ⟨oNil gt8, none, [(st8, gt8)], st9, .free, 6, 32⟩, ⟨oOff gt9 1, none, [(st9, gt9)], st10, .free, 7, 96⟩, ⟨oLoad1 gt10, none, [(st10, gt10)], st11, .read, 8, 224⟩, ⟨oLenL gt11, none, [(st11, gt11)], st12, .free, 9, 480⟩, ⟨oUStr gt7 gt12 5, none, [(st7, gt7), (st12, gt12)], st13, .eff, 10, 1023⟩, ⟨oMv gt13, none, [(st13, gt13)], st2, .eff, 11, 2047⟩]
def c16 : CF := ⟨[(gt2, none)], (seqD (seqO (oMv (k (.str []))) st2 <| normD) (seqD c16_r0 retD))⟩
def c5_l0 : D := (seqD (seqO (oCmp gt8 gt7 iltF strLt) st9 <| normD) (seqD (condD gt9 normD (exitD 0)) (seqD (blockD 1 (seqD (seqO (oMv gt8) st10 <| seqO (oMv gt10) st4 <| normD) (seqD (seqO (oMv gt0) st11 <| seqO (oMv gt4) st12 <| seqO (oIdxStr gt11 gt12) st13 <| seqO (oMv gt13) st5 <| normD) (seqD (seqD (seqO (oMv gt5) st14 <| seqO (oCallF 14 [gt14]) st15 <| normD) (condD gt15 (seqD (seqO (oMv gt5) st16 <| seqO (oCallF 15 [gt3, gt16]) st17 <| normD) (exitD 1)) normD)) (seqD (seqO (oCallF 15 [gt3, (k (nI .u8 37))]) st18 <| normD) (seqD (seqO (oMv gt5) st19 <| seqO (oShr gt19 (k (nI .u64 4))) st20 <| seqO (oIdxStr (k (.str [48, 49, 50, 51, 52, 53, 54, 55, 56, 57, 65, 66, 67, 68, 69, 70])) gt20) st21 <| seqO (oCallF 15 [gt3, gt21]) st22 <| normD) (seqO (oMv gt5) st23 <| seqO (oBits gt23 (k (nI .u8 15)) landF) st24 <| seqO (oIdxStr (k (.str [48, 49, 50, 51, 52, 53, 54, 55, 56, 57, 65, 66, 67, 68, 69, 70])) gt24) st25 <| seqO (oCallF 15 [gt3, gt25]) st26 <| normD))))))) (seqO (oAddS gt8 (k (nI .i64 1))) st27 <| seqO (oMv gt27) st8 <| normD))))
def c5 : CF := ⟨[(gt2, none)], (seqD (seqO (oMv (k (.str []))) st2 <| normD) (seqD (seqO (oAlloc 56 [.nilp, .nils]) st3 <| normD) (seqD (seqD (seqO (oMv gt0) st6 <| seqO (oLenS gt6) st7 <| seqO (oMv (k (nI .i64 0))) st8 <| normD) (blockD 0 (loopD c5_l0))) (seqD (seqO (oCallF 16 [gt3]) st28 <| seqO (oMv gt28) st2 <| normD) retD))))⟩
def c28 : CF := ⟨[(gt4, none)], (seqD (seqO (oMv (k (nI .i64 0))) st4 <| normD) (seqD (seqO (oMv gt0) st5 <| seqO (oMv gt1) st6 <| seqO (oCallF 50 [gt5, gt6]) st7 <| seqO (oMv gt7) st4 <| normD) retD))⟩
def c17 : CF := ⟨[(gt4, none)], (seqD (seqO (oMv (k (nI .i64 0))) st4 <| normD) (seqD (seqO (oMv gt0) st5 <| seqO (oMv gt1) st6 <| seqO (oCallF 28 [gt5, gt6]) st7 <| seqO (oMv gt7) st4 <| normD) retD))⟩
def c6_r0 : D := drawnD [⟨oMv gt0, none, [(st0, gt0)], st25, .free, 0, 0⟩, ⟨oMv gt5, none, [(st5, gt5)], st26, .free, 1, 0⟩, ⟨oAddS gt26 (k (nI .i64 1)), none, [(st26, gt26)], st27, .free, 2, 2⟩, ⟨oIdxStr gt25 gt27, none, [(st25, gt25), (st27, gt27)], st28, .free, 3, 7⟩, ⟨oMv gt0, none, [(st0, gt0)], st30, .free, 5, 0⟩, ⟨oMv gt5, none, [(st5, gt5)], st31, .free, 6, 0⟩, ⟨oAddS gt31 (k (nI .i64 2)), none, [(st31, gt31)], st32, .free, 7, 64⟩, ⟨oIdxStr gt30 gt32, none, [(st30, gt30), (st32, gt32)], st33, .free, 8, 224⟩, ⟨oCallF 17 [(k (.str [48, 49, 50, 51, 52, 53, 54, 55, 56, 57, 65, 66, 67, 68, 69, 70])), gt28], none, [(st28, gt28)], st29, .eff, 4, 15⟩, ⟨oCallF 17 [(k (.str [48, 49, 50, 51, 52, 53, 54, 55, 56, 57, 65, 66, 67, 68, 69, 70])), gt33], none, [(st33, gt33)], st34, .eff, 9, 511⟩, ⟨oMv gt29, none, [(st29, gt29)], st7, .eff, 10, 1023⟩, ⟨oMv gt34, none, [(st34, gt34)], st8, .eff, 11, 2047⟩]
def c6_l0 : D := (seqD (seqD (seqO (oMv gt5) st9 <| seqO (oMv gt0) st10 <| seqO (oLenS gt10) st11 <| seqO (oCmp gt9 gt11 iltF strLt) st12 <| normD) (condD gt12 normD (exitD 0))) (seqD (blockD 1 (seqD (seqO (oMv gt0) st15 <| seqO (oMv gt5) st16 <| seqO (oIdxStr gt15 gt16) st17 <| seqO (oMv gt17) st6 <| normD) (seqD (seqD (seqO (oMv gt6) st18 <| seqO (oEq gt18 (k (nI .u8 37)) eqI false) st19 <| normD) (condD gt19 (seqD (seqD (seqO (oMv gt5) st20 <| seqO (oAddS gt20 (k (nI .i64 2))) st21 <| seqO (oMv gt0) st22 <| seqO (oLenS gt22) st23 <| seqO (oCmp gt21 gt23 igeF strGe) st24 <| normD) (condD gt24 (seqD (seqO (oMv (k (.str []))) st2 <| seqO (oMv (k (.bool false))) st3 <| normD) retD) normD)) (seqD c6_r0 (seqD (seqD (seqO (oMv gt7) st35 <| seqO (oCmp gt35 (k (nI .i64 0)) iltF strLt) st36 <| seqO (oMv gt36) st37 <| seqG gt37 false (oMv gt8) st38 <| seqG gt37 false (oCmp gt38 (k (nI .i64 0)) iltF strLt) st39 <| seqO (oPick gt37 (k (.bool true)) gt39) st40 <| normD) (condD gt40 (seqD (seqO (oMv (k (.str []))) st2 <| seqO (oMv (k (.bool false))) st3 <| normD) retD) normD)) (seqD (seqO (oMv gt7) st41 <| seqO (oShl gt41 (k (nI .u64 4))) st42 <| seqO (oMv gt8) st43 <| seqO (oBits gt42 gt43 lorF) st44 <| seqO (oInt gt44 .u8) st45 <| seqO (oMv gt45) st6 <| normD) (seqD (seqO (oMv gt5) st46 <| seqO (oAddS gt46 (k (nI .i64 2))) st47 <| seqO (oMv gt47) st5 <| normD) (seqD (seqO (oMv gt6) st48 <| seqO (oCallF 14 [gt48]) st49 <| normD) (condD gt49 (seqD (seqO (oMv (k (.str []))) st2 <| seqO (oMv (k (.bool false))) st3 <| normD) retD) normD))))))) (seqD (seqO (oMv gt6) st50 <| seqO (oCallF 14 [gt50]) st51 <| seqO (oNot gt51) st52 <| normD) (condD gt52 (seqD (seqO (oMv (k (.str []))) st2 <| seqO (oMv (k (.bool false))) st3 <| normD) retD) normD)))) (seqO (oMv gt6) st53 <| seqO (oCallF 15 [gt4, gt53]) st54 <| normD)))) (seqO (oMv gt5) st13 <| seqO (oAddS gt13 (k (nI .i64 1))) st14 <| seqO (oMv gt14) st5 <| normD)))
def c6 : CF := ⟨[(gt2, none), (gt3, none)], (seqD (seqO (oMv (k (.str []))) st2 <| seqO (oMv (k (.bool false))) st3 <| normD) (seqD (seqO (oAlloc 56 [.nilp, .nils]) st4 <| normD) (seqD (seqD (seqO (oMv (k (nI .i64 0))) st5 <| normD) (blockD 0 (loopD c6_l0))) (seqD (seqO (oCallF 16 [gt4]) st55 <| seqO (oMv gt55) st2 <| seqO (oMv (k (.bool true))) st3 <| normD) retD))))⟩
def c8 : CF := ⟨[(gt2, none)], (seqD (seqO (oMv (k (.bool false))) st2 <| normD) (seqD (seqO (oMv gt0) st3 <| seqO (oCmp gt3 (k (nI .i32 32)) iltF strLt) st4 <| seqO (oMv gt4) st5 <| seqG gt5 false (oMv gt0) st6 <| seqG gt5 false (oCmp gt6 (k (nI .i32 126)) igtF strGt) st7 <| seqO (oPick gt5 (k (.bool true)) gt7) st8 <| seqO (oMv gt8) st2 <| normD) retD))⟩
def c29_l0 : D := (seqD (seqO (oNext gt10) st11 <| seqO (oExtr gt11 0) st12 <| normD) (seqD (condD gt12 normD (exitD 0)) (blockD 1 (seqD (seqO (oExtr gt11 1) st13 <| seqO (oExtr gt11 2) st14 <| seqO (oMv gt13) st7 <| seqO (oMv gt14) st8 <| normD) (seqD (seqO (oMv gt1) st15 <| seqO (oMv gt8) st16 <| seqO (oCall gt15 Tryz.prog [gt16]) st17 <| seqO (oMv gt2) st18 <| seqO (oEq gt17 gt18 eqB false) st19 <| normD) (condD gt19 (seqD (seqO (oMv gt7) st20 <| seqO (oMv gt20) st6 <| normD) retD) normD))))))
def c29 : CF := ⟨[(gt6, none)], (seqD (seqO (oMv (k (nI .i64 0))) st6 <| normD) (seqD (seqD (seqO (oMv gt0) st9 <| seqO (oRangeS gt9) st10 <| normD) (blockD 0 (loopD c29_l0))) (seqD (seqO (oMv (k (.int .i64 (.negSucc 0)))) st6 <| normD) retD)))⟩
def c18 : CF := ⟨[(gt4, none)], (seqD (seqO (oMv (k (nI .i64 0))) st4 <| normD) (seqD (seqO (oMv gt0) st5 <| seqO (oMv gt1) st6 <| seqO (oCallF 29 [gt5, gt6, (k (.bool true))]) st7 <| seqO (oMv gt7) st4 <| normD) retD))⟩
def c7 : CF := ⟨[(gt4, none)], (seqD (seqO (oMv (k (.bool false))) st4 <| normD) (seqD (seqO (oMv gt0) st5 <| seqO (oMv gt1) st6 <| seqO (oCallF 18 [gt5, gt6]) st7 <| seqO (oCmp gt7 (k (nI .i64 0)) igeF strGe) st8 <| seqO (oMv gt8) st4 <| normD) retD))⟩
def c3_r0 : D := drawnD [⟨oMv gt0, none, [(st0, gt0)], st16, .free, 0, 0⟩, ⟨oMv gt0, none, [(st0, gt0)], st17, .free, 1, 0⟩, ⟨oLenS gt17, none, [(st17, gt17)], st18, .free, 2, 2⟩, ⟨oMinMax false [gt18, (k (nI .i64 300))], none, [(st18, gt18)], st19, .free, 3, 6⟩, ⟨oSlStr gt16 none (some gt19) none, none, [(st16, gt16), (st19, gt19)], st20, .free, 4, 15⟩, ⟨oMv gt1, none, [(st1, gt1)], st21, .free, 5, 0⟩, ⟨oMv gt1, none, [(st1, gt1)], st22, .free, 6, 0⟩, ⟨oLenS gt22, none, [(st22, gt22)], st23, .free, 7, 64⟩, ⟨oMinMax false [gt23, (k (nI .i64 300))], none, [(st23, gt23)], st24, .free, 8, 192⟩, ⟨oSlStr gt21 none (some gt24) none, none, [(st21, gt21), (st24, gt24)], st25, .free, 9, 480⟩, ⟨oMv gt20, none, [(st20, gt20)], st0, .eff, 10, 31⟩, ⟨oMv gt25, none, [(st25, gt25)], st1, .eff, 11, 2047⟩]
def c3 : CF := ⟨[(gt4, none)], (seqD (seqO (oMv (k (.bool false))) st4 <| normD) (seqD c3_r0 (seqD (seqO (oMv gt0) st26 <| seqO (oCallF 5 [gt26]) st27 <| seqO (oMv gt27) st5 <| normD) (seqD (seqO (oMv gt5) st29 <| seqO (oCallF 6 [gt29]) st30 <| seqO (oMv gt30) st28 <| seqO (oExtr gt28 0) st31 <| seqO (oExtr gt28 1) st32 <| seqO (oMv gt31) st6 <| seqO (oMv gt32) st7 <| normD) (seqD (seqD (seqO (oMv gt7) st33 <| seqO (oNot gt33) st34 <| seqO (oMv gt34) st35 <| seqG gt35 false (oMv gt6) st36 <| seqG gt35 false (oMv gt0) st37 <| seqG gt35 false (oEq gt36 gt37 eqS true) st38 <| seqO (oPick gt35 (k (.bool true)) gt38) st39 <| seqO (oMv gt39) st40 <| seqG gt40 false (oMv gt0) st41 <| seqG gt40 false (oMv gt1) st42 <| seqG gt40 false (oAddS gt41 gt42) st43 <| seqG gt40 false (oCallF 5 [gt43]) st44 <| seqG gt40 false (oMv gt5) st45 <| seqG gt40 false (oMv gt1) st46 <| seqG gt40 false (oCallF 5 [gt46]) st47 <| seqG gt40 false (oAddS gt45 gt47) st48 <| seqG gt40 false (oEq gt44 gt48 eqS true) st49 <| seqO (oPick gt40 (k (.bool true)) gt49) st50 <| seqO (oMv gt50) st51 <| seqG gt51 false (oMv gt5) st52 <| seqG gt51 false (oCallF 7 [gt52, (k (.func 8 [] []))]) st53 <| seqO (oPick gt51 (k (.bool true)) gt53) st54 <| seqO (oMv gt54) st55 <| seqG gt55 false (oMv gt5) st56 <| seqG gt55 false (oLenS gt56) st57 <| seqG gt55 false (oMv gt0) st58 <| seqG gt55 false (oLenS gt58) st59 <| seqG gt55 false (oCmp gt57 gt59 iltF strLt) st60 <| seqO (oPick gt55 (k (.bool true)) gt60) st61 <| seqO (oMv gt61) st62 <| seqG gt62 false (oMv gt5) st63 <| seqG gt62 false (oLenS gt63) st64 <| seqG gt62 false (oMv gt0) st65 <| seqG gt62 false (oLenS gt65) st66 <| seqG gt62 false (oMul (k (nI .i64 3)) gt66) st67 <| seqG gt62 false (oCmp gt64 gt67 igtF strGt) st68 <| seqO (oPick gt62 (k (.bool true)) gt68) st69 <| normD) (condD gt69 (seqD (seqO (oMv (k (.bool false))) st4 <| normD) retD) normD)) (seqD (seqO (oMv gt0) st71 <| seqO (oCallF 6 [gt71]) st72 <| seqO (oMv gt72) st70 <| seqO (oExtr gt70 0) st73 <| seqO (oExtr gt70 1) st74 <| seqO (oMv gt73) st8 <| seqO (oMv gt74) st9 <| normD) (seqD (seqO (oMv gt5) st76 <| seqO (oAddS gt76 (k (.str [37]))) st77 <| seqO (oCallF 6 [gt77]) st78 <| seqO (oMv gt78) st75 <| seqO (oExtr gt75 0) st79 <| seqO (oExtr gt75 1) st80 <| seqO (oMv gt79) st10 <| seqO (oMv gt80) st11 <| normD) (seqD (seqO (oMv gt5) st82 <| seqO (oAddS gt82 (k (.str [37, 48, 97]))) st83 <| seqO (oCallF 6 [gt83]) st84 <| seqO (oMv gt84) st81 <| seqO (oExtr gt81 0) st85 <| seqO (oExtr gt81 1) st86 <| seqO (oMv gt85) st12 <| seqO (oMv gt86) st13 <| normD) (seqD (seqO (oMv gt5) st88 <| seqO (oAddS gt88 (k (.str [37, 52, 49]))) st89 <| seqO (oCallF 6 [gt89]) st90 <| seqO (oMv gt90) st87 <| seqO (oExtr gt87 0) st91 <| seqO (oExtr gt87 1) st92 <| seqO (oMv gt91) st14 <| seqO (oMv gt92) st15 <| normD) (seqD (seqO (oMv gt9) st93 <| seqO (oMv gt93) st94 <| seqG gt94 true (oMv gt8) st95 <| seqG gt94 true (oCallF 5 [gt95]) st96 <| seqG gt94 true (oMv gt0) st97 <| seqG gt94 true (oEq gt96 gt97 eqS false) st98 <| seqO (oPick gt94 gt98 (k (.bool false))) st99 <| seqO (oMv gt99) st100 <| seqG gt100 false (oMv gt9) st101 <| seqG gt100 false (oNot gt101) st102 <| seqG gt100 false (oMv gt102) st103 <| seqG gt103 true (oMv gt8) st104 <| seqG gt103 true (oEq gt104 (k (.str [])) eqS false) st105 <| seqG gt100 false (oPick gt103 gt105 (k (.bool false))) st106 <| seqO (oPick gt100 (k (.bool true)) gt106) st107 <| seqO (oMv gt107) st108 <| seqG gt108 true (oMv gt11) st109 <| seqG gt108 true (oNot gt109) st110 <| seqO (oPick gt108 gt110 (k (.bool false))) st111 <| seqO (oMv gt111) st112 <| seqG gt112 true (oMv gt13) st113 <| seqG gt112 true (oNot gt113) st114 <| seqO (oPick gt112 gt114 (k (.bool false))) st115 <| seqO (oMv gt115) st116 <| seqG gt116 true (oMv gt15) st117 <| seqG gt116 true (oNot gt117) st118 <| seqO (oPick gt116 gt118 (k (.bool false))) st119 <| seqO (oMv gt119) st120 <| seqG gt120 true (oCallF 9 []) st121 <| seqO (oPick gt120 gt121 (k (.bool false))) st122 <| seqO (oMv gt122) st4 <| normD) retD))))))))))⟩
end
end Go.AI

namespace Go.AI
open Go
noncomputable section
variable {lib : Nat → List AV → Heap → Option CR} {fs : T CF} {fuel : Nat}

def plainB (x : UInt8) : Bool := decide (32 ≤ x.toNat) && (decide (x.toNat ≤ 126) && !decide (x.toNat = 37))
theorem u8_nI (x : UInt8) : u8V x = nI .u8 x.toNat := rfl
theorem plain_run {n : Nat} (hl : ∀ l H, lib 14 l H = none) (hf : fs.get 14 = some c14) (x : UInt8) (H : Heap) : callN lib fs fuel (n + 1) 14 [u8V x] H = .ret (.bool (plainB x)) H := by
  rw [callN_fn (hl _ _) hf, u8_nI]
  unfold plainB
  cases h1 : decide (32 ≤ x.toNat) <;> cases h2 : decide (x.toNat ≤ 126) <;> cases h3 : decide (x.toNat = 37)
  all_goals
    have h4 : decide (x.toNat ≠ 37) = !decide (x.toNat = 37) := by simp
    rw [h3] at h4
    simp only [c14, argsT_1, cmpV_ge, cmpV_le, eqV_ne, h1, h2, h4, Bool.not_true, Bool.not_false, seqO_run, goOn_val, goOn_call, onCR_ret, seqD_run, thenR_normal, thenR_ret, thenR_exit, normD_run, retD_run, exitD_run, condD_run, isBn_bool, condK_true, condK_false, blockD_run, leaveB_normal, leaveB_same, leaveB_ret, d0_run, k_run, evs_nil, evs_cons, oMv_run, oNeg_run, oInt_run, oAddS_run, oSub_run, oMul_run, oQuo_run, oRem_run, oBits_run, oShl_run, oShr_run, oXorU_run, oCmp_run, oEq_run, oNot_run, oPick_run, oCallF_run, N8.g00, N8.g01, N8.g02, N8.g03, N8.g04, N8.g05, N8.g06, N8.g07, N8.g10, N8.g11, N8.g12, N8.g13, N8.g14, N8.g15, N8.g16, N8.g17, N8.g20, N8.g21, N8.g22, N8.g23, N8.g24, N8.g25, N8.g26, N8.g27, N8.g30, N8.g31, N8.g32, N8.g33, N8.g34, N8.g35, N8.g36, N8.g37, N8.g40, N8.g41, N8.g42, N8.g43, N8.g44, N8.g45, N8.g46, N8.g47, N8.g50, N8.g51, N8.g52, N8.g53, N8.g54, N8.g55, N8.g56, N8.g57, N8.g60, N8.g61, N8.g62, N8.g63, N8.g64, N8.g65, N8.g66, N8.g67, N8.g70, N8.g71, N8.g72, N8.g73, N8.g74, N8.g75, N8.g76, N8.g77, oLoad1_run, oLoad_run, oStore_run, oOff_run, oIdxA_run, oIdxS_run, oNil_run, oLenL_run, oAllocZ_run, offV_ptr, nilV_ptr, lenV_slice, put_get, new_get, put_nx, put_ro, new_nx, new_ro, Nat.zero_add, stepK_freeG, stepK_readG, stepK_effG, guardK_tt, guardK_ft, guardK_ff, guardK_tf, seqG_run, lowV_agg, lowV_undef, isSame_nI, oSlice_run, oMinMax_run, oBSlice_run, oAppend_run, Option.map_none, Option.map_some, oLenS_run, oIdxStr_run, oSlStr_run, oExtr_run, pickV_t, pickV_f, notV_b, gtr0, gtr2, gtr3, gtr4, gtr5, gtr6, gtr7, gtr8, gtr9, gtr10, gtr11, gtr12, str2, str3, str4, str5, str6, str7, str8, str9, str10, str11, str12, str0, gtr0]
    rfl
/-- a builder -/
structure Bld (H : Heap) (sb : Nat) (l : List UInt8) : Prop where
  low : sb < H.nx
  ok : ∃ r a buf, Own H sb 56 [a, buf] r ∧ r.exact = true ∧ Buf H buf l (sb + 1) ∧ ((l = [] ∧ a = .nilp) ∨ (l ≠ [] ∧ a = .ptr sb 0))
theorem Own.stored {H : Heap} {b e : Nat} {l : List AV} {r : Row} (w : Own H b e l r) {o : Nat} {v : AV} (ho : o < l.length) : Own (H.put b (.row (r.setCells (storeN r.cells o [v])))) b e (l.set o v) (r.setCells (storeN r.cells o [v])) :=
  ⟨by rw [put_get, if_pos rfl], w.elem, w.sz, w.own, w.fz, w.sm, w.cells.store1 ho, w.ro⟩
theorem Own.store1 {H : Heap} {b e : Nat} {l : List AV} {r : Row} (w : Own H b e l r) {o : Nat} (v : AV) (hv : v.cells = [v]) (ho : o < l.length) : storeV 1 (.ptr b o) v H = .val undefA (H.put b (.row (r.setCells (storeN r.cells o [v])))) := by
  have := storeV_row (v := v) (n := 1) (o := o) w.at_ w.cells w.own w.ro w.fz (Nat.le_refl _) (by rw [hv]; rfl) (by omega)
  rw [hv] at this
  exact this
theorem Own.moved {H H' : Heap} {b e : Nat} {l : List AV} {r : Row} (w : Own H b e l r) (h : H'.t.get b = H.t.get b) (hro : H'.ro = H.ro) : Own H' b e l r :=
  ⟨h.trans w.at_, w.elem, w.sz, w.own, w.fz, w.sm, w.cells, by rw [hro]; exact w.ro⟩
/-- the check that a builder is no copy -/
theorem copy_check {n : Nat} (hl : ∀ l H, lib 27 l H = none) (hf : fs.get 27 = some c27) (hN : ∀ x H, lib 49 [x] H = some (.ret x H)) {H : Heap} {sb : Nat} {a buf : AV} {r : Row} (w : Own H sb 56 [a, buf] r) (hx : r.exact = true) (ha : a = .nilp ∨ a = .ptr sb 0) :
    ∃ H' r', callN lib fs fuel (n + 2) 27 [.ptr sb 0] H = .ret (.tup []) H' ∧ Own H' sb 56 [.ptr sb 0, buf] r' ∧ r'.exact = true ∧ Below sb H H' ∧ H'.nx = H.nx ∧ ∀ c, sb < c → H'.t.get c = H.t.get c := by
  rw [callN_fn (hl _ _) hf]
  have ld : load1V (.ptr sb 0) H = .val a H := load1V_row (o := 0) w.at_ w.cells (by simp)
  rcases ha with rfl | rfl
  · have hs : r.size = 2 := by rw [w.cells.size]; rfl
    have p1 : ptrUV (.ptr sb 0) H = .val (.ptr sb 0) H := by
      show onRow H sb _ = _
      unfold onRow
      rw [w.at_]
      show onIf (Nat.ble 1 r.size) _ = _
      rw [hs]; rfl
    have p2 : ptrPV 56 2 (.ptr sb 0) H = .val (.ptr sb 0) H := by
      show onRow H sb _ = _
      unfold onRow
      rw [w.at_]
      show onIf r.exact (onIf (Nat.beq r.elem 56) (onIf (Nat.beq 0 0) (onIf (Nat.ble 2 r.size) _))) = _
      rw [hx, w.elem, hs]; rfl
    have en : callN lib fs fuel (n + 1) 49 [.ptr sb 0] H = .ret (.ptr sb 0) H := callN_hit (hN _ _)
    have st := w.store1 (o := 0) (.ptr sb 0) rfl (by simp)
    simp (disch := omega) only [c27, argsT_1, ld, eqP_nilnil, oPtrU_run, p1, en, oPtrP_run, p2, st, Nat.add_zero, seqO_run, goOn_val, goOn_call, onCR_ret, seqD_run, thenR_normal, thenR_ret, thenR_exit, normD_run, retD_run, exitD_run, condD_run, isBn_bool, condK_true, condK_false, blockD_run, leaveB_normal, leaveB_same, leaveB_ret, d0_run, k_run, evs_nil, evs_cons, oMv_run, oNeg_run, oInt_run, oAddS_run, oSub_run, oMul_run, oQuo_run, oRem_run, oBits_run, oShl_run, oShr_run, oXorU_run, oCmp_run, oEq_run, oNot_run, oPick_run, oCallF_run, N8.g00, N8.g01, N8.g02, N8.g03, N8.g04, N8.g05, N8.g06, N8.g07, N8.g10, N8.g11, N8.g12, N8.g13, N8.g14, N8.g15, N8.g16, N8.g17, N8.g20, N8.g21, N8.g22, N8.g23, N8.g24, N8.g25, N8.g26, N8.g27, N8.g30, N8.g31, N8.g32, N8.g33, N8.g34, N8.g35, N8.g36, N8.g37, N8.g40, N8.g41, N8.g42, N8.g43, N8.g44, N8.g45, N8.g46, N8.g47, N8.g50, N8.g51, N8.g52, N8.g53, N8.g54, N8.g55, N8.g56, N8.g57, N8.g60, N8.g61, N8.g62, N8.g63, N8.g64, N8.g65, N8.g66, N8.g67, N8.g70, N8.g71, N8.g72, N8.g73, N8.g74, N8.g75, N8.g76, N8.g77, oLoad1_run, oLoad_run, oStore_run, oOff_run, oIdxA_run, oIdxS_run, oNil_run, oLenL_run, oAllocZ_run, offV_ptr, nilV_ptr, lenV_slice, put_get, new_get, put_nx, put_ro, new_nx, new_ro, Nat.zero_add, stepK_freeG, stepK_readG, stepK_effG, guardK_tt, guardK_ft, guardK_ff, guardK_tf, seqG_run, lowV_agg, lowV_undef, isSame_nI, oSlice_run, oMinMax_run, oBSlice_run, oAppend_run, Option.map_none, Option.map_some, oLenS_run, oIdxStr_run, oSlStr_run, oExtr_run, pickV_t, pickV_f, notV_b, gtr0, gtr2, gtr3, gtr4, gtr5, gtr6, gtr7, gtr8, gtr9, gtr10, gtr11, gtr12, gtr13, gtr14, gtr15, gtr16, gtr17, gtr18, gtr19, str2, str3, str4, str5, str6, str7, str8, str9, str10, str11, str12, str13, str14, str15, str16, str17, str18, str19, str0, gtr0]
    refine ⟨_, _, rfl, w.stored (by simp), hx, Below.put (Nat.le_refl _), rfl, fun c hc => by rw [put_get, if_neg (by omega)]⟩
  · simp (disch := omega) only [c27, argsT_1, ld, eqP_nil, eqP_self, Nat.add_zero, seqO_run, goOn_val, goOn_call, onCR_ret, seqD_run, thenR_normal, thenR_ret, thenR_exit, normD_run, retD_run, exitD_run, condD_run, isBn_bool, condK_true, condK_false, blockD_run, leaveB_normal, leaveB_same, leaveB_ret, d0_run, k_run, evs_nil, evs_cons, oMv_run, oNeg_run, oInt_run, oAddS_run, oSub_run, oMul_run, oQuo_run, oRem_run, oBits_run, oShl_run, oShr_run, oXorU_run, oCmp_run, oEq_run, oNot_run, oPick_run, oCallF_run, N8.g00, N8.g01, N8.g02, N8.g03, N8.g04, N8.g05, N8.g06, N8.g07, N8.g10, N8.g11, N8.g12, N8.g13, N8.g14, N8.g15, N8.g16, N8.g17, N8.g20, N8.g21, N8.g22, N8.g23, N8.g24, N8.g25, N8.g26, N8.g27, N8.g30, N8.g31, N8.g32, N8.g33, N8.g34, N8.g35, N8.g36, N8.g37, N8.g40, N8.g41, N8.g42, N8.g43, N8.g44, N8.g45, N8.g46, N8.g47, N8.g50, N8.g51, N8.g52, N8.g53, N8.g54, N8.g55, N8.g56, N8.g57, N8.g60, N8.g61, N8.g62, N8.g63, N8.g64, N8.g65, N8.g66, N8.g67, N8.g70, N8.g71, N8.g72, N8.g73, N8.g74, N8.g75, N8.g76, N8.g77, oLoad1_run, oLoad_run, oStore_run, oOff_run, oIdxA_run, oIdxS_run, oNil_run, oLenL_run, oAllocZ_run, offV_ptr, nilV_ptr, lenV_slice, put_get, new_get, put_nx, put_ro, new_nx, new_ro, Nat.zero_add, stepK_freeG, stepK_readG, stepK_effG, guardK_tt, guardK_ft, guardK_ff, guardK_tf, seqG_run, lowV_agg, lowV_undef, isSame_nI, oSlice_run, oMinMax_run, oBSlice_run, oAppend_run, Option.map_none, Option.map_some, oLenS_run, oIdxStr_run, oSlStr_run, oExtr_run, pickV_t, pickV_f, notV_b, gtr0, gtr2, gtr3, gtr4, gtr5, gtr6, gtr7, gtr8, gtr9, gtr10, gtr11, gtr12, gtr13, gtr14, gtr15, gtr16, gtr17, gtr18, gtr19, str2, str3, str4, str5, str6, str7, str8, str9, str10, str11, str12, str13, str14, str15, str16, str17, str18, str19, str0, gtr0]
    exact ⟨_, r, rfl, w, hx, Below.refl _ _, rfl, fun _ _ => rfl⟩
/-- a byte more -/
theorem write_byte {n : Nat} (hl : ∀ l H, lib 27 l H = none) (hf : fs.get 27 = some c27) (hl2 : ∀ l H, lib 15 l H = none) (hf2 : fs.get 15 = some c15) (hN : ∀ x H, lib 49 [x] H = some (.ret x H))
    {H : Heap} {sb : Nat} {l : List UInt8} (b : Bld H sb l) (hlen : l.length < 140737488355328) (hro : H.ro ≤ H.nx) (x : UInt8) :
    ∃ H', callN lib fs fuel (n + 3) 15 [.ptr sb 0, u8V x] H = .ret .nili H' ∧ Bld H' sb (l ++ [x]) ∧ Below sb H H' := by
  rw [callN_fn (hl2 _ _) hf2]
  obtain ⟨r, a, buf, w, hx, hb, ha⟩ := b.ok
  obtain ⟨H1, r1, ec, w1, hx1, b1, nx1, g1⟩ := copy_check (fuel := fuel) (n := n) hl hf hN w hx (by rcases ha with ⟨_, h⟩ | ⟨_, h⟩; exact .inl h; exact .inr h)
  have hb1 : Buf H1 buf l (sb + 1) := hb.below (fun c h _ => g1 c (by omega)) b1.ro (by omega)
  have ld : load1V (.ptr sb 1) H1 = .val buf H1 := load1V_row (o := 1) w1.at_ w1.cells (by simp)
  have bs : bsliceV 5 1 1 [nI .u8 0] [(0, 1, u8V x)] H1 = .val (.slice H1.nx 0 1 none) (H1.newRow 5 1 [u8V x] true) := bsliceV_one 5 (nI .u8 0) (u8V x) rfl H1
  obtain ⟨v', H3, ea, hb3, b3⟩ := buf_push hb1 hlen (by rw [b1.ro, nx1]; exact hro) (by have := b.low; omega) x
  have w3 := w1.moved (b3.get sb (by omega) (by have := b.low; omega)) b3.ro
  have hv : v'.cells = [v'] := by
    rcases hb3 with ⟨_, rfl⟩ | ⟨_, _, _, rfl, _⟩ <;> rfl
  have st := w3.store1 (o := 1) v' hv (by simp)
  simp (disch := omega) only [c15, argsT_2, ec, ld, Nat.zero_add, List.map_cons, List.map_nil, bs, ea, st, seqO_run, goOn_val, goOn_call, onCR_ret, seqD_run, thenR_normal, thenR_ret, thenR_exit, normD_run, retD_run, exitD_run, condD_run, isBn_bool, condK_true, condK_false, blockD_run, leaveB_normal, leaveB_same, leaveB_ret, d0_run, k_run, evs_nil, evs_cons, oMv_run, oNeg_run, oInt_run, oAddS_run, oSub_run, oMul_run, oQuo_run, oRem_run, oBits_run, oShl_run, oShr_run, oXorU_run, oCmp_run, oEq_run, oNot_run, oPick_run, oCallF_run, N8.g00, N8.g01, N8.g02, N8.g03, N8.g04, N8.g05, N8.g06, N8.g07, N8.g10, N8.g11, N8.g12, N8.g13, N8.g14, N8.g15, N8.g16, N8.g17, N8.g20, N8.g21, N8.g22, N8.g23, N8.g24, N8.g25, N8.g26, N8.g27, N8.g30, N8.g31, N8.g32, N8.g33, N8.g34, N8.g35, N8.g36, N8.g37, N8.g40, N8.g41, N8.g42, N8.g43, N8.g44, N8.g45, N8.g46, N8.g47, N8.g50, N8.g51, N8.g52, N8.g53, N8.g54, N8.g55, N8.g56, N8.g57, N8.g60, N8.g61, N8.g62, N8.g63, N8.g64, N8.g65, N8.g66, N8.g67, N8.g70, N8.g71, N8.g72, N8.g73, N8.g74, N8.g75, N8.g76, N8.g77, oLoad1_run, oLoad_run, oStore_run, oOff_run, oIdxA_run, oIdxS_run, oNil_run, oLenL_run, oAllocZ_run, offV_ptr, nilV_ptr, lenV_slice, put_get, new_get, put_nx, put_ro, new_nx, new_ro, Nat.zero_add, stepK_freeG, stepK_readG, stepK_effG, guardK_tt, guardK_ft, guardK_ff, guardK_tf, seqG_run, lowV_agg, lowV_undef, isSame_nI, oSlice_run, oMinMax_run, oBSlice_run, oAppend_run, Option.map_none, Option.map_some, oLenS_run, oIdxStr_run, oSlStr_run, oExtr_run, pickV_t, pickV_f, notV_b, gtr0, gtr1, gtr4, gtr5, gtr7, gtr8, gtr9, gtr10, gtr11, gtr12, gtr13, gtr14, gtr15, gtr16, str4, str5, str6, str7, str8, str9, str10, str11, str12, str13, str14, str15, str16, str0, str1, gtr0, gtr1]
  refine ⟨_, rfl, ⟨?_, _, _, v', w3.stored (by simp), hx1, ?_, .inr ⟨by simp, rfl⟩⟩, b1.trans ((b3.mono (Nat.le_succ _)).trans (Below.put (Nat.le_refl _)))⟩
  · have := b.low; have := b3.nx; show sb < H3.nx; omega
  · exact hb3.below (fun c h _ => by rw [put_get, if_neg (by omega)]) rfl (Nat.le_refl _)
/-- the text -/
theorem string_run {n : Nat} (hl : ∀ l H, lib 16 l H = none) (hf : fs.get 16 = some c16) {H : Heap} {sb : Nat} {l : List UInt8} (b : Bld H sb l) (hlen : l.length ≤ 140737488355328) :
    ∃ H', callN lib fs fuel (n + 1) 16 [.ptr sb 0] H = .ret (.str l) H' ∧ Below sb H H' := by
  rw [callN_fn (hl _ _) hf]
  obtain ⟨r, a, buf, w, hx, hb, ha⟩ := b.ok
  obtain ⟨p, u1, ⟨H', u2, u3⟩, u4, u5, u6, u7, u8⟩ := usData_buf hb hlen
  have u1 := u1 ⟨H.nx, H.t, H.nx⟩ rfl
  have u4 := u4 H.nx (Nat.le_refl _)
  have u5 := u5 H.nx H.t
  have u6 := u6 H.nx (Nat.le_refl _)
  have u7 := u7 H.nx H.t
  have ld : load1V (.ptr sb 1) ⟨H.nx, H.t, H.nx⟩ = .val buf ⟨H.nx, H.t, H.nx⟩ := load1V_row (H := ⟨H.nx, H.t, H.nx⟩) (o := 1) w.at_ w.cells (by simp)
  have lp : lowV H.nx (.ptr sb 0) = true := lowV_ptr b.low 0
  have lp1 : lowV H.nx (.ptr sb 1) = true := lowV_ptr b.low 1
  simp (disch := omega) only [c16, c16_r0, argsT_1, lp, lp1, ld, Nat.zero_add, oUSData_run, u1, oUStr_run, u2, u4, u5, u6, u7, u8, seqO_run, goOn_val, goOn_call, onCR_ret, seqD_run, thenR_normal, thenR_ret, thenR_exit, normD_run, retD_run, exitD_run, condD_run, isBn_bool, condK_true, condK_false, blockD_run, leaveB_normal, leaveB_same, leaveB_ret, d0_run, k_run, evs_nil, evs_cons, oMv_run, oNeg_run, oInt_run, oAddS_run, oSub_run, oMul_run, oQuo_run, oRem_run, oBits_run, oShl_run, oShr_run, oXorU_run, oCmp_run, oEq_run, oNot_run, oPick_run, oCallF_run, N8.g00, N8.g01, N8.g02, N8.g03, N8.g04, N8.g05, N8.g06, N8.g07, N8.g10, N8.g11, N8.g12, N8.g13, N8.g14, N8.g15, N8.g16, N8.g17, N8.g20, N8.g21, N8.g22, N8.g23, N8.g24, N8.g25, N8.g26, N8.g27, N8.g30, N8.g31, N8.g32, N8.g33, N8.g34, N8.g35, N8.g36, N8.g37, N8.g40, N8.g41, N8.g42, N8.g43, N8.g44, N8.g45, N8.g46, N8.g47, N8.g50, N8.g51, N8.g52, N8.g53, N8.g54, N8.g55, N8.g56, N8.g57, N8.g60, N8.g61, N8.g62, N8.g63, N8.g64, N8.g65, N8.g66, N8.g67, N8.g70, N8.g71, N8.g72, N8.g73, N8.g74, N8.g75, N8.g76, N8.g77, oLoad1_run, oLoad_run, oStore_run, oOff_run, oIdxA_run, oIdxS_run, oNil_run, oLenL_run, oAllocZ_run, offV_ptr, nilV_ptr, lenV_slice, put_get, new_get, put_nx, put_ro, new_nx, new_ro, Nat.zero_add, drawnD_run, planD_nil, planD_cons, normF_run, stepK_free, stepK_read, stepK_eff, freeK_val, readK_val, effK_val, effK_call, retK_ret, keepR_nil, keepR_cons, still_nil, still_cons, rdOk_run, isSame_u32, isSame_u8, isSame_nI, lowOs_nil, lowOs_cons, lowV_nI, lowV_u32, lowV_u8, lowV_bool, rsF_nil, rsF_cons, List.map_cons, List.map_nil, cond_true, cond_false, Nat.testBit_eq_decide_div_mod_eq, Nat.reducePow, Nat.reduceDiv, Nat.reduceMod, decide_true, Nat.reduceEqDiff, decide_false, reduceCtorEq, Nat.zero_ne_one, stepK_freeG, stepK_readG, stepK_effG, guardK_tt, guardK_ft, guardK_ff, guardK_tf, seqG_run, lowV_agg, lowV_undef, isSame_nI, oSlice_run, oMinMax_run, oBSlice_run, oAppend_run, Option.map_none, Option.map_some, oLenS_run, oIdxStr_run, oSlStr_run, oExtr_run, pickV_t, pickV_f, notV_b, gtr0, gtr2, gtr3, gtr4, gtr5, gtr6, gtr7, gtr8, gtr9, gtr10, gtr11, gtr12, gtr13, str0, str2, str3, str4, str5, str6, str7, str8, str9, str10, str11, str12, str13, str0, gtr0]
  exact ⟨_, rfl, u3.mono (Nat.le_succ _)⟩
end
end Go.AI

namespace Go.AI
open Go
noncomputable section
variable {lib : Nat → List AV → Heap → Option CR} {fs : T CF} {fuel : Nat}

def hexS : List UInt8 := [48, 49, 50, 51, 52, 53, 54, 55, 56, 57, 65, 66, 67, 68, 69, 70]
def escB (x : UInt8) : List UInt8 := if plainB x then [x] else [37, hexS.getD (x.toNat / 16) 0, hexS.getD (x.toNat % 16) 0]
def esc (s : List UInt8) : List UInt8 := s.flatMap escB
theorem escB_len (x : UInt8) : 1 ≤ (escB x).length ∧ (escB x).length ≤ 3 := by unfold escB; split <;> simp
theorem esc_nil : esc [] = [] := rfl
theorem esc_app (s t : List UInt8) : esc (s ++ t) = esc s ++ esc t := by unfold esc; simp
theorem esc_one (x : UInt8) : esc [x] = escB x := by unfold esc; simp
theorem esc_len : ∀ s : List UInt8, s.length ≤ (esc s).length ∧ (esc s).length ≤ 3 * s.length
  | [] => by simp [esc_nil]
  | x :: s => by
    have h := esc_len s
    have h2 := escB_len x
    rw [show x :: s = [x] ++ s from rfl, esc_app, esc_one]
    simp only [List.length_append, List.length_cons, List.length_nil]
    omega
theorem take_next {s : List UInt8} {i : Nat} (h : i < s.length) : s.take (i + 1) = s.take i ++ [s.getD i 0] := by
  rw [List.take_succ_eq_append_getElem h, List.getD_eq_getElem?_getD, List.getElem?_eq_getElem h]; rfl
structure EL (s : List UInt8) (sb : Nat) (H0 : Heap) (i : Nat) (tm : TM) (H : Heap) : Prop where
  t0 : gt0 tm = .str s
  t3 : gt3 tm = .ptr sb 0
  t7 : gt7 tm = nI .i64 s.length
  t8 : gt8 tm = nI .i64 i
  keep : Keep H0 H []
  bld : Bld H sb (esc (s.take i))
theorem el_step {n : Nat} (hl1 : ∀ l H, lib 27 l H = none) (hf1 : fs.get 27 = some c27) (hl2 : ∀ l H, lib 15 l H = none) (hf2 : fs.get 15 = some c15) (hl3 : ∀ l H, lib 14 l H = none) (hf3 : fs.get 14 = some c14) (hl4 : ∀ l H, lib 16 l H = none) (hf4 : fs.get 16 = some c16) (hl5 : ∀ l H, lib 5 l H = none) (hf5 : fs.get 5 = some c5) (hN : ∀ x H, lib 49 [x] H = some (.ret x H)) {s : List UInt8} {sb : Nat} {H0 : Heap} (hs : s.length ≤ 10000000) (hsb : H0.nx ≤ sb) (hro : H0.ro ≤ H0.nx) {yld : Nat → List AV → Heap → CR} {rng : AV → (List AV → Heap → CR) → TM → Heap → X → Res} (x : X) (i : Nat) (tm : TM) (H : Heap) (hi : i < s.length) (h : EL s sb H0 i tm H) :
    ∃ tm' H', c5_l0 ⟨callN lib fs fuel (n + 3), yld, rng, fuel, false⟩ tm H x = .ok .normal tm' H' x ∧ EL s sb H0 (i + 1) tm' H' := by
  have t0 := h.t0; have t3 := h.t3; have t7 := h.t7; have t8 := h.t8
  simp only [gtr0, gtr3, gtr7, gtr8] at t0 t3 t7 t8
  have d1 : decide (i < s.length) = true := decide_eq_true hi
  have ix : ∀ H', idxStrV (.str s) (nI .i64 i) H' = .val (u8V (s.getD i 0)) H' := fun H' => idxStrV_at hi .i64 H'
  generalize hc : s.getD i 0 = c at ix
  have tn : s.take (i + 1) = s.take i ++ [c] := by rw [take_next hi, hc]
  have pl := plain_run (fuel := fuel) (n := n + 2) hl3 hf3 c
  have ro1 : H.ro ≤ H.nx := by rw [h.keep.ro]; exact Nat.le_trans hro h.keep.nx
  have len1 := (esc_len (s.take i)).2
  have len2 : (s.take i).length ≤ s.length := by rw [List.length_take]; omega
  cases hp : plainB c with
  | true =>
    rw [hp] at pl
    obtain ⟨H1, e1, b1, k1⟩ := write_byte (fuel := fuel) (n := n) hl1 hf1 hl2 hf2 hN h.bld (by omega) ro1 c
    simp (disch := omega) only [c5_l0, t0, t3, t7, t8, cmpV_lt, d1, ix, pl, e1, addV_i, seqO_run, goOn_val, goOn_call, onCR_ret, seqD_run, thenR_normal, thenR_ret, thenR_exit, normD_run, retD_run, exitD_run, condD_run, isBn_bool, condK_true, condK_false, blockD_run, leaveB_normal, leaveB_same, leaveB_ret, d0_run, k_run, evs_nil, evs_cons, oMv_run, oNeg_run, oInt_run, oAddS_run, oSub_run, oMul_run, oQuo_run, oRem_run, oBits_run, oShl_run, oShr_run, oXorU_run, oCmp_run, oEq_run, oNot_run, oPick_run, oCallF_run, N8.g00, N8.g01, N8.g02, N8.g03, N8.g04, N8.g05, N8.g06, N8.g07, N8.g10, N8.g11, N8.g12, N8.g13, N8.g14, N8.g15, N8.g16, N8.g17, N8.g20, N8.g21, N8.g22, N8.g23, N8.g24, N8.g25, N8.g26, N8.g27, N8.g30, N8.g31, N8.g32, N8.g33, N8.g34, N8.g35, N8.g36, N8.g37, N8.g40, N8.g41, N8.g42, N8.g43, N8.g44, N8.g45, N8.g46, N8.g47, N8.g50, N8.g51, N8.g52, N8.g53, N8.g54, N8.g55, N8.g56, N8.g57, N8.g60, N8.g61, N8.g62, N8.g63, N8.g64, N8.g65, N8.g66, N8.g67, N8.g70, N8.g71, N8.g72, N8.g73, N8.g74, N8.g75, N8.g76, N8.g77, oLoad1_run, oLoad_run, oStore_run, oOff_run, oIdxA_run, oIdxS_run, oNil_run, oLenL_run, oAllocZ_run, offV_ptr, nilV_ptr, lenV_slice, put_get, new_get, put_nx, put_ro, new_nx, new_ro, Nat.zero_add, stepK_freeG, stepK_readG, stepK_effG, guardK_tt, guardK_ft, guardK_ff, guardK_tf, seqG_run, lowV_agg, lowV_undef, isSame_nI, oSlice_run, oMinMax_run, oBSlice_run, oAppend_run, Option.map_none, Option.map_some, oLenS_run, oIdxStr_run, oSlStr_run, oExtr_run, pickV_t, pickV_f, notV_b, gtr0, gtr2, gtr3, gtr4, gtr5, gtr6, gtr7, gtr8, gtr9, gtr10, gtr11, gtr12, gtr13, gtr14, gtr15, gtr16, gtr19, gtr20, gtr21, gtr23, gtr24, gtr25, gtr27, gtr28, str2, str3, str4, str5, str6, str7, str8, str9, str10, str11, str12, str13, str14, str15, str16, str17, str18, str19, str20, str21, str22, str23, str24, str25, str26, str27, str28]
    refine ⟨_, _, rfl, t0, t3, t7, rfl, h.keep.below k1 hsb, ?_⟩
    rw [tn, esc_app, esc_one]
    unfold escB
    rw [if_pos hp]
    exact b1
  | false =>
    rw [hp] at pl
    have u37 : u8V 37 = nI .u8 37 := rfl
    obtain ⟨H1, e1, b1, k1⟩ := write_byte (fuel := fuel) (n := n) hl1 hf1 hl2 hf2 hN h.bld (by omega) ro1 37
    rw [u37] at e1
    have q1 := h.keep.below k1 hsb
    have hc8 : c.toNat < 256 := c.toNat_lt
    have x1 : ∀ H', idxStrV (.str hexS) (nI .u8 (c.toNat / 16)) H' = .val (u8V (hexS.getD (c.toNat / 16) 0)) H' := fun H' => idxStrV_at (by show c.toNat / 16 < 16; omega) .u8 H'
    obtain ⟨H2, e2, b2, k2⟩ := write_byte (fuel := fuel) (n := n) hl1 hf1 hl2 hf2 hN b1 (by simp; omega) (by rw [q1.ro]; exact Nat.le_trans hro q1.nx) (hexS.getD (c.toNat / 16) 0)
    have q2 := q1.below k2 hsb
    have x2 : ∀ H', idxStrV (.str hexS) (nI .u8 (c.toNat % 16)) H' = .val (u8V (hexS.getD (c.toNat % 16) 0)) H' := fun H' => idxStrV_at (by show c.toNat % 16 < 16; omega) .u8 H'
    obtain ⟨H3, e3, b3, k3⟩ := write_byte (fuel := fuel) (n := n) hl1 hf1 hl2 hf2 hN b2 (by simp; omega) (by rw [q2.ro]; exact Nat.le_trans hro q2.nx) (hexS.getD (c.toNat % 16) 0)
    have q3 := q2.below k3 hsb
    unfold hexS at x1 x2 e2 e3 b2 b3
    simp (disch := omega) only [c5_l0, t0, t3, t7, t8, cmpV_lt, d1, ix, pl, e1, e2, e3, shrV_u8, landV_15, x1, x2, addV_i, seqO_run, goOn_val, goOn_call, onCR_ret, seqD_run, thenR_normal, thenR_ret, thenR_exit, normD_run, retD_run, exitD_run, condD_run, isBn_bool, condK_true, condK_false, blockD_run, leaveB_normal, leaveB_same, leaveB_ret, d0_run, k_run, evs_nil, evs_cons, oMv_run, oNeg_run, oInt_run, oAddS_run, oSub_run, oMul_run, oQuo_run, oRem_run, oBits_run, oShl_run, oShr_run, oXorU_run, oCmp_run, oEq_run, oNot_run, oPick_run, oCallF_run, N8.g00, N8.g01, N8.g02, N8.g03, N8.g04, N8.g05, N8.g06, N8.g07, N8.g10, N8.g11, N8.g12, N8.g13, N8.g14, N8.g15, N8.g16, N8.g17, N8.g20, N8.g21, N8.g22, N8.g23, N8.g24, N8.g25, N8.g26, N8.g27, N8.g30, N8.g31, N8.g32, N8.g33, N8.g34, N8.g35, N8.g36, N8.g37, N8.g40, N8.g41, N8.g42, N8.g43, N8.g44, N8.g45, N8.g46, N8.g47, N8.g50, N8.g51, N8.g52, N8.g53, N8.g54, N8.g55, N8.g56, N8.g57, N8.g60, N8.g61, N8.g62, N8.g63, N8.g64, N8.g65, N8.g66, N8.g67, N8.g70, N8.g71, N8.g72, N8.g73, N8.g74, N8.g75, N8.g76, N8.g77, oLoad1_run, oLoad_run, oStore_run, oOff_run, oIdxA_run, oIdxS_run, oNil_run, oLenL_run, oAllocZ_run, offV_ptr, nilV_ptr, lenV_slice, put_get, new_get, put_nx, put_ro, new_nx, new_ro, Nat.zero_add, stepK_freeG, stepK_readG, stepK_effG, guardK_tt, guardK_ft, guardK_ff, guardK_tf, seqG_run, lowV_agg, lowV_undef, isSame_nI, oSlice_run, oMinMax_run, oBSlice_run, oAppend_run, Option.map_none, Option.map_some, oLenS_run, oIdxStr_run, oSlStr_run, oExtr_run, pickV_t, pickV_f, notV_b, gtr0, gtr2, gtr3, gtr4, gtr5, gtr6, gtr7, gtr8, gtr9, gtr10, gtr11, gtr12, gtr13, gtr14, gtr15, gtr16, gtr19, gtr20, gtr21, gtr23, gtr24, gtr25, gtr27, gtr28, str2, str3, str4, str5, str6, str7, str8, str9, str10, str11, str12, str13, str14, str15, str16, str17, str18, str19, str20, str21, str22, str23, str24, str25, str26, str27, str28]
    refine ⟨_, _, rfl, t0, t3, t7, rfl, q3, ?_⟩
    rw [tn, esc_app, esc_one]
    unfold escB
    rw [if_neg (by rw [hp]; decide)]
    unfold hexS
    simp only [List.append_assoc, List.cons_append, List.nil_append] at b3 ⊢
    exact b3
theorem el_last {s : List UInt8} {sb : Nat} {H0 : Heap} (c : Ctx) (x : X) (tm : TM) (H : Heap) (h : EL s sb H0 s.length tm H) :
    ∃ tm' H', c5_l0 c tm H x = .ok (.exit 0) tm' H' x ∧ EL s sb H0 s.length tm' H' := by
  have t0 := h.t0; have t3 := h.t3; have t7 := h.t7; have t8 := h.t8
  simp only [gtr0, gtr3, gtr7, gtr8] at t0 t3 t7 t8
  have d1 : decide (s.length < s.length) = false := decide_eq_false (Nat.lt_irrefl _)
  simp (disch := omega) only [c5_l0, t7, t8, cmpV_lt, d1, seqO_run, goOn_val, goOn_call, onCR_ret, seqD_run, thenR_normal, thenR_ret, thenR_exit, normD_run, retD_run, exitD_run, condD_run, isBn_bool, condK_true, condK_false, blockD_run, leaveB_normal, leaveB_same, leaveB_ret, d0_run, k_run, evs_nil, evs_cons, oMv_run, oNeg_run, oInt_run, oAddS_run, oSub_run, oMul_run, oQuo_run, oRem_run, oBits_run, oShl_run, oShr_run, oXorU_run, oCmp_run, oEq_run, oNot_run, oPick_run, oCallF_run, N8.g00, N8.g01, N8.g02, N8.g03, N8.g04, N8.g05, N8.g06, N8.g07, N8.g10, N8.g11, N8.g12, N8.g13, N8.g14, N8.g15, N8.g16, N8.g17, N8.g20, N8.g21, N8.g22, N8.g23, N8.g24, N8.g25, N8.g26, N8.g27, N8.g30, N8.g31, N8.g32, N8.g33, N8.g34, N8.g35, N8.g36, N8.g37, N8.g40, N8.g41, N8.g42, N8.g43, N8.g44, N8.g45, N8.g46, N8.g47, N8.g50, N8.g51, N8.g52, N8.g53, N8.g54, N8.g55, N8.g56, N8.g57, N8.g60, N8.g61, N8.g62, N8.g63, N8.g64, N8.g65, N8.g66, N8.g67, N8.g70, N8.g71, N8.g72, N8.g73, N8.g74, N8.g75, N8.g76, N8.g77, oLoad1_run, oLoad_run, oStore_run, oOff_run, oIdxA_run, oIdxS_run, oNil_run, oLenL_run, oAllocZ_run, offV_ptr, nilV_ptr, lenV_slice, put_get, new_get, put_nx, put_ro, new_nx, new_ro, Nat.zero_add, stepK_freeG, stepK_readG, stepK_effG, guardK_tt, guardK_ft, guardK_ff, guardK_tf, seqG_run, lowV_agg, lowV_undef, isSame_nI, oSlice_run, oMinMax_run, oBSlice_run, oAppend_run, Option.map_none, Option.map_some, oLenS_run, oIdxStr_run, oSlStr_run, oExtr_run, pickV_t, pickV_f, notV_b, gtr0, gtr2, gtr3, gtr4, gtr5, gtr6, gtr7, gtr8, gtr9, gtr10, gtr11, gtr12, gtr13, gtr14, gtr15, gtr16, gtr19, gtr20, gtr21, gtr23, gtr24, gtr25, gtr27, gtr28, str2, str3, str4, str5, str6, str7, str8, str9, str10, str11, str12, str13, str14, str15, str16, str17, str18, str19, str20, str21, str22, str23, str24, str25, str26, str27, str28]
  exact ⟨_, _, rfl, t0, t3, t7, t8, h.keep, h.bld⟩
/-- a text escaped -/
theorem esc_run {n : Nat} (hl1 : ∀ l H, lib 27 l H = none) (hf1 : fs.get 27 = some c27) (hl2 : ∀ l H, lib 15 l H = none) (hf2 : fs.get 15 = some c15) (hl3 : ∀ l H, lib 14 l H = none) (hf3 : fs.get 14 = some c14) (hl4 : ∀ l H, lib 16 l H = none) (hf4 : fs.get 16 = some c16) (hl5 : ∀ l H, lib 5 l H = none) (hf5 : fs.get 5 = some c5) (hN : ∀ x H, lib 49 [x] H = some (.ret x H)) {s : List UInt8} (hs : s.length ≤ 10000000) (hF : s.length < fuel) {H : Heap} (hro : H.ro ≤ H.nx) :
    ∃ H', callN lib fs fuel (n + 4) 5 [.str s] H = .ret (.str (esc s)) H' ∧ Keep H H' [] := by
  rw [callN_fn (hl5 _ _) hf5]
  have al : ∀ tm, oAlloc 56 [.nilp, .nils] tm H = .val (.ptr H.nx 0) (H.newRow 56 1 [.nilp, .nils] true) := fun tm => oAlloc_run _ _ (by decide) tm H
  generalize ha : H.newRow 56 1 [.nilp, .nils] true = Ha at al
  have nxa : Ha.nx = H.nx + 1 := by rw [← ha]; rfl
  have ka : Keep H Ha [] := by rw [← ha]; exact Keep.new H _ []
  have ga : Ha.t.get H.nx = some (.row ⟨56, 1, lenL [AV.nilp, .nils], T.ofList [AV.nilp, .nils], .unk, 0, false, true, true⟩) := by rw [← ha, newRow_eq, new_get, if_pos rfl]
  have b0 : Bld Ha H.nx [] := ⟨by omega, _, .nilp, .nils, ⟨ga, rfl, rfl, rfl, rfl, rfl, Cells.new .., by rw [ka.ro]; exact hro⟩, rfl, .inl ⟨rfl, rfl⟩, .inl ⟨rfl, rfl⟩⟩
  simp only [c5, argsT_1, loopD_run, al, lenSV_str, seqO_run, goOn_val, goOn_call, onCR_ret, seqD_run, thenR_normal, thenR_ret, thenR_exit, normD_run, retD_run, exitD_run, condD_run, isBn_bool, condK_true, condK_false, blockD_run, leaveB_normal, leaveB_same, leaveB_ret, d0_run, k_run, evs_nil, evs_cons, oMv_run, oNeg_run, oInt_run, oAddS_run, oSub_run, oMul_run, oQuo_run, oRem_run, oBits_run, oShl_run, oShr_run, oXorU_run, oCmp_run, oEq_run, oNot_run, oPick_run, oCallF_run, N8.g00, N8.g01, N8.g02, N8.g03, N8.g04, N8.g05, N8.g06, N8.g07, N8.g10, N8.g11, N8.g12, N8.g13, N8.g14, N8.g15, N8.g16, N8.g17, N8.g20, N8.g21, N8.g22, N8.g23, N8.g24, N8.g25, N8.g26, N8.g27, N8.g30, N8.g31, N8.g32, N8.g33, N8.g34, N8.g35, N8.g36, N8.g37, N8.g40, N8.g41, N8.g42, N8.g43, N8.g44, N8.g45, N8.g46, N8.g47, N8.g50, N8.g51, N8.g52, N8.g53, N8.g54, N8.g55, N8.g56, N8.g57, N8.g60, N8.g61, N8.g62, N8.g63, N8.g64, N8.g65, N8.g66, N8.g67, N8.g70, N8.g71, N8.g72, N8.g73, N8.g74, N8.g75, N8.g76, N8.g77, oLoad1_run, oLoad_run, oStore_run, oOff_run, oIdxA_run, oIdxS_run, oNil_run, oLenL_run, oAllocZ_run, offV_ptr, nilV_ptr, lenV_slice, put_get, new_get, put_nx, put_ro, new_nx, new_ro, Nat.zero_add, stepK_freeG, stepK_readG, stepK_effG, guardK_tt, guardK_ft, guardK_ff, guardK_tf, seqG_run, lowV_agg, lowV_undef, isSame_nI, oSlice_run, oMinMax_run, oBSlice_run, oAppend_run, Option.map_none, Option.map_some, oLenS_run, oIdxStr_run, oSlStr_run, oExtr_run, pickV_t, pickV_f, notV_b, gtr0, gtr2, gtr3, gtr4, gtr5, gtr6, gtr7, gtr8, gtr9, gtr10, gtr11, gtr12, gtr13, gtr14, gtr15, gtr16, gtr19, gtr20, gtr21, gtr23, gtr24, gtr25, gtr27, gtr28, str2, str3, str4, str5, str6, str7, str8, str9, str10, str11, str12, str13, str14, str15, str16, str17, str18, str19, str20, str21, str22, str23, str24, str25, str26, str27, str28, str0, gtr0]
  generalize hL : loopN (c5_l0 _) fuel _ _ _ = L
  obtain ⟨tm1, H1, rfl, z⟩ := after_loop (P := fun T => EL s H.nx H 0 T Ha) (Q := EL s H.nx H s.length)
    (fun T hi => loopN_exit (EL s H.nx H) (EL s H.nx H s.length) s.length (fun i tm H' hi h => el_step (n := n) hl1 hf1 hl2 hf2 hl3 hf3 hl4 hf4 hl5 hf5 hN hs (Nat.le_refl _) hro _ i tm H' hi h) (fun tm H' h => el_last _ _ tm H' h) s.length 0 fuel T Ha (Nat.zero_add _) hF hi) hL
    ⟨rfl, rfl, rfl, rfl, ka, by rw [List.take_zero, esc_nil]; exact b0⟩
  have z3 := z.t3
  simp only [gtr3] at z3
  have zb := z.bld
  rw [List.take_length] at zb
  obtain ⟨H2, e2, k2⟩ := string_run (fuel := fuel) (n := n + 2) hl4 hf4 zb (by have := (esc_len s).2; omega)
  simp only [leaveB_same, thenR_normal, z3, e2, seqO_run, goOn_val, goOn_call, onCR_ret, seqD_run, thenR_normal, thenR_ret, thenR_exit, normD_run, retD_run, exitD_run, condD_run, isBn_bool, condK_true, condK_false, blockD_run, leaveB_normal, leaveB_same, leaveB_ret, d0_run, k_run, evs_nil, evs_cons, oMv_run, oNeg_run, oInt_run, oAddS_run, oSub_run, oMul_run, oQuo_run, oRem_run, oBits_run, oShl_run, oShr_run, oXorU_run, oCmp_run, oEq_run, oNot_run, oPick_run, oCallF_run, N8.g00, N8.g01, N8.g02, N8.g03, N8.g04, N8.g05, N8.g06, N8.g07, N8.g10, N8.g11, N8.g12, N8.g13, N8.g14, N8.g15, N8.g16, N8.g17, N8.g20, N8.g21, N8.g22, N8.g23, N8.g24, N8.g25, N8.g26, N8.g27, N8.g30, N8.g31, N8.g32, N8.g33, N8.g34, N8.g35, N8.g36, N8.g37, N8.g40, N8.g41, N8.g42, N8.g43, N8.g44, N8.g45, N8.g46, N8.g47, N8.g50, N8.g51, N8.g52, N8.g53, N8.g54, N8.g55, N8.g56, N8.g57, N8.g60, N8.g61, N8.g62, N8.g63, N8.g64, N8.g65, N8.g66, N8.g67, N8.g70, N8.g71, N8.g72, N8.g73, N8.g74, N8.g75, N8.g76, N8.g77, oLoad1_run, oLoad_run, oStore_run, oOff_run, oIdxA_run, oIdxS_run, oNil_run, oLenL_run, oAllocZ_run, offV_ptr, nilV_ptr, lenV_slice, put_get, new_get, put_nx, put_ro, new_nx, new_ro, Nat.zero_add, stepK_freeG, stepK_readG, stepK_effG, guardK_tt, guardK_ft, guardK_ff, guardK_tf, seqG_run, lowV_agg, lowV_undef, isSame_nI, oSlice_run, oMinMax_run, oBSlice_run, oAppend_run, Option.map_none, Option.map_some, oLenS_run, oIdxStr_run, oSlStr_run, oExtr_run, pickV_t, pickV_f, notV_b, gtr0, gtr2, gtr3, gtr4, gtr5, gtr6, gtr7, gtr8, gtr9, gtr10, gtr11, gtr12, gtr13, gtr14, gtr15, gtr16, gtr19, gtr20, gtr21, gtr23, gtr24, gtr25, gtr27, gtr28, str2, str3, str4, str5, str6, str7, str8, str9, str10, str11, str12, str13, str14, str15, str16, str17, str18, str19, str20, str21, str22, str23, str24, str25, str26, str27, str28]
  simp only [outF_ret]
  exact ⟨H2, rfl, z.keep.below k2 (Nat.le_refl _)⟩
end
end Go.AI

namespace Go.AI
open Go
noncomputable section
variable {lib : Nat → List AV → Heap → Option CR} {fs : T CF} {fuel : Nat}

theorem index_byte {n : Nat} (hl6 : ∀ l H, lib 17 l H = none) (hf6 : fs.get 17 = some c17) (hl7 : ∀ l H, lib 28 l H = none) (hf7 : fs.get 28 = some c28) (hI : ∀ (s : List UInt8) (x : UInt8) H, lib 50 [.str s, u8V x] H = some (.ret (.int .i64 (idxByte x.toNat s 0)) H)) (s : List UInt8) (x : UInt8) (H : Heap) :
    callN lib fs fuel (n + 3) 17 [.str s, u8V x] H = .ret (.int .i64 (idxByte x.toNat s 0)) H := by
  have e1 : callN lib fs fuel (n + 1) 50 [.str s, u8V x] H = .ret (.int .i64 (idxByte x.toNat s 0)) H := callN_hit (hI s x H)
  have e2 : callN lib fs fuel (n + 2) 28 [.str s, u8V x] H = .ret (.int .i64 (idxByte x.toNat s 0)) H := by
    rw [callN_fn (hl7 _ _) hf7]
    simp only [c28, argsT_2, e1, seqO_run, goOn_val, goOn_call, onCR_ret, seqD_run, thenR_normal, thenR_ret, thenR_exit, normD_run, retD_run, exitD_run, condD_run, isBn_bool, condK_true, condK_false, blockD_run, leaveB_normal, leaveB_same, leaveB_ret, d0_run, k_run, evs_nil, evs_cons, oMv_run, oNeg_run, oInt_run, oAddS_run, oSub_run, oMul_run, oQuo_run, oRem_run, oBits_run, oShl_run, oShr_run, oXorU_run, oCmp_run, oEq_run, oNot_run, oPick_run, oCallF_run, N8.g00, N8.g01, N8.g02, N8.g03, N8.g04, N8.g05, N8.g06, N8.g07, N8.g10, N8.g11, N8.g12, N8.g13, N8.g14, N8.g15, N8.g16, N8.g17, N8.g20, N8.g21, N8.g22, N8.g23, N8.g24, N8.g25, N8.g26, N8.g27, N8.g30, N8.g31, N8.g32, N8.g33, N8.g34, N8.g35, N8.g36, N8.g37, N8.g40, N8.g41, N8.g42, N8.g43, N8.g44, N8.g45, N8.g46, N8.g47, N8.g50, N8.g51, N8.g52, N8.g53, N8.g54, N8.g55, N8.g56, N8.g57, N8.g60, N8.g61, N8.g62, N8.g63, N8.g64, N8.g65, N8.g66, N8.g67, N8.g70, N8.g71, N8.g72, N8.g73, N8.g74, N8.g75, N8.g76, N8.g77, oLoad1_run, oLoad_run, oStore_run, oOff_run, oIdxA_run, oIdxS_run, oNil_run, oLenL_run, oAllocZ_run, offV_ptr, nilV_ptr, lenV_slice, put_get, new_get, put_nx, put_ro, new_nx, new_ro, Nat.zero_add, stepK_freeG, stepK_readG, stepK_effG, guardK_tt, guardK_ft, guardK_ff, guardK_tf, seqG_run, lowV_agg, lowV_undef, isSame_nI, oSlice_run, oMinMax_run, oBSlice_run, oAppend_run, Option.map_none, Option.map_some, oLenS_run, oIdxStr_run, oSlStr_run, oExtr_run, pickV_t, pickV_f, notV_b, gtr0, gtr1, gtr4, gtr5, gtr6, gtr7, str4, str5, str6, str7, str0, str1, gtr0, gtr1]
    simp only [outF_ret]
    rfl
  rw [callN_fn (hl6 _ _) hf6]
  simp only [c17, argsT_2, e2, seqO_run, goOn_val, goOn_call, onCR_ret, seqD_run, thenR_normal, thenR_ret, thenR_exit, normD_run, retD_run, exitD_run, condD_run, isBn_bool, condK_true, condK_false, blockD_run, leaveB_normal, leaveB_same, leaveB_ret, d0_run, k_run, evs_nil, evs_cons, oMv_run, oNeg_run, oInt_run, oAddS_run, oSub_run, oMul_run, oQuo_run, oRem_run, oBits_run, oShl_run, oShr_run, oXorU_run, oCmp_run, oEq_run, oNot_run, oPick_run, oCallF_run, N8.g00, N8.g01, N8.g02, N8.g03, N8.g04, N8.g05, N8.g06, N8.g07, N8.g10, N8.g11, N8.g12, N8.g13, N8.g14, N8.g15, N8.g16, N8.g17, N8.g20, N8.g21, N8.g22, N8.g23, N8.g24, N8.g25, N8.g26, N8.g27, N8.g30, N8.g31, N8.g32, N8.g33, N8.g34, N8.g35, N8.g36, N8.g37, N8.g40, N8.g41, N8.g42, N8.g43, N8.g44, N8.g45, N8.g46, N8.g47, N8.g50, N8.g51, N8.g52, N8.g53, N8.g54, N8.g55, N8.g56, N8.g57, N8.g60, N8.g61, N8.g62, N8.g63, N8.g64, N8.g65, N8.g66, N8.g67, N8.g70, N8.g71, N8.g72, N8.g73, N8.g74, N8.g75, N8.g76, N8.g77, oLoad1_run, oLoad_run, oStore_run, oOff_run, oIdxA_run, oIdxS_run, oNil_run, oLenL_run, oAllocZ_run, offV_ptr, nilV_ptr, lenV_slice, put_get, new_get, put_nx, put_ro, new_nx, new_ro, Nat.zero_add, stepK_freeG, stepK_readG, stepK_effG, guardK_tt, guardK_ft, guardK_ff, guardK_tf, seqG_run, lowV_agg, lowV_undef, isSame_nI, oSlice_run, oMinMax_run, oBSlice_run, oAppend_run, Option.map_none, Option.map_some, oLenS_run, oIdxStr_run, oSlStr_run, oExtr_run, pickV_t, pickV_f, notV_b, gtr0, gtr1, gtr4, gtr5, gtr6, gtr7, str4, str5, str6, str7, str0, str1, gtr0, gtr1]
  simp only [outF_ret]
  rfl
/-- what a byte stands for -/
def hexV (x : UInt8) : Option Nat := if 48 ≤ x.toNat ∧ x.toNat ≤ 57 then some (x.toNat - 48) else if 65 ≤ x.toNat ∧ x.toNat ≤ 70 then some (x.toNat - 55) else none
def hexI (x : UInt8) : Int := match hexV x with | some k => .ofNat k | none => .negSucc 0
theorem hexI_is (x : UInt8) : idxByte x.toNat hexS 0 = hexI x := by
  have hall : ((List.range 256).all fun n => ieq (idxByte (UInt8.ofNat n).toNat hexS 0) (hexI (UInt8.ofNat n))) = true := by decide +kernel
  have h := List.all_eq_true.1 hall x.toNat (List.mem_range.2 x.toNat_lt)
  rw [show UInt8.ofNat x.toNat = x by simp] at h
  rw [ieq_eq] at h
  exact eq_of_beq h
theorem hexV_lt {x : UInt8} {k : Nat} (h : hexV x = some k) : k < 16 := by
  unfold hexV at h
  split at h
  · cases h; omega
  · split at h
    · cases h; omega
    · cases h
def unesc : List UInt8 → Option (List UInt8)
  | [] => some []
  | c :: r => if c = 37 then match r with
      | a :: b :: r' => match hexV a, hexV b with
        | some hi, some lo => if plainB (UInt8.ofNat (hi * 16 + lo)) = true then none else (unesc r').map (UInt8.ofNat (hi * 16 + lo) :: ·)
        | _, _ => none
      | _ => none
    else if plainB c = true then (unesc r).map (c :: ·) else none
theorem unesc_hex (a b : UInt8) (r : List UInt8) : unesc (37 :: a :: b :: r) = match hexV a, hexV b with
    | some hi, some lo => if plainB (UInt8.ofNat (hi * 16 + lo)) = true then none else (unesc r).map (UInt8.ofNat (hi * 16 + lo) :: ·)
    | _, _ => none := by
  rw [unesc.eq_def]
  rfl
theorem unesc_37 : unesc [37] = none := by
  rw [unesc.eq_def]; rfl
theorem unesc_37a (a : UInt8) : unesc [37, a] = none := by
  rw [unesc.eq_def]; rfl
theorem unesc_other {c : UInt8} (h : ¬ c = 37) (r : List UInt8) : unesc (c :: r) = if plainB c = true then (unesc r).map (c :: ·) else none := by
  rw [unesc.eq_def]
  simp only [if_neg h]
structure UL (s : List UInt8) (sb : Nat) (H0 : Heap) (i : Nat) (o : List UInt8) (tm : TM) (H : Heap) : Prop where
  t0 : gt0 tm = .str s
  t4 : gt4 tm = .ptr sb 0
  t5 : gt5 tm = nI .i64 i
  keep : Keep H0 H []
  bld : Bld H sb o
structure UF (H0 : Heap) (tm : TM) (H : Heap) : Prop where
  t2 : gt2 tm = .str []
  t3 : gt3 tm = .bool false
  keep : Keep H0 H []
theorem cmp_neg (H : Heap) : cmpV iltF strLt (.int .i64 (.negSucc 0)) (nI .i64 0) H = .val (.bool true) H := rfl
theorem cmp_pos (k : Nat) (H : Heap) : cmpV iltF strLt (.int .i64 (.ofNat k)) (nI .i64 0) H = .val (.bool false) H := by
  have := cmpV_lt .i64 k 0 H
  rw [decide_eq_false (Nat.not_lt_zero k)] at this
  exact this
theorem shlV_16 {h : Nat} (hh : h < 16) (H : Heap) : shlV (.int .i64 (.ofNat h)) (nI .u64 4) H = .val (nI .i64 (h * 16)) H := by
  show valI .i64 (imul (.ofNat h) (.ofNat (Nat.pow 2 (cond (Nat.ble 4 64) 4 64)))) H = _
  rw [imul_nat, valI_run]
  show OR.val (.int .i64 (IntKind.i64.wrap (.ofNat (h * 16)))) H = _
  rw [wrap_i64 (by omega)]; rfl
theorem lorV_16 {h l : Nat} (hh : h < 16) (hl : l < 16) (H : Heap) : bitsV lorF (nI .i64 (h * 16)) (.int .i64 (.ofNat l)) H = .val (nI .i64 (h * 16 + l)) H := by
  show onIf (kEq .i64 .i64) (valI .i64 (.ofNat (lorF (modOf .i64) (bitsOf (modOf .i64) (.ofNat (h * 16))) (bitsOf (modOf .i64) (.ofNat l)))) H) = _
  have e : lorF (modOf .i64) (bitsOf (modOf .i64) (.ofNat (h * 16))) (bitsOf (modOf .i64) (.ofNat l)) = h * 16 + l := by
    show Nat.lor ((h * 16) % 18446744073709551616) (l % 18446744073709551616) = _
    rw [Nat.mod_eq_of_lt (by omega), Nat.mod_eq_of_lt (by omega)]
    have := Nat.two_pow_add_eq_or_of_lt (i := 4) (b := l) (by omega) h
    rw [show 2 ^ 4 * h = h * 16 by omega] at this
    exact this.symm
  rw [kEq_self, e, valI_run, wrap_i64 (by omega)]; rfl
theorem intV_u8 {m : Nat} (h : m < 256) (H : Heap) : intV .u8 (nI .i64 m) H = .val (u8V (UInt8.ofNat m)) H := by
  show valI .u8 (.ofNat m) H = _
  rw [valI_run, wrap_u8, Nat.mod_eq_of_lt h]
  have e : (UInt8.ofNat m).toNat = m := by
    show m % 256 = m
    omega
  unfold u8V
  rw [e]
theorem ur_run {n : Nat} (hl6 : ∀ l H, lib 17 l H = none) (hf6 : fs.get 17 = some c17) (hl7 : ∀ l H, lib 28 l H = none) (hf7 : fs.get 28 = some c28) (hI : ∀ (s : List UInt8) (x : UInt8) H, lib 50 [.str s, u8V x] H = some (.ret (.int .i64 (idxByte x.toNat s 0)) H))
    {yld : Nat → List AV → Heap → CR} {rng : AV → (List AV → Heap → CR) → TM → Heap → X → Res} {x : X} {tm : TM} {H : Heap} {s : List UInt8} {i : Nat} (h2 : i + 2 < s.length) (hs : s.length ≤ 10000000) (t0 : gt0 tm = .str s) (t5 : gt5 tm = nI .i64 i) {y4 : AV} (t4 : gt4 tm = y4) :
    ∃ tm', c6_r0 ⟨callN lib fs fuel (n + 3), yld, rng, fuel, false⟩ tm H x = .ok .normal tm' H x ∧ gt0 tm' = .str s ∧ gt5 tm' = nI .i64 i ∧ gt4 tm' = y4 ∧ gt7 tm' = .int .i64 (hexI (s.getD (i + 1) 0)) ∧ gt8 tm' = .int .i64 (hexI (s.getD (i + 2) 0)) := by
  simp only [gtr0, gtr4, gtr5] at t0 t4 t5
  have x1 : ∀ H', idxStrV (.str s) (nI .i64 (i + 1)) H' = .val (u8V (s.getD (i + 1) 0)) H' := fun H' => idxStrV_at (by omega) .i64 H'
  have x2 : ∀ H', idxStrV (.str s) (nI .i64 (i + 2)) H' = .val (u8V (s.getD (i + 2) 0)) H' := fun H' => idxStrV_at (by omega) .i64 H'
  have e1 := index_byte (fuel := fuel) (n := n) hl6 hf6 hl7 hf7 hI hexS (s.getD (i + 1) 0) H
  have e2 := index_byte (fuel := fuel) (n := n) hl6 hf6 hl7 hf7 hI hexS (s.getD (i + 2) 0) H
  rw [hexI_is] at e1 e2
  unfold hexS at e1 e2
  simp (disch := omega) only [c6_r0, t0, t5, lowV_str, addV_i, x1, x2, e1, e2, seqO_run, goOn_val, goOn_call, onCR_ret, seqD_run, thenR_normal, thenR_ret, thenR_exit, normD_run, retD_run, exitD_run, condD_run, isBn_bool, condK_true, condK_false, blockD_run, leaveB_normal, leaveB_same, leaveB_ret, d0_run, k_run, evs_nil, evs_cons, oMv_run, oNeg_run, oInt_run, oAddS_run, oSub_run, oMul_run, oQuo_run, oRem_run, oBits_run, oShl_run, oShr_run, oXorU_run, oCmp_run, oEq_run, oNot_run, oPick_run, oCallF_run, N8.g00, N8.g01, N8.g02, N8.g03, N8.g04, N8.g05, N8.g06, N8.g07, N8.g10, N8.g11, N8.g12, N8.g13, N8.g14, N8.g15, N8.g16, N8.g17, N8.g20, N8.g21, N8.g22, N8.g23, N8.g24, N8.g25, N8.g26, N8.g27, N8.g30, N8.g31, N8.g32, N8.g33, N8.g34, N8.g35, N8.g36, N8.g37, N8.g40, N8.g41, N8.g42, N8.g43, N8.g44, N8.g45, N8.g46, N8.g47, N8.g50, N8.g51, N8.g52, N8.g53, N8.g54, N8.g55, N8.g56, N8.g57, N8.g60, N8.g61, N8.g62, N8.g63, N8.g64, N8.g65, N8.g66, N8.g67, N8.g70, N8.g71, N8.g72, N8.g73, N8.g74, N8.g75, N8.g76, N8.g77, oLoad1_run, oLoad_run, oStore_run, oOff_run, oIdxA_run, oIdxS_run, oNil_run, oLenL_run, oAllocZ_run, offV_ptr, nilV_ptr, lenV_slice, put_get, new_get, put_nx, put_ro, new_nx, new_ro, Nat.zero_add, drawnD_run, planD_nil, planD_cons, normF_run, stepK_free, stepK_read, stepK_eff, freeK_val, readK_val, effK_val, effK_call, retK_ret, keepR_nil, keepR_cons, still_nil, still_cons, rdOk_run, isSame_u32, isSame_u8, isSame_nI, lowOs_nil, lowOs_cons, lowV_nI, lowV_u32, lowV_u8, lowV_bool, rsF_nil, rsF_cons, List.map_cons, List.map_nil, cond_true, cond_false, Nat.testBit_eq_decide_div_mod_eq, Nat.reducePow, Nat.reduceDiv, Nat.reduceMod, decide_true, Nat.reduceEqDiff, decide_false, reduceCtorEq, Nat.zero_ne_one, stepK_freeG, stepK_readG, stepK_effG, guardK_tt, guardK_ft, guardK_ff, guardK_tf, seqG_run, lowV_agg, lowV_undef, isSame_nI, oSlice_run, oMinMax_run, oBSlice_run, oAppend_run, Option.map_none, Option.map_some, oLenS_run, oIdxStr_run, oSlStr_run, oExtr_run, pickV_t, pickV_f, notV_b, gtr0, gtr5, gtr25, gtr26, gtr27, gtr28, gtr29, gtr30, gtr31, gtr32, gtr33, gtr34, str0, str5, str7, str8, str25, str26, str27, str28, str29, str30, str31, str32, str33, str34]
  exact ⟨_, rfl, t0, t5, t4, rfl, rfl⟩
end
end Go.AI

namespace Go.AI
open Go
noncomputable section
variable {lib : Nat → List AV → Heap → Option CR} {fs : T CF} {fuel : Nat}

variable {yld : Nat → List AV → Heap → CR} {rng : AV → (List AV → Heap → CR) → TM → Heap → X → Res}
/-- one round -/
theorem ul_step {n : Nat} (hl1 : ∀ l H, lib 27 l H = none) (hf1 : fs.get 27 = some c27) (hl2 : ∀ l H, lib 15 l H = none) (hf2 : fs.get 15 = some c15) (hl3 : ∀ l H, lib 14 l H = none) (hf3 : fs.get 14 = some c14) (hl4 : ∀ l H, lib 16 l H = none) (hf4 : fs.get 16 = some c16) (hl5 : ∀ l H, lib 6 l H = none) (hf5 : fs.get 6 = some c6) (hl6 : ∀ l H, lib 17 l H = none) (hf6 : fs.get 17 = some c17) (hl7 : ∀ l H, lib 28 l H = none) (hf7 : fs.get 28 = some c28) (hN : ∀ x H, lib 49 [x] H = some (.ret x H)) (hI : ∀ (s : List UInt8) (x : UInt8) H, lib 50 [.str s, u8V x] H = some (.ret (.int .i64 (idxByte x.toNat s 0)) H)) {s : List UInt8} {sb : Nat} {H0 : Heap} (hs : s.length ≤ 10000000) (hsb : H0.nx ≤ sb) (hro : H0.ro ≤ H0.nx) (x : X) {i : Nat} {o r : List UInt8} {c : UInt8} {tm : TM} {H : Heap} (hr : s.drop i = c :: r) (ho : o.length ≤ i) (h : UL s sb H0 i o tm H) :
    (∃ d r' tm' H', c6_l0 ⟨callN lib fs fuel (n + 3), yld, rng, fuel, false⟩ tm H x = .ok .normal tm' H' x ∧ UL s sb H0 (s.length - r'.length) (o ++ [d]) tm' H' ∧ unesc (c :: r) = (unesc r').map (d :: ·) ∧ r'.length ≤ r.length ∧ s.drop (s.length - r'.length) = r')
    ∨ (∃ tm' H', c6_l0 ⟨callN lib fs fuel (n + 3), yld, rng, fuel, false⟩ tm H x = .ok .ret tm' H' x ∧ UF H0 tm' H' ∧ unesc (c :: r) = none) := by
  have t0 := h.t0; have t4 := h.t4; have t5 := h.t5
  simp only [gtr0, gtr4, gtr5] at t0 t4 t5
  have hi : i < s.length := by
    have := congrArg List.length hr
    rw [List.length_drop, List.length_cons] at this
    omega
  have hrl : r.length = s.length - (i + 1) := by
    have := congrArg List.length hr
    rw [List.length_drop, List.length_cons] at this
    omega
  have hr1 : s.drop (i + 1) = r := by
    have := congrArg List.tail hr
    rw [List.tail_drop] at this
    exact this
  have gc : s.getD i 0 = c := by
    have := List.drop_eq_getElem_cons hi
    rw [hr] at this
    rw [List.getD_eq_getElem?_getD, List.getElem?_eq_getElem hi]
    exact (List.cons.inj this).1.symm
  have d1 : decide (i < s.length) = true := decide_eq_true hi
  have ix : ∀ H', idxStrV (.str s) (nI .i64 i) H' = .val (u8V c) H' := fun H' => by rw [← gc]; exact idxStrV_at hi .i64 H'
  have ro1 : H.ro ≤ H.nx := by rw [h.keep.ro]; exact Nat.le_trans hro h.keep.nx
  have ec : ∀ H', eqV eqI false (u8V c) (nI .u8 37) H' = .val (.bool (decide (c.toNat = 37))) H' := fun H' => eqV_eq .u8 c.toNat 37 H'
  by_cases h37 : c.toNat = 37
  · have hc : c = 37 := UInt8.toNat_inj.1 (by rw [h37]; rfl)
    have d2 : decide (c.toNat = 37) = true := decide_eq_true h37
    by_cases h2 : i + 2 < s.length
    · have d3 : decide (s.length ≤ i + 2) = false := decide_eq_false (by omega)
      obtain ⟨a, b, r', hr2⟩ : ∃ a b r', r = a :: b :: r' := by
        match r, hrl with
        | [], e => simp at e; omega
        | [_], e => simp at e; omega
        | a :: b :: r', _ => exact ⟨a, b, r', rfl⟩
      have ga : s.getD (i + 1) 0 = a := by
        have := List.drop_eq_getElem_cons (l := s) (i := i + 1) (by omega)
        rw [hr1, hr2] at this
        rw [List.getD_eq_getElem?_getD, List.getElem?_eq_getElem (by omega)]
        exact (List.cons.inj this).1.symm
      have gb : s.getD (i + 2) 0 = b := by
        have e1 := List.drop_eq_getElem_cons (l := s) (i := i + 1) (by omega)
        rw [hr1, hr2] at e1
        have e2 := (List.cons.inj e1).2
        have e3 := List.drop_eq_getElem_cons (l := s) (i := i + 2) (by omega)
        rw [show i + 1 + 1 = i + 2 from rfl] at e2
        rw [← e2] at e3
        rw [List.getD_eq_getElem?_getD, List.getElem?_eq_getElem (by omega)]
        exact (List.cons.inj e3).1.symm
      have un : unesc (c :: r) = match hexV a, hexV b with
          | some hi, some lo => if plainB (UInt8.ofNat (hi * 16 + lo)) = true then none else (unesc r').map (UInt8.ofNat (hi * 16 + lo) :: ·)
          | _, _ => none := by
        rw [hr2, hc]
        exact unesc_hex a b r'
      simp (disch := omega) only [c6_l0, t0, t4, t5, lenSV_str, cmpV_lt, d1, ix, ec, d2, addV_i, cmpV_ge, d3, seqO_run, goOn_val, goOn_call, onCR_ret, seqD_run, thenR_normal, thenR_ret, thenR_exit, normD_run, retD_run, exitD_run, condD_run, isBn_bool, condK_true, condK_false, blockD_run, leaveB_normal, leaveB_same, leaveB_ret, d0_run, k_run, evs_nil, evs_cons, oMv_run, oNeg_run, oInt_run, oAddS_run, oSub_run, oMul_run, oQuo_run, oRem_run, oBits_run, oShl_run, oShr_run, oXorU_run, oCmp_run, oEq_run, oNot_run, oPick_run, oCallF_run, N8.g00, N8.g01, N8.g02, N8.g03, N8.g04, N8.g05, N8.g06, N8.g07, N8.g10, N8.g11, N8.g12, N8.g13, N8.g14, N8.g15, N8.g16, N8.g17, N8.g20, N8.g21, N8.g22, N8.g23, N8.g24, N8.g25, N8.g26, N8.g27, N8.g30, N8.g31, N8.g32, N8.g33, N8.g34, N8.g35, N8.g36, N8.g37, N8.g40, N8.g41, N8.g42, N8.g43, N8.g44, N8.g45, N8.g46, N8.g47, N8.g50, N8.g51, N8.g52, N8.g53, N8.g54, N8.g55, N8.g56, N8.g57, N8.g60, N8.g61, N8.g62, N8.g63, N8.g64, N8.g65, N8.g66, N8.g67, N8.g70, N8.g71, N8.g72, N8.g73, N8.g74, N8.g75, N8.g76, N8.g77, oLoad1_run, oLoad_run, oStore_run, oOff_run, oIdxA_run, oIdxS_run, oNil_run, oLenL_run, oAllocZ_run, offV_ptr, nilV_ptr, lenV_slice, put_get, new_get, put_nx, put_ro, new_nx, new_ro, Nat.zero_add, stepK_freeG, stepK_readG, stepK_effG, guardK_tt, guardK_ft, guardK_ff, guardK_tf, seqG_run, lowV_agg, lowV_undef, isSame_nI, oSlice_run, oMinMax_run, oBSlice_run, oAppend_run, Option.map_none, Option.map_some, oLenS_run, oIdxStr_run, oSlStr_run, oExtr_run, pickV_t, pickV_f, notV_b, gtr0, gtr2, gtr3, gtr4, gtr5, gtr6, gtr7, gtr8, gtr9, gtr10, gtr11, gtr12, gtr13, gtr14, gtr15, gtr16, gtr17, gtr18, gtr19, gtr20, gtr21, gtr22, gtr23, gtr24, gtr35, gtr36, gtr37, gtr38, gtr39, gtr40, gtr41, gtr42, gtr43, gtr44, gtr45, gtr46, gtr47, gtr48, gtr49, gtr50, gtr51, gtr52, gtr53, gtr55, str2, str3, str4, str5, str6, str9, str10, str11, str12, str13, str14, str15, str16, str17, str18, str19, str20, str21, str22, str23, str24, str35, str36, str37, str38, str39, str40, str41, str42, str43, str44, str45, str46, str47, str48, str49, str50, str51, str52, str53, str54, str55]
      generalize hR : c6_r0 _ _ _ _ = R
      obtain ⟨tm1, rfl, j0, j5, j4, j7, j8⟩ : ∃ tm', R = .ok .normal tm' H x ∧ gt0 tm' = .str s ∧ gt5 tm' = nI .i64 i ∧ gt4 tm' = .ptr sb 0 ∧ gt7 tm' = .int .i64 (hexI (s.getD (i + 1) 0)) ∧ gt8 tm' = .int .i64 (hexI (s.getD (i + 2) 0)) := by
        rw [← hR]
        exact ur_run (n := n) hl6 hf6 hl7 hf7 hI h2 hs (by simp only [gtr0, t0, seqO_run, goOn_val, goOn_call, onCR_ret, seqD_run, thenR_normal, thenR_ret, thenR_exit, normD_run, retD_run, exitD_run, condD_run, isBn_bool, condK_true, condK_false, blockD_run, leaveB_normal, leaveB_same, leaveB_ret, d0_run, k_run, evs_nil, evs_cons, oMv_run, oNeg_run, oInt_run, oAddS_run, oSub_run, oMul_run, oQuo_run, oRem_run, oBits_run, oShl_run, oShr_run, oXorU_run, oCmp_run, oEq_run, oNot_run, oPick_run, oCallF_run, N8.g00, N8.g01, N8.g02, N8.g03, N8.g04, N8.g05, N8.g06, N8.g07, N8.g10, N8.g11, N8.g12, N8.g13, N8.g14, N8.g15, N8.g16, N8.g17, N8.g20, N8.g21, N8.g22, N8.g23, N8.g24, N8.g25, N8.g26, N8.g27, N8.g30, N8.g31, N8.g32, N8.g33, N8.g34, N8.g35, N8.g36, N8.g37, N8.g40, N8.g41, N8.g42, N8.g43, N8.g44, N8.g45, N8.g46, N8.g47, N8.g50, N8.g51, N8.g52, N8.g53, N8.g54, N8.g55, N8.g56, N8.g57, N8.g60, N8.g61, N8.g62, N8.g63, N8.g64, N8.g65, N8.g66, N8.g67, N8.g70, N8.g71, N8.g72, N8.g73, N8.g74, N8.g75, N8.g76, N8.g77, oLoad1_run, oLoad_run, oStore_run, oOff_run, oIdxA_run, oIdxS_run, oNil_run, oLenL_run, oAllocZ_run, offV_ptr, nilV_ptr, lenV_slice, put_get, new_get, put_nx, put_ro, new_nx, new_ro, Nat.zero_add, stepK_freeG, stepK_readG, stepK_effG, guardK_tt, guardK_ft, guardK_ff, guardK_tf, seqG_run, lowV_agg, lowV_undef, isSame_nI, oSlice_run, oMinMax_run, oBSlice_run, oAppend_run, Option.map_none, Option.map_some, oLenS_run, oIdxStr_run, oSlStr_run, oExtr_run, pickV_t, pickV_f, notV_b, gtr0, gtr2, gtr3, gtr4, gtr5, gtr6, gtr7, gtr8, gtr9, gtr10, gtr11, gtr12, gtr13, gtr14, gtr15, gtr16, gtr17, gtr18, gtr19, gtr20, gtr21, gtr22, gtr23, gtr24, gtr35, gtr36, gtr37, gtr38, gtr39, gtr40, gtr41, gtr42, gtr43, gtr44, gtr45, gtr46, gtr47, gtr48, gtr49, gtr50, gtr51, gtr52, gtr53, gtr55, str2, str3, str4, str5, str6, str9, str10, str11, str12, str13, str14, str15, str16, str17, str18, str19, str20, str21, str22, str23, str24, str35, str36, str37, str38, str39, str40, str41, str42, str43, str44, str45, str46, str47, str48, str49, str50, str51, str52, str53, str54, str55]) (by simp only [gtr5, t5, seqO_run, goOn_val, goOn_call, onCR_ret, seqD_run, thenR_normal, thenR_ret, thenR_exit, normD_run, retD_run, exitD_run, condD_run, isBn_bool, condK_true, condK_false, blockD_run, leaveB_normal, leaveB_same, leaveB_ret, d0_run, k_run, evs_nil, evs_cons, oMv_run, oNeg_run, oInt_run, oAddS_run, oSub_run, oMul_run, oQuo_run, oRem_run, oBits_run, oShl_run, oShr_run, oXorU_run, oCmp_run, oEq_run, oNot_run, oPick_run, oCallF_run, N8.g00, N8.g01, N8.g02, N8.g03, N8.g04, N8.g05, N8.g06, N8.g07, N8.g10, N8.g11, N8.g12, N8.g13, N8.g14, N8.g15, N8.g16, N8.g17, N8.g20, N8.g21, N8.g22, N8.g23, N8.g24, N8.g25, N8.g26, N8.g27, N8.g30, N8.g31, N8.g32, N8.g33, N8.g34, N8.g35, N8.g36, N8.g37, N8.g40, N8.g41, N8.g42, N8.g43, N8.g44, N8.g45, N8.g46, N8.g47, N8.g50, N8.g51, N8.g52, N8.g53, N8.g54, N8.g55, N8.g56, N8.g57, N8.g60, N8.g61, N8.g62, N8.g63, N8.g64, N8.g65, N8.g66, N8.g67, N8.g70, N8.g71, N8.g72, N8.g73, N8.g74, N8.g75, N8.g76, N8.g77, oLoad1_run, oLoad_run, oStore_run, oOff_run, oIdxA_run, oIdxS_run, oNil_run, oLenL_run, oAllocZ_run, offV_ptr, nilV_ptr, lenV_slice, put_get, new_get, put_nx, put_ro, new_nx, new_ro, Nat.zero_add, stepK_freeG, stepK_readG, stepK_effG, guardK_tt, guardK_ft, guardK_ff, guardK_tf, seqG_run, lowV_agg, lowV_undef, isSame_nI, oSlice_run, oMinMax_run, oBSlice_run, oAppend_run, Option.map_none, Option.map_some, oLenS_run, oIdxStr_run, oSlStr_run, oExtr_run, pickV_t, pickV_f, notV_b, gtr0, gtr2, gtr3, gtr4, gtr5, gtr6, gtr7, gtr8, gtr9, gtr10, gtr11, gtr12, gtr13, gtr14, gtr15, gtr16, gtr17, gtr18, gtr19, gtr20, gtr21, gtr22, gtr23, gtr24, gtr35, gtr36, gtr37, gtr38, gtr39, gtr40, gtr41, gtr42, gtr43, gtr44, gtr45, gtr46, gtr47, gtr48, gtr49, gtr50, gtr51, gtr52, gtr53, gtr55, str2, str3, str4, str5, str6, str9, str10, str11, str12, str13, str14, str15, str16, str17, str18, str19, str20, str21, str22, str23, str24, str35, str36, str37, str38, str39, str40, str41, str42, str43, str44, str45, str46, str47, str48, str49, str50, str51, str52, str53, str54, str55]) (by simp only [gtr4, t4, seqO_run, goOn_val, goOn_call, onCR_ret, seqD_run, thenR_normal, thenR_ret, thenR_exit, normD_run, retD_run, exitD_run, condD_run, isBn_bool, condK_true, condK_false, blockD_run, leaveB_normal, leaveB_same, leaveB_ret, d0_run, k_run, evs_nil, evs_cons, oMv_run, oNeg_run, oInt_run, oAddS_run, oSub_run, oMul_run, oQuo_run, oRem_run, oBits_run, oShl_run, oShr_run, oXorU_run, oCmp_run, oEq_run, oNot_run, oPick_run, oCallF_run, N8.g00, N8.g01, N8.g02, N8.g03, N8.g04, N8.g05, N8.g06, N8.g07, N8.g10, N8.g11, N8.g12, N8.g13, N8.g14, N8.g15, N8.g16, N8.g17, N8.g20, N8.g21, N8.g22, N8.g23, N8.g24, N8.g25, N8.g26, N8.g27, N8.g30, N8.g31, N8.g32, N8.g33, N8.g34, N8.g35, N8.g36, N8.g37, N8.g40, N8.g41, N8.g42, N8.g43, N8.g44, N8.g45, N8.g46, N8.g47, N8.g50, N8.g51, N8.g52, N8.g53, N8.g54, N8.g55, N8.g56, N8.g57, N8.g60, N8.g61, N8.g62, N8.g63, N8.g64, N8.g65, N8.g66, N8.g67, N8.g70, N8.g71, N8.g72, N8.g73, N8.g74, N8.g75, N8.g76, N8.g77, oLoad1_run, oLoad_run, oStore_run, oOff_run, oIdxA_run, oIdxS_run, oNil_run, oLenL_run, oAllocZ_run, offV_ptr, nilV_ptr, lenV_slice, put_get, new_get, put_nx, put_ro, new_nx, new_ro, Nat.zero_add, stepK_freeG, stepK_readG, stepK_effG, guardK_tt, guardK_ft, guardK_ff, guardK_tf, seqG_run, lowV_agg, lowV_undef, isSame_nI, oSlice_run, oMinMax_run, oBSlice_run, oAppend_run, Option.map_none, Option.map_some, oLenS_run, oIdxStr_run, oSlStr_run, oExtr_run, pickV_t, pickV_f, notV_b, gtr0, gtr2, gtr3, gtr4, gtr5, gtr6, gtr7, gtr8, gtr9, gtr10, gtr11, gtr12, gtr13, gtr14, gtr15, gtr16, gtr17, gtr18, gtr19, gtr20, gtr21, gtr22, gtr23, gtr24, gtr35, gtr36, gtr37, gtr38, gtr39, gtr40, gtr41, gtr42, gtr43, gtr44, gtr45, gtr46, gtr47, gtr48, gtr49, gtr50, gtr51, gtr52, gtr53, gtr55, str2, str3, str4, str5, str6, str9, str10, str11, str12, str13, str14, str15, str16, str17, str18, str19, str20, str21, str22, str23, str24, str35, str36, str37, str38, str39, str40, str41, str42, str43, str44, str45, str46, str47, str48, str49, str50, str51, str52, str53, str54, str55])
      rw [ga] at j7
      rw [gb] at j8
      simp only [gtr0, gtr4, gtr5, gtr7, gtr8] at j0 j4 j5 j7 j8
      unfold hexI at j7 j8
      cases va : hexV a with
      | none =>
        rw [va] at j7 un
        refine .inr ?_
        simp (disch := omega) only [j0, j4, j5, j7, j8, cmp_neg, seqO_run, goOn_val, goOn_call, onCR_ret, seqD_run, thenR_normal, thenR_ret, thenR_exit, normD_run, retD_run, exitD_run, condD_run, isBn_bool, condK_true, condK_false, blockD_run, leaveB_normal, leaveB_same, leaveB_ret, d0_run, k_run, evs_nil, evs_cons, oMv_run, oNeg_run, oInt_run, oAddS_run, oSub_run, oMul_run, oQuo_run, oRem_run, oBits_run, oShl_run, oShr_run, oXorU_run, oCmp_run, oEq_run, oNot_run, oPick_run, oCallF_run, N8.g00, N8.g01, N8.g02, N8.g03, N8.g04, N8.g05, N8.g06, N8.g07, N8.g10, N8.g11, N8.g12, N8.g13, N8.g14, N8.g15, N8.g16, N8.g17, N8.g20, N8.g21, N8.g22, N8.g23, N8.g24, N8.g25, N8.g26, N8.g27, N8.g30, N8.g31, N8.g32, N8.g33, N8.g34, N8.g35, N8.g36, N8.g37, N8.g40, N8.g41, N8.g42, N8.g43, N8.g44, N8.g45, N8.g46, N8.g47, N8.g50, N8.g51, N8.g52, N8.g53, N8.g54, N8.g55, N8.g56, N8.g57, N8.g60, N8.g61, N8.g62, N8.g63, N8.g64, N8.g65, N8.g66, N8.g67, N8.g70, N8.g71, N8.g72, N8.g73, N8.g74, N8.g75, N8.g76, N8.g77, oLoad1_run, oLoad_run, oStore_run, oOff_run, oIdxA_run, oIdxS_run, oNil_run, oLenL_run, oAllocZ_run, offV_ptr, nilV_ptr, lenV_slice, put_get, new_get, put_nx, put_ro, new_nx, new_ro, Nat.zero_add, stepK_freeG, stepK_readG, stepK_effG, guardK_tt, guardK_ft, guardK_ff, guardK_tf, seqG_run, lowV_agg, lowV_undef, isSame_nI, oSlice_run, oMinMax_run, oBSlice_run, oAppend_run, Option.map_none, Option.map_some, oLenS_run, oIdxStr_run, oSlStr_run, oExtr_run, pickV_t, pickV_f, notV_b, gtr0, gtr2, gtr3, gtr4, gtr5, gtr6, gtr7, gtr8, gtr9, gtr10, gtr11, gtr12, gtr13, gtr14, gtr15, gtr16, gtr17, gtr18, gtr19, gtr20, gtr21, gtr22, gtr23, gtr24, gtr35, gtr36, gtr37, gtr38, gtr39, gtr40, gtr41, gtr42, gtr43, gtr44, gtr45, gtr46, gtr47, gtr48, gtr49, gtr50, gtr51, gtr52, gtr53, gtr55, str2, str3, str4, str5, str6, str9, str10, str11, str12, str13, str14, str15, str16, str17, str18, str19, str20, str21, str22, str23, str24, str35, str36, str37, str38, str39, str40, str41, str42, str43, str44, str45, str46, str47, str48, str49, str50, str51, str52, str53, str54, str55]
        exact ⟨_, _, rfl, ⟨rfl, rfl, h.keep⟩, un⟩
      | some hi' =>
        cases vb : hexV b with
        | none =>
          rw [va] at j7 un
          rw [vb] at j8 un
          refine .inr ?_
          simp (disch := omega) only [j0, j4, j5, j7, j8, cmp_neg, cmp_pos, seqO_run, goOn_val, goOn_call, onCR_ret, seqD_run, thenR_normal, thenR_ret, thenR_exit, normD_run, retD_run, exitD_run, condD_run, isBn_bool, condK_true, condK_false, blockD_run, leaveB_normal, leaveB_same, leaveB_ret, d0_run, k_run, evs_nil, evs_cons, oMv_run, oNeg_run, oInt_run, oAddS_run, oSub_run, oMul_run, oQuo_run, oRem_run, oBits_run, oShl_run, oShr_run, oXorU_run, oCmp_run, oEq_run, oNot_run, oPick_run, oCallF_run, N8.g00, N8.g01, N8.g02, N8.g03, N8.g04, N8.g05, N8.g06, N8.g07, N8.g10, N8.g11, N8.g12, N8.g13, N8.g14, N8.g15, N8.g16, N8.g17, N8.g20, N8.g21, N8.g22, N8.g23, N8.g24, N8.g25, N8.g26, N8.g27, N8.g30, N8.g31, N8.g32, N8.g33, N8.g34, N8.g35, N8.g36, N8.g37, N8.g40, N8.g41, N8.g42, N8.g43, N8.g44, N8.g45, N8.g46, N8.g47, N8.g50, N8.g51, N8.g52, N8.g53, N8.g54, N8.g55, N8.g56, N8.g57, N8.g60, N8.g61, N8.g62, N8.g63, N8.g64, N8.g65, N8.g66, N8.g67, N8.g70, N8.g71, N8.g72, N8.g73, N8.g74, N8.g75, N8.g76, N8.g77, oLoad1_run, oLoad_run, oStore_run, oOff_run, oIdxA_run, oIdxS_run, oNil_run, oLenL_run, oAllocZ_run, offV_ptr, nilV_ptr, lenV_slice, put_get, new_get, put_nx, put_ro, new_nx, new_ro, Nat.zero_add, stepK_freeG, stepK_readG, stepK_effG, guardK_tt, guardK_ft, guardK_ff, guardK_tf, seqG_run, lowV_agg, lowV_undef, isSame_nI, oSlice_run, oMinMax_run, oBSlice_run, oAppend_run, Option.map_none, Option.map_some, oLenS_run, oIdxStr_run, oSlStr_run, oExtr_run, pickV_t, pickV_f, notV_b, gtr0, gtr2, gtr3, gtr4, gtr5, gtr6, gtr7, gtr8, gtr9, gtr10, gtr11, gtr12, gtr13, gtr14, gtr15, gtr16, gtr17, gtr18, gtr19, gtr20, gtr21, gtr22, gtr23, gtr24, gtr35, gtr36, gtr37, gtr38, gtr39, gtr40, gtr41, gtr42, gtr43, gtr44, gtr45, gtr46, gtr47, gtr48, gtr49, gtr50, gtr51, gtr52, gtr53, gtr55, str2, str3, str4, str5, str6, str9, str10, str11, str12, str13, str14, str15, str16, str17, str18, str19, str20, str21, str22, str23, str24, str35, str36, str37, str38, str39, str40, str41, str42, str43, str44, str45, str46, str47, str48, str49, str50, str51, str52, str53, str54, str55]
          exact ⟨_, _, rfl, ⟨rfl, rfl, h.keep⟩, un⟩
        | some lo =>
          rw [va] at j7 un
          rw [vb] at j8 un
          have b1 := hexV_lt va
          have b2 := hexV_lt vb
          have s1 := fun H => shlV_16 (h := hi') b1 H
          have s2 := fun H => lorV_16 (h := hi') (l := lo) b1 b2 H
          have s3 := fun H => intV_u8 (m := hi' * 16 + lo) (by omega) H
          have un : unesc (c :: r) = if plainB (UInt8.ofNat (hi' * 16 + lo)) = true then none else (unesc r').map (UInt8.ofNat (hi' * 16 + lo) :: ·) := un
          generalize hd : UInt8.ofNat (hi' * 16 + lo) = d at s3 un
          have pl := plain_run (fuel := fuel) (n := n + 2) hl3 hf3 d
          cases hp : plainB d with
          | true =>
            rw [hp] at pl
            simp only [hp, if_true] at un
            refine .inr ?_
            simp (disch := omega) only [j0, j4, j5, j7, j8, cmp_pos, s1, s2, s3, addV_i, pl, seqO_run, goOn_val, goOn_call, onCR_ret, seqD_run, thenR_normal, thenR_ret, thenR_exit, normD_run, retD_run, exitD_run, condD_run, isBn_bool, condK_true, condK_false, blockD_run, leaveB_normal, leaveB_same, leaveB_ret, d0_run, k_run, evs_nil, evs_cons, oMv_run, oNeg_run, oInt_run, oAddS_run, oSub_run, oMul_run, oQuo_run, oRem_run, oBits_run, oShl_run, oShr_run, oXorU_run, oCmp_run, oEq_run, oNot_run, oPick_run, oCallF_run, N8.g00, N8.g01, N8.g02, N8.g03, N8.g04, N8.g05, N8.g06, N8.g07, N8.g10, N8.g11, N8.g12, N8.g13, N8.g14, N8.g15, N8.g16, N8.g17, N8.g20, N8.g21, N8.g22, N8.g23, N8.g24, N8.g25, N8.g26, N8.g27, N8.g30, N8.g31, N8.g32, N8.g33, N8.g34, N8.g35, N8.g36, N8.g37, N8.g40, N8.g41, N8.g42, N8.g43, N8.g44, N8.g45, N8.g46, N8.g47, N8.g50, N8.g51, N8.g52, N8.g53, N8.g54, N8.g55, N8.g56, N8.g57, N8.g60, N8.g61, N8.g62, N8.g63, N8.g64, N8.g65, N8.g66, N8.g67, N8.g70, N8.g71, N8.g72, N8.g73, N8.g74, N8.g75, N8.g76, N8.g77, oLoad1_run, oLoad_run, oStore_run, oOff_run, oIdxA_run, oIdxS_run, oNil_run, oLenL_run, oAllocZ_run, offV_ptr, nilV_ptr, lenV_slice, put_get, new_get, put_nx, put_ro, new_nx, new_ro, Nat.zero_add, stepK_freeG, stepK_readG, stepK_effG, guardK_tt, guardK_ft, guardK_ff, guardK_tf, seqG_run, lowV_agg, lowV_undef, isSame_nI, oSlice_run, oMinMax_run, oBSlice_run, oAppend_run, Option.map_none, Option.map_some, oLenS_run, oIdxStr_run, oSlStr_run, oExtr_run, pickV_t, pickV_f, notV_b, gtr0, gtr2, gtr3, gtr4, gtr5, gtr6, gtr7, gtr8, gtr9, gtr10, gtr11, gtr12, gtr13, gtr14, gtr15, gtr16, gtr17, gtr18, gtr19, gtr20, gtr21, gtr22, gtr23, gtr24, gtr35, gtr36, gtr37, gtr38, gtr39, gtr40, gtr41, gtr42, gtr43, gtr44, gtr45, gtr46, gtr47, gtr48, gtr49, gtr50, gtr51, gtr52, gtr53, gtr55, str2, str3, str4, str5, str6, str9, str10, str11, str12, str13, str14, str15, str16, str17, str18, str19, str20, str21, str22, str23, str24, str35, str36, str37, str38, str39, str40, str41, str42, str43, str44, str45, str46, str47, str48, str49, str50, str51, str52, str53, str54, str55]
            exact ⟨_, _, rfl, ⟨rfl, rfl, h.keep⟩, un⟩
          | false =>
            rw [hp] at pl
            simp only [hp, Bool.false_eq_true, if_false] at un
            obtain ⟨H1, e1, b1', k1⟩ := write_byte (fuel := fuel) (n := n) hl1 hf1 hl2 hf2 hN h.bld (by omega) ro1 d
            have hr' : r'.length = s.length - (i + 3) := by rw [hr2] at hrl; simp at hrl; omega
            have e3 : s.length - r'.length = i + 3 := by omega
            refine .inl ⟨d, r', ?_⟩
            simp (disch := omega) only [j0, j4, j5, j7, j8, cmp_pos, s1, s2, s3, addV_i, pl, e1, Nat.add_assoc, Nat.reduceAdd, seqO_run, goOn_val, goOn_call, onCR_ret, seqD_run, thenR_normal, thenR_ret, thenR_exit, normD_run, retD_run, exitD_run, condD_run, isBn_bool, condK_true, condK_false, blockD_run, leaveB_normal, leaveB_same, leaveB_ret, d0_run, k_run, evs_nil, evs_cons, oMv_run, oNeg_run, oInt_run, oAddS_run, oSub_run, oMul_run, oQuo_run, oRem_run, oBits_run, oShl_run, oShr_run, oXorU_run, oCmp_run, oEq_run, oNot_run, oPick_run, oCallF_run, N8.g00, N8.g01, N8.g02, N8.g03, N8.g04, N8.g05, N8.g06, N8.g07, N8.g10, N8.g11, N8.g12, N8.g13, N8.g14, N8.g15, N8.g16, N8.g17, N8.g20, N8.g21, N8.g22, N8.g23, N8.g24, N8.g25, N8.g26, N8.g27, N8.g30, N8.g31, N8.g32, N8.g33, N8.g34, N8.g35, N8.g36, N8.g37, N8.g40, N8.g41, N8.g42, N8.g43, N8.g44, N8.g45, N8.g46, N8.g47, N8.g50, N8.g51, N8.g52, N8.g53, N8.g54, N8.g55, N8.g56, N8.g57, N8.g60, N8.g61, N8.g62, N8.g63, N8.g64, N8.g65, N8.g66, N8.g67, N8.g70, N8.g71, N8.g72, N8.g73, N8.g74, N8.g75, N8.g76, N8.g77, oLoad1_run, oLoad_run, oStore_run, oOff_run, oIdxA_run, oIdxS_run, oNil_run, oLenL_run, oAllocZ_run, offV_ptr, nilV_ptr, lenV_slice, put_get, new_get, put_nx, put_ro, new_nx, new_ro, Nat.zero_add, stepK_freeG, stepK_readG, stepK_effG, guardK_tt, guardK_ft, guardK_ff, guardK_tf, seqG_run, lowV_agg, lowV_undef, isSame_nI, oSlice_run, oMinMax_run, oBSlice_run, oAppend_run, Option.map_none, Option.map_some, oLenS_run, oIdxStr_run, oSlStr_run, oExtr_run, pickV_t, pickV_f, notV_b, gtr0, gtr2, gtr3, gtr4, gtr5, gtr6, gtr7, gtr8, gtr9, gtr10, gtr11, gtr12, gtr13, gtr14, gtr15, gtr16, gtr17, gtr18, gtr19, gtr20, gtr21, gtr22, gtr23, gtr24, gtr35, gtr36, gtr37, gtr38, gtr39, gtr40, gtr41, gtr42, gtr43, gtr44, gtr45, gtr46, gtr47, gtr48, gtr49, gtr50, gtr51, gtr52, gtr53, gtr55, str2, str3, str4, str5, str6, str9, str10, str11, str12, str13, str14, str15, str16, str17, str18, str19, str20, str21, str22, str23, str24, str35, str36, str37, str38, str39, str40, str41, str42, str43, str44, str45, str46, str47, str48, str49, str50, str51, str52, str53, str54, str55]
            refine ⟨_, _, rfl, ⟨j0, j4, by rw [e3]; rfl, h.keep.below k1 hsb, b1'⟩, un, by rw [hr2]; simp; omega, ?_⟩
            rw [e3]
            have := congrArg (List.drop 2) hr1
            rw [List.drop_drop, hr2] at this
            exact this
    · have d3 : decide (s.length ≤ i + 2) = true := decide_eq_true (by omega)
      have un : unesc (c :: r) = none := by
        match r, hrl with
        | [], _ => rw [hc]; exact unesc_37
        | [_], _ => rw [hc]; exact unesc_37a _
        | _ :: _ :: _, e => simp at e; omega
      refine .inr ?_
      simp (disch := omega) only [c6_l0, t0, t4, t5, lenSV_str, cmpV_lt, d1, ix, ec, d2, addV_i, cmpV_ge, d3, seqO_run, goOn_val, goOn_call, onCR_ret, seqD_run, thenR_normal, thenR_ret, thenR_exit, normD_run, retD_run, exitD_run, condD_run, isBn_bool, condK_true, condK_false, blockD_run, leaveB_normal, leaveB_same, leaveB_ret, d0_run, k_run, evs_nil, evs_cons, oMv_run, oNeg_run, oInt_run, oAddS_run, oSub_run, oMul_run, oQuo_run, oRem_run, oBits_run, oShl_run, oShr_run, oXorU_run, oCmp_run, oEq_run, oNot_run, oPick_run, oCallF_run, N8.g00, N8.g01, N8.g02, N8.g03, N8.g04, N8.g05, N8.g06, N8.g07, N8.g10, N8.g11, N8.g12, N8.g13, N8.g14, N8.g15, N8.g16, N8.g17, N8.g20, N8.g21, N8.g22, N8.g23, N8.g24, N8.g25, N8.g26, N8.g27, N8.g30, N8.g31, N8.g32, N8.g33, N8.g34, N8.g35, N8.g36, N8.g37, N8.g40, N8.g41, N8.g42, N8.g43, N8.g44, N8.g45, N8.g46, N8.g47, N8.g50, N8.g51, N8.g52, N8.g53, N8.g54, N8.g55, N8.g56, N8.g57, N8.g60, N8.g61, N8.g62, N8.g63, N8.g64, N8.g65, N8.g66, N8.g67, N8.g70, N8.g71, N8.g72, N8.g73, N8.g74, N8.g75, N8.g76, N8.g77, oLoad1_run, oLoad_run, oStore_run, oOff_run, oIdxA_run, oIdxS_run, oNil_run, oLenL_run, oAllocZ_run, offV_ptr, nilV_ptr, lenV_slice, put_get, new_get, put_nx, put_ro, new_nx, new_ro, Nat.zero_add, stepK_freeG, stepK_readG, stepK_effG, guardK_tt, guardK_ft, guardK_ff, guardK_tf, seqG_run, lowV_agg, lowV_undef, isSame_nI, oSlice_run, oMinMax_run, oBSlice_run, oAppend_run, Option.map_none, Option.map_some, oLenS_run, oIdxStr_run, oSlStr_run, oExtr_run, pickV_t, pickV_f, notV_b, gtr0, gtr2, gtr3, gtr4, gtr5, gtr6, gtr7, gtr8, gtr9, gtr10, gtr11, gtr12, gtr13, gtr14, gtr15, gtr16, gtr17, gtr18, gtr19, gtr20, gtr21, gtr22, gtr23, gtr24, gtr35, gtr36, gtr37, gtr38, gtr39, gtr40, gtr41, gtr42, gtr43, gtr44, gtr45, gtr46, gtr47, gtr48, gtr49, gtr50, gtr51, gtr52, gtr53, gtr55, str2, str3, str4, str5, str6, str9, str10, str11, str12, str13, str14, str15, str16, str17, str18, str19, str20, str21, str22, str23, str24, str35, str36, str37, str38, str39, str40, str41, str42, str43, str44, str45, str46, str47, str48, str49, str50, str51, str52, str53, str54, str55]
      exact ⟨_, _, rfl, ⟨rfl, rfl, h.keep⟩, un⟩
  · have hc : ¬ c = 37 := fun e => h37 (by rw [e]; rfl)
    have d2 : decide (c.toNat = 37) = false := decide_eq_false h37
    have pl := plain_run (fuel := fuel) (n := n + 2) hl3 hf3 c
    have un : unesc (c :: r) = if plainB c = true then (unesc r).map (c :: ·) else none := unesc_other hc r
    cases hp : plainB c with
    | true =>
      rw [hp] at pl
      simp only [hp, if_true] at un
      obtain ⟨H1, e1, b1', k1⟩ := write_byte (fuel := fuel) (n := n) hl1 hf1 hl2 hf2 hN h.bld (by omega) ro1 c
      have e3 : s.length - r.length = i + 1 := by omega
      refine .inl ⟨c, r, ?_⟩
      simp (disch := omega) only [c6_l0, t0, t4, t5, lenSV_str, cmpV_lt, d1, ix, ec, d2, pl, cond_true, cond_false, e1, addV_i, seqO_run, goOn_val, goOn_call, onCR_ret, seqD_run, thenR_normal, thenR_ret, thenR_exit, normD_run, retD_run, exitD_run, condD_run, isBn_bool, condK_true, condK_false, blockD_run, leaveB_normal, leaveB_same, leaveB_ret, d0_run, k_run, evs_nil, evs_cons, oMv_run, oNeg_run, oInt_run, oAddS_run, oSub_run, oMul_run, oQuo_run, oRem_run, oBits_run, oShl_run, oShr_run, oXorU_run, oCmp_run, oEq_run, oNot_run, oPick_run, oCallF_run, N8.g00, N8.g01, N8.g02, N8.g03, N8.g04, N8.g05, N8.g06, N8.g07, N8.g10, N8.g11, N8.g12, N8.g13, N8.g14, N8.g15, N8.g16, N8.g17, N8.g20, N8.g21, N8.g22, N8.g23, N8.g24, N8.g25, N8.g26, N8.g27, N8.g30, N8.g31, N8.g32, N8.g33, N8.g34, N8.g35, N8.g36, N8.g37, N8.g40, N8.g41, N8.g42, N8.g43, N8.g44, N8.g45, N8.g46, N8.g47, N8.g50, N8.g51, N8.g52, N8.g53, N8.g54, N8.g55, N8.g56, N8.g57, N8.g60, N8.g61, N8.g62, N8.g63, N8.g64, N8.g65, N8.g66, N8.g67, N8.g70, N8.g71, N8.g72, N8.g73, N8.g74, N8.g75, N8.g76, N8.g77, oLoad1_run, oLoad_run, oStore_run, oOff_run, oIdxA_run, oIdxS_run, oNil_run, oLenL_run, oAllocZ_run, offV_ptr, nilV_ptr, lenV_slice, put_get, new_get, put_nx, put_ro, new_nx, new_ro, Nat.zero_add, stepK_freeG, stepK_readG, stepK_effG, guardK_tt, guardK_ft, guardK_ff, guardK_tf, seqG_run, lowV_agg, lowV_undef, isSame_nI, oSlice_run, oMinMax_run, oBSlice_run, oAppend_run, Option.map_none, Option.map_some, oLenS_run, oIdxStr_run, oSlStr_run, oExtr_run, pickV_t, pickV_f, notV_b, gtr0, gtr2, gtr3, gtr4, gtr5, gtr6, gtr7, gtr8, gtr9, gtr10, gtr11, gtr12, gtr13, gtr14, gtr15, gtr16, gtr17, gtr18, gtr19, gtr20, gtr21, gtr22, gtr23, gtr24, gtr35, gtr36, gtr37, gtr38, gtr39, gtr40, gtr41, gtr42, gtr43, gtr44, gtr45, gtr46, gtr47, gtr48, gtr49, gtr50, gtr51, gtr52, gtr53, gtr55, str2, str3, str4, str5, str6, str9, str10, str11, str12, str13, str14, str15, str16, str17, str18, str19, str20, str21, str22, str23, str24, str35, str36, str37, str38, str39, str40, str41, str42, str43, str44, str45, str46, str47, str48, str49, str50, str51, str52, str53, str54, str55]
      exact ⟨_, _, rfl, ⟨t0, t4, by rw [e3]; rfl, h.keep.below k1 hsb, b1'⟩, un, Nat.le_refl _, by rw [e3]; exact hr1⟩
    | false =>
      rw [hp] at pl
      simp only [hp, Bool.false_eq_true, if_false] at un
      refine .inr ?_
      simp (disch := omega) only [c6_l0, t0, t4, t5, lenSV_str, cmpV_lt, d1, ix, ec, d2, pl, cond_true, cond_false, seqO_run, goOn_val, goOn_call, onCR_ret, seqD_run, thenR_normal, thenR_ret, thenR_exit, normD_run, retD_run, exitD_run, condD_run, isBn_bool, condK_true, condK_false, blockD_run, leaveB_normal, leaveB_same, leaveB_ret, d0_run, k_run, evs_nil, evs_cons, oMv_run, oNeg_run, oInt_run, oAddS_run, oSub_run, oMul_run, oQuo_run, oRem_run, oBits_run, oShl_run, oShr_run, oXorU_run, oCmp_run, oEq_run, oNot_run, oPick_run, oCallF_run, N8.g00, N8.g01, N8.g02, N8.g03, N8.g04, N8.g05, N8.g06, N8.g07, N8.g10, N8.g11, N8.g12, N8.g13, N8.g14, N8.g15, N8.g16, N8.g17, N8.g20, N8.g21, N8.g22, N8.g23, N8.g24, N8.g25, N8.g26, N8.g27, N8.g30, N8.g31, N8.g32, N8.g33, N8.g34, N8.g35, N8.g36, N8.g37, N8.g40, N8.g41, N8.g42, N8.g43, N8.g44, N8.g45, N8.g46, N8.g47, N8.g50, N8.g51, N8.g52, N8.g53, N8.g54, N8.g55, N8.g56, N8.g57, N8.g60, N8.g61, N8.g62, N8.g63, N8.g64, N8.g65, N8.g66, N8.g67, N8.g70, N8.g71, N8.g72, N8.g73, N8.g74, N8.g75, N8.g76, N8.g77, oLoad1_run, oLoad_run, oStore_run, oOff_run, oIdxA_run, oIdxS_run, oNil_run, oLenL_run, oAllocZ_run, offV_ptr, nilV_ptr, lenV_slice, put_get, new_get, put_nx, put_ro, new_nx, new_ro, Nat.zero_add, stepK_freeG, stepK_readG, stepK_effG, guardK_tt, guardK_ft, guardK_ff, guardK_tf, seqG_run, lowV_agg, lowV_undef, isSame_nI, oSlice_run, oMinMax_run, oBSlice_run, oAppend_run, Option.map_none, Option.map_some, oLenS_run, oIdxStr_run, oSlStr_run, oExtr_run, pickV_t, pickV_f, notV_b, gtr0, gtr2, gtr3, gtr4, gtr5, gtr6, gtr7, gtr8, gtr9, gtr10, gtr11, gtr12, gtr13, gtr14, gtr15, gtr16, gtr17, gtr18, gtr19, gtr20, gtr21, gtr22, gtr23, gtr24, gtr35, gtr36, gtr37, gtr38, gtr39, gtr40, gtr41, gtr42, gtr43, gtr44, gtr45, gtr46, gtr47, gtr48, gtr49, gtr50, gtr51, gtr52, gtr53, gtr55, str2, str3, str4, str5, str6, str9, str10, str11, str12, str13, str14, str15, str16, str17, str18, str19, str20, str21, str22, str23, str24, str35, str36, str37, str38, str39, str40, str41, str42, str43, str44, str45, str46, str47, str48, str49, str50, str51, str52, str53, str54, str55]
      exact ⟨_, _, rfl, ⟨rfl, rfl, h.keep⟩, un⟩
end
end Go.AI

namespace Go.AI
open Go
noncomputable section
variable {lib : Nat → List AV → Heap → Option CR} {fs : T CF} {fuel : Nat}

variable {yld : Nat → List AV → Heap → CR} {rng : AV → (List AV → Heap → CR) → TM → Heap → X → Res}
theorem ul_last {s : List UInt8} {sb : Nat} {H0 : Heap} {o : List UInt8} (c : Ctx) (x : X) (tm : TM) (H : Heap) (h : UL s sb H0 s.length o tm H) :
    ∃ tm' H', c6_l0 c tm H x = .ok (.exit 0) tm' H' x ∧ UL s sb H0 s.length o tm' H' := by
  have t0 := h.t0; have t4 := h.t4; have t5 := h.t5
  simp only [gtr0, gtr4, gtr5] at t0 t4 t5
  have d1 : decide (s.length < s.length) = false := decide_eq_false (Nat.lt_irrefl _)
  simp (disch := omega) only [c6_l0, t0, t5, lenSV_str, cmpV_lt, d1, seqO_run, goOn_val, goOn_call, onCR_ret, seqD_run, thenR_normal, thenR_ret, thenR_exit, normD_run, retD_run, exitD_run, condD_run, isBn_bool, condK_true, condK_false, blockD_run, leaveB_normal, leaveB_same, leaveB_ret, d0_run, k_run, evs_nil, evs_cons, oMv_run, oNeg_run, oInt_run, oAddS_run, oSub_run, oMul_run, oQuo_run, oRem_run, oBits_run, oShl_run, oShr_run, oXorU_run, oCmp_run, oEq_run, oNot_run, oPick_run, oCallF_run, N8.g00, N8.g01, N8.g02, N8.g03, N8.g04, N8.g05, N8.g06, N8.g07, N8.g10, N8.g11, N8.g12, N8.g13, N8.g14, N8.g15, N8.g16, N8.g17, N8.g20, N8.g21, N8.g22, N8.g23, N8.g24, N8.g25, N8.g26, N8.g27, N8.g30, N8.g31, N8.g32, N8.g33, N8.g34, N8.g35, N8.g36, N8.g37, N8.g40, N8.g41, N8.g42, N8.g43, N8.g44, N8.g45, N8.g46, N8.g47, N8.g50, N8.g51, N8.g52, N8.g53, N8.g54, N8.g55, N8.g56, N8.g57, N8.g60, N8.g61, N8.g62, N8.g63, N8.g64, N8.g65, N8.g66, N8.g67, N8.g70, N8.g71, N8.g72, N8.g73, N8.g74, N8.g75, N8.g76, N8.g77, oLoad1_run, oLoad_run, oStore_run, oOff_run, oIdxA_run, oIdxS_run, oNil_run, oLenL_run, oAllocZ_run, offV_ptr, nilV_ptr, lenV_slice, put_get, new_get, put_nx, put_ro, new_nx, new_ro, Nat.zero_add, stepK_freeG, stepK_readG, stepK_effG, guardK_tt, guardK_ft, guardK_ff, guardK_tf, seqG_run, lowV_agg, lowV_undef, isSame_nI, oSlice_run, oMinMax_run, oBSlice_run, oAppend_run, Option.map_none, Option.map_some, oLenS_run, oIdxStr_run, oSlStr_run, oExtr_run, pickV_t, pickV_f, notV_b, gtr0, gtr2, gtr3, gtr4, gtr5, gtr6, gtr7, gtr8, gtr9, gtr10, gtr11, gtr12, gtr13, gtr14, gtr15, gtr16, gtr17, gtr18, gtr19, gtr20, gtr21, gtr22, gtr23, gtr24, gtr35, gtr36, gtr37, gtr38, gtr39, gtr40, gtr41, gtr42, gtr43, gtr44, gtr45, gtr46, gtr47, gtr48, gtr49, gtr50, gtr51, gtr52, gtr53, gtr55, str2, str3, str4, str5, str6, str9, str10, str11, str12, str13, str14, str15, str16, str17, str18, str19, str20, str21, str22, str23, str24, str35, str36, str37, str38, str39, str40, str41, str42, str43, str44, str45, str46, str47, str48, str49, str50, str51, str52, str53, str54, str55]
  exact ⟨_, _, rfl, t0, t4, t5, h.keep, h.bld⟩
theorem une_loop {n : Nat} (hl1 : ∀ l H, lib 27 l H = none) (hf1 : fs.get 27 = some c27) (hl2 : ∀ l H, lib 15 l H = none) (hf2 : fs.get 15 = some c15) (hl3 : ∀ l H, lib 14 l H = none) (hf3 : fs.get 14 = some c14) (hl4 : ∀ l H, lib 16 l H = none) (hf4 : fs.get 16 = some c16) (hl5 : ∀ l H, lib 6 l H = none) (hf5 : fs.get 6 = some c6) (hl6 : ∀ l H, lib 17 l H = none) (hf6 : fs.get 17 = some c17) (hl7 : ∀ l H, lib 28 l H = none) (hf7 : fs.get 28 = some c28) (hN : ∀ x H, lib 49 [x] H = some (.ret x H)) (hI : ∀ (s : List UInt8) (x : UInt8) H, lib 50 [.str s, u8V x] H = some (.ret (.int .i64 (idxByte x.toNat s 0)) H)) {s : List UInt8} {sb : Nat} {H0 : Heap} (hs : s.length ≤ 10000000) (hsb : H0.nx ≤ sb) (hro : H0.ro ≤ H0.nx) (x : X) : ∀ (m F : Nat) (r : List UInt8) (i : Nat) (o : List UInt8) (tm : TM) (H : Heap),
    r.length ≤ m → m < F → s.drop i = r → i + r.length = s.length → o.length ≤ i → UL s sb H0 i o tm H →
    (∃ u tm' H', unesc r = some u ∧ loopN (c6_l0 ⟨callN lib fs fuel (n + 3), yld, rng, fuel, false⟩) F tm H x = .ok (.exit 0) tm' H' x ∧ UL s sb H0 s.length (o ++ u) tm' H')
    ∨ (∃ tm' H', unesc r = none ∧ loopN (c6_l0 ⟨callN lib fs fuel (n + 3), yld, rng, fuel, false⟩) F tm H x = .ok .ret tm' H' x ∧ UF H0 tm' H')
  | m, F, [], i, o, tm, H, _, hF, _, hi, _, h => by
    obtain ⟨F, rfl⟩ : ∃ G, F = G + 1 := ⟨F - 1, by omega⟩
    have hi : i = s.length := by simpa using hi
    subst hi
    obtain ⟨tm', H', e, h'⟩ := ul_last ⟨callN lib fs fuel (n + 3), yld, rng, fuel, false⟩ x tm H h
    refine .inl ⟨[], tm', H', rfl, ?_, by rw [List.append_nil]; exact h'⟩
    rw [loopN_succ, e]; rfl
  | 0, F, c :: r, i, o, tm, H, hm, _, _, _, _, _ => by simp at hm
  | m + 1, F, c :: r, i, o, tm, H, hm, hF, hd, hi, ho, h => by
    obtain ⟨F, rfl⟩ : ∃ G, F = G + 1 := ⟨F - 1, by omega⟩
    have hm : r.length ≤ m := by simpa using hm
    rcases ul_step (n := n) (yld := yld) (rng := rng) hl1 hf1 hl2 hf2 hl3 hf3 hl4 hf4 hl5 hf5 hl6 hf6 hl7 hf7 hN hI hs hsb hro x hd ho h with ⟨d, r', tm1, H1, e1, h1, u1, l1, d1⟩ | ⟨tm1, H1, e1, h1, u1⟩
    · have l2 : r'.length ≤ s.length := by simp at hi; omega
      have l3 : i + 1 ≤ s.length - r'.length := by simp at hi; omega
      rcases une_loop hl1 hf1 hl2 hf2 hl3 hf3 hl4 hf4 hl5 hf5 hl6 hf6 hl7 hf7 hN hI hs hsb hro x m F r' (s.length - r'.length) (o ++ [d]) tm1 H1 (by omega) (by omega) d1 (by omega) (by simp; omega) h1 with ⟨u, tm2, H2, e2, e3, h2⟩ | ⟨tm2, H2, e2, e3, h2⟩
      · refine .inl ⟨d :: u, tm2, H2, by rw [u1, e2]; rfl, ?_, ?_⟩
        · rw [loopN_succ, e1]; exact e3
        · rw [List.append_assoc] at h2; exact h2
      · refine .inr ⟨tm2, H2, by rw [u1, e2]; rfl, ?_, h2⟩
        rw [loopN_succ, e1]; exact e3
    · refine .inr ⟨tm1, H1, u1, ?_, h1⟩
      rw [loopN_succ, e1]; rfl
def uneV (r : Option (List UInt8)) : AV := match r with | some u => .tup [.str u, .bool true] | none => .tup [.str [], .bool false]
theorem results_two (f g : EvF) (tm : TM) (H : Heap) : results [(f, none), (g, none)] tm H = .ret (.tup [f tm, g tm]) H := rfl
theorem unesc_len : ∀ {s u : List UInt8}, unesc s = some u → u.length ≤ s.length := by
  intro s
  fun_induction unesc s
  all_goals intro u hu
  all_goals first | (cases hu; done) | skip
  · cases hu; simp
  · rename_i ih
    obtain ⟨v, hv, rfl⟩ := Option.map_eq_some_iff.1 hu
    have := ih hv
    simp only [List.length_cons]
    omega
  · rename_i ih
    obtain ⟨v, hv, rfl⟩ := Option.map_eq_some_iff.1 hu
    have := ih hv
    simp only [List.length_cons]
    omega
/-- a text that was escaped -/
theorem une_run {n : Nat} (hl1 : ∀ l H, lib 27 l H = none) (hf1 : fs.get 27 = some c27) (hl2 : ∀ l H, lib 15 l H = none) (hf2 : fs.get 15 = some c15) (hl3 : ∀ l H, lib 14 l H = none) (hf3 : fs.get 14 = some c14) (hl4 : ∀ l H, lib 16 l H = none) (hf4 : fs.get 16 = some c16) (hl5 : ∀ l H, lib 6 l H = none) (hf5 : fs.get 6 = some c6) (hl6 : ∀ l H, lib 17 l H = none) (hf6 : fs.get 17 = some c17) (hl7 : ∀ l H, lib 28 l H = none) (hf7 : fs.get 28 = some c28) (hN : ∀ x H, lib 49 [x] H = some (.ret x H)) (hI : ∀ (s : List UInt8) (x : UInt8) H, lib 50 [.str s, u8V x] H = some (.ret (.int .i64 (idxByte x.toNat s 0)) H)) {s : List UInt8} (hs : s.length ≤ 10000000) (hF : s.length < fuel) {H : Heap} (hro : H.ro ≤ H.nx) :
    ∃ H', callN lib fs fuel (n + 4) 6 [.str s] H = .ret (uneV (unesc s)) H' ∧ Keep H H' [] := by
  rw [callN_fn (hl5 _ _) hf5]
  have al : ∀ tm, oAlloc 56 [.nilp, .nils] tm H = .val (.ptr H.nx 0) (H.newRow 56 1 [.nilp, .nils] true) := fun tm => oAlloc_run _ _ (by decide) tm H
  generalize ha : H.newRow 56 1 [.nilp, .nils] true = Ha at al
  have nxa : Ha.nx = H.nx + 1 := by rw [← ha]; rfl
  have ka : Keep H Ha [] := by rw [← ha]; exact Keep.new H _ []
  have ga : Ha.t.get H.nx = some (.row ⟨56, 1, lenL [AV.nilp, .nils], T.ofList [AV.nilp, .nils], .unk, 0, false, true, true⟩) := by rw [← ha, newRow_eq, new_get, if_pos rfl]
  have b0 : Bld Ha H.nx [] := ⟨by omega, _, .nilp, .nils, ⟨ga, rfl, rfl, rfl, rfl, rfl, Cells.new .., by rw [ka.ro]; exact hro⟩, rfl, .inl ⟨rfl, rfl⟩, .inl ⟨rfl, rfl⟩⟩
  simp only [c6, argsT_1, loopD_run, al, seqO_run, goOn_val, goOn_call, onCR_ret, seqD_run, thenR_normal, thenR_ret, thenR_exit, normD_run, retD_run, exitD_run, condD_run, isBn_bool, condK_true, condK_false, blockD_run, leaveB_normal, leaveB_same, leaveB_ret, d0_run, k_run, evs_nil, evs_cons, oMv_run, oNeg_run, oInt_run, oAddS_run, oSub_run, oMul_run, oQuo_run, oRem_run, oBits_run, oShl_run, oShr_run, oXorU_run, oCmp_run, oEq_run, oNot_run, oPick_run, oCallF_run, N8.g00, N8.g01, N8.g02, N8.g03, N8.g04, N8.g05, N8.g06, N8.g07, N8.g10, N8.g11, N8.g12, N8.g13, N8.g14, N8.g15, N8.g16, N8.g17, N8.g20, N8.g21, N8.g22, N8.g23, N8.g24, N8.g25, N8.g26, N8.g27, N8.g30, N8.g31, N8.g32, N8.g33, N8.g34, N8.g35, N8.g36, N8.g37, N8.g40, N8.g41, N8.g42, N8.g43, N8.g44, N8.g45, N8.g46, N8.g47, N8.g50, N8.g51, N8.g52, N8.g53, N8.g54, N8.g55, N8.g56, N8.g57, N8.g60, N8.g61, N8.g62, N8.g63, N8.g64, N8.g65, N8.g66, N8.g67, N8.g70, N8.g71, N8.g72, N8.g73, N8.g74, N8.g75, N8.g76, N8.g77, oLoad1_run, oLoad_run, oStore_run, oOff_run, oIdxA_run, oIdxS_run, oNil_run, oLenL_run, oAllocZ_run, offV_ptr, nilV_ptr, lenV_slice, put_get, new_get, put_nx, put_ro, new_nx, new_ro, Nat.zero_add, stepK_freeG, stepK_readG, stepK_effG, guardK_tt, guardK_ft, guardK_ff, guardK_tf, seqG_run, lowV_agg, lowV_undef, isSame_nI, oSlice_run, oMinMax_run, oBSlice_run, oAppend_run, Option.map_none, Option.map_some, oLenS_run, oIdxStr_run, oSlStr_run, oExtr_run, pickV_t, pickV_f, notV_b, gtr0, gtr2, gtr3, gtr4, gtr5, gtr6, gtr7, gtr8, gtr9, gtr10, gtr11, gtr12, gtr13, gtr14, gtr15, gtr16, gtr17, gtr18, gtr19, gtr20, gtr21, gtr22, gtr23, gtr24, gtr35, gtr36, gtr37, gtr38, gtr39, gtr40, gtr41, gtr42, gtr43, gtr44, gtr45, gtr46, gtr47, gtr48, gtr49, gtr50, gtr51, gtr52, gtr53, gtr55, str2, str3, str4, str5, str6, str9, str10, str11, str12, str13, str14, str15, str16, str17, str18, str19, str20, str21, str22, str23, str24, str35, str36, str37, str38, str39, str40, str41, str42, str43, str44, str45, str46, str47, str48, str49, str50, str51, str52, str53, str54, str55, str0, gtr0]
  generalize hL : loopN (c6_l0 _) fuel _ _ _ = L
  have key : (∃ u tm' H', unesc s = some u ∧ L = .ok (.exit 0) tm' H' ⟨[], none⟩ ∧ UL s H.nx H s.length ([] ++ u) tm' H') ∨ (∃ tm' H', unesc s = none ∧ L = .ok .ret tm' H' ⟨[], none⟩ ∧ UF H tm' H') := by
    rw [← hL]
    exact une_loop (n := n) hl1 hf1 hl2 hf2 hl3 hf3 hl4 hf4 hl5 hf5 hl6 hf6 hl7 hf7 hN hI hs (Nat.le_refl _) hro ⟨[], none⟩ s.length fuel s 0 [] _ Ha (Nat.le_refl _) hF rfl (Nat.zero_add _) (Nat.le_refl _) ⟨rfl, rfl, rfl, ka, b0⟩
  rcases key with ⟨u, tm1, H1, e1, rfl, z⟩ | ⟨tm1, H1, e1, rfl, z⟩
  · have z4 := z.t4
    simp only [gtr4] at z4
    have zb := z.bld
    rw [List.nil_append] at zb
    obtain ⟨H2, e2, k2⟩ := string_run (fuel := fuel) (n := n + 2) hl4 hf4 zb (by have := unesc_len e1; omega)
    simp only [leaveB_same, thenR_normal, z4, e2, seqO_run, goOn_val, goOn_call, onCR_ret, seqD_run, thenR_normal, thenR_ret, thenR_exit, normD_run, retD_run, exitD_run, condD_run, isBn_bool, condK_true, condK_false, blockD_run, leaveB_normal, leaveB_same, leaveB_ret, d0_run, k_run, evs_nil, evs_cons, oMv_run, oNeg_run, oInt_run, oAddS_run, oSub_run, oMul_run, oQuo_run, oRem_run, oBits_run, oShl_run, oShr_run, oXorU_run, oCmp_run, oEq_run, oNot_run, oPick_run, oCallF_run, N8.g00, N8.g01, N8.g02, N8.g03, N8.g04, N8.g05, N8.g06, N8.g07, N8.g10, N8.g11, N8.g12, N8.g13, N8.g14, N8.g15, N8.g16, N8.g17, N8.g20, N8.g21, N8.g22, N8.g23, N8.g24, N8.g25, N8.g26, N8.g27, N8.g30, N8.g31, N8.g32, N8.g33, N8.g34, N8.g35, N8.g36, N8.g37, N8.g40, N8.g41, N8.g42, N8.g43, N8.g44, N8.g45, N8.g46, N8.g47, N8.g50, N8.g51, N8.g52, N8.g53, N8.g54, N8.g55, N8.g56, N8.g57, N8.g60, N8.g61, N8.g62, N8.g63, N8.g64, N8.g65, N8.g66, N8.g67, N8.g70, N8.g71, N8.g72, N8.g73, N8.g74, N8.g75, N8.g76, N8.g77, oLoad1_run, oLoad_run, oStore_run, oOff_run, oIdxA_run, oIdxS_run, oNil_run, oLenL_run, oAllocZ_run, offV_ptr, nilV_ptr, lenV_slice, put_get, new_get, put_nx, put_ro, new_nx, new_ro, Nat.zero_add, stepK_freeG, stepK_readG, stepK_effG, guardK_tt, guardK_ft, guardK_ff, guardK_tf, seqG_run, lowV_agg, lowV_undef, isSame_nI, oSlice_run, oMinMax_run, oBSlice_run, oAppend_run, Option.map_none, Option.map_some, oLenS_run, oIdxStr_run, oSlStr_run, oExtr_run, pickV_t, pickV_f, notV_b, gtr0, gtr2, gtr3, gtr4, gtr5, gtr6, gtr7, gtr8, gtr9, gtr10, gtr11, gtr12, gtr13, gtr14, gtr15, gtr16, gtr17, gtr18, gtr19, gtr20, gtr21, gtr22, gtr23, gtr24, gtr35, gtr36, gtr37, gtr38, gtr39, gtr40, gtr41, gtr42, gtr43, gtr44, gtr45, gtr46, gtr47, gtr48, gtr49, gtr50, gtr51, gtr52, gtr53, gtr55, str2, str3, str4, str5, str6, str9, str10, str11, str12, str13, str14, str15, str16, str17, str18, str19, str20, str21, str22, str23, str24, str35, str36, str37, str38, str39, str40, str41, str42, str43, str44, str45, str46, str47, str48, str49, str50, str51, str52, str53, str54, str55]
    simp only [outF_ret, results_two, e1]
    exact ⟨H2, rfl, z.keep.below k2 (Nat.le_refl _)⟩
  · have z2 := z.t2; have z3 := z.t3
    simp only [leaveB_ret, thenR_ret, outF_ret, results_two, z2, z3, e1, seqO_run, goOn_val, goOn_call, onCR_ret, seqD_run, thenR_normal, thenR_ret, thenR_exit, normD_run, retD_run, exitD_run, condD_run, isBn_bool, condK_true, condK_false, blockD_run, leaveB_normal, leaveB_same, leaveB_ret, d0_run, k_run, evs_nil, evs_cons, oMv_run, oNeg_run, oInt_run, oAddS_run, oSub_run, oMul_run, oQuo_run, oRem_run, oBits_run, oShl_run, oShr_run, oXorU_run, oCmp_run, oEq_run, oNot_run, oPick_run, oCallF_run, N8.g00, N8.g01, N8.g02, N8.g03, N8.g04, N8.g05, N8.g06, N8.g07, N8.g10, N8.g11, N8.g12, N8.g13, N8.g14, N8.g15, N8.g16, N8.g17, N8.g20, N8.g21, N8.g22, N8.g23, N8.g24, N8.g25, N8.g26, N8.g27, N8.g30, N8.g31, N8.g32, N8.g33, N8.g34, N8.g35, N8.g36, N8.g37, N8.g40, N8.g41, N8.g42, N8.g43, N8.g44, N8.g45, N8.g46, N8.g47, N8.g50, N8.g51, N8.g52, N8.g53, N8.g54, N8.g55, N8.g56, N8.g57, N8.g60, N8.g61, N8.g62, N8.g63, N8.g64, N8.g65, N8.g66, N8.g67, N8.g70, N8.g71, N8.g72, N8.g73, N8.g74, N8.g75, N8.g76, N8.g77, oLoad1_run, oLoad_run, oStore_run, oOff_run, oIdxA_run, oIdxS_run, oNil_run, oLenL_run, oAllocZ_run, offV_ptr, nilV_ptr, lenV_slice, put_get, new_get, put_nx, put_ro, new_nx, new_ro, Nat.zero_add, stepK_freeG, stepK_readG, stepK_effG, guardK_tt, guardK_ft, guardK_ff, guardK_tf, seqG_run, lowV_agg, lowV_undef, isSame_nI, oSlice_run, oMinMax_run, oBSlice_run, oAppend_run, Option.map_none, Option.map_some, oLenS_run, oIdxStr_run, oSlStr_run, oExtr_run, pickV_t, pickV_f, notV_b, gtr0, gtr2, gtr3, gtr4, gtr5, gtr6, gtr7, gtr8, gtr9, gtr10, gtr11, gtr12, gtr13, gtr14, gtr15, gtr16, gtr17, gtr18, gtr19, gtr20, gtr21, gtr22, gtr23, gtr24, gtr35, gtr36, gtr37, gtr38, gtr39, gtr40, gtr41, gtr42, gtr43, gtr44, gtr45, gtr46, gtr47, gtr48, gtr49, gtr50, gtr51, gtr52, gtr53, gtr55, str2, str3, str4, str5, str6, str9, str10, str11, str12, str13, str14, str15, str16, str17, str18, str19, str20, str21, str22, str23, str24, str35, str36, str37, str38, str39, str40, str41, str42, str43, str44, str45, str46, str47, str48, str49, str50, str51, str52, str53, str54, str55]
    exact ⟨H1, rfl, z.keep⟩
end
end Go.AI

namespace Go.AI
open Go
noncomputable section
variable {lib : Nat → List AV → Heap → Option CR} {fs : T CF} {fuel : Nat}

noncomputable def callFV (P : Program) (a : AV) (args : List AV) (H : Heap) : OR := match a with
  | .func f p q => .oth (.call f (p ++ (args ++ q)) H)
  | .meth n r => onIface r .fail fun u v => methodA P n u fun g => .oth (.call g (v :: args) H)
  | .yield b => .oth (.yield b args H)
  | _ => .fail
theorem oCall_run (x : EvF) (P : Program) (args : List EvF) (tm : TM) (H : Heap) : oCall x P args tm H = callFV P (x tm) (evs tm args) H := rfl
theorem callFV_func (P : Program) (f : Nat) (args : List AV) (H : Heap) : callFV P (.func f [] []) args H = .oth (.call f args H) := by
  show OR.oth (.call f ([] ++ (args ++ [])) H) = _
  rw [List.append_nil]; rfl
theorem oRangeS_run (x : EvF) (tm : TM) (H : Heap) (s : List UInt8) (h : x tm = .str s) : oRangeS x tm H = .val (.ptr H.nx 0) (H.new (.siter s 0)) := by
  show onStr (x tm) _ = _
  rw [h]; rfl
noncomputable def rangeSV (a : AV) (H : Heap) : OR := onStr a fun s => .val (.ptr H.nx 0) (H.new (.siter s 0))
theorem oRangeS_run' (x : EvF) (tm : TM) (H : Heap) : oRangeS x tm H = rangeSV (x tm) H := rfl
noncomputable def nextV (a : AV) (H : Heap) : OR := onPtr a fun b o => onIf (Nat.beq o 0) <| onIf (Nat.ble H.ro b) <| onObj H b fun o => asSiter o fun s pos =>
  cond (Nat.ble (Nat.succ pos) (lenL s)) (match Utf8.decode ⟨s.toArray⟩ pos with | (c, w) => .val (.tup [.bool true, .int .i64 (.ofNat pos), .int .i32 c]) (H.put b (.siter s (Nat.add pos w)))) (.val (.tup [.bool false]) H)
theorem oNext_run (x : EvF) (tm : TM) (H : Heap) : oNext x tm H = nextV (x tm) H := rfl
theorem decode_low {s : List UInt8} {i : Nat} (h : i < s.length) (hc : (s.getD i 0).toNat < 128) : Utf8.decode ⟨s.toArray⟩ i = ((s.getD i 0).toNat, 1) := by
  have e : ((⟨s.toArray⟩ : ByteArray).get! (i + 0)).toNat = (s.getD i 0).toNat := by
    show (s.toArray[i + 0]!).toNat = _
    rw [Nat.add_zero, List.getElem!_toArray, List.getD_eq_getElem?_getD, List.getElem!_eq_getElem?_getD]
    rfl
  unfold Utf8.decode
  simp only [e]
  rw [if_pos hc]
theorem nextV_low {H : Heap} {b : Nat} {s : List UInt8} {i : Nat} (hb : H.t.get b = some (.siter s i)) (hro : H.ro ≤ b) (h : i < s.length) (hc : (s.getD i 0).toNat < 128) :
    nextV (.ptr b 0) H = .val (.tup [.bool true, nI .i64 i, nI .i32 (s.getD i 0).toNat]) (H.put b (.siter s (i + 1))) := by
  show onIf (Nat.beq 0 0) (onIf (Nat.ble H.ro b) (onObj H b _)) = _
  rw [Nat.ble_eq_true_of_le hro]
  unfold onObj
  rw [hb]
  show cond (Nat.ble (Nat.succ i) (lenL s)) (match Utf8.decode ⟨s.toArray⟩ i with | (c, w) => OR.val (.tup [.bool true, .int .i64 (.ofNat i), .int .i32 c]) (H.put b (.siter s (Nat.add i w)))) _ = _
  rw [lenL_eq, Nat.ble_eq_true_of_le (show Nat.succ i ≤ s.length from h), decode_low h hc]
  rfl
theorem nextV_end {H : Heap} {b : Nat} {s : List UInt8} {i : Nat} (hb : H.t.get b = some (.siter s i)) (hro : H.ro ≤ b) (h : s.length ≤ i) : nextV (.ptr b 0) H = .val (.tup [.bool false]) H := by
  show onIf (Nat.beq 0 0) (onIf (Nat.ble H.ro b) (onObj H b _)) = _
  rw [Nat.ble_eq_true_of_le hro]
  unfold onObj
  rw [hb]
  show cond (Nat.ble (Nat.succ i) (lenL s)) _ (OR.val (.tup [.bool false]) H) = _
  have : Nat.ble (Nat.succ i) (lenL s) = false := by
    rw [lenL_eq]
    cases e : Nat.ble (Nat.succ i) s.length with
    | false => rfl
    | true => have := Nat.le_of_ble_eq_true e; omega
  rw [this]; rfl
theorem odd_run {n : Nat} (hl : ∀ l H, lib 8 l H = none) (hf : fs.get 8 = some c8) {k : Nat} (h1 : 32 ≤ k) (h2 : k ≤ 126) (H : Heap) : callN lib fs fuel (n + 1) 8 [nI .i32 k] H = .ret (.bool false) H := by
  rw [callN_fn (hl _ _) hf]
  have d1 : decide (k < 32) = false := decide_eq_false (by omega)
  have d2 : decide (126 < k) = false := decide_eq_false (by omega)
  simp only [c8, argsT_1, cmpV_lt, cmpV_gt, d1, d2, seqO_run, goOn_val, goOn_call, onCR_ret, seqD_run, thenR_normal, thenR_ret, thenR_exit, normD_run, retD_run, exitD_run, condD_run, isBn_bool, condK_true, condK_false, blockD_run, leaveB_normal, leaveB_same, leaveB_ret, d0_run, k_run, evs_nil, evs_cons, oMv_run, oNeg_run, oInt_run, oAddS_run, oSub_run, oMul_run, oQuo_run, oRem_run, oBits_run, oShl_run, oShr_run, oXorU_run, oCmp_run, oEq_run, oNot_run, oPick_run, oCallF_run, N8.g00, N8.g01, N8.g02, N8.g03, N8.g04, N8.g05, N8.g06, N8.g07, N8.g10, N8.g11, N8.g12, N8.g13, N8.g14, N8.g15, N8.g16, N8.g17, N8.g20, N8.g21, N8.g22, N8.g23, N8.g24, N8.g25, N8.g26, N8.g27, N8.g30, N8.g31, N8.g32, N8.g33, N8.g34, N8.g35, N8.g36, N8.g37, N8.g40, N8.g41, N8.g42, N8.g43, N8.g44, N8.g45, N8.g46, N8.g47, N8.g50, N8.g51, N8.g52, N8.g53, N8.g54, N8.g55, N8.g56, N8.g57, N8.g60, N8.g61, N8.g62, N8.g63, N8.g64, N8.g65, N8.g66, N8.g67, N8.g70, N8.g71, N8.g72, N8.g73, N8.g74, N8.g75, N8.g76, N8.g77, oLoad1_run, oLoad_run, oStore_run, oOff_run, oIdxA_run, oIdxS_run, oNil_run, oLenL_run, oAllocZ_run, offV_ptr, nilV_ptr, lenV_slice, put_get, new_get, put_nx, put_ro, new_nx, new_ro, Nat.zero_add, stepK_freeG, stepK_readG, stepK_effG, guardK_tt, guardK_ft, guardK_ff, guardK_tf, seqG_run, lowV_agg, lowV_undef, isSame_nI, oSlice_run, oMinMax_run, oBSlice_run, oAppend_run, Option.map_none, Option.map_some, oLenS_run, oIdxStr_run, oSlStr_run, oExtr_run, pickV_t, pickV_f, notV_b, gtr0, gtr2, gtr3, gtr4, gtr5, gtr6, gtr7, gtr8, str2, str3, str4, str5, str6, str7, str8, str0, gtr0]
  rfl
structure RL (s : List UInt8) (ib : Nat) (H0 : Heap) (i : Nat) (tm : TM) (H : Heap) : Prop where
  t1 : gt1 tm = .func 8 [] []
  t2 : gt2 tm = .bool true
  t10 : gt10 tm = .ptr ib 0
  at_ : H.t.get ib = some (.siter s i)
  keep : Keep H0 H []
theorem rl_step {n : Nat} (hl1 : ∀ l H, lib 8 l H = none) (hf1 : fs.get 8 = some c8) {s : List UInt8} {ib : Nat} {H0 : Heap} (hp : ∀ x ∈ s, 32 ≤ x.toNat ∧ x.toNat ≤ 126) (hib : H0.nx ≤ ib) (hro : H0.ro ≤ H0.nx) {yld : Nat → List AV → Heap → CR} {rng : AV → (List AV → Heap → CR) → TM → Heap → X → Res} (x : X) (i : Nat) (tm : TM) (H : Heap) (hi : i < s.length) (h : RL s ib H0 i tm H) :
    ∃ tm' H', c29_l0 ⟨callN lib fs fuel (n + 1), yld, rng, fuel, false⟩ tm H x = .ok .normal tm' H' x ∧ RL s ib H0 (i + 1) tm' H' := by
  have t1 := h.t1; have t2 := h.t2; have t10 := h.t10
  simp only [gtr1, gtr2, gtr10] at t1 t2 t10
  have hx := hp (s.getD i 0) (by rw [List.getD_eq_getElem?_getD, List.getElem?_eq_getElem hi]; exact List.getElem_mem hi)
  have nx := nextV_low h.at_ (by rw [h.keep.ro]; omega) hi (by omega)
  have od := odd_run (fuel := fuel) (n := n) hl1 hf1 hx.1 hx.2
  have d : ∀ H, eqV eqB false (.bool false) (.bool true) H = .val (.bool false) H := fun _ => rfl
  simp (disch := omega) only [c29_l0, t1, t2, t10, oNext_run, nx, extrV_0, extrV_1, extrV_2, oCall_run, callFV_func, od, d, seqO_run, goOn_val, goOn_call, onCR_ret, seqD_run, thenR_normal, thenR_ret, thenR_exit, normD_run, retD_run, exitD_run, condD_run, isBn_bool, condK_true, condK_false, blockD_run, leaveB_normal, leaveB_same, leaveB_ret, d0_run, k_run, evs_nil, evs_cons, oMv_run, oNeg_run, oInt_run, oAddS_run, oSub_run, oMul_run, oQuo_run, oRem_run, oBits_run, oShl_run, oShr_run, oXorU_run, oCmp_run, oEq_run, oNot_run, oPick_run, oCallF_run, N8.g00, N8.g01, N8.g02, N8.g03, N8.g04, N8.g05, N8.g06, N8.g07, N8.g10, N8.g11, N8.g12, N8.g13, N8.g14, N8.g15, N8.g16, N8.g17, N8.g20, N8.g21, N8.g22, N8.g23, N8.g24, N8.g25, N8.g26, N8.g27, N8.g30, N8.g31, N8.g32, N8.g33, N8.g34, N8.g35, N8.g36, N8.g37, N8.g40, N8.g41, N8.g42, N8.g43, N8.g44, N8.g45, N8.g46, N8.g47, N8.g50, N8.g51, N8.g52, N8.g53, N8.g54, N8.g55, N8.g56, N8.g57, N8.g60, N8.g61, N8.g62, N8.g63, N8.g64, N8.g65, N8.g66, N8.g67, N8.g70, N8.g71, N8.g72, N8.g73, N8.g74, N8.g75, N8.g76, N8.g77, oLoad1_run, oLoad_run, oStore_run, oOff_run, oIdxA_run, oIdxS_run, oNil_run, oLenL_run, oAllocZ_run, offV_ptr, nilV_ptr, lenV_slice, put_get, new_get, put_nx, put_ro, new_nx, new_ro, Nat.zero_add, stepK_freeG, stepK_readG, stepK_effG, guardK_tt, guardK_ft, guardK_ff, guardK_tf, seqG_run, lowV_agg, lowV_undef, isSame_nI, oSlice_run, oMinMax_run, oBSlice_run, oAppend_run, Option.map_none, Option.map_some, oLenS_run, oIdxStr_run, oSlStr_run, oExtr_run, pickV_t, pickV_f, notV_b, gtr0, gtr1, gtr2, gtr6, gtr7, gtr8, gtr9, gtr10, gtr11, gtr12, gtr13, gtr14, gtr15, gtr16, gtr17, gtr18, gtr19, gtr20, str6, str7, str8, str9, str10, str11, str12, str13, str14, str15, str16, str17, str18, str19, str20]
  exact ⟨_, _, rfl, t1, t2, t10, by rw [put_get, if_pos rfl], h.keep.then_put fun hlt => absurd hlt (by omega)⟩
theorem rl_last {s : List UInt8} {ib : Nat} {H0 : Heap} (hib : H0.nx ≤ ib) (hro : H0.ro ≤ H0.nx) (c : Ctx) (x : X) (tm : TM) (H : Heap) (h : RL s ib H0 s.length tm H) :
    ∃ tm' H', c29_l0 c tm H x = .ok (.exit 0) tm' H' x ∧ Keep H0 H' [] := by
  have t10 := h.t10
  simp only [gtr10] at t10
  have nx := nextV_end h.at_ (by rw [h.keep.ro]; omega) (Nat.le_refl _)
  simp (disch := omega) only [c29_l0, t10, oNext_run, nx, extrV_0, seqO_run, goOn_val, goOn_call, onCR_ret, seqD_run, thenR_normal, thenR_ret, thenR_exit, normD_run, retD_run, exitD_run, condD_run, isBn_bool, condK_true, condK_false, blockD_run, leaveB_normal, leaveB_same, leaveB_ret, d0_run, k_run, evs_nil, evs_cons, oMv_run, oNeg_run, oInt_run, oAddS_run, oSub_run, oMul_run, oQuo_run, oRem_run, oBits_run, oShl_run, oShr_run, oXorU_run, oCmp_run, oEq_run, oNot_run, oPick_run, oCallF_run, N8.g00, N8.g01, N8.g02, N8.g03, N8.g04, N8.g05, N8.g06, N8.g07, N8.g10, N8.g11, N8.g12, N8.g13, N8.g14, N8.g15, N8.g16, N8.g17, N8.g20, N8.g21, N8.g22, N8.g23, N8.g24, N8.g25, N8.g26, N8.g27, N8.g30, N8.g31, N8.g32, N8.g33, N8.g34, N8.g35, N8.g36, N8.g37, N8.g40, N8.g41, N8.g42, N8.g43, N8.g44, N8.g45, N8.g46, N8.g47, N8.g50, N8.g51, N8.g52, N8.g53, N8.g54, N8.g55, N8.g56, N8.g57, N8.g60, N8.g61, N8.g62, N8.g63, N8.g64, N8.g65, N8.g66, N8.g67, N8.g70, N8.g71, N8.g72, N8.g73, N8.g74, N8.g75, N8.g76, N8.g77, oLoad1_run, oLoad_run, oStore_run, oOff_run, oIdxA_run, oIdxS_run, oNil_run, oLenL_run, oAllocZ_run, offV_ptr, nilV_ptr, lenV_slice, put_get, new_get, put_nx, put_ro, new_nx, new_ro, Nat.zero_add, stepK_freeG, stepK_readG, stepK_effG, guardK_tt, guardK_ft, guardK_ff, guardK_tf, seqG_run, lowV_agg, lowV_undef, isSame_nI, oSlice_run, oMinMax_run, oBSlice_run, oAppend_run, Option.map_none, Option.map_some, oLenS_run, oIdxStr_run, oSlStr_run, oExtr_run, pickV_t, pickV_f, notV_b, gtr0, gtr1, gtr2, gtr6, gtr7, gtr8, gtr9, gtr10, gtr11, gtr12, gtr13, gtr14, gtr15, gtr16, gtr17, gtr18, gtr19, gtr20, str6, str7, str8, str9, str10, str11, str12, str13, str14, str15, str16, str17, str18, str19, str20]
  exact ⟨_, _, rfl, h.keep⟩
/-- no byte of it is odd -/
theorem con_run {n : Nat} (hl1 : ∀ l H, lib 8 l H = none) (hf1 : fs.get 8 = some c8) (hl2 : ∀ l H, lib 29 l H = none) (hf2 : fs.get 29 = some c29) (hl3 : ∀ l H, lib 18 l H = none) (hf3 : fs.get 18 = some c18) (hl4 : ∀ l H, lib 7 l H = none) (hf4 : fs.get 7 = some c7) {s : List UInt8} (hp : ∀ x ∈ s, 32 ≤ x.toNat ∧ x.toNat ≤ 126) (hF : s.length < fuel) {H : Heap} (hro : H.ro ≤ H.nx) :
    ∃ H', callN lib fs fuel (n + 4) 7 [.str s, .func 8 [] []] H = .ret (.bool false) H' ∧ Keep H H' [] := by
  obtain ⟨H1, e1, k1⟩ : ∃ H', callN lib fs fuel (n + 2) 29 [.str s, .func 8 [] [], .bool true] H = .ret (.int .i64 (.negSucc 0)) H' ∧ Keep H H' [] := by
    rw [callN_fn (hl2 _ _) hf2]
    have rs : ∀ H, rangeSV (.str s) H = .val (.ptr H.nx 0) (H.new (.siter s 0)) := fun _ => rfl
    simp only [c29, argsT_3, loopD_run, oRangeS_run', rs, seqO_run, goOn_val, goOn_call, onCR_ret, seqD_run, thenR_normal, thenR_ret, thenR_exit, normD_run, retD_run, exitD_run, condD_run, isBn_bool, condK_true, condK_false, blockD_run, leaveB_normal, leaveB_same, leaveB_ret, d0_run, k_run, evs_nil, evs_cons, oMv_run, oNeg_run, oInt_run, oAddS_run, oSub_run, oMul_run, oQuo_run, oRem_run, oBits_run, oShl_run, oShr_run, oXorU_run, oCmp_run, oEq_run, oNot_run, oPick_run, oCallF_run, N8.g00, N8.g01, N8.g02, N8.g03, N8.g04, N8.g05, N8.g06, N8.g07, N8.g10, N8.g11, N8.g12, N8.g13, N8.g14, N8.g15, N8.g16, N8.g17, N8.g20, N8.g21, N8.g22, N8.g23, N8.g24, N8.g25, N8.g26, N8.g27, N8.g30, N8.g31, N8.g32, N8.g33, N8.g34, N8.g35, N8.g36, N8.g37, N8.g40, N8.g41, N8.g42, N8.g43, N8.g44, N8.g45, N8.g46, N8.g47, N8.g50, N8.g51, N8.g52, N8.g53, N8.g54, N8.g55, N8.g56, N8.g57, N8.g60, N8.g61, N8.g62, N8.g63, N8.g64, N8.g65, N8.g66, N8.g67, N8.g70, N8.g71, N8.g72, N8.g73, N8.g74, N8.g75, N8.g76, N8.g77, oLoad1_run, oLoad_run, oStore_run, oOff_run, oIdxA_run, oIdxS_run, oNil_run, oLenL_run, oAllocZ_run, offV_ptr, nilV_ptr, lenV_slice, put_get, new_get, put_nx, put_ro, new_nx, new_ro, Nat.zero_add, stepK_freeG, stepK_readG, stepK_effG, guardK_tt, guardK_ft, guardK_ff, guardK_tf, seqG_run, lowV_agg, lowV_undef, isSame_nI, oSlice_run, oMinMax_run, oBSlice_run, oAppend_run, Option.map_none, Option.map_some, oLenS_run, oIdxStr_run, oSlStr_run, oExtr_run, pickV_t, pickV_f, notV_b, gtr0, gtr1, gtr2, gtr6, gtr7, gtr8, gtr9, gtr10, gtr11, gtr12, gtr13, gtr14, gtr15, gtr16, gtr17, gtr18, gtr19, gtr20, str6, str7, str8, str9, str10, str11, str12, str13, str14, str15, str16, str17, str18, str19, str20, str0, str1, str2, gtr0, gtr1, gtr2]
    generalize hL : loopN (c29_l0 _) fuel _ _ _ = L
    obtain ⟨tm1, H1, rfl, z⟩ := after_loop (P := fun T => RL s H.nx H 0 T (H.new (.siter s 0))) (Q := fun _ H' => Keep H H' [])
      (fun T hi => loopN_exit (RL s H.nx H) (fun _ H' => Keep H H' []) s.length (fun i tm H' hi h => rl_step (n := n) hl1 hf1 hp (Nat.le_refl _) hro _ i tm H' hi h) (fun tm H' h => rl_last (Nat.le_refl _) hro _ _ tm H' h) s.length 0 fuel T _ (Nat.zero_add _) hF hi) hL
      ⟨rfl, rfl, rfl, by rw [new_get, if_pos rfl], Keep.new _ _ _⟩
    simp only [leaveB_same, thenR_normal, seqO_run, goOn_val, goOn_call, onCR_ret, seqD_run, thenR_normal, thenR_ret, thenR_exit, normD_run, retD_run, exitD_run, condD_run, isBn_bool, condK_true, condK_false, blockD_run, leaveB_normal, leaveB_same, leaveB_ret, d0_run, k_run, evs_nil, evs_cons, oMv_run, oNeg_run, oInt_run, oAddS_run, oSub_run, oMul_run, oQuo_run, oRem_run, oBits_run, oShl_run, oShr_run, oXorU_run, oCmp_run, oEq_run, oNot_run, oPick_run, oCallF_run, N8.g00, N8.g01, N8.g02, N8.g03, N8.g04, N8.g05, N8.g06, N8.g07, N8.g10, N8.g11, N8.g12, N8.g13, N8.g14, N8.g15, N8.g16, N8.g17, N8.g20, N8.g21, N8.g22, N8.g23, N8.g24, N8.g25, N8.g26, N8.g27, N8.g30, N8.g31, N8.g32, N8.g33, N8.g34, N8.g35, N8.g36, N8.g37, N8.g40, N8.g41, N8.g42, N8.g43, N8.g44, N8.g45, N8.g46, N8.g47, N8.g50, N8.g51, N8.g52, N8.g53, N8.g54, N8.g55, N8.g56, N8.g57, N8.g60, N8.g61, N8.g62, N8.g63, N8.g64, N8.g65, N8.g66, N8.g67, N8.g70, N8.g71, N8.g72, N8.g73, N8.g74, N8.g75, N8.g76, N8.g77, oLoad1_run, oLoad_run, oStore_run, oOff_run, oIdxA_run, oIdxS_run, oNil_run, oLenL_run, oAllocZ_run, offV_ptr, nilV_ptr, lenV_slice, put_get, new_get, put_nx, put_ro, new_nx, new_ro, Nat.zero_add, stepK_freeG, stepK_readG, stepK_effG, guardK_tt, guardK_ft, guardK_ff, guardK_tf, seqG_run, lowV_agg, lowV_undef, isSame_nI, oSlice_run, oMinMax_run, oBSlice_run, oAppend_run, Option.map_none, Option.map_some, oLenS_run, oIdxStr_run, oSlStr_run, oExtr_run, pickV_t, pickV_f, notV_b, gtr0, gtr1, gtr2, gtr6, gtr7, gtr8, gtr9, gtr10, gtr11, gtr12, gtr13, gtr14, gtr15, gtr16, gtr17, gtr18, gtr19, gtr20, str6, str7, str8, str9, str10, str11, str12, str13, str14, str15, str16, str17, str18, str19, str20]
    simp only [outF_ret]
    exact ⟨H1, rfl, z⟩
  have e2 : callN lib fs fuel (n + 3) 18 [.str s, .func 8 [] []] H = .ret (.int .i64 (.negSucc 0)) H1 := by
    rw [callN_fn (hl3 _ _) hf3]
    simp only [c18, argsT_2, e1, seqO_run, goOn_val, goOn_call, onCR_ret, seqD_run, thenR_normal, thenR_ret, thenR_exit, normD_run, retD_run, exitD_run, condD_run, isBn_bool, condK_true, condK_false, blockD_run, leaveB_normal, leaveB_same, leaveB_ret, d0_run, k_run, evs_nil, evs_cons, oMv_run, oNeg_run, oInt_run, oAddS_run, oSub_run, oMul_run, oQuo_run, oRem_run, oBits_run, oShl_run, oShr_run, oXorU_run, oCmp_run, oEq_run, oNot_run, oPick_run, oCallF_run, N8.g00, N8.g01, N8.g02, N8.g03, N8.g04, N8.g05, N8.g06, N8.g07, N8.g10, N8.g11, N8.g12, N8.g13, N8.g14, N8.g15, N8.g16, N8.g17, N8.g20, N8.g21, N8.g22, N8.g23, N8.g24, N8.g25, N8.g26, N8.g27, N8.g30, N8.g31, N8.g32, N8.g33, N8.g34, N8.g35, N8.g36, N8.g37, N8.g40, N8.g41, N8.g42, N8.g43, N8.g44, N8.g45, N8.g46, N8.g47, N8.g50, N8.g51, N8.g52, N8.g53, N8.g54, N8.g55, N8.g56, N8.g57, N8.g60, N8.g61, N8.g62, N8.g63, N8.g64, N8.g65, N8.g66, N8.g67, N8.g70, N8.g71, N8.g72, N8.g73, N8.g74, N8.g75, N8.g76, N8.g77, oLoad1_run, oLoad_run, oStore_run, oOff_run, oIdxA_run, oIdxS_run, oNil_run, oLenL_run, oAllocZ_run, offV_ptr, nilV_ptr, lenV_slice, put_get, new_get, put_nx, put_ro, new_nx, new_ro, Nat.zero_add, stepK_freeG, stepK_readG, stepK_effG, guardK_tt, guardK_ft, guardK_ff, guardK_tf, seqG_run, lowV_agg, lowV_undef, isSame_nI, oSlice_run, oMinMax_run, oBSlice_run, oAppend_run, Option.map_none, Option.map_some, oLenS_run, oIdxStr_run, oSlStr_run, oExtr_run, pickV_t, pickV_f, notV_b, gtr0, gtr1, gtr4, gtr5, gtr6, gtr7, str4, str5, str6, str7, str0, str1, gtr0, gtr1]
    rfl
  rw [callN_fn (hl4 _ _) hf4]
  have g : ∀ H, cmpV igeF strGe (.int .i64 (.negSucc 0)) (nI .i64 0) H = .val (.bool false) H := fun _ => rfl
  simp only [c7, argsT_2, e2, g, seqO_run, goOn_val, goOn_call, onCR_ret, seqD_run, thenR_normal, thenR_ret, thenR_exit, normD_run, retD_run, exitD_run, condD_run, isBn_bool, condK_true, condK_false, blockD_run, leaveB_normal, leaveB_same, leaveB_ret, d0_run, k_run, evs_nil, evs_cons, oMv_run, oNeg_run, oInt_run, oAddS_run, oSub_run, oMul_run, oQuo_run, oRem_run, oBits_run, oShl_run, oShr_run, oXorU_run, oCmp_run, oEq_run, oNot_run, oPick_run, oCallF_run, N8.g00, N8.g01, N8.g02, N8.g03, N8.g04, N8.g05, N8.g06, N8.g07, N8.g10, N8.g11, N8.g12, N8.g13, N8.g14, N8.g15, N8.g16, N8.g17, N8.g20, N8.g21, N8.g22, N8.g23, N8.g24, N8.g25, N8.g26, N8.g27, N8.g30, N8.g31, N8.g32, N8.g33, N8.g34, N8.g35, N8.g36, N8.g37, N8.g40, N8.g41, N8.g42, N8.g43, N8.g44, N8.g45, N8.g46, N8.g47, N8.g50, N8.g51, N8.g52, N8.g53, N8.g54, N8.g55, N8.g56, N8.g57, N8.g60, N8.g61, N8.g62, N8.g63, N8.g64, N8.g65, N8.g66, N8.g67, N8.g70, N8.g71, N8.g72, N8.g73, N8.g74, N8.g75, N8.g76, N8.g77, oLoad1_run, oLoad_run, oStore_run, oOff_run, oIdxA_run, oIdxS_run, oNil_run, oLenL_run, oAllocZ_run, offV_ptr, nilV_ptr, lenV_slice, put_get, new_get, put_nx, put_ro, new_nx, new_ro, Nat.zero_add, stepK_freeG, stepK_readG, stepK_effG, guardK_tt, guardK_ft, guardK_ff, guardK_tf, seqG_run, lowV_agg, lowV_undef, isSame_nI, oSlice_run, oMinMax_run, oBSlice_run, oAppend_run, Option.map_none, Option.map_some, oLenS_run, oIdxStr_run, oSlStr_run, oExtr_run, pickV_t, pickV_f, notV_b, gtr0, gtr1, gtr4, gtr5, gtr6, gtr7, gtr8, str4, str5, str6, str7, str8, str0, str1, gtr0, gtr1]
  exact ⟨H1, rfl, k1⟩
end
end Go.AI

namespace Go.AI
open Go
noncomputable section
variable {lib : Nat → List AV → Heap → Option CR} {fs : T CF} {fuel : Nat}

theorem hexV_hexS : ∀ k, k < 16 → hexV (hexS.getD k 0) = some k := by decide
theorem hexS_hexV {x : UInt8} {k : Nat} (h : hexV x = some k) : hexS.getD k 0 = x := by
  have hall : ((List.range 256).all fun n => match hexV (UInt8.ofNat n) with | some k => hexS.getD k 0 == UInt8.ofNat n | none => true) = true := by decide +kernel
  have h2 := List.all_eq_true.1 hall x.toNat (List.mem_range.2 x.toNat_lt)
  rw [show UInt8.ofNat x.toNat = x by simp, h] at h2
  exact eq_of_beq h2
theorem unesc_escB (x : UInt8) (r : List UInt8) : unesc (escB x ++ r) = (unesc r).map (x :: ·) := by
  unfold escB
  cases hp : plainB x with
  | true =>
    have h37 : ¬ x = 37 := by
      intro e
      subst e
      exact absurd hp (by decide)
    rw [if_pos rfl]
    show unesc (x :: r) = _
    rw [unesc_other h37, if_pos hp]
  | false =>
    rw [if_neg (by decide)]
    show unesc (37 :: hexS.getD (x.toNat / 16) 0 :: hexS.getD (x.toNat % 16) 0 :: r) = _
    have hx := x.toNat_lt
    rw [unesc_hex, hexV_hexS _ (by omega), hexV_hexS _ (by omega)]
    have e : UInt8.ofNat (x.toNat / 16 * 16 + x.toNat % 16) = x := by
      rw [show x.toNat / 16 * 16 + x.toNat % 16 = x.toNat by omega]; simp
    simp only [e, hp, Bool.false_eq_true, if_false]
theorem unesc_esc : ∀ (s r : List UInt8), unesc (esc s ++ r) = (unesc r).map (s ++ ·)
  | [], r => by
    show unesc r = _
    cases unesc r <;> rfl
  | x :: s, r => by
    rw [show x :: s = [x] ++ s from rfl, esc_app, esc_one, List.append_assoc, unesc_escB, unesc_esc s r]
    cases unesc r <;> rfl
theorem unesc_back (s : List UInt8) : unesc (esc s) = some s := by
  have := unesc_esc s []
  rw [List.append_nil] at this
  rw [this]
  show some (s ++ []) = _
  rw [List.append_nil]
theorem esc_unesc : ∀ {s u : List UInt8}, unesc s = some u → esc u = s := by
  intro s
  fun_induction unesc s
  all_goals intro u hu
  all_goals first | (cases hu; done) | skip
  · cases hu; rfl
  · rename_i r' hi lo h1 h2 hp ih
    obtain ⟨v, hv, rfl⟩ := Option.map_eq_some_iff.1 hu
    rw [show UInt8.ofNat (hi * 16 + lo) :: v = [UInt8.ofNat (hi * 16 + lo)] ++ v from rfl, esc_app, esc_one, ih hv]
    have b1 := hexV_lt h1
    have b2 := hexV_lt h2
    have e : (UInt8.ofNat (hi * 16 + lo)).toNat = hi * 16 + lo := by
      show (hi * 16 + lo) % 256 = _
      omega
    unfold escB
    rw [if_neg hp, e, show (hi * 16 + lo) / 16 = hi by omega, show (hi * 16 + lo) % 16 = lo by omega, hexS_hexV h1, hexS_hexV h2]
    rfl
  · rename_i c r h37 hp ih
    obtain ⟨v, hv, rfl⟩ := Option.map_eq_some_iff.1 hu
    rw [show c :: v = [c] ++ v from rfl, esc_app, esc_one, ih hv]
    unfold escB
    rw [if_pos hp]; rfl
theorem escB_low (x : UInt8) : ∀ y ∈ escB x, 32 ≤ y.toNat ∧ y.toNat ≤ 126 := by
  have hall : ((List.range 256).all fun n => (escB (UInt8.ofNat n)).all fun y => decide (32 ≤ y.toNat) && decide (y.toNat ≤ 126)) = true := by decide +kernel
  have h2 := List.all_eq_true.1 hall x.toNat (List.mem_range.2 x.toNat_lt)
  rw [show UInt8.ofNat x.toNat = x by simp] at h2
  intro y hy
  have h3 := List.all_eq_true.1 h2 y hy
  simpa using h3
theorem esc_low (s : List UInt8) : ∀ y ∈ esc s, 32 ≤ y.toNat ∧ y.toNat ≤ 126 := by
  intro y hy
  unfold esc at hy
  obtain ⟨x, _, h⟩ := List.mem_flatMap.1 hy
  exact escB_low x y h
theorem half_none (s : List UInt8) : unesc (esc s ++ [37]) = none := by rw [unesc_esc, unesc_37]; rfl
theorem lower_none (s : List UInt8) : unesc (esc s ++ [37, 48, 97]) = none := by
  have : unesc [37, 48, 97] = none := by rw [unesc_hex]; rfl
  rw [unesc_esc, this]; rfl
theorem needless_none (s : List UInt8) : unesc (esc s ++ [37, 52, 49]) = none := by
  have : unesc [37, 52, 49] = none := by rw [unesc_hex]; rfl
  rw [unesc_esc, this]; rfl
end
end Go.AI

namespace Go.AI
open Go
noncomputable section
variable {lib : Nat → List AV → Heap → Option CR} {fs : T CF} {fuel : Nat}

theorem guardK_undef (b : Bool) (yes no : Res) : guardK undefA b yes no = no := rfl
theorem cut_run {c : Ctx} {x : X} {tm : TM} {H : Heap} {s u : List UInt8} (i0 : gt0 tm = .str s) (i1 : gt1 tm = .str u) :
    ∃ tm', c3_r0 c tm H x = .ok .normal tm' H x ∧ gt0 tm' = .str (s.take (min s.length 300)) ∧ gt1 tm' = .str (u.take (min u.length 300)) := by
  simp only [gtr0, gtr1] at i0 i1
  have e0 : ∀ H', slStrV (.str s) none (some (nI .i64 (min s.length 300))) H' = .val (.str (s.take (min s.length 300))) H' := fun H' => slStr_take (by omega) .i64 H'
  have e1 : ∀ H', slStrV (.str u) none (some (nI .i64 (min u.length 300))) H' = .val (.str (u.take (min u.length 300))) H' := fun H' => slStr_take (by omega) .i64 H'
  simp (disch := omega) only [c3_r0, i0, i1, lowV_str, lenSV_str, minV_two, e0, e1, seqO_run, goOn_val, goOn_call, onCR_ret, seqD_run, thenR_normal, thenR_ret, thenR_exit, normD_run, retD_run, exitD_run, condD_run, isBn_bool, condK_true, condK_false, blockD_run, leaveB_normal, leaveB_same, leaveB_ret, d0_run, k_run, evs_nil, evs_cons, oMv_run, oNeg_run, oInt_run, oAddS_run, oSub_run, oMul_run, oQuo_run, oRem_run, oBits_run, oShl_run, oShr_run, oXorU_run, oCmp_run, oEq_run, oNot_run, oPick_run, oCallF_run, N8.g00, N8.g01, N8.g02, N8.g03, N8.g04, N8.g05, N8.g06, N8.g07, N8.g10, N8.g11, N8.g12, N8.g13, N8.g14, N8.g15, N8.g16, N8.g17, N8.g20, N8.g21, N8.g22, N8.g23, N8.g24, N8.g25, N8.g26, N8.g27, N8.g30, N8.g31, N8.g32, N8.g33, N8.g34, N8.g35, N8.g36, N8.g37, N8.g40, N8.g41, N8.g42, N8.g43, N8.g44, N8.g45, N8.g46, N8.g47, N8.g50, N8.g51, N8.g52, N8.g53, N8.g54, N8.g55, N8.g56, N8.g57, N8.g60, N8.g61, N8.g62, N8.g63, N8.g64, N8.g65, N8.g66, N8.g67, N8.g70, N8.g71, N8.g72, N8.g73, N8.g74, N8.g75, N8.g76, N8.g77, oLoad1_run, oLoad_run, oStore_run, oOff_run, oIdxA_run, oIdxS_run, oNil_run, oLenL_run, oAllocZ_run, offV_ptr, nilV_ptr, lenV_slice, put_get, new_get, put_nx, put_ro, new_nx, new_ro, Nat.zero_add, drawnD_run, planD_nil, planD_cons, normF_run, stepK_free, stepK_read, stepK_eff, freeK_val, readK_val, effK_val, effK_call, retK_ret, keepR_nil, keepR_cons, still_nil, still_cons, rdOk_run, isSame_u32, isSame_u8, isSame_nI, lowOs_nil, lowOs_cons, lowV_nI, lowV_u32, lowV_u8, lowV_bool, rsF_nil, rsF_cons, List.map_cons, List.map_nil, cond_true, cond_false, Nat.testBit_eq_decide_div_mod_eq, Nat.reducePow, Nat.reduceDiv, Nat.reduceMod, decide_true, Nat.reduceEqDiff, decide_false, reduceCtorEq, Nat.zero_ne_one, stepK_freeG, stepK_readG, stepK_effG, guardK_tt, guardK_ft, guardK_ff, guardK_tf, seqG_run, lowV_agg, lowV_undef, isSame_nI, oSlice_run, oMinMax_run, oBSlice_run, oAppend_run, Option.map_none, Option.map_some, oLenS_run, oIdxStr_run, oSlStr_run, oExtr_run, pickV_t, pickV_f, notV_b, gtr0, gtr1, gtr16, gtr17, gtr18, gtr19, gtr20, gtr21, gtr22, gtr23, gtr24, gtr25, str0, str1, str16, str17, str18, str19, str20, str21, str22, str23, str24, str25]
  exact ⟨_, rfl, rfl, rfl⟩
theorem law_run {n : Nat} (hl : ∀ l H, lib 3 l H = none) (hf : fs.get 3 = some c3) {H : Heap} {s0 u0 : List UInt8}
    (hE : ∀ s : List UInt8, s.length ≤ 90000 → lib 5 [.str s] H = some (.ret (.str (esc s)) H)) (hU : ∀ s : List UInt8, s.length ≤ 90000 → lib 6 [.str s] H = some (.ret (uneV (unesc s)) H))
    (hC : ∀ s : List UInt8, s.length ≤ 90000 → (∀ x ∈ s, 32 ≤ x.toNat ∧ x.toNat ≤ 126) → lib 7 [.str s, .func 8 [] []] H = some (.ret (.bool false) H)) (hW : ∃ H', lib 9 [] H = some (.ret (.bool true) H')) :
    ∃ H', callN lib fs fuel (n + 2) 3 [.str s0, .str u0] H = .ret (.bool true) H' := by
  rw [callN_fn (hl _ _) hf]
  simp only [c3, argsT_2, seqD_run, seqO_run, oMv_run, k_run, goOn_val, normD_run, thenR_normal]
  generalize hR : c3_r0 _ _ _ _ = R
  obtain ⟨tm1, e0, i0, i1⟩ := cut_run (c := ⟨callN lib fs fuel (n + 1), noYield, rangeK fs fuel (callN lib fs fuel (n + 1)), fuel, false⟩) (x := ⟨[], none⟩) (tm := st4 (st1 (st0 tm0 (.str s0)) (.str u0)) (.bool false)) (H := H) (s := s0) (u := u0) rfl rfl
  rw [e0] at hR
  subst hR
  generalize hk : s0.take (min s0.length 300) = s at i0
  generalize hk1 : u0.take (min u0.length 300) = u at i1
  have ls : s.length ≤ 300 := by rw [← hk, List.length_take]; omega
  have lu : u.length ≤ 300 := by rw [← hk1, List.length_take]; omega
  have la := esc_len s
  have lb := esc_len u
  have E : ∀ w : List UInt8, w.length ≤ 90000 → callN lib fs fuel (n + 1) 5 [.str w] H = .ret (.str (esc w)) H := fun w h => callN_hit (hE w h)
  have U : ∀ w : List UInt8, w.length ≤ 90000 → callN lib fs fuel (n + 1) 6 [.str w] H = .ret (uneV (unesc w)) H := fun w h => callN_hit (hU w h)
  have E1 := E s (by omega)
  have E2 := E (s ++ u) (by simp; omega)
  have E3 := E u (by omega)
  have U1 := U (esc s) (by omega)
  rw [unesc_back] at U1
  have U2 := U s (by omega)
  have U3 := U (esc s ++ [37]) (by simp; omega)
  rw [half_none] at U3
  have U4 := U (esc s ++ [37, 48, 97]) (by simp; omega)
  rw [lower_none] at U4
  have U5 := U (esc s ++ [37, 52, 49]) (by simp; omega)
  rw [needless_none] at U5
  have C1 : callN lib fs fuel (n + 1) 7 [.str (esc s), .func 8 [] []] H = .ret (.bool false) H := callN_hit (hC (esc s) (by omega) (esc_low s))
  obtain ⟨H9, hW⟩ := hW
  have W1 : callN lib fs fuel (n + 1) 9 [] H = .ret (.bool true) H9 := callN_hit hW
  have a1 : ∀ H, addV (.str s) (.str u) H = .val (.str (s ++ u)) H := fun H => addV_str (by omega) H
  have a2 : ∀ H, addV (.str (esc s)) (.str (esc u)) H = .val (.str (esc s ++ esc u)) H := fun H => addV_str (by omega) H
  have a3 : ∀ H, addV (.str (esc s)) (.str [37]) H = .val (.str (esc s ++ [37])) H := fun H => addV_str (by simp; omega) H
  have a4 : ∀ H, addV (.str (esc s)) (.str [37, 48, 97]) H = .val (.str (esc s ++ [37, 48, 97])) H := fun H => addV_str (by simp; omega) H
  have a5 : ∀ H, addV (.str (esc s)) (.str [37, 52, 49]) H = .val (.str (esc s ++ [37, 52, 49])) H := fun H => addV_str (by simp; omega) H
  have n1 : ∀ H, eqV eqS true (.str s) (.str s) H = .val (.bool false) H := fun H => by rw [eqS_ne, decide_eq_true rfl]; rfl
  have n2 : ∀ H, eqV eqS true (.str (esc (s ++ u))) (.str (esc s ++ esc u)) H = .val (.bool false) H := fun H => by rw [eqS_ne, decide_eq_true (esc_app s u)]; rfl
  have n3 : ∀ H, eqV eqS false (.str s) (.str s) H = .val (.bool true) H := fun H => by rw [eqS_eq, decide_eq_true rfl]
  have n4 : ∀ H, eqV eqS false (.str []) (.str []) H = .val (.bool true) H := fun H => rfl
  have d1 : decide ((esc s).length < s.length) = false := decide_eq_false (by omega)
  have d2 : decide (3 * s.length < (esc s).length) = false := decide_eq_false (by omega)
  simp only [gtr0, gtr1] at i0 i1
  cases hu : unesc s with
  | none =>
    rw [hu] at U2
    simp (disch := omega) only [thenR_normal, i0, i1, E1, E2, E3, U1, U2, U3, U4, U5, C1, W1, uneV, extrV_0, extrV_1, cond_true, cond_false, a1, a2, a3, a4, a5, n1, n2, n3, n4, lenSV_str, cmpV_lt, cmpV_gt, mulV_i, d1, d2, seqO_run, goOn_val, goOn_call, onCR_ret, seqD_run, thenR_normal, thenR_ret, thenR_exit, normD_run, retD_run, exitD_run, condD_run, isBn_bool, condK_true, condK_false, blockD_run, leaveB_normal, leaveB_same, leaveB_ret, d0_run, k_run, evs_nil, evs_cons, oMv_run, oNeg_run, oInt_run, oAddS_run, oSub_run, oMul_run, oQuo_run, oRem_run, oBits_run, oShl_run, oShr_run, oXorU_run, oCmp_run, oEq_run, oNot_run, oPick_run, oCallF_run, N8.g00, N8.g01, N8.g02, N8.g03, N8.g04, N8.g05, N8.g06, N8.g07, N8.g10, N8.g11, N8.g12, N8.g13, N8.g14, N8.g15, N8.g16, N8.g17, N8.g20, N8.g21, N8.g22, N8.g23, N8.g24, N8.g25, N8.g26, N8.g27, N8.g30, N8.g31, N8.g32, N8.g33, N8.g34, N8.g35, N8.g36, N8.g37, N8.g40, N8.g41, N8.g42, N8.g43, N8.g44, N8.g45, N8.g46, N8.g47, N8.g50, N8.g51, N8.g52, N8.g53, N8.g54, N8.g55, N8.g56, N8.g57, N8.g60, N8.g61, N8.g62, N8.g63, N8.g64, N8.g65, N8.g66, N8.g67, N8.g70, N8.g71, N8.g72, N8.g73, N8.g74, N8.g75, N8.g76, N8.g77, oLoad1_run, oLoad_run, oStore_run, oOff_run, oIdxA_run, oIdxS_run, oNil_run, oLenL_run, oAllocZ_run, offV_ptr, nilV_ptr, lenV_slice, put_get, new_get, put_nx, put_ro, new_nx, new_ro, Nat.zero_add, stepK_freeG, stepK_readG, stepK_effG, guardK_tt, guardK_ft, guardK_ff, guardK_tf, seqG_run, lowV_agg, lowV_undef, isSame_nI, oSlice_run, oMinMax_run, oBSlice_run, oAppend_run, Option.map_none, Option.map_some, oLenS_run, oIdxStr_run, oSlStr_run, oExtr_run, pickV_t, pickV_f, notV_b, gtr0, gtr1, gtr4, gtr5, gtr6, gtr7, gtr8, gtr9, gtr11, gtr13, gtr15, gtr26, gtr27, gtr28, gtr29, gtr30, gtr31, gtr32, gtr33, gtr34, gtr35, gtr36, gtr37, gtr38, gtr39, gtr40, gtr41, gtr42, gtr43, gtr44, gtr45, gtr46, gtr47, gtr48, gtr49, gtr50, gtr51, gtr52, gtr53, gtr54, gtr55, gtr56, gtr57, gtr58, gtr59, gtr60, gtr61, gtr62, gtr63, gtr64, gtr65, gtr66, gtr67, gtr68, gtr69, gtr70, gtr71, gtr72, gtr73, gtr74, gtr75, gtr76, gtr77, gtr78, gtr79, gtr80, gtr81, gtr82, gtr83, gtr84, gtr85, gtr86, gtr87, gtr88, gtr89, gtr90, gtr91, gtr92, gtr93, gtr94, gtr95, gtr96, gtr97, gtr98, gtr99, gtr100, gtr101, gtr102, gtr103, gtr104, gtr105, gtr106, gtr107, gtr108, gtr109, gtr110, gtr111, gtr112, gtr113, gtr114, gtr115, gtr116, gtr117, gtr118, gtr119, gtr120, gtr121, gtr122, str4, str5, str6, str7, str8, str9, str10, str11, str12, str13, str14, str15, str26, str27, str28, str29, str30, str31, str32, str33, str34, str35, str36, str37, str38, str39, str40, str41, str42, str43, str44, str45, str46, str47, str48, str49, str50, str51, str52, str53, str54, str55, str56, str57, str58, str59, str60, str61, str62, str63, str64, str65, str66, str67, str68, str69, str70, str71, str72, str73, str74, str75, str76, str77, str78, str79, str80, str81, str82, str83, str84, str85, str86, str87, str88, str89, str90, str91, str92, str93, str94, str95, str96, str97, str98, str99, str100, str101, str102, str103, str104, str105, str106, str107, str108, str109, str110, str111, str112, str113, str114, str115, str116, str117, str118, str119, str120, str121, str122, guardK_undef]
    simp only [outF_ret]
    exact ⟨_, rfl⟩
  | some w =>
    rw [hu] at U2
    have E4 := E w (by have := unesc_len hu; omega)
    rw [esc_unesc hu] at E4
    simp (disch := omega) only [thenR_normal, i0, i1, E1, E2, E3, E4, U1, U2, U3, U4, U5, C1, W1, uneV, extrV_0, extrV_1, cond_true, cond_false, a1, a2, a3, a4, a5, n1, n2, n3, n4, lenSV_str, cmpV_lt, cmpV_gt, mulV_i, d1, d2, seqO_run, goOn_val, goOn_call, onCR_ret, seqD_run, thenR_normal, thenR_ret, thenR_exit, normD_run, retD_run, exitD_run, condD_run, isBn_bool, condK_true, condK_false, blockD_run, leaveB_normal, leaveB_same, leaveB_ret, d0_run, k_run, evs_nil, evs_cons, oMv_run, oNeg_run, oInt_run, oAddS_run, oSub_run, oMul_run, oQuo_run, oRem_run, oBits_run, oShl_run, oShr_run, oXorU_run, oCmp_run, oEq_run, oNot_run, oPick_run, oCallF_run, N8.g00, N8.g01, N8.g02, N8.g03, N8.g04, N8.g05, N8.g06, N8.g07, N8.g10, N8.g11, N8.g12, N8.g13, N8.g14, N8.g15, N8.g16, N8.g17, N8.g20, N8.g21, N8.g22, N8.g23, N8.g24, N8.g25, N8.g26, N8.g27, N8.g30, N8.g31, N8.g32, N8.g33, N8.g34, N8.g35, N8.g36, N8.g37, N8.g40, N8.g41, N8.g42, N8.g43, N8.g44, N8.g45, N8.g46, N8.g47, N8.g50, N8.g51, N8.g52, N8.g53, N8.g54, N8.g55, N8.g56, N8.g57, N8.g60, N8.g61, N8.g62, N8.g63, N8.g64, N8.g65, N8.g66, N8.g67, N8.g70, N8.g71, N8.g72, N8.g73, N8.g74, N8.g75, N8.g76, N8.g77, oLoad1_run, oLoad_run, oStore_run, oOff_run, oIdxA_run, oIdxS_run, oNil_run, oLenL_run, oAllocZ_run, offV_ptr, nilV_ptr, lenV_slice, put_get, new_get, put_nx, put_ro, new_nx, new_ro, Nat.zero_add, stepK_freeG, stepK_readG, stepK_effG, guardK_tt, guardK_ft, guardK_ff, guardK_tf, seqG_run, lowV_agg, lowV_undef, isSame_nI, oSlice_run, oMinMax_run, oBSlice_run, oAppend_run, Option.map_none, Option.map_some, oLenS_run, oIdxStr_run, oSlStr_run, oExtr_run, pickV_t, pickV_f, notV_b, gtr0, gtr1, gtr4, gtr5, gtr6, gtr7, gtr8, gtr9, gtr11, gtr13, gtr15, gtr26, gtr27, gtr28, gtr29, gtr30, gtr31, gtr32, gtr33, gtr34, gtr35, gtr36, gtr37, gtr38, gtr39, gtr40, gtr41, gtr42, gtr43, gtr44, gtr45, gtr46, gtr47, gtr48, gtr49, gtr50, gtr51, gtr52, gtr53, gtr54, gtr55, gtr56, gtr57, gtr58, gtr59, gtr60, gtr61, gtr62, gtr63, gtr64, gtr65, gtr66, gtr67, gtr68, gtr69, gtr70, gtr71, gtr72, gtr73, gtr74, gtr75, gtr76, gtr77, gtr78, gtr79, gtr80, gtr81, gtr82, gtr83, gtr84, gtr85, gtr86, gtr87, gtr88, gtr89, gtr90, gtr91, gtr92, gtr93, gtr94, gtr95, gtr96, gtr97, gtr98, gtr99, gtr100, gtr101, gtr102, gtr103, gtr104, gtr105, gtr106, gtr107, gtr108, gtr109, gtr110, gtr111, gtr112, gtr113, gtr114, gtr115, gtr116, gtr117, gtr118, gtr119, gtr120, gtr121, gtr122, str4, str5, str6, str7, str8, str9, str10, str11, str12, str13, str14, str15, str26, str27, str28, str29, str30, str31, str32, str33, str34, str35, str36, str37, str38, str39, str40, str41, str42, str43, str44, str45, str46, str47, str48, str49, str50, str51, str52, str53, str54, str55, str56, str57, str58, str59, str60, str61, str62, str63, str64, str65, str66, str67, str68, str69, str70, str71, str72, str73, str74, str75, str76, str77, str78, str79, str80, str81, str82, str83, str84, str85, str86, str87, str88, str89, str90, str91, str92, str93, str94, str95, str96, str97, str98, str99, str100, str101, str102, str103, str104, str105, str106, str107, str108, str109, str110, str111, str112, str113, str114, str115, str116, str117, str118, str119, str120, str121, str122, guardK_undef]
    simp only [outF_ret]
    exact ⟨_, rfl⟩
end
end Go.AI
