/- The walk of the law's code on any bytes: proved for any arguments that are told. -/
import Derived.Test.YtfipbmnpbadcnaaGreatDoorP8
import Derived.Test.YtfipbmnpbadcnaaGreatDoorP7
set_option maxRecDepth 1000000
set_option linter.unusedVariables false
set_option linter.unusedSimpArgs false
namespace Go.AI
open Go.Proofs N8
noncomputable section
def c162_l0 : D := (seqD (seqO (oCmp gt8 gt7 iltF strLt) st9 <| normD) (seqD (condD gt9 normD (exitD 0)) (seqD (blockD 1 (seqD (seqO (oMv gt8) st10 <| seqO (oMv gt10) st5 <| normD) (seqD (seqO (oMv gt1) st11 <| seqO (oMv gt0) st12 <| seqO (oMv gt5) st13 <| seqO (oIdxS gt12 gt13 1) st14 <| seqO (oLoad1 gt14) st15 <| seqO (oEq gt11 gt15 eqS false) st16 <| normD) (condD gt16 (seqD (seqO (oMv gt5) st17 <| seqO (oMv gt17) st4 <| normD) retD) normD)))) (seqO (oAddS gt8 (k (nI .i64 1))) st18 <| seqO (oMv gt18) st8 <| normD))))
def c162 : CF := ⟨[(gt4, none)], (seqD (seqO (oMv (k (nI .i64 0))) st4 <| normD) (seqD (seqD (seqO (oMv gt0) st6 <| seqO (oLenL gt6) st7 <| seqO (oMv (k (nI .i64 0))) st8 <| normD) (blockD 0 (loopD c162_l0))) (seqD (seqO (oMv (k (.int .i64 (.negSucc 0)))) st4 <| normD) retD)))⟩
def c82 : CF := ⟨[(gt4, none)], (seqD (seqO (oMv (k (.bool false))) st4 <| normD) (seqD (seqO (oMv gt0) st5 <| seqO (oMv gt1) st6 <| seqO (oCallF 162 [gt5, gt6]) st7 <| seqO (oCmp gt7 (k (nI .i64 0)) igeF strGe) st8 <| seqO (oMv gt8) st4 <| normD) retD))⟩
def c84 : CF := ⟨[(gt2, none)], (seqD (seqO (oMv (k .nils)) st2 <| normD) (seqD (seqD (seqO (oMv gt0) st3 <| seqO (oEq gt3 (k .nils) eqL false) st4 <| normD) (condD gt4 (seqD (seqO (oMv (k .nils)) st2 <| normD) retD) normD)) (seqD (seqO (oBSlice 82 2 0 (List.replicate 0 [(.str []), (.str [])]).flatten []) st5 <| seqO (oMv gt0) st6 <| seqO (oAppend gt5 gt6 82 2 32) st7 <| seqO (oMv gt7) st2 <| normD) retD)))⟩
def c28_l0 : D := (seqD (seqO (oCmp gt9 gt8 iltF strLt) st10 <| normD) (seqD (condD gt10 normD (exitD 0)) (seqD (blockD 1 (seqD (seqO (oMv gt9) st11 <| seqO (oIdxS gt7 gt9 2) st12 <| seqO (oLoad gt12 2) st13 <| seqO (oAlloc 82 [(.str []), (.str [])]) st4 <| seqO (oMv gt11) st3 <| seqO (oStore gt4 gt13 2) d0 <| normD) (seqD (drawnD [⟨oOff gt4 0, none, [(st4, gt4)], st14, .free, 0, 0⟩, ⟨oLoad1 gt14, none, [(st14, gt14)], st15, .read, 1, 1⟩, ⟨oEq gt15 (k (.str [])) eqS false, none, [(st15, gt15)], st16, .free, 2, 3⟩, ⟨oMv gt16, none, [(st16, gt16)], st17, .free, 3, 7⟩, ⟨oOff gt4 0, (some (gt17, false)), [(st4, gt4)], st18, .free, 4, 15⟩, ⟨oLoad1 gt18, (some (gt17, false)), [(st18, gt18)], st19, .read, 5, 31⟩, ⟨oCallF 81 [gt19, (k (nI .i64 255))], (some (gt17, false)), [(st19, gt19)], st20, .eff, 6, 63⟩, ⟨oNot gt20, (some (gt17, false)), [(st20, gt20)], st21, .free, 7, 127⟩, ⟨oPick gt17 (k (.bool true)) gt21, none, [(st17, gt17), (st21, gt21)], st22, .free, 8, 255⟩, ⟨oMv gt22, none, [(st22, gt22)], st23, .free, 9, 511⟩, ⟨oOff gt4 1, (some (gt23, false)), [(st4, gt4)], st24, .free, 10, 1023⟩, ⟨oLoad1 gt24, (some (gt23, false)), [(st24, gt24)], st25, .read, 11, 2047⟩, ⟨oCallF 81 [gt25, (k (nI .i64 4096))], (some (gt23, false)), [(st25, gt25)], st26, .eff, 12, 4095⟩, ⟨oNot gt26, (some (gt23, false)), [(st26, gt26)], st27, .free, 13, 8191⟩, ⟨oPick gt23 (k (.bool true)) gt27, none, [(st23, gt23), (st27, gt27)], st28, .free, 14, 16383⟩, ⟨oMv gt28, none, [(st28, gt28)], st29, .free, 15, 32767⟩, ⟨oMv gt3, (some (gt29, false)), [(st3, gt3)], st30, .free, 16, 65535⟩, ⟨oCmp gt30 (k (nI .i64 0)) igtF strGt, (some (gt29, false)), [(st30, gt30)], st31, .free, 17, 131071⟩, ⟨oMv gt31, (some (gt29, false)), [(st31, gt31)], st32, .free, 18, 262143⟩, ⟨oOff gt1 34, (some (gt32, true)), [(st1, gt1)], st33, .free, 19, 524287⟩, ⟨oLoad1 gt33, (some (gt32, true)), [(st33, gt33)], st34, .read, 20, 1048575⟩, ⟨oMv gt3, (some (gt32, true)), [(st3, gt3)], st35, .free, 21, 524287⟩, ⟨oSub gt35 (k (nI .i64 1)), (some (gt32, true)), [(st35, gt35)], st36, .free, 22, 2621439⟩, ⟨oIdxS gt34 gt36 2, (some (gt32, true)), [(st34, gt34), (st36, gt36)], st37, .free, 23, 8388607⟩, ⟨oOff gt37 0, (some (gt32, true)), [(st37, gt37)], st38, .free, 24, 16777215⟩, ⟨oLoad1 gt38, (some (gt32, true)), [(st38, gt38)], st39, .read, 25, 33554431⟩, ⟨oOff gt4 0, (some (gt32, true)), [(st4, gt4)], st40, .free, 26, 524287⟩, ⟨oLoad1 gt40, (some (gt32, true)), [(st40, gt40)], st41, .read, 27, 67633151⟩, ⟨oCmp gt39 gt41 igeF strGe, (some (gt32, true)), [(st39, gt39), (st41, gt41)], st42, .free, 28, 268435455⟩, ⟨oPick gt32 gt42 (k (.bool false)), (some (gt29, false)), [(st32, gt32), (st42, gt42)], st43, .free, 29, 536870911⟩, ⟨oPick gt29 (k (.bool true)) gt43, none, [(st29, gt29), (st43, gt43)], st44, .free, 30, 1073741823⟩]) (condD gt44 (seqD (seqO (oMv (k (.bool false))) st2 <| normD) retD) normD)))) (seqO (oAddS gt9 (k (nI .i64 1))) st45 <| seqO (oMv gt45) st9 <| normD))))
def c28 : CF := ⟨[(gt2, none)], (seqD (seqO (oBox gt0 45) st1 <| seqO (oMv (k (.bool false))) st2 <| normD) (seqD (seqD (seqO (oOff gt1 34) st6 <| seqO (oLoad1 gt6) st7 <| seqO (oLenL gt7) st8 <| seqO (oMv (k (nI .i64 0))) st9 <| normD) (blockD 0 (loopD c28_l0))) (seqD (seqO (oBSlice 9 1 4 (List.replicate 4 [(.str [])]).flatten [⟨0, 1, (k (.str [97, 112, 112, 108, 105, 99, 97, 116, 105, 111, 110, 47, 118, 110, 100, 46, 111, 99, 105, 46, 105, 109, 97, 103, 101, 46, 105, 110, 100, 101, 120, 46, 118, 49, 43, 106, 115, 111, 110]))⟩, ⟨1, 1, (k (.str [97, 112, 112, 108, 105, 99, 97, 116, 105, 111, 110, 47, 118, 110, 100, 46, 111, 99, 105, 46, 105, 109, 97, 103, 101, 46, 109, 97, 110, 105, 102, 101, 115, 116, 46, 118, 49, 43, 106, 115, 111, 110]))⟩, ⟨2, 1, (k (.str [97, 112, 112, 108, 105, 99, 97, 116, 105, 111, 110, 47, 118, 110, 100, 46, 111, 99, 105, 46, 105, 109, 97, 103, 101, 46, 99, 111, 110, 102, 105, 103, 46, 118, 49, 43, 106, 115, 111, 110]))⟩, ⟨3, 1, (k (.str [97, 112, 112, 108, 105, 99, 97, 116, 105, 111, 110, 47, 118, 110, 100, 46, 111, 99, 105, 46, 105, 109, 97, 103, 101, 46, 108, 97, 121, 101, 114, 46, 118, 49, 46, 116, 97, 114, 43, 103, 122, 105, 112]))⟩]) st46 <| seqO (oMv gt46) st5 <| normD) (seqD (seqO (oMv gt5) st47 <| seqO (oOff gt1 0) st48 <| seqO (oLoad1 gt48) st49 <| seqO (oCallF 82 [gt47, gt49]) st50 <| seqO (oMv gt50) st51 <| seqG gt51 true (oOff gt1 33) st52 <| seqG gt51 true (oLoad1 gt52) st53 <| seqG gt51 true (oCmp gt53 (k (nI .i64 0)) igeF strGe) st54 <| seqO (oPick gt51 gt54 (k (.bool false))) st55 <| seqO (oMv gt55) st56 <| seqG gt56 true (oOff gt1 33) st57 <| seqG gt56 true (oLoad1 gt57) st58 <| seqG gt56 true (oCmp gt58 (k (nI .i64 1099511627776)) ileF strLe) st59 <| seqO (oPick gt56 gt59 (k (.bool false))) st60 <| seqO (oMv gt60) st61 <| seqG gt61 true (oOff gt1 34) st62 <| seqG gt61 true (oLoad1 gt62) st63 <| seqG gt61 true (oLenL gt63) st64 <| seqG gt61 true (oCmp gt64 (k (nI .i64 16)) ileF strLe) st65 <| seqO (oPick gt61 gt65 (k (.bool false))) st66 <| seqO (oMv gt66) st2 <| normD) retD))))⟩
def c31 : CF := ⟨[(gt6, some (35, true)), (gt7, none)], (seqD (seqO (oAlloc 45 [(.str []), (nI .u8 0), (nI .u8 0), (nI .u8 0), (nI .u8 0), (nI .u8 0), (nI .u8 0), (nI .u8 0), (nI .u8 0), (nI .u8 0), (nI .u8 0), (nI .u8 0), (nI .u8 0), (nI .u8 0), (nI .u8 0), (nI .u8 0), (nI .u8 0), (nI .u8 0), (nI .u8 0), (nI .u8 0), (nI .u8 0), (nI .u8 0), (nI .u8 0), (nI .u8 0), (nI .u8 0), (nI .u8 0), (nI .u8 0), (nI .u8 0), (nI .u8 0), (nI .u8 0), (nI .u8 0), (nI .u8 0), (nI .u8 0), (nI .i64 0), .nils]) st6 <| seqO (oMv (k (nI .i64 0))) st7 <| normD) (seqD (seqO (oMv gt0) st9 <| seqO (oMv gt1) st10 <| seqO (oCallF 83 [gt10]) st11 <| seqO (oMv gt1) st12 <| seqO (oLenL gt12) st13 <| seqO (oMv gt2) st14 <| seqO (oCallF 84 [gt14]) st15 <| seqO (oBuild [(.str []), (nI .u8 0), (nI .u8 0), (nI .u8 0), (nI .u8 0), (nI .u8 0), (nI .u8 0), (nI .u8 0), (nI .u8 0), (nI .u8 0), (nI .u8 0), (nI .u8 0), (nI .u8 0), (nI .u8 0), (nI .u8 0), (nI .u8 0), (nI .u8 0), (nI .u8 0), (nI .u8 0), (nI .u8 0), (nI .u8 0), (nI .u8 0), (nI .u8 0), (nI .u8 0), (nI .u8 0), (nI .u8 0), (nI .u8 0), (nI .u8 0), (nI .u8 0), (nI .u8 0), (nI .u8 0), (nI .u8 0), (nI .u8 0), (nI .i64 0), .nils] [⟨0, 1, gt9⟩, ⟨1, 32, gt11⟩, ⟨33, 1, gt13⟩, ⟨34, 1, gt15⟩]) st16 <| seqO (oAlloc 45 [(.str []), (nI .u8 0), (nI .u8 0), (nI .u8 0), (nI .u8 0), (nI .u8 0), (nI .u8 0), (nI .u8 0), (nI .u8 0), (nI .u8 0), (nI .u8 0), (nI .u8 0), (nI .u8 0), (nI .u8 0), (nI .u8 0), (nI .u8 0), (nI .u8 0), (nI .u8 0), (nI .u8 0), (nI .u8 0), (nI .u8 0), (nI .u8 0), (nI .u8 0), (nI .u8 0), (nI .u8 0), (nI .u8 0), (nI .u8 0), (nI .u8 0), (nI .u8 0), (nI .u8 0), (nI .u8 0), (nI .u8 0), (nI .u8 0), (nI .i64 0), .nils]) st8 <| seqO (oStore gt8 gt16 35) d0 <| normD) (seqD (seqD (seqO (oLoad gt8 35) st17 <| seqO (oCallF 28 [gt17]) st18 <| seqO (oNot gt18) st19 <| normD) (condD gt19 (seqD (seqO (oBuild [(.str []), (nI .u8 0), (nI .u8 0), (nI .u8 0), (nI .u8 0), (nI .u8 0), (nI .u8 0), (nI .u8 0), (nI .u8 0), (nI .u8 0), (nI .u8 0), (nI .u8 0), (nI .u8 0), (nI .u8 0), (nI .u8 0), (nI .u8 0), (nI .u8 0), (nI .u8 0), (nI .u8 0), (nI .u8 0), (nI .u8 0), (nI .u8 0), (nI .u8 0), (nI .u8 0), (nI .u8 0), (nI .u8 0), (nI .u8 0), (nI .u8 0), (nI .u8 0), (nI .u8 0), (nI .u8 0), (nI .u8 0), (nI .u8 0), (nI .i64 0), .nils] []) st20 <| seqO (oStore gt6 gt20 35) d0 <| seqO (oMv (k (nI .i64 1))) st7 <| normD) retD) normD)) (seqD (seqO (oLoad gt8 35) st21 <| seqO (oStore gt6 gt21 35) d0 <| seqO (oMv (k (nI .i64 0))) st7 <| normD) retD))))⟩
def c32 : CF := ⟨[(gt4, none)], (seqD (seqO (oBox gt0 45) st2 <| seqO (oMv (k (.bool false))) st4 <| normD) (seqD (drawnD [⟨oMv gt1, none, [(st1, gt1)], st5, .free, 0, 0⟩, ⟨oLenL gt5, none, [(st5, gt5)], st6, .free, 1, 1⟩, ⟨oOff gt2 33, none, [(st2, gt2)], st7, .free, 2, 0⟩, ⟨oLoad1 gt7, none, [(st7, gt7)], st8, .read, 3, 4⟩, ⟨oEq gt6 gt8 eqI false, none, [(st6, gt6), (st8, gt8)], st9, .free, 4, 15⟩, ⟨oMv gt9, none, [(st9, gt9)], st10, .free, 5, 31⟩, ⟨oMv gt1, (some (gt10, true)), [(st1, gt1)], st11, .free, 6, 63⟩, ⟨oOff gt2 1, (some (gt10, true)), [(st2, gt2)], st13, .free, 8, 63⟩, ⟨oLoad gt13 32, (some (gt10, true)), [(st13, gt13)], st14, .read, 9, 319⟩, ⟨oCallF 83 [gt11], (some (gt10, true)), [(st11, gt11)], st12, .eff, 7, 127⟩, ⟨oEq gt12 gt14 (eqT Tryz.prog 10 43) false, (some (gt10, true)), [(st12, gt12), (st14, gt14)], st15, .free, 10, 1023⟩, ⟨oPick gt10 gt15 (k (.bool false)), none, [(st10, gt10), (st15, gt15)], st16, .free, 11, 2047⟩, ⟨oMv gt16, none, [(st16, gt16)], st4, .eff, 12, 4095⟩]) retD))⟩
def c5_r0 : D := drawnD [⟨oMv gt0, none, [(st0, gt0)], st9, .free, 0, 0⟩, ⟨oMv gt0, none, [(st0, gt0)], st10, .free, 1, 0⟩, ⟨oLenL gt10, none, [(st10, gt10)], st11, .free, 2, 2⟩, ⟨oMinMax false [gt11, (k (nI .i64 500))], none, [(st11, gt11)], st12, .free, 3, 6⟩, ⟨oSlice 1 gt9 none (some gt12) none, none, [(st9, gt9), (st12, gt12)], st13, .read, 4, 15⟩, ⟨oMv gt1, none, [(st1, gt1)], st14, .free, 5, 0⟩, ⟨oMv gt1, none, [(st1, gt1)], st15, .free, 6, 0⟩, ⟨oLenL gt15, none, [(st15, gt15)], st16, .free, 7, 64⟩, ⟨oMinMax false [gt16, (k (nI .i64 500))], none, [(st16, gt16)], st17, .free, 8, 192⟩, ⟨oSlice 1 gt14 none (some gt17) none, none, [(st14, gt14), (st17, gt17)], st18, .read, 9, 480⟩, ⟨oMv gt13, none, [(st13, gt13)], st0, .eff, 10, 31⟩, ⟨oMv gt18, none, [(st18, gt18)], st1, .eff, 11, 2047⟩]
def c5_r1 : D := drawnD [⟨oMv gt6, none, [(st6, gt6)], st29, .free, 0, 0⟩, ⟨oEq gt29 (k (nI .i64 0)) eqI true, none, [(st29, gt29)], st30, .free, 1, 1⟩, ⟨oMv gt30, none, [(st30, gt30)], st31, .free, 2, 3⟩, ⟨oMv gt8, (some (gt31, false)), [(st8, gt8)], st32, .free, 3, 7⟩, ⟨oEq gt32 (k (nI .i64 0)) eqI true, (some (gt31, false)), [(st32, gt32)], st33, .free, 4, 15⟩, ⟨oPick gt31 (k (.bool true)) gt33, none, [(st31, gt31), (st33, gt33)], st34, .free, 5, 31⟩, ⟨oMv gt34, none, [(st34, gt34)], st35, .free, 6, 63⟩, ⟨oLoad gt5 35, (some (gt35, false)), [(st5, gt5)], st36, .read, 7, 127⟩, ⟨oMv gt0, (some (gt35, false)), [(st0, gt0)], st37, .free, 8, 127⟩, ⟨oCallF 32 [gt36, gt37], (some (gt35, false)), [(st36, gt36), (st37, gt37)], st38, .eff, 9, 511⟩, ⟨oNot gt38, (some (gt35, false)), [(st38, gt38)], st39, .free, 10, 1023⟩, ⟨oPick gt35 (k (.bool true)) gt39, none, [(st35, gt35), (st39, gt39)], st40, .free, 11, 2047⟩, ⟨oMv gt40, none, [(st40, gt40)], st41, .free, 12, 4095⟩, ⟨oLoad gt5 35, (some (gt41, false)), [(st5, gt5)], st42, .read, 13, 8191⟩, ⟨oMv gt0, (some (gt41, false)), [(st0, gt0)], st43, .free, 14, 8191⟩, ⟨oBSlice 5 1 1 [(nI .u8 0)] [⟨0, 1, (k (nI .u8 0))⟩], (some (gt41, false)), [], st45, .free, 16, 8191⟩, ⟨oAppend (k .nils) gt43 5 1 1, (some (gt41, false)), [(st43, gt43)], st44, .eff, 15, 24575⟩, ⟨oAppend gt44 gt45 5 1 1, (some (gt41, false)), [(st44, gt44), (st45, gt45)], st46, .eff, 17, 122879⟩, ⟨oCallF 32 [gt42, gt46], (some (gt41, false)), [(st42, gt42), (st46, gt46)], st47, .eff, 18, 262143⟩, ⟨oPick gt41 (k (.bool true)) gt47, none, [(st41, gt41), (st47, gt47)], st48, .free, 19, 524287⟩, ⟨oMv gt48, none, [(st48, gt48)], st49, .free, 20, 1048575⟩, ⟨oMv gt0, (some (gt49, false)), [(st0, gt0)], st50, .free, 21, 2097151⟩, ⟨oLenL gt50, (some (gt49, false)), [(st50, gt50)], st51, .free, 22, 4194303⟩, ⟨oCmp gt51 (k (nI .i64 0)) igtF strGt, (some (gt49, false)), [(st51, gt51)], st52, .free, 23, 8388607⟩, ⟨oMv gt52, (some (gt49, false)), [(st52, gt52)], st53, .free, 24, 16777215⟩, ⟨oLoad gt5 35, (some (gt53, true)), [(st5, gt5)], st54, .read, 25, 33554431⟩, ⟨oMv gt0, (some (gt53, true)), [(st0, gt0)], st55, .free, 26, 33554431⟩, ⟨oSlice 1 gt55 (some (k (nI .i64 1))) none none, (some (gt53, true)), [(st55, gt55)], st56, .read, 27, 100663295⟩, ⟨oCallF 32 [gt54, gt56], (some (gt53, true)), [(st54, gt54), (st56, gt56)], st57, .eff, 28, 268435455⟩, ⟨oPick gt53 gt57 (k (.bool false)), (some (gt49, false)), [(st53, gt53), (st57, gt57)], st58, .free, 29, 536870911⟩, ⟨oPick gt49 (k (.bool true)) gt58, none, [(st49, gt49), (st58, gt58)], st59, .free, 30, 1073741823⟩]
def c5 : CF := ⟨[(gt4, none)], (seqD (seqO (oMv (k (.bool false))) st4 <| normD) (seqD c5_r0 (seqD (seqO (oMv gt0) st20 <| seqO (oCallF 31 [(k (.str [97, 112, 112, 108, 105, 99, 97, 116, 105, 111, 110, 47, 118, 110, 100, 46, 111, 99, 105, 46, 105, 109, 97, 103, 101, 46, 108, 97, 121, 101, 114, 46, 118, 49, 46, 116, 97, 114, 43, 103, 122, 105, 112])), gt20, (k .nils)]) st21 <| seqO (oMv gt21) st19 <| seqO (oExtr gt19 0) st22 <| seqO (oExtr gt19 1) st23 <| seqO (oAlloc 45 [(.str []), (nI .u8 0), (nI .u8 0), (nI .u8 0), (nI .u8 0), (nI .u8 0), (nI .u8 0), (nI .u8 0), (nI .u8 0), (nI .u8 0), (nI .u8 0), (nI .u8 0), (nI .u8 0), (nI .u8 0), (nI .u8 0), (nI .u8 0), (nI .u8 0), (nI .u8 0), (nI .u8 0), (nI .u8 0), (nI .u8 0), (nI .u8 0), (nI .u8 0), (nI .u8 0), (nI .u8 0), (nI .u8 0), (nI .u8 0), (nI .u8 0), (nI .u8 0), (nI .u8 0), (nI .u8 0), (nI .u8 0), (nI .u8 0), (nI .i64 0), .nils]) st5 <| seqO (oStore gt5 gt22 35) d0 <| seqO (oMv gt23) st6 <| normD) (seqD (seqO (oMv gt1) st25 <| seqO (oCallF 31 [(k (.str [97, 112, 112, 108, 105, 99, 97, 116, 105, 111, 110, 47, 118, 110, 100, 46, 111, 99, 105, 46, 105, 109, 97, 103, 101, 46, 108, 97, 121, 101, 114, 46, 118, 49, 46, 116, 97, 114, 43, 103, 122, 105, 112])), gt25, (k .nils)]) st26 <| seqO (oMv gt26) st24 <| seqO (oExtr gt24 0) st27 <| seqO (oExtr gt24 1) st28 <| seqO (oAlloc 45 [(.str []), (nI .u8 0), (nI .u8 0), (nI .u8 0), (nI .u8 0), (nI .u8 0), (nI .u8 0), (nI .u8 0), (nI .u8 0), (nI .u8 0), (nI .u8 0), (nI .u8 0), (nI .u8 0), (nI .u8 0), (nI .u8 0), (nI .u8 0), (nI .u8 0), (nI .u8 0), (nI .u8 0), (nI .u8 0), (nI .u8 0), (nI .u8 0), (nI .u8 0), (nI .u8 0), (nI .u8 0), (nI .u8 0), (nI .u8 0), (nI .u8 0), (nI .u8 0), (nI .u8 0), (nI .u8 0), (nI .u8 0), (nI .u8 0), (nI .i64 0), .nils]) st7 <| seqO (oStore gt7 gt27 35) d0 <| seqO (oMv gt28) st8 <| normD) (seqD (seqD c5_r1 (condD gt59 (seqD (seqO (oMv (k (.bool false))) st4 <| normD) retD) normD)) (seqD (seqO (oLoad gt5 35) st60 <| seqO (oMv gt1) st61 <| seqO (oCallF 32 [gt60, gt61]) st62 <| seqO (oMv gt0) st63 <| seqO (oLenL gt63) st64 <| seqO (oMv gt1) st65 <| seqO (oLenL gt65) st66 <| seqO (oEq gt64 gt66 eqI false) st67 <| seqO (oMv gt67) st68 <| seqG gt68 true (oOff gt5 1) st69 <| seqG gt68 true (oLoad gt69 32) st70 <| seqG gt68 true (oOff gt7 1) st71 <| seqG gt68 true (oLoad gt71 32) st72 <| seqG gt68 true (oEq gt70 gt72 (eqT Tryz.prog 10 43) false) st73 <| seqO (oPick gt68 gt73 (k (.bool false))) st74 <| seqO (oEq gt62 gt74 eqB false) st75 <| seqO (oMv gt75) st76 <| seqG gt76 true (oCallF 30 []) st77 <| seqO (oPick gt76 gt77 (k (.bool false))) st78 <| seqO (oMv gt78) st4 <| normD) retD))))))⟩
end
end Go.AI

namespace Go.AI
open Go
noncomputable section
variable {lib : Nat → List AV → Heap → Option CR} {fs : T CF} {fuel : Nat}
abbrev mIndex : List UInt8 := [97, 112, 112, 108, 105, 99, 97, 116, 105, 111, 110, 47, 118, 110, 100, 46, 111, 99, 105, 46, 105, 109, 97, 103, 101, 46, 105, 110, 100, 101, 120, 46, 118, 49, 43, 106, 115, 111, 110]
abbrev mImage : List UInt8 := [97, 112, 112, 108, 105, 99, 97, 116, 105, 111, 110, 47, 118, 110, 100, 46, 111, 99, 105, 46, 105, 109, 97, 103, 101, 46, 109, 97, 110, 105, 102, 101, 115, 116, 46, 118, 49, 43, 106, 115, 111, 110]
abbrev mConfig : List UInt8 := [97, 112, 112, 108, 105, 99, 97, 116, 105, 111, 110, 47, 118, 110, 100, 46, 111, 99, 105, 46, 105, 109, 97, 103, 101, 46, 99, 111, 110, 102, 105, 103, 46, 118, 49, 43, 106, 115, 111, 110]
abbrev mLayer : List UInt8 := [97, 112, 112, 108, 105, 99, 97, 116, 105, 111, 110, 47, 118, 110, 100, 46, 111, 99, 105, 46, 105, 109, 97, 103, 101, 46, 108, 97, 121, 101, 114, 46, 118, 49, 46, 116, 97, 114, 43, 103, 122, 105, 112]
theorem index_run {n : Nat} (hl : ∀ l H, lib 162 l H = none) (hf : fs.get 162 = some c162) {F : Nat} (hF : fuel = F + 5) {H : Heap} {b : Nat} {r : Row} (hr : H.t.get b = some (.row r)) (hc : Cells r [.str mIndex, .str mImage, .str mConfig, .str mLayer]) :
    callN lib fs fuel (n + 1) 162 [.slice b 0 4 none, .str mLayer] H = .ret (nI .i64 3) H := by
  rw [callN_fn (hl _ _) hf]
  subst hF
  have l0 : load1V (.ptr b 0) H = .val (.str mIndex) H := load1V_row (o := 0) hr hc (by decide)
  have l1 : load1V (.ptr b 1) H = .val (.str mImage) H := load1V_row (o := 1) hr hc (by decide)
  have l2 : load1V (.ptr b 2) H = .val (.str mConfig) H := load1V_row (o := 2) hr hc (by decide)
  have l3 : load1V (.ptr b 3) H = .val (.str mLayer) H := load1V_row (o := 3) hr hc (by decide)
  have e0 : ∀ H, eqV eqS false (.str mLayer) (.str mIndex) H = .val (.bool false) H := fun _ => rfl
  have e1 : ∀ H, eqV eqS false (.str mLayer) (.str mImage) H = .val (.bool false) H := fun _ => rfl
  have e2 : ∀ H, eqV eqS false (.str mLayer) (.str mConfig) H = .val (.bool false) H := fun _ => rfl
  have e3 : ∀ H, eqV eqS false (.str mLayer) (.str mLayer) H = .val (.bool true) H := fun _ => rfl
  have d0 : decide (0 < 4) = true := rfl
  have d1 : decide (1 < 4) = true := rfl
  have d2 : decide (2 < 4) = true := rfl
  have d3 : decide (3 < 4) = true := rfl
  simp (disch := omega) only [c162, c162_l0, argsT_2, loopD_run, loopN_succ, lenV_slice, cmpV_lt, d0, d1, d2, d3, idxSV_slice, Nat.zero_add, Nat.reduceAdd, l0, l1, l2, l3, e0, e1, e2, e3, addV_i, leaveB_ret, seqO_run, goOn_val, goOn_call, onCR_ret, seqD_run, thenR_normal, thenR_ret, thenR_exit, normD_run, retD_run, exitD_run, condD_run, isBn_bool, condK_true, condK_false, blockD_run, leaveB_normal, leaveB_same, leaveB_ret, d0_run, k_run, evs_nil, evs_cons, oMv_run, oNeg_run, oInt_run, oAddS_run, oSub_run, oMul_run, oQuo_run, oRem_run, oBits_run, oShl_run, oShr_run, oXorU_run, oCmp_run, oEq_run, oNot_run, oPick_run, oCallF_run, N8.g00, N8.g01, N8.g02, N8.g03, N8.g04, N8.g05, N8.g06, N8.g07, N8.g10, N8.g11, N8.g12, N8.g13, N8.g14, N8.g15, N8.g16, N8.g17, N8.g20, N8.g21, N8.g22, N8.g23, N8.g24, N8.g25, N8.g26, N8.g27, N8.g30, N8.g31, N8.g32, N8.g33, N8.g34, N8.g35, N8.g36, N8.g37, N8.g40, N8.g41, N8.g42, N8.g43, N8.g44, N8.g45, N8.g46, N8.g47, N8.g50, N8.g51, N8.g52, N8.g53, N8.g54, N8.g55, N8.g56, N8.g57, N8.g60, N8.g61, N8.g62, N8.g63, N8.g64, N8.g65, N8.g66, N8.g67, N8.g70, N8.g71, N8.g72, N8.g73, N8.g74, N8.g75, N8.g76, N8.g77, oLoad1_run, oLoad_run, oStore_run, oOff_run, oIdxA_run, oIdxS_run, oNil_run, oLenL_run, oAllocZ_run, offV_ptr, nilV_ptr, lenV_slice, put_get, new_get, put_nx, put_ro, new_nx, new_ro, Nat.zero_add, gtr0, gtr1, gtr4, gtr5, gtr6, gtr7, gtr8, gtr9, gtr10, gtr11, gtr12, gtr13, gtr14, gtr15, gtr16, gtr17, gtr18, str4, str5, str6, str7, str8, str9, str10, str11, str12, str13, str14, str15, str16, str17, str18, str0, str1, gtr0, gtr1]
  simp only [outF_ret]
  rfl
theorem contains_run {n : Nat} (hl : ∀ l H, lib 162 l H = none) (hf : fs.get 162 = some c162) (hl2 : ∀ l H, lib 82 l H = none) (hf2 : fs.get 82 = some c82) {F : Nat} (hF : fuel = F + 5) {H : Heap} {b : Nat} {r : Row} (hr : H.t.get b = some (.row r)) (hc : Cells r [.str mIndex, .str mImage, .str mConfig, .str mLayer]) :
    callN lib fs fuel (n + 2) 82 [.slice b 0 4 none, .str mLayer] H = .ret (.bool true) H := by
  rw [callN_fn (hl2 _ _) hf2]
  have e := index_run (n := n) hl hf hF hr hc
  have g : ∀ H, cmpV igeF strGe (nI .i64 3) (nI .i64 0) H = .val (.bool true) H := fun _ => rfl
  simp (disch := omega) only [c82, argsT_2, e, g, seqO_run, goOn_val, goOn_call, onCR_ret, seqD_run, thenR_normal, thenR_ret, thenR_exit, normD_run, retD_run, exitD_run, condD_run, isBn_bool, condK_true, condK_false, blockD_run, leaveB_normal, leaveB_same, leaveB_ret, d0_run, k_run, evs_nil, evs_cons, oMv_run, oNeg_run, oInt_run, oAddS_run, oSub_run, oMul_run, oQuo_run, oRem_run, oBits_run, oShl_run, oShr_run, oXorU_run, oCmp_run, oEq_run, oNot_run, oPick_run, oCallF_run, N8.g00, N8.g01, N8.g02, N8.g03, N8.g04, N8.g05, N8.g06, N8.g07, N8.g10, N8.g11, N8.g12, N8.g13, N8.g14, N8.g15, N8.g16, N8.g17, N8.g20, N8.g21, N8.g22, N8.g23, N8.g24, N8.g25, N8.g26, N8.g27, N8.g30, N8.g31, N8.g32, N8.g33, N8.g34, N8.g35, N8.g36, N8.g37, N8.g40, N8.g41, N8.g42, N8.g43, N8.g44, N8.g45, N8.g46, N8.g47, N8.g50, N8.g51, N8.g52, N8.g53, N8.g54, N8.g55, N8.g56, N8.g57, N8.g60, N8.g61, N8.g62, N8.g63, N8.g64, N8.g65, N8.g66, N8.g67, N8.g70, N8.g71, N8.g72, N8.g73, N8.g74, N8.g75, N8.g76, N8.g77, oLoad1_run, oLoad_run, oStore_run, oOff_run, oIdxA_run, oIdxS_run, oNil_run, oLenL_run, oAllocZ_run, offV_ptr, nilV_ptr, lenV_slice, put_get, new_get, put_nx, put_ro, new_nx, new_ro, Nat.zero_add, gtr0, gtr1, gtr4, gtr5, gtr6, gtr7, gtr8, str4, str5, str6, str7, str8, str0, str1, gtr0, gtr1]
  simp only [outF_ret]
  rfl
theorem clone_run {n : Nat} (hl : ∀ l H, lib 84 l H = none) (hf : fs.get 84 = some c84) (H : Heap) : callN lib fs fuel (n + 1) 84 [.nils] H = .ret .nils H := by
  rw [callN_fn (hl _ _) hf]
  have g : ∀ H, eqV eqL false .nils .nils H = .val (.bool true) H := fun _ => rfl
  simp (disch := omega) only [c84, argsT_1, g, seqO_run, goOn_val, goOn_call, onCR_ret, seqD_run, thenR_normal, thenR_ret, thenR_exit, normD_run, retD_run, exitD_run, condD_run, isBn_bool, condK_true, condK_false, blockD_run, leaveB_normal, leaveB_same, leaveB_ret, d0_run, k_run, evs_nil, evs_cons, oMv_run, oNeg_run, oInt_run, oAddS_run, oSub_run, oMul_run, oQuo_run, oRem_run, oBits_run, oShl_run, oShr_run, oXorU_run, oCmp_run, oEq_run, oNot_run, oPick_run, oCallF_run, N8.g00, N8.g01, N8.g02, N8.g03, N8.g04, N8.g05, N8.g06, N8.g07, N8.g10, N8.g11, N8.g12, N8.g13, N8.g14, N8.g15, N8.g16, N8.g17, N8.g20, N8.g21, N8.g22, N8.g23, N8.g24, N8.g25, N8.g26, N8.g27, N8.g30, N8.g31, N8.g32, N8.g33, N8.g34, N8.g35, N8.g36, N8.g37, N8.g40, N8.g41, N8.g42, N8.g43, N8.g44, N8.g45, N8.g46, N8.g47, N8.g50, N8.g51, N8.g52, N8.g53, N8.g54, N8.g55, N8.g56, N8.g57, N8.g60, N8.g61, N8.g62, N8.g63, N8.g64, N8.g65, N8.g66, N8.g67, N8.g70, N8.g71, N8.g72, N8.g73, N8.g74, N8.g75, N8.g76, N8.g77, oLoad1_run, oLoad_run, oStore_run, oOff_run, oIdxA_run, oIdxS_run, oNil_run, oLenL_run, oAllocZ_run, offV_ptr, nilV_ptr, lenV_slice, put_get, new_get, put_nx, put_ro, new_nx, new_ro, Nat.zero_add, gtr0, gtr2, gtr3, gtr4, gtr5, gtr6, gtr7, str2, str3, str4, str5, str6, str7, str0, gtr0]
  simp only [outF_ret]
  rfl
end
end Go.AI

namespace Go.AI
open Go
noncomputable section
variable {lib : Nat → List AV → Heap → Option CR} {fs : T CF} {fuel : Nat}

/-- the cells of a descriptor without notes -/
def descL (m : List UInt8) (dg : List AV) (n : Nat) : List AV := .str m :: (dg ++ [nI .i64 n, .nils])
theorem descL_len (m : List UInt8) {dg : List AV} (h : dg.length = 32) (n : Nat) : (descL m dg n).length = 35 := by unfold descL; simp [h]
theorem descL_0 (m : List UInt8) (dg : List AV) (n : Nat) : (descL m dg n).getD 0 .unk = .str m := rfl
theorem descL_33 (m : List UInt8) {dg : List AV} (h : dg.length = 32) (n : Nat) : (descL m dg n).getD 33 .unk = nI .i64 n := by
  unfold descL
  rw [List.getD_eq_getElem?_getD, List.getElem?_cons_succ, List.getElem?_append_right (by omega), h]; rfl
theorem descL_34 (m : List UInt8) {dg : List AV} (h : dg.length = 32) (n : Nat) : (descL m dg n).getD 34 .unk = .nils := by
  unfold descL
  rw [List.getD_eq_getElem?_getD, List.getElem?_cons_succ, List.getElem?_append_right (by omega), h]; rfl
theorem cmpV_le (k : IntKind) (a b : Nat) (H : Heap) : cmpV ileF strLe (nI k a) (nI k b) H = .val (.bool (decide (a ≤ b))) H := by
  show onIf (kEq k k) (vBool (!ilt (.ofNat b) (.ofNat a)) H) = _
  rw [kEq_self, vBool_run, ilt_nat]
  show OR.val (.bool (!decide (b < a))) H = _
  congr 2
  by_cases h : b < a
  · rw [decide_eq_true h, decide_eq_false (by omega)]; rfl
  · rw [decide_eq_false h, decide_eq_true (by omega)]; rfl
theorem pickV_t (b c : AV) (H : Heap) : pickV (.bool true) b c H = .val b H := rfl
theorem pickV_f (b c : AV) (H : Heap) : pickV (.bool false) b c H = .val c H := rfl
theorem notV_b (b : Bool) (H : Heap) : notV (.bool b) H = .val (.bool (cond b false true)) H := rfl
abbrev mediaL : List AV := [.str mIndex, .str mImage, .str mConfig, .str mLayer]
theorem may_run {n : Nat} (hl : ∀ l H, lib 162 l H = none) (hf : fs.get 162 = some c162) (hl2 : ∀ l H, lib 82 l H = none) (hf2 : fs.get 82 = some c82) (hl3 : ∀ l H, lib 28 l H = none) (hf3 : fs.get 28 = some c28)
    {F : Nat} (hF : fuel = F + 5) {H : Heap} {dg : List AV} (hd : dg.length = 32) {m : Nat} (hm : m ≤ 1099511627776) :
    ∃ H', callN lib fs fuel (n + 3) 28 [.agg (descL mLayer dg m)] H = .ret (.bool true) H' ∧ Keep H H' [] := by
  rw [callN_fn (hl3 _ _) hf3]
  have box : boxV 45 (.agg (descL mLayer dg m)) H = .val (.ptr H.nx 0) (H.newRow 45 1 (descL mLayer dg m) true) := boxV_agg _ _ _ _
  have ll := descL_len mLayer hd m
  generalize ha : H.newRow 45 1 (descL mLayer dg m) true = Ha at box
  have nxa : Ha.nx = H.nx + 1 := by rw [← ha]; rfl
  have ka : Keep H Ha [] := by rw [← ha]; exact Keep.new H _ []
  have ga : Ha.t.get H.nx = some (.row ⟨45, 1, lenL (descL mLayer dg m), T.ofList (descL mLayer dg m), .unk, 0, false, true, true⟩) := by rw [← ha, newRow_eq, new_get, if_pos rfl]
  have ca := Cells.new 45 1 (descL mLayer dg m) 0 false true true
  have l34 : load1V (.ptr H.nx 34) Ha = .val .nils Ha := by rw [load1V_row ga ca (by omega), descL_34 _ hd]
  have bs : bsliceV 9 1 4 (List.replicate 4 [(.str [])]).flatten [(0, 1, .str mIndex), (1, 1, .str mImage), (2, 1, .str mConfig), (3, 1, .str mLayer)] Ha = .val (.slice Ha.nx 0 4 none) (Ha.newRow 9 1 mediaL true) := rfl
  rw [nxa] at bs
  generalize hb : Ha.newRow 9 1 mediaL true = Hb at bs
  have nxb : Hb.nx = H.nx + 2 := by rw [← hb, newRow_eq, new_nx, nxa]
  have kab : Keep Ha Hb [] := by rw [← hb]; exact Keep.new Ha _ []
  have gb : Hb.t.get (H.nx + 1) = some (.row ⟨9, 1, lenL mediaL, T.ofList mediaL, .unk, 0, false, true, true⟩) := by rw [← hb, newRow_eq, new_get, nxa, if_pos rfl]
  have cb := Cells.new 9 1 mediaL 0 false true true
  have gab : Hb.t.get H.nx = some (.row ⟨45, 1, lenL (descL mLayer dg m), T.ofList (descL mLayer dg m), .unk, 0, false, true, true⟩) := by rw [kab.get H.nx (by omega) (by simp), ga]
  have b0 : load1V (.ptr H.nx 0) Hb = .val (.str mLayer) Hb := by rw [load1V_row gab ca (by omega), descL_0]
  have b33 : load1V (.ptr H.nx 33) Hb = .val (nI .i64 m) Hb := by rw [load1V_row gab ca (by omega), descL_33 _ hd]
  have b34 : load1V (.ptr H.nx 34) Hb = .val .nils Hb := by rw [load1V_row gab ca (by omega), descL_34 _ hd]
  have ec := contains_run (n := n) hl hf hl2 hf2 hF gb cb
  have d0 : decide (0 < 0) = false := rfl
  have d1 : decide (0 ≤ m) = true := decide_eq_true (Nat.zero_le _)
  have d2 : decide (m ≤ 1099511627776) = true := decide_eq_true hm
  have d3 : decide (0 ≤ 16) = true := rfl
  subst hF
  simp (disch := omega) only [c28, c28_l0, argsT_1, loopD_run, loopN_succ, oBox_run, box, l34, lenV_nil, cmpV_lt, cmpV_ge, cmpV_le, d0, d1, d2, d3, oBSlice_run, List.map_cons, List.map_nil, bs, b0, b33, b34, ec, Nat.zero_add, Nat.reduceAdd, seqG_run, guardK_tt, pickV_t, seqO_run, goOn_val, goOn_call, onCR_ret, seqD_run, thenR_normal, thenR_ret, thenR_exit, normD_run, retD_run, exitD_run, condD_run, isBn_bool, condK_true, condK_false, blockD_run, leaveB_normal, leaveB_same, leaveB_ret, d0_run, k_run, evs_nil, evs_cons, oMv_run, oNeg_run, oInt_run, oAddS_run, oSub_run, oMul_run, oQuo_run, oRem_run, oBits_run, oShl_run, oShr_run, oXorU_run, oCmp_run, oEq_run, oNot_run, oPick_run, oCallF_run, N8.g00, N8.g01, N8.g02, N8.g03, N8.g04, N8.g05, N8.g06, N8.g07, N8.g10, N8.g11, N8.g12, N8.g13, N8.g14, N8.g15, N8.g16, N8.g17, N8.g20, N8.g21, N8.g22, N8.g23, N8.g24, N8.g25, N8.g26, N8.g27, N8.g30, N8.g31, N8.g32, N8.g33, N8.g34, N8.g35, N8.g36, N8.g37, N8.g40, N8.g41, N8.g42, N8.g43, N8.g44, N8.g45, N8.g46, N8.g47, N8.g50, N8.g51, N8.g52, N8.g53, N8.g54, N8.g55, N8.g56, N8.g57, N8.g60, N8.g61, N8.g62, N8.g63, N8.g64, N8.g65, N8.g66, N8.g67, N8.g70, N8.g71, N8.g72, N8.g73, N8.g74, N8.g75, N8.g76, N8.g77, oLoad1_run, oLoad_run, oStore_run, oOff_run, oIdxA_run, oIdxS_run, oNil_run, oLenL_run, oAllocZ_run, offV_ptr, nilV_ptr, lenV_slice, put_get, new_get, put_nx, put_ro, new_nx, new_ro, Nat.zero_add, gtr0, gtr1, gtr2, gtr3, gtr4, gtr5, gtr6, gtr7, gtr8, gtr9, gtr10, gtr11, gtr12, gtr13, gtr14, gtr15, gtr16, gtr17, gtr18, gtr19, gtr20, gtr21, gtr22, gtr23, gtr24, gtr25, gtr26, gtr27, gtr28, gtr29, gtr30, gtr31, gtr32, gtr33, gtr34, gtr35, gtr36, gtr37, gtr38, gtr39, gtr40, gtr41, gtr42, gtr43, gtr44, gtr45, gtr46, gtr47, gtr48, gtr49, gtr50, gtr51, gtr52, gtr53, gtr54, gtr55, gtr56, gtr57, gtr58, gtr59, gtr60, gtr61, gtr62, gtr63, gtr64, gtr65, gtr66, str1, str2, str3, str4, str5, str6, str7, str8, str9, str10, str11, str12, str13, str14, str15, str16, str17, str18, str19, str20, str21, str22, str23, str24, str25, str26, str27, str28, str29, str30, str31, str32, str33, str34, str35, str36, str37, str38, str39, str40, str41, str42, str43, str44, str45, str46, str47, str48, str49, str50, str51, str52, str53, str54, str55, str56, str57, str58, str59, str60, str61, str62, str63, str64, str65, str66, str0, gtr0]
  simp only [outF_ret]
  exact ⟨_, rfl, ka.trans' kab⟩
end
end Go.AI

namespace Go.AI
open Go
noncomputable section
variable {lib : Nat → List AV → Heap → Option CR} {fs : T CF} {fuel : Nat}

abbrev descZ : List AV := [(.str []), (nI .u8 0), (nI .u8 0), (nI .u8 0), (nI .u8 0), (nI .u8 0), (nI .u8 0), (nI .u8 0), (nI .u8 0), (nI .u8 0), (nI .u8 0), (nI .u8 0), (nI .u8 0), (nI .u8 0), (nI .u8 0), (nI .u8 0), (nI .u8 0), (nI .u8 0), (nI .u8 0), (nI .u8 0), (nI .u8 0), (nI .u8 0), (nI .u8 0), (nI .u8 0), (nI .u8 0), (nI .u8 0), (nI .u8 0), (nI .u8 0), (nI .u8 0), (nI .u8 0), (nI .u8 0), (nI .u8 0), (nI .u8 0), (nI .i64 0), .nils]
theorem buildV_desc (m : List UInt8) {dg : List AV} (hd : dg.length = 32) (n : Nat) (H : Heap) :
    buildV descZ [(0, 1, .str m), (1, 32, .agg dg), (33, 1, nI .i64 n), (34, 1, .nils)] H = .val (.agg (descL m dg n)) H := by
  have e32 : Nat.beq (lenL dg) 32 = true := by rw [lenL_eq, hd]; rfl
  have s1 : takeL 1 (AV.str m :: descZ.tail) = [.str m] := rfl
  have s2 : dropL 33 (AV.str m :: descZ.tail) = [nI .i64 0, .nils] := rfl
  have h1 : takeL 33 (AV.str m :: (dg ++ [nI .i64 0, .nils])) = .str m :: dg := by
    rw [takeL_eq, List.take_succ_cons, List.take_append_of_le_length (by omega), List.take_of_length_le (by omega)]
  have h2 : dropL 34 (AV.str m :: (dg ++ [nI .i64 0, .nils])) = [.nils] := by
    rw [dropL_eq, List.drop_succ_cons, List.drop_append, List.drop_of_length_le (by omega), hd]; rfl
  have h3 : takeL 34 (AV.str m :: (dg ++ [nI .i64 n, .nils])) = .str m :: (dg ++ [nI .i64 n]) := by
    rw [takeL_eq, List.take_succ_cons, List.take_append, List.take_of_length_le (by omega), hd]; rfl
  have h4 : dropL 35 (AV.str m :: (dg ++ [nI .i64 n, .nils])) = [] := by
    rw [dropL_eq]; exact List.drop_eq_nil_of_le (by simp; omega)
  have l1 : lenL (AV.str m :: (dg ++ [nI .i64 0, .nils])) = 35 := by rw [lenL_eq]; simp [hd]
  have l2 : lenL (AV.str m :: (dg ++ [nI .i64 n, .nils])) = 35 := by rw [lenL_eq]; simp [hd]
  show onIf (Nat.beq (lenL dg) 32) (onIf true (fillV (fun cs => .val (.agg cs) H) [(33, 1, nI .i64 n), (34, 1, .nils)] (takeL 1 (AV.str m :: descZ.tail) ++ (dg ++ dropL 33 (AV.str m :: descZ.tail))))) = _
  rw [e32, s1, s2]
  show onIf (Nat.ble (33 + 1) (lenL (AV.str m :: (dg ++ [nI .i64 0, .nils])))) (fillV (fun cs => .val (.agg cs) H) [(34, 1, .nils)] (takeL 33 (AV.str m :: (dg ++ [nI .i64 0, .nils])) ++ ([nI .i64 n] ++ dropL 34 (AV.str m :: (dg ++ [nI .i64 0, .nils]))))) = _
  rw [l1, h1, h2]
  have e5 : AV.str m :: dg ++ ([nI .i64 n] ++ [.nils]) = .str m :: (dg ++ [nI .i64 n, .nils]) := by simp
  rw [e5]
  show onIf (Nat.ble (34 + 1) (lenL (AV.str m :: (dg ++ [nI .i64 n, .nils])))) (.val (.agg (takeL 34 (AV.str m :: (dg ++ [nI .i64 n, .nils])) ++ ([.nils] ++ dropL 35 (AV.str m :: (dg ++ [nI .i64 n, .nils]))))) H) = _
  rw [l2, h3, h4]
  have e6 : AV.str m :: (dg ++ [nI .i64 n]) ++ ([.nils] ++ []) = descL m dg n := by unfold descL; simp
  rw [e6]
  rfl
theorem describe_run {n : Nat} (hl : ∀ l H, lib 162 l H = none) (hf : fs.get 162 = some c162) (hl2 : ∀ l H, lib 82 l H = none) (hf2 : fs.get 82 = some c82) (hl3 : ∀ l H, lib 28 l H = none) (hf3 : fs.get 28 = some c28)
    (hl4 : ∀ l H, lib 84 l H = none) (hf4 : fs.get 84 = some c84) (hl5 : ∀ l H, lib 31 l H = none) (hf5 : fs.get 31 = some c31)
    {F : Nat} (hF : fuel = F + 5) {H : Heap} {v : AV} {dg : List AV} (hd : dg.length = 32) {m : Nat} (hm : m ≤ 1099511627776) (hro : H.ro ≤ H.nx) (hlen : ∀ H', lenV v H' = .val (nI .i64 m) H')
    (hS : ∀ H', Keep H H' [] → lib 83 [v] H' = some (.ret (.agg dg) H')) :
    ∃ H', callN lib fs fuel (n + 4) 31 [.str mLayer, v, .nils] H = .ret (.tup [.agg (descL mLayer dg m), nI .i64 0]) H' ∧ Keep H H' [] := by
  rw [callN_fn (hl5 _ _) hf5]
  have ll := descL_len mLayer hd m
  have al : ∀ tm, oAlloc 45 descZ tm H = .val (.ptr H.nx 0) (H.newRow 45 1 descZ true) := fun tm => oAlloc_run _ _ (by decide) tm H
  generalize ha : H.newRow 45 1 descZ true = Ha at al
  have nxa : Ha.nx = H.nx + 1 := by rw [← ha]; rfl
  have ka : Keep H Ha [] := by rw [← ha]; exact Keep.new H _ []
  have ga : Ha.t.get H.nx = some (.row ⟨45, 1, lenL descZ, T.ofList descZ, .unk, 0, false, true, true⟩) := by rw [← ha, newRow_eq, new_get, if_pos rfl]
  have cz := Cells.new 45 1 descZ 0 false true true
  have es : callN lib fs fuel (n + 3) 83 [v] Ha = .ret (.agg dg) Ha := callN_hit (hS Ha ka)
  have ek := clone_run (fuel := fuel) (n := n + 2) hl4 hf4 Ha
  have al2 : ∀ tm, oAlloc 45 descZ tm Ha = .val (.ptr (H.nx + 1) 0) (Ha.newRow 45 1 descZ true) := fun tm => by rw [← nxa]; exact oAlloc_run _ _ (by decide) tm Ha
  generalize hb : Ha.newRow 45 1 descZ true = Hb at al2
  have nxb : Hb.nx = H.nx + 2 := by rw [← hb, newRow_eq, new_nx, nxa]
  have kab : Keep Ha Hb [] := by rw [← hb]; exact Keep.new Ha _ []
  have gb : Hb.t.get (H.nx + 1) = some (.row ⟨45, 1, lenL descZ, T.ofList descZ, .unk, 0, false, true, true⟩) := by rw [← hb, newRow_eq, new_get, nxa, if_pos rfl]
  have kb := ka.trans' kab
  have st1 : storeV 35 (.ptr (H.nx + 1) 0) (.agg (descL mLayer dg m)) Hb = .val undefA (Hb.put (H.nx + 1) (.row (Row.setCells ⟨45, 1, lenL descZ, T.ofList descZ, .unk, 0, false, true, true⟩ (storeN (T.ofList descZ) 0 (descL mLayer dg m))))) :=
    storeV_row (v := .agg (descL mLayer dg m)) gb cz rfl (by rw [kb.ro]; omega) rfl (by omega) ll (by decide)
  have cw : Cells (Row.setCells ⟨45, 1, lenL descZ, T.ofList descZ, .unk, 0, false, true, true⟩ (storeN (T.ofList descZ) 0 (descL mLayer dg m))) (descL mLayer dg m) := cz.whole (by rw [ll]; rfl)
  generalize hr1 : Row.setCells ⟨45, 1, lenL descZ, T.ofList descZ, .unk, 0, false, true, true⟩ (storeN (T.ofList descZ) 0 (descL mLayer dg m)) = r1 at st1 cw
  generalize hc : Hb.put (H.nx + 1) (.row r1) = Hc at st1
  have nxc : Hc.nx = H.nx + 2 := by rw [← hc, put_nx, nxb]
  have kc : Keep H Hc [] := by rw [← hc]; exact kb.then_put fun h => absurd h (by omega)
  have kac : Keep Ha Hc [] := by rw [← hc]; exact kab.then_put fun h => absurd h (by omega)
  have gc : Hc.t.get (H.nx + 1) = some (.row r1) := by rw [← hc, put_get, if_pos rfl]
  have ld1 : loadV 35 (.ptr (H.nx + 1) 0) Hc = .val (.agg (descL mLayer dg m)) Hc := by
    rw [loadV_row gc cw (by omega), List.drop_zero, List.take_of_length_le (by omega)]
  obtain ⟨Hd, em, kd⟩ := may_run (n := n) hl hf hl2 hf2 hl3 hf3 hF (H := Hc) hd hm
  have ld2 : loadV 35 (.ptr (H.nx + 1) 0) Hd = .val (.agg (descL mLayer dg m)) Hd := by
    rw [loadV_row (r := r1) (by rw [kd.get _ (by omega) (by simp)]; exact gc) cw (by omega), List.drop_zero, List.take_of_length_le (by omega)]
  have gd : Hd.t.get H.nx = some (.row ⟨45, 1, lenL descZ, T.ofList descZ, .unk, 0, false, true, true⟩) := by
    rw [kd.get _ (by omega) (by simp), kac.get _ (by omega) (by simp), ga]
  have st2 : storeV 35 (.ptr H.nx 0) (.agg (descL mLayer dg m)) Hd = .val undefA (Hd.put H.nx (.row (Row.setCells ⟨45, 1, lenL descZ, T.ofList descZ, .unk, 0, false, true, true⟩ (storeN (T.ofList descZ) 0 (descL mLayer dg m))))) :=
    storeV_row (v := .agg (descL mLayer dg m)) gd cz rfl (by rw [kd.ro, kc.ro]; omega) rfl (by omega) ll (by decide)
  rw [hr1] at st2
  have bd := buildV_desc mLayer hd m
  simp (disch := omega) only [c31, argsT_3, al, es, hlen, ek, oBuild_run, List.map_cons, List.map_nil, bd, al2, st1, ld1, em, notV_b, cond_true, cond_false, ld2, st2, seqO_run, goOn_val, goOn_call, onCR_ret, seqD_run, thenR_normal, thenR_ret, thenR_exit, normD_run, retD_run, exitD_run, condD_run, isBn_bool, condK_true, condK_false, blockD_run, leaveB_normal, leaveB_same, leaveB_ret, d0_run, k_run, evs_nil, evs_cons, oMv_run, oNeg_run, oInt_run, oAddS_run, oSub_run, oMul_run, oQuo_run, oRem_run, oBits_run, oShl_run, oShr_run, oXorU_run, oCmp_run, oEq_run, oNot_run, oPick_run, oCallF_run, N8.g00, N8.g01, N8.g02, N8.g03, N8.g04, N8.g05, N8.g06, N8.g07, N8.g10, N8.g11, N8.g12, N8.g13, N8.g14, N8.g15, N8.g16, N8.g17, N8.g20, N8.g21, N8.g22, N8.g23, N8.g24, N8.g25, N8.g26, N8.g27, N8.g30, N8.g31, N8.g32, N8.g33, N8.g34, N8.g35, N8.g36, N8.g37, N8.g40, N8.g41, N8.g42, N8.g43, N8.g44, N8.g45, N8.g46, N8.g47, N8.g50, N8.g51, N8.g52, N8.g53, N8.g54, N8.g55, N8.g56, N8.g57, N8.g60, N8.g61, N8.g62, N8.g63, N8.g64, N8.g65, N8.g66, N8.g67, N8.g70, N8.g71, N8.g72, N8.g73, N8.g74, N8.g75, N8.g76, N8.g77, oLoad1_run, oLoad_run, oStore_run, oOff_run, oIdxA_run, oIdxS_run, oNil_run, oLenL_run, oAllocZ_run, offV_ptr, nilV_ptr, lenV_slice, put_get, new_get, put_nx, put_ro, new_nx, new_ro, Nat.zero_add, gtr0, gtr1, gtr2, gtr6, gtr7, gtr8, gtr9, gtr10, gtr11, gtr12, gtr13, gtr14, gtr15, gtr16, gtr17, gtr18, gtr19, gtr20, gtr21, str6, str7, str8, str9, str10, str11, str12, str13, str14, str15, str16, str17, str18, str19, str20, str21, str0, str1, str2, gtr0, gtr1, gtr2]
  simp only [outF_ret]
  exact ⟨_, results_two_agg rfl (by rw [put_get, if_pos rfl]) cw ll, (kc.trans' kd).then_put fun h => absurd h (Nat.lt_irrefl _)⟩
end
end Go.AI

namespace Go.AI
open Go
noncomputable section
variable {lib : Nat → List AV → Heap → Option CR} {fs : T CF} {fuel : Nat}

theorem lowV_agg (n : Nat) (l : List AV) : lowV n (.agg l) = lowL n l := rfl
theorem lowV_undef (n : Nat) : lowV n undefA = true := rfl
theorem dig_und : Go.Proofs.Tryz.prog.underlying 43 = some (.array 32 5) := Go.Proofs.Tryz.underlying43
theorem u8_und : Go.Proofs.Tryz.prog.underlying 5 = some (.int .u8) := Go.Proofs.Tryz.underlying5
theorem u8_info : ∃ i, Go.Proofs.Tryz.prog.info? 5 = some i ∧ i.size = 1 := by
  have h : ((Go.Proofs.Tryz.prog.info? 5).map (·.size)) = some 1 := by kernel_rfl
  obtain ⟨i, h1, h2⟩ := Option.map_eq_some_iff.1 h
  exact ⟨i, h1, h2⟩
theorem dig_eq {l m : List UInt8} (hl : l.length = 32) (hm : m.length = 32) (H : Heap) : eqV (eqT Go.Proofs.Tryz.prog 10 43) false (.agg (l.map u8V)) (.agg (m.map u8V)) H = .val (.bool (decide (l = m))) H := by
  obtain ⟨i, h1, h2⟩ := u8_info
  exact eqT_bytes (d := 8) dig_und u8_und h1 h2 l m hl hm H
theorem matches_ne {n : Nat} (hl : ∀ l H, lib 32 l H = none) (hf : fs.get 32 = some c32) {H : Heap} {v m : AV} {ms : List UInt8} {l : List UInt8} (h32 : l.length = 32) {k k' : Nat} (hk : k' ≠ k) (hlen : ∀ H', lenV v H' = .val (nI .i64 k') H') (hlow : ∀ H', Keep H H' [] → lowV H'.nx v = true) :
    ∃ H', callN lib fs fuel (n + 2) 32 [.agg (descL ms (l.map u8V) k), v] H = .ret (.bool false) H' ∧ Keep H H' [] := by
  rw [callN_fn (hl _ _) hf]
  have box : boxV 45 (.agg (descL ms (l.map u8V) k)) H = .val (.ptr H.nx 0) (H.newRow 45 1 (descL ms (l.map u8V) k) true) := boxV_agg _ _ _ _
  have hd : (l.map u8V).length = 32 := by rw [List.length_map]; exact h32
  have ll := descL_len ms hd k
  generalize ha : H.newRow 45 1 (descL ms (l.map u8V) k) true = Ha at box
  have nxa : Ha.nx = H.nx + 1 := by rw [← ha]; rfl
  have ka : Keep H Ha [] := by rw [← ha]; exact Keep.new H _ []
  have ga : Ha.t.get H.nx = some (.row ⟨45, 1, lenL (descL ms (l.map u8V) k), T.ofList (descL ms (l.map u8V) k), .unk, 0, false, true, true⟩) := by rw [← ha, newRow_eq, new_get, if_pos rfl]
  have ca := Cells.new 45 1 (descL ms (l.map u8V) k) 0 false true true
  have l33 : load1V (.ptr H.nx 33) ⟨Ha.nx, Ha.t, Ha.nx⟩ = .val (nI .i64 k) ⟨Ha.nx, Ha.t, Ha.nx⟩ := by rw [load1V_row (H := ⟨Ha.nx, Ha.t, Ha.nx⟩) ga ca (by omega), descL_33 _ hd]
  have lv := hlow Ha ka
  have lp : lowV Ha.nx (.ptr H.nx 0) = true := lowV_ptr (by omega) 0
  have lp1 : lowV Ha.nx (.ptr H.nx 33) = true := lowV_ptr (by omega) 33
  have e1 : decide (k' = k) = false := decide_eq_false hk
  simp (disch := omega) only [c32, argsT_2, oBox_run, box, hlen, l33, lv, lp, lp1, eqV_eq, e1, pickV_f, Nat.zero_add, seqO_run, goOn_val, goOn_call, onCR_ret, seqD_run, thenR_normal, thenR_ret, thenR_exit, normD_run, retD_run, exitD_run, condD_run, isBn_bool, condK_true, condK_false, blockD_run, leaveB_normal, leaveB_same, leaveB_ret, d0_run, k_run, evs_nil, evs_cons, oMv_run, oNeg_run, oInt_run, oAddS_run, oSub_run, oMul_run, oQuo_run, oRem_run, oBits_run, oShl_run, oShr_run, oXorU_run, oCmp_run, oEq_run, oNot_run, oPick_run, oCallF_run, N8.g00, N8.g01, N8.g02, N8.g03, N8.g04, N8.g05, N8.g06, N8.g07, N8.g10, N8.g11, N8.g12, N8.g13, N8.g14, N8.g15, N8.g16, N8.g17, N8.g20, N8.g21, N8.g22, N8.g23, N8.g24, N8.g25, N8.g26, N8.g27, N8.g30, N8.g31, N8.g32, N8.g33, N8.g34, N8.g35, N8.g36, N8.g37, N8.g40, N8.g41, N8.g42, N8.g43, N8.g44, N8.g45, N8.g46, N8.g47, N8.g50, N8.g51, N8.g52, N8.g53, N8.g54, N8.g55, N8.g56, N8.g57, N8.g60, N8.g61, N8.g62, N8.g63, N8.g64, N8.g65, N8.g66, N8.g67, N8.g70, N8.g71, N8.g72, N8.g73, N8.g74, N8.g75, N8.g76, N8.g77, oLoad1_run, oLoad_run, oStore_run, oOff_run, oIdxA_run, oIdxS_run, oNil_run, oLenL_run, oAllocZ_run, offV_ptr, nilV_ptr, lenV_slice, put_get, new_get, put_nx, put_ro, new_nx, new_ro, Nat.zero_add, drawnD_run, planD_nil, planD_cons, normF_run, stepK_free, stepK_read, stepK_eff, freeK_val, readK_val, effK_val, effK_call, retK_ret, keepR_nil, keepR_cons, still_nil, still_cons, rdOk_run, isSame_u32, isSame_u8, isSame_nI, lowOs_nil, lowOs_cons, lowV_nI, lowV_u32, lowV_u8, lowV_bool, rsF_nil, rsF_cons, List.map_cons, List.map_nil, cond_true, cond_false, Nat.testBit_eq_decide_div_mod_eq, Nat.reducePow, Nat.reduceDiv, Nat.reduceMod, decide_true, Nat.reduceEqDiff, decide_false, reduceCtorEq, Nat.zero_ne_one, gtr0, gtr1, gtr2, gtr4, gtr5, gtr6, gtr7, gtr8, gtr9, gtr10, gtr11, gtr12, gtr13, gtr14, gtr15, gtr16, str1, str2, str4, str5, str6, str7, str8, str9, str10, str11, str12, str13, str14, str15, str16, stepK_freeG, stepK_readG, stepK_effG, guardK_tt, guardK_ft, lowV_agg, lowV_undef, isSame_nI, str0, str1, gtr0, gtr1]
  simp only [outF_ret]
  exact ⟨_, rfl, ka⟩
theorem matches_eq {n : Nat} (hl : ∀ l H, lib 32 l H = none) (hf : fs.get 32 = some c32) {H : Heap} {v m : AV} {ms : List UInt8} {l l' : List UInt8} (h32 : l.length = 32) (h32' : l'.length = 32) {k : Nat} (hlen : ∀ H', lenV v H' = .val (nI .i64 k) H') (hlow : ∀ H', Keep H H' [] → lowV H'.nx v = true)
    (hS : ∀ H', Keep H H' [] → lib 83 [v] H' = some (.ret (.agg (l'.map u8V)) H')) :
    ∃ H', callN lib fs fuel (n + 2) 32 [.agg (descL ms (l.map u8V) k), v] H = .ret (.bool (decide (l' = l))) H' ∧ Keep H H' [] := by
  rw [callN_fn (hl _ _) hf]
  have box : boxV 45 (.agg (descL ms (l.map u8V) k)) H = .val (.ptr H.nx 0) (H.newRow 45 1 (descL ms (l.map u8V) k) true) := boxV_agg _ _ _ _
  have hd : (l.map u8V).length = 32 := by rw [List.length_map]; exact h32
  have ll := descL_len ms hd k
  generalize ha : H.newRow 45 1 (descL ms (l.map u8V) k) true = Ha at box
  have nxa : Ha.nx = H.nx + 1 := by rw [← ha]; rfl
  have ka : Keep H Ha [] := by rw [← ha]; exact Keep.new H _ []
  have ga : Ha.t.get H.nx = some (.row ⟨45, 1, lenL (descL ms (l.map u8V) k), T.ofList (descL ms (l.map u8V) k), .unk, 0, false, true, true⟩) := by rw [← ha, newRow_eq, new_get, if_pos rfl]
  have ca := Cells.new 45 1 (descL ms (l.map u8V) k) 0 false true true
  have l33 : load1V (.ptr H.nx 33) ⟨Ha.nx, Ha.t, Ha.nx⟩ = .val (nI .i64 k) ⟨Ha.nx, Ha.t, Ha.nx⟩ := by rw [load1V_row (H := ⟨Ha.nx, Ha.t, Ha.nx⟩) ga ca (by omega), descL_33 _ hd]
  have l1 : loadV 32 (.ptr H.nx 1) ⟨Ha.nx, Ha.t, Ha.nx⟩ = .val (.agg (l.map u8V)) ⟨Ha.nx, Ha.t, Ha.nx⟩ := by
    rw [loadV_row (H := ⟨Ha.nx, Ha.t, Ha.nx⟩) ga ca (by omega)]
    have : ((descL ms (l.map u8V) k).drop 1).take 32 = l.map u8V := by
      unfold descL
      rw [List.drop_succ_cons, List.drop_zero, List.take_append_of_le_length (by omega), List.take_of_length_le (by omega)]
    rw [this]
  have lv := hlow Ha ka
  have lp : lowV Ha.nx (.ptr H.nx 0) = true := lowV_ptr (by omega) 0
  have lp1 : lowV Ha.nx (.ptr H.nx 33) = true := lowV_ptr (by omega) 33
  have lp2 : lowV Ha.nx (.ptr H.nx 1) = true := lowV_ptr (by omega) 1
  have e1 : decide (k = k) = true := decide_eq_true rfl
  have es : callN lib fs fuel (n + 1) 83 [v] Ha = .ret (.agg (l'.map u8V)) Ha := callN_hit (hS Ha ka)
  have sa := isSame_agg (sameL_u8 l) Ha.nx Ha.t
  have lu := lowL_u8 Ha.nx
  have dq := fun H => dig_eq h32' h32 H
  simp (disch := omega) only [c32, argsT_2, oBox_run, box, hlen, l33, l1, lv, lp, lp1, lp2, lu, sa, es, dq, eqV_eq, e1, pickV_t, Nat.zero_add, seqO_run, goOn_val, goOn_call, onCR_ret, seqD_run, thenR_normal, thenR_ret, thenR_exit, normD_run, retD_run, exitD_run, condD_run, isBn_bool, condK_true, condK_false, blockD_run, leaveB_normal, leaveB_same, leaveB_ret, d0_run, k_run, evs_nil, evs_cons, oMv_run, oNeg_run, oInt_run, oAddS_run, oSub_run, oMul_run, oQuo_run, oRem_run, oBits_run, oShl_run, oShr_run, oXorU_run, oCmp_run, oEq_run, oNot_run, oPick_run, oCallF_run, N8.g00, N8.g01, N8.g02, N8.g03, N8.g04, N8.g05, N8.g06, N8.g07, N8.g10, N8.g11, N8.g12, N8.g13, N8.g14, N8.g15, N8.g16, N8.g17, N8.g20, N8.g21, N8.g22, N8.g23, N8.g24, N8.g25, N8.g26, N8.g27, N8.g30, N8.g31, N8.g32, N8.g33, N8.g34, N8.g35, N8.g36, N8.g37, N8.g40, N8.g41, N8.g42, N8.g43, N8.g44, N8.g45, N8.g46, N8.g47, N8.g50, N8.g51, N8.g52, N8.g53, N8.g54, N8.g55, N8.g56, N8.g57, N8.g60, N8.g61, N8.g62, N8.g63, N8.g64, N8.g65, N8.g66, N8.g67, N8.g70, N8.g71, N8.g72, N8.g73, N8.g74, N8.g75, N8.g76, N8.g77, oLoad1_run, oLoad_run, oStore_run, oOff_run, oIdxA_run, oIdxS_run, oNil_run, oLenL_run, oAllocZ_run, offV_ptr, nilV_ptr, lenV_slice, put_get, new_get, put_nx, put_ro, new_nx, new_ro, Nat.zero_add, drawnD_run, planD_nil, planD_cons, normF_run, stepK_free, stepK_read, stepK_eff, freeK_val, readK_val, effK_val, effK_call, retK_ret, keepR_nil, keepR_cons, still_nil, still_cons, rdOk_run, isSame_u32, isSame_u8, isSame_nI, lowOs_nil, lowOs_cons, lowV_nI, lowV_u32, lowV_u8, lowV_bool, rsF_nil, rsF_cons, List.map_cons, List.map_nil, cond_true, cond_false, Nat.testBit_eq_decide_div_mod_eq, Nat.reducePow, Nat.reduceDiv, Nat.reduceMod, decide_true, Nat.reduceEqDiff, decide_false, reduceCtorEq, Nat.zero_ne_one, gtr0, gtr1, gtr2, gtr4, gtr5, gtr6, gtr7, gtr8, gtr9, gtr10, gtr11, gtr12, gtr13, gtr14, gtr15, gtr16, str1, str2, str4, str5, str6, str7, str8, str9, str10, str11, str12, str13, str14, str15, str16, stepK_freeG, stepK_readG, stepK_effG, guardK_tt, guardK_ft, lowV_agg, lowV_undef, isSame_nI, str0, str1, gtr0, gtr1]
  simp only [outF_ret]
  exact ⟨_, rfl, ka⟩
end
end Go.AI

/- Slices cut, appended to; the lesser number. -/
namespace Go.AI
open Go
noncomputable section
theorem cmpV_gt (k : IntKind) (a b : Nat) (H : Heap) : cmpV igtF strGt (nI k a) (nI k b) H = .val (.bool (decide (b < a))) H := by
  show onIf (kEq k k) (vBool (ilt (.ofNat b) (.ofNat a)) H) = _
  rw [kEq_self, vBool_run, ilt_nat]; rfl
/-- an argument that is bytes -/
def ArgS (G : Heap) (a : AV) (l : List UInt8) : Prop := BV G a l ∧ ((a = .nils ∧ l = []) ∨ ∃ b o c r, a = .slice b o l.length (some c) ∧ G.t.get b = some (.row r) ∧ l.length ≤ c ∧ b < G.nx)
theorem ArgS.low {G : Heap} {a : AV} {l : List UInt8} (h : ArgS G a l) {n : Nat} (hn : G.nx ≤ n) : lowV n a = true := by
  rcases h.2 with ⟨rfl, _⟩ | ⟨b, o, c, r, rfl, _, _, hb⟩
  · rfl
  · exact lowV_slice (by omega) _ _ _
theorem ArgS.far {G : Heap} {a : AV} {l : List UInt8} (h : ArgS G a l) : ∀ b o n c, a = .slice b o n c → b < G.nx := by
  rcases h.2 with ⟨rfl, _⟩ | ⟨b, o, c, r, rfl, _, _, hb⟩
  · intro _ _ _ _ e; cases e
  · intro _ _ _ _ e; cases e; exact hb
theorem ArgS.keep {G G' : Heap} {a : AV} {l : List UInt8} (h : ArgS G a l) (k : Keep G G' []) : ArgS G' a l := by
  refine ⟨h.1.keep k (S := []) (by simp), ?_⟩
  rcases h.2 with h | ⟨b, o, c, r, e, h1, h2, h3⟩
  · exact .inl h
  · exact .inr ⟨b, o, c, r, e, by rw [k.get b h3 (by simp)]; exact h1, h2, Nat.lt_of_lt_of_le h3 k.nx⟩
theorem lenV_arg {G : Heap} {a : AV} {l : List UInt8} (h : ArgS G a l) (H' : Heap) : lenV a H' = .val (nI .i64 l.length) H' := h.1.len H'
/-- the first so many -/
theorem slice_take {G : Heap} {a : AV} {l : List UInt8} (h : ArgS G a l) {k : Nat} (hk : k ≤ l.length) : ∃ v, (∀ G' : Heap, G'.t = G.t → sliceV 1 a none (some (nI .i64 k)) G' = .val v G') ∧ ArgS G v (l.take k) := by
  obtain ⟨hb, h⟩ := h
  rcases h with ⟨rfl, rfl⟩ | ⟨b, o, c, r, rfl, h1, h2, h3⟩
  · have : k = 0 := by simpa using hk
    subst this
    exact ⟨.nils, fun _ _ => rfl, .inl ⟨rfl, .inl rfl⟩, .inl ⟨rfl, rfl⟩⟩
  · have hkl : (l.take k).length = k := by rw [List.length_take]; omega
    have run : ∀ G' : Heap, G'.t = G.t → sliceV 1 (.slice b o l.length (some c)) none (some (nI .i64 k)) G' = .val (.slice b o k (some c)) G' := by
      intro G' e
      show onRow G' b _ = _
      unfold onRow
      rw [e, h1]
      show onIf (Nat.ble k c) (onIf (Nat.ble 0 c) (cond (Nat.beq 0 c) (.val (.slice b o (k - 0) (some 0)) G') (.val (.slice b (o + 0 * 1) (k - 0) (some (c - 0))) G'))) = _
      rw [Nat.ble_eq_true_of_le (by omega), Nat.ble_eq_true_of_le (Nat.zero_le c), beq_nat]
      by_cases e0 : 0 = c
      · subst e0
        rw [decide_eq_true rfl]; rfl
      · rw [decide_eq_false e0]
        show OR.val (.slice b (o + 0 * 1) (k - 0) (some (c - 0))) G' = _
        rw [Nat.zero_mul, Nat.add_zero, Nat.sub_zero, Nat.sub_zero]
    refine ⟨_, run, ?_, .inr ⟨b, o, c, r, by rw [hkl], h1, by omega, h3⟩⟩
    by_cases h0 : k = 0
    · subst h0
      exact .inl ⟨rfl, .inr ⟨_, _, _, rfl⟩⟩
    · rcases hb with ⟨rfl, _⟩ | ⟨hne, b', o', c', r', e, by_, hlt⟩
      · simp at hk; omega
      · injection e with e1 e2 e3 e4
        subst e1; subst e2; subst e4
        refine .inr ⟨by intro e; rw [e] at hkl; simp at hkl; omega, b, o, some c, r', by rw [hkl], ⟨by_.at_, by_.sz, by have := by_.fits; omega, fun i hi => ?_, fun c2 e2 => ?_⟩, h3⟩
        · rw [hkl] at hi
          rw [by_.get i (by omega), List.getD_eq_getElem?_getD, List.getD_eq_getElem?_getD, List.getElem?_take_of_lt hi]
        · cases e2
          have := by_.cap c rfl
          exact ⟨by omega, this.2⟩
/-- all but the first -/
theorem slice_tail {G : Heap} {a : AV} {l : List UInt8} (h : ArgS G a l) (h0 : 0 < l.length) : ∃ v, (∀ G' : Heap, G'.t = G.t → sliceV 1 a (some (nI .i64 1)) none G' = .val v G') ∧ (∀ G', lenV v G' = .val (nI .i64 (l.length - 1)) G') ∧ (∀ n, G.nx ≤ n → lowV n v = true) ∧ ∀ n t, isSame (.val v ⟨n, t, n⟩) v n = true := by
  obtain ⟨hb, h⟩ := h
  rcases h with ⟨rfl, rfl⟩ | ⟨b, o, c, r, rfl, h1, h2, h3⟩
  · cases h0
  · by_cases e1 : 1 = c
    · subst e1
      refine ⟨.slice b o (l.length - 1) (some 0), fun G' e => ?_, fun G' => lenV_slice .., fun n hn => lowV_slice (by omega) _ _ _, fun n t => isSame_slice _ _ _ _ _ _⟩
      show onRow G' b _ = _
      unfold onRow
      rw [e, h1]
      show onIf (Nat.ble 1 l.length) (onIf (Nat.ble 1 1) (cond (Nat.beq 1 1) (.val (.slice b o (l.length - 1) (some 0)) G') _)) = _
      rw [Nat.ble_eq_true_of_le (by omega)]
      rfl
    · refine ⟨.slice b (o + 1 * 1) (l.length - 1) (some (c - 1)), fun G' e => ?_, fun G' => lenV_slice .., fun n hn => lowV_slice (by omega) _ _ _, fun n t => isSame_slice _ _ _ _ _ _⟩
      show onRow G' b _ = _
      unfold onRow
      rw [e, h1]
      show onIf (Nat.ble 1 l.length) (onIf (Nat.ble 1 c) (cond (Nat.beq 1 c) _ (.val (.slice b (o + 1 * 1) (l.length - 1) (some (c - 1))) G'))) = _
      rw [Nat.ble_eq_true_of_le (by omega), Nat.ble_eq_true_of_le (by omega), beq_nat, decide_eq_false e1]
      rfl
/-- a copy, and a byte more that lay ready -/
theorem append_one {H : Heap} {v : AV} {l : List UInt8} (h : BV H v l) (far : ∀ b o n c, v = .slice b o n c → b < H.nx) (hl : l.length < 140737488355328) (hro : H.ro ≤ H.nx) (x : UInt8) :
    ∃ v1 H1 v' H', appendV 5 1 1 .nils v (H.new (.row ⟨5, 1, 1, T.ofList [u8V x], .unk, 0, false, true, true⟩)) = .val v1 H1 ∧ appendV 5 1 1 v1 (.slice H.nx 0 1 none) H1 = .val v' H' ∧ (∀ G, lenV v' G = .val (nI .i64 (l.length + 1)) G) ∧ (∀ n, H'.nx ≤ n → lowV n v' = true) ∧ Keep H (H.new (.row ⟨5, 1, 1, T.ofList [u8V x], .unk, 0, false, true, true⟩)) [] ∧ Keep H H1 [] ∧ Keep H H' [] := by
  generalize hH1 : H.new (.row ⟨5, 1, 1, T.ofList [u8V x], .unk, 0, false, true, true⟩) = Hn
  have nx1 : Hn.nx = H.nx + 1 := by rw [← hH1]; rfl
  have k1 : Keep H Hn [] := by rw [← hH1]; exact Keep.new H _ []
  have gx : Hn.t.get H.nx = some (.row ⟨5, 1, 1, T.ofList [u8V x], .unk, 0, false, true, true⟩) := by rw [← hH1, new_get, if_pos rfl]
  have hvn : BV Hn v l := h.keep k1 (S := []) (by simp)
  rw [appendV_src (Nat.le_refl 1) hvn.src]
  by_cases h0 : l = []
  · subst h0
    have src : Src Hn (.slice H.nx 0 1 none) [u8V x] := Src.row (l := [u8V x]) gx (Nat.le_refl _) (fun i hi => by
      have : i = 0 := by simp at hi; exact hi
      subst this
      rfl)
    refine ⟨_, _, _, _, appX_nil0 5 1 Hn, (by rw [appendV_src (Nat.le_refl 1) src]; exact appX_nil (l := [u8V x]) (by simp) (by simp)), fun G => lenV_slice .., fun n hn => lowV_slice (Nat.lt_of_lt_of_le (Nat.lt_succ_self _) hn) _ _ _, k1, k1, k1.then_new _⟩
  · have hp : 0 < (l.map u8V).length := by rw [List.length_map]; exact List.length_pos_iff.2 h0
    have g := grow_new (H := Hn) (e := 5) (l := l.map u8V) (by rw [k1.ro]; omega)
    have e0 := appX_nil (e := 5) (H := Hn) hp (by rw [List.length_map]; omega)
    have k2 : Keep Hn (Hn.newRow 5 1 (l.map u8V) false) [] := Keep.new Hn _ []
    have gx2 : (Hn.newRow 5 1 (l.map u8V) false).t.get H.nx = some (.row ⟨5, 1, 1, T.ofList [u8V x], .unk, 0, false, true, true⟩) := by rw [k2.get H.nx (by omega) (by simp)]; exact gx
    have src : Src (Hn.newRow 5 1 (l.map u8V) false) (.slice H.nx 0 1 none) [u8V x] := Src.row (l := [u8V x]) gx2 (Nat.le_refl _) (fun i hi => by
      have : i = 0 := by simp at hi; exact hi
      subst this
      rfl)
    obtain ⟨H', r', e, g', k', nx'⟩ := appX_grow (m := [u8V x]) g (by simp) (by rw [List.length_map]; simp; omega)
    rw [List.length_map] at e e0
    rw [List.length_map]
    have nx3 : (Hn.newRow 5 1 (l.map u8V) false).nx = Hn.nx + 1 := rfl
    refine ⟨_, _, _, H', e0, by rw [appendV_src (Nat.le_refl 1) src]; exact e, fun G => lenV_slice .., fun n hn => lowV_slice (by omega) _ _ _, k1, k1.trans' k2, ?_⟩
    exact (k1.trans' k2).trans k' (fun c hc hlt => by simp only [List.mem_singleton] at hc; omega)
end
end Go.AI

namespace Go.AI
open Go
noncomputable section
variable {lib : Nat → List AV → Heap → Option CR} {fs : T CF} {fuel : Nat}

noncomputable def minV (mx : Bool) (l : List AV) (H : Heap) : OR := match l with
  | .int k a :: l => min2 mx k a H l
  | _ => .fail
theorem oMinMax_run (mx : Bool) (args : List EvF) (tm : TM) (H : Heap) : oMinMax mx args tm H = minV mx (evs tm args) H := rfl
theorem minV_two (a b : Nat) (H : Heap) : minV false [nI .i64 a, nI .i64 b] H = .val (nI .i64 (min a b)) H := by
  show onIf (kEq .i64 .i64) (min2 false .i64 (cond (cond false (ilt (.ofNat a) (.ofNat b)) (ilt (.ofNat b) (.ofNat a))) (.ofNat b) (.ofNat a)) H []) = _
  rw [kEq_self, ilt_nat, ilt_nat]
  show OR.val (.int .i64 (cond (decide (b < a)) (.ofNat b) (.ofNat a))) H = _
  by_cases h : b < a
  · rw [decide_eq_true h, Nat.min_eq_right (by omega)]; rfl
  · rw [decide_eq_false h, Nat.min_eq_left (by omega)]; rfl
theorem ArgS.same {G : Heap} {a : AV} {l : List UInt8} (h : ArgS G a l) (n : Nat) (t : T Obj) : isSame (.val a ⟨n, t, n⟩) a n = true := by
  rcases h.2 with ⟨rfl, _⟩ | ⟨b, o, c, r, rfl, _⟩
  · exact isSame_nils n t
  · exact isSame_slice _ _ _ _ _ _
theorem r0_run {c : Ctx} {x : X} {tm : TM} {H : Heap} {a0 a1 : AV} {l0 l1 : List UInt8} (h0 : ArgS H a0 l0) (h1 : ArgS H a1 l1) (i0 : gt0 tm = a0) (i1 : gt1 tm = a1) :
    ∃ tm' v0 v1, c5_r0 c tm H x = .ok .normal tm' H x ∧ gt0 tm' = v0 ∧ gt1 tm' = v1 ∧ ArgS H v0 (l0.take (min l0.length 500)) ∧ ArgS H v1 (l1.take (min l1.length 500)) := by
  obtain ⟨v0, e0, g0⟩ := slice_take h0 (k := min l0.length 500) (by omega)
  obtain ⟨v1, e1, g1⟩ := slice_take h1 (k := min l1.length 500) (by omega)
  have e0 := e0 ⟨H.nx, H.t, H.nx⟩ rfl
  have e1 := e1 ⟨H.nx, H.t, H.nx⟩ rfl
  have s0 := g0.same H.nx H.t
  have s1 := g1.same H.nx H.t
  have n0 := lenV_arg h0
  have n1 := lenV_arg h1
  have w0 := h0.low (n := H.nx) (Nat.le_refl _)
  have w1 := h1.low (n := H.nx) (Nat.le_refl _)
  have w2 := g0.low (n := H.nx) (Nat.le_refl _)
  have w3 := g1.low (n := H.nx) (Nat.le_refl _)
  simp only [gtr0, gtr1] at i0 i1
  simp (disch := omega) only [c5_r0, i0, i1, n0, n1, w0, w1, w2, w3, e0, e1, s0, s1, minV_two, seqO_run, goOn_val, goOn_call, onCR_ret, seqD_run, thenR_normal, thenR_ret, thenR_exit, normD_run, retD_run, exitD_run, condD_run, isBn_bool, condK_true, condK_false, blockD_run, leaveB_normal, leaveB_same, leaveB_ret, d0_run, k_run, evs_nil, evs_cons, oMv_run, oNeg_run, oInt_run, oAddS_run, oSub_run, oMul_run, oQuo_run, oRem_run, oBits_run, oShl_run, oShr_run, oXorU_run, oCmp_run, oEq_run, oNot_run, oPick_run, oCallF_run, N8.g00, N8.g01, N8.g02, N8.g03, N8.g04, N8.g05, N8.g06, N8.g07, N8.g10, N8.g11, N8.g12, N8.g13, N8.g14, N8.g15, N8.g16, N8.g17, N8.g20, N8.g21, N8.g22, N8.g23, N8.g24, N8.g25, N8.g26, N8.g27, N8.g30, N8.g31, N8.g32, N8.g33, N8.g34, N8.g35, N8.g36, N8.g37, N8.g40, N8.g41, N8.g42, N8.g43, N8.g44, N8.g45, N8.g46, N8.g47, N8.g50, N8.g51, N8.g52, N8.g53, N8.g54, N8.g55, N8.g56, N8.g57, N8.g60, N8.g61, N8.g62, N8.g63, N8.g64, N8.g65, N8.g66, N8.g67, N8.g70, N8.g71, N8.g72, N8.g73, N8.g74, N8.g75, N8.g76, N8.g77, oLoad1_run, oLoad_run, oStore_run, oOff_run, oIdxA_run, oIdxS_run, oNil_run, oLenL_run, oAllocZ_run, offV_ptr, nilV_ptr, lenV_slice, put_get, new_get, put_nx, put_ro, new_nx, new_ro, Nat.zero_add, drawnD_run, planD_nil, planD_cons, normF_run, stepK_free, stepK_read, stepK_eff, freeK_val, readK_val, effK_val, effK_call, retK_ret, keepR_nil, keepR_cons, still_nil, still_cons, rdOk_run, isSame_u32, isSame_u8, isSame_nI, lowOs_nil, lowOs_cons, lowV_nI, lowV_u32, lowV_u8, lowV_bool, rsF_nil, rsF_cons, List.map_cons, List.map_nil, cond_true, cond_false, Nat.testBit_eq_decide_div_mod_eq, Nat.reducePow, Nat.reduceDiv, Nat.reduceMod, decide_true, Nat.reduceEqDiff, decide_false, reduceCtorEq, Nat.zero_ne_one, stepK_freeG, stepK_readG, stepK_effG, guardK_tt, guardK_ft, guardK_ff, guardK_tf, lowV_agg, lowV_undef, isSame_nI, oSlice_run, oMinMax_run, oBSlice_run, oAppend_run, Option.map_none, Option.map_some, gtr0, gtr1, gtr9, gtr10, gtr11, gtr12, gtr13, gtr14, gtr15, gtr16, gtr17, gtr18, str0, str1, str9, str10, str11, str12, str13, str14, str15, str16, str17, str18]
  exact ⟨_, v0, v1, rfl, rfl, rfl, g0, g1⟩
end
end Go.AI

namespace Go.AI
open Go
noncomputable section
variable {lib : Nat → List AV → Heap → Option CR} {fs : T CF} {fuel : Nat}

theorem sameL_desc (m : List UInt8) (l : List UInt8) (n : Nat) : sameL (descL m (l.map u8V) n) (descL m (l.map u8V) n) = true := by
  unfold descL
  unfold sameL
  rw [same_str, sameL_app (sameL_u8 l) (by simp [sameL, same_nI]; unfold same; rfl)]
  rfl
theorem r1_run {n : Nat} (hl : ∀ l H, lib 32 l H = none) (hf : fs.get 32 = some c32) {yld : Nat → List AV → Heap → CR} {rng : AV → (List AV → Heap → CR) → TM → Heap → X → Res} {x : X} {tm : TM} {H : Heap} {v0 : AV} {l dg : List UInt8} {bd : Nat} {rd : Row}
    (hl1 : l.length ≤ 500) (h0 : ArgS H v0 l) (h32 : dg.length = 32) (hd : H.t.get bd = some (.row rd)) (cd : Cells rd (descL mLayer (dg.map u8V) l.length)) (hbd : bd < H.nx) (hro : H.ro ≤ H.nx)
    (hS : ∀ H', Keep H H' [] → lib 83 [v0] H' = some (.ret (.agg (dg.map u8V)) H'))
    {y1 y7 : AV} (i0 : gt0 tm = v0) (i1 : gt1 tm = y1) (i7 : gt7 tm = y7) (i5 : gt5 tm = .ptr bd 0) (i6 : gt6 tm = nI .i64 0) (i8 : gt8 tm = nI .i64 0) :
    ∃ tm' H', c5_r1 ⟨callN lib fs fuel (n + 2), yld, rng, fuel, false⟩ tm H x = .ok .normal tm' H' x ∧ gt59 tm' = .bool false ∧ gt0 tm' = v0 ∧ gt1 tm' = y1 ∧ gt5 tm' = .ptr bd 0 ∧ gt7 tm' = y7 ∧ Keep H H' [] := by
  have ll := descL_len mLayer (show (dg.map u8V).length = 32 by rw [List.length_map]; exact h32) l.length
  have ld : ∀ H' : Heap, Keep H H' [] → loadV 35 (.ptr bd 0) ⟨H'.nx, H'.t, H'.nx⟩ = .val (.agg (descL mLayer (dg.map u8V) l.length)) ⟨H'.nx, H'.t, H'.nx⟩ := fun H' k => by
    rw [loadV_row (H := ⟨H'.nx, H'.t, H'.nx⟩) (r := rd) (by show H'.t.get bd = _; rw [k.get bd hbd (by simp)]; exact hd) cd (by omega), List.drop_zero, List.take_of_length_le (by omega)]
  obtain ⟨H3, e3, k3⟩ := matches_eq (n := n) (fuel := fuel) hl hf (H := H) (v := v0) (ms := mLayer) h32 h32 (k := l.length) (lenV_arg h0) (fun H' k => h0.low k.nx) hS (m := v0)
  rw [decide_eq_true rfl] at e3
  have h3 := h0.keep k3
  obtain ⟨v1, H1, v', H4, a1, a2, a3, a4, kn, k1, k4⟩ := append_one h3.1 h3.far (by omega) (by rw [k3.ro]; exact Nat.le_trans hro k3.nx) 0
  have u0 : u8V 0 = nI .u8 0 := rfl
  rw [u0] at a1 kn
  have fb : bsliceV 5 1 1 [nI .u8 0] [(0, 1, nI .u8 0)] ⟨H3.nx, .leaf, H3.nx⟩ = .val (.slice H3.nx 0 1 none) ((⟨H3.nx, .leaf, H3.nx⟩ : Heap).new (.row ⟨5, 1, 1, T.ofList [nI .u8 0], .unk, 0, false, true, true⟩)) := rfl
  have hw : wrO (.row ⟨5, 1, 1, T.ofList [nI .u8 0], .unk, 0, false, true, true⟩) = true := rfl
  generalize hHn : H3.new (.row ⟨5, 1, 1, T.ofList [nI .u8 0], .unk, 0, false, true, true⟩) = Hn at a1 kn
  have k3n : Keep H Hn [] := k3.trans' kn
  have k31 : Keep H H1 [] := k3.trans' k1
  have k34 : Keep H H4 [] := k3.trans' k4
  obtain ⟨H5, e5, k5⟩ := matches_ne (n := n) (fuel := fuel) hl hf (H := H4) (v := v') (ms := mLayer) h32 (k := l.length) (k' := l.length + 1) (by omega) a3 (fun H' k => a4 _ k.nx) (m := v0)
  have k35 : Keep H H5 [] := k34.trans' k5
  have h5 := h0.keep k35
  have ld0 := ld H (Keep.refl _ _)
  have ld3 := ld H3 k3
  have ldn := ld Hn k3n
  have ld1 := ld H1 k31
  have ld4 := ld H4 k34
  have ld5 := ld H5 k35
  have sd := fun n t => isSame_agg (sameL_desc mLayer dg l.length) n t
  have z0 : ∀ H, eqV eqI true (nI .i64 0) (nI .i64 0) H = .val (.bool false) H := fun _ => rfl
  have w0 := h0.low (n := H.nx) (Nat.le_refl _)
  have w3 := h0.low (n := H3.nx) k3.nx
  have w5 := h0.low (n := H5.nx) k35.nx
  have n0 := lenV_arg h0
  simp only [gtr0, gtr1, gtr5, gtr6, gtr7, gtr8] at i0 i1 i5 i6 i7 i8
  by_cases hne : 0 < l.length
  · obtain ⟨v2, s1, s2, s3, s4⟩ := slice_tail h5 hne
    have s1 := s1 ⟨H5.nx, H5.t, H5.nx⟩ rfl
    have s4 := s4 H5.nx H5.t
    obtain ⟨H6, e6, k6⟩ := matches_ne (n := n) (fuel := fuel) hl hf (H := H5) (v := v2) (ms := mLayer) h32 (k := l.length) (k' := l.length - 1) (by omega) s2 (fun H' k => s3 _ k.nx) (m := v0)
    have d1 : decide (0 < l.length) = true := decide_eq_true hne
    have wp : lowV H5.nx (.ptr bd 0) = true := lowV_ptr (Nat.lt_of_lt_of_le hbd k35.nx) 0
    simp (disch := first | omega | rfl) only [c5_r1, i0, i5, i6, i8, z0, w0, w3, w5, n0, ld0, ld3, ldn, ld1, ld4, ld5, sd, e3, fb, freeK_new, hHn, a1, a2, e5, cmpV_gt, d1, s1, s4, e6, notV_b, pickV_t, pickV_f, seqO_run, goOn_val, goOn_call, onCR_ret, seqD_run, thenR_normal, thenR_ret, thenR_exit, normD_run, retD_run, exitD_run, condD_run, isBn_bool, condK_true, condK_false, blockD_run, leaveB_normal, leaveB_same, leaveB_ret, d0_run, k_run, evs_nil, evs_cons, oMv_run, oNeg_run, oInt_run, oAddS_run, oSub_run, oMul_run, oQuo_run, oRem_run, oBits_run, oShl_run, oShr_run, oXorU_run, oCmp_run, oEq_run, oNot_run, oPick_run, oCallF_run, N8.g00, N8.g01, N8.g02, N8.g03, N8.g04, N8.g05, N8.g06, N8.g07, N8.g10, N8.g11, N8.g12, N8.g13, N8.g14, N8.g15, N8.g16, N8.g17, N8.g20, N8.g21, N8.g22, N8.g23, N8.g24, N8.g25, N8.g26, N8.g27, N8.g30, N8.g31, N8.g32, N8.g33, N8.g34, N8.g35, N8.g36, N8.g37, N8.g40, N8.g41, N8.g42, N8.g43, N8.g44, N8.g45, N8.g46, N8.g47, N8.g50, N8.g51, N8.g52, N8.g53, N8.g54, N8.g55, N8.g56, N8.g57, N8.g60, N8.g61, N8.g62, N8.g63, N8.g64, N8.g65, N8.g66, N8.g67, N8.g70, N8.g71, N8.g72, N8.g73, N8.g74, N8.g75, N8.g76, N8.g77, oLoad1_run, oLoad_run, oStore_run, oOff_run, oIdxA_run, oIdxS_run, oNil_run, oLenL_run, oAllocZ_run, offV_ptr, nilV_ptr, lenV_slice, put_get, new_get, put_nx, put_ro, new_nx, new_ro, Nat.zero_add, drawnD_run, planD_nil, planD_cons, normF_run, stepK_free, stepK_read, stepK_eff, freeK_val, readK_val, effK_val, effK_call, retK_ret, keepR_nil, keepR_cons, still_nil, still_cons, rdOk_run, isSame_u32, isSame_u8, isSame_nI, lowOs_nil, lowOs_cons, lowV_nI, lowV_u32, lowV_u8, lowV_bool, rsF_nil, rsF_cons, List.map_cons, List.map_nil, cond_true, cond_false, Nat.testBit_eq_decide_div_mod_eq, Nat.reducePow, Nat.reduceDiv, Nat.reduceMod, decide_true, Nat.reduceEqDiff, decide_false, reduceCtorEq, Nat.zero_ne_one, stepK_freeG, stepK_readG, stepK_effG, guardK_tt, guardK_ft, guardK_ff, guardK_tf, lowV_agg, lowV_undef, isSame_nI, oSlice_run, oMinMax_run, oBSlice_run, oAppend_run, Option.map_none, Option.map_some, gtr0, gtr5, gtr6, gtr8, gtr29, gtr30, gtr31, gtr32, gtr33, gtr34, gtr35, gtr36, gtr37, gtr38, gtr39, gtr40, gtr41, gtr42, gtr43, gtr44, gtr45, gtr46, gtr47, gtr48, gtr49, gtr50, gtr51, gtr52, gtr53, gtr54, gtr55, gtr56, gtr57, gtr58, str0, str5, str6, str8, str29, str30, str31, str32, str33, str34, str35, str36, str37, str38, str39, str40, str41, str42, str43, str44, str45, str46, str47, str48, str49, str50, str51, str52, str53, str54, str55, str56, str57, str58, str59]
    exact ⟨_, _, rfl, rfl, i0, i1, i5, i7, k35.trans' k6⟩
  · have d1 : decide (0 < l.length) = false := decide_eq_false hne
    simp (disch := first | omega | rfl) only [c5_r1, i0, i5, i6, i8, z0, w0, w3, w5, n0, ld0, ld3, ldn, ld1, ld4, ld5, sd, e3, fb, freeK_new, hHn, a1, a2, e5, cmpV_gt, d1, notV_b, pickV_t, pickV_f, seqO_run, goOn_val, goOn_call, onCR_ret, seqD_run, thenR_normal, thenR_ret, thenR_exit, normD_run, retD_run, exitD_run, condD_run, isBn_bool, condK_true, condK_false, blockD_run, leaveB_normal, leaveB_same, leaveB_ret, d0_run, k_run, evs_nil, evs_cons, oMv_run, oNeg_run, oInt_run, oAddS_run, oSub_run, oMul_run, oQuo_run, oRem_run, oBits_run, oShl_run, oShr_run, oXorU_run, oCmp_run, oEq_run, oNot_run, oPick_run, oCallF_run, N8.g00, N8.g01, N8.g02, N8.g03, N8.g04, N8.g05, N8.g06, N8.g07, N8.g10, N8.g11, N8.g12, N8.g13, N8.g14, N8.g15, N8.g16, N8.g17, N8.g20, N8.g21, N8.g22, N8.g23, N8.g24, N8.g25, N8.g26, N8.g27, N8.g30, N8.g31, N8.g32, N8.g33, N8.g34, N8.g35, N8.g36, N8.g37, N8.g40, N8.g41, N8.g42, N8.g43, N8.g44, N8.g45, N8.g46, N8.g47, N8.g50, N8.g51, N8.g52, N8.g53, N8.g54, N8.g55, N8.g56, N8.g57, N8.g60, N8.g61, N8.g62, N8.g63, N8.g64, N8.g65, N8.g66, N8.g67, N8.g70, N8.g71, N8.g72, N8.g73, N8.g74, N8.g75, N8.g76, N8.g77, oLoad1_run, oLoad_run, oStore_run, oOff_run, oIdxA_run, oIdxS_run, oNil_run, oLenL_run, oAllocZ_run, offV_ptr, nilV_ptr, lenV_slice, put_get, new_get, put_nx, put_ro, new_nx, new_ro, Nat.zero_add, drawnD_run, planD_nil, planD_cons, normF_run, stepK_free, stepK_read, stepK_eff, freeK_val, readK_val, effK_val, effK_call, retK_ret, keepR_nil, keepR_cons, still_nil, still_cons, rdOk_run, isSame_u32, isSame_u8, isSame_nI, lowOs_nil, lowOs_cons, lowV_nI, lowV_u32, lowV_u8, lowV_bool, rsF_nil, rsF_cons, List.map_cons, List.map_nil, cond_true, cond_false, Nat.testBit_eq_decide_div_mod_eq, Nat.reducePow, Nat.reduceDiv, Nat.reduceMod, decide_true, Nat.reduceEqDiff, decide_false, reduceCtorEq, Nat.zero_ne_one, stepK_freeG, stepK_readG, stepK_effG, guardK_tt, guardK_ft, guardK_ff, guardK_tf, lowV_agg, lowV_undef, isSame_nI, oSlice_run, oMinMax_run, oBSlice_run, oAppend_run, Option.map_none, Option.map_some, gtr0, gtr5, gtr6, gtr8, gtr29, gtr30, gtr31, gtr32, gtr33, gtr34, gtr35, gtr36, gtr37, gtr38, gtr39, gtr40, gtr41, gtr42, gtr43, gtr44, gtr45, gtr46, gtr47, gtr48, gtr49, gtr50, gtr51, gtr52, gtr53, gtr54, gtr55, gtr56, gtr57, gtr58, str0, str5, str6, str8, str29, str30, str31, str32, str33, str34, str35, str36, str37, str38, str39, str40, str41, str42, str43, str44, str45, str46, str47, str48, str49, str50, str51, str52, str53, str54, str55, str56, str57, str58, str59]
    exact ⟨_, _, rfl, rfl, i0, i1, i5, i7, k35⟩
end
end Go.AI

namespace Go.AI
open Go
noncomputable section
variable {lib : Nat → List AV → Heap → Option CR} {fs : T CF} {fuel : Nat}

noncomputable def extrV (i : Nat) (a : AV) (H : Heap) : OR := onTup a fun vs => onSome (nthL vs i) fun v => .val v H
theorem oExtr_run (x : EvF) (i : Nat) (tm : TM) (H : Heap) : oExtr x i tm H = extrV i (x tm) H := rfl
theorem extrV_0 (a : AV) (l : List AV) (H : Heap) : extrV 0 (.tup (a :: l)) H = .val a H := rfl
theorem extrV_1 (a b : AV) (l : List AV) (H : Heap) : extrV 1 (.tup (a :: b :: l)) H = .val b H := rfl
theorem eqB_run (a b : Bool) (H : Heap) : eqV eqB false (.bool a) (.bool b) H = .val (.bool (decide (a = b))) H := by cases a <;> cases b <;> rfl
theorem keepDesc {H : Heap} (hro : H.ro ≤ H.nx) {dl : List AV} (ll : dl.length = 35) : ∃ Hb r, storeV 35 (.ptr H.nx 0) (.agg dl) (H.newRow 45 1 descZ true) = .val undefA Hb ∧ Hb.t.get H.nx = some (.row r) ∧ Cells r dl ∧ Keep H Hb [] ∧ Hb.nx = H.nx + 1 := by
  generalize ha : H.newRow 45 1 descZ true = Ha
  have nxa : Ha.nx = H.nx + 1 := by rw [← ha]; rfl
  have ka : Keep H Ha [] := by rw [← ha]; exact Keep.new H _ []
  have ga : Ha.t.get H.nx = some (.row ⟨45, 1, lenL descZ, T.ofList descZ, .unk, 0, false, true, true⟩) := by rw [← ha, newRow_eq, new_get, if_pos rfl]
  have cz := Cells.new 45 1 descZ 0 false true true
  have st1 : storeV 35 (.ptr H.nx 0) (.agg dl) Ha = .val undefA (Ha.put H.nx (.row (Row.setCells ⟨45, 1, lenL descZ, T.ofList descZ, .unk, 0, false, true, true⟩ (storeN (T.ofList descZ) 0 dl)))) :=
    storeV_row (v := .agg dl) ga cz rfl (by rw [ka.ro]; exact hro) rfl (by omega) ll (by decide)
  exact ⟨_, _, st1, by rw [put_get, if_pos rfl], cz.whole (by rw [ll]; rfl), ka.then_put fun h => absurd h (Nat.lt_irrefl _), nxa⟩
theorem law_run {n : Nat} (hl1 : ∀ l H, lib 162 l H = none) (hf1 : fs.get 162 = some c162) (hl2 : ∀ l H, lib 82 l H = none) (hf2 : fs.get 82 = some c82) (hl3 : ∀ l H, lib 28 l H = none) (hf3 : fs.get 28 = some c28) (hl4 : ∀ l H, lib 84 l H = none) (hf4 : fs.get 84 = some c84) (hl5 : ∀ l H, lib 31 l H = none) (hf5 : fs.get 31 = some c31) (hl6 : ∀ l H, lib 32 l H = none) (hf6 : fs.get 32 = some c32) (hl7 : ∀ l H, lib 5 l H = none) (hf7 : fs.get 5 = some c5) {F : Nat} (hF : fuel = F + 5) {H : Heap} {a0 a1 : AV} {l0 l1 : List UInt8} {sh : List UInt8 → List UInt8} (h32 : ∀ l, (sh l).length = 32) (h0 : ArgS H a0 l0) (h1 : ArgS H a1 l1) (hro : H.ro ≤ H.nx)
    (hS : ∀ v l, ArgS H v l → l.length ≤ 500 → ∀ H', Keep H H' [] → lib 83 [v] H' = some (.ret (.agg ((sh l).map u8V)) H')) (hT : ∀ H', Keep H H' [] → lib 30 [] H' = some (.ret (.bool true) H')) :
    ∃ H', callN lib fs fuel (n + 5) 5 [a0, a1] H = .ret (.bool true) H' := by
  rw [callN_fn (hl7 _ _) hf7]
  simp only [c5, argsT_2, seqD_run, seqO_run, oMv_run, k_run, goOn_val, normD_run, thenR_normal]
  generalize hR : c5_r0 _ _ _ _ = R
  obtain ⟨tm1, v0, v1, e0, i0, i1, g0, g1⟩ := r0_run (c := ⟨callN lib fs fuel (n + 4), noYield, rangeK fs fuel (callN lib fs fuel (n + 4)), fuel, false⟩) (x := ⟨[], none⟩) (tm := st4 (st1 (st0 tm0 a0) a1) (.bool false)) h0 h1 rfl rfl
  rw [e0] at hR
  subst hR
  generalize hk0 : l0.take (min l0.length 500) = k0 at g0
  generalize hk1 : l1.take (min l1.length 500) = k1 at g1
  have len0 : k0.length ≤ 500 := by rw [← hk0, List.length_take]; omega
  have len1 : k1.length ≤ 500 := by rw [← hk1, List.length_take]; omega
  have m32 : ∀ l, ((sh l).map u8V).length = 32 := fun l => by rw [List.length_map]; exact h32 l
  obtain ⟨H1, d0, q1⟩ := describe_run (n := n) (fuel := fuel) hl1 hf1 hl2 hf2 hl3 hf3 hl4 hf4 hl5 hf5 hF (H := H) (v := v0) (m32 k0) (m := k0.length) (by omega) hro (lenV_arg g0) (fun H' k => hS v0 k0 g0 len0 H' k)
  have ro1 : H1.ro ≤ H1.nx := by rw [q1.ro]; exact Nat.le_trans hro q1.nx
  have dl0 := descL_len mLayer (m32 k0) k0.length
  have dl1 := descL_len mLayer (m32 k1) k1.length
  have al1 : ∀ tm, oAlloc 45 descZ tm H1 = .val (.ptr H1.nx 0) (H1.newRow 45 1 descZ true) := fun tm => oAlloc_run _ _ (by decide) tm H1
  obtain ⟨H2, r2, s2, gt2', c2, q2, n2⟩ := keepDesc ro1 dl0
  have q02 := q1.trans' q2
  have ro2 : H2.ro ≤ H2.nx := by rw [q02.ro]; exact Nat.le_trans hro q02.nx
  obtain ⟨H3, d1, q3⟩ := describe_run (n := n) (fuel := fuel) hl1 hf1 hl2 hf2 hl3 hf3 hl4 hf4 hl5 hf5 hF (H := H2) (v := v1) (m32 k1) (m := k1.length) (by omega) ro2 (lenV_arg g1) (fun H' k => hS v1 k1 g1 len1 H' (q02.trans' k))
  have q03 := q02.trans' q3
  have ro3 : H3.ro ≤ H3.nx := by rw [q03.ro]; exact Nat.le_trans hro q03.nx
  have al3 : ∀ tm, oAlloc 45 descZ tm H3 = .val (.ptr H3.nx 0) (H3.newRow 45 1 descZ true) := fun tm => oAlloc_run _ _ (by decide) tm H3
  obtain ⟨H4, r4, s4, gt4', c4, q4, n4⟩ := keepDesc ro3 dl1
  have q04 := q03.trans' q4
  have q24 := q3.trans' q4
  have ro4 : H4.ro ≤ H4.nx := by rw [q04.ro]; exact Nat.le_trans hro q04.nx
  have gd : H4.t.get H1.nx = some (.row r2) := by rw [q24.get _ (by omega) (by simp)]; exact gt2'
  have lt2 : H1.nx < H4.nx := by have := q24.nx; omega
  simp only [gtr0, gtr1] at i0 i1
  simp (disch := omega) only [i0, i1, d0, d1, oExtr_run, extrV_0, extrV_1, al1, al3, s2, s4, seqO_run, goOn_val, goOn_call, onCR_ret, seqD_run, thenR_normal, thenR_ret, thenR_exit, normD_run, retD_run, exitD_run, condD_run, isBn_bool, condK_true, condK_false, blockD_run, leaveB_normal, leaveB_same, leaveB_ret, d0_run, k_run, evs_nil, evs_cons, oMv_run, oNeg_run, oInt_run, oAddS_run, oSub_run, oMul_run, oQuo_run, oRem_run, oBits_run, oShl_run, oShr_run, oXorU_run, oCmp_run, oEq_run, oNot_run, oPick_run, oCallF_run, N8.g00, N8.g01, N8.g02, N8.g03, N8.g04, N8.g05, N8.g06, N8.g07, N8.g10, N8.g11, N8.g12, N8.g13, N8.g14, N8.g15, N8.g16, N8.g17, N8.g20, N8.g21, N8.g22, N8.g23, N8.g24, N8.g25, N8.g26, N8.g27, N8.g30, N8.g31, N8.g32, N8.g33, N8.g34, N8.g35, N8.g36, N8.g37, N8.g40, N8.g41, N8.g42, N8.g43, N8.g44, N8.g45, N8.g46, N8.g47, N8.g50, N8.g51, N8.g52, N8.g53, N8.g54, N8.g55, N8.g56, N8.g57, N8.g60, N8.g61, N8.g62, N8.g63, N8.g64, N8.g65, N8.g66, N8.g67, N8.g70, N8.g71, N8.g72, N8.g73, N8.g74, N8.g75, N8.g76, N8.g77, oLoad1_run, oLoad_run, oStore_run, oOff_run, oIdxA_run, oIdxS_run, oNil_run, oLenL_run, oAllocZ_run, offV_ptr, nilV_ptr, lenV_slice, put_get, new_get, put_nx, put_ro, new_nx, new_ro, Nat.zero_add, drawnD_run, planD_nil, planD_cons, normF_run, stepK_free, stepK_read, stepK_eff, freeK_val, readK_val, effK_val, effK_call, retK_ret, keepR_nil, keepR_cons, still_nil, still_cons, rdOk_run, isSame_u32, isSame_u8, isSame_nI, lowOs_nil, lowOs_cons, lowV_nI, lowV_u32, lowV_u8, lowV_bool, rsF_nil, rsF_cons, List.map_cons, List.map_nil, cond_true, cond_false, Nat.testBit_eq_decide_div_mod_eq, Nat.reducePow, Nat.reduceDiv, Nat.reduceMod, decide_true, Nat.reduceEqDiff, decide_false, reduceCtorEq, Nat.zero_ne_one, stepK_freeG, stepK_readG, stepK_effG, guardK_tt, guardK_ft, guardK_ff, guardK_tf, lowV_agg, lowV_undef, isSame_nI, oSlice_run, oMinMax_run, oBSlice_run, oAppend_run, Option.map_none, Option.map_some, gtr0, gtr1, gtr4, gtr5, gtr7, gtr19, gtr20, gtr21, gtr22, gtr23, gtr24, gtr25, gtr26, gtr27, gtr28, gtr59, gtr60, gtr61, gtr62, gtr63, gtr64, gtr65, gtr66, gtr67, gtr68, gtr69, gtr70, gtr71, gtr72, gtr73, gtr74, gtr75, gtr76, gtr77, gtr78, str4, str5, str6, str7, str8, str19, str20, str21, str22, str23, str24, str25, str26, str27, str28, str60, str61, str62, str63, str64, str65, str66, str67, str68, str69, str70, str71, str72, str73, str74, str75, str76, str77, str78]
  generalize hR : c5_r1 _ _ _ _ = R
  obtain ⟨tm2, H5, rfl, j59, j0, j1, j5, j7, q5⟩ : ∃ tm' H', R = .ok .normal tm' H' ⟨[], none⟩ ∧ gt59 tm' = .bool false ∧ gt0 tm' = v0 ∧ gt1 tm' = v1 ∧ gt5 tm' = .ptr H1.nx 0 ∧ gt7 tm' = .ptr H3.nx 0 ∧ Keep H4 H' [] := by
    rw [← hR]
    refine r1_run (n := n + 2) (fuel := fuel) hl6 hf6 len0 (g0.keep q04) (h32 k0) gd c2 lt2 ro4 (fun H' k => hS v0 k0 g0 len0 H' (q04.trans' k)) ?_ ?_ ?_ ?_ ?_ ?_
    · simp only [gtr0, i0, seqO_run, goOn_val, goOn_call, onCR_ret, seqD_run, thenR_normal, thenR_ret, thenR_exit, normD_run, retD_run, exitD_run, condD_run, isBn_bool, condK_true, condK_false, blockD_run, leaveB_normal, leaveB_same, leaveB_ret, d0_run, k_run, evs_nil, evs_cons, oMv_run, oNeg_run, oInt_run, oAddS_run, oSub_run, oMul_run, oQuo_run, oRem_run, oBits_run, oShl_run, oShr_run, oXorU_run, oCmp_run, oEq_run, oNot_run, oPick_run, oCallF_run, N8.g00, N8.g01, N8.g02, N8.g03, N8.g04, N8.g05, N8.g06, N8.g07, N8.g10, N8.g11, N8.g12, N8.g13, N8.g14, N8.g15, N8.g16, N8.g17, N8.g20, N8.g21, N8.g22, N8.g23, N8.g24, N8.g25, N8.g26, N8.g27, N8.g30, N8.g31, N8.g32, N8.g33, N8.g34, N8.g35, N8.g36, N8.g37, N8.g40, N8.g41, N8.g42, N8.g43, N8.g44, N8.g45, N8.g46, N8.g47, N8.g50, N8.g51, N8.g52, N8.g53, N8.g54, N8.g55, N8.g56, N8.g57, N8.g60, N8.g61, N8.g62, N8.g63, N8.g64, N8.g65, N8.g66, N8.g67, N8.g70, N8.g71, N8.g72, N8.g73, N8.g74, N8.g75, N8.g76, N8.g77, oLoad1_run, oLoad_run, oStore_run, oOff_run, oIdxA_run, oIdxS_run, oNil_run, oLenL_run, oAllocZ_run, offV_ptr, nilV_ptr, lenV_slice, put_get, new_get, put_nx, put_ro, new_nx, new_ro, Nat.zero_add, drawnD_run, planD_nil, planD_cons, normF_run, stepK_free, stepK_read, stepK_eff, freeK_val, readK_val, effK_val, effK_call, retK_ret, keepR_nil, keepR_cons, still_nil, still_cons, rdOk_run, isSame_u32, isSame_u8, isSame_nI, lowOs_nil, lowOs_cons, lowV_nI, lowV_u32, lowV_u8, lowV_bool, rsF_nil, rsF_cons, List.map_cons, List.map_nil, cond_true, cond_false, Nat.testBit_eq_decide_div_mod_eq, Nat.reducePow, Nat.reduceDiv, Nat.reduceMod, decide_true, Nat.reduceEqDiff, decide_false, reduceCtorEq, Nat.zero_ne_one, stepK_freeG, stepK_readG, stepK_effG, guardK_tt, guardK_ft, guardK_ff, guardK_tf, lowV_agg, lowV_undef, isSame_nI, oSlice_run, oMinMax_run, oBSlice_run, oAppend_run, Option.map_none, Option.map_some, gtr0, gtr1, gtr4, gtr5, gtr7, gtr19, gtr20, gtr21, gtr22, gtr23, gtr24, gtr25, gtr26, gtr27, gtr28, gtr59, gtr60, gtr61, gtr62, gtr63, gtr64, gtr65, gtr66, gtr67, gtr68, gtr69, gtr70, gtr71, gtr72, gtr73, gtr74, gtr75, gtr76, gtr77, gtr78, str4, str5, str6, str7, str8, str19, str20, str21, str22, str23, str24, str25, str26, str27, str28, str60, str61, str62, str63, str64, str65, str66, str67, str68, str69, str70, str71, str72, str73, str74, str75, str76, str77, str78]
    · simp only [gtr1, i1, seqO_run, goOn_val, goOn_call, onCR_ret, seqD_run, thenR_normal, thenR_ret, thenR_exit, normD_run, retD_run, exitD_run, condD_run, isBn_bool, condK_true, condK_false, blockD_run, leaveB_normal, leaveB_same, leaveB_ret, d0_run, k_run, evs_nil, evs_cons, oMv_run, oNeg_run, oInt_run, oAddS_run, oSub_run, oMul_run, oQuo_run, oRem_run, oBits_run, oShl_run, oShr_run, oXorU_run, oCmp_run, oEq_run, oNot_run, oPick_run, oCallF_run, N8.g00, N8.g01, N8.g02, N8.g03, N8.g04, N8.g05, N8.g06, N8.g07, N8.g10, N8.g11, N8.g12, N8.g13, N8.g14, N8.g15, N8.g16, N8.g17, N8.g20, N8.g21, N8.g22, N8.g23, N8.g24, N8.g25, N8.g26, N8.g27, N8.g30, N8.g31, N8.g32, N8.g33, N8.g34, N8.g35, N8.g36, N8.g37, N8.g40, N8.g41, N8.g42, N8.g43, N8.g44, N8.g45, N8.g46, N8.g47, N8.g50, N8.g51, N8.g52, N8.g53, N8.g54, N8.g55, N8.g56, N8.g57, N8.g60, N8.g61, N8.g62, N8.g63, N8.g64, N8.g65, N8.g66, N8.g67, N8.g70, N8.g71, N8.g72, N8.g73, N8.g74, N8.g75, N8.g76, N8.g77, oLoad1_run, oLoad_run, oStore_run, oOff_run, oIdxA_run, oIdxS_run, oNil_run, oLenL_run, oAllocZ_run, offV_ptr, nilV_ptr, lenV_slice, put_get, new_get, put_nx, put_ro, new_nx, new_ro, Nat.zero_add, drawnD_run, planD_nil, planD_cons, normF_run, stepK_free, stepK_read, stepK_eff, freeK_val, readK_val, effK_val, effK_call, retK_ret, keepR_nil, keepR_cons, still_nil, still_cons, rdOk_run, isSame_u32, isSame_u8, isSame_nI, lowOs_nil, lowOs_cons, lowV_nI, lowV_u32, lowV_u8, lowV_bool, rsF_nil, rsF_cons, List.map_cons, List.map_nil, cond_true, cond_false, Nat.testBit_eq_decide_div_mod_eq, Nat.reducePow, Nat.reduceDiv, Nat.reduceMod, decide_true, Nat.reduceEqDiff, decide_false, reduceCtorEq, Nat.zero_ne_one, stepK_freeG, stepK_readG, stepK_effG, guardK_tt, guardK_ft, guardK_ff, guardK_tf, lowV_agg, lowV_undef, isSame_nI, oSlice_run, oMinMax_run, oBSlice_run, oAppend_run, Option.map_none, Option.map_some, gtr0, gtr1, gtr4, gtr5, gtr7, gtr19, gtr20, gtr21, gtr22, gtr23, gtr24, gtr25, gtr26, gtr27, gtr28, gtr59, gtr60, gtr61, gtr62, gtr63, gtr64, gtr65, gtr66, gtr67, gtr68, gtr69, gtr70, gtr71, gtr72, gtr73, gtr74, gtr75, gtr76, gtr77, gtr78, str4, str5, str6, str7, str8, str19, str20, str21, str22, str23, str24, str25, str26, str27, str28, str60, str61, str62, str63, str64, str65, str66, str67, str68, str69, str70, str71, str72, str73, str74, str75, str76, str77, str78]
    · simp only [gtr7, seqO_run, goOn_val, goOn_call, onCR_ret, seqD_run, thenR_normal, thenR_ret, thenR_exit, normD_run, retD_run, exitD_run, condD_run, isBn_bool, condK_true, condK_false, blockD_run, leaveB_normal, leaveB_same, leaveB_ret, d0_run, k_run, evs_nil, evs_cons, oMv_run, oNeg_run, oInt_run, oAddS_run, oSub_run, oMul_run, oQuo_run, oRem_run, oBits_run, oShl_run, oShr_run, oXorU_run, oCmp_run, oEq_run, oNot_run, oPick_run, oCallF_run, N8.g00, N8.g01, N8.g02, N8.g03, N8.g04, N8.g05, N8.g06, N8.g07, N8.g10, N8.g11, N8.g12, N8.g13, N8.g14, N8.g15, N8.g16, N8.g17, N8.g20, N8.g21, N8.g22, N8.g23, N8.g24, N8.g25, N8.g26, N8.g27, N8.g30, N8.g31, N8.g32, N8.g33, N8.g34, N8.g35, N8.g36, N8.g37, N8.g40, N8.g41, N8.g42, N8.g43, N8.g44, N8.g45, N8.g46, N8.g47, N8.g50, N8.g51, N8.g52, N8.g53, N8.g54, N8.g55, N8.g56, N8.g57, N8.g60, N8.g61, N8.g62, N8.g63, N8.g64, N8.g65, N8.g66, N8.g67, N8.g70, N8.g71, N8.g72, N8.g73, N8.g74, N8.g75, N8.g76, N8.g77, oLoad1_run, oLoad_run, oStore_run, oOff_run, oIdxA_run, oIdxS_run, oNil_run, oLenL_run, oAllocZ_run, offV_ptr, nilV_ptr, lenV_slice, put_get, new_get, put_nx, put_ro, new_nx, new_ro, Nat.zero_add, drawnD_run, planD_nil, planD_cons, normF_run, stepK_free, stepK_read, stepK_eff, freeK_val, readK_val, effK_val, effK_call, retK_ret, keepR_nil, keepR_cons, still_nil, still_cons, rdOk_run, isSame_u32, isSame_u8, isSame_nI, lowOs_nil, lowOs_cons, lowV_nI, lowV_u32, lowV_u8, lowV_bool, rsF_nil, rsF_cons, List.map_cons, List.map_nil, cond_true, cond_false, Nat.testBit_eq_decide_div_mod_eq, Nat.reducePow, Nat.reduceDiv, Nat.reduceMod, decide_true, Nat.reduceEqDiff, decide_false, reduceCtorEq, Nat.zero_ne_one, stepK_freeG, stepK_readG, stepK_effG, guardK_tt, guardK_ft, guardK_ff, guardK_tf, lowV_agg, lowV_undef, isSame_nI, oSlice_run, oMinMax_run, oBSlice_run, oAppend_run, Option.map_none, Option.map_some, gtr0, gtr1, gtr4, gtr5, gtr7, gtr19, gtr20, gtr21, gtr22, gtr23, gtr24, gtr25, gtr26, gtr27, gtr28, gtr59, gtr60, gtr61, gtr62, gtr63, gtr64, gtr65, gtr66, gtr67, gtr68, gtr69, gtr70, gtr71, gtr72, gtr73, gtr74, gtr75, gtr76, gtr77, gtr78, str4, str5, str6, str7, str8, str19, str20, str21, str22, str23, str24, str25, str26, str27, str28, str60, str61, str62, str63, str64, str65, str66, str67, str68, str69, str70, str71, str72, str73, str74, str75, str76, str77, str78]
    · simp only [gtr5, seqO_run, goOn_val, goOn_call, onCR_ret, seqD_run, thenR_normal, thenR_ret, thenR_exit, normD_run, retD_run, exitD_run, condD_run, isBn_bool, condK_true, condK_false, blockD_run, leaveB_normal, leaveB_same, leaveB_ret, d0_run, k_run, evs_nil, evs_cons, oMv_run, oNeg_run, oInt_run, oAddS_run, oSub_run, oMul_run, oQuo_run, oRem_run, oBits_run, oShl_run, oShr_run, oXorU_run, oCmp_run, oEq_run, oNot_run, oPick_run, oCallF_run, N8.g00, N8.g01, N8.g02, N8.g03, N8.g04, N8.g05, N8.g06, N8.g07, N8.g10, N8.g11, N8.g12, N8.g13, N8.g14, N8.g15, N8.g16, N8.g17, N8.g20, N8.g21, N8.g22, N8.g23, N8.g24, N8.g25, N8.g26, N8.g27, N8.g30, N8.g31, N8.g32, N8.g33, N8.g34, N8.g35, N8.g36, N8.g37, N8.g40, N8.g41, N8.g42, N8.g43, N8.g44, N8.g45, N8.g46, N8.g47, N8.g50, N8.g51, N8.g52, N8.g53, N8.g54, N8.g55, N8.g56, N8.g57, N8.g60, N8.g61, N8.g62, N8.g63, N8.g64, N8.g65, N8.g66, N8.g67, N8.g70, N8.g71, N8.g72, N8.g73, N8.g74, N8.g75, N8.g76, N8.g77, oLoad1_run, oLoad_run, oStore_run, oOff_run, oIdxA_run, oIdxS_run, oNil_run, oLenL_run, oAllocZ_run, offV_ptr, nilV_ptr, lenV_slice, put_get, new_get, put_nx, put_ro, new_nx, new_ro, Nat.zero_add, drawnD_run, planD_nil, planD_cons, normF_run, stepK_free, stepK_read, stepK_eff, freeK_val, readK_val, effK_val, effK_call, retK_ret, keepR_nil, keepR_cons, still_nil, still_cons, rdOk_run, isSame_u32, isSame_u8, isSame_nI, lowOs_nil, lowOs_cons, lowV_nI, lowV_u32, lowV_u8, lowV_bool, rsF_nil, rsF_cons, List.map_cons, List.map_nil, cond_true, cond_false, Nat.testBit_eq_decide_div_mod_eq, Nat.reducePow, Nat.reduceDiv, Nat.reduceMod, decide_true, Nat.reduceEqDiff, decide_false, reduceCtorEq, Nat.zero_ne_one, stepK_freeG, stepK_readG, stepK_effG, guardK_tt, guardK_ft, guardK_ff, guardK_tf, lowV_agg, lowV_undef, isSame_nI, oSlice_run, oMinMax_run, oBSlice_run, oAppend_run, Option.map_none, Option.map_some, gtr0, gtr1, gtr4, gtr5, gtr7, gtr19, gtr20, gtr21, gtr22, gtr23, gtr24, gtr25, gtr26, gtr27, gtr28, gtr59, gtr60, gtr61, gtr62, gtr63, gtr64, gtr65, gtr66, gtr67, gtr68, gtr69, gtr70, gtr71, gtr72, gtr73, gtr74, gtr75, gtr76, gtr77, gtr78, str4, str5, str6, str7, str8, str19, str20, str21, str22, str23, str24, str25, str26, str27, str28, str60, str61, str62, str63, str64, str65, str66, str67, str68, str69, str70, str71, str72, str73, str74, str75, str76, str77, str78]
    · simp only [gtr6, seqO_run, goOn_val, goOn_call, onCR_ret, seqD_run, thenR_normal, thenR_ret, thenR_exit, normD_run, retD_run, exitD_run, condD_run, isBn_bool, condK_true, condK_false, blockD_run, leaveB_normal, leaveB_same, leaveB_ret, d0_run, k_run, evs_nil, evs_cons, oMv_run, oNeg_run, oInt_run, oAddS_run, oSub_run, oMul_run, oQuo_run, oRem_run, oBits_run, oShl_run, oShr_run, oXorU_run, oCmp_run, oEq_run, oNot_run, oPick_run, oCallF_run, N8.g00, N8.g01, N8.g02, N8.g03, N8.g04, N8.g05, N8.g06, N8.g07, N8.g10, N8.g11, N8.g12, N8.g13, N8.g14, N8.g15, N8.g16, N8.g17, N8.g20, N8.g21, N8.g22, N8.g23, N8.g24, N8.g25, N8.g26, N8.g27, N8.g30, N8.g31, N8.g32, N8.g33, N8.g34, N8.g35, N8.g36, N8.g37, N8.g40, N8.g41, N8.g42, N8.g43, N8.g44, N8.g45, N8.g46, N8.g47, N8.g50, N8.g51, N8.g52, N8.g53, N8.g54, N8.g55, N8.g56, N8.g57, N8.g60, N8.g61, N8.g62, N8.g63, N8.g64, N8.g65, N8.g66, N8.g67, N8.g70, N8.g71, N8.g72, N8.g73, N8.g74, N8.g75, N8.g76, N8.g77, oLoad1_run, oLoad_run, oStore_run, oOff_run, oIdxA_run, oIdxS_run, oNil_run, oLenL_run, oAllocZ_run, offV_ptr, nilV_ptr, lenV_slice, put_get, new_get, put_nx, put_ro, new_nx, new_ro, Nat.zero_add, drawnD_run, planD_nil, planD_cons, normF_run, stepK_free, stepK_read, stepK_eff, freeK_val, readK_val, effK_val, effK_call, retK_ret, keepR_nil, keepR_cons, still_nil, still_cons, rdOk_run, isSame_u32, isSame_u8, isSame_nI, lowOs_nil, lowOs_cons, lowV_nI, lowV_u32, lowV_u8, lowV_bool, rsF_nil, rsF_cons, List.map_cons, List.map_nil, cond_true, cond_false, Nat.testBit_eq_decide_div_mod_eq, Nat.reducePow, Nat.reduceDiv, Nat.reduceMod, decide_true, Nat.reduceEqDiff, decide_false, reduceCtorEq, Nat.zero_ne_one, stepK_freeG, stepK_readG, stepK_effG, guardK_tt, guardK_ft, guardK_ff, guardK_tf, lowV_agg, lowV_undef, isSame_nI, oSlice_run, oMinMax_run, oBSlice_run, oAppend_run, Option.map_none, Option.map_some, gtr0, gtr1, gtr4, gtr5, gtr7, gtr19, gtr20, gtr21, gtr22, gtr23, gtr24, gtr25, gtr26, gtr27, gtr28, gtr59, gtr60, gtr61, gtr62, gtr63, gtr64, gtr65, gtr66, gtr67, gtr68, gtr69, gtr70, gtr71, gtr72, gtr73, gtr74, gtr75, gtr76, gtr77, gtr78, str4, str5, str6, str7, str8, str19, str20, str21, str22, str23, str24, str25, str26, str27, str28, str60, str61, str62, str63, str64, str65, str66, str67, str68, str69, str70, str71, str72, str73, str74, str75, str76, str77, str78]
    · simp only [gtr8, seqO_run, goOn_val, goOn_call, onCR_ret, seqD_run, thenR_normal, thenR_ret, thenR_exit, normD_run, retD_run, exitD_run, condD_run, isBn_bool, condK_true, condK_false, blockD_run, leaveB_normal, leaveB_same, leaveB_ret, d0_run, k_run, evs_nil, evs_cons, oMv_run, oNeg_run, oInt_run, oAddS_run, oSub_run, oMul_run, oQuo_run, oRem_run, oBits_run, oShl_run, oShr_run, oXorU_run, oCmp_run, oEq_run, oNot_run, oPick_run, oCallF_run, N8.g00, N8.g01, N8.g02, N8.g03, N8.g04, N8.g05, N8.g06, N8.g07, N8.g10, N8.g11, N8.g12, N8.g13, N8.g14, N8.g15, N8.g16, N8.g17, N8.g20, N8.g21, N8.g22, N8.g23, N8.g24, N8.g25, N8.g26, N8.g27, N8.g30, N8.g31, N8.g32, N8.g33, N8.g34, N8.g35, N8.g36, N8.g37, N8.g40, N8.g41, N8.g42, N8.g43, N8.g44, N8.g45, N8.g46, N8.g47, N8.g50, N8.g51, N8.g52, N8.g53, N8.g54, N8.g55, N8.g56, N8.g57, N8.g60, N8.g61, N8.g62, N8.g63, N8.g64, N8.g65, N8.g66, N8.g67, N8.g70, N8.g71, N8.g72, N8.g73, N8.g74, N8.g75, N8.g76, N8.g77, oLoad1_run, oLoad_run, oStore_run, oOff_run, oIdxA_run, oIdxS_run, oNil_run, oLenL_run, oAllocZ_run, offV_ptr, nilV_ptr, lenV_slice, put_get, new_get, put_nx, put_ro, new_nx, new_ro, Nat.zero_add, drawnD_run, planD_nil, planD_cons, normF_run, stepK_free, stepK_read, stepK_eff, freeK_val, readK_val, effK_val, effK_call, retK_ret, keepR_nil, keepR_cons, still_nil, still_cons, rdOk_run, isSame_u32, isSame_u8, isSame_nI, lowOs_nil, lowOs_cons, lowV_nI, lowV_u32, lowV_u8, lowV_bool, rsF_nil, rsF_cons, List.map_cons, List.map_nil, cond_true, cond_false, Nat.testBit_eq_decide_div_mod_eq, Nat.reducePow, Nat.reduceDiv, Nat.reduceMod, decide_true, Nat.reduceEqDiff, decide_false, reduceCtorEq, Nat.zero_ne_one, stepK_freeG, stepK_readG, stepK_effG, guardK_tt, guardK_ft, guardK_ff, guardK_tf, lowV_agg, lowV_undef, isSame_nI, oSlice_run, oMinMax_run, oBSlice_run, oAppend_run, Option.map_none, Option.map_some, gtr0, gtr1, gtr4, gtr5, gtr7, gtr19, gtr20, gtr21, gtr22, gtr23, gtr24, gtr25, gtr26, gtr27, gtr28, gtr59, gtr60, gtr61, gtr62, gtr63, gtr64, gtr65, gtr66, gtr67, gtr68, gtr69, gtr70, gtr71, gtr72, gtr73, gtr74, gtr75, gtr76, gtr77, gtr78, str4, str5, str6, str7, str8, str19, str20, str21, str22, str23, str24, str25, str26, str27, str28, str60, str61, str62, str63, str64, str65, str66, str67, str68, str69, str70, str71, str72, str73, str74, str75, str76, str77, str78]
  have q05 := q04.trans' q5
  have q25 := q24.trans' q5
  have ld1 : loadV 35 (.ptr H1.nx 0) H5 = .val (.agg (descL mLayer ((sh k0).map u8V) k0.length)) H5 := by
    rw [loadV_row (r := r2) (by rw [q5.get _ lt2 (by simp)]; exact gd) c2 (by omega), List.drop_zero, List.take_of_length_le (by omega)]
  have n0 := lenV_arg g0
  have n1 := lenV_arg g1
  simp only [gtr59, gtr0, gtr1, gtr5, gtr7] at j59 j0 j1 j5 j7
  have dropd : ∀ l : List UInt8, ((descL mLayer ((sh l).map u8V) l.length).drop 1).take 32 = (sh l).map u8V := fun l => by
    have := m32 l
    unfold descL
    rw [List.drop_succ_cons, List.drop_zero, List.take_append_of_le_length (by omega), List.take_of_length_le (by omega)]
  by_cases hk : k1.length = k0.length
  · obtain ⟨H6, e6, q6⟩ := matches_eq (n := n + 2) (fuel := fuel) hl6 hf6 (H := H5) (v := v1) (ms := mLayer) (h32 k0) (h32 k1) (k := k0.length) (fun H' => by rw [n1, hk]) (fun H' k => g1.low (Nat.le_trans q05.nx k.nx)) (fun H' k => hS v1 k1 g1 len1 H' (q05.trans' k)) (m := v0)
    have q06 := q05.trans' q6
    have ld2 : loadV 32 (.ptr H1.nx 1) H6 = .val (.agg ((sh k0).map u8V)) H6 := by
      rw [loadV_row (r := r2) (by rw [(q5.trans' q6).get _ lt2 (by simp)]; exact gd) c2 (by omega), dropd]
    have ld3 : loadV 32 (.ptr H3.nx 1) H6 = .val (.agg ((sh k1).map u8V)) H6 := by
      rw [loadV_row (r := r4) (by rw [(q5.trans' q6).get _ (by omega) (by simp)]; exact gt4') c4 (by omega), dropd]
    have et : callN lib fs fuel (n + 4) 30 [] H6 = .ret (.bool true) H6 := callN_hit (hT H6 q06)
    have dq := fun H => dig_eq (h32 k0) (h32 k1) H
    have z1 : decide (k0.length = k1.length) = true := decide_eq_true hk.symm
    have z2 : decide (decide (sh k1 = sh k0) = decide (sh k0 = sh k1)) = true := by
      by_cases h : sh k1 = sh k0
      · have h' : sh k0 = sh k1 := h.symm
        simp [h]
      · have h' : ¬ sh k0 = sh k1 := fun e => h e.symm
        simp [h, h']
    simp (disch := omega) only [thenR_normal, j59, j0, j1, j5, j7, ld1, e6, n0, n1, eqV_eq, z1, ld2, ld3, dq, eqB_run, z2, et, pickV_t, seqG_run, guardK_tt, Nat.zero_add, seqO_run, goOn_val, goOn_call, onCR_ret, seqD_run, thenR_normal, thenR_ret, thenR_exit, normD_run, retD_run, exitD_run, condD_run, isBn_bool, condK_true, condK_false, blockD_run, leaveB_normal, leaveB_same, leaveB_ret, d0_run, k_run, evs_nil, evs_cons, oMv_run, oNeg_run, oInt_run, oAddS_run, oSub_run, oMul_run, oQuo_run, oRem_run, oBits_run, oShl_run, oShr_run, oXorU_run, oCmp_run, oEq_run, oNot_run, oPick_run, oCallF_run, N8.g00, N8.g01, N8.g02, N8.g03, N8.g04, N8.g05, N8.g06, N8.g07, N8.g10, N8.g11, N8.g12, N8.g13, N8.g14, N8.g15, N8.g16, N8.g17, N8.g20, N8.g21, N8.g22, N8.g23, N8.g24, N8.g25, N8.g26, N8.g27, N8.g30, N8.g31, N8.g32, N8.g33, N8.g34, N8.g35, N8.g36, N8.g37, N8.g40, N8.g41, N8.g42, N8.g43, N8.g44, N8.g45, N8.g46, N8.g47, N8.g50, N8.g51, N8.g52, N8.g53, N8.g54, N8.g55, N8.g56, N8.g57, N8.g60, N8.g61, N8.g62, N8.g63, N8.g64, N8.g65, N8.g66, N8.g67, N8.g70, N8.g71, N8.g72, N8.g73, N8.g74, N8.g75, N8.g76, N8.g77, oLoad1_run, oLoad_run, oStore_run, oOff_run, oIdxA_run, oIdxS_run, oNil_run, oLenL_run, oAllocZ_run, offV_ptr, nilV_ptr, lenV_slice, put_get, new_get, put_nx, put_ro, new_nx, new_ro, Nat.zero_add, drawnD_run, planD_nil, planD_cons, normF_run, stepK_free, stepK_read, stepK_eff, freeK_val, readK_val, effK_val, effK_call, retK_ret, keepR_nil, keepR_cons, still_nil, still_cons, rdOk_run, isSame_u32, isSame_u8, isSame_nI, lowOs_nil, lowOs_cons, lowV_nI, lowV_u32, lowV_u8, lowV_bool, rsF_nil, rsF_cons, List.map_cons, List.map_nil, cond_true, cond_false, Nat.testBit_eq_decide_div_mod_eq, Nat.reducePow, Nat.reduceDiv, Nat.reduceMod, decide_true, Nat.reduceEqDiff, decide_false, reduceCtorEq, Nat.zero_ne_one, stepK_freeG, stepK_readG, stepK_effG, guardK_tt, guardK_ft, guardK_ff, guardK_tf, lowV_agg, lowV_undef, isSame_nI, oSlice_run, oMinMax_run, oBSlice_run, oAppend_run, Option.map_none, Option.map_some, gtr0, gtr1, gtr4, gtr5, gtr7, gtr19, gtr20, gtr21, gtr22, gtr23, gtr24, gtr25, gtr26, gtr27, gtr28, gtr59, gtr60, gtr61, gtr62, gtr63, gtr64, gtr65, gtr66, gtr67, gtr68, gtr69, gtr70, gtr71, gtr72, gtr73, gtr74, gtr75, gtr76, gtr77, gtr78, str4, str5, str6, str7, str8, str19, str20, str21, str22, str23, str24, str25, str26, str27, str28, str60, str61, str62, str63, str64, str65, str66, str67, str68, str69, str70, str71, str72, str73, str74, str75, str76, str77, str78]
    simp only [outF_ret]
    exact ⟨_, rfl⟩
  · obtain ⟨H6, e6, q6⟩ := matches_ne (n := n + 2) (fuel := fuel) hl6 hf6 (H := H5) (v := v1) (ms := mLayer) (h32 k0) (k := k0.length) (k' := k1.length) hk n1 (fun H' k => g1.low (Nat.le_trans q05.nx k.nx)) (m := v0)
    have q06 := q05.trans' q6
    have et : callN lib fs fuel (n + 4) 30 [] H6 = .ret (.bool true) H6 := callN_hit (hT H6 q06)
    have z1 : decide (k0.length = k1.length) = false := decide_eq_false fun e => hk e.symm
    have z2 : decide (false = false) = true := rfl
    simp (disch := omega) only [thenR_normal, j59, j0, j1, j5, j7, ld1, e6, n0, n1, eqV_eq, z1, eqB_run, z2, et, pickV_t, pickV_f, seqG_run, guardK_tt, guardK_ft, Nat.zero_add, seqO_run, goOn_val, goOn_call, onCR_ret, seqD_run, thenR_normal, thenR_ret, thenR_exit, normD_run, retD_run, exitD_run, condD_run, isBn_bool, condK_true, condK_false, blockD_run, leaveB_normal, leaveB_same, leaveB_ret, d0_run, k_run, evs_nil, evs_cons, oMv_run, oNeg_run, oInt_run, oAddS_run, oSub_run, oMul_run, oQuo_run, oRem_run, oBits_run, oShl_run, oShr_run, oXorU_run, oCmp_run, oEq_run, oNot_run, oPick_run, oCallF_run, N8.g00, N8.g01, N8.g02, N8.g03, N8.g04, N8.g05, N8.g06, N8.g07, N8.g10, N8.g11, N8.g12, N8.g13, N8.g14, N8.g15, N8.g16, N8.g17, N8.g20, N8.g21, N8.g22, N8.g23, N8.g24, N8.g25, N8.g26, N8.g27, N8.g30, N8.g31, N8.g32, N8.g33, N8.g34, N8.g35, N8.g36, N8.g37, N8.g40, N8.g41, N8.g42, N8.g43, N8.g44, N8.g45, N8.g46, N8.g47, N8.g50, N8.g51, N8.g52, N8.g53, N8.g54, N8.g55, N8.g56, N8.g57, N8.g60, N8.g61, N8.g62, N8.g63, N8.g64, N8.g65, N8.g66, N8.g67, N8.g70, N8.g71, N8.g72, N8.g73, N8.g74, N8.g75, N8.g76, N8.g77, oLoad1_run, oLoad_run, oStore_run, oOff_run, oIdxA_run, oIdxS_run, oNil_run, oLenL_run, oAllocZ_run, offV_ptr, nilV_ptr, lenV_slice, put_get, new_get, put_nx, put_ro, new_nx, new_ro, Nat.zero_add, drawnD_run, planD_nil, planD_cons, normF_run, stepK_free, stepK_read, stepK_eff, freeK_val, readK_val, effK_val, effK_call, retK_ret, keepR_nil, keepR_cons, still_nil, still_cons, rdOk_run, isSame_u32, isSame_u8, isSame_nI, lowOs_nil, lowOs_cons, lowV_nI, lowV_u32, lowV_u8, lowV_bool, rsF_nil, rsF_cons, List.map_cons, List.map_nil, cond_true, cond_false, Nat.testBit_eq_decide_div_mod_eq, Nat.reducePow, Nat.reduceDiv, Nat.reduceMod, decide_true, Nat.reduceEqDiff, decide_false, reduceCtorEq, Nat.zero_ne_one, stepK_freeG, stepK_readG, stepK_effG, guardK_tt, guardK_ft, guardK_ff, guardK_tf, lowV_agg, lowV_undef, isSame_nI, oSlice_run, oMinMax_run, oBSlice_run, oAppend_run, Option.map_none, Option.map_some, gtr0, gtr1, gtr4, gtr5, gtr7, gtr19, gtr20, gtr21, gtr22, gtr23, gtr24, gtr25, gtr26, gtr27, gtr28, gtr59, gtr60, gtr61, gtr62, gtr63, gtr64, gtr65, gtr66, gtr67, gtr68, gtr69, gtr70, gtr71, gtr72, gtr73, gtr74, gtr75, gtr76, gtr77, gtr78, str4, str5, str6, str7, str8, str19, str20, str21, str22, str23, str24, str25, str26, str27, str28, str60, str61, str62, str63, str64, str65, str66, str67, str68, str69, str70, str71, str72, str73, str74, str75, str76, str77, str78]
    simp only [outF_ret]
    exact ⟨_, rfl⟩
end
end Go.AI
