/- Equations in bundles; the code of the functions that are walked; the sum of one part, numbers of sixteen bytes written and read, a foot made and read, and the law, walked: proved without conditions but those that each names. -/
import Derived.Test.YtlnelphabohehaaGreatDoorP7
import Derived.Test.YtlnelphabohehaaGreatDoorProg
set_option maxRecDepth 1000000
set_option maxHeartbeats 0
set_option linter.unusedVariables false
set_option linter.unusedSimpArgs false
namespace Go.AI
open Go
noncomputable section
section
open Go N8
/-! where simp is to look: at what decides alone -/
theorem cgr_thenR {r r' : Res} (h : r = r') (k : TM → Heap → X → Res) : thenR r k = thenR r' k := by rw [h]
theorem cgr_goOn {r r' : OR} (h : r = r') (n : TM → Heap → X → Res) (d : SetF) (c : Ctx) (tm : TM) (H : Heap) (x : X) : goOn n d c tm H x r = goOn n d c tm H x r' := by rw [h]
theorem cgr_onCR {r r' : CR} (h : r = r') (n : TM → Heap → X → Res) (d : SetF) (tm : TM) (x : X) : onCR n d tm x r = onCR n d tm x r' := by rw [h]
theorem cgr_isBn {v v' : AV} (h : v = v') (k : Bool → Res) : isBn v k = isBn v' k := by rw [h]
theorem cgr_guardK {v v' : AV} (h : v = v') (b : Bool) (yes no : Res) : guardK v b yes no = guardK v' b yes no := by rw [h]
theorem cgr_condK {v v' : Bool} (h : v = v') (a b : TM → Heap → X → Res) (tm : TM) (H : Heap) (x : X) : condK a b v tm H x = condK a b v' tm H x := by rw [h]
theorem cgr_leaveB {r r' : Res} (h : r = r') (i : Nat) : leaveB i r = leaveB i r' := by rw [h]
theorem cgr_outF {r r' : Res} (h : r = r') (dc : Option AV → Nat → List AV → Heap → DR) (rs : List (EvF × Option (Nat × Bool))) : outF dc rs r = outF dc rs r' := by rw [h]
theorem cgr_freeK {r r' : OR} (h : r = r') (p : PI) (nx : PK) (rs : List RD) (tm : TM) (H : Heap) (x : X) : freeK p nx rs tm H x r = freeK p nx rs tm H x r' := by rw [h]
theorem cgr_readK {r r' : OR} (h : r = r') (p : PI) (nx : PK) (rs : List RD) (tm : TM) (H : Heap) (x : X) : readK p nx rs tm H x r = readK p nx rs tm H x r' := by rw [h]
theorem cgr_effK {r r' : OR} (h : r = r') (ds : List SetF) (p : PI) (nx : PK) (rs : List RD) (c : Ctx) (tm : TM) (x : X) : effK ds p nx rs c tm x r = effK ds p nx rs c tm x r' := by rw [h]
theorem cgr_retK {r r' : CR} (h : r = r') (ds : List SetF) (p : PI) (nx : PK) (rs : List RD) (tm : TM) (x : X) : retK ds p nx rs tm x r = retK ds p nx rs tm x r' := by rw [h]
attribute [congr] cgr_thenR cgr_goOn cgr_onCR cgr_isBn cgr_guardK cgr_condK cgr_leaveB cgr_outF cgr_freeK cgr_readK cgr_effK cgr_retK
theorem TB0 : (∀ tm : TM, gt0 tm = a0 (a0 (a0 tm)) ∧ gt1 tm = a1 (a0 (a0 tm)) ∧ gt2 tm = a2 (a0 (a0 tm)) ∧ gt3 tm = a3 (a0 (a0 tm)) ∧ gt4 tm = a4 (a0 (a0 tm)) ∧ gt5 tm = a5 (a0 (a0 tm)) ∧ gt6 tm = a6 (a0 (a0 tm)) ∧ gt7 tm = a7 (a0 (a0 tm)) ∧ gt8 tm = a0 (a1 (a0 tm)) ∧ gt9 tm = a1 (a1 (a0 tm)) ∧ gt10 tm = a2 (a1 (a0 tm)) ∧ gt11 tm = a3 (a1 (a0 tm)) ∧ gt12 tm = a4 (a1 (a0 tm)) ∧ gt13 tm = a5 (a1 (a0 tm)) ∧ gt14 tm = a6 (a1 (a0 tm)) ∧ gt15 tm = a7 (a1 (a0 tm)) ∧ gt16 tm = a0 (a2 (a0 tm)) ∧ gt17 tm = a1 (a2 (a0 tm)) ∧ gt18 tm = a2 (a2 (a0 tm)) ∧ gt19 tm = a3 (a2 (a0 tm)) ∧ gt20 tm = a4 (a2 (a0 tm)) ∧ gt21 tm = a5 (a2 (a0 tm)) ∧ gt22 tm = a6 (a2 (a0 tm)) ∧ gt23 tm = a7 (a2 (a0 tm)) ∧ gt24 tm = a0 (a3 (a0 tm)) ∧ gt25 tm = a1 (a3 (a0 tm)) ∧ gt26 tm = a2 (a3 (a0 tm)) ∧ gt27 tm = a3 (a3 (a0 tm)) ∧ gt28 tm = a4 (a3 (a0 tm)) ∧ gt29 tm = a5 (a3 (a0 tm)) ∧ gt30 tm = a6 (a3 (a0 tm)) ∧ gt31 tm = a7 (a3 (a0 tm))) ∧ (∀ (tm : TM) (v : AV), st0 tm v = u0 (u0 (u0 fun _ => v)) tm ∧ st1 tm v = u0 (u0 (u1 fun _ => v)) tm ∧ st2 tm v = u0 (u0 (u2 fun _ => v)) tm ∧ st3 tm v = u0 (u0 (u3 fun _ => v)) tm ∧ st4 tm v = u0 (u0 (u4 fun _ => v)) tm ∧ st5 tm v = u0 (u0 (u5 fun _ => v)) tm ∧ st6 tm v = u0 (u0 (u6 fun _ => v)) tm ∧ st7 tm v = u0 (u0 (u7 fun _ => v)) tm ∧ st8 tm v = u0 (u1 (u0 fun _ => v)) tm ∧ st9 tm v = u0 (u1 (u1 fun _ => v)) tm ∧ st10 tm v = u0 (u1 (u2 fun _ => v)) tm ∧ st11 tm v = u0 (u1 (u3 fun _ => v)) tm ∧ st12 tm v = u0 (u1 (u4 fun _ => v)) tm ∧ st13 tm v = u0 (u1 (u5 fun _ => v)) tm ∧ st14 tm v = u0 (u1 (u6 fun _ => v)) tm ∧ st15 tm v = u0 (u1 (u7 fun _ => v)) tm ∧ st16 tm v = u0 (u2 (u0 fun _ => v)) tm ∧ st17 tm v = u0 (u2 (u1 fun _ => v)) tm ∧ st18 tm v = u0 (u2 (u2 fun _ => v)) tm ∧ st19 tm v = u0 (u2 (u3 fun _ => v)) tm ∧ st20 tm v = u0 (u2 (u4 fun _ => v)) tm ∧ st21 tm v = u0 (u2 (u5 fun _ => v)) tm ∧ st22 tm v = u0 (u2 (u6 fun _ => v)) tm ∧ st23 tm v = u0 (u2 (u7 fun _ => v)) tm ∧ st24 tm v = u0 (u3 (u0 fun _ => v)) tm ∧ st25 tm v = u0 (u3 (u1 fun _ => v)) tm ∧ st26 tm v = u0 (u3 (u2 fun _ => v)) tm ∧ st27 tm v = u0 (u3 (u3 fun _ => v)) tm ∧ st28 tm v = u0 (u3 (u4 fun _ => v)) tm ∧ st29 tm v = u0 (u3 (u5 fun _ => v)) tm ∧ st30 tm v = u0 (u3 (u6 fun _ => v)) tm ∧ st31 tm v = u0 (u3 (u7 fun _ => v)) tm) := ⟨fun _ => ⟨rfl, rfl, rfl, rfl, rfl, rfl, rfl, rfl, rfl, rfl, rfl, rfl, rfl, rfl, rfl, rfl, rfl, rfl, rfl, rfl, rfl, rfl, rfl, rfl, rfl, rfl, rfl, rfl, rfl, rfl, rfl, rfl⟩, fun _ _ => ⟨rfl, rfl, rfl, rfl, rfl, rfl, rfl, rfl, rfl, rfl, rfl, rfl, rfl, rfl, rfl, rfl, rfl, rfl, rfl, rfl, rfl, rfl, rfl, rfl, rfl, rfl, rfl, rfl, rfl, rfl, rfl, rfl⟩⟩
theorem TB1 : (∀ tm : TM, gt32 tm = a0 (a4 (a0 tm)) ∧ gt33 tm = a1 (a4 (a0 tm)) ∧ gt34 tm = a2 (a4 (a0 tm)) ∧ gt35 tm = a3 (a4 (a0 tm)) ∧ gt36 tm = a4 (a4 (a0 tm)) ∧ gt37 tm = a5 (a4 (a0 tm)) ∧ gt38 tm = a6 (a4 (a0 tm)) ∧ gt39 tm = a7 (a4 (a0 tm)) ∧ gt40 tm = a0 (a5 (a0 tm)) ∧ gt41 tm = a1 (a5 (a0 tm)) ∧ gt42 tm = a2 (a5 (a0 tm)) ∧ gt43 tm = a3 (a5 (a0 tm)) ∧ gt44 tm = a4 (a5 (a0 tm)) ∧ gt45 tm = a5 (a5 (a0 tm)) ∧ gt46 tm = a6 (a5 (a0 tm)) ∧ gt47 tm = a7 (a5 (a0 tm)) ∧ gt48 tm = a0 (a6 (a0 tm)) ∧ gt49 tm = a1 (a6 (a0 tm)) ∧ gt50 tm = a2 (a6 (a0 tm)) ∧ gt51 tm = a3 (a6 (a0 tm)) ∧ gt52 tm = a4 (a6 (a0 tm)) ∧ gt53 tm = a5 (a6 (a0 tm)) ∧ gt54 tm = a6 (a6 (a0 tm)) ∧ gt55 tm = a7 (a6 (a0 tm)) ∧ gt56 tm = a0 (a7 (a0 tm)) ∧ gt57 tm = a1 (a7 (a0 tm)) ∧ gt58 tm = a2 (a7 (a0 tm)) ∧ gt59 tm = a3 (a7 (a0 tm)) ∧ gt60 tm = a4 (a7 (a0 tm)) ∧ gt61 tm = a5 (a7 (a0 tm)) ∧ gt62 tm = a6 (a7 (a0 tm)) ∧ gt63 tm = a7 (a7 (a0 tm))) ∧ (∀ (tm : TM) (v : AV), st32 tm v = u0 (u4 (u0 fun _ => v)) tm ∧ st33 tm v = u0 (u4 (u1 fun _ => v)) tm ∧ st34 tm v = u0 (u4 (u2 fun _ => v)) tm ∧ st35 tm v = u0 (u4 (u3 fun _ => v)) tm ∧ st36 tm v = u0 (u4 (u4 fun _ => v)) tm ∧ st37 tm v = u0 (u4 (u5 fun _ => v)) tm ∧ st38 tm v = u0 (u4 (u6 fun _ => v)) tm ∧ st39 tm v = u0 (u4 (u7 fun _ => v)) tm ∧ st40 tm v = u0 (u5 (u0 fun _ => v)) tm ∧ st41 tm v = u0 (u5 (u1 fun _ => v)) tm ∧ st42 tm v = u0 (u5 (u2 fun _ => v)) tm ∧ st43 tm v = u0 (u5 (u3 fun _ => v)) tm ∧ st44 tm v = u0 (u5 (u4 fun _ => v)) tm ∧ st45 tm v = u0 (u5 (u5 fun _ => v)) tm ∧ st46 tm v = u0 (u5 (u6 fun _ => v)) tm ∧ st47 tm v = u0 (u5 (u7 fun _ => v)) tm ∧ st48 tm v = u0 (u6 (u0 fun _ => v)) tm ∧ st49 tm v = u0 (u6 (u1 fun _ => v)) tm ∧ st50 tm v = u0 (u6 (u2 fun _ => v)) tm ∧ st51 tm v = u0 (u6 (u3 fun _ => v)) tm ∧ st52 tm v = u0 (u6 (u4 fun _ => v)) tm ∧ st53 tm v = u0 (u6 (u5 fun _ => v)) tm ∧ st54 tm v = u0 (u6 (u6 fun _ => v)) tm ∧ st55 tm v = u0 (u6 (u7 fun _ => v)) tm ∧ st56 tm v = u0 (u7 (u0 fun _ => v)) tm ∧ st57 tm v = u0 (u7 (u1 fun _ => v)) tm ∧ st58 tm v = u0 (u7 (u2 fun _ => v)) tm ∧ st59 tm v = u0 (u7 (u3 fun _ => v)) tm ∧ st60 tm v = u0 (u7 (u4 fun _ => v)) tm ∧ st61 tm v = u0 (u7 (u5 fun _ => v)) tm ∧ st62 tm v = u0 (u7 (u6 fun _ => v)) tm ∧ st63 tm v = u0 (u7 (u7 fun _ => v)) tm) := ⟨fun _ => ⟨rfl, rfl, rfl, rfl, rfl, rfl, rfl, rfl, rfl, rfl, rfl, rfl, rfl, rfl, rfl, rfl, rfl, rfl, rfl, rfl, rfl, rfl, rfl, rfl, rfl, rfl, rfl, rfl, rfl, rfl, rfl, rfl⟩, fun _ _ => ⟨rfl, rfl, rfl, rfl, rfl, rfl, rfl, rfl, rfl, rfl, rfl, rfl, rfl, rfl, rfl, rfl, rfl, rfl, rfl, rfl, rfl, rfl, rfl, rfl, rfl, rfl, rfl, rfl, rfl, rfl, rfl, rfl⟩⟩
theorem TB2 : (∀ tm : TM, gt64 tm = a0 (a0 (a1 tm)) ∧ gt65 tm = a1 (a0 (a1 tm)) ∧ gt66 tm = a2 (a0 (a1 tm)) ∧ gt67 tm = a3 (a0 (a1 tm)) ∧ gt68 tm = a4 (a0 (a1 tm)) ∧ gt69 tm = a5 (a0 (a1 tm)) ∧ gt70 tm = a6 (a0 (a1 tm)) ∧ gt71 tm = a7 (a0 (a1 tm)) ∧ gt72 tm = a0 (a1 (a1 tm)) ∧ gt73 tm = a1 (a1 (a1 tm)) ∧ gt74 tm = a2 (a1 (a1 tm)) ∧ gt75 tm = a3 (a1 (a1 tm)) ∧ gt76 tm = a4 (a1 (a1 tm)) ∧ gt77 tm = a5 (a1 (a1 tm)) ∧ gt78 tm = a6 (a1 (a1 tm)) ∧ gt79 tm = a7 (a1 (a1 tm)) ∧ gt80 tm = a0 (a2 (a1 tm)) ∧ gt81 tm = a1 (a2 (a1 tm)) ∧ gt82 tm = a2 (a2 (a1 tm)) ∧ gt83 tm = a3 (a2 (a1 tm)) ∧ gt84 tm = a4 (a2 (a1 tm)) ∧ gt85 tm = a5 (a2 (a1 tm)) ∧ gt86 tm = a6 (a2 (a1 tm)) ∧ gt87 tm = a7 (a2 (a1 tm)) ∧ gt88 tm = a0 (a3 (a1 tm)) ∧ gt89 tm = a1 (a3 (a1 tm)) ∧ gt90 tm = a2 (a3 (a1 tm)) ∧ gt91 tm = a3 (a3 (a1 tm)) ∧ gt92 tm = a4 (a3 (a1 tm)) ∧ gt93 tm = a5 (a3 (a1 tm)) ∧ gt94 tm = a6 (a3 (a1 tm)) ∧ gt95 tm = a7 (a3 (a1 tm))) ∧ (∀ (tm : TM) (v : AV), st64 tm v = u1 (u0 (u0 fun _ => v)) tm ∧ st65 tm v = u1 (u0 (u1 fun _ => v)) tm ∧ st66 tm v = u1 (u0 (u2 fun _ => v)) tm ∧ st67 tm v = u1 (u0 (u3 fun _ => v)) tm ∧ st68 tm v = u1 (u0 (u4 fun _ => v)) tm ∧ st69 tm v = u1 (u0 (u5 fun _ => v)) tm ∧ st70 tm v = u1 (u0 (u6 fun _ => v)) tm ∧ st71 tm v = u1 (u0 (u7 fun _ => v)) tm ∧ st72 tm v = u1 (u1 (u0 fun _ => v)) tm ∧ st73 tm v = u1 (u1 (u1 fun _ => v)) tm ∧ st74 tm v = u1 (u1 (u2 fun _ => v)) tm ∧ st75 tm v = u1 (u1 (u3 fun _ => v)) tm ∧ st76 tm v = u1 (u1 (u4 fun _ => v)) tm ∧ st77 tm v = u1 (u1 (u5 fun _ => v)) tm ∧ st78 tm v = u1 (u1 (u6 fun _ => v)) tm ∧ st79 tm v = u1 (u1 (u7 fun _ => v)) tm ∧ st80 tm v = u1 (u2 (u0 fun _ => v)) tm ∧ st81 tm v = u1 (u2 (u1 fun _ => v)) tm ∧ st82 tm v = u1 (u2 (u2 fun _ => v)) tm ∧ st83 tm v = u1 (u2 (u3 fun _ => v)) tm ∧ st84 tm v = u1 (u2 (u4 fun _ => v)) tm ∧ st85 tm v = u1 (u2 (u5 fun _ => v)) tm ∧ st86 tm v = u1 (u2 (u6 fun _ => v)) tm ∧ st87 tm v = u1 (u2 (u7 fun _ => v)) tm ∧ st88 tm v = u1 (u3 (u0 fun _ => v)) tm ∧ st89 tm v = u1 (u3 (u1 fun _ => v)) tm ∧ st90 tm v = u1 (u3 (u2 fun _ => v)) tm ∧ st91 tm v = u1 (u3 (u3 fun _ => v)) tm ∧ st92 tm v = u1 (u3 (u4 fun _ => v)) tm ∧ st93 tm v = u1 (u3 (u5 fun _ => v)) tm ∧ st94 tm v = u1 (u3 (u6 fun _ => v)) tm ∧ st95 tm v = u1 (u3 (u7 fun _ => v)) tm) := ⟨fun _ => ⟨rfl, rfl, rfl, rfl, rfl, rfl, rfl, rfl, rfl, rfl, rfl, rfl, rfl, rfl, rfl, rfl, rfl, rfl, rfl, rfl, rfl, rfl, rfl, rfl, rfl, rfl, rfl, rfl, rfl, rfl, rfl, rfl⟩, fun _ _ => ⟨rfl, rfl, rfl, rfl, rfl, rfl, rfl, rfl, rfl, rfl, rfl, rfl, rfl, rfl, rfl, rfl, rfl, rfl, rfl, rfl, rfl, rfl, rfl, rfl, rfl, rfl, rfl, rfl, rfl, rfl, rfl, rfl⟩⟩
theorem TB3 : (∀ tm : TM, gt96 tm = a0 (a4 (a1 tm)) ∧ gt97 tm = a1 (a4 (a1 tm)) ∧ gt98 tm = a2 (a4 (a1 tm)) ∧ gt99 tm = a3 (a4 (a1 tm)) ∧ gt100 tm = a4 (a4 (a1 tm)) ∧ gt101 tm = a5 (a4 (a1 tm)) ∧ gt102 tm = a6 (a4 (a1 tm)) ∧ gt103 tm = a7 (a4 (a1 tm)) ∧ gt104 tm = a0 (a5 (a1 tm)) ∧ gt105 tm = a1 (a5 (a1 tm)) ∧ gt106 tm = a2 (a5 (a1 tm)) ∧ gt107 tm = a3 (a5 (a1 tm)) ∧ gt108 tm = a4 (a5 (a1 tm)) ∧ gt109 tm = a5 (a5 (a1 tm)) ∧ gt110 tm = a6 (a5 (a1 tm)) ∧ gt111 tm = a7 (a5 (a1 tm)) ∧ gt112 tm = a0 (a6 (a1 tm)) ∧ gt113 tm = a1 (a6 (a1 tm)) ∧ gt114 tm = a2 (a6 (a1 tm)) ∧ gt115 tm = a3 (a6 (a1 tm)) ∧ gt116 tm = a4 (a6 (a1 tm)) ∧ gt117 tm = a5 (a6 (a1 tm)) ∧ gt118 tm = a6 (a6 (a1 tm)) ∧ gt119 tm = a7 (a6 (a1 tm)) ∧ gt120 tm = a0 (a7 (a1 tm)) ∧ gt121 tm = a1 (a7 (a1 tm)) ∧ gt122 tm = a2 (a7 (a1 tm)) ∧ gt123 tm = a3 (a7 (a1 tm)) ∧ gt124 tm = a4 (a7 (a1 tm)) ∧ gt125 tm = a5 (a7 (a1 tm)) ∧ gt126 tm = a6 (a7 (a1 tm)) ∧ gt127 tm = a7 (a7 (a1 tm))) ∧ (∀ (tm : TM) (v : AV), st96 tm v = u1 (u4 (u0 fun _ => v)) tm ∧ st97 tm v = u1 (u4 (u1 fun _ => v)) tm ∧ st98 tm v = u1 (u4 (u2 fun _ => v)) tm ∧ st99 tm v = u1 (u4 (u3 fun _ => v)) tm ∧ st100 tm v = u1 (u4 (u4 fun _ => v)) tm ∧ st101 tm v = u1 (u4 (u5 fun _ => v)) tm ∧ st102 tm v = u1 (u4 (u6 fun _ => v)) tm ∧ st103 tm v = u1 (u4 (u7 fun _ => v)) tm ∧ st104 tm v = u1 (u5 (u0 fun _ => v)) tm ∧ st105 tm v = u1 (u5 (u1 fun _ => v)) tm ∧ st106 tm v = u1 (u5 (u2 fun _ => v)) tm ∧ st107 tm v = u1 (u5 (u3 fun _ => v)) tm ∧ st108 tm v = u1 (u5 (u4 fun _ => v)) tm ∧ st109 tm v = u1 (u5 (u5 fun _ => v)) tm ∧ st110 tm v = u1 (u5 (u6 fun _ => v)) tm ∧ st111 tm v = u1 (u5 (u7 fun _ => v)) tm ∧ st112 tm v = u1 (u6 (u0 fun _ => v)) tm ∧ st113 tm v = u1 (u6 (u1 fun _ => v)) tm ∧ st114 tm v = u1 (u6 (u2 fun _ => v)) tm ∧ st115 tm v = u1 (u6 (u3 fun _ => v)) tm ∧ st116 tm v = u1 (u6 (u4 fun _ => v)) tm ∧ st117 tm v = u1 (u6 (u5 fun _ => v)) tm ∧ st118 tm v = u1 (u6 (u6 fun _ => v)) tm ∧ st119 tm v = u1 (u6 (u7 fun _ => v)) tm ∧ st120 tm v = u1 (u7 (u0 fun _ => v)) tm ∧ st121 tm v = u1 (u7 (u1 fun _ => v)) tm ∧ st122 tm v = u1 (u7 (u2 fun _ => v)) tm ∧ st123 tm v = u1 (u7 (u3 fun _ => v)) tm ∧ st124 tm v = u1 (u7 (u4 fun _ => v)) tm ∧ st125 tm v = u1 (u7 (u5 fun _ => v)) tm ∧ st126 tm v = u1 (u7 (u6 fun _ => v)) tm ∧ st127 tm v = u1 (u7 (u7 fun _ => v)) tm) := ⟨fun _ => ⟨rfl, rfl, rfl, rfl, rfl, rfl, rfl, rfl, rfl, rfl, rfl, rfl, rfl, rfl, rfl, rfl, rfl, rfl, rfl, rfl, rfl, rfl, rfl, rfl, rfl, rfl, rfl, rfl, rfl, rfl, rfl, rfl⟩, fun _ _ => ⟨rfl, rfl, rfl, rfl, rfl, rfl, rfl, rfl, rfl, rfl, rfl, rfl, rfl, rfl, rfl, rfl, rfl, rfl, rfl, rfl, rfl, rfl, rfl, rfl, rfl, rfl, rfl, rfl, rfl, rfl, rfl, rfl⟩⟩
theorem TB4 : (∀ tm : TM, gt128 tm = a0 (a0 (a2 tm)) ∧ gt129 tm = a1 (a0 (a2 tm)) ∧ gt130 tm = a2 (a0 (a2 tm)) ∧ gt131 tm = a3 (a0 (a2 tm)) ∧ gt132 tm = a4 (a0 (a2 tm)) ∧ gt133 tm = a5 (a0 (a2 tm)) ∧ gt134 tm = a6 (a0 (a2 tm)) ∧ gt135 tm = a7 (a0 (a2 tm)) ∧ gt136 tm = a0 (a1 (a2 tm)) ∧ gt137 tm = a1 (a1 (a2 tm)) ∧ gt138 tm = a2 (a1 (a2 tm)) ∧ gt139 tm = a3 (a1 (a2 tm)) ∧ gt140 tm = a4 (a1 (a2 tm)) ∧ gt141 tm = a5 (a1 (a2 tm)) ∧ gt142 tm = a6 (a1 (a2 tm)) ∧ gt143 tm = a7 (a1 (a2 tm)) ∧ gt144 tm = a0 (a2 (a2 tm)) ∧ gt145 tm = a1 (a2 (a2 tm)) ∧ gt146 tm = a2 (a2 (a2 tm)) ∧ gt147 tm = a3 (a2 (a2 tm)) ∧ gt148 tm = a4 (a2 (a2 tm)) ∧ gt149 tm = a5 (a2 (a2 tm)) ∧ gt150 tm = a6 (a2 (a2 tm)) ∧ gt151 tm = a7 (a2 (a2 tm)) ∧ gt152 tm = a0 (a3 (a2 tm)) ∧ gt153 tm = a1 (a3 (a2 tm)) ∧ gt154 tm = a2 (a3 (a2 tm)) ∧ gt155 tm = a3 (a3 (a2 tm)) ∧ gt156 tm = a4 (a3 (a2 tm)) ∧ gt157 tm = a5 (a3 (a2 tm)) ∧ gt158 tm = a6 (a3 (a2 tm)) ∧ gt159 tm = a7 (a3 (a2 tm))) ∧ (∀ (tm : TM) (v : AV), st128 tm v = u2 (u0 (u0 fun _ => v)) tm ∧ st129 tm v = u2 (u0 (u1 fun _ => v)) tm ∧ st130 tm v = u2 (u0 (u2 fun _ => v)) tm ∧ st131 tm v = u2 (u0 (u3 fun _ => v)) tm ∧ st132 tm v = u2 (u0 (u4 fun _ => v)) tm ∧ st133 tm v = u2 (u0 (u5 fun _ => v)) tm ∧ st134 tm v = u2 (u0 (u6 fun _ => v)) tm ∧ st135 tm v = u2 (u0 (u7 fun _ => v)) tm ∧ st136 tm v = u2 (u1 (u0 fun _ => v)) tm ∧ st137 tm v = u2 (u1 (u1 fun _ => v)) tm ∧ st138 tm v = u2 (u1 (u2 fun _ => v)) tm ∧ st139 tm v = u2 (u1 (u3 fun _ => v)) tm ∧ st140 tm v = u2 (u1 (u4 fun _ => v)) tm ∧ st141 tm v = u2 (u1 (u5 fun _ => v)) tm ∧ st142 tm v = u2 (u1 (u6 fun _ => v)) tm ∧ st143 tm v = u2 (u1 (u7 fun _ => v)) tm ∧ st144 tm v = u2 (u2 (u0 fun _ => v)) tm ∧ st145 tm v = u2 (u2 (u1 fun _ => v)) tm ∧ st146 tm v = u2 (u2 (u2 fun _ => v)) tm ∧ st147 tm v = u2 (u2 (u3 fun _ => v)) tm ∧ st148 tm v = u2 (u2 (u4 fun _ => v)) tm ∧ st149 tm v = u2 (u2 (u5 fun _ => v)) tm ∧ st150 tm v = u2 (u2 (u6 fun _ => v)) tm ∧ st151 tm v = u2 (u2 (u7 fun _ => v)) tm ∧ st152 tm v = u2 (u3 (u0 fun _ => v)) tm ∧ st153 tm v = u2 (u3 (u1 fun _ => v)) tm ∧ st154 tm v = u2 (u3 (u2 fun _ => v)) tm ∧ st155 tm v = u2 (u3 (u3 fun _ => v)) tm ∧ st156 tm v = u2 (u3 (u4 fun _ => v)) tm ∧ st157 tm v = u2 (u3 (u5 fun _ => v)) tm ∧ st158 tm v = u2 (u3 (u6 fun _ => v)) tm ∧ st159 tm v = u2 (u3 (u7 fun _ => v)) tm) := ⟨fun _ => ⟨rfl, rfl, rfl, rfl, rfl, rfl, rfl, rfl, rfl, rfl, rfl, rfl, rfl, rfl, rfl, rfl, rfl, rfl, rfl, rfl, rfl, rfl, rfl, rfl, rfl, rfl, rfl, rfl, rfl, rfl, rfl, rfl⟩, fun _ _ => ⟨rfl, rfl, rfl, rfl, rfl, rfl, rfl, rfl, rfl, rfl, rfl, rfl, rfl, rfl, rfl, rfl, rfl, rfl, rfl, rfl, rfl, rfl, rfl, rfl, rfl, rfl, rfl, rfl, rfl, rfl, rfl, rfl⟩⟩
theorem TB5 : (∀ tm : TM, gt160 tm = a0 (a4 (a2 tm)) ∧ gt161 tm = a1 (a4 (a2 tm)) ∧ gt162 tm = a2 (a4 (a2 tm)) ∧ gt163 tm = a3 (a4 (a2 tm)) ∧ gt164 tm = a4 (a4 (a2 tm)) ∧ gt165 tm = a5 (a4 (a2 tm)) ∧ gt166 tm = a6 (a4 (a2 tm)) ∧ gt167 tm = a7 (a4 (a2 tm)) ∧ gt168 tm = a0 (a5 (a2 tm)) ∧ gt169 tm = a1 (a5 (a2 tm)) ∧ gt170 tm = a2 (a5 (a2 tm)) ∧ gt171 tm = a3 (a5 (a2 tm)) ∧ gt172 tm = a4 (a5 (a2 tm)) ∧ gt173 tm = a5 (a5 (a2 tm)) ∧ gt174 tm = a6 (a5 (a2 tm)) ∧ gt175 tm = a7 (a5 (a2 tm)) ∧ gt176 tm = a0 (a6 (a2 tm)) ∧ gt177 tm = a1 (a6 (a2 tm)) ∧ gt178 tm = a2 (a6 (a2 tm)) ∧ gt179 tm = a3 (a6 (a2 tm)) ∧ gt180 tm = a4 (a6 (a2 tm)) ∧ gt181 tm = a5 (a6 (a2 tm)) ∧ gt182 tm = a6 (a6 (a2 tm)) ∧ gt183 tm = a7 (a6 (a2 tm)) ∧ gt184 tm = a0 (a7 (a2 tm)) ∧ gt185 tm = a1 (a7 (a2 tm)) ∧ gt186 tm = a2 (a7 (a2 tm)) ∧ gt187 tm = a3 (a7 (a2 tm)) ∧ gt188 tm = a4 (a7 (a2 tm)) ∧ gt189 tm = a5 (a7 (a2 tm)) ∧ gt190 tm = a6 (a7 (a2 tm)) ∧ gt191 tm = a7 (a7 (a2 tm))) ∧ (∀ (tm : TM) (v : AV), st160 tm v = u2 (u4 (u0 fun _ => v)) tm ∧ st161 tm v = u2 (u4 (u1 fun _ => v)) tm ∧ st162 tm v = u2 (u4 (u2 fun _ => v)) tm ∧ st163 tm v = u2 (u4 (u3 fun _ => v)) tm ∧ st164 tm v = u2 (u4 (u4 fun _ => v)) tm ∧ st165 tm v = u2 (u4 (u5 fun _ => v)) tm ∧ st166 tm v = u2 (u4 (u6 fun _ => v)) tm ∧ st167 tm v = u2 (u4 (u7 fun _ => v)) tm ∧ st168 tm v = u2 (u5 (u0 fun _ => v)) tm ∧ st169 tm v = u2 (u5 (u1 fun _ => v)) tm ∧ st170 tm v = u2 (u5 (u2 fun _ => v)) tm ∧ st171 tm v = u2 (u5 (u3 fun _ => v)) tm ∧ st172 tm v = u2 (u5 (u4 fun _ => v)) tm ∧ st173 tm v = u2 (u5 (u5 fun _ => v)) tm ∧ st174 tm v = u2 (u5 (u6 fun _ => v)) tm ∧ st175 tm v = u2 (u5 (u7 fun _ => v)) tm ∧ st176 tm v = u2 (u6 (u0 fun _ => v)) tm ∧ st177 tm v = u2 (u6 (u1 fun _ => v)) tm ∧ st178 tm v = u2 (u6 (u2 fun _ => v)) tm ∧ st179 tm v = u2 (u6 (u3 fun _ => v)) tm ∧ st180 tm v = u2 (u6 (u4 fun _ => v)) tm ∧ st181 tm v = u2 (u6 (u5 fun _ => v)) tm ∧ st182 tm v = u2 (u6 (u6 fun _ => v)) tm ∧ st183 tm v = u2 (u6 (u7 fun _ => v)) tm ∧ st184 tm v = u2 (u7 (u0 fun _ => v)) tm ∧ st185 tm v = u2 (u7 (u1 fun _ => v)) tm ∧ st186 tm v = u2 (u7 (u2 fun _ => v)) tm ∧ st187 tm v = u2 (u7 (u3 fun _ => v)) tm ∧ st188 tm v = u2 (u7 (u4 fun _ => v)) tm ∧ st189 tm v = u2 (u7 (u5 fun _ => v)) tm ∧ st190 tm v = u2 (u7 (u6 fun _ => v)) tm ∧ st191 tm v = u2 (u7 (u7 fun _ => v)) tm) := ⟨fun _ => ⟨rfl, rfl, rfl, rfl, rfl, rfl, rfl, rfl, rfl, rfl, rfl, rfl, rfl, rfl, rfl, rfl, rfl, rfl, rfl, rfl, rfl, rfl, rfl, rfl, rfl, rfl, rfl, rfl, rfl, rfl, rfl, rfl⟩, fun _ _ => ⟨rfl, rfl, rfl, rfl, rfl, rfl, rfl, rfl, rfl, rfl, rfl, rfl, rfl, rfl, rfl, rfl, rfl, rfl, rfl, rfl, rfl, rfl, rfl, rfl, rfl, rfl, rfl, rfl, rfl, rfl, rfl, rfl⟩⟩
end

section
open Go.Proofs N8
def lit0 : List UInt8 := [48, 48, 48, 48, 48, 48, 48, 48, 48, 48, 48, 48, 48, 48, 102, 102]
def lit10 : List UInt8 := [48, 49, 50, 51, 52, 53, 54, 55, 56, 57, 97, 98, 99, 100, 101, 102, 103, 104, 105, 106, 107, 108, 109, 110, 111, 112, 113, 114, 115, 116, 117, 118, 119, 120, 121, 122]
def lit12 : List UInt8 := [115, 116, 114, 99, 111, 110, 118, 58, 32, 105, 108, 108, 101, 103, 97, 108, 32, 65, 112, 112, 101, 110, 100, 73, 110, 116, 47, 70, 111, 114, 109, 97, 116, 73, 110, 116, 32, 98, 97, 115, 101]
def c4 : CF := ⟨[(gt6, none)], (seqD (seqO (oMv (k (.bool false))) st6 <| normD) (seqD (seqO (oMv gt0) st20 <| seqO (oInt gt20 .i64) st21 <| seqO (oRem gt21 (k (nI .i64 4001))) st22 <| seqO (oMv gt22) st7 <| normD) (seqD (seqO (oMv gt7) st23 <| seqO (oCallF 11 [gt23]) st24 <| seqO (oMv gt24) st8 <| normD) (seqD (seqO (oMv gt8) st26 <| seqO (oCallF 12 [gt26, (k (nI .i64 0)), (k (nI .i64 0))]) st27 <| seqO (oMv gt27) st25 <| seqO (oExtr gt25 0) st28 <| seqO (oExtr gt25 1) st29 <| seqO (oExtr gt25 2) st30 <| seqO (oMv gt28) st9 <| seqO (oMv gt29) st10 <| seqO (oMv gt30) st11 <| normD) (seqD (seqD (seqO (oMv gt8) st31 <| seqO (oLenL gt31) st32 <| seqO (oEq gt32 (k (nI .i64 48)) eqI true) st33 <| seqO (oMv gt33) st34 <| seqG gt34 false (oMv gt11) st35 <| seqG gt34 false (oEq gt35 (k (nI .i64 0)) eqI true) st36 <| seqO (oPick gt34 (k (.bool true)) gt36) st37 <| seqO (oMv gt37) st38 <| seqG gt38 false (oMv gt9) st39 <| seqG gt38 false (oLenL gt39) st40 <| seqG gt38 false (oEq gt40 (k (nI .i64 0)) eqI true) st41 <| seqO (oPick gt38 (k (.bool true)) gt41) st42 <| seqO (oMv gt42) st43 <| seqG gt43 false (oMv gt10) st44 <| seqG gt43 false (oEq gt44 (k (nI .i64 48)) eqI true) st45 <| seqO (oPick gt43 (k (.bool true)) gt45) st46 <| normD) (condD gt46 (seqD (seqO (oMv (k (.bool false))) st6 <| normD) retD) normD)) (seqD (seqO (oMv gt7) st47 <| seqO (oAddS gt47 (k (nI .i64 1))) st48 <| seqO (oMkSlice 5 1 1 [(nI .u8 0)] gt48 gt48) st49 <| seqO (oMv gt8) st50 <| seqO (oAppend gt49 gt50 5 1 1) st51 <| seqO (oMv gt51) st12 <| normD) (seqD (seqO (oMv gt12) st53 <| seqO (oCallF 13 [gt53]) st54 <| seqO (oMv gt54) st52 <| seqO (oExtr gt52 0) st55 <| seqO (oExtr gt52 1) st56 <| seqO (oMv gt55) st13 <| seqO (oMv gt56) st14 <| normD) (seqD (seqO (oMv gt12) st58 <| seqO (oSlice 1 gt58 (some (k (nI .i64 1))) none none) st59 <| seqO (oCallF 13 [gt59]) st60 <| seqO (oMv gt60) st57 <| seqO (oExtr gt57 0) st61 <| seqO (oExtr gt57 1) st62 <| seqO (oMv gt61) st15 <| seqO (oMv gt62) st16 <| normD) (seqD (seqD (seqO (oMv gt14) st63 <| seqO (oEq gt63 (k (nI .i64 0)) eqI true) st64 <| seqO (oMv gt64) st65 <| seqG gt65 false (oMv gt13) st66 <| seqG gt65 false (oMv gt7) st67 <| seqG gt65 false (oEq gt66 gt67 eqI true) st68 <| seqO (oPick gt65 (k (.bool true)) gt68) st69 <| seqO (oMv gt69) st70 <| seqG gt70 false (oMv gt16) st71 <| seqG gt70 false (oEq gt71 (k (nI .i64 5)) eqI true) st72 <| seqO (oPick gt70 (k (.bool true)) gt72) st73 <| normD) (condD gt73 (seqD (seqO (oMv (k (.bool false))) st6 <| normD) retD) normD)) (seqD (seqO (oMv gt1) st74 <| seqO (oInt gt74 .i64) st75 <| seqO (oRem gt75 (k (nI .i64 48))) st76 <| seqO (oMv gt76) st17 <| normD) (seqD (seqO (oMv gt12) st77 <| seqO (oMv gt7) st78 <| seqO (oAddS gt78 (k (nI .i64 1))) st79 <| seqO (oMv gt17) st80 <| seqO (oAddS gt79 gt80) st81 <| seqO (oIdxS gt77 gt81 1) st82 <| seqO (oLoad1 gt82) st83 <| seqO (oMv gt2) st84 <| seqO (oBits gt83 gt84 xorF) st85 <| seqO (oIdxS gt77 gt81 1) st86 <| seqO (oStore gt86 gt85 1) d0 <| normD) (seqD (seqO (oMv gt12) st88 <| seqO (oCallF 13 [gt88]) st89 <| seqO (oMv gt89) st87 <| seqO (oExtr gt87 0) st90 <| seqO (oExtr gt87 1) st91 <| seqO (oMv gt90) st18 <| seqO (oMv gt91) st19 <| normD) (seqD (seqD (seqO (oMv gt2) st92 <| seqO (oEq gt92 (k (nI .u8 0)) eqI false) st93 <| normD) (condD gt93 (seqD (seqO (oMv gt19) st94 <| seqO (oEq gt94 (k (nI .i64 0)) eqI false) st95 <| seqO (oMv gt95) st96 <| seqG gt96 true (oMv gt18) st97 <| seqG gt96 true (oMv gt13) st98 <| seqG gt96 true (oEq gt97 gt98 eqI false) st99 <| seqO (oPick gt96 gt99 (k (.bool false))) st100 <| seqO (oMv gt100) st101 <| seqG gt101 true (oCallF 14 []) st102 <| seqO (oPick gt101 gt102 (k (.bool false))) st103 <| seqO (oMv gt103) st6 <| normD) retD) normD)) (seqD (seqD (seqO (oMv gt17) st104 <| seqO (oCmp gt104 (k (nI .i64 16)) igeF strGe) st105 <| seqO (oMv gt105) st106 <| seqG gt106 true (oMv gt17) st107 <| seqG gt106 true (oCmp gt107 (k (nI .i64 32)) iltF strLt) st108 <| seqO (oPick gt106 gt108 (k (.bool false))) st109 <| normD) (condD gt109 (seqD (seqO (oMv gt19) st110 <| seqO (oEq gt110 (k (nI .i64 5)) eqI false) st111 <| seqO (oMv gt111) st112 <| seqG gt112 false (oMv gt19) st113 <| seqG gt112 false (oEq gt113 (k (nI .i64 0)) eqI false) st114 <| seqG gt112 false (oMv gt114) st115 <| seqG gt115 true (oMv gt18) st116 <| seqG gt115 true (oMv gt13) st117 <| seqG gt115 true (oEq gt116 gt117 eqI true) st118 <| seqG gt112 false (oPick gt115 gt118 (k (.bool false))) st119 <| seqO (oPick gt112 (k (.bool true)) gt119) st120 <| seqO (oMv gt120) st121 <| seqG gt121 true (oCallF 14 []) st122 <| seqO (oPick gt121 gt122 (k (.bool false))) st123 <| seqO (oMv gt123) st6 <| normD) retD) normD)) (seqD (seqO (oMv gt19) st124 <| seqO (oEq gt124 (k (nI .i64 5)) eqI false) st125 <| seqO (oMv gt125) st126 <| seqG gt126 true (oCallF 14 []) st127 <| seqO (oPick gt126 gt127 (k (.bool false))) st128 <| seqO (oMv gt128) st6 <| normD) retD)))))))))))))))⟩
def c14 : CF := ⟨[(gt0, none)], (seqD (seqO (oMv (k (.bool false))) st0 <| normD) (seqD (seqO (oCallF 11 [(k (nI .i64 255))]) st4 <| seqO (oMv gt4) st1 <| normD) (seqD (seqO (oMkSlice 5 1 1 [(nI .u8 0)] (k (nI .i64 47)) (k (nI .i64 47))) st6 <| seqO (oCallF 13 [gt6]) st7 <| seqO (oMv gt7) st5 <| seqO (oExtr gt5 0) st8 <| seqO (oExtr gt5 1) st9 <| seqO (oMv gt8) st2 <| seqO (oMv gt9) st3 <| normD) (seqD (seqO (oMv gt1) st10 <| seqO (oLenL gt10) st11 <| seqO (oEq gt11 (k (nI .i64 48)) eqI false) st12 <| seqO (oMv gt12) st13 <| seqG gt13 true (oMv gt1) st14 <| seqG gt13 true (oSlice 1 gt14 (some (k (nI .i64 16))) (some (k (nI .i64 32))) none) st15 <| seqG gt13 true (oStr gt15) st16 <| seqG gt13 true (oEq gt16 (k (.str lit0)) eqS false) st17 <| seqO (oPick gt13 gt17 (k (.bool false))) st18 <| seqO (oMv gt18) st19 <| seqG gt19 true (oMv gt3) st20 <| seqG gt19 true (oEq gt20 (k (nI .i64 4)) eqI false) st21 <| seqO (oPick gt19 gt21 (k (.bool false))) st22 <| seqO (oMv gt22) st0 <| normD) retD))))⟩
def c11 : CF := ⟨[(gt2, none)], (seqD (seqO (oMv (k .nils)) st2 <| normD) (seqD (seqO (oMv gt0) st7 <| seqO (oMinMax true [gt7, (k (nI .i64 0))]) st8 <| seqO (oCallF 27 [gt8, (k (nI .i64 16))]) st9 <| seqO (oMv gt9) st3 <| normD) (seqD (seqO (oMv gt3) st10 <| seqO (oLenS gt10) st11 <| seqO (oSub (k (nI .i64 16)) gt11) st12 <| seqO (oCallF 28 [(k (.str [48])), gt12]) st13 <| seqO (oAddS (k (.str [80, 84, 22, 0])) gt13) st14 <| seqO (oMv gt3) st15 <| seqO (oAddS gt14 gt15) st16 <| seqO (oAddS gt16 (k (.str [80, 79, 82, 84, 79, 76]))) st17 <| seqO (oMv gt17) st4 <| normD) (seqD (seqO (oMv gt4) st19 <| seqO (oBytes gt19 5) st20 <| seqO (oBuild [(nI .u8 0), (nI .u8 0), (nI .u8 0), (nI .u32 0), .nils, (.str []), (.str [])] [⟨0, 1, (k (nI .u8 4))⟩, ⟨4, 1, gt20⟩]) st21 <| seqO (oCallF 29 [gt21, (k .nils)]) st22 <| seqO (oMv gt22) st18 <| seqO (oExtr gt18 0) st23 <| seqO (oExtr gt18 1) st24 <| seqO (oMv gt23) st5 <| seqO (oMv gt24) st6 <| normD) (seqD (seqO (oMv gt5) st25 <| seqO (oMv gt25) st2 <| normD) retD)))))⟩
def c13 : CF := ⟨[(gt2, none), (gt3, none)], (seqD (seqO (oMv (k (nI .i64 0))) st2 <| seqO (oMv (k (nI .i64 0))) st3 <| normD) (seqD (seqD (seqO (oMv gt0) st7 <| seqO (oLenL gt7) st8 <| seqO (oCmp gt8 (k (nI .i64 48)) iltF strLt) st9 <| normD) (condD gt9 (seqD (seqO (oMv (k (nI .i64 0))) st2 <| seqO (oMv (k (nI .i64 4))) st3 <| normD) retD) normD)) (seqD (seqO (oMv gt0) st10 <| seqO (oMv gt0) st11 <| seqO (oLenL gt11) st12 <| seqO (oSub gt12 (k (nI .i64 48))) st13 <| seqO (oSlice 1 gt10 (some gt13) none none) st14 <| seqO (oMv gt14) st4 <| normD) (seqD (seqO (oMv gt4) st16 <| seqO (oSlice 1 gt16 (some (k (nI .i64 16))) (some (k (nI .i64 32))) none) st17 <| seqO (oStr gt17) st18 <| seqO (oCallF 31 [gt18, (k (nI .i64 16)), (k (nI .i64 64))]) st19 <| seqO (oMv gt19) st15 <| seqO (oExtr gt15 0) st20 <| seqO (oExtr gt15 1) st21 <| seqO (oMv gt20) st5 <| seqO (oMv gt21) st6 <| normD) (seqD (seqD (seqO (oMv gt6) st22 <| seqO (oEq gt22 (k .nili) (eqF true (eqC Tryz.prog (eqT Tryz.prog 9))) true) st23 <| seqO (oMv gt23) st24 <| seqG gt24 false (oMv gt5) st25 <| seqG gt24 false (oMv gt0) st26 <| seqG gt24 false (oLenL gt26) st27 <| seqG gt24 false (oSub gt27 (k (nI .i64 48))) st28 <| seqG gt24 false (oCmp gt25 gt28 igeF strGe) st29 <| seqO (oPick gt24 (k (.bool true)) gt29) st30 <| seqO (oMv gt30) st31 <| seqG gt31 false (oMv gt4) st32 <| seqG gt31 false (oMv gt5) st33 <| seqG gt31 false (oCallF 11 [gt33]) st34 <| seqG gt31 false (oCallF 32 [gt32, gt34]) st35 <| seqG gt31 false (oNot gt35) st36 <| seqO (oPick gt31 (k (.bool true)) gt36) st37 <| normD) (condD gt37 (seqD (seqO (oMv (k (nI .i64 0))) st2 <| seqO (oMv (k (nI .i64 5))) st3 <| normD) retD) normD)) (seqD (seqO (oMv gt5) st38 <| seqO (oMv gt38) st2 <| seqO (oMv (k (nI .i64 0))) st3 <| normD) retD))))))⟩
def c12 : CF := ⟨[(gt6, none), (gt7, none), (gt8, none)], (seqD (seqO (oMv (k .nils)) st6 <| seqO (oMv (k (nI .i64 0))) st7 <| seqO (oMv (k (nI .i64 0))) st8 <| normD) (seqD (seqD (seqO (oMv gt1) st9 <| seqO (oCmp gt9 (k (nI .i64 0)) iltF strLt) st10 <| seqO (oMv gt10) st11 <| seqG gt11 false (oMv gt1) st12 <| seqG gt11 false (oMv gt0) st13 <| seqG gt11 false (oLenL gt13) st14 <| seqG gt11 false (oCmp gt12 gt14 igtF strGt) st15 <| seqO (oPick gt11 (k (.bool true)) gt15) st16 <| normD) (condD gt16 (seqD (seqO (oMv (k .nils)) st6 <| seqO (oMv (k (nI .i64 0))) st7 <| seqO (oMv (k (nI .i64 1))) st8 <| normD) retD) normD)) (seqD (seqO (oMv gt0) st18 <| seqO (oMv gt1) st19 <| seqO (oSlice 1 gt18 (some gt19) none none) st20 <| seqO (oMv gt2) st21 <| seqO (oCallF 30 [gt20, gt21]) st22 <| seqO (oMv gt22) st17 <| seqO (oExtr gt17 0) st23 <| seqO (oExtr gt17 1) st24 <| seqO (oExtr gt17 2) st25 <| seqO (oExtr gt17 3) st26 <| seqO (oMv gt24) st6 <| seqO (oMv gt25) st7 <| seqO (oMv gt26) st8 <| normD) (seqD (seqO (oMv gt6) st27 <| seqO (oMv gt7) st28 <| seqO (oMv gt8) st29 <| seqO (oMv gt27) st6 <| seqO (oMv gt28) st7 <| seqO (oMv gt29) st8 <| normD) retD))))⟩
def c30 : CF := ⟨[(gt4, some (7, true)), (gt5, none), (gt6, none), (gt7, none)], (seqD (seqO (oAlloc 80 [(nI .u8 0), (nI .u8 0), (nI .u8 0), (nI .u32 0), .nils, (.str []), (.str [])]) st4 <| seqO (oMv (k .nils)) st5 <| seqO (oMv (k (nI .i64 0))) st6 <| seqO (oMv (k (nI .i64 0))) st7 <| normD) (seqD (seqD (seqO (oMv gt1) st10 <| seqO (oCmp gt10 (k (nI .i64 0)) iltF strLt) st11 <| normD) (condD gt11 (seqD (seqO (oBuild [(nI .u8 0), (nI .u8 0), (nI .u8 0), (nI .u32 0), .nils, (.str []), (.str [])] []) st12 <| seqO (oStore gt4 gt12 7) d0 <| seqO (oMv (k .nils)) st5 <| seqO (oMv (k (nI .i64 0))) st6 <| seqO (oMv (k (nI .i64 1))) st7 <| normD) retD) normD)) (seqD (seqO (oMv gt0) st14 <| seqO (oCallF 55 [gt14]) st15 <| seqO (oMv gt15) st13 <| seqO (oExtr gt13 0) st16 <| seqO (oExtr gt13 1) st17 <| seqO (oExtr gt13 2) st18 <| seqO (oStore gt4 gt16 7) d0 <| seqO (oMv gt17) st8 <| seqO (oMv gt18) st7 <| normD) (seqD (seqD (seqO (oMv gt7) st19 <| seqO (oEq gt19 (k (nI .i64 0)) eqI true) st20 <| normD) (condD gt20 (seqD (seqO (oBuild [(nI .u8 0), (nI .u8 0), (nI .u8 0), (nI .u32 0), .nils, (.str []), (.str [])] []) st21 <| seqO (oMv gt7) st22 <| seqO (oStore gt4 gt21 7) d0 <| seqO (oMv (k .nils)) st5 <| seqO (oMv (k (nI .i64 0))) st6 <| seqO (oMv gt22) st7 <| normD) retD) normD)) (seqD (seqO (oMv gt0) st24 <| seqO (oMv gt8) st25 <| seqO (oSlice 1 gt24 (some gt25) none none) st26 <| seqO (oMv gt1) st27 <| seqO (oCallF 56 [gt26, gt27]) st28 <| seqO (oMv gt28) st23 <| seqO (oExtr gt23 0) st29 <| seqO (oExtr gt23 1) st30 <| seqO (oExtr gt23 2) st31 <| seqO (oMv gt29) st5 <| seqO (oMv gt30) st9 <| seqO (oMv gt31) st7 <| normD) (seqD (seqD (seqO (oMv gt7) st32 <| seqO (oEq gt32 (k (nI .i64 0)) eqI false) st33 <| normD) (condD gt33 (seqD (seqO (oMv gt8) st34 <| seqO (oMv gt9) st35 <| seqO (oAddS gt34 gt35) st36 <| seqO (oMv gt36) st8 <| normD) (seqO (oMv gt0) st37 <| seqO (oMv gt8) st38 <| seqO (oSlice 1 gt37 (some gt38) none none) st39 <| seqO (oMv gt5) st40 <| seqO (oCallF 57 [gt39, gt40]) st41 <| seqO (oMv gt41) st7 <| normD)) normD)) (seqD (seqD (seqO (oMv gt7) st42 <| seqO (oEq gt42 (k (nI .i64 0)) eqI true) st43 <| normD) (condD gt43 (seqD (seqO (oBuild [(nI .u8 0), (nI .u8 0), (nI .u8 0), (nI .u32 0), .nils, (.str []), (.str [])] []) st44 <| seqO (oMv gt7) st45 <| seqO (oStore gt4 gt44 7) d0 <| seqO (oMv (k .nils)) st5 <| seqO (oMv (k (nI .i64 0))) st6 <| seqO (oMv gt45) st7 <| normD) retD) normD)) (seqD (seqO (oLoad gt4 7) st46 <| seqO (oMv gt5) st47 <| seqO (oMv gt8) st48 <| seqO (oAddS gt48 (k (nI .i64 8))) st49 <| seqO (oStore gt4 gt46 7) d0 <| seqO (oMv gt47) st5 <| seqO (oMv gt49) st6 <| seqO (oMv (k (nI .i64 0))) st7 <| normD) retD))))))))⟩
def c55 : CF := ⟨[(gt2, some (7, true)), (gt3, none), (gt4, none)], (seqD (seqO (oBox gt0 36) st1 <| seqO (oAlloc 80 [(nI .u8 0), (nI .u8 0), (nI .u8 0), (nI .u32 0), .nils, (.str []), (.str [])]) st2 <| seqO (oMv (k (nI .i64 0))) st3 <| seqO (oMv (k (nI .i64 0))) st4 <| normD) (seqD (seqD (seqO (oLoad1 gt1) st12 <| seqO (oCallF 93 [gt12]) st13 <| seqO (oMv gt13) st5 <| normD) (seqD (seqO (oMv gt5) st14 <| seqO (oEq gt14 (k (nI .i64 0)) eqI true) st15 <| normD) (condD gt15 (seqD (seqO (oBuild [(nI .u8 0), (nI .u8 0), (nI .u8 0), (nI .u32 0), .nils, (.str []), (.str [])] []) st16 <| seqO (oMv gt5) st17 <| seqO (oStore gt2 gt16 7) d0 <| seqO (oMv (k (nI .i64 0))) st3 <| seqO (oMv gt17) st4 <| normD) retD) normD))) (seqD (seqO (oAlloc 3 [(nI .i64 0)]) st6 <| seqO (oAlloc 4 [(.bool false)]) st7 <| seqO (oStore gt6 (k (nI .i64 4)) 1) d0 <| seqO (oStore gt7 (k (.bool false)) 1) d0 <| normD) (seqD (seqO (oFunc 94 [] [gt7, gt1, gt6]) st18 <| seqO (oAlloc 171 [.nilf]) st8 <| seqO (oStore gt8 gt18 1) d0 <| normD) (seqD (seqO (oFunc 95 [] [gt1, gt6, gt7, gt8]) st19 <| seqO (oMv gt19) st9 <| normD) (seqD (drawnD [⟨oLoad1 gt1, none, [(st1, gt1)], st20, .read, 0, 0⟩, ⟨oIdxS gt20 (k (nI .i64 3)) 1, none, [(st20, gt20)], st21, .free, 1, 1⟩, ⟨oLoad1 gt21, none, [(st21, gt21)], st22, .read, 2, 3⟩, ⟨oLoad1 gt8, none, [(st8, gt8)], st23, .read, 3, 0⟩, ⟨oAlloc 80 [(nI .u8 0), (nI .u8 0), (nI .u8 0), (nI .u32 0), .nils, (.str []), (.str [])], none, [], st10, .free, 7, 0⟩, ⟨oCall gt23 Tryz.prog [(k (nI .i64 4))], none, [(st23, gt23)], st24, .eff, 4, 8⟩, ⟨oCallF 97 [gt24], none, [(st24, gt24)], st25, .eff, 5, 24⟩, ⟨oBuild [(nI .u8 0), (nI .u8 0), (nI .u8 0), (nI .u32 0), .nils, (.str []), (.str [])] [⟨0, 1, gt22⟩, ⟨3, 1, gt25⟩], none, [(st22, gt22), (st25, gt25)], st26, .free, 6, 63⟩, ⟨oStore gt10 gt26 7, none, [(st10, gt10), (st26, gt26)], d0, .eff, 8, 255⟩]) (seqD (drawnD [⟨oLoad1 gt8, none, [(st8, gt8)], st27, .read, 0, 0⟩, ⟨oLoad1 gt8, none, [(st8, gt8)], st31, .read, 4, 0⟩, ⟨oCall gt27 Tryz.prog [(k (nI .i64 1))], none, [(st27, gt27)], st28, .eff, 1, 1⟩, ⟨oIdxS gt28 (k (nI .i64 0)) 1, none, [(st28, gt28)], st29, .free, 2, 3⟩, ⟨oLoad1 gt29, none, [(st29, gt29)], st30, .read, 3, 7⟩, ⟨oOff gt10 1, none, [(st10, gt10)], st35, .free, 8, 15⟩, ⟨oCall gt31 Tryz.prog [(k (nI .i64 1))], none, [(st31, gt31)], st32, .eff, 5, 19⟩, ⟨oIdxS gt32 (k (nI .i64 0)) 1, none, [(st32, gt32)], st33, .free, 6, 51⟩, ⟨oLoad1 gt33, none, [(st33, gt33)], st34, .read, 7, 115⟩, ⟨oStore gt35 gt30 1, none, [(st35, gt35), (st30, gt30)], d0, .eff, 9, 319⟩, ⟨oOff gt10 2, none, [(st10, gt10)], st36, .free, 10, 1023⟩, ⟨oStore gt36 gt34 1, none, [(st36, gt36), (st34, gt34)], d0, .eff, 11, 2047⟩]) (seqD (seqD (seqO (oLoad gt10 7) st37 <| seqO (oCallF 87 [gt37, (k (nI .u8 4))]) st38 <| normD) (condD gt38 (drawnD [⟨oLoad1 gt8, none, [(st8, gt8)], st39, .read, 0, 0⟩, ⟨oLoad1 gt8, none, [(st8, gt8)], st40, .read, 1, 0⟩, ⟨oCall gt40 Tryz.prog [(k (nI .i64 2))], none, [(st40, gt40)], st41, .eff, 2, 2⟩, ⟨oCallF 97 [gt41], none, [(st41, gt41)], st42, .eff, 3, 6⟩, ⟨oInt gt42 .i64, none, [(st42, gt42)], st43, .free, 4, 14⟩, ⟨oCall gt39 Tryz.prog [gt43], none, [(st39, gt39), (st43, gt43)], st44, .eff, 5, 31⟩, ⟨oCallF 98 [gt44], none, [(st44, gt44)], st45, .eff, 6, 63⟩, ⟨oOff gt10 4, none, [(st10, gt10)], st46, .free, 7, 127⟩, ⟨oStore gt46 gt45 1, none, [(st46, gt46), (st45, gt45)], d0, .eff, 8, 255⟩]) normD)) (seqD (seqD (seqO (oLoad gt10 7) st47 <| seqO (oCallF 87 [gt47, (k (nI .u8 8))]) st48 <| normD) (condD gt48 (seqO (oMv gt9) st49 <| seqO (oCall gt49 Tryz.prog []) st50 <| seqO (oOff gt10 5) st51 <| seqO (oStore gt51 gt50 1) d0 <| normD) normD)) (seqD (seqD (seqO (oLoad gt10 7) st52 <| seqO (oCallF 87 [gt52, (k (nI .u8 16))]) st53 <| normD) (condD gt53 (seqO (oMv gt9) st54 <| seqO (oCall gt54 Tryz.prog []) st55 <| seqO (oOff gt10 6) st56 <| seqO (oStore gt56 gt55 1) d0 <| normD) normD)) (seqD (seqO (oLoad1 gt1) st57 <| seqO (oLoad1 gt6) st58 <| seqO (oSlice 1 gt57 none (some gt58) none) st59 <| seqO (oBSlice 36 1 1 [.nils] [⟨0, 1, gt59⟩]) st60 <| seqO (oCallF 54 [gt60]) st61 <| seqO (oBits gt61 (k (nI .u32 65535)) landF) st62 <| seqO (oMv gt62) st11 <| normD) (seqD (blockD 0 (seqD (seqO (oLoad gt10 7) st64 <| seqO (oCallF 87 [gt64, (k (nI .u8 2))]) st65 <| seqO (oMv gt65) st66 <| seqG gt66 true (oLoad1 gt8) st67 <| seqG gt66 true (oCall gt67 Tryz.prog [(k (nI .i64 2))]) st68 <| seqG gt66 true (oCallF 97 [gt68]) st69 <| seqG gt66 true (oMv gt11) st70 <| seqG gt66 true (oEq gt69 gt70 eqI true) st71 <| seqO (oPick gt66 gt71 (k (.bool false))) st72 <| seqO (oMv gt72) st73 <| seqG gt73 true (oLoad1 gt7) st74 <| seqG gt73 true (oNot gt74) st75 <| seqO (oPick gt73 gt75 (k (.bool false))) st76 <| seqO (oMv gt76) st63 <| normD) (condD gt63 (seqD (seqO (oBuild [(nI .u8 0), (nI .u8 0), (nI .u8 0), (nI .u32 0), .nils, (.str []), (.str [])] []) st77 <| seqO (oStore gt2 gt77 7) d0 <| seqO (oMv (k (nI .i64 0))) st3 <| seqO (oMv (k (nI .i64 21))) st4 <| normD) retD) (seqD (seqO (oLoad1 gt7) st79 <| seqO (oMv gt79) st78 <| normD) (condD gt78 (seqD (seqO (oBuild [(nI .u8 0), (nI .u8 0), (nI .u8 0), (nI .u32 0), .nils, (.str []), (.str [])] []) st80 <| seqO (oStore gt2 gt80 7) d0 <| seqO (oMv (k (nI .i64 0))) st3 <| seqO (oMv (k (nI .i64 4))) st4 <| normD) retD) normD))))) (seqD (drawnD [⟨oLoad gt10 7, none, [(st10, gt10)], st81, .read, 0, 0⟩, ⟨oLoad1 gt6, none, [(st6, gt6)], st82, .read, 1, 0⟩, ⟨oStore gt2 gt81 7, none, [(st2, gt2), (st81, gt81)], d0, .eff, 2, 1⟩, ⟨oMv gt82, none, [(st82, gt82)], st3, .eff, 3, 7⟩, ⟨oMv (k (nI .i64 0)), none, [], st4, .eff, 4, 15⟩]) retD)))))))))))))⟩
def c94 : CF := ⟨[(gt5, none)], (seqD (seqO (oMv (k .nils)) st5 <| normD) (seqD (seqD (seqO (oLoad1 gt1) st6 <| seqO (oMv gt6) st7 <| seqG gt7 false (oMv gt0) st8 <| seqG gt7 false (oLoad1 gt2) st9 <| seqG gt7 false (oLenL gt9) st10 <| seqG gt7 false (oLoad1 gt3) st11 <| seqG gt7 false (oSub gt10 gt11) st12 <| seqG gt7 false (oCmp gt8 gt12 igtF strGt) st13 <| seqO (oPick gt7 (k (.bool true)) gt13) st14 <| seqO (oStore gt1 gt14 1) d0 <| normD) (seqD (seqO (oLoad1 gt1) st15 <| normD) (condD gt15 (seqD (seqO (oMv gt0) st16 <| seqO (oMinMax false [gt16, (k (nI .i64 4))]) st17 <| seqO (oMkSlice 5 1 1 [(nI .u8 0)] gt17 gt17) st18 <| seqO (oMv gt18) st5 <| normD) retD) normD))) (seqD (seqO (oLoad1 gt3) st19 <| seqO (oMv gt0) st20 <| seqO (oAddS gt19 gt20) st21 <| seqO (oStore gt3 gt21 1) d0 <| normD) (seqD (seqO (oLoad1 gt2) st22 <| seqO (oLoad1 gt3) st23 <| seqO (oMv gt0) st24 <| seqO (oSub gt23 gt24) st25 <| seqO (oLoad1 gt3) st26 <| seqO (oSlice 1 gt22 (some gt25) (some gt26) none) st27 <| seqO (oMv gt27) st5 <| normD) retD))))⟩
def c87 : CF := ⟨[(gt4, none)], (seqD (seqO (oBox gt0 80) st2 <| seqO (oMv (k (.bool false))) st4 <| normD) (seqD (seqO (oOff gt2 0) st5 <| seqO (oLoad1 gt5) st6 <| seqO (oMv gt1) st7 <| seqO (oBits gt6 gt7 landF) st8 <| seqO (oEq gt8 (k (nI .u8 0)) eqI true) st9 <| seqO (oMv gt9) st4 <| normD) retD))⟩
def c98 : CF := ⟨[(gt2, none)], (seqD (seqO (oMv (k .nils)) st2 <| normD) (seqD (seqD (seqO (oMv gt0) st3 <| seqO (oEq gt3 (k .nils) eqL false) st4 <| normD) (condD gt4 (seqD (seqO (oMv (k .nils)) st2 <| normD) retD) normD)) (seqD (seqO (oBSlice 5 1 0 (List.replicate 0 [(nI .u8 0)]).flatten []) st5 <| seqO (oMv gt0) st6 <| seqO (oAppend gt5 gt6 5 1 1) st7 <| seqO (oMv gt7) st2 <| normD) retD)))⟩
def c54 : CF := ⟨[(gt2, none)], (seqD (seqO (oMv (k (nI .u32 0))) st2 <| normD) (seqD (seqO (oAlloc 168 [(nI .u32 0), (nI .i64 0)]) st3 <| normD) (seqD (seqO (oFunc 91 [gt3] []) st5 <| seqO (oMv gt5) st4 <| normD) (seqD (seqO (oMv gt4) st6 <| seqO (oMv gt0) st7 <| seqO (oCall gt6 Tryz.prog [gt7]) st8 <| normD) (seqD (seqO (oCallF 92 [gt3]) st9 <| seqO (oMv gt9) st2 <| normD) retD)))))⟩
def c91_l0 : D := (seqD (seqO (oCmp gt24 gt23 iltF strLt) st25 <| normD) (seqD (condD gt25 normD (exitD 2)) (seqD (blockD 3 (seqD (seqO (oIdxS gt22 gt24 1) st26 <| seqO (oLoad1 gt26) st27 <| seqO (oMv gt27) st8 <| normD) (seqO (oMv gt4) st28 <| seqO (oMv gt8) st29 <| seqO (oInt gt29 .u32) st30 <| seqO (oBits gt28 gt30 xorF) st31 <| seqO (oCallF 145 [gt31]) st32 <| seqO (oMv gt32) st4 <| normD))) (seqO (oAddS gt24 (k (nI .i64 1))) st33 <| seqO (oMv gt33) st24 <| normD))))
def c91_l1 : D := (seqD (seqO (oCmp gt18 gt17 iltF strLt) st19 <| normD) (seqD (condD gt19 normD (exitD 0)) (seqD (blockD 1 (seqD (seqO (oIdxS gt16 gt18 1) st20 <| seqO (oLoad1 gt20) st21 <| seqO (oMv gt21) st6 <| normD) (seqD (seqD (seqO (oMv gt6) st22 <| seqO (oLenL gt22) st23 <| seqO (oMv (k (nI .i64 0))) st24 <| normD) (blockD 2 (loopD c91_l0))) (seqO (oMv gt0) st34 <| seqO (oNil gt34) st35 <| seqO (oOff gt35 1) st36 <| seqO (oLoad1 gt36) st37 <| seqO (oMv gt6) st38 <| seqO (oLenL gt38) st39 <| seqO (oAddS gt37 gt39) st40 <| seqO (oNil gt34) st41 <| seqO (oOff gt41 1) st42 <| seqO (oStore gt42 gt40 1) d0 <| normD)))) (seqO (oAddS gt18 (k (nI .i64 1))) st43 <| seqO (oMv gt43) st18 <| normD))))
def c91 : CF := ⟨[], (seqD (seqD (seqO (oMv gt0) st9 <| seqO (oEq gt9 (k .nilp) eqP false) st10 <| normD) (condD gt10 retD normD)) (seqD (seqO (oMv gt0) st11 <| seqO (oNil gt11) st12 <| seqO (oOff gt12 0) st13 <| seqO (oLoad1 gt13) st14 <| seqO (oXorU gt14) st15 <| seqO (oMv gt15) st4 <| normD) (seqD (seqD (seqO (oMv gt1) st16 <| seqO (oLenL gt16) st17 <| seqO (oMv (k (nI .i64 0))) st18 <| normD) (blockD 0 (loopD c91_l1))) (seqO (oMv gt0) st44 <| seqO (oMv gt4) st45 <| seqO (oXorU gt45) st46 <| seqO (oNil gt44) st47 <| seqO (oOff gt47 0) st48 <| seqO (oStore gt48 gt46 1) d0 <| normD))))⟩
def c92 : CF := ⟨[(gt2, none)], (seqD (seqO (oMv (k (nI .u32 0))) st2 <| normD) (seqD (seqD (seqO (oMv gt0) st3 <| seqO (oEq gt3 (k .nilp) eqP false) st4 <| normD) (condD gt4 (seqD (seqO (oMv (k (nI .u32 0))) st2 <| normD) retD) normD)) (seqD (seqO (oMv gt0) st5 <| seqO (oNil gt5) st6 <| seqO (oOff gt6 0) st7 <| seqO (oLoad1 gt7) st8 <| seqO (oMv gt8) st2 <| normD) retD)))⟩
def c145 : CF := ⟨[(gt2, none)], (seqD (seqO (oMv (k (nI .u32 0))) st2 <| normD) (seqD (seqO (oMv gt0) st3 <| seqO (oCallF 187 [gt3]) st4 <| seqO (oCallF 187 [gt4]) st5 <| seqO (oMv gt5) st2 <| normD) retD))⟩
def c187 : CF := ⟨[(gt2, none)], (seqD (seqO (oMv (k (nI .u32 0))) st2 <| normD) (seqD (seqO (oMv gt0) st3 <| seqO (oShr gt3 (k (nI .u64 4))) st4 <| seqO (oMv gt0) st5 <| seqO (oBits gt5 (k (nI .u32 15)) landF) st6 <| seqO (oIdxA (k (.ptr 12 0)) gt6 16 1) st7 <| seqO (oLoad1 gt7) st8 <| seqO (oBits gt4 gt8 xorF) st9 <| seqO (oMv gt9) st2 <| normD) retD))⟩
def c32 : CF := ⟨[(gt4, none)], (seqD (seqO (oMv (k (.bool false))) st4 <| normD) (seqD (seqO (oMv gt0) st5 <| seqO (oStr gt5) st6 <| seqO (oMv gt1) st7 <| seqO (oStr gt7) st8 <| seqO (oEq gt6 gt8 eqS false) st9 <| seqO (oMv gt9) st4 <| normD) retD))⟩
def c27 : CF := ⟨[(gt4, none)], (seqD (seqO (oMv (k (.str []))) st4 <| normD) (seqD (seqO (oMv gt0) st5 <| seqO (oMv gt1) st6 <| seqO (oCallF 42 [gt5, gt6]) st7 <| seqO (oMv gt7) st4 <| normD) retD))⟩
def c42 : CF := ⟨[(gt4, none)], (seqD (seqO (oMv (k (.str []))) st4 <| normD) (seqD (seqD (seqO (oMv gt1) st10 <| seqO (oEq gt10 (k (nI .i64 10)) eqI false) st11 <| normD) (condD gt11 (seqD (seqD (seqO (oMv gt0) st12 <| seqO (oCmp (k (nI .i64 0)) gt12 ileF strLe) st13 <| seqO (oMv gt13) st14 <| seqG gt14 true (oMv gt0) st15 <| seqG gt14 true (oCmp gt15 (k (nI .i64 100)) iltF strLt) st16 <| seqO (oPick gt14 gt16 (k (.bool false))) st17 <| normD) (condD gt17 (seqD (seqO (oMv gt0) st18 <| seqO (oCallF 76 [gt18]) st19 <| seqO (oMv gt19) st4 <| normD) retD) normD)) (seqD (seqO (oAllocZ 149 24 (nI .u8 0)) st5 <| normD) (seqD (seqO (oMv gt0) st20 <| seqO (oInt gt20 .u64) st21 <| seqO (oMv gt21) st6 <| normD) (seqD (seqD (seqO (oMv gt0) st22 <| seqO (oCmp gt22 (k (nI .i64 0)) iltF strLt) st23 <| normD) (condD gt23 (seqO (oMv gt6) st24 <| seqO (oNeg gt24) st25 <| seqO (oMv gt25) st6 <| normD) normD)) (seqD (seqO (oMv gt6) st26 <| seqO (oCallF 77 [gt26]) st27 <| seqO (oMv gt27) st7 <| normD) (seqD (seqO (oMv gt7) st28 <| seqO (oAddS (k (nI .i64 1)) gt28) st29 <| seqO (oSlArr 24 1 gt5 (some (k (nI .i64 1))) (some gt29) none) st30 <| seqO (oMv gt6) st31 <| seqO (oCallF 78 [gt30, gt31]) st32 <| normD) (seqD (seqD (seqO (oMv gt0) st33 <| seqO (oCmp gt33 (k (nI .i64 0)) iltF strLt) st34 <| normD) (condD gt34 (seqD (seqO (oIdxA gt5 (k (nI .i64 0)) 24 1) st35 <| seqO (oStore gt35 (k (nI .u8 45)) 1) d0 <| normD) (seqD (seqO (oMv gt7) st36 <| seqO (oAddS (k (nI .i64 1)) gt36) st37 <| seqO (oSlArr 24 1 gt5 none (some gt37) none) st38 <| seqO (oStr gt38) st39 <| seqO (oMv gt39) st4 <| normD) retD)) normD)) (seqD (seqO (oMv gt7) st40 <| seqO (oAddS (k (nI .i64 1)) gt40) st41 <| seqO (oSlArr 24 1 gt5 (some (k (nI .i64 1))) (some gt41) none) st42 <| seqO (oStr gt42) st43 <| seqO (oMv gt43) st4 <| normD) retD)))))))) normD)) (seqD (seqO (oMv gt0) st45 <| seqO (oInt gt45 .u64) st46 <| seqO (oMv gt1) st47 <| seqO (oMv gt0) st48 <| seqO (oCmp gt48 (k (nI .i64 0)) iltF strLt) st49 <| seqO (oCallF 79 [(k .nils), gt46, gt47, gt49, (k (.bool false))]) st50 <| seqO (oMv gt50) st44 <| seqO (oExtr gt44 0) st51 <| seqO (oExtr gt44 1) st52 <| seqO (oMv gt51) st8 <| seqO (oMv gt52) st9 <| normD) (seqD (seqO (oMv gt9) st53 <| seqO (oMv gt53) st4 <| normD) retD))))⟩
def c79_l0 : D := (seqD (seqD (seqO (oMv gt1) st44 <| seqO (oMv gt15) st45 <| seqO (oCmp gt44 gt45 igeF strGe) st46 <| normD) (condD gt46 normD (exitD 0))) (blockD 1 (seqD (seqO (oMv gt13) st47 <| seqO (oSub gt47 (k (nI .i64 1))) st48 <| seqO (oMv gt48) st13 <| normD) (seqD (seqO (oMv gt13) st49 <| seqO (oMv gt1) st50 <| seqO (oMv gt16) st51 <| seqO (oBits gt50 gt51 landF) st52 <| seqO (oIdxStr (k (.str lit10)) gt52) st53 <| seqO (oIdxA gt12 gt49 65 1) st54 <| seqO (oStore gt54 gt53 1) d0 <| normD) (seqO (oMv gt1) st55 <| seqO (oMv gt14) st56 <| seqO (oShr gt55 gt56) st57 <| seqO (oMv gt57) st1 <| normD)))))
def c79_l1 : D := (seqD (seqD (seqO (oMv gt1) st66 <| seqO (oMv gt17) st67 <| seqO (oCmp gt66 gt67 igeF strGe) st68 <| normD) (condD gt68 normD (exitD 2))) (blockD 3 (seqD (seqO (oMv gt13) st69 <| seqO (oSub gt69 (k (nI .i64 1))) st70 <| seqO (oMv gt70) st13 <| normD) (seqD (seqO (oMv gt1) st71 <| seqO (oMv gt17) st72 <| seqO (oQuo gt71 gt72) st73 <| seqO (oMv gt73) st18 <| normD) (seqD (seqO (oMv gt13) st74 <| seqO (oMv gt1) st75 <| seqO (oMv gt18) st76 <| seqO (oMv gt17) st77 <| seqO (oMul gt76 gt77) st78 <| seqO (oSub gt75 gt78) st79 <| seqO (oIdxStr (k (.str lit10)) gt79) st80 <| seqO (oIdxA gt12 gt74 65 1) st81 <| seqO (oStore gt81 gt80 1) d0 <| normD) (seqO (oMv gt18) st82 <| seqO (oMv gt82) st1 <| normD))))))
def c79 : CF := ⟨[(gt10, none), (gt11, none)], (seqD (seqO (oMv (k .nils)) st10 <| seqO (oMv (k (.str []))) st11 <| normD) (seqD (seqD (seqO (oMv gt2) st19 <| seqO (oCmp gt19 (k (nI .i64 2)) iltF strLt) st20 <| seqO (oMv gt20) st21 <| seqG gt21 false (oMv gt2) st22 <| seqG gt21 false (oEq gt22 (k (nI .i64 10)) eqI false) st23 <| seqO (oPick gt21 (k (.bool true)) gt23) st24 <| seqO (oMv gt24) st25 <| seqG gt25 false (oMv gt2) st26 <| seqG gt25 false (oCmp gt26 (k (nI .i64 36)) igtF strGt) st27 <| seqO (oPick gt25 (k (.bool true)) gt27) st28 <| normD) (condD gt28 (seqO (oIface (k (.str lit12)) 9) st29 <| seqO (oPanic gt29) d0 <| normD) normD)) (seqD (seqO (oAllocZ 216 65 (nI .u8 0)) st12 <| normD) (seqD (seqO (oMv (k (nI .i64 65))) st13 <| normD) (seqD (seqD (seqO (oMv gt3) st30 <| normD) (condD gt30 (seqO (oMv gt1) st31 <| seqO (oNeg gt31) st32 <| seqO (oMv gt32) st1 <| normD) normD)) (seqD (seqD (seqO (oMv gt2) st33 <| seqO (oCallF 132 [gt33]) st34 <| normD) (condD gt34 (seqD (seqO (oMv gt2) st35 <| seqO (oInt gt35 .u64) st36 <| seqO (oCallF 133 [gt36]) st37 <| seqO (oInt gt37 .u64) st38 <| seqO (oMv gt38) st14 <| normD) (seqD (seqO (oMv gt2) st39 <| seqO (oInt gt39 .u64) st40 <| seqO (oMv gt40) st15 <| normD) (seqD (seqO (oMv gt2) st41 <| seqO (oInt gt41 .u64) st42 <| seqO (oSub gt42 (k (nI .u64 1))) st43 <| seqO (oMv gt43) st16 <| normD) (seqD (blockD 0 (loopD c79_l0)) (seqD (seqO (oMv gt13) st58 <| seqO (oSub gt58 (k (nI .i64 1))) st59 <| seqO (oMv gt59) st13 <| normD) (seqO (oMv gt13) st60 <| seqO (oMv gt1) st61 <| seqO (oIdxStr (k (.str lit10)) gt61) st62 <| seqO (oIdxA gt12 gt60 65 1) st63 <| seqO (oStore gt63 gt62 1) d0 <| normD)))))) (seqD (seqO (oMv gt2) st64 <| seqO (oInt gt64 .u64) st65 <| seqO (oMv gt65) st17 <| normD) (seqD (blockD 2 (loopD c79_l1)) (seqD (seqO (oMv gt13) st83 <| seqO (oSub gt83 (k (nI .i64 1))) st84 <| seqO (oMv gt84) st13 <| normD) (seqO (oMv gt13) st85 <| seqO (oMv gt1) st86 <| seqO (oIdxStr (k (.str lit10)) gt86) st87 <| seqO (oIdxA gt12 gt85 65 1) st88 <| seqO (oStore gt88 gt87 1) d0 <| normD)))))) (seqD (seqD (seqO (oMv gt3) st89 <| normD) (condD gt89 (seqD (seqO (oMv gt13) st90 <| seqO (oSub gt90 (k (nI .i64 1))) st91 <| seqO (oMv gt91) st13 <| normD) (seqO (oMv gt13) st92 <| seqO (oIdxA gt12 gt92 65 1) st93 <| seqO (oStore gt93 (k (nI .u8 45)) 1) d0 <| normD)) normD)) (seqD (seqD (seqO (oMv gt4) st94 <| normD) (condD gt94 (seqD (seqO (oMv gt0) st95 <| seqO (oMv gt13) st96 <| seqO (oSlArr 65 1 gt12 (some gt96) none none) st97 <| seqO (oAppend gt95 gt97 5 1 1) st98 <| seqO (oMv gt98) st10 <| normD) retD) normD)) (seqD (seqO (oMv gt13) st99 <| seqO (oSlArr 65 1 gt12 (some gt99) none none) st100 <| seqO (oStr gt100) st101 <| seqO (oMv gt101) st11 <| normD) retD)))))))))⟩
def c31 : CF := ⟨[(gt6, none), (gt7, none)], (seqD (seqO (oMv (k (nI .i64 0))) st6 <| seqO (oMv (k .nili)) st7 <| normD) (seqD (seqO (oMv gt0) st10 <| seqO (oMv gt1) st11 <| seqO (oMv gt2) st12 <| seqO (oCallF 58 [gt10, gt11, gt12]) st13 <| seqO (oMv gt13) st9 <| seqO (oExtr gt9 0) st14 <| seqO (oExtr gt9 1) st15 <| seqO (oMv gt14) st8 <| seqO (oMv gt15) st7 <| normD) (seqD (seqD (seqO (oMv gt7) st16 <| seqO (oEq gt16 (k .nili) (eqF true (eqC Tryz.prog (eqT Tryz.prog 9))) true) st17 <| normD) (condD gt17 (seqD (seqO (oMv gt8) st18 <| seqO (oMv gt0) st19 <| seqO (oMv gt1) st20 <| seqO (oMv gt2) st21 <| seqO (oMv gt7) st22 <| seqO (oCallF 59 [(k (.str [80, 97, 114, 115, 101, 73, 110, 116])), gt19, gt20, gt21, gt22]) st23 <| seqO (oMv gt18) st6 <| seqO (oMv gt23) st7 <| normD) retD) normD)) (seqD (seqO (oMv gt8) st24 <| seqO (oMv gt24) st6 <| seqO (oMv (k .nili)) st7 <| normD) retD))))⟩
def c58 : CF := ⟨[(gt6, none), (gt7, none)], (seqD (seqO (oMv (k (nI .i64 0))) st6 <| seqO (oMv (k .nili)) st7 <| normD) (seqD (seqD (seqO (oMv gt0) st12 <| seqO (oEq gt12 (k (.str [])) eqS false) st13 <| normD) (condD gt13 (seqD (seqO (oIface (k (nI .i64 2)) 181) st14 <| seqO (oMv (k (nI .i64 0))) st6 <| seqO (oMv gt14) st7 <| normD) retD) normD)) (seqD (seqO (oMv (k (.bool false))) st8 <| normD) (seqD (seqD (seqO (oMv gt0) st15 <| seqO (oIdxStr gt15 (k (nI .i64 0))) st16 <| normD) (blockD 0 (seqD (seqO (oEq gt16 (k (nI .u8 43)) eqI false) st18 <| seqO (oMv gt18) st17 <| normD) (condD gt17 (seqO (oMv gt0) st19 <| seqO (oSlStr gt19 (some (k (nI .i64 1))) none none) st20 <| seqO (oMv gt20) st0 <| normD) (seqD (seqO (oEq gt16 (k (nI .u8 45)) eqI false) st22 <| seqO (oMv gt22) st21 <| normD) (condD gt21 (seqD (seqO (oMv gt0) st23 <| seqO (oSlStr gt23 (some (k (nI .i64 1))) none none) st24 <| seqO (oMv gt24) st0 <| normD) (seqO (oMv (k (.bool true))) st8 <| normD)) normD)))))) (seqD (seqO (oMv (k (nI .u64 0))) st9 <| normD) (seqD (seqO (oMv gt0) st26 <| seqO (oMv gt1) st27 <| seqO (oMv gt2) st28 <| seqO (oCallF 101 [gt26, gt27, gt28]) st29 <| seqO (oMv gt29) st25 <| seqO (oExtr gt25 0) st30 <| seqO (oExtr gt25 1) st31 <| seqO (oMv gt30) st9 <| seqO (oMv gt31) st7 <| normD) (seqD (seqD (seqO (oMv gt7) st32 <| seqO (oEq gt32 (k .nili) (eqF true (eqC Tryz.prog (eqT Tryz.prog 9))) true) st33 <| seqO (oMv gt33) st34 <| seqG gt34 true (oMv gt7) st35 <| seqG gt34 true (oIface (k (nI .i64 1)) 181) st36 <| seqG gt34 true (oEq gt35 gt36 (eqF false (eqC Tryz.prog (eqT Tryz.prog 9))) true) st37 <| seqO (oPick gt34 gt37 (k (.bool false))) st38 <| normD) (condD gt38 (seqD (seqO (oMv gt7) st39 <| seqO (oMv (k (nI .i64 0))) st6 <| seqO (oMv gt39) st7 <| normD) retD) normD)) (seqD (seqD (seqO (oMv gt2) st40 <| seqO (oEq gt40 (k (nI .i64 0)) eqI false) st41 <| normD) (condD gt41 (seqO (oMv (k (nI .i64 64))) st2 <| normD) normD)) (seqD (seqO (oMv gt2) st42 <| seqO (oSub gt42 (k (nI .i64 1))) st43 <| seqO (oInt gt43 .u64) st44 <| seqO (oShl (k (nI .u64 1)) gt44) st45 <| seqO (oMv gt45) st10 <| normD) (seqD (seqD (seqO (oMv gt8) st46 <| seqO (oNot gt46) st47 <| seqO (oMv gt47) st48 <| seqG gt48 true (oMv gt9) st49 <| seqG gt48 true (oMv gt10) st50 <| seqG gt48 true (oCmp gt49 gt50 igeF strGe) st51 <| seqO (oPick gt48 gt51 (k (.bool false))) st52 <| normD) (condD gt52 (seqD (seqO (oMv gt10) st53 <| seqO (oSub gt53 (k (nI .u64 1))) st54 <| seqO (oInt gt54 .i64) st55 <| seqO (oIface (k (nI .i64 1)) 181) st56 <| seqO (oMv gt55) st6 <| seqO (oMv gt56) st7 <| normD) retD) normD)) (seqD (seqD (seqO (oMv gt8) st57 <| seqO (oMv gt57) st58 <| seqG gt58 true (oMv gt9) st59 <| seqG gt58 true (oMv gt10) st60 <| seqG gt58 true (oCmp gt59 gt60 igtF strGt) st61 <| seqO (oPick gt58 gt61 (k (.bool false))) st62 <| normD) (condD gt62 (seqD (seqO (oMv gt10) st63 <| seqO (oInt gt63 .i64) st64 <| seqO (oNeg gt64) st65 <| seqO (oIface (k (nI .i64 1)) 181) st66 <| seqO (oMv gt65) st6 <| seqO (oMv gt66) st7 <| normD) retD) normD)) (seqD (seqO (oMv gt9) st67 <| seqO (oInt gt67 .i64) st68 <| seqO (oMv gt68) st11 <| normD) (seqD (seqD (seqO (oMv gt8) st69 <| normD) (condD gt69 (seqO (oMv gt11) st70 <| seqO (oNeg gt70) st71 <| seqO (oMv gt71) st11 <| normD) normD)) (seqD (seqO (oMv gt11) st72 <| seqO (oMv gt72) st6 <| seqO (oMv (k .nili)) st7 <| normD) retD))))))))))))))⟩
def c101_l0 : D := (seqD (seqO (oCmp gt101 gt100 iltF strLt) st102 <| normD) (seqD (condD gt102 normD (exitD 3)) (seqD (blockD 4 (seqD (seqO (oIdxS gt99 gt101 1) st103 <| seqO (oLoad1 gt103) st104 <| seqO (oMv gt104) st15 <| normD) (seqD (seqO (oMv (k (nI .u8 0))) st16 <| normD) (seqD (blockD 5 (seqD (seqO (oMv gt15) st107 <| seqO (oEq gt107 (k (nI .u8 95)) eqI false) st108 <| seqO (oMv gt108) st109 <| seqG gt109 true (oMv gt8) st110 <| seqO (oPick gt109 gt110 (k (.bool false))) st111 <| seqO (oMv gt111) st106 <| normD) (condD gt106 (seqD (seqO (oMv (k (.bool true))) st12 <| normD) (exitD 4)) (seqD (seqO (oMv gt15) st113 <| seqO (oCmp (k (nI .u8 48)) gt113 ileF strLe) st114 <| seqO (oMv gt114) st115 <| seqG gt115 true (oMv gt15) st116 <| seqG gt115 true (oCmp gt116 (k (nI .u8 57)) ileF strLe) st117 <| seqO (oPick gt115 gt117 (k (.bool false))) st118 <| seqO (oMv gt118) st112 <| normD) (condD gt112 (seqO (oMv gt15) st119 <| seqO (oSub gt119 (k (nI .u8 48))) st120 <| seqO (oMv gt120) st16 <| normD) (seqD (seqO (oMv gt15) st122 <| seqO (oCallF 152 [gt122]) st123 <| seqO (oCmp (k (nI .u8 97)) gt123 ileF strLe) st124 <| seqO (oMv gt124) st125 <| seqG gt125 true (oMv gt15) st126 <| seqG gt125 true (oCallF 152 [gt126]) st127 <| seqG gt125 true (oCmp gt127 (k (nI .u8 122)) ileF strLe) st128 <| seqO (oPick gt125 gt128 (k (.bool false))) st129 <| seqO (oMv gt129) st121 <| normD) (condD gt121 (seqO (oMv gt15) st130 <| seqO (oCallF 152 [gt130]) st131 <| seqO (oSub gt131 (k (nI .u8 97))) st132 <| seqO (oAddS gt132 (k (nI .u8 10))) st133 <| seqO (oMv gt133) st16 <| normD) (seqD (seqO (oIface (k (nI .i64 2)) 181) st105 <| seqO (oMv (k (nI .u64 0))) st6 <| seqO (oMv gt105) st7 <| normD) retD)))))))) (seqD (seqD (seqO (oMv gt16) st134 <| seqO (oMv gt1) st135 <| seqO (oInt gt135 .u8) st136 <| seqO (oCmp gt134 gt136 igeF strGe) st137 <| normD) (condD gt137 (seqD (seqO (oIface (k (nI .i64 2)) 181) st138 <| seqO (oMv (k (nI .u64 0))) st6 <| seqO (oMv gt138) st7 <| normD) retD) normD)) (seqD (seqD (seqO (oMv gt13) st139 <| seqO (oMv gt10) st140 <| seqO (oCmp gt139 gt140 igeF strGe) st141 <| normD) (condD gt141 (seqD (seqO (oMv gt11) st142 <| seqO (oIface (k (nI .i64 1)) 181) st143 <| seqO (oMv gt142) st6 <| seqO (oMv gt143) st7 <| normD) retD) normD)) (seqD (seqO (oMv gt13) st144 <| seqO (oMv gt1) st145 <| seqO (oInt gt145 .u64) st146 <| seqO (oMul gt144 gt146) st147 <| seqO (oMv gt147) st13 <| normD) (seqD (seqO (oMv gt13) st148 <| seqO (oMv gt16) st149 <| seqO (oInt gt149 .u64) st150 <| seqO (oAddS gt148 gt150) st151 <| seqO (oMv gt151) st17 <| normD) (seqD (seqD (seqO (oMv gt17) st152 <| seqO (oMv gt13) st153 <| seqO (oCmp gt152 gt153 iltF strLt) st154 <| seqO (oMv gt154) st155 <| seqG gt155 false (oMv gt17) st156 <| seqG gt155 false (oMv gt11) st157 <| seqG gt155 false (oCmp gt156 gt157 igtF strGt) st158 <| seqO (oPick gt155 (k (.bool true)) gt158) st159 <| normD) (condD gt159 (seqD (seqO (oMv gt11) st160 <| seqO (oIface (k (nI .i64 1)) 181) st161 <| seqO (oMv gt160) st6 <| seqO (oMv gt161) st7 <| normD) retD) normD)) (seqO (oMv gt17) st162 <| seqO (oMv gt162) st13 <| normD)))))))))) (seqO (oAddS gt101 (k (nI .i64 1))) st163 <| seqO (oMv gt163) st101 <| normD))))
def c101 : CF := ⟨[(gt6, none), (gt7, none)], (seqD (seqO (oMv (k (nI .u64 0))) st6 <| seqO (oMv (k .nili)) st7 <| normD) (seqD (seqD (seqO (oMv gt0) st18 <| seqO (oEq gt18 (k (.str [])) eqS false) st19 <| normD) (condD gt19 (seqD (seqO (oIface (k (nI .i64 2)) 181) st20 <| seqO (oMv (k (nI .u64 0))) st6 <| seqO (oMv gt20) st7 <| normD) retD) normD)) (seqD (seqO (oMv gt1) st21 <| seqO (oEq gt21 (k (nI .i64 0)) eqI false) st22 <| seqO (oMv gt22) st8 <| normD) (seqD (seqO (oMv gt0) st23 <| seqO (oMv gt23) st9 <| normD) (seqD (blockD 0 (seqD (seqO (oMv gt1) st26 <| seqO (oCmp (k (nI .i64 2)) gt26 ileF strLe) st27 <| seqO (oMv gt27) st28 <| seqG gt28 true (oMv gt1) st29 <| seqG gt28 true (oCmp gt29 (k (nI .i64 36)) ileF strLe) st30 <| seqO (oPick gt28 gt30 (k (.bool false))) st31 <| seqO (oMv gt31) st25 <| normD) (condD gt25 normD (seqD (seqO (oMv gt1) st33 <| seqO (oEq gt33 (k (nI .i64 0)) eqI false) st34 <| seqO (oMv gt34) st32 <| normD) (condD gt32 (seqD (seqO (oMv (k (nI .i64 10))) st1 <| normD) (seqD (seqO (oMv gt0) st35 <| seqO (oIdxStr gt35 (k (nI .i64 0))) st36 <| seqO (oEq gt36 (k (nI .u8 48)) eqI false) st37 <| normD) (condD gt37 (blockD 1 (seqD (seqO (oMv gt0) st41 <| seqO (oLenS gt41) st42 <| seqO (oCmp gt42 (k (nI .i64 3)) igeF strGe) st43 <| seqO (oMv gt43) st44 <| seqG gt44 true (oMv gt0) st45 <| seqG gt44 true (oIdxStr gt45 (k (nI .i64 1))) st46 <| seqG gt44 true (oCallF 152 [gt46]) st47 <| seqG gt44 true (oEq gt47 (k (nI .u8 98)) eqI false) st48 <| seqO (oPick gt44 gt48 (k (.bool false))) st49 <| seqO (oMv gt49) st40 <| normD) (condD gt40 (seqD (seqO (oMv (k (nI .i64 2))) st1 <| normD) (seqO (oMv gt0) st50 <| seqO (oSlStr gt50 (some (k (nI .i64 2))) none none) st51 <| seqO (oMv gt51) st0 <| normD)) (seqD (seqO (oMv gt0) st53 <| seqO (oLenS gt53) st54 <| seqO (oCmp gt54 (k (nI .i64 3)) igeF strGe) st55 <| seqO (oMv gt55) st56 <| seqG gt56 true (oMv gt0) st57 <| seqG gt56 true (oIdxStr gt57 (k (nI .i64 1))) st58 <| seqG gt56 true (oCallF 152 [gt58]) st59 <| seqG gt56 true (oEq gt59 (k (nI .u8 111)) eqI false) st60 <| seqO (oPick gt56 gt60 (k (.bool false))) st61 <| seqO (oMv gt61) st52 <| normD) (condD gt52 (seqD (seqO (oMv (k (nI .i64 8))) st1 <| normD) (seqO (oMv gt0) st62 <| seqO (oSlStr gt62 (some (k (nI .i64 2))) none none) st63 <| seqO (oMv gt63) st0 <| normD)) (seqD (seqO (oMv gt0) st65 <| seqO (oLenS gt65) st66 <| seqO (oCmp gt66 (k (nI .i64 3)) igeF strGe) st67 <| seqO (oMv gt67) st68 <| seqG gt68 true (oMv gt0) st69 <| seqG gt68 true (oIdxStr gt69 (k (nI .i64 1))) st70 <| seqG gt68 true (oCallF 152 [gt70]) st71 <| seqG gt68 true (oEq gt71 (k (nI .u8 120)) eqI false) st72 <| seqO (oPick gt68 gt72 (k (.bool false))) st73 <| seqO (oMv gt73) st64 <| normD) (condD gt64 (seqD (seqO (oMv (k (nI .i64 16))) st1 <| normD) (seqO (oMv gt0) st74 <| seqO (oSlStr gt74 (some (k (nI .i64 2))) none none) st75 <| seqO (oMv gt75) st0 <| normD)) (seqD (seqO (oMv (k (nI .i64 8))) st1 <| normD) (seqO (oMv gt0) st38 <| seqO (oSlStr gt38 (some (k (nI .i64 1))) none none) st39 <| seqO (oMv gt39) st0 <| normD))))))))) normD))) (seqD (seqO (oIface (k (nI .i64 3)) 181) st24 <| seqO (oMv (k (nI .u64 0))) st6 <| seqO (oMv gt24) st7 <| normD) retD)))))) (seqD (seqD (seqO (oMv gt2) st76 <| seqO (oEq gt76 (k (nI .i64 0)) eqI false) st77 <| normD) (condD gt77 (seqO (oMv (k (nI .i64 64))) st2 <| normD) (seqD (seqO (oMv gt2) st78 <| seqO (oCmp gt78 (k (nI .i64 0)) iltF strLt) st79 <| seqO (oMv gt79) st80 <| seqG gt80 false (oMv gt2) st81 <| seqG gt80 false (oCmp gt81 (k (nI .i64 64)) igtF strGt) st82 <| seqO (oPick gt80 (k (.bool true)) gt82) st83 <| normD) (condD gt83 (seqD (seqO (oIface (k (nI .i64 4)) 181) st84 <| seqO (oMv (k (nI .u64 0))) st6 <| seqO (oMv gt84) st7 <| normD) retD) normD)))) (seqD (seqO (oMv (k (nI .u64 0))) st10 <| normD) (seqD (seqD (seqO (oMv gt1) st85 <| normD) (blockD 2 (seqD (seqO (oEq gt85 (k (nI .i64 10)) eqI false) st91 <| seqO (oMv gt91) st90 <| normD) (condD gt90 (seqO (oMv (k (nI .u64 1844674407370955162))) st10 <| normD) (seqD (seqO (oEq gt85 (k (nI .i64 16)) eqI false) st93 <| seqO (oMv gt93) st92 <| normD) (condD gt92 (seqO (oMv (k (nI .u64 1152921504606846976))) st10 <| normD) (seqO (oMv gt1) st86 <| seqO (oInt gt86 .u64) st87 <| seqO (oQuo (k (nI .u64 18446744073709551615)) gt87) st88 <| seqO (oAddS gt88 (k (nI .u64 1))) st89 <| seqO (oMv gt89) st10 <| normD))))))) (seqD (seqO (oMv gt2) st94 <| seqO (oInt gt94 .u64) st95 <| seqO (oShl (k (nI .u64 1)) gt95) st96 <| seqO (oSub gt96 (k (nI .u64 1))) st97 <| seqO (oMv gt97) st11 <| normD) (seqD (seqO (oMv (k (.bool false))) st12 <| normD) (seqD (seqO (oMv (k (nI .u64 0))) st13 <| normD) (seqD (seqD (seqO (oMv gt0) st98 <| seqO (oBytes gt98 5) st99 <| seqO (oLenL gt99) st100 <| seqO (oMv (k (nI .i64 0))) st101 <| normD) (blockD 3 (loopD c101_l0))) (seqD (seqD (seqO (oMv gt12) st164 <| seqO (oMv gt164) st165 <| seqG gt165 true (oMv gt9) st166 <| seqG gt165 true (oCallF 153 [gt166]) st167 <| seqG gt165 true (oNot gt167) st168 <| seqO (oPick gt165 gt168 (k (.bool false))) st169 <| normD) (condD gt169 (seqD (seqO (oIface (k (nI .i64 2)) 181) st170 <| seqO (oMv (k (nI .u64 0))) st6 <| seqO (oMv gt170) st7 <| normD) retD) normD)) (seqD (seqO (oMv gt13) st171 <| seqO (oMv gt171) st6 <| seqO (oMv (k .nili)) st7 <| normD) retD))))))))))))))⟩
def c59 : CF := ⟨[(gt10, none)], (seqD (seqO (oMv (k .nili)) st10 <| normD) (seqD (seqD (seqO (oMv gt4) st11 <| normD) (blockD 0 (seqD (seqO (oIface (k (nI .i64 2)) 181) st13 <| seqO (oEq gt11 gt13 (eqF false (eqC Tryz.prog (eqT Tryz.prog 9))) false) st14 <| seqO (oMv gt14) st12 <| normD) (condD gt12 (seqD (seqO (oMv gt0) st15 <| seqO (oMv gt1) st16 <| seqO (oCallF 102 [gt15, gt16]) st17 <| seqO (oIface gt17 184) st18 <| seqO (oMv gt18) st10 <| normD) retD) (seqD (seqO (oIface (k (nI .i64 1)) 181) st20 <| seqO (oEq gt11 gt20 (eqF false (eqC Tryz.prog (eqT Tryz.prog 9))) false) st21 <| seqO (oMv gt21) st19 <| normD) (condD gt19 (seqD (seqO (oMv gt0) st22 <| seqO (oMv gt1) st23 <| seqO (oCallF 103 [gt22, gt23]) st24 <| seqO (oIface gt24 184) st25 <| seqO (oMv gt25) st10 <| normD) retD) (seqD (seqO (oIface (k (nI .i64 3)) 181) st27 <| seqO (oEq gt11 gt27 (eqF false (eqC Tryz.prog (eqT Tryz.prog 9))) false) st28 <| seqO (oMv gt28) st26 <| normD) (condD gt26 (seqD (seqO (oMv gt0) st29 <| seqO (oMv gt1) st30 <| seqO (oMv gt2) st31 <| seqO (oCallF 104 [gt29, gt30, gt31]) st32 <| seqO (oIface gt32 184) st33 <| seqO (oMv gt33) st10 <| normD) retD) (seqD (seqO (oIface (k (nI .i64 4)) 181) st35 <| seqO (oEq gt11 gt35 (eqF false (eqC Tryz.prog (eqT Tryz.prog 9))) false) st36 <| seqO (oMv gt36) st34 <| normD) (condD gt34 (seqD (seqO (oMv gt0) st37 <| seqO (oMv gt1) st38 <| seqO (oMv gt3) st39 <| seqO (oCallF 105 [gt37, gt38, gt39]) st40 <| seqO (oIface gt40 184) st41 <| seqO (oMv gt41) st10 <| normD) retD) normD)))))))))) (seqD (seqO (oMv gt4) st42 <| seqO (oMv gt42) st10 <| normD) retD)))⟩
def c102 : CF := ⟨[(gt4, none)], (seqD (seqO (oMv (k .nilp)) st4 <| normD) (seqD (drawnD [⟨oMv gt0, none, [(st0, gt0)], st5, .free, 0, 0⟩, ⟨oMv gt1, none, [(st1, gt1)], st6, .free, 1, 0⟩, ⟨oLoad1 (k (.ptr 4 0)), none, [], st8, .read, 3, 0⟩, ⟨oCallF 154 [gt6], none, [(st6, gt6)], st7, .eff, 2, 2⟩, ⟨oBuild [(.str []), (.str []), .nili] [⟨0, 1, gt5⟩, ⟨1, 1, gt7⟩, ⟨2, 1, gt8⟩], none, [(st5, gt5), (st7, gt7), (st8, gt8)], st9, .free, 4, 15⟩, ⟨oBox gt9 242, none, [(st9, gt9)], st10, .free, 5, 31⟩, ⟨oMv gt10, none, [(st10, gt10)], st4, .eff, 6, 63⟩]) retD))⟩
def c103 : CF := ⟨[(gt4, none)], (seqD (seqO (oMv (k .nilp)) st4 <| normD) (seqD (drawnD [⟨oMv gt0, none, [(st0, gt0)], st5, .free, 0, 0⟩, ⟨oMv gt1, none, [(st1, gt1)], st6, .free, 1, 0⟩, ⟨oLoad1 (k (.ptr 5 0)), none, [], st8, .read, 3, 0⟩, ⟨oCallF 154 [gt6], none, [(st6, gt6)], st7, .eff, 2, 2⟩, ⟨oBuild [(.str []), (.str []), .nili] [⟨0, 1, gt5⟩, ⟨1, 1, gt7⟩, ⟨2, 1, gt8⟩], none, [(st5, gt5), (st7, gt7), (st8, gt8)], st9, .free, 4, 15⟩, ⟨oBox gt9 242, none, [(st9, gt9)], st10, .free, 5, 31⟩, ⟨oMv gt10, none, [(st10, gt10)], st4, .eff, 6, 63⟩]) retD))⟩
def c152 : CF := ⟨[(gt2, none)], (seqD (seqO (oMv (k (nI .u8 0))) st2 <| normD) (seqD (seqO (oMv gt0) st3 <| seqO (oBits gt3 (k (nI .u8 32)) lorF) st4 <| seqO (oMv gt4) st2 <| normD) retD))⟩
def c154 : CF := ⟨[(gt2, none)], (seqD (seqO (oMv (k (.str []))) st2 <| normD) (seqD (seqD (seqO (oMv gt0) st4 <| seqO (oLenS gt4) st5 <| seqO (oEq gt5 (k (nI .i64 0)) eqI false) st6 <| normD) (condD gt6 (seqD (seqO (oMv (k (.str []))) st2 <| normD) retD) normD)) (seqD (seqO (oMv gt0) st7 <| seqO (oLenS gt7) st8 <| seqO (oMkSlice 5 1 1 [(nI .u8 0)] gt8 gt8) st9 <| seqO (oMv gt9) st3 <| normD) (seqD (seqO (oMv gt3) st10 <| seqO (oMv gt0) st11 <| seqO (oCopy gt10 gt11 1) st12 <| normD) (seqD (seqO (oMv gt3) st13 <| seqO (oIdxS gt13 (k (nI .i64 0)) 1) st14 <| seqO (oMv gt3) st15 <| seqO (oLenL gt15) st16 <| seqO (oUStr gt14 gt16 5) st17 <| seqO (oMv gt17) st2 <| normD) retD)))))⟩
end

def rank : Nat → Nat
  | 13 => 4
  | 27 => 3
  | 42 => 2
  | 54 => 3
  | 58 => 3
  | 79 => 1
  | 101 => 2
  | 145 => 2
  | 152 => 1
  | 154 => 1
  | 187 => 1
  | _ => 0
def spec : Lib := fun _ _ _ => none
abbrev LK (lib0 : Lib) (fs : T CF) (fuel k : Nat) : Lib := libK lib0 fs fuel rank spec k
structure Env (lib0 : Lib) (fs : T CF) (fuel : Nat) (B : Heap → Prop) : Prop where
  big : 50000 ≤ fuel
  keep : ∀ {H H' : Heap}, B H → Keep H H' [] → B H'
  f4 : fs.get 4 = some c4
  n4 : ∀ l H, lib0 4 l H = none
  f11 : fs.get 11 = some c11
  n11 : ∀ l H, lib0 11 l H = none
  f13 : fs.get 13 = some c13
  n13 : ∀ l H, lib0 13 l H = none
  f27 : fs.get 27 = some c27
  n27 : ∀ l H, lib0 27 l H = none
  f30 : fs.get 30 = some c30
  n30 : ∀ l H, lib0 30 l H = none
  f31 : fs.get 31 = some c31
  n31 : ∀ l H, lib0 31 l H = none
  f32 : fs.get 32 = some c32
  n32 : ∀ l H, lib0 32 l H = none
  f42 : fs.get 42 = some c42
  n42 : ∀ l H, lib0 42 l H = none
  f54 : fs.get 54 = some c54
  n54 : ∀ l H, lib0 54 l H = none
  f55 : fs.get 55 = some c55
  n55 : ∀ l H, lib0 55 l H = none
  f58 : fs.get 58 = some c58
  n58 : ∀ l H, lib0 58 l H = none
  f59 : fs.get 59 = some c59
  n59 : ∀ l H, lib0 59 l H = none
  f79 : fs.get 79 = some c79
  n79 : ∀ l H, lib0 79 l H = none
  f87 : fs.get 87 = some c87
  n87 : ∀ l H, lib0 87 l H = none
  f91 : fs.get 91 = some c91
  n91 : ∀ l H, lib0 91 l H = none
  f92 : fs.get 92 = some c92
  n92 : ∀ l H, lib0 92 l H = none
  f94 : fs.get 94 = some c94
  n94 : ∀ l H, lib0 94 l H = none
  f98 : fs.get 98 = some c98
  n98 : ∀ l H, lib0 98 l H = none
  f101 : fs.get 101 = some c101
  n101 : ∀ l H, lib0 101 l H = none
  f102 : fs.get 102 = some c102
  n102 : ∀ l H, lib0 102 l H = none
  f103 : fs.get 103 = some c103
  n103 : ∀ l H, lib0 103 l H = none
  f145 : fs.get 145 = some c145
  n145 : ∀ l H, lib0 145 l H = none
  f152 : fs.get 152 = some c152
  n152 : ∀ l H, lib0 152 l H = none
  f154 : fs.get 154 = some c154
  n154 : ∀ l H, lib0 154 l H = none
  f187 : fs.get 187 = some c187
  n187 : ∀ l H, lib0 187 l H = none
  pw : ∀ H, B H → lib0 132 [nI .i64 16] H = some (.ret (.bool true) H)
  tz : ∀ H, B H → lib0 133 [nI .u64 16] H = some (.ret (nI .i64 4) H)
  rp : ∀ H k, B H → k = 13 ∨ k = 14 ∨ k = 15 → lib0 28 [.str [48], nI .i64 k] H = some (.ret (.str (List.replicate k 48)) H)
  put : ∀ H b z, B H → RowIs H b (cellsX z) → lib0 29 (putA (.slice b 0 26 none)) H = some (.ret (.tup [.slice H.nx 0 48 none, nI .i64 0]) (H.new (rG 5 1 (cellsF z) 0 false true false)))
  at_ : ∀ H b z, B H → RowIs H b (cellsF z) → lib0 12 [.slice b 0 48 none, nI .i64 0, nI .i64 0] H = some (.ret (.tup [.nils, nI .i64 48, nI .i64 0]) H)
  tells : ∀ H, B H → lib0 14 [] H = some (.ret (.bool true) H)
  nx : ∀ H, B H → 100 ≤ H.nx
  er4 : ∀ H, B H → ∃ r et p, H.t.get 4 = some (.row r) ∧ 1 ≤ r.size ∧ r.get 0 = .iface et (.ptr p 0) ∧ p < H.nx
  er5 : ∀ H, B H → ∃ r et p, H.t.get 5 = some (.row r) ∧ 1 ≤ r.size ∧ r.get 0 = .iface et (.ptr p 0) ∧ p < H.nx

theorem flat_len {sz : Nat} : ∀ {ls : List (List AV)}, (∀ l ∈ ls, l.length = sz) → ls.flatten.length = ls.length * sz
  | [], _ => by simp
  | l :: ls, h => by
    rw [List.flatten_cons, List.length_append, flat_len (fun x hx => h x (List.mem_cons_of_mem _ hx)), h l (List.mem_cons_self ..), List.length_cons, Nat.add_mul]
    omega
theorem flat_at {sz : Nat} : ∀ {ls : List (List AV)} {i : Nat}, (∀ l ∈ ls, l.length = sz) → i < ls.length → (ls.flatten.drop (i * sz)).take sz = ls.getD i []
  | l :: ls, 0, h, _ => by
    rw [Nat.zero_mul, List.drop_zero, List.flatten_cons, List.take_append_of_le_length (by rw [h l (List.mem_cons_self ..)]; exact Nat.le_refl _), List.take_of_length_le (by rw [h l (List.mem_cons_self ..)]; exact Nat.le_refl _)]
    rfl
  | l :: ls, i + 1, h, hi => by
    have hl := h l (List.mem_cons_self ..)
    have e : (i + 1) * sz = l.length + i * sz := by rw [hl, Nat.add_mul]; omega
    rw [List.flatten_cons, e, ← List.drop_drop, List.drop_left]
    have := flat_at (i := i) (fun x hx => h x (List.mem_cons_of_mem _ hx)) (by simpa using hi)
    rw [this]; rfl
structure Recs (H : Heap) (b e sz : Nat) (ls : List (List AV)) (r : Row) : Prop where
  at_ : H.t.get b = some (.row r)
  elem : r.elem = e
  szr : r.sz = sz
  own : r.own = true
  fz : r.fz = 0
  sm : r.sm = false
  exact_ : r.exact = false
  cells : Cells r ls.flatten
  each : ∀ l ∈ ls, l.length = sz
  ro : H.ro ≤ b
  low : b < H.nx
theorem Recs.size {H : Heap} {b e sz : Nat} {ls : List (List AV)} {r : Row} (h : Recs H b e sz ls r) : r.size = ls.length * sz := by rw [h.cells.size, flat_len h.each]
theorem Recs.moved {H H' : Heap} {b e sz : Nat} {ls : List (List AV)} {r : Row} (h : Recs H b e sz ls r) (g : H'.t.get b = H.t.get b) (hro : H'.ro = H.ro) (hnx : H.nx ≤ H'.nx) : Recs H' b e sz ls r :=
  ⟨g.trans h.at_, h.elem, h.szr, h.own, h.fz, h.sm, h.exact_, h.cells, h.each, by rw [hro]; exact h.ro, Nat.lt_of_lt_of_le h.low hnx⟩
theorem Recs.load {H H' : Heap} {b e sz : Nat} {ls : List (List AV)} {r : Row} (h : Recs H b e sz ls r) (ht : H'.t = H.t) {i : Nat} (hi : i < ls.length) : loadV sz (.ptr b (i * sz)) H' = .val (.agg (ls.getD i [])) H' := by
  have hf := flat_len h.each
  have hm : (i + 1) * sz ≤ ls.length * sz := Nat.mul_le_mul_right _ hi
  rw [Nat.add_mul, Nat.one_mul] at hm
  rw [loadV_row (r := r) (by rw [ht]; exact h.at_) h.cells (by omega), flat_at h.each hi]
theorem idxSV_rec {n i sz : Nat} (h : i < n) (b o : Nat) (c : Option Nat) (k : IntKind) (H : Heap) : idxSV sz (.slice b o n c) (nI k i) H = .val (.ptr b (o + i * sz)) H := by
  show onIf (Nat.ble (Nat.succ i) n) (OR.val (.ptr b (Nat.add o (Nat.mul i sz))) H) = _
  rw [Nat.ble_eq_true_of_le (show Nat.succ i ≤ n from h)]; rfl
def RBuf (H : Heap) (v : AV) (e sz : Nat) (ls : List (List AV)) (lo : Nat) : Prop := (ls = [] ∧ v = .nils) ∨ (ls ≠ [] ∧ ∃ b r, v = .slice b 0 ls.length none ∧ Recs H b e sz ls r ∧ lo ≤ b)
theorem RBuf.below {H H' : Heap} {v : AV} {e sz : Nat} {ls : List (List AV)} {lo : Nat} (h : RBuf H v e sz ls lo) (hp : ∀ c, lo ≤ c → c < H.nx → H'.t.get c = H.t.get c) (hro : H'.ro = H.ro) (hnx : H.nx ≤ H'.nx) : RBuf H' v e sz ls lo := by
  rcases h with h | ⟨hne, b, r, rfl, g, hb⟩
  · exact .inl h
  · exact .inr ⟨hne, b, r, rfl, g.moved (hp b hb g.low) hro hnx, hb⟩
theorem RBuf.len {H : Heap} {v : AV} {e sz : Nat} {ls : List (List AV)} {lo : Nat} (h : RBuf H v e sz ls lo) (G : Heap) : lenV v G = .val (nI .i64 ls.length) G := by
  rcases h with ⟨rfl, rfl⟩ | ⟨_, b, r, rfl, _⟩
  · exact lenV_nil G
  · exact lenV_slice ..
theorem RBuf.low {H : Heap} {v : AV} {e sz : Nat} {ls : List (List AV)} {lo : Nat} (h : RBuf H v e sz ls lo) {n : Nat} (hn : H.nx ≤ n) : lowV n v = true := by
  rcases h with ⟨_, rfl⟩ | ⟨_, b, r, rfl, g, _⟩
  · rfl
  · exact lowV_slice (Nat.lt_of_lt_of_le g.low hn) _ _ _
theorem RBuf.same {H : Heap} {v : AV} {e sz : Nat} {ls : List (List AV)} {lo : Nat} (h : RBuf H v e sz ls lo) (n : Nat) (t : T Obj) : isSame (.val v ⟨n, t, n⟩) v n = true := by
  rcases h with ⟨_, rfl⟩ | ⟨_, b, r, rfl, _⟩
  · exact isSame_nils n t
  · exact isSame_slice _ _ _ _ _ _

/-! maps whose keys are texts -/
def Seen (es : List Ent) (ks : List (List UInt8)) : Prop := es.map (fun e => (e.key, e.val)) = ks.map fun k => (AV.str k, nI .i64 1)
theorem Seen.nil : Seen [] [] := rfl
theorem Seen.push {es : List Ent} {ks : List (List UInt8)} (h : Seen es ks) (k : List UInt8) (c : Nat) : Seen (es ++ [⟨.str k, nI .i64 1, c⟩]) (ks ++ [k]) := by
  unfold Seen at *
  rw [List.map_append, List.map_append, h]; rfl
/-! slices of records -/
structure Sl (H : Heap) (sz : Nat) (v : AV) (ls : List (List AV)) : Prop where
  each : ∀ l ∈ ls, l.length = sz
  here : (ls = [] ∧ v = .nils) ∨ ∃ b o c, v = .slice b o ls.length c ∧ b < H.nx ∧ (ls ≠ [] → ∃ r, H.t.get b = some (.row r) ∧ o + ls.length * sz ≤ r.size ∧ ∀ i, i < ls.length * sz → r.get (o + i) = ls.flatten.getD i .unk)
theorem Sl.nil (H : Heap) (sz : Nat) : Sl H sz .nils [] := ⟨fun _ h => (by cases h), .inl ⟨rfl, rfl⟩⟩
theorem Sl.keep {H H' : Heap} {sz : Nat} {v : AV} {ls : List (List AV)} {S : List Nat} (h : Sl H sz v ls) (k : Keep H H' S) (hS : ∀ b o n c, v = .slice b o n c → b ∉ S) : Sl H' sz v ls := by
  refine ⟨h.each, ?_⟩
  rcases h.here with h1 | ⟨b, o, c, rfl, hb, h2⟩
  · exact .inl h1
  · refine .inr ⟨b, o, c, rfl, Nat.lt_of_lt_of_le hb k.nx, fun hne => ?_⟩
    obtain ⟨r, h3, h4⟩ := h2 hne
    exact ⟨r, by rw [k.get b hb (hS _ _ _ _ rfl)]; exact h3, h4⟩
theorem Sl.len {H : Heap} {sz : Nat} {v : AV} {ls : List (List AV)} (h : Sl H sz v ls) (G : Heap) : lenV v G = .val (nI .i64 ls.length) G := by
  rcases h.here with ⟨rfl, rfl⟩ | ⟨b, o, c, rfl, _⟩
  · rfl
  · exact lenV_slice ..
theorem Sl.low {H : Heap} {sz : Nat} {v : AV} {ls : List (List AV)} (h : Sl H sz v ls) {n : Nat} (hn : H.nx ≤ n) : lowV n v = true := by
  rcases h.here with ⟨rfl, rfl⟩ | ⟨b, o, c, rfl, hb, _⟩
  · rfl
  · exact lowV_slice (by omega) ..
theorem Sl.same {H : Heap} {sz : Nat} {v : AV} {ls : List (List AV)} (h : Sl H sz v ls) (n : Nat) (t : T Obj) : isSame (.val v ⟨n, t, n⟩) v n = true := by
  rcases h.here with ⟨rfl, rfl⟩ | ⟨b, o, c, rfl, _⟩
  · exact isSame_nils ..
  · exact isSame_slice ..
theorem Sl.cells {H : Heap} {sz : Nat} {v : AV} {ls : List (List AV)} (h : Sl H sz v ls) : v.cells = [v] := by
  rcases h.here with ⟨rfl, rfl⟩ | ⟨b, o, c, rfl, _⟩ <;> rfl
/-- an element -/
theorem Sl.at_ {H : Heap} {sz : Nat} {v : AV} {ls : List (List AV)} (h : Sl H sz v ls) {i : Nat} (hi : i < ls.length) :
    ∃ b o r, (∀ (k : IntKind) (G : Heap), idxSV sz v (nI k i) G = .val (.ptr b o) G) ∧ b < H.nx ∧ H.t.get b = some (.row r) ∧ (∀ G : Heap, ldN sz (some (.row r)) o G = .val (.agg (ls.getD i [])) G) ∧ ∀ (j : Nat) (G : Heap), j < sz → ld1 (some (.row r)) (o + j) G = .val ((ls.getD i []).getD j .unk) G := by
  have hne : ls ≠ [] := by intro e; subst e; cases hi
  rcases h.here with ⟨rfl, _⟩ | ⟨b, o, c, rfl, hb, h2⟩
  · exact absurd rfl hne
  · obtain ⟨r, h3, h4, h5⟩ := h2 hne
    have hm : (i + 1) * sz ≤ ls.length * sz := Nat.mul_le_mul_right _ hi
    rw [Nat.add_mul, Nat.one_mul] at hm
    have hf := flat_len h.each
    have hg := flat_at h.each hi
    refine ⟨b, o + i * sz, r, fun k G => idxSV_rec hi b o c k G, hb, h3, fun G => ?_, fun j G hj => ?_⟩
    · show onIf (Nat.ble (Nat.add (o + i * sz) sz) r.size) (OR.val (.agg (loadN r (o + i * sz) sz)) G) = _
      rw [Nat.ble_eq_true_of_le (show Nat.add (o + i * sz) sz ≤ r.size by show o + i * sz + sz ≤ _; omega)]
      show OR.val (.agg (loadN r (o + i * sz) sz)) G = _
      congr 2
      rw [← hg]
      apply List.ext_getElem?
      intro j
      by_cases hj : j < sz
      · rw [loadN_get _ _ _ _ hj, List.getElem?_take_of_lt hj, List.getElem?_drop]
        have := h5 (i * sz + j) (by omega)
        rw [← Nat.add_assoc, List.getD_eq_getElem?_getD, List.getElem?_eq_getElem (by omega)] at this
        rw [List.getElem?_eq_getElem (by omega), this]; rfl
      · rw [List.getElem?_eq_none (by rw [loadN_length]; omega), List.getElem?_eq_none (by rw [List.length_take]; omega)]
    · rw [ld1_row (by omega)]
      congr 1
      rw [← hg, Nat.add_assoc, h5 _ (by omega), List.getD_eq_getElem?_getD, List.getD_eq_getElem?_getD, List.getElem?_take_of_lt hj, List.getElem?_drop]
theorem ofN {n : Nat} (h : n < 256) : (UInt8.ofNat n).toNat = n := by rw [UInt8.toNat_ofNat']; exact Nat.mod_eq_of_lt h
/-- a digit of sixteen -/
def hx (d : Nat) : UInt8 := if d < 10 then UInt8.ofNat (48 + d) else UInt8.ofNat (87 + d)
def hex (n : Nat) : List UInt8 := if n < 16 then [hx n] else if n < 256 then [hx (n / 16), hx (n % 16)] else [hx (n / 256), hx (n / 16 % 16), hx (n % 16)]
theorem dig_at {d : Nat} (h : d < 16) : lit10.getD d 0 = hx d := by
  have : ∀ d, d < 16 → lit10.getD d 0 = hx d := by decide
  exact this d h
theorem dig_len : lit10.length = 36 := rfl
theorem digV {d : Nat} (h : d < 16) (k : IntKind) (G : Heap) : idxStrV (.str lit10) (nI k d) G = .val (u8V (hx d)) G := by
  rw [idxStrV_at (by rw [dig_len]; omega), dig_at h]
theorem land15 {a : Nat} (ha : a < 4096) (H : Heap) : bitsV landF (nI .u64 a) (nI .u64 15) H = .val (nI .u64 (a % 16)) H := by
  show onIf (kEq .u64 .u64) (valI .u64 (.ofNat (Nat.land (a % 18446744073709551616) (15 % 18446744073709551616))) H) = _
  rw [kEq_self, valI_run, wrap_u64, Nat.mod_eq_of_lt (show a < 18446744073709551616 by omega)]
  show OR.val _ H = _
  rw [show Nat.land a (15 % 18446744073709551616) = a &&& (2 ^ 4 - 1) from rfl, Nat.and_two_pow_sub_one_eq_mod, Nat.mod_eq_of_lt (show a % 2 ^ 4 < 18446744073709551616 by omega)]; rfl
def r65 : Row := ⟨216, 1, 65, .leaf, nI .u8 0, 0, false, true, true⟩
theorem stR {R : Row} (h1 : R.size = 65) (h2 : R.own = true) (h3 : R.fz = 0) {H : Heap} (hro : H.ro ≤ H.nx) {o : Nat} {v : AV} (hv : v.cells = [v]) (ho : o < 65) : stN 1 (some (.row R)) H.nx o v (H.new (.row R)) = .val undefA (H.new (.row (R.st o v))) := by
  rw [stN_row (H := H.new (.row R)) (b := H.nx) hv (by omega) h2 hro (by omega), new_put rfl]
theorem sl65 {l : Nat} (h : l < 65) (b : Nat) (G : Heap) : slArrV 65 1 (.ptr b 0) (some (nI .i64 l)) none G = .val (.slice b l (65 - l) (some (65 - l))) G := by rw [slArrV_lo h, Nat.zero_add]
theorem hex_len (n : Nat) (h : n < 4096) : (hex n).length = 1 ∨ (hex n).length = 2 ∨ (hex n).length = 3 := by
  unfold hex
  split
  · exact .inl rfl
  · split
    · exact .inr (.inl rfl)
    · exact .inr (.inr rfl)
theorem fmtBits_run {lib0 : Lib} {fs : T CF} {fuel : Nat} {B : Heap → Prop} (E : Env lib0 fs fuel B) {n : Nat} {x : Nat} {H : Heap} (h : x < 4096) (hB : B H) (hro : H.ro ≤ H.nx) :
    ∃ H', callN (LK lib0 fs fuel 0) fs fuel (n + 2) 79 [.nils, nI .u64 x, nI .i64 16, .bool false, .bool false] H = .ret (.tup [.nils, .str (hex x)]) H' ∧ Keep H H' [] := by
  rw [callN_fn (libK_none E.n79 (.inl (by decide)) _ _) E.f79]
  obtain ⟨m, rfl⟩ : ∃ m, fuel = m + 4 := ⟨fuel - 4, by have := E.big; omega⟩
  have hB1 := E.keep hB (Keep.new H (.row r65) [])
  have ep : ∀ {j}, callN (LK lib0 fs (m + 4) 0) fs (m + 4) (j + 1) 132 [nI .i64 16] (H.new (.row r65)) = .ret (.bool true) (H.new (.row r65)) := fun {j} => base_hit rfl (E.pw _ hB1)
  have et : ∀ {j}, callN (LK lib0 fs (m + 4) 0) fs (m + 4) (j + 1) 133 [nI .u64 16] (H.new (.row r65)) = .ret (nI .i64 4) (H.new (.row r65)) := fun {j} => base_hit rfl (E.tz _ hB1)
  have al : (⟨216, 1, 65, .leaf, nI .u8 0, 0, false, true, true⟩ : Row) = r65 := rfl
  have i1 : ∀ G, intV .u64 (nI .i64 16) G = .val (nI .u64 16) G := fun _ => rfl
  have y1 : decide (16 < 2) = false := rfl
  have y2 : decide (36 < 16) = false := rfl
  have i2 : ∀ G, intV .u64 (nI .i64 4) G = .val (nI .u64 4) G := fun _ => rfl
  have sb : ∀ G, subV (nI .u64 16) (nI .u64 1) G = .val (nI .u64 15) G := fun _ => rfl
  have sh : ∀ (a : Nat) (G : Heap), shrV (nI .u64 a) (nI .u64 4) G = .val (nI .u64 (a / 16)) G := fun a G => shrV_nu64 (by decide) G
  have ld := fun (a : Nat) (ha : a < 4096) (G : Heap) => land15 ha G
  have ga := fun (o : Obj) => get_new_eq (H := H) rfl o
  unfold hex
  by_cases h1 : x < 16
  · rw [if_pos h1]
    have d1 : decide (16 ≤ x) = false := decide_eq_false (by omega)
    have w0 := stR (R := r65) rfl rfl rfl hro (v := u8V (hx (x))) rfl (o := 64) (by omega)
    have v0 := fun G => digV (d := x) (by omega) .u64 G
    have sw : strW (.slice H.nx 64 1 (some 1)) (H.new (.row (r65.st 64 (u8V (hx (x)))))) = .val (.str [hx (x)]) (H.new (.row (r65.st 64 (u8V (hx (x)))))) := by
      refine strV_row (r := (r65.st 64 (u8V (hx (x))))) (get_new_eq rfl _) rfl (by show 64 + 1 ≤ 65; omega) fun i hi => ?_
      have : i = 0 := by omega
      rcases this with rfl
      · simp only [Row.st_get, Nat.reduceAdd, Nat.reduceEqDiff, if_true, if_false]; rfl
    simp (maxSteps := 4000000) (disch := first | assumption | omega | (simp -implicitDefEqProofs only [SideG, SideL] <;> first | assumption | omega) | decide) only [y1, y2, al, i1, i2, sb, sh, ep, et, ga, sl65, sw, d1, w0, v0, idxStrV_at, cmpV_ge, cmpV_le, cmpV_lt, cmpV_gt, eqV_eq, eqV_ne, eqS_eq, eqS_ne, subV_i, addV_i, lenSV_str, slStr_drop, slStr_take, loopN_succ, idxAV_ptr, argsT_5, Nat.zero_add, Nat.add_zero, oStr_at, Nat.reduceSub, Nat.reduceAdd, Nat.reduceLeDiff, Nat.zero_le, Nat.lt_irrefl, Nat.reduceEqDiff, decide_true, decide_false, c79, c79_l0, RunG, N8G, CoreG, CoreL, freeK_at, readK_at, freeN_at, Nat.reducePow, Nat.reduceDiv, Nat.reduceMod, Nat.reduceEqDiff, reduceCtorEq, TB0, TB1, TB2, TB3]
    refine ⟨_, rfl, ?_⟩
    exact Keep.new _ _ _
  rw [if_neg h1]
  have d1 : decide (16 ≤ x) = true := decide_eq_true (by omega)
  have lx := fun G => land15 (a := x) (by omega) G
  by_cases h2 : x < 256
  · rw [if_pos h2]
    have d2 : decide (16 ≤ x / 16) = false := decide_eq_false (by omega)
    have w0 := stR (R := r65) rfl rfl rfl hro (v := u8V (hx (x % 16))) rfl (o := 64) (by omega)
    have v0 := fun G => digV (d := x % 16) (by omega) .u64 G
    have w1 := stR (R := (r65.st 64 (u8V (hx (x % 16))))) rfl rfl rfl hro (v := u8V (hx (x / 16))) rfl (o := 63) (by omega)
    have v1 := fun G => digV (d := x / 16) (by omega) .u64 G
    have sw : strW (.slice H.nx 63 2 (some 2)) (H.new (.row ((r65.st 64 (u8V (hx (x % 16)))).st 63 (u8V (hx (x / 16)))))) = .val (.str [hx (x / 16), hx (x % 16)]) (H.new (.row ((r65.st 64 (u8V (hx (x % 16)))).st 63 (u8V (hx (x / 16)))))) := by
      refine strV_row (r := ((r65.st 64 (u8V (hx (x % 16)))).st 63 (u8V (hx (x / 16))))) (get_new_eq rfl _) rfl (by show 63 + 2 ≤ 65; omega) fun i hi => ?_
      have : i = 0 ∨ i = 1 := by omega
      rcases this with rfl | rfl
      · simp only [Row.st_get, Nat.reduceAdd, Nat.reduceEqDiff, if_true, if_false]; rfl
      · simp only [Row.st_get, Nat.reduceAdd, Nat.reduceEqDiff, if_true, if_false]; rfl
    simp (maxSteps := 4000000) (disch := first | assumption | omega | (simp -implicitDefEqProofs only [SideG, SideL] <;> first | assumption | omega) | decide) only [y1, y2, al, i1, i2, sb, sh, ep, et, ga, sl65, sw, d1, d2, lx, w0, v0, w1, v1, idxStrV_at, cmpV_ge, cmpV_le, cmpV_lt, cmpV_gt, eqV_eq, eqV_ne, eqS_eq, eqS_ne, subV_i, addV_i, lenSV_str, slStr_drop, slStr_take, loopN_succ, idxAV_ptr, argsT_5, Nat.zero_add, Nat.add_zero, oStr_at, Nat.reduceSub, Nat.reduceAdd, Nat.reduceLeDiff, Nat.zero_le, Nat.lt_irrefl, Nat.reduceEqDiff, decide_true, decide_false, c79, c79_l0, RunG, N8G, CoreG, CoreL, freeK_at, readK_at, freeN_at, Nat.reducePow, Nat.reduceDiv, Nat.reduceMod, Nat.reduceEqDiff, reduceCtorEq, TB0, TB1, TB2, TB3]
    refine ⟨_, rfl, ?_⟩
    exact Keep.new _ _ _
  · rw [if_neg h2]
    have d2 : decide (16 ≤ x / 16) = true := decide_eq_true (by omega)
    have d3 : decide (16 ≤ x / 16 / 16) = false := decide_eq_false (by omega)
    have lx2 := fun G => land15 (a := x / 16) (by omega) G
    have dd : x / 16 / 16 = x / 256 := by omega
    rw [dd] at d3
    have w0 := stR (R := r65) rfl rfl rfl hro (v := u8V (hx (x % 16))) rfl (o := 64) (by omega)
    have v0 := fun G => digV (d := x % 16) (by omega) .u64 G
    have w1 := stR (R := (r65.st 64 (u8V (hx (x % 16))))) rfl rfl rfl hro (v := u8V (hx (x / 16 % 16))) rfl (o := 63) (by omega)
    have v1 := fun G => digV (d := x / 16 % 16) (by omega) .u64 G
    have w2 := stR (R := ((r65.st 64 (u8V (hx (x % 16)))).st 63 (u8V (hx (x / 16 % 16))))) rfl rfl rfl hro (v := u8V (hx (x / 256))) rfl (o := 62) (by omega)
    have v2 := fun G => digV (d := x / 256) (by omega) .u64 G
    have sw : strW (.slice H.nx 62 3 (some 3)) (H.new (.row (((r65.st 64 (u8V (hx (x % 16)))).st 63 (u8V (hx (x / 16 % 16)))).st 62 (u8V (hx (x / 256)))))) = .val (.str [hx (x / 256), hx (x / 16 % 16), hx (x % 16)]) (H.new (.row (((r65.st 64 (u8V (hx (x % 16)))).st 63 (u8V (hx (x / 16 % 16)))).st 62 (u8V (hx (x / 256)))))) := by
      refine strV_row (r := (((r65.st 64 (u8V (hx (x % 16)))).st 63 (u8V (hx (x / 16 % 16)))).st 62 (u8V (hx (x / 256))))) (get_new_eq rfl _) rfl (by show 62 + 3 ≤ 65; omega) fun i hi => ?_
      have : i = 0 ∨ i = 1 ∨ i = 2 := by omega
      rcases this with rfl | rfl | rfl
      · simp only [Row.st_get, Nat.reduceAdd, Nat.reduceEqDiff, if_true, if_false]; rfl
      · simp only [Row.st_get, Nat.reduceAdd, Nat.reduceEqDiff, if_true, if_false]; rfl
      · simp only [Row.st_get, Nat.reduceAdd, Nat.reduceEqDiff, if_true, if_false]; rfl
    simp (maxSteps := 4000000) (disch := first | assumption | omega | (simp -implicitDefEqProofs only [SideG, SideL] <;> first | assumption | omega) | decide) only [y1, y2, al, i1, i2, sb, sh, ep, et, ga, sl65, sw, d1, d2, d3, dd, lx, lx2, w0, v0, w1, v1, w2, v2, idxStrV_at, cmpV_ge, cmpV_le, cmpV_lt, cmpV_gt, eqV_eq, eqV_ne, eqS_eq, eqS_ne, subV_i, addV_i, lenSV_str, slStr_drop, slStr_take, loopN_succ, idxAV_ptr, argsT_5, Nat.zero_add, Nat.add_zero, oStr_at, Nat.reduceSub, Nat.reduceAdd, Nat.reduceLeDiff, Nat.zero_le, Nat.lt_irrefl, Nat.reduceEqDiff, decide_true, decide_false, c79, c79_l0, RunG, N8G, CoreG, CoreL, freeK_at, readK_at, freeN_at, Nat.reducePow, Nat.reduceDiv, Nat.reduceMod, Nat.reduceEqDiff, reduceCtorEq, TB0, TB1, TB2, TB3]
    refine ⟨_, rfl, ?_⟩
    exact Keep.new _ _ _
theorem fmtBits {lib0 : Lib} {fs : T CF} {fuel : Nat} {B : Heap → Prop} (E : Env lib0 fs fuel B) {k n : Nat} (hk : 1 ≤ k) {x : Nat} {H : Heap} (h : x < 4096) (hB : B H) (hro : H.ro ≤ H.nx) :
    callN (LK lib0 fs fuel k) fs fuel (n + 1) 79 [.nils, nI .u64 x, nI .i64 16, .bool false, .bool false] H = .ret (.tup [.nils, .str (hex x)]) H := by
  obtain ⟨H', e, g⟩ := fmtBits_run E (n := 898) (H := H) h hB hro
  exact keep_hit (r := 0) rfl rfl e g rfl hk
theorem fmtI0_run {lib0 : Lib} {fs : T CF} {fuel : Nat} {B : Heap → Prop} (E : Env lib0 fs fuel B) {n : Nat} {x : Nat} {H : Heap} (h : x < 4096) (hB : B H) (hro : H.ro ≤ H.nx) :
    ∃ H', callN (LK lib0 fs fuel 1) fs fuel (n + 2) 42 [nI .i64 x, nI .i64 16] H = .ret (.str (hex x)) H' ∧ Keep H H' [] := by
  rw [callN_fn (libK_none E.n42 (.inl (by decide)) _ _) E.f42]
  have e1 := fun {j} => fmtBits (lib0 := lib0) (fs := fs) (fuel := fuel) E (k := 1) (n := j) (by decide) (H := H) h hB hro
  have z1 : decide (16 = 10) = false := rfl
  have z2 : decide (x < 0) = false := decide_eq_false (by omega)
  have iv := fun G => intV_u64 (j := .i64) (a := x) (by omega) G
  simp (maxSteps := 4000000) (disch := first | assumption | omega | (simp -implicitDefEqProofs only [SideG, SideL] <;> first | assumption | omega) | decide) only [e1, z1, z2, iv, idxStrV_at, cmpV_ge, cmpV_le, cmpV_lt, cmpV_gt, eqV_eq, eqV_ne, eqS_eq, eqS_ne, subV_i, addV_i, lenSV_str, slStr_drop, slStr_take, loopN_succ, idxAV_ptr, argsT_5, Nat.zero_add, Nat.add_zero, oStr_at, Nat.reduceSub, Nat.reduceAdd, Nat.reduceLeDiff, Nat.zero_le, Nat.lt_irrefl, Nat.reduceEqDiff, decide_true, decide_false, c42, RunG, N8G, CoreG, CoreL, freeK_at, readK_at, freeN_at, Nat.reduceEqDiff, reduceCtorEq, TB0, TB1]
  refine ⟨_, rfl, ?_⟩
  exact Keep.refl _ _
theorem fmtI0 {lib0 : Lib} {fs : T CF} {fuel : Nat} {B : Heap → Prop} (E : Env lib0 fs fuel B) {k n : Nat} (hk : 2 ≤ k) {x : Nat} {H : Heap} (h : x < 4096) (hB : B H) (hro : H.ro ≤ H.nx) :
    callN (LK lib0 fs fuel k) fs fuel (n + 1) 42 [nI .i64 x, nI .i64 16] H = .ret (.str (hex x)) H := by
  obtain ⟨H', e, g⟩ := fmtI0_run E (n := 898) (H := H) h hB hro
  exact keep_hit (r := 1) rfl rfl e g (rfl) hk
theorem fmt16_run {lib0 : Lib} {fs : T CF} {fuel : Nat} {B : Heap → Prop} (E : Env lib0 fs fuel B) {n : Nat} {x : Nat} {H : Heap} (h : x < 4096) (hB : B H) (hro : H.ro ≤ H.nx) :
    ∃ H', callN (LK lib0 fs fuel 2) fs fuel (n + 2) 27 [nI .i64 x, nI .i64 16] H = .ret (.str (hex x)) H' ∧ Keep H H' [] := by
  rw [callN_fn (libK_none E.n27 (.inl (by decide)) _ _) E.f27]
  have e1 := fun {j} => fmtI0 (lib0 := lib0) (fs := fs) (fuel := fuel) E (k := 2) (n := j) (by decide) (H := H) h hB hro
  simp (maxSteps := 4000000) (disch := first | assumption | omega | (simp -implicitDefEqProofs only [SideG, SideL] <;> first | assumption | omega) | decide) only [e1, idxStrV_at, cmpV_ge, cmpV_le, cmpV_lt, cmpV_gt, eqV_eq, eqV_ne, eqS_eq, eqS_ne, subV_i, addV_i, lenSV_str, slStr_drop, slStr_take, loopN_succ, idxAV_ptr, argsT_5, Nat.zero_add, Nat.add_zero, oStr_at, Nat.reduceSub, Nat.reduceAdd, Nat.reduceLeDiff, Nat.zero_le, Nat.lt_irrefl, Nat.reduceEqDiff, decide_true, decide_false, c27, RunG, N8G, CoreG, CoreL, freeK_at, readK_at, freeN_at, Nat.reduceEqDiff, reduceCtorEq, TB0]
  refine ⟨_, rfl, ?_⟩
  exact Keep.refl _ _
theorem fmt16 {lib0 : Lib} {fs : T CF} {fuel : Nat} {B : Heap → Prop} (E : Env lib0 fs fuel B) {k n : Nat} (hk : 3 ≤ k) {x : Nat} {H : Heap} (h : x < 4096) (hB : B H) (hro : H.ro ≤ H.nx) :
    callN (LK lib0 fs fuel k) fs fuel (n + 1) 27 [nI .i64 x, nI .i64 16] H = .ret (.str (hex x)) H := by
  obtain ⟨H', e, g⟩ := fmt16_run E (n := 898) (H := H) h hB hro
  exact keep_hit (r := 2) rfl rfl e g (rfl) hk

structure EnvC (lib0 : Lib) (fs : T CF) (fuel : Nat) : Prop where
  big : 50000 ≤ fuel
  f54 : fs.get 54 = some c54
  n54 : ∀ l H, lib0 54 l H = none
  f91 : fs.get 91 = some c91
  n91 : ∀ l H, lib0 91 l H = none
  f92 : fs.get 92 = some c92
  n92 : ∀ l H, lib0 92 l H = none
  f145 : fs.get 145 = some c145
  n145 : ∀ l H, lib0 145 l H = none
  f187 : fs.get 187 = some c187
  n187 : ∀ l H, lib0 187 l H = none
theorem shr4 (x : Nat) (G : Heap) : shrV (nI .u32 x) (nI .u64 4) G = .val (nI .u32 (x / 16)) G := by
  show forceI (ishr (.ofNat x) (minN 4 (bitsK .u32))) (fun n => OR.val (.int .u32 n) G) = _
  rw [forceI_eq]; rfl
theorem land4 (x : Nat) (G : Heap) : bitsV landF (nI .u32 x) (nI .u32 15) G = .val (nI .u32 (x % 16)) G := by
  show onIf (kEq .u32 .u32) (valI .u32 (.ofNat (Nat.land (x % 4294967296) (15 % 4294967296))) G) = _
  rw [kEq_self, valI_run, wrap_u32]
  show OR.val _ G = _
  rw [show Nat.land (x % 4294967296) (15 % 4294967296) = (x % 4294967296) &&& (2 ^ 4 - 1) from rfl, Nat.and_two_pow_sub_one_eq_mod]
  have : x % 4294967296 % 2 ^ 4 % 4294967296 = x % 16 := by omega
  rw [this]; rfl
def xq (a b : Nat) : Nat := Nat.xor (a % 4294967296) (b % 4294967296) % 4294967296
theorem xorQ (a b : Nat) (G : Heap) : bitsV xorF (nI .u32 a) (nI .u32 b) G = .val (nI .u32 (xq a b)) G := by
  show onIf (kEq .u32 .u32) (valI .u32 (.ofNat (Nat.xor (a % 4294967296) (b % 4294967296))) G) = _
  rw [kEq_self, valI_run, wrap_u32]; rfl
def nq (a : Nat) : Nat := (Nat.sub (Nat.sub 4294967296 1) (a % 4294967296)) % 4294967296
theorem notQ (a : Nat) (G : Heap) : xorUV (nI .u32 a) G = .val (nI .u32 (nq a)) G := by
  show valI .u32 (.ofNat (Nat.sub (Nat.sub 4294967296 1) (a % 4294967296))) G = _
  rw [valI_run, wrap_u32]; rfl
theorem u32Q (a : Nat) (G : Heap) : intV .u32 (nI .u8 a) G = .val (nI .u32 (a % 4294967296)) G := by
  show valI .u32 (.ofNat a) G = _
  rw [valI_run, wrap_u32]; rfl
theorem half_run {lib0 : Lib} {fs : T CF} {fuel : Nat} (E : EnvC lib0 fs fuel) {n x : Nat} {H : Heap} (ht : TabIs H 12) : ∃ y, callN (LK lib0 fs fuel 0) fs fuel (n + 2) 187 [nI .u32 x] H = .ret (nI .u32 y) H := by
  rw [callN_fn (libK_none E.n187 (.inl (by decide)) _ _) E.f187]
  obtain ⟨_, r, g1, g2, g3⟩ := ht
  obtain ⟨y, hy⟩ := g3 (x % 16) (by omega)
  have hs : x % 16 < r.size := by omega
  have hm : x % 16 < 16 := by omega
  refine ⟨xq (x / 16) y, ?_⟩
  simp (maxSteps := 4000000) (disch := first | assumption | omega | (simp -implicitDefEqProofs only [SideG, SideL] <;> first | assumption | omega) | decide) only [shr4, land4, xorQ, g1, hy, ld1_row, load1V_at, eqP_nil, cmpV_ge, cmpV_le, cmpV_lt, cmpV_gt, eqV_eq, eqV_ne, subV_i, addV_i, lenV_slice, idxSV_slice, idxAV_ptr, Nat.zero_add, Nat.add_zero, Nat.reduceSub, Nat.reduceAdd, Nat.reduceLeDiff, Nat.zero_le, Nat.lt_irrefl, Nat.reduceEqDiff, decide_true, decide_false, c187, RunG, N8G, CoreG, CoreL, freeK_at, readK_at, freeN_at, Nat.reducePow, Nat.reduceDiv, Nat.reduceMod, Nat.reduceEqDiff, reduceCtorEq, TB0]
theorem half {lib0 : Lib} {fs : T CF} {fuel : Nat} (E : EnvC lib0 fs fuel) {x : Nat} {H : Heap} (ht : TabIs H 12) : ∃ y, ∀ k n, 1 ≤ k → callN (LK lib0 fs fuel k) fs fuel (n + 1) 187 [nI .u32 x] H = .ret (nI .u32 y) H := by
  obtain ⟨y, e⟩ := half_run E (n := 898) (x := x) ht
  exact ⟨y, fun k n hk => keep_hit (r := 0) rfl rfl e (Keep.refl _ _) rfl hk⟩
theorem whole_run {lib0 : Lib} {fs : T CF} {fuel : Nat} (E : EnvC lib0 fs fuel) {n x : Nat} {H : Heap} (ht : TabIs H 12) : ∃ y, callN (LK lib0 fs fuel 1) fs fuel (n + 2) 145 [nI .u32 x] H = .ret (nI .u32 y) H := by
  rw [callN_fn (libK_none E.n145 (.inl (by decide)) _ _) E.f145]
  obtain ⟨y, h1⟩ := half E (x := x) ht
  obtain ⟨z, h2⟩ := half E (x := y) ht
  have e1 := fun {j} => h1 1 j (by decide)
  have e2 := fun {j} => h2 1 j (by decide)
  refine ⟨z, ?_⟩
  simp (maxSteps := 4000000) (disch := first | assumption | omega | (simp -implicitDefEqProofs only [SideG, SideL] <;> first | assumption | omega) | decide) only [e1, e2, eqP_nil, cmpV_ge, cmpV_le, cmpV_lt, cmpV_gt, eqV_eq, eqV_ne, subV_i, addV_i, lenV_slice, idxSV_slice, idxAV_ptr, Nat.zero_add, Nat.add_zero, Nat.reduceSub, Nat.reduceAdd, Nat.reduceLeDiff, Nat.zero_le, Nat.lt_irrefl, Nat.reduceEqDiff, decide_true, decide_false, c145, RunG, N8G, CoreG, CoreL, freeK_at, readK_at, freeN_at, Nat.reduceEqDiff, reduceCtorEq, TB0]
theorem whole {lib0 : Lib} {fs : T CF} {fuel : Nat} (E : EnvC lib0 fs fuel) {x : Nat} {H : Heap} (ht : TabIs H 12) : ∃ y, ∀ k n, 2 ≤ k → callN (LK lib0 fs fuel k) fs fuel (n + 1) 145 [nI .u32 x] H = .ret (nI .u32 y) H := by
  obtain ⟨y, e⟩ := whole_run E (n := 898) (x := x) ht
  exact ⟨y, fun k n hk => keep_hit (r := 1) rfl rfl e (Keep.refl _ _) rfl hk⟩
structure CI (q pb o n : Nat) (cp : Option Nat) (v16 : AV) (H1 : Heap) (m : Nat) (tm : TM) (H : Heap) : Prop where
  heap : H = H1
  t0 : gt0 tm = .ptr q 0
  t6 : gt6 tm = .slice pb o n cp
  t16 : gt16 tm = v16
  t17 : gt17 tm = nI .i64 1
  t18 : gt18 tm = nI .i64 0
  t22 : gt22 tm = .slice pb o n cp
  t23 : gt23 tm = nI .i64 n
  i : ∃ i, i + m = n ∧ gt24 tm = nI .i64 i
  y : ∃ y, gt4 tm = nI .u32 y
def CQ (q pb o n : Nat) (cp : Option Nat) (v16 : AV) (H1 : Heap) (oc : Out) (tm : TM) (H : Heap) : Prop := oc = .exit 2 ∧ CI q pb o n cp v16 H1 0 tm H
theorem crc_step {lib0 : Lib} {fs : T CF} {fuel : Nat} (E : EnvC lib0 fs fuel) {d q pb o n : Nat} {cp : Option Nat} {v16 : AV} {H1 : Heap} (ht : TabIs H1 12) (hp : PartIs H1 pb o n) (cx : Ctx) (hcx : ∃ yy yr sg, cx = ⟨callN (LK lib0 fs fuel 2) fs fuel (d + 1), yy, yr, fuel, sg⟩) (x : X) (m : Nat) (tm : TM) (H : Heap) (h : CI q pb o n cp v16 H1 m tm H) :
    ∃ oc tm' H', c91_l0 cx tm H x = .ok oc tm' H' x ∧ ((oc = .normal ∧ ∃ k, k < m ∧ CI q pb o n cp v16 H1 k tm' H') ∨ (oc ≠ .normal ∧ CQ q pb o n cp v16 H1 oc tm' H')) := by
  obtain ⟨yy, yr, sg, rfl⟩ := hcx
  obtain ⟨rfl, t0, t6, t16, t17, t18, t22, t23, ⟨i, him, t24⟩, y, t4⟩ := h
  simp only [gtr0, gtr4, gtr6, gtr16, gtr17, gtr18, gtr22, gtr23, gtr24] at t0 t4 t6 t16 t17 t18 t22 t23 t24
  obtain ⟨_, r, g1, g2, g3, g4⟩ := hp
  by_cases hi : i < n
  · have d1 : decide (i < n) = true := decide_eq_true hi
    obtain ⟨z, hz⟩ := g4 i hi
    have hs : o + i < r.size := by omega
    obtain ⟨w, hw⟩ := whole E (x := xq y (z % 4294967296)) ht
    have e1 := fun {j} => hw 2 j (by decide)
    simp (maxSteps := 4000000) (disch := first | assumption | omega | (simp -implicitDefEqProofs only [SideG, SideL] <;> first | assumption | omega) | decide) only [d1, xorQ, u32Q, g1, hz, ld1_row, load1V_at, e1, t0, t4, t6, t16, t17, t18, t22, t23, t24, eqP_nil, cmpV_ge, cmpV_le, cmpV_lt, cmpV_gt, eqV_eq, eqV_ne, subV_i, addV_i, lenV_slice, idxSV_slice, idxAV_ptr, Nat.zero_add, Nat.add_zero, Nat.reduceSub, Nat.reduceAdd, Nat.reduceLeDiff, Nat.zero_le, Nat.lt_irrefl, Nat.reduceEqDiff, decide_true, decide_false, c91_l0, RunG, N8G, CoreG, CoreL, freeK_at, readK_at, freeN_at, Nat.reducePow, Nat.reduceDiv, Nat.reduceMod, Nat.reduceEqDiff, reduceCtorEq, TB0, TB1]
    refine ⟨_, _, _, rfl, ?_⟩
    exact .inl ⟨rfl, m - 1, by omega, rfl, t0, t6, t16, t17, t18, t22, t23, ⟨i + 1, by omega, rfl⟩, w, rfl⟩
  · have d1 : decide (i < n) = false := decide_eq_false hi
    obtain rfl : i = n := by omega
    simp (maxSteps := 4000000) (disch := first | assumption | omega | (simp -implicitDefEqProofs only [SideG, SideL] <;> first | assumption | omega) | decide) only [d1, t0, t4, t6, t16, t17, t18, t22, t23, t24, eqP_nil, cmpV_ge, cmpV_le, cmpV_lt, cmpV_gt, eqV_eq, eqV_ne, subV_i, addV_i, lenV_slice, idxSV_slice, idxAV_ptr, Nat.zero_add, Nat.add_zero, Nat.reduceSub, Nat.reduceAdd, Nat.reduceLeDiff, Nat.zero_le, Nat.lt_irrefl, Nat.reduceEqDiff, decide_true, decide_false, c91_l0, RunG, N8G, CoreG, CoreL, freeK_at, readK_at, freeN_at, Nat.reducePow, Nat.reduceDiv, Nat.reduceMod, Nat.reduceEqDiff, reduceCtorEq, TB0, TB1]
    refine ⟨_, _, _, rfl, ?_⟩
    exact .inr ⟨by simp, rfl, rfl, t0, t6, t16, t17, t18, t22, t23, ⟨i, by omega, t24⟩, y, t4⟩
def regO (a b : Nat) : Obj := rG 168 1 [nI .u32 a, nI .i64 b] 0 false true true
theorem regO_is (a b : Nat) : rG 168 1 [nI .u32 a, nI .i64 b] 0 false true true = regO a b := rfl
structure AI1 (q ab : Nat) (ac : Option Nat) (pb o n : Nat) (H0 : Heap) (m : Nat) (tm : TM) (H : Heap) : Prop where
  t0 : gt0 tm = .ptr q 0
  t16 : gt16 tm = .slice ab 0 1 ac
  t17 : gt17 tm = nI .i64 1
  y : ∃ y, gt4 tm = nI .u32 y
  i : (m = 1 ∧ gt18 tm = nI .i64 0 ∧ H = H0.new (regO 0 0)) ∨ (m = 0 ∧ gt18 tm = nI .i64 1 ∧ H = H0.new (regO 0 n))
def AQ1 (q n : Nat) (H0 : Heap) (oc : Out) (tm : TM) (H : Heap) : Prop := oc = .exit 0 ∧ gt0 tm = .ptr q 0 ∧ (∃ y, gt4 tm = nI .u32 y) ∧ H = H0.new (regO 0 n)
theorem PartIs.new {H : Heap} {b o n : Nat} (h : PartIs H b o n) (ob : Obj) : PartIs (H.new ob) b o n := by
  obtain ⟨h0, r, h1, h2⟩ := h
  exact ⟨Nat.lt_succ_of_lt h0, r, by rw [get_new_ne (by omega)]; exact h1, h2⟩
theorem TabIs.new {H : Heap} {g : Nat} (h : TabIs H g) (ob : Obj) : TabIs (H.new ob) g := by
  obtain ⟨h0, r, h1, h2⟩ := h
  exact ⟨Nat.lt_succ_of_lt h0, r, by rw [get_new_ne (by omega)]; exact h1, h2⟩
theorem add_step {lib0 : Lib} {fs : T CF} {fuel : Nat} (E : EnvC lib0 fs fuel) {d ab pb o n : Nat} {ac cp : Option Nat} {r : Row} {H0 : Heap} (ht : TabIs H0 12) (hab : ab < H0.nx) (hg : H0.t.get ab = some (.row r)) (hr : 1 ≤ r.size) (hv : r.get 0 = .slice pb o n cp) (hp : PartIs H0 pb o n) (hro : H0.ro ≤ H0.nx) (cx : Ctx) (hcx : ∃ yy yr sg, cx = ⟨callN (LK lib0 fs fuel 2) fs fuel (d + 1), yy, yr, fuel, sg⟩) (x : X) (m : Nat) (tm : TM) (H : Heap) (h : AI1 H0.nx ab ac pb o n H0 m tm H) :
    ∃ oc tm' H', c91_l1 cx tm H x = .ok oc tm' H' x ∧ ((oc = .normal ∧ ∃ k, k < m ∧ AI1 H0.nx ab ac pb o n H0 k tm' H') ∨ (oc ≠ .normal ∧ AQ1 H0.nx n H0 oc tm' H')) := by
  have hcx2 := hcx
  obtain ⟨yy, yr, sg, rfl⟩ := hcx
  obtain ⟨t0, t16, t17, ⟨y, t4⟩, hi⟩ := h
  simp only [gtr0, gtr4, gtr16, gtr17] at t0 t4 t16 t17
  rcases hi with ⟨rfl, t18, rfl⟩ | ⟨rfl, t18, rfl⟩
  · simp only [gtr18] at t18
    have z1 : decide (0 < 1) = true := rfl
    have hn : n < 9223372036854775807 := by obtain ⟨_, _, _, _, h, _⟩ := hp; omega
    have ga : (H0.new (regO 0 0)).t.get ab = some (.row r) := by rw [get_new_ne (by omega)]; exact hg
    have gq := fun ob => get_new_eq (H := H0) rfl ob
    have hne : ¬ H0.nx = ab := by omega
    simp (maxSteps := 4000000) (disch := first | assumption | omega | (simp -implicitDefEqProofs only [SideG, SideL] <;> first | assumption | omega) | decide) only [z1, ga, hv, ld1_row, load1V_at, t0, t4, t16, t17, t18, eqP_nil, cmpV_ge, cmpV_le, cmpV_lt, cmpV_gt, eqV_eq, eqV_ne, subV_i, addV_i, lenV_slice, idxSV_slice, idxAV_ptr, Nat.zero_add, Nat.add_zero, Nat.reduceSub, Nat.reduceAdd, Nat.reduceLeDiff, Nat.zero_le, Nat.lt_irrefl, Nat.reduceEqDiff, decide_true, decide_false, c91_l1, RunG, N8G, CoreG, CoreL, freeK_at, readK_at, freeN_at, Nat.reduceEqDiff, reduceCtorEq, TB0, TB1]
    generalize hL : loopN (c91_l0 _) fuel _ _ _ = L
    obtain ⟨oc, tm1, H2, rfl, _, rfl, z⟩ := after_rule (P := fun T => CI H0.nx pb o n cp (.slice ab 0 1 ac) (H0.new (regO 0 0)) n T (H0.new (regO 0 0))) (Q := CQ H0.nx pb o n cp (.slice ab 0 1 ac) (H0.new (regO 0 0)))
      (fun T hi => loop_rule (CI H0.nx pb o n cp (.slice ab 0 1 ac) (H0.new (regO 0 0))) (CQ H0.nx pb o n cp (.slice ab 0 1 ac) (H0.new (regO 0 0))) (fun m tm H' h => crc_step E (ht.new _) (hp.new _) _ hcx2 _ m tm H' h) fuel n T _ (by obtain ⟨_, _, _, _, h, _⟩ := hp; have := E.big; omega) hi) hL
      ⟨rfl, t0, rfl, t16, t17, t18, rfl, rfl, ⟨0, by omega, rfl⟩, y, t4⟩
    obtain ⟨rfl, t0, t6, t16, t17, t18, t22, t23, ⟨i, him, t24⟩, y2, t4⟩ := z
    simp only [gtr0, gtr4, gtr6, gtr16, gtr17, gtr18, gtr22, gtr23, gtr24] at t0 t4 t6 t16 t17 t18 t22 t23 t24
    unfold regO
    simp (maxSteps := 4000000) (disch := first | assumption | omega | (simp -implicitDefEqProofs only [SideG, SideL] <;> first | assumption | omega) | decide) only [get_new_eq, ld1_rG, stN_one, new_put, load1V_at, t0, t4, t6, t16, t17, t18, t22, t23, t24, eqP_nil, cmpV_ge, cmpV_le, cmpV_lt, cmpV_gt, eqV_eq, eqV_ne, subV_i, addV_i, lenV_slice, idxSV_slice, idxAV_ptr, Nat.zero_add, Nat.add_zero, Nat.reduceSub, Nat.reduceAdd, Nat.reduceLeDiff, Nat.zero_le, Nat.lt_irrefl, Nat.reduceEqDiff, decide_true, decide_false, c91_l1, RunG, N8G, CoreG, CoreL, freeK_at, readK_at, freeN_at, Nat.reduceEqDiff, reduceCtorEq, TB0, TB1]
    refine ⟨_, _, _, rfl, ?_⟩
    exact .inl ⟨rfl, 0, by omega, t0, t16, t17, ⟨y2, t4⟩, .inr ⟨rfl, rfl, rfl⟩⟩
  · simp only [gtr18] at t18
    have z1 : decide (1 < 1) = false := rfl
    simp (maxSteps := 4000000) (disch := first | assumption | omega | (simp -implicitDefEqProofs only [SideG, SideL] <;> first | assumption | omega) | decide) only [z1, t0, t4, t16, t17, t18, eqP_nil, cmpV_ge, cmpV_le, cmpV_lt, cmpV_gt, eqV_eq, eqV_ne, subV_i, addV_i, lenV_slice, idxSV_slice, idxAV_ptr, Nat.zero_add, Nat.add_zero, Nat.reduceSub, Nat.reduceAdd, Nat.reduceLeDiff, Nat.zero_le, Nat.lt_irrefl, Nat.reduceEqDiff, decide_true, decide_false, c91_l1, RunG, N8G, CoreG, CoreL, freeK_at, readK_at, freeN_at, Nat.reduceEqDiff, reduceCtorEq, TB0, TB1]
    refine ⟨_, _, _, rfl, ?_⟩
    exact .inr ⟨by simp, rfl, t0, ⟨y, t4⟩, rfl⟩
theorem add_run {lib0 : Lib} {fs : T CF} {fuel : Nat} (E : EnvC lib0 fs fuel) {d ab pb o n : Nat} {ac cp : Option Nat} {r : Row} {H0 : Heap} (ht : TabIs H0 12) (hab : ab < H0.nx) (hg : H0.t.get ab = some (.row r)) (hr : 1 ≤ r.size) (hv : r.get 0 = .slice pb o n cp) (hp : PartIs H0 pb o n) (hro : H0.ro ≤ H0.nx) :
    ∃ y, callN (LK lib0 fs fuel 2) fs fuel (d + 2) 91 [.ptr H0.nx 0, .slice ab 0 1 ac] (H0.new (regO 0 0)) = .ret (.tup []) (H0.new (regO y n)) := by
  rw [callN_fn (libK_none E.n91 (.inr rfl) _ _) E.f91]
  have z0 : decide (H0.nx = 0) = false := decide_eq_false (by omega)
  have gq := fun ob => get_new_eq (H := H0) rfl ob
  have lr : ∀ G, ld1 (some (regO 0 0)) 0 G = .val (nI .u32 0) G := fun G => ld1_rG (show 0 < 2 by decide) ..
  simp (maxSteps := 4000000) (disch := first | assumption | omega | (simp -implicitDefEqProofs only [SideG, SideL] <;> first | assumption | omega) | decide) only [gq, lr, notQ, load1V_at, eqP_nil, cmpV_ge, cmpV_le, cmpV_lt, cmpV_gt, eqV_eq, eqV_ne, subV_i, addV_i, lenV_slice, idxSV_slice, idxAV_ptr, Nat.zero_add, Nat.add_zero, Nat.reduceSub, Nat.reduceAdd, Nat.reduceLeDiff, Nat.zero_le, Nat.lt_irrefl, Nat.reduceEqDiff, decide_true, decide_false, c91, RunG, N8G, CoreG, CoreL, freeK_at, readK_at, freeN_at, Nat.reducePow, Nat.reduceDiv, Nat.reduceMod, Nat.reduceEqDiff, reduceCtorEq, TB0, TB1]
  generalize hL : loopN (c91_l1 _) fuel _ _ _ = L
  obtain ⟨oc, tm1, H2, rfl, _, rfl, t0, ⟨y, t4⟩, rfl⟩ := after_rule (P := fun T => AI1 H0.nx ab ac pb o n H0 1 T (H0.new (regO 0 0))) (Q := AQ1 H0.nx n H0)
    (fun T hi => loop_rule (AI1 H0.nx ab ac pb o n H0) (AQ1 H0.nx n H0) (fun m tm H' h => add_step E ht hab hg hr hv hp hro _ ⟨_, _, _, rfl⟩ _ m tm H' h) fuel 1 T _ (by have := E.big; omega) hi) hL
    (by exact ⟨rfl, rfl, rfl, ⟨_, rfl⟩, .inl ⟨rfl, rfl, rfl⟩⟩)
  simp only [gtr0, gtr4] at t0 t4
  refine ⟨nq y, ?_⟩
  unfold regO
  simp (maxSteps := 4000000) (disch := first | assumption | omega | (simp -implicitDefEqProofs only [SideG, SideL] <;> first | assumption | omega) | decide) only [get_new_eq, ld1_rG, stN_one, new_put, load1V_at, notQ, t0, t4, eqP_nil, cmpV_ge, cmpV_le, cmpV_lt, cmpV_gt, eqV_eq, eqV_ne, subV_i, addV_i, lenV_slice, idxSV_slice, idxAV_ptr, Nat.zero_add, Nat.add_zero, Nat.reduceSub, Nat.reduceAdd, Nat.reduceLeDiff, Nat.zero_le, Nat.lt_irrefl, Nat.reduceEqDiff, decide_true, decide_false, c91, RunG, N8G, CoreG, CoreL, freeK_at, readK_at, freeN_at, Nat.reducePow, Nat.reduceDiv, Nat.reduceMod, Nat.reduceEqDiff, reduceCtorEq, TB0, TB1]
theorem sum_run {lib0 : Lib} {fs : T CF} {fuel : Nat} (E : EnvC lib0 fs fuel) {d a n : Nat} {H0 : Heap} : callN (LK lib0 fs fuel 2) fs fuel (d + 1) 92 [.ptr H0.nx 0] (H0.new (regO a n)) = .ret (nI .u32 a) (H0.new (regO a n)) := by
  rw [callN_fn (libK_none E.n92 (.inr rfl) _ _) E.f92]
  have gq := fun ob => get_new_eq (H := H0) rfl ob
  have lr : ∀ G, ld1 (some (regO a n)) 0 G = .val (nI .u32 a) G := fun G => ld1_rG (show 0 < 2 by decide) ..
  simp (maxSteps := 4000000) (disch := first | assumption | omega | (simp -implicitDefEqProofs only [SideG, SideL] <;> first | assumption | omega) | decide) only [gq, lr, load1V_at, eqP_nil, cmpV_ge, cmpV_le, cmpV_lt, cmpV_gt, eqV_eq, eqV_ne, subV_i, addV_i, lenV_slice, idxSV_slice, idxAV_ptr, Nat.zero_add, Nat.add_zero, Nat.reduceSub, Nat.reduceAdd, Nat.reduceLeDiff, Nat.zero_le, Nat.lt_irrefl, Nat.reduceEqDiff, decide_true, decide_false, c92, RunG, N8G, CoreG, CoreL, freeK_at, readK_at, freeN_at, Nat.reduceEqDiff, reduceCtorEq, TB0]
theorem of_run {lib0 : Lib} {fs : T CF} {fuel : Nat} (E : EnvC lib0 fs fuel) {d ab pb o n : Nat} {ac cp : Option Nat} {r : Row} {H0 : Heap} (ht : TabIs H0 12) (hab : ab < H0.nx) (hg : H0.t.get ab = some (.row r)) (hr : 1 ≤ r.size) (hv : r.get 0 = .slice pb o n cp) (hp : PartIs H0 pb o n) (hro : H0.ro ≤ H0.nx) :
    ∃ y, callN (LK lib0 fs fuel 2) fs fuel (d + 3) 54 [.slice ab 0 1 ac] H0 = .ret (nI .u32 y) (H0.new (regO y n)) := by
  rw [callN_fn (libK_none E.n54 (.inl (by decide)) _ _) E.f54]
  obtain ⟨y, ea⟩ := add_run E (d := d) (ac := ac) ht hab hg hr hv hp hro
  have es := fun {j} => sum_run E (d := j) (a := y) (n := n) (H0 := H0)
  refine ⟨y, ?_⟩
  simp (maxSteps := 4000000) (disch := first | assumption | omega | (simp -implicitDefEqProofs only [SideG, SideL] <;> first | assumption | omega) | decide) only [oAlloc_cons, regO_is, ea, es, callV_func, List.cons_append, List.nil_append, eqP_nil, cmpV_ge, cmpV_le, cmpV_lt, cmpV_gt, eqV_eq, eqV_ne, subV_i, addV_i, lenV_slice, idxSV_slice, idxAV_ptr, Nat.zero_add, Nat.add_zero, Nat.reduceSub, Nat.reduceAdd, Nat.reduceLeDiff, Nat.zero_le, Nat.lt_irrefl, Nat.reduceEqDiff, decide_true, decide_false, c54, RunG, N8G, CoreG, CoreL, freeK_at, readK_at, freeN_at, Nat.reduceEqDiff, reduceCtorEq, TB0]
theorem crc_of {lib0 : Lib} {fs : T CF} {fuel : Nat} (E : EnvC lib0 fs fuel) {n : Nat} (args : List AV) (H : Heap) (h : crcArg 12 args H = true) : ∃ y, callN (LK lib0 fs fuel 3) fs fuel (n + 1) 54 args H = .ret (nI .u32 y) H := by
  obtain ⟨b, cc, r, pb, po, pn, pc, rfl, h1, h2, h3, h4, h5, h6, h7⟩ := crcArg_is h
  obtain ⟨y, e⟩ := of_run E (d := 897) (ac := cc) h2 h3 h4 h5 h6 h7 h1
  exact ⟨y, keep_hit (r := 2) rfl rfl e (Keep.new _ _ _) rfl (Nat.le_refl _)⟩

/-- a letter made small -/
def lw (y : Nat) : Nat := Nat.lor (y % 256) (32 % 256) % 256
theorem lorQ (a : Nat) (G : Heap) : bitsV lorF (nI .u8 a) (nI .u8 32) G = .val (nI .u8 (lw a)) G := by
  show onIf (kEq .u8 .u8) (valI .u8 (.ofNat (Nat.lor (a % 256) (32 % 256))) G) = _
  rw [kEq_self, valI_run, wrap_u8]; rfl
theorem lw_lt (y : Nat) : lw y < 256 := Nat.mod_lt _ (by decide)
def dv (y : Nat) : Nat := if 48 ≤ y ∧ y ≤ 57 then y - 48 else lw y - 97 + 10
def okd (y : Nat) : Prop := (48 ≤ y ∧ y ≤ 57) ∨ (97 ≤ lw y ∧ lw y ≤ 102)
def hval (s : List UInt8) : Nat := s.foldl (fun a c => a * 16 + dv c.toNat) 0
theorem hval_push (s : List UInt8) (x : UInt8) : hval (s ++ [x]) = hval s * 16 + dv x.toNat := by
  unfold hval; rw [List.foldl_append]; rfl
theorem take_push {s : List UInt8} {i : Nat} (h : i < s.length) : s.take (i + 1) = s.take i ++ [s.getD i 0] := by
  rw [List.take_add_one, List.getElem?_eq_getElem h, List.getD_eq_getElem?_getD, List.getElem?_eq_getElem h]; rfl
theorem hval_take {s : List UInt8} {i : Nat} (h : i < s.length) : hval (s.take (i + 1)) = hval (s.take i) * 16 + dv (s.getD i 0).toNat := by rw [take_push h, hval_push]
theorem mapu_getD {s : List UInt8} {i : Nat} (h : i < s.length) : (s.map u8V).getD i .unk = nI .u8 (s.getD i 0).toNat := by
  rw [List.getD_eq_getElem?_getD, List.getElem?_map, List.getElem?_eq_getElem h, List.getD_eq_getElem?_getD, List.getElem?_eq_getElem h]; rfl
def errV (k : Nat) : AV := .iface 181 (nI .i64 k)
def puR (s : List UInt8) (v : AV) : Prop := (v = .tup [nI .u64 (hval s), .nili] ∧ hval s < 16 ^ s.length) ∨ (v = .tup [nI .u64 0, errV 2] ∧ ∃ i, i < s.length ∧ ¬ okd (s.getD i 0).toNat)
structure PU (H1 : Heap) (b : Nat) (s : List UInt8) (m : Nat) (tm : TM) (H : Heap) : Prop where
  heap : H = H1
  t1 : gt1 tm = nI .i64 16
  t8 : gt8 tm = .bool false
  t10 : gt10 tm = nI .u64 1152921504606846976
  t11 : gt11 tm = nI .u64 18446744073709551615
  t12 : gt12 tm = .bool false
  t99 : gt99 tm = .slice b 0 s.length none
  t100 : gt100 tm = nI .i64 s.length
  i : ∃ i, i + m = s.length ∧ gt101 tm = nI .i64 i ∧ gt13 tm = nI .u64 (hval (s.take i)) ∧ hval (s.take i) < 16 ^ i
def PQ (H1 : Heap) (s : List UInt8) (o : Out) (tm : TM) (H : Heap) : Prop := H = H1 ∧ ((o = .ret ∧ gt6 tm = nI .u64 0 ∧ gt7 tm = errV 2 ∧ ∃ i, i < s.length ∧ ¬ okd (s.getD i 0).toNat) ∨ (o = .exit 3 ∧ gt12 tm = .bool false ∧ gt13 tm = nI .u64 (hval s) ∧ hval s < 16 ^ s.length))
theorem lowerK_run {lib0 : Lib} {fs : T CF} {fuel : Nat} {B : Heap → Prop} (E : Env lib0 fs fuel B) {n : Nat} {y : Nat} {H : Heap}  :
    ∃ H', callN (LK lib0 fs fuel 0) fs fuel (n + 2) 152 [nI .u8 y] H = .ret (nI .u8 (lw y)) H' ∧ Keep H H' [] := by
  rw [callN_fn (libK_none E.n152 (.inl (by decide)) _ _) E.f152]
  simp (maxSteps := 4000000) (disch := first | assumption | omega | (simp -implicitDefEqProofs only [SideG, SideL] <;> first | assumption | omega) | decide) only [lorQ, idxStr_at, cmpV_ge, cmpV_le, cmpV_lt, cmpV_gt, eqV_eq, eqV_ne, eqS_eq, eqS_ne, subV_i, addV_i, lenSV_str, slStr_drop, idxSV_slice, Nat.zero_add, Nat.add_zero, oStr_at, Nat.reduceSub, Nat.reduceAdd, Nat.reduceLeDiff, Nat.zero_le, Nat.lt_irrefl, Nat.not_lt_zero, Nat.reduceEqDiff, decide_true, decide_false, c152, RunG, N8G, CoreG, CoreL, freeK_at, readK_at, freeN_at, Nat.reducePow, Nat.reduceDiv, Nat.reduceMod, Nat.reduceEqDiff, reduceCtorEq, TB0]
  refine ⟨_, rfl, ?_⟩
  exact Keep.refl _ _
theorem lowerK {lib0 : Lib} {fs : T CF} {fuel : Nat} {B : Heap → Prop} (E : Env lib0 fs fuel B) {k n : Nat} (hk : 1 ≤ k) {y : Nat} {H : Heap}  :
    callN (LK lib0 fs fuel k) fs fuel (n + 1) 152 [nI .u8 y] H = .ret (nI .u8 (lw y)) H := by
  obtain ⟨H', e, g⟩ := lowerK_run E (n := 898) (H := H) 
  exact keep_hit (r := 0) rfl rfl e g (rfl) hk
theorem pu_step {lib0 : Lib} {fs : T CF} {fuel : Nat} {B : Heap → Prop} (E : Env lib0 fs fuel B) {d : Nat} {H1 : Heap} {b : Nat} {s : List UInt8} (hl : s.length ≤ 16) (gb : H1.t.get b = some (rG 5 1 (s.map u8V) 0 true true false)) (cx : Ctx) (hcx : ∃ yy yr sg, cx = ⟨callN (LK lib0 fs fuel 1) fs fuel (d + 1), yy, yr, fuel, sg⟩) (x : X) (m : Nat) (tm : TM) (H : Heap) (h : PU H1 b s m tm H) :
    ∃ o tm' H', c101_l0 cx tm H x = .ok o tm' H' x ∧ ((o = .normal ∧ ∃ k, k < m ∧ PU H1 b s k tm' H') ∨ (o ≠ .normal ∧ PQ H1 s o tm' H')) := by
  obtain ⟨yy, yr, sg, rfl⟩ := hcx
  obtain ⟨rfl, t1, t8, t10, t11, t12, t99, t100, i, him, t101, t13, hn⟩ := h
  simp only [gtr1, gtr8, gtr10, gtr11, gtr12, gtr13, gtr99, gtr100, gtr101] at t1 t8 t10 t11 t12 t13 t99 t100 t101
  by_cases hi : i < s.length
  · have d1 : decide (i < s.length) = true := decide_eq_true hi
    have eu := hval_take hi
    have hu15 : hval (s.take i) < 1152921504606846976 := Nat.lt_of_lt_of_le hn (Nat.pow_le_pow_right (n := 16) (by decide) (show i ≤ 15 by omega))
    have hbad : ∀ y, (s.getD i 0).toNat = y → ¬ okd y → ∃ i, i < s.length ∧ ¬ okd (s.getD i 0).toNat := fun y e h => ⟨i, hi, by rw [e]; exact h⟩
    have h256 : (s.getD i 0).toNat < 256 := UInt8.toNat_lt _
    generalize hx : (s.getD i 0).toNat = y at eu h256
    replace hbad := hbad y hx
    generalize hu : hval (s.take i) = u at t13 hn eu hu15
    have lk := fun {j} => lowerK (lib0 := lib0) (fs := fs) (fuel := fuel) E (k := 1) (n := j) (by decide) (y := y) (H := H)
    have al : ∀ a, a < 200 → ∀ G, addV (nI .u8 a) (nI .u8 10) G = .val (nI .u8 (a + 10)) G := fun a ha G => addV_u8 (by omega) G
    have i16 : ∀ G, intV .u8 (nI .i64 16) G = .val (nI .u8 16) G := fun _ => rfl
    have i16' : ∀ G, intV .u64 (nI .i64 16) G = .val (nI .u64 16) G := fun _ => rfl
    have hw := lw_lt y
    have dc : decide (1152921504606846976 ≤ u) = false := decide_eq_false (by omega)
    have good : ∀ dg, dv y = dg → dg < 16 → (u * 16 + dg) % 18446744073709551616 = u * 16 + dg ∧ decide (u * 16 + dg < u * 16) = false ∧ decide (18446744073709551615 < u * 16 + dg) = false ∧ decide (16 ≤ dg) = false ∧ u * 16 + dg < 16 ^ (i + 1) := fun dg _ h => ⟨Nat.mod_eq_of_lt (by omega), decide_eq_false (by omega), decide_eq_false (by omega), decide_eq_false (by omega), by rw [Nat.pow_succ]; omega⟩
    by_cases h1 : 48 ≤ y ∧ y ≤ 57
    · have edv : dv y = y - 48 := if_pos h1
      obtain ⟨e1, d7, d8, d5, hlt⟩ := good _ edv (by omega)
      have d2 : decide (y = 95) = false := decide_eq_false (by omega)
      have d3 : decide (48 ≤ y) = true := decide_eq_true h1.1
      have d4 : decide (y ≤ 57) = true := decide_eq_true h1.2
      simp (maxSteps := 4000000) (disch := first | assumption | omega | (simp -implicitDefEqProofs only [SideG, SideL] <;> first | assumption | omega) | decide) only [d1, d2, d3, d4, d5, d7, d8, dc, e1, i16, i16', hx, gb, ld1_rG, mapu_getD, t1, t8, t10, t11, t13, t99, t100, t101, subV_u8, intV_u8, intV_u64, mulV_u64, addM_u64, lk, idxStr_at, cmpV_ge, cmpV_le, cmpV_lt, cmpV_gt, eqV_eq, eqV_ne, eqS_eq, eqS_ne, subV_i, addV_i, lenSV_str, slStr_drop, idxSV_slice, Nat.zero_add, Nat.add_zero, oStr_at, Nat.reduceSub, Nat.reduceAdd, Nat.reduceLeDiff, Nat.zero_le, Nat.lt_irrefl, Nat.not_lt_zero, Nat.reduceEqDiff, decide_true, decide_false, c101_l0, RunG, N8G, CoreG, CoreL, freeK_at, readK_at, freeN_at, Nat.reducePow, Nat.reduceDiv, Nat.reduceMod, Nat.reduceEqDiff, reduceCtorEq, TB0, TB3, TB4, TB5]
      refine ⟨_, _, _, rfl, ?_⟩
      exact .inl ⟨rfl, m - 1, by omega, rfl, t1, t8, t10, t11, t12, t99, t100, i + 1, by omega, rfl, by rw [eu, edv]; rfl, by rw [eu, edv]; exact hlt⟩
    · have d34 : decide (48 ≤ y) = false ∨ (decide (48 ≤ y) = true ∧ decide (y ≤ 57) = false) := by
        by_cases h : 48 ≤ y
        · exact .inr ⟨decide_eq_true h, decide_eq_false (by omega)⟩
        · exact .inl (decide_eq_false h)
      have edv : dv y = lw y - 97 + 10 := if_neg h1
      by_cases h2 : y = 95
      · subst h2
        have bad := hbad (by unfold okd; decide)
        have w1 : lw 95 = 127 := by decide
        rw [w1] at lk
        simp (maxSteps := 4000000) (disch := first | assumption | omega | (simp -implicitDefEqProofs only [SideG, SideL] <;> first | assumption | omega) | decide) only [d1, dc, i16, i16', hx, gb, ld1_rG, mapu_getD, t1, t8, t10, t11, t13, t99, t100, t101, subV_u8, intV_u8, intV_u64, mulV_u64, addM_u64, lk, idxStr_at, cmpV_ge, cmpV_le, cmpV_lt, cmpV_gt, eqV_eq, eqV_ne, eqS_eq, eqS_ne, subV_i, addV_i, lenSV_str, slStr_drop, idxSV_slice, Nat.zero_add, Nat.add_zero, oStr_at, Nat.reduceSub, Nat.reduceAdd, Nat.reduceLeDiff, Nat.zero_le, Nat.lt_irrefl, Nat.not_lt_zero, Nat.reduceEqDiff, decide_true, decide_false, c101_l0, RunG, N8G, CoreG, CoreL, freeK_at, readK_at, freeN_at, Nat.reducePow, Nat.reduceDiv, Nat.reduceMod, Nat.reduceEqDiff, reduceCtorEq, TB0, TB3, TB4, TB5]
        refine ⟨_, _, _, rfl, ?_⟩
        exact .inr ⟨by simp, rfl, .inl ⟨rfl, rfl, rfl, bad⟩⟩
      · have d2 : decide (y = 95) = false := decide_eq_false h2
        by_cases h3 : 97 ≤ lw y
        · have d6 : decide (97 ≤ lw y) = true := decide_eq_true h3
          by_cases h4 : lw y ≤ 122
          · have d7 : decide (lw y ≤ 122) = true := decide_eq_true h4
            have ea := al (lw y - 97) (by omega)
            obtain ⟨dg, hdg⟩ : ∃ dg, lw y - 97 + 10 = dg := ⟨_, rfl⟩
            rw [hdg] at ea edv
            by_cases h5 : lw y ≤ 102
            · obtain ⟨e1, d8, d9, d5, hlt⟩ := good _ edv (by omega)
              have hd : dg < 256 := by omega
              rcases d34 with d3 | ⟨d3, d4⟩
              · skip
                simp (maxSteps := 4000000) (disch := first | assumption | omega | (simp -implicitDefEqProofs only [SideG, SideL] <;> first | assumption | omega) | decide) only [d1, d2, d3, d5, d6, d7, d8, d9, e1, ea, dc, i16, i16', hx, gb, ld1_rG, mapu_getD, t1, t8, t10, t11, t13, t99, t100, t101, subV_u8, intV_u8, intV_u64, mulV_u64, addM_u64, lk, idxStr_at, cmpV_ge, cmpV_le, cmpV_lt, cmpV_gt, eqV_eq, eqV_ne, eqS_eq, eqS_ne, subV_i, addV_i, lenSV_str, slStr_drop, idxSV_slice, Nat.zero_add, Nat.add_zero, oStr_at, Nat.reduceSub, Nat.reduceAdd, Nat.reduceLeDiff, Nat.zero_le, Nat.lt_irrefl, Nat.not_lt_zero, Nat.reduceEqDiff, decide_true, decide_false, c101_l0, RunG, N8G, CoreG, CoreL, freeK_at, readK_at, freeN_at, Nat.reducePow, Nat.reduceDiv, Nat.reduceMod, Nat.reduceEqDiff, reduceCtorEq, TB0, TB3, TB4, TB5]
                refine ⟨_, _, _, rfl, ?_⟩
                exact .inl ⟨rfl, m - 1, by omega, rfl, t1, t8, t10, t11, t12, t99, t100, i + 1, by omega, rfl, by rw [eu, edv]; rfl, by rw [eu, edv]; exact hlt⟩
              · skip
                simp (maxSteps := 4000000) (disch := first | assumption | omega | (simp -implicitDefEqProofs only [SideG, SideL] <;> first | assumption | omega) | decide) only [d1, d2, d3, d4, d5, d6, d7, d8, d9, e1, ea, dc, i16, i16', hx, gb, ld1_rG, mapu_getD, t1, t8, t10, t11, t13, t99, t100, t101, subV_u8, intV_u8, intV_u64, mulV_u64, addM_u64, lk, idxStr_at, cmpV_ge, cmpV_le, cmpV_lt, cmpV_gt, eqV_eq, eqV_ne, eqS_eq, eqS_ne, subV_i, addV_i, lenSV_str, slStr_drop, idxSV_slice, Nat.zero_add, Nat.add_zero, oStr_at, Nat.reduceSub, Nat.reduceAdd, Nat.reduceLeDiff, Nat.zero_le, Nat.lt_irrefl, Nat.not_lt_zero, Nat.reduceEqDiff, decide_true, decide_false, c101_l0, RunG, N8G, CoreG, CoreL, freeK_at, readK_at, freeN_at, Nat.reducePow, Nat.reduceDiv, Nat.reduceMod, Nat.reduceEqDiff, reduceCtorEq, TB0, TB3, TB4, TB5]
                refine ⟨_, _, _, rfl, ?_⟩
                exact .inl ⟨rfl, m - 1, by omega, rfl, t1, t8, t10, t11, t12, t99, t100, i + 1, by omega, rfl, by rw [eu, edv]; rfl, by rw [eu, edv]; exact hlt⟩
            · have bad := hbad (by unfold okd; omega)
              have d5 : decide (16 ≤ dg) = true := decide_eq_true (by omega)
              rcases d34 with d3 | ⟨d3, d4⟩
              · skip
                simp (maxSteps := 4000000) (disch := first | assumption | omega | (simp -implicitDefEqProofs only [SideG, SideL] <;> first | assumption | omega) | decide) only [d1, d2, d3, d5, d6, d7, ea, dc, i16, i16', hx, gb, ld1_rG, mapu_getD, t1, t8, t10, t11, t13, t99, t100, t101, subV_u8, intV_u8, intV_u64, mulV_u64, addM_u64, lk, idxStr_at, cmpV_ge, cmpV_le, cmpV_lt, cmpV_gt, eqV_eq, eqV_ne, eqS_eq, eqS_ne, subV_i, addV_i, lenSV_str, slStr_drop, idxSV_slice, Nat.zero_add, Nat.add_zero, oStr_at, Nat.reduceSub, Nat.reduceAdd, Nat.reduceLeDiff, Nat.zero_le, Nat.lt_irrefl, Nat.not_lt_zero, Nat.reduceEqDiff, decide_true, decide_false, c101_l0, RunG, N8G, CoreG, CoreL, freeK_at, readK_at, freeN_at, Nat.reducePow, Nat.reduceDiv, Nat.reduceMod, Nat.reduceEqDiff, reduceCtorEq, TB0, TB3, TB4, TB5]
                refine ⟨_, _, _, rfl, ?_⟩
                exact .inr ⟨by simp, rfl, .inl ⟨rfl, rfl, rfl, bad⟩⟩
              · skip
                simp (maxSteps := 4000000) (disch := first | assumption | omega | (simp -implicitDefEqProofs only [SideG, SideL] <;> first | assumption | omega) | decide) only [d1, d2, d3, d4, d5, d6, d7, ea, dc, i16, i16', hx, gb, ld1_rG, mapu_getD, t1, t8, t10, t11, t13, t99, t100, t101, subV_u8, intV_u8, intV_u64, mulV_u64, addM_u64, lk, idxStr_at, cmpV_ge, cmpV_le, cmpV_lt, cmpV_gt, eqV_eq, eqV_ne, eqS_eq, eqS_ne, subV_i, addV_i, lenSV_str, slStr_drop, idxSV_slice, Nat.zero_add, Nat.add_zero, oStr_at, Nat.reduceSub, Nat.reduceAdd, Nat.reduceLeDiff, Nat.zero_le, Nat.lt_irrefl, Nat.not_lt_zero, Nat.reduceEqDiff, decide_true, decide_false, c101_l0, RunG, N8G, CoreG, CoreL, freeK_at, readK_at, freeN_at, Nat.reducePow, Nat.reduceDiv, Nat.reduceMod, Nat.reduceEqDiff, reduceCtorEq, TB0, TB3, TB4, TB5]
                refine ⟨_, _, _, rfl, ?_⟩
                exact .inr ⟨by simp, rfl, .inl ⟨rfl, rfl, rfl, bad⟩⟩
          · have d7 : decide (lw y ≤ 122) = false := decide_eq_false h4
            have bad := hbad (by unfold okd; omega)
            rcases d34 with d3 | ⟨d3, d4⟩
            · skip
              simp (maxSteps := 4000000) (disch := first | assumption | omega | (simp -implicitDefEqProofs only [SideG, SideL] <;> first | assumption | omega) | decide) only [d1, d2, d3, d6, d7, dc, i16, i16', hx, gb, ld1_rG, mapu_getD, t1, t8, t10, t11, t13, t99, t100, t101, subV_u8, intV_u8, intV_u64, mulV_u64, addM_u64, lk, idxStr_at, cmpV_ge, cmpV_le, cmpV_lt, cmpV_gt, eqV_eq, eqV_ne, eqS_eq, eqS_ne, subV_i, addV_i, lenSV_str, slStr_drop, idxSV_slice, Nat.zero_add, Nat.add_zero, oStr_at, Nat.reduceSub, Nat.reduceAdd, Nat.reduceLeDiff, Nat.zero_le, Nat.lt_irrefl, Nat.not_lt_zero, Nat.reduceEqDiff, decide_true, decide_false, c101_l0, RunG, N8G, CoreG, CoreL, freeK_at, readK_at, freeN_at, Nat.reducePow, Nat.reduceDiv, Nat.reduceMod, Nat.reduceEqDiff, reduceCtorEq, TB0, TB3, TB4, TB5]
              refine ⟨_, _, _, rfl, ?_⟩
              exact .inr ⟨by simp, rfl, .inl ⟨rfl, rfl, rfl, bad⟩⟩
            · skip
              simp (maxSteps := 4000000) (disch := first | assumption | omega | (simp -implicitDefEqProofs only [SideG, SideL] <;> first | assumption | omega) | decide) only [d1, d2, d3, d4, d6, d7, dc, i16, i16', hx, gb, ld1_rG, mapu_getD, t1, t8, t10, t11, t13, t99, t100, t101, subV_u8, intV_u8, intV_u64, mulV_u64, addM_u64, lk, idxStr_at, cmpV_ge, cmpV_le, cmpV_lt, cmpV_gt, eqV_eq, eqV_ne, eqS_eq, eqS_ne, subV_i, addV_i, lenSV_str, slStr_drop, idxSV_slice, Nat.zero_add, Nat.add_zero, oStr_at, Nat.reduceSub, Nat.reduceAdd, Nat.reduceLeDiff, Nat.zero_le, Nat.lt_irrefl, Nat.not_lt_zero, Nat.reduceEqDiff, decide_true, decide_false, c101_l0, RunG, N8G, CoreG, CoreL, freeK_at, readK_at, freeN_at, Nat.reducePow, Nat.reduceDiv, Nat.reduceMod, Nat.reduceEqDiff, reduceCtorEq, TB0, TB3, TB4, TB5]
              refine ⟨_, _, _, rfl, ?_⟩
              exact .inr ⟨by simp, rfl, .inl ⟨rfl, rfl, rfl, bad⟩⟩
        · have d6 : decide (97 ≤ lw y) = false := decide_eq_false h3
          have bad := hbad (by unfold okd; omega)
          rcases d34 with d3 | ⟨d3, d4⟩
          · skip
            simp (maxSteps := 4000000) (disch := first | assumption | omega | (simp -implicitDefEqProofs only [SideG, SideL] <;> first | assumption | omega) | decide) only [d1, d2, d3, d6, dc, i16, i16', hx, gb, ld1_rG, mapu_getD, t1, t8, t10, t11, t13, t99, t100, t101, subV_u8, intV_u8, intV_u64, mulV_u64, addM_u64, lk, idxStr_at, cmpV_ge, cmpV_le, cmpV_lt, cmpV_gt, eqV_eq, eqV_ne, eqS_eq, eqS_ne, subV_i, addV_i, lenSV_str, slStr_drop, idxSV_slice, Nat.zero_add, Nat.add_zero, oStr_at, Nat.reduceSub, Nat.reduceAdd, Nat.reduceLeDiff, Nat.zero_le, Nat.lt_irrefl, Nat.not_lt_zero, Nat.reduceEqDiff, decide_true, decide_false, c101_l0, RunG, N8G, CoreG, CoreL, freeK_at, readK_at, freeN_at, Nat.reducePow, Nat.reduceDiv, Nat.reduceMod, Nat.reduceEqDiff, reduceCtorEq, TB0, TB3, TB4, TB5]
            refine ⟨_, _, _, rfl, ?_⟩
            exact .inr ⟨by simp, rfl, .inl ⟨rfl, rfl, rfl, bad⟩⟩
          · skip
            simp (maxSteps := 4000000) (disch := first | assumption | omega | (simp -implicitDefEqProofs only [SideG, SideL] <;> first | assumption | omega) | decide) only [d1, d2, d3, d4, d6, dc, i16, i16', hx, gb, ld1_rG, mapu_getD, t1, t8, t10, t11, t13, t99, t100, t101, subV_u8, intV_u8, intV_u64, mulV_u64, addM_u64, lk, idxStr_at, cmpV_ge, cmpV_le, cmpV_lt, cmpV_gt, eqV_eq, eqV_ne, eqS_eq, eqS_ne, subV_i, addV_i, lenSV_str, slStr_drop, idxSV_slice, Nat.zero_add, Nat.add_zero, oStr_at, Nat.reduceSub, Nat.reduceAdd, Nat.reduceLeDiff, Nat.zero_le, Nat.lt_irrefl, Nat.not_lt_zero, Nat.reduceEqDiff, decide_true, decide_false, c101_l0, RunG, N8G, CoreG, CoreL, freeK_at, readK_at, freeN_at, Nat.reducePow, Nat.reduceDiv, Nat.reduceMod, Nat.reduceEqDiff, reduceCtorEq, TB0, TB3, TB4, TB5]
            refine ⟨_, _, _, rfl, ?_⟩
            exact .inr ⟨by simp, rfl, .inl ⟨rfl, rfl, rfl, bad⟩⟩
  · have d1 : decide (i < s.length) = false := decide_eq_false hi
    obtain rfl : i = s.length := by omega
    rw [List.take_length] at t13 hn
    simp (maxSteps := 4000000) (disch := first | assumption | omega | (simp -implicitDefEqProofs only [SideG, SideL] <;> first | assumption | omega) | decide) only [t99, t100, t101, d1, idxStr_at, cmpV_ge, cmpV_le, cmpV_lt, cmpV_gt, eqV_eq, eqV_ne, eqS_eq, eqS_ne, subV_i, addV_i, lenSV_str, slStr_drop, idxSV_slice, Nat.zero_add, Nat.add_zero, oStr_at, Nat.reduceSub, Nat.reduceAdd, Nat.reduceLeDiff, Nat.zero_le, Nat.lt_irrefl, Nat.not_lt_zero, Nat.reduceEqDiff, decide_true, decide_false, c101_l0, RunG, N8G, CoreG, CoreL, freeK_at, readK_at, freeN_at, Nat.reducePow, Nat.reduceDiv, Nat.reduceMod, Nat.reduceEqDiff, reduceCtorEq, TB0, TB3, TB4, TB5]
    refine ⟨_, _, _, rfl, ?_⟩
    exact .inr ⟨by simp, rfl, .inr ⟨rfl, t12, t13, hn⟩⟩
theorem parseUint_run {lib0 : Lib} {fs : T CF} {fuel : Nat} {B : Heap → Prop} (E : Env lib0 fs fuel B) {n : Nat} {s : List UInt8} {H : Heap} (hne : s ≠ []) (hl : s.length ≤ 16) :
    ∃ v H', puR s v ∧ callN (LK lib0 fs fuel 1) fs fuel (n + 2) 101 [.str s, nI .i64 16, nI .i64 64] H = .ret v H' ∧ Keep H H' [] := by
  rw [callN_fn (libK_none E.n101 (.inl (by decide)) _ _) E.f101]
  have d0 : decide (s = []) = false := decide_eq_false hne
  have m1 : (1 * 2 ^ 64) % 18446744073709551616 = 0 := rfl
  obtain ⟨H1, hH1⟩ : ∃ H1, H.new (rG 5 1 (s.map u8V) 0 true true false) = H1 := ⟨_, rfl⟩
  have k1 : Keep H H1 [] := by rw [← hH1]; exact Keep.new H _ []
  have gb : H1.t.get H.nx = some (rG 5 1 (s.map u8V) 0 true true false) := by rw [← hH1, get_new_eq rfl]
  have es : ∀ H, subV (nI .u64 0) (nI .u64 1) H = .val (nI .u64 18446744073709551615) H := fun H => rfl
  have i64 : ∀ G, intV .u64 (nI .i64 64) G = .val (nI .u64 64) G := fun _ => rfl
  simp (maxSteps := 4000000) (disch := first | assumption | omega | (simp -implicitDefEqProofs only [SideG, SideL] <;> first | assumption | omega) | decide) only [d0, m1, es, i64, hH1, shlV_mu64, idxStr_at, cmpV_ge, cmpV_le, cmpV_lt, cmpV_gt, eqV_eq, eqV_ne, eqS_eq, eqS_ne, subV_i, addV_i, lenSV_str, slStr_drop, idxSV_slice, Nat.zero_add, Nat.add_zero, oStr_at, Nat.reduceSub, Nat.reduceAdd, Nat.reduceLeDiff, Nat.zero_le, Nat.lt_irrefl, Nat.not_lt_zero, Nat.reduceEqDiff, decide_true, decide_false, c101, RunG, N8G, CoreG, CoreL, freeK_at, readK_at, freeN_at, Nat.reducePow, Nat.reduceDiv, Nat.reduceMod, Nat.reduceEqDiff, reduceCtorEq, TB0, TB1, TB2, TB3, TB5]
  generalize hL : loopN (c101_l0 _) fuel _ _ _ = L
  obtain ⟨o, tm1, H2, rfl, _, rfl, z⟩ := after_rule (P := fun T => PU H1 H.nx s s.length T H1) (Q := PQ H1 s)
    (fun T hi => loop_rule (PU H1 H.nx s) (PQ H1 s) (fun m tm H' h => pu_step E hl gb _ ⟨_, _, _, rfl⟩ _ m tm H' h) fuel s.length T H1 (by have := E.big; omega) hi) hL
    (by exact ⟨rfl, rfl, rfl, rfl, rfl, rfl, rfl, rfl, 0, by omega, rfl, rfl, by rw [List.take_zero]; decide⟩)
  rcases z with ⟨rfl, z6, z7, hu⟩ | ⟨rfl, z12, z13, hu⟩
  · simp only [gtr6, gtr7] at z6 z7
    refine ⟨_, H2, .inr ⟨rfl, hu⟩, ?_, k1⟩
    simp (maxSteps := 4000000) (disch := first | assumption | omega | (simp -implicitDefEqProofs only [SideG, SideL] <;> first | assumption | omega) | decide) only [z6, z7, idxStr_at, cmpV_ge, cmpV_le, cmpV_lt, cmpV_gt, eqV_eq, eqV_ne, eqS_eq, eqS_ne, subV_i, addV_i, lenSV_str, slStr_drop, idxSV_slice, Nat.zero_add, Nat.add_zero, oStr_at, Nat.reduceSub, Nat.reduceAdd, Nat.reduceLeDiff, Nat.zero_le, Nat.lt_irrefl, Nat.not_lt_zero, Nat.reduceEqDiff, decide_true, decide_false, c101, RunG, N8G, CoreG, CoreL, freeK_at, readK_at, freeN_at, Nat.reducePow, Nat.reduceDiv, Nat.reduceMod, Nat.reduceEqDiff, reduceCtorEq, TB0, TB1, TB2, TB3, TB5]
  · simp only [gtr12, gtr13] at z12 z13
    refine ⟨_, H2, .inl ⟨rfl, hu⟩, ?_, k1⟩
    simp (maxSteps := 4000000) (disch := first | assumption | omega | (simp -implicitDefEqProofs only [SideG, SideL] <;> first | assumption | omega) | decide) only [z12, z13, idxStr_at, cmpV_ge, cmpV_le, cmpV_lt, cmpV_gt, eqV_eq, eqV_ne, eqS_eq, eqS_ne, subV_i, addV_i, lenSV_str, slStr_drop, idxSV_slice, Nat.zero_add, Nat.add_zero, oStr_at, Nat.reduceSub, Nat.reduceAdd, Nat.reduceLeDiff, Nat.zero_le, Nat.lt_irrefl, Nat.not_lt_zero, Nat.reduceEqDiff, decide_true, decide_false, c101, RunG, N8G, CoreG, CoreL, freeK_at, readK_at, freeN_at, Nat.reducePow, Nat.reduceDiv, Nat.reduceMod, Nat.reduceEqDiff, reduceCtorEq, TB0, TB1, TB2, TB3, TB5]
theorem puR_low {s : List UInt8} {v : AV} (h : puR s v) : lowV 0 v = true := by rcases h with ⟨rfl, _⟩ | ⟨rfl, _⟩ <;> rfl
theorem parseUint {lib0 : Lib} {fs : T CF} {fuel : Nat} {B : Heap → Prop} (E : Env lib0 fs fuel B) {s : List UInt8} {H : Heap} (hne : s ≠ []) (hl : s.length ≤ 16) :
    ∃ v, puR s v ∧ ∀ k n, 2 ≤ k → callN (LK lib0 fs fuel k) fs fuel (n + 1) 101 [.str s, nI .i64 16, nI .i64 64] H = .ret v H := by
  obtain ⟨v, H', h, e, g⟩ := parseUint_run E (n := 898) (H := H) hne hl
  exact ⟨v, h, fun k n hk => keep_hit (r := 1) rfl rfl e g (puR_low h) hk⟩

theorem Cells.all {r : Row} {l vs : List AV} (h : Cells r l) (hv : vs.length = l.length) : Cells (r.setCells (storeN r.cells 0 vs)) vs := by
  have := h.store (o := 0) (vs := vs) (by omega)
  rw [List.take_zero, Nat.zero_add, hv, List.drop_length, List.append_nil, List.nil_append] at this
  exact this
def mkSV (e sz bytes : Nat) (zs : List AV) (l c : AV) (H : Heap) : OR := onNat l fun l => onNat c fun c => onIf (Nat.ble 1 sz) <| onIf (Nat.ble l c) (onIf (Nat.ble c 140737488355328) <| onIf (Nat.ble (Nat.mul c bytes) 140737488355328) (mkRow H e sz l c zs))
theorem oMkSlice_at (e sz bytes : Nat) (zs : List AV) (l c : EvF) (tm : TM) (H : Heap) : oMkSlice e sz bytes zs l c tm H = mkSV e sz bytes zs (l tm) (c tm) H := rfl
/-- a row of zeros -/
def rZ (e n : Nat) (v : AV) : Row := ⟨e, 1, n, .leaf, v, 0, false, true, true⟩
theorem mkSV_bytes {n : Nat} (h : n ≤ 140737488355328) (k j : IntKind) (e : Nat) (v : AV) (H : Heap) : mkSV e 1 1 [v] (nI k n) (nI j n) H = .val (.slice H.nx 0 n none) (H.new (.row (rZ e n v))) := by
  show onIf (Nat.ble 1 1) (onIf (Nat.ble n n) (onIf (Nat.ble n 140737488355328) (onIf (Nat.ble (n * 1) 140737488355328) (onIf (Nat.beq 1 1) _)))) = _
  rw [Nat.ble_eq_true_of_le (Nat.le_refl n), Nat.mul_one, Nat.ble_eq_true_of_le h]; rfl
theorem copyV_str {H : Heap} {b : Nat} {r : Row} {s : List UInt8} {c : Option Nat} (h0 : s ≠ []) (hr : H.t.get b = some (.row r)) (hs : r.size = s.length) (how : r.own = true) (hro : H.ro ≤ b) (hfz : r.fz = 0) :
    copyV 1 (.slice b 0 s.length c) (.str s) H = .val (nI .i64 s.length) (H.put b (.row (r.setCells (storeN r.cells 0 (s.map u8V))))) := by
  have hp := List.length_pos_iff.2 h0
  have hm : mapB (takeB s.length s) = s.map u8V := by rw [takeB_eq, List.take_length, mapB_eq]; rfl
  have e : minN s.length s.length = s.length := by unfold minN; rw [Nat.ble_eq_true_of_le (Nat.le_refl _)]; rfl
  show forceN (minN s.length (lenL s)) (fun n => contents H 1 (.str s) n fun new => cond (Nat.beq n 0) (.val (.int .i64 0) H) (onRow H b fun r => onIf (H.may r b) (onIf (Nat.ble r.fz 0) (onIf (Nat.ble (0 + n * 1) r.size) (.val (.int .i64 (.ofNat n)) (H.put b (.row (r.setCells (storeN r.cells 0 new)))))))) ) = _
  have e2 : Nat.beq s.length 0 = false := by rw [beq_nat]; exact decide_eq_false (by omega)
  have h1 : H.may r b = true := by unfold Heap.may; rw [how, Nat.ble_eq_true_of_le hro]; rfl
  rw [forceN_eq, lenL_eq, e]
  unfold contents
  rw [e2]
  simp only [cond_false]
  show onRow H b (fun r => onIf (H.may r b) (onIf (Nat.ble r.fz 0) (onIf (Nat.ble (0 + s.length * 1) r.size) (.val (nI .i64 s.length) (H.put b (.row (r.setCells (storeN r.cells 0 (mapB (takeB s.length s))))))))) ) = _
  unfold onRow
  rw [hr]
  show onIf (H.may r b) (onIf (Nat.ble r.fz 0) (onIf (Nat.ble (0 + s.length * 1) r.size) (.val (nI .i64 s.length) (H.put b (.row (r.setCells (storeN r.cells 0 (mapB (takeB s.length s)))))) ))) = _
  rw [h1, hfz, hs, hm, Nat.mul_one, Nat.zero_add, Nat.ble_eq_true_of_le (Nat.le_refl s.length)]; rfl
theorem uStrV_row {H : Heap} {b : Nat} {r : Row} {s : List UInt8} (h0 : s ≠ []) (hl : s.length ≤ 140737488355328) (hr : H.t.get b = some (.row r)) (hc : Cells r (s.map u8V)) (he : r.elem = 5) (hsm : r.sm = false) (how : r.own = true) (hro : H.ro ≤ b) (k : IntKind) :
    ∃ r', uStrV 5 (.ptr b 0) (nI k s.length) H = .val (.str s) (H.put b (.row r')) := by
  have hp := List.length_pos_iff.2 h0
  have hsz : r.size = s.length := by rw [hc.size, List.length_map]
  refine ⟨⟨r.elem, r.sz, r.size, r.cells, r.dflt, cond (Nat.ble r.fz (Nat.add 0 s.length)) (Nat.add 0 s.length) r.fz, r.sm, r.own, r.exact⟩, ?_⟩
  · show cond (Nat.beq s.length 0) _ (onIf (Nat.ble s.length 140737488355328) (onRow H b _)) = _
    rw [beq_nat, decide_eq_false (by omega), Nat.ble_eq_true_of_le hl]
    unfold onRow
    rw [hr]
    show onIf (Nat.beq r.elem 5) (onIf (cond r.sm false (H.may r b)) (onIf (Nat.ble (0 + s.length) r.size) (toBytes _ (loadN r 0 s.length)))) = _
    have hmay : H.may r b = true := by unfold Heap.may; rw [how, Nat.ble_eq_true_of_le hro]; rfl
    rw [he, hsm, hmay, Nat.ble_eq_true_of_le (by omega), hc.load (by rw [List.length_map]; omega), List.drop_zero, List.take_of_length_le (by rw [List.length_map]; exact Nat.le_refl _), toBytes_u8]
    rfl

theorem eqc11 : eqC Go.Proofs.Tryz.prog (eqT Go.Proofs.Tryz.prog 9) 181 (nI .i64 1) (nI .i64 1) = some true := by kernel_rfl
theorem eqc12 : eqC Go.Proofs.Tryz.prog (eqT Go.Proofs.Tryz.prog 9) 181 (nI .i64 1) (nI .i64 2) = some false := by kernel_rfl
theorem eqc21 : eqC Go.Proofs.Tryz.prog (eqT Go.Proofs.Tryz.prog 9) 181 (nI .i64 2) (nI .i64 1) = some false := by kernel_rfl
theorem eqc22 : eqC Go.Proofs.Tryz.prog (eqT Go.Proofs.Tryz.prog 9) 181 (nI .i64 2) (nI .i64 2) = some true := by kernel_rfl
/-- a number's digits -/
def good (s : List UInt8) : Prop := (∀ i, i < s.length → okd (s.getD i 0).toNat) ∧ hval s < 9223372036854775808
def piR (s : List UInt8) (v : AV) : Prop := (∃ z : Int, v = .tup [.int .i64 z, .nili] ∧ (good s → z = hval s)) ∨ (∃ (z : Int) (k : Nat), v = .tup [.int .i64 z, errV k] ∧ (k = 1 ∨ k = 2) ∧ ¬ good s)
theorem piR_low {s : List UInt8} {v : AV} (h : piR s v) : lowV 0 v = true := by rcases h with ⟨_, rfl, _⟩ | ⟨_, _, rfl, _⟩ <;> rfl
theorem okd43 : ¬ okd 43 := by unfold okd; decide
theorem okd45 : ¬ okd 45 := by unfold okd; decide
theorem neg_is (u : Nat) : ∃ z : Int, ∀ G, negV (nI .i64 u) G = .val (.int .i64 z) G := ⟨IntKind.i64.wrap (isub 0 (.ofNat u)), fun G => by
  show valI .i64 (isub 0 (.ofNat u)) G = _
  rw [valI_run]⟩
theorem p16 {n : Nat} (h : n ≤ 15) {a : Nat} (ha : a < 16 ^ n) : a < 1152921504606846976 := Nat.lt_of_lt_of_le ha (Nat.pow_le_pow_right (n := 16) (by decide) h)
theorem parseInt_run {lib0 : Lib} {fs : T CF} {fuel : Nat} {B : Heap → Prop} (E : Env lib0 fs fuel B) {n : Nat} {s : List UInt8} {H : Heap} (hl : s.length = 16) :
    ∃ v, piR s v ∧ callN (LK lib0 fs fuel 2) fs fuel (n + 2) 58 [.str s, nI .i64 16, nI .i64 64] H = .ret v H := by
  rw [callN_fn (libK_none E.n58 (.inl (by decide)) _ _) E.f58]
  have hne : s ≠ [] := by intro e; subst e; simp at hl
  have d0 : decide (s = []) = false := decide_eq_false hne
  have hp : 0 < s.length := by omega
  have m1 : (1 * 2 ^ 63) % 18446744073709551616 = 9223372036854775808 := rfl
  have i63 : ∀ G, intV .u64 (nI .i64 63) G = .val (nI .u64 63) G := fun _ => rfl
  have hx : (s.getD 0 0).toNat = (s.getD 0 0).toNat := rfl
  have hd : (s.drop 1).length = 15 := by rw [List.length_drop, hl]
  have hdne : s.drop 1 ≠ [] := by intro e; rw [e] at hd; simp at hd
  have h1l : 1 ≤ s.length := by omega
  have i9 : ∀ u, u < 9223372036854775808 → ∀ G, intV .i64 (nI .u64 u) G = .val (nI .i64 u) G := fun u h G => intV_i64 h G
  unfold errV at *
  by_cases h43 : (s.getD 0 0).toNat = 43
  · have ng : ¬ good s := fun h => okd43 (by rw [← h43]; exact h.1 0 hp)
    obtain ⟨v, hv, ev⟩ := parseUint E (H := H) hdne (by omega)
    have ep := fun {j} => ev 2 j (by decide)
    rcases hv with ⟨rfl, hu⟩ | ⟨rfl, _⟩
    · rw [hd] at hu
      have hu2 := p16 (by decide) hu
      have d3 : decide (9223372036854775808 ≤ hval (s.drop 1)) = false := decide_eq_false (by omega)
      have i5 := i9 (hval (s.drop 1)) (by omega)
      refine ⟨_, .inl ⟨.ofNat (hval (s.drop 1)), rfl, fun h => absurd h ng⟩, ?_⟩
      simp (maxSteps := 4000000) (disch := first | assumption | omega | (simp -implicitDefEqProofs only [SideG, SideL] <;> first | assumption | omega) | decide) only [h43, d3, i5, ep, eqc11, eqc12, eqc21, eqc22, m1, i63, d0, shlV_mu64, subV_u64, intV_u64, errV, idxStr_at, cmpV_ge, cmpV_le, cmpV_lt, cmpV_gt, eqV_eq, eqV_ne, eqS_eq, eqS_ne, subV_i, addV_i, lenSV_str, slStr_drop, idxSV_slice, Nat.zero_add, Nat.add_zero, oStr_at, Nat.reduceSub, Nat.reduceAdd, Nat.reduceLeDiff, Nat.zero_le, Nat.lt_irrefl, Nat.not_lt_zero, Nat.reduceEqDiff, decide_true, decide_false, c58, RunG, N8G, CoreG, CoreL, freeK_at, readK_at, freeN_at, Nat.reducePow, Nat.reduceDiv, Nat.reduceMod, Nat.reduceEqDiff, reduceCtorEq, TB0, TB1, TB2]
      all_goals rfl
    · refine ⟨_, .inr ⟨.ofNat 0, 2, rfl, .inr rfl, ng⟩, ?_⟩
      simp (maxSteps := 4000000) (disch := first | assumption | omega | (simp -implicitDefEqProofs only [SideG, SideL] <;> first | assumption | omega) | decide) only [h43, ep, eqc11, eqc12, eqc21, eqc22, m1, i63, d0, shlV_mu64, subV_u64, intV_u64, errV, idxStr_at, cmpV_ge, cmpV_le, cmpV_lt, cmpV_gt, eqV_eq, eqV_ne, eqS_eq, eqS_ne, subV_i, addV_i, lenSV_str, slStr_drop, idxSV_slice, Nat.zero_add, Nat.add_zero, oStr_at, Nat.reduceSub, Nat.reduceAdd, Nat.reduceLeDiff, Nat.zero_le, Nat.lt_irrefl, Nat.not_lt_zero, Nat.reduceEqDiff, decide_true, decide_false, c58, RunG, N8G, CoreG, CoreL, freeK_at, readK_at, freeN_at, Nat.reducePow, Nat.reduceDiv, Nat.reduceMod, Nat.reduceEqDiff, reduceCtorEq, TB0, TB1, TB2]
      all_goals rfl
  by_cases h45 : (s.getD 0 0).toNat = 45
  · have ng : ¬ good s := fun h => okd45 (by rw [← h45]; exact h.1 0 hp)
    obtain ⟨v, hv, ev⟩ := parseUint E (H := H) hdne (by omega)
    have ep := fun {j} => ev 2 j (by decide)
    rcases hv with ⟨rfl, hu⟩ | ⟨rfl, _⟩
    · rw [hd] at hu
      have hu2 := p16 (by decide) hu
      have d3 : decide (9223372036854775808 < hval (s.drop 1)) = false := decide_eq_false (by omega)
      have i5 := i9 (hval (s.drop 1)) (by omega)
      obtain ⟨z, en⟩ := neg_is (hval (s.drop 1))
      refine ⟨_, .inl ⟨z, rfl, fun h => absurd h ng⟩, ?_⟩
      simp (maxSteps := 4000000) (disch := first | assumption | omega | (simp -implicitDefEqProofs only [SideG, SideL] <;> first | assumption | omega) | decide) only [h45, d3, i5, en, ep, eqc11, eqc12, eqc21, eqc22, m1, i63, d0, shlV_mu64, subV_u64, intV_u64, errV, idxStr_at, cmpV_ge, cmpV_le, cmpV_lt, cmpV_gt, eqV_eq, eqV_ne, eqS_eq, eqS_ne, subV_i, addV_i, lenSV_str, slStr_drop, idxSV_slice, Nat.zero_add, Nat.add_zero, oStr_at, Nat.reduceSub, Nat.reduceAdd, Nat.reduceLeDiff, Nat.zero_le, Nat.lt_irrefl, Nat.not_lt_zero, Nat.reduceEqDiff, decide_true, decide_false, c58, RunG, N8G, CoreG, CoreL, freeK_at, readK_at, freeN_at, Nat.reducePow, Nat.reduceDiv, Nat.reduceMod, Nat.reduceEqDiff, reduceCtorEq, TB0, TB1, TB2]
      all_goals rfl
    · refine ⟨_, .inr ⟨.ofNat 0, 2, rfl, .inr rfl, ng⟩, ?_⟩
      simp (maxSteps := 4000000) (disch := first | assumption | omega | (simp -implicitDefEqProofs only [SideG, SideL] <;> first | assumption | omega) | decide) only [h45, ep, eqc11, eqc12, eqc21, eqc22, m1, i63, d0, shlV_mu64, subV_u64, intV_u64, errV, idxStr_at, cmpV_ge, cmpV_le, cmpV_lt, cmpV_gt, eqV_eq, eqV_ne, eqS_eq, eqS_ne, subV_i, addV_i, lenSV_str, slStr_drop, idxSV_slice, Nat.zero_add, Nat.add_zero, oStr_at, Nat.reduceSub, Nat.reduceAdd, Nat.reduceLeDiff, Nat.zero_le, Nat.lt_irrefl, Nat.not_lt_zero, Nat.reduceEqDiff, decide_true, decide_false, c58, RunG, N8G, CoreG, CoreL, freeK_at, readK_at, freeN_at, Nat.reducePow, Nat.reduceDiv, Nat.reduceMod, Nat.reduceEqDiff, reduceCtorEq, TB0, TB1, TB2]
      all_goals rfl
  have d43 : decide ((s.getD 0 0).toNat = 43) = false := decide_eq_false h43
  have d45 : decide ((s.getD 0 0).toNat = 45) = false := decide_eq_false h45
  obtain ⟨v, hv, ev⟩ := parseUint E (H := H) hne (by omega)
  have ep := fun {j} => ev 2 j (by decide)
  rcases hv with ⟨rfl, hu⟩ | ⟨rfl, i, hi, hb⟩
  · by_cases h63 : hval s < 9223372036854775808
    · have d3 : decide (9223372036854775808 ≤ hval s) = false := decide_eq_false (by omega)
      have i5 := i9 (hval s) h63
      refine ⟨_, .inl ⟨.ofNat (hval s), rfl, fun _ => rfl⟩, ?_⟩
      simp (maxSteps := 4000000) (disch := first | assumption | omega | (simp -implicitDefEqProofs only [SideG, SideL] <;> first | assumption | omega) | decide) only [d43, d45, d3, i5, ep, eqc11, eqc12, eqc21, eqc22, m1, i63, d0, shlV_mu64, subV_u64, intV_u64, errV, idxStr_at, cmpV_ge, cmpV_le, cmpV_lt, cmpV_gt, eqV_eq, eqV_ne, eqS_eq, eqS_ne, subV_i, addV_i, lenSV_str, slStr_drop, idxSV_slice, Nat.zero_add, Nat.add_zero, oStr_at, Nat.reduceSub, Nat.reduceAdd, Nat.reduceLeDiff, Nat.zero_le, Nat.lt_irrefl, Nat.not_lt_zero, Nat.reduceEqDiff, decide_true, decide_false, c58, RunG, N8G, CoreG, CoreL, freeK_at, readK_at, freeN_at, Nat.reducePow, Nat.reduceDiv, Nat.reduceMod, Nat.reduceEqDiff, reduceCtorEq, TB0, TB1, TB2]
      all_goals rfl
    · have d3 : decide (9223372036854775808 ≤ hval s) = true := decide_eq_true (by omega)
      have i6 : ∀ G, intV .i64 (nI .u64 9223372036854775807) G = .val (nI .i64 9223372036854775807) G := fun _ => rfl
      refine ⟨_, .inr ⟨.ofNat 9223372036854775807, 1, rfl, .inl rfl, fun h => h63 h.2⟩, ?_⟩
      simp (maxSteps := 4000000) (disch := first | assumption | omega | (simp -implicitDefEqProofs only [SideG, SideL] <;> first | assumption | omega) | decide) only [d43, d45, d3, i6, ep, eqc11, eqc12, eqc21, eqc22, m1, i63, d0, shlV_mu64, subV_u64, intV_u64, errV, idxStr_at, cmpV_ge, cmpV_le, cmpV_lt, cmpV_gt, eqV_eq, eqV_ne, eqS_eq, eqS_ne, subV_i, addV_i, lenSV_str, slStr_drop, idxSV_slice, Nat.zero_add, Nat.add_zero, oStr_at, Nat.reduceSub, Nat.reduceAdd, Nat.reduceLeDiff, Nat.zero_le, Nat.lt_irrefl, Nat.not_lt_zero, Nat.reduceEqDiff, decide_true, decide_false, c58, RunG, N8G, CoreG, CoreL, freeK_at, readK_at, freeN_at, Nat.reducePow, Nat.reduceDiv, Nat.reduceMod, Nat.reduceEqDiff, reduceCtorEq, TB0, TB1, TB2]
      all_goals rfl
  · refine ⟨_, .inr ⟨.ofNat 0, 2, rfl, .inr rfl, fun h => hb (h.1 i hi)⟩, ?_⟩
    simp (maxSteps := 4000000) (disch := first | assumption | omega | (simp -implicitDefEqProofs only [SideG, SideL] <;> first | assumption | omega) | decide) only [d43, d45, ep, eqc11, eqc12, eqc21, eqc22, m1, i63, d0, shlV_mu64, subV_u64, intV_u64, errV, idxStr_at, cmpV_ge, cmpV_le, cmpV_lt, cmpV_gt, eqV_eq, eqV_ne, eqS_eq, eqS_ne, subV_i, addV_i, lenSV_str, slStr_drop, idxSV_slice, Nat.zero_add, Nat.add_zero, oStr_at, Nat.reduceSub, Nat.reduceAdd, Nat.reduceLeDiff, Nat.zero_le, Nat.lt_irrefl, Nat.not_lt_zero, Nat.reduceEqDiff, decide_true, decide_false, c58, RunG, N8G, CoreG, CoreL, freeK_at, readK_at, freeN_at, Nat.reducePow, Nat.reduceDiv, Nat.reduceMod, Nat.reduceEqDiff, reduceCtorEq, TB0, TB1, TB2]
    all_goals rfl
theorem parseInt {lib0 : Lib} {fs : T CF} {fuel : Nat} {B : Heap → Prop} (E : Env lib0 fs fuel B) {s : List UInt8} {H : Heap} (hl : s.length = 16) :
    ∃ v, piR s v ∧ ∀ k n, 3 ≤ k → callN (LK lib0 fs fuel k) fs fuel (n + 1) 58 [.str s, nI .i64 16, nI .i64 64] H = .ret v H := by
  obtain ⟨v, h, e⟩ := parseInt_run E (n := 898) (H := H) hl
  exact ⟨v, h, fun k n hk => keep_hit (r := 2) rfl rfl e (Keep.refl _ _) (piR_low h) hk⟩

theorem cloneS_run {lib0 : Lib} {fs : T CF} {fuel : Nat} {B : Heap → Prop} (E : Env lib0 fs fuel B) {n : Nat} {s : List UInt8} {H : Heap} (hne : s ≠ []) (hl : s.length < 100000) (hro : H.ro ≤ H.nx) :
    ∃ H', callN (LK lib0 fs fuel 0) fs fuel (n + 2) 154 [.str s] H = .ret (.str s) H' ∧ Keep H H' [] := by
  rw [callN_fn (libK_none E.n154 (.inl (by decide)) _ _) E.f154]
  have hp := List.length_pos_iff.2 hne
  have d0 : decide (s.length = 0) = false := decide_eq_false (by omega)
  obtain ⟨H1, hH1⟩ : ∃ H1, H.new (.row (rZ 5 s.length (nI .u8 0))) = H1 := ⟨_, rfl⟩
  have k1 : Keep H H1 [] := by rw [← hH1]; exact Keep.new H _ []
  have nx1 : H1.nx = H.nx + 1 := by rw [← hH1]; rfl
  have ro1 : H1.ro = H.ro := by rw [← hH1]; rfl
  have ga : H1.t.get H.nx = some (.row (rZ 5 s.length (nI .u8 0))) := by rw [← hH1, get_new_eq rfl]
  have cz : Cells (rZ 5 s.length (nI .u8 0)) (List.replicate s.length (nI .u8 0)) := Cells.zero ..
  have cp := copyV_str (c := none) hne ga rfl rfl (by rw [ro1]; exact hro) rfl
  generalize hr2 : (rZ 5 s.length (nI .u8 0)).setCells (storeN (rZ 5 s.length (nI .u8 0)).cells 0 (s.map u8V)) = r2 at cp
  have c2 : Cells r2 (s.map u8V) := by rw [← hr2]; exact cz.all (by simp)
  obtain ⟨r3, us⟩ := uStrV_row (H := H1.put H.nx (.row r2)) hne (by omega) (get_put_eq ..) c2 (by rw [← hr2]; rfl) (by rw [← hr2]; rfl) (by rw [← hr2]; rfl) (by rw [put_ro, ro1]; exact hro) .i64
  simp (disch := first | assumption | omega | (simp -implicitDefEqProofs only [SideG, SideL] <;> first | assumption | omega) | decide) only [d0, hH1, nx1, cp, us, eqV_eq, lenSV_str, oMkSlice_at, mkSV_bytes, idxSV_slice, Nat.add_zero, c154, RunG, N8G, CoreG, CoreL, freeK_at, readK_at, freeN_at, Nat.reduceEqDiff, reduceCtorEq, TB0]
  refine ⟨_, rfl, ?_⟩
  exact k1.then_put fun h => absurd h (Nat.lt_irrefl _)
theorem cloneS {lib0 : Lib} {fs : T CF} {fuel : Nat} {B : Heap → Prop} (E : Env lib0 fs fuel B) {k n : Nat} (hk : 1 ≤ k) {s : List UInt8} {H : Heap} (hne : s ≠ []) (hl : s.length < 100000) (hro : H.ro ≤ H.nx) :
    callN (LK lib0 fs fuel k) fs fuel (n + 1) 154 [.str s] H = .ret (.str s) H := by
  obtain ⟨H', e, g⟩ := cloneS_run E (n := 898) (H := H) hne hl hro
  exact keep_hit (r := 0) rfl rfl e g (rfl) hk
theorem syntaxErr_run {lib0 : Lib} {fs : T CF} {fuel : Nat} {B : Heap → Prop} (E : Env lib0 fs fuel B) {k n : Nat} (hk : 1 ≤ k) {f s : List UInt8} {H : Heap} (hB : B H) (hro : H.ro ≤ H.nx) (hne : s ≠ []) (hl : s.length < 100000) :
    ∃ H', callN (LK lib0 fs fuel k) fs fuel (n + 2) 102 [.str f, .str s] H = .ret (.ptr H.nx 0) H' ∧ Keep H H' [] ∧ H.nx < H'.nx := by
  have nn : libK lib0 fs fuel rank spec k 102 [.str f, .str s] H = none := libK_none E.n102 (.inr rfl) _ _
  rw [callN_fn nn E.f102]
  obtain ⟨r, et, p, gr, hs, hv, hp⟩ := E.er4 H hB
  have hs : 0 < r.size := hs
  have h100 := E.nx H hB
  have ec := fun {j} => cloneS (lib0 := lib0) (fs := fs) (fuel := fuel) E (k := k) (n := j) hk (H := H) hne hl hro
  have iv := fun (n : Nat) (t : T Obj) => isSame_val (.iface et (.ptr p 0)) n t (by unfold same; rw [Nat.beq_refl]; unfold same; rw [Nat.beq_refl, Nat.beq_refl]; rfl)
  have lv : lowV H.nx (.ptr p 0) = true := lowV_ptr (by omega) 0
  simp (disch := first | assumption | omega | (simp -implicitDefEqProofs only [SideG, SideL] <;> first | assumption | omega) | decide) only [ec, gr, ld1_row, hv, iv, lv, boxW_agg, c102, RunG, N8G, CoreG, CoreL, freeK_at, readK_at, freeN_at, Nat.reducePow, Nat.reduceDiv, Nat.reduceMod, Nat.reduceEqDiff, reduceCtorEq, TB0]
  refine ⟨_, rfl, Keep.new H _ [], Nat.lt_succ_self _⟩
theorem rangeErr_run {lib0 : Lib} {fs : T CF} {fuel : Nat} {B : Heap → Prop} (E : Env lib0 fs fuel B) {k n : Nat} (hk : 1 ≤ k) {f s : List UInt8} {H : Heap} (hB : B H) (hro : H.ro ≤ H.nx) (hne : s ≠ []) (hl : s.length < 100000) :
    ∃ H', callN (LK lib0 fs fuel k) fs fuel (n + 2) 103 [.str f, .str s] H = .ret (.ptr H.nx 0) H' ∧ Keep H H' [] ∧ H.nx < H'.nx := by
  have nn : libK lib0 fs fuel rank spec k 103 [.str f, .str s] H = none := libK_none E.n103 (.inr rfl) _ _
  rw [callN_fn nn E.f103]
  obtain ⟨r, et, p, gr, hs, hv, hp⟩ := E.er5 H hB
  have hs : 0 < r.size := hs
  have h100 := E.nx H hB
  have ec := fun {j} => cloneS (lib0 := lib0) (fs := fs) (fuel := fuel) E (k := k) (n := j) hk (H := H) hne hl hro
  have iv := fun (n : Nat) (t : T Obj) => isSame_val (.iface et (.ptr p 0)) n t (by unfold same; rw [Nat.beq_refl]; unfold same; rw [Nat.beq_refl, Nat.beq_refl]; rfl)
  have lv : lowV H.nx (.ptr p 0) = true := lowV_ptr (by omega) 0
  simp (disch := first | assumption | omega | (simp -implicitDefEqProofs only [SideG, SideL] <;> first | assumption | omega) | decide) only [ec, gr, ld1_row, hv, iv, lv, boxW_agg, c103, RunG, N8G, CoreG, CoreL, freeK_at, readK_at, freeN_at, Nat.reducePow, Nat.reduceDiv, Nat.reduceMod, Nat.reduceEqDiff, reduceCtorEq, TB0]
  refine ⟨_, rfl, Keep.new H _ [], Nat.lt_succ_self _⟩
theorem toErr_run {lib0 : Lib} {fs : T CF} {fuel : Nat} {B : Heap → Prop} (E : Env lib0 fs fuel B) {k n e : Nat} (hk : 1 ≤ k) (he : e = 1 ∨ e = 2) {f s : List UInt8} {a b : AV} {H : Heap} (hB : B H) (hro : H.ro ≤ H.nx) (hne : s ≠ []) (hl : s.length < 100000) :
    ∃ H', callN (LK lib0 fs fuel k) fs fuel (n + 3) 59 [.str f, .str s, a, b, errV e] H = .ret (.iface 184 (.ptr H.nx 0)) H' ∧ Keep H H' [] := by
  have nn : libK lib0 fs fuel rank spec k 59 [.str f, .str s, a, b, errV e] H = none := libK_none E.n59 (.inr rfl) _ _
  rw [callN_fn nn E.f59]
  obtain ⟨H1, e1, k1, _⟩ := syntaxErr_run E (n := n) hk (f := f) hB hro hne hl
  obtain ⟨H2, e2, k2, _⟩ := rangeErr_run E (n := n) hk (f := f) hB hro hne hl
  unfold errV
  rcases he with rfl | rfl
  · simp (disch := first | assumption | omega | (simp -implicitDefEqProofs only [SideG, SideL] <;> first | assumption | omega) | decide) only [argsT_5, eqc11, eqc12, e2, c59, RunG, N8G, CoreG, CoreL, freeK_at, readK_at, freeN_at, Nat.reduceEqDiff, reduceCtorEq, TB0, TB1]
    refine ⟨_, rfl, ?_⟩
    exact k2
  · simp (disch := first | assumption | omega | (simp -implicitDefEqProofs only [SideG, SideL] <;> first | assumption | omega) | decide) only [argsT_5, eqc22, e1, c59, RunG, N8G, CoreG, CoreL, freeK_at, readK_at, freeN_at, Nat.reduceEqDiff, reduceCtorEq, TB0, TB1]
    refine ⟨_, rfl, ?_⟩
    exact k1
def spR (s : List UInt8) (v : AV) : Prop := (∃ z : Int, v = .tup [.int .i64 z, .nili] ∧ (good s → z = hval s)) ∨ (∃ (z : Int) (t b : Nat), v = .tup [.int .i64 z, .iface t (.ptr b 0)] ∧ ¬ good s)
theorem sparse_run {lib0 : Lib} {fs : T CF} {fuel : Nat} {B : Heap → Prop} (E : Env lib0 fs fuel B) {k n : Nat} (hk : 3 ≤ k) {s : List UInt8} {H : Heap} (hB : B H) (hro : H.ro ≤ H.nx) (hl : s.length = 16) :
    ∃ v H', spR s v ∧ callN (LK lib0 fs fuel k) fs fuel (n + 4) 31 [.str s, nI .i64 16, nI .i64 64] H = .ret v H' ∧ Keep H H' [] := by
  have nn : libK lib0 fs fuel rank spec k 31 [.str s, nI .i64 16, nI .i64 64] H = none := libK_none E.n31 (.inr rfl) _ _
  rw [callN_fn nn E.f31]
  have hne : s ≠ [] := by intro e; subst e; simp at hl
  obtain ⟨v, hv, ev⟩ := parseInt E (H := H) hl
  have ep := fun {j} => ev k j hk
  rcases hv with ⟨z, rfl, hz⟩ | ⟨z, e, rfl, he, ng⟩
  · refine ⟨_, H, .inl ⟨z, rfl, hz⟩, ?_, Keep.refl _ _⟩
    simp (maxSteps := 4000000) (disch := first | assumption | omega | (simp -implicitDefEqProofs only [SideG, SideL] <;> first | assumption | omega) | decide) only [ep, c31, RunG, N8G, CoreG, CoreL, freeK_at, readK_at, freeN_at, Nat.reduceEqDiff, reduceCtorEq, TB0]
  · obtain ⟨H', et, kt⟩ := toErr_run E (n := n) (k := k) (by omega) he (f := [80, 97, 114, 115, 101, 73, 110, 116]) (s := s) (a := nI .i64 16) (b := nI .i64 64) hB hro hne (by omega)
    unfold errV at ep et
    refine ⟨_, H', .inr ⟨z, 184, H.nx, rfl, ng⟩, ?_, kt⟩
    simp (maxSteps := 4000000) (disch := first | assumption | omega | (simp -implicitDefEqProofs only [SideG, SideL] <;> first | assumption | omega) | decide) only [ep, et, c31, RunG, N8G, CoreG, CoreL, freeK_at, readK_at, freeN_at, Nat.reduceEqDiff, reduceCtorEq, TB0]

/-- the sixteen digits -/
def dg16 (n : Nat) : List UInt8 := List.replicate (16 - (hex n).length) 48 ++ hex n
def zd (n : Nat) : Nat → Nat := fun i => ((dg16 n).getD i 0).toNat
def footS (n : Nat) : List UInt8 := [80, 84, 22, 0] ++ List.replicate (16 - (hex n).length) 48 ++ hex n ++ [80, 79, 82, 84, 79, 76]
def footL (n : Nat) : List UInt8 := [31, 139, 8, 4, 0, 0, 0, 0, 0, 0, 26, 0] ++ ([80, 84, 22, 0] ++ dg16 n ++ [80, 79, 82, 84, 79, 76]) ++ [3, 0, 0, 0, 0, 0, 0, 0, 0, 0]
theorem hex_cases (n : Nat) (h : n < 4096) : (∃ a, a < 16 ∧ hex n = [hx a] ∧ n = a) ∨ (∃ a b, a < 16 ∧ b < 16 ∧ hex n = [hx a, hx b] ∧ n = a * 16 + b) ∨ (∃ a b d, a < 16 ∧ b < 16 ∧ d < 16 ∧ hex n = [hx a, hx b, hx d] ∧ n = (a * 16 + b) * 16 + d) := by
  unfold hex
  split
  · exact .inl ⟨n, by assumption, rfl, rfl⟩
  · split
    · exact .inr (.inl ⟨n / 16, n % 16, by omega, by omega, rfl, by omega⟩)
    · exact .inr (.inr ⟨n / 256, n / 16 % 16, n % 16, by omega, by omega, by omega, rfl, by omega⟩)
theorem footS_len {n : Nat} (h : n < 4096) : (footS n).length = 26 := by
  rcases hex_cases n h with ⟨a, _, e, _⟩ | ⟨a, b, _, _, e, _⟩ | ⟨a, b, d, _, _, _, e, _⟩ <;> (unfold footS; rw [e]; rfl)
theorem dg16_len {n : Nat} (h : n < 4096) : (dg16 n).length = 16 := by
  rcases hex_cases n h with ⟨a, _, e, _⟩ | ⟨a, b, _, _, e, _⟩ | ⟨a, b, d, _, _, _, e, _⟩ <;> (unfold dg16; rw [e]; rfl)
theorem footL_len {n : Nat} (h : n < 4096) : (footL n).length = 48 := by
  unfold footL; simp only [List.length_append, dg16_len h]; rfl
theorem footS_cells {n : Nat} (h : n < 4096) : (footS n).map u8V = cellsX (zd n) := by
  unfold zd
  rcases hex_cases n h with ⟨a, _, e, _⟩ | ⟨a, b, _, _, e, _⟩ | ⟨a, b, d, _, _, _, e, _⟩ <;> (unfold footS dg16; rw [e]; rfl)
theorem footL_cells {n : Nat} (h : n < 4096) : (footL n).map u8V = cellsF (zd n) := by
  unfold zd
  rcases hex_cases n h with ⟨a, _, e, _⟩ | ⟨a, b, _, _, e, _⟩ | ⟨a, b, d, _, _, _, e, _⟩ <;> (unfold footL dg16; rw [e]; rfl)
theorem dv_hx : ∀ d, d < 16 → dv (hx d).toNat = d := by decide
theorem dv_48 : dv (48 : UInt8).toNat = 0 := by decide
theorem hval_dg {n : Nat} (h : n < 4096) : hval (dg16 n) = n := by
  unfold dg16 hval
  rcases hex_cases n h with ⟨a, ha, e, hn⟩ | ⟨a, b, ha, hb, e, hn⟩ | ⟨a, b, d, ha, hb, hd, e, hn⟩ <;> rw [e]
  · rw [show List.replicate (16 - [hx a].length) (48 : UInt8) = List.replicate 15 48 from rfl]
    simp only [List.replicate, List.cons_append, List.nil_append, List.foldl_cons, List.foldl_nil, dv_48, dv_hx a ha]; omega
  · rw [show List.replicate (16 - [hx a, hx b].length) (48 : UInt8) = List.replicate 14 48 from rfl]
    simp only [List.replicate, List.cons_append, List.nil_append, List.foldl_cons, List.foldl_nil, dv_48, dv_hx a ha, dv_hx b hb]; omega
  · rw [show List.replicate (16 - [hx a, hx b, hx d].length) (48 : UInt8) = List.replicate 13 48 from rfl]
    simp only [List.replicate, List.cons_append, List.nil_append, List.foldl_cons, List.foldl_nil, dv_48, dv_hx a ha, dv_hx b hb, dv_hx d hd]; omega
theorem okd_hx : ∀ d, d < 16 → okd (hx d).toNat := by unfold okd; decide
theorem okd_48 : okd (48 : UInt8).toNat := by unfold okd; decide
theorem dg_good {n : Nat} (h : n < 4096) : good (dg16 n) := by
  refine ⟨fun i hi => ?_, by rw [hval_dg h]; omega⟩
  have hm : (dg16 n).getD i 0 ∈ dg16 n := by
    rw [List.getD_eq_getElem?_getD, List.getElem?_eq_getElem hi]; exact List.getElem_mem hi
  generalize (dg16 n).getD i 0 = x at hm
  unfold dg16 at hm
  rcases List.mem_append.1 hm with hm | hm
  · rw [List.eq_of_mem_replicate hm]; exact okd_48
  · rcases hex_cases n h with ⟨a, ha, e, _⟩ | ⟨a, b, ha, hb, e, _⟩ | ⟨a, b, d, ha, hb, hd, e, _⟩ <;> rw [e] at hm <;> simp only [List.mem_cons, List.not_mem_nil, or_false] at hm
    · subst hm; exact okd_hx _ ha
    · rcases hm with rfl | rfl
      · exact okd_hx _ ha
      · exact okd_hx _ hb
    · rcases hm with rfl | rfl | rfl
      · exact okd_hx _ ha
      · exact okd_hx _ hb
      · exact okd_hx _ hd
theorem dg_of {n : Nat} (h : n < 4096) : ((footL n).drop 16).take 16 = dg16 n := by
  rcases hex_cases n h with ⟨a, _, e, _⟩ | ⟨a, b, _, _, e, _⟩ | ⟨a, b, d, _, _, _, e, _⟩ <;> (unfold footL dg16; rw [e]; rfl)
theorem footL_inj {n m : Nat} (hn : n < 4096) (hm : m < 4096) (h : footL n = footL m) : n = m := by
  have this : hval (((footL n).drop 16).take 16) = hval (((footL m).drop 16).take 16) := by rw [h]
  rw [dg_of hn, dg_of hm, hval_dg hn, hval_dg hm] at this
  exact this
/-- the bytes but for the digits are always the same -/
theorem footL_same {n m k : Nat} (hn : n < 4096) (hm : m < 4096) (hk : k < 16 ∨ 32 ≤ k) : (footL n).getD k 0 = (footL m).getD k 0 := by
  have e : ∀ n, n < 4096 → (footL n).getD k 0 = ([31, 139, 8, 4, 0, 0, 0, 0, 0, 0, 26, 0, 80, 84, 22, 0] ++ List.replicate 16 0 ++ [80, 79, 82, 84, 79, 76, 3, 0, 0, 0, 0, 0, 0, 0, 0, 0] : List UInt8).getD k 0 := fun n hn => by
    have hd := dg16_len hn
    have hs : footL n = [31, 139, 8, 4, 0, 0, 0, 0, 0, 0, 26, 0, 80, 84, 22, 0] ++ dg16 n ++ [80, 79, 82, 84, 79, 76, 3, 0, 0, 0, 0, 0, 0, 0, 0, 0] := by
      unfold footL; simp only [List.append_assoc]; rfl
    rw [hs, List.getD_eq_getElem?_getD, List.getD_eq_getElem?_getD]
    rcases hk with hk | hk
    · rw [List.append_assoc, List.append_assoc, List.getElem?_append_left (by simpa using hk), List.getElem?_append_left (by simpa using hk)]
    · rw [List.getElem?_append_right (by rw [List.length_append, hd]; exact hk), List.getElem?_append_right (by rw [List.length_append, List.length_replicate]; exact hk)]
      rw [List.length_append, List.length_append, hd, List.length_replicate]
  rw [e n hn, e m hm]
theorem rowIs_rG {H : Heap} {b : Nat} {l : List AV} {fz : Nat} {sm own ex : Bool} (h : H.t.get b = some (rG 5 1 l fz sm own ex)) : RowIs H b l := by
  refine ⟨_, h, rfl, rfl, Nat.le_refl _, ?_⟩
  have hc : Cells ⟨5, 1, lenL l, T.ofList l, .unk, fz, sm, own, ex⟩ l := Cells.new ..
  have h2 := hc.load (o := 0) (n := l.length) (by omega)
  rw [List.drop_zero, List.take_length] at h2
  exact (congrArg (loadN _ 0) (lenL_eq l)).trans h2
theorem addS (a b : List UInt8) (h : a.length + b.length < 1000) (G : Heap) : addV (.str a) (.str b) G = .val (.str (a ++ b)) G := by
  show onIf (Nat.ble (lenL a + lenL b) 4611686018427387904) _ = _
  rw [lenL_eq, lenL_eq, Nat.ble_eq_true_of_le (by omega)]; rfl
theorem maxV_0 {z : Int} {n : Nat} (h : z.toNat = n) (G : Heap) : minV true [.int .i64 z, nI .i64 0] G = .val (nI .i64 n) G := by
  show onIf (kEq .i64 .i64) (min2 true .i64 (cond (cond true (ilt z (.ofNat 0)) (ilt (.ofNat 0) z)) (.ofNat 0) z) G []) = _
  rw [kEq_self]
  show OR.val (.int .i64 (cond (ilt z (.ofNat 0)) (.ofNat 0) z)) G = _
  subst h
  cases z with
  | ofNat a => rw [ilt_nat, decide_eq_false (Nat.not_lt_zero a)]; rfl
  | negSucc a => rfl
theorem foot_run {lib0 : Lib} {fs : T CF} {fuel : Nat} {B : Heap → Prop} (E : Env lib0 fs fuel B) {k n p : Nat} (hk : 3 ≤ k) {z : Int} {H : Heap} (hB : B H) (hro : H.ro ≤ H.nx) (hz : z.toNat = p) (hp : p < 4096) :
    callN (LK lib0 fs fuel k) fs fuel (n + 2) 11 [.int .i64 z] H = .ret (.slice (H.nx + 1) 0 48 none) ((H.new (rG 5 1 ((footS p).map u8V) 0 true true false)).new (rG 5 1 (cellsF (zd p)) 0 false true false)) := by
  have nn : libK lib0 fs fuel rank spec k 11 [.int .i64 z] H = none := libK_none E.n11 (.inr rfl) _ _
  rw [callN_fn nn E.f11]
  have hl := hex_len p hp
  have e1 := fun {j} => fmt16 (lib0 := lib0) (fs := fs) (fuel := fuel) E (k := k) (n := j) hk (H := H) hp hB hro
  have e2 : ∀ {j}, callN (LK lib0 fs fuel k) fs fuel (j + 1) 28 [.str [48], nI .i64 (16 - (hex p).length)] H = .ret (.str (List.replicate (16 - (hex p).length) 48)) H := fun {j} => base_hit rfl (E.rp H _ hB (by omega))
  have hm := fun G => maxV_0 hz G
  have a1 := fun G => addS [80, 84, 22, 0] (List.replicate (16 - (hex p).length) 48) (by simp only [List.length_replicate, List.length_cons, List.length_nil]; omega) G
  have a2 := fun G => addS ([80, 84, 22, 0] ++ List.replicate (16 - (hex p).length) 48) (hex p) (by simp only [List.length_append, List.length_replicate, List.length_cons, List.length_nil]; omega) G
  have a3 : ∀ G, addV (.str ([80, 84, 22, 0] ++ List.replicate (16 - (hex p).length) 48 ++ hex p)) (.str [80, 79, 82, 84, 79, 76]) G = .val (.str (footS p)) G := fun G => addS _ _ (by simp only [List.length_append, List.length_replicate, List.length_cons, List.length_nil]; omega) G
  have hlen := footS_len hp
  obtain ⟨H1, hH1⟩ : ∃ H1, H.new (rG 5 1 ((footS p).map u8V) 0 true true false) = H1 := ⟨_, rfl⟩
  have k1 : Keep H H1 [] := by rw [← hH1]; exact Keep.new H _ []
  have nx1 : H1.nx = H.nx + 1 := by rw [← hH1]; rfl
  have g1 : RowIs H1 H.nx (cellsX (zd p)) := by
    rw [← footS_cells hp]; exact rowIs_rG (by rw [← hH1, get_new_eq rfl])
  have e3 : ∀ {j}, callN (LK lib0 fs fuel k) fs fuel (j + 1) 29 [.agg [nI .u8 4, nI .u8 0, nI .u8 0, nI .u32 0, .slice H.nx 0 26 none, .str [], .str []], .nils] H1 = .ret (.tup [.slice (H.nx + 1) 0 48 none, nI .i64 0]) (H1.new (rG 5 1 (cellsF (zd p)) 0 false true false)) := fun {j} => by
    have := E.put H1 H.nx (zd p) (E.keep hB k1) g1
    rw [nx1] at this
    exact base_hit rfl this
  rw [hH1]
  have hsub : 16 - (hex p).length ≤ 16 := by omega
  have hle : (hex p).length ≤ 16 := by omega
  simp (maxSteps := 4000000) (disch := first | assumption | omega | (simp -implicitDefEqProofs only [SideG, SideL] <;> first | assumption | omega) | decide) only [e1, e2, e3, a1, a2, a3, hm, hlen, hH1, oMinMax_run, idxStr_at, cmpV_ge, cmpV_le, cmpV_lt, cmpV_gt, eqV_eq, eqV_ne, eqS_eq, eqS_ne, subV_i, addV_i, lenSV_str, slStr_drop, idxSV_slice, Nat.zero_add, Nat.add_zero, oStr_at, Nat.reduceSub, Nat.reduceAdd, Nat.reduceLeDiff, Nat.zero_le, Nat.lt_irrefl, Nat.not_lt_zero, Nat.reduceEqDiff, decide_true, decide_false, c11, RunG, N8G, CoreG, CoreL, freeK_at, readK_at, freeN_at, Nat.reduceEqDiff, reduceCtorEq, TB0]

theorem sliceV_lo {H : Heap} {b o len l : Nat} {r : Row} (hr : H.t.get b = some (.row r)) (hsz : r.sz = 1) (hlo : l < len) (hhi : o + len ≤ r.size) (k : IntKind) :
    sliceV 1 (.slice b o len none) (some (nI k l)) none H = .val (.slice b (o + l) (len - l) none) H := by
  have hc : len ≤ capOf r o none := by
    show len ≤ cond (Nat.beq r.sz 1) (r.size - o) _
    rw [hsz]; show len ≤ r.size - o; omega
  have hs : szOk r 1 none = true := by show Nat.beq r.sz 1 = true; rw [hsz]; rfl
  show onRow H b _ = _
  unfold onRow
  rw [hr]
  show onIf (szOk r 1 none) (onIf (Nat.ble l len) (onIf (Nat.ble l (capOf r o none)) (cond (Nat.beq l (capOf r o none)) _ _))) = _
  rw [hs, Nat.ble_eq_true_of_le (Nat.le_of_lt hlo), Nat.ble_eq_true_of_le (show l ≤ capOf r o none by omega), beq_nat, decide_eq_false (by omega)]
  show OR.val (.slice b (o + l * 1) (len - l) _) H = _
  rw [Nat.mul_one]
theorem geZ (z : Int) (L : Nat) (G : Heap) : cmpV igeF strGe (.int .i64 z) (nI .i64 L) G = .val (.bool (decide ((L : Int) ≤ z))) G := by
  show onIf (kEq .i64 .i64) (vBool (!ilt z (.ofNat L)) G) = _
  rw [kEq_self, vBool_run]
  cases z with
  | ofNat a =>
    rw [ilt_nat]
    show OR.val (.bool (!decide (a < L))) G = _
    congr 2
    by_cases h : a < L
    · rw [decide_eq_true h, decide_eq_false (by simp; omega)]; rfl
    · rw [decide_eq_false h, decide_eq_true (by simp; omega)]; rfl
  | negSucc a =>
    show OR.val (.bool false) G = _
    rw [decide_eq_false (by omega)]
theorem equal_run {lib0 : Lib} {fs : T CF} {fuel : Nat} {B : Heap → Prop} (E : Env lib0 fs fuel B) {k n : Nat} {a b : AV} {x y : List UInt8} {H : Heap} (ha : strW a H = .val (.str x) H) (hb : strW b H = .val (.str y) H) :
    callN (LK lib0 fs fuel k) fs fuel (n + 1) 32 [a, b] H = .ret (.bool (decide (x = y))) H := by
  have nn : libK lib0 fs fuel rank spec k 32 [a, b] H = none := libK_none E.n32 (.inr rfl) _ _
  rw [callN_fn nn E.f32]
  simp (maxSteps := 4000000) (disch := first | assumption | omega | (simp -implicitDefEqProofs only [SideG, SideL] <;> first | assumption | omega) | decide) only [ha, hb, idxStr_at, cmpV_ge, cmpV_le, cmpV_lt, cmpV_gt, eqV_eq, eqV_ne, eqS_eq, eqS_ne, subV_i, addV_i, lenSV_str, slStr_drop, idxSV_slice, Nat.zero_add, Nat.add_zero, oStr_at, Nat.reduceSub, Nat.reduceAdd, Nat.reduceLeDiff, Nat.zero_le, Nat.lt_irrefl, Nat.not_lt_zero, Nat.reduceEqDiff, decide_true, decide_false, c32, RunG, N8G, CoreG, CoreL, freeK_at, readK_at, freeN_at, Nat.reduceEqDiff, reduceCtorEq, TB0]
def FR (xs : List UInt8) (L : Nat) (v : AV) : Prop := (∃ p, p < L ∧ xs = footL p ∧ v = .tup [nI .i64 p, nI .i64 0]) ∨ ((∀ p, p < L → xs ≠ footL p) ∧ v = .tup [nI .i64 0, nI .i64 5])
theorem FR_low {xs : List UInt8} {L : Nat} {v : AV} (h : FR xs L v) : lowV 0 v = true := by rcases h with ⟨_, _, _, rfl⟩ | ⟨_, rfl⟩ <;> rfl
theorem footer_run {lib0 : Lib} {fs : T CF} {fuel : Nat} {B : Heap → Prop} (E : Env lib0 fs fuel B) {n b o L : Nat} {r : Row} {xs : List UInt8} {H : Heap} (hB : B H) (hro : H.ro ≤ H.nx) (hb : b < H.nx) (hr : H.t.get b = some (.row r)) (hsz : r.sz = 1) (hfit : o + (L + 48) ≤ r.size) (hL : L ≤ 4096) (hxs : xs.length = 48) (hx : ∀ i, i < 48 → r.get (o + L + i) = u8V (xs.getD i 0)) :
    ∃ v H', FR xs L v ∧ callN (LK lib0 fs fuel 3) fs fuel (n + 6) 13 [.slice b o (L + 48) none] H = .ret v H' ∧ Keep H H' [] := by
  rw [callN_fn (libK_none E.n13 (.inl (by decide)) _ _) E.f13]
  have d48 : decide (L + 48 < 48) = false := decide_eq_false (by omega)
  have hL48 : L + 48 - 48 = L := by omega
  have h48L : L + 48 - L = 48 := by omega
  have hle : 48 ≤ L + 48 := by omega
  have s1 : sliceV 1 (.slice b o (L + 48) none) (some (nI .i64 L)) none H = .val (.slice b (o + L) 48 none) H := by
    rw [sliceV_lo hr hsz (by omega) hfit, h48L]
  have s2 : sliceV 1 (.slice b (o + L) 48 none) (some (nI .i64 16)) (some (nI .i64 32)) H = .val (.slice b (o + L + 16) 16 none) H := sliceV_is hr hsz (by decide) (by omega) (fun _ h => by cases h) _ _
  have hds : ((xs.drop 16).take 16).length = 16 := by rw [List.length_take, List.length_drop, hxs]; rfl
  have s3 : strW (.slice b (o + L + 16) 16 none) H = .val (.str ((xs.drop 16).take 16)) H := by
    refine strV_row hr hds (by omega) fun i hi => ?_
    rw [show o + L + 16 + i = o + L + (16 + i) by omega, hx _ (by omega), List.getD_eq_getElem?_getD, List.getD_eq_getElem?_getD, List.getElem?_take_of_lt hi, List.getElem?_drop]
  obtain ⟨v, H1, hv, ep, k1⟩ := sparse_run E (n := n + 1) (k := 3) (Nat.le_refl _) hB hro hds
  have nogood : ∀ p, p < L → xs = footL p → good ((xs.drop 16).take 16) ∧ hval ((xs.drop 16).take 16) = p := fun p hp e => by
    rw [e, dg_of (by omega)]; exact ⟨dg_good (by omega), hval_dg (by omega)⟩
  rcases hv with ⟨z, rfl, hz⟩ | ⟨z, et, eb, rfl, ng⟩
  · by_cases hzL : (L : Int) ≤ z
    · have dz : decide ((L : Int) ≤ z) = true := decide_eq_true hzL
      refine ⟨_, H1, .inr ⟨fun p hp e => ?_, rfl⟩, ?_, k1⟩
      · obtain ⟨h1, h2⟩ := nogood p hp e
        have := hz h1
        omega
      · skip
        simp (maxSteps := 4000000) (disch := first | assumption | omega | (simp -implicitDefEqProofs only [SideG, SideL] <;> first | assumption | omega) | decide) only [d48, hL48, s1, s2, s3, ep, geZ, oSlice_run, Option.map_none, Option.map_some, lenV_slice, dz, idxStr_at, cmpV_ge, cmpV_le, cmpV_lt, cmpV_gt, eqV_eq, eqV_ne, eqS_eq, eqS_ne, subV_i, addV_i, lenSV_str, slStr_drop, idxSV_slice, Nat.zero_add, Nat.add_zero, oStr_at, Nat.reduceSub, Nat.reduceAdd, Nat.reduceLeDiff, Nat.zero_le, Nat.lt_irrefl, Nat.not_lt_zero, Nat.reduceEqDiff, decide_true, decide_false, c13, RunG, N8G, CoreG, CoreL, freeK_at, readK_at, freeN_at, Nat.reduceEqDiff, reduceCtorEq, TB0, TB1]
    · have dz : decide ((L : Int) ≤ z) = false := decide_eq_false hzL
      have hro1 : H1.ro ≤ H1.nx := by rw [k1.ro]; exact Nat.le_trans hro k1.nx
      have hB1 := E.keep hB k1
      have hp4 : z.toNat < 4096 := by omega
      have e4 := foot_run E (k := 3) (n := n + 3) (Nat.le_refl _) (z := z) hB1 hro1 rfl hp4
      obtain ⟨H2, hH2⟩ : ∃ H2, (H1.new (rG 5 1 ((footS z.toNat).map u8V) 0 true true false)).new (rG 5 1 (cellsF (zd z.toNat)) 0 false true false) = H2 := ⟨_, rfl⟩
      rw [hH2] at e4
      have k2 : Keep H1 H2 [] := by rw [← hH2]; exact (Keep.new H1 _ []).then_new _
      have k12 := k1.trans' k2
      have gb : H2.t.get b = some (.row r) := by rw [k12.get b hb (by simp)]; exact hr
      have gf : H2.t.get (H1.nx + 1) = some (rG 5 1 (cellsF (zd z.toNat)) 0 false true false) := by rw [← hH2]; exact get_new_eq rfl _
      have sa : strW (.slice b (o + L) 48 none) H2 = .val (.str xs) H2 := strV_row gb hxs (by omega) fun i hi => hx i hi
      have sb : strW (.slice (H1.nx + 1) 0 48 none) H2 = .val (.str (footL z.toNat)) H2 := by
        refine strV_row gf (footL_len hp4) (by show 0 + 48 ≤ lenL (cellsF (zd z.toNat)); rw [← footL_cells hp4, lenL_eq, List.length_map, footL_len hp4]; exact Nat.le_refl _) fun i hi => ?_
        have hc : Cells ⟨5, 1, lenL (cellsF (zd z.toNat)), T.ofList (cellsF (zd z.toNat)), .unk, 0, false, true, false⟩ (cellsF (zd z.toNat)) := Cells.new ..
        rw [Nat.zero_add, hc.get i (by rw [← footL_cells hp4, List.length_map, footL_len hp4]; exact hi), ← footL_cells hp4, mapu_getD (by rw [footL_len hp4]; exact hi)]; rfl
      have e5 := fun {j} => equal_run E (k := 3) (n := j) sa sb
      by_cases heq : xs = footL z.toNat
      · have hzp : z = (z.toNat : Int) := by
          have h1 : good ((xs.drop 16).take 16) := by rw [heq, dg_of hp4]; exact dg_good hp4
          have h2 : hval ((xs.drop 16).take 16) = z.toNat := by rw [heq, dg_of hp4, hval_dg hp4]
          rw [hz h1, h2]; simp
        have dq : decide (xs = footL z.toNat) = true := decide_eq_true heq
        refine ⟨.tup [.int .i64 z, nI .i64 0], H2, .inl ⟨z.toNat, by omega, heq, by rw [hzp]; rfl⟩, ?_, k12⟩
        simp (maxSteps := 4000000) (disch := first | assumption | omega | (simp -implicitDefEqProofs only [SideG, SideL] <;> first | assumption | omega) | decide) only [d48, hL48, s1, s2, s3, ep, geZ, oSlice_run, Option.map_none, Option.map_some, lenV_slice, dz, e4, e5, dq, idxStr_at, cmpV_ge, cmpV_le, cmpV_lt, cmpV_gt, eqV_eq, eqV_ne, eqS_eq, eqS_ne, subV_i, addV_i, lenSV_str, slStr_drop, idxSV_slice, Nat.zero_add, Nat.add_zero, oStr_at, Nat.reduceSub, Nat.reduceAdd, Nat.reduceLeDiff, Nat.zero_le, Nat.lt_irrefl, Nat.not_lt_zero, Nat.reduceEqDiff, decide_true, decide_false, c13, RunG, N8G, CoreG, CoreL, freeK_at, readK_at, freeN_at, Nat.reduceEqDiff, reduceCtorEq, TB0, TB1]
      · have dq : decide (xs = footL z.toNat) = false := decide_eq_false heq
        refine ⟨_, H2, .inr ⟨fun p hp e => ?_, rfl⟩, ?_, k12⟩
        · obtain ⟨h1, h2⟩ := nogood p hp e
          have h3 := hz h1
          rw [h2] at h3
          subst h3
          exact heq e
        · skip
          simp (maxSteps := 4000000) (disch := first | assumption | omega | (simp -implicitDefEqProofs only [SideG, SideL] <;> first | assumption | omega) | decide) only [d48, hL48, s1, s2, s3, ep, geZ, oSlice_run, Option.map_none, Option.map_some, lenV_slice, dz, e4, e5, dq, idxStr_at, cmpV_ge, cmpV_le, cmpV_lt, cmpV_gt, eqV_eq, eqV_ne, eqS_eq, eqS_ne, subV_i, addV_i, lenSV_str, slStr_drop, idxSV_slice, Nat.zero_add, Nat.add_zero, oStr_at, Nat.reduceSub, Nat.reduceAdd, Nat.reduceLeDiff, Nat.zero_le, Nat.lt_irrefl, Nat.not_lt_zero, Nat.reduceEqDiff, decide_true, decide_false, c13, RunG, N8G, CoreG, CoreL, freeK_at, readK_at, freeN_at, Nat.reduceEqDiff, reduceCtorEq, TB0, TB1]
  · refine ⟨_, H1, .inr ⟨fun p hp e => ng (nogood p hp e).1, rfl⟩, ?_, k1⟩
    simp (maxSteps := 4000000) (disch := first | assumption | omega | (simp -implicitDefEqProofs only [SideG, SideL] <;> first | assumption | omega) | decide) only [d48, hL48, s1, s2, s3, ep, geZ, oSlice_run, Option.map_none, Option.map_some, lenV_slice, idxStr_at, cmpV_ge, cmpV_le, cmpV_lt, cmpV_gt, eqV_eq, eqV_ne, eqS_eq, eqS_ne, subV_i, addV_i, lenSV_str, slStr_drop, idxSV_slice, Nat.zero_add, Nat.add_zero, oStr_at, Nat.reduceSub, Nat.reduceAdd, Nat.reduceLeDiff, Nat.zero_le, Nat.lt_irrefl, Nat.not_lt_zero, Nat.reduceEqDiff, decide_true, decide_false, c13, RunG, N8G, CoreG, CoreL, freeK_at, readK_at, freeN_at, Nat.reduceEqDiff, reduceCtorEq, TB0, TB1]
theorem footer {lib0 : Lib} {fs : T CF} {fuel : Nat} {B : Heap → Prop} (E : Env lib0 fs fuel B) {b o L : Nat} {r : Row} {xs : List UInt8} {H : Heap} (hB : B H) (hro : H.ro ≤ H.nx) (hb : b < H.nx) (hr : H.t.get b = some (.row r)) (hsz : r.sz = 1) (hfit : o + (L + 48) ≤ r.size) (hL : L ≤ 4096) (hxs : xs.length = 48) (hx : ∀ i, i < 48 → r.get (o + L + i) = u8V (xs.getD i 0)) :
    ∃ v, FR xs L v ∧ ∀ k n, 4 ≤ k → callN (LK lib0 fs fuel k) fs fuel (n + 1) 13 [.slice b o (L + 48) none] H = .ret v H := by
  obtain ⟨v, H', h, e, g⟩ := footer_run E (n := 894) (H := H) hB hro hb hr hsz hfit hL hxs hx
  exact ⟨v, h, fun k n hk => keep_hit (r := 3) rfl rfl e g (FR_low h) hk⟩

theorem rowU8_at {l : List UInt8} {fz : Nat} {sm own ex : Bool} {i : Nat} (h : i < l.length) : Row.get ⟨5, 1, lenL (l.map u8V), T.ofList (l.map u8V), .unk, fz, sm, own, ex⟩ i = u8V (l.getD i 0) := by
  have hc : Cells ⟨5, 1, lenL (l.map u8V), T.ofList (l.map u8V), .unk, fz, sm, own, ex⟩ (l.map u8V) := Cells.new ..
  rw [hc.get i (by rw [List.length_map]; exact h), mapu_getD h]; rfl
theorem app_zero {H : Heap} {zb fb m : Nat} {fl : List UInt8} (hz : H.t.get zb = some (.row (rZ 5 m (nI .u8 0)))) (hf : H.t.get fb = some (rG 5 1 (fl.map u8V) 0 false true false)) (h0 : 0 < m) (h1 : 0 < fl.length) (h2 : m + fl.length ≤ 10000) :
    appendV 5 1 1 (.slice zb 0 m none) (.slice fb 0 fl.length none) H = .val (.slice H.nx 0 (m + fl.length) none) (H.new (rG 5 1 ((List.replicate m 0 ++ fl).map u8V) 0 false true false)) := by
  have src : Src H (.slice fb 0 (fl.map u8V).length none) (fl.map u8V) := by
    refine Src.row (r := ⟨5, 1, lenL (fl.map u8V), T.ofList (fl.map u8V), .unk, 0, false, true, false⟩) hf (by show 0 + (fl.map u8V).length ≤ lenL (fl.map u8V); rw [lenL_eq, Nat.zero_add]; exact Nat.le_refl _) fun i hi => ?_
    have hc : Cells ⟨5, 1, lenL (fl.map u8V), T.ofList (fl.map u8V), .unk, 0, false, true, false⟩ (fl.map u8V) := Cells.new ..
    rw [Nat.zero_add]; exact hc.get i hi
  have hl : fl.length = (fl.map u8V).length := by rw [List.length_map]
  have cz : Cells (rZ 5 m (nI .u8 0)) (List.replicate m (nI .u8 0)) := Cells.zero ..
  have ld : loadN (rZ 5 m (nI .u8 0)) 0 (m * 1) = List.replicate m (nI .u8 0) := by
    have := cz.load (o := 0) (n := m) (by rw [List.length_replicate]; omega)
    rw [Nat.mul_one, this, List.drop_zero, List.take_of_length_le (by rw [List.length_replicate]; exact Nat.le_refl _)]
  have hcap : Nat.ble (m + (fl.map u8V).length) m = false := by
    cases h : Nat.ble (m + (fl.map u8V).length) m with
    | false => rfl
    | true => have := Nat.le_of_ble_eq_true h; omega
  rw [hl, appendV_src (Nat.le_refl 1) src]
  rw [hl] at h1 h2
  generalize (fl.map u8V).length = q at *
  show onRow H zb _ = _
  unfold onRow
  simp only [hz]
  show onIf (Nat.beq 1 1) (cond (Nat.ble (m + q) (m - 0)) _ (onIf (Nat.ble ((m + q) * 1) 140737488355328) (onIf (Nat.ble (0 + m * 1) m) (onIf (Nat.beq (0 % 1) 0) (OR.val (.slice H.nx 0 (m + q) none) (H.newRow 5 1 (loadN (rZ 5 m (nI .u8 0)) 0 (m * 1) ++ fl.map u8V) false)))))) = _
  rw [Nat.sub_zero, hcap, ld, Nat.mul_one, Nat.mul_one, Nat.zero_add, Nat.ble_eq_true_of_le (show m + q ≤ 140737488355328 by omega), Nat.ble_eq_true_of_le (Nat.le_refl m), newRow_rG, List.map_append, List.map_replicate]
  rfl
theorem remI (a b : Nat) (hb : 0 < b) (G : Heap) : remV (nI .i64 a) (nI .i64 b) G = .val (nI .i64 (a % b)) G := by
  show onIf (kEq .i64 .i64) (cond (ieq (.ofNat b) (.ofNat 0)) .fail (forceI (.ofNat (Nat.mod a b)) fun n => .val (.int .i64 n) G)) = _
  rw [kEq_self, ieq_nat, decide_eq_false (by omega), forceI_eq]; rfl
theorem xor8 (d : UInt8) {y : Nat} (hy : y < 256) : ∃ w : UInt8, (∀ G, bitsV xorF (u8V d) (nI .u8 y) G = .val (u8V w) G) ∧ (w = d ↔ y = 0) := by
  refine ⟨d ^^^ UInt8.ofNat y, fun G => ?_, fun h => ?_, fun h => ?_⟩
  · have hd : d.toNat < 256 := d.toNat_lt
    show onIf (kEq .u8 .u8) (valI .u8 (.ofNat (Nat.xor (d.toNat % 256) (y % 256))) G) = _
    rw [kEq_self, valI_run, wrap_u8, Nat.mod_eq_of_lt hd, Nat.mod_eq_of_lt hy]
    have e : (d ^^^ UInt8.ofNat y).toNat = Nat.xor d.toNat y := by
      rw [UInt8.toNat_xor, ofN hy]; rfl
    show OR.val (.int .u8 (.ofNat (Nat.xor d.toNat y % 256))) G = .val (.int .u8 (.ofNat (d ^^^ UInt8.ofNat y).toNat)) G
    rw [e, Nat.mod_eq_of_lt (by rw [← e]; exact UInt8.toNat_lt _)]
  · have : UInt8.ofNat y = d ^^^ (d ^^^ UInt8.ofNat y) := by rw [← UInt8.xor_assoc, UInt8.xor_self, UInt8.zero_xor]
    rw [h, UInt8.xor_self] at this
    have := congrArg UInt8.toNat this
    rw [ofN hy] at this
    exact this
  · subst h; show d ^^^ 0 = d; exact UInt8.xor_zero
/-- the bytes of the footer's row -/
def bsL (p : Nat) : List UInt8 := List.replicate (p + 1) 0 ++ footL p
theorem bsL_len {p : Nat} (h : p < 4096) : (bsL p).length = p + 1 + 48 := by unfold bsL; rw [List.length_append, List.length_replicate, footL_len h]
theorem bsL_at {p i : Nat} (h : p < 4096) (hi : i < 48) : (bsL p).getD (p + 1 + i) 0 = (footL p).getD i 0 := by
  unfold bsL
  rw [List.getD_eq_getElem?_getD, List.getD_eq_getElem?_getD, List.getElem?_append_right (by rw [List.length_replicate]; omega), List.length_replicate, show p + 1 + i - (p + 1) = i by omega]
theorem set_at {l : List UInt8} {i j : Nat} {w : UInt8} (hj : j < l.length) : (l.set i w).getD j 0 = if i = j then w else l.getD j 0 := by
  rw [List.getD_eq_getElem?_getD, List.getElem?_set, List.getD_eq_getElem?_getD]
  split
  · rename_i e; subst e; rw [if_pos hj]; rfl
  · rfl
theorem law_run {lib0 : Lib} {fs : T CF} {fuel : Nat} {B : Heap → Prop} (E : Env lib0 fs fuel B) {n x a y : Nat} {H : Heap} (hB : B H) (hro : H.ro ≤ H.nx) (hx : x < 65536) (ha : a < 256) (hy : y < 256) :
    ∃ H', callN (LK lib0 fs fuel 4) fs fuel (n + 8) 4 [nI .u16 x, nI .u8 a, nI .u8 y] H = .ret (.bool true) H' := by
  rw [callN_fn (libK_none E.n4 (.inr rfl) _ _) E.f4]
  have ix : ∀ G, intV .i64 (nI .u16 x) G = .val (nI .i64 x) G := fun G => intV_i64 (by omega) G
  have ia : ∀ G, intV .i64 (nI .u8 a) G = .val (nI .i64 a) G := fun G => intV_i64 (by omega) G
  have r1 : ∀ G, remV (nI .i64 x) (nI .i64 4001) G = .val (nI .i64 (x % 4001)) G := fun G => remI x 4001 (by decide) G
  have r2 : ∀ G, remV (nI .i64 a) (nI .i64 48) G = .val (nI .i64 (a % 48)) G := fun G => remI a 48 (by decide) G
  have hp1 : x % 4001 < 4001 := Nat.mod_lt _ (by decide)
  have hk1 : a % 48 < 48 := Nat.mod_lt _ (by decide)
  generalize x % 4001 = p at r1 hp1
  generalize a % 48 = q at r2 hk1
  have hp4 : p < 4096 := by omega
  have e1 : callN (LK lib0 fs fuel 4) fs fuel (n + 5 + 2) 11 [nI .i64 p] H = _ := foot_run E (k := 4) (n := n + 5) (by decide) (z := .ofNat p) hB hro (p := p) rfl hp4
  obtain ⟨H2, hH2⟩ : ∃ H2, (H.new (rG 5 1 ((footS p).map u8V) 0 true true false)).new (rG 5 1 (cellsF (zd p)) 0 false true false) = H2 := ⟨_, rfl⟩
  rw [hH2] at e1
  have k2 : Keep H H2 [] := by rw [← hH2]; exact (Keep.new H _ []).then_new _
  have nx2 : H2.nx = H.nx + 2 := by rw [← hH2]; rfl
  have gf : H2.t.get (H.nx + 1) = some (rG 5 1 (cellsF (zd p)) 0 false true false) := by rw [← hH2]; exact get_new_eq rfl _
  have e2 : ∀ {j}, callN (LK lib0 fs fuel 4) fs fuel (j + 1) 12 [.slice (H.nx + 1) 0 48 none, nI .i64 0, nI .i64 0] H2 = .ret (.tup [.nils, nI .i64 48, nI .i64 0]) H2 := fun {j} => base_hit rfl (E.at_ H2 _ _ (E.keep hB k2) (rowIs_rG gf))
  obtain ⟨H3, hH3⟩ : ∃ H3, H2.new (.row (rZ 5 (p + 1) (nI .u8 0))) = H3 := ⟨_, rfl⟩
  have k3 : Keep H2 H3 [] := by rw [← hH3]; exact Keep.new _ _ _
  have nx3 : H3.nx = H.nx + 3 := by rw [← hH3]; show H2.nx + 1 = _; rw [nx2]
  have gz : H3.t.get (H.nx + 2) = some (.row (rZ 5 (p + 1) (nI .u8 0))) := by rw [← hH3]; exact get_new_eq nx2 _
  have gf3 : H3.t.get (H.nx + 1) = some (rG 5 1 ((footL p).map u8V) 0 false true false) := by rw [k3.get _ (by omega) (by simp), gf, footL_cells hp4]
  have e3 := app_zero gz gf3 (Nat.succ_pos p) (by rw [footL_len hp4]; decide) (by rw [footL_len hp4]; omega)
  rw [footL_len hp4, nx3] at e3
  obtain ⟨H4, hH4⟩ : ∃ H4, H3.new (rG 5 1 ((List.replicate (p + 1) 0 ++ footL p).map u8V) 0 false true false) = H4 := ⟨_, rfl⟩
  rw [hH4] at e3
  have k4 : Keep H3 H4 [] := by rw [← hH4]; exact Keep.new _ _ _
  have nx4 : H4.nx = H.nx + 4 := by rw [← hH4]; show H3.nx + 1 = _; rw [nx3]
  have k04 : Keep H H4 [] := (k2.trans' k3).trans' k4
  have gb : H4.t.get (H.nx + 3) = some (rG 5 1 ((bsL p).map u8V) 0 false true false) := by rw [← hH4]; exact get_new_eq nx3 _
  have hB4 := E.keep hB k04
  have hro4 : H4.ro ≤ H4.nx := by rw [k04.ro]; exact Nat.le_trans hro k04.nx
  have hbl := bsL_len hp4
  have hsz4 : lenL ((bsL p).map u8V) = p + 1 + 48 := by rw [lenL_eq, List.length_map, hbl]
  obtain ⟨v1, hv1, f1⟩ := footer E (b := H.nx + 3) (o := 0) (L := p + 1) (xs := footL p) hB4 hro4 (by omega) gb rfl (by show 0 + (p + 1 + 48) ≤ lenL ((bsL p).map u8V); rw [hsz4]; omega) (by omega) (footL_len hp4) (fun i hi => by rw [Nat.zero_add, rowU8_at (by omega), bsL_at hp4 hi])
  have ev1 : v1 = .tup [nI .i64 p, nI .i64 0] := by
    rcases hv1 with ⟨p', h1, h2, rfl⟩ | ⟨h, _⟩
    · rw [footL_inj hp4 (by omega) h2]
    · exact absurd rfl (h p (Nat.lt_succ_self p))
  subst ev1
  obtain ⟨v2, hv2, f2⟩ := footer E (b := H.nx + 3) (o := 1) (L := p) (xs := footL p) hB4 hro4 (by omega) gb rfl (by show 1 + (p + 48) ≤ lenL ((bsL p).map u8V); rw [hsz4]; omega) (by omega) (footL_len hp4) (fun i hi => by rw [rowU8_at (by omega), show 1 + p + i = p + 1 + i by omega, bsL_at hp4 hi])
  have ev2 : v2 = .tup [nI .i64 0, nI .i64 5] := by
    rcases hv2 with ⟨p', h1, h2, rfl⟩ | ⟨_, rfl⟩
    · have := footL_inj hp4 (by omega) h2; omega
    · rfl
  subst ev2
  have e4 := fun {j} => f1 4 j (Nat.le_refl _)
  have e5 := fun {j} => f2 4 j (Nat.le_refl _)
  have s1 : sliceV 1 (.slice (H.nx + 3) 0 (p + 1 + 48) none) (some (nI .i64 1)) none H4 = .val (.slice (H.nx + 3) 1 (p + 48) none) H4 := by
    rw [sliceV_lo (l := 1) gb rfl (by omega) (by show 0 + (p + 1 + 48) ≤ lenL ((bsL p).map u8V); rw [hsz4]; omega)]
    rw [show p + 1 + 48 - 1 = p + 48 by omega]
  -- the byte that is changed
  obtain ⟨w, ew, hw⟩ := xor8 ((footL p).getD q 0) hy
  have hmq : p + 1 + q < ((bsL p).map u8V).length := by rw [List.length_map, hbl]; omega
  have ld : ∀ G, ld1 (some (rG 5 1 ((bsL p).map u8V) 0 false true false)) (p + 1 + q) G = .val (u8V ((footL p).getD q 0)) G := fun G => by
    rw [ld1_rG hmq, mapu_getD (by omega), bsL_at hp4 hk1]; rfl
  obtain ⟨H5, hH5⟩ : ∃ H5, H4.put (H.nx + 3) (rG 5 1 (((bsL p).set (p + 1 + q) w).map u8V) 0 false true false) = H5 := ⟨_, rfl⟩
  have st : stN 1 (some (rG 5 1 ((bsL p).map u8V) 0 false true false)) (H.nx + 3) (p + 1 + q) (u8V w) H4 = .val undefA H5 := by
    rw [stN_one (cells_u8V w) hmq (by rw [k04.ro]; omega) (Nat.zero_le _), ← hH5, List.map_set]
  have k05 : Keep H H5 [] := by rw [← hH5]; exact k04.then_put fun h => by omega
  have hB5 := E.keep hB k05
  have hro5 : H5.ro ≤ H5.nx := by rw [k05.ro]; exact Nat.le_trans hro k05.nx
  have gb5 : H5.t.get (H.nx + 3) = some (rG 5 1 (((bsL p).set (p + 1 + q) w).map u8V) 0 false true false) := by rw [← hH5]; exact get_put_eq ..
  have hbl5 : ((bsL p).set (p + 1 + q) w).length = p + 1 + 48 := by rw [List.length_set, hbl]
  have hsz5 : lenL (((bsL p).set (p + 1 + q) w).map u8V) = p + 1 + 48 := by rw [lenL_eq, List.length_map, hbl5]
  have nx5 : H5.nx = H.nx + 4 := by rw [← hH5]; exact nx4
  obtain ⟨v3, hv3, f3⟩ := footer E (b := H.nx + 3) (o := 0) (L := p + 1) (xs := (footL p).set q w) hB5 hro5 (by omega) gb5 rfl (by show 0 + (p + 1 + 48) ≤ lenL (((bsL p).set (p + 1 + q) w).map u8V); rw [hsz5]; omega) (by omega) (by rw [List.length_set, footL_len hp4]) (fun i hi => by
    rw [Nat.zero_add, rowU8_at (by omega), set_at (by omega), set_at (by rw [footL_len hp4]; exact hi), bsL_at hp4 hi]
    by_cases e : q = i
    · rw [if_pos (by omega), if_pos e]
    · rw [if_neg (by omega), if_neg e])
  have e6 := fun {j} => f3 4 j (Nat.le_refl _)
  have e7 : ∀ {j}, callN (LK lib0 fs fuel 4) fs fuel (j + 1) 14 [] H5 = .ret (.bool true) H5 := fun {j} => base_hit rfl (E.tells H5 hB5)
  have hq5 : (footL p).length = 48 := footL_len hp4
  have same : ∀ p', p' < p + 1 → (footL p).set q w = footL p' → w = (footL p').getD q 0 := fun p' _ h => by
    rw [← h, set_at (by omega), if_pos rfl]
  have lt1 : p + 1 + q < p + 1 + 48 := by omega
  by_cases hy0 : y = 0
  · have dy : decide (y = 0) = true := decide_eq_true hy0
    have hws : w = (footL p).getD q 0 := hw.2 hy0
    have ev3 : v3 = .tup [nI .i64 p, nI .i64 0] := by
      have hs : (footL p).set q w = footL p := by
        refine List.ext_getElem? fun i => ?_
        rw [List.getElem?_set]
        split
        · rename_i e; subst e; rw [if_pos (by omega), hws, List.getD_eq_getElem?_getD, List.getElem?_eq_getElem (by omega)]; rfl
        · rfl
      rcases hv3 with ⟨p', h1, h2, rfl⟩ | ⟨h, _⟩
      · rw [hs] at h2; rw [footL_inj hp4 (by omega) h2]
      · exact absurd hs (h p (Nat.lt_succ_self p))
    subst ev3
    simp (maxSteps := 4000000) (disch := first | assumption | omega | (simp -implicitDefEqProofs only [SideG, SideL] <;> first | assumption | omega) | decide) only [dy, ix, ia, r1, r2, e1, e2, e3, e4, e5, e6, e7, s1, ew, ld, st, gb, hH3, hH4, nx2, nx3, oMkSlice_at, mkSV_bytes, oAppend_run, oSlice_run, Option.map_none, Option.map_some, load1V_at, lenV_nil, ne_eq, not_true_eq_false, not_false_eq_true, idxStr_at, cmpV_ge, cmpV_le, cmpV_lt, cmpV_gt, eqV_eq, eqV_ne, eqS_eq, eqS_ne, subV_i, addV_i, lenSV_str, slStr_drop, idxSV_slice, Nat.zero_add, Nat.add_zero, oStr_at, Nat.reduceSub, Nat.reduceAdd, Nat.reduceLeDiff, Nat.zero_le, Nat.lt_irrefl, Nat.not_lt_zero, Nat.reduceEqDiff, decide_true, decide_false, c4, RunG, N8G, CoreG, CoreL, freeK_at, readK_at, freeN_at, Nat.reducePow, Nat.reduceDiv, Nat.reduceMod, Nat.reduceEqDiff, reduceCtorEq, TB0, TB1, TB2, TB3, TB4]
    exact ⟨_, rfl⟩
  have dy : decide (y = 0) = false := decide_eq_false hy0
  have hnw : w ≠ (footL p).getD q 0 := fun h => hy0 (hw.1 h)
  by_cases hd : 16 ≤ q ∧ q < 32
  · have d16 : decide (16 ≤ q) = true := decide_eq_true hd.1
    have d32 : decide (q < 32) = true := decide_eq_true hd.2
    rcases hv3 with ⟨p', h1, h2, rfl⟩ | ⟨_, rfl⟩
    · have hne : p' ≠ p := fun e => by subst e; exact hnw (same p' h1 h2)
      have dn : (p' = p) = False := eq_false hne
      simp (maxSteps := 4000000) (disch := first | assumption | omega | (simp -implicitDefEqProofs only [SideG, SideL] <;> first | assumption | omega) | decide) only [dy, d16, d32, dn, ix, ia, r1, r2, e1, e2, e3, e4, e5, e6, e7, s1, ew, ld, st, gb, hH3, hH4, nx2, nx3, oMkSlice_at, mkSV_bytes, oAppend_run, oSlice_run, Option.map_none, Option.map_some, load1V_at, lenV_nil, ne_eq, not_true_eq_false, not_false_eq_true, idxStr_at, cmpV_ge, cmpV_le, cmpV_lt, cmpV_gt, eqV_eq, eqV_ne, eqS_eq, eqS_ne, subV_i, addV_i, lenSV_str, slStr_drop, idxSV_slice, Nat.zero_add, Nat.add_zero, oStr_at, Nat.reduceSub, Nat.reduceAdd, Nat.reduceLeDiff, Nat.zero_le, Nat.lt_irrefl, Nat.not_lt_zero, Nat.reduceEqDiff, decide_true, decide_false, c4, RunG, N8G, CoreG, CoreL, freeK_at, readK_at, freeN_at, Nat.reducePow, Nat.reduceDiv, Nat.reduceMod, Nat.reduceEqDiff, reduceCtorEq, TB0, TB1, TB2, TB3, TB4]
      exact ⟨_, rfl⟩
    · skip
      simp (maxSteps := 4000000) (disch := first | assumption | omega | (simp -implicitDefEqProofs only [SideG, SideL] <;> first | assumption | omega) | decide) only [dy, d16, d32, ix, ia, r1, r2, e1, e2, e3, e4, e5, e6, e7, s1, ew, ld, st, gb, hH3, hH4, nx2, nx3, oMkSlice_at, mkSV_bytes, oAppend_run, oSlice_run, Option.map_none, Option.map_some, load1V_at, lenV_nil, ne_eq, not_true_eq_false, not_false_eq_true, idxStr_at, cmpV_ge, cmpV_le, cmpV_lt, cmpV_gt, eqV_eq, eqV_ne, eqS_eq, eqS_ne, subV_i, addV_i, lenSV_str, slStr_drop, idxSV_slice, Nat.zero_add, Nat.add_zero, oStr_at, Nat.reduceSub, Nat.reduceAdd, Nat.reduceLeDiff, Nat.zero_le, Nat.lt_irrefl, Nat.not_lt_zero, Nat.reduceEqDiff, decide_true, decide_false, c4, RunG, N8G, CoreG, CoreL, freeK_at, readK_at, freeN_at, Nat.reducePow, Nat.reduceDiv, Nat.reduceMod, Nat.reduceEqDiff, reduceCtorEq, TB0, TB1, TB2, TB3, TB4]
      exact ⟨_, rfl⟩
  · have ev3 : v3 = .tup [nI .i64 0, nI .i64 5] := by
      rcases hv3 with ⟨p', h1, h2, rfl⟩ | ⟨_, rfl⟩
      · exact absurd ((same p' h1 h2).trans (footL_same (by omega) hp4 (by omega))) hnw
      · rfl
    subst ev3
    by_cases h16 : 16 ≤ q
    · have d16 : decide (16 ≤ q) = true := decide_eq_true h16
      have d32 : decide (q < 32) = false := decide_eq_false (by omega)
      simp (maxSteps := 4000000) (disch := first | assumption | omega | (simp -implicitDefEqProofs only [SideG, SideL] <;> first | assumption | omega) | decide) only [dy, d16, d32, ix, ia, r1, r2, e1, e2, e3, e4, e5, e6, e7, s1, ew, ld, st, gb, hH3, hH4, nx2, nx3, oMkSlice_at, mkSV_bytes, oAppend_run, oSlice_run, Option.map_none, Option.map_some, load1V_at, lenV_nil, ne_eq, not_true_eq_false, not_false_eq_true, idxStr_at, cmpV_ge, cmpV_le, cmpV_lt, cmpV_gt, eqV_eq, eqV_ne, eqS_eq, eqS_ne, subV_i, addV_i, lenSV_str, slStr_drop, idxSV_slice, Nat.zero_add, Nat.add_zero, oStr_at, Nat.reduceSub, Nat.reduceAdd, Nat.reduceLeDiff, Nat.zero_le, Nat.lt_irrefl, Nat.not_lt_zero, Nat.reduceEqDiff, decide_true, decide_false, c4, RunG, N8G, CoreG, CoreL, freeK_at, readK_at, freeN_at, Nat.reducePow, Nat.reduceDiv, Nat.reduceMod, Nat.reduceEqDiff, reduceCtorEq, TB0, TB1, TB2, TB3, TB4]
      exact ⟨_, rfl⟩
    · have d16 : decide (16 ≤ q) = false := decide_eq_false h16
      simp (maxSteps := 4000000) (disch := first | assumption | omega | (simp -implicitDefEqProofs only [SideG, SideL] <;> first | assumption | omega) | decide) only [dy, d16, ix, ia, r1, r2, e1, e2, e3, e4, e5, e6, e7, s1, ew, ld, st, gb, hH3, hH4, nx2, nx3, oMkSlice_at, mkSV_bytes, oAppend_run, oSlice_run, Option.map_none, Option.map_some, load1V_at, lenV_nil, ne_eq, not_true_eq_false, not_false_eq_true, idxStr_at, cmpV_ge, cmpV_le, cmpV_lt, cmpV_gt, eqV_eq, eqV_ne, eqS_eq, eqS_ne, subV_i, addV_i, lenSV_str, slStr_drop, idxSV_slice, Nat.zero_add, Nat.add_zero, oStr_at, Nat.reduceSub, Nat.reduceAdd, Nat.reduceLeDiff, Nat.zero_le, Nat.lt_irrefl, Nat.not_lt_zero, Nat.reduceEqDiff, decide_true, decide_false, c4, RunG, N8G, CoreG, CoreL, freeK_at, readK_at, freeN_at, Nat.reducePow, Nat.reduceDiv, Nat.reduceMod, Nat.reduceEqDiff, reduceCtorEq, TB0, TB1, TB2, TB3, TB4]
      exact ⟨_, rfl⟩
end
end Go.AI
