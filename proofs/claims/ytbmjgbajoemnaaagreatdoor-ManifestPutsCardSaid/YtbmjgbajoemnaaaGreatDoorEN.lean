/- Each of the interpreter's functions is the program's, compiled. -/
import Derived.Test.YtbmjgbajoemnaaaGreatDoorCN1
import Derived.Test.YtbmjgbajoemnaaaGreatDoorP8
import Derived.Test.YtbmjgbajoemnaaaGreatDoorProg
import Derived.KernelRfl
set_option maxRecDepth 1000000
set_option maxHeartbeats 0
set_option linter.unusedVariables false
set_option linter.unusedSimpArgs false
namespace Go.AI
open Go Go.Proofs
noncomputable section
def FnE(x:Nat×CF):Prop:= ∃fn,Tryz.prog.funcs[x.1]? =some fn∧fn.name≠ "runtime.NumGoroutine" ∧fn.body.isSome=true∧x.2=Et Tryz.prog fn
theorem Up{i:Nat}{f:Func}{c:CF}(h:Tryz.prog.funcs[i]? =some f)(hb:(f.name != "runtime.NumGoroutine" &&f.body.isSome)=true:=by kernel_rfl)(e:c=Et Tryz.prog f:=by kernel_rfl):FnE (i,c):=by
 simp only[Yj,bne_iff_ne,ne_eq] at hb
 exact⟨f,h,hb.1,hb.2,e⟩
def fsL:List (Nat×CF):=[(3,c3),(4,c4),(5,c5),(6,c6),(7,c7),(8,c8),(9,c9),(10,c10),(11,c11),(12,c12),(13,c13),(14,c14),(15,c15),(16,c16),(17,c17),(18,c18),(19,c19),(20,c20),(21,c21),(22,c22),(23,c23),(24,c24),(25,c25),(26,c26),(27,c27),(28,c28),(29,c29),(30,c30),(31,c31),(32,c32),(33,c33),(34,c34),(35,c35),(36,c36),(37,c37),(38,c38),(39,c39),(40,c40),(41,c41),(42,c42),(43,c43),(44,c44),(45,c45),(46,c46),(47,c47),(48,aV),(49,c49),(50,c50),(51,c51),(52,c52),(53,c53),(54,c54),(55,c55),(56,aW),(57,c57),(58,c58),(59,c59),(60,c60),(61,c61),(62,c62),(63,c63),(64,c64),(65,c65),(66,c66),(67,c67),(68,c68),(69,c69),(70,c70),(71,c71),(72,c72),(73,c73),(74,c74),(75,c75),(76,c76),(77,c77),(78,c78),(79,c79),(80,c80),(81,c81),(82,c82),(83,c83),(84,c84),(85,c85),(86,c86),(87,c87),(89,kz),(90,c90),(91,c91),(92,c92),(93,c93),(94,kD),(96,c96),(97,c97),(98,aX),(99,c99),(100,Za6),(101,B7),(102,dF),(106,oi),(109,Za7),(111,dG),(121,Za8),(122,Za9)]
def fs:T CF:=ZcS fsL
theorem Zd4: ∀x∈fsL,FnE x:=by
 unfold fsL
 exact Zk.2 ⟨Up Tryz.func3,Zk.2 ⟨Up Tryz.func4,Zk.2 ⟨Up Tryz.func5,Zk.2 ⟨Up Tryz.func6,Zk.2 ⟨Up Tryz.func7,Zk.2 ⟨Up Tryz.func8,Zk.2 ⟨Up Tryz.func9,Zk.2 ⟨Up Tryz.func10,Zk.2 ⟨Up Tryz.func11,Zk.2 ⟨Up Tryz.func12,Zk.2 ⟨Up Tryz.func13,Zk.2 ⟨Up Tryz.func14,Zk.2 ⟨Up Tryz.func15,Zk.2 ⟨Up Tryz.func16,Zk.2 ⟨Up Tryz.func17,Zk.2 ⟨Up Tryz.func18,Zk.2 ⟨Up Tryz.func19,Zk.2 ⟨Up Tryz.func20,Zk.2 ⟨Up Tryz.func21,Zk.2 ⟨Up Tryz.func22,Zk.2 ⟨Up Tryz.func23,Zk.2 ⟨Up Tryz.func24,Zk.2 ⟨Up Tryz.func25,Zk.2 ⟨Up Tryz.func26,Zk.2 ⟨Up Tryz.func27,Zk.2 ⟨Up Tryz.func28,Zk.2 ⟨Up Tryz.func29,Zk.2 ⟨Up Tryz.func30,Zk.2 ⟨Up Tryz.func31,Zk.2 ⟨Up Tryz.func32,Zk.2 ⟨Up Tryz.func33,Zk.2 ⟨Up Tryz.func34,Zk.2 ⟨Up Tryz.func35,Zk.2 ⟨Up Tryz.func36,Zk.2 ⟨Up Tryz.func37,Zk.2 ⟨Up Tryz.func38,Zk.2 ⟨Up Tryz.func39,Zk.2 ⟨Up Tryz.func40,Zk.2 ⟨Up Tryz.func41,Zk.2 ⟨Up Tryz.func42,Zk.2 ⟨Up Tryz.func43,Zk.2 ⟨Up Tryz.func44,Zk.2 ⟨Up Tryz.func45,Zk.2 ⟨Up Tryz.func46,Zk.2 ⟨Up Tryz.func47,Zk.2 ⟨Up Tryz.func48,Zk.2 ⟨Up Tryz.func49,Zk.2 ⟨Up Tryz.func50,Zk.2 ⟨Up Tryz.func51,Zk.2 ⟨Up Tryz.func52,Zk.2 ⟨Up Tryz.func53,Zk.2 ⟨Up Tryz.func54,Zk.2 ⟨Up Tryz.func55,Zk.2 ⟨Up Tryz.func56,Zk.2 ⟨Up Tryz.func57,Zk.2 ⟨Up Tryz.func58,Zk.2 ⟨Up Tryz.func59,Zk.2 ⟨Up Tryz.func60,Zk.2 ⟨Up Tryz.func61,Zk.2 ⟨Up Tryz.func62,Zk.2 ⟨Up Tryz.func63,Zk.2 ⟨Up Tryz.func64,Zk.2 ⟨Up Tryz.func65,Zk.2 ⟨Up Tryz.func66,Zk.2 ⟨Up Tryz.func67,Zk.2 ⟨Up Tryz.func68,Zk.2 ⟨Up Tryz.func69,Zk.2 ⟨Up Tryz.func70,Zk.2 ⟨Up Tryz.func71,Zk.2 ⟨Up Tryz.func72,Zk.2 ⟨Up Tryz.func73,Zk.2 ⟨Up Tryz.func74,Zk.2 ⟨Up Tryz.func75,Zk.2 ⟨Up Tryz.func76,Zk.2 ⟨Up Tryz.func77,Zk.2 ⟨Up Tryz.func78,Zk.2 ⟨Up Tryz.func79,Zk.2 ⟨Up Tryz.func80,Zk.2 ⟨Up Tryz.func81,Zk.2 ⟨Up Tryz.func82,Zk.2 ⟨Up Tryz.func83,Zk.2 ⟨Up Tryz.func84,Zk.2 ⟨Up Tryz.func85,Zk.2 ⟨Up Tryz.func86,Zk.2 ⟨Up Tryz.func87,Zk.2 ⟨Up Tryz.func89,Zk.2 ⟨Up Tryz.func90,Zk.2 ⟨Up Tryz.func91,Zk.2 ⟨Up Tryz.func92,Zk.2 ⟨Up Tryz.func93,Zk.2 ⟨Up Tryz.func94,Zk.2 ⟨Up Tryz.func96,Zk.2 ⟨Up Tryz.func97,Zk.2 ⟨Up Tryz.func98,Zk.2 ⟨Up Tryz.func99,Zk.2 ⟨Up Tryz.func100,Zk.2 ⟨Up Tryz.func101,Zk.2 ⟨Up Tryz.func102,Zk.2 ⟨Up Tryz.func106,Zk.2 ⟨Up Tryz.func109,Zk.2 ⟨Up Tryz.func111,Zk.2 ⟨Up Tryz.func121,Zk.2 ⟨Up Tryz.func122,λ_ h=>(by cases h)⟩⟩⟩⟩⟩⟩⟩⟩⟩⟩⟩⟩⟩⟩⟩⟩⟩⟩⟩⟩⟩⟩⟩⟩⟩⟩⟩⟩⟩⟩⟩⟩⟩⟩⟩⟩⟩⟩⟩⟩⟩⟩⟩⟩⟩⟩⟩⟩⟩⟩⟩⟩⟩⟩⟩⟩⟩⟩⟩⟩⟩⟩⟩⟩⟩⟩⟩⟩⟩⟩⟩⟩⟩⟩⟩⟩⟩⟩⟩⟩⟩⟩⟩⟩⟩⟩⟩⟩⟩⟩⟩⟩⟩⟩⟩⟩⟩⟩⟩⟩⟩⟩⟩
theorem yJ(f:Nat)(cf:CF)(h:fs.get f=some cf): ∃fn,Tryz.prog.funcs[f]? =some fn∧fn.name≠ "runtime.NumGoroutine" ∧fn.body.isSome=true∧cf=Et Tryz.prog fn:=Zd4 (f,cf) (uv h)
end
end Go.AI
