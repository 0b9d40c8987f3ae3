/- Each of the interpreter's functions is the program's, compiled. -/
import Derived.Test.YtmnmknjlgpjcbaaGreatDoorCZ1
import Derived.Test.YtmnmknjlgpjcbaaGreatDoorP8
import Derived.Test.YtmnmknjlgpjcbaaGreatDoorProg
import Derived.KernelRfl
set_option maxRecDepth 1000000
set_option maxHeartbeats 0
set_option linter.unusedVariables false
set_option linter.unusedSimpArgs false
namespace Go.AI
open Go Go.Proofs
noncomputable section
def FnE(x:Nat×CF):Prop:= ∃fn,Tryz.prog.funcs[x.1]? =some fn∧fn.name≠ "runtime.NumGoroutine" ∧fn.body.isSome=true∧x.2=FT Tryz.prog fn
theorem Tj{i:Nat}{f:Func}{c:CF}(h:Tryz.prog.funcs[i]? =some f)(hb:(f.name != "runtime.NumGoroutine" &&f.body.isSome)=true:=by kernel_rfl)(e:c=FT Tryz.prog f:=by kernel_rfl):FnE (i,c):=by
 simp only[XE,bne_iff_ne,ne_eq] at hb
 exact⟨f,h,hb.1,hb.2,e⟩
def fsL:List (Nat×CF):=[(3,c3),(10,c10),(11,c11),(12,c12),(13,c13),(14,c14),(15,c15),(16,c16),(17,c17),(18,c18),(19,c19),(20,c20),(52,iT),(53,c53),(54,c54),(55,c55),(56,c56),(57,c57),(58,c58),(59,c59),(60,c60),(61,c61),(62,c62),(63,c63),(64,c64),(65,c65),(66,c66),(67,c67),(68,c68),(69,c69),(70,c70),(106,B7),(107,Za1),(108,ZeW),(109,ZeX),(110,ZeY),(111,gI),(112,ZeZ),(113,Ze0),(114,Ze1),(117,Za2),(118,Ze2),(119,Za3),(120,Za4),(121,Za5),(122,Za6),(123,Ze3),(124,Ze4),(125,gJ),(126,Ze5),(127,Ze6),(128,Ze7),(129,Ze8),(130,Ze9),(131,Zfa),(154,Za8),(155,gK),(156,Zfb),(157,Zfc),(158,Za9),(159,Zfd),(160,gL),(161,IE),(162,Zba),(163,gM),(164,Zbb),(165,sR),(166,Zbc),(167,Zbd),(168,gN),(170,Zff),(171,Zfg),(172,Zfh),(183,Zfi),(192,Zbf),(193,Zfj),(194,Zfk),(196,Zfl),(197,Zfm),(198,Zbg),(199,Zbh),(200,Zfn),(201,GB),(202,gO),(203,B8),(204,Zfo),(222,B9),(227,Zfp),(228,Zbi),(239,Zbj),(240,Zfq),(242,Zfr),(261,Zh9),(263,Zfs)]
def fs:T CF:=Zhj fsL
theorem Ziu: ∀x∈fsL,FnE x:=by
 unfold fsL
 exact Zk.2 ⟨Tj Tryz.func3,Zk.2 ⟨Tj Tryz.func10,Zk.2 ⟨Tj Tryz.func11,Zk.2 ⟨Tj Tryz.func12,Zk.2 ⟨Tj Tryz.func13,Zk.2 ⟨Tj Tryz.func14,Zk.2 ⟨Tj Tryz.func15,Zk.2 ⟨Tj Tryz.func16,Zk.2 ⟨Tj Tryz.func17,Zk.2 ⟨Tj Tryz.func18,Zk.2 ⟨Tj Tryz.func19,Zk.2 ⟨Tj Tryz.func20,Zk.2 ⟨Tj Tryz.func52,Zk.2 ⟨Tj Tryz.func53,Zk.2 ⟨Tj Tryz.func54,Zk.2 ⟨Tj Tryz.func55,Zk.2 ⟨Tj Tryz.func56,Zk.2 ⟨Tj Tryz.func57,Zk.2 ⟨Tj Tryz.func58,Zk.2 ⟨Tj Tryz.func59,Zk.2 ⟨Tj Tryz.func60,Zk.2 ⟨Tj Tryz.func61,Zk.2 ⟨Tj Tryz.func62,Zk.2 ⟨Tj Tryz.func63,Zk.2 ⟨Tj Tryz.func64,Zk.2 ⟨Tj Tryz.func65,Zk.2 ⟨Tj Tryz.func66,Zk.2 ⟨Tj Tryz.func67,Zk.2 ⟨Tj Tryz.func68,Zk.2 ⟨Tj Tryz.func69,Zk.2 ⟨Tj Tryz.func70,Zk.2 ⟨Tj Tryz.func106,Zk.2 ⟨Tj Tryz.func107,Zk.2 ⟨Tj Tryz.func108,Zk.2 ⟨Tj Tryz.func109,Zk.2 ⟨Tj Tryz.func110,Zk.2 ⟨Tj Tryz.func111,Zk.2 ⟨Tj Tryz.func112,Zk.2 ⟨Tj Tryz.func113,Zk.2 ⟨Tj Tryz.func114,Zk.2 ⟨Tj Tryz.func117,Zk.2 ⟨Tj Tryz.func118,Zk.2 ⟨Tj Tryz.func119,Zk.2 ⟨Tj Tryz.func120,Zk.2 ⟨Tj Tryz.func121,Zk.2 ⟨Tj Tryz.func122,Zk.2 ⟨Tj Tryz.func123,Zk.2 ⟨Tj Tryz.func124,Zk.2 ⟨Tj Tryz.func125,Zk.2 ⟨Tj Tryz.func126,Zk.2 ⟨Tj Tryz.func127,Zk.2 ⟨Tj Tryz.func128,Zk.2 ⟨Tj Tryz.func129,Zk.2 ⟨Tj Tryz.func130,Zk.2 ⟨Tj Tryz.func131,Zk.2 ⟨Tj Tryz.func154,Zk.2 ⟨Tj Tryz.func155,Zk.2 ⟨Tj Tryz.func156,Zk.2 ⟨Tj Tryz.func157,Zk.2 ⟨Tj Tryz.func158,Zk.2 ⟨Tj Tryz.func159,Zk.2 ⟨Tj Tryz.func160,Zk.2 ⟨Tj Tryz.func161,Zk.2 ⟨Tj Tryz.func162,Zk.2 ⟨Tj Tryz.func163,Zk.2 ⟨Tj Tryz.func164,Zk.2 ⟨Tj Tryz.func165,Zk.2 ⟨Tj Tryz.func166,Zk.2 ⟨Tj Tryz.func167,Zk.2 ⟨Tj Tryz.func168,Zk.2 ⟨Tj Tryz.func170,Zk.2 ⟨Tj Tryz.func171,Zk.2 ⟨Tj Tryz.func172,Zk.2 ⟨Tj Tryz.func183,Zk.2 ⟨Tj Tryz.func192,Zk.2 ⟨Tj Tryz.func193,Zk.2 ⟨Tj Tryz.func194,Zk.2 ⟨Tj Tryz.func196,Zk.2 ⟨Tj Tryz.func197,Zk.2 ⟨Tj Tryz.func198,Zk.2 ⟨Tj Tryz.func199,Zk.2 ⟨Tj Tryz.func200,Zk.2 ⟨Tj Tryz.func201,Zk.2 ⟨Tj Tryz.func202,Zk.2 ⟨Tj Tryz.func203,Zk.2 ⟨Tj Tryz.func204,Zk.2 ⟨Tj Tryz.func222,Zk.2 ⟨Tj Tryz.func227,Zk.2 ⟨Tj Tryz.func228,Zk.2 ⟨Tj Tryz.func239,Zk.2 ⟨Tj Tryz.func240,Zk.2 ⟨Tj Tryz.func242,Zk.2 ⟨Tj Tryz.func261,Zk.2 ⟨Tj Tryz.func263,λ_ h=>(by cases h)⟩⟩⟩⟩⟩⟩⟩⟩⟩⟩⟩⟩⟩⟩⟩⟩⟩⟩⟩⟩⟩⟩⟩⟩⟩⟩⟩⟩⟩⟩⟩⟩⟩⟩⟩⟩⟩⟩⟩⟩⟩⟩⟩⟩⟩⟩⟩⟩⟩⟩⟩⟩⟩⟩⟩⟩⟩⟩⟩⟩⟩⟩⟩⟩⟩⟩⟩⟩⟩⟩⟩⟩⟩⟩⟩⟩⟩⟩⟩⟩⟩⟩⟩⟩⟩⟩⟩⟩⟩⟩⟩⟩⟩⟩
theorem xn(f:Nat)(cf:CF)(h:fs.get f=some cf): ∃fn,Tryz.prog.funcs[f]? =some fn∧fn.name≠ "runtime.NumGoroutine" ∧fn.body.isSome=true∧cf=FT Tryz.prog fn:=Ziu (f,cf) (sf h)
end
end Go.AI
