/- Each Go function as a function over typed data, and its walk. -/
import Derived.Test.YtojbebejhgbfeaaGreatFE
import Derived.Ground.NamesProg
import Derived.Shelf.Lay
import Derived.KernelRfl
import Derived.Test.YtojbebejhgbfeaaGreatProg
open And renaming intro->XC
open Option renaming some->XD,none->XF
open Bool renaming false->XG,true->XH
open Go renaming Program->XI,FuncId->XJ
open List renaming cons_append->XK,nil_append->XL
namespace Go.Proofs.YtojbebejhgbfeaaGreat
open Go Go.Fw Go.Shelf
set_option maxRecDepth 100000
set_option maxHeartbeats 4000000
set_option linter.unusedSimpArgs false
set_option linter.unusedVariables false
structure cp where
 cM:Int
 At:Int
 deriving DecidableEq
def fm(x:cp):List D:=[.v (.int .i64 x.cM),.v (.int .i64 x.At)]
structure Label where
 DX:ByteArray
 Value:ByteArray
 deriving DecidableEq
def yP(x:Label):Prop:=ll x.DX∧ll x.Value∧True
def BX(x:Label):Nat:=wS x.DX+(wS x.Value+0)+1
def cR(x:Label):List D:=[.v (.string x.DX),.v (.string x.Value)]
structure mw where
 bY:ByteArray
 aV:ByteArray
 jH:Int
 qF:Bool
 KK:Bool
 deriving DecidableEq
def yN(x:mw):Prop:=ll x.bY∧ll x.aV∧ln x.jH∧ll x.qF∧ll x.KK∧True
def BW(x:mw):Nat:=wS x.bY+(wS x.aV+(wN x.jH+(wN x.qF+(wN x.KK+0))))+1
def cP(x:mw):List D:=[.v (.string x.bY),.v (.string x.aV),.v (.int .i64 x.jH),.v (.bool x.qF),.v (.bool x.KK)]
structure iV where
 aV:ByteArray
 tu:(List ByteArray)
 deriving DecidableEq
def sR(x:iV):Prop:=ll x.aV∧(tP ll) x.tu∧True
def uD(x:iV):Nat:=wS x.aV+((wL wS) x.tu+0)+1
def bU(x:iV):List D:=[.v (.string x.aV),.sl (x.tu.map eS)]
structure ak where
 bY:ByteArray
 bE:ByteArray
 aV:ByteArray
 jH:Int
 cE:Int
 bA:Int
 cF:Int
 bP:Bool
 bz:Int
 cS:(List Label)
 cZ:(List mw)
 bB:(List ByteArray)
 b9:(List iV)
 deriving DecidableEq
def yO(x:ak):Prop:=ll x.bY∧ll x.bE∧ll x.aV∧ln x.jH∧ln x.cE∧ln x.bA∧ln x.cF∧ll x.bP∧ln x.bz∧(tP yP) x.cS∧(tP yN) x.cZ∧(tP ll) x.bB∧(tP sR) x.b9∧True
def xp(x:ak):Nat:=wS x.bY+(wS x.bE+(wS x.aV+(wN x.jH+(wN x.cE+(wN x.bA+(wN x.cF+(wN x.bP+(wN x.bz+((wL BX) x.cS+((wL BW) x.cZ+((wL wS) x.bB+((wL uD) x.b9+0))))))))))))+1
def II(x:ak):List D:=[.v (.string x.bY),.v (.string x.bE),.v (.string x.aV),.v (.int .i64 x.jH),.v (.int .i64 x.cE),.v (.int .i64 x.bA),.v (.int .i64 x.cF),.v (.bool x.bP),.v (.int .i64 x.bz),.sl (x.cS.map cR),.sl (x.cZ.map cP),.sl (x.bB.map eS),.sl (x.b9.map bU)]
structure aD where
 de:Int
 aG:Int
 bF:Int
 deriving DecidableEq
def j5(x:aD):Prop:=ln x.de∧ln x.aG∧ln x.bF∧True
def kK(x:aD):Nat:=wN x.de+(wN x.aG+(wN x.bF+0))+1
def qn(x:aD):List D:=[.v (.int .i64 x.de),.v (.int .i64 x.aG),.v (.int .i64 x.bF)]
structure pH where
 DX:ByteArray
 Value:ByteArray
 qE:Int
 dZ:Int
 deriving DecidableEq
def yM(x:pH):Prop:=ll x.DX∧ll x.Value∧ln x.qE∧ln x.dZ∧True
def BV(x:pH):Nat:=wS x.DX+(wS x.Value+(wN x.qE+(wN x.dZ+0)))+1
def dP(x:pH):List D:=[.v (.string x.DX),.v (.string x.Value),.v (.int .i64 x.qE),.v (.int .i64 x.dZ)]
structure aw where
 aV:ByteArray
 dW:Int
 ik:Int
 deriving DecidableEq
def yQ(x:aw):Prop:=ll x.aV∧ln x.dW∧ln x.ik∧True
def BZ(x:aw):Nat:=wS x.aV+(wN x.dW+(wN x.ik+0))+1
def aR(x:aw):List D:=[.v (.string x.aV),.v (.int .i64 x.dW),.v (.int .i64 x.ik)]
structure eC where
 ak:ak
 aJ:aD
 cJ:Int
 cY:Bool
 dQ:(List pH)
 bd:Bool
 jR:Int
 fa:Bool
 dU:Bool
 aM:(List aw)
 deriving DecidableEq
def oY(x:eC):Prop:=yO x.ak∧j5 x.aJ∧ln x.cJ∧ll x.cY∧(tP yM) x.dQ∧ll x.bd∧ln x.jR∧ll x.fa∧ll x.dU∧(tP yQ) x.aM∧True
def sj(x:eC):Nat:=xp x.ak+(kK x.aJ+(wN x.cJ+(wN x.cY+((wL BV) x.dQ+(wN x.bd+(wN x.jR+(wN x.fa+(wN x.dU+((wL BZ) x.aM+0)))))))))+1
def wo(x:eC):List D:=[.v (.string x.ak.bY),.v (.string x.ak.bE),.v (.string x.ak.aV),.v (.int .i64 x.ak.jH),.v (.int .i64 x.ak.cE),.v (.int .i64 x.ak.bA),.v (.int .i64 x.ak.cF),.v (.bool x.ak.bP),.v (.int .i64 x.ak.bz),.sl (x.ak.cS.map cR),.sl (x.ak.cZ.map cP),.sl (x.ak.bB.map eS),.sl (x.ak.b9.map bU),.v (.int .i64 x.aJ.de),.v (.int .i64 x.aJ.aG),.v (.int .i64 x.aJ.bF),.v (.int .i64 x.cJ),.v (.bool x.cY),.sl (x.dQ.map dP),.v (.bool x.bd),.v (.int .i64 x.jR),.v (.bool x.fa),.v (.bool x.dU),.sl (x.aM.map aR)]
structure dn where
 Node:eC
 cl:Int
 bq:Value
 aM:(List aw)
 bW:Int
 bO:Int
 b8:Int
def EZ(x:dn):List D:=[.v (.string x.Node.ak.bY),.v (.string x.Node.ak.bE),.v (.string x.Node.ak.aV),.v (.int .i64 x.Node.ak.jH),.v (.int .i64 x.Node.ak.cE),.v (.int .i64 x.Node.ak.bA),.v (.int .i64 x.Node.ak.cF),.v (.bool x.Node.ak.bP),.v (.int .i64 x.Node.ak.bz),.sl (x.Node.ak.cS.map cR),.sl (x.Node.ak.cZ.map cP),.sl (x.Node.ak.bB.map eS),.sl (x.Node.ak.b9.map bU),.v (.int .i64 x.Node.aJ.de),.v (.int .i64 x.Node.aJ.aG),.v (.int .i64 x.Node.aJ.bF),.v (.int .i64 x.Node.cJ),.v (.bool x.Node.cY),.sl (x.Node.dQ.map dP),.v (.bool x.Node.bd),.v (.int .i64 x.Node.jR),.v (.bool x.Node.fa),.v (.bool x.Node.dU),.sl (x.Node.aM.map aR),.v (.int .i64 x.cl),.w x.bq,.sl (x.aM.map aR),.v (.int .i64 x.bW),.v (.int .i64 x.bO),.v (.int .i64 x.b8)]
structure aj where
 ah:dn
def fx(x:aj):List D:=[.v (.string x.ah.Node.ak.bY),.v (.string x.ah.Node.ak.bE),.v (.string x.ah.Node.ak.aV),.v (.int .i64 x.ah.Node.ak.jH),.v (.int .i64 x.ah.Node.ak.cE),.v (.int .i64 x.ah.Node.ak.bA),.v (.int .i64 x.ah.Node.ak.cF),.v (.bool x.ah.Node.ak.bP),.v (.int .i64 x.ah.Node.ak.bz),.sl (x.ah.Node.ak.cS.map cR),.sl (x.ah.Node.ak.cZ.map cP),.sl (x.ah.Node.ak.bB.map eS),.sl (x.ah.Node.ak.b9.map bU),.v (.int .i64 x.ah.Node.aJ.de),.v (.int .i64 x.ah.Node.aJ.aG),.v (.int .i64 x.ah.Node.aJ.bF),.v (.int .i64 x.ah.Node.cJ),.v (.bool x.ah.Node.cY),.sl (x.ah.Node.dQ.map dP),.v (.bool x.ah.Node.bd),.v (.int .i64 x.ah.Node.jR),.v (.bool x.ah.Node.fa),.v (.bool x.ah.Node.dU),.sl (x.ah.Node.aM.map aR),.v (.int .i64 x.ah.cl),.w x.ah.bq,.sl (x.ah.aM.map aR),.v (.int .i64 x.ah.bW),.v (.int .i64 x.ah.bO),.v (.int .i64 x.ah.b8)]
structure Probe where
 gA:Int
 bb:Int
 lB:Int
 fe:Int
 deriving DecidableEq
def ry(x:Probe):Prop:=ln x.gA∧ln x.bb∧ln x.lB∧ln x.fe∧True
def uB(x:Probe):Nat:=wN x.gA+(wN x.bb+(wN x.lB+(wN x.fe+0)))+1
def el(x:Probe):List D:=[.v (.int .i64 x.gA),.v (.int .i64 x.bb),.v (.int .i64 x.lB),.v (.int .i64 x.fe)]
structure aP where
 aV:ByteArray
 aw:ByteArray
 gK:aD
 tY:aD
 jl:(List Probe)
 bd:(List Probe)
 dt:(List Probe)
 deriving DecidableEq
def nQ(x:aP):Prop:=ll x.aV∧ll x.aw∧j5 x.gK∧j5 x.tY∧(tP ry) x.jl∧(tP ry) x.bd∧(tP ry) x.dt∧True
def jg(x:aP):Nat:=wS x.aV+(wS x.aw+(kK x.gK+(kK x.tY+((wL uB) x.jl+((wL uB) x.bd+((wL uB) x.dt+0))))))+1
def bo(x:aP):List D:=[.v (.string x.aV),.v (.string x.aw),.v (.int .i64 x.gK.de),.v (.int .i64 x.gK.aG),.v (.int .i64 x.gK.bF),.v (.int .i64 x.tY.de),.v (.int .i64 x.tY.aG),.v (.int .i64 x.tY.bF),.sl (x.jl.map el),.sl (x.bd.map el),.sl (x.dt.map el)]
structure dJ where
 DX:ByteArray
 Op:Int
 DU:(List ByteArray)
 deriving DecidableEq
def iq(x:dJ):Prop:=ll x.DX∧ln x.Op∧(tP ll) x.DU∧True
def iN(x:dJ):Nat:=wS x.DX+(wN x.Op+((wL wS) x.DU+0))+1
def bV(x:dJ):List D:=[.v (.string x.DX),.v (.int .i64 x.Op),.sl (x.DU.map eS)]
structure jA where
 iM:Bool
 iL:(List dJ)
 qA:Int
 deriving DecidableEq
def qe(x:jA):Prop:=ll x.iM∧(tP iq) x.iL∧ln x.qA∧True
def sk(x:jA):Nat:=wN x.iM+((wL iN) x.iL+(wN x.qA+0))+1
def dv(x:jA):List D:=[.v (.bool x.iM),.sl (x.iL.map bV),.v (.int .i64 x.qA)]
structure kF where
 iM:Bool
 Og:Bool
 iL:(List dJ)
 lg:ByteArray
 qA:Int
 deriving DecidableEq
def sP(x:kF):Prop:=ll x.iM∧ll x.Og∧(tP iq) x.iL∧ll x.lg∧ln x.qA∧True
def uC(x:kF):Nat:=wN x.iM+(wN x.Og+((wL iN) x.iL+(wS x.lg+(wN x.qA+0))))+1
def dY(x:kF):List D:=[.v (.bool x.iM),.v (.bool x.Og),.sl (x.iL.map bV),.v (.string x.lg),.v (.int .i64 x.qA)]
structure ig where
 zO:Int
 lg:ByteArray
 iL:(List dJ)
 iM:Bool
 deriving DecidableEq
def mL(x:ig):Prop:=ln x.zO∧ll x.lg∧(tP iq) x.iL∧ll x.iM∧True
def nB(x:ig):Nat:=wN x.zO+(wS x.lg+((wL iN) x.iL+(wN x.iM+0)))+1
def cV(x:ig):List D:=[.v (.int .i64 x.zO),.v (.string x.lg),.sl (x.iL.map bV),.v (.bool x.iM)]
structure ic where
 DX:ByteArray
 Value:ByteArray
 Exists:Bool
 qE:Int
 zM:Int
 deriving DecidableEq
def mK(x:ic):Prop:=ll x.DX∧ll x.Value∧ll x.Exists∧ln x.qE∧ln x.zM∧True
def nA(x:ic):Nat:=wS x.DX+(wS x.Value+(wN x.Exists+(wN x.qE+(wN x.zM+0))))+1
def cU(x:ic):List D:=[.v (.string x.DX),.v (.string x.Value),.v (.bool x.Exists),.v (.int .i64 x.qE),.v (.int .i64 x.zM)]
structure fw where
 Node:ByteArray
 dF:Int
 ca:Int
 jB:Int
 ad:(List aP)
 dg:(List dJ)
 eH:(List jA)
 fv:(List kF)
 ij:(List ig)
 dz:(List ic)
 deriving DecidableEq
def sQ(x:fw):Prop:=ll x.Node∧ln x.dF∧ln x.ca∧ln x.jB∧(tP nQ) x.ad∧(tP iq) x.dg∧(tP qe) x.eH∧(tP sP) x.fv∧(tP mL) x.ij∧(tP mK) x.dz∧True
def nC(x:fw):Nat:=wS x.Node+(wN x.dF+(wN x.ca+(wN x.jB+((wL jg) x.ad+((wL iN) x.dg+((wL sk) x.eH+((wL uC) x.fv+((wL nB) x.ij+((wL nA) x.dz+0)))))))))+1
def wq(x:fw):List D:=[.v (.string x.Node),.v (.int .i64 x.dF),.v (.int .i64 x.ca),.v (.int .i64 x.jB),.sl (x.ad.map bo),.sl (x.dg.map bV),.sl (x.eH.map dv),.sl (x.fv.map dY),.sl (x.ij.map cV),.sl (x.dz.map cU)]
structure ag where
 aV:ByteArray
 bH:Int
 bk:Int
 bM:Int
 dZ:Int
 bd:Bool
 Started:Bool
 deriving DecidableEq
def ju(x:ag):Prop:=ll x.aV∧ln x.bH∧ln x.bk∧ln x.bM∧ln x.dZ∧ll x.bd∧ll x.Started∧True
def jK(x:ag):Nat:=wS x.aV+(wN x.bH+(wN x.bk+(wN x.bM+(wN x.dZ+(wN x.bd+(wN x.Started+0))))))+1
def aC(x:ag):List D:=[.v (.string x.aV),.v (.int .i64 x.bH),.v (.int .i64 x.bk),.v (.int .i64 x.bM),.v (.int .i64 x.dZ),.v (.bool x.bd),.v (.bool x.Started)]
structure cK where
 bC:Int
 bd:Bool
 bf:Int
 Started:Int
 bu:Int
 ad:(List ag)
 bS:Int
 bg:ByteArray
 b7:ByteArray
 deriving DecidableEq
def nP(x:cK):Prop:=ln x.bC∧ll x.bd∧ln x.bf∧ln x.Started∧ln x.bu∧(tP ju) x.ad∧ln x.bS∧ll x.bg∧ll x.b7∧True
def pM(x:cK):Nat:=wN x.bC+(wN x.bd+(wN x.bf+(wN x.Started+(wN x.bu+((wL jK) x.ad+(wN x.bS+(wS x.bg+(wS x.b7+0))))))))+1
def qo(x:cK):List D:=[.v (.int .i64 x.bC),.v (.bool x.bd),.v (.int .i64 x.bf),.v (.int .i64 x.Started),.v (.int .i64 x.bu),.sl (x.ad.map aC),.v (.int .i64 x.bS),.v (.string x.bg),.v (.string x.b7)]
structure an where
 ak:ak
 Spec:fw
 ae:cK
 deriving DecidableEq
def H5(x:an):Prop:=yO x.ak∧sQ x.Spec∧nP x.ae∧True
def Gz(x:an):Nat:=xp x.ak+(nC x.Spec+(pM x.ae+0))+1
def wu(x:an):List D:=[.v (.string x.ak.bY),.v (.string x.ak.bE),.v (.string x.ak.aV),.v (.int .i64 x.ak.jH),.v (.int .i64 x.ak.cE),.v (.int .i64 x.ak.bA),.v (.int .i64 x.ak.cF),.v (.bool x.ak.bP),.v (.int .i64 x.ak.bz),.sl (x.ak.cS.map cR),.sl (x.ak.cZ.map cP),.sl (x.ak.bB.map eS),.sl (x.ak.b9.map bU),.v (.string x.Spec.Node),.v (.int .i64 x.Spec.dF),.v (.int .i64 x.Spec.ca),.v (.int .i64 x.Spec.jB),.sl (x.Spec.ad.map bo),.sl (x.Spec.dg.map bV),.sl (x.Spec.eH.map dv),.sl (x.Spec.fv.map dY),.sl (x.Spec.ij.map cV),.sl (x.Spec.dz.map cU),.v (.int .i64 x.ae.bC),.v (.bool x.ae.bd),.v (.int .i64 x.ae.bf),.v (.int .i64 x.ae.Started),.v (.int .i64 x.ae.bu),.sl (x.ae.ad.map aC),.v (.int .i64 x.ae.bS),.v (.string x.ae.bg),.v (.string x.ae.b7)]
structure aF where
 fC:Int
 fg:Int
 Good:Bool
 Next:Int
 deriving DecidableEq
def cu(x:aF):List D:=[.v (.int .i64 x.fC),.v (.int .i64 x.fg),.v (.bool x.Good),.v (.int .i64 x.Next)]
structure af where
 an:an
 aK:(List aF)
 aq:(List cp)
 bh:Bool
 bK:Int
 deriving DecidableEq
def bT(x:af):List D:=[.v (.string x.an.ak.bY),.v (.string x.an.ak.bE),.v (.string x.an.ak.aV),.v (.int .i64 x.an.ak.jH),.v (.int .i64 x.an.ak.cE),.v (.int .i64 x.an.ak.bA),.v (.int .i64 x.an.ak.cF),.v (.bool x.an.ak.bP),.v (.int .i64 x.an.ak.bz),.sl (x.an.ak.cS.map cR),.sl (x.an.ak.cZ.map cP),.sl (x.an.ak.bB.map eS),.sl (x.an.ak.b9.map bU),.v (.string x.an.Spec.Node),.v (.int .i64 x.an.Spec.dF),.v (.int .i64 x.an.Spec.ca),.v (.int .i64 x.an.Spec.jB),.sl (x.an.Spec.ad.map bo),.sl (x.an.Spec.dg.map bV),.sl (x.an.Spec.eH.map dv),.sl (x.an.Spec.fv.map dY),.sl (x.an.Spec.ij.map cV),.sl (x.an.Spec.dz.map cU),.v (.int .i64 x.an.ae.bC),.v (.bool x.an.ae.bd),.v (.int .i64 x.an.ae.bf),.v (.int .i64 x.an.ae.Started),.v (.int .i64 x.an.ae.bu),.sl (x.an.ae.ad.map aC),.v (.int .i64 x.an.ae.bS),.v (.string x.an.ae.bg),.v (.string x.an.ae.b7),.sl (x.aK.map cu),.sl (x.aq.map fm),.v (.bool x.bh),.v (.int .i64 x.bK)]
mutual
structure w6 where
 aV:ByteArray
 V:tt
structure tt where
 bY:Int
 N:Int
 S:ByteArray
 MU:(List tt)
 tu:(List w6)
end
mutual
def pk:w6→List D
 |⟨a0,a1⟩=>[.v (.string a0)]++(na a1)
def ou:List w6→List (List D)
 |[]=>[]
 |x::r=>pk x::ou r
def na:tt→List D
 |⟨a0,a1,a2,a3,a4⟩=>[.v (.int .i64 a0)]++[.v (.int .i64 a1)]++[.v (.string a2)]++[.sl (ot a3)]++[.sl (ou a4)]
def ot:List tt→List (List D)
 |[]=>[]
 |x::r=>na x::ot r
end
theorem nd:∀l:List w6,ou l=l.map pk
 |[]=>by rw[ou];rfl
 |x::r=>by rw[ou,nd r];rfl
theorem mZ:∀l:List tt,ot l=l.map na
 |[]=>by rw[ot];rfl
 |x::r=>by rw[ot,mZ r];rfl
theorem ya(x:tt):na x=[.v (.int .i64 x.bY),.v (.int .i64 x.N),.v (.string x.S),.sl (x.MU.map na),.sl (x.tu.map pk)]:=by
 obtain⟨a0,a1,a2,a3,a4⟩:=x
 simp only[na,nd,mZ,XK,XL]
theorem Gc(x:w6):pk x=[.v (.string x.aV),.v (.int .i64 x.V.bY),.v (.int .i64 x.V.N),.v (.string x.V.S),.sl (x.V.MU.map na),.sl (x.V.tu.map pk)]:=by
 obtain⟨a0,a1⟩:=x
 simp only[pk,nd,mZ,ya,XK,XL]
structure w7 where
 bC:Int
 bd:Bool
 bf:Int
 Started:Int
 bu:Int
 ad:Value
 bS:Int
 bg:ByteArray
 b7:ByteArray
def Bo(x:w7):List D:=[.v (.int .i64 x.bC),.v (.bool x.bd),.v (.int .i64 x.bf),.v (.int .i64 x.Started),.v (.int .i64 x.bu),.w x.ad,.v (.int .i64 x.bS),.v (.string x.bg),.v (.string x.b7)]
structure gZ where
 ak:ak
 Spec:fw
 ae:w7
def ja(x:gZ):List D:=[.v (.string x.ak.bY),.v (.string x.ak.bE),.v (.string x.ak.aV),.v (.int .i64 x.ak.jH),.v (.int .i64 x.ak.cE),.v (.int .i64 x.ak.bA),.v (.int .i64 x.ak.cF),.v (.bool x.ak.bP),.v (.int .i64 x.ak.bz),.sl (x.ak.cS.map cR),.sl (x.ak.cZ.map cP),.sl (x.ak.bB.map eS),.sl (x.ak.b9.map bU),.v (.string x.Spec.Node),.v (.int .i64 x.Spec.dF),.v (.int .i64 x.Spec.ca),.v (.int .i64 x.Spec.jB),.sl (x.Spec.ad.map bo),.sl (x.Spec.dg.map bV),.sl (x.Spec.eH.map dv),.sl (x.Spec.fv.map dY),.sl (x.Spec.ij.map cV),.sl (x.Spec.dz.map cU),.v (.int .i64 x.ae.bC),.v (.bool x.ae.bd),.v (.int .i64 x.ae.bf),.v (.int .i64 x.ae.Started),.v (.int .i64 x.ae.bu),.w x.ae.ad,.v (.int .i64 x.ae.bS),.v (.string x.ae.bg),.v (.string x.ae.b7)]
structure au where
 an:gZ
 aK:Value
 aq:Value
 bh:Bool
 bK:Int
def aS(x:au):List D:=[.v (.string x.an.ak.bY),.v (.string x.an.ak.bE),.v (.string x.an.ak.aV),.v (.int .i64 x.an.ak.jH),.v (.int .i64 x.an.ak.cE),.v (.int .i64 x.an.ak.bA),.v (.int .i64 x.an.ak.cF),.v (.bool x.an.ak.bP),.v (.int .i64 x.an.ak.bz),.sl (x.an.ak.cS.map cR),.sl (x.an.ak.cZ.map cP),.sl (x.an.ak.bB.map eS),.sl (x.an.ak.b9.map bU),.v (.string x.an.Spec.Node),.v (.int .i64 x.an.Spec.dF),.v (.int .i64 x.an.Spec.ca),.v (.int .i64 x.an.Spec.jB),.sl (x.an.Spec.ad.map bo),.sl (x.an.Spec.dg.map bV),.sl (x.an.Spec.eH.map dv),.sl (x.an.Spec.fv.map dY),.sl (x.an.Spec.ij.map cV),.sl (x.an.Spec.dz.map cU),.v (.int .i64 x.an.ae.bC),.v (.bool x.an.ae.bd),.v (.int .i64 x.an.ae.bf),.v (.int .i64 x.an.ae.Started),.v (.int .i64 x.an.ae.bu),.w x.an.ae.ad,.v (.int .i64 x.an.ae.bS),.v (.string x.an.ae.bg),.v (.string x.an.ae.b7),.w x.aK,.w x.aq,.v (.bool x.bh),.v (.int .i64 x.bK)]
structure aN where
 bY:Int
 N:Int
 aV:ByteArray
 aP:ByteArray
 Ok:Bool
 an:an
 deriving DecidableEq
def iT(x:aN):Prop:=ln x.bY∧ln x.N∧ll x.aV∧ll x.aP∧ll x.Ok∧H5 x.an∧True
def dH(x:aN):Nat:=wN x.bY+(wN x.N+(wS x.aV+(wS x.aP+(wN x.Ok+(Gz x.an+0)))))+1
def bN(x:aN):List D:=[.v (.int .i64 x.bY),.v (.int .i64 x.N),.v (.string x.aV),.v (.string x.aP),.v (.bool x.Ok),.v (.string x.an.ak.bY),.v (.string x.an.ak.bE),.v (.string x.an.ak.aV),.v (.int .i64 x.an.ak.jH),.v (.int .i64 x.an.ak.cE),.v (.int .i64 x.an.ak.bA),.v (.int .i64 x.an.ak.cF),.v (.bool x.an.ak.bP),.v (.int .i64 x.an.ak.bz),.sl (x.an.ak.cS.map cR),.sl (x.an.ak.cZ.map cP),.sl (x.an.ak.bB.map eS),.sl (x.an.ak.b9.map bU),.v (.string x.an.Spec.Node),.v (.int .i64 x.an.Spec.dF),.v (.int .i64 x.an.Spec.ca),.v (.int .i64 x.an.Spec.jB),.sl (x.an.Spec.ad.map bo),.sl (x.an.Spec.dg.map bV),.sl (x.an.Spec.eH.map dv),.sl (x.an.Spec.fv.map dY),.sl (x.an.Spec.ij.map cV),.sl (x.an.Spec.dz.map cU),.v (.int .i64 x.an.ae.bC),.v (.bool x.an.ae.bd),.v (.int .i64 x.an.ae.bf),.v (.int .i64 x.an.ae.Started),.v (.int .i64 x.an.ae.bu),.sl (x.an.ae.ad.map aC),.v (.int .i64 x.an.ae.bS),.v (.string x.an.ae.bg),.v (.string x.an.ae.b7)]
structure jn where
 Node:eC
 cl:Int
 bq:(List au)
 aM:(List aw)
 bW:Int
 bO:Int
 b8:Int
def LV(x:jn):List D:=[.v (.string x.Node.ak.bY),.v (.string x.Node.ak.bE),.v (.string x.Node.ak.aV),.v (.int .i64 x.Node.ak.jH),.v (.int .i64 x.Node.ak.cE),.v (.int .i64 x.Node.ak.bA),.v (.int .i64 x.Node.ak.cF),.v (.bool x.Node.ak.bP),.v (.int .i64 x.Node.ak.bz),.sl (x.Node.ak.cS.map cR),.sl (x.Node.ak.cZ.map cP),.sl (x.Node.ak.bB.map eS),.sl (x.Node.ak.b9.map bU),.v (.int .i64 x.Node.aJ.de),.v (.int .i64 x.Node.aJ.aG),.v (.int .i64 x.Node.aJ.bF),.v (.int .i64 x.Node.cJ),.v (.bool x.Node.cY),.sl (x.Node.dQ.map dP),.v (.bool x.Node.bd),.v (.int .i64 x.Node.jR),.v (.bool x.Node.fa),.v (.bool x.Node.dU),.sl (x.Node.aM.map aR),.v (.int .i64 x.cl),.sl (x.bq.map aS),.sl (x.aM.map aR),.v (.int .i64 x.bW),.v (.int .i64 x.bO),.v (.int .i64 x.b8)]
structure gM where
 ah:jn
def Gd(x:gM):List D:=[.v (.string x.ah.Node.ak.bY),.v (.string x.ah.Node.ak.bE),.v (.string x.ah.Node.ak.aV),.v (.int .i64 x.ah.Node.ak.jH),.v (.int .i64 x.ah.Node.ak.cE),.v (.int .i64 x.ah.Node.ak.bA),.v (.int .i64 x.ah.Node.ak.cF),.v (.bool x.ah.Node.ak.bP),.v (.int .i64 x.ah.Node.ak.bz),.sl (x.ah.Node.ak.cS.map cR),.sl (x.ah.Node.ak.cZ.map cP),.sl (x.ah.Node.ak.bB.map eS),.sl (x.ah.Node.ak.b9.map bU),.v (.int .i64 x.ah.Node.aJ.de),.v (.int .i64 x.ah.Node.aJ.aG),.v (.int .i64 x.ah.Node.aJ.bF),.v (.int .i64 x.ah.Node.cJ),.v (.bool x.ah.Node.cY),.sl (x.ah.Node.dQ.map dP),.v (.bool x.ah.Node.bd),.v (.int .i64 x.ah.Node.jR),.v (.bool x.ah.Node.fa),.v (.bool x.ah.Node.dU),.sl (x.ah.Node.aM.map aR),.v (.int .i64 x.ah.cl),.sl (x.ah.bq.map aS),.sl (x.ah.aM.map aR),.v (.int .i64 x.ah.bW),.v (.int .i64 x.ah.bO),.v (.int .i64 x.ah.b8)]
structure Entry where
 key:ByteArray
 eJ:Int
 tC:Int
 dE:Int
 deriving DecidableEq
def ft(x:Entry):List D:=[.v (.string x.key),.v (.int .i64 x.eJ),.v (.int .i64 x.tC),.v (.int .i64 x.dE)]
structure ah where
 Node:eC
 cl:Int
 bq:(List af)
 aM:(List aw)
 bW:Int
 bO:Int
 b8:Int
 deriving DecidableEq
def iZ(x:ah):List D:=[.v (.string x.Node.ak.bY),.v (.string x.Node.ak.bE),.v (.string x.Node.ak.aV),.v (.int .i64 x.Node.ak.jH),.v (.int .i64 x.Node.ak.cE),.v (.int .i64 x.Node.ak.bA),.v (.int .i64 x.Node.ak.cF),.v (.bool x.Node.ak.bP),.v (.int .i64 x.Node.ak.bz),.sl (x.Node.ak.cS.map cR),.sl (x.Node.ak.cZ.map cP),.sl (x.Node.ak.bB.map eS),.sl (x.Node.ak.b9.map bU),.v (.int .i64 x.Node.aJ.de),.v (.int .i64 x.Node.aJ.aG),.v (.int .i64 x.Node.aJ.bF),.v (.int .i64 x.Node.cJ),.v (.bool x.Node.cY),.sl (x.Node.dQ.map dP),.v (.bool x.Node.bd),.v (.int .i64 x.Node.jR),.v (.bool x.Node.fa),.v (.bool x.Node.dU),.sl (x.Node.aM.map aR),.v (.int .i64 x.cl),.sl (x.bq.map bT),.sl (x.aM.map aR),.v (.int .i64 x.bW),.v (.int .i64 x.bO),.v (.int .i64 x.b8)]
structure Machine where
 ah:ah
 deriving DecidableEq
def IJ(x:Machine):List D:=[.v (.string x.ah.Node.ak.bY),.v (.string x.ah.Node.ak.bE),.v (.string x.ah.Node.ak.aV),.v (.int .i64 x.ah.Node.ak.jH),.v (.int .i64 x.ah.Node.ak.cE),.v (.int .i64 x.ah.Node.ak.bA),.v (.int .i64 x.ah.Node.ak.cF),.v (.bool x.ah.Node.ak.bP),.v (.int .i64 x.ah.Node.ak.bz),.sl (x.ah.Node.ak.cS.map cR),.sl (x.ah.Node.ak.cZ.map cP),.sl (x.ah.Node.ak.bB.map eS),.sl (x.ah.Node.ak.b9.map bU),.v (.int .i64 x.ah.Node.aJ.de),.v (.int .i64 x.ah.Node.aJ.aG),.v (.int .i64 x.ah.Node.aJ.bF),.v (.int .i64 x.ah.Node.cJ),.v (.bool x.ah.Node.cY),.sl (x.ah.Node.dQ.map dP),.v (.bool x.ah.Node.bd),.v (.int .i64 x.ah.Node.jR),.v (.bool x.ah.Node.fa),.v (.bool x.ah.Node.dU),.sl (x.ah.Node.aM.map aR),.v (.int .i64 x.ah.cl),.sl (x.ah.bq.map bT),.sl (x.ah.aM.map aR),.v (.int .i64 x.ah.bW),.v (.int .i64 x.ah.bO),.v (.int .i64 x.ah.b8)]
def EE:=PLift.up (XC (XC (XC (XC (XC @eI.eq_1 @eB.eq_1) (XC @eS.eq_1 (XC @eK.eq_1 @eL.eq_1))) (XC (XC @fm.eq_1 @cR.eq_1) (XC @cP.eq_1 (XC @bU.eq_1 @II.eq_1)))) (XC (XC (XC @qn.eq_1 @dP.eq_1) (XC @aR.eq_1 (XC @wo.eq_1 @EZ.eq_1))) (XC (XC @fx.eq_1 @el.eq_1) (XC @bo.eq_1 (XC @bV.eq_1 @dv.eq_1))))) (XC (XC (XC (XC @dY.eq_1 @cV.eq_1) (XC @cU.eq_1 (XC @wq.eq_1 @aC.eq_1))) (XC (XC @qo.eq_1 @wu.eq_1) (XC @cu.eq_1 (XC @bT.eq_1 @Gc)))) (XC (XC (XC @ya @Bo.eq_1) (XC @ja.eq_1 (XC @aS.eq_1 @bN.eq_1))) (XC (XC @LV.eq_1 @Gd.eq_1) (XC @ft.eq_1 (XC @iZ.eq_1 @IJ.eq_1))))))
theorem eM{n m:Nat}{Q:XT→St→Prop}{R:St→Prop}{s':St}{sl:List (Nat×AV)}{H':List (Option bw)}(σ:Src)(hR:R ⟨sl,H'⟩)(hB:lj s'.heap σ H' σ H':=by simp only[ZZ.down,Nat.reduceEqDiff,reduceCtorEq,Nat.reduceAdd,Nat.reduceLeDiff,Nat.reduceLT,Nat.reduceBNe,EE.down])(hk:j6 0 (s'.heap.take m) σ H':=by simp only[ZZ.down,Nat.reduceEqDiff,reduceCtorEq,Nat.reduceAdd,Nat.reduceLeDiff,Nat.reduceLT,Nat.reduceBNe,EE.down])(hs:mB s'.heap σ H' s'.aO sl:=by simp only[ZZ.down,Nat.reduceEqDiff,reduceCtorEq,Nat.reduceAdd,Nat.reduceLeDiff,Nat.reduceLT,Nat.reduceBNe,EE.down])(hn:iE σ=XH:=by rfl):sM n m R Q .normal s':=O5 σ ⟨hB,hn,hk⟩ hs hR
theorem jo{n m:Nat}{Q:XT→St→Prop}{I:Nat→St→Prop}{j:Nat}(k':Nat){s':St}{sl:List (Nat×AV)}{H':List (Option bw)}(σ:Src)(hI:I k' ⟨sl,H'⟩)(hj:k'<j)(hB:lj s'.heap σ H' σ H':=by simp only[ZZ.down,Nat.reduceEqDiff,reduceCtorEq,Nat.reduceAdd,Nat.reduceLeDiff,Nat.reduceLT,Nat.reduceBNe,EE.down])(hk:j6 0 (s'.heap.take m) σ H':=by simp only[ZZ.down,Nat.reduceEqDiff,reduceCtorEq,Nat.reduceAdd,Nat.reduceLeDiff,Nat.reduceLT,Nat.reduceBNe,EE.down])(hs:mB s'.heap σ H' s'.aO sl:=by simp only[ZZ.down,Nat.reduceEqDiff,reduceCtorEq,Nat.reduceAdd,Nat.reduceLeDiff,Nat.reduceLT,Nat.reduceBNe,EE.down])(hn:iE σ=XH:=by rfl):sL n m I j Q .normal s':=O6 k' hj σ ⟨hB,hn,hk⟩ hs hI
theorem bL{P:XI}{n m:Nat}{Q:XT→St→Prop}{s:St}{k:List Gw}{body:AC}(I:Nat→St→Prop)(k0:Nat){sl:List (Nat×AV)}{H':List (Option bw)}(σ:Src)(hI:I k0 ⟨sl,H'⟩)(hr:∀j s,I j s→sK P n m body [] (sL n m I j (sU P n m k Q)) s)(hB:lj s.heap σ H' σ H':=by simp only[ZZ.down,Nat.reduceEqDiff,reduceCtorEq,Nat.reduceAdd,Nat.reduceLeDiff,Nat.reduceLT,Nat.reduceBNe,EE.down])(hk:j6 0 (s.heap.take m) σ H':=by simp only[ZZ.down,Nat.reduceEqDiff,reduceCtorEq,Nat.reduceAdd,Nat.reduceLeDiff,Nat.reduceLT,Nat.reduceBNe,EE.down])(hs:mB s.heap σ H' s.aO sl:=by simp only[ZZ.down,Nat.reduceEqDiff,reduceCtorEq,Nat.reduceAdd,Nat.reduceLeDiff,Nat.reduceLT,Nat.reduceBNe,EE.down])(hn:iE σ=XH:=by rfl):Fe P n m (.loop body) (sU P n m k Q) s:=Pg I k0 σ ⟨hB,hn,hk⟩ hs hI hr
theorem eF{m:Nat}{h:List (Option bw)}{l res:List A1}{H':List (Option bw)}(σ:Src)(hB:lj h σ H' σ H':=by simp only[ZZ.down,Nat.reduceEqDiff,reduceCtorEq,Nat.reduceAdd,Nat.reduceLeDiff,Nat.reduceLT,Nat.reduceBNe,EE.down])(hk:j6 0 (h.take m) σ H':=by simp only[ZZ.down,Nat.reduceEqDiff,reduceCtorEq,Nat.reduceAdd,Nat.reduceLeDiff,Nat.reduceLT,Nat.reduceBNe,EE.down])(hs:yt h σ H' res l:=by simp only[ZZ.down,Nat.reduceEqDiff,reduceCtorEq,Nat.reduceAdd,Nat.reduceLeDiff,Nat.reduceLT,Nat.reduceBNe,EE.down])(hn:iE σ=XH:=by rfl):Fin m h l res H':=Iz σ ⟨hB,hn,hk⟩ hs
theorem eV{n m:Nat}{s':St}{sl:List (Nat×AV)}{H':List (Option bw)}(σ:Src)(hB:lj s'.heap σ H' σ H':=by simp only[ZZ.down,Nat.reduceEqDiff,reduceCtorEq,Nat.reduceAdd,Nat.reduceLeDiff,Nat.reduceLT,Nat.reduceBNe,EE.down])(hk:j6 0 (s'.heap.take m) σ H':=by simp only[ZZ.down,Nat.reduceEqDiff,reduceCtorEq,Nat.reduceAdd,Nat.reduceLeDiff,Nat.reduceLT,Nat.reduceBNe,EE.down])(hs:mB s'.heap σ H' s'.aO sl:=by simp only[ZZ.down,Nat.reduceEqDiff,reduceCtorEq,Nat.reduceAdd,Nat.reduceLeDiff,Nat.reduceLT,Nat.reduceBNe,EE.down])(hn:iE σ=XH:=by rfl):View n m s' ⟨sl,H'⟩:=View.sh σ ⟨hB,hn,hk⟩ hs
theorem bc{α:Type}{xs:List α}{j:Int}{y:α}(h:cI xs j=XD y):(j.toNat<xs.length)=True:=eq_true (by obtain⟨a,_,b⟩:=aQ h;omega)
theorem eX{n m i:Nat}{Rr:St→Prop}{Rx:Nat→St→Prop}{s':St}{sl:List (Nat×AV)}{H':List (Option bw)}(σ:Src)(hR:Rx i ⟨sl,H'⟩)(hB:lj s'.heap σ H' σ H':=by simp only[ZZ.down,Nat.reduceEqDiff,reduceCtorEq,Nat.reduceAdd,Nat.reduceLeDiff,Nat.reduceLT,Nat.reduceBNe,EE.down])(hk:j6 0 (s'.heap.take m) σ H':=by simp only[ZZ.down,Nat.reduceEqDiff,reduceCtorEq,Nat.reduceAdd,Nat.reduceLeDiff,Nat.reduceLT,Nat.reduceBNe,EE.down])(hs:mB s'.heap σ H' s'.aO sl:=by simp only[ZZ.down,Nat.reduceEqDiff,reduceCtorEq,Nat.reduceAdd,Nat.reduceLeDiff,Nat.reduceLT,Nat.reduceBNe,EE.down])(hn:iE σ=XH:=by rfl):xQ n m Rx Rr (.exit i) s':=P7 σ ⟨hB,hn,hk⟩ hs hR
theorem eR{n m:Nat}{Rr:St→Prop}{Rx:Nat→St→Prop}{s':St}{sl:List (Nat×AV)}{H':List (Option bw)}(σ:Src)(hR:Rr ⟨sl,H'⟩)(hB:lj s'.heap σ H' σ H':=by simp only[ZZ.down,Nat.reduceEqDiff,reduceCtorEq,Nat.reduceAdd,Nat.reduceLeDiff,Nat.reduceLT,Nat.reduceBNe,EE.down])(hk:j6 0 (s'.heap.take m) σ H':=by simp only[ZZ.down,Nat.reduceEqDiff,reduceCtorEq,Nat.reduceAdd,Nat.reduceLeDiff,Nat.reduceLT,Nat.reduceBNe,EE.down])(hs:mB s'.heap σ H' s'.aO sl:=by simp only[ZZ.down,Nat.reduceEqDiff,reduceCtorEq,Nat.reduceAdd,Nat.reduceLeDiff,Nat.reduceLT,Nat.reduceBNe,EE.down])(hn:iE σ=XH:=by rfl):xQ n m Rx Rr .ret s':=P8 σ ⟨hB,hn,hk⟩ hs hR
theorem cb{α:Type}{xs:List α}{j:Nat}{y:α}(h:cI xs (j:Int)=XD y):(j<xs.length)=True:=eq_true (by obtain⟨a,_,b⟩:=aQ h;omega)
abbrev dI(n:Int):C:= .d (.v (.int .i64 n))
abbrev dS(s:ByteArray):C:= .d (.v (.string s))
abbrev dB(b:Bool):C:= .d (.v (.bool b))
abbrev dN:C:= .d (.v (.slice XF 0 0))
abbrev dM(l:List (List D)):C:= .d (.sl l)
abbrev sq(d:Nat)(op:jS):cq:=⟨XD d,XF,op,[],.new []⟩
abbrev su(op:jS):cq:=⟨XF,XF,op,[],.new []⟩
abbrev sd(d:Nat)(op:jS)(b:List Nat):cq:=⟨XD d,XF,op,b,.new []⟩
abbrev zn(d:Nat)(op:jS)(b l:List Nat):cq:=⟨XD d,XF,op,b,.new l⟩
abbrev zl(d:Nat)(op:jS)(b l:List Nat):cq:=⟨XD d,XF,op,b,.lone l⟩
abbrev zg(d g:Nat)(w:Bool)(op:jS):cq:=⟨XD d,XD (g,w),op,[],.new []⟩
theorem ww{p q:Prop}(hq:q)(h:p=q:=by first|(simp only[VW.down,Nat.reduceEqDiff,reduceCtorEq,Nat.reduceAdd,Nat.reduceLeDiff,Nat.reduceLT,Nat.reduceBEq,Nat.reduceSub,EE.down];rfl)|rfl):p:=Eq.mpr h hq
abbrev Qa(d t:Nat):=sq d (.mv (.t t))
abbrev oc(x:C):AV:= .one (.c x)
abbrev Pz(i:Nat):AV:= .one (.c (.pt i 0))
abbrev xb(l:List C):Option bw:=XD (.box l)
abbrev Qb(d f t:Nat):=sq d (.fieldA f (.t t))
abbrev Qc(d n t:Nat):=sq d (.load (XD n) (.t t))
abbrev Qd(d t:Nat):=sq d (.load XF (.t t))
abbrev Qe(d:Nat)(n:Int):=sq d (.mv (kI n))
abbrev Qf(d:Nat)(b:Bool):=sq d (.mv (kB b))
abbrev Qg(d t:Nat):=sq d (.box (.t t))
abbrev Qh(d t:Nat):=sq d (.len (.t t))
abbrev Qi(d t u:Nat):=sq d (.pick (.t t) (.t u) (kB XG))
abbrev Qj(d t u:Nat):=sq d (.pick (.t t) (kB XH) (.t u))
abbrev Qk(d f t:Nat):=sq d (.call f [(.t t)])
abbrev Ql(d f t u:Nat):=sq d (.call f [(.t t),(.t u)])
abbrev Qm(d t:Nat)(n:Int):=sq d (.bin .add (.t t) (kI n))
abbrev Qn(d t u:Nat):=sq d (.bin .lss (.t t) (.t u))
abbrev Qo(d t n:Nat):=sq d (.ext (.t t) n)
abbrev Qp(d n t u:Nat):=sq d (.indexA n (.t t) (.t u))
abbrev Qq(d t:Nat):=sq d (.not (.t t))
abbrev Qr(d t:Nat)(n:Int):=sq d (.bin .eql (.t t) (kI n))
abbrev Qs(d g:Nat)(w:Bool)(f t:Nat):=zg d g w (.fieldA f (.t t))
abbrev Qt(d g:Nat)(w:Bool)(t:Nat):=zg d g w (.load XF (.t t))
abbrev Qu(d g:Nat)(w:Bool)(n t:Nat):=zg d g w (.load (XD n) (.t t))
abbrev Qv(d g:Nat)(w:Bool)(t:Nat):=zg d g w (.mv (.t t))
theorem zc{P:XI}{f:XJ}(A:dG){n:Nat}{pT:List RV}{c:AC}{args:List A1}{H H':List (Option bw)}{res:List A1}(hf:nv P f=XD A.er)(hA:A=⟨n,pT,c⟩)(h:sK P n H.length c [] (sE H.length pT res H') ⟨gh 0 args,H⟩)(hl:Nat.ble args.length n=XH:=by rfl):aW P f args H (bJ res) H':=by subst hA;exact pF hf (Nat.le_of_ble_eq_true hl) h
theorem bi{α β:Type}{b:β}{x:Option α}{f:α→Option β}(h:x.bind f=XD b):∃a,x=XD a∧f a=XD b:=Option.bind_eq_some_iff.1 h
theorem cN{P:XI}{f:XJ}{as':List A1}{H H':List (Option bw)}{res:AV}{as0:List A1}{s:St}{K:Out→Prop}(ρ:List Nat)
 (hc:aW P f as' H res H') (hH:mJ s.heap (rn ρ s.heap.length) (hp H) 0 H) (hK:K ⟨XD (res.ff (rn ρ s.heap.length)),e8 0 H' (rn ρ s.heap.length)⟩)
 (has:as0.map AW=as'.map (A1.ff (rn ρ s.heap.length)):=by first|rfl|simp[AW,FP,yR,A1.ff,C.ff,rn,List.length_set]) (hlive:jf (hp H) as':=by simp[jf,A1.live,C.live,hp]) (hρ:ρ.length=H.length:=by rfl) (hnd:ρ.Nodup:=by decide):my P f as0 s K:=
 E3 ρ hc has hlive hρ hnd hH hK
section
variable {P:XI} {n m:Nat} {Q:XT→St→Prop} {a b:AC} {k:List Gw} {s:St} {α:Type} {x y:Option α} {r:Option α}
theorem bG{p:Prop}[Decidable p](h:(if p then x else y)=r)(h1:p→x=r→sK P n m a k Q s)(h0:¬p→y=r→sK P n m b k Q s):sC P n m (decide p) a b k Q s:=
 dq (fun c=>h1 c ((if_pos c).symm.trans h)) fun c=>h0 c ((if_neg c).symm.trans h)
theorem ct{t:Bool}(h:(if t=XH then x else y)=r)(h1:t=XH→x=r→sK P n m a k Q s)(h0:¬t=XH→y=r→sK P n m b k Q s):sC P n m t a b k Q s:=
 Pc (fun c=>h1 c ((if_pos c).symm.trans h)) fun c=>h0 c ((if_neg c).symm.trans h)
end
section
variable {P:XI} {dst:Option Nat} {op:jS} {fD:List Nat} {lone:Lone} {rr:List cq} {s:St} {K:St→Prop} {g:Nat} {want:Bool} {hh:List (Option bw)} {i:Nat} {aO:List (Nat×AV)} {wl:List (Nat×List (Nat×bw))} {α:Type} {x y:Option α} {r:Option α}
theorem bR{p:Prop}[Decidable p](h:(if p then x else y)=r)(h1:p→x=r→sG P XH want dst op rr g s K)(h0:¬p→y=r→sG P XG want dst op rr g s K):sG P (decide p) want dst op rr g s K:=
 NM (fun c=>h1 c ((if_pos c).symm.trans h)) fun c=>h0 c ((if_neg c).symm.trans h)
theorem dK{t:Bool}(h:(if t=XH then x else y)=r)(h1:t=XH→x=r→sG P XH want dst op rr g s K)(h0:¬t=XH→y=r→sG P XG want dst op rr g s K):sG P t want dst op rr g s K:=
 LK (fun c=>h1 c ((if_pos c).symm.trans h)) fun c=>h0 c ((if_neg c).symm.trans h)
theorem ib{p:Prop}[Decidable p](h:(if p then x else y)=r)(h1:p→x=r→zR P hh XH want dst op fD lone rr i g aO wl K)(h0:¬p→y=r→zR P hh XG want dst op fD lone rr i g aO wl K):zR P hh (decide p) want dst op fD lone rr i g aO wl K:=
 NN (fun c=>h1 c ((if_pos c).symm.trans h)) fun c=>h0 c ((if_neg c).symm.trans h)
theorem iH{t:Bool}(h:(if t=XH then x else y)=r)(h1:t=XH→x=r→zR P hh XH want dst op fD lone rr i g aO wl K)(h0:¬t=XH→y=r→zR P hh XG want dst op fD lone rr i g aO wl K):zR P hh t want dst op fD lone rr i g aO wl K:=
 LL (fun c=>h1 c ((if_pos c).symm.trans h)) fun c=>h0 c ((if_neg c).symm.trans h)
end
abbrev oI(n:Int):AV:=oc (dI n)
abbrev oB(b:Bool):AV:=oc (dB b)
abbrev oS(b:ByteArray):AV:=oc (dS b)
abbrev oM(l:List (List D)):AV:=oc (dM l)
abbrev ow{α:Type}(i e:Nat)(x:List α):C:= .own i e 0 x.length XF
abbrev i2:Src:=[XD 0,XD 1]
abbrev i3:Src:=[XD 0,XD 1,XD 2]
abbrev i4:Src:=[XD 0,XD 1,XD 2,XD 3]
abbrev i5:Src:=[XD 0,XD 1,XD 2,XD 3,XD 4]
abbrev i6:Src:=[XD 0,XD 1,XD 2,XD 3,XD 4,XD 5]
abbrev i7:Src:=[XD 0,XD 1,XD 2,XD 3,XD 4,XD 5,XD 6]
def q1{p0:Prop}(h0:p0):PLift (p0):=⟨h0⟩
def q2{p0 p1:Prop}(h0:p0)(h1:p1):PLift (p0∧p1):=⟨⟨h0,h1⟩⟩
def q3{p0 p1 p2:Prop}(h0:p0)(h1:p1)(h2:p2):PLift (p0∧p1∧p2):=⟨⟨h0,⟨h1,h2⟩⟩⟩
def q4{p0 p1 p2 p3:Prop}(h0:p0)(h1:p1)(h2:p2)(h3:p3):PLift (p0∧p1∧p2∧p3):=⟨⟨h0,⟨h1,⟨h2,h3⟩⟩⟩⟩
def q5{p0 p1 p2 p3 p4:Prop}(h0:p0)(h1:p1)(h2:p2)(h3:p3)(h4:p4):PLift (p0∧p1∧p2∧p3∧p4):=⟨⟨h0,⟨h1,⟨h2,⟨h3,h4⟩⟩⟩⟩⟩
def q6{p0 p1 p2 p3 p4 p5:Prop}(h0:p0)(h1:p1)(h2:p2)(h3:p3)(h4:p4)(h5:p5):PLift (p0∧p1∧p2∧p3∧p4∧p5):=⟨⟨h0,⟨h1,⟨h2,⟨h3,⟨h4,h5⟩⟩⟩⟩⟩⟩
theorem fI{n m:Nat}{Q:XT→St→Prop}{R:St→Prop}{s':St}{sl:List (Nat×AV)}{H':List (Option bw)}(σ:Src)(hR:R ⟨sl,H'⟩)(hB:lj s'.heap σ H' σ H':=by simp only[ZZ.down,Nat.reduceEqDiff,reduceCtorEq,Nat.reduceAdd,Nat.reduceLeDiff,Nat.reduceLT,Nat.reduceBNe,EE.down,ow,List.length_set,qx.down])(hk:j6 0 (s'.heap.take m) σ H':=by simp only[ZZ.down,Nat.reduceEqDiff,reduceCtorEq,Nat.reduceAdd,Nat.reduceLeDiff,Nat.reduceLT,Nat.reduceBNe,EE.down,ow,List.length_set,qx.down])(hs:mB s'.heap σ H' s'.aO sl:=by simp only[ZZ.down,Nat.reduceEqDiff,reduceCtorEq,Nat.reduceAdd,Nat.reduceLeDiff,Nat.reduceLT,Nat.reduceBNe,EE.down,ow,List.length_set,qx.down])(hn:iE σ=XH:=by rfl):sM n m R Q .normal s':=O5 σ ⟨hB,hn,hk⟩ hs hR
theorem iI{n m:Nat}{Q:XT→St→Prop}{I:Nat→St→Prop}{j:Nat}(k':Nat){s':St}{sl:List (Nat×AV)}{H':List (Option bw)}(σ:Src)(hI:I k' ⟨sl,H'⟩)(hj:k'<j)(hB:lj s'.heap σ H' σ H':=by simp only[ZZ.down,Nat.reduceEqDiff,reduceCtorEq,Nat.reduceAdd,Nat.reduceLeDiff,Nat.reduceLT,Nat.reduceBNe,EE.down,ow,List.length_set,qx.down])(hk:j6 0 (s'.heap.take m) σ H':=by simp only[ZZ.down,Nat.reduceEqDiff,reduceCtorEq,Nat.reduceAdd,Nat.reduceLeDiff,Nat.reduceLT,Nat.reduceBNe,EE.down,ow,List.length_set,qx.down])(hs:mB s'.heap σ H' s'.aO sl:=by simp only[ZZ.down,Nat.reduceEqDiff,reduceCtorEq,Nat.reduceAdd,Nat.reduceLeDiff,Nat.reduceLT,Nat.reduceBNe,EE.down,ow,List.length_set,qx.down])(hn:iE σ=XH:=by rfl):sL n m I j Q .normal s':=O6 k' hj σ ⟨hB,hn,hk⟩ hs hI
theorem Ph{P:XI}{n m:Nat}{Q:XT→St→Prop}{s:St}{k:List Gw}{body:AC}(I:Nat→St→Prop)(k0:Nat){sl:List (Nat×AV)}{H':List (Option bw)}(σ:Src)(hI:I k0 ⟨sl,H'⟩)(hr:∀j s,I j s→sK P n m body [] (sL n m I j (sU P n m k Q)) s)(hB:lj s.heap σ H' σ H':=by simp only[ZZ.down,Nat.reduceEqDiff,reduceCtorEq,Nat.reduceAdd,Nat.reduceLeDiff,Nat.reduceLT,Nat.reduceBNe,EE.down,ow,List.length_set,qx.down])(hk:j6 0 (s.heap.take m) σ H':=by simp only[ZZ.down,Nat.reduceEqDiff,reduceCtorEq,Nat.reduceAdd,Nat.reduceLeDiff,Nat.reduceLT,Nat.reduceBNe,EE.down,ow,List.length_set,qx.down])(hs:mB s.heap σ H' s.aO sl:=by simp only[ZZ.down,Nat.reduceEqDiff,reduceCtorEq,Nat.reduceAdd,Nat.reduceLeDiff,Nat.reduceLT,Nat.reduceBNe,EE.down,ow,List.length_set,qx.down])(hn:iE σ=XH:=by rfl):Fe P n m (.loop body) (sU P n m k Q) s:=Pg I k0 σ ⟨hB,hn,hk⟩ hs hI hr
theorem tg{m:Nat}{h:List (Option bw)}{l res:List A1}{H':List (Option bw)}(σ:Src)(hB:lj h σ H' σ H':=by simp only[ZZ.down,Nat.reduceEqDiff,reduceCtorEq,Nat.reduceAdd,Nat.reduceLeDiff,Nat.reduceLT,Nat.reduceBNe,EE.down,ow,List.length_set,qx.down])(hk:j6 0 (h.take m) σ H':=by simp only[ZZ.down,Nat.reduceEqDiff,reduceCtorEq,Nat.reduceAdd,Nat.reduceLeDiff,Nat.reduceLT,Nat.reduceBNe,EE.down,ow,List.length_set,qx.down])(hs:yt h σ H' res l:=by simp only[ZZ.down,Nat.reduceEqDiff,reduceCtorEq,Nat.reduceAdd,Nat.reduceLeDiff,Nat.reduceLT,Nat.reduceBNe,EE.down,ow,List.length_set,qx.down])(hn:iE σ=XH:=by rfl):Fin m h l res H':=Iz σ ⟨hB,hn,hk⟩ hs
section
variable {P:XI} {s:St} {K:Out→Prop} {sz u:Nat} {x y i:O} {α:Type} {enc:α→List D}
theorem cQ{f:XJ}{aa':List A1}{H H':List (Option bw)}{res:AV}{aa:List A1}(ρ:List Nat)(hc:aW P f aa' H res H')(hK:K ⟨XD (res.ff (rn ρ s.heap.length)),e8 0 H' (rn ρ s.heap.length)⟩)
 (has:aa.map AW=aa'.map (A1.ff (rn ρ s.heap.length)):=by first|rfl|simp[AW,FP,yR,A1.ff,C.ff,rn,ow,List.length_set,qx.down]) (hlive:jf (hp H) aa':=by simp[jf,A1.live,C.live,hp]) (hρ:ρ.length=H.length:=by rfl) (hnd:ρ.Nodup:=by decide)
 (hH:mJ s.heap (rn ρ s.heap.length) (hp H) 0 H:=by repeat(first|exact trivial|refine⟨⟨rfl,trivial⟩,?_⟩|refine⟨⟨rfl,by simp[bw.live,C.live,hp]⟩,?_⟩|refine⟨⟨by simp only[ow,List.length_set,qx.down];rfl,by simp[bw.live,C.live,hp]⟩,?_⟩)):my P f aa s K:=E3 ρ hc has hlive hρ hnd hH hK
theorem tO{xs:List α}{id ep:Nat}{cap:Option Nat}{j:Int}{kk:IntKind}{len:Nat}{z:α}(hi:s.eZ i=XD (.int kk j))(hx:s.e9 x=XD (.own id ep 0 len cap))(hH:hp s.heap id=XD (.arr ep sz (xs.map enc)))
 (h:cI xs j=XD z) (hk:K ⟨XD (.one (.c (.pe id ep j.toNat 0))),[]⟩) (hl:len=xs.length:=by first|rfl|simp only[List.length_set]|exact(fW (fZ (by assumption))).symm):s1 P (.indexA sz x i) s K:=GH hi hx hH hl h hk
theorem lV{xs:List α}{id ep:Nat}{cap:Option Nat}{j:Int}{kk:IntKind}{len:Nat}{z:α}(hi:s.eZ i=XD (.int kk j))(hx:s.e9 x=XD (.own id ep 0 len cap))(hH:hp s.heap id=XD (.arr ep sz (xs.map enc)))
 (h:cI xs j=XD z) (hk:K ⟨XD (.one (.c (.pe id ep j.toNat 0))),[]⟩) (hl:len=xs.length:=by first|rfl|simp only[List.length_set,qx.down]|exact(fW (fZ (by assumption))).symm):s1 P (.indexA sz x i) s K:=GH hi hx hH hl h hk
theorem tA{xs ys:List α}{id ep len id2 ep2 len2:Nat}{cap:Option Nat}(hx:s.e9 x=XD (.own id ep 0 len XF))(hH:hp s.heap id=XD (.arr ep sz (xs.map enc)))(hy:s.e9 y=XD (.own id2 ep2 0 len2 cap))
 {zs:List α} (ha:jz xs ys=XD zs) (hk:K ⟨XD (.one (.c (.own id (ep+1) 0 zs.length XF))),[(id,.arr (ep+1) sz (zs.map enc))]⟩) (hl:len=xs.length:=by first|rfl|simp only[List.length_set]|exact(fW (fZ (by assumption))).symm) (hl2:len2=ys.length:=by first|rfl|simp only[List.length_set]|exact(fW (fZ (by assumption))).symm) (hH2:hp s.heap id2=XD (.arr ep2 sz (ys.map enc)):=by rfl):s1 P (.app sz u x y) s K:=xt hx hH hl hy (xC hl2 hH2) ha hk
theorem Me{xs ys:List α}{id ep len id2 ep2 len2:Nat}{cap:Option Nat}(hx:s.e9 x=XD (.own id ep 0 len XF))(hH:hp s.heap id=XD (.arr ep sz (xs.map enc)))(hy:s.e9 y=XD (.own id2 ep2 0 len2 cap))
 {zs:List α} (ha:jz xs ys=XD zs) (hk:K ⟨XD (.one (.c (.own id (ep+1) 0 zs.length XF))),[(id,.arr (ep+1) sz (zs.map enc))]⟩) (hl:len=xs.length:=by first|rfl|simp only[List.length_set,qx.down]|exact(fW (fZ (by assumption))).symm) (hl2:len2=ys.length:=by first|rfl|simp only[List.length_set,qx.down]|exact(fW (fZ (by assumption))).symm) (hH2:hp s.heap id2=XD (.arr ep2 sz (ys.map enc)):=by rfl):s1 P (.app sz u x y) s K:=xt hx hH hl hy (xC hl2 hH2) ha hk
theorem tB{ys:List α}{parts:List O}{aa:List A1}{rows:List (List D)}{wr:List (Nat×bw)}{p:Prop}(h1:xc s parts=XD aa)(h2:od s.heap sz [] aa=XD (rows,wr,p))(hk:K ⟨XD (.one (.c (.own s.heap.length 0 0 ys.length XF))),wr++[(s.heap.length,.arr 0 sz (ys.map enc))]⟩)
 (hp':p:=by simp[A1.cells]) (hr:rows=ys.map enc:=by first|rfl|(simp only[List.drop_zero,sm];rfl)|(simp only[lit,List.map_cons,List.map_nil,List.drop_zero,sm,EE.down];done)|(simp only[lit,List.map_cons,List.map_nil,List.drop_zero,sm,EE.down];rfl)):s1 P (.bslice sz parts) s K:=GI h1 h2 hp' hr hk
theorem cB{f:XJ}{aa aa':List A1}{res:AV}(hc:aW P f aa' [] res [])(hpl:res.plain=XH)(hK:K ⟨XD res,[]⟩)(hb:mr (hp s.heap) aa (·=aa'):=by simp only[mr,py,hp,List.getElem?_cons_zero,List.getElem?_cons_succ,Option.join_some,List.drop_zero,b5,true_and,Nat.zero_add,List.length_map,Nat.le_refl,yR,List.length_cons,List.length_nil,Nat.reduceAdd,Nat.reduceLeDiff,List.take_succ_cons,List.take_zero,List.take_nil,List.map_cons,List.map_nil,List.length_set,EE.down]):my P f aa s K:=Gj hc hb hpl hK
theorem Oi{f:XJ}{aa aa':List A1}{res:AV}{H':List (Option bw)}(hc:aW P f aa' [] res H')(hpl:res.flat=XH)(hfl:Bh H')(hK:K ⟨XD (res.ff (rn [] s.heap.length)),e8 0 H' (rn [] s.heap.length)⟩)(hb:mr (hp s.heap) aa (·=aa'):=by simp only[mr,py,hp,List.getElem?_cons_zero,List.getElem?_cons_succ,Option.join_some,List.drop_zero,b5,true_and,Nat.zero_add,List.length_map,Nat.le_refl,yR,List.length_cons,List.length_nil,Nat.reduceAdd,Nat.reduceLeDiff,List.take_succ_cons,List.take_zero,List.take_nil,List.map_cons,List.map_nil,List.length_set,EE.down]):my P f aa s K:=Ds hc hb hpl hfl hK
end
abbrev aE(e:Nat)(x:List ag):Option bw:=XD (.arr e 7 (x.map aC))
abbrev aU(e:Nat)(x:List aF):Option bw:=XD (.arr e 4 (x.map cu))
abbrev bQ(e:Nat)(x:List cp):Option bw:=XD (.arr e 2 (x.map fm))
abbrev ai(e:Nat)(x:List au):Option bw:=XD (.arr e 36 (x.map aS))
abbrev ba(e:Nat)(x:List aw):Option bw:=XD (.arr e 3 (x.map aR))
abbrev iS(e:Nat)(x:List ByteArray):Option bw:=XD (.arr e 1 (x.map eS))
abbrev cA(e:Nat)(x:List Entry):Option bw:=XD (.arr e 4 (x.map ft))
abbrev xa(e:Nat)(x:List Int):Option bw:=XD (.arr e 1 (x.map eI))
abbrev fj(e:Nat)(x:List af):Option bw:=XD (.arr e 36 (x.map bT))
abbrev xD(e:Nat)(x:List an):Option bw:=XD (.arr e 32 (x.map wu))
abbrev Ar(e:Nat)(x:List aP):Option bw:=XD (.arr e 11 (x.map bo))
abbrev vn(e:Nat)(x:List gZ):Option bw:=XD (.arr e 32 (x.map ja))
abbrev l9(x:ak)(t:List C):List C:=dS x.bY::dS x.bE::dS x.aV::dI x.jH::dI x.cE::dI x.bA::dI x.cF::dB x.bP::dI x.bz::dM (x.cS.map cR)::dM (x.cZ.map cP)::dM (x.bB.map eS)::dM (x.b9.map bU)::t
abbrev jO(x:eC)(t:List C):List C:=l9 x.ak (dI x.aJ.de::dI x.aJ.aG::dI x.aJ.bF::dI x.cJ::dB x.cY::dM (x.dQ.map dP)::dB x.bd::dI x.jR::dB x.fa::dB x.dU::dM (x.aM.map aR)::t)
abbrev iF(x:fw)(t:List C):List C:=dS x.Node::dI x.dF::dI x.ca::dI x.jB::dM (x.ad.map bo)::dM (x.dg.map bV)::dM (x.eH.map dv)::dM (x.fv.map dY)::dM (x.ij.map cV)::dM (x.dz.map cU)::t
abbrev vP(x:cK)(t:List C):List C:=dI x.bC::dB x.bd::dI x.bf::dI x.Started::dI x.bu::dM (x.ad.map aC)::dI x.bS::dS x.bg::dS x.b7::t
abbrev OT(x:an)(t:List C):List C:=l9 x.ak (iF x.Spec (vP x.ae (t)))
abbrev cj(x:aj):List C:=jO x.ah.Node (dI x.ah.cl::(.d (.w x.ah.bq))::dM (x.ah.aM.map aR)::dI x.ah.bW::dI x.ah.bO::dI x.ah.b8::[])
abbrev bj(x:af)(h28 h32 h33:C):List C:=l9 x.an.ak (iF x.an.Spec (dI x.an.ae.bC::dB x.an.ae.bd::dI x.an.ae.bf::dI x.an.ae.Started::dI x.an.ae.bu::h28::dI x.an.ae.bS::dS x.an.ae.bg::dS x.an.ae.b7::h32::h33::dB x.bh::dI x.bK::[]))
abbrev fG(x:aP):List C:=dS x.aV::dS x.aw::dI x.gK.de::dI x.gK.aG::dI x.gK.bF::dI x.tY.de::dI x.tY.aG::dI x.tY.bF::dM (x.jl.map el)::dM (x.bd.map el)::dM (x.dt.map el)::[]
abbrev zJ(x:Probe):List C:=dI x.gA::dI x.bb::dI x.lB::dI x.fe::[]
abbrev iK(x:aF):List C:=dI x.fC::dI x.fg::dB x.Good::dI x.Next::[]
abbrev lf(x:aw):List C:=dS x.aV::dI x.dW::dI x.ik::[]
abbrev dw(x:ag):List C:=dS x.aV::dI x.bH::dI x.bk::dI x.bM::dI x.dZ::dB x.bd::dB x.Started::[]
abbrev gb(x:af):List C:=OT x.an (dM (x.aK.map cu)::dM (x.aq.map fm)::dB x.bh::dI x.bK::[])
abbrev kh(x:af)(h23 h24 h25 h27 h28 h32 h33:C):List C:=l9 x.an.ak (iF x.an.Spec (h23::h24::h25::dI x.an.ae.Started::h27::h28::dI x.an.ae.bS::dS x.an.ae.bg::dS x.an.ae.b7::h32::h33::dB x.bh::dI x.bK::[]))
abbrev lA(x:af)(h23 h28 h32 h33:C):List C:=l9 x.an.ak (iF x.an.Spec (h23::dB x.an.ae.bd::dI x.an.ae.bf::dI x.an.ae.Started::dI x.an.ae.bu::h28::dI x.an.ae.bS::dS x.an.ae.bg::dS x.an.ae.b7::h32::h33::dB x.bh::dI x.bK::[]))
abbrev tW(x:af)(h23 h25 h28 h32 h33:C):List C:=l9 x.an.ak (iF x.an.Spec (h23::dB x.an.ae.bd::h25::dI x.an.ae.Started::dI x.an.ae.bu::h28::dI x.an.ae.bS::dS x.an.ae.bg::dS x.an.ae.b7::h32::h33::dB x.bh::dI x.bK::[]))
abbrev aZ(x:aN):List C:=dI x.bY::dI x.N::dS x.aV::dS x.aP::dB x.Ok::OT x.an ([])
abbrev jD(x:an):List C:=l9 x.ak (iF x.Spec (vP x.ae ([])))
abbrev MR(x:ak):List C:=dS x.bY::dS x.bE::dS x.aV::dI x.jH::dI x.cE::dI x.bA::dI x.cF::dB x.bP::dI x.bz::dM (x.cS.map cR)::dM (x.cZ.map cP)::dM (x.bB.map eS)::dM (x.b9.map bU)::[]
abbrev cv(x:au):List C:=l9 x.an.ak (iF x.an.Spec (dI x.an.ae.bC::dB x.an.ae.bd::dI x.an.ae.bf::dI x.an.ae.Started::dI x.an.ae.bu::(.d (.w x.an.ae.ad))::dI x.an.ae.bS::dS x.an.ae.bg::dS x.an.ae.b7::(.d (.w x.aK))::(.d (.w x.aq))::dB x.bh::dI x.bK::[]))
abbrev fc(x:gM)(h25:C):List C:=jO x.ah.Node (dI x.ah.cl::h25::dM (x.ah.aM.map aR)::dI x.ah.bW::dI x.ah.bO::dI x.ah.b8::[])
abbrev b6(x:aD):List C:=dI x.de::dI x.aG::dI x.bF::[]
abbrev wM(x:fw):List C:=dS x.Node::dI x.dF::dI x.ca::dI x.jB::dM (x.ad.map bo)::dM (x.dg.map bV)::dM (x.eH.map dv)::dM (x.fv.map dY)::dM (x.ij.map cV)::dM (x.dz.map cU)::[]
abbrev BH(x:gM)(h25 h26:C):List C:=jO x.ah.Node (dI x.ah.cl::h25::h26::dI x.ah.bW::dI x.ah.bO::dI x.ah.b8::[])
abbrev Kr(x:Entry):List C:=dS x.key::dI x.eJ::dI x.tC::dI x.dE::[]
abbrev BD(x:gZ):List C:=l9 x.ak (iF x.Spec (dI x.ae.bC::dB x.ae.bd::dI x.ae.bf::dI x.ae.Started::dI x.ae.bu::(.d (.w x.ae.ad))::dI x.ae.bS::dS x.ae.bg::dS x.ae.b7::[]))
abbrev dy(x:ah):List C:=jO x.Node (dI x.cl::dM (x.bq.map bT)::dM (x.aM.map aR)::dI x.bW::dI x.bO::dI x.b8::[])
abbrev gW(x:ah)(h25 h26:C):List C:=jO x.Node (dI x.cl::h25::h26::dI x.bW::dI x.bO::dI x.b8::[])
abbrev wO(x:Machine)(h25 h26:C):List C:=jO x.ah.Node (dI x.ah.cl::h25::h26::dI x.ah.bW::dI x.ah.bO::dI x.ah.b8::[])
abbrev jy(x:eC):List C:=l9 x.ak (dI x.aJ.de::dI x.aJ.aG::dI x.aJ.bF::dI x.cJ::dB x.cY::dM (x.dQ.map dP)::dB x.bd::dI x.jR::dB x.fa::dB x.dU::dM (x.aM.map aR)::[])
abbrev aA(x:aj)(h25:C):List C:=jO x.ah.Node (dI x.ah.cl::h25::dM (x.ah.aM.map aR)::dI x.ah.bW::dI x.ah.bO::dI x.ah.b8::[])
abbrev BG(x:aj)(h25 h27:C):List C:=jO x.ah.Node (dI x.ah.cl::h25::dM (x.ah.aM.map aR)::h27::dI x.ah.bO::dI x.ah.b8::[])
abbrev BJ(x:af)(h23 h24 h27 h28 h31 h32 h33:C):List C:=l9 x.an.ak (iF x.an.Spec (h23::h24::dI x.an.ae.bf::dI x.an.ae.Started::h27::h28::dI x.an.ae.bS::dS x.an.ae.bg::h31::h32::h33::dB x.bh::dI x.bK::[]))
abbrev qw(x:an)(h23 h24 h25 h26 h27 h28 h29 h30 h31:C):List C:=l9 x.ak (iF x.Spec (h23::h24::h25::h26::h27::h28::h29::h30::h31::[]))
abbrev lz(x:aj)(h25 h29:C):List C:=jO x.ah.Node (dI x.ah.cl::h25::dM (x.ah.aM.map aR)::dI x.ah.bW::dI x.ah.bO::h29::[])
abbrev BK(x:ah)(h26:C):List C:=jO x.Node (dI x.cl::dM (x.bq.map bT)::h26::dI x.bW::dI x.bO::dI x.b8::[])
abbrev tV(x:af)(h28:C):List C:=l9 x.an.ak (iF x.an.Spec (dI x.an.ae.bC::dB x.an.ae.bd::dI x.an.ae.bf::dI x.an.ae.Started::dI x.an.ae.bu::h28::dI x.an.ae.bS::dS x.an.ae.bg::dS x.an.ae.b7::dM (x.aK.map cu)::dM (x.aq.map fm)::dB x.bh::dI x.bK::[]))
abbrev BF(x:aj)(h24 h25:C):List C:=jO x.ah.Node (h24::h25::dM (x.ah.aM.map aR)::dI x.ah.bW::dI x.ah.bO::dI x.ah.b8::[])
abbrev BE(x:aj)(h25 h26:C):List C:=jO x.ah.Node (dI x.ah.cl::h25::h26::dI x.ah.bW::dI x.ah.bO::dI x.ah.b8::[])
abbrev BI(x:Machine):List C:=jO x.ah.Node (dI x.ah.cl::dM (x.ah.bq.map bT)::dM (x.ah.aM.map aR)::dI x.ah.bW::dI x.ah.bO::dI x.ah.b8::[])
abbrev qy(x:cK):List C:=dI x.bC::dB x.bd::dI x.bf::dI x.Started::dI x.bu::dM (x.ad.map aC)::dI x.bS::dS x.bg::dS x.b7::[]
abbrev Fk:List C:=[dS ⟨#[]⟩,dS ⟨#[]⟩,dS ⟨#[]⟩,dI 0,dI 0,dI 0,dI 0,dB XG,dI 0,dN,dN,dN,dN,dS ⟨#[]⟩,dI 0,dI 0,dI 0,dN,dN,dN,dN,dN,dN,dI 0,dB XG,dI 0,dI 0,dI 0,dN,dI 0,dS ⟨#[]⟩,dS ⟨#[]⟩,dN,dN,dB XG,dI 0]
abbrev L8:List C:=[dS ⟨#[]⟩,dS ⟨#[]⟩,dS ⟨#[]⟩,dI 0,dI 0,dI 0,dI 0,dB XG,dI 0,dN,dN,dN,dN,dS ⟨#[]⟩,dI 0,dI 0,dI 0,dN,dN,dN,dN,dN,dN,dI 0,dB XG,dI 0,dI 0,dI 0,dN,dI 0,dS ⟨#[]⟩,dS ⟨#[]⟩]
abbrev zQ:List C:=[dS ⟨#[]⟩,dS ⟨#[]⟩,dS ⟨#[]⟩,dI 0,dI 0,dI 0,dI 0,dB XG,dI 0,dN,dN,dN,dN,dI 0,dI 0,dI 0,dI 0,dB XG,dN,dB XG,dI 0,dB XG,dB XG,dN,dI 0,dN,dN,dI 0,dI 0,dI 0]
abbrev gx:List C:=[dS (⟨#[]⟩:ByteArray),dS (⟨#[]⟩:ByteArray),dS (⟨#[]⟩:ByteArray),dI 0,dI 0,dI 0,dI 0,dB XG,dI 0,dN,dN,dN,dN,dI 0,dI 0,dI 0,dI 0,dB XG,dN,dB XG,dI 0,dB XG,dB XG,dN,dI 0,dN,dN,dI 0,dI 0,dI 0]
abbrev MV:List C:=[dS ⟨#[]⟩,dS ⟨#[]⟩,dS ⟨#[]⟩,dI 0,dI 0,dI 0,dI 0,dB XG,dI 0,dN,dN,dN,dN,dI 0,dI 0,dI 0,dI 0,dB XG,dN,dB XG,dI 0,dB XG,dB XG,dN]
abbrev L7:List C:=[dS (⟨#[]⟩:ByteArray),dS (⟨#[]⟩:ByteArray),dS (⟨#[]⟩:ByteArray),dI 0,dI 0,dI 0,dI 0,dB XG,dI 0,dN,dN,dN,dN,dI 0,dI 0,dI 0,dI 0,dB XG,dN,dB XG,dI 0,dB XG,dB XG,dN]
abbrev QJ:List C:=[dS ⟨#[]⟩,dS ⟨#[]⟩,dS ⟨#[]⟩,dI 0,dI 0,dI 0,dI 0,dB XG,dI 0,dN,dN,dN,dN]
abbrev Ol:List C:=[dI 0,dI 0,dS ⟨#[]⟩,dS ⟨#[]⟩,dB XG,dS ⟨#[]⟩,dS ⟨#[]⟩,dS ⟨#[]⟩,dI 0,dI 0,dI 0,dI 0,dB XG,dI 0,dN,dN,dN,dN,dS ⟨#[]⟩,dI 0,dI 0,dI 0,dN,dN,dN,dN,dN,dN,dI 0,dB XG,dI 0,dI 0,dI 0,dN,dI 0,dS ⟨#[]⟩,dS ⟨#[]⟩]
abbrev hM(b:aj)(x:af)(i j k:Nat)(u:List ag)(v:List aF)(w:List cp)(t:List (Option bw)):List (Option bw):=xb (cj b)::xb (bj x (ow 2 i u) (ow 3 j v) (ow 4 k w))::aE i u::aU j v::bQ k w::t
end Go.Proofs.YtojbebejhgbfeaaGreat
