/- The law's row over its plain law. -/
import Derived.Test.YtojbebejhgbfeaaGreatBP
import Derived.Test.YtojbebejhgbfeaaGreatFF
import Derived.Test.YtojbebejhgbfeaaGreatRows
open Go.Proofs.Tryz renaming underlying3->XC,underlying9->XD,underlying4->XF,prog->XG
open List renaming cons_append->XH,nil_append->XI,append_nil->XJ
open Bool renaming false->XK
set_option linter.unusedVariables false
set_option linter.unusedSimpArgs false
namespace Go.Proofs.YtojbebejhgbfeaaGreat
open Go Go.Fw
set_option maxRecDepth 100000
theorem qc:ownKnob Tryz.prog.godebug=none:=by kernel_rfl
theorem gJ{H:Type}:∀l:List (DataW H),Rows.uptoBulkAll l=(l.map Rows.uptoBulk).sum
 |[]=>rfl
 |d::l=>by simp only[Rows.uptoBulkAll,List.map_cons,List.sum_cons,gJ l]
theorem DJ{H:Type}:qG (Rows.uptoBulk (H:=H)):=by
 refine⟨fun b=>by simp[Rows.uptoBulk],fun d=>?_,fun xs ys=>?_,fun xs=>?_⟩
 ·cases d with
  |lit l=>cases l<;>simp[Rows.uptoBulk]
  |nil=>simp[Rows.uptoBulk]
  |ptr d=>simp[Rows.uptoBulk]
  |slice elems spare=>simp[Rows.uptoBulk]
  |agg parts=>simp[Rows.uptoBulk]
  |iface t d=>simp[Rows.uptoBulk]
  |map entries=>simp[Rows.uptoBulk]
  |held h=>simp[Rows.uptoBulk]
 ·simp only[Rows.uptoBulk,gJ];omega
 ·simp only[Rows.uptoBulk,gJ];omega
theorem tj{H:Type}{l:List (DataW H)}(hk:Rows.uptoSmall H l=true):(l.map Rows.uptoBulk).sum≤1048576:=by
 have h:=of_decide_eq_true hk
 rwa [gJ]at h
section
open Go.ChangeShapes Go.WideShapes Go.ChangeAt Go.RowKit
theorem jk:Reads XG 78 aC ju jK:=cw (β:=ByteArray×Int×Int×Int×Int×Bool×Bool×Unit) Tryz.underlying78 (by kernel_rfl) (az (n:=1) (da XD) (by kernel_rfl) rfl (az (n:=1) (cg XC) (by kernel_rfl) rfl (az (n:=1) (cg XC) (by kernel_rfl) rfl (az (n:=1) (cg XC) (by kernel_rfl) rfl (az (n:=1) (cg XC) (by kernel_rfl) rfl (az (n:=1) (dO XF) (by kernel_rfl) rfl (az (n:=1) (dO XF) (by kernel_rfl) rfl df))))))) (fun p=>⟨p.1,p.2.1,p.2.2.1,p.2.2.2.1,p.2.2.2.2.1,p.2.2.2.2.2.1,p.2.2.2.2.2.2.1⟩) (by intro _;first|rfl|simp only[EE.down,XH,XI,XJ]) (by intro _ h;exact h) (by intro _;rfl)
theorem mF:Reads XG 52 qo nP pM:=cw (β:=Int×Bool×Int×Int×Int×(List ag)×Int×ByteArray×ByteArray×Unit) Tryz.underlying52 (by kernel_rfl) (az (n:=1) (cg XC) (by kernel_rfl) rfl (az (n:=1) (dO XF) (by kernel_rfl) rfl (az (n:=1) (cg XC) (by kernel_rfl) rfl (az (n:=1) (cg XC) (by kernel_rfl) rfl (az (n:=1) (cg XC) (by kernel_rfl) rfl (az (n:=1) (cC (enc:=aC) (sz:=7) Tryz.underlying50 jk (by kernel_rfl) (by decide) (fun _=>rfl)) (by kernel_rfl) rfl (az (n:=1) (cg XC) (by kernel_rfl) rfl (az (n:=1) (da XD) (by kernel_rfl) rfl (az (n:=1) (da XD) (by kernel_rfl) rfl df))))))))) (fun p=>⟨p.1,p.2.1,p.2.2.1,p.2.2.2.1,p.2.2.2.2.1,p.2.2.2.2.2.1,p.2.2.2.2.2.2.1,p.2.2.2.2.2.2.2.1,p.2.2.2.2.2.2.2.2.1⟩) (by intro _;first|rfl|simp only[EE.down,XH,XI,XJ]) (by intro _ h;exact h) (by intro _;rfl)
theorem lH:Reads XG 258 cU mK nA:=cw (β:=ByteArray×ByteArray×Bool×Int×Int×Unit) Tryz.underlying258 (by kernel_rfl) (az (n:=1) (da XD) (by kernel_rfl) rfl (az (n:=1) (da XD) (by kernel_rfl) rfl (az (n:=1) (dO XF) (by kernel_rfl) rfl (az (n:=1) (cg XC) (by kernel_rfl) rfl (az (n:=1) (cg XC) (by kernel_rfl) rfl df))))) (fun p=>⟨p.1,p.2.1,p.2.2.1,p.2.2.2.1,p.2.2.2.2.1⟩) (by intro _;first|rfl|simp only[EE.down,XH,XI,XJ]) (by intro _ h;exact h) (by intro _;rfl)
theorem fk:Reads XG 249 bV iq iN:=cw (β:=ByteArray×Int×(List ByteArray)×Unit) Tryz.underlying249 (by kernel_rfl) (az (n:=1) (da XD) (by kernel_rfl) rfl (az (n:=1) (cg XC) (by kernel_rfl) rfl (az (n:=1) (cC (enc:=eS) (sz:=1) Tryz.underlying24 (da XD) (by kernel_rfl) (by decide) (fun _=>rfl)) (by kernel_rfl) rfl df))) (fun p=>⟨p.1,p.2.1,p.2.2.1⟩) (by intro _;first|rfl|simp only[EE.down,XH,XI,XJ]) (by intro _ h;exact h) (by intro _;rfl)
theorem lI:Reads XG 256 cV mL nB:=cw (β:=Int×ByteArray×(List dJ)×Bool×Unit) Tryz.underlying256 (by kernel_rfl) (az (n:=1) (cg XC) (by kernel_rfl) rfl (az (n:=1) (da XD) (by kernel_rfl) rfl (az (n:=1) (cC (enc:=bV) (sz:=3) Tryz.underlying43 fk (by kernel_rfl) (by decide) (fun _=>rfl)) (by kernel_rfl) rfl (az (n:=1) (dO XF) (by kernel_rfl) rfl df)))) (fun p=>⟨p.1,p.2.1,p.2.2.1,p.2.2.2.1⟩) (by intro _;first|rfl|simp only[EE.down,XH,XI,XJ]) (by intro _ h;exact h) (by intro _;rfl)
theorem p6:Reads XG 254 dY sP uC:=cw (β:=Bool×Bool×(List dJ)×ByteArray×Int×Unit) Tryz.underlying254 (by kernel_rfl) (az (n:=1) (dO XF) (by kernel_rfl) rfl (az (n:=1) (dO XF) (by kernel_rfl) rfl (az (n:=1) (cC (enc:=bV) (sz:=3) Tryz.underlying43 fk (by kernel_rfl) (by decide) (fun _=>rfl)) (by kernel_rfl) rfl (az (n:=1) (da XD) (by kernel_rfl) rfl (az (n:=1) (cg XC) (by kernel_rfl) rfl df))))) (fun p=>⟨p.1,p.2.1,p.2.2.1,p.2.2.2.1,p.2.2.2.2.1⟩) (by intro _;first|rfl|simp only[EE.down,XH,XI,XJ]) (by intro _ h;exact h) (by intro _;rfl)
theorem nM:Reads XG 252 dv qe sk:=cw (β:=Bool×(List dJ)×Int×Unit) Tryz.underlying252 (by kernel_rfl) (az (n:=1) (dO XF) (by kernel_rfl) rfl (az (n:=1) (cC (enc:=bV) (sz:=3) Tryz.underlying43 fk (by kernel_rfl) (by decide) (fun _=>rfl)) (by kernel_rfl) rfl (az (n:=1) (cg XC) (by kernel_rfl) rfl df))) (fun p=>⟨p.1,p.2.1,p.2.2.1⟩) (by intro _;first|rfl|simp only[EE.down,XH,XI,XJ]) (by intro _ h;exact h) (by intro _;rfl)
theorem kR:Reads XG 129 el ry uB:=cw (β:=Int×Int×Int×Int×Unit) Tryz.underlying129 (by kernel_rfl) (az (n:=1) (cg XC) (by kernel_rfl) rfl (az (n:=1) (cg XC) (by kernel_rfl) rfl (az (n:=1) (cg XC) (by kernel_rfl) rfl (az (n:=1) (cg XC) (by kernel_rfl) rfl df)))) (fun p=>⟨p.1,p.2.1,p.2.2.1,p.2.2.2.1⟩) (by intro _;first|rfl|simp only[EE.down,XH,XI,XJ]) (by intro _ h;exact h) (by intro _;rfl)
theorem hZ:Reads XG 29 qn j5 kK:=cw (β:=Int×Int×Int×Unit) Tryz.underlying29 (by kernel_rfl) (az (n:=1) (cg XC) (by kernel_rfl) rfl (az (n:=1) (cg XC) (by kernel_rfl) rfl (az (n:=1) (cg XC) (by kernel_rfl) rfl df))) (fun p=>⟨p.1,p.2.1,p.2.2.1⟩) (by intro _;first|rfl|simp only[EE.down,XH,XI,XJ]) (by intro _ h;exact h) (by intro _;rfl)
theorem mG:Reads XG 101 bo nQ jg:=cw (β:=ByteArray×ByteArray×aD×aD×(List Probe)×(List Probe)×(List Probe)×Unit) Tryz.underlying101 (by kernel_rfl) (az (n:=1) (da XD) (by kernel_rfl) rfl (az (n:=1) (da XD) (by kernel_rfl) rfl (az (n:=3) hZ (by kernel_rfl) rfl (az (n:=3) hZ (by kernel_rfl) rfl (az (n:=1) (cC (enc:=el) (sz:=4) Tryz.underlying99 kR (by kernel_rfl) (by decide) (fun _=>rfl)) (by kernel_rfl) rfl (az (n:=1) (cC (enc:=el) (sz:=4) Tryz.underlying99 kR (by kernel_rfl) (by decide) (fun _=>rfl)) (by kernel_rfl) rfl (az (n:=1) (cC (enc:=el) (sz:=4) Tryz.underlying99 kR (by kernel_rfl) (by decide) (fun _=>rfl)) (by kernel_rfl) rfl df))))))) (fun p=>⟨p.1,p.2.1,p.2.2.1,p.2.2.2.1,p.2.2.2.2.1,p.2.2.2.2.2.1,p.2.2.2.2.2.2.1⟩) (by intro _;first|rfl|simp only[EE.down,XH,XI,XJ]) (by intro _ h;exact h) (by intro _;rfl)
theorem p7:Reads XG 49 wq sQ nC:=cw (β:=ByteArray×Int×Int×Int×(List aP)×(List dJ)×(List jA)×(List kF)×(List ig)×(List ic)×Unit) Tryz.underlying49 (by kernel_rfl) (az (n:=1) (da XD) (by kernel_rfl) rfl (az (n:=1) (cg XC) (by kernel_rfl) rfl (az (n:=1) (cg XC) (by kernel_rfl) rfl (az (n:=1) (cg XC) (by kernel_rfl) rfl (az (n:=1) (cC (enc:=bo) (sz:=11) Tryz.underlying42 mG (by kernel_rfl) (by decide) (fun _=>rfl)) (by kernel_rfl) rfl (az (n:=1) (cC (enc:=bV) (sz:=3) Tryz.underlying43 fk (by kernel_rfl) (by decide) (fun _=>rfl)) (by kernel_rfl) rfl (az (n:=1) (cC (enc:=dv) (sz:=3) Tryz.underlying44 nM (by kernel_rfl) (by decide) (fun _=>rfl)) (by kernel_rfl) rfl (az (n:=1) (cC (enc:=dY) (sz:=5) Tryz.underlying45 p6 (by kernel_rfl) (by decide) (fun _=>rfl)) (by kernel_rfl) rfl (az (n:=1) (cC (enc:=cV) (sz:=4) Tryz.underlying46 lI (by kernel_rfl) (by decide) (fun _=>rfl)) (by kernel_rfl) rfl (az (n:=1) (cC (enc:=cU) (sz:=5) Tryz.underlying47 lH (by kernel_rfl) (by decide) (fun _=>rfl)) (by kernel_rfl) rfl df)))))))))) (fun p=>⟨p.1,p.2.1,p.2.2.1,p.2.2.2.1,p.2.2.2.2.1,p.2.2.2.2.2.1,p.2.2.2.2.2.2.1,p.2.2.2.2.2.2.2.1,p.2.2.2.2.2.2.2.2.1,p.2.2.2.2.2.2.2.2.2.1⟩) (by intro _;first|rfl|simp only[EE.down,XH,XI,XJ]) (by intro _ h;exact h) (by intro _;rfl)
theorem p8:Reads XG 206 bU sR uD:=cw (β:=ByteArray×(List ByteArray)×Unit) Tryz.underlying206 (by kernel_rfl) (az (n:=1) (da XD) (by kernel_rfl) rfl (az (n:=1) (cC (enc:=eS) (sz:=1) Tryz.underlying24 (da XD) (by kernel_rfl) (by decide) (fun _=>rfl)) (by kernel_rfl) rfl df)) (fun p=>⟨p.1,p.2.1⟩) (by intro _;first|rfl|simp only[EE.down,XH,XI,XJ]) (by intro _ h;exact h) (by intro _;rfl)
theorem vw:Reads XG 204 cP yN BW:=cw (β:=ByteArray×ByteArray×Int×Bool×Bool×Unit) Tryz.underlying204 (by kernel_rfl) (az (n:=1) (da XD) (by kernel_rfl) rfl (az (n:=1) (da XD) (by kernel_rfl) rfl (az (n:=1) (cg XC) (by kernel_rfl) rfl (az (n:=1) (dO XF) (by kernel_rfl) rfl (az (n:=1) (dO XF) (by kernel_rfl) rfl df))))) (fun p=>⟨p.1,p.2.1,p.2.2.1,p.2.2.2.1,p.2.2.2.2.1⟩) (by intro _;first|rfl|simp only[EE.down,XH,XI,XJ]) (by intro _ h;exact h) (by intro _;rfl)
theorem vx:Reads XG 244 cR yP BX:=cw (β:=ByteArray×ByteArray×Unit) Tryz.underlying244 (by kernel_rfl) (az (n:=1) (da XD) (by kernel_rfl) rfl (az (n:=1) (da XD) (by kernel_rfl) rfl df)) (fun p=>⟨p.1,p.2.1⟩) (by intro _;first|rfl|simp only[EE.down,XH,XI,XJ]) (by intro _ h;exact h) (by intro _;rfl)
theorem rj:Reads XG 27 II yO xp:=cw (β:=ByteArray×ByteArray×ByteArray×Int×Int×Int×Int×Bool×Int×(List Label)×(List mw)×(List ByteArray)×(List iV)×Unit) Tryz.underlying27 (by kernel_rfl) (az (n:=1) (da XD) (by kernel_rfl) rfl (az (n:=1) (da XD) (by kernel_rfl) rfl (az (n:=1) (da XD) (by kernel_rfl) rfl (az (n:=1) (cg XC) (by kernel_rfl) rfl (az (n:=1) (cg XC) (by kernel_rfl) rfl (az (n:=1) (cg XC) (by kernel_rfl) rfl (az (n:=1) (cg XC) (by kernel_rfl) rfl (az (n:=1) (dO XF) (by kernel_rfl) rfl (az (n:=1) (cg XC) (by kernel_rfl) rfl (az (n:=1) (cC (enc:=cR) (sz:=2) Tryz.underlying22 vx (by kernel_rfl) (by decide) (fun _=>rfl)) (by kernel_rfl) rfl (az (n:=1) (cC (enc:=cP) (sz:=5) Tryz.underlying23 vw (by kernel_rfl) (by decide) (fun _=>rfl)) (by kernel_rfl) rfl (az (n:=1) (cC (enc:=eS) (sz:=1) Tryz.underlying24 (da XD) (by kernel_rfl) (by decide) (fun _=>rfl)) (by kernel_rfl) rfl (az (n:=1) (cC (enc:=bU) (sz:=2) Tryz.underlying25 p8 (by kernel_rfl) (by decide) (fun _=>rfl)) (by kernel_rfl) rfl df))))))))))))) (fun p=>⟨p.1,p.2.1,p.2.2.1,p.2.2.2.1,p.2.2.2.2.1,p.2.2.2.2.2.1,p.2.2.2.2.2.2.1,p.2.2.2.2.2.2.2.1,p.2.2.2.2.2.2.2.2.1,p.2.2.2.2.2.2.2.2.2.1,p.2.2.2.2.2.2.2.2.2.2.1,p.2.2.2.2.2.2.2.2.2.2.2.1,p.2.2.2.2.2.2.2.2.2.2.2.2.1⟩) (by intro _;first|rfl|simp only[EE.down,XH,XI,XJ]) (by intro _ h;exact h) (by intro _;rfl)
theorem CK:Reads XG 54 wu H5 Gz:=cw (β:=ak×fw×cK×Unit) Tryz.underlying54 (by kernel_rfl) (az (n:=13) rj (by kernel_rfl) rfl (az (n:=10) p7 (by kernel_rfl) rfl (az (n:=9) mF (by kernel_rfl) rfl df))) (fun p=>⟨p.1,p.2.1,p.2.2.1⟩) (by intro _;first|rfl|simp only[EE.down,XH,XI,XJ]) (by intro _ h;exact h) (by intro _;rfl)
theorem lJ:Reads XG 56 bN iT dH:=cw (β:=Int×Int×ByteArray×ByteArray×Bool×an×Unit) Tryz.underlying56 (by kernel_rfl) (az (n:=1) (cg XC) (by kernel_rfl) rfl (az (n:=1) (cg XC) (by kernel_rfl) rfl (az (n:=1) (da XD) (by kernel_rfl) rfl (az (n:=1) (da XD) (by kernel_rfl) rfl (az (n:=1) (dO XF) (by kernel_rfl) rfl (az (n:=32) CK (by kernel_rfl) rfl df)))))) (fun p=>⟨p.1,p.2.1,p.2.2.1,p.2.2.2.1,p.2.2.2.2.1,p.2.2.2.2.2.1⟩) (by intro _;first|rfl|simp only[EE.down,XH,XI,XJ]) (by intro _ h;exact h) (by intro _;rfl)
theorem vy:Reads XG 81 aR yQ BZ:=cw (β:=ByteArray×Int×Int×Unit) Tryz.underlying81 (by kernel_rfl) (az (n:=1) (da XD) (by kernel_rfl) rfl (az (n:=1) (cg XC) (by kernel_rfl) rfl (az (n:=1) (cg XC) (by kernel_rfl) rfl df))) (fun p=>⟨p.1,p.2.1,p.2.2.1⟩) (by intro _;first|rfl|simp only[EE.down,XH,XI,XJ]) (by intro _ h;exact h) (by intro _;rfl)
theorem vt:Reads XG 291 dP yM BV:=cw (β:=ByteArray×ByteArray×Int×Int×Unit) Tryz.underlying291 (by kernel_rfl) (az (n:=1) (da XD) (by kernel_rfl) rfl (az (n:=1) (da XD) (by kernel_rfl) rfl (az (n:=1) (cg XC) (by kernel_rfl) rfl (az (n:=1) (cg XC) (by kernel_rfl) rfl df)))) (fun p=>⟨p.1,p.2.1,p.2.2.1,p.2.2.2.1⟩) (by intro _;first|rfl|simp only[EE.down,XH,XI,XJ]) (by intro _ h;exact h) (by intro _;rfl)
theorem vu:Reads XG 33 wo oY sj:=cw (β:=ak×aD×Int×Bool×(List pH)×Bool×Int×Bool×Bool×(List aw)×Unit) Tryz.underlying33 (by kernel_rfl) (az (n:=13) rj (by kernel_rfl) rfl (az (n:=3) hZ (by kernel_rfl) rfl (az (n:=1) (cg XC) (by kernel_rfl) rfl (az (n:=1) (dO XF) (by kernel_rfl) rfl (az (n:=1) (cC (enc:=dP) (sz:=4) Tryz.underlying30 vt (by kernel_rfl) (by decide) (fun _=>rfl)) (by kernel_rfl) rfl (az (n:=1) (dO XF) (by kernel_rfl) rfl (az (n:=1) (cg XC) (by kernel_rfl) rfl (az (n:=1) (dO XF) (by kernel_rfl) rfl (az (n:=1) (dO XF) (by kernel_rfl) rfl (az (n:=1) (cC (enc:=aR) (sz:=3) Tryz.underlying31 vy (by kernel_rfl) (by decide) (fun _=>rfl)) (by kernel_rfl) rfl df)))))))))) (fun p=>⟨p.1,p.2.1,p.2.2.1,p.2.2.2.1,p.2.2.2.2.1,p.2.2.2.2.2.1,p.2.2.2.2.2.2.1,p.2.2.2.2.2.2.2.1,p.2.2.2.2.2.2.2.2.1,p.2.2.2.2.2.2.2.2.2.1⟩) (by intro _;first|rfl|simp only[EE.down,XH,XI,XJ]) (by intro _ h;exact h) (by intro _;rfl)
theorem tw:ReadsAll XG [33,3,34] (α:=eC×Int×(List aN)×Unit) (fun p=>[.agg ((wo p.1).map .d),.c (.d (.v (.int .i64 p.2.1))),.c (.d (.sl (p.2.2.1.map bN)))]) (fun p=>oY p.1∧ln p.2.1∧(tP iT) p.2.2.1∧True) (fun p=>sj p.1+(wN p.2.1+((wL dH) p.2.2.1+(0)))):=(oW (xB Tryz.underlying33 vu) (oW (uh (f:=fun(a:Int)=>D.v (.int .i64 a)) (H6 XC) (cg XC)) (oW (uh (f:=fun(a:(List aN))=>D.sl (a.map bN)) (AP Tryz.underlying34) (cC (enc:=bN) (sz:=37) Tryz.underlying34 lJ (by kernel_rfl) (by decide) (fun _=>rfl))) HT)))
set_option maxRecDepth 100000 in
theorem oQ(hp:jV.Pure)(os:Os)(started:os.Started)(H:Type)(enc:TypeId×Value→H)(F:Stop.Interp):
 ReturnsInHanded {} Tryz.checked os 4 .any ((Rows.OpenSpec.upto Rows.agentFinishedSpec).pre6 enc XG Tryz.f4 Rows.agentFinishedUptoRow.domain XK) (((Rows.OpenSpec.upto Rows.agentFinishedSpec).at F).post enc XG Tryz.f4 XK true XK XK):=by
 refine returnsInHanded_of_cond (C:=Tryz.checked) (s:=Rows.OpenSpec.upto Rows.agentFinishedSpec) (k:=Rows.uptoSmall) rfl qc started (by kernel_rfl) Tryz.func4
  (OpenSpec.witness (enc:=enc) (C:=Tryz.checked) (s:=Rows.OpenSpec.upto Rows.agentFinishedSpec) (k:=Rows.uptoSmall) rfl XK ⟨#[],#[.agg #[.string ⟨#[]⟩,.string ⟨#[]⟩,.string ⟨#[]⟩,.int .i64 0,.int .i64 0,.int .i64 0,.int .i64 0,.bool XK,.int .i64 0,.slice none 0 0,.slice none 0 0,.slice none 0 0,.slice none 0 0,.int .i64 0,.int .i64 0,.int .i64 0,.int .i64 0,.bool XK,.slice none 0 0,.bool XK,.int .i64 0,.bool XK,.bool XK,.slice none 0 0],.int .i64 0,.slice none 0 0],[]⟩ 8 (by kernel_rfl) (by kernel_rfl) (by kernel_rfl)
    (x:=([.agg [.agg [.lit (.string []),.lit (.string []),.lit (.string []),.lit (.int .i64 0),.lit (.int .i64 0),.lit (.int .i64 0),.lit (.int .i64 0),.lit (.bool XK),.lit (.int .i64 0),.nil,.nil,.nil,.nil],.agg [.lit (.int .i64 0),.lit (.int .i64 0),.lit (.int .i64 0)],.lit (.int .i64 0),.lit (.bool XK),.nil,.lit (.bool XK),.lit (.int .i64 0),.lit (.bool XK),.lit (.bool XK),.nil],.lit (.int .i64 0),.nil],[],[])) (by kernel_rfl) rfl (by kernel_rfl)) ?_
 intro W base args ds gs before hval hW _ hk _
 refine q9 (f:=4) (fn:=Tryz.f4) (s:=Rows.agentFinishedSpec) (tb:=4) (by kernel_rfl) (by kernel_rfl) (by kernel_rfl) (by kernel_rfl) rfl (by kernel_rfl) XF (of_decide_eq_true (by kernel_rfl)) (fun H ds hd=>?_)
  (N:=1048576) (hrd:=by rw[Tryz.params4];exact tw) (fun a ok wt=>?_) H enc Rows.uptoBulk DJ W base args ds gs before hval hW (tj hk)
 ·rw[Tryz.params4]at hd
  match ds,hd with
  |[d0,d1,d2],_=>rfl
 ·obtain⟨x0,x1,x2,_⟩:=a
  obtain⟨o0,o1,o2,_⟩:=ok
  exact F4_ok (hp x0 x1 x2 o0 o1 o2 wt)
set_option maxHeartbeats 4000000 in
theorem jFacts:joinedFacts Tryz.pinned.checked.prog 4 Tryz.f4 (Rows.OpenSpec.upto Rows.agentFinishedSpec).bare Rows.agentFinishedUptoRow=true:=by
 unfold joinedFacts
 simp only[Bool.and_eq_true]
 repeat' apply And.intro
 all_goals decide+kernel
theorem AgentFinished_over(hp:jV.Pure):Rows.agentFinishedUptoRow.holds Tryz.pinned (Rows.OpenSpec.upto Rows.agentFinishedSpec):=
 OpenClaim.holds_of_cond 4 Tryz.f4 rfl rfl rfl rfl rfl rfl rfl ⟨rfl,rfl,rfl,rfl,rfl⟩ rfl rfl rfl rfl rfl (by kernel_rfl) Tryz.func4 jFacts
  (of_decide_eq_true (by kernel_rfl)) (by unfold Func.isWrapper;first|(rw[if_pos (by decide+kernel)];kernel_rfl)|(rw[if_neg (by decide+kernel)];exact⟨rfl,rfl⟩))
  (fun os started H enc _ F=>oQ hp os started H enc F)
end
end Go.Proofs.YtojbebejhgbfeaaGreat
