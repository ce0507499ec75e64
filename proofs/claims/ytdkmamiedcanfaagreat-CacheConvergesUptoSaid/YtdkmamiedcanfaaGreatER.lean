/- The law's row over its plain law. -/
import Derived.Test.YtdkmamiedcanfaaGreatEP
import Derived.Test.YtdkmamiedcanfaaGreatFF
import Derived.Test.YtdkmamiedcanfaaGreatRows
set_option linter.unusedVariables false
set_option linter.unusedSimpArgs false
namespace Go.Proofs.YtdkmamiedcanfaaGreat
open Go Go.Fw
set_option maxRecDepth 100000
theorem IK:ownKnob Tryz.prog.godebug=none:=by kernel_rfl
theorem Dd{H:Type}:∀l:List (DataW H),Rows.uptoBulkAll l=(l.map Rows.uptoBulk).sum
 |[]=>rfl
 |d::l=>by simp only[Rows.uptoBulkAll,List.map_cons,List.sum_cons,Dd l]
theorem Rx{H:Type}:GK (Rows.uptoBulk (H:=H)):=by
 refine⟨fun b=>by simp[Rows.uptoBulk],fun d=>?_,fun xs ys=>?_,fun xs=>?_⟩
 ·cases d with
  |lit l=>cases l<;>simp[Rows.uptoBulk]
  |nil=>simp[Rows.uptoBulk]
  |ptr d=>simp[Rows.uptoBulk]
  |slice elems spare=>simp[Rows.uptoBulk]
  |agg parts=>simp[Rows.uptoBulk]
  |iface t d=>simp[Rows.uptoBulk]
  |map entries=>simp[Rows.uptoBulk]
  |held h=>simp[Rows.uptoBulk]
 ·simp only[Rows.uptoBulk,Dd];omega
 ·simp only[Rows.uptoBulk,Dd];omega
theorem KA{H:Type}{l:List (DataW H)}(hk:Rows.uptoSmall H l=true):(l.map Rows.uptoBulk).sum≤1048576:=by
 have h:=of_decide_eq_true hk
 rwa [Dd]at h
section
open Go.ChangeShapes Go.WideShapes Go.ChangeAt Go.RowKit
theorem Fb:Reads Tryz.prog 99 Al FE B9:=BZ (β:=ByteArray×Int×(List ByteArray)×Unit) Tryz.underlying99 (by kernel_rfl) (AD (n:=1) (BS Tryz.underlying9) (by kernel_rfl) rfl (AD (n:=1) (B7 Tryz.underlying3) (by kernel_rfl) rfl (AD (n:=1) (Cl (enc:=eS) (sz:=1) Tryz.underlying35 (BS Tryz.underlying9) (by kernel_rfl) (by decide) (fun _=>rfl)) (by kernel_rfl) rfl CS))) (fun p=>⟨p.1,p.2.1,p.2.2.1⟩) (by intro _;first|rfl|simp only[EE.down,List.cons_append,List.nil_append,List.append_nil]) (by intro _ h;exact h) (by intro _;rfl)
theorem Kh:Reads Tryz.prog 24 Om Jt Ft:=BZ (β:=ByteArray×ByteArray×(List Ah)×Unit) Tryz.underlying24 (by kernel_rfl) (AD (n:=1) (BS Tryz.underlying9) (by kernel_rfl) rfl (AD (n:=1) (BS Tryz.underlying9) (by kernel_rfl) rfl (AD (n:=1) (Cl (enc:=Al) (sz:=3) Tryz.underlying22 Fb (by kernel_rfl) (by decide) (fun _=>rfl)) (by kernel_rfl) rfl CS))) (fun p=>⟨p.1,p.2.1,p.2.2.1⟩) (by intro _;first|rfl|simp only[EE.down,List.cons_append,List.nil_append,List.append_nil]) (by intro _ h;exact h) (by intro _;rfl)
theorem Da:∀N:Nat,FJ N Tryz.prog 145 Ao DM CZ∧FJ N Tryz.prog 42 Ap CN AK:=by
 intro N
 induction N using Nat.strongRecOn with
 |ind N ih=>
  exact⟨Fz (β:=ByteArray×Ab×Unit) Tryz.underlying145 (by kernel_rfl) (fun M hM=>(Cb (n:=1) (Reads.at (BS Tryz.underlying9) M) (by kernel_rfl) rfl (Cb (n:=5) (ih M (by omega)).2 (by kernel_rfl) rfl Ia))) (fun p=>⟨p.1,p.2.1⟩) (by intro b;first|(simp only[Ao,Dy,Dx,eI,eB,eS,eK,eL,List.append_nil,List.append_assoc];done)|rfl) (by intro b h;simp only[DM,Dh,Dg];exact h) (by intro b;simp only[CZ,DJ,DI]),
   Fz (β:=Int×Int×ByteArray×(List Ab)×(List Ay)×Unit) Tryz.underlying42 (by kernel_rfl) (fun M hM=>(Cb (n:=1) (Reads.at (B7 Tryz.underlying3) M) (by kernel_rfl) rfl (Cb (n:=1) (Reads.at (B7 Tryz.underlying3) M) (by kernel_rfl) rfl (Cb (n:=1) (Reads.at (BS Tryz.underlying9) M) (by kernel_rfl) rfl (Cb (n:=1) (Gq (enc:=Ap) (sz:=5) Tryz.underlying39 (fun M' hM'=>(ih M' (by omega)).2) (by kernel_rfl) (by decide) (fun _=>by rw[Cq];rfl)) (by kernel_rfl) rfl (Cb (n:=1) (Gq (enc:=Ao) (sz:=6) Tryz.underlying40 (fun M' hM'=>(ih M' (by omega)).1) (by kernel_rfl) (by decide) (fun _=>by rw[BA];rfl)) (by kernel_rfl) rfl Ia)))))) (fun p=>⟨p.1,p.2.1,p.2.2.1,p.2.2.2.1,p.2.2.2.2.1⟩) (by intro b;first|(simp only[Ap,Dy,Dx,eI,eB,eS,eK,eL,List.append_nil,List.append_assoc];done)|rfl) (by intro b h;simp only[CN,Dh,Dg];exact h) (by intro b;simp only[AK,DJ,DI])⟩
theorem Tb:Reads Tryz.prog 145 Ao DM CZ:=Reads.all fun N=>(Da N).1
theorem FX:Reads Tryz.prog 42 Ap CN AK:=Reads.all fun N=>(Da N).2
theorem IG:Reads Tryz.prog 105 AG Kj Dk:=BZ (β:=ByteArray×(List ByteArray)×Unit) Tryz.underlying105 (by kernel_rfl) (AD (n:=1) (BS Tryz.underlying9) (by kernel_rfl) rfl (AD (n:=1) (Cl (enc:=eS) (sz:=1) Tryz.underlying35 (BS Tryz.underlying9) (by kernel_rfl) (by decide) (fun _=>rfl)) (by kernel_rfl) rfl CS)) (fun p=>⟨p.1,p.2.1⟩) (by intro _;first|rfl|simp only[EE.down,List.cons_append,List.nil_append,List.append_nil]) (by intro _ h;exact h) (by intro _;rfl)
theorem LN:Reads Tryz.prog 122 A3 N2 E3:=BZ (β:=ByteArray×ByteArray×Int×Bool×Bool×Unit) Tryz.underlying122 (by kernel_rfl) (AD (n:=1) (BS Tryz.underlying9) (by kernel_rfl) rfl (AD (n:=1) (BS Tryz.underlying9) (by kernel_rfl) rfl (AD (n:=1) (B7 Tryz.underlying3) (by kernel_rfl) rfl (AD (n:=1) (FA Tryz.underlying4) (by kernel_rfl) rfl (AD (n:=1) (FA Tryz.underlying4) (by kernel_rfl) rfl CS))))) (fun p=>⟨p.1,p.2.1,p.2.2.1,p.2.2.2.1,p.2.2.2.2.1⟩) (by intro _;first|rfl|simp only[EE.down,List.cons_append,List.nil_append,List.append_nil]) (by intro _ h;exact h) (by intro _;rfl)
theorem LO:Reads Tryz.prog 119 AY N3 E4:=BZ (β:=ByteArray×ByteArray×Unit) Tryz.underlying119 (by kernel_rfl) (AD (n:=1) (BS Tryz.underlying9) (by kernel_rfl) rfl (AD (n:=1) (BS Tryz.underlying9) (by kernel_rfl) rfl CS)) (fun p=>⟨p.1,p.2.1⟩) (by intro _;first|rfl|simp only[EE.down,List.cons_append,List.nil_append,List.append_nil]) (by intro _ h;exact h) (by intro _;rfl)
theorem N0:Reads Tryz.prog 38 Vj Q6 I1:=BZ (β:=ByteArray×ByteArray×ByteArray×Int×Int×Int×Int×Bool×Int×(List Label)×(List BO)×(List ByteArray)×(List AI)×Unit) Tryz.underlying38 (by kernel_rfl) (AD (n:=1) (BS Tryz.underlying9) (by kernel_rfl) rfl (AD (n:=1) (BS Tryz.underlying9) (by kernel_rfl) rfl (AD (n:=1) (BS Tryz.underlying9) (by kernel_rfl) rfl (AD (n:=1) (B7 Tryz.underlying3) (by kernel_rfl) rfl (AD (n:=1) (B7 Tryz.underlying3) (by kernel_rfl) rfl (AD (n:=1) (B7 Tryz.underlying3) (by kernel_rfl) rfl (AD (n:=1) (B7 Tryz.underlying3) (by kernel_rfl) rfl (AD (n:=1) (FA Tryz.underlying4) (by kernel_rfl) rfl (AD (n:=1) (B7 Tryz.underlying3) (by kernel_rfl) rfl (AD (n:=1) (Cl (enc:=AY) (sz:=2) Tryz.underlying33 LO (by kernel_rfl) (by decide) (fun _=>rfl)) (by kernel_rfl) rfl (AD (n:=1) (Cl (enc:=A3) (sz:=5) Tryz.underlying34 LN (by kernel_rfl) (by decide) (fun _=>rfl)) (by kernel_rfl) rfl (AD (n:=1) (Cl (enc:=eS) (sz:=1) Tryz.underlying35 (BS Tryz.underlying9) (by kernel_rfl) (by decide) (fun _=>rfl)) (by kernel_rfl) rfl (AD (n:=1) (Cl (enc:=AG) (sz:=2) Tryz.underlying36 IG (by kernel_rfl) (by decide) (fun _=>rfl)) (by kernel_rfl) rfl CS))))))))))))) (fun p=>⟨p.1,p.2.1,p.2.2.1,p.2.2.2.1,p.2.2.2.2.1,p.2.2.2.2.2.1,p.2.2.2.2.2.2.1,p.2.2.2.2.2.2.2.1,p.2.2.2.2.2.2.2.2.1,p.2.2.2.2.2.2.2.2.2.1,p.2.2.2.2.2.2.2.2.2.2.1,p.2.2.2.2.2.2.2.2.2.2.2.1,p.2.2.2.2.2.2.2.2.2.2.2.2.1⟩) (by intro _;first|rfl|simp only[EE.down,List.cons_append,List.nil_append,List.append_nil]) (by intro _ h;exact h) (by intro _;rfl)
theorem FY:Reads Tryz.prog 44 Ad EI Cy:=BZ (β:=Meta×Ab×Ab×Unit) Tryz.underlying44 (by kernel_rfl) (AD (n:=13) N0 (by kernel_rfl) rfl (AD (n:=5) FX (by kernel_rfl) rfl (AD (n:=5) FX (by kernel_rfl) rfl CS))) (fun p=>⟨p.1,p.2.1,p.2.2.1⟩) (by intro _;first|rfl|simp only[EE.down,List.cons_append,List.nil_append,List.append_nil]) (by intro _ h;exact h) (by intro _;rfl)
theorem QZ:Reads Tryz.prog 92 EX Nb GQ:=BZ (β:=Int×Object×ByteArray×Int×Int×Int×Unit) Tryz.underlying92 (by kernel_rfl) (AD (n:=1) (B7 Tryz.underlying3) (by kernel_rfl) rfl (AD (n:=23) FY (by kernel_rfl) rfl (AD (n:=1) (BS Tryz.underlying9) (by kernel_rfl) rfl (AD (n:=1) (B7 Tryz.underlying3) (by kernel_rfl) rfl (AD (n:=1) (B7 Tryz.underlying3) (by kernel_rfl) rfl (AD (n:=1) (B7 Tryz.underlying3) (by kernel_rfl) rfl CS)))))) (fun p=>⟨p.1,p.2.1,p.2.2.1,p.2.2.2.1,p.2.2.2.2.1,p.2.2.2.2.2.1⟩) (by intro _;first|rfl|simp only[EE.down,List.cons_append,List.nil_append,List.append_nil]) (by intro _ h;exact h) (by intro _;rfl)
theorem CacheConverges_ra:ReadsAll Tryz.prog [52,24,5,3] (α:=(List TOp)×Filter×Int×Int×Unit) (fun p=>[.c (.d (.sl (p.1.map EX))),.agg ((Om p.2.1).map .d),.c (.d (.v (.int .u8 p.2.2.1))),.c (.d (.v (.int .i64 p.2.2.2.1)))]) (fun p=>(okL Nb) p.1∧Jt p.2.1∧ok8 p.2.2.1∧okN p.2.2.2.1∧True) (fun p=>(wL GQ) p.1+(Ft p.2.1+(wN p.2.2.1+(wN p.2.2.2.1+(0))))):=(Gr (Jb (f:=fun(a:(List TOp))=>D.sl (a.map EX)) (Pr Tryz.underlying52) (Cl (enc:=EX) (sz:=28) Tryz.underlying52 QZ (by kernel_rfl) (by decide) (fun _=>rfl))) (Gr (M1 Tryz.underlying24 Kh) (Gr (Jb (f:=fun(a:Int)=>D.v (.int .u8 a)) (UP Tryz.underlying5) (YY Tryz.underlying5)) (Gr (Jb (f:=fun(a:Int)=>D.v (.int .i64 a)) (UP Tryz.underlying3) (B7 Tryz.underlying3)) UE))))
set_option maxRecDepth 100000 in
theorem CacheConverges_lifted(hp:CacheConverges.Pure)(os:Os)(started:os.Started)(H:Type)(enc:TypeId×Value→H)(F:Stop.Interp):
 ReturnsInHanded {} Tryz.checked os 6 .any ((Rows.OpenSpec.upto Rows.cacheConvergesSpec).pre6 enc Tryz.prog Tryz.f6 Rows.cacheConvergesUptoRow.domain false) (((Rows.OpenSpec.upto Rows.cacheConvergesSpec).at F).post enc Tryz.prog Tryz.f6 false true false false):=by
 refine returnsInHanded_of_cond (C:=Tryz.checked) (s:=Rows.OpenSpec.upto Rows.cacheConvergesSpec) (k:=Rows.uptoSmall) rfl IK started (by kernel_rfl) Tryz.func6
  (OpenSpec.witness (enc:=enc) (C:=Tryz.checked) (s:=Rows.OpenSpec.upto Rows.cacheConvergesSpec) (k:=Rows.uptoSmall) rfl false ⟨#[],#[.slice none 0 0,.agg #[.string ⟨#[]⟩,.string ⟨#[]⟩,.slice none 0 0],.int .u8 0,.int .i64 0],[]⟩ 8 (by kernel_rfl) (by kernel_rfl) (by kernel_rfl)
    (x:=([.nil,.agg [.lit (.string []),.lit (.string []),.nil],.lit (.int .u8 0),.lit (.int .i64 0)],[],[])) (by kernel_rfl) rfl (by kernel_rfl)) ?_
 intro W base args ds gs before hval hW _ hk _
 refine Jf (f:=6) (fn:=Tryz.f6) (s:=Rows.cacheConvergesSpec) (tb:=4) (by kernel_rfl) (by kernel_rfl) (by kernel_rfl) (by kernel_rfl) rfl (by kernel_rfl) Tryz.underlying4 (of_decide_eq_true (by kernel_rfl)) (fun H ds hd=>?_)
  (N:=1048576) (hrd:=by rw[Tryz.params6];exact CacheConverges_ra) (fun a ok wt=>?_) H enc Rows.uptoBulk Rx W base args ds gs before hval hW (KA hk)
 ·rw[Tryz.params6]at hd
  match ds,hd with
  |[d0,d1,d2,d3],_=>rfl
 ·obtain⟨x0,x1,x2,x3,_⟩:=a
  obtain⟨o0,o1,o2,o3,_⟩:=ok
  exact F6_ok (hp x0 x1 x2 x3 o0 o1 o2 o3 wt)
theorem CacheConverges_over(hp:CacheConverges.Pure):Rows.cacheConvergesUptoRow.holds Tryz.pinned (Rows.OpenSpec.upto Rows.cacheConvergesSpec):=
 OpenClaim.holds_of_cond 6 Tryz.f6 rfl rfl rfl rfl rfl rfl rfl ⟨rfl,rfl,rfl,rfl,rfl⟩ rfl rfl rfl rfl rfl (by kernel_rfl) Tryz.func6 (by kernel_rfl)
  (of_decide_eq_true (by kernel_rfl)) (by unfold Func.isWrapper;first|(rw[if_pos (by decide+kernel)];kernel_rfl)|(rw[if_neg (by decide+kernel)];exact⟨rfl,rfl⟩))
  (fun os started H enc _ F=>CacheConverges_lifted hp os started H enc F)
end
end Go.Proofs.YtdkmamiedcanfaaGreat
