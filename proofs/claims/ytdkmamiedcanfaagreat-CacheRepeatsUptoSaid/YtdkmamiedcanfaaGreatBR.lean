/- The law's row over its plain law. -/
import Derived.Test.YtdkmamiedcanfaaGreatBP
import Derived.Test.YtdkmamiedcanfaaGreatFF
import Derived.Test.YtdkmamiedcanfaaGreatRows
set_option linter.unusedVariables false
set_option linter.unusedSimpArgs false
namespace Go.Proofs.YtdkmamiedcanfaaGreat
open Go Go.Fw
set_option maxRecDepth 100000
theorem ownKnob_ok:ownKnob Tryz.prog.godebug=none:=by kernel_rfl
theorem bulkAll_sum{H:Type}:∀l:List (DataW H),Rows.uptoBulkAll l=(l.map Rows.uptoBulk).sum
 |[]=>rfl
 |d::l=>by simp only[Rows.uptoBulkAll,List.map_cons,List.sum_cons,bulkAll_sum l]
theorem bulkOk{H:Type}:BulkOk (Rows.uptoBulk (H:=H)):=by
 refine⟨fun b=>by simp[Rows.uptoBulk],fun d=>?_,fun xs ys=>?_,fun xs=>?_⟩
 ·cases d with
  |lit l=>cases l<;>simp[Rows.uptoBulk]
  |nil=>simp[Rows.uptoBulk]
  |ptr d=>simp[Rows.uptoBulk]
  |slice elems spare=>simp[Rows.uptoBulk]
  |agg parts=>simp[Rows.uptoBulk]
  |iface t d=>simp[Rows.uptoBulk]
  |map entries=>simp[Rows.uptoBulk]
  |held h=>simp[Rows.uptoBulk]
 ·simp only[Rows.uptoBulk,bulkAll_sum];omega
 ·simp only[Rows.uptoBulk,bulkAll_sum];omega
theorem bulkSmall{H:Type}{l:List (DataW H)}(hk:Rows.uptoSmall H l=true):(l.map Rows.uptoBulk).sum≤1048576:=by
 have h:=of_decide_eq_true hk
 rwa [bulkAll_sum]at h
section
open Go.ChangeShapes Go.WideShapes Go.ChangeAt Go.RowKit
theorem rdN_TField_TValue:∀N:Nat,ReadsN N Tryz.prog 145 eTField okTField wTField∧ReadsN N Tryz.prog 42 eTValue okTValue wTValue:=by
 intro N
 induction N using Nat.strongRecOn with
 |ind N ih=>
  exact⟨rd_struct_n (β:=ByteArray×TValue×Unit) Tryz.underlying145 (by kernel_rfl) (fun M hM=>(rdF_cons_n (n:=1) (Reads.at (rd_str Tryz.underlying9) M) (by kernel_rfl) rfl (rdF_cons_n (n:=5) (ih M (by omega)).2 (by kernel_rfl) rfl rdF_nil_n))) (fun p=>⟨p.1,p.2.1⟩) (by intro b;first|(simp only[eTField,eTFieldL_map,eTValueL_map,eI,eB,eS,eK,eL,List.append_nil,List.append_assoc];done)|rfl) (by intro b h;simp only[okTField,okTFieldL_iff,okTValueL_iff];exact h) (by intro b;simp only[wTField,wTFieldL_eq,wTValueL_eq]),
   rd_struct_n (β:=Int×Int×ByteArray×(List TValue)×(List TField)×Unit) Tryz.underlying42 (by kernel_rfl) (fun M hM=>(rdF_cons_n (n:=1) (Reads.at (rd_int Tryz.underlying3) M) (by kernel_rfl) rfl (rdF_cons_n (n:=1) (Reads.at (rd_int Tryz.underlying3) M) (by kernel_rfl) rfl (rdF_cons_n (n:=1) (Reads.at (rd_str Tryz.underlying9) M) (by kernel_rfl) rfl (rdF_cons_n (n:=1) (rd_slice_n (enc:=eTValue) (sz:=5) Tryz.underlying39 (fun M' hM'=>(ih M' (by omega)).2) (by kernel_rfl) (by decide) (fun _=>by rw[eTValue_u];rfl)) (by kernel_rfl) rfl (rdF_cons_n (n:=1) (rd_slice_n (enc:=eTField) (sz:=6) Tryz.underlying40 (fun M' hM'=>(ih M' (by omega)).1) (by kernel_rfl) (by decide) (fun _=>by rw[eTField_u];rfl)) (by kernel_rfl) rfl rdF_nil_n)))))) (fun p=>⟨p.1,p.2.1,p.2.2.1,p.2.2.2.1,p.2.2.2.2.1⟩) (by intro b;first|(simp only[eTValue,eTFieldL_map,eTValueL_map,eI,eB,eS,eK,eL,List.append_nil,List.append_assoc];done)|rfl) (by intro b h;simp only[okTValue,okTFieldL_iff,okTValueL_iff];exact h) (by intro b;simp only[wTValue,wTFieldL_eq,wTValueL_eq])⟩
theorem rd_TField:Reads Tryz.prog 145 eTField okTField wTField:=Reads.all fun N=>(rdN_TField_TValue N).1
theorem rd_TValue:Reads Tryz.prog 42 eTValue okTValue wTValue:=Reads.all fun N=>(rdN_TField_TValue N).2
theorem rd_Manager:Reads Tryz.prog 105 eManager okManager wManager:=rd_struct (β:=ByteArray×(List ByteArray)×Unit) Tryz.underlying105 (by kernel_rfl) (rdF_cons (n:=1) (rd_str Tryz.underlying9) (by kernel_rfl) rfl (rdF_cons (n:=1) (rd_slice (enc:=eS) (sz:=1) Tryz.underlying35 (rd_str Tryz.underlying9) (by kernel_rfl) (by decide) (fun _=>rfl)) (by kernel_rfl) rfl rdF_nil)) (fun p=>⟨p.1,p.2.1⟩) (by intro _;first|rfl|simp only[EE.down,List.cons_append,List.nil_append,List.append_nil]) (by intro _ h;exact h) (by intro _;rfl)
theorem rd_Owner:Reads Tryz.prog 122 eOwner okOwner wOwner:=rd_struct (β:=ByteArray×ByteArray×Int×Bool×Bool×Unit) Tryz.underlying122 (by kernel_rfl) (rdF_cons (n:=1) (rd_str Tryz.underlying9) (by kernel_rfl) rfl (rdF_cons (n:=1) (rd_str Tryz.underlying9) (by kernel_rfl) rfl (rdF_cons (n:=1) (rd_int Tryz.underlying3) (by kernel_rfl) rfl (rdF_cons (n:=1) (rd_bool Tryz.underlying4) (by kernel_rfl) rfl (rdF_cons (n:=1) (rd_bool Tryz.underlying4) (by kernel_rfl) rfl rdF_nil))))) (fun p=>⟨p.1,p.2.1,p.2.2.1,p.2.2.2.1,p.2.2.2.2.1⟩) (by intro _;first|rfl|simp only[EE.down,List.cons_append,List.nil_append,List.append_nil]) (by intro _ h;exact h) (by intro _;rfl)
theorem rd_Label:Reads Tryz.prog 119 eLabel okLabel wLabel:=rd_struct (β:=ByteArray×ByteArray×Unit) Tryz.underlying119 (by kernel_rfl) (rdF_cons (n:=1) (rd_str Tryz.underlying9) (by kernel_rfl) rfl (rdF_cons (n:=1) (rd_str Tryz.underlying9) (by kernel_rfl) rfl rdF_nil)) (fun p=>⟨p.1,p.2.1⟩) (by intro _;first|rfl|simp only[EE.down,List.cons_append,List.nil_append,List.append_nil]) (by intro _ h;exact h) (by intro _;rfl)
theorem rd_Meta:Reads Tryz.prog 38 eMeta okMeta wMeta:=rd_struct (β:=ByteArray×ByteArray×ByteArray×Int×Int×Int×Int×Bool×Int×(List Label)×(List Owner)×(List ByteArray)×(List Manager)×Unit) Tryz.underlying38 (by kernel_rfl) (rdF_cons (n:=1) (rd_str Tryz.underlying9) (by kernel_rfl) rfl (rdF_cons (n:=1) (rd_str Tryz.underlying9) (by kernel_rfl) rfl (rdF_cons (n:=1) (rd_str Tryz.underlying9) (by kernel_rfl) rfl (rdF_cons (n:=1) (rd_int Tryz.underlying3) (by kernel_rfl) rfl (rdF_cons (n:=1) (rd_int Tryz.underlying3) (by kernel_rfl) rfl (rdF_cons (n:=1) (rd_int Tryz.underlying3) (by kernel_rfl) rfl (rdF_cons (n:=1) (rd_int Tryz.underlying3) (by kernel_rfl) rfl (rdF_cons (n:=1) (rd_bool Tryz.underlying4) (by kernel_rfl) rfl (rdF_cons (n:=1) (rd_int Tryz.underlying3) (by kernel_rfl) rfl (rdF_cons (n:=1) (rd_slice (enc:=eLabel) (sz:=2) Tryz.underlying33 rd_Label (by kernel_rfl) (by decide) (fun _=>rfl)) (by kernel_rfl) rfl (rdF_cons (n:=1) (rd_slice (enc:=eOwner) (sz:=5) Tryz.underlying34 rd_Owner (by kernel_rfl) (by decide) (fun _=>rfl)) (by kernel_rfl) rfl (rdF_cons (n:=1) (rd_slice (enc:=eS) (sz:=1) Tryz.underlying35 (rd_str Tryz.underlying9) (by kernel_rfl) (by decide) (fun _=>rfl)) (by kernel_rfl) rfl (rdF_cons (n:=1) (rd_slice (enc:=eManager) (sz:=2) Tryz.underlying36 rd_Manager (by kernel_rfl) (by decide) (fun _=>rfl)) (by kernel_rfl) rfl rdF_nil))))))))))))) (fun p=>⟨p.1,p.2.1,p.2.2.1,p.2.2.2.1,p.2.2.2.2.1,p.2.2.2.2.2.1,p.2.2.2.2.2.2.1,p.2.2.2.2.2.2.2.1,p.2.2.2.2.2.2.2.2.1,p.2.2.2.2.2.2.2.2.2.1,p.2.2.2.2.2.2.2.2.2.2.1,p.2.2.2.2.2.2.2.2.2.2.2.1,p.2.2.2.2.2.2.2.2.2.2.2.2.1⟩) (by intro _;first|rfl|simp only[EE.down,List.cons_append,List.nil_append,List.append_nil]) (by intro _ h;exact h) (by intro _;rfl)
theorem rd_Object:Reads Tryz.prog 44 eObject okObject wObject:=rd_struct (β:=Meta×TValue×TValue×Unit) Tryz.underlying44 (by kernel_rfl) (rdF_cons (n:=13) rd_Meta (by kernel_rfl) rfl (rdF_cons (n:=5) rd_TValue (by kernel_rfl) rfl (rdF_cons (n:=5) rd_TValue (by kernel_rfl) rfl rdF_nil))) (fun p=>⟨p.1,p.2.1,p.2.2.1⟩) (by intro _;first|rfl|simp only[EE.down,List.cons_append,List.nil_append,List.append_nil]) (by intro _ h;exact h) (by intro _;rfl)
theorem rd_Event:Reads Tryz.prog 75 eEvent okEvent wEvent:=rd_struct (β:=Int×Int×Object×Unit) Tryz.underlying75 (by kernel_rfl) (rdF_cons (n:=1) (rd_int Tryz.underlying3) (by kernel_rfl) rfl (rdF_cons (n:=1) (rd_int Tryz.underlying3) (by kernel_rfl) rfl (rdF_cons (n:=23) rd_Object (by kernel_rfl) rfl rdF_nil))) (fun p=>⟨p.1,p.2.1,p.2.2.1⟩) (by intro _;first|rfl|simp only[EE.down,List.cons_append,List.nil_append,List.append_nil]) (by intro _ h;exact h) (by intro _;rfl)
theorem rd_Requirement:Reads Tryz.prog 99 eRequirement okRequirement wRequirement:=rd_struct (β:=ByteArray×Int×(List ByteArray)×Unit) Tryz.underlying99 (by kernel_rfl) (rdF_cons (n:=1) (rd_str Tryz.underlying9) (by kernel_rfl) rfl (rdF_cons (n:=1) (rd_int Tryz.underlying3) (by kernel_rfl) rfl (rdF_cons (n:=1) (rd_slice (enc:=eS) (sz:=1) Tryz.underlying35 (rd_str Tryz.underlying9) (by kernel_rfl) (by decide) (fun _=>rfl)) (by kernel_rfl) rfl rdF_nil))) (fun p=>⟨p.1,p.2.1,p.2.2.1⟩) (by intro _;first|rfl|simp only[EE.down,List.cons_append,List.nil_append,List.append_nil]) (by intro _ h;exact h) (by intro _;rfl)
theorem rd_Filter:Reads Tryz.prog 24 eFilter okFilter wFilter:=rd_struct (β:=ByteArray×ByteArray×(List Requirement)×Unit) Tryz.underlying24 (by kernel_rfl) (rdF_cons (n:=1) (rd_str Tryz.underlying9) (by kernel_rfl) rfl (rdF_cons (n:=1) (rd_str Tryz.underlying9) (by kernel_rfl) rfl (rdF_cons (n:=1) (rd_slice (enc:=eRequirement) (sz:=3) Tryz.underlying22 rd_Requirement (by kernel_rfl) (by decide) (fun _=>rfl)) (by kernel_rfl) rfl rdF_nil))) (fun p=>⟨p.1,p.2.1,p.2.2.1⟩) (by intro _;first|rfl|simp only[EE.down,List.cons_append,List.nil_append,List.append_nil]) (by intro _ h;exact h) (by intro _;rfl)
theorem rd_Cache:Reads Tryz.prog 27 eCache okCache wCache:=rd_struct (β:=Filter×Int×Bool×(List Object)×Unit) Tryz.underlying27 (by kernel_rfl) (rdF_cons (n:=3) rd_Filter (by kernel_rfl) rfl (rdF_cons (n:=1) (rd_int Tryz.underlying3) (by kernel_rfl) rfl (rdF_cons (n:=1) (rd_bool Tryz.underlying4) (by kernel_rfl) rfl (rdF_cons (n:=1) (rd_slice (enc:=eObject) (sz:=23) Tryz.underlying25 rd_Object (by kernel_rfl) (by decide) (fun _=>rfl)) (by kernel_rfl) rfl rdF_nil)))) (fun p=>⟨p.1,p.2.1,p.2.2.1,p.2.2.2.1⟩) (by intro _;first|rfl|simp only[EE.down,List.cons_append,List.nil_append,List.append_nil]) (by intro _ h;exact h) (by intro _;rfl)
theorem CacheRepeats_ra:ReadsAll Tryz.prog [27,28,5] (α:=Cache×(List Event)×Int×Unit) (fun p=>[.agg ((eCache p.1).map .d),.c (.d (.sl (p.2.1.map eEvent))),.c (.d (.v (.int .u8 p.2.2.1)))]) (fun p=>okCache p.1∧(okL okEvent) p.2.1∧ok8 p.2.2.1∧True) (fun p=>wCache p.1+((wL wEvent) p.2.1+(wN p.2.2.1+(0)))):=(ra_cons (rv_struct Tryz.underlying27 rd_Cache) (ra_cons (rv_cell (f:=fun(a:(List Event))=>D.sl (a.map eEvent)) (oc_slice Tryz.underlying28) (rd_slice (enc:=eEvent) (sz:=25) Tryz.underlying28 rd_Event (by kernel_rfl) (by decide) (fun _=>rfl))) (ra_cons (rv_cell (f:=fun(a:Int)=>D.v (.int .u8 a)) (oc_int Tryz.underlying5) (rd_u8 Tryz.underlying5)) ra_nil)))
set_option maxRecDepth 100000 in
theorem CacheRepeats_lifted(hp:CacheRepeats.Pure)(os:Os)(started:os.Started)(H:Type)(enc:TypeId×Value→H)(F:Stop.Interp):
 ReturnsInHanded {} Tryz.checked os 4 .any ((Rows.OpenSpec.upto Rows.cacheRepeatsSpec).pre6 enc Tryz.prog Tryz.f4 Rows.cacheRepeatsUptoRow.domain false) (((Rows.OpenSpec.upto Rows.cacheRepeatsSpec).at F).post enc Tryz.prog Tryz.f4 false true false false):=by
 refine returnsInHanded_of_cond (C:=Tryz.checked) (s:=Rows.OpenSpec.upto Rows.cacheRepeatsSpec) (k:=Rows.uptoSmall) rfl ownKnob_ok started (by kernel_rfl) Tryz.func4
  (OpenSpec.witness (enc:=enc) (C:=Tryz.checked) (s:=Rows.OpenSpec.upto Rows.cacheRepeatsSpec) (k:=Rows.uptoSmall) rfl false ⟨#[],#[.agg #[.string ⟨#[]⟩,.string ⟨#[]⟩,.slice none 0 0,.int .i64 0,.bool false,.slice none 0 0],.slice none 0 0,.int .u8 0],[]⟩ 8 (by kernel_rfl) (by kernel_rfl) (by kernel_rfl)
    (x:=([.agg [.agg [.lit (.string []),.lit (.string []),.nil],.lit (.int .i64 0),.lit (.bool false),.nil],.nil,.lit (.int .u8 0)],[],[])) (by kernel_rfl) rfl (by kernel_rfl)) ?_
 intro W base args ds gs before hval hW _ hk _
 refine row_contract (f:=4) (fn:=Tryz.f4) (s:=Rows.cacheRepeatsSpec) (tb:=4) (by kernel_rfl) (by kernel_rfl) (by kernel_rfl) (by kernel_rfl) rfl (by kernel_rfl) Tryz.underlying4 (of_decide_eq_true (by kernel_rfl)) (fun H ds hd=>?_)
  (N:=1048576) (hrd:=by rw[Tryz.params4];exact CacheRepeats_ra) (fun a ok wt=>?_) H enc Rows.uptoBulk bulkOk W base args ds gs before hval hW (bulkSmall hk)
 ·rw[Tryz.params4]at hd
  match ds,hd with
  |[d0,d1,d2],_=>rfl
 ·obtain⟨x0,x1,x2,_⟩:=a
  obtain⟨o0,o1,o2,_⟩:=ok
  exact F4_ok (hp x0 x1 x2 o0 o1 o2 wt)
theorem CacheRepeats_over(hp:CacheRepeats.Pure):Rows.cacheRepeatsUptoRow.holds Tryz.pinned (Rows.OpenSpec.upto Rows.cacheRepeatsSpec):=
 OpenClaim.holds_of_cond 4 Tryz.f4 rfl rfl rfl rfl rfl rfl rfl ⟨rfl,rfl,rfl,rfl,rfl⟩ rfl rfl rfl rfl rfl (by kernel_rfl) Tryz.func4 (by kernel_rfl)
  (of_decide_eq_true (by kernel_rfl)) (by unfold Func.isWrapper;first|(rw[if_pos (by decide+kernel)];kernel_rfl)|(rw[if_neg (by decide+kernel)];exact⟨rfl,rfl⟩))
  (fun os started H enc _ F=>CacheRepeats_lifted hp os started H enc F)
end
end Go.Proofs.YtdkmamiedcanfaaGreat
