/- The law's row over its plain law. -/
import Derived.Test.YtdejhahgpojnoaaHP
import Derived.Test.YtdejhahgpojnoaaFF
import Derived.Test.YtdejhahgpojnoaaRows
set_option linter.unusedVariables false
set_option linter.unusedSimpArgs false
namespace Go.Proofs.Ytdejhahgpojnoaa
open Go Go.Fw
set_option maxRecDepth 100000
theorem ownKnob_ok:ownKnob Try.prog.godebug=none:=by kernel_rfl
theorem bulkAll_sum{H:Type}:∀l:List (DataW H),Rows.uptoBulkAll l=(l.map Rows.uptoBulk).sum
 |[]=>rfl
 |d::l=>by simp only[Rows.uptoBulkAll,List.map_cons,List.sum_cons,bulkAll_sum l]
theorem bulkOk{H:Type}:BulkOk (Rows.uptoBulk (H:=H)):=by
 refine⟨fun b=>by simp[Rows.uptoBulk],fun d=>?_,fun xs ys=>?_,fun xs=>?_⟩
 ·cases d with
  |lit l=>cases l<;>simp[Rows.uptoBulk]
  |nil=>simp[Rows.uptoBulk]
  |ptr d=>simp[Rows.uptoBulk]
  |slice elems spare=>simp[Rows.uptoBulk]
  |agg parts=>simp[Rows.uptoBulk]
  |iface t d=>simp[Rows.uptoBulk]
  |map entries=>simp[Rows.uptoBulk]
  |held h=>simp[Rows.uptoBulk]
 ·simp only[Rows.uptoBulk,bulkAll_sum];omega
 ·simp only[Rows.uptoBulk,bulkAll_sum];omega
theorem bulkSmall{H:Type}{l:List (DataW H)}(hk:Rows.uptoSmall H l=true):(l.map Rows.uptoBulk).sum≤1048576:=by
 have h:=of_decide_eq_true hk
 rwa [bulkAll_sum]at h
section
open Go.ChangeShapes Go.WideShapes Go.ChangeAt Go.RowKit
theorem rdN_TField_TValue:∀N:Nat,ReadsN N Try.prog 129 eTField okTField wTField∧ReadsN N Try.prog 39 eTValue okTValue wTValue:=by
 intro N
 induction N using Nat.strongRecOn with
 |ind N ih=>
  exact⟨rd_struct_n (β:=ByteArray×TValue×Unit) Try.underlying129 (by kernel_rfl) (fun M hM=>(rdF_cons_n (n:=1) (Reads.at (rd_str Try.underlying9) M) (by kernel_rfl) rfl (rdF_cons_n (n:=5) (ih M (by omega)).2 (by kernel_rfl) rfl rdF_nil_n))) (fun p=>⟨p.1,p.2.1⟩) (by intro b;first|(simp only[eTField,eTFieldL_map,eTValueL_map,eI,eB,eS,eK,eL,List.append_nil,List.append_assoc];done)|rfl) (by intro b h;simp only[okTField,okTFieldL_iff,okTValueL_iff];exact h) (by intro b;simp only[wTField,wTFieldL_eq,wTValueL_eq]),
   rd_struct_n (β:=Int×Int×ByteArray×(List TValue)×(List TField)×Unit) Try.underlying39 (by kernel_rfl) (fun M hM=>(rdF_cons_n (n:=1) (Reads.at (rd_int Try.underlying3) M) (by kernel_rfl) rfl (rdF_cons_n (n:=1) (Reads.at (rd_int Try.underlying3) M) (by kernel_rfl) rfl (rdF_cons_n (n:=1) (Reads.at (rd_str Try.underlying9) M) (by kernel_rfl) rfl (rdF_cons_n (n:=1) (rd_slice_n (enc:=eTValue) (sz:=5) Try.underlying36 (fun M' hM'=>(ih M' (by omega)).2) (by kernel_rfl) (by decide) (fun _=>by rw[eTValue_u];rfl)) (by kernel_rfl) rfl (rdF_cons_n (n:=1) (rd_slice_n (enc:=eTField) (sz:=6) Try.underlying37 (fun M' hM'=>(ih M' (by omega)).1) (by kernel_rfl) (by decide) (fun _=>by rw[eTField_u];rfl)) (by kernel_rfl) rfl rdF_nil_n)))))) (fun p=>⟨p.1,p.2.1,p.2.2.1,p.2.2.2.1,p.2.2.2.2.1⟩) (by intro b;first|(simp only[eTValue,eTFieldL_map,eTValueL_map,eI,eB,eS,eK,eL,List.append_nil,List.append_assoc];done)|rfl) (by intro b h;simp only[okTValue,okTFieldL_iff,okTValueL_iff];exact h) (by intro b;simp only[wTValue,wTFieldL_eq,wTValueL_eq])⟩
theorem rd_TField:Reads Try.prog 129 eTField okTField wTField:=Reads.all fun N=>(rdN_TField_TValue N).1
theorem rd_TValue:Reads Try.prog 39 eTValue okTValue wTValue:=Reads.all fun N=>(rdN_TField_TValue N).2
theorem rd_Manager:Reads Try.prog 127 eManager okManager wManager:=rd_struct (β:=ByteArray×(List ByteArray)×Unit) Try.underlying127 (by kernel_rfl) (rdF_cons (n:=1) (rd_str Try.underlying9) (by kernel_rfl) rfl (rdF_cons (n:=1) (rd_slice (enc:=eS) (sz:=1) Try.underlying28 (rd_str Try.underlying9) (by kernel_rfl) (by decide) (fun _=>rfl)) (by kernel_rfl) rfl rdF_nil)) (fun p=>⟨p.1,p.2.1⟩) (by intro _;first|rfl|simp only[EE.down,List.cons_append,List.nil_append,List.append_nil]) (by intro _ h;exact h) (by intro _;rfl)
theorem rd_Owner:Reads Try.prog 44 eOwner okOwner wOwner:=rd_struct (β:=ByteArray×ByteArray×Int×Bool×Bool×Unit) Try.underlying44 (by kernel_rfl) (rdF_cons (n:=1) (rd_str Try.underlying9) (by kernel_rfl) rfl (rdF_cons (n:=1) (rd_str Try.underlying9) (by kernel_rfl) rfl (rdF_cons (n:=1) (rd_int Try.underlying3) (by kernel_rfl) rfl (rdF_cons (n:=1) (rd_bool Try.underlying4) (by kernel_rfl) rfl (rdF_cons (n:=1) (rd_bool Try.underlying4) (by kernel_rfl) rfl rdF_nil))))) (fun p=>⟨p.1,p.2.1,p.2.2.1,p.2.2.2.1,p.2.2.2.2.1⟩) (by intro _;first|rfl|simp only[EE.down,List.cons_append,List.nil_append,List.append_nil]) (by intro _ h;exact h) (by intro _;rfl)
theorem rd_Label:Reads Try.prog 125 eLabel okLabel wLabel:=rd_struct (β:=ByteArray×ByteArray×Unit) Try.underlying125 (by kernel_rfl) (rdF_cons (n:=1) (rd_str Try.underlying9) (by kernel_rfl) rfl (rdF_cons (n:=1) (rd_str Try.underlying9) (by kernel_rfl) rfl rdF_nil)) (fun p=>⟨p.1,p.2.1⟩) (by intro _;first|rfl|simp only[EE.down,List.cons_append,List.nil_append,List.append_nil]) (by intro _ h;exact h) (by intro _;rfl)
theorem rd_Meta:Reads Try.prog 35 eMeta okMeta wMeta:=rd_struct (β:=ByteArray×ByteArray×ByteArray×Int×Int×Int×Int×Bool×Int×(List Label)×(List Owner)×(List ByteArray)×(List Manager)×Unit) Try.underlying35 (by kernel_rfl) (rdF_cons (n:=1) (rd_str Try.underlying9) (by kernel_rfl) rfl (rdF_cons (n:=1) (rd_str Try.underlying9) (by kernel_rfl) rfl (rdF_cons (n:=1) (rd_str Try.underlying9) (by kernel_rfl) rfl (rdF_cons (n:=1) (rd_int Try.underlying3) (by kernel_rfl) rfl (rdF_cons (n:=1) (rd_int Try.underlying3) (by kernel_rfl) rfl (rdF_cons (n:=1) (rd_int Try.underlying3) (by kernel_rfl) rfl (rdF_cons (n:=1) (rd_int Try.underlying3) (by kernel_rfl) rfl (rdF_cons (n:=1) (rd_bool Try.underlying4) (by kernel_rfl) rfl (rdF_cons (n:=1) (rd_int Try.underlying3) (by kernel_rfl) rfl (rdF_cons (n:=1) (rd_slice (enc:=eLabel) (sz:=2) Try.underlying31 rd_Label (by kernel_rfl) (by decide) (fun _=>rfl)) (by kernel_rfl) rfl (rdF_cons (n:=1) (rd_slice (enc:=eOwner) (sz:=5) Try.underlying32 rd_Owner (by kernel_rfl) (by decide) (fun _=>rfl)) (by kernel_rfl) rfl (rdF_cons (n:=1) (rd_slice (enc:=eS) (sz:=1) Try.underlying28 (rd_str Try.underlying9) (by kernel_rfl) (by decide) (fun _=>rfl)) (by kernel_rfl) rfl (rdF_cons (n:=1) (rd_slice (enc:=eManager) (sz:=2) Try.underlying33 rd_Manager (by kernel_rfl) (by decide) (fun _=>rfl)) (by kernel_rfl) rfl rdF_nil))))))))))))) (fun p=>⟨p.1,p.2.1,p.2.2.1,p.2.2.2.1,p.2.2.2.2.1,p.2.2.2.2.2.1,p.2.2.2.2.2.2.1,p.2.2.2.2.2.2.2.1,p.2.2.2.2.2.2.2.2.1,p.2.2.2.2.2.2.2.2.2.1,p.2.2.2.2.2.2.2.2.2.2.1,p.2.2.2.2.2.2.2.2.2.2.2.1,p.2.2.2.2.2.2.2.2.2.2.2.2.1⟩) (by intro _;first|rfl|simp only[EE.down,List.cons_append,List.nil_append,List.append_nil]) (by intro _ h;exact h) (by intro _;rfl)
theorem rd_Object:Reads Try.prog 41 eObject okObject wObject:=rd_struct (β:=Meta×TValue×TValue×Unit) Try.underlying41 (by kernel_rfl) (rdF_cons (n:=13) rd_Meta (by kernel_rfl) rfl (rdF_cons (n:=5) rd_TValue (by kernel_rfl) rfl (rdF_cons (n:=5) rd_TValue (by kernel_rfl) rfl rdF_nil))) (fun p=>⟨p.1,p.2.1,p.2.2.1⟩) (by intro _;first|rfl|simp only[EE.down,List.cons_append,List.nil_append,List.append_nil]) (by intro _ h;exact h) (by intro _;rfl)
theorem GcEnds_ra:ReadsAll Try.prog [22] (α:=(List Object)×Unit) (fun p=>[.c (.d (.sl (p.1.map eObject)))]) (fun p=>(okL okObject) p.1∧True) (fun p=>(wL wObject) p.1+(0)):=(ra_cons (rv_cell (f:=fun(a:(List Object))=>D.sl (a.map eObject)) (oc_slice Try.underlying22) (rd_slice (enc:=eObject) (sz:=23) Try.underlying22 rd_Object (by kernel_rfl) (by decide) (fun _=>rfl))) ra_nil)
set_option maxRecDepth 100000 in
theorem GcEnds_lifted(hp:GcEnds.Pure)(os:Os)(started:os.Started)(H:Type)(enc:TypeId×Value→H)(F:Stop.Interp):
 ReturnsInHanded {} Try.checked os 5 .any ((Rows.OpenSpec.upto Rows.gcEndsSpec).pre6 enc Try.prog Try.f5 Rows.gcEndsUptoRow.domain false) (((Rows.OpenSpec.upto Rows.gcEndsSpec).at F).post enc Try.prog Try.f5 false true false false):=by
 refine returnsInHanded_of_cond (C:=Try.checked) (s:=Rows.OpenSpec.upto Rows.gcEndsSpec) (k:=Rows.uptoSmall) rfl ownKnob_ok started (by kernel_rfl) Try.func5
  (OpenSpec.witness (enc:=enc) (C:=Try.checked) (s:=Rows.OpenSpec.upto Rows.gcEndsSpec) (k:=Rows.uptoSmall) rfl false ⟨#[],#[.slice none 0 0],[]⟩ 8 (by kernel_rfl) (by kernel_rfl) (by kernel_rfl)
    (x:=([.nil],[],[])) (by kernel_rfl) rfl (by kernel_rfl)) ?_
 intro W base args ds gs before hval hW _ hk _
 refine row_contract (f:=5) (fn:=Try.f5) (s:=Rows.gcEndsSpec) (tb:=4) (by kernel_rfl) (by kernel_rfl) (by kernel_rfl) (by kernel_rfl) rfl (by kernel_rfl) Try.underlying4 (of_decide_eq_true (by kernel_rfl)) (fun H ds hd=>?_)
  (N:=1048576) (hrd:=by rw[Try.params5];exact GcEnds_ra) (fun a ok wt=>?_) H enc Rows.uptoBulk bulkOk W base args ds gs before hval hW (bulkSmall hk)
 ·rw[Try.params5]at hd
  match ds,hd with
  |[d0],_=>rfl
 ·obtain⟨x0,_⟩:=a
  obtain⟨o0,_⟩:=ok
  exact F5_ok (hp x0 o0 wt)
theorem GcEnds_over(hp:GcEnds.Pure):Rows.gcEndsUptoRow.holds Try.pinned (Rows.OpenSpec.upto Rows.gcEndsSpec):=
 OpenClaim.holds_of_cond 5 Try.f5 rfl rfl rfl rfl rfl rfl rfl ⟨rfl,rfl,rfl,rfl,rfl⟩ rfl rfl rfl rfl rfl (by kernel_rfl) Try.func5 (by kernel_rfl)
  (of_decide_eq_true (by kernel_rfl)) (by unfold Func.isWrapper;first|(rw[if_pos (by decide+kernel)];kernel_rfl)|(rw[if_neg (by decide+kernel)];exact⟨rfl,rfl⟩))
  (fun os started H enc _ F=>GcEnds_lifted hp os started H enc F)
end
end Go.Proofs.Ytdejhahgpojnoaa
