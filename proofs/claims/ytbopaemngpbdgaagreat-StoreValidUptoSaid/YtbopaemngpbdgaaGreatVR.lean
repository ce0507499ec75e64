/- The law's row over its plain law. -/
import Derived.Test.YtbopaemngpbdgaaGreatVP
import Derived.Test.YtbopaemngpbdgaaGreatFF
import Derived.Test.YtbopaemngpbdgaaGreatRows
set_option linter.unusedVariables false
set_option linter.unusedSimpArgs false
namespace Go.Proofs.YtbopaemngpbdgaaGreat
open Go Go.Fw
set_option maxRecDepth 100000
theorem ownKnob_ok:ownKnob Tryz.prog.godebug=none:=by kernel_rfl
theorem bulkAll_sum{H:Type}:∀l:List (DataW H),Rows.uptoBulkAll l=(l.map Rows.uptoBulk).sum
 |[]=>rfl
 |d::l=>by simp only[Rows.uptoBulkAll,List.map_cons,List.sum_cons,bulkAll_sum l]
theorem bulkOk{H:Type}:BulkOk (Rows.uptoBulk (H:=H)):=by
 refine⟨fun b=>by simp[Rows.uptoBulk],fun d=>?_,fun xs ys=>?_,fun xs=>?_⟩
 ·cases d with
  |lit l=>cases l<;>simp[Rows.uptoBulk]
  |nil=>simp[Rows.uptoBulk]
  |ptr d=>simp[Rows.uptoBulk]
  |slice elems spare=>simp[Rows.uptoBulk]
  |agg parts=>simp[Rows.uptoBulk]
  |iface t d=>simp[Rows.uptoBulk]
  |map entries=>simp[Rows.uptoBulk]
  |held h=>simp[Rows.uptoBulk]
 ·simp only[Rows.uptoBulk,bulkAll_sum];omega
 ·simp only[Rows.uptoBulk,bulkAll_sum];omega
theorem bulkSmall{H:Type}{l:List (DataW H)}(hk:Rows.uptoSmall H l=true):(l.map Rows.uptoBulk).sum≤1048576:=by
 have h:=of_decide_eq_true hk
 rwa [bulkAll_sum]at h
section
open Go.ChangeShapes Go.WideShapes Go.ChangeAt Go.RowKit
theorem rdN_TField_TValue:∀N:Nat,ReadsN N Tryz.prog 110 eTField okTField wTField∧ReadsN N Tryz.prog 32 eTValue okTValue wTValue:=by
 intro N
 induction N using Nat.strongRecOn with
 |ind N ih=>
  exact⟨rd_struct_n (β:=ByteArray×TValue×Unit) Tryz.underlying110 (by kernel_rfl) (fun M hM=>(rdF_cons_n (n:=1) (Reads.at (rd_str Tryz.underlying9) M) (by kernel_rfl) rfl (rdF_cons_n (n:=5) (ih M (by omega)).2 (by kernel_rfl) rfl rdF_nil_n))) (fun p=>⟨p.1,p.2.1⟩) (by intro b;first|(simp only[eTField,eTFieldL_map,eTValueL_map,eI,eB,eS,eK,eL,List.append_nil,List.append_assoc];done)|rfl) (by intro b h;simp only[okTField,okTFieldL_iff,okTValueL_iff];exact h) (by intro b;simp only[wTField,wTFieldL_eq,wTValueL_eq]),
   rd_struct_n (β:=Int×Int×ByteArray×(List TValue)×(List TField)×Unit) Tryz.underlying32 (by kernel_rfl) (fun M hM=>(rdF_cons_n (n:=1) (Reads.at (rd_int Tryz.underlying3) M) (by kernel_rfl) rfl (rdF_cons_n (n:=1) (Reads.at (rd_int Tryz.underlying3) M) (by kernel_rfl) rfl (rdF_cons_n (n:=1) (Reads.at (rd_str Tryz.underlying9) M) (by kernel_rfl) rfl (rdF_cons_n (n:=1) (rd_slice_n (enc:=eTValue) (sz:=5) Tryz.underlying29 (fun M' hM'=>(ih M' (by omega)).2) (by kernel_rfl) (by decide) (fun _=>by rw[eTValue_u];rfl)) (by kernel_rfl) rfl (rdF_cons_n (n:=1) (rd_slice_n (enc:=eTField) (sz:=6) Tryz.underlying30 (fun M' hM'=>(ih M' (by omega)).1) (by kernel_rfl) (by decide) (fun _=>by rw[eTField_u];rfl)) (by kernel_rfl) rfl rdF_nil_n)))))) (fun p=>⟨p.1,p.2.1,p.2.2.1,p.2.2.2.1,p.2.2.2.2.1⟩) (by intro b;first|(simp only[eTValue,eTFieldL_map,eTValueL_map,eI,eB,eS,eK,eL,List.append_nil,List.append_assoc];done)|rfl) (by intro b h;simp only[okTValue,okTFieldL_iff,okTValueL_iff];exact h) (by intro b;simp only[wTValue,wTFieldL_eq,wTValueL_eq])⟩
theorem rd_TField:Reads Tryz.prog 110 eTField okTField wTField:=Reads.all fun N=>(rdN_TField_TValue N).1
theorem rd_TValue:Reads Tryz.prog 32 eTValue okTValue wTValue:=Reads.all fun N=>(rdN_TField_TValue N).2
theorem rd_Manager:Reads Tryz.prog 71 eManager okManager wManager:=rd_struct (β:=ByteArray×(List ByteArray)×Unit) Tryz.underlying71 (by kernel_rfl) (rdF_cons (n:=1) (rd_str Tryz.underlying9) (by kernel_rfl) rfl (rdF_cons (n:=1) (rd_slice (enc:=eS) (sz:=1) Tryz.underlying25 (rd_str Tryz.underlying9) (by kernel_rfl) (by decide) (fun _=>rfl)) (by kernel_rfl) rfl rdF_nil)) (fun p=>⟨p.1,p.2.1⟩) (by intro _;first|rfl|simp only[EE.down,List.cons_append,List.nil_append,List.append_nil]) (by intro _ h;exact h) (by intro _;rfl)
theorem rd_Owner:Reads Tryz.prog 93 eOwner okOwner wOwner:=rd_struct (β:=ByteArray×ByteArray×Int×Bool×Bool×Unit) Tryz.underlying93 (by kernel_rfl) (rdF_cons (n:=1) (rd_str Tryz.underlying9) (by kernel_rfl) rfl (rdF_cons (n:=1) (rd_str Tryz.underlying9) (by kernel_rfl) rfl (rdF_cons (n:=1) (rd_int Tryz.underlying3) (by kernel_rfl) rfl (rdF_cons (n:=1) (rd_bool Tryz.underlying4) (by kernel_rfl) rfl (rdF_cons (n:=1) (rd_bool Tryz.underlying4) (by kernel_rfl) rfl rdF_nil))))) (fun p=>⟨p.1,p.2.1,p.2.2.1,p.2.2.2.1,p.2.2.2.2.1⟩) (by intro _;first|rfl|simp only[EE.down,List.cons_append,List.nil_append,List.append_nil]) (by intro _ h;exact h) (by intro _;rfl)
theorem rd_Label:Reads Tryz.prog 90 eLabel okLabel wLabel:=rd_struct (β:=ByteArray×ByteArray×Unit) Tryz.underlying90 (by kernel_rfl) (rdF_cons (n:=1) (rd_str Tryz.underlying9) (by kernel_rfl) rfl (rdF_cons (n:=1) (rd_str Tryz.underlying9) (by kernel_rfl) rfl rdF_nil)) (fun p=>⟨p.1,p.2.1⟩) (by intro _;first|rfl|simp only[EE.down,List.cons_append,List.nil_append,List.append_nil]) (by intro _ h;exact h) (by intro _;rfl)
theorem rd_Meta:Reads Tryz.prog 28 eMeta okMeta wMeta:=rd_struct (β:=ByteArray×ByteArray×ByteArray×Int×Int×Int×Int×Bool×Int×(List Label)×(List Owner)×(List ByteArray)×(List Manager)×Unit) Tryz.underlying28 (by kernel_rfl) (rdF_cons (n:=1) (rd_str Tryz.underlying9) (by kernel_rfl) rfl (rdF_cons (n:=1) (rd_str Tryz.underlying9) (by kernel_rfl) rfl (rdF_cons (n:=1) (rd_str Tryz.underlying9) (by kernel_rfl) rfl (rdF_cons (n:=1) (rd_int Tryz.underlying3) (by kernel_rfl) rfl (rdF_cons (n:=1) (rd_int Tryz.underlying3) (by kernel_rfl) rfl (rdF_cons (n:=1) (rd_int Tryz.underlying3) (by kernel_rfl) rfl (rdF_cons (n:=1) (rd_int Tryz.underlying3) (by kernel_rfl) rfl (rdF_cons (n:=1) (rd_bool Tryz.underlying4) (by kernel_rfl) rfl (rdF_cons (n:=1) (rd_int Tryz.underlying3) (by kernel_rfl) rfl (rdF_cons (n:=1) (rd_slice (enc:=eLabel) (sz:=2) Tryz.underlying23 rd_Label (by kernel_rfl) (by decide) (fun _=>rfl)) (by kernel_rfl) rfl (rdF_cons (n:=1) (rd_slice (enc:=eOwner) (sz:=5) Tryz.underlying24 rd_Owner (by kernel_rfl) (by decide) (fun _=>rfl)) (by kernel_rfl) rfl (rdF_cons (n:=1) (rd_slice (enc:=eS) (sz:=1) Tryz.underlying25 (rd_str Tryz.underlying9) (by kernel_rfl) (by decide) (fun _=>rfl)) (by kernel_rfl) rfl (rdF_cons (n:=1) (rd_slice (enc:=eManager) (sz:=2) Tryz.underlying26 rd_Manager (by kernel_rfl) (by decide) (fun _=>rfl)) (by kernel_rfl) rfl rdF_nil))))))))))))) (fun p=>⟨p.1,p.2.1,p.2.2.1,p.2.2.2.1,p.2.2.2.2.1,p.2.2.2.2.2.1,p.2.2.2.2.2.2.1,p.2.2.2.2.2.2.2.1,p.2.2.2.2.2.2.2.2.1,p.2.2.2.2.2.2.2.2.2.1,p.2.2.2.2.2.2.2.2.2.2.1,p.2.2.2.2.2.2.2.2.2.2.2.1,p.2.2.2.2.2.2.2.2.2.2.2.2.1⟩) (by intro _;first|rfl|simp only[EE.down,List.cons_append,List.nil_append,List.append_nil]) (by intro _ h;exact h) (by intro _;rfl)
theorem rd_Object:Reads Tryz.prog 34 eObject okObject wObject:=rd_struct (β:=Meta×TValue×TValue×Unit) Tryz.underlying34 (by kernel_rfl) (rdF_cons (n:=13) rd_Meta (by kernel_rfl) rfl (rdF_cons (n:=5) rd_TValue (by kernel_rfl) rfl (rdF_cons (n:=5) rd_TValue (by kernel_rfl) rfl rdF_nil))) (fun p=>⟨p.1,p.2.1,p.2.2.1⟩) (by intro _;first|rfl|simp only[EE.down,List.cons_append,List.nil_append,List.append_nil]) (by intro _ h;exact h) (by intro _;rfl)
theorem rd_Change:Reads Tryz.prog 55 eChange okChange wChange:=rd_struct (β:=Int×Int×Object×Unit) Tryz.underlying55 (by kernel_rfl) (rdF_cons (n:=1) (rd_int Tryz.underlying3) (by kernel_rfl) rfl (rdF_cons (n:=1) (rd_int Tryz.underlying3) (by kernel_rfl) rfl (rdF_cons (n:=23) rd_Object (by kernel_rfl) rfl rdF_nil))) (fun p=>⟨p.1,p.2.1,p.2.2.1⟩) (by intro _;first|rfl|simp only[EE.down,List.cons_append,List.nil_append,List.append_nil]) (by intro _ h;exact h) (by intro _;rfl)
theorem rd_TStore:Reads Tryz.prog 41 eTStore okTStore wTStore:=rd_struct (β:=Int×Int×Int×(List Object)×(List Object)×(List Change)×Unit) Tryz.underlying41 (by kernel_rfl) (rdF_cons (n:=1) (rd_int Tryz.underlying3) (by kernel_rfl) rfl (rdF_cons (n:=1) (rd_int Tryz.underlying3) (by kernel_rfl) rfl (rdF_cons (n:=1) (rd_int Tryz.underlying3) (by kernel_rfl) rfl (rdF_cons (n:=1) (rd_slice (enc:=eObject) (sz:=23) Tryz.underlying38 rd_Object (by kernel_rfl) (by decide) (fun _=>rfl)) (by kernel_rfl) rfl (rdF_cons (n:=1) (rd_slice (enc:=eObject) (sz:=23) Tryz.underlying38 rd_Object (by kernel_rfl) (by decide) (fun _=>rfl)) (by kernel_rfl) rfl (rdF_cons (n:=1) (rd_slice (enc:=eChange) (sz:=25) Tryz.underlying39 rd_Change (by kernel_rfl) (by decide) (fun _=>rfl)) (by kernel_rfl) rfl rdF_nil)))))) (fun p=>⟨p.1,p.2.1,p.2.2.1,p.2.2.2.1,p.2.2.2.2.1,p.2.2.2.2.2.1⟩) (by intro _;first|rfl|simp only[EE.down,List.cons_append,List.nil_append,List.append_nil]) (by intro _ h;exact h) (by intro _;rfl)
theorem StoreValid_ra:ReadsAll Tryz.prog [41] (α:=TStore×Unit) (fun p=>[.agg ((eTStore p.1).map .d)]) (fun p=>okTStore p.1∧True) (fun p=>wTStore p.1+(0)):=(ra_cons (rv_struct Tryz.underlying41 rd_TStore) ra_nil)
set_option maxRecDepth 100000 in
theorem StoreValid_lifted(hp:StoreValid.Pure)(os:Os)(started:os.Started)(H:Type)(enc:TypeId×Value→H)(F:Stop.Interp):
 ReturnsInHanded {} Tryz.checked os 4 .any ((Rows.OpenSpec.upto Rows.storeValidSpec).pre6 enc Tryz.prog Tryz.f4 Rows.storeValidUptoRow.domain false) (((Rows.OpenSpec.upto Rows.storeValidSpec).at F).post enc Tryz.prog Tryz.f4 false true false false):=by
 refine returnsInHanded_of_cond (C:=Tryz.checked) (s:=Rows.OpenSpec.upto Rows.storeValidSpec) (k:=Rows.uptoSmall) rfl ownKnob_ok started (by kernel_rfl) Tryz.func4
  (OpenSpec.witness (enc:=enc) (C:=Tryz.checked) (s:=Rows.OpenSpec.upto Rows.storeValidSpec) (k:=Rows.uptoSmall) rfl false ⟨#[],#[.agg #[.int .i64 0,.int .i64 0,.int .i64 0,.slice none 0 0,.slice none 0 0,.slice none 0 0]],[]⟩ 8 (by kernel_rfl) (by kernel_rfl) (by kernel_rfl)
    (x:=([.agg [.lit (.int .i64 0),.lit (.int .i64 0),.lit (.int .i64 0),.nil,.nil,.nil]],[],[])) (by kernel_rfl) rfl (by kernel_rfl)) ?_
 intro W base args ds gs before hval hW _ hk _
 refine row_contract (f:=4) (fn:=Tryz.f4) (s:=Rows.storeValidSpec) (tb:=4) (by kernel_rfl) (by kernel_rfl) (by kernel_rfl) (by kernel_rfl) rfl (by kernel_rfl) Tryz.underlying4 (of_decide_eq_true (by kernel_rfl)) (fun H ds hd=>?_)
  (N:=1048576) (hrd:=by rw[Tryz.params4];exact StoreValid_ra) (fun a ok wt=>?_) H enc Rows.uptoBulk bulkOk W base args ds gs before hval hW (bulkSmall hk)
 ·rw[Tryz.params4]at hd
  match ds,hd with
  |[d0],_=>rfl
 ·obtain⟨x0,_⟩:=a
  obtain⟨o0,_⟩:=ok
  exact F4_ok (hp x0 o0 wt)
theorem StoreValid_over(hp:StoreValid.Pure):Rows.storeValidUptoRow.holds Tryz.pinned (Rows.OpenSpec.upto Rows.storeValidSpec):=
 OpenClaim.holds_of_cond 4 Tryz.f4 rfl rfl rfl rfl rfl rfl rfl ⟨rfl,rfl,rfl,rfl,rfl⟩ rfl rfl rfl rfl rfl (by kernel_rfl) Tryz.func4 (by kernel_rfl)
  (of_decide_eq_true (by kernel_rfl)) (by unfold Func.isWrapper;first|(rw[if_pos (by decide+kernel)];kernel_rfl)|(rw[if_neg (by decide+kernel)];exact⟨rfl,rfl⟩))
  (fun os started H enc _ F=>StoreValid_lifted hp os started H enc F)
end
end Go.Proofs.YtbopaemngpbdgaaGreat
