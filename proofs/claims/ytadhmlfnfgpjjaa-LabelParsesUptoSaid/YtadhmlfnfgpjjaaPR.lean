/- The law's row over its plain law. -/
import Derived.Test.YtadhmlfnfgpjjaaPP
import Derived.Test.YtadhmlfnfgpjjaaFF
import Derived.Test.YtadhmlfnfgpjjaaRows
set_option linter.unusedVariables false
set_option linter.unusedSimpArgs false
namespace Go.Proofs.Ytadhmlfnfgpjjaa
open Go Go.Fw
set_option maxRecDepth 100000
theorem ownKnob_ok:ownKnob Try.prog.godebug=none:=by kernel_rfl
theorem bulkAll_sum{H:Type}:∀l:List (DataW H),Rows.uptoBulkAll l=(l.map Rows.uptoBulk).sum
 |[]=>rfl
 |d::l=>by simp only[Rows.uptoBulkAll,List.map_cons,List.sum_cons,bulkAll_sum l]
theorem bulkOk{H:Type}:BulkOk (Rows.uptoBulk (H:=H)):=by
 refine⟨fun b=>by simp[Rows.uptoBulk],fun d=>?_,fun xs ys=>?_,fun xs=>?_⟩
 ·cases d with
  |lit l=>cases l<;>simp[Rows.uptoBulk]
  |nil=>simp[Rows.uptoBulk]
  |ptr d=>simp[Rows.uptoBulk]
  |slice elems spare=>simp[Rows.uptoBulk]
  |agg parts=>simp[Rows.uptoBulk]
  |iface t d=>simp[Rows.uptoBulk]
  |map entries=>simp[Rows.uptoBulk]
  |held h=>simp[Rows.uptoBulk]
 ·simp only[Rows.uptoBulk,bulkAll_sum];omega
 ·simp only[Rows.uptoBulk,bulkAll_sum];omega
theorem bulkSmall{H:Type}{l:List (DataW H)}(hk:Rows.uptoSmall H l=true):(l.map Rows.uptoBulk).sum≤1048576:=by
 have h:=of_decide_eq_true hk
 rwa [bulkAll_sum]at h
section
open Go.ChangeShapes Go.WideShapes Go.ChangeAt Go.RowKit
theorem LabelParses_ra:ReadsAll Try.prog [9] (α:=ByteArray×Unit) (fun p=>[.c (.d (.v (.string p.1)))]) (fun p=>okT p.1∧True) (fun p=>wS p.1+(0)):=(ra_cons (rv_cell (f:=fun(a:ByteArray)=>D.v (.string a)) (oc_str Try.underlying9) (rd_str Try.underlying9)) ra_nil)
set_option maxRecDepth 100000 in
theorem LabelParses_lifted(hp:LabelParses.Pure)(os:Os)(started:os.Started)(H:Type)(enc:TypeId×Value→H)(F:Stop.Interp):
 ReturnsInHanded {} Try.checked os 6 .any ((Rows.OpenSpec.upto Rows.labelParsesSpec).pre6 enc Try.prog Try.f6 Rows.labelParsesUptoRow.domain false) (((Rows.OpenSpec.upto Rows.labelParsesSpec).at F).post enc Try.prog Try.f6 false true false false):=by
 refine handed_of_cond_shaped (C:=Try.checked) (s:=Rows.OpenSpec.upto Rows.labelParsesSpec) (k:=Rows.uptoSmall) rfl ownKnob_ok started (by kernel_rfl) Try.func6
  (OpenSpec.witness (enc:=enc) (C:=Try.checked) (s:=Rows.OpenSpec.upto Rows.labelParsesSpec) (k:=Rows.uptoSmall) rfl false ⟨#[],#[.string ⟨#[]⟩],[]⟩ 8 (by kernel_rfl) (by kernel_rfl) (by kernel_rfl)
    (x:=([.lit (.string [])],[],[])) (by kernel_rfl) rfl (by kernel_rfl)) ?_
 intro W base args ds gs before hval hW hk hsh
 refine row_contract (f:=6) (fn:=Try.f6) (s:=Rows.labelParsesSpec) (tb:=4) (by kernel_rfl) (by kernel_rfl) (by kernel_rfl) (by kernel_rfl) rfl (by kernel_rfl) Try.underlying4 (of_decide_eq_true (by kernel_rfl)) (fun H ds hd=>?_)
  (N:=1048576) (hrd:=by rw[Try.params6];exact LabelParses_ra) (fun a ok wt=>?_) H enc Rows.uptoBulk bulkOk W (fun g hg=>by
    cases List.mem_singleton.1 hg
    exact cell_of_shapedOpen_int (P:=Try.prog) (g:=0) (t:=3) (zero:= #[.int .i64 0]) hsh (of_decide_eq_true (by kernel_rfl)) (by kernel_rfl) rfl (by kernel_rfl) (by kernel_rfl) Try.underlying3) base args ds gs before hval hW (bulkSmall hk)
 ·rw[Try.params6]at hd
  match ds,hd with
  |[d0],_=>rfl
 ·obtain⟨x0,_⟩:=a
  obtain⟨o0,_⟩:=ok
  exact F6_ok (hp x0 o0 wt)
theorem LabelParses_over(hp:LabelParses.Pure):Rows.labelParsesUptoRow.holds Try.pinned (Rows.OpenSpec.upto Rows.labelParsesSpec):=
 OpenClaim.holds_of_cond 6 Try.f6 rfl rfl rfl rfl rfl rfl rfl ⟨rfl,rfl,rfl,rfl,rfl⟩ rfl rfl rfl rfl rfl (by kernel_rfl) Try.func6 (by kernel_rfl)
  (of_decide_eq_true (by kernel_rfl)) (by unfold Func.isWrapper;first|(rw[if_pos (by decide+kernel)];kernel_rfl)|(rw[if_neg (by decide+kernel)];exact⟨rfl,rfl⟩))
  (fun os started H enc _ F=>LabelParses_lifted hp os started H enc F)
end
end Go.Proofs.Ytadhmlfnfgpjjaa
