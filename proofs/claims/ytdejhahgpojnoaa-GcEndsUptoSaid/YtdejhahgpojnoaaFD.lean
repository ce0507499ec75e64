/- Rules of a walk. -/
import Derived.Test.YtdejhahgpojnoaaFC
set_option linter.unusedVariables false
set_option linter.unusedSimpArgs false
set_option linter.unusedSectionVars false
namespace Go.Fw
noncomputable def shut{α:Sort _}(x:α):α:=Exists.choose (⟨x,rfl⟩:∃y,y=x)
theorem shut_eq{α:Sort _}(x:α):shut x=x:=Exists.choose_spec (⟨x,rfl⟩:∃y,y=x)
noncomputable def sOps:=shut @vcOps
theorem sOps_eq:@sOps=@vcOps:=shut_eq _
noncomputable def sKO:=shut @kOps
theorem sKO_eq:@sKO=@kOps:=shut_eq _
noncomputable def sG:=shut @gOps
theorem sG_eq:@sG=@gOps:=shut_eq _
noncomputable def sD:=shut @vcD
theorem sD_eq:@sD=@vcD:=shut_eq _
noncomputable def sKD:=shut @kD
theorem sKD_eq:@sKD=@kD:=shut_eq _
noncomputable def sGD:=shut @gD
theorem sGD_eq:@sGD=@gD:=shut_eq _
noncomputable def s1:=shut @op1
theorem s1_eq:@s1=@op1:=shut_eq _
noncomputable def sS:=shut @opS
theorem sS_eq:@sS=@opS:=shut_eq _
noncomputable def sPick:=shut @PickK
theorem sPick_eq:@sPick=@PickK:=shut_eq _
noncomputable def sK:=shut @vcK
theorem sK_eq:@sK=@vcK:=shut_eq _
noncomputable def sN:=shut @nrmK
theorem sN_eq:@sN=@nrmK:=shut_eq _
noncomputable def sU:=shut @unw
theorem sU_eq:@sU=@unw:=shut_eq _
noncomputable def sC:=shut @cnd
theorem sC_eq:@sC=@cnd:=shut_eq _
noncomputable def sL:=shut @loopQ
theorem sL_eq:@sL=@loopQ:=shut_eq _
noncomputable def sE:=shut @endQ
theorem sE_eq:@sE=@endQ:=shut_eq _
def sA:=PLift.up (And.intro sOps_eq (And.intro sKO_eq (And.intro sG_eq (And.intro sD_eq (And.intro sKD_eq (And.intro sGD_eq (And.intro s1_eq (And.intro sS_eq (And.intro sPick_eq (And.intro sK_eq (And.intro sN_eq (And.intro sU_eq (And.intro sC_eq (And.intro sL_eq sE_eq))))))))))))))
theorem oS{P:Program}{s:St}{K:Out→Prop}{op:AOp}(h:opS P op s K=op1 P op s K):sS P op s K=s1 P op s K:=by simp only[sA.down];exact h
section
variable {P:Program} {s:St} {K:Out→Prop}
theorem s1_mv{x:O}:s1 P (.mv x) s K=(
 match s.ev x with
 |some v=>K ⟨some v,[]⟩
 |none=>False):=by
 simp only[sA.down];rfl
def sS_mv:=PLift.up (fun(P:Program) (s:St) (K:Out→Prop) (x:O)=>(oS (P:=P) (s:=s) (K:=K) (op:= .mv x) rfl).trans s1_mv)
theorem s1_pick{c:O}{x:O}{y:O}:s1 P (.pick c x y) s K=(
 match s.evV c with
 |some (.bool t)=>sPick t (s.ev x) (s.ev y) K
 |_=>False):=by
 simp only[sA.down];rfl
def sS_pick:=PLift.up (fun(P:Program) (s:St) (K:Out→Prop) (c:O) (x:O) (y:O)=>(oS (P:=P) (s:=s) (K:=K) (op:= .pick c x y) rfl).trans s1_pick)
theorem s1_box{x:O}:s1 P (.box x) s K=(
 match s.ev x with
 |some (.one a)=>K ⟨some (.one (.c (.pt s.heap.length 0))),[(s.heap.length,.box a.cells)]⟩
 |_=>False):=by
 simp only[sA.down];rfl
def sS_box:=PLift.up (fun(P:Program) (s:St) (K:Out→Prop) (x:O)=>(oS (P:=P) (s:=s) (K:=K) (op:= .box x) rfl).trans s1_box)
theorem s1_zbox{cs:List C}:s1 P (.zbox cs) s K=(
 K ⟨some (.one (.c (.pt s.heap.length 0))),[(s.heap.length,.box cs)]⟩):=by
 simp only[sA.down];rfl
def sS_zbox:=PLift.up (fun(P:Program) (s:St) (K:Out→Prop) (cs:List C)=>(oS (P:=P) (s:=s) (K:=K) (op:= .zbox cs) rfl).trans s1_zbox)
theorem s1_build{zero:List C}{parts:List (Nat×Nat×O)}:s1 P (.build zero parts) s K=(
 match bldL s zero parts with
 |some cs=>K ⟨some (.one (.agg cs)),[]⟩
 |none=>False):=by
 simp only[sA.down];rfl
def sS_build:=PLift.up (fun(P:Program) (s:St) (K:Out→Prop) (zero:List C) (parts:List (Nat×Nat×O))=>(oS (P:=P) (s:=s) (K:=K) (op:= .build zero parts) rfl).trans s1_build)
theorem s1_bslice{sz:Nat}{parts:List O}:s1 P (.bslice sz parts) s K=(
 match evL s parts with
 |some as=>match frzRL s.heap sz [] as with
  |some (rows,wr,p)=>p∧K ⟨some (.one (.c (.own s.heap.length 0 0 rows.length none))),wr++[(s.heap.length,.arr 0 sz rows)]⟩
  |none=>False
 |none=>False):=by
 simp only[sA.down];rfl
theorem s1_load{n:Option Nat}{x:O}:s1 P (.load n x) s K=(
 match s.evC x with
 |some (.pt id off)=>match hp s.heap id with
  |some (.box cells)=>ldC n (cells.drop off) K
  |_=>False
 |some (.pe id ep row off)=>match hp s.heap id with
  |some (.arr e _ rows)=>ep=e∧LdRow rows row off n K
  |_=>False
 |some (.fp cells)=>ldC n (cells.map .d) K
 |_=>False):=by
 simp only[sA.down];rfl
def sS_load:=PLift.up (fun(P:Program) (s:St) (K:Out→Prop) (n:Option Nat) (x:O)=>(oS (P:=P) (s:=s) (K:=K) (op:= .load n x) rfl).trans s1_load)
theorem s1_store{n:Nat}{a:O}{x:O}:s1 P (.store n a x) s K=(
 match s.ev x with
 |some (.one v)=>(v.cells.length=n∧0<n)∧match s.evC a with
  |some (.pt id off)=>match hp s.heap id with
   |some (.box cells)=>off+n≤cells.length∧K ⟨none,[(id,.box (splice cells off v.cells))]⟩
   |_=>False
  |some (.pe id ep row off)=>match frzL s.heap [] v.cells with
   |some (ds,wr,p)=>p∧match hp (wrs s.heap wr) id with
    |some (.arr e sz rows)=>ep=e∧StRow rows row off n ds (kSt wr id e sz K)
    |_=>False
   |none=>False
  |_=>False
 |_=>False):=by
 simp only[sA.down];rfl
def sS_store:=PLift.up (fun(P:Program) (s:St) (K:Out→Prop) (n:Nat) (a:O) (x:O)=>(oS (P:=P) (s:=s) (K:=K) (op:= .store n a x) rfl).trans s1_store)
theorem s1_fieldA{off:Nat}{x:O}:s1 P (.fieldA off x) s K=(
 match s.evC x with
 |some (.pt id o)=>ret K (.pt id (o+off))
 |some (.pe id ep row o)=>match hp s.heap id with
  |some (.arr e _ _)=>ep=e∧ret K (.pe id ep row (o+off))
  |_=>False
 |some (.fp cells)=>ret K (.fp (cells.drop off))
 |_=>False):=by
 simp only[sA.down];rfl
def sS_fieldA:=PLift.up (fun(P:Program) (s:St) (K:Out→Prop) (off:Nat) (x:O)=>(oS (P:=P) (s:=s) (K:=K) (op:= .fieldA off x) rfl).trans s1_fieldA)
theorem s1_field{off:Nat}{n:Option Nat}{x:O}:s1 P (.field off n x) s K=(
 match s.ev x with
 |some (.one (.agg cs))=>ldC n (cs.drop off) K
 |_=>False):=by
 simp only[sA.down];rfl
def sS_field:=PLift.up (fun(P:Program) (s:St) (K:Out→Prop) (off:Nat) (n:Option Nat) (x:O)=>(oS (P:=P) (s:=s) (K:=K) (op:= .field off n x) rfl).trans s1_field)
theorem s1_indexA{sz:Nat}{x:O}{i:O}:s1 P (.indexA sz x i) s K=(
 match s.evV i with
 |some (.int _ j)=>match s.evC x with
  |some (.d (.sl rows))=>ExRow rows j sz K
  |some (.own id ep off len _)=>(0≤j∧j<len)∧match hp s.heap id with
   |some (.arr e sz' rows)=>(ep=e∧sz'=sz∧off+j.toNat<rows.length)∧ret K (.pe id ep (off+j.toNat) 0)
   |_=>False
  |_=>False
 |_=>False):=by
 simp only[sA.down];rfl
theorem s1_slice{sz:Nat}{x:O}{lo:Option O}{hi:Option O}{mx:Option O}:s1 P (.slice sz x lo hi mx) s K=(
 match s.evC x with
 |some (.d (.sl rows))=>match mx with
  |none=>match intV s lo 0 with
   |some l=>match intV s hi rows.length with
    |some h=>(0≤l∧l≤h∧h≤rows.length∧RowsSz rows sz)∧ret K (.d (.sl ((rows.take h.toNat).drop l.toNat)))
    |none=>False
   |none=>False
  |some mx=>match intV s (some mx) 0 with
   |some m=>match intV s lo 0 with
    |some l=>match intV s hi rows.length with
     |some h=>(0≤l∧l=h∧h=m∧m≤rows.length)∧K ⟨some (.one (.c (.own s.heap.length 0 0 0 none))),[(s.heap.length,.arr 0 sz [])]⟩
     |none=>False
    |none=>False
   |none=>False
 |some (.d (.v (.slice none 0 0)))=>match mx with
  |none=>match intV s lo 0 with
   |some l=>match intV s hi 0 with
    |some h=>(l=0∧h=0)∧retV K (.slice none 0 0)
    |none=>False
   |none=>False
  |some _=>False
 |some (.own id ep off len cap)=>match hp s.heap id with
  |some (.arr e sz' _)=>(ep=e∧sz'=sz)∧match cap with
   |none=>match mx with
    |none=>match intV s lo 0 with
     |some l=>match intV s hi len with
      |some h=>(0≤l∧l≤h∧h≤len)∧ret K (.own id ep (off+l.toNat) (h.toNat-l.toNat) none)
      |none=>False
     |none=>False
    |some mx=>match intV s (some mx) 0 with
     |some m=>match intV s lo 0 with
      |some l=>match intV s hi len with
       |some h=>(0≤l∧l≤h∧h≤m∧m≤len)∧ret K (.own id ep (off+l.toNat) (h.toNat-l.toNat) (some (m.toNat-l.toNat)))
       |none=>False
      |none=>False
     |none=>False
   |some c=>match intV s mx c with
    |some m=>match intV s lo 0 with
     |some l=>match intV s hi len with
      |some h=>(0≤l∧l≤h∧h≤m∧m≤c)∧ret K (.own id ep (off+l.toNat) (h.toNat-l.toNat) (some (m.toNat-l.toNat)))
      |none=>False
     |none=>False
    |none=>False
  |_=>False
 |_=>False):=by
 simp only[sA.down];rfl
theorem s1_fn{f:FuncId}{cs:List O}:s1 P (.fn f cs) s K=(
 match capL s cs with
 |some l=>ret K (.fn f l)
 |none=>False):=by
 simp only[sA.down];rfl
def sS_fn:=PLift.up (fun(P:Program) (s:St) (K:Out→Prop) (f:FuncId) (cs:List O)=>(oS (P:=P) (s:=s) (K:=K) (op:= .fn f cs) rfl).trans s1_fn)
theorem s1_app{sz:Nat}{u1:Nat}{x:O}{y:O}:s1 P (.app sz u1 x y) s K=(
 match s.evC x with
 |some cx=>match s.evC y with
  |some cy=>match rowsL (hp s.heap) sz cy with
   |some (new,p)=>p∧app1 s sz cx new K
   |none=>False
  |none=>False
 |none=>False):=by
 simp only[sA.down];rfl
theorem s1_call{f:FuncId}{args:List O}:s1 P (.call f args) s K=(
 match evL s args with
 |some as=>CallX P f as s K
 |none=>False):=by
 simp only[sA.down];rfl
def sS_call:=PLift.up (fun(P:Program) (s:St) (K:Out→Prop) (f:FuncId) (args:List O)=>(oS (P:=P) (s:=s) (K:=K) (op:= .call f args) rfl).trans s1_call)
theorem s1_callv{g:O}{args:List O}:s1 P (.callv g args) s K=(
 match s.evC g with
 |some (.fn f cs)=>match evL s args with
  |some as=>CallX P f (as++cs.map fun c=> .c (.pt c.1 c.2)) s K
  |none=>False
 |_=>False):=by
 simp only[sA.down];rfl
def sS_callv:=PLift.up (fun(P:Program) (s:St) (K:Out→Prop) (g:O) (args:List O)=>(oS (P:=P) (s:=s) (K:=K) (op:= .callv g args) rfl).trans s1_callv)
theorem s1_ext{x:O}{i:Nat}:s1 P (.ext x i) s K=(
 match s.ev x with
 |some (.tup l)=>match l[i]? with
  |some a=>K ⟨some (.one a),[]⟩
  |none=>False
 |_=>False):=by
 simp only[sA.down];rfl
def sS_ext:=PLift.up (fun(P:Program) (s:St) (K:Out→Prop) (x:O) (i:Nat)=>(oS (P:=P) (s:=s) (K:=K) (op:= .ext x i) rfl).trans s1_ext)
theorem s1_len{x:O}:s1 P (.len x) s K=(
 match s.evC x with
 |some (.d (.sl rows))=>retV K (.int .i64 rows.length)
 |some (.d (.v (.slice _ m _)))=>retV K (.int .i64 m)
 |some (.own id ep _ len _)=>match hp s.heap id with
  |some (.arr e _ _)=>ep=e∧retV K (.int .i64 len)
  |_=>False
 |_=>False):=by
 simp only[sA.down];rfl
def sS_len:=PLift.up (fun(P:Program) (s:St) (K:Out→Prop) (x:O)=>(oS (P:=P) (s:=s) (K:=K) (op:= .len x) rfl).trans s1_len)
theorem s1_slen{x:O}:s1 P (.slen x) s K=(
 match s.evV x with
 |some (.string b)=>retV K (.int .i64 b.size)
 |_=>False):=by
 simp only[sA.down];rfl
def sS_slen:=PLift.up (fun(P:Program) (s:St) (K:Out→Prop) (x:O)=>(oS (P:=P) (s:=s) (K:=K) (op:= .slen x) rfl).trans s1_slen)
theorem s1_cap{x:O}:s1 P (.cap x) s K=(
 match s.evC x with
 |some (.own id ep _ _ (some c))=>match hp s.heap id with
  |some (.arr e _ _)=>ep=e∧retV K (.int .i64 c)
  |_=>False
 |_=>False):=by
 simp only[sA.down];rfl
def sS_cap:=PLift.up (fun(P:Program) (s:St) (K:Out→Prop) (x:O)=>(oS (P:=P) (s:=s) (K:=K) (op:= .cap x) rfl).trans s1_cap)
theorem s1_bin{op:BinOp}{x:O}{y:O}:s1 P (.bin op x y) s K=(
 match s.evV x with
 |some a=>match s.evV y with
  |some b=>binK op a b (retV K)
  |none=>False
 |none=>False):=by
 simp only[sA.down];rfl
def sS_bin:=PLift.up (fun(P:Program) (s:St) (K:Out→Prop) (op:BinOp) (x:O) (y:O)=>(oS (P:=P) (s:=s) (K:=K) (op:= .bin op x y) rfl).trans s1_bin)
theorem s1_eqnil{neg:Bool}{x:O}:s1 P (.eqnil neg x) s K=(
 match s.evC x with
 |some (.d (.v (.slice none 0 0)))=>retV K (.bool (!neg))
 |_=>False):=by
 simp only[sA.down];rfl
theorem s1_istr{x:O}:s1 P (.istr x) s K=(
 match s.evV x with
 |some (.int _ n)=>retV K (.string (Utf8.encode n))
 |_=>False):=by
 simp only[sA.down];rfl
def sS_istr:=PLift.up (fun(P:Program) (s:St) (K:Out→Prop) (x:O)=>(oS (P:=P) (s:=s) (K:=K) (op:= .istr x) rfl).trans s1_istr)
theorem s1_mkmap:s1 P (.mkmap) s K=(
 K ⟨some (.one (.c (.mref s.heap.length))),[(s.heap.length,.map [])]⟩):=by
 simp only[sA.down];rfl
theorem s1_mget{kd:Nat}{ok:Bool}{zero:A1}{m:O}{k:O}:s1 P (.mget kd ok zero m k) s K=(
 match s.evC m with
 |some (.mref id)=>match hp s.heap id with
  |some (.map ents)=>match s.evV k with
   |some kv=>(keyK kd kv=true∧allK kd ents=true)∧K ⟨some (mres ok zero (mfind kv ents)),[]⟩
   |none=>False
  |_=>False
 |_=>False):=by
 simp only[sA.down];rfl
theorem s1_mlen{m:O}:s1 P (.mlen m) s K=(
 match s.evC m with
 |some (.mref id)=>match hp s.heap id with
  |some (.map ents)=>retV K (.int .i64 (ents.length:Nat))
  |_=>False
 |_=>False):=by
 simp only[sA.down];rfl
theorem s1_mset{kd:Nat}{m:O}{k:O}{v:O}:s1 P (.mset kd m k v) s K=(
 match s.evC m with
 |some (.mref id)=>match hp s.heap id with
  |some (.map ents)=>match s.evV k with
   |some kv=>match s.ev v with
    |some (.one a)=>(keyK kd kv=true∧allK kd ents=true∧a.isDt=true)∧K ⟨none,[(id,.map (mput kv a ents))]⟩
    |_=>False
   |none=>False
  |_=>False
 |_=>False):=by
 simp only[sA.down];rfl
theorem s1_not{x:O}:s1 P (.not x) s K=(
 match s.evV x with
 |some (.bool t)=>retV K (.bool (nb t))
 |_=>False):=by
 simp only[sA.down];rfl
def sS_not:=PLift.up (fun(P:Program) (s:St) (K:Out→Prop) (x:O)=>(oS (P:=P) (s:=s) (K:=K) (op:= .not x) rfl).trans s1_not)
theorem s1_beq{neg:Bool}{x:O}{y:O}:s1 P (.beq neg x y) s K=(
 match s.evV x with
 |some (.bool a)=>match s.evV y with
  |some (.bool b)=>retV K (.bool ((a==b)!=neg))
  |_=>False
 |_=>False):=by
 simp only[sA.down];rfl
def sS_beq:=PLift.up (fun(P:Program) (s:St) (K:Out→Prop) (neg:Bool) (x:O) (y:O)=>(oS (P:=P) (s:=s) (K:=K) (op:= .beq neg x y) rfl).trans s1_beq)
theorem s1_neg{x:O}:s1 P (.neg x) s K=(
 match s.evV x with
 |some (.int k n)=>retV K (.int k (k.wrap (0-n)))
 |_=>False):=by
 simp only[sA.down];rfl
def sS_neg:=PLift.up (fun(P:Program) (s:St) (K:Out→Prop) (x:O)=>(oS (P:=P) (s:=s) (K:=K) (op:= .neg x) rfl).trans s1_neg)
theorem s1_max{x:O}{y:O}:s1 P (.max x y) s K=(
 match s.evV x with
 |some (.int k a)=>match s.evV y with
  |some (.int _ b)=>retV K (.int k (if a<b then b else a))
  |_=>False
 |_=>False):=by
 simp only[sA.down];rfl
def sS_max:=PLift.up (fun(P:Program) (s:St) (K:Out→Prop) (x:O) (y:O)=>(oS (P:=P) (s:=s) (K:=K) (op:= .max x y) rfl).trans s1_max)
theorem s1_min{x:O}{y:O}:s1 P (.min x y) s K=(
 match s.evV x with
 |some (.int k a)=>match s.evV y with
  |some (.int _ b)=>retV K (.int k (if b<a then b else a))
  |_=>False
 |_=>False):=by
 simp only[sA.down];rfl
def sS_min:=PLift.up (fun(P:Program) (s:St) (K:Out→Prop) (x:O) (y:O)=>(oS (P:=P) (s:=s) (K:=K) (op:= .min x y) rfl).trans s1_min)
theorem s1_mins{x:O}{r:List O}:s1 P (.mins x r) s K=(
 match s.evV x with
 |some (.int k a)=>minL s r k a K
 |_=>False):=by
 simp only[sA.down];rfl
def sS_mins:=PLift.up (fun(P:Program) (s:St) (K:Out→Prop) (x:O) (r:List O)=>(oS (P:=P) (s:=s) (K:=K) (op:= .mins x r) rfl).trans s1_mins)
theorem s1_conv{k:IntKind}{x:O}:s1 P (.conv k x) s K=(
 match s.evV x with
 |some (.int _ n)=>retV K (.int k (k.wrap n))
 |_=>False):=by
 simp only[sA.down];rfl
def sS_conv:=PLift.up (fun(P:Program) (s:St) (K:Out→Prop) (k:IntKind) (x:O)=>(oS (P:=P) (s:=s) (K:=K) (op:= .conv k x) rfl).trans s1_conv)
theorem s1_eqs{neg:Bool}{plan:List (Nat×Nat)}{x:O}{y:O}:s1 P (.eqs neg plan x y) s K=(
 match s.ev x with
 |some (.one (.agg xs))=>match s.ev y with
  |some (.one (.agg ys))=>match eqCells plan xs ys with
   |some b=>retV K (.bool (eqB neg b))
   |none=>False
  |_=>False
 |_=>False
):=by
 simp only[sA.down];rfl
def sS_eqs:=PLift.up (fun(P:Program) (s:St) (K:Out→Prop) (neg:Bool) (plan:List (Nat×Nat)) (x:O) (y:O)=>(oS (P:=P) (s:=s) (K:=K) (op:= .eqs neg plan x y) rfl).trans s1_eqs)
theorem sS_eqnil{neg:Bool}{x:O}:sS P (.eqnil neg x) s K=(
 match s.evC x with
 |some (.d (.v (.slice none 0 0)))=>retV K (.bool (!neg))
 |some (.d (.sl rows))=>NilK neg rows.isEmpty K
 |some (.own id ep _ len _)=>match hp s.heap id with
  |some (.arr e _ _)=>ep=e∧NilK neg (len==0) K
  |_=>False
 |_=>False):=by
 simp only[sA.down];rfl
end
section
variable {P:Program} {dst:Option Nat} {op:AOp} {bef:List Nat} {lone:Lone} {r:List AStep} {s:St} {K:St→Prop} {g:Nat} {want:Bool} {h:List (Option Blk)} {i:Nat} {slots:List (Nat×AV)} {wl:List (Nat×List (Nat×Blk))}
variable {n m:Nat} {Q:XT→St→Prop} {a b:AC} {k:List Frm}
theorem qkOps_eq{out:Out}:sKO P r dst s K out=sOps P r (s.apply dst out) K:=by
 simp only[sA.down];first|exact kOps_eq|exact@kOps_eq
theorem qvcOps_nil:sOps P [] s K=K s:=by
 simp only[sA.down];first|exact vcOps_nil|exact@vcOps_nil
theorem qvcOps_none:sOps P (⟨dst,none,op,bef,lone⟩::r) s K=sS P op s (sKO P r dst s K):=by
 simp only[sA.down];first|exact vcOps_none|exact@vcOps_none
theorem qvcOps_some:sOps P (⟨dst,some (g,want),op,bef,lone⟩::r) s K=match lk s.slots g with
 |some (.one (.c (.d (.v (.bool t)))))=>sG P t want dst op r g s K
 |some (.tup [])=>sKO P r dst s K skipOut
 |_=>False:=by
 simp only[sA.down];first|exact vcOps_some|exact@vcOps_some
theorem qgOps_11:sG P true true dst op r g s K=sS P op ⟨setB s.slots g true,s.heap⟩ (sKO P r dst ⟨setB s.slots g true,s.heap⟩ K):=by
 simp only[sA.down];first|exact gOps_11|exact@gOps_11
theorem qgOps_00:sG P false false dst op r g s K=sS P op ⟨setB s.slots g false,s.heap⟩ (sKO P r dst ⟨setB s.slots g false,s.heap⟩ K):=by
 simp only[sA.down];first|exact gOps_00|exact@gOps_00
theorem qgOps_10:sG P true false dst op r g s K=sKO P r dst ⟨setB s.slots g true,s.heap⟩ K skipOut:=by
 simp only[sA.down];first|exact gOps_10|exact@gOps_10
theorem qgOps_01:sG P false true dst op r g s K=sKO P r dst ⟨setB s.slots g false,s.heap⟩ K skipOut:=by
 simp only[sA.down];first|exact gOps_01|exact@gOps_01
theorem qkD_nil{v:Option AV}:sKD P h r i dst lone slots wl K ⟨v,[]⟩=sD P h r (i+1) (putSlot slots dst v) wl K:=by
 simp only[sA.down];first|exact kD_nil|exact@kD_nil
theorem qvcD_nil:sD P h [] i slots wl K=K ⟨slots,wrs h (allW wl)⟩:=by
 simp only[sA.down];first|exact vcD_nil|exact@vcD_nil
theorem qvcD_none:sD P h (⟨dst,none,op,bef,lone⟩::r) i slots wl K=s1 P op ⟨slots,envH h wl bef⟩ (sKD P h r i dst lone slots wl K):=by
 simp only[sA.down];first|exact vcD_none|exact@vcD_none
theorem qvcD_some:sD P h (⟨dst,some (g,want),op,bef,lone⟩::r) i slots wl K=match lk slots g with
 |some (.one (.c (.d (.v (.bool t)))))=>sGD P h t want dst op bef lone r i g slots wl K
 |some (.tup [])=>sKD P h r i dst lone slots wl K skipOut
 |_=>False:=by
 simp only[sA.down];first|exact vcD_some|exact@vcD_some
theorem qgD_11:sGD P h true true dst op bef lone r i g slots wl K=s1 P op ⟨setB slots g true,envH h wl bef⟩ (sKD P h r i dst lone (setB slots g true) wl K):=by
 simp only[sA.down];first|exact gD_11|exact@gD_11
theorem qgD_00:sGD P h false false dst op bef lone r i g slots wl K=s1 P op ⟨setB slots g false,envH h wl bef⟩ (sKD P h r i dst lone (setB slots g false) wl K):=by
 simp only[sA.down];first|exact gD_00|exact@gD_00
theorem qgD_10:sGD P h true false dst op bef lone r i g slots wl K=sKD P h r i dst lone (setB slots g true) wl K skipOut:=by
 simp only[sA.down];first|exact gD_10|exact@gD_10
theorem qgD_01:sGD P h false true dst op bef lone r i g slots wl K=sKD P h r i dst lone (setB slots g false) wl K skipOut:=by
 simp only[sA.down];first|exact gD_01|exact@gD_01
theorem qPickK_1{x y:Option AV}{K:Out→Prop}:sPick true x y K=match x with|some v=>K ⟨some v,[]⟩|none=>False:=by
 simp only[sA.down];first|exact PickK_1|exact@PickK_1
theorem qPickK_0{x y:Option AV}{K:Out→Prop}:sPick false x y K=match y with|some v=>K ⟨some v,[]⟩|none=>False:=by
 simp only[sA.down];first|exact PickK_0|exact@PickK_0
theorem qvc_skip:sK P n m .skip k Q s=sN P n m k Q s:=by
 simp only[sA.down];first|exact vc_skip|exact@vc_skip
theorem qvc_reg{ops:List AStep}:sK P n m (.reg ops) k Q s=sOps P ops s (sN P n m k Q):=by
 simp only[sA.down];first|exact vc_reg|exact@vc_reg
theorem qvc_regd{ops:List AStep}:sK P n m (.regd ops) k Q s=sD P s.heap ops 0 s.slots [] (sN P n m k Q):=by
 simp only[sA.down];first|exact vc_regd|exact@vc_regd
theorem qvc_seq:sK P n m (.seq a b) k Q s=sK P n m a (.seq b::k) Q s:=by
 simp only[sA.down];first|exact vc_seq|exact@vc_seq
theorem qvc_block{id:Nat}:sK P n m (.block id a) k Q s=sK P n m a (.blk id::k) Q s:=by
 simp only[sA.down];first|exact vc_block|exact@vc_block
theorem qvc_loop:sK P n m (.loop a) k Q s=WpC P n m (.loop a) (sU P n m k Q) s:=by
 simp only[sA.down];first|exact vc_loop|exact@vc_loop
theorem qvc_sem:sK P n m (.sem a) k Q s=WpC P n m a (sU P n m k Q) s:=by
 simp only[sA.down];first|exact vc_sem|exact@vc_sem
theorem qvc_exit{id:Nat}:sK P n m (.exit id) k Q s=sU P n m k Q (.exit id) s:=by
 simp only[sA.down];first|exact vc_exit|exact@vc_exit
theorem qvc_ret:sK P n m .ret k Q s=sU P n m k Q .ret s:=by
 simp only[sA.down];first|exact vc_ret|exact@vc_ret
theorem qvc_cond{c:O}:sK P n m (.cond c a b) k Q s=match s.evV c with
 |some (.bool t)=>sC P n m t a b k Q s
 |_=>False:=by
 simp only[sA.down];first|exact vc_cond|exact@vc_cond
theorem qcnd_1:sC P n m true a b k Q s=sK P n m a k Q s:=by
 simp only[sA.down];first|exact cnd_1|exact@cnd_1
theorem qcnd_0:sC P n m false a b k Q s=sK P n m b k Q s:=by
 simp only[sA.down];first|exact cnd_0|exact@cnd_0
theorem qnrmK_seq:sN P n m (.seq b::k) Q s=sK P n m b k Q s:=by
 simp only[sA.down];first|exact nrmK_seq|exact@nrmK_seq
theorem qnrmK_blk{id:Nat}:sN P n m (.blk id::k) Q s=sN P n m k Q s:=by
 simp only[sA.down];first|exact nrmK_blk|exact@nrmK_blk
theorem qnrmK_nil:sN P n m [] Q s=Q .normal s:=by
 simp only[sA.down];first|exact nrmK_nil|exact@nrmK_nil
theorem qunw_exit_seq{i:Nat}:sU P n m (.seq b::k) Q (.exit i) s=sU P n m k Q (.exit i) s:=by
 simp only[sA.down];first|exact unw_exit_seq|exact@unw_exit_seq
theorem qunw_exit_blk{i id:Nat}:sU P n m (.blk id::k) Q (.exit i) s=if i=id then sN P n m k Q s else sU P n m k Q (.exit i) s:=by
 simp only[sA.down];first|exact unw_exit_blk|exact@unw_exit_blk
theorem qunw_exit_nil{i:Nat}:sU P n m [] Q (.exit i) s=Q (.exit i) s:=by
 simp only[sA.down];first|exact unw_exit_nil|exact@unw_exit_nil
theorem qunw_ret_seq:sU P n m (.seq b::k) Q .ret s=sU P n m k Q .ret s:=by
 simp only[sA.down];first|exact unw_ret_seq|exact@unw_ret_seq
theorem qunw_ret_blk{id:Nat}:sU P n m (.blk id::k) Q .ret s=sU P n m k Q .ret s:=by
 simp only[sA.down];first|exact unw_ret_blk|exact@unw_ret_blk
theorem qunw_ret_nil:sU P n m [] Q .ret s=Q .ret s:=by
 simp only[sA.down];first|exact unw_ret_nil|exact@unw_ret_nil
theorem qloopQ_exit{I:Nat→St→Prop}{j i:Nat}:sL n m I j Q (.exit i) s=Q (.exit i) s:=by
 simp only[sA.down];first|exact loopQ_exit|exact@loopQ_exit
theorem qloopQ_ret{I:Nat→St→Prop}{j:Nat}:sL n m I j Q .ret s=Q .ret s:=by
 simp only[sA.down];first|exact loopQ_ret|exact@loopQ_ret
end
end Go.Fw
namespace Go.Fw
section
variable {P:Program} {n m:Nat} {Q:XT→St→Prop} {s:St} {a b:AC} {k:List Frm}
theorem callS{f:FuncId}{A:AFn}(hf:afn P f=some A.er){args:List A1}{H H':List (Option Blk)}{res:List A1}(hlen:args.length≤A.ntmps)
 (h:sK P A.ntmps H.length A.code [] (sE H.length A.rvs res H') ⟨argSlots 0 args,H⟩):CallD P f args H (tupV res) H':=by
 rw[sK_eq,sE_eq]at h
 exact callD_of hf hlen (vcK_of h)
theorem qE_ret{rvs:List RV}{res:List A1}{H':List (Option Blk)}:sE m rvs res H' .ret s=resS s rvs fun l=>Fin m s.heap l res H':=by rw[sE_eq];rfl
theorem qE_norm{rvs:List RV}{res:List A1}{H':List (Option Blk)}:sE m rvs res H' .normal s=resS s rvs fun l=>Fin m s.heap l res H':=by rw[sE_eq];rfl
theorem loopS{body:AC}(I:Nat→St→Prop)(h0:∃k s0,View n m s s0∧I k s0)
 (hr:∀j s,I j s→sK P n m body [] (sL n m I j (sU P n m k Q)) s):WpC P n m (.loop body) (sU P n m k Q) s:=by
 rw[sU_eq]
 rw[sK_eq,sL_eq,sU_eq]at hr
 exact loopK_rule I h0 hr
theorem roundV{I:Nat→St→Prop}{j:Nat}{s':St}(h:∃k' s'',k'<j∧View n m s' s''∧I k' s''):sL n m I j Q .normal s':=by
 rw[sL_eq];exact h
theorem condS{p:Prop}[Decidable p](h1:p→sK P n m a k Q s)(h0:¬p→sK P n m b k Q s):sC P n m (decide p) a b k Q s:=by
 rw[sK_eq]at h1 h0;rw[sC_eq];exact cnd_split h1 h0
end
section
variable {P:Program} {dst:Option Nat} {op:AOp} {bef:List Nat} {lone:Lone} {r:List AStep} {s:St} {K:St→Prop} {g:Nat} {want:Bool} {h:List (Option Blk)} {i:Nat} {slots:List (Nat×AV)} {wl:List (Nat×List (Nat×Blk))}
theorem guardS{p:Prop}[Decidable p](h1:p→sG P true want dst op r g s K)(h0:¬p→sG P false want dst op r g s K):sG P (decide p) want dst op r g s K:=by
 rw[sG_eq]at*;exact gOps_split h1 h0
theorem guardD{p:Prop}[Decidable p](h1:p→sGD P h true want dst op bef lone r i g slots wl K)(h0:¬p→sGD P h false want dst op bef lone r i g slots wl K):sGD P h (decide p) want dst op bef lone r i g slots wl K:=by
 rw[sGD_eq]at*;exact gD_split h1 h0
theorem qkD_lone{v:Option AV}{w:Nat×Blk}{wr:List (Nat×Blk)}{ts:List Nat}(ha:aparts slots (w::wr) ts=true):sKD P h r i dst (.lone ts) slots wl K ⟨v,w::wr⟩=sD P h r (i+1) (putSlot slots dst v) (wl++[(i,w::wr)]) K:=by
 simp only[sKD_eq,sD_eq];rw[kD_eq,WrOk_lone ha];simp[addW]
section
variable {wr:List (Nat×Blk)} {id a:Nat} {ts:List Nat}
theorem ap_nil:aparts slots wr []=true:=by first|(simp only[aparts];done)|(simp only[apartS,apartC];done)|simp[aparts,apartS,apartC,bne]
theorem ap_cons:aparts slots wr (a::ts)=(apartS (lk slots a) wr&&aparts slots wr ts):=by first|(simp only[aparts];done)|(simp only[apartS,apartC];done)|simp[aparts,apartS,apartC,bne]
theorem apS_own{ep off len:Nat}{cap:Option Nat}:apartS (some (.one (.c (.own id ep off len cap)))) wr=wr.all fun p=>p.1 !=id:=by first|(simp only[aparts];done)|(simp only[apartS,apartC];done)|simp[aparts,apartS,apartC,bne]
theorem apS_pt{off:Nat}:apartS (some (.one (.c (.pt id off)))) wr=wr.all fun p=>p.1 !=id:=by first|(simp only[aparts];done)|(simp only[apartS,apartC];done)|simp[aparts,apartS,apartC,bne]
theorem apS_pe{ep row off:Nat}:apartS (some (.one (.c (.pe id ep row off)))) wr=wr.all fun p=>p.1 !=id:=by first|(simp only[aparts];done)|(simp only[apartS,apartC];done)|simp[aparts,apartS,apartC,bne]
theorem apS_d{x:D}:apartS (some (.one (.c (.d x)))) wr=true:=by first|(simp only[aparts];done)|(simp only[apartS,apartC];done)|simp[aparts,apartS,apartC,bne]
theorem apS_fp{x:List D}:apartS (some (.one (.c (.fp x)))) wr=true:=by first|(simp only[aparts];done)|(simp only[apartS,apartC];done)|simp[aparts,apartS,apartC,bne]
theorem apS_fn{f:FuncId}{x:List (Nat×Nat)}:apartS (some (.one (.c (.fn f x)))) wr=true:=by first|(simp only[aparts];done)|(simp only[apartS,apartC];done)|simp[aparts,apartS,apartC,bne]
theorem wa_nil:(([]:List (Nat×Blk)).all fun p=>p.1 !=id)=true:=by first|(simp only[aparts];done)|(simp only[apartS,apartC];done)|simp[aparts,apartS,apartC,bne]
theorem wa_cons{j:Nat}{b:Blk}:(((j,b)::wr).all fun p=>p.1 !=id)=(!(j==id)&&wr.all fun p=>p.1 !=id):=by first|(simp only[aparts];done)|(simp only[apartS,apartC];done)|simp[aparts,apartS,apartC,bne]
end
end
def C.isD:C→Bool
 | .d _=>true
 |_=>false
def Blk.easy:Blk→Bool
 | .arr _ _ _=>true
 | .box cells=>cells.all C.isD
 | .map ents=>entsD ents
theorem A1.isDt_ren{a:A1}(h:a.isDt=true)(ρ:Nat→Nat):a.ren ρ=a:=by
 have hc:∀c:C,c.isDt=true→c.ren ρ=c:=fun c hc=>by cases c<;>simp_all [C.isDt,C.ren]
 cases a with
 |c x=>simp only[A1.ren];rw[hc x h]
 |agg cs=>
  simp only[A1.isDt,List.all_eq_true]at h
  simp only[A1.ren]
  congr 1
  conv=>rhs;rw[←List.map_id cs]
  exact List.map_congr_left fun c hx=>hc c (h c hx)
theorem A1.isDt_live{a:A1}(h:a.isDt=true)(H:Heap):a.live H:=by
 have hc:∀c:C,c.isDt=true→c.live H:=fun c hc=>by cases c<;>simp_all [C.isDt,C.live]
 cases a with
 |c x=>exact hc x h
 |agg cs=>
  simp only[A1.isDt,List.all_eq_true]at h
  exact fun c hx=>hc c (h c hx)
theorem entsD_ren{ents:List (Value×A1)}(h:entsD ents=true)(ρ:Nat→Nat):ents.map (fun e=>(e.1,e.2.ren ρ))=ents:=by
 simp only[entsD,List.all_eq_true]at h
 conv=>rhs;rw[←List.map_id ents]
 exact List.map_congr_left fun e he=>by rw[A1.isDt_ren (h e he)];rfl
theorem entsD_live{ents:List (Value×A1)}(h:entsD ents=true)(H:Heap):(Blk.map ents).live H:=by
 simp only[entsD,List.all_eq_true]at h
 exact fun e he=>A1.isDt_live (h e he) H
end Go.Fw
namespace Go.Fw
theorem bors_mono{G:Heap}:∀{cs:List C} {K K':List C→Prop},(∀x,K x→K' x)→bors G cs K→bors G cs K'
 |[],_,_,hi,h=>hi _ h
 | .d x::cs,K,K',hi,h=>by
   have h':bors G cs fun ds=>K (.d (nrm x)::ds):=h
   exact bors_mono (cs:=cs) (K':=fun ds=>K' (.d (nrm x)::ds)) (fun ds=>hi _) h'
 | .own id ep off len cap::cs,K,K',hi,h=>by
   simp only[bors]at h⊢
   split at h
   ·exact⟨h.1,h.2.1,bors_mono (fun ds=>hi _) h.2.2⟩
   ·exact h.elim
 | .fn f []::cs,K,K',hi,h=>by
   have h':bors G cs fun ds=>K (.fn f []::ds):=h
   exact bors_mono (cs:=cs) (K':=fun ds=>K' (.fn f []::ds)) (fun ds=>hi _) h'
 | .pt _ _::_,_,_,_,h=>h.elim
 | .pe _ _ _ _::_,_,_,_,h=>h.elim
 | .fp _::_,_,_,_,h=>h.elim
 | .fn _ (_::_)::_,_,_,_,h=>h.elim
 | .mref _::_,_,_,_,h=>h.elim
theorem borAs_mono{G:Heap}:∀{as:List A1} {K K':List A1→Prop},(∀x,K x→K' x)→borAs G as K→borAs G as K'
 |[],_,_,hi,h=>hi _ h
 | .c x::r,K,K',hi,h=>by
   refine bors_mono (cs:=[x]) (fun ds hd=>?_) h
   split at hd
   ·exact borAs_mono (fun as=>hi _) hd
   ·exact hd.elim
 | .agg cs::r,K,K',hi,h=>by
   refine bors_mono (cs:=cs) (fun ds hd=>?_) h
   exact borAs_mono (fun as=>hi _) hd
theorem callX_bor{P:Program}{f:FuncId}{as as':List A1}{s:St}{K:Out→Prop}{res:AV}(hc:CallD P f as' [] res [])(hb:borAs (hp s.heap) as (·=as'))(hpl:res.plain=true)(hK:K ⟨some res,[]⟩):CallX P f as s K:=
 ⟨_,call_bor (borAs_mono (fun x hx=>by subst hx;exact⟨res,hc,hpl,rfl⟩) hb),hK⟩
def D.flat:D→Bool
 | .v _=>true
 |_=>false
def C.flat:C→Bool
 | .d x=>x.flat
 | .fp _=>false
 |_=>true
def A1.flat:A1→Bool
 | .c x=>x.flat
 | .agg cs=>cs.all C.flat
def AV.flat:AV→Bool
 | .one a=>a.flat
 | .tup l=>l.all A1.flat
def flatB:Option Blk→Prop
 |some (.box cells)=>cells.all C.flat=true
 |some (.arr _ _ rows)=>∀row∈rows,row.all D.flat=true
 |some (.map ents)=>∀e∈ents,e.2.flat=true
 |none=>True
def flatH:List (Option Blk)→Prop
 |[]=>True
 |b::r=>flatB b∧flatH r
theorem flatH_mem:∀{H:List (Option Blk)},flatH H→∀k blk,hp H k=some blk→flatB (some blk)
 |[],_,k,blk,h=>by simp[hp]at h
 |b::r,⟨h1,h2⟩,k,blk,h=>by
  cases k with
  |zero=>have:b=some blk:=by simpa[hp]using h
         subst this;exact h1
  |succ k=>rw[hp_cons]at h;exact flatH_mem h2 k blk h
theorem flat_rows{α:Type}{enc:α→List D}(h:∀x,(enc x).all D.flat=true)(xs:List α):∀row∈xs.map enc,row.all D.flat=true:=by
 intro row hr
 obtain⟨x,_,rfl⟩:=List.mem_map.1 hr
 exact h x
section
variable {φ:Phi} {F F':Nat→Prop} {G:Heap} {w:World}
theorem DRep.flat{d:D}{v:Value}(hf:d.flat=true)(h:DRep w F d v):DRep w F' d v:=by
 cases h with
 |v _ hx=>exact .v _ hx
 |nil=>simp[D.flat]at hf
 |sl=>simp[D.flat]at hf
theorem CRep.flat{c:C}{v:Value}(hf:c.flat=true)(h:CRep φ F G w c v):CRep φ F' G w c v:=by
 cases c with
 |d x=>exact DRep.flat hf h
 |fp _=>simp[C.flat]at hf
 |_=>exact h
theorem CsRep.flat{cs:List C}{vs:List Value}(hf:cs.all C.flat=true)(h:CsRep φ F G w cs vs):CsRep φ F' G w cs vs:=by
 induction h with
 |nil=>exact .nil
 |cons x _ ih=>
  simp only[List.all_cons,Bool.and_eq_true]at hf
  exact .cons (CRep.flat hf.1 x) (ih hf.2)
theorem A1Rep.flat{a:A1}{v:Value}(hf:a.flat=true)(h:A1Rep φ F G w a v):A1Rep φ F' G w a v:=by
 cases a with
 |c x=>exact CRep.flat hf h
 |agg cs=>obtain⟨vs,rfl,h⟩:=h;exact⟨vs,rfl,CsRep.flat hf h⟩
theorem AVRep.flat{a:AV}{v:Value}(hf:a.flat=true)(h:AVRep φ F G w a v):AVRep φ F' G w a v:=by
 cases a with
 |one x=>exact A1Rep.flat hf h
 |tup l=>
  obtain⟨vs,rfl,h⟩:=h
  refine⟨vs,rfl,?_⟩
  simp only[AV.flat]at hf
  induction h with
  |nil=>exact .nil
  |cons x _ ih=>
   simp only[List.all_cons,Bool.and_eq_true]at hf
   exact .cons (A1Rep.flat hf.1 x) (ih hf.2)
end
theorem ents_flat_up{φ φ2:Phi}{F F':Nat→Prop}{G G':Heap}{w:World}{ρ:Nat→Nat}{ents:List (Value×A1)}{es:List MapEntry}(hf:∀e∈ents,e.2.flat=true)
 (h:All2 (fun(e:Value×A1) (m:MapEntry)=>m.key=e.1∧A1Rep φ F' G w e.2 m.val) ents es) (hup:∀(a:A1) v,a.flat=true→A1Rep φ F' G w a v→A1Rep φ2 F G' w (a.ren ρ) v):
 All2 (fun(e:Value×A1) (m:MapEntry)=>m.key=e.1∧A1Rep φ2 F G' w e.2 m.val) (ents.map fun e=>(e.1,e.2.ren ρ)) es:=by
 induction h with
 |nil=>exact .nil
 |cons a _ ih=>exact .cons ⟨a.1,hup _ _ (hf _ (List.mem_cons_self ..)) a.2⟩ (ih fun e he=>hf e (List.mem_cons_of_mem _ he))
theorem call_borF{P:Program}{f:FuncId}{as:List A1}{s:St}{K:Out→Prop}
 (h:borAs (hp s.heap) as fun as'=>∃res H',CallD P f as' [] res H'∧res.flat=true∧flatH H'∧K ⟨some (res.ren (s.heap.length+·)),tailWr 0 H' (s.heap.length+·)⟩):CallO P f as s K:=by
 intro φ F w vs hr hA
 obtain⟨as',⟨res,H',hc,hpl,hfl,hK⟩,hA'⟩:=borAs_sound hr (F':=fun b=>F b∨∃id o,φ id=some (b,o)) (fun b hb=> .inl hb) (fun id b o hb=> .inr ⟨id,o,hb⟩) (fun _=>none) (hp []) h hA
 refine(hc (fun _=>none) _ w vs ⟨fun id blk hb=>(by simp[hp]at hb),fun id x hx=>(by cases hx),fun i j b o b' o' hi=>(by cases hi),fun b hb=>⟨?_,fun id b' o hi=>(by cases hi)⟩⟩ hA').mono ?_
 ·rcases hb with hb|⟨id,o,hb⟩
  ·exact(hr.frz b hb).1
  ·exact hr.lt hb
 ·rintro v w' ⟨φ',F',hv,hr',hs,hf⟩
  have hrest:∀b,b<w.heap.size→w'.heap[b]? =w.heap[b]? :=fun b hb=>hf.rest b hb fun id o hi=>(by cases hi)
  have hnew:∀k b o,φ' k=some (b,o)→w.heap.size≤b:=fun k b o hk=>by
   rcases hf.own k b o hk with⟨_,_,h⟩|h
   ·cases h
   ·exact h
  have hout:∀k,s.heap.length≤k→hp s.heap k=none:=fun k hk=>by simp[hp,List.getElem?_eq_none hk]
  obtain⟨w1,w2⟩:=hp_wrs_tail (s.heap.length+·) H' 0 s.heap (by intro i j _ _ he;omega)
  simp only[Nat.zero_add]at w1 w2
  have wlt:∀k,k<s.heap.length→hp (wrs s.heap (tailWr 0 H' (s.heap.length+·))) k=hp s.heap k:=fun k hk=>w2 k fun j _ he=>by omega
  have wge:∀k,hp H' k=none→hp (wrs s.heap (tailWr 0 H' (s.heap.length+·))) (s.heap.length+k)=none:=fun k hk=>by
   rw[w2 (s.heap.length+k) fun j hj he=>hj (by rw[show j=k by omega];exact hk)];exact hout _ (by omega)
  let φ2:Phi:=fun k=>if k<s.heap.length then φ k else φ' (k-s.heap.length)
  have p1:∀k,k<s.heap.length→φ2 k=φ k:=fun k hk=>if_pos hk
  have p2:∀k,φ2 (s.heap.length+k)=φ' k:=fun k=>by
   show(if _ then _ else _)=_
   rw[if_neg (by omega),show s.heap.length+k-s.heap.length=k by omega]
  have lts:∀k,hp s.heap k≠none→k<s.heap.length:=fun k hk=>by
   by_cases h:k<s.heap.length
   ·exact h
   ·exact(hk (hout k (by omega))).elim
  have stp:Stp φ F (hp s.heap) w φ2 F (hp (wrs s.heap (tailWr 0 H' (s.heap.length+·)))) w':=by
   refine⟨fun b hb=>⟨hb,hrest b (hr.frz b hb).1⟩,fun id=>?_⟩
   by_cases hid:id<s.heap.length
   ·rw[wlt id hid];exact BStp.same (p1 id hid) fun b o hb=>bsize_congr (hrest b (hr.lt hb))
   ·rw[hout id (by omega)];trivial
  have cup:∀{c:C} {v:Value},c.flat=true→CRep φ' F' (hp H') w' c v→CRep φ2 F (hp (wrs s.heap (tailWr 0 H' (s.heap.length+·)))) w' (c.ren (s.heap.length+·)) v:=
   fun hcf hc=>CRep.up w1 (fun k _=>p2 k) (CRep.flat hcf hc)
  refine⟨⟨_,φ2,F,hK,(fun av hav=>by cases hav;exact AVRep.up w1 (fun k _=>p2 k) (AVRep.flat hpl hv)),?_,stp,⟨hf.size,fun b hb _=>hrest b hb,fun id b o hi=>?_,fun b hb=> .inl hb,hf.io⟩⟩⟩
  ·refine⟨fun id blk hb=>?_,fun id x hx=>?_,fun i j b o b' o' hi hj hbb=>?_,fun b hb=>⟨Nat.lt_of_lt_of_le (hr.frz b hb).1 hf.size,fun id b' o hi=>?_⟩⟩
   ·by_cases hid:id<s.heap.length
    ·rw[wlt id hid]at hb
     exact BRep.mono stp (p1 id hid) (fun b o hφ=>hrest b (hr.lt hφ)) (hr.blk id blk hb)
    ·obtain⟨k,rfl⟩:∃k,id=s.heap.length+k:=⟨id-s.heap.length,by omega⟩
     cases hk:hp H' k with
     |none=>rw[wge k hk]at hb;cases hb
     |some blk'=>
      rw[w1 k blk' hk]at hb;cases hb
      have hB:=hr'.blk k blk' hk
      have hfb:=flatH_mem hfl k blk' hk
      cases blk' with
      |box cells=>
       obtain⟨b,cs,T,h1,h2,h3⟩:=hB
       refine⟨b,cs,T,by rw[p2];exact h1,h2,?_⟩
       have h3:=CsRep.flat (F':=F) hfb h3
       exact All2.map_left' h3 fun _ _ hb=>CRep.up w1 (fun k _=>p2 k) hb
      |arr e sz rows=>
       rcases hB with⟨h1,h2⟩|⟨b,o,cs,T,h1,h2,h3,h4,h5⟩
       ·exact .inl ⟨by rw[p2];exact h1,h2⟩
       ·refine .inr ⟨b,o,cs,T,by rw[p2];exact h1,h2,h3,h4,fun i row hi j d hj=>?_⟩
        obtain⟨u,hu,hd⟩:=h5 i row hi j d hj
        exact⟨u,hu,DRep.flat (List.all_eq_true.1 (hfb row (List.mem_of_getElem? hi)) d (List.mem_of_getElem? hj)) hd⟩
      |map ents=>
       obtain⟨b,es,clock,h1,h2,h4,h3⟩:=hB
       refine⟨b,es,clock,by rw[p2];exact h1,h2,h4,?_⟩
       exact ents_flat_up hfb h3 fun a v ha hv=>A1Rep.up w1 (fun k _=>p2 k) (A1Rep.flat ha hv)
   ·by_cases hid:id<s.heap.length
    ·rw[wlt id hid];rw[p1 id hid]at hx;exact hr.dom id x hx
    ·obtain⟨k,rfl⟩:∃k,id=s.heap.length+k:=⟨id-s.heap.length,by omega⟩
     rw[p2]at hx
     have:=hr'.dom k x hx
     cases hk:hp H' k with
     |none=>rw[hk]at this;cases this
     |some blk'=>rw[w1 k blk' hk];rfl
   ·subst hbb
    by_cases hii:i<s.heap.length<;>by_cases hjj:j<s.heap.length
    ·rw[p1 i hii]at hi;rw[p1 j hjj]at hj;exact hr.inj i j b o b o' hi hj rfl
    ·obtain⟨k,rfl⟩:∃k,j=s.heap.length+k:=⟨j-s.heap.length,by omega⟩
     rw[p1 i hii]at hi;rw[p2]at hj
     have:=hr.lt hi;have:=hnew _ _ _ hj;omega
    ·obtain⟨k,rfl⟩:∃k,i=s.heap.length+k:=⟨i-s.heap.length,by omega⟩
     rw[p1 j hjj]at hj;rw[p2]at hi
     have:=hr.lt hj;have:=hnew _ _ _ hi;omega
    ·obtain⟨k,rfl⟩:∃k,i=s.heap.length+k:=⟨i-s.heap.length,by omega⟩
     obtain⟨l,rfl⟩:∃k,j=s.heap.length+k:=⟨j-s.heap.length,by omega⟩
     rw[p2]at hi hj
     rw[hr'.inj k l b o b o' hi hj rfl]
   ·by_cases hid:id<s.heap.length
    ·rw[p1 id hid]at hi;exact(hr.frz b hb).2 id b' o hi
    ·obtain⟨k,rfl⟩:∃k,id=s.heap.length+k:=⟨id-s.heap.length,by omega⟩
     rw[p2]at hi
     have:=hnew _ _ _ hi;have:=(hr.frz b hb).1;omega
  ·by_cases hid:id<s.heap.length
   ·rw[p1 id hid]at hi;exact .inl ⟨id,o,hi⟩
   ·obtain⟨k,rfl⟩:∃k,id=s.heap.length+k:=⟨id-s.heap.length,by omega⟩
    rw[p2]at hi;exact .inr (hnew _ _ _ hi)
theorem callX_borF{P:Program}{f:FuncId}{as as':List A1}{s:St}{K:Out→Prop}{res:AV}{H':List (Option Blk)}(hc:CallD P f as' [] res H')(hb:borAs (hp s.heap) as (·=as'))(hpl:res.flat=true)(hfl:flatH H')
 (hK:K ⟨some (res.ren (rn [] s.heap.length)),tailWr 0 H' (rn [] s.heap.length)⟩):CallX P f as s K:=by
 have e:rn [] s.heap.length=(s.heap.length+·):=rfl
 rw[e]at hK
 exact⟨_,call_borF (borAs_mono (fun x hx=>by subst hx;exact⟨res,H',hc,hpl,hfl,rfl⟩) hb),hK⟩
end Go.Fw
namespace Go.Fw
abbrev Src:=List (Option Nat)
def sphi(σ:Src)(φ:Phi):Phi:=fun k=>((σ[k]?).join).bind φ
def sfrz(σ:Src)(φ:Phi)(F:Nat→Prop):Nat→Prop:=fun b=>F b∨∃j o,φ j=some (b,o)∧∀k:Nat,σ[k]?≠some (some j)
def FrzEq(rows:List (List D))(off len:Nat)(R:List (List D)):Prop:=R=(rows.drop off).take len
theorem C.isDt_mono{φ φ':Phi}{F F':Nat→Prop}{G G':Heap}{w w':World}(hm:∀b,F b→F' b∧w'.heap[b]? =w.heap[b]?){c:C}{v:Value}(hd:c.isDt=true)(h:CRep φ F G w c v):CRep φ' F' G' w' c v:=by
 cases c with
 |d x=>exact DRep.mono hm h
 |_=>cases hd
theorem A1.isDt_mono{φ φ':Phi}{F F':Nat→Prop}{G G':Heap}{w w':World}(hm:∀b,F b→F' b∧w'.heap[b]? =w.heap[b]?){c:A1}{v:Value}(hd:c.isDt=true)(h:A1Rep φ F G w c v):A1Rep φ' F' G' w' c v:=by
 cases c with
 |c x=>exact C.isDt_mono hm hd h
 |agg cs=>
  obtain⟨vs,rfl,h⟩:=h
  simp only[A1.isDt,List.all_eq_true]at hd
  refine⟨vs,rfl,?_⟩
  unfold CsRep at*
  induction h with
  |nil=>exact .nil
  |cons a _ ih=>exact .cons (C.isDt_mono hm (hd _ (List.mem_cons_self ..)) a) (ih fun c hc=>hd c (List.mem_cons_of_mem _ hc))
theorem entsD_mono{φ φ':Phi}{F F':Nat→Prop}{G G':Heap}{w w':World}(hm:∀b,F b→F' b∧w'.heap[b]? =w.heap[b]?){ents:List (Value×A1)}{es:List MapEntry}(hd:entsD ents=true)(h:All2 (fun(e:Value×A1) (m:MapEntry)=>m.key=e.1∧A1Rep φ F G w e.2 m.val) ents es):
 All2 (fun(e:Value×A1) (m:MapEntry)=>m.key=e.1∧A1Rep φ' F' G' w' e.2 m.val) ents es:=by
 simp only[entsD,List.all_eq_true]at hd
 induction h with
 |nil=>exact .nil
 |cons a _ ih=>exact .cons ⟨a.1,A1.isDt_mono hm (hd _ (List.mem_cons_self ..)) a.2⟩ (ih fun c hc=>hd c (List.mem_cons_of_mem _ hc))
def noSrc(j:Nat):Src→Bool
 |[]=>true
 |some i::r=>(i !=j)&&noSrc j r
 |none::r=>noSrc j r
theorem noSrc_get{j:Nat}:∀{σ:Src},noSrc j σ=true→∀k:Nat,σ[k]?≠some (some j)
 |[],_,k=>by simp
 |some i::r,h,k=>by
  simp only[noSrc,Bool.and_eq_true,bne_iff_ne]at h
  cases k with
  |zero=>simpa using h.1
  |succ k=>simpa using noSrc_get h.2 k
 |none::r,h,k=>by
  cases k with
  |zero=>simp
  |succ k=>simpa using noSrc_get (σ:=r) h k
def shCaps(σ:Src)(H':List (Option Blk)):List (Nat×Nat)→List (Nat×Nat)→Prop
 |[],[]=>True
 |(k,o')::r',(j,o)::r=>(σ[k]? =some (some j)∧o'=o∧match hp H' k with|some (.box _)=>True|_=>False)∧shCaps σ H' r' r
 |_,_=>False
def shC(h:List (Option Blk))(σ:Src)(H':List (Option Blk)):C→C→Prop
 | .d x,.d y=>x=y∨x=nrm y
 | .d (.sl R),.own j ep off len _=>noSrc j σ=true∧match hp h j with
   |some (.arr e _ rows)=>ep=e∧off+len≤rows.length∧FrzEq rows off len R
   |_=>False
 | .own k ep' off' len' cap',.d (.v (.slice none 0 0))=>(σ[k]? =some none∧off'=0∧len'=0∧cap'=none)∧match hp H' k with
   |some (.arr e' _ _)=>ep'=e'
   |_=>False
 | .own k ep' _ _ (some _),.own _ _ _ _ _=>match hp H' k with
   |some (.arr e' _ _)=>ep'<e'
   |_=>False
 | .own k ep' off' len' none,.own j ep off len _=>(σ[k]? =some (some j)∧off'=off∧len'=len)∧match hp h j with
   |some (.arr e _ _)=>ep=e∧match hp H' k with
    |some (.arr e' _ rows)=>ep'=e'∧off'+len'≤rows.length
    |_=>False
   |_=>False
 | .pt k off',.pt j off=>(σ[k]? =some (some j)∧off'=off)∧match hp H' k with|some (.box _)=>True|_=>False
 | .pe k ep' row' off',.pe j ep row off=>(σ[k]? =some (some j)∧row'=row∧off'=off)∧match hp h j with
   |some (.arr e _ _)=>ep=e∧match hp H' k with
    |some (.arr e' _ rows)=>ep'=e'∧row'<rows.length
    |_=>False
   |_=>False
 | .fp x,.fp y=>x=y
 | .mref k,.mref j=>σ[k]? =some (some j)∧match hp H' k with|some (.map _)=>True|_=>False
 | .fn f' caps',.fn f caps=>f'=f∧shCaps σ H' caps' caps
 |_,_=>False
def shCs(h:List (Option Blk))(σ:Src)(H':List (Option Blk)):List C→List C→Prop
 |[],[]=>True
 |x::l,y::m=>shC h σ H' x y∧shCs h σ H' l m
 |_,_=>False
def shA(h:List (Option Blk))(σ:Src)(H':List (Option Blk)):A1→A1→Prop
 | .c x,.c y=>shC h σ H' x y
 | .agg xs,.agg ys=>shCs h σ H' xs ys
 |_,_=>False
def shAs(h:List (Option Blk))(σ:Src)(H':List (Option Blk)):List A1→List A1→Prop
 |[],[]=>True
 |x::l,y::m=>shA h σ H' x y∧shAs h σ H' l m
 |_,_=>False
def shV(h:List (Option Blk))(σ:Src)(H':List (Option Blk)):AV→AV→Prop
 | .one x,.one y=>shA h σ H' x y
 | .tup xs,.tup ys=>shAs h σ H' xs ys
 |_,_=>False
def shSl(h:List (Option Blk))(σ:Src)(H':List (Option Blk))(s:List (Nat×AV)):List (Nat×AV)→Prop
 |[]=>True
 |(t,v)::l=>(match lk s t with|some u=>shV h σ H' v u|none=>False)∧shSl h σ H' s l
def PreEq(rows' rows:List (List D)):Prop:=rows'=rows∨∃r,rows'=rows++r
def shB(h:List (Option Blk))(σ:Src)(H':List (Option Blk)):Option Nat→Option Blk→Prop
 |some j,some (.arr _ sz rows)=>match hp h j with
  |some (.arr _ sz' rows')=>sz'=sz∧PreEq rows' rows
  |_=>False
 |some j,some (.box cells)=>match hp h j with
  |some (.box cells')=>shCs h σ H' cells cells'
  |_=>False
 |some j,some (.map ents)=>match hp h j with
  |some (.map ents')=>ents'=ents∧entsD ents=true
  |_=>False
 |none,some (.arr _ _ rows)=>rows=[]
 |none,none=>True
 |_,_=>False
def shBs(h:List (Option Blk))(σ0:Src)(H0:List (Option Blk)):Src→List (Option Blk)→Prop
 |[],[]=>True
 |j::σ,b::H'=>shB h σ0 H0 j b∧shBs h σ0 H0 σ H'
 |_,_=>False
def keepS1(i:Nat)(j:Option Nat):Option Blk→Option Blk→Prop
 |some (.arr e sz rows),some (.arr e' sz' rows')=>e<e'∨(e=e'∧sz'=sz∧rows.length≤rows'.length∧j=some i)
 |some (.box _),some (.box _)=>j=some i
 |some (.map _),some (.map _)=>j=some i
 |none,_=>True
 |_,_=>False
def keepS:Nat→List (Option Blk)→Src→List (Option Blk)→Prop
 |_,[],_,_=>True
 |i,b::h,j::σ,b'::H'=>keepS1 i j b b'∧keepS (i+1) h σ H'
 |_,_,_,_=>False
theorem shBs_get{h:List (Option Blk)}{σ0:Src}{H0:List (Option Blk)}:∀{σ:Src} {H':List (Option Blk)},shBs h σ0 H0 σ H'→σ.length=H'.length∧∀(k:Nat) j,σ[k]? =some j→∃b,H'[k]? =some b∧shB h σ0 H0 j b
 |[],[],_=>⟨rfl,fun k j hk=>by simp at hk⟩
 |j::σ,b::H',⟨h1,h2⟩=>by
  obtain⟨g1,g2⟩:=shBs_get h2
  refine⟨by simp[g1],fun k j' hk=>?_⟩
  cases k with
  |zero=>simp at hk;subst hk;exact⟨b,rfl,h1⟩
  |succ k=>simpa using g2 k j' (by simpa using hk)
 |[],_::_,h=>h.elim
 |_::_,[],h=>h.elim
theorem keepS_get:∀{i:Nat} {h:List (Option Blk)} {σ:Src} {H':List (Option Blk)},keepS i h σ H'→∀(k:Nat) b,h[k]? =some b→∃j b',σ[k]? =some j∧H'[k]? =some b'∧keepS1 (i+k) j b b'
 |i,[],_,_,_,k,b,hk=>by simp at hk
 |i,b::h,j::σ,b'::H',⟨h1,h2⟩,k,x,hk=>by
  cases k with
  |zero=>simp at hk;subst hk;exact⟨j,b',rfl,rfl,h1⟩
  |succ k=>
   obtain⟨j2,b2,q1,q2,q3⟩:=keepS_get h2 k x (by simpa using hk)
   exact⟨j2,b2,by simpa using q1,by simpa using q2,by rw[show i+(k+1)=i+1+k by omega];exact q3⟩
 |_,_::_,[],_,h,_,_,_=>h.elim
 |_,_::_,_::_,[],h,_,_,_=>h.elim
section
variable {φ:Phi} {F:Nat→Prop} {w:World} {h H':List (Option Blk)} {σ:Src}
theorem sphi_some{k j:Nat}(hk:σ[k]? =some (some j)):sphi σ φ k=φ j:=by simp[sphi,hk]
theorem sphi_none{k:Nat}(hk:σ[k]? =some none):sphi σ φ k=none:=by simp[sphi,hk]
theorem sphi_src{k:Nat}{x}(hx:sphi σ φ k=some x):∃j,σ[k]? =some (some j)∧φ j=some x:=by
 simp only[sphi,Option.bind_eq_some_iff]at hx
 obtain⟨j,hj,hx⟩:=hx
 refine⟨j,?_,hx⟩
 cases hs:σ[k]? with
 |none=>simp[hs]at hj
 |some y=>simp[hs]at hj;rw[hj]
theorem H_at{k:Nat}{b:Option Blk}{x:Option Blk}(hb:H'[k]? =some b)(hx:hp H' k=x):b=x:=by
 rw[←hx];simp[hp,hb]
theorem shC_rep(hr:Rel φ F (hp h) w)(hB:shBs h σ H' σ H'){c' c:C}{v:Value}(hs:shC h σ H' c' c)(hc:CRep φ F (hp h) w c v):CRep (sphi σ φ) (sfrz σ φ F) (hp H') w c' v:=by
 obtain⟨hlen,hB⟩:=shBs_get hB
 unfold shC at hs
 split at hs
 ·rcases hs with rfl|rfl
  ·exact DRep.mono (fun b hb=>⟨.inl hb,rfl⟩) hc
  ·exact DRep.mono (fun b hb=>⟨.inl hb,rfl⟩) (nrm_rep hc)
 ·rename_i R j ep off len cap
  obtain⟨hno,hs⟩:=hs
  split at hs
  ·rename_i e sz rows hG
   obtain⟨rfl,hl,rfl⟩:=hs
   exact CRep.frozen hr hG hc hl (fun b hb=> .inl hb) (fun b o hb=> .inr ⟨j,o,hb,noSrc_get hno⟩)
  ·exact hs.elim
 ·rename_i k ep' off' len' cap'
  obtain⟨⟨hk,rfl,rfl,rfl⟩,hs⟩:=hs
  split at hs
  ·rename_i e' sz rows hH
   subst hs
   have hv:v= .slice none 0 0:=by cases hc;rfl
   subst hv
   exact⟨ep',sz,rows,hH,Nat.le_refl _,none,0,0,rfl,fun _=>⟨rfl,Nat.le_refl _,(fun c hc=>by cases hc),(fun _=>by omega),.inl rfl⟩⟩
  ·exact hs.elim
 ·rename_i k ep' off' len' cap' j ep off len cap
  split at hs
  ·rename_i e' sz' rows' hH
   obtain⟨e,sz,rows,hG,hle,A,l,k2,rfl,hA⟩:=hc
   exact⟨e',sz',rows',hH,Nat.le_of_lt hs,A,l,k2,rfl,fun he=>absurd he (Nat.ne_of_lt hs)⟩
  ·exact hs.elim
 ·rename_i k ep' off' len' j ep off len cap
  obtain⟨⟨hk,rfl,rfl⟩,hs⟩:=hs
  obtain⟨e,sz,rows,hG,hle,A,l,k2,rfl,hA⟩:=hc
  rw[hG]at hs
  obtain⟨rfl,hs⟩:=hs
  split at hs
  ·rename_i e' sz' rows' hH
   obtain⟨rfl,hlen'⟩:=hs
   obtain⟨b,hb,hb2⟩:=hB k _ hk
   have hb':=H_at hb hH
   subst hb'
   simp only[shB,hG]at hb2
   obtain⟨rfl,_⟩:=hb2
   obtain⟨rfl,g1,g2,g3,g4⟩:=hA rfl
   refine⟨ep',sz,rows',hH,Nat.le_refl _,A,l,k2,rfl,fun _=>⟨rfl,g1,(fun c hc=>by cases hc),fun _=>hlen',?_⟩⟩
   rcases g4 with g4|⟨b,o,n,q1,q2⟩
   ·exact .inl g4
   ·exact .inr ⟨b,o,n,by rw[sphi_some hk,q1],q2⟩
  ·exact hs.elim
 ·rename_i k off' j off
  obtain⟨⟨hk,rfl⟩,hs⟩:=hs
  obtain⟨cells,b,o,q1,q2,q3⟩:=hc
  split at hs
  ·rename_i cells' hH
   exact⟨cells',b,o,hH,by rw[sphi_some hk,q2],q3⟩
  ·exact hs.elim
 ·rename_i k ep' row' off' j ep row off
  obtain⟨⟨hk,rfl,rfl⟩,hs⟩:=hs
  obtain⟨e,sz,rows,hG,hle,A,rfl,hA⟩:=hc
  rw[hG]at hs
  obtain⟨rfl,hs⟩:=hs
  split at hs
  ·rename_i e' sz' rows' hH
   obtain⟨rfl,hrow⟩:=hs
   obtain⟨b,hb,hb2⟩:=hB k _ hk
   have hb':=H_at hb hH
   subst hb'
   simp only[shB,hG]at hb2
   obtain⟨rfl,_⟩:=hb2
   obtain⟨b,o,q1,q2,q3⟩:=hA rfl
   exact⟨ep',sz,rows',hH,Nat.le_refl _,A,rfl,fun _=>⟨b,o,by rw[sphi_some hk,q1],hrow,q3⟩⟩
  ·exact hs.elim
 ·subst hs
  obtain⟨b,o,q1,rfl,q3⟩:=hc
  exact⟨b,o,.inl q1,rfl,fun j d hd=>by obtain⟨u,hu,hd⟩:=q3 j d hd;exact⟨u,hu,DRep.mono (fun b hb=>⟨.inl hb,rfl⟩) hd⟩⟩
 ·rename_i k j
  obtain⟨hk,hs⟩:=hs
  obtain⟨ents,b,q1,q2,q3⟩:=hc
  split at hs
  ·rename_i ents' hH
   exact⟨ents',b,hH,by rw[sphi_some hk,q2],q3⟩
  ·exact hs.elim
 ·rename_i f' caps' f caps
  obtain⟨rfl,hs⟩:=hs
  obtain⟨us,rfl,hl,hus⟩:=hc
  have key:∀(caps' caps:List (Nat×Nat)),shCaps σ H' caps' caps→caps'.length=caps.length∧∀(i:Nat) c',caps'[i]? =some c'→∃c,caps[i]? =some c∧σ[c'.1]? =some (some c.1)∧c'.2=c.2∧∃cells,hp H' c'.1=some (.box cells):=by
   intro caps'
   induction caps' with
   |nil=>intro caps hc;cases caps with
    |nil=>exact⟨rfl,fun i c hi=>by simp at hi⟩
    |cons _ _=>exact hc.elim
   |cons x r ih=>
    intro caps hc
    cases caps with
    |nil=>exact hc.elim
    |cons y r'=>
     obtain⟨⟨q1,q2,q3⟩,q4⟩:=hc
     obtain⟨g1,g2⟩:=ih r' q4
     refine⟨by simp[g1],fun i c hi=>?_⟩
     cases i with
     |zero=>
      simp at hi;subst hi
      split at q3
      ·rename_i cells hH;exact⟨y,rfl,q1,q2,cells,hH⟩
      ·exact q3.elim
     |succ i=>simpa using g2 i c (by simpa using hi)
  obtain⟨k1,k2⟩:=key _ _ hs
  refine⟨us,rfl,by rw[k1];exact hl,fun i c' hc'=>?_⟩
  obtain⟨c,g1,g2,g3,cells,g4⟩:=k2 i c' hc'
  obtain⟨cells0,b,o,q1,q2,q3⟩:=hus i c g1
  exact⟨cells,b,o,g4,by rw[sphi_some g2,q2],by rw[g3];exact q3⟩
 ·exact hs.elim
theorem shCs_rep(hr:Rel φ F (hp h) w)(hB:shBs h σ H' σ H'):∀{cs' cs:List C} {vs:List Value},shCs h σ H' cs' cs→CsRep φ F (hp h) w cs vs→CsRep (sphi σ φ) (sfrz σ φ F) (hp H') w cs' vs
 |[],[],vs,_,hc=>by cases hc;exact .nil
 |x::l,y::m,vs,⟨h1,h2⟩,hc=>by
  cases hc with
  |cons a b=>exact .cons (shC_rep hr hB h1 a) (shCs_rep hr hB h2 b)
 |[],_::_,_,h,_=>h.elim
 |_::_,[],_,h,_=>h.elim
theorem shA_rep(hr:Rel φ F (hp h) w)(hB:shBs h σ H' σ H'){c' c:A1}{v:Value}(hs:shA h σ H' c' c)(hc:A1Rep φ F (hp h) w c v):A1Rep (sphi σ φ) (sfrz σ φ F) (hp H') w c' v:=by
 cases c'<;>cases c
 ·exact shC_rep hr hB hs hc
 ·exact hs.elim
 ·exact hs.elim
 ·obtain⟨vs,rfl,hc⟩:=hc;exact⟨vs,rfl,shCs_rep hr hB hs hc⟩
theorem shAs_rep(hr:Rel φ F (hp h) w)(hB:shBs h σ H' σ H'):∀{cs' cs:List A1} {vs:List Value},shAs h σ H' cs' cs→All2 (A1Rep φ F (hp h) w) cs vs→All2 (A1Rep (sphi σ φ) (sfrz σ φ F) (hp H') w) cs' vs
 |[],[],vs,_,hc=>by cases hc;exact .nil
 |x::l,y::m,vs,⟨h1,h2⟩,hc=>by
  cases hc with
  |cons a b=>exact .cons (shA_rep hr hB h1 a) (shAs_rep hr hB h2 b)
 |[],_::_,_,h,_=>h.elim
 |_::_,[],_,h,_=>h.elim
theorem shV_rep(hr:Rel φ F (hp h) w)(hB:shBs h σ H' σ H'){c' c:AV}{v:Value}(hs:shV h σ H' c' c)(hc:AVRep φ F (hp h) w c v):AVRep (sphi σ φ) (sfrz σ φ F) (hp H') w c' v:=by
 cases c'<;>cases c
 ·exact shA_rep hr hB hs hc
 ·exact hs.elim
 ·exact hs.elim
 ·obtain⟨vs,rfl,hc⟩:=hc;exact⟨vs,rfl,shAs_rep hr hB hs hc⟩
def nodupS:Src→Bool
 |[]=>true
 |none::r=>nodupS r
 |some j::r=>noSrc j r&&nodupS r
theorem nodupS_inj:∀{σ:Src},nodupS σ=true→∀{i k j:Nat},σ[i]? =some (some j)→σ[k]? =some (some j)→i=k
 |[],_,i,k,j,h1,_=>by simp at h1
 |none::r,hn,i,k,j,h1,h2=>by
  cases i with
  |zero=>simp at h1
  |succ i=>cases k with
   |zero=>simp at h2
   |succ k=>exact congrArg (·+1) (nodupS_inj (σ:=r) hn (by simpa using h1) (by simpa using h2))
 |some x::r,hn,i,k,j,h1,h2=>by
  simp only[nodupS,Bool.and_eq_true]at hn
  cases i with
  |zero=>cases k with
   |zero=>rfl
   |succ k=>simp at h1;subst h1;exact(noSrc_get hn.1 k (by simpa using h2)).elim
  |succ i=>cases k with
   |zero=>simp at h2;subst h2;exact(noSrc_get hn.1 i (by simpa using h1)).elim
   |succ k=>exact congrArg (·+1) (nodupS_inj hn.2 (by simpa using h1) (by simpa using h2))
theorem sh_core{m:Nat}(hr:Rel φ F (hp h) w)(hB:shBs h σ H' σ H')(hn:nodupS σ=true)(hk:keepS 0 (h.take m) σ H'):
 Rel (sphi σ φ) (sfrz σ φ F) (hp H') w∧Fr φ F w (sphi σ φ) (sfrz σ φ F) w∧StpM m φ F (hp h) w (sphi σ φ) (sfrz σ φ F) (hp H') w:=by
 obtain⟨hlen,hB'⟩:=shBs_get hB
 have mono:∀b,F b→sfrz σ φ F b∧w.heap[b]? =w.heap[b]? :=fun b hb=>⟨.inl hb,rfl⟩
 refine⟨⟨fun k blk hb=>?_,fun k x hx=>?_,fun i j b o b' o' hi hj hbb=>?_,fun b hb=>?_⟩,⟨Nat.le_refl _,fun _ _ _=>rfl,fun k b o hi=>?_,fun b hb=>?_,Io.refl _⟩,⟨fun b hb=>⟨.inl hb,rfl⟩,fun i hi=>?_⟩⟩
 ·have hkl:k<σ.length:=by
   rw[hlen]
   by_cases hlt:k<H'.length
   ·exact hlt
   ·simp[hp,List.getElem?_eq_none (by omega:H'.length≤k)]at hb
  have hj:σ[k]? =some σ[k]:=List.getElem?_eq_getElem hkl
  obtain⟨b,hb1,hb2⟩:=hB' k _ hj
  have:b=some blk:=by rw[←hb];simp[hp,hb1]
  subst this
  cases hs:σ[k]with
  |none=>
   rw[hs]at hb2 hj
   cases blk with
   |arr e sz rows=>exact .inl ⟨sphi_none hj,hb2⟩
   |box cells=>exact hb2.elim
   |map ents=>exact hb2.elim
  |some j=>
   rw[hs]at hb2 hj
   cases blk with
   |arr e sz rows=>
    simp only[shB]at hb2
    split at hb2
    ·rename_i e' sz' rows' hG
     obtain⟨rfl,hrows⟩:=hb2
     obtain⟨r,rfl⟩:∃r,rows'=rows++r:=by
      rcases hrows with rfl|h
      ·exact⟨[],by simp⟩
      ·exact h
     have:=hr.blk _ _ hG
     rcases this with⟨q1,q2⟩|⟨b,o,cs,T,q1,q2,q3,q4,q5⟩
     ·exact .inl ⟨by rw[sphi_some hj,q1],(List.append_eq_nil_iff.1 q2).1⟩
     ·refine .inr ⟨b,o,cs,T,by rw[sphi_some hj,q1],q2,?_,fun row hrow=>q4 row (List.mem_append_left _ hrow),fun i row hi j d hd=>?_⟩
      ·rw[List.length_append,Nat.add_mul]at q3;omega
      ·obtain⟨u,hu,hd⟩:=q5 i row (by rw[List.getElem?_append_left (List.getElem?_eq_some_iff.1 hi).1];exact hi) j d hd
       exact⟨u,hu,hd.mono mono⟩
    ·exact hb2.elim
   |box cells=>
    simp only[shB]at hb2
    split at hb2
    ·rename_i cells' hG
     obtain⟨b,cs,T,q1,q2,q3⟩:=hr.blk _ _ hG
     exact⟨b,cs,T,by rw[sphi_some hj,q1],q2,shCs_rep hr hB hb2 q3⟩
    ·exact hb2.elim
   |map ents=>
    simp only[shB]at hb2
    split at hb2
    ·rename_i ents' hG
     obtain⟨rfl,hd⟩:=hb2
     obtain⟨b,es,clock,q1,q2,q4,q3⟩:=hr.blk _ _ hG
     exact⟨b,es,clock,by rw[sphi_some hj,q1],q2,q4,entsD_mono mono hd q3⟩
    ·exact hb2.elim
 ·obtain⟨j,hj,_⟩:=sphi_src hx
  obtain⟨b,hb1,hb2⟩:=hB' k _ hj
  cases b with
  |none=>exact hb2.elim
  |some b=>simp[hp,hb1]
 ·obtain⟨i',hi1,hi2⟩:=sphi_src hi
  obtain⟨j',hj1,hj2⟩:=sphi_src hj
  have:=hr.inj i' j' b o b' o' hi2 hj2 hbb
  subst this
  exact nodupS_inj hn hi1 hj1
 ·rcases hb with hb|⟨j0,o0,hj0,hno⟩
  ·refine⟨(hr.frz b hb).1,fun k b' o hi=>?_⟩
   obtain⟨j,_,hj⟩:=sphi_src hi
   exact(hr.frz b hb).2 j b' o hj
  ·refine⟨hr.lt hj0,fun k b' o hi hbb=>?_⟩
   obtain⟨j,hk,hj⟩:=sphi_src hi
   have:=hr.inj j j0 b' o b o0 hj hj0 hbb
   subst this
   exact hno k hk
 ·obtain⟨j,_,hj⟩:=sphi_src hi
  exact .inl ⟨j,o,hj⟩
 ·rcases hb with hb|⟨j,o,hj,_⟩
  ·exact .inl hb
  ·exact .inr (.inl ⟨j,o,hj⟩)
 ·cases hg:hp h i with
  |none=>trivial
  |some blk=>
   have hi':(h.take m)[i]? =some (some blk):=by
    rw[List.getElem?_take,if_pos hi]
    simp only[hp]at hg
    cases hx:h[i]? with
    |none=>simp[hx]at hg
    |some y=>simp[hx]at hg;rw[hg]
   obtain⟨j,b',hj,hb',hk1⟩:=keepS_get hk i _ hi'
   have hH:hp H' i=b':=by simp[hp,hb']
   obtain⟨b2,hb2,hb3⟩:=hB' i j hj
   rw[hb']at hb2
   cases hb2
   rw[hH]
   rw[Nat.zero_add]at hk1
   cases blk with
   |arr e sz rows=>
    cases b' with
    |none=>exact hk1.elim
    |some b'=>cases b' with
     |box _=>exact hk1.elim
     |map _=>exact hk1.elim
     |arr e' sz' rows'=>
      simp only[keepS1]at hk1
      rcases hk1 with hlt|⟨rfl,rfl,hl,rfl⟩
      ·exact⟨by omega,fun he=>by omega⟩
      ·exact⟨Nat.le_refl _,fun _=>⟨rfl,hl,by rw[sphi_some hj],fun _ _ _=>rfl⟩⟩
   |box cells=>
    cases b' with
    |none=>exact hk1.elim
    |some b'=>cases b' with
     |arr _ _ _=>exact hk1.elim
     |map _=>exact hk1.elim
     |box _=>
      simp only[keepS1]at hk1
      subst hk1
      simp[BStp,sphi_some hj]
   |map ents=>
    cases b' with
    |none=>exact hk1.elim
    |some b'=>cases b' with
     |arr _ _ _=>exact hk1.elim
     |box _=>exact hk1.elim
     |map _=>
      simp only[keepS1]at hk1
      subst hk1
      simp[BStp,sphi_some hj]
end
theorem shSl_get{h:List (Option Blk)}{σ:Src}{H':List (Option Blk)}{s:List (Nat×AV)}:∀{sl:List (Nat×AV)},shSl h σ H' s sl→∀t v,lk sl t=some v→∃u,lk s t=some u∧shV h σ H' v u
 |[],_,t,v,hl=>by cases hl
 |(t0,v0)::l,⟨h1,h2⟩,t,v,hl=>by
  simp only[lk]at hl
  split at hl
  ·rename_i he
   subst he;cases hl
   split at h1
   ·rename_i u hu;exact⟨u,hu,h1⟩
   ·exact h1.elim
  ·exact shSl_get h2 t v hl
structure Sh(m:Nat)(h:List (Option Blk))(σ:Src)(H':List (Option Blk)):Prop where
 B:shBs h σ H' σ H'
 n:nodupS σ=true
 k:keepS 0 (h.take m) σ H'
theorem View.sh{n m:Nat}{s:St}{sl:List (Nat×AV)}{H':List (Option Blk)}(σ:Src)(hS:Sh m s.heap σ H')(hs:shSl s.heap σ H' s.slots sl):View n m s ⟨sl,H'⟩:=by
 intro φ F a w hrel
 obtain⟨h1,h2,h3⟩:=sh_core (m:=m) hrel.rel hS.B hS.n hS.k
 refine⟨_,_,⟨hrel.size,hrel.defers,h1,fun t av ht=>?_⟩,h2,h3⟩
 obtain⟨u,hu,hv⟩:=shSl_get hs t av ht
 exact shV_rep hrel.rel hS.B hv (hrel.slot t u hu)
theorem fin_sh{m:Nat}{h:List (Option Blk)}{l res:List A1}{H':List (Option Blk)}(σ:Src)(hS:Sh m h σ H')(hs:shAs h σ H' res l):Fin m h l res H':=by
 intro φ F w vs hr hA
 obtain⟨h1,h2,h3⟩:=sh_core (m:=m) hr hS.B hS.n hS.k
 exact⟨_,_,h1,shAs_rep hr hS.B hs hA,h2,h3⟩
end Go.Fw
namespace Go.Fw
def semQ(n m:Nat)(R:St→Prop)(Q:XT→St→Prop):XT→St→Prop
 | .normal,s'=>∃s'',View n m s' s''∧R s''
 |x,s'=>Q x s'
noncomputable def sM:=shut @semQ
theorem sM_eq:@sM=@semQ:=shut_eq _
section
variable {P:Program} {n m:Nat} {Q:XT→St→Prop} {s:St} {a b:AC} {k:List Frm} {R:St→Prop}
theorem qsem_exit{i:Nat}:sM n m R Q (.exit i) s=Q (.exit i) s:=by rw[sM_eq];rfl
theorem qsem_ret:sM n m R Q .ret s=Q .ret s:=by rw[sM_eq];rfl
theorem qsem_n:sM n m R Q .normal s=∃s'',View n m s s''∧R s'':=by rw[sM_eq];rfl
theorem cutS(R:St→Prop)(h1:sK P n m a [] (sM n m R (sU P n m k Q)) s)(h2:∀s',R s'→sN P n m k Q s'):WpC P n m a (sU P n m k Q) s:=by
 rw[sK_eq,sU_eq,sM_eq]at h1
 rw[sU_eq]
 refine sem_rule h1 fun e s' hq=>?_
 cases e with
 |normal=>
  obtain⟨s'',hv,hR⟩:=hq
  have:=h2 s'' hR
  rw[sN_eq]at this
  exact⟨s'',hv,this⟩
 |exit i=>exact⟨s',View.refl _ _ _,hq⟩
 |ret=>exact⟨s',View.refl _ _ _,hq⟩
theorem endM{s':St}{sl:List (Nat×AV)}{H':List (Option Blk)}(σ:Src)(hS:Sh m s'.heap σ H')(hs:shSl s'.heap σ H' s'.slots sl)(hR:R ⟨sl,H'⟩):sM n m R Q .normal s':=by
 rw[qsem_n];exact⟨_,View.sh σ hS hs,hR⟩
theorem endL{I:Nat→St→Prop}{j:Nat}(k':Nat){s':St}{sl:List (Nat×AV)}{H':List (Option Blk)}(hk:k'<j)(σ:Src)(hS:Sh m s'.heap σ H')(hs:shSl s'.heap σ H' s'.slots sl)(hI:I k' ⟨sl,H'⟩):sL n m I j Q .normal s':=
 roundV ⟨k',_,hk,View.sh σ hS hs,hI⟩
theorem begL{body:AC}(I:Nat→St→Prop)(k0:Nat){sl:List (Nat×AV)}{H':List (Option Blk)}(σ:Src)(hS:Sh m s.heap σ H')(hs:shSl s.heap σ H' s.slots sl)(hI:I k0 ⟨sl,H'⟩)
 (hr:∀j s,I j s→sK P n m body [] (sL n m I j (sU P n m k Q)) s):WpC P n m (.loop body) (sU P n m k Q) s:=
 loopS I ⟨k0,_,View.sh σ hS hs,hI⟩ hr
theorem condB{t:Bool}(h1:t=true→sK P n m a k Q s)(h0:¬t=true→sK P n m b k Q s):sC P n m t a b k Q s:=by
 cases t with
 |true=>rw[qcnd_1];exact h1 rfl
 |false=>rw[qcnd_0];exact h0 (by simp)
end
section
variable {P:Program} {dst:Option Nat} {op:AOp} {bef:List Nat} {lone:Lone} {r:List AStep} {s:St} {K:St→Prop} {g:Nat} {want:Bool} {h:List (Option Blk)} {i:Nat} {slots:List (Nat×AV)} {wl:List (Nat×List (Nat×Blk))}
theorem guardSB{t:Bool}(h1:t=true→sG P true want dst op r g s K)(h0:¬t=true→sG P false want dst op r g s K):sG P t want dst op r g s K:=by
 cases t with
 |true=>exact h1 rfl
 |false=>exact h0 (by simp)
theorem guardDB{t:Bool}(h1:t=true→sGD P h true want dst op bef lone r i g slots wl K)(h0:¬t=true→sGD P h false want dst op bef lone r i g slots wl K):sGD P h t want dst op bef lone r i g slots wl K:=by
 cases t with
 |true=>exact h1 rfl
 |false=>exact h0 (by simp)
end
section
variable {P:Program} {dst:Option Nat} {lone:Lone} {r:List AStep} {K:St→Prop} {h:List (Option Blk)} {i:Nat} {slots:List (Nat×AV)} {wl:List (Nat×List (Nat×Blk))}
theorem kD_new{v:Option AV}{w:Nat×Blk}{wr:List (Nat×Blk)}(h1:∀x∈w::wr,(wrs h (allW wl)).length≤x.1)(h2:sD P h r (i+1) (putSlot slots dst v) (wl++[(i,w::wr)]) K):sKD P h r i dst lone slots wl K ⟨v,w::wr⟩:=by
 rw[sKD_eq];rw[sD_eq]at h2
 rw[kD_eq]
 exact⟨.inr (.inr ⟨[],.inr rfl,fun x hx=> .inl (h1 x hx)⟩),h2⟩
theorem kD_own{v:Option AV}{w:Nat×Blk}{wr:List (Nat×Blk)}{own:List Nat}(h1:∀x∈w::wr,(wrs h (allW wl)).length≤x.1∨ownW h.length wl own x.1=true)(h2:sD P h r (i+1) (putSlot slots dst v) (wl++[(i,w::wr)]) K):sKD P h r i dst (.new own) slots wl K ⟨v,w::wr⟩:=by
 rw[sKD_eq];rw[sD_eq]at h2
 rw[kD_eq]
 exact⟨.inr (.inr ⟨own,.inl rfl,h1⟩),h2⟩
theorem envH_cons{x:Nat×List (Nat×Blk)}{bef:List Nat}:envH h (x::wl) bef=wrs (h++List.replicate ((wrs h (allW (x::wl))).length-h.length) none) (befW bef (x::wl)):=rfl
end
def rdI{α:Type}(xs:List α)(j:Int):Option α:=if 0≤j then xs[j.toNat]? else none
def slI{α:Type}(xs:List α)(l h:Int):Option (List α):=if 0≤l∧l≤h∧h≤xs.length then some ((xs.drop l.toNat).take (h.toNat-l.toNat))else none
def byI(b:ByteArray)(j:Int):Option Int:=if 0≤j then(b[j.toNat]?).map fun c=>(c.toNat:Int)else none
def apI{α:Type}(xs ys:List α):Option (List α):=if(xs++ys).length≤4294967290 then some (xs++ys)else none
def catI(a b:ByteArray):Option ByteArray:=if a.size+b.size≤9223372036854775807 then some (a++b)else none
def ck(p:Prop)[Decidable p]:Option Unit:=if p then some ()else none
theorem ck_some{p:Prop}[Decidable p]{u:Unit}(h:ck p=some u):p:=by
 unfold ck at h;split at h
 ·assumption
 ·cases h
theorem rdI_some{α:Type}{xs:List α}{j:Int}{y:α}(h:rdI xs j=some y):0≤j∧xs[j.toNat]? =some y∧j<xs.length:=by
 unfold rdI at h
 split at h
 ·rename_i h0
  have:=(List.getElem?_eq_some_iff.1 h).1
  exact⟨h0,h,by omega⟩
 ·cases h
theorem slI_some{α:Type}{xs ys:List α}{l h:Int}(e:slI xs l h=some ys):(0≤l∧l≤h∧h≤xs.length)∧ys=(xs.drop l.toNat).take (h.toNat-l.toNat):=by
 unfold slI at e
 split at e
 ·rename_i h0;cases e;exact⟨h0,rfl⟩
 ·cases e
theorem apI_some{α:Type}{xs ys zs:List α}(e:apI xs ys=some zs):(xs++ys).length≤4294967290∧zs=xs++ys:=by
 unfold apI at e
 split at e
 ·rename_i h0;cases e;exact⟨h0,rfl⟩
 ·cases e
theorem ExRow.rd{α:Type}{enc:α→List D}{xs:List α}{j:Int}{sz:Nat}{K:Out→Prop}{y:α}(h:rdI xs j=some y)(hs:(enc y).length=sz)(hk:K ⟨some (.one (.c (.fp (enc y)))),[]⟩):
 ExRow (xs.map enc) j sz K:=by
 obtain⟨h0,h1,_⟩:=rdI_some h
 exact⟨h0,enc y,by simp[h1],hs,hk⟩
theorem LdRow.rd{α:Type}{enc:α→List D}{xs:List α}{row off:Nat}{n:Option Nat}{K:Out→Prop}{y:α}(h:xs[row]? =some y)(hk:ldC n (((enc y).drop off).map .d) K):
 LdRow (xs.map enc) row off n K:=⟨enc y,by simp[h],hk⟩
theorem StRow.rd{α:Type}{enc:α→List D}{xs:List α}{row off n:Nat}{ds:List D}{K:List (List D)→Prop}{y y':α}(h:xs[row]? =some y)(hl:off+n≤(enc y).length)(he:splice (enc y) off ds=enc y')
 (hk:K ((xs.set row y').map enc)):StRow (xs.map enc) row off n ds K:=
 ⟨enc y,by simp[h],hl,by rw[he,←List.map_set];exact hk⟩
theorem ExByte.rd{b:ByteArray}{j c:Int}{K:Out→Prop}(h:byI b j=some c)(hk:K ⟨some (.one (.c (.d (.v (.int .u8 c))))),[]⟩):ExByte b j K:=by
 unfold byI at h
 split at h
 ·rename_i h0
  rw[Option.map_eq_some_iff]at h
  obtain⟨u,hu,rfl⟩:=h
  exact⟨h0,u,hu,hk⟩
 ·cases h
def RowsAre(G:Heap)(sz:Nat)(c:C)(R:List (List D)):Prop:=∃p,rowsL G sz c=some (R,p)∧p
section
variable {α:Type} {enc:α→List D} {G:Heap} {sz:Nat} {xs:List α}
theorem rows_frz(hs:∀y,(enc y).length=sz):RowsAre G sz (.d (.sl (xs.map enc))) (xs.map enc):=
 ⟨_,rfl,fun r hr=>by obtain⟨y,_,rfl⟩:=List.mem_map.1 hr;exact hs y⟩
theorem rows_full{id ep:Nat}{cap:Option Nat}{len:Nat}(hl:len=xs.length)(h:G id=some (.arr ep sz (xs.map enc))):RowsAre G sz (.own id ep 0 len cap) (xs.map enc):=by
 subst hl
 refine⟨ep=ep∧sz=sz∧0+xs.length≤(xs.map enc).length,?_,rfl,rfl,by simp⟩
 simp only[rowsL,h,List.drop_zero]
 rw[List.take_of_length_le (by simp)]
end
section
variable {P:Program} {s:St} {K:Out→Prop} {α:Type} {enc:α→List D} {sz u:Nat} {x y i:O}
theorem t_idxO{xs:List α}{id ep:Nat}{cap:Option Nat}{j:Int}{kk:IntKind}{len:Nat}{z:α}(hi:s.evV i=some (.int kk j))(hx:s.evC x=some (.own id ep 0 len cap))(hH:hp s.heap id=some (.arr ep sz (xs.map enc)))(hl:len=xs.length)
 (h:rdI xs j=some z) (hk:K ⟨some (.one (.c (.pe id ep j.toNat 0))),[]⟩):s1 P (.indexA sz x i) s K:=by
 obtain⟨h0,h1,h2⟩:=rdI_some h
 subst hl
 rw[s1_indexA,hi]
 simp only[hx,hH]
 refine⟨⟨h0,h2⟩,⟨trivial,trivial,by simp;omega⟩,?_⟩
 rw[Nat.zero_add];exact hk
theorem t_idxF{xs:List α}{j:Int}{kk:IntKind}{z:α}(hi:s.evV i=some (.int kk j))(hx:s.evC x=some (.d (.sl (xs.map enc))))
 (h:rdI xs j=some z) (hs:(enc z).length=sz) (hk:K ⟨some (.one (.c (.fp (enc z)))),[]⟩):s1 P (.indexA sz x i) s K:=by
 rw[s1_indexA,hi]
 simp only[hx]
 exact ExRow.rd h hs hk
theorem t_app{xs ys:List α}{id ep len:Nat}{cy:C}(hx:s.evC x=some (.own id ep 0 len none))(hH:hp s.heap id=some (.arr ep sz (xs.map enc)))(hl:len=xs.length)(hy:s.evC y=some cy)
 (hr:RowsAre (hp s.heap) sz cy (ys.map enc)) {zs:List α} (ha:apI xs ys=some zs) (hk:K ⟨some (.one (.c (.own id (ep+1) 0 zs.length none))),[(id,.arr (ep+1) sz (zs.map enc))]⟩):s1 P (.app sz u x y) s K:=by
 obtain⟨hb,rfl⟩:=apI_some ha
 subst hl
 obtain⟨p,hr,hp'⟩:=hr
 rw[s1_app,hx]
 simp only[hy,hr]
 refine⟨hp',?_⟩
 simp only[app1,hH,List.drop_zero]
 rw[List.length_append]at hb hk
 refine⟨⟨trivial,trivial,by simp,by simp;omega⟩,?_⟩
 rw[List.take_of_length_le (by simp),←List.map_append,List.length_map]
 exact hk
theorem t_appN{ys:List α}{cy:C}(hx:s.evC x=some (.d (.v (.slice none 0 0))))(hy:s.evC y=some cy)
 (hr:RowsAre (hp s.heap) sz cy (ys.map enc)) {zs:List α} (ha:apI [] ys=some zs) (hk:K ⟨some (.one (.c (.own s.heap.length 0 0 zs.length none))),[(s.heap.length,.arr 0 sz (zs.map enc))]⟩):s1 P (.app sz u x y) s K:=by
 obtain⟨hb,hz⟩:=apI_some ha
 rw[List.nil_append]at hb hz
 subst hz
 obtain⟨p,hr,hp'⟩:=hr
 rw[s1_app,hx]
 simp only[hy,hr]
 refine⟨hp',?_⟩
 simp only[app1]
 refine⟨by simp;omega,?_⟩
 rw[List.length_map]
 exact hk
theorem t_bslice{ys:List α}{parts:List O}{as:List A1}{rows:List (List D)}{wr:List (Nat×Blk)}{p:Prop}(h1:evL s parts=some as)(h2:frzRL s.heap sz [] as=some (rows,wr,p))(hp':p)(hr:rows=ys.map enc)
 (hk:K ⟨some (.one (.c (.own s.heap.length 0 0 ys.length none))),wr++[(s.heap.length,.arr 0 sz (ys.map enc))]⟩):s1 P (.bslice sz parts) s K:=by
 subst hr
 rw[s1_bslice,h1]
 simp only[h2]
 refine⟨hp',?_⟩
 rw[List.length_map];exact hk
theorem t_sliceO{xs v:List α}{id ep len:Nat}{lo hi:Option O}{l h:Int}(hx:s.evC x=some (.own id ep 0 len none))(hH:hp s.heap id=some (.arr ep sz (xs.map enc)))(hl:len=xs.length)(hlo:intV s lo 0=some l)(hhi:intV s hi len=some h)
 (hc:slI xs l h=some v) (hk:K ⟨some (.one (.c (.own id ep l.toNat v.length none))),[]⟩):s1 P (.slice sz x lo hi none) s K:=by
 obtain⟨⟨h1,h2,h3⟩,rfl⟩:=slI_some hc
 subst hl
 rw[s1_slice,hx]
 simp only[hH,hlo,hhi]
 refine⟨⟨trivial,trivial⟩,⟨h1,h2,h3⟩,?_⟩
 have e:((xs.drop l.toNat).take (h.toNat-l.toNat)).length=h.toNat-l.toNat:=by rw[List.length_take,List.length_drop];omega
 rw[e]at hk
 rw[Nat.zero_add];exact hk
theorem slI_len{xs v:List α}{l h:Int}(hc:slI xs l h=some v):l.toNat+v.length≤xs.length:=by
 obtain⟨⟨h1,h2,h3⟩,rfl⟩:=slI_some hc
 rw[List.length_take,List.length_drop];omega
theorem slI_eq{xs v:List α}{l h:Int}(hc:slI xs l h=some v):(xs.drop l.toNat).take v.length=v:=by
 obtain⟨⟨h1,h2,h3⟩,rfl⟩:=slI_some hc
 have:((xs.drop l.toNat).take (h.toNat-l.toNat)).length=h.toNat-l.toNat:=by rw[List.length_take,List.length_drop];omega
 rw[this]
theorem slI_frz{xs v:List α}{l h:Int}(hc:slI xs l h=some v):FrzEq (xs.map enc) l.toNat v.length (v.map enc)=True:=by
 simp only[FrzEq,eq_iff_iff,iff_true]
 rw[←List.map_drop,←List.map_take,slI_eq hc]
theorem slI_pre{xs v:List α}{h:Int}(hc:slI xs 0 h=some v):PreEq (xs.map enc) (v.map enc)=True:=by
 simp only[PreEq,eq_iff_iff,iff_true]
 refine .inr ⟨(xs.drop v.length).map enc,?_⟩
 have:=slI_eq hc
 simp only[Int.toNat_zero,List.drop_zero]at this
 rw[←List.map_append]
 conv=>rhs;rw[←this]
 have e:v.length≤xs.length:=by have:=slI_len hc;simp at this;omega
 have e2:(xs.take v.length).length=v.length:=by rw[List.length_take];omega
 conv=>lhs;rw[←List.take_append_drop v.length xs]
 rw[this]
theorem slI_frz0{xs v:List α}{h:Int}(hc:slI xs 0 h=some v):FrzEq (xs.map enc) 0 v.length (v.map enc)=True:=slI_frz hc
theorem slI_le0{xs v:List α}{h:Int}(hc:slI xs 0 h=some v):(v.length≤xs.length)=True:=by have:=slI_len hc;simp at this;simp[this]
def clrL(xs:List α)(off len:Nat)(z:α):List α:=xs.take off++List.replicate len z++xs.drop (off+len)
end
def passAll(h:List (Option Blk))(f:Nat→Nat)(G:Heap):Nat→List (Option Blk)→Prop
 |_,[]=>True
 |k,some b::r=>(hp h (f k)=some (b.ren f)∧b.live G)∧passAll h f G (k+1) r
 |_,none::_=>False
theorem passAll_get{h:List (Option Blk)}{f:Nat→Nat}{G:Heap}:∀{H:List (Option Blk)} {k0:Nat},passAll h f G k0 H→∀(k:Nat),k<H.length→∃b,hp H k=some b∧hp h (f (k0+k))=some (b.ren f)∧b.live G
 |[],_,_,k,hk=>by simp at hk
 |some b::r,k0,⟨h1,h2⟩,k,hk=>by
  cases k with
  |zero=>exact⟨b,rfl,h1⟩
  |succ k=>
   obtain⟨b',q1,q2⟩:=passAll_get h2 k (by simpa using hk)
   exact⟨b',by rw[hp_cons];exact q1,by rw[show k0+(k+1)=k0+1+k by omega];exact q2⟩
 |none::_,_,h,_,_=>h.elim
def liveAll(G:Heap):List A1→Prop
 |[]=>True
 |a::r=>a.live G∧liveAll G r
theorem liveAll_get{G:Heap}:∀{l:List A1},liveAll G l→∀a∈l,a.live G
 |[],_,a,h=>by cases h
 |x::l,⟨h1,h2⟩,a,h=>by
  rcases List.mem_cons.1 h with rfl|h
  ·exact h1
  ·exact liveAll_get h2 a h
theorem callX_gen{P:Program}{f:FuncId}{as' as1:List A1}{H H':List (Option Blk)}{res:AV}{as:List A1}{s:St}{K:Out→Prop}(wrF:List (Nat×Blk))(σ:Src)(ρ:List Nat)
 (hc:CallD P f as' H res H') (hS:Sh s.heap.length s.heap σ (wrs s.heap wrF)) (hA:shAs s.heap σ (wrs s.heap wrF) as1 as) (hlen:(wrs s.heap wrF).length=s.heap.length)
 (has:as1=as'.map (A1.ren (rn ρ s.heap.length))) (hlive:liveAll (hp H) as') (hρ:ρ.length=H.length) (hnd:ρ.Nodup)
 (hH:passAll (wrs s.heap wrF) (rn ρ s.heap.length) (hp H) 0 H) (hK:K ⟨some (res.ren (rn ρ s.heap.length)),wrF++tailWr 0 H' (rn ρ s.heap.length)⟩):CallX P f as s K:=by
 refine⟨_,?_,hK⟩
 intro φ F w vs hr hA0
 obtain⟨r1,f1,s1'⟩:=sh_core (m:=s.heap.length) hr hS.B hS.n hS.k
 have hA1:=shAs_rep hr hS.B hA hA0
 have hstp:Stp φ F (hp s.heap) w (sphi σ φ) (sfrz σ φ F) (hp (wrs s.heap wrF)) w:=by
  refine⟨s1'.frz,fun id=>?_⟩
  by_cases hid:id<s.heap.length
  ·exact s1'.blk id hid
  ·have:hp s.heap id=none:=by simp[hp,List.getElem?_eq_none (by omega:s.heap.length≤id)]
   rw[this];trivial
 have hcall:CallO P f as1 ⟨[],wrs s.heap wrF⟩ (·=⟨some (res.ren (rn ρ s.heap.length)),tailWr 0 H' (rn ρ s.heap.length)⟩):=by
  have hg:=passAll_get hH
  refine call_heap ρ hc (by rw[hlen];exact has) (liveAll_get hlive) hρ (fun k hk=>?_) (fun i j k hi hj=>?_) (fun k blk hb=>?_) (by simp only[hlen])
  ·obtain⟨b,q1,_⟩:=hg k hk
   rw[q1];simp
  ·exact(List.getElem?_inj (List.getElem?_eq_some_iff.1 hi).1 hnd).1 (hi.trans hj.symm)
  ·have hk:k<H.length:=by
    by_cases hlt:k<H.length
    ·exact hlt
    ·simp[hp,List.getElem?_eq_none (by omega:H.length≤k)]at hb
   obtain⟨b,q1,q2,q3⟩:=hg k hk
   rw[q1]at hb;cases hb
   simp only[Nat.zero_add]at q2
   rw[hlen]
   exact⟨q2,q3⟩
 refine(hcall _ _ w vs r1 hA1).mono ?_
 rintro v w' ⟨⟨out,φ',F',rfl,hv,hr',hs',hf'⟩⟩
 refine⟨⟨_,φ',F',rfl,?_,?_,?_,f1.trans hf'⟩⟩
 ·simp only[wrs_append];exact hv
 ·simp only[wrs_append];exact hr'
 ·simp only[wrs_append];exact hstp.trans hs'
def nrmC:C→C
 | .d x=> .d (nrm x)
 |c=>c
def nrmA:A1→A1
 | .c x=> .c (nrmC x)
 | .agg cs=> .agg (cs.map nrmC)
theorem nrmC_rep{φ F G w}{c:C}{v:Value}(h:CRep φ F G w c v):CRep φ F G w (nrmC c) v:=by
 cases c with
 |d x=>exact nrm_rep h
 |_=>exact h
theorem nrmCs_rep{φ F G w}{cs:List C}{vs:List Value}(h:CsRep φ F G w cs vs):CsRep φ F G w (cs.map nrmC) vs:=by
 induction h with
 |nil=>exact .nil
 |cons a _ ih=>exact .cons (nrmC_rep a) ih
theorem nrmA_rep{φ F G w}{c:A1}{v:Value}(h:A1Rep φ F G w c v):A1Rep φ F G w (nrmA c) v:=by
 cases c with
 |c x=>exact nrmC_rep h
 |agg cs=>obtain⟨vs,rfl,h⟩:=h;exact⟨vs,rfl,nrmCs_rep h⟩
theorem nrmAs_rep{φ F G w}{cs:List A1}{vs:List Value}(h:All2 (A1Rep φ F G w) cs vs):All2 (A1Rep φ F G w) (cs.map nrmA) vs:=by
 induction h with
 |nil=>exact .nil
 |cons a _ ih=>exact .cons (nrmA_rep a) ih
theorem callX_n{P:Program}{f:FuncId}{as':List A1}{H H':List (Option Blk)}{res:AV}{as:List A1}{s:St}{K:Out→Prop}(ρ:List Nat)
 (hc:CallD P f as' H res H') (has:as.map nrmA=as'.map (A1.ren (rn ρ s.heap.length))) (hlive:liveAll (hp H) as') (hρ:ρ.length=H.length) (hnd:ρ.Nodup)
 (hH:passAll s.heap (rn ρ s.heap.length) (hp H) 0 H) (hK:K ⟨some (res.ren (rn ρ s.heap.length)),tailWr 0 H' (rn ρ s.heap.length)⟩):CallX P f as s K:=by
 refine⟨_,?_,hK⟩
 have hcall:CallO P f (as.map nrmA) s (·=⟨some (res.ren (rn ρ s.heap.length)),tailWr 0 H' (rn ρ s.heap.length)⟩):=by
  have hg:=passAll_get hH
  refine call_heap ρ hc has (liveAll_get hlive) hρ (fun k hk=>?_) (fun i j k hi hj=>?_) (fun k blk hb=>?_) rfl
  ·obtain⟨b,q1,_⟩:=hg k hk
   rw[q1];simp
  ·exact(List.getElem?_inj (List.getElem?_eq_some_iff.1 hi).1 hnd).1 (hi.trans hj.symm)
  ·have hk:k<H.length:=by
    by_cases hlt:k<H.length
    ·exact hlt
    ·simp[hp,List.getElem?_eq_none (by omega:H.length≤k)]at hb
   obtain⟨b,q1,q2,q3⟩:=hg k hk
   rw[q1]at hb;cases hb
   simp only[Nat.zero_add]at q2
   exact⟨q2,q3⟩
 exact fun φ F w vs hr hA=>hcall φ F w vs hr (nrmAs_rep hA)
section
variable {κ α:Type}
def eM1(ek:κ→Value)(enc:α→D)(l:List (κ×α)):List (Value×A1):=l.map fun p=>(ek p.1,.c (.d (enc p.2)))
def eMs(ek:κ→Value)(enc:α→List D)(l:List (κ×α)):List (Value×A1):=l.map fun p=>(ek p.1,.agg ((enc p.2).map .d))
theorem entsD_1{ek:κ→Value}{enc:α→D}{l:List (κ×α)}:entsD (eM1 ek enc l)=true:=by simp[entsD,eM1,A1.isDt,C.isDt]
theorem entsD_s{ek:κ→Value}{enc:α→List D}{l:List (κ×α)}:entsD (eMs ek enc l)=true:=by simp[entsD,eMs,A1.isDt,C.isDt]
end
section
variable {κ α:Type} [DecidableEq κ]
def getM(k:κ):List (κ×α)→Option α
 |[]=>none
 |e::r=>if e.1=k then some e.2 else getM k r
def putM(k:κ)(v:α):List (κ×α)→List (κ×α)
 |[]=>[(k,v)]
 |e::r=>if e.1=k then(k,v)::r else e::putM k v r
structure KK(ek:κ→Value)(kd:Nat):Prop where
 k:∀x,keyK kd (ek x)=true
 e:∀a b,keyEq (ek a) (ek b)=decide (a=b)
theorem kkI:KK (Value.int .i64) 0:=⟨fun _=>rfl,fun _ _=>rfl⟩
theorem allK_1{ek:κ→Value}{kd:Nat}(h:KK ek kd){enc:α→D}{l:List (κ×α)}:allK kd (eM1 ek enc l)=true:=by simp[allK,eM1,h.k]
theorem allK_s{ek:κ→Value}{kd:Nat}(h:KK ek kd){enc:α→List D}{l:List (κ×α)}:allK kd (eMs ek enc l)=true:=by simp[allK,eMs,h.k]
theorem mfind_1{ek:κ→Value}{kd:Nat}(h:KK ek kd){enc:α→D}(k:κ):∀l:List (κ×α),mfind (ek k) (eM1 ek enc l)=(getM k l).map fun x=> .c (.d (enc x))
 |[]=>rfl
 |e::l=>by
  show(if keyEq (ek k) (ek e.1)=true then some _ else mfind (ek k) (eM1 ek enc l))=_
  rw[h.e,mfind_1 h k l,getM]
  by_cases he:e.1=k
  ·rw[if_pos (by simp[he]),if_pos he];rfl
  ·rw[if_neg (by simpa using Ne.symm he),if_neg he]
theorem mfind_s{ek:κ→Value}{kd:Nat}(h:KK ek kd){enc:α→List D}(k:κ):∀l:List (κ×α),mfind (ek k) (eMs ek enc l)=(getM k l).map fun x=> .agg ((enc x).map .d)
 |[]=>rfl
 |e::l=>by
  show(if keyEq (ek k) (ek e.1)=true then some _ else mfind (ek k) (eMs ek enc l))=_
  rw[h.e,mfind_s h k l,getM]
  by_cases he:e.1=k
  ·rw[if_pos (by simp[he]),if_pos he];rfl
  ·rw[if_neg (by simpa using Ne.symm he),if_neg he]
theorem mput_1{ek:κ→Value}{kd:Nat}(h:KK ek kd){enc:α→D}(k:κ)(x:α):∀l:List (κ×α),mput (ek k) (.c (.d (enc x))) (eM1 ek enc l)=eM1 ek enc (putM k x l)
 |[]=>rfl
 |e::l=>by
  show(if keyEq (ek k) (ek e.1)=true then _ else _::mput (ek k) _ (eM1 ek enc l))=_
  rw[h.e,mput_1 h k x l,putM]
  by_cases he:e.1=k
  ·rw[if_pos (by simp[he]),if_pos he];rfl
  ·rw[if_neg (by simpa using Ne.symm he),if_neg he];rfl
theorem mput_s{ek:κ→Value}{kd:Nat}(h:KK ek kd){enc:α→List D}(k:κ)(x:α):∀l:List (κ×α),mput (ek k) (.agg ((enc x).map .d)) (eMs ek enc l)=eMs ek enc (putM k x l)
 |[]=>rfl
 |e::l=>by
  show(if keyEq (ek k) (ek e.1)=true then _ else _::mput (ek k) _ (eMs ek enc l))=_
  rw[h.e,mput_s h k x l,putM]
  by_cases he:e.1=k
  ·rw[if_pos (by simp[he]),if_pos he];rfl
  ·rw[if_neg (by simpa using Ne.symm he),if_neg he];rfl
section
variable {P:Program} {s:St} {K:Out→Prop} {m k v:O} {id kd:Nat} {ek:κ→Value} {key:κ} {l:List (κ×α)} {zero:A1}
theorem t_mkmap1{enc:α→D}(ek:κ→Value)(hk:K ⟨some (.one (.c (.mref s.heap.length))),[(s.heap.length,.map (eM1 ek enc ([]:List (κ×α))))]⟩):s1 P .mkmap s K:=by
 rw[s1_mkmap];exact hk
theorem t_mkmaps{enc:α→List D}(ek:κ→Value)(hk:K ⟨some (.one (.c (.mref s.heap.length))),[(s.heap.length,.map (eMs ek enc ([]:List (κ×α))))]⟩):s1 P .mkmap s K:=by
 rw[s1_mkmap];exact hk
theorem t_mget1{enc:α→D}(h:KK ek kd)(hm:s.evC m=some (.mref id))(hH:hp s.heap id=some (.map (eM1 ek enc l)))(hkk:s.evV k=some (ek key)){z:α}(hz:zero= .c (.d (enc z)))
 (hk:K ⟨some (.one (.c (.d (enc ((getM key l).getD z))))),[]⟩):s1 P (.mget kd false zero m k) s K:=by
 rw[s1_mget,hm]
 simp only[hH,hkk]
 refine⟨⟨h.k _,allK_1 h⟩,?_⟩
 subst hz
 rw[mfind_1 h]
 unfold mres
 cases hg:getM key l with
 |none=>rw[hg]at hk;exact hk
 |some x=>rw[hg]at hk;exact hk
theorem t_mget1k{enc:α→D}(h:KK ek kd)(hm:s.evC m=some (.mref id))(hH:hp s.heap id=some (.map (eM1 ek enc l)))(hkk:s.evV k=some (ek key)){z:α}(hz:zero= .c (.d (enc z)))
 (hk:K ⟨some (.tup [.c (.d (enc ((getM key l).getD z))),.c (.d (.v (.bool (getM key l).isSome)))]),[]⟩):s1 P (.mget kd true zero m k) s K:=by
 rw[s1_mget,hm]
 simp only[hH,hkk]
 refine⟨⟨h.k _,allK_1 h⟩,?_⟩
 subst hz
 rw[mfind_1 h]
 unfold mres
 cases hg:getM key l with
 |none=>rw[hg]at hk;exact hk
 |some x=>rw[hg]at hk;exact hk
theorem t_mgets{enc:α→List D}(h:KK ek kd)(hm:s.evC m=some (.mref id))(hH:hp s.heap id=some (.map (eMs ek enc l)))(hkk:s.evV k=some (ek key)){z:α}(hz:zero= .agg ((enc z).map .d))
 (hk:K ⟨some (.one (.agg ((enc ((getM key l).getD z)).map .d))),[]⟩):s1 P (.mget kd false zero m k) s K:=by
 rw[s1_mget,hm]
 simp only[hH,hkk]
 refine⟨⟨h.k _,allK_s h⟩,?_⟩
 subst hz
 rw[mfind_s h]
 unfold mres
 cases hg:getM key l with
 |none=>rw[hg]at hk;exact hk
 |some x=>rw[hg]at hk;exact hk
theorem t_mlen1{enc:α→D}(ek:κ→Value)(hm:s.evC m=some (.mref id))(hH:hp s.heap id=some (.map (eM1 ek enc l)))
 (hk:K ⟨some (.one (.c (.d (.v (.int .i64 (l.length:Nat)))))),[]⟩):s1 P (.mlen m) s K:=by
 rw[s1_mlen,hm]
 simp only[hH]
 simpa[eM1,retV]using hk
theorem t_mset1{enc:α→D}(h:KK ek kd)(hm:s.evC m=some (.mref id))(hH:hp s.heap id=some (.map (eM1 ek enc l)))(hkk:s.evV k=some (ek key)){x:α}(hv:s.ev v=some (.one (.c (.d (enc x)))))
 (hk:K ⟨none,[(id,.map (eM1 ek enc (putM key x l)))]⟩):s1 P (.mset kd m k v) s K:=by
 rw[s1_mset,hm]
 simp only[hH,hkk,hv]
 refine⟨⟨h.k _,allK_1 h,rfl⟩,?_⟩
 rw[mput_1 h];exact hk
theorem t_msets{enc:α→List D}(h:KK ek kd)(hm:s.evC m=some (.mref id))(hH:hp s.heap id=some (.map (eMs ek enc l)))(hkk:s.evV k=some (ek key)){x:α}(hv:s.ev v=some (.one (.agg ((enc x).map .d))))
 (hk:K ⟨none,[(id,.map (eMs ek enc (putM key x l)))]⟩):s1 P (.mset kd m k v) s K:=by
 rw[s1_mset,hm]
 simp only[hH,hkk,hv]
 refine⟨⟨h.k _,allK_s h,by simp[A1.isDt,C.isDt]⟩,?_⟩
 rw[mput_s h];exact hk
end
end
end Go.Fw
namespace Go.Fw
section
variable {P:Program} {s:St} {K:Out→Prop}
theorem sS1_app{a0:Nat}{a1:Nat}{a2:O}{a3:O}:sS P (.app a0 a1 a2 a3) s K=s1 P (.app a0 a1 a2 a3) s K:=oS rfl
theorem sS1_appz{a0:Nat}{a1:Nat}{a2:List D}{a3:O}{a4:O}:sS P (.appz a0 a1 a2 a3 a4) s K=s1 P (.appz a0 a1 a2 a3 a4) s K:=oS rfl
theorem sS1_copy{a0:Nat}{a1:O}{a2:O}:sS P (.copy a0 a1 a2) s K=s1 P (.copy a0 a1 a2) s K:=oS rfl
theorem sS1_clear{a0:Nat}{a1:List D}{a2:O}:sS P (.clear a0 a1 a2) s K=s1 P (.clear a0 a1 a2) s K:=oS rfl
theorem sS1_mk{a0:Nat}{a1:Nat}{a2:List D}{a3:O}{a4:O}:sS P (.mk a0 a1 a2 a3 a4) s K=s1 P (.mk a0 a1 a2 a3 a4) s K:=oS rfl
theorem sS1_indexA{a0:Nat}{a1:O}{a2:O}:sS P (.indexA a0 a1 a2) s K=s1 P (.indexA a0 a1 a2) s K:=oS rfl
theorem sS1_sidx{a0:O}{a1:O}:sS P (.sidx a0 a1) s K=s1 P (.sidx a0 a1) s K:=oS rfl
theorem sS1_slice{a0:Nat}{a1:O}{a2:Option O}{a3:Option O}{a4:Option O}:sS P (.slice a0 a1 a2 a3 a4) s K=s1 P (.slice a0 a1 a2 a3 a4) s K:=oS rfl
theorem sS1_sslice{a0:O}{a1:Option O}{a2:Option O}:sS P (.sslice a0 a1 a2) s K=s1 P (.sslice a0 a1 a2) s K:=oS rfl
theorem sS1_bslice{a0:Nat}{a1:List O}:sS P (.bslice a0 a1) s K=s1 P (.bslice a0 a1) s K:=oS rfl
theorem sS1_mkmap:sS P (.mkmap) s K=s1 P (.mkmap) s K:=oS rfl
theorem sS1_mget{a0:Nat}{a1:Bool}{a2:A1}{a3:O}{a4:O}:sS P (.mget a0 a1 a2 a3 a4) s K=s1 P (.mget a0 a1 a2 a3 a4) s K:=oS rfl
theorem sS1_mset{a0:Nat}{a1:O}{a2:O}{a3:O}:sS P (.mset a0 a1 a2 a3) s K=s1 P (.mset a0 a1 a2 a3) s K:=oS rfl
theorem sS1_mdel{a0:Nat}{a1:O}{a2:O}:sS P (.mdel a0 a1 a2) s K=s1 P (.mdel a0 a1 a2) s K:=oS rfl
theorem sS1_mlen{a0:O}:sS P (.mlen a0) s K=s1 P (.mlen a0) s K:=oS rfl
end
def V0:=PLift.up (And.intro (And.intro (And.intro (And.intro @envH_nil (And.intro @WrOk_nil @WrOk_lone)) (And.intro @nb_true (And.intro @nb_false @nb_dec))) (And.intro (And.intro @apply_some (And.intro @apply_none @apply_skip)) (And.intro @putSlot_some (And.intro @putSlot_none @setB.eq_1)))) (And.intro (And.intro (And.intro @argSlots.eq_1 (And.intro @argSlots.eq_2 @St.ev.eq_1)) (And.intro @St.ev.eq_2 (And.intro @St.ev.eq_3 @St.evC.eq_1))) (And.intro (And.intro @St.evV.eq_1 (And.intro @lk.eq_1 @lk.eq_2)) (And.intro @wrs.eq_1 (And.intro @wrs.eq_2 @allW.eq_1)))))
def V1:=PLift.up (And.intro (And.intro (And.intro (And.intro @allW.eq_2 (And.intro @ret.eq_1 @retV.eq_1)) (And.intro @evL.eq_1 (And.intro @evL.eq_2 @capL.eq_1))) (And.intro (And.intro @capL.eq_2 (And.intro @intV.eq_1 @intV.eq_2)) (And.intro @bldL.eq_1 (And.intro @bldL.eq_2 @frzL.eq_1)))) (And.intro (And.intro (And.intro @frzL.eq_2 (And.intro @frzL.eq_3 @frzRL.eq_1)) (And.intro @frzRL.eq_2 (And.intro @rowsL.eq_1 @rowsL.eq_2))) (And.intro (And.intro @rowsL.eq_3 (And.intro @kSt.eq_1 @if_true.{1})) (And.intro @if_true.{0} (And.intro @if_false.{1} @if_false.{0})))))
def V2:=PLift.up (And.intro (And.intro (And.intro (And.intro @binK.eq_1 (And.intro @binK.eq_2 @binK.eq_3)) (And.intro @binK.eq_4 (And.intro @binK.eq_5 @binK.eq_6))) (And.intro (And.intro @binK.eq_7 (And.intro @binK.eq_8 @binK.eq_9)) (And.intro @binK.eq_10 (And.intro @binK.eq_11 @binK.eq_12)))) (And.intro (And.intro (And.intro @binK.eq_13 (And.intro @binK.eq_14 @binK.eq_15)) (And.intro @binK.eq_16 (And.intro @binK.eq_18 @binK.eq_19))) (And.intro (And.intro @binK.eq_20 (And.intro @binK.eq_21 @binK.eq_22)) (And.intro @binK.eq_23 (And.intro @binK.eq_24 @true_and)))))
def V3:=PLift.up (And.intro (And.intro (And.intro (And.intro @and_true (And.intro @decide_eq_true_eq @decide_eq_false_iff_not)) (And.intro @List.length_map.{0,0} (And.intro @Int.toNat_natCast @ldC.eq_1))) (And.intro (And.intro @ldC.eq_2 (And.intro @ldC.eq_3 @List.map_cons.{0,0})) (And.intro @List.map_nil.{0,0} (And.intro @List.length_cons.{0} @List.length_nil.{0})))) (And.intro (And.intro (And.intro @List.take_succ_cons.{0} (And.intro @List.take_zero.{0} @A1.cells.eq_1)) (And.intro @A1.cells.eq_2 (And.intro @hset.eq_1 @hset.eq_2))) (And.intro (And.intro @hset.eq_3 (And.intro @hset.eq_4 @hp.eq_1)) (And.intro @splice.eq_1 (And.intro @List.getElem?_cons_zero.{0} @List.getElem?_cons_succ.{0})))))
def V4:=PLift.up (And.intro (And.intro (And.intro (And.intro @Option.join_some.{0} (And.intro @List.drop_succ_cons.{0} @List.drop_zero.{0})) (And.intro @Nat.zero_add (And.intro @List.nil_append.{0} @List.cons_append.{0}))) (And.intro (And.intro @List.append_nil.{0} (And.intro @List.drop_nil.{0} @Nat.le_refl)) (And.intro @clipC.eq_1 (And.intro @eqCells.eq_1 @eqCells.eq_2)))) (And.intro (And.intro (And.intro @eqCell.eq_1 (And.intro @eqCell.eq_2 @eqCell.eq_3)) (And.intro @eqB_t (And.intro @eqB_f @dec_and))) (And.intro (And.intro @and_t (And.intro @NilK_f @NilK_t)) (And.intro @resS.eq_1 (And.intro @resS.eq_2 @resS.eq_3)))))
def V5:=PLift.up (And.intro (And.intro (And.intro (And.intro @List.isEmpty_iff.{0} (And.intro @cast1 @cast0)) (And.intro @toNat0 (And.intro @toNat1 @s1_mv))) (And.intro (And.intro sS_mv.down (And.intro @s1_pick sS_pick.down)) (And.intro @s1_box (And.intro sS_box.down @s1_zbox)))) (And.intro (And.intro (And.intro sS_zbox.down (And.intro @s1_build sS_build.down)) (And.intro @s1_load (And.intro sS_load.down @s1_store))) (And.intro (And.intro sS_store.down (And.intro @s1_fieldA sS_fieldA.down)) (And.intro @s1_field (And.intro sS_field.down @s1_fn)))))
def V6:=PLift.up (And.intro (And.intro (And.intro (And.intro sS_fn.down (And.intro @s1_call sS_call.down)) (And.intro @s1_callv (And.intro sS_callv.down @s1_ext))) (And.intro (And.intro sS_ext.down (And.intro @s1_len sS_len.down)) (And.intro @s1_slen (And.intro sS_slen.down @s1_cap)))) (And.intro (And.intro (And.intro sS_cap.down (And.intro @s1_bin sS_bin.down)) (And.intro @s1_eqnil (And.intro @s1_not sS_not.down))) (And.intro (And.intro @s1_beq (And.intro sS_beq.down @s1_neg)) (And.intro sS_neg.down (And.intro @s1_max sS_max.down)))))
def V7:=PLift.up (And.intro (And.intro (And.intro (And.intro @s1_min (And.intro sS_min.down @s1_mins)) (And.intro sS_mins.down (And.intro @minL.eq_1 @minL.eq_2))) (And.intro (And.intro @s1_conv (And.intro sS_conv.down @s1_istr)) (And.intro sS_istr.down (And.intro @s1_eqs sS_eqs.down)))) (And.intro (And.intro (And.intro @sS_eqnil (And.intro @qkOps_eq @qvcOps_nil)) (And.intro @qvcOps_none (And.intro @qvcOps_some @qgOps_11))) (And.intro (And.intro @qgOps_00 (And.intro @qgOps_10 @qgOps_01)) (And.intro @qkD_nil (And.intro @qvcD_nil @qvcD_none)))))
def V8:=PLift.up (And.intro (And.intro (And.intro (And.intro @qvcD_some (And.intro @qgD_11 @qgD_00)) (And.intro @qgD_10 (And.intro @qgD_01 @qPickK_1))) (And.intro (And.intro @qPickK_0 (And.intro @qvc_skip @qvc_reg)) (And.intro @qvc_regd (And.intro @qvc_seq @qvc_block)))) (And.intro (And.intro (And.intro @qvc_loop (And.intro @qvc_sem @qvc_exit)) (And.intro @qvc_ret (And.intro @qvc_cond @qcnd_1))) (And.intro (And.intro @qcnd_0 (And.intro @qnrmK_seq @qnrmK_blk)) (And.intro @qnrmK_nil (And.intro @qunw_exit_seq @qunw_exit_blk)))))
def V9:=PLift.up (And.intro (And.intro (And.intro (And.intro @qunw_exit_nil (And.intro @qunw_ret_seq @qunw_ret_blk)) (And.intro @qunw_ret_nil (And.intro @qloopQ_exit @qloopQ_ret))) (And.intro (And.intro @qE_ret (And.intro @qE_norm @qkD_lone)) (And.intro @skipOut.eq_1 (And.intro @ap_nil @ap_cons)))) (And.intro (And.intro (And.intro @apS_own (And.intro @apS_pt @apS_pe)) (And.intro @apS_d (And.intro @apS_fp @apS_fn))) (And.intro (And.intro @wa_nil (And.intro @wa_cons @Bool.and_true)) (And.intro @Bool.true_and (And.intro @Bool.not_false @envH_cons)))))
def V10:=PLift.up (And.intro (And.intro (And.intro (And.intro @List.contains_cons.{0} (And.intro @List.contains_nil.{0} @List.replicate_succ.{0})) (And.intro @List.replicate_zero.{0} (And.intro @Bool.true_or @Bool.or_true))) (And.intro (And.intro @Bool.false_or (And.intro @Bool.or_false @Bool.false_eq_true)) (And.intro @befW.eq_1 (And.intro @befW.eq_2 @qsem_exit)))) (And.intro (And.intro (And.intro @qsem_ret (And.intro @sS1_app @sS1_appz)) (And.intro @sS1_copy (And.intro @sS1_clear @sS1_mk))) (And.intro (And.intro @sS1_indexA (And.intro @sS1_sidx @sS1_slice)) (And.intro @sS1_sslice (And.intro @sS1_bslice @sS1_mkmap)))))
def V11:=PLift.up (And.intro (And.intro @sS1_mget @sS1_mset) (And.intro @sS1_mdel @sS1_mlen))
def VV:=PLift.up (And.intro (And.intro (And.intro V0.down (And.intro V1.down V2.down)) (And.intro V3.down (And.intro V4.down V5.down))) (And.intro (And.intro V6.down (And.intro V7.down V8.down)) (And.intro V9.down (And.intro V10.down V11.down))))
end Go.Fw
namespace Go.Fw
section
variable {h H':List (Option Blk)} {σ:Src} {α:Type} {enc:α→List D}
theorem z_dd{x:D}:shC h σ H' (.d x) (.d x)=True:=by simp[shC]
theorem z_nil:shC h σ H' (.d (.sl [])) (.d (.v (.slice none 0 0)))=True:=by simp[shC,nrm]
theorem z_frz{R:List (List D)}{j ep off len:Nat}{cap:Option Nat}:shC h σ H' (.d (.sl R)) (.own j ep off len cap)=(noSrc j σ=true∧match hp h j with
 |some (.arr e _ rows)=>ep=e∧off+len≤rows.length∧FrzEq rows off len R
 |_=>False):=rfl
theorem z_adopt{k ep' off' len':Nat}{cap':Option Nat}:shC h σ H' (.own k ep' off' len' cap') (.d (.v (.slice none 0 0)))=((σ[k]? =some none∧off'=0∧len'=0∧cap'=none)∧match hp H' k with
 |some (.arr e' _ _)=>ep'=e'
 |_=>False):=rfl
theorem z_own{k ep' off' len':Nat}{j ep off len:Nat}{cap:Option Nat}:shC h σ H' (.own k ep' off' len' none) (.own j ep off len cap)=((σ[k]? =some (some j)∧off'=off∧len'=len)∧match hp h j with
 |some (.arr e _ _)=>ep=e∧match hp H' k with
  |some (.arr e' _ rows)=>ep'=e'∧off'+len'≤rows.length
  |_=>False
 |_=>False):=rfl
theorem z_stale{k ep' off' len' c:Nat}{j ep off len:Nat}{cap:Option Nat}:shC h σ H' (.own k ep' off' len' (some c)) (.own j ep off len cap)=match hp H' k with
 |some (.arr e' _ _)=>ep'<e'
 |_=>False:=rfl
theorem z_pt{k off' j off:Nat}:shC h σ H' (.pt k off') (.pt j off)=((σ[k]? =some (some j)∧off'=off)∧match hp H' k with|some (.box _)=>True|_=>False):=rfl
theorem z_pe{k ep' row' off' j ep row off:Nat}:shC h σ H' (.pe k ep' row' off') (.pe j ep row off)=((σ[k]? =some (some j)∧row'=row∧off'=off)∧match hp h j with
 |some (.arr e _ _)=>ep=e∧match hp H' k with
  |some (.arr e' _ rows)=>ep'=e'∧row'<rows.length
  |_=>False
 |_=>False):=rfl
theorem z_mref{k j:Nat}:shC h σ H' (.mref k) (.mref j)=(σ[k]? =some (some j)∧match hp H' k with|some (.map _)=>True|_=>False):=rfl
theorem z_ent1{κ β:Type}{ek:κ→Value}{e:β→D}{l:List (κ×β)}:(entsD (eM1 ek e l)=true)=True:=by simp[entsD_1]
theorem z_ents{κ β:Type}{ek:κ→Value}{e:β→List D}{l:List (κ×β)}:(entsD (eMs ek e l)=true)=True:=by simp[entsD_s]
theorem z_fp{x y:List D}:shC h σ H' (.fp x) (.fp y)=(x=y):=rfl
theorem z_fn{f' f:FuncId}{c' c:List (Nat×Nat)}:shC h σ H' (.fn f' c') (.fn f c)=(f'=f∧shCaps σ H' c' c):=rfl
theorem z_pre{rows:List (List D)}:PreEq rows rows=True:=by simp[PreEq]
theorem z_preT{xs:List α}{n:Nat}:PreEq (xs.map enc) ((xs.take n).map enc)=True:=by
 simp only[PreEq,eq_iff_iff,iff_true]
 exact .inr ⟨(xs.drop n).map enc,by rw[←List.map_append,List.take_append_drop]⟩
theorem z_preN{rows:List (List D)}:PreEq rows []=True:=by simp[PreEq]
theorem z_full{xs:List α}:FrzEq (xs.map enc) 0 xs.length (xs.map enc)=True:=by
 simp only[FrzEq,List.drop_zero,eq_iff_iff,iff_true];rw[List.take_of_length_le (by simp)]
theorem z_view{xs:List α}{off len:Nat}:FrzEq (xs.map enc) off len (((xs.drop off).take len).map enc)=True:=by
 simp[FrzEq]
theorem z_take{xs:List α}{len:Nat}:FrzEq (xs.map enc) 0 len ((xs.take len).map enc)=True:=by
 simp[FrzEq]
theorem z_lt1{e:Nat}:(e<e+1)=True:=by simp
theorem z_lt2{e:Nat}:(e<e+2)=True:=by simp
theorem z_le{n:Nat}:(n≤n)=True:=by simp
theorem z_imp'{α:Type}{p:Prop}{x:Option α}:(x=x→p)=p:=by simp
theorem z_lc{a b:List D}{rows R:List (List D)}{n:Nat}:FrzEq (a::rows) 0 (n+1) (b::R)=(b=a∧FrzEq rows 0 n R):=by simp[FrzEq]
theorem z_ln{rows:List (List D)}:FrzEq rows 0 0 []=True:=by simp[FrzEq]
theorem z_lt0{e n:Nat}:(e<e+(n+1))=True:=by simp only[eq_iff_iff,iff_true];omega
theorem z_lta{e a b:Nat}:(e+a<e+b)=(a<b):=by simp
theorem z_ti{p:Prop}:(True→p)=p:=by simp
theorem z_it{p:Prop}:(p→True)=True:=by simp
end
def Z0:=PLift.up (And.intro (And.intro (And.intro (And.intro @z_dd (And.intro @z_nil @z_frz)) (And.intro @z_adopt (And.intro @z_own @z_stale))) (And.intro (And.intro @z_pt (And.intro @z_pe @z_fp)) (And.intro @z_fn (And.intro @z_pre @z_preT)))) (And.intro (And.intro (And.intro @z_preN (And.intro @z_full @z_view)) (And.intro @z_take (And.intro @z_lt1 @z_lt2))) (And.intro (And.intro @z_le (And.intro @z_imp' @z_ti)) (And.intro @z_it (And.intro @z_lc @z_ln)))))
def Z1:=PLift.up (And.intro (And.intro (And.intro (And.intro @z_lt0 (And.intro @z_lta @z_mref)) (And.intro @z_ent1 (And.intro @z_ents @shSl.eq_1))) (And.intro (And.intro @shSl.eq_2 (And.intro @lk.eq_1 @lk.eq_2)) (And.intro @noSrc.eq_1 (And.intro @noSrc.eq_2 @noSrc.eq_3)))) (And.intro (And.intro (And.intro @hset.eq_1 (And.intro @hset.eq_2 @hset.eq_3)) (And.intro @hset.eq_4 (And.intro @wrs.eq_1 @wrs.eq_2))) (And.intro (And.intro @splice.eq_1 (And.intro @if_true.{1} @if_true.{0})) (And.intro @if_false.{1} (And.intro @if_false.{0} @true_and)))))
def Z2:=PLift.up (And.intro (And.intro (And.intro (And.intro @and_true (And.intro @and_self @true_or)) (And.intro @or_true (And.intro @List.length_map.{0,0} @Nat.zero_add))) (And.intro (And.intro @Nat.add_zero (And.intro @List.length_cons.{0} @List.length_nil.{0})) (And.intro @List.map_nil.{0,0} (And.intro @List.take_zero.{0} @List.take_succ_cons.{0})))) (And.intro (And.intro (And.intro @List.take_nil.{0} (And.intro @List.getElem?_cons_zero.{0} @List.getElem?_cons_succ.{0})) (And.intro @List.getElem?_nil.{0} (And.intro @Option.join_some.{0} @List.cons_append.{0}))) (And.intro (And.intro @List.nil_append.{0} (And.intro @bne_self_eq_false.{0} @Bool.and_true)) (And.intro @Bool.true_and (And.intro @List.map_cons.{0,0} @false_or)))))
def Z3:=PLift.up (And.intro (And.intro (And.intro (And.intro @or_false (And.intro @z_imp' @List.drop_zero.{0})) (And.intro @Int.toNat_natCast (And.intro @toNat0 @toNat1))) (And.intro (And.intro @cast0 (And.intro @cast1 @List.length_set.{0})) (And.intro @shA.eq_1 (And.intro @shA.eq_2 @shAs.eq_1)))) (And.intro (And.intro (And.intro @shAs.eq_2 (And.intro @shV.eq_1 @shV.eq_2)) (And.intro @shB.eq_1 (And.intro @shB.eq_2 @shB.eq_3))) (And.intro (And.intro @shB.eq_4 (And.intro @shB.eq_5 @shBs.eq_1)) (And.intro @shBs.eq_2 (And.intro @shCs.eq_1 @shCs.eq_2)))))
def Z4:=PLift.up (And.intro (And.intro (And.intro @shCaps.eq_1 @shCaps.eq_2) (And.intro @keepS.eq_1 @keepS.eq_2)) (And.intro (And.intro @keepS1.eq_1 @keepS1.eq_2) (And.intro @keepS1.eq_3 (And.intro @keepS1.eq_4 @hp.eq_1))))
def ZZ:=PLift.up (And.intro (And.intro Z0.down Z1.down) (And.intro Z2.down (And.intro Z3.down Z4.down)))
theorem ren_d{f:Nat→Nat}{x:D}:C.ren f (.d x)= .d x:=rfl
theorem ren_own{f:Nat→Nat}{id ep off len:Nat}{cap:Option Nat}:C.ren f (.own id ep off len cap)= .own (f id) ep off len cap:=rfl
theorem ren_pt{f:Nat→Nat}{id off:Nat}:C.ren f (.pt id off)= .pt (f id) off:=rfl
theorem ren_fp{f:Nat→Nat}{x:List D}:C.ren f (.fp x)= .fp x:=rfl
theorem ren_box{f:Nat→Nat}{cs:List C}:Blk.ren f (.box cs)= .box (cs.map (C.ren f)):=rfl
theorem ren_arr{f:Nat→Nat}{e sz:Nat}{rows:List (List D)}:Blk.ren f (.arr e sz rows)= .arr e sz rows:=rfl
theorem ren_c{f:Nat→Nat}{c:C}:A1.ren f (.c c)= .c (c.ren f):=rfl
theorem ren_agg{f:Nat→Nat}{cs:List C}:A1.ren f (.agg cs)= .agg (cs.map (C.ren f)):=rfl
theorem ren_one{f:Nat→Nat}{a:A1}:AV.ren f (.one a)= .one (a.ren f):=rfl
theorem ren_tup{f:Nat→Nat}{l:List A1}:AV.ren f (.tup l)= .tup (l.map (A1.ren f)):=rfl
theorem tail_nil{k:Nat}{f:Nat→Nat}:tailWr k [] f=[]:=rfl
theorem tail_some{k:Nat}{b:Blk}{r:List (Option Blk)}{f:Nat→Nat}:tailWr k (some b::r) f=(f k,b.ren f)::tailWr (k+1) r f:=rfl
theorem tail_none{k:Nat}{r:List (Option Blk)}{f:Nat→Nat}:tailWr k (none::r) f=tailWr (k+1) r f:=rfl
theorem ren_mref{f:Nat→Nat}{id:Nat}:C.ren f (.mref id)= .mref (f id):=rfl
theorem ren_m1{κ β:Type}{f:Nat→Nat}{ek:κ→Value}{e:β→D}{l:List (κ×β)}:Blk.ren f (.map (eM1 ek e l))= .map (eM1 ek e l):=by simp only[Blk.ren];rw[entsD_ren entsD_1]
theorem ren_ms{κ β:Type}{f:Nat→Nat}{ek:κ→Value}{e:β→List D}{l:List (κ×β)}:Blk.ren f (.map (eMs ek e l))= .map (eMs ek e l):=by simp only[Blk.ren];rw[entsD_ren entsD_s]
theorem ren_fn{f:Nat→Nat}{g:FuncId}{c:List (Nat×Nat)}:C.ren f (.fn g c)= .fn g (c.map fun p=>(f p.1,p.2)):=rfl
theorem tup1{a:A1}:tupV [a]= .one a:=rfl
theorem tup2{a b:A1}{l:List A1}:tupV (a::b::l)= .tup (a::b::l):=rfl
theorem tup0:tupV []= .tup []:=rfl
def VR:=PLift.up (And.intro (And.intro (And.intro (And.intro @rn.eq_1 (And.intro @ren_mref @ren_m1)) (And.intro @ren_ms (And.intro @ren_d @ren_own))) (And.intro (And.intro @ren_pt (And.intro @ren_fp @ren_fn)) (And.intro (And.intro @ren_box @ren_arr) (And.intro @ren_c @ren_agg)))) (And.intro (And.intro (And.intro @ren_one (And.intro @ren_tup @tail_nil)) (And.intro @tail_some (And.intro @tail_none @tup0))) (And.intro (And.intro @tup1 (And.intro @tup2 @Nat.add_zero)) (And.intro (And.intro @Nat.sub_zero @List.getElem?_nil.{0}) (And.intro @Nat.sub_self @Nat.add_sub_cancel_left)))))
def VW:=PLift.up (And.intro VV.down VR.down)
end Go.Fw
namespace Go.Fw
def eI(n:Int):List D:=[.v (.int .i64 n)]
def eK(k:IntKind)(n:Int):List D:=[.v (.int k n)]
def eB(b:Bool):List D:=[.v (.bool b)]
def eS(s:ByteArray):List D:=[.v (.string s)]
def eL{α:Type}(f:α→List D)(l:List α):List D:=[.sl (l.map f)]
def okN(n:Int):Prop:= -9223372036854775808≤n∧n≤9223372036854775807
def okT{α:Type}(_:α):Prop:=True
def okL{α:Type}(ok:α→Prop)(l:List α):Prop:=∀x∈l,ok x
def wN{α:Type}(_:α):Nat:=1
def wS(s:ByteArray):Nat:=s.size+1
def wL{α:Type}(w:α→Nat)(l:List α):Nat:=(l.map w).sum+1
theorem cat_some{a b c:ByteArray}(h:catI a b=some c):a.size+b.size≤9223372036854775807∧c=a++b:=by
 unfold catI at h
 split at h
 ·rename_i h0;cases h;exact⟨h0,rfl⟩
 ·cases h
theorem countY{α:Type}{L:List α}{i:Nat}(h:(i:Int)<(L.length:Int)):∃x,rdI L (i:Int)=some x∧L.drop i=x::L.drop (i+1):=by
 have hi:i<L.length:=by omega
 exact⟨L[i],by simp[rdI,hi],by rw[List.drop_eq_getElem_cons hi]⟩
theorem countN{α:Type}{L:List α}{i:Nat}(h:¬(i:Int)<(L.length:Int)):L.drop i=[]:=List.drop_of_length_le (by omega)
theorem bor_full'{α:Type}{enc:α→List D}{xs:List α}:(xs.map enc).take xs.length=xs.map enc:=by
 rw[List.take_of_length_le (by simp)]
end Go.Fw
