/- Rules of a walk. -/
import Derived.Test.YtdkmamiedcanfaaGreatFC
set_option linter.unusedVariables false
set_option linter.unusedSimpArgs false
set_option linter.unusedSectionVars false
namespace Go.Fw
noncomputable def shut{α:Sort _}(x:α):α:=Exists.choose (⟨x,rfl⟩:∃y,y=x)
theorem Dj{α:Sort _}(x:α):shut x=x:=Exists.choose_spec (⟨x,rfl⟩:∃y,y=x)
noncomputable def S8:=shut @Eb
theorem Wm:@S8=@Eb:=Dj _
noncomputable def sKO:=shut @Ks
theorem Xs:@sKO=@Ks:=Dj _
noncomputable def sG:=shut @Hw
theorem WX:@sG=@Hw:=Dj _
noncomputable def sD:=shut @vcD
theorem R6:@sD=@vcD:=Dj _
noncomputable def sKD:=shut @kD
theorem NL:@sKD=@kD:=Dj _
noncomputable def sGD:=shut @gD
theorem Ut:@sGD=@gD:=Dj _
noncomputable def s1:=shut @op1
theorem Ye:@s1=@op1:=Dj _
noncomputable def sS:=shut @opS
theorem Yd:@sS=@opS:=Dj _
noncomputable def R3:=shut @Nu
theorem Ur:@R3=@Nu:=Dj _
noncomputable def sK:=shut @vcK
theorem OX:@sK=@vcK:=Dj _
noncomputable def sN:=shut @MP
theorem WW:@sN=@MP:=Dj _
noncomputable def sU:=shut @unw
theorem OP:@sU=@unw:=Dj _
noncomputable def sC:=shut @cnd
theorem WY:@sC=@cnd:=Dj _
noncomputable def sL:=shut @Nf
theorem Us:@sL=@Nf:=Dj _
noncomputable def sE:=shut @XQ
theorem R5:@sE=@XQ:=Dj _
def sA:=PLift.up (And.intro Wm (And.intro Xs (And.intro WX (And.intro R6 (And.intro NL (And.intro Ut (And.intro Ye (And.intro Yd (And.intro Ur (And.intro OX (And.intro WW (And.intro OP (And.intro WY (And.intro Us R5))))))))))))))
theorem oS{P:Program}{s:St}{K:Out→Prop}{op:AOp}(h:opS P op s K=op1 P op s K):sS P op s K=s1 P op s K:=by simp only[sA.down];exact h
section
variable {P:Program} {s:St} {K:Out→Prop}
theorem Uu{x:O}:s1 P (.mv x) s K=(
 match s.ev x with
 |some v=>K ⟨some v,[]⟩
 |none=>False):=by
 simp only[sA.down];rfl
def WU:=PLift.up (fun(P:Program) (s:St) (K:Out→Prop) (x:O)=>(oS (P:=P) (s:=s) (K:=K) (op:= .mv x) rfl).trans Uu)
theorem NP{c:O}{x:O}{y:O}:s1 P (.pick c x y) s K=(
 match s.evV c with
 |some (.bool t)=>R3 t (s.ev x) (s.ev y) K
 |_=>False):=by
 simp only[sA.down];rfl
def RX:=PLift.up (fun(P:Program) (s:St) (K:Out→Prop) (c:O) (x:O) (y:O)=>(oS (P:=P) (s:=s) (K:=K) (op:= .pick c x y) rfl).trans NP)
theorem QO{x:O}:s1 P (.box x) s K=(
 match s.ev x with
 |some (.one a)=>K ⟨some (.one (.c (.pt s.heap.length 0))),[(s.heap.length,.box a.cells)]⟩
 |_=>False):=by
 simp only[sA.down];rfl
def Uh:=PLift.up (fun(P:Program) (s:St) (K:Out→Prop) (x:O)=>(oS (P:=P) (s:=s) (K:=K) (op:= .box x) rfl).trans QO)
theorem NM{cs:List C}:s1 P (.zbox cs) s K=(
 K ⟨some (.one (.c (.pt s.heap.length 0))),[(s.heap.length,.box cs)]⟩):=by
 simp only[sA.down];rfl
def RU:=PLift.up (fun(P:Program) (s:St) (K:Out→Prop) (cs:List C)=>(oS (P:=P) (s:=s) (K:=K) (op:= .zbox cs) rfl).trans NM)
theorem Ly{zero:List C}{parts:List (Nat×Nat×O)}:s1 P (.build zero parts) s K=(
 match Ox s zero parts with
 |some cs=>K ⟨some (.one (.agg cs)),[]⟩
 |none=>False):=by
 simp only[sA.down];rfl
def OU:=PLift.up (fun(P:Program) (s:St) (K:Out→Prop) (zero:List C) (parts:List (Nat×Nat×O))=>(oS (P:=P) (s:=s) (K:=K) (op:= .build zero parts) rfl).trans Ly)
theorem Kc{sz:Nat}{parts:List O}:s1 P (.bslice sz parts) s K=(
 match evL s parts with
 |some as=>match Iy s.heap sz [] as with
  |some (rows,wr,p)=>p∧K ⟨some (.one (.c (.own s.heap.length 0 0 rows.length none))),wr++[(s.heap.length,.arr 0 sz rows)]⟩
  |none=>False
 |none=>False):=by
 simp only[sA.down];rfl
def S4:=PLift.up (fun(P:Program) (s:St) (K:Out→Prop) (sz:Nat) (parts:List O)=>(oS (P:=P) (s:=s) (K:=K) (op:= .bslice sz parts) rfl).trans Kc)
theorem NR{n:Option Nat}{x:O}:s1 P (.load n x) s K=(
 match s.evC x with
 |some (.pt id off)=>match hp s.heap id with
  |some (.box cells)=>ldC n (cells.drop off) K
  |_=>False
 |some (.pe id ep row off)=>match hp s.heap id with
  |some (.arr e _ rows)=>ep=e∧Es rows row off n K
  |_=>False
 |some (.fp cells)=>ldC n (cells.map .d) K
 |_=>False):=by
 simp only[sA.down];rfl
def RZ:=PLift.up (fun(P:Program) (s:St) (K:Out→Prop) (n:Option Nat) (x:O)=>(oS (P:=P) (s:=s) (K:=K) (op:= .load n x) rfl).trans NR)
theorem Lu{n:Nat}{a:O}{x:O}:s1 P (.store n a x) s K=(
 match s.ev x with
 |some (.one v)=>(v.cells.length=n∧0<n)∧match s.evC a with
  |some (.pt id off)=>match hp s.heap id with
   |some (.box cells)=>off+n≤cells.length∧K ⟨none,[(id,.box (A8 cells off v.cells))]⟩
   |_=>False
  |some (.pe id ep row off)=>match JH s.heap [] v.cells with
   |some (ds,wr,p)=>p∧match hp (wrs s.heap wr) id with
    |some (.arr e sz rows)=>ep=e∧Fp rows row off n ds (kSt wr id e sz K)
    |_=>False
   |none=>False
  |_=>False
 |_=>False):=by
 simp only[sA.down];rfl
def OQ:=PLift.up (fun(P:Program) (s:St) (K:Out→Prop) (n:Nat) (a:O) (x:O)=>(oS (P:=P) (s:=s) (K:=K) (op:= .store n a x) rfl).trans Lu)
theorem Kb{off:Nat}{x:O}:s1 P (.fieldA off x) s K=(
 match s.evC x with
 |some (.pt id o)=>ret K (.pt id (o+off))
 |some (.pe id ep row o)=>match hp s.heap id with
  |some (.arr e _ _)=>ep=e∧ret K (.pe id ep row (o+off))
  |_=>False
 |some (.fp cells)=>ret K (.fp (cells.drop off))
 |_=>False):=by
 simp only[sA.down];rfl
def MY:=PLift.up (fun(P:Program) (s:St) (K:Out→Prop) (off:Nat) (x:O)=>(oS (P:=P) (s:=s) (K:=K) (op:= .fieldA off x) rfl).trans Kb)
theorem Lw{off:Nat}{n:Option Nat}{x:O}:s1 P (.field off n x) s K=(
 match s.ev x with
 |some (.one (.agg cs))=>ldC n (cs.drop off) K
 |_=>False):=by
 simp only[sA.down];rfl
def OR:=PLift.up (fun(P:Program) (s:St) (K:Out→Prop) (off:Nat) (n:Option Nat) (x:O)=>(oS (P:=P) (s:=s) (K:=K) (op:= .field off n x) rfl).trans Lw)
theorem H9{sz:Nat}{x:O}{i:O}:s1 P (.indexA sz x i) s K=(
 match s.evV i with
 |some (.int _ j)=>match s.evC x with
  |some (.d (.sl rows))=>MI rows j sz K
  |some (.own id ep off len _)=>(0≤j∧j<len)∧match hp s.heap id with
   |some (.arr e sz' rows)=>(ep=e∧sz'=sz∧off+j.toNat<rows.length)∧ret K (.pe id ep (off+j.toNat) 0)
   |_=>False
  |_=>False
 |_=>False):=by
 simp only[sA.down];rfl
def S3:=PLift.up (fun(P:Program) (s:St) (K:Out→Prop) (sz:Nat) (x:O) (i:O)=>(oS (P:=P) (s:=s) (K:=K) (op:= .indexA sz x i) rfl).trans H9)
theorem NO{x:O}{i:O}:s1 P (.sidx x i) s K=(
 match s.evV x with
 |some (.string b)=>match s.evV i with
  |some (.int _ j)=>MJ b j K
  |_=>False
 |_=>False):=by
 simp only[sA.down];rfl
def Wi:=PLift.up (fun(P:Program) (s:St) (K:Out→Prop) (x:O) (i:O)=>(oS (P:=P) (s:=s) (K:=K) (op:= .sidx x i) rfl).trans NO)
theorem Lv{sz:Nat}{x:O}{lo:Option O}{hi:Option O}{mx:Option O}:s1 P (.slice sz x lo hi mx) s K=(
 match s.evC x with
 |some (.d (.sl rows))=>match mx with
  |none=>match Di s lo 0 with
   |some l=>match Di s hi rows.length with
    |some h=>(0≤l∧l≤h∧h≤rows.length∧IZ rows sz)∧ret K (.d (.sl ((rows.take h.toNat).drop l.toNat)))
    |none=>False
   |none=>False
  |some mx=>match Di s (some mx) 0 with
   |some m=>match Di s lo 0 with
    |some l=>match Di s hi rows.length with
     |some h=>(0≤l∧l=h∧h=m∧m≤rows.length)∧K ⟨some (.one (.c (.own s.heap.length 0 0 0 none))),[(s.heap.length,.arr 0 sz [])]⟩
     |none=>False
    |none=>False
   |none=>False
 |some (.d (.v (.slice none 0 0)))=>match mx with
  |none=>match Di s lo 0 with
   |some l=>match Di s hi 0 with
    |some h=>(l=0∧h=0)∧BR K (.slice none 0 0)
    |none=>False
   |none=>False
  |some _=>False
 |some (.own id ep off len cap)=>match hp s.heap id with
  |some (.arr e sz' _)=>(ep=e∧sz'=sz)∧match cap with
   |none=>match mx with
    |none=>match Di s lo 0 with
     |some l=>match Di s hi len with
      |some h=>(0≤l∧l≤h∧h≤len)∧ret K (.own id ep (off+l.toNat) (h.toNat-l.toNat) none)
      |none=>False
     |none=>False
    |some mx=>match Di s (some mx) 0 with
     |some m=>match Di s lo 0 with
      |some l=>match Di s hi len with
       |some h=>(0≤l∧l≤h∧h≤m∧m≤len)∧ret K (.own id ep (off+l.toNat) (h.toNat-l.toNat) (some (m.toNat-l.toNat)))
       |none=>False
      |none=>False
     |none=>False
   |some c=>match Di s mx c with
    |some m=>match Di s lo 0 with
     |some l=>match Di s hi len with
      |some h=>(0≤l∧l≤h∧h≤m∧m≤c)∧ret K (.own id ep (off+l.toNat) (h.toNat-l.toNat) (some (m.toNat-l.toNat)))
      |none=>False
     |none=>False
    |none=>False
  |_=>False
 |_=>False):=by
 simp only[sA.down];rfl
def T7:=PLift.up (fun(P:Program) (s:St) (K:Out→Prop) (sz:Nat) (x:O) (lo:Option O) (hi:Option O) (mx:Option O)=>(oS (P:=P) (s:=s) (K:=K) (op:= .slice sz x lo hi mx) rfl).trans Lv)
theorem MZ{x:O}{lo:Option O}{hi:Option O}:s1 P (.sslice x lo hi) s K=(
 match s.evV x with
 |some (.string b)=>match Di s lo 0 with
  |some l=>match Di s hi b.size with
   |some h=>(0≤l∧l≤h∧h≤b.size)∧BR K (.string (b.extract l.toNat h.toNat))
   |none=>False
  |none=>False
 |_=>False):=by
 simp only[sA.down];rfl
def S2:=PLift.up (fun(P:Program) (s:St) (K:Out→Prop) (x:O) (lo:Option O) (hi:Option O)=>(oS (P:=P) (s:=s) (K:=K) (op:= .sslice x lo hi) rfl).trans MZ)
theorem Uv{f:FuncId}{cs:List O}:s1 P (.fn f cs) s K=(
 match Ov s cs with
 |some l=>ret K (.fn f l)
 |none=>False):=by
 simp only[sA.down];rfl
def WV:=PLift.up (fun(P:Program) (s:St) (K:Out→Prop) (f:FuncId) (cs:List O)=>(oS (P:=P) (s:=s) (K:=K) (op:= .fn f cs) rfl).trans Uv)
theorem QR{sz:Nat}{u1:Nat}{x:O}{y:O}:s1 P (.app sz u1 x y) s K=(
 match s.evC x with
 |some cx=>match s.evC y with
  |some cy=>match Fu (hp s.heap) sz cy with
   |some (new,p)=>p∧Fo s sz cx new K
   |none=>False
  |none=>False
 |none=>False):=by
 simp only[sA.down];rfl
def Xq:=PLift.up (fun(P:Program) (s:St) (K:Out→Prop) (sz:Nat) (u1:Nat) (x:O) (y:O)=>(oS (P:=P) (s:=s) (K:=K) (op:= .app sz u1 x y) rfl).trans QR)
theorem Sa{sz:Nat}{u1:Nat}{zero:List D}{x:O}{y:O}:s1 P (.appz sz u1 zero x y) s K=(
 match s.evC x with
 |some cx=>match s.evV y with
  |some (.int _ l)=>(0≤l∧l≤4294967296)∧Fo s sz cx (List.replicate l.toNat zero) K
  |_=>False
 |none=>False):=by
 simp only[sA.down];rfl
def Wk:=PLift.up (fun(P:Program) (s:St) (K:Out→Prop) (sz:Nat) (u1:Nat) (zero:List D) (x:O) (y:O)=>(oS (P:=P) (s:=s) (K:=K) (op:= .appz sz u1 zero x y) rfl).trans Sa)
theorem R9{sz:Nat}{x:O}{y:O}:s1 P (.copy sz x y) s K=(
 match s.evC x with
 |some (.own id ep off len cap)=>match s.evC y with
  |some cy=>match Fu (hp s.heap) sz (Mr len cy)with
   |some (new,p)=>p∧wr1 s sz (.own id ep off len cap) (min new.length len) (new.take (min new.length len)) (some (.one (.c (.d (.v (.int .i64 (min new.length len:Nat))))))) K
   |none=>False
  |none=>False
 |_=>False):=by
 simp only[sA.down];rfl
def Wj:=PLift.up (fun(P:Program) (s:St) (K:Out→Prop) (sz:Nat) (x:O) (y:O)=>(oS (P:=P) (s:=s) (K:=K) (op:= .copy sz x y) rfl).trans R9)
theorem O0{sz:Nat}{zero:List D}{x:O}:s1 P (.clear sz zero x) s K=(
 match s.evC x with
 |some (.own id ep off len cap)=>wr1 s sz (.own id ep off len cap) len (List.replicate len zero) none K
 |_=>False):=by
 simp only[sA.down];rfl
def Uf:=PLift.up (fun(P:Program) (s:St) (K:Out→Prop) (sz:Nat) (zero:List D) (x:O)=>(oS (P:=P) (s:=s) (K:=K) (op:= .clear sz zero x) rfl).trans O0)
theorem WZ{sz:Nat}{u1:Nat}{zero:List D}{l:O}{c:O}:s1 P (.mk sz u1 zero l c) s K=(
 match s.evV l with
 |some (.int _ l)=>match s.evV c with
  |some (.int _ c)=>(0≤l∧l≤c∧c≤4294967296)∧K ⟨some (.one (.c (.own s.heap.length 0 0 l.toNat none))),[(s.heap.length,.arr 0 sz (List.replicate l.toNat zero))]⟩
  |_=>False
 |_=>False):=by
 simp only[sA.down];rfl
def Yc:=PLift.up (fun(P:Program) (s:St) (K:Out→Prop) (sz:Nat) (u1:Nat) (zero:List D) (l:O) (c:O)=>(oS (P:=P) (s:=s) (K:=K) (op:= .mk sz u1 zero l c) rfl).trans WZ)
theorem NU{f:FuncId}{args:List O}:s1 P (.call f args) s K=(
 match evL s args with
 |some as=>J0 P f as s K
 |none=>False):=by
 simp only[sA.down];rfl
def R2:=PLift.up (fun(P:Program) (s:St) (K:Out→Prop) (f:FuncId) (args:List O)=>(oS (P:=P) (s:=s) (K:=K) (op:= .call f args) rfl).trans NU)
theorem Lx{g:O}{args:List O}:s1 P (.callv g args) s K=(
 match s.evC g with
 |some (.fn f cs)=>match evL s args with
  |some as=>J0 P f (as++cs.map fun c=> .c (.pt c.1 c.2)) s K
  |none=>False
 |_=>False):=by
 simp only[sA.down];rfl
def OT:=PLift.up (fun(P:Program) (s:St) (K:Out→Prop) (g:O) (args:List O)=>(oS (P:=P) (s:=s) (K:=K) (op:= .callv g args) rfl).trans Lx)
theorem QL{x:O}{i:Nat}:s1 P (.ext x i) s K=(
 match s.ev x with
 |some (.tup l)=>match l[i]? with
  |some a=>K ⟨some (.one a),[]⟩
  |none=>False
 |_=>False):=by
 simp only[sA.down];rfl
def Ud:=PLift.up (fun(P:Program) (s:St) (K:Out→Prop) (x:O) (i:Nat)=>(oS (P:=P) (s:=s) (K:=K) (op:= .ext x i) rfl).trans QL)
theorem QK{x:O}:s1 P (.len x) s K=(
 match s.evC x with
 |some (.d (.sl rows))=>BR K (.int .i64 rows.length)
 |some (.d (.v (.slice _ m _)))=>BR K (.int .i64 m)
 |some (.own id ep _ len _)=>match hp s.heap id with
  |some (.arr e _ _)=>ep=e∧BR K (.int .i64 len)
  |_=>False
 |_=>False):=by
 simp only[sA.down];rfl
def Uc:=PLift.up (fun(P:Program) (s:St) (K:Out→Prop) (x:O)=>(oS (P:=P) (s:=s) (K:=K) (op:= .len x) rfl).trans QK)
theorem NN{x:O}:s1 P (.slen x) s K=(
 match s.evV x with
 |some (.string b)=>BR K (.int .i64 b.size)
 |_=>False):=by
 simp only[sA.down];rfl
def RW:=PLift.up (fun(P:Program) (s:St) (K:Out→Prop) (x:O)=>(oS (P:=P) (s:=s) (K:=K) (op:= .slen x) rfl).trans NN)
theorem QN{x:O}:s1 P (.cap x) s K=(
 match s.evC x with
 |some (.own id ep _ _ (some c))=>match hp s.heap id with
  |some (.arr e _ _)=>ep=e∧BR K (.int .i64 c)
  |_=>False
 |_=>False):=by
 simp only[sA.down];rfl
def Ug:=PLift.up (fun(P:Program) (s:St) (K:Out→Prop) (x:O)=>(oS (P:=P) (s:=s) (K:=K) (op:= .cap x) rfl).trans QN)
theorem QP{op:BinOp}{x:O}{y:O}:s1 P (.bin op x y) s K=(
 match s.evV x with
 |some a=>match s.evV y with
  |some b=>Cf op a b (BR K)
  |none=>False
 |none=>False):=by
 simp only[sA.down];rfl
def Ui:=PLift.up (fun(P:Program) (s:St) (K:Out→Prop) (op:BinOp) (x:O) (y:O)=>(oS (P:=P) (s:=s) (K:=K) (op:= .bin op x y) rfl).trans QP)
theorem OZ{neg:Bool}{x:O}:s1 P (.eqnil neg x) s K=(
 match s.evC x with
 |some (.d (.v (.slice none 0 0)))=>BR K (.bool (!neg))
 |_=>False):=by
 simp only[sA.down];rfl
theorem NS{x:O}:s1 P (.istr x) s K=(
 match s.evV x with
 |some (.int _ n)=>BR K (.string (Utf8.encode n))
 |_=>False):=by
 simp only[sA.down];rfl
def R0:=PLift.up (fun(P:Program) (s:St) (K:Out→Prop) (x:O)=>(oS (P:=P) (s:=s) (K:=K) (op:= .istr x) rfl).trans NS)
theorem OY:s1 P (.mkmap) s K=(
 K ⟨some (.one (.c (.mref s.heap.length))),[(s.heap.length,.map [])]⟩):=by
 simp only[sA.down];rfl
theorem R8{kd:Nat}{ok:Bool}{zero:A1}{m:O}{k:O}:s1 P (.mget kd ok zero m k) s K=(
 match s.evC m with
 |some (.mref id)=>match hp s.heap id with
  |some (.map ents)=>match s.evV k with
   |some kv=>(Ez kd kv=true∧GG kd ents=true)∧K ⟨some (WD ok zero (EP kv ents)),[]⟩
   |none=>False
  |_=>False
 |_=>False):=by
 simp only[sA.down];rfl
theorem Wn{kd:Nat}{m:O}{k:O}:s1 P (.mdel kd m k) s K=(
 match s.evC m with
 |some (.mref id)=>match hp s.heap id with
  |some (.map ents)=>match s.evV k with
   |some kv=>(Ez kd kv=true∧GG kd ents=true)∧K ⟨some (.tup []),[(id,.map (GO kv ents))]⟩
   |none=>False
  |_=>False
 |_=>False):=by
 simp only[sA.down];rfl
theorem R7{kd:Nat}{m:O}{k:O}{v:O}:s1 P (.mset kd m k v) s K=(
 match s.evC m with
 |some (.mref id)=>match hp s.heap id with
  |some (.map ents)=>match s.evV k with
   |some kv=>match s.ev v with
    |some (.one a)=>(Ez kd kv=true∧GG kd ents=true∧a.EA=true)∧K ⟨none,[(id,.map (Jv kv a ents))]⟩
    |_=>False
   |none=>False
  |_=>False
 |_=>False):=by
 simp only[sA.down];rfl
theorem QG{x:O}:s1 P (.not x) s K=(
 match s.evV x with
 |some (.bool t)=>BR K (.bool (nb t))
 |_=>False):=by
 simp only[sA.down];rfl
def T8:=PLift.up (fun(P:Program) (s:St) (K:Out→Prop) (x:O)=>(oS (P:=P) (s:=s) (K:=K) (op:= .not x) rfl).trans QG)
theorem QQ{neg:Bool}{x:O}{y:O}:s1 P (.beq neg x y) s K=(
 match s.evV x with
 |some (.bool a)=>match s.evV y with
  |some (.bool b)=>BR K (.bool ((a==b)!=neg))
  |_=>False
 |_=>False):=by
 simp only[sA.down];rfl
def Uj:=PLift.up (fun(P:Program) (s:St) (K:Out→Prop) (neg:Bool) (x:O) (y:O)=>(oS (P:=P) (s:=s) (K:=K) (op:= .beq neg x y) rfl).trans QQ)
theorem QH{x:O}:s1 P (.neg x) s K=(
 match s.evV x with
 |some (.int k n)=>BR K (.int k (k.wrap (0-n)))
 |_=>False):=by
 simp only[sA.down];rfl
def T9:=PLift.up (fun(P:Program) (s:St) (K:Out→Prop) (x:O)=>(oS (P:=P) (s:=s) (K:=K) (op:= .neg x) rfl).trans QH)
theorem QJ{x:O}{y:O}:s1 P (.max x y) s K=(
 match s.evV x with
 |some (.int k a)=>match s.evV y with
  |some (.int _ b)=>BR K (.int k (if a<b then b else a))
  |_=>False
 |_=>False):=by
 simp only[sA.down];rfl
def Ub:=PLift.up (fun(P:Program) (s:St) (K:Out→Prop) (x:O) (y:O)=>(oS (P:=P) (s:=s) (K:=K) (op:= .max x y) rfl).trans QJ)
theorem QI{x:O}{y:O}:s1 P (.min x y) s K=(
 match s.evV x with
 |some (.int k a)=>match s.evV y with
  |some (.int _ b)=>BR K (.int k (if b<a then b else a))
  |_=>False
 |_=>False):=by
 simp only[sA.down];rfl
def Ua:=PLift.up (fun(P:Program) (s:St) (K:Out→Prop) (x:O) (y:O)=>(oS (P:=P) (s:=s) (K:=K) (op:= .min x y) rfl).trans QI)
theorem NQ{x:O}{r:List O}:s1 P (.mins x r) s K=(
 match s.evV x with
 |some (.int k a)=>Iq s r k a K
 |_=>False):=by
 simp only[sA.down];rfl
def RY:=PLift.up (fun(P:Program) (s:St) (K:Out→Prop) (x:O) (r:List O)=>(oS (P:=P) (s:=s) (K:=K) (op:= .mins x r) rfl).trans NQ)
theorem NT{k:IntKind}{x:O}:s1 P (.conv k x) s K=(
 match s.evV x with
 |some (.int _ n)=>BR K (.int k (k.wrap n))
 |_=>False):=by
 simp only[sA.down];rfl
def R1:=PLift.up (fun(P:Program) (s:St) (K:Out→Prop) (k:IntKind) (x:O)=>(oS (P:=P) (s:=s) (K:=K) (op:= .conv k x) rfl).trans NT)
theorem QM{neg:Bool}{plan:List (Nat×Nat)}{x:O}{y:O}:s1 P (.eqs neg plan x y) s K=(
 match s.ev x with
 |some (.one (.agg xs))=>match s.ev y with
  |some (.one (.agg ys))=>match Em plan xs ys with
   |some b=>BR K (.bool (eqB neg b))
   |none=>False
  |_=>False
 |_=>False
):=by
 simp only[sA.down];rfl
def Ue:=PLift.up (fun(P:Program) (s:St) (K:Out→Prop) (neg:Bool) (plan:List (Nat×Nat)) (x:O) (y:O)=>(oS (P:=P) (s:=s) (K:=K) (op:= .eqs neg plan x y) rfl).trans QM)
theorem OS{neg:Bool}{x:O}:sS P (.eqnil neg x) s K=(
 match s.evC x with
 |some (.d (.v (.slice none 0 0)))=>BR K (.bool (!neg))
 |some (.d (.sl rows))=>TC neg rows.isEmpty K
 |some (.own id ep _ len _)=>match hp s.heap id with
  |some (.arr e _ _)=>ep=e∧TC neg (len==0) K
  |_=>False
 |_=>False):=by
 simp only[sA.down];rfl
end
section
variable {P:Program} {dst:Option Nat} {op:AOp} {bef:List Nat} {lone:Lone} {r:List B6} {s:St} {K:St→Prop} {g:Nat} {want:Bool} {h:List (Option Blk)} {i:Nat} {Ak:List (Nat×AV)} {wl:List (Nat×List (Nat×Blk))}
variable {n m:Nat} {Q:XT→St→Prop} {a b:AC} {k:List Frm}
theorem Pe{out:Out}:sKO P r dst s K out=S8 P r (s.apply dst out) K:=by
 simp only[sA.down];first|exact Sp|exact@Sp
theorem LQ:S8 P [] s K=K s:=by
 simp only[sA.down];first|exact MU|exact@MU
theorem KP:S8 P (⟨dst,none,op,bef,lone⟩::r) s K=sS P op s (sKO P r dst s K):=by
 simp only[sA.down];first|exact Lk|exact@Lk
theorem KO:S8 P (⟨dst,some (g,want),op,bef,lone⟩::r) s K=match lk s.Ak g with
 |some (.one (.c (.d (.v (.bool t)))))=>sG P t want dst op r g s K
 |some (.tup [])=>sKO P r dst s K Bv
 |_=>False:=by
 simp only[sA.down];first|exact Lj|exact@Lj
theorem Pg:sG P true true dst op r g s K=sS P op ⟨Cz s.Ak g true,s.heap⟩ (sKO P r dst ⟨Cz s.Ak g true,s.heap⟩ K):=by
 simp only[sA.down];first|exact Su|exact@Su
theorem Pk:sG P false false dst op r g s K=sS P op ⟨Cz s.Ak g false,s.heap⟩ (sKO P r dst ⟨Cz s.Ak g false,s.heap⟩ K):=by
 simp only[sA.down];first|exact Sx|exact@Sx
theorem Ph:sG P true false dst op r g s K=sKO P r dst ⟨Cz s.Ak g true,s.heap⟩ K Bv:=by
 simp only[sA.down];first|exact Sv|exact@Sv
theorem Pj:sG P false true dst op r g s K=sKO P r dst ⟨Cz s.Ak g false,s.heap⟩ K Bv:=by
 simp only[sA.down];first|exact Sw|exact@Sw
theorem Sj{v:Option AV}:sKD P h r i dst lone Ak wl K ⟨v,[]⟩=sD P h r (i+1) (Cu Ak dst v) wl K:=by
 simp only[sA.down];first|exact U3|exact@U3
theorem Pd:sD P h [] i Ak wl K=K ⟨Ak,wrs h (B8 wl)⟩:=by
 simp only[sA.down];first|exact RM|exact@RM
theorem M6:sD P h (⟨dst,none,op,bef,lone⟩::r) i Ak wl K=s1 P op ⟨Ak,HF h wl bef⟩ (sKD P h r i dst lone Ak wl K):=by
 simp only[sA.down];first|exact OI|exact@OI
theorem M5:sD P h (⟨dst,some (g,want),op,bef,lone⟩::r) i Ak wl K=match lk Ak g with
 |some (.one (.c (.d (.v (.bool t)))))=>sGD P h t want dst op bef lone r i g Ak wl K
 |some (.tup [])=>sKD P h r i dst lone Ak wl K Bv
 |_=>False:=by
 simp only[sA.down];first|exact OH|exact@OH
theorem UG:sGD P h true true dst op bef lone r i g Ak wl K=s1 P op ⟨Cz Ak g true,HF h wl bef⟩ (sKD P h r i dst lone (Cz Ak g true) wl K):=by
 simp only[sA.down];first|exact W2|exact@W2
theorem UJ:sGD P h false false dst op bef lone r i g Ak wl K=s1 P op ⟨Cz Ak g false,HF h wl bef⟩ (sKD P h r i dst lone (Cz Ak g false) wl K):=by
 simp only[sA.down];first|exact W5|exact@W5
theorem UH:sGD P h true false dst op bef lone r i g Ak wl K=sKD P h r i dst lone (Cz Ak g true) wl K Bv:=by
 simp only[sA.down];first|exact W3|exact@W3
theorem UI:sGD P h false true dst op bef lone r i g Ak wl K=sKD P h r i dst lone (Cz Ak g false) wl K Bv:=by
 simp only[sA.down];first|exact W4|exact@W4
theorem Pl{x y:Option AV}{K:Out→Prop}:R3 true x y K=match x with|some v=>K ⟨some v,[]⟩|none=>False:=by
 simp only[sA.down];first|exact SI|exact@SI
theorem Pm{x y:Option AV}{K:Out→Prop}:R3 false x y K=match y with|some v=>K ⟨some v,[]⟩|none=>False:=by
 simp only[sA.down];first|exact SJ|exact@SJ
theorem O8:sK P n m .skip k Q s=sN P n m k Q s:=by
 simp only[sA.down];first|exact RH|exact@RH
theorem Si{ops:List B6}:sK P n m (.reg ops) k Q s=S8 P ops s (sN P n m k Q):=by
 simp only[sA.down];first|exact TI|exact@TI
theorem O9{ops:List B6}:sK P n m (.regd ops) k Q s=sD P s.heap ops 0 s.Ak [] (sN P n m k Q):=by
 simp only[sA.down];first|exact RI|exact@RI
theorem Se:sK P n m (.seq a b) k Q s=sK P n m a (.seq b::k) Q s:=by
 simp only[sA.down];first|exact TF|exact@TF
theorem M4{id:Nat}:sK P n m (.block id a) k Q s=sK P n m a (.blk id::k) Q s:=by
 simp only[sA.down];first|exact OG|exact@OG
theorem Pa:sK P n m (.loop a) k Q s=WpC P n m (.loop a) (sU P n m k Q) s:=by
 simp only[sA.down];first|exact RJ|exact@RJ
theorem Sf:sK P n m (.sem a) k Q s=WpC P n m a (sU P n m k Q) s:=by
 simp only[sA.down];first|exact TG|exact@TG
theorem Pb{id:Nat}:sK P n m (.exit id) k Q s=sU P n m k Q (.exit id) s:=by
 simp only[sA.down];first|exact RK|exact@RK
theorem Sg:sK P n m .ret k Q s=sU P n m k Q .ret s:=by
 simp only[sA.down];first|exact TH|exact@TH
theorem Pc{c:O}:sK P n m (.cond c a b) k Q s=match s.evV c with
 |some (.bool t)=>sC P n m t a b k Q s
 |_=>False:=by
 simp only[sA.down];first|exact RL|exact@RL
theorem Q0:sC P n m true a b k Q s=sK P n m a k Q s:=by
 simp only[sA.down];first|exact W8|exact@W8
theorem Q1:sC P n m false a b k Q s=sK P n m b k Q s:=by
 simp only[sA.down];first|exact W9|exact@W9
theorem M7:sN P n m (.seq b::k) Q s=sK P n m b k Q s:=by
 simp only[sA.down];first|exact Ps|exact@Ps
theorem M9{id:Nat}:sN P n m (.blk id::k) Q s=sN P n m k Q s:=by
 simp only[sA.down];first|exact Pu|exact@Pu
theorem M8:sN P n m [] Q s=Q .normal s:=by
 simp only[sA.down];first|exact Pt|exact@Pt
theorem Is{i:Nat}:sU P n m (.seq b::k) Q (.exit i) s=sU P n m k Q (.exit i) s:=by
 simp only[sA.down];first|exact I2|exact@I2
theorem Iu{i id:Nat}:sU P n m (.blk id::k) Q (.exit i) s=if i=id then sN P n m k Q s else sU P n m k Q (.exit i) s:=by
 simp only[sA.down];first|exact I4|exact@I4
theorem It{i:Nat}:sU P n m [] Q (.exit i) s=Q (.exit i) s:=by
 simp only[sA.down];first|exact I3|exact@I3
theorem Jk:sU P n m (.seq b::k) Q .ret s=sU P n m k Q .ret s:=by
 simp only[sA.down];first|exact KH|exact@KH
theorem Jm{id:Nat}:sU P n m (.blk id::k) Q .ret s=sU P n m k Q .ret s:=by
 simp only[sA.down];first|exact KJ|exact@KJ
theorem Jl:sU P n m [] Q .ret s=Q .ret s:=by
 simp only[sA.down];first|exact KI|exact@KI
theorem KQ{I:Nat→St→Prop}{j i:Nat}:sL n m I j Q (.exit i) s=Q (.exit i) s:=by
 simp only[sA.down];first|exact L7|exact@L7
theorem LR{I:Nat→St→Prop}{j:Nat}:sL n m I j Q .ret s=Q .ret s:=by
 simp only[sA.down];first|exact Nd|exact@Nd
end
end Go.Fw
namespace Go.Fw
section
variable {P:Program} {n m:Nat} {Q:XT→St→Prop} {s:St} {a b:AC} {k:List Frm}
theorem SB{f:FuncId}{A:AFn}(hf:afn P f=some A.er){args:List A1}{H H':List (Option Blk)}{res:List A1}(hlen:args.length≤A.ntmps)
 (h:sK P A.ntmps H.length A.code [] (sE H.length A.rvs res H') ⟨Ds 0 args,H⟩):An P f args H (AL res) H':=by
 rw[OX,R5]at h
 exact Vt hf hlen (Xo h)
theorem UK{rvs:List RV}{res:List A1}{H':List (Option Blk)}:sE m rvs res H' .ret s=Ip s rvs fun l=>Fin m s.heap l res H':=by rw[R5];rfl
theorem Sk{rvs:List RV}{res:List A1}{H':List (Option Blk)}:sE m rvs res H' .normal s=Ip s rvs fun l=>Fin m s.heap l res H':=by rw[R5];rfl
theorem Yk{body:AC}(I:Nat→St→Prop)(h0:∃k s0,View n m s s0∧I k s0)
 (hr:∀j s,I j s→sK P n m body [] (sL n m I j (sU P n m k Q)) s):WpC P n m (.loop body) (sU P n m k Q) s:=by
 rw[OP]
 rw[OX,Us,OP]at hr
 exact Rc I h0 hr
theorem Xt{I:Nat→St→Prop}{j:Nat}{s':St}(h:∃k' s'',k'<j∧View n m s' s''∧I k' s''):sL n m I j Q .normal s':=by
 rw[Us];exact h
theorem Bg{p:Prop}[Decidable p](h1:p→sK P n m a k Q s)(h0:¬p→sK P n m b k Q s):sC P n m (decide p) a b k Q s:=by
 rw[OX]at h1 h0;rw[WY];exact Tw h1 h0
theorem Yp{p:Prop}[Decidable p](hp:¬p)(h1:sK P n m b k Q s):sC P n m (decide p) a b k Q s:=Bg (fun h=>(hp h).elim) fun _=>h1
end
section
variable {P:Program} {dst:Option Nat} {op:AOp} {bef:List Nat} {lone:Lone} {r:List B6} {s:St} {K:St→Prop} {g:Nat} {want:Bool} {h:List (Option Blk)} {i:Nat} {Ak:List (Nat×AV)} {wl:List (Nat×List (Nat×Blk))}
theorem XJ{p:Prop}[Decidable p](h1:p→sG P true want dst op r g s K)(h0:¬p→sG P false want dst op r g s K):sG P (decide p) want dst op r g s K:=by
 rw[WX]at*;exact Rk h1 h0
theorem XK{p:Prop}[Decidable p](h1:p→sGD P h true want dst op bef lone r i g Ak wl K)(h0:¬p→sGD P h false want dst op bef lone r i g Ak wl K):sGD P h (decide p) want dst op bef lone r i g Ak wl K:=by
 rw[Ut]at*;exact Va h1 h0
theorem Pf{v:Option AV}{w:Nat×Blk}{wr:List (Nat×Blk)}{ts:List Nat}(ha:BW Ak (w::wr) ts=true):sKD P h r i dst (.lone ts) Ak wl K ⟨v,w::wr⟩=sD P h r (i+1) (Cu Ak dst v) (wl++[(i,w::wr)]) K:=by
 simp only[NL,R6];rw[U4,KD ha];simp[Ir]
section
variable {wr:List (Nat×Blk)} {id a:Nat} {ts:List Nat}
theorem Vz:BW Ak wr []=true:=by first|(simp only[BW];done)|(simp only[Cd,CW];done)|simp[BW,Cd,CW,bne]
theorem SG:BW Ak wr (a::ts)=(Cd (lk Ak a) wr&&BW Ak wr ts):=by first|(simp only[BW];done)|(simp only[Cd,CW];done)|simp[BW,Cd,CW,bne]
theorem SH{ep off len:Nat}{cap:Option Nat}:Cd (some (.one (.c (.own id ep off len cap)))) wr=wr.all fun p=>p.1 !=id:=by first|(simp only[BW];done)|(simp only[Cd,CW];done)|simp[BW,Cd,CW,bne]
theorem VA{off:Nat}:Cd (some (.one (.c (.pt id off)))) wr=wr.all fun p=>p.1 !=id:=by first|(simp only[BW];done)|(simp only[Cd,CW];done)|simp[BW,Cd,CW,bne]
theorem VB{ep row off:Nat}:Cd (some (.one (.c (.pe id ep row off)))) wr=wr.all fun p=>p.1 !=id:=by first|(simp only[BW];done)|(simp only[Cd,CW];done)|simp[BW,Cd,CW,bne]
theorem Xb{x:D}:Cd (some (.one (.c (.d x)))) wr=true:=by first|(simp only[BW];done)|(simp only[Cd,CW];done)|simp[BW,Cd,CW,bne]
theorem VC{x:List D}:Cd (some (.one (.c (.fp x)))) wr=true:=by first|(simp only[BW];done)|(simp only[Cd,CW];done)|simp[BW,Cd,CW,bne]
theorem VD{f:FuncId}{x:List (Nat×Nat)}:Cd (some (.one (.c (.fn f x)))) wr=true:=by first|(simp only[BW];done)|(simp only[Cd,CW];done)|simp[BW,Cd,CW,bne]
theorem TE:(([]:List (Nat×Blk)).all fun p=>p.1 !=id)=true:=by first|(simp only[BW];done)|(simp only[Cd,CW];done)|simp[BW,Cd,CW,bne]
theorem RF{j:Nat}{b:Blk}:(((j,b)::wr).all fun p=>p.1 !=id)=(!(j==id)&&wr.all fun p=>p.1 !=id):=by first|(simp only[BW];done)|(simp only[Cd,CW];done)|simp[BW,Cd,CW,bne]
end
end
def C.isD:C→Bool
 | .d _=>true
 |_=>false
def Blk.Rq:Blk→Bool
 | .arr _ _ _=>true
 | .box cells=>cells.all C.isD
 | .map ents=>EK ents
theorem A1.U5{a:A1}(h:a.EA=true)(ρ:Nat→Nat):a.ren ρ=a:=by
 have hc:∀c:C,c.EA=true→c.ren ρ=c:=fun c hc=>by cases c<;>simp_all [C.EA,C.ren]
 cases a with
 |c x=>simp only[A1.ren];rw[hc x h]
 |agg cs=>
  simp only[A1.EA,List.all_eq_true]at h
  simp only[A1.ren]
  congr 1
  conv=>rhs;rw[←List.map_id cs]
  exact List.map_congr_left fun c hx=>hc c (h c hx)
theorem A1.To{a:A1}(h:a.EA=true)(H:BX):a.live H:=by
 have hc:∀c:C,c.EA=true→c.live H:=fun c hc=>by cases c<;>simp_all [C.EA,C.live]
 cases a with
 |c x=>exact hc x h
 |agg cs=>
  simp only[A1.EA,List.all_eq_true]at h
  exact fun c hx=>hc c (h c hx)
theorem Kw{ents:List (Value×A1)}(h:EK ents=true)(ρ:Nat→Nat):ents.map (fun e=>(e.1,e.2.ren ρ))=ents:=by
 simp only[EK,List.all_eq_true]at h
 conv=>rhs;rw[←List.map_id ents]
 exact List.map_congr_left fun e he=>by rw[A1.U5 (h e he)];rfl
theorem Fi{ents:List (Value×A1)}(h:EK ents=true)(H:BX):(Blk.map ents).live H:=by
 simp only[EK,List.all_eq_true]at h
 exact fun e he=>A1.To (h e he) H
theorem Blk.Vh{b:Blk}(h:b.Rq=true)(ρ:Nat→Nat):b.ren ρ=b:=by
 cases b with
 |arr e sz rows=>rfl
 |box cells=>
  simp only[Blk.Rq,List.all_eq_true]at h
  simp only[Blk.ren]
  congr 1
  conv=>rhs;rw[←List.map_id cells]
  refine List.map_congr_left fun c hc=>?_
  have:=h c hc
  cases c<;>simp_all [C.isD,C.ren]
 |map ents=>simp only[Blk.ren];rw[Kw h]
theorem Blk.Tu{b:Blk}(h:b.Rq=true)(H:BX):b.live H:=by
 cases b with
 |arr e sz rows=>trivial
 |box cells=>
  simp only[Blk.Rq,List.all_eq_true]at h
  intro c hc
  have:=h c hc
  cases c<;>simp_all [C.isD,C.live]
 |map ents=>exact Fi h H
def inA(h:List (Option Blk)):List Nat→List (Option Blk)→Prop
 |[],[]=>True
 |j::ρ,some b::H=>(hp h j=some b∧b.Rq=true)∧inA h ρ H
 |_,_=>False
theorem Ss{h:List (Option Blk)}:∀{ρ:List Nat} {H:List (Option Blk)},inA h ρ H→ρ.length=H.length∧∀(k:Nat),k<H.length→∃j b,ρ[k]? =some j∧hp H k=some b∧hp h j=some b∧b.Rq=true
 |[],[],_=>⟨rfl,fun k hk=>by simp at hk⟩
 |j::ρ,some b::H,⟨⟨h1,h0⟩,h2⟩=>by
  obtain⟨g1,g2⟩:=Ss h2
  refine⟨by simp[g1],fun k hk=>?_⟩
  cases k with
  |zero=>exact⟨j,b,rfl,rfl,h1,h0⟩
  |succ k=>
   obtain⟨j',b',q1,q2,q3⟩:=g2 k (by simpa using hk)
   exact⟨j',b',by simpa using q1,by rw[EV];exact q2,q3⟩
 |j::ρ,none::H,h=>h.elim
 |[],_::_,h=>h.elim
 |_::_,[],h=>h.elim
theorem Ty{P:Program}{f:FuncId}{as':List A1}{H H':List (Option Blk)}{res:AV}(ρ:List Nat){as:List A1}{s:St}{K:Out→Prop}
 (hc:An P f as' H res H') (has:as=as'.map (A1.ren (rn ρ s.heap.length))) (hlive:∀a∈as',a.live (hp H))
 (hin:inA s.heap ρ H) (hnd:ρ.Nodup) (hK:K ⟨some (res.ren (rn ρ s.heap.length)),Dn 0 H' (rn ρ s.heap.length)⟩):J0 P f as s K:=by
 obtain⟨hlen,hg⟩:=Ss hin
 refine⟨_,Kz ρ hc has hlive hlen (fun k hk=>?_) (fun i j k hi hj=>?_) (fun k blk hb=>?_) rfl,hK⟩
 ·obtain⟨j,b,q1,q2,q3⟩:=hg k hk
  rw[q2];simp
 ·exact(List.getElem?_inj (List.getElem?_eq_some_iff.1 hi).1 hnd).1 (hi.trans hj.symm)
 ·have hk:k<H.length:=by
   by_cases hlt:k<H.length
   ·exact hlt
   ·simp[hp,List.getElem?_eq_none (by omega:H.length≤k)]at hb
  obtain⟨j,b,q1,q2,q3,q4⟩:=hg k hk
  rw[q2]at hb;cases hb
  rw[Blk.Vh q4]
  refine⟨?_,Blk.Tu q4 _⟩
  simp only[rn,q1]
  exact q3
end Go.Fw
namespace Go.Fw
theorem Gk{G:BX}:∀{cs:List C} {K K':List C→Prop},(∀x,K x→K' x)→Fs G cs K→Fs G cs K'
 |[],_,_,hi,h=>hi _ h
 | .d x::cs,K,K',hi,h=>by
   have h':Fs G cs fun ds=>K (.d (nrm x)::ds):=h
   exact Gk (cs:=cs) (K':=fun ds=>K' (.d (nrm x)::ds)) (fun ds=>hi _) h'
 | .own id ep off len cap::cs,K,K',hi,h=>by
   simp only[Fs]at h⊢
   split at h
   ·exact⟨h.1,h.2.1,Gk (fun ds=>hi _) h.2.2⟩
   ·exact h.elim
 | .fn f []::cs,K,K',hi,h=>by
   have h':Fs G cs fun ds=>K (.fn f []::ds):=h
   exact Gk (cs:=cs) (K':=fun ds=>K' (.fn f []::ds)) (fun ds=>hi _) h'
 | .pt _ _::_,_,_,_,h=>h.elim
 | .pe _ _ _ _::_,_,_,_,h=>h.elim
 | .fp _::_,_,_,_,h=>h.elim
 | .fn _ (_::_)::_,_,_,_,h=>h.elim
 | .mref _::_,_,_,_,h=>h.elim
theorem IY{G:BX}:∀{as:List A1} {K K':List A1→Prop},(∀x,K x→K' x)→Fm G as K→Fm G as K'
 |[],_,_,hi,h=>hi _ h
 | .c x::r,K,K',hi,h=>by
   refine Gk (cs:=[x]) (fun ds hd=>?_) h
   split at hd
   ·exact IY (fun as=>hi _) hd
   ·exact hd.elim
 | .agg cs::r,K,K',hi,h=>by
   refine Gk (cs:=cs) (fun ds hd=>?_) h
   exact IY (fun as=>hi _) hd
theorem D8{P:Program}{f:FuncId}{as as':List A1}{s:St}{K:Out→Prop}{res:AV}(hc:An P f as' [] res [])(hb:Fm (hp s.heap) as (·=as'))(hpl:res.plain=true)(hK:K ⟨some res,[]⟩):J0 P f as s K:=
 ⟨_,Vs (IY (fun x hx=>by subst hx;exact⟨res,hc,hpl,rfl⟩) hb),hK⟩
def D.flat:D→Bool
 | .v _=>true
 |_=>false
def C.flat:C→Bool
 | .d x=>x.flat
 | .fp _=>false
 |_=>true
def A1.flat:A1→Bool
 | .c x=>x.flat
 | .agg cs=>cs.all C.flat
def AV.flat:AV→Bool
 | .one a=>a.flat
 | .tup l=>l.all A1.flat
section
variable {φ:Phi} {F F':Nat→Prop} {G:BX} {w:World}
theorem Bz.flat{d:D}{v:Value}(hf:d.flat=true)(h:Bz w F d v):Bz w F' d v:=by
 cases h with
 |v _ hx=>exact .v _ hx
 |nil=>simp[D.flat]at hf
 |sl=>simp[D.flat]at hf
theorem Ci.flat{c:C}{v:Value}(hf:c.flat=true)(h:Ci φ F G w c v):Ci φ F' G w c v:=by
 cases c with
 |d x=>exact Bz.flat hf h
 |fp _=>simp[C.flat]at hf
 |_=>exact h
theorem Cg.flat{cs:List C}{vs:List Value}(hf:cs.all C.flat=true)(h:Cg φ F G w cs vs):Cg φ F' G w cs vs:=by
 induction h with
 |nil=>exact .nil
 |cons x _ ih=>
  simp only[List.all_cons,Bool.and_eq_true]at hf
  exact .cons (Ci.flat hf.1 x) (ih hf.2)
theorem A7.flat{a:A1}{v:Value}(hf:a.flat=true)(h:A7 φ F G w a v):A7 φ F' G w a v:=by
 cases a with
 |c x=>exact Ci.flat hf h
 |agg cs=>obtain⟨vs,rfl,h⟩:=h;exact⟨vs,rfl,Cg.flat hf h⟩
theorem B5.flat{a:AV}{v:Value}(hf:a.flat=true)(h:B5 φ F G w a v):B5 φ F' G w a v:=by
 cases a with
 |one x=>exact A7.flat hf h
 |tup l=>
  obtain⟨vs,rfl,h⟩:=h
  refine⟨vs,rfl,?_⟩
  simp only[AV.flat]at hf
  induction h with
  |nil=>exact .nil
  |cons x _ ih=>
   simp only[List.all_cons,Bool.and_eq_true]at hf
   exact .cons (A7.flat hf.1 x) (ih hf.2)
end
end Go.Fw
namespace Go.Fw
abbrev Src:=List (Option Nat)
def IC(σ:Src)(φ:Phi):Phi:=fun k=>((σ[k]?).join).bind φ
def ML(σ:Src)(φ:Phi)(F:Nat→Prop):Nat→Prop:=fun b=>F b∨∃j o,φ j=some (b,o)∧∀k:Nat,σ[k]?≠some (some j)
def Gp(rows:List (List D))(off len:Nat)(R:List (List D)):Prop:=R=(rows.drop off).take len
theorem C.Ig{φ φ':Phi}{F F':Nat→Prop}{G G':BX}{w w':World}(hm:∀b,F b→F' b∧w'.heap[b]? =w.heap[b]?){c:C}{v:Value}(hd:c.EA=true)(h:Ci φ F G w c v):Ci φ' F' G' w' c v:=by
 cases c with
 |d x=>exact Bz.mono hm h
 |_=>cases hd
theorem A1.Ig{φ φ':Phi}{F F':Nat→Prop}{G G':BX}{w w':World}(hm:∀b,F b→F' b∧w'.heap[b]? =w.heap[b]?){c:A1}{v:Value}(hd:c.EA=true)(h:A7 φ F G w c v):A7 φ' F' G' w' c v:=by
 cases c with
 |c x=>exact C.Ig hm hd h
 |agg cs=>
  obtain⟨vs,rfl,h⟩:=h
  simp only[A1.EA,List.all_eq_true]at hd
  refine⟨vs,rfl,?_⟩
  unfold Cg at*
  induction h with
  |nil=>exact .nil
  |cons a _ ih=>exact .cons (C.Ig hm (hd _ (List.mem_cons_self ..)) a) (ih fun c hc=>hd c (List.mem_cons_of_mem _ hc))
theorem Rp{φ φ':Phi}{F F':Nat→Prop}{G G':BX}{w w':World}(hm:∀b,F b→F' b∧w'.heap[b]? =w.heap[b]?){ents:List (Value×A1)}{es:List MapEntry}(hd:EK ents=true)(h:Bb (fun(e:Value×A1) (m:MapEntry)=>m.key=e.1∧A7 φ F G w e.2 m.val) ents es):
 Bb (fun(e:Value×A1) (m:MapEntry)=>m.key=e.1∧A7 φ' F' G' w' e.2 m.val) ents es:=by
 simp only[EK,List.all_eq_true]at hd
 induction h with
 |nil=>exact .nil
 |cons a _ ih=>exact .cons ⟨a.1,A1.Ig hm (hd _ (List.mem_cons_self ..)) a.2⟩ (ih fun c hc=>hd c (List.mem_cons_of_mem _ hc))
def Iv(j:Nat):Src→Bool
 |[]=>true
 |some i::r=>(i !=j)&&Iv j r
 |none::r=>Iv j r
theorem Gb{j:Nat}:∀{σ:Src},Iv j σ=true→∀k:Nat,σ[k]?≠some (some j)
 |[],_,k=>by simp
 |some i::r,h,k=>by
  simp only[Iv,Bool.and_eq_true,bne_iff_ne]at h
  cases k with
  |zero=>simpa using h.1
  |succ k=>simpa using Gb h.2 k
 |none::r,h,k=>by
  cases k with
  |zero=>simp
  |succ k=>simpa using Gb (σ:=r) h k
def J9(σ:Src)(H':List (Option Blk)):List (Nat×Nat)→List (Nat×Nat)→Prop
 |[],[]=>True
 |(k,o')::r',(j,o)::r=>(σ[k]? =some (some j)∧o'=o∧match hp H' k with|some (.box _)=>True|_=>False)∧J9 σ H' r' r
 |_,_=>False
def shC(h:List (Option Blk))(σ:Src)(H':List (Option Blk)):C→C→Prop
 | .d x,.d y=>x=y∨x=nrm y
 | .d (.sl R),.own j ep off len _=>Iv j σ=true∧match hp h j with
   |some (.arr e _ rows)=>ep=e∧off+len≤rows.length∧Gp rows off len R
   |_=>False
 | .own k ep' off' len' cap',.d (.v (.slice none 0 0))=>(σ[k]? =some none∧off'=0∧len'=0∧cap'=none)∧match hp H' k with
   |some (.arr e' _ _)=>ep'=e'
   |_=>False
 | .own k ep' _ _ (some _),.own _ _ _ _ _=>match hp H' k with
   |some (.arr e' _ _)=>ep'<e'
   |_=>False
 | .own k ep' off' len' none,.own j ep off len _=>(σ[k]? =some (some j)∧off'=off∧len'=len)∧match hp h j with
   |some (.arr e _ _)=>ep=e∧match hp H' k with
    |some (.arr e' _ rows)=>ep'=e'∧off'+len'≤rows.length
    |_=>False
   |_=>False
 | .pt k off',.pt j off=>(σ[k]? =some (some j)∧off'=off)∧match hp H' k with|some (.box _)=>True|_=>False
 | .pe k ep' row' off',.pe j ep row off=>(σ[k]? =some (some j)∧row'=row∧off'=off)∧match hp h j with
   |some (.arr e _ _)=>ep=e∧match hp H' k with
    |some (.arr e' _ rows)=>ep'=e'∧row'<rows.length
    |_=>False
   |_=>False
 | .fp x,.fp y=>x=y
 | .mref k,.mref j=>σ[k]? =some (some j)∧match hp H' k with|some (.map _)=>True|_=>False
 | .fn f' caps',.fn f Dr=>f'=f∧J9 σ H' caps' Dr
 |_,_=>False
def S1(h:List (Option Blk))(σ:Src)(H':List (Option Blk)):List C→List C→Prop
 |[],[]=>True
 |x::l,y::m=>shC h σ H' x y∧S1 h σ H' l m
 |_,_=>False
def shA(h:List (Option Blk))(σ:Src)(H':List (Option Blk)):A1→A1→Prop
 | .c x,.c y=>shC h σ H' x y
 | .agg xs,.agg ys=>S1 h σ H' xs ys
 |_,_=>False
def ON(h:List (Option Blk))(σ:Src)(H':List (Option Blk)):List A1→List A1→Prop
 |[],[]=>True
 |x::l,y::m=>shA h σ H' x y∧ON h σ H' l m
 |_,_=>False
def shV(h:List (Option Blk))(σ:Src)(H':List (Option Blk)):AV→AV→Prop
 | .one x,.one y=>shA h σ H' x y
 | .tup xs,.tup ys=>ON h σ H' xs ys
 |_,_=>False
def Lq(h:List (Option Blk))(σ:Src)(H':List (Option Blk))(s:List (Nat×AV)):List (Nat×AV)→Prop
 |[]=>True
 |(t,v)::l=>(match lk s t with|some u=>shV h σ H' v u|none=>False)∧Lq h σ H' s l
def MH(rows' rows:List (List D)):Prop:=rows'=rows∨∃r,rows'=rows++r
def shB(h:List (Option Blk))(σ:Src)(H':List (Option Blk)):Option Nat→Option Blk→Prop
 |some j,some (.arr _ sz rows)=>match hp h j with
  |some (.arr _ sz' rows')=>sz'=sz∧MH rows' rows
  |_=>False
 |some j,some (.box cells)=>match hp h j with
  |some (.box cells')=>S1 h σ H' cells cells'
  |_=>False
 |some j,some (.map ents)=>match hp h j with
  |some (.map ents')=>ents'=ents∧EK ents=true
  |_=>False
 |none,some (.arr _ _ rows)=>rows=[]
 |none,none=>True
 |_,_=>False
def ID(h:List (Option Blk))(σ0:Src)(H0:List (Option Blk)):Src→List (Option Blk)→Prop
 |[],[]=>True
 |j::σ,b::H'=>shB h σ0 H0 j b∧ID h σ0 H0 σ H'
 |_,_=>False
def Gw(i:Nat)(j:Option Nat):Option Blk→Option Blk→Prop
 |some (.arr e sz rows),some (.arr e' sz' rows')=>e<e'∨(e=e'∧sz'=sz∧rows.length≤rows'.length∧j=some i)
 |some (.box _),some (.box _)=>j=some i
 |some (.map _),some (.map _)=>j=some i
 |none,_=>True
 |_,_=>False
def Iw:Nat→List (Option Blk)→Src→List (Option Blk)→Prop
 |_,[],_,_=>True
 |i,b::h,j::σ,b'::H'=>Gw i j b b'∧Iw (i+1) h σ H'
 |_,_,_,_=>False
theorem Ls{h:List (Option Blk)}{σ0:Src}{H0:List (Option Blk)}:∀{σ:Src} {H':List (Option Blk)},ID h σ0 H0 σ H'→σ.length=H'.length∧∀(k:Nat) j,σ[k]? =some j→∃b,H'[k]? =some b∧shB h σ0 H0 j b
 |[],[],_=>⟨rfl,fun k j hk=>by simp at hk⟩
 |j::σ,b::H',⟨h1,h2⟩=>by
  obtain⟨g1,g2⟩:=Ls h2
  refine⟨by simp[g1],fun k j' hk=>?_⟩
  cases k with
  |zero=>simp at hk;subst hk;exact⟨b,rfl,h1⟩
  |succ k=>simpa using g2 k j' (by simpa using hk)
 |[],_::_,h=>h.elim
 |_::_,[],h=>h.elim
theorem Ni:∀{i:Nat} {h:List (Option Blk)} {σ:Src} {H':List (Option Blk)},Iw i h σ H'→∀(k:Nat) b,h[k]? =some b→∃j b',σ[k]? =some j∧H'[k]? =some b'∧Gw (i+k) j b b'
 |i,[],_,_,_,k,b,hk=>by simp at hk
 |i,b::h,j::σ,b'::H',⟨h1,h2⟩,k,x,hk=>by
  cases k with
  |zero=>simp at hk;subst hk;exact⟨j,b',rfl,rfl,h1⟩
  |succ k=>
   obtain⟨j2,b2,q1,q2,q3⟩:=Ni h2 k x (by simpa using hk)
   exact⟨j2,b2,by simpa using q1,by simpa using q2,by rw[show i+(k+1)=i+1+k by omega];exact q3⟩
 |_,_::_,[],_,h,_,_,_=>h.elim
 |_,_::_,_::_,[],h,_,_,_=>h.elim
section
variable {φ:Phi} {F:Nat→Prop} {w:World} {h H':List (Option Blk)} {σ:Src}
theorem CX{k j:Nat}(hk:σ[k]? =some (some j)):IC σ φ k=φ j:=by simp[IC,hk]
theorem SR{k:Nat}(hk:σ[k]? =some none):IC σ φ k=none:=by simp[IC,hk]
theorem FP{k:Nat}{x}(hx:IC σ φ k=some x):∃j,σ[k]? =some (some j)∧φ j=some x:=by
 simp only[IC,Option.bind_eq_some_iff]at hx
 obtain⟨j,hj,hx⟩:=hx
 refine⟨j,?_,hx⟩
 cases hs:σ[k]? with
 |none=>simp[hs]at hj
 |some y=>simp[hs]at hj;rw[hj]
theorem Yx{k:Nat}{b:Option Blk}{x:Option Blk}(hb:H'[k]? =some b)(hx:hp H' k=x):b=x:=by
 rw[←hx];simp[hp,hb]
theorem RS(hr:Rel φ F (hp h) w)(hB:ID h σ H' σ H'){c' c:C}{v:Value}(hs:shC h σ H' c' c)(hc:Ci φ F (hp h) w c v):Ci (IC σ φ) (ML σ φ F) (hp H') w c' v:=by
 obtain⟨hlen,hB⟩:=Ls hB
 unfold shC at hs
 split at hs
 ·rcases hs with rfl|rfl
  ·exact Bz.mono (fun b hb=>⟨.inl hb,rfl⟩) hc
  ·exact Bz.mono (fun b hb=>⟨.inl hb,rfl⟩) (Ju hc)
 ·rename_i R j ep off len cap
  obtain⟨hno,hs⟩:=hs
  split at hs
  ·rename_i e sz rows hG
   obtain⟨rfl,hl,rfl⟩:=hs
   exact Ci.frozen hr hG hc hl (fun b hb=> .inl hb) (fun b o hb=> .inr ⟨j,o,hb,Gb hno⟩)
  ·exact hs.elim
 ·rename_i k ep' off' len' cap'
  obtain⟨⟨hk,rfl,rfl,rfl⟩,hs⟩:=hs
  split at hs
  ·rename_i e' sz rows hH
   subst hs
   have hv:v= .slice none 0 0:=by cases hc;rfl
   subst hv
   exact⟨ep',sz,rows,hH,Nat.le_refl _,none,0,0,rfl,fun _=>⟨rfl,Nat.le_refl _,(fun c hc=>by cases hc),(fun _=>by omega),.inl rfl⟩⟩
  ·exact hs.elim
 ·rename_i k ep' off' len' cap' j ep off len cap
  split at hs
  ·rename_i e' sz' rows' hH
   obtain⟨e,sz,rows,hG,hle,A,l,k2,rfl,hA⟩:=hc
   exact⟨e',sz',rows',hH,Nat.le_of_lt hs,A,l,k2,rfl,fun he=>absurd he (Nat.ne_of_lt hs)⟩
  ·exact hs.elim
 ·rename_i k ep' off' len' j ep off len cap
  obtain⟨⟨hk,rfl,rfl⟩,hs⟩:=hs
  obtain⟨e,sz,rows,hG,hle,A,l,k2,rfl,hA⟩:=hc
  rw[hG]at hs
  obtain⟨rfl,hs⟩:=hs
  split at hs
  ·rename_i e' sz' rows' hH
   obtain⟨rfl,hlen'⟩:=hs
   obtain⟨b,hb,hb2⟩:=hB k _ hk
   have hb':=Yx hb hH
   subst hb'
   simp only[shB,hG]at hb2
   obtain⟨rfl,_⟩:=hb2
   obtain⟨rfl,g1,g2,g3,g4⟩:=hA rfl
   refine⟨ep',sz,rows',hH,Nat.le_refl _,A,l,k2,rfl,fun _=>⟨rfl,g1,(fun c hc=>by cases hc),fun _=>hlen',?_⟩⟩
   rcases g4 with g4|⟨b,o,n,q1,q2⟩
   ·exact .inl g4
   ·exact .inr ⟨b,o,n,by rw[CX hk,q1],q2⟩
  ·exact hs.elim
 ·rename_i k off' j off
  obtain⟨⟨hk,rfl⟩,hs⟩:=hs
  obtain⟨cells,b,o,q1,q2,q3⟩:=hc
  split at hs
  ·rename_i cells' hH
   exact⟨cells',b,o,hH,by rw[CX hk,q2],q3⟩
  ·exact hs.elim
 ·rename_i k ep' row' off' j ep row off
  obtain⟨⟨hk,rfl,rfl⟩,hs⟩:=hs
  obtain⟨e,sz,rows,hG,hle,A,rfl,hA⟩:=hc
  rw[hG]at hs
  obtain⟨rfl,hs⟩:=hs
  split at hs
  ·rename_i e' sz' rows' hH
   obtain⟨rfl,hrow⟩:=hs
   obtain⟨b,hb,hb2⟩:=hB k _ hk
   have hb':=Yx hb hH
   subst hb'
   simp only[shB,hG]at hb2
   obtain⟨rfl,_⟩:=hb2
   obtain⟨b,o,q1,q2,q3⟩:=hA rfl
   exact⟨ep',sz,rows',hH,Nat.le_refl _,A,rfl,fun _=>⟨b,o,by rw[CX hk,q1],hrow,q3⟩⟩
  ·exact hs.elim
 ·subst hs
  obtain⟨b,o,q1,rfl,q3⟩:=hc
  exact⟨b,o,.inl q1,rfl,fun j d hd=>by obtain⟨u,hu,hd⟩:=q3 j d hd;exact⟨u,hu,Bz.mono (fun b hb=>⟨.inl hb,rfl⟩) hd⟩⟩
 ·rename_i k j
  obtain⟨hk,hs⟩:=hs
  obtain⟨ents,b,q1,q2,q3⟩:=hc
  split at hs
  ·rename_i ents' hH
   exact⟨ents',b,hH,by rw[CX hk,q2],q3⟩
  ·exact hs.elim
 ·rename_i f' caps' f Dr
  obtain⟨rfl,hs⟩:=hs
  obtain⟨us,rfl,hl,hus⟩:=hc
  have key:∀(caps' Dr:List (Nat×Nat)),J9 σ H' caps' Dr→caps'.length=Dr.length∧∀(i:Nat) c',caps'[i]? =some c'→∃c,Dr[i]? =some c∧σ[c'.1]? =some (some c.1)∧c'.2=c.2∧∃cells,hp H' c'.1=some (.box cells):=by
   intro caps'
   induction caps' with
   |nil=>intro Dr hc;cases Dr with
    |nil=>exact⟨rfl,fun i c hi=>by simp at hi⟩
    |cons _ _=>exact hc.elim
   |cons x r ih=>
    intro Dr hc
    cases Dr with
    |nil=>exact hc.elim
    |cons y r'=>
     obtain⟨⟨q1,q2,q3⟩,q4⟩:=hc
     obtain⟨g1,g2⟩:=ih r' q4
     refine⟨by simp[g1],fun i c hi=>?_⟩
     cases i with
     |zero=>
      simp at hi;subst hi
      split at q3
      ·rename_i cells hH;exact⟨y,rfl,q1,q2,cells,hH⟩
      ·exact q3.elim
     |succ i=>simpa using g2 i c (by simpa using hi)
  obtain⟨k1,k2⟩:=key _ _ hs
  refine⟨us,rfl,by rw[k1];exact hl,fun i c' hc'=>?_⟩
  obtain⟨c,g1,g2,g3,cells,g4⟩:=k2 i c' hc'
  obtain⟨cells0,b,o,q1,q2,q3⟩:=hus i c g1
  exact⟨cells,b,o,g4,by rw[CX g2,q2],by rw[g3];exact q3⟩
 ·exact hs.elim
theorem Lr(hr:Rel φ F (hp h) w)(hB:ID h σ H' σ H'):∀{cs' cs:List C} {vs:List Value},S1 h σ H' cs' cs→Cg φ F (hp h) w cs vs→Cg (IC σ φ) (ML σ φ F) (hp H') w cs' vs
 |[],[],vs,_,hc=>by cases hc;exact .nil
 |x::l,y::m,vs,⟨h1,h2⟩,hc=>by
  cases hc with
  |cons a b=>exact .cons (RS hr hB h1 a) (Lr hr hB h2 b)
 |[],_::_,_,h,_=>h.elim
 |_::_,[],_,h,_=>h.elim
theorem RT(hr:Rel φ F (hp h) w)(hB:ID h σ H' σ H'){c' c:A1}{v:Value}(hs:shA h σ H' c' c)(hc:A7 φ F (hp h) w c v):A7 (IC σ φ) (ML σ φ F) (hp H') w c' v:=by
 cases c'<;>cases c
 ·exact RS hr hB hs hc
 ·exact hs.elim
 ·exact hs.elim
 ·obtain⟨vs,rfl,hc⟩:=hc;exact⟨vs,rfl,Lr hr hB hs hc⟩
theorem I9(hr:Rel φ F (hp h) w)(hB:ID h σ H' σ H'):∀{cs' cs:List A1} {vs:List Value},ON h σ H' cs' cs→Bb (A7 φ F (hp h) w) cs vs→Bb (A7 (IC σ φ) (ML σ φ F) (hp H') w) cs' vs
 |[],[],vs,_,hc=>by cases hc;exact .nil
 |x::l,y::m,vs,⟨h1,h2⟩,hc=>by
  cases hc with
  |cons a b=>exact .cons (RT hr hB h1 a) (I9 hr hB h2 b)
 |[],_::_,_,h,_=>h.elim
 |_::_,[],_,h,_=>h.elim
theorem Wh(hr:Rel φ F (hp h) w)(hB:ID h σ H' σ H'){c' c:AV}{v:Value}(hs:shV h σ H' c' c)(hc:B5 φ F (hp h) w c v):B5 (IC σ φ) (ML σ φ F) (hp H') w c' v:=by
 cases c'<;>cases c
 ·exact RT hr hB hs hc
 ·exact hs.elim
 ·exact hs.elim
 ·obtain⟨vs,rfl,hc⟩:=hc;exact⟨vs,rfl,I9 hr hB hs hc⟩
def FF:Src→Bool
 |[]=>true
 |none::r=>FF r
 |some j::r=>Iv j r&&FF r
theorem IM:∀{σ:Src},FF σ=true→∀{i k j:Nat},σ[i]? =some (some j)→σ[k]? =some (some j)→i=k
 |[],_,i,k,j,h1,_=>by simp at h1
 |none::r,hn,i,k,j,h1,h2=>by
  cases i with
  |zero=>simp at h1
  |succ i=>cases k with
   |zero=>simp at h2
   |succ k=>exact congrArg (·+1) (IM (σ:=r) hn (by simpa using h1) (by simpa using h2))
 |some x::r,hn,i,k,j,h1,h2=>by
  simp only[FF,Bool.and_eq_true]at hn
  cases i with
  |zero=>cases k with
   |zero=>rfl
   |succ k=>simp at h1;subst h1;exact(Gb hn.1 k (by simpa using h2)).elim
  |succ i=>cases k with
   |zero=>simp at h2;subst h2;exact(Gb hn.1 i (by simpa using h1)).elim
   |succ k=>exact congrArg (·+1) (IM hn.2 (by simpa using h1) (by simpa using h2))
theorem NJ{m:Nat}(hr:Rel φ F (hp h) w)(hB:ID h σ H' σ H')(hn:FF σ=true)(hk:Iw 0 (h.take m) σ H'):
 Rel (IC σ φ) (ML σ φ F) (hp H') w∧Fr φ F w (IC σ φ) (ML σ φ F) w∧Ep m φ F (hp h) w (IC σ φ) (ML σ φ F) (hp H') w:=by
 obtain⟨hlen,hB'⟩:=Ls hB
 have mono:∀b,F b→ML σ φ F b∧w.heap[b]? =w.heap[b]? :=fun b hb=>⟨.inl hb,rfl⟩
 refine⟨⟨fun k blk hb=>?_,fun k x hx=>?_,fun i j b o b' o' hi hj hbb=>?_,fun b hb=>?_⟩,⟨Nat.le_refl _,fun _ _ _=>rfl,fun k b o hi=>?_,fun b hb=>?_,Io.refl _⟩,⟨fun b hb=>⟨.inl hb,rfl⟩,fun i hi=>?_⟩⟩
 ·have hkl:k<σ.length:=by
   rw[hlen]
   by_cases hlt:k<H'.length
   ·exact hlt
   ·simp[hp,List.getElem?_eq_none (by omega:H'.length≤k)]at hb
  have hj:σ[k]? =some σ[k]:=List.getElem?_eq_getElem hkl
  obtain⟨b,hb1,hb2⟩:=hB' k _ hj
  have:b=some blk:=by rw[←hb];simp[hp,hb1]
  subst this
  cases hs:σ[k]with
  |none=>
   rw[hs]at hb2 hj
   cases blk with
   |arr e sz rows=>exact .inl ⟨SR hj,hb2⟩
   |box cells=>exact hb2.elim
   |map ents=>exact hb2.elim
  |some j=>
   rw[hs]at hb2 hj
   cases blk with
   |arr e sz rows=>
    simp only[shB]at hb2
    split at hb2
    ·rename_i e' sz' rows' hG
     obtain⟨rfl,hrows⟩:=hb2
     obtain⟨r,rfl⟩:∃r,rows'=rows++r:=by
      rcases hrows with rfl|h
      ·exact⟨[],by simp⟩
      ·exact h
     have:=hr.blk _ _ hG
     rcases this with⟨q1,q2⟩|⟨b,o,cs,T,q1,q2,q3,q4,q5⟩
     ·exact .inl ⟨by rw[CX hj,q1],(List.append_eq_nil_iff.1 q2).1⟩
     ·refine .inr ⟨b,o,cs,T,by rw[CX hj,q1],q2,?_,fun row hrow=>q4 row (List.mem_append_left _ hrow),fun i row hi j d hd=>?_⟩
      ·rw[List.length_append,Nat.add_mul]at q3;omega
      ·obtain⟨u,hu,hd⟩:=q5 i row (by rw[List.getElem?_append_left (List.getElem?_eq_some_iff.1 hi).1];exact hi) j d hd
       exact⟨u,hu,hd.mono mono⟩
    ·exact hb2.elim
   |box cells=>
    simp only[shB]at hb2
    split at hb2
    ·rename_i cells' hG
     obtain⟨b,cs,T,q1,q2,q3⟩:=hr.blk _ _ hG
     exact⟨b,cs,T,by rw[CX hj,q1],q2,Lr hr hB hb2 q3⟩
    ·exact hb2.elim
   |map ents=>
    simp only[shB]at hb2
    split at hb2
    ·rename_i ents' hG
     obtain⟨rfl,hd⟩:=hb2
     obtain⟨b,es,clock,q1,q2,q4,q3⟩:=hr.blk _ _ hG
     exact⟨b,es,clock,by rw[CX hj,q1],q2,q4,Rp mono hd q3⟩
    ·exact hb2.elim
 ·obtain⟨j,hj,_⟩:=FP hx
  obtain⟨b,hb1,hb2⟩:=hB' k _ hj
  cases b with
  |none=>exact hb2.elim
  |some b=>simp[hp,hb1]
 ·obtain⟨i',hi1,hi2⟩:=FP hi
  obtain⟨j',hj1,hj2⟩:=FP hj
  have:=hr.inj i' j' b o b' o' hi2 hj2 hbb
  subst this
  exact IM hn hi1 hj1
 ·rcases hb with hb|⟨j0,o0,hj0,hno⟩
  ·refine⟨(hr.frz b hb).1,fun k b' o hi=>?_⟩
   obtain⟨j,_,hj⟩:=FP hi
   exact(hr.frz b hb).2 j b' o hj
  ·refine⟨hr.lt hj0,fun k b' o hi hbb=>?_⟩
   obtain⟨j,hk,hj⟩:=FP hi
   have:=hr.inj j j0 b' o b o0 hj hj0 hbb
   subst this
   exact hno k hk
 ·obtain⟨j,_,hj⟩:=FP hi
  exact .inl ⟨j,o,hj⟩
 ·rcases hb with hb|⟨j,o,hj,_⟩
  ·exact .inl hb
  ·exact .inr (.inl ⟨j,o,hj⟩)
 ·cases hg:hp h i with
  |none=>trivial
  |some blk=>
   have hi':(h.take m)[i]? =some (some blk):=by
    rw[List.getElem?_take,if_pos hi]
    simp only[hp]at hg
    cases hx:h[i]? with
    |none=>simp[hx]at hg
    |some y=>simp[hx]at hg;rw[hg]
   obtain⟨j,b',hj,hb',hk1⟩:=Ni hk i _ hi'
   have hH:hp H' i=b':=by simp[hp,hb']
   obtain⟨b2,hb2,hb3⟩:=hB' i j hj
   rw[hb']at hb2
   cases hb2
   rw[hH]
   rw[Nat.zero_add]at hk1
   cases blk with
   |arr e sz rows=>
    cases b' with
    |none=>exact hk1.elim
    |some b'=>cases b' with
     |box _=>exact hk1.elim
     |map _=>exact hk1.elim
     |arr e' sz' rows'=>
      simp only[Gw]at hk1
      rcases hk1 with hlt|⟨rfl,rfl,hl,rfl⟩
      ·exact⟨by omega,fun he=>by omega⟩
      ·exact⟨Nat.le_refl _,fun _=>⟨rfl,hl,by rw[CX hj],fun _ _ _=>rfl⟩⟩
   |box cells=>
    cases b' with
    |none=>exact hk1.elim
    |some b'=>cases b' with
     |arr _ _ _=>exact hk1.elim
     |map _=>exact hk1.elim
     |box _=>
      simp only[Gw]at hk1
      subst hk1
      simp[DV,CX hj]
   |map ents=>
    cases b' with
    |none=>exact hk1.elim
    |some b'=>cases b' with
     |arr _ _ _=>exact hk1.elim
     |box _=>exact hk1.elim
     |map _=>
      simp only[Gw]at hk1
      subst hk1
      simp[DV,CX hj]
end
theorem OM{h:List (Option Blk)}{σ:Src}{H':List (Option Blk)}{s:List (Nat×AV)}:∀{sl:List (Nat×AV)},Lq h σ H' s sl→∀t v,lk sl t=some v→∃u,lk s t=some u∧shV h σ H' v u
 |[],_,t,v,hl=>by cases hl
 |(t0,v0)::l,⟨h1,h2⟩,t,v,hl=>by
  simp only[lk]at hl
  split at hl
  ·rename_i he
   subst he;cases hl
   split at h1
   ·rename_i u hu;exact⟨u,hu,h1⟩
   ·exact h1.elim
  ·exact OM h2 t v hl
structure Sh(m:Nat)(h:List (Option Blk))(σ:Src)(H':List (Option Blk)):Prop where
 B:ID h σ H' σ H'
 n:FF σ=true
 k:Iw 0 (h.take m) σ H'
theorem View.sh{n m:Nat}{s:St}{sl:List (Nat×AV)}{H':List (Option Blk)}(σ:Src)(hS:Sh m s.heap σ H')(hs:Lq s.heap σ H' s.Ak sl):View n m s ⟨sl,H'⟩:=by
 intro φ F a w hrel
 obtain⟨h1,h2,h3⟩:=NJ (m:=m) hrel.rel hS.B hS.n hS.k
 refine⟨_,_,⟨hrel.size,hrel.defers,h1,fun t av ht=>?_⟩,h2,h3⟩
 obtain⟨u,hu,hv⟩:=OM hs t av ht
 exact Wh hrel.rel hS.B hv (hrel.slot t u hu)
theorem XM{m:Nat}{h:List (Option Blk)}{l res:List A1}{H':List (Option Blk)}(σ:Src)(hS:Sh m h σ H')(hs:ON h σ H' res l):Fin m h l res H':=by
 intro φ F w vs hr hA
 obtain⟨h1,h2,h3⟩:=NJ (m:=m) hr hS.B hS.n hS.k
 exact⟨_,_,h1,I9 hr hS.B hs hA,h2,h3⟩
end Go.Fw
namespace Go.Fw
def Yb(n m:Nat)(R:St→Prop)(Q:XT→St→Prop):XT→St→Prop
 | .normal,s'=>∃s'',View n m s' s''∧R s''
 |x,s'=>Q x s'
noncomputable def sM:=shut @Yb
theorem R4:@sM=@Yb:=Dj _
section
variable {P:Program} {n m:Nat} {Q:XT→St→Prop} {s:St} {a b:AC} {k:List Frm} {R:St→Prop}
theorem Tc{i:Nat}:sM n m R Q (.exit i) s=Q (.exit i) s:=by rw[R4];rfl
theorem UF:sM n m R Q .ret s=Q .ret s:=by rw[R4];rfl
theorem Xx:sM n m R Q .normal s=∃s'',View n m s s''∧R s'':=by rw[R4];rfl
theorem AB(R:St→Prop)(h1:sK P n m a [] (sM n m R (sU P n m k Q)) s)(h2:∀s',R s'→sN P n m k Q s'):WpC P n m a (sU P n m k Q) s:=by
 rw[OX,OP,R4]at h1
 rw[OP]
 refine T5 h1 fun e s' hq=>?_
 cases e with
 |normal=>
  obtain⟨s'',hv,hR⟩:=hq
  have:=h2 s'' hR
  rw[WW]at this
  exact⟨s'',hv,this⟩
 |exit i=>exact⟨s',View.refl _ _ _,hq⟩
 |ret=>exact⟨s',View.refl _ _ _,hq⟩
theorem YR{s':St}{sl:List (Nat×AV)}{H':List (Option Blk)}(σ:Src)(hS:Sh m s'.heap σ H')(hs:Lq s'.heap σ H' s'.Ak sl)(hR:R ⟨sl,H'⟩):sM n m R Q .normal s':=by
 rw[Xx];exact⟨_,View.sh σ hS hs,hR⟩
theorem YS{I:Nat→St→Prop}{j:Nat}(k':Nat){s':St}{sl:List (Nat×AV)}{H':List (Option Blk)}(hk:k'<j)(σ:Src)(hS:Sh m s'.heap σ H')(hs:Lq s'.heap σ H' s'.Ak sl)(hI:I k' ⟨sl,H'⟩):sL n m I j Q .normal s':=
 Xt ⟨k',_,hk,View.sh σ hS hs,hI⟩
theorem YT{body:AC}(I:Nat→St→Prop)(k0:Nat){sl:List (Nat×AV)}{H':List (Option Blk)}(σ:Src)(hS:Sh m s.heap σ H')(hs:Lq s.heap σ H' s.Ak sl)(hI:I k0 ⟨sl,H'⟩)
 (hr:∀j s,I j s→sK P n m body [] (sL n m I j (sU P n m k Q)) s):WpC P n m (.loop body) (sU P n m k Q) s:=
 Yk I ⟨k0,_,View.sh σ hS hs,hI⟩ hr
theorem Yq{t:Bool}(h1:t=true→sK P n m a k Q s)(h0:¬t=true→sK P n m b k Q s):sC P n m t a b k Q s:=by
 cases t with
 |true=>rw[Q0];exact h1 rfl
 |false=>rw[Q1];exact h0 (by simp)
end
section
variable {P:Program} {dst:Option Nat} {op:AOp} {bef:List Nat} {lone:Lone} {r:List B6} {s:St} {K:St→Prop} {g:Nat} {want:Bool} {h:List (Option Blk)} {i:Nat} {Ak:List (Nat×AV)} {wl:List (Nat×List (Nat×Blk))}
theorem WG{t:Bool}(h1:t=true→sG P true want dst op r g s K)(h0:¬t=true→sG P false want dst op r g s K):sG P t want dst op r g s K:=by
 cases t with
 |true=>exact h1 rfl
 |false=>exact h0 (by simp)
theorem WH{t:Bool}(h1:t=true→sGD P h true want dst op bef lone r i g Ak wl K)(h0:¬t=true→sGD P h false want dst op bef lone r i g Ak wl K):sGD P h t want dst op bef lone r i g Ak wl K:=by
 cases t with
 |true=>exact h1 rfl
 |false=>exact h0 (by simp)
end
section
variable {P:Program} {dst:Option Nat} {lone:Lone} {r:List B6} {K:St→Prop} {h:List (Option Blk)} {i:Nat} {Ak:List (Nat×AV)} {wl:List (Nat×List (Nat×Blk))}
theorem B3{v:Option AV}{w:Nat×Blk}{wr:List (Nat×Blk)}(h1:∀x∈w::wr,(wrs h (B8 wl)).length≤x.1)(h2:sD P h r (i+1) (Cu Ak dst v) (wl++[(i,w::wr)]) K):sKD P h r i dst lone Ak wl K ⟨v,w::wr⟩:=by
 rw[NL];rw[R6]at h2
 rw[U4]
 exact⟨.inr (.inr ⟨[],.inr rfl,fun x hx=> .inl (h1 x hx)⟩),h2⟩
theorem Rh{v:Option AV}{w:Nat×Blk}{wr:List (Nat×Blk)}{own:List Nat}(h1:∀x∈w::wr,(wrs h (B8 wl)).length≤x.1∨Td h.length wl own x.1=true)(h2:sD P h r (i+1) (Cu Ak dst v) (wl++[(i,w::wr)]) K):sKD P h r i dst (.new own) Ak wl K ⟨v,w::wr⟩:=by
 rw[NL];rw[R6]at h2
 rw[U4]
 exact⟨.inr (.inr ⟨own,.inl rfl,h1⟩),h2⟩
theorem Ts{x:Nat×List (Nat×Blk)}{bef:List Nat}:HF h (x::wl) bef=wrs (h++List.replicate ((wrs h (B8 (x::wl))).length-h.length) none) (KC bef (x::wl)):=rfl
end
def rdI{α:Type}(xs:List α)(j:Int):Option α:=if 0≤j then xs[j.toNat]? else none
def slI{α:Type}(xs:List α)(l h:Int):Option (List α):=if 0≤l∧l≤h∧h≤xs.length then some ((xs.drop l.toNat).take (h.toNat-l.toNat))else none
def byI(b:ByteArray)(j:Int):Option Int:=if 0≤j then(b[j.toNat]?).map fun c=>(c.toNat:Int)else none
def apI{α:Type}(xs ys:List α):Option (List α):=if(xs++ys).length≤4294967290 then some (xs++ys)else none
def KZ(a b:ByteArray):Option ByteArray:=if a.size+b.size≤9223372036854775807 then some (a++b)else none
def ck(p:Prop)[Decidable p]:Option Unit:=if p then some ()else none
theorem AS{p:Prop}[Decidable p]{u:Unit}(h:ck p=some u):p:=by
 unfold ck at h;split at h
 ·assumption
 ·cases h
theorem Bk{α:Type}{xs:List α}{j:Int}{y:α}(h:rdI xs j=some y):0≤j∧xs[j.toNat]? =some y∧j<xs.length:=by
 unfold rdI at h
 split at h
 ·rename_i h0
  have:=(List.getElem?_eq_some_iff.1 h).1
  exact⟨h0,h,by omega⟩
 ·cases h
theorem OL{α:Type}{xs ys:List α}{l h:Int}(e:slI xs l h=some ys):(0≤l∧l≤h∧h≤xs.length)∧ys=(xs.drop l.toNat).take (h.toNat-l.toNat):=by
 unfold slI at e
 split at e
 ·rename_i h0;cases e;exact⟨h0,rfl⟩
 ·cases e
theorem VE{α:Type}{xs ys zs:List α}(e:apI xs ys=some zs):(xs++ys).length≤4294967290∧zs=xs++ys:=by
 unfold apI at e
 split at e
 ·rename_i h0;cases e;exact⟨h0,rfl⟩
 ·cases e
theorem MI.rd{α:Type}{enc:α→List D}{xs:List α}{j:Int}{sz:Nat}{K:Out→Prop}{y:α}(h:rdI xs j=some y)(hs:(enc y).length=sz)(hk:K ⟨some (.one (.c (.fp (enc y)))),[]⟩):
 MI (xs.map enc) j sz K:=by
 obtain⟨h0,h1,_⟩:=Bk h
 exact⟨h0,enc y,by simp[h1],hs,hk⟩
theorem Es.rd{α:Type}{enc:α→List D}{xs:List α}{row off:Nat}{n:Option Nat}{K:Out→Prop}{y:α}(h:xs[row]? =some y)(hk:ldC n (((enc y).drop off).map .d) K):
 Es (xs.map enc) row off n K:=⟨enc y,by simp[h],hk⟩
theorem Fp.rd{α:Type}{enc:α→List D}{xs:List α}{row off n:Nat}{ds:List D}{K:List (List D)→Prop}{y y':α}(h:xs[row]? =some y)(hl:off+n≤(enc y).length)(he:A8 (enc y) off ds=enc y')
 (hk:K ((xs.set row y').map enc)):Fp (xs.map enc) row off n ds K:=
 ⟨enc y,by simp[h],hl,by rw[he,←List.map_set];exact hk⟩
theorem MJ.rd{b:ByteArray}{j c:Int}{K:Out→Prop}(h:byI b j=some c)(hk:K ⟨some (.one (.c (.d (.v (.int .u8 c))))),[]⟩):MJ b j K:=by
 unfold byI at h
 split at h
 ·rename_i h0
  rw[Option.map_eq_some_iff]at h
  obtain⟨u,hu,rfl⟩:=h
  exact⟨h0,u,hu,hk⟩
 ·cases h
def OA(G:BX)(sz:Nat)(c:C)(R:List (List D)):Prop:=∃p,Fu G sz c=some (R,p)∧p
section
variable {α:Type} {enc:α→List D} {G:BX} {sz:Nat} {xs:List α}
theorem G8(hs:∀y,(enc y).length=sz):OA G sz (.d (.sl (xs.map enc))) (xs.map enc):=
 ⟨_,rfl,fun r hr=>by obtain⟨y,_,rfl⟩:=List.mem_map.1 hr;exact hs y⟩
theorem Co{id ep:Nat}{cap:Option Nat}{len:Nat}(hl:len=xs.length)(h:G id=some (.arr ep sz (xs.map enc))):OA G sz (.own id ep 0 len cap) (xs.map enc):=by
 subst hl
 refine⟨ep=ep∧sz=sz∧0+xs.length≤(xs.map enc).length,?_,rfl,rfl,by simp⟩
 simp only[Fu,h,List.drop_zero]
 rw[List.take_of_length_le (by simp)]
end
section
variable {P:Program} {s:St} {K:Out→Prop} {α:Type} {enc:α→List D} {sz u:Nat} {x y i:O}
theorem Cx{xs:List α}{id ep:Nat}{cap:Option Nat}{j:Int}{kk:IntKind}{len:Nat}{z:α}(hi:s.evV i=some (.int kk j))(hx:s.evC x=some (.own id ep 0 len cap))(hH:hp s.heap id=some (.arr ep sz (xs.map enc)))(hl:len=xs.length)
 (h:rdI xs j=some z) (hk:K ⟨some (.one (.c (.pe id ep j.toNat 0))),[]⟩):s1 P (.indexA sz x i) s K:=by
 obtain⟨h0,h1,h2⟩:=Bk h
 subst hl
 rw[H9,hi]
 simp only[hx,hH]
 refine⟨⟨h0,h2⟩,⟨trivial,trivial,by simp;omega⟩,?_⟩
 rw[Nat.zero_add];exact hk
theorem Az{xs:List α}{j:Int}{kk:IntKind}{z:α}(hi:s.evV i=some (.int kk j))(hx:s.evC x=some (.d (.sl (xs.map enc))))
 (h:rdI xs j=some z) (hs:(enc z).length=sz) (hk:K ⟨some (.one (.c (.fp (enc z)))),[]⟩):s1 P (.indexA sz x i) s K:=by
 rw[H9,hi]
 simp only[hx]
 exact MI.rd h hs hk
theorem D6{xs ys:List α}{id ep len:Nat}{cy:C}(hx:s.evC x=some (.own id ep 0 len none))(hH:hp s.heap id=some (.arr ep sz (xs.map enc)))(hl:len=xs.length)(hy:s.evC y=some cy)
 (hr:OA (hp s.heap) sz cy (ys.map enc)) {zs:List α} (ha:apI xs ys=some zs) (hk:K ⟨some (.one (.c (.own id (ep+1) 0 zs.length none))),[(id,.arr (ep+1) sz (zs.map enc))]⟩):s1 P (.app sz u x y) s K:=by
 obtain⟨hb,rfl⟩:=VE ha
 subst hl
 obtain⟨p,hr,hp'⟩:=hr
 rw[QR,hx]
 simp only[hy,hr]
 refine⟨hp',?_⟩
 simp only[Fo,hH,List.drop_zero]
 rw[List.length_append]at hb hk
 refine⟨⟨trivial,trivial,by simp,by simp;omega⟩,?_⟩
 rw[List.take_of_length_le (by simp),←List.map_append,List.length_map]
 exact hk
theorem BE{ys:List α}{parts:List O}{as:List A1}{rows:List (List D)}{wr:List (Nat×Blk)}{p:Prop}(h1:evL s parts=some as)(h2:Iy s.heap sz [] as=some (rows,wr,p))(hp':p)(hr:rows=ys.map enc)
 (hk:K ⟨some (.one (.c (.own s.heap.length 0 0 ys.length none))),wr++[(s.heap.length,.arr 0 sz (ys.map enc))]⟩):s1 P (.bslice sz parts) s K:=by
 subst hr
 rw[Kc,h1]
 simp only[h2]
 refine⟨hp',?_⟩
 rw[List.length_map];exact hk
theorem H8{xs ys:List α}{lo hi:Option O}{l h:Int}(hx:s.evC x=some (.d (.sl (xs.map enc))))(hlo:Di s lo 0=some l)(hhi:Di s hi xs.length=some h)(hs:∀y,(enc y).length=sz)(hc:slI xs l h=some ys)
 (hk:K ⟨some (.one (.c (.d (.sl (ys.map enc))))),[]⟩):s1 P (.slice sz x lo hi none) s K:=by
 obtain⟨⟨h1,h2,h3⟩,rfl⟩:=OL hc
 rw[Lv,hx]
 simp only[hlo,List.length_map,hhi]
 refine⟨⟨h1,h2,h3,fun r hr=>by obtain⟨y,_,rfl⟩:=List.mem_map.1 hr;exact hs y⟩,?_⟩
 have e:((xs.map enc).take h.toNat).drop l.toNat=((xs.drop l.toNat).take (h.toNat-l.toNat)).map enc:=by
  rw[List.drop_take,List.map_take,List.map_drop]
 rw[e];exact hk
theorem AX{xs v:List α}{l h:Int}(hc:slI xs l h=some v):l.toNat+v.length≤xs.length:=by
 obtain⟨⟨h1,h2,h3⟩,rfl⟩:=OL hc
 rw[List.length_take,List.length_drop];omega
def Yr(xs:List α)(off len:Nat)(z:α):List α:=xs.take off++List.replicate len z++xs.drop (off+len)
theorem Bx{b:ByteArray}{j c:Int}{kk:IntKind}(hx:s.evV x=some (.string b))(hi:s.evV i=some (.int kk j))(h:byI b j=some c)
 (hk:K ⟨some (.one (.c (.d (.v (.int .u8 c))))),[]⟩):s1 P (.sidx x i) s K:=by
 rw[NO,hx]
 simp only[hi]
 exact MJ.rd h hk
end
def Js(h:List (Option Blk))(f:Nat→Nat)(G:BX):Nat→List (Option Blk)→Prop
 |_,[]=>True
 |k,some b::r=>(hp h (f k)=some (b.ren f)∧b.live G)∧Js h f G (k+1) r
 |_,none::_=>False
theorem He{h:List (Option Blk)}{f:Nat→Nat}{G:BX}:∀{H:List (Option Blk)} {k0:Nat},Js h f G k0 H→∀(k:Nat),k<H.length→∃b,hp H k=some b∧hp h (f (k0+k))=some (b.ren f)∧b.live G
 |[],_,_,k,hk=>by simp at hk
 |some b::r,k0,⟨h1,h2⟩,k,hk=>by
  cases k with
  |zero=>exact⟨b,rfl,h1⟩
  |succ k=>
   obtain⟨b',q1,q2⟩:=He h2 k (by simpa using hk)
   exact⟨b',by rw[EV];exact q1,by rw[show k0+(k+1)=k0+1+k by omega];exact q2⟩
 |none::_,_,h,_,_=>h.elim
def Cj(G:BX):List A1→Prop
 |[]=>True
 |a::r=>a.live G∧Cj G r
theorem Hm{G:BX}:∀{l:List A1},Cj G l→∀a∈l,a.live G
 |[],_,a,h=>by cases h
 |x::l,⟨h1,h2⟩,a,h=>by
  rcases List.mem_cons.1 h with rfl|h
  ·exact h1
  ·exact Hm h2 a h
theorem Ce{P:Program}{f:FuncId}{as' as1:List A1}{H H':List (Option Blk)}{res:AV}{as:List A1}{s:St}{K:Out→Prop}(wrF:List (Nat×Blk))(σ:Src)(ρ:List Nat)
 (hc:An P f as' H res H') (hS:Sh s.heap.length s.heap σ (wrs s.heap wrF)) (hA:ON s.heap σ (wrs s.heap wrF) as1 as) (hlen:(wrs s.heap wrF).length=s.heap.length)
 (has:as1=as'.map (A1.ren (rn ρ s.heap.length))) (hlive:Cj (hp H) as') (hρ:ρ.length=H.length) (hnd:ρ.Nodup)
 (hH:Js (wrs s.heap wrF) (rn ρ s.heap.length) (hp H) 0 H) (hK:K ⟨some (res.ren (rn ρ s.heap.length)),wrF++Dn 0 H' (rn ρ s.heap.length)⟩):J0 P f as s K:=by
 refine⟨_,?_,hK⟩
 intro φ F w vs hr hA0
 obtain⟨r1,f1,s1'⟩:=NJ (m:=s.heap.length) hr hS.B hS.n hS.k
 have hA1:=I9 hr hS.B hA hA0
 have hstp:Stp φ F (hp s.heap) w (IC σ φ) (ML σ φ F) (hp (wrs s.heap wrF)) w:=by
  refine⟨s1'.frz,fun id=>?_⟩
  by_cases hid:id<s.heap.length
  ·exact s1'.blk id hid
  ·have:hp s.heap id=none:=by simp[hp,List.getElem?_eq_none (by omega:s.heap.length≤id)]
   rw[this];trivial
 have hcall:Fq P f as1 ⟨[],wrs s.heap wrF⟩ (·=⟨some (res.ren (rn ρ s.heap.length)),Dn 0 H' (rn ρ s.heap.length)⟩):=by
  have hg:=He hH
  refine Kz ρ hc (by rw[hlen];exact has) (Hm hlive) hρ (fun k hk=>?_) (fun i j k hi hj=>?_) (fun k blk hb=>?_) (by simp only[hlen])
  ·obtain⟨b,q1,_⟩:=hg k hk
   rw[q1];simp
  ·exact(List.getElem?_inj (List.getElem?_eq_some_iff.1 hi).1 hnd).1 (hi.trans hj.symm)
  ·have hk:k<H.length:=by
    by_cases hlt:k<H.length
    ·exact hlt
    ·simp[hp,List.getElem?_eq_none (by omega:H.length≤k)]at hb
   obtain⟨b,q1,q2,q3⟩:=hg k hk
   rw[q1]at hb;cases hb
   simp only[Nat.zero_add]at q2
   rw[hlen]
   exact⟨q2,q3⟩
 refine(hcall _ _ w vs r1 hA1).mono ?_
 rintro v w' ⟨⟨out,φ',F',rfl,hv,hr',hs',hf'⟩⟩
 refine⟨⟨_,φ',F',rfl,?_,?_,?_,f1.trans hf'⟩⟩
 ·simp only[Eu];exact hv
 ·simp only[Eu];exact hr'
 ·simp only[Eu];exact hstp.trans hs'
def UR:C→C
 | .d x=> .d (nrm x)
 |c=>c
def Tk:A1→A1
 | .c x=> .c (UR x)
 | .agg cs=> .agg (cs.map UR)
theorem Pv{φ F G w}{c:C}{v:Value}(h:Ci φ F G w c v):Ci φ F G w (UR c) v:=by
 cases c with
 |d x=>exact Ju h
 |_=>exact h
theorem Ti{φ F G w}{cs:List C}{vs:List Value}(h:Cg φ F G w cs vs):Cg φ F G w (cs.map UR) vs:=by
 induction h with
 |nil=>exact .nil
 |cons a _ ih=>exact .cons (Pv a) ih
theorem US{φ F G w}{c:A1}{v:Value}(h:A7 φ F G w c v):A7 φ F G w (Tk c) v:=by
 cases c with
 |c x=>exact Pv h
 |agg cs=>obtain⟨vs,rfl,h⟩:=h;exact⟨vs,rfl,Ti h⟩
theorem Tj{φ F G w}{cs:List A1}{vs:List Value}(h:Bb (A7 φ F G w) cs vs):Bb (A7 φ F G w) (cs.map Tk) vs:=by
 induction h with
 |nil=>exact .nil
 |cons a _ ih=>exact .cons (US a) ih
theorem WO{P:Program}{f:FuncId}{as':List A1}{H H':List (Option Blk)}{res:AV}{as:List A1}{s:St}{K:Out→Prop}(ρ:List Nat)
 (hc:An P f as' H res H') (has:as.map Tk=as'.map (A1.ren (rn ρ s.heap.length))) (hlive:Cj (hp H) as') (hρ:ρ.length=H.length) (hnd:ρ.Nodup)
 (hH:Js s.heap (rn ρ s.heap.length) (hp H) 0 H) (hK:K ⟨some (res.ren (rn ρ s.heap.length)),Dn 0 H' (rn ρ s.heap.length)⟩):J0 P f as s K:=by
 refine⟨_,?_,hK⟩
 have hcall:Fq P f (as.map Tk) s (·=⟨some (res.ren (rn ρ s.heap.length)),Dn 0 H' (rn ρ s.heap.length)⟩):=by
  have hg:=He hH
  refine Kz ρ hc has (Hm hlive) hρ (fun k hk=>?_) (fun i j k hi hj=>?_) (fun k blk hb=>?_) rfl
  ·obtain⟨b,q1,_⟩:=hg k hk
   rw[q1];simp
  ·exact(List.getElem?_inj (List.getElem?_eq_some_iff.1 hi).1 hnd).1 (hi.trans hj.symm)
  ·have hk:k<H.length:=by
    by_cases hlt:k<H.length
    ·exact hlt
    ·simp[hp,List.getElem?_eq_none (by omega:H.length≤k)]at hb
   obtain⟨b,q1,q2,q3⟩:=hg k hk
   rw[q1]at hb;cases hb
   simp only[Nat.zero_add]at q2
   exact⟨q2,q3⟩
 exact fun φ F w vs hr hA=>hcall φ F w vs hr (Tj hA)
section
variable {κ α:Type}
def eM1(ek:κ→Value)(enc:α→D)(l:List (κ×α)):List (Value×A1):=l.map fun p=>(ek p.1,.c (.d (enc p.2)))
def eMs(ek:κ→Value)(enc:α→List D)(l:List (κ×α)):List (Value×A1):=l.map fun p=>(ek p.1,.agg ((enc p.2).map .d))
theorem La{ek:κ→Value}{enc:α→D}{l:List (κ×α)}:EK (eM1 ek enc l)=true:=by simp[EK,eM1,A1.EA,C.EA]
theorem K9{ek:κ→Value}{enc:α→List D}{l:List (κ×α)}:EK (eMs ek enc l)=true:=by simp[EK,eMs,A1.EA,C.EA]
end
section
variable {κ α:Type} [DecidableEq κ]
def getM(k:κ):List (κ×α)→Option α
 |[]=>none
 |e::r=>if e.1=k then some e.2 else getM k r
def B2(k:κ)(v:α):List (κ×α)→List (κ×α)
 |[]=>[(k,v)]
 |e::r=>if e.1=k then(k,v)::r else e::B2 k v r
structure KK(ek:κ→Value)(kd:Nat):Prop where
 k:∀x,Ez kd (ek x)=true
 e:∀a b,FB (ek a) (ek b)=decide (a=b)
theorem kkS:KK Value.string 1:=⟨fun _=>rfl,fun _ _=>rfl⟩
theorem kkI:KK (Value.int .i64) 0:=⟨fun _=>rfl,fun _ _=>rfl⟩
theorem VF{ek:κ→Value}{kd:Nat}(h:KK ek kd){enc:α→D}{l:List (κ×α)}:GG kd (eM1 ek enc l)=true:=by simp[GG,eM1,h.k]
theorem RB{ek:κ→Value}{kd:Nat}(h:KK ek kd){enc:α→List D}{l:List (κ×α)}:GG kd (eMs ek enc l)=true:=by simp[GG,eMs,h.k]
theorem So{ek:κ→Value}{kd:Nat}(h:KK ek kd){enc:α→D}(k:κ):∀l:List (κ×α),EP (ek k) (eM1 ek enc l)=(getM k l).map fun x=> .c (.d (enc x))
 |[]=>rfl
 |e::l=>by
  show(if FB (ek k) (ek e.1)=true then some _ else EP (ek k) (eM1 ek enc l))=_
  rw[h.e,So h k l,getM]
  by_cases he:e.1=k
  ·rw[if_pos (by simp[he]),if_pos he];rfl
  ·rw[if_neg (by simpa using Ne.symm he),if_neg he]
theorem Sn{ek:κ→Value}{kd:Nat}(h:KK ek kd){enc:α→List D}(k:κ):∀l:List (κ×α),EP (ek k) (eMs ek enc l)=(getM k l).map fun x=> .agg ((enc x).map .d)
 |[]=>rfl
 |e::l=>by
  show(if FB (ek k) (ek e.1)=true then some _ else EP (ek k) (eMs ek enc l))=_
  rw[h.e,Sn h k l,getM]
  by_cases he:e.1=k
  ·rw[if_pos (by simp[he]),if_pos he];rfl
  ·rw[if_neg (by simpa using Ne.symm he),if_neg he]
theorem UW{ek:κ→Value}{kd:Nat}(h:KK ek kd){enc:α→D}(k:κ)(x:α):∀l:List (κ×α),Jv (ek k) (.c (.d (enc x))) (eM1 ek enc l)=eM1 ek enc (B2 k x l)
 |[]=>rfl
 |e::l=>by
  show(if FB (ek k) (ek e.1)=true then _ else _::Jv (ek k) _ (eM1 ek enc l))=_
  rw[h.e,UW h k x l,B2]
  by_cases he:e.1=k
  ·rw[if_pos (by simp[he]),if_pos he];rfl
  ·rw[if_neg (by simpa using Ne.symm he),if_neg he];rfl
theorem UU{ek:κ→Value}{kd:Nat}(h:KK ek kd){enc:α→List D}(k:κ)(x:α):∀l:List (κ×α),Jv (ek k) (.agg ((enc x).map .d)) (eMs ek enc l)=eMs ek enc (B2 k x l)
 |[]=>rfl
 |e::l=>by
  show(if FB (ek k) (ek e.1)=true then _ else _::Jv (ek k) _ (eMs ek enc l))=_
  rw[h.e,UU h k x l,B2]
  by_cases he:e.1=k
  ·rw[if_pos (by simp[he]),if_pos he];rfl
  ·rw[if_neg (by simpa using Ne.symm he),if_neg he];rfl
section
variable {P:Program} {s:St} {K:Out→Prop} {m k v:O} {id kd:Nat} {ek:κ→Value} {key:κ} {l:List (κ×α)} {zero:A1}
theorem Ln{enc:α→D}(ek:κ→Value)(hk:K ⟨some (.one (.c (.mref s.heap.length))),[(s.heap.length,.map (eM1 ek enc ([]:List (κ×α))))]⟩):s1 P .mkmap s K:=by
 rw[OY];exact hk
theorem TO{enc:α→List D}(ek:κ→Value)(hk:K ⟨some (.one (.c (.mref s.heap.length))),[(s.heap.length,.map (eMs ek enc ([]:List (κ×α))))]⟩):s1 P .mkmap s K:=by
 rw[OY];exact hk
theorem NF{enc:α→D}(h:KK ek kd)(hm:s.evC m=some (.mref id))(hH:hp s.heap id=some (.map (eM1 ek enc l)))(hkk:s.evV k=some (ek key)){z:α}(hz:zero= .c (.d (enc z)))
 (hk:K ⟨some (.one (.c (.d (enc ((getM key l).getD z))))),[]⟩):s1 P (.mget kd false zero m k) s K:=by
 rw[R8,hm]
 simp only[hH,hkk]
 refine⟨⟨h.k _,VF h⟩,?_⟩
 subst hz
 rw[So h]
 unfold WD
 cases hg:getM key l with
 |none=>rw[hg]at hk;exact hk
 |some x=>rw[hg]at hk;exact hk
theorem TP{enc:α→List D}(h:KK ek kd)(hm:s.evC m=some (.mref id))(hH:hp s.heap id=some (.map (eMs ek enc l)))(hkk:s.evV k=some (ek key)){y:α}(hy:getM key l=some y)
 (hk:K ⟨some (.one (.agg ((enc y).map .d))),[]⟩):s1 P (.mget kd false zero m k) s K:=by
 rw[R8,hm]
 simp only[hH,hkk]
 refine⟨⟨h.k _,RB h⟩,?_⟩
 rw[Sn h,hy]
 exact hk
def HK(k:κ):List (κ×α)→List (κ×α)
 |[]=>[]
 |e::r=>if e.1=k then r else e::HK k r
theorem UY{ek:κ→Value}{kd:Nat}(h:KK ek kd){enc:α→List D}(k:κ):∀l:List (κ×α),GO (ek k) (eMs ek enc l)=eMs ek enc (HK k l)
 |[]=>rfl
 |e::l=>by
  show(if FB (ek k) (ek e.1)=true then _ else _::GO (ek k) (eMs ek enc l))=_
  rw[h.e,UY h k l,HK]
  by_cases he:e.1=k
  ·rw[if_pos (by simp[he]),if_pos he];rfl
  ·rw[if_neg (by simpa using Ne.symm he),if_neg he];rfl
theorem VY{enc:α→List D}(h:KK ek kd)(hm:s.evC m=some (.mref id))(hH:hp s.heap id=some (.map (eMs ek enc l)))(hkk:s.evV k=some (ek key))
 (hk:K ⟨some (.tup []),[(id,.map (eMs ek enc (HK key l)))]⟩):s1 P (.mdel kd m k) s K:=by
 rw[Wn,hm]
 simp only[hH,hkk]
 refine⟨⟨h.k _,RB h⟩,?_⟩
 rw[UY h];exact hk
theorem I8{enc:α→D}(h:KK ek kd)(hm:s.evC m=some (.mref id))(hH:hp s.heap id=some (.map (eM1 ek enc l)))(hkk:s.evV k=some (ek key)){x:α}(hv:s.ev v=some (.one (.c (.d (enc x)))))
 (hk:K ⟨none,[(id,.map (eM1 ek enc (B2 key x l)))]⟩):s1 P (.mset kd m k v) s K:=by
 rw[R7,hm]
 simp only[hH,hkk,hv]
 refine⟨⟨h.k _,VF h,rfl⟩,?_⟩
 rw[UW h];exact hk
theorem RO{enc:α→List D}(h:KK ek kd)(hm:s.evC m=some (.mref id))(hH:hp s.heap id=some (.map (eMs ek enc l)))(hkk:s.evV k=some (ek key)){x:α}(hv:s.ev v=some (.one (.agg ((enc x).map .d))))
 (hk:K ⟨none,[(id,.map (eMs ek enc (B2 key x l)))]⟩):s1 P (.mset kd m k v) s K:=by
 rw[R7,hm]
 simp only[hH,hkk,hv]
 refine⟨⟨h.k _,RB h,by simp[A1.EA,C.EA]⟩,?_⟩
 rw[UU h];exact hk
end
end
end Go.Fw
namespace Go.Fw
section
variable {P:Program} {s:St} {K:Out→Prop}
theorem Wl{a0:Nat}{a1:Nat}{a2:O}{a3:O}:sS P (.app a0 a1 a2 a3) s K=s1 P (.app a0 a1 a2 a3) s K:=oS rfl
theorem Uq{a0:Nat}{a1:Nat}{a2:List D}{a3:O}{a4:O}:sS P (.appz a0 a1 a2 a3 a4) s K=s1 P (.appz a0 a1 a2 a3 a4) s K:=oS rfl
theorem Up{a0:Nat}{a1:O}{a2:O}:sS P (.copy a0 a1 a2) s K=s1 P (.copy a0 a1 a2) s K:=oS rfl
theorem S7{a0:Nat}{a1:List D}{a2:O}:sS P (.clear a0 a1 a2) s K=s1 P (.clear a0 a1 a2) s K:=oS rfl
theorem Xr{a0:Nat}{a1:Nat}{a2:List D}{a3:O}{a4:O}:sS P (.mk a0 a1 a2 a3 a4) s K=s1 P (.mk a0 a1 a2 a3 a4) s K:=oS rfl
theorem QE{a0:Nat}{a1:O}{a2:O}:sS P (.indexA a0 a1 a2) s K=s1 P (.indexA a0 a1 a2) s K:=oS rfl
theorem Uk{a0:O}{a1:O}:sS P (.sidx a0 a1) s K=s1 P (.sidx a0 a1) s K:=oS rfl
theorem S5{a0:Nat}{a1:O}{a2:Option O}{a3:Option O}{a4:Option O}:sS P (.slice a0 a1 a2 a3 a4) s K=s1 P (.slice a0 a1 a2 a3 a4) s K:=oS rfl
theorem QD{a0:O}{a1:Option O}{a2:Option O}:sS P (.sslice a0 a1 a2) s K=s1 P (.sslice a0 a1 a2) s K:=oS rfl
theorem QF{a0:Nat}{a1:List O}:sS P (.bslice a0 a1) s K=s1 P (.bslice a0 a1) s K:=oS rfl
theorem S6:sS P (.mkmap) s K=s1 P (.mkmap) s K:=oS rfl
theorem Un{a0:Nat}{a1:Bool}{a2:A1}{a3:O}{a4:O}:sS P (.mget a0 a1 a2 a3 a4) s K=s1 P (.mget a0 a1 a2 a3 a4) s K:=oS rfl
theorem Ul{a0:Nat}{a1:O}{a2:O}{a3:O}:sS P (.mset a0 a1 a2 a3) s K=s1 P (.mset a0 a1 a2 a3) s K:=oS rfl
theorem Uo{a0:Nat}{a1:O}{a2:O}:sS P (.mdel a0 a1 a2) s K=s1 P (.mdel a0 a1 a2) s K:=oS rfl
theorem Um{a0:O}:sS P (.mlen a0) s K=s1 P (.mlen a0) s K:=oS rfl
end
def V0:=PLift.up (And.intro (And.intro (And.intro (And.intro @PH (And.intro @PY @KD)) (And.intro @Sl (And.intro @Pw @UT))) (And.intro (And.intro @MA (And.intro @MC @MB)) (And.intro @Jn (And.intro @Jo @Cz.eq_1)))) (And.intro (And.intro (And.intro @Ds.eq_1 (And.intro @Ds.eq_2 @St.ev.eq_1)) (And.intro @St.ev.eq_2 (And.intro @St.ev.eq_3 @St.evC.eq_1))) (And.intro (And.intro @St.evV.eq_1 (And.intro @lk.eq_1 @lk.eq_2)) (And.intro @wrs.eq_1 (And.intro @wrs.eq_2 @B8.eq_1)))))
def V1:=PLift.up (And.intro (And.intro (And.intro (And.intro @B8.eq_2 (And.intro @ret.eq_1 @BR.eq_1)) (And.intro @evL.eq_1 (And.intro @evL.eq_2 @Ov.eq_1))) (And.intro (And.intro @Ov.eq_2 (And.intro @Di.eq_1 @Di.eq_2)) (And.intro @Ox.eq_1 (And.intro @Ox.eq_2 @JH.eq_1)))) (And.intro (And.intro (And.intro @JH.eq_2 (And.intro @JH.eq_3 @Iy.eq_1)) (And.intro @Iy.eq_2 (And.intro @Fu.eq_1 @Fu.eq_2))) (And.intro (And.intro @Fu.eq_3 (And.intro @kSt.eq_1 @if_true.{1})) (And.intro @if_true.{0} (And.intro @if_false.{1} @if_false.{0})))))
def V2:=PLift.up (And.intro (And.intro (And.intro (And.intro @Cf.eq_1 (And.intro @Cf.eq_2 @Cf.eq_3)) (And.intro @Cf.eq_4 (And.intro @Cf.eq_5 @Cf.eq_6))) (And.intro (And.intro @Cf.eq_7 (And.intro @Cf.eq_8 @Cf.eq_9)) (And.intro @Cf.eq_10 (And.intro @Cf.eq_11 @Cf.eq_12)))) (And.intro (And.intro (And.intro @Cf.eq_13 (And.intro @Cf.eq_14 @Cf.eq_15)) (And.intro @Cf.eq_16 (And.intro @Cf.eq_18 @Cf.eq_19))) (And.intro (And.intro @Cf.eq_20 (And.intro @Cf.eq_21 @Cf.eq_22)) (And.intro @Cf.eq_23 (And.intro @Cf.eq_24 @true_and)))))
def V3:=PLift.up (And.intro (And.intro (And.intro (And.intro @and_true (And.intro @decide_eq_true_eq @decide_eq_false_iff_not)) (And.intro @List.length_map.{0,0} (And.intro @Int.toNat_natCast @ldC.eq_1))) (And.intro (And.intro @ldC.eq_2 (And.intro @ldC.eq_3 @List.map_cons.{0,0})) (And.intro @List.map_nil.{0,0} (And.intro @List.length_cons.{0} @List.length_nil.{0})))) (And.intro (And.intro (And.intro @List.take_succ_cons.{0} (And.intro @List.take_zero.{0} @A1.cells.eq_1)) (And.intro @A1.cells.eq_2 (And.intro @BV.eq_1 @BV.eq_2))) (And.intro (And.intro @BV.eq_3 (And.intro @BV.eq_4 @hp.eq_1)) (And.intro @A8.eq_1 (And.intro @List.getElem?_cons_zero.{0} @List.getElem?_cons_succ.{0})))))
def V4:=PLift.up (And.intro (And.intro (And.intro (And.intro @Option.join_some.{0} (And.intro @List.drop_succ_cons.{0} @List.drop_zero.{0})) (And.intro @Nat.zero_add (And.intro @List.nil_append.{0} @List.cons_append.{0}))) (And.intro (And.intro @List.append_nil.{0} (And.intro @List.drop_nil.{0} @Nat.le_refl)) (And.intro @Mr.eq_1 (And.intro @Em.eq_1 @Em.eq_2)))) (And.intro (And.intro (And.intro @FI.eq_1 (And.intro @FI.eq_2 @FI.eq_3)) (And.intro @W6 (And.intro @W7 @Sz))) (And.intro (And.intro @Xc (And.intro @VH @VG)) (And.intro @Ip.eq_1 (And.intro @Ip.eq_2 @Ip.eq_3)))))
def V5:=PLift.up (And.intro (And.intro (And.intro (And.intro @List.isEmpty_iff.{0} (And.intro @Vq @Vr)) (And.intro @P8 (And.intro @P7 @Uu))) (And.intro (And.intro WU.down (And.intro @NP RX.down)) (And.intro @QO (And.intro Uh.down @NM)))) (And.intro (And.intro (And.intro RU.down (And.intro @Ly OU.down)) (And.intro @NR (And.intro RZ.down @Lu))) (And.intro (And.intro OQ.down (And.intro @Kb MY.down)) (And.intro @Lw (And.intro OR.down @Uv)))))
def V6:=PLift.up (And.intro (And.intro (And.intro (And.intro WV.down (And.intro @NU R2.down)) (And.intro @Lx (And.intro OT.down @QL))) (And.intro (And.intro Ud.down (And.intro @QK Uc.down)) (And.intro @NN (And.intro RW.down @QN)))) (And.intro (And.intro (And.intro Ug.down (And.intro @QP Ui.down)) (And.intro @OZ (And.intro @QG T8.down))) (And.intro (And.intro @QQ (And.intro Uj.down @QH)) (And.intro T9.down (And.intro @QJ Ub.down)))))
def V7:=PLift.up (And.intro (And.intro (And.intro (And.intro @QI (And.intro Ua.down @NQ)) (And.intro RY.down (And.intro @Iq.eq_1 @Iq.eq_2))) (And.intro (And.intro @NT (And.intro R1.down @NS)) (And.intro R0.down (And.intro @QM Ue.down)))) (And.intro (And.intro (And.intro @OS (And.intro @Pe @LQ)) (And.intro @KP (And.intro @KO @Pg))) (And.intro (And.intro @Pk (And.intro @Ph @Pj)) (And.intro @Sj (And.intro @Pd @M6)))))
def V8:=PLift.up (And.intro (And.intro (And.intro (And.intro @M5 (And.intro @UG @UJ)) (And.intro @UH (And.intro @UI @Pl))) (And.intro (And.intro @Pm (And.intro @O8 @Si)) (And.intro @O9 (And.intro @Se @M4)))) (And.intro (And.intro (And.intro @Pa (And.intro @Sf @Pb)) (And.intro @Sg (And.intro @Pc @Q0))) (And.intro (And.intro @Q1 (And.intro @M7 @M9)) (And.intro @M8 (And.intro @Is @Iu)))))
def V9:=PLift.up (And.intro (And.intro (And.intro (And.intro @It (And.intro @Jk @Jm)) (And.intro @Jl (And.intro @KQ @LR))) (And.intro (And.intro @UK (And.intro @Sk @Pf)) (And.intro @Bv.eq_1 (And.intro @Vz @SG)))) (And.intro (And.intro (And.intro @SH (And.intro @VA @VB)) (And.intro @Xb (And.intro @VC @VD))) (And.intro (And.intro @TE (And.intro @RF @Bool.and_true)) (And.intro @Bool.true_and (And.intro @Bool.not_false @Ts)))))
def V10:=PLift.up (And.intro (And.intro (And.intro (And.intro @List.contains_cons.{0} (And.intro @List.contains_nil.{0} @List.replicate_succ.{0})) (And.intro @List.replicate_zero.{0} (And.intro @Bool.true_or @Bool.or_true))) (And.intro (And.intro @Bool.false_or (And.intro @Bool.or_false @Bool.false_eq_true)) (And.intro @KC.eq_1 (And.intro @KC.eq_2 @Tc)))) (And.intro (And.intro (And.intro @UF (And.intro @Wl @Uq)) (And.intro @Up (And.intro @S7 @Xr))) (And.intro (And.intro @QE (And.intro @Uk @S5)) (And.intro @QD (And.intro @QF @S6)))))
def V11:=PLift.up (And.intro (And.intro @Un @Ul) (And.intro @Uo @Um))
def VV:=PLift.up (And.intro (And.intro (And.intro V0.down (And.intro V1.down V2.down)) (And.intro V3.down (And.intro V4.down V5.down))) (And.intro (And.intro V6.down (And.intro V7.down V8.down)) (And.intro V9.down (And.intro V10.down V11.down))))
end Go.Fw
namespace Go.Fw
section
variable {h H':List (Option Blk)} {σ:Src} {α:Type} {enc:α→List D}
theorem YJ{x:D}:shC h σ H' (.d x) (.d x)=True:=by simp[shC]
theorem X2:shC h σ H' (.d (.sl [])) (.d (.v (.slice none 0 0)))=True:=by simp[shC,nrm]
theorem X7{R:List (List D)}{j ep off len:Nat}{cap:Option Nat}:shC h σ H' (.d (.sl R)) (.own j ep off len cap)=(Iv j σ=true∧match hp h j with
 |some (.arr e _ rows)=>ep=e∧off+len≤rows.length∧Gp rows off len R
 |_=>False):=rfl
theorem VT{k ep' off' len':Nat}{cap':Option Nat}:shC h σ H' (.own k ep' off' len' cap') (.d (.v (.slice none 0 0)))=((σ[k]? =some none∧off'=0∧len'=0∧cap'=none)∧match hp H' k with
 |some (.arr e' _ _)=>ep'=e'
 |_=>False):=rfl
theorem X1{k ep' off' len':Nat}{j ep off len:Nat}{cap:Option Nat}:shC h σ H' (.own k ep' off' len' none) (.own j ep off len cap)=((σ[k]? =some (some j)∧off'=off∧len'=len)∧match hp h j with
 |some (.arr e _ _)=>ep=e∧match hp H' k with
  |some (.arr e' _ rows)=>ep'=e'∧off'+len'≤rows.length
  |_=>False
 |_=>False):=rfl
theorem VS{k ep' off' len' c:Nat}{j ep off len:Nat}{cap:Option Nat}:shC h σ H' (.own k ep' off' len' (some c)) (.own j ep off len cap)=match hp H' k with
 |some (.arr e' _ _)=>ep'<e'
 |_=>False:=rfl
theorem YB{k off' j off:Nat}:shC h σ H' (.pt k off') (.pt j off)=((σ[k]? =some (some j)∧off'=off)∧match hp H' k with|some (.box _)=>True|_=>False):=rfl
theorem YC{k ep' row' off' j ep row off:Nat}:shC h σ H' (.pe k ep' row' off') (.pe j ep row off)=((σ[k]? =some (some j)∧row'=row∧off'=off)∧match hp h j with
 |some (.arr e _ _)=>ep=e∧match hp H' k with
  |some (.arr e' _ rows)=>ep'=e'∧row'<rows.length
  |_=>False
 |_=>False):=rfl
theorem Xj{k j:Nat}:shC h σ H' (.mref k) (.mref j)=(σ[k]? =some (some j)∧match hp H' k with|some (.map _)=>True|_=>False):=rfl
theorem Xm{κ β:Type}{ek:κ→Value}{e:β→D}{l:List (κ×β)}:(EK (eM1 ek e l)=true)=True:=by simp[La]
theorem Xl{κ β:Type}{ek:κ→Value}{e:β→List D}{l:List (κ×β)}:(EK (eMs ek e l)=true)=True:=by simp[K9]
theorem YH{x y:List D}:shC h σ H' (.fp x) (.fp y)=(x=y):=rfl
theorem YI{f' f:FuncId}{c' c:List (Nat×Nat)}:shC h σ H' (.fn f' c') (.fn f c)=(f'=f∧J9 σ H' c' c):=rfl
theorem X0{rows:List (List D)}:MH rows rows=True:=by simp[MH]
theorem Xh{xs:List α}{n:Nat}:MH (xs.map enc) ((xs.take n).map enc)=True:=by
 simp only[MH,eq_iff_iff,iff_true]
 exact .inr ⟨(xs.drop n).map enc,by rw[←List.map_append,List.take_append_drop]⟩
theorem Xi{rows:List (List D)}:MH rows []=True:=by simp[MH]
theorem Xk{xs:List α}:Gp (xs.map enc) 0 xs.length (xs.map enc)=True:=by
 simp only[Gp,List.drop_zero,eq_iff_iff,iff_true];rw[List.take_of_length_le (by simp)]
theorem Xf{xs:List α}{off len:Nat}:Gp (xs.map enc) off len (((xs.drop off).take len).map enc)=True:=by
 simp[Gp]
theorem Xg{xs:List α}{len:Nat}:Gp (xs.map enc) 0 len ((xs.take len).map enc)=True:=by
 simp[Gp]
theorem X5{e:Nat}:(e<e+1)=True:=by simp
theorem X4{e:Nat}:(e<e+2)=True:=by simp
theorem YE{n:Nat}:(n≤n)=True:=by simp
theorem TD{α:Type}{p:Prop}{x:Option α}:(x=x→p)=p:=by simp
theorem YF{a b:List D}{rows R:List (List D)}{n:Nat}:Gp (a::rows) 0 (n+1) (b::R)=(b=a∧Gp rows 0 n R):=by simp[Gp]
theorem YD{rows:List (List D)}:Gp rows 0 0 []=True:=by simp[Gp]
theorem X6{e n:Nat}:(e<e+(n+1))=True:=by simp only[eq_iff_iff,iff_true];omega
theorem X3{e a b:Nat}:(e+a<e+b)=(a<b):=by simp
theorem YA{p:Prop}:(True→p)=p:=by simp
theorem YG{p:Prop}:(p→True)=True:=by simp
end
def Z0:=PLift.up (And.intro (And.intro (And.intro (And.intro @YJ (And.intro @X2 @X7)) (And.intro @VT (And.intro @X1 @VS))) (And.intro (And.intro @YB (And.intro @YC @YH)) (And.intro @YI (And.intro @X0 @Xh)))) (And.intro (And.intro (And.intro @Xi (And.intro @Xk @Xf)) (And.intro @Xg (And.intro @X5 @X4))) (And.intro (And.intro @YE (And.intro @TD @YA)) (And.intro @YG (And.intro @YF @YD)))))
def Z1:=PLift.up (And.intro (And.intro (And.intro (And.intro @X6 (And.intro @X3 @Xj)) (And.intro @Xm (And.intro @Xl @Lq.eq_1))) (And.intro (And.intro @Lq.eq_2 (And.intro @lk.eq_1 @lk.eq_2)) (And.intro @Iv.eq_1 (And.intro @Iv.eq_2 @Iv.eq_3)))) (And.intro (And.intro (And.intro @BV.eq_1 (And.intro @BV.eq_2 @BV.eq_3)) (And.intro @BV.eq_4 (And.intro @wrs.eq_1 @wrs.eq_2))) (And.intro (And.intro @A8.eq_1 (And.intro @if_true.{1} @if_true.{0})) (And.intro @if_false.{1} (And.intro @if_false.{0} @true_and)))))
def Z2:=PLift.up (And.intro (And.intro (And.intro (And.intro @and_true (And.intro @and_self @true_or)) (And.intro @or_true (And.intro @List.length_map.{0,0} @Nat.zero_add))) (And.intro (And.intro @Nat.add_zero (And.intro @List.length_cons.{0} @List.length_nil.{0})) (And.intro @List.map_nil.{0,0} (And.intro @List.take_zero.{0} @List.take_succ_cons.{0})))) (And.intro (And.intro (And.intro @List.take_nil.{0} (And.intro @List.getElem?_cons_zero.{0} @List.getElem?_cons_succ.{0})) (And.intro @List.getElem?_nil.{0} (And.intro @Option.join_some.{0} @List.cons_append.{0}))) (And.intro (And.intro @List.nil_append.{0} (And.intro @bne_self_eq_false.{0} @Bool.and_true)) (And.intro @Bool.true_and (And.intro @List.map_cons.{0,0} @false_or)))))
def Z3:=PLift.up (And.intro (And.intro (And.intro (And.intro @or_false (And.intro @TD @List.drop_zero.{0})) (And.intro @Int.toNat_natCast (And.intro @P8 @P7))) (And.intro (And.intro @Vr (And.intro @Vq @List.length_set.{0})) (And.intro @shA.eq_1 (And.intro @shA.eq_2 @ON.eq_1)))) (And.intro (And.intro (And.intro @ON.eq_2 (And.intro @shV.eq_1 @shV.eq_2)) (And.intro @shB.eq_1 (And.intro @shB.eq_2 @shB.eq_3))) (And.intro (And.intro @shB.eq_4 (And.intro @shB.eq_5 @ID.eq_1)) (And.intro @ID.eq_2 (And.intro @S1.eq_1 @S1.eq_2)))))
def Z4:=PLift.up (And.intro (And.intro (And.intro @J9.eq_1 @J9.eq_2) (And.intro @Iw.eq_1 @Iw.eq_2)) (And.intro (And.intro @Gw.eq_1 @Gw.eq_2) (And.intro @Gw.eq_3 (And.intro @Gw.eq_4 @hp.eq_1))))
def ZZ:=PLift.up (And.intro (And.intro Z0.down Z1.down) (And.intro Z2.down (And.intro Z3.down Z4.down)))
theorem Yf{f:Nat→Nat}{x:D}:C.ren f (.d x)= .d x:=rfl
theorem Wt{f:Nat→Nat}{id ep off len:Nat}{cap:Option Nat}:C.ren f (.own id ep off len cap)= .own (f id) ep off len cap:=rfl
theorem Xu{f:Nat→Nat}{id off:Nat}:C.ren f (.pt id off)= .pt (f id) off:=rfl
theorem Xv{f:Nat→Nat}{x:List D}:C.ren f (.fp x)= .fp x:=rfl
theorem Wv{f:Nat→Nat}{cs:List C}:Blk.ren f (.box cs)= .box (cs.map (C.ren f)):=rfl
theorem Ww{f:Nat→Nat}{e sz:Nat}{rows:List (List D)}:Blk.ren f (.arr e sz rows)= .arr e sz rows:=rfl
theorem Yg{f:Nat→Nat}{c:C}:A1.ren f (.c c)= .c (c.ren f):=rfl
theorem Wx{f:Nat→Nat}{cs:List C}:A1.ren f (.agg cs)= .agg (cs.map (C.ren f)):=rfl
theorem Wu{f:Nat→Nat}{a:A1}:AV.ren f (.one a)= .one (a.ren f):=rfl
theorem Ws{f:Nat→Nat}{l:List A1}:AV.ren f (.tup l)= .tup (l.map (A1.ren f)):=rfl
theorem tail_nil{k:Nat}{f:Nat→Nat}:Dn k [] f=[]:=rfl
theorem SO{k:Nat}{b:Blk}{r:List (Option Blk)}{f:Nat→Nat}:Dn k (some b::r) f=(f k,b.ren f)::Dn (k+1) r f:=rfl
theorem SP{k:Nat}{r:List (Option Blk)}{f:Nat→Nat}:Dn k (none::r) f=Dn (k+1) r f:=rfl
theorem Uz{f:Nat→Nat}{id:Nat}:C.ren f (.mref id)= .mref (f id):=rfl
theorem QY{κ β:Type}{f:Nat→Nat}{ek:κ→Value}{e:β→D}{l:List (κ×β)}:Blk.ren f (.map (eM1 ek e l))= .map (eM1 ek e l):=by simp only[Blk.ren];rw[Kw La]
theorem QX{κ β:Type}{f:Nat→Nat}{ek:κ→Value}{e:β→List D}{l:List (κ×β)}:Blk.ren f (.map (eMs ek e l))= .map (eMs ek e l):=by simp only[Blk.ren];rw[Kw K9]
theorem Xw{f:Nat→Nat}{g:FuncId}{c:List (Nat×Nat)}:C.ren f (.fn g c)= .fn g (c.map fun p=>(f p.1,p.2)):=rfl
theorem YP{a:A1}:AL [a]= .one a:=rfl
theorem YO{a b:A1}{l:List A1}:AL (a::b::l)= .tup (a::b::l):=rfl
theorem YQ:AL []= .tup []:=rfl
def VR:=PLift.up (And.intro (And.intro (And.intro (And.intro @rn.eq_1 (And.intro @Uz @QY)) (And.intro @QX (And.intro @Yf @Wt))) (And.intro (And.intro @Xu (And.intro @Xv @Xw)) (And.intro (And.intro @Wv @Ww) (And.intro @Yg @Wx)))) (And.intro (And.intro (And.intro @Wu (And.intro @Ws @tail_nil)) (And.intro @SO (And.intro @SP @YQ))) (And.intro (And.intro @YP (And.intro @YO @Nat.add_zero)) (And.intro (And.intro @Nat.sub_zero @List.getElem?_nil.{0}) (And.intro @Nat.sub_self @Nat.add_sub_cancel_left)))))
def VW:=PLift.up (And.intro VV.down VR.down)
end Go.Fw
namespace Go.Fw
def eI(n:Int):List D:=[.v (.int .i64 n)]
def eK(k:IntKind)(n:Int):List D:=[.v (.int k n)]
def eB(b:Bool):List D:=[.v (.bool b)]
def eS(s:ByteArray):List D:=[.v (.string s)]
def eL{α:Type}(f:α→List D)(l:List α):List D:=[.sl (l.map f)]
def okN(n:Int):Prop:= -9223372036854775808≤n∧n≤9223372036854775807
def ok8(n:Int):Prop:=0≤n∧n≤255
def okT{α:Type}(_:α):Prop:=True
def okL{α:Type}(ok:α→Prop)(l:List α):Prop:=∀x∈l,ok x
def wN{α:Type}(_:α):Nat:=1
def wS(s:ByteArray):Nat:=s.size+1
def wL{α:Type}(w:α→Nat)(l:List α):Nat:=(l.map w).sum+1
theorem EN{a b c:ByteArray}(h:KZ a b=some c):a.size+b.size≤9223372036854775807∧c=a++b:=by
 unfold KZ at h
 split at h
 ·rename_i h0;cases h;exact⟨h0,rfl⟩
 ·cases h
theorem A5{α:Type}{L:List α}{i:Nat}(h:(i:Int)<(L.length:Int)):∃x,rdI L (i:Int)=some x∧L.drop i=x::L.drop (i+1):=by
 have hi:i<L.length:=by omega
 exact⟨L[i],by simp[rdI,hi],by rw[List.drop_eq_getElem_cons hi]⟩
theorem A6{α:Type}{L:List α}{i:Nat}(h:¬(i:Int)<(L.length:Int)):L.drop i=[]:=List.drop_of_length_le (by omega)
theorem BB{α:Type}{enc:α→List D}{xs:List α}:(xs.map enc).take xs.length=xs.map enc:=by
 rw[List.take_of_length_le (by simp)]
end Go.Fw
