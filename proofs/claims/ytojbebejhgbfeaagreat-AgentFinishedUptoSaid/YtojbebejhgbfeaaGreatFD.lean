/- Rules of a walk. -/
import Derived.Test.YtojbebejhgbfeaaGreatFC
open And renaming intro->XC
open List renaming all_eq_true->XD,getElem?_eq_none->XF,getElem?_eq_some_iff->XG,length_map->XH,replicate->XI,take_of_length_le->XJ,drop_zero->XK,length_take->XL,map_append->XM,mem_cons_of_mem->XN,map_congr_left->XO,map_take->XP,map_drop->XQ,mem_cons_self->XR,getElem?_inj->XS,length_drop->XU,nil_append->XV,getElem?_cons_zero->XW,getElem?_cons_succ->XX,mem_map->XY,take_append_drop->XZ,mem_of_getElem?->X0,map_id->X1,take_succ_cons->X2,map_replicate->X3,length_append->X4,getElem?_nil->X5,length_cons->X6,cons_append->X7,length_nil->X8,take_zero->X9,map_cons->Ya,all_cons->Yb,map_nil->Yc
open Option renaming some->Yd,none->Ye,join_some->Yf
open Go renaming Program->Yg,FuncId->Yh,MapEntry->Yi,IntKind->Yj,World->Yk
open PLift renaming up->Yl
open Bool renaming true->Ym,false->Yn,and_eq_true->Yo,true_and->Yp,and_true->Yq
open Nat renaming zero_add->Yr,le_refl->Ys,add_zero->Yt
set_option linter.unusedVariables false
set_option linter.unusedSimpArgs false
set_option linter.unusedSectionVars false
namespace Go.Fw
noncomputable def shut{α:Sort _}(x:α):α:=Exists.choose (⟨x,rfl⟩:∃y,y=x)
theorem gR{α:Sort _}(x:α):shut x=x:=Exists.choose_spec (⟨x,rfl⟩:∃y,y=x)
noncomputable def FI:=shut @gF
theorem Lj:@FI=@gF:=gR _
noncomputable def Mx:=shut @s8
theorem Nj:@Mx=@s8:=gR _
noncomputable def sG:=shut @n9
theorem My:@sG=@n9:=gR _
noncomputable def sD:=shut @w9
theorem HB:@sD=@w9:=gR _
noncomputable def KN:=shut @kD
theorem Ct:@KN=@kD:=gR _
noncomputable def zR:=shut @gD
theorem HA:@zR=@gD:=gR _
noncomputable def s1:=shut @jE
theorem MA:@s1=@jE:=gR _
noncomputable def sS:=shut @AN
theorem OI:@sS=@AN:=gR _
noncomputable def En:=shut @yg
theorem Hy:@En=@yg:=gR _
noncomputable def sK:=shut @ub
theorem tI:@sK=@ub:=gR _
noncomputable def sN:=shut @xk
theorem Mw:@sN=@xk:=gR _
noncomputable def sU:=shut @uc
theorem Af:@sU=@uc:=gR _
noncomputable def sC:=shut @KR
theorem Mz:@sC=@KR:=gR _
noncomputable def sL:=shut @xU
theorem Hz:@sL=@xU:=gR _
noncomputable def sE:=shut @NV
theorem Eo:@sE=@NV:=gR _
def sA:=Yl (XC Lj (XC Nj (XC My (XC HB (XC Ct (XC HA (XC MA (XC OI (XC Hy (XC tI (XC Mw (XC Af (XC Mz (XC Hz Eo))))))))))))))
theorem oS{P:Yg}{s:St}{K:Out→Prop}{op:jS}(h:AN P op s K=jE P op s K):sS P op s K=s1 P op s K:=by simp only[sA.down];exact h
section
variable {P:Yg} {s:St} {K:Out→Prop}
theorem HC{x:O}:s1 P (.mv x) s K=(
 match s.ev x with
 |some v=>K ⟨Yd v,[]⟩
 |none=>False):=by
 simp only[sA.down];rfl
def Mu:=Yl (fun(P:Yg) (s:St) (K:Out→Prop) (x:O)=>(oS (P:=P) (s:=s) (K:=K) (op:= .mv x) rfl).trans HC)
theorem yz{c:O}{x:O}{y:O}:s1 P (.pick c x y) s K=(
 match s.eZ c with
 |some (.bool t)=>En t (s.ev x) (s.ev y) K
 |_=>False):=by
 simp only[sA.down];rfl
def Eh:=Yl (fun(P:Yg) (s:St) (K:Out→Prop) (c:O) (x:O) (y:O)=>(oS (P:=P) (s:=s) (K:=K) (op:= .pick c x y) rfl).trans yz)
theorem CD{x:O}:s1 P (.box x) s K=(
 match s.ev x with
 |some (.one a)=>K ⟨Yd (.one (.c (.pt s.heap.length 0))),[(s.heap.length,.box a.cells)]⟩
 |_=>False):=by
 simp only[sA.down];rfl
def Ho:=Yl (fun(P:Yg) (s:St) (K:Out→Prop) (x:O)=>(oS (P:=P) (s:=s) (K:=K) (op:= .box x) rfl).trans CD)
theorem yx{cs:List C}:s1 P (.zbox cs) s K=(
 K ⟨Yd (.one (.c (.pt s.heap.length 0))),[(s.heap.length,.box cs)]⟩):=by
 simp only[sA.down];rfl
def Ef:=Yl (fun(P:Yg) (s:St) (K:Out→Prop) (cs:List C)=>(oS (P:=P) (s:=s) (K:=K) (op:= .zbox cs) rfl).trans yx)
theorem vb{zero:List C}{parts:List (Nat×Nat×O)}:s1 P (.build zero parts) s K=(
 match zH s zero parts with
 |some cs=>K ⟨Yd (.one (.agg cs)),[]⟩
 |none=>False):=by
 simp only[sA.down];rfl
def Ak:=Yl (fun(P:Yg) (s:St) (K:Out→Prop) (zero:List C) (parts:List (Nat×Nat×O))=>(oS (P:=P) (s:=s) (K:=K) (op:= .build zero parts) rfl).trans vb)
theorem sH{sz:Nat}{parts:List O}:s1 P (.bslice sz parts) s K=(
 match xc s parts with
 |some as=>match od s.heap sz [] as with
  |some (rows,wr,p)=>p∧K ⟨Yd (.one (.c (.own s.heap.length 0 0 rows.length Ye))),wr++[(s.heap.length,.arr 0 sz rows)]⟩
  |none=>False
 |none=>False):=by
 simp only[sA.down];rfl
def FE:=Yl (fun(P:Yg) (s:St) (K:Out→Prop) (sz:Nat) (parts:List O)=>(oS (P:=P) (s:=s) (K:=K) (op:= .bslice sz parts) rfl).trans sH)
theorem yB{n:Option Nat}{x:O}:s1 P (.load n x) s K=(
 match s.e9 x with
 |some (.pt id off)=>match hp s.heap id with
  |some (.box cells)=>s5 n (cells.drop off) K
  |_=>False
 |some (.pe id ep row off)=>match hp s.heap id with
  |some (.arr e _ rows)=>ep=e∧cD rows row off n K
  |_=>False
 |some (.fp cells)=>s5 n (cells.map .d) K
 |_=>False):=by
 simp only[sA.down];rfl
def Ej:=Yl (fun(P:Yg) (s:St) (K:Out→Prop) (n:Option Nat) (x:O)=>(oS (P:=P) (s:=s) (K:=K) (op:= .load n x) rfl).trans yB)
theorem uY{n:Nat}{a:O}{x:O}:s1 P (.store n a x) s K=(
 match s.ev x with
 |some (.one v)=>(v.cells.length=n∧0<n)∧match s.e9 a with
  |some (.pt id off)=>match hp s.heap id with
   |some (.box cells)=>off+n≤cells.length∧K ⟨Ye,[(id,.box (cf cells off v.cells))]⟩
   |_=>False
  |some (.pe id ep row off)=>match rN s.heap [] v.cells with
   |some (ds,wr,p)=>p∧match hp (fE s.heap wr) id with
    |some (.arr e sz rows)=>ep=e∧eu rows row off n ds (Ps wr id e sz K)
    |_=>False
   |none=>False
  |_=>False
 |_=>False):=by
 simp only[sA.down];rfl
def Ag:=Yl (fun(P:Yg) (s:St) (K:Out→Prop) (n:Nat) (a:O) (x:O)=>(oS (P:=P) (s:=s) (K:=K) (op:= .store n a x) rfl).trans uY)
theorem sF{off:Nat}{x:O}:s1 P (.fieldA off x) s K=(
 match s.e9 x with
 |some (.pt id o)=>ret K (.pt id (o+off))
 |some (.pe id ep row o)=>match hp s.heap id with
  |some (.arr e _ _)=>ep=e∧ret K (.pe id ep row (o+off))
  |_=>False
 |some (.fp cells)=>ret K (.fp (cells.drop off))
 |_=>False):=by
 simp only[sA.down];rfl
def xz:=Yl (fun(P:Yg) (s:St) (K:Out→Prop) (off:Nat) (x:O)=>(oS (P:=P) (s:=s) (K:=K) (op:= .fieldA off x) rfl).trans sF)
theorem uZ{off:Nat}{n:Option Nat}{x:O}:s1 P (.field off n x) s K=(
 match s.ev x with
 |some (.one (.agg cs))=>s5 n (cs.drop off) K
 |_=>False):=by
 simp only[sA.down];rfl
def Ah:=Yl (fun(P:Yg) (s:St) (K:Out→Prop) (off:Nat) (n:Option Nat) (x:O)=>(oS (P:=P) (s:=s) (K:=K) (op:= .field off n x) rfl).trans uZ)
theorem l5{sz:Nat}{x:O}{i:O}:s1 P (.indexA sz x i) s K=(
 match s.eZ i with
 |some (.int _ j)=>match s.e9 x with
  |some (.d (.sl rows))=>BT rows j sz K
  |some (.own id ep off len _)=>(0≤j∧j<len)∧match hp s.heap id with
   |some (.arr e sz' rows)=>(ep=e∧sz'=sz∧off+j.toNat<rows.length)∧ret K (.pe id ep (off+j.toNat) 0)
   |_=>False
  |_=>False
 |_=>False):=by
 simp only[sA.down];rfl
def FD:=Yl (fun(P:Yg) (s:St) (K:Out→Prop) (sz:Nat) (x:O) (i:O)=>(oS (P:=P) (s:=s) (K:=K) (op:= .indexA sz x i) rfl).trans l5)
theorem Ep{x:O}{i:O}:s1 P (.sidx x i) s K=(
 match s.eZ x with
 |some (.string b)=>match s.eZ i with
  |some (.int _ j)=>KH b j K
  |_=>False
 |_=>False):=by
 simp only[sA.down];rfl
def Lf:=Yl (fun(P:Yg) (s:St) (K:Out→Prop) (x:O) (i:O)=>(oS (P:=P) (s:=s) (K:=K) (op:= .sidx x i) rfl).trans Ep)
theorem qY{sz:Nat}{x:O}{lo:Option O}{hi:Option O}{mx:Option O}:s1 P (.slice sz x lo hi mx) s K=(
 match s.e9 x with
 |some (.d (.sl rows))=>match mx with
  |none=>match gg s lo 0 with
   |some l=>match gg s hi rows.length with
    |some h=>(0≤l∧l≤h∧h≤rows.length∧qB rows sz)∧ret K (.d (.sl ((rows.take h.toNat).drop l.toNat)))
    |none=>False
   |none=>False
  |some mx=>match gg s (Yd mx) 0 with
   |some m=>match gg s lo 0 with
    |some l=>match gg s hi rows.length with
     |some h=>(0≤l∧l=h∧h=m∧m≤rows.length)∧K ⟨Yd (.one (.c (.own s.heap.length 0 0 0 Ye))),[(s.heap.length,.arr 0 sz [])]⟩
     |none=>False
    |none=>False
   |none=>False
 |some (.d (.v (.slice Ye 0 0)))=>match mx with
  |none=>match gg s lo 0 with
   |some l=>match gg s hi 0 with
    |some h=>(l=0∧h=0)∧ey K (.slice Ye 0 0)
    |none=>False
   |none=>False
  |some _=>False
 |some (.own id ep off len cap)=>match hp s.heap id with
  |some (.arr e sz' _)=>(ep=e∧sz'=sz)∧match cap with
   |none=>match mx with
    |none=>match gg s lo 0 with
     |some l=>match gg s hi len with
      |some h=>(0≤l∧l≤h∧h≤len)∧ret K (.own id ep (off+l.toNat) (h.toNat-l.toNat) Ye)
      |none=>False
     |none=>False
    |some mx=>match gg s (Yd mx) 0 with
     |some m=>match gg s lo 0 with
      |some l=>match gg s hi len with
       |some h=>(0≤l∧l≤h∧h≤m∧m≤len)∧ret K (.own id ep (off+l.toNat) (h.toNat-l.toNat) (Yd (m.toNat-l.toNat)))
       |none=>False
      |none=>False
     |none=>False
   |some c=>match gg s mx c with
    |some m=>match gg s lo 0 with
     |some l=>match gg s hi len with
      |some h=>(0≤l∧l≤h∧h≤m∧m≤c)∧ret K (.own id ep (off+l.toNat) (h.toNat-l.toNat) (Yd (m.toNat-l.toNat)))
      |none=>False
     |none=>False
    |none=>False
  |_=>False
 |_=>False):=by
 simp only[sA.down];rfl
def He:=Yl (fun(P:Yg) (s:St) (K:Out→Prop) (sz:Nat) (x:O) (lo:Option O) (hi:Option O) (mx:Option O)=>(oS (P:=P) (s:=s) (K:=K) (op:= .slice sz x lo hi mx) rfl).trans qY)
theorem xA{x:O}{lo:Option O}{hi:Option O}:s1 P (.sslice x lo hi) s K=(
 match s.eZ x with
 |some (.string b)=>match gg s lo 0 with
  |some l=>match gg s hi b.size with
   |some h=>(0≤l∧l≤h∧h≤b.size)∧ey K (.string (b.extract l.toNat h.toNat))
   |none=>False
  |none=>False
 |_=>False):=by
 simp only[sA.down];rfl
def FC:=Yl (fun(P:Yg) (s:St) (K:Out→Prop) (x:O) (lo:Option O) (hi:Option O)=>(oS (P:=P) (s:=s) (K:=K) (op:= .sslice x lo hi) rfl).trans xA)
theorem HE{f:Yh}{cs:List O}:s1 P (.fn f cs) s K=(
 match zB s cs with
 |some l=>ret K (.fn f l)
 |none=>False):=by
 simp only[sA.down];rfl
def Mv:=Yl (fun(P:Yg) (s:St) (K:Out→Prop) (f:Yh) (cs:List O)=>(oS (P:=P) (s:=s) (K:=K) (op:= .fn f cs) rfl).trans HE)
theorem yF{sz:Nat}{u1:Nat}{x:O}{y:O}:s1 P (.app sz u1 x y) s K=(
 match s.e9 x with
 |some cx=>match s.e9 y with
  |some cy=>match kQ (hp s.heap) sz cy with
   |some (new,p)=>p∧kE s sz cx new K
   |none=>False
  |none=>False
 |none=>False):=by
 simp only[sA.down];rfl
def Nh:=Yl (fun(P:Yg) (s:St) (K:Out→Prop) (sz:Nat) (u1:Nat) (x:O) (y:O)=>(oS (P:=P) (s:=s) (K:=K) (op:= .app sz u1 x y) rfl).trans yF)
theorem Es{sz:Nat}{u1:Nat}{zero:List D}{x:O}{y:O}:s1 P (.appz sz u1 zero x y) s K=(
 match s.e9 x with
 |some cx=>match s.eZ y with
  |some (.int _ l)=>(0≤l∧l≤4294967296)∧kE s sz cx (XI l.toNat zero) K
  |_=>False
 |none=>False):=by
 simp only[sA.down];rfl
def Lh:=Yl (fun(P:Yg) (s:St) (K:Out→Prop) (sz:Nat) (u1:Nat) (zero:List D) (x:O) (y:O)=>(oS (P:=P) (s:=s) (K:=K) (op:= .appz sz u1 zero x y) rfl).trans Es)
theorem Er{sz:Nat}{x:O}{y:O}:s1 P (.copy sz x y) s K=(
 match s.e9 x with
 |some (.own id ep off len cap)=>match s.e9 y with
  |some cy=>match kQ (hp s.heap) sz (wz len cy)with
   |some (new,p)=>p∧ug s sz (.own id ep off len cap) (min new.length len) (new.take (min new.length len)) (Yd (.one (.c (.d (.v (.int .i64 (min new.length len:Nat))))))) K
   |none=>False
  |none=>False
 |_=>False):=by
 simp only[sA.down];rfl
def Lg:=Yl (fun(P:Yg) (s:St) (K:Out→Prop) (sz:Nat) (x:O) (y:O)=>(oS (P:=P) (s:=s) (K:=K) (op:= .copy sz x y) rfl).trans Er)
theorem u0{sz:Nat}{zero:List D}{x:O}:s1 P (.clear sz zero x) s K=(
 match s.e9 x with
 |some (.own id ep off len cap)=>ug s sz (.own id ep off len cap) len (XI len zero) Ye K
 |_=>False):=by
 simp only[sA.down];rfl
def Hm:=Yl (fun(P:Yg) (s:St) (K:Out→Prop) (sz:Nat) (zero:List D) (x:O)=>(oS (P:=P) (s:=s) (K:=K) (op:= .clear sz zero x) rfl).trans u0)
theorem HD{sz:Nat}{u1:Nat}{zero:List D}{l:O}{c:O}:s1 P (.mk sz u1 zero l c) s K=(
 match s.eZ l with
 |some (.int _ l)=>match s.eZ c with
  |some (.int _ c)=>(0≤l∧l≤c∧c≤4294967296)∧K ⟨Yd (.one (.c (.own s.heap.length 0 0 l.toNat Ye))),[(s.heap.length,.arr 0 sz (XI l.toNat zero))]⟩
  |_=>False
 |_=>False):=by
 simp only[sA.down];rfl
def OH:=Yl (fun(P:Yg) (s:St) (K:Out→Prop) (sz:Nat) (u1:Nat) (zero:List D) (l:O) (c:O)=>(oS (P:=P) (s:=s) (K:=K) (op:= .mk sz u1 zero l c) rfl).trans HD)
theorem yE{f:Yh}{args:List O}:s1 P (.call f args) s K=(
 match xc s args with
 |some as=>my P f as s K
 |none=>False):=by
 simp only[sA.down];rfl
def Em:=Yl (fun(P:Yg) (s:St) (K:Out→Prop) (f:Yh) (args:List O)=>(oS (P:=P) (s:=s) (K:=K) (op:= .call f args) rfl).trans yE)
theorem va{g:O}{args:List O}:s1 P (.callv g args) s K=(
 match s.e9 g with
 |some (.fn f cs)=>match xc s args with
  |some as=>my P f (as++cs.map fun c=> .c (.pt c.1 c.2)) s K
  |none=>False
 |_=>False):=by
 simp only[sA.down];rfl
def Aj:=Yl (fun(P:Yg) (s:St) (K:Out→Prop) (g:O) (args:List O)=>(oS (P:=P) (s:=s) (K:=K) (op:= .callv g args) rfl).trans va)
theorem Cz{x:O}{i:Nat}:s1 P (.ext x i) s K=(
 match s.ev x with
 |some (.tup l)=>match l[i]? with
  |some a=>K ⟨Yd (.one a),[]⟩
  |none=>False
 |_=>False):=by
 simp only[sA.down];rfl
def Hk:=Yl (fun(P:Yg) (s:St) (K:Out→Prop) (x:O) (i:Nat)=>(oS (P:=P) (s:=s) (K:=K) (op:= .ext x i) rfl).trans Cz)
theorem Cy{x:O}:s1 P (.len x) s K=(
 match s.e9 x with
 |some (.d (.sl rows))=>ey K (.int .i64 rows.length)
 |some (.d (.v (.slice _ m _)))=>ey K (.int .i64 m)
 |some (.own id ep _ len _)=>match hp s.heap id with
  |some (.arr e _ _)=>ep=e∧ey K (.int .i64 len)
  |_=>False
 |_=>False):=by
 simp only[sA.down];rfl
def Hj:=Yl (fun(P:Yg) (s:St) (K:Out→Prop) (x:O)=>(oS (P:=P) (s:=s) (K:=K) (op:= .len x) rfl).trans Cy)
theorem yy{x:O}:s1 P (.slen x) s K=(
 match s.eZ x with
 |some (.string b)=>ey K (.int .i64 b.size)
 |_=>False):=by
 simp only[sA.down];rfl
def Eg:=Yl (fun(P:Yg) (s:St) (K:Out→Prop) (x:O)=>(oS (P:=P) (s:=s) (K:=K) (op:= .slen x) rfl).trans yy)
theorem CB{x:O}:s1 P (.cap x) s K=(
 match s.e9 x with
 |some (.own id ep _ _ (Yd c))=>match hp s.heap id with
  |some (.arr e _ _)=>ep=e∧ey K (.int .i64 c)
  |_=>False
 |_=>False):=by
 simp only[sA.down];rfl
def Hn:=Yl (fun(P:Yg) (s:St) (K:Out→Prop) (x:O)=>(oS (P:=P) (s:=s) (K:=K) (op:= .cap x) rfl).trans CB)
theorem CE{op:BinOp}{x:O}{y:O}:s1 P (.bin op x y) s K=(
 match s.eZ x with
 |some a=>match s.eZ y with
  |some b=>fA op a b (ey K)
  |none=>False
 |none=>False):=by
 simp only[sA.down];rfl
def Hp:=Yl (fun(P:Yg) (s:St) (K:Out→Prop) (op:BinOp) (x:O) (y:O)=>(oS (P:=P) (s:=s) (K:=K) (op:= .bin op x y) rfl).trans CE)
theorem Am{neg:Bool}{x:O}:s1 P (.eqnil neg x) s K=(
 match s.e9 x with
 |some (.d (.v (.slice Ye 0 0)))=>ey K (.bool (!neg))
 |_=>False):=by
 simp only[sA.down];rfl
theorem yC{x:O}:s1 P (.istr x) s K=(
 match s.eZ x with
 |some (.int _ n)=>ey K (.string (Utf8.encode n))
 |_=>False):=by
 simp only[sA.down];rfl
def Ek:=Yl (fun(P:Yg) (s:St) (K:Out→Prop) (x:O)=>(oS (P:=P) (s:=s) (K:=K) (op:= .istr x) rfl).trans yC)
theorem Cu{x:O}:s1 P (.not x) s K=(
 match s.eZ x with
 |some (.bool t)=>ey K (.bool (nb t))
 |_=>False):=by
 simp only[sA.down];rfl
def Hf:=Yl (fun(P:Yg) (s:St) (K:Out→Prop) (x:O)=>(oS (P:=P) (s:=s) (K:=K) (op:= .not x) rfl).trans Cu)
theorem CF{neg:Bool}{x:O}{y:O}:s1 P (.beq neg x y) s K=(
 match s.eZ x with
 |some (.bool a)=>match s.eZ y with
  |some (.bool b)=>ey K (.bool ((a==b)!=neg))
  |_=>False
 |_=>False):=by
 simp only[sA.down];rfl
def Hq:=Yl (fun(P:Yg) (s:St) (K:Out→Prop) (neg:Bool) (x:O) (y:O)=>(oS (P:=P) (s:=s) (K:=K) (op:= .beq neg x y) rfl).trans CF)
theorem Cv{x:O}:s1 P (.neg x) s K=(
 match s.eZ x with
 |some (.int k n)=>ey K (.int k (k.wrap (0-n)))
 |_=>False):=by
 simp only[sA.down];rfl
def Hg:=Yl (fun(P:Yg) (s:St) (K:Out→Prop) (x:O)=>(oS (P:=P) (s:=s) (K:=K) (op:= .neg x) rfl).trans Cv)
theorem Cx{x:O}{y:O}:s1 P (.max x y) s K=(
 match s.eZ x with
 |some (.int k a)=>match s.eZ y with
  |some (.int _ b)=>ey K (.int k (if a<b then b else a))
  |_=>False
 |_=>False):=by
 simp only[sA.down];rfl
def Hi:=Yl (fun(P:Yg) (s:St) (K:Out→Prop) (x:O) (y:O)=>(oS (P:=P) (s:=s) (K:=K) (op:= .max x y) rfl).trans Cx)
theorem Cw{x:O}{y:O}:s1 P (.min x y) s K=(
 match s.eZ x with
 |some (.int k a)=>match s.eZ y with
  |some (.int _ b)=>ey K (.int k (if b<a then b else a))
  |_=>False
 |_=>False):=by
 simp only[sA.down];rfl
def Hh:=Yl (fun(P:Yg) (s:St) (K:Out→Prop) (x:O) (y:O)=>(oS (P:=P) (s:=s) (K:=K) (op:= .min x y) rfl).trans Cw)
theorem yA{x:O}{r:List O}:s1 P (.mins x r) s K=(
 match s.eZ x with
 |some (.int k a)=>px s r k a K
 |_=>False):=by
 simp only[sA.down];rfl
def Ei:=Yl (fun(P:Yg) (s:St) (K:Out→Prop) (x:O) (r:List O)=>(oS (P:=P) (s:=s) (K:=K) (op:= .mins x r) rfl).trans yA)
theorem yD{k:Yj}{x:O}:s1 P (.conv k x) s K=(
 match s.eZ x with
 |some (.int _ n)=>ey K (.int k (k.wrap n))
 |_=>False):=by
 simp only[sA.down];rfl
def El:=Yl (fun(P:Yg) (s:St) (K:Out→Prop) (k:Yj) (x:O)=>(oS (P:=P) (s:=s) (K:=K) (op:= .conv k x) rfl).trans yD)
theorem CA{neg:Bool}{plan:List (Nat×Nat)}{x:O}{y:O}:s1 P (.eqs neg plan x y) s K=(
 match s.ev x with
 |some (.one (.agg xs))=>match s.ev y with
  |some (.one (.agg ys))=>match jw plan xs ys with
   |some b=>ey K (.bool (O4 neg b))
   |none=>False
  |_=>False
 |_=>False
):=by
 simp only[sA.down];rfl
def Hl:=Yl (fun(P:Yg) (s:St) (K:Out→Prop) (neg:Bool) (plan:List (Nat×Nat)) (x:O) (y:O)=>(oS (P:=P) (s:=s) (K:=K) (op:= .eqs neg plan x y) rfl).trans CA)
theorem Ai{neg:Bool}{x:O}:sS P (.eqnil neg x) s K=(
 match s.e9 x with
 |some (.d (.v (.slice Ye 0 0)))=>ey K (.bool (!neg))
 |some (.d (.sl rows))=>Gr neg rows.isEmpty K
 |some (.own id ep _ len _)=>match hp s.heap id with
  |some (.arr e _ _)=>ep=e∧Gr neg (len==0) K
  |_=>False
 |_=>False):=by
 simp only[sA.down];rfl
end
section
variable {P:Yg} {dst:Option Nat} {op:jS} {fD:List Nat} {lone:Lone} {r:List cq} {s:St} {K:St→Prop} {g:Nat} {want:Bool} {h:List (Option bw)} {i:Nat} {aO:List (Nat×AV)} {wl:List (Nat×List (Nat×bw))}
variable {n m:Nat} {Q:XT→St→Prop} {a b:AC} {k:List Gw}
theorem AA{out:Out}:Mx P r dst s K out=FI P r (s.apply dst out) K:=by
 simp only[sA.down];first|exact EL|exact@EL
theorem vA:FI P [] s K=K s:=by
 simp only[sA.down];first|exact xr|exact@xr
theorem tM:FI P (⟨dst,Ye,op,fD,lone⟩::r) s K=sS P op s (Mx P r dst s K):=by
 simp only[sA.down];first|exact uG|exact@uG
theorem tL:FI P (⟨dst,Yd (g,want),op,fD,lone⟩::r) s K=match lk s.aO g with
 |some (.one (.c (.d (.v (.bool t)))))=>sG P t want dst op r g s K
 |some (.tup [])=>Mx P r dst s K dr
 |_=>False:=by
 simp only[sA.down];first|exact uF|exact@uF
theorem AD:sG P Ym Ym dst op r g s K=sS P op ⟨fU s.aO g Ym,s.heap⟩ (Mx P r dst ⟨fU s.aO g Ym,s.heap⟩ K):=by
 simp only[sA.down];first|exact EP|exact@EP
theorem AH:sG P Yn Yn dst op r g s K=sS P op ⟨fU s.aO g Yn,s.heap⟩ (Mx P r dst ⟨fU s.aO g Yn,s.heap⟩ K):=by
 simp only[sA.down];first|exact EU|exact@EU
theorem AF:sG P Ym Yn dst op r g s K=Mx P r dst ⟨fU s.aO g Ym,s.heap⟩ K dr:=by
 simp only[sA.down];first|exact ER|exact@ER
theorem AG:sG P Yn Ym dst op r g s K=Mx P r dst ⟨fU s.aO g Yn,s.heap⟩ K dr:=by
 simp only[sA.down];first|exact ET|exact@ET
theorem EG{v:Option AV}:KN P h r i dst lone aO wl K ⟨v,[]⟩=sD P h r (i+1) (fO aO dst v) wl K:=by
 simp only[sA.down];first|exact Ik|exact@Ik
theorem Az:sD P h [] i aO wl K=K ⟨aO,fE h (gO wl)⟩:=by
 simp only[sA.down];first|exact D5|exact@D5
theorem xH:sD P h (⟨dst,Ye,op,fD,lone⟩::r) i aO wl K=s1 P op ⟨aO,oq h wl fD⟩ (KN P h r i dst lone aO wl K):=by
 simp only[sA.down];first|exact zV|exact@zV
theorem xG:sD P h (⟨dst,Yd (g,want),op,fD,lone⟩::r) i aO wl K=match lk aO g with
 |some (.one (.c (.d (.v (.bool t)))))=>zR P h t want dst op fD lone r i g aO wl K
 |some (.tup [])=>KN P h r i dst lone aO wl K dr
 |_=>False:=by
 simp only[sA.down];first|exact zU|exact@zU
theorem HV:zR P h Ym Ym dst op fD lone r i g aO wl K=s1 P op ⟨fU aO g Ym,oq h wl fD⟩ (KN P h r i dst lone (fU aO g Ym) wl K):=by
 simp only[sA.down];first|exact ME|exact@ME
theorem HY:zR P h Yn Yn dst op fD lone r i g aO wl K=s1 P op ⟨fU aO g Yn,oq h wl fD⟩ (KN P h r i dst lone (fU aO g Yn) wl K):=by
 simp only[sA.down];first|exact MH|exact@MH
theorem HW:zR P h Ym Yn dst op fD lone r i g aO wl K=KN P h r i dst lone (fU aO g Ym) wl K dr:=by
 simp only[sA.down];first|exact MF|exact@MF
theorem HX:zR P h Yn Ym dst op fD lone r i g aO wl K=KN P h r i dst lone (fU aO g Yn) wl K dr:=by
 simp only[sA.down];first|exact MG|exact@MG
theorem AJ{x y:Option AV}{K:Out→Prop}:En Ym x y K=match x with|some v=>K ⟨Yd v,[]⟩|none=>False:=by
 simp only[sA.down];first|exact Ff|exact@Ff
theorem AK{x y:Option AV}{K:Out→Prop}:En Yn x y K=match y with|some v=>K ⟨Yd v,[]⟩|none=>False:=by
 simp only[sA.down];first|exact Fg|exact@Fg
theorem Au:sK P n m .skip k Q s=sN P n m k Q s:=by
 simp only[sA.down];first|exact D0|exact@D0
theorem EF{ops:List cq}:sK P n m (.reg ops) k Q s=FI P ops s (sN P n m k Q):=by
 simp only[sA.down];first|exact GD|exact@GD
theorem Av{ops:List cq}:sK P n m (.regd ops) k Q s=sD P s.heap ops 0 s.aO [] (sN P n m k Q):=by
 simp only[sA.down];first|exact D1|exact@D1
theorem EB:sK P n m (.seq a b) k Q s=sK P n m a (.seq b::k) Q s:=by
 simp only[sA.down];first|exact GA|exact@GA
theorem xF{id:Nat}:sK P n m (.block id a) k Q s=sK P n m a (.bZ id::k) Q s:=by
 simp only[sA.down];first|exact zT|exact@zT
theorem Aw:sK P n m (.loop a) k Q s=Fe P n m (.loop a) (sU P n m k Q) s:=by
 simp only[sA.down];first|exact D2|exact@D2
theorem EC:sK P n m (.sem a) k Q s=Fe P n m a (sU P n m k Q) s:=by
 simp only[sA.down];first|exact GB|exact@GB
theorem Ax{id:Nat}:sK P n m (.exit id) k Q s=sU P n m k Q (.exit id) s:=by
 simp only[sA.down];first|exact D3|exact@D3
theorem ED:sK P n m .ret k Q s=sU P n m k Q .ret s:=by
 simp only[sA.down];first|exact GC|exact@GC
theorem Ay{c:O}:sK P n m (.cond c a b) k Q s=match s.eZ c with
 |some (.bool t)=>sC P n m t a b k Q s
 |_=>False:=by
 simp only[sA.down];first|exact D4|exact@D4
theorem CL:sC P n m Ym a b k Q s=sK P n m a k Q s:=by
 simp only[sA.down];first|exact ML|exact@ML
theorem CM:sC P n m Yn a b k Q s=sK P n m b k Q s:=by
 simp only[sA.down];first|exact MM|exact@MM
theorem xI:sN P n m (.seq b::k) Q s=sK P n m b k Q s:=by
 simp only[sA.down];first|exact AQ|exact@AQ
theorem xK{id:Nat}:sN P n m (.bZ id::k) Q s=sN P n m k Q s:=by
 simp only[sA.down];first|exact AS|exact@AS
theorem xJ:sN P n m [] Q s=Q .normal s:=by
 simp only[sA.down];first|exact AR|exact@AR
theorem pA{i:Nat}:sU P n m (.seq b::k) Q (.exit i) s=sU P n m k Q (.exit i) s:=by
 simp only[sA.down];first|exact qL|exact@qL
theorem pC{i id:Nat}:sU P n m (.bZ id::k) Q (.exit i) s=if i=id then sN P n m k Q s else sU P n m k Q (.exit i) s:=by
 simp only[sA.down];first|exact qN|exact@qN
theorem pB{i:Nat}:sU P n m [] Q (.exit i) s=Q (.exit i) s:=by
 simp only[sA.down];first|exact qM|exact@qM
theorem rl:sU P n m (.seq b::k) Q .ret s=sU P n m k Q .ret s:=by
 simp only[sA.down];first|exact tD|exact@tD
theorem rp{id:Nat}:sU P n m (.bZ id::k) Q .ret s=sU P n m k Q .ret s:=by
 simp only[sA.down];first|exact tF|exact@tF
theorem rm:sU P n m [] Q .ret s=Q .ret s:=by
 simp only[sA.down];first|exact tE|exact@tE
theorem tN{I:Nat→St→Prop}{j i:Nat}:sL n m I j Q (.exit i) s=Q (.exit i) s:=by
 simp only[sA.down];first|exact vS|exact@vS
theorem vB{I:Nat→St→Prop}{j:Nat}:sL n m I j Q .ret s=Q .ret s:=by
 simp only[sA.down];first|exact xT|exact@xT
end
end Go.Fw
namespace Go.Fw
section
variable {P:Yg} {n m:Nat} {Q:XT→St→Prop} {s:St} {a b:AC} {k:List Gw}
theorem pF{f:Yh}{A:dG}(hf:nv P f=Yd A.er){args:List A1}{H H':List (Option bw)}{res:List A1}(hlen:args.length≤A.ntmps)
 (h:sK P A.ntmps H.length A.code [] (sE H.length A.pT res H') ⟨gh 0 args,H⟩):aW P f args H (bJ res) H':=by
 rw[tI,Eo]at h
 exact IZ hf hlen (GF h)
theorem HZ{pT:List RV}{res:List A1}{H':List (Option bw)}:sE m pT res H' .ret s=mD s pT fun l=>Fin m s.heap l res H':=by rw[Eo];rfl
theorem EH{pT:List RV}{res:List A1}{H':List (Option bw)}:sE m pT res H' .normal s=mD s pT fun l=>Fin m s.heap l res H':=by rw[Eo];rfl
theorem OU{body:AC}(I:Nat→St→Prop)(h0:∃k s0,View n m s s0∧I k s0)
 (hr:∀j s,I j s→sK P n m body [] (sL n m I j (sU P n m k Q)) s):Fe P n m (.loop body) (sU P n m k Q) s:=by
 rw[Af]
 rw[tI,Hz,Af]at hr
 exact CO I h0 hr
theorem Nn{I:Nat→St→Prop}{j:Nat}{s':St}(h:∃k' s'',k'<j∧View n m s' s''∧I k' s''):sL n m I j Q .normal s':=by
 rw[Hz];exact h
theorem dq{p:Prop}[Decidable p](h1:p→sK P n m a k Q s)(h0:¬p→sK P n m b k Q s):sC P n m (decide p) a b k Q s:=by
 rw[tI]at h1 h0;rw[Mz];exact Gh h1 h0
theorem Pb{p:Prop}[Decidable p](hp:¬p)(h1:sK P n m b k Q s):sC P n m (decide p) a b k Q s:=dq (fun h=>(hp h).elim) fun _=>h1
end
section
variable {P:Yg} {dst:Option Nat} {op:jS} {fD:List Nat} {lone:Lone} {r:List cq} {s:St} {K:St→Prop} {g:Nat} {want:Bool} {h:List (Option bw)} {i:Nat} {aO:List (Nat×AV)} {wl:List (Nat×List (Nat×bw))}
theorem NM{p:Prop}[Decidable p](h1:p→sG P Ym want dst op r g s K)(h0:¬p→sG P Yn want dst op r g s K):sG P (decide p) want dst op r g s K:=by
 rw[My]at*;exact CV h1 h0
theorem NN{p:Prop}[Decidable p](h1:p→zR P h Ym want dst op fD lone r i g aO wl K)(h0:¬p→zR P h Yn want dst op fD lone r i g aO wl K):zR P h (decide p) want dst op fD lone r i g aO wl K:=by
 rw[HA]at*;exact Iu h1 h0
theorem AB{v:Option AV}{w:Nat×bw}{wr:List (Nat×bw)}{ts:List Nat}(ha:eP aO (w::wr) ts=Ym):KN P h r i dst (.lone ts) aO wl K ⟨v,w::wr⟩=sD P h r (i+1) (fO aO dst v) (wl++[(i,w::wr)]) K:=by
 simp only[Ct,HB];rw[MD,tp ha];simp[pz]
section
variable {wr:List (Nat×bw)} {id a:Nat} {ts:List Nat}
theorem Ks:eP aO wr []=Ym:=by first|(simp only[eP];done)|(simp only[fu,gC];done)|simp[eP,fu,gC,bne]
theorem Fb:eP aO wr (a::ts)=(fu (lk aO a) wr&&eP aO wr ts):=by first|(simp only[eP];done)|(simp only[fu,gC];done)|simp[eP,fu,gC,bne]
theorem Fc{ep off len:Nat}{cap:Option Nat}:fu (Yd (.one (.c (.own id ep off len cap)))) wr=wr.all fun p=>p.1 !=id:=by first|(simp only[eP];done)|(simp only[fu,gC];done)|simp[eP,fu,gC,bne]
theorem Ku{off:Nat}:fu (Yd (.one (.c (.pt id off)))) wr=wr.all fun p=>p.1 !=id:=by first|(simp only[eP];done)|(simp only[fu,gC];done)|simp[eP,fu,gC,bne]
theorem Kv{ep row off:Nat}:fu (Yd (.one (.c (.pe id ep row off)))) wr=wr.all fun p=>p.1 !=id:=by first|(simp only[eP];done)|(simp only[fu,gC];done)|simp[eP,fu,gC,bne]
theorem MS{x:D}:fu (Yd (.one (.c (.d x)))) wr=Ym:=by first|(simp only[eP];done)|(simp only[fu,gC];done)|simp[eP,fu,gC,bne]
theorem Kw{x:List D}:fu (Yd (.one (.c (.fp x)))) wr=Ym:=by first|(simp only[eP];done)|(simp only[fu,gC];done)|simp[eP,fu,gC,bne]
theorem Kx{f:Yh}{x:List (Nat×Nat)}:fu (Yd (.one (.c (.fn f x)))) wr=Ym:=by first|(simp only[eP];done)|(simp only[fu,gC];done)|simp[eP,fu,gC,bne]
theorem Gy:(([]:List (Nat×bw)).all fun p=>p.1 !=id)=Ym:=by first|(simp only[eP];done)|(simp only[fu,gC];done)|simp[eP,fu,gC,bne]
theorem DZ{j:Nat}{b:bw}:(((j,b)::wr).all fun p=>p.1 !=id)=(!(j==id)&&wr.all fun p=>p.1 !=id):=by first|(simp only[eP];done)|(simp only[fu,gC];done)|simp[eP,fu,gC,bne]
end
end
def C.P4:C→Bool
 | .d _=>Ym
 |_=>Yn
def bw.Df:bw→Bool
 | .arr _ _ _=>Ym
 | .box cells=>cells.all C.P4
 | .map ents=>kf ents
theorem A1.vX{a:A1}(h:a.gz=Ym)(ρ:Nat→Nat):a.ff ρ=a:=by
 have hc:∀c:C,c.gz=Ym→c.ff ρ=c:=fun c hc=>by cases c<;>simp_all [C.gz,C.ff]
 cases a with
 |c x=>simp only[A1.ff];rw[hc x h]
 |agg cs=>
  simp only[A1.gz,XD]at h
  simp only[A1.ff]
  congr 1
  conv=>rhs;rw[←X1 cs]
  exact XO fun c hx=>hc c (h c hx)
theorem A1.pb{a:A1}(h:a.gz=Ym)(H:eg):a.live H:=by
 have hc:∀c:C,c.gz=Ym→c.live H:=fun c hc=>by cases c<;>simp_all [C.gz,C.live]
 cases a with
 |c x=>exact hc x h
 |agg cs=>
  simp only[A1.gz,XD]at h
  exact fun c hx=>hc c (h c hx)
theorem tf{ents:List (Value×A1)}(h:kf ents=Ym)(ρ:Nat→Nat):ents.map (fun e=>(e.1,e.2.ff ρ))=ents:=by
 simp only[kf,XD]at h
 conv=>rhs;rw[←X1 ents]
 exact XO fun e he=>by rw[A1.vX (h e he)];rfl
theorem De{ents:List (Value×A1)}(h:kf ents=Ym)(H:eg):(bw.map ents).live H:=by
 simp only[kf,XD]at h
 exact fun e he=>A1.pb (h e he) H
theorem bw.IH{b:bw}(h:b.Df=Ym)(ρ:Nat→Nat):b.ff ρ=b:=by
 cases b with
 |arr e sz rows=>rfl
 |box cells=>
  simp only[bw.Df,XD]at h
  simp only[bw.ff]
  congr 1
  conv=>rhs;rw[←X1 cells]
  refine XO fun c hc=>?_
  have:=h c hc
  cases c<;>simp_all [C.P4,C.ff]
 |map ents=>simp only[bw.ff];rw[tf h]
theorem bw.Gb{b:bw}(h:b.Df=Ym)(H:eg):b.live H:=by
 cases b with
 |arr e sz rows=>trivial
 |box cells=>
  simp only[bw.Df,XD]at h
  intro c hc
  have:=h c hc
  cases c<;>simp_all [C.P4,C.live]
 |map ents=>exact De h H
def Pt(h:List (Option bw)):List Nat→List (Option bw)→Prop
 |[],[]=>True
 |j::ρ,Yd b::H=>(hp h j=Yd b∧b.Df=Ym)∧Pt h ρ H
 |_,_=>False
theorem EO{h:List (Option bw)}:∀{ρ:List Nat} {H:List (Option bw)},Pt h ρ H→ρ.length=H.length∧∀(k:Nat),k<H.length→∃j b,ρ[k]? =Yd j∧hp H k=Yd b∧hp h j=Yd b∧b.Df=Ym
 |[],[],_=>⟨rfl,fun k hk=>by simp at hk⟩
 |j::ρ,Yd b::H,⟨⟨h1,h0⟩,h2⟩=>by
  obtain⟨g1,g2⟩:=EO h2
  refine⟨by simp[g1],fun k hk=>?_⟩
  cases k with
  |zero=>exact⟨j,b,rfl,rfl,h1,h0⟩
  |succ k=>
   obtain⟨j',b',q1,q2,q3⟩:=g2 k (by simpa using hk)
   exact⟨j',b',by simpa using q1,by rw[jU];exact q2,q3⟩
 |j::ρ,Ye::H,h=>h.elim
 |[],_::_,h=>h.elim
 |_::_,[],h=>h.elim
theorem Gk{P:Yg}{f:Yh}{as':List A1}{H H':List (Option bw)}{res:AV}(ρ:List Nat){as:List A1}{s:St}{K:Out→Prop}
 (hc:aW P f as' H res H') (has:as=as'.map (A1.ff (rn ρ s.heap.length))) (hlive:∀a∈as',a.live (hp H))
 (hin:Pt s.heap ρ H) (hnd:ρ.Nodup) (hK:K ⟨Yd (res.ff (rn ρ s.heap.length)),e8 0 H' (rn ρ s.heap.length)⟩):my P f as s K:=by
 obtain⟨hlen,hg⟩:=EO hin
 refine⟨_,ti ρ hc has hlive hlen (fun k hk=>?_) (fun i j k hi hj=>?_) (fun k bZ hb=>?_) rfl,hK⟩
 ·obtain⟨j,b,q1,q2,q3⟩:=hg k hk
  rw[q2];simp
 ·exact(XS (XG.1 hi).1 hnd).1 (hi.trans hj.symm)
 ·have hk:k<H.length:=by
   by_cases hlt:k<H.length
   ·exact hlt
   ·simp[hp,XF (by omega:H.length≤k)]at hb
  obtain⟨j,b,q1,q2,q3,q4⟩:=hg k hk
  rw[q2]at hb;cases hb
  rw[bw.IH q4]
  refine⟨?_,bw.Gb q4 _⟩
  simp only[rn,q1]
  exact q3
end Go.Fw
namespace Go.Fw
theorem mq{G:eg}:∀{cs:List C} {K K':List C→Prop},(∀x,K x→K' x)→py G cs K→py G cs K'
 |[],_,_,hi,h=>hi _ h
 | .d x::cs,K,K',hi,h=>by
   have h':py G cs fun ds=>K (.d (yR x)::ds):=h
   exact mq (cs:=cs) (K':=fun ds=>K' (.d (yR x)::ds)) (fun ds=>hi _) h'
 | .own id ep off len cap::cs,K,K',hi,h=>by
   simp only[py]at h⊢
   split at h
   ·exact⟨h.1,h.2.1,mq (fun ds=>hi _) h.2.2⟩
   ·exact h.elim
 | .fn f []::cs,K,K',hi,h=>by
   have h':py G cs fun ds=>K (.fn f []::ds):=h
   exact mq (cs:=cs) (K':=fun ds=>K' (.fn f []::ds)) (fun ds=>hi _) h'
 | .pt _ _::_,_,_,_,h=>h.elim
 | .pe _ _ _ _::_,_,_,_,h=>h.elim
 | .fp _::_,_,_,_,h=>h.elim
 | .fn _ (_::_)::_,_,_,_,h=>h.elim
 | .mref _::_,_,_,_,h=>h.elim
theorem nj{G:eg}:∀{as:List A1} {K K':List A1→Prop},(∀x,K x→K' x)→mr G as K→mr G as K'
 |[],_,_,hi,h=>hi _ h
 | .c x::r,K,K',hi,h=>by
   refine mq (cs:=[x]) (fun ds hd=>?_) h
   split at hd
   ·exact nj (fun as=>hi _) hd
   ·exact hd.elim
 | .agg cs::r,K,K',hi,h=>by
   refine mq (cs:=cs) (fun ds hd=>?_) h
   exact nj (fun as=>hi _) hd
theorem Gj{P:Yg}{f:Yh}{as as':List A1}{s:St}{K:Out→Prop}{res:AV}(hc:aW P f as' [] res [])(hb:mr (hp s.heap) as (·=as'))(hpl:res.plain=Ym)(hK:K ⟨Yd res,[]⟩):my P f as s K:=
 ⟨_,IY (nj (fun x hx=>by subst hx;exact⟨res,hc,hpl,rfl⟩) hb),hK⟩
def D.flat:D→Bool
 | .v _=>Ym
 | .w _=>Ym
 |_=>Yn
def C.flat:C→Bool
 | .d x=>x.flat
 | .fp _=>Yn
 |_=>Ym
def A1.flat:A1→Bool
 | .c x=>x.flat
 | .agg cs=>cs.all C.flat
def AV.flat:AV→Bool
 | .one a=>a.flat
 | .tup l=>l.all A1.flat
def MI:Option bw→Prop
 |some (.box cells)=>cells.all C.flat=Ym
 |some (.arr _ _ rows)=>∀row∈rows,row.all D.flat=Ym
 |some (.map ents)=>∀e∈ents,e.2.flat=Ym
 |none=>True
def Bh:List (Option bw)→Prop
 |[]=>True
 |b::r=>MI b∧Bh r
theorem x6:∀{H:List (Option bw)},Bh H→∀k bZ,hp H k=Yd bZ→MI (Yd bZ)
 |[],_,k,bZ,h=>by simp[hp]at h
 |b::r,⟨h1,h2⟩,k,bZ,h=>by
  cases k with
  |zero=>have:b=Yd bZ:=by simpa[hp]using h
         subst this;exact h1
  |succ k=>rw[jU]at h;exact x6 h2 k bZ h
theorem jP{α:Type}{enc:α→List D}(h:∀x,(enc x).all D.flat=Ym)(xs:List α):∀row∈xs.map enc,row.all D.flat=Ym:=by
 intro row hr
 obtain⟨x,_,rfl⟩:=XY.1 hr
 exact h x
section
variable {φ:gP} {F F':Nat→Prop} {G:eg} {w:Yk}
theorem dh.flat{d:D}{v:Value}(hf:d.flat=Ym)(h:dh w F d v):dh w F' d v:=by
 cases h with
 |v _ hx=>exact .v _ hx
 |raw _ hx=>exact .raw _ hx
 |nil=>simp[D.flat]at hf
 |sl=>simp[D.flat]at hf
theorem dA.flat{c:C}{v:Value}(hf:c.flat=Ym)(h:dA φ F G w c v):dA φ F' G w c v:=by
 cases c with
 |d x=>exact dh.flat hf h
 |fp _=>simp[C.flat]at hf
 |_=>exact h
theorem eD.flat{cs:List C}{vs:List Value}(hf:cs.all C.flat=Ym)(h:eD φ F G w cs vs):eD φ F' G w cs vs:=by
 induction h with
 |nil=>exact .nil
 |cons x _ ih=>
  simp only[Yb,Yo]at hf
  exact .cons (dA.flat hf.1 x) (ih hf.2)
theorem cm.flat{a:A1}{v:Value}(hf:a.flat=Ym)(h:cm φ F G w a v):cm φ F' G w a v:=by
 cases a with
 |c x=>exact dA.flat hf h
 |agg cs=>obtain⟨vs,rfl,h⟩:=h;exact⟨vs,rfl,eD.flat hf h⟩
theorem ec.flat{a:AV}{v:Value}(hf:a.flat=Ym)(h:ec φ F G w a v):ec φ F' G w a v:=by
 cases a with
 |one x=>exact cm.flat hf h
 |tup l=>
  obtain⟨vs,rfl,h⟩:=h
  refine⟨vs,rfl,?_⟩
  simp only[AV.flat]at hf
  induction h with
  |nil=>exact .nil
  |cons x _ ih=>
   simp only[Yb,Yo]at hf
   exact .cons (cm.flat hf.1 x) (ih hf.2)
end
theorem zq{φ φ2:gP}{F F':Nat→Prop}{G G':eg}{w:Yk}{ρ:Nat→Nat}{ents:List (Value×A1)}{es:List Yi}(hf:∀e∈ents,e.2.flat=Ym)
 (h:bX (fun(e:Value×A1) (m:Yi)=>m.key=e.1∧cm φ F' G w e.2 m.val) ents es) (hup:∀(a:A1) v,a.flat=Ym→cm φ F' G w a v→cm φ2 F G' w (a.ff ρ) v):
 bX (fun(e:Value×A1) (m:Yi)=>m.key=e.1∧cm φ2 F G' w e.2 m.val) (ents.map fun e=>(e.1,e.2.ff ρ)) es:=by
 induction h with
 |nil=>exact .nil
 |cons a _ ih=>exact .cons ⟨a.1,hup _ _ (hf _ (XR ..)) a.2⟩ (ih fun e he=>hf e (XN _ he))
theorem Gi{P:Yg}{f:Yh}{as:List A1}{s:St}{K:Out→Prop}
 (h:mr (hp s.heap) as fun as'=>∃res H',aW P f as' [] res H'∧res.flat=Ym∧Bh H'∧K ⟨Yd (res.ff (s.heap.length+·)),e8 0 H' (s.heap.length+·)⟩):ko P f as s K:=by
 intro φ F w vs hr hA
 obtain⟨as',⟨res,H',hc,hpl,hfl,hK⟩,hA'⟩:=ly hr (F':=fun b=>F b∨∃id o,φ id=Yd (b,o)) (fun b hb=> .inl hb) (fun id b o hb=> .inr ⟨id,o,hb⟩) (fun _=>Ye) (hp []) h hA
 refine(hc (fun _=>Ye) _ w vs ⟨fun id bZ hb=>(by simp[hp]at hb),fun id x hx=>(by cases hx),fun i j b o b' o' hi=>(by cases hi),fun b hb=>⟨?_,fun id b' o hi=>(by cases hi)⟩⟩ hA').mono ?_
 ·rcases hb with hb|⟨id,o,hb⟩
  ·exact(hr.fY b hb).1
  ·exact hr.lt hb
 ·rintro v w' ⟨φ',F',hv,hr',hs,hf⟩
  have hrest:∀b,b<w.heap.size→w'.heap[b]? =w.heap[b]? :=fun b hb=>hf.rest b hb fun id o hi=>(by cases hi)
  have hnew:∀k b o,φ' k=Yd (b,o)→w.heap.size≤b:=fun k b o hk=>by
   rcases hf.own k b o hk with⟨_,_,h⟩|h
   ·cases h
   ·exact h
  have hout:∀k,s.heap.length≤k→hp s.heap k=Ye:=fun k hk=>by simp[hp,XF hk]
  obtain⟨w1,w2⟩:=ka (s.heap.length+·) H' 0 s.heap (by intro i j _ _ he;omega)
  simp only[Yr]at w1 w2
  have wlt:∀k,k<s.heap.length→hp (fE s.heap (e8 0 H' (s.heap.length+·))) k=hp s.heap k:=fun k hk=>w2 k fun j _ he=>by omega
  have wge:∀k,hp H' k=Ye→hp (fE s.heap (e8 0 H' (s.heap.length+·))) (s.heap.length+k)=Ye:=fun k hk=>by
   rw[w2 (s.heap.length+k) fun j hj he=>hj (by rw[show j=k by omega];exact hk)];exact hout _ (by omega)
  let φ2:gP:=fun k=>if k<s.heap.length then φ k else φ' (k-s.heap.length)
  have p1:∀k,k<s.heap.length→φ2 k=φ k:=fun k hk=>if_pos hk
  have p2:∀k,φ2 (s.heap.length+k)=φ' k:=fun k=>by
   show(if _ then _ else _)=_
   rw[if_neg (by omega),show s.heap.length+k-s.heap.length=k by omega]
  have lts:∀k,hp s.heap k≠Ye→k<s.heap.length:=fun k hk=>by
   by_cases h:k<s.heap.length
   ·exact h
   ·exact(hk (hout k (by omega))).elim
  have gl:ix φ F (hp s.heap) w φ2 F (hp (fE s.heap (e8 0 H' (s.heap.length+·)))) w':=by
   refine⟨fun b hb=>⟨hb,hrest b (hr.fY b hb).1⟩,fun id=>?_⟩
   by_cases hid:id<s.heap.length
   ·rw[wlt id hid];exact gX.same (p1 id hid) fun b o hb=>hrest b (hr.lt hb)
   ·rw[hout id (by omega)];trivial
  have cup:∀{c:C} {v:Value},c.flat=Ym→dA φ' F' (hp H') w' c v→dA φ2 F (hp (fE s.heap (e8 0 H' (s.heap.length+·)))) w' (c.ff (s.heap.length+·)) v:=
   fun hcf hc=>dA.up w1 (fun k _=>p2 k) (dA.flat hcf hc)
  refine⟨⟨_,φ2,F,hK,(fun av hav=>by cases hav;exact ec.up w1 (fun k _=>p2 k) (ec.flat hpl hv)),?_,gl,⟨hf.size,fun b hb _=>hrest b hb,fun id b o hi=>?_,fun b hb=> .inl hb,hf.io⟩⟩⟩
  ·refine⟨fun id bZ hb=>?_,fun id x hx=>?_,fun i j b o b' o' hi hj hbb=>?_,fun b hb=>⟨Nat.lt_of_lt_of_le (hr.fY b hb).1 hf.size,fun id b' o hi=>?_⟩⟩
   ·by_cases hid:id<s.heap.length
    ·rw[wlt id hid]at hb
     exact kj.mono gl (p1 id hid) (fun b o hφ=>hrest b (hr.lt hφ)) (hr.bZ id bZ hb)
    ·obtain⟨k,rfl⟩:∃k,id=s.heap.length+k:=⟨id-s.heap.length,by omega⟩
     cases hk:hp H' k with
     |none=>rw[wge k hk]at hb;cases hb
     |some blk'=>
      rw[w1 k blk' hk]at hb;cases hb
      have hB:=hr'.bZ k blk' hk
      have hfb:=x6 hfl k blk' hk
      cases blk' with
      |box cells=>
       obtain⟨b,o,cs,T,h1,h2,h4,h3⟩:=hB
       refine⟨b,o,cs,T,by rw[p2];exact h1,h2,by simpa using h4,?_⟩
       have h3:=eD.flat (F':=F) hfb h3
       rw[XH]
       exact bX.jN h3 fun _ _ hb=>dA.up w1 (fun k _=>p2 k) hb
      |arr e sz rows=>
       rcases hB with⟨h1,h2⟩|⟨b,o,cs,T,h1,h2,h3,h4,h5⟩
       ·exact .inl ⟨by rw[p2];exact h1,h2⟩
       ·refine .inr ⟨b,o,cs,T,by rw[p2];exact h1,h2,h3,h4,fun i row hi j d hj=>?_⟩
        obtain⟨u,hu,hd⟩:=h5 i row hi j d hj
        exact⟨u,hu,dh.flat (XD.1 (hfb row (X0 hi)) d (X0 hj)) hd⟩
      |map ents=>
       obtain⟨b,es,clock,h1,h2,h4,h3⟩:=hB
       refine⟨b,es,clock,by rw[p2];exact h1,h2,h4,?_⟩
       exact zq hfb h3 fun a v ha hv=>cm.up w1 (fun k _=>p2 k) (cm.flat ha hv)
   ·by_cases hid:id<s.heap.length
    ·rw[wlt id hid];rw[p1 id hid]at hx;exact hr.rT id x hx
    ·obtain⟨k,rfl⟩:∃k,id=s.heap.length+k:=⟨id-s.heap.length,by omega⟩
     rw[p2]at hx
     have:=hr'.rT k x hx
     cases hk:hp H' k with
     |none=>rw[hk]at this;cases this
     |some blk'=>rw[w1 k blk' hk];rfl
   ·subst hbb
    by_cases hii:i<s.heap.length<;>by_cases hjj:j<s.heap.length
    ·rw[p1 i hii]at hi;rw[p1 j hjj]at hj;exact hr.inj i j b o b o' hi hj rfl
    ·obtain⟨k,rfl⟩:∃k,j=s.heap.length+k:=⟨j-s.heap.length,by omega⟩
     rw[p1 i hii]at hi;rw[p2]at hj
     have:=hr.lt hi;have:=hnew _ _ _ hj;omega
    ·obtain⟨k,rfl⟩:∃k,i=s.heap.length+k:=⟨i-s.heap.length,by omega⟩
     rw[p1 j hjj]at hj;rw[p2]at hi
     have:=hr.lt hj;have:=hnew _ _ _ hi;omega
    ·obtain⟨k,rfl⟩:∃k,i=s.heap.length+k:=⟨i-s.heap.length,by omega⟩
     obtain⟨l,rfl⟩:∃k,j=s.heap.length+k:=⟨j-s.heap.length,by omega⟩
     rw[p2]at hi hj
     rw[hr'.inj k l b o b o' hi hj rfl]
   ·by_cases hid:id<s.heap.length
    ·rw[p1 id hid]at hi;exact(hr.fY b hb).2 id b' o hi
    ·obtain⟨k,rfl⟩:∃k,id=s.heap.length+k:=⟨id-s.heap.length,by omega⟩
     rw[p2]at hi
     have:=hnew _ _ _ hi;have:=(hr.fY b hb).1;omega
  ·by_cases hid:id<s.heap.length
   ·rw[p1 id hid]at hi;exact .inl ⟨id,o,hi⟩
   ·obtain⟨k,rfl⟩:∃k,id=s.heap.length+k:=⟨id-s.heap.length,by omega⟩
    rw[p2]at hi;exact .inr (hnew _ _ _ hi)
theorem Ds{P:Yg}{f:Yh}{as as':List A1}{s:St}{K:Out→Prop}{res:AV}{H':List (Option bw)}(hc:aW P f as' [] res H')(hb:mr (hp s.heap) as (·=as'))(hpl:res.flat=Ym)(hfl:Bh H')
 (hK:K ⟨Yd (res.ff (rn [] s.heap.length)),e8 0 H' (rn [] s.heap.length)⟩):my P f as s K:=by
 have e:rn [] s.heap.length=(s.heap.length+·):=rfl
 rw[e]at hK
 exact⟨_,Gi (nj (fun x hx=>by subst hx;exact⟨res,H',hc,hpl,hfl,rfl⟩) hb),hK⟩
end Go.Fw
namespace Go.Fw
abbrev Src:=List (Option Nat)
def pS(σ:Src)(φ:gP):gP:=fun k=>((σ[k]?).join).bind φ
def xd(σ:Src)(φ:gP)(F:Nat→Prop):Nat→Prop:=fun b=>F b∨∃j o,φ j=Yd (b,o)∧∀k:Nat,σ[k]?≠Yd (Yd j)
def kn(rows:List (List D))(off len:Nat)(R:List (List D)):Prop:=R=(rows.drop off).take len
theorem C.oZ{φ φ':gP}{F F':Nat→Prop}{G G':eg}{w w':Yk}(hm:∀b,F b→F' b∧w'.heap[b]? =w.heap[b]?){c:C}{v:Value}(hd:c.gz=Ym)(h:dA φ F G w c v):dA φ' F' G' w' c v:=by
 cases c with
 |d x=>exact dh.mono hm h
 |_=>cases hd
theorem A1.oZ{φ φ':gP}{F F':Nat→Prop}{G G':eg}{w w':Yk}(hm:∀b,F b→F' b∧w'.heap[b]? =w.heap[b]?){c:A1}{v:Value}(hd:c.gz=Ym)(h:cm φ F G w c v):cm φ' F' G' w' c v:=by
 cases c with
 |c x=>exact C.oZ hm hd h
 |agg cs=>
  obtain⟨vs,rfl,h⟩:=h
  simp only[A1.gz,XD]at hd
  refine⟨vs,rfl,?_⟩
  unfold eD at*
  induction h with
  |nil=>exact .nil
  |cons a _ ih=>exact .cons (C.oZ hm (hd _ (XR ..)) a) (ih fun c hc=>hd c (XN _ hc))
theorem Dd{φ φ':gP}{F F':Nat→Prop}{G G':eg}{w w':Yk}(hm:∀b,F b→F' b∧w'.heap[b]? =w.heap[b]?){ents:List (Value×A1)}{es:List Yi}(hd:kf ents=Ym)(h:bX (fun(e:Value×A1) (m:Yi)=>m.key=e.1∧cm φ F G w e.2 m.val) ents es):
 bX (fun(e:Value×A1) (m:Yi)=>m.key=e.1∧cm φ' F' G' w' e.2 m.val) ents es:=by
 simp only[kf,XD]at hd
 induction h with
 |nil=>exact .nil
 |cons a _ ih=>exact .cons ⟨a.1,A1.oZ hm (hd _ (XR ..)) a.2⟩ (ih fun c hc=>hd c (XN _ hc))
def pD(j:Nat):Src→Bool
 |[]=>Ym
 |some i::r=>(i !=j)&&pD j r
 |none::r=>pD j r
theorem l7{j:Nat}:∀{σ:Src},pD j σ=Ym→∀k:Nat,σ[k]?≠Yd (Yd j)
 |[],_,k=>by simp
 |some i::r,h,k=>by
  simp only[pD,Yo,bne_iff_ne]at h
  cases k with
  |zero=>simpa using h.1
  |succ k=>simpa using l7 h.2 k
 |none::r,h,k=>by
  cases k with
  |zero=>simp
  |succ k=>simpa using l7 (σ:=r) h k
def sw(σ:Src)(H':List (Option bw)):List (Nat×Nat)→List (Nat×Nat)→Prop
 |[],[]=>True
 |(k,o')::r',(j,o)::r=>(σ[k]? =Yd (Yd j)∧o'=o∧match hp H' k with|some (.box _)=>True|_=>False)∧sw σ H' r' r
 |_,_=>False
def Ac(h:List (Option bw))(σ:Src)(H':List (Option bw)):C→C→Prop
 | .d x,.d y=>x=y∨x=yR y
 | .d (.sl R),.own j ep off len _=>pD j σ=Ym∧match hp h j with
   |some (.arr e _ rows)=>ep=e∧off+len≤rows.length∧kn rows off len R
   |_=>False
 | .own k ep' off' len' cap',.d (.v (.slice Ye 0 0))=>(σ[k]? =Yd Ye∧off'=0∧len'=0∧cap'=Ye)∧match hp H' k with
   |some (.arr e' _ _)=>ep'=e'
   |_=>False
 | .own k ep' _ _ (Yd _),.own _ _ _ _ _=>match hp H' k with
   |some (.arr e' _ _)=>ep'<e'
   |_=>False
 | .own k ep' off' len' Ye,.own j ep off len _=>(σ[k]? =Yd (Yd j)∧off'=off∧len'=len)∧match hp h j with
   |some (.arr e _ _)=>ep=e∧match hp H' k with
    |some (.arr e' _ rows)=>ep'=e'∧off'+len'≤rows.length
    |_=>False
   |_=>False
 | .pt k off',.pt j off=>(σ[k]? =Yd (Yd j)∧off'=off)∧match hp H' k with|some (.box _)=>True|_=>False
 | .pe k ep' row' off',.pe j ep row off=>(σ[k]? =Yd (Yd j)∧row'=row∧off'=off)∧match hp h j with
   |some (.arr e _ _)=>ep=e∧match hp H' k with
    |some (.arr e' _ rows)=>ep'=e'∧row'<rows.length
    |_=>False
   |_=>False
 | .fp x,.fp y=>x=y
 | .mref k,.mref j=>σ[k]? =Yd (Yd j)∧match hp H' k with|some (.map _)=>True|_=>False
 | .fn f' caps',.fn f gV=>f'=f∧sw σ H' caps' gV
 |_,_=>False
def Ck(h:List (Option bw))(σ:Src)(H':List (Option bw)):List C→List C→Prop
 |[],[]=>True
 |x::l,y::m=>Ac h σ H' x y∧Ck h σ H' l m
 |_,_=>False
def OG(h:List (Option bw))(σ:Src)(H':List (Option bw)):A1→A1→Prop
 | .c x,.c y=>Ac h σ H' x y
 | .agg xs,.agg ys=>Ck h σ H' xs ys
 |_,_=>False
def yt(h:List (Option bw))(σ:Src)(H':List (Option bw)):List A1→List A1→Prop
 |[],[]=>True
 |x::l,y::m=>OG h σ H' x y∧yt h σ H' l m
 |_,_=>False
def OE(h:List (Option bw))(σ:Src)(H':List (Option bw)):AV→AV→Prop
 | .one x,.one y=>OG h σ H' x y
 | .tup xs,.tup ys=>yt h σ H' xs ys
 |_,_=>False
def mB(h:List (Option bw))(σ:Src)(H':List (Option bw))(s:List (Nat×AV)):List (Nat×AV)→Prop
 |[]=>True
 |(t,v)::l=>(match lk s t with|some u=>OE h σ H' v u|none=>False)∧mB h σ H' s l
def r9(rows' rows:List (List D)):Prop:=rows'=rows∨∃r,rows'=rows++r
def FB(h:List (Option bw))(σ:Src)(H':List (Option bw)):Option Nat→Option bw→Prop
 |some j,Yd (.arr _ sz rows)=>match hp h j with
  |some (.arr _ sz' rows')=>sz'=sz∧r9 rows' rows
  |_=>False
 |some j,Yd (.box cells)=>match hp h j with
  |some (.box cells')=>Ck h σ H' cells cells'
  |_=>False
 |some j,Yd (.map ents)=>match hp h j with
  |some (.map ents')=>ents'=ents∧kf ents=Ym
  |_=>False
 |none,Yd (.arr _ _ rows)=>rows=[]
 |none,Ye=>True
 |_,_=>False
def lj(h:List (Option bw))(σ0:Src)(H0:List (Option bw)):Src→List (Option bw)→Prop
 |[],[]=>True
 |j::σ,b::H'=>FB h σ0 H0 j b∧lj h σ0 H0 σ H'
 |_,_=>False
def mP(i:Nat)(j:Option Nat):Option bw→Option bw→Prop
 |some (.arr e sz rows),Yd (.arr e' sz' rows')=>e<e'∨(e=e'∧sz'=sz∧rows.length≤rows'.length∧j=Yd i)
 |some (.box _),Yd (.box _)=>j=Yd i
 |some (.map _),Yd (.map _)=>j=Yd i
 |none,_=>True
 |_,_=>False
def j6:Nat→List (Option bw)→Src→List (Option bw)→Prop
 |_,[],_,_=>True
 |i,b::h,j::σ,b'::H'=>mP i j b b'∧j6 (i+1) h σ H'
 |_,_,_,_=>False
theorem uU{h:List (Option bw)}{σ0:Src}{H0:List (Option bw)}:∀{σ:Src} {H':List (Option bw)},lj h σ0 H0 σ H'→σ.length=H'.length∧∀(k:Nat) j,σ[k]? =Yd j→∃b,H'[k]? =Yd b∧FB h σ0 H0 j b
 |[],[],_=>⟨rfl,fun k j hk=>by simp at hk⟩
 |j::σ,b::H',⟨h1,h2⟩=>by
  obtain⟨g1,g2⟩:=uU h2
  refine⟨by simp[g1],fun k j' hk=>?_⟩
  cases k with
  |zero=>simp at hk;subst hk;exact⟨b,rfl,h1⟩
  |succ k=>simpa using g2 k j' (by simpa using hk)
 |[],_::_,h=>h.elim
 |_::_,[],h=>h.elim
theorem xW:∀{i:Nat} {h:List (Option bw)} {σ:Src} {H':List (Option bw)},j6 i h σ H'→∀(k:Nat) b,h[k]? =Yd b→∃j b',σ[k]? =Yd j∧H'[k]? =Yd b'∧mP (i+k) j b b'
 |i,[],_,_,_,k,b,hk=>by simp at hk
 |i,b::h,j::σ,b'::H',⟨h1,h2⟩,k,x,hk=>by
  cases k with
  |zero=>simp at hk;subst hk;exact⟨j,b',rfl,rfl,h1⟩
  |succ k=>
   obtain⟨j2,b2,q1,q2,q3⟩:=xW h2 k x (by simpa using hk)
   exact⟨j2,b2,by simpa using q1,by simpa using q2,by rw[show i+(k+1)=i+1+k by omega];exact q3⟩
 |_,_::_,[],_,h,_,_,_=>h.elim
 |_,_::_,_::_,[],h,_,_,_=>h.elim
section
variable {φ:gP} {F:Nat→Prop} {w:Yk} {h H':List (Option bw)} {σ:Src}
theorem gE{k j:Nat}(hk:σ[k]? =Yd (Yd j)):pS σ φ k=φ j:=by simp[pS,hk]
theorem Ft{k:Nat}(hk:σ[k]? =Yd Ye):pS σ φ k=Ye:=by simp[pS,hk]
theorem lX{k:Nat}{x}(hx:pS σ φ k=Yd x):∃j,σ[k]? =Yd (Yd j)∧φ j=Yd x:=by
 simp only[pS,Option.bind_eq_some_iff]at hx
 obtain⟨j,hj,hx⟩:=hx
 refine⟨j,?_,hx⟩
 cases hs:σ[k]? with
 |none=>simp[hs]at hj
 |some y=>simp[hs]at hj;rw[hj]
theorem Pp{k:Nat}{b:Option bw}{x:Option bw}(hb:H'[k]? =Yd b)(hx:hp H' k=x):b=x:=by
 rw[←hx];simp[hp,hb]
theorem Ed(hr:Rel φ F (hp h) w)(hB:lj h σ H' σ H'){c' c:C}{v:Value}(hs:Ac h σ H' c' c)(hc:dA φ F (hp h) w c v):dA (pS σ φ) (xd σ φ F) (hp H') w c' v:=by
 obtain⟨hlen,hB⟩:=uU hB
 unfold Ac at hs
 split at hs
 ·rcases hs with rfl|rfl
  ·exact dh.mono (fun b hb=>⟨.inl hb,rfl⟩) hc
  ·exact dh.mono (fun b hb=>⟨.inl hb,rfl⟩) (rz hc)
 ·rename_i R j ep off len cap
  obtain⟨hno,hs⟩:=hs
  split at hs
  ·rename_i e sz rows hG
   obtain⟨rfl,hl,rfl⟩:=hs
   exact dA.frozen hr hG hc hl (fun b hb=> .inl hb) (fun b o hb=> .inr ⟨j,o,hb,l7 hno⟩)
  ·exact hs.elim
 ·rename_i k ep' off' len' cap'
  obtain⟨⟨hk,rfl,rfl,rfl⟩,hs⟩:=hs
  split at hs
  ·rename_i e' sz rows hH
   subst hs
   have hv:v= .slice Ye 0 0:=by cases hc;rfl
   subst hv
   exact⟨ep',sz,rows,hH,Ys _,Ye,0,0,rfl,fun _=>⟨rfl,Ys _,(fun c hc=>by cases hc),(fun _=>by omega),.inl rfl⟩⟩
  ·exact hs.elim
 ·rename_i k ep' off' len' cap' j ep off len cap
  split at hs
  ·rename_i e' sz' rows' hH
   obtain⟨e,sz,rows,hG,hle,A,l,k2,rfl,hA⟩:=hc
   exact⟨e',sz',rows',hH,Nat.le_of_lt hs,A,l,k2,rfl,fun he=>absurd he (Nat.ne_of_lt hs)⟩
  ·exact hs.elim
 ·rename_i k ep' off' len' j ep off len cap
  obtain⟨⟨hk,rfl,rfl⟩,hs⟩:=hs
  obtain⟨e,sz,rows,hG,hle,A,l,k2,rfl,hA⟩:=hc
  rw[hG]at hs
  obtain⟨rfl,hs⟩:=hs
  split at hs
  ·rename_i e' sz' rows' hH
   obtain⟨rfl,hlen'⟩:=hs
   obtain⟨b,hb,hb2⟩:=hB k _ hk
   have hb':=Pp hb hH
   subst hb'
   simp only[FB,hG]at hb2
   obtain⟨rfl,_⟩:=hb2
   obtain⟨rfl,g1,g2,g3,g4⟩:=hA rfl
   refine⟨ep',sz,rows',hH,Ys _,A,l,k2,rfl,fun _=>⟨rfl,g1,(fun c hc=>by cases hc),fun _=>hlen',?_⟩⟩
   rcases g4 with g4|⟨b,o,n,q1,q2⟩
   ·exact .inl g4
   ·exact .inr ⟨b,o,n,by rw[gE hk,q1],q2⟩
  ·exact hs.elim
 ·rename_i k off' j off
  obtain⟨⟨hk,rfl⟩,hs⟩:=hs
  obtain⟨cells,b,o,q1,q2,q3⟩:=hc
  split at hs
  ·rename_i cells' hH
   exact⟨cells',b,o,hH,by rw[gE hk,q2],q3⟩
  ·exact hs.elim
 ·rename_i k ep' row' off' j ep row off
  obtain⟨⟨hk,rfl,rfl⟩,hs⟩:=hs
  obtain⟨e,sz,rows,hG,hle,A,rfl,hA⟩:=hc
  rw[hG]at hs
  obtain⟨rfl,hs⟩:=hs
  split at hs
  ·rename_i e' sz' rows' hH
   obtain⟨rfl,hrow⟩:=hs
   obtain⟨b,hb,hb2⟩:=hB k _ hk
   have hb':=Pp hb hH
   subst hb'
   simp only[FB,hG]at hb2
   obtain⟨rfl,_⟩:=hb2
   obtain⟨b,o,q1,q2,q3⟩:=hA rfl
   exact⟨ep',sz,rows',hH,Ys _,A,rfl,fun _=>⟨b,o,by rw[gE hk,q1],hrow,q3⟩⟩
  ·exact hs.elim
 ·subst hs
  obtain⟨b,o,q1,rfl,q3⟩:=hc
  exact⟨b,o,.inl q1,rfl,fun j d hd=>by obtain⟨u,hu,hd⟩:=q3 j d hd;exact⟨u,hu,dh.mono (fun b hb=>⟨.inl hb,rfl⟩) hd⟩⟩
 ·rename_i k j
  obtain⟨hk,hs⟩:=hs
  obtain⟨ents,b,q1,q2,q3⟩:=hc
  split at hs
  ·rename_i ents' hH
   exact⟨ents',b,hH,by rw[gE hk,q2],q3⟩
  ·exact hs.elim
 ·rename_i f' caps' f gV
  obtain⟨rfl,hs⟩:=hs
  obtain⟨us,rfl,hl,hus⟩:=hc
  have key:∀(caps' gV:List (Nat×Nat)),sw σ H' caps' gV→caps'.length=gV.length∧∀(i:Nat) c',caps'[i]? =Yd c'→∃c,gV[i]? =Yd c∧σ[c'.1]? =Yd (Yd c.1)∧c'.2=c.2∧∃cells,hp H' c'.1=Yd (.box cells):=by
   intro caps'
   induction caps' with
   |nil=>intro gV hc;cases gV with
    |nil=>exact⟨rfl,fun i c hi=>by simp at hi⟩
    |cons _ _=>exact hc.elim
   |cons x r ih=>
    intro gV hc
    cases gV with
    |nil=>exact hc.elim
    |cons y r'=>
     obtain⟨⟨q1,q2,q3⟩,q4⟩:=hc
     obtain⟨g1,g2⟩:=ih r' q4
     refine⟨by simp[g1],fun i c hi=>?_⟩
     cases i with
     |zero=>
      simp at hi;subst hi
      split at q3
      ·rename_i cells hH;exact⟨y,rfl,q1,q2,cells,hH⟩
      ·exact q3.elim
     |succ i=>simpa using g2 i c (by simpa using hi)
  obtain⟨k1,k2⟩:=key _ _ hs
  refine⟨us,rfl,by rw[k1];exact hl,fun i c' hc'=>?_⟩
  obtain⟨c,g1,g2,g3,cells,g4⟩:=k2 i c' hc'
  obtain⟨cells0,b,o,q1,q2,q3⟩:=hus i c g1
  exact⟨cells,b,o,g4,by rw[gE g2,q2],by rw[g3];exact q3⟩
 ·exact hs.elim
theorem uT:∀{a b:List C},Ck h σ H' a b→a.length=b.length
 |[],[],_=>rfl
 |_::_,_::_,h=>congrArg (·+1) (uT h.2)
 |[],_::_,h=>h.elim
 |_::_,[],h=>h.elim
theorem uS(hr:Rel φ F (hp h) w)(hB:lj h σ H' σ H'):∀{cs' cs:List C} {vs:List Value},Ck h σ H' cs' cs→eD φ F (hp h) w cs vs→eD (pS σ φ) (xd σ φ F) (hp H') w cs' vs
 |[],[],vs,_,hc=>by cases hc;exact .nil
 |x::l,y::m,vs,⟨h1,h2⟩,hc=>by
  cases hc with
  |cons a b=>exact .cons (Ed hr hB h1 a) (uS hr hB h2 b)
 |[],_::_,_,h,_=>h.elim
 |_::_,[],_,h,_=>h.elim
theorem Ee(hr:Rel φ F (hp h) w)(hB:lj h σ H' σ H'){c' c:A1}{v:Value}(hs:OG h σ H' c' c)(hc:cm φ F (hp h) w c v):cm (pS σ φ) (xd σ φ F) (hp H') w c' v:=by
 cases c'<;>cases c
 ·exact Ed hr hB hs hc
 ·exact hs.elim
 ·exact hs.elim
 ·obtain⟨vs,rfl,hc⟩:=hc;exact⟨vs,rfl,uS hr hB hs hc⟩
theorem qX(hr:Rel φ F (hp h) w)(hB:lj h σ H' σ H'):∀{cs' cs:List A1} {vs:List Value},yt h σ H' cs' cs→bX (cm φ F (hp h) w) cs vs→bX (cm (pS σ φ) (xd σ φ F) (hp H') w) cs' vs
 |[],[],vs,_,hc=>by cases hc;exact .nil
 |x::l,y::m,vs,⟨h1,h2⟩,hc=>by
  cases hc with
  |cons a b=>exact .cons (Ee hr hB h1 a) (qX hr hB h2 b)
 |[],_::_,_,h,_=>h.elim
 |_::_,[],_,h,_=>h.elim
theorem Ld(hr:Rel φ F (hp h) w)(hB:lj h σ H' σ H'){c' c:AV}{v:Value}(hs:OE h σ H' c' c)(hc:ec φ F (hp h) w c v):ec (pS σ φ) (xd σ φ F) (hp H') w c' v:=by
 cases c'<;>cases c
 ·exact Ee hr hB hs hc
 ·exact hs.elim
 ·exact hs.elim
 ·obtain⟨vs,rfl,hc⟩:=hc;exact⟨vs,rfl,qX hr hB hs hc⟩
def iE:Src→Bool
 |[]=>Ym
 |none::r=>iE r
 |some j::r=>pD j r&&iE r
theorem qf:∀{σ:Src},iE σ=Ym→∀{i k j:Nat},σ[i]? =Yd (Yd j)→σ[k]? =Yd (Yd j)→i=k
 |[],_,i,k,j,h1,_=>by simp at h1
 |none::r,hn,i,k,j,h1,h2=>by
  cases i with
  |zero=>simp at h1
  |succ i=>cases k with
   |zero=>simp at h2
   |succ k=>exact congrArg (·+1) (qf (σ:=r) hn (by simpa using h1) (by simpa using h2))
 |some x::r,hn,i,k,j,h1,h2=>by
  simp only[iE,Yo]at hn
  cases i with
  |zero=>cases k with
   |zero=>rfl
   |succ k=>simp at h1;subst h1;exact(l7 hn.1 k (by simpa using h2)).elim
  |succ i=>cases k with
   |zero=>simp at h2;subst h2;exact(l7 hn.1 i (by simpa using h1)).elim
   |succ k=>exact congrArg (·+1) (qf hn.2 (by simpa using h1) (by simpa using h2))
theorem yr{m:Nat}(hr:Rel φ F (hp h) w)(hB:lj h σ H' σ H')(hn:iE σ=Ym)(hk:j6 0 (h.take m) σ H'):
 Rel (pS σ φ) (xd σ φ F) (hp H') w∧Fr φ F w (pS σ φ) (xd σ φ F) w∧gY m φ F (hp h) w (pS σ φ) (xd σ φ F) (hp H') w:=by
 obtain⟨hlen,hB'⟩:=uU hB
 have mono:∀b,F b→xd σ φ F b∧w.heap[b]? =w.heap[b]? :=fun b hb=>⟨.inl hb,rfl⟩
 refine⟨⟨fun k bZ hb=>?_,fun k x hx=>?_,fun i j b o b' o' hi hj hbb=>?_,fun b hb=>?_⟩,⟨Ys _,fun _ _ _=>rfl,fun k b o hi=>?_,fun b hb=>?_,Io.refl _⟩,⟨fun b hb=>⟨.inl hb,rfl⟩,fun i hi=>?_⟩⟩
 ·have hkl:k<σ.length:=by
   rw[hlen]
   by_cases hlt:k<H'.length
   ·exact hlt
   ·simp[hp,XF (by omega:H'.length≤k)]at hb
  have hj:σ[k]? =Yd σ[k]:=List.getElem?_eq_getElem hkl
  obtain⟨b,hb1,hb2⟩:=hB' k _ hj
  have:b=Yd bZ:=by rw[←hb];simp[hp,hb1]
  subst this
  cases hs:σ[k]with
  |none=>
   rw[hs]at hb2 hj
   cases bZ with
   |arr e sz rows=>exact .inl ⟨Ft hj,hb2⟩
   |box cells=>exact hb2.elim
   |map ents=>exact hb2.elim
  |some j=>
   rw[hs]at hb2 hj
   cases bZ with
   |arr e sz rows=>
    simp only[FB]at hb2
    split at hb2
    ·rename_i e' sz' rows' hG
     obtain⟨rfl,hrows⟩:=hb2
     obtain⟨r,rfl⟩:∃r,rows'=rows++r:=by
      rcases hrows with rfl|h
      ·exact⟨[],by simp⟩
      ·exact h
     have:=hr.bZ _ _ hG
     rcases this with⟨q1,q2⟩|⟨b,o,cs,T,q1,q2,q3,q4,q5⟩
     ·exact .inl ⟨by rw[gE hj,q1],(List.append_eq_nil_iff.1 q2).1⟩
     ·refine .inr ⟨b,o,cs,T,by rw[gE hj,q1],q2,?_,fun row hrow=>q4 row (List.mem_append_left _ hrow),fun i row hi j d hd=>?_⟩
      ·rw[X4,Nat.add_mul]at q3;omega
      ·obtain⟨u,hu,hd⟩:=q5 i row (by rw[List.getElem?_append_left (XG.1 hi).1];exact hi) j d hd
       exact⟨u,hu,hd.mono mono⟩
    ·exact hb2.elim
   |box cells=>
    simp only[FB]at hb2
    split at hb2
    ·rename_i cells' hG
     obtain⟨b,o,cs,T,q1,q2,q4,q3⟩:=hr.bZ _ _ hG
     rw[←uT hb2]at q4 q3
     exact⟨b,o,cs,T,by rw[gE hj,q1],q2,q4,uS hr hB hb2 q3⟩
    ·exact hb2.elim
   |map ents=>
    simp only[FB]at hb2
    split at hb2
    ·rename_i ents' hG
     obtain⟨rfl,hd⟩:=hb2
     obtain⟨b,es,clock,q1,q2,q4,q3⟩:=hr.bZ _ _ hG
     exact⟨b,es,clock,by rw[gE hj,q1],q2,q4,Dd mono hd q3⟩
    ·exact hb2.elim
 ·obtain⟨j,hj,_⟩:=lX hx
  obtain⟨b,hb1,hb2⟩:=hB' k _ hj
  cases b with
  |none=>exact hb2.elim
  |some b=>simp[hp,hb1]
 ·obtain⟨i',hi1,hi2⟩:=lX hi
  obtain⟨j',hj1,hj2⟩:=lX hj
  have:=hr.inj i' j' b o b' o' hi2 hj2 hbb
  subst this
  exact qf hn hi1 hj1
 ·rcases hb with hb|⟨j0,o0,hj0,hno⟩
  ·refine⟨(hr.fY b hb).1,fun k b' o hi=>?_⟩
   obtain⟨j,_,hj⟩:=lX hi
   exact(hr.fY b hb).2 j b' o hj
  ·refine⟨hr.lt hj0,fun k b' o hi hbb=>?_⟩
   obtain⟨j,hk,hj⟩:=lX hi
   have:=hr.inj j j0 b' o b o0 hj hj0 hbb
   subst this
   exact hno k hk
 ·obtain⟨j,_,hj⟩:=lX hi
  exact .inl ⟨j,o,hj⟩
 ·rcases hb with hb|⟨j,o,hj,_⟩
  ·exact .inl hb
  ·exact .inr (.inl ⟨j,o,hj⟩)
 ·cases hg:hp h i with
  |none=>trivial
  |some bZ=>
   have hi':(h.take m)[i]? =Yd (Yd bZ):=by
    rw[List.getElem?_take,if_pos hi]
    simp only[hp]at hg
    cases hx:h[i]? with
    |none=>simp[hx]at hg
    |some y=>simp[hx]at hg;rw[hg]
   obtain⟨j,b',hj,hb',hk1⟩:=xW hk i _ hi'
   have hH:hp H' i=b':=by simp[hp,hb']
   obtain⟨b2,hb2,hb3⟩:=hB' i j hj
   rw[hb']at hb2
   cases hb2
   rw[hH]
   rw[Yr]at hk1
   cases bZ with
   |arr e sz rows=>
    cases b' with
    |none=>exact hk1.elim
    |some b'=>cases b' with
     |box _=>exact hk1.elim
     |map _=>exact hk1.elim
     |arr e' sz' rows'=>
      simp only[mP]at hk1
      rcases hk1 with hlt|⟨rfl,rfl,hl,rfl⟩
      ·exact⟨by omega,fun he=>by omega⟩
      ·exact⟨Ys _,fun _=>⟨rfl,hl,by rw[gE hj],fun _ _ _=>rfl⟩⟩
   |box cells=>
    cases b' with
    |none=>exact hk1.elim
    |some b'=>cases b' with
     |arr _ _ _=>exact hk1.elim
     |map _=>exact hk1.elim
     |box _=>
      simp only[mP]at hk1
      subst hk1
      simp only[FB,hg]at hb3
      exact⟨by rw[gE hj],uT hb3,fun b o _=>nz.refl _ _ _ _⟩
   |map ents=>
    cases b' with
    |none=>exact hk1.elim
    |some b'=>cases b' with
     |arr _ _ _=>exact hk1.elim
     |box _=>exact hk1.elim
     |map _=>
      simp only[mP]at hk1
      subst hk1
      simp[gX,gE hj]
end
theorem Ab{h:List (Option bw)}{σ:Src}{H':List (Option bw)}{s:List (Nat×AV)}:∀{sl:List (Nat×AV)},mB h σ H' s sl→∀t v,lk sl t=Yd v→∃u,lk s t=Yd u∧OE h σ H' v u
 |[],_,t,v,hl=>by cases hl
 |(t0,v0)::l,⟨h1,h2⟩,t,v,hl=>by
  simp only[lk]at hl
  split at hl
  ·rename_i he
   subst he;cases hl
   split at h1
   ·rename_i u hu;exact⟨u,hu,h1⟩
   ·exact h1.elim
  ·exact Ab h2 t v hl
structure Sh(m:Nat)(h:List (Option bw))(σ:Src)(H':List (Option bw)):Prop where
 B:lj h σ H' σ H'
 n:iE σ=Ym
 k:j6 0 (h.take m) σ H'
theorem View.sh{n m:Nat}{s:St}{sl:List (Nat×AV)}{H':List (Option bw)}(σ:Src)(hS:Sh m s.heap σ H')(hs:mB s.heap σ H' s.aO sl):View n m s ⟨sl,H'⟩:=by
 intro φ F a w hrel
 obtain⟨h1,h2,h3⟩:=yr (m:=m) hrel.rel hS.B hS.n hS.k
 refine⟨_,_,⟨hrel.size,hrel.defers,h1,fun t av ht=>?_⟩,h2,h3⟩
 obtain⟨u,hu,hv⟩:=Ab hs t av ht
 exact Ld hrel.rel hS.B hv (hrel.slot t u hu)
theorem Iz{m:Nat}{h:List (Option bw)}{l res:List A1}{H':List (Option bw)}(σ:Src)(hS:Sh m h σ H')(hs:yt h σ H' res l):Fin m h l res H':=by
 intro φ F w vs hr hA
 obtain⟨h1,h2,h3⟩:=yr (m:=m) hr hS.B hS.n hS.k
 exact⟨_,_,h1,qX hr hS.B hs hA,h2,h3⟩
end Go.Fw
namespace Go.Fw
def Ng(n m:Nat)(R:St→Prop)(Q:XT→St→Prop):XT→St→Prop
 | .normal,s'=>∃s'',View n m s' s''∧R s''
 |x,s'=>Q x s'
noncomputable def sM:=shut @Ng
theorem uX:@sM=@Ng:=gR _
section
variable {P:Yg} {n m:Nat} {Q:XT→St→Prop} {s:St} {a b:AC} {k:List Gw} {R:St→Prop}
theorem FL{i:Nat}:sM n m R Q (.exit i) s=Q (.exit i) s:=by rw[uX];rfl
theorem HU:sM n m R Q .ret s=Q .ret s:=by rw[uX];rfl
theorem Ny:sM n m R Q .normal s=∃s'',View n m s s''∧R s'':=by rw[uX];rfl
theorem bD(R:St→Prop)(h1:sK P n m a [] (sM n m R (sU P n m k Q)) s)(h2:∀s',R s'→sN P n m k Q s'):Fe P n m a (sU P n m k Q) s:=by
 rw[tI,Af,uX]at h1
 rw[Af]
 refine Hd h1 fun e s' hq=>?_
 cases e with
 |normal=>
  obtain⟨s'',hv,hR⟩:=hq
  have:=h2 s'' hR
  rw[Mw]at this
  exact⟨s'',hv,this⟩
 |exit i=>exact⟨s',View.refl _ _ _,hq⟩
 |ret=>exact⟨s',View.refl _ _ _,hq⟩
theorem O5{s':St}{sl:List (Nat×AV)}{H':List (Option bw)}(σ:Src)(hS:Sh m s'.heap σ H')(hs:mB s'.heap σ H' s'.aO sl)(hR:R ⟨sl,H'⟩):sM n m R Q .normal s':=by
 rw[Ny];exact⟨_,View.sh σ hS hs,hR⟩
theorem O6{I:Nat→St→Prop}{j:Nat}(k':Nat){s':St}{sl:List (Nat×AV)}{H':List (Option bw)}(hk:k'<j)(σ:Src)(hS:Sh m s'.heap σ H')(hs:mB s'.heap σ H' s'.aO sl)(hI:I k' ⟨sl,H'⟩):sL n m I j Q .normal s':=
 Nn ⟨k',_,hk,View.sh σ hS hs,hI⟩
theorem Pg{body:AC}(I:Nat→St→Prop)(k0:Nat){sl:List (Nat×AV)}{H':List (Option bw)}(σ:Src)(hS:Sh m s.heap σ H')(hs:mB s.heap σ H' s.aO sl)(hI:I k0 ⟨sl,H'⟩)
 (hr:∀j s,I j s→sK P n m body [] (sL n m I j (sU P n m k Q)) s):Fe P n m (.loop body) (sU P n m k Q) s:=
 OU I ⟨k0,_,View.sh σ hS hs,hI⟩ hr
theorem Pc{t:Bool}(h1:t=Ym→sK P n m a k Q s)(h0:¬t=Ym→sK P n m b k Q s):sC P n m t a b k Q s:=by
 cases t with
 |true=>rw[CL];exact h1 rfl
 |false=>rw[CM];exact h0 (by simp)
end
section
variable {P:Yg} {dst:Option Nat} {op:jS} {fD:List Nat} {lone:Lone} {r:List cq} {s:St} {K:St→Prop} {g:Nat} {want:Bool} {h:List (Option bw)} {i:Nat} {aO:List (Nat×AV)} {wl:List (Nat×List (Nat×bw))}
theorem LK{t:Bool}(h1:t=Ym→sG P Ym want dst op r g s K)(h0:¬t=Ym→sG P Yn want dst op r g s K):sG P t want dst op r g s K:=by
 cases t with
 |true=>exact h1 rfl
 |false=>exact h0 (by simp)
theorem LL{t:Bool}(h1:t=Ym→zR P h Ym want dst op fD lone r i g aO wl K)(h0:¬t=Ym→zR P h Yn want dst op fD lone r i g aO wl K):zR P h t want dst op fD lone r i g aO wl K:=by
 cases t with
 |true=>exact h1 rfl
 |false=>exact h0 (by simp)
end
section
variable {P:Yg} {dst:Option Nat} {lone:Lone} {r:List cq} {K:St→Prop} {h:List (Option bw)} {i:Nat} {aO:List (Nat×AV)} {wl:List (Nat×List (Nat×bw))}
theorem iu{v:Option AV}{w:Nat×bw}{wr:List (Nat×bw)}(h1:∀x∈w::wr,(fE h (gO wl)).length≤x.1)(h2:sD P h r (i+1) (fO aO dst v) (wl++[(i,w::wr)]) K):KN P h r i dst lone aO wl K ⟨v,w::wr⟩:=by
 rw[Ct];rw[HB]at h2
 rw[MD]
 exact⟨.inr (.inr ⟨[],.inr rfl,fun x hx=> .inl (h1 x hx)⟩),h2⟩
theorem F6{x:Nat×List (Nat×bw)}{fD:List Nat}:oq h (x::wl) fD=fE (h++XI ((fE h (gO (x::wl))).length-h.length) Ye) (tl fD (x::wl)):=rfl
end
def cI{α:Type}(xs:List α)(j:Int):Option α:=if 0≤j then xs[j.toNat]? else Ye
def qV{α:Type}(xs:List α)(l h:Int):Option (List α):=if 0≤l∧l≤h∧h≤xs.length then Yd ((xs.drop l.toNat).take (h.toNat-l.toNat))else Ye
def Re(b:ByteArray)(j:Int):Option Int:=if 0≤j then(b[j.toNat]?).map fun c=>(c.toNat:Int)else Ye
def jz{α:Type}(xs ys:List α):Option (List α):=if(xs++ys).length≤4294967290 then Yd (xs++ys)else Ye
def ue(a b:ByteArray):Option ByteArray:=if a.size+b.size≤9223372036854775807 then Yd (a++b)else Ye
def ck(p:Prop)[Decidable p]:Option Unit:=if p then Yd ()else Ye
theorem cr{p:Prop}[Decidable p]{u:Unit}(h:ck p=Yd u):p:=by
 unfold ck at h;split at h
 ·assumption
 ·cases h
theorem aQ{α:Type}{xs:List α}{j:Int}{y:α}(h:cI xs j=Yd y):0≤j∧xs[j.toNat]? =Yd y∧j<xs.length:=by
 unfold cI at h
 split at h
 ·rename_i h0
  have:=(XG.1 h).1
  exact⟨h0,h,by omega⟩
 ·cases h
theorem qU{α:Type}{xs ys:List α}{l h:Int}(e:qV xs l h=Yd ys):(0≤l∧l≤h∧h≤xs.length)∧ys=(xs.drop l.toNat).take (h.toNat-l.toNat):=by
 unfold qV at e
 split at e
 ·rename_i h0;cases e;exact⟨h0,rfl⟩
 ·cases e
theorem BO{α:Type}{xs ys zs:List α}(e:jz xs ys=Yd zs):(xs++ys).length≤4294967290∧zs=xs++ys:=by
 unfold jz at e
 split at e
 ·rename_i h0;cases e;exact⟨h0,rfl⟩
 ·cases e
theorem BT.rd{α:Type}{enc:α→List D}{xs:List α}{j:Int}{sz:Nat}{K:Out→Prop}{y:α}(h:cI xs j=Yd y)(hs:(enc y).length=sz)(hk:K ⟨Yd (.one (.c (.fp (enc y)))),[]⟩):
 BT (xs.map enc) j sz K:=by
 obtain⟨h0,h1,_⟩:=aQ h
 exact⟨h0,enc y,by simp[h1],hs,hk⟩
theorem cD.rd{α:Type}{enc:α→List D}{xs:List α}{row off:Nat}{n:Option Nat}{K:Out→Prop}{y:α}(h:xs[row]? =Yd y)(hk:s5 n (((enc y).drop off).map .d) K):
 cD (xs.map enc) row off n K:=⟨enc y,by simp[h],hk⟩
theorem eu.rd{α:Type}{enc:α→List D}{xs:List α}{row off n:Nat}{ds:List D}{K:List (List D)→Prop}{y y':α}(h:xs[row]? =Yd y)(hl:off+n≤(enc y).length)(he:cf (enc y) off ds=enc y')
 (hk:K ((xs.set row y').map enc)):eu (xs.map enc) row off n ds K:=
 ⟨enc y,by simp[h],hl,by rw[he,←List.map_set];exact hk⟩
def pq(G:eg)(sz:Nat)(c:C)(R:List (List D)):Prop:=∃p,kQ G sz c=Yd (R,p)∧p
section
variable {α:Type} {enc:α→List D} {G:eg} {sz:Nat} {xs:List α}
theorem vg(hs:∀y,(enc y).length=sz):pq G sz (.d (.sl (xs.map enc))) (xs.map enc):=
 ⟨_,rfl,fun r hr=>by obtain⟨y,_,rfl⟩:=XY.1 hr;exact hs y⟩
theorem xC{id ep:Nat}{cap:Option Nat}{len:Nat}(hl:len=xs.length)(h:G id=Yd (.arr ep sz (xs.map enc))):pq G sz (.own id ep 0 len cap) (xs.map enc):=by
 subst hl
 refine⟨ep=ep∧sz=sz∧0+xs.length≤(xs.map enc).length,?_,rfl,rfl,by simp⟩
 simp only[kQ,h,XK]
 rw[XJ (by simp)]
theorem FK{id ep off len:Nat}{cap:Option Nat}(h:G id=Yd (.arr ep sz (xs.map enc)))(hl:off+len≤xs.length):pq G sz (.own id ep off len cap) (((xs.drop off).take len).map enc):=by
 refine⟨ep=ep∧sz=sz∧off+len≤(xs.map enc).length,?_,rfl,rfl,by simpa using hl⟩
 simp only[kQ,h,XP,XQ]
end
section
variable {P:Yg} {s:St} {K:Out→Prop} {α:Type} {enc:α→List D} {sz u:Nat} {x y i:O}
theorem GH{xs:List α}{id ep:Nat}{cap:Option Nat}{j:Int}{kk:Yj}{len:Nat}{z:α}(hi:s.eZ i=Yd (.int kk j))(hx:s.e9 x=Yd (.own id ep 0 len cap))(hH:hp s.heap id=Yd (.arr ep sz (xs.map enc)))(hl:len=xs.length)
 (h:cI xs j=Yd z) (hk:K ⟨Yd (.one (.c (.pe id ep j.toNat 0))),[]⟩):s1 P (.indexA sz x i) s K:=by
 obtain⟨h0,h1,h2⟩:=aQ h
 subst hl
 rw[l5,hi]
 simp only[hx,hH]
 refine⟨⟨h0,h2⟩,⟨trivial,trivial,by simp;omega⟩,?_⟩
 rw[Yr];exact hk
theorem bI{xs:List α}{j:Int}{kk:Yj}{z:α}(hi:s.eZ i=Yd (.int kk j))(hx:s.e9 x=Yd (.d (.sl (xs.map enc))))
 (h:cI xs j=Yd z) (hs:(enc z).length=sz) (hk:K ⟨Yd (.one (.c (.fp (enc z)))),[]⟩):s1 P (.indexA sz x i) s K:=by
 rw[l5,hi]
 simp only[hx]
 exact BT.rd h hs hk
theorem xt{xs ys:List α}{id ep len:Nat}{cy:C}(hx:s.e9 x=Yd (.own id ep 0 len Ye))(hH:hp s.heap id=Yd (.arr ep sz (xs.map enc)))(hl:len=xs.length)(hy:s.e9 y=Yd cy)
 (hr:pq (hp s.heap) sz cy (ys.map enc)) {zs:List α} (ha:jz xs ys=Yd zs) (hk:K ⟨Yd (.one (.c (.own id (ep+1) 0 zs.length Ye))),[(id,.arr (ep+1) sz (zs.map enc))]⟩):s1 P (.app sz u x y) s K:=by
 obtain⟨hb,rfl⟩:=BO ha
 subst hl
 obtain⟨p,hr,hp'⟩:=hr
 rw[yF,hx]
 simp only[hy,hr]
 refine⟨hp',?_⟩
 simp only[kE,hH,XK]
 rw[X4]at hb hk
 refine⟨⟨trivial,trivial,by simp,by simp;omega⟩,?_⟩
 rw[XJ (by simp),←XM,XH]
 exact hk
theorem M7{ys:List α}{cy:C}(hx:s.e9 x=Yd (.d (.v (.slice Ye 0 0))))(hy:s.e9 y=Yd cy)
 (hr:pq (hp s.heap) sz cy (ys.map enc)) {zs:List α} (ha:jz [] ys=Yd zs) (hk:K ⟨Yd (.one (.c (.own s.heap.length 0 0 zs.length Ye))),[(s.heap.length,.arr 0 sz (zs.map enc))]⟩):s1 P (.app sz u x y) s K:=by
 obtain⟨hb,hz⟩:=BO ha
 rw[XV]at hb hz
 subst hz
 obtain⟨p,hr,hp'⟩:=hr
 rw[yF,hx]
 simp only[hy,hr]
 refine⟨hp',?_⟩
 simp only[kE]
 refine⟨by simp;omega,?_⟩
 rw[XH]
 exact hk
theorem GI{ys:List α}{parts:List O}{as:List A1}{rows:List (List D)}{wr:List (Nat×bw)}{p:Prop}(h1:xc s parts=Yd as)(h2:od s.heap sz [] as=Yd (rows,wr,p))(hp':p)(hr:rows=ys.map enc)
 (hk:K ⟨Yd (.one (.c (.own s.heap.length 0 0 ys.length Ye))),wr++[(s.heap.length,.arr 0 sz (ys.map enc))]⟩):s1 P (.bslice sz parts) s K:=by
 subst hr
 rw[sH,h1]
 simp only[h2]
 refine⟨hp',?_⟩
 rw[XH];exact hk
theorem yk{xs ys:List α}{lo hi:Option O}{l h:Int}(hx:s.e9 x=Yd (.d (.sl (xs.map enc))))(hlo:gg s lo 0=Yd l)(hhi:gg s hi xs.length=Yd h)(hs:∀y,(enc y).length=sz)(hc:qV xs l h=Yd ys)
 (hk:K ⟨Yd (.one (.c (.d (.sl (ys.map enc))))),[]⟩):s1 P (.slice sz x lo hi Ye) s K:=by
 obtain⟨⟨h1,h2,h3⟩,rfl⟩:=qU hc
 rw[qY,hx]
 simp only[hlo,XH,hhi]
 refine⟨⟨h1,h2,h3,fun r hr=>by obtain⟨y,_,rfl⟩:=XY.1 hr;exact hs y⟩,?_⟩
 have e:((xs.map enc).take h.toNat).drop l.toNat=((xs.drop l.toNat).take (h.toNat-l.toNat)).map enc:=by
  rw[List.drop_take,XP,XQ]
 rw[e];exact hk
theorem nD{xs v:List α}{id ep len:Nat}{lo hi:Option O}{l h:Int}(hx:s.e9 x=Yd (.own id ep 0 len Ye))(hH:hp s.heap id=Yd (.arr ep sz (xs.map enc)))(hl:len=xs.length)(hlo:gg s lo 0=Yd l)(hhi:gg s hi len=Yd h)
 (hc:qV xs l h=Yd v) (hk:K ⟨Yd (.one (.c (.own id ep l.toNat v.length Ye))),[]⟩):s1 P (.slice sz x lo hi Ye) s K:=by
 obtain⟨⟨h1,h2,h3⟩,rfl⟩:=qU hc
 subst hl
 rw[qY,hx]
 simp only[hH,hlo,hhi]
 refine⟨⟨trivial,trivial⟩,⟨h1,h2,h3⟩,?_⟩
 have e:((xs.drop l.toNat).take (h.toNat-l.toNat)).length=h.toNat-l.toNat:=by rw[XL,XU];omega
 rw[e]at hk
 rw[Yr];exact hk
theorem fZ{xs v:List α}{l h:Int}(hc:qV xs l h=Yd v):l.toNat+v.length≤xs.length:=by
 obtain⟨⟨h1,h2,h3⟩,rfl⟩:=qU hc
 rw[XL,XU];omega
theorem Cj{xs v:List α}{l h:Int}(hc:qV xs l h=Yd v):(xs.drop l.toNat).take v.length=v:=by
 obtain⟨⟨h1,h2,h3⟩,rfl⟩:=qU hc
 have:((xs.drop l.toNat).take (h.toNat-l.toNat)).length=h.toNat-l.toNat:=by rw[XL,XU];omega
 rw[this]
theorem Lc{xs v:List α}{l h:Int}(hc:qV xs l h=Yd v):kn (xs.map enc) l.toNat v.length (v.map enc)=True:=by
 simp only[kn,eq_iff_iff,iff_true]
 rw[←XQ,←XP,Cj hc]
theorem Eb{xs v:List α}{h:Int}(hc:qV xs 0 h=Yd v):r9 (xs.map enc) (v.map enc)=True:=by
 simp only[r9,eq_iff_iff,iff_true]
 refine .inr ⟨(xs.drop v.length).map enc,?_⟩
 have:=Cj hc
 simp only[Int.toNat_zero,XK]at this
 rw[←XM]
 conv=>rhs;rw[←this]
 have e:v.length≤xs.length:=by have:=fZ hc;simp at this;omega
 have e2:(xs.take v.length).length=v.length:=by rw[XL];omega
 conv=>lhs;rw[←XZ v.length xs]
 rw[this]
theorem Aa{xs v:List α}{h:Int}(hc:qV xs 0 h=Yd v):kn (xs.map enc) 0 v.length (v.map enc)=True:=Lc hc
theorem Ec{xs v:List α}{h:Int}(hc:qV xs 0 h=Yd v):(v.length≤xs.length)=True:=by have:=fZ hc;simp at this;simp[this]
theorem Ao{xs v:List α}{G:eg}{id ep:Nat}{cap:Option Nat}{off len:Nat}{l h:Int}(hc:qV xs l h=Yd v)(ho:off=l.toNat)(hl:len=v.length)(hG:G id=Yd (.arr ep sz (xs.map enc))):pq G sz (.own id ep off len cap) (v.map enc):=by
 subst ho;subst hl
 have:=FK (cap:=cap) hG (fZ hc)
 rwa [Cj hc]at this
def xm(xs:List α)(off len:Nat)(z:α):List α:=xs.take off++XI len z++xs.drop (off+len)
theorem KZ{xs:List α}{id ep off len:Nat}{z:α}{zero:List D}(hx:s.e9 x=Yd (.own id ep off len Ye))(hH:hp s.heap id=Yd (.arr ep sz (xs.map enc)))(hz:zero=enc z)(ho:off≤xs.length)
 (hk:K ⟨Ye,[(id,.arr ep sz ((xm xs off len z).map enc))]⟩):s1 P (.clear sz zero x) s K:=by
 subst hz
 rw[u0,hx]
 simp only[ug,hH]
 refine⟨⟨trivial,trivial,by simpa using ho⟩,?_⟩
 have e:cf (xs.map enc) off ((XI len (enc z)).take len)=(xm xs off len z).map enc:=by
  simp only[cf,xm,List.take_replicate,Nat.min_self,List.length_replicate,XM,XP,XQ,X3]
 rw[e];exact hk
end
def mJ(h:List (Option bw))(f:Nat→Nat)(G:eg):Nat→List (Option bw)→Prop
 |_,[]=>True
 |k,Yd b::r=>(hp h (f k)=Yd (b.ff f)∧b.live G)∧mJ h f G (k+1) r
 |_,Ye::_=>False
theorem lv{h:List (Option bw)}{f:Nat→Nat}{G:eg}:∀{H:List (Option bw)} {k0:Nat},mJ h f G k0 H→∀(k:Nat),k<H.length→∃b,hp H k=Yd b∧hp h (f (k0+k))=Yd (b.ff f)∧b.live G
 |[],_,_,k,hk=>by simp at hk
 |some b::r,k0,⟨h1,h2⟩,k,hk=>by
  cases k with
  |zero=>exact⟨b,rfl,h1⟩
  |succ k=>
   obtain⟨b',q1,q2⟩:=lv h2 k (by simpa using hk)
   exact⟨b',by rw[jU];exact q1,by rw[show k0+(k+1)=k0+1+k by omega];exact q2⟩
 |none::_,_,h,_,_=>h.elim
def jf(G:eg):List A1→Prop
 |[]=>True
 |a::r=>a.live G∧jf G r
theorem lx{G:eg}:∀{l:List A1},jf G l→∀a∈l,a.live G
 |[],_,a,h=>by cases h
 |x::l,⟨h1,h2⟩,a,h=>by
  rcases List.mem_cons.1 h with rfl|h
  ·exact h1
  ·exact lx h2 a h
theorem yc{P:Yg}{f:Yh}{as' as1:List A1}{H H':List (Option bw)}{res:AV}{as:List A1}{s:St}{K:Out→Prop}(wrF:List (Nat×bw))(σ:Src)(ρ:List Nat)
 (hc:aW P f as' H res H') (hS:Sh s.heap.length s.heap σ (fE s.heap wrF)) (hA:yt s.heap σ (fE s.heap wrF) as1 as) (hlen:(fE s.heap wrF).length=s.heap.length)
 (has:as1=as'.map (A1.ff (rn ρ s.heap.length))) (hlive:jf (hp H) as') (hρ:ρ.length=H.length) (hnd:ρ.Nodup)
 (hH:mJ (fE s.heap wrF) (rn ρ s.heap.length) (hp H) 0 H) (hK:K ⟨Yd (res.ff (rn ρ s.heap.length)),wrF++e8 0 H' (rn ρ s.heap.length)⟩):my P f as s K:=by
 refine⟨_,?_,hK⟩
 intro φ F w vs hr hA0
 obtain⟨r1,f1,s1'⟩:=yr (m:=s.heap.length) hr hS.B hS.n hS.k
 have hA1:=qX hr hS.B hA hA0
 have hstp:ix φ F (hp s.heap) w (pS σ φ) (xd σ φ F) (hp (fE s.heap wrF)) w:=by
  refine⟨s1'.fY,fun id=>?_⟩
  by_cases hid:id<s.heap.length
  ·exact s1'.bZ id hid
  ·have:hp s.heap id=Ye:=by simp[hp,XF (by omega:s.heap.length≤id)]
   rw[this];trivial
 have hcall:ko P f as1 ⟨[],fE s.heap wrF⟩ (·=⟨Yd (res.ff (rn ρ s.heap.length)),e8 0 H' (rn ρ s.heap.length)⟩):=by
  have hg:=lv hH
  refine ti ρ hc (by rw[hlen];exact has) (lx hlive) hρ (fun k hk=>?_) (fun i j k hi hj=>?_) (fun k bZ hb=>?_) (by simp only[hlen])
  ·obtain⟨b,q1,_⟩:=hg k hk
   rw[q1];simp
  ·exact(XS (XG.1 hi).1 hnd).1 (hi.trans hj.symm)
  ·have hk:k<H.length:=by
    by_cases hlt:k<H.length
    ·exact hlt
    ·simp[hp,XF (by omega:H.length≤k)]at hb
   obtain⟨b,q1,q2,q3⟩:=hg k hk
   rw[q1]at hb;cases hb
   simp only[Yr]at q2
   rw[hlen]
   exact⟨q2,q3⟩
 refine(hcall _ _ w vs r1 hA1).mono ?_
 rintro v w' ⟨⟨out,φ',F',rfl,hv,hr',hs',hf'⟩⟩
 refine⟨⟨_,φ',F',rfl,?_,?_,?_,f1.trans hf'⟩⟩
 ·simp only[jJ];exact hv
 ·simp only[jJ];exact hr'
 ·simp only[jJ];exact hstp.trans hs'
def FP:C→C
 | .d x=> .d (yR x)
 |c=>c
def AW:A1→A1
 | .c x=> .c (FP x)
 | .agg cs=> .agg (cs.map FP)
theorem AU{φ F G w}{c:C}{v:Value}(h:dA φ F G w c v):dA φ F G w (FP c) v:=by
 cases c with
 |d x=>exact rz h
 |_=>exact h
theorem FO{φ F G w}{cs:List C}{vs:List Value}(h:eD φ F G w cs vs):eD φ F G w (cs.map FP) vs:=by
 induction h with
 |nil=>exact .nil
 |cons a _ ih=>exact .cons (AU a) ih
theorem H8{φ F G w}{c:A1}{v:Value}(h:cm φ F G w c v):cm φ F G w (AW c) v:=by
 cases c with
 |c x=>exact AU h
 |agg cs=>obtain⟨vs,rfl,h⟩:=h;exact⟨vs,rfl,FO h⟩
theorem FQ{φ F G w}{cs:List A1}{vs:List Value}(h:bX (cm φ F G w) cs vs):bX (cm φ F G w) (cs.map AW) vs:=by
 induction h with
 |nil=>exact .nil
 |cons a _ ih=>exact .cons (H8 a) ih
theorem E3{P:Yg}{f:Yh}{as':List A1}{H H':List (Option bw)}{res:AV}{as:List A1}{s:St}{K:Out→Prop}(ρ:List Nat)
 (hc:aW P f as' H res H') (has:as.map AW=as'.map (A1.ff (rn ρ s.heap.length))) (hlive:jf (hp H) as') (hρ:ρ.length=H.length) (hnd:ρ.Nodup)
 (hH:mJ s.heap (rn ρ s.heap.length) (hp H) 0 H) (hK:K ⟨Yd (res.ff (rn ρ s.heap.length)),e8 0 H' (rn ρ s.heap.length)⟩):my P f as s K:=by
 refine⟨_,?_,hK⟩
 have hcall:ko P f (as.map AW) s (·=⟨Yd (res.ff (rn ρ s.heap.length)),e8 0 H' (rn ρ s.heap.length)⟩):=by
  have hg:=lv hH
  refine ti ρ hc has (lx hlive) hρ (fun k hk=>?_) (fun i j k hi hj=>?_) (fun k bZ hb=>?_) rfl
  ·obtain⟨b,q1,_⟩:=hg k hk
   rw[q1];simp
  ·exact(XS (XG.1 hi).1 hnd).1 (hi.trans hj.symm)
  ·have hk:k<H.length:=by
    by_cases hlt:k<H.length
    ·exact hlt
    ·simp[hp,XF (by omega:H.length≤k)]at hb
   obtain⟨b,q1,q2,q3⟩:=hg k hk
   rw[q1]at hb;cases hb
   simp only[Yr]at q2
   exact⟨q2,q3⟩
 exact fun φ F w vs hr hA=>hcall φ F w vs hr (FQ hA)
def KQ{α:Type}(z:α)(l c:Int):Option (List α):=if 0≤l∧l≤c∧c≤4294967296 then Yd (XI l.toNat z)else Ye
theorem LF{α:Type}{z:α}{l c:Int}{r:List α}(h:KQ z l c=Yd r):r.length=l.toNat:=by
 unfold KQ at h
 split at h
 ·cases h;simp
 ·cases h
theorem OA{α:Type}{enc:α→List D}{P:Yg}{s:St}{K:Out→Prop}{sz b:Nat}{zero:List D}{l c:O}{l' c':Int}{k k':Yj}{z:α}{r:List α}(hz:zero=enc z)(hl:s.eZ l=Yd (.int k l'))(hc:s.eZ c=Yd (.int k' c'))(h:KQ z l' c'=Yd r)
 (hk:K ⟨Yd (.one (.c (.own s.heap.length 0 0 r.length Ye))),[(s.heap.length,.arr 0 sz (r.map enc))]⟩):s1 P (.mk sz b zero l c) s K:=by
 have hlen:=LF h
 unfold KQ at h
 split at h
 ·rename_i hb
  cases h
  rw[HD,hl]
  simp only[hc]
  refine⟨hb,?_⟩
  rw[hlen,X3]at hk
  rw[hz];exact hk
 ·cases h
section
variable {κ α:Type}
def O8(ek:κ→Value)(enc:α→D)(l:List (κ×α)):List (Value×A1):=l.map fun p=>(ek p.1,.c (.d (enc p.2)))
def O7(ek:κ→Value)(enc:α→List D)(l:List (κ×α)):List (Value×A1):=l.map fun p=>(ek p.1,.agg ((enc p.2).map .d))
theorem EY{ek:κ→Value}{enc:α→D}{l:List (κ×α)}:kf (O8 ek enc l)=Ym:=by simp[kf,O8,A1.gz,C.gz]
theorem EX{ek:κ→Value}{enc:α→List D}{l:List (κ×α)}:kf (O7 ek enc l)=Ym:=by simp[kf,O7,A1.gz,C.gz]
end
section
variable {κ α:Type} [DecidableEq κ]
section
variable {P:Yg} {s:St} {K:Out→Prop} {m k v:O} {id kd:Nat} {ek:κ→Value} {key:κ} {l:List (κ×α)} {zero:A1}
end
end
end Go.Fw
namespace Go.Fw
section
variable {P:Yg} {s:St} {K:Out→Prop}
theorem Li{a0:Nat}{a1:Nat}{a2:O}{a3:O}:sS P (.app a0 a1 a2 a3) s K=s1 P (.app a0 a1 a2 a3) s K:=oS rfl
theorem Hx{a0:Nat}{a1:Nat}{a2:List D}{a3:O}{a4:O}:sS P (.appz a0 a1 a2 a3 a4) s K=s1 P (.appz a0 a1 a2 a3 a4) s K:=oS rfl
theorem Hw{a0:Nat}{a1:O}{a2:O}:sS P (.copy a0 a1 a2) s K=s1 P (.copy a0 a1 a2) s K:=oS rfl
theorem FH{a0:Nat}{a1:List D}{a2:O}:sS P (.clear a0 a1 a2) s K=s1 P (.clear a0 a1 a2) s K:=oS rfl
theorem Ni{a0:Nat}{a1:Nat}{a2:List D}{a3:O}{a4:O}:sS P (.mk a0 a1 a2 a3 a4) s K=s1 P (.mk a0 a1 a2 a3 a4) s K:=oS rfl
theorem Cr{a0:Nat}{a1:O}{a2:O}:sS P (.indexA a0 a1 a2) s K=s1 P (.indexA a0 a1 a2) s K:=oS rfl
theorem Hr{a0:O}{a1:O}:sS P (.sidx a0 a1) s K=s1 P (.sidx a0 a1) s K:=oS rfl
theorem FF{a0:Nat}{a1:O}{a2:Option O}{a3:Option O}{a4:Option O}:sS P (.slice a0 a1 a2 a3 a4) s K=s1 P (.slice a0 a1 a2 a3 a4) s K:=oS rfl
theorem Cq{a0:O}{a1:Option O}{a2:Option O}:sS P (.sslice a0 a1 a2) s K=s1 P (.sslice a0 a1 a2) s K:=oS rfl
theorem Cs{a0:Nat}{a1:List O}:sS P (.bslice a0 a1) s K=s1 P (.bslice a0 a1) s K:=oS rfl
theorem FG:sS P (.mkmap) s K=s1 P (.mkmap) s K:=oS rfl
theorem Hu{a0:Nat}{a1:Bool}{a2:A1}{a3:O}{a4:O}:sS P (.mget a0 a1 a2 a3 a4) s K=s1 P (.mget a0 a1 a2 a3 a4) s K:=oS rfl
theorem Hs{a0:Nat}{a1:O}{a2:O}{a3:O}:sS P (.mset a0 a1 a2 a3) s K=s1 P (.mset a0 a1 a2 a3) s K:=oS rfl
theorem Hv{a0:Nat}{a1:O}{a2:O}:sS P (.mdel a0 a1 a2) s K=s1 P (.mdel a0 a1 a2) s K:=oS rfl
theorem Ht{a0:O}:sS P (.mlen a0) s K=s1 P (.mlen a0) s K:=oS rfl
end
def V0:=Yl (XC (XC (XC (XC @Bj (XC @BQ @tp)) (XC @EJ (XC @AX @Ia))) (XC (XC @wT (XC @wV @wU)) (XC @rq (XC @ru @fU.eq_1)))) (XC (XC (XC @gh.eq_1 (XC @gh.eq_2 @St.ev.eq_1)) (XC @St.ev.eq_2 (XC @St.ev.eq_3 @St.e9.eq_1))) (XC (XC @St.eZ.eq_1 (XC @lk.eq_1 @lk.eq_2)) (XC @fE.eq_1 (XC @fE.eq_2 @gO.eq_1)))))
def V1:=Yl (XC (XC (XC (XC @gO.eq_2 (XC @ret.eq_1 @ey.eq_1)) (XC @xc.eq_1 (XC @xc.eq_2 @zB.eq_1))) (XC (XC @zB.eq_2 (XC @gg.eq_1 @gg.eq_2)) (XC @zH.eq_1 (XC @zH.eq_2 @rN.eq_1)))) (XC (XC (XC @rN.eq_2 (XC @rN.eq_3 @od.eq_1)) (XC @od.eq_2 (XC @kQ.eq_1 @kQ.eq_2))) (XC (XC @kQ.eq_3 (XC @Ps.eq_1 @if_true.{1})) (XC @if_true.{0} (XC @if_false.{1} @if_false.{0})))))
def V2:=Yl (XC (XC (XC (XC @fA.eq_1 (XC @fA.eq_2 @fA.eq_3)) (XC @fA.eq_4 (XC @fA.eq_5 @fA.eq_6))) (XC (XC @fA.eq_7 (XC @fA.eq_8 @fA.eq_9)) (XC @fA.eq_10 (XC @fA.eq_11 @fA.eq_12)))) (XC (XC (XC @fA.eq_13 (XC @fA.eq_14 @fA.eq_15)) (XC @fA.eq_16 (XC @fA.eq_18 @fA.eq_19))) (XC (XC @fA.eq_20 (XC @fA.eq_21 @fA.eq_22)) (XC @fA.eq_23 (XC @fA.eq_24 @true_and)))))
def V3:=Yl (XC (XC (XC (XC @and_true (XC @decide_eq_true_eq @decide_eq_false_iff_not)) (XC @XH.{0,0} (XC @Int.toNat_natCast @s5.eq_1))) (XC (XC @s5.eq_2 (XC @s5.eq_3 @Ya.{0,0})) (XC @Yc.{0,0} (XC @X6.{0} @X8.{0})))) (XC (XC (XC @X2.{0} (XC @X9.{0} @A1.cells.eq_1)) (XC @A1.cells.eq_2 (XC @cH.eq_1 @cH.eq_2))) (XC (XC @cH.eq_3 (XC @cH.eq_4 @hp.eq_1)) (XC @cf.eq_1 (XC @XW.{0} @XX.{0})))))
def V4:=Yl (XC (XC (XC (XC @Yf.{0} (XC @List.drop_succ_cons.{0} @XK.{0})) (XC @Yr (XC @XV.{0} @X7.{0}))) (XC (XC @List.append_nil.{0} (XC @List.drop_nil.{0} @Ys)) (XC @wz.eq_1 (XC @jw.eq_1 @jw.eq_2)))) (XC (XC (XC @lP.eq_1 (XC @lP.eq_2 @lP.eq_3)) (XC @MJ (XC @MK @E0))) (XC (XC @MT (XC @KB @KA)) (XC @mD.eq_1 (XC @mD.eq_2 @mD.eq_3)))))
def V5:=Yl (XC (XC (XC (XC @List.isEmpty_iff.{0} (XC @IU @IV)) (XC @B4 (XC @B3 @HC))) (XC (XC Mu.down (XC @yz Eh.down)) (XC @CD (XC Ho.down @yx)))) (XC (XC (XC Ef.down (XC @vb Ak.down)) (XC @yB (XC Ej.down @uY))) (XC (XC Ag.down (XC @sF xz.down)) (XC @uZ (XC Ah.down @HE)))))
def V6:=Yl (XC (XC (XC (XC Mv.down (XC @yE Em.down)) (XC @va (XC Aj.down @Cz))) (XC (XC Hk.down (XC @Cy Hj.down)) (XC @yy (XC Eg.down @CB)))) (XC (XC (XC Hn.down (XC @CE Hp.down)) (XC @Am (XC @Cu Hf.down))) (XC (XC @CF (XC Hq.down @Cv)) (XC Hg.down (XC @Cx Hi.down)))))
def V7:=Yl (XC (XC (XC (XC @Cw (XC Hh.down @yA)) (XC Ei.down (XC @px.eq_1 @px.eq_2))) (XC (XC @yD (XC El.down @yC)) (XC Ek.down (XC @CA Hl.down)))) (XC (XC (XC @Ai (XC @AA @vA)) (XC @tM (XC @tL @AD))) (XC (XC @AH (XC @AF @AG)) (XC @EG (XC @Az @xH)))))
def V8:=Yl (XC (XC (XC (XC @xG (XC @HV @HY)) (XC @HW (XC @HX @AJ))) (XC (XC @AK (XC @Au @EF)) (XC @Av (XC @EB @xF)))) (XC (XC (XC @Aw (XC @EC @Ax)) (XC @ED (XC @Ay @CL))) (XC (XC @CM (XC @xI @xK)) (XC @xJ (XC @pA @pC)))))
def V9:=Yl (XC (XC (XC (XC @pB (XC @rl @rp)) (XC @rm (XC @tN @vB))) (XC (XC @HZ (XC @EH @AB)) (XC @dr.eq_1 (XC @Ks @Fb)))) (XC (XC (XC @Fc (XC @Ku @Kv)) (XC @MS (XC @Kw @Kx))) (XC (XC @Gy (XC @DZ @Yq)) (XC @Yp (XC @Bool.not_false @F6)))))
def Rc:=Yl (XC (XC (XC (XC @List.contains_cons.{0} (XC @List.contains_nil.{0} @List.replicate_succ.{0})) (XC @List.replicate_zero.{0} (XC @Bool.true_or @Bool.or_true))) (XC (XC @Bool.false_or (XC @Bool.or_false @Bool.false_eq_true)) (XC @tl.eq_1 (XC @tl.eq_2 @FL)))) (XC (XC (XC @HU (XC @Li @Hx)) (XC @Hw (XC @FH @Ni))) (XC (XC @Cr (XC @Hr @FF)) (XC @Cq (XC @Cs @FG)))))
def Rb:=Yl (XC (XC @Hu @Hs) (XC @Hv @Ht))
def VV:=Yl (XC (XC (XC V0.down (XC V1.down V2.down)) (XC V3.down (XC V4.down V5.down))) (XC (XC V6.down (XC V7.down V8.down)) (XC V9.down (XC Rc.down Rb.down))))
end Go.Fw
namespace Go.Fw
section
variable {h H':List (Option bw)} {σ:Src} {α:Type} {enc:α→List D}
theorem PH{x:D}:Ac h σ H' (.d x) (.d x)=True:=by simp[Ac]
theorem Oo:Ac h σ H' (.d (.sl [])) (.d (.v (.slice Ye 0 0)))=True:=by simp[Ac,yR]
theorem Ow{R:List (List D)}{j ep off len:Nat}{cap:Option Nat}:Ac h σ H' (.d (.sl R)) (.own j ep off len cap)=(pD j σ=Ym∧match hp h j with
 |some (.arr e _ rows)=>ep=e∧off+len≤rows.length∧kn rows off len R
 |_=>False):=rfl
theorem KX{k ep' off' len':Nat}{cap':Option Nat}:Ac h σ H' (.own k ep' off' len' cap') (.d (.v (.slice Ye 0 0)))=((σ[k]? =Yd Ye∧off'=0∧len'=0∧cap'=Ye)∧match hp H' k with
 |some (.arr e' _ _)=>ep'=e'
 |_=>False):=rfl
theorem On{k ep' off' len':Nat}{j ep off len:Nat}{cap:Option Nat}:Ac h σ H' (.own k ep' off' len' Ye) (.own j ep off len cap)=((σ[k]? =Yd (Yd j)∧off'=off∧len'=len)∧match hp h j with
 |some (.arr e _ _)=>ep=e∧match hp H' k with
  |some (.arr e' _ rows)=>ep'=e'∧off'+len'≤rows.length
  |_=>False
 |_=>False):=rfl
theorem KV{k ep' off' len' c:Nat}{j ep off len:Nat}{cap:Option Nat}:Ac h σ H' (.own k ep' off' len' (Yd c)) (.own j ep off len cap)=match hp H' k with
 |some (.arr e' _ _)=>ep'<e'
 |_=>False:=rfl
theorem Py{k off' j off:Nat}:Ac h σ H' (.pt k off') (.pt j off)=((σ[k]? =Yd (Yd j)∧off'=off)∧match hp H' k with|some (.box _)=>True|_=>False):=rfl
theorem PA{k ep' row' off' j ep row off:Nat}:Ac h σ H' (.pe k ep' row' off') (.pe j ep row off)=((σ[k]? =Yd (Yd j)∧row'=row∧off'=off)∧match hp h j with
 |some (.arr e _ _)=>ep=e∧match hp H' k with
  |some (.arr e' _ rows)=>ep'=e'∧row'<rows.length
  |_=>False
 |_=>False):=rfl
theorem M0{k j:Nat}:Ac h σ H' (.mref k) (.mref j)=(σ[k]? =Yd (Yd j)∧match hp H' k with|some (.map _)=>True|_=>False):=rfl
theorem M4{κ β:Type}{ek:κ→Value}{e:β→D}{l:List (κ×β)}:(kf (O8 ek e l)=Ym)=True:=by simp[EY]
theorem M3{κ β:Type}{ek:κ→Value}{e:β→List D}{l:List (κ×β)}:(kf (O7 ek e l)=Ym)=True:=by simp[EX]
theorem PF{x y:List D}:Ac h σ H' (.fp x) (.fp y)=(x=y):=rfl
theorem PG{f' f:Yh}{c' c:List (Nat×Nat)}:Ac h σ H' (.fn f' c') (.fn f c)=(f'=f∧sw σ H' c' c):=rfl
theorem Om{rows:List (List D)}:r9 rows rows=True:=by simp[r9]
theorem MY{xs:List α}{n:Nat}:r9 (xs.map enc) ((xs.take n).map enc)=True:=by
 simp only[r9,eq_iff_iff,iff_true]
 exact .inr ⟨(xs.drop n).map enc,by rw[←XM,XZ]⟩
theorem MZ{rows:List (List D)}:r9 rows []=True:=by simp[r9]
theorem M1{xs:List α}:kn (xs.map enc) 0 xs.length (xs.map enc)=True:=by
 simp only[kn,XK,eq_iff_iff,iff_true];rw[XJ (by simp)]
theorem MW{xs:List α}{off len:Nat}:kn (xs.map enc) off len (((xs.drop off).take len).map enc)=True:=by
 simp[kn]
theorem MX{xs:List α}{len:Nat}:kn (xs.map enc) 0 len ((xs.take len).map enc)=True:=by
 simp[kn]
theorem Ou{e:Nat}:(e<e+1)=True:=by simp
theorem Ot{e:Nat}:(e<e+2)=True:=by simp
theorem PC{n:Nat}:(n≤n)=True:=by simp
theorem Gx{α:Type}{p:Prop}{x:Option α}:(x=x→p)=p:=by simp
theorem PD{a b:List D}{rows R:List (List D)}{n:Nat}:kn (a::rows) 0 (n+1) (b::R)=(b=a∧kn rows 0 n R):=by simp[kn]
theorem PB{rows:List (List D)}:kn rows 0 0 []=True:=by simp[kn]
theorem Ov{e n:Nat}:(e<e+(n+1))=True:=by simp only[eq_iff_iff,iff_true];omega
theorem Oq{e a b:Nat}:(e+a<e+b)=(a<b):=by simp
theorem Px{p:Prop}:(True→p)=p:=by simp
theorem PE{p:Prop}:(p→True)=True:=by simp
end
def Z0:=Yl (XC (XC (XC (XC @PH (XC @Oo @Ow)) (XC @KX (XC @On @KV))) (XC (XC @Py (XC @PA @PF)) (XC @PG (XC @Om @MY)))) (XC (XC (XC @MZ (XC @M1 @MW)) (XC @MX (XC @Ou @Ot))) (XC (XC @PC (XC @Gx @Px)) (XC @PE (XC @PD @PB)))))
def Z1:=Yl (XC (XC (XC (XC @Ov (XC @Oq @M0)) (XC @M4 (XC @M3 @mB.eq_1))) (XC (XC @mB.eq_2 (XC @lk.eq_1 @lk.eq_2)) (XC @pD.eq_1 (XC @pD.eq_2 @pD.eq_3)))) (XC (XC (XC @cH.eq_1 (XC @cH.eq_2 @cH.eq_3)) (XC @cH.eq_4 (XC @fE.eq_1 @fE.eq_2))) (XC (XC @cf.eq_1 (XC @if_true.{1} @if_true.{0})) (XC @if_false.{1} (XC @if_false.{0} @true_and)))))
def Z2:=Yl (XC (XC (XC (XC @and_true (XC @and_self @true_or)) (XC @or_true (XC @XH.{0,0} @Yr))) (XC (XC @Yt (XC @X6.{0} @X8.{0})) (XC @Yc.{0,0} (XC @X9.{0} @X2.{0})))) (XC (XC (XC @List.take_nil.{0} (XC @XW.{0} @XX.{0})) (XC @X5.{0} (XC @Yf.{0} @X7.{0}))) (XC (XC @XV.{0} (XC @bne_self_eq_false.{0} @Yq)) (XC @Yp (XC @Ya.{0,0} @false_or)))))
def Z3:=Yl (XC (XC (XC (XC @or_false (XC @Gx @XK.{0})) (XC @Int.toNat_natCast (XC @B4 @B3))) (XC (XC @IV (XC @IU @List.length_set.{0})) (XC @OG.eq_1 (XC @OG.eq_2 @yt.eq_1)))) (XC (XC (XC @yt.eq_2 (XC @OE.eq_1 @OE.eq_2)) (XC @FB.eq_1 (XC @FB.eq_2 @FB.eq_3))) (XC (XC @FB.eq_4 (XC @FB.eq_5 @lj.eq_1)) (XC @lj.eq_2 (XC @Ck.eq_1 @Ck.eq_2)))))
def Z4:=Yl (XC (XC (XC @sw.eq_1 @sw.eq_2) (XC @j6.eq_1 @j6.eq_2)) (XC (XC @mP.eq_1 @mP.eq_2) (XC @mP.eq_3 (XC @mP.eq_4 @hp.eq_1))))
def ZZ:=Yl (XC (XC Z0.down Z1.down) (XC Z2.down (XC Z3.down Z4.down)))
theorem OK{f:Nat→Nat}{x:D}:C.ff f (.d x)= .d x:=rfl
theorem Lp{f:Nat→Nat}{id ep off len:Nat}{cap:Option Nat}:C.ff f (.own id ep off len cap)= .own (f id) ep off len cap:=rfl
theorem Np{f:Nat→Nat}{id off:Nat}:C.ff f (.pt id off)= .pt (f id) off:=rfl
theorem Ns{f:Nat→Nat}{x:List D}:C.ff f (.fp x)= .fp x:=rfl
theorem Lr{f:Nat→Nat}{cs:List C}:bw.ff f (.box cs)= .box (cs.map (C.ff f)):=rfl
theorem Ls{f:Nat→Nat}{e sz:Nat}{rows:List (List D)}:bw.ff f (.arr e sz rows)= .arr e sz rows:=rfl
theorem OL{f:Nat→Nat}{c:C}:A1.ff f (.c c)= .c (c.ff f):=rfl
theorem Lt{f:Nat→Nat}{cs:List C}:A1.ff f (.agg cs)= .agg (cs.map (C.ff f)):=rfl
theorem Lq{f:Nat→Nat}{a:A1}:AV.ff f (.one a)= .one (a.ff f):=rfl
theorem Lo{f:Nat→Nat}{l:List A1}:AV.ff f (.tup l)= .tup (l.map (A1.ff f)):=rfl
theorem tail_nil{k:Nat}{f:Nat→Nat}:e8 k [] f=[]:=rfl
theorem Fm{k:Nat}{b:bw}{r:List (Option bw)}{f:Nat→Nat}:e8 k (Yd b::r) f=(f k,b.ff f)::e8 (k+1) r f:=rfl
theorem Fo{k:Nat}{r:List (Option bw)}{f:Nat→Nat}:e8 k (Ye::r) f=e8 (k+1) r f:=rfl
theorem HI{f:Nat→Nat}{id:Nat}:C.ff f (.mref id)= .mref (f id):=rfl
theorem Nr{κ β:Type}{f:Nat→Nat}{ek:κ→Value}{e:β→D}{l:List (κ×β)}:bw.ff f (.map (O8 ek e l))= .map (O8 ek e l):=by simp only[bw.ff];rw[tf EY]
theorem Nq{κ β:Type}{f:Nat→Nat}{ek:κ→Value}{e:β→List D}{l:List (κ×β)}:bw.ff f (.map (O7 ek e l))= .map (O7 ek e l):=by simp only[bw.ff];rw[tf EX]
theorem Nt{f:Nat→Nat}{g:Yh}{c:List (Nat×Nat)}:C.ff f (.fn g c)= .fn g (c.map fun p=>(f p.1,p.2)):=rfl
theorem PM{a:A1}:bJ [a]= .one a:=rfl
theorem PK{a b:A1}{l:List A1}:bJ (a::b::l)= .tup (a::b::l):=rfl
theorem PN:bJ []= .tup []:=rfl
def VR:=Yl (XC (XC (XC (XC @rn.eq_1 (XC @HI @Nr)) (XC @Nq (XC @OK @Lp))) (XC (XC @Np (XC @Ns @Nt)) (XC (XC @Lr @Ls) (XC @OL @Lt)))) (XC (XC (XC @Lq (XC @Lo @tail_nil)) (XC @Fm (XC @Fo @PN))) (XC (XC @PM (XC @PK @Yt)) (XC (XC @Nat.sub_zero @X5.{0}) (XC @Nat.sub_self @Nat.add_sub_cancel_left)))))
def VW:=Yl (XC VV.down VR.down)
end Go.Fw
namespace Go.Fw
def eI(n:Int):List D:=[.v (.int .i64 n)]
def eK(k:Yj)(n:Int):List D:=[.v (.int k n)]
def eB(b:Bool):List D:=[.v (.bool b)]
def eS(s:ByteArray):List D:=[.v (.string s)]
def eL{α:Type}(f:α→List D)(l:List α):List D:=[.sl (l.map f)]
def ln(n:Int):Prop:= -9223372036854775808≤n∧n≤9223372036854775807
def ll{α:Type}(_:α):Prop:=True
def tP{α:Type}(ok:α→Prop)(l:List α):Prop:=∀x∈l,ok x
def wN{α:Type}(_:α):Nat:=1
def wS(s:ByteArray):Nat:=s.size+1
def wL{α:Type}(w:α→Nat)(l:List α):Nat:=(l.map w).sum+1
theorem kg{a b c:ByteArray}(h:ue a b=Yd c):a.size+b.size≤9223372036854775807∧c=a++b:=by
 unfold ue at h
 split at h
 ·rename_i h0;cases h;exact⟨h0,rfl⟩
 ·cases h
theorem cW{α:Type}{L:List α}{i:Nat}(h:(i:Int)<(L.length:Int)):∃x,cI L (i:Int)=Yd x∧L.drop i=x::L.drop (i+1):=by
 have hi:i<L.length:=by omega
 exact⟨L[i],by simp[cI,hi],by rw[List.drop_eq_getElem_cons hi]⟩
theorem cX{α:Type}{L:List α}{i:Nat}(h:¬(i:Int)<(L.length:Int)):L.drop i=[]:=List.drop_of_length_le (by omega)
theorem b5{α:Type}{enc:α→List D}{xs:List α}:(xs.map enc).take xs.length=xs.map enc:=by
 rw[XJ (by simp)]
end Go.Fw
