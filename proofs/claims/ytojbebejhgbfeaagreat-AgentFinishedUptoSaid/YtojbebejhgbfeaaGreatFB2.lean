/- The same asked in another form. -/
import Derived.Test.YtojbebejhgbfeaaGreatFB
open Option renaming some->XC,none->XD
open List renaming replicate->XF
set_option linter.unusedVariables false
set_option linter.unusedSimpArgs false
set_option linter.unusedSectionVars false
namespace Go.Fw
def BT(rows:List (List D))(j:Int)(sz:Nat)(K:Out→Prop):Prop:=
 0≤j∧∃r,rows[j.toNat]? =XC r∧r.length=sz∧K ⟨XC (.one (.c (.fp r))),[]⟩
def KH(b:ByteArray)(j:Int)(K:Out→Prop):Prop:=
 0≤j∧∃c,b[j.toNat]? =XC c∧K ⟨XC (.one (.c (.d (.v (.int .u8 c.toNat))))),[]⟩
def cD(rows:List (List D))(row off:Nat)(n:Option Nat)(K:Out→Prop):Prop:=
 ∃r,rows[row]? =XC r∧s5 n ((r.drop off).map .d) K
def eu(rows:List (List D))(row off n:Nat)(ds:List D)(K:List (List D)→Prop):Prop:=
 ∃r,rows[row]? =XC r∧off+n≤r.length∧K (rows.set row (cf r off ds))
def qB(rows:List (List D))(sz:Nat):Prop:=∀r∈rows,r.length=sz
def my(P:Program)(f:FuncId)(as:List A1)(s:St)(K:Out→Prop):Prop:=∃out,ko P f as s (·=out)∧K out
def yg(t:Bool)(x y:Option AV)(K:Out→Prop):Prop:=
 (t=true→match x with|some v=>K ⟨XC v,[]⟩|none=>False)∧(t=false→match y with|some v=>K ⟨XC v,[]⟩|none=>False)
def xc(s:St):List O→Option (List A1)
 |[]=>XC []
 |o::r=>match s.ev o with
  |some (.one a)=>match xc s r with
   |some l=>XC (a::l)
   |none=>XD
  |_=>XD
def zB(s:St):List O→Option (List (Nat×Nat))
 |[]=>XC []
 |o::r=>match s.e9 o with
  |some (.pt id off)=>match zB s r with
   |some l=>XC ((id,off)::l)
   |none=>XD
  |_=>XD
def gg(s:St)(o:Option O)(d:Int):Option Int:=
 match o with
 |none=>XC d
 |some o=>match s.eZ o with
  |some (.int _ j)=>XC j
  |_=>XD
def zH(s:St):List C→List (Nat×Nat×O)→Option (List C)
 |cs,[]=>XC cs
 |cs,(off,n,x)::r=>match s.ev x with
  |some (.one a)=>if a.cells.length=n∧off+n≤cs.length then zH s (cf cs off a.cells) r else XD
  |_=>XD
def rN(h:List (Option bw)):List (Nat×bw)→List C→Option (List D×List (Nat×bw)×Prop)
 |wr,[]=>XC ([],wr,True)
 |wr,.d x::cs=>match rN h wr cs with
  |some (ds,wr',p)=>XC (yR x::ds,wr',p)
  |none=>XD
 |wr,.own id ep off len _::cs=>match hp (fE h wr) id with
  |some (.arr e sz rows)=>match rN h (wr++[(id,.arr (e+1) sz [])]) cs with
   |some (ds,wr',p)=>XC (.sl ((rows.drop off).take len)::ds,wr',(ep=e∧off+len≤rows.length∧p))
   |none=>XD
  |_=>XD
 |_,_=>XD
theorem pf{h:List (Option bw)}:∀{cs:List C} {wr:List (Nat×bw)} {ds wr' p} {K:List D→List (Nat×bw)→Prop},rN h wr cs=XC (ds,wr',p)→p→K ds wr'→zh h wr cs K
 |[],wr,ds,wr',p,K,hf,hp',hk=>by cases hf;exact hk
 | .d x::cs,wr,ds,wr',p,K,hf,hp',hk=>by
   simp only[rN]at hf
   split at hf
   ·rename_i ds2 wr2 p2 h2
    cases hf
    exact pf (K:=fun ds wr'=>K (yR x::ds) wr') h2 hp' hk
   ·cases hf
 | .own id ep off len cap::cs,wr,ds,wr',p,K,hf,hp',hk=>by
   simp only[rN]at hf
   split at hf
   ·rename_i e sz rows hG
    split at hf
    ·rename_i ds2 wr2 p2 h2
     cases hf
     simp only[zh,hG]
     exact⟨hp'.1,hp'.2.1,pf (K:=fun ds wr'=>K (.sl ((rows.drop off).take len)::ds) wr') h2 hp'.2.2 hk⟩
    ·cases hf
   ·cases hf
 | .pt _ _::_,_,_,_,_,_,hf,_,_=>by cases hf
 | .pe _ _ _ _::_,_,_,_,_,_,hf,_,_=>by cases hf
 | .fp _::_,_,_,_,_,_,hf,_,_=>by cases hf
 | .fn _ _::_,_,_,_,_,_,hf,_,_=>by cases hf
def od(h:List (Option bw))(sz:Nat):List (Nat×bw)→List A1→Option (List (List D)×List (Nat×bw)×Prop)
 |wr,[]=>XC ([],wr,True)
 |wr,a::r=>match rN h wr a.cells with
  |some (ds,wr',p)=>match od h sz wr' r with
   |some (rows,wr'',q)=>XC (ds::rows,wr'',(a.cells.length=sz∧p∧q))
   |none=>XD
  |none=>XD
theorem wb{h:List (Option bw)}{sz:Nat}:∀{as:List A1} {wr:List (Nat×bw)} {rows wr' p} {K:List (List D)→List (Nat×bw)→Prop},od h sz wr as=XC (rows,wr',p)→p→K rows wr'→uu h sz wr as K
 |[],wr,rows,wr',p,K,hf,hp',hk=>by cases hf;exact hk
 |a::r,wr,rows,wr',p,K,hf,hp',hk=>by
  simp only[od]at hf
  split at hf
  ·rename_i ds2 wr2 p2 h2
   split at hf
   ·rename_i rows3 wr3 q3 h3
    cases hf
    exact⟨hp'.1,pf h2 hp'.2.1 (wb (K:=fun rows wr''=>K (ds2::rows) wr'') h3 hp'.2.2 hk)⟩
   ·cases hf
  ·cases hf
def kQ(G:eg)(sz:Nat)(c:C):Option (List (List D)×Prop):=
 match c with
 | .d (.sl rows)=>XC (rows,qB rows sz)
 | .d (.v (.slice XD 0 0))=>XC ([],True)
 | .own id ep off len _=>match G id with
   |some (.arr e sz' rows)=>XC ((rows.drop off).take len,(ep=e∧sz'=sz∧off+len≤rows.length))
   |_=>XD
 |_=>XD
theorem q8{G:eg}{sz:Nat}{c:C}{rows p}{K:List (List D)→Prop}(h:kQ G sz c=XC (rows,p))(hp':p)(hk:K rows):np G sz c K:=by
 unfold kQ at h
 unfold np
 split at h
 ·cases h;exact⟨hp',hk⟩
 ·cases h;exact hk
 ·split at h
  ·rename_i hG
   cases h
   first|exact⟨hp'.1,hp'.2.1,hp'.2.2,hk⟩|(simp only[hG];exact⟨hp'.1,hp'.2.1,hp'.2.2,hk⟩)
  ·cases h
 ·cases h
def QH(s:St)(id ep off len c sz:Nat)(rows new:List (List D))(K:Out→Prop):Prop:=
 (len+new.length≤c∧K ⟨XC (.one (.c (.own id ep off (len+new.length) (XC c)))),[(id,.arr ep sz (cf rows (off+len) new))]⟩)∨
 (c<len+new.length∧len+new.length≤4294967296∧K ⟨XC (.one (.c (.own s.heap.length 0 0 (len+new.length) XD))),[(s.heap.length,.arr 0 sz ((rows.drop off).take len++new))]⟩)
def kE(s:St)(sz:Nat)(cx:C)(new:List (List D))(K:Out→Prop):Prop:=
 match cx with
 | .d (.v (.slice XD 0 0))=>new.length≤4294967296∧
     K ⟨XC (.one (.c (.own s.heap.length 0 0 new.length XD))),[(s.heap.length,.arr 0 sz new)]⟩
 | .own id ep off len XD=>match hp s.heap id with
   |some (.arr e sz' rows)=>(ep=e∧sz'=sz∧off+len≤rows.length∧len+new.length≤4294967296)∧
     K ⟨XC (.one (.c (.own id (ep+1) 0 (len+new.length) XD))),[(id,.arr (ep+1) sz ((rows.drop off).take len++new))]⟩
   |_=>False
 | .own id ep off len (XC c)=>match hp s.heap id with
   |some (.arr e sz' rows)=>(ep=e∧sz'=sz∧off+len≤rows.length)∧QH s id ep off len c sz rows new K
   |_=>False
 |_=>False
def ug(s:St)(sz:Nat)(cx:C)(len':Nat)(new:List (List D))(val:Option AV)(K:Out→Prop):Prop:=
 match cx with
 | .own id ep off _ _=>match hp s.heap id with
   |some (.arr e sz' rows)=>(ep=e∧sz'=sz∧off≤rows.length)∧K ⟨val,[(id,.arr ep sz (cf rows off (new.take len')))]⟩
   |_=>False
 |_=>False
def Ps(wr:List (Nat×bw))(id e sz:Nat)(K:Out→Prop)(rows:List (List D)):Prop:=K ⟨XD,wr++[(id,.arr e sz rows)]⟩
def jE(P:Program)(op:jS)(s:St)(K:Out→Prop):Prop:=
 match op with
 | .mv x=>match s.ev x with
   |some v=>K ⟨XC v,[]⟩
   |none=>False
 | .pick c x y=>match s.eZ c with
   |some (.bool t)=>yg t (s.ev x) (s.ev y) K
   |_=>False
 | .box x=>match s.ev x with
   |some (.one a)=>K ⟨XC (.one (.c (.pt s.heap.length 0))),[(s.heap.length,.box a.cells)]⟩
   |_=>False
 | .zbox cs=>K ⟨XC (.one (.c (.pt s.heap.length 0))),[(s.heap.length,.box cs)]⟩
 | .build zero parts=>match zH s zero parts with
   |some cs=>K ⟨XC (.one (.agg cs)),[]⟩
   |none=>False
 | .bslice sz parts=>match xc s parts with
   |some as=>match od s.heap sz [] as with
    |some (rows,wr,p)=>p∧K ⟨XC (.one (.c (.own s.heap.length 0 0 rows.length XD))),wr++[(s.heap.length,.arr 0 sz rows)]⟩
    |none=>False
   |none=>False
 | .load n x=>match s.e9 x with
   |some (.pt id off)=>match hp s.heap id with
    |some (.box cells)=>s5 n (cells.drop off) K
    |_=>False
   |some (.pe id ep row off)=>match hp s.heap id with
    |some (.arr e _ rows)=>ep=e∧cD rows row off n K
    |_=>False
   |some (.fp cells)=>s5 n (cells.map .d) K
   |_=>False
 | .store n a x=>match s.ev x with
   |some (.one v)=>(v.cells.length=n∧0<n)∧match s.e9 a with
    |some (.pt id off)=>match hp s.heap id with
     |some (.box cells)=>off+n≤cells.length∧K ⟨XD,[(id,.box (cf cells off v.cells))]⟩
     |_=>False
    |some (.pe id ep row off)=>match rN s.heap [] v.cells with
     |some (ds,wr,p)=>p∧match hp (fE s.heap wr) id with
      |some (.arr e sz rows)=>ep=e∧eu rows row off n ds (Ps wr id e sz K)
      |_=>False
     |none=>False
    |_=>False
   |_=>False
 | .fieldA off x=>match s.e9 x with
   |some (.pt id o)=>ret K (.pt id (o+off))
   |some (.pe id ep row o)=>match hp s.heap id with
    |some (.arr e _ _)=>ep=e∧ret K (.pe id ep row (o+off))
    |_=>False
   |some (.fp cells)=>ret K (.fp (cells.drop off))
   |_=>False
 | .field off n x=>match s.ev x with
   |some (.one (.agg cs))=>s5 n (cs.drop off) K
   |_=>False
 | .indexA sz x i=>match s.eZ i with
   |some (.int _ j)=>match s.e9 x with
    |some (.d (.sl rows))=>BT rows j sz K
    |some (.own id ep off len _)=>(0≤j∧j<len)∧match hp s.heap id with
     |some (.arr e sz' rows)=>(ep=e∧sz'=sz∧off+j.toNat<rows.length)∧ret K (.pe id ep (off+j.toNat) 0)
     |_=>False
    |_=>False
   |_=>False
 | .sidx x i=>match s.eZ x with
   |some (.string b)=>match s.eZ i with
    |some (.int _ j)=>KH b j K
    |_=>False
   |_=>False
 | .slice sz x lo hi mx=>match s.e9 x with
   |some (.d (.sl rows))=>match mx with
    |none=>match gg s lo 0 with
     |some l=>match gg s hi rows.length with
      |some h=>(0≤l∧l≤h∧h≤rows.length∧qB rows sz)∧ret K (.d (.sl ((rows.take h.toNat).drop l.toNat)))
      |none=>False
     |none=>False
    |some mx=>match gg s (XC mx) 0 with
     |some m=>match gg s lo 0 with
      |some l=>match gg s hi rows.length with
       |some h=>(0≤l∧l=h∧h=m∧m≤rows.length)∧K ⟨XC (.one (.c (.own s.heap.length 0 0 0 XD))),[(s.heap.length,.arr 0 sz [])]⟩
       |none=>False
      |none=>False
     |none=>False
   |some (.d (.v (.slice XD 0 0)))=>match mx with
    |none=>match gg s lo 0 with
     |some l=>match gg s hi 0 with
      |some h=>(l=0∧h=0)∧ey K (.slice XD 0 0)
      |none=>False
     |none=>False
    |some _=>False
   |some (.own id ep off len cap)=>match hp s.heap id with
    |some (.arr e sz' _)=>(ep=e∧sz'=sz)∧match cap with
     |none=>match mx with
      |none=>match gg s lo 0 with
       |some l=>match gg s hi len with
        |some h=>(0≤l∧l≤h∧h≤len)∧ret K (.own id ep (off+l.toNat) (h.toNat-l.toNat) XD)
        |none=>False
       |none=>False
      |some mx=>match gg s (XC mx) 0 with
       |some m=>match gg s lo 0 with
        |some l=>match gg s hi len with
         |some h=>(0≤l∧l≤h∧h≤m∧m≤len)∧ret K (.own id ep (off+l.toNat) (h.toNat-l.toNat) (XC (m.toNat-l.toNat)))
         |none=>False
        |none=>False
       |none=>False
     |some c=>match gg s mx c with
      |some m=>match gg s lo 0 with
       |some l=>match gg s hi len with
        |some h=>(0≤l∧l≤h∧h≤m∧m≤c)∧ret K (.own id ep (off+l.toNat) (h.toNat-l.toNat) (XC (m.toNat-l.toNat)))
        |none=>False
       |none=>False
      |none=>False
    |_=>False
   |_=>False
 | .sslice x lo hi=>match s.eZ x with
   |some (.string b)=>match gg s lo 0 with
    |some l=>match gg s hi b.size with
     |some h=>(0≤l∧l≤h∧h≤b.size)∧ey K (.string (b.extract l.toNat h.toNat))
     |none=>False
    |none=>False
   |_=>False
 | .fn f cs=>match zB s cs with
   |some l=>ret K (.fn f l)
   |none=>False
 | .app sz _ x y=>match s.e9 x with
   |some cx=>match s.e9 y with
    |some cy=>match kQ (hp s.heap) sz cy with
     |some (new,p)=>p∧kE s sz cx new K
     |none=>False
    |none=>False
   |none=>False
 | .appz sz _ zero x y=>match s.e9 x with
   |some cx=>match s.eZ y with
    |some (.int _ l)=>(0≤l∧l≤4294967296)∧kE s sz cx (XF l.toNat zero) K
    |_=>False
   |none=>False
 | .copy sz x y=>match s.e9 x with
   |some (.own id ep off len cap)=>match s.e9 y with
    |some cy=>match kQ (hp s.heap) sz (wz len cy)with
     |some (new,p)=>p∧ug s sz (.own id ep off len cap) (min new.length len) (new.take (min new.length len)) (XC (.one (.c (.d (.v (.int .i64 (min new.length len:Nat))))))) K
     |none=>False
    |none=>False
   |_=>False
 | .clear sz zero x=>match s.e9 x with
   |some (.own id ep off len cap)=>ug s sz (.own id ep off len cap) len (XF len zero) XD K
   |_=>False
 | .mk sz _ zero l c=>match s.eZ l with
   |some (.int _ l)=>match s.eZ c with
    |some (.int _ c)=>(0≤l∧l≤c∧c≤4294967296)∧K ⟨XC (.one (.c (.own s.heap.length 0 0 l.toNat XD))),[(s.heap.length,.arr 0 sz (XF l.toNat zero))]⟩
    |_=>False
   |_=>False
 | .call f args=>match xc s args with
   |some as=>my P f as s K
   |none=>False
 | .callv g args=>match s.e9 g with
   |some (.fn f cs)=>match xc s args with
    |some as=>my P f (as++cs.map fun c=> .c (.pt c.1 c.2)) s K
    |none=>False
   |_=>False
 | .ext x i=>match s.ev x with
   |some (.tup l)=>match l[i]? with
    |some a=>K ⟨XC (.one a),[]⟩
    |none=>False
   |_=>False
 | .len x=>match s.e9 x with
   |some (.d (.sl rows))=>ey K (.int .i64 rows.length)
   |some (.d (.v (.slice _ m _)))=>ey K (.int .i64 m)
   |some (.own id ep _ len _)=>match hp s.heap id with
    |some (.arr e _ _)=>ep=e∧ey K (.int .i64 len)
    |_=>False
   |_=>False
 | .slen x=>match s.eZ x with
   |some (.string b)=>ey K (.int .i64 b.size)
   |_=>False
 | .cap x=>match s.e9 x with
   |some (.own id ep _ _ (XC c))=>match hp s.heap id with
    |some (.arr e _ _)=>ep=e∧ey K (.int .i64 c)
    |_=>False
   |_=>False
 | .bin op x y=>match s.eZ x with
   |some a=>match s.eZ y with
    |some b=>fA op a b (ey K)
    |none=>False
   |none=>False
 | .eqnil neg x=>match s.e9 x with
   |some (.d (.v (.slice XD 0 0)))=>ey K (.bool (!neg))
   |_=>False
 | .istr x=>match s.eZ x with
   |some (.int _ n)=>ey K (.string (Utf8.encode n))
   |_=>False
 | .mkmap=>K ⟨XC (.one (.c (.mref s.heap.length))),[(s.heap.length,.map [])]⟩
 | .mget kd ok zero m k=>match s.e9 m with
   |some (.mref id)=>match hp s.heap id with
    |some (.map ents)=>match s.eZ k with
     |some kv=>(kX kd kv=true∧uf kd ents=true)∧K ⟨XC (OS ok zero (nR kv ents)),[]⟩
     |none=>False
    |_=>False
   |_=>False
 | .mdel kd m k=>match s.e9 m with
   |some (.mref id)=>match hp s.heap id with
    |some (.map ents)=>match s.eZ k with
     |some kv=>(kX kd kv=true∧uf kd ents=true)∧K ⟨XC (.tup []),[(id,.map (rB kv ents))]⟩
     |none=>False
    |_=>False
   |_=>False
 | .opq k x=>False
 | .mlen m=>match s.e9 m with
   |some (.mref id)=>match hp s.heap id with
    |some (.map ents)=>ey K (.int .i64 (ents.length:Nat))
    |_=>False
   |_=>False
 | .mset kd m k v=>match s.e9 m with
   |some (.mref id)=>match hp s.heap id with
    |some (.map ents)=>match s.eZ k with
     |some kv=>match s.ev v with
      |some (.one a)=>(kX kd kv=true∧uf kd ents=true∧a.gz=true)∧K ⟨XD,[(id,.map (yV kv a ents))]⟩
      |_=>False
     |none=>False
    |_=>False
   |_=>False
 | .not x=>match s.eZ x with
   |some (.bool t)=>ey K (.bool (nb t))
   |_=>False
 | .beq neg x y=>match s.eZ x with
   |some (.bool a)=>match s.eZ y with
    |some (.bool b)=>ey K (.bool ((a==b)!=neg))
    |_=>False
   |_=>False
 | .neg x=>match s.eZ x with
   |some (.int k n)=>ey K (.int k (k.wrap (0-n)))
   |_=>False
 | .max x y=>match s.eZ x with
   |some (.int k a)=>match s.eZ y with
    |some (.int _ b)=>ey K (.int k (if a<b then b else a))
    |_=>False
   |_=>False
 | .min x y=>match s.eZ x with
   |some (.int k a)=>match s.eZ y with
    |some (.int _ b)=>ey K (.int k (if b<a then b else a))
    |_=>False
   |_=>False
 | .mins x r=>match s.eZ x with
   |some (.int k a)=>px s r k a K
   |_=>False
 | .conv k x=>match s.eZ x with
   |some (.int _ n)=>ey K (.int k (k.wrap n))
   |_=>False
 | .eqs neg plan x y=>match s.ev x with
   |some (.one (.agg xs))=>match s.ev y with
    |some (.one (.agg ys))=>match jw plan xs ys with
     |some b=>ey K (.bool (O4 neg b))
     |none=>False
    |_=>False
   |_=>False
def Gr(neg e:Bool)(K:Out→Prop):Prop:=∀b,(e=false→b=false)→ey K (.bool (b !=neg))
def AN(P:Program)(op:jS)(s:St)(K:Out→Prop):Prop:=
 match op with
 | .eqnil neg x=>match s.e9 x with
   |some (.d (.v (.slice XD 0 0)))=>ey K (.bool (!neg))
   |some (.d (.sl rows))=>Gr neg rows.isEmpty K
   |some (.own id ep _ len _)=>match hp s.heap id with
    |some (.arr e _ _)=>ep=e∧Gr neg (len==0) K
    |_=>False
   |_=>False
 |op=>jE P op s K
theorem rQ{s:St}:∀{os:List O} {as:List A1} {K:List A1→Prop},xc s os=XC as→K as→uw s os K
 |[],as,K,h,hk=>by cases h;exact hk
 |o::r,as,K,h,hk=>by
  simp only[xc]at h
  split at h
  ·rename_i a ha
   split at h
   ·rename_i l hl
    cases h
    simp only[uw,ha]
    exact rQ (K:=fun l=>K (a::l)) hl hk
   ·cases h
  ·cases h
theorem yb{s:St}:∀{os:List O} {as:List (Nat×Nat)} {K:List (Nat×Nat)→Prop},zB s os=XC as→K as→gV s os K
 |[],as,K,h,hk=>by cases h;exact hk
 |o::r,as,K,h,hk=>by
  simp only[zB]at h
  split at h
  ·rename_i id off ha
   split at h
   ·rename_i l hl
    cases h
    simp only[gV,ha]
    exact yb (K:=fun l=>K ((id,off)::l)) hl hk
   ·cases h
  ·cases h
theorem BA{s:St}:∀{ps:List (Nat×Nat×O)} {cs cs':List C} {K:List C→Prop},zH s cs ps=XC cs'→K cs'→Gu s cs ps K
 |[],cs,cs',K,h,hk=>by cases h;exact hk
 |(off,n,x)::r,cs,cs',K,h,hk=>by
  simp only[zH]at h
  split at h
  ·rename_i a ha
   split at h
   ·rename_i hc
    simp only[Gu,ha]
    exact⟨hc.1,hc.2,BA h hk⟩
   ·cases h
  ·cases h
theorem gI{s:St}{o:Option O}{d:Nat}{j:Int}{K:Nat→Prop}(h:gg s o d=XC j)(h0:0≤j)(hk:K j.toNat):ia s o d K:=by
 cases o with
 |none=>cases h;simpa[ia]using hk
 |some o=>
  simp only[gg]at h
  split at h
  ·rename_i k j' hj
   cases h
   simp only[ia,hj,idx]
   exact⟨h0,hk⟩
  ·cases h
theorem uo{n:Option Nat}{cs:List C}{K:Out→Prop}(h:s5 n cs K):∃out,s5 n cs (·=out)∧K out:=by
 cases n with
 |none=>cases cs with
  |nil=>exact h.elim
  |cons c cs=>exact⟨_,rfl,h⟩
 |some n=>exact⟨_,⟨h.1,rfl⟩,h.2⟩
theorem Kp{op:BinOp}{a b:Value}{K:Value→Prop}(h:fA op a b K):∃v,fA op a b (·=v)∧K v:=by
 unfold fA at h⊢
 split at h
 ·obtain⟨rfl,h⟩:=h
  cases op<;>first
   |exact h.elim
   |exact⟨_,⟨rfl,rfl⟩,h⟩
   |exact⟨_,⟨rfl,h.1,rfl⟩,h.2⟩
 ·cases op<;>first
   |exact h.elim
   |exact⟨_,rfl,h⟩
   |exact⟨_,⟨h.1,rfl⟩,h.2⟩
 ·exact h.elim
theorem Gn{op:BinOp}{a b:Value}{K K':Value→Prop}(hm:∀v,K v→K' v)(h:fA op a b K):fA op a b K':=by
 unfold fA at h⊢
 split at h
 ·obtain⟨rfl,h⟩:=h
  refine⟨rfl,?_⟩
  cases op<;>first
   |exact h.elim
   |exact hm _ h
   |exact⟨h.1,hm _ h.2⟩
 ·cases op<;>first
   |exact h.elim
   |exact hm _ h
   |exact⟨h.1,hm _ h.2⟩
 ·exact h.elim
theorem AZ{s:St}:∀{r:List O} {k:IntKind} {a:Int} {K:Out→Prop},px s r k a K→∃out,px s r k a (·=out)∧K out
 |[],k,a,K,h=>⟨_,rfl,h⟩
 |y::r,k,a,K,h=>by
  simp only[px]at h⊢
  split at h
  ·exact AZ h
  ·exact h.elim
theorem yL{P:Program}{op:jS}{s:St}{K:Out→Prop}(h:jE P op s K):∃out,eN P op s (·=out)∧K out:=by
 cases op with
 |mv x=>
  simp only[jE]at h;simp only[eN,dp]
  split at h
  ·rename_i v hv;simp only[hv];exact⟨_,rfl,h⟩
  ·exact h.elim
 |pick c x y=>
  simp only[jE]at h;simp only[eN,dp]
  split at h
  ·rename_i t ht
   simp only[ht]
   simp only[yg]at h
   cases t with
   |true=>
    have h:=h.1 rfl
    split at h
    ·rename_i v hv;simp only[hv];exact⟨_,⟨fun _=>rfl,fun h=>(by cases h)⟩,h⟩
    ·exact h.elim
   |false=>
    have h:=h.2 rfl
    split at h
    ·rename_i v hv;simp only[hv];exact⟨_,⟨fun h=>(by cases h),fun _=>rfl⟩,h⟩
    ·exact h.elim
  ·exact h.elim
 |box x=>
  simp only[jE]at h;simp only[eN,dp]
  split at h
  ·rename_i a ha;simp only[ha];exact⟨_,rfl,h⟩
  ·exact h.elim
 |zbox cs=>exact⟨_,rfl,h⟩
 |istr x=>
  simp only[jE]at h;simp only[eN,dp]
  split at h
  ·rename_i hx;simp only[hx];exact⟨_,rfl,h⟩
  ·exact h.elim
 |mkmap=>exact⟨_,rfl,h⟩
 |mget kd ok z m k=>
  simp only[jE]at h;simp only[eN,dp]
  split at h
  ·rename_i id hx
   simp only[hx]
   split at h
   ·rename_i ents hG
    simp only[hG]
    split at h
    ·rename_i kv hkv
     simp only[hkv]
     exact⟨_,⟨h.1.1,h.1.2,rfl⟩,h.2⟩
    ·exact h.elim
   ·exact h.elim
  ·exact h.elim
 |mdel kd m k=>
  simp only[jE]at h;simp only[eN,dp]
  split at h
  ·rename_i id hx
   simp only[hx]
   split at h
   ·rename_i ents hG
    simp only[hG]
    split at h
    ·rename_i kv hkv
     simp only[hkv]
     exact⟨_,⟨h.1.1,h.1.2,rfl⟩,h.2⟩
    ·exact h.elim
   ·exact h.elim
  ·exact h.elim
 |opq k x=>simp only[jE]at h
 |mlen m=>
  simp only[jE]at h;simp only[eN,dp]
  split at h
  ·rename_i id hx
   simp only[hx]
   split at h
   ·rename_i ents hG
    simp only[hG]
    exact⟨_,rfl,h⟩
   ·exact h.elim
  ·exact h.elim
 |mset kd m k v=>
  simp only[jE]at h;simp only[eN,dp]
  split at h
  ·rename_i id hx
   simp only[hx]
   split at h
   ·rename_i ents hG
    simp only[hG]
    split at h
    ·rename_i kv hkv
     simp only[hkv]
     split at h
     ·rename_i a ha
      simp only[ha]
      exact⟨_,⟨h.1.1,h.1.2.1,h.1.2.2,rfl⟩,h.2⟩
     ·exact h.elim
    ·exact h.elim
   ·exact h.elim
  ·exact h.elim
 |build z ps=>
  simp only[jE]at h;simp only[eN,dp]
  split at h
  ·rename_i cs hcs;exact⟨_,BA hcs rfl,h⟩
  ·exact h.elim
 |bslice sz ps=>
  simp only[jE]at h;simp only[eN,dp]
  split at h
  ·rename_i as has
   split at h
   ·rename_i rows wr p hr
    exact⟨_,rQ has (wb hr h.1 rfl),h.2⟩
   ·exact h.elim
  ·exact h.elim
 |load n x=>
  simp only[jE]at h;simp only[eN,dp]
  split at h
  ·rename_i id off hx
   simp only[hx]
   split at h
   ·rename_i cells hG;simp only[hG];exact uo h
   ·exact h.elim
  ·rename_i id ep row off hx
   simp only[hx]
   split at h
   ·rename_i e sz rows hG
    simp only[hG]
    obtain⟨rfl,r,hr,h⟩:=h
    obtain⟨out,h1,h2⟩:=uo h
    exact⟨out,⟨rfl,r,hr,h1⟩,h2⟩
   ·exact h.elim
  ·rename_i cells hx;simp only[hx];exact uo h
  ·exact h.elim
 |store n a x=>
  simp only[jE]at h;simp only[eN,dp]
  split at h
  ·rename_i v hv
   simp only[hv]
   obtain⟨⟨h1,h2⟩,h⟩:=h
   split at h
   ·rename_i id off hx
    simp only[hx]
    split at h
    ·rename_i cells hG;simp only[hG];exact⟨_,⟨h1,h2,h.1,rfl⟩,h.2⟩
    ·exact h.elim
   ·rename_i id ep row off hx
    simp only[hx]
    split at h
    ·rename_i ds wr p hf
     obtain⟨hp',h⟩:=h
     split at h
     ·rename_i e sz rows hG
      obtain⟨rfl,r,hr,hle,h⟩:=h
      exact⟨_,⟨h1,h2,pf hf hp' (by rw[hG];exact⟨rfl,r,hr,hle,rfl⟩)⟩,h⟩
     ·exact h.elim
    ·exact h.elim
   ·exact h.elim
  ·exact h.elim
 |fieldA off x=>
  simp only[jE]at h;simp only[eN,dp]
  split at h
  ·rename_i hx;simp only[hx];exact⟨_,rfl,h⟩
  ·rename_i hx
   simp only[hx]
   split at h
   ·rename_i hG;simp only[hG];exact⟨_,⟨h.1,rfl⟩,h.2⟩
   ·exact h.elim
  ·rename_i hx;simp only[hx];exact⟨_,rfl,h⟩
  ·exact h.elim
 |field off n x=>
  simp only[jE]at h;simp only[eN,dp]
  split at h
  ·rename_i hx;simp only[hx];exact uo h
  ·exact h.elim
 |indexA sz x i=>
  simp only[jE]at h;simp only[eN,dp]
  split at h
  ·rename_i k j hj
   simp only[hj,idx]
   split at h
   ·rename_i rows hx
    simp only[hx]
    obtain⟨h0,r,hr,hl,h⟩:=h
    exact⟨_,⟨h0,r,hr,hl,rfl⟩,h⟩
   ·rename_i hx
    simp only[hx]
    obtain⟨⟨h0,hlt⟩,h⟩:=h
    split at h
    ·rename_i hG;simp only[hG];exact⟨_,⟨h0,by omega,h.1.1,h.1.2.1,h.1.2.2,rfl⟩,h.2⟩
    ·exact h.elim
   ·exact h.elim
  ·exact h.elim
 |sidx x i=>
  simp only[jE]at h;simp only[eN,dp]
  split at h
  ·rename_i hx
   split at h
   ·rename_i hi
    simp only[hx,hi,idx]
    obtain⟨h0,c,hc,h⟩:=h
    exact⟨_,⟨h0,c,hc,rfl⟩,h⟩
   ·exact h.elim
  ·exact h.elim
 |slice sz x lo hi mx=>
  simp only[jE]at h;simp only[eN,dp]
  split at h
  ·rename_i rows hx
   simp only[hx]
   split at h
   ·split at h
    ·rename_i l hl
     split at h
     ·rename_i hh hhh
      obtain⟨⟨h1,h2,h3,h4⟩,h⟩:=h
      exact⟨_,gI hhh (by omega) (gI hl h1 ⟨by omega,by omega,h4,rfl⟩),h⟩
     ·exact h.elim
    ·exact h.elim
   ·split at h
    ·rename_i m hm
     split at h
     ·rename_i l hl
      split at h
      ·rename_i hh hhh
       obtain⟨⟨h1,rfl,rfl,h4⟩,h⟩:=h
       exact⟨_,gI hm h1 (gI hhh h1 (gI hl h1 ⟨rfl,rfl,by omega,rfl⟩)),h⟩
      ·exact h.elim
     ·exact h.elim
    ·exact h.elim
  ·rename_i hx
   simp only[hx]
   split at h
   ·split at h
    ·rename_i l hl
     split at h
     ·rename_i hh hhh
      obtain⟨⟨rfl,rfl⟩,h⟩:=h
      exact⟨_,⟨rfl,gI hhh (by omega) (gI hl (by omega) ⟨rfl,rfl,rfl⟩)⟩,h⟩
     ·exact h.elim
    ·exact h.elim
   ·exact h.elim
  ·rename_i id ep off len cap hx
   simp only[hx]
   split at h
   ·rename_i hG
    simp only[hG]
    obtain⟨⟨h1,h2⟩,h⟩:=h
    split at h
    ·split at h
     ·split at h
      ·rename_i l hl
       split at h
       ·rename_i hh hhh
        obtain⟨⟨q1,q2,q3⟩,h⟩:=h
        exact⟨_,⟨h1,h2,gI hhh (by omega) (gI hl q1 ⟨by omega,by omega,rfl⟩)⟩,h⟩
       ·exact h.elim
      ·exact h.elim
     ·split at h
      ·rename_i m hm
       split at h
       ·rename_i l hl
        split at h
        ·rename_i hh hhh
         obtain⟨⟨q1,q2,q3,q4⟩,h⟩:=h
         exact⟨_,⟨h1,h2,gI hm (by omega) (gI hhh (by omega) (gI hl q1 ⟨by omega,by omega,by omega,rfl⟩))⟩,h⟩
        ·exact h.elim
       ·exact h.elim
      ·exact h.elim
    ·split at h
     ·rename_i m hm
      split at h
      ·rename_i l hl
       split at h
       ·rename_i hh hhh
        obtain⟨⟨q1,q2,q3,q4⟩,h⟩:=h
        exact⟨_,⟨h1,h2,gI hm (by omega) (gI hhh (by omega) (gI hl q1 ⟨by omega,by omega,by omega,rfl⟩))⟩,h⟩
       ·exact h.elim
      ·exact h.elim
     ·exact h.elim
   ·exact h.elim
  ·exact h.elim
 |sslice x lo hi=>
  simp only[jE]at h;simp only[eN,dp]
  split at h
  ·rename_i hx
   simp only[hx]
   split at h
   ·rename_i l hl
    split at h
    ·rename_i hh hhh
     obtain⟨⟨h1,h2,h3⟩,h⟩:=h
     exact⟨_,gI hhh (by omega) (gI hl h1 ⟨by omega,by omega,rfl⟩),h⟩
    ·exact h.elim
   ·exact h.elim
  ·exact h.elim
 |fn f cs=>
  simp only[jE]at h;simp only[eN,dp]
  split at h
  ·rename_i l hl;exact⟨_,yb hl rfl,h⟩
  ·exact h.elim
 |app sz b x y=>
  simp only[jE]at h;simp only[eN]
  split at h
  ·rename_i cx hcx
   split at h
   ·rename_i cy hcy
    split at h
    ·rename_i new p hr
     obtain⟨hp',h⟩:=h
     simp only[hcx,hcy]
     unfold kE at h
     split at h
     ·exact⟨_,q8 hr hp' ⟨h.1,rfl⟩,h.2⟩
     ·rename_i id ep off len
      split at h
      ·rename_i hG
       obtain⟨⟨h1,h2,h3,h4⟩,h⟩:=h
       exact⟨_,q8 hr hp' (by simp only[r6,hG];exact⟨h1,h2,h3,h4,trivial⟩),h⟩
      ·exact h.elim
     ·rename_i id ep off len c
      split at h
      ·rename_i hG
       obtain⟨⟨h1,h2,h3⟩,h|h⟩:=h
       ·exact⟨_,q8 hr hp' (by simp only[r6,hG];exact⟨h1,h2,h3,fun _=>trivial,fun hc=>by omega⟩),h.2⟩
       ·exact⟨_,q8 hr hp' (by simp only[r6,hG];exact⟨h1,h2,h3,fun hc=>by omega,fun _=>⟨h.2.1,trivial⟩⟩),h.2.2⟩
      ·exact h.elim
     ·exact h.elim
    ·exact h.elim
   ·exact h.elim
  ·exact h.elim
 |appz sz b z x y=>
  simp only[jE]at h;simp only[eN]
  split at h
  ·rename_i cx hcx
   split at h
   ·rename_i k l hcy
    obtain⟨⟨q1,q2⟩,h⟩:=h
    simp only[hcx,hcy]
    unfold kE at h
    split at h
    ·exact⟨_,⟨q1,q2,h.1,rfl⟩,h.2⟩
    ·rename_i id ep off len
     split at h
     ·rename_i hG
      obtain⟨⟨h1,h2,h3,h4⟩,h⟩:=h
      exact⟨_,⟨q1,q2,by simp only[r6,hG];exact⟨h1,h2,h3,h4,trivial⟩⟩,h⟩
     ·exact h.elim
    ·rename_i id ep off len c
     split at h
     ·rename_i hG
      obtain⟨⟨h1,h2,h3⟩,h|h⟩:=h
      ·exact⟨_,⟨q1,q2,by simp only[r6,hG];exact⟨h1,h2,h3,fun _=>trivial,fun hc=>by omega⟩⟩,h.2⟩
      ·exact⟨_,⟨q1,q2,by simp only[r6,hG];exact⟨h1,h2,h3,fun hc=>by omega,fun _=>⟨h.2.1,trivial⟩⟩⟩,h.2.2⟩
     ·exact h.elim
    ·exact h.elim
   ·exact h.elim
  ·exact h.elim
 |copy sz x y=>
  simp only[jE]at h;simp only[eN]
  split at h
  ·rename_i id ep off len cap hx
   split at h
   ·rename_i cy hcy
    split at h
    ·rename_i new p hr
     obtain⟨hp',h⟩:=h
     simp only[hx,hcy]
     unfold ug at h
     simp only at h
     split at h
     ·rename_i hG
      obtain⟨⟨h1,h2,h3⟩,h⟩:=h
      exact⟨_,q8 hr hp' (by simp only[KL,hG];exact⟨h1,h2,h3,trivial⟩),h⟩
     ·exact h.elim
    ·exact h.elim
   ·exact h.elim
  ·exact h.elim
 |clear sz z x=>
  simp only[jE]at h;simp only[eN]
  split at h
  ·rename_i id ep off len cap hx
   simp only[hx]
   unfold ug at h
   simp only at h
   split at h
   ·rename_i hG
    obtain⟨⟨h1,h2,h3⟩,h⟩:=h
    exact⟨_,by simp only[KL,hG];exact⟨h1,h2,h3,trivial⟩,h⟩
   ·exact h.elim
  ·exact h.elim
 |mk sz b z l c=>
  simp only[jE]at h;simp only[eN]
  split at h
  ·rename_i hl
   split at h
   ·rename_i hc
    simp only[hl,hc]
    exact⟨_,⟨h.1.1,h.1.2.1,h.1.2.2,rfl⟩,h.2⟩
   ·exact h.elim
  ·exact h.elim
 |call f args=>
  simp only[jE]at h;simp only[eN]
  split at h
  ·rename_i as has
   obtain⟨out,h1,h2⟩:=h
   exact⟨out,rQ has h1,h2⟩
  ·exact h.elim
 |callv g args=>
  simp only[jE]at h;simp only[eN]
  split at h
  ·rename_i hg
   simp only[hg]
   split at h
   ·rename_i as has
    obtain⟨out,h1,h2⟩:=h
    exact⟨out,rQ has h1,h2⟩
   ·exact h.elim
  ·exact h.elim
 |ext x i=>
  simp only[jE]at h;simp only[eN,dp]
  split at h
  ·rename_i hx
   simp only[hx]
   split at h
   ·rename_i ha;simp only[ha];exact⟨_,rfl,h⟩
   ·exact h.elim
  ·exact h.elim
 |len x=>
  simp only[jE]at h;simp only[eN,dp]
  split at h
  ·rename_i hx;simp only[hx];exact⟨_,rfl,h⟩
  ·rename_i hx;simp only[hx];exact⟨_,rfl,h⟩
  ·rename_i hx
   simp only[hx]
   split at h
   ·rename_i hG;simp only[hG];exact⟨_,⟨h.1,rfl⟩,h.2⟩
   ·exact h.elim
  ·exact h.elim
 |slen x=>
  simp only[jE]at h;simp only[eN,dp]
  split at h
  ·rename_i hx;simp only[hx];exact⟨_,rfl,h⟩
  ·exact h.elim
 |cap x=>
  simp only[jE]at h;simp only[eN,dp]
  split at h
  ·rename_i hx
   simp only[hx]
   split at h
   ·rename_i hG;simp only[hG];exact⟨_,⟨h.1,rfl⟩,h.2⟩
   ·exact h.elim
  ·exact h.elim
 |bin op x y=>
  simp only[jE]at h;simp only[eN,dp]
  split at h
  ·rename_i a ha
   split at h
   ·rename_i b hb
    simp only[ha,hb]
    obtain⟨v,h1,h2⟩:=Kp h
    exact⟨_,Gn (fun u hu=>by subst hu;rfl) h1,h2⟩
   ·exact h.elim
  ·exact h.elim
 |eqnil neg x=>
  simp only[jE]at h;simp only[eN,dp]
  split at h
  ·rename_i hx;simp only[hx];exact⟨_,rfl,h⟩
  ·exact h.elim
 |not x=>
  simp only[jE]at h;simp only[eN,dp]
  split at h
  ·rename_i hx;simp only[hx];exact⟨_,rfl,h⟩
  ·exact h.elim
 |beq neg x y=>
  simp only[jE]at h;simp only[eN,dp]
  split at h
  ·rename_i ha
   split at h
   ·rename_i hb;simp only[ha,hb];exact⟨_,rfl,h⟩
   ·exact h.elim
  ·exact h.elim
 |neg x=>
  simp only[jE]at h;simp only[eN,dp]
  split at h
  ·rename_i hx;simp only[hx];exact⟨_,rfl,h⟩
  ·exact h.elim
 |max x y=>
  simp only[jE]at h;simp only[eN,dp]
  split at h
  ·rename_i ha
   split at h
   ·rename_i hb;simp only[ha,hb];exact⟨_,rfl,h⟩
   ·exact h.elim
  ·exact h.elim
 |min x y=>
  simp only[jE]at h;simp only[eN,dp]
  split at h
  ·rename_i ha
   split at h
   ·rename_i hb;simp only[ha,hb];exact⟨_,rfl,h⟩
   ·exact h.elim
  ·exact h.elim
 |mins x r=>
  simp only[jE]at h;simp only[eN,dp]
  split at h
  ·rename_i hx;simp only[hx];exact AZ h
  ·exact h.elim
 |conv k x=>
  simp only[jE]at h;simp only[eN,dp]
  split at h
  ·rename_i hx;simp only[hx];exact⟨_,rfl,h⟩
  ·exact h.elim
 |eqs neg plan x y=>
  simp only[jE]at h;simp only[eN,dp]
  split at h
  ·rename_i hx
   split at h
   ·rename_i hy
    split at h
    ·rename_i b hb;simp only[hx,hy,hb];exact⟨_,rfl,h⟩
    ·exact h.elim
   ·exact h.elim
  ·exact h.elim
end Go.Fw
