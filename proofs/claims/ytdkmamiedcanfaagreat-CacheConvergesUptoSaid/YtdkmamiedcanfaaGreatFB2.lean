/- The same asked in another form. -/
import Derived.Test.YtdkmamiedcanfaaGreatFB
set_option linter.unusedVariables false
set_option linter.unusedSimpArgs false
set_option linter.unusedSectionVars false
namespace Go.Fw
def MI(rows:List (List D))(j:Int)(sz:Nat)(K:Out→Prop):Prop:=
 0≤j∧∃r,rows[j.toNat]? =some r∧r.length=sz∧K ⟨some (.one (.c (.fp r))),[]⟩
def MJ(b:ByteArray)(j:Int)(K:Out→Prop):Prop:=
 0≤j∧∃c,b[j.toNat]? =some c∧K ⟨some (.one (.c (.d (.v (.int .u8 c.toNat))))),[]⟩
def Es(rows:List (List D))(row off:Nat)(n:Option Nat)(K:Out→Prop):Prop:=
 ∃r,rows[row]? =some r∧ldC n ((r.drop off).map .d) K
def Fp(rows:List (List D))(row off n:Nat)(ds:List D)(K:List (List D)→Prop):Prop:=
 ∃r,rows[row]? =some r∧off+n≤r.length∧K (rows.set row (A8 r off ds))
def IZ(rows:List (List D))(sz:Nat):Prop:=∀r∈rows,r.length=sz
def J0(P:Program)(f:FuncId)(as:List A1)(s:St)(K:Out→Prop):Prop:=∃out,Fq P f as s (·=out)∧K out
def Nu(t:Bool)(x y:Option AV)(K:Out→Prop):Prop:=
 (t=true→match x with|some v=>K ⟨some v,[]⟩|none=>False)∧(t=false→match y with|some v=>K ⟨some v,[]⟩|none=>False)
def evL(s:St):List O→Option (List A1)
 |[]=>some []
 |o::r=>match s.ev o with
  |some (.one a)=>match evL s r with
   |some l=>some (a::l)
   |none=>none
  |_=>none
def Ov(s:St):List O→Option (List (Nat×Nat))
 |[]=>some []
 |o::r=>match s.evC o with
  |some (.pt id off)=>match Ov s r with
   |some l=>some ((id,off)::l)
   |none=>none
  |_=>none
def Di(s:St)(o:Option O)(d:Int):Option Int:=
 match o with
 |none=>some d
 |some o=>match s.evV o with
  |some (.int _ j)=>some j
  |_=>none
def Ox(s:St):List C→List (Nat×Nat×O)→Option (List C)
 |cs,[]=>some cs
 |cs,(off,n,x)::r=>match s.ev x with
  |some (.one a)=>if a.cells.length=n∧off+n≤cs.length then Ox s (A8 cs off a.cells) r else none
  |_=>none
def JH(h:List (Option Blk)):List (Nat×Blk)→List C→Option (List D×List (Nat×Blk)×Prop)
 |wr,[]=>some ([],wr,True)
 |wr,.d x::cs=>match JH h wr cs with
  |some (ds,wr',p)=>some (nrm x::ds,wr',p)
  |none=>none
 |wr,.own id ep off len _::cs=>match hp (wrs h wr) id with
  |some (.arr e sz rows)=>match JH h (wr++[(id,.arr (e+1) sz [])]) cs with
   |some (ds,wr',p)=>some (.sl ((rows.drop off).take len)::ds,wr',(ep=e∧off+len≤rows.length∧p))
   |none=>none
  |_=>none
 |_,_=>none
theorem Ij{h:List (Option Blk)}:∀{cs:List C} {wr:List (Nat×Blk)} {ds wr' p} {K:List D→List (Nat×Blk)→Prop},JH h wr cs=some (ds,wr',p)→p→K ds wr'→Od h wr cs K
 |[],wr,ds,wr',p,K,hf,hp',hk=>by cases hf;exact hk
 | .d x::cs,wr,ds,wr',p,K,hf,hp',hk=>by
   simp only[JH]at hf
   split at hf
   ·rename_i ds2 wr2 p2 h2
    cases hf
    exact Ij (K:=fun ds wr'=>K (nrm x::ds) wr') h2 hp' hk
   ·cases hf
 | .own id ep off len cap::cs,wr,ds,wr',p,K,hf,hp',hk=>by
   simp only[JH]at hf
   split at hf
   ·rename_i e sz rows hG
    split at hf
    ·rename_i ds2 wr2 p2 h2
     cases hf
     simp only[Od,hG]
     exact⟨hp'.1,hp'.2.1,Ij (K:=fun ds wr'=>K (.sl ((rows.drop off).take len)::ds) wr') h2 hp'.2.2 hk⟩
    ·cases hf
   ·cases hf
 | .pt _ _::_,_,_,_,_,_,hf,_,_=>by cases hf
 | .pe _ _ _ _::_,_,_,_,_,_,hf,_,_=>by cases hf
 | .fp _::_,_,_,_,_,_,hf,_,_=>by cases hf
 | .fn _ _::_,_,_,_,_,_,hf,_,_=>by cases hf
def Iy(h:List (Option Blk))(sz:Nat):List (Nat×Blk)→List A1→Option (List (List D)×List (Nat×Blk)×Prop)
 |wr,[]=>some ([],wr,True)
 |wr,a::r=>match JH h wr a.cells with
  |some (ds,wr',p)=>match Iy h sz wr' r with
   |some (rows,wr'',q)=>some (ds::rows,wr'',(a.cells.length=sz∧p∧q))
   |none=>none
  |none=>none
theorem Me{h:List (Option Blk)}{sz:Nat}:∀{as:List A1} {wr:List (Nat×Blk)} {rows wr' p} {K:List (List D)→List (Nat×Blk)→Prop},Iy h sz wr as=some (rows,wr',p)→p→K rows wr'→K6 h sz wr as K
 |[],wr,rows,wr',p,K,hf,hp',hk=>by cases hf;exact hk
 |a::r,wr,rows,wr',p,K,hf,hp',hk=>by
  simp only[Iy]at hf
  split at hf
  ·rename_i ds2 wr2 p2 h2
   split at hf
   ·rename_i rows3 wr3 q3 h3
    cases hf
    exact⟨hp'.1,Ij h2 hp'.2.1 (Me (K:=fun rows wr''=>K (ds2::rows) wr'') h3 hp'.2.2 hk)⟩
   ·cases hf
  ·cases hf
def Fu(G:BX)(sz:Nat)(c:C):Option (List (List D)×Prop):=
 match c with
 | .d (.sl rows)=>some (rows,IZ rows sz)
 | .d (.v (.slice none 0 0))=>some ([],True)
 | .own id ep off len _=>match G id with
   |some (.arr e sz' rows)=>some ((rows.drop off).take len,(ep=e∧sz'=sz∧off+len≤rows.length))
   |_=>none
 |_=>none
theorem Je{G:BX}{sz:Nat}{c:C}{rows p}{K:List (List D)→Prop}(h:Fu G sz c=some (rows,p))(hp':p)(hk:K rows):GN G sz c K:=by
 unfold Fu at h
 unfold GN
 split at h
 ·cases h;exact⟨hp',hk⟩
 ·cases h;exact hk
 ·split at h
  ·rename_i hG
   cases h
   first|exact⟨hp'.1,hp'.2.1,hp'.2.2,hk⟩|(simp only[hG];exact⟨hp'.1,hp'.2.1,hp'.2.2,hk⟩)
  ·cases h
 ·cases h
def YX(s:St)(id ep off len c sz:Nat)(rows new:List (List D))(K:Out→Prop):Prop:=
 (len+new.length≤c∧K ⟨some (.one (.c (.own id ep off (len+new.length) (some c)))),[(id,.arr ep sz (A8 rows (off+len) new))]⟩)∨
 (c<len+new.length∧len+new.length≤4294967296∧K ⟨some (.one (.c (.own s.heap.length 0 0 (len+new.length) none))),[(s.heap.length,.arr 0 sz ((rows.drop off).take len++new))]⟩)
def Fo(s:St)(sz:Nat)(cx:C)(new:List (List D))(K:Out→Prop):Prop:=
 match cx with
 | .d (.v (.slice none 0 0))=>new.length≤4294967296∧
     K ⟨some (.one (.c (.own s.heap.length 0 0 new.length none))),[(s.heap.length,.arr 0 sz new)]⟩
 | .own id ep off len none=>match hp s.heap id with
   |some (.arr e sz' rows)=>(ep=e∧sz'=sz∧off+len≤rows.length∧len+new.length≤4294967296)∧
     K ⟨some (.one (.c (.own id (ep+1) 0 (len+new.length) none))),[(id,.arr (ep+1) sz ((rows.drop off).take len++new))]⟩
   |_=>False
 | .own id ep off len (some c)=>match hp s.heap id with
   |some (.arr e sz' rows)=>(ep=e∧sz'=sz∧off+len≤rows.length)∧YX s id ep off len c sz rows new K
   |_=>False
 |_=>False
def wr1(s:St)(sz:Nat)(cx:C)(len':Nat)(new:List (List D))(val:Option AV)(K:Out→Prop):Prop:=
 match cx with
 | .own id ep off _ _=>match hp s.heap id with
   |some (.arr e sz' rows)=>(ep=e∧sz'=sz∧off≤rows.length)∧K ⟨val,[(id,.arr ep sz (A8 rows off (new.take len')))]⟩
   |_=>False
 |_=>False
def kSt(wr:List (Nat×Blk))(id e sz:Nat)(K:Out→Prop)(rows:List (List D)):Prop:=K ⟨none,wr++[(id,.arr e sz rows)]⟩
def op1(P:Program)(op:AOp)(s:St)(K:Out→Prop):Prop:=
 match op with
 | .mv x=>match s.ev x with
   |some v=>K ⟨some v,[]⟩
   |none=>False
 | .pick c x y=>match s.evV c with
   |some (.bool t)=>Nu t (s.ev x) (s.ev y) K
   |_=>False
 | .box x=>match s.ev x with
   |some (.one a)=>K ⟨some (.one (.c (.pt s.heap.length 0))),[(s.heap.length,.box a.cells)]⟩
   |_=>False
 | .zbox cs=>K ⟨some (.one (.c (.pt s.heap.length 0))),[(s.heap.length,.box cs)]⟩
 | .build zero parts=>match Ox s zero parts with
   |some cs=>K ⟨some (.one (.agg cs)),[]⟩
   |none=>False
 | .bslice sz parts=>match evL s parts with
   |some as=>match Iy s.heap sz [] as with
    |some (rows,wr,p)=>p∧K ⟨some (.one (.c (.own s.heap.length 0 0 rows.length none))),wr++[(s.heap.length,.arr 0 sz rows)]⟩
    |none=>False
   |none=>False
 | .load n x=>match s.evC x with
   |some (.pt id off)=>match hp s.heap id with
    |some (.box cells)=>ldC n (cells.drop off) K
    |_=>False
   |some (.pe id ep row off)=>match hp s.heap id with
    |some (.arr e _ rows)=>ep=e∧Es rows row off n K
    |_=>False
   |some (.fp cells)=>ldC n (cells.map .d) K
   |_=>False
 | .store n a x=>match s.ev x with
   |some (.one v)=>(v.cells.length=n∧0<n)∧match s.evC a with
    |some (.pt id off)=>match hp s.heap id with
     |some (.box cells)=>off+n≤cells.length∧K ⟨none,[(id,.box (A8 cells off v.cells))]⟩
     |_=>False
    |some (.pe id ep row off)=>match JH s.heap [] v.cells with
     |some (ds,wr,p)=>p∧match hp (wrs s.heap wr) id with
      |some (.arr e sz rows)=>ep=e∧Fp rows row off n ds (kSt wr id e sz K)
      |_=>False
     |none=>False
    |_=>False
   |_=>False
 | .fieldA off x=>match s.evC x with
   |some (.pt id o)=>ret K (.pt id (o+off))
   |some (.pe id ep row o)=>match hp s.heap id with
    |some (.arr e _ _)=>ep=e∧ret K (.pe id ep row (o+off))
    |_=>False
   |some (.fp cells)=>ret K (.fp (cells.drop off))
   |_=>False
 | .field off n x=>match s.ev x with
   |some (.one (.agg cs))=>ldC n (cs.drop off) K
   |_=>False
 | .indexA sz x i=>match s.evV i with
   |some (.int _ j)=>match s.evC x with
    |some (.d (.sl rows))=>MI rows j sz K
    |some (.own id ep off len _)=>(0≤j∧j<len)∧match hp s.heap id with
     |some (.arr e sz' rows)=>(ep=e∧sz'=sz∧off+j.toNat<rows.length)∧ret K (.pe id ep (off+j.toNat) 0)
     |_=>False
    |_=>False
   |_=>False
 | .sidx x i=>match s.evV x with
   |some (.string b)=>match s.evV i with
    |some (.int _ j)=>MJ b j K
    |_=>False
   |_=>False
 | .slice sz x lo hi mx=>match s.evC x with
   |some (.d (.sl rows))=>match mx with
    |none=>match Di s lo 0 with
     |some l=>match Di s hi rows.length with
      |some h=>(0≤l∧l≤h∧h≤rows.length∧IZ rows sz)∧ret K (.d (.sl ((rows.take h.toNat).drop l.toNat)))
      |none=>False
     |none=>False
    |some mx=>match Di s (some mx) 0 with
     |some m=>match Di s lo 0 with
      |some l=>match Di s hi rows.length with
       |some h=>(0≤l∧l=h∧h=m∧m≤rows.length)∧K ⟨some (.one (.c (.own s.heap.length 0 0 0 none))),[(s.heap.length,.arr 0 sz [])]⟩
       |none=>False
      |none=>False
     |none=>False
   |some (.d (.v (.slice none 0 0)))=>match mx with
    |none=>match Di s lo 0 with
     |some l=>match Di s hi 0 with
      |some h=>(l=0∧h=0)∧BR K (.slice none 0 0)
      |none=>False
     |none=>False
    |some _=>False
   |some (.own id ep off len cap)=>match hp s.heap id with
    |some (.arr e sz' _)=>(ep=e∧sz'=sz)∧match cap with
     |none=>match mx with
      |none=>match Di s lo 0 with
       |some l=>match Di s hi len with
        |some h=>(0≤l∧l≤h∧h≤len)∧ret K (.own id ep (off+l.toNat) (h.toNat-l.toNat) none)
        |none=>False
       |none=>False
      |some mx=>match Di s (some mx) 0 with
       |some m=>match Di s lo 0 with
        |some l=>match Di s hi len with
         |some h=>(0≤l∧l≤h∧h≤m∧m≤len)∧ret K (.own id ep (off+l.toNat) (h.toNat-l.toNat) (some (m.toNat-l.toNat)))
         |none=>False
        |none=>False
       |none=>False
     |some c=>match Di s mx c with
      |some m=>match Di s lo 0 with
       |some l=>match Di s hi len with
        |some h=>(0≤l∧l≤h∧h≤m∧m≤c)∧ret K (.own id ep (off+l.toNat) (h.toNat-l.toNat) (some (m.toNat-l.toNat)))
        |none=>False
       |none=>False
      |none=>False
    |_=>False
   |_=>False
 | .sslice x lo hi=>match s.evV x with
   |some (.string b)=>match Di s lo 0 with
    |some l=>match Di s hi b.size with
     |some h=>(0≤l∧l≤h∧h≤b.size)∧BR K (.string (b.extract l.toNat h.toNat))
     |none=>False
    |none=>False
   |_=>False
 | .fn f cs=>match Ov s cs with
   |some l=>ret K (.fn f l)
   |none=>False
 | .app sz _ x y=>match s.evC x with
   |some cx=>match s.evC y with
    |some cy=>match Fu (hp s.heap) sz cy with
     |some (new,p)=>p∧Fo s sz cx new K
     |none=>False
    |none=>False
   |none=>False
 | .appz sz _ zero x y=>match s.evC x with
   |some cx=>match s.evV y with
    |some (.int _ l)=>(0≤l∧l≤4294967296)∧Fo s sz cx (List.replicate l.toNat zero) K
    |_=>False
   |none=>False
 | .copy sz x y=>match s.evC x with
   |some (.own id ep off len cap)=>match s.evC y with
    |some cy=>match Fu (hp s.heap) sz (Mr len cy)with
     |some (new,p)=>p∧wr1 s sz (.own id ep off len cap) (min new.length len) (new.take (min new.length len)) (some (.one (.c (.d (.v (.int .i64 (min new.length len:Nat))))))) K
     |none=>False
    |none=>False
   |_=>False
 | .clear sz zero x=>match s.evC x with
   |some (.own id ep off len cap)=>wr1 s sz (.own id ep off len cap) len (List.replicate len zero) none K
   |_=>False
 | .mk sz _ zero l c=>match s.evV l with
   |some (.int _ l)=>match s.evV c with
    |some (.int _ c)=>(0≤l∧l≤c∧c≤4294967296)∧K ⟨some (.one (.c (.own s.heap.length 0 0 l.toNat none))),[(s.heap.length,.arr 0 sz (List.replicate l.toNat zero))]⟩
    |_=>False
   |_=>False
 | .call f args=>match evL s args with
   |some as=>J0 P f as s K
   |none=>False
 | .callv g args=>match s.evC g with
   |some (.fn f cs)=>match evL s args with
    |some as=>J0 P f (as++cs.map fun c=> .c (.pt c.1 c.2)) s K
    |none=>False
   |_=>False
 | .ext x i=>match s.ev x with
   |some (.tup l)=>match l[i]? with
    |some a=>K ⟨some (.one a),[]⟩
    |none=>False
   |_=>False
 | .len x=>match s.evC x with
   |some (.d (.sl rows))=>BR K (.int .i64 rows.length)
   |some (.d (.v (.slice _ m _)))=>BR K (.int .i64 m)
   |some (.own id ep _ len _)=>match hp s.heap id with
    |some (.arr e _ _)=>ep=e∧BR K (.int .i64 len)
    |_=>False
   |_=>False
 | .slen x=>match s.evV x with
   |some (.string b)=>BR K (.int .i64 b.size)
   |_=>False
 | .cap x=>match s.evC x with
   |some (.own id ep _ _ (some c))=>match hp s.heap id with
    |some (.arr e _ _)=>ep=e∧BR K (.int .i64 c)
    |_=>False
   |_=>False
 | .bin op x y=>match s.evV x with
   |some a=>match s.evV y with
    |some b=>Cf op a b (BR K)
    |none=>False
   |none=>False
 | .eqnil neg x=>match s.evC x with
   |some (.d (.v (.slice none 0 0)))=>BR K (.bool (!neg))
   |_=>False
 | .istr x=>match s.evV x with
   |some (.int _ n)=>BR K (.string (Utf8.encode n))
   |_=>False
 | .mkmap=>K ⟨some (.one (.c (.mref s.heap.length))),[(s.heap.length,.map [])]⟩
 | .mget kd ok zero m k=>match s.evC m with
   |some (.mref id)=>match hp s.heap id with
    |some (.map ents)=>match s.evV k with
     |some kv=>(Ez kd kv=true∧GG kd ents=true)∧K ⟨some (WD ok zero (EP kv ents)),[]⟩
     |none=>False
    |_=>False
   |_=>False
 | .mdel kd m k=>match s.evC m with
   |some (.mref id)=>match hp s.heap id with
    |some (.map ents)=>match s.evV k with
     |some kv=>(Ez kd kv=true∧GG kd ents=true)∧K ⟨some (.tup []),[(id,.map (GO kv ents))]⟩
     |none=>False
    |_=>False
   |_=>False
 | .mlen m=>match s.evC m with
   |some (.mref id)=>match hp s.heap id with
    |some (.map ents)=>BR K (.int .i64 (ents.length:Nat))
    |_=>False
   |_=>False
 | .mset kd m k v=>match s.evC m with
   |some (.mref id)=>match hp s.heap id with
    |some (.map ents)=>match s.evV k with
     |some kv=>match s.ev v with
      |some (.one a)=>(Ez kd kv=true∧GG kd ents=true∧a.EA=true)∧K ⟨none,[(id,.map (Jv kv a ents))]⟩
      |_=>False
     |none=>False
    |_=>False
   |_=>False
 | .not x=>match s.evV x with
   |some (.bool t)=>BR K (.bool (nb t))
   |_=>False
 | .beq neg x y=>match s.evV x with
   |some (.bool a)=>match s.evV y with
    |some (.bool b)=>BR K (.bool ((a==b)!=neg))
    |_=>False
   |_=>False
 | .neg x=>match s.evV x with
   |some (.int k n)=>BR K (.int k (k.wrap (0-n)))
   |_=>False
 | .max x y=>match s.evV x with
   |some (.int k a)=>match s.evV y with
    |some (.int _ b)=>BR K (.int k (if a<b then b else a))
    |_=>False
   |_=>False
 | .min x y=>match s.evV x with
   |some (.int k a)=>match s.evV y with
    |some (.int _ b)=>BR K (.int k (if b<a then b else a))
    |_=>False
   |_=>False
 | .mins x r=>match s.evV x with
   |some (.int k a)=>Iq s r k a K
   |_=>False
 | .conv k x=>match s.evV x with
   |some (.int _ n)=>BR K (.int k (k.wrap n))
   |_=>False
 | .eqs neg plan x y=>match s.ev x with
   |some (.one (.agg xs))=>match s.ev y with
    |some (.one (.agg ys))=>match Em plan xs ys with
     |some b=>BR K (.bool (eqB neg b))
     |none=>False
    |_=>False
   |_=>False
def TC(neg e:Bool)(K:Out→Prop):Prop:=∀b,(e=false→b=false)→BR K (.bool (b !=neg))
def opS(P:Program)(op:AOp)(s:St)(K:Out→Prop):Prop:=
 match op with
 | .eqnil neg x=>match s.evC x with
   |some (.d (.v (.slice none 0 0)))=>BR K (.bool (!neg))
   |some (.d (.sl rows))=>TC neg rows.isEmpty K
   |some (.own id ep _ len _)=>match hp s.heap id with
    |some (.arr e _ _)=>ep=e∧TC neg (len==0) K
    |_=>False
   |_=>False
 |op=>op1 P op s K
theorem K7{s:St}:∀{os:List O} {as:List A1} {K:List A1→Prop},evL s os=some as→K as→evs s os K
 |[],as,K,h,hk=>by cases h;exact hk
 |o::r,as,K,h,hk=>by
  simp only[evL]at h
  split at h
  ·rename_i a ha
   split at h
   ·rename_i l hl
    cases h
    simp only[evs,ha]
    exact K7 (K:=fun l=>K (a::l)) hl hk
   ·cases h
  ·cases h
theorem Nq{s:St}:∀{os:List O} {as:List (Nat×Nat)} {K:List (Nat×Nat)→Prop},Ov s os=some as→K as→Dr s os K
 |[],as,K,h,hk=>by cases h;exact hk
 |o::r,as,K,h,hk=>by
  simp only[Ov]at h
  split at h
  ·rename_i id off ha
   split at h
   ·rename_i l hl
    cases h
    simp only[Dr,ha]
    exact Nq (K:=fun l=>K ((id,off)::l)) hl hk
   ·cases h
  ·cases h
theorem PS{s:St}:∀{ps:List (Nat×Nat×O)} {cs cs':List C} {K:List C→Prop},Ox s cs ps=some cs'→K cs'→bld s cs ps K
 |[],cs,cs',K,h,hk=>by cases h;exact hk
 |(off,n,x)::r,cs,cs',K,h,hk=>by
  simp only[Ox]at h
  split at h
  ·rename_i a ha
   split at h
   ·rename_i hc
    simp only[bld,ha]
    exact⟨hc.1,hc.2,PS h hk⟩
   ·cases h
  ·cases h
theorem Db{s:St}{o:Option O}{d:Nat}{j:Int}{K:Nat→Prop}(h:Di s o d=some j)(h0:0≤j)(hk:K j.toNat):Dw s o d K:=by
 cases o with
 |none=>cases h;simpa[Dw]using hk
 |some o=>
  simp only[Di]at h
  split at h
  ·rename_i k j' hj
   cases h
   simp only[Dw,hj,idx]
   exact⟨h0,hk⟩
  ·cases h
theorem K5{n:Option Nat}{cs:List C}{K:Out→Prop}(h:ldC n cs K):∃out,ldC n cs (·=out)∧K out:=by
 cases n with
 |none=>cases cs with
  |nil=>exact h.elim
  |cons c cs=>exact⟨_,rfl,h⟩
 |some n=>exact⟨_,⟨h.1,rfl⟩,h.2⟩
theorem Vw{op:BinOp}{a b:Value}{K:Value→Prop}(h:Cf op a b K):∃v,Cf op a b (·=v)∧K v:=by
 unfold Cf at h⊢
 split at h
 ·obtain⟨rfl,h⟩:=h
  cases op<;>first
   |exact h.elim
   |exact⟨_,⟨rfl,rfl⟩,h⟩
   |exact⟨_,⟨rfl,h.1,rfl⟩,h.2⟩
 ·cases op<;>first
   |exact h.elim
   |exact⟨_,rfl,h⟩
   |exact⟨_,⟨h.1,rfl⟩,h.2⟩
 ·exact h.elim
theorem TA{op:BinOp}{a b:Value}{K K':Value→Prop}(hm:∀v,K v→K' v)(h:Cf op a b K):Cf op a b K':=by
 unfold Cf at h⊢
 split at h
 ·obtain⟨rfl,h⟩:=h
  refine⟨rfl,?_⟩
  cases op<;>first
   |exact h.elim
   |exact hm _ h
   |exact⟨h.1,hm _ h.2⟩
 ·cases op<;>first
   |exact h.elim
   |exact hm _ h
   |exact⟨h.1,hm _ h.2⟩
 ·exact h.elim
theorem Px{s:St}:∀{r:List O} {k:IntKind} {a:Int} {K:Out→Prop},Iq s r k a K→∃out,Iq s r k a (·=out)∧K out
 |[],k,a,K,h=>⟨_,rfl,h⟩
 |y::r,k,a,K,h=>by
  simp only[Iq]at h⊢
  split at h
  ·exact Px h
  ·exact h.elim
theorem N1{P:Program}{op:AOp}{s:St}{K:Out→Prop}(h:op1 P op s K):∃out,opA P op s (·=out)∧K out:=by
 cases op with
 |mv x=>
  simp only[op1]at h;simp only[opA,op0]
  split at h
  ·rename_i v hv;simp only[hv];exact⟨_,rfl,h⟩
  ·exact h.elim
 |pick c x y=>
  simp only[op1]at h;simp only[opA,op0]
  split at h
  ·rename_i t ht
   simp only[ht]
   simp only[Nu]at h
   cases t with
   |true=>
    have h:=h.1 rfl
    split at h
    ·rename_i v hv;simp only[hv];exact⟨_,⟨fun _=>rfl,fun h=>(by cases h)⟩,h⟩
    ·exact h.elim
   |false=>
    have h:=h.2 rfl
    split at h
    ·rename_i v hv;simp only[hv];exact⟨_,⟨fun h=>(by cases h),fun _=>rfl⟩,h⟩
    ·exact h.elim
  ·exact h.elim
 |box x=>
  simp only[op1]at h;simp only[opA,op0]
  split at h
  ·rename_i a ha;simp only[ha];exact⟨_,rfl,h⟩
  ·exact h.elim
 |zbox cs=>exact⟨_,rfl,h⟩
 |istr x=>
  simp only[op1]at h;simp only[opA,op0]
  split at h
  ·rename_i hx;simp only[hx];exact⟨_,rfl,h⟩
  ·exact h.elim
 |mkmap=>exact⟨_,rfl,h⟩
 |mget kd ok z m k=>
  simp only[op1]at h;simp only[opA,op0]
  split at h
  ·rename_i id hx
   simp only[hx]
   split at h
   ·rename_i ents hG
    simp only[hG]
    split at h
    ·rename_i kv hkv
     simp only[hkv]
     exact⟨_,⟨h.1.1,h.1.2,rfl⟩,h.2⟩
    ·exact h.elim
   ·exact h.elim
  ·exact h.elim
 |mdel kd m k=>
  simp only[op1]at h;simp only[opA,op0]
  split at h
  ·rename_i id hx
   simp only[hx]
   split at h
   ·rename_i ents hG
    simp only[hG]
    split at h
    ·rename_i kv hkv
     simp only[hkv]
     exact⟨_,⟨h.1.1,h.1.2,rfl⟩,h.2⟩
    ·exact h.elim
   ·exact h.elim
  ·exact h.elim
 |mlen m=>
  simp only[op1]at h;simp only[opA,op0]
  split at h
  ·rename_i id hx
   simp only[hx]
   split at h
   ·rename_i ents hG
    simp only[hG]
    exact⟨_,rfl,h⟩
   ·exact h.elim
  ·exact h.elim
 |mset kd m k v=>
  simp only[op1]at h;simp only[opA,op0]
  split at h
  ·rename_i id hx
   simp only[hx]
   split at h
   ·rename_i ents hG
    simp only[hG]
    split at h
    ·rename_i kv hkv
     simp only[hkv]
     split at h
     ·rename_i a ha
      simp only[ha]
      exact⟨_,⟨h.1.1,h.1.2.1,h.1.2.2,rfl⟩,h.2⟩
     ·exact h.elim
    ·exact h.elim
   ·exact h.elim
  ·exact h.elim
 |build z ps=>
  simp only[op1]at h;simp only[opA,op0]
  split at h
  ·rename_i cs hcs;exact⟨_,PS hcs rfl,h⟩
  ·exact h.elim
 |bslice sz ps=>
  simp only[op1]at h;simp only[opA,op0]
  split at h
  ·rename_i as has
   split at h
   ·rename_i rows wr p hr
    exact⟨_,K7 has (Me hr h.1 rfl),h.2⟩
   ·exact h.elim
  ·exact h.elim
 |load n x=>
  simp only[op1]at h;simp only[opA,op0]
  split at h
  ·rename_i id off hx
   simp only[hx]
   split at h
   ·rename_i cells hG;simp only[hG];exact K5 h
   ·exact h.elim
  ·rename_i id ep row off hx
   simp only[hx]
   split at h
   ·rename_i e sz rows hG
    simp only[hG]
    obtain⟨rfl,r,hr,h⟩:=h
    obtain⟨out,h1,h2⟩:=K5 h
    exact⟨out,⟨rfl,r,hr,h1⟩,h2⟩
   ·exact h.elim
  ·rename_i cells hx;simp only[hx];exact K5 h
  ·exact h.elim
 |store n a x=>
  simp only[op1]at h;simp only[opA,op0]
  split at h
  ·rename_i v hv
   simp only[hv]
   obtain⟨⟨h1,h2⟩,h⟩:=h
   split at h
   ·rename_i id off hx
    simp only[hx]
    split at h
    ·rename_i cells hG;simp only[hG];exact⟨_,⟨h1,h2,h.1,rfl⟩,h.2⟩
    ·exact h.elim
   ·rename_i id ep row off hx
    simp only[hx]
    split at h
    ·rename_i ds wr p hf
     obtain⟨hp',h⟩:=h
     split at h
     ·rename_i e sz rows hG
      obtain⟨rfl,r,hr,hle,h⟩:=h
      exact⟨_,⟨h1,h2,Ij hf hp' (by rw[hG];exact⟨rfl,r,hr,hle,rfl⟩)⟩,h⟩
     ·exact h.elim
    ·exact h.elim
   ·exact h.elim
  ·exact h.elim
 |fieldA off x=>
  simp only[op1]at h;simp only[opA,op0]
  split at h
  ·rename_i hx;simp only[hx];exact⟨_,rfl,h⟩
  ·rename_i hx
   simp only[hx]
   split at h
   ·rename_i hG;simp only[hG];exact⟨_,⟨h.1,rfl⟩,h.2⟩
   ·exact h.elim
  ·rename_i hx;simp only[hx];exact⟨_,rfl,h⟩
  ·exact h.elim
 |field off n x=>
  simp only[op1]at h;simp only[opA,op0]
  split at h
  ·rename_i hx;simp only[hx];exact K5 h
  ·exact h.elim
 |indexA sz x i=>
  simp only[op1]at h;simp only[opA,op0]
  split at h
  ·rename_i k j hj
   simp only[hj,idx]
   split at h
   ·rename_i rows hx
    simp only[hx]
    obtain⟨h0,r,hr,hl,h⟩:=h
    exact⟨_,⟨h0,r,hr,hl,rfl⟩,h⟩
   ·rename_i hx
    simp only[hx]
    obtain⟨⟨h0,hlt⟩,h⟩:=h
    split at h
    ·rename_i hG;simp only[hG];exact⟨_,⟨h0,by omega,h.1.1,h.1.2.1,h.1.2.2,rfl⟩,h.2⟩
    ·exact h.elim
   ·exact h.elim
  ·exact h.elim
 |sidx x i=>
  simp only[op1]at h;simp only[opA,op0]
  split at h
  ·rename_i hx
   split at h
   ·rename_i hi
    simp only[hx,hi,idx]
    obtain⟨h0,c,hc,h⟩:=h
    exact⟨_,⟨h0,c,hc,rfl⟩,h⟩
   ·exact h.elim
  ·exact h.elim
 |slice sz x lo hi mx=>
  simp only[op1]at h;simp only[opA,op0]
  split at h
  ·rename_i rows hx
   simp only[hx]
   split at h
   ·split at h
    ·rename_i l hl
     split at h
     ·rename_i hh hhh
      obtain⟨⟨h1,h2,h3,h4⟩,h⟩:=h
      exact⟨_,Db hhh (by omega) (Db hl h1 ⟨by omega,by omega,h4,rfl⟩),h⟩
     ·exact h.elim
    ·exact h.elim
   ·split at h
    ·rename_i m hm
     split at h
     ·rename_i l hl
      split at h
      ·rename_i hh hhh
       obtain⟨⟨h1,rfl,rfl,h4⟩,h⟩:=h
       exact⟨_,Db hm h1 (Db hhh h1 (Db hl h1 ⟨rfl,rfl,by omega,rfl⟩)),h⟩
      ·exact h.elim
     ·exact h.elim
    ·exact h.elim
  ·rename_i hx
   simp only[hx]
   split at h
   ·split at h
    ·rename_i l hl
     split at h
     ·rename_i hh hhh
      obtain⟨⟨rfl,rfl⟩,h⟩:=h
      exact⟨_,⟨rfl,Db hhh (by omega) (Db hl (by omega) ⟨rfl,rfl,rfl⟩)⟩,h⟩
     ·exact h.elim
    ·exact h.elim
   ·exact h.elim
  ·rename_i id ep off len cap hx
   simp only[hx]
   split at h
   ·rename_i hG
    simp only[hG]
    obtain⟨⟨h1,h2⟩,h⟩:=h
    split at h
    ·split at h
     ·split at h
      ·rename_i l hl
       split at h
       ·rename_i hh hhh
        obtain⟨⟨q1,q2,q3⟩,h⟩:=h
        exact⟨_,⟨h1,h2,Db hhh (by omega) (Db hl q1 ⟨by omega,by omega,rfl⟩)⟩,h⟩
       ·exact h.elim
      ·exact h.elim
     ·split at h
      ·rename_i m hm
       split at h
       ·rename_i l hl
        split at h
        ·rename_i hh hhh
         obtain⟨⟨q1,q2,q3,q4⟩,h⟩:=h
         exact⟨_,⟨h1,h2,Db hm (by omega) (Db hhh (by omega) (Db hl q1 ⟨by omega,by omega,by omega,rfl⟩))⟩,h⟩
        ·exact h.elim
       ·exact h.elim
      ·exact h.elim
    ·split at h
     ·rename_i m hm
      split at h
      ·rename_i l hl
       split at h
       ·rename_i hh hhh
        obtain⟨⟨q1,q2,q3,q4⟩,h⟩:=h
        exact⟨_,⟨h1,h2,Db hm (by omega) (Db hhh (by omega) (Db hl q1 ⟨by omega,by omega,by omega,rfl⟩))⟩,h⟩
       ·exact h.elim
      ·exact h.elim
     ·exact h.elim
   ·exact h.elim
  ·exact h.elim
 |sslice x lo hi=>
  simp only[op1]at h;simp only[opA,op0]
  split at h
  ·rename_i hx
   simp only[hx]
   split at h
   ·rename_i l hl
    split at h
    ·rename_i hh hhh
     obtain⟨⟨h1,h2,h3⟩,h⟩:=h
     exact⟨_,Db hhh (by omega) (Db hl h1 ⟨by omega,by omega,rfl⟩),h⟩
    ·exact h.elim
   ·exact h.elim
  ·exact h.elim
 |fn f cs=>
  simp only[op1]at h;simp only[opA,op0]
  split at h
  ·rename_i l hl;exact⟨_,Nq hl rfl,h⟩
  ·exact h.elim
 |app sz b x y=>
  simp only[op1]at h;simp only[opA]
  split at h
  ·rename_i cx hcx
   split at h
   ·rename_i cy hcy
    split at h
    ·rename_i new p hr
     obtain⟨hp',h⟩:=h
     simp only[hcx,hcy]
     unfold Fo at h
     split at h
     ·exact⟨_,Je hr hp' ⟨h.1,rfl⟩,h.2⟩
     ·rename_i id ep off len
      split at h
      ·rename_i hG
       obtain⟨⟨h1,h2,h3,h4⟩,h⟩:=h
       exact⟨_,Je hr hp' (by simp only[JU,hG];exact⟨h1,h2,h3,h4,trivial⟩),h⟩
      ·exact h.elim
     ·rename_i id ep off len c
      split at h
      ·rename_i hG
       obtain⟨⟨h1,h2,h3⟩,h|h⟩:=h
       ·exact⟨_,Je hr hp' (by simp only[JU,hG];exact⟨h1,h2,h3,fun _=>trivial,fun hc=>by omega⟩),h.2⟩
       ·exact⟨_,Je hr hp' (by simp only[JU,hG];exact⟨h1,h2,h3,fun hc=>by omega,fun _=>⟨h.2.1,trivial⟩⟩),h.2.2⟩
      ·exact h.elim
     ·exact h.elim
    ·exact h.elim
   ·exact h.elim
  ·exact h.elim
 |appz sz b z x y=>
  simp only[op1]at h;simp only[opA]
  split at h
  ·rename_i cx hcx
   split at h
   ·rename_i k l hcy
    obtain⟨⟨q1,q2⟩,h⟩:=h
    simp only[hcx,hcy]
    unfold Fo at h
    split at h
    ·exact⟨_,⟨q1,q2,h.1,rfl⟩,h.2⟩
    ·rename_i id ep off len
     split at h
     ·rename_i hG
      obtain⟨⟨h1,h2,h3,h4⟩,h⟩:=h
      exact⟨_,⟨q1,q2,by simp only[JU,hG];exact⟨h1,h2,h3,h4,trivial⟩⟩,h⟩
     ·exact h.elim
    ·rename_i id ep off len c
     split at h
     ·rename_i hG
      obtain⟨⟨h1,h2,h3⟩,h|h⟩:=h
      ·exact⟨_,⟨q1,q2,by simp only[JU,hG];exact⟨h1,h2,h3,fun _=>trivial,fun hc=>by omega⟩⟩,h.2⟩
      ·exact⟨_,⟨q1,q2,by simp only[JU,hG];exact⟨h1,h2,h3,fun hc=>by omega,fun _=>⟨h.2.1,trivial⟩⟩⟩,h.2.2⟩
     ·exact h.elim
    ·exact h.elim
   ·exact h.elim
  ·exact h.elim
 |copy sz x y=>
  simp only[op1]at h;simp only[opA]
  split at h
  ·rename_i id ep off len cap hx
   split at h
   ·rename_i cy hcy
    split at h
    ·rename_i new p hr
     obtain⟨hp',h⟩:=h
     simp only[hx,hcy]
     unfold wr1 at h
     simp only at h
     split at h
     ·rename_i hG
      obtain⟨⟨h1,h2,h3⟩,h⟩:=h
      exact⟨_,Je hr hp' (by simp only[wrK,hG];exact⟨h1,h2,h3,trivial⟩),h⟩
     ·exact h.elim
    ·exact h.elim
   ·exact h.elim
  ·exact h.elim
 |clear sz z x=>
  simp only[op1]at h;simp only[opA]
  split at h
  ·rename_i id ep off len cap hx
   simp only[hx]
   unfold wr1 at h
   simp only at h
   split at h
   ·rename_i hG
    obtain⟨⟨h1,h2,h3⟩,h⟩:=h
    exact⟨_,by simp only[wrK,hG];exact⟨h1,h2,h3,trivial⟩,h⟩
   ·exact h.elim
  ·exact h.elim
 |mk sz b z l c=>
  simp only[op1]at h;simp only[opA]
  split at h
  ·rename_i hl
   split at h
   ·rename_i hc
    simp only[hl,hc]
    exact⟨_,⟨h.1.1,h.1.2.1,h.1.2.2,rfl⟩,h.2⟩
   ·exact h.elim
  ·exact h.elim
 |call f args=>
  simp only[op1]at h;simp only[opA]
  split at h
  ·rename_i as has
   obtain⟨out,h1,h2⟩:=h
   exact⟨out,K7 has h1,h2⟩
  ·exact h.elim
 |callv g args=>
  simp only[op1]at h;simp only[opA]
  split at h
  ·rename_i hg
   simp only[hg]
   split at h
   ·rename_i as has
    obtain⟨out,h1,h2⟩:=h
    exact⟨out,K7 has h1,h2⟩
   ·exact h.elim
  ·exact h.elim
 |ext x i=>
  simp only[op1]at h;simp only[opA,op0]
  split at h
  ·rename_i hx
   simp only[hx]
   split at h
   ·rename_i ha;simp only[ha];exact⟨_,rfl,h⟩
   ·exact h.elim
  ·exact h.elim
 |len x=>
  simp only[op1]at h;simp only[opA,op0]
  split at h
  ·rename_i hx;simp only[hx];exact⟨_,rfl,h⟩
  ·rename_i hx;simp only[hx];exact⟨_,rfl,h⟩
  ·rename_i hx
   simp only[hx]
   split at h
   ·rename_i hG;simp only[hG];exact⟨_,⟨h.1,rfl⟩,h.2⟩
   ·exact h.elim
  ·exact h.elim
 |slen x=>
  simp only[op1]at h;simp only[opA,op0]
  split at h
  ·rename_i hx;simp only[hx];exact⟨_,rfl,h⟩
  ·exact h.elim
 |cap x=>
  simp only[op1]at h;simp only[opA,op0]
  split at h
  ·rename_i hx
   simp only[hx]
   split at h
   ·rename_i hG;simp only[hG];exact⟨_,⟨h.1,rfl⟩,h.2⟩
   ·exact h.elim
  ·exact h.elim
 |bin op x y=>
  simp only[op1]at h;simp only[opA,op0]
  split at h
  ·rename_i a ha
   split at h
   ·rename_i b hb
    simp only[ha,hb]
    obtain⟨v,h1,h2⟩:=Vw h
    exact⟨_,TA (fun u hu=>by subst hu;rfl) h1,h2⟩
   ·exact h.elim
  ·exact h.elim
 |eqnil neg x=>
  simp only[op1]at h;simp only[opA,op0]
  split at h
  ·rename_i hx;simp only[hx];exact⟨_,rfl,h⟩
  ·exact h.elim
 |not x=>
  simp only[op1]at h;simp only[opA,op0]
  split at h
  ·rename_i hx;simp only[hx];exact⟨_,rfl,h⟩
  ·exact h.elim
 |beq neg x y=>
  simp only[op1]at h;simp only[opA,op0]
  split at h
  ·rename_i ha
   split at h
   ·rename_i hb;simp only[ha,hb];exact⟨_,rfl,h⟩
   ·exact h.elim
  ·exact h.elim
 |neg x=>
  simp only[op1]at h;simp only[opA,op0]
  split at h
  ·rename_i hx;simp only[hx];exact⟨_,rfl,h⟩
  ·exact h.elim
 |max x y=>
  simp only[op1]at h;simp only[opA,op0]
  split at h
  ·rename_i ha
   split at h
   ·rename_i hb;simp only[ha,hb];exact⟨_,rfl,h⟩
   ·exact h.elim
  ·exact h.elim
 |min x y=>
  simp only[op1]at h;simp only[opA,op0]
  split at h
  ·rename_i ha
   split at h
   ·rename_i hb;simp only[ha,hb];exact⟨_,rfl,h⟩
   ·exact h.elim
  ·exact h.elim
 |mins x r=>
  simp only[op1]at h;simp only[opA,op0]
  split at h
  ·rename_i hx;simp only[hx];exact Px h
  ·exact h.elim
 |conv k x=>
  simp only[op1]at h;simp only[opA,op0]
  split at h
  ·rename_i hx;simp only[hx];exact⟨_,rfl,h⟩
  ·exact h.elim
 |eqs neg plan x y=>
  simp only[op1]at h;simp only[opA,op0]
  split at h
  ·rename_i hx
   split at h
   ·rename_i hy
    split at h
    ·rename_i b hb;simp only[hx,hy,hb];exact⟨_,rfl,h⟩
    ·exact h.elim
   ·exact h.elim
  ·exact h.elim
end Go.Fw
