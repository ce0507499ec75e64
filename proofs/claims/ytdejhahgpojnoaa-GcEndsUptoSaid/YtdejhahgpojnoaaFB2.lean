/- The same asked in another form. -/
import Derived.Test.YtdejhahgpojnoaaFB
set_option linter.unusedVariables false
set_option linter.unusedSimpArgs false
set_option linter.unusedSectionVars false
namespace Go.Fw
def ExRow(rows:List (List D))(j:Int)(sz:Nat)(K:Out→Prop):Prop:=
 0≤j∧∃r,rows[j.toNat]? =some r∧r.length=sz∧K ⟨some (.one (.c (.fp r))),[]⟩
def ExByte(b:ByteArray)(j:Int)(K:Out→Prop):Prop:=
 0≤j∧∃c,b[j.toNat]? =some c∧K ⟨some (.one (.c (.d (.v (.int .u8 c.toNat))))),[]⟩
def LdRow(rows:List (List D))(row off:Nat)(n:Option Nat)(K:Out→Prop):Prop:=
 ∃r,rows[row]? =some r∧ldC n ((r.drop off).map .d) K
def StRow(rows:List (List D))(row off n:Nat)(ds:List D)(K:List (List D)→Prop):Prop:=
 ∃r,rows[row]? =some r∧off+n≤r.length∧K (rows.set row (splice r off ds))
def RowsSz(rows:List (List D))(sz:Nat):Prop:=∀r∈rows,r.length=sz
def CallX(P:Program)(f:FuncId)(as:List A1)(s:St)(K:Out→Prop):Prop:=∃out,CallO P f as s (·=out)∧K out
def PickK(t:Bool)(x y:Option AV)(K:Out→Prop):Prop:=
 (t=true→match x with|some v=>K ⟨some v,[]⟩|none=>False)∧(t=false→match y with|some v=>K ⟨some v,[]⟩|none=>False)
def evL(s:St):List O→Option (List A1)
 |[]=>some []
 |o::r=>match s.ev o with
  |some (.one a)=>match evL s r with
   |some l=>some (a::l)
   |none=>none
  |_=>none
def capL(s:St):List O→Option (List (Nat×Nat))
 |[]=>some []
 |o::r=>match s.evC o with
  |some (.pt id off)=>match capL s r with
   |some l=>some ((id,off)::l)
   |none=>none
  |_=>none
def intV(s:St)(o:Option O)(d:Int):Option Int:=
 match o with
 |none=>some d
 |some o=>match s.evV o with
  |some (.int _ j)=>some j
  |_=>none
def bldL(s:St):List C→List (Nat×Nat×O)→Option (List C)
 |cs,[]=>some cs
 |cs,(off,n,x)::r=>match s.ev x with
  |some (.one a)=>if a.cells.length=n∧off+n≤cs.length then bldL s (splice cs off a.cells) r else none
  |_=>none
def frzL(h:List (Option Blk)):List (Nat×Blk)→List C→Option (List D×List (Nat×Blk)×Prop)
 |wr,[]=>some ([],wr,True)
 |wr,.d x::cs=>match frzL h wr cs with
  |some (ds,wr',p)=>some (nrm x::ds,wr',p)
  |none=>none
 |wr,.own id ep off len _::cs=>match hp (wrs h wr) id with
  |some (.arr e sz rows)=>match frzL h (wr++[(id,.arr (e+1) sz [])]) cs with
   |some (ds,wr',p)=>some (.sl ((rows.drop off).take len)::ds,wr',(ep=e∧off+len≤rows.length∧p))
   |none=>none
  |_=>none
 |_,_=>none
theorem frzL_frzs{h:List (Option Blk)}:∀{cs:List C} {wr:List (Nat×Blk)} {ds wr' p} {K:List D→List (Nat×Blk)→Prop},frzL h wr cs=some (ds,wr',p)→p→K ds wr'→frzs h wr cs K
 |[],wr,ds,wr',p,K,hf,hp',hk=>by cases hf;exact hk
 | .d x::cs,wr,ds,wr',p,K,hf,hp',hk=>by
   simp only[frzL]at hf
   split at hf
   ·rename_i ds2 wr2 p2 h2
    cases hf
    exact frzL_frzs (K:=fun ds wr'=>K (nrm x::ds) wr') h2 hp' hk
   ·cases hf
 | .own id ep off len cap::cs,wr,ds,wr',p,K,hf,hp',hk=>by
   simp only[frzL]at hf
   split at hf
   ·rename_i e sz rows hG
    split at hf
    ·rename_i ds2 wr2 p2 h2
     cases hf
     simp only[frzs,hG]
     exact⟨hp'.1,hp'.2.1,frzL_frzs (K:=fun ds wr'=>K (.sl ((rows.drop off).take len)::ds) wr') h2 hp'.2.2 hk⟩
    ·cases hf
   ·cases hf
 | .pt _ _::_,_,_,_,_,_,hf,_,_=>by cases hf
 | .pe _ _ _ _::_,_,_,_,_,_,hf,_,_=>by cases hf
 | .fp _::_,_,_,_,_,_,hf,_,_=>by cases hf
 | .fn _ _::_,_,_,_,_,_,hf,_,_=>by cases hf
def frzRL(h:List (Option Blk))(sz:Nat):List (Nat×Blk)→List A1→Option (List (List D)×List (Nat×Blk)×Prop)
 |wr,[]=>some ([],wr,True)
 |wr,a::r=>match frzL h wr a.cells with
  |some (ds,wr',p)=>match frzRL h sz wr' r with
   |some (rows,wr'',q)=>some (ds::rows,wr'',(a.cells.length=sz∧p∧q))
   |none=>none
  |none=>none
theorem frzRL_rows{h:List (Option Blk)}{sz:Nat}:∀{as:List A1} {wr:List (Nat×Blk)} {rows wr' p} {K:List (List D)→List (Nat×Blk)→Prop},frzRL h sz wr as=some (rows,wr',p)→p→K rows wr'→frzRows h sz wr as K
 |[],wr,rows,wr',p,K,hf,hp',hk=>by cases hf;exact hk
 |a::r,wr,rows,wr',p,K,hf,hp',hk=>by
  simp only[frzRL]at hf
  split at hf
  ·rename_i ds2 wr2 p2 h2
   split at hf
   ·rename_i rows3 wr3 q3 h3
    cases hf
    exact⟨hp'.1,frzL_frzs h2 hp'.2.1 (frzRL_rows (K:=fun rows wr''=>K (ds2::rows) wr'') h3 hp'.2.2 hk)⟩
   ·cases hf
  ·cases hf
def rowsL(G:Heap)(sz:Nat)(c:C):Option (List (List D)×Prop):=
 match c with
 | .d (.sl rows)=>some (rows,RowsSz rows sz)
 | .d (.v (.slice none 0 0))=>some ([],True)
 | .own id ep off len _=>match G id with
   |some (.arr e sz' rows)=>some ((rows.drop off).take len,(ep=e∧sz'=sz∧off+len≤rows.length))
   |_=>none
 |_=>none
theorem rowsL_C{G:Heap}{sz:Nat}{c:C}{rows p}{K:List (List D)→Prop}(h:rowsL G sz c=some (rows,p))(hp':p)(hk:K rows):rowsC G sz c K:=by
 unfold rowsL at h
 unfold rowsC
 split at h
 ·cases h;exact⟨hp',hk⟩
 ·cases h;exact hk
 ·split at h
  ·rename_i hG
   cases h
   first|exact⟨hp'.1,hp'.2.1,hp'.2.2,hk⟩|(simp only[hG];exact⟨hp'.1,hp'.2.1,hp'.2.2,hk⟩)
  ·cases h
 ·cases h
def AppC(s:St)(id ep off len c sz:Nat)(rows new:List (List D))(K:Out→Prop):Prop:=
 (len+new.length≤c∧K ⟨some (.one (.c (.own id ep off (len+new.length) (some c)))),[(id,.arr ep sz (splice rows (off+len) new))]⟩)∨
 (c<len+new.length∧len+new.length≤4294967296∧K ⟨some (.one (.c (.own s.heap.length 0 0 (len+new.length) none))),[(s.heap.length,.arr 0 sz ((rows.drop off).take len++new))]⟩)
def app1(s:St)(sz:Nat)(cx:C)(new:List (List D))(K:Out→Prop):Prop:=
 match cx with
 | .d (.v (.slice none 0 0))=>new.length≤4294967296∧
     K ⟨some (.one (.c (.own s.heap.length 0 0 new.length none))),[(s.heap.length,.arr 0 sz new)]⟩
 | .own id ep off len none=>match hp s.heap id with
   |some (.arr e sz' rows)=>(ep=e∧sz'=sz∧off+len≤rows.length∧len+new.length≤4294967296)∧
     K ⟨some (.one (.c (.own id (ep+1) 0 (len+new.length) none))),[(id,.arr (ep+1) sz ((rows.drop off).take len++new))]⟩
   |_=>False
 | .own id ep off len (some c)=>match hp s.heap id with
   |some (.arr e sz' rows)=>(ep=e∧sz'=sz∧off+len≤rows.length)∧AppC s id ep off len c sz rows new K
   |_=>False
 |_=>False
def wr1(s:St)(sz:Nat)(cx:C)(len':Nat)(new:List (List D))(val:Option AV)(K:Out→Prop):Prop:=
 match cx with
 | .own id ep off _ _=>match hp s.heap id with
   |some (.arr e sz' rows)=>(ep=e∧sz'=sz∧off≤rows.length)∧K ⟨val,[(id,.arr ep sz (splice rows off (new.take len')))]⟩
   |_=>False
 |_=>False
def kSt(wr:List (Nat×Blk))(id e sz:Nat)(K:Out→Prop)(rows:List (List D)):Prop:=K ⟨none,wr++[(id,.arr e sz rows)]⟩
def op1(P:Program)(op:AOp)(s:St)(K:Out→Prop):Prop:=
 match op with
 | .mv x=>match s.ev x with
   |some v=>K ⟨some v,[]⟩
   |none=>False
 | .pick c x y=>match s.evV c with
   |some (.bool t)=>PickK t (s.ev x) (s.ev y) K
   |_=>False
 | .box x=>match s.ev x with
   |some (.one a)=>K ⟨some (.one (.c (.pt s.heap.length 0))),[(s.heap.length,.box a.cells)]⟩
   |_=>False
 | .zbox cs=>K ⟨some (.one (.c (.pt s.heap.length 0))),[(s.heap.length,.box cs)]⟩
 | .build zero parts=>match bldL s zero parts with
   |some cs=>K ⟨some (.one (.agg cs)),[]⟩
   |none=>False
 | .bslice sz parts=>match evL s parts with
   |some as=>match frzRL s.heap sz [] as with
    |some (rows,wr,p)=>p∧K ⟨some (.one (.c (.own s.heap.length 0 0 rows.length none))),wr++[(s.heap.length,.arr 0 sz rows)]⟩
    |none=>False
   |none=>False
 | .load n x=>match s.evC x with
   |some (.pt id off)=>match hp s.heap id with
    |some (.box cells)=>ldC n (cells.drop off) K
    |_=>False
   |some (.pe id ep row off)=>match hp s.heap id with
    |some (.arr e _ rows)=>ep=e∧LdRow rows row off n K
    |_=>False
   |some (.fp cells)=>ldC n (cells.map .d) K
   |_=>False
 | .store n a x=>match s.ev x with
   |some (.one v)=>(v.cells.length=n∧0<n)∧match s.evC a with
    |some (.pt id off)=>match hp s.heap id with
     |some (.box cells)=>off+n≤cells.length∧K ⟨none,[(id,.box (splice cells off v.cells))]⟩
     |_=>False
    |some (.pe id ep row off)=>match frzL s.heap [] v.cells with
     |some (ds,wr,p)=>p∧match hp (wrs s.heap wr) id with
      |some (.arr e sz rows)=>ep=e∧StRow rows row off n ds (kSt wr id e sz K)
      |_=>False
     |none=>False
    |_=>False
   |_=>False
 | .fieldA off x=>match s.evC x with
   |some (.pt id o)=>ret K (.pt id (o+off))
   |some (.pe id ep row o)=>match hp s.heap id with
    |some (.arr e _ _)=>ep=e∧ret K (.pe id ep row (o+off))
    |_=>False
   |some (.fp cells)=>ret K (.fp (cells.drop off))
   |_=>False
 | .field off n x=>match s.ev x with
   |some (.one (.agg cs))=>ldC n (cs.drop off) K
   |_=>False
 | .indexA sz x i=>match s.evV i with
   |some (.int _ j)=>match s.evC x with
    |some (.d (.sl rows))=>ExRow rows j sz K
    |some (.own id ep off len _)=>(0≤j∧j<len)∧match hp s.heap id with
     |some (.arr e sz' rows)=>(ep=e∧sz'=sz∧off+j.toNat<rows.length)∧ret K (.pe id ep (off+j.toNat) 0)
     |_=>False
    |_=>False
   |_=>False
 | .sidx x i=>match s.evV x with
   |some (.string b)=>match s.evV i with
    |some (.int _ j)=>ExByte b j K
    |_=>False
   |_=>False
 | .slice sz x lo hi mx=>match s.evC x with
   |some (.d (.sl rows))=>match mx with
    |none=>match intV s lo 0 with
     |some l=>match intV s hi rows.length with
      |some h=>(0≤l∧l≤h∧h≤rows.length∧RowsSz rows sz)∧ret K (.d (.sl ((rows.take h.toNat).drop l.toNat)))
      |none=>False
     |none=>False
    |some mx=>match intV s (some mx) 0 with
     |some m=>match intV s lo 0 with
      |some l=>match intV s hi rows.length with
       |some h=>(0≤l∧l=h∧h=m∧m≤rows.length)∧K ⟨some (.one (.c (.own s.heap.length 0 0 0 none))),[(s.heap.length,.arr 0 sz [])]⟩
       |none=>False
      |none=>False
     |none=>False
   |some (.d (.v (.slice none 0 0)))=>match mx with
    |none=>match intV s lo 0 with
     |some l=>match intV s hi 0 with
      |some h=>(l=0∧h=0)∧retV K (.slice none 0 0)
      |none=>False
     |none=>False
    |some _=>False
   |some (.own id ep off len cap)=>match hp s.heap id with
    |some (.arr e sz' _)=>(ep=e∧sz'=sz)∧match cap with
     |none=>match mx with
      |none=>match intV s lo 0 with
       |some l=>match intV s hi len with
        |some h=>(0≤l∧l≤h∧h≤len)∧ret K (.own id ep (off+l.toNat) (h.toNat-l.toNat) none)
        |none=>False
       |none=>False
      |some mx=>match intV s (some mx) 0 with
       |some m=>match intV s lo 0 with
        |some l=>match intV s hi len with
         |some h=>(0≤l∧l≤h∧h≤m∧m≤len)∧ret K (.own id ep (off+l.toNat) (h.toNat-l.toNat) (some (m.toNat-l.toNat)))
         |none=>False
        |none=>False
       |none=>False
     |some c=>match intV s mx c with
      |some m=>match intV s lo 0 with
       |some l=>match intV s hi len with
        |some h=>(0≤l∧l≤h∧h≤m∧m≤c)∧ret K (.own id ep (off+l.toNat) (h.toNat-l.toNat) (some (m.toNat-l.toNat)))
        |none=>False
       |none=>False
      |none=>False
    |_=>False
   |_=>False
 | .sslice x lo hi=>match s.evV x with
   |some (.string b)=>match intV s lo 0 with
    |some l=>match intV s hi b.size with
     |some h=>(0≤l∧l≤h∧h≤b.size)∧retV K (.string (b.extract l.toNat h.toNat))
     |none=>False
    |none=>False
   |_=>False
 | .fn f cs=>match capL s cs with
   |some l=>ret K (.fn f l)
   |none=>False
 | .app sz _ x y=>match s.evC x with
   |some cx=>match s.evC y with
    |some cy=>match rowsL (hp s.heap) sz cy with
     |some (new,p)=>p∧app1 s sz cx new K
     |none=>False
    |none=>False
   |none=>False
 | .appz sz _ zero x y=>match s.evC x with
   |some cx=>match s.evV y with
    |some (.int _ l)=>(0≤l∧l≤4294967296)∧app1 s sz cx (List.replicate l.toNat zero) K
    |_=>False
   |none=>False
 | .copy sz x y=>match s.evC x with
   |some (.own id ep off len cap)=>match s.evC y with
    |some cy=>match rowsL (hp s.heap) sz (clipC len cy)with
     |some (new,p)=>p∧wr1 s sz (.own id ep off len cap) (min new.length len) (new.take (min new.length len)) (some (.one (.c (.d (.v (.int .i64 (min new.length len:Nat))))))) K
     |none=>False
    |none=>False
   |_=>False
 | .clear sz zero x=>match s.evC x with
   |some (.own id ep off len cap)=>wr1 s sz (.own id ep off len cap) len (List.replicate len zero) none K
   |_=>False
 | .mk sz _ zero l c=>match s.evV l with
   |some (.int _ l)=>match s.evV c with
    |some (.int _ c)=>(0≤l∧l≤c∧c≤4294967296)∧K ⟨some (.one (.c (.own s.heap.length 0 0 l.toNat none))),[(s.heap.length,.arr 0 sz (List.replicate l.toNat zero))]⟩
    |_=>False
   |_=>False
 | .call f args=>match evL s args with
   |some as=>CallX P f as s K
   |none=>False
 | .callv g args=>match s.evC g with
   |some (.fn f cs)=>match evL s args with
    |some as=>CallX P f (as++cs.map fun c=> .c (.pt c.1 c.2)) s K
    |none=>False
   |_=>False
 | .ext x i=>match s.ev x with
   |some (.tup l)=>match l[i]? with
    |some a=>K ⟨some (.one a),[]⟩
    |none=>False
   |_=>False
 | .len x=>match s.evC x with
   |some (.d (.sl rows))=>retV K (.int .i64 rows.length)
   |some (.d (.v (.slice _ m _)))=>retV K (.int .i64 m)
   |some (.own id ep _ len _)=>match hp s.heap id with
    |some (.arr e _ _)=>ep=e∧retV K (.int .i64 len)
    |_=>False
   |_=>False
 | .slen x=>match s.evV x with
   |some (.string b)=>retV K (.int .i64 b.size)
   |_=>False
 | .cap x=>match s.evC x with
   |some (.own id ep _ _ (some c))=>match hp s.heap id with
    |some (.arr e _ _)=>ep=e∧retV K (.int .i64 c)
    |_=>False
   |_=>False
 | .bin op x y=>match s.evV x with
   |some a=>match s.evV y with
    |some b=>binK op a b (retV K)
    |none=>False
   |none=>False
 | .eqnil neg x=>match s.evC x with
   |some (.d (.v (.slice none 0 0)))=>retV K (.bool (!neg))
   |_=>False
 | .istr x=>match s.evV x with
   |some (.int _ n)=>retV K (.string (Utf8.encode n))
   |_=>False
 | .mkmap=>K ⟨some (.one (.c (.mref s.heap.length))),[(s.heap.length,.map [])]⟩
 | .mget kd ok zero m k=>match s.evC m with
   |some (.mref id)=>match hp s.heap id with
    |some (.map ents)=>match s.evV k with
     |some kv=>(keyK kd kv=true∧allK kd ents=true)∧K ⟨some (mres ok zero (mfind kv ents)),[]⟩
     |none=>False
    |_=>False
   |_=>False
 | .mdel kd m k=>match s.evC m with
   |some (.mref id)=>match hp s.heap id with
    |some (.map ents)=>match s.evV k with
     |some kv=>(keyK kd kv=true∧allK kd ents=true)∧K ⟨some (.tup []),[(id,.map (mdelE kv ents))]⟩
     |none=>False
    |_=>False
   |_=>False
 | .opq k x=>False
 | .mlen m=>match s.evC m with
   |some (.mref id)=>match hp s.heap id with
    |some (.map ents)=>retV K (.int .i64 (ents.length:Nat))
    |_=>False
   |_=>False
 | .mset kd m k v=>match s.evC m with
   |some (.mref id)=>match hp s.heap id with
    |some (.map ents)=>match s.evV k with
     |some kv=>match s.ev v with
      |some (.one a)=>(keyK kd kv=true∧allK kd ents=true∧a.isDt=true)∧K ⟨none,[(id,.map (mput kv a ents))]⟩
      |_=>False
     |none=>False
    |_=>False
   |_=>False
 | .not x=>match s.evV x with
   |some (.bool t)=>retV K (.bool (nb t))
   |_=>False
 | .beq neg x y=>match s.evV x with
   |some (.bool a)=>match s.evV y with
    |some (.bool b)=>retV K (.bool ((a==b)!=neg))
    |_=>False
   |_=>False
 | .neg x=>match s.evV x with
   |some (.int k n)=>retV K (.int k (k.wrap (0-n)))
   |_=>False
 | .max x y=>match s.evV x with
   |some (.int k a)=>match s.evV y with
    |some (.int _ b)=>retV K (.int k (if a<b then b else a))
    |_=>False
   |_=>False
 | .min x y=>match s.evV x with
   |some (.int k a)=>match s.evV y with
    |some (.int _ b)=>retV K (.int k (if b<a then b else a))
    |_=>False
   |_=>False
 | .mins x r=>match s.evV x with
   |some (.int k a)=>minL s r k a K
   |_=>False
 | .conv k x=>match s.evV x with
   |some (.int _ n)=>retV K (.int k (k.wrap n))
   |_=>False
 | .eqs neg plan x y=>match s.ev x with
   |some (.one (.agg xs))=>match s.ev y with
    |some (.one (.agg ys))=>match eqCells plan xs ys with
     |some b=>retV K (.bool (eqB neg b))
     |none=>False
    |_=>False
   |_=>False
def NilK(neg e:Bool)(K:Out→Prop):Prop:=∀b,(e=false→b=false)→retV K (.bool (b !=neg))
def opS(P:Program)(op:AOp)(s:St)(K:Out→Prop):Prop:=
 match op with
 | .eqnil neg x=>match s.evC x with
   |some (.d (.v (.slice none 0 0)))=>retV K (.bool (!neg))
   |some (.d (.sl rows))=>NilK neg rows.isEmpty K
   |some (.own id ep _ len _)=>match hp s.heap id with
    |some (.arr e _ _)=>ep=e∧NilK neg (len==0) K
    |_=>False
   |_=>False
 |op=>op1 P op s K
theorem evL_evs{s:St}:∀{os:List O} {as:List A1} {K:List A1→Prop},evL s os=some as→K as→evs s os K
 |[],as,K,h,hk=>by cases h;exact hk
 |o::r,as,K,h,hk=>by
  simp only[evL]at h
  split at h
  ·rename_i a ha
   split at h
   ·rename_i l hl
    cases h
    simp only[evs,ha]
    exact evL_evs (K:=fun l=>K (a::l)) hl hk
   ·cases h
  ·cases h
theorem capL_caps{s:St}:∀{os:List O} {as:List (Nat×Nat)} {K:List (Nat×Nat)→Prop},capL s os=some as→K as→caps s os K
 |[],as,K,h,hk=>by cases h;exact hk
 |o::r,as,K,h,hk=>by
  simp only[capL]at h
  split at h
  ·rename_i id off ha
   split at h
   ·rename_i l hl
    cases h
    simp only[caps,ha]
    exact capL_caps (K:=fun l=>K ((id,off)::l)) hl hk
   ·cases h
  ·cases h
theorem bldL_bld{s:St}:∀{ps:List (Nat×Nat×O)} {cs cs':List C} {K:List C→Prop},bldL s cs ps=some cs'→K cs'→bld s cs ps K
 |[],cs,cs',K,h,hk=>by cases h;exact hk
 |(off,n,x)::r,cs,cs',K,h,hk=>by
  simp only[bldL]at h
  split at h
  ·rename_i a ha
   split at h
   ·rename_i hc
    simp only[bld,ha]
    exact⟨hc.1,hc.2,bldL_bld h hk⟩
   ·cases h
  ·cases h
theorem idxO_of{s:St}{o:Option O}{d:Nat}{j:Int}{K:Nat→Prop}(h:intV s o d=some j)(h0:0≤j)(hk:K j.toNat):idxO s o d K:=by
 cases o with
 |none=>cases h;simpa[idxO]using hk
 |some o=>
  simp only[intV]at h
  split at h
  ·rename_i k j' hj
   cases h
   simp only[idxO,hj,idx]
   exact⟨h0,hk⟩
  ·cases h
theorem ldC_det{n:Option Nat}{cs:List C}{K:Out→Prop}(h:ldC n cs K):∃out,ldC n cs (·=out)∧K out:=by
 cases n with
 |none=>cases cs with
  |nil=>exact h.elim
  |cons c cs=>exact⟨_,rfl,h⟩
 |some n=>exact⟨_,⟨h.1,rfl⟩,h.2⟩
theorem binK_det{op:BinOp}{a b:Value}{K:Value→Prop}(h:binK op a b K):∃v,binK op a b (·=v)∧K v:=by
 unfold binK at h⊢
 split at h
 ·obtain⟨rfl,h⟩:=h
  cases op<;>first
   |exact h.elim
   |exact⟨_,⟨rfl,rfl⟩,h⟩
   |exact⟨_,⟨rfl,h.1,rfl⟩,h.2⟩
 ·cases op<;>first
   |exact h.elim
   |exact⟨_,rfl,h⟩
   |exact⟨_,⟨h.1,rfl⟩,h.2⟩
 ·exact h.elim
theorem binK_mono{op:BinOp}{a b:Value}{K K':Value→Prop}(hm:∀v,K v→K' v)(h:binK op a b K):binK op a b K':=by
 unfold binK at h⊢
 split at h
 ·obtain⟨rfl,h⟩:=h
  refine⟨rfl,?_⟩
  cases op<;>first
   |exact h.elim
   |exact hm _ h
   |exact⟨h.1,hm _ h.2⟩
 ·cases op<;>first
   |exact h.elim
   |exact hm _ h
   |exact⟨h.1,hm _ h.2⟩
 ·exact h.elim
theorem minL_det{s:St}:∀{r:List O} {k:IntKind} {a:Int} {K:Out→Prop},minL s r k a K→∃out,minL s r k a (·=out)∧K out
 |[],k,a,K,h=>⟨_,rfl,h⟩
 |y::r,k,a,K,h=>by
  simp only[minL]at h⊢
  split at h
  ·exact minL_det h
  ·exact h.elim
theorem op1_det{P:Program}{op:AOp}{s:St}{K:Out→Prop}(h:op1 P op s K):∃out,opA P op s (·=out)∧K out:=by
 cases op with
 |mv x=>
  simp only[op1]at h;simp only[opA,op0]
  split at h
  ·rename_i v hv;simp only[hv];exact⟨_,rfl,h⟩
  ·exact h.elim
 |pick c x y=>
  simp only[op1]at h;simp only[opA,op0]
  split at h
  ·rename_i t ht
   simp only[ht]
   simp only[PickK]at h
   cases t with
   |true=>
    have h:=h.1 rfl
    split at h
    ·rename_i v hv;simp only[hv];exact⟨_,⟨fun _=>rfl,fun h=>(by cases h)⟩,h⟩
    ·exact h.elim
   |false=>
    have h:=h.2 rfl
    split at h
    ·rename_i v hv;simp only[hv];exact⟨_,⟨fun h=>(by cases h),fun _=>rfl⟩,h⟩
    ·exact h.elim
  ·exact h.elim
 |box x=>
  simp only[op1]at h;simp only[opA,op0]
  split at h
  ·rename_i a ha;simp only[ha];exact⟨_,rfl,h⟩
  ·exact h.elim
 |zbox cs=>exact⟨_,rfl,h⟩
 |istr x=>
  simp only[op1]at h;simp only[opA,op0]
  split at h
  ·rename_i hx;simp only[hx];exact⟨_,rfl,h⟩
  ·exact h.elim
 |mkmap=>exact⟨_,rfl,h⟩
 |mget kd ok z m k=>
  simp only[op1]at h;simp only[opA,op0]
  split at h
  ·rename_i id hx
   simp only[hx]
   split at h
   ·rename_i ents hG
    simp only[hG]
    split at h
    ·rename_i kv hkv
     simp only[hkv]
     exact⟨_,⟨h.1.1,h.1.2,rfl⟩,h.2⟩
    ·exact h.elim
   ·exact h.elim
  ·exact h.elim
 |mdel kd m k=>
  simp only[op1]at h;simp only[opA,op0]
  split at h
  ·rename_i id hx
   simp only[hx]
   split at h
   ·rename_i ents hG
    simp only[hG]
    split at h
    ·rename_i kv hkv
     simp only[hkv]
     exact⟨_,⟨h.1.1,h.1.2,rfl⟩,h.2⟩
    ·exact h.elim
   ·exact h.elim
  ·exact h.elim
 |opq k x=>simp only[op1]at h
 |mlen m=>
  simp only[op1]at h;simp only[opA,op0]
  split at h
  ·rename_i id hx
   simp only[hx]
   split at h
   ·rename_i ents hG
    simp only[hG]
    exact⟨_,rfl,h⟩
   ·exact h.elim
  ·exact h.elim
 |mset kd m k v=>
  simp only[op1]at h;simp only[opA,op0]
  split at h
  ·rename_i id hx
   simp only[hx]
   split at h
   ·rename_i ents hG
    simp only[hG]
    split at h
    ·rename_i kv hkv
     simp only[hkv]
     split at h
     ·rename_i a ha
      simp only[ha]
      exact⟨_,⟨h.1.1,h.1.2.1,h.1.2.2,rfl⟩,h.2⟩
     ·exact h.elim
    ·exact h.elim
   ·exact h.elim
  ·exact h.elim
 |build z ps=>
  simp only[op1]at h;simp only[opA,op0]
  split at h
  ·rename_i cs hcs;exact⟨_,bldL_bld hcs rfl,h⟩
  ·exact h.elim
 |bslice sz ps=>
  simp only[op1]at h;simp only[opA,op0]
  split at h
  ·rename_i as has
   split at h
   ·rename_i rows wr p hr
    exact⟨_,evL_evs has (frzRL_rows hr h.1 rfl),h.2⟩
   ·exact h.elim
  ·exact h.elim
 |load n x=>
  simp only[op1]at h;simp only[opA,op0]
  split at h
  ·rename_i id off hx
   simp only[hx]
   split at h
   ·rename_i cells hG;simp only[hG];exact ldC_det h
   ·exact h.elim
  ·rename_i id ep row off hx
   simp only[hx]
   split at h
   ·rename_i e sz rows hG
    simp only[hG]
    obtain⟨rfl,r,hr,h⟩:=h
    obtain⟨out,h1,h2⟩:=ldC_det h
    exact⟨out,⟨rfl,r,hr,h1⟩,h2⟩
   ·exact h.elim
  ·rename_i cells hx;simp only[hx];exact ldC_det h
  ·exact h.elim
 |store n a x=>
  simp only[op1]at h;simp only[opA,op0]
  split at h
  ·rename_i v hv
   simp only[hv]
   obtain⟨⟨h1,h2⟩,h⟩:=h
   split at h
   ·rename_i id off hx
    simp only[hx]
    split at h
    ·rename_i cells hG;simp only[hG];exact⟨_,⟨h1,h2,h.1,rfl⟩,h.2⟩
    ·exact h.elim
   ·rename_i id ep row off hx
    simp only[hx]
    split at h
    ·rename_i ds wr p hf
     obtain⟨hp',h⟩:=h
     split at h
     ·rename_i e sz rows hG
      obtain⟨rfl,r,hr,hle,h⟩:=h
      exact⟨_,⟨h1,h2,frzL_frzs hf hp' (by rw[hG];exact⟨rfl,r,hr,hle,rfl⟩)⟩,h⟩
     ·exact h.elim
    ·exact h.elim
   ·exact h.elim
  ·exact h.elim
 |fieldA off x=>
  simp only[op1]at h;simp only[opA,op0]
  split at h
  ·rename_i hx;simp only[hx];exact⟨_,rfl,h⟩
  ·rename_i hx
   simp only[hx]
   split at h
   ·rename_i hG;simp only[hG];exact⟨_,⟨h.1,rfl⟩,h.2⟩
   ·exact h.elim
  ·rename_i hx;simp only[hx];exact⟨_,rfl,h⟩
  ·exact h.elim
 |field off n x=>
  simp only[op1]at h;simp only[opA,op0]
  split at h
  ·rename_i hx;simp only[hx];exact ldC_det h
  ·exact h.elim
 |indexA sz x i=>
  simp only[op1]at h;simp only[opA,op0]
  split at h
  ·rename_i k j hj
   simp only[hj,idx]
   split at h
   ·rename_i rows hx
    simp only[hx]
    obtain⟨h0,r,hr,hl,h⟩:=h
    exact⟨_,⟨h0,r,hr,hl,rfl⟩,h⟩
   ·rename_i hx
    simp only[hx]
    obtain⟨⟨h0,hlt⟩,h⟩:=h
    split at h
    ·rename_i hG;simp only[hG];exact⟨_,⟨h0,by omega,h.1.1,h.1.2.1,h.1.2.2,rfl⟩,h.2⟩
    ·exact h.elim
   ·exact h.elim
  ·exact h.elim
 |sidx x i=>
  simp only[op1]at h;simp only[opA,op0]
  split at h
  ·rename_i hx
   split at h
   ·rename_i hi
    simp only[hx,hi,idx]
    obtain⟨h0,c,hc,h⟩:=h
    exact⟨_,⟨h0,c,hc,rfl⟩,h⟩
   ·exact h.elim
  ·exact h.elim
 |slice sz x lo hi mx=>
  simp only[op1]at h;simp only[opA,op0]
  split at h
  ·rename_i rows hx
   simp only[hx]
   split at h
   ·split at h
    ·rename_i l hl
     split at h
     ·rename_i hh hhh
      obtain⟨⟨h1,h2,h3,h4⟩,h⟩:=h
      exact⟨_,idxO_of hhh (by omega) (idxO_of hl h1 ⟨by omega,by omega,h4,rfl⟩),h⟩
     ·exact h.elim
    ·exact h.elim
   ·split at h
    ·rename_i m hm
     split at h
     ·rename_i l hl
      split at h
      ·rename_i hh hhh
       obtain⟨⟨h1,rfl,rfl,h4⟩,h⟩:=h
       exact⟨_,idxO_of hm h1 (idxO_of hhh h1 (idxO_of hl h1 ⟨rfl,rfl,by omega,rfl⟩)),h⟩
      ·exact h.elim
     ·exact h.elim
    ·exact h.elim
  ·rename_i hx
   simp only[hx]
   split at h
   ·split at h
    ·rename_i l hl
     split at h
     ·rename_i hh hhh
      obtain⟨⟨rfl,rfl⟩,h⟩:=h
      exact⟨_,⟨rfl,idxO_of hhh (by omega) (idxO_of hl (by omega) ⟨rfl,rfl,rfl⟩)⟩,h⟩
     ·exact h.elim
    ·exact h.elim
   ·exact h.elim
  ·rename_i id ep off len cap hx
   simp only[hx]
   split at h
   ·rename_i hG
    simp only[hG]
    obtain⟨⟨h1,h2⟩,h⟩:=h
    split at h
    ·split at h
     ·split at h
      ·rename_i l hl
       split at h
       ·rename_i hh hhh
        obtain⟨⟨q1,q2,q3⟩,h⟩:=h
        exact⟨_,⟨h1,h2,idxO_of hhh (by omega) (idxO_of hl q1 ⟨by omega,by omega,rfl⟩)⟩,h⟩
       ·exact h.elim
      ·exact h.elim
     ·split at h
      ·rename_i m hm
       split at h
       ·rename_i l hl
        split at h
        ·rename_i hh hhh
         obtain⟨⟨q1,q2,q3,q4⟩,h⟩:=h
         exact⟨_,⟨h1,h2,idxO_of hm (by omega) (idxO_of hhh (by omega) (idxO_of hl q1 ⟨by omega,by omega,by omega,rfl⟩))⟩,h⟩
        ·exact h.elim
       ·exact h.elim
      ·exact h.elim
    ·split at h
     ·rename_i m hm
      split at h
      ·rename_i l hl
       split at h
       ·rename_i hh hhh
        obtain⟨⟨q1,q2,q3,q4⟩,h⟩:=h
        exact⟨_,⟨h1,h2,idxO_of hm (by omega) (idxO_of hhh (by omega) (idxO_of hl q1 ⟨by omega,by omega,by omega,rfl⟩))⟩,h⟩
       ·exact h.elim
      ·exact h.elim
     ·exact h.elim
   ·exact h.elim
  ·exact h.elim
 |sslice x lo hi=>
  simp only[op1]at h;simp only[opA,op0]
  split at h
  ·rename_i hx
   simp only[hx]
   split at h
   ·rename_i l hl
    split at h
    ·rename_i hh hhh
     obtain⟨⟨h1,h2,h3⟩,h⟩:=h
     exact⟨_,idxO_of hhh (by omega) (idxO_of hl h1 ⟨by omega,by omega,rfl⟩),h⟩
    ·exact h.elim
   ·exact h.elim
  ·exact h.elim
 |fn f cs=>
  simp only[op1]at h;simp only[opA,op0]
  split at h
  ·rename_i l hl;exact⟨_,capL_caps hl rfl,h⟩
  ·exact h.elim
 |app sz b x y=>
  simp only[op1]at h;simp only[opA]
  split at h
  ·rename_i cx hcx
   split at h
   ·rename_i cy hcy
    split at h
    ·rename_i new p hr
     obtain⟨hp',h⟩:=h
     simp only[hcx,hcy]
     unfold app1 at h
     split at h
     ·exact⟨_,rowsL_C hr hp' ⟨h.1,rfl⟩,h.2⟩
     ·rename_i id ep off len
      split at h
      ·rename_i hG
       obtain⟨⟨h1,h2,h3,h4⟩,h⟩:=h
       exact⟨_,rowsL_C hr hp' (by simp only[appK,hG];exact⟨h1,h2,h3,h4,trivial⟩),h⟩
      ·exact h.elim
     ·rename_i id ep off len c
      split at h
      ·rename_i hG
       obtain⟨⟨h1,h2,h3⟩,h|h⟩:=h
       ·exact⟨_,rowsL_C hr hp' (by simp only[appK,hG];exact⟨h1,h2,h3,fun _=>trivial,fun hc=>by omega⟩),h.2⟩
       ·exact⟨_,rowsL_C hr hp' (by simp only[appK,hG];exact⟨h1,h2,h3,fun hc=>by omega,fun _=>⟨h.2.1,trivial⟩⟩),h.2.2⟩
      ·exact h.elim
     ·exact h.elim
    ·exact h.elim
   ·exact h.elim
  ·exact h.elim
 |appz sz b z x y=>
  simp only[op1]at h;simp only[opA]
  split at h
  ·rename_i cx hcx
   split at h
   ·rename_i k l hcy
    obtain⟨⟨q1,q2⟩,h⟩:=h
    simp only[hcx,hcy]
    unfold app1 at h
    split at h
    ·exact⟨_,⟨q1,q2,h.1,rfl⟩,h.2⟩
    ·rename_i id ep off len
     split at h
     ·rename_i hG
      obtain⟨⟨h1,h2,h3,h4⟩,h⟩:=h
      exact⟨_,⟨q1,q2,by simp only[appK,hG];exact⟨h1,h2,h3,h4,trivial⟩⟩,h⟩
     ·exact h.elim
    ·rename_i id ep off len c
     split at h
     ·rename_i hG
      obtain⟨⟨h1,h2,h3⟩,h|h⟩:=h
      ·exact⟨_,⟨q1,q2,by simp only[appK,hG];exact⟨h1,h2,h3,fun _=>trivial,fun hc=>by omega⟩⟩,h.2⟩
      ·exact⟨_,⟨q1,q2,by simp only[appK,hG];exact⟨h1,h2,h3,fun hc=>by omega,fun _=>⟨h.2.1,trivial⟩⟩⟩,h.2.2⟩
     ·exact h.elim
    ·exact h.elim
   ·exact h.elim
  ·exact h.elim
 |copy sz x y=>
  simp only[op1]at h;simp only[opA]
  split at h
  ·rename_i id ep off len cap hx
   split at h
   ·rename_i cy hcy
    split at h
    ·rename_i new p hr
     obtain⟨hp',h⟩:=h
     simp only[hx,hcy]
     unfold wr1 at h
     simp only at h
     split at h
     ·rename_i hG
      obtain⟨⟨h1,h2,h3⟩,h⟩:=h
      exact⟨_,rowsL_C hr hp' (by simp only[wrK,hG];exact⟨h1,h2,h3,trivial⟩),h⟩
     ·exact h.elim
    ·exact h.elim
   ·exact h.elim
  ·exact h.elim
 |clear sz z x=>
  simp only[op1]at h;simp only[opA]
  split at h
  ·rename_i id ep off len cap hx
   simp only[hx]
   unfold wr1 at h
   simp only at h
   split at h
   ·rename_i hG
    obtain⟨⟨h1,h2,h3⟩,h⟩:=h
    exact⟨_,by simp only[wrK,hG];exact⟨h1,h2,h3,trivial⟩,h⟩
   ·exact h.elim
  ·exact h.elim
 |mk sz b z l c=>
  simp only[op1]at h;simp only[opA]
  split at h
  ·rename_i hl
   split at h
   ·rename_i hc
    simp only[hl,hc]
    exact⟨_,⟨h.1.1,h.1.2.1,h.1.2.2,rfl⟩,h.2⟩
   ·exact h.elim
  ·exact h.elim
 |call f args=>
  simp only[op1]at h;simp only[opA]
  split at h
  ·rename_i as has
   obtain⟨out,h1,h2⟩:=h
   exact⟨out,evL_evs has h1,h2⟩
  ·exact h.elim
 |callv g args=>
  simp only[op1]at h;simp only[opA]
  split at h
  ·rename_i hg
   simp only[hg]
   split at h
   ·rename_i as has
    obtain⟨out,h1,h2⟩:=h
    exact⟨out,evL_evs has h1,h2⟩
   ·exact h.elim
  ·exact h.elim
 |ext x i=>
  simp only[op1]at h;simp only[opA,op0]
  split at h
  ·rename_i hx
   simp only[hx]
   split at h
   ·rename_i ha;simp only[ha];exact⟨_,rfl,h⟩
   ·exact h.elim
  ·exact h.elim
 |len x=>
  simp only[op1]at h;simp only[opA,op0]
  split at h
  ·rename_i hx;simp only[hx];exact⟨_,rfl,h⟩
  ·rename_i hx;simp only[hx];exact⟨_,rfl,h⟩
  ·rename_i hx
   simp only[hx]
   split at h
   ·rename_i hG;simp only[hG];exact⟨_,⟨h.1,rfl⟩,h.2⟩
   ·exact h.elim
  ·exact h.elim
 |slen x=>
  simp only[op1]at h;simp only[opA,op0]
  split at h
  ·rename_i hx;simp only[hx];exact⟨_,rfl,h⟩
  ·exact h.elim
 |cap x=>
  simp only[op1]at h;simp only[opA,op0]
  split at h
  ·rename_i hx
   simp only[hx]
   split at h
   ·rename_i hG;simp only[hG];exact⟨_,⟨h.1,rfl⟩,h.2⟩
   ·exact h.elim
  ·exact h.elim
 |bin op x y=>
  simp only[op1]at h;simp only[opA,op0]
  split at h
  ·rename_i a ha
   split at h
   ·rename_i b hb
    simp only[ha,hb]
    obtain⟨v,h1,h2⟩:=binK_det h
    exact⟨_,binK_mono (fun u hu=>by subst hu;rfl) h1,h2⟩
   ·exact h.elim
  ·exact h.elim
 |eqnil neg x=>
  simp only[op1]at h;simp only[opA,op0]
  split at h
  ·rename_i hx;simp only[hx];exact⟨_,rfl,h⟩
  ·exact h.elim
 |not x=>
  simp only[op1]at h;simp only[opA,op0]
  split at h
  ·rename_i hx;simp only[hx];exact⟨_,rfl,h⟩
  ·exact h.elim
 |beq neg x y=>
  simp only[op1]at h;simp only[opA,op0]
  split at h
  ·rename_i ha
   split at h
   ·rename_i hb;simp only[ha,hb];exact⟨_,rfl,h⟩
   ·exact h.elim
  ·exact h.elim
 |neg x=>
  simp only[op1]at h;simp only[opA,op0]
  split at h
  ·rename_i hx;simp only[hx];exact⟨_,rfl,h⟩
  ·exact h.elim
 |max x y=>
  simp only[op1]at h;simp only[opA,op0]
  split at h
  ·rename_i ha
   split at h
   ·rename_i hb;simp only[ha,hb];exact⟨_,rfl,h⟩
   ·exact h.elim
  ·exact h.elim
 |min x y=>
  simp only[op1]at h;simp only[opA,op0]
  split at h
  ·rename_i ha
   split at h
   ·rename_i hb;simp only[ha,hb];exact⟨_,rfl,h⟩
   ·exact h.elim
  ·exact h.elim
 |mins x r=>
  simp only[op1]at h;simp only[opA,op0]
  split at h
  ·rename_i hx;simp only[hx];exact minL_det h
  ·exact h.elim
 |conv k x=>
  simp only[op1]at h;simp only[opA,op0]
  split at h
  ·rename_i hx;simp only[hx];exact⟨_,rfl,h⟩
  ·exact h.elim
 |eqs neg plan x y=>
  simp only[op1]at h;simp only[opA,op0]
  split at h
  ·rename_i hx
   split at h
   ·rename_i hy
    split at h
    ·rename_i b hb;simp only[hx,hy,hb];exact⟨_,rfl,h⟩
    ·exact h.elim
   ·exact h.elim
  ·exact h.elim
end Go.Fw
