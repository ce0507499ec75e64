/- Calls, appends, and the rest of the operations. -/
import Derived.Test.YtdejhahgpojnoaaFA
set_option linter.unusedVariables false
set_option linter.unusedSimpArgs false
set_option linter.unusedSectionVars false
namespace Go.Fw
section
variable {P:Program} {o:Oper} {a:Act} {φ:Phi} {F:Nat→Prop} {s:St} {w:World} {K:Out→Prop} {n:Nat}
theorem op0_sound(h:SRel n φ F s a w){aop:AOp}(hc:cOp0 P o.op=some aop)(hk:op0 aop s K):OpRun P o a φ F s w K:=by
 cases hop:o.op with
 |move x=>
  rw[hop]at hc;simp only[cOp0,Option.map_eq_some_iff]at hc
  obtain⟨y,hy,rfl⟩:=hc
  exact snd_mv h (.inl hop) hy hk
 |assign x=>
  rw[hop]at hc;simp only[cOp0,Option.map_eq_some_iff]at hc
  obtain⟨y,hy,rfl⟩:=hc
  exact snd_mv h (.inr hop) hy hk
 |pick c x y=>
  rw[hop]at hc;simp only[cOp0,Option.map_eq_some_iff,Option.bind_eq_some_iff]at hc
  obtain⟨c',hc',x',hx',y',hy',rfl⟩:=hc
  exact snd_pick h hop hc' hx' hy' hk
 |alloc t=>
  rw[hop]at hc;simp only[cOp0,Option.map_eq_some_iff]at hc
  rw[Option.bind_eq_some_iff]at hc
  obtain⟨z,hz,hc⟩:=hc
  rw[Option.map_eq_some_iff]at hc
  obtain⟨cs,hcs,rfl⟩:=hc
  exact snd_zbox h hop hz hcs hk
 |box t x=>
  rw[hop]at hc;simp only[cOp0,Option.map_eq_some_iff]at hc
  obtain⟨y,hy,rfl⟩:=hc
  exact snd_box h hop hy hk
 |build t parts=>
  rw[hop]at hc;simp only[cOp0]at hc
  split at hc
  ·rename_i it fields hi hu
   split at hc
   ·rename_i z places hz hpl
    rw[Option.bind_eq_some_iff]at hc
    obtain⟨cs,hcs,hc⟩:=hc
    rw[Option.map_eq_some_iff]at hc
    obtain⟨ps,hps,rfl⟩:=hc
    exact snd_build h hop hi hu hz hpl hcs hps hk
   ·cases hc
  ·rename_i it m e hi hu
   split at hc
   ·rename_i z ie hz hie
    rw[Option.bind_eq_some_iff]at hc
    obtain⟨cs,hcs,hc⟩:=hc
    rw[Option.map_eq_some_iff]at hc
    obtain⟨ps,hps,rfl⟩:=hc
    exact snd_buildA h hop hi hu hz hie hcs hps hk
   ·cases hc
  ·cases hc
 |buildSlice t len parts=>
  rw[hop]at hc;simp only[cOp0]at hc
  rw[Option.bind_eq_some_iff]at hc
  obtain⟨e,he,hc⟩:=hc
  rw[Option.bind_eq_some_iff]at hc
  obtain⟨sz,hs,hc⟩:=hc
  rw[Option.bind_eq_some_iff]at hc
  obtain⟨os,hos,hc⟩:=hc
  split at hc
  ·rename_i hcond
   cases hc
   simp only[Bool.and_eq_true,beq_iff_eq,decide_eq_true_eq]at hcond
   exact snd_bslice h hop he hs hos hcond.1.1.1.1 hcond.1.1.1.2 hcond.1.1.2 hcond.2 hk
  ·cases hc
 |load t x=>
  rw[hop]at hc;simp only[cOp0,Option.map_eq_some_iff,Option.bind_eq_some_iff]at hc
  obtain⟨m,hm,y,hy,rfl⟩:=hc
  exact snd_load h hop hm hy hk
 |store t x y=>
  rw[hop]at hc;simp only[cOp0,Option.map_eq_some_iff,Option.bind_eq_some_iff]at hc
  obtain⟨m,hm,x',hx,y',hy,rfl⟩:=hc
  exact snd_store h hop hm hx hy hk
 |nilCheck x=>
  rw[hop]at hc;simp only[cOp0,Option.map_eq_some_iff]at hc
  obtain⟨y,hy,rfl⟩:=hc
  exact snd_nilCheck h hop hy hk
 |fieldAddr t x f=>
  rw[hop]at hc;simp only[cOp0]at hc
  split at hc
  ·rename_i fields hu
   split at hc
   ·rename_i fd hf
    split at hc
    ·rename_i k hs
     rw[Option.map_eq_some_iff]at hc
     obtain⟨y,hy,rfl⟩:=hc
     exact snd_fieldA h hop hu hf hs hy hk
    ·cases hc
   ·cases hc
  ·cases hc
 |field t x f=>
  rw[hop]at hc;simp only[cOp0]at hc
  split at hc
  ·rename_i fields hu
   split at hc
   ·rename_i fd hf
    rw[Option.bind_eq_some_iff]at hc
    obtain⟨m,hm,hc⟩:=hc
    rw[Option.map_eq_some_iff]at hc
    obtain⟨y,hy,rfl⟩:=hc
    exact snd_field h hop hu hf hm hy hk
   ·cases hc
  ·cases hc
 |indexAddr t x i=>
  rw[hop]at hc;simp only[cOp0,Option.map_eq_some_iff,Option.bind_eq_some_iff]at hc
  obtain⟨e,he,sz,hs,x',hx,i',hi,rfl⟩:=hc
  exact snd_indexA h hop he hs hx hi hk
 |index t x i=>
  rw[hop]at hc;simp only[cOp0]at hc
  split at hc
  ·rename_i hu
   rw[Option.bind_eq_some_iff]at hc
   obtain⟨x',hx,hc⟩:=hc
   rw[Option.map_eq_some_iff]at hc
   obtain⟨i',hi,rfl⟩:=hc
   exact snd_sidx h hop hu hx hi hk
  ·cases hc
 |slice t x lo hi mx=>
  rw[hop]at hc;simp only[cOp0]at hc
  split at hc
  ·rename_i hu
   split at hc
   ·simp only[Option.map_eq_some_iff,Option.bind_eq_some_iff]at hc
    obtain⟨x',hx,l',hl,h',hh,rfl⟩:=hc
    exact snd_sslice h hop hu hx hl hh hk
   ·cases hc
  ·rename_i e hu
   split at hc
   ·cases hc
   ·rename_i hmh
    simp only[Option.map_eq_some_iff,Option.bind_eq_some_iff]at hc
    obtain⟨sz,hs,x',hx,l',hl,h',hh,m',hm,rfl⟩:=hc
    refine snd_slice h hop hu hs hx hl hh hm (fun hmx=>?_) hk
    cases mx with
    |none=>simp at hmx
    |some m=>cases hi with
     |none=>exact(hmh m rfl rfl).elim
     |some _=>rfl
  ·cases hc
 |makeFunc fn first captured=>
  rw[hop]at hc
  cases fn with
  |func f=>
   simp only[cOp0]at hc
   split at hc
   ·rename_i hf
    rw[Option.map_eq_some_iff]at hc
    obtain⟨l,hl,rfl⟩:=hc
    exact snd_fn h hop hf hl hk
   ·cases hc
  |_=>simp[cOp0]at hc
 |makeMap t r=>
  rw[hop]at hc
  cases r with
  |none=>
   simp only[cOp0,Option.some.injEq]at hc
   subst hc
   exact snd_mkmap h hop hk
  |some r=>simp[cOp0]at hc
 |lookup t m k ok=>
  rw[hop]at hc;simp only[cOp0]at hc
  split at hc
  ·rename_i kt et hu
   simp only[Option.map_eq_some_iff,Option.bind_eq_some_iff]at hc
   obtain⟨kd,hkd,z,⟨i,hi,hz⟩,zc,hzc,m',hm,k',hk',rfl⟩:=hc
   exact snd_mget h hop hu hkd (by rw[hi];exact hz) hzc hm hk' hk
  ·cases hc
 |mapUpdate t m k v=>
  rw[hop]at hc;simp only[cOp0]at hc
  split at hc
  ·rename_i kt et hu
   simp only[Option.map_eq_some_iff,Option.bind_eq_some_iff]at hc
   obtain⟨kd,hkd,m',hm,k',hk',v',hv',rfl⟩:=hc
   exact snd_mset h hop hu hkd hm hk' hv' hk
  ·cases hc
 |extract x i=>
  rw[hop]at hc;simp only[cOp0,Option.map_eq_some_iff]at hc
  obtain⟨y,hy,rfl⟩:=hc
  exact snd_ext h hop hy hk
 |binOp op t x y t'=>
  rw[hop]at hc;simp only[cOp0,cBin]at hc
  split at hc
  ·simp only[Option.map_eq_some_iff,Option.bind_eq_some_iff]at hc
   obtain⟨x',hx,y',hy,rfl⟩:=hc
   exact snd_bin h hop hx hy hk
  ·simp only[Option.map_eq_some_iff,Option.bind_eq_some_iff]at hc
   obtain⟨x',hx,y',hy,rfl⟩:=hc
   exact snd_bin h hop hx hy hk
  ·rename_i hu
   split at hc
   ·simp only[Option.map_eq_some_iff,Option.bind_eq_some_iff]at hc
    obtain⟨x',hx,y',hy,rfl⟩:=hc
    exact snd_beq (neg:=false) h hop hu hx hy hk
   ·simp only[Option.map_eq_some_iff,Option.bind_eq_some_iff]at hc
    obtain⟨x',hx,y',hy,rfl⟩:=hc
    exact snd_beq (neg:=true) h hop hu hx hy hk
   ·cases hc
  ·rename_i e hu
   split at hc
   ·rename_i hn
    split at hc
    ·rw[Option.map_eq_some_iff]at hc
     obtain⟨x',hx,rfl⟩:=hc
     exact snd_eqnil (neg:=false) h hop hu hn hx hk
    ·rw[Option.map_eq_some_iff]at hc
     obtain⟨x',hx,rfl⟩:=hc
     exact snd_eqnil (neg:=true) h hop hu hn hx hk
    ·cases hc
   ·cases hc
  ·rename_i fs hu
   split at hc
   ·simp only[Option.map_eq_some_iff,Option.bind_eq_some_iff]at hc
    obtain⟨p,hp,x',hx,y',hy,rfl⟩:=hc
    exact snd_eqs (neg:=false) h hop hu hp hx hy hk
   ·simp only[Option.map_eq_some_iff,Option.bind_eq_some_iff]at hc
    obtain⟨p,hp,x',hx,y',hy,rfl⟩:=hc
    exact snd_eqs (neg:=true) h hop hu hp hx hy hk
   ·cases hc
  ·rename_i m e hu
   split at hc
   ·rename_i hie
    split at hc
    ·simp only[Option.map_eq_some_iff,Option.bind_eq_some_iff]at hc
     obtain⟨p,hp,x',hx,y',hy,rfl⟩:=hc
     exact snd_eqsA (neg:=false) h hop hu hie hp hx hy hk
    ·simp only[Option.map_eq_some_iff,Option.bind_eq_some_iff]at hc
     obtain⟨p,hp,x',hx,y',hy,rfl⟩:=hc
     exact snd_eqsA (neg:=true) h hop hu hie hp hx hy hk
    ·cases hc
   ·cases hc
  ·cases hc
 |unOp op t x=>
  rw[hop]at hc
  cases op<;>simp only[cOp0,Option.map_eq_some_iff]at hc<;>first
   |(obtain⟨x',hx,rfl⟩:=hc;exact snd_not h hop hx hk)
   |(obtain⟨x',hx,rfl⟩:=hc;exact snd_neg h hop hx hk)
   |cases hc
 |range t x=>
  rw[hop]at hc;simp only[cOp0]at hc
  split at hc
  ·rw[Option.map_eq_some_iff]at hc
   obtain⟨x',hx,rfl⟩:=hc
   exact hk.elim
  ·cases hc
 |next x b=>
  rw[hop]at hc
  cases b with
  |true=>cases hc
  |false=>
   simp only[cOp0,Option.map_eq_some_iff]at hc
   obtain⟨x',hx,rfl⟩:=hc
   exact hk.elim
 |entry x=>
  rw[hop]at hc
  simp only[cOp0,Option.map_eq_some_iff]at hc
  obtain⟨x',hx,rfl⟩:=hc
  exact hk.elim
 |convert sT dT x=>
  rw[hop]at hc;simp only[cOp0]at hc
  split at hc
  ·rename_i k0 k hs hd
   rw[Option.map_eq_some_iff]at hc
   obtain⟨x',hx,rfl⟩:=hc
   exact snd_conv h hop hs hd hx hk
  ·rename_i k0 hs hd
   rw[Option.map_eq_some_iff]at hc
   obtain⟨x',hx,rfl⟩:=hc
   exact snd_istr h hop hs hd hx hk
  ·cases hc
 |call c=>
  rw[hop]at hc
  obtain⟨callee,args,ts⟩:=c
  cases callee with
  |builtin b=>
   cases b<;>simp only[cOp0]at hc<;>first
    |(cases hc;done)
    |skip
   case len=>
    split at hc
    ·rename_i x t hargs hts
     split at hc
     ·rename_i hu
      rw[Option.map_eq_some_iff]at hc
      obtain⟨x',hx,rfl⟩:=hc
      exact snd_len h hop hargs hts hu hx hk
     ·rename_i hu
      rw[Option.map_eq_some_iff]at hc
      obtain⟨x',hx,rfl⟩:=hc
      exact snd_slen h hop hargs hts hu hx hk
     ·rename_i hu
      rw[Option.map_eq_some_iff]at hc
      obtain⟨x',hx,rfl⟩:=hc
      exact snd_mlen h hop hargs hts hu hx hk
     ·cases hc
    ·cases hc
   case delete=>
    split at hc
    ·rename_i m k t r hargs hts
     split at hc
     ·rename_i kt et hu
      simp only[Option.map_eq_some_iff,Option.bind_eq_some_iff]at hc
      obtain⟨kd,hkd,m',hm,k',hk',rfl⟩:=hc
      exact snd_mdel h hop hargs hts hu hkd hm hk' hk
     ·cases hc
    ·cases hc
   case cap=>
    split at hc
    ·rename_i x t hargs hts
     split at hc
     ·rename_i hu
      rw[Option.map_eq_some_iff]at hc
      obtain⟨x',hx,rfl⟩:=hc
      exact snd_cap h hop hargs hts hu hx hk
     ·cases hc
    ·cases hc
   case max=>
    split at hc
    ·rename_i x y hargs
     simp only[Option.map_eq_some_iff,Option.bind_eq_some_iff]at hc
     obtain⟨x',hx,y',hy,rfl⟩:=hc
     exact snd_max h hop hargs hx hy hk
    ·cases hc
   case min=>
    split at hc
    ·rename_i x y hargs
     simp only[Option.map_eq_some_iff,Option.bind_eq_some_iff]at hc
     obtain⟨x',hx,y',hy,rfl⟩:=hc
     exact snd_min h hop hargs hx hy hk
    ·rename_i x y z r hargs
     simp only[Option.map_eq_some_iff,Option.bind_eq_some_iff]at hc
     obtain⟨x',hx,r',hr,rfl⟩:=hc
     exact snd_mins h hop hargs hx hr hk
    ·cases hc
  |_=>simp[cOp0]at hc
 |_=>rw[hop]at hc;simp[cOp0]at hc
end
end Go.Fw
namespace Go.Fw
def C.ren(ρ:Nat→Nat):C→C
 | .d x=> .d x
 | .own id ep off len cap=> .own (ρ id) ep off len cap
 | .pt id off=> .pt (ρ id) off
 | .pe id ep row off=> .pe (ρ id) ep row off
 | .fp cells=> .fp cells
 | .fn f caps=> .fn f (caps.map fun c=>(ρ c.1,c.2))
 | .mref id=> .mref (ρ id)
def A1.ren(ρ:Nat→Nat):A1→A1
 | .c x=> .c (x.ren ρ)
 | .agg cs=> .agg (cs.map (C.ren ρ))
def AV.ren(ρ:Nat→Nat):AV→AV
 | .one a=> .one (a.ren ρ)
 | .tup l=> .tup (l.map (A1.ren ρ))
def Blk.ren(ρ:Nat→Nat):Blk→Blk
 | .box cells=> .box (cells.map (C.ren ρ))
 | .arr ep sz rows=> .arr ep sz rows
 | .map ents=> .map (ents.map fun e=>(e.1,e.2.ren ρ))
def C.live(H:Heap):C→Prop
 | .own id _ _ _ _=>H id≠none
 | .pt id _=>H id≠none
 | .pe id _ _ _=>H id≠none
 | .fn _ caps=>∀c∈caps,H c.1≠none
 | .mref id=>H id≠none
 |_=>True
def A1.live(H:Heap):A1→Prop
 | .c x=>x.live H
 | .agg cs=>∀c∈cs,c.live H
def Blk.live(H:Heap):Blk→Prop
 | .box cells=>∀c∈cells,c.live H
 | .arr .. =>True
 | .map ents=>∀e∈ents,e.2.live H
structure Emb(ρ:Nat→Nat)(H G:Heap):Prop where
 at_:∀k blk,H k=some blk→G (ρ k)=some (blk.ren ρ)
 inj:∀i j,H i≠none→H j≠none→ρ i=ρ j→i=j
 live:∀k blk,H k=some blk→blk.live H
def down(ρ:Nat→Nat)(H:Heap)(φ:Phi):Phi:=fun k=>(H k).bind fun _=>φ (ρ k)
theorem down_some{ρ H φ k x}(h:down ρ H φ k=some x):H k≠none∧φ (ρ k)=some x:=by
 unfold down at h
 cases hk:H k with
 |none=>rw[hk]at h;cases h
 |some b=>rw[hk]at h;exact⟨by simp,h⟩
theorem down_live{ρ H φ k}(h:H k≠none):down ρ H φ k=φ (ρ k):=by
 unfold down
 cases hk:H k with
 |none=>exact(h hk).elim
 |some b=>rfl
theorem CRep.down{ρ H G φ F w}(he:Emb ρ H G){c:C}{v:Value}(hl:c.live H)(h:CRep φ F G w (c.ren ρ) v):CRep (down ρ H φ) F H w c v:=by
 cases c with
 |d x=>exact h
 |own id ep off len cap=>
  obtain⟨e,sz,rows,hG,hle,A,l,k,rfl,hk⟩:=h
  cases hH:H id with
  |none=>exact(hl hH).elim
  |some blk=>
   have:=he.at_ id blk hH
   rw[hG]at this
   cases blk with
   |box cells=>simp[Blk.ren]at this
   |map ents=>simp[Blk.ren]at this
   |arr e' sz' rows'=>
    simp only[Blk.ren,Option.some.injEq,Blk.arr.injEq]at this
    obtain⟨rfl,rfl,rfl⟩:=this
    refine⟨e,sz,rows,hH,hle,A,l,k,rfl,fun h0=>?_⟩
    obtain⟨h1,h2,h3,h4,h5⟩:=hk h0
    refine⟨h1,h2,h3,h4,?_⟩
    rw[down_live hl];exact h5
 |pt id off=>
  obtain⟨cells,b,o,hG,hφ,rfl⟩:=h
  cases hH:H id with
  |none=>exact(hl hH).elim
  |some blk=>
   have:=he.at_ id blk hH
   rw[hG]at this
   cases blk with
   |arr e' sz' rows'=>simp[Blk.ren]at this
   |map ents=>simp[Blk.ren]at this
   |box cells'=>exact⟨cells',b,o,hH,by rw[down_live hl];exact hφ,rfl⟩
 |pe id ep row off=>
  obtain⟨e,sz,rows,hG,hle,A,rfl,hk⟩:=h
  cases hH:H id with
  |none=>exact(hl hH).elim
  |some blk=>
   have:=he.at_ id blk hH
   rw[hG]at this
   cases blk with
   |box cells=>simp[Blk.ren]at this
   |map ents=>simp[Blk.ren]at this
   |arr e' sz' rows'=>
    simp only[Blk.ren,Option.some.injEq,Blk.arr.injEq]at this
    obtain⟨rfl,rfl,rfl⟩:=this
    refine⟨e,sz,rows,hH,hle,A,rfl,fun h0=>?_⟩
    obtain⟨b,o,h1,h2,h3⟩:=hk h0
    exact⟨b,o,by rw[down_live hl];exact h1,h2,h3⟩
 |fp cells=>exact h
 |fn f caps=>
  obtain⟨us,rfl,hlen,hk⟩:=h
  refine⟨us,rfl,by simpa using hlen,fun j c hj=>?_⟩
  obtain⟨cells,b,o,hG,hφ,hu⟩:=hk j (ρ c.1,c.2) (by simp[hj])
  have hlc:=hl c (List.mem_of_getElem? hj)
  cases hH:H c.1 with
  |none=>exact(hlc hH).elim
  |some blk=>
   have:=he.at_ c.1 blk hH
   rw[hG]at this
   cases blk with
   |arr e' sz' rows'=>simp[Blk.ren]at this
   |map ents=>simp[Blk.ren]at this
   |box cells'=>exact⟨cells',b,o,rfl,by rw[down_live hlc];exact hφ,hu⟩
 |mref id=>
  obtain⟨ents,b,hG,hφ,rfl⟩:=h
  cases hH:H id with
  |none=>exact(hl hH).elim
  |some blk=>
   have:=he.at_ id blk hH
   rw[hG]at this
   cases blk with
   |arr e' sz' rows'=>simp[Blk.ren]at this
   |box cells=>simp[Blk.ren]at this
   |map ents'=>exact⟨ents',b,hH,by rw[down_live hl];exact hφ,rfl⟩
theorem CRep.up{ρ H G φ φ' F w}(ha:∀k blk,H k=some blk→G (ρ k)=some (blk.ren ρ))(hφ:∀k,H k≠none→φ' (ρ k)=φ k){c:C}{v:Value}(h:CRep φ F H w c v):CRep φ' F G w (c.ren ρ) v:=by
 cases c with
 |d x=>exact h
 |own id ep off len cap=>
  obtain⟨e,sz,rows,hG,hle,A,l,k,rfl,hk⟩:=h
  refine⟨e,sz,rows,ha _ _ hG,hle,A,l,k,rfl,fun h0=>?_⟩
  obtain⟨h1,h2,h3,h4,h5⟩:=hk h0
  exact⟨h1,h2,h3,h4,by rw[hφ id (by simp[hG])];exact h5⟩
 |pt id off=>
  obtain⟨cells,b,o,hG,h1,rfl⟩:=h
  exact⟨_,b,o,ha _ _ hG,by rw[hφ id (by simp[hG])];exact h1,rfl⟩
 |pe id ep row off=>
  obtain⟨e,sz,rows,hG,hle,A,rfl,hk⟩:=h
  refine⟨e,sz,rows,ha _ _ hG,hle,A,rfl,fun h0=>?_⟩
  obtain⟨b,o,h1,h2,h3⟩:=hk h0
  exact⟨b,o,by rw[hφ id (by simp[hG])];exact h1,h2,h3⟩
 |fp cells=>exact h
 |fn f caps=>
  obtain⟨us,rfl,hlen,hk⟩:=h
  refine⟨us,rfl,by simpa using hlen,fun j c hj=>?_⟩
  rw[List.getElem?_map,Option.map_eq_some_iff]at hj
  obtain⟨c0,hj,rfl⟩:=hj
  obtain⟨cells,b,o,hG,h1,hu⟩:=hk j c0 hj
  exact⟨_,b,o,ha _ _ hG,by rw[hφ c0.1 (by simp[hG])];exact h1,hu⟩
 |mref id=>
  obtain⟨ents,b,hG,h1,rfl⟩:=h
  exact⟨_,b,ha _ _ hG,by rw[hφ id (by simp[hG])];exact h1,rfl⟩
theorem All2.map_left{α β γ:Type}{R:α→β→Prop}{S:γ→β→Prop}{f:γ→α}{l:List γ}{m:List β}(h:All2 R (l.map f) m)(hf:∀c∈l,∀b,R (f c) b→S c b):All2 S l m:=by
 induction l generalizing m with
 |nil=>cases h;exact .nil
 |cons x l ih=>
  cases h with
  |cons hx h=>exact .cons (hf x (by simp) _ hx) (ih h fun c hc=>hf c (by simp[hc]))
theorem All2.map_left'{α β γ:Type}{R:α→β→Prop}{S:γ→β→Prop}{f:γ→α}{l:List γ}{m:List β}(h:All2 S l m)(hf:∀c b,S c b→R (f c) b):All2 R (l.map f) m:=by
 induction h with
 |nil=>exact .nil
 |cons x _ ih=>exact .cons (hf _ _ x) ih
theorem A1Rep.down{ρ H G φ F w}(he:Emb ρ H G){c:A1}{v:Value}(hl:c.live H)(h:A1Rep φ F G w (c.ren ρ) v):A1Rep (Fw.down ρ H φ) F H w c v:=by
 cases c with
 |c x=>exact CRep.down he hl h
 |agg cs=>obtain⟨vs,rfl,h⟩:=h;exact⟨vs,rfl,All2.map_left h fun c hc b hb=>CRep.down he (hl c hc) hb⟩
theorem A1Rep.up{ρ H G φ φ' F w}(ha:∀k blk,H k=some blk→G (ρ k)=some (blk.ren ρ))(hφ:∀k,H k≠none→φ' (ρ k)=φ k){c:A1}{v:Value}(h:A1Rep φ F H w c v):A1Rep φ' F G w (c.ren ρ) v:=by
 cases c with
 |c x=>exact CRep.up ha hφ h
 |agg cs=>obtain⟨vs,rfl,h⟩:=h;exact⟨vs,rfl,All2.map_left' h fun _ _ hb=>CRep.up ha hφ hb⟩
theorem AVRep.up{ρ H G φ φ' F w}(ha:∀k blk,H k=some blk→G (ρ k)=some (blk.ren ρ))(hφ:∀k,H k≠none→φ' (ρ k)=φ k){c:AV}{v:Value}(h:AVRep φ F H w c v):AVRep φ' F G w (c.ren ρ) v:=by
 cases c with
 |one x=>exact A1Rep.up ha hφ h
 |tup cs=>obtain⟨vs,rfl,h⟩:=h;exact⟨vs,rfl,All2.map_left' h fun _ _ hb=>A1Rep.up ha hφ hb⟩
theorem Rel.down{ρ H G φ F w}(he:Emb ρ H G)(h:Rel φ F G w):Rel (Fw.down ρ H φ) F H w:=by
 refine⟨fun k blk hk=>?_,fun k x hx=>?_,fun i j b o b' o' hi hj hb=>?_,fun b hb=>⟨(h.frz b hb).1,fun k b' o hk=>(h.frz b hb).2 _ b' o (down_some hk).2⟩⟩
 ·have hB:=h.blk _ _ (he.at_ k blk hk)
  have hl:H k≠none:=by simp[hk]
  cases blk with
  |box cells=>
   obtain⟨b,cs,T,h1,h2,h3⟩:=hB
   exact⟨b,cs,T,by rw[down_live hl];exact h1,h2,All2.map_left h3 fun c hc b hb=>CRep.down he (he.live k _ hk c hc) hb⟩
  |arr e sz rows=>
   simp only[Blk.ren,BRep]at hB⊢
   rw[down_live hl];exact hB
  |map ents=>
   obtain⟨b,es,clock,h1,h2,h4,h3⟩:=hB
   exact⟨b,es,clock,by rw[down_live hl];exact h1,h2,h4,All2.map_left h3 fun e he' m hm=>⟨hm.1,A1Rep.down he (he.live k _ hk e he') hm.2⟩⟩
 ·cases hk:H k with
  |none=>exact((down_some hx).1 hk).elim
  |some b=>simp
 ·obtain⟨l1,h1⟩:=down_some hi
  obtain⟨l2,h2⟩:=down_some hj
  exact he.inj i j l1 l2 (h.inj _ _ b o b' o' h1 h2 hb)
open Classical in
noncomputable def upφ(ρ:Nat→Nat)(H:Heap)(φs φ:Phi):Phi:=fun i=>
 if h:∃k,H k≠none∧ρ k=i then φs h.choose else φ i
theorem upφ_in{ρ:Nat→Nat}{H:Heap}{φs φ:Phi}(hinj:∀i j,H i≠none→H j≠none→ρ i=ρ j→i=j){k:Nat}(hk:H k≠none):upφ ρ H φs φ (ρ k)=φs k:=by
 have h:∃j,H j≠none∧ρ j=ρ k:=⟨k,hk,rfl⟩
 unfold upφ
 rw[dif_pos h,hinj _ _ h.choose_spec.1 hk h.choose_spec.2]
theorem upφ_out{ρ:Nat→Nat}{H:Heap}{φs φ:Phi}{i:Nat}(h:∀k,H k≠none→ρ k≠i):upφ ρ H φs φ i=φ i:=by
 unfold upφ
 rw[dif_neg]
 rintro⟨k,hk,he⟩
 exact h k hk he
theorem frame{ρ ρ':Nat→Nat}{H H' G G':Heap}{φ φs':Phi}{F F':Nat→Prop}{w w':World}(hr:Rel φ F G w)(he:Emb ρ H G)
 (hr':Rel φs' F' H' w') (hs:Stp (down ρ H φ) F H w φs' F' H' w') (hf:Fr (down ρ H φ) F w φs' F' w')
 (hρ:∀k,H k≠none→ρ' k=ρ k) (hinj:∀i j,H' i≠none→H' j≠none→ρ' i=ρ' j→i=j)
 (hnew:∀k,H' k≠none→H k=none→G (ρ' k)=none)
 (hG1:∀k blk,H' k=some blk→G' (ρ' k)=some (blk.ren ρ')) (hG2:∀i,(∀k,H' k≠none→ρ' k≠i)→G' i=G i):
 Rel (upφ ρ' H' φs' φ) F' G' w'∧Stp φ F G w (upφ ρ' H' φs' φ) F' G' w'∧Fr φ F w (upφ ρ' H' φs' φ) F' w'∧
  (∀k,H' k≠none→upφ ρ' H' φs' φ (ρ' k)=φs' k):=by
 have hdom:∀k,H k≠none→H' k≠none:=by
  intro k hk hn
  have:=hs.blk k
  cases hH:H k with
  |none=>exact hk hH
  |some b=>rw[hH,hn]at this;cases b<;>exact this.elim
 have hin:∀k,H' k≠none→upφ ρ' H' φs' φ (ρ' k)=φs' k:=fun k hk=>upφ_in hinj hk
 have hother:∀i b o,(∀k,H' k≠none→ρ' k≠i)→φ i=some (b,o)→w'.heap[b]? =w.heap[b]? :=by
  intro i b o hi hφ
  refine hf.rest b (hr.lt hφ) fun k o' hk=>?_
  obtain⟨l,h1⟩:=down_some hk
  have:=hr.inj i (ρ k) b o b o' hφ h1 rfl
  exact hi k (hdom k l) ((hρ k l).trans this.symm)
 have stp:Stp φ F G w (upφ ρ' H' φs' φ) F' G' w':=by
  refine⟨hs.frz,fun i=>?_⟩
  by_cases hi:∃k,H' k≠none∧ρ' k=i
  ·obtain⟨k,hk,rfl⟩:=hi
   cases hH':H' k with
   |none=>exact(hk hH').elim
   |some blk'=>
    rw[hG1 k blk' hH']
    cases hH:H k with
    |none=>rw[hnew k hk hH];trivial
    |some blk=>
     have hl:H k≠none:=by simp[hH]
     have hb:=hs.blk k
     rw[hH,hH']at hb
     have hGk:=he.at_ k blk hH
     rw[←hρ k hl]at hGk
     rw[hGk]
     cases blk<;>cases blk'<;>simp only[BStp,Blk.ren]at hb⊢
     ·rw[hin k hk,hb,down_live hl,hρ k hl]
     ·refine⟨hb.1,fun h0=>?_⟩
      obtain⟨a1,a2,a3,a4⟩:=hb.2 h0
      rw[down_live hl,←hρ k hl]at a3 a4
      exact⟨a1,a2,(hin k hk).trans a3,a4⟩
     ·rw[hin k hk,hb,down_live hl,hρ k hl]
  ·have hi':∀k,H' k≠none→ρ' k≠i:=fun k hk he=>hi ⟨k,hk,he⟩
   rw[hG2 i hi']
   exact BStp.same (upφ_out hi') fun b o hb=>bsize_congr (hother i b o hi' hb)
 refine⟨⟨fun i blk hi=>?_,fun i x hx=>?_,fun i j b o b' o' hi hj hb=>?_,fun b hb=>⟨(hr'.frz b hb).1,fun i b' o hi=>?_⟩⟩,stp,⟨hf.size,fun b hb hn=>hf.rest b hb fun k o hk=>hn _ o (down_some hk).2,fun i b o hi=>?_,fun b hb=>?_,hf.io⟩,hin⟩
 ·by_cases hk:∃k,H' k≠none∧ρ' k=i
  ·obtain⟨k,hk,rfl⟩:=hk
   cases hH':H' k with
   |none=>exact(hk hH').elim
   |some blk'=>
    have:=hG1 k blk' hH'
    rw[hi]at this;cases this
    have hB:=hr'.blk k blk' hH'
    cases blk' with
    |box cells=>
     obtain⟨b,cs,T,h1,h2,h3⟩:=hB
     exact⟨b,cs,T,(hin k hk).trans h1,h2,All2.map_left' h3 fun _ _ hb=>CRep.up hG1 hin hb⟩
    |arr e sz rows=>
     simp only[Blk.ren,BRep]at hB⊢
     rw[hin k hk];exact hB
    |map ents=>
     obtain⟨b,es,clock,h1,h2,h4,h3⟩:=hB
     exact⟨b,es,clock,(hin k hk).trans h1,h2,h4,All2.map_left' h3 fun _ _ hm=>⟨hm.1,A1Rep.up hG1 hin hm.2⟩⟩
  ·have hi':∀k,H' k≠none→ρ' k≠i:=fun k hk0 he0=>hk ⟨k,hk0,he0⟩
   rw[hG2 i hi']at hi
   exact BRep.mono stp (upφ_out hi') (fun b o hb=>hother i b o hi' hb) (hr.blk i blk hi)
 ·by_cases hk:∃k,H' k≠none∧ρ' k=i
  ·obtain⟨k,hk,rfl⟩:=hk
   cases hH':H' k with
   |none=>exact(hk hH').elim
   |some blk'=>rw[hG1 k blk' hH'];rfl
  ·have hi':∀k,H' k≠none→ρ' k≠i:=fun k hk0 he0=>hk ⟨k,hk0,he0⟩
   rw[upφ_out hi']at hx
   rw[hG2 i hi'];exact hr.dom i x hx
 ·subst hb
  have mixed:∀k i o o',H' k≠none→(∀k,H' k≠none→ρ' k≠i)→φs' k=some (b,o)→φ i=some (b,o')→False:=by
   intro k i o o' hk hi' h1 h2
   rcases hf.own k b o h1 with⟨k0,o0,h0⟩|h0
   ·obtain⟨l,h3⟩:=down_some h0
    have:=hr.inj i (ρ k0) b o' b o0 h2 h3 rfl
    exact hi' k0 (hdom k0 l) ((hρ k0 l).trans this.symm)
   ·have:=hr.lt h2;omega
  by_cases hki:∃k,H' k≠none∧ρ' k=i<;>by_cases hkj:∃k,H' k≠none∧ρ' k=j
  ·obtain⟨k,hk,rfl⟩:=hki
   obtain⟨l,hl,rfl⟩:=hkj
   rw[hin k hk]at hi;rw[hin l hl]at hj
   rw[hr'.inj k l b o b o' hi hj rfl]
  ·obtain⟨k,hk,rfl⟩:=hki
   have hj':∀k,H' k≠none→ρ' k≠j:=fun k hk he=>hkj ⟨k,hk,he⟩
   rw[hin k hk]at hi;rw[upφ_out hj']at hj
   exact(mixed k j o o' hk hj' hi hj).elim
  ·obtain⟨l,hl,rfl⟩:=hkj
   have hi':∀k,H' k≠none→ρ' k≠i:=fun k hk he=>hki ⟨k,hk,he⟩
   rw[hin l hl]at hj;rw[upφ_out hi']at hi
   exact(mixed l i o' o hl hi' hj hi).elim
  ·have hi':∀k,H' k≠none→ρ' k≠i:=fun k hk he=>hki ⟨k,hk,he⟩
   have hj':∀k,H' k≠none→ρ' k≠j:=fun k hk he=>hkj ⟨k,hk,he⟩
   rw[upφ_out hi']at hi;rw[upφ_out hj']at hj
   exact hr.inj i j b o b o' hi hj rfl
 ·by_cases hki:∃k,H' k≠none∧ρ' k=i
  ·obtain⟨k,hk,rfl⟩:=hki
   rw[hin k hk]at hi
   exact(hr'.frz b hb).2 k b' o hi
  ·have hi':∀k,H' k≠none→ρ' k≠i:=fun k hk he=>hki ⟨k,hk,he⟩
   rw[upφ_out hi']at hi
   intro hbb
   subst hbb
   rcases hf.frz b' hb with h0|⟨k0,o0,h0⟩|h0
   ·exact(hr.frz b' h0).2 i b' o hi rfl
   ·obtain⟨l,h3⟩:=down_some h0
    have:=hr.inj i (ρ k0) b' o b' o0 hi h3 rfl
    exact hi' k0 (hdom k0 l) ((hρ k0 l).trans this.symm)
   ·have:=hr.lt hi;omega
 ·by_cases hki:∃k,H' k≠none∧ρ' k=i
  ·obtain⟨k,hk,rfl⟩:=hki
   rw[hin k hk]at hi
   rcases hf.own k b o hi with⟨k0,o0,h0⟩|h0
   ·exact .inl ⟨ρ k0,o0,(down_some h0).2⟩
   ·exact .inr h0
  ·have hi':∀k,H' k≠none→ρ' k≠i:=fun k hk he=>hki ⟨k,hk,he⟩
   rw[upφ_out hi']at hi
   exact .inl ⟨i,o,hi⟩
 ·rcases hf.frz b hb with h0|⟨k0,o0,h0⟩|h0
  ·exact .inl h0
  ·exact .inr (.inl ⟨ρ k0,o0,(down_some h0).2⟩)
  ·exact .inr (.inr h0)
end Go.Fw
namespace Go.Fw
def okFn(P:Program)(f:FuncId):Bool:=
 match P.funcs[f]? with
 |some fn=>fn.body.isSome&&fn.name != "runtime.NumGoroutine"
 |none=>false
theorem run_callFunc{P:Program}{f:FuncId}(h:okFn P f=true)(args:Array Value)(w:World):(callFunc f args).run P w= .ok (.enter f args) w:=by
 unfold okFn at h
 split at h
 ·rename_i fn hf
  simp only[Bool.and_eq_true,bne_iff_ne,ne_eq]at h
  simp only[callFunc,run_bind,run_program,hf]
  rw[if_neg (by simpa using h.2)]
  have:fn.body.isNone=false:=by cases hb:fn.body<;>simp_all
  simp[this,run_pure]
 ·cases h
def Ent(P:Program)(f:FuncId)(vs:Array Value)(w:World)(Q:Value→World→Prop):Prop:=
 (okFn P f=true∧Calls P f vs w fun e w'=>∃v,e= .returned v∧Q v w')∨∃v w',(callFunc f vs).run P w= .ok (.value v) w'∧Q v w'
theorem Ent.mono{P:Program}{f:FuncId}{vs:Array Value}{w:World}{Q Q':Value→World→Prop}(h:Ent P f vs w Q)(hq:∀v w',Q v w'→Q' v w'):Ent P f vs w Q':=by
 rcases h with⟨h1,h2⟩|⟨v,w',h1,h2⟩
 ·exact .inl ⟨h1,h2.mono fun e w' ⟨v,hv,hQ⟩=>⟨v,hv,hq v w' hQ⟩⟩
 ·exact .inr ⟨v,w',h1,hq v w' h2⟩
def CallD(P:Program)(f:FuncId)(args:List A1)(H:List (Option Blk))(res:AV)(H':List (Option Blk)):Prop:=
 ∀φ F w vs,Rel φ F (hp H) w→All2 (A1Rep φ F (hp H) w) args vs→
  Ent P f vs.toArray w fun v w'=>∃φ' F',AVRep φ' F' (hp H') w' res v∧Rel φ' F' (hp H') w'∧
   Stp φ F (hp H) w φ' F' (hp H') w'∧Fr φ F w φ' F' w'
def CallO(P:Program)(f:FuncId)(as:List A1)(s:St)(K:Out→Prop):Prop:=
 ∀φ F w vs,Rel φ F (hp s.heap) w→All2 (A1Rep φ F (hp s.heap) w) as vs→
  Ent P f vs.toArray w fun v w'=>OpRes φ F s w K v w'
def tailWr:Nat→List (Option Blk)→(Nat→Nat)→List (Nat×Blk)
 |_,[],_=>[]
 |k,some b::r,ρ=>(ρ k,b.ren ρ)::tailWr (k+1) r ρ
 |k,none::r,ρ=>tailWr (k+1) r ρ
theorem hp_cons(x:Option Blk)(l:List (Option Blk))(k:Nat):hp (x::l) (k+1)=hp l k:=by simp[hp]
theorem hp_wrs_tail(ρ:Nat→Nat):∀(H:List (Option Blk)) (k0:Nat) (h:List (Option Blk)),
 (∀i j,hp H i≠none→hp H j≠none→ρ (k0+i)=ρ (k0+j)→i=j)→
 (∀k blk,hp H k=some blk→hp (wrs h (tailWr k0 H ρ)) (ρ (k0+k))=some (blk.ren ρ))∧
 (∀i,(∀k,hp H k≠none→ρ (k0+k)≠i)→hp (wrs h (tailWr k0 H ρ)) i=hp h i)
 |[],k0,h,_=>⟨fun k blk hk=>by simp[hp]at hk,fun i _=>rfl⟩
 |x::H,k0,h,hinj=>by
  have hinj':∀i j,hp H i≠none→hp H j≠none→ρ (k0+1+i)=ρ (k0+1+j)→i=j:=by
   intro i j hi hj he
   have:=hinj (i+1) (j+1) (by rw[hp_cons];exact hi) (by rw[hp_cons];exact hj) (by rw[show k0+(i+1)=k0+1+i by omega,show k0+(j+1)=k0+1+j by omega];exact he)
   omega
  cases x with
  |none=>
   obtain⟨h1,h2⟩:=hp_wrs_tail ρ H (k0+1) h hinj'
   refine⟨fun k blk hk=>?_,fun i hi=>?_⟩
   ·cases k with
    |zero=>simp[hp]at hk
    |succ k=>rw[hp_cons]at hk;rw[show k0+(k+1)=k0+1+k by omega];exact h1 k blk hk
   ·refine h2 i fun k hk=>?_
    have:=hi (k+1) (by rw[hp_cons];exact hk)
    rwa [show k0+(k+1)=k0+1+k by omega]at this
  |some b=>
   obtain⟨h1,h2⟩:=hp_wrs_tail ρ H (k0+1) (hset h (ρ k0) (b.ren ρ)) hinj'
   refine⟨fun k blk hk=>?_,fun i hi=>?_⟩
   ·cases k with
    |zero=>
     have:b=blk:=by simpa[hp]using hk
     subst this
     rw[Nat.add_zero]
     show hp (wrs (hset h (ρ k0) (b.ren ρ)) (tailWr (k0+1) H ρ)) (ρ k0)=_
     rw[h2 (ρ k0) (fun k hk he=>by
      have:=hinj (k+1) 0 (by rw[hp_cons];exact hk) (by simp[hp]) (by rw[show k0+(k+1)=k0+1+k by omega];exact he)
      omega),hp_hset,upd_same]
    |succ k=>rw[hp_cons]at hk;rw[show k0+(k+1)=k0+1+k by omega];exact h1 k blk hk
   ·have h0:=hi 0 (by simp[hp])
    rw[Nat.add_zero]at h0
    show hp (wrs (hset h (ρ k0) (b.ren ρ)) (tailWr (k0+1) H ρ)) i=_
    rw[h2 i (fun k hk=>by
     have:=hi (k+1) (by rw[hp_cons];exact hk)
     rwa [show k0+(k+1)=k0+1+k by omega]at this),hp_hset,upd_ne _ _ (Ne.symm h0)]
def rn(ρ:List Nat)(nx:Nat)(k:Nat):Nat:=
 match ρ[k]? with
 |some i=>i
 |none=>nx+(k-ρ.length)
theorem call_heap{P:Program}{f:FuncId}{as':List A1}{H H':List (Option Blk)}{res:AV}(ρ:List Nat){as:List A1}{s:St}{K:Out→Prop}
 (hc:CallD P f as' H res H') (has:as=as'.map (A1.ren (rn ρ s.heap.length))) (hlive:∀a∈as',a.live (hp H))
 (hρ:ρ.length=H.length) (hfull:∀k,k<H.length→hp H k≠none) (hnd:∀(i j k:Nat),ρ[i]? =some k→ρ[j]? =some k→i=j)
 (hH:∀k blk,hp H k=some blk→hp s.heap (rn ρ s.heap.length k)=some (blk.ren (rn ρ s.heap.length))∧blk.live (hp H))
 (hK:K ⟨some (res.ren (rn ρ s.heap.length)),tailWr 0 H' (rn ρ s.heap.length)⟩):CallO P f as s K:=by
 intro φ F w vs hr hA
 have hltH:∀{H:List (Option Blk)} {k:Nat},hp H k≠none→k<H.length:=by
  intro H k hk
  by_cases h:k<H.length
  ·exact h
  ·exact(hk (by simp[hp,List.getElem?_eq_none (by omega:H.length≤k)])).elim
 have hin:∀k,k<ρ.length→rn ρ s.heap.length k=ρ[k]! :=by
  intro k hk;unfold rn;rw[List.getElem?_eq_getElem hk];simp[hk]
 have hin':∀k,k<ρ.length→ρ[k]? =some (rn ρ s.heap.length k):=by
  intro k hk;unfold rn;rw[List.getElem?_eq_getElem hk]
 have hout:∀k,ρ.length≤k→rn ρ s.heap.length k=s.heap.length+(k-ρ.length):=by
  intro k hk;unfold rn;rw[List.getElem?_eq_none hk]
 have emb:Emb (rn ρ s.heap.length) (hp H) (hp s.heap):=by
  refine⟨fun k blk hk=>(hH k blk hk).1,fun i j hi hj he=>?_,fun k blk hk=>(hH k blk hk).2⟩
  have h1:=hltH hi
  have h2:=hltH hj
  exact hnd i j _ (hin' i (by omega)) (he▸hin' j (by omega))
 have hd:=Rel.down emb hr
 have hA':All2 (A1Rep (down (rn ρ s.heap.length) (hp H) φ) F (hp H) w) as' vs:=by
  rw[has]at hA
  exact All2.map_left hA fun c hc b hb=>A1Rep.down emb (hlive c hc) hb
 refine(hc _ F w vs hd hA').mono ?_
 rintro v w' ⟨φs',F',hv,hr',hs,hf⟩
 have hlt:∀k,k<ρ.length→rn ρ s.heap.length k<s.heap.length:=by
  intro k hk
  cases hk':hp H k with
  |none=>exact(hfull k (by omega) hk').elim
  |some blk=>
   have:=(hH k blk hk').1
   exact hltH (by rw[this];simp)
 have hinj:∀i j,hp H' i≠none→hp H' j≠none→rn ρ s.heap.length i=rn ρ s.heap.length j→i=j:=by
  intro i j _ _ he
  by_cases hi:i<ρ.length<;>by_cases hj:j<ρ.length
  ·exact hnd i j _ (hin' i hi) (he▸hin' j hj)
  ·have:=hlt i hi;rw[he,hout j (by omega)]at this;omega
  ·have:=hlt j hj;rw[←he,hout i (by omega)]at this;omega
  ·rw[hout i (by omega),hout j (by omega)]at he;omega
 obtain⟨w1,w2⟩:=hp_wrs_tail (rn ρ s.heap.length) H' 0 s.heap (by simpa using hinj)
 simp only[Nat.zero_add]at w1 w2
 obtain⟨g1,g2,g3,g4⟩:=frame (ρ':=rn ρ s.heap.length) (G':=hp (wrs s.heap (tailWr 0 H' (rn ρ s.heap.length)))) hr emb hr' hs hf (fun _ _=>rfl) hinj
  (fun k hk hn=>by
    by_cases hkl:k<ρ.length
    ·exact(hfull k (by omega) hn).elim
    ·rw[hout k (by omega)];simp[hp])
  w1 w2
 exact⟨⟨_,_,F',hK,fun av hav=>by cases hav;exact AVRep.up w1 g4 hv,g1,g2,g3⟩⟩
def bors(G:Heap):List C→(List C→Prop)→Prop
 |[],K=>K []
 | .d x::cs,K=>bors G cs fun ds=>K (.d (nrm x)::ds)
 | .own id ep off len _::cs,K=>
   match G id with
   |some (.arr e _ rows)=>ep=e∧off+len≤rows.length∧bors G cs fun ds=>K (.d (.sl ((rows.drop off).take len))::ds)
   |_=>False
 | .fn f []::cs,K=>bors G cs fun ds=>K (.fn f []::ds)
 |_::_,_=>False
def borAs(G:Heap):List A1→(List A1→Prop)→Prop
 |[],K=>K []
 | .c x::r,K=>bors G [x] fun ds=>match ds with
   |[d]=>borAs G r fun as=>K (.c d::as)
   |_=>False
 | .agg cs::r,K=>bors G cs fun ds=>borAs G r fun as=>K (.agg ds::as)
def C.plain:C→Bool
 | .d (.v _)=>true
 |_=>false
def A1.plain:A1→Bool
 | .c x=>x.plain
 | .agg cs=>cs.all C.plain
def AV.plain:AV→Bool
 | .one a=>a.plain
 | .tup l=>l.all A1.plain
theorem CRep.plain{φ F G w φ' F' G' w'}{c:C}{v:Value}(hp:c.plain=true)(h:CRep φ F G w c v):CRep φ' F' G' w' c v:=by
 cases c with
 |d x=>cases x with
  |v x=>cases h with|v _ hx=>exact DRep.v _ hx
  |sl rows=>simp[C.plain]at hp
 |_=>simp[C.plain]at hp
theorem All2.plain{φ F G w φ' F' G' w'}{cs:List C}{vs:List Value}(hp:cs.all C.plain=true)(h:All2 (CRep φ F G w) cs vs):All2 (CRep φ' F' G' w') cs vs:=by
 induction h with
 |nil=>exact .nil
 |cons x _ ih=>
  simp only[List.all_cons,Bool.and_eq_true]at hp
  exact .cons (CRep.plain hp.1 x) (ih hp.2)
theorem A1Rep.plain{φ F G w φ' F' G' w'}{c:A1}{v:Value}(hp:c.plain=true)(h:A1Rep φ F G w c v):A1Rep φ' F' G' w' c v:=by
 cases c with
 |c x=>exact CRep.plain hp h
 |agg cs=>obtain⟨vs,rfl,h⟩:=h;exact⟨vs,rfl,All2.plain hp h⟩
theorem AVRep.plain{φ F G w φ' F' G' w'}{c:AV}{v:Value}(hp:c.plain=true)(h:AVRep φ F G w c v):AVRep φ' F' G' w' c v:=by
 cases c with
 |one x=>exact A1Rep.plain hp h
 |tup l=>
  obtain⟨vs,rfl,h⟩:=h
  refine⟨vs,rfl,?_⟩
  simp only[AV.plain]at hp
  induction h with
  |nil=>exact .nil
  |cons x _ ih=>
   simp only[List.all_cons,Bool.and_eq_true]at hp
   exact .cons (A1Rep.plain hp.1 x) (ih hp.2)
theorem bors_sound{φ F G w}(hr:Rel φ F G w){F':Nat→Prop}(hF:∀b,F b→F' b)(hF':∀id b o,φ id=some (b,o)→F' b)(φ':Phi)(G':Heap):
 ∀{cs:List C} {vs:List Value} {K:List C→Prop},bors G cs K→CsRep φ F G w cs vs→∃ds,K ds∧All2 (CRep φ' F' G' w) ds vs
 |[],vs,K,hk,hc=>by cases hc;exact⟨[],hk,.nil⟩
 | .d x::cs,vs,K,hk,hc=>by
   cases hc with
   |cons hx hc=>
    have hk':bors G cs fun ds=>K (.d (nrm x)::ds):=hk
    obtain⟨ds,hK,h⟩:=bors_sound hr hF hF' φ' G' hk' hc
    exact⟨_,hK,.cons ((nrm_rep hx).mono fun b hb=>⟨hF b hb,rfl⟩) h⟩
 | .own id ep off len cap::cs,vs,K,hk,hc=>by
   cases hc with
   |cons hx hc=>
    simp only[bors]at hk
    split at hk
    ·rename_i e sz rows hG
     obtain⟨rfl,hlen,hk⟩:=hk
     obtain⟨ds,hK,h⟩:=bors_sound hr hF hF' φ' G' hk hc
     exact⟨_,hK,.cons (hx.frozen hr hG hlen hF (hF' id)) h⟩
    ·exact hk.elim
 | .fn f []::cs,vs,K,hk,hc=>by
   cases hc with
   |cons hx hc=>
    have hk':bors G cs fun ds=>K (.fn f []::ds):=hk
    obtain⟨ds,hK,h⟩:=bors_sound hr hF hF' φ' G' hk' hc
    obtain⟨us,h1,h2,_⟩:=hx
    exact⟨_,hK,.cons ⟨us,h1,h2,fun j c hj=>by simp at hj⟩ h⟩
 | .pt _ _::_,_,_,hk,_=>hk.elim
 | .pe _ _ _ _::_,_,_,hk,_=>hk.elim
 | .fp _::_,_,_,hk,_=>hk.elim
 | .fn _ (_::_)::_,_,_,hk,_=>hk.elim
theorem borAs_sound{φ F G w}(hr:Rel φ F G w){F':Nat→Prop}(hF:∀b,F b→F' b)(hF':∀id b o,φ id=some (b,o)→F' b)(φ':Phi)(G':Heap):
 ∀{as:List A1} {vs:List Value} {K:List A1→Prop},borAs G as K→All2 (A1Rep φ F G w) as vs→∃as',K as'∧All2 (A1Rep φ' F' G' w) as' vs
 |[],vs,K,hk,hc=>by cases hc;exact⟨[],hk,.nil⟩
 | .c x::r,vs,K,hk,hc=>by
   cases hc with
   |cons hx hc=>
    obtain⟨ds,hK,h⟩:=bors_sound hr hF hF' φ' G' (cs:=[x]) hk (.cons hx .nil)
    split at hK
    ·obtain⟨as',hK',h'⟩:=borAs_sound hr hF hF' φ' G' hK hc
     cases h with
     |cons hd _=>exact⟨_,hK',.cons hd h'⟩
    ·exact hK.elim
 | .agg cs::r,vs,K,hk,hc=>by
   cases hc with
   |cons hx hc=>
    obtain⟨us,rfl,hx⟩:=hx
    obtain⟨ds,hK,h⟩:=bors_sound hr hF hF' φ' G' (cs:=cs) hk hx
    obtain⟨as',hK',h'⟩:=borAs_sound hr hF hF' φ' G' hK hc
    exact⟨_,hK',.cons ⟨us,rfl,h⟩ h'⟩
theorem call_bor{P:Program}{f:FuncId}{as:List A1}{s:St}{K:Out→Prop}
 (h:borAs (hp s.heap) as fun as'=>∃res,CallD P f as' [] res []∧res.plain=true∧K ⟨some res,[]⟩):CallO P f as s K:=by
 intro φ F w vs hr hA
 obtain⟨as',⟨res,hc,hpl,hK⟩,hA'⟩:=borAs_sound hr (F':=fun b=>F b∨∃id o,φ id=some (b,o)) (fun b hb=> .inl hb) (fun id b o hb=> .inr ⟨id,o,hb⟩) (fun _=>none) (hp []) h hA
 refine(hc (fun _=>none) _ w vs ⟨fun id blk hb=>(by simp[hp]at hb),fun id x hx=>(by cases hx),fun i j b o b' o' hi=>(by cases hi),fun b hb=>⟨?_,fun id b' o hi=>(by cases hi)⟩⟩ hA').mono ?_
 ·rcases hb with hb|⟨id,o,hb⟩
  ·exact(hr.frz b hb).1
  ·exact hr.lt hb
 ·rintro v w' ⟨φ',F',hv,hr',hs,hf⟩
  have hrest:∀b,b<w.heap.size→w'.heap[b]? =w.heap[b]? :=fun b hb=>hf.rest b hb fun id o hi=>(by cases hi)
  have stp:Stp φ F (hp s.heap) w φ F (hp s.heap) w':=⟨fun b hb=>⟨hb,hrest b (hr.frz b hb).1⟩,fun id=>BStp.same rfl fun b o hb=>bsize_congr (hrest b (hr.lt hb))⟩
  refine⟨⟨_,φ,F,hK,(fun av hav=>by cases hav;exact AVRep.plain hpl hv),?_,stp,⟨hf.size,fun b hb _=>hrest b hb,fun id b o hi=> .inl ⟨id,o,hi⟩,fun b hb=> .inl hb,hf.io⟩⟩⟩
  exact⟨fun id blk hb=>BRep.mono stp rfl (fun b o hφ=>hrest b (hr.lt hφ)) (hr.blk id blk hb),hr.dom,hr.inj,fun b hb=>⟨Nat.lt_of_lt_of_le (hr.frz b hb).1 hf.size,(hr.frz b hb).2⟩⟩
end Go.Fw
namespace Go.Fw
structure RowsAt(w:World)(F:Nat→Prop)(cs:List Value)(o sz:Nat)(rows:List (List D)):Prop where
 le:o+rows.length*sz≤cs.length
 len:∀row∈rows,row.length=sz
 get:∀(i:Nat) row,rows[i]? =some row→∀(j:Nat) d,row[j]? =some d→∃u,cs[o+i*sz+j]? =some u∧DRep w F d u
section
variable {P:Program} {o:Oper} {a:Act} {φ:Phi} {F:Nat→Prop} {s:St} {w:World} {K:Out→Prop} {n:Nat}
theorem RowsAt.brep{w:World}{cs:List Value}{b o sz ep id:Nat}{T:TypeId}{rows:List (List D)}{G:Heap}(h:RowsAt w F cs o sz rows)(hφ:φ id=some (b,o))(hb:w.heap[b]? =some (.cells cs.toArray T (0,0))):
 BRep φ F G w id (.arr ep sz rows):=by
 refine .inr ⟨b,o,cs.toArray,T,hφ,hb,by simpa using h.le,h.len,fun i row hi j d hj=>?_⟩
 simpa using h.get i row hi j d hj
theorem BRep.rows{G:Heap}{id ep sz:Nat}{rows:List (List D)}(h:BRep φ F G w id (.arr ep sz rows)){b o:Nat}(hφ:φ id=some (b,o)):
 ∃cs T,w.heap[b]? =some (.cells cs T (0,0))∧RowsAt w F cs.toList o sz rows:=by
 rcases h with⟨h1,_⟩|⟨b',o',cs,T,h1,h2,h3,h4,h5⟩
 ·rw[hφ]at h1;cases h1
 ·rw[hφ]at h1;simp only[Option.some.injEq,Prod.mk.injEq]at h1
  obtain⟨rfl,rfl⟩:=h1
  exact⟨cs,T,h2,by simpa using h3,h4,fun i row hi j d hj=>by simpa using h5 i row hi j d hj⟩
theorem RowsAt.mono{w':World}{F':Nat→Prop}{cs:List Value}{o sz:Nat}{rows:List (List D)}(h:RowsAt w F cs o sz rows)(hm:∀b,F b→F' b∧w'.heap[b]? =w.heap[b]?):RowsAt w' F' cs o sz rows:=
 ⟨h.le,h.len,fun i row hi j d hj=>by obtain⟨u,hu,hd⟩:=h.get i row hi j d hj;exact⟨u,hu,hd.mono hm⟩⟩
theorem RowsAt.drop{cs:List Value}{o sz:Nat}{rows:List (List D)}(h:RowsAt w F cs o sz rows)(p:Nat)(hp:p≤rows.length):RowsAt w F cs (o+p*sz) sz (rows.drop p):=by
 refine⟨?_,fun row hr=>h.len row (List.mem_of_mem_drop hr),fun i row hi j d hj=>?_⟩
 ·have h1:=h.le
  rw[List.length_drop]
  have:p*sz+(rows.length-p)*sz=rows.length*sz:=by rw[←Nat.add_mul];congr 1;omega
  omega
 ·rw[List.getElem?_drop]at hi
  obtain⟨u,hu,hd⟩:=h.get _ row hi j d hj
  exact⟨u,by rw[Nat.add_mul]at hu;rw[show o+p*sz+i*sz+j=o+(p*sz+i*sz)+j by omega];exact hu,hd⟩
theorem RowsAt.take{cs:List Value}{o sz:Nat}{rows:List (List D)}(h:RowsAt w F cs o sz rows)(p:Nat):RowsAt w F cs o sz (rows.take p):=by
 refine⟨?_,fun row hr=>h.len row (List.mem_of_mem_take hr),fun i row hi j d hj=>?_⟩
 ·have h1:=h.le
  have:(rows.take p).length*sz≤rows.length*sz:=Nat.mul_le_mul_right _ (by simp;omega)
  omega
 ·rw[List.getElem?_take]at hi
  split at hi
  ·exact h.get i row hi j d hj
  ·cases hi
theorem RowsAt.write{cs vs:List Value}{o sz p:Nat}{rows new:List (List D)}(h:RowsAt w F cs o sz rows)(hn:RowsAt w F vs 0 sz new)(hl:vs.length=new.length*sz)(hp:p≤rows.length)
 (hle:o+p*sz+new.length*sz≤cs.length):RowsAt w F (splice cs (o+p*sz) vs) o sz (splice rows p new):=by
 have hsl:(splice cs (o+p*sz) vs).length=cs.length:=splice_length _ _ _ (by omega)
 have hget:∀q:Nat,(splice cs (o+p*sz) vs)[q]? =if q<o+p*sz then cs[q]? else if q<o+p*sz+vs.length then vs[q-(o+p*sz)]? else cs[q]? :=by
  intro q
  simp only[splice]
  rw[List.getElem?_append,List.getElem?_append]
  simp only[List.length_append,List.length_take]
  rw[Nat.min_eq_left (by omega)]
  by_cases c1:q<o+p*sz
  ·rw[if_pos (by omega),if_pos c1,if_pos c1,List.getElem?_take,if_pos c1]
  ·by_cases c2:q<o+p*sz+vs.length
   ·rw[if_pos c2,if_neg c1,if_neg c1,if_pos c2]
   ·rw[if_neg c2,if_neg c1,if_neg c2,List.getElem?_drop]
    congr 1;omega
 have hjlt:∀{rs:List (List D)} {i:Nat} {row:List D} {j:Nat} {d:D},(∀row∈rs,row.length=sz)→rs[i]? =some row→row[j]? =some d→j<sz:=by
  intro rs i row j d hlen hi hj
  rw[←hlen row (List.mem_of_getElem? hi)];exact(List.getElem?_eq_some_iff.1 hj).1
 refine⟨?_,fun row hr=>?_,fun i row hi j d hj=>?_⟩
 ·rw[hsl]
  have h1:=h.le
  simp only[splice,List.length_append,List.length_take,List.length_drop]
  rw[Nat.min_eq_left hp,Nat.add_mul,Nat.add_mul]
  by_cases hc:p+new.length≤rows.length
  ·have:(p+new.length)*sz+(rows.length-(p+new.length))*sz=rows.length*sz:=by rw[←Nat.add_mul];congr 1;omega
   rw[Nat.add_mul]at this;omega
  ·rw[show rows.length-(p+new.length)=0 by omega];omega
 ·simp only[splice,List.mem_append]at hr
  rcases hr with(hr|hr)|hr
  ·exact h.len row (List.mem_of_mem_take hr)
  ·exact hn.len row hr
  ·exact h.len row (List.mem_of_mem_drop hr)
 ·rw[hget]
  simp only[splice]at hi
  rw[List.getElem?_append,List.getElem?_append]at hi
  simp only[List.length_append,List.length_take]at hi
  rw[Nat.min_eq_left hp]at hi
  by_cases c1:i<p
  ·rw[if_pos (by omega),if_pos c1,List.getElem?_take,if_pos c1]at hi
   have hj':=hjlt h.len hi hj
   have:i*sz+sz≤p*sz:=by have:=Nat.mul_le_mul_right sz c1;rw[Nat.succ_mul]at this;exact this
   rw[if_pos (by omega)]
   exact h.get i row hi j d hj
  ·by_cases c2:i<p+new.length
   ·rw[if_pos c2,if_neg c1]at hi
    have hj':=hjlt hn.len hi hj
    have e1:p*sz+(i-p)*sz=i*sz:=by rw[←Nat.add_mul];congr 1;omega
    have e2:(i-p)*sz+sz≤new.length*sz:=by
     have:(i-p)+1≤new.length:=by omega
     have:=Nat.mul_le_mul_right sz this;rw[Nat.add_mul]at this;omega
    rw[if_neg (by omega),if_pos (by omega)]
    obtain⟨u,hu,hd⟩:=hn.get _ row hi j d hj
    exact⟨u,by rw[show o+i*sz+j-(o+p*sz)=0+(i-p)*sz+j by omega];exact hu,hd⟩
   ·rw[if_neg c2,List.getElem?_drop]at hi
    have:(p+new.length)*sz≤i*sz:=Nat.mul_le_mul_right _ (by omega)
    rw[Nat.add_mul]at this
    rw[if_neg (by omega),if_neg (by omega)]
    rw[show p+new.length+(i-(p+new.length))=i by omega]at hi
    exact h.get i row hi j d hj
def rowsC(G:Heap)(sz:Nat)(c:C)(K:List (List D)→Prop):Prop:=
 match c with
 | .d (.sl rows)=>(∀r∈rows,r.length=sz)∧K rows
 | .d (.v (.slice none 0 0))=>K []
 | .own id ep off len _=>match G id with
   |some (.arr e sz' rows)=>ep=e∧sz'=sz∧off+len≤rows.length∧K ((rows.drop off).take len)
   |_=>False
 |_=>False
theorem take_values{cs:List Value}{o sz:Nat}{rows:List (List D)}(h:RowsAt w F cs o sz rows):RowsAt w F ((cs.drop o).take (rows.length*sz)) 0 sz rows:=by
 have h1:=h.le
 refine⟨by simp;omega,h.len,fun i row hi j d hj=>?_⟩
 obtain⟨u,hu,hd⟩:=h.get i row hi j d hj
 refine⟨u,?_,hd⟩
 have hj':j<sz:=by rw[←h.len row (List.mem_of_getElem? hi)];exact(List.getElem?_eq_some_iff.1 hj).1
 have hi':i<rows.length:=(List.getElem?_eq_some_iff.1 hi).1
 have:i*sz+sz≤rows.length*sz:=by have:=Nat.mul_le_mul_right sz hi';rw[Nat.succ_mul]at this;exact this
 rw[List.getElem?_take,if_pos (by omega),List.getElem?_drop]
 rw[show o+(0+i*sz+j)=o+i*sz+j by omega];exact hu
theorem rowsAt_isCell{cs:List Value}{sz:Nat}{rows:List (List D)}(h:RowsAt w F cs 0 sz rows)(hl:cs.length=rows.length*sz):cs.all isCell=true:=by
 rw[List.all_eq_true]
 intro v hv
 obtain⟨p,hp⟩:=List.mem_iff_getElem?.1 hv
 have hlt:p<rows.length*sz:=by rw[←hl];exact(List.getElem?_eq_some_iff.1 hp).1
 have hsz:0<sz:=by rcases Nat.eq_zero_or_pos sz with h0|h0;·subst h0;simp at hlt
                   ·exact h0
 have hi:p/sz<rows.length:=by rw[Nat.div_lt_iff_lt_mul hsz];exact hlt
 have hrow:=List.getElem?_eq_getElem hi
 have hrl:=h.len _ (List.mem_of_getElem? hrow)
 have hj:p%sz<(rows[p/sz]).length:=by rw[hrl];exact Nat.mod_lt _ hsz
 obtain⟨u,hu,hd⟩:=h.get _ _ hrow _ _ (List.getElem?_eq_getElem hj)
 rw[show 0+p/sz*sz+p%sz=p by rw[Nat.zero_add,Nat.mul_comm];exact Nat.div_add_mod p sz]at hu
 rw[hp]at hu;cases hu
 exact hd.isCell
theorem rowsC_sound(hr:Rel φ F (hp s.heap) w){sz:Nat}{c:C}{v:Value}(hc:CRep φ F (hp s.heap) w c v){L:List (List D)→Prop}(hk:rowsC (hp s.heap) sz c L):
 ∃rows vs A l k,L rows∧v= .slice A l k∧l=rows.length∧l≤k∧vs.length=rows.length*sz∧(Builtin.firstCells sz l v).run P w= .ok vs.toArray w∧RowsAt w F vs 0 sz rows:=by
 have reads:∀{b o:Nat} {cs:List Value} {T:TypeId} {rows:List (List D)} {k:Nat},w.heap[b]? =some (.cells cs.toArray T (0,0))→RowsAt w F cs o sz rows→
  (Builtin.firstCells sz rows.length (.slice (some ⟨b,o,none⟩) rows.length k)).run P w= .ok ((cs.drop o).take (rows.length*sz)).toArray w:=by
  intro b o cs T rows k hb h
  have h1:=h.le
  have hl:((cs.drop o).take (rows.length*sz)).length=rows.length*sz:=by simp;omega
  simp only[Builtin.firstCells]
  have:=run_loadCells (P:=P) (w:=w) (b:=b) (o:=o) ((cs.drop o).take (rows.length*sz)) (fun j v hj=>by
   rw[cell?_of_heap hb]
   rw[List.getElem?_take]at hj
   split at hj
   ·rw[List.getElem?_drop]at hj;simpa using hj
   ·cases hj)
  rw[hl]at this
  exact this
 unfold rowsC at hk
 split at hk
 ·rename_i rows
  obtain⟨hlen,hk⟩:=hk
  have hc':DRep w F (.sl rows) v:=hc
  cases hc' with
  |nil A cap=>
   refine⟨[],[],A,0,cap,hk,rfl,rfl,Nat.zero_le _,by simp,?_,⟨by simp,by simp,fun i row hi=>by simp at hi⟩⟩
   cases A<;>simp[Builtin.firstCells,run_pure,loadCells,loadCellsFrom]
  |sl _ b o' sz' cap u hF hcap hsz hcell hrep=>
   by_cases hne:rows=[]
   ·subst hne
    exact⟨[],[],_,0,cap,hk,rfl,rfl,Nat.zero_le _,by simp,by simp[Builtin.firstCells,run_pure,loadCells,loadCellsFrom],⟨by simp,by simp,fun i row hi=>by simp at hi⟩⟩
   ·obtain⟨r0,rr,rfl⟩:=List.exists_cons_of_ne_nil hne
    have hss:sz'=sz:=by rw[←hsz r0 (by simp),hlen r0 (by simp)]
    subst hss
    by_cases h0:sz'=0
    ·subst h0
     refine⟨_,[],_,_,cap,hk,rfl,rfl,hcap,by simp,by simp[Builtin.firstCells,run_pure,loadCells,loadCellsFrom],⟨by simp,hlen,fun i row hi j d hj=>?_⟩⟩
     have:=hlen row (List.mem_of_getElem? hi)
     have:=(List.getElem?_eq_some_iff.1 hj).1
     omega
    have hr0:r0.length=sz':=hlen r0 (by simp)
    have hc0:=hcell 0 r0 rfl 0 _ (List.getElem?_eq_getElem (by omega))
    cases hheap:w.heap[b]? with
    |none=>simp[World.cell?,hheap]at hc0
    |some ob=>
     cases ob with
     |cells cs T fz=>
      have hcs:∀i,w.cell? ⟨b,i,none⟩=cs[i]? :=fun i=>cell?_of_heap hheap i
      have hat:∀(i:Nat) row,(r0::rr)[i]? =some row→∀(j:Nat) d,row[j]? =some d→∃u,cs.toList[o'+i*sz'+j]? =some u∧DRep w F d u:=by
       intro i row hi j d hj
       refine⟨u i j,?_,hrep i row hi j d hj⟩
       have:=hcell i row hi j d hj
       rw[hcs]at this;simpa using this
      have hle:o'+(r0::rr).length*sz'≤cs.toList.length:=by
       have hlast:(r0::rr)[rr.length]? =some ((r0::rr)[rr.length]'(by simp)):=List.getElem?_eq_getElem _
       have hl2:=hlen _ (List.mem_of_getElem? hlast)
       obtain⟨u2,hu2,_⟩:=hat _ _ hlast (sz'-1) _ (List.getElem?_eq_getElem (by omega))
       have:=(List.getElem?_eq_some_iff.1 hu2).1
       simp only[List.length_cons]
       rw[Nat.add_mul];omega
      have hR:RowsAt w F cs.toList o' sz' (r0::rr):=⟨hle,hlen,hat⟩
      refine⟨r0::rr,(cs.toList.drop o').take ((r0::rr).length*sz'),_,_,cap,hk,rfl,rfl,hcap,by simp only[List.length_take,List.length_drop];omega,?_,take_values hR⟩
      have h1:=hR.le
      have hl:((cs.toList.drop o').take ((r0::rr).length*sz')).length=(r0::rr).length*sz':=by simp only[List.length_take,List.length_drop];omega
      simp only[Builtin.firstCells]
      have:=run_loadCells (P:=P) (w:=w) (b:=b) (o:=o') ((cs.toList.drop o').take ((r0::rr).length*sz')) (fun j v hj=>by
       rw[cell?_of_heap hheap]
       rw[List.getElem?_take]at hj
       split at hj
       ·rw[List.getElem?_drop]at hj;simpa using hj
       ·cases hj)
      rw[hl]at this
      exact this
     |_=>simp[World.cell?,hheap]at hc0
 ·have hc':DRep w F (.v (.slice none 0 0)) v:=hc
  cases hc'
  exact⟨[],[],none,0,0,hk,rfl,rfl,Nat.le_refl _,by simp,rfl,⟨by simp,by simp,fun i row hi=>by simp at hi⟩⟩
 ·rename_i id ep off len cap
  obtain⟨e,sz',rows,hG,hle,A,l,k,rfl,hA⟩:=hc
  rw[hG]at hk
  simp only[]at hk
  obtain⟨rfl,rfl,hlen,hk⟩:=hk
  obtain⟨rfl,g1,g2,g3,g4⟩:=hA rfl
  have hrl:((rows.drop off).take l).length=l:=by simp;omega
  by_cases h0:l=0
  ·subst h0
   refine⟨_,[],A,0,k,hk,rfl,by simp,g1,by simp,?_,⟨by simp,by simp,fun i row hi=>by simp at hi⟩⟩
   cases A<;>simp[Builtin.firstCells,run_pure,loadCells,loadCellsFrom]
  ·rcases g4 with g4|⟨b,o',m,hφ,rfl,hm,hle2⟩
   ·omega
   obtain⟨cs,T,hb,hR⟩:=(hr.blk _ _ hG).rows hφ
   have hR2:=(hR.drop off (by omega)).take l
   have:=reads (k:=k) (cs:=cs.toList) (by simpa using hb) hR2
   rw[hrl]at this
   refine⟨_,_,_,l,k,hk,rfl,hrl.symm,g1,?_,this,?_⟩
   ·have h1:=hR2.le
    rw[hrl]at h1⊢
    simp only[List.length_take,List.length_drop];omega
   ·have:=take_values hR2
    rw[hrl]at this;exact this
 ·exact hk.elim
end
end Go.Fw
namespace Go.Fw
section
variable {P:Program} {o:Oper} {a:Act} {φ:Phi} {F:Nat→Prop} {s:St} {w:World} {K:Out→Prop} {n:Nat}
def appK(s:St)(sz:Nat)(cx:C)(new:List (List D))(K:Out→Prop):Prop:=
 match cx with
 | .d (.v (.slice none 0 0))=>new.length≤4294967296∧
     K ⟨some (.one (.c (.own s.heap.length 0 0 new.length none))),[(s.heap.length,.arr 0 sz new)]⟩
 | .own id ep off len none=>match hp s.heap id with
   |some (.arr e sz' rows)=>ep=e∧sz'=sz∧off+len≤rows.length∧len+new.length≤4294967296∧
     K ⟨some (.one (.c (.own id (ep+1) 0 (len+new.length) none))),[(id,.arr (ep+1) sz ((rows.drop off).take len++new))]⟩
   |_=>False
 | .own id ep off len (some c)=>match hp s.heap id with
   |some (.arr e sz' rows)=>ep=e∧sz'=sz∧off+len≤rows.length∧
     (len+new.length≤c→K ⟨some (.one (.c (.own id ep off (len+new.length) (some c)))),[(id,.arr ep sz (splice rows (off+len) new))]⟩)∧
     (c<len+new.length→len+new.length≤4294967296∧
       K ⟨some (.one (.c (.own s.heap.length 0 0 (len+new.length) none))),[(s.heap.length,.arr 0 sz ((rows.drop off).take len++new))]⟩)
   |_=>False
 |_=>False
theorem growBy_le(need:Nat):∀(r c:Nat),c≤2*need+192→c<need∨c≤2*need+192→Builtin.growBy need r c≤2*need+192
 |0,c,h,_=>h
 |r+1,c,h,_=>by
  simp only[Builtin.growBy]
  split
  ·exact h
  ·have:c+(c+768)/4≤2*need+192:=by omega
   exact growBy_le need r _ this (.inr this)
theorem nextcap_le{need cap:Nat}(h:cap<need):Builtin.nextslicecap need cap≤2*need+192:=by
 unfold Builtin.nextslicecap
 split
 ·omega
 ·split
  ·omega
  ·exact growBy_le need 4 cap (by omega) (.inl h)
theorem run_append_room{t t2 e e2 rt:TypeId}{sz:Nat}(hu:P.underlying t=some (.slice e))(hu2:P.underlying t2=some (.slice e2))(hs:szT P e=some sz){A A2:Option Addr}{l k l2 k2:Nat}{vs:List Value}
 (hroom:l+l2≤k) (hf:(Builtin.firstCells sz l2 (.slice A2 l2 k2)).run P w= .ok vs.toArray w) {w':World}
 (hst:match A with|some b=>(storeCells (b.add (l*sz)) vs).run P w= .ok () w'|none=>w'=w):
 (Builtin.append_ #[t,t2] rt #[.slice A l k,.slice A2 l2 k2]).run P w= .ok (.slice A (l+l2) k) w':=by
 have e0:(#[t,t2]:Array TypeId)[0]? =some t:=rfl
 have e1:(#[t,t2]:Array TypeId)[1]? =some t2:=rfl
 have e2:(#[Value.slice A l k,.slice A2 l2 k2])[0]? =some (.slice A l k):=rfl
 have e3:(#[Value.slice A l k,.slice A2 l2 k2])[1]? =some (.slice A2 l2 k2):=rfl
 simp only[Builtin.append_,e0,e1,e2,e3,run_bind,run_underlying hu,run_underlying hu2,run_sizeOf hs,run_pure,Builtin.lenOf,Bool.false_eq_true,if_false]
 rw[if_pos hroom]
 simp only[Bool.not_false,if_true,run_bind,hf]
 cases A with
 |none=>simp only at hst;subst hst;rfl
 |some b=>simp only[hst,run_bind,run_pure]
theorem zeroCells_len(z:Array Value)(m:Nat):(Builtin.zeroCells z m).size=m*z.size:=by simp[Builtin.zeroCells]
theorem run_append_grow{t t2 e e2 rt:TypeId}{sz bytes:Nat}(hu:P.underlying t=some (.slice e))(hu2:P.underlying t2=some (.slice e2))(hs:szT P e=some sz)(hb:(P.info? e).map (·.bytes)=some bytes)
 (hbl:bytes≤16384) {z:Value} (hz:(P.info? e).bind (·.zero)=some z) (hzl:z.cells.size=sz) {A A2:Option Addr} {l k l2 k2:Nat} {vs us:List Value}
 (hroom:k<l+l2) (hmax:l+l2≤4294967296) (hl:l≤k) (hus:us.length=l*sz) (hvs:vs.length=l2*sz)
 (hold:(Builtin.firstCells sz l (.slice A l k)).run P w= .ok us.toArray w) (hf:(Builtin.firstCells sz l2 (.slice A2 l2 k2)).run P w= .ok vs.toArray w)
 (hold':(Builtin.firstCells sz l (.slice A l k)).run P {w with drawn:=w.drawn+1}= .ok us.toArray {w with drawn:=w.drawn+1}) (hf':(Builtin.firstCells sz l2 (.slice A2 l2 k2)).run P {w with drawn:=w.drawn+1}= .ok vs.toArray {w with drawn:=w.drawn+1}):
 ∃nc rest,l+l2≤nc∧(us++vs++rest).length=nc*sz∧(Builtin.append_ #[t,t2] rt #[.slice A l k,.slice A2 l2 k2]).run P w=
  .ok (.slice (some ⟨w.heap.size,0,none⟩) (l+l2) nc) {w with drawn:=w.drawn+1,heap:=w.heap.push (.cells (us++vs++rest).toArray e (0,0))}:=by
 have e0:(#[t,t2]:Array TypeId)[0]? =some t:=rfl
 have e1:(#[t,t2]:Array TypeId)[1]? =some t2:=rfl
 have e2:(#[Value.slice A l k,.slice A2 l2 k2])[0]? =some (.slice A l k):=rfl
 have e3:(#[Value.slice A l k,.slice A2 l2 k2])[1]? =some (.slice A2 l2 k2):=rfl
 obtain⟨i,hi,hib⟩:=Option.map_eq_some_iff.1 hb
 have hcap:=nextcap_le hroom
 have hnot:¬Builtin.nextslicecap (l+l2) k*bytes>2^48:=by
  have:Builtin.nextslicecap (l+l2) k*bytes≤(2*(l+l2)+192)*16384:=Nat.mul_le_mul hcap hbl
  omega
 obtain⟨nc,hnc,hch⟩:∃nc,l+l2≤nc∧(choose (.appendCap (l+l2) k e)).run P w= .ok nc {w with drawn:=w.drawn+1}:=
  ⟨(l+l2)+w.tape w.drawn (.appendCap (l+l2) k e)%(2^63-(l+l2)),Nat.le_add_right _ _,by simp only[choose,Sem.run,Question.forced,Bool.false_eq_true,if_false,Question.cut]⟩
 refine⟨nc,(Builtin.zeroCells z.cells (nc-(l+l2))).toList,hnc,?_,?_⟩
 ·simp only[List.length_append,Array.length_toList,zeroCells_len,hzl,hus,hvs]
  rw[←Nat.add_mul,←Nat.add_mul];congr 1;omega
 ·simp only[Builtin.append_,e0,e1,e2,e3,run_bind,run_underlying hu,run_underlying hu2,run_sizeOf hs,run_pure,Builtin.lenOf,Bool.false_eq_true,if_false,run_typeInfo hi,false_or]
  rw[if_neg (by omega)]
  have hmaxI:¬((((l+l2:Nat):Int)>IntKind.i64.max)∧i.bytes=0):=by
   have:IntKind.i64.max=9223372036854775807:=by decide
   rw[this];omega
  simp only[run_bind,run_typeInfo hi,run_pure]
  rw[if_neg hmaxI]
  simp only[run_bind,run_typeInfo hi,run_pure]
  rw[hib]
  rw[if_neg hnot]
  simp only[run_bind,run_pure]
  have hask:∀(m:Nat) (w:World),(askRoom m).run P w= .ok () w:=by
   intro m w;unfold askRoom;split<;>rfl
  simp only[hch,hask,run_typeInfo hi,hold',hf',Bool.not_false,if_true,run_zeroValue hz,newRow,run_bind,run_newObj,run_pure]
  congr 4
  apply Array.ext';simp
theorem firstCells_drawn{sz l:Nat}{v:Value}{vs:Array Value}{m:Nat}(h:(Builtin.firstCells sz l v).run P w= .ok vs w):
 (Builtin.firstCells sz l v).run P {w with drawn:=m}= .ok vs {w with drawn:=m}:=by
 have key:∀(n i:Nat) (b:Addr) (acc vs:Array Value),(loadCellsFrom b i n acc).run P w= .ok vs w→(loadCellsFrom b i n acc).run P {w with drawn:=m}= .ok vs {w with drawn:=m}:=by
  intro n
  induction n with
  |zero=>intro i b acc vs h;simp only[loadCellsFrom,run_pure,Result.ok.injEq]at h⊢;exact⟨h.1,trivial⟩
  |succ n ih=>
   intro i b acc vs h
   simp only[loadCellsFrom,run_bind]at h⊢
   have hc:World.cell? {w with drawn:=m} (b.add i)=w.cell? (b.add i):=rfl
   cases hcell:w.cell? (b.add i)with
   |some v=>
    rw[run_load hcell]at h
    rw[run_load (hc.trans hcell)]
    exact ih _ _ _ _ h
   |none=>
    simp only[load,Sem.run,hcell]at h
    simp only[load,Sem.run,hc,hcell]
    unfold World.farLoad at h⊢
    cases hb:w.heap[(b.add i).block]? with
    |none=>rw[hb]at h;simp at h
    |some ob=>
     rw[hb]at h
     cases ob with
     |view at_ u=>
      simp only[hb]at h⊢
      have hv:World.viewLoad P {w with drawn:=m} at_ u (b.add i)=World.viewLoad P w at_ u (b.add i):=by
       funext x;rfl
      rw[hv]
      cases hvl:World.viewLoad P w at_ u (b.add i) (Mode.plain==Mode.atomic)with
      |ok r=>rw[hvl]at h;exact ih _ _ _ _ h
      |error e=>rw[hvl]at h;simp at h
     |_=>simp at h
 cases v with
 |slice A l2 k=>
  cases A with
  |none=>simp only[Builtin.firstCells,run_pure,Result.ok.injEq]at h⊢;exact⟨h.1,trivial⟩
  |some b=>exact key _ _ _ _ _ h
 |string x=>simp only[Builtin.firstCells,run_pure,Result.ok.injEq]at h⊢;exact⟨h.1,trivial⟩
 |_=>simp[Builtin.firstCells,stuck,Sem.run]at h
end
end Go.Fw
namespace Go.Fw
section
variable {P:Program} {o:Oper} {a:Act} {φ:Phi} {F:Nat→Prop} {s:St} {w:World} {K:Out→Prop} {n:Nat}
theorem OpRes.fresh{id e' sz off' len k:Nat}{rows:List (List D)}{cells:List Value}{T:TypeId}{w':World}
 (hr:Rel φ F (hp s.heap) w) (hnew:hp s.heap id=none∨∃e sz0 rows0,hp s.heap id=some (.arr e sz0 rows0)∧e<e')
 (hrows:RowsAt w F cells 0 sz rows) (hlen:off'+len≤rows.length) (hk:len≤k) (hkl:off'*sz+k*sz≤cells.length)
 (hw:w'.heap=w.heap.push (.cells cells.toArray T (0,0))) (hio:Io w w')
 (hK:K ⟨some (.one (.c (.own id e' off' len none))),[(id,.arr e' sz rows)]⟩):
 OpRes φ F s w K (.slice (some ⟨w.heap.size,off'*sz,none⟩) len k) w':=by
 have hblk:w'.heap[w.heap.size]? =some (.cells cells.toArray T (0,0)):=by rw[hw];simp
 refine OpRes.change id (some (w.heap.size,0)) (.arr e' sz rows) hK hr (by rw[hw];simp) hio (fun b hb _=>by rw[hw];exact heap_push _ _ _ hb) (fun b o hx=>by cases hx;exact .inr (Nat.le_refl _)) ?_ ?_ ?_
 ·rcases hnew with h|⟨e,sz0,rows0,h,hlt⟩
  ·rw[h];trivial
  ·rw[h];exact⟨by omega,fun he=>by omega⟩
 ·exact fun stp=>(hrows.mono stp.frz).brep (upd_same _ _ _) hblk
 ·intro stp av hav
  cases hav
  exact⟨e',sz,rows,upd_same _ _ _,Nat.le_refl _,_,len,k,rfl,fun _=>⟨rfl,hk,fun c hc=>(by cases hc),fun _=>hlen,
   .inr ⟨w.heap.size,0,cells.length,upd_same _ _ _,by simp,by simpa using bsize_of_heap hblk,by omega⟩⟩⟩
theorem appendRows{us vs:List Value}{sz:Nat}{r1 r2:List (List D)}(h1:RowsAt w F us 0 sz r1)(hl1:us.length=r1.length*sz)(h2:RowsAt w F vs 0 sz r2)(rest:List Value):RowsAt w F (us++vs++rest) 0 sz (r1++r2):=by
 refine⟨?_,fun row hr=>?_,fun i row hi j d hj=>?_⟩
 ·have:=h2.le
  simp only[List.length_append]
  rw[Nat.add_mul];omega
 ·rcases List.mem_append.1 hr with hr|hr
  ·exact h1.len row hr
  ·exact h2.len row hr
 ·rw[List.getElem?_append]at hi
  split at hi
  ·obtain⟨u,hu,hd⟩:=h1.get i row hi j d hj
   exact⟨u,by rw[List.append_assoc,List.getElem?_append_left (List.getElem?_eq_some_iff.1 hu).1];exact hu,hd⟩
  ·rename_i hlt
   obtain⟨u,hu,hd⟩:=h2.get _ row hi j d hj
   refine⟨u,?_,hd⟩
   have e1:r1.length*sz+(i-r1.length)*sz=i*sz:=by rw[←Nat.add_mul];congr 1;omega
   rw[List.append_assoc,List.getElem?_append_right (by rw[hl1];omega),hl1]
   rw[show 0+i*sz+j-r1.length*sz=0+(i-r1.length)*sz+j by omega]
   rw[List.getElem?_append_left (List.getElem?_eq_some_iff.1 hu).1];exact hu
theorem storeCells_nil(b:Addr)(w:World):(storeCells b []).run P w= .ok () w:=rfl
theorem splice_nil{α:Type}(cs:List α)(off:Nat):splice cs off []=cs:=by simp[splice]
theorem write_rows(hr:Rel φ F (hp s.heap) w){id e sz:Nat}{rows:List (List D)}(hG:hp s.heap id=some (.arr e sz rows)){b o':Nat}(hφ:φ id=some (b,o'))
 {vs:List Value} {new:List (List D)} (hvs:RowsAt w F vs 0 sz new) (hvl:vs.length=new.length*sz) {p:Nat} (hp':p≤rows.length) {m:Nat} (hm:bsize w b=some m) (hle:o'+p*sz+new.length*sz≤m):
 ∃w' cs T,(storeCells ⟨b,o'+p*sz,none⟩ vs).run P w= .ok () w'∧w'.heap.size=w.heap.size∧(∀b',b'≠b→w'.heap[b']? =w.heap[b']?)∧
  w'.heap[b]? =some (.cells (cs:List Value).toArray T (0,0))∧cs.length=m∧RowsAt w F cs o' sz (splice rows p new)∧Io w w':=by
 obtain⟨cs,T,hb,hR⟩:=(hr.blk _ _ hG).rows hφ
 have hm':cs.toList.length=m:=by rw[bsize_of_heap hb]at hm;simpa using hm
 by_cases hnil:vs=[]
 ·subst hnil
  refine⟨w,cs.toList,T,storeCells_nil _ _,rfl,fun _ _=>rfl,by simpa using hb,hm',?_,Io.refl _⟩
  by_cases hn:new=[]
  ·subst hn;rw[splice_nil];exact hR
  ·have h0:new.length*sz=0:=by simpa using hvl.symm
   have hsz:sz=0:=by
    rcases Nat.mul_eq_zero.1 h0 with h|h
    ·exact(hn (List.length_eq_zero_iff.1 h)).elim
    ·exact h
   have:=hR.write (vs:=[]) hvs (by simpa using hvl) hp' (by omega)
   rw[splice_nil]at this;exact this
 ·obtain⟨w',hrun,hone⟩:=run_storeCells (P:=P) (b:=b) (o:=o'+p*sz) (T:=T) vs 0 w cs.toList (by simpa using hb) (by omega) (rowsAt_isCell hvs hvl) hnil
  exact⟨w',_,T,hrun,hone.size,hone.rest,hone.blk,by rw[splice_length _ _ _ (by omega)];exact hm',hR.write hvs hvl hp' (by omega),hone.io⟩
theorem app_core(h:SRel n φ F s a w){t t2 e:TypeId}{x y:Operand}{args:Array Operand}{ts:Array TypeId}(ho:o.op= .call {callee:= .builtin .append,args,argTypes:=ts})(hargs:args.toList=[x,y])(hts:ts.toList=[t,t2])
 {sz:Nat} {x':O} (hx:cO x=some x') {cx:C} (hcx:s.evC x'=some cx) {yv:Value} (hy2:a.eval y=yv) {new:List (List D)} {vs:List Value} {l2:Nat} (hl2:l2=new.length) (hvl:vs.length=new.length*sz) (hvs:RowsAt w F vs 0 sz new)
 (Hroom:∀{A:Option Addr} {l k:Nat} {w':World},l+l2≤k→(match A with|some b=>(storeCells (b.add (l*sz)) vs).run P w= .ok () w'|none=>w'=w)→
   (Builtin.append_ #[t,t2] o.type #[.slice A l k,yv]).run P w= .ok (.slice A (l+l2) k) w')
 (Hgrow:∀{A:Option Addr} {l k:Nat} {us:List Value},k<l+l2→l+l2≤4294967296→l≤k→us.length=l*sz→(Builtin.firstCells sz l (.slice A l k)).run P w= .ok us.toArray w→
   ∃nc rest,l+l2≤nc∧(us++vs++rest).length=nc*sz∧(Builtin.append_ #[t,t2] o.type #[.slice A l k,yv]).run P w=
    .ok (.slice (some ⟨w.heap.size,0,none⟩) (l+l2) nc) {w with drawn:=w.drawn+1,heap:=w.heap.push (.cells (us++vs++rest).toArray e (0,0))})
 (hK:appK s sz cx new K):OpRun P o a φ F s w K:=by
 obtain rfl:=two_args hargs
 obtain rfl:=two_args hts
 have hX:=evC_rep h hx hcx
 have exec:∀{A l k v w'},a.eval x= .slice A l k→(Builtin.append_ #[t,t2] o.type #[.slice A l k,yv]).run P w= .ok v w'→(execOp a.eval o).run P w= .ok (.value v) w':=by
  intro A l k v w' hx2 hr
  simp only[execOp,ho,resolve,run_bind,run_pure,invoke,builtin,List.map_toArray,List.map_cons,List.map_nil,hx2,hy2,hr]
 have grow:∀{A l k} {us:List Value} {old:List (List D)} {id e':Nat},a.eval x= .slice A l k→k<l+l2→l+new.length≤4294967296→l≤k→us.length=l*sz→old.length=l→
  (Builtin.firstCells sz l (.slice A l k)).run P w= .ok us.toArray w→RowsAt w F us 0 sz old→
  (hp s.heap id=none∨∃e sz0 rows0,hp s.heap id=some (.arr e sz0 rows0)∧e<e')→
  K ⟨some (.one (.c (.own id e' 0 (l+new.length) none))),[(id,.arr e' sz (old++new))]⟩→OpRun P o a φ F s w K:=by
  intro A l k us old id e' hx2 hroom hmax hlk hus hold hfold hR hid hKK
  obtain⟨nc,rest,hnc,hcl,hrun⟩:=Hgrow hroom (by omega) hlk hus hfold
  refine⟨_,_,.inl (exec hx2 hrun),?_⟩
  have hR2:=appendRows hR (by rw[hus,hold]) hvs rest
  have:=OpRes.fresh (K:=K) (len:=l+l2) (k:=nc) (off':=0) (T:=e) (w':={w with drawn:=w.drawn+1,heap:=w.heap.push (.cells (us++vs++rest).toArray e (0,0))}) h.rel hid hR2 (by simp[hold,hl2]) hnc (by rw[hcl];omega) rfl (Io.push rfl rfl rfl) (by rw[hl2];exact hKK)
  simpa using this
 unfold appK at hK
 split at hK
 ·
  obtain⟨hmax,hK⟩:=hK
  have hX':DRep w F (.v (.slice none 0 0)) (a.eval x):=hX
  generalize hval:a.eval x=val at hX'
  cases hX'
  by_cases h0:l2=0
  ·have hn:new=[]:=List.length_eq_zero_iff.1 (by omega)
   subst hn
   have hrun:=Hroom (w':=w) (A:=none) (l:=0) (k:=0) (by omega) rfl
   refine⟨_,_,.inl (exec hval hrun),?_⟩
   refine OpRes.change s.heap.length none (.arr 0 sz []) hK h.rel (Nat.le_refl _) (Io.refl _) (fun _ _ _=>rfl) (fun b o hx=>by cases hx) (by rw[hp_len];trivial) (fun _=> .inl ⟨upd_same _ _ _,rfl⟩) ?_
   intro stp av hav;cases hav
   exact⟨0,sz,[],upd_same _ _ _,Nat.le_refl _,none,0+l2,0,rfl,fun _=>⟨by simp[h0],by simp[h0],fun c hc=>(by cases hc),fun _=>(by simp),.inl rfl⟩⟩
  ·refine grow (us:=[]) (old:=[]) (id:=s.heap.length) (e':=0) hval (by omega) (by omega) (Nat.le_refl _) (by simp) rfl rfl ⟨by simp,by simp,fun i row hi=>by simp at hi⟩ (.inl (hp_len _)) ?_
   simpa using hK
 ·
  rename_i id ep off len
  obtain⟨e1,sz1,rows,hG,hle,A,l,k,hx2,hA⟩:=hX
  rw[hG]at hK
  simp only[]at hK
  obtain⟨rfl,rfl,hlen,hmax,hK⟩:=hK
  obtain⟨rfl,g1,_,g3,g4⟩:=hA rfl
  have hrl:((rows.drop off).take l).length=l:=by simp;omega
  by_cases hroom:l+l2≤k
  ·
   by_cases hk0:k=0
   ·have hl0:l=0:=by omega
    have hn:new=[]:=List.length_eq_zero_iff.1 (by omega)
    subst hn
    have hvn:vs=[]:=List.length_eq_zero_iff.1 (by simpa using hvl)
    subst hvn
    have hrun:=Hroom (w':=w) (A:=A) hroom (by cases A<;>rfl)
    refine⟨_,_,.inl (exec hx2 hrun),?_⟩
    refine OpRes.change id none _ hK h.rel (Nat.le_refl _) (Io.refl _) (fun _ _ _=>rfl) (fun b o hx=>by cases hx) (by rw[hG];exact⟨by omega,fun he=>by omega⟩) (fun _=> .inl ⟨upd_same _ _ _,by subst hl0;simp⟩) ?_
    intro stp av hav;cases hav
    exact⟨ep+1,sz1,_,upd_same _ _ _,Nat.le_refl _,A,l+l2,k,rfl,fun _=>⟨by rw[hl2],by omega,fun c hc=>(by cases hc),fun _=>(by simp;omega),.inl hk0⟩⟩
   ·rcases g4 with g4|⟨b,o',m,hφ,rfl,hm,hle2⟩
    ·omega
    have hpl:off+l≤rows.length:=hlen
    have e3:(off+l)*sz1=off*sz1+l*sz1:=Nat.add_mul _ _ _
    have e4:l*sz1+new.length*sz1≤k*sz1:=by rw[←Nat.add_mul];exact Nat.mul_le_mul_right _ (by omega)
    obtain⟨w',cs,T,hst,hsz,hrest,hblk,hcl,hR,hio⟩:=write_rows (P:=P) h.rel hG hφ hvs hvl hpl hm (by omega)
    have hst':(storeCells ((Addr.mk b (o'+off*sz1) none).add (l*sz1)) vs).run P w= .ok () w':=by
     rw[addr_add,show o'+off*sz1+l*sz1=o'+(off+l)*sz1 by omega];exact hst
    have hrun:=Hroom (w':=w') (A:=some ⟨b,o'+off*sz1,none⟩) hroom hst'
    refine⟨_,_,.inl (exec hx2 hrun),?_⟩
    have hR2:=(hR.drop off (by simp[splice];omega)).take (l+new.length)
    have hrw:((splice rows (off+l) new).drop off).take (l+new.length)=(rows.drop off).take l++new:=by
     unfold splice
     rw[List.append_assoc,List.drop_append_of_le_length (by simp;omega),List.take_append]
     rw[List.drop_take,show off+l-off=l by omega]
     rw[List.take_of_length_le (by simp;omega)]
     congr 1
     rw[List.take_append_of_le_length (by simp;omega),List.take_of_length_le (by simp;omega)]
    rw[hrw]at hR2
    refine OpRes.change id (some (b,o'+off*sz1)) _ hK h.rel (by rw[hsz];exact Nat.le_refl _) hio (fun b2 _ hn=>hrest b2 fun he=>hn o' (he▸hφ)) (fun b2 o2 hx=>by cases hx;exact .inl ⟨o',hφ⟩) (by rw[hG];exact⟨by omega,fun he=>by omega⟩)
     (fun stp=>(hR2.mono stp.frz).brep (upd_same _ _ _) hblk) ?_
    intro stp av hav;cases hav
    exact⟨ep+1,sz1,_,upd_same _ _ _,Nat.le_refl _,_,l+l2,k,rfl,fun _=>⟨by rw[hl2],by omega,fun c hc=>(by cases hc),fun _=>(by simp;omega),
     .inr ⟨b,_,m,upd_same _ _ _,by simp,by rw[bsize_of_heap hblk];simp[hcl],by omega⟩⟩⟩
  ·
   have hrowsC:rowsC (hp s.heap) sz1 (.own id ep off l none) fun old=>old=(rows.drop off).take l:=by
    simp only[rowsC,hG];exact⟨trivial,trivial,hlen,trivial⟩
   obtain⟨old,us,A',l',k',rfl,he',hl',hlk',hul,hfu,hRu⟩:=rowsC_sound (P:=P) h.rel (v:=a.eval x) (evC_rep h hx hcx) hrowsC
   rw[hx2]at he'
   cases he'
   rw[hx2]at hfu
   exact grow (id:=id) (e':=ep+1) hx2 (by omega) (by omega) g1 (by rw[hul,hrl]) hrl hfu hRu (.inr ⟨ep,sz1,rows,hG,by omega⟩) hK
 ·
  rename_i id ep off len c
  obtain⟨e1,sz1,rows,hG,hle,A,l,k,hx2,hA⟩:=hX
  rw[hG]at hK
  simp only[]at hK
  obtain⟨rfl,rfl,hlen,hK1,hK2⟩:=hK
  obtain⟨rfl,g1,g2,_,g4⟩:=hA rfl
  have:=g2 c rfl
  subst this
  have hrl:((rows.drop off).take l).length=l:=by simp;omega
  by_cases hroom:l+l2≤c
  ·have hK:=hK1 (by omega)
   by_cases hk0:c=0
   ·have hl0:l=0:=by omega
    have hn:new=[]:=List.length_eq_zero_iff.1 (by omega)
    subst hn
    have hvn:vs=[]:=List.length_eq_zero_iff.1 (by simpa using hvl)
    subst hvn
    have hrun:=Hroom (w':=w) (A:=A) hroom (by cases A<;>rfl)
    refine⟨_,_,.inl (exec hx2 hrun),?_⟩
    have hup:upd φ id (φ id)=φ:=by funext j;by_cases hj:j=id<;>simp[upd,hj]
    have hupG:upd (hp s.heap) id (some (Blk.arr ep sz1 (splice rows (off+l) [])))=hp s.heap:=by
     rw[splice_nil,←hG];funext j;by_cases hj:j=id<;>simp[upd,hj]
    refine OpRes.change id (φ id) _ hK h.rel (Nat.le_refl _) (Io.refl _) (fun _ _ _=>rfl) (fun b o hx=> .inl ⟨o,hx⟩) ?_ ?_ ?_
    ·rw[hG,hup,splice_nil];exact BStp.refl φ w id (some (.arr ep sz1 rows))
    ·intro _;rw[hup,hupG,splice_nil];exact h.rel.blk _ _ hG
    ·intro stp av hav;cases hav
     rw[hup,hupG]
     exact⟨ep,sz1,rows,hG,Nat.le_refl _,A,l+l2,c,rfl,fun _=>⟨by rw[hl2],by omega,fun c' hc=>(by cases hc;rfl),fun hc=>(by cases hc),.inl hk0⟩⟩
   ·rcases g4 with g4|⟨b,o',m,hφ,rfl,hm,hle2⟩
    ·omega
    have e3:(off+l)*sz1=off*sz1+l*sz1:=Nat.add_mul _ _ _
    have e4:l*sz1+new.length*sz1≤c*sz1:=by rw[←Nat.add_mul];exact Nat.mul_le_mul_right _ (by omega)
    obtain⟨w',cs,T,hst,hsz,hrest,hblk,hcl,hR,hio⟩:=write_rows (P:=P) h.rel hG hφ hvs hvl hlen hm (by omega)
    have hst':(storeCells ((Addr.mk b (o'+off*sz1) none).add (l*sz1)) vs).run P w= .ok () w':=by
     rw[addr_add,show o'+off*sz1+l*sz1=o'+(off+l)*sz1 by omega];exact hst
    have hrun:=Hroom (w':=w') (A:=some ⟨b,o'+off*sz1,none⟩) hroom hst'
    refine⟨_,_,.inl (exec hx2 hrun),?_⟩
    have hup:upd φ id (some (b,o'))=φ:=by funext j;by_cases hj:j=id<;>simp[upd,hj,hφ]
    refine OpRes.change id (some (b,o')) _ hK h.rel (by rw[hsz];exact Nat.le_refl _) hio (fun b2 _ hn=>hrest b2 fun he=>hn o' (he▸hφ)) (fun b2 o2 hx=>by cases hx;exact .inl ⟨o',hφ⟩) ?_ (fun stp=>(hR.mono stp.frz).brep (upd_same _ _ _) hblk) ?_
    ·rw[hG,hup]
     refine⟨Nat.le_refl _,fun _=>⟨rfl,by simp[splice];omega,rfl,fun b2 o2 hb2=>?_⟩⟩
     rw[hφ]at hb2;cases hb2
     rw[bsize_of_heap hblk,hm];simp[hcl]
    ·intro stp av hav;cases hav
     exact⟨ep,sz1,_,upd_same _ _ _,Nat.le_refl _,_,l+l2,c,rfl,fun _=>⟨by rw[hl2],by omega,fun c' hc=>(by cases hc;rfl),fun hc=>(by cases hc),
      .inr ⟨b,o',m,upd_same _ _ _,rfl,by rw[bsize_of_heap hblk];simp[hcl],hle2⟩⟩⟩
  ·obtain⟨hmax,hK⟩:=hK2 (by omega)
   have hrowsC:rowsC (hp s.heap) sz1 (.own id ep off l (some c)) fun old=>old=(rows.drop off).take l:=by
    simp only[rowsC,hG];exact⟨trivial,trivial,hlen,trivial⟩
   obtain⟨old,us,A',l',k',rfl,he',hl',hlk',hul,hfu,hRu⟩:=rowsC_sound (P:=P) h.rel (v:=a.eval x) (evC_rep h hx hcx) hrowsC
   rw[hx2]at he'
   cases he'
   rw[hx2]at hfu
   exact grow (id:=s.heap.length) (e':=0) hx2 (by omega) (by omega) g1 (by rw[hul,hrl]) hrl hfu hRu (.inl (hp_len _)) hK
 ·exact hK.elim
theorem app_sound(h:SRel n φ F s a w){t t2 e e2:TypeId}{x y:Operand}{args:Array Operand}{ts:Array TypeId}(ho:o.op= .call {callee:= .builtin .append,args,argTypes:=ts})(hargs:args.toList=[x,y])(hts:ts.toList=[t,t2])
 (hu:P.underlying t=some (.slice e)) (hu2:P.underlying t2=some (.slice e2)) {sz bytes:Nat} (hs:szT P e=some sz) (hb:(P.info? e).map (·.bytes)=some bytes) (hbl:bytes≤16384)
 {z:Value} (hz:(P.info? e).bind (·.zero)=some z) (hzl:z.cells.size=sz) {x' y':O} (hx:cO x=some x') (hy:cO y=some y') {cx cy:C} (hcx:s.evC x'=some cx) (hcy:s.evC y'=some cy)
 (hk:rowsC (hp s.heap) sz cy fun new=>appK s sz cx new K):OpRun P o a φ F s w K:=by
 obtain⟨new,vs,A2,l2,k2,hK,hy2,hl2,hlk2,hvl,hfy,hvs⟩:=rowsC_sound (P:=P) h.rel (evC_rep h hy hcy) hk
 rw[hy2]at hfy
 refine app_core (e:=e) h ho hargs hts hx hcx hy2 hl2 hvl hvs (fun hroom hst=>run_append_room hu hu2 hs hroom hfy hst) (fun hroom hmax hlk hus hfold=>?_) hK
 exact run_append_grow hu hu2 hs hb hbl hz hzl hroom hmax hlk hus (by rw[hvl,hl2]) hfold hfy (firstCells_drawn hfold) (firstCells_drawn hfy)
theorem wrap_small{n:Nat}(h:n≤4294967296):IntKind.i64.wrap (n:Int)=n:=by
 simp[IntKind.wrap,IntKind.bits,IntKind.signed];omega
theorem run_appz_room{t t2 e rt:TypeId}{kk k3:IntKind}{sz bytes:Nat}(hu:P.underlying t=some (.slice e))(hu2:P.underlying t2=some (.int kk))(hs:szT P e=some sz)(hb:(P.info? e).map (·.bytes)=some bytes)
 (hbl:bytes≤16384) {z:Value} (hz:(P.info? e).bind (·.zero)=some z) (hzl:z.cells.size=sz) {A:Option Addr} {l k l2:Nat} (hn:l2≤4294967296)
 (hroom:l+l2≤k) {w':World}
 (hst:match A with|some b=>(storeCells (b.add (l*sz)) (Builtin.zeroCells z.cells l2).toList).run P w= .ok () w'|none=>w'=w):
 (Builtin.append_ #[t,t2] rt #[.slice A l k,.int k3 l2]).run P w= .ok (.slice A (l+l2) k) w':=by
 have e0:(#[t,t2]:Array TypeId)[0]? =some t:=rfl
 have e1:(#[t,t2]:Array TypeId)[1]? =some t2:=rfl
 have e2:(#[Value.slice A l k,.int k3 l2])[0]? =some (.slice A l k):=rfl
 have e3:(#[Value.slice A l k,.int k3 l2])[1]? =some (.int k3 l2):=rfl
 obtain⟨i,hi,hib⟩:=Option.map_eq_some_iff.1 hb
 have h48:¬((l2:Int)*(i.bytes:Int)>2^48):=by
  rw[←Int.natCast_mul]
  have:l2*i.bytes≤4294967296*16384:=Nat.mul_le_mul hn (by omega)
  omega
 have hneg:¬((l2:Int)<0):=by omega
 simp only[Builtin.append_,e0,e1,e2,e3,run_bind,run_underlying hu,run_underlying hu2,run_sizeOf hs,run_pure,if_true,asInt,asIntOf,wrap_small hn,run_typeInfo hi,if_neg hneg,if_neg h48,Int.toNat_natCast]
 rw[if_pos hroom]
 by_cases h0:l2*sz=0
 ·have hzc:(Builtin.zeroCells z.cells l2).toList=[]:=List.length_eq_zero_iff.1 (by rw[Array.length_toList,zeroCells_len,hzl,h0])
  rw[hzc]at hst
  simp only[Bool.not_true,Bool.false_eq_true,if_false,if_pos h0,run_bind,run_pure]
  cases A with
  |none=>simp only at hst;subst hst;rfl
  |some b=>simp only[hst,run_bind,run_pure]
 ·simp only[Bool.not_true,Bool.false_eq_true,if_false,if_neg h0,run_bind,run_pure,run_zeroValue hz]
  cases A with
  |none=>simp only at hst;subst hst;rfl
  |some b=>simp only[hst,run_bind,run_pure]
theorem run_appz_grow{t t2 e rt:TypeId}{kk k3:IntKind}{sz bytes:Nat}(hu:P.underlying t=some (.slice e))(hu2:P.underlying t2=some (.int kk))(hs:szT P e=some sz)(hb:(P.info? e).map (·.bytes)=some bytes)
 (hbl:bytes≤16384) {z:Value} (hz:(P.info? e).bind (·.zero)=some z) (hzl:z.cells.size=sz) {A:Option Addr} {l k l2:Nat} {us:List Value} (hn:l2≤4294967296)
 (hroom:k<l+l2) (hmax:l+l2≤4294967296) (hl:l≤k) (hus:us.length=l*sz)
 (hold:(Builtin.firstCells sz l (.slice A l k)).run P w= .ok us.toArray w):
 ∃nc rest,l+l2≤nc∧(us++(Builtin.zeroCells z.cells l2).toList++rest).length=nc*sz∧(Builtin.append_ #[t,t2] rt #[.slice A l k,.int k3 l2]).run P w=
  .ok (.slice (some ⟨w.heap.size,0,none⟩) (l+l2) nc) {w with drawn:=w.drawn+1,heap:=w.heap.push (.cells (us++(Builtin.zeroCells z.cells l2).toList++rest).toArray e (0,0))}:=by
 have e0:(#[t,t2]:Array TypeId)[0]? =some t:=rfl
 have e1:(#[t,t2]:Array TypeId)[1]? =some t2:=rfl
 have e2:(#[Value.slice A l k,.int k3 l2])[0]? =some (.slice A l k):=rfl
 have e3:(#[Value.slice A l k,.int k3 l2])[1]? =some (.int k3 l2):=rfl
 obtain⟨i,hi,hib⟩:=Option.map_eq_some_iff.1 hb
 have hold':=firstCells_drawn (m:=w.drawn+1) hold
 have h48:¬((l2:Int)*(i.bytes:Int)>2^48):=by
  rw[←Int.natCast_mul]
  have:l2*i.bytes≤4294967296*16384:=Nat.mul_le_mul hn (by omega)
  omega
 have hneg:¬((l2:Int)<0):=by omega
 have hcap:=nextcap_le hroom
 have hnot:¬Builtin.nextslicecap (l+l2) k*i.bytes>2^48:=by
  have:Builtin.nextslicecap (l+l2) k*i.bytes≤(2*(l+l2)+192)*16384:=Nat.mul_le_mul hcap (by omega)
  omega
 obtain⟨nc,hnc,hch⟩:∃nc,l+l2≤nc∧(choose (.appendCap (l+l2) k e)).run P w= .ok nc {w with drawn:=w.drawn+1}:=
  ⟨(l+l2)+w.tape w.drawn (.appendCap (l+l2) k e)%(2^63-(l+l2)),Nat.le_add_right _ _,by simp only[choose,Sem.run,Question.forced,Bool.false_eq_true,if_false,Question.cut]⟩
 refine⟨nc,(Builtin.zeroCells z.cells (nc-(l+l2))).toList,hnc,?_,?_⟩
 ·simp only[List.length_append,Array.length_toList,zeroCells_len,hzl,hus]
  rw[←Nat.add_mul,←Nat.add_mul];congr 1;omega
 ·have hask:∀(m:Nat) (w:World),(askRoom m).run P w= .ok () w:=by
   intro m w;unfold askRoom;split<;>rfl
  have hmaxI:¬(((l+l2:Nat):Int)>IntKind.i64.max):=by
   have:IntKind.i64.max=9223372036854775807:=by decide
   rw[this];omega
  have hz0:l2*sz=0→Builtin.zeroCells z.cells l2= #[]:=fun h0=>by
   apply Array.eq_empty_of_size_eq_zero;rw[zeroCells_len,hzl,h0]
  simp only[Builtin.append_,e0,e1,e2,e3,run_bind,run_underlying hu,run_underlying hu2,run_sizeOf hs,run_pure,if_true,asInt,asIntOf,wrap_small hn,run_typeInfo hi,if_neg hneg,if_neg h48,Int.toNat_natCast]
  rw[if_neg (by omega)]
  simp only[run_bind,run_typeInfo hi,run_pure,hmaxI,false_and,if_false,if_neg hnot]
  simp only[hch,hask,run_typeInfo hi,hold',Bool.not_true,Bool.false_eq_true,if_false,run_bind,run_pure]
  by_cases h0:l2*sz=0
  ·simp only[if_pos h0,run_bind,run_pure,run_zeroValue hz,newRow,run_newObj,hz0 h0]
   congr 4
   apply Array.ext';simp
  ·simp only[if_neg h0,run_bind,run_pure,run_zeroValue hz,newRow,run_newObj]
   congr 4
   apply Array.ext';simp
end
end Go.Fw
namespace Go.Fw
section
variable {P:Program} {o:Oper} {a:Act} {φ:Phi} {F:Nat→Prop} {s:St} {w:World} {K:Out→Prop} {n:Nat}
theorem loadCells_prefix(b:Addr)(vs:Array Value)(m:Nat):∀(i:Nat) (acc:Array Value) (k:Nat),k≤m→(loadCellsFrom b i m acc).run P w= .ok vs w→
 (loadCellsFrom b i k acc).run P w= .ok (vs.toList.take (acc.size+k)).toArray w∧acc.size+m=vs.size∧vs.toList.take acc.size=acc.toList:=by
 induction m with
 |zero=>
  intro i acc k hk h
  have:k=0:=by omega
  subst this
  simp only[loadCellsFrom,run_pure,Result.ok.injEq,and_true]at h⊢
  subst h
  have e:List.take acc.size acc.toList=acc.toList:=List.take_of_length_le (by simp)
  refine⟨?_,rfl,e⟩
  rw[Nat.add_zero,e]
 |succ m ih=>
  intro i acc k hk h
  simp only[loadCellsFrom,run_bind]at h
  cases hl:(load (b.add i)).run P w with
  |halt x w1=>rw[hl]at h;cases h
  |ok v w1=>
   have hw:w1=w:=by
    simp only[load,Sem.run]at hl
    split at hl
    ·cases hl;rfl
    ·split at hl
     ·cases hl;rfl
     ·cases hl
   subst hw
   rw[hl]at h
   simp only at h
   cases k with
   |zero=>
    obtain⟨h1,h2,h3⟩:=ih (i+1) (acc.push v) 0 (Nat.zero_le _) h
    simp only[Array.size_push]at h1 h2 h3
    have h4:vs.toList.take acc.size=acc.toList:=by
     have:=congrArg (List.take acc.size) h3
     rw[List.take_take]at this
     simpa using this
    refine⟨?_,by omega,h4⟩
    simp only[loadCellsFrom,run_pure,Nat.add_zero,h4]
   |succ k=>
    obtain⟨h1,h2,h3⟩:=ih (i+1) (acc.push v) k (by omega) h
    simp only[Array.size_push]at h1 h2 h3
    refine⟨?_,by omega,?_⟩
    ·simp only[loadCellsFrom,run_bind,hl]
     rw[h1];congr 3;omega
    ·have:=congrArg (List.take acc.size) h3
     rw[List.take_take]at this
     simpa using this
theorem firstCells_prefix{sz l k:Nat}{v:Value}{A:Option Addr}{c:Nat}(hv:v= .slice A l c){vs:List Value}(h:(Builtin.firstCells sz l v).run P w= .ok vs.toArray w)(hl:vs.length=l*sz)(hk:k≤l):
 (Builtin.firstCells sz k v).run P w= .ok (vs.take (k*sz)).toArray w:=by
 subst hv
 cases A with
 |none=>
  simp only[Builtin.firstCells,run_pure,Result.ok.injEq,and_true]at h⊢
  have:vs=[]:=by have:=congrArg Array.toList h;simpa using this.symm
  subst this;simp
 |some b=>
  have:=loadCells_prefix (P:=P) (w:=w) b vs.toArray (l*sz) 0 #[] (k*sz) (Nat.mul_le_mul_right _ hk) h
  have h1:=this.1
  simp only[List.size_toArray,List.length_nil,Nat.zero_add]at h1
  exact h1
theorem RowsAt.takeFlat{vs:List Value}{sz:Nat}{rows:List (List D)}(h:RowsAt w F vs 0 sz rows)(k:Nat)(hk:k≤rows.length):RowsAt w F (vs.take (k*sz)) 0 sz (rows.take k):=by
 have h1:=h.le
 have h2:k*sz≤rows.length*sz:=Nat.mul_le_mul_right _ hk
 refine⟨by rw[List.length_take,List.length_take,Nat.min_eq_left hk];omega,fun row hr=>h.len row (List.mem_of_mem_take hr),fun i row hi j d hj=>?_⟩
 rw[List.getElem?_take]at hi
 split at hi
 ·rename_i hik
  obtain⟨u,hu,hd⟩:=h.get i row hi j d hj
  have hj':j<sz:=by rw[←h.len row (List.mem_of_getElem? hi)];exact(List.getElem?_eq_some_iff.1 hj).1
  have:i*sz+sz≤k*sz:=by have:=Nat.mul_le_mul_right sz hik;rw[Nat.succ_mul]at this;exact this
  exact⟨u,by rw[List.getElem?_take,if_pos (by omega)];exact hu,hd⟩
 ·cases hi
def wrK(s:St)(sz:Nat)(cx:C)(len':Nat)(new:List (List D))(K:List (Nat×Blk)→Prop):Prop:=
 match cx with
 | .own id ep off _ _=>match hp s.heap id with
   |some (.arr e sz' rows)=>ep=e∧sz'=sz∧off≤rows.length∧K [(id,.arr ep sz (splice rows off (new.take len')))]
   |_=>False
 |_=>False
theorem wrK_sound(h:SRel n φ F s a w){x:Operand}{x':O}(hx:cO x=some x'){id ep off len:Nat}{cap:Option Nat}(hcx:s.evC x'=some (.own id ep off len cap)){sz:Nat}
 {vs:List Value} {new:List (List D)} (hvs:RowsAt w F vs 0 sz new) (hvl:vs.length=new.length*sz) {L:List (Nat×Blk)→Prop} {len':Nat} (hl:len'=new.length) (hnl:new.length≤len)
 (hk:wrK s sz (.own id ep off len cap) len' new L):
 ∃A k w' wr,a.eval x= .slice A len k∧L wr∧(match A with|some b=>(storeCells b vs).run P w= .ok () w'|none=>w'=w∧len=0)∧
  ∀(v:Value) (val:Option AV) (K:Out→Prop),Fw.isCell v=true∨val=none→(val=none∨∃u,u=v∧val=some (.one (.c (.d (.v u)))))→K ⟨val,wr⟩→OpRes φ F s w K v w':=by
 obtain⟨e1,sz1,rows,hG,hle,A,l,k,hx2,hA⟩:=evC_rep h hx hcx
 simp only[wrK,hG]at hk
 obtain⟨rfl,rfl,hoff,hk⟩:=hk
 obtain⟨rfl,g1,g2,g3,g4⟩:=hA rfl
 subst hl
 rw[List.take_of_length_le (Nat.le_refl _)]at hk
 have hv:∀{φ F G w'} {v:Value} {val:Option AV},Fw.isCell v=true∨val=none→(val=none∨∃u,u=v∧val=some (.one (.c (.d (.v u)))))→∀av,val=some av→AVRep φ F G w' av v:=by
  intro φ F G w' v val hc hval av hav
  rcases hval with rfl|⟨u,rfl,rfl⟩
  ·cases hav
  ·cases hav
   rcases hc with hc|hc
   ·exact DRep.v _ hc
   ·cases hc
 rcases g4 with g4|⟨b,o',m,hφ,rfl,hm,hle2⟩
 ·have hl0:l=0:=by omega
  have hn:new=[]:=List.length_eq_zero_iff.1 (by omega)
  subst hn
  have hvn:vs=[]:=List.length_eq_zero_iff.1 (by simpa using hvl)
  subst hvn
  refine⟨A,k,w,_,hx2,hk,?_,?_⟩
  ·cases A with
   |none=>exact⟨rfl,hl0⟩
   |some b=>rfl
  ·intro v val K hc hval hK
   have hup:upd φ id (φ id)=φ:=by funext j;by_cases hj:j=id<;>simp[upd,hj]
   have hupG:upd (hp s.heap) id (some (Blk.arr ep sz1 (splice rows off [])))=hp s.heap:=by
    rw[splice_nil,←hG];funext j;by_cases hj:j=id<;>simp[upd,hj]
   refine OpRes.change id (φ id) _ hK h.rel (Nat.le_refl _) (Io.refl _) (fun _ _ _=>rfl) (fun b o hx=> .inl ⟨o,hx⟩) ?_ ?_ ?_
   ·rw[hG,hup,splice_nil];exact BStp.refl φ w id (some (.arr ep sz1 rows))
   ·intro _;rw[hup,hupG,splice_nil];exact h.rel.blk _ _ hG
   ·intro stp;exact hv hc hval
 ·have e4:new.length*sz1≤k*sz1:=Nat.mul_le_mul_right _ (by omega)
  obtain⟨w',cs,T,hst,hsz,hrest,hblk,hcl,hR,hio⟩:=write_rows (P:=P) h.rel hG hφ hvs hvl hoff hm (by omega)
  refine⟨_,k,w',_,hx2,hk,hst,?_⟩
  intro v val K hc hval hK
  have hup:upd φ id (some (b,o'))=φ:=by funext j;by_cases hj:j=id<;>simp[upd,hj,hφ]
  refine OpRes.change id (some (b,o')) _ hK h.rel (by rw[hsz];exact Nat.le_refl _) hio (fun b2 _ hn=>hrest b2 fun he=>hn o' (he▸hφ)) (fun b2 o2 hx=>by cases hx;exact .inl ⟨o',hφ⟩) ?_ (fun stp=>(hR.mono stp.frz).brep (upd_same _ _ _) hblk) ?_
  ·rw[hG,hup]
   refine⟨Nat.le_refl _,fun _=>⟨rfl,by simp[splice];omega,rfl,fun b2 o2 hb2=>?_⟩⟩
   rw[hφ]at hb2;cases hb2
   rw[bsize_of_heap hblk,hm];simp[hcl]
  ·intro stp;exact hv hc hval
theorem clip_rep{G:Heap}{c:C}{v:Value}(h:CRep φ F G w c v)(k:Nat):∃v',CRep φ F G w (clipC k c) v'∧∀A l k2,v'= .slice A l k2→∃l0,v= .slice A l0 k2∧min l0 k=min l k:=by
 cases c with
 |own id ep off len cap=>
  obtain⟨e,sz,rows,hG,hle,A,l,k2,rfl,hA⟩:=h
  by_cases he:ep=e
  ·obtain⟨rfl,g1,g2,g3,g4⟩:=hA he
   refine⟨.slice A (min l k) k2,⟨e,sz,rows,hG,hle,A,min l k,k2,rfl,fun _=>⟨rfl,by omega,g2,fun hc=>?_,g4⟩⟩,fun A' l' k' hv=>?_⟩
   ·have:=g3 hc;omega
   ·cases hv;exact⟨l,rfl,by omega⟩
  ·exact⟨.slice A l k2,⟨e,sz,rows,hG,hle,A,l,k2,rfl,fun h=>(he h).elim⟩,fun A' l' k' hv=>⟨l',hv,rfl⟩⟩
 |_=>exact⟨v,h,fun A l k2 hv=>⟨l,hv,rfl⟩⟩
theorem firstCells_len{sz m:Nat}{A:Option Addr}{l l' k:Nat}:Builtin.firstCells sz m (.slice A l k)=Builtin.firstCells sz m (.slice A l' k):=by cases A<;>rfl
theorem copy_sound(h:SRel n φ F s a w){t t2 e e2:TypeId}{x y:Operand}{args:Array Operand}{ts:Array TypeId}(ho:o.op= .call {callee:= .builtin .copy,args,argTypes:=ts})(hargs:args.toList=[x,y])(hts:ts.toList=[t,t2])
 (hu:P.underlying t=some (.slice e)) (hu2:P.underlying t2=some (.slice e2)) {sz:Nat} (hs:szT P e=some sz) {x' y':O} (hx:cO x=some x') (hy:cO y=some y') {id ep off len:Nat} {cap:Option Nat} {cy:C}
 (hcx:s.evC x'=some (.own id ep off len cap)) (hcy:s.evC y'=some cy)
 (hk:rowsC (hp s.heap) sz (clipC len cy) fun new=>wrK s sz (.own id ep off len cap) (min new.length len) (new.take (min new.length len)) fun wr=>K ⟨some (.one (.c (.d (.v (.int .i64 (min new.length len:Nat)))))),wr⟩):OpRun P o a φ F s w K:=by
 obtain rfl:=two_args hargs
 obtain rfl:=two_args hts
 obtain⟨v2,hclip,hcl⟩:=clip_rep (evC_rep h hy hcy) len
 obtain⟨new,vs,A2,l2',k2,hK,hy2',hl2,hlk2,hvl,hfy,hvs⟩:=rowsC_sound (P:=P) h.rel hclip hk
 obtain⟨l2,hy2,hml⟩:=hcl _ _ _ hy2'
 have hmin:min new.length len≤new.length:=Nat.min_le_left _ _
 have hp':=firstCells_prefix hy2' hfy (by rw[hvl,hl2]) (k:=min new.length len) (by omega)
 have hR:=hvs.takeFlat _ hmin
 have hlen1:(new.take (min new.length len)).length=min new.length len:=by simp
 obtain⟨A,k,w',wr,hx2,hL,hst,hres⟩:=wrK_sound (P:=P) h hx hcx hR (by
  rw[hlen1,List.length_take,hvl]
  have:min new.length len*sz≤new.length*sz:=Nat.mul_le_mul_right _ hmin
  omega) hlen1.symm (by rw[hlen1];exact Nat.min_le_right _ _) hK
 refine⟨.int .i64 (min new.length len:Nat),w',.inl ?_,hres _ _ K (.inl rfl) (.inr ⟨_,rfl,rfl⟩) hL⟩
 rw[hy2',firstCells_len (l':=l2)]at hp'
 have key:(Builtin.copy_ #[t,t2] o.type #[.slice A len k,.slice A2 l2 k2]).run P w= .ok (.int .i64 (min new.length len:Nat)) w':=by
  have e0:(#[t,t2]:Array TypeId)[0]? =some t:=rfl
  have e2:(#[Value.slice A len k,.slice A2 l2 k2])[0]? =some (.slice A len k):=rfl
  have e3:(#[Value.slice A len k,.slice A2 l2 k2])[1]? =some (.slice A2 l2 k2):=rfl
  have em:Nat.min l2 len=min new.length len:=by rw[←hl2];exact hml
  simp only[Builtin.copy_,e0,e2,e3,run_bind,run_underlying hu,Builtin.lenOf,run_pure,run_sizeOf hs,em,hp']
  cases A with
  |none=>
   obtain⟨rfl,_⟩:=hst
   rfl
  |some b=>simp only at hst;simp only[hst,goInt,run_bind,run_pure]
 simp only[execOp,ho,resolve,run_bind,run_pure,invoke,builtin,List.map_toArray,List.map_cons,List.map_nil,hx2,hy2,key]
def zrow(z:Value):List D:=z.cells.toList.map fun v=>nrm (.v v)
theorem nrmv_rep{v:Value}(h:isCell v=true):DRep w F (nrm (.v v)) v:=nrm_rep (.v v h)
theorem zeroRows{z:Value}(hz:z.cells.toList.all isCell=true){sz:Nat}(hsz:z.cells.size=sz)(m:Nat):RowsAt w F (Builtin.zeroCells z.cells m).toList 0 sz (List.replicate m (zrow z)):=by
 have hlen:(Builtin.zeroCells z.cells m).toList.length=m*sz:=by rw[Array.length_toList,zeroCells_len,hsz]
 refine⟨by rw[hlen];simp,fun row hr=>by rw[(List.mem_replicate.1 hr).2];simp[zrow,hsz],fun i row hi j d hj=>?_⟩
 rw[List.getElem?_replicate]at hi
 split at hi
 ·rename_i him
  cases hi
  simp only[zrow,List.getElem?_map,Option.map_eq_some_iff]at hj
  obtain⟨v,hv,rfl⟩:=hj
  have hjl:j<sz:=by have:=(List.getElem?_eq_some_iff.1 hv).1;simp only[Array.length_toList]at this;omega
  have him':i*sz+sz≤m*sz:=by have:=Nat.mul_le_mul_right sz him;rw[Nat.succ_mul]at this;exact this
  refine⟨v,?_,nrmv_rep (List.all_eq_true.1 hz v (List.mem_of_getElem? hv))⟩
  simp only[Builtin.zeroCells,Array.toList_map,Array.toList_range,List.getElem?_map,hsz]
  rw[List.getElem?_range (by omega)]
  simp only[Option.map_some,Option.some.injEq,Nat.zero_add]
  have:(i*sz+j)%sz=j:=by rw[Nat.mul_comm,Nat.mul_add_mod];exact Nat.mod_eq_of_lt hjl
  rw[this]
  have h2:z.cells[j]? =some v:=by simpa using hv
  simp[getElem!_def,h2]
 ·cases hi
theorem clear_sound(h:SRel n φ F s a w){t e:TypeId}{x:Operand}{args:Array Operand}{ts:Array TypeId}(ho:o.op= .call {callee:= .builtin .clear,args,argTypes:=ts})(hargs:args.toList=[x])(hts:ts.toList=[t])
 (hu:P.underlying t=some (.slice e)) {sz:Nat} {z:Value} (hz:(P.info? e).bind (·.zero)=some z) (hzl:z.cells.size=sz) (hzc:z.cells.toList.all isCell=true) {x':O} (hx:cO x=some x') {id ep off len:Nat} {cap:Option Nat}
 (hcx:s.evC x'=some (.own id ep off len cap)) (hk:wrK s sz (.own id ep off len cap) len (List.replicate len (zrow z)) fun wr=>K ⟨none,wr⟩):OpRun P o a φ F s w K:=by
 obtain rfl:=one_arg hargs
 obtain rfl:=one_arg hts
 have hR:RowsAt w F (Builtin.zeroCells z.cells len).toList 0 sz (List.replicate len (zrow z)):=zeroRows hzc hzl len
 obtain⟨A,k,w',wr,hx2,hL,hst,hres⟩:=wrK_sound (P:=P) h hx hcx hR (by simp[zeroCells_len,hzl]) (by simp) (by simp) hk
 refine⟨.tuple #[],w',.inl ?_,hres _ none K (.inr rfl) (.inl rfl) hL⟩
 have key:(Builtin.clear_ #[t] o.type #[.slice A len k]).run P w= .ok (.tuple #[]) w':=by
  have e0:(#[t]:Array TypeId)[0]? =some t:=rfl
  have e2:(#[Value.slice A len k])[0]? =some (.slice A len k):=rfl
  simp only[Builtin.clear_,e0,e2,run_bind,run_underlying hu]
  cases A with
  |none=>obtain⟨rfl,_⟩:=hst;simp only[run_pure]
  |some b=>
   simp only at hst
   cases len with
   |zero=>
    have:(Builtin.zeroCells z.cells 0).toList=[]:=by simp[Builtin.zeroCells]
    rw[this,storeCells_nil]at hst
    cases hst;simp only[run_pure]
   |succ len=>simp only[run_bind,run_zeroValue hz,hst,run_pure]
 simp only[execOp,ho,resolve,run_bind,run_pure,invoke,builtin,List.map_toArray,List.map_cons,List.map_nil,hx2,key]
theorem mk_sound(h:SRel n φ F s a w){t e:TypeId}{x y:Operand}(ho:o.op= .makeSlice t x y)(hu:P.underlying t=some (.slice e)){sz bytes:Nat}(hs:szT P e=some sz)(hb:(P.info? e).map (·.bytes)=some bytes)(hbl:bytes≤16384)
 {z:Value} (hz:(P.info? e).bind (·.zero)=some z) (hzl:z.cells.size=sz) (hzc:z.cells.toList.all isCell=true) {x' y':O} (hx:cO x=some x') (hy:cO y=some y') {k1 k2:IntKind} {l c:Nat} (hcx:s.evV x'=some (.int k1 l)) (hcy:s.evV y'=some (.int k2 c))
 (hlc:l≤c) (hc:c≤4294967296) (hk:K ⟨some (.one (.c (.own s.heap.length 0 0 l none))),[(s.heap.length,.arr 0 sz (List.replicate l (zrow z)))]⟩):OpRun P o a φ F s w K:=by
 have h1:=evV_rep h hx hcx
 have h2:=evV_rep h hy hcy
 obtain⟨i,hi,hib⟩:=Option.map_eq_some_iff.1 hb
 have hR:RowsAt w F (Builtin.zeroCells z.cells c).toList 0 sz (List.replicate c (zrow z)):=zeroRows hzc hzl c
 have hR2:=hR.take l
 have:(List.replicate c (zrow z)).take l=List.replicate l (zrow z):=by simp[hlc]
 rw[this]at hR2
 have hlenc:(Builtin.zeroCells z.cells c).toList.length=c*sz:=by rw[Array.length_toList,zeroCells_len,hzl]
 have hres:=OpRes.fresh (K:=K) (id:=s.heap.length) (e':=0) (off':=0) (len:=l) (k:=c) (T:=e) (w':={w with heap:=w.heap.push (.cells (Builtin.zeroCells z.cells c) e (0,0))}) h.rel (.inl (hp_len _)) hR2 (by simp) hlc (by rw[hlenc];omega) (by simp) (Io.push rfl rfl rfl) hk
 refine⟨_,_,.inl ?_,hres⟩
 refine exec_v (x:=Instr.makeSlice t (a.eval x) (a.eval y)) (by simp only[execOp,ho]) ?_
 have w1:IntKind.i64.wrap (l:Int)=l:=by simp[IntKind.wrap,IntKind.bits,IntKind.signed];omega
 have w2:IntKind.i64.wrap (c:Int)=c:=by simp[IntKind.wrap,IntKind.bits,IntKind.signed];omega
 have hbc:(bytes:Int)*c≤16384*4294967296:=by
  have h0:bytes*c≤16384*4294967296:=Nat.mul_le_mul hbl hc
  rw[←Int.natCast_mul];omega
 simp only[Instr.makeSlice,run_bind,run_underlying hu,h1,h2,asInt,asIntOf,run_pure,run_typeInfo hi,w1,w2,hib]
 rw[if_neg (by
  simp only[Bool.or_eq_true,decide_eq_true_eq,not_or]
  refine⟨⟨⟨by omega,by omega⟩,by omega⟩,by omega⟩)]
 have hask:∀(m:Nat) (w:World),(askRoom m).run P w= .ok () w:=by
  intro m w;unfold askRoom;split<;>rfl
 simp only[run_bind,hask,run_sizeOf hs,Int.toNat_natCast]
 by_cases h0:c*sz=0
 ·simp only[h0,if_true,run_pure,newRow,run_bind,run_newObj]
  have:Builtin.zeroCells z.cells c= #[]:=by
   apply Array.eq_empty_of_size_eq_zero;rw[zeroCells_len,hzl];exact h0
  rw[this,Nat.zero_mul,show(Array.range 0)= #[]from rfl,List.map_toArray,List.map_nil]
 ·simp only[h0,if_false,run_bind,run_zeroValue hz,run_pure,newRow,run_newObj]
  congr 3
  ·simp
  ·congr 2
   simp only[Builtin.zeroCells,hzl]
theorem appz_sound(h:SRel n φ F s a w){t t2 e:TypeId}{kk:IntKind}{x y:Operand}{args:Array Operand}{ts:Array TypeId}(ho:o.op= .call {callee:= .builtin .append,args,argTypes:=ts})(hargs:args.toList=[x,y])(hts:ts.toList=[t,t2])
 (hu:P.underlying t=some (.slice e)) (hu2:P.underlying t2=some (.int kk)) {sz bytes:Nat} (hs:szT P e=some sz) (hb:(P.info? e).map (·.bytes)=some bytes) (hbl:bytes≤16384)
 {z:Value} (hz:(P.info? e).bind (·.zero)=some z) (hzl:z.cells.size=sz) (hzc:z.cells.toList.all isCell=true) {x' y':O} (hx:cO x=some x') (hy:cO y=some y') {cx:C} {k3:IntKind} {l:Int} (hcx:s.evC x'=some cx) (hcy:s.evV y'=some (.int k3 l))
 (h0:0≤l) (hl:l≤4294967296) (hk:appK s sz cx (List.replicate l.toNat (zrow z)) K):OpRun P o a φ F s w K:=by
 obtain⟨m,rfl⟩:=Int.eq_ofNat_of_zero_le h0
 have hm:m≤4294967296:=by omega
 rw[Int.toNat_natCast]at hk
 have h2:a.eval y= .int k3 m:=evV_rep h hy hcy
 refine app_core (e:=e) h ho hargs hts hx hcx h2 (l2:=m) (by simp) (vs:=(Builtin.zeroCells z.cells m).toList) (by simp[zeroCells_len,hzl]) (zeroRows hzc hzl m)
  (fun hroom hst=>run_appz_room hu hu2 hs hb hbl hz hzl hm hroom hst) (fun hroom hmax hlk hus hfold=>run_appz_grow hu hu2 hs hb hbl hz hzl hm hroom hmax hlk hus hfold) hk
end
end Go.Fw
namespace Go.Fw
section
variable {P:Program}
def opA(P:Program)(op:AOp)(s:St)(K:Out→Prop):Prop:=
 match op with
 | .call f args=>evs s args fun as=>CallO P f as s K
 | .callv g args=>match s.evC g with
   |some (.fn f cs)=>evs s args fun as=>CallO P f (as++cs.map fun c=> .c (.pt c.1 c.2)) s K
   |_=>False
 | .app sz _ x y=>match s.evC x,s.evC y with
   |some cx,some cy=>rowsC (hp s.heap) sz cy fun new=>appK s sz cx new K
   |_,_=>False
 | .appz sz _ zero x y=>match s.evC x,s.evV y with
   |some cx,some (.int _ l)=>0≤l∧l≤4294967296∧appK s sz cx (List.replicate l.toNat zero) K
   |_,_=>False
 | .copy sz x y=>match s.evC x,s.evC y with
   |some (.own id ep off len cap),some cy=>rowsC (hp s.heap) sz (clipC len cy) fun new=>
     wrK s sz (.own id ep off len cap) (min new.length len) (new.take (min new.length len)) fun wr=>K ⟨some (.one (.c (.d (.v (.int .i64 (min new.length len:Nat)))))),wr⟩
   |_,_=>False
 | .clear sz zero x=>match s.evC x with
   |some (.own id ep off len cap)=>wrK s sz (.own id ep off len cap) len (List.replicate len zero) fun wr=>K ⟨none,wr⟩
   |_=>False
 | .mk sz _ zero l c=>match s.evV l,s.evV c with
   |some (.int _ l),some (.int _ c)=>0≤l∧l≤c∧c≤4294967296∧
     K ⟨some (.one (.c (.own s.heap.length 0 0 l.toNat none))),[(s.heap.length,.arr 0 sz (List.replicate l.toNat zero))]⟩
   |_,_=>False
 |op=>op0 op s K
def AOp.is0:AOp→Bool
 | .call .. | .callv .. | .app .. | .appz .. | .copy .. | .clear .. | .mk .. =>false
 |_=>true
def zOf(P:Program)(e:TypeId):Option Value:=(P.info? e).bind (·.zero)
def bytesOf(P:Program)(e:TypeId):Option Nat:=(P.info? e).map (·.bytes)
def okElem(P:Program)(e:TypeId):Option (Nat×Nat×List D):=
 match szT P e,bytesOf P e,zOf P e with
 |some sz,some bytes,some z=>if z.cells.size=sz∧bytes≤16384∧z.cells.toList.all isCell=true then some (sz,bytes,zrow z)else none
 |_,_,_=>none
def cOp(P:Program)(op:Op):Option AOp:=
 match op with
 | .call {callee:= .value (.func f),args,..}=>(cOs args.toList).map (.call f)
 | .call {callee:= .value g,args,..}=>(cO g).bind fun g=>(cOs args.toList).map (.callv g)
 | .call {callee:= .builtin .append,args,argTypes}=>match args.toList,argTypes.toList with
   |[x,y],[t,t2]=>match P.underlying t,P.underlying t2 with
    |some (.slice e),some (.slice _)=>(okElem P e).bind fun z=>(cO x).bind fun a=>(cO y).map fun b=> .app z.1 z.2.1 a b
    |some (.slice e),some (.int _)=>(okElem P e).bind fun z=>(cO x).bind fun a=>(cO y).map fun b=> .appz z.1 z.2.1 z.2.2 a b
    |_,_=>none
   |_,_=>none
 | .call {callee:= .builtin .copy,args,argTypes}=>match args.toList,argTypes.toList with
   |[x,y],[t,t2]=>match P.underlying t,P.underlying t2 with
    |some (.slice e),some (.slice _)=>(szT P e).bind fun sz=>(cO x).bind fun a=>(cO y).map fun b=> .copy sz a b
    |_,_=>none
   |_,_=>none
 | .call {callee:= .builtin .clear,args,argTypes}=>match args.toList,argTypes.toList with
   |[x],[t]=>match P.underlying t with
    |some (.slice e)=>(okElem P e).bind fun z=>(cO x).map fun a=> .clear z.1 z.2.2 a
    |_=>none
   |_,_=>none
 | .makeSlice t l c=>match P.underlying t with
   |some (.slice e)=>(okElem P e).bind fun z=>(cO l).bind fun a=>(cO c).map fun b=> .mk z.1 z.2.1 z.2.2 a b
   |_=>none
 |op=>(cOp0 P op).bind fun a=>if a.is0 then some a else none
variable {o:Oper} {a:Act} {φ:Phi} {F:Nat→Prop} {s:St} {w:World} {K:Out→Prop} {n:Nat}
theorem okElem_parts{e:TypeId}{z:Nat×Nat×List D}(h:okElem P e=some z):szT P e=some z.1∧(P.info? e).map (·.bytes)=some z.2.1∧∃zv,(P.info? e).bind (·.zero)=some zv∧zv.cells.size=z.1∧z.2.1≤16384∧zv.cells.toList.all isCell=true∧z.2.2=zrow zv:=by
 unfold okElem at h
 split at h
 ·rename_i sz bytes zv h1 h2 h3
  split at h
  ·rename_i hc
   cases h
   exact⟨h1,h2,zv,h3,hc.1,hc.2.1,hc.2.2,rfl⟩
  ·cases h
 ·cases h
def OpWp(P:Program)(o:Oper)(a:Act)(φ:Phi)(F:Nat→Prop)(s:St)(w:World)(K:Out→Prop):Prop:=
 ∀Q,o.wp P a w (fun a' w'=>∃v,a'=a.put o.dst v∧OpRes φ F s w K v w') Q
theorem OpRun.wp(h:OpRun P o a φ F s w K):OpWp P o a φ F s w K:=by
 intro Q
 obtain⟨v,w',hr|⟨hr,rfl⟩,hres⟩:=h
 ·unfold Oper.wp;rw[hr];exact⟨v,rfl,hres⟩
 ·unfold Oper.wp;rw[hr];exact⟨undef,rfl,hres⟩
theorem enter_wp{f:FuncId}{as:List A1}{vs:Array Value}(h:SRel n φ F s a w)(hr:(execOp a.eval o).run P w=(callFunc f vs).run P w)(hA:All2 (A1Rep φ F (hp s.heap) w) as vs.toList)(hk:CallO P f as s K):
 OpWp P o a φ F s w K:=by
 intro Q
 unfold Oper.wp
 rw[hr]
 have:=hk φ F w vs.toList h.rel hA
 simp only[Array.toArray_toList]at this
 rcases this with⟨hok,hc⟩|⟨v,w',hc,hres⟩
 ·rw[run_callFunc hok]
  refine hc.mono ?_
  rintro e w' ⟨v,rfl,hres⟩
  exact⟨v,rfl,hres⟩
 ·rw[hc]
  exact⟨v,rfl,hres⟩
theorem call_sound(h:SRel n φ F s a w){f:FuncId}{args:Array Operand}{ts:Array TypeId}(ho:o.op= .call {callee:= .value (.func f),args,argTypes:=ts}){os:List O}(hos:cOs args.toList=some os)
 (hk:evs s os fun as=>CallO P f as s K):OpWp P o a φ F s w K:=by
 obtain⟨as,hk,hA⟩:=evs_sound h hos hk
 refine enter_wp (vs:=args.map a.eval) h ?_ (by simpa using hA) hk
 simp only[execOp,ho,resolve,Act.eval,Deferred.ofValue,run_bind,run_pure,invoke]
 have:(#[]:Array Value)++args.map a.eval++ #[]=args.map a.eval:=by simp
 rw[this]
theorem callv_sound(h:SRel n φ F s a w){g:Operand}{args:Array Operand}{ts:Array TypeId}(ho:o.op= .call {callee:= .value g,args,argTypes:=ts}){g':O}(hg:cO g=some g'){os:List O}(hos:cOs args.toList=some os)
 {f:FuncId} {cs:List (Nat×Nat)} (hgv:s.evC g'=some (.fn f cs)) (hk:evs s os fun as=>CallO P f (as++cs.map fun c=> .c (.pt c.1 c.2)) s K):OpWp P o a φ F s w K:=by
 obtain⟨as,hk,hA⟩:=evs_sound h hos hk
 obtain⟨us,hval,hlen,hus⟩:=evC_rep h hg hgv
 have hcaps:All2 (A1Rep φ F (hp s.heap) w) (cs.map fun c=>A1.c (.pt c.1 c.2)) us:=by
  refine All2.of (by simpa using hlen.symm) fun i x y hx hy=>?_
  rw[List.getElem?_map,Option.map_eq_some_iff]at hx
  obtain⟨c,hc,rfl⟩:=hx
  obtain⟨cells,b,o',hG,hφ,hu⟩:=hus i c hc
  rw[hy]at hu;cases hu
  exact⟨cells,b,o',hG,hφ,rfl⟩
 refine enter_wp (vs:=args.map a.eval++us.toArray) h ?_ (by simpa using hA.append hcaps) hk
 simp only[execOp,ho,resolve,hval,Deferred.ofValue,run_bind,run_pure,invoke]
 have:(#[]:Array Value)++args.map a.eval=args.map a.eval:=by simp
 rw[this]
theorem is0_shape{aop:AOp}(hc:aop.is0=true)(s:St)(K:Out→Prop):opA P aop s K=op0 aop s K:=by
 cases aop<;>first|rfl|cases hc
theorem opA_sound(h:SRel n φ F s a w){aop:AOp}(hc:cOp P o.op=some aop)(hk:opA P aop s K):OpWp P o a φ F s w K:=by
 unfold cOp at hc
 split at hc
 ·rename_i f args ts ho
  rw[Option.map_eq_some_iff]at hc
  obtain⟨os,hos,rfl⟩:=hc
  exact call_sound h ho hos hk
 ·rename_i g args ts _ ho
  rw[Option.bind_eq_some_iff]at hc
  obtain⟨g',hg,hc⟩:=hc
  rw[Option.map_eq_some_iff]at hc
  obtain⟨os,hos,rfl⟩:=hc
  simp only[opA]at hk
  split at hk
  ·rename_i f cs hf
   exact callv_sound h ho hg hos hf hk
  ·exact hk.elim
 ·rename_i args ts ho
  split at hc
  ·rename_i x y t t2 hargs hts
   split at hc
   ·rename_i e e2 hu hu2
    simp only[Option.map_eq_some_iff,Option.bind_eq_some_iff]at hc
    obtain⟨z,hz,x',hx,y',hy,rfl⟩:=hc
    obtain⟨h1,h2,zv,h3,h4,h5,h6,h7⟩:=okElem_parts hz
    simp only[opA]at hk
    split at hk
    ·rename_i cx cy hcx hcy
     exact OpRun.wp (app_sound h ho hargs hts hu hu2 h1 h2 h5 h3 h4 hx hy hcx hcy hk)
    ·exact hk.elim
   ·rename_i e kk hu hu2
    simp only[Option.map_eq_some_iff,Option.bind_eq_some_iff]at hc
    obtain⟨z,hz,x',hx,y',hy,rfl⟩:=hc
    obtain⟨h1,h2,zv,h3,h4,h5,h6,h7⟩:=okElem_parts hz
    simp only[opA]at hk
    split at hk
    ·rename_i cx k3 l hcx hcy
     rw[h7]at hk
     exact OpRun.wp (appz_sound h ho hargs hts hu hu2 h1 h2 h5 h3 h4 h6 hx hy hcx hcy hk.1 hk.2.1 hk.2.2)
    ·exact hk.elim
   ·cases hc
  ·cases hc
 ·rename_i args ts ho
  split at hc
  ·rename_i x y t t2 hargs hts
   split at hc
   ·rename_i e e2 hu hu2
    simp only[Option.map_eq_some_iff,Option.bind_eq_some_iff]at hc
    obtain⟨sz,hs,x',hx,y',hy,rfl⟩:=hc
    simp only[opA]at hk
    split at hk
    ·rename_i id ep off len cap cy hcx hcy
     exact OpRun.wp (copy_sound h ho hargs hts hu hu2 hs hx hy hcx hcy hk)
    ·exact hk.elim
   ·cases hc
  ·cases hc
 ·rename_i args ts ho
  split at hc
  ·rename_i x t hargs hts
   split at hc
   ·rename_i e hu
    simp only[Option.map_eq_some_iff,Option.bind_eq_some_iff]at hc
    obtain⟨z,hz,x',hx,rfl⟩:=hc
    obtain⟨h1,h2,zv,h3,h4,h5,h6,h7⟩:=okElem_parts hz
    simp only[opA,h7]at hk
    split at hk
    ·rename_i id ep off len cap hcx
     exact OpRun.wp (clear_sound h ho hargs hts hu h3 h4 h6 hx hcx hk)
    ·exact hk.elim
   ·cases hc
  ·cases hc
 ·rename_i t l c ho
  split at hc
  ·rename_i e hu
   simp only[Option.map_eq_some_iff,Option.bind_eq_some_iff]at hc
   obtain⟨z,hz,x',hx,y',hy,rfl⟩:=hc
   obtain⟨h1,h2,zv,h3,h4,h5,h6,h7⟩:=okElem_parts hz
   simp only[opA,h7]at hk
   split at hk
   ·rename_i k1 l k2 c hcx hcy
    obtain⟨q1,q2,q3,hk⟩:=hk
    obtain⟨l,rfl⟩:=Int.eq_ofNat_of_zero_le q1
    obtain⟨c,rfl⟩:=Int.eq_ofNat_of_zero_le (Int.le_trans q1 q2)
    exact OpRun.wp (mk_sound h ho hu h1 h2 h5 h3 h4 h6 hx hy hcx hcy (by omega) (by omega) (by simpa using hk))
   ·exact hk.elim
  ·cases hc
 ·rw[Option.bind_eq_some_iff]at hc
  obtain⟨aop',hc,hif⟩:=hc
  split at hif
  ·rename_i h0
   cases hif
   rw[is0_shape h0]at hk
   exact OpRun.wp (op0_sound h hc hk)
  ·cases hif
end
end Go.Fw
