/- Calls, appends, and the rest of the operations. -/
import Derived.Test.YtojbebejhgbfeaaGreatFA
open Option renaming map_eq_some_iff->XC,bind_eq_some_iff->XD,some->XF,none->XG
open List renaming getElem?_eq_some_iff->XH,length_eq_zero_iff->XI,getElem?_eq_getElem->XJ,mem_of_getElem?->XK,replicate->XL,length_take->XM,getElem?_take->XN,length_append->XO,getElem?_drop->XP,getElem?_append->XQ,take_of_length_le->XR,length_drop->XS,getElem?_map->XU,map_toArray->XV,mem_of_mem_take->XW,map_nil->XX,append_assoc->XY,getElem?_append_left->XZ,map_cons->X0,getElem?_eq_none->X1,mem_of_mem_drop->X2,take->X3,all_eq_true->X4,mem_append->X5,length_map->X6,take_take->X7,all_cons->X8
open Go.Builtin renaming firstCells->X9,zeroCells->Ya,append_->Yb,nextslicecap->Yc,lenOf->Yd,growBy->Ye,clear_->Yf,copy_->Yg
open Nat renaming mul_le_mul_right->Yh,add_mul->Yi,le_refl->Yj,mul_le_mul->Yk,min_eq_left->Yl,zero_add->Ym,succ_mul->Yn,add_zero->Yo,zero_le->Yp,le_add_right->Yq,mul_comm->Yr
open Go renaming loadCellsFrom->Ys,TypeId->Yt,Program->Yu,Operand->Yv,World->Yw,storeCells->Yx,FuncId->Yy,execOp->Yz,IntKind->YA,Addr->YB,Oper->YC
open Bool renaming false_eq_true->YD,true->YE,and_eq_true->YF,not_true->YG,false->YH,not_false->YI
open Array renaming length_toList->YJ,eq_empty_of_size_eq_zero->YK,ext'->YL,size_push->YM
open Go.IntKind renaming i64->YN,signed->YO,wrap->YP,bits->YQ
open Int renaming toNat_natCast->YR,eq_ofNat_of_zero_le->YS,natCast_mul->YT
open Go.Value renaming slice->YU
open Option.some renaming injEq->YV
open Go.Result.ok renaming injEq->YW
open Go.World renaming viewLoad->YX,cell?->YY
set_option linter.unusedVariables false
set_option linter.unusedSimpArgs false
set_option linter.unusedSectionVars false
namespace Go.Fw
section
variable {P:Yu} {o:YC} {a:Act} {φ:gP} {F:Nat→Prop} {s:St} {w:Yw} {K:Out→Prop} {n:Nat}
theorem FN(h:dm n φ F s a w){aop:jS}(hc:gQ P o.op=XF aop)(hk:dp aop s K):cc P o a φ F s w K:=by
 cases hop:o.op with
 |move x=>
  rw[hop]at hc;simp only[gQ,XC]at hc
  obtain⟨y,hy,rfl⟩:=hc
  exact G1 h (.inl hop) hy hk
 |assign x=>
  rw[hop]at hc;simp only[gQ,XC]at hc
  obtain⟨y,hy,rfl⟩:=hc
  exact G1 h (.inr hop) hy hk
 |pick c x y=>
  rw[hop]at hc;simp only[gQ,XC,XD]at hc
  obtain⟨c',hc',x',hx',y',hy',rfl⟩:=hc
  exact G0 h hop hc' hx' hy' hk
 |alloc t=>
  rw[hop]at hc;simp only[gQ,XC]at hc
  rw[XD]at hc
  obtain⟨z,hz,hc⟩:=hc
  rw[XC]at hc
  obtain⟨cs,hcs,rfl⟩:=hc
  exact GX h hop hz hcs hk
 |box t x=>
  rw[hop]at hc;simp only[gQ,XC]at hc
  obtain⟨y,hy,rfl⟩:=hc
  exact Lb h hop hy hk
 |build t parts=>
  rw[hop]at hc;simp only[gQ]at hc
  split at hc
  ·rename_i it fields hi hu
   split at hc
   ·rename_i z places hz hpl
    rw[XD]at hc
    obtain⟨cs,hcs,hc⟩:=hc
    rw[XC]at hc
    obtain⟨ps,hps,rfl⟩:=hc
    exact Fz h hop hi hu hz hpl hcs hps hk
   ·cases hc
  ·rename_i it m e hi hu
   split at hc
   ·rename_i z ie hz hie
    rw[XD]at hc
    obtain⟨cs,hcs,hc⟩:=hc
    rw[XC]at hc
    obtain⟨ps,hps,rfl⟩:=hc
    exact Ch h hop hi hu hz hie hcs hps hk
   ·cases hc
  ·cases hc
 |buildSlice t len parts=>
  rw[hop]at hc;simp only[gQ]at hc
  rw[XD]at hc
  obtain⟨e,he,hc⟩:=hc
  rw[XD]at hc
  obtain⟨sz,hs,hc⟩:=hc
  rw[XD]at hc
  obtain⟨os,hos,hc⟩:=hc
  split at hc
  ·rename_i hcond
   cases hc
   simp only[YF,beq_iff_eq,decide_eq_true_eq]at hcond
   exact Ci h hop he hs hos hcond.1.1.1.1 hcond.1.1.1.2 hcond.1.1.2 hcond.2 hk
  ·cases hc
 |load t x=>
  rw[hop]at hc;simp only[gQ,XC,XD]at hc
  obtain⟨m,hm,y,hy,rfl⟩:=hc
  exact G7 h hop hm hy hk
 |store t x y=>
  rw[hop]at hc;simp only[gQ,XC,XD]at hc
  obtain⟨m,hm,x',hx,y',hy,rfl⟩:=hc
  exact Fu h hop hm hx hy hk
 |nilCheck x=>
  rw[hop]at hc;simp only[gQ,XC]at hc
  obtain⟨y,hy,rfl⟩:=hc
  exact yq h hop hy hk
 |fieldAddr t x f=>
  rw[hop]at hc;simp only[gQ]at hc
  split at hc
  ·rename_i fields hu
   split at hc
   ·rename_i fd hf
    split at hc
    ·rename_i k hs
     rw[XC]at hc
     obtain⟨y,hy,rfl⟩:=hc
     exact Cg h hop hu hf hs hy hk
    ·cases hc
   ·cases hc
  ·cases hc
 |field t x f=>
  rw[hop]at hc;simp only[gQ]at hc
  split at hc
  ·rename_i fields hu
   split at hc
   ·rename_i fd hf
    rw[XD]at hc
    obtain⟨m,hm,hc⟩:=hc
    rw[XC]at hc
    obtain⟨y,hy,rfl⟩:=hc
    exact Fy h hop hu hf hm hy hk
   ·cases hc
  ·cases hc
 |indexAddr t x i=>
  rw[hop]at hc;simp only[gQ,XC,XD]at hc
  obtain⟨e,he,sz,hs,x',hx,i',hi,rfl⟩:=hc
  exact Cf h hop he hs hx hi hk
 |index t x i=>
  rw[hop]at hc;simp only[gQ]at hc
  split at hc
  ·rename_i hu
   rw[XD]at hc
   obtain⟨x',hx,hc⟩:=hc
   rw[XC]at hc
   obtain⟨i',hi,rfl⟩:=hc
   exact GZ h hop hu hx hi hk
  ·split at hc
   ·split at hc
    ·rw[XC]at hc
     obtain⟨x',hx,rfl⟩:=hc
     exact hk.elim
    ·cases hc
   ·cases hc
  ·cases hc
 |slice t x lo hi mx=>
  rw[hop]at hc;simp only[gQ]at hc
  split at hc
  ·rename_i hu
   split at hc
   ·simp only[XC,XD]at hc
    obtain⟨x',hx,l',hl,h',hh,rfl⟩:=hc
    exact Ce h hop hu hx hl hh hk
   ·cases hc
  ·rename_i e hu
   split at hc
   ·cases hc
   ·rename_i hmh
    simp only[XC,XD]at hc
    obtain⟨sz,hs,x',hx,l',hl,h',hh,m',hm,rfl⟩:=hc
    refine Fv h hop hu hs hx hl hh hm (fun hmx=>?_) hk
    cases mx with
    |none=>simp at hmx
    |some m=>cases hi with
     |none=>exact(hmh m rfl rfl).elim
     |some _=>rfl
  ·cases hc
 |makeFunc fn first captured=>
  rw[hop]at hc
  cases fn with
  |func f=>
   simp only[gQ]at hc
   split at hc
   ·rename_i hf
    rw[XC]at hc
    obtain⟨l,hl,rfl⟩:=hc
    exact Nd h hop hf hl hk
   ·cases hc
  |_=>simp[gQ]at hc
 |makeMap t r=>
  rw[hop]at hc
  cases r with
  |none=>
   simp only[gQ,YV]at hc
   subst hc
   exact Fx h hop hk
  |some r=>simp[gQ]at hc
 |lookup t m k ok=>
  rw[hop]at hc;simp only[gQ]at hc
  split at hc
  ·rename_i kt et hu
   simp only[XC,XD]at hc
   obtain⟨kd,hkd,z,⟨i,hi,hz⟩,zc,hzc,m',hm,k',hk',rfl⟩:=hc
   exact G5 h hop hu hkd (by rw[hi];exact hz) hzc hm hk' hk
  ·cases hc
 |mapUpdate t m k v=>
  rw[hop]at hc;simp only[gQ]at hc
  split at hc
  ·rename_i kt et hu
   simp only[XC,XD]at hc
   obtain⟨kd,hkd,m',hm,k',hk',v',hv',rfl⟩:=hc
   exact G2 h hop hu hkd hm hk' hv' hk
  ·cases hc
 |extract x i=>
  rw[hop]at hc;simp only[gQ,XC]at hc
  obtain⟨y,hy,rfl⟩:=hc
  exact K9 h hop hy hk
 |binOp op t x y t'=>
  rw[hop]at hc;simp only[gQ,L0]at hc
  split at hc
  ·simp only[XC,XD]at hc
   obtain⟨x',hx,y',hy,rfl⟩:=hc
   exact D9 h hop hx hy hk
  ·simp only[XC,XD]at hc
   obtain⟨x',hx,y',hy,rfl⟩:=hc
   exact D9 h hop hx hy hk
  ·rename_i hu
   split at hc
   ·simp only[XC,XD]at hc
    obtain⟨x',hx,y',hy,rfl⟩:=hc
    exact Ea (neg:=YH) h hop hu hx hy hk
   ·simp only[XC,XD]at hc
    obtain⟨x',hx,y',hy,rfl⟩:=hc
    exact Ea (neg:=YE) h hop hu hx hy hk
   ·cases hc
  ·rename_i e hu
   split at hc
   ·rename_i hn
    split at hc
    ·rw[XC]at hc
     obtain⟨x',hx,rfl⟩:=hc
     exact xy (neg:=YH) h hop hu hn hx hk
    ·rw[XC]at hc
     obtain⟨x',hx,rfl⟩:=hc
     exact xy (neg:=YE) h hop hu hn hx hk
    ·cases hc
   ·cases hc
  ·rename_i fs hu
   split at hc
   ·simp only[XC,XD]at hc
    obtain⟨p,hp,x',hx,y',hy,rfl⟩:=hc
    exact D8 (neg:=YH) h hop hu hp hx hy hk
   ·simp only[XC,XD]at hc
    obtain⟨p,hp,x',hx,y',hy,rfl⟩:=hc
    exact D8 (neg:=YE) h hop hu hp hx hy hk
   ·cases hc
  ·rename_i m e hu
   split at hc
   ·rename_i hie
    split at hc
    ·simp only[XC,XD]at hc
     obtain⟨p,hp,x',hx,y',hy,rfl⟩:=hc
     exact z8 (neg:=YH) h hop hu hie hp hx hy hk
    ·simp only[XC,XD]at hc
     obtain⟨p,hp,x',hx,y',hy,rfl⟩:=hc
     exact z8 (neg:=YE) h hop hu hie hp hx hy hk
    ·cases hc
   ·cases hc
  ·cases hc
 |unOp op t x=>
  rw[hop]at hc
  cases op<;>simp only[gQ,XC]at hc<;>first
   |(obtain⟨x',hx,rfl⟩:=hc;exact K4 h hop hx hk)
   |(obtain⟨x',hx,rfl⟩:=hc;exact K5 h hop hx hk)
   |cases hc
 |range t x=>
  rw[hop]at hc;simp only[gQ]at hc
  split at hc
  ·rw[XC]at hc
   obtain⟨x',hx,rfl⟩:=hc
   exact hk.elim
  ·cases hc
 |next x b=>
  rw[hop]at hc
  cases b with
  |true=>cases hc
  |false=>
   simp only[gQ,XC]at hc
   obtain⟨x',hx,rfl⟩:=hc
   exact hk.elim
 |entry x=>
  rw[hop]at hc
  simp only[gQ,XC]at hc
  obtain⟨x',hx,rfl⟩:=hc
  exact hk.elim
 |convert sT dT x=>
  rw[hop]at hc;simp only[gQ]at hc
  split at hc
  ·rename_i k0 k hs hd
   rw[XC]at hc
   obtain⟨x',hx,rfl⟩:=hc
   exact G9 h hop hs hd hx hk
  ·rename_i k0 hs hd
   rw[XC]at hc
   obtain⟨x',hx,rfl⟩:=hc
   exact G8 h hop hs hd hx hk
  ·cases hc
 |call c=>
  rw[hop]at hc
  obtain⟨callee,args,ts⟩:=c
  cases callee with
  |builtin b=>
   cases b<;>simp only[gQ]at hc<;>first
    |(cases hc;done)
    |skip
   case len=>
    split at hc
    ·rename_i x t hargs hts
     split at hc
     ·rename_i hu
      rw[XC]at hc
      obtain⟨x',hx,rfl⟩:=hc
      exact K8 h hop hargs hts hu hx hk
     ·rename_i hu
      rw[XC]at hc
      obtain⟨x',hx,rfl⟩:=hc
      exact GY h hop hargs hts hu hx hk
     ·rename_i hu
      rw[XC]at hc
      obtain⟨x',hx,rfl⟩:=hc
      exact G3 h hop hargs hts hu hx hk
     ·cases hc
    ·cases hc
   case delete=>
    split at hc
    ·rename_i m k t r hargs hts
     split at hc
     ·rename_i kt et hu
      simp only[XC,XD]at hc
      obtain⟨kd,hkd,m',hm,k',hk',rfl⟩:=hc
      exact G6 h hop hargs hts hu hkd hm hk' hk
     ·cases hc
    ·cases hc
   case cap=>
    split at hc
    ·rename_i x t hargs hts
     split at hc
     ·rename_i hu
      rw[XC]at hc
      obtain⟨x',hx,rfl⟩:=hc
      exact La h hop hargs hts hu hx hk
     ·cases hc
    ·cases hc
   case max=>
    split at hc
    ·rename_i x y hargs
     simp only[XC,XD]at hc
     obtain⟨x',hx,y',hy,rfl⟩:=hc
     exact K7 h hop hargs hx hy hk
    ·cases hc
   case min=>
    split at hc
    ·rename_i x y hargs
     simp only[XC,XD]at hc
     obtain⟨x',hx,y',hy,rfl⟩:=hc
     exact K6 h hop hargs hx hy hk
    ·rename_i x y z r hargs
     simp only[XC,XD]at hc
     obtain⟨x',hx,r',hr,rfl⟩:=hc
     exact G4 h hop hargs hx hr hk
    ·cases hc
  |_=>simp[gQ]at hc
 |_=>rw[hop]at hc;simp[gQ]at hc
end
end Go.Fw
namespace Go.Fw
def C.ff(ρ:Nat→Nat):C→C
 | .d x=> .d x
 | .own id ep off len cap=> .own (ρ id) ep off len cap
 | .pt id off=> .pt (ρ id) off
 | .pe id ep row off=> .pe (ρ id) ep row off
 | .fp cells=> .fp cells
 | .fn f gV=> .fn f (gV.map fun c=>(ρ c.1,c.2))
 | .mref id=> .mref (ρ id)
def A1.ff(ρ:Nat→Nat):A1→A1
 | .c x=> .c (x.ff ρ)
 | .agg cs=> .agg (cs.map (C.ff ρ))
def AV.ff(ρ:Nat→Nat):AV→AV
 | .one a=> .one (a.ff ρ)
 | .tup l=> .tup (l.map (A1.ff ρ))
def bw.ff(ρ:Nat→Nat):bw→bw
 | .box cells=> .box (cells.map (C.ff ρ))
 | .arr ep sz rows=> .arr ep sz rows
 | .map ents=> .map (ents.map fun e=>(e.1,e.2.ff ρ))
def C.live(H:eg):C→Prop
 | .own id _ _ _ _=>H id≠XG
 | .pt id _=>H id≠XG
 | .pe id _ _ _=>H id≠XG
 | .fn _ gV=>∀c∈gV,H c.1≠XG
 | .mref id=>H id≠XG
 |_=>True
def A1.live(H:eg):A1→Prop
 | .c x=>x.live H
 | .agg cs=>∀c∈cs,c.live H
def bw.live(H:eg):bw→Prop
 | .box cells=>∀c∈cells,c.live H
 | .arr .. =>True
 | .map ents=>∀e∈ents,e.2.live H
structure KJ(ρ:Nat→Nat)(H G:eg):Prop where
 at_:∀k bZ,H k=XF bZ→G (ρ k)=XF (bZ.ff ρ)
 inj:∀i j,H i≠XG→H j≠XG→ρ i=ρ j→i=j
 live:∀k bZ,H k=XF bZ→bZ.live H
def down(ρ:Nat→Nat)(H:eg)(φ:gP):gP:=fun k=>(H k).bind fun _=>φ (ρ k)
theorem eU{ρ H φ k x}(h:down ρ H φ k=XF x):H k≠XG∧φ (ρ k)=XF x:=by
 unfold down at h
 cases hk:H k with
 |none=>rw[hk]at h;cases h
 |some b=>rw[hk]at h;exact⟨by simp,h⟩
theorem fF{ρ H φ k}(h:H k≠XG):down ρ H φ k=φ (ρ k):=by
 unfold down
 cases hk:H k with
 |none=>exact(h hk).elim
 |some b=>rfl
theorem dA.down{ρ H G φ F w}(he:KJ ρ H G){c:C}{v:Value}(hl:c.live H)(h:dA φ F G w (c.ff ρ) v):dA (down ρ H φ) F H w c v:=by
 cases c with
 |d x=>exact h
 |own id ep off len cap=>
  obtain⟨e,sz,rows,hG,hle,A,l,k,rfl,hk⟩:=h
  cases hH:H id with
  |none=>exact(hl hH).elim
  |some bZ=>
   have:=he.at_ id bZ hH
   rw[hG]at this
   cases bZ with
   |box cells=>simp[bw.ff]at this
   |map ents=>simp[bw.ff]at this
   |arr e' sz' rows'=>
    simp only[bw.ff,YV,bw.arr.injEq]at this
    obtain⟨rfl,rfl,rfl⟩:=this
    refine⟨e,sz,rows,hH,hle,A,l,k,rfl,fun h0=>?_⟩
    obtain⟨h1,h2,h3,h4,h5⟩:=hk h0
    refine⟨h1,h2,h3,h4,?_⟩
    rw[fF hl];exact h5
 |pt id off=>
  obtain⟨cells,b,o,hG,hφ,rfl⟩:=h
  cases hH:H id with
  |none=>exact(hl hH).elim
  |some bZ=>
   have:=he.at_ id bZ hH
   rw[hG]at this
   cases bZ with
   |arr e' sz' rows'=>simp[bw.ff]at this
   |map ents=>simp[bw.ff]at this
   |box cells'=>exact⟨cells',b,o,hH,by rw[fF hl];exact hφ,rfl⟩
 |pe id ep row off=>
  obtain⟨e,sz,rows,hG,hle,A,rfl,hk⟩:=h
  cases hH:H id with
  |none=>exact(hl hH).elim
  |some bZ=>
   have:=he.at_ id bZ hH
   rw[hG]at this
   cases bZ with
   |box cells=>simp[bw.ff]at this
   |map ents=>simp[bw.ff]at this
   |arr e' sz' rows'=>
    simp only[bw.ff,YV,bw.arr.injEq]at this
    obtain⟨rfl,rfl,rfl⟩:=this
    refine⟨e,sz,rows,hH,hle,A,rfl,fun h0=>?_⟩
    obtain⟨b,o,h1,h2,h3⟩:=hk h0
    exact⟨b,o,by rw[fF hl];exact h1,h2,h3⟩
 |fp cells=>exact h
 |fn f gV=>
  obtain⟨us,rfl,hlen,hk⟩:=h
  refine⟨us,rfl,by simpa using hlen,fun j c hj=>?_⟩
  obtain⟨cells,b,o,hG,hφ,hu⟩:=hk j (ρ c.1,c.2) (by simp[hj])
  have hlc:=hl c (XK hj)
  cases hH:H c.1 with
  |none=>exact(hlc hH).elim
  |some bZ=>
   have:=he.at_ c.1 bZ hH
   rw[hG]at this
   cases bZ with
   |arr e' sz' rows'=>simp[bw.ff]at this
   |map ents=>simp[bw.ff]at this
   |box cells'=>exact⟨cells',b,o,rfl,by rw[fF hlc];exact hφ,hu⟩
 |mref id=>
  obtain⟨ents,b,hG,hφ,rfl⟩:=h
  cases hH:H id with
  |none=>exact(hl hH).elim
  |some bZ=>
   have:=he.at_ id bZ hH
   rw[hG]at this
   cases bZ with
   |arr e' sz' rows'=>simp[bw.ff]at this
   |box cells=>simp[bw.ff]at this
   |map ents'=>exact⟨ents',b,hH,by rw[fF hl];exact hφ,rfl⟩
theorem dA.up{ρ H G φ φ' F w}(ha:∀k bZ,H k=XF bZ→G (ρ k)=XF (bZ.ff ρ))(hφ:∀k,H k≠XG→φ' (ρ k)=φ k){c:C}{v:Value}(h:dA φ F H w c v):dA φ' F G w (c.ff ρ) v:=by
 cases c with
 |d x=>exact h
 |own id ep off len cap=>
  obtain⟨e,sz,rows,hG,hle,A,l,k,rfl,hk⟩:=h
  refine⟨e,sz,rows,ha _ _ hG,hle,A,l,k,rfl,fun h0=>?_⟩
  obtain⟨h1,h2,h3,h4,h5⟩:=hk h0
  exact⟨h1,h2,h3,h4,by rw[hφ id (by simp[hG])];exact h5⟩
 |pt id off=>
  obtain⟨cells,b,o,hG,h1,rfl⟩:=h
  exact⟨_,b,o,ha _ _ hG,by rw[hφ id (by simp[hG])];exact h1,rfl⟩
 |pe id ep row off=>
  obtain⟨e,sz,rows,hG,hle,A,rfl,hk⟩:=h
  refine⟨e,sz,rows,ha _ _ hG,hle,A,rfl,fun h0=>?_⟩
  obtain⟨b,o,h1,h2,h3⟩:=hk h0
  exact⟨b,o,by rw[hφ id (by simp[hG])];exact h1,h2,h3⟩
 |fp cells=>exact h
 |fn f gV=>
  obtain⟨us,rfl,hlen,hk⟩:=h
  refine⟨us,rfl,by simpa using hlen,fun j c hj=>?_⟩
  rw[XU,XC]at hj
  obtain⟨c0,hj,rfl⟩:=hj
  obtain⟨cells,b,o,hG,h1,hu⟩:=hk j c0 hj
  exact⟨_,b,o,ha _ _ hG,by rw[hφ c0.1 (by simp[hG])];exact h1,hu⟩
 |mref id=>
  obtain⟨ents,b,hG,h1,rfl⟩:=h
  exact⟨_,b,ha _ _ hG,by rw[hφ id (by simp[hG])];exact h1,rfl⟩
theorem bX.l8{α β γ:Type}{R:α→β→Prop}{S:γ→β→Prop}{f:γ→α}{l:List γ}{m:List β}(h:bX R (l.map f) m)(hf:∀c∈l,∀b,R (f c) b→S c b):bX S l m:=by
 induction l generalizing m with
 |nil=>cases h;exact .nil
 |cons x l ih=>
  cases h with
  |cons hx h=>exact .cons (hf x (by simp) _ hx) (ih h fun c hc=>hf c (by simp[hc]))
theorem bX.jN{α β γ:Type}{R:α→β→Prop}{S:γ→β→Prop}{f:γ→α}{l:List γ}{m:List β}(h:bX S l m)(hf:∀c b,S c b→R (f c) b):bX R (l.map f) m:=by
 induction h with
 |nil=>exact .nil
 |cons x _ ih=>exact .cons (hf _ _ x) ih
theorem cm.down{ρ H G φ F w}(he:KJ ρ H G){c:A1}{v:Value}(hl:c.live H)(h:cm φ F G w (c.ff ρ) v):cm (Fw.down ρ H φ) F H w c v:=by
 cases c with
 |c x=>exact dA.down he hl h
 |agg cs=>obtain⟨vs,rfl,h⟩:=h;exact⟨vs,rfl,bX.l8 h fun c hc b hb=>dA.down he (hl c hc) hb⟩
theorem cm.up{ρ H G φ φ' F w}(ha:∀k bZ,H k=XF bZ→G (ρ k)=XF (bZ.ff ρ))(hφ:∀k,H k≠XG→φ' (ρ k)=φ k){c:A1}{v:Value}(h:cm φ F H w c v):cm φ' F G w (c.ff ρ) v:=by
 cases c with
 |c x=>exact dA.up ha hφ h
 |agg cs=>obtain⟨vs,rfl,h⟩:=h;exact⟨vs,rfl,bX.jN h fun _ _ hb=>dA.up ha hφ hb⟩
theorem ec.up{ρ H G φ φ' F w}(ha:∀k bZ,H k=XF bZ→G (ρ k)=XF (bZ.ff ρ))(hφ:∀k,H k≠XG→φ' (ρ k)=φ k){c:AV}{v:Value}(h:ec φ F H w c v):ec φ' F G w (c.ff ρ) v:=by
 cases c with
 |one x=>exact cm.up ha hφ h
 |tup cs=>obtain⟨vs,rfl,h⟩:=h;exact⟨vs,rfl,bX.jN h fun _ _ hb=>cm.up ha hφ hb⟩
theorem Rel.down{ρ H G φ F w}(he:KJ ρ H G)(h:Rel φ F G w):Rel (Fw.down ρ H φ) F H w:=by
 refine⟨fun k bZ hk=>?_,fun k x hx=>?_,fun i j b o b' o' hi hj hb=>?_,fun b hb=>⟨(h.fY b hb).1,fun k b' o hk=>(h.fY b hb).2 _ b' o (eU hk).2⟩⟩
 ·have hB:=h.bZ _ _ (he.at_ k bZ hk)
  have hl:H k≠XG:=by simp[hk]
  cases bZ with
  |box cells=>
   obtain⟨b,o,cs,T,h1,h2,h4,h3⟩:=hB
   simp only[X6]at h4 h3
   exact⟨b,o,cs,T,by rw[fF hl];exact h1,h2,h4,bX.l8 h3 fun c hc b hb=>dA.down he (he.live k _ hk c hc) hb⟩
  |arr e sz rows=>
   simp only[bw.ff,kj]at hB⊢
   rw[fF hl];exact hB
  |map ents=>
   obtain⟨b,es,clock,h1,h2,h4,h3⟩:=hB
   exact⟨b,es,clock,by rw[fF hl];exact h1,h2,h4,bX.l8 h3 fun e he' m hm=>⟨hm.1,cm.down he (he.live k _ hk e he') hm.2⟩⟩
 ·cases hk:H k with
  |none=>exact((eU hx).1 hk).elim
  |some b=>simp
 ·obtain⟨l1,h1⟩:=eU hi
  obtain⟨l2,h2⟩:=eU hj
  exact he.inj i j l1 l2 (h.inj _ _ b o b' o' h1 h2 hb)
open Classical in
noncomputable def upφ(ρ:Nat→Nat)(H:eg)(φs φ:gP):gP:=fun i=>
 if h:∃k,H k≠XG∧ρ k=i then φs h.choose else φ i
theorem upφ_in{ρ:Nat→Nat}{H:eg}{φs φ:gP}(hinj:∀i j,H i≠XG→H j≠XG→ρ i=ρ j→i=j){k:Nat}(hk:H k≠XG):upφ ρ H φs φ (ρ k)=φs k:=by
 have h:∃j,H j≠XG∧ρ j=ρ k:=⟨k,hk,rfl⟩
 unfold upφ
 rw[dif_pos h,hinj _ _ h.choose_spec.1 hk h.choose_spec.2]
theorem upφ_out{ρ:Nat→Nat}{H:eg}{φs φ:gP}{i:Nat}(h:∀k,H k≠XG→ρ k≠i):upφ ρ H φs φ i=φ i:=by
 unfold upφ
 rw[dif_neg]
 rintro⟨k,hk,he⟩
 exact h k hk he
theorem frame{ρ ρ':Nat→Nat}{H H' G G':eg}{φ φs':gP}{F F':Nat→Prop}{w w':Yw}(hr:Rel φ F G w)(he:KJ ρ H G)
 (hr':Rel φs' F' H' w') (hs:ix (down ρ H φ) F H w φs' F' H' w') (hf:Fr (down ρ H φ) F w φs' F' w')
 (hρ:∀k,H k≠XG→ρ' k=ρ k) (hinj:∀i j,H' i≠XG→H' j≠XG→ρ' i=ρ' j→i=j)
 (hnew:∀k,H' k≠XG→H k=XG→G (ρ' k)=XG)
 (hG1:∀k bZ,H' k=XF bZ→G' (ρ' k)=XF (bZ.ff ρ')) (hG2:∀i,(∀k,H' k≠XG→ρ' k≠i)→G' i=G i):
 Rel (upφ ρ' H' φs' φ) F' G' w'∧ix φ F G w (upφ ρ' H' φs' φ) F' G' w'∧Fr φ F w (upφ ρ' H' φs' φ) F' w'∧
  (∀k,H' k≠XG→upφ ρ' H' φs' φ (ρ' k)=φs' k):=by
 have hdom:∀k,H k≠XG→H' k≠XG:=by
  intro k hk hn
  have:=hs.bZ k
  cases hH:H k with
  |none=>exact hk hH
  |some b=>rw[hH,hn]at this;cases b<;>exact this.elim
 have hin:∀k,H' k≠XG→upφ ρ' H' φs' φ (ρ' k)=φs' k:=fun k hk=>upφ_in hinj hk
 have hother:∀i b o,(∀k,H' k≠XG→ρ' k≠i)→φ i=XF (b,o)→w'.heap[b]? =w.heap[b]? :=by
  intro i b o hi hφ
  refine hf.rest b (hr.lt hφ) fun k o' hk=>?_
  obtain⟨l,h1⟩:=eU hk
  have:=hr.inj i (ρ k) b o b o' hφ h1 rfl
  exact hi k (hdom k l) ((hρ k l).trans this.symm)
 have gl:ix φ F G w (upφ ρ' H' φs' φ) F' G' w':=by
  refine⟨hs.fY,fun i=>?_⟩
  by_cases hi:∃k,H' k≠XG∧ρ' k=i
  ·obtain⟨k,hk,rfl⟩:=hi
   cases hH':H' k with
   |none=>exact(hk hH').elim
   |some blk'=>
    rw[hG1 k blk' hH']
    cases hH:H k with
    |none=>rw[hnew k hk hH];trivial
    |some bZ=>
     have hl:H k≠XG:=by simp[hH]
     have hb:=hs.bZ k
     rw[hH,hH']at hb
     have hGk:=he.at_ k bZ hH
     rw[←hρ k hl]at hGk
     rw[hGk]
     cases bZ<;>cases blk'<;>simp only[gX,bw.ff]at hb⊢
     ·rw[fF hl,←hρ k hl]at hb
      exact⟨(hin k hk).trans hb.1,by simpa using hb.2.1,by simpa using hb.2.2⟩
     ·refine⟨hb.1,fun h0=>?_⟩
      obtain⟨a1,a2,a3,a4⟩:=hb.2 h0
      rw[fF hl,←hρ k hl]at a3 a4
      exact⟨a1,a2,(hin k hk).trans a3,a4⟩
     ·rw[hin k hk,hb,fF hl,hρ k hl]
  ·have hi':∀k,H' k≠XG→ρ' k≠i:=fun k hk he=>hi ⟨k,hk,he⟩
   rw[hG2 i hi']
   exact gX.same (upφ_out hi') fun b o hb=>hother i b o hi' hb
 refine⟨⟨fun i bZ hi=>?_,fun i x hx=>?_,fun i j b o b' o' hi hj hb=>?_,fun b hb=>⟨(hr'.fY b hb).1,fun i b' o hi=>?_⟩⟩,gl,⟨hf.size,fun b hb hn=>hf.rest b hb fun k o hk=>hn _ o (eU hk).2,fun i b o hi=>?_,fun b hb=>?_,hf.io⟩,hin⟩
 ·by_cases hk:∃k,H' k≠XG∧ρ' k=i
  ·obtain⟨k,hk,rfl⟩:=hk
   cases hH':H' k with
   |none=>exact(hk hH').elim
   |some blk'=>
    have:=hG1 k blk' hH'
    rw[hi]at this;cases this
    have hB:=hr'.bZ k blk' hH'
    cases blk' with
    |box cells=>
     obtain⟨b,o,cs,T,h1,h2,h4,h3⟩:=hB
     exact⟨b,o,cs,T,(hin k hk).trans h1,h2,by simpa using h4,by rw[X6];exact bX.jN h3 fun _ _ hb=>dA.up hG1 hin hb⟩
    |arr e sz rows=>
     simp only[bw.ff,kj]at hB⊢
     rw[hin k hk];exact hB
    |map ents=>
     obtain⟨b,es,clock,h1,h2,h4,h3⟩:=hB
     exact⟨b,es,clock,(hin k hk).trans h1,h2,h4,bX.jN h3 fun _ _ hm=>⟨hm.1,cm.up hG1 hin hm.2⟩⟩
  ·have hi':∀k,H' k≠XG→ρ' k≠i:=fun k hk0 he0=>hk ⟨k,hk0,he0⟩
   rw[hG2 i hi']at hi
   exact kj.mono gl (upφ_out hi') (fun b o hb=>hother i b o hi' hb) (hr.bZ i bZ hi)
 ·by_cases hk:∃k,H' k≠XG∧ρ' k=i
  ·obtain⟨k,hk,rfl⟩:=hk
   cases hH':H' k with
   |none=>exact(hk hH').elim
   |some blk'=>rw[hG1 k blk' hH'];rfl
  ·have hi':∀k,H' k≠XG→ρ' k≠i:=fun k hk0 he0=>hk ⟨k,hk0,he0⟩
   rw[upφ_out hi']at hx
   rw[hG2 i hi'];exact hr.rT i x hx
 ·subst hb
  have mixed:∀k i o o',H' k≠XG→(∀k,H' k≠XG→ρ' k≠i)→φs' k=XF (b,o)→φ i=XF (b,o')→False:=by
   intro k i o o' hk hi' h1 h2
   rcases hf.own k b o h1 with⟨k0,o0,h0⟩|h0
   ·obtain⟨l,h3⟩:=eU h0
    have:=hr.inj i (ρ k0) b o' b o0 h2 h3 rfl
    exact hi' k0 (hdom k0 l) ((hρ k0 l).trans this.symm)
   ·have:=hr.lt h2;omega
  by_cases hki:∃k,H' k≠XG∧ρ' k=i<;>by_cases hkj:∃k,H' k≠XG∧ρ' k=j
  ·obtain⟨k,hk,rfl⟩:=hki
   obtain⟨l,hl,rfl⟩:=hkj
   rw[hin k hk]at hi;rw[hin l hl]at hj
   rw[hr'.inj k l b o b o' hi hj rfl]
  ·obtain⟨k,hk,rfl⟩:=hki
   have hj':∀k,H' k≠XG→ρ' k≠j:=fun k hk he=>hkj ⟨k,hk,he⟩
   rw[hin k hk]at hi;rw[upφ_out hj']at hj
   exact(mixed k j o o' hk hj' hi hj).elim
  ·obtain⟨l,hl,rfl⟩:=hkj
   have hi':∀k,H' k≠XG→ρ' k≠i:=fun k hk he=>hki ⟨k,hk,he⟩
   rw[hin l hl]at hj;rw[upφ_out hi']at hi
   exact(mixed l i o' o hl hi' hj hi).elim
  ·have hi':∀k,H' k≠XG→ρ' k≠i:=fun k hk he=>hki ⟨k,hk,he⟩
   have hj':∀k,H' k≠XG→ρ' k≠j:=fun k hk he=>hkj ⟨k,hk,he⟩
   rw[upφ_out hi']at hi;rw[upφ_out hj']at hj
   exact hr.inj i j b o b o' hi hj rfl
 ·by_cases hki:∃k,H' k≠XG∧ρ' k=i
  ·obtain⟨k,hk,rfl⟩:=hki
   rw[hin k hk]at hi
   exact(hr'.fY b hb).2 k b' o hi
  ·have hi':∀k,H' k≠XG→ρ' k≠i:=fun k hk he=>hki ⟨k,hk,he⟩
   rw[upφ_out hi']at hi
   intro hbb
   subst hbb
   rcases hf.fY b' hb with h0|⟨k0,o0,h0⟩|h0
   ·exact(hr.fY b' h0).2 i b' o hi rfl
   ·obtain⟨l,h3⟩:=eU h0
    have:=hr.inj i (ρ k0) b' o b' o0 hi h3 rfl
    exact hi' k0 (hdom k0 l) ((hρ k0 l).trans this.symm)
   ·have:=hr.lt hi;omega
 ·by_cases hki:∃k,H' k≠XG∧ρ' k=i
  ·obtain⟨k,hk,rfl⟩:=hki
   rw[hin k hk]at hi
   rcases hf.own k b o hi with⟨k0,o0,h0⟩|h0
   ·exact .inl ⟨ρ k0,o0,(eU h0).2⟩
   ·exact .inr h0
  ·have hi':∀k,H' k≠XG→ρ' k≠i:=fun k hk he=>hki ⟨k,hk,he⟩
   rw[upφ_out hi']at hi
   exact .inl ⟨i,o,hi⟩
 ·rcases hf.fY b hb with h0|⟨k0,o0,h0⟩|h0
  ·exact .inl h0
  ·exact .inr (.inl ⟨ρ k0,o0,(eU h0).2⟩)
  ·exact .inr (.inr h0)
end Go.Fw
namespace Go.Fw
def AO(P:Yu)(f:Yy):Bool:=
 match P.funcs[f]? with
 |some fn=>fn.body.isSome&&fn.name != "runtime.NumGoroutine"
 |none=>YH
theorem mC{P:Yu}{f:Yy}(h:AO P f=YE)(args:Array Value)(w:Yw):(callFunc f args).run P w= .ok (.enter f args) w:=by
 unfold AO at h
 split at h
 ·rename_i fn hf
  simp only[YF,bne_iff_ne,ne_eq]at h
  simp only[callFunc,run_bind,run_program,hf]
  rw[if_neg (by simpa using h.2)]
  have:fn.body.isNone=YH:=by cases hb:fn.body<;>simp_all
  simp[this,run_pure]
 ·cases h
def Of(P:Yu)(f:Yy)(vs:Array Value)(w:Yw)(Q:Value→Yw→Prop):Prop:=
 (AO P f=YE∧Calls P f vs w fun e w'=>∃v,e= .returned v∧Q v w')∨∃v w',(callFunc f vs).run P w= .ok (.value v) w'∧Q v w'
theorem Of.mono{P:Yu}{f:Yy}{vs:Array Value}{w:Yw}{Q Q':Value→Yw→Prop}(h:Of P f vs w Q)(hq:∀v w',Q v w'→Q' v w'):Of P f vs w Q':=by
 rcases h with⟨h1,h2⟩|⟨v,w',h1,h2⟩
 ·exact .inl ⟨h1,h2.mono fun e w' ⟨v,hv,hQ⟩=>⟨v,hv,hq v w' hQ⟩⟩
 ·exact .inr ⟨v,w',h1,hq v w' h2⟩
def aW(P:Yu)(f:Yy)(args:List A1)(H:List (Option bw))(res:AV)(H':List (Option bw)):Prop:=
 ∀φ F w vs,Rel φ F (hp H) w→bX (cm φ F (hp H) w) args vs→
  Of P f vs.toArray w fun v w'=>∃φ' F',ec φ' F' (hp H') w' res v∧Rel φ' F' (hp H') w'∧
   ix φ F (hp H) w φ' F' (hp H') w'∧Fr φ F w φ' F' w'
def ko(P:Yu)(f:Yy)(as:List A1)(s:St)(K:Out→Prop):Prop:=
 ∀φ F w vs,Rel φ F (hp s.heap) w→bX (cm φ F (hp s.heap) w) as vs→
  Of P f vs.toArray w fun v w'=>gL φ F s w K v w'
def e8:Nat→List (Option bw)→(Nat→Nat)→List (Nat×bw)
 |_,[],_=>[]
 |k,XF b::r,ρ=>(ρ k,b.ff ρ)::e8 (k+1) r ρ
 |k,XG::r,ρ=>e8 (k+1) r ρ
theorem jU(x:Option bw)(l:List (Option bw))(k:Nat):hp (x::l) (k+1)=hp l k:=by simp[hp]
theorem ka(ρ:Nat→Nat):∀(H:List (Option bw)) (k0:Nat) (h:List (Option bw)),
 (∀i j,hp H i≠XG→hp H j≠XG→ρ (k0+i)=ρ (k0+j)→i=j)→
 (∀k bZ,hp H k=XF bZ→hp (fE h (e8 k0 H ρ)) (ρ (k0+k))=XF (bZ.ff ρ))∧
 (∀i,(∀k,hp H k≠XG→ρ (k0+k)≠i)→hp (fE h (e8 k0 H ρ)) i=hp h i)
 |[],k0,h,_=>⟨fun k bZ hk=>by simp[hp]at hk,fun i _=>rfl⟩
 |x::H,k0,h,hinj=>by
  have hinj':∀i j,hp H i≠XG→hp H j≠XG→ρ (k0+1+i)=ρ (k0+1+j)→i=j:=by
   intro i j hi hj he
   have:=hinj (i+1) (j+1) (by rw[jU];exact hi) (by rw[jU];exact hj) (by rw[show k0+(i+1)=k0+1+i by omega,show k0+(j+1)=k0+1+j by omega];exact he)
   omega
  cases x with
  |none=>
   obtain⟨h1,h2⟩:=ka ρ H (k0+1) h hinj'
   refine⟨fun k bZ hk=>?_,fun i hi=>?_⟩
   ·cases k with
    |zero=>simp[hp]at hk
    |succ k=>rw[jU]at hk;rw[show k0+(k+1)=k0+1+k by omega];exact h1 k bZ hk
   ·refine h2 i fun k hk=>?_
    have:=hi (k+1) (by rw[jU];exact hk)
    rwa [show k0+(k+1)=k0+1+k by omega]at this
  |some b=>
   obtain⟨h1,h2⟩:=ka ρ H (k0+1) (cH h (ρ k0) (b.ff ρ)) hinj'
   refine⟨fun k bZ hk=>?_,fun i hi=>?_⟩
   ·cases k with
    |zero=>
     have:b=bZ:=by simpa[hp]using hk
     subst this
     rw[Yo]
     show hp (fE (cH h (ρ k0) (b.ff ρ)) (e8 (k0+1) H ρ)) (ρ k0)=_
     rw[h2 (ρ k0) (fun k hk he=>by
      have:=hinj (k+1) 0 (by rw[jU];exact hk) (by simp[hp]) (by rw[show k0+(k+1)=k0+1+k by omega];exact he)
      omega),eQ,bn]
    |succ k=>rw[jU]at hk;rw[show k0+(k+1)=k0+1+k by omega];exact h1 k bZ hk
   ·have h0:=hi 0 (by simp[hp])
    rw[Yo]at h0
    show hp (fE (cH h (ρ k0) (b.ff ρ)) (e8 (k0+1) H ρ)) i=_
    rw[h2 i (fun k hk=>by
     have:=hi (k+1) (by rw[jU];exact hk)
     rwa [show k0+(k+1)=k0+1+k by omega]at this),eQ,cn _ _ (Ne.symm h0)]
def rn(ρ:List Nat)(nx:Nat)(k:Nat):Nat:=
 match ρ[k]? with
 |some i=>i
 |none=>nx+(k-ρ.length)
theorem ti{P:Yu}{f:Yy}{as':List A1}{H H':List (Option bw)}{res:AV}(ρ:List Nat){as:List A1}{s:St}{K:Out→Prop}
 (hc:aW P f as' H res H') (has:as=as'.map (A1.ff (rn ρ s.heap.length))) (hlive:∀a∈as',a.live (hp H))
 (hρ:ρ.length=H.length) (hfull:∀k,k<H.length→hp H k≠XG) (hnd:∀(i j k:Nat),ρ[i]? =XF k→ρ[j]? =XF k→i=j)
 (hH:∀k bZ,hp H k=XF bZ→hp s.heap (rn ρ s.heap.length k)=XF (bZ.ff (rn ρ s.heap.length))∧bZ.live (hp H))
 (hK:K ⟨XF (res.ff (rn ρ s.heap.length)),e8 0 H' (rn ρ s.heap.length)⟩):ko P f as s K:=by
 intro φ F w vs hr hA
 have hltH:∀{H:List (Option bw)} {k:Nat},hp H k≠XG→k<H.length:=by
  intro H k hk
  by_cases h:k<H.length
  ·exact h
  ·exact(hk (by simp[hp,X1 (by omega:H.length≤k)])).elim
 have hin:∀k,k<ρ.length→rn ρ s.heap.length k=ρ[k]! :=by
  intro k hk;unfold rn;rw[XJ hk];simp[hk]
 have hin':∀k,k<ρ.length→ρ[k]? =XF (rn ρ s.heap.length k):=by
  intro k hk;unfold rn;rw[XJ hk]
 have hout:∀k,ρ.length≤k→rn ρ s.heap.length k=s.heap.length+(k-ρ.length):=by
  intro k hk;unfold rn;rw[X1 hk]
 have emb:KJ (rn ρ s.heap.length) (hp H) (hp s.heap):=by
  refine⟨fun k bZ hk=>(hH k bZ hk).1,fun i j hi hj he=>?_,fun k bZ hk=>(hH k bZ hk).2⟩
  have h1:=hltH hi
  have h2:=hltH hj
  exact hnd i j _ (hin' i (by omega)) (he▸hin' j (by omega))
 have hd:=Rel.down emb hr
 have hA':bX (cm (down (rn ρ s.heap.length) (hp H) φ) F (hp H) w) as' vs:=by
  rw[has]at hA
  exact bX.l8 hA fun c hc b hb=>cm.down emb (hlive c hc) hb
 refine(hc _ F w vs hd hA').mono ?_
 rintro v w' ⟨φs',F',hv,hr',hs,hf⟩
 have hlt:∀k,k<ρ.length→rn ρ s.heap.length k<s.heap.length:=by
  intro k hk
  cases hk':hp H k with
  |none=>exact(hfull k (by omega) hk').elim
  |some bZ=>
   have:=(hH k bZ hk').1
   exact hltH (by rw[this];simp)
 have hinj:∀i j,hp H' i≠XG→hp H' j≠XG→rn ρ s.heap.length i=rn ρ s.heap.length j→i=j:=by
  intro i j _ _ he
  by_cases hi:i<ρ.length<;>by_cases hj:j<ρ.length
  ·exact hnd i j _ (hin' i hi) (he▸hin' j hj)
  ·have:=hlt i hi;rw[he,hout j (by omega)]at this;omega
  ·have:=hlt j hj;rw[←he,hout i (by omega)]at this;omega
  ·rw[hout i (by omega),hout j (by omega)]at he;omega
 obtain⟨w1,w2⟩:=ka (rn ρ s.heap.length) H' 0 s.heap (by simpa using hinj)
 simp only[Ym]at w1 w2
 obtain⟨g1,g2,g3,g4⟩:=frame (ρ':=rn ρ s.heap.length) (G':=hp (fE s.heap (e8 0 H' (rn ρ s.heap.length)))) hr emb hr' hs hf (fun _ _=>rfl) hinj
  (fun k hk hn=>by
    by_cases hkl:k<ρ.length
    ·exact(hfull k (by omega) hn).elim
    ·rw[hout k (by omega)];simp[hp])
  w1 w2
 exact⟨⟨_,_,F',hK,fun av hav=>by cases hav;exact ec.up w1 g4 hv,g1,g2,g3⟩⟩
def py(G:eg):List C→(List C→Prop)→Prop
 |[],K=>K []
 | .d x::cs,K=>py G cs fun ds=>K (.d (yR x)::ds)
 | .own id ep off len _::cs,K=>
   match G id with
   |some (.arr e _ rows)=>ep=e∧off+len≤rows.length∧py G cs fun ds=>K (.d (.sl ((rows.drop off).take len))::ds)
   |_=>False
 | .fn f []::cs,K=>py G cs fun ds=>K (.fn f []::ds)
 |_::_,_=>False
def mr(G:eg):List A1→(List A1→Prop)→Prop
 |[],K=>K []
 | .c x::r,K=>py G [x] fun ds=>match ds with
   |[d]=>mr G r fun as=>K (.c d::as)
   |_=>False
 | .agg cs::r,K=>py G cs fun ds=>mr G r fun as=>K (.agg ds::as)
def C.plain:C→Bool
 | .d (.v _)=>YE
 | .d (.w _)=>YE
 |_=>YH
def A1.plain:A1→Bool
 | .c x=>x.plain
 | .agg cs=>cs.all C.plain
def AV.plain:AV→Bool
 | .one a=>a.plain
 | .tup l=>l.all A1.plain
theorem dA.plain{φ F G w φ' F' G' w'}{c:C}{v:Value}(hp:c.plain=YE)(h:dA φ F G w c v):dA φ' F' G' w' c v:=by
 cases c with
 |d x=>cases x with
  |v x=>cases h with|v _ hx=>exact dh.v _ hx
  |sl rows=>simp[C.plain]at hp
  |w x=>cases h with|raw _ hx=>exact dh.raw _ hx
 |_=>simp[C.plain]at hp
theorem bX.plain{φ F G w φ' F' G' w'}{cs:List C}{vs:List Value}(hp:cs.all C.plain=YE)(h:bX (dA φ F G w) cs vs):bX (dA φ' F' G' w') cs vs:=by
 induction h with
 |nil=>exact .nil
 |cons x _ ih=>
  simp only[X8,YF]at hp
  exact .cons (dA.plain hp.1 x) (ih hp.2)
theorem cm.plain{φ F G w φ' F' G' w'}{c:A1}{v:Value}(hp:c.plain=YE)(h:cm φ F G w c v):cm φ' F' G' w' c v:=by
 cases c with
 |c x=>exact dA.plain hp h
 |agg cs=>obtain⟨vs,rfl,h⟩:=h;exact⟨vs,rfl,bX.plain hp h⟩
theorem ec.plain{φ F G w φ' F' G' w'}{c:AV}{v:Value}(hp:c.plain=YE)(h:ec φ F G w c v):ec φ' F' G' w' c v:=by
 cases c with
 |one x=>exact cm.plain hp h
 |tup l=>
  obtain⟨vs,rfl,h⟩:=h
  refine⟨vs,rfl,?_⟩
  simp only[AV.plain]at hp
  induction h with
  |nil=>exact .nil
  |cons x _ ih=>
   simp only[X8,YF]at hp
   exact .cons (cm.plain hp.1 x) (ih hp.2)
theorem ld{φ F G w}(hr:Rel φ F G w){F':Nat→Prop}(hF:∀b,F b→F' b)(hF':∀id b o,φ id=XF (b,o)→F' b)(φ':gP)(G':eg):
 ∀{cs:List C} {vs:List Value} {K:List C→Prop},py G cs K→eD φ F G w cs vs→∃ds,K ds∧bX (dA φ' F' G' w) ds vs
 |[],vs,K,hk,hc=>by cases hc;exact⟨[],hk,.nil⟩
 | .d x::cs,vs,K,hk,hc=>by
   cases hc with
   |cons hx hc=>
    have hk':py G cs fun ds=>K (.d (yR x)::ds):=hk
    obtain⟨ds,hK,h⟩:=ld hr hF hF' φ' G' hk' hc
    exact⟨_,hK,.cons ((rz hx).mono fun b hb=>⟨hF b hb,rfl⟩) h⟩
 | .own id ep off len cap::cs,vs,K,hk,hc=>by
   cases hc with
   |cons hx hc=>
    simp only[py]at hk
    split at hk
    ·rename_i e sz rows hG
     obtain⟨rfl,hlen,hk⟩:=hk
     obtain⟨ds,hK,h⟩:=ld hr hF hF' φ' G' hk hc
     exact⟨_,hK,.cons (hx.frozen hr hG hlen hF (hF' id)) h⟩
    ·exact hk.elim
 | .fn f []::cs,vs,K,hk,hc=>by
   cases hc with
   |cons hx hc=>
    have hk':py G cs fun ds=>K (.fn f []::ds):=hk
    obtain⟨ds,hK,h⟩:=ld hr hF hF' φ' G' hk' hc
    obtain⟨us,h1,h2,_⟩:=hx
    exact⟨_,hK,.cons ⟨us,h1,h2,fun j c hj=>by simp at hj⟩ h⟩
 | .pt _ _::_,_,_,hk,_=>hk.elim
 | .pe _ _ _ _::_,_,_,hk,_=>hk.elim
 | .fp _::_,_,_,hk,_=>hk.elim
 | .fn _ (_::_)::_,_,_,hk,_=>hk.elim
theorem ly{φ F G w}(hr:Rel φ F G w){F':Nat→Prop}(hF:∀b,F b→F' b)(hF':∀id b o,φ id=XF (b,o)→F' b)(φ':gP)(G':eg):
 ∀{as:List A1} {vs:List Value} {K:List A1→Prop},mr G as K→bX (cm φ F G w) as vs→∃as',K as'∧bX (cm φ' F' G' w) as' vs
 |[],vs,K,hk,hc=>by cases hc;exact⟨[],hk,.nil⟩
 | .c x::r,vs,K,hk,hc=>by
   cases hc with
   |cons hx hc=>
    obtain⟨ds,hK,h⟩:=ld hr hF hF' φ' G' (cs:=[x]) hk (.cons hx .nil)
    split at hK
    ·obtain⟨as',hK',h'⟩:=ly hr hF hF' φ' G' hK hc
     cases h with
     |cons hd _=>exact⟨_,hK',.cons hd h'⟩
    ·exact hK.elim
 | .agg cs::r,vs,K,hk,hc=>by
   cases hc with
   |cons hx hc=>
    obtain⟨us,rfl,hx⟩:=hx
    obtain⟨ds,hK,h⟩:=ld hr hF hF' φ' G' (cs:=cs) hk hx
    obtain⟨as',hK',h'⟩:=ly hr hF hF' φ' G' hK hc
    exact⟨_,hK',.cons ⟨us,rfl,h⟩ h'⟩
theorem IY{P:Yu}{f:Yy}{as:List A1}{s:St}{K:Out→Prop}
 (h:mr (hp s.heap) as fun as'=>∃res,aW P f as' [] res []∧res.plain=YE∧K ⟨XF res,[]⟩):ko P f as s K:=by
 intro φ F w vs hr hA
 obtain⟨as',⟨res,hc,hpl,hK⟩,hA'⟩:=ly hr (F':=fun b=>F b∨∃id o,φ id=XF (b,o)) (fun b hb=> .inl hb) (fun id b o hb=> .inr ⟨id,o,hb⟩) (fun _=>XG) (hp []) h hA
 refine(hc (fun _=>XG) _ w vs ⟨fun id bZ hb=>(by simp[hp]at hb),fun id x hx=>(by cases hx),fun i j b o b' o' hi=>(by cases hi),fun b hb=>⟨?_,fun id b' o hi=>(by cases hi)⟩⟩ hA').mono ?_
 ·rcases hb with hb|⟨id,o,hb⟩
  ·exact(hr.fY b hb).1
  ·exact hr.lt hb
 ·rintro v w' ⟨φ',F',hv,hr',hs,hf⟩
  have hrest:∀b,b<w.heap.size→w'.heap[b]? =w.heap[b]? :=fun b hb=>hf.rest b hb fun id o hi=>(by cases hi)
  have gl:ix φ F (hp s.heap) w φ F (hp s.heap) w':=⟨fun b hb=>⟨hb,hrest b (hr.fY b hb).1⟩,fun id=>gX.same rfl fun b o hb=>hrest b (hr.lt hb)⟩
  refine⟨⟨_,φ,F,hK,(fun av hav=>by cases hav;exact ec.plain hpl hv),?_,gl,⟨hf.size,fun b hb _=>hrest b hb,fun id b o hi=> .inl ⟨id,o,hi⟩,fun b hb=> .inl hb,hf.io⟩⟩⟩
  exact⟨fun id bZ hb=>kj.mono gl rfl (fun b o hφ=>hrest b (hr.lt hφ)) (hr.bZ id bZ hb),hr.rT,hr.inj,fun b hb=>⟨Nat.lt_of_lt_of_le (hr.fY b hb).1 hf.size,(hr.fY b hb).2⟩⟩
end Go.Fw
namespace Go.Fw
structure eo(w:Yw)(F:Nat→Prop)(cs:List Value)(o sz:Nat)(rows:List (List D)):Prop where
 le:o+rows.length*sz≤cs.length
 len:∀row∈rows,row.length=sz
 get:∀(i:Nat) row,rows[i]? =XF row→∀(j:Nat) d,row[j]? =XF d→∃u,cs[o+i*sz+j]? =XF u∧dh w F d u
section
variable {P:Yu} {o:YC} {a:Act} {φ:gP} {F:Nat→Prop} {s:St} {w:Yw} {K:Out→Prop} {n:Nat}
theorem eo.L1{w:Yw}{cs:List Value}{b o sz ep id:Nat}{T:Yt}{rows:List (List D)}{G:eg}(h:eo w F cs o sz rows)(hφ:φ id=XF (b,o))(hb:w.heap[b]? =XF (.cells cs.toArray T (0,0))):
 kj φ F G w id (.arr ep sz rows):=by
 refine .inr ⟨b,o,cs.toArray,T,hφ,hb,by simpa using h.le,h.len,fun i row hi j d hj=>?_⟩
 simpa using h.get i row hi j d hj
theorem kj.rows{G:eg}{id ep sz:Nat}{rows:List (List D)}(h:kj φ F G w id (.arr ep sz rows)){b o:Nat}(hφ:φ id=XF (b,o)):
 ∃cs T,w.heap[b]? =XF (.cells cs T (0,0))∧eo w F cs.toList o sz rows:=by
 rcases h with⟨h1,_⟩|⟨b',o',cs,T,h1,h2,h3,h4,h5⟩
 ·rw[hφ]at h1;cases h1
 ·rw[hφ]at h1;simp only[YV,Prod.mk.injEq]at h1
  obtain⟨rfl,rfl⟩:=h1
  exact⟨cs,T,h2,by simpa using h3,h4,fun i row hi j d hj=>by simpa using h5 i row hi j d hj⟩
theorem eo.mono{w':Yw}{F':Nat→Prop}{cs:List Value}{o sz:Nat}{rows:List (List D)}(h:eo w F cs o sz rows)(hm:∀b,F b→F' b∧w'.heap[b]? =w.heap[b]?):eo w' F' cs o sz rows:=
 ⟨h.le,h.len,fun i row hi j d hj=>by obtain⟨u,hu,hd⟩:=h.get i row hi j d hj;exact⟨u,hu,hd.mono hm⟩⟩
theorem eo.drop{cs:List Value}{o sz:Nat}{rows:List (List D)}(h:eo w F cs o sz rows)(p:Nat)(hp:p≤rows.length):eo w F cs (o+p*sz) sz (rows.drop p):=by
 refine⟨?_,fun row hr=>h.len row (X2 hr),fun i row hi j d hj=>?_⟩
 ·have h1:=h.le
  rw[XS]
  have:p*sz+(rows.length-p)*sz=rows.length*sz:=by rw[←Yi];congr 1;omega
  omega
 ·rw[XP]at hi
  obtain⟨u,hu,hd⟩:=h.get _ row hi j d hj
  exact⟨u,by rw[Yi]at hu;rw[show o+p*sz+i*sz+j=o+(p*sz+i*sz)+j by omega];exact hu,hd⟩
theorem eo.take{cs:List Value}{o sz:Nat}{rows:List (List D)}(h:eo w F cs o sz rows)(p:Nat):eo w F cs o sz (rows.take p):=by
 refine⟨?_,fun row hr=>h.len row (XW hr),fun i row hi j d hj=>?_⟩
 ·have h1:=h.le
  have:(rows.take p).length*sz≤rows.length*sz:=Yh _ (by simp;omega)
  omega
 ·rw[XN]at hi
  split at hi
  ·exact h.get i row hi j d hj
  ·cases hi
theorem eo.write{cs vs:List Value}{o sz p:Nat}{rows new:List (List D)}(h:eo w F cs o sz rows)(hn:eo w F vs 0 sz new)(hl:vs.length=new.length*sz)(hp:p≤rows.length)
 (hle:o+p*sz+new.length*sz≤cs.length):eo w F (cf cs (o+p*sz) vs) o sz (cf rows p new):=by
 have hsl:(cf cs (o+p*sz) vs).length=cs.length:=dD _ _ _ (by omega)
 have hget:∀q:Nat,(cf cs (o+p*sz) vs)[q]? =if q<o+p*sz then cs[q]? else if q<o+p*sz+vs.length then vs[q-(o+p*sz)]? else cs[q]? :=by
  intro q
  simp only[cf]
  rw[XQ,XQ]
  simp only[XO,XM]
  rw[Yl (by omega)]
  by_cases c1:q<o+p*sz
  ·rw[if_pos (by omega),if_pos c1,if_pos c1,XN,if_pos c1]
  ·by_cases c2:q<o+p*sz+vs.length
   ·rw[if_pos c2,if_neg c1,if_neg c1,if_pos c2]
   ·rw[if_neg c2,if_neg c1,if_neg c2,XP]
    congr 1;omega
 have hjlt:∀{rs:List (List D)} {i:Nat} {row:List D} {j:Nat} {d:D},(∀row∈rs,row.length=sz)→rs[i]? =XF row→row[j]? =XF d→j<sz:=by
  intro rs i row j d hlen hi hj
  rw[←hlen row (XK hi)];exact(XH.1 hj).1
 refine⟨?_,fun row hr=>?_,fun i row hi j d hj=>?_⟩
 ·rw[hsl]
  have h1:=h.le
  simp only[cf,XO,XM,XS]
  rw[Yl hp,Yi,Yi]
  by_cases hc:p+new.length≤rows.length
  ·have:(p+new.length)*sz+(rows.length-(p+new.length))*sz=rows.length*sz:=by rw[←Yi];congr 1;omega
   rw[Yi]at this;omega
  ·rw[show rows.length-(p+new.length)=0 by omega];omega
 ·simp only[cf,X5]at hr
  rcases hr with(hr|hr)|hr
  ·exact h.len row (XW hr)
  ·exact hn.len row hr
  ·exact h.len row (X2 hr)
 ·rw[hget]
  simp only[cf]at hi
  rw[XQ,XQ]at hi
  simp only[XO,XM]at hi
  rw[Yl hp]at hi
  by_cases c1:i<p
  ·rw[if_pos (by omega),if_pos c1,XN,if_pos c1]at hi
   have hj':=hjlt h.len hi hj
   have:i*sz+sz≤p*sz:=by have:=Yh sz c1;rw[Yn]at this;exact this
   rw[if_pos (by omega)]
   exact h.get i row hi j d hj
  ·by_cases c2:i<p+new.length
   ·rw[if_pos c2,if_neg c1]at hi
    have hj':=hjlt hn.len hi hj
    have e1:p*sz+(i-p)*sz=i*sz:=by rw[←Yi];congr 1;omega
    have e2:(i-p)*sz+sz≤new.length*sz:=by
     have:(i-p)+1≤new.length:=by omega
     have:=Yh sz this;rw[Yi]at this;omega
    rw[if_neg (by omega),if_pos (by omega)]
    obtain⟨u,hu,hd⟩:=hn.get _ row hi j d hj
    exact⟨u,by rw[show o+i*sz+j-(o+p*sz)=0+(i-p)*sz+j by omega];exact hu,hd⟩
   ·rw[if_neg c2,XP]at hi
    have:(p+new.length)*sz≤i*sz:=Yh _ (by omega)
    rw[Yi]at this
    rw[if_neg (by omega),if_neg (by omega)]
    rw[show p+new.length+(i-(p+new.length))=i by omega]at hi
    exact h.get i row hi j d hj
def np(G:eg)(sz:Nat)(c:C)(K:List (List D)→Prop):Prop:=
 match c with
 | .d (.sl rows)=>(∀r∈rows,r.length=sz)∧K rows
 | .d (.v (.slice XG 0 0))=>K []
 | .own id ep off len _=>match G id with
   |some (.arr e sz' rows)=>ep=e∧sz'=sz∧off+len≤rows.length∧K ((rows.drop off).take len)
   |_=>False
 |_=>False
theorem tH{cs:List Value}{o sz:Nat}{rows:List (List D)}(h:eo w F cs o sz rows):eo w F ((cs.drop o).take (rows.length*sz)) 0 sz rows:=by
 have h1:=h.le
 refine⟨by simp;omega,h.len,fun i row hi j d hj=>?_⟩
 obtain⟨u,hu,hd⟩:=h.get i row hi j d hj
 refine⟨u,?_,hd⟩
 have hj':j<sz:=by rw[←h.len row (XK hi)];exact(XH.1 hj).1
 have hi':i<rows.length:=(XH.1 hi).1
 have:i*sz+sz≤rows.length*sz:=by have:=Yh sz hi';rw[Yn]at this;exact this
 rw[XN,if_pos (by omega),XP]
 rw[show o+(0+i*sz+j)=o+i*sz+j by omega];exact hu
theorem xh{cs:List Value}{sz:Nat}{rows:List (List D)}(h:eo w F cs 0 sz rows)(hl:cs.length=rows.length*sz):cs.all dx=YE:=by
 rw[X4]
 intro v hv
 obtain⟨p,hp⟩:=List.mem_iff_getElem?.1 hv
 have hlt:p<rows.length*sz:=by rw[←hl];exact(XH.1 hp).1
 have hsz:0<sz:=by rcases Nat.eq_zero_or_pos sz with h0|h0;·subst h0;simp at hlt
                   ·exact h0
 have hi:p/sz<rows.length:=by rw[Nat.div_lt_iff_lt_mul hsz];exact hlt
 have hrow:=XJ hi
 have hrl:=h.len _ (XK hrow)
 have hj:p%sz<(rows[p/sz]).length:=by rw[hrl];exact Nat.mod_lt _ hsz
 obtain⟨u,hu,hd⟩:=h.get _ _ hrow _ _ (XJ hj)
 rw[show 0+p/sz*sz+p%sz=p by rw[Ym,Yr];exact Nat.div_add_mod p sz]at hu
 rw[hp]at hu;cases hu
 exact hd.dx
theorem lp(hr:Rel φ F (hp s.heap) w){sz:Nat}{c:C}{v:Value}(hc:dA φ F (hp s.heap) w c v){L:List (List D)→Prop}(hk:np (hp s.heap) sz c L):
 ∃rows vs A l k,L rows∧v= .slice A l k∧l=rows.length∧l≤k∧vs.length=rows.length*sz∧(X9 sz l v).run P w= .ok vs.toArray w∧eo w F vs 0 sz rows:=by
 have reads:∀{b o:Nat} {cs:List Value} {T:Yt} {rows:List (List D)} {k:Nat},w.heap[b]? =XF (.cells cs.toArray T (0,0))→eo w F cs o sz rows→
  (X9 sz rows.length (.slice (XF ⟨b,o,XG⟩) rows.length k)).run P w= .ok ((cs.drop o).take (rows.length*sz)).toArray w:=by
  intro b o cs T rows k hb h
  have h1:=h.le
  have hl:((cs.drop o).take (rows.length*sz)).length=rows.length*sz:=by simp;omega
  simp only[X9]
  have:=run_loadCells (P:=P) (w:=w) (b:=b) (o:=o) ((cs.drop o).take (rows.length*sz)) (fun j v hj=>by
   rw[cell?_of_heap hb]
   rw[XN]at hj
   split at hj
   ·rw[XP]at hj;simpa using hj
   ·cases hj)
  rw[hl]at this
  exact this
 unfold np at hk
 split at hk
 ·rename_i rows
  obtain⟨hlen,hk⟩:=hk
  have hc':dh w F (.sl rows) v:=hc
  cases hc' with
  |nil A cap=>
   refine⟨[],[],A,0,cap,hk,rfl,rfl,Yp _,by simp,?_,⟨by simp,by simp,fun i row hi=>by simp at hi⟩⟩
   cases A<;>simp[X9,run_pure,loadCells,Ys]
  |sl _ b o' sz' cap u hF hcap hsz hcell hrep=>
   by_cases hne:rows=[]
   ·subst hne
    exact⟨[],[],_,0,cap,hk,rfl,rfl,Yp _,by simp,by simp[X9,run_pure,loadCells,Ys],⟨by simp,by simp,fun i row hi=>by simp at hi⟩⟩
   ·obtain⟨r0,rr,rfl⟩:=List.exists_cons_of_ne_nil hne
    have hss:sz'=sz:=by rw[←hsz r0 (by simp),hlen r0 (by simp)]
    subst hss
    by_cases h0:sz'=0
    ·subst h0
     refine⟨_,[],_,_,cap,hk,rfl,rfl,hcap,by simp,by simp[X9,run_pure,loadCells,Ys],⟨by simp,hlen,fun i row hi j d hj=>?_⟩⟩
     have:=hlen row (XK hi)
     have:=(XH.1 hj).1
     omega
    have hr0:r0.length=sz':=hlen r0 (by simp)
    have hc0:=hcell 0 r0 rfl 0 _ (XJ (by omega))
    cases hheap:w.heap[b]? with
    |none=>simp[YY,hheap]at hc0
    |some ob=>
     cases ob with
     |cells cs T fz=>
      have hcs:∀i,w.cell? ⟨b,i,XG⟩=cs[i]? :=fun i=>cell?_of_heap hheap i
      have hat:∀(i:Nat) row,(r0::rr)[i]? =XF row→∀(j:Nat) d,row[j]? =XF d→∃u,cs.toList[o'+i*sz'+j]? =XF u∧dh w F d u:=by
       intro i row hi j d hj
       refine⟨u i j,?_,hrep i row hi j d hj⟩
       have:=hcell i row hi j d hj
       rw[hcs]at this;simpa using this
      have hle:o'+(r0::rr).length*sz'≤cs.toList.length:=by
       have hlast:(r0::rr)[rr.length]? =XF ((r0::rr)[rr.length]'(by simp)):=XJ _
       have hl2:=hlen _ (XK hlast)
       obtain⟨u2,hu2,_⟩:=hat _ _ hlast (sz'-1) _ (XJ (by omega))
       have:=(XH.1 hu2).1
       simp only[List.length_cons]
       rw[Yi];omega
      have hR:eo w F cs.toList o' sz' (r0::rr):=⟨hle,hlen,hat⟩
      refine⟨r0::rr,(cs.toList.drop o').take ((r0::rr).length*sz'),_,_,cap,hk,rfl,rfl,hcap,by simp only[XM,XS];omega,?_,tH hR⟩
      have h1:=hR.le
      have hl:((cs.toList.drop o').take ((r0::rr).length*sz')).length=(r0::rr).length*sz':=by simp only[XM,XS];omega
      simp only[X9]
      have:=run_loadCells (P:=P) (w:=w) (b:=b) (o:=o') ((cs.toList.drop o').take ((r0::rr).length*sz')) (fun j v hj=>by
       rw[cell?_of_heap hheap]
       rw[XN]at hj
       split at hj
       ·rw[XP]at hj;simpa using hj
       ·cases hj)
      rw[hl]at this
      exact this
     |_=>simp[YY,hheap]at hc0
 ·have hc':dh w F (.v (.slice XG 0 0)) v:=hc
  cases hc'
  exact⟨[],[],XG,0,0,hk,rfl,rfl,Yj _,by simp,rfl,⟨by simp,by simp,fun i row hi=>by simp at hi⟩⟩
 ·rename_i id ep off len cap
  obtain⟨e,sz',rows,hG,hle,A,l,k,rfl,hA⟩:=hc
  rw[hG]at hk
  simp only[]at hk
  obtain⟨rfl,rfl,hlen,hk⟩:=hk
  obtain⟨rfl,g1,g2,g3,g4⟩:=hA rfl
  have hrl:((rows.drop off).take l).length=l:=by simp;omega
  by_cases h0:l=0
  ·subst h0
   refine⟨_,[],A,0,k,hk,rfl,by simp,g1,by simp,?_,⟨by simp,by simp,fun i row hi=>by simp at hi⟩⟩
   cases A<;>simp[X9,run_pure,loadCells,Ys]
  ·rcases g4 with g4|⟨b,o',m,hφ,rfl,hm,hle2⟩
   ·omega
   obtain⟨cs,T,hb,hR⟩:=(hr.bZ _ _ hG).rows hφ
   have hR2:=(hR.drop off (by omega)).take l
   have:=reads (k:=k) (cs:=cs.toList) (by simpa using hb) hR2
   rw[hrl]at this
   refine⟨_,_,_,l,k,hk,rfl,hrl.symm,g1,?_,this,?_⟩
   ·have h1:=hR2.le
    rw[hrl]at h1⊢
    simp only[XM,XS];omega
   ·have:=tH hR2
    rw[hrl]at this;exact this
 ·exact hk.elim
end
end Go.Fw
namespace Go.Fw
section
variable {P:Yu} {o:YC} {a:Act} {φ:gP} {F:Nat→Prop} {s:St} {w:Yw} {K:Out→Prop} {n:Nat}
def r6(s:St)(sz:Nat)(cx:C)(new:List (List D))(K:Out→Prop):Prop:=
 match cx with
 | .d (.v (.slice XG 0 0))=>new.length≤4294967296∧
     K ⟨XF (.one (.c (.own s.heap.length 0 0 new.length XG))),[(s.heap.length,.arr 0 sz new)]⟩
 | .own id ep off len XG=>match hp s.heap id with
   |some (.arr e sz' rows)=>ep=e∧sz'=sz∧off+len≤rows.length∧len+new.length≤4294967296∧
     K ⟨XF (.one (.c (.own id (ep+1) 0 (len+new.length) XG))),[(id,.arr (ep+1) sz ((rows.drop off).take len++new))]⟩
   |_=>False
 | .own id ep off len (XF c)=>match hp s.heap id with
   |some (.arr e sz' rows)=>ep=e∧sz'=sz∧off+len≤rows.length∧
     (len+new.length≤c→K ⟨XF (.one (.c (.own id ep off (len+new.length) (XF c)))),[(id,.arr ep sz (cf rows (off+len) new))]⟩)∧
     (c<len+new.length→len+new.length≤4294967296∧
       K ⟨XF (.one (.c (.own s.heap.length 0 0 (len+new.length) XG))),[(s.heap.length,.arr 0 sz ((rows.drop off).take len++new))]⟩)
   |_=>False
 |_=>False
theorem xZ(need:Nat):∀(r c:Nat),c≤2*need+192→c<need∨c≤2*need+192→Ye need r c≤2*need+192
 |0,c,h,_=>h
 |r+1,c,h,_=>by
  simp only[Ye]
  split
  ·exact h
  ·have:c+(c+768)/4≤2*need+192:=by omega
   exact xZ need r _ this (.inr this)
theorem vG{need cap:Nat}(h:cap<need):Yc need cap≤2*need+192:=by
 unfold Yc
 split
 ·omega
 ·split
  ·omega
  ·exact xZ need 4 cap (by omega) (.inl h)
theorem run_append_room{t t2 e e2 rt:Yt}{sz:Nat}(hu:P.underlying t=XF (.slice e))(hu2:P.underlying t2=XF (.slice e2))(hs:sn P e=XF sz){A A2:Option YB}{l k l2 k2:Nat}{vs:List Value}
 (hroom:l+l2≤k) (hf:(X9 sz l2 (.slice A2 l2 k2)).run P w= .ok vs.toArray w) {w':Yw}
 (hst:match A with|some b=>(Yx (b.add (l*sz)) vs).run P w= .ok () w'|none=>w'=w):
 (Yb #[t,t2] rt #[.slice A l k,.slice A2 l2 k2]).run P w= .ok (.slice A (l+l2) k) w':=by
 have e0:(#[t,t2]:Array Yt)[0]? =XF t:=rfl
 have e1:(#[t,t2]:Array Yt)[1]? =XF t2:=rfl
 have e2:(#[YU A l k,.slice A2 l2 k2])[0]? =XF (.slice A l k):=rfl
 have e3:(#[YU A l k,.slice A2 l2 k2])[1]? =XF (.slice A2 l2 k2):=rfl
 simp only[Yb,e0,e1,e2,e3,run_bind,run_underlying hu,run_underlying hu2,run_sizeOf hs,run_pure,Yd,YD,if_false]
 rw[if_pos hroom]
 simp only[YI,if_true,run_bind,hf]
 cases A with
 |none=>simp only at hst;subst hst;rfl
 |some b=>simp only[hst,run_bind,run_pure]
theorem fJ(z:Array Value)(m:Nat):(Ya z m).size=m*z.size:=by simp[Ya]
theorem run_append_grow{t t2 e e2 rt:Yt}{sz bytes:Nat}(hu:P.underlying t=XF (.slice e))(hu2:P.underlying t2=XF (.slice e2))(hs:sn P e=XF sz)(hb:(P.info? e).map (·.bytes)=XF bytes)
 (hbl:bytes≤16384) {z:Value} (hz:(P.info? e).bind (·.zero)=XF z) (hzl:z.cells.size=sz) {A A2:Option YB} {l k l2 k2:Nat} {vs us:List Value}
 (hroom:k<l+l2) (hmax:l+l2≤4294967296) (hl:l≤k) (hus:us.length=l*sz) (hvs:vs.length=l2*sz)
 (hold:(X9 sz l (.slice A l k)).run P w= .ok us.toArray w) (hf:(X9 sz l2 (.slice A2 l2 k2)).run P w= .ok vs.toArray w)
 (hold':(X9 sz l (.slice A l k)).run P {w with drawn:=w.drawn+1}= .ok us.toArray {w with drawn:=w.drawn+1}) (hf':(X9 sz l2 (.slice A2 l2 k2)).run P {w with drawn:=w.drawn+1}= .ok vs.toArray {w with drawn:=w.drawn+1}):
 ∃nc rest,l+l2≤nc∧(us++vs++rest).length=nc*sz∧(Yb #[t,t2] rt #[.slice A l k,.slice A2 l2 k2]).run P w=
  .ok (.slice (XF ⟨w.heap.size,0,XG⟩) (l+l2) nc) {w with drawn:=w.drawn+1,heap:=w.heap.push (.cells (us++vs++rest).toArray e (0,0))}:=by
 have e0:(#[t,t2]:Array Yt)[0]? =XF t:=rfl
 have e1:(#[t,t2]:Array Yt)[1]? =XF t2:=rfl
 have e2:(#[YU A l k,.slice A2 l2 k2])[0]? =XF (.slice A l k):=rfl
 have e3:(#[YU A l k,.slice A2 l2 k2])[1]? =XF (.slice A2 l2 k2):=rfl
 obtain⟨i,hi,hib⟩:=XC.1 hb
 have hcap:=vG hroom
 have hnot:¬Yc (l+l2) k*bytes>2^48:=by
  have:Yc (l+l2) k*bytes≤(2*(l+l2)+192)*16384:=Yk hcap hbl
  omega
 obtain⟨nc,hnc,hch⟩:∃nc,l+l2≤nc∧(choose (.appendCap (l+l2) k e)).run P w= .ok nc {w with drawn:=w.drawn+1}:=
  ⟨(l+l2)+w.tape w.drawn (.appendCap (l+l2) k e)%(2^63-(l+l2)),Yq _ _,by simp only[choose,Sem.run,Question.forced,YD,if_false,Question.cut]⟩
 refine⟨nc,(Ya z.cells (nc-(l+l2))).toList,hnc,?_,?_⟩
 ·simp only[XO,YJ,fJ,hzl,hus,hvs]
  rw[←Yi,←Yi];congr 1;omega
 ·simp only[Yb,e0,e1,e2,e3,run_bind,run_underlying hu,run_underlying hu2,run_sizeOf hs,run_pure,Yd,YD,if_false,run_typeInfo hi,false_or]
  rw[if_neg (by omega)]
  have hmaxI:¬((((l+l2:Nat):Int)>YN.max)∧i.bytes=0):=by
   have:YN.max=9223372036854775807:=by decide
   rw[this];omega
  simp only[run_bind,run_typeInfo hi,run_pure]
  rw[if_neg hmaxI]
  simp only[run_bind,run_typeInfo hi,run_pure]
  rw[hib]
  rw[if_neg hnot]
  simp only[run_bind,run_pure]
  have hask:∀(m:Nat) (w:Yw),(askRoom m).run P w= .ok () w:=by
   intro m w;unfold askRoom;split<;>rfl
  simp only[hch,hask,run_typeInfo hi,hold',hf',YI,if_true,fL hz,newRow,run_bind,run_newObj,run_pure]
  congr 4
  apply YL;simp
theorem jQ{sz l:Nat}{v:Value}{vs:Array Value}{m:Nat}(h:(X9 sz l v).run P w= .ok vs w):
 (X9 sz l v).run P {w with drawn:=m}= .ok vs {w with drawn:=m}:=by
 have key:∀(n i:Nat) (b:YB) (acc vs:Array Value),(Ys b i n acc).run P w= .ok vs w→(Ys b i n acc).run P {w with drawn:=m}= .ok vs {w with drawn:=m}:=by
  intro n
  induction n with
  |zero=>intro i b acc vs h;simp only[Ys,run_pure,YW]at h⊢;exact⟨h.1,trivial⟩
  |succ n ih=>
   intro i b acc vs h
   simp only[Ys,run_bind]at h⊢
   have hc:YY {w with drawn:=m} (b.add i)=w.cell? (b.add i):=rfl
   cases hcell:w.cell? (b.add i)with
   |some v=>
    rw[run_load hcell]at h
    rw[run_load (hc.trans hcell)]
    exact ih _ _ _ _ h
   |none=>
    simp only[load,Sem.run,hcell]at h
    simp only[load,Sem.run,hc,hcell]
    unfold World.farLoad at h⊢
    cases hb:w.heap[(b.add i).block]? with
    |none=>rw[hb]at h;simp at h
    |some ob=>
     rw[hb]at h
     cases ob with
     |view at_ u=>
      simp only[hb]at h⊢
      have hv:YX P {w with drawn:=m} at_ u (b.add i)=YX P w at_ u (b.add i):=by
       funext x;rfl
      rw[hv]
      cases hvl:YX P w at_ u (b.add i) (Mode.plain==Mode.atomic)with
      |ok r=>rw[hvl]at h;exact ih _ _ _ _ h
      |error e=>rw[hvl]at h;simp at h
     |_=>simp at h
 cases v with
 |slice A l2 k=>
  cases A with
  |none=>simp only[X9,run_pure,YW]at h⊢;exact⟨h.1,trivial⟩
  |some b=>exact key _ _ _ _ _ h
 |string x=>simp only[X9,run_pure,YW]at h⊢;exact⟨h.1,trivial⟩
 |_=>simp[X9,stuck,Sem.run]at h
end
end Go.Fw
namespace Go.Fw
section
variable {P:Yu} {o:YC} {a:Act} {φ:gP} {F:Nat→Prop} {s:St} {w:Yw} {K:Out→Prop} {n:Nat}
theorem gL.fresh{id e' sz off' len k:Nat}{rows:List (List D)}{cells:List Value}{T:Yt}{w':Yw}
 (hr:Rel φ F (hp s.heap) w) (hnew:hp s.heap id=XG∨∃e sz0 rows0,hp s.heap id=XF (.arr e sz0 rows0)∧e<e')
 (hrows:eo w F cells 0 sz rows) (hlen:off'+len≤rows.length) (hk:len≤k) (hkl:off'*sz+k*sz≤cells.length)
 (hw:w'.heap=w.heap.push (.cells cells.toArray T (0,0))) (hio:Io w w')
 (hK:K ⟨XF (.one (.c (.own id e' off' len XG))),[(id,.arr e' sz rows)]⟩):
 gL φ F s w K (.slice (XF ⟨w.heap.size,off'*sz,XG⟩) len k) w':=by
 have hblk:w'.heap[w.heap.size]? =XF (.cells cells.toArray T (0,0)):=by rw[hw];simp
 refine gL.change id (XF (w.heap.size,0)) (.arr e' sz rows) hK hr (by rw[hw];simp) hio (fun b hb _=>by rw[hw];exact pd _ _ _ hb) (fun b o hx=>by cases hx;exact .inr (Yj _)) ?_ ?_ ?_
 ·rcases hnew with h|⟨e,sz0,rows0,h,hlt⟩
  ·rw[h];trivial
  ·rw[h];exact⟨by omega,fun he=>by omega⟩
 ·exact fun gl=>(hrows.mono gl.fY).L1 (bn _ _ _) hblk
 ·intro gl av hav
  cases hav
  exact⟨e',sz,rows,bn _ _ _,Yj _,_,len,k,rfl,fun _=>⟨rfl,hk,fun c hc=>(by cases hc),fun _=>hlen,
   .inr ⟨w.heap.size,0,cells.length,bn _ _ _,by simp,by simpa using eY hblk,by omega⟩⟩⟩
theorem DR{us vs:List Value}{sz:Nat}{r1 r2:List (List D)}(h1:eo w F us 0 sz r1)(hl1:us.length=r1.length*sz)(h2:eo w F vs 0 sz r2)(rest:List Value):eo w F (us++vs++rest) 0 sz (r1++r2):=by
 refine⟨?_,fun row hr=>?_,fun i row hi j d hj=>?_⟩
 ·have:=h2.le
  simp only[XO]
  rw[Yi];omega
 ·rcases X5.1 hr with hr|hr
  ·exact h1.len row hr
  ·exact h2.len row hr
 ·rw[XQ]at hi
  split at hi
  ·obtain⟨u,hu,hd⟩:=h1.get i row hi j d hj
   exact⟨u,by rw[XY,XZ (XH.1 hu).1];exact hu,hd⟩
  ·rename_i hlt
   obtain⟨u,hu,hd⟩:=h2.get _ row hi j d hj
   refine⟨u,?_,hd⟩
   have e1:r1.length*sz+(i-r1.length)*sz=i*sz:=by rw[←Yi];congr 1;omega
   rw[XY,List.getElem?_append_right (by rw[hl1];omega),hl1]
   rw[show 0+i*sz+j-r1.length*sz=0+(i-r1.length)*sz+j by omega]
   rw[XZ (XH.1 hu).1];exact hu
theorem nG(b:YB)(w:Yw):(Yx b []).run P w= .ok () w:=rfl
theorem iA{α:Type}(cs:List α)(off:Nat):cf cs off []=cs:=by simp[cf]
theorem pL(hr:Rel φ F (hp s.heap) w){id e sz:Nat}{rows:List (List D)}(hG:hp s.heap id=XF (.arr e sz rows)){b o':Nat}(hφ:φ id=XF (b,o'))
 {vs:List Value} {new:List (List D)} (hvs:eo w F vs 0 sz new) (hvl:vs.length=new.length*sz) {p:Nat} (hp':p≤rows.length) {m:Nat} (hm:bsize w b=XF m) (hle:o'+p*sz+new.length*sz≤m):
 ∃w' cs T,(Yx ⟨b,o'+p*sz,XG⟩ vs).run P w= .ok () w'∧w'.heap.size=w.heap.size∧(∀b',b'≠b→w'.heap[b']? =w.heap[b']?)∧
  w'.heap[b]? =XF (.cells (cs:List Value).toArray T (0,0))∧cs.length=m∧eo w F cs o' sz (cf rows p new)∧Io w w':=by
 obtain⟨cs,T,hb,hR⟩:=(hr.bZ _ _ hG).rows hφ
 have hm':cs.toList.length=m:=by rw[eY hb]at hm;simpa using hm
 by_cases hnil:vs=[]
 ·subst hnil
  refine⟨w,cs.toList,T,nG _ _,rfl,fun _ _=>rfl,by simpa using hb,hm',?_,Io.refl _⟩
  by_cases hn:new=[]
  ·subst hn;rw[iA];exact hR
  ·have h0:new.length*sz=0:=by simpa using hvl.symm
   have hsz:sz=0:=by
    rcases Nat.mul_eq_zero.1 h0 with h|h
    ·exact(hn (XI.1 h)).elim
    ·exact h
   have:=hR.write (vs:=[]) hvs (by simpa using hvl) hp' (by omega)
   rw[iA]at this;exact this
 ·obtain⟨w',hrun,hone⟩:=iB (P:=P) (b:=b) (o:=o'+p*sz) (T:=T) vs 0 w cs.toList (by simpa using hb) (by omega) (xh hvs hvl) hnil
  exact⟨w',_,T,hrun,hone.size,hone.rest,hone.bZ,by rw[dD _ _ _ (by omega)];exact hm',hR.write hvs hvl hp' (by omega),hone.io⟩
theorem BN(h:dm n φ F s a w){t t2 e:Yt}{x y:Yv}{args:Array Yv}{ts:Array Yt}(ho:o.op= .call {callee:= .builtin .append,args,argTypes:=ts})(hargs:args.toList=[x,y])(hts:ts.toList=[t,t2])
 {sz:Nat} {x':O} (hx:cO x=XF x') {cx:C} (hcx:s.e9 x'=XF cx) {yv:Value} (hy2:a.eval y=yv) {new:List (List D)} {vs:List Value} {l2:Nat} (hl2:l2=new.length) (hvl:vs.length=new.length*sz) (hvs:eo w F vs 0 sz new)
 (Hroom:∀{A:Option YB} {l k:Nat} {w':Yw},l+l2≤k→(match A with|some b=>(Yx (b.add (l*sz)) vs).run P w= .ok () w'|none=>w'=w)→
   (Yb #[t,t2] o.type #[.slice A l k,yv]).run P w= .ok (.slice A (l+l2) k) w')
 (Hgrow:∀{A:Option YB} {l k:Nat} {us:List Value},k<l+l2→l+l2≤4294967296→l≤k→us.length=l*sz→(X9 sz l (.slice A l k)).run P w= .ok us.toArray w→
   ∃nc rest,l+l2≤nc∧(us++vs++rest).length=nc*sz∧(Yb #[t,t2] o.type #[.slice A l k,yv]).run P w=
    .ok (.slice (XF ⟨w.heap.size,0,XG⟩) (l+l2) nc) {w with drawn:=w.drawn+1,heap:=w.heap.push (.cells (us++vs++rest).toArray e (0,0))})
 (hK:r6 s sz cx new K):cc P o a φ F s w K:=by
 obtain rfl:=kL hargs
 obtain rfl:=kL hts
 have hX:=dk h hx hcx
 have exec:∀{A l k v w'},a.eval x= .slice A l k→(Yb #[t,t2] o.type #[.slice A l k,yv]).run P w= .ok v w'→(Yz a.eval o).run P w= .ok (.value v) w':=by
  intro A l k v w' hx2 hr
  simp only[Yz,ho,resolve,run_bind,run_pure,invoke,builtin,XV,X0,XX,hx2,hy2,hr]
 have grow:∀{A l k} {us:List Value} {xP:List (List D)} {id e':Nat},a.eval x= .slice A l k→k<l+l2→l+new.length≤4294967296→l≤k→us.length=l*sz→xP.length=l→
  (X9 sz l (.slice A l k)).run P w= .ok us.toArray w→eo w F us 0 sz xP→
  (hp s.heap id=XG∨∃e sz0 rows0,hp s.heap id=XF (.arr e sz0 rows0)∧e<e')→
  K ⟨XF (.one (.c (.own id e' 0 (l+new.length) XG))),[(id,.arr e' sz (xP++new))]⟩→cc P o a φ F s w K:=by
  intro A l k us xP id e' hx2 hroom hmax hlk hus hold hfold hR hid hKK
  obtain⟨nc,rest,hnc,hcl,hrun⟩:=Hgrow hroom (by omega) hlk hus hfold
  refine⟨_,_,.inl (exec hx2 hrun),?_⟩
  have hR2:=DR hR (by rw[hus,hold]) hvs rest
  have:=gL.fresh (K:=K) (len:=l+l2) (k:=nc) (off':=0) (T:=e) (w':={w with drawn:=w.drawn+1,heap:=w.heap.push (.cells (us++vs++rest).toArray e (0,0))}) h.rel hid hR2 (by simp[hold,hl2]) hnc (by rw[hcl];omega) rfl (Io.push rfl rfl rfl) (by rw[hl2];exact hKK)
  simpa using this
 unfold r6 at hK
 split at hK
 ·
  obtain⟨hmax,hK⟩:=hK
  have hX':dh w F (.v (.slice XG 0 0)) (a.eval x):=hX
  generalize hval:a.eval x=val at hX'
  cases hX'
  by_cases h0:l2=0
  ·have hn:new=[]:=XI.1 (by omega)
   subst hn
   have hrun:=Hroom (w':=w) (A:=XG) (l:=0) (k:=0) (by omega) rfl
   refine⟨_,_,.inl (exec hval hrun),?_⟩
   refine gL.change s.heap.length XG (.arr 0 sz []) hK h.rel (Yj _) (Io.refl _) (fun _ _ _=>rfl) (fun b o hx=>by cases hx) (by rw[iY];trivial) (fun _=> .inl ⟨bn _ _ _,rfl⟩) ?_
   intro gl av hav;cases hav
   exact⟨0,sz,[],bn _ _ _,Yj _,XG,0+l2,0,rfl,fun _=>⟨by simp[h0],by simp[h0],fun c hc=>(by cases hc),fun _=>(by simp),.inl rfl⟩⟩
  ·refine grow (us:=[]) (xP:=[]) (id:=s.heap.length) (e':=0) hval (by omega) (by omega) (Yj _) (by simp) rfl rfl ⟨by simp,by simp,fun i row hi=>by simp at hi⟩ (.inl (iY _)) ?_
   simpa using hK
 ·
  rename_i id ep off len
  obtain⟨e1,sz1,rows,hG,hle,A,l,k,hx2,hA⟩:=hX
  rw[hG]at hK
  simp only[]at hK
  obtain⟨rfl,rfl,hlen,hmax,hK⟩:=hK
  obtain⟨rfl,g1,_,g3,g4⟩:=hA rfl
  have hrl:((rows.drop off).take l).length=l:=by simp;omega
  by_cases hroom:l+l2≤k
  ·
   by_cases hk0:k=0
   ·have hl0:l=0:=by omega
    have hn:new=[]:=XI.1 (by omega)
    subst hn
    have hvn:vs=[]:=XI.1 (by simpa using hvl)
    subst hvn
    have hrun:=Hroom (w':=w) (A:=A) hroom (by cases A<;>rfl)
    refine⟨_,_,.inl (exec hx2 hrun),?_⟩
    refine gL.change id XG _ hK h.rel (Yj _) (Io.refl _) (fun _ _ _=>rfl) (fun b o hx=>by cases hx) (by rw[hG];exact⟨by omega,fun he=>by omega⟩) (fun _=> .inl ⟨bn _ _ _,by subst hl0;simp⟩) ?_
    intro gl av hav;cases hav
    exact⟨ep+1,sz1,_,bn _ _ _,Yj _,A,l+l2,k,rfl,fun _=>⟨by rw[hl2],by omega,fun c hc=>(by cases hc),fun _=>(by simp;omega),.inl hk0⟩⟩
   ·rcases g4 with g4|⟨b,o',m,hφ,rfl,hm,hle2⟩
    ·omega
    have hpl:off+l≤rows.length:=hlen
    have e3:(off+l)*sz1=off*sz1+l*sz1:=Yi _ _ _
    have e4:l*sz1+new.length*sz1≤k*sz1:=by rw[←Yi];exact Yh _ (by omega)
    obtain⟨w',cs,T,hst,hsz,hrest,hblk,hcl,hR,hio⟩:=pL (P:=P) h.rel hG hφ hvs hvl hpl hm (by omega)
    have hst':(Yx ((Addr.mk b (o'+off*sz1) XG).add (l*sz1)) vs).run P w= .ok () w':=by
     rw[jc,show o'+off*sz1+l*sz1=o'+(off+l)*sz1 by omega];exact hst
    have hrun:=Hroom (w':=w') (A:=XF ⟨b,o'+off*sz1,XG⟩) hroom hst'
    refine⟨_,_,.inl (exec hx2 hrun),?_⟩
    have hR2:=(hR.drop off (by simp[cf];omega)).take (l+new.length)
    have hrw:((cf rows (off+l) new).drop off).take (l+new.length)=(rows.drop off).take l++new:=by
     unfold cf
     rw[XY,List.drop_append_of_le_length (by simp;omega),List.take_append]
     rw[List.drop_take,show off+l-off=l by omega]
     rw[XR (by simp;omega)]
     congr 1
     rw[List.take_append_of_le_length (by simp;omega),XR (by simp;omega)]
    rw[hrw]at hR2
    refine gL.change id (XF (b,o'+off*sz1)) _ hK h.rel (by rw[hsz];exact Yj _) hio (fun b2 _ hn=>hrest b2 fun he=>hn o' (he▸hφ)) (fun b2 o2 hx=>by cases hx;exact .inl ⟨o',hφ⟩) (by rw[hG];exact⟨by omega,fun he=>by omega⟩)
     (fun gl=>(hR2.mono gl.fY).L1 (bn _ _ _) hblk) ?_
    intro gl av hav;cases hav
    exact⟨ep+1,sz1,_,bn _ _ _,Yj _,_,l+l2,k,rfl,fun _=>⟨by rw[hl2],by omega,fun c hc=>(by cases hc),fun _=>(by simp;omega),
     .inr ⟨b,_,m,bn _ _ _,by simp,by rw[eY hblk];simp[hcl],by omega⟩⟩⟩
  ·
   have hrowsC:np (hp s.heap) sz1 (.own id ep off l XG) fun xP=>xP=(rows.drop off).take l:=by
    simp only[np,hG];exact⟨trivial,trivial,hlen,trivial⟩
   obtain⟨xP,us,A',l',k',rfl,he',hl',hlk',hul,hfu,hRu⟩:=lp (P:=P) h.rel (v:=a.eval x) (dk h hx hcx) hrowsC
   rw[hx2]at he'
   cases he'
   rw[hx2]at hfu
   exact grow (id:=id) (e':=ep+1) hx2 (by omega) (by omega) g1 (by rw[hul,hrl]) hrl hfu hRu (.inr ⟨ep,sz1,rows,hG,by omega⟩) hK
 ·
  rename_i id ep off len c
  obtain⟨e1,sz1,rows,hG,hle,A,l,k,hx2,hA⟩:=hX
  rw[hG]at hK
  simp only[]at hK
  obtain⟨rfl,rfl,hlen,hK1,hK2⟩:=hK
  obtain⟨rfl,g1,g2,_,g4⟩:=hA rfl
  have:=g2 c rfl
  subst this
  have hrl:((rows.drop off).take l).length=l:=by simp;omega
  by_cases hroom:l+l2≤c
  ·have hK:=hK1 (by omega)
   by_cases hk0:c=0
   ·have hl0:l=0:=by omega
    have hn:new=[]:=XI.1 (by omega)
    subst hn
    have hvn:vs=[]:=XI.1 (by simpa using hvl)
    subst hvn
    have hrun:=Hroom (w':=w) (A:=A) hroom (by cases A<;>rfl)
    refine⟨_,_,.inl (exec hx2 hrun),?_⟩
    have hup:ed φ id (φ id)=φ:=by funext j;by_cases hj:j=id<;>simp[ed,hj]
    have hupG:ed (hp s.heap) id (XF (bw.arr ep sz1 (cf rows (off+l) [])))=hp s.heap:=by
     rw[iA,←hG];funext j;by_cases hj:j=id<;>simp[ed,hj]
    refine gL.change id (φ id) _ hK h.rel (Yj _) (Io.refl _) (fun _ _ _=>rfl) (fun b o hx=> .inl ⟨o,hx⟩) ?_ ?_ ?_
    ·rw[hG,hup,iA];exact gX.refl φ w id (XF (.arr ep sz1 rows))
    ·intro _;rw[hup,hupG,iA];exact h.rel.bZ _ _ hG
    ·intro gl av hav;cases hav
     rw[hup,hupG]
     exact⟨ep,sz1,rows,hG,Yj _,A,l+l2,c,rfl,fun _=>⟨by rw[hl2],by omega,fun c' hc=>(by cases hc;rfl),fun hc=>(by cases hc),.inl hk0⟩⟩
   ·rcases g4 with g4|⟨b,o',m,hφ,rfl,hm,hle2⟩
    ·omega
    have e3:(off+l)*sz1=off*sz1+l*sz1:=Yi _ _ _
    have e4:l*sz1+new.length*sz1≤c*sz1:=by rw[←Yi];exact Yh _ (by omega)
    obtain⟨w',cs,T,hst,hsz,hrest,hblk,hcl,hR,hio⟩:=pL (P:=P) h.rel hG hφ hvs hvl hlen hm (by omega)
    have hst':(Yx ((Addr.mk b (o'+off*sz1) XG).add (l*sz1)) vs).run P w= .ok () w':=by
     rw[jc,show o'+off*sz1+l*sz1=o'+(off+l)*sz1 by omega];exact hst
    have hrun:=Hroom (w':=w') (A:=XF ⟨b,o'+off*sz1,XG⟩) hroom hst'
    refine⟨_,_,.inl (exec hx2 hrun),?_⟩
    have hup:ed φ id (XF (b,o'))=φ:=by funext j;by_cases hj:j=id<;>simp[ed,hj,hφ]
    refine gL.change id (XF (b,o')) _ hK h.rel (by rw[hsz];exact Yj _) hio (fun b2 _ hn=>hrest b2 fun he=>hn o' (he▸hφ)) (fun b2 o2 hx=>by cases hx;exact .inl ⟨o',hφ⟩) ?_ (fun gl=>(hR.mono gl.fY).L1 (bn _ _ _) hblk) ?_
    ·rw[hG,hup]
     refine⟨Yj _,fun _=>⟨rfl,by simp[cf];omega,rfl,fun b2 o2 hb2=>?_⟩⟩
     rw[hφ]at hb2;cases hb2
     rw[eY hblk,hm];simp[hcl]
    ·intro gl av hav;cases hav
     exact⟨ep,sz1,_,bn _ _ _,Yj _,_,l+l2,c,rfl,fun _=>⟨by rw[hl2],by omega,fun c' hc=>(by cases hc;rfl),fun hc=>(by cases hc),
      .inr ⟨b,o',m,bn _ _ _,rfl,by rw[eY hblk];simp[hcl],hle2⟩⟩⟩
  ·obtain⟨hmax,hK⟩:=hK2 (by omega)
   have hrowsC:np (hp s.heap) sz1 (.own id ep off l (XF c)) fun xP=>xP=(rows.drop off).take l:=by
    simp only[np,hG];exact⟨trivial,trivial,hlen,trivial⟩
   obtain⟨xP,us,A',l',k',rfl,he',hl',hlk',hul,hfu,hRu⟩:=lp (P:=P) h.rel (v:=a.eval x) (dk h hx hcx) hrowsC
   rw[hx2]at he'
   cases he'
   rw[hx2]at hfu
   exact grow (id:=s.heap.length) (e':=0) hx2 (by omega) (by omega) g1 (by rw[hul,hrl]) hrl hfu hRu (.inl (iY _)) hK
 ·exact hK.elim
theorem Gp(h:dm n φ F s a w){t t2 e e2:Yt}{x y:Yv}{args:Array Yv}{ts:Array Yt}(ho:o.op= .call {callee:= .builtin .append,args,argTypes:=ts})(hargs:args.toList=[x,y])(hts:ts.toList=[t,t2])
 (hu:P.underlying t=XF (.slice e)) (hu2:P.underlying t2=XF (.slice e2)) {sz bytes:Nat} (hs:sn P e=XF sz) (hb:(P.info? e).map (·.bytes)=XF bytes) (hbl:bytes≤16384)
 {z:Value} (hz:(P.info? e).bind (·.zero)=XF z) (hzl:z.cells.size=sz) {x' y':O} (hx:cO x=XF x') (hy:cO y=XF y') {cx cy:C} (hcx:s.e9 x'=XF cx) (hcy:s.e9 y'=XF cy)
 (hk:np (hp s.heap) sz cy fun new=>r6 s sz cx new K):cc P o a φ F s w K:=by
 obtain⟨new,vs,A2,l2,k2,hK,hy2,hl2,hlk2,hvl,hfy,hvs⟩:=lp (P:=P) h.rel (dk h hy hcy) hk
 rw[hy2]at hfy
 refine BN (e:=e) h ho hargs hts hx hcx hy2 hl2 hvl hvs (fun hroom hst=>run_append_room hu hu2 hs hroom hfy hst) (fun hroom hmax hlk hus hfold=>?_) hK
 exact run_append_grow hu hu2 hs hb hbl hz hzl hroom hmax hlk hus (by rw[hvl,hl2]) hfold hfy (jQ hfold) (jQ hfy)
theorem wrap_small{n:Nat}(h:n≤4294967296):YN.wrap (n:Int)=n:=by
 simp[YP,YQ,YO];omega
theorem xf{t t2 e rt:Yt}{kk k3:YA}{sz bytes:Nat}(hu:P.underlying t=XF (.slice e))(hu2:P.underlying t2=XF (.int kk))(hs:sn P e=XF sz)(hb:(P.info? e).map (·.bytes)=XF bytes)
 (hbl:bytes≤16384) {z:Value} (hz:(P.info? e).bind (·.zero)=XF z) (hzl:z.cells.size=sz) {A:Option YB} {l k l2:Nat} (hn:l2≤4294967296)
 (hroom:l+l2≤k) {w':Yw}
 (hst:match A with|some b=>(Yx (b.add (l*sz)) (Ya z.cells l2).toList).run P w= .ok () w'|none=>w'=w):
 (Yb #[t,t2] rt #[.slice A l k,.int k3 l2]).run P w= .ok (.slice A (l+l2) k) w':=by
 have e0:(#[t,t2]:Array Yt)[0]? =XF t:=rfl
 have e1:(#[t,t2]:Array Yt)[1]? =XF t2:=rfl
 have e2:(#[YU A l k,.int k3 l2])[0]? =XF (.slice A l k):=rfl
 have e3:(#[YU A l k,.int k3 l2])[1]? =XF (.int k3 l2):=rfl
 obtain⟨i,hi,hib⟩:=XC.1 hb
 have h48:¬((l2:Int)*(i.bytes:Int)>2^48):=by
  rw[←YT]
  have:l2*i.bytes≤4294967296*16384:=Yk hn (by omega)
  omega
 have hneg:¬((l2:Int)<0):=by omega
 simp only[Yb,e0,e1,e2,e3,run_bind,run_underlying hu,run_underlying hu2,run_sizeOf hs,run_pure,if_true,asInt,asIntOf,wrap_small hn,run_typeInfo hi,if_neg hneg,if_neg h48,YR]
 rw[if_pos hroom]
 by_cases h0:l2*sz=0
 ·have hzc:(Ya z.cells l2).toList=[]:=XI.1 (by rw[YJ,fJ,hzl,h0])
  rw[hzc]at hst
  simp only[YG,YD,if_false,if_pos h0,run_bind,run_pure]
  cases A with
  |none=>simp only at hst;subst hst;rfl
  |some b=>simp only[hst,run_bind,run_pure]
 ·simp only[YG,YD,if_false,if_neg h0,run_bind,run_pure,fL hz]
  cases A with
  |none=>simp only at hst;subst hst;rfl
  |some b=>simp only[hst,run_bind,run_pure]
theorem xg{t t2 e rt:Yt}{kk k3:YA}{sz bytes:Nat}(hu:P.underlying t=XF (.slice e))(hu2:P.underlying t2=XF (.int kk))(hs:sn P e=XF sz)(hb:(P.info? e).map (·.bytes)=XF bytes)
 (hbl:bytes≤16384) {z:Value} (hz:(P.info? e).bind (·.zero)=XF z) (hzl:z.cells.size=sz) {A:Option YB} {l k l2:Nat} {us:List Value} (hn:l2≤4294967296)
 (hroom:k<l+l2) (hmax:l+l2≤4294967296) (hl:l≤k) (hus:us.length=l*sz)
 (hold:(X9 sz l (.slice A l k)).run P w= .ok us.toArray w):
 ∃nc rest,l+l2≤nc∧(us++(Ya z.cells l2).toList++rest).length=nc*sz∧(Yb #[t,t2] rt #[.slice A l k,.int k3 l2]).run P w=
  .ok (.slice (XF ⟨w.heap.size,0,XG⟩) (l+l2) nc) {w with drawn:=w.drawn+1,heap:=w.heap.push (.cells (us++(Ya z.cells l2).toList++rest).toArray e (0,0))}:=by
 have e0:(#[t,t2]:Array Yt)[0]? =XF t:=rfl
 have e1:(#[t,t2]:Array Yt)[1]? =XF t2:=rfl
 have e2:(#[YU A l k,.int k3 l2])[0]? =XF (.slice A l k):=rfl
 have e3:(#[YU A l k,.int k3 l2])[1]? =XF (.int k3 l2):=rfl
 obtain⟨i,hi,hib⟩:=XC.1 hb
 have hold':=jQ (m:=w.drawn+1) hold
 have h48:¬((l2:Int)*(i.bytes:Int)>2^48):=by
  rw[←YT]
  have:l2*i.bytes≤4294967296*16384:=Yk hn (by omega)
  omega
 have hneg:¬((l2:Int)<0):=by omega
 have hcap:=vG hroom
 have hnot:¬Yc (l+l2) k*i.bytes>2^48:=by
  have:Yc (l+l2) k*i.bytes≤(2*(l+l2)+192)*16384:=Yk hcap (by omega)
  omega
 obtain⟨nc,hnc,hch⟩:∃nc,l+l2≤nc∧(choose (.appendCap (l+l2) k e)).run P w= .ok nc {w with drawn:=w.drawn+1}:=
  ⟨(l+l2)+w.tape w.drawn (.appendCap (l+l2) k e)%(2^63-(l+l2)),Yq _ _,by simp only[choose,Sem.run,Question.forced,YD,if_false,Question.cut]⟩
 refine⟨nc,(Ya z.cells (nc-(l+l2))).toList,hnc,?_,?_⟩
 ·simp only[XO,YJ,fJ,hzl,hus]
  rw[←Yi,←Yi];congr 1;omega
 ·have hask:∀(m:Nat) (w:Yw),(askRoom m).run P w= .ok () w:=by
   intro m w;unfold askRoom;split<;>rfl
  have hmaxI:¬(((l+l2:Nat):Int)>YN.max):=by
   have:YN.max=9223372036854775807:=by decide
   rw[this];omega
  have hz0:l2*sz=0→Ya z.cells l2= #[]:=fun h0=>by
   apply YK;rw[fJ,hzl,h0]
  simp only[Yb,e0,e1,e2,e3,run_bind,run_underlying hu,run_underlying hu2,run_sizeOf hs,run_pure,if_true,asInt,asIntOf,wrap_small hn,run_typeInfo hi,if_neg hneg,if_neg h48,YR]
  rw[if_neg (by omega)]
  simp only[run_bind,run_typeInfo hi,run_pure,hmaxI,false_and,if_false,if_neg hnot]
  simp only[hch,hask,run_typeInfo hi,hold',YG,YD,if_false,run_bind,run_pure]
  by_cases h0:l2*sz=0
  ·simp only[if_pos h0,run_bind,run_pure,fL hz,newRow,run_newObj,hz0 h0]
   congr 4
   apply YL;simp
  ·simp only[if_neg h0,run_bind,run_pure,fL hz,newRow,run_newObj]
   congr 4
   apply YL;simp
end
end Go.Fw
namespace Go.Fw
section
variable {P:Yu} {o:YC} {a:Act} {φ:gP} {F:Nat→Prop} {s:St} {w:Yw} {K:Out→Prop} {n:Nat}
theorem sZ(b:YB)(vs:Array Value)(m:Nat):∀(i:Nat) (acc:Array Value) (k:Nat),k≤m→(Ys b i m acc).run P w= .ok vs w→
 (Ys b i k acc).run P w= .ok (vs.toList.take (acc.size+k)).toArray w∧acc.size+m=vs.size∧vs.toList.take acc.size=acc.toList:=by
 induction m with
 |zero=>
  intro i acc k hk h
  have:k=0:=by omega
  subst this
  simp only[Ys,run_pure,YW,and_true]at h⊢
  subst h
  have e:X3 acc.size acc.toList=acc.toList:=XR (by simp)
  refine⟨?_,rfl,e⟩
  rw[Yo,e]
 |succ m ih=>
  intro i acc k hk h
  simp only[Ys,run_bind]at h
  cases hl:(load (b.add i)).run P w with
  |halt x w1=>rw[hl]at h;cases h
  |ok v w1=>
   have hw:w1=w:=by
    simp only[load,Sem.run]at hl
    split at hl
    ·cases hl;rfl
    ·split at hl
     ·cases hl;rfl
     ·cases hl
   subst hw
   rw[hl]at h
   simp only at h
   cases k with
   |zero=>
    obtain⟨h1,h2,h3⟩:=ih (i+1) (acc.push v) 0 (Yp _) h
    simp only[YM]at h1 h2 h3
    have h4:vs.toList.take acc.size=acc.toList:=by
     have:=congrArg (X3 acc.size) h3
     rw[X7]at this
     simpa using this
    refine⟨?_,by omega,h4⟩
    simp only[Ys,run_pure,Yo,h4]
   |succ k=>
    obtain⟨h1,h2,h3⟩:=ih (i+1) (acc.push v) k (by omega) h
    simp only[YM]at h1 h2 h3
    refine⟨?_,by omega,?_⟩
    ·simp only[Ys,run_bind,hl]
     rw[h1];congr 3;omega
    ·have:=congrArg (X3 acc.size) h3
     rw[X7]at this
     simpa using this
theorem rP{sz l k:Nat}{v:Value}{A:Option YB}{c:Nat}(hv:v= .slice A l c){vs:List Value}(h:(X9 sz l v).run P w= .ok vs.toArray w)(hl:vs.length=l*sz)(hk:k≤l):
 (X9 sz k v).run P w= .ok (vs.take (k*sz)).toArray w:=by
 subst hv
 cases A with
 |none=>
  simp only[X9,run_pure,YW,and_true]at h⊢
  have:vs=[]:=by have:=congrArg Array.toList h;simpa using this.symm
  subst this;simp
 |some b=>
  have:=sZ (P:=P) (w:=w) b vs.toArray (l*sz) 0 #[] (k*sz) (Yh _ hk) h
  have h1:=this.1
  simp only[List.size_toArray,List.length_nil,Ym]at h1
  exact h1
theorem eo.GG{vs:List Value}{sz:Nat}{rows:List (List D)}(h:eo w F vs 0 sz rows)(k:Nat)(hk:k≤rows.length):eo w F (vs.take (k*sz)) 0 sz (rows.take k):=by
 have h1:=h.le
 have h2:k*sz≤rows.length*sz:=Yh _ hk
 refine⟨by rw[XM,XM,Yl hk];omega,fun row hr=>h.len row (XW hr),fun i row hi j d hj=>?_⟩
 rw[XN]at hi
 split at hi
 ·rename_i hik
  obtain⟨u,hu,hd⟩:=h.get i row hi j d hj
  have hj':j<sz:=by rw[←h.len row (XK hi)];exact(XH.1 hj).1
  have:i*sz+sz≤k*sz:=by have:=Yh sz hik;rw[Yn]at this;exact this
  exact⟨u,by rw[XN,if_pos (by omega)];exact hu,hd⟩
 ·cases hi
def KL(s:St)(sz:Nat)(cx:C)(len':Nat)(new:List (List D))(K:List (Nat×bw)→Prop):Prop:=
 match cx with
 | .own id ep off _ _=>match hp s.heap id with
   |some (.arr e sz' rows)=>ep=e∧sz'=sz∧off≤rows.length∧K [(id,.arr ep sz (cf rows off (new.take len')))]
   |_=>False
 |_=>False
theorem xn(h:dm n φ F s a w){x:Yv}{x':O}(hx:cO x=XF x'){id ep off len:Nat}{cap:Option Nat}(hcx:s.e9 x'=XF (.own id ep off len cap)){sz:Nat}
 {vs:List Value} {new:List (List D)} (hvs:eo w F vs 0 sz new) (hvl:vs.length=new.length*sz) {L:List (Nat×bw)→Prop} {len':Nat} (hl:len'=new.length) (hnl:new.length≤len)
 (hk:KL s sz (.own id ep off len cap) len' new L):
 ∃A k w' wr,a.eval x= .slice A len k∧L wr∧(match A with|some b=>(Yx b vs).run P w= .ok () w'|none=>w'=w∧len=0)∧
  ∀(v:Value) (val:Option AV) (K:Out→Prop),Fw.dx v=YE∨val=XG→(val=XG∨∃u,u=v∧val=XF (.one (.c (.d (.v u)))))→K ⟨val,wr⟩→gL φ F s w K v w':=by
 obtain⟨e1,sz1,rows,hG,hle,A,l,k,hx2,hA⟩:=dk h hx hcx
 simp only[KL,hG]at hk
 obtain⟨rfl,rfl,hoff,hk⟩:=hk
 obtain⟨rfl,g1,g2,g3,g4⟩:=hA rfl
 subst hl
 rw[XR (Yj _)]at hk
 have hv:∀{φ F G w'} {v:Value} {val:Option AV},Fw.dx v=YE∨val=XG→(val=XG∨∃u,u=v∧val=XF (.one (.c (.d (.v u)))))→∀av,val=XF av→ec φ F G w' av v:=by
  intro φ F G w' v val hc hval av hav
  rcases hval with rfl|⟨u,rfl,rfl⟩
  ·cases hav
  ·cases hav
   rcases hc with hc|hc
   ·exact dh.v _ hc
   ·cases hc
 rcases g4 with g4|⟨b,o',m,hφ,rfl,hm,hle2⟩
 ·have hl0:l=0:=by omega
  have hn:new=[]:=XI.1 (by omega)
  subst hn
  have hvn:vs=[]:=XI.1 (by simpa using hvl)
  subst hvn
  refine⟨A,k,w,_,hx2,hk,?_,?_⟩
  ·cases A with
   |none=>exact⟨rfl,hl0⟩
   |some b=>rfl
  ·intro v val K hc hval hK
   have hup:ed φ id (φ id)=φ:=by funext j;by_cases hj:j=id<;>simp[ed,hj]
   have hupG:ed (hp s.heap) id (XF (bw.arr ep sz1 (cf rows off [])))=hp s.heap:=by
    rw[iA,←hG];funext j;by_cases hj:j=id<;>simp[ed,hj]
   refine gL.change id (φ id) _ hK h.rel (Yj _) (Io.refl _) (fun _ _ _=>rfl) (fun b o hx=> .inl ⟨o,hx⟩) ?_ ?_ ?_
   ·rw[hG,hup,iA];exact gX.refl φ w id (XF (.arr ep sz1 rows))
   ·intro _;rw[hup,hupG,iA];exact h.rel.bZ _ _ hG
   ·intro gl;exact hv hc hval
 ·have e4:new.length*sz1≤k*sz1:=Yh _ (by omega)
  obtain⟨w',cs,T,hst,hsz,hrest,hblk,hcl,hR,hio⟩:=pL (P:=P) h.rel hG hφ hvs hvl hoff hm (by omega)
  refine⟨_,k,w',_,hx2,hk,hst,?_⟩
  intro v val K hc hval hK
  have hup:ed φ id (XF (b,o'))=φ:=by funext j;by_cases hj:j=id<;>simp[ed,hj,hφ]
  refine gL.change id (XF (b,o')) _ hK h.rel (by rw[hsz];exact Yj _) hio (fun b2 _ hn=>hrest b2 fun he=>hn o' (he▸hφ)) (fun b2 o2 hx=>by cases hx;exact .inl ⟨o',hφ⟩) ?_ (fun gl=>(hR.mono gl.fY).L1 (bn _ _ _) hblk) ?_
  ·rw[hG,hup]
   refine⟨Yj _,fun _=>⟨rfl,by simp[cf];omega,rfl,fun b2 o2 hb2=>?_⟩⟩
   rw[hφ]at hb2;cases hb2
   rw[eY hblk,hm];simp[hcl]
  ·intro gl;exact hv hc hval
theorem IQ{G:eg}{c:C}{v:Value}(h:dA φ F G w c v)(k:Nat):∃v',dA φ F G w (wz k c) v'∧∀A l k2,v'= .slice A l k2→∃l0,v= .slice A l0 k2∧min l0 k=min l k:=by
 cases c with
 |own id ep off len cap=>
  obtain⟨e,sz,rows,hG,hle,A,l,k2,rfl,hA⟩:=h
  by_cases he:ep=e
  ·obtain⟨rfl,g1,g2,g3,g4⟩:=hA he
   refine⟨.slice A (min l k) k2,⟨e,sz,rows,hG,hle,A,min l k,k2,rfl,fun _=>⟨rfl,by omega,g2,fun hc=>?_,g4⟩⟩,fun A' l' k' hv=>?_⟩
   ·have:=g3 hc;omega
   ·cases hv;exact⟨l,rfl,by omega⟩
  ·exact⟨.slice A l k2,⟨e,sz,rows,hG,hle,A,l,k2,rfl,fun h=>(he h).elim⟩,fun A' l' k' hv=>⟨l',hv,rfl⟩⟩
 |_=>exact⟨v,h,fun A l k2 hv=>⟨l,hv,rfl⟩⟩
theorem wh{sz m:Nat}{A:Option YB}{l l' k:Nat}:X9 sz m (.slice A l k)=X9 sz m (.slice A l' k):=by cases A<;>rfl
theorem Di(h:dm n φ F s a w){t t2 e e2:Yt}{x y:Yv}{args:Array Yv}{ts:Array Yt}(ho:o.op= .call {callee:= .builtin .copy,args,argTypes:=ts})(hargs:args.toList=[x,y])(hts:ts.toList=[t,t2])
 (hu:P.underlying t=XF (.slice e)) (hu2:P.underlying t2=XF (.slice e2)) {sz:Nat} (hs:sn P e=XF sz) {x' y':O} (hx:cO x=XF x') (hy:cO y=XF y') {id ep off len:Nat} {cap:Option Nat} {cy:C}
 (hcx:s.e9 x'=XF (.own id ep off len cap)) (hcy:s.e9 y'=XF cy)
 (hk:np (hp s.heap) sz (wz len cy) fun new=>KL s sz (.own id ep off len cap) (min new.length len) (new.take (min new.length len)) fun wr=>K ⟨XF (.one (.c (.d (.v (.int .i64 (min new.length len:Nat)))))),wr⟩):cc P o a φ F s w K:=by
 obtain rfl:=kL hargs
 obtain rfl:=kL hts
 obtain⟨v2,hclip,hcl⟩:=IQ (dk h hy hcy) len
 obtain⟨new,vs,A2,l2',k2,hK,hy2',hl2,hlk2,hvl,hfy,hvs⟩:=lp (P:=P) h.rel hclip hk
 obtain⟨l2,hy2,hml⟩:=hcl _ _ _ hy2'
 have hmin:min new.length len≤new.length:=Nat.min_le_left _ _
 have hp':=rP hy2' hfy (by rw[hvl,hl2]) (k:=min new.length len) (by omega)
 have hR:=hvs.GG _ hmin
 have hlen1:(new.take (min new.length len)).length=min new.length len:=by simp
 obtain⟨A,k,w',wr,hx2,hL,hst,hres⟩:=xn (P:=P) h hx hcx hR (by
  rw[hlen1,XM,hvl]
  have:min new.length len*sz≤new.length*sz:=Yh _ hmin
  omega) hlen1.symm (by rw[hlen1];exact Nat.min_le_right _ _) hK
 refine⟨.int .i64 (min new.length len:Nat),w',.inl ?_,hres _ _ K (.inl rfl) (.inr ⟨_,rfl,rfl⟩) hL⟩
 rw[hy2',wh (l':=l2)]at hp'
 have key:(Yg #[t,t2] o.type #[.slice A len k,.slice A2 l2 k2]).run P w= .ok (.int .i64 (min new.length len:Nat)) w':=by
  have e0:(#[t,t2]:Array Yt)[0]? =XF t:=rfl
  have e2:(#[YU A len k,.slice A2 l2 k2])[0]? =XF (.slice A len k):=rfl
  have e3:(#[YU A len k,.slice A2 l2 k2])[1]? =XF (.slice A2 l2 k2):=rfl
  have em:Nat.min l2 len=min new.length len:=by rw[←hl2];exact hml
  simp only[Yg,e0,e2,e3,run_bind,run_underlying hu,Yd,run_pure,run_sizeOf hs,em,hp']
  cases A with
  |none=>
   obtain⟨rfl,_⟩:=hst
   rfl
  |some b=>simp only at hst;simp only[hst,goInt,run_bind,run_pure]
 simp only[Yz,ho,resolve,run_bind,run_pure,invoke,builtin,XV,X0,XX,hx2,hy2,key]
def ua(z:Value):List D:=z.cells.toList.map fun v=>yR (.v v)
theorem H7{v:Value}(h:dx v=YE):dh w F (yR (.v v)) v:=rz (.v v h)
theorem uA{z:Value}(hz:z.cells.toList.all dx=YE){sz:Nat}(hsz:z.cells.size=sz)(m:Nat):eo w F (Ya z.cells m).toList 0 sz (XL m (ua z)):=by
 have hlen:(Ya z.cells m).toList.length=m*sz:=by rw[YJ,fJ,hsz]
 refine⟨by rw[hlen];simp,fun row hr=>by rw[(List.mem_replicate.1 hr).2];simp[ua,hsz],fun i row hi j d hj=>?_⟩
 rw[List.getElem?_replicate]at hi
 split at hi
 ·rename_i him
  cases hi
  simp only[ua,XU,XC]at hj
  obtain⟨v,hv,rfl⟩:=hj
  have hjl:j<sz:=by have:=(XH.1 hv).1;simp only[YJ]at this;omega
  have him':i*sz+sz≤m*sz:=by have:=Yh sz him;rw[Yn]at this;exact this
  refine⟨v,?_,H7 (X4.1 hz v (XK hv))⟩
  simp only[Ya,Array.toList_map,Array.toList_range,XU,hsz]
  rw[List.getElem?_range (by omega)]
  simp only[Option.map_some,YV,Ym]
  have:(i*sz+j)%sz=j:=by rw[Yr,Nat.mul_add_mod];exact Nat.mod_eq_of_lt hjl
  rw[this]
  have h2:z.cells[j]? =XF v:=by simpa using hv
  simp[getElem!_def,h2]
 ·cases hi
theorem Bu(h:dm n φ F s a w){t e:Yt}{x:Yv}{args:Array Yv}{ts:Array Yt}(ho:o.op= .call {callee:= .builtin .clear,args,argTypes:=ts})(hargs:args.toList=[x])(hts:ts.toList=[t])
 (hu:P.underlying t=XF (.slice e)) {sz:Nat} {z:Value} (hz:(P.info? e).bind (·.zero)=XF z) (hzl:z.cells.size=sz) (hzc:z.cells.toList.all dx=YE) {x':O} (hx:cO x=XF x') {id ep off len:Nat} {cap:Option Nat}
 (hcx:s.e9 x'=XF (.own id ep off len cap)) (hk:KL s sz (.own id ep off len cap) len (XL len (ua z)) fun wr=>K ⟨XG,wr⟩):cc P o a φ F s w K:=by
 obtain rfl:=jT hargs
 obtain rfl:=jT hts
 have hR:eo w F (Ya z.cells len).toList 0 sz (XL len (ua z)):=uA hzc hzl len
 obtain⟨A,k,w',wr,hx2,hL,hst,hres⟩:=xn (P:=P) h hx hcx hR (by simp[fJ,hzl]) (by simp) (by simp) hk
 refine⟨.tuple #[],w',.inl ?_,hres _ XG K (.inr rfl) (.inl rfl) hL⟩
 have key:(Yf #[t] o.type #[.slice A len k]).run P w= .ok (.tuple #[]) w':=by
  have e0:(#[t]:Array Yt)[0]? =XF t:=rfl
  have e2:(#[YU A len k])[0]? =XF (.slice A len k):=rfl
  simp only[Yf,e0,e2,run_bind,run_underlying hu]
  cases A with
  |none=>obtain⟨rfl,_⟩:=hst;simp only[run_pure]
  |some b=>
   simp only at hst
   cases len with
   |zero=>
    have:(Ya z.cells 0).toList=[]:=by simp[Ya]
    rw[this,nG]at hst
    cases hst;simp only[run_pure]
   |succ len=>simp only[run_bind,fL hz,hst,run_pure]
 simp only[Yz,ho,resolve,run_bind,run_pure,invoke,builtin,XV,X0,XX,hx2,key]
theorem Ib(h:dm n φ F s a w){t e:Yt}{x y:Yv}(ho:o.op= .makeSlice t x y)(hu:P.underlying t=XF (.slice e)){sz bytes:Nat}(hs:sn P e=XF sz)(hb:(P.info? e).map (·.bytes)=XF bytes)(hbl:bytes≤16384)
 {z:Value} (hz:(P.info? e).bind (·.zero)=XF z) (hzl:z.cells.size=sz) (hzc:z.cells.toList.all dx=YE) {x' y':O} (hx:cO x=XF x') (hy:cO y=XF y') {k1 k2:YA} {l c:Nat} (hcx:s.eZ x'=XF (.int k1 l)) (hcy:s.eZ y'=XF (.int k2 c))
 (hlc:l≤c) (hc:c≤4294967296) (hk:K ⟨XF (.one (.c (.own s.heap.length 0 0 l XG))),[(s.heap.length,.arr 0 sz (XL l (ua z)))]⟩):cc P o a φ F s w K:=by
 have h1:=ee h hx hcx
 have h2:=ee h hy hcy
 obtain⟨i,hi,hib⟩:=XC.1 hb
 have hR:eo w F (Ya z.cells c).toList 0 sz (XL c (ua z)):=uA hzc hzl c
 have hR2:=hR.take l
 have:(XL c (ua z)).take l=XL l (ua z):=by simp[hlc]
 rw[this]at hR2
 have hlenc:(Ya z.cells c).toList.length=c*sz:=by rw[YJ,fJ,hzl]
 have hres:=gL.fresh (K:=K) (id:=s.heap.length) (e':=0) (off':=0) (len:=l) (k:=c) (T:=e) (w':={w with heap:=w.heap.push (.cells (Ya z.cells c) e (0,0))}) h.rel (.inl (iY _)) hR2 (by simp) hlc (by rw[hlenc];omega) (by simp) (Io.push rfl rfl rfl) hk
 refine⟨_,_,.inl ?_,hres⟩
 refine gj (x:=Instr.makeSlice t (a.eval x) (a.eval y)) (by simp only[Yz,ho]) ?_
 have w1:YN.wrap (l:Int)=l:=by simp[YP,YQ,YO];omega
 have w2:YN.wrap (c:Int)=c:=by simp[YP,YQ,YO];omega
 have hbc:(bytes:Int)*c≤16384*4294967296:=by
  have h0:bytes*c≤16384*4294967296:=Yk hbl hc
  rw[←YT];omega
 simp only[Instr.makeSlice,run_bind,run_underlying hu,h1,h2,asInt,asIntOf,run_pure,run_typeInfo hi,w1,w2,hib]
 rw[if_neg (by
  simp only[Bool.or_eq_true,decide_eq_true_eq,not_or]
  refine⟨⟨⟨by omega,by omega⟩,by omega⟩,by omega⟩)]
 have hask:∀(m:Nat) (w:Yw),(askRoom m).run P w= .ok () w:=by
  intro m w;unfold askRoom;split<;>rfl
 simp only[run_bind,hask,run_sizeOf hs,YR]
 by_cases h0:c*sz=0
 ·simp only[h0,if_true,run_pure,newRow,run_bind,run_newObj]
  have:Ya z.cells c= #[]:=by
   apply YK;rw[fJ,hzl];exact h0
  rw[this,Nat.zero_mul,show(Array.range 0)= #[]from rfl,XV,XX]
 ·simp only[h0,if_false,run_bind,fL hz,run_pure,newRow,run_newObj]
  congr 3
  ·simp
  ·congr 2
   simp only[Ya,hzl]
theorem DQ(h:dm n φ F s a w){t t2 e:Yt}{kk:YA}{x y:Yv}{args:Array Yv}{ts:Array Yt}(ho:o.op= .call {callee:= .builtin .append,args,argTypes:=ts})(hargs:args.toList=[x,y])(hts:ts.toList=[t,t2])
 (hu:P.underlying t=XF (.slice e)) (hu2:P.underlying t2=XF (.int kk)) {sz bytes:Nat} (hs:sn P e=XF sz) (hb:(P.info? e).map (·.bytes)=XF bytes) (hbl:bytes≤16384)
 {z:Value} (hz:(P.info? e).bind (·.zero)=XF z) (hzl:z.cells.size=sz) (hzc:z.cells.toList.all dx=YE) {x' y':O} (hx:cO x=XF x') (hy:cO y=XF y') {cx:C} {k3:YA} {l:Int} (hcx:s.e9 x'=XF cx) (hcy:s.eZ y'=XF (.int k3 l))
 (h0:0≤l) (hl:l≤4294967296) (hk:r6 s sz cx (XL l.toNat (ua z)) K):cc P o a φ F s w K:=by
 obtain⟨m,rfl⟩:=YS h0
 have hm:m≤4294967296:=by omega
 rw[YR]at hk
 have h2:a.eval y= .int k3 m:=ee h hy hcy
 refine BN (e:=e) h ho hargs hts hx hcx h2 (l2:=m) (by simp) (vs:=(Ya z.cells m).toList) (by simp[fJ,hzl]) (uA hzc hzl m)
  (fun hroom hst=>xf hu hu2 hs hb hbl hz hzl hm hroom hst) (fun hroom hmax hlk hus hfold=>xg hu hu2 hs hb hbl hz hzl hm hroom hmax hlk hus hfold) hk
end
end Go.Fw
namespace Go.Fw
section
variable {P:Yu}
def eN(P:Yu)(op:jS)(s:St)(K:Out→Prop):Prop:=
 match op with
 | .call f args=>uw s args fun as=>ko P f as s K
 | .callv g args=>match s.e9 g with
   |some (.fn f cs)=>uw s args fun as=>ko P f (as++cs.map fun c=> .c (.pt c.1 c.2)) s K
   |_=>False
 | .app sz _ x y=>match s.e9 x,s.e9 y with
   |some cx,XF cy=>np (hp s.heap) sz cy fun new=>r6 s sz cx new K
   |_,_=>False
 | .appz sz _ zero x y=>match s.e9 x,s.eZ y with
   |some cx,XF (.int _ l)=>0≤l∧l≤4294967296∧r6 s sz cx (XL l.toNat zero) K
   |_,_=>False
 | .copy sz x y=>match s.e9 x,s.e9 y with
   |some (.own id ep off len cap),XF cy=>np (hp s.heap) sz (wz len cy) fun new=>
     KL s sz (.own id ep off len cap) (min new.length len) (new.take (min new.length len)) fun wr=>K ⟨XF (.one (.c (.d (.v (.int .i64 (min new.length len:Nat)))))),wr⟩
   |_,_=>False
 | .clear sz zero x=>match s.e9 x with
   |some (.own id ep off len cap)=>KL s sz (.own id ep off len cap) len (XL len zero) fun wr=>K ⟨XG,wr⟩
   |_=>False
 | .mk sz _ zero l c=>match s.eZ l,s.eZ c with
   |some (.int _ l),XF (.int _ c)=>0≤l∧l≤c∧c≤4294967296∧
     K ⟨XF (.one (.c (.own s.heap.length 0 0 l.toNat XG))),[(s.heap.length,.arr 0 sz (XL l.toNat zero))]⟩
   |_,_=>False
 |op=>dp op s K
def jS.P5:jS→Bool
 | .call .. | .callv .. | .app .. | .appz .. | .copy .. | .clear .. | .mk .. =>YH
 |_=>YE
def QS(P:Yu)(e:Yt):Option Value:=(P.info? e).bind (·.zero)
def bytesOf(P:Yu)(e:Yt):Option Nat:=(P.info? e).map (·.bytes)
def sV(P:Yu)(e:Yt):Option (Nat×Nat×List D):=
 match sn P e,bytesOf P e,QS P e with
 |some sz,XF bytes,XF z=>if z.cells.size=sz∧bytes≤16384∧z.cells.toList.all dx=YE then XF (sz,bytes,ua z)else XG
 |_,_,_=>XG
def zD(P:Yu)(op:Op):Option jS:=
 match op with
 | .call {callee:= .value (.func f),args,..}=>(zS args.toList).map (.call f)
 | .call {callee:= .value g,args,..}=>(cO g).bind fun g=>(zS args.toList).map (.callv g)
 | .call {callee:= .builtin .append,args,argTypes}=>match args.toList,argTypes.toList with
   |[x,y],[t,t2]=>match P.underlying t,P.underlying t2 with
    |some (.slice e),XF (.slice _)=>(sV P e).bind fun z=>(cO x).bind fun a=>(cO y).map fun b=> .app z.1 z.2.1 a b
    |some (.slice e),XF (.int _)=>(sV P e).bind fun z=>(cO x).bind fun a=>(cO y).map fun b=> .appz z.1 z.2.1 z.2.2 a b
    |_,_=>XG
   |_,_=>XG
 | .call {callee:= .builtin .copy,args,argTypes}=>match args.toList,argTypes.toList with
   |[x,y],[t,t2]=>match P.underlying t,P.underlying t2 with
    |some (.slice e),XF (.slice _)=>(sn P e).bind fun sz=>(cO x).bind fun a=>(cO y).map fun b=> .copy sz a b
    |_,_=>XG
   |_,_=>XG
 | .call {callee:= .builtin .clear,args,argTypes}=>match args.toList,argTypes.toList with
   |[x],[t]=>match P.underlying t with
    |some (.slice e)=>(sV P e).bind fun z=>(cO x).map fun a=> .clear z.1 z.2.2 a
    |_=>XG
   |_,_=>XG
 | .makeSlice t l c=>match P.underlying t with
   |some (.slice e)=>(sV P e).bind fun z=>(cO l).bind fun a=>(cO c).map fun b=> .mk z.1 z.2.1 z.2.2 a b
   |_=>XG
 |op=>(gQ P op).bind fun a=>if a.P5 then XF a else XG
variable {o:YC} {a:Act} {φ:gP} {F:Nat→Prop} {s:St} {w:Yw} {K:Out→Prop} {n:Nat}
theorem kx{e:Yt}{z:Nat×Nat×List D}(h:sV P e=XF z):sn P e=XF z.1∧(P.info? e).map (·.bytes)=XF z.2.1∧∃zv,(P.info? e).bind (·.zero)=XF zv∧zv.cells.size=z.1∧z.2.1≤16384∧zv.cells.toList.all dx=YE∧z.2.2=ua zv:=by
 unfold sV at h
 split at h
 ·rename_i sz bytes zv h1 h2 h3
  split at h
  ·rename_i hc
   cases h
   exact⟨h1,h2,zv,h3,hc.1,hc.2.1,hc.2.2,rfl⟩
  ·cases h
 ·cases h
def qD(P:Yu)(o:YC)(a:Act)(φ:gP)(F:Nat→Prop)(s:St)(w:Yw)(K:Out→Prop):Prop:=
 ∀Q,o.wp P a w (fun a' w'=>∃v,a'=a.put o.dst v∧gL φ F s w K v w') Q
theorem cc.wp(h:cc P o a φ F s w K):qD P o a φ F s w K:=by
 intro Q
 obtain⟨v,w',hr|⟨hr,rfl⟩,hres⟩:=h
 ·unfold Oper.wp;rw[hr];exact⟨v,rfl,hres⟩
 ·unfold Oper.wp;rw[hr];exact⟨undef,rfl,hres⟩
theorem Bm{f:Yy}{as:List A1}{vs:Array Value}(h:dm n φ F s a w)(hr:(Yz a.eval o).run P w=(callFunc f vs).run P w)(hA:bX (cm φ F (hp s.heap) w) as vs.toList)(hk:ko P f as s K):
 qD P o a φ F s w K:=by
 intro Q
 unfold Oper.wp
 rw[hr]
 have:=hk φ F w vs.toList h.rel hA
 simp only[Array.toArray_toList]at this
 rcases this with⟨hok,hc⟩|⟨v,w',hc,hres⟩
 ·rw[mC hok]
  refine hc.mono ?_
  rintro e w' ⟨v,rfl,hres⟩
  exact⟨v,rfl,hres⟩
 ·rw[hc]
  exact⟨v,rfl,hres⟩
theorem Dr(h:dm n φ F s a w){f:Yy}{args:Array Yv}{ts:Array Yt}(ho:o.op= .call {callee:= .value (.func f),args,argTypes:=ts}){os:List O}(hos:zS args.toList=XF os)
 (hk:uw s os fun as=>ko P f as s K):qD P o a φ F s w K:=by
 obtain⟨as,hk,hA⟩:=mn h hos hk
 refine Bm (vs:=args.map a.eval) h ?_ (by simpa using hA) hk
 simp only[Yz,ho,resolve,Act.eval,Deferred.ofValue,run_bind,run_pure,invoke]
 have:(#[]:Array Value)++args.map a.eval++ #[]=args.map a.eval:=by simp
 rw[this]
theorem Bw(h:dm n φ F s a w){g:Yv}{args:Array Yv}{ts:Array Yt}(ho:o.op= .call {callee:= .value g,args,argTypes:=ts}){g':O}(hg:cO g=XF g'){os:List O}(hos:zS args.toList=XF os)
 {f:Yy} {cs:List (Nat×Nat)} (hgv:s.e9 g'=XF (.fn f cs)) (hk:uw s os fun as=>ko P f (as++cs.map fun c=> .c (.pt c.1 c.2)) s K):qD P o a φ F s w K:=by
 obtain⟨as,hk,hA⟩:=mn h hos hk
 obtain⟨us,hval,hlen,hus⟩:=dk h hg hgv
 have hcaps:bX (cm φ F (hp s.heap) w) (cs.map fun c=>A1.c (.pt c.1 c.2)) us:=by
  refine bX.of (by simpa using hlen.symm) fun i x y hx hy=>?_
  rw[XU,XC]at hx
  obtain⟨c,hc,rfl⟩:=hx
  obtain⟨cells,b,o',hG,hφ,hu⟩:=hus i c hc
  rw[hy]at hu;cases hu
  exact⟨cells,b,o',hG,hφ,rfl⟩
 refine Bm (vs:=args.map a.eval++us.toArray) h ?_ (by simpa using hA.append hcaps) hk
 simp only[Yz,ho,resolve,hval,Deferred.ofValue,run_bind,run_pure,invoke]
 have:(#[]:Array Value)++args.map a.eval=args.map a.eval:=by simp
 rw[this]
theorem FU{aop:jS}(hc:aop.P5=YE)(s:St)(K:Out→Prop):eN P aop s K=dp aop s K:=by
 cases aop<;>first|rfl|cases hc
theorem oX(h:dm n φ F s a w){aop:jS}(hc:zD P o.op=XF aop)(hk:eN P aop s K):qD P o a φ F s w K:=by
 unfold zD at hc
 split at hc
 ·rename_i f args ts ho
  rw[XC]at hc
  obtain⟨os,hos,rfl⟩:=hc
  exact Dr h ho hos hk
 ·rename_i g args ts _ ho
  rw[XD]at hc
  obtain⟨g',hg,hc⟩:=hc
  rw[XC]at hc
  obtain⟨os,hos,rfl⟩:=hc
  simp only[eN]at hk
  split at hk
  ·rename_i f cs hf
   exact Bw h ho hg hos hf hk
  ·exact hk.elim
 ·rename_i args ts ho
  split at hc
  ·rename_i x y t t2 hargs hts
   split at hc
   ·rename_i e e2 hu hu2
    simp only[XC,XD]at hc
    obtain⟨z,hz,x',hx,y',hy,rfl⟩:=hc
    obtain⟨h1,h2,zv,h3,h4,h5,h6,h7⟩:=kx hz
    simp only[eN]at hk
    split at hk
    ·rename_i cx cy hcx hcy
     exact cc.wp (Gp h ho hargs hts hu hu2 h1 h2 h5 h3 h4 hx hy hcx hcy hk)
    ·exact hk.elim
   ·rename_i e kk hu hu2
    simp only[XC,XD]at hc
    obtain⟨z,hz,x',hx,y',hy,rfl⟩:=hc
    obtain⟨h1,h2,zv,h3,h4,h5,h6,h7⟩:=kx hz
    simp only[eN]at hk
    split at hk
    ·rename_i cx k3 l hcx hcy
     rw[h7]at hk
     exact cc.wp (DQ h ho hargs hts hu hu2 h1 h2 h5 h3 h4 h6 hx hy hcx hcy hk.1 hk.2.1 hk.2.2)
    ·exact hk.elim
   ·cases hc
  ·cases hc
 ·rename_i args ts ho
  split at hc
  ·rename_i x y t t2 hargs hts
   split at hc
   ·rename_i e e2 hu hu2
    simp only[XC,XD]at hc
    obtain⟨sz,hs,x',hx,y',hy,rfl⟩:=hc
    simp only[eN]at hk
    split at hk
    ·rename_i id ep off len cap cy hcx hcy
     exact cc.wp (Di h ho hargs hts hu hu2 hs hx hy hcx hcy hk)
    ·exact hk.elim
   ·cases hc
  ·cases hc
 ·rename_i args ts ho
  split at hc
  ·rename_i x t hargs hts
   split at hc
   ·rename_i e hu
    simp only[XC,XD]at hc
    obtain⟨z,hz,x',hx,rfl⟩:=hc
    obtain⟨h1,h2,zv,h3,h4,h5,h6,h7⟩:=kx hz
    simp only[eN,h7]at hk
    split at hk
    ·rename_i id ep off len cap hcx
     exact cc.wp (Bu h ho hargs hts hu h3 h4 h6 hx hcx hk)
    ·exact hk.elim
   ·cases hc
  ·cases hc
 ·rename_i t l c ho
  split at hc
  ·rename_i e hu
   simp only[XC,XD]at hc
   obtain⟨z,hz,x',hx,y',hy,rfl⟩:=hc
   obtain⟨h1,h2,zv,h3,h4,h5,h6,h7⟩:=kx hz
   simp only[eN,h7]at hk
   split at hk
   ·rename_i k1 l k2 c hcx hcy
    obtain⟨q1,q2,q3,hk⟩:=hk
    obtain⟨l,rfl⟩:=YS q1
    obtain⟨c,rfl⟩:=YS (Int.le_trans q1 q2)
    exact cc.wp (Ib h ho hu h1 h2 h5 h3 h4 h6 hx hy hcx hcy (by omega) (by omega) (by simpa using hk))
   ·exact hk.elim
  ·cases hc
 ·rw[XD]at hc
  obtain⟨aop',hc,hif⟩:=hc
  split at hif
  ·rename_i h0
   cases hif
   rw[FU h0]at hk
   exact cc.wp (FN h hc hk)
  ·cases hif
end
end Go.Fw
