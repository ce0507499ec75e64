/- Each Go function as a function over typed data, and its walk. -/
import Derived.Test.YtdejhahgpojnoaaW0
import Derived.Test.YtdejhahgpojnoaaW1
import Derived.Test.YtdejhahgpojnoaaW2
import Derived.Test.YtdejhahgpojnoaaW3
namespace Go.Proofs.Ytdejhahgpojnoaa
open Go Go.Fw Go.Shelf
set_option maxRecDepth 100000
set_option maxHeartbeats 4000000
set_option linter.unusedSimpArgs false
set_option linter.unusedVariables false
def c14m:AC:=(.reg [Qa 67 8,
zl 68 (.opq 0 (.t 67)) [] []])
def c14n0:AC:=(.reg [sq 69 (.opq 1 (.t 68)),
Qo 70 69 0])
def c14n1:AC:=(.reg [sq 71 (.opq 2 (.t 68)),
Qo 72 71 0,
Qa 11 72])
def c14o1:AC:=(.reg [Qa 82 8,
Qa 83 13,
sq 84 (.mget 0 true (.c (dI 0)) (.t 82) (.t 83)),
Qa 81 84,
Qo 85 81 0,
Qo 86 81 1,
Qa 14 85,
Qa 15 86])
def c14o2:AC:=(.reg [Qa 87 15])
def c14o3:AC:=(.reg [Qa 88 8,
Qa 89 13,
sq 90 (.mget 0 false (.c (dI 0)) (.t 88) (.t 89)),
Qm 91 90 1,
su (.mset 0 (.t 88) (.t 89) (.t 91))])
def c14t:AC:=(.reg [Qa 93 8,
zl 94 (.opq 0 (.t 93)) [] []])
def c14u0:AC:=(.reg [sq 95 (.opq 1 (.t 94)),
Qo 96 95 0])
def c14u1:AC:=(.reg [sq 97 (.opq 2 (.t 94)),
Qo 98 97 0,
Qo 99 97 1,
Qa 17 98,
Qa 18 99])
def c14x:AC:=(.regd [⟨none,none,.mset 0 (.t 40) (.t 43) (.t 52),[0,1,2,3,4,5,6,7,8,9,10,11,12],(.lone [])⟩])
def aS16(om:List (Int×List Int))(lm:List (Int×Int))(free:List Int):St:=⟨[(3,oc (.mref 0)),(8,oc (.mref 1)),(16,oc (.own 2 0 0 (free.length) none))],[some (.map (eM1 (Value.int .i64) (fun x=> .sl (x.map eI)) om)),some (.map (eM1 (Value.int .i64) (fun x=> .v (.int .i64 x)) lm)),some (.arr 0 1 (free.map eI))]⟩
def aS17(om:List (Int×List Int))(lm:List (Int×Int))(free:List Int)(dn:Int):St:=⟨[(3,oc (.mref 0)),(8,oc (.mref 1)),(16,oc (.own 2 0 0 (free.length) none)),(19,oc (dI dn))],[some (.map (eM1 (Value.int .i64) (fun x=> .sl (x.map eI)) om)),some (.map (eM1 (Value.int .i64) (fun x=> .v (.int .i64 x)) lm)),some (.arr 0 1 (free.map eI))]⟩
def aS19(om:List (Int×List Int))(lm:List (Int×Int))(free:List Int)(dn:Int)(ys:List Int):St:=⟨[(3,oc (.mref 0)),(8,oc (.mref 1)),(16,oc (.own 2 0 0 (free.length) none)),(19,oc (dI dn)),(124,oc (dM (ys.map eI))),(125,oc (dI ((ys.length:Int)))),(126,oc (dI 0))],[some (.map (eM1 (Value.int .i64) (fun x=> .sl (x.map eI)) om)),some (.map (eM1 (Value.int .i64) (fun x=> .v (.int .i64 x)) lm)),some (.arr 0 1 (free.map eI))]⟩
def aS2(l:List Object)(ol:List (Int×D))(i:Int):St:=⟨[(0,oc (dM (l.map eObject))),(3,oc (.mref 0)),(26,oc (dM (l.map eObject))),(27,oc (dI ((l.length:Int)))),(28,oc (dI i))],[some (.map (eM1 (Value.int .i64) (fun x=>x) ol))]⟩
def aS4(l:List Object)(ol:List (Int×D))(i:Int)(o:Object)(k:Int):St:=⟨[(0,oc (dM (l.map eObject))),(3,oc (.mref 0)),(5,Pz 1),(26,oc (dM (l.map eObject))),(27,oc (dI ((l.length:Int)))),(28,oc (dI i)),(34,oc (dM (o.Meta.Owners.map eOwner))),(35,oc (dI ((o.Meta.Owners.length:Int)))),(36,oc (dI k))],[some (.map (eM1 (Value.int .i64) (fun x=>x) ol)),xb (bObject o)]⟩
def aS5(l:List Object)(R2:List (Value×A1))(i:Int)(o:Object)(k:Int)(x:Owner):St:=⟨[(0,oc (dM (l.map eObject))),(3,oc (.mref 0)),(5,Pz 1),(7,Pz 2),(26,oc (dM (l.map eObject))),(27,oc (dI ((l.length:Int)))),(28,oc (dI i)),(34,oc (dM (o.Meta.Owners.map eOwner))),(35,oc (dI ((o.Meta.Owners.length:Int)))),(36,oc (dI k))],[some (.map R2),xb (bObject o),xb (bOwner x)]⟩
def aS8(om:List (Int×List Int))(mo:D):St:=⟨[(3,oc (.mref 0)),(8,oc (.d (mo)))],[some (.map (eM1 (Value.int .i64) (fun x=> .sl (x.map eI)) om))]⟩
def aS9(om:List (Int×List Int))(mo:D)(it:D):St:=⟨[(3,oc (.mref 0)),(8,oc (.d (mo))),(68,oc (.d (it)))],[some (.map (eM1 (Value.int .i64) (fun x=> .sl (x.map eI)) om))]⟩
def aS10(om:List (Int×List Int))(mo:D)(it:D)(uid:Int):St:=⟨[(3,oc (.mref 0)),(8,oc (.d (mo))),(11,oc (dI uid)),(68,oc (.d (it)))],[some (.map (eM1 (Value.int .i64) (fun x=> .sl (x.map eI)) om))]⟩
def aS11(om:List (Int×List Int))(mo:D)(it:D)(ys:List Int)(k:Int):St:=⟨[(3,oc (.mref 0)),(8,oc (.d (mo))),(68,oc (.d (it))),(75,oc (dM (ys.map eI))),(76,oc (dI ((ys.length:Int)))),(77,oc (dI k))],[some (.map (eM1 (Value.int .i64) (fun x=> .sl (x.map eI)) om))]⟩
def aS12(om:List (Int×List Int))(mo:D)(free:List Int):St:=⟨[(3,oc (.mref 0)),(8,oc (.d (mo))),(16,oc (.own 1 0 0 (free.length) none))],[some (.map (eM1 (Value.int .i64) (fun x=> .sl (x.map eI)) om)),some (.arr 0 1 (free.map eI))]⟩
def aS13(om:List (Int×List Int))(mo:D)(it:D)(free:List Int):St:=⟨[(3,oc (.mref 0)),(8,oc (.d (mo))),(16,oc (.own 1 0 0 (free.length) none)),(94,oc (.d (it)))],[some (.map (eM1 (Value.int .i64) (fun x=> .sl (x.map eI)) om)),some (.arr 0 1 (free.map eI))]⟩
def aS14(om:List (Int×List Int))(mo:D)(it:D)(free:List Int)(uid:Int)(n:Int):St:=⟨[(3,oc (.mref 0)),(8,oc (.d (mo))),(16,oc (.own 1 0 0 (free.length) none)),(17,oc (dI uid)),(18,oc (dI n)),(94,oc (.d (it)))],[some (.map (eM1 (Value.int .i64) (fun x=> .sl (x.map eI)) om)),some (.arr 0 1 (free.map eI))]⟩
def aS15(om:List (Int×List Int))(mo:D)(it:D)(free:List Int)(uid:Int):St:=⟨[(3,oc (.mref 0)),(8,oc (.d (mo))),(16,oc (.own 1 0 0 (free.length) none)),(17,oc (dI uid)),(94,oc (.d (it)))],[some (.map (eM1 (Value.int .i64) (fun x=> .sl (x.map eI)) om)),some (.arr 0 1 (free.map eI))]⟩
def acE(r:List (Int×List Int)):List (Int×Int):=r.flatMap fun p=>p.2.map fun x=>(p.1,x)
def acAdd(m:List (Int×List Int))(e:Int×Int):List (Int×List Int):=putM e.1 ((getM e.1 m).getD []++[e.2]) m
def acM(E:List (Int×Int)):List (Int×List Int):=E.foldl acAdd []
def acOwn(E:List (Int×Int))(k:Int):List Int:=(E.filter fun e=>decide (e.1=k)).map (·.2)
def acZ(r:List (Int×List Int)):List (Int×Int):=r.foldl (fun m p=>putM p.1 0 m) []
def acK(r:List (Int×List Int)):List Int:=(acZ r).map (·.1)
def acV(K:List Int)(L:List Int):List (Int×Int):=K.map fun k=>(k,(L.count k:Int))
theorem ac_getput{α:Type}(k k':Int)(v:α):∀m:List (Int×α),getM k (putM k' v m)=if k'=k then some v else getM k m
 |[]=>by simp[putM,getM]
 |e::r=>by
  simp only[putM]
  by_cases h:e.1=k'
  ·rw[if_pos h]
   simp only[getM]
   by_cases h2:k'=k
   ·rw[if_pos h2,if_pos h2]
   ·rw[if_neg h2,if_neg h2,if_neg (by rw[h];exact h2)]
  ·rw[if_neg h]
   simp only[getM]
   by_cases h2:e.1=k
   ·rw[if_pos h2,if_pos h2,if_neg (fun e=>h (h2.trans e.symm))]
   ·rw[if_neg h2,if_neg h2]
    exact ac_getput k k' v r
theorem ac_putkeys{α:Type}(k:Int)(v:α):∀m:List (Int×α),(putM k v m).map (·.1)=if k∈m.map (·.1)then m.map (·.1)else m.map (·.1)++[k]
 |[]=>by simp[putM]
 |e::r=>by
  simp only[putM]
  by_cases h:e.1=k
  ·rw[if_pos h,if_pos (by simp[h])];simp[h]
  ·rw[if_neg h,List.map_cons,ac_putkeys k v r]
   have h':k≠e.1:=fun e=>h e.symm
   by_cases h2:k∈r.map (·.1)
   ·rw[if_pos h2,if_pos (by simp only[List.map_cons];exact List.mem_cons_of_mem _ h2)];rfl
   ·rw[if_neg h2,if_neg (by simp only[List.map_cons,List.mem_cons,not_or];exact⟨h',h2⟩)];rfl
theorem ac_getnone{α:Type}{k:Int}:∀{m:List (Int×α)},getM k m=none↔k∉m.map (·.1)
 |[]=>by simp[getM]
 |e::r=>by
  simp only[getM,List.map_cons,List.mem_cons,not_or]
  by_cases h:e.1=k
  ·simp[h]
  ·rw[if_neg h,ac_getnone]
   exact⟨fun q=>⟨fun e=>h e.symm,q⟩,fun q=>q.2⟩
theorem acM_snoc(E:List (Int×Int))(e:Int×Int):acM (E++[e])=acAdd (acM E) e:=by simp[acM]
theorem ac_snoc{α:Type}{P:List α→Prop}(h0:P [])(h1:∀l a,P l→P (l++[a]))(l:List α):P l:=by
 have key:∀r:List α,P r.reverse:=fun r=>by
  induction r with
  |nil=>exact h0
  |cons a r ih=>rw[List.reverse_cons];exact h1 _ _ ih
 have:=key l.reverse
 rwa [List.reverse_reverse]at this
theorem ac_get(k:Int)(E:List (Int×Int)):(getM k (acM E)).getD []=acOwn E k:=by
 refine ac_snoc (P:=fun E=>(getM k (acM E)).getD []=acOwn E k) rfl (fun E e ih=>?_) E
 ·rw[acM_snoc,acAdd,ac_getput]
  unfold acOwn
  rw[List.filter_append,List.map_append]
  by_cases h:e.1=k
  ·rw[if_pos h]
   subst h
   simp only[Option.getD_some]
   rw[ih]
   simp[acOwn]
  ·rw[if_neg h,ih]
   simp[h,acOwn]
theorem ac_get_some{k:Int}{E:List (Int×Int)}{ws:List Int}(h:getM k (acM E)=some ws):ws=acOwn E k:=by
 have:=ac_get k E;rw[h]at this;exact this
theorem ac_get_none{k:Int}{E:List (Int×Int)}(h:getM k (acM E)=none):acOwn E k=[]:=by
 have:=ac_get k E;rw[h]at this;exact this.symm
theorem acOwn_len(E:List (Int×Int))(k:Int):(acOwn E k).length≤E.length:=by
 unfold acOwn;rw[List.length_map];exact List.length_filter_le _ _
theorem acZ_go(r:List (Int×List Int)):∀m:List (Int×Int),(∀e∈m,e.2=0)→(m.map (·.1)).Nodup→
 (∀e∈r.foldl (fun m p=>putM p.1 (0:Int) m) m,e.2=0)∧((r.foldl (fun m p=>putM p.1 (0:Int) m) m).map (·.1)).Nodup∧(∀k,k∈(r.foldl (fun m p=>putM p.1 (0:Int) m) m).map (·.1)↔k∈m.map (·.1)∨∃p∈r,p.1=k)∧(r.foldl (fun m p=>putM p.1 (0:Int) m) m).length≤m.length+r.length:=by
 induction r with
 |nil=>intro m h1 h2;exact⟨h1,h2,fun k=>by simp,by simp⟩
 |cons p r ih=>
  intro m h1 h2
  have h3:∀e∈putM p.1 (0:Int) m,e.2=0:=by
   clear ih h2
   induction m with
   |nil=>intro e he;simp only[putM,List.mem_singleton]at he;rw[he]
   |cons a m ihm=>
    intro e he
    simp only[putM]at he
    split at he
    ·rcases List.mem_cons.1 he with rfl|he
     ·rfl
     ·exact h1 _ (List.mem_cons_of_mem _ he)
    ·rcases List.mem_cons.1 he with rfl|he
     ·exact h1 _ (List.mem_cons_self ..)
     ·exact ihm (fun e he=>h1 e (List.mem_cons_of_mem _ he)) e he
  have hk:=ac_putkeys p.1 (0:Int) m
  have h4:((putM p.1 (0:Int) m).map (·.1)).Nodup:=by
   rw[hk];split
   ·exact h2
   ·rename_i hn
    refine List.nodup_append.2 ⟨h2,by simp,fun a ha b hb=>?_⟩
    rw[List.mem_singleton.1 hb];exact fun e=>hn (e▸ha)
  have h5:(putM p.1 (0:Int) m).length≤m.length+1:=by
   have:((putM p.1 (0:Int) m).map (·.1)).length≤(m.map (·.1)).length+1:=by rw[hk];split<;>simp
   simpa using this
  obtain⟨q1,q2,q3,q4⟩:=ih _ h3 h4
  refine⟨q1,q2,fun k=>?_,by simp only[List.foldl_cons,List.length_cons];omega⟩
  rw[List.foldl_cons,q3,hk]
  constructor
  ·rintro(h|⟨p',h,rfl⟩)
   ·split at h
    ·exact .inl h
    ·rcases List.mem_append.1 h with h|h
     ·exact .inl h
     ·exact .inr ⟨p,List.mem_cons_self ..,(List.mem_singleton.1 h).symm⟩
   ·exact .inr ⟨p',List.mem_cons_of_mem _ h,rfl⟩
  ·rintro(h|⟨p',h,rfl⟩)
   ·split
    ·exact .inl h
    ·exact .inl (List.mem_append_left _ h)
   ·rcases List.mem_cons.1 h with rfl|h
    ·split
     ·rename_i hh;exact .inl hh
     ·exact .inl (List.mem_append_right _ (List.mem_singleton.2 rfl))
    ·exact .inr ⟨p',h,rfl⟩
theorem acK_nodup(r:List (Int×List Int)):(acK r).Nodup:=(acZ_go r [] (fun e h=>by cases h) List.nodup_nil).2.1
theorem acK_mem(r:List (Int×List Int))(k:Int):k∈acK r↔∃p∈r,p.1=k:=by
 have:=(acZ_go r [] (fun e h=>by cases h) List.nodup_nil).2.2.1 k
 unfold acK acZ;rw[this];simp
theorem acK_len(r:List (Int×List Int)):(acK r).length≤r.length:=by
 have:=(acZ_go r [] (fun e h=>by cases h) List.nodup_nil).2.2.2
 unfold acK acZ;rw[List.length_map];simpa using this
theorem acZ_eq(r:List (Int×List Int)):acZ r=acV (acK r) []:=by
 have h:=(acZ_go r [] (fun e h=>by cases h) List.nodup_nil).1
 unfold acV acK
 rw[List.map_map]
 have:∀m:List (Int×Int),(∀e∈m,e.2=0)→m=m.map ((fun k=>(k,(([]:List Int).count k:Int)))∘(·.1)):=by
  intro m hm
  induction m with
  |nil=>rfl
  |cons e m ih=>
   rw[List.map_cons,←ih fun e he=>hm e (List.mem_cons_of_mem _ he)]
   have:=hm e (List.mem_cons_self ..)
   obtain⟨a,b⟩:=e
   simp only at this
   subst this
   simp
 exact this _ h
theorem acV_get(K L:List Int)(x:Int):getM x (acV K L)=if x∈K then some (L.count x:Int)else none:=by
 unfold acV
 induction K with
 |nil=>simp[getM]
 |cons k K ih=>
  simp only[List.map_cons,getM]
  by_cases h:k=x
  ·subst h;simp
  ·rw[if_neg h,ih]
   have h':x≠k:=fun e=>h e.symm
   simp[h']
theorem acV_put{K:List Int}(hK:K.Nodup){L L':List Int}{x:Int}(hx:x∈K)(hL:∀k,k≠x→L'.count k=L.count k):putM x (L'.count x:Int) (acV K L)=acV K L':=by
 unfold acV
 induction K with
 |nil=>cases hx
 |cons k K ih=>
  simp only[List.map_cons,putM]
  have hn:=List.nodup_cons.1 hK
  by_cases h:k=x
  ·subst h
   rw[if_pos rfl]
   congr 1
   refine List.map_congr_left fun a ha=>?_
   rw[hL a fun e=>hn.1 (e▸ha)]
  ·rw[if_neg h,hL k h]
   congr 1
   exact ih hn.2 ((List.mem_cons.1 hx).resolve_left fun e=>h e.symm)
theorem acV_congr{K L L':List Int}(h:∀k∈K,L'.count k=L.count k):acV K L=acV K L':=by
 unfold acV;exact List.map_congr_left fun a ha=>by rw[h a ha]
def acRk(r:List (Int×List Int)):Prop:=∃rk:Int→Nat,∀p∈r,∀x∈p.2,(∃q∈r,q.1=x)→rk x<rk p.1
def acNx(r:List (Int×List Int)):List (Int×List Int):=r.filter fun p=>p.2.any fun x=>r.any fun q=>decide (q.1=x)
def acL:Nat→List (Int×List Int)→Bool
 |0,r=>r.isEmpty
 |n+1,r=>if(acNx r).length=r.length then r.isEmpty else acL n (acNx r)
theorem acNx_mem{r:List (Int×List Int)}{p:Int×List Int}:p∈acNx r↔p∈r∧∃x∈p.2,∃q∈r,q.1=x:=by
 simp[acNx,List.mem_filter,List.any_eq_true]
theorem ac_min{α:Type}(f:α→Nat):∀{l:List α},l≠[]→∃a∈l,∀b∈l,f a≤f b
 |[],h=>(h rfl).elim
 |[a],_=>⟨a,List.mem_cons_self ..,fun b hb=>by rw[List.mem_singleton.1 hb];exact Nat.le_refl _⟩
 |a::b::l,_=>by
  obtain⟨c,hc,hm⟩:=ac_min f (l:=b::l) (by simp)
  by_cases h:f a≤f c
  ·exact⟨a,List.mem_cons_self ..,fun d hd=>by
    rcases List.mem_cons.1 hd with rfl|hd
    ·exact Nat.le_refl _
    ·exact Nat.le_trans h (hm d hd)⟩
  ·exact⟨c,List.mem_cons_of_mem _ hc,fun d hd=>by
    rcases List.mem_cons.1 hd with rfl|hd
    ·omega
    ·exact hm d hd⟩
theorem acL_iff:∀(n:Nat) (r:List (Int×List Int)),r.length≤n→(acL n r=true↔acRk r)
 |0,r,h=>by
  have:r=[]:=List.length_eq_zero_iff.1 (by omega)
  subst this
  exact⟨fun _=>⟨fun _=>0,fun p hp=>by cases hp⟩,fun _=>rfl⟩
 |n+1,r,h=>by
  unfold acL
  have hsub:∀p∈acNx r,p∈r:=fun p hp=>(acNx_mem.1 hp).1
  split
  ·rename_i hl
   have hall:∀p∈r,∃x∈p.2,∃q∈r,q.1=x:=fun p hp=>by
    have:=List.length_filter_eq_length_iff.1 (show(r.filter _).length=r.length from hl) p hp
    have h2:p∈acNx r:=List.mem_filter.2 ⟨hp,this⟩
    exact(acNx_mem.1 h2).2
   constructor
   ·intro he
    have:r=[]:=by simpa using he
    subst this
    exact⟨fun _=>0,fun p hp=>by cases hp⟩
   ·rintro⟨rk,hrk⟩
    by_cases hr:r=[]
    ·simp[hr]
    ·obtain⟨p,hp,hmin⟩:=ac_min (fun p:Int×List Int=>rk p.1) hr
     obtain⟨x,hx,q,hq,rfl⟩:=hall p hp
     have h1:=hrk p hp _ hx ⟨q,hq,rfl⟩
     have h2:=hmin q hq
     omega
  ·rename_i hl
   have hle:(acNx r).length≤r.length:=List.length_filter_le _ _
   rw[acL_iff n (acNx r) (by omega)]
   constructor
   ·rintro⟨rk,hrk⟩
    refine⟨fun u=>if(acNx r).any (fun q=>decide (q.1=u))=true then rk u+1 else 0,fun p hp x hx hq=>?_⟩
    have hpn:p∈acNx r:=acNx_mem.2 ⟨hp,x,hx,hq⟩
    have h1:(acNx r).any (fun q=>decide (q.1=p.1))=true:=by
     rw[List.any_eq_true];exact⟨p,hpn,by simp⟩
    simp only[h1,if_true]
    by_cases h2:(acNx r).any (fun q=>decide (q.1=x))=true
    ·simp only[h2,if_true]
     obtain⟨q,hq1,hq2⟩:=List.any_eq_true.1 h2
     have:=hrk p hpn x hx ⟨q,hq1,by simpa using hq2⟩
     omega
    ·rw[if_neg h2];omega
   ·rintro⟨rk,hrk⟩
    exact⟨rk,fun p hp x hx ⟨q,hq,hqx⟩=>hrk p (hsub p hp) x hx ⟨q,hsub q hq,hqx⟩⟩
theorem ac_sub_len:∀{l m:List Int},l.Nodup→(∀x∈l,x∈m)→l.length≤m.length
 |[],m,_,_=>Nat.zero_le _
 |a::l,m,hn,hs=>by
  have ha:=hs a (List.mem_cons_self ..)
  have hn':=List.nodup_cons.1 hn
  have:=ac_sub_len (l:=l) (m:=m.erase a) hn'.2 fun x hx=>(List.mem_erase_of_ne (fun e:x=a=>hn'.1 (by rw[←e];exact hx))).2 (hs x (List.mem_cons_of_mem _ hx))
  rw[List.length_erase_of_mem ha]at this
  have:0<m.length:=List.length_pos_of_mem ha
  simp only[List.length_cons];omega
theorem ac_full{l m:List Int}(hn:l.Nodup)(hs:∀x∈l,x∈m)(hl:m.length≤l.length):∀x∈m,x∈l:=by
 intro x hx
 by_cases h:x∈l
 ·exact h
 ·have:=ac_sub_len (l:=x::l) (m:=m) (List.nodup_cons.2 ⟨h,hn⟩) fun y hy=>by
   rcases List.mem_cons.1 hy with rfl|hy
   ·exact hx
   ·exact hs y hy
  simp only[List.length_cons]at this;omega
theorem ac_max{α:Type}(f:α→Nat):∀{l:List α},l≠[]→∃a∈l,∀b∈l,f b≤f a
 |[],h=>(h rfl).elim
 |[a],_=>⟨a,List.mem_cons_self ..,fun b hb=>by rw[List.mem_singleton.1 hb];exact Nat.le_refl _⟩
 |a::b::l,_=>by
  obtain⟨c,hc,hm⟩:=ac_max f (l:=b::l) (by simp)
  by_cases h:f c≤f a
  ·exact⟨a,List.mem_cons_self ..,fun d hd=>by
    rcases List.mem_cons.1 hd with rfl|hd
    ·exact Nat.le_refl _
    ·exact Nat.le_trans (hm d hd) h⟩
  ·exact⟨c,List.mem_cons_of_mem _ hc,fun d hd=>by
    rcases List.mem_cons.1 hd with rfl|hd
    ·omega
    ·exact hm d hd⟩
theorem ac_dw{p:Int→Bool}:∀{l:List Int},l.dropWhile p=[]↔∀x∈l,p x=true
 |[]=>by simp
 |a::l=>by
  simp only[List.dropWhile_cons]
  cases h:p a with
  |true=>
   simp only[if_true,List.mem_cons,forall_eq_or_imp,h,true_and]
   exact ac_dw
  |false=>simp[h]
theorem acOwn_mem{r:List (Int×List Int)}{k x:Int}:x∈acOwn (acE r) k↔∃p∈r,p.1=k∧x∈p.2:=by
 unfold acOwn acE
 simp only[List.mem_map,List.mem_filter,List.mem_flatMap,decide_eq_true_eq]
 constructor
 ·rintro⟨e,⟨⟨p,hp,y,hy,rfl⟩,h2⟩,rfl⟩;exact⟨p,hp,h2,hy⟩
 ·rintro⟨p,hp,h2,hx⟩;exact⟨(p.1,x),⟨⟨p,hp,x,hx,rfl⟩,h2⟩,rfl⟩
def acRest(r:List (Int×List Int))(D:List Int):List Int:=((acK r).filter fun k=>decide (k∉D)).flatMap (acOwn (acE r))
theorem ac_end{r:List (Int×List Int)}{D:List Int}(hD:D.Nodup)(hs:∀x∈D,x∈acK r)(hpos:∀D1 x D2,D=D1++x::D2→∀k∈acK r,x∈acOwn (acE r) k→k∈D1)
 (hz:∀x∈acK r,(acRest r D).count x=0→x∈D):decide ((D.length:Int)=((acK r).length:Int))=acL r.length r:=by
 rw[Bool.eq_iff_iff,acL_iff _ r (Nat.le_refl _),decide_eq_true_eq]
 constructor
 ·intro h
  have hfull:=ac_full hD hs (by omega)
  refine⟨fun u=>(D.dropWhile fun y=>decide (y≠u)).length,fun p hp x hx hq=>?_⟩
  have hk:p.1∈acK r:=(acK_mem r _).2 ⟨p,hp,rfl⟩
  have hxD:x∈D:=hfull x ((acK_mem r x).2 hq)
  obtain⟨D1,D2,hDe⟩:=List.append_of_mem hxD
  have hkD:p.1∈D1:=hpos D1 x D2 hDe p.1 hk (acOwn_mem.2 ⟨p,hp,rfl,hx⟩)
  have hx1:x∉D1:=by
   rw[hDe]at hD
   exact fun hh=>(List.nodup_append.1 hD).2.2 x hh x (List.mem_cons_self ..) rfl
  have e1:D.dropWhile (fun y=>decide (y≠x))=x::D2:=by
   rw[hDe,List.dropWhile_append,if_pos]
   ·simp
   ·rw[List.isEmpty_iff,ac_dw]
    intro y hy;simp only[decide_eq_true_eq];exact fun e=>hx1 (e▸hy)
  have e2:(D1.dropWhile fun y=>decide (y≠p.1))≠[]:=by
   intro he
   rw[ac_dw]at he
   have:=he p.1 hkD
   simp at this
  have e3:D.dropWhile (fun y=>decide (y≠p.1))=D1.dropWhile (fun y=>decide (y≠p.1))++x::D2:=by
   rw[hDe,List.dropWhile_append,if_neg]
   rw[List.isEmpty_iff];exact e2
  show(D.dropWhile fun y=>decide (y≠x)).length<(D.dropWhile fun y=>decide (y≠p.1)).length
  rw[e1,e3,List.length_append]
  have:=List.length_pos_iff.2 e2
  omega
 ·rintro⟨rk,hrk⟩
  by_cases hfull:∀x∈acK r,x∈D
  ·have h1:=ac_sub_len hD hs
   have h2:=ac_sub_len (acK_nodup r) hfull
   omega
  ·exfalso
   have hne:((acK r).filter fun k=>decide (k∉D))≠[]:=by
    intro he
    refine hfull fun x hx=>?_
    rw[List.filter_eq_nil_iff]at he
    have:=he x hx
    simpa using this
   obtain⟨x,hx,hmax⟩:=ac_max rk hne
   obtain⟨hx1,hx2⟩:=List.mem_filter.1 hx
   have hx2:x∉D:=by simpa using hx2
   have hc:(acRest r D).count x≠0:=fun h=>hx2 (hz x hx1 h)
   have hm:x∈acRest r D:=List.count_pos_iff.1 (Nat.pos_of_ne_zero hc)
   obtain⟨k,hk,hxk⟩:=List.mem_flatMap.1 hm
   obtain⟨p,hp,rfl,hxp⟩:=acOwn_mem.1 hxk
   have h1:=hrk p hp x hxp ((acK_mem r x).1 hx1)
   have h2:=hmax p.1 hk
   omega
theorem ac_len(E:List (Int×Int)):∀{ks:List Int},ks.Nodup→(ks.flatMap (acOwn E)).length+(E.filter fun e=>decide (e.1∉ks)).length=E.length
 |[],_=>by simp
 |k::ks,hn=>by
  have hn':=List.nodup_cons.1 hn
  have ih:=ac_len E hn'.2
  have:(E.filter fun e=>decide (e.1∉ks)).length=(acOwn E k).length+(E.filter fun e=>decide (e.1∉k::ks)).length:=by
   clear ih
   unfold acOwn
   rw[List.length_map]
   induction E with
   |nil=>rfl
   |cons e E ihE=>
    simp only[List.mem_cons]at ihE⊢
    by_cases h1:e.1=k
    ·have h2:e.1∉ks:=h1▸hn'.1
     simp only[List.filter_cons,h1,decide_true,if_true,List.length_cons,List.mem_cons,true_or,not_true_eq_false,decide_false,Bool.false_eq_true,if_false,hn'.1,not_false_eq_true]
     rw[ihE]
     omega
    ·by_cases h2:e.1∈ks
     ·simp only[List.filter_cons,h1,h2,decide_false,Bool.false_eq_true,if_false,List.mem_cons,or_true,not_true_eq_false]
      exact ihE
     ·simp only[List.filter_cons,h1,h2,decide_false,Bool.false_eq_true,if_false,List.mem_cons,or_false,not_false_eq_true,decide_true,if_true,List.length_cons]
      rw[ihE]
      omega
  rw[List.flatMap_cons,List.length_append]
  omega
theorem acRest_len(r:List (Int×List Int))(D:List Int):(acRest r D).length≤(acE r).length:=by
 have:=ac_len (acE r) ((acK_nodup r).filter fun k=>decide (k∉D))
 unfold acRest;omega
theorem ac_flat_count(f:Int→List Int)(x:Int){u:Int}:∀{K:List Int},K.Nodup→∀{D:List Int},u∉D→u∈K→
 ((K.filter fun k=>decide (k∉D)).flatMap f).count x=(f u).count x+((K.filter fun k=>decide (k∉D++[u])).flatMap f).count x
 |[],_,D,_,hu=>by cases hu
 |k::K,hn,D,hD,hu=>by
  have hn':=List.nodup_cons.1 hn
  by_cases h:k=u
  ·subst h
   have e:(K.filter fun a=>decide (a∉D++[k]))=K.filter fun a=>decide (a∉D):=List.filter_congr fun a ha=>by
    have:a≠k:=fun e=>hn'.1 (e▸ha)
    simp[this]
   rw[List.filter_cons,if_pos (by simpa using hD),List.filter_cons,if_neg (by simp),e,List.flatMap_cons,List.count_append]
  ·have hu':=(List.mem_cons.1 hu).resolve_left fun e=>h e.symm
   have ih:=ac_flat_count f x hn'.2 hD hu'
   by_cases h2:k∈D
   ·rw[List.filter_cons,if_neg (by simpa using h2),List.filter_cons,if_neg (by simp[h2])]
    exact ih
   ·rw[List.filter_cons,if_pos (by simpa using h2),List.filter_cons,if_pos (by simp[h2,h]),List.flatMap_cons,List.flatMap_cons,List.count_append,List.count_append,ih]
    omega
def acP(o:Object):Int×List Int:=(o.Meta.Uid,o.Meta.Owners.map (·.Uid))
def acR(l:List Object):List (Int×List Int):=l.map acP
def F14(l:List Object):Option Bool:=(ck (l.length≤4294967290∧(acE (acR l)).length≤4294967290)).bind fun _=>some (acL (acR l).length (acR l))
def opsOf:AC→List AStep
 | .reg l=>l
 | .regd l=>l
 |_=>[]
def acSt:AStep:=⟨none,none,.mset 0 (.t 40) (.t 43) (.t 52),[0,1,2,3,4,5,6,7,8,9,10,11,12],(.lone [])⟩
def acIn2:AC:= .seq cF14g (.seq (.cond (.t 37) .skip (.exit 2)) (.seq (.block 3 (.seq cF14h (.regd (opsOf cF14rp++[acSt])))) cF14i))
def acIn1:AC:= .seq cF14d (.seq (.cond (.t 29) .skip (.exit 0)) (.seq (.block 1 (.seq cF14e (.seq cF14f (.block 2 (.loop acIn2))))) cF14j))
def acR1i:AC:= .seq cF14p (.seq (.cond (.t 78) .skip (.exit 8)) (.seq (.block 9 (.seq cF14o (.seq c14o1 (.seq c14o2 (.cond (.t 87) c14o3 .skip))))) cF14q))
def acR1:AC:= .seq c14n0 (.seq (.cond (.t 70) .skip (.exit 6)) (.block 7 (.seq c14n1 (.seq cF14n1 (.block 8 (.loop acR1i))))))
def acR2:AC:= .seq c14u0 (.seq (.cond (.t 96) .skip (.exit 10)) (.block 11 (.seq c14u1 (.seq cF14u2 (.cond (.t 101) cF14u .skip)))))
def acW:AC:= .seq cF14w (.block 13 (.seq cF14wa (.seq cF14wb (.seq cF14wc (.seq cF14wd cF14wf)))))
def a14:AFn:=⟨155,[.tmp 2],.seq cF14a (.seq cF14b (.seq (.seq cF14c (.block 0 (.loop acIn1))) (.seq cF14k (.seq cF14l (.seq (.seq c14m (.block 6 (.loop acR1))) (.seq cF14s (.seq (.seq c14t (.block 10 (.loop acR2))) (.seq cF14v (.seq (.block 12 (.loop acW)) cF14z)))))))))⟩
theorem a14_ok:afn Try.prog 14=some a14.er:=by kernel_rfl
abbrev AcG:=Int×Value×List Int
def enG(p:AcG):Option AE:=some (p.2.1,1,p.2.2.map eI)
def rowG(p:AcG):Int×D:=(p.1,.v p.2.1)
def omG(p:AcG):Int×List Int:=(p.1,p.2.2)
def acG(al:List (Option AE))(gs:List AcG):Prop:=∃ps:List Nat,ps.length=gs.length∧(∀(i:Nat) p g,ps[i]? =some p→gs[i]? =some g→al[p]? =some (enG g))∧∀(i j:Nat) p,ps[i]? =some p→ps[j]? =some p→i=j
theorem acG.nil:acG [] []:=⟨[],rfl,fun i p g h=>by simp at h,fun i j p h=>by simp at h⟩
theorem acG.lt{al:List (Option AE)}{gs:List AcG}{ps:List Nat}(h1:ps.length=gs.length)(h2:∀(i:Nat) p g,ps[i]? =some p→gs[i]? =some g→al[p]? =some (enG g)){i p:Nat}(h:ps[i]? =some p):p<al.length:=by
 have hi:=(List.getElem?_eq_some_iff.1 h).1
 exact(List.getElem?_eq_some_iff.1 (h2 i p _ h (List.getElem?_eq_getElem (by omega)))).1
theorem acG.push{al:List (Option AE)}{gs:List AcG}(h:acG al gs)(g:AcG):acG (al++[enG g]) (gs++[g]):=by
 obtain⟨ps,h1,h2,h3⟩:=h
 refine⟨ps++[al.length],by simp[h1],fun i p g' hp hg=>?_,fun i j p hi hj=>?_⟩
 ·by_cases hlt:i<ps.length
  ·rw[List.getElem?_append_left hlt]at hp
   rw[List.getElem?_append_left (by omega)]at hg
   rw[List.getElem?_append_left (acG.lt h1 h2 hp)]
   exact h2 i p g' hp hg
  ·rw[List.getElem?_append_right (by omega)]at hp hg
   have hi0:i-ps.length=0:=by
    have:=(List.getElem?_eq_some_iff.1 hp).1;simp at this;omega
   rw[hi0]at hp;rw[show i-gs.length=0 by omega]at hg
   simp only[List.getElem?_cons_zero,Option.some.injEq]at hp hg
   subst hp;subst hg
   simp
 ·have key:∀(i:Nat),(ps++[al.length])[i]? =some p→(i<ps.length∧ps[i]? =some p∧p<al.length)∨(i=ps.length∧p=al.length):=fun i hi=>by
   by_cases hlt:i<ps.length
   ·rw[List.getElem?_append_left hlt]at hi
    exact .inl ⟨hlt,hi,acG.lt h1 h2 hi⟩
   ·rw[List.getElem?_append_right (by omega)]at hi
    have hi0:i-ps.length=0:=by
     have:=(List.getElem?_eq_some_iff.1 hi).1;simp at this;omega
    rw[hi0]at hi
    simp only[List.getElem?_cons_zero,Option.some.injEq]at hi
    exact .inr ⟨by omega,hi.symm⟩
  rcases key i hi with⟨_,a,b⟩|⟨a,b⟩<;>rcases key j hj with⟨_,c,d⟩|⟨c,d⟩
  ·exact h3 i j p a c
  ·omega
  ·omega
  ·omega
theorem acG.at{al:List (Option AE)}{A B:List AcG}{g:AcG}(h:acG al (A++g::B)):∃p,al[p]? =some (enG g)∧∀g2,acG (al.set p none++[enG g2]) (A++g2::B):=by
 obtain⟨ps,h1,h2,h3⟩:=h
 have hlt:A.length<ps.length:=by rw[h1];simp
 obtain⟨p,hp⟩:∃p,ps[A.length]? =some p:=⟨_,List.getElem?_eq_getElem hlt⟩
 refine⟨p,h2 _ p g hp (by simp),fun g2=>⟨ps.set A.length al.length,by simp[h1],fun i q g' hq hg=>?_,fun i j q hi hj=>?_⟩⟩
 ·rw[List.getElem?_set]at hq
  by_cases hi:A.length=i
  ·rw[if_pos hi,if_pos (by omega)]at hq
   cases hq
   subst hi
   simp only[List.getElem?_append_right (Nat.le_refl _),Nat.sub_self,List.getElem?_cons_zero,Option.some.injEq]at hg
   subst hg
   rw[List.getElem?_append_right (by simp)];simp
  ·rw[if_neg hi]at hq
   have hne:q≠p:=fun e=>hi (h3 A.length i p hp (e▸hq))
   have hg':(A++g::B)[i]? =some g':=by
    rw[←hg]
    rw[List.getElem?_append,List.getElem?_append]
    split
    ·rfl
    ·obtain⟨k,hk⟩:∃k,i-A.length=k+1:=⟨i-A.length-1,by omega⟩
     rw[hk];rfl
   have:=h2 i q g' hq hg'
   rw[List.getElem?_append_left (by simpa using acG.lt h1 h2 hq),List.getElem?_set_ne (fun e=>hne e.symm)]
   exact this
 ·have key:∀(i:Nat),(ps.set A.length al.length)[i]? =some q→(i=A.length∧q=al.length)∨(i≠A.length∧ps[i]? =some q∧q<al.length):=fun i hi=>by
   rw[List.getElem?_set]at hi
   by_cases he:A.length=i
   ·rw[if_pos he,if_pos (by omega)]at hi;cases hi;exact .inl ⟨he.symm,rfl⟩
   ·rw[if_neg he]at hi;exact .inr ⟨fun e=>he e.symm,hi,acG.lt h1 h2 hi⟩
  rcases key i hi with⟨a,b⟩|⟨_,a,b⟩<;>rcases key j hj with⟨c,d⟩|⟨_,c,d⟩
  ·omega
  ·omega
  ·omega
  ·exact h3 i j q a c
theorem acG.split{k:Int}{ws:List Int}:∀{gs:List AcG},getM k (gs.map omG)=some ws→∃A u B,gs=A++(k,u,ws)::B∧∀e∈A,e.1≠k
 |[],h=>by cases h
 |g::gs,h=>by
  simp only[List.map_cons,getM]at h
  split at h
  ·rename_i hk
   obtain⟨a,b,c⟩:=g
   simp only[omG]at hk h
   cases h;subst hk
   exact⟨[],b,gs,rfl,fun e he=>by cases he⟩
  ·rename_i hk
   obtain⟨A,u,B,rfl,h2⟩:=acG.split h
   exact⟨g::A,u,B,rfl,fun e he=>by
    rcases List.mem_cons.1 he with rfl|he
    ·exact hk
    ·exact h2 e he⟩
theorem ac_put_at{α β:Type}{f:α→Int×β}{k:Int}{v:β}{B:List α}{g g2:α}(hg:(f g).1=k)(hg2:f g2=(k,v)):∀{A:List α},(∀e∈A,(f e).1≠k)→putM k v ((A++g::B).map f)=(A++g2::B).map f
 |[],_=>by simp[putM,hg,hg2]
 |a::A,h=>by
  simp only[List.cons_append,List.map_cons,putM]
  rw[if_neg (h a (List.mem_cons_self ..)),ac_put_at hg hg2 fun e he=>h e (List.mem_cons_of_mem _ he)]
theorem ac_put_new{α β:Type}{f:α→Int×β}{k:Int}{v:β}{g2:α}(hg2:f g2=(k,v)):∀{A:List α},(∀e∈A,(f e).1≠k)→putM k v (A.map f)=(A++[g2]).map f
 |[],_=>by simp[putM,hg2]
 |a::A,h=>by
  simp only[List.cons_append,List.map_cons,putM]
  rw[if_neg (h a (List.mem_cons_self ..)),ac_put_new hg2 fun e he=>h e (List.mem_cons_of_mem _ he)]
theorem ac_get_at{α β:Type}{f:α→Int×β}{k:Int}{v:β}{B:List α}{g:α}(hg:f g=(k,v)):∀{A:List α},(∀e∈A,(f e).1≠k)→getM k ((A++g::B).map f)=some v
 |[],_=>by simp[getM,hg]
 |a::A,h=>by
  simp only[List.cons_append,List.map_cons,getM]
  rw[if_neg (h a (List.mem_cons_self ..)),ac_get_at hg fun e he=>h e (List.mem_cons_of_mem _ he)]
theorem ac_E_take{l:List Object}{j:Nat}{o:Object}(h:l[j]? =some o):acE (acR (l.take (j+1)))=acE (acR (l.take j))++o.Meta.Owners.map fun x=>(o.Meta.Uid,x.Uid):=by
 rw[List.take_add_one,h]
 simp[acE,acR,acP,List.flatMap_append,Function.comp_def]
theorem ac_E_le(l:List Object)(j:Nat):(acE (acR (l.take j))).length≤(acE (acR l)).length:=by
 have:acE (acR l)=acE (acR (l.take j))++acE (acR (l.drop j)):=by
  rw[acE,acE,acE,←List.flatMap_append,acR,acR,acR,←List.map_append,List.take_append_drop]
 rw[this,List.length_append];omega
theorem ev_rdn{α:Type}{xs:List α}{i:Nat}{y:α}(h:xs[i]? =some y):rdI xs (i:Int)=some y:=by
 unfold rdI;rw[if_pos (by omega)];simpa using h
theorem ac_keyn{gs:List AcG}{k:Int}(h:getM k (gs.map omG)=none):∀e∈gs,e.1≠k:=by
 have:=ac_getnone.1 h
 simp only[List.map_map,List.mem_map,not_exists,not_and]at this
 exact fun e he=>this e he
theorem ac_eM(gs:List AcG):eM1 (Value.int .i64) (fun x:D=>x) (gs.map rowG)=eM1 (Value.int .i64) D.v (gs.map fun g=>(g.1,g.2.1)):=by simp[eM1,rowG,Function.comp_def]
section
variable {w0:World} {F0:Nat→Prop} {R:RVb} {l:List Object}
theorem ac_fin{gs:List AcG}{al:List (Option AE)}{i:Int}{o:Object}{k:Int}{R2:List (Value×A1)}{s:St}(hs:∀y∈(aS4 l (gs.map rowG) i o k).slots,lk s.slots y.1=some y.2)
 (hH:s.heap.take 2=some (.map R2)::(aS4 l (gs.map rowG) i o k).heap.drop 1) (hR2:R2=eM1 (Value.int .i64) (fun x=>x) (gs.map rowG)) (hR:R .normal (aS4 l (gs.map rowG) i o k) al []):Tel 155 w0 F0 (R .normal) s al []:=by
 subst hR2
 refine(Tel.view (s':=aS4 l (gs.map rowG) i o k) (m:=0) (View.to 2 hs hH (Nat.zero_le _) rfl ?_)).trans ?_
 ·have:((eM1 (Value.int .i64) (fun x:D=>x) (gs.map rowG)).all fun e=>e.2.below 2)=true:=by simp[eM1,A1.below,C.below]
  show((eM1 (Value.int .i64) (fun x:D=>x) (gs.map rowG)).all fun e=>e.2.below 2)&&true=true
  rw[this];rfl
 rintro _ _ _ ⟨rfl,rfl,rfl⟩
 exact Tel.refl hR
theorem ac_round{gs:List AcG}{al:List (Option AE)}{i:Int}{o:Object}{k:Int}{x:Owner}{E0:List (Int×Int)}(hb:E0.length<4294967290)(hG:acG al gs)(hm:gs.map omG=acM E0)
 (hE:∀gs' al',acG al' gs'→gs'.map omG=acM (E0++[(o.Meta.Uid,x.Uid)])→R .normal (aS4 l (gs'.map rowG) i o k) al' []):
 VB Try.prog 155 w0 F0 (.regd (opsOf cF14rp++[acSt])) (fun e s l' K=>Tel 155 w0 F0 (R e) s l' K) (aS5 l (eM1 (Value.int .i64) (fun x=>x) (gs.map rowG)) i o k x) al []:=by
 have hk:allK 0 (eM1 (Value.int .i64) (fun x:D=>x) (gs.map rowG))=true:=allK_1 kkI
 cases hg:getM o.Meta.Uid (gs.map omG)with
 |none=>
  have hn:=ac_keyn hg
  have hf:mfind (.int .i64 o.Meta.Uid) (eM1 (Value.int .i64) (fun x:D=>x) (gs.map rowG))=none:=by
   rw[mfind_1 kkI,ac_getnone.2 (by simp only[List.map_map,List.mem_map,not_exists,not_and];exact fun e he=>hn e he)];rfl
  refine VB.drawL (st:=acSt) rfl (by decide) (by decide) (piece_q (Q:=fun _ s'=>Tel 155 w0 F0 (VS Try.prog 155 w0 F0 [acSt] (fun s l' K=>Tel 155 w0 F0 (R .normal) s l' K)) s' al []) (F14rn_ok (r:=[x.Uid]) hk (by rw[hf];rfl) rfl ?_)) (fun s' h=>h)
  rintro⟨sl,H⟩ hH h0 h3 h5 h7 h26 h27 h28 h34 h35 h36 h40 h43 h52
  simp only at hH;subst hH
  refine(Tel.expelC (t:=52) (id:=4) (e:=0) (sz:=1) (rows:=[x.Uid].map eI) h52 rfl).trans ?_
  rintro _ _ _ ⟨⟨u,rfl,rfl⟩,rfl⟩
  refine Tel.refl (VS.msetN (o:=0) (R:=eM1 (Value.int .i64) (fun x:D=>x) (gs.map rowG)) (k:=o.Meta.Uid) (d:= .v u) rfl rfl rfl ?_ rfl ?_ rfl hk ?_)
  ·simp only[St.evC,St.ev,lk_cons];rw[if_neg (by decide),h40]
  ·simp only[St.evV,St.evC,St.ev,lk_cons];rw[if_neg (by decide),h43]
  ·refine ac_fin (gs:=gs++[(o.Meta.Uid,u,[x.Uid])]) ?_ rfl ?_ (hE _ _ (hG.push _) ?_)
   ·intro y hy
    simp only[aS4,List.mem_cons,List.not_mem_nil,or_false]at hy
    rcases hy with rfl|rfl|rfl|rfl|rfl|rfl|rfl|rfl|rfl<;>assumption
   ·rw[mput_1 kkI (enc:=fun x:D=>x)]
    rw[ac_put_new (f:=rowG) (g2:=(o.Meta.Uid,u,[x.Uid])) rfl hn]
   ·rw[acM_snoc,acAdd,←hm,hg]
    exact(ac_put_new (f:=omG) (g2:=((o.Meta.Uid,u,[x.Uid]):AcG)) rfl hn).symm
 |some ws=>
  obtain⟨A,u,B,rfl,hA⟩:=acG.split hg
  obtain⟨p,hp,hG2⟩:=hG.at
  have hw:ws=acOwn E0 o.Meta.Uid:=ac_get_some (hm▸hg)
  have hwl:ws.length≤E0.length:=by rw[hw];exact acOwn_len _ _
  have hf:mfind (.int .i64 o.Meta.Uid) (eM1 (Value.int .i64) (fun x:D=>x) ((A++(o.Meta.Uid,u,ws)::B).map rowG))=some (.c (.d (.v u))):=by
   rw[mfind_1 kkI,ac_get_at (f:=rowG) (v:= .v u) rfl hA];rfl
  refine VB.tell (Tel.adoptM (o:=0) (k:=o.Meta.Uid) (u:=u) (i:=p) (sz:=1) (rows:=ws.map eI) rfl hk hf hp) ?_
  rintro _ _ _ ⟨⟨rfl,rfl⟩,rfl⟩
  refine VB.drawL (st:=acSt) rfl (by decide) (by decide) (piece_q (Q:=fun _ s'=>Tel 155 w0 F0 (VS Try.prog 155 w0 F0 [acSt] (fun s l' K=>Tel 155 w0 F0 (R .normal) s l' K)) s' (al.set p none) []) (F14rp_ok (ws:=ws) (r:=ws++[x.Uid]) (allK_mput _ _ hk) (by rw[mfind_mput,List.length_map];rfl) (by unfold F14rp apI;rw[if_pos (by simp;omega)];rfl) ?_)) (fun s' h=>h)
  rintro⟨sl,H⟩ hH h0 h3 h5 h7 h26 h27 h28 h34 h35 h36 h40 h43 h52
  simp only at hH;subst hH
  refine(Tel.rawM (o:=0) rfl hk).trans ?_
  rintro _ _ _ ⟨⟨u1,rfl,rfl⟩,rfl⟩
  refine(Tel.expelC (t:=52) (id:=3) (e:=1) (sz:=1) (rows:=(ws++[x.Uid]).map eI) (show lk sl 52=some (oc (.own 3 1 0 ((ws++[x.Uid]).map eI).length none))by rw[List.length_map];exact h52) rfl).trans ?_
  rintro _ _ _ ⟨⟨u2,rfl,rfl⟩,rfl⟩
  refine Tel.refl (VS.msetN (o:=0) (R:=mput (.int .i64 o.Meta.Uid) (.c (.d (.v u1))) (eM1 (Value.int .i64) (fun x:D=>x) ((A++(o.Meta.Uid,u,ws)::B).map rowG))) (k:=o.Meta.Uid) (d:= .v u2) rfl rfl rfl ?_ rfl ?_ rfl (allK_mput _ _ hk) ?_)
  ·simp only[St.evC,St.ev,lk_cons];rw[if_neg (by decide),h40]
  ·simp only[St.evV,St.evC,St.ev,lk_cons];rw[if_neg (by decide),h43]
  ·refine ac_fin (gs:=A++(o.Meta.Uid,u2,ws++[x.Uid])::B) ?_ rfl ?_ (hE _ _ (hG2 _) ?_)
   ·intro y hy
    simp only[aS4,List.mem_cons,List.not_mem_nil,or_false]at hy
    rcases hy with rfl|rfl|rfl|rfl|rfl|rfl|rfl|rfl|rfl<;>assumption
   ·rw[mput_mput,mput_1 kkI (enc:=fun x:D=>x)]
    rw[ac_put_at (f:=rowG) (k:=o.Meta.Uid) (v:= .v u2) (g:=(o.Meta.Uid,u,ws)) (g2:=(o.Meta.Uid,u2,ws++[x.Uid])) rfl rfl hA]
   ·rw[acM_snoc,acAdd,←hm,hg]
    exact(ac_put_at (f:=omG) (g:=((o.Meta.Uid,u,ws):AcG)) (g2:=((o.Meta.Uid,u2,ws++[x.Uid]):AcG)) rfl rfl hA).symm
theorem ac_loop2{gs:List AcG}{al:List (Option AE)}{i:Int}{o:Object}{E0:List (Int×Int)}(hb:E0.length+o.Meta.Owners.length≤4294967290)(hG:acG al gs)(hm:gs.map omG=acM E0)
 (hE:∀gs' al',acG al' gs'→gs'.map omG=acM (E0++o.Meta.Owners.map fun x=>(o.Meta.Uid,x.Uid))→R .normal (aS2 l (gs'.map rowG) i) al' []):
 VB Try.prog 155 w0 F0 (.block 2 (.loop acIn2)) R (aS4 l (gs.map rowG) i o 0) al []:=by
 refine VB.block (VB.loop (fun k s al K=>∃(j:Nat) (gs':List AcG),k=o.Meta.Owners.length-j∧j≤o.Meta.Owners.length∧acG al gs'∧gs'.map omG=acM (E0++(o.Meta.Owners.take j).map fun x=>(o.Meta.Uid,x.Uid))∧K=[]∧s=aS4 l (gs'.map rowG) i o (j:Nat)) ⟨_,0,gs,rfl,Nat.zero_le _,hG,by simpa using hm,rfl,rfl⟩ ?_)
 rintro k s al K ⟨j,gs,rfl,hj,hG,hm,rfl,rfl⟩
 refine VB.pseq (F14g_ok rfl) ?_ noX noR
 rintro _ rfl
 refine VB.seq (VB.cond (t:=decide ((j:Int)<(o.Meta.Owners.length:Int))) rfl (fun hlt=>VB.skip ?_) (fun hge=>?_))
 ·have hlt:j<o.Meta.Owners.length:=by have:=of_decide_eq_true hlt;omega
  obtain⟨x,hx⟩:∃x,o.Meta.Owners[j]? =some x:=⟨_,List.getElem?_eq_getElem hlt⟩
  refine VB.tell (Tel.view (s':=aS4 l (gs.map rowG) i o (j:Nat)) (m:=0) (eV [some 0,some 1])) ?_
  rintro _ _ _ ⟨rfl,rfl,rfl⟩
  refine VB.seq (VB.block ?_)
  refine VB.pseq (F14h_ok (r:=x) (by unfold F14h;rw[ev_rdn hx];rfl)) ?_ noX noR
  rintro _ rfl
  refine VB.post (ac_round (k:=(j:Nat)) (E0:=E0++(o.Meta.Owners.take j).map fun x=>(o.Meta.Uid,x.Uid)) (by simp;omega) hG hm fun gs' al' hG' hm'=>?_) fun e s' l' K' h=>h
  refine VB.pc (F14i_ok rfl) ?_ noX noR
  rintro _ rfl
  refine Tel.refl ⟨o.Meta.Owners.length-(j+1),by omega,j+1,gs',rfl,by omega,hG',?_,rfl,?_⟩
  ·rw[hm',List.take_add_one,hx];simp
  ·rw[wrapN (by omega)];rfl
 ·have hge:¬j<o.Meta.Owners.length:=by have:=of_decide_eq_false hge;omega
  refine VB.tell (Tel.view (s':=aS2 l (gs.map rowG) i) (m:=0) (eV [some 0])) ?_
  rintro _ _ _ ⟨rfl,rfl,rfl⟩
  refine VB.exit (hE gs _ hG ?_)
  rw[hm,List.take_of_length_le (by omega)]
end
section
variable {w0:World} {F0:Nat→Prop} {R:RVb} {l:List Object}
theorem ac_loop1(hb:l.length≤4294967290)(hb2:(acE (acR l)).length≤4294967290)
 (hE:∀gs al,acG al gs→gs.map omG=acM (acE (acR l))→R .normal ⟨[(0,oc (dM (l.map eObject))),(3,oc (.mref 0))],[some (.map (eM1 (Value.int .i64) (fun x=>x) (gs.map rowG)))]⟩ al []):
 VB Try.prog 155 w0 F0 (.block 0 (.loop acIn1)) R (aS2 l [] 0) [] []:=by
 refine VB.block (VB.loop (fun k s al K=>∃(j:Nat) (gs:List AcG),k=l.length-j∧j≤l.length∧acG al gs∧gs.map omG=acM (acE (acR (l.take j)))∧K=[]∧s=aS2 l (gs.map rowG) (j:Nat)) ⟨_,0,[],rfl,Nat.zero_le _,acG.nil,rfl,rfl,rfl⟩ ?_)
 rintro k s al K ⟨j,gs,rfl,hj,hG,hm,rfl,rfl⟩
 refine VB.pseq (F14d_ok rfl) ?_ noX noR
 rintro _ rfl
 refine VB.seq (VB.cond (t:=decide ((j:Int)<(l.length:Int))) rfl (fun hlt=>VB.skip ?_) (fun hge=>?_))
 ·have hlt:j<l.length:=by have:=of_decide_eq_true hlt;omega
  obtain⟨o,ho⟩:∃o,l[j]? =some o:=⟨_,List.getElem?_eq_getElem hlt⟩
  refine VB.tell (Tel.view (s':=aS2 l (gs.map rowG) (j:Nat)) (m:=0) (eV [some 0])) ?_
  rintro _ _ _ ⟨rfl,rfl,rfl⟩
  refine VB.seq (VB.block ?_)
  refine VB.pseq (F14e_ok (r:=o) (by unfold F14e;rw[ev_rdn ho];rfl)) ?_ noX noR
  rintro _ rfl
  refine VB.pseq (F14f_ok rfl) ?_ noX noR
  rintro _ rfl
  have hl1:=ac_E_le l (j+1)
  have hl2:=congrArg List.length (ac_E_take ho)
  rw[List.length_append,List.length_map]at hl2
  refine ac_loop2 (E0:=acE (acR (l.take j))) (by omega) hG hm fun gs' al' hG' hm'=>?_
  refine VB.pc (F14j_ok rfl) ?_ noX noR
  rintro _ rfl
  refine Tel.refl ⟨l.length-(j+1),by omega,j+1,gs',rfl,by omega,hG',?_,rfl,?_⟩
  ·rw[hm',ac_E_take ho]
  ·rw[wrapN (by omega)];rfl
 ·have hge:¬j<l.length:=by have:=of_decide_eq_false hge;omega
  refine VB.tell (Tel.view (s':=⟨[(0,oc (dM (l.map eObject))),(3,oc (.mref 0))],[some (.map (eM1 (Value.int .i64) (fun x=>x) (gs.map rowG)))]⟩) (m:=0) (eV [some 0])) ?_
  rintro _ _ _ ⟨rfl,rfl,rfl⟩
  refine VB.exit (hE gs _ hG ?_)
  rw[hm,List.take_of_length_le (by omega)]
theorem ac_give{gs:List AcG}{al:List (Option AE)}{s:St}{om:List (Int×List Int)}(hG:acG al gs)(hm:gs.map omG=om)(hH:hp s.heap 0=some (.map (eM1 (Value.int .i64) (fun x=>x) (gs.map rowG)))):
 Tel 155 w0 F0 (fun s' l' K'=>(s'=⟨s.slots,hset s.heap 0 (.map (eM1 (Value.int .i64) (fun x=> .sl (x.map eI)) om))⟩∧l'=[])∧K'=[]) s al []:=by
 refine Tel.giveUpM (ol:=gs.map fun g=>(g.1,g.2.1)) (by rw[hH,ac_eM]) ?_
 obtain⟨ps,h1,h2,h3⟩:=hG
 refine All2.of (by rw[←hm];simp) fun i a b ha hb=>?_
 rw[List.getElem?_map]at ha
 rw[←hm,List.getElem?_map]at hb
 cases hg:gs[i]? with
 |none=>rw[hg]at ha;cases ha
 |some g=>
  rw[hg]at ha hb
  cases ha;cases hb
  have hi:=(List.getElem?_eq_some_iff.1 hg).1
  obtain⟨p,hp⟩:∃p,ps[i]? =some p:=⟨_,List.getElem?_eq_getElem (by omega)⟩
  exact⟨rfl,p,1,g.2.2.map eI,h2 i p g hp hg,rfl⟩
def acI(lm:List (Int×Int)):List (Int×Value):=lm.map fun p=>(p.1,.int .i64 p.2)
theorem acI_eq(lm:List (Int×Int)):eM1 (Value.int .i64) (fun x=>D.v (.int .i64 x)) lm=eM1 (Value.int .i64) D.v (acI lm):=by simp[eM1,acI,Function.comp_def]
theorem acI_get(k:Int):∀lm:List (Int×Int),getM k (acI lm)=(getM k lm).map (Value.int .i64)
 |[]=>rfl
 |e::r=>by
  simp only[acI,List.map_cons,getM]
  split
  ·rfl
  ·exact acI_get k r
theorem acI_put(k v:Int):∀lm:List (Int×Int),putM k (.int .i64 v) (acI lm)=acI (putM k v lm)
 |[]=>rfl
 |e::r=>by
  simp only[acI,List.map_cons,putM]
  split
  ·rfl
  ·rw[List.map_cons];congr 1;exact acI_put k v r
theorem ac_inc{om:List (Int×List Int)}{b c r n:Nat}{bs:List Nat}{sn:Array Nat}{it:D}{K:List Int}{L ys:List Int}{j:Int}{x:Int}(hK:K.Nodup)(hL:L.length<4294967290)
 (hT:R .normal (aS11 om (.v (.map (some b))) it ys j) [] [.mp b (acI (acV K (L++[x]))) bs c,.it r b n sn c]):
 VB Try.prog 155 w0 F0 (.seq c14o1 (.seq c14o2 (.cond (.t 87) c14o3 .skip))) (fun e s' l' K'=>Tel 155 w0 F0 (R e) s' l' K') ⟨[(3,oc (.mref 0)),(8,oc (.d (.v (.map (some b))))),(13,oc (dI x)),(68,oc (.d it)),(75,oc (dM (ys.map eI))),(76,oc (dI ((ys.length:Int)))),(77,oc (dI j))],[some (.map (eM1 (Value.int .i64) (fun x=> .sl (x.map eI)) om))]⟩ []
  [.mp b (acI (acV K L)) bs c,.it r b n sn c]:=by
 have hg:getM x (acI (acV K L))=if x∈K then some (.int .i64 (L.count x:Int))else none:=by
  rw[acI_get,acV_get];split<;>rfl
 refine VB.seq (VB.ws (VS.cons (VS.mv rfl rfl rfl rfl (VS.cons (VS.mv rfl rfl rfl rfl (VS.cons (VS.mget (b:=b) (k:=x) rfl rfl rfl rfl rfl (List.mem_cons_self ..) (VS.cons (VS.mv rfl rfl rfl rfl (VS.cons (VS.ext rfl rfl rfl rfl rfl (VS.cons (VS.ext rfl rfl rfl rfl rfl (VS.cons (VS.mv rfl rfl rfl rfl (VS.mv rfl rfl rfl rfl ?_))))))))))))))))
 refine VB.seq (VB.ws (VS.mv rfl rfl rfl rfl ?_))
 refine VB.cond (t:=((getM x (acI (acV K L))).map fun y=>A1.c (.d (.v y))).isSome) rfl (fun ht=>?_) (fun hf=>VB.skip ?_)
 ·by_cases hx:x∈K
  ·rw[if_pos hx]at hg
   refine VB.ws (VS.cons (VS.mv rfl rfl rfl rfl (VS.cons (VS.mv rfl rfl rfl rfl (VS.cons (VS.mget (b:=b) (k:=x) rfl rfl rfl rfl rfl (List.mem_cons_self ..) (VS.cons (VS.addI (a:=(L.count x:Int)) (b:=1) rfl rfl rfl ?_ rfl (VS.mset (K1:=[]) (K2:=[.it r b n sn c]) (b:=b) (k:=x) rfl rfl rfl rfl rfl rfl rfl ?_ ?_)))))))))
   ·simp only[hg];rfl
   ·intro z hz b' l' bs' c' e
    simp only[List.nil_append,List.mem_singleton]at hz
    subst hz;cases e
   ·have hc:L.count x≤L.length:=List.count_le_length
    have hw:IntKind.i64.wrap ((L.count x:Int)+1)=(((L++[x]).count x:Nat):Int):=by
     rw[wrapN (by omega)];simp
    rw[hg]
    simp only[Option.isSome_some,if_true,List.nil_append]
    rw[hw,acI_put,acV_put hK hx (fun k hk=>by rw[List.count_append,List.count_cons];simp[hk.symm])]
    refine(Tel.view (s':=aS11 om (.v (.map (some b))) it ys j) (m:=0) (eV [some 0])).trans ?_
    rintro _ _ _ ⟨rfl,rfl,rfl⟩
    exact Tel.refl hT
  ·rw[if_neg hx]at hg;rw[hg]at ht;cases ht
 ·by_cases hx:x∈K
  ·rw[if_pos hx]at hg;rw[hg]at hf;cases hf
  ·rw[acV_congr (L':=L++[x]) (fun k hk=>by
    have hkx:x≠k:=fun e=>hx (e▸hk)
    rw[List.count_append,List.count_cons];simp[hkx])]
   refine(Tel.view (s':=aS11 om (.v (.map (some b))) it ys j) (m:=0) (eV [some 0])).trans ?_
   rintro _ _ _ ⟨rfl,rfl,rfl⟩
   exact Tel.refl hT
end
def acSeen(K:List Int)(bs:List Nat)(ks:List Int)(sn:Array Nat):Prop:=ks.Nodup∧(∀x∈ks,x∈K)∧∀(i:Nat) k t,K[i]? =some k→bs[i]? =some t→(sn.contains t=true↔k∈ks)
theorem acSeen.nil(K:List Int)(bs:List Nat):acSeen K bs [] #[]:=⟨List.nodup_nil,(fun x h=>by cases h),fun i k t _ _=>by simp⟩
theorem ac_inj{α:Type}{l:List α}(hl:l.Nodup){i j:Nat}{a:α}(hi:l[i]? =some a)(hj:l[j]? =some a):i=j:=by
 obtain⟨h1,h2⟩:=List.getElem?_eq_some_iff.1 hi
 obtain⟨h3,h4⟩:=List.getElem?_eq_some_iff.1 hj
 exact(List.getElem_inj hl).1 (h2.trans h4.symm)
theorem acSeen.next{K:List Int}{bs:List Nat}{ks:List Int}{sn:Array Nat}(hK:K.Nodup)(hb:bs.Nodup)(h:acSeen K bs ks sn){j:Nat}{k:Int}{t:Nat}(hj:K[j]? =some k)(ht:bs[j]? =some t)(hs:sn.contains t=false):acSeen K bs (ks++[k]) (sn.push t)∧k∉ks:=by
 obtain⟨h1,h2,h3⟩:=h
 have hk:k∉ks:=fun hh=>by have:=(h3 j k t hj ht).2 hh;rw[hs]at this;cases this
 refine⟨⟨List.nodup_append.2 ⟨h1,by simp,fun a ha b hb'=>?_⟩,fun x hx=>?_,fun i k' t' hi ht'=>?_⟩,hk⟩
 ·rw[List.mem_singleton.1 hb'];exact fun e=>hk (e▸ha)
 ·rcases List.mem_append.1 hx with hx|hx
  ·exact h2 x hx
  ·rw[List.mem_singleton.1 hx];exact List.mem_of_getElem? hj
 ·rw[Array.contains_push,Bool.or_eq_true,h3 i k' t' hi ht',List.mem_append,List.mem_singleton]
  constructor
  ·rintro(h|h)
   ·exact .inl h
   ·have e:=eq_of_beq h
    subst e
    have:=ac_inj hb ht ht'
    subst this
    rw[hj]at hi;cases hi;exact .inr rfl
  ·rintro(h|h)
   ·exact .inl h
   ·subst h
    have:=ac_inj hK hj hi
    subst this
    rw[ht]at ht';cases ht';exact .inr (by simp)
theorem acSeen.full{K:List Int}{bs:List Nat}{ks:List Int}{sn:Array Nat}(hK:K.Nodup)(hl:bs.length=K.length)(h:acSeen K bs ks sn)(ha:∀t∈bs,sn.contains t=true):ks.Perm K:=by
 obtain⟨h1,h2,h3⟩:=h
 refine(List.perm_ext_iff_of_nodup h1 hK).2 fun x=>⟨h2 x,fun hx=>?_⟩
 obtain⟨i,hi⟩:=List.mem_iff_getElem?.1 hx
 have hlt:=(List.getElem?_eq_some_iff.1 hi).1
 obtain⟨t,ht⟩:∃t,bs[i]? =some t:=⟨_,List.getElem?_eq_getElem (by omega)⟩
 exact(h3 i x t hi ht).1 (ha t (List.mem_of_getElem? ht))
theorem acI_at{K L:List Int}{j:Nat}{k:Int}{v:Value}(h:(acI (acV K L))[j]? =some (k,v)):K[j]? =some k∧v= .int .i64 (L.count k:Int):=by
 simp only[acI,acV,List.map_map,List.getElem?_map,Option.map_eq_some_iff,Function.comp]at h
 obtain⟨a,h1,h2⟩:=h
 cases h2
 exact⟨h1,rfl⟩
section
variable {w0:World} {F0:Nat→Prop} {R:RVb}
theorem ac_loop8{om:List (Int×List Int)}{b c r n:Nat}{bs:List Nat}{sn:Array Nat}{it:D}{K:List Int}{L ys:List Int}(hK:K.Nodup)(hL:L.length+ys.length≤4294967290)
 (hE:R .normal (aS9 om (.v (.map (some b))) it) [] [.mp b (acI (acV K (L++ys))) bs c,.it r b n sn c]):
 VB Try.prog 155 w0 F0 (.block 8 (.loop acR1i)) R (aS11 om (.v (.map (some b))) it ys 0) [] [.mp b (acI (acV K L)) bs c,.it r b n sn c]:=by
 refine VB.block (VB.loop (fun k s al Ks=>∃(j:Nat),k=ys.length-j∧j≤ys.length∧al=[]∧Ks=[.mp b (acI (acV K (L++ys.take j))) bs c,.it r b n sn c]∧s=aS11 om (.v (.map (some b))) it ys (j:Nat)) ⟨_,0,rfl,Nat.zero_le _,rfl,by simp,rfl⟩ ?_)
 rintro k s al Ks ⟨j,rfl,hj,rfl,rfl,rfl⟩
 refine VB.pseq (F14p_ok rfl) ?_ noX noR
 rintro _ rfl
 refine VB.seq (VB.cond (t:=decide ((j:Int)<(ys.length:Int))) rfl (fun hlt=>VB.skip ?_) (fun hge=>?_))
 ·have hlt:j<ys.length:=by have:=of_decide_eq_true hlt;omega
  obtain⟨x,hx⟩:∃x,ys[j]? =some x:=⟨_,List.getElem?_eq_getElem hlt⟩
  refine VB.tell (Tel.view (s':=aS11 om (.v (.map (some b))) it ys (j:Nat)) (m:=0) (eV [some 0])) ?_
  rintro _ _ _ ⟨rfl,rfl,rfl⟩
  refine VB.seq (VB.block ?_)
  refine VB.pseq (F14o_ok (r:=x) (by unfold F14o;rw[ev_rdn hx];rfl)) ?_ noX noR
  rintro _ rfl
  refine VB.post (ac_inc (j:=(j:Nat)) hK (by rw[List.length_append,List.length_take];omega) ?_) fun e s' l' K' h=>h
  refine VB.pc (F14q_ok rfl) ?_ noX noR
  rintro _ rfl
  refine Tel.refl ⟨ys.length-(j+1),by omega,j+1,rfl,by omega,rfl,?_,?_⟩
  ·rw[List.take_add_one,hx,←List.append_assoc];rfl
  ·rw[wrapN (by omega)];rfl
 ·have hge:¬j<ys.length:=by have:=of_decide_eq_false hge;omega
  refine VB.tell (Tel.view (s':=aS9 om (.v (.map (some b))) it) (m:=0) (eV [some 0])) ?_
  rintro _ _ _ ⟨rfl,rfl,rfl⟩
  rw[List.take_of_length_le (by omega)]
  exact VB.exit hE
theorem ac_range1{r:List (Int×List Int)}{b c:Nat}{bs:List Nat}(hbs:bs.Nodup)(hbl:bs.length=(acK r).length)(hlt:∀t∈bs,t<c)(hE2:(acE r).length≤4294967290)
 (hE:R .normal (aS8 (acM (acE r)) (.v (.map (some b)))) [] [.mp b (acI (acV (acK r) (acRest r []))) bs c]):
 VB Try.prog 155 w0 F0 (.seq c14m (.block 6 (.loop acR1))) R (aS8 (acM (acE r)) (.v (.map (some b)))) [] [.mp b (acI (acV (acK r) [])) bs c]:=by
 refine VB.seq (VB.ws (VS.cons (VS.mv rfl rfl rfl rfl (VS.range (b:=b) rfl rfl rfl rfl (List.mem_cons_self ..) fun q=>?_))))
 refine VB.tell (Tel.view (s':=aS9 (acM (acE r)) (.v (.map (some b))) (.v (.pointer (some ⟨q,0,none⟩)))) (m:=0) (eV [some 0] (hB:=by simp only[ZZ.down,Nat.reduceEqDiff,reduceCtorEq,Nat.reduceAdd,Nat.reduceLeDiff,Nat.reduceLT,Nat.reduceBNe,EE.down,aS8,aS9,aS10,aS12,aS13,aS14]) (hs:=by simp only[ZZ.down,Nat.reduceEqDiff,reduceCtorEq,Nat.reduceAdd,Nat.reduceLeDiff,Nat.reduceLT,Nat.reduceBNe,EE.down,aS8,aS9,aS10,aS12,aS13,aS14]))) ?_
 rintro _ _ _ ⟨rfl,rfl,rfl⟩
 refine VB.block (VB.loop (fun k s al Ks=>∃(ks:List Int) (sn:Array Nat),k=(acK r).length-ks.length∧acSeen (acK r) bs ks sn∧al=[]∧Ks=[.mp b (acI (acV (acK r) (ks.flatMap (acOwn (acE r))))) bs c,.it q b c sn c]∧s=aS9 (acM (acE r)) (.v (.map (some b))) (.v (.pointer (some ⟨q,0,none⟩)))) ⟨_,[],#[],rfl,acSeen.nil _ _,rfl,rfl,rfl⟩ ?_)
 rintro k s al Ks ⟨ks,sn,rfl,hS,rfl,rfl,rfl⟩
 refine VB.seq (VB.ws (VS.cons (VS.next (K1:=[.mp b (acI (acV (acK r) (ks.flatMap (acOwn (acE r))))) bs c]) (K2:=[]) rfl rfl rfl rfl rfl (List.mem_cons_self ..) ?_ hlt (Nat.le_refl _) (fun hall=>?_) (fun j k v t hj ht hs=>?_))))
 ·intro z hz b' m si se c' e
  simp only[List.append_nil,List.mem_singleton]at hz
  subst hz;cases e
 ·have hp:=hS.full (acK_nodup r) hbl hall
  refine VS.ext rfl rfl rfl rfl rfl ?_
  refine VB.seq (VB.cond (t:=false) rfl (fun h=>by cases h) (fun _=>?_))
  refine VB.tell (Tel.view (s':=aS8 (acM (acE r)) (.v (.map (some b)))) (m:=0) (eV [some 0] (hB:=by simp only[ZZ.down,Nat.reduceEqDiff,reduceCtorEq,Nat.reduceAdd,Nat.reduceLeDiff,Nat.reduceLT,Nat.reduceBNe,EE.down,aS8,aS9,aS10,aS12,aS13,aS14]) (hs:=by simp only[ZZ.down,Nat.reduceEqDiff,reduceCtorEq,Nat.reduceAdd,Nat.reduceLeDiff,Nat.reduceLT,Nat.reduceBNe,EE.down,aS8,aS9,aS10,aS12,aS13,aS14]))) ?_
  rintro _ _ _ ⟨rfl,rfl,rfl⟩
  refine VB.tell (Tel.sub (K':=[.mp b (acI (acV (acK r) (ks.flatMap (acOwn (acE r))))) bs c]) (fun x hx=>by rw[List.mem_singleton.1 hx];exact List.mem_cons_self ..)) ?_
  rintro _ _ _ ⟨rfl,rfl,rfl⟩
  rw[acV_congr (L':=acRest r []) (fun k hk=>by
   have:(acK r).filter (fun k=>decide (k∉([]:List Int)))=acK r:=List.filter_eq_self.2 (by simp)
   unfold acRest;rw[this];exact((hp.flatMap_right _).count_eq k).symm)]
  exact VB.exit hE
 ·obtain⟨hj1,rfl⟩:=acI_at hj
  obtain⟨hS2,hk⟩:=hS.next (acK_nodup r) hbs hj1 ht hs
  refine VS.ext rfl rfl rfl rfl rfl ?_
  refine VB.seq (VB.cond (t:=true) rfl (fun _=>VB.skip ?_) (fun h=>by cases h))
  refine VB.block ?_
  refine VB.seq (VB.ws (VS.cons (VS.entry (b:=b) (r:=q) rfl rfl rfl rfl (List.mem_append_right _ (List.mem_cons_self ..)) (List.mem_cons_self ..) hj ht (VS.cons (VS.ext rfl rfl rfl rfl rfl (VS.mv rfl rfl rfl rfl ?_))))))
  refine VB.tell (Tel.view (s':=aS10 (acM (acE r)) (.v (.map (some b))) (.v (.pointer (some ⟨q,0,none⟩))) k) (m:=0) (eV [some 0] (hB:=by simp only[ZZ.down,Nat.reduceEqDiff,reduceCtorEq,Nat.reduceAdd,Nat.reduceLeDiff,Nat.reduceLT,Nat.reduceBNe,EE.down,aS8,aS9,aS10,aS12,aS13,aS14]) (hs:=by simp only[ZZ.down,Nat.reduceEqDiff,reduceCtorEq,Nat.reduceAdd,Nat.reduceLeDiff,Nat.reduceLT,Nat.reduceBNe,EE.down,aS8,aS9,aS10,aS12,aS13,aS14]))) ?_
  rintro _ _ _ ⟨rfl,rfl,rfl⟩
  have hlen:=ac_len (acE r) hS2.1
  rw[List.flatMap_append,List.length_append,List.flatMap_singleton]at hlen
  have hle:=ac_sub_len hS2.1 hS2.2.1
  rw[List.length_append,List.length_singleton]at hle
  have fin:∀ys:List Int,ys=acOwn (acE r) k→VB Try.prog 155 w0 F0 (.block 8 (.loop acR1i)) (blockV 7 (thenV (fun s' l' K'=>∃k',k'<(acK r).length-ks.length∧∃(ks:List Int) (sn:Array Nat),k'=(acK r).length-ks.length∧acSeen (acK r) bs ks sn∧l'=[]∧K'=[.mp b (acI (acV (acK r) (ks.flatMap (acOwn (acE r))))) bs c,.it q b c sn c]∧s'=aS9 (acM (acE r)) (.v (.map (some b))) (.v (.pointer (some ⟨q,0,none⟩)))) (blockV 6 R)))
   (aS11 (acM (acE r)) (.v (.map (some b))) (.v (.pointer (some ⟨q,0,none⟩))) ys 0) [] [.mp b (acI (acV (acK r) (ks.flatMap (acOwn (acE r))))) bs c,.it q b c (sn.push t) c]:=by
   intro ys hys
   refine ac_loop8 (acK_nodup r) (by rw[hys];omega) ?_
   refine⟨(acK r).length-(ks++[k]).length,by rw[List.length_append,List.length_singleton];omega,ks++[k],sn.push t,rfl,hS2,rfl,?_,rfl⟩
   rw[List.flatMap_append,List.flatMap_singleton,hys]
  cases hg:getM k (acM (acE r))with
  |some ys=>
   refine VB.pseq (F14n1_ok (r:=(ys,(ys.length:Int))) (by unfold F14n1;rw[hg];rfl)) ?_ noX noR
   rintro _ rfl
   exact fin ys (ac_get_some hg)
  |none=>
   refine VB.pseq (a:=cF14n1) (show sK Try.prog 155 0 cF14n1 [] _ _ from F14n2_ok (r:=()) (by unfold F14n2 noneM;rw[hg];rfl)) ?_ noX noR
   rintro _ rfl
   refine VB.tell (Tel.view (s':=aS11 (acM (acE r)) (.v (.map (some b))) (.v (.pointer (some ⟨q,0,none⟩))) [] 0) (m:=0) (eV [some 0])) ?_
   rintro _ _ _ ⟨rfl,rfl,rfl⟩
   exact fin [] (ac_get_none hg).symm
end
section
variable {w0:World} {F0:Nat→Prop} {R:RVb}
theorem ac_range2{r:List (Int×List Int)}{om:List (Int×List Int)}{b c:Nat}{bs:List Nat}{L:List Int}(hbs:bs.Nodup)(hbl:bs.length=(acK r).length)(hlt:∀t∈bs,t<c)(hr:(acK r).length≤4294967290)
 (hE:∀free,free.Perm ((acK r).filter fun k=>decide (L.count k=0))→R .normal (aS12 om (.v (.map (some b))) free) [] [.mp b (acI (acV (acK r) L)) bs c]):
 VB Try.prog 155 w0 F0 (.seq c14t (.block 10 (.loop acR2))) R (aS12 om (.v (.map (some b))) []) [] [.mp b (acI (acV (acK r) L)) bs c]:=by
 refine VB.seq (VB.ws (VS.cons (VS.mv rfl rfl rfl rfl (VS.range (b:=b) rfl rfl rfl rfl (List.mem_cons_self ..) fun q=>?_))))
 refine VB.tell (Tel.view (s':=aS13 om (.v (.map (some b))) (.v (.pointer (some ⟨q,0,none⟩))) []) (m:=0) (eV [some 0,some 1] (hB:=by simp only[ZZ.down,Nat.reduceEqDiff,reduceCtorEq,Nat.reduceAdd,Nat.reduceLeDiff,Nat.reduceLT,Nat.reduceBNe,EE.down,aS8,aS9,aS10,aS12,aS13,aS14]) (hs:=by simp only[ZZ.down,Nat.reduceEqDiff,reduceCtorEq,Nat.reduceAdd,Nat.reduceLeDiff,Nat.reduceLT,Nat.reduceBNe,EE.down,aS8,aS9,aS10,aS12,aS13,aS14]))) ?_
 rintro _ _ _ ⟨rfl,rfl,rfl⟩
 refine VB.block (VB.loop (fun k s al Ks=>∃(ks:List Int) (sn:Array Nat),k=(acK r).length-ks.length∧acSeen (acK r) bs ks sn∧al=[]∧Ks=[.mp b (acI (acV (acK r) L)) bs c,.it q b c sn c]∧s=aS13 om (.v (.map (some b))) (.v (.pointer (some ⟨q,0,none⟩))) (ks.filter fun k=>decide (L.count k=0))) ⟨_,[],#[],rfl,acSeen.nil _ _,rfl,rfl,rfl⟩ ?_)
 rintro k s al Ks ⟨ks,sn,rfl,hS,rfl,rfl,rfl⟩
 refine VB.seq (VB.ws (VS.cons (VS.next (K1:=[.mp b (acI (acV (acK r) L)) bs c]) (K2:=[]) rfl rfl rfl rfl rfl (List.mem_cons_self ..) ?_ hlt (Nat.le_refl _) (fun hall=>?_) (fun j k v t hj ht hs=>?_))))
 ·intro z hz b' m si se c' e
  simp only[List.append_nil,List.mem_singleton]at hz
  subst hz;cases e
 ·have hp:=hS.full (acK_nodup r) hbl hall
  refine VS.ext rfl rfl rfl rfl rfl ?_
  refine VB.seq (VB.cond (t:=false) rfl (fun h=>by cases h) (fun _=>?_))
  refine VB.tell (Tel.view (s':=aS12 om (.v (.map (some b))) (ks.filter fun k=>decide (L.count k=0))) (m:=0) (eV [some 0,some 1] (hB:=by simp only[ZZ.down,Nat.reduceEqDiff,reduceCtorEq,Nat.reduceAdd,Nat.reduceLeDiff,Nat.reduceLT,Nat.reduceBNe,EE.down,aS8,aS9,aS10,aS12,aS13,aS14]) (hs:=by simp only[ZZ.down,Nat.reduceEqDiff,reduceCtorEq,Nat.reduceAdd,Nat.reduceLeDiff,Nat.reduceLT,Nat.reduceBNe,EE.down,aS8,aS9,aS10,aS12,aS13,aS14]))) ?_
  rintro _ _ _ ⟨rfl,rfl,rfl⟩
  refine VB.tell (Tel.sub (K':=[.mp b (acI (acV (acK r) L)) bs c]) (fun x hx=>by rw[List.mem_singleton.1 hx];exact List.mem_cons_self ..)) ?_
  rintro _ _ _ ⟨rfl,rfl,rfl⟩
  exact VB.exit (hE _ (hp.filter _))
 ·obtain⟨hj1,rfl⟩:=acI_at hj
  obtain⟨hS2,hk⟩:=hS.next (acK_nodup r) hbs hj1 ht hs
  have hle:=ac_sub_len hS2.1 hS2.2.1
  rw[List.length_append,List.length_singleton]at hle
  refine VS.ext rfl rfl rfl rfl rfl ?_
  refine VB.seq (VB.cond (t:=true) rfl (fun _=>VB.skip ?_) (fun h=>by cases h))
  refine VB.block ?_
  refine VB.seq (VB.ws (VS.cons (VS.entry (b:=b) (r:=q) rfl rfl rfl rfl (List.mem_append_right _ (List.mem_cons_self ..)) (List.mem_cons_self ..) hj ht (VS.cons (VS.ext rfl rfl rfl rfl rfl (VS.cons (VS.ext rfl rfl rfl rfl rfl (VS.cons (VS.mv rfl rfl rfl rfl (VS.mv rfl rfl rfl rfl ?_))))))))))
  refine VB.tell (Tel.view (s':=aS14 om (.v (.map (some b))) (.v (.pointer (some ⟨q,0,none⟩))) (ks.filter fun k=>decide (L.count k=0)) k (L.count k:Int)) (m:=0) (eV [some 0,some 1] (hB:=by simp only[ZZ.down,Nat.reduceEqDiff,reduceCtorEq,Nat.reduceAdd,Nat.reduceLeDiff,Nat.reduceLT,Nat.reduceBNe,EE.down,aS8,aS9,aS10,aS12,aS13,aS14]) (hs:=by simp only[ZZ.down,Nat.reduceEqDiff,reduceCtorEq,Nat.reduceAdd,Nat.reduceLeDiff,Nat.reduceLT,Nat.reduceBNe,EE.down,aS8,aS9,aS10,aS12,aS13,aS14]))) ?_
  rintro _ _ _ ⟨rfl,rfl,rfl⟩
  refine VB.pseq (F14u2_ok rfl) ?_ noX noR
  rintro _ rfl
  by_cases hz:L.count k=0
  ·refine VB.cond (t:=true) (by simp only[hz];rfl) (fun _=>?_) (fun h=>by cases h)
   refine VB.tell (Tel.view (s':=aS15 om (.v (.map (some b))) (.v (.pointer (some ⟨q,0,none⟩))) (ks.filter fun k=>decide (L.count k=0)) k) (m:=0) (eV [some 0,some 1])) ?_
   rintro _ _ _ ⟨rfl,rfl,rfl⟩
   have hfl:=List.length_filter_le (fun k=>decide (L.count k=0)) ks
   refine VB.pc (F14u_ok (r:=(ks.filter fun k=>decide (L.count k=0))++[k]) (by unfold F14u apI;rw[if_pos (by rw[List.length_append,List.length_singleton];omega)];rfl)) ?_ noX noR
   rintro _ rfl
   refine Tel.refl ⟨(acK r).length-(ks++[k]).length,by rw[List.length_append,List.length_singleton];omega,ks++[k],sn.push t,rfl,hS2,rfl,rfl,?_⟩
   rw[List.filter_append,List.filter_cons,if_pos (by simpa using hz)]
   rfl
  ·refine VB.post (R':=fun e s' l' K'=>Tel 155 w0 F0 (blockV 11 (thenV (fun s' l' K'=>∃k',k'<(acK r).length-ks.length∧∃(ks:List Int) (sn:Array Nat),k'=(acK r).length-ks.length∧acSeen (acK r) bs ks sn∧l'=[]∧K'=[.mp b (acI (acV (acK r) L)) bs c,.it q b c sn c]∧s'=aS13 om (.v (.map (some b))) (.v (.pointer (some ⟨q,0,none⟩))) (ks.filter fun k=>decide (L.count k=0))) (blockV 10 R)) e) s' l' K') (VB.cond (t:=false) (by
    have:decide ((L.count k:Int)=0)=false:=decide_eq_false (by omega)
    simp only[this];rfl) (fun h=>by cases h) (fun _=>VB.skip ?_)) fun e s' l' K' h=>h
   refine(Tel.view (s':=aS13 om (.v (.map (some b))) (.v (.pointer (some ⟨q,0,none⟩))) (ks.filter fun k=>decide (L.count k=0))) (m:=0) (eV [some 0,some 1])).trans ?_
   rintro _ _ _ ⟨rfl,rfl,rfl⟩
   refine Tel.refl ⟨(acK r).length-(ks++[k]).length,by rw[List.length_append,List.length_singleton];omega,ks++[k],sn.push t,rfl,hS2,rfl,rfl,?_⟩
   rw[List.filter_append,List.filter_cons,if_neg (by simpa using hz),List.filter_nil,List.append_nil]
end
theorem ac_wf{K:List Int}(hK:K.Nodup)(hKl:K.length≤4294967290){A S:List Int}:∀(ys:List Int) (n:Nat) (free:List Int),(A++ys).length≤4294967290→(S++free).Nodup→(∀x∈S++free,x∈K)→(∀x∈K,(A++ys).count x=0↔x∈S++free)→
 ∃free',F14wf_l1 ys n (acV K (A++ys)) free=some (acV K A,free')∧(S++free').Nodup∧(∀x∈S++free',x∈K)∧∀x∈K,A.count x=0↔x∈S++free'
 |[],n,free,_,h2,h3,h4=>⟨free,by rw[List.append_nil];rfl,h2,h3,by simpa using h4⟩
 |x::ys,n,free,h1,h2,h3,h4=>by
  have hl:(A++ys).length<4294967290:=by simp only[List.length_append,List.length_cons]at h1⊢;omega
  have hcx:(A++x::ys).count x=(A++ys).count x+1:=by simp[List.count_append,List.count_cons];omega
  have hck:∀k,k≠x→(A++ys).count k=(A++x::ys).count k:=fun k hk=>by
   have:(x==k)=false:=by simpa using fun e:x=k=>hk e.symm
   simp[List.count_append,List.count_cons,this]
  have hg:=acV_get K (A++x::ys) x
  by_cases hx:x∈K
  ·rw[if_pos hx]at hg
   have hc:(A++ys).count x≤(A++ys).length:=List.count_le_length
   have hw:IntKind.i64.wrap (((A++x::ys).count x:Int)-1)=(((A++ys).count x:Nat):Int):=by
    rw[hcx,wrapI (by omega) (by omega)];omega
   have hp:putM x (((A++ys).count x:Nat):Int) (acV K (A++x::ys))=acV K (A++ys):=acV_put hK hx hck
   have hxn:x∉S++free:=fun hh=>by have:=(h4 x hx).2 hh;omega
   have h4':∀k∈K,k≠x→((A++ys).count k=0↔k∈S++free):=fun k hk hkx=>by rw[hck k hkx];exact h4 k hk
   have hg2:=acV_get K (A++ys) x
   rw[if_pos hx]at hg2
   simp only[F14wf_l1,hg,Option.isSome_some,Option.getD_some,hw,hp,hg2,nb,Bool.not_true,Bool.false_eq_true,if_false]
   by_cases hz:(A++ys).count x=0
   ·have hn:(S++(free++[x])).Nodup:=by
     rw[←List.append_assoc]
     exact List.nodup_append.2 ⟨h2,by simp,fun a ha b hb=>by rw[List.mem_singleton.1 hb];exact fun e=>hxn (e▸ha)⟩
    have hs:∀y∈S++(free++[x]),y∈K:=fun y hy=>by
     rw[←List.append_assoc]at hy
     rcases List.mem_append.1 hy with hy|hy
     ·exact h3 y hy
     ·rw[List.mem_singleton.1 hy];exact hx
    have hlen:=ac_sub_len hn hs
    rw[List.length_append]at hlen
    obtain⟨free',q1,q2⟩:=ac_wf hK hKl (A:=A) (S:=S) ys (n+1) (free++[x]) (by omega) hn hs (fun k hk=>by
     rw[←List.append_assoc,List.mem_append,List.mem_singleton]
     by_cases hkx:k=x
     ·subst hkx;exact⟨fun _=> .inr rfl,fun _=>hz⟩
     ·rw[h4' k hk hkx];exact⟨.inl,fun h=>h.resolve_right hkx⟩)
    refine⟨free',?_,q2⟩
    rw[if_pos (by omega)]
    unfold apI
    rw[if_pos (by omega)]
    exact q1
   ·obtain⟨free',q1,q2⟩:=ac_wf hK hKl (A:=A) (S:=S) ys (n+1) free (by omega) h2 h3 (fun k hk=>by
     by_cases hkx:k=x
     ·subst hkx;exact⟨fun h=>(hz h).elim,fun h=>(hxn h).elim⟩
     ·exact h4' k hk hkx)
    refine⟨free',?_,q2⟩
    rw[if_neg (by omega)]
    exact q1
  ·rw[if_neg hx]at hg
   have e:acV K (A++x::ys)=acV K (A++ys):=acV_congr fun k hk=>hck k fun e=>hx (e▸hk)
   obtain⟨free',q1,q2⟩:=ac_wf hK hKl (A:=A) (S:=S) ys (n+1) free (by omega) h2 h3 (fun k hk=>by rw[hck k fun e=>hx (e▸hk)];exact h4 k hk)
   refine⟨free',?_,q2⟩
   simp only[F14wf_l1,hg,Option.isSome_none,nb,Bool.not_false,if_true]
   rw[e];exact q1
section
variable {w0:World} {F0:Nat→Prop} {R:RVb}
def acPos(r:List (Int×List Int))(D:List Int):Prop:=∀D1 x D2,D=D1++x::D2→∀k∈acK r,x∈acOwn (acE r) k→k∈D1
theorem ac_pop{r:List (Int×List Int)}{free:List Int}(hr:(acK r).length≤4294967290)(hE2:(acE r).length≤4294967290)(hf:free.Nodup)(hs:∀x∈free,x∈acK r)(hz:∀x∈acK r,(acRest r []).count x=0↔x∈free)
 (hE:∀D,D.Nodup→(∀x∈D,x∈acK r)→acPos r D→(∀x∈acK r,(acRest r D).count x=0→x∈D)→R .normal ⟨[(8,oc (.mref 0)),(19,oc (dI (D.length:Nat)))],[some (.map (eM1 (Value.int .i64) (fun x=> .v (.int .i64 x)) (acV (acK r) (acRest r D))))]⟩ [] []):
 VB Try.prog 155 w0 F0 (.block 12 (.loop acW)) R (aS17 (acM (acE r)) (acV (acK r) (acRest r [])) free 0) [] []:=by
 refine VB.block (VB.loop (fun k s al Ks=>∃(D free:List Int),k=(acK r).length-D.length∧(D++free).Nodup∧(∀x∈D++free,x∈acK r)∧(∀x∈acK r,(acRest r D).count x=0↔x∈D++free)∧acPos r D∧al=[]∧Ks=[]∧s=aS17 (acM (acE r)) (acV (acK r) (acRest r D)) free (D.length:Nat)) ⟨_,[],free,rfl,by simpa using hf,by simpa using hs,by simpa using hz,fun D1 x D2 h=>by simp at h,rfl,rfl,rfl⟩ ?_)
 rintro k s al Ks ⟨D,free,rfl,hn,hsub,hzero,hpos,rfl,rfl,rfl⟩
 have hcase:free=[]∨∃fr u,free=fr++[u]:=by
  rcases List.eq_nil_or_concat free with h|⟨a,b,h⟩
  ·exact .inl h
  ·exact .inr ⟨a,b,by rw[h,List.concat_eq_append]⟩
 rcases hcase with rfl|⟨fr,u,rfl⟩
 ·refine VB.pseq (F14w_ok (r:=Sum.inr ()) (by unfold F14w;rw[if_neg (by simp)])) (by rintro _ ⟨_,h,_⟩;cases h) ?_ noR
  rintro _ _ ⟨rfl,_,_,rfl⟩
  rw[List.append_nil]at hn hsub hzero
  exact Tel.refl (hE D hn hsub hpos fun x hx h=>(hzero x hx).1 h)
 ·have hlen:=ac_sub_len hn hsub
  simp only[List.length_append,List.length_singleton]at hlen
  refine VB.pseq (F14w_ok (r:=Sum.inl ()) (by unfold F14w;rw[if_pos (by simp only[List.length_append,List.length_singleton];omega)])) ?_ (by rintro _ _ ⟨_,_,h,_⟩;cases h) noR
  rintro _ ⟨_,_,rfl⟩
  refine VB.block ?_
  have hw:IntKind.i64.wrap (((fr++[u]).length:Int)-1)=(fr.length:Int):=by
   rw[List.length_append,List.length_singleton,wrapI (by omega) (by omega)];omega
  refine VB.pseq (F14wa_ok (r:=u) (by unfold F14wa;rw[hw,ev_rdn (y:=u) (by simp)];rfl)) ?_ noX noR
  rintro _ rfl
  refine VB.pseq (F14wb_ok (r:=fr) (by
   unfold F14wb slI
   rw[hw,if_pos (by simp;omega)]
   simp)) ?_ noX noR
  rintro _ rfl
  refine VB.pseq (F14wc_ok rfl) ?_ noX noR
  rintro _ rfl
  rw[wrapN (by omega)]
  have huD:u∉D:=fun h=>(List.nodup_append.1 hn).2.2 u h u (by simp) rfl
  have huK:u∈acK r:=hsub u (by simp)
  have hcnt:∀x,(acRest r D).count x=(acOwn (acE r) u).count x+(acRest r (D++[u])).count x:=fun x=>ac_flat_count (acOwn (acE r)) x (acK_nodup r) huD huK
  have hpos2:acPos r (D++[u]):=by
   intro D1 x D2 he k hk hx
   rcases List.eq_nil_or_concat D2 with rfl|⟨D3,y,rfl⟩
   ·have h1:=List.append_inj' he rfl
    obtain⟨rfl,h2⟩:=h1
    cases h2
    have h0:(acRest r D).count u=0:=(hzero u huK).2 (by simp)
    by_cases hkD:k∈D
    ·exact hkD
    ·have:u∈acRest r D:=List.mem_flatMap.2 ⟨k,List.mem_filter.2 ⟨hk,by simpa using hkD⟩,hx⟩
     have:=List.count_pos_iff.2 this
     omega
   ·rw[List.concat_eq_append,←List.cons_append,←List.append_assoc]at he
    have h1:=List.append_inj' he rfl
    exact hpos D1 x D3 h1.1 k hk hx
  have hn2:(D++[u]++fr).Nodup:=by
   refine(List.Perm.nodup_iff ?_).1 hn
   rw[List.append_assoc]
   exact List.Perm.append_left _ List.perm_append_comm
  have hsub2:∀x∈D++[u]++fr,x∈acK r:=fun x hx=>hsub x (by
   simp only[List.mem_append,List.mem_singleton]at hx⊢
   rcases hx with(h|h)|h
   ·exact .inl h
   ·exact .inr (.inr h)
   ·exact .inr (.inl h))
  have hl1:=acRest_len r D
  have hcl:(acRest r (D++[u])++acOwn (acE r) u).length≤4294967290:=by
   have h1:=ac_len (acE r) ((acK_nodup r).filter fun k=>decide (k∉D))
   have hpm:(acRest r D).Perm (acRest r (D++[u])++acOwn (acE r) u):=List.perm_iff_count.2 fun x=>by rw[hcnt x,List.count_append];omega
   rw[←hpm.length_eq];omega
  obtain⟨free',q1,q2,q3,q4⟩:=ac_wf (acK_nodup r) hr (A:=acRest r (D++[u])) (S:=D++[u]) (acOwn (acE r) u) 0 fr hcl hn2 hsub2 (fun x hx=>by
   rw[List.count_append,Nat.add_comm,←hcnt x,hzero x hx]
   simp only[List.mem_append,List.mem_singleton]
   constructor
   ·rintro(h|h|h)
    ·exact .inl (.inl h)
    ·exact .inr h
    ·exact .inl (.inr h)
   ·rintro((h|h)|h)
    ·exact .inl h
    ·exact .inr (.inr h)
    ·exact .inr (.inl h))
  have eV1:acV (acK r) (acRest r D)=acV (acK r) (acRest r (D++[u])++acOwn (acE r) u):=acV_congr fun x _=>by rw[hcnt x,List.count_append];omega
  have hyl:=acOwn_len (acE r) u
  have hle:=ac_sub_len q2 q3
  simp only[List.length_append,List.length_singleton]at hle
  have fin:∀ys:List Int,ys=acOwn (acE r) u→VB Try.prog 155 w0 F0 cF14wf (blockV 13 (thenV (fun s' l' K'=>∃k',k'<(acK r).length-D.length∧∃(D free:List Int),k'=(acK r).length-D.length∧(D++free).Nodup∧(∀x∈D++free,x∈acK r)∧(∀x∈acK r,(acRest r D).count x=0↔x∈D++free)∧acPos r D∧l'=[]∧K'=[]∧s'=aS17 (acM (acE r)) (acV (acK r) (acRest r D)) free (D.length:Nat)) (blockV 12 R)))
   (aS19 (acM (acE r)) (acV (acK r) (acRest r D)) fr ((D.length+1:Nat):Int) ys) [] []:=by
   intro ys hys
   subst hys
   refine VB.pc (F14wf_ok (r:=(acV (acK r) (acRest r (D++[u])),free')) (by
    unfold F14wf ck
    rw[if_pos ⟨by omega,by omega⟩,eV1]
    show(F14wf_l1 _ 0 _ fr).bind _=_
    rw[q1];rfl)) ?_ noX noR
   rintro _ rfl
   refine Tel.refl ⟨(acK r).length-(D++[u]).length,by rw[List.length_append,List.length_singleton];omega,D++[u],free',rfl,q2,q3,q4,hpos2,rfl,rfl,?_⟩
   rw[List.length_append,List.length_singleton]
   rfl
  cases hg:getM u (acM (acE r))with
  |some ys=>
   refine VB.pseq (F14wd_ok (r:=(ys,(ys.length:Int))) (by unfold F14wd;rw[hg];rfl)) ?_ noX noR
   rintro _ rfl
   exact fin ys (ac_get_some hg)
  |none=>
   refine VB.pseq (a:=cF14wd) (show sK Try.prog 155 0 cF14wd [] _ _ from F14we_ok (r:=()) (by unfold F14we noneM;rw[hg];rfl)) ?_ noX noR
   rintro _ rfl
   refine VB.tell (Tel.view (s':=aS19 (acM (acE r)) (acV (acK r) (acRest r D)) fr ((D.length+1:Nat):Int) []) (m:=0) (eV [some 0,some 1,some 2])) ?_
   rintro _ _ _ ⟨rfl,rfl,rfl⟩
   exact fin [] (ac_get_none hg).symm
theorem ac_ret{b:Bool}:endQ 0 [.tmp 2] [.c (dB b)] [] .ret ⟨[(2,oc (dB b))],[]⟩:=by
 have:sE 0 [.tmp 2] [.c (dB b)] [] .ret ⟨[(2,oc (dB b))],[]⟩:=by
  refine ww ?_
  exact eF []
 rw[sE_eq]at this;exact this
end
theorem ac_F14l{l:List Object}{om:List (Int×List Int)}(h:l.length≤4294967290):F14l l om=some (acZ (acR l)):=by
 have key:∀(l:List Object) (n:Nat) (m:List (Int×Int)),F14l_l1 l n m=some ((acR l).foldl (fun m p=>putM p.1 (0:Int) m) m):=by
  intro l
  induction l with
  |nil=>intro n m;rfl
  |cons o l ih=>intro n m;rw[F14l_l1,ih];rfl
 unfold F14l ck
 rw[if_pos ⟨by omega,h⟩]
 show(F14l_l1 l 0 []).bind _=_
 rw[key];rfl
theorem F14_ok{l r}(h:F14 l=some r):CallD Try.prog 14 [.c (dM (l.map eObject))] [] (tupV [.c (dB r)]) []:=by
 simp only[F14,Option.bind_eq_some_iff]at h
 obtain⟨_,hck,h⟩:=h
 obtain⟨hb,hE2⟩:=ck_some hck
 cases h
 have hr:(acK (acR l)).length≤4294967290:=by have:=acK_len (acR l);rw[acR,List.length_map]at this;exact Nat.le_trans this hb
 refine callD_vb (A:=a14) a14_ok (show 1≤155 by decide) fun w0 F0=>?_
 refine VB.pseq (F14a_ok (l:=l) rfl) ?_ noX noR
 rintro _ rfl
 refine VB.pseq (F14b_ok rfl) ?_ noX noR
 rintro _ rfl
 refine VB.seq (VB.pseq (F14c_ok (l:=l) (ol:=[]) rfl) ?_ noX noR)
 rintro _ rfl
 refine ac_loop1 hb hE2 fun gs al hG hm=>?_
 refine VB.tell (ac_give hG hm rfl) ?_
 rintro _ _ _ ⟨⟨rfl,rfl⟩,rfl⟩
 refine VB.pseq (F14k_ok (l:=l) (om:=acM (acE (acR l))) rfl) ?_ noX noR
 rintro _ rfl
 refine VB.pseq (F14l_ok (r:=acZ (acR l)) (ac_F14l hb)) ?_ noX noR
 rintro _ rfl
 rw[acZ_eq]
 refine VB.tell (Tel.mapOut (t:=8) (id:=1) (ml:=acI (acV (acK (acR l)) [])) (sl':=[(3,oc (.mref 0))]) (H':=[some (.map (eM1 (Value.int .i64) (fun x=> .sl (x.map eI)) (acM (acE (acR l)))))]) rfl (by rw[←acI_eq];rfl) ?_ ?_ ?_) ?_
 ·intro i
  rcases i with _|_|i<;>rfl
 ·intro i x hx
  rcases i with _|i
  ·cases hx;exact⟨_,rfl,entsD_1⟩
  ·cases hx
 ·intro x hx
  rw[List.mem_singleton.1 hx]
  exact⟨rfl,.inr ⟨0,rfl,by decide⟩⟩
 rintro _ _ _ ⟨b,bs,c,rfl,rfl,rfl,hbs,hbl,hlt⟩
 have hbl:bs.length=(acK (acR l)).length:=by rw[hbl];simp[acI,acV]
 refine VB.tell (Tel.view (s':=aS8 (acM (acE (acR l))) (.v (.map (some b)))) (m:=0) (eV [some 0])) ?_
 rintro _ _ _ ⟨rfl,rfl,rfl⟩
 refine VB.seq (ac_range1 hbs hbl hlt hE2 ?_)
 refine VB.pseq (F14s_ok rfl) ?_ noX noR
 rintro _ rfl
 refine VB.tell (Tel.view (s':=aS12 (acM (acE (acR l))) (.v (.map (some b))) []) (m:=0) (eV [some 0,none])) ?_
 rintro _ _ _ ⟨rfl,rfl,rfl⟩
 refine VB.seq (ac_range2 hbs hbl hlt hr fun free hfree=>?_)
 refine VB.tell (Tel.mapIn (t:=8) (List.mem_cons_self ..) rfl) ?_
 rintro _ _ _ ⟨rfl,rfl,rfl⟩
 rw[←acI_eq]
 refine VB.tell (Tel.view (s':=aS16 (acM (acE (acR l))) (acV (acK (acR l)) (acRest (acR l) [])) free) (m:=0) (eV [some 0,some 2,some 1] (hB:=by simp only[ZZ.down,Nat.reduceEqDiff,reduceCtorEq,Nat.reduceAdd,Nat.reduceLeDiff,Nat.reduceLT,Nat.reduceBNe,EE.down,aS8,aS9,aS10,aS12,aS13,aS14]) (hs:=by simp only[ZZ.down,Nat.reduceEqDiff,reduceCtorEq,Nat.reduceAdd,Nat.reduceLeDiff,Nat.reduceLT,Nat.reduceBNe,EE.down,aS8,aS9,aS10,aS12,aS13,aS14]))) ?_
 rintro _ _ _ ⟨rfl,rfl,rfl⟩
 refine VB.pseq (F14v_ok rfl) ?_ noX noR
 rintro _ rfl
 have hmem:∀x,x∈free↔x∈acK (acR l)∧(acRest (acR l) []).count x=0:=fun x=>by
  rw[hfree.mem_iff,List.mem_filter,decide_eq_true_eq]
 refine VB.seq (ac_pop hr hE2 (hfree.nodup_iff.2 ((acK_nodup _).filter _)) (fun x hx=>((hmem x).1 hx).1) (fun x hx=>by rw[hmem];exact⟨fun h=>⟨hx,h⟩,fun h=>h.2⟩) fun D h1 h2 h3 h4=>?_)
 refine VB.pc (F14z_ok rfl) noR noX ?_
 rintro _ rfl
 have he:=ac_end h1 h2 h3 h4
 have hl:(acV (acK (acR l)) (acRest (acR l) D)).length=(acK (acR l)).length:=by simp[acV]
 rw[hl,he]
 exact Tel.refl ac_ret
end Go.Proofs.Ytdejhahgpojnoaa
