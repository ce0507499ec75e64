/- Each Go function as a function over typed data, and its walk. -/
import Derived.Test.YtadhmlfnfgpjjaaPX
namespace Go.Proofs.Ytadhmlfnfgpjjaa
open Go Go.Fw Go.Shelf
set_option maxRecDepth 100000
set_option maxHeartbeats 4000000
set_option linter.unusedSimpArgs false
set_option linter.unusedVariables false
def Try.laysJoin_ren:Go.Shelf.Ren:=⟨fun|156=>49|165=>67|166=>68|169=>69|240=>78|241=>79|276=>84|277=>85|n=>n,fun|31=>41|9=>9|3=>3|4=>4|0=>0|20=>20|72=>79|76=>83|70=>76|37=>77|75=>82|127=>91|164=>96|5=>5|80=>71|n=>n,fun|n=>n⟩
theorem Try.laysJoin:Go.Proofs.Lays.n156 Try.prog Try.laysJoin_ren:={
 mixed:=by kernel_rfl
 f156:=Try.func49.trans (congrArg some (by kernel_rfl))
 f165:=Try.func67.trans (congrArg some (by kernel_rfl))
 f166:=Try.func68.trans (congrArg some (by kernel_rfl))
 f169:=Try.func69.trans (congrArg some (by kernel_rfl))
 f240:=Try.func78.trans (congrArg some (by kernel_rfl))
 f241:=Try.func79.trans (congrArg some (by kernel_rfl))
 f276:=Try.func84.trans (congrArg some (by kernel_rfl))
 f277:=Try.func85.trans (congrArg some (by kernel_rfl))
 t0:=Try.underlying0
 a0:=Try.isAgg0
 z0:=Try.sizeOf0
 v0:=Try.zeroValue0
 t3:=Try.underlying3
 a3:=Try.isAgg3
 z3:=Try.sizeOf3
 v3:=Try.zeroValue3
 t4:=Try.underlying4
 a4:=Try.isAgg4
 z4:=Try.sizeOf4
 v4:=Try.zeroValue4
 t9:=Try.underlying9
 a9:=Try.isAgg9
 z9:=Try.sizeOf9
 v9:=Try.zeroValue9
 t20:=Try.underlying20
 a20:=Try.isAgg20
 z20:=Try.sizeOf20
 v20:=Try.zeroValue20
 t31:=Try.underlying41
 a31:=Try.isAgg41
 z31:=Try.sizeOf41
 v31:=Try.zeroValue41
 t37:=Try.underlying77
 a37:=Try.isAgg77
 z37:=Try.sizeOf77
 v37:=Try.zeroValue77
 t70:=Try.underlying76
 a70:=Try.isAgg76
 z70:=Try.sizeOf76
 v70:=Try.zeroValue76
 t72:=Try.underlying79
 a72:=Try.isAgg79
 z72:=Try.sizeOf79
 v72:=Try.zeroValue79
 t75:=Try.underlying82
 a75:=Try.isAgg82
 z75:=Try.sizeOf82
 v75:=Try.zeroValue82
 t76:=Try.underlying83
 a76:=Try.isAgg83
 z76:=Try.sizeOf83
 v76:=Try.zeroValue83
 t127:=Try.underlying91
 a127:=Try.isAgg91
 z127:=Try.sizeOf91
 v127:=Try.zeroValue91
 t164:=Try.underlying96
 a164:=Try.isAgg96
 z164:=Try.sizeOf96
 v164:=Try.zeroValue96}
theorem Try.joinX:Go.Proofs.Builder.Extra Try.prog Try.laysJoin_ren where
 sizeBuilder:=by kernel_rfl
 liesBuilder:=by kernel_rfl
 t5:=Try.underlying5
 a5:=Try.isAgg5
 z5:=Try.sizeOf5
 v5:=Try.zeroValue5
 infoByte:=by kernel_rfl
 cellsByte:=by kernel_rfl
 sizeByte:=by kernel_rfl
 neB5:=by decide
theorem F49d_ok{x0:List ByteArray}{x1 r:ByteArray}(h:joinI x0 x1=some r):CallD Try.prog 49 [.c (dM (x0.map eS)),.c (dS x1)] [] (tupV [.c (dS r)]) []:=L_joinD (ρ:=Try.laysJoin_ren) Try.laysJoin Try.joinX rfl (by kernel_rfl) h
def F48(x0:Requirement):Option (ByteArray):=(if x0.Op=1 then(catI x0.Key ((⟨#[32,105,110,32,40]⟩:ByteArray))).bind fun s2=>(joinI x0.Values ((⟨#[44]⟩:ByteArray))).bind fun t3=>(catI s2 t3).bind fun s4=>(catI s4 ((⟨#[41]⟩:ByteArray))).bind fun s5=>some s5 else(if x0.Op=2 then(catI x0.Key ((⟨#[32,110,111,116,105,110,32,40]⟩:ByteArray))).bind fun s7=>(joinI x0.Values ((⟨#[44]⟩:ByteArray))).bind fun t8=>(catI s7 t8).bind fun s9=>(catI s9 ((⟨#[41]⟩:ByteArray))).bind fun s10=>some s10 else(if x0.Op=4 then(catI ((⟨#[33]⟩:ByteArray)) x0.Key).bind fun s12=>some s12 else some x0.Key)))
def a48:AFn:=⟨32,[(.tmp 2)],
 (.seq (.reg [sq 1 (.box (.t 0)),
sq 2 (.mv (kS ⟨#[]⟩))])
 (.seq (.seq (.reg [sq 3 (.fieldA 1 (.t 1)),
sq 4 (.load none (.t 3))])
 (.block 0 (.seq (.reg [sq 6 (.bin .eql (.t 4) (kI 1)),
sq 5 (.mv (.t 6))])
 (.cond (.t 5)
 (.seq (.regd [sq 7 (.fieldA 0 (.t 1)),
sd 8 (.load none (.t 7)) [0],
sd 9 (.bin .add (.t 8) (kS ⟨#[32,105,110,32,40]⟩)) [0,1],
sq 10 (.fieldA 2 (.t 1)),
sd 11 (.load none (.t 10)) [3],
zl 12 (.call 49 [(.t 11),(kS ⟨#[44]⟩)]) [3,4] [1,7],
sd 13 (.bin .add (.t 9) (.t 12)) [0,1,2,3,4,5],
sd 14 (.bin .add (.t 13) (kS ⟨#[41]⟩)) [0,1,2,3,4,5,6],
sd 2 (.mv (.t 14)) [0,1,2,3,4,5,6,7]])
 .ret)
 (.seq (.reg [sq 16 (.bin .eql (.t 4) (kI 2)),
sq 15 (.mv (.t 16))])
 (.cond (.t 15)
 (.seq (.regd [sq 17 (.fieldA 0 (.t 1)),
sd 18 (.load none (.t 17)) [0],
sd 19 (.bin .add (.t 18) (kS ⟨#[32,110,111,116,105,110,32,40]⟩)) [0,1],
sq 20 (.fieldA 2 (.t 1)),
sd 21 (.load none (.t 20)) [3],
zl 22 (.call 49 [(.t 21),(kS ⟨#[44]⟩)]) [3,4] [1,17],
sd 23 (.bin .add (.t 19) (.t 22)) [0,1,2,3,4,5],
sd 24 (.bin .add (.t 23) (kS ⟨#[41]⟩)) [0,1,2,3,4,5,6],
sd 2 (.mv (.t 24)) [0,1,2,3,4,5,6,7]])
 .ret)
 (.seq (.reg [sq 26 (.bin .eql (.t 4) (kI 4)),
sq 25 (.mv (.t 26))])
 (.cond (.t 25)
 (.seq (.reg [sq 27 (.fieldA 0 (.t 1)),
sq 28 (.load none (.t 27)),
sq 29 (.bin .add (kS ⟨#[33]⟩) (.t 28)),
sq 2 (.mv (.t 29))])
 .ret)
 .skip))))))))
 (.seq (.reg [sq 30 (.fieldA 0 (.t 1)),
sq 31 (.load none (.t 30)),
sq 2 (.mv (.t 31))])
 .ret)))⟩
theorem a48_ok:afn Try.prog 48=some a48.er:=by kernel_rfl
theorem F48_ok{x0 r}(h:F48 x0=some r):CallD Try.prog 48 [.agg [dS x0.Key,dI x0.Op,dM (x0.Values.map eS)]] [] (tupV [.c (dS r)]) []:=by
 refine callS a48_ok (by simp[a48]) ?_
 rw[F48]at h
 simp only[a48,VW.down,Nat.reduceEqDiff,reduceCtorEq,Nat.reduceAdd,Nat.reduceLeDiff,Nat.reduceLT,Nat.reduceBEq,Nat.reduceSub,EE.down]
 refine condSh h (fun c1 h=>?_) (fun c1 h=>?_)
 ·refine ww ?_
  obtain⟨s2,hs2,h⟩:=bi h
  obtain⟨hle,es2⟩:=cat_some hs2
  refine⟨hle,?_⟩
  first|rw[←es2]|subst es2
  refine ww ?_
  obtain⟨t3,ht3,h⟩:=bi h
  refine cN [] (F49d_ok ht3) trivial (ww ?_)
  obtain⟨s4,hs4,h⟩:=bi h
  obtain⟨hle,es4⟩:=cat_some hs4
  refine⟨hle,?_⟩
  first|rw[←es4]|subst es4
  refine ww ?_
  obtain⟨s5,hs5,h⟩:=bi h
  obtain⟨hle,es5⟩:=cat_some hs5
  refine⟨hle,?_⟩
  first|rw[←es5]|subst es5
  refine ww ?_
  cases h
  exact eF []
 refine ww ?_
 refine condSh h (fun c6 h=>?_) (fun c6 h=>?_)
 ·refine ww ?_
  obtain⟨s7,hs7,h⟩:=bi h
  obtain⟨hle,es7⟩:=cat_some hs7
  refine⟨hle,?_⟩
  first|rw[←es7]|subst es7
  refine ww ?_
  obtain⟨t8,ht8,h⟩:=bi h
  refine cN [] (F49d_ok ht8) trivial (ww ?_)
  obtain⟨s9,hs9,h⟩:=bi h
  obtain⟨hle,es9⟩:=cat_some hs9
  refine⟨hle,?_⟩
  first|rw[←es9]|subst es9
  refine ww ?_
  obtain⟨s10,hs10,h⟩:=bi h
  obtain⟨hle,es10⟩:=cat_some hs10
  refine⟨hle,?_⟩
  first|rw[←es10]|subst es10
  refine ww ?_
  cases h
  exact eF []
 refine ww ?_
 refine condSh h (fun c11 h=>?_) (fun c11 h=>?_)
 ·refine ww ?_
  obtain⟨s12,hs12,h⟩:=bi h
  obtain⟨hle,es12⟩:=cat_some hs12
  refine⟨hle,?_⟩
  first|rw[←es12]|subst es12
  refine ww ?_
  cases h
  exact eF []
 refine ww ?_
 cases h
 exact eF []
def F17_l1(x1:ByteArray):List Label→Nat→Option ((ByteArray×Bool) ⊕ (Unit))
 |[],o1_0=>some (Sum.inr (()))
 |xo1::xs,o1_0=>(if xo1.Key=x1 then(some ((xo1.Value,true))).map Sum.inl else F17_l1 x1 xs (o1_0+1))
def F17(x0:(List Label))(x1:ByteArray):Option (ByteArray×Bool):=(((ck (0≤x0.length∧x0.length≤4294967290)).bind fun u4=>F17_l1 x1 x0 0:Option ((ByteArray×Bool) ⊕ (Unit))).bind fun o1=>match o1 with|Sum.inl f=>some f|Sum.inr po1=>some (((⟨#[]⟩:ByteArray),false)))
def a17:AFn:=⟨21,[(.tmp 4),(.tmp 5)],
 (.seq (.reg [sq 4 (.mv (kS ⟨#[]⟩)),
sq 5 (.mv (kB false))])
 (.seq (.seq (.reg [sq 8 (.mv (.t 0)),
sq 9 (.len (.t 8)),
sq 10 (.mv (kI 0))])
 (.sem (.block 0 (.loop (.seq (.reg [sq 11 (.bin .lss (.t 10) (.t 9))])
 (.seq (.cond (.t 11)
 .skip
 (.exit 0))
 (.seq (.block 1 (.seq (.reg [sq 12 (.indexA 2 (.t 8) (.t 10)),
sq 13 (.load (some 2) (.t 12)),
sq 7 (.zbox [dS ⟨#[]⟩,dS ⟨#[]⟩]),
su (.store 2 (.t 7) (.t 13))])
 (.seq (.reg [sq 14 (.fieldA 0 (.t 7)),
sq 15 (.load none (.t 14)),
sq 16 (.mv (.t 1)),
sq 17 (.bin .eql (.t 15) (.t 16))])
 (.cond (.t 17)
 (.seq (.reg [sq 18 (.fieldA 1 (.t 7)),
sq 19 (.load none (.t 18)),
sq 4 (.mv (.t 19)),
sq 5 (.mv (kB true))])
 .ret)
 .skip))))
 (.reg [sq 20 (.bin .add (.t 10) (kI 1)),
sq 10 (.mv (.t 20))]))))))))
 (.seq (.reg [sq 4 (.mv (kS ⟨#[]⟩)),
sq 5 (.mv (kB false))])
 .ret)))⟩
theorem a17_ok:afn Try.prog 17=some a17.er:=by kernel_rfl
theorem F17_ok{x0 x1 r}(h:F17 x0 x1=some r):CallD Try.prog 17 [.c (dM (x0.map eLabel)),.c (dS x1)] [] (tupV [.c (dS r.1),.c (dB r.2)]) []:=by
 refine callS a17_ok (by simp[a17]) ?_
 rw[F17]at h
 simp only[a17,VW.down,Nat.reduceEqDiff,reduceCtorEq,Nat.reduceAdd,Nat.reduceLeDiff,Nat.reduceLT,Nat.reduceBEq,Nat.reduceSub,EE.down]
 obtain⟨o1,ho,h⟩:=bi h
 refine cutS (fun s=>∃po1,o1=Sum.inr po1∧s=⟨[],[]⟩) ?_ ?_
 ·have h0o1:=h
  have h:=ho
  clear ho
  obtain⟨_,hk,h⟩:=bi h
  have hk:=ck_some hk
  refine ww ?_
  refine bL (fun j s=>∃(o1_0:Nat),(o1_0≤x0.length∧j=x0.length-o1_0)∧s=⟨[(1,.one (.c (dS x1))),(8,.one (.c (dM (x0.map eLabel)))),(9,.one (.c (dI ((x0.length:Int))))),(10,.one (.c (dI ((o1_0:Int)))))],[]⟩∧F17_l1 x1 (x0.drop o1_0) o1_0=some o1) (x0.length-0) [] ⟨0,⟨hk.1,rfl⟩,rfl,h⟩ ?_
  rintro _ _ ⟨o1_0,⟨hi,rfl⟩,rfl,h⟩
  refine ww ?_
  refine condS (fun c2=>?_) (fun c2=>?_)
  ·obtain⟨xo1,hxo1,hd⟩:=countY (show(o1_0:Int)<(x0.length:Int)from c2)
   rw[hd,F17_l1]at h
   refine ww ?_
   refine t_idxF (enc:=eLabel) (xs:=x0) rfl rfl hxo1 rfl (ww ?_)
   refine condSh h (fun c3 h=>?_) (fun c3 h=>?_)
   ·refine ww ?_
    obtain⟨fh0o1,hfh0o1,rfl⟩:=Option.map_eq_some_iff.1 h
    have h:=hfh0o1.trans h0o1
    cases h
    exact eF []
   refine ww ?_
   rw[wrapN (by omega)]
   exact eL' (x0.length-(o1_0+1)) [] ⟨o1_0+1,⟨by omega,rfl⟩,rfl,h⟩ (by omega)
  rw[countN (show¬((o1_0:Int)<(x0.length:Int))from c2),F17_l1]at h
  refine ww ?_
  cases h
  exact eM [] ⟨_,rfl,rfl⟩
 rintro _ ⟨po1,rfl,rfl⟩
 clear ho
 dsimp only at h
 refine ww ?_
 cases h
 exact eF []
def F71_l1(x1:ByteArray):List ByteArray→Nat→Option ((Int) ⊕ (Unit))
 |[],o1_0=>some (Sum.inr (()))
 |xo1::xs,o1_0=>(if x1=xo1 then(some ((o1_0:Int))).map Sum.inl else F71_l1 x1 xs (o1_0+1))
def F71(x0:(List ByteArray))(x1:ByteArray):Option (Int):=(((ck (0≤x0.length∧x0.length≤4294967290)).bind fun u4=>F71_l1 x1 x0 0:Option ((Int) ⊕ (Unit))).bind fun o1=>match o1 with|Sum.inl f=>some f|Sum.inr po1=>some ((-1)))
def a71:AFn:=⟨19,[(.tmp 4)],
 (.seq (.reg [sq 4 (.mv (kI 0))])
 (.seq (.seq (.reg [sq 6 (.mv (.t 0)),
sq 7 (.len (.t 6)),
sq 8 (.mv (kI 0))])
 (.sem (.block 0 (.loop (.seq (.reg [sq 9 (.bin .lss (.t 8) (.t 7))])
 (.seq (.cond (.t 9)
 .skip
 (.exit 0))
 (.seq (.block 1 (.seq (.reg [sq 10 (.mv (.t 8)),
sq 5 (.mv (.t 10))])
 (.seq (.reg [sq 11 (.mv (.t 1)),
sq 12 (.mv (.t 0)),
sq 13 (.mv (.t 5)),
sq 14 (.indexA 1 (.t 12) (.t 13)),
sq 15 (.load none (.t 14)),
sq 16 (.bin .eql (.t 11) (.t 15))])
 (.cond (.t 16)
 (.seq (.reg [sq 17 (.mv (.t 5)),
sq 4 (.mv (.t 17))])
 .ret)
 .skip))))
 (.reg [sq 18 (.bin .add (.t 8) (kI 1)),
sq 8 (.mv (.t 18))]))))))))
 (.seq (.reg [sq 4 (.mv (kI (-1)))])
 .ret)))⟩
theorem a71_ok:afn Try.prog 71=some a71.er:=by kernel_rfl
theorem F71_ok{x0 x1 r}(h:F71 x0 x1=some r):CallD Try.prog 71 [.c (dM (x0.map eS)),.c (dS x1)] [] (tupV [.c (dI r)]) []:=by
 refine callS a71_ok (by simp[a71]) ?_
 rw[F71]at h
 simp only[a71,VW.down,Nat.reduceEqDiff,reduceCtorEq,Nat.reduceAdd,Nat.reduceLeDiff,Nat.reduceLT,Nat.reduceBEq,Nat.reduceSub,EE.down]
 obtain⟨o1,ho,h⟩:=bi h
 refine cutS (fun s=>∃po1,o1=Sum.inr po1∧s=⟨[],[]⟩) ?_ ?_
 ·have h0o1:=h
  have h:=ho
  clear ho
  obtain⟨_,hk,h⟩:=bi h
  have hk:=ck_some hk
  refine ww ?_
  refine bL (fun j s=>∃(o1_0:Nat),(o1_0≤x0.length∧j=x0.length-o1_0)∧s=⟨[(0,.one (.c (dM (x0.map eS)))),(1,.one (.c (dS x1))),(7,.one (.c (dI ((x0.length:Int))))),(8,.one (.c (dI ((o1_0:Int)))))],[]⟩∧F71_l1 x1 (x0.drop o1_0) o1_0=some o1) (x0.length-0) [] ⟨0,⟨hk.1,rfl⟩,rfl,h⟩ ?_
  rintro _ _ ⟨o1_0,⟨hi,rfl⟩,rfl,h⟩
  refine ww ?_
  refine condS (fun c2=>?_) (fun c2=>?_)
  ·obtain⟨xo1,hxo1,hd⟩:=countY (show(o1_0:Int)<(x0.length:Int)from c2)
   rw[hd,F71_l1]at h
   refine ww ?_
   refine t_idxF (enc:=eS) (xs:=x0) rfl rfl hxo1 rfl (ww ?_)
   refine condSh h (fun c3 h=>?_) (fun c3 h=>?_)
   ·refine ww ?_
    obtain⟨fh0o1,hfh0o1,rfl⟩:=Option.map_eq_some_iff.1 h
    have h:=hfh0o1.trans h0o1
    cases h
    exact eF []
   refine ww ?_
   rw[wrapN (by omega)]
   exact eL' (x0.length-(o1_0+1)) [] ⟨o1_0+1,⟨by omega,rfl⟩,rfl,h⟩ (by omega)
  rw[countN (show¬((o1_0:Int)<(x0.length:Int))from c2),F71_l1]at h
  refine ww ?_
  cases h
  exact eM [] ⟨_,rfl,rfl⟩
 rintro _ ⟨po1,rfl,rfl⟩
 clear ho
 dsimp only at h
 refine ww ?_
 cases h
 exact eF []
def F57(x0:(List ByteArray))(x1:ByteArray):Option (Bool):=(F71 x0 x1).bind fun t1=>some (decide (0≤t1))
def a57:AFn:=⟨9,[(.tmp 4)],
 (.seq (.reg [sq 4 (.mv (kB false))])
 (.seq (.reg [sq 5 (.mv (.t 0)),
sq 6 (.mv (.t 1)),
sq 7 (.call 71 [(.t 5),(.t 6)]),
sq 8 (.bin .geq (.t 7) (kI 0)),
sq 4 (.mv (.t 8))])
 .ret))⟩
theorem a57_ok:afn Try.prog 57=some a57.er:=by kernel_rfl
theorem F57_ok{x0 x1 r}(h:F57 x0 x1=some r):CallD Try.prog 57 [.c (dM (x0.map eS)),.c (dS x1)] [] (tupV [.c (dB r)]) []:=by
 refine callS a57_ok (by simp[a57]) ?_
 rw[F57]at h
 simp only[a57,VW.down,Nat.reduceEqDiff,reduceCtorEq,Nat.reduceAdd,Nat.reduceLeDiff,Nat.reduceLT,Nat.reduceBEq,Nat.reduceSub,EE.down]
 obtain⟨t1,ht1,h⟩:=bi h
 refine cN [] (F71_ok ht1) trivial (ww ?_)
 cases h
 exact eF []
def F38(x0:Requirement)(x1:(List Label)):Option (Bool):=(F17 x1 x0.Key).bind fun t1=>(if x0.Op=1 then(((if t1.2=true then(F57 x0.Values t1.1).bind fun t5=>some t5 else some false)).bind fun o3=>some o3)else(if x0.Op=2 then(((if(nb t1.2)=true then some true else(F57 x0.Values t1.1).bind fun t9=>some (nb t9))).bind fun o7=>some o7)else(if x0.Op=3 then some t1.2 else(if x0.Op=4 then some (nb t1.2)else some false))))
def a38:AFn:=⟨43,[(.tmp 4)],
 (.seq (.reg [sq 2 (.box (.t 0)),
sq 4 (.mv (kB false))])
 (.seq (.reg [sq 8 (.mv (.t 1)),
sq 9 (.fieldA 0 (.t 2)),
sq 10 (.load none (.t 9)),
sq 11 (.call 17 [(.t 8),(.t 10)]),
sq 7 (.mv (.t 11)),
sq 12 (.ext (.t 7) 0),
sq 13 (.ext (.t 7) 1),
sq 5 (.mv (.t 12)),
sq 6 (.mv (.t 13))])
 (.seq (.seq (.reg [sq 14 (.fieldA 1 (.t 2)),
sq 15 (.load none (.t 14))])
 (.block 0 (.seq (.reg [sq 17 (.bin .eql (.t 15) (kI 1)),
sq 16 (.mv (.t 17))])
 (.cond (.t 16)
 (.seq (.sem (.reg [sq 18 (.mv (.t 6)),
sq 19 (.mv (.t 18)),
zg 20 19 true (.fieldA 2 (.t 2)),
zg 21 19 true (.load none (.t 20)),
zg 22 19 true (.mv (.t 5)),
zg 23 19 true (.call 57 [(.t 21),(.t 22)]),
sq 24 (.pick (.t 19) (.t 23) (kB false)),
sq 4 (.mv (.t 24))]))
 .ret)
 (.seq (.reg [sq 26 (.bin .eql (.t 15) (kI 2)),
sq 25 (.mv (.t 26))])
 (.cond (.t 25)
 (.seq (.sem (.reg [sq 27 (.mv (.t 6)),
sq 28 (.not (.t 27)),
sq 29 (.mv (.t 28)),
zg 30 29 false (.fieldA 2 (.t 2)),
zg 31 29 false (.load none (.t 30)),
zg 32 29 false (.mv (.t 5)),
zg 33 29 false (.call 57 [(.t 31),(.t 32)]),
zg 34 29 false (.not (.t 33)),
sq 35 (.pick (.t 29) (kB true) (.t 34)),
sq 4 (.mv (.t 35))]))
 .ret)
 (.seq (.reg [sq 37 (.bin .eql (.t 15) (kI 3)),
sq 36 (.mv (.t 37))])
 (.cond (.t 36)
 (.seq (.reg [sq 38 (.mv (.t 6)),
sq 4 (.mv (.t 38))])
 .ret)
 (.seq (.reg [sq 40 (.bin .eql (.t 15) (kI 4)),
sq 39 (.mv (.t 40))])
 (.cond (.t 39)
 (.seq (.reg [sq 41 (.mv (.t 6)),
sq 42 (.not (.t 41)),
sq 4 (.mv (.t 42))])
 .ret)
 .skip))))))))))
 (.seq (.reg [sq 4 (.mv (kB false))])
 .ret))))⟩
theorem a38_ok:afn Try.prog 38=some a38.er:=by kernel_rfl
theorem F38_ok{x0 x1 r}(h:F38 x0 x1=some r):CallD Try.prog 38 [.agg [dS x0.Key,dI x0.Op,dM (x0.Values.map eS)],.c (dM (x1.map eLabel))] [] (tupV [.c (dB r)]) []:=by
 refine callS a38_ok (by simp[a38]) ?_
 rw[F38]at h
 simp only[a38,VW.down,Nat.reduceEqDiff,reduceCtorEq,Nat.reduceAdd,Nat.reduceLeDiff,Nat.reduceLT,Nat.reduceBEq,Nat.reduceSub,EE.down]
 obtain⟨t1,ht1,h⟩:=bi h
 refine cN [] (F17_ok ht1) trivial (ww ?_)
 refine condSh h (fun c2 h=>?_) (fun c2 h=>?_)
 ·refine ww ?_
  obtain⟨o3,ho,h⟩:=bi h
  refine cutS (fun s=>s=⟨[(4,.one (.c (dB o3)))],[]⟩) ?_ ?_
  ·have h:=ho
   clear ho
   refine ww ?_
   refine guardSBh h (fun g4 h=>?_) (fun g4 h=>?_)
   ·refine ww ?_
    obtain⟨t5,ht5,h⟩:=bi h
    refine cN [] (F57_ok ht5) trivial (ww ?_)
    cases h
    exact eM [] rfl
   refine ww ?_
   cases h
   exact eM [] rfl
  rintro _ rfl
  clear ho
  refine ww ?_
  cases h
  exact eF []
 refine ww ?_
 refine condSh h (fun c6 h=>?_) (fun c6 h=>?_)
 ·refine ww ?_
  obtain⟨o7,ho,h⟩:=bi h
  refine cutS (fun s=>s=⟨[(4,.one (.c (dB o7)))],[]⟩) ?_ ?_
  ·have h:=ho
   clear ho
   refine ww ?_
   refine guardSBh h (fun g8 h=>?_) (fun g8 h=>?_)
   ·refine ww ?_
    cases h
    exact eM [] rfl
   refine ww ?_
   obtain⟨t9,ht9,h⟩:=bi h
   refine cN [] (F57_ok ht9) trivial (ww ?_)
   cases h
   exact eM [] rfl
  rintro _ rfl
  clear ho
  refine ww ?_
  cases h
  exact eF []
 refine ww ?_
 refine condSh h (fun c10 h=>?_) (fun c10 h=>?_)
 ·refine ww ?_
  cases h
  exact eF []
 refine ww ?_
 refine condSh h (fun c11 h=>?_) (fun c11 h=>?_)
 ·refine ww ?_
  cases h
  exact eF []
 refine ww ?_
 cases h
 exact eF []
def F22_l1(x1:(List Label)):List Requirement→Nat→Option ((Bool) ⊕ (Unit))
 |[],o1_0=>some (Sum.inr (()))
 |xo1::xs,o1_0=>(F38 xo1 x1).bind fun t3=>(if(nb t3)=true then(some false).map Sum.inl else F22_l1 x1 xs (o1_0+1))
def F22(x0:(List Requirement))(x1:(List Label)):Option (Bool):=(((ck (0≤x0.length∧x0.length≤4294967290)).bind fun u5=>F22_l1 x1 x0 0:Option ((Bool) ⊕ (Unit))).bind fun o1=>match o1 with|Sum.inl f=>some f|Sum.inr po1=>some true)
def a22:AFn:=⟨18,[(.tmp 4)],
 (.seq (.reg [sq 4 (.mv (kB false))])
 (.seq (.seq (.reg [sq 7 (.mv (.t 0)),
sq 8 (.len (.t 7)),
sq 9 (.mv (kI 0))])
 (.sem (.block 0 (.loop (.seq (.reg [sq 10 (.bin .lss (.t 9) (.t 8))])
 (.seq (.cond (.t 10)
 .skip
 (.exit 0))
 (.seq (.block 1 (.seq (.reg [sq 11 (.indexA 3 (.t 7) (.t 9)),
sq 12 (.load (some 3) (.t 11)),
sq 6 (.zbox [dS ⟨#[]⟩,dI 0,dN]),
su (.store 3 (.t 6) (.t 12))])
 (.seq (.reg [sq 13 (.load (some 3) (.t 6)),
sq 14 (.mv (.t 1)),
sq 15 (.call 38 [(.t 13),(.t 14)]),
sq 16 (.not (.t 15))])
 (.cond (.t 16)
 (.seq (.reg [sq 4 (.mv (kB false))])
 .ret)
 .skip))))
 (.reg [sq 17 (.bin .add (.t 9) (kI 1)),
sq 9 (.mv (.t 17))]))))))))
 (.seq (.reg [sq 4 (.mv (kB true))])
 .ret)))⟩
theorem a22_ok:afn Try.prog 22=some a22.er:=by kernel_rfl
theorem F22_ok{x0 x1 r}(h:F22 x0 x1=some r):CallD Try.prog 22 [.c (dM (x0.map eRequirement)),.c (dM (x1.map eLabel))] [] (tupV [.c (dB r)]) []:=by
 refine callS a22_ok (by simp[a22]) ?_
 rw[F22]at h
 simp only[a22,VW.down,Nat.reduceEqDiff,reduceCtorEq,Nat.reduceAdd,Nat.reduceLeDiff,Nat.reduceLT,Nat.reduceBEq,Nat.reduceSub,EE.down]
 obtain⟨o1,ho,h⟩:=bi h
 refine cutS (fun s=>∃po1,o1=Sum.inr po1∧s=⟨[],[]⟩) ?_ ?_
 ·have h0o1:=h
  have h:=ho
  clear ho
  obtain⟨_,hk,h⟩:=bi h
  have hk:=ck_some hk
  refine ww ?_
  refine bL (fun j s=>∃(o1_0:Nat),(o1_0≤x0.length∧j=x0.length-o1_0)∧s=⟨[(1,.one (.c (dM (x1.map eLabel)))),(7,.one (.c (dM (x0.map eRequirement)))),(8,.one (.c (dI ((x0.length:Int))))),(9,.one (.c (dI ((o1_0:Int)))))],[]⟩∧F22_l1 x1 (x0.drop o1_0) o1_0=some o1) (x0.length-0) [] ⟨0,⟨hk.1,rfl⟩,rfl,h⟩ ?_
  rintro _ _ ⟨o1_0,⟨hi,rfl⟩,rfl,h⟩
  refine ww ?_
  refine condS (fun c2=>?_) (fun c2=>?_)
  ·obtain⟨xo1,hxo1,hd⟩:=countY (show(o1_0:Int)<(x0.length:Int)from c2)
   rw[hd,F22_l1]at h
   refine ww ?_
   refine t_idxF (enc:=eRequirement) (xs:=x0) rfl rfl hxo1 rfl (ww ?_)
   obtain⟨t3,ht3,h⟩:=bi h
   refine cN [] (F38_ok ht3) trivial (ww ?_)
   refine condBh h (fun c4 h=>?_) (fun c4 h=>?_)
   ·refine ww ?_
    obtain⟨fh0o1,hfh0o1,rfl⟩:=Option.map_eq_some_iff.1 h
    have h:=hfh0o1.trans h0o1
    cases h
    exact eF []
   refine ww ?_
   rw[wrapN (by omega)]
   exact eL' (x0.length-(o1_0+1)) [] ⟨o1_0+1,⟨by omega,rfl⟩,rfl,h⟩ (by omega)
  rw[countN (show¬((o1_0:Int)<(x0.length:Int))from c2),F22_l1]at h
  refine ww ?_
  cases h
  exact eM [] ⟨_,rfl,rfl⟩
 rintro _ ⟨po1,rfl,rfl⟩
 clear ho
 dsimp only at h
 refine ww ?_
 cases h
 exact eF []
end Go.Proofs.Ytadhmlfnfgpjjaa
