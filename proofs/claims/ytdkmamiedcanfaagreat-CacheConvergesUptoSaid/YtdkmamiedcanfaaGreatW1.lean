/- Each Go function as a function over typed data, and its walk. -/
import Derived.Test.YtdkmamiedcanfaaGreatW0
namespace Go.Proofs.YtdkmamiedcanfaaGreat
open Go Go.Fw Go.Shelf
set_option maxRecDepth 100000
set_option maxHeartbeats 4000000
set_option linter.unusedSimpArgs false
set_option linter.unusedVariables false
def F70(x0:ByteArray)(x1:ByteArray)(x2:ByteArray):Option (ByteArray):=(KZ x0 ((⟨#[47]⟩:ByteArray))).bind fun s1=>(KZ s1 x1).bind fun s2=>(KZ s2 ((⟨#[47]⟩:ByteArray))).bind fun s3=>(KZ s3 x2).bind fun s4=>some s4
def a70:AFn:=⟨14,[(.tmp 6)],
 (.seq (.reg [sq 6 (.mv (kS ⟨#[]⟩))])
 (.seq (.reg [Qa 7 0,
sq 8 (.bin .add (.t 7) (kS ⟨#[47]⟩)),
Qa 9 1,
sq 10 (.bin .add (.t 8) (.t 9)),
sq 11 (.bin .add (.t 10) (kS ⟨#[47]⟩)),
Qa 12 2,
sq 13 (.bin .add (.t 11) (.t 12)),
Qa 6 13])
 .ret))⟩
theorem F70_ok{x0 x1 x2 r}(h:F70 x0 x1 x2=some r):An Tryz.prog 70 [.c (dS x0),.c (dS x1),.c (dS x2)] [] (AL [.c (dS r)]) []:=by
 rw[F70]at h
 refine zc a70 (by kernel_rfl) rfl (ww ?_)
 obtain⟨s1,hs1,h⟩:=bi h
 obtain⟨hle,es1⟩:=EN hs1
 refine⟨hle,?_⟩
 first|rw[←es1]|subst es1
 refine ww ?_
 obtain⟨s2,hs2,h⟩:=bi h
 obtain⟨hle,es2⟩:=EN hs2
 refine⟨hle,?_⟩
 first|rw[←es2]|subst es2
 refine ww ?_
 obtain⟨s3,hs3,h⟩:=bi h
 obtain⟨hle,es3⟩:=EN hs3
 refine⟨hle,?_⟩
 first|rw[←es3]|subst es3
 refine ww ?_
 obtain⟨s4,hs4,h⟩:=bi h
 obtain⟨hle,es4⟩:=EN hs4
 refine⟨hle,?_⟩
 first|rw[←es4]|subst es4
 refine ww ?_
 cases h
 exact eF []
def F160_l8(x0:ByteArray):Nat→Int→Option ((Bool) ⊕ (Unit))
 |0,_=>none
 |k+1,o8_0=>(if o8_0<(x0.size:Int)then(((byI x0 o8_0).bind fun y11=>(if 97≤y11 then(byI x0 o8_0).bind fun y13=>(if¬(y13≤122)then(byI x0 o8_0).bind fun y15=>(if 65≤y15 then(byI x0 o8_0).bind fun y17=>some (decide (¬(y17≤90)))else some true)else some false)else(byI x0 o8_0).bind fun y18=>(if 65≤y18 then(byI x0 o8_0).bind fun y20=>some (decide (¬(y20≤90)))else some true))).bind fun o10=>(if o10=true then(some false).map Sum.inl else F160_l8 x0 k ((IntKind.i64.wrap (o8_0+1)))))else some (Sum.inr (())))
def F160(x0:ByteArray):Option (Bool):=(((if x0=(⟨#[]⟩:ByteArray)then some true else(if 40<(x0.size:Int)then some true else(byI x0 0).bind fun y4=>(if y4<65 then some true else(byI x0 0).bind fun y6=>some (decide (90<y6)))))).bind fun o1=>(if o1=true then some false else((F160_l8 x0 1099511627776 0:Option ((Bool) ⊕ (Unit))).bind fun o8=>match o8 with|Sum.inl f=>some f|Sum.inr po8=>some true)))
def a160:AFn:=⟨51,[(.tmp 2)],
 (.seq (.reg [Qf 2 false])
 (.seq (.seq (.sem (.reg [Qa 4 0,
sq 5 (.bin .eql (.t 4) (kS ⟨#[]⟩)),
Qa 6 5,
Qv 7 6 false 0,
zg 8 6 false (.slen (.t 7)),
zg 9 6 false (.bin .gtr (.t 8) (kI 40)),
Qj 10 6 9,
Qa 11 10,
Qv 12 11 false 0,
zg 13 11 false (.sidx (.t 12) (kI 0)),
zg 14 11 false (.bin .lss (.t 13) (.k (.c (.d (.v (.int .u8 65)))))),
Qj 15 11 14,
Qa 16 15,
Qv 17 16 false 0,
zg 18 16 false (.sidx (.t 17) (kI 0)),
zg 19 16 false (.bin .gtr (.t 18) (.k (.c (.d (.v (.int .u8 90)))))),
Qj 20 16 19]))
 (.cond (.t 20)
 (.seq (.reg [Qf 2 false])
 .ret)
 .skip))
 (.seq (.seq (.reg [Qe 3 0])
 (.sem (.block 0 (.loop (.seq (.seq (.reg [Qa 21 3,
Qa 22 0,
sq 23 (.slen (.t 22)),
Qn 24 21 23])
 (.cond (.t 24)
 .skip
 (.exit 0)))
 (.seq (.block 1 (.seq (.sem (.reg [Qa 27 0,
Qa 28 3,
sq 29 (.sidx (.t 27) (.t 28)),
sq 30 (.bin .geq (.t 29) (.k (.c (.d (.v (.int .u8 97)))))),
Qa 31 30,
Qv 32 31 true 0,
Qv 33 31 true 3,
zg 34 31 true (.sidx (.t 32) (.t 33)),
zg 35 31 true (.bin .leq (.t 34) (.k (.c (.d (.v (.int .u8 122)))))),
Qi 36 31 35,
Qq 37 36,
Qa 38 37,
Qv 39 38 true 0,
Qv 40 38 true 3,
zg 41 38 true (.sidx (.t 39) (.t 40)),
zg 42 38 true (.bin .geq (.t 41) (.k (.c (.d (.v (.int .u8 65)))))),
Qv 43 38 true 42,
Qv 44 43 true 0,
Qv 45 43 true 3,
zg 46 43 true (.sidx (.t 44) (.t 45)),
zg 47 43 true (.bin .leq (.t 46) (.k (.c (.d (.v (.int .u8 90)))))),
zg 48 38 true (.pick (.t 43) (.t 47) (kB false)),
zg 49 38 true (.not (.t 48)),
Qi 50 38 49]))
 (.cond (.t 50)
 (.seq (.reg [Qf 2 false])
 .ret)
 .skip)))
 (.reg [Qa 25 3,
Qm 26 25 1,
Qa 3 26])))))))
 (.seq (.reg [Qf 2 true])
 .ret))))⟩
theorem F160_ok{x0 r}(h:F160 x0=some r):An Tryz.prog 160 [.c (dS x0)] [] (AL [.c (dB r)]) []:=by
 rw[F160]at h
 refine zc a160 (by kernel_rfl) rfl (ww ?_)
 obtain⟨o1,ho,h⟩:=bi h
 refine AB (fun s=>s=⟨[(0,oc (dS x0)),(20,oc (dB o1))],[]⟩) ?_ ?_
 ·have h:=ho
  clear ho
  refine ww ?_
  refine Af h (fun g2 h=>ww ?_) (fun g2 h=>ww ?_)
  ·cases h
   exact eM [] rfl
  refine Af h (fun g3 h=>ww ?_) (fun g3 h=>ww ?_)
  ·cases h
   exact eM [] rfl
  obtain⟨y4,hy4,h⟩:=bi h
  refine Bx rfl rfl hy4 (ww ?_)
  refine Af h (fun g5 h=>ww ?_) (fun g5 h=>ww ?_)
  ·cases h
   exact eM [] rfl
  obtain⟨y6,hy6,h⟩:=bi h
  refine Bx rfl rfl hy6 (ww ?_)
  cases h
  exact eM [] rfl
 rintro _ rfl
 clear ho
 refine ww ?_
 refine AE h (fun c7 h=>ww ?_) (fun c7 h=>ww ?_)
 ·cases h
  exact eF []
 obtain⟨o8,ho,h⟩:=bi h
 refine AB (fun s=>∃po8,o8=Sum.inr po8∧s=⟨[],[]⟩) ?_ ?_
 ·have h0o8:=h
  have h:=ho
  clear ho
  refine ww ?_
  refine bL (fun j s=>∃(o8_0:Int),s=⟨[(0,oc (dS x0)),(3,oc (dI o8_0))],[]⟩∧F160_l8 x0 j o8_0=some o8) 1099511627776 [] ⟨0,rfl,h⟩ ?_
  rintro j _ ⟨o8_0,rfl,h⟩
  cases j with
  |zero=>cases(show(none:Option _)=some _ from h)
  |succ j=>
   rw[F160_l8]at h
   refine ww ?_
   refine AH h (fun c9 h=>ww ?_) (fun c9 h=>?_)
   ·obtain⟨o10,ho,h⟩:=bi h
    refine AB (fun s=>s=⟨[(0,oc (dS x0)),(3,oc (dI o8_0)),(50,oc (dB o10))],[]⟩) ?_ ?_
    ·have h:=ho
     clear ho
     refine ww ?_
     obtain⟨y11,hy11,h⟩:=bi h
     refine Bx rfl rfl hy11 (ww ?_)
     refine Af h (fun g12 h=>ww ?_) (fun g12 h=>?_)
     ·obtain⟨y13,hy13,h⟩:=bi h
      refine Bx rfl rfl hy13 (ww ?_)
      refine Af h (fun g14 h=>ww ?_) (fun g14 h=>?_)
      ·obtain⟨y15,hy15,h⟩:=bi h
       refine Bx rfl rfl hy15 (ww ?_)
       refine Af h (fun g16 h=>ww ?_) (fun g16 h=>?_)
       ·obtain⟨y17,hy17,h⟩:=bi h
        refine Bx rfl rfl hy17 (ww ?_)
        cases h
        exact eM [] rfl
       ·refine ww ?_
        cases h
        exact eM [] rfl
      ·refine ww ?_
       cases h
       exact eM [] rfl
     ·refine ww ?_
      obtain⟨y18,hy18,h⟩:=bi h
      refine Bx rfl rfl hy18 (ww ?_)
      refine Af h (fun g19 h=>ww ?_) (fun g19 h=>?_)
      ·obtain⟨y20,hy20,h⟩:=bi h
       refine Bx rfl rfl hy20 (ww ?_)
       cases h
       exact eM [] rfl
      ·refine ww ?_
       cases h
       exact eM [] rfl
    ·rintro _ rfl
     clear ho
     refine ww ?_
     refine AE h (fun c21 h=>ww ?_) (fun c21 h=>?_)
     ·obtain⟨fh0o8,hfh0o8,rfl⟩:=Option.map_eq_some_iff.1 h
      have h:=hfh0o8.trans h0o8
      cases h
      exact eF []
     ·refine ww ?_
      exact eL' j [] ⟨(IntKind.i64.wrap (o8_0+1)),rfl,h⟩ (Nat.lt_succ_self _)
   ·refine ww ?_
    cases h
    exact eM [] ⟨_,rfl,rfl⟩
 rintro _ ⟨po8,rfl,rfl⟩
 clear ho
 dsimp only at h
 refine ww ?_
 cases h
 exact eF []
def F192_l1(x0:(List ByteArray)):Nat→Int→Option ((Bool) ⊕ (Unit))
 |0,_=>none
 |k+1,o1_0=>(if o1_0<(x0.length:Int)then(rdI x0 o1_0).bind fun y3=>(rdI x0 ((IntKind.i64.wrap (o1_0-1)))).bind fun y4=>(if((Op.bytesLess y3.toList y4.toList||decide (y3=y4)))=true then(some false).map Sum.inl else F192_l1 x0 k ((IntKind.i64.wrap (o1_0+1))))else some (Sum.inr (())))
def F192(x0:(List ByteArray)):Option (Bool):=((F192_l1 x0 1099511627776 1:Option ((Bool) ⊕ (Unit))).bind fun o1=>match o1 with|Sum.inl f=>some f|Sum.inr po1=>some true)
def a192:AFn:=⟨20,[(.tmp 2)],
 (.seq (.reg [Qf 2 false])
 (.seq (.seq (.reg [Qe 3 1])
 (.sem (.block 0 (.loop (.seq (.seq (.reg [Qa 4 3,
Qa 5 0,
Qh 6 5,
Qn 7 4 6])
 (.cond (.t 7)
 .skip
 (.exit 0)))
 (.seq (.block 1 (.seq (.regd [Qa 10 0,
Qa 11 3,
sd 12 (.indexA 1 (.t 10) (.t 11)) [0,1],
sd 13 (.load none (.t 12)) [0,1,2],
Qa 14 0,
Qa 15 3,
sd 16 (.bin .sub (.t 15) (kI 1)) [5],
sd 17 (.indexA 1 (.t 14) (.t 16)) [4,5,6],
sd 18 (.load none (.t 17)) [4,5,6,7],
sd 19 (.bin .leq (.t 13) (.t 18)) [0,1,2,3,4,5,6,7,8]])
 (.cond (.t 19)
 (.seq (.reg [Qf 2 false])
 .ret)
 .skip)))
 (.reg [Qa 8 3,
Qm 9 8 1,
Qa 3 9])))))))
 (.seq (.reg [Qf 2 true])
 .ret)))⟩
theorem F192_ok{x0 r}(h:F192 x0=some r):An Tryz.prog 192 [.c (dM (x0.map eS))] [] (AL [.c (dB r)]) []:=by
 rw[F192]at h
 refine zc a192 (by kernel_rfl) rfl (ww ?_)
 obtain⟨o1,ho,h⟩:=bi h
 refine AB (fun s=>∃po1,o1=Sum.inr po1∧s=⟨[],[]⟩) ?_ ?_
 ·have h0o1:=h
  have h:=ho
  clear ho
  refine ww ?_
  refine bL (fun j s=>∃(o1_0:Int),s=⟨[(0,oc (dM (x0.map eS))),(3,oc (dI o1_0))],[]⟩∧F192_l1 x0 j o1_0=some o1) 1099511627776 [] ⟨1,rfl,h⟩ ?_
  rintro j _ ⟨o1_0,rfl,h⟩
  cases j with
  |zero=>cases(show(none:Option _)=some _ from h)
  |succ j=>
   rw[F192_l1]at h
   refine ww ?_
   refine AH h (fun c2 h=>ww ?_) (fun c2 h=>?_)
   ·obtain⟨y3,hy3,h⟩:=bi h
    refine Az (enc:=eS) (xs:=x0) rfl rfl hy3 rfl (ww ?_)
    obtain⟨y4,hy4,h⟩:=bi h
    refine Az (enc:=eS) (xs:=x0) rfl rfl hy4 rfl (ww ?_)
    refine AE h (fun c5 h=>ww ?_) (fun c5 h=>?_)
    ·obtain⟨fh0o1,hfh0o1,rfl⟩:=Option.map_eq_some_iff.1 h
     have h:=hfh0o1.trans h0o1
     cases h
     exact eF []
    ·refine ww ?_
     exact eL' j [] ⟨(IntKind.i64.wrap (o1_0+1)),rfl,h⟩ (Nat.lt_succ_self _)
   ·refine ww ?_
    cases h
    exact eM [] ⟨_,rfl,rfl⟩
 rintro _ ⟨po1,rfl,rfl⟩
 clear ho
 dsimp only at h
 refine ww ?_
 cases h
 exact eF []
def F113(x0:Int):Option (Bool):=(((if x0=1 then some true else some (decide (x0=2)))).bind fun o1=>some o1)
def a113:AFn:=⟨9,[(.tmp 2)],
 (.seq (.reg [Qf 2 false])
 (.seq (.sem (.reg [Qa 3 0,
Qr 4 3 1,
Qa 5 4,
Qv 6 5 false 0,
zg 7 5 false (.bin .eql (.t 6) (kI 2)),
Qj 8 5 7,
Qa 2 8]))
 .ret))⟩
theorem F113_ok{x0 r}(h:F113 x0=some r):An Tryz.prog 113 [.c (dI x0)] [] (AL [.c (dB r)]) []:=by
 rw[F113]at h
 refine zc a113 (by kernel_rfl) rfl (ww ?_)
 obtain⟨o1,ho,h⟩:=bi h
 refine AB (fun s=>s=⟨[(2,oc (dB o1))],[]⟩) ?_ ?_
 ·have h:=ho
  clear ho
  refine ww ?_
  refine Af h (fun g2 h=>ww ?_) (fun g2 h=>ww ?_)
  ·cases h
   exact eM [] rfl
  cases h
  exact eM [] rfl
 rintro _ rfl
 clear ho
 refine ww ?_
 cases h
 exact eF []
theorem a66_ok:afn Tryz.prog 66=some (Eo 5 48):=by kernel_rfl
theorem F66_ok{x0 r:List BO}(h:BI x0=some r):An Tryz.prog 66 [.c (dM (x0.map A3))] [] (AL [.c (.own 0 1 0 r.length none)]) [some (.arr 1 5 (r.map A3))]:=EZ a66_ok (fun _=>rfl) h
theorem a67_ok:afn Tryz.prog 67=some (Eo 2 40):=by kernel_rfl
theorem F67_ok{x0 r:List AI}(h:BI x0=some r):An Tryz.prog 67 [.c (dM (x0.map AG))] [] (AL [.c (.own 0 1 0 r.length none)]) [some (.arr 1 2 (r.map AG))]:=EZ a67_ok (fun _=>rfl) h
theorem a100_ok:afn Tryz.prog 100=some (Eo 6 96):=by kernel_rfl
theorem F100_ok{x0 r:List Ay}(h:BI x0=some r):An Tryz.prog 100 [.c (dM (x0.map Ao))] [] (AL [.c (.own 0 1 0 r.length none)]) [some (.arr 1 6 (r.map Ao))]:=EZ a100_ok (fun _=>by rw[BA];rfl) h
def F36(b0:List (ByteArray×Object)):Option (Unit):=some (())
def a36:AFn:=⟨4,[(.tmp 2)],
 (.seq (.reg [Qg 1 0,
sq 2 (.mv (.k (.c (.d (.v (.nilFunc))))))])
 (.seq (.reg [sq 3 (.fn 64 [(.t 1)]),
Qa 2 3])
 .ret))⟩
theorem F36_ok{b0 r}(h:F36 b0=some r):An Tryz.prog 36 [.c (.mref 0)] [some (.map (eMs Value.string Ad b0))] (AL [.c (.fn 64 [(1,0)])]) [some (.map (eMs Value.string Ad b0)),xb [.mref 0]]:=by
 rw[F36]at h
 refine zc a36 (by kernel_rfl) rfl (ww ?_)
 cases h
 exact eF [some 0,some 1]
def Tryz.JB:Go.Shelf.Ren:=⟨fun|190=>63|125=>98|258=>97|128=>138|129=>139|302=>129|303=>130|304=>131|305=>132|306=>133|307=>134|308=>135|309=>136|310=>137|333=>167|329=>168|330=>169|334=>170|335=>171|336=>172|344=>195|n=>n,fun|31=>35|9=>9|3=>3|46=>150|0=>0|51=>180|53=>182|4=>4|183=>173|182=>172|131=>154|5=>5|218=>201|222=>205|228=>214|229=>215|n=>n,fun|n=>n⟩
theorem Tryz.U2:Go.Proofs.Lays.n190 Tryz.prog Tryz.JB:={
 mixed:=by kernel_rfl
 f125:=Tryz.func98.trans (congrArg some (by kernel_rfl))
 f128:=Tryz.func138.trans (congrArg some (by kernel_rfl))
 f129:=Tryz.func139.trans (congrArg some (by kernel_rfl))
 f190:=Tryz.func63.trans (congrArg some (by kernel_rfl))
 f258:=Tryz.func97.trans (congrArg some (by kernel_rfl))
 f302:=Tryz.func129.trans (congrArg some (by kernel_rfl))
 f303:=Tryz.func130.trans (congrArg some (by kernel_rfl))
 f304:=Tryz.func131.trans (congrArg some (by kernel_rfl))
 f305:=Tryz.func132.trans (congrArg some (by kernel_rfl))
 f306:=Tryz.func133.trans (congrArg some (by kernel_rfl))
 f307:=Tryz.func134.trans (congrArg some (by kernel_rfl))
 f308:=Tryz.func135.trans (congrArg some (by kernel_rfl))
 f309:=Tryz.func136.trans (congrArg some (by kernel_rfl))
 f310:=Tryz.func137.trans (congrArg some (by kernel_rfl))
 f329:=Tryz.func168.trans (congrArg some (by kernel_rfl))
 f330:=Tryz.func169.trans (congrArg some (by kernel_rfl))
 f333:=Tryz.func167.trans (congrArg some (by kernel_rfl))
 f334:=Tryz.func170.trans (congrArg some (by kernel_rfl))
 f335:=Tryz.func171.trans (congrArg some (by kernel_rfl))
 f336:=Tryz.func172.trans (congrArg some (by kernel_rfl))
 f344:=Tryz.func195.trans (congrArg some (by kernel_rfl))
 t0:=Tryz.underlying0
 a0:=Tryz.isAgg0
 z0:=Tryz.sizeOf0
 v0:=Tryz.zeroValue0
 t3:=Tryz.underlying3
 a3:=Tryz.isAgg3
 z3:=Tryz.sizeOf3
 v3:=Tryz.zeroValue3
 t4:=Tryz.underlying4
 a4:=Tryz.isAgg4
 z4:=Tryz.sizeOf4
 v4:=Tryz.zeroValue4
 t5:=Tryz.underlying5
 a5:=Tryz.isAgg5
 z5:=Tryz.sizeOf5
 v5:=Tryz.zeroValue5
 t9:=Tryz.underlying9
 a9:=Tryz.isAgg9
 z9:=Tryz.sizeOf9
 v9:=Tryz.zeroValue9
 t31:=Tryz.underlying35
 a31:=Tryz.isAgg35
 z31:=Tryz.sizeOf35
 v31:=Tryz.zeroValue35
 t46:=Tryz.underlying150
 a46:=Tryz.isAgg150
 z46:=Tryz.sizeOf150
 v46:=Tryz.zeroValue150
 t51:=Tryz.underlying180
 a51:=Tryz.isAgg180
 z51:=Tryz.sizeOf180
 v51:=Tryz.zeroValue180
 t53:=Tryz.underlying182
 a53:=Tryz.isAgg182
 z53:=Tryz.sizeOf182
 v53:=Tryz.zeroValue182
 t131:=Tryz.underlying154
 a131:=Tryz.isAgg154
 z131:=Tryz.sizeOf154
 v131:=Tryz.zeroValue154
 t182:=Tryz.underlying172
 a182:=Tryz.isAgg172
 z182:=Tryz.sizeOf172
 v182:=Tryz.zeroValue172
 t183:=Tryz.underlying173
 a183:=Tryz.isAgg173
 z183:=Tryz.sizeOf173
 v183:=Tryz.zeroValue173
 t218:=Tryz.underlying201
 a218:=Tryz.isAgg201
 z218:=Tryz.sizeOf201
 v218:=Tryz.zeroValue201
 t222:=Tryz.underlying205
 a222:=Tryz.isAgg205
 z222:=Tryz.sizeOf205
 v222:=Tryz.zeroValue205
 t228:=Tryz.underlying214
 a228:=Tryz.isAgg214
 z228:=Tryz.sizeOf214
 v228:=Tryz.zeroValue214
 t229:=Tryz.underlying215
 a229:=Tryz.isAgg215
 z229:=Tryz.sizeOf215
 v229:=Tryz.zeroValue215}
def Tryz.Ho:Go.Shelf.Ren:=⟨fun|6=>35|8=>62|9=>63|11=>96|13=>98|12=>97|23=>138|24=>139|14=>129|15=>130|16=>131|17=>132|18=>133|19=>134|20=>135|21=>136|22=>137|25=>167|26=>168|27=>169|28=>170|29=>171|30=>172|31=>195|n=>n,fun|26=>9|28=>84|24=>35|0=>0|3=>3|37=>150|48=>180|50=>182|4=>4|40=>173|39=>172|45=>154|5=>5|9=>9|51=>201|55=>205|57=>214|58=>215|33=>115|n=>n,fun|n=>n⟩
theorem Tryz.Rf:Go.Proofs.SlLaysZ.n6 Tryz.prog Tryz.Ho:={
 mixed:=by kernel_rfl
 f6:=⟨Tryz.f35.name,by decide,Tryz.func35.trans (congrArg some (by kernel_rfl))⟩
 f8:=⟨Tryz.f62.name,by decide,Tryz.func62.trans (congrArg some (by kernel_rfl))⟩
 f11:=⟨Tryz.f96.name,by decide,Tryz.func96.trans (congrArg some (by kernel_rfl))⟩
 t0:=Tryz.underlying0
 a0:=Tryz.isAgg0
 z0:=Tryz.sizeOf0
 v0:=Tryz.zeroValue0
 t24:=Tryz.underlying35
 a24:=Tryz.isAgg35
 z24:=Tryz.sizeOf35
 v24:=Tryz.zeroValue35
 t26:=Tryz.underlying9
 a26:=Tryz.isAgg9
 z26:=Tryz.sizeOf9
 v26:=Tryz.zeroValue9
 t28:=Tryz.underlying84
 a28:=Tryz.isAgg84
 z28:=Tryz.sizeOf84
 v28:=Tryz.zeroValue84
 i26:=by kernel_rfl}
theorem a156_ok:afn Tryz.prog 156=some (Eo 23 352):=by kernel_rfl
theorem F156_ok{x0 r:List Object}(h:BI x0=some r):An Tryz.prog 156 [.c (dM (x0.map Ad))] [] (AL [.c (.own 0 1 0 r.length none)]) [some (.arr 1 23 (r.map Ad))]:=EZ a156_ok (fun _=>rfl) h
noncomputable def Yn:Func:=(Tryz.prog.funcs[196]?).getD default
theorem Vd:Tryz.prog.funcs[196]? =some Yn:=by kernel_rfl
theorem F196_ok{a b:ByteArray}{r:Int}(h:XR a b=some r):An Tryz.prog 196 [.c (dS a),.c (dS b)] [] (AL [.c (dI r)]) []:=Yt Vd (by kernel_rfl) (by kernel_rfl) (by kernel_rfl) (by kernel_rfl) h
def F43:Option (Unit):=some (())
def a43:AFn:=⟨2,[(.cell 0 (some 6))],
 (.seq (.reg [zl 0 (.zbox [dI 0,dI 0,dI 0,dN,dN,dN]) [] []])
 (.seq (.reg [sq 1 (.build [dI 0,dI 0,dI 0,dN,dN,dN] [(2,1,(kI 1))]),
su (.store 6 (.t 0) (.t 1))])
 .ret))⟩
theorem F43_ok{r}(h:F43=some r):An Tryz.prog 43 [] [] (AL [.agg [dI 0,dI 0,dI 1,dM (([]:List Object).map Ad),dM (([]:List Object).map Ad),dM (([]:List Change).map A9)]]) []:=by
 rw[F43]at h
 refine zc a43 (by kernel_rfl) rfl (ww ?_)
 cases h
 exact eF []
def F174_l1(x0:ByteArray):Nat→Int→Option ((Bool) ⊕ (Unit))
 |0,_=>none
 |k+1,o1_0=>(if o1_0<(x0.size:Int)then(byI x0 o1_0).bind fun y3=>(((if 65≤y3 then(if y3≤90 then some false else(if 0<o1_0 then(if 97≤y3 then some (decide (¬(y3≤122)))else some true)else some true))else(if 0<o1_0 then(if 97≤y3 then some (decide (¬(y3≤122)))else some true)else some true))).bind fun o4=>(if o4=true then(some false).map Sum.inl else F174_l1 x0 k ((IntKind.i64.wrap (o1_0+1)))))else some (Sum.inr (())))
def F174(x0:ByteArray):Option (Bool):=((F174_l1 x0 1099511627776 0:Option ((Bool) ⊕ (Unit))).bind fun o1=>match o1 with|Sum.inl f=>some f|Sum.inr po1=>(((if 1≤(x0.size:Int)then some (decide ((x0.size:Int)≤40))else some false)).bind fun o12=>some o12))
def a174:AFn:=⟨41,[(.tmp 2)],
 (.seq (.reg [Qf 2 false])
 (.seq (.seq (.reg [Qa 5 0,
sq 6 (.slen (.t 5)),
Qe 7 0])
 (.sem (.block 0 (.loop (.seq (.reg [Qn 8 7 6])
 (.seq (.cond (.t 8)
 .skip
 (.exit 0))
 (.seq (.block 1 (.seq (.reg [Qa 9 7,
Qa 3 9])
 (.seq (.reg [Qa 10 0,
Qa 11 3,
sq 12 (.sidx (.t 10) (.t 11)),
Qa 4 12])
 (.seq (.sem (.reg [Qa 13 4,
sq 14 (.bin .geq (.t 13) (.k (.c (.d (.v (.int .u8 65)))))),
Qa 15 14,
Qv 16 15 true 4,
zg 17 15 true (.bin .leq (.t 16) (.k (.c (.d (.v (.int .u8 90)))))),
Qi 18 15 17,
Qa 19 18,
Qv 20 19 false 3,
zg 21 19 false (.bin .gtr (.t 20) (kI 0)),
Qv 22 19 false 21,
Qv 23 22 true 4,
zg 24 22 true (.bin .geq (.t 23) (.k (.c (.d (.v (.int .u8 97)))))),
zg 25 19 false (.pick (.t 22) (.t 24) (kB false)),
Qv 26 19 false 25,
Qv 27 26 true 4,
zg 28 26 true (.bin .leq (.t 27) (.k (.c (.d (.v (.int .u8 122)))))),
zg 29 19 false (.pick (.t 26) (.t 28) (kB false)),
Qj 30 19 29,
Qq 31 30]))
 (.cond (.t 31)
 (.seq (.reg [Qf 2 false])
 .ret)
 .skip)))))
 (.reg [Qm 32 7 1,
Qa 7 32]))))))))
 (.seq (.sem (.reg [Qa 33 0,
sq 34 (.slen (.t 33)),
sq 35 (.bin .geq (.t 34) (kI 1)),
Qa 36 35,
Qv 37 36 true 0,
zg 38 36 true (.slen (.t 37)),
zg 39 36 true (.bin .leq (.t 38) (kI 40)),
Qi 40 36 39,
Qa 2 40]))
 .ret)))⟩
theorem F174_ok{x0 r}(h:F174 x0=some r):An Tryz.prog 174 [.c (dS x0)] [] (AL [.c (dB r)]) []:=by
 rw[F174]at h
 refine zc a174 (by kernel_rfl) rfl (ww ?_)
 obtain⟨o1,ho,h⟩:=bi h
 refine AB (fun s=>∃po1,o1=Sum.inr po1∧s=⟨[(0,oc (dS x0))],[]⟩) ?_ ?_
 ·have h0o1:=h
  have h:=ho
  clear ho
  refine ww ?_
  refine bL (fun j s=>∃(o1_0:Int),s=⟨[(0,oc (dS x0)),(6,oc (dI ((x0.size:Int)))),(7,oc (dI o1_0))],[]⟩∧F174_l1 x0 j o1_0=some o1) 1099511627776 [] ⟨0,rfl,h⟩ ?_
  rintro j _ ⟨o1_0,rfl,h⟩
  cases j with
  |zero=>cases(show(none:Option _)=some _ from h)
  |succ j=>
   rw[F174_l1]at h
   refine ww ?_
   refine AH h (fun c2 h=>ww ?_) (fun c2 h=>?_)
   ·obtain⟨y3,hy3,h⟩:=bi h
    refine Bx rfl rfl hy3 (ww ?_)
    obtain⟨o4,ho,h⟩:=bi h
    refine AB (fun s=>s=⟨[(0,oc (dS x0)),(6,oc (dI ((x0.size:Int)))),(7,oc (dI o1_0)),(31,oc (dB o4))],[]⟩) ?_ ?_
    ·have h:=ho
     clear ho
     refine ww ?_
     refine Af h (fun g5 h=>ww ?_) (fun g5 h=>?_)
     ·refine Af h (fun g6 h=>ww ?_) (fun g6 h=>?_)
      ·cases h
       exact eM [] rfl
      ·refine ww ?_
       refine Af h (fun g7 h=>ww ?_) (fun g7 h=>?_)
       ·refine Af h (fun g8 h=>ww ?_) (fun g8 h=>?_)
        ·cases h
         exact eM [] rfl
        ·refine ww ?_
         cases h
         exact eM [] rfl
       ·refine ww ?_
        cases h
        exact eM [] rfl
     ·refine ww ?_
      refine Af h (fun g9 h=>ww ?_) (fun g9 h=>?_)
      ·refine Af h (fun g10 h=>ww ?_) (fun g10 h=>?_)
       ·cases h
        exact eM [] rfl
       ·refine ww ?_
        cases h
        exact eM [] rfl
      ·refine ww ?_
       cases h
       exact eM [] rfl
    ·rintro _ rfl
     clear ho
     refine ww ?_
     refine AE h (fun c11 h=>ww ?_) (fun c11 h=>?_)
     ·obtain⟨fh0o1,hfh0o1,rfl⟩:=Option.map_eq_some_iff.1 h
      have h:=hfh0o1.trans h0o1
      cases h
      exact eF []
     ·refine ww ?_
      exact eL' j [] ⟨(IntKind.i64.wrap (o1_0+1)),rfl,h⟩ (Nat.lt_succ_self _)
   ·refine ww ?_
    cases h
    exact eM [] ⟨_,rfl,rfl⟩
 rintro _ ⟨po1,rfl,rfl⟩
 clear ho
 dsimp only at h
 refine ww ?_
 obtain⟨o12,ho,h⟩:=bi h
 refine AB (fun s=>s=⟨[(2,oc (dB o12))],[]⟩) ?_ ?_
 ·have h:=ho
  clear ho
  refine ww ?_
  refine Af h (fun g13 h=>ww ?_) (fun g13 h=>ww ?_)
  ·cases h
   exact eM [] rfl
  cases h
  exact eM [] rfl
 rintro _ rfl
 clear ho
 refine ww ?_
 cases h
 exact eF []
def F197_l1(x0:(List ByteArray)):Nat→Int→Option ((Bool) ⊕ (Unit))
 |0,_=>none
 |k+1,o1_0=>(if o1_0<(x0.length:Int)then(rdI x0 ((IntKind.i64.wrap (o1_0-1)))).bind fun y3=>(rdI x0 o1_0).bind fun y4=>(if(nb (Op.bytesLess y3.toList y4.toList))=true then(some false).map Sum.inl else F197_l1 x0 k ((IntKind.i64.wrap (o1_0+1))))else some (Sum.inr (())))
def F197(x0:(List ByteArray)):Option (Bool):=((F197_l1 x0 1099511627776 1:Option ((Bool) ⊕ (Unit))).bind fun o1=>match o1 with|Sum.inl f=>some f|Sum.inr po1=>some true)
def a197:AFn:=⟨20,[(.tmp 2)],
 (.seq (.reg [Qf 2 false])
 (.seq (.seq (.reg [Qe 3 1])
 (.sem (.block 0 (.loop (.seq (.seq (.reg [Qa 4 3,
Qa 5 0,
Qh 6 5,
Qn 7 4 6])
 (.cond (.t 7)
 .skip
 (.exit 0)))
 (.seq (.block 1 (.seq (.regd [Qa 10 0,
Qa 11 3,
sd 12 (.bin .sub (.t 11) (kI 1)) [1],
sd 13 (.indexA 1 (.t 10) (.t 12)) [0,1,2],
sd 14 (.load none (.t 13)) [0,1,2,3],
Qa 15 0,
Qa 16 3,
sd 17 (.indexA 1 (.t 15) (.t 16)) [5,6],
sd 18 (.load none (.t 17)) [5,6,7],
sd 19 (.bin .geq (.t 14) (.t 18)) [0,1,2,3,4,5,6,7,8]])
 (.cond (.t 19)
 (.seq (.reg [Qf 2 false])
 .ret)
 .skip)))
 (.reg [Qa 8 3,
Qm 9 8 1,
Qa 3 9])))))))
 (.seq (.reg [Qf 2 true])
 .ret)))⟩
theorem F197_ok{x0 r}(h:F197 x0=some r):An Tryz.prog 197 [.c (dM (x0.map eS))] [] (AL [.c (dB r)]) []:=by
 rw[F197]at h
 refine zc a197 (by kernel_rfl) rfl (ww ?_)
 obtain⟨o1,ho,h⟩:=bi h
 refine AB (fun s=>∃po1,o1=Sum.inr po1∧s=⟨[],[]⟩) ?_ ?_
 ·have h0o1:=h
  have h:=ho
  clear ho
  refine ww ?_
  refine bL (fun j s=>∃(o1_0:Int),s=⟨[(0,oc (dM (x0.map eS))),(3,oc (dI o1_0))],[]⟩∧F197_l1 x0 j o1_0=some o1) 1099511627776 [] ⟨1,rfl,h⟩ ?_
  rintro j _ ⟨o1_0,rfl,h⟩
  cases j with
  |zero=>cases(show(none:Option _)=some _ from h)
  |succ j=>
   rw[F197_l1]at h
   refine ww ?_
   refine AH h (fun c2 h=>ww ?_) (fun c2 h=>?_)
   ·obtain⟨y3,hy3,h⟩:=bi h
    refine Az (enc:=eS) (xs:=x0) rfl rfl hy3 rfl (ww ?_)
    obtain⟨y4,hy4,h⟩:=bi h
    refine Az (enc:=eS) (xs:=x0) rfl rfl hy4 rfl (ww ?_)
    refine AE h (fun c5 h=>ww ?_) (fun c5 h=>?_)
    ·obtain⟨fh0o1,hfh0o1,rfl⟩:=Option.map_eq_some_iff.1 h
     have h:=hfh0o1.trans h0o1
     cases h
     exact eF []
    ·refine ww ?_
     exact eL' j [] ⟨(IntKind.i64.wrap (o1_0+1)),rfl,h⟩ (Nat.lt_succ_self _)
   ·refine ww ?_
    cases h
    exact eM [] ⟨_,rfl,rfl⟩
 rintro _ ⟨po1,rfl,rfl⟩
 clear ho
 dsimp only at h
 refine ww ?_
 cases h
 exact eF []
def F205_l1(x0:ByteArray):Nat→Int→Option ((Bool) ⊕ (Unit))
 |0,_=>none
 |k+1,o1_0=>(if o1_0<(x0.size:Int)then(((byI x0 o1_0).bind fun y4=>(if¬(y4=10)then(byI x0 o1_0).bind fun y6=>(if y6<32 then some true else(byI x0 o1_0).bind fun y8=>some (decide (126<y8)))else some false)).bind fun o3=>(if o3=true then(some false).map Sum.inl else F205_l1 x0 k ((IntKind.i64.wrap (o1_0+1)))))else some (Sum.inr (())))
def F205(x0:ByteArray):Option (Bool):=((F205_l1 x0 1099511627776 0:Option ((Bool) ⊕ (Unit))).bind fun o1=>match o1 with|Sum.inl f=>some f|Sum.inr po1=>some (decide ((x0.size:Int)≤200)))
def a205:AFn:=⟨29,[(.tmp 2)],
 (.seq (.reg [Qf 2 false])
 (.seq (.seq (.reg [Qa 4 0,
sq 5 (.slen (.t 4)),
Qe 6 0])
 (.sem (.block 0 (.loop (.seq (.reg [Qn 7 6 5])
 (.seq (.cond (.t 7)
 .skip
 (.exit 0))
 (.seq (.block 1 (.seq (.reg [Qa 8 6,
Qa 3 8])
 (.seq (.sem (.reg [Qa 9 0,
Qa 10 3,
sq 11 (.sidx (.t 9) (.t 10)),
sq 12 (.bin .neq (.t 11) (.k (.c (.d (.v (.int .u8 10)))))),
Qa 13 12,
Qv 14 13 true 0,
Qv 15 13 true 3,
zg 16 13 true (.sidx (.t 14) (.t 15)),
zg 17 13 true (.bin .lss (.t 16) (.k (.c (.d (.v (.int .u8 32)))))),
Qv 18 13 true 17,
Qv 19 18 false 0,
Qv 20 18 false 3,
zg 21 18 false (.sidx (.t 19) (.t 20)),
zg 22 18 false (.bin .gtr (.t 21) (.k (.c (.d (.v (.int .u8 126)))))),
zg 23 13 true (.pick (.t 18) (kB true) (.t 22)),
Qi 24 13 23]))
 (.cond (.t 24)
 (.seq (.reg [Qf 2 false])
 .ret)
 .skip))))
 (.reg [Qm 25 6 1,
Qa 6 25]))))))))
 (.seq (.reg [Qa 26 0,
sq 27 (.slen (.t 26)),
sq 28 (.bin .leq (.t 27) (kI 200)),
Qa 2 28])
 .ret)))⟩
theorem F205_ok{x0 r}(h:F205 x0=some r):An Tryz.prog 205 [.c (dS x0)] [] (AL [.c (dB r)]) []:=by
 rw[F205]at h
 refine zc a205 (by kernel_rfl) rfl (ww ?_)
 obtain⟨o1,ho,h⟩:=bi h
 refine AB (fun s=>∃po1,o1=Sum.inr po1∧s=⟨[(0,oc (dS x0))],[]⟩) ?_ ?_
 ·have h0o1:=h
  have h:=ho
  clear ho
  refine ww ?_
  refine bL (fun j s=>∃(o1_0:Int),s=⟨[(0,oc (dS x0)),(5,oc (dI ((x0.size:Int)))),(6,oc (dI o1_0))],[]⟩∧F205_l1 x0 j o1_0=some o1) 1099511627776 [] ⟨0,rfl,h⟩ ?_
  rintro j _ ⟨o1_0,rfl,h⟩
  cases j with
  |zero=>cases(show(none:Option _)=some _ from h)
  |succ j=>
   rw[F205_l1]at h
   refine ww ?_
   refine AH h (fun c2 h=>ww ?_) (fun c2 h=>?_)
   ·obtain⟨o3,ho,h⟩:=bi h
    refine AB (fun s=>s=⟨[(0,oc (dS x0)),(5,oc (dI ((x0.size:Int)))),(6,oc (dI o1_0)),(24,oc (dB o3))],[]⟩) ?_ ?_
    ·have h:=ho
     clear ho
     refine ww ?_
     obtain⟨y4,hy4,h⟩:=bi h
     refine Bx rfl rfl hy4 (ww ?_)
     refine Af h (fun g5 h=>ww ?_) (fun g5 h=>?_)
     ·obtain⟨y6,hy6,h⟩:=bi h
      refine Bx rfl rfl hy6 (ww ?_)
      refine Af h (fun g7 h=>ww ?_) (fun g7 h=>?_)
      ·cases h
       exact eM [] rfl
      ·refine ww ?_
       obtain⟨y8,hy8,h⟩:=bi h
       refine Bx rfl rfl hy8 (ww ?_)
       cases h
       exact eM [] rfl
     ·refine ww ?_
      cases h
      exact eM [] rfl
    ·rintro _ rfl
     clear ho
     refine ww ?_
     refine AE h (fun c9 h=>ww ?_) (fun c9 h=>?_)
     ·obtain⟨fh0o1,hfh0o1,rfl⟩:=Option.map_eq_some_iff.1 h
      have h:=hfh0o1.trans h0o1
      cases h
      exact eF []
     ·refine ww ?_
      exact eL' j [] ⟨(IntKind.i64.wrap (o1_0+1)),rfl,h⟩ (Nat.lt_succ_self _)
   ·refine ww ?_
    cases h
    exact eM [] ⟨_,rfl,rfl⟩
 rintro _ ⟨po1,rfl,rfl⟩
 clear ho
 dsimp only at h
 refine ww ?_
 cases h
 exact eF []
def F199_l1(x0:ByteArray):Nat→Int→Option ((Bool) ⊕ (Unit))
 |0,_=>none
 |k+1,o1_0=>(if o1_0<(x0.size:Int)then(byI x0 o1_0).bind fun y3=>(((if 97≤y3 then(if y3≤122 then some false else(if 65≤y3 then(if y3≤90 then some false else(if 48≤y3 then(if y3≤57 then some false else(if y3=45 then some false else(if y3=95 then some false else some (decide (¬(y3=47))))))else(if y3=45 then some false else(if y3=95 then some false else some (decide (¬(y3=47)))))))else(if 48≤y3 then(if y3≤57 then some false else(if y3=45 then some false else(if y3=95 then some false else some (decide (¬(y3=47))))))else(if y3=45 then some false else(if y3=95 then some false else some (decide (¬(y3=47))))))))else(if 65≤y3 then(if y3≤90 then some false else(if 48≤y3 then(if y3≤57 then some false else(if y3=45 then some false else(if y3=95 then some false else some (decide (¬(y3=47))))))else(if y3=45 then some false else(if y3=95 then some false else some (decide (¬(y3=47)))))))else(if 48≤y3 then(if y3≤57 then some false else(if y3=45 then some false else(if y3=95 then some false else some (decide (¬(y3=47))))))else(if y3=45 then some false else(if y3=95 then some false else some (decide (¬(y3=47))))))))).bind fun o4=>(if o4=true then(some false).map Sum.inl else F199_l1 x0 k ((IntKind.i64.wrap (o1_0+1)))))else some (Sum.inr (())))
def F199(x0:ByteArray):Option (Bool):=((F199_l1 x0 1099511627776 0:Option ((Bool) ⊕ (Unit))).bind fun o1=>match o1 with|Sum.inl f=>some f|Sum.inr po1=>(((if 1≤(x0.size:Int)then some (decide ((x0.size:Int)≤40))else some false)).bind fun o36=>some o36))
def a199:AFn:=⟨57,[(.tmp 2)],
 (.seq (.reg [Qf 2 false])
 (.seq (.seq (.reg [Qa 5 0,
sq 6 (.slen (.t 5)),
Qe 7 0])
 (.sem (.block 0 (.loop (.seq (.reg [Qn 8 7 6])
 (.seq (.cond (.t 8)
 .skip
 (.exit 0))
 (.seq (.block 1 (.seq (.reg [Qa 9 7,
Qa 3 9])
 (.seq (.reg [Qa 10 0,
Qa 11 3,
sq 12 (.sidx (.t 10) (.t 11)),
Qa 4 12])
 (.seq (.sem (.reg [Qa 13 4,
sq 14 (.bin .geq (.t 13) (.k (.c (.d (.v (.int .u8 97)))))),
Qa 15 14,
Qv 16 15 true 4,
zg 17 15 true (.bin .leq (.t 16) (.k (.c (.d (.v (.int .u8 122)))))),
Qi 18 15 17,
Qa 19 18,
Qv 20 19 false 4,
zg 21 19 false (.bin .geq (.t 20) (.k (.c (.d (.v (.int .u8 65)))))),
Qv 22 19 false 21,
Qv 23 22 true 4,
zg 24 22 true (.bin .leq (.t 23) (.k (.c (.d (.v (.int .u8 90)))))),
zg 25 19 false (.pick (.t 22) (.t 24) (kB false)),
Qj 26 19 25,
Qa 27 26,
Qv 28 27 false 4,
zg 29 27 false (.bin .geq (.t 28) (.k (.c (.d (.v (.int .u8 48)))))),
Qv 30 27 false 29,
Qv 31 30 true 4,
zg 32 30 true (.bin .leq (.t 31) (.k (.c (.d (.v (.int .u8 57)))))),
zg 33 27 false (.pick (.t 30) (.t 32) (kB false)),
Qj 34 27 33,
Qa 35 34,
Qv 36 35 false 4,
zg 37 35 false (.bin .eql (.t 36) (.k (.c (.d (.v (.int .u8 45)))))),
Qj 38 35 37,
Qa 39 38,
Qv 40 39 false 4,
zg 41 39 false (.bin .eql (.t 40) (.k (.c (.d (.v (.int .u8 95)))))),
Qj 42 39 41,
Qa 43 42,
Qv 44 43 false 4,
zg 45 43 false (.bin .eql (.t 44) (.k (.c (.d (.v (.int .u8 47)))))),
Qj 46 43 45,
Qq 47 46]))
 (.cond (.t 47)
 (.seq (.reg [Qf 2 false])
 .ret)
 .skip)))))
 (.reg [Qm 48 7 1,
Qa 7 48]))))))))
 (.seq (.sem (.reg [Qa 49 0,
sq 50 (.slen (.t 49)),
sq 51 (.bin .geq (.t 50) (kI 1)),
Qa 52 51,
Qv 53 52 true 0,
zg 54 52 true (.slen (.t 53)),
zg 55 52 true (.bin .leq (.t 54) (kI 40)),
Qi 56 52 55,
Qa 2 56]))
 .ret)))⟩
theorem F199_ok{x0 r}(h:F199 x0=some r):An Tryz.prog 199 [.c (dS x0)] [] (AL [.c (dB r)]) []:=by
 rw[F199]at h
 refine zc a199 (by kernel_rfl) rfl (ww ?_)
 obtain⟨o1,ho,h⟩:=bi h
 refine AB (fun s=>∃po1,o1=Sum.inr po1∧s=⟨[(0,oc (dS x0))],[]⟩) ?_ ?_
 ·have h0o1:=h
  have h:=ho
  clear ho
  refine ww ?_
  refine bL (fun j s=>∃(o1_0:Int),s=⟨[(0,oc (dS x0)),(6,oc (dI ((x0.size:Int)))),(7,oc (dI o1_0))],[]⟩∧F199_l1 x0 j o1_0=some o1) 1099511627776 [] ⟨0,rfl,h⟩ ?_
  rintro j _ ⟨o1_0,rfl,h⟩
  cases j with
  |zero=>cases(show(none:Option _)=some _ from h)
  |succ j=>
   rw[F199_l1]at h
   refine ww ?_
   refine AH h (fun c2 h=>ww ?_) (fun c2 h=>?_)
   ·obtain⟨y3,hy3,h⟩:=bi h
    refine Bx rfl rfl hy3 (ww ?_)
    obtain⟨o4,ho,h⟩:=bi h
    refine AB (fun s=>s=⟨[(0,oc (dS x0)),(6,oc (dI ((x0.size:Int)))),(7,oc (dI o1_0)),(47,oc (dB o4))],[]⟩) ?_ ?_
    ·have h:=ho
     clear ho
     refine ww ?_
     refine Af h (fun g5 h=>ww ?_) (fun g5 h=>?_)
     ·refine Af h (fun g6 h=>ww ?_) (fun g6 h=>?_)
      ·cases h
       exact eM [] rfl
      ·refine ww ?_
       refine Af h (fun g7 h=>ww ?_) (fun g7 h=>?_)
       ·refine Af h (fun g8 h=>ww ?_) (fun g8 h=>?_)
        ·cases h
         exact eM [] rfl
        ·refine ww ?_
         refine Af h (fun g9 h=>ww ?_) (fun g9 h=>?_)
         ·refine Af h (fun g10 h=>ww ?_) (fun g10 h=>?_)
          ·cases h
           exact eM [] rfl
          ·refine ww ?_
           refine Af h (fun g11 h=>ww ?_) (fun g11 h=>?_)
           ·cases h
            exact eM [] rfl
           ·refine ww ?_
            refine Af h (fun g12 h=>ww ?_) (fun g12 h=>?_)
            ·cases h
             exact eM [] rfl
            ·refine ww ?_
             cases h
             exact eM [] rfl
         ·refine ww ?_
          refine Af h (fun g13 h=>ww ?_) (fun g13 h=>?_)
          ·cases h
           exact eM [] rfl
          ·refine ww ?_
           refine Af h (fun g14 h=>ww ?_) (fun g14 h=>?_)
           ·cases h
            exact eM [] rfl
           ·refine ww ?_
            cases h
            exact eM [] rfl
       ·refine ww ?_
        refine Af h (fun g15 h=>ww ?_) (fun g15 h=>?_)
        ·refine Af h (fun g16 h=>ww ?_) (fun g16 h=>?_)
         ·cases h
          exact eM [] rfl
         ·refine ww ?_
          refine Af h (fun g17 h=>ww ?_) (fun g17 h=>?_)
          ·cases h
           exact eM [] rfl
          ·refine ww ?_
           refine Af h (fun g18 h=>ww ?_) (fun g18 h=>?_)
           ·cases h
            exact eM [] rfl
           ·refine ww ?_
            cases h
            exact eM [] rfl
        ·refine ww ?_
         refine Af h (fun g19 h=>ww ?_) (fun g19 h=>?_)
         ·cases h
          exact eM [] rfl
         ·refine ww ?_
          refine Af h (fun g20 h=>ww ?_) (fun g20 h=>?_)
          ·cases h
           exact eM [] rfl
          ·refine ww ?_
           cases h
           exact eM [] rfl
     ·refine ww ?_
      refine Af h (fun g21 h=>ww ?_) (fun g21 h=>?_)
      ·refine Af h (fun g22 h=>ww ?_) (fun g22 h=>?_)
       ·cases h
        exact eM [] rfl
       ·refine ww ?_
        refine Af h (fun g23 h=>ww ?_) (fun g23 h=>?_)
        ·refine Af h (fun g24 h=>ww ?_) (fun g24 h=>?_)
         ·cases h
          exact eM [] rfl
         ·refine ww ?_
          refine Af h (fun g25 h=>ww ?_) (fun g25 h=>?_)
          ·cases h
           exact eM [] rfl
          ·refine ww ?_
           refine Af h (fun g26 h=>ww ?_) (fun g26 h=>?_)
           ·cases h
            exact eM [] rfl
           ·refine ww ?_
            cases h
            exact eM [] rfl
        ·refine ww ?_
         refine Af h (fun g27 h=>ww ?_) (fun g27 h=>?_)
         ·cases h
          exact eM [] rfl
         ·refine ww ?_
          refine Af h (fun g28 h=>ww ?_) (fun g28 h=>?_)
          ·cases h
           exact eM [] rfl
          ·refine ww ?_
           cases h
           exact eM [] rfl
      ·refine ww ?_
       refine Af h (fun g29 h=>ww ?_) (fun g29 h=>?_)
       ·refine Af h (fun g30 h=>ww ?_) (fun g30 h=>?_)
        ·cases h
         exact eM [] rfl
        ·refine ww ?_
         refine Af h (fun g31 h=>ww ?_) (fun g31 h=>?_)
         ·cases h
          exact eM [] rfl
         ·refine ww ?_
          refine Af h (fun g32 h=>ww ?_) (fun g32 h=>?_)
          ·cases h
           exact eM [] rfl
          ·refine ww ?_
           cases h
           exact eM [] rfl
       ·refine ww ?_
        refine Af h (fun g33 h=>ww ?_) (fun g33 h=>?_)
        ·cases h
         exact eM [] rfl
        ·refine ww ?_
         refine Af h (fun g34 h=>ww ?_) (fun g34 h=>?_)
         ·cases h
          exact eM [] rfl
         ·refine ww ?_
          cases h
          exact eM [] rfl
    ·rintro _ rfl
     clear ho
     refine ww ?_
     refine AE h (fun c35 h=>ww ?_) (fun c35 h=>?_)
     ·obtain⟨fh0o1,hfh0o1,rfl⟩:=Option.map_eq_some_iff.1 h
      have h:=hfh0o1.trans h0o1
      cases h
      exact eF []
     ·refine ww ?_
      exact eL' j [] ⟨(IntKind.i64.wrap (o1_0+1)),rfl,h⟩ (Nat.lt_succ_self _)
   ·refine ww ?_
    cases h
    exact eM [] ⟨_,rfl,rfl⟩
 rintro _ ⟨po1,rfl,rfl⟩
 clear ho
 dsimp only at h
 refine ww ?_
 obtain⟨o36,ho,h⟩:=bi h
 refine AB (fun s=>s=⟨[(2,oc (dB o36))],[]⟩) ?_ ?_
 ·have h:=ho
  clear ho
  refine ww ?_
  refine Af h (fun g37 h=>ww ?_) (fun g37 h=>ww ?_)
  ·cases h
   exact eM [] rfl
  cases h
  exact eM [] rfl
 rintro _ rfl
 clear ho
 refine ww ?_
 cases h
 exact eF []
def F182_l1(rc104:Ab→Option (Int)):List Ab→Nat→Int→Option (Int)
 |[],o1_1,o1_0=>some o1_0
 |xo1::xs,o1_1,o1_0=>(rc104 xo1).bind fun t3=>F182_l1 rc104 xs (o1_1+1) ((IntKind.i64.wrap (o1_0+t3)))
def F182_l5(rc104:Ab→Option (Int)):List Ay→Nat→Int→Option (Int)
 |[],o5_1,o5_0=>some o5_0
 |xo5::xs,o5_1,o5_0=>(rc104 xo5.V).bind fun t7=>F182_l5 rc104 xs (o5_1+1) ((IntKind.i64.wrap (o5_0+t7)))
def F182(rc104:Ab→Option (Int))(x0:Ab):Option (Int):=(((ck (0≤x0.At.length∧x0.At.length≤4294967290)).bind fun u4=>F182_l1 rc104 x0.At 0 1).bind fun o1=>(((ck (0≤x0.Ae.length∧x0.Ae.length≤4294967290)).bind fun u8=>F182_l5 rc104 x0.Ae 0 o1).bind fun o5=>some o5))
def a182:AFn:=⟨34,[(.tmp 2)],
 (.seq (.reg [Qg 1 0,
Qe 2 0])
 (.seq (.reg [Qe 3 1])
 (.seq (.seq (.reg [Qb 8 3 1,
Qd 9 8,
Qh 10 9,
Qe 11 0])
 (.sem (.block 0 (.loop (.seq (.reg [Qn 12 11 10])
 (.seq (.cond (.t 12)
 .skip
 (.exit 0))
 (.seq (.block 1 (.seq (.reg [Qp 13 5 9 11,
Qc 14 5 13,
sq 5 (.zbox [dI 0,dI 0,dS ⟨#[]⟩,dN,dN]),
su (.store 5 (.t 5) (.t 14))])
 (.reg [Qa 15 3,
Qc 16 5 5,
Qk 17 182 16,
sq 18 (.bin .add (.t 15) (.t 17)),
Qa 3 18])))
 (.reg [Qm 19 11 1,
Qa 11 19]))))))))
 (.seq (.seq (.reg [Qb 20 4 1,
Qd 21 20,
Qh 22 21,
Qe 23 0])
 (.sem (.block 2 (.loop (.seq (.reg [Qn 24 23 22])
 (.seq (.cond (.t 24)
 .skip
 (.exit 2))
 (.seq (.block 3 (.seq (.reg [Qp 25 6 21 23,
Qc 26 6 25,
sq 7 (.zbox [dS ⟨#[]⟩,dI 0,dI 0,dS ⟨#[]⟩,dN,dN]),
su (.store 6 (.t 7) (.t 26))])
 (.reg [Qa 27 3,
Qb 28 1 7,
Qc 29 5 28,
Qk 30 182 29,
sq 31 (.bin .add (.t 27) (.t 30)),
Qa 3 31])))
 (.reg [Qm 32 23 1,
Qa 23 32]))))))))
 (.seq (.reg [Qa 33 3,
Qa 2 33])
 .ret)))))⟩
theorem F182_ok{rc104:Ab→Option (Int)}(ih104:∀{x0:Ab} {r:Int} (h:rc104 x0=some r),An Tryz.prog 182 [.agg (AJ x0)] [] (AL [.c (dI r)]) []){x0:Ab}{r:Int}(h:F182 rc104 x0=some r):An Tryz.prog 182 [.agg (AJ x0)] [] (AL [.c (dI r)]) []:=by
 rw[F182]at h
 refine zc a182 (by kernel_rfl) rfl (ww ?_)
 obtain⟨o1,ho,h⟩:=bi h
 refine AB (fun s=>s=⟨[(1,Pz 0),(3,oc (dI o1))],[xb (AJ x0)]⟩) ?_ ?_
 ·have h:=ho
  clear ho
  obtain⟨_,hk,h⟩:=bi h
  have hk:=AS hk
  refine ww ?_
  refine bL (fun j s=>∃(o1_1:Nat) (o1_0:Int),(o1_1≤x0.At.length∧j=x0.At.length-o1_1)∧s=⟨[(1,Pz 0),(3,oc (dI o1_0)),(9,oc (dM (x0.At.map Ap))),(10,oc (dI ((x0.At.length:Int)))),(11,oc (dI ((o1_1:Int))))],[xb (AJ x0)]⟩∧F182_l1 rc104 (x0.At.drop o1_1) o1_1 o1_0=some o1) (x0.At.length-0) [some 0] ⟨0,1,⟨hk.1,rfl⟩,rfl,h⟩ ?_
  rintro _ _ ⟨o1_1,o1_0,⟨hi,rfl⟩,rfl,h⟩
  refine ww ?_
  refine Bg (fun c2=>?_) (fun c2=>?_)
  ·obtain⟨xo1,hxo1,hd⟩:=A5 (show(o1_1:Int)<(x0.At.length:Int)from c2)
   rw[hd,F182_l1]at h
   refine ww ?_
   refine Az (enc:=Ap) (xs:=x0.At) rfl rfl hxo1 (by rw[Cq];rfl) (ww ?_)
   obtain⟨t3,ht3,h⟩:=bi h
   refine cN [] (ih104 ht3) trivial (ww ?_)
   rw[AW (by omega)]
   exact eL' (x0.At.length-(o1_1+1)) [some 0] ⟨o1_1+1,(IntKind.i64.wrap (o1_0+t3)),⟨by omega,rfl⟩,rfl,h⟩ (by omega)
  rw[A6 (show¬((o1_1:Int)<(x0.At.length:Int))from c2),F182_l1]at h
  refine ww ?_
  cases h
  exact eM [some 0] rfl
 rintro _ rfl
 clear ho
 refine ww ?_
 obtain⟨o5,ho,h⟩:=bi h
 refine AB (fun s=>s=⟨[(3,oc (dI o5))],[]⟩) ?_ ?_
 ·have h:=ho
  clear ho
  obtain⟨_,hk,h⟩:=bi h
  have hk:=AS hk
  refine ww ?_
  refine bL (fun j s=>∃(o5_1:Nat) (o5_0:Int),(o5_1≤x0.Ae.length∧j=x0.Ae.length-o5_1)∧s=⟨[(3,oc (dI o5_0)),(21,oc (dM (x0.Ae.map Ao))),(22,oc (dI ((x0.Ae.length:Int)))),(23,oc (dI ((o5_1:Int))))],[]⟩∧F182_l5 rc104 (x0.Ae.drop o5_1) o5_1 o5_0=some o5) (x0.Ae.length-0) [] ⟨0,o1,⟨hk.1,rfl⟩,rfl,h⟩ ?_
  rintro _ _ ⟨o5_1,o5_0,⟨hi,rfl⟩,rfl,h⟩
  refine ww ?_
  refine Bg (fun c6=>?_) (fun c6=>?_)
  ·obtain⟨xo5,hxo5,hd⟩:=A5 (show(o5_1:Int)<(x0.Ae.length:Int)from c6)
   rw[hd,F182_l5]at h
   refine ww ?_
   refine Az (enc:=Ao) (xs:=x0.Ae) rfl rfl hxo5 (by rw[BA];rfl) (ww ?_)
   obtain⟨t7,ht7,h⟩:=bi h
   refine cN [] (ih104 ht7) trivial (ww ?_)
   rw[AW (by omega)]
   exact eL' (x0.Ae.length-(o5_1+1)) [] ⟨o5_1+1,(IntKind.i64.wrap (o5_0+t7)),⟨by omega,rfl⟩,rfl,h⟩ (by omega)
  rw[A6 (show¬((o5_1:Int)<(x0.Ae.length:Int))from c6),F182_l5]at h
  refine ww ?_
  cases h
  exact eM [] rfl
 rintro _ rfl
 clear ho
 refine ww ?_
 cases h
 exact eF []
def F182k:Nat→Ab→Option (Int)
 |0=>fun _=>none
 |k+1=>F182 (F182k k)
theorem F182k_ok(k:Nat){x0:Ab}{r:Int}(h:F182k k x0=some r):An Tryz.prog 182 [.agg (AJ x0)] [] (AL [.c (dI r)]) []:=by
 induction k generalizing x0 r with
 |zero=>cases(show(none:Option (Int))=some _ from h)
 |succ k ih=>exact F182_ok (fun h=>ih h) h
def F185_l1:List Int→Nat→Option ((Int) ⊕ (Unit))
 |[],o1_0=>some (Sum.inr (()))
 |xo1::xs,o1_0=>(if¬(xo1=0)then(some xo1).map Sum.inl else F185_l1 xs (o1_0+1))
def F185(x0:(List Int)):Option (Int):=(((ck (0≤x0.length∧x0.length≤4294967290)).bind fun u4=>F185_l1 x0 0:Option ((Int) ⊕ (Unit))).bind fun o1=>match o1 with|Sum.inl f=>some f|Sum.inr po1=>some 0)
def a185:AFn:=⟨18,[(.tmp 2)],
 (.seq (.reg [Qe 2 0])
 (.seq (.reg [Qe 3 0])
 (.seq (.seq (.reg [Qa 6 0,
Qh 7 6,
Qe 8 0])
 (.sem (.block 0 (.loop (.seq (.reg [Qn 9 8 7])
 (.seq (.cond (.t 9)
 .skip
 (.exit 0))
 (.seq (.block 1 (.seq (.reg [Qp 10 1 6 8,
Qd 11 10,
Qa 5 11])
 (.seq (.reg [Qa 12 5,
Qa 13 3,
sq 14 (.bin .neq (.t 12) (.t 13))])
 (.cond (.t 14)
 (.seq (.reg [Qa 15 5,
Qa 2 15])
 .ret)
 .skip))))
 (.reg [Qm 16 8 1,
Qa 8 16]))))))))
 (.seq (.reg [Qa 17 3,
Qa 2 17])
 .ret))))⟩
theorem F185_ok{x0 r}(h:F185 x0=some r):An Tryz.prog 185 [.c (dM (x0.map eI))] [] (AL [.c (dI r)]) []:=by
 rw[F185]at h
 refine zc a185 (by kernel_rfl) rfl (ww ?_)
 obtain⟨o1,ho,h⟩:=bi h
 refine AB (fun s=>∃po1,o1=Sum.inr po1∧s=⟨[(3,oc (dI 0))],[]⟩) ?_ ?_
 ·have h0o1:=h
  have h:=ho
  clear ho
  obtain⟨_,hk,h⟩:=bi h
  have hk:=AS hk
  refine ww ?_
  refine bL (fun j s=>∃(o1_0:Nat),(o1_0≤x0.length∧j=x0.length-o1_0)∧s=⟨[(3,oc (dI 0)),(6,oc (dM (x0.map eI))),(7,oc (dI ((x0.length:Int)))),(8,oc (dI ((o1_0:Int))))],[]⟩∧F185_l1 (x0.drop o1_0) o1_0=some o1) (x0.length-0) [] ⟨0,⟨hk.1,rfl⟩,rfl,h⟩ ?_
  rintro _ _ ⟨o1_0,⟨hi,rfl⟩,rfl,h⟩
  refine ww ?_
  refine Bg (fun c2=>?_) (fun c2=>?_)
  ·obtain⟨xo1,hxo1,hd⟩:=A5 (show(o1_0:Int)<(x0.length:Int)from c2)
   rw[hd,F185_l1]at h
   refine ww ?_
   refine Az (enc:=eI) (xs:=x0) rfl rfl hxo1 rfl (ww ?_)
   refine AH h (fun c3 h=>ww ?_) (fun c3 h=>ww ?_)
   ·obtain⟨fh0o1,hfh0o1,rfl⟩:=Option.map_eq_some_iff.1 h
    have h:=hfh0o1.trans h0o1
    cases h
    exact eF []
   rw[AW (by omega)]
   exact eL' (x0.length-(o1_0+1)) [] ⟨o1_0+1,⟨by omega,rfl⟩,rfl,h⟩ (by omega)
  rw[A6 (show¬((o1_0:Int)<(x0.length:Int))from c2),F185_l1]at h
  refine ww ?_
  cases h
  exact eM [] ⟨_,rfl,rfl⟩
 rintro _ ⟨po1,rfl,rfl⟩
 clear ho
 dsimp only at h
 refine ww ?_
 cases h
 exact eF []
def F150_l2(x1:(List Label)):List Label→Nat→Option ((Bool) ⊕ (Unit))
 |[],o2_0=>some (Sum.inr (()))
 |xo2::xs,o2_0=>(rdI x1 ((o2_0:Int))).bind fun y4=>(if¬(xo2.Key=y4.Key∧xo2.Value=y4.Value)then(some false).map Sum.inl else F150_l2 x1 xs (o2_0+1))
def F150(x0:(List Label))(x1:(List Label)):Option (Bool):=(if¬((x0.length:Int)=(x1.length:Int))then some false else(((ck (0≤x0.length∧x0.length≤4294967290)).bind fun u6=>F150_l2 x1 x0 0:Option ((Bool) ⊕ (Unit))).bind fun o2=>match o2 with|Sum.inl f=>some f|Sum.inr po2=>some true))
def a150:AFn:=⟨26,[(.tmp 4)],
 (.seq (.reg [Qf 4 false])
 (.seq (.seq (.reg [Qa 6 0,
Qh 7 6,
Qa 8 1,
Qh 9 8,
sq 10 (.bin .neq (.t 7) (.t 9))])
 (.cond (.t 10)
 (.seq (.reg [Qf 4 false])
 .ret)
 .skip))
 (.seq (.seq (.reg [Qa 11 0,
Qh 12 11,
Qe 13 0])
 (.sem (.block 0 (.loop (.seq (.reg [Qn 14 13 12])
 (.seq (.cond (.t 14)
 .skip
 (.exit 0))
 (.seq (.block 1 (.seq (.reg [Qa 15 13,
Qa 5 15])
 (.seq (.regd [Qa 16 0,
Qa 17 5,
sd 18 (.indexA 2 (.t 16) (.t 17)) [0,1],
sd 19 (.load (some 2) (.t 18)) [0,1,2],
Qa 20 1,
Qa 21 5,
sd 22 (.indexA 2 (.t 20) (.t 21)) [4,5],
sd 23 (.load (some 2) (.t 22)) [4,5,6],
zl 24 (.eqs true [(0,2),(1,2)] (.t 19) (.t 23)) [0,1,2,3,4,5,6,7] []])
 (.cond (.t 24)
 (.seq (.reg [Qf 4 false])
 .ret)
 .skip))))
 (.reg [Qm 25 13 1,
Qa 13 25]))))))))
 (.seq (.reg [Qf 4 true])
 .ret))))⟩
theorem F150_ok{x0 x1 r}(h:F150 x0 x1=some r):An Tryz.prog 150 [.c (dM (x0.map AY)),.c (dM (x1.map AY))] [] (AL [.c (dB r)]) []:=by
 rw[F150]at h
 refine zc a150 (by kernel_rfl) rfl (ww ?_)
 refine AH h (fun c1 h=>ww ?_) (fun c1 h=>ww ?_)
 ·cases h
  exact eF []
 obtain⟨o2,ho,h⟩:=bi h
 refine AB (fun s=>∃po2,o2=Sum.inr po2∧s=⟨[],[]⟩) ?_ ?_
 ·have h0o2:=h
  have h:=ho
  clear ho
  obtain⟨_,hk,h⟩:=bi h
  have hk:=AS hk
  refine ww ?_
  refine bL (fun j s=>∃(o2_0:Nat),(o2_0≤x0.length∧j=x0.length-o2_0)∧s=⟨[(0,oc (dM (x0.map AY))),(1,oc (dM (x1.map AY))),(12,oc (dI ((x0.length:Int)))),(13,oc (dI ((o2_0:Int))))],[]⟩∧F150_l2 x1 (x0.drop o2_0) o2_0=some o2) (x0.length-0) [] ⟨0,⟨hk.1,rfl⟩,rfl,h⟩ ?_
  rintro _ _ ⟨o2_0,⟨hi,rfl⟩,rfl,h⟩
  refine ww ?_
  refine Bg (fun c3=>?_) (fun c3=>?_)
  ·obtain⟨xo2,hxo2,hd⟩:=A5 (show(o2_0:Int)<(x0.length:Int)from c3)
   rw[hd,F150_l2]at h
   refine ww ?_
   refine Az (enc:=AY) (xs:=x0) rfl rfl hxo2 rfl (ww ?_)
   obtain⟨y4,hy4,h⟩:=bi h
   refine Az (enc:=AY) (xs:=x1) rfl rfl hy4 rfl (ww ?_)
   refine AH h (fun c5 h=>ww ?_) (fun c5 h=>ww ?_)
   ·obtain⟨fh0o2,hfh0o2,rfl⟩:=Option.map_eq_some_iff.1 h
    have h:=hfh0o2.trans h0o2
    cases h
    exact eF []
   rw[AW (by omega)]
   exact eL' (x0.length-(o2_0+1)) [] ⟨o2_0+1,⟨by omega,rfl⟩,rfl,h⟩ (by omega)
  rw[A6 (show¬((o2_0:Int)<(x0.length:Int))from c3),F150_l2]at h
  refine ww ?_
  cases h
  exact eM [] ⟨_,rfl,rfl⟩
 rintro _ ⟨po2,rfl,rfl⟩
 clear ho
 dsimp only at h
 refine ww ?_
 cases h
 exact eF []
def F152_l2(x1:(List ByteArray)):List ByteArray→Nat→Option ((Bool) ⊕ (Unit))
 |[],o2_0=>some (Sum.inr (()))
 |xo2::xs,o2_0=>(rdI x1 ((o2_0:Int))).bind fun y4=>(if¬(xo2=y4)then(some false).map Sum.inl else F152_l2 x1 xs (o2_0+1))
def F152(x0:(List ByteArray))(x1:(List ByteArray)):Option (Bool):=(if¬((x0.length:Int)=(x1.length:Int))then some false else(((ck (0≤x0.length∧x0.length≤4294967290)).bind fun u6=>F152_l2 x1 x0 0:Option ((Bool) ⊕ (Unit))).bind fun o2=>match o2 with|Sum.inl f=>some f|Sum.inr po2=>some true))
def a152:AFn:=⟨26,[(.tmp 4)],
 (.seq (.reg [Qf 4 false])
 (.seq (.seq (.reg [Qa 6 0,
Qh 7 6,
Qa 8 1,
Qh 9 8,
sq 10 (.bin .neq (.t 7) (.t 9))])
 (.cond (.t 10)
 (.seq (.reg [Qf 4 false])
 .ret)
 .skip))
 (.seq (.seq (.reg [Qa 11 0,
Qh 12 11,
Qe 13 0])
 (.sem (.block 0 (.loop (.seq (.reg [Qn 14 13 12])
 (.seq (.cond (.t 14)
 .skip
 (.exit 0))
 (.seq (.block 1 (.seq (.reg [Qa 15 13,
Qa 5 15])
 (.seq (.regd [Qa 16 0,
Qa 17 5,
sd 18 (.indexA 1 (.t 16) (.t 17)) [0,1],
sd 19 (.load none (.t 18)) [0,1,2],
Qa 20 1,
Qa 21 5,
sd 22 (.indexA 1 (.t 20) (.t 21)) [4,5],
sd 23 (.load none (.t 22)) [4,5,6],
sd 24 (.bin .neq (.t 19) (.t 23)) [0,1,2,3,4,5,6,7]])
 (.cond (.t 24)
 (.seq (.reg [Qf 4 false])
 .ret)
 .skip))))
 (.reg [Qm 25 13 1,
Qa 13 25]))))))))
 (.seq (.reg [Qf 4 true])
 .ret))))⟩
theorem F152_ok{x0 x1 r}(h:F152 x0 x1=some r):An Tryz.prog 152 [.c (dM (x0.map eS)),.c (dM (x1.map eS))] [] (AL [.c (dB r)]) []:=by
 rw[F152]at h
 refine zc a152 (by kernel_rfl) rfl (ww ?_)
 refine AH h (fun c1 h=>ww ?_) (fun c1 h=>ww ?_)
 ·cases h
  exact eF []
 obtain⟨o2,ho,h⟩:=bi h
 refine AB (fun s=>∃po2,o2=Sum.inr po2∧s=⟨[],[]⟩) ?_ ?_
 ·have h0o2:=h
  have h:=ho
  clear ho
  obtain⟨_,hk,h⟩:=bi h
  have hk:=AS hk
  refine ww ?_
  refine bL (fun j s=>∃(o2_0:Nat),(o2_0≤x0.length∧j=x0.length-o2_0)∧s=⟨[(0,oc (dM (x0.map eS))),(1,oc (dM (x1.map eS))),(12,oc (dI ((x0.length:Int)))),(13,oc (dI ((o2_0:Int))))],[]⟩∧F152_l2 x1 (x0.drop o2_0) o2_0=some o2) (x0.length-0) [] ⟨0,⟨hk.1,rfl⟩,rfl,h⟩ ?_
  rintro _ _ ⟨o2_0,⟨hi,rfl⟩,rfl,h⟩
  refine ww ?_
  refine Bg (fun c3=>?_) (fun c3=>?_)
  ·obtain⟨xo2,hxo2,hd⟩:=A5 (show(o2_0:Int)<(x0.length:Int)from c3)
   rw[hd,F152_l2]at h
   refine ww ?_
   refine Az (enc:=eS) (xs:=x0) rfl rfl hxo2 rfl (ww ?_)
   obtain⟨y4,hy4,h⟩:=bi h
   refine Az (enc:=eS) (xs:=x1) rfl rfl hy4 rfl (ww ?_)
   refine AH h (fun c5 h=>ww ?_) (fun c5 h=>ww ?_)
   ·obtain⟨fh0o2,hfh0o2,rfl⟩:=Option.map_eq_some_iff.1 h
    have h:=hfh0o2.trans h0o2
    cases h
    exact eF []
   rw[AW (by omega)]
   exact eL' (x0.length-(o2_0+1)) [] ⟨o2_0+1,⟨by omega,rfl⟩,rfl,h⟩ (by omega)
  rw[A6 (show¬((o2_0:Int)<(x0.length:Int))from c3),F152_l2]at h
  refine ww ?_
  cases h
  exact eM [] ⟨_,rfl,rfl⟩
 rintro _ ⟨po2,rfl,rfl⟩
 clear ho
 dsimp only at h
 refine ww ?_
 cases h
 exact eF []
def F125_l1(x1:ByteArray):List Label→Nat→Option ((ByteArray×Bool) ⊕ (Unit))
 |[],o1_0=>some (Sum.inr (()))
 |xo1::xs,o1_0=>(if xo1.Key=x1 then(some ((xo1.Value,true))).map Sum.inl else F125_l1 x1 xs (o1_0+1))
def F125(x0:(List Label))(x1:ByteArray):Option (ByteArray×Bool):=(((ck (0≤x0.length∧x0.length≤4294967290)).bind fun u4=>F125_l1 x1 x0 0:Option ((ByteArray×Bool) ⊕ (Unit))).bind fun o1=>match o1 with|Sum.inl f=>some f|Sum.inr po1=>some (((⟨#[]⟩:ByteArray),false)))
def a125:AFn:=⟨25,[(.tmp 4),(.tmp 5)],
 (.seq (.reg [sq 4 (.mv (kS ⟨#[]⟩)),
Qf 5 false])
 (.seq (.seq (.reg [Qe 6 0])
 (.sem (.block 0 (.loop (.seq (.seq (.reg [Qa 7 6,
Qa 8 0,
Qh 9 8,
Qn 10 7 9])
 (.cond (.t 10)
 .skip
 (.exit 0)))
 (.seq (.block 1 (.seq (.reg [Qa 13 0,
Qa 14 6,
Qp 15 2 13 14,
Qb 16 0 15,
Qd 17 16,
Qa 18 1,
sq 19 (.bin .eql (.t 17) (.t 18))])
 (.cond (.t 19)
 (.seq (.reg [Qa 20 0,
Qa 21 6,
Qp 22 2 20 21,
Qb 23 1 22,
Qd 24 23,
Qa 4 24,
Qf 5 true])
 .ret)
 .skip)))
 (.reg [Qa 11 6,
Qm 12 11 1,
Qa 6 12])))))))
 (.seq (.reg [sq 4 (.mv (kS ⟨#[]⟩)),
Qf 5 false])
 .ret)))⟩
theorem F125_ok{x0 x1 r}(h:F125 x0 x1=some r):An Tryz.prog 125 [.c (dM (x0.map AY)),.c (dS x1)] [] (AL [.c (dS r.1),.c (dB r.2)]) []:=by
 rw[F125]at h
 refine zc a125 (by kernel_rfl) rfl (ww ?_)
 obtain⟨o1,ho,h⟩:=bi h
 refine AB (fun s=>∃po1,o1=Sum.inr po1∧s=⟨[],[]⟩) ?_ ?_
 ·have h0o1:=h
  have h:=ho
  clear ho
  obtain⟨_,hk,h⟩:=bi h
  have hk:=AS hk
  refine ww ?_
  refine bL (fun j s=>∃(o1_0:Nat),(o1_0≤x0.length∧j=x0.length-o1_0)∧s=⟨[(0,oc (dM (x0.map AY))),(1,oc (dS x1)),(6,oc (dI ((o1_0:Int))))],[]⟩∧F125_l1 x1 (x0.drop o1_0) o1_0=some o1) (x0.length-0) [] ⟨0,⟨hk.1,rfl⟩,rfl,h⟩ ?_
  rintro _ _ ⟨o1_0,⟨hi,rfl⟩,rfl,h⟩
  refine ww ?_
  refine Bg (fun c2=>?_) (fun c2=>?_)
  ·obtain⟨xo1,hxo1,hd⟩:=A5 (show(o1_0:Int)<(x0.length:Int)from c2)
   rw[hd,F125_l1]at h
   refine ww ?_
   refine Az (enc:=AY) (xs:=x0) rfl rfl hxo1 rfl (ww ?_)
   refine AH h (fun c3 h=>ww ?_) (fun c3 h=>ww ?_)
   ·refine Az (enc:=AY) (xs:=x0) rfl rfl hxo1 rfl (ww ?_)
    obtain⟨fh0o1,hfh0o1,rfl⟩:=Option.map_eq_some_iff.1 h
    have h:=hfh0o1.trans h0o1
    cases h
    exact eF []
   rw[AW (by omega)]
   exact eL' (x0.length-(o1_0+1)) [] ⟨o1_0+1,⟨by omega,rfl⟩,rfl,h⟩ (by omega)
  rw[A6 (show¬((o1_0:Int)<(x0.length:Int))from c2),F125_l1]at h
  refine ww ?_
  cases h
  exact eM [] ⟨_,rfl,rfl⟩
 rintro _ ⟨po1,rfl,rfl⟩
 clear ho
 dsimp only at h
 refine ww ?_
 cases h
 exact eF []
def F71_l2(x1:(List ByteArray)):List ByteArray→Nat→Option ((Bool) ⊕ (Unit))
 |[],o2_0=>some (Sum.inr (()))
 |xo2::xs,o2_0=>(rdI x1 ((o2_0:Int))).bind fun y4=>(if¬(xo2=y4)then(some false).map Sum.inl else F71_l2 x1 xs (o2_0+1))
def F71(x0:(List ByteArray))(x1:(List ByteArray)):Option (Bool):=(if¬((x0.length:Int)=(x1.length:Int))then some false else(((ck (0≤x0.length∧x0.length≤4294967290)).bind fun u6=>F71_l2 x1 x0 0:Option ((Bool) ⊕ (Unit))).bind fun o2=>match o2 with|Sum.inl f=>some f|Sum.inr po2=>some true))
def a71:AFn:=⟨26,[(.tmp 4)],
 (.seq (.reg [Qf 4 false])
 (.seq (.seq (.reg [Qa 6 0,
Qh 7 6,
Qa 8 1,
Qh 9 8,
sq 10 (.bin .neq (.t 7) (.t 9))])
 (.cond (.t 10)
 (.seq (.reg [Qf 4 false])
 .ret)
 .skip))
 (.seq (.seq (.reg [Qe 5 0])
 (.sem (.block 0 (.loop (.seq (.seq (.reg [Qa 11 5,
Qa 12 0,
Qh 13 12,
Qn 14 11 13])
 (.cond (.t 14)
 .skip
 (.exit 0)))
 (.seq (.block 1 (.seq (.regd [Qa 17 0,
Qa 18 5,
sd 19 (.indexA 1 (.t 17) (.t 18)) [0,1],
sd 20 (.load none (.t 19)) [0,1,2],
Qa 21 1,
Qa 22 5,
sd 23 (.indexA 1 (.t 21) (.t 22)) [4,5],
sd 24 (.load none (.t 23)) [4,5,6],
sd 25 (.bin .neq (.t 20) (.t 24)) [0,1,2,3,4,5,6,7]])
 (.cond (.t 25)
 (.seq (.reg [Qf 4 false])
 .ret)
 .skip)))
 (.reg [Qa 15 5,
Qm 16 15 1,
Qa 5 16])))))))
 (.seq (.reg [Qf 4 true])
 .ret))))⟩
theorem F71_ok{x0 x1 r}(h:F71 x0 x1=some r):An Tryz.prog 71 [.c (dM (x0.map eS)),.c (dM (x1.map eS))] [] (AL [.c (dB r)]) []:=by
 rw[F71]at h
 refine zc a71 (by kernel_rfl) rfl (ww ?_)
 refine AH h (fun c1 h=>ww ?_) (fun c1 h=>ww ?_)
 ·cases h
  exact eF []
 obtain⟨o2,ho,h⟩:=bi h
 refine AB (fun s=>∃po2,o2=Sum.inr po2∧s=⟨[],[]⟩) ?_ ?_
 ·have h0o2:=h
  have h:=ho
  clear ho
  obtain⟨_,hk,h⟩:=bi h
  have hk:=AS hk
  refine ww ?_
  refine bL (fun j s=>∃(o2_0:Nat),(o2_0≤x0.length∧j=x0.length-o2_0)∧s=⟨[(0,oc (dM (x0.map eS))),(1,oc (dM (x1.map eS))),(5,oc (dI ((o2_0:Int))))],[]⟩∧F71_l2 x1 (x0.drop o2_0) o2_0=some o2) (x0.length-0) [] ⟨0,⟨hk.1,rfl⟩,rfl,h⟩ ?_
  rintro _ _ ⟨o2_0,⟨hi,rfl⟩,rfl,h⟩
  refine ww ?_
  refine Bg (fun c3=>?_) (fun c3=>?_)
  ·obtain⟨xo2,hxo2,hd⟩:=A5 (show(o2_0:Int)<(x0.length:Int)from c3)
   rw[hd,F71_l2]at h
   refine ww ?_
   refine Az (enc:=eS) (xs:=x0) rfl rfl hxo2 rfl (ww ?_)
   obtain⟨y4,hy4,h⟩:=bi h
   refine Az (enc:=eS) (xs:=x1) rfl rfl hy4 rfl (ww ?_)
   refine AH h (fun c5 h=>ww ?_) (fun c5 h=>ww ?_)
   ·obtain⟨fh0o2,hfh0o2,rfl⟩:=Option.map_eq_some_iff.1 h
    have h:=hfh0o2.trans h0o2
    cases h
    exact eF []
   rw[AW (by omega)]
   exact eL' (x0.length-(o2_0+1)) [] ⟨o2_0+1,⟨by omega,rfl⟩,rfl,h⟩ (by omega)
  rw[A6 (show¬((o2_0:Int)<(x0.length:Int))from c3),F71_l2]at h
  refine ww ?_
  cases h
  exact eM [] ⟨_,rfl,rfl⟩
 rintro _ ⟨po2,rfl,rfl⟩
 clear ho
 dsimp only at h
 refine ww ?_
 cases h
 exact eF []
def F101(x0:Bool)(x1:Bool):Option (Int):=(if x0=true then some ((-1))else(if x1=true then some 1 else some 0))
def a101:AFn:=⟨7,[(.tmp 4)],
 (.seq (.reg [Qe 4 0])
 (.seq (.seq (.reg [Qa 5 0])
 (.cond (.t 5)
 (.seq (.reg [sq 4 (.mv (kI (-1)))])
 .ret)
 .skip))
 (.seq (.seq (.reg [Qa 6 1])
 (.cond (.t 6)
 (.seq (.reg [Qe 4 1])
 .ret)
 .skip))
 (.seq (.reg [Qe 4 0])
 .ret))))⟩
theorem F101_ok{x0 x1 r}(h:F101 x0 x1=some r):An Tryz.prog 101 [.c (dB x0),.c (dB x1)] [] (AL [.c (dI r)]) []:=by
 rw[F101]at h
 refine zc a101 (by kernel_rfl) rfl (ww ?_)
 refine AE h (fun c1 h=>ww ?_) (fun c1 h=>ww ?_)
 ·cases h
  exact eF []
 refine AE h (fun c2 h=>ww ?_) (fun c2 h=>ww ?_)
 ·cases h
  exact eF []
 cases h
 exact eF []
end Go.Proofs.YtdkmamiedcanfaaGreat
