/- Each Go function as a function over typed data, and its walk. -/
import Derived.Test.YtfkkccgopmcnaaaFE
import Derived.Ground.NamesProg
import Derived.Shelf.Lay
import Derived.KernelRfl
import Derived.Test.YtfkkccgopmcnaaaProg
namespace Go.Proofs.Ytfkkccgopmcnaaa
open Go Go.Fw Go.Shelf
set_option maxRecDepth 100000
set_option maxHeartbeats 4000000
set_option linter.unusedSimpArgs false
set_option linter.unusedVariables false
structure Requirement where
 Key:ByteArray
 Op:Int
 Values:(List ByteArray)
 deriving DecidableEq
def okRequirement(x:Requirement):Prop:=okT x.Key∧okN x.Op∧(okL okT) x.Values∧True
def wRequirement(x:Requirement):Nat:=wS x.Key+(wN x.Op+((wL wS) x.Values+0))+1
def eRequirement(x:Requirement):List D:=[.v (.string x.Key),.v (.int .i64 x.Op),.sl (x.Values.map eS)]
structure Label where
 Key:ByteArray
 Value:ByteArray
 deriving DecidableEq
def okLabel(x:Label):Prop:=okT x.Key∧okT x.Value∧True
def wLabel(x:Label):Nat:=wS x.Key+(wS x.Value+0)+1
def eLabel(x:Label):List D:=[.v (.string x.Key),.v (.string x.Value)]
structure Owner where
 Kind:ByteArray
 Name:ByteArray
 Uid:Int
 Controller:Bool
 Block:Bool
 deriving DecidableEq
def okOwner(x:Owner):Prop:=okT x.Kind∧okT x.Name∧okN x.Uid∧okT x.Controller∧okT x.Block∧True
def wOwner(x:Owner):Nat:=wS x.Kind+(wS x.Name+(wN x.Uid+(wN x.Controller+(wN x.Block+0))))+1
def eOwner(x:Owner):List D:=[.v (.string x.Kind),.v (.string x.Name),.v (.int .i64 x.Uid),.v (.bool x.Controller),.v (.bool x.Block)]
structure Manager where
 Name:ByteArray
 Fields:(List ByteArray)
 deriving DecidableEq
def okManager(x:Manager):Prop:=okT x.Name∧(okL okT) x.Fields∧True
def wManager(x:Manager):Nat:=wS x.Name+((wL wS) x.Fields+0)+1
def eManager(x:Manager):List D:=[.v (.string x.Name),.sl (x.Fields.map eS)]
structure Meta where
 Kind:ByteArray
 Namespace:ByteArray
 Name:ByteArray
 Uid:Int
 Version:Int
 Generation:Int
 Created:Int
 Deleting:Bool
 DeleteAt:Int
 Labels:(List Label)
 Owners:(List Owner)
 Finalizers:(List ByteArray)
 Managers:(List Manager)
 deriving DecidableEq
def okMeta(x:Meta):Prop:=okT x.Kind∧okT x.Namespace∧okT x.Name∧okN x.Uid∧okN x.Version∧okN x.Generation∧okN x.Created∧okT x.Deleting∧okN x.DeleteAt∧(okL okLabel) x.Labels∧(okL okOwner) x.Owners∧(okL okT) x.Finalizers∧(okL okManager) x.Managers∧True
def wMeta(x:Meta):Nat:=wS x.Kind+(wS x.Namespace+(wS x.Name+(wN x.Uid+(wN x.Version+(wN x.Generation+(wN x.Created+(wN x.Deleting+(wN x.DeleteAt+((wL wLabel) x.Labels+((wL wOwner) x.Owners+((wL wS) x.Finalizers+((wL wManager) x.Managers+0))))))))))))+1
def eMeta(x:Meta):List D:=[.v (.string x.Kind),.v (.string x.Namespace),.v (.string x.Name),.v (.int .i64 x.Uid),.v (.int .i64 x.Version),.v (.int .i64 x.Generation),.v (.int .i64 x.Created),.v (.bool x.Deleting),.v (.int .i64 x.DeleteAt),.sl (x.Labels.map eLabel),.sl (x.Owners.map eOwner),.sl (x.Finalizers.map eS),.sl (x.Managers.map eManager)]
structure ServicePort where
 Name:ByteArray
 Port:Int
 Target:Int
 deriving DecidableEq
def okServicePort(x:ServicePort):Prop:=okT x.Name∧okN x.Port∧okN x.Target∧True
def wServicePort(x:ServicePort):Nat:=wS x.Name+(wN x.Port+(wN x.Target+0))+1
def eServicePort(x:ServicePort):List D:=[.v (.string x.Name),.v (.int .i64 x.Port),.v (.int .i64 x.Target)]
structure Service where
 Meta:Meta
 Selector:(List Requirement)
 Ports:(List ServicePort)
 Sticky:Bool
 Address:Int
 deriving DecidableEq
def okService(x:Service):Prop:=okMeta x.Meta∧(okL okRequirement) x.Selector∧(okL okServicePort) x.Ports∧okT x.Sticky∧okN x.Address∧True
def wService(x:Service):Nat:=wMeta x.Meta+((wL wRequirement) x.Selector+((wL wServicePort) x.Ports+(wN x.Sticky+(wN x.Address+0))))+1
def eService(x:Service):List D:=[.v (.string x.Meta.Kind),.v (.string x.Meta.Namespace),.v (.string x.Meta.Name),.v (.int .i64 x.Meta.Uid),.v (.int .i64 x.Meta.Version),.v (.int .i64 x.Meta.Generation),.v (.int .i64 x.Meta.Created),.v (.bool x.Meta.Deleting),.v (.int .i64 x.Meta.DeleteAt),.sl (x.Meta.Labels.map eLabel),.sl (x.Meta.Owners.map eOwner),.sl (x.Meta.Finalizers.map eS),.sl (x.Meta.Managers.map eManager),.sl (x.Selector.map eRequirement),.sl (x.Ports.map eServicePort),.v (.bool x.Sticky),.v (.int .i64 x.Address)]
mutual
structure TField where
 Name:ByteArray
 V:TValue
structure TValue where
 Kind:Int
 N:Int
 S:ByteArray
 List_:(List TValue)
 Fields:(List TField)
end
mutual
def eTField:TField→List D
 |⟨a0,a1⟩=>[.v (.string a0)]++(eTValue a1)
def eTFieldL:List TField→List (List D)
 |[]=>[]
 |x::r=>eTField x::eTFieldL r
def eTValue:TValue→List D
 |⟨a0,a1,a2,a3,a4⟩=>[.v (.int .i64 a0)]++[.v (.int .i64 a1)]++[.v (.string a2)]++[.sl (eTValueL a3)]++[.sl (eTFieldL a4)]
def eTValueL:List TValue→List (List D)
 |[]=>[]
 |x::r=>eTValue x::eTValueL r
end
mutual
def okTField:TField→Prop
 |⟨a0,a1⟩=>okT a0∧okTValue a1∧True
def okTFieldL:List TField→Prop
 |[]=>True
 |x::r=>okTField x∧okTFieldL r
def okTValue:TValue→Prop
 |⟨a0,a1,a2,a3,a4⟩=>okN a0∧okN a1∧okT a2∧okTValueL a3∧okTFieldL a4∧True
def okTValueL:List TValue→Prop
 |[]=>True
 |x::r=>okTValue x∧okTValueL r
end
mutual
def wTField:TField→Nat
 |⟨a0,a1⟩=>wS a0+(wTValue a1+0)+1
def wTFieldL:List TField→Nat
 |[]=>1
 |x::r=>wTField x+wTFieldL r
def wTValue:TValue→Nat
 |⟨a0,a1,a2,a3,a4⟩=>wN a0+(wN a1+(wS a2+(wTValueL a3+(wTFieldL a4+0))))+1
def wTValueL:List TValue→Nat
 |[]=>1
 |x::r=>wTValue x+wTValueL r
end
theorem eTFieldL_map:∀l:List TField,eTFieldL l=l.map eTField
 |[]=>by rw[eTFieldL];rfl
 |x::r=>by rw[eTFieldL,eTFieldL_map r];rfl
theorem okTFieldL_iff:∀l:List TField,okTFieldL l↔okL okTField l
 |[]=>by rw[okTFieldL];simp[okL]
 |x::r=>by rw[okTFieldL,okTFieldL_iff r];simp[okL]
theorem wTFieldL_eq:∀l:List TField,wTFieldL l=wL wTField l
 |[]=>by rw[wTFieldL];simp[wL]
 |x::r=>by rw[wTFieldL,wTFieldL_eq r];simp[wL,Nat.add_assoc]
theorem eTValueL_map:∀l:List TValue,eTValueL l=l.map eTValue
 |[]=>by rw[eTValueL];rfl
 |x::r=>by rw[eTValueL,eTValueL_map r];rfl
theorem okTValueL_iff:∀l:List TValue,okTValueL l↔okL okTValue l
 |[]=>by rw[okTValueL];simp[okL]
 |x::r=>by rw[okTValueL,okTValueL_iff r];simp[okL]
theorem wTValueL_eq:∀l:List TValue,wTValueL l=wL wTValue l
 |[]=>by rw[wTValueL];simp[wL]
 |x::r=>by rw[wTValueL,wTValueL_eq r];simp[wL,Nat.add_assoc]
theorem eTValue_u(x:TValue):eTValue x=[.v (.int .i64 x.Kind),.v (.int .i64 x.N),.v (.string x.S),.sl (x.List_.map eTValue),.sl (x.Fields.map eTField)]:=by
 obtain⟨a0,a1,a2,a3,a4⟩:=x
 simp only[eTValue,eTFieldL_map,eTValueL_map,List.cons_append,List.nil_append]
theorem okTValue_u(x:TValue):okTValue x↔(okN x.Kind∧okN x.N∧okT x.S∧(okL okTValue) x.List_∧(okL okTField) x.Fields∧True):=by
 obtain⟨a0,a1,a2,a3,a4⟩:=x
 simp only[okTValue,okTFieldL_iff,okTValueL_iff]
theorem wTValue_u(x:TValue):wTValue x=wN x.Kind+(wN x.N+(wS x.S+((wL wTValue) x.List_+((wL wTField) x.Fields+0))))+1:=by
 obtain⟨a0,a1,a2,a3,a4⟩:=x
 simp only[wTValue,wTFieldL_eq,wTValueL_eq]
theorem eTField_u(x:TField):eTField x=[.v (.string x.Name),.v (.int .i64 x.V.Kind),.v (.int .i64 x.V.N),.v (.string x.V.S),.sl (x.V.List_.map eTValue),.sl (x.V.Fields.map eTField)]:=by
 obtain⟨a0,a1⟩:=x
 simp only[eTField,eTFieldL_map,eTValueL_map,eTValue_u,List.cons_append,List.nil_append]
theorem okTField_u(x:TField):okTField x↔(okT x.Name∧okTValue x.V∧True):=by
 obtain⟨a0,a1⟩:=x
 simp only[okTField,okTFieldL_iff,okTValueL_iff]
theorem wTField_u(x:TField):wTField x=wS x.Name+(wTValue x.V+0)+1:=by
 obtain⟨a0,a1⟩:=x
 simp only[wTField,wTFieldL_eq,wTValueL_eq]
structure Resources where
 CPU:Int
 Memory:Int
 Disk:Int
 deriving DecidableEq
def okResources(x:Resources):Prop:=okN x.CPU∧okN x.Memory∧okN x.Disk∧True
def wResources(x:Resources):Nat:=wN x.CPU+(wN x.Memory+(wN x.Disk+0))+1
def eResources(x:Resources):List D:=[.v (.int .i64 x.CPU),.v (.int .i64 x.Memory),.v (.int .i64 x.Disk)]
structure Probe where
 Delay:Int
 Period:Int
 Success:Int
 Failure:Int
 deriving DecidableEq
def okProbe(x:Probe):Prop:=okN x.Delay∧okN x.Period∧okN x.Success∧okN x.Failure∧True
def wProbe(x:Probe):Nat:=wN x.Delay+(wN x.Period+(wN x.Success+(wN x.Failure+0)))+1
def eProbe(x:Probe):List D:=[.v (.int .i64 x.Delay),.v (.int .i64 x.Period),.v (.int .i64 x.Success),.v (.int .i64 x.Failure)]
structure Container where
 Name:ByteArray
 Image:ByteArray
 Request:Resources
 Limit:Resources
 Live:(List Probe)
 Ready:(List Probe)
 Startup:(List Probe)
 deriving DecidableEq
def okContainer(x:Container):Prop:=okT x.Name∧okT x.Image∧okResources x.Request∧okResources x.Limit∧(okL okProbe) x.Live∧(okL okProbe) x.Ready∧(okL okProbe) x.Startup∧True
def wContainer(x:Container):Nat:=wS x.Name+(wS x.Image+(wResources x.Request+(wResources x.Limit+((wL wProbe) x.Live+((wL wProbe) x.Ready+((wL wProbe) x.Startup+0))))))+1
def eContainer(x:Container):List D:=[.v (.string x.Name),.v (.string x.Image),.v (.int .i64 x.Request.CPU),.v (.int .i64 x.Request.Memory),.v (.int .i64 x.Request.Disk),.v (.int .i64 x.Limit.CPU),.v (.int .i64 x.Limit.Memory),.v (.int .i64 x.Limit.Disk),.sl (x.Live.map eProbe),.sl (x.Ready.map eProbe),.sl (x.Startup.map eProbe)]
structure NodeTerm where
 Required:Bool
 Selector:(List Requirement)
 Weight:Int
 deriving DecidableEq
def okNodeTerm(x:NodeTerm):Prop:=okT x.Required∧(okL okRequirement) x.Selector∧okN x.Weight∧True
def wNodeTerm(x:NodeTerm):Nat:=wN x.Required+((wL wRequirement) x.Selector+(wN x.Weight+0))+1
def eNodeTerm(x:NodeTerm):List D:=[.v (.bool x.Required),.sl (x.Selector.map eRequirement),.v (.int .i64 x.Weight)]
structure PodTerm where
 Required:Bool
 Anti:Bool
 Selector:(List Requirement)
 Topology:ByteArray
 Weight:Int
 deriving DecidableEq
def okPodTerm(x:PodTerm):Prop:=okT x.Required∧okT x.Anti∧(okL okRequirement) x.Selector∧okT x.Topology∧okN x.Weight∧True
def wPodTerm(x:PodTerm):Nat:=wN x.Required+(wN x.Anti+((wL wRequirement) x.Selector+(wS x.Topology+(wN x.Weight+0))))+1
def ePodTerm(x:PodTerm):List D:=[.v (.bool x.Required),.v (.bool x.Anti),.sl (x.Selector.map eRequirement),.v (.string x.Topology),.v (.int .i64 x.Weight)]
structure SpreadRule where
 MaxSkew:Int
 Topology:ByteArray
 Selector:(List Requirement)
 Required:Bool
 deriving DecidableEq
def okSpreadRule(x:SpreadRule):Prop:=okN x.MaxSkew∧okT x.Topology∧(okL okRequirement) x.Selector∧okT x.Required∧True
def wSpreadRule(x:SpreadRule):Nat:=wN x.MaxSkew+(wS x.Topology+((wL wRequirement) x.Selector+(wN x.Required+0)))+1
def eSpreadRule(x:SpreadRule):List D:=[.v (.int .i64 x.MaxSkew),.v (.string x.Topology),.sl (x.Selector.map eRequirement),.v (.bool x.Required)]
structure Toleration where
 Key:ByteArray
 Value:ByteArray
 Exists:Bool
 Effect:Int
 Seconds:Int
 deriving DecidableEq
def okToleration(x:Toleration):Prop:=okT x.Key∧okT x.Value∧okT x.Exists∧okN x.Effect∧okN x.Seconds∧True
def wToleration(x:Toleration):Nat:=wS x.Key+(wS x.Value+(wN x.Exists+(wN x.Effect+(wN x.Seconds+0))))+1
def eToleration(x:Toleration):List D:=[.v (.string x.Key),.v (.string x.Value),.v (.bool x.Exists),.v (.int .i64 x.Effect),.v (.int .i64 x.Seconds)]
structure PodSpec where
 Node:ByteArray
 Priority:Int
 Restart:Int
 Grace:Int
 Containers:(List Container)
 NodeSelector:(List Requirement)
 NodeTerms:(List NodeTerm)
 PodTerms:(List PodTerm)
 Spread:(List SpreadRule)
 Tolerations:(List Toleration)
 deriving DecidableEq
def okPodSpec(x:PodSpec):Prop:=okT x.Node∧okN x.Priority∧okN x.Restart∧okN x.Grace∧(okL okContainer) x.Containers∧(okL okRequirement) x.NodeSelector∧(okL okNodeTerm) x.NodeTerms∧(okL okPodTerm) x.PodTerms∧(okL okSpreadRule) x.Spread∧(okL okToleration) x.Tolerations∧True
def wPodSpec(x:PodSpec):Nat:=wS x.Node+(wN x.Priority+(wN x.Restart+(wN x.Grace+((wL wContainer) x.Containers+((wL wRequirement) x.NodeSelector+((wL wNodeTerm) x.NodeTerms+((wL wPodTerm) x.PodTerms+((wL wSpreadRule) x.Spread+((wL wToleration) x.Tolerations+0)))))))))+1
def ePodSpec(x:PodSpec):List D:=[.v (.string x.Node),.v (.int .i64 x.Priority),.v (.int .i64 x.Restart),.v (.int .i64 x.Grace),.sl (x.Containers.map eContainer),.sl (x.NodeSelector.map eRequirement),.sl (x.NodeTerms.map eNodeTerm),.sl (x.PodTerms.map ePodTerm),.sl (x.Spread.map eSpreadRule),.sl (x.Tolerations.map eToleration)]
structure ContainerStatus where
 Name:ByteArray
 State:Int
 Restarts:Int
 ExitCode:Int
 Since:Int
 Ready:Bool
 Started:Bool
 deriving DecidableEq
def okContainerStatus(x:ContainerStatus):Prop:=okT x.Name∧okN x.State∧okN x.Restarts∧okN x.ExitCode∧okN x.Since∧okT x.Ready∧okT x.Started∧True
def wContainerStatus(x:ContainerStatus):Nat:=wS x.Name+(wN x.State+(wN x.Restarts+(wN x.ExitCode+(wN x.Since+(wN x.Ready+(wN x.Started+0))))))+1
def eContainerStatus(x:ContainerStatus):List D:=[.v (.string x.Name),.v (.int .i64 x.State),.v (.int .i64 x.Restarts),.v (.int .i64 x.ExitCode),.v (.int .i64 x.Since),.v (.bool x.Ready),.v (.bool x.Started)]
structure PodStatus where
 Phase:Int
 Ready:Bool
 ReadySince:Int
 Started:Int
 Finished:Int
 Containers:(List ContainerStatus)
 Address:Int
 Nominated:ByteArray
 Reason:ByteArray
 deriving DecidableEq
def okPodStatus(x:PodStatus):Prop:=okN x.Phase∧okT x.Ready∧okN x.ReadySince∧okN x.Started∧okN x.Finished∧(okL okContainerStatus) x.Containers∧okN x.Address∧okT x.Nominated∧okT x.Reason∧True
def wPodStatus(x:PodStatus):Nat:=wN x.Phase+(wN x.Ready+(wN x.ReadySince+(wN x.Started+(wN x.Finished+((wL wContainerStatus) x.Containers+(wN x.Address+(wS x.Nominated+(wS x.Reason+0))))))))+1
def ePodStatus(x:PodStatus):List D:=[.v (.int .i64 x.Phase),.v (.bool x.Ready),.v (.int .i64 x.ReadySince),.v (.int .i64 x.Started),.v (.int .i64 x.Finished),.sl (x.Containers.map eContainerStatus),.v (.int .i64 x.Address),.v (.string x.Nominated),.v (.string x.Reason)]
structure Pod where
 Meta:Meta
 Spec:PodSpec
 Status:PodStatus
 deriving DecidableEq
def okPod(x:Pod):Prop:=okMeta x.Meta∧okPodSpec x.Spec∧okPodStatus x.Status∧True
def wPod(x:Pod):Nat:=wMeta x.Meta+(wPodSpec x.Spec+(wPodStatus x.Status+0))+1
def ePod(x:Pod):List D:=[.v (.string x.Meta.Kind),.v (.string x.Meta.Namespace),.v (.string x.Meta.Name),.v (.int .i64 x.Meta.Uid),.v (.int .i64 x.Meta.Version),.v (.int .i64 x.Meta.Generation),.v (.int .i64 x.Meta.Created),.v (.bool x.Meta.Deleting),.v (.int .i64 x.Meta.DeleteAt),.sl (x.Meta.Labels.map eLabel),.sl (x.Meta.Owners.map eOwner),.sl (x.Meta.Finalizers.map eS),.sl (x.Meta.Managers.map eManager),.v (.string x.Spec.Node),.v (.int .i64 x.Spec.Priority),.v (.int .i64 x.Spec.Restart),.v (.int .i64 x.Spec.Grace),.sl (x.Spec.Containers.map eContainer),.sl (x.Spec.NodeSelector.map eRequirement),.sl (x.Spec.NodeTerms.map eNodeTerm),.sl (x.Spec.PodTerms.map ePodTerm),.sl (x.Spec.Spread.map eSpreadRule),.sl (x.Spec.Tolerations.map eToleration),.v (.int .i64 x.Status.Phase),.v (.bool x.Status.Ready),.v (.int .i64 x.Status.ReadySince),.v (.int .i64 x.Status.Started),.v (.int .i64 x.Status.Finished),.sl (x.Status.Containers.map eContainerStatus),.v (.int .i64 x.Status.Address),.v (.string x.Status.Nominated),.v (.string x.Status.Reason)]
structure Object where
 Meta:Meta
 Spec:TValue
 Status:TValue
def okObject(x:Object):Prop:=okMeta x.Meta∧okTValue x.Spec∧okTValue x.Status∧True
def wObject(x:Object):Nat:=wMeta x.Meta+(wTValue x.Spec+(wTValue x.Status+0))+1
def eObject(x:Object):List D:=[.v (.string x.Meta.Kind),.v (.string x.Meta.Namespace),.v (.string x.Meta.Name),.v (.int .i64 x.Meta.Uid),.v (.int .i64 x.Meta.Version),.v (.int .i64 x.Meta.Generation),.v (.int .i64 x.Meta.Created),.v (.bool x.Meta.Deleting),.v (.int .i64 x.Meta.DeleteAt),.sl (x.Meta.Labels.map eLabel),.sl (x.Meta.Owners.map eOwner),.sl (x.Meta.Finalizers.map eS),.sl (x.Meta.Managers.map eManager),.v (.int .i64 x.Spec.Kind),.v (.int .i64 x.Spec.N),.v (.string x.Spec.S),.sl (x.Spec.List_.map eTValue),.sl (x.Spec.Fields.map eTField),.v (.int .i64 x.Status.Kind),.v (.int .i64 x.Status.N),.v (.string x.Status.S),.sl (x.Status.List_.map eTValue),.sl (x.Status.Fields.map eTField)]
structure Endpoint where
 Pod:ByteArray
 Node:ByteArray
 Address:Int
 Ready:Bool
 Terminating:Bool
 deriving DecidableEq
def okEndpoint(x:Endpoint):Prop:=okT x.Pod∧okT x.Node∧okN x.Address∧okT x.Ready∧okT x.Terminating∧True
def wEndpoint(x:Endpoint):Nat:=wS x.Pod+(wS x.Node+(wN x.Address+(wN x.Ready+(wN x.Terminating+0))))+1
def eEndpoint(x:Endpoint):List D:=[.v (.string x.Pod),.v (.string x.Node),.v (.int .i64 x.Address),.v (.bool x.Ready),.v (.bool x.Terminating)]
structure EndpointSet where
 Meta:Meta
 Ports:(List ServicePort)
 Items:(List Endpoint)
 deriving DecidableEq
def okEndpointSet(x:EndpointSet):Prop:=okMeta x.Meta∧(okL okServicePort) x.Ports∧(okL okEndpoint) x.Items∧True
def wEndpointSet(x:EndpointSet):Nat:=wMeta x.Meta+((wL wServicePort) x.Ports+((wL wEndpoint) x.Items+0))+1
def eEndpointSet(x:EndpointSet):List D:=[.v (.string x.Meta.Kind),.v (.string x.Meta.Namespace),.v (.string x.Meta.Name),.v (.int .i64 x.Meta.Uid),.v (.int .i64 x.Meta.Version),.v (.int .i64 x.Meta.Generation),.v (.int .i64 x.Meta.Created),.v (.bool x.Meta.Deleting),.v (.int .i64 x.Meta.DeleteAt),.sl (x.Meta.Labels.map eLabel),.sl (x.Meta.Owners.map eOwner),.sl (x.Meta.Finalizers.map eS),.sl (x.Meta.Managers.map eManager),.sl (x.Ports.map eServicePort),.sl (x.Items.map eEndpoint)]
def EE:=PLift.up (And.intro (And.intro (And.intro (And.intro @eI.eq_1 (And.intro @eB.eq_1 @eS.eq_1)) (And.intro (And.intro @eK.eq_1 @eL.eq_1) (And.intro @eRequirement.eq_1 @eLabel.eq_1))) (And.intro (And.intro @eOwner.eq_1 (And.intro @eManager.eq_1 @eMeta.eq_1)) (And.intro (And.intro @eServicePort.eq_1 @eService.eq_1) (And.intro @eTField_u @eTValue_u)))) (And.intro (And.intro (And.intro @eResources.eq_1 (And.intro @eProbe.eq_1 @eContainer.eq_1)) (And.intro (And.intro @eNodeTerm.eq_1 @ePodTerm.eq_1) (And.intro @eSpreadRule.eq_1 @eToleration.eq_1))) (And.intro (And.intro @ePodSpec.eq_1 (And.intro @eContainerStatus.eq_1 @ePodStatus.eq_1)) (And.intro (And.intro @ePod.eq_1 @eObject.eq_1) (And.intro @eEndpoint.eq_1 @eEndpointSet.eq_1)))))
theorem eM{n m:Nat}{Q:XT→St→Prop}{R:St→Prop}{s':St}{sl:List (Nat×AV)}{H':List (Option Blk)}(σ:Src)(hR:R ⟨sl,H'⟩)(hB:shBs s'.heap σ H' σ H':=by simp only[ZZ.down,Nat.reduceEqDiff,reduceCtorEq,Nat.reduceAdd,Nat.reduceLeDiff,Nat.reduceLT,Nat.reduceBNe,EE.down])(hk:keepS 0 (s'.heap.take m) σ H':=by simp only[ZZ.down,Nat.reduceEqDiff,reduceCtorEq,Nat.reduceAdd,Nat.reduceLeDiff,Nat.reduceLT,Nat.reduceBNe,EE.down])(hs:shSl s'.heap σ H' s'.slots sl:=by simp only[ZZ.down,Nat.reduceEqDiff,reduceCtorEq,Nat.reduceAdd,Nat.reduceLeDiff,Nat.reduceLT,Nat.reduceBNe,EE.down])(hn:nodupS σ=true:=by rfl):sM n m R Q .normal s':=endM σ ⟨hB,hn,hk⟩ hs hR
theorem eL'{n m:Nat}{Q:XT→St→Prop}{I:Nat→St→Prop}{j:Nat}(k':Nat){s':St}{sl:List (Nat×AV)}{H':List (Option Blk)}(σ:Src)(hI:I k' ⟨sl,H'⟩)(hj:k'<j)(hB:shBs s'.heap σ H' σ H':=by simp only[ZZ.down,Nat.reduceEqDiff,reduceCtorEq,Nat.reduceAdd,Nat.reduceLeDiff,Nat.reduceLT,Nat.reduceBNe,EE.down])(hk:keepS 0 (s'.heap.take m) σ H':=by simp only[ZZ.down,Nat.reduceEqDiff,reduceCtorEq,Nat.reduceAdd,Nat.reduceLeDiff,Nat.reduceLT,Nat.reduceBNe,EE.down])(hs:shSl s'.heap σ H' s'.slots sl:=by simp only[ZZ.down,Nat.reduceEqDiff,reduceCtorEq,Nat.reduceAdd,Nat.reduceLeDiff,Nat.reduceLT,Nat.reduceBNe,EE.down])(hn:nodupS σ=true:=by rfl):sL n m I j Q .normal s':=endL k' hj σ ⟨hB,hn,hk⟩ hs hI
theorem bL{P:Program}{n m:Nat}{Q:XT→St→Prop}{s:St}{k:List Frm}{body:AC}(I:Nat→St→Prop)(k0:Nat){sl:List (Nat×AV)}{H':List (Option Blk)}(σ:Src)(hI:I k0 ⟨sl,H'⟩)(hr:∀j s,I j s→sK P n m body [] (sL n m I j (sU P n m k Q)) s)(hB:shBs s.heap σ H' σ H':=by simp only[ZZ.down,Nat.reduceEqDiff,reduceCtorEq,Nat.reduceAdd,Nat.reduceLeDiff,Nat.reduceLT,Nat.reduceBNe,EE.down])(hk:keepS 0 (s.heap.take m) σ H':=by simp only[ZZ.down,Nat.reduceEqDiff,reduceCtorEq,Nat.reduceAdd,Nat.reduceLeDiff,Nat.reduceLT,Nat.reduceBNe,EE.down])(hs:shSl s.heap σ H' s.slots sl:=by simp only[ZZ.down,Nat.reduceEqDiff,reduceCtorEq,Nat.reduceAdd,Nat.reduceLeDiff,Nat.reduceLT,Nat.reduceBNe,EE.down])(hn:nodupS σ=true:=by rfl):WpC P n m (.loop body) (sU P n m k Q) s:=begL I k0 σ ⟨hB,hn,hk⟩ hs hI hr
theorem eF{m:Nat}{h:List (Option Blk)}{l res:List A1}{H':List (Option Blk)}(σ:Src)(hB:shBs h σ H' σ H':=by simp only[ZZ.down,Nat.reduceEqDiff,reduceCtorEq,Nat.reduceAdd,Nat.reduceLeDiff,Nat.reduceLT,Nat.reduceBNe,EE.down])(hk:keepS 0 (h.take m) σ H':=by simp only[ZZ.down,Nat.reduceEqDiff,reduceCtorEq,Nat.reduceAdd,Nat.reduceLeDiff,Nat.reduceLT,Nat.reduceBNe,EE.down])(hs:shAs h σ H' res l:=by simp only[ZZ.down,Nat.reduceEqDiff,reduceCtorEq,Nat.reduceAdd,Nat.reduceLeDiff,Nat.reduceLT,Nat.reduceBNe,EE.down])(hn:nodupS σ=true:=by rfl):Fin m h l res H':=fin_sh σ ⟨hB,hn,hk⟩ hs
abbrev dI(n:Int):C:= .d (.v (.int .i64 n))
abbrev dS(s:ByteArray):C:= .d (.v (.string s))
abbrev dB(b:Bool):C:= .d (.v (.bool b))
abbrev dN:C:= .d (.v (.slice none 0 0))
abbrev dM(l:List (List D)):C:= .d (.sl l)
abbrev sq(d:Nat)(op:AOp):AStep:=⟨some d,none,op,[],.new []⟩
abbrev su(op:AOp):AStep:=⟨none,none,op,[],.new []⟩
abbrev sd(d:Nat)(op:AOp)(b:List Nat):AStep:=⟨some d,none,op,b,.new []⟩
abbrev zn(d:Nat)(op:AOp)(b l:List Nat):AStep:=⟨some d,none,op,b,.new l⟩
abbrev zl(d:Nat)(op:AOp)(b l:List Nat):AStep:=⟨some d,none,op,b,.lone l⟩
abbrev zg(d g:Nat)(w:Bool)(op:AOp):AStep:=⟨some d,some (g,w),op,[],.new []⟩
theorem ww{p q:Prop}(hq:q)(h:p=q:=by first|(simp only[VW.down,Nat.reduceEqDiff,reduceCtorEq,Nat.reduceAdd,Nat.reduceLeDiff,Nat.reduceLT,Nat.reduceBEq,Nat.reduceSub,EE.down];rfl)|rfl):p:=Eq.mpr h hq
theorem zc{P:Program}{f:FuncId}(A:AFn){n:Nat}{rvs:List RV}{c:AC}{args:List A1}{H H':List (Option Blk)}{res:List A1}(hf:afn P f=some A.er)(hA:A=⟨n,rvs,c⟩)(h:sK P n H.length c [] (sE H.length rvs res H') ⟨argSlots 0 args,H⟩)(hl:Nat.ble args.length n=true:=by rfl):CallD P f args H (tupV res) H':=by subst hA;exact callS hf (Nat.le_of_ble_eq_true hl) h
theorem bi{α β:Type}{b:β}{x:Option α}{f:α→Option β}(h:x.bind f=some b):∃a,x=some a∧f a=some b:=Option.bind_eq_some_iff.1 h
theorem cN{P:Program}{f:FuncId}{as':List A1}{H H':List (Option Blk)}{res:AV}{as0:List A1}{s:St}{K:Out→Prop}(ρ:List Nat)
 (hc:CallD P f as' H res H') (hH:passAll s.heap (rn ρ s.heap.length) (hp H) 0 H) (hK:K ⟨some (res.ren (rn ρ s.heap.length)),tailWr 0 H' (rn ρ s.heap.length)⟩)
 (has:as0.map nrmA=as'.map (A1.ren (rn ρ s.heap.length)):=by first|rfl|simp[nrmA,nrmC,nrm,A1.ren,C.ren,rn,List.length_set]) (hlive:liveAll (hp H) as':=by simp[liveAll,A1.live,C.live,hp]) (hρ:ρ.length=H.length:=by rfl) (hnd:ρ.Nodup:=by decide):CallX P f as0 s K:=
 callX_n ρ hc has hlive hρ hnd hH hK
section
variable {P:Program} {n m:Nat} {Q:XT→St→Prop} {a b:AC} {k:List Frm} {s:St} {α:Type} {x y:Option α} {r:Option α}
theorem condSh{p:Prop}[Decidable p](h:(if p then x else y)=r)(h1:p→x=r→sK P n m a k Q s)(h0:¬p→y=r→sK P n m b k Q s):sC P n m (decide p) a b k Q s:=
 condS (fun c=>h1 c ((if_pos c).symm.trans h)) fun c=>h0 c ((if_neg c).symm.trans h)
theorem condBh{t:Bool}(h:(if t=true then x else y)=r)(h1:t=true→x=r→sK P n m a k Q s)(h0:¬t=true→y=r→sK P n m b k Q s):sC P n m t a b k Q s:=
 condB (fun c=>h1 c ((if_pos c).symm.trans h)) fun c=>h0 c ((if_neg c).symm.trans h)
end
section
variable {P:Program} {dst:Option Nat} {op:AOp} {bef:List Nat} {lone:Lone} {rr:List AStep} {s:St} {K:St→Prop} {g:Nat} {want:Bool} {hh:List (Option Blk)} {i:Nat} {slots:List (Nat×AV)} {wl:List (Nat×List (Nat×Blk))} {α:Type} {x y:Option α} {r:Option α}
theorem guardSh{p:Prop}[Decidable p](h:(if p then x else y)=r)(h1:p→x=r→sG P true want dst op rr g s K)(h0:¬p→y=r→sG P false want dst op rr g s K):sG P (decide p) want dst op rr g s K:=
 guardS (fun c=>h1 c ((if_pos c).symm.trans h)) fun c=>h0 c ((if_neg c).symm.trans h)
theorem guardSBh{t:Bool}(h:(if t=true then x else y)=r)(h1:t=true→x=r→sG P true want dst op rr g s K)(h0:¬t=true→y=r→sG P false want dst op rr g s K):sG P t want dst op rr g s K:=
 guardSB (fun c=>h1 c ((if_pos c).symm.trans h)) fun c=>h0 c ((if_neg c).symm.trans h)
theorem guardDh{p:Prop}[Decidable p](h:(if p then x else y)=r)(h1:p→x=r→sGD P hh true want dst op bef lone rr i g slots wl K)(h0:¬p→y=r→sGD P hh false want dst op bef lone rr i g slots wl K):sGD P hh (decide p) want dst op bef lone rr i g slots wl K:=
 guardD (fun c=>h1 c ((if_pos c).symm.trans h)) fun c=>h0 c ((if_neg c).symm.trans h)
theorem guardDBh{t:Bool}(h:(if t=true then x else y)=r)(h1:t=true→x=r→sGD P hh true want dst op bef lone rr i g slots wl K)(h0:¬t=true→y=r→sGD P hh false want dst op bef lone rr i g slots wl K):sGD P hh t want dst op bef lone rr i g slots wl K:=
 guardDB (fun c=>h1 c ((if_pos c).symm.trans h)) fun c=>h0 c ((if_neg c).symm.trans h)
end
end Go.Proofs.Ytfkkccgopmcnaaa
