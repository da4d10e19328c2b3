/- SxLaw -/
import Derived.Test.YtcdmndagoafcgaaGreatIdpF
import Derived.Test.YtcdmndagoafcgaaGreatStar
import Derived.Test.YtcdmndagoafcgaaGreatRows
import Derived.JoinedOf
import Derived.KernelRfl
import Derived.Test.YtcdmndagoafcgaaGreatSxZ
import Derived.ProofKit
import Derived.OpenShut
import Derived.Lib.SmallJoins
import Derived.Deep.Matrix
section
open Go Go.Proofs
namespace Go.Sx
set_option linter.unusedSimpArgs false
set_option linter.unusedVariables false
def wz (a:List (List Int)) (c:List (List Int)):Post:=⟨au a∧au c,.c (.bool (aK a c)),[]⟩
def Eq:List AD→Option Post
 | [.agg [.rows .i64 (a),.rows .i64 (c)]]=>some (wz a c)
 | _=>none
def LF:List (Nat×Ctr):=[(78,⟨[],nC⟩)]
def Er (a:List (List Int)) (c:List (List Int)):Prop :=
 ((((au a)∧(au c))∧True)∧((aK a c=aK a c)∧True))
theorem V1 (a:List (List Int)) (c:List (List Int)):aC Tryz.prog (af LF) ah am Tryz.f34 (aE Tryz.f34) [] [.agg [.rows .i64 (a),.rows .i64 (c)]] (wz a c)=Er a c:=by kernel_rfl
theorem V2 (a:List (List Int)) (c:List (List Int)) (Yh:(wz a c).pre):Er a c:=by
 simp only [wz,Er,aG,u1,u2,u3,u4,u5,u6,u7,u8,u9,v1,v2,v3,v4,v5,v6,v7,v8,v9,w1,w2,w3,w4,aH,aa,ab,ae,ar] at Yh ⊢;exact Yh
theorem V3:Fits Tryz.prog 34 ⟨[],Eq⟩:=by
 refine aJ (Γ:=af LF) (aj te aF) Tryz.func34 fun ds p h hp=>?_
 unfold Eq at h;split at h
 ·cases h
  exact ⟨ah,am,by rw [V1];exact V2 _ _  hp⟩
 ·cases h
def iA (Yg:List Int):List (List Int):=(aA Yg).1
def iC (Yg:List Int):List (List Int):=(aA Yg).2.1
def iS (Yg:List Int):Int:=dj Yg (aA Yg)
def oq (a c:List (List Int)):Bool:=decide (1<(a.length:Int))&&decide ((br a c).length=2)
theorem V4 {l:List Int} {x:Int} (h:x∈l):(l.any fun y=>decide (y=x))=true :=
 List.any_eq_true.2 ⟨x,h,decide_eq_true rfl⟩
theorem V5 {l:List Int} {x:Int}:(l.any fun y=>decide (y=x))=true↔x∈l:=by
 rw [List.any_eq_true]
 constructor
 ·rintro ⟨y,hy,h⟩
  rw [decide_eq_true_eq] at h;rw [←h];exact hy
 ·intro h;exact ⟨x,h,decide_eq_true rfl⟩
section
variable {a c:List (List Int)} (B:eW a c)
include B
theorem Es (p:Int→Bool):(aL p (2 ^ (a.length - 1))).length≤2048:=by
 have n2:=(bA B.1).2.1
 exact Nat.le_trans (nF _ _) (pA n2)
theorem V6:oq a c=(((br a c).length:Int) == 2):=by
 have n1:=(bA B.1).1
 have l:(br a c).length≤2 ^ (a.length - 1):=nF _ _
 rw [Bool.eq_iff_iff,oq,Bool.and_eq_true,decide_eq_true_eq,decide_eq_true_eq,beq_iff_eq]
 constructor
 ·rintro ⟨_,h⟩;omega
 ·intro h
  refine ⟨?_,by omega⟩
  refine Classical.byContradiction fun hn=>?_
  rw [show a.length - 1=0 by omega] at l
  have:(2:Nat) ^ 0=1:=rfl
  omega
theorem V7 {s:Int} (S:bu a s):cR a c s=0:=by
 have b:=pP B
 have u:=S.2.1
 have v:=S.2.2
 rw [cR,if_pos b,if_pos];rw [me];omega
theorem LG {s:Int} (h:s∈br a c):aQ a c s=((quo a (a8 a s),quo c (a8 a s)),0):=by
 obtain ⟨S,i,_⟩:=iq B h;rw [aQ,if_pos (V7 B S),if_pos i]
theorem V8 {s:Int} (h:(cu a c s).2=0):(cu a c s).1=((br a c).any fun y=>decide (y=s))∧(cu a c s).1=((aQ a c s).2 == 0):=by
 by_cases z:cR a c s=0
 ·obtain ⟨g,S⟩:=mc z
  have e:cu a c s=(aR a c s,0):=if_pos z
  rw [e,aQ,if_pos z];refine ⟨?_,?_⟩
  ·rw [Bool.eq_iff_iff,V5]
   constructor
   ·intro i;exact pw B S ((tO B S).1 i)
   ·intro m;exact (iq B m).2.1
  ·cases i:aR a c s
   ·rw [if_neg (by decide)];rfl
   ·rw [if_pos rfl];rfl
 ·have e:cu a c s=(false,cR a c s):=if_neg z
  rw [e] at h;exact absurd h z
theorem V9 {s:Int} (h:(aQ a c s).2=0):s∈br a c:=by
 by_cases z:cR a c s=0
 ·obtain ⟨g,S⟩:=mc z
  rw [aQ,if_pos z] at h;cases i:aR a c s
  ·rw [i,if_neg (by decide)] at h;exact absurd h (by decide)
  ·exact pw B S ((tO B S).1 i)
 ·rw [aQ,if_neg z] at h;exact absurd h z
theorem Wa {s:Int} (h:(aQ a c s).2=0):aK (aQ a c s).1.1 (aQ a c s).1.2=true∧(0≤s∧s<4096)∧((aQ a c s).1.1.length:Int) * iw s=(a.length:Int):=by
 have m:=V9 B h
 obtain ⟨S,_,I⟩:=iq B m;rw [LG B m];exact ⟨pP (tM B I),gv S,RF B S I⟩
end
def wA (Yg:List Int):Post:=⟨bD Yg,.c (.bool (true)),[]⟩
def Et:List AD→Option Post
 | [.c (.ints .u8 (Yg))]=>some (wA Yg)
 | _=>none
def LH (Yg:List Int):Nat→Option Ann
 | 1022=>some (Ann.mk ((Unit)) (fun u=>⟨[(3,.c (.ptr 3 0)),(4,.c (.int .i64 (iS Yg))),(5,.c (.ptr 5 0)),(6,.c (.int .i64 ((aQ (iA Yg) (iC Yg) (iS Yg)).2))),(9,.c (.bool ((cu (iA Yg) (iC Yg) (iS Yg)).1))),(10,.c (.int .i64 ((cu (iA Yg) (iC Yg) (iS Yg)).2))),(13,.c (.int .i64 (bt (iA Yg) (iC Yg)))),(14,.c (.int .i64 (0))),(15,.c (.int .i64 (d6 (iA Yg) (iC Yg)))),(16,.c (.int .i64 (0))),(17,.c (.int .i64 ((dL (iA Yg) (iC Yg)).1))),(18,.c (.int .i64 (0))),(19,.c (.own (105))),(20,.c (.int .i64 (0))),(21,.c (.own (110))),(22,.c (.int .i64 (0))),(23,.c (.own (115))),(24,.c (.int .i64 (0))),(25,.c (.int .i64 (gS (iA Yg) (iC Yg)))),(26,.c (.int .i64 (0))),(27,.c (.bool (oq (iA Yg) (iC Yg)))),(28,.c (.int .i64 (0)))],[(3,some (.box [.own (39),.ro (.rows .i64 (iC Yg))])),(39,some (.rows 0 57 2 .i64 (iA Yg))),(5,some (.box [.own (45),.own (1045)])),(45,some (.rows 0 57 2 .i64 ((aQ (iA Yg) (iC Yg) (iS Yg)).1.1))),(1045,some (.rows 0 57 2 .i64 ((aQ (iA Yg) (iC Yg) (iS Yg)).1.2))),(105,some (.ints 2 .i64 (br (iA Yg) (iC Yg)))),(110,some (.ints 2 .i64 (dk (iA Yg) (iC Yg)))),(115,some (.ints 2 .i64 (eK (iA Yg) (iC Yg))))]⟩) (fun u=>aK (iA Yg) (iC Yg)=true) (fun u=>0) (fun u=>fun b_=>match b_ with | 0=>some (Ann.mk ((Nat)) (fun i=>⟨[(3,.c (.ptr 3 0)),(4,.c (.int .i64 (iS Yg))),(5,.c (.ptr 5 0)),(6,.c (.int .i64 ((aQ (iA Yg) (iC Yg) (iS Yg)).2))),(9,.c (.bool ((cu (iA Yg) (iC Yg) (iS Yg)).1))),(10,.c (.int .i64 ((cu (iA Yg) (iC Yg) (iS Yg)).2))),(17,.c (.int .i64 ((dL (iA Yg) (iC Yg)).1))),(19,.c (.own (105))),(21,.c (.own (110))),(23,.c (.own (115))),(29,.c (.int .i64 ((i:Int))))],[(3,some (.box [.own (39),.ro (.rows .i64 (iC Yg))])),(39,some (.rows 0 57 2 .i64 (iA Yg))),(5,some (.box [.own (45),.own (1045)])),(45,some (.rows 0 57 2 .i64 ((aQ (iA Yg) (iC Yg) (iS Yg)).1.1))),(1045,some (.rows 0 57 2 .i64 ((aQ (iA Yg) (iC Yg) (iS Yg)).1.2))),(105,some (.ints 2 .i64 (br (iA Yg) (iC Yg)))),(110,some (.ints 2 .i64 (dk (iA Yg) (iC Yg)))),(115,some (.ints 2 .i64 (eK (iA Yg) (iC Yg))))]⟩) (fun i=>i≤(br (iA Yg) (iC Yg)).length) (fun i=>(br (iA Yg) (iC Yg)).length - i) (fun _=>am)) | 2=>some (Ann.mk ((Nat)) (fun i=>⟨[(3,.c (.ptr 3 0)),(4,.c (.int .i64 (iS Yg))),(5,.c (.ptr 5 0)),(6,.c (.int .i64 ((aQ (iA Yg) (iC Yg) (iS Yg)).2))),(9,.c (.bool ((cu (iA Yg) (iC Yg) (iS Yg)).1))),(10,.c (.int .i64 ((cu (iA Yg) (iC Yg) (iS Yg)).2))),(19,.c (.own (105))),(21,.c (.own (110))),(23,.c (.own (115))),(34,.c (.int .i64 ((i:Int))))],[(3,some (.box [.own (39),.ro (.rows .i64 (iC Yg))])),(39,some (.rows 0 57 2 .i64 (iA Yg))),(5,some (.box [.own (45),.own (1045)])),(45,some (.rows 0 57 2 .i64 ((aQ (iA Yg) (iC Yg) (iS Yg)).1.1))),(1045,some (.rows 0 57 2 .i64 ((aQ (iA Yg) (iC Yg) (iS Yg)).1.2))),(105,some (.ints 2 .i64 (br (iA Yg) (iC Yg)))),(110,some (.ints 2 .i64 (dk (iA Yg) (iC Yg)))),(115,some (.ints 2 .i64 (eK (iA Yg) (iC Yg))))]⟩) (fun i=>i≤(dk (iA Yg) (iC Yg)).length) (fun i=>(dk (iA Yg) (iC Yg)).length - i) (fun _=>am)) | _=>none))
 | _=>none
def LI:List (Nat×Ctr):=[(19,⟨[],Cu⟩),(29,⟨[],AC⟩),(26,⟨[],Cl⟩),(30,⟨[],Cn⟩),(31,⟨[],CK⟩),(32,⟨[],zz⟩),(33,⟨[],zB⟩),(34,⟨[],Eq⟩),(25,⟨[],CD⟩),(35,⟨[],zD⟩),(36,⟨[],CY⟩),(37,⟨[],AY⟩),(38,⟨[],zH⟩),(39,⟨[],zL⟩),(40,⟨[],zP⟩),(41,⟨[],zR⟩),(42,⟨[],zT⟩),(43,⟨[],CF⟩),(44,⟨[],gT⟩),(45,⟨[],CO⟩)]
def Eu (Yg:List Int):Prop :=
 ac ((aQ (iA Yg) (iC Yg) (iS Yg)).2 != (0:Int)) ((true=true)∧True) ((((au (((aQ (iA Yg) (iC Yg) (iS Yg)).1).1))∧(au (((aQ (iA Yg) (iC Yg) (iS Yg)).1).2)))∧True)∧(ac (aK (((aQ (iA Yg) (iC Yg) (iS Yg)).1).1) (((aQ (iA Yg) (iC Yg) (iS Yg)).1).2)) (((((0:Int)≤iS Yg)∧(iS Yg<(4096:Int)))∧True)∧((ab ((↑((((aQ (iA Yg) (iC Yg) (iS Yg)).1).1).length):Int) * iw (iS Yg)))∧((((↑((((aQ (iA Yg) (iC Yg) (iS Yg)).1).1).length):Int) * iw (iS Yg) == (↑((iA Yg).length):Int))=true)∧True))) ((false=true)∧True)))
def Ev (Yg:List Int):Prop :=
 ac ((cu (iA Yg) (iC Yg) (iS Yg)).2 == (0:Int)) (ac (!(cu (iA Yg) (iC Yg) (iS Yg)).1 == ((aQ (iA Yg) (iC Yg) (iS Yg)).2 == (0:Int))) ((false=true)∧True) (Eu Yg)) (Eu Yg)
def dD (Yg:List Int):=(aQ (iA Yg) (iC Yg) (iS Yg))
def dP (Yg:List Int):=(((aA Yg).2).1)
def eX (Yg:List Int):=(cu (iA Yg) (iC Yg) (iS Yg))
def mH (Yg:List Int):=(aQ ((aA Yg).1) (dP Yg) (dj Yg (aA Yg)))
def Ew (Yg:List Int):Prop :=
 ((True∧True)∧(ac (decide ((4096:Int)<(↑(Yg.length):Int))) ((true=true)∧True) ((((bD Yg)∧(Yg.length≤(4096:Nat)))∧True)∧((((au ((aA Yg).1))∧(au (dP Yg)))∧True)∧((((au ((aA Yg).1))∧(au (dP Yg)))∧True)∧(ac ((aQ ((aA Yg).1) (((aA Yg).2).1) (dj Yg (aA Yg))).2 != (aQ ((aA Yg).1) (((aA Yg).2).1) (dj Yg (aA Yg))).2) ((false=true)∧True) ((((au (((mH Yg).1).1))∧(au (((mH Yg).1).2)))∧True)∧(ac (!decide (((aQ ((aA Yg).1) (((aA Yg).2).1) (dj Yg (aA Yg))).1).1=((aQ ((aA Yg).1) (((aA Yg).2).1) (dj Yg (aA Yg))).1).1∧((aQ ((aA Yg).1) (((aA Yg).2).1) (dj Yg (aA Yg))).1).2=((aQ ((aA Yg).1) (((aA Yg).2).1) (dj Yg (aA Yg))).1).2)) ((false=true)∧True) ((((au ((aA Yg).1))∧(au (dP Yg)))∧True)∧((((au ((aA Yg).1))∧(au (dP Yg)))∧True)∧(ac ((cu ((aA Yg).1) (((aA Yg).2).1) (dj Yg (aA Yg))).2 != (cu ((aA Yg).1) (((aA Yg).2).1) (dj Yg (aA Yg))).2) ((false=true)∧True) (ac (!(cu ((aA Yg).1) (((aA Yg).2).1) (dj Yg (aA Yg))).1 == (cu ((aA Yg).1) (((aA Yg).2).1) (dj Yg (aA Yg))).1) ((false=true)∧True) ((((au ((aA Yg).1))∧(au (dP Yg)))∧True)∧(ac (!aK ((aA Yg).1) (((aA Yg).2).1)) ((((mH Yg).2 == (1:Int))=true)∧True) ((((au ((aA Yg).1))∧(au (dP Yg)))∧True)∧((((au ((aA Yg).1))∧(au (dP Yg)))∧True) ∧
 ((((au ((aA Yg).1))∧(au (dP Yg)))∧True)∧((((au ((aA Yg).1))∧(au (dP Yg)))∧True)∧((((au ((aA Yg).1))∧(au (dP Yg)))∧True)∧((((au ((aA Yg).1))∧(au (dP Yg)))∧True)∧((((au ((aA Yg).1))∧(au (dP Yg)))∧True)∧(((((au ((aA Yg).1))∧(au (dP Yg)))∧True)∧(∃x0:Unit,((aK (iA Yg) (iC Yg)=true)∧((dj Yg (aA Yg)=iS Yg)∧(((mH Yg).2=(dD Yg).2)∧(((cu ((aA Yg).1) (dP Yg) (dj Yg (aA Yg))).1=(eX Yg).1)∧(((cu ((aA Yg).1) (dP Yg) (dj Yg (aA Yg))).2=(eX Yg).2)∧(((if aK ((aA Yg).1) (((aA Yg).2).1)=true then bt ((aA Yg).1) (dP Yg) else (0:Int))=bt (iA Yg) (iC Yg))∧(((if aK ((aA Yg).1) (((aA Yg).2).1)=true then (0:Int) else (1:Int))=(0:Int))∧(((if aK ((aA Yg).1) (((aA Yg).2).1)=true then d6 ((aA Yg).1) (dP Yg) else (0:Int))=d6 (iA Yg) (iC Yg))∧(((if aK ((aA Yg).1) (((aA Yg).2).1)=true then (0:Int) else (1:Int))=(0:Int))∧(((dL ((aA Yg).1) (dP Yg)).1=(dL (iA Yg) (iC Yg)).1)∧(((dL ((aA Yg).1) (dP Yg)).2=(0:Int))∧(((i9 ((aA Yg).1) (dP Yg)).2=(0:Int))∧(((if aK ((aA Yg).1) (((aA Yg).2).1)=true then (0:Int) else (1:Int))=(0:Int))∧(((if aK ((aA Yg).1) (((aA Yg).2).1)=true then (0:Int) else (1:Int))=(0:Int)) ∧
 (((if aK ((aA Yg).1) (((aA Yg).2).1)=true then gS ((aA Yg).1) (dP Yg) else (0:Int))=gS (iA Yg) (iC Yg))∧(((if aK ((aA Yg).1) (((aA Yg).2).1)=true then (0:Int) else (1:Int))=(0:Int))∧(((if aK ((aA Yg).1) (((aA Yg).2).1)=true then decide ((1:Int)<(↑(((aA Yg).1).length):Int))&&decide ((aL (aR ((aA Yg).1) (((aA Yg).2).1)) ((2:Nat) ^ (((aA Yg).1).length - (1:Nat)))).length=(2:Nat)) else false)=oq (iA Yg) (iC Yg))∧(((if aK ((aA Yg).1) (((aA Yg).2).1)=true then (0:Int) else (1:Int))=(0:Int))∧((((aA Yg).2).1=iC Yg)∧(((aA Yg).1=iA Yg)∧((((mH Yg).1).1=((dD Yg).1).1)∧((((mH Yg).1).2=((dD Yg).1).2)∧(((i9 ((aA Yg).1) (dP Yg)).1=br (iA Yg) (iC Yg))∧(((if aK ((aA Yg).1) (((aA Yg).2).1)=true then aL (ig ((aA Yg).1) (dP Yg)) ((2:Nat) ^ (((aA Yg).1).length - (1:Nat))) else [])=dk (iA Yg) (iC Yg))∧((if aK ((aA Yg).1) (((aA Yg).2).1)=true then aL (gt ((aA Yg).1) (dP Yg)) ((2:Nat) ^ (((aA Yg).1).length - (1:Nat))) else [])=eK (iA Yg) (iC Yg))))))))))))))))))))))))))))∧(∀x1:Unit,((aK (iA Yg) (iC Yg)=true)→((((br (iA Yg) (iC Yg)).length≤(1099511627776:Nat))∧True)∧(ac (!List.any (br (iA Yg) (iC Yg)) fun (y:Int)=>decide (y=bt (iA Yg) (iC Yg))) ((false=true)∧True) ((((br (iA Yg) (iC Yg)).length≤(1099511627776:Nat))∧True) ∧
 (ac (!List.any (br (iA Yg) (iC Yg)) fun (y:Int)=>decide (y=d6 (iA Yg) (iC Yg))) ((false=true)∧True) ((((br (iA Yg) (iC Yg)).length≤(1099511627776:Nat))∧True)∧(ac (!List.any (br (iA Yg) (iC Yg)) fun (y:Int)=>decide (y=(dL (iA Yg) (iC Yg)).1)) ((false=true)∧True) (((IntKind.i64=IntKind.i64)∧((((0:Int)≤d6 (iA Yg) (iC Yg))∧(d6 (iA Yg) (iC Yg)≤(9223372036854775807:Int)))∧(((0:Int)≤bt (iA Yg) (iC Yg))∧(bt (iA Yg) (iC Yg)≤(9223372036854775807:Int)))))∧(ac ((↑((d6 (iA Yg) (iC Yg)).toNat &&& (bt (iA Yg) (iC Yg)).toNat):Int) != d6 (iA Yg) (iC Yg)) ((false=true)∧True) ((((eK (iA Yg) (iC Yg)).length≤(1099511627776:Nat))∧True)∧(ac (!List.any (eK (iA Yg) (iC Yg)) fun (y:Int)=>decide (y=gS (iA Yg) (iC Yg))) ((false=true)∧True) (ac (!oq (iA Yg) (iC Yg) == ((↑((br (iA Yg) (iC Yg)).length):Int) == (2:Int))) ((false=true)∧True) ((∃x2:Nat,((x2≤(br (iA Yg) (iC Yg)).length)∧((iS Yg=iS Yg)∧(((dD Yg).2=(dD Yg).2)∧(((eX Yg).1=(eX Yg).1)∧(((eX Yg).2=(eX Yg).2)∧(((dL (iA Yg) (iC Yg)).1=(dL (iA Yg) (iC Yg)).1)∧(((0:Int)=(↑x2:Int))∧((iC Yg=iC Yg)∧((iA Yg=iA Yg)∧((((dD Yg).1).1=((dD Yg).1).1)∧((((dD Yg).1).2=((dD Yg).1).2)∧((br (iA Yg) (iC Yg)=br (iA Yg) (iC Yg))∧((dk (iA Yg) (iC Yg)=dk (iA Yg) (iC Yg)) ∧
 (eK (iA Yg) (iC Yg)=eK (iA Yg) (iC Yg))))))))))))))))∧(∀x3:Nat,((x3≤(br (iA Yg) (iC Yg)).length)→(ac (decide ((↑x3:Int)<(↑((br (iA Yg) (iC Yg)).length):Int))) ((aa (↑x3:Int) ((br (iA Yg) (iC Yg)).length))∧((((dk (iA Yg) (iC Yg)).length≤(1099511627776:Nat))∧True)∧(ac (!List.any (dk (iA Yg) (iC Yg)) fun (y:Int)=>decide (y=(br (iA Yg) (iC Yg)).getD ((↑x3:Int).toNat) (0:Int))) ((false=true)∧True) ((aa (↑x3:Int) ((br (iA Yg) (iC Yg)).length))∧((((au (iA Yg))∧(au (iC Yg)))∧True)∧((((au (((aQ (iA Yg) (iC Yg) ((br (iA Yg) (iC Yg)).getD ((↑x3:Int).toNat) (0:Int))).1).1))∧(au (((aQ (iA Yg) (iC Yg) ((br (iA Yg) (iC Yg)).getD ((↑x3:Int).toNat) (0:Int))).1).2)))∧True)∧(ac ((aQ (iA Yg) (iC Yg) ((br (iA Yg) (iC Yg)).getD ((↑x3:Int).toNat) (0:Int))).2 != (0:Int)) ((false=true)∧True) (ac ((if aK (((aQ (iA Yg) (iC Yg) ((br (iA Yg) (iC Yg)).getD ((↑x3:Int).toNat) (0:Int))).1).1) (((aQ (iA Yg) (iC Yg) ((br (iA Yg) (iC Yg)).getD ((↑x3:Int).toNat) (0:Int))).1).2)=true then (0:Int) else (1:Int)) != (0:Int)) ((false=true)∧True) ((aa (↑x3:Int) ((br (iA Yg) (iC Yg)).length))∧(((IntKind.i64=IntKind.i64)∧((((0:Int)≤(br (iA Yg) (iC Yg)).getD ((↑x3:Int).toNat) (0:Int))∧((br (iA Yg) (iC Yg)).getD ((↑x3:Int).toNat) (0:Int)≤(9223372036854775807:Int)))∧(((0:Int)≤(dL (iA Yg) (iC Yg)).1) ∧
 ((dL (iA Yg) (iC Yg)).1≤(9223372036854775807:Int)))))∧(ac (!(aK (((aQ (iA Yg) (iC Yg) ((br (iA Yg) (iC Yg)).getD ((↑x3:Int).toNat) (0:Int))).1).1) (((aQ (iA Yg) (iC Yg) ((br (iA Yg) (iC Yg)).getD ((↑x3:Int).toNat) (0:Int))).1).2)&&decide (((aQ (iA Yg) (iC Yg) ((br (iA Yg) (iC Yg)).getD ((↑x3:Int).toNat) (0:Int))).1).1=((aQ (iA Yg) (iC Yg) ((br (iA Yg) (iC Yg)).getD ((↑x3:Int).toNat) (0:Int))).1).2)) == ((↑(((br (iA Yg) (iC Yg)).getD ((↑x3:Int).toNat) (0:Int)).toNat &&& ((dL (iA Yg) (iC Yg)).1).toNat):Int) == (dL (iA Yg) (iC Yg)).1)) ((false=true)∧True) ((ab ((↑x3:Int)+(1:Int)))∧(∃x4:Nat,((x4≤(br (iA Yg) (iC Yg)).length)∧(((br (iA Yg) (iC Yg)).length - x4<(br (iA Yg) (iC Yg)).length - x3)∧((iS Yg=iS Yg)∧(((dD Yg).2=(dD Yg).2)∧(((eX Yg).1=(eX Yg).1)∧(((eX Yg).2=(eX Yg).2)∧(((dL (iA Yg) (iC Yg)).1=(dL (iA Yg) (iC Yg)).1)∧(((↑x3:Int)+(1:Int)=(↑x4:Int))∧((iC Yg=iC Yg)∧((iA Yg=iA Yg)∧((((dD Yg).1).1=((dD Yg).1).1)∧((((dD Yg).1).2=((dD Yg).1).2)∧((br (iA Yg) (iC Yg)=br (iA Yg) (iC Yg))∧((dk (iA Yg) (iC Yg)=dk (iA Yg) (iC Yg))∧(eK (iA Yg) (iC Yg)=eK (iA Yg) (iC Yg))))))))))))))))))))))))))))) ((∃x5:Nat,((x5≤(dk (iA Yg) (iC Yg)).length)∧((iS Yg=iS Yg)∧(((dD Yg).2=(dD Yg).2) ∧
 (((eX Yg).1=(eX Yg).1)∧(((eX Yg).2=(eX Yg).2)∧(((0:Int)=(↑x5:Int))∧((iC Yg=iC Yg)∧((iA Yg=iA Yg)∧((((dD Yg).1).1=((dD Yg).1).1)∧((((dD Yg).1).2=((dD Yg).1).2)∧((br (iA Yg) (iC Yg)=br (iA Yg) (iC Yg))∧((dk (iA Yg) (iC Yg)=dk (iA Yg) (iC Yg))∧(eK (iA Yg) (iC Yg)=eK (iA Yg) (iC Yg)))))))))))))))∧(∀x6:Nat,((x6≤(dk (iA Yg) (iC Yg)).length)→(ac (decide ((↑x6:Int)<(↑((dk (iA Yg) (iC Yg)).length):Int))) ((aa (↑x6:Int) ((dk (iA Yg) (iC Yg)).length))∧((((eK (iA Yg) (iC Yg)).length≤(1099511627776:Nat))∧True)∧(ac (!List.any (eK (iA Yg) (iC Yg)) fun (y:Int)=>decide (y=(dk (iA Yg) (iC Yg)).getD ((↑x6:Int).toNat) (0:Int))) ((false=true)∧True) ((ab ((↑x6:Int)+(1:Int)))∧(∃x7:Nat,((x7≤(dk (iA Yg) (iC Yg)).length)∧(((dk (iA Yg) (iC Yg)).length - x7<(dk (iA Yg) (iC Yg)).length - x6)∧((iS Yg=iS Yg)∧(((dD Yg).2=(dD Yg).2)∧(((eX Yg).1=(eX Yg).1)∧(((eX Yg).2=(eX Yg).2)∧(((↑x6:Int)+(1:Int)=(↑x7:Int))∧((iC Yg=iC Yg)∧((iA Yg=iA Yg)∧((((dD Yg).1).1=((dD Yg).1).1)∧((((dD Yg).1).2=((dD Yg).1).2)∧((br (iA Yg) (iC Yg)=br (iA Yg) (iC Yg))∧((dk (iA Yg) (iC Yg)=dk (iA Yg) (iC Yg))∧(eK (iA Yg) (iC Yg)=eK (iA Yg) (iC Yg))))))))))))))))))))
 (ac ((cu (iA Yg) (iC Yg) (iS Yg)).2 == (0:Int)) ((((br (iA Yg) (iC Yg)).length≤(1099511627776:Nat))∧True)∧(ac (!(cu (iA Yg) (iC Yg) (iS Yg)).1 == List.any (br (iA Yg) (iC Yg)) fun (y:Int)=>decide (y=iS Yg)) ((false=true)∧True) (Ev Yg))) (Ev Yg)))))))))))))))))))))))))))))))))))))))))))))
theorem Wb (Yg:List Int):aC Tryz.prog (af LI) ah (LH Yg) Tryz.f5 (aE Tryz.f5) [] [.c (.ints .u8 (Yg))] (wA Yg)=Ew Yg:=by kernel_rfl
theorem Wc (Yg:List Int) (Yh:(wA Yg).pre):Ew Yg:=by
 simp only [wA,Ew,Ev,Eu,dD,dP,eX,mH,aG,u1,u2,u3,u4,u5,u6,u7,u8,u9,v1,v2,v3,v4,v5,v6,v7,v8,v9,w1,w2,w3,w4,aH,aa,ab,ae,ar] at Yh ⊢;refine ⟨fun _=>trivial,fun hc=>?_⟩
 obtain ⟨r1,r2,r3⟩:=Rc Yh;have e1:(aA Yg).1=iA Yg:=rfl
 have e2:(aA Yg).2.1=iC Yg:=rfl
 have e3:dj Yg (aA Yg)=iS Yg:=rfl
 rw [e1] at r1 r3;rw [e2] at r2;rw [e3,e1,e2];generalize iA Yg=a at *
 generalize iC Yg=c at *
 generalize iS Yg=s at *
 have rq:=fun t=>T3 a c t
 refine ⟨⟨Yh,by omega⟩,⟨r1,r2⟩,⟨r1,r2⟩,fun h=>absurd rfl h,fun _=>⟨⟨(rq s).1.1,(rq s).2.1⟩,fun h=>absurd trivial h,fun _=>⟨⟨r1,r2⟩,⟨r1,r2⟩,fun h=>absurd rfl h,fun _=>⟨fun h=>absurd rfl h,fun _=>⟨⟨r1,r2⟩,fun y=>?_,fun y=>⟨⟨r1,r2⟩,⟨r1,r2⟩,⟨r1,r2⟩,⟨r1,r2⟩,⟨r1,r2⟩,⟨r1,r2⟩,⟨r1,r2⟩,⟨⟨r1,r2⟩,?_⟩,fun _ _=>?_⟩⟩⟩⟩⟩⟩
 ·have z:cR a c s=1:=by rw [cR,if_neg (by rw [y];decide)]
  rw [aQ,if_neg (by rw [z];decide)];exact z
 ·refine ⟨⟨⟩,y,?_⟩
  simp [y,dL,i9,br,dk,eK,oq]
  rfl
 ·have B:=Cr y
  have li:(br a c).length≤2048:=Es B (aR a c)
  have ll:(dk a c).length≤2048:=Es B (ig a c)
  have ls:(eK a c).length≤2048:=Es B (gt a c)
  have si:(dL a c).1=iD a c:=by rw [dL,if_pos y]
  have m1:=Rq B
  have m2:=Rr B
  have m3:=RA B
  have m4:=Ru B
  have ks:=gv (AO B)
  have kn:=gv (AK B)
  have ko:=gv (Cq B.1 c)
  rw [si];have no:∀{l:List Int} {x:Int},x∈l→(l.any fun y=>decide (y=x))=false→false=true:=fun m h=>by rw [V4 m] at h;cases h
  have T:(aQ a c s).2=0→(au (aQ a c s).1.1∧au (aQ a c s).1.2)∧(aK (aQ a c s).1.1 (aQ a c s).1.2=true→(0≤s∧s<4096)∧(-9223372036854775808≤((aQ a c s).1.1.length:Int) * iw s∧((aQ a c s).1.1.length:Int) * iw s≤9223372036854775807)∧((aQ a c s).1.1.length:Int) * iw s=(a.length:Int)) ∧
    (aK (aQ a c s).1.1 (aQ a c s).1.2=false→false=true):=fun h=>by
   obtain ⟨t1,t2,t3⟩:=Wa B h;exact ⟨⟨(rq s).1.1,(rq s).2.1⟩,fun _=>⟨t2,by rw [t3];omega,t3⟩,fun h=>by rw [t1] at h;cases h⟩
  have G:((aQ a c s).2≠0→True):=fun _=>trivial
  refine ⟨by omega,no m1,fun _=>⟨by omega,no m2,fun _=>⟨by omega,no m3,fun _=>⟨by omega,fun n=>absurd (Rs B) n,fun _=>⟨by omega,no m4,fun _=>⟨fun n=>absurd (V6 B) n,fun _=>⟨⟨0,by omega,rfl⟩,fun i hi=>⟨fun h=>?_,fun h=>⟨⟨0,by omega,rfl⟩,fun j hj=>⟨fun h2=>?_,fun h2=>?_⟩⟩⟩⟩⟩⟩⟩⟩⟩⟩
  ·have mx:=cE (br a c) 0 i (by omega)
   have q:=LG B mx
   obtain ⟨S,_,I⟩:=iq B mx;have kx:=gv S
   have bq:=pP (tM B I)
   have r:=rq ((br a c).getD i 0)
   have tv:=RE B mx
   have lf:=Rv B mx
   have bq':aK (aQ a c ((br a c).getD i 0)).1.1 (aQ a c ((br a c).getD i 0)).1.2=true:=by rw [q];exact bq
   have q2:(aQ a c ((br a c).getD i 0)).2=0:=by rw [q]
   refine ⟨by omega,by omega,no lf,fun _=>⟨by omega,⟨r1,r2⟩,⟨r.1.1,r.2.1⟩,fun n=>absurd q2 n,fun _=>⟨fun n=>absurd (if_pos bq') n,fun _=>⟨by omega,by omega,fun n=>absurd ?_ n,fun _=>⟨by omega,i+1,by omega,by omega,by omega⟩⟩⟩⟩⟩
   rw [bq',Bool.true_and,Bool.eq_iff_iff,decide_eq_true_eq,beq_iff_eq,q];exact tv
  ·have mx:=Rw B (cE (dk a c) 0 j (by omega))
   exact ⟨by omega,by omega,no mx,fun _=>⟨by omega,j+1,by omega,by omega,by omega⟩⟩
  ·have D:=fun (h:(cu a c s).2=0)=>V8 B h
   exact ⟨fun h=>⟨by omega,fun n=>absurd (D h).1 n,fun _=>⟨fun h=>⟨fun n=>absurd (D h).2 n,fun _=>⟨G,T⟩⟩,fun _=>⟨G,T⟩⟩⟩,fun _=>⟨fun h=>⟨fun n=>absurd (D h).2 n,fun _=>⟨G,T⟩⟩,fun _=>⟨G,T⟩⟩⟩
theorem Wd:Fits Tryz.prog 5 ⟨[],Et⟩:=by
 refine aJ (Γ:=af LI) (aj Ug (aj Rb (aj T7 (aj Ua (aj Uy (aj PJ (aj PN (aj V3 (aj Up (aj PQ (aj UN (aj RU (aj PW (aj P2 (aj P8 (aj Qb (aj Qe (aj Us (aj iZ (aj UB aF)))))))))))))))))))) Tryz.func5 fun ds p h hp=>?_
 unfold Et at h;split at h
 ·cases h
  exact ⟨ah,LH _ ,by rw [Wb];exact Wc _  hp⟩
 ·cases h
end Go.Sx
end
section
namespace Go.Proofs.YtcdmndagoafcgaaGreat
theorem mI {x y:Bool} (h:x=true) (k:y=true):(x&&y)=true:=by rw [h,k];rfl
set_option maxRecDepth 10000000 in
def wB:{ l:List Char // Tryz.prog.initOrder=String.ofList l }:=⟨_,rfl⟩
theorem We:Tryz.prog.initOrder.toList=wB.1:=(congrArg String.toList wB.2).trans String.toList_ofList
theorem wD:∃rest,behindMainWord (wordsSigns Tryz.prog.initOrder.toList)=['c','u','t']::rest:=by
 rw [We];have h:(behindMainWord (wordsSigns wB.1)).head?=some ['c','u','t']:=by kernel_rfl
 cases hb:behindMainWord (wordsSigns wB.1) with
 | nil=>rw [hb] at h;cases h
 | cons x y=>rw [hb] at h;cases h;exact ⟨y,rfl⟩
theorem LJ (rest:List (List Char)):stripLifts liftWords (['c','u','t']::rest)=([],['c','u','t']::rest):=by rfl
theorem Wf:Tryz.prog.headLifts=[]:=by
 obtain ⟨rest,h⟩:=wD;unfold Program.headLifts;rw [h,LJ];rfl
theorem Wg:Tryz.prog.laysLater=false:=by kernel_rfl
theorem Wh:Tryz.prog.bearsReflect=false:=by kernel_rfl
theorem Wi:Tryz.prog.doorRows=[]:=by kernel_rfl
theorem Wj:Tryz.prog.doorFits []=true:=by
 unfold Program.doorFits;rw [Wi];rfl
theorem Wk (P:Program) (rest:List (List Char)) (h:behindMainWord (wordsSigns P.initOrder.toList)=['c','u','t']::rest) (h1:P.laysLater=false) (h2:P.bearsReflect=false) (h3:P.doorFits []=true):P.mayEnter=true:=by
 unfold Program.mayEnter;rw [h];simp only [LJ,h1,h2,h3];simp
theorem Wl (P:Program) (rest:List (List Char)) (h:behindMainWord (wordsSigns P.initOrder.toList)=['c','u','t']::rest) (h1:P.headLifts=[]):(false == P.liftsFinal)=true:=by
 unfold Program.liftsFinal;rw [h,h1];rfl
theorem Wm (P:Program) (rest:List (List Char)) (h:behindMainWord (wordsSigns P.initOrder.toList)=['c','u','t']::rest):(P.make == some Make.cut)=true:=by
 have e1:(['c','u','t'] == "gc".toList)=false:=rfl
 have e2:(['c','u','t'] == "spec".toList)=false:=rfl
 have e3:(['c','u','t'] == "cut".toList)=true:=rfl
 unfold Program.make;rw [h];simp only [e1,e2,e3,Bool.or_false,Bool.true_or,Bool.false_eq_true,if_true,if_false];rfl
theorem Wn:Tryz.prog.mayEnter=true:=by
 obtain ⟨rest,h⟩:=wD;exact Wk _ rest h Wg Wh Wj
theorem Wo:(false == Tryz.prog.liftsFinal)=true:=by
 obtain ⟨rest,h⟩:=wD;exact Wl _ rest h Wf
theorem Wp:(Tryz.prog.make == some Make.cut)=true:=by
 obtain ⟨rest,h⟩:=wD;exact Wm _ rest h
end Go.Proofs.YtcdmndagoafcgaaGreat
end
section
namespace Go.Sx
set_option linter.unusedSimpArgs false
set_option linter.unusedVariables false
open Go.ChangeShapes Go.WideShapes Go.ChangeAt Go.RowKit Go.ChangeMaps Go.Deep
section
variable {H:Type} {enc:TypeId×Value→H} {P:Program} {W:World}
def LK (P:Program) (W:World) (t:TypeId) (v:Value) (d:FC):Prop:=v.oneCell'=true∧bw W v d
theorem wf_u8' {n:Int} (h:(Lit.int .u8 n).wf=true):0≤n∧n≤255:=by
 simp only [Lit.wf,Bool.and_eq_true,decide_eq_true_eq] at h;exact h
theorem Wq {t e:TypeId} {fuel:Nat} {v:Value} {x:DataW H×List MemPlace} (ht:P.underlying t=some (.slice e)) (he:P.underlying e=some (.int .u8)) (hc:P.cellsOf e=1)
  (h:DataW.trod enc P W 0 (fun _=>true) true fuel t [v]=some x):∃l:List Int,l.length≤maxLen∧(∀n∈l,0≤n∧n≤255)∧LK P W t v (.ints .u8 l):=by
 rcases open_ints ht he hc h with ⟨h1,_⟩ | ⟨a,len,cap,zs,h1,_,hl,hm,hz,_,hcell,hw⟩
 ·simp only [List.cons.injEq,and_true] at h1
  subst h1;exact ⟨[],Nat.zero_le _,by simp,rfl,none,0,rfl,Nat.le_refl _,fun h=>by simp at h⟩
 ·simp only [List.cons.injEq,and_true] at h1
  subst h1;simp only [if_true] at hz;have hlen:(zs.take len).length=len:=by simp;omega
  refine ⟨zs.take len,by rw [hlen];omega,fun n hn=>wf_u8' (hw n (List.mem_of_mem_take hn)),rfl,some a,cap,by rw [hlen],by rw [hlen];exact hl,fun hpos=>?_⟩
  rw [hlen] at hpos;obtain ⟨b,off,spot⟩:=a;have hs:spot=none:=by simpa [Addr.add] using World.cell?_spot (hcell 0 (by omega))
  subst hs;refine ⟨b,off,rfl,fun i hi=>?_⟩
  rw [hlen] at hi;refine ⟨_,by rw [←add_plain];exact hcell i (by omega),?_⟩
  simp [List.getD_eq_getElem?_getD,List.getElem?_take,hi]
theorem Wr {t:TypeId} {v:Value} {d:FC} (h:LK P W t v d) (i:Nat):cD P W [] [] [] i (.c d) v:=⟨h.1,h.2⟩
theorem Ws {t:TypeId} {v:Value} {d:DataW H} {p:List MemPlace} (h1:v.cells.toList=[v]) (h:DataW.Trod enc P W 0 (fun _=>true) true t v d p):∃n,DataW.trod enc P W 0 (fun _=>true) true n t [v]=some (d,p):=by
 obtain ⟨n,hn⟩:=h;exact ⟨n,by rw [←h1];exact hn⟩
theorem LL (hl:laidOutB P=true) {W':World} (hb:Below W.heap.size W W'):∀{ts:List TypeId} {vs:List Value} {ds:List (DataW H)} {p:List MemPlace},(∀t∈ts,P.readableRec t=true∧t<P.types.size) →
  DataW.TrodAll enc P W 0 (fun _=>true) true ts vs ds p→(∀x∈p,x.block<W.heap.size)→DataW.TrodAll enc P W' 0 (fun b=>decide (b<W.heap.size)) true ts vs ds p
 | [],[],[],p,_,h,_=>h
 | t::ts,v::vs,d::ds,p,ht,h,hlt=>by
  obtain ⟨p1,p2,h1,h2,rfl⟩:=h;exact ⟨p1,p2,Below.trod hl (ht t (by simp)).1 (ht t (by simp)).2 h1 hb (fun x hx=>hlt x (by simp [hx])),LL hl hb (fun t' h'=>ht t' (by simp [h'])) h2 (fun x hx=>hlt x (by simp [hx])),rfl⟩
 | [],[],_::_,_,_,h,_=>h.elim
 | [],_::_,[],_,_,h,_=>h.elim
 | [],_::_,_::_,_,_,h,_=>h.elim
 | _::_,[],[],_,_,h,_=>h.elim
 | _::_,[],_::_,_,_,h,_=>h.elim
 | _::_,_::_,[],_,_,h,_=>h.elim
theorem LM {W:World} {base:Nat} {sp:Nat→Bool} {hd:Bool}:∀{ts:List TypeId} {vs:List Value} {ds:List (DataW H)} {p:List MemPlace},DataW.TrodAll enc P W base sp hd ts vs ds p→vs.length=ts.length∧ds.length=ts.length
 | [],[],[],_,_=>⟨rfl,rfl⟩
 | t::ts,v::vs,d::ds,p,h=>by
  obtain ⟨p1,p2,_,h2,_⟩:=h;have:=LM h2
  simp [this.1,this.2]
 | [],[],_::_,_,h=>h.elim
 | [],_::_,[],_,h=>h.elim
 | [],_::_,_::_,_,h=>h.elim
 | _::_,[],[],_,h=>h.elim
 | _::_,[],_::_,_,h=>h.elim
 | _::_,_::_,[],_,h=>h.elim
end
theorem Wt {C:Checked} {os:Os} {H:Type} {enc:TypeId×Value→H} {f:FuncId} {fn:Func} {s:ChangeSpec} {conds:List PathCond} {lF handsOn:Bool} {tb:TypeId}
  (own:ownKnob C.prog.godebug=none) (started:os.Started) (noInit:C.prog.inits.idxOf? f=none) (hfn:C.prog.funcs[f]?=some fn) (hlaid:laidOutB C.prog=true)
  (hvars:s.vars=[]) (hrd:∀t∈fn.params.toList,C.prog.readableRec t=true∧t<C.prog.types.size) (hres:fn.resultTypes=#[tb]) (htb:C.prog.underlying tb=some .bool)
  (hspec:∀ds:List (DataW H),ds.length=fn.params.toList.length→s.fn H ds={ results:=[.lit (.bool true)],args:=ds,vars:=[] })
  (witness:∃(w:World) (tape:Tape) (i:Input),w.os=os∧(w.forCall tape i).Shaped C.prog∧i.vars=[]∧Input.okWide C.prog (w.forCall tape i) .any w.heap.size f i ∧
   s.pre6 enc C.prog fn conds false (w.forCall tape i).memory i.args∧({}:Assume).holds C.prog (lone (Frame.enter C.prog f i.args .normal) [] (w.forCall tape i)))
  {ct:List AD→Option Post} (fits:Fits C.prog f ⟨[],ct⟩)
  (hopen:∀(W:World) (base:Nat) (vs:List Value) (ds:List (DataW H)) (p:List MemPlace),DataW.TrodAll enc C.prog W 0 (fun _=>true) true fn.params.toList vs ds p →
   (∀(j:Nat) t v,fn.params[j]?=some t→vs[j]?=some v→Value.okWide C.prog W .any base t v) →
   ∃(ads:List AD) (pre:Prop),ct ads=some ⟨pre,.c (.bool true),[]⟩∧pre∧vs.length=ads.length∧∀(i:Nat) (d:AD),ads[i]?=some d→∃v,vs[i]?=some v∧cD C.prog W [] [] [] i d v) :
  ReturnsInHanded {} C os f .any (s.pre6 enc C.prog fn conds false) (s.post enc C.prog fn false lF handsOn false):=by
 refine returnsInHanded_of_change own started noInit hfn witness ?_
 intro W base args ds gs before hval hW _ _
 have hW':=hW
 obtain ⟨p,q,hA,hV,rfl,hfz,hnd⟩:=hW;rw [hvars] at hV;obtain ⟨rfl,rfl⟩:=trodVars_none hV;obtain ⟨ads,pre,h1,h2,h3,h4⟩:=hopen W base args.toList ds p hA (fun j t v ht hv=>hval j t v ht (by simpa using hv))
 have hrun:=fits.run W W args.toList ads _ [] [] h1 h2 h3 rfl rfl rfl (by simp) (by simp) (by simp) (fun q u hq=>⟨hq,by simp⟩) h4
 refine hrun.mono fun e W' ⟨v,ms',img,wG,he,haft,hms,_,_,hret⟩=>?_
 subst he;have hv:v=.bool true:=hret.val
 subst hv;have hB:Below W.heap.size W W':=haft.below
 have hlt:∀x∈p,x.block<W.heap.size:=fun x hx=>by simpa using hW'.lt x (by simp [hx])
 have hsp:=hspec ds (LM hA).2
 refine ⟨_,rfl,ds,[],p++[],[],p,[],hW',?_,?_,?_,hB.frame _,fun h=>by cases h⟩
 ·rw [List.append_nil,hsp,hres]
  exact trodAll_cons_mk (shut_bool htb _) trodAll_mk0
 ·rw [List.append_nil,hsp]
  exact LL hlaid hB hrd hA hlt
 ·rw [List.append_nil,hsp,hvars]
  rfl
end Go.Sx
end
