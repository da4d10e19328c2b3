/- GrpC -/
import Derived.Test.YtcdmndagoafcgaaGreatGrp
open Go Go.Proofs
namespace Go.Sx
set_option linter.unusedSimpArgs false
set_option linter.unusedVariables false
def sw (l:List Int) (x:Int):Post:=⟨l.length≤1099511627776,.c (.int .i64 (bo x l 0)),[]⟩
def sA:List AD→Option Post
 | [.c (.ints .i64 (l)),.c (.int .i64 (x))]=>some (sw l x)
 | _=>none
def Hk (l:List Int) (x:Int):Nat→Option Ann
 | 0=>some (Ann.mk ((Nat)) (fun i=>⟨[(0,.c (.ro (.ints .i64 (l)))),(1,.c (.int .i64 (x))),(6,.c (.ro (.ints .i64 (l)))),(7,.c (.int .i64 ((l.length:Int)))),(8,.c (.int .i64 ((i:Int))))],[]⟩) (fun i=>i≤l.length∧bo x l 0=bo x (l.drop i) (i:Int)) (fun i=>l.length - i) (fun _=>am))
 | _=>none
def Hl:List (Nat×Ctr):=[]
def zo (l:List Int) (x:Int):Prop :=
 ((∃x0:Nat,(((x0≤l.length)∧(bo x l (0:Int)=bo x (List.drop x0 l) (↑x0:Int)))∧((l=l)∧((x=x)∧((l=l)∧(((↑(l.length):Int)=(↑(l.length):Int))∧((0:Int)=(↑x0:Int))))))))∧(∀x1:Nat,(((x1≤l.length)∧(bo x l (0:Int)=bo x (List.drop x1 l) (↑x1:Int)))→(ac (decide ((↑x1:Int)<(↑(l.length):Int))) ((aa (↑x1:Int) (l.length))∧(ac (x == l.getD ((↑x1:Int).toNat) (0:Int)) (((↑x1:Int)=bo x l (0:Int))∧True) ((ab ((↑x1:Int)+(1:Int)))∧(∃x2:Nat,(((x2≤l.length)∧(bo x l (0:Int)=bo x (List.drop x2 l) (↑x2:Int)))∧((l.length - x2<l.length - x1)∧((l=l)∧((x=x)∧((l=l)∧(((↑(l.length):Int)=(↑(l.length):Int))∧((↑x1:Int)+(1:Int)=(↑x2:Int)))))))))))) (((-1:Int)=bo x l (0:Int))∧True)))))
theorem Pr (l:List Int) (x:Int):aC Tryz.prog (af Hl) ah (Hk l x) Tryz.f218 (aE Tryz.f218) [] [.c (.ints .i64 (l)),.c (.int .i64 (x))] (sw l x)=zo l x:=by kernel_rfl
theorem Ps (l:List Int) (x:Int) (Yh:(sw l x).pre):zo l x:=by
 simp only [sw,zo,aG,u1,u2,u3,u4,u5,u6,u7,u8,u9,v1,v2,v3,v4,v5,v6,v7,v8,v9,w1,w2,w3,w4,aH,aa,ab,ae,ar] at Yh ⊢;refine ⟨⟨0,⟨by omega,rfl⟩,rfl⟩,fun i ⟨hi,he⟩=>⟨fun h=>?_,fun h=>?_⟩⟩
 ·rw [drop_cons' l 0 i (by omega)] at he
  simp only [bo] at he;refine ⟨by omega,fun h2=>?_,fun h2=>⟨by omega,i+1,⟨by omega,?_⟩,by omega,by omega⟩⟩
  ·rw [he,if_pos h2.symm]
  ·rw [he,if_neg fun e=>h2 e.symm];simp
 ·rw [he,List.drop_of_length_le (by omega)];rfl
theorem Hm:Fits Tryz.prog 218 ⟨[],sA⟩:=by
 refine aJ (Γ:=af Hl) aF Tryz.func218 fun ds p h hp=>?_
 unfold sA at h;split at h
 ·cases h
  exact ⟨ah,Hk _ _ ,by rw [Pr];exact Ps _ _  hp⟩
 ·cases h
def sB (l:List Int) (x:Int):Post:=⟨l.length≤1099511627776,.c (.int .i64 (bo x l 0)),[]⟩
def zp:List AD→Option Post
 | [.c (.ints .i64 (l)),.c (.int .i64 (x))]=>some (sB l x)
 | _=>none
def Hn:List (Nat×Ctr):=[(218,⟨[],sA⟩)]
def zq (l:List Int) (x:Int):Prop :=
 (((l.length≤(1099511627776:Nat))∧True)∧((bo x l (0:Int)=bo x l (0:Int))∧True))
theorem Pt (l:List Int) (x:Int):aC Tryz.prog (af Hn) ah am Tryz.f195 (aE Tryz.f195) [] [.c (.ints .i64 (l)),.c (.int .i64 (x))] (sB l x)=zq l x:=by kernel_rfl
theorem Pu (l:List Int) (x:Int) (Yh:(sB l x).pre):zq l x:=by
 simp only [sB,zq,aG,u1,u2,u3,u4,u5,u6,u7,u8,u9,v1,v2,v3,v4,v5,v6,v7,v8,v9,w1,w2,w3,w4,aH,aa,ab,ae,ar] at Yh ⊢;exact Yh
theorem Pv:Fits Tryz.prog 195 ⟨[],zp⟩:=by
 refine aJ (Γ:=af Hn) (aj Hm aF) Tryz.func195 fun ds p h hp=>?_
 unfold zp at h;split at h
 ·cases h
  exact ⟨ah,am,by rw [Pt];exact Pu _ _  hp⟩
 ·cases h
def sC (t:List (List Int)):Post:=⟨aW t=true,.c (.ints 2 .i64 (bH t)),[]⟩
def nz:List AD→Option Post
 | [.c (.rows .i64 (t))]=>some (sC t)
 | _=>none
def Ho (t:List (List Int)):Nat→Option Ann
 | 0=>some (Ann.mk ((Nat)) (fun i=>⟨[(0,.c (.ro (.rows .i64 (t)))),(3,.c (.own (8))),(9,.c (.ro (.rows .i64 (t)))),(10,.c (.int .i64 ((t.length:Int)))),(11,.c (.int .i64 ((i:Int))))],[(8,some (.ints 2 .i64 ((bH t).take i++List.replicate ((bH t).length - i) 0)))]⟩) (fun i=>i≤t.length) (fun i=>t.length - i) (fun _=>am))
 | _=>none
def Hp:List (Nat×Ctr):=[(195,⟨[],zp⟩)]
def zr (t:List (List Int)):Prop :=
 ((((0:Int)≤(↑(t.length):Int))∧(((↑(t.length):Int)≤(↑(t.length):Int))∧(ae ((↑(t.length):Int).toNat))))∧((∃x0:Nat,((x0≤t.length)∧((t=t)∧((t=t)∧(((↑(t.length):Int)=(↑(t.length):Int))∧(((0:Int)=(↑x0:Int))∧(List.replicate ((↑(t.length):Int).toNat) (0:Int)=List.take x0 (bH t)++List.replicate ((bH t).length - x0) (0:Int))))))))∧(∀x1:Nat,((x1≤t.length)→(ac (decide ((↑x1:Int)<(↑(t.length):Int))) ((aa (↑x1:Int) (t.length))∧((((t.getD ((↑x1:Int).toNat) []).length≤(1099511627776:Nat))∧True)∧((aa (↑x1:Int) ((List.take x1 (bH t)++List.replicate ((bH t).length - x1) (0:Int)).length))∧((ab ((↑x1:Int)+(1:Int)))∧(∃x2:Nat,((x2≤t.length)∧((t.length - x2<t.length - x1)∧((t=t)∧((t=t)∧(((↑(t.length):Int)=(↑(t.length):Int))∧(((↑x1:Int)+(1:Int)=(↑x2:Int))∧(List.set (List.take x1 (bH t)++List.replicate ((bH t).length - x1) (0:Int)) ((↑x1:Int).toNat) (bo (0:Int) (t.getD ((↑x1:Int).toNat) []) (0:Int))=List.take x2 (bH t)++List.replicate ((bH t).length - x2) (0:Int))))))))))))) ((List.take x1 (bH t)++List.replicate ((bH t).length - x1) (0:Int)=bH t)∧True))))))
theorem Pw (t:List (List Int)):aC Tryz.prog (af Hp) ah (Ho t) Tryz.f144 (aE Tryz.f144) [] [.c (.rows .i64 (t))] (sC t)=zr t:=by kernel_rfl
theorem Px (t:List (List Int)) (Yh:(sC t).pre):zr t:=by
 simp only [sC,zr,aG,u1,u2,u3,u4,u5,u6,u7,u8,u9,v1,v2,v3,v4,v5,v6,v7,v8,v9,w1,w2,w3,w4,aH,aa,ab,ae,ar] at Yh ⊢;obtain ⟨n1,n2,ht⟩:=bA Yh;have hl:=o5 t
 rw [hl];refine ⟨by omega,⟨0,by omega,rfl,by simp⟩,fun i hi=>⟨fun h=>?_,fun h=>?_⟩⟩
 ·have r:=ht i (by omega)
  have e:=o6 t i (by omega)
  refine ⟨by omega,by omega,by omega,by omega,i+1,by omega,by omega,by omega,?_⟩
  have:=Fp (bH t) 0 0 i (by omega)
  rw [hl,e] at this;exact this
 ·rw [List.take_of_length_le (by omega),show t.length - i=0 by omega];simp
theorem sD:Fits Tryz.prog 144 ⟨[],nz⟩:=by
 refine aJ (Γ:=af Hp) (aj Pv aF) Tryz.func144 fun ds p h hp=>?_
 unfold nz at h;split at h
 ·cases h
  exact ⟨ah,Ho _ ,by rw [Pw];exact Px _  hp⟩
 ·cases h
def sE (t:List (List Int)) (x:Int):Post:=⟨aW t=true∧0≤x∧x≤(t.length:Int) - 1,.c (.int .i64 (bk t x.toNat)),[]⟩
def o8:List AD→Option Post
 | [.c (.rows .i64 (t)),.c (.int .i64 (x))]=>some (sE t x)
 | _=>none
def Hq:List (Nat×Ctr):=[(247,⟨[],pG⟩)]
def zt (t:List (List Int)) (x:Int):Prop :=
 ((aa x (t.length))∧((((t.getD (x.toNat) []).length≤(1099511627776:Nat))∧True)∧((bo (0:Int) (t.getD (x.toNat) []) (0:Int)=bk t (x.toNat))∧True)))
theorem Py (t:List (List Int)) (x:Int):aC Tryz.prog (af Hq) ah am Tryz.f193 (aE Tryz.f193) [] [.c (.rows .i64 (t)),.c (.int .i64 (x))] (sE t x)=zt t x:=by kernel_rfl
theorem Pz (t:List (List Int)) (x:Int) (Yh:(sE t x).pre):zt t x:=by
 simp only [sE,zt,aG,u1,u2,u3,u4,u5,u6,u7,u8,u9,v1,v2,v3,v4,v5,v6,v7,v8,v9,w1,w2,w3,w4,aH,aa,ab,ae,ar] at Yh ⊢;obtain ⟨h1,h2,h3⟩:=Yh;have r:=(bA h1).2.2 x.toNat (by omega)
 have:=(bA h1).2.1
 exact ⟨by omega,by omega,rfl⟩
theorem zu:Fits Tryz.prog 193 ⟨[],o8⟩:=by
 refine aJ (Γ:=af Hq) (aj Bk aF) Tryz.func193 fun ds p h hp=>?_
 unfold o8 at h;split at h
 ·cases h
  exact ⟨ah,am,by rw [Py];exact Pz _ _  hp⟩
 ·cases h
def sF (t:List (List Int)):Post:=⟨au t,.c (.bool (a9 t)),[]⟩
def zv:List AD→Option Post
 | [.c (.rows .i64 (t))]=>some (sF t)
 | _=>none
def Hr (t:List (List Int)):Nat→Option Ann
 | 0=>some (Ann.mk ((Nat)) (fun i=>⟨[(0,.c (.ro (.rows .i64 (t)))),(15,.c (.int .i64 ((t.length:Int)))),(16,.c (.int .i64 ((i:Int))))],[]⟩) (fun i=>i≤t.length∧aW t=true∧a9 t=(List.range' i (t.length - i)).all (f3 t)) (fun i=>t.length - i) (fun i=>fun b_=>match b_ with | 2=>some (Ann.mk ((Nat)) (fun j=>⟨[(0,.c (.ro (.rows .i64 (t)))),(15,.c (.int .i64 ((t.length:Int)))),(16,.c (.int .i64 ((i:Int)))),(3,.c (.int .i64 ((i:Int)))),(38,.c (.int .i64 ((t.length:Int)))),(39,.c (.int .i64 ((j:Int))))],[]⟩) (fun j=>j≤t.length∧i<t.length∧a9 t=((List.range' j (t.length - j)).all (gP t i)&&(List.range' (i+1) (t.length - (i+1))).all (f3 t))) (fun j=>t.length - j) (fun j=>fun b_=>match b_ with | 4=>some (Ann.mk ((Nat)) (fun k=>⟨[(0,.c (.ro (.rows .i64 (t)))),(15,.c (.int .i64 ((t.length:Int)))),(16,.c (.int .i64 ((i:Int)))),(3,.c (.int .i64 ((i:Int)))),(38,.c (.int .i64 ((t.length:Int)))),(39,.c (.int .i64 ((j:Int)))),(4,.c (.int .i64 ((j:Int)))),(43,.c (.int .i64 ((t.length:Int)))),(44,.c (.int .i64 ((k:Int))))],[]⟩) (fun k=>k≤t.length∧j<t.length∧a9 t=((List.range' k (t.length - k)).all (ju t i j)&&((List.range' (j+1) (t.length - (j+1))).all (gP t i)&&(List.range' (i+1) (t.length - (i+1))).all (f3 t)))) (fun k=>t.length - k) (fun _=>am)) | _=>none)) | _=>none))
 | _=>none
def Hs:List (Nat×Ctr):=[(184,⟨[],FG⟩),(185,⟨[],Bv⟩)]
def sG (t:List (List Int)) (x0:Nat) (x1:Nat) (x2:Nat):=(List.all (List.range' x0 (t.length - x0)) (ju t x1 x2)&&(List.all (List.range' (x2+(1:Nat)) (t.length - (x2+(1:Nat)))) (gP t x1)&&List.all (List.range' (x1+(1:Nat)) (t.length - (x1+(1:Nat)))) (f3 t)))
def sH (t:List (List Int)) (x0:Nat) (x1:Nat):=(List.all (List.range' x0 (t.length - x0)) (gP t x1)&&List.all (List.range' (x1+(1:Nat)) (t.length - (x1+(1:Nat)))) (f3 t))
def zw (t:List (List Int)):Prop :=
 (((au t)∧True)∧(ac (!aW t) ((false=a9 t)∧True) (((au t)∧True)∧(ac (!List.all t cW) ((false=a9 t)∧True) ((∃x0:Nat,(((x0≤t.length)∧((aW t=true)∧(a9 t=List.all (List.range' x0 (t.length - x0)) (f3 t))))∧((t=t)∧(((↑(t.length):Int)=(↑(t.length):Int))∧((0:Int)=(↑x0:Int))))))∧(∀x1:Nat,(((x1≤t.length)∧((aW t=true)∧(a9 t=List.all (List.range' x1 (t.length - x1)) (f3 t))))→(ac (decide ((↑x1:Int)<(↑(t.length):Int))) ((aa (0:Int) (t.length))∧((aa (↑x1:Int) ((t.getD (0:Nat) []).length))∧(ac ((List.getD t (0:Nat) []).getD ((↑x1:Int).toNat) (0:Int) != (↑x1:Int)) ((false=a9 t)∧True) ((aa (↑x1:Int) (t.length))∧((aa (0:Int) ((t.getD ((↑x1:Int).toNat) []).length))∧(ac ((List.getD t ((↑x1:Int).toNat) []).getD (0:Nat) (0:Int) != (↑x1:Int)) ((false=a9 t)∧True) ((∃x2:Nat,(((x2≤t.length)∧((x1<t.length)∧(a9 t=(sH t x2 x1))))∧((t=t)∧(((↑(t.length):Int)=(↑(t.length):Int))∧(((↑x1:Int)=(↑x1:Int))∧(((↑x1:Int)=(↑x1:Int))∧(((↑(t.length):Int)=(↑(t.length):Int))∧((0:Int)=(↑x2:Int)))))))))∧(∀x3:Nat,(((x3≤t.length)∧((x1<t.length)∧(a9 t=(sH t x3 x1))))→(ac (decide ((↑x3:Int)<(↑(t.length):Int))) ((∃x4:Nat,(((x4≤t.length)∧((x3<t.length)∧(a9 t=(sG t x4 x1 x3))))∧((t=t)∧(((↑(t.length):Int)=(↑(t.length):Int))∧(((↑x1:Int)=(↑x1:Int))∧(((↑x1:Int)=(↑x1:Int))∧(((↑(t.length):Int)=(↑(t.length):Int))∧(((↑x3:Int)=(↑x3:Int)) ∧
 (((↑x3:Int)=(↑x3:Int))∧(((↑(t.length):Int)=(↑(t.length):Int))∧((0:Int)=(↑x4:Int))))))))))))∧(∀x5:Nat,(((x5≤t.length)∧((x3<t.length)∧(a9 t=(sG t x5 x1 x3))))→(ac (decide ((↑x5:Int)<(↑(t.length):Int))) ((aa (↑x1:Int) (t.length))∧((aa (↑x3:Int) ((t.getD ((↑x1:Int).toNat) []).length))∧((aa ((List.getD t ((↑x1:Int).toNat) []).getD ((↑x3:Int).toNat) (0:Int)) (t.length))∧((aa (↑x5:Int) ((t.getD (((List.getD t ((↑x1:Int).toNat) []).getD ((↑x3:Int).toNat) (0:Int)).toNat) []).length))∧((aa (↑x1:Int) (t.length))∧((aa (↑x3:Int) (t.length))∧((aa (↑x5:Int) ((t.getD ((↑x3:Int).toNat) []).length))∧((aa ((List.getD t ((↑x3:Int).toNat) []).getD ((↑x5:Int).toNat) (0:Int)) ((t.getD ((↑x1:Int).toNat) []).length))∧(ac ((List.getD t ((List.getD (List.getD t ((↑x1:Int).toNat) []) ((↑x3:Int).toNat) (0:Int)).toNat) []).getD ((↑x5:Int).toNat) (0:Int) != (List.getD t ((↑x1:Int).toNat) []).getD (((List.getD t ((↑x3:Int).toNat) []).getD ((↑x5:Int).toNat) (0:Int)).toNat) (0:Int)) ((false=a9 t)∧True) ((ab ((↑x5:Int)+(1:Int)))∧(∃x6:Nat,(((x6≤t.length)∧((x3<t.length)∧(a9 t=(sG t x6 x1 x3))))∧((t.length - x6<t.length - x5)∧((t=t)∧(((↑(t.length):Int)=(↑(t.length):Int))∧(((↑x1:Int)=(↑x1:Int))∧(((↑x1:Int)=(↑x1:Int))∧(((↑(t.length):Int)=(↑(t.length):Int))∧(((↑x3:Int)=(↑x3:Int))∧(((↑x3:Int)=(↑x3:Int))∧(((↑(t.length):Int)=(↑(t.length):Int))∧((↑x5:Int)+(1:Int)=(↑x6:Int)))))))))))))))))))))))
 ((ab ((↑x3:Int)+(1:Int)))∧(∃x7:Nat,(((x7≤t.length)∧((x1<t.length)∧(a9 t=(sH t x7 x1))))∧((t.length - x7<t.length - x3)∧((t=t)∧(((↑(t.length):Int)=(↑(t.length):Int))∧(((↑x1:Int)=(↑x1:Int))∧(((↑x1:Int)=(↑x1:Int))∧(((↑(t.length):Int)=(↑(t.length):Int))∧((↑x3:Int)+(1:Int)=(↑x7:Int))))))))))))))) ((ab ((↑x1:Int)+(1:Int)))∧(∃x8:Nat,(((x8≤t.length)∧((aW t=true)∧(a9 t=List.all (List.range' x8 (t.length - x8)) (f3 t))))∧((t.length - x8<t.length - x1)∧((t=t)∧(((↑(t.length):Int)=(↑(t.length):Int))∧((↑x1:Int)+(1:Int)=(↑x8:Int)))))))))))))))))) ((true=a9 t)∧True)))))))))
theorem PA (t:List (List Int)):aC Tryz.prog (af Hs) ah (Hr t) Tryz.f130 (aE Tryz.f130) [] [.c (.rows .i64 (t))] (sF t)=zw t:=by kernel_rfl
theorem PB (t:List (List Int)) (Yh:(sF t).pre):zw t:=by
 simp only [sF,zw,sG,sH,aG,u1,u2,u3,u4,u5,u6,u7,u8,u9,v1,v2,v3,v4,v5,v6,v7,v8,v9,w1,w2,w3,w4,aH,aa,ab,ae,ar] at Yh ⊢;refine ⟨Yh,fun h=>by simp [a9,h],fun h1=>⟨Yh,fun h2=>by simp [a9,h2],fun h2=>⟨⟨0,⟨by omega,h1,by rw [a9,h1,h2,Bool.true_and,Bool.true_and,gO]⟩,rfl⟩,fun i ⟨hi,_,he⟩=>?_⟩⟩⟩
 obtain ⟨n1,n2,ht⟩:=bA h1;refine ⟨fun h3=>?_,fun h3=>by rw [he,gN _ (by omega)]⟩
 ·have r0:=ht 0 (by omega)
  have ri:=ht i (by omega)
  rw [gM _ (by omega)] at he
  refine ⟨by omega,by omega,fun h4=>?_,fun h4=>⟨by omega,by omega,fun h5=>?_,fun h5=>⟨⟨0,⟨by omega,by omega,?_⟩,rfl⟩,fun j ⟨hj,_,hy⟩=>⟨fun h6=>⟨⟨0,⟨by omega,by omega,?_⟩,rfl⟩,fun k ⟨hk,_,hz⟩=>⟨fun h7=>?_,fun h7=>?_⟩⟩,fun h6=>?_⟩⟩⟩⟩
  ·rw [he,f3,gQ,show decide (en t 0 i=(i:Int))=false from decide_eq_false h4];rfl
  ·rw [he,f3,gQ,show decide (en t i 0=(i:Int))=false from decide_eq_false h5];simp
  ·rw [he,f3,gQ,show decide (en t 0 i=(i:Int))=true from decide_eq_true h4,show decide (en t i 0=(i:Int))=true from decide_eq_true h5,lR,gO];rfl
  ·rw [hy,gM _ (by omega),gP,gO,Bool.and_assoc]
  ·have rj:=ht j (by omega)
   have a:=ri.2 j (by omega)
   have b:=rj.2 k (by omega)
   have rr:=ht ((t.getD i []).getD j 0).toNat (by omega)
   rw [gM _ (by omega)] at hz
   refine ⟨by omega,by omega,by omega,by omega,by omega,by omega,by omega,by omega,fun h8=>?_,fun h8=>⟨by omega,k+1,⟨by omega,by omega,?_⟩,by omega,by omega⟩⟩
   ·rw [hz,show ju t i j k=false from decide_eq_false h8];rfl
   ·rw [hz,show ju t i j k=true from decide_eq_true h8];rfl
  ·refine ⟨by omega,j+1,⟨by omega,by omega,?_⟩,by omega,by omega⟩
   rw [hz,gN _ (by omega),Bool.true_and]
  ·refine ⟨by omega,i+1,⟨by omega,h1,?_⟩,by omega,by omega⟩
   rw [hy,gN _ (by omega),Bool.true_and]
theorem PD:Fits Tryz.prog 130 ⟨[],zv⟩:=by
 refine aJ (Γ:=af Hs) (aj Yb (aj SI aF)) Tryz.func130 fun ds p h hp=>?_
 unfold zv at h;split at h
 ·cases h
  exact ⟨ah,Hr _ ,by rw [PA];exact PB _  hp⟩
 ·cases h
def sI (t:List (List Int)):Post:=⟨au t,.c (.bool (a9 t)),[]⟩
def zx:List AD→Option Post
 | [.c (.rows .i64 (t))]=>some (sI t)
 | _=>none
def Ht (t:List (List Int)):Nat→Option Ann
 | 0=>some (Ann.mk ((Nat)) (fun i=>⟨[(0,.c (.ro (.rows .i64 (t)))),(3,.c (.int .i64 ((i:Int))))],[]⟩) (fun i=>i≤t.length∧aW t=true∧a9 t=(List.range' i (t.length - i)).all (gq t)) (fun i=>t.length - i) (fun i=>fun b_=>match b_ with | 2=>some (Ann.mk ((Nat)) (fun j=>⟨[(0,.c (.ro (.rows .i64 (t)))),(3,.c (.int .i64 ((i:Int)))),(4,.c (.int .i64 ((j:Int))))],[]⟩) (fun j=>j≤t.length∧i<t.length∧a9 t=((List.range' j (t.length - j)).all (gP t i)&&(List.range' (i+1) (t.length - (i+1))).all (gq t))) (fun j=>t.length - j) (fun j=>fun b_=>match b_ with | 4=>some (Ann.mk ((Nat)) (fun k=>⟨[(0,.c (.ro (.rows .i64 (t)))),(3,.c (.int .i64 ((i:Int)))),(4,.c (.int .i64 ((j:Int)))),(5,.c (.int .i64 ((k:Int))))],[]⟩) (fun k=>k≤t.length∧j<t.length∧a9 t=((List.range' k (t.length - k)).all (ju t i j)&&((List.range' (j+1) (t.length - (j+1))).all (gP t i)&&(List.range' (i+1) (t.length - (i+1))).all (gq t)))) (fun k=>t.length - k) (fun _=>am)) | _=>none)) | _=>none))
 | _=>none
def Hu:List (Nat×Ctr):=[(180,⟨[],Fx⟩),(171,⟨[],Bo⟩)]
def sJ (t:List (List Int)) (x0:Nat) (x1:Nat) (x2:Nat):=(List.all (List.range' x0 (t.length - x0)) (ju t x1 x2)&&(List.all (List.range' (x2+(1:Nat)) (t.length - (x2+(1:Nat)))) (gP t x1)&&List.all (List.range' (x1+(1:Nat)) (t.length - (x1+(1:Nat)))) (gq t)))
def sK (t:List (List Int)) (x0:Nat) (x1:Nat):=(List.all (List.range' x0 (t.length - x0)) (gP t x1)&&List.all (List.range' (x1+(1:Nat)) (t.length - (x1+(1:Nat)))) (gq t))
def jX (t:List (List Int)) (x0:Nat):=(t.getD ((↑x0:Int).toNat) [])
def zy (t:List (List Int)):Prop :=
 (((au t)∧True)∧(ac (!aW t) ((false=a9 t)∧True) ((∃x0:Nat,(((x0≤t.length)∧((aW t=true)∧(a9 t=List.all (List.range' x0 (t.length - x0)) (gq t))))∧((t=t)∧((0:Int)=(↑x0:Int)))))∧(∀x1:Nat,(((x1≤t.length)∧((aW t=true)∧(a9 t=List.all (List.range' x1 (t.length - x1)) (gq t))))→(ac (decide ((↑x1:Int)<(↑(t.length):Int))) ((aa (0:Int) (t.length))∧((aa (↑x1:Int) ((t.getD (0:Nat) []).length))∧(ac ((List.getD t (0:Nat) []).getD ((↑x1:Int).toNat) (0:Int) != (↑x1:Int)) ((false=a9 t)∧True) ((aa (↑x1:Int) (t.length))∧((aa (0:Int) ((jX t x1).length))∧(ac ((List.getD t ((↑x1:Int).toNat) []).getD (0:Nat) (0:Int) != (↑x1:Int)) ((false=a9 t)∧True) ((aa (↑x1:Int) (t.length))∧((((jX t x1).length≤(1099511627776:Nat))∧True)∧(ac (!(decide ((1:Int)≤(↑((t.getD ((↑x1:Int).toNat) []).length):Int)∧(↑((t.getD ((↑x1:Int).toNat) []).length):Int)≤(12:Int))&&cW (t.getD ((↑x1:Int).toNat) []))) ((false=a9 t)∧True) ((∃x2:Nat,(((x2≤t.length)∧((x1<t.length)∧(a9 t=(sK t x2 x1))))∧((t=t)∧(((↑x1:Int)=(↑x1:Int))∧((0:Int)=(↑x2:Int))))))∧(∀x3:Nat,(((x3≤t.length)∧((x1<t.length)∧(a9 t=(sK t x3 x1))))→(ac (decide ((↑x3:Int)<(↑(t.length):Int))) ((∃x4:Nat,(((x4≤t.length)∧((x3<t.length)∧(a9 t=(sJ t x4 x1 x3))))∧((t=t)∧(((↑x1:Int)=(↑x1:Int))∧(((↑x3:Int)=(↑x3:Int))∧((0:Int)=(↑x4:Int)))))))∧(∀x5:Nat,(((x5≤t.length)∧((x3<t.length) ∧
 (a9 t=(sJ t x5 x1 x3))))→(ac (decide ((↑x5:Int)<(↑(t.length):Int))) ((aa (↑x1:Int) (t.length))∧((aa (↑x3:Int) ((jX t x1).length))∧((aa ((jX t x1).getD ((↑x3:Int).toNat) (0:Int)) (t.length))∧((aa (↑x5:Int) ((t.getD (((jX t x1).getD ((↑x3:Int).toNat) (0:Int)).toNat) []).length))∧((aa (↑x1:Int) (t.length))∧((aa (↑x3:Int) (t.length))∧((aa (↑x5:Int) ((jX t x3).length))∧((aa ((jX t x3).getD ((↑x5:Int).toNat) (0:Int)) ((jX t x1).length))∧(ac ((List.getD t ((List.getD (List.getD t ((↑x1:Int).toNat) []) ((↑x3:Int).toNat) (0:Int)).toNat) []).getD ((↑x5:Int).toNat) (0:Int) != (List.getD t ((↑x1:Int).toNat) []).getD (((List.getD t ((↑x3:Int).toNat) []).getD ((↑x5:Int).toNat) (0:Int)).toNat) (0:Int)) ((false=a9 t)∧True) ((ab ((↑x5:Int)+(1:Int)))∧(∃x6:Nat,(((x6≤t.length)∧((x3<t.length)∧(a9 t=(sJ t x6 x1 x3))))∧((t.length - x6<t.length - x5)∧((t=t)∧(((↑x1:Int)=(↑x1:Int))∧(((↑x3:Int)=(↑x3:Int))∧((↑x5:Int)+(1:Int)=(↑x6:Int)))))))))))))))))) ((ab ((↑x3:Int)+(1:Int)))∧(∃x7:Nat,(((x7≤t.length)∧((x1<t.length)∧(a9 t=(sK t x7 x1))))∧((t.length - x7<t.length - x3)∧((t=t)∧(((↑x1:Int)=(↑x1:Int))∧((↑x3:Int)+(1:Int)=(↑x7:Int)))))))))))) ((ab ((↑x1:Int)+(1:Int)))∧(∃x8:Nat,(((x8≤t.length)∧((aW t=true)∧(a9 t=List.all (List.range' x8 (t.length - x8)) (gq t))))∧((t.length - x8<t.length - x1)∧((t=t)∧((↑x1:Int)+(1:Int)=(↑x8:Int))))))))))))))))))))
 ((true=a9 t)∧True)))))))
theorem PE (t:List (List Int)):aC Tryz.prog (af Hu) ah (Ht t) Tryz.f126 (aE Tryz.f126) [] [.c (.rows .i64 (t))] (sI t)=zy t:=by kernel_rfl
theorem PF (t:List (List Int)) (Yh:(sI t).pre):zy t:=by
 simp only [sI,zy,sJ,sK,jX,aG,u1,u2,u3,u4,u5,u6,u7,u8,u9,v1,v2,v3,v4,v5,v6,v7,v8,v9,w1,w2,w3,w4,aH,aa,ab,ae,ar] at Yh ⊢;refine ⟨Yh,fun h=>by simp [a9,h],fun h1=>⟨⟨0,⟨by omega,h1,by rw [Pp,h1,Bool.true_and,gO]⟩,rfl⟩,fun i ⟨hi,_,he⟩=>?_⟩⟩
 obtain ⟨n1,n2,ht⟩:=bA h1;refine ⟨fun h3=>?_,fun h3=>by rw [he,gN _ (by omega)]⟩
 have hr:=(ht i (by omega)).1
 have hd:decide (1≤((t.getD i []).length:Int)∧((t.getD i []).length:Int)≤12)=true:=decide_eq_true (by omega)
 have np:(decide (1≤((t.getD i []).length:Int)∧((t.getD i []).length:Int)≤12)&&cW (t.getD i []))=false→cW (t.getD i [])=false:=fun h=>by rwa [hd,Bool.true_and] at h
 have yp:(decide (1≤((t.getD i []).length:Int)∧((t.getD i []).length:Int)≤12)&&cW (t.getD i []))=true→cW (t.getD i [])=true:=fun h=>by rwa [hd,Bool.true_and] at h
 ·have r0:=ht 0 (by omega)
  have ri:=ht i (by omega)
  rw [gM _ (by omega)] at he
  refine ⟨by omega,by omega,fun h4=>?_,fun h4=>⟨by omega,by omega,fun h5=>?_,fun h5=>⟨by omega,by omega,fun hp=>?_,fun hp=>⟨⟨0,⟨by omega,by omega,?_⟩,rfl⟩,fun j ⟨hj,_,hy⟩=>⟨fun h6=>⟨⟨0,⟨by omega,by omega,?_⟩,rfl⟩,fun k ⟨hk,_,hz⟩=>⟨fun h7=>?_,fun h7=>?_⟩⟩,fun h6=>?_⟩⟩⟩⟩⟩
  ·rw [he,gq,gQ,show decide (en t 0 i=(i:Int))=false from decide_eq_false h4];rfl
  ·rw [he,gq,gQ,show decide (en t i 0=(i:Int))=false from decide_eq_false h5];simp
  ·rw [he,gq,show cW (t.getD i [])=false from np hp];simp
  ·rw [he,gq,gQ,show decide (en t 0 i=(i:Int))=true from decide_eq_true h4,show decide (en t i 0=(i:Int))=true from decide_eq_true h5,show cW (t.getD i [])=true from yp hp,lR,gO];rfl
  ·rw [hy,gM _ (by omega),gP,gO,Bool.and_assoc]
  ·have rj:=ht j (by omega)
   have a:=ri.2 j (by omega)
   have b:=rj.2 k (by omega)
   have rr:=ht ((t.getD i []).getD j 0).toNat (by omega)
   rw [gM _ (by omega)] at hz
   refine ⟨by omega,by omega,by omega,by omega,by omega,by omega,by omega,by omega,fun h8=>?_,fun h8=>⟨by omega,k+1,⟨by omega,by omega,?_⟩,by omega,by omega⟩⟩
   ·rw [hz,show ju t i j k=false from decide_eq_false h8];rfl
   ·rw [hz,show ju t i j k=true from decide_eq_true h8];rfl
  ·refine ⟨by omega,j+1,⟨by omega,by omega,?_⟩,by omega,by omega⟩
   rw [hz,gN _ (by omega),Bool.true_and]
  ·refine ⟨by omega,i+1,⟨by omega,h1,?_⟩,by omega,by omega⟩
   rw [hy,gN _ (by omega),Bool.true_and]
theorem PG:Fits Tryz.prog 126 ⟨[],zx⟩:=by
 refine aJ (Γ:=af Hu) (aj X0 (aj Sv aF)) Tryz.func126 fun ds p h hp=>?_
 unfold zx at h;split at h
 ·cases h
  exact ⟨ah,Ht _ ,by rw [PE];exact PF _  hp⟩
 ·cases h
end Go.Sx
