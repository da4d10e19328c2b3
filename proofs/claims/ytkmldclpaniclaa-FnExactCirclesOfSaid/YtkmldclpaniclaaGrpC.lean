/- GrpC -/
import Derived.Test.YtkmldclpaniclaaMpgA
open Go Go.Proofs
namespace Go.Sx
set_option linter.unusedSimpArgs false
set_option linter.unusedVariables false
def pq (l:List Int) (x:Int):Post:=⟨l.length≤1099511627776,.c (.int .i64 (aV x l 0)),[]⟩
def uP:List AD→Option Post
 | [.c (.ints .i64 (l)),.c (.int .i64 (x))]=>some (pq l x)
 | _=>none
def BX (l:List Int) (x:Int):Nat→Option Ann
 | 0=>some (Ann.mk ((Nat)) (fun i=>⟨[(0,.c (.ro (.ints .i64 (l)))),(1,.c (.int .i64 (x))),(6,.c (.ro (.ints .i64 (l)))),(7,.c (.int .i64 ((l.length:Int)))),(8,.c (.int .i64 ((i:Int))))],[]⟩) (fun i=>i≤l.length∧aV x l 0=aV x (l.drop i) (i:Int)) (fun i=>l.length - i) (fun _=>ax))
 | _=>none
def BY:List (Nat×Ctr):=[]
def uQ (l:List Int) (x:Int):Prop :=
 ((∃x0:Nat,(((x0≤l.length)∧(aV x l (0:Int)=aV x (List.drop x0 l) (↑x0:Int)))∧((l=l)∧((x=x)∧((l=l)∧(((↑(l.length):Int)=(↑(l.length):Int))∧((0:Int)=(↑x0:Int))))))))∧(∀x1:Nat,(((x1≤l.length)∧(aV x l (0:Int)=aV x (List.drop x1 l) (↑x1:Int)))→(ae (decide ((↑x1:Int)<(↑(l.length):Int))) ((aa (↑x1:Int) (l.length))∧(ae (x == l.getD ((↑x1:Int).toNat) (0:Int)) (((↑x1:Int)=aV x l (0:Int))∧True) ((af ((↑x1:Int)+(1:Int)))∧(∃x2:Nat,(((x2≤l.length)∧(aV x l (0:Int)=aV x (List.drop x2 l) (↑x2:Int)))∧((l.length - x2<l.length - x1)∧((l=l)∧((x=x)∧((l=l)∧(((↑(l.length):Int)=(↑(l.length):Int))∧((↑x1:Int)+(1:Int)=(↑x2:Int)))))))))))) (((-1:Int)=aV x l (0:Int))∧True)))))
theorem Jc (l:List Int) (x:Int):aS Try.prog (ai BY) aj (BX l x) Try.f92 (aM Try.f92) [] [.c (.ints .i64 (l)),.c (.int .i64 (x))] (pq l x)=uQ l x:=by kernel_rfl
theorem Jd (l:List Int) (x:Int) (Yh:(pq l x).pre):uQ l x:=by
 simp only [pq,uQ,aR,u1,u2,u3,u4,u5,u6,u7,u8,u9,v1,v2,v3,v4,v5,v6,v7,v8,v9,w1,w2,w3,w4,aI,aa,af,ag,aw] at Yh ⊢;refine ⟨⟨0,⟨by omega,rfl⟩,rfl⟩,fun i ⟨hi,he⟩=>⟨fun h=>?_,fun h=>?_⟩⟩
 ·rw [drop_cons' l 0 i (by omega)] at he
  simp only [aV] at he;refine ⟨by omega,fun h2=>?_,fun h2=>⟨by omega,i+1,⟨by omega,?_⟩,by omega,by omega⟩⟩
  ·rw [he,if_pos h2.symm]
  ·rw [he,if_neg fun e=>h2 e.symm];simp
 ·rw [he,List.drop_of_length_le (by omega)];rfl
theorem Je:Fits Try.prog 92 ⟨[],uP⟩:=by
 refine aY (Γ:=ai BY) aQ Try.func92 fun ds p h hp=>?_
 unfold uP at h;split at h
 ·cases h
  exact ⟨aj,BX _ _ ,by rw [Jc];exact Jd _ _  hp⟩
 ·cases h
def pu (t:List (List Int)):Post:=⟨bk t,.c (.bool (bc t)),[]⟩
def uR:List AD→Option Post
 | [.c (.rows .i64 (t))]=>some (pu t)
 | _=>none
def BZ (t:List (List Int)):Nat→Option Ann
 | 0=>some (Ann.mk ((Nat)) (fun i=>⟨[(0,.c (.ro (.rows .i64 (t)))),(15,.c (.int .i64 ((t.length:Int)))),(16,.c (.int .i64 ((i:Int))))],[]⟩) (fun i=>i≤t.length∧cf t=true∧bc t=(List.range' i (t.length - i)).all (fe t)) (fun i=>t.length - i) (fun i=>fun b_=>match b_ with | 2=>some (Ann.mk ((Nat)) (fun j=>⟨[(0,.c (.ro (.rows .i64 (t)))),(15,.c (.int .i64 ((t.length:Int)))),(16,.c (.int .i64 ((i:Int)))),(3,.c (.int .i64 ((i:Int)))),(38,.c (.int .i64 ((t.length:Int)))),(39,.c (.int .i64 ((j:Int))))],[]⟩) (fun j=>j≤t.length∧i<t.length∧bc t=((List.range' j (t.length - j)).all (f8 t i)&&(List.range' (i+1) (t.length - (i+1))).all (fe t))) (fun j=>t.length - j) (fun j=>fun b_=>match b_ with | 4=>some (Ann.mk ((Nat)) (fun k=>⟨[(0,.c (.ro (.rows .i64 (t)))),(15,.c (.int .i64 ((t.length:Int)))),(16,.c (.int .i64 ((i:Int)))),(3,.c (.int .i64 ((i:Int)))),(38,.c (.int .i64 ((t.length:Int)))),(39,.c (.int .i64 ((j:Int)))),(4,.c (.int .i64 ((j:Int)))),(43,.c (.int .i64 ((t.length:Int)))),(44,.c (.int .i64 ((k:Int))))],[]⟩) (fun k=>k≤t.length∧j<t.length∧bc t=((List.range' k (t.length - k)).all (g4 t i j)&&((List.range' (j+1) (t.length - (j+1))).all (f8 t i)&&(List.range' (i+1) (t.length - (i+1))).all (fe t)))) (fun k=>t.length - k) (fun _=>ax)) | _=>none)) | _=>none))
 | _=>none
def B3:List (Nat×Ctr):=[(59,⟨[],AB⟩),(60,⟨[],xq⟩)]
def pv (t:List (List Int)) (x0:Nat) (x1:Nat) (x2:Nat):=(List.all (List.range' x0 (t.length - x0)) (g4 t x1 x2)&&(List.all (List.range' (x2+(1:Nat)) (t.length - (x2+(1:Nat)))) (f8 t x1)&&List.all (List.range' (x1+(1:Nat)) (t.length - (x1+(1:Nat)))) (fe t)))
def pw (t:List (List Int)) (x0:Nat) (x1:Nat):=(List.all (List.range' x0 (t.length - x0)) (f8 t x1)&&List.all (List.range' (x1+(1:Nat)) (t.length - (x1+(1:Nat)))) (fe t))
def uS (t:List (List Int)):Prop :=
 (((bk t)∧True)∧(ae (!cf t) ((false=bc t)∧True) (((bk t)∧True)∧(ae (!List.all t cu) ((false=bc t)∧True) ((∃x0:Nat,(((x0≤t.length)∧((cf t=true)∧(bc t=List.all (List.range' x0 (t.length - x0)) (fe t))))∧((t=t)∧(((↑(t.length):Int)=(↑(t.length):Int))∧((0:Int)=(↑x0:Int))))))∧(∀x1:Nat,(((x1≤t.length)∧((cf t=true)∧(bc t=List.all (List.range' x1 (t.length - x1)) (fe t))))→(ae (decide ((↑x1:Int)<(↑(t.length):Int))) ((aa (0:Int) (t.length))∧((aa (↑x1:Int) ((t.getD (0:Nat) []).length))∧(ae ((List.getD t (0:Nat) []).getD ((↑x1:Int).toNat) (0:Int) != (↑x1:Int)) ((false=bc t)∧True) ((aa (↑x1:Int) (t.length))∧((aa (0:Int) ((t.getD ((↑x1:Int).toNat) []).length))∧(ae ((List.getD t ((↑x1:Int).toNat) []).getD (0:Nat) (0:Int) != (↑x1:Int)) ((false=bc t)∧True) ((∃x2:Nat,(((x2≤t.length)∧((x1<t.length)∧(bc t=(pw t x2 x1))))∧((t=t)∧(((↑(t.length):Int)=(↑(t.length):Int))∧(((↑x1:Int)=(↑x1:Int))∧(((↑x1:Int)=(↑x1:Int))∧(((↑(t.length):Int)=(↑(t.length):Int))∧((0:Int)=(↑x2:Int)))))))))∧(∀x3:Nat,(((x3≤t.length)∧((x1<t.length)∧(bc t=(pw t x3 x1))))→(ae (decide ((↑x3:Int)<(↑(t.length):Int))) ((∃x4:Nat,(((x4≤t.length)∧((x3<t.length)∧(bc t=(pv t x4 x1 x3))))∧((t=t)∧(((↑(t.length):Int)=(↑(t.length):Int))∧(((↑x1:Int)=(↑x1:Int))∧(((↑x1:Int)=(↑x1:Int))∧(((↑(t.length):Int)=(↑(t.length):Int))∧(((↑x3:Int)=(↑x3:Int)) ∧
 (((↑x3:Int)=(↑x3:Int))∧(((↑(t.length):Int)=(↑(t.length):Int))∧((0:Int)=(↑x4:Int))))))))))))∧(∀x5:Nat,(((x5≤t.length)∧((x3<t.length)∧(bc t=(pv t x5 x1 x3))))→(ae (decide ((↑x5:Int)<(↑(t.length):Int))) ((aa (↑x1:Int) (t.length))∧((aa (↑x3:Int) ((t.getD ((↑x1:Int).toNat) []).length))∧((aa ((List.getD t ((↑x1:Int).toNat) []).getD ((↑x3:Int).toNat) (0:Int)) (t.length))∧((aa (↑x5:Int) ((t.getD (((List.getD t ((↑x1:Int).toNat) []).getD ((↑x3:Int).toNat) (0:Int)).toNat) []).length))∧((aa (↑x1:Int) (t.length))∧((aa (↑x3:Int) (t.length))∧((aa (↑x5:Int) ((t.getD ((↑x3:Int).toNat) []).length))∧((aa ((List.getD t ((↑x3:Int).toNat) []).getD ((↑x5:Int).toNat) (0:Int)) ((t.getD ((↑x1:Int).toNat) []).length))∧(ae ((List.getD t ((List.getD (List.getD t ((↑x1:Int).toNat) []) ((↑x3:Int).toNat) (0:Int)).toNat) []).getD ((↑x5:Int).toNat) (0:Int) != (List.getD t ((↑x1:Int).toNat) []).getD (((List.getD t ((↑x3:Int).toNat) []).getD ((↑x5:Int).toNat) (0:Int)).toNat) (0:Int)) ((false=bc t)∧True) ((af ((↑x5:Int)+(1:Int)))∧(∃x6:Nat,(((x6≤t.length)∧((x3<t.length)∧(bc t=(pv t x6 x1 x3))))∧((t.length - x6<t.length - x5)∧((t=t)∧(((↑(t.length):Int)=(↑(t.length):Int))∧(((↑x1:Int)=(↑x1:Int))∧(((↑x1:Int)=(↑x1:Int))∧(((↑(t.length):Int)=(↑(t.length):Int))∧(((↑x3:Int)=(↑x3:Int))∧(((↑x3:Int)=(↑x3:Int))∧(((↑(t.length):Int)=(↑(t.length):Int))∧((↑x5:Int)+(1:Int)=(↑x6:Int)))))))))))))))))))))))
 ((af ((↑x3:Int)+(1:Int)))∧(∃x7:Nat,(((x7≤t.length)∧((x1<t.length)∧(bc t=(pw t x7 x1))))∧((t.length - x7<t.length - x3)∧((t=t)∧(((↑(t.length):Int)=(↑(t.length):Int))∧(((↑x1:Int)=(↑x1:Int))∧(((↑x1:Int)=(↑x1:Int))∧(((↑(t.length):Int)=(↑(t.length):Int))∧((↑x3:Int)+(1:Int)=(↑x7:Int))))))))))))))) ((af ((↑x1:Int)+(1:Int)))∧(∃x8:Nat,(((x8≤t.length)∧((cf t=true)∧(bc t=List.all (List.range' x8 (t.length - x8)) (fe t))))∧((t.length - x8<t.length - x1)∧((t=t)∧(((↑(t.length):Int)=(↑(t.length):Int))∧((↑x1:Int)+(1:Int)=(↑x8:Int)))))))))))))))))) ((true=bc t)∧True)))))))))
theorem Jf (t:List (List Int)):aS Try.prog (ai B3) aj (BZ t) Try.f44 (aM Try.f44) [] [.c (.rows .i64 (t))] (pu t)=uS t:=by kernel_rfl
theorem Jg (t:List (List Int)) (Yh:(pu t).pre):uS t:=by
 simp only [pu,uS,pv,pw,aR,u1,u2,u3,u4,u5,u6,u7,u8,u9,v1,v2,v3,v4,v5,v6,v7,v8,v9,w1,w2,w3,w4,aI,aa,af,ag,aw] at Yh ⊢;refine ⟨Yh,fun h=>by simp [bc,h],fun h1=>⟨Yh,fun h2=>by simp [bc,h2],fun h2=>⟨⟨0,⟨by omega,h1,by rw [bc,h1,h2,Bool.true_and,Bool.true_and,lu]⟩,rfl⟩,fun i ⟨hi,_,he⟩=>?_⟩⟩⟩
 obtain ⟨n1,n2,ht⟩:=mQ h1;refine ⟨fun h3=>?_,fun h3=>by rw [he,lq _ (by omega)]⟩
 ·have r0:=ht 0 (by omega)
  have ri:=ht i (by omega)
  rw [lp _ (by omega)] at he
  refine ⟨by omega,by omega,fun h4=>?_,fun h4=>⟨by omega,by omega,fun h5=>?_,fun h5=>⟨⟨0,⟨by omega,by omega,?_⟩,rfl⟩,fun j ⟨hj,_,hy⟩=>⟨fun h6=>⟨⟨0,⟨by omega,by omega,?_⟩,rfl⟩,fun k ⟨hk,_,hz⟩=>⟨fun h7=>?_,fun h7=>?_⟩⟩,fun h6=>?_⟩⟩⟩⟩
  ·rw [he,fe,g5,show decide (en t 0 i=(i:Int))=false from decide_eq_false h4];rfl
  ·rw [he,fe,g5,show decide (en t i 0=(i:Int))=false from decide_eq_false h5];simp
  ·rw [he,fe,g5,show decide (en t 0 i=(i:Int))=true from decide_eq_true h4,show decide (en t i 0=(i:Int))=true from decide_eq_true h5,nk,lu];rfl
  ·rw [hy,lp _ (by omega),f8,lu,Bool.and_assoc]
  ·have rj:=ht j (by omega)
   have a:=ri.2 j (by omega)
   have b:=rj.2 k (by omega)
   have rr:=ht ((t.getD i []).getD j 0).toNat (by omega)
   rw [lp _ (by omega)] at hz
   refine ⟨by omega,by omega,by omega,by omega,by omega,by omega,by omega,by omega,fun h8=>?_,fun h8=>⟨by omega,k+1,⟨by omega,by omega,?_⟩,by omega,by omega⟩⟩
   ·rw [hz,show g4 t i j k=false from decide_eq_false h8];rfl
   ·rw [hz,show g4 t i j k=true from decide_eq_true h8];rfl
  ·refine ⟨by omega,j+1,⟨by omega,by omega,?_⟩,by omega,by omega⟩
   rw [hz,lq _ (by omega),Bool.true_and]
  ·refine ⟨by omega,i+1,⟨by omega,h1,?_⟩,by omega,by omega⟩
   rw [hy,lq _ (by omega),Bool.true_and]
theorem Jh:Fits Try.prog 44 ⟨[],uR⟩:=by
 refine aY (Γ:=ai B3) (aC Qs (aC Ml aQ)) Try.func44 fun ds p h hp=>?_
 unfold uR at h;split at h
 ·cases h
  exact ⟨aj,BZ _ ,by rw [Jf];exact Jg _  hp⟩
 ·cases h
def pz (t:List (List Int)):Post:=⟨bk t,.c (.bool (bc t)),[]⟩
def uT:List AD→Option Post
 | [.c (.rows .i64 (t))]=>some (pz t)
 | _=>none
def B4 (t:List (List Int)):Nat→Option Ann
 | 0=>some (Ann.mk ((Nat)) (fun i=>⟨[(0,.c (.ro (.rows .i64 (t)))),(3,.c (.int .i64 ((i:Int))))],[]⟩) (fun i=>i≤t.length∧cf t=true∧bc t=(List.range' i (t.length - i)).all (ff t)) (fun i=>t.length - i) (fun i=>fun b_=>match b_ with | 2=>some (Ann.mk ((Nat)) (fun j=>⟨[(0,.c (.ro (.rows .i64 (t)))),(3,.c (.int .i64 ((i:Int)))),(4,.c (.int .i64 ((j:Int))))],[]⟩) (fun j=>j≤t.length∧i<t.length∧bc t=((List.range' j (t.length - j)).all (f8 t i)&&(List.range' (i+1) (t.length - (i+1))).all (ff t))) (fun j=>t.length - j) (fun j=>fun b_=>match b_ with | 4=>some (Ann.mk ((Nat)) (fun k=>⟨[(0,.c (.ro (.rows .i64 (t)))),(3,.c (.int .i64 ((i:Int)))),(4,.c (.int .i64 ((j:Int)))),(5,.c (.int .i64 ((k:Int))))],[]⟩) (fun k=>k≤t.length∧j<t.length∧bc t=((List.range' k (t.length - k)).all (g4 t i j)&&((List.range' (j+1) (t.length - (j+1))).all (f8 t i)&&(List.range' (i+1) (t.length - (i+1))).all (ff t)))) (fun k=>t.length - k) (fun _=>ax)) | _=>none)) | _=>none))
 | _=>none
def B5:List (Nat×Ctr):=[(39,⟨[],Au⟩),(40,⟨[],xk⟩)]
def pA (t:List (List Int)) (x0:Nat) (x1:Nat) (x2:Nat):=(List.all (List.range' x0 (t.length - x0)) (g4 t x1 x2)&&(List.all (List.range' (x2+(1:Nat)) (t.length - (x2+(1:Nat)))) (f8 t x1)&&List.all (List.range' (x1+(1:Nat)) (t.length - (x1+(1:Nat)))) (ff t)))
def pB (t:List (List Int)) (x0:Nat) (x1:Nat):=(List.all (List.range' x0 (t.length - x0)) (f8 t x1)&&List.all (List.range' (x1+(1:Nat)) (t.length - (x1+(1:Nat)))) (ff t))
def iI (t:List (List Int)) (x0:Nat):=(t.getD ((↑x0:Int).toNat) [])
def uU (t:List (List Int)):Prop :=
 (((bk t)∧True)∧(ae (!cf t) ((false=bc t)∧True) ((∃x0:Nat,(((x0≤t.length)∧((cf t=true)∧(bc t=List.all (List.range' x0 (t.length - x0)) (ff t))))∧((t=t)∧((0:Int)=(↑x0:Int)))))∧(∀x1:Nat,(((x1≤t.length)∧((cf t=true)∧(bc t=List.all (List.range' x1 (t.length - x1)) (ff t))))→(ae (decide ((↑x1:Int)<(↑(t.length):Int))) ((aa (0:Int) (t.length))∧((aa (↑x1:Int) ((t.getD (0:Nat) []).length))∧(ae ((List.getD t (0:Nat) []).getD ((↑x1:Int).toNat) (0:Int) != (↑x1:Int)) ((false=bc t)∧True) ((aa (↑x1:Int) (t.length))∧((aa (0:Int) ((iI t x1).length))∧(ae ((List.getD t ((↑x1:Int).toNat) []).getD (0:Nat) (0:Int) != (↑x1:Int)) ((false=bc t)∧True) ((aa (↑x1:Int) (t.length))∧((((iI t x1).length≤(1099511627776:Nat))∧True)∧(ae (!(decide ((1:Int)≤(↑((t.getD ((↑x1:Int).toNat) []).length):Int)∧(↑((t.getD ((↑x1:Int).toNat) []).length):Int)≤(12:Int))&&cu (t.getD ((↑x1:Int).toNat) []))) ((false=bc t)∧True) ((∃x2:Nat,(((x2≤t.length)∧((x1<t.length)∧(bc t=(pB t x2 x1))))∧((t=t)∧(((↑x1:Int)=(↑x1:Int))∧((0:Int)=(↑x2:Int))))))∧(∀x3:Nat,(((x3≤t.length)∧((x1<t.length)∧(bc t=(pB t x3 x1))))→(ae (decide ((↑x3:Int)<(↑(t.length):Int))) ((∃x4:Nat,(((x4≤t.length)∧((x3<t.length)∧(bc t=(pA t x4 x1 x3))))∧((t=t)∧(((↑x1:Int)=(↑x1:Int))∧(((↑x3:Int)=(↑x3:Int))∧((0:Int)=(↑x4:Int)))))))∧(∀x5:Nat,(((x5≤t.length)∧((x3<t.length) ∧
 (bc t=(pA t x5 x1 x3))))→(ae (decide ((↑x5:Int)<(↑(t.length):Int))) ((aa (↑x1:Int) (t.length))∧((aa (↑x3:Int) ((iI t x1).length))∧((aa ((iI t x1).getD ((↑x3:Int).toNat) (0:Int)) (t.length))∧((aa (↑x5:Int) ((t.getD (((iI t x1).getD ((↑x3:Int).toNat) (0:Int)).toNat) []).length))∧((aa (↑x1:Int) (t.length))∧((aa (↑x3:Int) (t.length))∧((aa (↑x5:Int) ((iI t x3).length))∧((aa ((iI t x3).getD ((↑x5:Int).toNat) (0:Int)) ((iI t x1).length))∧(ae ((List.getD t ((List.getD (List.getD t ((↑x1:Int).toNat) []) ((↑x3:Int).toNat) (0:Int)).toNat) []).getD ((↑x5:Int).toNat) (0:Int) != (List.getD t ((↑x1:Int).toNat) []).getD (((List.getD t ((↑x3:Int).toNat) []).getD ((↑x5:Int).toNat) (0:Int)).toNat) (0:Int)) ((false=bc t)∧True) ((af ((↑x5:Int)+(1:Int)))∧(∃x6:Nat,(((x6≤t.length)∧((x3<t.length)∧(bc t=(pA t x6 x1 x3))))∧((t.length - x6<t.length - x5)∧((t=t)∧(((↑x1:Int)=(↑x1:Int))∧(((↑x3:Int)=(↑x3:Int))∧((↑x5:Int)+(1:Int)=(↑x6:Int)))))))))))))))))) ((af ((↑x3:Int)+(1:Int)))∧(∃x7:Nat,(((x7≤t.length)∧((x1<t.length)∧(bc t=(pB t x7 x1))))∧((t.length - x7<t.length - x3)∧((t=t)∧(((↑x1:Int)=(↑x1:Int))∧((↑x3:Int)+(1:Int)=(↑x7:Int)))))))))))) ((af ((↑x1:Int)+(1:Int)))∧(∃x8:Nat,(((x8≤t.length)∧((cf t=true)∧(bc t=List.all (List.range' x8 (t.length - x8)) (ff t))))∧((t.length - x8<t.length - x1)∧((t=t)∧((↑x1:Int)+(1:Int)=(↑x8:Int))))))))))))))))))))
 ((true=bc t)∧True)))))))
theorem Ji (t:List (List Int)):aS Try.prog (ai B5) aj (B4 t) Try.f20 (aM Try.f20) [] [.c (.rows .i64 (t))] (pz t)=uU t:=by kernel_rfl
theorem Jj (t:List (List Int)) (Yh:(pz t).pre):uU t:=by
 simp only [pz,uU,pA,pB,iI,aR,u1,u2,u3,u4,u5,u6,u7,u8,u9,v1,v2,v3,v4,v5,v6,v7,v8,v9,w1,w2,w3,w4,aI,aa,af,ag,aw] at Yh ⊢;refine ⟨Yh,fun h=>by simp [bc,h],fun h1=>⟨⟨0,⟨by omega,h1,by rw [LE,h1,Bool.true_and,lu]⟩,rfl⟩,fun i ⟨hi,_,he⟩=>?_⟩⟩
 obtain ⟨n1,n2,ht⟩:=mQ h1;refine ⟨fun h3=>?_,fun h3=>by rw [he,lq _ (by omega)]⟩
 have hr:=(ht i (by omega)).1
 have hd:decide (1≤((t.getD i []).length:Int)∧((t.getD i []).length:Int)≤12)=true:=decide_eq_true (by omega)
 have np:(decide (1≤((t.getD i []).length:Int)∧((t.getD i []).length:Int)≤12)&&cu (t.getD i []))=false→cu (t.getD i [])=false:=fun h=>by rwa [hd,Bool.true_and] at h
 have yp:(decide (1≤((t.getD i []).length:Int)∧((t.getD i []).length:Int)≤12)&&cu (t.getD i []))=true→cu (t.getD i [])=true:=fun h=>by rwa [hd,Bool.true_and] at h
 ·have r0:=ht 0 (by omega)
  have ri:=ht i (by omega)
  rw [lp _ (by omega)] at he
  refine ⟨by omega,by omega,fun h4=>?_,fun h4=>⟨by omega,by omega,fun h5=>?_,fun h5=>⟨by omega,by omega,fun hp=>?_,fun hp=>⟨⟨0,⟨by omega,by omega,?_⟩,rfl⟩,fun j ⟨hj,_,hy⟩=>⟨fun h6=>⟨⟨0,⟨by omega,by omega,?_⟩,rfl⟩,fun k ⟨hk,_,hz⟩=>⟨fun h7=>?_,fun h7=>?_⟩⟩,fun h6=>?_⟩⟩⟩⟩⟩
  ·rw [he,ff,g5,show decide (en t 0 i=(i:Int))=false from decide_eq_false h4];rfl
  ·rw [he,ff,g5,show decide (en t i 0=(i:Int))=false from decide_eq_false h5];simp
  ·rw [he,ff,show cu (t.getD i [])=false from np hp];simp
  ·rw [he,ff,g5,show decide (en t 0 i=(i:Int))=true from decide_eq_true h4,show decide (en t i 0=(i:Int))=true from decide_eq_true h5,show cu (t.getD i [])=true from yp hp,nk,lu];rfl
  ·rw [hy,lp _ (by omega),f8,lu,Bool.and_assoc]
  ·have rj:=ht j (by omega)
   have a:=ri.2 j (by omega)
   have b:=rj.2 k (by omega)
   have rr:=ht ((t.getD i []).getD j 0).toNat (by omega)
   rw [lp _ (by omega)] at hz
   refine ⟨by omega,by omega,by omega,by omega,by omega,by omega,by omega,by omega,fun h8=>?_,fun h8=>⟨by omega,k+1,⟨by omega,by omega,?_⟩,by omega,by omega⟩⟩
   ·rw [hz,show g4 t i j k=false from decide_eq_false h8];rfl
   ·rw [hz,show g4 t i j k=true from decide_eq_true h8];rfl
  ·refine ⟨by omega,j+1,⟨by omega,by omega,?_⟩,by omega,by omega⟩
   rw [hz,lq _ (by omega),Bool.true_and]
  ·refine ⟨by omega,i+1,⟨by omega,h1,?_⟩,by omega,by omega⟩
   rw [hy,lq _ (by omega),Bool.true_and]
theorem Jk:Fits Try.prog 20 ⟨[],uT⟩:=by
 refine aY (Γ:=ai B5) (aC Qh (aC Ma aQ)) Try.func20 fun ds p h hp=>?_
 unfold uT at h;split at h
 ·cases h
  exact ⟨aj,B4 _ ,by rw [Ji];exact Jj _  hp⟩
 ·cases h
end Go.Sx
