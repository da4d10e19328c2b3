/- Deep -/
import Derived.Test.YtkmldclpaniclaaLists
open Go Go.Proofs
namespace Go.Sx
set_option linter.unusedSimpArgs false
set_option linter.unusedVariables false
def cN {α:Type} (c:α→Nat) (l:List α):Nat:=(l.map c).sum
theorem BH {α:Type} (c:α→Nat) (l:List α) (z:α) (i:Nat) (h:i<l.length):cN c (l.take (i+1))=cN c (l.take i)+c (l.getD i z):=by
 rw [←dK l z i h];simp [cN]
theorem BI {α:Type} (c:α→Nat) (l:List α) (i:Nat):cN c (l.take i)≤cN c l:=by
 have h:cN c l=cN c (l.take i)+cN c (l.drop i):=by
  rw [cN,cN,cN,←List.sum_append,←List.map_append,List.take_append_drop]
 omega
def bm (l:List (List (List Int))):Nat:=cN am l
def jR (l:List (List (List Int))):Prop:=l.length≤1099511627776∧∀r∈l,bk r
def iH (l:List (List (List Int))):Prop:=l.length≤1048576∧∀r∈l,r.length≤1048576
theorem IP {l:List (List (List Int))} (h:jR l) (i:Nat) (hi:i<l.length):bk (l.getD i []):=h.2 _ (bN l [] i hi)
def pi (a:List (List (List Int))) (b:List (List (List Int))):Post:=⟨jR a,.c (.bool (decide (a=b))),[]⟩
def uC:List AD→Option Post
 | [.c (.r3 .i64 (a)),.c (.r3 .i64 (b))]=>some (pi a b)
 | _=>none
def BJ (a:List (List (List Int))) (b:List (List (List Int))):Nat→Option Ann
 | 0=>some (Ann.mk ((Nat)) (fun i=>⟨[(0,.c (.ro (.r3 .i64 (a)))),(1,.c (.ro (.r3 .i64 (b)))),(5,.c (.int .i64 ((i:Int))))],[]⟩) (fun i=>i≤a.length∧a.length=b.length∧a.take i=b.take i) (fun i=>a.length - i) (fun _=>ax))
 | _=>none
def BK:List (Nat×Ctr):=[(9,⟨[],qd⟩)]
def uD (a:List (List (List Int))) (b:List (List (List Int))):Prop :=
 (ae ((↑(a.length):Int) != (↑(b.length):Int)) ((false=decide (a=b))∧True) ((∃x0:Nat,(((x0≤a.length)∧((a.length=b.length)∧(List.take x0 a=List.take x0 b)))∧((a=a)∧((b=b)∧((0:Int)=(↑x0:Int))))))∧(∀x1:Nat,(((x1≤a.length)∧((a.length=b.length)∧(List.take x1 a=List.take x1 b)))→(ae (decide ((↑x1:Int)<(↑(a.length):Int))) ((aa (↑x1:Int) (a.length))∧((aa (↑x1:Int) (b.length))∧(((bk (a.getD ((↑x1:Int).toNat) ([]:List (List Int))))∧True)∧(ae (!decide (a.getD ((↑x1:Int).toNat) ([]:List (List Int))=b.getD ((↑x1:Int).toNat) ([]:List (List Int)))) ((false=decide (a=b))∧True) ((af ((↑x1:Int)+(1:Int)))∧(∃x2:Nat,(((x2≤a.length)∧((a.length=b.length)∧(List.take x2 a=List.take x2 b)))∧((a.length - x2<a.length - x1)∧((a=a)∧((b=b)∧((↑x1:Int)+(1:Int)=(↑x2:Int)))))))))))) ((true=decide (a=b))∧True))))))
theorem IQ (a:List (List (List Int))) (b:List (List (List Int))):aS Try.prog (ai BK) aj (BJ a b) Try.f16 (aM Try.f16) [] [.c (.r3 .i64 (a)),.c (.r3 .i64 (b))] (pi a b)=uD a b:=by kernel_rfl
theorem IR (a:List (List (List Int))) (b:List (List (List Int))) (Yh:(pi a b).pre):uD a b:=by
 simp only [pi,uD,aR,u1,u2,u3,u4,u5,u6,u7,u8,u9,v1,v2,v3,v4,v5,v6,v7,v8,v9,w1,w2,w3,w4,aI,aa,af,ag,aw] at Yh ⊢;have h0:=Yh.1
 refine ⟨fun h=>?_,fun h=>⟨⟨0,⟨by omega,by omega,rfl⟩,by simp⟩,fun i hi=>⟨fun h1=>⟨by omega,by omega,IP Yh i (by omega),fun h2=>?_,fun h2=>⟨by omega,i+1,⟨by omega,hi.2.1,?_⟩,by omega,by omega⟩⟩,fun h1=>?_⟩⟩⟩
 ·exact (decide_eq_false fun e=>h (by rw [e])).symm
 ·exact (decide_eq_false fun e=>h2 (by rw [e])).symm
 ·exact (oI a b [] i (by omega) (by omega) hi.2.2).2 h2
 ·refine (decide_eq_true ?_).symm
  have:=hi.2.2
  rwa [List.take_of_length_le (by omega),List.take_of_length_le (by omega)] at this
theorem IS:Fits Try.prog 16 ⟨[],uC⟩:=by
 refine aY (Γ:=ai BK) (aC CU aQ) Try.func16 fun ds p h hp=>?_
 unfold uC at h;split at h
 ·cases h
  exact ⟨aj,BJ _ _ ,by rw [IQ];exact IR _ _  hp⟩
 ·cases h
def c7 {α:Type} (f:α→Int→α) (c:α→Nat):List α→Int→List α
 | [],_=>[]
 | x::l,k=>f x k::c7 f c l (k+(c x:Int))
section
variable {α:Type} {f:α→Int→α} {c:α→Nat}
theorem pj:∀(l:List α) (k:Int),(c7 f c l k).length=l.length
 | [],_=>rfl
 | r::l,k=>by simp [c7,pj l]
theorem uE:∀(a b:List α) (k:Int),c7 f c (a++b) k=c7 f c a k++c7 f c b (k+(cN c a:Int))
 | [],b,k=>by simp [c7,cN]
 | r::a,b,k=>by
  simp only [List.cons_append,c7,uE a b,cN,List.map_cons,List.sum_cons];rw [show k+((c r+(a.map c).sum:Nat):Int)=k+(c r:Int)+((a.map c).sum:Int) by omega]
theorem uF (l:List α) (z:α) (k:Int) (i:Nat) (h:i<l.length):c7 f c (l.take (i+1)) k=c7 f c (l.take i) k++[f (l.getD i z) (k+(cN c (l.take i):Int))]:=by
 rw [←dK l z i h,uE];rfl
theorem IT (l:List α) (z:α) (k:Int) (i:Nat) (h:i<l.length):(c7 f c l k).getD i z=f (l.getD i z) (k+(cN c (l.take i):Int)):=by
 have hl:(c7 f c (l.take i) k).length=i:=by rw [pj,List.length_take];omega
 conv=>lhs;rw [←List.take_append_drop (i+1) l]
 rw [uE,uF l z k i h,List.append_assoc,getD_append_right' _ _ _ _ (by omega),hl,Nat.sub_self]
 rfl
theorem BM (hc:∀x k,c (f x k)=c x):∀(l:List α) (k:Int),cN c (c7 f c l k)=cN c l
 | [],_=>rfl
 | r::l,k=>by
  have:=BM hc l (k+(c r:Int))
  simp only [cN,c7,List.map_cons,List.sum_cons,hc] at this ⊢;rw [this]
theorem BO (hf:∀x k,f (f x k) k=f x k) (hc:∀x k,c (f x k)=c x):∀(l:List α) (k:Int),c7 f c (c7 f c l k) k=c7 f c l k
 | [],_=>rfl
 | r::l,k=>by simp only [c7,hf,hc,BO hf hc l]
theorem IU (l:List α) (z:α) (k:Int) (i:Nat) (h:i<l.length) :
  (c7 f c (l.take i) k++l.drop i).getD i z=l.getD i z ∧
  (c7 f c (l.take i) k++l.drop i).set i (f (l.getD i z) (k+(cN c (l.take i):Int)))=c7 f c (l.take (i+1)) k++l.drop (i+1):=by
 have hlen:(c7 f c (l.take i) k).length=i:=by rw [pj,List.length_take];omega
 constructor
 ·rw [getD_append_right' _ _ _ _ (by omega),hlen,oJ];simp
 ·rw [uF l z k i h,List.set_append_right _ _ (by omega),hlen,Nat.sub_self,drop_cons' l z i h,List.set_cons_zero]
  simp
end
def bv:List (List (List Int))→Int→List (List (List Int)):=c7 aZ am
theorem uG (l:List (List (List Int))) (k:Int):(bv l k).length=l.length:=pj l k
theorem IV (l:List (List (List Int))) (k:Int):bm (bv l k)=bm l:=BM (fun x k=>qf x k) l k
theorem IW (l:List (List (List Int))) (k:Int):bv (bv l k) k=bv l k:=BO vY qf l k
theorem IX {α:Type} {f:α→Int→α} {c:α→Nat} {l:List α} {k:Int} {y:α} (h:y∈c7 f c l k):∃x∈l,∃j,y=f x j:=by
 induction l generalizing k with
 | nil=>simp [c7] at h
 | cons x l ih =>
  rcases List.mem_cons.1 h with rfl | h
  ·exact ⟨x,by simp,k,rfl⟩
  ·obtain ⟨z,h1,h2⟩:=ih h
   exact ⟨z,by simp [h1],h2⟩
theorem IY {l:List (List (List Int))} (h:iH l) (k:Int):iH (bv l k):=⟨by rw [uG];exact h.1,fun r hr=>by
 obtain ⟨x,hx,j,rfl⟩:=IX hr;rw [jT];exact h.2 x hx⟩
def pk (l:List Int) (k:Int):Post:=⟨ag l.length∧0≤k∧k≤1099511627776,.c (.int .i64 (k+(l.length:Int))),[.tr [2] (.ints .i64 (bM k l.length))]⟩
def uH:List AD→Option Post
 | [.c (.ints .i64 (l)),.c (.int .i64 (k))]=>some (pk l k)
 | _=>none
def BP (l:List Int) (k:Int):Nat→Option Ann
 | 0=>some (Ann.mk ((Nat)) (fun i=>⟨[(0,.c (.own (700))),(1,.c (.int .i64 (k+(i:Int)))),(5,.c (.int .i64 ((i:Int))))],[(700,some (.tr 0 [2] (.ints .i64 ((bM k l.length).take i++l.drop i))))]⟩) (fun i=>i≤l.length) (fun i=>l.length - i) (fun _=>ax))
 | _=>none
def BQ:List (Nat×Ctr):=[]
def uI (l:List Int) (k:Int):Prop :=
 ((∃x0:Nat,((x0≤l.length)∧((k=k+(↑x0:Int))∧(((0:Int)=(↑x0:Int))∧(l=List.take x0 (bM k (l.length))++List.drop x0 l)))))∧(∀x1:Nat,((x1≤l.length)→(ae (decide ((↑x1:Int)<(↑(FC.len (FC.ints IntKind.i64 (List.take x1 (bM k (l.length))++List.drop x1 l))):Int))) ((aa (↑x1:Int) (FC.len (FC.ints IntKind.i64 (List.take x1 (bM k (l.length))++List.drop x1 l))))∧((af (k+(↑x1:Int)+(1:Int)))∧((af ((↑x1:Int)+(1:Int)))∧(∃x2:Nat,((x2≤l.length)∧((l.length - x2<l.length - x1)∧((k+(↑x1:Int)+(1:Int)=k+(↑x2:Int))∧(((↑x1:Int)+(1:Int)=(↑x2:Int))∧(List.set (List.take x1 (bM k (l.length))++List.drop x1 l) ((↑x1:Int).toNat) (k+(↑x1:Int))=List.take x2 (bM k (l.length))++List.drop x2 l))))))))) ((k+(↑x1:Int)=k+(↑(l.length):Int))∧((List.take x1 (bM k (l.length))++List.drop x1 l=bM k (l.length))∧True))))))
theorem IZ (l:List Int) (k:Int):aS Try.prog (ai BQ) aj (BP l k) Try.f33 (aM Try.f33) [(0,0)] [.c (.ints .i64 (l)),.c (.int .i64 (k))] (pk l k)=uI l k:=by kernel_rfl
theorem I0 (l:List Int) (k:Int) (Yh:(pk l k).pre):uI l k:=by
 simp only [pk,uI,aR,true_and,and_true,decide_eq_true_eq,decide_eq_false_iff_not,bne_iff_ne,beq_iff_eq,bne_eq_false_iff_eq,beq_eq_false_iff_ne,Bool.not_eq_true,Bool.not_eq_false,Bool.not_true,Bool.not_false,Bool.not_eq_eq_eq_not,Int.toNat_natCast,List.length_append,List.length_take,List.length_replicate,List.length_set,List.length_map,List.length_drop,List.length_nil,List.length_cons,aI,aa,af,ag,aw,FC.len] at Yh ⊢;obtain ⟨h1,h2,h3⟩:=Yh;refine ⟨⟨0,by omega,by simp⟩,fun i hi=>⟨fun h=>⟨by omega,by omega,by omega,i+1,by omega,by omega,by omega,by omega,?_⟩,fun h=>⟨?_,?_⟩⟩⟩
 ·rw [←Hp (bM k l.length) l 0 i (aI _ _) (by omega),tq _ _ _ (by omega)]
 ·omega
 ·rw [List.take_of_length_le (by rw [aI];omega),List.drop_of_length_le (by omega),List.append_nil]
theorem I2:Fits Try.prog 33 ⟨[(0,0)],uH⟩:=by
 refine aY (Γ:=ai BQ) aQ Try.func33 fun ds p h hp=>?_
 unfold uH at h;split at h
 ·cases h
  exact ⟨aj,BP _ _ ,by rw [IZ];exact I0 _ _  hp⟩
 ·cases h
def pm (l:List (List Int)) (k:Int):Post:=⟨l.length≤1048576∧am l≤1048576∧0≤k∧k≤1073741824,.c (.int .i64 (k+(am l:Int))),[.tr [42,2] (.rows .i64 (aZ l k))]⟩
def uJ:List AD→Option Post
 | [.c (.rows .i64 (l)),.c (.int .i64 (k))]=>some (pm l k)
 | _=>none
def BR (l:List (List Int)) (k:Int):Nat→Option Ann
 | 0=>some (Ann.mk ((Nat)) (fun i=>⟨[(0,.c (.own (700))),(1,.c (.int .i64 (k+(am (l.take i):Int)))),(5,.c (.int .i64 ((i:Int))))],[(700,some (.tr 0 [42,2] (.rows .i64 (aZ (l.take i) k++l.drop i))))]⟩) (fun i=>i≤l.length) (fun i=>l.length - i) (fun _=>ax))
 | _=>none
def BS:List (Nat×Ctr):=[(33,⟨[(0,0)],uH⟩)]
def lD (l:List (List Int)) (k:Int) (x0:Nat):=((aZ (List.take x0 l) k++List.drop x0 l).getD ((↑x0:Int).toNat) [])
def uK (l:List (List Int)) (k:Int):Prop :=
 ((∃x0:Nat,((x0≤l.length)∧((k=k+(↑(am (List.take x0 l)):Int))∧(((0:Int)=(↑x0:Int))∧(l=aZ (List.take x0 l) k++List.drop x0 l)))))∧(∀x1:Nat,((x1≤l.length)→(ae (decide ((↑x1:Int)<(↑(FC.len (FC.rows IntKind.i64 (aZ (List.take x1 l) k++List.drop x1 l))):Int))) ((aa (↑x1:Int) (FC.len (FC.rows IntKind.i64 (aZ (List.take x1 l) k++List.drop x1 l))))∧((((ag ((lD l k x1).length))∧(((0:Int)≤k+(↑(am (List.take x1 l)):Int))∧(k+(↑(am (List.take x1 l)):Int)≤(1099511627776:Int))))∧(FC.len (FC.ints IntKind.i64 (bM (k+(↑(am (List.take x1 l)):Int)) ((lD l k x1).length)))=FC.len (FC.ints IntKind.i64 (lD l k x1))))∧((af ((↑x1:Int)+(1:Int)))∧(∃x2:Nat,((x2≤l.length)∧((l.length - x2<l.length - x1)∧((k+(↑(am (List.take x1 l)):Int)+(↑((lD l k x1).length):Int)=k+(↑(am (List.take x2 l)):Int))∧(((↑x1:Int)+(1:Int)=(↑x2:Int))∧(List.set (aZ (List.take x1 l) k++List.drop x1 l) ((↑x1:Int).toNat) (bM (k+(↑(am (List.take x1 l)):Int)) ((lD l k x1).length))=aZ (List.take x2 l) k++List.drop x2 l))))))))) ((k+(↑(am (List.take x1 l)):Int)=k+(↑(am l):Int))∧((aZ (List.take x1 l) k++List.drop x1 l=aZ l k)∧True))))))
theorem I3 (l:List (List Int)) (k:Int):aS Try.prog (ai BS) aj (BR l k) Try.f12 (aM Try.f12) [(0,0)] [.c (.rows .i64 (l)),.c (.int .i64 (k))] (pm l k)=uK l k:=by kernel_rfl
theorem I4 (l:List (List Int)) (k:Int) (Yh:(pm l k).pre):uK l k:=by
 simp only [pm,uK,lD,aR,true_and,and_true,decide_eq_true_eq,decide_eq_false_iff_not,bne_iff_ne,beq_iff_eq,bne_eq_false_iff_eq,beq_eq_false_iff_ne,Bool.not_eq_true,Bool.not_eq_false,Bool.not_true,Bool.not_false,Bool.not_eq_eq_eq_not,Int.toNat_natCast,List.length_append,List.length_take,List.length_replicate,List.length_set,List.length_map,List.length_drop,List.length_nil,List.length_cons,aI,aa,af,ag,aw,FC.len] at Yh ⊢;obtain ⟨h1,h2,h3,h4⟩:=Yh;refine ⟨⟨0,by omega,by simp [am],rfl,by simp [aZ]⟩,fun i hi=>?_⟩
 have hlen:(aZ (l.take i) k).length=i:=by rw [jT,List.length_take];omega
 rw [hlen];refine ⟨fun h=>?_,fun h=>?_⟩
 ·have q1:=pY l i (by omega)
  have q2:=pZ l (i+1)
  have hg:(aZ (l.take i) k++l.drop i).getD i []=l.getD i []:=by
   rw [getD_append_right' _ _ _ _ (by omega),hlen,oJ];simp
  have q3:=p9 (bN l [] i (by omega))
  rw [hg];refine ⟨by omega,by omega,by omega,i+1,by omega,by omega,by omega,by omega,?_⟩
  rw [qe l k i (by omega),List.set_append_right _ _ (by omega),hlen,Nat.sub_self,drop_cons' l [] i (by omega),List.set_cons_zero]
  simp
 ·rw [List.take_of_length_le (by omega),List.drop_of_length_le (by omega),List.append_nil]
  exact ⟨rfl,rfl⟩
theorem I5:Fits Try.prog 12 ⟨[(0,0)],uJ⟩:=by
 refine aY (Γ:=ai BS) (aC I2 aQ) Try.func12 fun ds p h hp=>?_
 unfold uJ at h;split at h
 ·cases h
  exact ⟨aj,BR _ _ ,by rw [I3];exact I4 _ _  hp⟩
 ·cases h
def pn (l:List (List (List Int))) (k:Int):Post:=⟨iH l∧bm l≤1048576∧0≤k∧k≤536870912,.c (.int .i64 (k+(bm l:Int))),[.tr [22,42,2] (.r3 .i64 (bv l k))]⟩
def uL:List AD→Option Post
 | [.c (.r3 .i64 (l)),.c (.int .i64 (k))]=>some (pn l k)
 | _=>none
def BT (l:List (List (List Int))) (k:Int):Nat→Option Ann
 | 0=>some (Ann.mk ((Nat)) (fun i=>⟨[(0,.c (.own (700))),(1,.c (.int .i64 (k+(bm (l.take i):Int)))),(5,.c (.int .i64 ((i:Int))))],[(700,some (.tr 0 [22,42,2] (.r3 .i64 (bv (l.take i) k++l.drop i))))]⟩) (fun i=>i≤l.length) (fun i=>l.length - i) (fun _=>ax))
 | _=>none
def BU:List (Nat×Ctr):=[(12,⟨[(0,0)],uJ⟩)]
def jS (l:List (List (List Int))) (k:Int) (x0:Nat):=((bv (List.take x0 l) k++List.drop x0 l).getD ((↑x0:Int).toNat) ([]:List (List Int)))
def uM (l:List (List (List Int))) (k:Int):Prop :=
 ((∃x0:Nat,((x0≤l.length)∧((k=k+(↑(bm (List.take x0 l)):Int))∧(((0:Int)=(↑x0:Int))∧(l=bv (List.take x0 l) k++List.drop x0 l)))))∧(∀x1:Nat,((x1≤l.length)→(ae (decide ((↑x1:Int)<(↑(FC.len (FC.r3 IntKind.i64 (bv (List.take x1 l) k++List.drop x1 l))):Int))) ((aa (↑x1:Int) (FC.len (FC.r3 IntKind.i64 (bv (List.take x1 l) k++List.drop x1 l))))∧(((((jS l k x1).length≤(1048576:Nat))∧((am (jS l k x1)≤(1048576:Nat))∧(((0:Int)≤k+(↑(bm (List.take x1 l)):Int))∧(k+(↑(bm (List.take x1 l)):Int)≤(1073741824:Int)))))∧(FC.len (FC.rows IntKind.i64 (aZ (jS l k x1) (k+(↑(bm (List.take x1 l)):Int))))=FC.len (FC.rows IntKind.i64 (jS l k x1))))∧((af ((↑x1:Int)+(1:Int)))∧(∃x2:Nat,((x2≤l.length)∧((l.length - x2<l.length - x1)∧((k+(↑(bm (List.take x1 l)):Int)+(↑(am (jS l k x1)):Int)=k+(↑(bm (List.take x2 l)):Int))∧(((↑x1:Int)+(1:Int)=(↑x2:Int))∧(List.set (bv (List.take x1 l) k++List.drop x1 l) ((↑x1:Int).toNat) (aZ (jS l k x1) (k+(↑(bm (List.take x1 l)):Int)))=bv (List.take x2 l) k++List.drop x2 l))))))))) ((k+(↑(bm (List.take x1 l)):Int)=k+(↑(bm l):Int))∧((bv (List.take x1 l) k++List.drop x1 l=bv l k)∧True))))))
theorem I6 (l:List (List (List Int))) (k:Int):aS Try.prog (ai BU) aj (BT l k) Try.f17 (aM Try.f17) [(0,0)] [.c (.r3 .i64 (l)),.c (.int .i64 (k))] (pn l k)=uM l k:=by kernel_rfl
theorem I7 (l:List (List (List Int))) (k:Int) (Yh:(pn l k).pre):uM l k:=by
 simp only [pn,uM,jS,aR,true_and,and_true,decide_eq_true_eq,decide_eq_false_iff_not,bne_iff_ne,beq_iff_eq,bne_eq_false_iff_eq,beq_eq_false_iff_ne,Bool.not_eq_true,Bool.not_eq_false,Bool.not_true,Bool.not_false,Bool.not_eq_eq_eq_not,Int.toNat_natCast,List.length_append,List.length_take,List.length_replicate,List.length_set,List.length_map,List.length_drop,List.length_nil,List.length_cons,aI,aa,af,ag,aw,FC.len] at Yh ⊢;obtain ⟨⟨h1,h0⟩,h2,h3,h4⟩:=Yh;refine ⟨⟨0,by omega,by simp [bm,cN],rfl,by simp [bv,c7]⟩,fun i hi=>?_⟩
 have hlen:(bv (l.take i) k).length=i:=by rw [uG,List.length_take];omega
 rw [hlen];refine ⟨fun h=>?_,fun h=>?_⟩
 ·obtain ⟨g1,g2⟩:=IU (f:=aZ) (c:=am) l [] k i (by omega)
  have q1:bm (l.take (i+1))=bm (l.take i)+am (l.getD i []):=BH am l [] i (by omega)
  have q2:bm (l.take (i+1))≤bm l:=BI am l (i+1)
  have q3:=h0 _ (bN l [] i (by omega))
  rw [show (bv (l.take i) k++l.drop i).getD i []=l.getD i [] from g1]
  refine ⟨by omega,⟨⟨q3,by omega,by omega,by omega⟩,jT _ _⟩,by omega,i+1,by omega,by omega,by omega,by omega,g2⟩
 ·rw [List.take_of_length_le (by omega),List.drop_of_length_le (by omega),List.append_nil]
  exact ⟨rfl,rfl⟩
theorem I8:Fits Try.prog 17 ⟨[(0,0)],uL⟩:=by
 refine aY (Γ:=ai BU) (aC I5 aQ) Try.func17 fun ds p h hp=>?_
 unfold uL at h;split at h
 ·cases h
  exact ⟨aj,BT _ _ ,by rw [I6];exact I7 _ _  hp⟩
 ·cases h
def po (l:List (List (List Int))) (k:Int):Post:=⟨iH l∧bm l≤1048576∧0≤k∧k≤536870912,.c (.int .i64 (if l=bv l k then k+(bm l:Int) else -1)),[]⟩
def uN:List AD→Option Post
 | [.c (.r3 .i64 (l)),.c (.int .i64 (k))]=>some (po l k)
 | _=>none
def BV (l:List (List (List Int))) (k:Int):Nat→Option Ann
 | 0=>some (Ann.mk ((Nat)) (fun i=>⟨[(0,.c (.ro (.r3 .i64 (l)))),(1,.c (.int .i64 (k+(bm (l.take i):Int)))),(5,.c (.int .i64 ((i:Int))))],[]⟩) (fun i=>i≤l.length∧l.take i=bv (l.take i) k) (fun i=>l.length - i) (fun _=>ax))
 | _=>none
def BW:List (Nat×Ctr):=[(13,⟨[],wb⟩)]
def uO (l:List (List (List Int))) (k:Int):Prop :=
 ((∃x0:Nat,(((x0≤l.length)∧(List.take x0 l=bv (List.take x0 l) k))∧((l=l)∧((k=k+(↑(bm (List.take x0 l)):Int))∧((0:Int)=(↑x0:Int))))))∧(∀x1:Nat,(((x1≤l.length)∧(List.take x1 l=bv (List.take x1 l) k))→(ae (decide ((↑x1:Int)<(↑(l.length):Int))) ((aa (↑x1:Int) (l.length))∧(((((l.getD ((↑x1:Int).toNat) ([]:List (List Int))).length≤(1048576:Nat))∧((am (l.getD ((↑x1:Int).toNat) ([]:List (List Int)))≤(1048576:Nat))∧(((0:Int)≤k+(↑(bm (List.take x1 l)):Int))∧(k+(↑(bm (List.take x1 l)):Int)≤(1073741824:Int)))))∧True)∧(ae (decide ((if l.getD ((↑x1:Int).toNat) ([]:List (List Int))=aZ (l.getD ((↑x1:Int).toNat) ([]:List (List Int))) (k+(↑(bm (List.take x1 l)):Int)) then k+(↑(bm (List.take x1 l)):Int)+(↑(am (l.getD ((↑x1:Int).toNat) ([]:List (List Int)))):Int) else (-1:Int))<(0:Int))) (((-1:Int)=if l=bv l k then k+(↑(bm l):Int) else (-1:Int))∧True) ((af ((↑x1:Int)+(1:Int)))∧(∃x2:Nat,(((x2≤l.length)∧(List.take x2 l=bv (List.take x2 l) k))∧((l.length - x2<l.length - x1)∧((l=l)∧(((if l.getD ((↑x1:Int).toNat) ([]:List (List Int))=aZ (l.getD ((↑x1:Int).toNat) ([]:List (List Int))) (k+(↑(bm (List.take x1 l)):Int)) then k+(↑(bm (List.take x1 l)):Int)+(↑(am (l.getD ((↑x1:Int).toNat) ([]:List (List Int)))):Int) else (-1:Int))=k+(↑(bm (List.take x2 l)):Int))∧((↑x1:Int)+(1:Int)=(↑x2:Int)))))))))))
 ((k+(↑(bm (List.take x1 l)):Int)=if l=bv l k then k+(↑(bm l):Int) else (-1:Int))∧True)))))
theorem I9 (l:List (List (List Int))) (k:Int):aS Try.prog (ai BW) aj (BV l k) Try.f18 (aM Try.f18) [] [.c (.r3 .i64 (l)),.c (.int .i64 (k))] (po l k)=uO l k:=by kernel_rfl
theorem Ja (l:List (List (List Int))) (k:Int) (Yh:(po l k).pre):uO l k:=by
 simp only [po,uO,aR,true_and,and_true,decide_eq_true_eq,decide_eq_false_iff_not,bne_iff_ne,beq_iff_eq,bne_eq_false_iff_eq,beq_eq_false_iff_ne,Bool.not_eq_true,Bool.not_eq_false,Bool.not_true,Bool.not_false,Bool.not_eq_eq_eq_not,Int.toNat_natCast,List.length_append,List.length_take,List.length_replicate,List.length_set,List.length_map,List.length_drop,List.length_nil,List.length_cons,aI,aa,af,ag,aw,FC.len] at Yh ⊢;obtain ⟨⟨h1,h0⟩,h2,h3,h4⟩:=Yh;refine ⟨⟨0,⟨by omega,rfl⟩,by simp [bm,cN],rfl⟩,fun i ⟨hi,he⟩=>⟨fun h=>?_,fun h=>?_⟩⟩
 ·have q1:bm (l.take (i+1))=bm (l.take i)+am (l.getD i []):=BH am l [] i (by omega)
  have q2:bm (l.take (i+1))≤bm l:=BI am l (i+1)
  have q3:=h0 _ (bN l [] i (by omega))
  refine ⟨by omega,⟨q3,by omega,by omega,by omega⟩,fun h5=>?_,fun h5=>?_⟩
  ·split at h5
   ·omega
   ·rename_i h6
    rw [if_neg];intro e
    apply h6
    conv=>lhs;rw [e]
    exact IT (f:=aZ) (c:=am) l [] k i (by omega)
  ·split at h5
   ·rename_i h6
    refine ⟨by omega,i+1,⟨by omega,?_⟩,by omega,?_,by omega⟩
    ·rw [show bv (l.take (i+1)) k=bv (l.take i) k++[aZ (l.getD i []) (k+(bm (l.take i):Int))] from uF (f:=aZ) (c:=am) l [] k i (by omega),←he,←h6,dK _ _ _ (by omega)]
    ·rw [if_pos h6];omega
   ·omega
 ·rw [List.take_of_length_le (by omega)] at he ⊢
  rw [if_pos he]
theorem Jb:Fits Try.prog 18 ⟨[],uN⟩:=by
 refine aY (Γ:=ai BW) (aC Kw aQ) Try.func18 fun ds p h hp=>?_
 unfold uN at h;split at h
 ·cases h
  exact ⟨aj,BV _ _ ,by rw [I9];exact Ja _ _  hp⟩
 ·cases h
end Go.Sx
