/- Quot -/
import Derived.Test.YtcdmndagoafcgaaGreatIds
open Go Go.Proofs
namespace Go.Sx
set_option linter.unusedSimpArgs false
set_option linter.unusedVariables false
theorem JW (l:List Int):(bR l).length=l.length:=cf _ _
theorem uK (l:List Int) (i:Nat) (h:i<l.length):(bR l).getD i 0=bo (l.getD i 0) (bh l (i+1)) 0:=cr _ _ _ h
theorem JX (t:List (List Int)) (s:Int):(cg t s).length=t.length:=cf _ _
def uL (l:List Int):Post:=⟨l.length≤1000,.c (.ints 2 .i64 (bR l)),[]⟩
def BW:List AD→Option Post
 | [.c (.ints .i64 (l))]=>some (uL l)
 | _=>none
def JY (l:List Int):Nat→Option Ann
 | 0=>some (Ann.mk ((Nat)) (fun i=>⟨[(3,.c (.own (3))),(4,.c (.own (10))),(11,.c (.ro (.ints .i64 (l)))),(12,.c (.int .i64 ((l.length:Int)))),(13,.c (.int .i64 ((i:Int))))],[(3,some (.ints 2 .i64 (bh l i))),(10,some (.ints 2 .i64 ((bR l).take i++List.replicate (l.length - i) 0)))]⟩) (fun i=>i≤l.length) (fun i=>l.length - i) (fun _=>am))
 | _=>none
def JZ:List (Nat×Ctr):=[(218,⟨[],sA⟩)]
def BX (l:List Int):Prop :=
 ((((0:Int)≤(↑(l.length):Int))∧(((↑(l.length):Int)≤(↑(l.length):Int))∧(ae ((↑(l.length):Int).toNat))))∧((∃x0:Nat,((x0≤l.length)∧((l=l)∧(((↑(l.length):Int)=(↑(l.length):Int))∧(((0:Int)=(↑x0:Int))∧((bh l x0=[])∧(List.replicate ((↑(l.length):Int).toNat) (0:Int)=List.take x0 (bR l)++List.replicate (l.length - x0) (0:Int))))))))∧(∀x1:Nat,((x1≤l.length)→(ac (decide ((↑x1:Int)<(↑(l.length):Int))) ((aa (↑x1:Int) (l.length))∧((((bh l x1).length≤(1099511627776:Nat))∧True)∧(ac (decide (bo (l.getD ((↑x1:Int).toNat) (0:Int)) (bh l x1) (0:Int)<(0:Int))) ((ae ((bh l x1).length+[l.getD ((↑x1:Int).toNat) (0:Int)].length))∧((aa (↑x1:Int) ((List.take x1 (bR l)++List.replicate (l.length - x1) (0:Int)).length))∧((ab ((↑x1:Int)+(1:Int)))∧(∃x2:Nat,((x2≤l.length)∧((l.length - x2<l.length - x1)∧((l=l)∧(((↑(l.length):Int)=(↑(l.length):Int))∧(((↑x1:Int)+(1:Int)=(↑x2:Int))∧((bh l x1++[l.getD ((↑x1:Int).toNat) (0:Int)]=bh l x2)∧(List.set (List.take x1 (bR l)++List.replicate (l.length - x1) (0:Int)) ((↑x1:Int).toNat) (↑((bh l x1).length):Int)=List.take x2 (bR l)++List.replicate (l.length - x2) (0:Int)))))))))))) ((aa (↑x1:Int) ((List.take x1 (bR l)++List.replicate (l.length - x1) (0:Int)).length))∧((ab ((↑x1:Int)+(1:Int)))∧(∃x3:Nat,((x3≤l.length)∧((l.length - x3<l.length - x1)∧((l=l)∧(((↑(l.length):Int)=(↑(l.length):Int))∧(((↑x1:Int)+(1:Int)=(↑x3:Int))∧((bh l x1=bh l x3) ∧
 (List.set (List.take x1 (bR l)++List.replicate (l.length - x1) (0:Int)) ((↑x1:Int).toNat) (bo (l.getD ((↑x1:Int).toNat) (0:Int)) (bh l x1) (0:Int))=List.take x3 (bR l)++List.replicate (l.length - x3) (0:Int)))))))))))))) ((List.take x1 (bR l)++List.replicate (l.length - x1) (0:Int)=bR l)∧True))))))
theorem Tq (l:List Int):aC Tryz.prog (af JZ) ah (JY l) Tryz.f191 (aE Tryz.f191) [] [.c (.ints .i64 (l))] (uL l)=BX l:=by kernel_rfl
theorem Tr (l:List Int) (Yh:(uL l).pre):BX l:=by
 simp only [uL,BX,aG,u1,u2,u3,u4,u5,u6,u7,u8,u9,v1,v2,v3,v4,v5,v6,v7,v8,v9,w1,w2,w3,w4,aH,aa,ab,ae,ar] at Yh ⊢;have hl:=JW l
 refine ⟨by omega,⟨0,by omega,rfl,rfl,by simp⟩,fun i hi=>⟨fun h=>?_,fun h=>?_⟩⟩
 ·have sl:=Ah l i
  have fs:=Fp (bR l) 0 0 i (by omega)
  rw [hl] at fs;refine ⟨by omega,by omega,fun h2=>?_,fun h2=>?_⟩
  ·have hm:l.getD i 0 ∉ bh l i:=fun hm=>by have:=Ag _ _ hm;omega
   have e2:bh l (i+1)=bh l i++[l.getD i 0]:=if_neg hm
   have e3:(bR l).getD i 0=((bh l i).length:Int):=by rw [uK l i (by omega),e2,tk _ _ _ hm,Int.zero_add]
   rw [e3] at fs;exact ⟨by omega,by omega,by omega,i+1,by omega,by omega,by omega,e2.symm,fs⟩
  ·have hm:l.getD i 0∈bh l i:=by
    by_cases hm:l.getD i 0∈bh l i
    ·exact hm
    ·rw [HX _ _ _ hm] at h2;omega
   have e2:bh l (i+1)=bh l i:=if_pos hm
   have e3:(bR l).getD i 0=bo (l.getD i 0) (bh l i) 0:=by rw [uK l i (by omega),e2]
   rw [e3] at fs;exact ⟨by omega,by omega,i+1,by omega,by omega,by omega,e2.symm,fs⟩
 ·rw [List.take_of_length_le (by omega),show l.length - i=0 by omega];simp
theorem Ts:Fits Tryz.prog 191 ⟨[],BW⟩:=by
 refine aJ (Γ:=af JZ) (aj Hm aF) Tryz.func191 fun ds p h hp=>?_
 unfold BW at h;split at h
 ·cases h
  exact ⟨ah,JY _ ,by rw [Tq];exact Tr _  hp⟩
 ·cases h
def uM (l:List Int):Post:=⟨l.length≤1000,.c (.ints 2 .i64 (bR l)),[]⟩
def BY:List AD→Option Post
 | [.c (.ints .i64 (l))]=>some (uM l)
 | _=>none
def J0 (l:List Int):Nat→Option Ann
 | 0=>some (Ann.mk ((Nat)) (fun i=>⟨[(0,.c (.ro (.ints .i64 (l)))),(3,.c (.own (6))),(4,.c (.own (7))),(5,.c (.int .i64 ((i:Int))))],[(6,some (.ints 2 .i64 ((bR l).take i))),(7,some (.ints 2 .i64 (bh l i)))]⟩) (fun i=>i≤l.length) (fun i=>l.length - i) (fun _=>am))
 | _=>none
def J1:List (Nat×Ctr):=[(221,⟨[],pH⟩),(247,⟨[],pG⟩)]
def BZ (l:List Int):Prop :=
 ((∃x0:Nat,((x0≤l.length)∧((l=l)∧(((0:Int)=(↑x0:Int))∧(([]=List.take x0 (bR l))∧([]=bh l x0))))))∧(∀x1:Nat,((x1≤l.length)→(ac (decide ((↑x1:Int)<(↑(l.length):Int))) ((aa (↑x1:Int) (l.length))∧((((bh l x1).length≤(1099511627776:Nat))∧True)∧(ac (!decide (l.getD ((↑x1:Int).toNat) (0:Int)∈bh l x1)) ((aa (↑x1:Int) (l.length))∧((ae ((bh l x1).length+[l.getD ((↑x1:Int).toNat) (0:Int)].length))∧((aa (↑x1:Int) (l.length))∧((((bh l x1++[l.getD ((↑x1:Int).toNat) (0:Int)]).length≤(1099511627776:Nat))∧True)∧((ae ((List.take x1 (bR l)).length+[bo (l.getD ((↑x1:Int).toNat) (0:Int)) (bh l x1++[l.getD ((↑x1:Int).toNat) (0:Int)]) (0:Int)].length))∧((ab ((↑x1:Int)+(1:Int)))∧(∃x2:Nat,((x2≤l.length)∧((l.length - x2<l.length - x1)∧((l=l)∧(((↑x1:Int)+(1:Int)=(↑x2:Int))∧((List.take x1 (bR l)++[bo (l.getD ((↑x1:Int).toNat) (0:Int)) (bh l x1++[l.getD ((↑x1:Int).toNat) (0:Int)]) (0:Int)]=List.take x2 (bR l))∧(bh l x1++[l.getD ((↑x1:Int).toNat) (0:Int)]=bh l x2))))))))))))) ((aa (↑x1:Int) (l.length))∧((((bh l x1).length≤(1099511627776:Nat))∧True)∧((ae ((List.take x1 (bR l)).length+[bo (l.getD ((↑x1:Int).toNat) (0:Int)) (bh l x1) (0:Int)].length))∧((ab ((↑x1:Int)+(1:Int)))∧(∃x3:Nat,((x3≤l.length)∧((l.length - x3<l.length - x1)∧((l=l)∧(((↑x1:Int)+(1:Int)=(↑x3:Int))∧((List.take x1 (bR l)++[bo (l.getD ((↑x1:Int).toNat) (0:Int)) (bh l x1) (0:Int)]=List.take x3 (bR l)) ∧
 (bh l x1=bh l x3)))))))))))))) ((List.take x1 (bR l)=bR l)∧True)))))
theorem Tt (l:List Int):aC Tryz.prog (af J1) ah (J0 l) Tryz.f194 (aE Tryz.f194) [] [.c (.ints .i64 (l))] (uM l)=BZ l:=by kernel_rfl
theorem Tu (l:List Int) (Yh:(uM l).pre):BZ l:=by
 simp only [uM,BZ,aG,u1,u2,u3,u4,u5,u6,u7,u8,u9,v1,v2,v3,v4,v5,v6,v7,v8,v9,w1,w2,w3,w4,aH,aa,ab,ae,ar] at Yh ⊢;have hl:=JW l
 refine ⟨⟨0,by omega,rfl,rfl,rfl⟩,fun i hi=>⟨fun h=>?_,fun h=>List.take_of_length_le (by omega)⟩⟩
 have sl:=Ah l i
 have ts:=dF (bR l) 0 i (by omega)
 refine ⟨by omega,by omega,fun hm=>?_,fun hm=>?_⟩
 ·have e2:bh l (i+1)=bh l i++[l.getD i 0]:=if_neg hm
  have e3:(bR l).getD i 0=bo (l.getD i 0) (bh l i++[l.getD i 0]) 0:=by rw [uK l i (by omega),e2]
  rw [e3] at ts;exact ⟨by omega,by omega,by omega,by omega,by omega,by omega,i+1,by omega,by omega,by omega,ts,e2.symm⟩
 ·have e2:bh l (i+1)=bh l i:=if_pos hm
  have e3:(bR l).getD i 0=bo (l.getD i 0) (bh l i) 0:=by rw [uK l i (by omega),e2]
  rw [e3] at ts;exact ⟨by omega,by omega,by omega,by omega,i+1,by omega,by omega,by omega,ts,e2.symm⟩
theorem Tv:Fits Tryz.prog 194 ⟨[],BY⟩:=by
 refine aJ (Γ:=af J1) (aj Bn (aj Bk aF)) Tryz.func194 fun ds p h hp=>?_
 unfold BY at h;split at h
 ·cases h
  exact ⟨ah,J0 _ ,by rw [Tt];exact Tu _  hp⟩
 ·cases h
def je (t:List (List Int)) (s:Int) (i j:Nat):Int:=((ag s 12).take j).foldl (fun m y=>mn m (en t i y.toNat)) (i:Int)
def uN (t:List (List Int)) (s:Int):Post:=⟨bu t s,.c (.ints 2 .i64 (a8 t s)),[]⟩
def B4:List AD→Option Post
 | [.c (.rows .i64 (t)),.c (.int .i64 (s))]=>some (uN t s)
 | _=>none
def J2 (t:List (List Int)) (s:Int):Nat→Option Ann
 | 0=>some (Ann.mk ((Nat)) (fun i=>⟨[(0,.c (.ro (.rows .i64 (t)))),(1,.c (.int .i64 (s))),(5,.c (.own (11))),(13,.c (.int .i64 ((t.length:Int)))),(14,.c (.int .i64 ((i:Int))))],[(11,some (.ints 2 .i64 ((cg t s).take i++List.replicate (t.length - i) 0)))]⟩) (fun i=>i≤t.length) (fun i=>t.length - i) (fun i=>fun b_=>match b_ with | 2=>some (Ann.mk ((Nat)) (fun j=>⟨[(0,.c (.ro (.rows .i64 (t)))),(1,.c (.int .i64 (s))),(5,.c (.own (11))),(13,.c (.int .i64 ((t.length:Int)))),(14,.c (.int .i64 ((i:Int)))),(6,.c (.int .i64 ((i:Int)))),(22,.c (.own (22))),(23,.c (.int .i64 (((ag s 12).length:Int)))),(24,.c (.int .i64 ((j:Int))))],[(11,some (.ints 2 .i64 ((cg t s).take i++je t s i j::List.replicate (t.length - (i+1)) 0))),(22,some (.ints 2 .i64 (ag s 12)))]⟩) (fun j=>j≤(ag s 12).length∧i<t.length) (fun j=>(ag s 12).length - j) (fun _=>am)) | _=>none))
 | _=>none
def J3:List (Nat×Ctr):=[(92,⟨[],lQ⟩),(191,⟨[],BW⟩)]
def pR (t:List (List Int)) (s:Int) (x0:Nat) (x1:Nat):=(List.take x0 (cg t s)++je t s x0 x1::List.replicate (t.length - (x0+(1:Nat))) (0:Int))
def B5 (t:List (List Int)) (s:Int):Prop :=
 ((((0:Int)≤(↑(t.length):Int))∧(((↑(t.length):Int)≤(↑(t.length):Int))∧(ae ((↑(t.length):Int).toNat))))∧((∃x0:Nat,((x0≤t.length)∧((t=t)∧((s=s)∧(((↑(t.length):Int)=(↑(t.length):Int))∧(((0:Int)=(↑x0:Int))∧(List.replicate ((↑(t.length):Int).toNat) (0:Int)=List.take x0 (cg t s)++List.replicate (t.length - x0) (0:Int))))))))∧(∀x1:Nat,((x1≤t.length)→(ac (decide ((↑x1:Int)<(↑(t.length):Int))) ((aa (↑x1:Int) ((List.take x1 (cg t s)++List.replicate (t.length - x1) (0:Int)).length))∧(((((0:Int)≤s)∧(s<(4096:Int)))∧True)∧((∃x2:Nat,(((x2≤(ag s (12:Nat)).length)∧(x1<t.length))∧((t=t)∧((s=s)∧(((↑(t.length):Int)=(↑(t.length):Int))∧(((↑x1:Int)=(↑x1:Int))∧(((↑x1:Int)=(↑x1:Int))∧(((↑((ag s (12:Nat)).length):Int)=(↑((ag s (12:Nat)).length):Int))∧(((0:Int)=(↑x2:Int))∧((List.set (List.take x1 (cg t s)++List.replicate (t.length - x1) (0:Int)) ((↑x1:Int).toNat) (↑x1:Int)=List.take x1 (cg t s)++je t s x1 x2::List.replicate (t.length - (x1+(1:Nat))) (0:Int))∧(ag s (12:Nat)=ag s (12:Nat))))))))))))∧(∀x3:Nat,(((x3≤(ag s (12:Nat)).length)∧(x1<t.length))→(ac (decide ((↑x3:Int)<(↑((ag s (12:Nat)).length):Int))) ((aa (↑x3:Int) ((ag s (12:Nat)).length))∧((aa (↑x1:Int) ((pR t s x1 x3).length))∧((aa (↑x1:Int) (t.length))∧((aa ((ag s (12:Nat)).getD ((↑x3:Int).toNat) (0:Int)) ((t.getD ((↑x1:Int).toNat) []).length))∧((aa (↑x1:Int) ((pR t s x1 x3).length))∧((ab ((↑x3:Int)+(1:Int))) ∧
 (∃x4:Nat,(((x4≤(ag s (12:Nat)).length)∧(x1<t.length))∧(((ag s (12:Nat)).length - x4<(ag s (12:Nat)).length - x3)∧((t=t)∧((s=s)∧(((↑(t.length):Int)=(↑(t.length):Int))∧(((↑x1:Int)=(↑x1:Int))∧(((↑x1:Int)=(↑x1:Int))∧(((↑((ag s (12:Nat)).length):Int)=(↑((ag s (12:Nat)).length):Int))∧(((↑x3:Int)+(1:Int)=(↑x4:Int))∧((List.set (pR t s x1 x3) ((↑x1:Int).toNat) (if (List.getD t ((↑x1:Int).toNat) []).getD (((ag s (12:Nat)).getD ((↑x3:Int).toNat) (0:Int)).toNat) (0:Int)<(List.take x1 (cg t s)++je t s x1 x3::List.replicate (t.length - (x1+(1:Nat))) (0:Int)).getD ((↑x1:Int).toNat) (0:Int) then (List.getD t ((↑x1:Int).toNat) []).getD (((ag s (12:Nat)).getD ((↑x3:Int).toNat) (0:Int)).toNat) (0:Int) else (pR t s x1 x3).getD ((↑x1:Int).toNat) (0:Int))=List.take x1 (cg t s)++je t s x1 x4::List.replicate (t.length - (x1+(1:Nat))) (0:Int))∧(ag s (12:Nat)=ag s (12:Nat))))))))))))))))))) ((ab ((↑x1:Int)+(1:Int)))∧(∃x5:Nat,((x5≤t.length)∧((t.length - x5<t.length - x1)∧((t=t)∧((s=s)∧(((↑(t.length):Int)=(↑(t.length):Int))∧(((↑x1:Int)+(1:Int)=(↑x5:Int))∧(List.take x1 (cg t s)++je t s x1 x3::List.replicate (t.length - (x1+(1:Nat))) (0:Int)=List.take x5 (cg t s)++List.replicate (t.length - x5) (0:Int)))))))))))))))) ((((List.take x1 (cg t s)++List.replicate (t.length - x1) (0:Int)).length≤(1000:Nat))∧True)∧((bR (List.take x1 (cg t s)++List.replicate (t.length - x1) (0:Int))=a8 t s) ∧
 True)))))))
theorem Tw (t:List (List Int)) (s:Int):aC Tryz.prog (af J3) ah (J2 t s) Tryz.f139 (aE Tryz.f139) [] [.c (.rows .i64 (t)),.c (.int .i64 (s))] (uN t s)=B5 t s:=by kernel_rfl
theorem Tx (t:List (List Int)) (s:Int) (Yh:(uN t s).pre):B5 t s:=by
 simp only [uN,B5,pR,aG,u1,u2,u3,u4,u5,u6,u7,u8,u9,v1,v2,v3,v4,v5,v6,v7,v8,v9,w1,w2,w3,w4,aH,aa,ab,ae,ar] at Yh ⊢;have S:=gv Yh
 obtain ⟨n1,n2,ht⟩:=bA Yh.1;have E:=pc Yh
 have eL:=nv s 12
 have hl:=JX t s
 refine ⟨by omega,⟨0,by omega,rfl,by simp⟩,fun i hi=>⟨fun h=>?_,fun h=>?_⟩⟩
 ·have tl:((cg t s).take i).length=i:=by rw [List.length_take];omega
  have er:List.replicate (t.length - i) (0:Int)=0::List.replicate (t.length - (i+1)) 0:=by rw [show t.length - i=(t.length - (i+1))+1 by omega];rfl
  refine ⟨by omega,by omega,⟨0,by omega,rfl,by rw [er,oJ _ _ _ _ _ tl];rfl⟩,fun j ⟨hj,_⟩=>⟨fun h3=>?_,fun h3=>?_⟩⟩
  ·have B:=E j (by omega)
   have r:=ht i (by omega)
   have e1:je t s i (j+1)=mn (je t s i j) (en t i ((ag s 12).getD j 0).toNat):=by
    rw [je,←dF _ 0 j (by omega),List.foldl_append];rfl
   rw [xu _ _ _ _ _ tl,oJ _ _ _ _ _ tl];exact ⟨by omega,by omega,by omega,by omega,by omega,by omega,j+1,by omega,by omega,by omega,by rw [e1];rfl⟩
  ·have e1:je t s i j=(cg t s).getD i 0:=by
    have n12:=HV (t:=t) Yh.2.2 i (12 - t.length)
    rw [show t.length+(12 - t.length)=12 by omega] at n12
    rw [je,List.take_of_length_le (by omega),Af,n12,cg,cr _ _ _ (by omega)]
   refine ⟨by omega,i+1,by omega,by omega,by omega,?_⟩
   rw [e1,←dF _ 0 i (by omega),List.append_assoc];rfl
 ·rw [List.take_of_length_le (by omega),show t.length - i=0 by omega,List.replicate_zero,List.append_nil]
  exact ⟨by omega,rfl⟩
theorem Ty:Fits Tryz.prog 139 ⟨[],B4⟩:=by
 refine aJ (Γ:=af J3) (aj oY (aj Ts aF)) Tryz.func139 fun ds p h hp=>?_
 unfold B4 at h;split at h
 ·cases h
  exact ⟨ah,J2 _ _ ,by rw [Tw];exact Tx _ _  hp⟩
 ·cases h
def uO (t:List (List Int)) (s:Int):Post:=⟨bu t s,.c (.ints 2 .i64 (a8 t s)),[]⟩
def B6:List AD→Option Post
 | [.c (.rows .i64 (t)),.c (.int .i64 (s))]=>some (uO t s)
 | _=>none
def J4 (t:List (List Int)) (s:Int):Nat→Option Ann
 | 0=>some (Ann.mk ((Nat)) (fun i=>⟨[(0,.c (.ro (.rows .i64 (t)))),(1,.c (.int .i64 (s))),(5,.c (.own (9))),(6,.c (.int .i64 ((i:Int))))],[(9,some (.ints 2 .i64 ((cg t s).take i)))]⟩) (fun i=>i≤t.length) (fun i=>t.length - i) (fun i=>fun b_=>match b_ with | 2=>some (Ann.mk ((Nat)) (fun j=>⟨[(0,.c (.ro (.rows .i64 (t)))),(1,.c (.int .i64 (s))),(5,.c (.own (9))),(6,.c (.int .i64 ((i:Int)))),(7,.c (.int .i64 (dI t s i j))),(8,.c (.int .i64 ((j:Int))))],[(9,some (.ints 2 .i64 ((cg t s).take i)))]⟩) (fun j=>j≤t.length∧i<t.length) (fun j=>t.length - j) (fun _=>am)) | _=>none))
 | _=>none
def J5:List (Nat×Ctr):=[(194,⟨[],BY⟩)]
def B7 (t:List (List Int)) (s:Int):Prop :=
 ((∃x0:Nat,((x0≤t.length)∧((t=t)∧((s=s)∧(((0:Int)=(↑x0:Int))∧([]=List.take x0 (cg t s)))))))∧(∀x1:Nat,((x1≤t.length)→(ac (decide ((↑x1:Int)<(↑(t.length):Int))) ((∃x2:Nat,(((x2≤t.length)∧(x1<t.length))∧((t=t)∧((s=s)∧(((↑x1:Int)=(↑x1:Int))∧(((↑x1:Int)=dI t s x1 x2)∧(((0:Int)=(↑x2:Int))∧(List.take x1 (cg t s)=List.take x1 (cg t s)))))))))∧(∀x3:Nat,(((x3≤t.length)∧(x1<t.length))→(ac (decide ((↑x3:Int)<(↑(t.length):Int))) ((((0:Int)≤IntKind.wrap IntKind.u64 (↑x3:Int))∧(IntKind.wrap IntKind.u64 (↑x3:Int)≤(62:Int)))∧(((IntKind.i64=IntKind.i64)∧((((0:Int)≤s / (2:Int) ^ (IntKind.wrap IntKind.u64 (↑x3:Int)).toNat)∧(s / (2:Int) ^ (IntKind.wrap IntKind.u64 (↑x3:Int)).toNat≤(9223372036854775807:Int)))∧(((0:Int)≤(1:Int))∧((1:Int)≤(9223372036854775807:Int)))))∧(ac ((↑((s / (2:Int) ^ (IntKind.wrap IntKind.u64 (↑x3:Int)).toNat).toNat &&& (1:Int).toNat):Int) == (1:Int)) ((aa (↑x1:Int) (t.length))∧((aa (↑x3:Int) ((t.getD ((↑x1:Int).toNat) []).length))∧((ab ((↑x3:Int)+(1:Int)))∧(∃x4:Nat,(((x4≤t.length)∧(x1<t.length))∧((t.length - x4<t.length - x3)∧((t=t)∧((s=s)∧(((↑x1:Int)=(↑x1:Int))∧(((if (List.getD t ((↑x1:Int).toNat) []).getD ((↑x3:Int).toNat) (0:Int)<dI t s x1 x3 then (List.getD t ((↑x1:Int).toNat) []).getD ((↑x3:Int).toNat) (0:Int) else dI t s x1 x3)=dI t s x1 x4)∧(((↑x3:Int)+(1:Int)=(↑x4:Int))∧(List.take x1 (cg t s)=List.take x1 (cg t s))))))))))))) ((ab ((↑x3:Int)+(1:Int))) ∧
 (∃x5:Nat,(((x5≤t.length)∧(x1<t.length))∧((t.length - x5<t.length - x3)∧((t=t)∧((s=s)∧(((↑x1:Int)=(↑x1:Int))∧((dI t s x1 x3=dI t s x1 x5)∧(((↑x3:Int)+(1:Int)=(↑x5:Int))∧(List.take x1 (cg t s)=List.take x1 (cg t s)))))))))))))) ((ae ((List.take x1 (cg t s)).length+[dI t s x1 x3].length))∧((ab ((↑x1:Int)+(1:Int)))∧(∃x6:Nat,((x6≤t.length)∧((t.length - x6<t.length - x1)∧((t=t)∧((s=s)∧(((↑x1:Int)+(1:Int)=(↑x6:Int))∧(List.take x1 (cg t s)++[dI t s x1 x3]=List.take x6 (cg t s)))))))))))))) ((((List.take x1 (cg t s)).length≤(1000:Nat))∧True)∧((bR (List.take x1 (cg t s))=a8 t s)∧True))))))
theorem Tz (t:List (List Int)) (s:Int):aC Tryz.prog (af J5) ah (J4 t s) Tryz.f142 (aE Tryz.f142) [] [.c (.rows .i64 (t)),.c (.int .i64 (s))] (uO t s)=B7 t s:=by kernel_rfl
theorem TA (t:List (List Int)) (s:Int) (Yh:(uO t s).pre):B7 t s:=by
 simp only [uO,B7,aG,u1,u2,u3,u4,u5,u6,u7,u8,u9,v1,v2,v3,v4,v5,v6,v7,v8,v9,w1,w2,w3,w4,aH,aa,ab,ae,ar] at Yh ⊢;have S:=gv Yh
 obtain ⟨n1,n2,ht⟩:=bA Yh.1;have hl:=JX t s
 refine ⟨⟨0,by omega,rfl,rfl⟩,fun i hi=>⟨fun h=>⟨⟨0,by omega,rfl,rfl⟩,fun j ⟨hj,_⟩=>⟨fun h3=>?_,fun h3=>?_⟩⟩,fun h=>?_⟩⟩
 ·have r:=ht i (by omega)
  have w2:IntKind.u64.wrap (j:Int)=(j:Int):=iX (by omega)
  simp only [w2,Int.toNat_natCast,oV S.1,sf S.1];refine ⟨by omega,⟨oW S.1 _ (by omega),by omega,by omega⟩,fun b=>⟨by omega,by omega,by omega,j+1,by omega,by omega,?_,by omega⟩,fun b=>⟨by omega,j+1,by omega,by omega,?_,by omega⟩⟩
  ·rw [dI,if_pos b];rfl
  ·rw [dI,if_neg (by rw [b];decide)]
 ·refine ⟨by omega,by omega,i+1,by omega,by omega,by omega,?_⟩
  rw [←dF _ 0 i (by omega),cg,cr _ _ _ (by omega),show j=t.length by omega]
 ·rw [List.take_of_length_le (by omega)]
  exact ⟨by omega,rfl⟩
theorem TB:Fits Tryz.prog 142 ⟨[],B6⟩:=by
 refine aJ (Γ:=af J5) (aj Tv aF) Tryz.func142 fun ds p h hp=>?_
 unfold B6 at h;split at h
 ·cases h
  exact ⟨ah,J4 _ _ ,by rw [Tz];exact TA _ _  hp⟩
 ·cases h
def uP (cl:List Int):Post:=⟨cl.length≤1000,.c (.ints 2 .i64 (bj cl cl.length)),[]⟩
def B8:List AD→Option Post
 | [.c (.ints .i64 (cl))]=>some (uP cl)
 | _=>none
def J6 (cl:List Int):Nat→Option Ann
 | 0=>some (Ann.mk ((Nat)) (fun i=>⟨[(3,.c (.own (3))),(6,.c (.ro (.ints .i64 (cl)))),(7,.c (.int .i64 ((cl.length:Int)))),(8,.c (.int .i64 ((i:Int))))],[(3,some (.ints 2 .i64 (bj cl i)))]⟩) (fun i=>i≤cl.length) (fun i=>cl.length - i) (fun _=>am))
 | _=>none
def J7:List (Nat×Ctr):=[]
def B9 (cl:List Int):Prop :=
 ((∃x0:Nat,((x0≤cl.length)∧((cl=cl)∧(((↑(cl.length):Int)=(↑(cl.length):Int))∧(((0:Int)=(↑x0:Int))∧(bj cl x0=[]))))))∧(∀x1:Nat,((x1≤cl.length)→(ac (decide ((↑x1:Int)<(↑(cl.length):Int))) ((aa (↑x1:Int) (cl.length))∧(ac (cl.getD ((↑x1:Int).toNat) (0:Int) == (↑((bj cl x1).length):Int)) ((ae ((bj cl x1).length+[(↑x1:Int)].length))∧((ab ((↑x1:Int)+(1:Int)))∧(∃x2:Nat,((x2≤cl.length)∧((cl.length - x2<cl.length - x1)∧((cl=cl)∧(((↑(cl.length):Int)=(↑(cl.length):Int))∧(((↑x1:Int)+(1:Int)=(↑x2:Int))∧(bj cl x1++[(↑x1:Int)]=bj cl x2))))))))) ((ab ((↑x1:Int)+(1:Int)))∧(∃x3:Nat,((x3≤cl.length)∧((cl.length - x3<cl.length - x1)∧((cl=cl)∧(((↑(cl.length):Int)=(↑(cl.length):Int))∧(((↑x1:Int)+(1:Int)=(↑x3:Int))∧(bj cl x1=bj cl x3)))))))))) ((bj cl x1=bj cl (cl.length))∧True)))))
theorem TC (cl:List Int):aC Tryz.prog (af J7) ah (J6 cl) Tryz.f150 (aE Tryz.f150) [] [.c (.ints .i64 (cl))] (uP cl)=B9 cl:=by kernel_rfl
theorem TD (cl:List Int) (Yh:(uP cl).pre):B9 cl:=by
 simp only [uP,B9,aG,u1,u2,u3,u4,u5,u6,u7,u8,u9,v1,v2,v3,v4,v5,v6,v7,v8,v9,w1,w2,w3,w4,aH,aa,ab,ae,ar] at Yh ⊢;refine ⟨⟨0,by omega,rfl,rfl⟩,fun i hi=>⟨fun h=>?_,fun h=>by rw [show i=cl.length by omega]⟩⟩
 have fl:=lW cl i
 exact ⟨by omega,fun h2=>⟨by omega,by omega,i+1,by omega,by omega,by omega,by rw [bj,if_pos h2]⟩,fun h2=>⟨by omega,i+1,by omega,by omega,by omega,by rw [bj,if_neg h2]⟩⟩
theorem TE:Fits Tryz.prog 150 ⟨[],B8⟩:=by
 refine aJ (Γ:=af J7) aF Tryz.func150 fun ds p h hp=>?_
 unfold B8 at h;split at h
 ·cases h
  exact ⟨ah,J6 _ ,by rw [TC];exact TD _  hp⟩
 ·cases h
def uQ (x:Int) (y:Int) (cl:List Int) (t:List (List Int)) (f:List Int):Post:=⟨aW t=true∧cl.length=t.length∧f=bj cl cl.length∧0≤x∧x<(f.length:Int)∧0≤y∧y<(f.length:Int),.c (.int .i64 (cl.getD (en t (f.getD x.toNat 0).toNat (f.getD y.toNat 0).toNat).toNat 0)),[]⟩
def pS:List AD→Option Post
 | [.c (.int .i64 (x)),.c (.int .i64 (y)),.box [.ints .i64 (cl)],.box [.rows .i64 (t)],.box [.ints .i64 (f)]]=>some (uQ x y cl t f)
 | _=>none
def J8:List (Nat×Ctr):=[]
def Ca (x:Int) (y:Int) (cl:List Int) (t:List (List Int)) (f:List Int):Prop :=
 ((aa x (f.length))∧((aa (f.getD (x.toNat) (0:Int)) (t.length))∧((aa y (f.length))∧((aa (f.getD (y.toNat) (0:Int)) ((t.getD ((f.getD (x.toNat) (0:Int)).toNat) []).length))∧((aa ((List.getD t ((List.getD f (x.toNat) (0:Int)).toNat) []).getD ((f.getD (y.toNat) (0:Int)).toNat) (0:Int)) (cl.length))∧((cl.getD (((List.getD t ((List.getD f (x.toNat) (0:Int)).toNat) []).getD ((f.getD (y.toNat) (0:Int)).toNat) (0:Int)).toNat) (0:Int)=cl.getD ((en t ((f.getD (x.toNat) (0:Int)).toNat) ((f.getD (y.toNat) (0:Int)).toNat)).toNat) (0:Int))∧True))))))
theorem TF (x:Int) (y:Int) (cl:List Int) (t:List (List Int)) (f:List Int):aC Tryz.prog (af J8) ah am Tryz.f192 (aE Tryz.f192) [] [.c (.int .i64 (x)),.c (.int .i64 (y)),.box [.ints .i64 (cl)],.box [.rows .i64 (t)],.box [.ints .i64 (f)]] (uQ x y cl t f)=Ca x y cl t f:=by kernel_rfl
theorem TG (x:Int) (y:Int) (cl:List Int) (t:List (List Int)) (f:List Int) (Yh:(uQ x y cl t f).pre):Ca x y cl t f:=by
 simp only [uQ,Ca,aG,u1,u2,u3,u4,u5,u6,u7,u8,u9,v1,v2,v3,v4,v5,v6,v7,v8,v9,w1,w2,w3,w4,aH,aa,ab,ae,ar] at Yh ⊢;obtain ⟨h1,h2,rfl,x1,x2,y1,y2⟩:=Yh;obtain ⟨n1,n2,ht⟩:=bA h1;have fx:=pa cl cl.length _ (cE (bj cl cl.length) 0 x.toNat (by omega))
 have fy:=pa cl cl.length _ (cE (bj cl cl.length) 0 y.toNat (by omega))
 have r:=ht ((bj cl cl.length).getD x.toNat 0).toNat (by omega)
 have v:=r.2 ((bj cl cl.length).getD y.toNat 0).toNat (by omega)
 exact ⟨by omega,by omega,by omega,by omega,by omega,rfl⟩
theorem TH:Fits Tryz.prog 192 ⟨[],pS⟩:=by
 refine aJ (Γ:=af J8) aF Tryz.func192 fun ds p h hp=>?_
 unfold pS at h;split at h
 ·cases h
  exact ⟨ah,am,by rw [TF];exact TG _ _ _ _ _  hp⟩
 ·cases h
def uR (t:List (List Int)) (cl:List Int):Post:=⟨aW t=true∧cl.length=t.length,.c (.rows 57 2 .i64 (quo t cl)),[]⟩
def Cb:List AD→Option Post
 | [.c (.rows .i64 (t)),.c (.ints .i64 (cl))]=>some (uR t cl)
 | _=>none
def J9:List (Nat×Ctr):=[(150,⟨[],B8⟩),(153,⟨[],oK⟩),(192,⟨[],pS⟩)]
def Cc (t:List (List Int)) (cl:List Int):Prop :=
 (((cl.length≤(1000:Nat))∧True)∧(((((0:Int)≤(↑((bj cl (cl.length)).length):Int))∧(((↑((bj cl (cl.length)).length):Int)≤(144:Int))∧(∀(x y:Int),(0:Int)≤x→x<(↑((bj cl (cl.length)).length):Int)→(0:Int)≤y→y<(↑((bj cl (cl.length)).length):Int)→jF (pS [AD.c (FC.int IntKind.i64 x),AD.c (FC.int IntKind.i64 y),AD.box [FC.ints IntKind.i64 cl],AD.box [FC.rows IntKind.i64 t],AD.box [FC.ints IntKind.i64 (bj cl (cl.length))]]))))∧True)∧(((aS ((↑((bj cl (cl.length)).length):Int).toNat) fun (x y:Nat)=>ku (pS [AD.c (FC.int IntKind.i64 (↑x:Int)),AD.c (FC.int IntKind.i64 (↑y:Int)),AD.box [FC.ints IntKind.i64 cl],AD.box [FC.rows IntKind.i64 t],AD.box [FC.ints IntKind.i64 (bj cl (cl.length))]]))=quo t cl)∧True)))
theorem TI (t:List (List Int)) (cl:List Int):aC Tryz.prog (af J9) ah am Tryz.f140 (aE Tryz.f140) [] [.c (.rows .i64 (t)),.c (.ints .i64 (cl))] (uR t cl)=Cc t cl:=by kernel_rfl
theorem TJ (t:List (List Int)) (cl:List Int) (Yh:(uR t cl).pre):Cc t cl:=by
 simp only [uR,Cc,aG,u1,u2,u3,u4,u5,u6,u7,u8,u9,v1,v2,v3,v4,v5,v6,v7,v8,v9,w1,w2,w3,w4,aH,aa,ab,ae,ar] at Yh ⊢;obtain ⟨h1,h2⟩:=Yh;obtain ⟨n1,n2,ht⟩:=bA h1;have fl:=lW cl cl.length
 exact ⟨by omega,⟨by omega,by omega,fun x y a1 a2 a3 a4=>⟨h1,h2,rfl,a1,a2,a3,a4⟩⟩,xC fun x y hx hy=>rfl⟩
theorem TL:Fits Tryz.prog 140 ⟨[],Cb⟩:=by
 refine aJ (Γ:=af J9) (aj TE (aj xB (aj TH aF))) Tryz.func140 fun ds p h hp=>?_
 unfold Cb at h;split at h
 ·cases h
  exact ⟨ah,am,by rw [TI];exact TJ _ _  hp⟩
 ·cases h
def eV (t:List (List Int)) (cl:List Int) (x j:Nat):List Int:=(bj cl j).map fun y=>cl.getD (en t x y.toNat).toNat 0
def dY (t:List (List Int)) (cl:List Int) (i:Nat):List (List Int):=(bj cl i).map fun x=>eV t cl x.toNat cl.length
theorem TM (t:List (List Int)) (cl:List Int):dY t cl cl.length=quo t cl:=by
 unfold dY quo aS;rw [←wk (bj cl cl.length) 0 (fun x=>eV t cl x.toNat cl.length)]
 congr 1
 funext x
 unfold eV aq;exact (wk (bj cl cl.length) 0 (fun y=>cl.getD (en t ((bj cl cl.length).getD x 0).toNat y.toNat).toNat 0)).symm
def uS (t:List (List Int)) (cl:List Int):Post:=⟨aW t=true∧cl.length=t.length∧pb cl,.c (.rows 57 2 .i64 (quo t cl)),[]⟩
def Cd:List AD→Option Post
 | [.c (.rows .i64 (t)),.c (.ints .i64 (cl))]=>some (uS t cl)
 | _=>none
def Ka (t:List (List Int)) (cl:List Int):Nat→Option Ann
 | 0=>some (Ann.mk ((Nat)) (fun i=>⟨[(0,.c (.ro (.rows .i64 (t)))),(1,.c (.ro (.ints .i64 (cl)))),(5,.c (.own (9))),(6,.c (.int .i64 ((i:Int))))],[(9,some (.rows 0 57 2 .i64 (dY t cl i)))]⟩) (fun i=>i≤t.length) (fun i=>t.length - i) (fun i=>fun b_=>match b_ with | 2=>some (Ann.mk ((Nat)) (fun j=>⟨[(0,.c (.ro (.rows .i64 (t)))),(1,.c (.ro (.ints .i64 (cl)))),(5,.c (.own (9))),(6,.c (.int .i64 ((i:Int)))),(7,.c (.own (23))),(8,.c (.int .i64 ((j:Int))))],[(9,some (.rows 0 57 2 .i64 (dY t cl i))),(23,some (.ints 2 .i64 (eV t cl i j)))]⟩) (fun j=>j≤t.length∧i<t.length∧cl.getD i 0=((bj cl i).length:Int)) (fun j=>t.length - j) (fun _=>am)) | _=>none))
 | _=>none
def Kb:List (Nat×Ctr):=[]
def Ce (t:List (List Int)) (cl:List Int):Prop :=
 ((∃x0:Nat,((x0≤t.length)∧((t=t)∧((cl=cl)∧(((0:Int)=(↑x0:Int))∧(([]:List (List Int))=dY t cl x0))))))∧(∀x1:Nat,((x1≤t.length)→(ac (decide ((↑x1:Int)<(↑(t.length):Int))) ((aa (↑x1:Int) (cl.length))∧(ac (decide (cl.getD ((↑x1:Int).toNat) (0:Int)<(↑((dY t cl x1).length):Int))) ((ab ((↑x1:Int)+(1:Int)))∧(∃x2:Nat,((x2≤t.length)∧((t.length - x2<t.length - x1)∧((t=t)∧((cl=cl)∧(((↑x1:Int)+(1:Int)=(↑x2:Int))∧(dY t cl x1=dY t cl x2)))))))) ((∃x3:Nat,(((x3≤t.length)∧((x1<t.length)∧(cl.getD x1 (0:Int)=(↑((bj cl x1).length):Int))))∧((t=t)∧((cl=cl)∧(((↑x1:Int)=(↑x1:Int))∧(((0:Int)=(↑x3:Int))∧((dY t cl x1=dY t cl x1)∧([]=eV t cl x1 x3))))))))∧(∀x4:Nat,(((x4≤t.length)∧((x1<t.length)∧(cl.getD x1 (0:Int)=(↑((bj cl x1).length):Int))))→(ac (decide ((↑x4:Int)<(↑(t.length):Int))) ((aa (↑x4:Int) (cl.length))∧(ac (cl.getD ((↑x4:Int).toNat) (0:Int) == (↑((eV t cl x1 x4).length):Int)) ((aa (↑x1:Int) (t.length))∧((aa (↑x4:Int) ((t.getD ((↑x1:Int).toNat) []).length))∧((aa ((List.getD t ((↑x1:Int).toNat) []).getD ((↑x4:Int).toNat) (0:Int)) (cl.length))∧((ae ((eV t cl x1 x4).length+[cl.getD (((List.getD t ((↑x1:Int).toNat) []).getD ((↑x4:Int).toNat) (0:Int)).toNat) (0:Int)].length))∧((ab ((↑x4:Int)+(1:Int)))∧(∃x5:Nat,(((x5≤t.length)∧((x1<t.length)∧(cl.getD x1 (0:Int)=(↑((bj cl x1).length):Int))))∧((t.length - x5<t.length - x4)∧((t=t)∧((cl=cl)∧(((↑x1:Int)=(↑x1:Int)) ∧
 (((↑x4:Int)+(1:Int)=(↑x5:Int))∧((dY t cl x1=dY t cl x1)∧(eV t cl x1 x4++[cl.getD (((List.getD t ((↑x1:Int).toNat) []).getD ((↑x4:Int).toNat) (0:Int)).toNat) (0:Int)]=eV t cl x1 x5)))))))))))))) ((ab ((↑x4:Int)+(1:Int)))∧(∃x6:Nat,(((x6≤t.length)∧((x1<t.length)∧(cl.getD x1 (0:Int)=(↑((bj cl x1).length):Int))))∧((t.length - x6<t.length - x4)∧((t=t)∧((cl=cl)∧(((↑x1:Int)=(↑x1:Int))∧(((↑x4:Int)+(1:Int)=(↑x6:Int))∧((dY t cl x1=dY t cl x1)∧(eV t cl x1 x4=eV t cl x1 x6)))))))))))) ((ae ((dY t cl x1).length+(eV t cl x1 x4::([]:List (List Int))).length))∧((ab ((↑x1:Int)+(1:Int)))∧(∃x7:Nat,((x7≤t.length)∧((t.length - x7<t.length - x1)∧((t=t)∧((cl=cl)∧(((↑x1:Int)+(1:Int)=(↑x7:Int))∧(dY t cl x1++eV t cl x1 x4::([]:List (List Int))=dY t cl x7))))))))))))))) ((dY t cl x1=quo t cl)∧True)))))
theorem TN (t:List (List Int)) (cl:List Int):aC Tryz.prog (af Kb) ah (Ka t cl) Tryz.f143 (aE Tryz.f143) [] [.c (.rows .i64 (t)),.c (.ints .i64 (cl))] (uS t cl)=Ce t cl:=by kernel_rfl
theorem TO (t:List (List Int)) (cl:List Int) (Yh:(uS t cl).pre):Ce t cl:=by
 simp only [uS,Ce,aG,u1,u2,u3,u4,u5,u6,u7,u8,u9,v1,v2,v3,v4,v5,v6,v7,v8,v9,w1,w2,w3,w4,aH,aa,ab,ae,ar] at Yh ⊢;obtain ⟨h1,h2,h3⟩:=Yh;obtain ⟨n1,n2,ht⟩:=bA h1;have ql:∀i,(dY t cl i).length=(bj cl i).length:=fun i=>by simp [dY]
 have jl:∀x j,(eV t cl x j).length=(bj cl j).length:=fun x j=>by simp [eV]
 refine ⟨⟨0,by omega,rfl,rfl⟩,fun i hi=>⟨fun h=>?_,fun h=>?_⟩⟩
 ·have nm:=h3 i (by omega)
  have fl:=lW cl i
  rw [ql];refine ⟨by omega,fun h4=>⟨by omega,i+1,by omega,by omega,by omega,?_⟩,fun h4=>⟨⟨0,⟨by omega,by omega,by omega⟩,rfl,rfl⟩,fun j ⟨hj,_,hc⟩=>⟨fun h5=>?_,fun h5=>?_⟩⟩⟩
  ·rw [dY,dY,bj,if_neg (by omega)]
  ·have r:=ht i (by omega)
   have v:=r.2 j (by omega)
   have fj:=lW cl j
   rw [jl];refine ⟨by omega,fun h6=>⟨by omega,by omega,by omega,by omega,by omega,j+1,⟨by omega,by omega,hc⟩,by omega,by omega,?_⟩,fun h6=>⟨by omega,j+1,⟨by omega,by omega,hc⟩,by omega,by omega,?_⟩⟩
   ·rw [eV,eV,bj,if_pos h6,List.map_append];rfl
   ·rw [eV,eV,bj,if_neg h6]
  ·refine ⟨by omega,by omega,i+1,by omega,by omega,by omega,?_⟩
   rw [show j=cl.length by omega]
   rw [dY,dY,bj,if_pos hc,List.map_append];rfl
 ·rw [show i=cl.length by omega]
  exact TM t cl
theorem TP:Fits Tryz.prog 143 ⟨[],Cd⟩:=by
 refine aJ (Γ:=af Kb) aF Tryz.func143 fun ds p h hp=>?_
 unfold Cd at h;split at h
 ·cases h
  exact ⟨ah,Ka _ _ ,by rw [TN];exact TO _ _  hp⟩
 ·cases h
end Go.Sx
