/- IdlC -/
import Derived.Test.YtcdmndagoafcgaaGreatIdl
open Go Go.Proofs
namespace Go.Sx
set_option linter.unusedSimpArgs false
set_option linter.unusedVariables false
theorem pc {t:List (List Int)} {s:Int} (h:bu t s):∀i,i<(ag s 12).length→0≤(ag s 12).getD i 0∧(ag s 12).getD i 0≤(t.length:Int) - 1:=fun i hi=>by
 have hn:=(bA h.1).2.1
 have e:=sk h.2.2 (12 - t.length)
 rw [show t.length+(12 - t.length)=12 by omega] at e
 have:=Pj s t.length ((ag s 12).getD i 0) (by rw [←e];exact cE _ _ _ hi)
 omega
def tm (t:List (List Int)) (s:Int):Post:=⟨bu t s,.c (.bool (cQ t s)),[]⟩
def tp:List AD→Option Post
 | [.c (.rows .i64 (t)),.c (.int .i64 (s))]=>some (tm t s)
 | _=>none
def HZ (t:List (List Int)) (s:Int):Nat→Option Ann
 | 0=>some (Ann.mk ((Nat)) (fun i=>⟨[(0,.c (.ro (.rows .i64 (t)))),(1,.c (.int .i64 (s))),(5,.c (.own (14))),(15,.c (.own (14))),(16,.c (.int .i64 (((ag s 12).length:Int)))),(17,.c (.int .i64 ((i:Int))))],[(14,some (.ints 2 .i64 (ag s 12)))]⟩) (fun i=>i≤(ag s 12).length∧aD s 0=true∧bv t s=((ag s 12).drop i).all (jw t s)) (fun i=>(ag s 12).length - i) (fun i=>fun b_=>match b_ with | 2=>some (Ann.mk ((Nat)) (fun j=>⟨[(0,.c (.ro (.rows .i64 (t)))),(1,.c (.int .i64 (s))),(5,.c (.own (14))),(15,.c (.own (14))),(16,.c (.int .i64 (((ag s 12).length:Int)))),(17,.c (.int .i64 ((i:Int)))),(7,.c (.int .i64 ((ag s 12).getD i 0))),(21,.c (.own (14))),(22,.c (.int .i64 (((ag s 12).length:Int)))),(23,.c (.int .i64 ((j:Int))))],[(14,some (.ints 2 .i64 (ag s 12)))]⟩) (fun j=>j≤(ag s 12).length∧i<(ag s 12).length∧bv t s=(((ag s 12).drop j).all (fun y=>aD s (en t ((ag s 12).getD i 0).toNat y.toNat).toNat)&&((ag s 12).drop (i+1)).all (jw t s))) (fun j=>(ag s 12).length - j) (fun _=>am)) | _=>none))
 | _=>none
def H0:List (Nat×Ctr):=[(161,⟨[],nw⟩),(92,⟨[],lQ⟩)]
def gX (s:Int):=(↑((ag s (12:Nat)).length):Int)
def Aj (t:List (List Int)) (s:Int):Prop :=
 (((((0:Int)≤s)∧((s≤(9223372036854775807:Int))∧(((0:Int)≤(0:Int))∧((0:Int)≤(62:Int)))))∧True)∧(ac (!aD s ((0:Int).toNat)) ((false=cQ t s)∧True) (((((0:Int)≤s)∧(s<(4096:Int)))∧True)∧((∃x0:Nat,(((x0≤(ag s (12:Nat)).length)∧((aD s (0:Nat)=true)∧(bv t s=List.all (List.drop x0 (ag s (12:Nat))) (jw t s))))∧((t=t)∧((s=s)∧(((gX s)=(gX s))∧(((0:Int)=(↑x0:Int))∧(ag s (12:Nat)=ag s (12:Nat))))))))∧(∀x1:Nat,(((x1≤(ag s (12:Nat)).length)∧((aD s (0:Nat)=true)∧(bv t s=List.all (List.drop x1 (ag s (12:Nat))) (jw t s))))→(ac (decide ((↑x1:Int)<(↑((ag s (12:Nat)).length):Int))) ((aa (↑x1:Int) ((ag s (12:Nat)).length))∧((∃x2:Nat,(((x2≤(ag s (12:Nat)).length)∧((x1<(ag s (12:Nat)).length)∧(bv t s=((List.all (List.drop x2 (ag s (12:Nat))) fun (y:Int)=>aD s ((en t (((ag s (12:Nat)).getD x1 (0:Int)).toNat) (y.toNat)).toNat))&&List.all (List.drop (x1+(1:Nat)) (ag s (12:Nat))) (jw t s)))))∧((t=t)∧((s=s)∧(((gX s)=(gX s))∧(((↑x1:Int)=(↑x1:Int))∧(((ag s (12:Nat)).getD ((↑x1:Int).toNat) (0:Int)=(ag s (12:Nat)).getD x1 (0:Int))∧(((gX s)=(gX s))∧(((0:Int)=(↑x2:Int))∧(ag s (12:Nat)=ag s (12:Nat)))))))))))∧(∀x3:Nat,(((x3≤(ag s (12:Nat)).length)∧((x1<(ag s (12:Nat)).length) ∧
 (bv t s=((List.all (List.drop x3 (ag s (12:Nat))) fun (y:Int)=>aD s ((en t (((ag s (12:Nat)).getD x1 (0:Int)).toNat) (y.toNat)).toNat))&&List.all (List.drop (x1+(1:Nat)) (ag s (12:Nat))) (jw t s)))))→(ac (decide ((↑x3:Int)<(↑((ag s (12:Nat)).length):Int))) ((aa (↑x3:Int) ((ag s (12:Nat)).length))∧((aa ((ag s (12:Nat)).getD x1 (0:Int)) (t.length))∧((aa ((ag s (12:Nat)).getD ((↑x3:Int).toNat) (0:Int)) ((t.getD (((ag s (12:Nat)).getD x1 (0:Int)).toNat) []).length))∧(((((0:Int)≤s)∧((s≤(9223372036854775807:Int))∧(((0:Int)≤(List.getD t ((List.getD (ag s (12:Nat)) x1 (0:Int)).toNat) []).getD (((ag s (12:Nat)).getD ((↑x3:Int).toNat) (0:Int)).toNat) (0:Int))∧((List.getD t ((List.getD (ag s (12:Nat)) x1 (0:Int)).toNat) []).getD (((ag s (12:Nat)).getD ((↑x3:Int).toNat) (0:Int)).toNat) (0:Int)≤(62:Int)))))∧True)∧(ac (!aD s (((List.getD t ((List.getD (ag s (12:Nat)) x1 (0:Int)).toNat) []).getD (((ag s (12:Nat)).getD ((↑x3:Int).toNat) (0:Int)).toNat) (0:Int)).toNat)) ((false=cQ t s)∧True) ((ab ((↑x3:Int)+(1:Int)))∧(∃x4:Nat,(((x4≤(ag s (12:Nat)).length)∧((x1<(ag s (12:Nat)).length)∧(bv t s=((List.all (List.drop x4 (ag s (12:Nat))) fun (y:Int)=>aD s ((en t (((ag s (12:Nat)).getD x1 (0:Int)).toNat) (y.toNat)).toNat))&&List.all (List.drop (x1+(1:Nat)) (ag s (12:Nat))) (jw t s)))))∧(((ag s (12:Nat)).length - x4<(ag s (12:Nat)).length - x3)∧((t=t)∧((s=s)∧(((gX s)=(gX s)) ∧
 (((↑x1:Int)=(↑x1:Int))∧(((ag s (12:Nat)).getD x1 (0:Int)=(ag s (12:Nat)).getD x1 (0:Int))∧(((gX s)=(gX s))∧(((↑x3:Int)+(1:Int)=(↑x4:Int))∧(ag s (12:Nat)=ag s (12:Nat)))))))))))))))))) ((ab ((↑x1:Int)+(1:Int)))∧(∃x5:Nat,(((x5≤(ag s (12:Nat)).length)∧((aD s (0:Nat)=true)∧(bv t s=List.all (List.drop x5 (ag s (12:Nat))) (jw t s))))∧(((ag s (12:Nat)).length - x5<(ag s (12:Nat)).length - x1)∧((t=t)∧((s=s)∧(((gX s)=(gX s))∧(((↑x1:Int)+(1:Int)=(↑x5:Int))∧(ag s (12:Nat)=ag s (12:Nat))))))))))))))) ((true=cQ t s)∧True))))))))
theorem QH (t:List (List Int)) (s:Int):aC Tryz.prog (af H0) ah (HZ t s) Tryz.f100 (aE Tryz.f100) [] [.c (.rows .i64 (t)),.c (.int .i64 (s))] (tm t s)=Aj t s:=by kernel_rfl
theorem QI (t:List (List Int)) (s:Int) (Yh:(tm t s).pre):Aj t s:=by
 simp only [tm,Aj,gX,aG,u1,u2,u3,u4,u5,u6,u7,u8,u9,v1,v2,v3,v4,v5,v6,v7,v8,v9,w1,w2,w3,w4,aH,aa,ab,ae,ar] at Yh ⊢;have S:=gv Yh
 obtain ⟨n1,n2,ht⟩:=bA Yh.1;have E:=pc Yh
 have eL:=nv s 12
 refine ⟨by omega,fun h=>by rw [cQ,show aD s 0=false from h];rfl,fun h=>⟨by omega,⟨0,⟨by omega,h,(QB Yh).symm⟩,rfl⟩,fun i ⟨hi,_,he⟩=>⟨fun h3=>⟨by omega,⟨0,⟨by omega,by omega,?_⟩,rfl⟩,fun j ⟨hj,_,hy⟩=>⟨fun h4=>?_,fun h4=>?_⟩⟩,fun h3=>?_⟩⟩⟩
 ·rw [he,oI 0 _ (by omega)];rfl
 ·have A:=E i (by omega)
  have B:=E j (by omega)
  have r:=ht ((ag s 12).getD i 0).toNat (by omega)
  have v:=r.2 ((ag s 12).getD j 0).toNat (by omega)
  rw [oI 0 _ (by omega)] at hy
  refine ⟨by omega,by omega,by omega,⟨by omega,by omega,by omega,by omega⟩,fun hb=>?_,fun hb=>⟨by omega,j+1,⟨by omega,by omega,?_⟩,by omega,by omega⟩⟩
  ·have e:aD s (en t ((ag s 12).getD i 0).toNat ((ag s 12).getD j 0).toNat).toNat=false:=hb
   rw [cQ,hy,e];simp
  ·have e:aD s (en t ((ag s 12).getD i 0).toNat ((ag s 12).getD j 0).toNat).toNat=true:=hb
   rw [hy,e,Bool.true_and]
 ·refine ⟨by omega,i+1,⟨by omega,h,?_⟩,by omega,by omega⟩
  rw [hy,List.drop_of_length_le (by omega)];rfl
 ·rw [cQ,show aD s 0=true from h,he,List.drop_of_length_le (by omega)];rfl
theorem H1:Fits Tryz.prog 100 ⟨[],tp⟩:=by
 refine aJ (Γ:=af H0) (aj sq (aj oY aF)) Tryz.func100 fun ds p h hp=>?_
 unfold tp at h;split at h
 ·cases h
  exact ⟨ah,HZ _ _ ,by rw [QH];exact QI _ _  hp⟩
 ·cases h
def tq (t:List (List Int)) (s:Int) (x:Nat) (y:Int):Bool:=aD s (en t (en t x y.toNat).toNat (bk t x).toNat).toNat
def tt (t:List (List Int)) (s:Int):Post:=⟨a9 t=true∧bu t s,.c (.bool (cK t s)),[]⟩
def Ak:List AD→Option Post
 | [.c (.rows .i64 (t)),.c (.int .i64 (s))]=>some (tt t s)
 | _=>none
def H2 (t:List (List Int)) (s:Int):Nat→Option Ann
 | 0=>some (Ann.mk ((Nat)) (fun i=>⟨[(0,.c (.ro (.rows .i64 (t)))),(1,.c (.int .i64 (s))),(5,.c (.own (10))),(12,.c (.int .i64 ((t.length:Int)))),(13,.c (.int .i64 ((i:Int))))],[(10,some (.ints 2 .i64 (bH t)))]⟩) (fun i=>i≤t.length∧cK t s=(List.range' i (t.length - i)).all (kU t s)) (fun i=>t.length - i) (fun i=>fun b_=>match b_ with | 2=>some (Ann.mk ((Nat)) (fun j=>⟨[(0,.c (.ro (.rows .i64 (t)))),(1,.c (.int .i64 (s))),(5,.c (.own (10))),(12,.c (.int .i64 ((t.length:Int)))),(13,.c (.int .i64 ((i:Int)))),(6,.c (.int .i64 ((i:Int)))),(17,.c (.own (17))),(18,.c (.int .i64 (((ag s 12).length:Int)))),(19,.c (.int .i64 ((j:Int))))],[(10,some (.ints 2 .i64 (bH t))),(17,some (.ints 2 .i64 (ag s 12)))]⟩) (fun j=>j≤(ag s 12).length∧i<t.length∧cK t s=(((ag s 12).drop j).all (tq t s i)&&(List.range' (i+1) (t.length - (i+1))).all (kU t s))) (fun j=>(ag s 12).length - j) (fun _=>am)) | _=>none))
 | _=>none
def H3:List (Nat×Ctr):=[(144,⟨[],nz⟩),(92,⟨[],lQ⟩),(161,⟨[],nw⟩)]
def pe (t:List (List Int)) (s:Int) (x0:Nat) (x1:Nat):=((List.getD t ((↑x0:Int).toNat) []).getD (((ag s (12:Nat)).getD ((↑x1:Int).toNat) (0:Int)).toNat) (0:Int))
def tu (t:List (List Int)) (s:Int) (x0:Nat) (x1:Nat):=(List.all (List.drop x0 (ag s (12:Nat))) (tq t s x1)&&List.all (List.range' (x1+(1:Nat)) (t.length - (x1+(1:Nat)))) (kU t s))
def Al (t:List (List Int)) (s:Int):Prop :=
 (((aW t=true)∧True)∧((∃x0:Nat,(((x0≤t.length)∧(cK t s=List.all (List.range' x0 (t.length - x0)) (kU t s)))∧((t=t)∧((s=s)∧(((↑(t.length):Int)=(↑(t.length):Int))∧(((0:Int)=(↑x0:Int))∧(bH t=bH t)))))))∧(∀x1:Nat,(((x1≤t.length)∧(cK t s=List.all (List.range' x1 (t.length - x1)) (kU t s)))→(ac (decide ((↑x1:Int)<(↑(t.length):Int))) (((((0:Int)≤s)∧(s<(4096:Int)))∧True)∧((∃x2:Nat,(((x2≤(ag s (12:Nat)).length)∧((x1<t.length)∧(cK t s=(tu t s x2 x1))))∧((t=t)∧((s=s)∧(((↑(t.length):Int)=(↑(t.length):Int))∧(((↑x1:Int)=(↑x1:Int))∧(((↑x1:Int)=(↑x1:Int))∧(((↑((ag s (12:Nat)).length):Int)=(↑((ag s (12:Nat)).length):Int))∧(((0:Int)=(↑x2:Int))∧((bH t=bH t)∧(ag s (12:Nat)=ag s (12:Nat))))))))))))∧(∀x3:Nat,(((x3≤(ag s (12:Nat)).length)∧((x1<t.length)∧(cK t s=(tu t s x3 x1))))→(ac (decide ((↑x3:Int)<(↑((ag s (12:Nat)).length):Int))) ((aa (↑x3:Int) ((ag s (12:Nat)).length))∧((aa (↑x1:Int) (t.length))∧((aa ((ag s (12:Nat)).getD ((↑x3:Int).toNat) (0:Int)) ((t.getD ((↑x1:Int).toNat) []).length))∧((aa (pe t s x1 x3) (t.length))∧((aa (↑x1:Int) ((bH t).length))∧((aa ((bH t).getD ((↑x1:Int).toNat) (0:Int)) ((t.getD ((pe t s x1 x3).toNat) []).length))∧(((((0:Int)≤s)∧((s≤(9223372036854775807:Int))∧(((0:Int)≤(List.getD t ((pe t s x1 x3).toNat) []).getD (((bH t).getD ((↑x1:Int).toNat) (0:Int)).toNat) (0:Int)) ∧
 ((List.getD t ((pe t s x1 x3).toNat) []).getD (((bH t).getD ((↑x1:Int).toNat) (0:Int)).toNat) (0:Int)≤(62:Int)))))∧True)∧(ac (!aD s (((List.getD t ((List.getD (List.getD t ((↑x1:Int).toNat) []) ((List.getD (ag s (12:Nat)) ((↑x3:Int).toNat) (0:Int)).toNat) (0:Int)).toNat) []).getD (((bH t).getD ((↑x1:Int).toNat) (0:Int)).toNat) (0:Int)).toNat)) ((false=cK t s)∧True) ((ab ((↑x3:Int)+(1:Int)))∧(∃x4:Nat,(((x4≤(ag s (12:Nat)).length)∧((x1<t.length)∧(cK t s=(tu t s x4 x1))))∧(((ag s (12:Nat)).length - x4<(ag s (12:Nat)).length - x3)∧((t=t)∧((s=s)∧(((↑(t.length):Int)=(↑(t.length):Int))∧(((↑x1:Int)=(↑x1:Int))∧(((↑x1:Int)=(↑x1:Int))∧(((↑((ag s (12:Nat)).length):Int)=(↑((ag s (12:Nat)).length):Int))∧(((↑x3:Int)+(1:Int)=(↑x4:Int))∧((bH t=bH t)∧(ag s (12:Nat)=ag s (12:Nat)))))))))))))))))))))) ((ab ((↑x1:Int)+(1:Int)))∧(∃x5:Nat,(((x5≤t.length)∧(cK t s=List.all (List.range' x5 (t.length - x5)) (kU t s)))∧((t.length - x5<t.length - x1)∧((t=t)∧((s=s)∧(((↑(t.length):Int)=(↑(t.length):Int))∧(((↑x1:Int)+(1:Int)=(↑x5:Int))∧(bH t=bH t)))))))))))))) ((true=cK t s)∧True))))))
theorem QJ (t:List (List Int)) (s:Int):aC Tryz.prog (af H3) ah (H2 t s) Tryz.f152 (aE Tryz.f152) [] [.c (.rows .i64 (t)),.c (.int .i64 (s))] (tt t s)=Al t s:=by kernel_rfl
theorem QK (t:List (List Int)) (s:Int) (Yh:(tt t s).pre):Al t s:=by
 simp only [tt,Al,pe,tu,aG,u1,u2,u3,u4,u5,u6,u7,u8,u9,v1,v2,v3,v4,v5,v6,v7,v8,v9,w1,w2,w3,w4,aH,aa,ab,ae,ar] at Yh ⊢;obtain ⟨hg,hs⟩:=Yh;have S:=gv hs
 obtain ⟨n1,n2,ht⟩:=bA hs.1;have E:=pc hs
 have eL:=nv s 12
 have hbl:=o5 t
 refine ⟨hs.1,⟨0,⟨by omega,by rw [←QD hs,gO]⟩,rfl⟩,fun i ⟨hi,he⟩=>⟨fun h3=>⟨by omega,⟨0,⟨by omega,by omega,?_⟩,rfl⟩,fun j ⟨hj,_,hy⟩=>⟨fun h4=>?_,fun h4=>?_⟩⟩,fun h3=>by rw [he,gN _ (by omega)]⟩⟩
 ·rw [he,gM _ (by omega)];rfl
 ·have B:=E j (by omega)
  have r:=ht i (by omega)
  have v:=r.2 ((ag s 12).getD j 0).toNat (by omega)
  have r2:=ht ((t.getD i []).getD ((ag s 12).getD j 0).toNat 0).toNat (by omega)
  have bi:=lS hg (x:=i) (by omega)
  have v2:=r2.2 (bk t i).toNat (by omega)
  rw [o6 t i (by omega)]
  rw [oI 0 _ (by omega)] at hy
  refine ⟨by omega,by omega,by omega,by omega,by omega,by omega,⟨by omega,by omega,by omega,by omega⟩,fun hb=>?_,fun hb=>⟨by omega,j+1,⟨by omega,by omega,?_⟩,by omega,by omega⟩⟩
  ·rw [hy,show tq t s i ((ag s 12).getD j 0)=false from hb];rfl
  ·rw [hy,show tq t s i ((ag s 12).getD j 0)=true from hb,Bool.true_and]
 ·refine ⟨by omega,i+1,⟨by omega,?_⟩,by omega,by omega⟩
  rw [hy,List.drop_of_length_le (by omega)];rfl
theorem QL:Fits Tryz.prog 152 ⟨[],Ak⟩:=by
 refine aJ (Γ:=af H3) (aj sD (aj oY (aj sq aF))) Tryz.func152 fun ds p h hp=>?_
 unfold Ak at h;split at h
 ·cases h
  exact ⟨ah,H2 _ _ ,by rw [QJ];exact QK _ _  hp⟩
 ·cases h
def tw (n:Nat) (l:List (List Int)):Prop:=l.length=n∧∀x,x<n→(l.getD x []).length=n∧∀y,y<n→0≤(l.getD x []).getD y 0∧(l.getD x []).getD y 0≤(n:Int) - 1
theorem lX {a c:List (List Int)} (h:bM a c):tw a.length (aO a c):=by
 obtain ⟨n1,n2,hl,ha,hc,hb⟩:=jv h;refine ⟨fK _ _,fun x hx=>?_⟩
 rw [aO,eZ _ _ _ hx];refine ⟨cf _ _,fun y hy=>?_⟩
 rw [cr _ _ _ hy];have B:=hb x hx
 have C:=(hc x hx).2 y hy
 exact (ha (bk a x).toNat (by omega)).2 ((c.getD x []).getD y 0).toNat (by omega)
def tz (a:List (List Int)) (c:List (List Int)) (l:List (List Int)) (s:Int):Post:=⟨bu a s∧tw a.length l,.c (.bool (cQ a s&&cJ a.length l s)),[]⟩
def tB:List AD→Option Post
 | [.agg [.rows .i64 (a),.rows .i64 (c)],.c (.rows .i64 (l)),.c (.int .i64 (s))]=>some (tz a c l s)
 | _=>none
def H4 (a:List (List Int)) (c:List (List Int)) (l:List (List Int)) (s:Int):Nat→Option Ann
 | 0=>some (Ann.mk ((Nat)) (fun i=>⟨[(1,.c (.ro (.rows .i64 (l)))),(2,.c (.int .i64 (s))),(3,.c (.ptr 3 0)),(17,.c (.own (17))),(18,.c (.int .i64 (((ag s 12).length:Int)))),(19,.c (.int .i64 ((i:Int))))],[(3,some (.box [.ro (.rows .i64 (a)),.ro (.rows .i64 (c))])),(17,some (.ints 2 .i64 (ag s 12)))]⟩) (fun i=>i≤(ag s 12).length∧cQ a s=true∧cJ a.length l s=((ag s 12).drop i).all (jx l s)) (fun i=>(ag s 12).length - i) (fun i=>fun b_=>match b_ with | 2=>some (Ann.mk ((Nat)) (fun j=>⟨[(1,.c (.ro (.rows .i64 (l)))),(2,.c (.int .i64 (s))),(3,.c (.ptr 3 0)),(17,.c (.own (17))),(18,.c (.int .i64 (((ag s 12).length:Int)))),(19,.c (.int .i64 ((i:Int)))),(8,.c (.int .i64 ((ag s 12).getD i 0))),(23,.c (.ro (.rows .i64 (l)))),(24,.c (.int .i64 ((l.length:Int)))),(25,.c (.int .i64 ((j:Int))))],[(3,some (.box [.ro (.rows .i64 (a)),.ro (.rows .i64 (c))])),(17,some (.ints 2 .i64 (ag s 12)))]⟩) (fun j=>j≤l.length∧i<(ag s 12).length∧cJ a.length l s=((l.drop j).all (fun r=>aD s (r.getD ((ag s 12).getD i 0).toNat 0).toNat)&&((ag s 12).drop (i+1)).all (jx l s))) (fun j=>l.length - j) (fun _=>am)) | _=>none))
 | _=>none
def H5:List (Nat×Ctr):=[(100,⟨[],tp⟩),(92,⟨[],lQ⟩),(161,⟨[],nw⟩)]
def Am (a:List (List Int)) (c:List (List Int)) (l:List (List Int)) (s:Int):Prop :=
 (((bu a s)∧True)∧(ac (!cQ a s) ((false=(cQ a s&&cJ (a.length) l s))∧True) (((((0:Int)≤s)∧(s<(4096:Int)))∧True)∧((∃x0:Nat,(((x0≤(ag s (12:Nat)).length)∧((cQ a s=true)∧(cJ (a.length) l s=List.all (List.drop x0 (ag s (12:Nat))) (jx l s))))∧((l=l)∧((s=s)∧(((↑((ag s (12:Nat)).length):Int)=(↑((ag s (12:Nat)).length):Int))∧(((0:Int)=(↑x0:Int))∧((a=a)∧((c=c)∧(ag s (12:Nat)=ag s (12:Nat))))))))))∧(∀x1:Nat,(((x1≤(ag s (12:Nat)).length)∧((cQ a s=true)∧(cJ (a.length) l s=List.all (List.drop x1 (ag s (12:Nat))) (jx l s))))→(ac (decide ((↑x1:Int)<(↑((ag s (12:Nat)).length):Int))) ((aa (↑x1:Int) ((ag s (12:Nat)).length))∧((∃x2:Nat,(((x2≤l.length)∧((x1<(ag s (12:Nat)).length)∧(cJ (a.length) l s=((List.all (List.drop x2 l) fun (r:List Int)=>aD s ((r.getD (((ag s (12:Nat)).getD x1 (0:Int)).toNat) (0:Int)).toNat))&&List.all (List.drop (x1+(1:Nat)) (ag s (12:Nat))) (jx l s)))))∧((l=l)∧((s=s)∧(((↑((ag s (12:Nat)).length):Int)=(↑((ag s (12:Nat)).length):Int))∧(((↑x1:Int)=(↑x1:Int))∧(((ag s (12:Nat)).getD ((↑x1:Int).toNat) (0:Int)=(ag s (12:Nat)).getD x1 (0:Int))∧((l=l)∧(((↑(l.length):Int)=(↑(l.length):Int))∧(((0:Int)=(↑x2:Int))∧((a=a)∧((c=c)∧(ag s (12:Nat)=ag s (12:Nat))))))))))))))∧(∀x3:Nat,(((x3≤l.length)∧((x1<(ag s (12:Nat)).length) ∧
 (cJ (a.length) l s=((List.all (List.drop x3 l) fun (r:List Int)=>aD s ((r.getD (((ag s (12:Nat)).getD x1 (0:Int)).toNat) (0:Int)).toNat))&&List.all (List.drop (x1+(1:Nat)) (ag s (12:Nat))) (jx l s)))))→(ac (decide ((↑x3:Int)<(↑(l.length):Int))) ((aa (↑x3:Int) (l.length))∧((aa ((ag s (12:Nat)).getD x1 (0:Int)) ((l.getD ((↑x3:Int).toNat) []).length))∧(((((0:Int)≤s)∧((s≤(9223372036854775807:Int))∧(((0:Int)≤(List.getD l ((↑x3:Int).toNat) []).getD (((ag s (12:Nat)).getD x1 (0:Int)).toNat) (0:Int))∧((List.getD l ((↑x3:Int).toNat) []).getD (((ag s (12:Nat)).getD x1 (0:Int)).toNat) (0:Int)≤(62:Int)))))∧True)∧(ac (!aD s (((List.getD l ((↑x3:Int).toNat) []).getD (((ag s (12:Nat)).getD x1 (0:Int)).toNat) (0:Int)).toNat)) ((false=(cQ a s&&cJ (a.length) l s))∧True) ((ab ((↑x3:Int)+(1:Int)))∧(∃x4:Nat,(((x4≤l.length)∧((x1<(ag s (12:Nat)).length)∧(cJ (a.length) l s=((List.all (List.drop x4 l) fun (r:List Int)=>aD s ((r.getD (((ag s (12:Nat)).getD x1 (0:Int)).toNat) (0:Int)).toNat))&&List.all (List.drop (x1+(1:Nat)) (ag s (12:Nat))) (jx l s)))))∧((l.length - x4<l.length - x3)∧((l=l)∧((s=s)∧(((↑((ag s (12:Nat)).length):Int)=(↑((ag s (12:Nat)).length):Int))∧(((↑x1:Int)=(↑x1:Int))∧(((ag s (12:Nat)).getD x1 (0:Int)=(ag s (12:Nat)).getD x1 (0:Int))∧((l=l)∧(((↑(l.length):Int)=(↑(l.length):Int))∧(((↑x3:Int)+(1:Int)=(↑x4:Int))∧((a=a)∧((c=c)∧(ag s (12:Nat)=ag s (12:Nat))))))))))))))))))))
 ((ab ((↑x1:Int)+(1:Int)))∧(∃x5:Nat,(((x5≤(ag s (12:Nat)).length)∧((cQ a s=true)∧(cJ (a.length) l s=List.all (List.drop x5 (ag s (12:Nat))) (jx l s))))∧(((ag s (12:Nat)).length - x5<(ag s (12:Nat)).length - x1)∧((l=l)∧((s=s)∧(((↑((ag s (12:Nat)).length):Int)=(↑((ag s (12:Nat)).length):Int))∧(((↑x1:Int)+(1:Int)=(↑x5:Int))∧((a=a)∧((c=c)∧(ag s (12:Nat)=ag s (12:Nat))))))))))))))))) ((true=(cQ a s&&cJ (a.length) l s))∧True))))))))
theorem QM (a:List (List Int)) (c:List (List Int)) (l:List (List Int)) (s:Int):aC Tryz.prog (af H5) ah (H4 a c l s) Tryz.f98 (aE Tryz.f98) [] [.agg [.rows .i64 (a),.rows .i64 (c)],.c (.rows .i64 (l)),.c (.int .i64 (s))] (tz a c l s)=Am a c l s:=by kernel_rfl
theorem QN (a:List (List Int)) (c:List (List Int)) (l:List (List Int)) (s:Int) (Yh:(tz a c l s).pre):Am a c l s:=by
 simp only [tz,Am,aG,u1,u2,u3,u4,u5,u6,u7,u8,u9,v1,v2,v3,v4,v5,v6,v7,v8,v9,w1,w2,w3,w4,aH,aa,ab,ae,ar] at Yh ⊢;obtain ⟨hs,hl,hL⟩:=Yh;have S:=gv hs
 obtain ⟨n1,n2,ht⟩:=bA hs.1;have E:=pc hs
 have eL:=nv s 12
 refine ⟨hs,fun h=>by rw [h];rfl,fun h=>⟨by omega,⟨0,⟨by omega,h,(QC hs hl).symm⟩,rfl⟩,fun i ⟨hi,_,he⟩=>⟨fun h3=>⟨by omega,⟨0,⟨by omega,by omega,?_⟩,rfl⟩,fun j ⟨hj,_,hy⟩=>⟨fun h4=>?_,fun h4=>?_⟩⟩,fun h3=>?_⟩⟩⟩
 ·rw [he,oI 0 _ (by omega)];rfl
 ·have A:=E i (by omega)
  have r:=hL j (by omega)
  have v:=r.2 ((ag s 12).getD i 0).toNat (by omega)
  rw [oI [] _ (by omega)] at hy
  refine ⟨by omega,by omega,⟨by omega,by omega,by omega,by omega⟩,fun hb=>?_,fun hb=>⟨by omega,j+1,⟨by omega,by omega,?_⟩,by omega,by omega⟩⟩
  ·rw [hy,hb];simp
  ·rw [hy,hb,Bool.true_and]
 ·refine ⟨by omega,i+1,⟨by omega,h,?_⟩,by omega,by omega⟩
  rw [hy,List.drop_of_length_le (by omega)];rfl
 ·rw [h,he,List.drop_of_length_le (by omega)];rfl
theorem H6:Fits Tryz.prog 98 ⟨[],tB⟩:=by
 refine aJ (Γ:=af H5) (aj H1 (aj oY (aj sq aF))) Tryz.func98 fun ds p h hp=>?_
 unfold tB at h;split at h
 ·cases h
  exact ⟨ah,H4 _ _ _ _ ,by rw [QM];exact QN _ _ _ _  hp⟩
 ·cases h
def tC (a:List (List Int)) (c:List (List Int)) (l:List (List Int)) (s:Int):Post:=⟨bM a c∧l=aO a c∧bu a s,.c (.bool (aR a c s)),[]⟩
def pf:List AD→Option Post
 | [.agg [.rows .i64 (a),.rows .i64 (c)],.c (.rows .i64 (l)),.c (.int .i64 (s))]=>some (tC a c l s)
 | _=>none
def H7:List (Nat×Ctr):=[(98,⟨[],tB⟩),(152,⟨[],Ak⟩)]
def An (a:List (List Int)) (c:List (List Int)) (l:List (List Int)) (s:Int):Prop :=
 ((((bu a s)∧(tw (a.length) l))∧True)∧(ac (cQ a s&&cJ (a.length) l s) ((((a9 a=true)∧(bu a s))∧True)∧(ac (cK a s) ((((a9 c=true)∧(bu c s))∧True)∧((cK c s=aR a c s)∧True)) ((false=aR a c s)∧True))) ((false=aR a c s)∧True)))
theorem QO (a:List (List Int)) (c:List (List Int)) (l:List (List Int)) (s:Int):aC Tryz.prog (af H7) ah am Tryz.f85 (aE Tryz.f85) [] [.agg [.rows .i64 (a),.rows .i64 (c)],.c (.rows .i64 (l)),.c (.int .i64 (s))] (tC a c l s)=An a c l s:=by kernel_rfl
theorem QP (a:List (List Int)) (c:List (List Int)) (l:List (List Int)) (s:Int) (Yh:(tC a c l s).pre):An a c l s:=by
 simp only [tC,An,aG,u1,u2,u3,u4,u5,u6,u7,u8,u9,v1,v2,v3,v4,v5,v6,v7,v8,v9,w1,w2,w3,w4,aH,aa,ab,ae,ar] at Yh ⊢;obtain ⟨hg,rfl,hs⟩:=Yh;have hs2:bu c s:=⟨dh hg.2.1,hs.2.1,by rw [←hg.2.2];exact hs.2.2⟩
 refine ⟨⟨hs,lX hg⟩,fun h=>⟨⟨hg.1,hs⟩,fun h2=>⟨⟨hg.2.1,hs2⟩,by rw [aR,h,h2];rfl⟩,fun h2=>by rw [aR,h,h2];rfl⟩,fun h=>by rw [aR,h];rfl⟩
theorem Ao:Fits Tryz.prog 85 ⟨[],pf⟩:=by
 refine aJ (Γ:=af H7) (aj H6 (aj QL aF)) Tryz.func85 fun ds p h hp=>?_
 unfold pf at h;split at h
 ·cases h
  exact ⟨ah,am,by rw [QO];exact QP _ _ _ _  hp⟩
 ·cases h
def tD (t:List (List Int)) (s:Int):Post:=⟨bu t s,.c (.bool (bv t s)),[]⟩
def tE:List AD→Option Post
 | [.c (.rows .i64 (t)),.c (.int .i64 (s))]=>some (tD t s)
 | _=>none
def H8 (t:List (List Int)) (s:Int):Nat→Option Ann
 | 0=>some (Ann.mk ((Nat)) (fun i=>⟨[(0,.c (.ro (.rows .i64 (t)))),(1,.c (.int .i64 (s))),(5,.c (.int .i64 ((i:Int))))],[]⟩) (fun i=>i≤t.length∧bv t s=(List.range' i (t.length - i)).all (gU t s)) (fun i=>t.length - i) (fun i=>fun b_=>match b_ with | 2=>some (Ann.mk ((Nat)) (fun j=>⟨[(0,.c (.ro (.rows .i64 (t)))),(1,.c (.int .i64 (s))),(5,.c (.int .i64 ((i:Int)))),(6,.c (.int .i64 ((j:Int))))],[]⟩) (fun j=>j≤t.length∧i<t.length∧bv t s=((List.range' j (t.length - j)).all (il t s i)&&(List.range' (i+1) (t.length - (i+1))).all (gU t s))) (fun j=>t.length - j) (fun _=>am)) | _=>none))
 | _=>none
def H9:List (Nat×Ctr):=[]
def nG (t:List (List Int)) (s:Int) (x0:Nat) (x1:Nat):=(List.all (List.range' x0 (t.length - x0)) (il t s x1)&&List.all (List.range' (x1+(1:Nat)) (t.length - (x1+(1:Nat)))) (gU t s))
def Ap (t:List (List Int)) (s:Int):Prop :=
 ((∃x0:Nat,(((x0≤t.length)∧(bv t s=List.all (List.range' x0 (t.length - x0)) (gU t s)))∧((t=t)∧((s=s)∧((0:Int)=(↑x0:Int))))))∧(∀x1:Nat,(((x1≤t.length)∧(bv t s=List.all (List.range' x1 (t.length - x1)) (gU t s)))→(ac (decide ((↑x1:Int)<(↑(t.length):Int))) ((∃x2:Nat,(((x2≤t.length)∧((x1<t.length)∧(bv t s=(nG t s x2 x1))))∧((t=t)∧((s=s)∧(((↑x1:Int)=(↑x1:Int))∧((0:Int)=(↑x2:Int)))))))∧(∀x3:Nat,(((x3≤t.length)∧((x1<t.length)∧(bv t s=(nG t s x3 x1))))→(ac (decide ((↑x3:Int)<(↑(t.length):Int))) ((((0:Int)≤IntKind.wrap IntKind.u64 (↑x1:Int))∧(IntKind.wrap IntKind.u64 (↑x1:Int)≤(62:Int)))∧(((IntKind.i64=IntKind.i64)∧((((0:Int)≤s / (2:Int) ^ (IntKind.wrap IntKind.u64 (↑x1:Int)).toNat)∧(s / (2:Int) ^ (IntKind.wrap IntKind.u64 (↑x1:Int)).toNat≤(9223372036854775807:Int)))∧(((0:Int)≤(1:Int))∧((1:Int)≤(9223372036854775807:Int)))))∧(ac ((↑((s / (2:Int) ^ (IntKind.wrap IntKind.u64 (↑x1:Int)).toNat).toNat &&& (1:Int).toNat):Int) == (1:Int)) ((((0:Int)≤IntKind.wrap IntKind.u64 (↑x3:Int))∧(IntKind.wrap IntKind.u64 (↑x3:Int)≤(62:Int)))∧(((IntKind.i64=IntKind.i64)∧((((0:Int)≤s / (2:Int) ^ (IntKind.wrap IntKind.u64 (↑x3:Int)).toNat)∧(s / (2:Int) ^ (IntKind.wrap IntKind.u64 (↑x3:Int)).toNat≤(9223372036854775807:Int)))∧(((0:Int)≤(1:Int))∧((1:Int)≤(9223372036854775807:Int)))))∧(ac ((↑((s / (2:Int) ^ (IntKind.wrap IntKind.u64 (↑x3:Int)).toNat).toNat &&& (1:Int).toNat):Int) == (1:Int))
 ((aa (↑x1:Int) (t.length))∧((aa (↑x3:Int) ((t.getD ((↑x1:Int).toNat) []).length))∧((((0:Int)≤IntKind.wrap IntKind.u64 ((List.getD t ((↑x1:Int).toNat) []).getD ((↑x3:Int).toNat) (0:Int)))∧(IntKind.wrap IntKind.u64 ((List.getD t ((↑x1:Int).toNat) []).getD ((↑x3:Int).toNat) (0:Int))≤(62:Int)))∧(((IntKind.i64=IntKind.i64)∧((((0:Int)≤s / (2:Int) ^ (IntKind.wrap IntKind.u64 ((List.getD t ((↑x1:Int).toNat) []).getD ((↑x3:Int).toNat) (0:Int))).toNat)∧(s / (2:Int) ^ (IntKind.wrap IntKind.u64 ((List.getD t ((↑x1:Int).toNat) []).getD ((↑x3:Int).toNat) (0:Int))).toNat≤(9223372036854775807:Int)))∧(((0:Int)≤(1:Int))∧((1:Int)≤(9223372036854775807:Int)))))∧(ac ((↑((s / (2:Int) ^ (IntKind.wrap IntKind.u64 ((List.getD t ((↑x1:Int).toNat) []).getD ((↑x3:Int).toNat) (0:Int))).toNat).toNat &&& (1:Int).toNat):Int) == (0:Int)) ((false=bv t s)∧True) ((ab ((↑x3:Int)+(1:Int)))∧(∃x4:Nat,(((x4≤t.length)∧((x1<t.length)∧(bv t s=(nG t s x4 x1))))∧((t.length - x4<t.length - x3)∧((t=t)∧((s=s)∧(((↑x1:Int)=(↑x1:Int))∧((↑x3:Int)+(1:Int)=(↑x4:Int)))))))))))))) ((ab ((↑x3:Int)+(1:Int)))∧(∃x5:Nat,(((x5≤t.length)∧((x1<t.length)∧(bv t s=(nG t s x5 x1))))∧((t.length - x5<t.length - x3)∧((t=t)∧((s=s)∧(((↑x1:Int)=(↑x1:Int))∧((↑x3:Int)+(1:Int)=(↑x5:Int)))))))))))) ((ab ((↑x3:Int)+(1:Int)))∧(∃x6:Nat,(((x6≤t.length)∧((x1<t.length)∧(bv t s=(nG t s x6 x1))))∧((t.length - x6<t.length - x3)∧((t=t) ∧
 ((s=s)∧(((↑x1:Int)=(↑x1:Int))∧((↑x3:Int)+(1:Int)=(↑x6:Int)))))))))))) ((ab ((↑x1:Int)+(1:Int)))∧(∃x7:Nat,(((x7≤t.length)∧(bv t s=List.all (List.range' x7 (t.length - x7)) (gU t s)))∧((t.length - x7<t.length - x1)∧((t=t)∧((s=s)∧((↑x1:Int)+(1:Int)=(↑x7:Int)))))))))))) ((true=bv t s)∧True)))))
theorem QQ (t:List (List Int)) (s:Int):aC Tryz.prog (af H9) ah (H8 t s) Tryz.f157 (aE Tryz.f157) [] [.c (.rows .i64 (t)),.c (.int .i64 (s))] (tD t s)=Ap t s:=by kernel_rfl
theorem QR (t:List (List Int)) (s:Int) (Yh:(tD t s).pre):Ap t s:=by
 simp only [tD,Ap,nG,aG,u1,u2,u3,u4,u5,u6,u7,u8,u9,v1,v2,v3,v4,v5,v6,v7,v8,v9,w1,w2,w3,w4,aH,aa,ab,ae,ar] at Yh ⊢;have S:=gv Yh
 obtain ⟨n1,n2,ht⟩:=bA Yh.1;refine ⟨⟨0,⟨by omega,by rw [bv,gO]⟩,rfl⟩,fun i ⟨hi,he⟩=>⟨fun h3=>⟨⟨0,⟨by omega,by omega,?_⟩,rfl⟩,fun j ⟨hj,_,hy⟩=>⟨fun h4=>?_,fun h4=>?_⟩⟩,fun h3=>by rw [he,gN _ (by omega)]⟩⟩
 ·rw [he,gM _ (by omega),gU,gO]
 ·have r:=ht i (by omega)
  have v:=r.2 j (by omega)
  rw [gM _ (by omega)] at hy
  have w1:IntKind.u64.wrap (i:Int)=(i:Int):=iX (by omega)
  have w2:IntKind.u64.wrap (j:Int)=(j:Int):=iX (by omega)
  have w3:IntKind.u64.wrap ((t.getD i []).getD j 0)=(t.getD i []).getD j 0:=iX (by omega)
  have sh:∀k,0≤s / 2 ^ k∧s / 2 ^ k≤9223372036854775807:=fun k=>oW S.1 k (by omega)
  have e0:il t s i j=(!(aD s i&&aD s j)||aD s ((t.getD i []).getD j 0).toNat):=rfl
  have next:il t s i j=true→(-9223372036854775808≤(j:Int)+1∧(j:Int)+1≤9223372036854775807)∧∃x4,(x4≤t.length∧i<t.length∧bv t s=((List.range' x4 (t.length - x4)).all (il t s i)&&(List.range' (i+1) (t.length - (i+1))).all (gU t s)))∧t.length - x4<t.length - j∧(j:Int)+1=(x4:Int):=fun h =>
   ⟨by omega,j+1,⟨by omega,by omega,by rw [hy,h,Bool.true_and]⟩,by omega,by omega⟩
  simp only [w1,w2,w3,Int.toNat_natCast,oV S.1,se S.1,sf S.1,zl S.1];refine ⟨by omega,⟨sh _,by omega,by omega⟩,fun b1=>⟨by omega,⟨sh _,by omega,by omega⟩,fun b2=>⟨by omega,by omega,by omega,⟨sh _,by omega,by omega⟩,fun b3=>?_,fun b3=>next ?_⟩,fun b2=>next ?_⟩,fun b1=>next ?_⟩
  ·rw [hy,e0,b1,b2,b3];rfl
  ·rw [e0,b3];simp
  ·rw [e0,b2];simp
  ·rw [e0,b1];simp
 ·refine ⟨by omega,i+1,⟨by omega,?_⟩,by omega,by omega⟩
  rw [hy,gN _ (by omega),Bool.true_and]
theorem Ia:Fits Tryz.prog 157 ⟨[],tE⟩:=by
 refine aJ (Γ:=af H9) aF Tryz.func157 fun ds p h hp=>?_
 unfold tE at h;split at h
 ·cases h
  exact ⟨ah,H8 _ _ ,by rw [QQ];exact QR _ _  hp⟩
 ·cases h
def tF (a:List (List Int)) (c:List (List Int)) (s:Int):Post:=⟨bM a c∧bu a s,.c (.bool (cJ a.length (aO a c) s)),[]⟩
def Aq:List AD→Option Post
 | [.agg [.rows .i64 (a),.rows .i64 (c)],.c (.int .i64 (s))]=>some (tF a c s)
 | _=>none
def Ib (a:List (List Int)) (c:List (List Int)) (s:Int):Nat→Option Ann
 | 0=>some (Ann.mk ((Nat)) (fun i=>⟨[(1,.c (.int .i64 (s))),(2,.c (.ptr 2 0)),(5,.c (.own (9))),(6,.c (.int .i64 ((i:Int))))],[(2,some (.box [.ro (.rows .i64 (a)),.ro (.rows .i64 (c))])),(9,some (.rows 0 57 2 .i64 (aO a c)))]⟩) (fun i=>i≤a.length∧cJ a.length (aO a c) s=(List.range' i (a.length - i)).all (gV a.length (aO a c) s)) (fun i=>a.length - i) (fun i=>fun b_=>match b_ with | 2=>some (Ann.mk ((Nat)) (fun j=>⟨[(1,.c (.int .i64 (s))),(2,.c (.ptr 2 0)),(5,.c (.own (9))),(6,.c (.int .i64 ((i:Int)))),(7,.c (.int .i64 ((j:Int))))],[(2,some (.box [.ro (.rows .i64 (a)),.ro (.rows .i64 (c))])),(9,some (.rows 0 57 2 .i64 (aO a c)))]⟩) (fun j=>j≤a.length∧i<a.length∧cJ a.length (aO a c) s=((List.range' j (a.length - j)).all (i6 (aO a c) s i)&&(List.range' (i+1) (a.length - (i+1))).all (gV a.length (aO a c) s))) (fun j=>a.length - j) (fun _=>am)) | _=>none))
 | _=>none
def Ic:List (Nat×Ctr):=[(202,⟨[],Ad⟩)]
def pg (a:List (List Int)) (c:List (List Int)) (s:Int) (x0:Nat) (x1:Nat):=(List.all (List.range' x0 (a.length - x0)) (i6 (aO a c) s x1)&&List.all (List.range' (x1+(1:Nat)) (a.length - (x1+(1:Nat)))) (gV (a.length) (aO a c) s))
def ph (a:List (List Int)) (c:List (List Int)) (x0:Nat) (x1:Nat):=((List.getD (aO a c) ((↑x0:Int).toNat) []).getD ((↑x1:Int).toNat) (0:Int))
def Ar (a:List (List Int)) (c:List (List Int)) (s:Int):Prop :=
 (((bM a c)∧True)∧((∃x0:Nat,(((x0≤a.length)∧(cJ (a.length) (aO a c) s=List.all (List.range' x0 (a.length - x0)) (gV (a.length) (aO a c) s)))∧((s=s)∧(((0:Int)=(↑x0:Int))∧((a=a)∧((c=c)∧(aO a c=aO a c)))))))∧(∀x1:Nat,(((x1≤a.length)∧(cJ (a.length) (aO a c) s=List.all (List.range' x1 (a.length - x1)) (gV (a.length) (aO a c) s)))→(ac (decide ((↑x1:Int)<(↑(a.length):Int))) ((∃x2:Nat,(((x2≤a.length)∧((x1<a.length)∧(cJ (a.length) (aO a c) s=(pg a c s x2 x1))))∧((s=s)∧(((↑x1:Int)=(↑x1:Int))∧(((0:Int)=(↑x2:Int))∧((a=a)∧((c=c)∧(aO a c=aO a c))))))))∧(∀x3:Nat,(((x3≤a.length)∧((x1<a.length)∧(cJ (a.length) (aO a c) s=(pg a c s x3 x1))))→(ac (decide ((↑x3:Int)<(↑(a.length):Int))) ((((0:Int)≤IntKind.wrap IntKind.u64 (↑x3:Int))∧(IntKind.wrap IntKind.u64 (↑x3:Int)≤(62:Int)))∧(((IntKind.i64=IntKind.i64)∧((((0:Int)≤s / (2:Int) ^ (IntKind.wrap IntKind.u64 (↑x3:Int)).toNat)∧(s / (2:Int) ^ (IntKind.wrap IntKind.u64 (↑x3:Int)).toNat≤(9223372036854775807:Int)))∧(((0:Int)≤(1:Int))∧((1:Int)≤(9223372036854775807:Int)))))∧(ac ((↑((s / (2:Int) ^ (IntKind.wrap IntKind.u64 (↑x3:Int)).toNat).toNat &&& (1:Int).toNat):Int) == (1:Int)) ((aa (↑x1:Int) ((aO a c).length))∧((aa (↑x3:Int) (((aO a c).getD ((↑x1:Int).toNat) []).length))∧((((0:Int)≤IntKind.wrap IntKind.u64 (ph a c x1 x3))∧(IntKind.wrap IntKind.u64 (ph a c x1 x3)≤(62:Int))) ∧
 (((IntKind.i64=IntKind.i64)∧((((0:Int)≤s / (2:Int) ^ (IntKind.wrap IntKind.u64 (ph a c x1 x3)).toNat)∧(s / (2:Int) ^ (IntKind.wrap IntKind.u64 (ph a c x1 x3)).toNat≤(9223372036854775807:Int)))∧(((0:Int)≤(1:Int))∧((1:Int)≤(9223372036854775807:Int)))))∧(ac ((↑((s / (2:Int) ^ (IntKind.wrap IntKind.u64 ((List.getD (aO a c) ((↑x1:Int).toNat) []).getD ((↑x3:Int).toNat) (0:Int))).toNat).toNat &&& (1:Int).toNat):Int) == (0:Int)) ((false=cJ (a.length) (aO a c) s)∧True) ((ab ((↑x3:Int)+(1:Int)))∧(∃x4:Nat,(((x4≤a.length)∧((x1<a.length)∧(cJ (a.length) (aO a c) s=(pg a c s x4 x1))))∧((a.length - x4<a.length - x3)∧((s=s)∧(((↑x1:Int)=(↑x1:Int))∧(((↑x3:Int)+(1:Int)=(↑x4:Int))∧((a=a)∧((c=c)∧(aO a c=aO a c))))))))))))))) ((ab ((↑x3:Int)+(1:Int)))∧(∃x5:Nat,(((x5≤a.length)∧((x1<a.length)∧(cJ (a.length) (aO a c) s=(pg a c s x5 x1))))∧((a.length - x5<a.length - x3)∧((s=s)∧(((↑x1:Int)=(↑x1:Int))∧(((↑x3:Int)+(1:Int)=(↑x5:Int))∧((a=a)∧((c=c)∧(aO a c=aO a c))))))))))))) ((ab ((↑x1:Int)+(1:Int)))∧(∃x6:Nat,(((x6≤a.length)∧(cJ (a.length) (aO a c) s=List.all (List.range' x6 (a.length - x6)) (gV (a.length) (aO a c) s)))∧((a.length - x6<a.length - x1)∧((s=s)∧(((↑x1:Int)+(1:Int)=(↑x6:Int))∧((a=a)∧((c=c)∧(aO a c=aO a c))))))))))))) ((true=cJ (a.length) (aO a c) s)∧True))))))
theorem QS (a:List (List Int)) (c:List (List Int)) (s:Int):aC Tryz.prog (af Ic) ah (Ib a c s) Tryz.f158 (aE Tryz.f158) [] [.agg [.rows .i64 (a),.rows .i64 (c)],.c (.int .i64 (s))] (tF a c s)=Ar a c s:=by kernel_rfl
theorem QT (a:List (List Int)) (c:List (List Int)) (s:Int) (Yh:(tF a c s).pre):Ar a c s:=by
 simp only [tF,Ar,pg,ph,aG,u1,u2,u3,u4,u5,u6,u7,u8,u9,v1,v2,v3,v4,v5,v6,v7,v8,v9,w1,w2,w3,w4,aH,aa,ab,ae,ar] at Yh ⊢;obtain ⟨hg,hs⟩:=Yh;have S:=gv hs
 obtain ⟨n1,n2,ht⟩:=bA hs.1;obtain ⟨hl,hL⟩:=lX hg;refine ⟨hg,⟨0,⟨by omega,by rw [cJ,gO]⟩,rfl⟩,fun i ⟨hi,he⟩=>⟨fun h3=>⟨⟨0,⟨by omega,by omega,?_⟩,rfl⟩,fun j ⟨hj,_,hy⟩=>⟨fun h4=>?_,fun h4=>?_⟩⟩,fun h3=>by rw [he,gN _ (by omega)]⟩⟩
 ·rw [he,gM _ (by omega),gV,gO]
 ·have r:=hL i (by omega)
  have v:=r.2 j (by omega)
  rw [gM _ (by omega)] at hy
  have w2:IntKind.u64.wrap (j:Int)=(j:Int):=iX (by omega)
  have w3:IntKind.u64.wrap (((aO a c).getD i []).getD j 0)=((aO a c).getD i []).getD j 0:=iX (by omega)
  have sh:∀k,0≤s / 2 ^ k∧s / 2 ^ k≤9223372036854775807:=fun k=>oW S.1 k (by omega)
  have e0:i6 (aO a c) s i j=(!aD s j||aD s (((aO a c).getD i []).getD j 0).toNat):=rfl
  have next:i6 (aO a c) s i j=true→(-9223372036854775808≤(j:Int)+1∧(j:Int)+1≤9223372036854775807)∧∃x4,(x4≤a.length∧i<a.length∧cJ a.length (aO a c) s=((List.range' x4 (a.length - x4)).all (i6 (aO a c) s i)&&(List.range' (i+1) (a.length - (i+1))).all (gV a.length (aO a c) s)))∧a.length - x4<a.length - j∧(j:Int)+1=(x4:Int):=fun h =>
   ⟨by omega,j+1,⟨by omega,by omega,by rw [hy,h,Bool.true_and]⟩,by omega,by omega⟩
  simp only [w2,w3,Int.toNat_natCast,oV S.1,se S.1,sf S.1,zl S.1];refine ⟨by omega,⟨sh _,by omega,by omega⟩,fun b2=>⟨by omega,by omega,by omega,⟨sh _,by omega,by omega⟩,fun b3=>?_,fun b3=>next ?_⟩,fun b2=>next ?_⟩
  ·rw [hy,e0,b2,b3];rfl
  ·rw [e0,b3];simp
  ·rw [e0,b2];simp
 ·refine ⟨by omega,i+1,⟨by omega,?_⟩,by omega,by omega⟩
  rw [hy,gN _ (by omega),Bool.true_and]
theorem QU:Fits Tryz.prog 158 ⟨[],Aq⟩:=by
 refine aJ (Γ:=af Ic) (aj Qz aF) Tryz.func158 fun ds p h hp=>?_
 unfold Aq at h;split at h
 ·cases h
  exact ⟨ah,Ib _ _ _ ,by rw [QS];exact QT _ _ _  hp⟩
 ·cases h
def bY (t:List (List Int)) (x y:Nat):Int:=en t (en t x y).toNat (bk t x).toNat
def tG (t:List (List Int)):Post:=⟨a9 t=true,.c (.rows 57 2 .i64 (aS t.length (bY t))),[]⟩
def As:List AD→Option Post
 | [.c (.rows .i64 (t))]=>some (tG t)
 | _=>none
def Id (t:List (List Int)):Nat→Option Ann
 | 0=>some (Ann.mk ((Nat)) (fun i=>⟨[(0,.c (.ro (.rows .i64 (t)))),(3,.c (.own (7))),(4,.c (.int .i64 ((i:Int))))],[(7,some (.rows 0 57 2 .i64 ((aS t.length (bY t)).take i)))]⟩) (fun i=>i≤t.length) (fun i=>t.length - i) (fun i=>fun b_=>match b_ with | 2=>some (Ann.mk ((Nat)) (fun j=>⟨[(0,.c (.ro (.rows .i64 (t)))),(3,.c (.own (7))),(4,.c (.int .i64 ((i:Int)))),(5,.c (.own (14))),(6,.c (.int .i64 ((j:Int))))],[(7,some (.rows 0 57 2 .i64 ((aS t.length (bY t)).take i))),(14,some (.ints 2 .i64 ((aq t.length (bY t i)).take j)))]⟩) (fun j=>j≤t.length∧i<t.length) (fun j=>t.length - j) (fun _=>am)) | _=>none))
 | _=>none
def Ie:List (Nat×Ctr):=[(193,⟨[],o8⟩)]
def pi (t:List (List Int)) (x0:Nat) (x1:Nat):=((List.getD t ((↑x0:Int).toNat) []).getD ((↑x1:Int).toNat) (0:Int))
def At (t:List (List Int)):Prop :=
 ((∃x0:Nat,((x0≤t.length)∧((t=t)∧(((0:Int)=(↑x0:Int))∧(([]:List (List Int))=List.take x0 (aS (t.length) (bY t)))))))∧(∀x1:Nat,((x1≤t.length)→(ac (decide ((↑x1:Int)<(↑(t.length):Int))) ((∃x2:Nat,(((x2≤t.length)∧(x1<t.length))∧((t=t)∧(((↑x1:Int)=(↑x1:Int))∧(((0:Int)=(↑x2:Int))∧((List.take x1 (aS (t.length) (bY t))=List.take x1 (aS (t.length) (bY t)))∧([]=List.take x2 (aq (t.length) (bY t x1)))))))))∧(∀x3:Nat,(((x3≤t.length)∧(x1<t.length))→(ac (decide ((↑x3:Int)<(↑(t.length):Int))) ((aa (↑x1:Int) (t.length))∧((aa (↑x3:Int) ((t.getD ((↑x1:Int).toNat) []).length))∧((aa (pi t x1 x3) (t.length))∧((((aW t=true)∧(((0:Int)≤(↑x1:Int))∧((↑x1:Int)≤(↑(t.length):Int) - (1:Int))))∧True)∧((aa (bk t ((↑x1:Int).toNat)) ((t.getD ((pi t x1 x3).toNat) []).length))∧((ae ((List.take x3 (aq (t.length) (bY t x1))).length+[(List.getD t ((pi t x1 x3).toNat) []).getD ((bk t ((↑x1:Int).toNat)).toNat) (0:Int)].length))∧((ab ((↑x3:Int)+(1:Int)))∧(∃x4:Nat,(((x4≤t.length)∧(x1<t.length))∧((t.length - x4<t.length - x3)∧((t=t)∧(((↑x1:Int)=(↑x1:Int))∧(((↑x3:Int)+(1:Int)=(↑x4:Int))∧((List.take x1 (aS (t.length) (bY t))=List.take x1 (aS (t.length) (bY t)))∧(List.take x3 (aq (t.length) (bY t x1))++[(List.getD t ((pi t x1 x3).toNat) []).getD ((bk t ((↑x1:Int).toNat)).toNat) (0:Int)]=List.take x4 (aq (t.length) (bY t x1)))))))))))))))))
 ((ae ((List.take x1 (aS (t.length) (bY t))).length+(List.take x3 (aq (t.length) (bY t x1))::([]:List (List Int))).length))∧((ab ((↑x1:Int)+(1:Int)))∧(∃x5:Nat,((x5≤t.length)∧((t.length - x5<t.length - x1)∧((t=t)∧(((↑x1:Int)+(1:Int)=(↑x5:Int))∧(List.take x1 (aS (t.length) (bY t))++List.take x3 (aq (t.length) (bY t x1))::([]:List (List Int))=List.take x5 (aS (t.length) (bY t)))))))))))))) ((List.take x1 (aS (t.length) (bY t))=aS (t.length) (bY t))∧True)))))
theorem QV (t:List (List Int)):aC Tryz.prog (af Ie) ah (Id t) Tryz.f203 (aE Tryz.f203) [] [.c (.rows .i64 (t))] (tG t)=At t:=by kernel_rfl
theorem QW (t:List (List Int)) (Yh:(tG t).pre):At t:=by
 simp only [tG,At,pi,aG,u1,u2,u3,u4,u5,u6,u7,u8,u9,v1,v2,v3,v4,v5,v6,v7,v8,v9,w1,w2,w3,w4,aH,aa,ab,ae,ar] at Yh ⊢;obtain ⟨n1,n2,ht⟩:=bA (dh Yh);have hT:=fK t.length (bY t)
 have hr:∀i:Nat,(aq t.length (bY t i)).length=t.length:=fun i=>cf _ _
 refine ⟨⟨0,by omega,rfl,by simp⟩,fun i hi=>⟨fun h=>⟨⟨0,by omega,rfl,by simp⟩,fun j ⟨hj,_⟩=>⟨fun h3=>?_,fun h3=>?_⟩⟩,fun h=>List.take_of_length_le (by omega)⟩⟩
 ·have r:=ht i (by omega)
  have v:=r.2 j (by omega)
  have r2:=ht ((t.getD i []).getD j 0).toNat (by omega)
  have b:=lS Yh (x:=i) (by omega)
  have:=hr i
  refine ⟨by omega,by omega,by omega,⟨dh Yh,by omega,by omega⟩,by omega,by omega,by omega,j+1,by omega,by omega,by omega,?_⟩
  rw [←dF _ 0 j (by omega),cr _ _ _ (by omega)]
  rfl
 ·refine ⟨by omega,by omega,i+1,by omega,by omega,by omega,?_⟩
  have e:(aq t.length (bY t i)).take j=aq t.length (bY t i):=List.take_of_length_le (by rw [hr];omega)
  rw [←dF _ [] i (by omega),eZ _ _ _ (by omega),e]
theorem QX:Fits Tryz.prog 203 ⟨[],As⟩:=by
 refine aJ (Γ:=af Ie) (aj zu aF) Tryz.func203 fun ds p h hp=>?_
 unfold As at h;split at h
 ·cases h
  exact ⟨ah,Id _ ,by rw [QV];exact QW _  hp⟩
 ·cases h
def tH (t:List (List Int)) (s:Int):Post:=⟨a9 t=true∧bu t s,.c (.bool (cK t s)),[]⟩
def Au:List AD→Option Post
 | [.c (.rows .i64 (t)),.c (.int .i64 (s))]=>some (tH t s)
 | _=>none
def If (t:List (List Int)) (s:Int):Nat→Option Ann
 | 0=>some (Ann.mk ((Nat)) (fun i=>⟨[(0,.c (.ro (.rows .i64 (t)))),(1,.c (.int .i64 (s))),(5,.c (.own (9))),(6,.c (.int .i64 ((i:Int))))],[(9,some (.rows 0 57 2 .i64 (aS t.length (bY t))))]⟩) (fun i=>i≤t.length∧cK t s=(List.range' i (t.length - i)).all (gW t s)) (fun i=>t.length - i) (fun i=>fun b_=>match b_ with | 2=>some (Ann.mk ((Nat)) (fun j=>⟨[(0,.c (.ro (.rows .i64 (t)))),(1,.c (.int .i64 (s))),(5,.c (.own (9))),(6,.c (.int .i64 ((i:Int)))),(7,.c (.int .i64 ((j:Int))))],[(9,some (.rows 0 57 2 .i64 (aS t.length (bY t))))]⟩) (fun j=>j≤t.length∧i<t.length∧cK t s=((List.range' j (t.length - j)).all (im t s i)&&(List.range' (i+1) (t.length - (i+1))).all (gW t s))) (fun j=>t.length - j) (fun _=>am)) | _=>none))
 | _=>none
def Ig:List (Nat×Ctr):=[(203,⟨[],As⟩)]
def pj (t:List (List Int)) (s:Int) (x0:Nat) (x1:Nat):=(List.all (List.range' x0 (t.length - x0)) (im t s x1)&&List.all (List.range' (x1+(1:Nat)) (t.length - (x1+(1:Nat)))) (gW t s))
def pk (t:List (List Int)) (x0:Nat) (x1:Nat):=((List.getD (aS (t.length) (bY t)) ((↑x0:Int).toNat) []).getD ((↑x1:Int).toNat) (0:Int))
def Av (t:List (List Int)) (s:Int):Prop :=
 (((a9 t=true)∧True)∧((∃x0:Nat,(((x0≤t.length)∧(cK t s=List.all (List.range' x0 (t.length - x0)) (gW t s)))∧((t=t)∧((s=s)∧(((0:Int)=(↑x0:Int))∧(aS (t.length) (bY t)=aS (t.length) (bY t)))))))∧(∀x1:Nat,(((x1≤t.length)∧(cK t s=List.all (List.range' x1 (t.length - x1)) (gW t s)))→(ac (decide ((↑x1:Int)<(↑(t.length):Int))) ((∃x2:Nat,(((x2≤t.length)∧((x1<t.length)∧(cK t s=(pj t s x2 x1))))∧((t=t)∧((s=s)∧(((↑x1:Int)=(↑x1:Int))∧(((0:Int)=(↑x2:Int))∧(aS (t.length) (bY t)=aS (t.length) (bY t))))))))∧(∀x3:Nat,(((x3≤t.length)∧((x1<t.length)∧(cK t s=(pj t s x3 x1))))→(ac (decide ((↑x3:Int)<(↑(t.length):Int))) ((((0:Int)≤IntKind.wrap IntKind.u64 (↑x3:Int))∧(IntKind.wrap IntKind.u64 (↑x3:Int)≤(62:Int)))∧(((IntKind.i64=IntKind.i64)∧((((0:Int)≤s / (2:Int) ^ (IntKind.wrap IntKind.u64 (↑x3:Int)).toNat)∧(s / (2:Int) ^ (IntKind.wrap IntKind.u64 (↑x3:Int)).toNat≤(9223372036854775807:Int)))∧(((0:Int)≤(1:Int))∧((1:Int)≤(9223372036854775807:Int)))))∧(ac ((↑((s / (2:Int) ^ (IntKind.wrap IntKind.u64 (↑x3:Int)).toNat).toNat &&& (1:Int).toNat):Int) == (1:Int)) ((aa (↑x1:Int) ((aS (t.length) (bY t)).length))∧((aa (↑x3:Int) (((aS (t.length) (bY t)).getD ((↑x1:Int).toNat) []).length))∧((((0:Int)≤IntKind.wrap IntKind.u64 (pk t x1 x3))∧(IntKind.wrap IntKind.u64 (pk t x1 x3)≤(62:Int)))∧(((IntKind.i64=IntKind.i64) ∧
 ((((0:Int)≤s / (2:Int) ^ (IntKind.wrap IntKind.u64 (pk t x1 x3)).toNat)∧(s / (2:Int) ^ (IntKind.wrap IntKind.u64 (pk t x1 x3)).toNat≤(9223372036854775807:Int)))∧(((0:Int)≤(1:Int))∧((1:Int)≤(9223372036854775807:Int)))))∧(ac ((↑((s / (2:Int) ^ (IntKind.wrap IntKind.u64 ((List.getD (aS (t.length) (bY t)) ((↑x1:Int).toNat) []).getD ((↑x3:Int).toNat) (0:Int))).toNat).toNat &&& (1:Int).toNat):Int) == (0:Int)) ((false=cK t s)∧True) ((ab ((↑x3:Int)+(1:Int)))∧(∃x4:Nat,(((x4≤t.length)∧((x1<t.length)∧(cK t s=(pj t s x4 x1))))∧((t.length - x4<t.length - x3)∧((t=t)∧((s=s)∧(((↑x1:Int)=(↑x1:Int))∧(((↑x3:Int)+(1:Int)=(↑x4:Int))∧(aS (t.length) (bY t)=aS (t.length) (bY t))))))))))))))) ((ab ((↑x3:Int)+(1:Int)))∧(∃x5:Nat,(((x5≤t.length)∧((x1<t.length)∧(cK t s=(pj t s x5 x1))))∧((t.length - x5<t.length - x3)∧((t=t)∧((s=s)∧(((↑x1:Int)=(↑x1:Int))∧(((↑x3:Int)+(1:Int)=(↑x5:Int))∧(aS (t.length) (bY t)=aS (t.length) (bY t))))))))))))) ((ab ((↑x1:Int)+(1:Int)))∧(∃x6:Nat,(((x6≤t.length)∧(cK t s=List.all (List.range' x6 (t.length - x6)) (gW t s)))∧((t.length - x6<t.length - x1)∧((t=t)∧((s=s)∧(((↑x1:Int)+(1:Int)=(↑x6:Int))∧(aS (t.length) (bY t)=aS (t.length) (bY t))))))))))))) ((true=cK t s)∧True))))))
theorem QY (t:List (List Int)) (s:Int):aC Tryz.prog (af Ig) ah (If t s) Tryz.f159 (aE Tryz.f159) [] [.c (.rows .i64 (t)),.c (.int .i64 (s))] (tH t s)=Av t s:=by kernel_rfl
theorem QZ (t:List (List Int)) (s:Int) (Yh:(tH t s).pre):Av t s:=by
 simp only [tH,Av,pj,pk,aG,u1,u2,u3,u4,u5,u6,u7,u8,u9,v1,v2,v3,v4,v5,v6,v7,v8,v9,w1,w2,w3,w4,aH,aa,ab,ae,ar] at Yh ⊢;obtain ⟨hg,hs⟩:=Yh;have S:=gv hs
 obtain ⟨n1,n2,ht⟩:=bA hs.1;have hT:=fK t.length (bY t)
 refine ⟨hg,⟨0,⟨by omega,by rw [cK,gO]⟩,rfl⟩,fun i ⟨hi,he⟩=>⟨fun h3=>⟨⟨0,⟨by omega,by omega,?_⟩,rfl⟩,fun j ⟨hj,_,hy⟩=>⟨fun h4=>?_,fun h4=>?_⟩⟩,fun h3=>by rw [he,gN _ (by omega)]⟩⟩
 ·rw [he,gM _ (by omega),gW,gO]
 ·have r:=ht i (by omega)
  have v:=r.2 j (by omega)
  have r2:=ht ((t.getD i []).getD j 0).toNat (by omega)
  have b:=lS hg (x:=i) (by omega)
  have v2:=r2.2 (bk t i).toNat (by omega)
  have ev:((aS t.length (bY t)).getD i []).getD j 0=(t.getD ((t.getD i []).getD j 0).toNat []).getD (bk t i).toNat 0:=by
   rw [eZ _ _ _ (by omega),cr _ _ _ (by omega)];rfl
  have el:((aS t.length (bY t)).getD i []).length=t.length:=by rw [eZ _ _ _ (by omega),cf]
  rw [gM _ (by omega)] at hy
  have w2:IntKind.u64.wrap (j:Int)=(j:Int):=iX (by omega)
  have w3:IntKind.u64.wrap ((t.getD ((t.getD i []).getD j 0).toNat []).getD (bk t i).toNat 0)=(t.getD ((t.getD i []).getD j 0).toNat []).getD (bk t i).toNat 0:=iX (by omega)
  have sh:∀k,0≤s / 2 ^ k∧s / 2 ^ k≤9223372036854775807:=fun k=>oW S.1 k (by omega)
  have e0:im t s i j=(!aD s j||aD s ((t.getD ((t.getD i []).getD j 0).toNat []).getD (bk t i).toNat 0).toNat):=rfl
  have next:im t s i j=true→(-9223372036854775808≤(j:Int)+1∧(j:Int)+1≤9223372036854775807)∧∃x4,(x4≤t.length∧i<t.length∧cK t s=((List.range' x4 (t.length - x4)).all (im t s i)&&(List.range' (i+1) (t.length - (i+1))).all (gW t s)))∧t.length - x4<t.length - j∧(j:Int)+1=(x4:Int):=fun h =>
   ⟨by omega,j+1,⟨by omega,by omega,by rw [hy,h,Bool.true_and]⟩,by omega,by omega⟩
  rw [ev,el];simp only [w2,w3,Int.toNat_natCast,oV S.1,se S.1,sf S.1,zl S.1];refine ⟨by omega,⟨sh _,by omega,by omega⟩,fun b2=>⟨by omega,by omega,by omega,⟨sh _,by omega,by omega⟩,fun b3=>?_,fun b3=>next ?_⟩,fun b2=>next ?_⟩
  ·rw [hy,e0,b2,b3];rfl
  ·rw [e0,b3];simp
  ·rw [e0,b2];simp
 ·refine ⟨by omega,i+1,⟨by omega,?_⟩,by omega,by omega⟩
  rw [hy,gN _ (by omega),Bool.true_and]
theorem Q0:Fits Tryz.prog 159 ⟨[],Au⟩:=by
 refine aJ (Γ:=af Ig) (aj QX aF) Tryz.func159 fun ds p h hp=>?_
 unfold Au at h;split at h
 ·cases h
  exact ⟨ah,If _ _ ,by rw [QY];exact QZ _ _  hp⟩
 ·cases h
theorem Q1 {s:Int} (h:0≤s):s.tmod 2=1↔aD s 0=true:=by
 rw [aD,Nat.testBit_zero,decide_eq_true_iff,Int.tmod_eq_emod_of_nonneg h];omega
def tI (a:List (List Int)) (c:List (List Int)) (s:Int):Post:=⟨bM a c∧bu a s,.c (.bool (aR a c s)),[]⟩
def pm:List AD→Option Post
 | [.agg [.rows .i64 (a),.rows .i64 (c)],.c (.int .i64 (s))]=>some (tI a c s)
 | _=>none
def Ih:List (Nat×Ctr):=[(157,⟨[],tE⟩),(158,⟨[],Aq⟩),(159,⟨[],Au⟩)]
def Aw (a:List (List Int)) (c:List (List Int)) (s:Int):Prop :=
 (((2:Int)≠(0:Int))∧(ac (Int.tmod s (2:Int) == (1:Int)) (((bu a s)∧True)∧(ac (bv a s) ((((bM a c)∧(bu a s))∧True)∧(ac (cJ (a.length) (aO a c) s) ((((a9 a=true)∧(bu a s))∧True)∧(ac (cK a s) ((((a9 c=true)∧(bu c s))∧True)∧((cK c s=aR a c s)∧True)) ((false=aR a c s)∧True))) ((false=aR a c s)∧True))) ((false=aR a c s)∧True))) ((false=aR a c s)∧True)))
theorem Q2 (a:List (List Int)) (c:List (List Int)) (s:Int):aC Tryz.prog (af Ih) ah am Tryz.f90 (aE Tryz.f90) [] [.agg [.rows .i64 (a),.rows .i64 (c)],.c (.int .i64 (s))] (tI a c s)=Aw a c s:=by kernel_rfl
theorem Q3 (a:List (List Int)) (c:List (List Int)) (s:Int) (Yh:(tI a c s).pre):Aw a c s:=by
 simp only [tI,Aw,aG,u1,u2,u3,u4,u5,u6,u7,u8,u9,v1,v2,v3,v4,v5,v6,v7,v8,v9,w1,w2,w3,w4,aH,aa,ab,ae,ar] at Yh ⊢;obtain ⟨hg,hs⟩:=Yh;have hs2:bu c s:=⟨dh hg.2.1,hs.2.1,by rw [←hg.2.2];exact hs.2.2⟩
 have ob:=Q1 hs.2.1
 refine ⟨by omega,fun h=>?_,fun h=>?_⟩
 ·have b0:=ob.1 h
  refine ⟨hs,fun h1=>⟨⟨hg,hs⟩,fun h2=>⟨⟨hg.1,hs⟩,fun h3=>⟨⟨hg.2.1,hs2⟩,?_⟩,fun h3=>?_⟩,fun h2=>?_⟩,fun h1=>?_⟩
  ·rw [aR,cQ,b0,h1,h2,h3];rfl
  ·rw [aR,cQ,b0,h1,h2,h3];rfl
  ·rw [aR,cQ,b0,h1,h2];rfl
  ·rw [aR,cQ,b0,h1];rfl
 ·have b0:aD s 0=false:=by
   cases hb:aD s 0 with
   | false=>rfl
   | true=>exact absurd (ob.2 hb) h
  rw [aR,cQ,b0];rfl
theorem Ax:Fits Tryz.prog 90 ⟨[],pm⟩:=by
 refine aJ (Γ:=af Ih) (aj Ia (aj QU (aj Q0 aF))) Tryz.func90 fun ds p h hp=>?_
 unfold pm at h;split at h
 ·cases h
  exact ⟨ah,am,by rw [Q2];exact Q3 _ _ _  hp⟩
 ·cases h
end Go.Sx
