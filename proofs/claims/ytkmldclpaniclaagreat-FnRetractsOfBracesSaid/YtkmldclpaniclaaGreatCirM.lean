/- CirM -/
import Derived.Test.YtkmldclpaniclaaGreatNamE
import Derived.Test.YtkmldclpaniclaaGreatGrp
import Derived.Test.YtkmldclpaniclaaGreatNamD
set_option linter.unusedSimpArgs false
set_option linter.unusedVariables false
set_option linter.defProp false
open Go Go.Proofs
namespace Go.Sx
def cF(n:Int):Dd :=
 aA n::((if n=4 then [cd (aA 2) (aA 2)]else if n=8 then [cd (aA 2) (aA 4),cd (aA 2) (cd (aA 2) (aA 2))]else if n=9 then [cd (aA 3) (aA 3)]else if n=12 then [cd (aA 2) (aA 6)]else []) ++
  ((if 6<=n/\n.tmod 2=0 then [iG (n.tdiv 2) 0]else [])++((if n=8\/n=12 then [iG (n.tdiv 2) (n.tdiv 4)]else [])++(if n=12 then [mG]else []))))
def gU(n:Int):Dd:=aA n::(if n=4 then [cd (aA 2) (aA 2)]else if n=8 then [cd (aA 2) (aA 4),cd (aA 2) (cd (aA 2) (aA 2))]else if n=9 then [cd (aA 3) (aA 3)]else if n=12 then [cd (aA 2) (aA 6)]else [])
def iu(n:Int):Dd:=gU n++(if 6<=n/\n.tmod 2=0 then [iG (n.tdiv 2) 0]else [])
def jE(n:Int):Dd:=iu n++(if n=8\/n=12 then [iG (n.tdiv 2) (n.tdiv 4)]else [])
theorem Ss(n:Int):cF n=jE n++(if n=12 then [mG]else []):=by simp[cF,jE,iu,gU]
theorem lq{n:Int}(h:1<=n):((aA n).length:Int)=n:=by rw[aA,fb];omega
theorem nV{n:Int}(h:1<=n):ba (aA n).length (aA n):=by
 have e:=lq h
 refine⟨rfl,fun x hx=>?_⟩
 have r:(aA n).getD x []=ap n.toNat (d9 n x):=fG _ _ _ (by omega)
 refine⟨by rw[r,bK];omega,fun y hy=>?_⟩
 have v:en (aA n) x y=d9 n x y:=by unfold en;rw[r,cj _ _ _ (by omega)]
 have a:=CG (a:=(x:Int)+(y:Int)) n (by omega)
 have b:=CH ((x:Int)+(y:Int)) (b:=n) (by omega)
 rw[v,d9];omega
theorem yY{t:Dc}(h:aM t=true):ba t.length t:=by
 obtain⟨_,_,q⟩:=bT h;exact⟨rfl,fun x hx=>⟨(q x hx).1,fun y hy=>by
  have:=(q x hx).2 y hy
  have e2:en t x y=(t.getD x []).getD y 0:=rfl
  omega⟩⟩
def sB:List AD->Option Post
 | [.c (.int .i64 n)]=>some ⟨1<=n/\n<=12,.c (.tr [22,62,2] (.r3 .i64 (cF n))),[]⟩
 |_=>none
def JU(n:Int):Nat->Option Ann
 |1012=>some (Ann.mk ((Unit)) (fun u=>⟨[(0,D' n),(3,M' 600)],[(600,some (.tr 0 [22,62,2] (.r3 .i64 (gU n))))]⟩) (fun u=>1<=n/\n<=12) (fun u=>0) (fun u=>fun b_=>match b_ with|1014=>some (Ann.mk ((Unit)) (fun u=>⟨[(0,D' n),(3,M' 600)],[(600,some (.tr 0 [22,62,2] (.r3 .i64 (iu n))))]⟩) (fun u=>1<=n/\n<=12) (fun u=>0) (fun u=>fun b_=>match b_ with|1016=>some (Ann.mk ((Unit)) (fun u=>⟨[(0,D' n),(3,M' 600)],[(600,some (.tr 0 [22,62,2] (.r3 .i64 (jE n))))]⟩) (fun u=>1<=n/\n<=12) (fun u=>0) (fun _=>ak))|_=>none))|_=>none))
 |_=>none
def JV(t:Nat):Bool:=[2000009,2000017,2000031,2000039,2000047,2000060,2000074,2000088].contains t
def lu:=(ba ((aA (2:Int)).length) (aA (2:Int)))
theorem JX:Fits Tryz.prog 126 ⟨[],sB⟩:=by
 refine ffv (Γ:=af [(167,⟨[],uv⟩),(168,⟨[],ux⟩),(169,⟨[],ED⟩),(170,⟨[],EO⟩)]) (aj Mv (aj MB (aj VE (aj VW aG)))) Tryz.func126 fun ds p h ξ=>?_
 unfold sB at h;split at h<;>cases h
 rename_i n
 refine⟨JV,JU n,(((1:Int)<=n/\n<=(12:Int))/\True)/\ab (n == (4:Int)) ((((1:Int)<=(2:Int)/\(2:Int)<=(12:Int))/\True)/\(((1:Int)<=(2:Int)/\(2:Int)<=(12:Int))/\True)/\((lu/\lu/\(1:Nat)<=(aA (2:Int)).length/\(aA (2:Int)).length<=(144:Nat)/\(aA (2:Int)).length<=(144:Nat))/\True)/\ar (FC.len (FC.r3 IntKind.i64 (aA n::([]:Dd)))+FC.len (FC.r3 IntKind.i64 (cd (aA (2:Int)) (aA (2:Int))::([]:Dd))))/\∃x0:Unit,((1:Int)<=n/\n<=(12:Int))/\n=n/\aA n::([]:Dd)++cd (aA (2:Int)) (aA (2:Int))::([]:Dd)=gU n) (ab (n == (8:Int)) ((((1:Int)<=(2:Int)/\(2:Int)<=(12:Int))/\True)/\(((1:Int)<=(2:Int)/\(2:Int)<=(12:Int))/\True)/\((lu/\lu/\(1:Nat)<=(aA (2:Int)).length/\(aA (2:Int)).length<=(144:Nat)/\(aA (2:Int)).length<=(144:Nat))/\True)/\(((1:Int)<=(2:Int)/\(2:Int)<=(12:Int))/\True)/\(((1:Int)<=(4:Int)/\(4:Int)<=(12:Int))/\True)/\((lu/\ba ((aA (4:Int)).length) (aA (4:Int))/\(1:Nat)<=(aA (4:Int)).length/\(aA (2:Int)).length<=(144:Nat)/\(aA (4:Int)).length<=(144:Nat))/\True)/\(((1:Int)<=(2:Int)/\(2:Int)<=(12:Int))/\True)/\((lu/\ba ((cd (aA (2:Int)) (aA (2:Int))).length) (cd (aA (2:Int)) (aA (2:Int)))/\(1:Nat)<=(cd (aA (2:Int)) (aA (2:Int))).length/\(aA (2:Int)).length<=(144:Nat)/\(cd (aA (2:Int)) (aA (2:Int))).length<=(144:Nat))/\True)/\ar (FC.len (FC.r3 IntKind.i64 (aA n::([]:Dd)))+FC.len (FC.r3 IntKind.i64 (cd (aA (2:Int)) (aA (4:Int))::cd (aA (2:Int)) (cd (aA (2:Int)) (aA (2:Int)))::([]:Dd))))/\∃x1:Unit,((1:Int)<=n/\n<=(12:Int))/\n=n/\aA n::([]:Dd)++cd (aA (2:Int)) (aA (4:Int))::cd (aA (2:Int)) (cd (aA (2:Int)) (aA (2:Int)))::([]:Dd)=gU n) (ab (n == (9:Int)) ((((1:Int)<=(3:Int)/\(3:Int)<=(12:Int))/\True)/\(((1:Int)<=(3:Int)/\(3:Int)<=(12:Int))/\True)/\((ba ((aA (3:Int)).length) (aA (3:Int))/\ba ((aA (3:Int)).length) (aA (3:Int))/\(1:Nat)<=(aA (3:Int)).length/\(aA (3:Int)).length<=(144:Nat)/\(aA (3:Int)).length<=(144:Nat))/\True)/\ar (FC.len (FC.r3 IntKind.i64 (aA n::([]:Dd)))+FC.len (FC.r3 IntKind.i64 (cd (aA (3:Int)) (aA (3:Int))::([]:Dd))))/\∃x2:Unit,((1:Int)<=n/\n<=(12:Int))/\n=n/\aA n::([]:Dd)++cd (aA (3:Int)) (aA (3:Int))::([]:Dd)=gU n) (ab (n == (12:Int)) ((((1:Int)<=(2:Int)/\(2:Int)<=(12:Int))/\True)/\(((1:Int)<=(6:Int)/\(6:Int)<=(12:Int))/\True)/\((lu/\ba ((aA (6:Int)).length) (aA (6:Int))/\(1:Nat)<=(aA (6:Int)).length/\(aA (2:Int)).length<=(144:Nat)/\(aA (6:Int)).length<=(144:Nat))/\True)/\ar (FC.len (FC.r3 IntKind.i64 (aA n::([]:Dd)))+FC.len (FC.r3 IntKind.i64 (cd (aA (2:Int)) (aA (6:Int))::([]:Dd))))/\∃x3:Unit,((1:Int)<=n/\n<=(12:Int))/\n=n/\aA n::([]:Dd)++cd (aA (2:Int)) (aA (6:Int))::([]:Dd)=gU n) (∃x4:Unit,((1:Int)<=n/\n<=(12:Int))/\n=n/\aA n::([]:Dd)=gU n))))/\∀x5:Unit,((1:Int)<=n/\n<=(12:Int)->ab (decide ((6:Int)<=n)) ((2:Int)≠(0:Int)/\ab (Int.tmod n (2:Int) == (0:Int)) (((2:Int)≠(0:Int)/\ae (Int.tdiv n (2:Int)))/\(((1:Int)<=Int.tdiv n (2:Int)/\Int.tdiv n (2:Int)<=(12:Int)/\(0:Int)<=(0:Int)/\(0:Int)<=(12:Int))/\True)/\ar (FC.len (FC.r3 IntKind.i64 (gU n))+FC.len (FC.r3 IntKind.i64 (iG (Int.tdiv n (2:Int)) (0:Int)::([]:Dd))))/\∃x6:Unit,((1:Int)<=n/\n<=(12:Int))/\n=n/\gU n++iG (Int.tdiv n (2:Int)) (0:Int)::([]:Dd)=iu n) (∃x7:Unit,((1:Int)<=n/\n<=(12:Int))/\n=n/\gU n=iu n)) (∃x8:Unit,((1:Int)<=n/\n<=(12:Int))/\n=n/\gU n=iu n)/\∀x9:Unit,((1:Int)<=n/\n<=(12:Int)->ab (n == (8:Int)) (((2:Int)≠(0:Int)/\ae (Int.tdiv n (2:Int)))/\((4:Int)≠(0:Int)/\ae (Int.tdiv n (4:Int)))/\(((1:Int)<=Int.tdiv n (2:Int)/\Int.tdiv n (2:Int)<=(12:Int)/\(0:Int)<=Int.tdiv n (4:Int)/\Int.tdiv n (4:Int)<=(12:Int))/\True)/\ar (FC.len (FC.r3 IntKind.i64 (iu n))+FC.len (FC.r3 IntKind.i64 (iG (Int.tdiv n (2:Int)) (Int.tdiv n (4:Int))::([]:Dd))))/\∃x10:Unit,((1:Int)<=n/\n<=(12:Int))/\n=n/\iu n++iG (Int.tdiv n (2:Int)) (Int.tdiv n (4:Int))::([]:Dd)=jE n) (ab (n == (12:Int)) (((2:Int)≠(0:Int)/\ae (Int.tdiv n (2:Int)))/\((4:Int)≠(0:Int)/\ae (Int.tdiv n (4:Int)))/\(((1:Int)<=Int.tdiv n (2:Int)/\Int.tdiv n (2:Int)<=(12:Int)/\(0:Int)<=Int.tdiv n (4:Int)/\Int.tdiv n (4:Int)<=(12:Int))/\True)/\ar (FC.len (FC.r3 IntKind.i64 (iu n))+FC.len (FC.r3 IntKind.i64 (iG (Int.tdiv n (2:Int)) (Int.tdiv n (4:Int))::([]:Dd))))/\∃x11:Unit,((1:Int)<=n/\n<=(12:Int))/\n=n/\iu n++iG (Int.tdiv n (2:Int)) (Int.tdiv n (4:Int))::([]:Dd)=jE n) (∃x12:Unit,((1:Int)<=n/\n<=(12:Int))/\n=n/\iu n=jE n))/\∀x13:Unit,(1:Int)<=n/\n<=(12:Int)->ab (n == (12:Int)) ((((4:Int)=(4:Int)/\[(1:Int),(2:Int),(0:Int),(3:Int)]::[(0:Int),(2:Int),(3:Int),(1:Int)]::([]:Dc)=iI)/\True)/\ar (FC.len (FC.r3 IntKind.i64 (jE n))+FC.len (FC.r3 IntKind.i64 (mG::([]:Dd))))/\jE n++mG::([]:Dd)=cF n/\True) (jE n=cF n/\True))),by kernel_rfl,?_⟩
 simp only[lu,aH]at ξ⊢;obtain⟨h1,h2⟩:=ξ;have l2:(aA 2).length=2:=by have:=lq (n:=2) (by omega);omega
 have l4:(aA 4).length=4:=by have:=lq (n:=4) (by omega);omega
 have t2:=nV (n:=2) (by omega)
 have t4:=nV (n:=4) (by omega)
 have l22:(cd (aA 2) (aA 2)).length=4:=by rw[cd,fb,l2]
 have t22:ba 4 (cd (aA 2) (aA 2)):=by
  have:=yY (t:=cd (aA 2) (aA 2)) (by decide +kernel)
  rw[l22]at this;exact this
 rw[l2]at t2;rw[l4]at t4;have l3:(aA 3).length=3:=by have:=lq (n:=3) (by omega);omega
 have l6:(aA 6).length=6:=by have:=lq (n:=6) (by omega);omega
 have t3:=nV (n:=3) (by omega)
 have t6:=nV (n:=6) (by omega)
 rw[l3]at t3;rw[l6]at t6;have:n=1\/n=2\/n=3\/n=4\/n=5\/n=6\/n=7\/n=8\/n=9\/n=10\/n=11\/n=12:=by omega
 rcases this with rfl|rfl|rfl|rfl|rfl|rfl|rfl|rfl|rfl|rfl|rfl|rfl<;>simp[l2,t2,l4,t4,l22,t22,l3,t3,l6,t6,Ss,jE,iu,gU,iI,FC.len]
theorem Sw{n:Int}(h1:1<=n)(h2:n<=7):∀t∈cF n,(t.length:Int)=n/\aM t=true/\(ff t.length [t] [t]).length<=100:=by
 have:n=1\/n=2\/n=3\/n=4\/n=5\/n=6\/n=7:=by omega
 rcases this with rfl|rfl|rfl|rfl|rfl|rfl|rfl<;>decide +kernel
theorem Sy{n:Int}(h1:1<=n)(h2:n<=12):∀t∈cF n,(t.length:Int)=n/\aM t=true:=by
 have:n=1\/n=2\/n=3\/n=4\/n=5\/n=6\/n=7\/n=8\/n=9\/n=10\/n=11\/n=12:=by omega
 rcases this with rfl|rfl|rfl|rfl|rfl|rfl|rfl|rfl|rfl|rfl|rfl|rfl<;>decide +kernel
theorem Sz{n:Int}(h1:1<=n)(h2:n<=7){t:Dc}(ht:t∈cF n):(t.length:Int)=n/\aM t=true/\ba t.length t/\AuOk t.length (cJ t)/\(cJ t).length<=100/\ja (cJ t) 0 0=0:=by
 obtain⟨a,b,c⟩:=Sw h1 h2 t ht;have T:=yY b
 have E:cJ t=(ff t.length [t] [t]).take 1000000:=by
  rw[cJ,g5,AA rfl];exact LJ (n:=t.length) (zD T) rfl (by omega) (by omega)
 have L:(cJ t).length<=100:=by rw[E,AS];omega
 obtain⟨x,y⟩:=TE T (by omega) (by omega)
 exact⟨a,b,T,x,L,y⟩
theorem SA{n:Int}(h1:1<=n)(h2:n<=12){t:Dc}(ht:t∈cF n):(t.length:Int)=n/\aM t=true/\ba t.length t:=by
 obtain⟨a,b⟩:=Sy h1 h2 t ht;exact⟨a,b,yY b⟩
def nW(d:Nat)(t:Dc)(A:Dc)(K:Db)(out:Dd):Post:=⟨aL K<d/\t.length<=12/\ba t.length t/\AuOk t.length A/\A.length<=100/\KOk t.length A.length K/\(∀c,c∈out->ba t.length c)/\out.length+100 ^ aL K<=1099511627775,.c (.ro (.r3 .i64 ((cP t A d K out)))),[.rows 62 2 .i64 t]⟩
def pG(d:Nat):List AD->Option Post
 | [.c (.rows .i64 t),.c (.rows .i64 A),.c (.ints .i64 K),.c (.r3 .i64 out)]=>some (nW d t A K out)
 |_=>none
def JY(d:Nat)(t:Dc)(A:Dc)(K:Db)(out:Dd):Nat->Option Ann
 |0=>U' fun x=>⟨⟨[(0,M' 700),(1,I' A),(2,G' K),(3,J' out),(9,D' x)],[(700,O' t)]⟩,(x<=K.length/\(∀j,j<x->0<=K.getD j 0)),K.length-x⟩
 |1004=>some (Ann.mk ((Unit)) (fun u=>⟨[(0,M' 700),(1,I' A),(2,G' K),(3,J' out),(9,D' (a9 K:Int))],[(700,O' t)]⟩) (fun u=>True) (fun u=>0) (fun u=>fun b_=>match b_ with|2=>U' fun y=>⟨⟨[(0,M' 700),(1,I' A),(2,G' K),(3,J' out),(9,D' (a9 K:Int)),(10,M' 10),(11,D' y)],[(10,O' (((List.range y).map fun y=>bA (A.getD (K.getD y 0).toNat []) (t.getD y [])))),(700,O' t)]⟩,y<=t.length/\a9 K=K.length,t.length-y⟩|4=>U' fun j=>⟨⟨[(0,M' 700),(1,I' A),(2,G' K),(3,J' out),(9,D' (a9 K:Int)),(10,I' (b9 t A K)),(12,D' j)],[(700,O' t)]⟩,(j<=out.length/\a9 K=K.length/\(∀j1,j1<j->dj (out.getD j1 []) (b9 t A K)=true)),out.length-j⟩|1013=>some (Ann.mk ((Unit)) (fun u=>⟨[(0,M' 700),(3,J' out),(10,I' (b9 t A K)),(12,D' (ep (b9 t A K) out:Int))],[(700,O' t)]⟩) (fun u=>a9 K=K.length) (fun u=>0) (fun _=>ak))|6=>U' fun i=>⟨⟨[(0,M' 700),(1,I' A),(2,G' K),(3,J' (dS (dp t A (cP t A (d-1)) K) out i)),(9,D' (a9 K:Int)),(14,D' i)],[(700,O' t)]⟩,i<=A.length/\a9 K≠K.length,A.length-i⟩|_=>none))
 |_=>none
def JZ(d:Nat):List (Nat×Ctr):=[(189,⟨[],nZ⟩),(142,⟨[],zz⟩),(144,⟨[],ox⟩),(190,⟨[],yW⟩),(136,⟨[(0,0)],pG d⟩)]
def y0(d:Nat)(t:Dc)(A:Dc)(K:Db)(out:Dd):Prop :=
 (((∃x0:Nat,(((x0<=K.length)/\(∀(j:Nat),j<x0->(0:Int)<=K.getD j (0:Int)))/\((A=A)/\((K=K)/\((out=out)/\(((0:Int)=(↑x0:Int))/\(t=t)))))))/\(∀x1:Nat,(((x1<=K.length)/\(∀(j:Nat),j<x1->(0:Int)<=K.getD j (0:Int)))->(ab (decide ((↑x1:Int)<(↑(K.length):Int))) ((aa (↑x1:Int) K.length)/\(ab (decide ((0:Int)<=K.getD (↑x1:Int).toNat (0:Int))) ((ae ((↑x1:Int)+(1:Int)))/\(∃x2:Nat,(((x2<=K.length)/\(∀(j:Nat),j<x2->(0:Int)<=K.getD j (0:Int)))/\((K.length-x2<K.length-x1)/\((A=A)/\((K=K)/\((out=out)/\(((↑x1:Int)+(1:Int)=(↑x2:Int))/\(t=t))))))))) (∃x3:Unit,(True/\((A=A)/\((K=K)/\((out=out)/\(((↑x1:Int)=(↑(a9 K):Int))/\(t=t))))))))) (∃x4:Unit,(True/\((A=A)/\((K=K)/\((out=out)/\(((↑x1:Int)=(↑(a9 K):Int))/\(t=t)))))))))))/\(∀x5:Unit,(True->(ab ((↑(a9 K):Int) == (↑(K.length):Int)) ((∃x6:Nat,(((x6<=t.length)/\(a9 K=K.length))/\((A=A)/\((K=K)/\((out=out)/\(((↑(a9 K):Int)=(↑(a9 K):Int))/\(((0:Int)=(↑x6:Int))/\((([]:Dc)=List.map (fun(y:Nat)=>bA (A.getD ((K.getD y (0:Int)).toNat) []) (t.getD y [])) (List.range x6))/\(t=t)))))))))/\(∀x7:Nat,(((x7<=t.length)/\(a9 K=K.length))->(ab (decide ((↑x7:Int)<(↑(t.length):Int))) ((aa (↑x7:Int) K.length)/\((aa (K.getD (↑x7:Int).toNat (0:Int)) A.length)/\((aa (↑x7:Int) t.length)/\((((ar ((A.getD ((K.getD (↑x7:Int).toNat (0:Int)).toNat) []).length)) /\
 (kw ((t.getD (↑x7:Int).toNat []).length) (A.getD ((K.getD (↑x7:Int).toNat (0:Int)).toNat) [])))/\True)/\((ar ((List.map (fun(y:Nat)=>bA (A.getD ((K.getD y (0:Int)).toNat) []) (t.getD y [])) (List.range x7)).length+(bA (A.getD ((K.getD (↑x7:Int).toNat (0:Int)).toNat) []) (t.getD (↑x7:Int).toNat [])::([]:Dc)).length))/\((ae ((↑x7:Int)+(1:Int)))/\(∃x8:Nat,(((x8<=t.length)/\(a9 K=K.length))/\((t.length-x8<t.length-x7)/\((A=A)/\((K=K)/\((out=out)/\(((↑(a9 K):Int)=(↑(a9 K):Int))/\(((↑x7:Int)+(1:Int)=(↑x8:Int))/\((List.map (fun(y:Nat)=>bA (A.getD ((K.getD y (0:Int)).toNat) []) (t.getD y [])) (List.range x7)++bA (A.getD ((K.getD (↑x7:Int).toNat (0:Int)).toNat) []) (t.getD (↑x7:Int).toNat [])::([]:Dc)=List.map (fun(y:Nat)=>bA (A.getD ((K.getD y (0:Int)).toNat) []) (t.getD y [])) (List.range x8))/\(t=t)))))))))))))))) (((∃x9:Nat,(((x9<=out.length)/\((a9 K=K.length)/\(∀(j1:Nat),j1<x9->dj (out.getD j1 ([]:Dc)) (b9 t A K)=true)))/\((A=A)/\((K=K)/\((out=out)/\(((↑(a9 K):Int)=(↑(a9 K):Int))/\((List.map (fun(y:Nat)=>bA (A.getD ((K.getD y (0:Int)).toNat) []) (t.getD y [])) (List.range x7)=b9 t A K)/\(((0:Int)=(↑x9:Int))/\(t=t)))))))))/\(∀x10:Nat,(((x10<=out.length)/\((a9 K=K.length)/\(∀(j1:Nat),j1<x10->dj (out.getD j1 ([]:Dc)) (b9 t A K)=true)))->(ab (decide ((↑x10:Int)<(↑(out.length):Int)))
 ((aa (↑x10:Int) out.length)/\((((aD (out.getD (↑x10:Int).toNat ([]:Dc)))/\((aD (b9 t A K))/\((out.getD (↑x10:Int).toNat ([]:Dc)).length=(b9 t A K).length)))/\True)/\(ab (dj (out.getD (↑x10:Int).toNat ([]:Dc)) (b9 t A K)) ((ae ((↑x10:Int)+(1:Int)))/\(∃x11:Nat,(((x11<=out.length)/\((a9 K=K.length)/\(∀(j1:Nat),j1<x11->dj (out.getD j1 ([]:Dc)) (b9 t A K)=true)))/\((out.length-x11<out.length-x10)/\((A=A)/\((K=K)/\((out=out)/\(((↑(a9 K):Int)=(↑(a9 K):Int))/\((b9 t A K=b9 t A K)/\(((↑x10:Int)+(1:Int)=(↑x11:Int))/\(t=t))))))))))) (∃x12:Unit,((a9 K=K.length)/\((out=out)/\((b9 t A K=b9 t A K)/\(((↑x10:Int)=(↑(ep (b9 t A K) out):Int))/\(t=t))))))))) (∃x13:Unit,((a9 K=K.length)/\((out=out)/\((b9 t A K=b9 t A K)/\(((↑x10:Int)=(↑(ep (b9 t A K) out):Int))/\(t=t))))))))))/\(∀x14:Unit,((a9 K=K.length)->((bD out.length (Option.some (↑(ep (b9 t A K) out):Int)) Option.none)/\((ar (FC.len (FC.r3 IntKind.i64 (b9 t A K::([]:Dd)))+FC.len (FC.r3 IntKind.i64 (bZ out (Option.some (↑(ep (b9 t A K) out):Int)) Option.none))))/\((bD out.length Option.none (Option.some (↑(ep (b9 t A K) out):Int)))/\((ar (FC.len (FC.r3 IntKind.i64 ([]:Dd))+FC.len (FC.r3 IntKind.i64 (bZ out Option.none (Option.some (↑(ep (b9 t A K) out):Int)))))) /\
 ((ar (FC.len (FC.r3 IntKind.i64 (([]:Dd)++bZ out Option.none (Option.some (↑(ep (b9 t A K) out):Int))))+FC.len (FC.r3 IntKind.i64 (b9 t A K::([]:Dd)++bZ out (Option.some (↑(ep (b9 t A K) out):Int)) Option.none))))/\((([]:Dd)++bZ out Option.none (Option.some (↑(ep (b9 t A K) out):Int))++(b9 t A K::([]:Dd)++bZ out (Option.some (↑(ep (b9 t A K) out):Int)) Option.none)=cP t A (d+(1:Nat)) K out)/\((t=t)/\True)))))))))))))) ((∃x15:Nat,(((x15<=A.length)/\(a9 K≠K.length))/\((A=A)/\((K=K)/\((out=dS (dp t A (cP t A (d+(1:Nat)-(1:Nat))) K) out x15)/\(((↑(a9 K):Int)=(↑(a9 K):Int))/\(((0:Int)=(↑x15:Int))/\(t=t))))))))/\(∀x16:Nat,(((x16<=A.length)/\(a9 K≠K.length))->(ab (decide ((↑x16:Int)<(↑(A.length):Int))) (((ar K.length)/\True)/\((aa (↑(a9 K):Int) K.length)/\((((t.length<=(12:Nat))/\((ba t.length t)/\((AuOk t.length A)/\((A.length<=(1000000:Nat))/\(KOk t.length A.length (List.set K ((↑(a9 K):Int).toNat) (↑x16:Int)))))))/\True)/\(ab ((d8 t A (List.set K ((↑(a9 K):Int).toNat) (↑x16:Int))).2) ((((aL ((d8 t A (List.set K ((↑(a9 K):Int).toNat) (↑x16:Int))).1)<d)/\((t.length<=(12:Nat))/\((ba t.length t)/\((AuOk t.length A)/\((A.length<=(100:Nat))/\((KOk t.length A.length ((d8 t A (List.set K ((↑(a9 K):Int).toNat) (↑x16:Int))).1)) /\
 ((∀(c:Dc),c∈dS (dp t A (cP t A (d+(1:Nat)-(1:Nat))) K) out x16->ba t.length c)/\((dS (dp t A (cP t A (d+(1:Nat)-(1:Nat))) K) out x16).length+(100:Nat) ^ aL ((d8 t A (List.set K ((↑(a9 K):Int).toNat) (↑x16:Int))).1)<=(1099511627775:Nat)))))))))/\((List.map List.length t=List.map List.length t)/\True))/\((ae ((↑x16:Int)+(1:Int)))/\(∃x17:Nat,(((x17<=A.length)/\(a9 K≠K.length))/\((A.length-x17<A.length-x16)/\((A=A)/\((K=K)/\((cP t A d ((d8 t A (List.set K ((↑(a9 K):Int).toNat) (↑x16:Int))).1) (dS (dp t A (cP t A (d+(1:Nat)-(1:Nat))) K) out x16)=dS (dp t A (cP t A (d+(1:Nat)-(1:Nat))) K) out x17)/\(((↑(a9 K):Int)=(↑(a9 K):Int))/\(((↑x16:Int)+(1:Int)=(↑x17:Int))/\(t=t))))))))))) ((ae ((↑x16:Int)+(1:Int)))/\(∃x18:Nat,(((x18<=A.length)/\(a9 K≠K.length))/\((A.length-x18<A.length-x16)/\((A=A)/\((K=K)/\((dS (dp t A (cP t A (d+(1:Nat)-(1:Nat))) K) out x16=dS (dp t A (cP t A (d+(1:Nat)-(1:Nat))) K) out x18)/\(((↑(a9 K):Int)=(↑(a9 K):Int))/\(((↑x16:Int)+(1:Int)=(↑x18:Int))/\(t=t)))))))))))))) ((dS (dp t A (cP t A (d+(1:Nat)-(1:Nat))) K) out x16=cP t A (d+(1:Nat)) K out)/\((t=t)/\True))))))))))
theorem SB(d:Nat)(t:Dc)(A:Dc)(K:Db)(out:Dd):aE Tryz.prog (af (JZ d)) ah (JY (d+1) t A K out) Tryz.f136 (aF Tryz.f136) [(0,0)] [.c (.rows .i64 t),.c (.rows .i64 A),.c (.ints .i64 K),.c (.r3 .i64 out)] (nW (d+1) t A K out)=y0 d t A K out:=by kernel_rfl
theorem SD(d:Nat)(t:Dc)(A:Dc)(K:Db)(out:Dd)(ξ:(nW (d+1) t A K out).pre):y0 d t A K out:=by
 simp only[nW,y0,aH]at ξ⊢;simp only[FC.len,bZ,AP];obtain⟨h1,h2,h3,h4,h5,h6,h7,h8⟩:=ξ;have kl:=h6.len
 have pl:=pJ K
 have p1:1<=100 ^ aL K:=Ck _ _ (by omega)
 refine⟨⟨⟨0,⟨by omega,fun j h=>by omega⟩,rfl⟩,fun x ⟨hx,ix⟩=>⟨fun g=>⟨by omega,fun q=>⟨by omega,x+1,⟨by omega,fun j hj=>?_⟩,by omega,by omega⟩,fun q=>⟨⟨⟩,?_⟩⟩,fun g=>⟨⟨⟩,?_⟩⟩⟩,fun _ _=>⟨fun hp=>?_,fun hp=>?_⟩⟩
 ·by_cases e:j=x
  ·subst e;exact q
  ·exact ix j (by omega)
 ·rw[zl K x ix hx (fun _=>by omega)]
 ·rw[zl K x ix hx (fun z=>absurd z (by omega))]
 ·have hp:a9 K=K.length:=by omega
  have T:=Ms h3 h4 h6 hp
  have PC:=zi (b9 t A K) out
  have o7:∀j,j<out.length->ba t.length (out.getD j []):=fun j hj=>h7 _ (cU out [] j hj)
  have e1:a9 K=K.length:=hp
  refine⟨⟨0,⟨by omega,e1⟩,rfl,rfl⟩,fun y ⟨hy,_⟩=>⟨fun g=>?_,fun g=>?_⟩⟩
  ·have hk:=sO K hp y (by omega)
   have hr:=h6.rng y (by omega)
   have L:=h4.len (K.getD y 0).toNat (by omega)
   have Lt:=(h3.2 y (by omega)).1
   refine⟨by omega,by omega,by omega,⟨by omega,fun i hi=>?_⟩,by simp;omega,by omega,y+1,⟨by omega,e1⟩,by omega,by omega,?_⟩
   ·have:=h4.rng (K.getD y 0).toNat i (by omega) (by omega)
    rw[Lt];exact this
   ·rw[t8]
  ·have cT:(List.range y).map (fun y=>bA (A.getD (K.getD y 0).toNat []) (t.getD y []))=b9 t A K:=by rw[show y=t.length by omega];rfl
   refine⟨⟨⟨0,⟨by omega,e1,fun j h=>by omega⟩,cT,rfl⟩,fun j ⟨hj,_,ij⟩=>⟨fun g2=>⟨by omega,⟨qb (o7 j (by omega)) h2,qb T h2,by rw[(o7 j (by omega)).1,T.1]⟩,fun q=>⟨by omega,j+1,⟨by omega,e1,fun j1 hj1=>?_⟩,by omega,by omega⟩,fun q=>⟨⟨⟩,e1,?_⟩⟩,fun g2=>⟨⟨⟩,e1,?_⟩⟩⟩,fun _ _=>?_⟩
   ·by_cases e:j1=j
    ·subst e;exact q
    ·exact ij j1 (by omega)
   ·rw[zj _ out j ij hj (fun _=>q)]
   ·rw[zj _ out j ij hj (fun z=>absurd z (by omega))]
   ·simp only[AR,BV,Al,AS,A6,Bs]
    refine⟨by omega,by omega,by omega,by omega,by omega,?_⟩
    rw[cP,AA hp,n7];rfl
 ·have hp:a9 K≠K.length:=by omega
  have hx:a9 K<K.length:=by omega
  have NG:=zm hx (i:=0)
  have P:100 ^ aL K=100 ^ (aL K-1)*100:=by rw[<-Bg];congr 1;omega
  have B:∀i,i<=A.length->(∀c,c∈dS (dp t A (cP t A d) K) out i->ba t.length c)/\(dS (dp t A (cP t A d) K) out i).length<=out.length+i*100 ^ (aL K-1):=fun i hi=>by
   constructor
   ·refine sP (P:=fun o=>∀c,c∈o->ba t.length c) h7 i fun j o hj hP=>?_
    unfold dp;split
    ·exact hP
    ·rename_i K' hs
     exact zn h3 h4 (fun K hK hp=>Ms h3 h4 hK hp) d K' o (n8 h3 h4 h6 hx (by omega) hs).1 hP
   ·refine zo i fun j o hj=>?_
    unfold dp;split
    ·omega
    ·rename_i K' hs
     have q:=n8 h3 h4 h6 hx (by omega) hs
     have a:=Kp h3 h4 (M:=100) h5 (by omega) d K' o q.1
     have b:100 ^ aL K'<=100 ^ (aL K-1):=Bh (by omega) (by omega)
     omega
  refine⟨⟨0,⟨by omega,hp⟩,rfl,rfl⟩,fun i ⟨hi,_⟩=>⟨fun g=>?_,fun g=>?_⟩⟩
  ·obtain⟨B1,B2⟩:=B i hi
   have hk:=h6.set (a9 K) (w:=(i:Int)) ⟨by omega,by omega⟩
   have step:∀r,dp t A (cP t A d) K i (dS (dp t A (cP t A d) K) out i)=r->r=dS (dp t A (cP t A d) K) out (i+1):=fun r e=>by rw[dS,e]
   refine⟨by omega,by omega,⟨h2,h3,h4,by omega,hk⟩,fun q=>?_,fun q=>⟨by omega,i+1,⟨by omega,hp⟩,by omega,step _ ?_,by omega⟩⟩
   ·have ok:=Vu q
    have N:=n8 h3 h4 h6 hx (i:=i) (by omega) ok
    have b:100 ^ aL (d8 t A (K.set (a9 K) (i:Int))).1<=100 ^ (aL K-1):=Bh (by omega) (by omega)
    have c:i*100 ^ (aL K-1)+100 ^ (aL K-1)<=100 ^ (aL K-1)*100:=by
     rw[<-Nat.succ_mul,Nat.mul_comm];exact Cl _ (by omega)
    refine⟨⟨by omega,h2,h3,h4,h5,N.1,B1,?_⟩,by omega,i+1,⟨by omega,hp⟩,by omega,step _ ?_,by omega⟩
    ·show(dS (dp t A (cP t A d) K) out i).length+_<=_
     omega
    ·exact Vw ok
   ·exact Vx (Vv q)
  ·rw[cP,AB hp,show i=A.length by omega];rfl
theorem SE(t:Dc)(A:Dc)(K:Db)(out:Dd)(h:(nW 0 t A K out).pre):False:=by
 simp only[nW]at h;omega
theorem SF(d:Nat):Fits Tryz.prog 136 ⟨[(0,0)],pG d⟩:=by
 induction d with
 |zero =>
  refine I4 ⟨Tryz.f136,Tryz.func136,by kernel_rfl,by kernel_rfl⟩ (by decide) fun ds p h hp=>?_
  unfold pG at h;split at h
  ·cases h
   exact SE _ _ _ _  hp
  ·cases h
 |succ d ih =>
  refine rR (Γ:=af (JZ d)) (aj sM (aj Tu (aj uM (aj Sr (aj ih aG))))) Tryz.func136 (by kernel_rfl) (by kernel_rfl) (by kernel_rfl) fun ds p h hp=>?_
  unfold pG at h;split at h
  ·cases h
   exact⟨ah,JY _ _ _ _ _ ,by rw[SB];exact SD _ _ _ _ _  hp⟩
  ·cases h
def y8:List AD->Option Post
 | [.c (.rows .i64 t)]=>some ⟨aM t=true/\AuOk t.length (cJ t)/\(cJ t).length<=100/\t.length<=7,.c (.ro (.r3 .i64 (gA t (cJ t)))),[.rows 62 2 .i64 t]⟩
 |_=>none
def J0(t:Dc):Nat->Option Ann
 |0=>U' fun i=>⟨⟨[(0,M' 700),(3,M' 3),(4,D' i)],[(3,Q' (List.replicate i (-1))),(700,O' t)]⟩,i<=t.length,t.length-i⟩
 |_=>none
theorem SI:Fits Tryz.prog 86 ⟨[(0,0)],y8⟩:=by
 refine ffv (Γ:=af [(137,⟨[],zB⟩),(136,⟨[(0,0)],pG 12⟩)]) (aj Tx (aj (SF 12) aG)) Tryz.func86 fun ds p h ξ=>?_
 unfold y8 at h;split at h<;>cases h
 rename_i t
 refine⟨ah,J0 t,(∃x0:Nat,x0<=t.length/\(0:Int)=(x0:Int)/\[]=List.replicate x0 (-1:Int)/\t=t)/\∀x1:Nat,x1<=t.length->ab (decide ((x1:Int)<(t.length:Int))) (ar ((List.replicate x1 (-1:Int)).length+[(-1:Int)].length)/\ae ((x1:Int)+(1:Int))/\∃x2:Nat,x2<=t.length/\t.length-x2<t.length-x1/\(x1:Int)+(1:Int)=(x2:Int)/\List.replicate x1 (-1:Int)++[(-1:Int)]=List.replicate x2 (-1:Int)/\t=t) (aa (0:Int) ((List.replicate x1 (-1:Int)).length)/\(aM t=true/\True)/\((aL (List.set (List.replicate x1 (-1:Int)) (0:Nat) (0:Int))<(12:Nat)/\t.length<=(12:Nat)/\ba t.length t/\AuOk t.length (cJ t)/\(cJ t).length<=(100:Nat)/\KOk t.length (cJ t).length (List.set (List.replicate x1 (-1:Int)) (0:Nat) (0:Int))/\(∀(c:Dc),c∈([]:Dd)->ba t.length c)/\([]:Dd).length+(100:Nat) ^ aL (List.set (List.replicate x1 (-1:Int)) (0:Nat) (0:Int))<=(1099511627775:Nat))/\List.map List.length t=List.map List.length t/\True)/\cP t (cJ t) (12:Nat) (List.set (List.replicate x1 (-1:Int)) (0:Nat) (0:Int)) ([]:Dd)=gA t (cJ t)/\t=t/\True),by kernel_rfl,?_⟩
 simp only[aH]at ξ⊢;obtain⟨h1,h2,h3,h4⟩:=ξ;obtain⟨q1,q2,q3⟩:=bT h1;have T:ba t.length t:=⟨rfl,fun x hx=>⟨(q3 x hx).1,fun y hy=>by
  have:=(q3 x hx).2 y hy
  have e2:en t x y=(t.getD x []).getD y 0:=rfl
  omega⟩⟩
 refine⟨⟨0,by omega,rfl,rfl⟩,fun i hi=>⟨fun g=>⟨by omega,by omega,i+1,by omega,by omega,by omega,?_⟩,fun g=>?_⟩⟩
 ·rw[List.replicate_succ']
 ·rw[show i=t.length by omega]
  have NG:=Kv (n:=t.length) (by omega)
  have P:100 ^ aL ((List.replicate t.length (-1)).set 0 0)<=100 ^ 6:=Bh (by omega) (by omega)
  exact⟨by omega,h1,⟨by omega,by omega,T,h2,h3,Z0.ok zp h2,fun c hc=>by simp at hc,by simp;omega⟩,rfl⟩
end Go.Sx
