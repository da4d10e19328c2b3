/- Brs -/
import Derived.Test.YtkmldclpaniclaaGreatCrcC
import Derived.Test.YtkmldclpaniclaaGreatActP
set_option linter.unusedSimpArgs false
set_option linter.unusedVariables false
set_option linter.defProp false
open Go Go.Proofs
namespace Go.Sx
theorem Ja{p:D1}{n:Nat}(hn:p.length<=n)(h0:1<=n):∀i k,i<=p.length->k<p.length->0<=(ft p i).getD k 0/\(ft p i).getD k 0<(n:Int)
 |0,k,_,hk=>by simp[ft,AP,hk];omega
 |i+1,k,hi,hk=>by
  rw[ft,iM _ _ _ _ (by rw[nP];exact hk)]
  split
  ·omega
  ·exact Ja hn h0 i k (by omega) hk
def xP:List AD->Option Post
 | [.c (.ints .i64 p)]=>some ⟨am p.length/\gv p.length p,.c (.ints 2 .i64 (b6 p)),[]⟩
 |_=>none
def Jb(p:D1):Nat->Option Ann
 |0=>Q' fun i=>⟨⟨[(0,D' p),(3,J' 8),(9,D' p),(10,A' p.length),(11,A' i)],[(8,O' (ft p i))]⟩,i<=p.length,p.length-i⟩
 |_=>none
theorem RQ:Fits Tryz.prog 148 ⟨[],xP⟩:=by
 refine ffv (Γ:=ah []) aI Tryz.func148 fun ds p h ξ=>?_
 unfold xP at h;split at h<;>cases h
 rename_i p
 refine⟨aj,Jb p,((0:Int)<=(p.length:Int)/\(p.length:Int)<=(p.length:Int)/\am ((p.length:Int).toNat))/\(∃x0:Nat,x0<=p.length/\p=p/\p=p/\(p.length:Int)=(p.length:Int)/\(0:Int)=(x0:Int)/\List.replicate ((p.length:Int).toNat) (0:Int)=ft p x0)/\∀x1:Nat,x1<=p.length->ab (decide ((x1:Int)<(p.length:Int))) (ac (x1:Int) p.length/\ac (p.getD (x1:Int).toNat (0:Int)) (ft p x1).length/\af ((x1:Int)+(1:Int))/\∃x2:Nat,x2<=p.length/\p.length-x2<p.length-x1/\p=p/\p=p/\(p.length:Int)=(p.length:Int)/\(x1:Int)+(1:Int)=(x2:Int)/\List.set (ft p x1) ((p.getD (x1:Int).toNat (0:Int)).toNat) (x1:Int)=ft p x2) (ft p x1=b6 p/\True),by kernel_rfl,?_⟩
 simp only[aJ]at ξ⊢;obtain⟨h1,h2⟩:=ξ;refine⟨by omega,⟨0,by omega,rfl,rfl⟩,fun i hi=>⟨fun h=>?_,fun h=>?_⟩⟩
 ·have hr:=h2 i (by omega)
  rw[nP];exact⟨by omega,by omega,by omega,i+1,by omega,by omega,by omega,rfl⟩
 ·rw[show i=p.length by omega];rfl
def pu:List AD->Option Post
 | [.c (.int .i64 x),.c (.int .i64 y),.box [.ints .i64 p],.box [.rows .i64 t],.box [.ints .i64 q]]=>some ⟨0<=x/\x<(q.length:Int)/\0<=y/\y<(q.length:Int)/\0<=q.getD x.toNat 0/\q.getD x.toNat 0<(t.length:Int)/\0<=q.getD y.toNat 0/\q.getD y.toNat 0<((t.getD (q.getD x.toNat 0).toNat []).length:Int)/\0<=(t.getD (q.getD x.toNat 0).toNat []).getD (q.getD y.toNat 0).toNat 0/\(t.getD (q.getD x.toNat 0).toNat []).getD (q.getD y.toNat 0).toNat 0<(p.length:Int),.c (.int .i64 (p.getD ((t.getD (q.getD x.toNat 0).toNat []).getD (q.getD y.toNat 0).toNat 0).toNat 0)),[]⟩
 |_=>none
theorem RT:Fits Tryz.prog 149 ⟨[],pu⟩:=by
 refine ffv (Γ:=ah []) aI Tryz.func149 fun ds p h ξ=>?_
 unfold pu at h;split at h<;>cases h
 rename_i x y p t q
 refine⟨aj,ar,ac x q.length/\ac (q.getD x.toNat (0:Int)) t.length/\ac y q.length/\ac (q.getD y.toNat (0:Int)) ((t.getD ((q.getD x.toNat (0:Int)).toNat) []).length)/\ac ((List.getD t ((List.getD q x.toNat (0:Int)).toNat) []).getD ((q.getD y.toNat (0:Int)).toNat) (0:Int)) p.length/\p.getD (((List.getD t ((List.getD q x.toNat (0:Int)).toNat) []).getD ((q.getD y.toNat (0:Int)).toNat) (0:Int)).toNat) (0:Int)=p.getD (((List.getD t ((List.getD q x.toNat (0:Int)).toNat) []).getD ((q.getD y.toNat (0:Int)).toNat) (0:Int)).toNat) (0:Int)/\True,by kernel_rfl,?_⟩
 simp only[aJ]at ξ⊢;omega
def xS:List AD->Option Post
 | [.c (.rows .i64 t),.c (.ints .i64 p)]=>some ⟨1<=t.length/\t.length<=12/\aA t.length t/\p.length=t.length/\gv p.length p,.c (.rows 62 2 .i64 (eS t p)),[]⟩
 |_=>none
theorem RX:Fits Tryz.prog 102 ⟨[],xS⟩:=by
 refine ffv (Γ:=ah [(148,⟨[],xP⟩),(124,⟨[],xd⟩),(149,⟨[],pu⟩)]) (aw RQ (aw Rn (aw RT aI))) Tryz.func102 fun ds p h ξ=>?_
 unfold xS at h;split at h<;>cases h
 rename_i t p
 refine⟨aj,ar,((am p.length/\gv p.length p)/\True)/\(((0:Int)<=(t.length:Int)/\(t.length:Int)<=(144:Int)/\∀(x y:Int),(0:Int)<=x->x<(t.length:Int)->(0:Int)<=y->y<(t.length:Int)->lz (pu [AD.c (FC.int IntKind.i64 x),AD.c (FC.int IntKind.i64 y),AD.box [FC.ints IntKind.i64 p],AD.box [FC.rows IntKind.i64 t],AD.box [FC.ints IntKind.i64 (b6 p)]]))/\True)/\(b9 ((t.length:Int).toNat) fun(x y:Nat)=>lw (pu [AD.c (FC.int IntKind.i64 (x:Int)),AD.c (FC.int IntKind.i64 (y:Int)),AD.box [FC.ints IntKind.i64 p],AD.box [FC.rows IntKind.i64 t],AD.box [FC.ints IntKind.i64 (b6 p)]]))=eS t p/\True,by kernel_rfl,?_⟩
 simp only[aJ]at ξ⊢;obtain⟨n1,n2,ht,h3,h2⟩:=ξ;have bl:(b6 p).length=t.length:=(nP p _).trans h3
 have bi:∀k,k<t.length->0<=(b6 p).getD k 0/\(b6 p).getD k 0<(t.length:Int):=fun k hk=>Ja (by omega) n1 _ k (AE _) (by omega)
 refine⟨⟨by omega,h2⟩,⟨by omega,by omega,fun x y a b c d=>?_⟩,ag4 fun x y hx hy=>rfl⟩
 have bx:=bi x.toNat (by omega)
 have b2:=bi y.toNat (by omega)
 have r:=ht.2 ((b6 p).getD x.toNat 0).toNat (by omega)
 have r2:=r.2 ((b6 p).getD y.toNat 0).toNat (by omega)
 simp only[en]at r2;exact⟨by omega,by omega,by omega,by omega,by omega,by omega,by omega,by omega,by omega,by omega⟩
def fp(p:D2->Bool):D3->Int->Int
 | [],_=>-1
 |x::l,i=>if p x=true then i else fp p l (i+1)
theorem Jf(p:D2->Bool):∀(l:D3) (i:Int),0<=i->decide (0<=fp p l i)=l.any p
 | [],i,_=>by simp[fp]
 |x::l,i,h=>by
  rw[fp,List.any_cons];split
  ·rename_i hx;rw[hx,Aa h];rfl
  ·rename_i hx;rw[Jf p l (i+1) (by omega)];simp[hx]
def xU:List AD->Option Post
 | [.c (.r3 .i64 l),.fv (.tb q p)]=>some ⟨l.length<=1099511627776/\∀x∈l,q x,.c (.int .i64 (fp p l 0)),[]⟩
 |_=>none
def Jg(l:D3)(q:D2->Prop)(p:D2->Bool):Nat->Option Ann
 |0=>Q' fun i=>⟨⟨[(0,I' l),(1,.fv (.tb q p)),(7,A' l.length),(8,A' i)],[]⟩,i<=l.length/\fp p l 0=fp p (l.drop i) (i:Int),l.length-i⟩
 |_=>none
theorem R0:Fits Tryz.prog 147 ⟨[],xU⟩:=by
 refine ffv (Γ:=ah []) aI Tryz.func147 fun ds p h ξ=>?_
 unfold xU at h;split at h<;>cases h
 rename_i l q p
 refine⟨aj,Jg l q p,(∃x0:Nat,(x0<=l.length/\fp p l (0:Int)=fp p (List.drop x0 l) (x0:Int))/\l=l/\FV.tb q p=FV.tb q p/\(l.length:Int)=(l.length:Int)/\(0:Int)=(x0:Int))/\∀x1:Nat,x1<=l.length/\fp p l (0:Int)=fp p (List.drop x1 l) (x1:Int)->ab (decide ((x1:Int)<(l.length:Int))) (ac (x1:Int) l.length/\q (l.getD (x1:Int).toNat ([]:D2))/\ab (p (l.getD (x1:Int).toNat ([]:D2))) ((x1:Int)=fp p l (0:Int)/\True) (af ((x1:Int)+(1:Int))/\∃x2:Nat,(x2<=l.length/\fp p l (0:Int)=fp p (List.drop x2 l) (x2:Int))/\l.length-x2<l.length-x1/\l=l/\FV.tb q p=FV.tb q p/\(l.length:Int)=(l.length:Int)/\(x1:Int)+(1:Int)=(x2:Int))) ((-1:Int)=fp p l (0:Int)/\True),by kernel_rfl,?_⟩
 simp only[aJ]at ξ⊢;obtain⟨hl,hq⟩:=ξ;refine⟨⟨0,⟨by omega,rfl⟩,rfl⟩,fun i ⟨hi,he⟩=>⟨fun h=>?_,fun h=>?_⟩⟩
 ·rw[drop_cons' l [] i (by omega)]at he
  simp only[fp]at he;refine⟨by omega,hq _ (bI l [] i (by omega)),fun h1=>?_,fun h1=>⟨by omega,i+1,⟨by omega,?_⟩,by omega,by omega⟩⟩
  ·rw[he,AA h1]
  ·rw[he,AB (by rw[h1];exact Bool.false_ne_true)];simp
 ·rw[he,BF (by omega)];rfl
def xW:List AD->Option Post
 | [.c (.r3 .i64 l),.fv (.tb q p)]=>some ⟨l.length<=1099511627776/\∀x∈l,q x,.c (.bool (l.any p)),[]⟩
 |_=>none
theorem R5:Fits Tryz.prog 99 ⟨[],xW⟩:=by
 refine ffv (Γ:=ah [(147,⟨[],xU⟩)]) (aw R0 aI) Tryz.func99 fun ds p h ξ=>?_
 unfold xW at h;split at h<;>cases h
 rename_i l q p
 refine⟨aj,ar,((l.length<=(1099511627776:Nat)/\∀(x:D2),x∈l->q x)/\True)/\decide ((0:Int)<=fp p l (0:Int))=List.any l p/\True,by kernel_rfl,?_⟩
 simp only[aJ]at ξ⊢;exact⟨ξ,Jf p l 0 (by omega)⟩
def xY:List AD->Option Post
 | [.c (.rows .i64 a),.box [.rows .i64 b]]=>some ⟨aS a/\aS b,.c (.bool (decide (a=b))),[]⟩
 |_=>none
theorem R8:Fits Tryz.prog 100 ⟨[],xY⟩:=by
 refine ffv (Γ:=ah [(101,⟨[],yR⟩)]) (aw Tw aI) Tryz.func100 fun ds p h ξ=>?_
 unfold xY at h;split at h<;>cases h
 rename_i a b
 refine⟨aj,ar,((aS a/\aS b)/\True)/\decide (a=b)=decide (a=b)/\True,by kernel_rfl,?_⟩
 simp only[aJ]at ξ⊢;exact ξ
theorem R9{l:D2}{i k:Nat}(h:i<l.length)(hk:k=l.length-i):(l.take i++List.replicate k []).set i (l.getD i [])=l.take (i+1)++List.replicate (l.length-(i+1)) []:=by
 subst hk;exact(wU l [] [] i h)
def ya:List AD->Option Post
 | [.c (.rows .i64 t)]=>some ⟨t.length<=144/\(∀r∈t,r.length≠0/\r.length<=144),.c (.rows 62 2 .i64 t),[]⟩
 |_=>none
def Jk(t:D2):Nat->Option Ann
 |0=>Q' fun i=>⟨⟨[(3,J' 8),(9,G' t),(10,A' t.length),(11,A' i)],[(8,N' (t.take i++List.replicate (t.length-i) []))]⟩,i<=t.length,t.length-i⟩
 |_=>none
theorem Sc:Fits Tryz.prog 103 ⟨[],ya⟩:=by
 refine ffv (Γ:=ah [(82,⟨[],sC⟩)]) (aw Ki aI) Tryz.func103 fun ds p h ξ=>?_
 unfold ya at h;split at h<;>cases h
 rename_i t
 refine⟨aj,Jk t,((0:Int)<=(t.length:Int)/\(t.length:Int)<=(t.length:Int)/\am ((t.length:Int).toNat))/\(∃x0:Nat,x0<=t.length/\t=t/\(t.length:Int)=(t.length:Int)/\(0:Int)=(x0:Int)/\List.replicate ((t.length:Int).toNat) []=List.take x0 t++List.replicate (t.length-x0) ([]:D1))/\∀x1:Nat,x1<=t.length->ab (decide ((x1:Int)<(t.length:Int))) (ac (x1:Int) t.length/\(((t.getD (x1:Int).toNat []).length≠(0:Nat)/\am ((t.getD (x1:Int).toNat []).length))/\True)/\ac (x1:Int) ((List.take x1 t++List.replicate (t.length-x1) ([]:D1)).length)/\af ((x1:Int)+(1:Int))/\∃x2:Nat,x2<=t.length/\t.length-x2<t.length-x1/\t=t/\(t.length:Int)=(t.length:Int)/\(x1:Int)+(1:Int)=(x2:Int)/\List.set (List.take x1 t++List.replicate (t.length-x1) ([]:D1)) (x1:Int).toNat (t.getD (x1:Int).toNat [])=List.take x2 t++List.replicate (t.length-x2) ([]:D1)) (List.take x1 t++List.replicate (t.length-x1) ([]:D1)=t/\True),by kernel_rfl,?_⟩
 simp only[aJ]at ξ⊢;obtain⟨h1,h2⟩:=ξ;refine⟨by omega,⟨0,by omega,rfl,by simp⟩,fun i hi=>⟨fun h=>?_,fun h=>by rw[AU (by omega),show t.length-i=0 by omega,List.replicate_zero,Ac]⟩⟩
 have r:=h2 _ (bI t [] i (by omega))
 exact⟨by omega,⟨by omega,by omega⟩,by omega,by omega,i+1,by omega,by omega,by omega,R9 (by omega) rfl⟩
def jV(A:D2)(st:D3×D3)(c:D2):D3×D3 :=
 if st.1.any (fun s=>decide (s=c))=true then st else(st.1++A.map (eS c),st.2++[c])
def dp(A:D2)(cs:D3):D3×D3:=cs.foldl (jV A) ([],[])
def aZ(t:D2):D3:=dc (cB t (aa t) 9 [] [])
def bB(t:D2)(cs:D3):D5:=cs.map fun c=>(t,c)
theorem rJ{A:D2}{cs:D3}{i:Nat}(h:i<cs.length):dp A (cs.take (i+1))=jV A (dp A (cs.take i)) (cs.getD i []):=by
 rw[<-dZ cs [] i h,dp,List.foldl_append];rfl
theorem Jm(A:D2)(cs:D3):∀i,i<=cs.length->(dp A (cs.take i)).1.length<=i*A.length/\(dp A (cs.take i)).2.length<=i
 |0,_=>by simp[dp]
 |i+1,h=>by
  obtain⟨h1,h2⟩:=Jm A cs i (by omega)
  rw[rJ (by omega),jV]
  split
  ·exact⟨Ar h1 (Br _ (by omega)),by omega⟩
  ·simp only[Ag,AR,Bs,BW,Nat.one_mul]
   omega
theorem yc{P:D2->Prop}{A:D2}{cs:D3}(hP:∀c∈cs,∀f∈A,P (eS c f)):∀i,i<=cs.length->∀s∈(dp A (cs.take i)).1,P s
 |0,_=>by simp[dp]
 |i+1,h=>by
  rw[rJ (by omega),jV]
  split
  ·exact yc hP i (by omega)
  ·intro s hs
   rcases AI.1 hs with hs|hs
   ·exact yc hP i (by omega) s hs
   ·obtain⟨f,hf,rfl⟩:=AH.1 hs
    exact hP _ (bI cs [] i (by omega)) f hf
theorem rK{n:Nat}{t:D2}(G:GrpT n t)(hn:n<=7):aZ t=bw t (aa t):=pn G hn
theorem Sd{n:Nat}{t:D2}(G:GrpT n t)(hn:n<=7):(aZ t).length<=2401:=by rw[rK G hn];exact xf G hn
theorem Jn{n:Nat}{t:D2}(G:GrpT n t)(hn:n<=7){c:D2}(hc:c∈aZ t):aA n c:=by
 rw[rK G hn]at hc;obtain⟨L,hL,rfl⟩:=(pq G hn).1 hc;exact ry G hn hL
theorem Jo{n:Nat}{c:D2}(h:aA n c)(hn:n<=12):aS c:=⟨by rw[h.1];omega,fun r hr=>by
 obtain⟨i,hi,rfl⟩:=Aw hr;have:=(h.2 i (by rw[<-h.1];exact hi)).1
 rw[bv c [] i hi]at this;omega⟩
def ye:List AD->Option Post
 | [.c (.rows .i64 t)]=>some ⟨aC t=true/\t.length<=7,.c (.tr [39,62,2] (.p3 .i64 (bB t (dp (aa t) (aZ t)).2))),[]⟩
 |_=>none
def Jp(t:D2):Nat->Option Ann
 |0=>T' (fun i=>⟨⟨[(0,G' t),(3,G' (aa t)),(4,J' 601),(5,J' 602),(13,J' 600),(14,A' ((((aZ t).length:Int)))),(15,A' i)],[(600,some (.trk 0 [22,62,2] (.r3 .i64 (aZ t)) i)),(601,some (.tr 0 [22,62,2] (.r3 .i64 ((dp (aa t) ((aZ t).take i)).1)))),(602,some (.tr 0 [39,62,2] (.p3 .i64 (bB t (dp (aa t) ((aZ t).take i)).2))))]⟩,i<=(aZ t).length,(aZ t).length-i⟩) (fun i b_=>match b_ with|2=>Q' fun j=>⟨⟨[(0,G' t),(3,G' (aa t)),(4,J' 601),(5,J' 602),(7,M' 604),(13,J' 600),(14,A' ((((aZ t).length:Int)))),(15,A' i),(22,G' (aa t)),(23,A' ((((aa t).length:Int)))),(24,A' j)],[(600,some (.trk 0 [22,62,2] (.r3 .i64 (aZ t)) (i+1))),(601,some (.tr 0 [22,62,2] (.r3 .i64 (((dp (aa t) ((aZ t).take i)).1++((aa t).take j).map (eS ((aZ t).getD i []))))))),(602,some (.tr 0 [39,62,2] (.p3 .i64 (bB t (dp (aa t) ((aZ t).take i)).2)))),(604,P' [.own 605]),(605,N' (((aZ t).getD i [])))]⟩,(i<(aZ t).length/\j<=(aa t).length/\(dp (aa t) ((aZ t).take i)).1.any (fun s=>decide (s=(aZ t).getD i []))=false),(aa t).length-j⟩|_=>none)
 |_=>none
def Jq(t:Nat):Bool:=[3000018,2000032,5000040].contains t
def dw(t:D2)(x0:Nat):=(dp (aa t) (List.take x0 (aZ t)))
def gK(t:D2)(x0:Nat):=((aZ t).getD x0 ([]:D2))
theorem Sg:Fits Tryz.prog 54 ⟨[],ye⟩:=by
 refine ffv (Γ:=ah [(87,⟨[],nI⟩),(85,⟨[],sI⟩),(99,⟨[],xW⟩),(100,⟨[],xY⟩),(102,⟨[],xS⟩),(103,⟨[],ya⟩)]) (aw sG (aw Kt (aw R5 (aw R8 (aw RX (aw Sc aI)))))) Tryz.func54 fun ds p h ξ=>?_
 unfold ye at h;split at h<;>cases h
 rename_i t
 refine⟨Jq,Jp t,(((1:Nat)<=t.length/\iY (t::([]:D3)) (t::([]:D3))/\(bF (t::([]:D3)) (t::([]:D3))).length<=(1000000000:Nat))/\True)/\((aC t=true/\t.length<=(7:Nat))/\True)/\(∃x0:Nat,x0<=(aZ t).length/\t=t/\bF (t::([]:D3)) (t::([]:D3))=aa t/\(↑(FC.len (FC.r3 IntKind.i64 (dc (cB t (aa t) (9:Nat) ([]:D2) ([]:D3))))):Int)=(↑((aZ t).length):Int)/\(0:Int)=(x0:Int)/\dc (cB t (aa t) (9:Nat) ([]:D2) ([]:D3))=aZ t/\x0=(0:Nat)/\FC.len (FC.r3 IntKind.i64 (dw t x0).1)=(0:Nat)/\FC.len (FC.p3 IntKind.i64 (bB t (dw t x0).2))=(0:Nat))/\∀x1:Nat,x1<=(aZ t).length->ab (decide ((x1:Int)<(↑((aZ t).length):Int))) (ac (x1:Int) (FC.len (FC.r3 IntKind.i64 (aZ t)))/\((x1:Int).toNat=x1/\x1<(aZ t).length)/\((((dw t x1).1).length<=(1099511627776:Nat)/\∀(x:D2),x∈(dw t x1).1->aS x/\aS ((aZ t).getD (x1:Int).toNat ([]:D2)))/\True)/\ab (List.any ((dp (aa t) (List.take x1 (aZ t))).1) fun(x:D2)=>decide (x=(aZ t).getD (x1:Int).toNat ([]:D2))) (af ((x1:Int)+(1:Int))/\∃x2:Nat,x2<=(aZ t).length/\(aZ t).length-x2<(aZ t).length-x1/\t=t/\aa t=aa t/\(↑((aZ t).length):Int)=(↑((aZ t).length):Int)/\(x1:Int)+(1:Int)=(x2:Int)/\aZ t=aZ t/\x1+(1:Nat)=x2/\(dw t x1).1=(dw t x2).1/\bB t (dw t x1).2=bB t (dw t x2).2) ((∃x3:Nat,(x1<(aZ t).length/\x3<=(aa t).length/\(List.any (dw t x1).1 fun(s:D2)=>decide (s=(aZ t).getD x1 ([]:D2)))=false)/\t=t/\aa t=aa t/\(↑((aZ t).length):Int)=(↑((aZ t).length):Int)/\(x1:Int)=(x1:Int)/\aa t=aa t/\(↑((aa t).length):Int)=(↑((aa t).length):Int)/\(0:Int)=(x3:Int)/\aZ t=aZ t/\x1+(1:Nat)=x1+(1:Nat)/\(dw t x1).1=(dw t x1).1++List.map (eS (gK t x1)) (List.take x3 (aa t))/\bB t (dw t x1).2=bB t (dw t x1).2/\(aZ t).getD (x1:Int).toNat ([]:D2)=(aZ t).getD x1 ([]:D2))/\∀x4:Nat,x1<(aZ t).length/\x4<=(aa t).length/\(List.any (dw t x1).1 fun(s:D2)=>decide (s=(aZ t).getD x1 ([]:D2)))=false->ab (decide ((x4:Int)<(↑((aa t).length):Int))) (ac (x4:Int) (aa t).length/\(((1:Nat)<=(gK t x1).length/\(gK t x1).length<=(12:Nat)/\aA (gK t x1).length (gK t x1)/\((aa t).getD (x4:Int).toNat []).length=(gK t x1).length/\gv (((aa t).getD (x4:Int).toNat []).length) ((aa t).getD (x4:Int).toNat []))/\True)/\am (FC.len (FC.r3 IntKind.i64 ((dw t x1).1++List.map (eS (gK t x1)) (List.take x4 (aa t))))+FC.len (FC.r3 IntKind.i64 (eS (gK t x1) ((aa t).getD (x4:Int).toNat [])::([]:D3))))/\af ((x4:Int)+(1:Int))/\∃x5:Nat,(x1<(aZ t).length/\x5<=(aa t).length/\(List.any (dw t x1).1 fun(s:D2)=>decide (s=(aZ t).getD x1 ([]:D2)))=false)/\(aa t).length-x5<(aa t).length-x4/\t=t/\aa t=aa t/\(↑((aZ t).length):Int)=(↑((aZ t).length):Int)/\(x1:Int)=(x1:Int)/\aa t=aa t/\(↑((aa t).length):Int)=(↑((aa t).length):Int)/\(x4:Int)+(1:Int)=(x5:Int)/\aZ t=aZ t/\x1+(1:Nat)=x1+(1:Nat)/\(dw t x1).1++List.map (eS (gK t x1)) (List.take x4 (aa t))++eS (gK t x1) ((aa t).getD (x4:Int).toNat [])::([]:D3)=(dw t x1).1++List.map (eS (gK t x1)) (List.take x5 (aa t))/\bB t (dw t x1).2=bB t (dw t x1).2/\(aZ t).getD x1 ([]:D2)=(aZ t).getD x1 ([]:D2)) (((t.length<=(144:Nat)/\∀(r:D1),r∈t->r.length≠(0:Nat)/\r.length<=(144:Nat))/\True)/\am (FC.len (FC.p3 IntKind.i64 (bB t (dw t x1).2))+FC.len (FC.p3 IntKind.i64 [(t,(aZ t).getD x1 ([]:D2))]))/\af ((x1:Int)+(1:Int))/\∃x6:Nat,x6<=(aZ t).length/\(aZ t).length-x6<(aZ t).length-x1/\t=t/\aa t=aa t/\(↑((aZ t).length):Int)=(↑((aZ t).length):Int)/\(x1:Int)+(1:Int)=(x6:Int)/\aZ t=aZ t/\x1+(1:Nat)=x6/\(dw t x1).1++List.map (eS (gK t x1)) (List.take x4 (aa t))=(dw t x6).1/\bB t (dw t x1).2++[(t,(aZ t).getD x1 ([]:D2))]=bB t (dw t x6).2))) (bB t (dw t x1).2=bB t ((dp (aa t) (aZ t)).2)/\True),by kernel_rfl,?_⟩
 simp only[dw,gK,aJ]at ξ⊢;obtain⟨h,hn⟩:=ξ;have G:=gN h
 have hcl:=Sd G hn
 have hA:=iq G hn
 have hct:=fun c hc=>Jn G hn (c:=c) hc
 have hS:=iO G hn
 have hAp:∀j,j<(aa t).length->IsP t.length ((aa t).getD j []):=fun j hj=>(gS G hn (bI _ [] j hj)).p
 have rm:∀i,i<=(aZ t).length->∀s∈(dp (aa t) ((aZ t).take i)).1,aS s:=fun i hi=>yc (P:=aS) (fun c hc f hf=>Jo (IU (hct c hc) (gS G hn hf).p).tb (by omega)) i hi
 have len:=Jm (aa t) (aZ t)
 simp only[Am,FC.len]at *;refine⟨⟨G.pos,jX G hn,by rw[hS];omega⟩,⟨h,hn⟩,⟨0,by omega,hS,rfl,rfl,rfl,rfl,rfl,rfl⟩,fun i hi=>⟨fun ψ=>?_,fun hge=>?_⟩⟩
 ·have ψ:i<(aZ t).length:=by omega
  have hc:=hct _ (bI (aZ t) [] i ψ)
  obtain⟨l1,l2⟩:=len i hi;have l3:i*(aa t).length<=2401*49:=Be (by omega) hA
  have rc:=Jo hc (by omega)
  have st:=rJ (A:=aa t) ψ
  have hc1:=hc.1
  refine⟨by omega,ψ,⟨by omega,fun x hx=>⟨rm i hi x hx,rc⟩⟩,fun hany=>⟨by omega,i+1,by omega,by omega,by omega,rfl,?_,?_⟩,fun hany=>⟨⟨0,⟨ψ,by omega,hany⟩,rfl,by simp⟩,fun j ⟨_,hj,_⟩=>⟨fun hjl=>?_,fun hjl=>?_⟩⟩⟩
  ·rw[st,jV,AA hany]
  ·rw[st,jV,AA hany]
  ·have hjl:j<(aa t).length:=by omega
   have P:=hAp j hjl
   have lp:=P.len
   have eq:(dp (aa t) ((aZ t).take i)).1++((aa t).take j).map (eS ((aZ t).getD i []))++[eS ((aZ t).getD i []) ((aa t).getD j [])]=(dp (aa t) ((aZ t).take i)).1++((aa t).take (j+1)).map (eS ((aZ t).getD i [])):=by
    rw[<-dZ (aa t) [] j hjl,Bf,Ao];rfl
   refine⟨by omega,⟨by have:=G.pos;omega,by omega,by rw[hc1];exact hc,by omega,fun k hk=>by rw[lp];exact P.rng k (by omega)⟩,?_,by omega,j+1,⟨ψ,by omega,hany⟩,by omega,by omega,eq⟩
   simp only[Ag,AR,AT,Bs];omega
  ·have ej:j=(aa t).length:=by omega
   have ht:=G.tb
   refine⟨⟨by omega,fun r hr=>?_⟩,?_,by omega,i+1,by omega,by omega,by omega,rfl,?_,?_⟩
   ·obtain⟨k,hk,rfl⟩:=Aw hr
    have:=(ht.2 k hk).1
    rw[bv t [] k hk]at this;have:=G.pos
    omega
   ·simp only[bB,AR,Bs];omega
   ·rw[st,jV,AB (by rw[hany];simp),ej,Bh]
   ·rw[st,jV,AB (by rw[hany];simp)]
    simp[bB]
 ·rw[show i=(aZ t).length by omega,Bh]
end Go.Sx
