/- Brs -/
import Derived.Test.YtkmldclpaniclaaGreatCrcP
import Derived.Test.YtkmldclpaniclaaGreatActP
import Derived.Test.YtkmldclpaniclaaGreatMpgE
open Go Go.Proofs
namespace Go.Sx
set_option linter.unusedSimpArgs false
set_option linter.unusedVariables false
theorem CM{p:List Int}{n:Nat}(hn:p.length<=n)(h0:1<=n):∀i k,i<=p.length->k<p.length->0<=(eK p i).getD k 0/\(eK p i).getD k 0<(n:Int)
 |0,k,_,hk=>by simp[eK,List.getD_eq_getElem?_getD,hk];omega
 |i+1,k,hi,hk=>by
  rw[eK,gW _ _ _ _ (by rw[mf];exact hk)]
  split
  ·omega
  ·exact CM hn h0 i k (by omega) hk
def pC(p:List Int):Post:=⟨ag p.length/\iG p.length p,.c (.ints 2 .i64 (co p)),[]⟩
def va:List AD->Option Post
 | [.c (.ints .i64 p)]=>some (pC p)
 |_=>none
def CO(p:List Int):Nat->Option Ann
 |0=>some (Ann.mk ((Nat)) (fun i=>⟨[(0,.c (.ro (.ints .i64 p))),(3,.c (.own 8)),(9,.c (.ro (.ints .i64 p))),(10,.c (.int .i64 ((p.length:Int)))),(11,.c (.int .i64 ((i:Int))))],[(8,some (.ints 2 .i64 (eK p i)))]⟩) (fun i=>i<=p.length) (fun i=>p.length-i) (fun _=>ar))
 |_=>none
def CP:List (Nat×Ctr):=[]
def vd(p:List Int):Prop :=
 ((0:Int)<=(p.length:Int)/\(p.length:Int)<=(p.length:Int)/\ag ((p.length:Int).toNat))/\(∃x0:Nat,x0<=p.length/\p=p/\p=p/\(p.length:Int)=(p.length:Int)/\(0:Int)=(x0:Int)/\List.replicate ((p.length:Int).toNat) (0:Int)=eK p x0)/\∀x1:Nat,x1<=p.length->af (decide ((x1:Int)<(p.length:Int))) (ab (x1:Int) p.length/\ab (p.getD (x1:Int).toNat (0:Int)) (eK p x1).length/\ae ((x1:Int)+(1:Int))/\∃x2:Nat,x2<=p.length/\p.length-x2<p.length-x1/\p=p/\p=p/\(p.length:Int)=(p.length:Int)/\(x1:Int)+(1:Int)=(x2:Int)/\List.set (eK p x1) ((p.getD (x1:Int).toNat (0:Int)).toNat) (x1:Int)=eK p x2) (eK p x1=co p/\True)
theorem Km(p:List Int):aP Tryz.prog (ai CP) aj (CO p) Tryz.f148 (aF Tryz.f148) [] [.c (.ints .i64 p)] (pC p)=vd p:=by kernel_rfl
theorem Ko(p:List Int)(Yh:(pC p).pre):vd p:=by
 simp only[pC,vd,aK,u1,u2,u3,u4,u5,u6,u7,u8,u9,v1,v2,v3,v4,v5,v6,v7,v8,v9,w1,w2,w3,w4,aC,ab,ae,ag,av]at Yh⊢;obtain⟨h1,h2⟩:=Yh;refine⟨by omega,⟨0,by omega,rfl,rfl⟩,fun i hi=>⟨fun h=>?_,fun h=>?_⟩⟩
 ·have hr:=h2 i (by omega)
  rw[mf];exact⟨by omega,by omega,by omega,i+1,by omega,by omega,by omega,rfl⟩
 ·rw[show i=p.length by omega];rfl
theorem Kp:Fits Tryz.prog 148 ⟨[],va⟩:=by
 refine aW (Γ:=ai CP) aJ Tryz.func148 fun ds p h hp=>?_
 unfold va at h;split at h
 ·cases h
  exact⟨aj,CO _ ,by rw[Km];exact Ko _  hp⟩
 ·cases h
def pD(x:Int)(y:Int)(p:List Int)(t:List (List Int))(q:List Int):Post:=⟨0<=x/\x<(q.length:Int)/\0<=y/\y<(q.length:Int)/\0<=q.getD x.toNat 0/\q.getD x.toNat 0<(t.length:Int)/\0<=q.getD y.toNat 0/\q.getD y.toNat 0<((t.getD (q.getD x.toNat 0).toNat []).length:Int)/\0<=(t.getD (q.getD x.toNat 0).toNat []).getD (q.getD y.toNat 0).toNat 0/\(t.getD (q.getD x.toNat 0).toNat []).getD (q.getD y.toNat 0).toNat 0<(p.length:Int),.c (.int .i64 (p.getD ((t.getD (q.getD x.toNat 0).toNat []).getD (q.getD y.toNat 0).toNat 0).toNat 0)),[]⟩
def nJ:List AD->Option Post
 | [.c (.int .i64 x),.c (.int .i64 y),.box [.ints .i64 p],.box [.rows .i64 t],.box [.ints .i64 q]]=>some (pD x y p t q)
 |_=>none
def CQ:List (Nat×Ctr):=[]
def ve(x:Int)(y:Int)(p:List Int)(t:List (List Int))(q:List Int):Prop :=
 ab x q.length/\ab (q.getD x.toNat (0:Int)) t.length/\ab y q.length/\ab (q.getD y.toNat (0:Int)) ((t.getD ((q.getD x.toNat (0:Int)).toNat) []).length)/\ab ((List.getD t ((List.getD q x.toNat (0:Int)).toNat) []).getD ((q.getD y.toNat (0:Int)).toNat) (0:Int)) p.length/\p.getD (((List.getD t ((List.getD q x.toNat (0:Int)).toNat) []).getD ((q.getD y.toNat (0:Int)).toNat) (0:Int)).toNat) (0:Int)=p.getD (((List.getD t ((List.getD q x.toNat (0:Int)).toNat) []).getD ((q.getD y.toNat (0:Int)).toNat) (0:Int)).toNat) (0:Int)/\True
theorem Kq(x:Int)(y:Int)(p:List Int)(t:List (List Int))(q:List Int):aP Tryz.prog (ai CQ) aj ar Tryz.f149 (aF Tryz.f149) [] [.c (.int .i64 x),.c (.int .i64 y),.box [.ints .i64 p],.box [.rows .i64 t],.box [.ints .i64 q]] (pD x y p t q)=ve x y p t q:=by kernel_rfl
theorem Kr(x:Int)(y:Int)(p:List Int)(t:List (List Int))(q:List Int)(Yh:(pD x y p t q).pre):ve x y p t q:=by
 simp only[pD,ve,aK,u1,u2,u3,u4,u5,u6,u7,u8,u9,v1,v2,v3,v4,v5,v6,v7,v8,v9,w1,w2,w3,w4,aC,ab,ae,ag,av]at Yh⊢;omega
theorem Ks:Fits Tryz.prog 149 ⟨[],nJ⟩:=by
 refine aW (Γ:=ai CQ) aJ Tryz.func149 fun ds p h hp=>?_
 unfold nJ at h;split at h
 ·cases h
  exact⟨aj,ar,by rw[Kq];exact Kr _ _ _ _ _  hp⟩
 ·cases h
def pE(t:List (List Int))(p:List Int):Post:=⟨1<=t.length/\t.length<=12/\aT t.length t/\p.length=t.length/\iG p.length p,.c (.rows 62 2 .i64 (ec t p)),[]⟩
def vf:List AD->Option Post
 | [.c (.rows .i64 t),.c (.ints .i64 p)]=>some (pE t p)
 |_=>none
def CR:List (Nat×Ctr):=[(148,⟨[],va⟩),(124,⟨[],sC⟩),(149,⟨[],nJ⟩)]
def vg(t:List (List Int))(p:List Int):Prop :=
 ((ag p.length/\iG p.length p)/\True)/\(((0:Int)<=(t.length:Int)/\(t.length:Int)<=(144:Int)/\∀(x y:Int),(0:Int)<=x->x<(t.length:Int)->(0:Int)<=y->y<(t.length:Int)->jZ (nJ [AD.c (FC.int IntKind.i64 x),AD.c (FC.int IntKind.i64 y),AD.box [FC.ints IntKind.i64 p],AD.box [FC.rows IntKind.i64 t],AD.box [FC.ints IntKind.i64 (co p)]]))/\True)/\(bZ ((t.length:Int).toNat) fun(x y:Nat)=>jY (nJ [AD.c (FC.int IntKind.i64 (x:Int)),AD.c (FC.int IntKind.i64 (y:Int)),AD.box [FC.ints IntKind.i64 p],AD.box [FC.rows IntKind.i64 t],AD.box [FC.ints IntKind.i64 (co p)]]))=ec t p/\True
theorem Kt(t:List (List Int))(p:List Int):aP Tryz.prog (ai CR) aj ar Tryz.f102 (aF Tryz.f102) [] [.c (.rows .i64 t),.c (.ints .i64 p)] (pE t p)=vg t p:=by kernel_rfl
theorem Ku(t:List (List Int))(p:List Int)(Yh:(pE t p).pre):vg t p:=by
 simp only[pE,vg,aK,u1,u2,u3,u4,u5,u6,u7,u8,u9,v1,v2,v3,v4,v5,v6,v7,v8,v9,w1,w2,w3,w4,aC,ab,ae,ag,av]at Yh⊢;obtain⟨n1,n2,ht,h3,h2⟩:=Yh;have bl:(co p).length=t.length:=(mf p _).trans h3
 have bi:∀k,k<t.length->0<=(co p).getD k 0/\(co p).getD k 0<(t.length:Int):=fun k hk=>CM (by omega) n1 _ k (Nat.le_refl _) (by omega)
 refine⟨⟨by omega,h2⟩,⟨by omega,by omega,fun x y a b c d=>?_⟩,PZ fun x y hx hy=>rfl⟩
 have bx:=bi x.toNat (by omega)
 have b2:=bi y.toNat (by omega)
 have r:=ht.2 ((co p).getD x.toNat 0).toNat (by omega)
 have r2:=r.2 ((co p).getD y.toNat 0).toNat (by omega)
 simp only[en]at r2;exact⟨by omega,by omega,by omega,by omega,by omega,by omega,by omega,by omega,by omega,by omega⟩
theorem Kv:Fits Tryz.prog 102 ⟨[],vf⟩:=by
 refine aW (Γ:=ai CR) (az Kp (az Ho (az Ks aJ))) Tryz.func102 fun ds p h hp=>?_
 unfold vf at h;split at h
 ·cases h
  exact⟨aj,ar,by rw[Kt];exact Ku _ _  hp⟩
 ·cases h
def eI(p:List (List Int)->Bool):List (List (List Int))->Int->Int
 | [],_=>-1
 |x::l,i=>if p x=true then i else eI p l (i+1)
theorem CT(p:List (List Int)->Bool):∀(l:List (List (List Int))) (i:Int),0<=i->decide (0<=eI p l i)=l.any p
 | [],i,_=>by simp[eI]
 |x::l,i,h=>by
  rw[eI,List.any_cons];split
  ·rename_i hx;rw[hx,decide_eq_true h];rfl
  ·rename_i hx;rw[CT p l (i+1) (by omega)];simp[hx]
def pF(l:List (List (List Int)))(q:List (List Int)->Prop)(p:List (List Int)->Bool):Post:=⟨l.length<=1099511627776/\∀x∈l,q x,.c (.int .i64 (eI p l 0)),[]⟩
def vh:List AD->Option Post
 | [.c (.r3 .i64 l),.fv (.tb q p)]=>some (pF l q p)
 |_=>none
def CU(l:List (List (List Int)))(q:List (List Int)->Prop)(p:List (List Int)->Bool):Nat->Option Ann
 |0=>some (Ann.mk ((Nat)) (fun i=>⟨[(0,.c (.ro (.r3 .i64 l))),(1,.fv (.tb q p)),(7,.c (.int .i64 ((l.length:Int)))),(8,.c (.int .i64 ((i:Int))))],[]⟩) (fun i=>i<=l.length/\eI p l 0=eI p (l.drop i) (i:Int)) (fun i=>l.length-i) (fun _=>ar))
 |_=>none
def CV:List (Nat×Ctr):=[]
def vj(l:List (List (List Int)))(q:List (List Int)->Prop)(p:List (List Int)->Bool):Prop :=
 (∃x0:Nat,(x0<=l.length/\eI p l (0:Int)=eI p (List.drop x0 l) (x0:Int))/\l=l/\FV.tb q p=FV.tb q p/\(l.length:Int)=(l.length:Int)/\(0:Int)=(x0:Int))/\∀x1:Nat,x1<=l.length/\eI p l (0:Int)=eI p (List.drop x1 l) (x1:Int)->af (decide ((x1:Int)<(l.length:Int))) (ab (x1:Int) l.length/\q (l.getD (x1:Int).toNat ([]:List (List Int)))/\af (p (l.getD (x1:Int).toNat ([]:List (List Int)))) ((x1:Int)=eI p l (0:Int)/\True) (ae ((x1:Int)+(1:Int))/\∃x2:Nat,(x2<=l.length/\eI p l (0:Int)=eI p (List.drop x2 l) (x2:Int))/\l.length-x2<l.length-x1/\l=l/\FV.tb q p=FV.tb q p/\(l.length:Int)=(l.length:Int)/\(x1:Int)+(1:Int)=(x2:Int))) ((-1:Int)=eI p l (0:Int)/\True)
theorem Kw(l:List (List (List Int)))(q:List (List Int)->Prop)(p:List (List Int)->Bool):aP Tryz.prog (ai CV) aj (CU l q p) Tryz.f147 (aF Tryz.f147) [] [.c (.r3 .i64 l),.fv (.tb q p)] (pF l q p)=vj l q p:=by kernel_rfl
theorem Kx(l:List (List (List Int)))(q:List (List Int)->Prop)(p:List (List Int)->Bool)(Yh:(pF l q p).pre):vj l q p:=by
 simp only[pF,vj,aK,u1,u2,u3,u4,u5,u6,u7,u8,u9,v1,v2,v3,v4,v5,v6,v7,v8,v9,w1,w2,w3,w4,aC,ab,ae,ag,av]at Yh⊢;obtain⟨hl,hq⟩:=Yh;refine⟨⟨0,⟨by omega,rfl⟩,rfl⟩,fun i ⟨hi,he⟩=>⟨fun h=>?_,fun h=>?_⟩⟩
 ·rw[drop_cons' l [] i (by omega)]at he
  simp only[eI]at he;refine⟨by omega,hq _ (bE l [] i (by omega)),fun h1=>?_,fun h1=>⟨by omega,i+1,⟨by omega,?_⟩,by omega,by omega⟩⟩
  ·rw[he,if_pos h1]
  ·rw[he,if_neg (by rw[h1];exact Bool.false_ne_true)];simp
 ·rw[he,List.drop_of_length_le (by omega)];rfl
theorem Ky:Fits Tryz.prog 147 ⟨[],vh⟩:=by
 refine aW (Γ:=ai CV) aJ Tryz.func147 fun ds p h hp=>?_
 unfold vh at h;split at h
 ·cases h
  exact⟨aj,CU _ _ _ ,by rw[Kw];exact Kx _ _ _  hp⟩
 ·cases h
def pG(l:List (List (List Int)))(q:List (List Int)->Prop)(p:List (List Int)->Bool):Post:=⟨l.length<=1099511627776/\∀x∈l,q x,.c (.bool (l.any p)),[]⟩
def vn:List AD->Option Post
 | [.c (.r3 .i64 l),.fv (.tb q p)]=>some (pG l q p)
 |_=>none
def CW:List (Nat×Ctr):=[(147,⟨[],vh⟩)]
def vo(l:List (List (List Int)))(q:List (List Int)->Prop)(p:List (List Int)->Bool):Prop :=
 ((l.length<=(1099511627776:Nat)/\∀(x:List (List Int)),x∈l->q x)/\True)/\decide ((0:Int)<=eI p l (0:Int))=List.any l p/\True
theorem Kz(l:List (List (List Int)))(q:List (List Int)->Prop)(p:List (List Int)->Bool):aP Tryz.prog (ai CW) aj ar Tryz.f99 (aF Tryz.f99) [] [.c (.r3 .i64 l),.fv (.tb q p)] (pG l q p)=vo l q p:=by kernel_rfl
theorem KA(l:List (List (List Int)))(q:List (List Int)->Prop)(p:List (List Int)->Bool)(Yh:(pG l q p).pre):vo l q p:=by
 simp only[pG,vo,aK,u1,u2,u3,u4,u5,u6,u7,u8,u9,v1,v2,v3,v4,v5,v6,v7,v8,v9,w1,w2,w3,w4,aC,ab,ae,ag,av]at Yh⊢;exact⟨Yh,CT p l 0 (by omega)⟩
theorem KB:Fits Tryz.prog 99 ⟨[],vn⟩:=by
 refine aW (Γ:=ai CW) (az Ky aJ) Tryz.func99 fun ds p h hp=>?_
 unfold vn at h;split at h
 ·cases h
  exact⟨aj,ar,by rw[Kz];exact KA _ _ _  hp⟩
 ·cases h
def pH(a:List (List Int))(b:List (List Int)):Post:=⟨aY a/\aY b,.c (.bool (decide (a=b))),[]⟩
def vp:List AD->Option Post
 | [.c (.rows .i64 a),.box [.rows .i64 b]]=>some (pH a b)
 |_=>none
def CX:List (Nat×Ctr):=[(101,⟨[],wo⟩)]
def vq(a:List (List Int))(b:List (List Int)):Prop :=
 ((aY a/\aY b)/\True)/\decide (a=b)=decide (a=b)/\True
theorem KC(a:List (List Int))(b:List (List Int)):aP Tryz.prog (ai CX) aj ar Tryz.f100 (aF Tryz.f100) [] [.c (.rows .i64 a),.box [.rows .i64 b]] (pH a b)=vq a b:=by kernel_rfl
theorem KD(a:List (List Int))(b:List (List Int))(Yh:(pH a b).pre):vq a b:=by
 simp only[pH,vq,aK,u1,u2,u3,u4,u5,u6,u7,u8,u9,v1,v2,v3,v4,v5,v6,v7,v8,v9,w1,w2,w3,w4,aC,ab,ae,ag,av]at Yh⊢;exact Yh
theorem KF:Fits Tryz.prog 100 ⟨[],vp⟩:=by
 refine aW (Γ:=ai CX) (az LW aJ) Tryz.func100 fun ds p h hp=>?_
 unfold vp at h;split at h
 ·cases h
  exact⟨aj,ar,by rw[KC];exact KD _ _  hp⟩
 ·cases h
theorem KG{l:List (List Int)}{i k:Nat}(h:i<l.length)(hk:k=l.length-i):(l.take i++List.replicate k []).set i (l.getD i [])=l.take (i+1)++List.replicate (l.length-(i+1)) []:=by
 subst hk;exact(po l [] [] i h)
def pI(t:List (List Int)):Post:=⟨t.length<=144/\(∀r∈t,r.length≠0/\r.length<=144),.c (.rows 62 2 .i64 t),[]⟩
def vr:List AD->Option Post
 | [.c (.rows .i64 t)]=>some (pI t)
 |_=>none
def CY(t:List (List Int)):Nat->Option Ann
 |0=>some (Ann.mk ((Nat)) (fun i=>⟨[(3,.c (.own 8)),(9,.c (.ro (.rows .i64 t))),(10,.c (.int .i64 ((t.length:Int)))),(11,.c (.int .i64 ((i:Int))))],[(8,some (.rows 0 62 2 .i64 (t.take i++List.replicate (t.length-i) [])))]⟩) (fun i=>i<=t.length) (fun i=>t.length-i) (fun _=>ar))
 |_=>none
def CZ:List (Nat×Ctr):=[(82,⟨[],sf⟩)]
def vt(t:List (List Int)):Prop :=
 ((0:Int)<=(t.length:Int)/\(t.length:Int)<=(t.length:Int)/\ag ((t.length:Int).toNat))/\(∃x0:Nat,x0<=t.length/\t=t/\(t.length:Int)=(t.length:Int)/\(0:Int)=(x0:Int)/\List.replicate ((t.length:Int).toNat) []=List.take x0 t++List.replicate (t.length-x0) ([]:List Int))/\∀x1:Nat,x1<=t.length->af (decide ((x1:Int)<(t.length:Int))) (ab (x1:Int) t.length/\(((t.getD (x1:Int).toNat []).length≠(0:Nat)/\ag ((t.getD (x1:Int).toNat []).length))/\True)/\ab (x1:Int) ((List.take x1 t++List.replicate (t.length-x1) ([]:List Int)).length)/\ae ((x1:Int)+(1:Int))/\∃x2:Nat,x2<=t.length/\t.length-x2<t.length-x1/\t=t/\(t.length:Int)=(t.length:Int)/\(x1:Int)+(1:Int)=(x2:Int)/\List.set (List.take x1 t++List.replicate (t.length-x1) ([]:List Int)) (x1:Int).toNat (t.getD (x1:Int).toNat [])=List.take x2 t++List.replicate (t.length-x2) ([]:List Int)) (List.take x1 t++List.replicate (t.length-x1) ([]:List Int)=t/\True)
theorem KH(t:List (List Int)):aP Tryz.prog (ai CZ) aj (CY t) Tryz.f103 (aF Tryz.f103) [] [.c (.rows .i64 t)] (pI t)=vt t:=by kernel_rfl
theorem KI(t:List (List Int))(Yh:(pI t).pre):vt t:=by
 simp only[pI,vt,aK,u1,u2,u3,u4,u5,u6,u7,u8,u9,v1,v2,v3,v4,v5,v6,v7,v8,v9,w1,w2,w3,w4,aC,ab,ae,ag,av]at Yh⊢;obtain⟨h1,h2⟩:=Yh;refine⟨by omega,⟨0,by omega,rfl,by simp⟩,fun i hi=>⟨fun h=>?_,fun h=>by rw[List.take_of_length_le (by omega),show t.length-i=0 by omega,List.replicate_zero,List.append_nil]⟩⟩
 have r:=h2 _ (bE t [] i (by omega))
 exact⟨by omega,⟨by omega,by omega⟩,by omega,by omega,i+1,by omega,by omega,by omega,KG (by omega) rfl⟩
theorem KJ:Fits Tryz.prog 103 ⟨[],vr⟩:=by
 refine aW (Γ:=ai CZ) (az GM aJ) Tryz.func103 fun ds p h hp=>?_
 unfold vr at h;split at h
 ·cases h
  exact⟨aj,CY _ ,by rw[KH];exact KI _  hp⟩
 ·cases h
def je(A:List (List Int))(st:List (List (List Int))×List (List (List Int)))(c:List (List Int)):List (List (List Int))×List (List (List Int)) :=
 if st.1.any (fun s=>decide (s=c))=true then st else(st.1++A.map (ec c),st.2++[c])
def cY(A:List (List Int))(cs:List (List (List Int))):List (List (List Int))×List (List (List Int)):=cs.foldl (je A) ([],[])
def aX(t:List (List Int)):List (List (List Int)):=cQ (b9 t (aa t) 9 [] [])
def bX(t:List (List Int))(cs:List (List (List Int))):List (List (List Int)×List (List Int)):=cs.map fun c=>(t,c)
theorem pJ{A:List (List Int)}{cs:List (List (List Int))}{i:Nat}(h:i<cs.length):cY A (cs.take (i+1))=je A (cY A (cs.take i)) (cs.getD i []):=by
 rw[<-da cs [] i h,cY,List.foldl_append];rfl
theorem C0(A:List (List Int))(cs:List (List (List Int))):∀i,i<=cs.length->(cY A (cs.take i)).1.length<=i*A.length/\(cY A (cs.take i)).2.length<=i
 |0,_=>by simp[cY]
 |i+1,h=>by
  obtain⟨h1,h2⟩:=C0 A cs i (by omega)
  rw[pJ (by omega),je]
  split
  ·exact⟨Nat.le_trans h1 (Nat.mul_le_mul_right _ (by omega)),by omega⟩
  ·simp only[List.length_append,List.length_map,List.length_singleton,Nat.add_mul,Nat.one_mul]
   omega
theorem vu{P:List (List Int)->Prop}{A:List (List Int)}{cs:List (List (List Int))}(hP:∀c∈cs,∀f∈A,P (ec c f)):∀i,i<=cs.length->∀s∈(cY A (cs.take i)).1,P s
 |0,_=>by simp[cY]
 |i+1,h=>by
  rw[pJ (by omega),je]
  split
  ·exact vu hP i (by omega)
  ·intro s hs
   rcases List.mem_append.1 hs with hs|hs
   ·exact vu hP i (by omega) s hs
   ·obtain⟨f,hf,rfl⟩:=List.mem_map.1 hs
    exact hP _ (bE cs [] i (by omega)) f hf
theorem pK{n:Nat}{t:List (List Int)}(G:GrpT n t)(hn:n<=7):aX t=aB t (aa t):=qA G hn
theorem KK{n:Nat}{t:List (List Int)}(G:GrpT n t)(hn:n<=7):(aX t).length<=2401:=by rw[pK G hn];exact pA G hn
theorem C3{n:Nat}{t:List (List Int)}(G:GrpT n t)(hn:n<=7){c:List (List Int)}(hc:c∈aX t):aT n c:=by
 rw[pK G hn]at hc;obtain⟨L,hL,rfl⟩:=(uZ G hn).1 hc;exact uY G hn hL
theorem C4{n:Nat}{c:List (List Int)}(h:aT n c)(hn:n<=12):aY c:=⟨by rw[h.1];omega,fun r hr=>by
 obtain⟨i,hi,rfl⟩:=List.getElem_of_mem hr;have:=(h.2 i (by rw[<-h.1];exact hi)).1
 rw[bD c [] i hi]at this;omega⟩
def pL(t:List (List Int)):Post:=⟨ba t=true/\t.length<=7,.c (.tr [39,62,2] (.p3 .i64 (bX t (cY (aa t) (aX t)).2))),[]⟩
def vw:List AD->Option Post
 | [.c (.rows .i64 t)]=>some (pL t)
 |_=>none
def C5(t:List (List Int)):Nat->Option Ann
 |0=>some (Ann.mk ((Nat)) (fun i=>⟨[(0,.c (.ro (.rows .i64 t))),(3,.c (.ro (.rows .i64 ((aa t))))),(4,.c (.own 601)),(5,.c (.own 602)),(13,.c (.own 600)),(14,.c (.int .i64 (((aX t).length:Int)))),(15,.c (.int .i64 ((i:Int))))],[(600,some (.trk 0 [22,62,2] (.r3 .i64 (aX t)) i)),(601,some (.tr 0 [22,62,2] (.r3 .i64 ((cY (aa t) ((aX t).take i)).1)))),(602,some (.tr 0 [39,62,2] (.p3 .i64 (bX t (cY (aa t) ((aX t).take i)).2))))]⟩) (fun i=>i<=(aX t).length) (fun i=>(aX t).length-i) (fun i=>fun b_=>match b_ with|2=>some (Ann.mk ((Nat)) (fun j=>⟨[(0,.c (.ro (.rows .i64 t))),(3,.c (.ro (.rows .i64 ((aa t))))),(4,.c (.own 601)),(5,.c (.own 602)),(7,.c (.ptr 604 0)),(13,.c (.own 600)),(14,.c (.int .i64 (((aX t).length:Int)))),(15,.c (.int .i64 ((i:Int)))),(22,.c (.ro (.rows .i64 ((aa t))))),(23,.c (.int .i64 (((aa t).length:Int)))),(24,.c (.int .i64 ((j:Int))))],[(600,some (.trk 0 [22,62,2] (.r3 .i64 (aX t)) (i+1))),(601,some (.tr 0 [22,62,2] (.r3 .i64 (((cY (aa t) ((aX t).take i)).1++((aa t).take j).map (ec ((aX t).getD i []))))))),(602,some (.tr 0 [39,62,2] (.p3 .i64 (bX t (cY (aa t) ((aX t).take i)).2)))),(604,some (.box [.own 605])),(605,some (.rows 0 62 2 .i64 ((aX t).getD i [])))]⟩) (fun j=>i<(aX t).length/\j<=(aa t).length/\(cY (aa t) ((aX t).take i)).1.any (fun s=>decide (s=(aX t).getD i []))=false) (fun j=>(aa t).length-j) (fun _=>ar))|_=>none))
 |_=>none
def C6(t:Nat):Bool:=[3000018,2000032,5000040].contains t
def C7:List (Nat×Ctr):=[(87,⟨[],sj⟩),(85,⟨[],wJ⟩),(99,⟨[],vn⟩),(100,⟨[],vp⟩),(102,⟨[],vf⟩),(103,⟨[],vr⟩)]
def db(t:List (List Int))(x0:Nat):=(cY (aa t) (List.take x0 (aX t)))
def f4(t:List (List Int))(x0:Nat):=((aX t).getD x0 ([]:List (List Int)))
def vz(t:List (List Int)):Prop :=
 ((((1:Nat)<=t.length/\kV (t::([]:List (List (List Int)))) (t::([]:List (List (List Int))))/\(cV (t::([]:List (List (List Int)))) (t::([]:List (List (List Int))))).length<=(1000000000:Nat))/\True)/\(((ba t=true/\t.length<=(7:Nat))/\True)/\((∃x0:Nat,x0<=(aX t).length/\t=t/\cV (t::([]:List (List (List Int)))) (t::([]:List (List (List Int))))=aa t/\(↑(FC.len (FC.r3 IntKind.i64 (cQ (b9 t (aa t) (9:Nat) ([]:List (List Int)) ([]:List (List (List Int))))))):Int)=(↑((aX t).length):Int)/\(0:Int)=(x0:Int)/\cQ (b9 t (aa t) (9:Nat) ([]:List (List Int)) ([]:List (List (List Int))))=aX t/\x0=(0:Nat)/\FC.len (FC.r3 IntKind.i64 (db t x0).1)=(0:Nat)/\FC.len (FC.p3 IntKind.i64 (bX t (db t x0).2))=(0:Nat))/\(∀x1:Nat,(x1<=(aX t).length->(af (decide ((x1:Int)<(↑((aX t).length):Int))) (ab (x1:Int) (FC.len (FC.r3 IntKind.i64 (aX t)))/\(((x1:Int).toNat=x1/\x1<(aX t).length)/\(((((db t x1).1).length<=(1099511627776:Nat)/\∀(x:List (List Int)),x∈(db t x1).1->aY x/\aY ((aX t).getD (x1:Int).toNat ([]:List (List Int))))/\True)/\(af (List.any ((cY (aa t) (List.take x1 (aX t))).1) fun(x:List (List Int))=>decide (x=(aX t).getD (x1:Int).toNat ([]:List (List Int)))) (ae ((x1:Int)+(1:Int))/\(∃x2:Nat,(x2<=(aX t).length/\((aX t).length-x2<(aX t).length-x1/\((t=t) /\
 ((aa t=aa t)/\(((↑((aX t).length):Int)=(↑((aX t).length):Int))/\(((x1:Int)+(1:Int)=(x2:Int))/\((aX t=aX t)/\((x1+(1:Nat)=x2)/\(((db t x1).1=(db t x2).1)/\(bX t (db t x1).2=bX t (db t x2).2)))))))))))) ((∃x3:Nat,(((x1<(aX t).length)/\((x3<=(aa t).length)/\((List.any (db t x1).1 fun(s:List (List Int))=>decide (s=(aX t).getD x1 ([]:List (List Int))))=false)))/\((t=t)/\((aa t=aa t)/\(((↑((aX t).length):Int)=(↑((aX t).length):Int))/\(((x1:Int)=(x1:Int))/\((aa t=aa t)/\(((↑((aa t).length):Int)=(↑((aa t).length):Int))/\(((0:Int)=(x3:Int))/\((aX t=aX t)/\((x1+(1:Nat)=x1+(1:Nat))/\(((db t x1).1=(db t x1).1++List.map (ec (f4 t x1)) (List.take x3 (aa t)))/\((bX t (db t x1).2=bX t (db t x1).2)/\((aX t).getD (x1:Int).toNat ([]:List (List Int))=(aX t).getD x1 ([]:List (List Int))))))))))))))))/\(∀x4:Nat,(((x1<(aX t).length)/\((x4<=(aa t).length)/\((List.any (db t x1).1 fun(s:List (List Int))=>decide (s=(aX t).getD x1 ([]:List (List Int))))=false)))->(af (decide ((x4:Int)<(↑((aa t).length):Int))) ((ab (x4:Int) (aa t).length)/\(((((1:Nat)<=(f4 t x1).length)/\(((f4 t x1).length<=(12:Nat))/\((aT (f4 t x1).length (f4 t x1))/\((((aa t).getD (x4:Int).toNat []).length=(f4 t x1).length) /\
 (iG (((aa t).getD (x4:Int).toNat []).length) ((aa t).getD (x4:Int).toNat []))))))/\True)/\((ag (FC.len (FC.r3 IntKind.i64 ((db t x1).1++List.map (ec (f4 t x1)) (List.take x4 (aa t))))+FC.len (FC.r3 IntKind.i64 (ec (f4 t x1) ((aa t).getD (x4:Int).toNat [])::([]:List (List (List Int)))))))/\((ae ((x4:Int)+(1:Int)))/\(∃x5:Nat,(((x1<(aX t).length)/\((x5<=(aa t).length)/\((List.any (db t x1).1 fun(s:List (List Int))=>decide (s=(aX t).getD x1 ([]:List (List Int))))=false)))/\(((aa t).length-x5<(aa t).length-x4)/\((t=t)/\((aa t=aa t)/\(((↑((aX t).length):Int)=(↑((aX t).length):Int))/\(((x1:Int)=(x1:Int))/\((aa t=aa t)/\(((↑((aa t).length):Int)=(↑((aa t).length):Int))/\(((x4:Int)+(1:Int)=(x5:Int))/\((aX t=aX t)/\((x1+(1:Nat)=x1+(1:Nat))/\(((db t x1).1++List.map (ec (f4 t x1)) (List.take x4 (aa t))++ec (f4 t x1) ((aa t).getD (x4:Int).toNat [])::([]:List (List (List Int)))=(db t x1).1++List.map (ec (f4 t x1)) (List.take x5 (aa t)))/\((bX t (db t x1).2=bX t (db t x1).2)/\((aX t).getD x1 ([]:List (List Int))=(aX t).getD x1 ([]:List (List Int))))))))))))))))))))) ((((t.length<=(144:Nat))/\(∀(r:List Int),r∈t->r.length≠(0:Nat)/\r.length<=(144:Nat)))/\True) /\
 ((ag (FC.len (FC.p3 IntKind.i64 (bX t (db t x1).2))+FC.len (FC.p3 IntKind.i64 [(t,(aX t).getD x1 ([]:List (List Int)))])))/\((ae ((x1:Int)+(1:Int)))/\(∃x6:Nat,((x6<=(aX t).length)/\(((aX t).length-x6<(aX t).length-x1)/\((t=t)/\((aa t=aa t)/\(((↑((aX t).length):Int)=(↑((aX t).length):Int))/\(((x1:Int)+(1:Int)=(x6:Int))/\((aX t=aX t)/\((x1+(1:Nat)=x6)/\(((db t x1).1++List.map (ec (f4 t x1)) (List.take x4 (aa t))=(db t x6).1)/\(bX t (db t x1).2++[(t,(aX t).getD x1 ([]:List (List Int)))]=bX t (db t x6).2)))))))))))))))))))))) ((bX t (db t x1).2=bX t ((cY (aa t) (aX t)).2))/\True)))))))
theorem KM(t:List (List Int)):aP Tryz.prog (ai C7) C6 (C5 t) Tryz.f54 (aF Tryz.f54) [] [.c (.rows .i64 t)] (pL t)=vz t:=by kernel_rfl
theorem KN(t:List (List Int))(Yh:(pL t).pre):vz t:=by
 simp only[pL,vz,db,f4,aK,u1,u2,u3,u4,u5,u6,u7,u8,u9,v1,v2,v3,v4,v5,v6,v7,v8,v9,w1,w2,w3,w4,aC,ab,ae,ag,av]at Yh⊢;obtain⟨h,hn⟩:=Yh;have G:=mn h
 have hcl:=KK G hn
 have hA:=kJ G hn
 have hct:=fun c hc=>C3 G hn (c:=c) hc
 have hS:=kI G hn
 have hAp:∀j,j<(aa t).length->IsP t.length ((aa t).getD j []):=fun j hj=>(qz G hn (bE _ [] j hj)).p
 have rm:∀i,i<=(aX t).length->∀s∈(cY (aa t) ((aX t).take i)).1,aY s:=fun i hi=>vu (P:=aY) (fun c hc f hf=>C4 (CG (hct c hc) (qz G hn hf).p).tb (by omega)) i hi
 have len:=C0 (aa t) (aX t)
 simp only[Int.toNat_natCast,FC.len]at *;refine⟨⟨G.pos,kH G hn,by rw[hS];omega⟩,⟨h,hn⟩,⟨0,by omega,hS,rfl,rfl,rfl,rfl,rfl,rfl⟩,fun i hi=>⟨fun hlt=>?_,fun hge=>?_⟩⟩
 ·have hlt:i<(aX t).length:=by omega
  have hc:=hct _ (bE (aX t) [] i hlt)
  obtain⟨l1,l2⟩:=len i hi;have l3:i*(aa t).length<=2401*49:=Nat.mul_le_mul (by omega) hA
  have rc:=C4 hc (by omega)
  have st:=pJ (A:=aa t) hlt
  have hc1:=hc.1
  refine⟨by omega,hlt,⟨by omega,fun x hx=>⟨rm i hi x hx,rc⟩⟩,fun hany=>⟨by omega,i+1,by omega,by omega,by omega,rfl,?_,?_⟩,fun hany=>⟨⟨0,⟨hlt,by omega,hany⟩,rfl,by simp⟩,fun j ⟨_,hj,_⟩=>⟨fun hjl=>?_,fun hjl=>?_⟩⟩⟩
  ·rw[st,je,if_pos hany]
  ·rw[st,je,if_pos hany]
  ·have hjl:j<(aa t).length:=by omega
   have P:=hAp j hjl
   have lp:=P.len
   have eq:(cY (aa t) ((aX t).take i)).1++((aa t).take j).map (ec ((aX t).getD i []))++[ec ((aX t).getD i []) ((aa t).getD j [])]=(cY (aa t) ((aX t).take i)).1++((aa t).take (j+1)).map (ec ((aX t).getD i [])):=by
    rw[<-da (aa t) [] j hjl,List.map_append,List.append_assoc];rfl
   refine⟨by omega,⟨by have:=G.pos;omega,by omega,by rw[hc1];exact hc,by omega,fun k hk=>by rw[lp];exact P.rng k (by omega)⟩,?_,by omega,j+1,⟨hlt,by omega,hany⟩,by omega,by omega,eq⟩
   simp only[List.length_append,List.length_map,List.length_take,List.length_singleton];omega
  ·have ej:j=(aa t).length:=by omega
   have ht:=G.tb
   refine⟨⟨by omega,fun r hr=>?_⟩,?_,by omega,i+1,by omega,by omega,by omega,rfl,?_,?_⟩
   ·obtain⟨k,hk,rfl⟩:=List.getElem_of_mem hr
    have:=(ht.2 k hk).1
    rw[bD t [] k hk]at this;have:=G.pos
    omega
   ·simp only[bX,List.length_map,List.length_singleton];omega
   ·rw[st,je,if_neg (by rw[hany];simp),ej,List.take_length]
   ·rw[st,je,if_neg (by rw[hany];simp)]
    simp[bX]
 ·rw[show i=(aX t).length by omega,List.take_length]
theorem KO:Fits Tryz.prog 54 ⟨[],vw⟩:=by
 refine aW (Γ:=ai C7) (az GV (az Mj (az KB (az KF (az Kv (az KJ aJ)))))) Tryz.func54 fun ds p h hp=>?_
 unfold vw at h;split at h
 ·cases h
  exact⟨C6,C5 _ ,by rw[KM];exact KN _  hp⟩
 ·cases h
end Go.Sx
