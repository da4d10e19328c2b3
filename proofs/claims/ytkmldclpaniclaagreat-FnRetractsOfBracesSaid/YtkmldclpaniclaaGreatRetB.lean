/- RetB -/
import Derived.Test.YtkmldclpaniclaaGreatRetA
set_option linter.unusedSimpArgs false
set_option linter.unusedVariables false
set_option linter.defProp false
open Go Go.Proofs
namespace Go.Sx
def vB(a c:Dc)(x y:Nat):Int:=en c (bk c (gD a c x y).toNat).toNat (en c x y).toNat
def bz(a c:Dc):Dc:=bq a.length (vB a c)
def oA:List AD->Option Post
 | [.c (.int .i64 x),.c (.int .i64 y),.box [.rows .i64 m],.box [.rows .i64 a,.rows .i64 c],.box [.ints .i64 k]]=>some ⟨eS a c/\m=aS a c/\k=bB c/\0<=x/\x<(a.length:Int)/\0<=y/\y<(a.length:Int),.tup [.inl (.int .i64 (gD a c x.toNat y.toNat)),.inl (.int .i64 (vB a c x.toNat y.toNat))],[]⟩
 |_=>none
theorem Xc:Fits Tryz.prog 116 ⟨[],oA⟩:=by
 refine ffv (Γ:=af []) aG Tryz.func116 fun ds p h ξ=>?_
 unfold oA at h;split at h<;>cases h
 rename_i x y m a c k
 refine⟨ah,ak,aa x m.length/\aa y (m.getD x.toNat []).length/\aa ((List.getD m x.toNat []).getD y.toNat (0:Int)) k.length/\aa (k.getD (((List.getD m x.toNat []).getD y.toNat (0:Int)).toNat) (0:Int)) c.length/\aa x c.length/\aa y (c.getD x.toNat []).length/\aa ((List.getD c x.toNat []).getD y.toNat (0:Int)) ((c.getD ((k.getD (((List.getD m x.toNat []).getD y.toNat (0:Int)).toNat) (0:Int)).toNat) []).length)/\((List.getD m x.toNat []).getD y.toNat (0:Int)=gD a c x.toNat y.toNat/\(List.getD c ((List.getD k ((List.getD (List.getD m x.toNat []) y.toNat (0:Int)).toNat) (0:Int)).toNat) []).getD (((List.getD c x.toNat []).getD y.toNat (0:Int)).toNat) (0:Int)=vB a c x.toNat y.toNat/\True)/\True,by kernel_rfl,?_⟩
 simp only[aH]at ξ⊢;obtain⟨h,rfl,rfl,x1,x2,y1,y2⟩:=ξ;obtain⟨n1,n2,hl,ha,hc,hb⟩:=lj h;have lm:(aS a c).length=a.length:=fb _ _
 have rm:(aS a c).getD x.toNat []=ap a.length (gD a c x.toNat):=fG _ _ _ (by omega)
 have lr:((aS a c).getD x.toNat []).length=a.length:=by rw[rm,bK]
 have vm:((aS a c).getD x.toNat []).getD y.toNat 0=gD a c x.toNat y.toNat:=by rw[rm,cj _ _ _ (by omega)]
 rw[vm];have B:=hb x.toNat (by omega)
 have C:=hc x.toNat (by omega)
 have C1:=C.2 y.toNat (by omega)
 have C2:0<=en c x.toNat y.toNat/\en c x.toNat y.toNat<=(a.length:Int)-1:=C1
 have R:=ha (bk a x.toNat).toNat (by omega)
 have L:0<=gD a c x.toNat y.toNat/\gD a c x.toNat y.toNat<=(a.length:Int)-1:=R.2 (en c x.toNat y.toNat).toNat (by omega)
 have bl:=pM c
 have bv:=pN c (gD a c x.toNat y.toNat).toNat (by omega)
 have h2:eS c a:=⟨h.2.1,h.1,h.2.2.symm⟩
 have D:=(lj h2).2.2.2.2.2 (gD a c x.toNat y.toNat).toNat (by omega)
 rw[bv];have E:=hc (bk c (gD a c x.toNat y.toNat).toNat).toNat (by omega)
 exact⟨by omega,by omega,by omega,by omega,by omega,by omega,⟨C1.1,by rw[E.1];omega⟩,rfl,rfl⟩
def FE:List AD->Option Post
 | [.agg [.rows .i64 a,.rows .i64 c]]=>some ⟨eS a c,.agg [.rows 62 2 .i64 (aS a c),.rows 62 2 .i64 (bz a c)],[]⟩
 |_=>none
theorem Xf:Fits Tryz.prog 64 ⟨[],FE⟩:=by
 refine ffv (Γ:=af [(114,⟨[],oh⟩),(69,⟨[],sf⟩),(115,⟨[],vA⟩),(116,⟨[],oA⟩)]) (aj tk (aj Jt (aj NU (aj Xc aG)))) Tryz.func64 fun ds p h ξ=>?_
 unfold FE at h;split at h<;>cases h
 rename_i a c
 refine⟨ah,ak,(aM c=true/\True)/\(eS a c/\True)/\(((0:Int)<=(a.length:Int)/\(a.length:Int)<=(144:Int)/\∀(x y:Int),(0:Int)<=x->x<(a.length:Int)->(0:Int)<=y->y<(a.length:Int)->qG (oA [AD.c (FC.int IntKind.i64 x),AD.c (FC.int IntKind.i64 y),AD.box [FC.rows IntKind.i64 (aS a c)],AD.box [FC.rows IntKind.i64 a,FC.rows IntKind.i64 c],AD.box [FC.ints IntKind.i64 (bB c)]]))/\True)/\((bq ((a.length:Int).toNat) fun(x y:Nat)=>(mS (oA [AD.c (FC.int IntKind.i64 (x:Int)),AD.c (FC.int IntKind.i64 (y:Int)),AD.box [FC.rows IntKind.i64 (aS a c)],AD.box [FC.rows IntKind.i64 a,FC.rows IntKind.i64 c],AD.box [FC.ints IntKind.i64 (bB c)]])).1)=aS a c/\(bq ((a.length:Int).toNat) fun(x y:Nat)=>(mS (oA [AD.c (FC.int IntKind.i64 (x:Int)),AD.c (FC.int IntKind.i64 (y:Int)),AD.box [FC.rows IntKind.i64 (aS a c)],AD.box [FC.rows IntKind.i64 a,FC.rows IntKind.i64 c],AD.box [FC.ints IntKind.i64 (bB c)]])).2)=bz a c/\True)/\True,by kernel_rfl,?_⟩
 simp only[aH]at ξ⊢;obtain⟨n1,n2,hl,ha,hc,hb⟩:=lj ξ;exact⟨gC ξ.2.1,ξ,⟨by omega,by omega,fun x y a1 a2 a3 a4=>⟨ξ,rfl,rfl,a1,a2,a3,a4⟩⟩,iZ fun x y hx hy=>rfl,iZ fun x y hx hy=>rfl⟩
def FG:List AD->Option Post
 | [.agg [.rows .i64 a,.rows .i64 c]]=>some ⟨aD a/\aD c/\bM a c=true,.tup [.inr [.rows 62 2 .i64 (aS a c),.rows 62 2 .i64 (bz a c)],.inl (.int .i64 0)],[]⟩
 |_=>none
theorem Xi:Fits Tryz.prog 22 ⟨[],FG⟩:=by
 refine ffv (Γ:=af [(36,⟨[],nO⟩),(64,⟨[],FE⟩)]) (aj rZ (aj Xf aG)) Tryz.func22 fun ds p h ξ=>?_
 unfold FG at h;split at h<;>cases h
 rename_i a c
 refine⟨ah,ak,((aD a/\aD c)/\True)/\ab (!bM a c) (((([]:Dc)=aS a c/\([]:Dc)=bz a c/\True)/\(1:Int)=(0:Int)/\True)/\True) ((eS a c/\True)/\((aS a c=aS a c/\bz a c=bz a c/\True)/\(0:Int)=(0:Int)/\True)/\True),by kernel_rfl,?_⟩
 simp only[aH]at ξ⊢;obtain⟨r1,r2,h⟩:=ξ;have g:eS a c:=⟨(jc h).1,(jc h).2.1,(jc h).2.2.1⟩
 exact⟨⟨r1,r2⟩,fun q=>(by rw[h]at q;cases q),fun _=>g⟩
def oB:List AD->Option Post
 | [.c (.int .i64 x),.c (.int .i64 y),.box [.ints .i64 f],.box [.ints .i64 cl],.box [.rows .i64 F,.rows .i64 S]]=>some ⟨eC F S=true/\cl.length=F.length/\f=aV cl cl.length/\0<=x/\x<(f.length:Int)/\0<=y/\y<(f.length:Int),.tup [.inl (.int .i64 (cl.getD (en F (f.getD x.toNat 0).toNat (f.getD y.toNat 0).toNat).toNat 0)),.inl (.int .i64 (cl.getD (en S (f.getD x.toNat 0).toNat (f.getD y.toNat 0).toNat).toNat 0))],[]⟩
 |_=>none
theorem Xl:Fits Tryz.prog 121 ⟨[],oB⟩:=by
 refine ffv (Γ:=af []) aG Tryz.func121 fun ds p h ξ=>?_
 unfold oB at h;split at h<;>cases h
 rename_i x y f cl F S
 refine⟨ah,ak,aa x f.length/\aa y f.length/\aa (f.getD x.toNat (0:Int)) F.length/\aa (f.getD y.toNat (0:Int)) ((F.getD ((f.getD x.toNat (0:Int)).toNat) []).length)/\aa ((List.getD F ((List.getD f x.toNat (0:Int)).toNat) []).getD ((f.getD y.toNat (0:Int)).toNat) (0:Int)) cl.length/\aa (f.getD x.toNat (0:Int)) S.length/\aa (f.getD y.toNat (0:Int)) ((S.getD ((f.getD x.toNat (0:Int)).toNat) []).length)/\aa ((List.getD S ((List.getD f x.toNat (0:Int)).toNat) []).getD ((f.getD y.toNat (0:Int)).toNat) (0:Int)) cl.length/\(cl.getD (((List.getD F ((List.getD f x.toNat (0:Int)).toNat) []).getD ((f.getD y.toNat (0:Int)).toNat) (0:Int)).toNat) (0:Int)=cl.getD ((en F ((f.getD x.toNat (0:Int)).toNat) ((f.getD y.toNat (0:Int)).toNat)).toNat) (0:Int)/\cl.getD (((List.getD S ((List.getD f x.toNat (0:Int)).toNat) []).getD ((f.getD y.toNat (0:Int)).toNat) (0:Int)).toNat) (0:Int)=cl.getD ((en S ((f.getD x.toNat (0:Int)).toNat) ((f.getD y.toNat (0:Int)).toNat)).toNat) (0:Int)/\True)/\True,by kernel_rfl,?_⟩
 simp only[aH]at ξ⊢;obtain⟨h1,h2,rfl,x1,x2,y1,y2⟩:=ξ;obtain⟨n1,n2,hl,hF,hS⟩:=oz h1;have fx:=mz cl cl.length _ (cU (aV cl cl.length) 0 x.toNat (by omega))
 have fy:=mz cl cl.length _ (cU (aV cl cl.length) 0 y.toNat (by omega))
 have r:=hF ((aV cl cl.length).getD x.toNat 0).toNat (by omega)
 have v:=r.2 ((aV cl cl.length).getD y.toNat 0).toNat (by omega)
 have r2:=hS ((aV cl cl.length).getD x.toNat 0).toNat (by omega)
 have v2:=r2.2 ((aV cl cl.length).getD y.toNat 0).toNat (by omega)
 exact⟨by omega,by omega,by omega,by omega,by omega,by omega,by omega,by omega,rfl,rfl⟩
theorem Xm(F S:Dc):(ce F S).length=F.length:=by rw[ce,EX,g6]
def vH:List AD->Option Post
 | [.agg [.rows .i64 F,.rows .i64 S]]=>some ⟨eC F S=true,.agg [.rows 62 2 .i64 (quo F (ce F S)),.rows 62 2 .i64 (quo S (ce F S))],[]⟩
 |_=>none
def mJ(F:Dc)(S:Dc):=(↑((aV (ce F S) (ce F S).length).length):Int)
theorem N0:Fits Tryz.prog 66 ⟨[],vH⟩:=by
 refine ffv (Γ:=af [(119,⟨[],Fx⟩),(120,⟨[],uX⟩),(115,⟨[],vA⟩),(121,⟨[],oB⟩)]) (aj WY (aj Nv (aj NU (aj Xl aG)))) Tryz.func66 fun ds p h ξ=>?_
 unfold vH at h;split at h<;>cases h
 rename_i F S
 refine⟨ah,ak,(eC F S=true/\True)/\((ce F S).length<=(1000:Nat)/\True)/\(((0:Int)<=(mJ F S)/\(mJ F S)<=(144:Int)/\∀(x y:Int),(0:Int)<=x->x<(mJ F S)->(0:Int)<=y->y<(mJ F S)->qG (oB [AD.c (FC.int IntKind.i64 x),AD.c (FC.int IntKind.i64 y),AD.box [FC.ints IntKind.i64 (aV (ce F S) (ce F S).length)],AD.box [FC.ints IntKind.i64 (ce F S)],AD.box [FC.rows IntKind.i64 F,FC.rows IntKind.i64 S]]))/\True)/\((bq (mJ F S).toNat fun(x y:Nat)=>(mS (oB [AD.c (FC.int IntKind.i64 (x:Int)),AD.c (FC.int IntKind.i64 (y:Int)),AD.box [FC.ints IntKind.i64 (aV (ce F S) (ce F S).length)],AD.box [FC.ints IntKind.i64 (ce F S)],AD.box [FC.rows IntKind.i64 F,FC.rows IntKind.i64 S]])).1)=quo F (ce F S)/\(bq (mJ F S).toNat fun(x y:Nat)=>(mS (oB [AD.c (FC.int IntKind.i64 (x:Int)),AD.c (FC.int IntKind.i64 (y:Int)),AD.box [FC.ints IntKind.i64 (aV (ce F S) (ce F S).length)],AD.box [FC.ints IntKind.i64 (ce F S)],AD.box [FC.rows IntKind.i64 F,FC.rows IntKind.i64 S]])).2)=quo S (ce F S)/\True)/\True,by kernel_rfl,?_⟩
 simp only[mJ,aH]at ξ⊢;have al:=Xm F S
 obtain⟨n1,n2,hl,hF,hS⟩:=oz ξ;have fl:=kA (ce F S) (ce F S).length
 exact⟨ξ,by omega,⟨by omega,by omega,fun x y a1 a2 a3 a4=>⟨ξ,al,rfl,a1,a2,a3,a4⟩⟩,iZ fun x y hx hy=>rfl,iZ fun x y hx hy=>rfl⟩
def FK:List AD->Option Post
 | [.agg [.rows .i64 F,.rows .i64 S]]=>some ⟨aD F/\aD S/\RegP F S,.tup [.inr [.rows 62 2 .i64 (quo F (ce F S)),.rows 62 2 .i64 (quo S (ce F S))],.inl (.int .i64 0)],[]⟩
 |_=>none
theorem Xr:Fits Tryz.prog 23 ⟨[],FK⟩:=by
 refine ffv (Γ:=af [(65,⟨[],vq⟩),(66,⟨[],vH⟩)]) (aj NM (aj N0 aG)) Tryz.func23 fun ds p h ξ=>?_
 unfold FK at h;split at h<;>cases h
 rename_i F S
 refine⟨ah,ak,((aD F/\aD S/\RegP F S)/\True)/\(eC F S=true/\True)/\((quo F (ce F S)=quo F (ce F S)/\quo S (ce F S)=quo S (ce F S)/\True)/\(0:Int)=(0:Int)/\True)/\True,by kernel_rfl,?_⟩
 simp only[aH]at ξ⊢;obtain⟨r1,r2,K⟩:=ξ;exact⟨⟨r1,r2,K⟩,K.so.pm⟩
def jK(p:Dc×Dc):Dc×Dc:=(quo p.1 (ce p.1 p.2),quo p.2 (ce p.1 p.2))
def cp:Nat->Dc×Dc->Df
 |0,p=>[p]
 |k+1,p=>if(jK p).1.length=p.1.length then [p]else p::cp k (jK p)
def jL:Nat->Dc×Dc->Prop
 |0,_=>False
 |k+1,p=>eC p.1 p.2=true/\((jK p).1.length=p.1.length\/jL k (jK p))
theorem Xs{α:Type}(l:List α)(p z:α):(l++[p]).getD l.length z=p:=by
 rw[AN,Aq (AE _)];simp
def vJ(F:Dc)(S:Dc):Post:=⟨jL 13 (F,S),.c (.ro (.p3 .i64 (cp 13 (F,S)))),[]⟩
def FM:List AD->Option Post
 | [.agg [.rows .i64 F,.rows .i64 S]]=>some (vJ F S)
 |_=>none
def N2(F:Dc)(S:Dc):Nat->Option Ann
 |0=>some (Ann.mk ((Df)×(Dc×Dc)×(Nat)) (fun x=>match x with|(pre,p,k)=>⟨[(3,M' 600)],[(600,some (.lst 0 44 (.p3 .i64 (pre++[p]))))]⟩) (fun x=>match x with|(pre,p,k)=>jL k p/\pre.length+k=13/\cp 13 (F,S)=pre++cp k p) (fun x=>match x with|(pre,p,k)=>k) (fun _=>ak))
 |_=>none
def N3(t:Nat):Bool:=[5000007,1000007,5000026,1000026].contains t
def N4:List (Nat×Ctr):=[(66,⟨[],vH⟩)]
def f9(x0:Df×(Dc×Dc)×Nat):=((x0.1++[x0.2.1]).getD (((↑(FC.len (FC.p3 IntKind.i64 (x0.1++[x0.2.1]))):Int)-(1:Int)).toNat) (([]:Dc),([]:Dc)))
def FN(F:Dc)(S:Dc):Prop :=
 ((∃x0:Df×(Dc×Dc)×Nat,(((jL x0.2.2 x0.2.1)/\(((x0.1).length+x0.2.2=(13:Nat))/\(cp (13:Nat) (F,S)=x0.1++cp x0.2.2 x0.2.1)))/\([(F,S)]=x0.1++[x0.2.1])))/\(∀x1:Df×(Dc×Dc)×Nat,(((jL x1.2.2 x1.2.1)/\(((x1.1).length+x1.2.2=(13:Nat))/\(cp (13:Nat) (F,S)=x1.1++cp x1.2.2 x1.2.1)))->((ae ((↑(FC.len (FC.p3 IntKind.i64 (x1.1++[x1.2.1]))):Int)-(1:Int)))/\((aa ((↑(FC.len (FC.p3 IntKind.i64 (x1.1++[x1.2.1]))):Int)-(1:Int)) (x1.1++[x1.2.1]).length)/\((((↑(FC.len (FC.p3 IntKind.i64 (x1.1++[x1.2.1]))):Int)-(1:Int)).toNat<(x1.1++[x1.2.1]).length)/\(((eC (f9 x1).1 (f9 x1).2=true)/\True)/\(ab ((↑((quo (((x1.1++[x1.2.1]).getD (((↑(FC.len (FC.p3 IntKind.i64 (x1.1++[x1.2.1]))):Int)-(1:Int)).toNat) (([]:Dc),([]:Dc))).1) (ce (((x1.1++[x1.2.1]).getD (((↑(FC.len (FC.p3 IntKind.i64 (x1.1++[x1.2.1]))):Int)-(1:Int)).toNat) (([]:Dc),([]:Dc))).1) (((x1.1++[x1.2.1]).getD (((↑(FC.len (FC.p3 IntKind.i64 (x1.1++[x1.2.1]))):Int)-(1:Int)).toNat) (([]:Dc),([]:Dc))).2))).length):Int) == (↑((((x1.1++[x1.2.1]).getD (((↑(FC.len (FC.p3 IntKind.i64 (x1.1++[x1.2.1]))):Int)-(1:Int)).toNat) (([]:Dc),([]:Dc))).1).length):Int))
 ((x1.1++[x1.2.1]=cp (13:Nat) (F,S))/\True) ((ar (FC.len (FC.p3 IntKind.i64 (x1.1++[x1.2.1]))+FC.len (FC.p3 IntKind.i64 [(quo (f9 x1).1 (ce (f9 x1).1 (f9 x1).2),quo (f9 x1).2 (ce (f9 x1).1 (f9 x1).2))])))/\(∃x2:Df×(Dc×Dc)×Nat,(((jL x2.2.2 x2.2.1)/\(((x2.1).length+x2.2.2=(13:Nat))/\(cp (13:Nat) (F,S)=x2.1++cp x2.2.2 x2.2.1)))/\((x2.2.2<x1.2.2)/\(x1.1++[x1.2.1]++[(quo (f9 x1).1 (ce (f9 x1).1 (f9 x1).2),quo (f9 x1).2 (ce (f9 x1).1 (f9 x1).2))]=x2.1++[x2.2.1])))))))))))))
theorem Xt(F:Dc)(S:Dc):aE Tryz.prog (af N4) N3 (N2 F S) Tryz.f70 (aF Tryz.f70) [] [.agg [.rows .i64 F,.rows .i64 S]] (vJ F S)=FN F S:=by kernel_rfl
theorem Xu(F:Dc)(S:Dc)(ξ:(vJ F S).pre):FN F S:=by
 simp only[vJ,FN,f9,aH]at ξ⊢;refine⟨⟨([],(F,S),13),⟨ξ,rfl,rfl⟩,rfl⟩,fun⟨pre,p,k⟩ ⟨ok,hk,he⟩=>?_⟩
 simp only at ok hk he⊢;have L:(FC.p3 .i64 (pre++[p])).len=pre.length+1:=by simp[FC.len]
 have I:(((FC.p3 .i64 (pre++[p])).len:Int)-1).toNat=pre.length:=by rw[L];omega
 rw[I,Xs,L];obtain⟨j,rfl⟩:∃j,k=j+1:=by
  cases k with
  |zero=>cases ok
  |succ j=>exact⟨j,rfl⟩
 obtain⟨pm,ok2⟩:=ok;have one:(FC.p3 .i64 [(quo p.1 (ce p.1 p.2),quo p.2 (ce p.1 p.2))]).len=1:=rfl
 rw[one];refine⟨by omega,by omega,by omega,pm,fun e=>?_,fun e=>⟨by omega,(pre++[p],jK p,j),⟨ok2.resolve_left fun q=>e (by rw[<-q];rfl),by simp;omega,?_⟩,by simp,rfl⟩⟩
 ·rw[he,cp,AA (show(jK p).1.length=p.1.length by simp only[jK];omega)]
 ·rw[he,cp,AB (fun q=>e (by rw[<-q];rfl))];simp
theorem Xv:Fits Tryz.prog 70 ⟨[],FM⟩:=by
 refine aI (Γ:=af N4) (aj N0 aG) Tryz.func70 fun ds p h hp=>?_
 unfold FM at h;split at h
 ·cases h
  exact⟨N3,N2 _ _ ,by rw[Xt];exact Xu _ _  hp⟩
 ·cases h
def iJ(L:Df):Int×Int:=if 1<((L.getD (L.length-1) ([],[])).1.length:Int)then(0,4)else((L.length:Int)-1,0)
theorem FO:∀(k:Nat) (p:Dc×Dc),1<=(cp k p).length/\(cp k p).length<=k+1
 |0,p=>by simp[cp]
 |k+1,p=>by
  have:=FO k (jK p)
  rw[cp];split
  ·simp
  ·simp;omega
def FP:List AD->Option Post
 | [.agg [.rows .i64 F,.rows .i64 S]]=>some ⟨aD F/\aD S/\RegP F S/\jL 13 (F,S),.tup [.inl (.int .i64 ((iJ (cp 13 (F,S))).1)),.inl (.int .i64 ((iJ (cp 13 (F,S))).2))],[]⟩
 |_=>none
theorem Xy:Fits Tryz.prog 26 ⟨[],FP⟩:=by
 refine ffv (Γ:=af [(65,⟨[],vq⟩),(70,⟨[],FM⟩)]) (aj NM (aj Xv aG)) Tryz.func26 fun ds p h ξ=>?_
 unfold FP at h;split at h<;>cases h
 rename_i F S
 refine⟨ah,ak,((aD F/\aD S/\RegP F S)/\True)/\(jL (13:Nat) (F,S)/\True)/\ae ((↑((cp (13:Nat) (F,S)).length):Int)-(1:Int))/\aa ((↑((cp (13:Nat) (F,S)).length):Int)-(1:Int)) ((cp (13:Nat) (F,S)).length)/\ab (decide ((1:Int)<(↑((((cp (13:Nat) (F,S)).getD (((↑((cp (13:Nat) (F,S)).length):Int)-(1:Int)).toNat) (([]:Dc),([]:Dc))).1).length):Int))) (((0:Int)=(iJ (cp (13:Nat) (F,S))).1/\(4:Int)=(iJ (cp (13:Nat) (F,S))).2/\True)/\True) (((↑((cp (13:Nat) (F,S)).length):Int)-(1:Int)=(iJ (cp (13:Nat) (F,S))).1/\(0:Int)=(iJ (cp (13:Nat) (F,S))).2/\True)/\True),by kernel_rfl,?_⟩
 simp only[aH]at ξ⊢;obtain⟨r1,r2,K,ok⟩:=ξ;have sl:=FO 13 (F,S)
 have I:(((cp 13 (F,S)).length:Int)-1).toNat=(cp 13 (F,S)).length-1:=by omega
 rw[I];refine⟨⟨r1,r2,K⟩,ok,by omega,by omega,fun h=>?_,fun h=>?_⟩
 ·rw[iJ,AA h];exact⟨rfl,rfl⟩
 ·rw[iJ,AB h];exact⟨rfl,rfl⟩
end Go.Sx
