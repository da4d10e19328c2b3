/- Lvl -/
import Derived.Test.YtkmldclpaniclaaGreatSoc
set_option linter.unusedSimpArgs false
set_option linter.unusedVariables false
set_option linter.defProp false
open Go Go.Proofs
namespace Go.Sx
def tO:List AD->Option Post
 | [.c (.ints .i64 a),.c (.ints .i64 b)]=>some ⟨a.length<=9223372036854775807/\b.length<=9223372036854775807,.c (.bool (decide (a=b))),[]⟩
 |_=>none
def Ll(a:Db)(b:Db):Nat->Option Ann
 |0=>U' fun i=>⟨⟨[(0,G' a),(1,G' b),(12,D' a.length),(13,D' i)],[]⟩,i<=a.length/\a.length=b.length/\decide (a=b)=decide (a.drop i=b.drop i),a.length-i⟩
 |_=>none
theorem Ln:Fits Tryz.prog 92 ⟨[],tO⟩:=by
 refine ffv (Γ:=af []) aG Tryz.func92 fun ds p h ξ=>?_
 unfold tO at h;split at h<;>cases h
 rename_i a b
 refine⟨ah,Ll a b,ab ((a.length:Int) != (b.length:Int)) (false=decide (a=b)/\True) ((∃x0:Nat,(x0<=a.length/\a.length=b.length/\decide (a=b)=decide (List.drop x0 a=List.drop x0 b))/\a=a/\b=b/\(a.length:Int)=(a.length:Int)/\(0:Int)=(x0:Int))/\∀x1:Nat,x1<=a.length/\a.length=b.length/\decide (a=b)=decide (List.drop x1 a=List.drop x1 b)->ab (decide ((x1:Int)<(a.length:Int))) (aa (x1:Int) a.length/\aa (x1:Int) b.length/\ab (a.getD (x1:Int).toNat (0:Int) != b.getD (x1:Int).toNat (0:Int)) (false=decide (a=b)/\True) (ae ((x1:Int)+(1:Int))/\∃x2:Nat,(x2<=a.length/\a.length=b.length/\decide (a=b)=decide (List.drop x2 a=List.drop x2 b))/\a.length-x2<a.length-x1/\a=a/\b=b/\(a.length:Int)=(a.length:Int)/\(x1:Int)+(1:Int)=(x2:Int))) (true=decide (a=b)/\True)),by kernel_rfl,?_⟩
 simp only[aH]at ξ⊢;refine⟨fun h=>?_,fun h=>⟨⟨0,⟨by omega,by omega,rfl⟩,rfl⟩,fun i ⟨hi,hl,he⟩=>⟨fun h2=>?_,fun h2=>?_⟩⟩⟩
 ·exact(AZ fun e=>h (by rw[e])).symm
 ·have ea:=drop_cons' a 0 i (by omega)
  have eb:=drop_cons' b 0 i (by omega)
  refine⟨by omega,by omega,fun h3=>?_,fun h3=>⟨by omega,i+1,⟨by omega,hl,?_⟩,by omega,by omega⟩⟩
  ·rw[he,ea,eb]
   exact(AZ fun e=>h3 (by injection e)).symm
  ·rw[he,ea,eb,h3]
   simp
 ·rw[he,Cs (by omega),Cs (by omega)];rfl
def pT:List AD->Option Post
 | [.c (.int .i64 x),.c (.int .i64 y),.box [.rows .i64 t]]=>some ⟨aM t=true/\0<=x/\x<(t.length:Int)/\0<=y/\y<(t.length:Int),.c (.int .i64 (en t y.toNat x.toNat)),[]⟩
 |_=>none
theorem Uz:Fits Tryz.prog 152 ⟨[],pT⟩:=by
 refine ffv (Γ:=af []) aG Tryz.func152 fun ds p h ξ=>?_
 unfold pT at h;split at h<;>cases h
 rename_i x y t
 refine⟨ah,ak,aa y t.length/\aa x (t.getD y.toNat []).length/\(List.getD t y.toNat []).getD x.toNat (0:Int)=en t y.toNat x.toNat/\True,by kernel_rfl,?_⟩
 simp only[aH]at ξ⊢;obtain⟨h1,x1,x2,y1,y2⟩:=ξ;obtain⟨n1,n2,ht⟩:=bT h1;have r:=ht y.toNat (by omega)
 exact⟨by omega,by omega,rfl⟩
def aT(t:Dc):Dc:=bq t.length fun x y=>en t y x
def pU:List AD->Option Post
 | [.c (.rows .i64 t)]=>some ⟨aM t=true,.c (.rows 62 2 .i64 (aT t)),[]⟩
 |_=>none
theorem Dn:Fits Tryz.prog 108 ⟨[],pU⟩:=by
 refine ffv (Γ:=af [(124,⟨[],pB⟩),(152,⟨[],pT⟩)]) (aj yx (aj Uz aG)) Tryz.func108 fun ds p h ξ=>?_
 unfold pU at h;split at h<;>cases h
 rename_i t
 refine⟨ah,ak,(((0:Int)<=(t.length:Int)/\(t.length:Int)<=(144:Int)/\∀(x y:Int),(0:Int)<=x->x<(t.length:Int)->(0:Int)<=y->y<(t.length:Int)->jU (pT [AD.c (FC.int IntKind.i64 x),AD.c (FC.int IntKind.i64 y),AD.box [FC.rows IntKind.i64 t]]))/\True)/\(bq ((t.length:Int).toNat) fun(x y:Nat)=>kK (pT [AD.c (FC.int IntKind.i64 (x:Int)),AD.c (FC.int IntKind.i64 (y:Int)),AD.box [FC.rows IntKind.i64 t]]))=aT t/\True,by kernel_rfl,?_⟩
 simp only[aH]at ξ⊢;obtain⟨n1,n2,ht⟩:=bT ξ;exact⟨⟨by omega,by omega,fun x y a1 a2 a3 a4=>⟨ξ,a1,a2,a3,a4⟩⟩,iZ fun x y hx hy=>rfl⟩
theorem lA{a b:Db}(h:a.length=b.length)(k:∀i,i<a.length->a.getD i 0=b.getD i 0):a=b:=by
 apply CW h
 intro i h1 h2
 have:=k i h1
 rwa[cg a 0 i h1,cg b 0 i h2]at this
theorem UC{a c:Dc}(h1:aM a=true)(h2:aM c=true)(hl:c.length=a.length){x:Nat}(hx:x<a.length) :
  iL a c x=true↔(a.getD x []=c.getD x []/\a.getD x []=(aT a).getD x []):=by
 have ra:=(bT h1).2.2 x hx
 have rc:=(bT h2).2.2 x (by omega)
 have et:(aT a).getD x []=ap a.length fun y=>en a y x:=fG _ _ _ hx
 rw[iL,AM]
 constructor
 ·intro h
  have h:∀y,y<a.length->en c x y=en a x y/\en a x y=en a y x:=fun y hy=>by
   have:=h y (by simpa using hy)
   rw[gK,AG,AQ,AQ]at this;exact this
  refine⟨lA (by omega) fun i hi=>(h i (by omega)).1.symm,?_⟩
  rw[et];exact lA (by rw[bK];omega) fun i hi=>by rw[cj _ _ _ (by omega)];exact(h i (by omega)).2
 ·rintro⟨e1,e2⟩ y hy
  have hy:y<a.length:=by simpa using hy
  rw[gK,AG,AQ,AQ];refine⟨by unfold en;rw[e1],?_⟩
  rw[et]at e2
  show(a.getD x []).getD y 0=_
  rw[e2,cj _ _ _ hy]
theorem Lq{a c:Dc}{i:Nat}(h:iL a c i=true):cq a c i ||| 2 ^ i=cq a c (i+1):=by
 unfold cq;simp only[iD];rw[AA h]
theorem Do{a c:Dc}{i:Nat}(h:¬ iL a c i=true):cq a c i=cq a c (i+1):=by
 unfold cq;simp only[iD];rw[AB h]
theorem Lr(a c:Dc){i n:Nat}(h:i<=n)(hn:n<=12):cq a c i<4096:=by
 have:=zF (iL a c) i
 have h2:=pO (n:=i) (by omega)
 unfold cq;omega
def tR(a:Dc)(c:Dc):Post:=⟨aM a=true/\aM c=true/\c.length=a.length,.c (.int .i64 (am a c)),[]⟩
def tS:List AD->Option Post
 | [.agg [.rows .i64 a,.rows .i64 c]]=>some (tR a c)
 |_=>none
def Ls(a:Dc)(c:Dc):Nat->Option Ann
 |0=>U' fun i=>⟨⟨[(1,N' 1),(3,M' 9),(4,D' ((cq a c i:Nat):Int)),(11,I' a),(12,D' a.length),(13,D' i)],[(1,T' [.ro (.rows .i64 a),.ro (.rows .i64 c)]),(9,O' (aT a))]⟩,i<=a.length,a.length-i⟩
 |_=>none
def Lu:List (Nat×Ctr):=[(108,⟨[],pU⟩),(92,⟨[],tO⟩)]
def Dp(a:Dc)(c:Dc):Prop :=
 (((aM a=true)/\True)/\((∃x0:Nat,((x0<=a.length)/\(((0:Int)=(↑(cq a c x0):Int))/\((a=a)/\(((↑(a.length):Int)=(↑(a.length):Int))/\(((0:Int)=(↑x0:Int))/\((a=a)/\((c=c)/\(aT a=aT a)))))))))/\(∀x1:Nat,((x1<=a.length)->(ab (decide ((↑x1:Int)<(↑(a.length):Int))) ((aa (↑x1:Int) a.length)/\((aa (↑x1:Int) c.length)/\(((((a.getD (↑x1:Int).toNat []).length<=(9223372036854775807:Nat))/\((c.getD (↑x1:Int).toNat []).length<=(9223372036854775807:Nat)))/\True)/\(ab (decide (a.getD (↑x1:Int).toNat []=c.getD (↑x1:Int).toNat [])) ((aa (↑x1:Int) (aT a).length)/\(((((a.getD (↑x1:Int).toNat []).length<=(9223372036854775807:Nat))/\(((aT a).getD (↑x1:Int).toNat []).length<=(9223372036854775807:Nat)))/\True)/\(ab (decide (a.getD (↑x1:Int).toNat []=(aT a).getD (↑x1:Int).toNat [])) (((((0:Int)<=(↑x1:Int))/\((↑x1:Int)<=(62:Int)))/\(ae ((1:Int)*(2:Int) ^ (↑x1:Int).toNat)))/\(((IntKind.i64=IntKind.i64)/\((((0:Int)<=(↑(cq a c x1):Int))/\((↑(cq a c x1):Int)<=(9223372036854775807:Int)))/\(((0:Int)<=(1:Int)*(2:Int) ^ (↑x1:Int).toNat)/\((1:Int)*(2:Int) ^ (↑x1:Int).toNat<=(9223372036854775807:Int)))))/\((ae ((↑x1:Int)+(1:Int)))/\(∃x2:Nat,((x2<=a.length)/\((a.length-x2<a.length-x1)/\(((↑((↑(cq a c x1):Int).toNat ||| ((1:Int)*(2:Int) ^ (↑x1:Int).toNat).toNat):Int)=(↑(cq a c x2):Int))/\((a=a)/\(((↑(a.length):Int)=(↑(a.length):Int))/\(((↑x1:Int)+(1:Int)=(↑x2:Int))/\((a=a)/\((c=c)/\(aT a=aT a)))))))))))))
 ((ae ((↑x1:Int)+(1:Int)))/\(∃x3:Nat,((x3<=a.length)/\((a.length-x3<a.length-x1)/\(((↑(cq a c x1):Int)=(↑(cq a c x3):Int))/\((a=a)/\(((↑(a.length):Int)=(↑(a.length):Int))/\(((↑x1:Int)+(1:Int)=(↑x3:Int))/\((a=a)/\((c=c)/\(aT a=aT a)))))))))))))) ((ae ((↑x1:Int)+(1:Int)))/\(∃x4:Nat,((x4<=a.length)/\((a.length-x4<a.length-x1)/\(((↑(cq a c x1):Int)=(↑(cq a c x4):Int))/\((a=a)/\(((↑(a.length):Int)=(↑(a.length):Int))/\(((↑x1:Int)+(1:Int)=(↑x4:Int))/\((a=a)/\((c=c)/\(aT a=aT a))))))))))))))) (((↑(cq a c x1):Int)=am a c)/\True))))))
theorem UD(a:Dc)(c:Dc):aE Tryz.prog (af Lu) ah (Ls a c) Tryz.f59 (aF Tryz.f59) [] [.agg [.rows .i64 a,.rows .i64 c]] (tR a c)=Dp a c:=by kernel_rfl
theorem UE(a:Dc)(c:Dc)(ξ:(tR a c).pre):Dp a c:=by
 simp only[tR,Dp,aH]at ξ⊢;obtain⟨h1,h2,hl⟩:=ξ;obtain⟨n1,n2,ha⟩:=bT h1;obtain⟨_,_,hc⟩:=bT h2;have hT:(aT a).length=a.length:=fb _ _
 refine⟨h1,⟨0,by omega,rfl,rfl⟩,fun i hi=>⟨fun h=>?_,fun h=>?_⟩⟩
 ·have hs:=UC h1 h2 hl (x:=i) (by omega)
  have r1:=(ha i (by omega)).1
  have r2:=(hc i (by omega)).1
  have r3:((aT a).getD i []).length=a.length:=by rw[aT,fG _ _ _ (by omega),bK]
  have ml:=Lr a c (i:=i) (n:=a.length) (by omega) n2
  have p12:=pO (n:=i) (by omega)
  have pp:=BW (2 ^ i)
  have pn:(1*(2:Int) ^ i)=((2 ^ i:Nat):Int):=by rw[B8,Bv];rfl
  rw[pn];refine⟨by omega,by omega,by omega,fun e1=>⟨by omega,by omega,fun e2=>?_,fun e2=>?_⟩,fun e1=>?_⟩
  ·refine⟨by omega,by omega,by omega,i+1,by omega,by omega,?_,by omega⟩
   rw[AP,Lq (hs.2 ⟨e1,e2⟩)]
  ·exact⟨by omega,i+1,by omega,by omega,by rw[Do fun h=>e2 (hs.1 h).2],by omega⟩
  ·exact⟨by omega,i+1,by omega,by omega,by rw[Do fun h=>e1 (hs.1 h).1],by omega⟩
 ·rw[show i=a.length by omega];rfl
theorem Lv:Fits Tryz.prog 59 ⟨[],tS⟩:=by
 refine aI (Γ:=af Lu) (aj Dn (aj Ln aG)) Tryz.func59 fun ds p h hp=>?_
 unfold tS at h;split at h
 ·cases h
  exact⟨ah,Ls _ _ ,by rw[UD];exact UE _ _  hp⟩
 ·cases h
def Dq:List AD->Option Post
 | [.agg [.rows .i64 a,.rows .i64 c]]=>some ⟨aM a=true/\aM c=true/\c.length=a.length,.c (.int .i64 (am a c)),[]⟩
 |_=>none
def Lw(a:Dc)(c:Dc):Nat->Option Ann
 |0=>V' (fun i=>⟨⟨[(1,N' 1),(3,D' ((cq a c i:Nat):Int)),(4,D' i)],[(1,T' [.ro (.rows .i64 a),.ro (.rows .i64 c)])]⟩,i<=a.length,a.length-i⟩) (fun i b_=>match b_ with|2=>U' fun j=>⟨⟨[(1,N' 1),(3,D' ((cq a c i:Nat):Int)),(4,D' i),(5,.c (.bool (((List.range j).all (gK a c i))))),(6,D' j)],[(1,T' [.ro (.rows .i64 a),.ro (.rows .i64 c)])]⟩,j<=a.length/\i<a.length,a.length-j⟩|_=>none)
 |_=>none
theorem UH:Fits Tryz.prog 62 ⟨[],Dq⟩:=by
 refine ffv (Γ:=af []) aG Tryz.func62 fun ds p h ξ=>?_
 unfold Dq at h;split at h<;>cases h
 rename_i a c
 refine⟨ah,Lw a c,(∃x0:Nat,x0<=a.length/\(0:Int)=(cq a c x0:Int)/\(0:Int)=(x0:Int)/\a=a/\c=c)/\∀x1:Nat,x1<=a.length->ab (decide ((x1:Int)<(a.length:Int))) ((∃x2:Nat,(x2<=a.length/\x1<a.length)/\(cq a c x1:Int)=(cq a c x1:Int)/\(x1:Int)=(x1:Int)/\true=List.all (List.range x2) (gK a c x1)/\(0:Int)=(x2:Int)/\a=a/\c=c)/\∀x3:Nat,x3<=a.length/\x1<a.length->ab (decide ((x3:Int)<(a.length:Int))) (ab (List.all (List.range x3) (gK a c x1)) (aa (x1:Int) c.length/\aa (x3:Int) ((c.getD (x1:Int).toNat []).length)/\aa (x1:Int) a.length/\aa (x3:Int) ((a.getD (x1:Int).toNat []).length)/\ab ((List.getD c (x1:Int).toNat []).getD (x3:Int).toNat (0:Int) == (List.getD a (x1:Int).toNat []).getD (x3:Int).toNat (0:Int)) (aa (x1:Int) a.length/\aa (x3:Int) ((a.getD (x1:Int).toNat []).length)/\aa (x3:Int) a.length/\aa (x1:Int) ((a.getD (x3:Int).toNat []).length)/\ae ((x3:Int)+(1:Int))/\∃x4:Nat,(x4<=a.length/\x1<a.length)/\a.length-x4<a.length-x3/\(cq a c x1:Int)=(cq a c x1:Int)/\(x1:Int)=(x1:Int)/\((List.getD a (x1:Int).toNat []).getD (x3:Int).toNat (0:Int) == (List.getD a (x3:Int).toNat []).getD (x1:Int).toNat (0:Int))=List.all (List.range x4) (gK a c x1)/\(x3:Int)+(1:Int)=(x4:Int)/\a=a/\c=c) (ae ((x3:Int)+(1:Int))/\∃x5:Nat,(x5<=a.length/\x1<a.length)/\a.length-x5<a.length-x3/\(cq a c x1:Int)=(cq a c x1:Int)/\(x1:Int)=(x1:Int)/\false=List.all (List.range x5) (gK a c x1)/\(x3:Int)+(1:Int)=(x5:Int)/\a=a/\c=c)) (ae ((x3:Int)+(1:Int))/\∃x6:Nat,(x6<=a.length/\x1<a.length)/\a.length-x6<a.length-x3/\(cq a c x1:Int)=(cq a c x1:Int)/\(x1:Int)=(x1:Int)/\false=List.all (List.range x6) (gK a c x1)/\(x3:Int)+(1:Int)=(x6:Int)/\a=a/\c=c)) (ab (List.all (List.range x3) (gK a c x1)) ((((0:Int)<=IntKind.wrap IntKind.u64 (x1:Int)/\IntKind.wrap IntKind.u64 (x1:Int)<=(62:Int))/\ae ((1:Int)*(2:Int) ^ (IntKind.wrap IntKind.u64 (x1:Int)).toNat))/\(IntKind.i64=IntKind.i64/\((0:Int)<=(cq a c x1:Int)/\(cq a c x1:Int)<=(9223372036854775807:Int))/\(0:Int)<=(1:Int)*(2:Int) ^ (IntKind.wrap IntKind.u64 (x1:Int)).toNat/\(1:Int)*(2:Int) ^ (IntKind.wrap IntKind.u64 (x1:Int)).toNat<=(9223372036854775807:Int))/\ae ((x1:Int)+(1:Int))/\∃x7:Nat,x7<=a.length/\a.length-x7<a.length-x1/\(↑((cq a c x1:Int).toNat ||| ((1:Int)*(2:Int) ^ (IntKind.wrap IntKind.u64 (x1:Int)).toNat).toNat):Int)=(cq a c x7:Int)/\(x1:Int)+(1:Int)=(x7:Int)/\a=a/\c=c) (ae ((x1:Int)+(1:Int))/\∃x8:Nat,x8<=a.length/\a.length-x8<a.length-x1/\(cq a c x1:Int)=(cq a c x8:Int)/\(x1:Int)+(1:Int)=(x8:Int)/\a=a/\c=c))) ((cq a c x1:Int)=am a c/\True),by kernel_rfl,?_⟩
 simp only[aH]at ξ⊢;obtain⟨h1,h2,hl⟩:=ξ;obtain⟨n1,n2,ha⟩:=bT h1;obtain⟨_,_,hc⟩:=bT h2;refine⟨⟨0,by omega,rfl,rfl⟩,fun i hi=>⟨fun h=>⟨⟨0,by omega,rfl,rfl⟩,fun j ⟨hj,_⟩=>⟨fun h3=>⟨fun e=>?_,fun e=>?_⟩,fun h3=>⟨fun e=>?_,fun e=>?_⟩⟩⟩,fun h=>?_⟩⟩
 ·have r1:=(ha i (by omega)).1
  have r2:=(hc i (by omega)).1
  have r3:=(ha j (by omega)).1
  refine⟨by omega,by omega,by omega,by omega,fun e2=>⟨by omega,by omega,by omega,by omega,by omega,j+1,by omega,by omega,?_,by omega⟩,fun e2=>⟨by omega,j+1,by omega,by omega,?_,by omega⟩⟩
  ·rw[BR,Ct,e,Ac,List.all_cons,List.all_nil,B9,gK]
   have:en c i j=en a i j:=e2
   rw[AY this,Ac];rfl
  ·rw[BR,Ct,e,Ac,List.all_cons,List.all_nil,B9,gK]
   have:¬ en c i j=en a i j:=e2
   rw[AZ this,Bq]
 ·refine⟨by omega,j+1,by omega,by omega,?_,by omega⟩
  rw[BR,Ct,e,Bq]
 ·have ml:=Lr a c (i:=i) (n:=a.length) (by omega) n2
  have p12:=pO (n:=i) (by omega)
  have pp:=BW (2 ^ i)
  have pn:(1*(2:Int) ^ i)=((2 ^ i:Nat):Int):=by rw[B8,Bv];rfl
  have wi:IntKind.u64.wrap (i:Int)=(i:Int):=KM (by omega)
  rw[wi,AP,pn];refine⟨by omega,by omega,by omega,i+1,by omega,by omega,?_,by omega⟩
  have:iL a c i=true:=by rw[iL,<-show j=a.length by omega];exact e
  rw[AP,Lq this]
 ·refine⟨by omega,i+1,by omega,by omega,?_,by omega⟩
  have:¬ iL a c i=true:=by rw[iL,<-show j=a.length by omega,e];decide
  rw[Do this]
 ·rw[show i=a.length by omega];rfl
def dH:Nat->Dc->Dc->Int->Int×Int
 |0,_,_,v=>(v,0)
 |k+1,a,c,v=>if 1<a.length then(if am a c=1 then(0,4)else dH k (quo a (av a (am a c))) (quo c (av a (am a c))) (v+1))else(v,0)
def bR(a c:Dc):Int×Int:=if bM a c=true then dH (a.length+1) a c 0 else(0,1)
def Dt:List AD->Option Post
 | [.agg [.rows .i64 a,.rows .i64 c]]=>some ⟨aD a/\aD c,.tup [.inl (.int .i64 (bR a c).1),.inl (.int .i64 (bR a c).2)],[]⟩
 |_=>none
def Ly(a:Dc)(c:Dc):Nat->Option Ann
 |0=>some (Ann.peel a.length ((Dc)×(Dc)×(Nat)×(Nat)) (fun x=>match x with|(A,D,v,k)=>⟨[(1,.c (.ptr 1 0)),(4,.c (.int .i64 ((v:Int))))],[(1,some (.box [.own 100,.own 101])),(100,some (.rows 0 62 2 .i64 A)),(101,some (.rows 0 62 2 .i64 D))]⟩) (fun x=>match x with|(A,D,v,k)=>dK A D/\A.length<k/\v+A.length<=12/\dH k A D (v:Int)=bR a c) (fun x=>match x with|(A,D,v,k)=>A.length) (fun _=>ak))
 |_=>none
theorem UK:Fits Tryz.prog 20 ⟨[],Dt⟩:=by
 refine ffv (Γ:=af [(36,⟨[],nO⟩),(59,⟨[],tS⟩),(60,⟨[],vU⟩)]) (aj rZ (aj Lv (aj Ol aG))) Tryz.func20 fun ds p h ξ=>?_
 unfold Dt at h;split at h<;>cases h
 rename_i a c
 refine⟨ah,Ly a c,((aD a/\aD c)/\True)/\ab (!bM a c) (((0:Int)=(bR a c).1/\(1:Int)=(bR a c).2/\True)/\True) (ab (decide ((1:Int)<(a.length:Int))) (((aM a=true/\aM c=true/\c.length=a.length)/\True)/\ab (am a c == (1:Int)) (((0:Int)=(bR a c).1/\(4:Int)=(bR a c).2/\True)/\True) (((cQ a (am a c)/\aM c=true/\c.length=a.length)/\True)/\ae ((0:Int)+(1:Int))/\∃x0:Dc×Dc×Nat×Nat,(dK x0.1 x0.2.1/\(x0.1).length<x0.2.2.2/\x0.2.2.1+(x0.1).length<=(12:Nat)/\dH x0.2.2.2 x0.1 x0.2.1 (x0.2.2.1:Int)=bR a c)/\(x0.1).length<a.length/\(1:Int)=(↑x0.2.2.1:Int)/\quo a (av a (am a c))=x0.1/\quo c (av a (am a c))=x0.2.1)) (((0:Int)=(bR a c).1/\(0:Int)=(bR a c).2/\True)/\True)/\∀x1:Dc×Dc×Nat×Nat,dK x1.1 x1.2.1/\(x1.1).length<x1.2.2.2/\x1.2.2.1+(x1.1).length<=(12:Nat)/\dH x1.2.2.2 x1.1 x1.2.1 (x1.2.2.1:Int)=bR a c->ab (decide ((1:Int)<(x1.1.length:Int))) (((aM x1.1=true/\aM x1.2.1=true/\x1.2.1.length=x1.1.length)/\True)/\ab (am x1.1 x1.2.1 == (1:Int)) (((0:Int)=(bR a c).1/\(4:Int)=(bR a c).2/\True)/\True) (((cQ x1.1 (am x1.1 x1.2.1)/\aM x1.2.1=true/\x1.2.1.length=x1.1.length)/\True)/\ae ((↑x1.2.2.1:Int)+(1:Int))/\∃x2:Dc×Dc×Nat×Nat,(dK x2.1 x2.2.1/\(x2.1).length<x2.2.2.2/\x2.2.2.1+(x2.1).length<=(12:Nat)/\dH x2.2.2.2 x2.1 x2.2.1 (x2.2.2.1:Int)=bR a c)/\(x2.1).length<(x1.1).length/\(↑x1.2.2.1:Int)+(1:Int)=(↑x2.2.2.1:Int)/\quo x1.1 (av x1.1 (am x1.1 x1.2.1))=x2.1/\quo x1.2.1 (av x1.1 (am x1.1 x1.2.1))=x2.2.1)) (((↑x1.2.2.1:Int)=(bR a c).1/\(0:Int)=(bR a c).2/\True)/\True)),by kernel_rfl,?_⟩
 simp only[aH]at ξ⊢;refine⟨ξ,fun h=>by rw[bR,AB (by rw[h];decide)];exact⟨rfl,rfl⟩,fun h=>?_⟩
 have B:=oD h
 have n2:=(bT B.1).2.1
 have e0:dH (a.length+1) a c 0=bR a c:=by rw[bR,AA h]
 refine⟨⟨fun h1=>⟨⟨B.1,B.2.1,B.2.2.1⟩,fun h2=>?_,fun h2=>⟨⟨oC B.1 c,B.2.1,B.2.2.1⟩,by omega,?_⟩⟩,fun h1=>?_⟩,fun⟨A,D,v,k⟩ ⟨hB,hk,hv,he⟩=>?_⟩
 ·rw[<-e0,dH,AA (by omega),AA h2];exact⟨rfl,rfl⟩
 ·have l1:=(iM B B.1 rfl).2
  have l2:=qq B (by omega) h2
  refine⟨(quo a (av a (am a c)),quo c (av a (am a c)),1,a.length),⟨jM B,?_,?_,?_⟩,?_,rfl,rfl,rfl⟩
  ·show(quo a (av a (am a c))).length<a.length;omega
  ·show 1+(quo a (av a (am a c))).length<=12;omega
  ·rw[<-e0,dH,AA (by omega),AB h2];rfl
  ·show(quo a (av a (am a c))).length<a.length;omega
 ·rw[<-e0,dH,AB (by omega)];exact⟨rfl,rfl⟩
 ·simp only at hB hk hv he⊢
  obtain⟨k,rfl⟩:∃j,k=j+1:=⟨k-1,by omega⟩
  refine⟨fun h1=>⟨⟨hB.1,hB.2.1,hB.2.2.1⟩,fun h2=>?_,fun h2=>⟨⟨oC hB.1 D,hB.2.1,hB.2.2.1⟩,by omega,?_⟩⟩,fun h1=>?_⟩
  ·rw[<-he,dH,AA (by omega),AA h2];exact⟨rfl,rfl⟩
  ·have l1:=(iM hB hB.1 rfl).2
   have l2:=qq hB (by omega) h2
   refine⟨(quo A (av A (am A D)),quo D (av A (am A D)),v+1,k),⟨jM hB,?_,?_,?_⟩,?_,rfl,rfl,rfl⟩
   ·show(quo A (av A (am A D))).length<k;omega
   ·show v+1+(quo A (av A (am A D))).length<=12;omega
   ·rw[<-he,dH,AA (by omega),AB h2];rfl
   ·show(quo A (av A (am A D))).length<A.length;omega
  ·rw[<-he,dH,AB (by omega)];exact⟨rfl,rfl⟩
def Dv:List AD->Option Post
 | [.agg [.rows .i64 a,.rows .i64 c]]=>some ⟨aD a/\aD c,.tup [.inl (.int .i64 (bR a c).1),.inl (.int .i64 (bR a c).2)],[]⟩
 |_=>none
def LA(a:Dc)(c:Dc):Nat->Option Ann
 |0=>some (Ann.peel a.length ((Dc)×(Dc)×(Nat)×(Nat)) (fun x=>match x with|(A,D,v,k)=>⟨[(1,.c (.ptr 1 0)),(4,.c (.int .i64 ((v:Int))))],[(1,some (.box [.own 100,.own 101])),(100,some (.rows 0 62 2 .i64 A)),(101,some (.rows 0 62 2 .i64 D))]⟩) (fun x=>match x with|(A,D,v,k)=>dK A D/\A.length<k/\v+A.length<=12/\dH k A D (v:Int)=bR a c) (fun x=>match x with|(A,D,v,k)=>A.length) (fun _=>ak))
 |_=>none
theorem UN:Fits Tryz.prog 21 ⟨[],Dv⟩:=by
 refine ffv (Γ:=af [(61,⟨[],sc⟩),(62,⟨[],Dq⟩),(63,⟨[],F7⟩)]) (aj Jq (aj UH (aj Yf aG))) Tryz.func21 fun ds p h ξ=>?_
 unfold Dv at h;split at h<;>cases h
 rename_i a c
 refine⟨ah,LA a c,((aD a/\aD c)/\True)/\ab (!bM a c) (((0:Int)=(bR a c).1/\(1:Int)=(bR a c).2/\True)/\True) (ab (decide ((1:Int)<(a.length:Int))) (((aM a=true/\aM c=true/\c.length=a.length)/\True)/\ab (am a c == (1:Int)) (((0:Int)=(bR a c).1/\(4:Int)=(bR a c).2/\True)/\True) (((cQ a (am a c)/\aM c=true/\c.length=a.length)/\True)/\ae ((0:Int)+(1:Int))/\∃x0:Dc×Dc×Nat×Nat,(dK x0.1 x0.2.1/\(x0.1).length<x0.2.2.2/\x0.2.2.1+(x0.1).length<=(12:Nat)/\dH x0.2.2.2 x0.1 x0.2.1 (x0.2.2.1:Int)=bR a c)/\(x0.1).length<a.length/\(1:Int)=(↑x0.2.2.1:Int)/\quo a (av a (am a c))=x0.1/\quo c (av a (am a c))=x0.2.1)) (((0:Int)=(bR a c).1/\(0:Int)=(bR a c).2/\True)/\True)/\∀x1:Dc×Dc×Nat×Nat,dK x1.1 x1.2.1/\(x1.1).length<x1.2.2.2/\x1.2.2.1+(x1.1).length<=(12:Nat)/\dH x1.2.2.2 x1.1 x1.2.1 (x1.2.2.1:Int)=bR a c->ab (decide ((1:Int)<(x1.1.length:Int))) (((aM x1.1=true/\aM x1.2.1=true/\x1.2.1.length=x1.1.length)/\True)/\ab (am x1.1 x1.2.1 == (1:Int)) (((0:Int)=(bR a c).1/\(4:Int)=(bR a c).2/\True)/\True) (((cQ x1.1 (am x1.1 x1.2.1)/\aM x1.2.1=true/\x1.2.1.length=x1.1.length)/\True)/\ae ((↑x1.2.2.1:Int)+(1:Int))/\∃x2:Dc×Dc×Nat×Nat,(dK x2.1 x2.2.1/\(x2.1).length<x2.2.2.2/\x2.2.2.1+(x2.1).length<=(12:Nat)/\dH x2.2.2.2 x2.1 x2.2.1 (x2.2.2.1:Int)=bR a c)/\(x2.1).length<(x1.1).length/\(↑x1.2.2.1:Int)+(1:Int)=(↑x2.2.2.1:Int)/\quo x1.1 (av x1.1 (am x1.1 x1.2.1))=x2.1/\quo x1.2.1 (av x1.1 (am x1.1 x1.2.1))=x2.2.1)) (((↑x1.2.2.1:Int)=(bR a c).1/\(0:Int)=(bR a c).2/\True)/\True)),by kernel_rfl,?_⟩
 simp only[aH]at ξ⊢;refine⟨ξ,fun h=>by rw[bR,AB (by rw[h];decide)];exact⟨rfl,rfl⟩,fun h=>?_⟩
 have B:=oD h
 have n2:=(bT B.1).2.1
 have e0:dH (a.length+1) a c 0=bR a c:=by rw[bR,AA h]
 refine⟨⟨fun h1=>⟨⟨B.1,B.2.1,B.2.2.1⟩,fun h2=>?_,fun h2=>⟨⟨oC B.1 c,B.2.1,B.2.2.1⟩,by omega,?_⟩⟩,fun h1=>?_⟩,fun⟨A,D,v,k⟩ ⟨hB,hk,hv,he⟩=>?_⟩
 ·rw[<-e0,dH,AA (by omega),AA h2];exact⟨rfl,rfl⟩
 ·have l1:=(iM B B.1 rfl).2
  have l2:=qq B (by omega) h2
  refine⟨(quo a (av a (am a c)),quo c (av a (am a c)),1,a.length),⟨jM B,?_,?_,?_⟩,?_,rfl,rfl,rfl⟩
  ·show(quo a (av a (am a c))).length<a.length;omega
  ·show 1+(quo a (av a (am a c))).length<=12;omega
  ·rw[<-e0,dH,AA (by omega),AB h2];rfl
  ·show(quo a (av a (am a c))).length<a.length;omega
 ·rw[<-e0,dH,AB (by omega)];exact⟨rfl,rfl⟩
 ·simp only at hB hk hv he⊢
  obtain⟨k,rfl⟩:∃j,k=j+1:=⟨k-1,by omega⟩
  refine⟨fun h1=>⟨⟨hB.1,hB.2.1,hB.2.2.1⟩,fun h2=>?_,fun h2=>⟨⟨oC hB.1 D,hB.2.1,hB.2.2.1⟩,by omega,?_⟩⟩,fun h1=>?_⟩
  ·rw[<-he,dH,AA (by omega),AA h2];exact⟨rfl,rfl⟩
  ·have l1:=(iM hB hB.1 rfl).2
   have l2:=qq hB (by omega) h2
   refine⟨(quo A (av A (am A D)),quo D (av A (am A D)),v+1,k),⟨jM hB,?_,?_,?_⟩,?_,rfl,rfl,rfl⟩
   ·show(quo A (av A (am A D))).length<k;omega
   ·show v+1+(quo A (av A (am A D))).length<=12;omega
   ·rw[<-he,dH,AA (by omega),AB h2];rfl
   ·show(quo A (av A (am A D))).length<A.length;omega
  ·rw[<-he,dH,AB (by omega)];exact⟨rfl,rfl⟩
end Go.Sx
