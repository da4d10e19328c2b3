/- MapQ -/
import Derived.Test.YtkmldclpaniclaaGreatTable
set_option linter.unusedSimpArgs false
set_option linter.unusedVariables false
set_option linter.defProp false
open Go Go.Proofs
namespace Go.Sx
def nc{α:Type}[DecidableEq α]:∀{a b:List α},a.Nodup->(∀x∈a,x∈b)->a.length<=b.length
 | [],_,_,_=>AT _
 |x::a,b,hn,hs=>by
  rw[Aa]at hn;have h1:x∈b:=hs x (by simp)
  have h2:=nc (b:=b.erase x) hn.2 λy hy=>(DY (by rintro rfl;exact hn.1 hy)).2 (hs y (by simp[hy]))
  rw[DC h1]at h2;have:=Cd h1
  simp only[AR];omega
def ints(n:Nat):D6:=(List.range n).map λi:Nat=>(i:Int)
def Gx:∀n,(ints n).Nodup
 |0=>by simp[ints]
 |n+1=>by
  have:ints (n+1)=ints n++[(n:Int)]:=by simp[ints,Br]
  rw[this,Ae];refine⟨Gx n,by simp,λa ha b hb=>?_⟩
  simp only[ints,AJ,Af]at ha;obtain⟨i,hi,rfl⟩:=ha;simp at hb
  omega
def pb{n:Nat}{x:Int}:x∈ints n↔0<=x/\x<(n:Int):=by
 simp only[ints,AJ,Af];exact⟨by rintro⟨i,hi,rfl⟩;omega,λh=>⟨x.toNat,by omega,by omega⟩⟩
def cH(l:D6):Bool:=decide ((∀x∈l,0<=x/\x<(l.length:Int))/\l.Nodup)
def Gy{l:D6}:cH l=true↔∀x:Int,0<=x->x<(l.length:Int)->x∈l:=by
 simp only[cH,Ai]
 constructor
 ·rintro⟨h1,h2⟩ x hx hx2
  refine Ax λhn=>?_
  have:=nc (a:=x::l) (b:=ints l.length) (Aa.2 ⟨hn,h2⟩) λy hy=>by
   rcases AG.1 hy with rfl|hy
   ·exact pb.2 ⟨hx,hx2⟩
   ·exact pb.2 (h1 y hy)
  simp[ints]at this
  omega
 ·intro h
  have sub:∀l':D6,l'.length<l.length->¬ ∀x∈ints l.length,x∈l':=λl' hl hc=>by
   have:=nc (Gx l.length) hc
   simp[ints]at this
   omega
  have hall:∀x∈ints l.length,x∈l:=λx hx=>h x (pb.1 hx).1 (pb.1 hx).2
  refine⟨λx hx=>Ax λhn=>?_,Ax λhn=>?_⟩
  ·refine sub (l.erase x) (by rw[DC hx];have:=Cd hx;omega) λy hy=>?_
   exact(DY (by rintro rfl;exact hn (pb.1 hy))).2 (hall y hy)
  ·rw[List.nodup_iff_count]at hn
   simp only[Classical.not_forall]at hn;obtain⟨a,ha⟩:=hn;have hm:a∈l:=List.count_pos_iff.1 (by omega)
   have hm2:a∈l.erase a:=List.count_pos_iff.1 (by rw[List.count_erase_self];omega)
   refine sub (l.erase a) (by rw[DC hm];have:=Cd hm;omega) λy hy=>?_
   by_cases hya:y=a
   ·rw[hya];exact hm2
   ·exact(DY hya).2 (hall y hy)
def bm(x:Int):D6->Int->Int
 | [],_=>-1
 |y::l,k=>if y=x then k else bm x l (k+1)
def Gz(x:Int):∀(l:D6) (k:Int),0<=k->decide (0<=bm x l k)=decide (x∈l)
 | [],k,_=>by simp[bm]
 |y::l,k,h=>by
  simp only[bm,AG];by_cases hp:y=x
  ·simp[hp,h]
  ·simp only[hp,Al,Gz x l (k+1) (by omega)]
   have:¬ x=y:=λe=>hp e.symm
   simp[this]
def vO:List AD->Option Post
 | [.c (.ints .i64 l),.c (.int .i64 n)]=>some ⟨l.length<=1099511627776,.c (.int .i64 (bm n l 0)),[]⟩
 |_=>none
def Ph(l:D6)(n:Int):Nat->Option Ann
 |0=>Q' λi=>⟨⟨[(0,D' l),(1,A' n),(5,A' i)],[]⟩,i<=l.length/\bm n l 0=bm n (l.drop i) (i:Int),l.length-i⟩
 |_=>none
def Pj:Fits Tryz.prog 211 ⟨[],vO⟩:=by
 refine ffv (Γ:=ah []) aN Tryz.func211 λds p h ξ=>?_
 unfold vO at h;split at h<;>cases h
 rename_i l n
 refine⟨aj,Ph l n,(∃x0:Nat,(x0<=l.length/\bm n l (0:Int)=bm n (List.drop x0 l) (x0:Int))/\l=l/\n=n/\(0:Int)=(x0:Int))/\∀x1:Nat,x1<=l.length/\bm n l (0:Int)=bm n (List.drop x1 l) (x1:Int)->ab (decide ((x1:Int)<(l.length:Int))) (ac (x1:Int) l.length/\ab (l.getD (x1:Int).toNat (0:Int) == n) ((x1:Int)=bm n l (0:Int)/\True) (ae ((x1:Int)+(1:Int))/\∃x2:Nat,(x2<=l.length/\bm n l (0:Int)=bm n (List.drop x2 l) (x2:Int))/\l.length-x2<l.length-x1/\l=l/\n=n/\(x1:Int)+(1:Int)=(x2:Int))) ((-1:Int)=bm n l (0:Int)/\True),by kernel_rfl,?_⟩
 simp only[aO]at ξ⊢;refine⟨⟨0,⟨by omega,rfl⟩,rfl⟩,λi ⟨hi,he⟩=>⟨λh=>?_,λh=>?_⟩⟩
 ·rw[drop_cons' l 0 i (by omega)]at he
  simp only[bm]at he;refine⟨by omega,λh1=>?_,λh1=>⟨by omega,i+1,⟨by omega,?_⟩,by omega,by omega⟩⟩
  ·rw[he,AA h1]
  ·rw[he,AB h1];simp
 ·rw[he,BE (by omega)];rfl
def vQ:List AD->Option Post
 | [.c (.ints .i64 l),.c (.int .i64 n)]=>some ⟨l.length<=1099511627776,.c (.bool (decide (n∈l))),[]⟩
 |_=>none
def Pl:Fits Tryz.prog 182 ⟨[],vQ⟩:=by
 refine ffv (Γ:=ah [(211,⟨[],vO⟩)]) (aq Pj aN) Tryz.func182 λds p h ξ=>?_
 unfold vQ at h;split at h<;>cases h
 rename_i l n
 refine⟨aj,ar,(l.length<=(1099511627776:Nat)/\True)/\decide ((0:Int)<=bm n l (0:Int))=decide (n∈l)/\True,by kernel_rfl,?_⟩
 simp only[aO]at ξ⊢;exact⟨ξ,Gz n l 0 (by omega)⟩
def vS:List AD->Option Post
 | [.c (.ints .i64 l)]=>some ⟨l.length<=1099511627776,.c (.bool (decide (1<=(l.length:Int)/\(l.length:Int)<=12)&&cH l)),[]⟩
 |_=>none
def Pm(l:D6):Nat->Option Ann
 |0=>Q' λi=>⟨⟨[(0,D' l),(3,A' l.length),(4,A' i)],[]⟩,(i<=l.length/\∀x:Int,0<=x->x<(i:Int)->x∈l),l.length-i⟩
 |_=>none
def Po:Fits Tryz.prog 131 ⟨[],vS⟩:=by
 refine ffv (Γ:=ah [(71,⟨[],sJ⟩),(182,⟨[],vQ⟩)]) (aq Kx (aq Pl aN)) Tryz.func131 λds p h ξ=>?_
 unfold vS at h;split at h<;>cases h
 rename_i l
 refine⟨aj,Pm l,(True/\True)/\ab (!decide ((1:Int)<=(l.length:Int)/\(l.length:Int)<=(12:Int))) (false=(decide ((1:Int)<=(l.length:Int)/\(l.length:Int)<=(12:Int))&&cH l)/\True) ((∃x0:Nat,(x0<=l.length/\∀(x:Int),(0:Int)<=x->x<(x0:Int)->x∈l)/\l=l/\(l.length:Int)=(l.length:Int)/\(0:Int)=(x0:Int))/\∀x1:Nat,(x1<=l.length/\∀(x:Int),(0:Int)<=x->x<(x1:Int)->x∈l)->ab (decide ((x1:Int)<(l.length:Int))) ((l.length<=(1099511627776:Nat)/\True)/\ab (!decide ((x1:Int)∈l)) (false=(decide ((1:Int)<=(l.length:Int)/\(l.length:Int)<=(12:Int))&&cH l)/\True) (ae ((x1:Int)+(1:Int))/\∃x2:Nat,(x2<=l.length/\∀(x:Int),(0:Int)<=x->x<(x2:Int)->x∈l)/\l.length-x2<l.length-x1/\l=l/\(l.length:Int)=(l.length:Int)/\(x1:Int)+(1:Int)=(x2:Int))) (true=(decide ((1:Int)<=(l.length:Int)/\(l.length:Int)<=(12:Int))&&cH l)/\True)),by kernel_rfl,?_⟩
 simp only[aO]at ξ⊢;refine⟨λh=>by rw[Ad h];rfl,λh=>⟨⟨0,⟨by omega,λx a b=>by omega⟩,rfl⟩,λi ⟨hi,he⟩=>⟨λh2=>⟨ξ,λh3=>?_,λh3=>⟨by omega,i+1,⟨by omega,λx a b=>?_⟩,by omega,by omega⟩⟩,λh2=>?_⟩⟩⟩
 ·have:cH l=false:=by
   cases hb:cH l with
   |false=>rfl
   |true=>exact absurd (Gy.1 hb i (by omega) h2) h3
  rw[this,DZ]
 ·by_cases hx:x=(i:Int)
  ·rw[hx];exact h3
  ·exact he x a (by omega)
 ·rw[Ab h,Gy.2 λx a b=>he x a (by omega)];rfl
def fE(n:Nat)(l:D6):List Bool:=(List.range n).map λi:Nat=>decide ((i:Int)∈l)
def Pp(n:Nat)(l:D6):(fE n l).length=n:=by simp[fE]
def Pq(n:Nat)(l:D6)(k:Nat)(h:k<n):(fE n l).getD k false=decide ((k:Int)∈l):=by
 simp[fE,AM,h]
def ZB(n:Nat):fE n []=List.replicate n false:=by
 apply BY
 ·simp[fE]
 ·intro i h1 h2
  simp[fE]
def ZC(n:Nat)(l:D6)(k:Nat)(h:k<n):(fE n l).set k true=fE n (l++[(k:Int)]):=by
 apply BY
 ·simp[fE]
 ·intro i h1 h2
  simp only[fE,List.getElem_set,List.getElem_map,List.getElem_range,AH,Ar];by_cases hk:k=i
  ·subst hk;simp
  ·have:¬ (i:Int)=(k:Int):=by omega
   simp[hk,this]
def GD:List AD->Option Post
 | [.c (.ints .i64 l)]=>some ⟨l.length<=1099511627776,.c (.bool (cH l)),[]⟩
 |_=>none
def Pr(l:D6):Nat->Option Ann
 |0=>Q' λi=>⟨⟨[(0,D' l),(3,J' 8),(9,D' l),(10,A' l.length),(11,A' i)],[(8,some (.bools 4 (fE l.length (l.take i))))]⟩,(i<=l.length/\(∀x∈l.take i,0<=x/\x<(l.length:Int))/\(l.take i).Nodup),l.length-i⟩
 |_=>none
def ZF:Fits Tryz.prog 208 ⟨[],GD⟩:=by
 refine ffv (Γ:=ah [(73,⟨[],qh⟩)]) (aq yP aN) Tryz.func208 λds p h ξ=>?_
 unfold GD at h;split at h<;>cases h
 rename_i l
 refine⟨aj,Pr l,((0:Int)<=(l.length:Int)/\(l.length:Int)<=(l.length:Int)/\au ((l.length:Int).toNat))/\(∃x0:Nat,(x0<=l.length/\(∀(x:Int),x∈List.take x0 l->(0:Int)<=x/\x<(l.length:Int))/\List.Nodup (List.take x0 l))/\l=l/\l=l/\(l.length:Int)=(l.length:Int)/\(0:Int)=(x0:Int)/\List.replicate ((l.length:Int).toNat) false=fE l.length (List.take x0 l))/\∀x1:Nat,x1<=l.length/\(∀(x:Int),x∈List.take x1 l->(0:Int)<=x/\x<(l.length:Int))/\List.Nodup (List.take x1 l)->ab (decide ((x1:Int)<(l.length:Int))) (ac (x1:Int) l.length/\ae ((l.length:Int)-(1:Int))/\(True/\True)/\ab (!decide ((0:Int)<=l.getD (x1:Int).toNat (0:Int)/\l.getD (x1:Int).toNat (0:Int)<=(l.length:Int)-(1:Int))) (false=cH l/\True) (ac (l.getD (x1:Int).toNat (0:Int)) ((fE l.length (List.take x1 l)).length)/\ab ((fE l.length (List.take x1 l)).getD ((l.getD (x1:Int).toNat (0:Int)).toNat) false) (false=cH l/\True) (ac (l.getD (x1:Int).toNat (0:Int)) ((fE l.length (List.take x1 l)).length)/\ae ((x1:Int)+(1:Int))/\∃x2:Nat,(x2<=l.length/\(∀(x:Int),x∈List.take x2 l->(0:Int)<=x/\x<(l.length:Int))/\List.Nodup (List.take x2 l))/\l.length-x2<l.length-x1/\l=l/\l=l/\(l.length:Int)=(l.length:Int)/\(x1:Int)+(1:Int)=(x2:Int)/\List.set (fE l.length (List.take x1 l)) ((l.getD (x1:Int).toNat (0:Int)).toNat) true=fE l.length (List.take x2 l)))) (true=cH l/\True),by kernel_rfl,?_⟩
 simp only[aO]at ξ⊢;refine⟨by omega,⟨0,⟨by omega,by simp,by simp⟩,rfl,(ZB _).symm⟩,λi ⟨hi,h1,h2⟩=>⟨λh=>⟨by omega,by omega,λh3=>?_,λh3=>⟨?_,λh4=>?_,λh4=>⟨?_,by omega,i+1,⟨by omega,λx hx=>?_,?_⟩,by omega,by omega,?_⟩⟩⟩,λh=>?_⟩⟩
 ·exact(Ad λe=>h3 (by have:=e.1 _ (bN l 0 i (by omega));omega)).symm
 ·rw[Pp];omega
 ·rw[Pq _ _ _ (by omega),Ai]at h4
  rw[show(((l.getD i 0).toNat:Nat):Int)=l.getD i 0 by omega]at h4
  refine(Ad λe=>?_).symm
  have h5:(l.take (i+1)).Nodup:=List.Pairwise.sublist (DX _ _) e.2
  rw[<-dZ l 0 i (by omega),Ae]at h5
  exact h5.2.2 _ h4 _ (by simp) rfl
 ·rw[Pp];omega
 ·rw[<-dZ l 0 i (by omega),AH]at hx
  rcases hx with hx|hx
  ·exact h1 x hx
  ·simp only[Ar]at hx
   rw[hx];omega
 ·rw[Pq _ _ _ (by omega),B4]at h4
  rw[show(((l.getD i 0).toNat:Nat):Int)=l.getD i 0 by omega]at h4
  rw[<-dZ l 0 i (by omega),Ae]
  refine⟨h2,by simp,λa ha b hb=>?_⟩
  simp only[Ar]at hb
  rintro rfl
  rw[hb]at ha;exact h4 ha
 ·rw[<-dZ l 0 i (by omega),ZC _ _ _ (by omega),show(((l.getD i 0).toNat:Nat):Int)=l.getD i 0 by omega]
 ·rw[AU (by omega)]at h1 h2
  exact(Ab ⟨h1,h2⟩).symm
def GF:List AD->Option Post
 | [.c (.ints .i64 l)]=>some ⟨l.length<=1099511627776,.c (.bool (!cH l)),[]⟩
 |_=>none
def ZI:Fits Tryz.prog 207 ⟨[],GF⟩:=by
 refine ffv (Γ:=ah [(208,⟨[],GD⟩)]) (aq ZF aN) Tryz.func207 λds p h ξ=>?_
 unfold GF at h;split at h<;>cases h
 rename_i l
 refine⟨aj,ar,(l.length<=(1099511627776:Nat)/\True)/\(!cH l)=!cH l/\True,by kernel_rfl,?_⟩
 simp only[aO]at ξ⊢;exact ξ
def GH:List AD->Option Post
 | [.c (.rows .i64 t)]=>some ⟨aJ t,.c (.bool (t.all cH)),[]⟩
 |_=>none
def ZL:Fits Tryz.prog 146 ⟨[],GH⟩:=by
 refine ffv (Γ:=ah [(204,⟨[],yW⟩),(207,⟨[],GF⟩)]) (aq Um (aq ZI aN)) Tryz.func146 λds p h ξ=>?_
 unfold GH at h;split at h<;>cases h
 rename_i t
 refine⟨aj,ar,((t.length<=(1099511627776:Nat)/\∀(x:D6),x∈t->x.length<=(1099511627776:Nat))/\True)/\(!List.any t λ(x:D6)=>!cH x)=List.all t cH/\True,by kernel_rfl,?_⟩
 simp only[aO]at ξ⊢;refine⟨⟨ξ.1,ξ.2⟩,?_⟩
 rw[Dw,Bool.not_not]
def cI{α:Type}(n:Nat)(q:Nat->Option α):Nat->Option α
 |0=>none
 |k+1=>(q (n-(k+1))).or (cI n q k)
def lR{α:Type}(n:Nat)(q:Nat->Option α)(i:Nat)(h:i<n):cI n q (n-i)=(q i).or (cI n q (n-(i+1))):=by
 rw[show n-i=(n-(i+1))+1 by omega,cI,show n-(n-(i+1)+1)=i by omega]
def en(t:D7)(x y:Nat):Int:=(t.getD x []).getD y 0
def bw:D6->D6->Bool
 |_,[]=>false
 | [],_::_=>true
 |x::a,y::b=>if x=y then bw a b else decide (x<y)
def GJ:∀a:D6,bw a a=false
 | []=>rfl
 |x::a=>by rw[bw,AA rfl];exact GJ a
def Pv:∀a b:D6,bw a b=false->bw b a=false->a=b
 | [],[],_,_=>rfl
 | [],_::_,h,_=>by simp[bw]at h
 |_::_,[],_,h=>by simp[bw]at h
 |x::a,y::b,h,k=>by
  by_cases e:x=y
  ·subst e
   rw[bw,AA rfl]at h k;rw[Pv a b h k]
  ·rw[bw,AB e]at h
   rw[bw,AB (AN e)]at k;simp at h k
   omega
def GK:∀a b c:D6,bw a b=true->bw b c=true->bw a c=true
 |_,_,[],_,h=>by cases ‹D6›<;>simp[bw]at h
 |_,[],_::_,h,_=>by cases ‹D6›<;>simp[bw]at h
 | [],_::_,_::_,_,_=>rfl
 |x::a,y::b,z::c,h,k=>by
  rw[bw]at h k⊢;by_cases e:x=y
  ·subst e
   rw[AA rfl]at h;by_cases f:x=z
   ·subst f
    rw[AA rfl]at k⊢;exact GK a b c h k
   ·rw[AB f]at k⊢
    exact k
  ·rw[AB e]at h
   by_cases f:y=z
   ·subst f
    rw[AB e];exact h
   ·rw[AB f]at k
    simp at h k
    rw[AB (by omega)]
    simp;omega
def de:D7->D6->Nat
 | [],_=>0
 |k::K,m=>if bw k m=true then de K m+1 else 0
def Pw:∀(K:D7) (m:D6),de K m<=K.length
 | [],_=>AE _
 |k::K,m=>by
  rw[de];split
  ·exact C8 (Pw K m)
  ·exact AT _
def GL:∀(K:D7) (m:D6) (i:Nat),(∀j,j<i->bw (K.getD j []) m=true)->i<=K.length->(∀h:i<K.length,bw (K.getD i []) m=false)->de K m=i
 | [],_,i,_,h,_=>by simp at h;subst h;rfl
 |k::K,m,0,_,_,h=>by
  have:=h (by simp)
  have h2:bw k m=false:=this
  rw[de,AB (by rw[h2];simp)]
 |k::K,m,i+1,a,b,c=>by
  have h0:bw k m=true:=a 0 (by omega)
  rw[de,AA h0,GL K m i (λj hj=>a (j+1) (by omega)) (by simpa using b) (λh=>c (by simpa using h))]
def gt(K:D7)(m:D6):D7 :=
 if de K m<K.length/\K.getD (de K m) []=m then K else K.take (de K m)++m::K.drop (de K m)
def GM(k:D6)(K:D7)(m:D6):gt (k::K) m=if bw k m=true then k::gt K m else if k=m then k::K else m::k::K:=by
 by_cases h:bw k m=true
 ·rw[AA h,gt,gt,de,AA h]
  simp only[AR,Ch,Nat.add_lt_add_iff_right,List.take_succ_cons,List.drop_succ_cons,Bk];split<;>rfl
 ·rw[AB h,gt,de,AB h]
  by_cases e:k=m
  ·simp[e]
  ·simp[e]
def GN:∀(K:D7) (m x:D6),x∈gt K m↔x=m\/x∈K
 | [],m,x=>by simp[gt,de]
 |k::K,m,x=>by
  rw[GM];split
  ·rw[AG,GN K m x,AG]
   constructor
   ·rintro(h|h|h)<;>simp[h]
   ·rintro(h|h|h)<;>simp[h]
  ·split
   ·rename_i e
    subst e;simp
   ·simp
def Px:∀(K:D7) (m:D6),(gt K m).length<=K.length+1
 | [],m=>by simp[gt,de]
 |k::K,m=>by
  rw[GM];have:=Px K m
  split
  ·simp only[AR];omega
  ·split<;>simp
def fO(K:D7):Prop:=K.Pairwise λa b=>bw a b=true
def Py:∀(K:D7) (m:D6),fO K->fO (gt K m)
 | [],m,_=>by simp[gt,de,fO]
 |k::K,m,h=>by
  rw[GM];obtain⟨h1,h2⟩:=CQ.1 h;split
  ·rename_i e
   exact CQ.2 ⟨λx hx=>by
    rcases(GN K m x).1 hx with rfl|hx
    ·exact e
    ·exact h1 x hx,Py K m h2⟩
  ·rename_i e
   split
   ·exact h
   ·rename_i ne
    have lt:bw m k=true:=by
     cases q:bw m k
     ·exact absurd (Pv k m (by simpa using e) q) ne
     ·rfl
    refine CQ.2 ⟨λx hx=>?_,h⟩
    rcases AG.1 hx with rfl|hx
    ·exact lt
    ·exact GK _ _ _ lt (h1 x hx)
def qR{K:D7}(h:fO K):K.Nodup:=h.imp fun {a b} hab e=>by
 subst e;rw[GJ]at hab;cases hab
def aY(M:D7):Nat->D7
 |0=>[]
 |i+1=>gt (aY M i) (M.getD i [])
def aW(M:D7):D7:=aY M M.length
def Pz(M:D7):∀i,fO (aY M i)
 |0=>List.Pairwise.nil
 |i+1=>Py _ _ (Pz M i)
def GO(M:D7):∀i,(aY M i).length<=i
 |0=>AE _
 |i+1=>Ao (Px _ _) (C8 (GO M i))
def GP(M:D7)(x:D6):∀i,x∈aY M i↔∃j,j<i/\x=M.getD j []
 |0=>by simp[aY]
 |i+1=>by
  rw[aY,GN,GP M x i]
  constructor
  ·rintro(h|⟨j,h1,h2⟩)
   ·exact⟨i,by omega,h⟩
   ·exact⟨j,by omega,h2⟩
  ·rintro⟨j,h1,h2⟩
   by_cases e:j=i
   ·subst e;exact .inl h2
   ·exact .inr ⟨j,by omega,h2⟩
def eH:D7->D6->Nat
 | [],_=>0
 |k::K,m=>if k=m then 0 else eH K m+1
def kP:∀{K:D7} {m:D6},m∈K->eH K m<K.length/\K.getD (eH K m) []=m
 |k::K,m,h=>by
  rw[eH];split
  ·rename_i e;exact⟨by simp,e⟩
  ·rename_i e
   have:=kP (K:=K) (m:=m) (by rcases AG.1 h with rfl|h;exact absurd rfl e;exact h)
   exact⟨by simpa using this.1,by simpa using this.2⟩
def qS:∀{K:D7} {m:D6} (i:Nat),(∀j,j<i->K.getD j []≠m)->i<K.length->K.getD i []=m->eH K m=i
 | [],_,i,_,h,_=>by simp at h
 |k::K,m,0,_,_,h=>by
  have:k=m:=h
  rw[eH,AA this]
 |k::K,m,i+1,a,b,c=>by
  have h0:k≠m:=a 0 (by omega)
  rw[eH,AB h0,qS (K:=K) i (λj hj=>a (j+1) (by omega)) (by simpa using b) (by simpa using c)]
def PA{K:D7}(h:K.Nodup){i:Nat}(hi:i<K.length):eH K (K.getD i [])=i:=by
 refine qS i (λj hj e=>?_) hi rfl
 rw[bM K [] j (by omega),bM K [] i hi]at e
 have:=(CM h).1 e
 omega
def bd(M:D7):D6:=M.map λm=>(eH (aW M) m:Int)
def pc{M:D7}{x:D6}:x∈aW M↔x∈M:=by
 rw[aW,GP]
 constructor
 ·rintro⟨j,h1,rfl⟩;exact bN M [] j h1
 ·intro h
  obtain⟨j,h1,h2⟩:=A7 h;exact⟨j,h1,by rw[bM M [] j h1];exact h2.symm⟩
def PB(M:D7):(aW M).length<=M.length:=GO M _
/- Sorting by insertion. -/
def dg(p:D6)(x:Int):Nat->Nat
 |0=>0
 |j+1=>if x<p.getD j 0 then dg p x j else j+1
def GQ(p:D6)(x:Int):∀j,dg p x j<=j
 |0=>AE _
 |j+1=>by rw[dg];split;exact Nat.le_succ_of_le (GQ p x j);exact AE _
def PD(p:D6)(x:Int):∀j i,dg p x j<=i->i<j->x<p.getD i 0
 |0,i,_,h=>by omega
 |j+1,i,h,k=>by
  rw[dg]at h;split at h
  ·rename_i e
   by_cases ei:i=j
   ·subst ei;exact e
   ·exact PD p x j i h (by omega)
  ·omega
def PE(p:D6)(x:Int):∀j,0<dg p x j->p.getD (dg p x j-1) 0<=x
 |0,h=>by simp[dg]at h
 |j+1,h=>by
  rw[dg]at h⊢;split
  ·rename_i e;rw[AA e]at h;exact PE p x j h
  ·rename_i e;simpa using e
def nf(p:D6)(x:Int):D6:=p.take (dg p x p.length)++x::p.drop (dg p x p.length)
def cB(l:D6):Nat->D6
 |0=>[]
 |i+1=>nf (cB l i) (l.getD i 0)
def lS(l:D6):D6:=cB l l.length
def ZM(p:D6)(x:Int):(nf p x).length=p.length+1:=by
 have:=GQ p x p.length
 simp[nf];omega
def vW(l:D6):∀i,(cB l i).length=i
 |0=>rfl
 |i+1=>by rw[cB,ZM,vW l i]
def ZN(p:D6)(x:Int):(nf p x).Perm (p++[x]):=by
 have h1:(p.take (dg p x p.length)++x::p.drop (dg p x p.length)).Perm (x::(p.take (dg p x p.length)++p.drop (dg p x p.length))):=Cp
 rw[CO]at h1;exact h1.trans (List.perm_append_comm (l₁:=[x]) (l₂:=p))
def PF(l:D6):∀i,i<=l.length->(cB l i).Perm (l.take i)
 |0,_=>by simp[cB]
 |i+1,h=>by
  rw[cB,<-dZ l 0 i (by omega)]
  exact(ZN _ _).trans ((PF l i (by omega)).append (List.Perm.refl _))
def PG(l:D6):(lS l).Perm l:=by
 have:=PF l l.length (AE _)
 rwa[Bs]at this
def ZO{p:D6}(h:p.Pairwise (·<=·))(x:Int):(nf p x).Pairwise (·<=·):=by
 have hb:=GQ p x p.length
 have hg:∀i j,i<j->j<p.length->p.getD i 0<=p.getD j 0:=λi j hij hj=>by
  rw[bM p 0 i (by omega),bM p 0 j hj]
  exact Bf.1 h i j (by omega) hj hij
 have lo:∀a∈p.take (dg p x p.length),a<=x:=λa ha=>by
  obtain⟨i,hi,rfl⟩:=A7 ha;rw[AP]at hi;have e:(p.take (dg p x p.length))[i]=p.getD i 0:=by rw[Da,bM p 0 i (by omega)]
  rw[e];have:=PE p x p.length (by omega)
  by_cases q:i=dg p x p.length-1
  ·subst q;exact this
  ·exact Int.le_trans (hg i (dg p x p.length-1) (by omega) (by omega)) this
 have up:∀a∈p.drop (dg p x p.length),x<=a:=λa ha=>by
  obtain⟨i,hi,rfl⟩:=A7 ha;rw[BD]at hi;have e:(p.drop (dg p x p.length))[i]=p.getD (dg p x p.length+i) 0:=by rw[List.getElem_drop,bM p 0 _ (by omega)]
  rw[e];have:=PD p x p.length (dg p x p.length+i) (by omega) (by omega)
  omega
 rw[nf,Cq];refine⟨h.sublist (DX _ _),CQ.2 ⟨up,h.sublist (List.drop_sublist _ _)⟩,λa ha b hb=>?_⟩
 rcases AG.1 hb with rfl|hb
 ·exact lo a ha
 ·exact Int.le_trans (lo a ha) (up b hb)
def GR(l:D6):∀i,(cB l i).Pairwise (·<=·)
 |0=>List.Pairwise.nil
 |i+1=>ZO (GR l i) _
def ZP{l l':D6}(h:l.Perm l'):lS l=lS l' :=
 DL (le:=(·<=·)) (λa b _ _ h1 h2=>Int.le_antisymm h1 h2) (GR l _) (GR l' _) (((PG l).trans h).trans (PG l').symm)
/- What tables and colours tell of an element. -/
def ic(t:D7)(x y:Nat):Int :=
 (if en t x y=(y:Int)then 1 else 0)+(if en t y x=(y:Int)then 2 else 0)+(if en t x y=(x:Int)then 4 else 0)+(if en t y x=(x:Int)then 8 else 0)
def gu(t:D7)(c:D6)(x y:Nat):Int :=
 ((c.getD y 0*64+c.getD (en t x y).toNat 0)*64+c.getD (en t y x).toNat 0)*16+ic t x y
def ie(t:D7)(x y:Nat):Nat->Nat
 |0=>0
 |z+1=>if en t y z=(x:Int)then ie t x y z+1 else ie t x y z
def f4(n:Nat)(t:D7)(x y:Nat):Nat:=ie t x y n
def dM(n:Nat)(t:D7)(c:D6)(x:Nat):D6 :=
 ax n (gu t c x)++ax n λy=>1099511627776+c.getD y 0*64+(f4 n t x y:Int)
def bp(n:Nat)(a:D8)(c:D6)(x:Nat):Nat->D6
 |0=>[c.getD x 0]
 |k+1=>bp n a c x k++lS (dM n (a.getD k []) c x)
def cC(n:Nat)(a:D8)(c:D6)(x:Nat):D6:=bp n a c x a.length
def GS(n:Nat)(a:D8)(c:D6)(x:Nat):∀k,(bp n a c x k).getD 0 0=c.getD x 0/\0<(bp n a c x k).length
 |0=>by simp[bp]
 |k+1=>by
  have:=GS n a c x k
  rw[bp];exact⟨by rw[getD_append_left' _ _ _ _ this.2];exact this.1,by simp;omega⟩
def am(n:Nat)(t:D7):Prop:=t.length=n/\∀x,x<n->(t.getD x []).length=n/\∀y,y<n->0<=en t x y/\en t x y<(n:Int)
def bK(n:Nat)(a:D8):Prop:=∀k,k<a.length->am n (a.getD k [])
structure IsoG (n:Nat) (a b:D8) (g:Nat->Nat):Prop where
 lt:∀x,x<n->g x<n
 inj:∀x y,x<n->y<n->g x=g y->x=y
 map:∀k x y,k<a.length->x<n->y<n->en (b.getD k []) (g x) (g y)=(g (en (a.getD k []) x y).toNat:Int)
def vX{n:Nat}{g:Nat->Nat}(lt:∀x,x<n->g x<n)(inj:∀x y,x<n->y<n->g x=g y->x=y):((List.range n).map g).Perm (List.range n):=by
 have nd:((List.range n).map g).Nodup:=by
  rw[List.Nodup,BZ];exact Bl.imp_of_mem fun {x y} hx hy hne e=>hne (inj x y (Af.1 hx) (Af.1 hy) e)
 refine(DN nd Bl).2 λy=>⟨λh=>?_,λh=>?_⟩
 ·obtain⟨x,hx,rfl⟩:=AJ.1 h
  exact Af.2 (lt x (Af.1 hx))
 ·refine Ax λhn=>?_
  have h1:(y::(List.range n).map g).Nodup:=Aa.2 ⟨hn,nd⟩
  have h2:=List.Nodup.length_le_of_subset h1 (l₂:=List.range n) (λz hz=>by
   rcases AG.1 hz with rfl|hz
   ·exact h
   ·obtain⟨x,hx,rfl⟩:=AJ.1 hz
    exact Af.2 (lt x (Af.1 hx)))
  simp at h2
  omega
def PH{n:Nat}{g:Nat->Nat}(lt:∀x,x<n->g x<n)(inj:∀x y,x<n->y<n->g x=g y->x=y)(F:Nat->Int):(ax n λy=>F (g y)).Perm (ax n F):=by
 have:=(vX lt inj).map F
 rwa[B7]at this
def GT(t:D7)(x y:Nat):∀n,ie t x y n=(List.range n).countP λz=>decide (en t y z=(x:Int))
 |0=>rfl
 |n+1=>by
  rw[ie,GT t x y n,Br,Ci];by_cases h:en t y n=(x:Int)<;>simp[h]
def qT{n:Nat}{g:Nat->Nat}(inj:∀x y,x<n->y<n->g x=g y->x=y){u:Int}(h0:0<=u)(h1:u<(n:Int)){y:Nat}(hy:y<n):((g u.toNat:Nat):Int)=(g y:Int)↔u=(y:Int):=by
 constructor
 ·intro e
  have:=inj u.toNat y (by omega) hy (by omega)
  omega
 ·intro e;rw[show u.toNat=y by omega]
section
variable {n:Nat} {a b:D8} {g:Nat->Nat}
def ZQ(h:IsoG n a b g)(ha:bK n a){k:Nat}(hk:k<a.length){x y:Nat}(hx:x<n)(hy:y<n):ic (b.getD k []) (g x) (g y)=ic (a.getD k []) x y:=by
 have hu:=((ha k hk).2 x hx).2 y hy
 have hv:=((ha k hk).2 y hy).2 x hx
 have e1:=h.map k x y hk hx hy
 have e2:=h.map k y x hk hy hx
 simp only[ic,e1,e2,qT h.inj hu.1 hu.2 hx,qT h.inj hu.1 hu.2 hy,qT h.inj hv.1 hv.2 hx,qT h.inj hv.1 hv.2 hy]
def ZR(h:IsoG n a b g)(ha:bK n a){c d:D6}(hc:∀x,x<n->c.getD x 0=d.getD (g x) 0){k:Nat}(hk:k<a.length){x y:Nat}(hx:x<n)(hy:y<n) :
  gu (b.getD k []) d (g x) (g y)=gu (a.getD k []) c x y:=by
 have hu:=((ha k hk).2 x hx).2 y hy
 have hv:=((ha k hk).2 y hy).2 x hx
 rw[gu,gu,ZQ h ha hk hx hy,h.map k x y hk hx hy,h.map k y x hk hy hx,An,An,<-hc y hy,<-hc _ (by omega),<-hc _ (by omega)]
def ZS(h:IsoG n a b g)(ha:bK n a){k:Nat}(hk:k<a.length){x y:Nat}(hx:x<n)(hy:y<n):f4 n (b.getD k []) (g x) (g y)=f4 n (a.getD k []) x y:=by
 rw[f4,f4,GT,GT,<-(vX h.lt h.inj).countP_eq,DD];refine List.countP_congr λz hz=>?_
 have hz:=Af.1 hz
 have hu:=((ha k hk).2 y hy).2 z hz
 simp only[Function.comp,Ai];rw[h.map k y z hk hy hz,qT h.inj hu.1 hu.2 hx]
def ZT(h:IsoG n a b g)(ha:bK n a){c d:D6}(hc:∀x,x<n->c.getD x 0=d.getD (g x) 0){k:Nat}(hk:k<a.length){x:Nat}(hx:x<n) :
  lS (dM n (b.getD k []) d (g x))=lS (dM n (a.getD k []) c x):=by
 refine ZP ?_
 rw[dM,dM];refine List.Perm.append ((PH h.lt h.inj _).symm.trans ?_) ((PH h.lt h.inj _).symm.trans ?_)
 ·rw[ot λy hy=>ZR h ha hc hk hx hy]
 ·rw[ot λy hy=>by rw[ZS h ha hk hx hy,<-hc y hy]]
def PI(h:IsoG n a b g)(ha:bK n a){c d:D6}(hc:∀x,x<n->c.getD x 0=d.getD (g x) 0){x:Nat}(hx:x<n):∀k,k<=a.length->bp n b d (g x) k=bp n a c x k
 |0,_=>by rw[bp,bp,hc x hx]
 |k+1,hk=>by rw[bp,bp,PI h ha hc hx k (by omega),ZT h ha hc (by omega) hx]
def ZU(h:IsoG n a b g)(ha:bK n a)(hab:b.length=a.length){c d:D6}(hc:∀x,x<n->c.getD x 0=d.getD (g x) 0){x:Nat}(hx:x<n):cC n b d (g x)=cC n a c x:=by
 rw[cC,cC,hab];exact PI h ha hc hx _ (AE _)
end
def aG(n:Nat)(a b:D8)(c d:D6):D7:=(List.range n).map (cC n a c)++(List.range n).map (cC n b d)
def cu(n:Nat)(cl:D6)(m:Nat):Nat->D6
 |0=>List.replicate m 0
 |i+1=>(cu n cl m i).set (cl.getD i 0).toNat ((cu n cl m i).getD (cl.getD i 0).toNat 0+if i<n then 1 else -1)
def kQ(n:Nat)(M:D7):Bool:=(cu n (bd M) (aW M).length M.length).all λx=>decide (x=0)
def nh(n:Nat)(a b:D8)(c d:D6):Option (D6×D6×Nat) :=
 let M:=aG n a b c d
 if kQ n M=true then some ((bd M).take n,(bd M).drop n,(aW M).length)else none
def ig(n:Nat)(a b:D8):Nat->Nat->D6->D6->Option (D6×D6)
 |0,_,_,_=>none
 |fuel+1,num,c,d=>match nh n a b c d with
  |none=>none
  |some (c',d',m)=>if m=num then some (c',d')else ig n a b fuel m c' d'
def qU(n:Nat)(a b:D8)(c d:D6):(aG n a b c d).length=2*n:=by simp[aG];omega
def PJ(n:Nat)(a b:D8)(c d:D6){x:Nat}(h:x<n):(aG n a b c d).getD x []=cC n a c x:=by
 rw[aG,getD_append_left' _ _ _ _ (by simpa using h)];simp[AM,h]
def PK(n:Nat)(a b:D8)(c d:D6){x:Nat}(h:x<n):(aG n a b c d).getD (n+x) []=cC n b d x:=by
 rw[aG,getD_append_right' _ _ _ _ (by simp)];simp[AM,h]
def pe(M:D7):(bd M).length=M.length:=by simp[bd]
def qV(M:D7){i:Nat}(h:i<M.length):(bd M).getD i 0=(eH (aW M) (M.getD i []):Int):=by
 rw[bd,lJ M _ [] 0 i h]
def GU(M:D7){i:Nat}(h:i<M.length):0<=(bd M).getD i 0/\(bd M).getD i 0<((aW M).length:Int):=by
 rw[qV M h];have:=(kP (pc.2 (bN M [] i h))).1
 omega
def ni(c d:D6)(m:Nat):Prop:=∀i,i<m->(i:Int)∈c++d
def GV{n:Nat}{a b:D8}{c d c' d':D6}{m:Nat}(h:nh n a b c d=some (c',d',m)) :
  c'.length=n/\d'.length=n/\m<=2*n/\ni c' d' m/\(∀x,x<n->0<=c'.getD x 0/\c'.getD x 0<(m:Int))/\∀x,x<n->0<=d'.getD x 0/\d'.getD x 0<(m:Int):=by
 unfold nh at h;dsimp only at h;split at h
 ·cases h
  have L:=qU n a b c d
  refine⟨by rw[AP,pe,L];omega,by rw[BD,pe,L];omega,by have:=PB (aG n a b c d);omega,λi hi=>?_,λx hx=>?_,λx hx=>?_⟩
  ·rw[CO]
   have h1:(aW (aG n a b c d)).getD i []∈aG n a b c d:=pc.1 (bN _ _ _ hi)
   obtain⟨j,hj,e⟩:=A7 h1;have h2:=qV _ hj
   rw[bM _ [] j hj,e,PA (K:=aW (aG n a b c d)) (qR (Pz _ _)) hi]at h2;rw[<-h2];exact bN _ _ _ (by rw[pe];exact hj)
  ·rw[qg _ _ _ _ hx]
   exact GU _ (by omega)
  ·rw[T9]
   exact GU _ (by omega)
 ·cases h
def ZV:∀(m:Nat) (l:D6),(∀i:Nat,i<m->(i:Int)∈l)->m<=l.length:=λm l h=>by
 have:=nc (Gx m) (b:=l) λx hx=>by
  obtain⟨h0,h1⟩:=pb.1 hx;have:=h x.toNat (by omega)
  rwa[Bj h0]at this
 simpa[ints]using this
def PN{n:Nat}{a b:D8}{c d:D6}{num:Nat}(hc:c.length=n)(hd:d.length=n)(h:ni c d num):num<=(aW (aG n a b c d)).length:=by
 have:=ZV num ((aW (aG n a b c d)).map λm=>m.getD 0 0) λi hi=>by
  rcases AH.1 (h i hi)with q|q
  ·obtain⟨x,hx,e⟩:=A7 q
   refine AJ.2 ⟨cC n a c x,pc.2 ?_,?_⟩
   ·rw[<-PJ n a b c d (by omega)];exact bN _ _ _ (by rw[qU];omega)
   ·rw[cC,(GS n a c x _).1,bM c 0 x hx,e]
  ·obtain⟨x,hx,e⟩:=A7 q
   refine AJ.2 ⟨cC n b d x,pc.2 ?_,?_⟩
   ·rw[<-PK n a b c d (by omega)];exact bN _ _ _ (by rw[qU];omega)
   ·rw[cC,(GS n b d x _).1,bM d 0 x hx,e]
 simpa using this
/- Counting. -/
def kR(n:Nat)(cl:D6)(m:Nat):∀i,(cu n cl m i).length=m
 |0=>by simp[cu]
 |i+1=>by rw[cu,Aj,kR n cl m i]
def PO(n:Nat)(cl:D6)(m:Nat)(hcl:∀i,i<cl.length->0<=cl.getD i 0/\cl.getD i 0<(m:Int)){q:Nat}(hq:q<m):∀i,i<=cl.length ->
  (cu n cl m i).getD q 0=((List.range i).countP λj=>decide (cl.getD j 0=(q:Int))&&decide (j<n):Nat)-(((List.range i).countP λj=>decide (cl.getD j 0=(q:Int))&&!decide (j<n):Nat):Int)
 |0,_=>by simp[cu,AM,hq]
 |i+1,hi=>by
  have ih:=PO n cl m hcl hq i (by omega)
  have hr:=hcl i (by omega)
  rw[cu,jb _ _ _ _ (by rw[kR];exact hq),Br,Ci,Ci]
  by_cases e:cl.getD i 0=(q:Int)
  ·rw[AA (by omega)]
   have:(cl.getD i 0).toNat=q:=by omega
   rw[this,ih];by_cases hn:i<n
   ·simp only[CC,Db,e,hn,AX,decide_true,C3,Dc,DZ,Al,Bw];omega
   ·simp only[CC,Db,e,hn,AX,decide_true,decide_false,Dd,C3,Dc,DZ,Al,Bw];omega
  ·rw[AB (by omega),ih]
   simp only[CC,Db,e,decide_false,DO,Bw,Al,Bg,AI]
def ZW{n:Nat}{a b:D8}{g:Nat->Nat}(h:IsoG n a b g)(ha:bK n a)(hab:b.length=a.length){c d:D6}(hc:∀x,x<n->c.getD x 0=d.getD (g x) 0) :
  kQ n (aG n a b c d)=true/\∀x,x<n->((bd (aG n a b c d)).take n).getD x 0=((bd (aG n a b c d)).drop n).getD (g x) 0:=by
 have L:=qU n a b c d
 have key:∀x,x<n->(bd (aG n a b c d)).getD x 0=(bd (aG n a b c d)).getD (n+g x) 0:=λx hx=>by
  rw[qV _ (by omega),qV _ (by have:=h.lt x hx;omega),PJ n a b c d hx,PK n a b c d (h.lt x hx),ZU h ha hab hc hx]
 refine⟨?_,λx hx=>?_⟩
 ·rw[kQ,Ac]
  intro v hv
  obtain⟨q,hq,rfl⟩:=A7 hv;rw[kR]at hq;rw[<-bM _ 0 q (by rw[kR];exact hq),Ai]
  have:=PO n (bd (aG n a b c d)) (aW (aG n a b c d)).length (λi hi=>GU _ (by rwa[pe]at hi)) hq (aG n a b c d).length (by rw[pe];exact AE _)
  rw[this,L,show 2*n=n+n by omega,List.range_add,Ci,Ci,DD,DD]
  have z1:(List.range n).countP (((λj=>decide ((bd (aG n a b c d)).getD j 0=(q:Int))&&decide (j<n))) ∘ λx=>n+x)=0:=by
   rw[C7];intro x hx;simp
  have z2:(List.range n).countP (λj=>decide ((bd (aG n a b c d)).getD j 0=(q:Int))&&!decide (j<n))=0:=by
   rw[C7];intro x hx;have:=Af.1 hx;simp;omega
  have z3:(List.range n).countP (((λj=>decide ((bd (aG n a b c d)).getD j 0=(q:Int))&&!decide (j<n))) ∘ λx=>n+x)=(List.range n).countP (λj=>decide ((bd (aG n a b c d)).getD j 0=(q:Int))&&decide (j<n)):=by
   rw[<-(vX h.lt h.inj).countP_eq,DD];refine List.countP_congr λx hx=>?_
   have hx:=Af.1 hx
   have k2:=key x hx
   simp only[Function.comp,hx,decide_true,C3,Ai,AO,<-k2,CY,B4,Nat.not_lt,Nat.le_add_right,Bi]
  rw[z1,z2,z3];omega
 ·rw[qg _ _ _ _ hx,T9];exact key x hx
def ZX{n:Nat}{a b:D8}{g:Nat->Nat}(h:IsoG n a b g)(ha:bK n a)(hab:b.length=a.length){c d:D6}(hc:∀x,x<n->c.getD x 0=d.getD (g x) 0) :
  ∃c' d' m,nh n a b c d=some (c',d',m)/\∀x,x<n->c'.getD x 0=d'.getD (g x) 0:=by
 obtain⟨h1,h2⟩:=ZW h ha hab hc;exact⟨_,_,_,by unfold nh;dsimp only;rw[if_pos h1],h2⟩
def PP{n:Nat}{a b:D8}{g:Nat->Nat}(h:IsoG n a b g)(ha:bK n a)(hab:b.length=a.length):∀(fuel num:Nat) (c d:D6),c.length=n->d.length=n->ni c d num->2*n<fuel+num->num<=2*n ->
  (∀x,x<n->c.getD x 0=d.getD (g x) 0)->∃c' d',ig n a b fuel num c d=some (c',d')/\∀x,x<n->c'.getD x 0=d'.getD (g x) 0
 |0,num,c,d,_,_,_,h1,h2,_=>by omega
 |fuel+1,num,c,d,hcl,hdl,hcov,h1,h2,hc=>by
  obtain⟨c',d',m,e,hc'⟩:=ZX h ha hab hc;obtain⟨l1,l2,l3,l4,_⟩:=GV e;rw[ig,e];simp only;by_cases hm:m=num
  ·rw[AA hm];exact⟨c',d',rfl,hc'⟩
  ·rw[AB hm]
   have hle:num<=m:=by
    have:=PN (n:=n) (a:=a) (b:=b) hcl hdl hcov
    unfold nh at e;dsimp only at e;split at e
    ·cases e;exact this
    ·cases e
   exact PP h ha hab fuel m c' d' l1 l2 l4 (by omega) l3 hc'
def gR(n:Nat)(a b:D8)(c d:D6):Option (D6×D6):=ig n a b (2*n+1) 0 c d
def vY{n:Nat}{a b:D8}{g:Nat->Nat}(h:IsoG n a b g)(ha:bK n a)(hab:b.length=a.length){c d:D6}(hcl:c.length=n)(hdl:d.length=n)(hc:∀x,x<n->c.getD x 0=d.getD (g x) 0) :
  ∃c' d',gR n a b c d=some (c',d')/\∀x,x<n->c'.getD x 0=d'.getD (g x) 0 :=
 PP h ha hab _ _ c d hcl hdl (λi hi=>by omega) (by omega) (by omega) hc
end Go.Sx
