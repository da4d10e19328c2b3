/- MapQ -/
import Derived.Test.YtkmldclpaniclaaGreatTable
set_option linter.unusedSimpArgs false
set_option linter.unusedVariables false
set_option linter.defProp false
open Go Go.Proofs
namespace Go.Sx
theorem jz{α:Type}[DecidableEq α]:∀{a b:List α},a.Nodup->(∀x∈a,x∈b)->a.length<=b.length
 | [],_,_,_=>AQ _
 |x::a,b,hn,hs=>by
  rw[AZ]at hn;have h1:x∈b:=hs x (by simp)
  have h2:=jz (b:=b.erase x) hn.2 fun y hy=>(DV (by rintro rfl;exact hn.1 hy)).2 (hs y (by simp[hy]))
  rw[DB h1]at h2;have:=CW h1
  simp only[AS];omega
def ints(n:Nat):D1:=(List.range n).map fun i:Nat=>(i:Int)
theorem Ep:∀n,(ints n).Nodup
 |0=>by simp[ints]
 |n+1=>by
  have:ints (n+1)=ints n++[(n:Int)]:=by simp[ints,Bo]
  rw[this,Ad];refine⟨Ep n,by simp,fun a ha b hb=>?_⟩
  simp only[ints,AH,Af]at ha;obtain⟨i,hi,rfl⟩:=ha;simp at hb
  omega
theorem oa{n:Nat}{x:Int}:x∈ints n↔0<=x/\x<(n:Int):=by
 simp only[ints,AH,Af];exact⟨by rintro⟨i,hi,rfl⟩;omega,fun h=>⟨x.toNat,by omega,by omega⟩⟩
def cP(l:D1):Bool:=decide ((∀x∈l,0<=x/\x<(l.length:Int))/\l.Nodup)
theorem Er{l:D1}:cP l=true↔∀x:Int,0<=x->x<(l.length:Int)->x∈l:=by
 simp only[cP,Ab]
 constructor
 ·rintro⟨h1,h2⟩ x hx hx2
  refine Av fun hn=>?_
  have:=jz (a:=x::l) (b:=ints l.length) (AZ.2 ⟨hn,h2⟩) fun y hy=>by
   rcases AG.1 hy with rfl|hy
   ·exact oa.2 ⟨hx,hx2⟩
   ·exact oa.2 (h1 y hy)
  simp[ints]at this
  omega
 ·intro h
  have sub:∀l':D1,l'.length<l.length->¬ ∀x∈ints l.length,x∈l':=fun l' hl hc=>by
   have:=jz (Ep l.length) hc
   simp[ints]at this
   omega
  have hall:∀x∈ints l.length,x∈l:=fun x hx=>h x (oa.1 hx).1 (oa.1 hx).2
  refine⟨fun x hx=>Av fun hn=>?_,Av fun hn=>?_⟩
  ·refine sub (l.erase x) (by rw[DB hx];have:=CW hx;omega) fun y hy=>?_
   exact(DV (by rintro rfl;exact hn (oa.1 hy))).2 (hall y hy)
  ·rw[List.nodup_iff_count]at hn
   simp only[Classical.not_forall]at hn;obtain⟨a,ha⟩:=hn;have hm:a∈l:=List.count_pos_iff.1 (by omega)
   have hm2:a∈l.erase a:=List.count_pos_iff.1 (by rw[List.count_erase_self];omega)
   refine sub (l.erase a) (by rw[DB hm];have:=CW hm;omega) fun y hy=>?_
   by_cases hya:y=a
   ·rw[hya];exact hm2
   ·exact(DV hya).2 (hall y hy)
def aY(x:Int):D1->Int->Int
 | [],_=>-1
 |y::l,k=>if y=x then k else aY x l (k+1)
theorem Es(x:Int):∀(l:D1) (k:Int),0<=k->decide (0<=aY x l k)=decide (x∈l)
 | [],k,_=>by simp[aY]
 |y::l,k,h=>by
  simp only[aY,AG];by_cases hp:y=x
  ·simp[hp,h]
  ·simp only[hp,Al,Es x l (k+1) (by omega)]
   have:¬ x=y:=fun e=>hp e.symm
   simp[this]
def Et:List AD->Option Post
 | [.c (.ints .i64 l),.c (.int .i64 n)]=>some ⟨l.length<=1099511627776,.c (.int .i64 (aY n l 0)),[]⟩
 |_=>none
def Mr(l:D1)(n:Int):Nat->Option Ann
 |0=>Q' fun i=>⟨⟨[(0,D' l),(1,A' n),(5,A' i)],[]⟩,i<=l.length/\aY n l 0=aY n (l.drop i) (i:Int),l.length-i⟩
 |_=>none
theorem Vw:Fits Tryz.prog 211 ⟨[],Et⟩:=by
 refine ffv (Γ:=ah []) aI Tryz.func211 fun ds p h ξ=>?_
 unfold Et at h;split at h<;>cases h
 rename_i l n
 refine⟨aj,Mr l n,(∃x0:Nat,(x0<=l.length/\aY n l (0:Int)=aY n (List.drop x0 l) (x0:Int))/\l=l/\n=n/\(0:Int)=(x0:Int))/\∀x1:Nat,x1<=l.length/\aY n l (0:Int)=aY n (List.drop x1 l) (x1:Int)->ab (decide ((x1:Int)<(l.length:Int))) (ac (x1:Int) l.length/\ab (l.getD (x1:Int).toNat (0:Int) == n) ((x1:Int)=aY n l (0:Int)/\True) (af ((x1:Int)+(1:Int))/\∃x2:Nat,(x2<=l.length/\aY n l (0:Int)=aY n (List.drop x2 l) (x2:Int))/\l.length-x2<l.length-x1/\l=l/\n=n/\(x1:Int)+(1:Int)=(x2:Int))) ((-1:Int)=aY n l (0:Int)/\True),by kernel_rfl,?_⟩
 simp only[aJ]at ξ⊢;refine⟨⟨0,⟨by omega,rfl⟩,rfl⟩,fun i ⟨hi,he⟩=>⟨fun h=>?_,fun h=>?_⟩⟩
 ·rw[drop_cons' l 0 i (by omega)]at he
  simp only[aY]at he;refine⟨by omega,fun h1=>?_,fun h1=>⟨by omega,i+1,⟨by omega,?_⟩,by omega,by omega⟩⟩
  ·rw[he,AA h1]
  ·rw[he,AB h1];simp
 ·rw[he,BF (by omega)];rfl
def tX:List AD->Option Post
 | [.c (.ints .i64 l),.c (.int .i64 n)]=>some ⟨l.length<=1099511627776,.c (.bool (decide (n∈l))),[]⟩
 |_=>none
theorem Mu:Fits Tryz.prog 182 ⟨[],tX⟩:=by
 refine ffv (Γ:=ah [(211,⟨[],Et⟩)]) (aw Vw aI) Tryz.func182 fun ds p h ξ=>?_
 unfold tX at h;split at h<;>cases h
 rename_i l n
 refine⟨aj,ar,(l.length<=(1099511627776:Nat)/\True)/\decide ((0:Int)<=aY n l (0:Int))=decide (n∈l)/\True,by kernel_rfl,?_⟩
 simp only[aJ]at ξ⊢;exact⟨ξ,Es n l 0 (by omega)⟩
def Ew:List AD->Option Post
 | [.c (.ints .i64 l)]=>some ⟨l.length<=1099511627776,.c (.bool (decide (1<=(l.length:Int)/\(l.length:Int)<=12)&&cP l)),[]⟩
 |_=>none
def Mv(l:D1):Nat->Option Ann
 |0=>Q' fun i=>⟨⟨[(0,D' l),(3,A' l.length),(4,A' i)],[]⟩,(i<=l.length/\∀x:Int,0<=x->x<(i:Int)->x∈l),l.length-i⟩
 |_=>none
theorem VB:Fits Tryz.prog 131 ⟨[],Ew⟩:=by
 refine ffv (Γ:=ah [(71,⟨[],wY⟩),(182,⟨[],tX⟩)]) (aw Q6 (aw Mu aI)) Tryz.func131 fun ds p h ξ=>?_
 unfold Ew at h;split at h<;>cases h
 rename_i l
 refine⟨aj,Mv l,(True/\True)/\ab (!decide ((1:Int)<=(l.length:Int)/\(l.length:Int)<=(12:Int))) (false=(decide ((1:Int)<=(l.length:Int)/\(l.length:Int)<=(12:Int))&&cP l)/\True) ((∃x0:Nat,(x0<=l.length/\∀(x:Int),(0:Int)<=x->x<(x0:Int)->x∈l)/\l=l/\(l.length:Int)=(l.length:Int)/\(0:Int)=(x0:Int))/\∀x1:Nat,(x1<=l.length/\∀(x:Int),(0:Int)<=x->x<(x1:Int)->x∈l)->ab (decide ((x1:Int)<(l.length:Int))) ((l.length<=(1099511627776:Nat)/\True)/\ab (!decide ((x1:Int)∈l)) (false=(decide ((1:Int)<=(l.length:Int)/\(l.length:Int)<=(12:Int))&&cP l)/\True) (af ((x1:Int)+(1:Int))/\∃x2:Nat,(x2<=l.length/\∀(x:Int),(0:Int)<=x->x<(x2:Int)->x∈l)/\l.length-x2<l.length-x1/\l=l/\(l.length:Int)=(l.length:Int)/\(x1:Int)+(1:Int)=(x2:Int))) (true=(decide ((1:Int)<=(l.length:Int)/\(l.length:Int)<=(12:Int))&&cP l)/\True)),by kernel_rfl,?_⟩
 simp only[aJ]at ξ⊢;refine⟨fun h=>by rw[Ae h];rfl,fun h=>⟨⟨0,⟨by omega,fun x a b=>by omega⟩,rfl⟩,fun i ⟨hi,he⟩=>⟨fun h2=>⟨ξ,fun h3=>?_,fun h3=>⟨by omega,i+1,⟨by omega,fun x a b=>?_⟩,by omega,by omega⟩⟩,fun h2=>?_⟩⟩⟩
 ·have:cP l=false:=by
   cases hb:cP l with
   |false=>rfl
   |true=>exact absurd (Er.1 hb i (by omega) h2) h3
  rw[this,DW]
 ·by_cases hx:x=(i:Int)
  ·rw[hx];exact h3
  ·exact he x a (by omega)
 ·rw[Aa h,Er.2 fun x a b=>he x a (by omega)];rfl
def fh(n:Nat)(l:D1):List Bool:=(List.range n).map fun i:Nat=>decide ((i:Int)∈l)
theorem Mx(n:Nat)(l:D1):(fh n l).length=n:=by simp[fh]
theorem My(n:Nat)(l:D1)(k:Nat)(h:k<n):(fh n l).getD k false=decide ((k:Int)∈l):=by
 simp[fh,AP,h]
theorem VC(n:Nat):fh n []=List.replicate n false:=by
 apply BP
 ·simp[fh]
 ·intro i h1 h2
  simp[fh]
theorem VD(n:Nat)(l:D1)(k:Nat)(h:k<n):(fh n l).set k true=fh n (l++[(k:Int)]):=by
 apply BP
 ·simp[fh]
 ·intro i h1 h2
  simp only[fh,List.getElem_set,List.getElem_map,List.getElem_range,AI,As];by_cases hk:k=i
  ·subst hk;simp
  ·have:¬ (i:Int)=(k:Int):=by omega
   simp[hk,this]
def Ey:List AD->Option Post
 | [.c (.ints .i64 l)]=>some ⟨l.length<=1099511627776,.c (.bool (cP l)),[]⟩
 |_=>none
def Mz(l:D1):Nat->Option Ann
 |0=>Q' fun i=>⟨⟨[(0,D' l),(3,J' 8),(9,D' l),(10,A' l.length),(11,A' i)],[(8,some (.bools 4 (fh l.length (l.take i))))]⟩,(i<=l.length/\(∀x∈l.take i,0<=x/\x<(l.length:Int))/\(l.take i).Nodup),l.length-i⟩
 |_=>none
theorem VG:Fits Tryz.prog 208 ⟨[],Ey⟩:=by
 refine ffv (Γ:=ah [(73,⟨[],rp⟩)]) (aw Is aI) Tryz.func208 fun ds p h ξ=>?_
 unfold Ey at h;split at h<;>cases h
 rename_i l
 refine⟨aj,Mz l,((0:Int)<=(l.length:Int)/\(l.length:Int)<=(l.length:Int)/\am ((l.length:Int).toNat))/\(∃x0:Nat,(x0<=l.length/\(∀(x:Int),x∈List.take x0 l->(0:Int)<=x/\x<(l.length:Int))/\List.Nodup (List.take x0 l))/\l=l/\l=l/\(l.length:Int)=(l.length:Int)/\(0:Int)=(x0:Int)/\List.replicate ((l.length:Int).toNat) false=fh l.length (List.take x0 l))/\∀x1:Nat,x1<=l.length/\(∀(x:Int),x∈List.take x1 l->(0:Int)<=x/\x<(l.length:Int))/\List.Nodup (List.take x1 l)->ab (decide ((x1:Int)<(l.length:Int))) (ac (x1:Int) l.length/\af ((l.length:Int)-(1:Int))/\(True/\True)/\ab (!decide ((0:Int)<=l.getD (x1:Int).toNat (0:Int)/\l.getD (x1:Int).toNat (0:Int)<=(l.length:Int)-(1:Int))) (false=cP l/\True) (ac (l.getD (x1:Int).toNat (0:Int)) ((fh l.length (List.take x1 l)).length)/\ab ((fh l.length (List.take x1 l)).getD ((l.getD (x1:Int).toNat (0:Int)).toNat) false) (false=cP l/\True) (ac (l.getD (x1:Int).toNat (0:Int)) ((fh l.length (List.take x1 l)).length)/\af ((x1:Int)+(1:Int))/\∃x2:Nat,(x2<=l.length/\(∀(x:Int),x∈List.take x2 l->(0:Int)<=x/\x<(l.length:Int))/\List.Nodup (List.take x2 l))/\l.length-x2<l.length-x1/\l=l/\l=l/\(l.length:Int)=(l.length:Int)/\(x1:Int)+(1:Int)=(x2:Int)/\List.set (fh l.length (List.take x1 l)) ((l.getD (x1:Int).toNat (0:Int)).toNat) true=fh l.length (List.take x2 l)))) (true=cP l/\True),by kernel_rfl,?_⟩
 simp only[aJ]at ξ⊢;refine⟨by omega,⟨0,⟨by omega,by simp,by simp⟩,rfl,(VC _).symm⟩,fun i ⟨hi,h1,h2⟩=>⟨fun h=>⟨by omega,by omega,fun h3=>?_,fun h3=>⟨?_,fun h4=>?_,fun h4=>⟨?_,by omega,i+1,⟨by omega,fun x hx=>?_,?_⟩,by omega,by omega,?_⟩⟩⟩,fun h=>?_⟩⟩
 ·exact(Ae fun e=>h3 (by have:=e.1 _ (bI l 0 i (by omega));omega)).symm
 ·rw[Mx];omega
 ·rw[My _ _ _ (by omega),Ab]at h4
  rw[show(((l.getD i 0).toNat:Nat):Int)=l.getD i 0 by omega]at h4
  refine(Ae fun e=>?_).symm
  have h5:(l.take (i+1)).Nodup:=List.Pairwise.sublist (C9 _ _) e.2
  rw[<-dZ l 0 i (by omega),Ad]at h5
  exact h5.2.2 _ h4 _ (by simp) rfl
 ·rw[Mx];omega
 ·rw[<-dZ l 0 i (by omega),AI]at hx
  rcases hx with hx|hx
  ·exact h1 x hx
  ·simp only[As]at hx
   rw[hx];omega
 ·rw[My _ _ _ (by omega),Bq]at h4
  rw[show(((l.getD i 0).toNat:Nat):Int)=l.getD i 0 by omega]at h4
  rw[<-dZ l 0 i (by omega),Ad]
  refine⟨h2,by simp,fun a ha b hb=>?_⟩
  simp only[As]at hb
  rintro rfl
  rw[hb]at ha;exact h4 ha
 ·rw[<-dZ l 0 i (by omega),VD _ _ _ (by omega),show(((l.getD i 0).toNat:Nat):Int)=l.getD i 0 by omega]
 ·rw[AU (by omega)]at h1 h2
  exact(Aa ⟨h1,h2⟩).symm
def EA:List AD->Option Post
 | [.c (.ints .i64 l)]=>some ⟨l.length<=1099511627776,.c (.bool (!cP l)),[]⟩
 |_=>none
theorem VJ:Fits Tryz.prog 207 ⟨[],EA⟩:=by
 refine ffv (Γ:=ah [(208,⟨[],Ey⟩)]) (aw VG aI) Tryz.func207 fun ds p h ξ=>?_
 unfold EA at h;split at h<;>cases h
 rename_i l
 refine⟨aj,ar,(l.length<=(1099511627776:Nat)/\True)/\(!cP l)=!cP l/\True,by kernel_rfl,?_⟩
 simp only[aJ]at ξ⊢;exact ξ
def EC:List AD->Option Post
 | [.c (.rows .i64 t)]=>some ⟨aS t,.c (.bool (t.all cP)),[]⟩
 |_=>none
theorem VM:Fits Tryz.prog 146 ⟨[],EC⟩:=by
 refine ffv (Γ:=ah [(204,⟨[],w9⟩),(207,⟨[],EA⟩)]) (aw Ri (aw VJ aI)) Tryz.func146 fun ds p h ξ=>?_
 unfold EC at h;split at h<;>cases h
 rename_i t
 refine⟨aj,ar,((t.length<=(1099511627776:Nat)/\∀(x:D1),x∈t->x.length<=(1099511627776:Nat))/\True)/\(!List.any t fun(x:D1)=>!cP x)=List.all t cP/\True,by kernel_rfl,?_⟩
 simp only[aJ]at ξ⊢;refine⟨⟨ξ.1,ξ.2⟩,?_⟩
 rw[Du,Bool.not_not]
def dU{α:Type}(n:Nat)(q:Nat->Option α):Nat->Option α
 |0=>none
 |k+1=>(q (n-(k+1))).or (dU n q k)
theorem ub{α:Type}(n:Nat)(q:Nat->Option α)(i:Nat)(h:i<n):dU n q (n-i)=(q i).or (dU n q (n-(i+1))):=by
 rw[show n-i=(n-(i+1))+1 by omega,dU,show n-(n-(i+1)+1)=i by omega]
def en(t:D2)(x y:Nat):Int:=(t.getD x []).getD y 0
def bh:D1->D1->Bool
 |_,[]=>false
 | [],_::_=>true
 |x::a,y::b=>if x=y then bh a b else decide (x<y)
theorem EE:∀a:D1,bh a a=false
 | []=>rfl
 |x::a=>by rw[bh,AA rfl];exact EE a
theorem MG:∀a b:D1,bh a b=false->bh b a=false->a=b
 | [],[],_,_=>rfl
 | [],_::_,h,_=>by simp[bh]at h
 |_::_,[],_,h=>by simp[bh]at h
 |x::a,y::b,h,k=>by
  by_cases e:x=y
  ·subst e
   rw[bh,AA rfl]at h k;rw[MG a b h k]
  ·rw[bh,AB e]at h
   rw[bh,AB (AM e)]at k;simp at h k
   omega
theorem EF:∀a b c:D1,bh a b=true->bh b c=true->bh a c=true
 |_,_,[],_,h=>by cases ‹D1›<;>simp[bh]at h
 |_,[],_::_,h,_=>by cases ‹D1›<;>simp[bh]at h
 | [],_::_,_::_,_,_=>rfl
 |x::a,y::b,z::c,h,k=>by
  rw[bh]at h k⊢;by_cases e:x=y
  ·subst e
   rw[AA rfl]at h;by_cases f:x=z
   ·subst f
    rw[AA rfl]at k⊢;exact EF a b c h k
   ·rw[AB f]at k⊢
    exact k
  ·rw[AB e]at h
   by_cases f:y=z
   ·subst f
    rw[AB e];exact h
   ·rw[AB f]at k
    simp at h k
    rw[AB (by omega)]
    simp;omega
def cK:D2->D1->Nat
 | [],_=>0
 |k::K,m=>if bh k m=true then cK K m+1 else 0
theorem EG:∀(K:D2) (m:D1),cK K m<=K.length
 | [],_=>AE _
 |k::K,m=>by
  rw[cK];split
  ·exact C0 (EG K m)
  ·exact AQ _
theorem EH:∀(K:D2) (m:D1) (i:Nat),(∀j,j<i->bh (K.getD j []) m=true)->i<=K.length->(∀h:i<K.length,bh (K.getD i []) m=false)->cK K m=i
 | [],_,i,_,h,_=>by simp at h;subst h;rfl
 |k::K,m,0,_,_,h=>by
  have:=h (by simp)
  have h2:bh k m=false:=this
  rw[cK,AB (by rw[h2];simp)]
 |k::K,m,i+1,a,b,c=>by
  have h0:bh k m=true:=a 0 (by omega)
  rw[cK,AA h0,EH K m i (fun j hj=>a (j+1) (by omega)) (by simpa using b) (fun h=>c (by simpa using h))]
def fB(K:D2)(m:D1):D2 :=
 if cK K m<K.length/\K.getD (cK K m) []=m then K else K.take (cK K m)++m::K.drop (cK K m)
theorem EI(k:D1)(K:D2)(m:D1):fB (k::K) m=if bh k m=true then k::fB K m else if k=m then k::K else m::k::K:=by
 by_cases h:bh k m=true
 ·rw[AA h,fB,fB,cK,AA h]
  simp only[AS,CX,Nat.add_lt_add_iff_right,List.take_succ_cons,List.drop_succ_cons,Bj];split<;>rfl
 ·rw[AB h,fB,cK,AB h]
  by_cases e:k=m
  ·simp[e]
  ·simp[e]
theorem uc:∀(K:D2) (m x:D1),x∈fB K m↔x=m\/x∈K
 | [],m,x=>by simp[fB,cK]
 |k::K,m,x=>by
  rw[EI];split
  ·rw[AG,uc K m x,AG]
   constructor
   ·rintro(h|h|h)<;>simp[h]
   ·rintro(h|h|h)<;>simp[h]
  ·split
   ·rename_i e
    subst e;simp
   ·simp
theorem MH:∀(K:D2) (m:D1),(fB K m).length<=K.length+1
 | [],m=>by simp[fB,cK]
 |k::K,m=>by
  rw[EI];have:=MH K m
  split
  ·simp only[AS];omega
  ·split<;>simp
def eX(K:D2):Prop:=K.Pairwise fun a b=>bh a b=true
theorem EJ:∀(K:D2) (m:D1),eX K->eX (fB K m)
 | [],m,_=>by simp[fB,cK,eX]
 |k::K,m,h=>by
  rw[EI];obtain⟨h1,h2⟩:=CG.1 h;split
  ·rename_i e
   exact CG.2 ⟨fun x hx=>by
    rcases(uc K m x).1 hx with rfl|hx
    ·exact e
    ·exact h1 x hx,EJ K m h2⟩
  ·rename_i e
   split
   ·exact h
   ·rename_i ne
    have lt:bh m k=true:=by
     cases q:bh m k
     ·exact absurd (MG k m (by simpa using e) q) ne
     ·rfl
    refine CG.2 ⟨fun x hx=>?_,h⟩
    rcases AG.1 hx with rfl|hx
    ·exact lt
    ·exact EF _ _ _ lt (h1 x hx)
theorem oc{K:D2}(h:eX K):K.Nodup:=h.imp fun {a b} hab e=>by
 subst e;rw[EE]at hab;cases hab
def aP(M:D2):Nat->D2
 |0=>[]
 |i+1=>fB (aP M i) (M.getD i [])
def aN(M:D2):D2:=aP M M.length
theorem MJ(M:D2):∀i,eX (aP M i)
 |0=>List.Pairwise.nil
 |i+1=>EJ _ _ (MJ M i)
theorem EK(M:D2):∀i,(aP M i).length<=i
 |0=>AE _
 |i+1=>Ar (MH _ _) (C0 (EK M i))
theorem EL(M:D2)(x:D1):∀i,x∈aP M i↔∃j,j<i/\x=M.getD j []
 |0=>by simp[aP]
 |i+1=>by
  rw[aP,uc,EL M x i]
  constructor
  ·rintro(h|⟨j,h1,h2⟩)
   ·exact⟨i,by omega,h⟩
   ·exact⟨j,by omega,h2⟩
  ·rintro⟨j,h1,h2⟩
   by_cases e:j=i
   ·subst e;exact .inl h2
   ·exact .inr ⟨j,by omega,h2⟩
def d6:D2->D1->Nat
 | [],_=>0
 |k::K,m=>if k=m then 0 else d6 K m+1
theorem j9:∀{K:D2} {m:D1},m∈K->d6 K m<K.length/\K.getD (d6 K m) []=m
 |k::K,m,h=>by
  rw[d6];split
  ·rename_i e;exact⟨by simp,e⟩
  ·rename_i e
   have:=j9 (K:=K) (m:=m) (by rcases AG.1 h with rfl|h;exact absurd rfl e;exact h)
   exact⟨by simpa using this.1,by simpa using this.2⟩
theorem pQ:∀{K:D2} {m:D1} (i:Nat),(∀j,j<i->K.getD j []≠m)->i<K.length->K.getD i []=m->d6 K m=i
 | [],_,i,_,h,_=>by simp at h
 |k::K,m,0,_,_,h=>by
  have:k=m:=h
  rw[d6,AA this]
 |k::K,m,i+1,a,b,c=>by
  have h0:k≠m:=a 0 (by omega)
  rw[d6,AB h0,pQ (K:=K) i (fun j hj=>a (j+1) (by omega)) (by simpa using b) (by simpa using c)]
theorem MK{K:D2}(h:K.Nodup){i:Nat}(hi:i<K.length):d6 K (K.getD i [])=i:=by
 refine pQ i (fun j hj e=>?_) hi rfl
 rw[bv K [] j (by omega),bv K [] i hi]at e
 have:=(CH h).1 e
 omega
def aW(M:D2):D1:=M.map fun m=>(d6 (aN M) m:Int)
theorem oe{M:D2}{x:D1}:x∈aN M↔x∈M:=by
 rw[aN,EL]
 constructor
 ·rintro⟨j,h1,rfl⟩;exact bI M [] j h1
 ·intro h
  obtain⟨j,h1,h2⟩:=Aw h;exact⟨j,h1,by rw[bv M [] j h1];exact h2.symm⟩
theorem MM(M:D2):(aN M).length<=M.length:=EK M _
/- Sorting by insertion. -/
def cV(p:D1)(x:Int):Nat->Nat
 |0=>0
 |j+1=>if x<p.getD j 0 then cV p x j else j+1
theorem EM(p:D1)(x:Int):∀j,cV p x j<=j
 |0=>AE _
 |j+1=>by rw[cV];split;exact Nat.le_succ_of_le (EM p x j);exact AE _
theorem MN(p:D1)(x:Int):∀j i,cV p x j<=i->i<j->x<p.getD i 0
 |0,i,_,h=>by omega
 |j+1,i,h,k=>by
  rw[cV]at h;split at h
  ·rename_i e
   by_cases ei:i=j
   ·subst ei;exact e
   ·exact MN p x j i h (by omega)
  ·omega
theorem MP(p:D1)(x:Int):∀j,0<cV p x j->p.getD (cV p x j-1) 0<=x
 |0,h=>by simp[cV]at h
 |j+1,h=>by
  rw[cV]at h⊢;split
  ·rename_i e;rw[AA e]at h;exact MP p x j h
  ·rename_i e;simpa using e
def mA(p:D1)(x:Int):D1:=p.take (cV p x p.length)++x::p.drop (cV p x p.length)
def cd(l:D1):Nat->D1
 |0=>[]
 |i+1=>mA (cd l i) (l.getD i 0)
def kY(l:D1):D1:=cd l l.length
theorem VN(p:D1)(x:Int):(mA p x).length=p.length+1:=by
 have:=EM p x p.length
 simp[mA];omega
theorem ud(l:D1):∀i,(cd l i).length=i
 |0=>rfl
 |i+1=>by rw[cd,VN,ud l i]
theorem VO(p:D1)(x:Int):(mA p x).Perm (p++[x]):=by
 have h1:(p.take (cV p x p.length)++x::p.drop (cV p x p.length)).Perm (x::(p.take (cV p x p.length)++p.drop (cV p x p.length))):=Cj
 rw[CF]at h1;exact h1.trans (List.perm_append_comm (l₁:=[x]) (l₂:=p))
theorem MQ(l:D1):∀i,i<=l.length->(cd l i).Perm (l.take i)
 |0,_=>by simp[cd]
 |i+1,h=>by
  rw[cd,<-dZ l 0 i (by omega)]
  exact(VO _ _).trans ((MQ l i (by omega)).append (List.Perm.refl _))
theorem MT(l:D1):(kY l).Perm l:=by
 have:=MQ l l.length (AE _)
 rwa[Bh]at this
theorem VP{p:D1}(h:p.Pairwise (·<=·))(x:Int):(mA p x).Pairwise (·<=·):=by
 have hb:=EM p x p.length
 have hg:∀i j,i<j->j<p.length->p.getD i 0<=p.getD j 0:=fun i j hij hj=>by
  rw[bv p 0 i (by omega),bv p 0 j hj]
  exact BD.1 h i j (by omega) hj hij
 have lo:∀a∈p.take (cV p x p.length),a<=x:=fun a ha=>by
  obtain⟨i,hi,rfl⟩:=Aw ha;rw[AT]at hi;have e:(p.take (cV p x p.length))[i]=p.getD i 0:=by rw[DX,bv p 0 i (by omega)]
  rw[e];have:=MP p x p.length (by omega)
  by_cases q:i=cV p x p.length-1
  ·subst q;exact this
  ·exact Int.le_trans (hg i (cV p x p.length-1) (by omega) (by omega)) this
 have up:∀a∈p.drop (cV p x p.length),x<=a:=fun a ha=>by
  obtain⟨i,hi,rfl⟩:=Aw ha;rw[BG]at hi;have e:(p.drop (cV p x p.length))[i]=p.getD (cV p x p.length+i) 0:=by rw[List.getElem_drop,bv p 0 _ (by omega)]
  rw[e];have:=MN p x p.length (cV p x p.length+i) (by omega) (by omega)
  omega
 rw[mA,Ck];refine⟨h.sublist (C9 _ _),CG.2 ⟨up,h.sublist (List.drop_sublist _ _)⟩,fun a ha b hb=>?_⟩
 rcases AG.1 hb with rfl|hb
 ·exact lo a ha
 ·exact Int.le_trans (lo a ha) (up b hb)
theorem EN(l:D1):∀i,(cd l i).Pairwise (·<=·)
 |0=>List.Pairwise.nil
 |i+1=>VP (EN l i) _
theorem VQ{l l':D1}(h:l.Perm l'):kY l=kY l' :=
 DI (le:=(·<=·)) (fun a b _ _ h1 h2=>Int.le_antisymm h1 h2) (EN l _) (EN l' _) (((MT l).trans h).trans (MT l').symm)
/- What tables and colours tell of an element. -/
def gT(t:D2)(x y:Nat):Int :=
 (if en t x y=(y:Int)then 1 else 0)+(if en t y x=(y:Int)then 2 else 0)+(if en t x y=(x:Int)then 4 else 0)+(if en t y x=(x:Int)then 8 else 0)
def f5(t:D2)(c:D1)(x y:Nat):Int :=
 ((c.getD y 0*64+c.getD (en t x y).toNat 0)*64+c.getD (en t y x).toNat 0)*16+gT t x y
def gU(t:D2)(x y:Nat):Nat->Nat
 |0=>0
 |z+1=>if en t y z=(x:Int)then gU t x y z+1 else gU t x y z
def fO(n:Nat)(t:D2)(x y:Nat):Nat:=gU t x y n
def dq(n:Nat)(t:D2)(c:D1)(x:Nat):D1 :=
 au n (f5 t c x)++au n fun y=>1099511627776+c.getD y 0*64+(fO n t x y:Int)
def a8(n:Nat)(a:D3)(c:D1)(x:Nat):Nat->D1
 |0=>[c.getD x 0]
 |k+1=>a8 n a c x k++kY (dq n (a.getD k []) c x)
def ce(n:Nat)(a:D3)(c:D1)(x:Nat):D1:=a8 n a c x a.length
theorem EO(n:Nat)(a:D3)(c:D1)(x:Nat):∀k,(a8 n a c x k).getD 0 0=c.getD x 0/\0<(a8 n a c x k).length
 |0=>by simp[a8]
 |k+1=>by
  have:=EO n a c x k
  rw[a8];exact⟨by rw[getD_append_left' _ _ _ _ this.2];exact this.1,by simp;omega⟩
def aA(n:Nat)(t:D2):Prop:=t.length=n/\∀x,x<n->(t.getD x []).length=n/\∀y,y<n->0<=en t x y/\en t x y<(n:Int)
def bH(n:Nat)(a:D3):Prop:=∀k,k<a.length->aA n (a.getD k [])
structure IsoG (n:Nat) (a b:D3) (g:Nat->Nat):Prop where
 lt:∀x,x<n->g x<n
 inj:∀x y,x<n->y<n->g x=g y->x=y
 map:∀k x y,k<a.length->x<n->y<n->en (b.getD k []) (g x) (g y)=(g (en (a.getD k []) x y).toNat:Int)
theorem ue{n:Nat}{g:Nat->Nat}(lt:∀x,x<n->g x<n)(inj:∀x y,x<n->y<n->g x=g y->x=y):((List.range n).map g).Perm (List.range n):=by
 have nd:((List.range n).map g).Nodup:=by
  rw[List.Nodup,BE];exact Bb.imp_of_mem fun {x y} hx hy hne e=>hne (inj x y (Af.1 hx) (Af.1 hy) e)
 refine(DK nd Bb).2 fun y=>⟨fun h=>?_,fun h=>?_⟩
 ·obtain⟨x,hx,rfl⟩:=AH.1 h
  exact Af.2 (lt x (Af.1 hx))
 ·refine Av fun hn=>?_
  have h1:(y::(List.range n).map g).Nodup:=AZ.2 ⟨hn,nd⟩
  have h2:=List.Nodup.length_le_of_subset h1 (l₂:=List.range n) (fun z hz=>by
   rcases AG.1 hz with rfl|hz
   ·exact h
   ·obtain⟨x,hx,rfl⟩:=AH.1 hz
    exact Af.2 (lt x (Af.1 hx)))
  simp at h2
  omega
theorem MU{n:Nat}{g:Nat->Nat}(lt:∀x,x<n->g x<n)(inj:∀x y,x<n->y<n->g x=g y->x=y)(F:Nat->Int):(au n fun y=>F (g y)).Perm (au n F):=by
 have:=(ue lt inj).map F
 rwa[Bw]at this
theorem EP(t:D2)(x y:Nat):∀n,gU t x y n=(List.range n).countP fun z=>decide (en t y z=(x:Int))
 |0=>rfl
 |n+1=>by
  rw[gU,EP t x y n,Bo,Ce];by_cases h:en t y n=(x:Int)<;>simp[h]
theorem pR{n:Nat}{g:Nat->Nat}(inj:∀x y,x<n->y<n->g x=g y->x=y){u:Int}(h0:0<=u)(h1:u<(n:Int)){y:Nat}(hy:y<n):((g u.toNat:Nat):Int)=(g y:Int)↔u=(y:Int):=by
 constructor
 ·intro e
  have:=inj u.toNat y (by omega) hy (by omega)
  omega
 ·intro e;rw[show u.toNat=y by omega]
section
variable {n:Nat} {a b:D3} {g:Nat->Nat}
theorem VR(h:IsoG n a b g)(ha:bH n a){k:Nat}(hk:k<a.length){x y:Nat}(hx:x<n)(hy:y<n):gT (b.getD k []) (g x) (g y)=gT (a.getD k []) x y:=by
 have hu:=((ha k hk).2 x hx).2 y hy
 have hv:=((ha k hk).2 y hy).2 x hx
 have e1:=h.map k x y hk hx hy
 have e2:=h.map k y x hk hy hx
 simp only[gT,e1,e2,pR h.inj hu.1 hu.2 hx,pR h.inj hu.1 hu.2 hy,pR h.inj hv.1 hv.2 hx,pR h.inj hv.1 hv.2 hy]
theorem VS(h:IsoG n a b g)(ha:bH n a){c d:D1}(hc:∀x,x<n->c.getD x 0=d.getD (g x) 0){k:Nat}(hk:k<a.length){x y:Nat}(hx:x<n)(hy:y<n) :
  f5 (b.getD k []) d (g x) (g y)=f5 (a.getD k []) c x y:=by
 have hu:=((ha k hk).2 x hx).2 y hy
 have hv:=((ha k hk).2 y hy).2 x hx
 rw[f5,f5,VR h ha hk hx hy,h.map k x y hk hx hy,h.map k y x hk hy hx,Am,Am,<-hc y hy,<-hc _ (by omega),<-hc _ (by omega)]
theorem VT(h:IsoG n a b g)(ha:bH n a){k:Nat}(hk:k<a.length){x y:Nat}(hx:x<n)(hy:y<n):fO n (b.getD k []) (g x) (g y)=fO n (a.getD k []) x y:=by
 rw[fO,fO,EP,EP,<-(ue h.lt h.inj).countP_eq,DC];refine List.countP_congr fun z hz=>?_
 have hz:=Af.1 hz
 have hu:=((ha k hk).2 y hy).2 z hz
 simp only[Function.comp,Ab];rw[h.map k y z hk hy hz,pR h.inj hu.1 hu.2 hx]
theorem VU(h:IsoG n a b g)(ha:bH n a){c d:D1}(hc:∀x,x<n->c.getD x 0=d.getD (g x) 0){k:Nat}(hk:k<a.length){x:Nat}(hx:x<n) :
  kY (dq n (b.getD k []) d (g x))=kY (dq n (a.getD k []) c x):=by
 refine VQ ?_
 rw[dq,dq];refine List.Perm.append ((MU h.lt h.inj _).symm.trans ?_) ((MU h.lt h.inj _).symm.trans ?_)
 ·rw[nB fun y hy=>VS h ha hc hk hx hy]
 ·rw[nB fun y hy=>by rw[VT h ha hk hx hy,<-hc y hy]]
theorem MV(h:IsoG n a b g)(ha:bH n a){c d:D1}(hc:∀x,x<n->c.getD x 0=d.getD (g x) 0){x:Nat}(hx:x<n):∀k,k<=a.length->a8 n b d (g x) k=a8 n a c x k
 |0,_=>by rw[a8,a8,hc x hx]
 |k+1,hk=>by rw[a8,a8,MV h ha hc hx k (by omega),VU h ha hc (by omega) hx]
theorem VV(h:IsoG n a b g)(ha:bH n a)(hab:b.length=a.length){c d:D1}(hc:∀x,x<n->c.getD x 0=d.getD (g x) 0){x:Nat}(hx:x<n):ce n b d (g x)=ce n a c x:=by
 rw[ce,ce,hab];exact MV h ha hc hx _ (AE _)
end
def ay(n:Nat)(a b:D3)(c d:D1):D2:=(List.range n).map (ce n a c)++(List.range n).map (ce n b d)
def b7(n:Nat)(cl:D1)(m:Nat):Nat->D1
 |0=>List.replicate m 0
 |i+1=>(b7 n cl m i).set (cl.getD i 0).toNat ((b7 n cl m i).getD (cl.getD i 0).toNat 0+if i<n then 1 else -1)
def ka(n:Nat)(M:D2):Bool:=(b7 n (aW M) (aN M).length M.length).all fun x=>decide (x=0)
def mB(n:Nat)(a b:D3)(c d:D1):Option (D1×D1×Nat) :=
 let M:=ay n a b c d
 if ka n M=true then some ((aW M).take n,(aW M).drop n,(aN M).length)else none
def gV(n:Nat)(a b:D3):Nat->Nat->D1->D1->Option (D1×D1)
 |0,_,_,_=>none
 |fuel+1,num,c,d=>match mB n a b c d with
  |none=>none
  |some (c',d',m)=>if m=num then some (c',d')else gV n a b fuel m c' d'
theorem pS(n:Nat)(a b:D3)(c d:D1):(ay n a b c d).length=2*n:=by simp[ay];omega
theorem MY(n:Nat)(a b:D3)(c d:D1){x:Nat}(h:x<n):(ay n a b c d).getD x []=ce n a c x:=by
 rw[ay,getD_append_left' _ _ _ _ (by simpa using h)];simp[AP,h]
theorem MZ(n:Nat)(a b:D3)(c d:D1){x:Nat}(h:x<n):(ay n a b c d).getD (n+x) []=ce n b d x:=by
 rw[ay,getD_append_right' _ _ _ _ (by simp)];simp[AP,h]
theorem og(M:D2):(aW M).length=M.length:=by simp[aW]
theorem pT(M:D2){i:Nat}(h:i<M.length):(aW M).getD i 0=(d6 (aN M) (M.getD i []):Int):=by
 rw[aW,jT M _ [] 0 i h]
theorem EQ(M:D2){i:Nat}(h:i<M.length):0<=(aW M).getD i 0/\(aW M).getD i 0<((aN M).length:Int):=by
 rw[pT M h];have:=(j9 (oe.2 (bI M [] i h))).1
 omega
def mC(c d:D1)(m:Nat):Prop:=∀i,i<m->(i:Int)∈c++d
theorem ER{n:Nat}{a b:D3}{c d c' d':D1}{m:Nat}(h:mB n a b c d=some (c',d',m)) :
  c'.length=n/\d'.length=n/\m<=2*n/\mC c' d' m/\(∀x,x<n->0<=c'.getD x 0/\c'.getD x 0<(m:Int))/\∀x,x<n->0<=d'.getD x 0/\d'.getD x 0<(m:Int):=by
 unfold mB at h;dsimp only at h;split at h
 ·cases h
  have L:=pS n a b c d
  refine⟨by rw[AT,og,L];omega,by rw[BG,og,L];omega,by have:=MM (ay n a b c d);omega,fun i hi=>?_,fun x hx=>?_,fun x hx=>?_⟩
  ·rw[CF]
   have h1:(aN (ay n a b c d)).getD i []∈ay n a b c d:=oe.1 (bI _ _ _ hi)
   obtain⟨j,hj,e⟩:=Aw h1;have h2:=pT _ hj
   rw[bv _ [] j hj,e,MK (K:=aN (ay n a b c d)) (oc (MJ _ _)) hi]at h2;rw[<-h2];exact bI _ _ _ (by rw[og];exact hj)
  ·rw[pj _ _ _ _ hx]
   exact EQ _ (by omega)
  ·rw[Q3]
   exact EQ _ (by omega)
 ·cases h
theorem VW:∀(m:Nat) (l:D1),(∀i:Nat,i<m->(i:Int)∈l)->m<=l.length:=fun m l h=>by
 have:=jz (Ep m) (b:=l) fun x hx=>by
  obtain⟨h0,h1⟩:=oa.1 hx;have:=h x.toNat (by omega)
  rwa[C3 h0]at this
 simpa[ints]using this
theorem M0{n:Nat}{a b:D3}{c d:D1}{num:Nat}(hc:c.length=n)(hd:d.length=n)(h:mC c d num):num<=(aN (ay n a b c d)).length:=by
 have:=VW num ((aN (ay n a b c d)).map fun m=>m.getD 0 0) fun i hi=>by
  rcases AI.1 (h i hi)with q|q
  ·obtain⟨x,hx,e⟩:=Aw q
   refine AH.2 ⟨ce n a c x,oe.2 ?_,?_⟩
   ·rw[<-MY n a b c d (by omega)];exact bI _ _ _ (by rw[pS];omega)
   ·rw[ce,(EO n a c x _).1,bv c 0 x hx,e]
  ·obtain⟨x,hx,e⟩:=Aw q
   refine AH.2 ⟨ce n b d x,oe.2 ?_,?_⟩
   ·rw[<-MZ n a b c d (by omega)];exact bI _ _ _ (by rw[pS];omega)
   ·rw[ce,(EO n b d x _).1,bv d 0 x hx,e]
 simpa using this
/- Counting. -/
theorem kb(n:Nat)(cl:D1)(m:Nat):∀i,(b7 n cl m i).length=m
 |0=>by simp[b7]
 |i+1=>by rw[b7,Ak,kb n cl m i]
theorem M1(n:Nat)(cl:D1)(m:Nat)(hcl:∀i,i<cl.length->0<=cl.getD i 0/\cl.getD i 0<(m:Int)){q:Nat}(hq:q<m):∀i,i<=cl.length ->
  (b7 n cl m i).getD q 0=((List.range i).countP fun j=>decide (cl.getD j 0=(q:Int))&&decide (j<n):Nat)-(((List.range i).countP fun j=>decide (cl.getD j 0=(q:Int))&&!decide (j<n):Nat):Int)
 |0,_=>by simp[b7,AP,hq]
 |i+1,hi=>by
  have ih:=M1 n cl m hcl hq i (by omega)
  have hr:=hcl i (by omega)
  rw[b7,iM _ _ _ _ (by rw[kb];exact hq),Bo,Ce,Ce]
  by_cases e:cl.getD i 0=(q:Int)
  ·rw[AA (by omega)]
   have:(cl.getD i 0).toNat=q:=by omega
   rw[this,ih];by_cases hn:i<n
   ·simp only[B6,DY,e,hn,AV,decide_true,DZ,Da,DW,Al,Bu];omega
   ·simp only[B6,DY,e,hn,AV,decide_true,decide_false,Db,DZ,Da,DW,Al,Bu];omega
  ·rw[AB (by omega),ih]
   simp only[B6,DY,e,decide_false,DO,Bu,Al,Bc,AJ]
theorem VX{n:Nat}{a b:D3}{g:Nat->Nat}(h:IsoG n a b g)(ha:bH n a)(hab:b.length=a.length){c d:D1}(hc:∀x,x<n->c.getD x 0=d.getD (g x) 0) :
  ka n (ay n a b c d)=true/\∀x,x<n->((aW (ay n a b c d)).take n).getD x 0=((aW (ay n a b c d)).drop n).getD (g x) 0:=by
 have L:=pS n a b c d
 have key:∀x,x<n->(aW (ay n a b c d)).getD x 0=(aW (ay n a b c d)).getD (n+g x) 0:=fun x hx=>by
  rw[pT _ (by omega),pT _ (by have:=h.lt x hx;omega),MY n a b c d hx,MZ n a b c d (h.lt x hx),VV h ha hab hc hx]
 refine⟨?_,fun x hx=>?_⟩
 ·rw[ka,AW]
  intro v hv
  obtain⟨q,hq,rfl⟩:=Aw hv;rw[kb]at hq;rw[<-bv _ 0 q (by rw[kb];exact hq),Ab]
  have:=M1 n (aW (ay n a b c d)) (aN (ay n a b c d)).length (fun i hi=>EQ _ (by rwa[og]at hi)) hq (ay n a b c d).length (by rw[og];exact AE _)
  rw[this,L,show 2*n=n+n by omega,List.range_add,Ce,Ce,DC,DC]
  have z1:(List.range n).countP (((fun j=>decide ((aW (ay n a b c d)).getD j 0=(q:Int))&&decide (j<n))) ∘ fun x=>n+x)=0:=by
   rw[C6];intro x hx;simp
  have z2:(List.range n).countP (fun j=>decide ((aW (ay n a b c d)).getD j 0=(q:Int))&&!decide (j<n))=0:=by
   rw[C6];intro x hx;have:=Af.1 hx;simp;omega
  have z3:(List.range n).countP (((fun j=>decide ((aW (ay n a b c d)).getD j 0=(q:Int))&&!decide (j<n))) ∘ fun x=>n+x)=(List.range n).countP (fun j=>decide ((aW (ay n a b c d)).getD j 0=(q:Int))&&decide (j<n)):=by
   rw[<-(ue h.lt h.inj).countP_eq,DC];refine List.countP_congr fun x hx=>?_
   have hx:=Af.1 hx
   have k2:=key x hx
   simp only[Function.comp,hx,decide_true,DZ,Ab,AL,<-k2,Cd,Bq,Nat.not_lt,DR,Bi]
  rw[z1,z2,z3];omega
 ·rw[pj _ _ _ _ hx,Q3];exact key x hx
theorem VY{n:Nat}{a b:D3}{g:Nat->Nat}(h:IsoG n a b g)(ha:bH n a)(hab:b.length=a.length){c d:D1}(hc:∀x,x<n->c.getD x 0=d.getD (g x) 0) :
  ∃c' d' m,mB n a b c d=some (c',d',m)/\∀x,x<n->c'.getD x 0=d'.getD (g x) 0:=by
 obtain⟨h1,h2⟩:=VX h ha hab hc;exact⟨_,_,_,by unfold mB;dsimp only;rw[if_pos h1],h2⟩
theorem M2{n:Nat}{a b:D3}{g:Nat->Nat}(h:IsoG n a b g)(ha:bH n a)(hab:b.length=a.length):∀(fuel num:Nat) (c d:D1),c.length=n->d.length=n->mC c d num->2*n<fuel+num->num<=2*n ->
  (∀x,x<n->c.getD x 0=d.getD (g x) 0)->∃c' d',gV n a b fuel num c d=some (c',d')/\∀x,x<n->c'.getD x 0=d'.getD (g x) 0
 |0,num,c,d,_,_,_,h1,h2,_=>by omega
 |fuel+1,num,c,d,hcl,hdl,hcov,h1,h2,hc=>by
  obtain⟨c',d',m,e,hc'⟩:=VY h ha hab hc;obtain⟨l1,l2,l3,l4,_⟩:=ER e;rw[gV,e];simp only;by_cases hm:m=num
  ·rw[AA hm];exact⟨c',d',rfl,hc'⟩
  ·rw[AB hm]
   have hle:num<=m:=by
    have:=M0 (n:=n) (a:=a) (b:=b) hcl hdl hcov
    unfold mB at e;dsimp only at e;split at e
    ·cases e;exact this
    ·cases e
   exact M2 h ha hab fuel m c' d' l1 l2 l4 (by omega) l3 hc'
def gy(n:Nat)(a b:D3)(c d:D1):Option (D1×D1):=gV n a b (2*n+1) 0 c d
theorem uf{n:Nat}{a b:D3}{g:Nat->Nat}(h:IsoG n a b g)(ha:bH n a)(hab:b.length=a.length){c d:D1}(hcl:c.length=n)(hdl:d.length=n)(hc:∀x,x<n->c.getD x 0=d.getD (g x) 0) :
  ∃c' d',gy n a b c d=some (c',d')/\∀x,x<n->c'.getD x 0=d'.getD (g x) 0 :=
 M2 h ha hab _ _ c d hcl hdl (fun i hi=>by omega) (by omega) (by omega) hc
end Go.Sx
