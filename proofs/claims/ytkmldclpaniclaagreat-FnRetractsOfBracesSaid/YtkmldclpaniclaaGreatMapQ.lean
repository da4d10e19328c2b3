/- MapQ -/
import Derived.Test.YtkmldclpaniclaaGreatTable
set_option linter.unusedSimpArgs false
set_option linter.unusedVariables false
set_option linter.defProp false
open Go Go.Proofs
namespace Go.Sx
theorem pY{α:Type}[DecidableEq α]:∀{a b:List α},a.Nodup->(∀x∈a,x∈b)->a.length<=b.length
 | [],_,_,_=>Ad _
 |x::a,b,hn,hs=>by
  rw[Aa]at hn;have h1:x∈b:=hs x (by simp)
  have h2:=pY (b:=b.erase x) hn.2 fun y hy=>(Cz (by rintro rfl;exact hn.1 hy)).2 (hs y (by simp[hy]))
  rw[CX h1]at h2;have:=CT h1
  simp only[AR];omega
def ints(n:Nat):Db:=(List.range n).map fun i:Nat=>(i:Int)
theorem Ea:∀n,(ints n).Nodup
 |0=>by simp[ints]
 |n+1=>by
  have:ints (n+1)=ints n++[(n:Int)]:=by simp[ints,BR]
  rw[this,Ak];refine⟨Ea n,by simp,fun a ha b hb=>?_⟩
  simp only[ints,AT,AW]at ha;obtain⟨i,hi,rfl⟩:=ha;simp at hb
  omega
theorem oq{n:Nat}{x:Int}:x∈ints n↔0<=x/\x<(n:Int):=by
 simp only[ints,AT,AW];exact⟨by rintro⟨i,hi,rfl⟩;omega,fun h=>⟨x.toNat,by omega,by omega⟩⟩
def cB(l:Db):Bool:=decide ((∀x∈l,0<=x/\x<(l.length:Int))/\l.Nodup)
theorem Eb{l:Db}:cB l=true↔∀x:Int,0<=x->x<(l.length:Int)->x∈l:=by
 simp only[cB,AQ]
 constructor
 ·rintro⟨h1,h2⟩ x hx hx2
  refine BU fun hn=>?_
  have:=pY (a:=x::l) (b:=ints l.length) (Aa.2 ⟨hn,h2⟩) fun y hy=>by
   rcases AH.1 hy with rfl|hy
   ·exact oq.2 ⟨hx,hx2⟩
   ·exact oq.2 (h1 y hy)
  simp[ints]at this
  omega
 ·intro h
  have sub:∀l':Db,l'.length<l.length->¬ ∀x∈ints l.length,x∈l':=fun l' hl hc=>by
   have:=pY (Ea l.length) hc
   simp[ints]at this
   omega
  have hall:∀x∈ints l.length,x∈l:=fun x hx=>h x (oq.1 hx).1 (oq.1 hx).2
  refine⟨fun x hx=>BU fun hn=>?_,BU fun hn=>?_⟩
  ·refine sub (l.erase x) (by rw[CX hx];have:=CT hx;omega) fun y hy=>?_
   exact(Cz (by rintro rfl;exact hn (oq.1 hy))).2 (hall y hy)
  ·rw[List.nodup_iff_count]at hn
   simp only[Classical.not_forall]at hn;obtain⟨a,ha⟩:=hn;have hm:a∈l:=List.count_pos_iff.1 (by omega)
   have hm2:a∈l.erase a:=List.count_pos_iff.1 (by rw[List.count_erase_self];omega)
   refine sub (l.erase a) (by rw[CX hm];have:=CT hm;omega) fun y hy=>?_
   by_cases hya:y=a
   ·rw[hya];exact hm2
   ·exact(Cz hya).2 (hall y hy)
def bm(x:Int):Db->Int->Int
 | [],_=>-1
 |y::l,k=>if y=x then k else bm x l (k+1)
theorem ud(x:Int):∀(l:Db) (k:Int),0<=k->decide (0<=bm x l k)=decide (x∈l)
 | [],k,_=>by simp[bm]
 |y::l,k,h=>by
  simp only[bm,AH];by_cases hp:y=x
  ·simp[hp,h]
  ·simp only[hp,Ag,ud x l (k+1) (by omega)]
   have:¬ x=y:=fun e=>hp e.symm
   simp[this]
def pZ:List AD->Option Post
 | [.c (.ints .i64 l),.c (.int .i64 n)]=>some ⟨l.length<=1099511627776,.c (.int .i64 (bm n l 0)),[]⟩
 |_=>none
def LU(l:Db)(n:Int):Nat->Option Ann
 |0=>U' fun i=>⟨⟨[(0,G' l),(1,D' n),(5,D' i)],[]⟩,i<=l.length/\bm n l 0=bm n (l.drop i) (i:Int),l.length-i⟩
 |_=>none
theorem Ed:Fits Tryz.prog 211 ⟨[],pZ⟩:=by
 refine ffv (Γ:=af []) aG Tryz.func211 fun ds p h ξ=>?_
 unfold pZ at h;split at h<;>cases h
 rename_i l n
 refine⟨ah,LU l n,(∃x0:Nat,(x0<=l.length/\bm n l (0:Int)=bm n (List.drop x0 l) (x0:Int))/\l=l/\n=n/\(0:Int)=(x0:Int))/\∀x1:Nat,x1<=l.length/\bm n l (0:Int)=bm n (List.drop x1 l) (x1:Int)->ab (decide ((x1:Int)<(l.length:Int))) (aa (x1:Int) l.length/\ab (l.getD (x1:Int).toNat (0:Int) == n) ((x1:Int)=bm n l (0:Int)/\True) (ae ((x1:Int)+(1:Int))/\∃x2:Nat,(x2<=l.length/\bm n l (0:Int)=bm n (List.drop x2 l) (x2:Int))/\l.length-x2<l.length-x1/\l=l/\n=n/\(x1:Int)+(1:Int)=(x2:Int))) ((-1:Int)=bm n l (0:Int)/\True),by kernel_rfl,?_⟩
 simp only[aH]at ξ⊢;refine⟨⟨0,⟨by omega,rfl⟩,rfl⟩,fun i ⟨hi,he⟩=>⟨fun h=>?_,fun h=>?_⟩⟩
 ·rw[drop_cons' l 0 i (by omega)]at he
  simp only[bm]at he;refine⟨by omega,fun h1=>?_,fun h1=>⟨by omega,i+1,⟨by omega,?_⟩,by omega,by omega⟩⟩
  ·rw[he,AA h1]
  ·rw[he,AB h1];simp
 ·rw[he,A4 (by omega)];rfl
def p5:List AD->Option Post
 | [.c (.ints .i64 l),.c (.int .i64 n)]=>some ⟨l.length<=1099511627776,.c (.bool (decide (n∈l))),[]⟩
 |_=>none
theorem Ef:Fits Tryz.prog 182 ⟨[],p5⟩:=by
 refine ffv (Γ:=af [(211,⟨[],pZ⟩)]) (aj Ed aG) Tryz.func182 fun ds p h ξ=>?_
 unfold p5 at h;split at h<;>cases h
 rename_i l n
 refine⟨ah,ak,(l.length<=(1099511627776:Nat)/\True)/\decide ((0:Int)<=bm n l (0:Int))=decide (n∈l)/\True,by kernel_rfl,?_⟩
 simp only[aH]at ξ⊢;exact⟨ξ,ud n l 0 (by omega)⟩
def uh:List AD->Option Post
 | [.c (.ints .i64 l)]=>some ⟨l.length<=1099511627776,.c (.bool (decide (1<=(l.length:Int)/\(l.length:Int)<=12)&&cB l)),[]⟩
 |_=>none
def LX(l:Db):Nat->Option Ann
 |0=>U' fun i=>⟨⟨[(0,G' l),(3,D' l.length),(4,D' i)],[]⟩,(i<=l.length/\∀x:Int,0<=x->x<(i:Int)->x∈l),l.length-i⟩
 |_=>none
theorem LZ:Fits Tryz.prog 131 ⟨[],uh⟩:=by
 refine ffv (Γ:=af [(71,⟨[],pv⟩),(182,⟨[],p5⟩)]) (aj yh (aj Ef aG)) Tryz.func131 fun ds p h ξ=>?_
 unfold uh at h;split at h<;>cases h
 rename_i l
 refine⟨ah,LX l,(True/\True)/\ab (!decide ((1:Int)<=(l.length:Int)/\(l.length:Int)<=(12:Int))) (false=(decide ((1:Int)<=(l.length:Int)/\(l.length:Int)<=(12:Int))&&cB l)/\True) ((∃x0:Nat,(x0<=l.length/\∀(x:Int),(0:Int)<=x->x<(x0:Int)->x∈l)/\l=l/\(l.length:Int)=(l.length:Int)/\(0:Int)=(x0:Int))/\∀x1:Nat,(x1<=l.length/\∀(x:Int),(0:Int)<=x->x<(x1:Int)->x∈l)->ab (decide ((x1:Int)<(l.length:Int))) ((l.length<=(1099511627776:Nat)/\True)/\ab (!decide ((x1:Int)∈l)) (false=(decide ((1:Int)<=(l.length:Int)/\(l.length:Int)<=(12:Int))&&cB l)/\True) (ae ((x1:Int)+(1:Int))/\∃x2:Nat,(x2<=l.length/\∀(x:Int),(0:Int)<=x->x<(x2:Int)->x∈l)/\l.length-x2<l.length-x1/\l=l/\(l.length:Int)=(l.length:Int)/\(x1:Int)+(1:Int)=(x2:Int))) (true=(decide ((1:Int)<=(l.length:Int)/\(l.length:Int)<=(12:Int))&&cB l)/\True)),by kernel_rfl,?_⟩
 simp only[aH]at ξ⊢;refine⟨fun h=>by rw[AZ h];rfl,fun h=>⟨⟨0,⟨by omega,fun x a b=>by omega⟩,rfl⟩,fun i ⟨hi,he⟩=>⟨fun h2=>⟨ξ,fun h3=>?_,fun h3=>⟨by omega,i+1,⟨by omega,fun x a b=>?_⟩,by omega,by omega⟩⟩,fun h2=>?_⟩⟩⟩
 ·have:cB l=false:=by
   cases hb:cB l with
   |false=>rfl
   |true=>exact absurd (Eb.1 hb i (by omega) h2) h3
  rw[this,C0]
 ·by_cases hx:x=(i:Int)
  ·rw[hx];exact h3
  ·exact he x a (by omega)
 ·rw[AY h,Eb.2 fun x a b=>he x a (by omega)];rfl
def fh(n:Nat)(l:Db):List Bool:=(List.range n).map fun i:Nat=>decide ((i:Int)∈l)
theorem L0(n:Nat)(l:Db):(fh n l).length=n:=by simp[fh]
theorem L5(n:Nat)(l:Db)(k:Nat)(h:k<n):(fh n l).getD k false=decide ((k:Int)∈l):=by
 simp[fh,AN,h]
theorem U6(n:Nat):fh n []=List.replicate n false:=by
 apply CW
 ·simp[fh]
 ·intro i h1 h2
  simp[fh]
theorem U7(n:Nat)(l:Db)(k:Nat)(h:k<n):(fh n l).set k true=fh n (l++[(k:Int)]):=by
 apply CW
 ·simp[fh]
 ·intro i h1 h2
  simp only[fh,List.getElem_set,List.getElem_map,Bw,AL,Bb];by_cases hk:k=i
  ·subst hk;simp
  ·have:¬ (i:Int)=(k:Int):=by omega
   simp[hk,this]
def Eh:List AD->Option Post
 | [.c (.ints .i64 l)]=>some ⟨l.length<=1099511627776,.c (.bool (cB l)),[]⟩
 |_=>none
def L6(l:Db):Nat->Option Ann
 |0=>U' fun i=>⟨⟨[(0,G' l),(3,M' 8),(9,G' l),(10,D' l.length),(11,D' i)],[(8,some (.bools 4 (fh l.length (l.take i))))]⟩,(i<=l.length/\(∀x∈l.take i,0<=x/\x<(l.length:Int))/\(l.take i).Nodup),l.length-i⟩
 |_=>none
theorem Va:Fits Tryz.prog 208 ⟨[],Eh⟩:=by
 refine ffv (Γ:=af [(73,⟨[],pu⟩)]) (aj yf aG) Tryz.func208 fun ds p h ξ=>?_
 unfold Eh at h;split at h<;>cases h
 rename_i l
 refine⟨ah,L6 l,((0:Int)<=(l.length:Int)/\(l.length:Int)<=(l.length:Int)/\ar ((l.length:Int).toNat))/\(∃x0:Nat,(x0<=l.length/\(∀(x:Int),x∈List.take x0 l->(0:Int)<=x/\x<(l.length:Int))/\List.Nodup (List.take x0 l))/\l=l/\l=l/\(l.length:Int)=(l.length:Int)/\(0:Int)=(x0:Int)/\List.replicate ((l.length:Int).toNat) false=fh l.length (List.take x0 l))/\∀x1:Nat,x1<=l.length/\(∀(x:Int),x∈List.take x1 l->(0:Int)<=x/\x<(l.length:Int))/\List.Nodup (List.take x1 l)->ab (decide ((x1:Int)<(l.length:Int))) (aa (x1:Int) l.length/\ae ((l.length:Int)-(1:Int))/\(True/\True)/\ab (!decide ((0:Int)<=l.getD (x1:Int).toNat (0:Int)/\l.getD (x1:Int).toNat (0:Int)<=(l.length:Int)-(1:Int))) (false=cB l/\True) (aa (l.getD (x1:Int).toNat (0:Int)) ((fh l.length (List.take x1 l)).length)/\ab ((fh l.length (List.take x1 l)).getD ((l.getD (x1:Int).toNat (0:Int)).toNat) false) (false=cB l/\True) (aa (l.getD (x1:Int).toNat (0:Int)) ((fh l.length (List.take x1 l)).length)/\ae ((x1:Int)+(1:Int))/\∃x2:Nat,(x2<=l.length/\(∀(x:Int),x∈List.take x2 l->(0:Int)<=x/\x<(l.length:Int))/\List.Nodup (List.take x2 l))/\l.length-x2<l.length-x1/\l=l/\l=l/\(l.length:Int)=(l.length:Int)/\(x1:Int)+(1:Int)=(x2:Int)/\List.set (fh l.length (List.take x1 l)) ((l.getD (x1:Int).toNat (0:Int)).toNat) true=fh l.length (List.take x2 l)))) (true=cB l/\True),by kernel_rfl,?_⟩
 simp only[aH]at ξ⊢;refine⟨by omega,⟨0,⟨by omega,by simp,by simp⟩,rfl,(U6 _).symm⟩,fun i ⟨hi,h1,h2⟩=>⟨fun h=>⟨by omega,by omega,fun h3=>?_,fun h3=>⟨?_,fun h4=>?_,fun h4=>⟨?_,by omega,i+1,⟨by omega,fun x hx=>?_,?_⟩,by omega,by omega,?_⟩⟩⟩,fun h=>?_⟩⟩
 ·exact(AZ fun e=>h3 (by have:=e.1 _ (cU l 0 i (by omega));omega)).symm
 ·rw[L0];omega
 ·rw[L5 _ _ _ (by omega),AQ]at h4
  rw[show(((l.getD i 0).toNat:Nat):Int)=l.getD i 0 by omega]at h4
  refine(AZ fun e=>?_).symm
  have h5:(l.take (i+1)).Nodup:=List.Pairwise.sublist (Cu _ _) e.2
  rw[<-eo l 0 i (by omega),Ak]at h5
  exact h5.2.2 _ h4 _ (by simp) rfl
 ·rw[L0];omega
 ·rw[<-eo l 0 i (by omega),AL]at hx
  rcases hx with hx|hx
  ·exact h1 x hx
  ·simp only[Bb]at hx
   rw[hx];omega
 ·rw[L5 _ _ _ (by omega),C3]at h4
  rw[show(((l.getD i 0).toNat:Nat):Int)=l.getD i 0 by omega]at h4
  rw[<-eo l 0 i (by omega),Ak]
  refine⟨h2,by simp,fun a ha b hb=>?_⟩
  simp only[Bb]at hb
  rintro rfl
  rw[hb]at ha;exact h4 ha
 ·rw[<-eo l 0 i (by omega),U7 _ _ _ (by omega),show(((l.getD i 0).toNat:Nat):Int)=l.getD i 0 by omega]
 ·rw[AU (by omega)]at h1 h2
  exact(AY ⟨h1,h2⟩).symm
def Ej:List AD->Option Post
 | [.c (.ints .i64 l)]=>some ⟨l.length<=1099511627776,.c (.bool (!cB l)),[]⟩
 |_=>none
theorem Vd:Fits Tryz.prog 207 ⟨[],Ej⟩:=by
 refine ffv (Γ:=af [(208,⟨[],Eh⟩)]) (aj Va aG) Tryz.func207 fun ds p h ξ=>?_
 unfold Ej at h;split at h<;>cases h
 rename_i l
 refine⟨ah,ak,(l.length<=(1099511627776:Nat)/\True)/\(!cB l)=!cB l/\True,by kernel_rfl,?_⟩
 simp only[aH]at ξ⊢;exact ξ
def ul:List AD->Option Post
 | [.c (.rows .i64 t)]=>some ⟨aD t,.c (.bool (t.all cB)),[]⟩
 |_=>none
theorem Ma:Fits Tryz.prog 146 ⟨[],ul⟩:=by
 refine ffv (Γ:=af [(204,⟨[],yq⟩),(207,⟨[],Ej⟩)]) (aj RA (aj Vd aG)) Tryz.func146 fun ds p h ξ=>?_
 unfold ul at h;split at h<;>cases h
 rename_i t
 refine⟨ah,ak,((t.length<=(1099511627776:Nat)/\∀(x:Db),x∈t->x.length<=(1099511627776:Nat))/\True)/\(!List.any t fun(x:Db)=>!cB x)=List.all t cB/\True,by kernel_rfl,?_⟩
 simp only[aH]at ξ⊢;refine⟨⟨ξ.1,ξ.2⟩,?_⟩
 rw[DU,Bool.not_not]
def cb{α:Type}(n:Nat)(q:Nat->Option α):Nat->Option α
 |0=>none
 |k+1=>(q (n-(k+1))).or (cb n q k)
theorem lB{α:Type}(n:Nat)(q:Nat->Option α)(i:Nat)(h:i<n):cb n q (n-i)=(q i).or (cb n q (n-(i+1))):=by
 rw[show n-i=(n-(i+1))+1 by omega,cb,show n-(n-(i+1)+1)=i by omega]
def en(t:Dc)(x y:Nat):Int:=(t.getD x []).getD y 0
def bj:Db->Db->Bool
 |_,[]=>false
 | [],_::_=>true
 |x::a,y::b=>if x=y then bj a b else decide (x<y)
theorem Mb:∀a:Db,bj a a=false
 | []=>rfl
 |x::a=>by rw[bj,AA rfl];exact Mb a
theorem Mc:∀a b:Db,bj a b=false->bj b a=false->a=b
 | [],[],_,_=>rfl
 | [],_::_,h,_=>by simp[bj]at h
 |_::_,[],_,h=>by simp[bj]at h
 |x::a,y::b,h,k=>by
  by_cases e:x=y
  ·subst e
   rw[bj,AA rfl]at h k;rw[Mc a b h k]
  ·rw[bj,AB e]at h
   rw[bj,AB (AO e)]at k;simp at h k
   omega
theorem um:∀a b c:Db,bj a b=true->bj b c=true->bj a c=true
 |_,_,[],_,h=>by cases ‹Db›<;>simp[bj]at h
 |_,[],_::_,h,_=>by cases ‹Db›<;>simp[bj]at h
 | [],_::_,_::_,_,_=>rfl
 |x::a,y::b,z::c,h,k=>by
  rw[bj]at h k⊢;by_cases e:x=y
  ·subst e
   rw[AA rfl]at h;by_cases f:x=z
   ·subst f
    rw[AA rfl]at k⊢;exact um a b c h k
   ·rw[AB f]at k⊢
    exact k
  ·rw[AB e]at h
   by_cases f:y=z
   ·subst f
    rw[AB e];exact h
   ·rw[AB f]at k
    simp at h k
    rw[AB (by omega)]
    simp;omega
def bO:Dc->Db->Nat
 | [],_=>0
 |k::K,m=>if bj k m=true then bO K m+1 else 0
theorem un:∀(K:Dc) (m:Db),bO K m<=K.length
 | [],_=>AE _
 |k::K,m=>by
  rw[bO];split
  ·exact CM (un K m)
  ·exact Ad _
theorem uo:∀(K:Dc) (m:Db) (i:Nat),(∀j,j<i->bj (K.getD j []) m=true)->i<=K.length->(∀h:i<K.length,bj (K.getD i []) m=false)->bO K m=i
 | [],_,i,_,h,_=>by simp at h;subst h;rfl
 |k::K,m,0,_,_,h=>by
  have:=h (by simp)
  have h2:bj k m=false:=this
  rw[bO,AB (by rw[h2];simp)]
 |k::K,m,i+1,a,b,c=>by
  have h0:bj k m=true:=a 0 (by omega)
  rw[bO,AA h0,uo K m i (fun j hj=>a (j+1) (by omega)) (by simpa using b) (fun h=>c (by simpa using h))]
def fZ(K:Dc)(m:Db):Dc :=
 if bO K m<K.length/\K.getD (bO K m) []=m then K else K.take (bO K m)++m::K.drop (bO K m)
theorem Em(k:Db)(K:Dc)(m:Db):fZ (k::K) m=if bj k m=true then k::fZ K m else if k=m then k::K else m::k::K:=by
 by_cases h:bj k m=true
 ·rw[AA h,fZ,fZ,bO,AA h]
  simp only[AR,List.getD_cons_succ,Nat.add_lt_add_iff_right,List.take_succ_cons,List.drop_succ_cons,BT];split<;>rfl
 ·rw[AB h,fZ,bO,AB h]
  by_cases e:k=m
  ·simp[e]
  ·simp[e]
theorem En:∀(K:Dc) (m x:Db),x∈fZ K m↔x=m\/x∈K
 | [],m,x=>by simp[fZ,bO]
 |k::K,m,x=>by
  rw[Em];split
  ·rw[AH,En K m x,AH]
   constructor
   ·rintro(h|h|h)<;>simp[h]
   ·rintro(h|h|h)<;>simp[h]
  ·split
   ·rename_i e
    subst e;simp
   ·simp
theorem Md:∀(K:Dc) (m:Db),(fZ K m).length<=K.length+1
 | [],m=>by simp[fZ,bO]
 |k::K,m=>by
  rw[Em];have:=Md K m
  split
  ·simp only[AR];omega
  ·split<;>simp
def f5(K:Dc):Prop:=K.Pairwise fun a b=>bj a b=true
theorem Me:∀(K:Dc) (m:Db),f5 K->f5 (fZ K m)
 | [],m,_=>by simp[fZ,bO,f5]
 |k::K,m,h=>by
  rw[Em];obtain⟨h1,h2⟩:=CY.1 h;split
  ·rename_i e
   exact CY.2 ⟨fun x hx=>by
    rcases(En K m x).1 hx with rfl|hx
    ·exact e
    ·exact h1 x hx,Me K m h2⟩
  ·rename_i e
   split
   ·exact h
   ·rename_i ne
    have lt:bj m k=true:=by
     cases q:bj m k
     ·exact absurd (Mc k m (by simpa using e) q) ne
     ·rfl
    refine CY.2 ⟨fun x hx=>?_,h⟩
    rcases AH.1 hx with rfl|hx
    ·exact lt
    ·exact um _ _ _ lt (h1 x hx)
theorem Vg{K:Dc}(h:f5 K):K.Nodup:=h.imp fun {a b} hab e=>by
 subst e;rw[Mb]at hab;cases hab
def aU(M:Dc):Nat->Dc
 |0=>[]
 |i+1=>fZ (aU M i) (M.getD i [])
def aQ(M:Dc):Dc:=aU M M.length
theorem Mf(M:Dc):∀i,f5 (aU M i)
 |0=>List.Pairwise.nil
 |i+1=>Me _ _ (Mf M i)
theorem Eo(M:Dc):∀i,(aU M i).length<=i
 |0=>AE _
 |i+1=>An (Md _ _) (CM (Eo M i))
theorem Ep(M:Dc)(x:Db):∀i,x∈aU M i↔∃j,j<i/\x=M.getD j []
 |0=>by simp[aU]
 |i+1=>by
  rw[aU,En,Ep M x i]
  constructor
  ·rintro(h|⟨j,h1,h2⟩)
   ·exact⟨i,by omega,h⟩
   ·exact⟨j,by omega,h2⟩
  ·rintro⟨j,h1,h2⟩
   by_cases e:j=i
   ·subst e;exact .inl h2
   ·exact .inr ⟨j,by omega,h2⟩
def f6:Dc->Db->Nat
 | [],_=>0
 |k::K,m=>if k=m then 0 else f6 K m+1
theorem p6:∀{K:Dc} {m:Db},m∈K->f6 K m<K.length/\K.getD (f6 K m) []=m
 |k::K,m,h=>by
  rw[f6];split
  ·rename_i e;exact⟨by simp,e⟩
  ·rename_i e
   have:=p6 (K:=K) (m:=m) (by rcases AH.1 h with rfl|h;exact absurd rfl e;exact h)
   exact⟨by simpa using this.1,by simpa using this.2⟩
theorem p7:∀{K:Dc} {m:Db} (i:Nat),(∀j,j<i->K.getD j []≠m)->i<K.length->K.getD i []=m->f6 K m=i
 | [],_,i,_,h,_=>by simp at h
 |k::K,m,0,_,_,h=>by
  have:k=m:=h
  rw[f6,AA this]
 |k::K,m,i+1,a,b,c=>by
  have h0:k≠m:=a 0 (by omega)
  rw[f6,AB h0,p7 (K:=K) i (fun j hj=>a (j+1) (by omega)) (by simpa using b) (by simpa using c)]
theorem Vh{K:Dc}(h:K.Nodup){i:Nat}(hi:i<K.length):f6 K (K.getD i [])=i:=by
 refine p7 i (fun j hj e=>?_) hi rfl
 rw[cg K [] j (by omega),cg K [] i hi]at e
 have:=(Cm h).1 e
 omega
def aY(M:Dc):Db:=M.map fun m=>(f6 (aQ M) m:Int)
theorem ot{M:Dc}{x:Db}:x∈aQ M↔x∈M:=by
 rw[aQ,Ep]
 constructor
 ·rintro⟨j,h1,rfl⟩;exact cU M [] j h1
 ·intro h
  obtain⟨j,h1,h2⟩:=Ay h;exact⟨j,h1,by rw[cg M [] j h1];exact h2.symm⟩
theorem Mg(M:Dc):(aQ M).length<=M.length:=Eo M _
/- Sorting by insertion. -/
def c6(p:Db)(x:Int):Nat->Nat
 |0=>0
 |j+1=>if x<p.getD j 0 then c6 p x j else j+1
theorem Er(p:Db)(x:Int):∀j,c6 p x j<=j
 |0=>AE _
 |j+1=>by rw[c6];split;exact Nat.le_succ_of_le (Er p x j);exact AE _
theorem Mh(p:Db)(x:Int):∀j i,c6 p x j<=i->i<j->x<p.getD i 0
 |0,i,_,h=>by omega
 |j+1,i,h,k=>by
  rw[c6]at h;split at h
  ·rename_i e
   by_cases ei:i=j
   ·subst ei;exact e
   ·exact Mh p x j i h (by omega)
  ·omega
theorem Mi(p:Db)(x:Int):∀j,0<c6 p x j->p.getD (c6 p x j-1) 0<=x
 |0,h=>by simp[c6]at h
 |j+1,h=>by
  rw[c6]at h⊢;split
  ·rename_i e;rw[AA e]at h;exact Mi p x j h
  ·rename_i e;simpa using e
def mD(p:Db)(x:Int):Db:=p.take (c6 p x p.length)++x::p.drop (c6 p x p.length)
def bP(l:Db):Nat->Db
 |0=>[]
 |i+1=>mD (bP l i) (l.getD i 0)
def lC(l:Db):Db:=bP l l.length
theorem Vi(p:Db)(x:Int):(mD p x).length=p.length+1:=by
 have:=Er p x p.length
 simp[mD];omega
theorem uq(l:Db):∀i,(bP l i).length=i
 |0=>rfl
 |i+1=>by rw[bP,Vi,uq l i]
theorem Vj(p:Db)(x:Int):(mD p x).Perm (p++[x]):=by
 have h1:(p.take (c6 p x p.length)++x::p.drop (c6 p x p.length)).Perm (x::(p.take (c6 p x p.length)++p.drop (c6 p x p.length))):=List.perm_middle
 rw[CO]at h1;exact h1.trans (List.perm_append_comm (l₁:=[x]) (l₂:=p))
theorem Mj(l:Db):∀i,i<=l.length->(bP l i).Perm (l.take i)
 |0,_=>by simp[bP]
 |i+1,h=>by
  rw[bP,<-eo l 0 i (by omega)]
  exact(Vj _ _).trans ((Mj l i (by omega)).append (List.Perm.refl _))
theorem Mk(l:Db):(lC l).Perm l:=by
 have:=Mj l l.length (AE _)
 rwa[List.take_length]at this
theorem Vk{p:Db}(h:p.Pairwise (·<=·))(x:Int):(mD p x).Pairwise (·<=·):=by
 have hb:=Er p x p.length
 have hg:∀i j,i<j->j<p.length->p.getD i 0<=p.getD j 0:=fun i j hij hj=>by
  rw[cg p 0 i (by omega),cg p 0 j hj]
  exact Bu.1 h i j (by omega) hj hij
 have lo:∀a∈p.take (c6 p x p.length),a<=x:=fun a ha=>by
  obtain⟨i,hi,rfl⟩:=Ay ha;rw[AS]at hi;have e:(p.take (c6 p x p.length))[i]=p.getD i 0:=by rw[List.getElem_take,cg p 0 i (by omega)]
  rw[e];have:=Mi p x p.length (by omega)
  by_cases q:i=c6 p x p.length-1
  ·subst q;exact this
  ·exact Int.le_trans (hg i (c6 p x p.length-1) (by omega) (by omega)) this
 have up:∀a∈p.drop (c6 p x p.length),x<=a:=fun a ha=>by
  obtain⟨i,hi,rfl⟩:=Ay ha;rw[A6]at hi;have e:(p.drop (c6 p x p.length))[i]=p.getD (c6 p x p.length+i) 0:=by rw[List.getElem_drop,cg p 0 _ (by omega)]
  rw[e];have:=Mh p x p.length (c6 p x p.length+i) (by omega) (by omega)
  omega
 rw[mD,List.pairwise_append];refine⟨h.sublist (Cu _ _),CY.2 ⟨up,h.sublist (List.drop_sublist _ _)⟩,fun a ha b hb=>?_⟩
 rcases AH.1 hb with rfl|hb
 ·exact lo a ha
 ·exact Int.le_trans (lo a ha) (up b hb)
theorem Es(l:Db):∀i,(bP l i).Pairwise (·<=·)
 |0=>List.Pairwise.nil
 |i+1=>Vk (Es l i) _
theorem Vl{l l':Db}(h:l.Perm l'):lC l=lC l' :=
 List.Perm.eq_of_pairwise (le:=(·<=·)) (fun a b _ _ h1 h2=>Int.le_antisymm h1 h2) (Es l _) (Es l' _) (((Mk l).trans h).trans (Mk l').symm)
/- What tables and colours tell of an element. -/
def gZ(t:Dc)(x y:Nat):Int :=
 (if en t x y=(y:Int)then 1 else 0)+(if en t y x=(y:Int)then 2 else 0)+(if en t x y=(x:Int)then 4 else 0)+(if en t y x=(x:Int)then 8 else 0)
def f7(t:Dc)(c:Db)(x y:Nat):Int :=
 ((c.getD y 0*64+c.getD (en t x y).toNat 0)*64+c.getD (en t y x).toNat 0)*16+gZ t x y
def g3(t:Dc)(x y:Nat):Nat->Nat
 |0=>0
 |z+1=>if en t y z=(x:Int)then g3 t x y z+1 else g3 t x y z
def fM(n:Nat)(t:Dc)(x y:Nat):Nat:=g3 t x y n
def du(n:Nat)(t:Dc)(c:Db)(x:Nat):Db :=
 ap n (f7 t c x)++ap n fun y=>1099511627776+c.getD y 0*64+(fM n t x y:Int)
def bc(n:Nat)(a:Dd)(c:Db)(x:Nat):Nat->Db
 |0=>[c.getD x 0]
 |k+1=>bc n a c x k++lC (du n (a.getD k []) c x)
def cu(n:Nat)(a:Dd)(c:Db)(x:Nat):Db:=bc n a c x a.length
theorem Et(n:Nat)(a:Dd)(c:Db)(x:Nat):∀k,(bc n a c x k).getD 0 0=c.getD x 0/\0<(bc n a c x k).length
 |0=>by simp[bc]
 |k+1=>by
  have:=Et n a c x k
  rw[bc];exact⟨by rw[getD_append_left' _ _ _ _ this.2];exact this.1,by simp;omega⟩
def ba(n:Nat)(t:Dc):Prop:=t.length=n/\∀x,x<n->(t.getD x []).length=n/\∀y,y<n->0<=en t x y/\en t x y<(n:Int)
def bN(n:Nat)(a:Dd):Prop:=∀k,k<a.length->ba n (a.getD k [])
structure IsoG (n:Nat) (a b:Dd) (g:Nat->Nat):Prop where
 lt:∀x,x<n->g x<n
 inj:∀x y,x<n->y<n->g x=g y->x=y
 map:∀k x y,k<a.length->x<n->y<n->en (b.getD k []) (g x) (g y)=(g (en (a.getD k []) x y).toNat:Int)
theorem Eu{n:Nat}{g:Nat->Nat}(lt:∀x,x<n->g x<n)(inj:∀x y,x<n->y<n->g x=g y->x=y):((List.range n).map g).Perm (List.range n):=by
 have nd:((List.range n).map g).Nodup:=by
  rw[List.Nodup,Cn];exact Bt.imp_of_mem fun {x y} hx hy hne e=>hne (inj x y (AW.1 hx) (AW.1 hy) e)
 refine(List.perm_ext_iff_of_nodup nd Bt).2 fun y=>⟨fun h=>?_,fun h=>?_⟩
 ·obtain⟨x,hx,rfl⟩:=AT.1 h
  exact AW.2 (lt x (AW.1 hx))
 ·refine BU fun hn=>?_
  have h1:(y::(List.range n).map g).Nodup:=Aa.2 ⟨hn,nd⟩
  have h2:=List.Nodup.length_le_of_subset h1 (l₂:=List.range n) (fun z hz=>by
   rcases AH.1 hz with rfl|hz
   ·exact h
   ·obtain⟨x,hx,rfl⟩:=AT.1 hz
    exact AW.2 (lt x (AW.1 hx)))
  simp at h2
  omega
theorem Ml{n:Nat}{g:Nat->Nat}(lt:∀x,x<n->g x<n)(inj:∀x y,x<n->y<n->g x=g y->x=y)(F:Nat->Int):(ap n fun y=>F (g y)).Perm (ap n F):=by
 have:=(Eu lt inj).map F
 rwa[List.map_map]at this
theorem Ev(t:Dc)(x y:Nat):∀n,g3 t x y n=(List.range n).countP fun z=>decide (en t y z=(x:Int))
 |0=>rfl
 |n+1=>by
  rw[g3,Ev t x y n,BR,CA];by_cases h:en t y n=(x:Int)<;>simp[h]
theorem p8{n:Nat}{g:Nat->Nat}(inj:∀x y,x<n->y<n->g x=g y->x=y){u:Int}(h0:0<=u)(h1:u<(n:Int)){y:Nat}(hy:y<n):((g u.toNat:Nat):Int)=(g y:Int)↔u=(y:Int):=by
 constructor
 ·intro e
  have:=inj u.toNat y (by omega) hy (by omega)
  omega
 ·intro e;rw[show u.toNat=y by omega]
section
variable {n:Nat} {a b:Dd} {g:Nat->Nat}
theorem Vm(h:IsoG n a b g)(ha:bN n a){k:Nat}(hk:k<a.length){x y:Nat}(hx:x<n)(hy:y<n):gZ (b.getD k []) (g x) (g y)=gZ (a.getD k []) x y:=by
 have hu:=((ha k hk).2 x hx).2 y hy
 have hv:=((ha k hk).2 y hy).2 x hx
 have e1:=h.map k x y hk hx hy
 have e2:=h.map k y x hk hy hx
 simp only[gZ,e1,e2,p8 h.inj hu.1 hu.2 hx,p8 h.inj hu.1 hu.2 hy,p8 h.inj hv.1 hv.2 hx,p8 h.inj hv.1 hv.2 hy]
theorem Vn(h:IsoG n a b g)(ha:bN n a){c d:Db}(hc:∀x,x<n->c.getD x 0=d.getD (g x) 0){k:Nat}(hk:k<a.length){x y:Nat}(hx:x<n)(hy:y<n) :
  f7 (b.getD k []) d (g x) (g y)=f7 (a.getD k []) c x y:=by
 have hu:=((ha k hk).2 x hx).2 y hy
 have hv:=((ha k hk).2 y hy).2 x hx
 rw[f7,f7,Vm h ha hk hx hy,h.map k x y hk hx hy,h.map k y x hk hy hx,AP,AP,<-hc y hy,<-hc _ (by omega),<-hc _ (by omega)]
theorem Vo(h:IsoG n a b g)(ha:bN n a){k:Nat}(hk:k<a.length){x y:Nat}(hx:x<n)(hy:y<n):fM n (b.getD k []) (g x) (g y)=fM n (a.getD k []) x y:=by
 rw[fM,fM,Ev,Ev,<-(Eu h.lt h.inj).countP_eq,CZ];refine List.countP_congr fun z hz=>?_
 have hz:=AW.1 hz
 have hu:=((ha k hk).2 y hy).2 z hz
 simp only[Function.comp,AQ];rw[h.map k y z hk hy hz,p8 h.inj hu.1 hu.2 hx]
theorem Vp(h:IsoG n a b g)(ha:bN n a){c d:Db}(hc:∀x,x<n->c.getD x 0=d.getD (g x) 0){k:Nat}(hk:k<a.length){x:Nat}(hx:x<n) :
  lC (du n (b.getD k []) d (g x))=lC (du n (a.getD k []) c x):=by
 refine Vl ?_
 rw[du,du];refine List.Perm.append ((Ml h.lt h.inj _).symm.trans ?_) ((Ml h.lt h.inj _).symm.trans ?_)
 ·rw[nL fun y hy=>Vn h ha hc hk hx hy]
 ·rw[nL fun y hy=>by rw[Vo h ha hk hx hy,<-hc y hy]]
theorem Mm(h:IsoG n a b g)(ha:bN n a){c d:Db}(hc:∀x,x<n->c.getD x 0=d.getD (g x) 0){x:Nat}(hx:x<n):∀k,k<=a.length->bc n b d (g x) k=bc n a c x k
 |0,_=>by rw[bc,bc,hc x hx]
 |k+1,hk=>by rw[bc,bc,Mm h ha hc hx k (by omega),Vp h ha hc (by omega) hx]
theorem Vq(h:IsoG n a b g)(ha:bN n a)(hab:b.length=a.length){c d:Db}(hc:∀x,x<n->c.getD x 0=d.getD (g x) 0){x:Nat}(hx:x<n):cu n b d (g x)=cu n a c x:=by
 rw[cu,cu,hab];exact Mm h ha hc hx _ (AE _)
end
def aC(n:Nat)(a b:Dd)(c d:Db):Dc:=(List.range n).map (cu n a c)++(List.range n).map (cu n b d)
def co(n:Nat)(cl:Db)(m:Nat):Nat->Db
 |0=>List.replicate m 0
 |i+1=>(co n cl m i).set (cl.getD i 0).toNat ((co n cl m i).getD (cl.getD i 0).toNat 0+if i<n then 1 else -1)
def kB(n:Nat)(M:Dc):Bool:=(co n (aY M) (aQ M).length M.length).all fun x=>decide (x=0)
def mE(n:Nat)(a b:Dd)(c d:Db):Option (Db×Db×Nat) :=
 let M:=aC n a b c d
 if kB n M=true then some ((aY M).take n,(aY M).drop n,(aQ M).length)else none
def g4(n:Nat)(a b:Dd):Nat->Nat->Db->Db->Option (Db×Db)
 |0,_,_,_=>none
 |fuel+1,num,c,d=>match mE n a b c d with
  |none=>none
  |some (c',d',m)=>if m=num then some (c',d')else g4 n a b fuel m c' d'
theorem p9(n:Nat)(a b:Dd)(c d:Db):(aC n a b c d).length=2*n:=by simp[aC];omega
theorem Mn(n:Nat)(a b:Dd)(c d:Db){x:Nat}(h:x<n):(aC n a b c d).getD x []=cu n a c x:=by
 rw[aC,getD_append_left' _ _ _ _ (by simpa using h)];simp[AN,h]
theorem Mo(n:Nat)(a b:Dd)(c d:Db){x:Nat}(h:x<n):(aC n a b c d).getD (n+x) []=cu n b d x:=by
 rw[aC,getD_append_right' _ _ _ _ (by simp)];simp[AN,h]
theorem ou(M:Dc):(aY M).length=M.length:=by simp[aY]
theorem qa(M:Dc){i:Nat}(h:i<M.length):(aY M).getD i 0=(f6 (aQ M) (M.getD i []):Int):=by
 rw[aY,rS M _ [] 0 i h]
theorem Ew(M:Dc){i:Nat}(h:i<M.length):0<=(aY M).getD i 0/\(aY M).getD i 0<((aQ M).length:Int):=by
 rw[qa M h];have:=(p6 (ot.2 (cU M [] i h))).1
 omega
def mF(c d:Db)(m:Nat):Prop:=∀i,i<m->(i:Int)∈c++d
theorem Ex{n:Nat}{a b:Dd}{c d c' d':Db}{m:Nat}(h:mE n a b c d=some (c',d',m)) :
  c'.length=n/\d'.length=n/\m<=2*n/\mF c' d' m/\(∀x,x<n->0<=c'.getD x 0/\c'.getD x 0<(m:Int))/\∀x,x<n->0<=d'.getD x 0/\d'.getD x 0<(m:Int):=by
 unfold mE at h;dsimp only at h;split at h
 ·cases h
  have L:=p9 n a b c d
  refine⟨by rw[AS,ou,L];omega,by rw[A6,ou,L];omega,by have:=Mg (aC n a b c d);omega,fun i hi=>?_,fun x hx=>?_,fun x hx=>?_⟩
  ·rw[CO]
   have h1:(aQ (aC n a b c d)).getD i []∈aC n a b c d:=ot.1 (cU _ _ _ hi)
   obtain⟨j,hj,e⟩:=Ay h1;have h2:=qa _ hj
   rw[cg _ [] j hj,e,Vh (K:=aQ (aC n a b c d)) (Vg (Mf _ _)) hi]at h2;rw[<-h2];exact cU _ _ _ (by rw[ou];exact hj)
  ·rw[pq _ _ _ _ hx]
   exact Ew _ (by omega)
  ·rw[Rn]
   exact Ew _ (by omega)
 ·cases h
theorem Vr:∀(m:Nat) (l:Db),(∀i:Nat,i<m->(i:Int)∈l)->m<=l.length:=fun m l h=>by
 have:=pY (Ea m) (b:=l) fun x hx=>by
  obtain⟨h0,h1⟩:=oq.1 hx;have:=h x.toNat (by omega)
  rwa[CR h0]at this
 simpa[ints]using this
theorem Mp{n:Nat}{a b:Dd}{c d:Db}{num:Nat}(hc:c.length=n)(hd:d.length=n)(h:mF c d num):num<=(aQ (aC n a b c d)).length:=by
 have:=Vr num ((aQ (aC n a b c d)).map fun m=>m.getD 0 0) fun i hi=>by
  rcases AL.1 (h i hi)with q|q
  ·obtain⟨x,hx,e⟩:=Ay q
   refine AT.2 ⟨cu n a c x,ot.2 ?_,?_⟩
   ·rw[<-Mn n a b c d (by omega)];exact cU _ _ _ (by rw[p9];omega)
   ·rw[cu,(Et n a c x _).1,cg c 0 x hx,e]
  ·obtain⟨x,hx,e⟩:=Ay q
   refine AT.2 ⟨cu n b d x,ot.2 ?_,?_⟩
   ·rw[<-Mo n a b c d (by omega)];exact cU _ _ _ (by rw[p9];omega)
   ·rw[cu,(Et n b d x _).1,cg d 0 x hx,e]
 simpa using this
/- Counting. -/
theorem kC(n:Nat)(cl:Db)(m:Nat):∀i,(co n cl m i).length=m
 |0=>by simp[co]
 |i+1=>by rw[co,Ai,kC n cl m i]
theorem Mq(n:Nat)(cl:Db)(m:Nat)(hcl:∀i,i<cl.length->0<=cl.getD i 0/\cl.getD i 0<(m:Int)){q:Nat}(hq:q<m):∀i,i<=cl.length ->
  (co n cl m i).getD q 0=((List.range i).countP fun j=>decide (cl.getD j 0=(q:Int))&&decide (j<n):Nat)-(((List.range i).countP fun j=>decide (cl.getD j 0=(q:Int))&&!decide (j<n):Nat):Int)
 |0,_=>by simp[co,AN,hq]
 |i+1,hi=>by
  have ih:=Mq n cl m hcl hq i (by omega)
  have hr:=hcl i (by omega)
  rw[co,kq _ _ _ _ (by rw[kC];exact hq),BR,CA,CA]
  by_cases e:cl.getD i 0=(q:Int)
  ·rw[AA (by omega)]
   have:(cl.getD i 0).toNat=q:=by omega
   rw[this,ih];by_cases hn:i<n
   ·simp only[CK,C4,e,hn,AV,decide_true,B9,C5,C0,Ag,Bi];omega
   ·simp only[CK,C4,e,hn,AV,decide_true,decide_false,C6,B9,C5,C0,Ag,Bi];omega
  ·rw[AB (by omega),ih]
   simp only[CK,C4,e,decide_false,Bq,Bi,Ag,Bc,AK]
theorem Vs{n:Nat}{a b:Dd}{g:Nat->Nat}(h:IsoG n a b g)(ha:bN n a)(hab:b.length=a.length){c d:Db}(hc:∀x,x<n->c.getD x 0=d.getD (g x) 0) :
  kB n (aC n a b c d)=true/\∀x,x<n->((aY (aC n a b c d)).take n).getD x 0=((aY (aC n a b c d)).drop n).getD (g x) 0:=by
 have L:=p9 n a b c d
 have key:∀x,x<n->(aY (aC n a b c d)).getD x 0=(aY (aC n a b c d)).getD (n+g x) 0:=fun x hx=>by
  rw[qa _ (by omega),qa _ (by have:=h.lt x hx;omega),Mn n a b c d hx,Mo n a b c d (h.lt x hx),Vq h ha hab hc hx]
 refine⟨?_,fun x hx=>?_⟩
 ·rw[kB,AM]
  intro v hv
  obtain⟨q,hq,rfl⟩:=Ay hv;rw[kC]at hq;rw[<-cg _ 0 q (by rw[kC];exact hq),AQ]
  have:=Mq n (aY (aC n a b c d)) (aQ (aC n a b c d)).length (fun i hi=>Ew _ (by rwa[ou]at hi)) hq (aC n a b c d).length (by rw[ou];exact AE _)
  rw[this,L,show 2*n=n+n by omega,List.range_add,CA,CA,CZ,CZ]
  have z1:(List.range n).countP (((fun j=>decide ((aY (aC n a b c d)).getD j 0=(q:Int))&&decide (j<n))) ∘ fun x=>n+x)=0:=by
   rw[List.countP_eq_zero];intro x hx;simp
  have z2:(List.range n).countP (fun j=>decide ((aY (aC n a b c d)).getD j 0=(q:Int))&&!decide (j<n))=0:=by
   rw[List.countP_eq_zero];intro x hx;have:=AW.1 hx;simp;omega
  have z3:(List.range n).countP (((fun j=>decide ((aY (aC n a b c d)).getD j 0=(q:Int))&&!decide (j<n))) ∘ fun x=>n+x)=(List.range n).countP (fun j=>decide ((aY (aC n a b c d)).getD j 0=(q:Int))&&decide (j<n)):=by
   rw[<-(Eu h.lt h.inj).countP_eq,CZ];refine List.countP_congr fun x hx=>?_
   have hx:=AW.1 hx
   have k2:=key x hx
   simp only[Function.comp,hx,decide_true,B9,AQ,AG,<-k2,Ca,C3,Nat.not_lt,Nat.le_add_right,Be]
  rw[z1,z2,z3];omega
 ·rw[pq _ _ _ _ hx,Rn];exact key x hx
theorem Vt{n:Nat}{a b:Dd}{g:Nat->Nat}(h:IsoG n a b g)(ha:bN n a)(hab:b.length=a.length){c d:Db}(hc:∀x,x<n->c.getD x 0=d.getD (g x) 0) :
  ∃c' d' m,mE n a b c d=some (c',d',m)/\∀x,x<n->c'.getD x 0=d'.getD (g x) 0:=by
 obtain⟨h1,h2⟩:=Vs h ha hab hc;exact⟨_,_,_,by unfold mE;dsimp only;rw[if_pos h1],h2⟩
theorem Mr{n:Nat}{a b:Dd}{g:Nat->Nat}(h:IsoG n a b g)(ha:bN n a)(hab:b.length=a.length):∀(fuel num:Nat) (c d:Db),c.length=n->d.length=n->mF c d num->2*n<fuel+num->num<=2*n ->
  (∀x,x<n->c.getD x 0=d.getD (g x) 0)->∃c' d',g4 n a b fuel num c d=some (c',d')/\∀x,x<n->c'.getD x 0=d'.getD (g x) 0
 |0,num,c,d,_,_,_,h1,h2,_=>by omega
 |fuel+1,num,c,d,hcl,hdl,hcov,h1,h2,hc=>by
  obtain⟨c',d',m,e,hc'⟩:=Vt h ha hab hc;obtain⟨l1,l2,l3,l4,_⟩:=Ex e;rw[g4,e];simp only;by_cases hm:m=num
  ·rw[AA hm];exact⟨c',d',rfl,hc'⟩
  ·rw[AB hm]
   have hle:num<=m:=by
    have:=Mp (n:=n) (a:=a) (b:=b) hcl hdl hcov
    unfold mE at e;dsimp only at e;split at e
    ·cases e;exact this
    ·cases e
   exact Mr h ha hab fuel m c' d' l1 l2 l4 (by omega) l3 hc'
def gF(n:Nat)(a b:Dd)(c d:Db):Option (Db×Db):=g4 n a b (2*n+1) 0 c d
theorem ur{n:Nat}{a b:Dd}{g:Nat->Nat}(h:IsoG n a b g)(ha:bN n a)(hab:b.length=a.length){c d:Db}(hcl:c.length=n)(hdl:d.length=n)(hc:∀x,x<n->c.getD x 0=d.getD (g x) 0) :
  ∃c' d',gF n a b c d=some (c',d')/\∀x,x<n->c'.getD x 0=d'.getD (g x) 0 :=
 Mr h ha hab _ _ c d hcl hdl (fun i hi=>by omega) (by omega) (by omega) hc
end Go.Sx
