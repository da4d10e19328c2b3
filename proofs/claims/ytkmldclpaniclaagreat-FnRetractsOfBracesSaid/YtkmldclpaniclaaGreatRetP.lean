/- RetP -/
import Derived.Test.YtkmldclpaniclaaGreatCirP
import Derived.Test.YtkmldclpaniclaaGreatBrdC
import Derived.Test.YtkmldclpaniclaaGreatNamD
import Derived.Test.YtkmldclpaniclaaGreatSoc
import Derived.Test.YtkmldclpaniclaaGreatLvl
import Derived.Test.YtkmldclpaniclaaGreatMapA
import Derived.Test.YtkmldclpaniclaaGreatRows
import Derived.JoinedOf
import Derived.KernelRfl
set_option linter.unusedSimpArgs false
set_option linter.unusedVariables false
set_option linter.defProp false
section
open Go Go.Proofs
namespace Go.Sx
def FR:List AD->Option Post
 | [.c (.ints .u8 η)]=>some ⟨True,.c (.bool (decide (4096<(η.length:Int)))),[]⟩
 |_=>none
theorem XB:Fits Tryz.prog 18 ⟨[],FR⟩:=by
 refine ffv (Γ:=af []) aG Tryz.func18 fun ds p h ξ=>?_
 unfold FR at h;split at h<;>cases h
 rename_i η
 refine⟨ah,ak,decide ((4096:Int)<(η.length:Int))=decide ((4096:Int)<(η.length:Int))/\True,by kernel_rfl,?_⟩
 simp only[aH]at ξ⊢
def FT:List AD->Option Post
 | [.c (.ints .i64 a),.c (.ints .i64 b)]=>some ⟨ar a.length,.c (.bool (decide (a=b))),[]⟩
 |_=>none
def N7(a:Db)(b:Db):Nat->Option Ann
 |0=>U' fun i=>⟨⟨[(0,G' a),(1,G' b),(5,D' i)],[]⟩,i<=a.length/\a.length=b.length/\a.take i=b.take i,a.length-i⟩
 |_=>none
theorem XE:Fits Tryz.prog 47 ⟨[],FT⟩:=by
 refine ffv (Γ:=af []) aG Tryz.func47 fun ds p h ξ=>?_
 unfold FT at h;split at h<;>cases h
 rename_i a b
 refine⟨ah,N7 a b,ab ((a.length:Int) != (b.length:Int)) (false=decide (a=b)/\True) ((∃x0:Nat,(x0<=a.length/\a.length=b.length/\List.take x0 a=List.take x0 b)/\a=a/\b=b/\(0:Int)=(x0:Int))/\∀x1:Nat,x1<=a.length/\a.length=b.length/\List.take x1 a=List.take x1 b->ab (decide ((x1:Int)<(a.length:Int))) (aa (x1:Int) a.length/\aa (x1:Int) b.length/\ab (a.getD (x1:Int).toNat (0:Int) != b.getD (x1:Int).toNat (0:Int)) (false=decide (a=b)/\True) (ae ((x1:Int)+(1:Int))/\∃x2:Nat,(x2<=a.length/\a.length=b.length/\List.take x2 a=List.take x2 b)/\a.length-x2<a.length-x1/\a=a/\b=b/\(x1:Int)+(1:Int)=(x2:Int))) (true=decide (a=b)/\True)),by kernel_rfl,?_⟩
 simp only[aH]at ξ⊢;refine⟨fun h=>?_,fun h=>⟨⟨0,⟨by omega,by omega,rfl⟩,by simp⟩,fun i hi=>⟨fun h1=>⟨by omega,by omega,fun h2=>?_,fun h2=>⟨by omega,i+1,⟨by omega,hi.2.1,?_⟩,by omega,by omega⟩⟩,fun h1=>?_⟩⟩⟩
 ·exact(AZ fun e=>h (by rw[e])).symm
 ·exact(AZ fun e=>h2 (by rw[e])).symm
 ·exact(I5 a b 0 i (by omega) (by omega) hi.2.2).2 h2
 ·refine(AY ?_).symm
  have:=hi.2.2
  rwa[AU (by omega),AU (by omega)]at this
def FW(η:Db)(b:Bd):Int:=aB η b.2.2.1 b.2.2.2 24
def gb(η:Db)(b:Bd):Int:=az η.length b.2.2.1 24
def gJ(b:Bd):Int:=aJ b.2.2.2 24
def qm(η:Db)(b:Bd):Int:=aB η (gb η b) (gJ b) (b.1.length:Int)
def N9(η:Db)(b:Bd):Int:=aB η (az η.length (gb η b) (b.1.length:Int)) (aJ (gJ b) (b.1.length:Int)) (b.1.length:Int)
def Oa(η:Db)(b:Bd):Int:=aB η (az η.length (az η.length (gb η b) (b.1.length:Int)) (b.1.length:Int)) (aJ (aJ (gJ b) (b.1.length:Int)) (b.1.length:Int)) ((b.1.length:Int)+1)
def g7(η:Db)(b:Bd):Bd :=
 if FW η b=0 then(b.1,(dB η (gb η b) (gJ b) (b.1.length:Int)).1,(dB η (gb η b) (gJ b) (b.1.length:Int)).2)
 else if FW η b=1 then(b.1.set (qm η b).toNat ((b.1.getD (qm η b).toNat []).set (N9 η b).toNat (Oa η b)),b.2.1,
  az η.length (az η.length (az η.length (gb η b) (b.1.length:Int)) (b.1.length:Int)) ((b.1.length:Int)+1),aJ (aJ (aJ (gJ b) (b.1.length:Int)) (b.1.length:Int)) ((b.1.length:Int)+1))
 else if FW η b=2 then(b.1,b.2.1.drop 1,gb η b,gJ b)
 else(b.1,b.2.1,gb η b,gJ b)
def dW(η:Db)(a h ζ:Int):Bd:=g7 η (aO η a h ζ)
theorem XF{η:Db}(hb:bG η){m:Nat}{b:Bd}(h:fI η m b)(hm:m<=12):aD (g7 η b).1/\aD (g7 η b).2.1/\(g7 η b).1.length<=m/\(g7 η b).2.1.length<=m/\0<=(g7 η b).2.2.1/\(g7 η b).2.2.1<=(η.length:Int):=by
 obtain⟨b1,b2,b3,b4,b5,b6⟩:=h;have s:=dN (n:=24) b5 b6
 have A1:0<=gb η b/\gb η b<=(η.length:Int):=s
 have R1:=qb b3 (by omega)
 have R2:=qb b4 (by omega)
 have l4:=b4.1
 unfold g7;split
 ·obtain⟨K,_⟩:=nQ hb (h:=gJ b) A1.1 A1.2 (ζ:=(b.1.length:Int)) (by omega) (by omega)
  obtain⟨k1,k2,k3,k4,k5⟩:=yJ hb K;exact⟨R1,qb k3 (by omega),b2,An k2 (by omega),k4,k5⟩
 ·split
  ·have s2:=dN (n:=(b.1.length:Int)) A1.1 A1.2
   have s3:=dN (n:=(b.1.length:Int)) s2.1 s2.2
   have s4:=dN (n:=(b.1.length:Int)+1) s3.1 s3.2
   refine⟨⟨by rw[Ai];exact R1.1,fun r hr=>?_⟩,R2,by rw[Ai];exact b2,An (Nat.le_of_eq l4) b2,s4.1,s4.2⟩
   rcases C8 hr with hr|rfl
   ·exact R1.2 r hr
   ·rw[Ai]
    by_cases q:(qm η b).toNat<b.1.length
    ·exact R1.2 _ (cU _ [] _ q)
    ·rw[AN,A7 (by omega)];simp
  ·split
   ·have dl:(b.2.1.drop 1).length<=m:=by rw[A6];omega
    exact⟨R1,⟨An dl (by omega),fun r hr=>R2.2 r (List.mem_of_mem_drop hr)⟩,b2,dl,A1.1,A1.2⟩
   ·exact⟨R1,R2,b2,An (Nat.le_of_eq l4) b2,A1.1,A1.2⟩
def FX:List AD->Option Post
 | [.box [.ints .u8 η,.int .i64 a,.int .u64 h],.c (.int .i64 ζ)]=>some ⟨bG η/\η.length<=4096/\0<=a/\a<=(η.length:Int)/\1<=ζ/\ζ<=12,.agg [.rows 62 2 .i64 (dW η a h ζ).1,.ro (.rows .i64 ((dW η a h ζ).2.1))],[.bx [.ints .u8 η,.int .i64 ((dW η a h ζ).2.2.1),.int .u64 ((dW η a h ζ).2.2.2)]]⟩
 |_=>none
def Oc(η:Db)(a:Int)(h:Int)(ζ:Int):Nat->Option Ann
 |1002=>some (Ann.mk ((Unit)) (fun u=>⟨[(0,N' 700),(4,N' 4),(5,N' 5)],[(4,T' [.nil,.nil]),(5,T' [.own 105,.ro (.rows .i64 ((aO η a h ζ).2.1))]),(105,O' ((aO η a h ζ).1)),(700,T' [.orig 700 0 (.ints .u8 η),.int .i64 ((aO η a h ζ).2.2.1),.int .u64 ((aO η a h ζ).2.2.2)])]⟩) (fun u=>True) (fun u=>0) (fun _=>ak))
 |_=>none
def dr(η:Db)(a:Int)(h:Int)(ζ:Int):=(↑(((aO η a h ζ).1).length):Int)
def jh(η:Db)(a:Int)(h:Int)(ζ:Int):=(az η.length ((((aO η a h ζ).2).2).1) (24:Int))
def iK(η:Db)(a:Int)(h:Int)(ζ:Int):=(aJ ((((aO η a h ζ).2).2).2) (24:Int))
def mK(η:Db)(a:Int)(h:Int)(ζ:Int):=(az η.length (jh η a h ζ) (dr η a h ζ))
theorem XI:Fits Tryz.prog 107 ⟨[(0,0)],FX⟩:=by
 refine ffv (Γ:=af [(77,⟨[(0,0)],nY⟩),(151,⟨[(0,0)],sj⟩),(150,⟨[(0,0)],pF 2⟩)]) (aj sE (aj Jy (aj (Sn 2) aG))) Tryz.func107 fun ds p h ξ=>?_
 unfold FX at h;split at h<;>cases h
 rename_i η a h ζ
 refine⟨ah,Oc η a h ζ,(((bG η/\η.length<=(4096:Nat)/\(0:Int)<=a/\a<=(η.length:Int)/\(1:Int)<=ζ/\(ζ<=(7:Int)/\(1:Nat)<=(2:Nat)\/ζ<=(12:Int)/\(2:Nat)<=(2:Nat)))/\η=η/\True)/\∃x0:Unit,True/\((aO η a h ζ).2).1=((aO η a h ζ).2).1/\(aO η a h ζ).1=(aO η a h ζ).1/\η=η/\(((aO η a h ζ).2).2).1=(((aO η a h ζ).2).2).1/\(((aO η a h ζ).2).2).2=(((aO η a h ζ).2).2).2)/\∀x1:Unit,True->((bG η/\(0:Int)<=(((aO η a h ζ).2).2).1/\(((aO η a h ζ).2).2).1<=(1099511627776:Int))/\η=η/\True)/\ab (aB η ((((aO η a h ζ).2).2).1) ((((aO η a h ζ).2).2).2) (24:Int) == (0:Int)) (((bG η/\η.length<=(4096:Nat)/\(0:Int)<=az η.length ((((aO η a h ζ).2).2).1) (24:Int)/\az η.length ((((aO η a h ζ).2).2).1) (24:Int)<=(η.length:Int)/\(1:Int)<=(dr η a h ζ)/\(dr η a h ζ)<=(12:Int))/\η=η/\True)/\((aO η a h ζ).1=(dW η a h ζ).1/\(dB η (jh η a h ζ) (iK η a h ζ) (dr η a h ζ)).1=((dW η a h ζ).2).1/\True)/\(η=η/\((dB η (jh η a h ζ) (iK η a h ζ) (dr η a h ζ)).2).1=(((dW η a h ζ).2).2).1/\((dB η (jh η a h ζ) (iK η a h ζ) (dr η a h ζ)).2).2=(((dW η a h ζ).2).2).2/\True)/\True) (ab (aB η ((((aO η a h ζ).2).2).1) ((((aO η a h ζ).2).2).2) (24:Int) == (1:Int)) (((bG η/\(0:Int)<=az η.length ((((aO η a h ζ).2).2).1) (24:Int)/\az η.length ((((aO η a h ζ).2).2).1) (24:Int)<=(1099511627776:Int))/\η=η/\True)/\aa (aB η (jh η a h ζ) (iK η a h ζ) (dr η a h ζ)) (((aO η a h ζ).1).length)/\((bG η/\(0:Int)<=az η.length (jh η a h ζ) (dr η a h ζ)/\az η.length (jh η a h ζ) (dr η a h ζ)<=(1099511627776:Int))/\η=η/\True)/\ae ((dr η a h ζ)+(1:Int))/\((bG η/\(0:Int)<=az η.length (mK η a h ζ) (dr η a h ζ)/\az η.length (mK η a h ζ) (dr η a h ζ)<=(1099511627776:Int))/\η=η/\True)/\aa (aB η (mK η a h ζ) (aJ (iK η a h ζ) (dr η a h ζ)) (dr η a h ζ)) ((((aO η a h ζ).1).getD ((aB η (jh η a h ζ) (iK η a h ζ) (dr η a h ζ)).toNat) []).length)/\(List.set (aO η a h ζ).1 ((aB η (jh η a h ζ) (iK η a h ζ) (dr η a h ζ)).toNat) (List.set (((aO η a h ζ).1).getD ((aB η (jh η a h ζ) (iK η a h ζ) (dr η a h ζ)).toNat) []) ((aB η (mK η a h ζ) (aJ (iK η a h ζ) (dr η a h ζ)) (dr η a h ζ)).toNat) (aB η (az η.length (mK η a h ζ) (dr η a h ζ)) (aJ (aJ (iK η a h ζ) (dr η a h ζ)) (dr η a h ζ)) ((dr η a h ζ)+(1:Int))))=(dW η a h ζ).1/\((aO η a h ζ).2).1=((dW η a h ζ).2).1/\True)/\(η=η/\az η.length (az η.length (mK η a h ζ) (dr η a h ζ)) ((dr η a h ζ)+(1:Int))=(((dW η a h ζ).2).2).1/\aJ (aJ (aJ (iK η a h ζ) (dr η a h ζ)) (dr η a h ζ)) ((dr η a h ζ)+(1:Int))=(((dW η a h ζ).2).2).2/\True)/\True) (ab (aB η ((((aO η a h ζ).2).2).1) ((((aO η a h ζ).2).2).2) (24:Int) == (2:Int)) (bD ((((aO η a h ζ).2).1).length) (Option.some (1:Int)) Option.none/\((aO η a h ζ).1=(dW η a h ζ).1/\bZ (((aO η a h ζ).2).1) (Option.some (1:Int)) Option.none=((dW η a h ζ).2).1/\True)/\(η=η/\az η.length ((((aO η a h ζ).2).2).1) (24:Int)=(((dW η a h ζ).2).2).1/\aJ ((((aO η a h ζ).2).2).2) (24:Int)=(((dW η a h ζ).2).2).2/\True)/\True) (((aO η a h ζ).1=(dW η a h ζ).1/\((aO η a h ζ).2).1=((dW η a h ζ).2).1/\True)/\(η=η/\az η.length ((((aO η a h ζ).2).2).1) (24:Int)=(((dW η a h ζ).2).2).1/\aJ ((((aO η a h ζ).2).2).2) (24:Int)=(((dW η a h ζ).2).2).2/\True)/\True))),by kernel_rfl,?_⟩
 simp only[dr,jh,iK,mK,aH]at ξ⊢;obtain⟨hb,hc,h0,h1,h2,h3⟩:=ξ;have L:=JM hb (h:=h) h0 h1 h2 h3
 refine⟨⟨⟨hb,hc,h0,h1,h2,by omega⟩,⟨⟩,trivial⟩,fun _ _=>?_⟩
 have e:dW η a h ζ=g7 η (aO η a h ζ):=rfl
 rw[e];generalize aO η a h ζ=b at *
 obtain⟨b1,b2,b3,b4,b5,b6⟩:=L;have s:=dN (n:=24) b5 b6
 have s2:=dN (n:=(b.1.length:Int)) s.1 s.2
 have s3:=dN (n:=(b.1.length:Int)) s2.1 s2.2
 have I:=iv hb (az η.length b.2.2.1 24) (aJ b.2.2.2 24) (n:=(b.1.length:Int)) (by omega)
 have J:=iv hb (az η.length (az η.length b.2.2.1 24) (b.1.length:Int)) (aJ (aJ b.2.2.2 24) (b.1.length:Int)) (n:=(b.1.length:Int)) (by omega)
 refine⟨⟨hb,b5,by omega⟩,fun z=>?_,fun z=>⟨fun z2=>?_,fun z2=>⟨fun z3=>?_,fun z3=>?_⟩⟩⟩
 ·have R:g7 η b=(b.1,(dB η (gb η b) (gJ b) (b.1.length:Int)).1,(dB η (gb η b) (gJ b) (b.1.length:Int)).2):=AA z
  rw[R];exact⟨⟨hb,hc,s.1,s.2,by omega,by omega⟩,⟨rfl,rfl⟩,rfl,rfl⟩
 ·have R:g7 η b=(b.1.set (qm η b).toNat ((b.1.getD (qm η b).toNat []).set (N9 η b).toNat (Oa η b)),b.2.1,
      az η.length (az η.length (az η.length (gb η b) (b.1.length:Int)) (b.1.length:Int)) ((b.1.length:Int)+1),aJ (aJ (aJ (gJ b) (b.1.length:Int)) (b.1.length:Int)) ((b.1.length:Int)+1)):=(AB z).trans (AA z2)
  rw[R];have row:=(b3.2 (aB η (az η.length b.2.2.1 24) (aJ b.2.2.2 24) (b.1.length:Int)).toNat (by omega)).1
  exact⟨⟨hb,s.1,by omega⟩,by omega,⟨hb,s2.1,by omega⟩,by omega,⟨hb,s3.1,by omega⟩,by rw[row];omega,⟨rfl,rfl⟩,rfl,rfl⟩
 ·have R:g7 η b=(b.1,b.2.1.drop 1,gb η b,gJ b):=(AB z).trans ((AB z2).trans (AA z3))
  rw[R];have l4:=b4.1
  exact⟨by omega,⟨rfl,rfl⟩,rfl,rfl⟩
 ·have R:g7 η b=(b.1,b.2.1,gb η b,gJ b):=(AB z).trans ((AB z2).trans (AB z3))
  rw[R];exact⟨⟨rfl,rfl⟩,rfl,rfl⟩
def FZ:List AD->Option Post
 | [.agg [.rows .i64 a,.rows .i64 c]]=>some ⟨aD a/\aD c,.tup [.inl (.int .i64 (if bM a c=true then am a c else 0)),.inl (.int .i64 (if bM a c=true then 0 else 1))],[]⟩
 |_=>none
theorem XL:Fits Tryz.prog 24 ⟨[],FZ⟩:=by
 refine ffv (Γ:=af [(36,⟨[],nO⟩),(59,⟨[],tS⟩)]) (aj rZ (aj Lv aG)) Tryz.func24 fun ds p h ξ=>?_
 unfold FZ at h;split at h<;>cases h
 rename_i a c
 refine⟨ah,ak,((aD a/\aD c)/\True)/\ab (!bM a c) ((((0:Int)=if bM a c=true then am a c else(0:Int))/\((1:Int)=if bM a c=true then(0:Int)else(1:Int))/\True)/\True) (((aM a=true/\aM c=true/\c.length=a.length)/\True)/\((am a c=if bM a c=true then am a c else(0:Int))/\((0:Int)=if bM a c=true then(0:Int)else(1:Int))/\True)/\True),by kernel_rfl,?_⟩
 simp only[aH]at ξ⊢;refine⟨ξ,fun b=>by simp[b],fun b=>?_⟩
 obtain⟨ta,tc,hl,_⟩:=oD b;exact⟨⟨ta,tc,hl⟩,by simp[b],by simp[b]⟩
def F3:List AD->Option Post
 | [.c (.rows .i64 a),.c (.rows .i64 b)]=>some ⟨aD a,.c (.bool (decide (a=b))),[]⟩
 |_=>none
def Of(a:Dc)(b:Dc):Nat->Option Ann
 |0=>U' fun i=>⟨⟨[(0,I' a),(1,I' b),(5,D' i)],[]⟩,i<=a.length/\a.length=b.length/\a.take i=b.take i,a.length-i⟩
 |_=>none
theorem XO:Fits Tryz.prog 39 ⟨[],F3⟩:=by
 refine ffv (Γ:=af [(47,⟨[],FT⟩)]) (aj XE aG) Tryz.func39 fun ds p h ξ=>?_
 unfold F3 at h;split at h<;>cases h
 rename_i a b
 refine⟨ah,Of a b,ab ((a.length:Int) != (b.length:Int)) (false=decide (a=b)/\True) ((∃x0:Nat,(x0<=a.length/\a.length=b.length/\List.take x0 a=List.take x0 b)/\a=a/\b=b/\(0:Int)=(x0:Int))/\∀x1:Nat,x1<=a.length/\a.length=b.length/\List.take x1 a=List.take x1 b->ab (decide ((x1:Int)<(a.length:Int))) (aa (x1:Int) a.length/\aa (x1:Int) b.length/\(ar ((a.getD (x1:Int).toNat []).length)/\True)/\ab (!decide (a.getD (x1:Int).toNat []=b.getD (x1:Int).toNat [])) (false=decide (a=b)/\True) (ae ((x1:Int)+(1:Int))/\∃x2:Nat,(x2<=a.length/\a.length=b.length/\List.take x2 a=List.take x2 b)/\a.length-x2<a.length-x1/\a=a/\b=b/\(x1:Int)+(1:Int)=(x2:Int))) (true=decide (a=b)/\True)),by kernel_rfl,?_⟩
 simp only[aH]at ξ⊢;have hk:=ξ.1
 refine⟨fun h=>(AZ fun e=>h (by rw[e])).symm,fun h=>⟨⟨0,⟨by omega,by omega,rfl⟩,rfl⟩,fun i ⟨hi,hl,he⟩=>⟨fun g=>⟨by omega,by omega,ξ.2 _ (cU a [] i (by omega)),fun q=>(AZ fun e=>q (by rw[e])).symm,fun q=>⟨by omega,i+1,⟨by omega,hl,(I5 a b [] i (by omega) (by omega) he).2 q⟩,by omega,by omega⟩⟩,fun g=>?_⟩⟩⟩
 rw[AU (by omega),AU (by omega)]at he
 exact(AY he).symm
theorem XP{p:Int->Bool}{k j:Nat}(hj:j<k)(hp:p (2*(j:Int)+1)=true):2*(j:Int)+1∈lz p k:=by
 simp only[lz,AT,BH,AW];exact⟨j,⟨hj,hp⟩,rfl⟩
theorem XQ{n:Nat}(h:1<=n):((2 ^ n-1:Nat):Int)=2*((2 ^ (n-1)-1:Nat):Int)+1:=by
 obtain⟨m,rfl⟩:∃m,n=m+1:=⟨n-1,by omega⟩
 have:=Ck m 2 (by omega)
 rw[Cr,Bg];omega
set_option linter.unusedSectionVars false
structure IdN (n:Nat) (A C:Nat->Nat->Nat) (P:Nat->Prop):Prop where
 dom:∀x,P x->x<n
 zero:P 0
 add:∀x y,P x->P y->P (A x y)
 lam:∀x i y,x<n->i<n->A x i=0->P y->P (A i (C x y))
 na:∀x i y,x<n->i<n->A x i=0->P y->P (A (A x y) i)
 nc:∀x j y,x<n->j<n->C x j=0->P y->P (C (C x y) j)
section
variable {n:Nat} {A C:Nat->Nat->Nat} (B:BrN n A C)
include B
theorem XR{x y z:Nat}(hx:x<n)(hy:y<n)(hz:z<n)(h:A x y=A x z):y=z:=by
 obtain⟨i,hi,h2⟩:=B.ainv x hx;have h3:=qo B hx hi h2
 rw[<-B.a0l y hy,<-B.a0l z hz,<-h3,B.aas i x y hi hx hy,B.aas i x z hi hx hz,h]
theorem XS{x y z:Nat}(hx:x<n)(hy:y<n)(hz:z<n)(h:C x y=C x z):y=z:=by
 obtain⟨i,hi,h2⟩:=B.cinv x hx;have h3:=Gd B hx hi h2
 rw[<-B.c0l y hy,<-B.c0l z hz,<-h3,B.cas i x y hi hx hy,B.cas i x z hi hx hz,h]
variable {P:Nat->Prop} (I:IdN n A C P)
include I
end
set_option linter.unusedSectionVars false
section
variable {a c:Dc} (B:dK a c) {s:Int} (I:IdN a.length (tA a) (tA c) (fun t=>bitB s t=true))
include B I
end
def vQ(a c:Dc):Db:=lz (gE a c) (2 ^ (a.length-1))
theorem mL{a:Dc}{s:Int}(S:cQ a s){t:Nat}(h:bitB s t=true):t<a.length:=by
 refine BU fun hn=>?_
 have p:2 ^ a.length<=2 ^ t:=Bh (by omega) (by omega)
 have:=S.2.2
 have q:s.toNat.testBit t=false:=Nat.testBit_lt_two_pow (by omega)
 rw[bitB,q]at h;cases h
theorem Oh(a c:Dc){x y:Nat}(hx:x<a.length)(hy:y<a.length):en (aS a c) x y=en a (bk a x).toNat (en c x y).toNat:=by
 show((aS a c).getD x []).getD y 0=_
 rw[aS,fG _ _ _ hx,cj _ _ _ hy];rfl
theorem XT{a c:Dc}(B:dK a c):(∀x i,x<a.length->i<a.length->tA a x i=0->(bk a x).toNat=i)/\(∀x j,x<a.length->j<a.length->tA c x j=0->(bk c x).toNat=j) /\
  (∀x,x<a.length->(bk a x).toNat<a.length/\tA a x (bk a x).toNat=0)/\∀x,x<a.length->(bk c x).toNat<a.length/\tA c x (bk c x).toNat=0:=by
 have b:=jc (uA B)
 have fa:=(lE b.1).2.2.2
 have fc:=(lE b.2.1).2.2.2
 rw[<-b.2.2.1]at fc;exact⟨fun x i hx hi h=>XR B.2.2.2 hx (fa x hx).1 hi ((fa x hx).2.trans h.symm),fun x j hx hj h=>XS B.2.2.2 hx (fc x hx).1 hj ((fc x hx).2.trans h.symm),fa,fc⟩
theorem Oi{a c:Dc}(B:dK a c){s:Int}(S:cQ a s):gE a c s=true↔IdN a.length (tA a) (tA c) (fun t=>bitB s t=true):=by
 obtain⟨ua,uc,fa,fc⟩:=XT B;have hl:=B.2.2.1
 simp only[gE,eV,AG,iF,zT,fp,zU,fe,zV,AM,AW]
 constructor
 ·rintro⟨⟨⟨⟨h0,hc⟩,hm⟩,hna⟩,hnc⟩
  refine⟨fun x=>mL S,h0,fun x y px py=>?_,fun x i y hx hi h py=>?_,fun x i y hx hi h py=>?_,fun x j y hx hj h py=>?_⟩
  ·have q:=hc x (mL S px) y (mL S py)
   rw[tB,px,py]at q;exact q
  ·have q:=hm x hx y (mL S py)
   rw[tC,py,Oh a c hx (mL S py),ua x i hx hi h]at q;exact q
  ·have q:=hna x hx y (mL S py)
   rw[pQ,py,ua x i hx hi h]at q;exact q
  ·have q:=hnc x (by omega) y (by have:=mL S py;omega)
   rw[pQ,py,uc x j hx hj h]at q;exact q
 ·intro I
  refine⟨⟨⟨⟨I.zero,fun x hx y hy=>?_⟩,fun x hx y hy=>?_⟩,fun x hx y hy=>?_⟩,fun x hx y hy=>?_⟩
  ·rw[tB]
   cases px:bitB s x
   ·simp
   ·cases py:bitB s y
    ·simp
    ·exact I.add x y px py
  ·rw[tC,Oh a c hx hy]
   cases py:bitB s y
   ·rfl
   ·exact I.lam x _ y hx (fa x hx).1 (fa x hx).2 py
  ·rw[pQ]
   cases py:bitB s y
   ·rfl
   ·exact I.na x _ y hx (fa x hx).1 (fa x hx).2 py
  ·rw[pQ]
   cases py:bitB s y
   ·rfl
   ·exact I.nc x _ y (by omega) (fc x (by omega)).1 (fc x (by omega)).2 py
theorem XU{a:Dc}{p:Int->Bool}{s:Int}(S:cQ a s)(h0:bitB s 0=true):s∈lz p (2 ^ (a.length-1))↔p s=true:=by
 have n1:=(bT S.1).1
 have o:s.toNat % 2=1:=by
  rw[bitB,Nat.testBit_zero,AQ]at h0;exact h0
 have e:=XQ (n:=a.length) (by omega)
 have u:=S.2.2
 have v:=S.2.1
 obtain⟨m,hm⟩:∃m,a.length=m+1:=⟨a.length-1,by omega⟩
 have w:s.toNat<2*2 ^ m:=by rw[hm,Bg]at u;omega
 have es:s=2*((s.toNat / 2:Nat):Int)+1:=by omega
 constructor
 ·intro h
  simp only[lz,AT,BH]at h;obtain⟨j,⟨_,hp⟩,rfl⟩:=h;exact hp
 ·intro h
  rw[es];refine XP ?_ (by rw[<-es];exact h)
  rw[hm,Cr];omega
theorem XV{a c:Dc}(B:dK a c){s:Int}(h:s∈vQ a c):cQ a s/\gE a c s=true/\IdN a.length (tA a) (tA c) (fun t=>bitB s t=true):=by
 obtain⟨j,hj,e⟩:=Uu h;have S:cQ a s:=by rw[e];exact Ut B.1 hj
 simp only[vQ,lz,AT,BH]at h;obtain⟨j,⟨_,hp⟩,rfl⟩:=h;exact⟨S,hp,(Oi B S).1 hp⟩
theorem XW{a c:Dc}(B:dK a c){s:Int}(S:cQ a s)(I:IdN a.length (tA a) (tA c) (fun t=>bitB s t=true)):s∈vQ a c :=
 (XU S I.zero).2 ((Oi B S).2 I)
set_option linter.unusedSectionVars false
section
variable {n:Nat} {A C:Nat->Nat->Nat} (B:BrN n A C)
include B
theorem XX:IdN n A C (ft n A C):=by
 refine⟨fun x h=>h.1,Ge B,fun x y hx hy=>vY B hx hy,fun x i y hx hi h hy=>(vZ B hx hy hi h).1,fun x i y hx hi h hy=>?_,fun x j y hx hj h hy=>?_⟩
 ·have e:A (A x y) i=y:=by rw[<-(hy.2 x hx).2,B.aas y x i hy.1 hx hi,h,B.a0r y hy.1]
  rw[e];exact hy
 ·obtain⟨i,hi,h2⟩:=B.ainv x hx
  obtain⟨u,eu⟩:=vZ B hx hy hi h2;have ew:C (A i (C x y)) x=C x y:=by rw[(u.2 x hx).1,(u.2 x hx).2,eu]
  have e:C (C x y) j=A i (C x y) :=
   calc C (C x y) j=C (C (A i (C x y)) x) j:=by rw[ew]
    _=C (A i (C x y)) (C x j):=B.cas _ x j u.1 hx hj
    _=A i (C x y):=by rw[h,B.c0r _ u.1]
  rw[e];exact u
end
theorem IdN.congr{n:Nat}{A C:Nat->Nat->Nat}{P Q:Nat->Prop}(I:IdN n A C P)(h:∀t,Q t↔P t):IdN n A C Q:=by
 have:Q=P:=funext fun t=>propext (h t)
 rw[this];exact I
section
variable {a c:Dc} (B:dK a c)
include B
theorem XY:am a c∈vQ a c:=XW B (oC B.1 c) ((XX B.2.2.2).congr fun t=>oE B t)
end
section
variable {a c:Dc} (B:dK a c)
include B
end
end Go.Sx
end
section
namespace Go.Proofs.YtkmldclpaniclaaGreat
theorem mM{x y:Bool}(h:x=true)(k:y=true):(x&&y)=true:=by rw[h,k];rfl
set_option maxRecDepth 10000000 in
def vR:{ l:List Char // Tryz.prog.initOrder=String.ofList l }:=⟨_,rfl⟩
theorem XZ:Tryz.prog.initOrder.toList=vR.1:=(congrArg String.toList vR.2).trans String.toList_ofList
theorem vS:∃rest,behindMainWord (wordsSigns Tryz.prog.initOrder.toList)=['c','u','t']::rest:=by
 rw[XZ];have h:(behindMainWord (wordsSigns vR.1)).head?=some ['c','u','t']:=by kernel_rfl
 cases hb:behindMainWord (wordsSigns vR.1)with
 |nil=>rw[hb]at h;cases h
 |cons x y=>rw[hb]at h;cases h;exact⟨y,rfl⟩
theorem Oj(rest:List (List Char)):stripLifts liftWords (['c','u','t']::rest)=([],['c','u','t']::rest):=by rfl
theorem X0:Tryz.prog.headLifts=[]:=by
 obtain⟨rest,h⟩:=vS;unfold Program.headLifts;rw[h,Oj];rfl
theorem X1:Tryz.prog.laysLater=false:=by kernel_rfl
theorem X2:Tryz.prog.bearsReflect=false:=by kernel_rfl
theorem X3:Tryz.prog.doorRows=[]:=by kernel_rfl
theorem X4:Tryz.prog.doorFits []=true:=by
 unfold Program.doorFits;rw[X3];rfl
theorem X5(P:Program)(rest:List (List Char))(h:behindMainWord (wordsSigns P.initOrder.toList)=['c','u','t']::rest)(h1:P.laysLater=false)(h2:P.bearsReflect=false)(h3:P.doorFits []=true):P.mayEnter=true:=by
 unfold Program.mayEnter;rw[h];simp only[Oj,h1,h2,h3];simp
theorem X6(P:Program)(rest:List (List Char))(h:behindMainWord (wordsSigns P.initOrder.toList)=['c','u','t']::rest)(h1:P.headLifts=[]):(false == P.liftsFinal)=true:=by
 unfold Program.liftsFinal;rw[h,h1];rfl
theorem X7(P:Program)(rest:List (List Char))(h:behindMainWord (wordsSigns P.initOrder.toList)=['c','u','t']::rest):(P.make == some Make.cut)=true:=by
 have e1:(['c','u','t'] == "gc".toList)=false:=rfl
 have e2:(['c','u','t'] == "spec".toList)=false:=rfl
 have e3:(['c','u','t'] == "cut".toList)=true:=rfl
 unfold Program.make;rw[h];simp only[e1,e2,e3,Bool.or_false,Bool.true_or,Bool.false_eq_true,if_true,if_false];rfl
theorem X8:Tryz.prog.mayEnter=true:=by
 obtain⟨rest,h⟩:=vS;exact X5 _ rest h X1 X2 X4
theorem X9:(false == Tryz.prog.liftsFinal)=true:=by
 obtain⟨rest,h⟩:=vS;exact X6 _ rest h X0
theorem Ya:(Tryz.prog.make == some Make.cut)=true:=by
 obtain⟨rest,h⟩:=vS;exact X7 _ rest h
end Go.Proofs.YtkmldclpaniclaaGreat
end
section
open Go Go.Proofs
namespace Go.Sx
structure BrV (n:Nat) (A C:Nat->Nat->Nat) (N M:Nat->Nat) (s r:Nat->Nat->Nat):Prop where
 b:BrN n A C
 n1:∀x,x<n->N x<n/\A x (N x)=0
 m1:∀x,x<n->M x<n/\C x (M x)=0
 s1:∀x y,x<n->y<n->s x y=A (N x) (C x y)
 r1:∀x y,x<n->y<n->r x y=C (M (s x y)) (C x y)
section
variable {n:Nat} {A C:Nat->Nat->Nat} {N M:Nat->Nat} {s r:Nat->Nat->Nat} (V:BrV n A C N M s r)
include V
theorem BrV.nx{x:Nat}(hx:x<n):A (N x) x=0:=qo V.b hx (V.n1 x hx).1 (V.n1 x hx).2
theorem BrV.mx{x:Nat}(hx:x<n):C (M x) x=0:=Gd V.b hx (V.m1 x hx).1 (V.m1 x hx).2
theorem BrV.canA{x y z:Nat}(hx:x<n)(hy:y<n)(hz:z<n)(e:A x y=A x z):y=z:=by
 have i:=(V.n1 x hx).1
 rw[<-V.b.a0l y hy,<-V.nx hx,V.b.aas _ x y i hx hy,e,<-V.b.aas _ x z i hx hz,V.nx hx,V.b.a0l z hz]
theorem BrV.canC{x y z:Nat}(hx:x<n)(hy:y<n)(hz:z<n)(e:C x y=C x z):y=z:=by
 have i:=(V.m1 x hx).1
 rw[<-V.b.c0l y hy,<-V.mx hx,V.b.cas _ x y i hx hy,e,<-V.b.cas _ x z i hx hz,V.mx hx,V.b.c0l z hz]
theorem BrV.ranA{x y z:Nat}(hx:x<n)(hy:y<n)(hz:z<n)(e:A y x=A z x):y=z:=by
 obtain⟨i,h⟩:=V.n1 x hx;rw[<-V.b.a0r y hy,<-h,<-V.b.aas y x _ hy hx i,e,V.b.aas z x _ hz hx i,h,V.b.a0r z hz]
theorem BrV.ranC{x y z:Nat}(hx:x<n)(hy:y<n)(hz:z<n)(e:C y x=C z x):y=z:=by
 obtain⟨i,h⟩:=V.m1 x hx;rw[<-V.b.c0r y hy,<-h,<-V.b.cas y x _ hy hx i,e,V.b.cas z x _ hz hx i,h,V.b.c0r z hz]
theorem BrV.sl{x y:Nat}(hx:x<n)(hy:y<n):s x y<n:=by rw[V.s1 x y hx hy];exact V.b.ain _ _ (V.n1 x hx).1 (V.b.cin x y hx hy)
theorem BrV.rl{x y:Nat}(hx:x<n)(hy:y<n):r x y<n:=by rw[V.r1 x y hx hy];exact V.b.cin _ _ (V.m1 _ (V.sl hx hy)).1 (V.b.cin x y hx hy)
theorem BrV.xs{x y:Nat}(hx:x<n)(hy:y<n):A x (s x y)=C x y:=by
 have c:=V.b.cin x y hx hy
 rw[V.s1 x y hx hy,<-V.b.aas x _ _ hx (V.n1 x hx).1 c,(V.n1 x hx).2,V.b.a0l _ c]
theorem BrV.pr{x y:Nat}(hx:x<n)(hy:y<n):C (s x y) (r x y)=C x y:=by
 have c:=V.b.cin x y hx hy
 have k:=V.sl hx hy
 rw[V.r1 x y hx hy,<-V.b.cas _ _ _ k (V.m1 _ k).1 c,(V.m1 _ k).2,V.b.c0l _ c]
theorem BrV.sadd{x y z:Nat}(hx:x<n)(hy:y<n)(hz:z<n):s x (A y z)=A (s x y) (s x z):=by
 obtain⟨i,h⟩:=V.n1 x hx;have c1:=V.b.cin x y hx hy
 have c2:=V.b.cin x z hx hz
 rw[V.s1 x _ hx (V.b.ain y z hy hz),V.s1 x y hx hy,V.s1 x z hx hz,V.b.brc x y z _ hx hy hz i h,<-V.b.aas _ _ _ i (V.b.ain _ _ c1 i) c2,<-V.b.aas _ _ _ i c1 i,V.b.aas _ _ _ (V.b.ain _ _ i c1) i c2]
theorem BrV.sact{x y z:Nat}(hx:x<n)(hy:y<n)(hz:z<n):s (C x y) z=s x (s y z):=by
 have c:=V.b.cin x y hx hy
 have d:=V.sl hy hz
 refine V.canA c (V.sl c hz) (V.sl hx d) ?_
 rw[V.xs c hz,V.b.cas x y z hx hy hz,<-V.xs hx (V.b.cin y z hy hz),<-V.xs hy hz,V.sadd hx hy d,<-V.b.aas _ _ _ hx (V.sl hx hy) (V.sl hx d),V.xs hx hy]
theorem BrV.s0{y:Nat}(hy:y<n):s 0 y=y:=by
 have h:=V.xs V.b.pos hy
 rwa[V.b.a0l _ (V.sl V.b.pos hy),V.b.c0l y hy]at h
theorem BrV.sz{x:Nat}(hx:x<n):s x 0=0:=by
 refine V.canA hx (V.sl hx V.b.pos) V.b.pos ?_
 rw[V.xs hx V.b.pos,V.b.c0r x hx,V.b.a0r x hx]
theorem BrV.sinj{x y z:Nat}(hx:x<n)(hy:y<n)(hz:z<n)(e:s x y=s x z):y=z:=by
 refine V.canC hx hy hz ?_
 rw[<-V.xs hx hy,<-V.xs hx hz,e]
theorem BrV.spr{x y z:Nat}(hx:x<n)(hy:y<n)(hz:z<n):s x (C y z)=C (s x y) (s (r x y) z):=by
 have k:=V.sl hx hy
 have l:=V.rl hx hy
 have m:=V.sl l hz
 rw[<-V.xs hy hz,V.sadd hx hy (V.sl hy hz),<-V.sact hx hy hz,<-V.pr hx hy,V.sact k l hz,V.xs k m]
theorem BrV.ract{x y z:Nat}(hx:x<n)(hy:y<n)(hz:z<n):r x (C y z)=r (r x y) z:=by
 have k:=V.sl hx hy
 have l:=V.rl hx hy
 have c:=V.b.cin y z hy hz
 have m:=V.sl l hz
 refine V.canC (V.sl hx c) (V.rl hx c) (V.rl l hz) ?_
 rw[V.pr hx c,V.spr hx hy hz,V.b.cas _ _ _ k m (V.rl l hz),V.pr l hz,<-V.b.cas _ _ _ k l hz,V.pr hx hy,V.b.cas x y z hx hy hz]
theorem BrV.r0{x:Nat}(hx:x<n):r x 0=x:=by
 have h:=V.pr hx V.b.pos
 rwa[V.sz hx,V.b.c0l _ (V.rl hx V.b.pos),V.b.c0r x hx]at h
theorem BrV.rinj{x u y:Nat}(hx:x<n)(hu:u<n)(hy:y<n)(e:r x y=r u y):x=u:=by
 obtain⟨i,h⟩:=V.m1 y hy;rw[<-V.r0 hx,<-h,V.ract hx hy i,e,<-V.ract hu hy i,h,V.r0 hu]
theorem BrV.e1{x y z:Nat}(hx:x<n)(hy:y<n)(hz:z<n):s (s x y) (s (r x y) z)=s x (s y z):=by
 rw[<-V.sact (V.sl hx hy) (V.rl hx hy) hz,V.pr hx hy,V.sact hx hy hz]
theorem BrV.e3{x y z:Nat}(hx:x<n)(hy:y<n)(hz:z<n):r (r x y) z=r (r x (s y z)) (r y z):=by
 rw[<-V.ract hx hy hz,<-V.ract hx (V.sl hy hz) (V.rl hy hz),V.pr hy hz]
theorem BrV.e2{x y z:Nat}(hx:x<n)(hy:y<n)(hz:z<n):r (s x y) (s (r x y) z)=s (r x (s y z)) (r y z):=by
 have k:=V.sl hx hy
 have l:=V.rl hx hy
 have m:=V.sl l hz
 have p:=V.sl hy hz
 have q:=V.rl hy hz
 have e:=V.rl hx p
 have a:=V.sl hx p
 have b1:=V.rl k m
 have b2:=V.sl e q
 have c1:=V.rl l hz
 refine V.canC a b1 b2 (V.ranC c1 (V.b.cin _ _ a b1) (V.b.cin _ _ a b2) ?_)
 have L:C (C (s x (s y z)) (r (s x y) (s (r x y) z))) (r (r x y) z)=C (C x y) z:=by
  rw[<-V.e1 hx hy hz,V.pr k m,V.b.cas _ _ _ k m c1,V.pr l hz,<-V.b.cas _ _ _ k l hz,V.pr hx hy]
 have R:C (C (s x (s y z)) (s (r x (s y z)) (r y z))) (r (r x y) z)=C (C x y) z:=by
  rw[V.e3 hx hy hz,V.b.cas _ _ _ a b2 (V.rl e q),V.pr e q,<-V.b.cas _ _ _ a e q,V.pr hx p,V.b.cas _ _ _ hx p q,V.pr hy hz,V.b.cas x y z hx hy hz]
 rw[L,R]
theorem BrV.inj{x y u v:Nat}(hx:x<n)(hy:y<n)(hu:u<n)(hv:v<n)(e:s x y=s u v)(k:r x y=r u v):x=u/\y=v:=by
 have w:C x y=C u v:=by rw[<-V.pr hx hy,e,k,V.pr hu hv]
 have h:x=u:=V.ranA (V.sl hx hy) hx hu (by rw[V.xs hx hy,e,V.xs hu hv,w])
 subst h;exact⟨rfl,V.canC hx hy hv w⟩
/- The socle and elements that are alike. -/
def F5(n:Nat)(s r:Nat->Nat->Nat)(x y:Nat):Prop:=(∀z,z<n->s x z=s y z)/\∀z,z<n->r z x=r z y
theorem BrV.so_s{u z:Nat}(hu:ft n A C u)(hz:z<n):s u z=z:=V.canA hu.1 (V.sl hu.1 hz) hz (by rw[V.xs hu.1 hz,(hu.2 z hz).1])
theorem BrV.so_l{x u:Nat}(hx:x<n)(hu:ft n A C u):ft n A C (s x u):=by
 rw[V.s1 x u hx hu.1];exact(vZ V.b hx hu (V.n1 x hx).1 (V.n1 x hx).2).1
theorem BrV.so_r{v u:Nat}(hv:v<n)(hu:ft n A C u):r v u=v:=by
 have t:=V.so_l hv hu
 refine V.canC t.1 (V.rl hv hu.1) hv ?_
 rw[V.pr hv hu.1,(t.2 v hv).1,(t.2 v hv).2,V.xs hv hu.1]
theorem BrV.alk_of{x y:Nat}(hx:x<n)(h:eD n A C x y):F5 n s r x y:=by
 obtain⟨t,ht,rfl⟩:=h;obtain⟨i,h⟩:=V.m1 x hx;have u:=V.so_l i ht
 have e:C x (s (M x) t)=A x t:=by rw[<-V.xs hx u.1,<-V.sact hx i ht.1,h,V.s0 ht.1]
 rw[<-e];exact⟨fun z hz=>by rw[V.sact hx u.1 hz,V.so_s u hz],fun z hz=>by rw[V.ract hz hx u.1,V.so_r (V.rl hz hx) u]⟩
def qn(n:Nat)(s r:Nat->Nat->Nat)(u:Nat):Prop:=u<n/\(∀z,z<n->s u z=z)/\∀v,v<n->r v u=v
theorem BrV.ker_l{u v:Nat}(hu:qn n s r u)(hv:v<n):qn n s r (s v u):=by
 obtain⟨h1,h2,h3⟩:=hu;obtain⟨i,h⟩:=V.m1 v hv;have t:=V.sl hv h1
 have c:=V.b.cin v u hv h1
 have e:s v u=C (C v u) (M v):=by
  have p:=V.pr hv h1
  rw[h3 v hv]at p;rw[<-p,V.b.cas _ _ _ t hv i,h,V.b.c0r _ t]
 refine⟨t,fun z hz=>?_,fun w hw=>?_⟩
 ·have q:=V.sl i hz
  rw[e,V.sact c i hz,V.sact hv h1 q,h2 _ q,<-V.sact hv i hz,h,V.s0 hz]
 ·have q:=V.rl hw hv
  rw[e,V.ract hw c i,V.ract hw hv h1,h3 _ q,<-V.ract hw hv i,h,V.r0 hw]
theorem BrV.ker_com{u v:Nat}(hu:qn n s r u)(hv:v<n):A (s v u) v=A v (s v u):=by
 obtain⟨t,k1,k2⟩:=V.ker_l hu hv;have p:=V.pr hv hu.1
 rw[hu.2.2 v hv]at p;rw[V.xs hv hu.1,<-p,<-V.xs t hv,k1 v hv]
theorem BrV.ker_soc{u:Nat}(hu:qn n s r u):ft n A C u:=by
 refine⟨hu.1,fun z hz=>⟨by rw[<-V.xs hu.1 hz,hu.2.1 z hz],?_⟩⟩
 obtain⟨i,h⟩:=V.m1 z hz;have k:=V.ker_com (V.ker_l hu i) hz
 rwa[<-V.sact hz i hu.1,h,V.s0 hu.1]at k
theorem BrV.sim_of{x y:Nat}(hx:x<n)(hy:y<n)(h:F5 n s r x y):eD n A C x y:=by
 obtain⟨i,e⟩:=V.m1 x hx;have e2:=V.mx hx
 have c:=V.b.cin _ _ i hy
 have K:qn n s r (C (M x) y):=⟨c,fun z hz=>by rw[V.sact i hy hz,<-h.1 z hz,<-V.sact i hx hz,e2,V.s0 hz],fun v hv=>by
  rw[V.ract hv i hy,<-h.2 _ (V.rl hv i),<-V.ract hv i hx,e2,V.r0 hv]⟩
 have S:=V.so_l hx (V.ker_soc K)
 exact⟨_,S,by rw[V.xs hx c,<-V.b.cas _ _ _ hx i hy,e,V.b.c0l y hy]⟩
theorem BrV.alk_iff{x y:Nat}(hx:x<n)(hy:y<n):F5 n s r x y↔eD n A C x y:=⟨V.sim_of hx hy,V.alk_of hx⟩
end
end Go.Sx
end
