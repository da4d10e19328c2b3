/- RetA -/
import Derived.Test.YtkmldclpaniclaaGreatLvl
import Derived.Test.YtkmldclpaniclaaGreatMapQ
set_option linter.unusedSimpArgs false
set_option linter.unusedVariables false
set_option linter.defProp false
open Go Go.Proofs
namespace Go.Sx
def eC(F S:Dc):Bool:=aM F&&aM S&&decide (F.length=S.length)
theorem oz{F S:Dc}(h:eC F S=true):1<=F.length/\F.length<=12/\S.length=F.length /\
  (∀x,x<F.length->(F.getD x []).length=F.length/\∀y,y<F.length->0<=(F.getD x []).getD y 0/\(F.getD x []).getD y 0<=(F.length:Int)-1) /\
  (∀x,x<F.length->(S.getD x []).length=F.length/\∀y,y<F.length->0<=(S.getD x []).getD y 0/\(S.getD x []).getD y 0<=(F.length:Int)-1):=by
 simp only[eC,AG,AQ]at h;obtain⟨⟨h1,h2⟩,h3⟩:=h;obtain⟨n1,n2,a⟩:=bT h1;obtain⟨_,_,b⟩:=bT h2;rw[<-h3]at b;exact⟨n1,n2,h3.symm,a,b⟩
theorem NB{F S:Dc}(h:eC F S=true):aM S=true:=by
 simp only[eC,AG]at h;exact h.1.2
def Fi:List AD->Option Post
 | [.agg [.rows .i64 F,.rows .i64 S]]=>some ⟨aD F/\aD S,.c (.bool (eC F S)),[]⟩
 |_=>none
theorem Wx:Fits Tryz.prog 161 ⟨[],Fi⟩:=by
 refine ffv (Γ:=af [(145,⟨[],yu⟩)]) (aj RE aG) Tryz.func161 fun ds p h ξ=>?_
 unfold Fi at h;split at h<;>cases h
 rename_i F S
 refine⟨ah,ak,(aD F/\True)/\ab (aM F) ((aD S/\True)/\ab (aM S) (((F.length:Int) == (S.length:Int))=eC F S/\True) (false=eC F S/\True)) (false=eC F S/\True),by kernel_rfl,?_⟩
 simp only[aH]at ξ⊢;obtain⟨r1,r2⟩:=ξ;refine⟨r1,fun h=>⟨r2,fun h2=>?_,fun h2=>by simp[eC,h,h2]⟩,fun h=>by simp[eC,h]⟩
 rw[eC,h,h2,Ac,Ac,Bf,beq_iff_eq,decide_eq_true_iff];omega
structure SoOk (F S:Dc):Prop where
 pm:eC F S=true
 inj:∀x y u v,x<F.length->y<F.length->u<F.length->v<F.length->en F x y=en F u v->en S x y=en S u v->x=u/\y=v
 eq:∀x y z,x<F.length->y<F.length->z<F.length->en F (en F x y).toNat (en F (en S x y).toNat z).toNat=en F x (en F y z).toNat /\
  en S (en F x y).toNat (en F (en S x y).toNat z).toNat=en F (en S x (en F y z).toNat).toNat (en S y z).toNat /\
  en S (en S x y).toNat z=en S (en S x (en F y z).toNat).toNat (en S y z).toNat
theorem Wy(a b:Nat):(a:Int).tdiv (b:Int)=((a / b:Nat):Int):=(Int.ofNat_tdiv a b).symm
theorem Wz(a b:Nat):(a:Int).tmod (b:Int)=((a % b:Nat):Int):=(Int.ofNat_tmod a b).symm
theorem WA{n p:Nat}(h:p<n*n):p / n<n/\p % n<n:=by
 have hn:0<n:=by
  rcases Nat.eq_zero_or_pos n with h0|h0
  ·subst h0;simp at h
  ·exact h0
 exact⟨Nat.div_lt_of_lt_mul h,Nat.mod_lt _ hn⟩
def Fk:List AD->Option Post
 | [.agg [.rows .i64 F,.rows .i64 S]]=>some ⟨SoOk F S,.c (.nilq true),[]⟩
 |_=>none
def ND(F:Dc)(S:Dc):Nat->Option Ann
 |0=>V' (fun p=>⟨⟨[(1,N' 1),(3,D' F.length),(15,D' ((F.length*F.length:Nat):Int)),(16,D' p)],[(1,T' [.ro (.rows .i64 F),.ro (.rows .i64 S)])]⟩,p<=F.length*F.length,F.length*F.length-p⟩) (fun p b_=>match b_ with|2=>U' fun q=>⟨⟨[(1,N' 1),(3,D' F.length),(15,D' ((F.length*F.length:Nat):Int)),(16,D' p),(4,D' p),(5,D' ((p / F.length:Nat):Int)),(6,D' ((p % F.length:Nat):Int)),(27,D' ((F.length*F.length:Nat):Int)),(28,D' q)],[(1,T' [.ro (.rows .i64 F),.ro (.rows .i64 S)])]⟩,q<=F.length*F.length/\p<F.length*F.length,F.length*F.length-q⟩|_=>none)
 |_=>none
def eX(F:Dc):=(↑(F.length*F.length):Int)
theorem WD:Fits Tryz.prog 162 ⟨[],Fk⟩:=by
 refine ffv (Γ:=af []) aG Tryz.func162 fun ds p h ξ=>?_
 unfold Fk at h;split at h<;>cases h
 rename_i F S
 refine⟨ah,ND F S,ae ((F.length:Int)*(F.length:Int))/\(∃x0:Nat,x0<=F.length*F.length/\(F.length:Int)=(F.length:Int)/\(F.length:Int)*(F.length:Int)=(eX F)/\(0:Int)=(x0:Int)/\F=F/\S=S)/\∀x1:Nat,x1<=F.length*F.length->ab (decide ((x1:Int)<(↑(F.length*F.length):Int))) (((F.length:Int)≠(0:Int)/\ae (Int.tdiv (x1:Int) (F.length:Int)))/\(F.length:Int)≠(0:Int)/\ae ((F.length:Int)*(F.length:Int))/\(∃x2:Nat,(x2<=F.length*F.length/\x1<F.length*F.length)/\(F.length:Int)=(F.length:Int)/\(eX F)=(eX F)/\(x1:Int)=(x1:Int)/\(x1:Int)=(x1:Int)/\Int.tdiv (x1:Int) (F.length:Int)=(↑(x1 / F.length):Int)/\Int.tmod (x1:Int) (F.length:Int)=(↑(x1 % F.length):Int)/\(F.length:Int)*(F.length:Int)=(eX F)/\(0:Int)=(x2:Int)/\F=F/\S=S)/\∀x3:Nat,x3<=F.length*F.length/\x1<F.length*F.length->ab (decide ((x3:Int)<(↑(F.length*F.length):Int))) (((F.length:Int)≠(0:Int)/\ae (Int.tdiv (x3:Int) (F.length:Int)))/\(F.length:Int)≠(0:Int)/\ab ((x1:Int) != (x3:Int)) (aa (↑(x1 / F.length):Int) F.length/\aa (↑(x1 % F.length):Int) ((F.getD ((↑(x1 / F.length):Int).toNat) []).length)/\aa (Int.tdiv (x3:Int) (F.length:Int)) F.length/\aa (Int.tmod (x3:Int) (F.length:Int)) ((F.getD ((Int.tdiv (x3:Int) (F.length:Int)).toNat) []).length)/\ab ((List.getD F ((↑(x1 / F.length):Int).toNat) []).getD ((↑(x1 % F.length):Int).toNat) (0:Int) == (List.getD F ((Int.tdiv (x3:Int) (F.length:Int)).toNat) []).getD ((Int.tmod (x3:Int) (F.length:Int)).toNat) (0:Int)) (aa (↑(x1 / F.length):Int) S.length/\aa (↑(x1 % F.length):Int) ((S.getD ((↑(x1 / F.length):Int).toNat) []).length)/\aa (Int.tdiv (x3:Int) (F.length:Int)) S.length/\aa (Int.tmod (x3:Int) (F.length:Int)) ((S.getD ((Int.tdiv (x3:Int) (F.length:Int)).toNat) []).length)/\ab ((List.getD S ((↑(x1 / F.length):Int).toNat) []).getD ((↑(x1 % F.length):Int).toNat) (0:Int) == (List.getD S ((Int.tdiv (x3:Int) (F.length:Int)).toNat) []).getD ((Int.tmod (x3:Int) (F.length:Int)).toNat) (0:Int)) ((false=true/\[(↑(x1 / F.length):Int),(↑(x1 % F.length):Int),Int.tdiv (x3:Int) (F.length:Int),Int.tmod (x3:Int) (F.length:Int)].length≠(0:Nat))/\True) (ae ((x3:Int)+(1:Int))/\∃x4:Nat,(x4<=F.length*F.length/\x1<F.length*F.length)/\F.length*F.length-x4<F.length*F.length-x3/\(F.length:Int)=(F.length:Int)/\(eX F)=(eX F)/\(x1:Int)=(x1:Int)/\(x1:Int)=(x1:Int)/\(↑(x1 / F.length):Int)=(↑(x1 / F.length):Int)/\(↑(x1 % F.length):Int)=(↑(x1 % F.length):Int)/\(eX F)=(eX F)/\(x3:Int)+(1:Int)=(x4:Int)/\F=F/\S=S)) (ae ((x3:Int)+(1:Int))/\∃x5:Nat,(x5<=F.length*F.length/\x1<F.length*F.length)/\F.length*F.length-x5<F.length*F.length-x3/\(F.length:Int)=(F.length:Int)/\(eX F)=(eX F)/\(x1:Int)=(x1:Int)/\(x1:Int)=(x1:Int)/\(↑(x1 / F.length):Int)=(↑(x1 / F.length):Int)/\(↑(x1 % F.length):Int)=(↑(x1 % F.length):Int)/\(eX F)=(eX F)/\(x3:Int)+(1:Int)=(x5:Int)/\F=F/\S=S)) (ae ((x3:Int)+(1:Int))/\∃x6:Nat,(x6<=F.length*F.length/\x1<F.length*F.length)/\F.length*F.length-x6<F.length*F.length-x3/\(F.length:Int)=(F.length:Int)/\(eX F)=(eX F)/\(x1:Int)=(x1:Int)/\(x1:Int)=(x1:Int)/\(↑(x1 / F.length):Int)=(↑(x1 / F.length):Int)/\(↑(x1 % F.length):Int)=(↑(x1 % F.length):Int)/\(eX F)=(eX F)/\(x3:Int)+(1:Int)=(x6:Int)/\F=F/\S=S)) (ae ((x1:Int)+(1:Int))/\∃x7:Nat,x7<=F.length*F.length/\F.length*F.length-x7<F.length*F.length-x1/\(F.length:Int)=(F.length:Int)/\(eX F)=(eX F)/\(x1:Int)+(1:Int)=(x7:Int)/\F=F/\S=S)) (true=true/\True),by kernel_rfl,?_⟩
 simp only[eX,aH]at ξ⊢;have inj:=ξ.inj
 obtain⟨n1,n2,hl,hF,hS⟩:=oz ξ.pm;have nn:F.length*F.length<=144:=BO n2 n2
 have cN:(F.length:Int)*(F.length:Int)=((F.length*F.length:Nat):Int):=(Cb _ _).symm
 have q0:∀p,p<F.length*F.length->p / F.length<F.length/\p % F.length<F.length:=fun p hp=>WA hp
 have no:∀p q:Nat,p<F.length*F.length->q<F.length*F.length->en F (p / F.length) (p % F.length)=en F (q / F.length) (q % F.length)->en S (p / F.length) (p % F.length)=en S (q / F.length) (q % F.length)->p=q:=fun p q hp hq e1 e2=>by
  obtain⟨a,b⟩:=inj _ _ _ _ (q0 p hp).1 (q0 p hp).2 (q0 q hq).1 (q0 q hq).2 e1 e2;rw[<-Nat.div_add_mod p F.length,a,b,Nat.div_add_mod]
 simp only[cN,Wy,Wz,AP];generalize hN:F.length*F.length=N at *
 refine⟨by omega,⟨0,by omega,by trivial,by trivial⟩,fun p hp=>⟨fun h=>?_,fun h=>trivial⟩⟩
 have P:=q0 p (by omega)
 have P0:=BW (p / F.length)
 have P1:=BW (p % F.length)
 refine⟨by omega,by omega,by omega,⟨0,⟨by omega,by omega⟩,by trivial,by trivial,by trivial,by trivial⟩,fun q ⟨hq,_⟩=>⟨fun h3=>?_,fun h3=>?_⟩⟩
 ·have Q:=q0 q (by omega)
  have Q0:=BW (q / F.length)
  have Q1:=BW (q % F.length)
  have r1:=(hF (p / F.length) P.1).1
  have r2:=(hF (q / F.length) Q.1).1
  have r3:=(hS (p / F.length) P.1).1
  have r4:=(hS (q / F.length) Q.1).1
  refine⟨by omega,by omega,fun e1=>⟨by omega,by omega,by omega,by omega,fun e2=>⟨by omega,by omega,by omega,by omega,fun e3=>?_,fun e3=>?_⟩,fun e2=>?_⟩,fun e1=>?_⟩
  ·exact absurd (no p q (by omega) (by omega) e2 e3) (by omega)
  ·exact⟨by omega,q+1,⟨by omega,by omega⟩,by omega,by omega⟩
  ·exact⟨by omega,q+1,⟨by omega,by omega⟩,by omega,by omega⟩
  ·exact⟨by omega,q+1,⟨by omega,by omega⟩,by omega,by omega⟩
 ·exact⟨by omega,p+1,by omega,by omega,by omega⟩
set_option maxHeartbeats 4000000
def Fm:List AD->Option Post
 | [.agg [.rows .i64 F,.rows .i64 S]]=>some ⟨SoOk F S,.c (.nilq true),[]⟩
 |_=>none
def NF(F:Dc)(S:Dc):Nat->Option Ann
 |0=>V' (fun i=>⟨⟨[(1,N' 1),(3,D' F.length),(16,D' F.length),(17,D' i)],[(1,T' [.ro (.rows .i64 F),.ro (.rows .i64 S)])]⟩,i<=F.length,F.length-i⟩) (fun i b_=>match b_ with|2=>V' (fun j=>⟨⟨[(1,N' 1),(3,D' F.length),(16,D' F.length),(17,D' i),(4,D' i),(20,D' F.length),(21,D' j)],[(1,T' [.ro (.rows .i64 F),.ro (.rows .i64 S)])]⟩,j<=F.length/\i<F.length,F.length-j⟩) (fun j b_=>match b_ with|4=>U' fun k=>⟨⟨[(1,N' 1),(3,D' F.length),(16,D' F.length),(17,D' i),(4,D' i),(20,D' F.length),(21,D' j),(5,D' j),(24,D' F.length),(25,D' k)],[(1,T' [.ro (.rows .i64 F),.ro (.rows .i64 S)])]⟩,k<=F.length/\j<F.length,F.length-k⟩|_=>none)|_=>none)
 |_=>none
def jg(F:Dc)(x0:Nat)(x1:Nat):=((List.getD F (↑x0:Int).toNat []).getD (↑x1:Int).toNat (0:Int))
def kF(S:Dc)(x0:Nat)(x1:Nat):=((List.getD S (↑x0:Int).toNat []).getD (↑x1:Int).toNat (0:Int))
theorem WG:Fits Tryz.prog 163 ⟨[],Fm⟩:=by
 refine ffv (Γ:=af []) aG Tryz.func163 fun ds p h ξ=>?_
 unfold Fm at h;split at h<;>cases h
 rename_i F S
 refine⟨ah,NF F S,(∃x0:Nat,x0<=F.length/\(F.length:Int)=(F.length:Int)/\(F.length:Int)=(F.length:Int)/\(0:Int)=(x0:Int)/\F=F/\S=S)/\∀x1:Nat,x1<=F.length->ab (decide ((x1:Int)<(F.length:Int))) ((∃x2:Nat,(x2<=F.length/\x1<F.length)/\(F.length:Int)=(F.length:Int)/\(F.length:Int)=(F.length:Int)/\(x1:Int)=(x1:Int)/\(x1:Int)=(x1:Int)/\(F.length:Int)=(F.length:Int)/\(0:Int)=(x2:Int)/\F=F/\S=S)/\∀x3:Nat,x3<=F.length/\x1<F.length->ab (decide ((x3:Int)<(F.length:Int))) ((∃x4:Nat,(x4<=F.length/\x3<F.length)/\(F.length:Int)=(F.length:Int)/\(F.length:Int)=(F.length:Int)/\(x1:Int)=(x1:Int)/\(x1:Int)=(x1:Int)/\(F.length:Int)=(F.length:Int)/\(x3:Int)=(x3:Int)/\(x3:Int)=(x3:Int)/\(F.length:Int)=(F.length:Int)/\(0:Int)=(x4:Int)/\F=F/\S=S)/\∀x5:Nat,x5<=F.length/\x3<F.length->ab (decide ((x5:Int)<(F.length:Int))) (aa (x1:Int) F.length/\aa (x3:Int) ((F.getD (x1:Int).toNat []).length)/\aa (x1:Int) S.length/\aa (x3:Int) ((S.getD (x1:Int).toNat []).length)/\aa (kF S x1 x3) F.length/\aa (x5:Int) ((F.getD (kF S x1 x3).toNat []).length)/\aa (kF S x1 x3) S.length/\aa (x5:Int) ((S.getD (kF S x1 x3).toNat []).length)/\aa (jg F x1 x3) F.length/\aa ((List.getD F (kF S x1 x3).toNat []).getD (x5:Int).toNat (0:Int)) ((F.getD (jg F x1 x3).toNat []).length)/\aa (jg F x1 x3) S.length/\aa ((List.getD F (kF S x1 x3).toNat []).getD (x5:Int).toNat (0:Int)) ((S.getD (jg F x1 x3).toNat []).length)/\aa (x3:Int) F.length/\aa (x5:Int) ((F.getD (x3:Int).toNat []).length)/\aa (x3:Int) S.length/\aa (x5:Int) ((S.getD (x3:Int).toNat []).length)/\aa (x1:Int) F.length/\aa (jg F x3 x5) ((F.getD (x1:Int).toNat []).length)/\aa (x1:Int) S.length/\aa (jg F x3 x5) ((S.getD (x1:Int).toNat []).length)/\aa ((List.getD S (x1:Int).toNat []).getD (jg F x3 x5).toNat (0:Int)) F.length/\aa (kF S x3 x5) ((F.getD (((List.getD S (x1:Int).toNat []).getD (jg F x3 x5).toNat (0:Int)).toNat) []).length)/\aa ((List.getD S (x1:Int).toNat []).getD (jg F x3 x5).toNat (0:Int)) S.length/\aa (kF S x3 x5) ((S.getD (((List.getD S (x1:Int).toNat []).getD (jg F x3 x5).toNat (0:Int)).toNat) []).length)/\ab ((List.getD F ((List.getD (List.getD F (x1:Int).toNat []) (x3:Int).toNat (0:Int)).toNat) []).getD (((List.getD F ((List.getD (List.getD S (x1:Int).toNat []) (x3:Int).toNat (0:Int)).toNat) []).getD (x5:Int).toNat (0:Int)).toNat) (0:Int) != (List.getD F (x1:Int).toNat []).getD (((List.getD F (x3:Int).toNat []).getD (x5:Int).toNat (0:Int)).toNat) (0:Int)) ((false=true/\[(x1:Int),(x3:Int),(x5:Int)].length≠(0:Nat))/\True) (ab ((List.getD S ((List.getD (List.getD F (x1:Int).toNat []) (x3:Int).toNat (0:Int)).toNat) []).getD (((List.getD F ((List.getD (List.getD S (x1:Int).toNat []) (x3:Int).toNat (0:Int)).toNat) []).getD (x5:Int).toNat (0:Int)).toNat) (0:Int) != (List.getD F ((List.getD (List.getD S (x1:Int).toNat []) ((List.getD (List.getD F (x3:Int).toNat []) (x5:Int).toNat (0:Int)).toNat) (0:Int)).toNat) []).getD (((List.getD S (x3:Int).toNat []).getD (x5:Int).toNat (0:Int)).toNat) (0:Int)) ((false=true/\[(x1:Int),(x3:Int),(x5:Int)].length≠(0:Nat))/\True) (ab ((List.getD S ((List.getD (List.getD S (x1:Int).toNat []) (x3:Int).toNat (0:Int)).toNat) []).getD (x5:Int).toNat (0:Int) != (List.getD S ((List.getD (List.getD S (x1:Int).toNat []) ((List.getD (List.getD F (x3:Int).toNat []) (x5:Int).toNat (0:Int)).toNat) (0:Int)).toNat) []).getD (((List.getD S (x3:Int).toNat []).getD (x5:Int).toNat (0:Int)).toNat) (0:Int)) ((false=true/\[(x1:Int),(x3:Int),(x5:Int)].length≠(0:Nat))/\True) (ae ((x5:Int)+(1:Int))/\∃x6:Nat,(x6<=F.length/\x3<F.length)/\F.length-x6<F.length-x5/\(F.length:Int)=(F.length:Int)/\(F.length:Int)=(F.length:Int)/\(x1:Int)=(x1:Int)/\(x1:Int)=(x1:Int)/\(F.length:Int)=(F.length:Int)/\(x3:Int)=(x3:Int)/\(x3:Int)=(x3:Int)/\(F.length:Int)=(F.length:Int)/\(x5:Int)+(1:Int)=(x6:Int)/\F=F/\S=S)))) (ae ((x3:Int)+(1:Int))/\∃x7:Nat,(x7<=F.length/\x1<F.length)/\F.length-x7<F.length-x3/\(F.length:Int)=(F.length:Int)/\(F.length:Int)=(F.length:Int)/\(x1:Int)=(x1:Int)/\(x1:Int)=(x1:Int)/\(F.length:Int)=(F.length:Int)/\(x3:Int)+(1:Int)=(x7:Int)/\F=F/\S=S)) (ae ((x1:Int)+(1:Int))/\∃x8:Nat,x8<=F.length/\F.length-x8<F.length-x1/\(F.length:Int)=(F.length:Int)/\(F.length:Int)=(F.length:Int)/\(x1:Int)+(1:Int)=(x8:Int)/\F=F/\S=S)) (true=true/\True),by kernel_rfl,?_⟩
 simp only[jg,kF,aH]at ξ⊢;have E:=ξ.eq
 obtain⟨n1,n2,hl,hF,hS⟩:=oz ξ.pm;refine⟨⟨0,by omega,rfl⟩,fun i hi=>⟨fun h=>⟨⟨0,⟨by omega,by omega⟩,rfl⟩,fun j ⟨hj,_⟩=>⟨fun h2=>⟨⟨0,⟨by omega,by omega⟩,rfl⟩,fun k ⟨hk,_⟩=>⟨fun h3=>?_,fun h3=>⟨by omega,j+1,⟨by omega,by omega⟩,by omega,by omega⟩⟩⟩,fun h2=>⟨by omega,i+1,by omega,by omega,by omega⟩⟩⟩,fun h=>trivial⟩⟩
 have Q:=E i j k (by omega) (by omega) (by omega)
 have F1:=hF i (by omega)
 have S1:=hS i (by omega)
 have F2:=hF j (by omega)
 have S2:=hS j (by omega)
 have a:=F1.2 j (by omega)
 have b:=S1.2 j (by omega)
 have e:=F2.2 k (by omega)
 have f:=S2.2 k (by omega)
 unfold en at Q;generalize (F.getD i []).getD j 0=va at *
 generalize (S.getD i []).getD j 0=vb at *
 generalize (F.getD j []).getD k 0=ve at *
 generalize (S.getD j []).getD k 0=vf at *
 have Fb:=hF vb.toNat (by omega)
 have Sb:=hS vb.toNat (by omega)
 have b2:=Fb.2 k (by omega)
 have e2:=S1.2 ve.toNat (by omega)
 generalize (F.getD vb.toNat []).getD k 0=vb2 at *
 generalize (S.getD i []).getD ve.toNat 0=ve2 at *
 have Fa:=hF va.toNat (by omega)
 have Sa:=hS va.toNat (by omega)
 have Fe:=hF ve2.toNat (by omega)
 have Se:=hS ve2.toNat (by omega)
 refine⟨by omega,by omega,by omega,by omega,by omega,by omega,by omega,by omega,by omega,by omega,by omega,by omega,by omega,by omega,by omega,by omega,by omega,by omega,by omega,by omega,by omega,by omega,by omega,by omega,
  fun d1=>absurd Q.1 d1,fun d1=>⟨fun d2=>absurd Q.2.1 d2,fun d2=>⟨fun d3=>absurd Q.2.2 d3,fun d3=>⟨by omega,k+1,⟨by omega,by omega⟩,by omega,by omega⟩⟩⟩⟩
def Fo:List AD->Option Post
 | [.agg [.rows .i64 F,.rows .i64 S]]=>some ⟨aD F/\aD S/\SoOk F S,.c (.bool true),[]⟩
 |_=>none
theorem WJ:Fits Tryz.prog 117 ⟨[],Fo⟩:=by
 refine ffv (Γ:=af [(161,⟨[],Fi⟩),(162,⟨[],Fk⟩),(163,⟨[],Fm⟩)]) (aj Wx (aj WD (aj WG aG))) Tryz.func117 fun ds p h ξ=>?_
 unfold Fo at h;split at h<;>cases h
 rename_i F S
 refine⟨ah,ak,((aD F/\aD S)/\True)/\ab (eC F S) ((SoOk F S/\True)/\(SoOk F S/\True)/\true=true/\True) (false=true/\True),by kernel_rfl,?_⟩
 simp only[aH]at ξ⊢;obtain⟨r1,r2,K⟩:=ξ;exact⟨⟨r1,r2⟩,fun _=>⟨K,K⟩,fun h=>by rw[K.pm]at h;cases h⟩
structure RegP (F S:Dc):Prop where
 so:SoOk F S
 f:F.all cB=true
 s:(aT S).all cB=true
def Fq:List AD->Option Post
 | [.agg [.rows .i64 F,.rows .i64 S]]=>some ⟨aD F/\RegP F S,.c (.bool true),[]⟩
 |_=>none
theorem WM:Fits Tryz.prog 118 ⟨[],Fq⟩:=by
 refine ffv (Γ:=af [(146,⟨[],ul⟩),(108,⟨[],pU⟩)]) (aj Ma (aj Dn aG)) Tryz.func118 fun ds p h ξ=>?_
 unfold Fq at h;split at h<;>cases h
 rename_i F S
 refine⟨ah,ak,(aD F/\True)/\ab (List.all F cB) ((aM S=true/\True)/\(aD (aT S)/\True)/\List.all (aT S) cB=true/\True) (false=true/\True),by kernel_rfl,?_⟩
 simp only[aH]at ξ⊢;obtain⟨r1,K⟩:=ξ;obtain⟨n1,n2,hl,_⟩:=oz K.so.pm;exact⟨r1,fun _=>⟨NB K.so.pm,pC _ _ (by omega),K.s⟩,fun h=>by rw[K.f]at h;cases h⟩
def vq:List AD->Option Post
 | [.agg [.rows .i64 F,.rows .i64 S]]=>some ⟨aD F/\aD S/\RegP F S,.c (.bool true),[]⟩
 |_=>none
theorem NM:Fits Tryz.prog 65 ⟨[],vq⟩:=by
 refine ffv (Γ:=af [(117,⟨[],Fo⟩),(118,⟨[],Fq⟩)]) (aj WJ (aj WM aG)) Tryz.func65 fun ds p h ξ=>?_
 unfold vq at h;split at h<;>cases h
 rename_i F S
 refine⟨ah,ak,((aD F/\aD S/\SoOk F S)/\True)/\((aD F/\RegP F S)/\True)/\true=true/\True,by kernel_rfl,?_⟩
 simp only[aH]at ξ⊢;obtain⟨r1,r2,K⟩:=ξ;exact⟨⟨r1,r2,K.so⟩,r1,K⟩
def dV(n:Nat):Db:=ap n fun i=>(i:Int)
def Ft:List AD->Option Post
 | [.c (.int .i64 n)]=>some ⟨0<=n/\n<=1099511627776,.c (.ints 2 .i64 (dV n.toNat)),[]⟩
 |_=>none
def NN(n:Int):Nat->Option Ann
 |0=>U' fun i=>⟨⟨[(3,M' 10),(8,D' n),(9,D' i)],[(10,Q' (((dV n.toNat).take i++List.replicate ((dV n.toNat).length-i) 0)))]⟩,i<=n.toNat,n.toNat-i⟩
 |_=>none
theorem WR:Fits Tryz.prog 164 ⟨[],Ft⟩:=by
 refine ffv (Γ:=af []) aG Tryz.func164 fun ds p h ξ=>?_
 unfold Ft at h;split at h<;>cases h
 rename_i n
 refine⟨ah,NN n,((0:Int)<=n/\n<=n/\ar n.toNat)/\(∃x0:Nat,x0<=n.toNat/\(↑((List.replicate n.toNat (0:Int)).length):Int)=n/\(0:Int)=(x0:Int)/\List.replicate n.toNat (0:Int)=List.take x0 (dV n.toNat)++List.replicate ((dV n.toNat).length-x0) (0:Int))/\∀x1:Nat,x1<=n.toNat->ab (decide ((x1:Int)<n)) (aa (x1:Int) ((List.take x1 (dV n.toNat)++List.replicate ((dV n.toNat).length-x1) (0:Int)).length)/\ae ((x1:Int)+(1:Int))/\∃x2:Nat,x2<=n.toNat/\n.toNat-x2<n.toNat-x1/\n=n/\(x1:Int)+(1:Int)=(x2:Int)/\List.set (List.take x1 (dV n.toNat)++List.replicate ((dV n.toNat).length-x1) (0:Int)) (x1:Int).toNat (x1:Int)=List.take x2 (dV n.toNat)++List.replicate ((dV n.toNat).length-x2) (0:Int)) (List.take x1 (dV n.toNat)++List.replicate ((dV n.toNat).length-x1) (0:Int)=dV n.toNat/\True),by kernel_rfl,?_⟩
 simp only[aH]at ξ⊢;have hl:(dV n.toNat).length=n.toNat:=by simp[dV,bK]
 refine⟨by omega,⟨0,by omega,by omega,rfl,al4 _ _ _ hl⟩,fun i hi=>⟨fun h=>⟨by omega,by omega,i+1,by omega,by omega,by omega,?_⟩,fun h=>?_⟩⟩
 ·rw[<-yc (dV n.toNat) 0 0 i (by omega),dV,cj _ _ _ (by omega)]
 ·exact al5 _ _ _ (by omega)
def eY(F R:Dc)(x y:Nat):Bool:=decide (F.getD x []=F.getD y [])&&decide (R.getD x []=R.getD y [])
def cC(F R:Dc)(x:Nat):Nat:=(List.range x).findIdx (eY F R x)
def dI(F R:Dc)(i:Nat):Db:=ap F.length fun x=>if x<i then(cC F R x:Int)else(x:Int)
def ce(F S:Dc):Db:=bI (dI F (aT S) F.length)
theorem Fv(F R:Dc)(x:Nat):cC F R x<=x:=by
 have:=List.findIdx_le_length (p:=eY F R x) (xs:=List.range x)
 simpa[cC]using this
theorem Fw{F R:Dc}{x y:Nat}(hy:y<x)(h:y<=cC F R x):(eY F R x y=true->cC F R x=y)/\(eY F R x y=false->y+1<=cC F R x):=by
 constructor
 ·intro hp
  refine Nat.le_antisymm (C7 fun ψ=>?_) h
  have:=List.not_of_lt_findIdx (p:=eY F R x) (xs:=List.range x) (i:=y) ψ
  rw[Bw,hp]at this;cases this
 ·intro hp
  refine Nat.lt_of_le_of_ne h fun e=>?_
  have hl:(List.range x).findIdx (eY F R x)<(List.range x).length:=by rw[Bj];show cC F R x<x;omega
  have:=Cd (p:=eY F R x) (xs:=List.range x) (w:=hl)
  rw[Bw]at this;have e2:(List.range x).findIdx (eY F R x)=y:=e.symm
  rw[e2,hp]at this;cases this
theorem mH{F R:Dc}{x y:Nat}:eY F R x y=true↔F.getD x []=F.getD y []/\R.getD x []=R.getD y []:=by simp[eY]
theorem WS{F R:Dc}{x:Nat}(h:cC F R x<x):cC F R (cC F R x)=cC F R x:=by
 have hl:(List.range x).findIdx (eY F R x)<(List.range x).length:=by rw[Bj];exact h
 have a:=Cd (p:=eY F R x) (xs:=List.range x) (w:=hl)
 rw[Bw]at a;have a:eY F R x (cC F R x)=true:=a
 obtain⟨a1,a2⟩:=mH.1 a;have hle:=Fv F R (cC F R x)
 by_cases ψ:cC F R (cC F R x)<cC F R x
 ·exfalso
  have hl2:(List.range (cC F R x)).findIdx (eY F R (cC F R x))<(List.range (cC F R x)).length:=by rw[Bj];exact ψ
  have b:=Cd (p:=eY F R (cC F R x)) (xs:=List.range (cC F R x)) (w:=hl2)
  rw[Bw]at b;have b:eY F R (cC F R x) (cC F R (cC F R x))=true:=b
  obtain⟨b1,b2⟩:=mH.1 b;have:=(Fw (F:=F) (R:=R) (x:=x) (y:=cC F R (cC F R x)) (by omega) (by omega)).1 (mH.2 ⟨a1.trans b1,a2.trans b2⟩)
  omega
 ·omega
theorem g6(F R:Dc)(i:Nat):(dI F R i).length=F.length:=bK _ _
theorem mI{F R:Dc}{i x:Nat}(h:x<F.length):(dI F R i).getD x 0=if x<i then(cC F R x:Int)else(x:Int):=cj _ _ _ h
theorem WT{F R:Dc}{i:Nat}(h:i<F.length):(dI F R i).set i (cC F R i:Int)=dI F R (i+1):=by
 refine lA (by rw[Ai,g6,g6]) fun j hj=>?_
 rw[Ai,g6]at hj;rw[mI hj,AN,Av,g6];by_cases e:i=j
 ·subst e;simp[h]
 ·rw[AB e,<-AN,mI hj]
  by_cases q:j<i
  ·rw[AA q,AA (by omega)]
  ·rw[AB q,AB (by omega)]
theorem WU{F R:Dc}{i:Nat}(h:cC F R i=i):dI F R i=dI F R (i+1):=by
 refine lA (by rw[g6,g6]) fun j hj=>?_
 rw[g6]at hj;rw[mI hj,mI hj];by_cases q:j<i
 ·rw[AA q,AA (by omega)]
 ·rw[AB q]
  by_cases e:j=i
  ·subst e;rw[AA (by omega),h]
  ·rw[AB (by omega)]
theorem WV(F R:Dc):dI F R 0=dV F.length:=by
 refine lA (by rw[g6,dV,bK]) fun j hj=>?_
 rw[g6]at hj;rw[mI hj,AB (by omega),dV,cj _ _ _ hj]
def Fx:List AD->Option Post
 | [.agg [.rows .i64 F,.rows .i64 S]]=>some ⟨eC F S=true,.c (.ints 2 .i64 (ce F S)),[]⟩
 |_=>none
def NP(F:Dc)(S:Dc):Nat->Option Ann
 |0=>V' (fun i=>⟨⟨[(1,N' 500),(3,M' 601),(4,M' 602),(15,D' F.length),(16,D' i)],[(500,T' [.ro (.rows .i64 F),.ro (.rows .i64 S)]),(601,O' (aT S)),(602,Q' (dI F (aT S) i))]⟩,i<=F.length,F.length-i⟩) (fun i b_=>match b_ with|2=>U' fun y=>⟨⟨[(1,N' 500),(3,M' 601),(4,M' 602),(5,D' i),(15,D' F.length),(16,D' i),(19,D' i),(20,D' y)],[(500,T' [.ro (.rows .i64 F),.ro (.rows .i64 S)]),(601,O' (aT S)),(602,Q' (dI F (aT S) i))]⟩,i<F.length/\y<=cC F (aT S) i,F.length-y⟩|_=>none)
 |_=>none
theorem WY:Fits Tryz.prog 119 ⟨[],Fx⟩:=by
 refine ffv (Γ:=af [(108,⟨[],pU⟩),(164,⟨[],Ft⟩),(92,⟨[],tO⟩),(154,⟨[],uS⟩)]) (aj Dn (aj WR (aj Ln (aj Nm aG)))) Tryz.func119 fun ds p h ξ=>?_
 unfold Fx at h;split at h<;>cases h
 rename_i F S
 refine⟨ah,NP F S,(aM S=true/\True)/\(((0:Int)<=(F.length:Int)/\(F.length:Int)<=(1099511627776:Int))/\True)/\(∃x0:Nat,x0<=F.length/\(↑((dV ((F.length:Int).toNat)).length):Int)=(F.length:Int)/\(0:Int)=(x0:Int)/\F=F/\S=S/\aT S=aT S/\dV ((F.length:Int).toNat)=dI F (aT S) x0)/\∀x1:Nat,x1<=F.length->ab (decide ((x1:Int)<(F.length:Int))) ((∃x2:Nat,(x1<F.length/\x2<=cC F (aT S) x1)/\(x1:Int)=(x1:Int)/\(F.length:Int)=(F.length:Int)/\(x1:Int)=(x1:Int)/\(x1:Int)=(x1:Int)/\(0:Int)=(x2:Int)/\F=F/\S=S/\aT S=aT S/\dI F (aT S) x1=dI F (aT S) x1)/\∀x3:Nat,x1<F.length/\x3<=cC F (aT S) x1->ab (decide ((x3:Int)<(x1:Int))) (aa (x1:Int) F.length/\aa (x3:Int) F.length/\(((F.getD (x1:Int).toNat []).length<=(9223372036854775807:Nat)/\(F.getD (x3:Int).toNat []).length<=(9223372036854775807:Nat))/\True)/\ab (decide (F.getD (x1:Int).toNat []=F.getD (x3:Int).toNat [])) (aa (x1:Int) (aT S).length/\aa (x3:Int) (aT S).length/\((((aT S).getD (x1:Int).toNat []).length<=(9223372036854775807:Nat)/\((aT S).getD (x3:Int).toNat []).length<=(9223372036854775807:Nat))/\True)/\ab (decide ((aT S).getD (x1:Int).toNat []=(aT S).getD (x3:Int).toNat [])) (aa (x3:Int) ((dI F (aT S) x1).length)/\aa (x1:Int) ((dI F (aT S) x1).length)/\ae ((x1:Int)+(1:Int))/\∃x4:Nat,x4<=F.length/\F.length-x4<F.length-x1/\(F.length:Int)=(F.length:Int)/\(x1:Int)+(1:Int)=(x4:Int)/\F=F/\S=S/\aT S=aT S/\List.set (dI F (aT S) x1) (x1:Int).toNat ((dI F (aT S) x1).getD (x3:Int).toNat (0:Int))=dI F (aT S) x4) (ae ((x3:Int)+(1:Int))/\∃x5:Nat,(x1<F.length/\x5<=cC F (aT S) x1)/\F.length-x5<F.length-x3/\(x1:Int)=(x1:Int)/\(F.length:Int)=(F.length:Int)/\(x1:Int)=(x1:Int)/\(x1:Int)=(x1:Int)/\(x3:Int)+(1:Int)=(x5:Int)/\F=F/\S=S/\aT S=aT S/\dI F (aT S) x1=dI F (aT S) x1)) (ae ((x3:Int)+(1:Int))/\∃x6:Nat,(x1<F.length/\x6<=cC F (aT S) x1)/\F.length-x6<F.length-x3/\(x1:Int)=(x1:Int)/\(F.length:Int)=(F.length:Int)/\(x1:Int)=(x1:Int)/\(x1:Int)=(x1:Int)/\(x3:Int)+(1:Int)=(x6:Int)/\F=F/\S=S/\aT S=aT S/\dI F (aT S) x1=dI F (aT S) x1)) (ae ((x1:Int)+(1:Int))/\∃x7:Nat,x7<=F.length/\F.length-x7<F.length-x1/\(F.length:Int)=(F.length:Int)/\(x1:Int)+(1:Int)=(x7:Int)/\F=F/\S=S/\aT S=aT S/\dI F (aT S) x1=dI F (aT S) x7)) (((dI F (aT S) x1).length<=(1000:Nat)/\True)/\bI (dI F (aT S) x1)=ce F S/\True),by kernel_rfl,?_⟩
 simp only[aH]at ξ⊢;obtain⟨n1,n2,hl,hF,hS⟩:=oz ξ;have tl:(aT S).length=F.length:=by rw[aT,fb,hl]
 have tr:∀x,x<F.length->((aT S).getD x []).length=F.length:=fun x hx=>by rw[aT,fG _ _ _ (by omega),bK];exact hl
 have ll:=g6 F (aT S)
 refine⟨NB ξ,by omega,⟨0,by omega,by rw[dV,bK],rfl,(WV _ _).symm⟩,fun i hi=>⟨fun h=>⟨⟨0,⟨by omega,by omega⟩,rfl⟩,fun y ⟨hin,hy⟩=>⟨fun h3=>?_,fun h3=>?_⟩⟩,fun h=>?_⟩⟩
 ·have A:=Fw (F:=F) (R:=aT S) (x:=i) (y:=y) (by omega) hy
  have r1:=(hF i (by omega)).1
  have r2:=(hF y (by omega)).1
  have t1:=tr i (by omega)
  have t2:=tr y (by omega)
  have len:=ll i
  refine⟨by omega,by omega,⟨by omega,by omega⟩,fun e1=>⟨by omega,by omega,⟨by omega,by omega⟩,fun e2=>?_,fun e2=>?_⟩,fun e1=>?_⟩
  ·have e:=A.1 (mH.2 ⟨e1,e2⟩)
   have id:=WS (F:=F) (R:=aT S) (x:=i) (by omega)
   refine⟨by omega,by omega,by omega,i+1,by omega,by omega,by omega,?_⟩
   rw[mI (by omega),AA (by omega),show cC F (aT S) y=cC F (aT S) i by rw[e]at id;omega]
   exact WT (by omega)
  ·exact⟨by omega,y+1,⟨hin,A.2 (Bool.eq_false_iff.2 fun hb=>e2 (mH.1 hb).2)⟩,by omega,by omega⟩
  ·exact⟨by omega,y+1,⟨hin,A.2 (Bool.eq_false_iff.2 fun hb=>e1 (mH.1 hb).1)⟩,by omega,by omega⟩
 ·have:=Fv F (aT S) i
  exact⟨by omega,i+1,by omega,by omega,by omega,WU (by omega)⟩
 ·have len:=ll i
  exact⟨by omega,by rw[show i=F.length by omega];rfl⟩
def qj:List AD->Option Post
 | [.c (.int .i64 x),.c (.int .i64 y),.bf P (.ii2 q p r)]=>some ⟨P=Tryz.prog/\q x y,.c (.int .i64 (p x y)),[]⟩
 |_=>none
theorem W4:Fits Tryz.prog 159 ⟨[],qj⟩:=by
 refine ffv (Γ:=af []) aG Tryz.func159 fun ds p h ξ=>?_
 unfold qj at h;split at h<;>cases h
 rename_i x y P q p r
 refine⟨ah,ak,P=Go.Proofs.Tryz.prog/\q x y/\p x y=p x y/\True,by kernel_rfl,?_⟩
 simp only[aH]at ξ⊢;obtain⟨rfl,h⟩:=ξ;exact⟨rfl,h⟩
def qk:List AD->Option Post
 | [.c (.int .i64 x),.c (.int .i64 y),.bf P (.ii2 q p r)]=>some ⟨P=Tryz.prog/\q x y,.c (.int .i64 (r x y)),[]⟩
 |_=>none
theorem W7:Fits Tryz.prog 160 ⟨[],qk⟩:=by
 refine ffv (Γ:=af []) aG Tryz.func160 fun ds p h ξ=>?_
 unfold qk at h;split at h<;>cases h
 rename_i x y P q p r
 refine⟨ah,ak,P=Go.Proofs.Tryz.prog/\q x y/\r x y=r x y/\True,by kernel_rfl,?_⟩
 simp only[aH]at ξ⊢;obtain⟨rfl,h⟩:=ξ;exact⟨rfl,h⟩
def vA:List AD->Option Post
 | [.c (.int .i64 n),.fv (.ii2 q p r)]=>some ⟨0<=n/\n<=144/\(∀x y,0<=x->x<n->0<=y->y<n->q x y),.agg [.rows 62 2 .i64 (bq n.toNat (fun x y=>p (x:Int) (y:Int))),.rows 62 2 .i64 (bq n.toNat (fun x y=>r (x:Int) (y:Int)))],[]⟩
 |_=>none
theorem NU:Fits Tryz.prog 115 ⟨[],vA⟩:=by
 refine ffv (Γ:=af [(124,⟨[],pB⟩),(159,⟨[],qj⟩),(160,⟨[],qk⟩)]) (aj yx (aj W4 (aj W7 aG))) Tryz.func115 fun ds p h ξ=>?_
 unfold vA at h;split at h<;>cases h
 rename_i n q p r
 refine⟨ah,ak,(((0:Int)<=n/\n<=(144:Int)/\∀(x y:Int),(0:Int)<=x->x<n->(0:Int)<=y->y<n->jU (qj [AD.c (FC.int IntKind.i64 x),AD.c (FC.int IntKind.i64 y),AD.bf Go.Proofs.Tryz.prog (FV.ii2 q p r)]))/\True)/\(((0:Int)<=n/\n<=(144:Int)/\∀(x y:Int),(0:Int)<=x->x<n->(0:Int)<=y->y<n->jU (qk [AD.c (FC.int IntKind.i64 x),AD.c (FC.int IntKind.i64 y),AD.bf Go.Proofs.Tryz.prog (FV.ii2 q p r)]))/\True)/\(((bq n.toNat fun(x y:Nat)=>kK (qj [AD.c (FC.int IntKind.i64 (x:Int)),AD.c (FC.int IntKind.i64 (y:Int)),AD.bf Go.Proofs.Tryz.prog (FV.ii2 q p r)]))=bq n.toNat fun(x y:Nat)=>p (x:Int) (y:Int))/\((bq n.toNat fun(x y:Nat)=>kK (qk [AD.c (FC.int IntKind.i64 (x:Int)),AD.c (FC.int IntKind.i64 (y:Int)),AD.bf Go.Proofs.Tryz.prog (FV.ii2 q p r)]))=bq n.toNat fun(x y:Nat)=>r (x:Int) (y:Int))/\True)/\True,by kernel_rfl,?_⟩
 simp only[aH]at ξ⊢;obtain⟨h1,h2,h3⟩:=ξ;exact⟨⟨h1,h2,fun x y a1 a2 a3 a4=>⟨rfl,h3 x y a1 a2 a3 a4⟩⟩,⟨h1,h2,fun x y a1 a2 a3 a4=>⟨rfl,h3 x y a1 a2 a3 a4⟩⟩,iZ fun x y hx hy=>rfl,iZ fun x y hx hy=>rfl⟩
end Go.Sx
