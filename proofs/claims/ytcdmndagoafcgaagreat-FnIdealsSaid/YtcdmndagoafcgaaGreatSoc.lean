/- Soc -/
import Derived.Test.YtcdmndagoafcgaaGreatIds
import Derived.Test.YtcdmndagoafcgaaGreatQuot
open Go Go.Proofs
namespace Go.Sx
set_option linter.unusedSimpArgs false
set_option linter.unusedVariables false
def uT (a:List (List Int)) (c:List (List Int)) (s:Int):Post:=⟨bu a s∧aW c=true∧c.length=a.length,.agg [.rows 57 2 .i64 (quo a (a8 a s)),.rows 57 2 .i64 (quo c (a8 a s))],[]⟩
def Cf:List AD→Option Post
 | [.agg [.rows .i64 (a),.rows .i64 (c)],.c (.int .i64 (s))]=>some (uT a c s)
 | _=>none
def Kc:List (Nat×Ctr):=[(139,⟨[],B4⟩),(140,⟨[],Cb⟩)]
def Cg (a:List (List Int)) (c:List (List Int)) (s:Int):Prop :=
 (((bu a s)∧True)∧((((aW a=true)∧((a8 a s).length=a.length))∧True)∧((((aW c=true)∧((a8 a s).length=c.length))∧True)∧(((quo a (a8 a s)=quo a (a8 a s))∧((quo c (a8 a s)=quo c (a8 a s))∧True))∧True))))
theorem TQ (a:List (List Int)) (c:List (List Int)) (s:Int):aC Tryz.prog (af Kc) ah am Tryz.f77 (aE Tryz.f77) [] [.agg [.rows .i64 (a),.rows .i64 (c)],.c (.int .i64 (s))] (uT a c s)=Cg a c s:=by kernel_rfl
theorem TR (a:List (List Int)) (c:List (List Int)) (s:Int) (Yh:(uT a c s).pre):Cg a c s:=by
 simp only [uT,Cg,aG,u1,u2,u3,u4,u5,u6,u7,u8,u9,v1,v2,v3,v4,v5,v6,v7,v8,v9,w1,w2,w3,w4,aH,aa,ab,ae,ar] at Yh ⊢;obtain ⟨h1,h2,h3⟩:=Yh;have e:=kV a s
 exact ⟨h1,⟨h1.1,e⟩,h2,by omega⟩
theorem TT:Fits Tryz.prog 77 ⟨[],Cf⟩:=by
 refine aJ (Γ:=af Kc) (aj Ty (aj TL aF)) Tryz.func77 fun ds p h hp=>?_
 unfold Cf at h;split at h
 ·cases h
  exact ⟨ah,am,by rw [TQ];exact TR _ _ _  hp⟩
 ·cases h
def uU (a:List (List Int)) (c:List (List Int)) (s:Int):Post:=⟨bu a s∧aW c=true∧c.length=a.length,.agg [.rows 57 2 .i64 (quo a (a8 a s)),.rows 57 2 .i64 (quo c (a8 a s))],[]⟩
def Ch:List AD→Option Post
 | [.agg [.rows .i64 (a),.rows .i64 (c)],.c (.int .i64 (s))]=>some (uU a c s)
 | _=>none
def Kd:List (Nat×Ctr):=[(142,⟨[],B6⟩),(143,⟨[],Cd⟩)]
def Ci (a:List (List Int)) (c:List (List Int)) (s:Int):Prop :=
 (((bu a s)∧True)∧((((aW a=true)∧(((a8 a s).length=a.length)∧(pb (a8 a s))))∧True)∧((((aW c=true)∧(((a8 a s).length=c.length)∧(pb (a8 a s))))∧True)∧(((quo a (a8 a s)=quo a (a8 a s))∧((quo c (a8 a s)=quo c (a8 a s))∧True))∧True))))
theorem TU (a:List (List Int)) (c:List (List Int)) (s:Int):aC Tryz.prog (af Kd) ah am Tryz.f80 (aE Tryz.f80) [] [.agg [.rows .i64 (a),.rows .i64 (c)],.c (.int .i64 (s))] (uU a c s)=Ci a c s:=by kernel_rfl
theorem TV (a:List (List Int)) (c:List (List Int)) (s:Int) (Yh:(uU a c s).pre):Ci a c s:=by
 simp only [uU,Ci,aG,u1,u2,u3,u4,u5,u6,u7,u8,u9,v1,v2,v3,v4,v5,v6,v7,v8,v9,w1,w2,w3,w4,aH,aa,ab,ae,ar] at Yh ⊢;obtain ⟨h1,h2,h3⟩:=Yh;have e:=kV a s
 have n:pb (a8 a s):=QG _
 exact ⟨h1,⟨h1.1,e,n⟩,h2,by omega,n⟩
theorem TW:Fits Tryz.prog 80 ⟨[],Ch⟩:=by
 refine aJ (Γ:=af Kd) (aj TB (aj TP aF)) Tryz.func80 fun ds p h hp=>?_
 unfold Ch at h;split at h
 ·cases h
  exact ⟨ah,am,by rw [TU];exact TV _ _ _  hp⟩
 ·cases h
def cR (a c:List (List Int)) (s:Int):Int:=if aK a c=true then (if 0≤s∧s≤1 * 2 ^ a.length - 1 then 0 else 2) else 1
def uV (a:List (List Int)) (c:List (List Int)) (s:Int):Post:=⟨au a∧au c,.c (.int .i64 (cR a c s)),[]⟩
def uW:List AD→Option Post
 | [.agg [.rows .i64 (a),.rows .i64 (c)],.c (.int .i64 (s))]=>some (uV a c s)
 | _=>none
def Ke:List (Nat×Ctr):=[(44,⟨[],gT⟩),(108,⟨[],oH⟩)]
def Cj (a:List (List Int)) (c:List (List Int)) (s:Int):Prop :=
 ((((au a)∧(au c))∧True)∧(ac (!aK a c) (((1:Int)=cR a c s)∧True) (((((0:Int)≤(↑(a.length):Int))∧((↑(a.length):Int)≤(62:Int)))∧(ab ((1:Int) * (2:Int) ^ (↑(a.length):Int).toNat)))∧((ab ((1:Int) * (2:Int) ^ (↑(a.length):Int).toNat - (1:Int)))∧((True∧True)∧(ac (!decide ((0:Int)≤s∧s≤(1:Int) * (2:Int) ^ (↑(a.length):Int).toNat - (1:Int))) (((2:Int)=cR a c s)∧True) (((0:Int)=cR a c s)∧True)))))))
theorem TX (a:List (List Int)) (c:List (List Int)) (s:Int):aC Tryz.prog (af Ke) ah am Tryz.f84 (aE Tryz.f84) [] [.agg [.rows .i64 (a),.rows .i64 (c)],.c (.int .i64 (s))] (uV a c s)=Cj a c s:=by kernel_rfl
theorem TY (a:List (List Int)) (c:List (List Int)) (s:Int) (Yh:(uV a c s).pre):Cj a c s:=by
 simp only [uV,Cj,aG,u1,u2,u3,u4,u5,u6,u7,u8,u9,v1,v2,v3,v4,v5,v6,v7,v8,v9,w1,w2,w3,w4,aH,aa,ab,ae,ar] at Yh ⊢;refine ⟨Yh,fun h=>by rw [cR,if_neg (by rw [h];decide)],fun h=>?_⟩
 have n2:=(bA (dh (dq h).1)).2.1
 have pn:(1 * (2:Int) ^ a.length)=((2 ^ a.length:Nat):Int):=by rw [Int.one_mul,Int.natCast_pow];rfl
 have p12:=lV n2
 have pp:=Int.natCast_nonneg (2 ^ a.length)
 have e:cR a c s=if 0≤s∧s≤1 * 2 ^ a.length - 1 then 0 else 2:=by rw [cR,if_pos h]
 rw [e];refine ⟨⟨by omega,by rw [pn];omega,by rw [pn];omega⟩,⟨by rw [pn];omega,by rw [pn];omega⟩,fun h2=>by rw [if_neg h2],fun h2=>by rw [if_pos h2]⟩
theorem Kf:Fits Tryz.prog 84 ⟨[],uW⟩:=by
 refine aJ (Γ:=af Ke) (aj iZ (aj xq aF)) Tryz.func84 fun ds p h hp=>?_
 unfold uW at h;split at h
 ·cases h
  exact ⟨ah,am,by rw [TX];exact TY _ _ _  hp⟩
 ·cases h
def uX (a:List (List Int)) (c:List (List Int)) (s:Int):Post:=⟨au a∧au c,.c (.int .i64 (cR a c s)),[]⟩
def uY:List AD→Option Post
 | [.agg [.rows .i64 (a),.rows .i64 (c)],.c (.int .i64 (s))]=>some (uX a c s)
 | _=>none
def Kg:List (Nat×Ctr):=[(78,⟨[],nC⟩),(106,⟨[],qS⟩)]
def Ck (a:List (List Int)) (c:List (List Int)) (s:Int):Prop :=
 ((((au a)∧(au c))∧True)∧(ac (!aK a c) (((1:Int)=cR a c s)∧True) (((((0:Int)≤IntKind.wrap IntKind.u64 (↑(a.length):Int))∧(IntKind.wrap IntKind.u64 (↑(a.length):Int)≤(62:Int)))∧(ab ((1:Int) * (2:Int) ^ (IntKind.wrap IntKind.u64 (↑(a.length):Int)).toNat)))∧((ab ((1:Int) * (2:Int) ^ (IntKind.wrap IntKind.u64 (↑(a.length):Int)).toNat - (1:Int)))∧((True∧True)∧(ac (!decide ((0:Int)≤s∧s≤(1:Int) * (2:Int) ^ (IntKind.wrap IntKind.u64 (↑(a.length):Int)).toNat - (1:Int))) (((2:Int)=cR a c s)∧True) (((0:Int)=cR a c s)∧True)))))))
theorem TZ (a:List (List Int)) (c:List (List Int)) (s:Int):aC Tryz.prog (af Kg) ah am Tryz.f89 (aE Tryz.f89) [] [.agg [.rows .i64 (a),.rows .i64 (c)],.c (.int .i64 (s))] (uX a c s)=Ck a c s:=by kernel_rfl
theorem T0 (a:List (List Int)) (c:List (List Int)) (s:Int) (Yh:(uX a c s).pre):Ck a c s:=by
 simp only [uX,Ck,aG,u1,u2,u3,u4,u5,u6,u7,u8,u9,v1,v2,v3,v4,v5,v6,v7,v8,v9,w1,w2,w3,w4,aH,aa,ab,ae,ar] at Yh ⊢;refine ⟨Yh,fun h=>by rw [cR,if_neg (by rw [h];decide)],fun h=>?_⟩
 have n2:=(bA (dh (dq h).1)).2.1
 have pn:(1 * (2:Int) ^ a.length)=((2 ^ a.length:Nat):Int):=by rw [Int.one_mul,Int.natCast_pow];rfl
 have p12:=lV n2
 have pp:=Int.natCast_nonneg (2 ^ a.length)
 have wn:IntKind.u64.wrap (a.length:Int)=(a.length:Int):=iX (by omega)
 have e:cR a c s=if 0≤s∧s≤1 * 2 ^ a.length - 1 then 0 else 2:=by rw [cR,if_pos h]
 rw [e,wn,Int.toNat_natCast];refine ⟨⟨by omega,by rw [pn];omega,by rw [pn];omega⟩,⟨by rw [pn];omega,by rw [pn];omega⟩,fun h2=>by rw [if_neg h2],fun h2=>by rw [if_pos h2]⟩
theorem Kh:Fits Tryz.prog 89 ⟨[],uY⟩:=by
 refine aJ (Γ:=af Kg) (aj te (aj Fu aF)) Tryz.func89 fun ds p h hp=>?_
 unfold uY at h;split at h
 ·cases h
  exact ⟨ah,am,by rw [TZ];exact T0 _ _ _  hp⟩
 ·cases h
def aQ (a c:List (List Int)) (s:Int):(List (List Int)×List (List Int))×Int :=
 if cR a c s=0 then (if aR a c s=true then ((quo a (a8 a s),quo c (a8 a s)),0) else (([],[]),5)) else (([],[]),cR a c s)
theorem mc {a c:List (List Int)} {s:Int} (h:cR a c s=0):bM a c∧bu a s:=by
 unfold cR at h;split at h
 ·rename_i hb
  split at h
  ·rename_i hs
   have g:bM a c:=⟨(dq hb).1,(dq hb).2.1,(dq hb).2.2.1⟩
   have pn:(1 * (2:Int) ^ a.length)=((2 ^ a.length:Nat):Int):=by rw [Int.one_mul,Int.natCast_pow];rfl
   rw [pn] at hs;exact ⟨g,dh g.1,hs.1,by omega⟩
  ·omega
 ·omega
theorem Ki (t:List (List Int)) (cl:List Int) (h:cl.length≤12):au (quo t cl)∧(quo t cl).length≤1048576∧lJ (quo t cl)≤1048576:=by
 have fl:=lW cl cl.length
 exact ⟨Ye _ _ (by omega),by rw [quo,fK];omega,Nat.le_trans (Yf _ _ (by omega)) (by omega)⟩
theorem T3 (a c:List (List Int)) (s:Int):(au (aQ a c s).1.1∧(aQ a c s).1.1.length≤1048576∧lJ (aQ a c s).1.1≤1048576)∧au (aQ a c s).1.2∧(aQ a c s).1.2.length≤1048576∧lJ (aQ a c s).1.2≤1048576:=by
 have nil:au ([]:List (List Int))∧([]:List (List Int)).length≤1048576∧lJ ([]:List (List Int))≤1048576:=⟨⟨by simp,by simp⟩,by simp,by simp [lJ]⟩
 unfold aQ;split
 ·rename_i h
  have n2:=(bA (mc h).2.1).2.1
  split
  ·exact ⟨Ki a _ (by rw [kV];exact n2),Ki c _ (by rw [kV];exact n2)⟩
  ·exact ⟨nil,nil⟩
 ·exact ⟨nil,nil⟩
def uZ (a:List (List Int)) (c:List (List Int)) (s:Int):Post:=⟨au a∧au c,.tup [.inr [.rows 57 2 .i64 ((aQ a c s).1.1),.rows 57 2 .i64 ((aQ a c s).1.2)],.inl (.int .i64 ((aQ a c s).2))],[]⟩
def Cl:List AD→Option Post
 | [.agg [.rows .i64 (a),.rows .i64 (c)],.c (.int .i64 (s))]=>some (uZ a c s)
 | _=>none
def Kj:List (Nat×Ctr):=[(84,⟨[],uW⟩),(86,⟨[],kT⟩),(85,⟨[],pf⟩),(77,⟨[],Cf⟩)]
def Cm (a:List (List Int)) (c:List (List Int)) (s:Int):Prop :=
 ((((au a)∧(au c))∧True)∧(ac (cR a c s != (0:Int)) ((((([]:List (List Int))=((aQ a c s).1).1)∧((([]:List (List Int))=((aQ a c s).1).2)∧True))∧((cR a c s=(aQ a c s).2)∧True))∧True) (((bM a c)∧True)∧((((bM a c)∧((aO a c=aO a c)∧(bu a s)))∧True)∧(ac (!aR a c s) ((((([]:List (List Int))=((aQ a c s).1).1)∧((([]:List (List Int))=((aQ a c s).1).2)∧True))∧(((5:Int)=(aQ a c s).2)∧True))∧True) ((((bu a s)∧((aW c=true)∧(c.length=a.length)))∧True)∧((((quo a (a8 a s)=((aQ a c s).1).1)∧((quo c (a8 a s)=((aQ a c s).1).2)∧True))∧(((0:Int)=(aQ a c s).2)∧True))∧True)))))))
theorem T5 (a:List (List Int)) (c:List (List Int)) (s:Int):aC Tryz.prog (af Kj) ah am Tryz.f26 (aE Tryz.f26) [] [.agg [.rows .i64 (a),.rows .i64 (c)],.c (.int .i64 (s))] (uZ a c s)=Cm a c s:=by kernel_rfl
theorem T6 (a:List (List Int)) (c:List (List Int)) (s:Int) (Yh:(uZ a c s).pre):Cm a c s:=by
 simp only [uZ,Cm,aG,u1,u2,u3,u4,u5,u6,u7,u8,u9,v1,v2,v3,v4,v5,v6,v7,v8,v9,w1,w2,w3,w4,aH,aa,ab,ae,ar] at Yh ⊢;refine ⟨Yh,fun h=>by rw [aQ,if_neg h];exact ⟨⟨rfl,rfl⟩,rfl⟩,fun h=>?_⟩
 obtain ⟨g,so⟩:=mc h;have e:aQ a c s=if aR a c s=true then ((quo a (a8 a s),quo c (a8 a s)),0) else (([],[]),5):=by rw [aQ,if_pos h]
 rw [e];refine ⟨g,⟨g,so⟩,fun h2=>by rw [if_neg (by rw [h2];decide)];exact ⟨⟨rfl,rfl⟩,rfl⟩,fun h2=>⟨⟨so,dh g.2.1,g.2.2.symm⟩,by rw [if_pos h2];exact ⟨⟨rfl,rfl⟩,rfl⟩⟩⟩
theorem T7:Fits Tryz.prog 26 ⟨[],Cl⟩:=by
 refine aJ (Γ:=af Kj) (aj Kf (aj nD (aj Ao (aj TT aF)))) Tryz.func26 fun ds p h hp=>?_
 unfold Cl at h;split at h
 ·cases h
  exact ⟨ah,am,by rw [T5];exact T6 _ _ _  hp⟩
 ·cases h
def va (a:List (List Int)) (c:List (List Int)) (s:Int):Post:=⟨au a∧au c,.tup [.inr [.rows 57 2 .i64 ((aQ a c s).1.1),.rows 57 2 .i64 ((aQ a c s).1.2)],.inl (.int .i64 ((aQ a c s).2))],[]⟩
def Cn:List AD→Option Post
 | [.agg [.rows .i64 (a),.rows .i64 (c)],.c (.int .i64 (s))]=>some (va a c s)
 | _=>none
def Kk:List (Nat×Ctr):=[(89,⟨[],uY⟩),(90,⟨[],pm⟩),(80,⟨[],Ch⟩)]
def Co (a:List (List Int)) (c:List (List Int)) (s:Int):Prop :=
 ((((au a)∧(au c))∧True)∧(ac (cR a c s != (0:Int)) ((((([]:List (List Int))=((aQ a c s).1).1)∧((([]:List (List Int))=((aQ a c s).1).2)∧True))∧((cR a c s=(aQ a c s).2)∧True))∧True) ((((bM a c)∧(bu a s))∧True)∧(ac (!aR a c s) ((((([]:List (List Int))=((aQ a c s).1).1)∧((([]:List (List Int))=((aQ a c s).1).2)∧True))∧(((5:Int)=(aQ a c s).2)∧True))∧True) ((((bu a s)∧((aW c=true)∧(c.length=a.length)))∧True)∧((((quo a (a8 a s)=((aQ a c s).1).1)∧((quo c (a8 a s)=((aQ a c s).1).2)∧True))∧(((0:Int)=(aQ a c s).2)∧True))∧True))))))
theorem T8 (a:List (List Int)) (c:List (List Int)) (s:Int):aC Tryz.prog (af Kk) ah am Tryz.f30 (aE Tryz.f30) [] [.agg [.rows .i64 (a),.rows .i64 (c)],.c (.int .i64 (s))] (va a c s)=Co a c s:=by kernel_rfl
theorem T9 (a:List (List Int)) (c:List (List Int)) (s:Int) (Yh:(va a c s).pre):Co a c s:=by
 simp only [va,Co,aG,u1,u2,u3,u4,u5,u6,u7,u8,u9,v1,v2,v3,v4,v5,v6,v7,v8,v9,w1,w2,w3,w4,aH,aa,ab,ae,ar] at Yh ⊢;refine ⟨Yh,fun h=>by rw [aQ,if_neg h];exact ⟨⟨rfl,rfl⟩,rfl⟩,fun h=>?_⟩
 obtain ⟨g,so⟩:=mc h;have e:aQ a c s=if aR a c s=true then ((quo a (a8 a s),quo c (a8 a s)),0) else (([],[]),5):=by rw [aQ,if_pos h]
 rw [e];refine ⟨⟨g,so⟩,fun h2=>by rw [if_neg (by rw [h2];decide)];exact ⟨⟨rfl,rfl⟩,rfl⟩,fun h2=>⟨⟨so,dh g.2.1,g.2.2.symm⟩,by rw [if_pos h2];exact ⟨⟨rfl,rfl⟩,rfl⟩⟩⟩
theorem Ua:Fits Tryz.prog 30 ⟨[],Cn⟩:=by
 refine aJ (Γ:=af Kk) (aj Kh (aj Ax (aj TW aF))) Tryz.func30 fun ds p h hp=>?_
 unfold Cn at h;split at h
 ·cases h
  exact ⟨ah,am,by rw [T8];exact T9 _ _ _  hp⟩
 ·cases h
set_option linter.unusedSectionVars false
structure BrN (n:Nat) (A C:Nat→Nat→Nat):Prop where
 pos:0<n
 ain:∀x y,x<n→y<n→A x y<n
 cin:∀x y,x<n→y<n→C x y<n
 aas:∀x y z,x<n→y<n→z<n→A (A x y) z=A x (A y z)
 cas:∀x y z,x<n→y<n→z<n→C (C x y) z=C x (C y z)
 a0l:∀x,x<n→A 0 x=x
 a0r:∀x,x<n→A x 0=x
 c0l:∀x,x<n→C 0 x=x
 c0r:∀x,x<n→C x 0=x
 ainv:∀x,x<n→∃y,y<n∧A x y=0
 cinv:∀x,x<n→∃y,y<n∧C x y=0
 brc:∀x y z i,x<n→y<n→z<n→i<n→A x i=0→C x (A y z)=A (A (C x y) i) (C x z)
def kb (n:Nat) (A C:Nat→Nat→Nat) (t:Nat):Prop:=t<n∧∀z,z<n→C t z=A t z∧A t z=A z t
section
variable {n:Nat} {A C:Nat→Nat→Nat} (B:BrN n A C)
include B
theorem ke {x y:Nat} (hx:x<n) (hy:y<n) (h:A x y=0):A y x=0:=by
 obtain ⟨z,hz,h2⟩:=B.ainv y hy;have:x=z:=by rw [←B.a0r x hx,←h2,←B.aas x y z hx hy hz,h,B.a0l z hz]
 rw [this,h2]
theorem vd {x y:Nat} (hx:x<n) (hy:y<n) (h:C x y=0):C y x=0:=by
 obtain ⟨z,hz,h2⟩:=B.cinv y hy;have:x=z:=by rw [←B.c0r x hx,←h2,←B.cas x y z hx hy hz,h,B.c0l z hz]
 rw [this,h2]
theorem Kl:kb n A C 0:=⟨B.pos,fun z hz=>⟨by rw [B.c0l z hz,B.a0l z hz],by rw [B.a0l z hz,B.a0r z hz]⟩⟩
theorem Km {x y:Nat} (hx:kb n A C x) (hy:kb n A C y):kb n A C (A x y):=by
 refine ⟨B.ain x y hx.1 hy.1,fun z hz=>⟨?_,?_⟩⟩
 ·rw [←(hx.2 y hy.1).1,B.cas x y z hx.1 hy.1 hz,(hy.2 z hz).1,(hx.2 _ (B.ain y z hy.1 hz)).1,(hx.2 y hy.1).1,B.aas x y z hx.1 hy.1 hz]
 ·rw [B.aas x y z hx.1 hy.1 hz,(hy.2 z hz).2,←B.aas x z y hx.1 hz hy.1,(hx.2 z hz).2,B.aas z x y hz hx.1 hy.1]
theorem Ko {x u i:Nat} (hx:x<n) (hu:kb n A C u) (hi:i<n) (h:A x i=0):kb n A C (A i (C x u))∧A x (A i (C x u))=C x u:=by
 have h2:=ke B hx hi h
 have hcu:=B.cin x u hx hu.1
 have hl:=B.ain i _ hi hcu
 have e0:A x (A i (C x u))=C x u:=by rw [←B.aas x i _ hx hi hcu,h,B.a0l _ hcu]
 obtain ⟨j,hj,hxj⟩:=B.cinv x hx;have hjx:=vd B hx hj hxj
 have hq:A (C x u) i<n:=B.ain _ i hcu hi
 have cen:∀z,z<n→A z (A (C x u) i)=A (A (C x u) i) z:=fun z hz=>by
  have hzx:=B.ain z x hz hx
  have hy:=B.cin j (A z x) hj hzx
  have ey:C x (C j (A z x))=A z x:=by rw [←B.cas x j _ hx hj hzx,hxj,B.c0l _ hzx]
  have b1:=B.brc x _ u i hx hy hu.1 hi h
  have b2:=B.brc x u _ i hx hu.1 hy hi h
  rw [ey] at b1 b2;rw [(hu.2 _ hy).2,b1] at b2;have b3:A z (C x u)=A (A (C x u) i) (A z x):=by
   rw [←b2,B.aas z x i hz hx hi,h,B.a0r z hz]
  have b4:=congrArg (fun v=>A v i) b3
  rw [B.aas z _ i hz hcu hi,B.aas _ _ i hq hzx hi,B.aas z x i hz hx hi,h,B.a0r z hz] at b4;exact b4
 have el:A i (C x u)=A (C x u) i:=by
  have:=cen i hi
  calc A i (C x u)=A i (A (C x u) (A i x)):=by rw [h2,B.a0r _ hcu]
   _=A i (A (A (C x u) i) x):=by rw [B.aas _ i x hcu hi hx]
   _=A (A i (A (C x u) i)) x:=by rw [B.aas i _ x hi hq hx]
   _=A (A (A (C x u) i) i) x:=by rw [this]
   _=A (A (C x u) i) (A i x):=B.aas _ i x hq hi hx
   _=A (C x u) i:=by rw [h2,B.a0r _ hq]
 refine ⟨⟨hl,fun z hz=>⟨?_,by rw [el];exact (cen z hz).symm⟩⟩,e0⟩
 have huj:=B.cin u j hu.1 hj
 have e1:C x (C u j)=A i (C x u):=by
  rw [(hu.2 j hj).1,B.brc x u j i hx hu.1 hj hi h,hxj,B.a0r _ hq,el]
 have hjz:=B.cin j z hj hz
 calc C (A i (C x u)) z=C x (C (C u j) z):=by rw [←e1,B.cas x _ z hx huj hz]
  _=C x (C u (C j z)):=by rw [B.cas u j z hu.1 hj hz]
  _=C x (A u (C j z)):=by rw [(hu.2 _ hjz).1]
  _=A (A (C x u) i) (C x (C j z)):=B.brc x u _ i hx hu.1 hjz hi h
  _=A (A i (C x u)) z:=by rw [←B.cas x j z hx hj hz,hxj,B.c0l z hz,el]
end
theorem BrN.quot {n m:Nat} {A C:Nat→Nat→Nat} (B:BrN n A C) {π f:Nat→Nat} (hm:0<m) (hπ:∀x,x<n→π x<m) (hf:∀x,x<m→f x<n∧π (f x)=x) (h0:π 0=0)
  (ha:∀x x' y y',x<n→y<n→x'<n→y'<n→π x=π x'→π y=π y'→π (A x y)=π (A x' y'))
  (hc:∀x x' y y',x<n→y<n→x'<n→y'<n→π x=π x'→π y=π y'→π (C x y)=π (C x' y')) :
  BrN m (fun x y=>π (A (f x) (f y))) (fun x y=>π (C (f x) (f y))):=by
 have ha':∀x y,x<n→y<n→π (A (f (π x)) (f (π y)))=π (A x y):=fun x y hx hy =>
  ha _ _ _ _ (hf _ (hπ x hx)).1 (hf _ (hπ y hy)).1 hx hy (hf _ (hπ x hx)).2 (hf _ (hπ y hy)).2
 have hc':∀x y,x<n→y<n→π (C (f (π x)) (f (π y)))=π (C x y):=fun x y hx hy =>
  hc _ _ _ _ (hf _ (hπ x hx)).1 (hf _ (hπ y hy)).1 hx hy (hf _ (hπ x hx)).2 (hf _ (hπ y hy)).2
 have sur:∀x,x<m→∃y,y<n∧π y=x:=fun x hx=>⟨f x,(hf x hx).1,(hf x hx).2⟩
 refine ⟨hm,fun x y hx hy=>hπ _ (B.ain _ _ (hf x hx).1 (hf y hy).1),fun x y hx hy=>hπ _ (B.cin _ _ (hf x hx).1 (hf y hy).1),?_,?_,?_,?_,?_,?_,?_,?_,?_⟩
 ·intro x y z hx hy hz
  obtain ⟨x,hx',rfl⟩:=sur x hx;replace hx:=hx';obtain ⟨y,hy',rfl⟩:=sur y hy;replace hy:=hy';obtain ⟨z,hz',rfl⟩:=sur z hz;replace hz:=hz';rw [ha' x y hx hy,ha' y z hy hz,ha' _ z (B.ain x y hx hy) hz,ha' x _ hx (B.ain y z hy hz),B.aas x y z hx hy hz]
 ·intro x y z hx hy hz
  obtain ⟨x,hx',rfl⟩:=sur x hx;replace hx:=hx';obtain ⟨y,hy',rfl⟩:=sur y hy;replace hy:=hy';obtain ⟨z,hz',rfl⟩:=sur z hz;replace hz:=hz';rw [hc' x y hx hy,hc' y z hy hz,hc' _ z (B.cin x y hx hy) hz,hc' x _ hx (B.cin y z hy hz),B.cas x y z hx hy hz]
 ·intro x hx
  obtain ⟨x,hx',rfl⟩:=sur x hx;replace hx:=hx';have:=ha' 0 x B.pos hx
  rw [h0,B.a0l x hx] at this;exact this
 ·intro x hx
  obtain ⟨x,hx',rfl⟩:=sur x hx;replace hx:=hx';have:=ha' x 0 hx B.pos
  rw [h0,B.a0r x hx] at this;exact this
 ·intro x hx
  obtain ⟨x,hx',rfl⟩:=sur x hx;replace hx:=hx';have:=hc' 0 x B.pos hx
  rw [h0,B.c0l x hx] at this;exact this
 ·intro x hx
  obtain ⟨x,hx',rfl⟩:=sur x hx;replace hx:=hx';have:=hc' x 0 hx B.pos
  rw [h0,B.c0r x hx] at this;exact this
 ·intro x hx
  obtain ⟨x,hx',rfl⟩:=sur x hx;replace hx:=hx';obtain ⟨y,hy,h⟩:=B.ainv x hx;exact ⟨π y,hπ y hy,by rw [ha' x y hx hy,h,h0]⟩
 ·intro x hx
  obtain ⟨x,hx',rfl⟩:=sur x hx;replace hx:=hx';obtain ⟨y,hy,h⟩:=B.cinv x hx;exact ⟨π y,hπ y hy,by rw [hc' x y hx hy,h,h0]⟩
 ·intro x y z i hx hy hz hi h
  obtain ⟨x,hx',rfl⟩:=sur x hx;replace hx:=hx';obtain ⟨y,hy',rfl⟩:=sur y hy;replace hy:=hy';obtain ⟨z,hz',rfl⟩:=sur z hz;replace hz:=hz';obtain ⟨k,hk,h2⟩:=B.ainv x hx;have ei:i=π k:=by
   obtain ⟨i,hi',rfl⟩:=sur i hi;replace hi:=hi';rw [ha' x i hx hi] at h;have h3:=ke B hx hk h2
   have e1:=ha k k (A x i) 0 hk (B.ain x i hx hi) hk B.pos rfl (by rw [h,h0])
   rw [←B.aas k x i hk hx hi,h3,B.a0l i hi,B.a0r k hk] at e1;exact e1
  subst ei;have hxy:=B.cin x y hx hy
  have hxz:=B.cin x z hx hz
  rw [ha' y z hy hz,hc' x _ hx (B.ain y z hy hz),hc' x y hx hy,ha' _ k hxy hk,hc' x z hx hz,ha' _ _ (B.ain _ k hxy hk) hxz,B.brc x y z k hx hy hz hk h2]
theorem BrN.congr {n:Nat} {A C A' C':Nat→Nat→Nat} (B:BrN n A C) (ea:∀x y,x<n→y<n→A' x y=A x y) (ec:∀x y,x<n→y<n→C' x y=C x y):BrN n A' C':=by
 refine ⟨B.pos,fun x y hx hy=>by rw [ea x y hx hy];exact B.ain x y hx hy,fun x y hx hy=>by rw [ec x y hx hy];exact B.cin x y hx hy,fun x y z hx hy hz=>?_,fun x y z hx hy hz=>?_,fun x hx=>?_,fun x hx=>?_,fun x hx=>?_,fun x hx=>?_,fun x hx=>?_,fun x hx=>?_,fun x y z i hx hy hz hi h=>?_⟩
 ·rw [ea x y hx hy,ea y z hy hz,ea _ z (B.ain x y hx hy) hz,ea x _ hx (B.ain y z hy hz),B.aas x y z hx hy hz]
 ·rw [ec x y hx hy,ec y z hy hz,ec _ z (B.cin x y hx hy) hz,ec x _ hx (B.cin y z hy hz),B.cas x y z hx hy hz]
 ·rw [ea 0 x B.pos hx,B.a0l x hx]
 ·rw [ea x 0 hx B.pos,B.a0r x hx]
 ·rw [ec 0 x B.pos hx,B.c0l x hx]
 ·rw [ec x 0 hx B.pos,B.c0r x hx]
 ·obtain ⟨y,hy,h⟩:=B.ainv x hx
  exact ⟨y,hy,by rw [ea x y hx hy,h]⟩
 ·obtain ⟨y,hy,h⟩:=B.cinv x hx
  exact ⟨y,hy,by rw [ec x y hx hy,h]⟩
 ·rw [ea x i hx hi] at h
  rw [ea y z hy hz,ec x _ hx (B.ain y z hy hz),ec x y hx hy,ec x z hx hz,ea _ i (B.cin x y hx hy) hi,ea _ _ (B.ain _ i (B.cin x y hx hy) hi) (B.cin x z hx hz),B.brc x y z i hx hy hz hi h]
theorem Cp (p:Nat→Bool):∀n k,(dW p n).testBit k=(decide (k<n)&&p k)
 | 0,k=>by simp [dW]
 | n+1,k=>by
  simp only [dW];have ih:=Cp p n k
  split
  ·rename_i hp
   rw [Nat.testBit_or,ih,Nat.testBit_two_pow];by_cases h1:n=k
   ·subst h1;simp [hp]
   ·by_cases h2:k<n
    ·simp [h1,h2,show k<n+1 by omega]
    ·simp [h1,h2,show ¬ k<n+1 by omega]
  ·rename_i hp
   rw [ih];by_cases h1:n=k
   ·subst h1;simp [hp]
   ·by_cases h2:k<n
    ·simp [h2,show k<n+1 by omega]
    ·simp [h2,show ¬ k<n+1 by omega]
def pT (a c:List (List Int)) (x y:Nat):Bool:=decide (en c x y=en a x y)&&decide (en a x y=en a y x)
def la (a c:List (List Int)) (x:Nat):Bool:=(List.range a.length).all (pT a c x)
def eh (a c:List (List Int)) (i:Nat):Nat:=dW (la a c) i
def bt (a c:List (List Int)):Int:=(eh a c a.length:Nat)
theorem Ub (a c:List (List Int)) (k:Nat):aD (bt a c) k=(decide (k<a.length)&&la a c k):=by
 unfold aD bt eh;rw [Int.toNat_natCast,Cp]
theorem Cq {a:List (List Int)} (h:aW a=true) (c:List (List Int)):bu a (bt a c):=by
 refine ⟨h,Int.natCast_nonneg _,?_⟩
 unfold bt eh;rw [Int.toNat_natCast];exact oX _ _
def tA (t:List (List Int)) (x y:Nat):Nat:=(en t x y).toNat
def eW (a c:List (List Int)):Prop:=aW a=true∧aW c=true∧c.length=a.length∧BrN a.length (tA a) (tA c)
theorem fh {t:List (List Int)} (h:aW t=true) {x y:Nat} (hx:x<t.length) (hy:y<t.length):tA t x y<t.length∧en t x y=(tA t x y:Int):=by
 have:=((bA h).2.2 x hx).2 y hy
 unfold tA;unfold en;omega
theorem ve (x:Int):∀(l:List Int) (k:Int),x∈l→l.getD (bo x l k - k).toNat 0=x
 | [],k,h=>by simp at h
 | y::l,k,h=>by
  simp only [bo];split
  ·rename_i hy;subst hy;simp
  ·rename_i hy
   have hm:x∈l:=by
    rcases List.mem_cons.1 h with rfl | h
    ·exact absurd rfl hy
    ·exact h
   have ih:=ve x l (k+1) hm
   have hn:k+1≤bo x l (k+1):=by
    have:∀(l:List Int) (k:Int),x∈l→k≤bo x l k:=fun l=>by
     induction l with
     | nil=>intro k h;simp at h
     | cons z l ihl =>
      intro k h
      simp only [bo];split
      ·omega
      ·rename_i hz
       have hm:x∈l:=by
        rcases List.mem_cons.1 h with rfl | h
        ·exact absurd rfl hz
        ·exact h
       have:=ihl (k+1) hm
       omega
    exact this l (k+1) hm
   rw [show (bo x l (k+1) - k).toNat=(bo x l (k+1) - (k+1)).toNat+1 by omega]
   simpa using ih
theorem pU {t:List (List Int)} (h:a9 t=true) :
  (∀x y z,x<t.length→y<t.length→z<t.length→tA t (tA t x y) z=tA t x (tA t y z))∧(∀x,x<t.length→tA t 0 x=x)∧(∀x,x<t.length→tA t x 0=x) ∧
  (∀x,x<t.length→(bk t x).toNat<t.length∧tA t x (bk t x).toNat=0):=by
 have ht:=bA (dh h)
 have hbk:=fun x (hx:x<t.length)=>lS h hx
 rw [a9,Bool.and_eq_true,Bool.and_eq_true] at h;obtain ⟨_,hp,hg⟩:=h;rw [List.all_eq_true] at hg;have hg2:∀x,x<t.length→gQ t x=true∧lR t x=true:=fun x hx=>by
  have:=hg x (by simpa using hx)
  rw [f3,Bool.and_eq_true] at this;exact this
 refine ⟨fun x y z hx hy hz=>?_,fun x hx=>?_,fun x hx=>?_,fun x hx=>⟨?_,?_⟩⟩
 ·have h1:=(hg2 x hx).2
  rw [lR,List.all_eq_true] at h1;have h2:=h1 y (by simpa using hy)
  rw [gP,List.all_eq_true] at h2;have h3:=of_decide_eq_true (h2 z (by simpa using hz))
  unfold tA;rw [h3]
 ·have h1:=(hg2 x hx).1
  rw [gQ,Bool.and_eq_true] at h1;have:=of_decide_eq_true h1.1
  unfold tA;rw [this];rfl
 ·have h1:=(hg2 x hx).1
  rw [gQ,Bool.and_eq_true] at h1;have:=of_decide_eq_true h1.2
  unfold tA;rw [this];rfl
 ·have:=hbk x hx;omega
 ·have hr:=ht.2.2 x hx
  have hpx:cW (t.getD x [])=true:=by
   rw [su,List.all_eq_true] at hp;exact hp x (by simpa using hx)
  have hm:=Hj hpx (x:=0) (by omega) (by omega)
  have:=ve 0 (t.getD x []) 0 hm
  rw [Int.sub_zero] at this;unfold tA en bk;rw [this];rfl
theorem vf {α:Type} {n:Nat} {q:Nat→Option α}:∀{k:Nat},k≤n→b7 n q k=none→∀i,n - k≤i→i<n→q i=none
 | 0,_,_,i,h1,h2=>by omega
 | k+1,hk,h,i,h1,h2=>by
  simp only [b7,Option.or_eq_none_iff] at h;by_cases hi:i=n - (k+1)
  ·subst hi;exact h.1
  ·exact vf (by omega) h.2 i (by omega) h2
theorem Cr {a c:List (List Int)} (h:aK a c=true):eW a c:=by
 obtain ⟨h1,h2,h3,h4⟩:=dq h;obtain ⟨a1,a2,a3,a4⟩:=pU h1;obtain ⟨c1,c2,c3,c4⟩:=pU h2;rw [←h3] at c1 c2 c3 c4;have ta:=dh h1
 have tc:=dh h2
 have hA:∀x y,x<a.length→y<a.length→tA a x y<a.length∧en a x y=(tA a x y:Int):=fun x y hx hy=>fh ta hx hy
 have hC:∀x y,x<a.length→y<a.length→tA c x y<a.length∧en c x y=(tA c x y:Int):=fun x y hx hy=>by
  have:=fh tc (x:=x) (y:=y) (by omega) (by omega)
  rwa [←h3] at this
 refine ⟨ta,tc,h3.symm,(bA ta).1,fun x y hx hy=>(hA x y hx hy).1,fun x y hx hy=>(hC x y hx hy).1,a1,c1,a2,a3,c2,c3,fun x hx=>⟨_,a4 x hx⟩,fun x hx=>⟨_,c4 x hx⟩,fun x y z i hx hy hz hi hxi=>?_⟩
 have ei:i=(bk a x).toNat:=by
  obtain ⟨hk,hxk⟩:=a4 x hx;obtain ⟨z2,hz2,hkz⟩:∃z2,z2<a.length∧tA a (bk a x).toNat z2=0:=⟨_,a4 _ hk⟩;have:x=z2:=(a3 x hx).symm.trans (by rw [←hkz,←a1 x _ _ hx hk hz2,hxk,a2 _ hz2])
  subst this;rw [←a2 i hi,←hkz,a1 _ x i hk hx hi,hxi,a3 _ hk]
 subst ei;have h5:cA a c=none:=by simpa using h4
 have h6:=vf (Nat.le_refl _) h5 x (by omega) hx
 have h7:=vf (Nat.le_refl _) h6 y (by omega) hy
 have h8:=vf (Nat.le_refl _) h7 z (by omega) hz
 rw [ie] at h8;split at h8
 ·rename_i h9
  unfold tA;rw [h9]
 ·cases h8
theorem Kp (t:List (List Int)) (s:Int) (x:Nat):∀k,dI t s x k≤(x:Int)∧(dI t s x k=(x:Int)∨∃j,j<k∧aD s j=true∧dI t s x k=en t x j)∧∀j,j<k→aD s j=true→dI t s x k≤en t x j
 | 0=>⟨Int.le_refl _,.inl rfl,fun j hj=>by omega⟩
 | k+1=>by
  obtain ⟨h1,h2,h3⟩:=Kp t s x k;simp only [dI];split
  ·rename_i hb
   unfold mn;split
   ·refine ⟨by omega,.inr ⟨k,by omega,hb,rfl⟩,fun j hj hj2=>?_⟩
    by_cases e:j=k
    ·subst e;omega
    ·have:=h3 j (by omega) hj2;omega
   ·refine ⟨h1,?_,fun j hj hj2=>?_⟩
    ·rcases h2 with h2 | ⟨j,h4,h5,h6⟩
     ·exact .inl h2
     ·exact .inr ⟨j,by omega,h5,h6⟩
    ·by_cases e:j=k
     ·subst e;omega
     ·exact h3 j (by omega) hj2
  ·rename_i hb
   refine ⟨h1,?_,fun j hj hj2=>?_⟩
   ·rcases h2 with h2 | ⟨j,h4,h5,h6⟩
    ·exact .inl h2
    ·exact .inr ⟨j,by omega,h5,h6⟩
   ·by_cases e:j=k
    ·subst e;exact absurd hj2 hb
    ·exact h3 j (by omega) hj2
section
variable {a c:List (List Int)} (B:eW a c)
include B
theorem vg (t:Nat):aD (bt a c) t=true↔kb a.length (tA a) (tA c) t:=by
 obtain ⟨ta,tc,hl,hB⟩:=B;rw [Ub,Bool.and_eq_true,decide_eq_true_eq,la,List.all_eq_true]
 constructor
 ·rintro ⟨h1,h2⟩
  refine ⟨h1,fun z hz=>?_⟩
  have:=h2 z (by simpa using hz)
  rw [pT,Bool.and_eq_true,decide_eq_true_eq,decide_eq_true_eq] at this;unfold tA;rw [this.1,←this.2];exact ⟨rfl,rfl⟩
 ·rintro ⟨h1,h2⟩
  refine ⟨h1,fun z hz=>?_⟩
  have hz:z<a.length:=by simpa using hz
  have:=h2 z hz
  have e1:=(fh ta h1 hz).2
  have e2:=(fh ta hz h1).2
  have e3:=(fh tc (x:=t) (y:=z) (by omega) (by omega)).2
  rw [pT,Bool.and_eq_true,decide_eq_true_eq,decide_eq_true_eq];omega
def lb (a:List (List Int)) (s:Int) (x:Nat):Nat:=(dI a s x a.length).toNat
end
theorem Kq (l:List Int) (i:Nat):∀j,∃m,bh l (i+j)=bh l i++m
 | 0=>⟨[],by simp⟩
 | j+1=>by
  obtain ⟨m,h⟩:=Kq l i j;rw [←Nat.add_assoc];simp only [bh];split
  ·exact ⟨m,h⟩
  ·exact ⟨m++[l.getD (i+j) 0],by rw [h,List.append_assoc]⟩
theorem Cs (l:List Int) {i:Nat} (hi:i<l.length):(bR l).getD i 0=bo (l.getD i 0) (bh l l.length) 0∧l.getD i 0∈bh l l.length:=by
 have hm:=HY l i
 obtain ⟨m,h⟩:=Kq l (i+1) (l.length - (i+1));rw [show i+1+(l.length - (i+1))=l.length by omega] at h
 refine ⟨?_,by rw [h];exact List.mem_append.2 (.inl hm)⟩
 rw [h,HW _ _ _ _ hm];exact cr _ _ _ hi
theorem Uc (l:List Int) {i j:Nat} (hi:i<l.length) (hj:j<l.length):(bR l).getD i 0=(bR l).getD j 0↔l.getD i 0=l.getD j 0:=by
 obtain ⟨h1,h2⟩:=Cs l hi;obtain ⟨h3,h4⟩:=Cs l hj;rw [h1,h3]
 constructor
 ·intro h
  have a:=ve _ _ 0 h2
  have b:=ve _ _ 0 h4
  rw [h] at a;exact a.symm.trans b
 ·intro h;rw [h]
theorem Ud (l:List Int) {i:Nat} (hi:i<l.length):0≤(bR l).getD i 0∧(bR l).getD i 0<((bj (bR l) (bR l).length).length:Int):=by
 obtain ⟨h1,h2⟩:=Cs l hi;have hl:(bR l).length=l.length:=cf _ _
 rw [h1,hl,Ai l l.length (Nat.le_refl _)];have:=oZ (l.getD i 0) (bh l l.length) 0 (by omega)
 exact ⟨Ag _ _ h2,by omega⟩
theorem Ct (cl:List Int):∀i X,X<(bj cl i).length→cl.getD ((bj cl i).getD X 0).toNat 0=(X:Int)
 | 0,X,h=>by simp [bj] at h
 | i+1,X,h=>by
  simp only [bj] at h ⊢;split
  ·rename_i hc
   rw [if_pos hc] at h;by_cases e:X=(bj cl i).length
   ·subst e
    rw [show (bj cl i++[(i:Int)]).getD (bj cl i).length 0=(i:Int) by simp [List.getD],Int.toNat_natCast,hc]
   ·have hX:X<(bj cl i).length:=by simp at h;omega
    rw [show (bj cl i++[(i:Int)]).getD X 0=(bj cl i).getD X 0 by simp [List.getD,List.getElem?_append_left hX]]
    exact Ct cl i X hX
  ·rename_i hc
   rw [if_neg hc] at h;exact Ct cl i X h
section
variable {a c:List (List Int)} (B:eW a c)
include B
def cm (a c:List (List Int)):Nat:=(bj (a8 a (bt a c)) (a8 a (bt a c)).length).length
end
end Go.Sx
