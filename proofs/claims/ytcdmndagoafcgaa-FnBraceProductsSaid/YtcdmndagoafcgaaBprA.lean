/- BprA -/
import Derived.Test.YtcdmndagoafcgaaCirM
import Derived.Test.YtcdmndagoafcgaaBrdE
open Go Go.Proofs
namespace Go.Sx
set_option linter.unusedSimpArgs false
set_option linter.unusedVariables false
def productTable1_p (x:Int) (y:Int) (a:List (List Int)) (m:Int) (b:List (List Int)):Post:=⟨tbN a.length a∧tbN b.length b∧1≤b.length∧a.length * b.length≤144∧m=(b.length:Int)∧0≤x∧x<((a.length * b.length:Nat):Int)∧0≤y∧y<((a.length * b.length:Nat):Int),.c (.int .i64 (prF a b x.toNat y.toNat)),[]⟩
def productTable1_ct:List AD→Option Post
 | [.c (.int .i64 (x)),.c (.int .i64 (y)),.box [.rows .i64 (a)],.box [.int .i64 (m)],.box [.rows .i64 (b)]]=>some (productTable1_p x y a m b)
 | _=>none
def productTable1_G:List (Nat×Ctr):=[]
def productTable1_V (x:Int) (y:Int) (a:List (List Int)) (m:Int) (b:List (List Int)):Prop :=
 (((m≠(0:Int))∧(InR (Int.tdiv x m)))∧((inB (Int.tdiv x m) (a.length))∧(((m≠(0:Int))∧(InR (Int.tdiv y m)))∧((inB (Int.tdiv y m) ((a.getD ((Int.tdiv x m).toNat) []).length))∧((InR ((List.getD a ((Int.tdiv x m).toNat) []).getD ((Int.tdiv y m).toNat) (0:Int) * m))∧((m≠(0:Int))∧((inB (Int.tmod x m) (b.length))∧((m≠(0:Int))∧((inB (Int.tmod y m) ((b.getD ((Int.tmod x m).toNat) []).length))∧((InR ((List.getD a ((Int.tdiv x m).toNat) []).getD ((Int.tdiv y m).toNat) (0:Int) * m+(List.getD b ((Int.tmod x m).toNat) []).getD ((Int.tmod y m).toNat) (0:Int)))∧(((List.getD a ((Int.tdiv x m).toNat) []).getD ((Int.tdiv y m).toNat) (0:Int) * m+(List.getD b ((Int.tmod x m).toNat) []).getD ((Int.tmod y m).toNat) (0:Int)=prF a b (x.toNat) (y.toNat))∧True)))))))))))
theorem productTable1_vc (x:Int) (y:Int) (a:List (List Int)) (m:Int) (b:List (List Int)):runF Try.prog (gam productTable1_G) noWr noAnn Try.f98 (bodyOf Try.f98) [] [.c (.int .i64 (x)),.c (.int .i64 (y)),.box [.rows .i64 (a)],.box [.int .i64 (m)],.box [.rows .i64 (b)]] (productTable1_p x y a m b)=productTable1_V x y a m b:=by kernel_rfl
theorem productTable1_ok (x:Int) (y:Int) (a:List (List Int)) (m:Int) (b:List (List Int)) (hpre:(productTable1_p x y a m b).pre):productTable1_V x y a m b:=by
 simp only [productTable1_p,productTable1_V,BrP_iff,u1,u2,u3,u4,u5,u6,u7,u8,u9,v1,v2,v3,v4,v5,v6,v7,v8,v9,w1,w2,w3,w4,markL_length,inB,InR,room,bdsOk] at hpre ⊢
 obtain ⟨h1,h2,h3,h4,rfl,a1,a2,b1,b2⟩:=hpre
 obtain ⟨x1,x2,x3,x4⟩:=td_in (x:=x.toNat) (a:=a.length) (m:=b.length) (by omega) h3
 obtain ⟨y1,y2,y3,y4⟩:=td_in (x:=y.toNat) (a:=a.length) (m:=b.length) (by omega) h3
 have P:=pr_in h1 h2 h3 (x:=x.toNat) (y:=y.toNat) (by omega) (by omega)
 have A:=(h1.2 _ x3)
 have B:=(h2.2 _ x4)
 have A2:=A.2 _ y3
 have B2:=B.2 _ y4
 have E:prF a b x.toNat y.toNat=prF a b x.toNat y.toNat:=rfl
 conv at E=>rhs;rw [prF]
 rw [Int.toNat_of_nonneg a1] at x1 x2 E
 rw [Int.toNat_of_nonneg b1] at y1 y2 E
 rw [x1,x2,y1,y2] at E
 rw [E] at P ⊢
 rw [x1,x2,y1,y2]
 simp only [Int.toNat_natCast] at P ⊢
 have A3:((a.getD (x.toNat / b.length) []).getD (y.toNat / b.length) 0)=en a (x.toNat / b.length) (y.toNat / b.length):=rfl
 have B3:((b.getD (x.toNat % b.length) []).getD (y.toNat % b.length) 0)=en b (x.toNat % b.length) (y.toNat % b.length):=rfl
 rw [A3,B3]
 have u0:0≤en a (x.toNat / b.length) (y.toNat / b.length) * (b.length:Int):=Int.mul_nonneg A2.1 (by omega)
 have eb:=h2.1
 have xl:x.toNat / b.length≤x.toNat:=Nat.div_le_self _ _
 have yl:y.toNat / b.length≤y.toNat:=Nat.div_le_self _ _
 clear x1 x2 y1 y2 E
 generalize x.toNat / b.length=u1 at *
 generalize y.toNat / b.length=u2 at *
 generalize x.toNat % b.length=v1 at *
 generalize y.toNat % b.length=v2 at *
 generalize a.length * b.length=N at *
 generalize en a u1 u2 * (b.length:Int)=W at *
 refine ⟨⟨by omega,by omega⟩,by omega,⟨by omega,by omega⟩,by omega,by omega,by omega,by omega,by omega,by omega,by omega⟩
theorem productTable1_fits:Fits Try.prog 98 ⟨[],productTable1_ct⟩:=by
 refine ffn (Γ:=gam productTable1_G) gok_nil Try.func98 fun ds p h hp=>?_
 unfold productTable1_ct at h
 split at h
 ·cases h
  exact ⟨noWr,noAnn,by rw [productTable1_vc];exact productTable1_ok _ _ _ _ _  hp⟩
 ·cases h
def productTable_p (a:List (List Int)) (b:List (List Int)):Post:=⟨tbN a.length a∧tbN b.length b∧1≤b.length∧a.length * b.length≤144,.c (.rows 22 2 .i64 (prT a b)),[]⟩
def productTable_ct:List AD→Option Post
 | [.c (.rows .i64 (a)),.c (.rows .i64 (b))]=>some (productTable_p a b)
 | _=>none
def productTable_G:List (Nat×Ctr):=[(97,⟨[],tableBy_ct⟩),(98,⟨[],productTable1_ct⟩)]
def productTable_V (a:List (List Int)) (b:List (List Int)):Prop :=
 ((InR ((↑(a.length):Int) * (↑(b.length):Int)))∧(((((0:Int)≤(↑(a.length):Int) * (↑(b.length):Int))∧(((↑(a.length):Int) * (↑(b.length):Int)≤(144:Int))∧(∀(x y:Int),(0:Int)≤x→x<(↑(a.length):Int) * (↑(b.length):Int)→(0:Int)≤y→y<(↑(a.length):Int) * (↑(b.length):Int)→ctQI (productTable1_ct [AD.c (FC.int IntKind.i64 x),AD.c (FC.int IntKind.i64 y),AD.box [FC.rows IntKind.i64 a],AD.box [FC.int IntKind.i64 (↑(b.length):Int)],AD.box [FC.rows IntKind.i64 b]]))))∧True)∧(((tabR (((↑(a.length):Int) * (↑(b.length):Int)).toNat) fun (x y:Nat)=>ctI (productTable1_ct [AD.c (FC.int IntKind.i64 (↑x:Int)),AD.c (FC.int IntKind.i64 (↑y:Int)),AD.box [FC.rows IntKind.i64 a],AD.box [FC.int IntKind.i64 (↑(b.length):Int)],AD.box [FC.rows IntKind.i64 b]]))=prT a b)∧True)))
theorem productTable_vc (a:List (List Int)) (b:List (List Int)):runF Try.prog (gam productTable_G) noWr noAnn Try.f49 (bodyOf Try.f49) [] [.c (.rows .i64 (a)),.c (.rows .i64 (b))] (productTable_p a b)=productTable_V a b:=by kernel_rfl
theorem productTable_ok (a:List (List Int)) (b:List (List Int)) (hpre:(productTable_p a b).pre):productTable_V a b:=by
 simp only [productTable_p,productTable_V,BrP_iff,u1,u2,u3,u4,u5,u6,u7,u8,u9,v1,v2,v3,v4,v5,v6,v7,v8,v9,w1,w2,w3,w4,markL_length,inB,InR,room,bdsOk] at hpre ⊢
 obtain ⟨h1,h2,h3,h4⟩:=hpre
 have hc:(a.length:Int) * (b.length:Int)=((a.length * b.length:Nat):Int):=by rw [Int.natCast_mul]
 rw [hc]
 refine ⟨by omega,⟨by omega,by omega,fun x y x1 x2 y1 y2=>⟨h1,h2,h3,h4,rfl,x1,x2,y1,y2⟩⟩,?_⟩
 rw [Int.toNat_natCast]
 exact tabR_ext fun x y hx hy=>rfl
theorem productTable_fits:Fits Try.prog 49 ⟨[],productTable_ct⟩:=by
 refine ffn (Γ:=gam productTable_G) (gok_cons tableBy_fits (gok_cons productTable1_fits gok_nil)) Try.func49 fun ds p h hp=>?_
 unfold productTable_ct at h
 split at h
 ·cases h
  exact ⟨noWr,noAnn,by rw [productTable_vc];exact productTable_ok _ _  hp⟩
 ·cases h
def pbC (a c a2 c2:List (List Int)):(List (List Int)×List (List Int))×Int :=
 if brcB a c=true∧brcB a2 c2=true then (if a.length * a2.length≤12 then ((prT a a2,prT c c2),0) else (([],[]),3)) else (([],[]),1)
def iPB_p (a:List (List Int)) (c:List (List Int)) (a2:List (List Int)) (c2:List (List Int)):Post:=⟨roomR a∧roomR c∧roomR a2∧roomR c2,.tup [.inr [.rows 22 2 .i64 ((pbC a c a2 c2).1.1),.rows 22 2 .i64 ((pbC a c a2 c2).1.2)],.inl (.int .i64 ((pbC a c a2 c2).2))],[]⟩
def iPB_ct:List AD→Option Post
 | [.agg [.rows .i64 (a),.rows .i64 (c)],.agg [.rows .i64 (a2),.rows .i64 (c2)]]=>some (iPB_p a c a2 c2)
 | _=>none
def iPB_G:List (Nat×Ctr):=[(24,⟨[],IsBrace_ct⟩),(49,⟨[],productTable_ct⟩)]
def iPB_V (a:List (List Int)) (c:List (List Int)) (a2:List (List Int)) (c2:List (List Int)):Prop :=
 ((((roomR a)∧(roomR c))∧True)∧(BrP (!brcB a c) ((((([]:List (List Int))=((pbC a c a2 c2).1).1)∧((([]:List (List Int))=((pbC a c a2 c2).1).2)∧True))∧(((1:Int)=(pbC a c a2 c2).2)∧True))∧True) ((((roomR a2)∧(roomR c2))∧True)∧(BrP (!brcB a2 c2) ((((([]:List (List Int))=((pbC a c a2 c2).1).1)∧((([]:List (List Int))=((pbC a c a2 c2).1).2)∧True))∧(((1:Int)=(pbC a c a2 c2).2)∧True))∧True) ((InR ((↑(a.length):Int) * (↑(a2.length):Int)))∧(BrP (decide ((12:Int)<(↑(a.length):Int) * (↑(a2.length):Int))) ((((([]:List (List Int))=((pbC a c a2 c2).1).1)∧((([]:List (List Int))=((pbC a c a2 c2).1).2)∧True))∧(((3:Int)=(pbC a c a2 c2).2)∧True))∧True) ((((tbN (a.length) a)∧((tbN (a2.length) a2)∧(((1:Nat)≤a2.length)∧(a.length * a2.length≤(144:Nat)))))∧True)∧((((tbN (c.length) c)∧((tbN (c2.length) c2)∧(((1:Nat)≤c2.length)∧(c.length * c2.length≤(144:Nat)))))∧True)∧((((prT a a2=((pbC a c a2 c2).1).1)∧((prT c c2=((pbC a c a2 c2).1).2)∧True))∧(((0:Int)=(pbC a c a2 c2).2)∧True))∧True)))))))))
theorem iPB_vc (a:List (List Int)) (c:List (List Int)) (a2:List (List Int)) (c2:List (List Int)):runF Try.prog (gam iPB_G) noWr noAnn Try.f18 (bodyOf Try.f18) [] [.agg [.rows .i64 (a),.rows .i64 (c)],.agg [.rows .i64 (a2),.rows .i64 (c2)]] (iPB_p a c a2 c2)=iPB_V a c a2 c2:=by kernel_rfl
theorem iPB_ok (a:List (List Int)) (c:List (List Int)) (a2:List (List Int)) (c2:List (List Int)) (hpre:(iPB_p a c a2 c2).pre):iPB_V a c a2 c2:=by
 simp only [iPB_p,iPB_V,BrP_iff,u1,u2,u3,u4,u5,u6,u7,u8,u9,v1,v2,v3,v4,v5,v6,v7,v8,v9,w1,w2,w3,w4,markL_length,inB,InR,room,bdsOk] at hpre ⊢
 obtain ⟨h1,h2,h3,h4⟩:=hpre
 refine ⟨⟨h1,h2⟩,fun b=>?_,fun b=>⟨⟨h3,h4⟩,fun b2=>?_,fun b2=>?_⟩⟩
 ·have R:pbC a c a2 c2=(([],[]),1):=if_neg (by rw [b];simp)
  rw [R];exact ⟨⟨rfl,rfl⟩,rfl⟩
 ·have R:pbC a c a2 c2=(([],[]),1):=if_neg (by rw [b2];simp)
  rw [R];exact ⟨⟨rfl,rfl⟩,rfl⟩
 ·obtain ⟨A1,A2,A3⟩:=brT_tb (brT_of b)
  obtain ⟨B1,B2,B3⟩:=brT_tb (brT_of b2)
  have ta:=tabB_of (brT_of b).1
  have tb:=tabB_of (brT_of b2).1
  have lc:c.length=a.length:=A2.1
  have lc2:c2.length=a2.length:=B2.1
  have A2':tbN c.length c:=by rw [lc];exact A2
  have B2':tbN c2.length c2:=by rw [lc2];exact B2
  have hm:a.length * a2.length≤12 * 12:=Nat.mul_le_mul ta.2.1 tb.2.1
  have hc:(a.length:Int) * (a2.length:Int)=((a.length * a2.length:Nat):Int):=by rw [Int.natCast_mul]
  rw [hc]
  refine ⟨by omega,fun z=>?_,fun z=>?_⟩
  ·have R:pbC a c a2 c2=(([],[]),3):=(if_pos ⟨b,b2⟩).trans (if_neg (by omega))
   rw [R];exact ⟨⟨rfl,rfl⟩,rfl⟩
  ·have R:pbC a c a2 c2=((prT a a2,prT c c2),0):=(if_pos ⟨b,b2⟩).trans (if_pos (by omega))
   rw [R]
   exact ⟨⟨A1,B1,B3,by omega⟩,⟨A2',B2',by omega,by rw [lc,lc2];omega⟩,⟨rfl,rfl⟩,rfl⟩
theorem iPB_fits:Fits Try.prog 18 ⟨[],iPB_ct⟩:=by
 refine ffn (Γ:=gam iPB_G) (gok_cons IsBrace_fits (gok_cons productTable_fits gok_nil)) Try.func18 fun ds p h hp=>?_
 unfold iPB_ct at h
 split at h
 ·cases h
  exact ⟨noWr,noAnn,by rw [iPB_vc];exact iPB_ok _ _ _ _  hp⟩
 ·cases h
def sPB_p (a:List (List Int)) (c:List (List Int)) (a2:List (List Int)) (c2:List (List Int)):Post:=⟨roomR a∧roomR c∧roomR a2∧roomR c2,.tup [.inr [.rows 22 2 .i64 ((pbC a c a2 c2).1.1),.rows 22 2 .i64 ((pbC a c a2 c2).1.2)],.inl (.int .i64 ((pbC a c a2 c2).2))],[]⟩
def sPB_ct:List AD→Option Post
 | [.agg [.rows .i64 (a),.rows .i64 (c)],.agg [.rows .i64 (a2),.rows .i64 (c2)]]=>some (sPB_p a c a2 c2)
 | _=>none
def sPB_G:List (Nat×Ctr):=[(50,⟨[],l11Is_ct⟩),(51,⟨[],l04Product_ct⟩)]
def sPB_V (a:List (List Int)) (c:List (List Int)) (a2:List (List Int)) (c2:List (List Int)):Prop :=
 ((((roomR a)∧(roomR c))∧True)∧(BrP (!brcB a c) ((((([]:List (List Int))=((pbC a c a2 c2).1).1)∧((([]:List (List Int))=((pbC a c a2 c2).1).2)∧True))∧(((1:Int)=(pbC a c a2 c2).2)∧True))∧True) ((((roomR a2)∧(roomR c2))∧True)∧(BrP (!brcB a2 c2) ((((([]:List (List Int))=((pbC a c a2 c2).1).1)∧((([]:List (List Int))=((pbC a c a2 c2).1).2)∧True))∧(((1:Int)=(pbC a c a2 c2).2)∧True))∧True) ((InR ((↑(a.length):Int) * (↑(a2.length):Int)))∧(BrP (decide ((12:Int)<(↑(a.length):Int) * (↑(a2.length):Int))) ((((([]:List (List Int))=((pbC a c a2 c2).1).1)∧((([]:List (List Int))=((pbC a c a2 c2).1).2)∧True))∧(((3:Int)=(pbC a c a2 c2).2)∧True))∧True) ((((tbN (a.length) a)∧((tbN (a2.length) a2)∧(((1:Nat)≤a2.length)∧((a.length≤(144:Nat))∧(a2.length≤(144:Nat))))))∧True)∧((((tbN (c.length) c)∧((tbN (c2.length) c2)∧(((1:Nat)≤c2.length)∧((c.length≤(144:Nat))∧(c2.length≤(144:Nat))))))∧True)∧((((prT a a2=((pbC a c a2 c2).1).1)∧((prT c c2=((pbC a c a2 c2).1).2)∧True))∧(((0:Int)=(pbC a c a2 c2).2)∧True))∧True)))))))))
theorem sPB_vc (a:List (List Int)) (c:List (List Int)) (a2:List (List Int)) (c2:List (List Int)):runF Try.prog (gam sPB_G) noWr noAnn Try.f19 (bodyOf Try.f19) [] [.agg [.rows .i64 (a),.rows .i64 (c)],.agg [.rows .i64 (a2),.rows .i64 (c2)]] (sPB_p a c a2 c2)=sPB_V a c a2 c2:=by kernel_rfl
theorem sPB_ok (a:List (List Int)) (c:List (List Int)) (a2:List (List Int)) (c2:List (List Int)) (hpre:(sPB_p a c a2 c2).pre):sPB_V a c a2 c2:=by
 simp only [sPB_p,sPB_V,BrP_iff,u1,u2,u3,u4,u5,u6,u7,u8,u9,v1,v2,v3,v4,v5,v6,v7,v8,v9,w1,w2,w3,w4,markL_length,inB,InR,room,bdsOk] at hpre ⊢
 obtain ⟨h1,h2,h3,h4⟩:=hpre
 refine ⟨⟨h1,h2⟩,fun b=>?_,fun b=>⟨⟨h3,h4⟩,fun b2=>?_,fun b2=>?_⟩⟩
 ·have R:pbC a c a2 c2=(([],[]),1):=if_neg (by rw [b];simp)
  rw [R];exact ⟨⟨rfl,rfl⟩,rfl⟩
 ·have R:pbC a c a2 c2=(([],[]),1):=if_neg (by rw [b2];simp)
  rw [R];exact ⟨⟨rfl,rfl⟩,rfl⟩
 ·obtain ⟨A1,A2,A3⟩:=brT_tb (brT_of b)
  obtain ⟨B1,B2,B3⟩:=brT_tb (brT_of b2)
  have ta:=tabB_of (brT_of b).1
  have tb:=tabB_of (brT_of b2).1
  have lc:c.length=a.length:=A2.1
  have lc2:c2.length=a2.length:=B2.1
  have A2':tbN c.length c:=by rw [lc];exact A2
  have B2':tbN c2.length c2:=by rw [lc2];exact B2
  have hm:a.length * a2.length≤12 * 12:=Nat.mul_le_mul ta.2.1 tb.2.1
  have hc:(a.length:Int) * (a2.length:Int)=((a.length * a2.length:Nat):Int):=by rw [Int.natCast_mul]
  rw [hc]
  refine ⟨by omega,fun z=>?_,fun z=>?_⟩
  ·have R:pbC a c a2 c2=(([],[]),3):=(if_pos ⟨b,b2⟩).trans (if_neg (by omega))
   rw [R];exact ⟨⟨rfl,rfl⟩,rfl⟩
  ·have R:pbC a c a2 c2=((prT a a2,prT c c2),0):=(if_pos ⟨b,b2⟩).trans (if_pos (by omega))
   rw [R]
   exact ⟨⟨A1,B1,B3,by omega,by omega⟩,⟨A2',B2',by omega,by omega,by omega⟩,⟨rfl,rfl⟩,rfl⟩
theorem sPB_fits:Fits Try.prog 19 ⟨[],sPB_ct⟩:=by
 refine ffn (Γ:=gam sPB_G) (gok_cons l11Is_fits (gok_cons l04Product_fits gok_nil)) Try.func19 fun ds p h hp=>?_
 unfold sPB_ct at h
 split at h
 ·cases h
  exact ⟨noWr,noAnn,by rw [sPB_vc];exact sPB_ok _ _ _ _  hp⟩
 ·cases h
def iSoc_p (a:List (List Int)) (c:List (List Int)):Post:=⟨roomR a∧roomR c,.tup [.inl (.int .i64 (if brcB a c=true then soS a c else 0)),.inl (.int .i64 (if brcB a c=true then 0 else 1))],[]⟩
def iSoc_ct:List AD→Option Post
 | [.agg [.rows .i64 (a),.rows .i64 (c)]]=>some (iSoc_p a c)
 | _=>none
def iSoc_G:List (Nat×Ctr):=[(24,⟨[],IsBrace_ct⟩),(53,⟨[],socleOf_ct⟩)]
def iSoc_V (a:List (List Int)) (c:List (List Int)):Prop :=
 ((((roomR a)∧(roomR c))∧True)∧(BrP (!brcB a c) ((((0:Int)=if brcB a c=true then soS a c else (0:Int))∧(((1:Int)=if brcB a c=true then (0:Int) else (1:Int))∧True))∧True) ((((tabB a=true)∧((tabB c=true)∧(c.length=a.length)))∧True)∧(((soS a c=if brcB a c=true then soS a c else (0:Int))∧(((0:Int)=if brcB a c=true then (0:Int) else (1:Int))∧True))∧True))))
theorem iSoc_vc (a:List (List Int)) (c:List (List Int)):runF Try.prog (gam iSoc_G) noWr noAnn Try.f21 (bodyOf Try.f21) [] [.agg [.rows .i64 (a),.rows .i64 (c)]] (iSoc_p a c)=iSoc_V a c:=by kernel_rfl
theorem iSoc_ok (a:List (List Int)) (c:List (List Int)) (hpre:(iSoc_p a c).pre):iSoc_V a c:=by
 simp only [iSoc_p,iSoc_V,BrP_iff,u1,u2,u3,u4,u5,u6,u7,u8,u9,v1,v2,v3,v4,v5,v6,v7,v8,v9,w1,w2,w3,w4,markL_length,inB,InR,room,bdsOk] at hpre ⊢
 refine ⟨hpre,fun b=>by simp [b],fun b=>?_⟩
 obtain ⟨ta,tc,hl,_⟩:=brT_of b
 exact ⟨⟨ta,tc,hl⟩,by simp [b],by simp [b]⟩
theorem iSoc_fits:Fits Try.prog 21 ⟨[],iSoc_ct⟩:=by
 refine ffn (Γ:=gam iSoc_G) (gok_cons IsBrace_fits (gok_cons socleOf_fits gok_nil)) Try.func21 fun ds p h hp=>?_
 unfold iSoc_ct at h
 split at h
 ·cases h
  exact ⟨noWr,noAnn,by rw [iSoc_vc];exact iSoc_ok _ _  hp⟩
 ·cases h
def iTriv_p (a:List (List Int)) (c:List (List Int)):Post:=⟨roomR a∧roomR c,.tup [.inl (.bool (brcB a c&&decide (a=c))),.inl (.int .i64 (if brcB a c=true then 0 else 1))],[]⟩
def iTriv_ct:List AD→Option Post
 | [.agg [.rows .i64 (a),.rows .i64 (c)]]=>some (iTriv_p a c)
 | _=>none
def iTriv_G:List (Nat×Ctr):=[(24,⟨[],IsBrace_ct⟩),(54,⟨[],equalTables_ct⟩)]
def iTriv_V (a:List (List Int)) (c:List (List Int)):Prop :=
 ((((roomR a)∧(roomR c))∧True)∧(BrP (!brcB a c) (((false=(brcB a c&&decide (a=c)))∧(((1:Int)=if brcB a c=true then (0:Int) else (1:Int))∧True))∧True) ((((roomR a)∧(roomR c))∧True)∧(((decide (a=c)=(brcB a c&&decide (a=c)))∧(((0:Int)=if brcB a c=true then (0:Int) else (1:Int))∧True))∧True))))
theorem iTriv_vc (a:List (List Int)) (c:List (List Int)):runF Try.prog (gam iTriv_G) noWr noAnn Try.f22 (bodyOf Try.f22) [] [.agg [.rows .i64 (a),.rows .i64 (c)]] (iTriv_p a c)=iTriv_V a c:=by kernel_rfl
theorem iTriv_ok (a:List (List Int)) (c:List (List Int)) (hpre:(iTriv_p a c).pre):iTriv_V a c:=by
 simp only [iTriv_p,iTriv_V,BrP_iff,u1,u2,u3,u4,u5,u6,u7,u8,u9,v1,v2,v3,v4,v5,v6,v7,v8,v9,w1,w2,w3,w4,markL_length,inB,InR,room,bdsOk] at hpre ⊢
 exact ⟨hpre,fun b=>by simp [b],fun b=>⟨hpre,by simp [b],by simp [b]⟩⟩
theorem iTriv_fits:Fits Try.prog 22 ⟨[],iTriv_ct⟩:=by
 refine ffn (Γ:=gam iTriv_G) (gok_cons IsBrace_fits (gok_cons equalTables_fits gok_nil)) Try.func22 fun ds p h hp=>?_
 unfold iTriv_ct at h
 split at h
 ·cases h
  exact ⟨noWr,noAnn,by rw [iTriv_vc];exact iTriv_ok _ _  hp⟩
 ·cases h
def iClas_p (a:List (List Int)) (c:List (List Int)):Post:=⟨roomR a∧roomR c,.tup [.inl (.bool (brcB a c&&decide (a=trT a))),.inl (.int .i64 (if brcB a c=true then 0 else 1))],[]⟩
def iClas_ct:List AD→Option Post
 | [.agg [.rows .i64 (a),.rows .i64 (c)]]=>some (iClas_p a c)
 | _=>none
def iClas_G:List (Nat×Ctr):=[(24,⟨[],IsBrace_ct⟩),(55,⟨[],transposed_ct⟩),(54,⟨[],equalTables_ct⟩)]
def iClas_V (a:List (List Int)) (c:List (List Int)):Prop :=
 ((((roomR a)∧(roomR c))∧True)∧(BrP (!brcB a c) (((false=(brcB a c&&decide (a=trT a)))∧(((1:Int)=if brcB a c=true then (0:Int) else (1:Int))∧True))∧True) (((tabB a=true)∧True)∧((((roomR a)∧(roomR (trT a)))∧True)∧(((decide (a=trT a)=(brcB a c&&decide (a=trT a)))∧(((0:Int)=if brcB a c=true then (0:Int) else (1:Int))∧True))∧True)))))
theorem iClas_vc (a:List (List Int)) (c:List (List Int)):runF Try.prog (gam iClas_G) noWr noAnn Try.f23 (bodyOf Try.f23) [] [.agg [.rows .i64 (a),.rows .i64 (c)]] (iClas_p a c)=iClas_V a c:=by kernel_rfl
theorem iClas_ok (a:List (List Int)) (c:List (List Int)) (hpre:(iClas_p a c).pre):iClas_V a c:=by
 simp only [iClas_p,iClas_V,BrP_iff,u1,u2,u3,u4,u5,u6,u7,u8,u9,v1,v2,v3,v4,v5,v6,v7,v8,v9,w1,w2,w3,w4,markL_length,inB,InR,room,bdsOk] at hpre ⊢
 refine ⟨hpre,fun b=>by simp [b],fun b=>?_⟩
 obtain ⟨ta,tc,hl,_⟩:=brT_of b
 have T:=tabB_of ta
 have R:roomR (trT a):=by
  have:=(trT_tb (brT_tb (brT_of b)).1).1
  exact tbN_room this T.2.1
 exact ⟨ta,⟨hpre.1,R⟩,by simp [b],by simp [b]⟩
theorem iClas_fits:Fits Try.prog 23 ⟨[],iClas_ct⟩:=by
 refine ffn (Γ:=gam iClas_G) (gok_cons IsBrace_fits (gok_cons transposed_fits (gok_cons equalTables_fits gok_nil))) Try.func23 fun ds p h hp=>?_
 unfold iClas_ct at h
 split at h
 ·cases h
  exact ⟨noWr,noAnn,by rw [iClas_vc];exact iClas_ok _ _  hp⟩
 ·cases h
def same9_p (a:List (List Int)) (b:List (List Int)):Post:=⟨roomR a,.c (.bool (decide (a=b))),[]⟩
def same9_ct:List AD→Option Post
 | [.c (.rows .i64 (a)),.c (.rows .i64 (b))]=>some (same9_p a b)
 | _=>none
def same9_ann (a:List (List Int)) (b:List (List Int)):Nat→Option Ann
 | 0=>some (Ann.mk ((Nat)) (fun i=>⟨[(0,.c (.ro (.rows .i64 (a)))),(1,.c (.ro (.rows .i64 (b)))),(5,.c (.int .i64 ((i:Int))))],[]⟩) (fun i=>i≤a.length∧a.length=b.length∧a.take i=b.take i) (fun i=>a.length - i) (fun _=>noAnn))
 | _=>none
def same9_G:List (Nat×Ctr):=[(100,⟨[],likeInts_ct⟩)]
def same9_V (a:List (List Int)) (b:List (List Int)):Prop :=
 (BrP ((↑(a.length):Int) != (↑(b.length):Int)) ((false=decide (a=b))∧True) ((∃x0:Nat,(((x0≤a.length)∧((a.length=b.length)∧(List.take x0 a=List.take x0 b)))∧((a=a)∧((b=b)∧((0:Int)=(↑x0:Int))))))∧(∀x1:Nat,(((x1≤a.length)∧((a.length=b.length)∧(List.take x1 a=List.take x1 b)))→(BrP (decide ((↑x1:Int)<(↑(a.length):Int))) ((inB (↑x1:Int) (a.length))∧((inB (↑x1:Int) (b.length))∧(((room ((a.getD ((↑x1:Int).toNat) []).length))∧True)∧(BrP (!decide (a.getD ((↑x1:Int).toNat) []=b.getD ((↑x1:Int).toNat) [])) ((false=decide (a=b))∧True) ((InR ((↑x1:Int)+(1:Int)))∧(∃x2:Nat,(((x2≤a.length)∧((a.length=b.length)∧(List.take x2 a=List.take x2 b)))∧((a.length - x2<a.length - x1)∧((a=a)∧((b=b)∧((↑x1:Int)+(1:Int)=(↑x2:Int)))))))))))) ((true=decide (a=b))∧True))))))
theorem same9_vc (a:List (List Int)) (b:List (List Int)):runF Try.prog (gam same9_G) noWr (same9_ann a b) Try.f52 (bodyOf Try.f52) [] [.c (.rows .i64 (a)),.c (.rows .i64 (b))] (same9_p a b)=same9_V a b:=by kernel_rfl
theorem same9_ok (a:List (List Int)) (b:List (List Int)) (hpre:(same9_p a b).pre):same9_V a b:=by
 simp only [same9_p,same9_V,BrP_iff,u1,u2,u3,u4,u5,u6,u7,u8,u9,v1,v2,v3,v4,v5,v6,v7,v8,v9,w1,w2,w3,w4,markL_length,inB,InR,room,bdsOk] at hpre ⊢
 have hk:=hpre.1
 refine ⟨fun h=>(decide_eq_false fun e=>h (by rw [e])).symm,fun h=>⟨⟨0,⟨by omega,by omega,rfl⟩,rfl⟩,fun i ⟨hi,hl,he⟩=>⟨fun g=>⟨by omega,by omega,hpre.2 _ (getD_mem a [] i (by omega)),fun q=>(decide_eq_false fun e=>q (by rw [e])).symm,fun q=>⟨by omega,i+1,⟨by omega,hl,(take_eq_step a b [] i (by omega) (by omega) he).2 q⟩,by omega,by omega⟩⟩,fun g=>?_⟩⟩⟩
 rw [List.take_of_length_le (by omega),List.take_of_length_le (by omega)] at he
 exact (decide_eq_true he).symm
theorem same9_fits:Fits Try.prog 52 ⟨[],same9_ct⟩:=by
 refine ffn (Γ:=gam same9_G) (gok_cons likeInts_fits gok_nil) Try.func52 fun ds p h hp=>?_
 unfold same9_ct at h
 split at h
 ·cases h
  exact ⟨noWr,same9_ann _ _ ,by rw [same9_vc];exact same9_ok _ _  hp⟩
 ·cases h
def brace9_p (a:List (List Int)) (c:List (List Int)) (a2:List (List Int)) (c2:List (List Int)):Post:=⟨roomR a∧roomR c,.c (.bool (decide (a=a2∧c=c2))),[]⟩
def brace9_ct:List AD→Option Post
 | [.agg [.rows .i64 (a),.rows .i64 (c)],.agg [.rows .i64 (a2),.rows .i64 (c2)]]=>some (brace9_p a c a2 c2)
 | _=>none
def brace9_G:List (Nat×Ctr):=[(52,⟨[],same9_ct⟩)]
def brace9_V (a:List (List Int)) (c:List (List Int)) (a2:List (List Int)) (c2:List (List Int)):Prop :=
 (((roomR a)∧True)∧(BrP (decide (a=a2)) (((roomR c)∧True)∧((decide (c=c2)=decide (a=a2∧c=c2))∧True)) ((false=decide (a=a2∧c=c2))∧True)))
theorem brace9_vc (a:List (List Int)) (c:List (List Int)) (a2:List (List Int)) (c2:List (List Int)):runF Try.prog (gam brace9_G) noWr noAnn Try.f20 (bodyOf Try.f20) [] [.agg [.rows .i64 (a),.rows .i64 (c)],.agg [.rows .i64 (a2),.rows .i64 (c2)]] (brace9_p a c a2 c2)=brace9_V a c a2 c2:=by kernel_rfl
theorem brace9_ok (a:List (List Int)) (c:List (List Int)) (a2:List (List Int)) (c2:List (List Int)) (hpre:(brace9_p a c a2 c2).pre):brace9_V a c a2 c2:=by
 simp only [brace9_p,brace9_V,BrP_iff,u1,u2,u3,u4,u5,u6,u7,u8,u9,v1,v2,v3,v4,v5,v6,v7,v8,v9,w1,w2,w3,w4,markL_length,inB,InR,room,bdsOk] at hpre ⊢
 exact ⟨hpre.1,fun e=>⟨hpre.2,by simp [e]⟩,fun e=>by simp [e]⟩
theorem brace9_fits:Fits Try.prog 20 ⟨[],brace9_ct⟩:=by
 refine ffn (Γ:=gam brace9_G) (gok_cons same9_fits gok_nil) Try.func20 fun ds p h hp=>?_
 unfold brace9_ct at h
 split at h
 ·cases h
  exact ⟨noWr,noAnn,by rw [brace9_vc];exact brace9_ok _ _ _ _  hp⟩
 ·cases h
def bits9_p (s:Int):Post:=⟨0≤s∧s<4096,.c (.int .i64 (pcS s)),[]⟩
def bits9_ct:List AD→Option Post
 | [.c (.int .i64 (s))]=>some (bits9_p s)
 | _=>none
def bits9_ann (s:Int):Nat→Option Ann
 | 0=>some (Ann.mk ((Nat)×(Nat)×(Nat)) (fun x=>match x with | (k,v,u)=>⟨[(0,.c (.int .i64 ((v:Int)))),(3,.c (.int .i64 ((u:Int))))],[]⟩) (fun x=>match x with | (k,v,u)=>k≤63∧v<2 ^ k∧v<4096∧u+k≤63∧u+pcF k v=pcF 63 s.toNat) (fun x=>match x with | (k,v,u)=>v) (fun _=>noAnn))
 | _=>none
def bits9_G:List (Nat×Ctr):=[]
def bits9_V (s:Int):Prop :=
 ((∃x0:Nat×Nat×Nat,(((x0.1≤(63:Nat))∧((x0.2.1<(2:Nat) ^ x0.1)∧((x0.2.1<(4096:Nat))∧((x0.2.2+x0.1≤(63:Nat))∧(x0.2.2+pcF (x0.1) (x0.2.1)=pcF (63:Nat) (s.toNat))))))∧((s=(↑x0.2.1:Int))∧((0:Int)=(↑x0.2.2:Int)))))∧(∀x1:Nat×Nat×Nat,(((x1.1≤(63:Nat))∧((x1.2.1<(2:Nat) ^ x1.1)∧((x1.2.1<(4096:Nat))∧((x1.2.2+x1.1≤(63:Nat))∧(x1.2.2+pcF (x1.1) (x1.2.1)=pcF (63:Nat) (s.toNat))))))→(BrP (decide ((0:Int)<(↑x1.2.1:Int))) (((2:Int)≠(0:Int))∧((InR ((↑x1.2.2:Int)+Int.tmod (↑x1.2.1:Int) (2:Int)))∧((((2:Int)≠(0:Int))∧(InR (Int.tdiv (↑x1.2.1:Int) (2:Int))))∧(∃x2:Nat×Nat×Nat,(((x2.1≤(63:Nat))∧((x2.2.1<(2:Nat) ^ x2.1)∧((x2.2.1<(4096:Nat))∧((x2.2.2+x2.1≤(63:Nat))∧(x2.2.2+pcF (x2.1) (x2.2.1)=pcF (63:Nat) (s.toNat))))))∧((x2.2.1<x1.2.1)∧((Int.tdiv (↑x1.2.1:Int) (2:Int)=(↑x2.2.1:Int))∧((↑x1.2.2:Int)+Int.tmod (↑x1.2.1:Int) (2:Int)=(↑x2.2.2:Int))))))))) (((↑x1.2.2:Int)=pcS s)∧True)))))
theorem bits9_vc (s:Int):runF Try.prog (gam bits9_G) noWr (bits9_ann s) Try.f25 (bodyOf Try.f25) [] [.c (.int .i64 (s))] (bits9_p s)=bits9_V s:=by kernel_rfl
theorem bits9_ok (s:Int) (hpre:(bits9_p s).pre):bits9_V s:=by
 simp only [bits9_p,bits9_V,BrP_iff,u1,u2,u3,u4,u5,u6,u7,u8,u9,v1,v2,v3,v4,v5,v6,v7,v8,v9,w1,w2,w3,w4,markL_length,inB,InR,room,bdsOk] at hpre ⊢
 have z:∀k,pcF k 0=0:=fun k=>by
  induction k with
  | zero=>rfl
  | succ k ih=>rw [pcF,Nat.zero_div,ih]
 refine ⟨⟨⟨63,s.toNat,0⟩,⟨by dsimp only;omega,by dsimp only;omega,by dsimp only;omega,by dsimp only;omega,by dsimp only;omega⟩,by dsimp only;omega,rfl⟩,fun ⟨k,v,u⟩ ⟨h1,h2,h3,h4,h5⟩=>?_⟩
 dsimp only at h1 h2 h3 h4 h5 ⊢
 refine ⟨fun g=>?_,fun g=>?_⟩
 ·have d:(v:Int).tdiv 2=((v / 2:Nat):Int):=by rw [Int.tdiv_eq_ediv_of_nonneg (by omega)];rfl
  have m:(v:Int).tmod 2=((v % 2:Nat):Int):=by rw [Int.tmod_eq_emod_of_nonneg (by omega)];rfl
  rw [d,m]
  obtain ⟨k,rfl⟩:∃j,k=j+1:=⟨k - 1,by
   cases k with
   | zero=>simp at h2;omega
   | succ k=>simp⟩
  rw [Nat.pow_succ] at h2
  rw [pcF] at h5
  exact ⟨by omega,by omega,⟨by omega,by omega⟩,⟨k,v / 2,u+v % 2⟩,⟨by dsimp only;omega,by dsimp only;omega,by dsimp only;omega,by dsimp only;omega,by dsimp only;omega⟩,by dsimp only;omega,rfl,by dsimp only;omega⟩
 ·have e:v=0:=by omega
  subst e
  rw [z] at h5
  rw [pcS];omega
theorem bits9_fits:Fits Try.prog 25 ⟨[],bits9_ct⟩:=by
 refine ffn (Γ:=gam bits9_G) gok_nil Try.func25 fun ds p h hp=>?_
 unfold bits9_ct at h
 split at h
 ·cases h
  exact ⟨noWr,bits9_ann _ ,by rw [bits9_vc];exact bits9_ok _  hp⟩
 ·cases h
theorem so_range {a c:List (List Int)} (h:brT a c):0≤soS a c∧soS a c<4096:=setOk_of (soS_ok h.1 c)
theorem pcS_range (s:Int):0≤pcS s∧pcS s≤63:=by
 have h:∀k v,pcF k v≤k:=fun k=>by
  induction k with
  | zero=>intro v;exact Nat.le_refl _
  | succ k ih =>
   intro v
   have:=ih (v / 2)
   rw [pcF];omega
 have:=h 63 s.toNat
 unfold pcS;omega
def lPB_p (code:List Int):Post:=⟨bytesB code,.c (.bool (true)),[]⟩
def lPB_ct:List AD→Option Post
 | [.c (.ints .u8 (code))]=>some (lPB_p code)
 | _=>none
def lPB_G:List (Nat×Ctr):=[(16,⟨[],big_ct⟩),(17,⟨[],DrawProductBrace_ct⟩),(18,⟨[],iPB_ct⟩),(19,⟨[],sPB_ct⟩),(20,⟨[],brace9_ct⟩),(21,⟨[],iSoc_ct⟩),(22,⟨[],iTriv_ct⟩),(23,⟨[],iClas_ct⟩),(24,⟨[],IsBrace_ct⟩),(25,⟨[],bits9_ct⟩)]
def lPB_c1 (code:List Int):=((pbC ((pbY code).1) (((pbY code).2).1) ((pbZ code).1) (((pbZ code).2).1)).1)
def lPB_V1 (code:List Int):Prop :=
 BrP (brcB ((pbY code).1) (((pbY code).2).1)&&decide ((pbY code).1=trT ((pbY code).1))) ((((brcB ((lPB_c1 code).1) ((lPB_c1 code).2)&&decide (((pbC ((pbY code).1) (((pbY code).2).1) ((pbZ code).1) (((pbZ code).2).1)).1).1=trT (((pbC ((pbY code).1) (((pbY code).2).1) ((pbZ code).1) (((pbZ code).2).1)).1).1))) == (brcB ((pbZ code).1) (((pbZ code).2).1)&&decide ((pbZ code).1=trT ((pbZ code).1))))=true)∧True) ((((brcB ((lPB_c1 code).1) ((lPB_c1 code).2)&&decide (((pbC ((pbY code).1) (((pbY code).2).1) ((pbZ code).1) (((pbZ code).2).1)).1).1=trT (((pbC ((pbY code).1) (((pbY code).2).1) ((pbZ code).1) (((pbZ code).2).1)).1).1))) == false)=true)∧True)
def lPB_c2 (code:List Int):=((pbC ((pbY code).1) (((pbY code).2).1) ((pbZ code).1) (((pbZ code).2).1)).1)
def lPB_V (code:List Int):Prop :=
 ((True∧True)∧(BrP (decide ((4096:Int)<(↑(code.length):Int))) ((true=true)∧True) ((((bytesB code)∧(code.length≤(4096:Nat)))∧True)∧((((roomR ((pbY code).1))∧((roomR (((pbY code).2).1))∧((roomR ((pbZ code).1))∧(roomR (((pbZ code).2).1)))))∧True)∧((((roomR ((pbY code).1))∧((roomR (((pbY code).2).1))∧((roomR ((pbZ code).1))∧(roomR (((pbZ code).2).1)))))∧True)∧(BrP ((pbC ((pbY code).1) (((pbY code).2).1) ((pbZ code).1) (((pbZ code).2).1)).2 != (pbC ((pbY code).1) (((pbY code).2).1) ((pbZ code).1) (((pbZ code).2).1)).2) ((false=true)∧True) ((((roomR ((lPB_c2 code).1))∧(roomR ((lPB_c2 code).2)))∧True)∧(BrP (!decide (((pbC ((pbY code).1) (((pbY code).2).1) ((pbZ code).1) (((pbZ code).2).1)).1).1=((pbC ((pbY code).1) (((pbY code).2).1) ((pbZ code).1) (((pbZ code).2).1)).1).1∧((pbC ((pbY code).1) (((pbY code).2).1) ((pbZ code).1) (((pbZ code).2).1)).1).2=((pbC ((pbY code).1) (((pbY code).2).1) ((pbZ code).1) (((pbZ code).2).1)).1).2)) ((false=true)∧True) (BrP ((pbC ((pbY code).1) (((pbY code).2).1) ((pbZ code).1) (((pbZ code).2).1)).2 != (0:Int)) ((((↑(((lPB_c2 code).1).length):Int) == (0:Int))=true)∧True) ((((roomR ((pbY code).1))∧(roomR (((pbY code).2).1)))∧True)∧((((roomR ((pbZ code).1))∧(roomR (((pbZ code).2).1)))∧True)∧((((roomR ((lPB_c2 code).1))∧(roomR ((lPB_c2 code).2)))∧True)∧((((roomR ((pbY code).1))∧(roomR (((pbY code).2).1)))∧True)∧((((roomR ((pbZ code).1))∧(roomR (((pbZ code).2).1)))∧True)∧((((roomR ((lPB_c2 code).1))∧(roomR ((lPB_c2 code).2)))∧True) ∧
 ((((roomR ((pbY code).1))∧(roomR (((pbY code).2).1)))∧True)∧((((roomR ((pbZ code).1))∧(roomR (((pbZ code).2).1)))∧True)∧((((roomR ((lPB_c2 code).1))∧(roomR ((lPB_c2 code).2)))∧True)∧(BrP ((if brcB ((pbY code).1) (((pbY code).2).1)=true then (0:Int) else (1:Int)) != (0:Int)) ((false=true)∧True) (BrP ((if brcB ((pbZ code).1) (((pbZ code).2).1)=true then (0:Int) else (1:Int)) != (0:Int)) ((false=true)∧True) (BrP ((if brcB (((pbC ((pbY code).1) (((pbY code).2).1) ((pbZ code).1) (((pbZ code).2).1)).1).1) (((pbC ((pbY code).1) (((pbY code).2).1) ((pbZ code).1) (((pbZ code).2).1)).1).2)=true then (0:Int) else (1:Int)) != (0:Int)) ((false=true)∧True) (BrP ((if brcB ((pbY code).1) (((pbY code).2).1)=true then (0:Int) else (1:Int)) != (0:Int)) ((false=true)∧True) (BrP ((if brcB ((pbZ code).1) (((pbZ code).2).1)=true then (0:Int) else (1:Int)) != (0:Int)) ((false=true)∧True) (BrP ((if brcB (((pbC ((pbY code).1) (((pbY code).2).1) ((pbZ code).1) (((pbZ code).2).1)).1).1) (((pbC ((pbY code).1) (((pbY code).2).1) ((pbZ code).1) (((pbZ code).2).1)).1).2)=true then (0:Int) else (1:Int)) != (0:Int)) ((false=true)∧True) (BrP ((if brcB ((pbY code).1) (((pbY code).2).1)=true then (0:Int) else (1:Int)) != (0:Int)) ((false=true)∧True) (BrP ((if brcB ((pbZ code).1) (((pbZ code).2).1)=true then (0:Int) else (1:Int)) != (0:Int)) ((false=true)∧True)
 (BrP ((if brcB (((pbC ((pbY code).1) (((pbY code).2).1) ((pbZ code).1) (((pbZ code).2).1)).1).1) (((pbC ((pbY code).1) (((pbY code).2).1) ((pbZ code).1) (((pbZ code).2).1)).1).2)=true then (0:Int) else (1:Int)) != (0:Int)) ((false=true)∧True) ((((roomR ((lPB_c2 code).1))∧(roomR ((lPB_c2 code).2)))∧True)∧(BrP (brcB (((pbC ((pbY code).1) (((pbY code).2).1) ((pbZ code).1) (((pbZ code).2).1)).1).1) (((pbC ((pbY code).1) (((pbY code).2).1) ((pbZ code).1) (((pbZ code).2).1)).1).2)) (((((0:Int)≤if brcB (((pbC ((pbY code).1) (((pbY code).2).1) ((pbZ code).1) (((pbZ code).2).1)).1).1) (((pbC ((pbY code).1) (((pbY code).2).1) ((pbZ code).1) (((pbZ code).2).1)).1).2)=true then soS ((lPB_c2 code).1) ((lPB_c2 code).2) else (0:Int))∧((if brcB (((pbC ((pbY code).1) (((pbY code).2).1) ((pbZ code).1) (((pbZ code).2).1)).1).1) (((pbC ((pbY code).1) (((pbY code).2).1) ((pbZ code).1) (((pbZ code).2).1)).1).2)=true then soS ((lPB_c2 code).1) ((lPB_c2 code).2) else (0:Int))<(4096:Int)))∧True)∧(((((0:Int)≤if brcB ((pbY code).1) (((pbY code).2).1)=true then soS ((pbY code).1) (((pbY code).2).1) else (0:Int))∧((if brcB ((pbY code).1) (((pbY code).2).1)=true then soS ((pbY code).1) (((pbY code).2).1) else (0:Int))<(4096:Int)))∧True)∧(((((0:Int)≤if brcB ((pbZ code).1) (((pbZ code).2).1)=true then soS ((pbZ code).1) (((pbZ code).2).1) else (0:Int))∧((if brcB ((pbZ code).1) (((pbZ code).2).1)=true then soS ((pbZ code).1) (((pbZ code).2).1) else (0:Int))<(4096:Int)))∧True) ∧
 ((InR (pcS (if brcB ((pbY code).1) (((pbY code).2).1)=true then soS ((pbY code).1) (((pbY code).2).1) else (0:Int)) * pcS (if brcB ((pbZ code).1) (((pbZ code).2).1)=true then soS ((pbZ code).1) (((pbZ code).2).1) else (0:Int))))∧(BrP (pcS (if brcB (((pbC ((pbY code).1) (((pbY code).2).1) ((pbZ code).1) (((pbZ code).2).1)).1).1) (((pbC ((pbY code).1) (((pbY code).2).1) ((pbZ code).1) (((pbZ code).2).1)).1).2)=true then soS (((pbC ((pbY code).1) (((pbY code).2).1) ((pbZ code).1) (((pbZ code).2).1)).1).1) (((pbC ((pbY code).1) (((pbY code).2).1) ((pbZ code).1) (((pbZ code).2).1)).1).2) else (0:Int)) == pcS (if brcB ((pbY code).1) (((pbY code).2).1)=true then soS ((pbY code).1) (((pbY code).2).1) else (0:Int)) * pcS (if brcB ((pbZ code).1) (((pbZ code).2).1)=true then soS ((pbZ code).1) (((pbZ code).2).1) else (0:Int))) (BrP (brcB ((pbY code).1) (((pbY code).2).1)&&decide ((pbY code).1=((pbY code).2).1)) (BrP ((brcB (((pbC ((pbY code).1) (((pbY code).2).1) ((pbZ code).1) (((pbZ code).2).1)).1).1) (((pbC ((pbY code).1) (((pbY code).2).1) ((pbZ code).1) (((pbZ code).2).1)).1).2)&&decide (((pbC ((pbY code).1) (((pbY code).2).1) ((pbZ code).1) (((pbZ code).2).1)).1).1=((pbC ((pbY code).1) (((pbY code).2).1) ((pbZ code).1) (((pbZ code).2).1)).1).2)) == (brcB ((pbZ code).1) (((pbZ code).2).1)&&decide ((pbZ code).1=((pbZ code).2).1))) (lPB_V1 code) ((false=true)∧True))
 (BrP ((brcB (((pbC ((pbY code).1) (((pbY code).2).1) ((pbZ code).1) (((pbZ code).2).1)).1).1) (((pbC ((pbY code).1) (((pbY code).2).1) ((pbZ code).1) (((pbZ code).2).1)).1).2)&&decide (((pbC ((pbY code).1) (((pbY code).2).1) ((pbZ code).1) (((pbZ code).2).1)).1).1=((pbC ((pbY code).1) (((pbY code).2).1) ((pbZ code).1) (((pbZ code).2).1)).1).2)) == false) (lPB_V1 code) ((false=true)∧True))) ((false=true)∧True)))))) ((false=true)∧True))))))))))))))))))))))))))))))
theorem lPB_vc (code:List Int):runF Try.prog (gam lPB_G) noWr noAnn Try.f4 (bodyOf Try.f4) [] [.c (.ints .u8 (code))] (lPB_p code)=lPB_V code:=by kernel_rfl
theorem lPB_ok (code:List Int) (hpre:(lPB_p code).pre):lPB_V code:=by
 simp only [lPB_p,lPB_V,lPB_V1,lPB_c1,lPB_c2,BrP_iff,u1,u2,u3,u4,u5,u6,u7,u8,u9,v1,v2,v3,v4,v5,v6,v7,v8,v9,w1,w2,w3,w4,markL_length,inB,InR,room,bdsOk] at hpre ⊢
 refine ⟨fun _=>trivial,fun hc=>?_⟩
 obtain ⟨⟨r1,r2,_,_⟩,r3,r4,_,_⟩:=pb_room (code:=code) hpre
 have hc:code.length≤4096:=by omega
 generalize (pbY code).1=a at *
 generalize (pbY code).2.1=c at *
 generalize (pbZ code).1=a2 at *
 generalize (pbZ code).2.1=c2 at *
 have r0:roomR ([]:List (List Int)):=by simp [roomR]
 by_cases hb:brcB a c=true∧brcB a2 c2=true
 ·obtain ⟨b1,b2⟩:=hb
  by_cases b3:a.length * a2.length≤12
  ·have R:pbC a c a2 c2=((prT a a2,prT c c2),0):=(if_pos ⟨b1,b2⟩).trans (if_pos b3)
   have X:=brT_of b1
   have Y:=brT_of b2
   have Z:=brT_prod X Y b3
   have b4:=brcB_of_brT Z
   have s:=pr_soc X Y b3
   obtain ⟨P,Q,_,_⟩:=pr_facts X Y
   have rP:=tbN_room P b3
   have rQ:=tbN_room Q b3
   obtain ⟨s1,s2⟩:=so_range X
   obtain ⟨s3,s4⟩:=so_range Y
   obtain ⟨s5,s6⟩:=so_range Z
   obtain ⟨p1,p2⟩:=pcS_range (soS a c)
   obtain ⟨p3,p4⟩:=pcS_range (soS a2 c2)
   have p5:pcS (soS a c) * pcS (soS a2 c2)≤63 * 63:=Int.mul_le_mul p2 p4 p3 (by omega)
   have p6:0≤pcS (soS a c) * pcS (soS a2 c2):=Int.mul_nonneg p1 p3
   have p7:-9223372036854775808≤pcS (soS a c) * pcS (soS a2 c2):=by omega
   have p8:pcS (soS a c) * pcS (soS a2 c2)≤9223372036854775807:=by omega
   rw [R]
   simp only [b1,b2,b4,if_true,Bool.true_and,pr_eq X Y,pr_cl X Y,s]
   simp only [Bool.decide_and]
   have g:∀p:Prop,[Decidable p]→∃b:Bool,(p↔b=true):=fun p _=>⟨decide p,by simp⟩
   obtain ⟨d1,f1⟩:=g (a=c)
   obtain ⟨d2,f2⟩:=g (a2=c2)
   obtain ⟨d3,f3⟩:=g (a=trT a)
   obtain ⟨d4,f4⟩:=g (a2=trT a2)
   simp only [f1,f2,f3,f4,Bool.decide_eq_true]
   cases d1 <;> cases d2 <;> cases d3 <;> cases d4 <;> simp [hpre,hc,r1,r2,r3,r4,rP,rQ,s1,s2,s3,s4,s5,s6,p7,p8]
  ·have R:pbC a c a2 c2=(([],[]),3):=(if_pos ⟨b1,b2⟩).trans (if_neg b3)
   rw [R]
   simp [hpre,hc,r1,r2,r3,r4,r0]
 ·have R:pbC a c a2 c2=(([],[]),1):=if_neg hb
  rw [R]
  simp [hpre,hc,r1,r2,r3,r4,r0]
theorem lPB_fits:Fits Try.prog 4 ⟨[],lPB_ct⟩:=by
 refine ffn (Γ:=gam lPB_G) (gok_cons big_fits (gok_cons DrawProductBrace_fits (gok_cons iPB_fits (gok_cons sPB_fits (gok_cons brace9_fits (gok_cons iSoc_fits (gok_cons iTriv_fits (gok_cons iClas_fits (gok_cons IsBrace_fits (gok_cons bits9_fits gok_nil)))))))))) Try.func4 fun ds p h hp=>?_
 unfold lPB_ct at h
 split at h
 ·cases h
  exact ⟨noWr,noAnn,by rw [lPB_vc];exact lPB_ok _  hp⟩
 ·cases h
end Go.Sx
