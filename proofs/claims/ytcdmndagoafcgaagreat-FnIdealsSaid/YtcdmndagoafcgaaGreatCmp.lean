/- Cmp -/
import Derived.Test.YtcdmndagoafcgaaGreatTable
open Go Go.Proofs
namespace Go.Sx
set_option linter.unusedSimpArgs false
set_option linter.unusedVariables false
def cP (x y:Int):Int:=if x<y then -1 else if y<x then 1 else 0
theorem Ox {x y:Int}:cP x y=0↔x=y:=by
 unfold cP;split
 ·omega
 ·split <;> omega
def bT {α:Type} (c:α→α→Int):List α→List α→Int
 | [],[]=>0
 | [],_::_=>-1
 | _::_,[]=>1
 | x::a,y::b=>if c x y=0 then bT c a b else c x y
theorem yU {α:Type} {c:α→α→Int} (hc:∀x y,c x y=0↔x=y):∀{a b:List α},bT c a b=0↔a=b
 | [],[]=>by simp [bT]
 | [],_::_=>by simp [bT]
 | _::_,[]=>by simp [bT]
 | x::a,y::b=>by
  simp only [bT,List.cons.injEq];by_cases h:c x y=0
  ·rw [if_pos h,yU hc]
   simp [(hc x y).1 h]
  ·rw [if_neg h]
   exact ⟨fun e=>absurd e h,fun e=>absurd ((hc x y).2 e.1) h⟩
theorem rP {α:Type} (c:α→α→Int) (d:α) (a b:List α) (i:Nat) (ha:i<a.length) (hb:i<b.length) :
  bT c (a.drop i) (b.drop i)=if c (a.getD i d) (b.getD i d)=0 then bT c (a.drop (i+1)) (b.drop (i+1)) else c (a.getD i d) (b.getD i d):=by
 rw [drop_cons' a d i ha,drop_cons' b d i hb];rfl
theorem GV {α:Type} (c:α→α→Int) (d:α) (a b:List α) (i:Nat) (ha:i<a.length) (hb:b.length≤i):bT c (a.drop i) (b.drop i)=1:=by
 rw [drop_cons' a d i ha,List.drop_of_length_le hb];rfl
theorem rQ {α:Type} (c:α→α→Int) (d:α) (a b:List α) (i:Nat) (ha:a.length≤i):bT c (a.drop i) (b.drop i)=if i<b.length then -1 else 0:=by
 rw [List.drop_of_length_le ha];split
 ·rename_i h;rw [drop_cons' b d i h];rfl
 ·rw [List.drop_of_length_le (by omega)];rfl
def rR (x:Int):Post:=⟨True,.c (.bool (false)),[]⟩
def yV:List AD→Option Post
 | [.c (.int .i64 (x))]=>some (rR x)
 | _=>none
def GW:List (Nat×Ctr):=[]
def yW (x:Int):Prop :=
 (((x != x)=false)∧True)
theorem Oy (x:Int):aC Tryz.prog (af GW) ah am Tryz.f238 (aE Tryz.f238) [] [.c (.int .i64 (x))] (rR x)=yW x:=by kernel_rfl
theorem Oz (x:Int) (Yh:(rR x).pre):yW x:=by
 simp only [rR,yW,aG,u1,u2,u3,u4,u5,u6,u7,u8,u9,v1,v2,v3,v4,v5,v6,v7,v8,v9,w1,w2,w3,w4,aH,aa,ab,ae,ar] at Yh ⊢
theorem OA:Fits Tryz.prog 238 ⟨[],yV⟩:=by
 refine aJ (Γ:=af GW) aF Tryz.func238 fun ds p h hp=>?_
 unfold yV at h;split at h
 ·cases h
  exact ⟨ah,am,by rw [Oy];exact Oz _  hp⟩
 ·cases h
def rS (x:Int) (y:Int):Post:=⟨True,.c (.int .i64 (cP x y)),[]⟩
def yX:List AD→Option Post
 | [.c (.int .i64 (x)),.c (.int .i64 (y))]=>some (rS x y)
 | _=>none
def GX:List (Nat×Ctr):=[(238,⟨[],yV⟩)]
def yY (x:Int) (y:Int):Prop :=
 ((True∧True)∧((True∧True)∧(ac (decide (x<y)) (((-1:Int)=cP x y)∧True) (ac (decide (y<x)) (((1:Int)=cP x y)∧True) (((0:Int)=cP x y)∧True)))))
theorem OB (x:Int) (y:Int):aC Tryz.prog (af GX) ah am Tryz.f179 (aE Tryz.f179) [] [.c (.int .i64 (x)),.c (.int .i64 (y))] (rS x y)=yY x y:=by kernel_rfl
theorem OC (x:Int) (y:Int) (Yh:(rS x y).pre):yY x y:=by
 simp only [rS,yY,aG,u1,u2,u3,u4,u5,u6,u7,u8,u9,v1,v2,v3,v4,v5,v6,v7,v8,v9,w1,w2,w3,w4,aH,aa,ab,ae,ar] at Yh ⊢;unfold cP;refine ⟨fun h=>?_,fun h=>⟨fun h2=>?_,fun h2=>?_⟩⟩
 ·rw [if_pos h]
 ·rw [if_neg h,if_pos h2]
 ·rw [if_neg h,if_neg h2]
theorem OD:Fits Tryz.prog 179 ⟨[],yX⟩:=by
 refine aJ (Γ:=af GX) (aj OA aF) Tryz.func179 fun ds p h hp=>?_
 unfold yX at h;split at h
 ·cases h
  exact ⟨ah,am,by rw [OB];exact OC _ _  hp⟩
 ·cases h
def rT (a:List Int) (b:List Int):Post:=⟨ae a.length∧ae b.length,.c (.int .i64 (bT cP a b)),[]⟩
def yZ:List AD→Option Post
 | [.c (.ints .i64 (a)),.c (.ints .i64 (b))]=>some (rT a b)
 | _=>none
def GY (a:List Int) (b:List Int):Nat→Option Ann
 | 0=>some (Ann.mk ((Nat)) (fun i=>⟨[(0,.c (.ro (.ints .i64 (a)))),(1,.c (.ro (.ints .i64 (b)))),(9,.c (.ro (.ints .i64 (a)))),(10,.c (.int .i64 ((a.length:Int)))),(11,.c (.int .i64 ((i:Int))))],[]⟩) (fun i=>i≤a.length∧i≤b.length∧bT cP a b=bT cP (a.drop i) (b.drop i)) (fun i=>a.length - i) (fun _=>am))
 | _=>none
def GZ:List (Nat×Ctr):=[(179,⟨[],yX⟩)]
def y0 (a:List Int) (b:List Int):Prop :=
 ((∃x0:Nat,(((x0≤a.length)∧((x0≤b.length)∧(bT cP a b=bT cP (List.drop x0 a) (List.drop x0 b))))∧((a=a)∧((b=b)∧((a=a)∧(((↑(a.length):Int)=(↑(a.length):Int))∧((0:Int)=(↑x0:Int))))))))∧(∀x1:Nat,(((x1≤a.length)∧((x1≤b.length)∧(bT cP a b=bT cP (List.drop x1 a) (List.drop x1 b))))→(ac (decide ((↑x1:Int)<(↑(a.length):Int))) ((aa (↑x1:Int) (a.length))∧(ac (decide ((↑(b.length):Int)≤(↑x1:Int))) (((1:Int)=bT cP a b)∧True) ((aa (↑x1:Int) (b.length))∧((True∧True)∧(ac (cP (a.getD ((↑x1:Int).toNat) (0:Int)) (b.getD ((↑x1:Int).toNat) (0:Int)) != (0:Int)) ((cP (a.getD ((↑x1:Int).toNat) (0:Int)) (b.getD ((↑x1:Int).toNat) (0:Int))=bT cP a b)∧True) ((ab ((↑x1:Int)+(1:Int)))∧(∃x2:Nat,(((x2≤a.length)∧((x2≤b.length)∧(bT cP a b=bT cP (List.drop x2 a) (List.drop x2 b))))∧((a.length - x2<a.length - x1)∧((a=a)∧((b=b)∧((a=a)∧(((↑(a.length):Int)=(↑(a.length):Int))∧((↑x1:Int)+(1:Int)=(↑x2:Int))))))))))))))) (ac (decide ((↑(a.length):Int)<(↑(b.length):Int))) (((-1:Int)=bT cP a b)∧True) (((0:Int)=bT cP a b)∧True))))))
theorem OE (a:List Int) (b:List Int):aC Tryz.prog (af GZ) ah (GY a b) Tryz.f123 (aE Tryz.f123) [] [.c (.ints .i64 (a)),.c (.ints .i64 (b))] (rT a b)=y0 a b:=by kernel_rfl
theorem OF (a:List Int) (b:List Int) (Yh:(rT a b).pre):y0 a b:=by
 simp only [rT,y0,aG,u1,u2,u3,u4,u5,u6,u7,u8,u9,v1,v2,v3,v4,v5,v6,v7,v8,v9,w1,w2,w3,w4,aH,aa,ab,ae,ar] at Yh ⊢;refine ⟨⟨0,⟨by omega,by omega,rfl⟩,rfl⟩,fun i ⟨hi,hj,he⟩=>⟨fun h=>⟨by omega,fun h2=>?_,fun h2=>⟨by omega,fun h3=>?_,fun h3=>⟨by omega,i+1,⟨by omega,by omega,?_⟩,by omega,by omega⟩⟩⟩,fun h=>⟨fun h2=>?_,fun h2=>?_⟩⟩⟩
 ·rw [he,GV cP 0 a b i (by omega) (by omega)]
 ·rw [he,rP cP 0 a b i (by omega) (by omega),if_neg h3]
 ·rw [he,rP cP 0 a b i (by omega) (by omega),if_pos h3]
 ·rw [he,rQ cP 0 a b i (by omega),if_pos (by omega)]
 ·rw [he,rQ cP 0 a b i (by omega),if_neg (by omega)]
theorem OG:Fits Tryz.prog 123 ⟨[],yZ⟩:=by
 refine aJ (Γ:=af GZ) (aj OD aF) Tryz.func123 fun ds p h hp=>?_
 unfold yZ at h;split at h
 ·cases h
  exact ⟨ah,GY _ _ ,by rw [OE];exact OF _ _  hp⟩
 ·cases h
def rU (a:List Int) (b:List Int):Post:=⟨ae a.length∧ae b.length,.c (.int .i64 (bT cP a b)),[]⟩
def oT:List AD→Option Post
 | [.c (.ints .i64 (a)),.c (.ints .i64 (b))]=>some (rU a b)
 | _=>none
def G0:List (Nat×Ctr):=[(123,⟨[],yZ⟩)]
def y5 (a:List Int) (b:List Int):Prop :=
 ((((ae (a.length))∧(ae (b.length)))∧True)∧((bT cP a b=bT cP a b)∧True))
theorem OH (a:List Int) (b:List Int):aC Tryz.prog (af G0) ah am Tryz.f205 (aE Tryz.f205) [] [.c (.ints .i64 (a)),.c (.ints .i64 (b))] (rU a b)=y5 a b:=by kernel_rfl
theorem OI (a:List Int) (b:List Int) (Yh:(rU a b).pre):y5 a b:=by
 simp only [rU,y5,aG,u1,u2,u3,u4,u5,u6,u7,u8,u9,v1,v2,v3,v4,v5,v6,v7,v8,v9,w1,w2,w3,w4,aH,aa,ab,ae,ar] at Yh ⊢;exact Yh
theorem OJ:Fits Tryz.prog 205 ⟨[],oT⟩:=by
 refine aJ (Γ:=af G0) (aj OG aF) Tryz.func205 fun ds p h hp=>?_
 unfold oT at h;split at h
 ·cases h
  exact ⟨ah,am,by rw [OH];exact OI _ _  hp⟩
 ·cases h
def rV (a:List (List Int)) (b:List (List Int)) (q:List Int→List Int→Prop) (p:List Int→List Int→Int):Post:=⟨a.length≤1099511627776∧b.length≤1099511627776∧(∀x∈a,∀y∈b,q x y),.c (.int .i64 (bT p a b)),[]⟩
def y6:List AD→Option Post
 | [.c (.rows .i64 (a)),.c (.rows .i64 (b)),.fv (.lli q p)]=>some (rV a b q p)
 | _=>none
def G1 (a:List (List Int)) (b:List (List Int)) (q:List Int→List Int→Prop) (p:List Int→List Int→Int):Nat→Option Ann
 | 0=>some (Ann.mk ((Nat)) (fun i=>⟨[(0,.c (.ro (.rows .i64 (a)))),(1,.c (.ro (.rows .i64 (b)))),(2,.fv (.lli q p)),(11,.c (.ro (.rows .i64 (a)))),(12,.c (.int .i64 ((a.length:Int)))),(13,.c (.int .i64 ((i:Int))))],[]⟩) (fun i=>i≤a.length∧i≤b.length∧bT p a b=bT p (a.drop i) (b.drop i)) (fun i=>a.length - i) (fun _=>am))
 | _=>none
def G2:List (Nat×Ctr):=[]
def y7 (a:List (List Int)) (b:List (List Int)) (q:List Int→List Int→Prop) (p:List Int→List Int→Int):Prop :=
 ((∃x0:Nat,(((x0≤a.length)∧((x0≤b.length)∧(bT p a b=bT p (List.drop x0 a) (List.drop x0 b))))∧((a=a)∧((b=b)∧((FV.lli q p=FV.lli q p)∧((a=a)∧(((↑(a.length):Int)=(↑(a.length):Int))∧((0:Int)=(↑x0:Int)))))))))∧(∀x1:Nat,(((x1≤a.length)∧((x1≤b.length)∧(bT p a b=bT p (List.drop x1 a) (List.drop x1 b))))→(ac (decide ((↑x1:Int)<(↑(a.length):Int))) ((aa (↑x1:Int) (a.length))∧(ac (decide ((↑(b.length):Int)≤(↑x1:Int))) (((1:Int)=bT p a b)∧True) ((aa (↑x1:Int) (b.length))∧((q (a.getD ((↑x1:Int).toNat) []) (b.getD ((↑x1:Int).toNat) []))∧(ac (p (a.getD ((↑x1:Int).toNat) []) (b.getD ((↑x1:Int).toNat) []) != (0:Int)) ((p (a.getD ((↑x1:Int).toNat) []) (b.getD ((↑x1:Int).toNat) [])=bT p a b)∧True) ((ab ((↑x1:Int)+(1:Int)))∧(∃x2:Nat,(((x2≤a.length)∧((x2≤b.length)∧(bT p a b=bT p (List.drop x2 a) (List.drop x2 b))))∧((a.length - x2<a.length - x1)∧((a=a)∧((b=b)∧((FV.lli q p=FV.lli q p)∧((a=a)∧(((↑(a.length):Int)=(↑(a.length):Int))∧((↑x1:Int)+(1:Int)=(↑x2:Int)))))))))))))))) (ac (decide ((↑(a.length):Int)<(↑(b.length):Int))) (((-1:Int)=bT p a b)∧True) (((0:Int)=bT p a b)∧True))))))
theorem OK (a:List (List Int)) (b:List (List Int)) (q:List Int→List Int→Prop) (p:List Int→List Int→Int):aC Tryz.prog (af G2) ah (G1 a b q p) Tryz.f204 (aE Tryz.f204) [] [.c (.rows .i64 (a)),.c (.rows .i64 (b)),.fv (.lli q p)] (rV a b q p)=y7 a b q p:=by kernel_rfl
theorem OL (a:List (List Int)) (b:List (List Int)) (q:List Int→List Int→Prop) (p:List Int→List Int→Int) (Yh:(rV a b q p).pre):y7 a b q p:=by
 simp only [rV,y7,aG,u1,u2,u3,u4,u5,u6,u7,u8,u9,v1,v2,v3,v4,v5,v6,v7,v8,v9,w1,w2,w3,w4,aH,aa,ab,ae,ar] at Yh ⊢;obtain ⟨l1,l2,hq⟩:=Yh;refine ⟨⟨0,⟨by omega,by omega,rfl⟩,rfl⟩,fun i ⟨hi,hj,he⟩=>⟨fun h=>⟨by omega,fun h2=>?_,fun h2=>⟨by omega,hq _ (cE a [] i (by omega)) _ (cE b [] i (by omega)),fun h3=>?_,fun h3=>⟨by omega,i+1,⟨by omega,by omega,?_⟩,by omega,by omega⟩⟩⟩,fun h=>⟨fun h2=>?_,fun h2=>?_⟩⟩⟩
 ·rw [he,GV p [] a b i (by omega) (by omega)]
 ·rw [he,rP p [] a b i (by omega) (by omega),if_neg h3]
 ·rw [he,rP p [] a b i (by omega) (by omega),if_pos h3]
 ·rw [he,rQ p [] a b i (by omega),if_pos (by omega)]
 ·rw [he,rQ p [] a b i (by omega),if_neg (by omega)]
theorem OM:Fits Tryz.prog 204 ⟨[],y6⟩:=by
 refine aJ (Γ:=af G2) aF Tryz.func204 fun ds p h hp=>?_
 unfold y6 at h;split at h
 ·cases h
  exact ⟨ah,G1 _ _ _ _ ,by rw [OK];exact OL _ _ _ _  hp⟩
 ·cases h
def rW (a:List (List Int)) (b:List (List Int)):Post:=⟨au a∧au b,.c (.int .i64 (bT (bT cP) a b)),[]⟩
def y8:List AD→Option Post
 | [.c (.rows .i64 (a)),.c (.rows .i64 (b))]=>some (rW a b)
 | _=>none
def G3:List (Nat×Ctr):=[(204,⟨[],y6⟩),(205,⟨[],oT⟩)]
def y9 (a:List (List Int)) (b:List (List Int)):Prop :=
 ((((a.length≤(1099511627776:Nat))∧((b.length≤(1099511627776:Nat))∧(∀(x:List Int),x∈a→∀(y:List Int),y∈b→jF (oT [AD.c (FC.ints IntKind.i64 x),AD.c (FC.ints IntKind.i64 y)]))))∧True)∧((bT (fun (x y:List Int)=>ku (oT [AD.c (FC.ints IntKind.i64 x),AD.c (FC.ints IntKind.i64 y)])) a b=bT (bT cP) a b)∧True))
theorem ON (a:List (List Int)) (b:List (List Int)):aC Tryz.prog (af G3) ah am Tryz.f165 (aE Tryz.f165) [] [.c (.rows .i64 (a)),.c (.rows .i64 (b))] (rW a b)=y9 a b:=by kernel_rfl
theorem OO (a:List (List Int)) (b:List (List Int)) (Yh:(rW a b).pre):y9 a b:=by
 simp only [rW,y9,aG,u1,u2,u3,u4,u5,u6,u7,u8,u9,v1,v2,v3,v4,v5,v6,v7,v8,v9,w1,w2,w3,w4,aH,aa,ab,ae,ar] at Yh ⊢;exact ⟨⟨Yh.1.1,Yh.2.1,fun x hx y hy=>⟨Yh.1.2 x hx,Yh.2.2 y hy⟩⟩,rfl⟩
theorem OP:Fits Tryz.prog 165 ⟨[],y8⟩:=by
 refine aJ (Γ:=af G3) (aj OM (aj OJ aF)) Tryz.func165 fun ds p h hp=>?_
 unfold y8 at h;split at h
 ·cases h
  exact ⟨ah,am,by rw [ON];exact OO _ _  hp⟩
 ·cases h
def rX (a:List (List Int)) (b:List (List Int)):Post:=⟨au a∧au b,.c (.bool (decide (a=b))),[]⟩
def za:List AD→Option Post
 | [.c (.rows .i64 (a)),.c (.rows .i64 (b))]=>some (rX a b)
 | _=>none
def G4:List (Nat×Ctr):=[(165,⟨[],y8⟩)]
def zb (a:List (List Int)) (b:List (List Int)):Prop :=
 ((((au a)∧(au b))∧True)∧(((bT (bT cP) a b == (0:Int))=decide (a=b))∧True))
theorem OQ (a:List (List Int)) (b:List (List Int)):aC Tryz.prog (af G4) ah am Tryz.f103 (aE Tryz.f103) [] [.c (.rows .i64 (a)),.c (.rows .i64 (b))] (rX a b)=zb a b:=by kernel_rfl
theorem OR (a:List (List Int)) (b:List (List Int)) (Yh:(rX a b).pre):zb a b:=by
 simp only [rX,zb,aG,u1,u2,u3,u4,u5,u6,u7,u8,u9,v1,v2,v3,v4,v5,v6,v7,v8,v9,w1,w2,w3,w4,aH,aa,ab,ae,ar] at Yh ⊢;refine ⟨Yh,?_⟩
 have h:=yU (c:=bT cP) (fun x y=>yU (c:=cP) (fun x y=>Ox) (a:=x) (b:=y)) (a:=a) (b:=b)
 rw [Bool.eq_iff_iff,beq_iff_eq,decide_eq_true_eq];exact h
theorem OS:Fits Tryz.prog 103 ⟨[],za⟩:=by
 refine aJ (Γ:=af G4) (aj OP aF) Tryz.func103 fun ds p h hp=>?_
 unfold za at h;split at h
 ·cases h
  exact ⟨ah,am,by rw [OQ];exact OR _ _  hp⟩
 ·cases h
def rY (a:List Int) (b:List Int):Post:=⟨ae a.length,.c (.bool (decide (a=b))),[]⟩
def oU:List AD→Option Post
 | [.c (.ints .i64 (a)),.c (.ints .i64 (b))]=>some (rY a b)
 | _=>none
def G5 (a:List Int) (b:List Int):Nat→Option Ann
 | 0=>some (Ann.mk ((Nat)) (fun i=>⟨[(0,.c (.ro (.ints .i64 (a)))),(1,.c (.ro (.ints .i64 (b)))),(5,.c (.int .i64 ((i:Int))))],[]⟩) (fun i=>i≤a.length∧a.length=b.length∧a.take i=b.take i) (fun i=>a.length - i) (fun _=>am))
 | _=>none
def G6:List (Nat×Ctr):=[]
def zc (a:List Int) (b:List Int):Prop :=
 (ac ((↑(a.length):Int) != (↑(b.length):Int)) ((false=decide (a=b))∧True) ((∃x0:Nat,(((x0≤a.length)∧((a.length=b.length)∧(List.take x0 a=List.take x0 b)))∧((a=a)∧((b=b)∧((0:Int)=(↑x0:Int))))))∧(∀x1:Nat,(((x1≤a.length)∧((a.length=b.length)∧(List.take x1 a=List.take x1 b)))→(ac (decide ((↑x1:Int)<(↑(a.length):Int))) ((aa (↑x1:Int) (a.length))∧((aa (↑x1:Int) (b.length))∧(ac (a.getD ((↑x1:Int).toNat) (0:Int) != b.getD ((↑x1:Int).toNat) (0:Int)) ((false=decide (a=b))∧True) ((ab ((↑x1:Int)+(1:Int)))∧(∃x2:Nat,(((x2≤a.length)∧((a.length=b.length)∧(List.take x2 a=List.take x2 b)))∧((a.length - x2<a.length - x1)∧((a=a)∧((b=b)∧((↑x1:Int)+(1:Int)=(↑x2:Int))))))))))) ((true=decide (a=b))∧True))))))
theorem OT (a:List Int) (b:List Int):aC Tryz.prog (af G6) ah (G5 a b) Tryz.f239 (aE Tryz.f239) [] [.c (.ints .i64 (a)),.c (.ints .i64 (b))] (rY a b)=zc a b:=by kernel_rfl
theorem OU (a:List Int) (b:List Int) (Yh:(rY a b).pre):zc a b:=by
 simp only [rY,zc,aG,u1,u2,u3,u4,u5,u6,u7,u8,u9,v1,v2,v3,v4,v5,v6,v7,v8,v9,w1,w2,w3,w4,aH,aa,ab,ae,ar] at Yh ⊢;refine ⟨fun h=>?_,fun h=>⟨⟨0,⟨by omega,by omega,rfl⟩,by simp⟩,fun i hi=>⟨fun h1=>⟨by omega,by omega,fun h2=>?_,fun h2=>⟨by omega,i+1,⟨by omega,hi.2.1,?_⟩,by omega,by omega⟩⟩,fun h1=>?_⟩⟩⟩
 ·exact (decide_eq_false fun e=>h (by rw [e])).symm
 ·exact (decide_eq_false fun e=>h2 (by rw [e])).symm
 ·exact (Fq a b 0 i (by omega) (by omega) hi.2.2).2 h2
 ·refine (decide_eq_true ?_).symm
  have:=hi.2.2
  rwa [List.take_of_length_le (by omega),List.take_of_length_le (by omega)] at this
theorem zd:Fits Tryz.prog 239 ⟨[],oU⟩:=by
 refine aJ (Γ:=af G6) aF Tryz.func239 fun ds p h hp=>?_
 unfold oU at h;split at h
 ·cases h
  exact ⟨ah,G5 _ _ ,by rw [OT];exact OU _ _  hp⟩
 ·cases h
end Go.Sx
