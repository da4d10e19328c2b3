/- Cmp -/
import Derived.Test.YtkmldclpaniclaaTable
open Go Go.Proofs
namespace Go.Sx
set_option linter.unusedSimpArgs false
set_option linter.unusedVariables false
def bG (x y:Int):Int:=if x<y then -1 else if y<x then 1 else 0
theorem HY {x y:Int}:bG x y=0↔x=y:=by
 unfold bG;split
 ·omega
 ·split <;> omega
def bf {α:Type} (c:α→α→Int):List α→List α→Int
 | [],[]=>0
 | [],_::_=>-1
 | _::_,[]=>1
 | x::a,y::b=>if c x y=0 then bf c a b else c x y
theorem A3 {α:Type} {c:α→α→Int} (hc:∀x y,c x y=0↔x=y):∀{a b:List α},bf c a b=0↔a=b
 | [],[]=>by simp [bf]
 | [],_::_=>by simp [bf]
 | _::_,[]=>by simp [bf]
 | x::a,y::b=>by
  simp only [bf,List.cons.injEq];by_cases h:c x y=0
  ·rw [if_pos h,A3 hc]
   simp [(hc x y).1 h]
  ·rw [if_neg h]
   exact ⟨fun e=>absurd e h,fun e=>absurd ((hc x y).2 e.1) h⟩
theorem oW {α:Type} (c:α→α→Int) (d:α) (a b:List α) (i:Nat) (ha:i<a.length) (hb:i<b.length) :
  bf c (a.drop i) (b.drop i)=if c (a.getD i d) (b.getD i d)=0 then bf c (a.drop (i+1)) (b.drop (i+1)) else c (a.getD i d) (b.getD i d):=by
 rw [drop_cons' a d i ha,drop_cons' b d i hb];rfl
theorem A4 {α:Type} (c:α→α→Int) (d:α) (a b:List α) (i:Nat) (ha:i<a.length) (hb:b.length≤i):bf c (a.drop i) (b.drop i)=1:=by
 rw [drop_cons' a d i ha,List.drop_of_length_le hb];rfl
theorem oX {α:Type} (c:α→α→Int) (d:α) (a b:List α) (i:Nat) (ha:a.length≤i):bf c (a.drop i) (b.drop i)=if i<b.length then -1 else 0:=by
 rw [List.drop_of_length_le ha];split
 ·rename_i h;rw [drop_cons' b d i h];rfl
 ·rw [List.drop_of_length_le (by omega)];rfl
def oY (x:Int):Post:=⟨True,.c (.bool (false)),[]⟩
def tX:List AD→Option Post
 | [.c (.int .i64 (x))]=>some (oY x)
 | _=>none
def A5:List (Nat×Ctr):=[]
def tY (x:Int):Prop :=
 (((x != x)=false)∧True)
theorem HZ (x:Int):aS Try.prog (ai A5) aj ax Try.f73 (aM Try.f73) [] [.c (.int .i64 (x))] (oY x)=tY x:=by kernel_rfl
theorem H0 (x:Int) (Yh:(oY x).pre):tY x:=by
 simp only [oY,tY,aR,u1,u2,u3,u4,u5,u6,u7,u8,u9,v1,v2,v3,v4,v5,v6,v7,v8,v9,w1,w2,w3,w4,aI,aa,af,ag,aw] at Yh ⊢
theorem H1:Fits Try.prog 73 ⟨[],tX⟩:=by
 refine aY (Γ:=ai A5) aQ Try.func73 fun ds p h hp=>?_
 unfold tX at h;split at h
 ·cases h
  exact ⟨aj,ax,by rw [HZ];exact H0 _  hp⟩
 ·cases h
def oZ (x:Int) (y:Int):Post:=⟨True,.c (.int .i64 (bG x y)),[]⟩
def tZ:List AD→Option Post
 | [.c (.int .i64 (x)),.c (.int .i64 (y))]=>some (oZ x y)
 | _=>none
def A6:List (Nat×Ctr):=[(73,⟨[],tX⟩)]
def t8 (x:Int) (y:Int):Prop :=
 ((True∧True)∧((True∧True)∧(ae (decide (x<y)) (((-1:Int)=bG x y)∧True) (ae (decide (y<x)) (((1:Int)=bG x y)∧True) (((0:Int)=bG x y)∧True)))))
theorem H2 (x:Int) (y:Int):aS Try.prog (ai A6) aj ax Try.f49 (aM Try.f49) [] [.c (.int .i64 (x)),.c (.int .i64 (y))] (oZ x y)=t8 x y:=by kernel_rfl
theorem H3 (x:Int) (y:Int) (Yh:(oZ x y).pre):t8 x y:=by
 simp only [oZ,t8,aR,u1,u2,u3,u4,u5,u6,u7,u8,u9,v1,v2,v3,v4,v5,v6,v7,v8,v9,w1,w2,w3,w4,aI,aa,af,ag,aw] at Yh ⊢;unfold bG;refine ⟨fun h=>?_,fun h=>⟨fun h2=>?_,fun h2=>?_⟩⟩
 ·rw [if_pos h]
 ·rw [if_neg h,if_pos h2]
 ·rw [if_neg h,if_neg h2]
theorem H4:Fits Try.prog 49 ⟨[],tZ⟩:=by
 refine aY (Γ:=ai A6) (aC H1 aQ) Try.func49 fun ds p h hp=>?_
 unfold tZ at h;split at h
 ·cases h
  exact ⟨aj,ax,by rw [H2];exact H3 _ _  hp⟩
 ·cases h
def o5 (a:List Int) (b:List Int):Post:=⟨ag a.length∧ag b.length,.c (.int .i64 (bf bG a b)),[]⟩
def ua:List AD→Option Post
 | [.c (.ints .i64 (a)),.c (.ints .i64 (b))]=>some (o5 a b)
 | _=>none
def A7 (a:List Int) (b:List Int):Nat→Option Ann
 | 0=>some (Ann.mk ((Nat)) (fun i=>⟨[(0,.c (.ro (.ints .i64 (a)))),(1,.c (.ro (.ints .i64 (b)))),(9,.c (.ro (.ints .i64 (a)))),(10,.c (.int .i64 ((a.length:Int)))),(11,.c (.int .i64 ((i:Int))))],[]⟩) (fun i=>i≤a.length∧i≤b.length∧bf bG a b=bf bG (a.drop i) (b.drop i)) (fun i=>a.length - i) (fun _=>ax))
 | _=>none
def A8:List (Nat×Ctr):=[(49,⟨[],tZ⟩)]
def ub (a:List Int) (b:List Int):Prop :=
 ((∃x0:Nat,(((x0≤a.length)∧((x0≤b.length)∧(bf bG a b=bf bG (List.drop x0 a) (List.drop x0 b))))∧((a=a)∧((b=b)∧((a=a)∧(((↑(a.length):Int)=(↑(a.length):Int))∧((0:Int)=(↑x0:Int))))))))∧(∀x1:Nat,(((x1≤a.length)∧((x1≤b.length)∧(bf bG a b=bf bG (List.drop x1 a) (List.drop x1 b))))→(ae (decide ((↑x1:Int)<(↑(a.length):Int))) ((aa (↑x1:Int) (a.length))∧(ae (decide ((↑(b.length):Int)≤(↑x1:Int))) (((1:Int)=bf bG a b)∧True) ((aa (↑x1:Int) (b.length))∧((True∧True)∧(ae (bG (a.getD ((↑x1:Int).toNat) (0:Int)) (b.getD ((↑x1:Int).toNat) (0:Int)) != (0:Int)) ((bG (a.getD ((↑x1:Int).toNat) (0:Int)) (b.getD ((↑x1:Int).toNat) (0:Int))=bf bG a b)∧True) ((af ((↑x1:Int)+(1:Int)))∧(∃x2:Nat,(((x2≤a.length)∧((x2≤b.length)∧(bf bG a b=bf bG (List.drop x2 a) (List.drop x2 b))))∧((a.length - x2<a.length - x1)∧((a=a)∧((b=b)∧((a=a)∧(((↑(a.length):Int)=(↑(a.length):Int))∧((↑x1:Int)+(1:Int)=(↑x2:Int))))))))))))))) (ae (decide ((↑(a.length):Int)<(↑(b.length):Int))) (((-1:Int)=bf bG a b)∧True) (((0:Int)=bf bG a b)∧True))))))
theorem H5 (a:List Int) (b:List Int):aS Try.prog (ai A8) aj (A7 a b) Try.f29 (aM Try.f29) [] [.c (.ints .i64 (a)),.c (.ints .i64 (b))] (o5 a b)=ub a b:=by kernel_rfl
theorem H6 (a:List Int) (b:List Int) (Yh:(o5 a b).pre):ub a b:=by
 simp only [o5,ub,aR,u1,u2,u3,u4,u5,u6,u7,u8,u9,v1,v2,v3,v4,v5,v6,v7,v8,v9,w1,w2,w3,w4,aI,aa,af,ag,aw] at Yh ⊢;refine ⟨⟨0,⟨by omega,by omega,rfl⟩,rfl⟩,fun i ⟨hi,hj,he⟩=>⟨fun h=>⟨by omega,fun h2=>?_,fun h2=>⟨by omega,fun h3=>?_,fun h3=>⟨by omega,i+1,⟨by omega,by omega,?_⟩,by omega,by omega⟩⟩⟩,fun h=>⟨fun h2=>?_,fun h2=>?_⟩⟩⟩
 ·rw [he,A4 bG 0 a b i (by omega) (by omega)]
 ·rw [he,oW bG 0 a b i (by omega) (by omega),if_neg h3]
 ·rw [he,oW bG 0 a b i (by omega) (by omega),if_pos h3]
 ·rw [he,oX bG 0 a b i (by omega),if_pos (by omega)]
 ·rw [he,oX bG 0 a b i (by omega),if_neg (by omega)]
theorem H7:Fits Try.prog 29 ⟨[],ua⟩:=by
 refine aY (Γ:=ai A8) (aC H4 aQ) Try.func29 fun ds p h hp=>?_
 unfold ua at h;split at h
 ·cases h
  exact ⟨aj,A7 _ _ ,by rw [H5];exact H6 _ _  hp⟩
 ·cases h
def o6 (a:List Int) (b:List Int):Post:=⟨ag a.length∧ag b.length,.c (.int .i64 (bf bG a b)),[]⟩
def mV:List AD→Option Post
 | [.c (.ints .i64 (a)),.c (.ints .i64 (b))]=>some (o6 a b)
 | _=>none
def A9:List (Nat×Ctr):=[(29,⟨[],ua⟩)]
def uc (a:List Int) (b:List Int):Prop :=
 ((((ag (a.length))∧(ag (b.length)))∧True)∧((bf bG a b=bf bG a b)∧True))
theorem H8 (a:List Int) (b:List Int):aS Try.prog (ai A9) aj ax Try.f82 (aM Try.f82) [] [.c (.ints .i64 (a)),.c (.ints .i64 (b))] (o6 a b)=uc a b:=by kernel_rfl
theorem H9 (a:List Int) (b:List Int) (Yh:(o6 a b).pre):uc a b:=by
 simp only [o6,uc,aR,u1,u2,u3,u4,u5,u6,u7,u8,u9,v1,v2,v3,v4,v5,v6,v7,v8,v9,w1,w2,w3,w4,aI,aa,af,ag,aw] at Yh ⊢;exact Yh
theorem Ia:Fits Try.prog 82 ⟨[],mV⟩:=by
 refine aY (Γ:=ai A9) (aC H7 aQ) Try.func82 fun ds p h hp=>?_
 unfold mV at h;split at h
 ·cases h
  exact ⟨aj,ax,by rw [H8];exact H9 _ _  hp⟩
 ·cases h
def o8 (a:List (List Int)) (b:List (List Int)) (q:List Int→List Int→Prop) (p:List Int→List Int→Int):Post:=⟨a.length≤1099511627776∧b.length≤1099511627776∧(∀x∈a,∀y∈b,q x y),.c (.int .i64 (bf p a b)),[]⟩
def ud:List AD→Option Post
 | [.c (.rows .i64 (a)),.c (.rows .i64 (b)),.fv (.lli q p)]=>some (o8 a b q p)
 | _=>none
def Ba (a:List (List Int)) (b:List (List Int)) (q:List Int→List Int→Prop) (p:List Int→List Int→Int):Nat→Option Ann
 | 0=>some (Ann.mk ((Nat)) (fun i=>⟨[(0,.c (.ro (.rows .i64 (a)))),(1,.c (.ro (.rows .i64 (b)))),(2,.fv (.lli q p)),(11,.c (.ro (.rows .i64 (a)))),(12,.c (.int .i64 ((a.length:Int)))),(13,.c (.int .i64 ((i:Int))))],[]⟩) (fun i=>i≤a.length∧i≤b.length∧bf p a b=bf p (a.drop i) (b.drop i)) (fun i=>a.length - i) (fun _=>ax))
 | _=>none
def Bb:List (Nat×Ctr):=[]
def ue (a:List (List Int)) (b:List (List Int)) (q:List Int→List Int→Prop) (p:List Int→List Int→Int):Prop :=
 ((∃x0:Nat,(((x0≤a.length)∧((x0≤b.length)∧(bf p a b=bf p (List.drop x0 a) (List.drop x0 b))))∧((a=a)∧((b=b)∧((FV.lli q p=FV.lli q p)∧((a=a)∧(((↑(a.length):Int)=(↑(a.length):Int))∧((0:Int)=(↑x0:Int)))))))))∧(∀x1:Nat,(((x1≤a.length)∧((x1≤b.length)∧(bf p a b=bf p (List.drop x1 a) (List.drop x1 b))))→(ae (decide ((↑x1:Int)<(↑(a.length):Int))) ((aa (↑x1:Int) (a.length))∧(ae (decide ((↑(b.length):Int)≤(↑x1:Int))) (((1:Int)=bf p a b)∧True) ((aa (↑x1:Int) (b.length))∧((q (a.getD ((↑x1:Int).toNat) []) (b.getD ((↑x1:Int).toNat) []))∧(ae (p (a.getD ((↑x1:Int).toNat) []) (b.getD ((↑x1:Int).toNat) []) != (0:Int)) ((p (a.getD ((↑x1:Int).toNat) []) (b.getD ((↑x1:Int).toNat) [])=bf p a b)∧True) ((af ((↑x1:Int)+(1:Int)))∧(∃x2:Nat,(((x2≤a.length)∧((x2≤b.length)∧(bf p a b=bf p (List.drop x2 a) (List.drop x2 b))))∧((a.length - x2<a.length - x1)∧((a=a)∧((b=b)∧((FV.lli q p=FV.lli q p)∧((a=a)∧(((↑(a.length):Int)=(↑(a.length):Int))∧((↑x1:Int)+(1:Int)=(↑x2:Int)))))))))))))))) (ae (decide ((↑(a.length):Int)<(↑(b.length):Int))) (((-1:Int)=bf p a b)∧True) (((0:Int)=bf p a b)∧True))))))
theorem Ib (a:List (List Int)) (b:List (List Int)) (q:List Int→List Int→Prop) (p:List Int→List Int→Int):aS Try.prog (ai Bb) aj (Ba a b q p) Try.f81 (aM Try.f81) [] [.c (.rows .i64 (a)),.c (.rows .i64 (b)),.fv (.lli q p)] (o8 a b q p)=ue a b q p:=by kernel_rfl
theorem Ic (a:List (List Int)) (b:List (List Int)) (q:List Int→List Int→Prop) (p:List Int→List Int→Int) (Yh:(o8 a b q p).pre):ue a b q p:=by
 simp only [o8,ue,aR,u1,u2,u3,u4,u5,u6,u7,u8,u9,v1,v2,v3,v4,v5,v6,v7,v8,v9,w1,w2,w3,w4,aI,aa,af,ag,aw] at Yh ⊢;obtain ⟨l1,l2,hq⟩:=Yh;refine ⟨⟨0,⟨by omega,by omega,rfl⟩,rfl⟩,fun i ⟨hi,hj,he⟩=>⟨fun h=>⟨by omega,fun h2=>?_,fun h2=>⟨by omega,hq _ (bN a [] i (by omega)) _ (bN b [] i (by omega)),fun h3=>?_,fun h3=>⟨by omega,i+1,⟨by omega,by omega,?_⟩,by omega,by omega⟩⟩⟩,fun h=>⟨fun h2=>?_,fun h2=>?_⟩⟩⟩
 ·rw [he,A4 p [] a b i (by omega) (by omega)]
 ·rw [he,oW p [] a b i (by omega) (by omega),if_neg h3]
 ·rw [he,oW p [] a b i (by omega) (by omega),if_pos h3]
 ·rw [he,oX p [] a b i (by omega),if_pos (by omega)]
 ·rw [he,oX p [] a b i (by omega),if_neg (by omega)]
theorem Id:Fits Try.prog 81 ⟨[],ud⟩:=by
 refine aY (Γ:=ai Bb) aQ Try.func81 fun ds p h hp=>?_
 unfold ud at h;split at h
 ·cases h
  exact ⟨aj,Ba _ _ _ _ ,by rw [Ib];exact Ic _ _ _ _  hp⟩
 ·cases h
def o9 (a:List (List Int)) (b:List (List Int)):Post:=⟨bk a∧bk b,.c (.int .i64 (bf (bf bG) a b)),[]⟩
def uf:List AD→Option Post
 | [.c (.rows .i64 (a)),.c (.rows .i64 (b))]=>some (o9 a b)
 | _=>none
def Bc:List (Nat×Ctr):=[(81,⟨[],ud⟩),(82,⟨[],mV⟩)]
def ug (a:List (List Int)) (b:List (List Int)):Prop :=
 ((((a.length≤(1099511627776:Nat))∧((b.length≤(1099511627776:Nat))∧(∀(x:List Int),x∈a→∀(y:List Int),y∈b→kw (mV [AD.c (FC.ints IntKind.i64 x),AD.c (FC.ints IntKind.i64 y)]))))∧True)∧((bf (fun (x y:List Int)=>kv (mV [AD.c (FC.ints IntKind.i64 x),AD.c (FC.ints IntKind.i64 y)])) a b=bf (bf bG) a b)∧True))
theorem Ie (a:List (List Int)) (b:List (List Int)):aS Try.prog (ai Bc) aj ax Try.f53 (aM Try.f53) [] [.c (.rows .i64 (a)),.c (.rows .i64 (b))] (o9 a b)=ug a b:=by kernel_rfl
theorem If (a:List (List Int)) (b:List (List Int)) (Yh:(o9 a b).pre):ug a b:=by
 simp only [o9,ug,aR,u1,u2,u3,u4,u5,u6,u7,u8,u9,v1,v2,v3,v4,v5,v6,v7,v8,v9,w1,w2,w3,w4,aI,aa,af,ag,aw] at Yh ⊢;exact ⟨⟨Yh.1.1,Yh.2.1,fun x hx y hy=>⟨Yh.1.2 x hx,Yh.2.2 y hy⟩⟩,rfl⟩
theorem uh:Fits Try.prog 53 ⟨[],uf⟩:=by
 refine aY (Γ:=ai Bc) (aC Id (aC Ia aQ)) Try.func53 fun ds p h hp=>?_
 unfold uf at h;split at h
 ·cases h
  exact ⟨aj,ax,by rw [Ie];exact If _ _  hp⟩
 ·cases h
def pa (a:List Int) (b:List Int):Post:=⟨ag a.length,.c (.bool (decide (a=b))),[]⟩
def mW:List AD→Option Post
 | [.c (.ints .i64 (a)),.c (.ints .i64 (b))]=>some (pa a b)
 | _=>none
def Bd (a:List Int) (b:List Int):Nat→Option Ann
 | 0=>some (Ann.mk ((Nat)) (fun i=>⟨[(0,.c (.ro (.ints .i64 (a)))),(1,.c (.ro (.ints .i64 (b)))),(5,.c (.int .i64 ((i:Int))))],[]⟩) (fun i=>i≤a.length∧a.length=b.length∧a.take i=b.take i) (fun i=>a.length - i) (fun _=>ax))
 | _=>none
def Be:List (Nat×Ctr):=[]
def ui (a:List Int) (b:List Int):Prop :=
 (ae ((↑(a.length):Int) != (↑(b.length):Int)) ((false=decide (a=b))∧True) ((∃x0:Nat,(((x0≤a.length)∧((a.length=b.length)∧(List.take x0 a=List.take x0 b)))∧((a=a)∧((b=b)∧((0:Int)=(↑x0:Int))))))∧(∀x1:Nat,(((x1≤a.length)∧((a.length=b.length)∧(List.take x1 a=List.take x1 b)))→(ae (decide ((↑x1:Int)<(↑(a.length):Int))) ((aa (↑x1:Int) (a.length))∧((aa (↑x1:Int) (b.length))∧(ae (a.getD ((↑x1:Int).toNat) (0:Int) != b.getD ((↑x1:Int).toNat) (0:Int)) ((false=decide (a=b))∧True) ((af ((↑x1:Int)+(1:Int)))∧(∃x2:Nat,(((x2≤a.length)∧((a.length=b.length)∧(List.take x2 a=List.take x2 b)))∧((a.length - x2<a.length - x1)∧((a=a)∧((b=b)∧((↑x1:Int)+(1:Int)=(↑x2:Int))))))))))) ((true=decide (a=b))∧True))))))
theorem Ig (a:List Int) (b:List Int):aS Try.prog (ai Be) aj (Bd a b) Try.f85 (aM Try.f85) [] [.c (.ints .i64 (a)),.c (.ints .i64 (b))] (pa a b)=ui a b:=by kernel_rfl
theorem Ih (a:List Int) (b:List Int) (Yh:(pa a b).pre):ui a b:=by
 simp only [pa,ui,aR,u1,u2,u3,u4,u5,u6,u7,u8,u9,v1,v2,v3,v4,v5,v6,v7,v8,v9,w1,w2,w3,w4,aI,aa,af,ag,aw] at Yh ⊢;refine ⟨fun h=>?_,fun h=>⟨⟨0,⟨by omega,by omega,rfl⟩,by simp⟩,fun i hi=>⟨fun h1=>⟨by omega,by omega,fun h2=>?_,fun h2=>⟨by omega,i+1,⟨by omega,hi.2.1,?_⟩,by omega,by omega⟩⟩,fun h1=>?_⟩⟩⟩
 ·exact (decide_eq_false fun e=>h (by rw [e])).symm
 ·exact (decide_eq_false fun e=>h2 (by rw [e])).symm
 ·exact (oI a b 0 i (by omega) (by omega) hi.2.2).2 h2
 ·refine (decide_eq_true ?_).symm
  have:=hi.2.2
  rwa [List.take_of_length_le (by omega),List.take_of_length_le (by omega)] at this
theorem uj:Fits Try.prog 85 ⟨[],mW⟩:=by
 refine aY (Γ:=ai Be) aQ Try.func85 fun ds p h hp=>?_
 unfold mW at h;split at h
 ·cases h
  exact ⟨aj,Bd _ _ ,by rw [Ig];exact Ih _ _  hp⟩
 ·cases h
end Go.Sx
