/- CirB -/
import Derived.Test.YtcdmndagoafcgaaGreatSoc
import Derived.Test.YtcdmndagoafcgaaGreatGrp
open Go Go.Proofs
namespace Go.Sx
set_option linter.unusedSimpArgs false
set_option linter.unusedVariables false
def rh (a:List Int) (b:List Int):Post:=⟨a.length≤9223372036854775807∧b.length≤9223372036854775807,.c (.bool (decide (a=b))),[]⟩
def rk:List AD→Option Post
 | [.c (.ints .i64 (a)),.c (.ints .i64 (b))]=>some (rh a b)
 | _=>none
def F5 (a:List Int) (b:List Int):Nat→Option Ann
 | 0=>some (Ann.mk ((Nat)) (fun i=>⟨[(0,.c (.ro (.ints .i64 (a)))),(1,.c (.ro (.ints .i64 (b)))),(12,.c (.int .i64 ((a.length:Int)))),(13,.c (.int .i64 ((i:Int))))],[]⟩) (fun i=>i≤a.length∧a.length=b.length∧decide (a=b)=decide (a.drop i=b.drop i)) (fun i=>a.length - i) (fun _=>am))
 | _=>none
def F6:List (Nat×Ctr):=[]
def xS (a:List Int) (b:List Int):Prop :=
 (ac ((↑(a.length):Int) != (↑(b.length):Int)) ((false=decide (a=b))∧True) ((∃x0:Nat,(((x0≤a.length)∧((a.length=b.length)∧(decide (a=b)=decide (List.drop x0 a=List.drop x0 b))))∧((a=a)∧((b=b)∧(((↑(a.length):Int)=(↑(a.length):Int))∧((0:Int)=(↑x0:Int)))))))∧(∀x1:Nat,(((x1≤a.length)∧((a.length=b.length)∧(decide (a=b)=decide (List.drop x1 a=List.drop x1 b))))→(ac (decide ((↑x1:Int)<(↑(a.length):Int))) ((aa (↑x1:Int) (a.length))∧((aa (↑x1:Int) (b.length))∧(ac (a.getD ((↑x1:Int).toNat) (0:Int) != b.getD ((↑x1:Int).toNat) (0:Int)) ((false=decide (a=b))∧True) ((ab ((↑x1:Int)+(1:Int)))∧(∃x2:Nat,(((x2≤a.length)∧((a.length=b.length)∧(decide (a=b)=decide (List.drop x2 a=List.drop x2 b))))∧((a.length - x2<a.length - x1)∧((a=a)∧((b=b)∧(((↑(a.length):Int)=(↑(a.length):Int))∧((↑x1:Int)+(1:Int)=(↑x2:Int)))))))))))) ((true=decide (a=b))∧True))))))
theorem NH (a:List Int) (b:List Int):aC Tryz.prog (af F6) ah (F5 a b) Tryz.f93 (aE Tryz.f93) [] [.c (.ints .i64 (a)),.c (.ints .i64 (b))] (rh a b)=xS a b:=by kernel_rfl
theorem NI (a:List Int) (b:List Int) (Yh:(rh a b).pre):xS a b:=by
 simp only [rh,xS,aG,u1,u2,u3,u4,u5,u6,u7,u8,u9,v1,v2,v3,v4,v5,v6,v7,v8,v9,w1,w2,w3,w4,aH,aa,ab,ae,ar] at Yh ⊢;refine ⟨fun h=>?_,fun h=>⟨⟨0,⟨by omega,by omega,rfl⟩,rfl⟩,fun i ⟨hi,hl,he⟩=>⟨fun h2=>?_,fun h2=>?_⟩⟩⟩
 ·exact (decide_eq_false fun e=>h (by rw [e])).symm
 ·have ea:=drop_cons' a 0 i (by omega)
  have eb:=drop_cons' b 0 i (by omega)
  refine ⟨by omega,by omega,fun h3=>?_,fun h3=>⟨by omega,i+1,⟨by omega,hl,?_⟩,by omega,by omega⟩⟩
  ·rw [he,ea,eb]
   exact (decide_eq_false fun e=>h3 (by injection e)).symm
  ·rw [he,ea,eb,h3]
   simp
 ·rw [he,List.drop_eq_nil_of_le (by omega),List.drop_eq_nil_of_le (by omega)];rfl
theorem F7:Fits Tryz.prog 93 ⟨[],rk⟩:=by
 refine aJ (Γ:=af F6) aF Tryz.func93 fun ds p h hp=>?_
 unfold rk at h;split at h
 ·cases h
  exact ⟨ah,F5 _ _ ,by rw [NH];exact NI _ _  hp⟩
 ·cases h
def rm (x:Int) (y:Int) (t:List (List Int)):Post:=⟨aW t=true∧0≤x∧x<(t.length:Int)∧0≤y∧y<(t.length:Int),.c (.int .i64 (en t y.toNat x.toNat)),[]⟩
def oN:List AD→Option Post
 | [.c (.int .i64 (x)),.c (.int .i64 (y)),.box [.rows .i64 (t)]]=>some (rm x y t)
 | _=>none
def F8:List (Nat×Ctr):=[]
def xT (x:Int) (y:Int) (t:List (List Int)):Prop :=
 ((aa y (t.length))∧((aa x ((t.getD (y.toNat) []).length))∧(((List.getD t (y.toNat) []).getD (x.toNat) (0:Int)=en t (y.toNat) (x.toNat))∧True)))
theorem NJ (x:Int) (y:Int) (t:List (List Int)):aC Tryz.prog (af F8) ah am Tryz.f160 (aE Tryz.f160) [] [.c (.int .i64 (x)),.c (.int .i64 (y)),.box [.rows .i64 (t)]] (rm x y t)=xT x y t:=by kernel_rfl
theorem NK (x:Int) (y:Int) (t:List (List Int)) (Yh:(rm x y t).pre):xT x y t:=by
 simp only [rm,xT,aG,u1,u2,u3,u4,u5,u6,u7,u8,u9,v1,v2,v3,v4,v5,v6,v7,v8,v9,w1,w2,w3,w4,aH,aa,ab,ae,ar] at Yh ⊢;obtain ⟨h1,x1,x2,y1,y2⟩:=Yh;obtain ⟨n1,n2,ht⟩:=bA h1;have r:=ht y.toNat (by omega)
 exact ⟨by omega,by omega,rfl⟩
theorem NM:Fits Tryz.prog 160 ⟨[],oN⟩:=by
 refine aJ (Γ:=af F8) aF Tryz.func160 fun ds p h hp=>?_
 unfold oN at h;split at h
 ·cases h
  exact ⟨ah,am,by rw [NJ];exact NK _ _ _  hp⟩
 ·cases h
def cI (t:List (List Int)):List (List Int):=aS t.length fun x y=>en t y x
def rn (t:List (List Int)):Post:=⟨aW t=true,.c (.rows 57 2 .i64 (cI t)),[]⟩
def rp:List AD→Option Post
 | [.c (.rows .i64 (t))]=>some (rn t)
 | _=>none
def F9:List (Nat×Ctr):=[(153,⟨[],oK⟩),(160,⟨[],oN⟩)]
def xU (t:List (List Int)):Prop :=
 (((((0:Int)≤(↑(t.length):Int))∧(((↑(t.length):Int)≤(144:Int))∧(∀(x y:Int),(0:Int)≤x→x<(↑(t.length):Int)→(0:Int)≤y→y<(↑(t.length):Int)→jF (oN [AD.c (FC.int IntKind.i64 x),AD.c (FC.int IntKind.i64 y),AD.box [FC.rows IntKind.i64 t]]))))∧True)∧(((aS ((↑(t.length):Int).toNat) fun (x y:Nat)=>ku (oN [AD.c (FC.int IntKind.i64 (↑x:Int)),AD.c (FC.int IntKind.i64 (↑y:Int)),AD.box [FC.rows IntKind.i64 t]]))=cI t)∧True))
theorem NN (t:List (List Int)):aC Tryz.prog (af F9) ah am Tryz.f91 (aE Tryz.f91) [] [.c (.rows .i64 (t))] (rn t)=xU t:=by kernel_rfl
theorem NO (t:List (List Int)) (Yh:(rn t).pre):xU t:=by
 simp only [rn,xU,aG,u1,u2,u3,u4,u5,u6,u7,u8,u9,v1,v2,v3,v4,v5,v6,v7,v8,v9,w1,w2,w3,w4,aH,aa,ab,ae,ar] at Yh ⊢;obtain ⟨n1,n2,ht⟩:=bA Yh;exact ⟨⟨by omega,by omega,fun x y a1 a2 a3 a4=>⟨Yh,a1,a2,a3,a4⟩⟩,xC fun x y hx hy=>rfl⟩
theorem Ga:Fits Tryz.prog 91 ⟨[],rp⟩:=by
 refine aJ (Γ:=af F9) (aj xB (aj NM aF)) Tryz.func91 fun ds p h hp=>?_
 unfold rp at h;split at h
 ·cases h
  exact ⟨ah,am,by rw [NN];exact NO _  hp⟩
 ·cases h
theorem xV {a b:List Int} (h:a.length=b.length) (k:∀i,i<a.length→a.getD i 0=b.getD i 0):a=b:=by
 apply List.ext_getElem h
 intro i h1 h2
 have:=k i h1
 rwa [ce a 0 i h1,ce b 0 i h2] at this
theorem NP {a c:List (List Int)} (h1:aW a=true) (h2:aW c=true) (hl:c.length=a.length) {x:Nat} (hx:x<a.length) :
  la a c x=true↔(a.getD x []=c.getD x []∧a.getD x []=(cI a).getD x []):=by
 have ra:=(bA h1).2.2 x hx
 have rc:=(bA h2).2.2 x (by omega)
 have et:(cI a).getD x []=aq a.length fun y=>en a y x:=eZ _ _ _ hx
 rw [la,List.all_eq_true]
 constructor
 ·intro h
  have h:∀y,y<a.length→en c x y=en a x y∧en a x y=en a y x:=fun y hy=>by
   have:=h y (by simpa using hy)
   rw [pT,Bool.and_eq_true,decide_eq_true_eq,decide_eq_true_eq] at this;exact this
  refine ⟨xV (by omega) fun i hi=>(h i (by omega)).1.symm,?_⟩
  rw [et];exact xV (by rw [cf];omega) fun i hi=>by rw [cr _ _ _ (by omega)];exact (h i (by omega)).2
 ·rintro ⟨e1,e2⟩ y hy
  have hy:y<a.length:=by simpa using hy
  rw [pT,Bool.and_eq_true,decide_eq_true_eq,decide_eq_true_eq];refine ⟨by unfold en;rw [e1],?_⟩
  rw [et] at e2
  show (a.getD x []).getD y 0=_
  rw [e2,cr _ _ _ hy]
theorem NQ {a c:List (List Int)} {i:Nat} (h:la a c i=true):eh a c i ||| 2 ^ i=eh a c (i+1):=by
 unfold eh;simp only [dW];rw [if_pos h]
theorem Gb {a c:List (List Int)} {i:Nat} (h:¬ la a c i=true):eh a c i=eh a c (i+1):=by
 unfold eh;simp only [dW];rw [if_neg h]
theorem NR (a c:List (List Int)) {i n:Nat} (h:i≤n) (hn:n≤12):eh a c i<4096:=by
 have:=oX (la a c) i
 have h2:=lV (n:=i) (by omega)
 unfold eh;omega
def rt (a:List (List Int)) (c:List (List Int)):Post:=⟨aW a=true∧aW c=true∧c.length=a.length,.c (.int .i64 (bt a c)),[]⟩
def rx:List AD→Option Post
 | [.agg [.rows .i64 (a),.rows .i64 (c)]]=>some (rt a c)
 | _=>none
def Gc (a:List (List Int)) (c:List (List Int)):Nat→Option Ann
 | 0=>some (Ann.mk ((Nat)) (fun i=>⟨[(1,.c (.ptr 1 0)),(3,.c (.own (9))),(4,.c (.int .i64 (((eh a c i:Nat):Int)))),(11,.c (.ro (.rows .i64 (a)))),(12,.c (.int .i64 ((a.length:Int)))),(13,.c (.int .i64 ((i:Int))))],[(1,some (.box [.ro (.rows .i64 (a)),.ro (.rows .i64 (c))])),(9,some (.rows 0 57 2 .i64 (cI a)))]⟩) (fun i=>i≤a.length) (fun i=>a.length - i) (fun _=>am))
 | _=>none
def Gd:List (Nat×Ctr):=[(91,⟨[],rp⟩),(93,⟨[],rk⟩)]
def xW (a:List (List Int)) (c:List (List Int)):Prop :=
 (((aW a=true)∧True)∧((∃x0:Nat,((x0≤a.length)∧(((0:Int)=(↑(eh a c x0):Int))∧((a=a)∧(((↑(a.length):Int)=(↑(a.length):Int))∧(((0:Int)=(↑x0:Int))∧((a=a)∧((c=c)∧(cI a=cI a)))))))))∧(∀x1:Nat,((x1≤a.length)→(ac (decide ((↑x1:Int)<(↑(a.length):Int))) ((aa (↑x1:Int) (a.length))∧((aa (↑x1:Int) (c.length))∧(((((a.getD ((↑x1:Int).toNat) []).length≤(9223372036854775807:Nat))∧((c.getD ((↑x1:Int).toNat) []).length≤(9223372036854775807:Nat)))∧True)∧(ac (decide (a.getD ((↑x1:Int).toNat) []=c.getD ((↑x1:Int).toNat) [])) ((aa (↑x1:Int) ((cI a).length))∧(((((a.getD ((↑x1:Int).toNat) []).length≤(9223372036854775807:Nat))∧(((cI a).getD ((↑x1:Int).toNat) []).length≤(9223372036854775807:Nat)))∧True)∧(ac (decide (a.getD ((↑x1:Int).toNat) []=(cI a).getD ((↑x1:Int).toNat) [])) (((((0:Int)≤(↑x1:Int))∧((↑x1:Int)≤(62:Int)))∧(ab ((1:Int) * (2:Int) ^ (↑x1:Int).toNat)))∧(((IntKind.i64=IntKind.i64)∧((((0:Int)≤(↑(eh a c x1):Int))∧((↑(eh a c x1):Int)≤(9223372036854775807:Int)))∧(((0:Int)≤(1:Int) * (2:Int) ^ (↑x1:Int).toNat)∧((1:Int) * (2:Int) ^ (↑x1:Int).toNat≤(9223372036854775807:Int)))))∧((ab ((↑x1:Int)+(1:Int)))∧(∃x2:Nat,((x2≤a.length)∧((a.length - x2<a.length - x1)∧(((↑((↑(eh a c x1):Int).toNat ||| ((1:Int) * (2:Int) ^ (↑x1:Int).toNat).toNat):Int)=(↑(eh a c x2):Int))∧((a=a)∧(((↑(a.length):Int)=(↑(a.length):Int))∧(((↑x1:Int)+(1:Int)=(↑x2:Int))∧((a=a)∧((c=c)∧(cI a=cI a)))))))))))))
 ((ab ((↑x1:Int)+(1:Int)))∧(∃x3:Nat,((x3≤a.length)∧((a.length - x3<a.length - x1)∧(((↑(eh a c x1):Int)=(↑(eh a c x3):Int))∧((a=a)∧(((↑(a.length):Int)=(↑(a.length):Int))∧(((↑x1:Int)+(1:Int)=(↑x3:Int))∧((a=a)∧((c=c)∧(cI a=cI a)))))))))))))) ((ab ((↑x1:Int)+(1:Int)))∧(∃x4:Nat,((x4≤a.length)∧((a.length - x4<a.length - x1)∧(((↑(eh a c x1):Int)=(↑(eh a c x4):Int))∧((a=a)∧(((↑(a.length):Int)=(↑(a.length):Int))∧(((↑x1:Int)+(1:Int)=(↑x4:Int))∧((a=a)∧((c=c)∧(cI a=cI a))))))))))))))) (((↑(eh a c x1):Int)=bt a c)∧True))))))
theorem NS (a:List (List Int)) (c:List (List Int)):aC Tryz.prog (af Gd) ah (Gc a c) Tryz.f76 (aE Tryz.f76) [] [.agg [.rows .i64 (a),.rows .i64 (c)]] (rt a c)=xW a c:=by kernel_rfl
theorem NT (a:List (List Int)) (c:List (List Int)) (Yh:(rt a c).pre):xW a c:=by
 simp only [rt,xW,aG,u1,u2,u3,u4,u5,u6,u7,u8,u9,v1,v2,v3,v4,v5,v6,v7,v8,v9,w1,w2,w3,w4,aH,aa,ab,ae,ar] at Yh ⊢;obtain ⟨h1,h2,hl⟩:=Yh;obtain ⟨n1,n2,ha⟩:=bA h1;obtain ⟨_,_,hc⟩:=bA h2;have hT:(cI a).length=a.length:=fK _ _
 refine ⟨h1,⟨0,by omega,rfl,rfl⟩,fun i hi=>⟨fun h=>?_,fun h=>?_⟩⟩
 ·have hs:=NP h1 h2 hl (x:=i) (by omega)
  have r1:=(ha i (by omega)).1
  have r2:=(hc i (by omega)).1
  have r3:((cI a).getD i []).length=a.length:=by rw [cI,eZ _ _ _ (by omega),cf]
  have ml:=NR a c (i:=i) (n:=a.length) (by omega) n2
  have p12:=lV (n:=i) (by omega)
  have pp:=Int.natCast_nonneg (2 ^ i)
  have pn:(1 * (2:Int) ^ i)=((2 ^ i:Nat):Int):=by rw [Int.one_mul,Int.natCast_pow];rfl
  rw [pn];refine ⟨by omega,by omega,by omega,fun e1=>⟨by omega,by omega,fun e2=>?_,fun e2=>?_⟩,fun e1=>?_⟩
  ·refine ⟨by omega,by omega,by omega,i+1,by omega,by omega,?_,by omega⟩
   rw [Int.toNat_natCast,NQ (hs.2 ⟨e1,e2⟩)]
  ·exact ⟨by omega,i+1,by omega,by omega,by rw [Gb fun h=>e2 (hs.1 h).2],by omega⟩
  ·exact ⟨by omega,i+1,by omega,by omega,by rw [Gb fun h=>e1 (hs.1 h).1],by omega⟩
 ·rw [show i=a.length by omega];rfl
theorem Ge:Fits Tryz.prog 76 ⟨[],rx⟩:=by
 refine aJ (Γ:=af Gd) (aj Ga (aj F7 aF)) Tryz.func76 fun ds p h hp=>?_
 unfold rx at h;split at h
 ·cases h
  exact ⟨ah,Gc _ _ ,by rw [NS];exact NT _ _  hp⟩
 ·cases h
def d9 (t A:List (List Int)) (K:List Int):List Int×Bool :=
 match eT t A K with
 | none=>([],false)
 | some o=>(o,true)
theorem Gf {t A:List (List Int)} {o:List Int} {x y:Nat} (h:d5 t A o x y=none):∀k,d5 t A o x (y+k)=none
 | 0=>h
 | k+1=>by rw [←Nat.add_assoc,d5,Gf h k];rfl
theorem Gg {t A:List (List Int)} {o:List Int} {x:Nat} (h:fw t A o x=none):∀k,fw t A o (x+k)=none
 | 0=>h
 | k+1=>by rw [←Nat.add_assoc,fw,Gg h k];rfl
theorem NU {t A:List (List Int)} {K o c e:List Int} {fu i j:Nat} (hr:eT t A K=gn t A (fu+1) o) (hx:fw t A o i=some c) (hy:d5 t A c i j=some e) (hi:i<t.length) (hj:j<t.length) (h:ia t A e i j=none):d9 t A K=([],false):=by
 have h1:d5 t A c i (j+1)=none:=by rw [d5,hy];exact h
 have h2:=Gf h1 (t.length - (j+1))
 rw [show j+1+(t.length - (j+1))=t.length by omega] at h2
 have h3:fw t A o (i+1)=none:=by rw [fw,hx];exact h2
 have h4:=Gg h3 (t.length - (i+1))
 rw [show i+1+(t.length - (i+1))=t.length by omega] at h4
 rw [d9,hr,gn,h4]
def ry (t:List (List Int)) (A:List (List Int)) (K:List Int):Post:=⟨t.length≤12∧ba t.length t∧AuOk t.length A∧A.length≤1000000∧KOk t.length A.length K,.tup [.inl (.ints 2 .i64 ((d9 t A K).1)),.inl (.bool ((d9 t A K).2))],[]⟩
def xX:List AD→Option Post
 | [.c (.rows .i64 (t)),.c (.rows .i64 (A)),.c (.ints .i64 (K))]=>some (ry t A K)
 | _=>none
def Gh (t:List (List Int)) (A:List (List Int)) (K:List Int):Nat→Option Ann
 | 0=>some (Ann.mk ((Nat)×(List Int)×(Bool)) (fun x=>match x with | (fu,o,g)=>⟨[(0,.c (.ro (.rows .i64 (t)))),(1,.c (.ro (.rows .i64 (A)))),(8,.c (.own (8))),(9,.c (.bool (g)))],[(8,some (.ints 2 .i64 (o)))]⟩) (fun x=>match x with | (fu,o,g)=>KOk t.length A.length o∧(g=true→aM o<fu∧eT t A K=gn t A fu o)∧(g=false→eT t A K=some o)) (fun x=>match x with | (fu,o,g)=>2 * fu+(if g=true then 1 else 0)) (fun x=>match x with | (fu,o,g)=>fun b_=>match b_ with | 2=>some (Ann.mk ((Nat)×(List Int)) (fun x=>match x with | (i,c)=>⟨[(0,.c (.ro (.rows .i64 (t)))),(1,.c (.ro (.rows .i64 (A)))),(8,.c (.own (8))),(9,.c (.bool (decide (aM c<aM o)))),(10,.c (.int .i64 ((i:Int))))],[(8,some (.ints 2 .i64 (c)))]⟩) (fun x=>match x with | (i,c)=>i≤t.length∧g=true∧KOk t.length A.length c∧fw t A o i=some c∧aM c≤aM o) (fun x=>match x with | (i,c)=>t.length - i) (fun x=>match x with | (i,c)=>fun b_=>match b_ with | 4=>some (Ann.mk ((Nat)×(List Int)) (fun x=>match x with | (j,e)=>⟨[(0,.c (.ro (.rows .i64 (t)))),(1,.c (.ro (.rows .i64 (A)))),(8,.c (.own (8))),(9,.c (.bool (decide (aM e<aM o)))),(10,.c (.int .i64 ((i:Int)))),(11,.c (.int .i64 ((j:Int))))],[(8,some (.ints 2 .i64 (e)))]⟩) (fun x=>match x with | (j,e)=>i<t.length∧j≤t.length∧KOk t.length A.length e∧d5 t A c i j=some e∧aM e≤aM c) (fun x=>match x with | (j,e)=>t.length - j) (fun _=>am)) | _=>none)) | _=>none))
 | _=>none
def Gi:List (Nat×Ctr):=[(183,⟨[],nQ⟩),(226,⟨[],rL⟩),(268,⟨[],ze⟩)]
def lL (t:List (List Int)) (A:List (List Int)) (x0:Nat×List Int) (x1:Nat×List Int):=((List.getD t ((↑x0.1:Int).toNat) []).getD (((List.getD A ((List.getD x1.2 ((↑x0.1:Int).toNat) (0:Int)).toNat) []).getD ((↑x1.1:Int).toNat) (0:Int)).toNat) (0:Int))
def xY (t:List (List Int)) (A:List (List Int)) (K:List Int):Prop :=
 (((ae (K.length))∧True)∧((∃x0:Nat×List Int×Bool,(((KOk (t.length) (A.length) (x0.2.1))∧((x0.2.2=true→aM (x0.2.1)<x0.1∧eT t A K=gn t A (x0.1) (x0.2.1))∧(x0.2.2=false→eT t A K=Option.some (x0.2.1))))∧((t=t)∧((A=A)∧((true=x0.2.2)∧(K=x0.2.1))))))∧(∀x1:Nat×List Int×Bool,(((KOk (t.length) (A.length) (x1.2.1))∧((x1.2.2=true→aM (x1.2.1)<x1.1∧eT t A K=gn t A (x1.1) (x1.2.1))∧(x1.2.2=false→eT t A K=Option.some (x1.2.1))))→(ac (x1.2.2) ((∃x2:Nat×List Int,(((x2.1≤t.length)∧((x1.2.2=true)∧((KOk (t.length) (A.length) (x2.2))∧((fw t A x1.2.1 (x2.1)=Option.some (x2.2))∧(aM (x2.2)≤aM x1.2.1)))))∧((t=t)∧((A=A)∧((false=decide (aM x2.2<aM x1.2.1))∧(((0:Int)=(↑x2.1:Int))∧(x1.2.1=x2.2)))))))∧(∀x3:Nat×List Int,(((x3.1≤t.length)∧((x1.2.2=true)∧((KOk (t.length) (A.length) (x3.2))∧((fw t A x1.2.1 (x3.1)=Option.some (x3.2))∧(aM (x3.2)≤aM x1.2.1)))))→(ac (decide ((↑x3.1:Int)<(↑(t.length):Int))) ((∃x4:Nat×List Int,(((x3.1<t.length)∧((x4.1≤t.length)∧((KOk (t.length) (A.length) (x4.2))∧((d5 t A x3.2 x3.1 (x4.1)=Option.some (x4.2))∧(aM (x4.2)≤aM x3.2)))))∧((t=t)∧((A=A)∧((decide (aM x3.2<aM x1.2.1)=decide (aM x4.2<aM x1.2.1))∧(((↑x3.1:Int)=(↑x3.1:Int))∧(((0:Int)=(↑x4.1:Int))∧(x3.2=x4.2))))))))∧(∀x5:Nat×List Int,(((x3.1<t.length)∧((x5.1≤t.length)∧((KOk (t.length) (A.length) (x5.2))∧((d5 t A x3.2 x3.1 (x5.1)=Option.some (x5.2)) ∧
 (aM (x5.2)≤aM x3.2)))))→(ac (decide ((↑x5.1:Int)<(↑(t.length):Int))) ((aa (↑x3.1:Int) (x5.2.length))∧(ac (decide (x5.2.getD ((↑x3.1:Int).toNat) (0:Int)<(0:Int))) ((ab ((↑x5.1:Int)+(1:Int)))∧(∃x6:Nat×List Int,(((x3.1<t.length)∧((x6.1≤t.length)∧((KOk (t.length) (A.length) (x6.2))∧((d5 t A x3.2 x3.1 (x6.1)=Option.some (x6.2))∧(aM (x6.2)≤aM x3.2)))))∧((t.length - x6.1<t.length - x5.1)∧((t=t)∧((A=A)∧((decide (aM x5.2<aM x1.2.1)=decide (aM x6.2<aM x1.2.1))∧(((↑x3.1:Int)=(↑x3.1:Int))∧(((↑x5.1:Int)+(1:Int)=(↑x6.1:Int))∧(x5.2=x6.2)))))))))) ((aa (↑x5.1:Int) (x5.2.length))∧(ac (decide (x5.2.getD ((↑x5.1:Int).toNat) (0:Int)<(0:Int))) ((ab ((↑x5.1:Int)+(1:Int)))∧(∃x7:Nat×List Int,(((x3.1<t.length)∧((x7.1≤t.length)∧((KOk (t.length) (A.length) (x7.2))∧((d5 t A x3.2 x3.1 (x7.1)=Option.some (x7.2))∧(aM (x7.2)≤aM x3.2)))))∧((t.length - x7.1<t.length - x5.1)∧((t=t)∧((A=A)∧((decide (aM x5.2<aM x1.2.1)=decide (aM x7.2<aM x1.2.1))∧(((↑x3.1:Int)=(↑x3.1:Int))∧(((↑x5.1:Int)+(1:Int)=(↑x7.1:Int))∧(x5.2=x7.2)))))))))) ((aa (↑x3.1:Int) (t.length))∧((aa (↑x3.1:Int) (x5.2.length))∧((aa (x5.2.getD ((↑x3.1:Int).toNat) (0:Int)) (A.length))∧((aa (↑x5.1:Int) ((A.getD ((x5.2.getD ((↑x3.1:Int).toNat) (0:Int)).toNat) []).length))∧((aa ((List.getD A ((List.getD x5.2 ((↑x3.1:Int).toNat) (0:Int)).toNat) []).getD ((↑x5.1:Int).toNat) (0:Int)) ((t.getD ((↑x3.1:Int).toNat) []).length)) ∧
 ((aa (↑x5.1:Int) (x5.2.length))∧((aa (x5.2.getD ((↑x5.1:Int).toNat) (0:Int)) (A.length))∧((aa (↑x3.1:Int) (x5.2.length))∧((aa (x5.2.getD ((↑x3.1:Int).toNat) (0:Int)) (A.length))∧((((ae ((A.getD ((x5.2.getD ((↑x5.1:Int).toNat) (0:Int)).toNat) []).length))∧(lO ((A.getD ((x5.2.getD ((↑x3.1:Int).toNat) (0:Int)).toNat) []).length) (A.getD ((x5.2.getD ((↑x5.1:Int).toNat) (0:Int)).toNat) [])))∧True)∧(((au A)∧True)∧((aa (lL t A x3 x5) (x5.2.length))∧(ac (decide (x5.2.getD (((List.getD t ((↑x3.1:Int).toNat) []).getD (((List.getD A ((List.getD x5.2 ((↑x3.1:Int).toNat) (0:Int)).toNat) []).getD ((↑x5.1:Int).toNat) (0:Int)).toNat) (0:Int)).toNat) (0:Int)<(0:Int))) ((aa (lL t A x3 x5) (x5.2.length))∧((aa (lL t A x3 x5) ((List.set x5.2 ((lL t A x3 x5).toNat) (ic A (bU (A.getD ((x5.2.getD ((↑x5.1:Int).toNat) (0:Int)).toNat) []) (A.getD ((x5.2.getD ((↑x3.1:Int).toNat) (0:Int)).toNat) [])))).length)) ∧
 (ac ((List.set x5.2 ((List.getD (List.getD t ((↑x3.1:Int).toNat) []) ((List.getD (List.getD A ((List.getD x5.2 ((↑x3.1:Int).toNat) (0:Int)).toNat) []) ((↑x5.1:Int).toNat) (0:Int)).toNat) (0:Int)).toNat) (ic A (bU (List.getD A ((List.getD x5.2 ((↑x5.1:Int).toNat) (0:Int)).toNat) []) (List.getD A ((List.getD x5.2 ((↑x3.1:Int).toNat) (0:Int)).toNat) [])))).getD (((List.getD t ((↑x3.1:Int).toNat) []).getD (((List.getD A ((List.getD x5.2 ((↑x3.1:Int).toNat) (0:Int)).toNat) []).getD ((↑x5.1:Int).toNat) (0:Int)).toNat) (0:Int)).toNat) (0:Int) != ic A (bU (A.getD ((x5.2.getD ((↑x5.1:Int).toNat) (0:Int)).toNat) []) (A.getD ((x5.2.getD ((↑x3.1:Int).toNat) (0:Int)).toNat) []))) ((([]=(d9 t A K).1)∧((false=(d9 t A K).2)∧True))∧True) ((ab ((↑x5.1:Int)+(1:Int)))∧(∃x8:Nat×List Int,(((x3.1<t.length)∧((x8.1≤t.length)∧((KOk (t.length) (A.length) (x8.2))∧((d5 t A x3.2 x3.1 (x8.1)=Option.some (x8.2))∧(aM (x8.2)≤aM x3.2)))))∧((t.length - x8.1<t.length - x5.1)∧((t=t)∧((A=A)∧((true=decide (aM x8.2<aM x1.2.1))∧(((↑x3.1:Int)=(↑x3.1:Int))∧(((↑x5.1:Int)+(1:Int)=(↑x8.1:Int))∧(List.set x5.2 ((lL t A x3 x5).toNat) (ic A (bU (A.getD ((x5.2.getD ((↑x5.1:Int).toNat) (0:Int)).toNat) []) (A.getD ((x5.2.getD ((↑x3.1:Int).toNat) (0:Int)).toNat) [])))=x8.2))))))))))))) ((aa (lL t A x3 x5) (x5.2.length)) ∧
 (ac (x5.2.getD (((List.getD t ((↑x3.1:Int).toNat) []).getD (((List.getD A ((List.getD x5.2 ((↑x3.1:Int).toNat) (0:Int)).toNat) []).getD ((↑x5.1:Int).toNat) (0:Int)).toNat) (0:Int)).toNat) (0:Int) != ic A (bU (A.getD ((x5.2.getD ((↑x5.1:Int).toNat) (0:Int)).toNat) []) (A.getD ((x5.2.getD ((↑x3.1:Int).toNat) (0:Int)).toNat) []))) ((([]=(d9 t A K).1)∧((false=(d9 t A K).2)∧True))∧True) ((ab ((↑x5.1:Int)+(1:Int)))∧(∃x9:Nat×List Int,(((x3.1<t.length)∧((x9.1≤t.length)∧((KOk (t.length) (A.length) (x9.2))∧((d5 t A x3.2 x3.1 (x9.1)=Option.some (x9.2))∧(aM (x9.2)≤aM x3.2)))))∧((t.length - x9.1<t.length - x5.1)∧((t=t)∧((A=A)∧((decide (aM x5.2<aM x1.2.1)=decide (aM x9.2<aM x1.2.1))∧(((↑x3.1:Int)=(↑x3.1:Int))∧(((↑x5.1:Int)+(1:Int)=(↑x9.1:Int))∧(x5.2=x9.2))))))))))))))))))))))))))))) ((ab ((↑x3.1:Int)+(1:Int)))∧(∃x10:Nat×List Int,(((x10.1≤t.length)∧((x1.2.2=true)∧((KOk (t.length) (A.length) (x10.2))∧((fw t A x1.2.1 (x10.1)=Option.some (x10.2))∧(aM (x10.2)≤aM x1.2.1)))))∧((t.length - x10.1<t.length - x3.1)∧((t=t)∧((A=A)∧((decide (aM x5.2<aM x1.2.1)=decide (aM x10.2<aM x1.2.1))∧(((↑x3.1:Int)+(1:Int)=(↑x10.1:Int))∧(x5.2=x10.2))))))))))))) (∃x11:Nat×List Int×Bool,(((KOk (t.length) (A.length) (x11.2.1))∧((x11.2.2=true→aM (x11.2.1)<x11.1∧eT t A K=gn t A (x11.1) (x11.2.1))∧(x11.2.2=false→eT t A K=Option.some (x11.2.1)))) ∧
 ((((2:Nat) * x11.1+if x11.2.2=true then (1:Nat) else (0:Nat))<(2:Nat) * x1.1+if x1.2.2=true then (1:Nat) else (0:Nat))∧((t=t)∧((A=A)∧((decide (aM x3.2<aM x1.2.1)=x11.2.2)∧(x3.2=x11.2.1))))))))))) (((x1.2.1=(d9 t A K).1)∧((true=(d9 t A K).2)∧True))∧True))))))
theorem NV (t:List (List Int)) (A:List (List Int)) (K:List Int):aC Tryz.prog (af Gi) ah (Gh t A K) Tryz.f227 (aE Tryz.f227) [] [.c (.rows .i64 (t)),.c (.rows .i64 (A)),.c (.ints .i64 (K))] (ry t A K)=xY t A K:=by kernel_rfl
theorem NW (t:List (List Int)) (A:List (List Int)) (K:List Int) (Yh:(ry t A K).pre):xY t A K:=by
 simp only [ry,xY,lL,aG,u1,u2,u3,u4,u5,u6,u7,u8,u9,v1,v2,v3,v4,v5,v6,v7,v8,v9,w1,w2,w3,w4,aH,aa,ab,ae,ar] at Yh ⊢;obtain ⟨h1,h2,h3,h4,h5⟩:=Yh;have kl:=h5.len
 have ng:=Or K
 refine ⟨by omega,⟨⟨t.length+1,K,true⟩,⟨h5,fun _=>⟨by dsimp only;omega,rfl⟩,fun h=>by cases h⟩,rfl,rfl⟩,fun ⟨fu,o,g⟩ ⟨o1,o2,o3⟩=>?_⟩
 dsimp only at o1 o2 o3 ⊢;refine ⟨fun hg=>?_,fun hg=>?_⟩
 ·subst hg
  obtain ⟨o2,o4⟩:=o2 rfl;obtain ⟨fu,rfl⟩:∃m,fu=m+1:=⟨fu - 1,by omega⟩
  refine ⟨⟨⟨0,o⟩,⟨Nat.zero_le _,rfl,o1,rfl,Nat.le_refl _⟩,(decide_eq_false (Nat.lt_irrefl _)).symm,rfl,rfl⟩,fun ⟨i,c⟩ ⟨c1,_,c2,c3,c4⟩=>?_⟩
  dsimp only at c1 c2 c3 c4 ⊢;refine ⟨fun hi=>⟨⟨⟨0,c⟩,⟨by omega,Nat.zero_le _,c2,rfl,Nat.le_refl _⟩,rfl,rfl,rfl⟩,fun ⟨j,e⟩ ⟨_,e1,e2,e3,e4⟩=>?_⟩,fun hi=>?_⟩
  ·dsimp only at e1 e2 e3 e4 ⊢
   refine ⟨fun hj=>?_,fun hj=>?_⟩
   ·have el:=e2.len
    have ri:=e2.rng i (by omega)
    have rj:=e2.rng j (by omega)
    have same:ia t A e i j=some e→d5 t A c i (j+1)=some e:=fun h=>by rw [d5,e3];exact h
    refine ⟨by omega,fun q=>⟨by omega,⟨j+1,e⟩,⟨by omega,by dsimp only;omega,e2,same (by unfold ia;rw [if_pos (.inl q)]),e4⟩,by dsimp only;omega,rfl,by dsimp only;omega,rfl⟩,fun q=>⟨by omega,fun q2=>⟨by omega,⟨j+1,e⟩,⟨by omega,by dsimp only;omega,e2,same (by unfold ia;rw [if_pos (.inr q2)]),e4⟩,by dsimp only;omega,rfl,by dsimp only;omega,rfl⟩,fun q2=>?_⟩⟩
    have W:=GI h3 e2 (x:=i) (y:=j) (by omega) (by omega) (by omega) (by omega)
    have Z:=GJ h2 h3 e2 (x:=i) (y:=j) (by omega) (by omega) (by omega)
    have Lt:(t.getD i []).length=t.length:=(h2.2 i (by omega)).1
    have La:=h3.len (e.getD i 0).toNat (by omega)
    have Lb:=h3.len (e.getD j 0).toNat (by omega)
    have hw:ic A (bU (A.getD (e.getD j 0).toNat []) (A.getD (e.getD i 0).toNat []))=gm A e i j:=by rw [ic,if_pos W.1];rfl
    have hz:((t.getD i []).getD ((A.getD (e.getD i 0).toNat []).getD j 0).toNat 0).toNat=fO t A e i j:=rfl
    have hq:lO (A.getD (e.getD i 0).toNat []).length (A.getD (e.getD j 0).toNat []):=fun x hx=>by
     have:=h3.rng (e.getD j 0).toNat x (by omega) (by omega)
     rw [La];exact this
    have hA:au A:=⟨by omega,fun r hr=>by
     obtain ⟨x,hx,rfl⟩:=List.getElem_of_mem hr;have:=h3.len x hx
     rw [ce A [] x hx] at this;omega⟩
    have Z1:0≤(A.getD (e.getD i 0).toNat []).getD j 0∧(A.getD (e.getD i 0).toNat []).getD j 0<(t.length:Int):=Z.1
    have Z2:0≤(t.getD i []).getD ((A.getD (e.getD i 0).toNat []).getD j 0).toNat 0∧(t.getD i []).getD ((A.getD (e.getD i 0).toNat []).getD j 0).toNat 0<(t.length:Int):=Z.2.1
    rw [hw,hz];have SS:ia t A e i j=if e.getD (fO t A e i j) 0<0 then some (e.set (fO t A e i j) (gm A e i j)) else if e.getD (fO t A e i j) 0=gm A e i j then some e else none:=by
     conv=>lhs;unfold ia
     rw [if_neg (by omega)]
    have gs:e.getD (fO t A e i j) 0<0→(e.set (fO t A e i j) (gm A e i j)).getD (fO t A e i j) 0=gm A e i j:=fun _=>by
     rw [jS _ _ _ _ (by rw [el];exact Z.2.2),if_pos rfl]
    refine ⟨by omega,by omega,by omega,by omega,by omega,by omega,by omega,by omega,by omega,⟨by omega,hq⟩,hA,by omega,fun z=>⟨by omega,by omega,fun y=>absurd (gs z) y,fun y=>?_⟩,fun z=>⟨by omega,fun y=>?_,fun y=>?_⟩⟩
    ·have N:=rM (K:=e) (z:=fO t A e i j) (w:=gm A e i j) (by rw [el];exact Z.2.2) z W.2.1
     refine ⟨by omega,⟨j+1,e.set (fO t A e i j) (gm A e i j)⟩,⟨by omega,by dsimp only;omega,e2.set _ ⟨by omega,W.2.2⟩,?_,by dsimp only;omega⟩,by dsimp only;omega,?_,by dsimp only;omega,rfl⟩
     ·dsimp only;rw [d5,e3];show ia t A e i j=_;rw [SS,if_pos z]
     ·exact (decide_eq_true (by dsimp only;omega)).symm
    ·rw [NU o4 c3 e3 (by omega) (by omega) (by rw [SS,if_neg z,if_neg y])];exact ⟨rfl,rfl⟩
    ·refine ⟨by omega,⟨j+1,e⟩,⟨by omega,by dsimp only;omega,e2,same (by rw [SS,if_neg z,if_pos y]),e4⟩,by dsimp only;omega,rfl,by dsimp only;omega,rfl⟩
   ·refine ⟨by omega,⟨i+1,e⟩,⟨by dsimp only;omega,rfl,e2,?_,by dsimp only;omega⟩,by dsimp only;omega,rfl,by dsimp only;omega,rfl⟩
    dsimp only;rw [fw,c3]
    show d5 t A c i t.length=_
    rw [show t.length=j by omega];exact e3
  ·have ei:i=t.length:=by omega
   rw [ei] at c3;by_cases q:aM c<aM o
   ·refine ⟨⟨fu,c,true⟩,⟨c2,fun _=>⟨by dsimp only;omega,?_⟩,fun h=>by cases h⟩,?_,decide_eq_true q,rfl⟩
    ·dsimp only;rw [o4,gn,c3];simp only;rw [if_pos q]
    ·dsimp only;first | omega | (simp;done) | (simp;omega)
   ·refine ⟨⟨fu,c,false⟩,⟨c2,fun h=>(by cases h),fun _=>?_⟩,?_,decide_eq_false q,rfl⟩
    ·dsimp only;rw [o4,gn,c3];simp only;rw [if_neg q]
    ·dsimp only;first | omega | (simp;done) | (simp;omega)
 ·rw [d9,o3 hg];exact ⟨rfl,rfl⟩
theorem NX:Fits Tryz.prog 227 ⟨[],xX⟩:=by
 refine aJ (Γ:=af Gi) (aj uG (aj GF (aj OY aF))) Tryz.func227 fun ds p h hp=>?_
 unfold xX at h;split at h
 ·cases h
  exact ⟨ah,Gh _ _ _ ,by rw [NV];exact NW _ _ _  hp⟩
 ·cases h
end Go.Sx
