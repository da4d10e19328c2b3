/- Lists -/
import Derived.Test.YtkmldclpaniclaaGreatProg
import Derived.Test.YtkmldclpaniclaaGreatSxZ
import Derived.KernelRfl
open Go Go.Proofs
namespace Go.Sx
set_option linter.unusedSimpArgs false
set_option linter.unusedVariables false
def rp(l:List Int):Post:=⟨ag l.length,.c (.ints 2 .i64 l),[]⟩
def xw:List AD->Option Post
 | [.c (.ints .i64 l)]=>some (rp l)
 |_=>none
def E8(l:List Int):Nat->Option Ann
 |0=>some (Ann.mk ((Nat)) (fun i=>⟨[(0,.c (.ro (.ints .i64 l))),(4,.c (.int .i64 ((i:Int)))),(3,.c (.own 1))],[(1,some (.ints 2 .i64 (l.take i++List.replicate (l.length-i) 0)))]⟩) (fun i=>i<=l.length) (fun i=>l.length-i) (fun _=>ar))
 |_=>none
def E9:List (Nat×Ctr):=[]
def xx(l:List Int):Prop :=
 ((0:Int)<=(l.length:Int)/\(l.length:Int)<=(l.length:Int)/\ag ((l.length:Int).toNat))/\(∃x0:Nat,x0<=l.length/\l=l/\(0:Int)=(x0:Int)/\List.replicate ((l.length:Int).toNat) (0:Int)=List.take x0 l++List.replicate (l.length-x0) (0:Int))/\∀x1:Nat,x1<=l.length->af (decide ((x1:Int)<(l.length:Int))) (ab (x1:Int) l.length/\ab (x1:Int) ((List.take x1 l++List.replicate (l.length-x1) (0:Int)).length)/\ae ((x1:Int)+(1:Int))/\∃x2:Nat,x2<=l.length/\l.length-x2<l.length-x1/\l=l/\(x1:Int)+(1:Int)=(x2:Int)/\List.set (List.take x1 l++List.replicate (l.length-x1) (0:Int)) (x1:Int).toNat (l.getD (x1:Int).toNat (0:Int))=List.take x2 l++List.replicate (l.length-x2) (0:Int)) (List.take x1 l++List.replicate (l.length-x1) (0:Int)=l/\True)
theorem NI(l:List Int):aP Tryz.prog (ai E9) aj (E8 l) Tryz.f97 (aF Tryz.f97) [] [.c (.ints .i64 l)] (rp l)=xx l:=by kernel_rfl
theorem NJ(l:List Int)(Yh:(rp l).pre):xx l:=by
 simp only[rp,xx,aK,u1,u2,u3,u4,u5,u6,u7,u8,u9,v1,v2,v3,v4,v5,v6,v7,v8,v9,w1,w2,w3,w4,aC,ab,ae,ag,av]at Yh⊢;exact⟨by omega,⟨0,by omega,by simp,by simp⟩,fun i hi=>⟨fun h=>⟨by omega,by omega,by omega,i+1,by omega,by omega,by omega,po l 0 0 i (by omega)⟩,fun h=>Cz l 0 i (by omega)⟩⟩
theorem NK:Fits Tryz.prog 97 ⟨[],xw⟩:=by
 refine aW (Γ:=ai E9) aJ Tryz.func97 fun ds p h hp=>?_
 unfold xw at h;split at h
 ·cases h
  exact⟨aj,E8 _ ,by rw[NI];exact NJ _  hp⟩
 ·cases h
def rq(a:List Int)(b:List Int):Post:=⟨ag a.length,.c (.bool (decide (a=b))),[]⟩
def xy:List AD->Option Post
 | [.c (.ints .i64 a),.c (.ints .i64 b)]=>some (rq a b)
 |_=>none
def Fa(a:List Int)(b:List Int):Nat->Option Ann
 |0=>some (Ann.mk ((Nat)) (fun i=>⟨[(0,.c (.ro (.ints .i64 a))),(1,.c (.ro (.ints .i64 b))),(5,.c (.int .i64 ((i:Int))))],[]⟩) (fun i=>i<=a.length/\a.length=b.length/\a.take i=b.take i) (fun i=>a.length-i) (fun _=>ar))
 |_=>none
def Fb:List (Nat×Ctr):=[]
def xz(a:List Int)(b:List Int):Prop :=
 af ((a.length:Int) != (b.length:Int)) (false=decide (a=b)/\True) ((∃x0:Nat,(x0<=a.length/\a.length=b.length/\List.take x0 a=List.take x0 b)/\a=a/\b=b/\(0:Int)=(x0:Int))/\∀x1:Nat,x1<=a.length/\a.length=b.length/\List.take x1 a=List.take x1 b->af (decide ((x1:Int)<(a.length:Int))) (ab (x1:Int) a.length/\ab (x1:Int) b.length/\af (a.getD (x1:Int).toNat (0:Int) != b.getD (x1:Int).toNat (0:Int)) (false=decide (a=b)/\True) (ae ((x1:Int)+(1:Int))/\∃x2:Nat,(x2<=a.length/\a.length=b.length/\List.take x2 a=List.take x2 b)/\a.length-x2<a.length-x1/\a=a/\b=b/\(x1:Int)+(1:Int)=(x2:Int))) (true=decide (a=b)/\True))
theorem NM(a:List Int)(b:List Int):aP Tryz.prog (ai Fb) aj (Fa a b) Tryz.f104 (aF Tryz.f104) [] [.c (.ints .i64 a),.c (.ints .i64 b)] (rq a b)=xz a b:=by kernel_rfl
theorem NN(a:List Int)(b:List Int)(Yh:(rq a b).pre):xz a b:=by
 simp only[rq,xz,aK,u1,u2,u3,u4,u5,u6,u7,u8,u9,v1,v2,v3,v4,v5,v6,v7,v8,v9,w1,w2,w3,w4,aC,ab,ae,ag,av]at Yh⊢;refine⟨fun h=>?_,fun h=>⟨⟨0,⟨by omega,by omega,rfl⟩,by simp⟩,fun i hi=>⟨fun h1=>⟨by omega,by omega,fun h2=>?_,fun h2=>⟨by omega,i+1,⟨by omega,hi.2.1,?_⟩,by omega,by omega⟩⟩,fun h1=>?_⟩⟩⟩
 ·exact(decide_eq_false fun e=>h (by rw[e])).symm
 ·exact(decide_eq_false fun e=>h2 (by rw[e])).symm
 ·exact(pq a b 0 i (by omega) (by omega) hi.2.2).2 h2
 ·refine(decide_eq_true ?_).symm
  have:=hi.2.2
  rwa[List.take_of_length_le (by omega),List.take_of_length_le (by omega)]at this
theorem NO:Fits Tryz.prog 104 ⟨[],xy⟩:=by
 refine aW (Γ:=ai Fb) aJ Tryz.func104 fun ds p h hp=>?_
 unfold xy at h;split at h
 ·cases h
  exact⟨aj,Fa _ _ ,by rw[NM];exact NN _ _  hp⟩
 ·cases h
def rt(l:List Int)(k:Int):Post:=⟨ag l.length/\0<=k/\k<=1099511627776,.c (.int .i64 (k+(l.length:Int))),[.ints 2 .i64 (bU k l.length)]⟩
def xA:List AD->Option Post
 | [.c (.ints .i64 l),.c (.int .i64 k)]=>some (rt l k)
 |_=>none
def Fc(l:List Int)(k:Int):Nat->Option Ann
 |0=>some (Ann.mk ((Nat)) (fun i=>⟨[(0,.c (.own 700)),(1,.c (.int .i64 (k+(i:Int)))),(5,.c (.int .i64 ((i:Int))))],[(700,some (.ints 2 .i64 ((bU k l.length).take i++l.drop i)))]⟩) (fun i=>i<=l.length) (fun i=>l.length-i) (fun _=>ar))
 |_=>none
def Fd:List (Nat×Ctr):=[]
def xB(l:List Int)(k:Int):Prop :=
 (∃x0:Nat,x0<=l.length/\k=k+(x0:Int)/\(0:Int)=(x0:Int)/\l=List.take x0 (bU k l.length)++List.drop x0 l)/\∀x1:Nat,x1<=l.length->af (decide ((x1:Int)<(↑((List.take x1 (bU k l.length)++List.drop x1 l).length):Int))) (ab (x1:Int) ((List.take x1 (bU k l.length)++List.drop x1 l).length)/\ae (k+(x1:Int)+(1:Int))/\ae ((x1:Int)+(1:Int))/\∃x2:Nat,x2<=l.length/\l.length-x2<l.length-x1/\k+(x1:Int)+(1:Int)=k+(x2:Int)/\(x1:Int)+(1:Int)=(x2:Int)/\List.set (List.take x1 (bU k l.length)++List.drop x1 l) (x1:Int).toNat (k+(x1:Int))=List.take x2 (bU k l.length)++List.drop x2 l) (k+(x1:Int)=k+(l.length:Int)/\List.take x1 (bU k l.length)++List.drop x1 l=bU k l.length/\True)
theorem NP(l:List Int)(k:Int):aP Tryz.prog (ai Fd) aj (Fc l k) Tryz.f105 (aF Tryz.f105) [(0,0)] [.c (.ints .i64 l),.c (.int .i64 k)] (rt l k)=xB l k:=by kernel_rfl
theorem NQ(l:List Int)(k:Int)(Yh:(rt l k).pre):xB l k:=by
 simp only[rt,xB,aK,u1,u2,u3,u4,u5,u6,u7,u8,u9,v1,v2,v3,v4,v5,v6,v7,v8,v9,w1,w2,w3,w4,aC,ab,ae,ag,av]at Yh⊢;obtain⟨h1,h2,h3⟩:=Yh;refine⟨⟨0,by omega,by simp⟩,fun i hi=>⟨fun h=>⟨by omega,by omega,by omega,i+1,by omega,by omega,by omega,by omega,?_⟩,fun h=>⟨?_,?_⟩⟩⟩
 ·rw[<-Kc (bU k l.length) l 0 i (aC _ _) (by omega),uU _ _ _ (by omega)]
 ·omega
 ·rw[List.take_of_length_le (by rw[aC];omega),List.drop_of_length_le (by omega),List.append_nil]
theorem NR:Fits Tryz.prog 105 ⟨[(0,0)],xA⟩:=by
 refine aW (Γ:=ai Fd) aJ Tryz.func105 fun ds p h hp=>?_
 unfold xA at h;split at h
 ·cases h
  exact⟨aj,Fc _ _ ,by rw[NP];exact NQ _ _  hp⟩
 ·cases h
def rx(l:List Int)(k:Int):Post:=⟨ag l.length/\0<=k/\k<=1099511627776,.c (.int .i64 (if l=bU k l.length then k+(l.length:Int)else -1)),[]⟩
def xC:List AD->Option Post
 | [.c (.ints .i64 l),.c (.int .i64 k)]=>some (rx l k)
 |_=>none
def Fe(l:List Int)(k:Int):Nat->Option Ann
 |0=>some (Ann.mk ((Nat)) (fun i=>⟨[(0,.c (.ro (.ints .i64 l))),(1,.c (.int .i64 (k+(i:Int)))),(5,.c (.int .i64 ((i:Int))))],[]⟩) (fun i=>i<=l.length/\l.take i=(bU k l.length).take i) (fun i=>l.length-i) (fun _=>ar))
 |_=>none
def Ff:List (Nat×Ctr):=[]
def xD(l:List Int)(k:Int):Prop :=
 (∃x0:Nat,(x0<=l.length/\List.take x0 l=List.take x0 (bU k l.length))/\l=l/\k=k+(x0:Int)/\(0:Int)=(x0:Int))/\∀x1:Nat,x1<=l.length/\List.take x1 l=List.take x1 (bU k l.length)->af (decide ((x1:Int)<(l.length:Int))) (ab (x1:Int) l.length/\af (l.getD (x1:Int).toNat (0:Int) != k+(x1:Int)) (((-1:Int)=if l=bU k (l.length)then k+(l.length:Int)else(-1:Int))/\True) (ae (k+(x1:Int)+(1:Int))/\ae ((x1:Int)+(1:Int))/\∃x2:Nat,(x2<=l.length/\List.take x2 l=List.take x2 (bU k l.length))/\l.length-x2<l.length-x1/\l=l/\k+(x1:Int)+(1:Int)=k+(x2:Int)/\(x1:Int)+(1:Int)=(x2:Int))) ((k+(x1:Int)=if l=bU k (l.length)then k+(l.length:Int)else(-1:Int))/\True)
theorem NS(l:List Int)(k:Int):aP Tryz.prog (ai Ff) aj (Fe l k) Tryz.f106 (aF Tryz.f106) [] [.c (.ints .i64 l),.c (.int .i64 k)] (rx l k)=xD l k:=by kernel_rfl
theorem NT(l:List Int)(k:Int)(Yh:(rx l k).pre):xD l k:=by
 simp only[rx,xD,aK,u1,u2,u3,u4,u5,u6,u7,u8,u9,v1,v2,v3,v4,v5,v6,v7,v8,v9,w1,w2,w3,w4,aC,ab,ae,ag,av]at Yh⊢;obtain⟨h1,h2,h3⟩:=Yh;refine⟨⟨0,⟨by omega,rfl⟩,by simp⟩,fun i hi=>⟨fun h=>⟨by omega,fun h4=>?_,fun h4=>⟨by omega,by omega,i+1,⟨by omega,?_⟩,by omega,by omega,by omega⟩⟩,fun h=>?_⟩⟩
 ·rw[if_neg]
  intro e
  rw[e,uU _ _ _ (by omega)]at h4
  exact h4 rfl
 ·rw[pq l (bU k l.length) 0 i (by omega) (by rw[aC];omega) hi.2,uU _ _ _ (by omega),h4]
 ·have:=hi.2
  rw[List.take_of_length_le (by omega),List.take_of_length_le (by rw[aC];omega)]at this
  rw[if_pos this];omega
theorem NU:Fits Tryz.prog 106 ⟨[],xC⟩:=by
 refine aW (Γ:=ai Ff) aJ Tryz.func106 fun ds p h hp=>?_
 unfold xC at h;split at h
 ·cases h
  exact⟨aj,Fe _ _ ,by rw[NS];exact NT _ _  hp⟩
 ·cases h
def ry(l:List Int)(k:Int):Post:=⟨(l.length:Int)<=9223372036854775807/\0<=k/\k<=1099511627776,.c (.int .i64 (if k<(l.length:Int)then -1 else k-(l.length:Int))),[]⟩
def xE:List AD->Option Post
 | [.c (.ints .i64 l),.c (.int .i64 k)]=>some (ry l k)
 |_=>none
def Fg:List (Nat×Ctr):=[]
def xF(l:List Int)(k:Int):Prop :=
 ae (k-(l.length:Int))/\af (decide (k-(l.length:Int)<(0:Int))) (((-1:Int)=if k<(l.length:Int)then(-1:Int)else k-(l.length:Int))/\True) ((k-(l.length:Int)=if k<(l.length:Int)then(-1:Int)else k-(l.length:Int))/\True)
theorem NV(l:List Int)(k:Int):aP Tryz.prog (ai Fg) aj ar Tryz.f93 (aF Tryz.f93) [] [.c (.ints .i64 l),.c (.int .i64 k)] (ry l k)=xF l k:=by kernel_rfl
theorem NW(l:List Int)(k:Int)(Yh:(ry l k).pre):xF l k:=by
 simp only[ry,xF,aK,u1,u2,u3,u4,u5,u6,u7,u8,u9,v1,v2,v3,v4,v5,v6,v7,v8,v9,w1,w2,w3,w4,aC,ab,ae,ag,av]at Yh⊢;obtain⟨h1,h2,h3⟩:=Yh;refine⟨by omega,fun h=>?_,fun h=>?_⟩
 ·rw[if_pos (by omega)]
 ·rw[if_neg (by omega)]
theorem NX:Fits Tryz.prog 93 ⟨[],xE⟩:=by
 refine aW (Γ:=ai Fg) aJ Tryz.func93 fun ds p h hp=>?_
 unfold xE at h;split at h
 ·cases h
  exact⟨aj,ar,by rw[NV];exact NW _ _  hp⟩
 ·cases h
def rz(n:Int)(a:Int)(b:Int):Post:=⟨True,.c (.bool (decide (a<=n/\n<=b))),[]⟩
def nV:List AD->Option Post
 | [.c (.int .i64 n),.c (.int .i64 a),.c (.int .i64 b)]=>some (rz n a b)
 |_=>none
def Fh:List (Nat×Ctr):=[]
def xG(n:Int)(a:Int)(b:Int):Prop :=
 af (decide (a<=n)) (decide (n<=b)=decide (a<=n/\n<=b)/\True) (false=decide (a<=n/\n<=b)/\True)
theorem NY(n:Int)(a:Int)(b:Int):aP Tryz.prog (ai Fh) aj ar Tryz.f73 (aF Tryz.f73) [] [.c (.int .i64 n),.c (.int .i64 a),.c (.int .i64 b)] (rz n a b)=xG n a b:=by kernel_rfl
theorem NZ(n:Int)(a:Int)(b:Int)(Yh:(rz n a b).pre):xG n a b:=by
 simp only[rz,xG,aK,u1,u2,u3,u4,u5,u6,u7,u8,u9,v1,v2,v3,v4,v5,v6,v7,v8,v9,w1,w2,w3,w4,aC,ab,ae,ag,av]at Yh⊢;refine⟨fun h=>?_,fun h=>?_⟩
 ·simp[h]
 ·simp[h]
theorem xH:Fits Tryz.prog 73 ⟨[],nV⟩:=by
 refine aW (Γ:=ai Fh) aJ Tryz.func73 fun ds p h hp=>?_
 unfold nV at h;split at h
 ·cases h
  exact⟨aj,ar,by rw[NY];exact NZ _ _ _  hp⟩
 ·cases h
def rA(n:Int)(a:Int)(b:Int):Post:=⟨True,.c (.bool (decide (a<=n/\n<=b))),[]⟩
def rB:List AD->Option Post
 | [.c (.int .i64 n),.c (.int .i64 a),.c (.int .i64 b)]=>some (rA n a b)
 |_=>none
def Fi:List (Nat×Ctr):=[]
def xI(n:Int)(a:Int)(b:Int):Prop :=
 af (decide (a<=n)) (decide (n<=b)=decide (a<=n/\n<=b)/\True) (false=decide (a<=n/\n<=b)/\True)
theorem N0(n:Int)(a:Int)(b:Int):aP Tryz.prog (ai Fi) aj ar Tryz.f71 (aF Tryz.f71) [] [.c (.int .i64 n),.c (.int .i64 a),.c (.int .i64 b)] (rA n a b)=xI n a b:=by kernel_rfl
theorem N1(n:Int)(a:Int)(b:Int)(Yh:(rA n a b).pre):xI n a b:=by
 simp only[rA,xI,aK,u1,u2,u3,u4,u5,u6,u7,u8,u9,v1,v2,v3,v4,v5,v6,v7,v8,v9,w1,w2,w3,w4,aC,ab,ae,ag,av]at Yh⊢;refine⟨fun h=>?_,fun h=>?_⟩
 ·simp[h]
 ·simp[h]
theorem Fj:Fits Tryz.prog 71 ⟨[],rB⟩:=by
 refine aW (Γ:=ai Fi) aJ Tryz.func71 fun ds p h hp=>?_
 unfold rB at h;split at h
 ·cases h
  exact⟨aj,ar,by rw[N0];exact N1 _ _ _  hp⟩
 ·cases h
def du(lo hi:Int)(l:List Int):Bool:=l.all fun x=>decide (lo<=x/\x<=hi)
theorem Fk(lo hi:Int)(l:List Int)(i:Nat)(h:i<l.length):du lo hi (l.drop i)=(decide (lo<=l.getD i 0/\l.getD i 0<=hi)&&du lo hi (l.drop (i+1))):=by
 rw[drop_cons' l 0 i h];rfl
theorem N2{lo hi:Int}{l:List Int}(h:du lo hi l=true)(i:Nat)(hi':i<l.length):lo<=l.getD i 0/\l.getD i 0<=hi:=by
 rw[bD l 0 i hi'];have:=List.all_eq_true.1 h _ (List.getElem_mem hi')
 simpa using this
def rC(l:List Int)(a:Int)(b:Int):Post:=⟨ag l.length,.c (.bool (du a b l)),[]⟩
def xJ:List AD->Option Post
 | [.c (.ints .i64 l),.c (.int .i64 a),.c (.int .i64 b)]=>some (rC l a b)
 |_=>none
def Fl(l:List Int)(a:Int)(b:Int):Nat->Option Ann
 |0=>some (Ann.mk ((Nat)) (fun i=>⟨[(1,.c (.int .i64 a)),(2,.c (.int .i64 b)),(9,.c (.ro (.ints .i64 l))),(10,.c (.int .i64 ((l.length:Int)))),(11,.c (.int .i64 ((i:Int))))],[]⟩) (fun i=>i<=l.length/\du a b l=du a b (l.drop i)) (fun i=>l.length-i) (fun _=>ar))
 |_=>none
def Fm:List (Nat×Ctr):=[(73,⟨[],nV⟩)]
def xK(l:List Int)(a:Int)(b:Int):Prop :=
 (∃x0:Nat,(x0<=l.length/\du a b l=du a b (List.drop x0 l))/\a=a/\b=b/\l=l/\(l.length:Int)=(l.length:Int)/\(0:Int)=(x0:Int))/\∀x1:Nat,x1<=l.length/\du a b l=du a b (List.drop x1 l)->af (decide ((x1:Int)<(l.length:Int))) (ab (x1:Int) l.length/\(True/\True)/\af (!decide (a<=l.getD (x1:Int).toNat (0:Int)/\l.getD (x1:Int).toNat (0:Int)<=b)) (false=du a b l/\True) (ae ((x1:Int)+(1:Int))/\∃x2:Nat,(x2<=l.length/\du a b l=du a b (List.drop x2 l))/\l.length-x2<l.length-x1/\a=a/\b=b/\l=l/\(l.length:Int)=(l.length:Int)/\(x1:Int)+(1:Int)=(x2:Int))) (true=du a b l/\True)
theorem N3(l:List Int)(a:Int)(b:Int):aP Tryz.prog (ai Fm) aj (Fl l a b) Tryz.f206 (aF Tryz.f206) [] [.c (.ints .i64 l),.c (.int .i64 a),.c (.int .i64 b)] (rC l a b)=xK l a b:=by kernel_rfl
theorem N4(l:List Int)(a:Int)(b:Int)(Yh:(rC l a b).pre):xK l a b:=by
 simp only[rC,xK,aK,u1,u2,u3,u4,u5,u6,u7,u8,u9,v1,v2,v3,v4,v5,v6,v7,v8,v9,w1,w2,w3,w4,aC,ab,ae,ag,av]at Yh⊢;refine⟨⟨0,⟨by omega,rfl⟩,rfl⟩,fun i ⟨hi,he⟩=>⟨fun h=>?_,fun h=>?_⟩⟩
 ·have hd:=Fk a b l i (by omega)
  refine⟨by omega,fun h1=>?_,fun h1=>⟨by omega,i+1,⟨by omega,?_⟩,by omega,by omega⟩⟩
  ·rw[he,hd,decide_eq_false h1];rfl
  ·rw[he,hd,decide_eq_true h1];rfl
 ·rw[he,List.drop_of_length_le (by omega)];rfl
theorem N5:Fits Tryz.prog 206 ⟨[],xJ⟩:=by
 refine aW (Γ:=ai Fm) (az xH aJ) Tryz.func206 fun ds p h hp=>?_
 unfold xJ at h;split at h
 ·cases h
  exact⟨aj,Fl _ _ _ ,by rw[N3];exact N4 _ _ _  hp⟩
 ·cases h
def am(l:List (List Int)):Nat:=(l.map List.length).sum
theorem rD(l:List (List Int))(i:Nat)(h:i<l.length):am (l.take (i+1))=am (l.take i)+(l.getD i []).length:=by
 rw[<-da l [] i h];simp[am]
theorem rE(l:List (List Int))(i:Nat):am (l.take i)<=am l:=by
 have h:am l=am (l.take i)+am (l.drop i):=by
  rw[am,am,am,<-List.sum_append,<-List.map_append,List.take_append_drop]
 omega
theorem rF{l:List (List Int)}{r:List Int}(h:r∈l):r.length<=am l:=by
 induction l with
 |nil=>simp at h
 |cons x l ih =>
  simp only[am,List.map_cons,List.sum_cons]at ih⊢;rcases List.mem_cons.1 h with rfl|h
  ·omega
  ·have:=ih h;omega
def aY(l:List (List Int)):Prop:=l.length<=1099511627776/\∀r∈l,r.length<=1099511627776
theorem xL{l:List (List Int)}(h:aY l)(i:Nat)(hi:i<l.length):(l.getD i []).length<=1099511627776:=h.2 _ (bE l [] i hi)
def rG(l:List (List Int))(k:Int):Post:=⟨(l.length:Int)<=9223372036854775807/\(∀r∈l,(r.length:Int)<=9223372036854775807)/\0<=k/\k<=1099511627776,.c (.int .i64 (if k<(l.length:Int)+(am l:Int)then -1 else k-(l.length:Int)-(am l:Int))),[]⟩
def xM:List AD->Option Post
 | [.c (.rows .i64 l),.c (.int .i64 k)]=>some (rG l k)
 |_=>none
def Fn(l:List (List Int))(k:Int):Nat->Option Ann
 |0=>some (Ann.mk ((Nat)) (fun i=>⟨[(0,.c (.ro (.rows .i64 l))),(1,.c (.int .i64 (k-(l.length:Int)-(am (l.take i):Int)))),(5,.c (.int .i64 ((i:Int))))],[]⟩) (fun i=>i<=l.length/\(l.length:Int)+(am (l.take i):Int)<=k) (fun i=>l.length-i) (fun _=>ar))
 |_=>none
def Fo:List (Nat×Ctr):=[(93,⟨[],xE⟩)]
def xN(l:List (List Int))(k:Int):Prop :=
 (ae (k-(l.length:Int))/\(af (decide (k-(l.length:Int)<(0:Int))) (((-1:Int)=if k<(l.length:Int)+(am l:Int)then(-1:Int)else k-(l.length:Int)-(am l:Int))/\True) ((∃x0:Nat,(x0<=l.length/\(l.length:Int)+(↑(am (List.take x0 l)):Int)<=k)/\l=l/\k-(l.length:Int)=k-(l.length:Int)-(↑(am (List.take x0 l)):Int)/\(0:Int)=(x0:Int))/\(∀x1:Nat,(x1<=l.length/\(l.length:Int)+(↑(am (List.take x1 l)):Int)<=k->(af (decide ((x1:Int)<(l.length:Int))) (ab (x1:Int) l.length/\((((↑((l.getD (x1:Int).toNat []).length):Int)<=(9223372036854775807:Int)/\(0:Int)<=k-(l.length:Int)-(↑(am (List.take x1 l)):Int)/\k-(l.length:Int)-(↑(am (List.take x1 l)):Int)<=(1099511627776:Int))/\True)/\(af (decide ((if k-(l.length:Int)-(↑(am (List.take x1 l)):Int)<(↑((l.getD (x1:Int).toNat []).length):Int)then(-1:Int)else k-(l.length:Int)-(↑(am (List.take x1 l)):Int)-(↑((l.getD (x1:Int).toNat []).length):Int))<(0:Int))) (((-1:Int)=if k<(l.length:Int)+(am l:Int)then(-1:Int)else k-(l.length:Int)-(am l:Int))/\True) (ae ((x1:Int)+(1:Int))/\(∃x2:Nat,((x2<=l.length/\(l.length:Int)+(↑(am (List.take x2 l)):Int)<=k)/\(l.length-x2<l.length-x1/\((l=l) /\
 (((if k-(l.length:Int)-(↑(am (List.take x1 l)):Int)<(↑((l.getD (x1:Int).toNat []).length):Int)then(-1:Int)else k-(l.length:Int)-(↑(am (List.take x1 l)):Int)-(↑((l.getD (x1:Int).toNat []).length):Int))=k-(l.length:Int)-(↑(am (List.take x2 l)):Int))/\((x1:Int)+(1:Int)=(x2:Int))))))))))) ((k-(l.length:Int)-(↑(am (List.take x1 l)):Int)=if k<(l.length:Int)+(am l:Int)then(-1:Int)else k-(l.length:Int)-(am l:Int))/\True)))))))
theorem N6(l:List (List Int))(k:Int):aP Tryz.prog (ai Fo) aj (Fn l k) Tryz.f49 (aF Tryz.f49) [] [.c (.rows .i64 l),.c (.int .i64 k)] (rG l k)=xN l k:=by kernel_rfl
theorem N7(l:List (List Int))(k:Int)(Yh:(rG l k).pre):xN l k:=by
 simp only[rG,xN,aK,u1,u2,u3,u4,u5,u6,u7,u8,u9,v1,v2,v3,v4,v5,v6,v7,v8,v9,w1,w2,w3,w4,aC,ab,ae,ag,av]at Yh⊢;obtain⟨h1,h2,h3,h4⟩:=Yh;refine⟨by omega,fun h=>by rw[if_pos (by omega)],fun h=>⟨⟨0,⟨by omega,by simp[am];omega⟩,by simp[am],rfl⟩,fun i ⟨hi,he⟩=>⟨fun h=>?_,fun h=>?_⟩⟩⟩
 ·have q1:=h2 _ (bE l [] i (by omega))
  have q2:=rD l i (by omega)
  have q3:=rE l (i+1)
  refine⟨by omega,by omega,fun h5=>?_,fun h5=>?_⟩
  ·split at h5
   ·rw[if_pos (by omega)]
   ·omega
  ·split at h5
   ·omega
   ·rename_i h6
    rw[if_neg h6];exact⟨by omega,i+1,by omega,by omega,by omega,by omega⟩
 ·rw[List.take_of_length_le (by omega)]at he⊢
  rw[if_neg (by omega)]
theorem N8:Fits Tryz.prog 49 ⟨[],xM⟩:=by
 refine aW (Γ:=ai Fo) (az NX aJ) Tryz.func49 fun ds p h hp=>?_
 unfold xM at h;split at h
 ·cases h
  exact⟨aj,Fn _ _ ,by rw[N6];exact N7 _ _  hp⟩
 ·cases h
def rH(l:List (List Int)):Post:=⟨aY l,.c (.rows 62 2 .i64 l),[]⟩
def xO:List AD->Option Post
 | [.c (.rows .i64 l)]=>some (rH l)
 |_=>none
def Fp(l:List (List Int)):Nat->Option Ann
 |0=>some (Ann.mk ((Nat)) (fun i=>⟨[(0,.c (.ro (.rows .i64 l))),(4,.c (.int .i64 ((i:Int)))),(3,.c (.own 7))],[(7,some (.rows 0 62 2 .i64 (l.take i++List.replicate (l.length-i) [])))]⟩) (fun i=>i<=l.length) (fun i=>l.length-i) (fun _=>ar))
 |_=>none
def Fq:List (Nat×Ctr):=[(97,⟨[],xw⟩)]
def xP(l:List (List Int)):Prop :=
 ((0:Int)<=(l.length:Int)/\(l.length:Int)<=(l.length:Int)/\ag ((l.length:Int).toNat))/\(∃x0:Nat,x0<=l.length/\l=l/\(0:Int)=(x0:Int)/\List.replicate ((l.length:Int).toNat) []=List.take x0 l++List.replicate (l.length-x0) ([]:List Int))/\∀x1:Nat,x1<=l.length->af (decide ((x1:Int)<(l.length:Int))) (ab (x1:Int) l.length/\(ag ((l.getD (x1:Int).toNat []).length)/\True)/\ab (x1:Int) ((List.take x1 l++List.replicate (l.length-x1) ([]:List Int)).length)/\ae ((x1:Int)+(1:Int))/\∃x2:Nat,x2<=l.length/\l.length-x2<l.length-x1/\l=l/\(x1:Int)+(1:Int)=(x2:Int)/\List.set (List.take x1 l++List.replicate (l.length-x1) ([]:List Int)) (x1:Int).toNat (l.getD (x1:Int).toNat [])=List.take x2 l++List.replicate (l.length-x2) ([]:List Int)) (List.take x1 l++List.replicate (l.length-x1) ([]:List Int)=l/\True)
theorem N9(l:List (List Int)):aP Tryz.prog (ai Fq) aj (Fp l) Tryz.f52 (aF Tryz.f52) [] [.c (.rows .i64 l)] (rH l)=xP l:=by kernel_rfl
theorem Oa(l:List (List Int))(Yh:(rH l).pre):xP l:=by
 simp only[rH,xP,aK,u1,u2,u3,u4,u5,u6,u7,u8,u9,v1,v2,v3,v4,v5,v6,v7,v8,v9,w1,w2,w3,w4,aC,ab,ae,ag,av]at Yh⊢;have h1:=Yh.1
 exact⟨by omega,⟨0,by omega,by simp,by simp⟩,fun i hi=>⟨fun h=>⟨by omega,xL Yh i (by omega),by omega,by omega,i+1,by omega,by omega,by omega,po l [] [] i (by omega)⟩,fun h=>Cz l [] i (by omega)⟩⟩
theorem Oc:Fits Tryz.prog 52 ⟨[],xO⟩:=by
 refine aW (Γ:=ai Fq) (az NK aJ) Tryz.func52 fun ds p h hp=>?_
 unfold xO at h;split at h
 ·cases h
  exact⟨aj,Fp _ ,by rw[N9];exact Oa _  hp⟩
 ·cases h
def rI(a:List (List Int))(b:List (List Int)):Post:=⟨aY a,.c (.bool (decide (a=b))),[]⟩
def rJ:List AD->Option Post
 | [.c (.rows .i64 a),.c (.rows .i64 b)]=>some (rI a b)
 |_=>none
def Fr(a:List (List Int))(b:List (List Int)):Nat->Option Ann
 |0=>some (Ann.mk ((Nat)) (fun i=>⟨[(0,.c (.ro (.rows .i64 a))),(1,.c (.ro (.rows .i64 b))),(5,.c (.int .i64 ((i:Int))))],[]⟩) (fun i=>i<=a.length/\a.length=b.length/\a.take i=b.take i) (fun i=>a.length-i) (fun _=>ar))
 |_=>none
def Fs:List (Nat×Ctr):=[(104,⟨[],xy⟩)]
def xQ(a:List (List Int))(b:List (List Int)):Prop :=
 af ((a.length:Int) != (b.length:Int)) (false=decide (a=b)/\True) ((∃x0:Nat,(x0<=a.length/\a.length=b.length/\List.take x0 a=List.take x0 b)/\a=a/\b=b/\(0:Int)=(x0:Int))/\∀x1:Nat,x1<=a.length/\a.length=b.length/\List.take x1 a=List.take x1 b->af (decide ((x1:Int)<(a.length:Int))) (ab (x1:Int) a.length/\ab (x1:Int) b.length/\(ag ((a.getD (x1:Int).toNat []).length)/\True)/\af (!decide (a.getD (x1:Int).toNat []=b.getD (x1:Int).toNat [])) (false=decide (a=b)/\True) (ae ((x1:Int)+(1:Int))/\∃x2:Nat,(x2<=a.length/\a.length=b.length/\List.take x2 a=List.take x2 b)/\a.length-x2<a.length-x1/\a=a/\b=b/\(x1:Int)+(1:Int)=(x2:Int))) (true=decide (a=b)/\True))
theorem Od(a:List (List Int))(b:List (List Int)):aP Tryz.prog (ai Fs) aj (Fr a b) Tryz.f55 (aF Tryz.f55) [] [.c (.rows .i64 a),.c (.rows .i64 b)] (rI a b)=xQ a b:=by kernel_rfl
theorem Oe(a:List (List Int))(b:List (List Int))(Yh:(rI a b).pre):xQ a b:=by
 simp only[rI,xQ,aK,u1,u2,u3,u4,u5,u6,u7,u8,u9,v1,v2,v3,v4,v5,v6,v7,v8,v9,w1,w2,w3,w4,aC,ab,ae,ag,av]at Yh⊢;have h0:=Yh.1
 refine⟨fun h=>?_,fun h=>⟨⟨0,⟨by omega,by omega,rfl⟩,by simp⟩,fun i hi=>⟨fun h1=>⟨by omega,by omega,xL Yh i (by omega),fun h2=>?_,fun h2=>⟨by omega,i+1,⟨by omega,hi.2.1,?_⟩,by omega,by omega⟩⟩,fun h1=>?_⟩⟩⟩
 ·exact(decide_eq_false fun e=>h (by rw[e])).symm
 ·exact(decide_eq_false fun e=>h2 (by rw[e])).symm
 ·exact(pq a b [] i (by omega) (by omega) hi.2.2).2 h2
 ·refine(decide_eq_true ?_).symm
  have:=hi.2.2
  rwa[List.take_of_length_le (by omega),List.take_of_length_le (by omega)]at this
theorem Ft:Fits Tryz.prog 55 ⟨[],rJ⟩:=by
 refine aW (Γ:=ai Fs) (az NO aJ) Tryz.func55 fun ds p h hp=>?_
 unfold rJ at h;split at h
 ·cases h
  exact⟨aj,Fr _ _ ,by rw[Od];exact Oe _ _  hp⟩
 ·cases h
def a8:List (List Int)->Int->List (List Int)
 | [],_=>[]
 |r::l,k=>bU k r.length::a8 l (k+(r.length:Int))
theorem kL:∀(l:List (List Int)) (k:Int),(a8 l k).length=l.length
 | [],_=>rfl
 |r::l,k=>by simp[a8,kL l]
theorem xR:∀(l:List (List Int)) (k:Int),(a8 l k).map List.length=l.map List.length
 | [],_=>rfl
 |r::l,k=>by simp[a8,aC,xR l]
theorem xS:∀(a b:List (List Int)) (k:Int),a8 (a++b) k=a8 a k++a8 b (k+(am a:Int))
 | [],b,k=>by simp[a8,am]
 |r::a,b,k=>by
  simp only[List.cons_append,a8,xS a b,am,List.map_cons,List.sum_cons];rw[show k+((r.length+(a.map List.length).sum:Nat):Int)=k+(r.length:Int)+((a.map List.length).sum:Int) by omega]
theorem rK(l:List (List Int))(k:Int)(i:Nat)(h:i<l.length):a8 (l.take (i+1)) k=a8 (l.take i) k++[bU (k+(am (l.take i):Int)) (l.getD i []).length]:=by
 rw[<-da l [] i h,xS];rfl
theorem Of(l:List (List Int))(k:Int)(i:Nat)(h:i<l.length):(a8 l k).getD i []=bU (k+(am (l.take i):Int)) (l.getD i []).length:=by
 have hl:(a8 (l.take i) k).length=i:=by rw[kL,List.length_take];omega
 conv=>lhs;rw[<-List.take_append_drop (i+1) l]
 rw[xS,rK l k i h,List.append_assoc,getD_append_right' _ _ _ _ (by omega),hl,Nat.sub_self]
 rfl
theorem rL:∀(l:List (List Int)) (k:Int),am (a8 l k)=am l
 | [],_=>rfl
 |r::l,k=>by
  have:=rL l (k+(r.length:Int))
  simp only[am,a8,List.map_cons,List.sum_cons,aC]at this⊢;rw[this]
theorem xT:∀(l:List (List Int)) (k:Int),a8 (a8 l k) k=a8 l k
 | [],_=>rfl
 |r::l,k=>by simp only[a8,aC,xT l]
def rM(l:List (List Int))(k:Int):Post:=⟨l.length<=1048576/\am l<=1048576/\0<=k/\k<=1073741824,.c (.int .i64 (k+(am l:Int))),[.rows 62 2 .i64 (a8 l k)]⟩
def xU:List AD->Option Post
 | [.c (.rows .i64 l),.c (.int .i64 k)]=>some (rM l k)
 |_=>none
def Fu(l:List (List Int))(k:Int):Nat->Option Ann
 |0=>some (Ann.mk ((Nat)) (fun i=>⟨[(0,.c (.own 700)),(1,.c (.int .i64 (k+(am (l.take i):Int)))),(5,.c (.int .i64 ((i:Int))))],[(700,some (.rows 0 62 2 .i64 (a8 (l.take i) k++l.drop i)))]⟩) (fun i=>i<=l.length) (fun i=>l.length-i) (fun _=>ar))
 |_=>none
def Fv:List (Nat×Ctr):=[(105,⟨[(0,0)],xA⟩)]
def mB(l:List (List Int))(k:Int)(x0:Nat):=((a8 (List.take x0 l) k++List.drop x0 l).getD (↑x0:Int).toNat [])
def xV(l:List (List Int))(k:Int):Prop :=
 (∃x0:Nat,x0<=l.length/\k=k+(↑(am (List.take x0 l)):Int)/\(0:Int)=(x0:Int)/\l=a8 (List.take x0 l) k++List.drop x0 l)/\∀x1:Nat,x1<=l.length->af (decide ((x1:Int)<(↑((a8 (List.take x1 l) k++List.drop x1 l).length):Int))) (ab (x1:Int) ((a8 (List.take x1 l) k++List.drop x1 l).length)/\((ag (mB l k x1).length/\(0:Int)<=k+(↑(am (List.take x1 l)):Int)/\k+(↑(am (List.take x1 l)):Int)<=(1099511627776:Int))/\(bU (k+(↑(am (List.take x1 l)):Int)) (mB l k x1).length).length=(mB l k x1).length)/\ae ((x1:Int)+(1:Int))/\∃x2:Nat,x2<=l.length/\l.length-x2<l.length-x1/\k+(↑(am (List.take x1 l)):Int)+(↑((mB l k x1).length):Int)=k+(↑(am (List.take x2 l)):Int)/\(x1:Int)+(1:Int)=(x2:Int)/\List.set (a8 (List.take x1 l) k++List.drop x1 l) (x1:Int).toNat (bU (k+(↑(am (List.take x1 l)):Int)) (mB l k x1).length)=a8 (List.take x2 l) k++List.drop x2 l) (k+(↑(am (List.take x1 l)):Int)=k+(am l:Int)/\a8 (List.take x1 l) k++List.drop x1 l=a8 l k/\True)
theorem Og(l:List (List Int))(k:Int):aP Tryz.prog (ai Fv) aj (Fu l k) Tryz.f56 (aF Tryz.f56) [(0,0)] [.c (.rows .i64 l),.c (.int .i64 k)] (rM l k)=xV l k:=by kernel_rfl
theorem Oh(l:List (List Int))(k:Int)(Yh:(rM l k).pre):xV l k:=by
 simp only[rM,xV,mB,aK,u1,u2,u3,u4,u5,u6,u7,u8,u9,v1,v2,v3,v4,v5,v6,v7,v8,v9,w1,w2,w3,w4,aC,ab,ae,ag,av]at Yh⊢;obtain⟨h1,h2,h3,h4⟩:=Yh;refine⟨⟨0,by omega,by simp[am],rfl,by simp[a8]⟩,fun i hi=>?_⟩
 have hlen:(a8 (l.take i) k).length=i:=by rw[kL,List.length_take];omega
 rw[hlen];refine⟨fun h=>?_,fun h=>?_⟩
 ·have q1:=rD l i (by omega)
  have q2:=rE l (i+1)
  have hg:(a8 (l.take i) k++l.drop i).getD i []=l.getD i []:=by
   rw[getD_append_right' _ _ _ _ (by omega),hlen,pu];simp
  have q3:=rF (bE l [] i (by omega))
  rw[hg];refine⟨by omega,by omega,by omega,i+1,by omega,by omega,by omega,by omega,?_⟩
  rw[rK l k i (by omega),List.set_append_right _ _ (by omega),hlen,Nat.sub_self,drop_cons' l [] i (by omega),List.set_cons_zero]
  simp
 ·rw[List.take_of_length_le (by omega),List.drop_of_length_le (by omega),List.append_nil]
  exact⟨rfl,rfl⟩
theorem Oi:Fits Tryz.prog 56 ⟨[(0,0)],xU⟩:=by
 refine aW (Γ:=ai Fv) (az NR aJ) Tryz.func56 fun ds p h hp=>?_
 unfold xU at h;split at h
 ·cases h
  exact⟨aj,Fu _ _ ,by rw[Og];exact Oh _ _  hp⟩
 ·cases h
def rN(l:List (List Int))(k:Int):Post:=⟨l.length<=1048576/\am l<=1048576/\0<=k/\k<=1073741824,.c (.int .i64 (if l=a8 l k then k+(am l:Int)else -1)),[]⟩
def xW:List AD->Option Post
 | [.c (.rows .i64 l),.c (.int .i64 k)]=>some (rN l k)
 |_=>none
def Fw(l:List (List Int))(k:Int):Nat->Option Ann
 |0=>some (Ann.mk ((Nat)) (fun i=>⟨[(0,.c (.ro (.rows .i64 l))),(1,.c (.int .i64 (k+(am (l.take i):Int)))),(5,.c (.int .i64 ((i:Int))))],[]⟩) (fun i=>i<=l.length/\l.take i=a8 (l.take i) k) (fun i=>l.length-i) (fun _=>ar))
 |_=>none
def Fx:List (Nat×Ctr):=[(106,⟨[],xC⟩)]
def xX(l:List (List Int))(k:Int):Prop :=
 (∃x0:Nat,(x0<=l.length/\List.take x0 l=a8 (List.take x0 l) k)/\l=l/\k=k+(↑(am (List.take x0 l)):Int)/\(0:Int)=(x0:Int))/\∀x1:Nat,x1<=l.length/\List.take x1 l=a8 (List.take x1 l) k->af (decide ((x1:Int)<(l.length:Int))) (ab (x1:Int) l.length/\((ag ((l.getD (x1:Int).toNat []).length)/\(0:Int)<=k+(↑(am (List.take x1 l)):Int)/\k+(↑(am (List.take x1 l)):Int)<=(1099511627776:Int))/\True)/\af (decide ((if l.getD (x1:Int).toNat []=bU (k+(↑(am (List.take x1 l)):Int)) ((l.getD (x1:Int).toNat []).length)then k+(↑(am (List.take x1 l)):Int)+(↑((l.getD (x1:Int).toNat []).length):Int)else(-1:Int))<(0:Int))) (((-1:Int)=if l=a8 l k then k+(am l:Int)else(-1:Int))/\True) (ae ((x1:Int)+(1:Int))/\∃x2:Nat,(x2<=l.length/\List.take x2 l=a8 (List.take x2 l) k)/\l.length-x2<l.length-x1/\l=l/\(if l.getD (x1:Int).toNat []=bU (k+(↑(am (List.take x1 l)):Int)) ((l.getD (x1:Int).toNat []).length)then k+(↑(am (List.take x1 l)):Int)+(↑((l.getD (x1:Int).toNat []).length):Int)else(-1:Int))=k+(↑(am (List.take x2 l)):Int)/\(x1:Int)+(1:Int)=(x2:Int))) ((k+(↑(am (List.take x1 l)):Int)=if l=a8 l k then k+(am l:Int)else(-1:Int))/\True)
theorem Oj(l:List (List Int))(k:Int):aP Tryz.prog (ai Fx) aj (Fw l k) Tryz.f57 (aF Tryz.f57) [] [.c (.rows .i64 l),.c (.int .i64 k)] (rN l k)=xX l k:=by kernel_rfl
theorem Ok(l:List (List Int))(k:Int)(Yh:(rN l k).pre):xX l k:=by
 simp only[rN,xX,aK,u1,u2,u3,u4,u5,u6,u7,u8,u9,v1,v2,v3,v4,v5,v6,v7,v8,v9,w1,w2,w3,w4,aC,ab,ae,ag,av]at Yh⊢;obtain⟨h1,h2,h3,h4⟩:=Yh;refine⟨⟨0,⟨by omega,rfl⟩,by simp[am],rfl⟩,fun i ⟨hi,he⟩=>⟨fun h=>?_,fun h=>?_⟩⟩
 ·have q1:=rD l i (by omega)
  have q2:=rE l (i+1)
  have q3:=rF (bE l [] i (by omega))
  refine⟨by omega,by omega,fun h5=>?_,fun h5=>?_⟩
  ·split at h5
   ·omega
   ·rename_i h6
    rw[if_neg];intro e
    apply h6
    conv=>lhs;rw[e]
    exact Of l k i (by omega)
  ·split at h5
   ·rename_i h6
    refine⟨by omega,i+1,⟨by omega,?_⟩,by omega,?_,by omega⟩
    ·rw[rK l k i (by omega),<-he,<-h6,da _ _ _ (by omega)]
    ·rw[if_pos h6];omega
   ·omega
 ·rw[List.take_of_length_le (by omega)]at he⊢
  rw[if_pos he]
theorem Ol:Fits Tryz.prog 57 ⟨[],xW⟩:=by
 refine aW (Γ:=ai Fx) (az NU aJ) Tryz.func57 fun ds p h hp=>?_
 unfold xW at h;split at h
 ·cases h
  exact⟨aj,Fw _ _ ,by rw[Oj];exact Ok _ _  hp⟩
 ·cases h
theorem Om{t:List (List Int)}{k:Int}(h:¬ (if k<(t.length:Int)+(am t:Int)then(-1:Int)else k-(t.length:Int)-(am t:Int))<0)(hk:k<=1048576:=by omega) :
  t.length<=1048576/\am t<=1048576/\aY t:=by
 split at h
 ·omega
 ·refine⟨by omega,by omega,by omega,fun r hr=>?_⟩
  have:=rF hr
  omega
end Go.Sx
