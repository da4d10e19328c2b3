/- Rack -/
import Derived.Test.YtkmldclpaniclaaGreatProg
import Derived.Test.YtkmldclpaniclaaGreatSxZ
import Derived.KernelRfl
open Go Go.Proofs
namespace Go.Sx
set_option linter.unusedSimpArgs false
set_option linter.unusedVariables false
def rV(a:List Int)(b:List Int):Post:=⟨ah a.length,.c (.bool (decide (a=b))),[]⟩
def yA:List AD->Option Post
 | [.c (.ints .i64 a),.c (.ints .i64 b)]=>some (rV a b)
 |_=>none
def GP(a:List Int)(b:List Int):Nat->Option Ann
 |0=>some (Ann.mk ((Nat)) (fun i=>⟨[(0,.c (.ro (.ints .i64 a))),(1,.c (.ro (.ints .i64 b))),(5,.c (.int .i64 ((i:Int))))],[]⟩) (fun i=>i<=a.length/\a.length=b.length/\a.take i=b.take i) (fun i=>a.length-i) (fun _=>av))
 |_=>none
def GQ:List (Nat×Ctr):=[]
def yB(a:List Int)(b:List Int):Prop :=
 ae ((a.length:Int) != (b.length:Int)) (false=decide (a=b)/\True) ((∃x0:Nat,(x0<=a.length/\a.length=b.length/\List.take x0 a=List.take x0 b)/\a=a/\b=b/\(0:Int)=(x0:Int))/\∀x1:Nat,x1<=a.length/\a.length=b.length/\List.take x1 a=List.take x1 b->ae (decide ((x1:Int)<(a.length:Int))) (ab (x1:Int) a.length/\ab (x1:Int) b.length/\ae (a.getD (x1:Int).toNat (0:Int) != b.getD (x1:Int).toNat (0:Int)) (false=decide (a=b)/\True) (ac ((x1:Int)+(1:Int))/\∃x2:Nat,(x2<=a.length/\a.length=b.length/\List.take x2 a=List.take x2 b)/\a.length-x2<a.length-x1/\a=a/\b=b/\(x1:Int)+(1:Int)=(x2:Int))) (true=decide (a=b)/\True))
theorem OM(a:List Int)(b:List Int):aY Tryz.prog (aj GQ) am (GP a b) Tryz.f104 (aP Tryz.f104) [] [.c (.ints .i64 a),.c (.ints .i64 b)] (rV a b)=yB a b:=by kernel_rfl
theorem ON(a:List Int)(b:List Int)(Yh:(rV a b).pre):yB a b:=by
 simp only[rV,yB,aX,u1,u2,u3,u4,u5,u6,u7,u8,u9,v1,v2,v3,v4,v5,v6,v7,v8,v9,w1,w2,w3,w4,aN,ab,ac,ah,ax]at Yh⊢;refine⟨fun h=>?_,fun h=>⟨⟨0,⟨by omega,by omega,rfl⟩,by simp⟩,fun i hi=>⟨fun h1=>⟨by omega,by omega,fun h2=>?_,fun h2=>⟨by omega,i+1,⟨by omega,hi.2.1,?_⟩,by omega,by omega⟩⟩,fun h1=>?_⟩⟩⟩
 ·exact(decide_eq_false fun e=>h (by rw[e])).symm
 ·exact(decide_eq_false fun e=>h2 (by rw[e])).symm
 ·exact(pF a b 0 i (by omega) (by omega) hi.2.2).2 h2
 ·refine(decide_eq_true ?_).symm
  have:=hi.2.2
  rwa[List.take_of_length_le (by omega),List.take_of_length_le (by omega)]at this
theorem OO:Fits Tryz.prog 104 ⟨[],yA⟩:=by
 refine bf (Γ:=aj GQ) aW Tryz.func104 fun ds p h hp=>?_
 unfold yA at h;split at h
 ·cases h
  exact⟨am,GP _ _ ,by rw[OM];exact ON _ _  hp⟩
 ·cases h
def rW(l:List Int)(k:Int):Post:=⟨ah l.length/\0<=k/\k<=1099511627776,.c (.int .i64 (if l=c7 k l.length then k+(l.length:Int)else -1)),[]⟩
def yC:List AD->Option Post
 | [.c (.ints .i64 l),.c (.int .i64 k)]=>some (rW l k)
 |_=>none
def GR(l:List Int)(k:Int):Nat->Option Ann
 |0=>some (Ann.mk ((Nat)) (fun i=>⟨[(0,.c (.ro (.ints .i64 l))),(1,.c (.int .i64 (k+(i:Int)))),(5,.c (.int .i64 ((i:Int))))],[]⟩) (fun i=>i<=l.length/\l.take i=(c7 k l.length).take i) (fun i=>l.length-i) (fun _=>av))
 |_=>none
def GS:List (Nat×Ctr):=[]
def yD(l:List Int)(k:Int):Prop :=
 (∃x0:Nat,(x0<=l.length/\List.take x0 l=List.take x0 (c7 k l.length))/\l=l/\k=k+(x0:Int)/\(0:Int)=(x0:Int))/\∀x1:Nat,x1<=l.length/\List.take x1 l=List.take x1 (c7 k l.length)->ae (decide ((x1:Int)<(l.length:Int))) (ab (x1:Int) l.length/\ae (l.getD (x1:Int).toNat (0:Int) != k+(x1:Int)) (((-1:Int)=if l=c7 k (l.length)then k+(l.length:Int)else(-1:Int))/\True) (ac (k+(x1:Int)+(1:Int))/\ac ((x1:Int)+(1:Int))/\∃x2:Nat,(x2<=l.length/\List.take x2 l=List.take x2 (c7 k l.length))/\l.length-x2<l.length-x1/\l=l/\k+(x1:Int)+(1:Int)=k+(x2:Int)/\(x1:Int)+(1:Int)=(x2:Int))) ((k+(x1:Int)=if l=c7 k (l.length)then k+(l.length:Int)else(-1:Int))/\True)
theorem OP(l:List Int)(k:Int):aY Tryz.prog (aj GS) am (GR l k) Tryz.f106 (aP Tryz.f106) [] [.c (.ints .i64 l),.c (.int .i64 k)] (rW l k)=yD l k:=by kernel_rfl
theorem OQ(l:List Int)(k:Int)(Yh:(rW l k).pre):yD l k:=by
 simp only[rW,yD,aX,u1,u2,u3,u4,u5,u6,u7,u8,u9,v1,v2,v3,v4,v5,v6,v7,v8,v9,w1,w2,w3,w4,aN,ab,ac,ah,ax]at Yh⊢;obtain⟨h1,h2,h3⟩:=Yh;refine⟨⟨0,⟨by omega,rfl⟩,by simp⟩,fun i hi=>⟨fun h=>⟨by omega,fun h4=>?_,fun h4=>⟨by omega,by omega,i+1,⟨by omega,?_⟩,by omega,by omega,by omega⟩⟩,fun h=>?_⟩⟩
 ·rw[if_neg]
  intro e
  rw[e,Cq _ _ _ (by omega)]at h4
  exact h4 rfl
 ·rw[pF l (c7 k l.length) 0 i (by omega) (by rw[aN];omega) hi.2,Cq _ _ _ (by omega),h4]
 ·have:=hi.2
  rw[List.take_of_length_le (by omega),List.take_of_length_le (by rw[aN];omega)]at this
  rw[if_pos this];omega
theorem OR:Fits Tryz.prog 106 ⟨[],yC⟩:=by
 refine bf (Γ:=aj GS) aW Tryz.func106 fun ds p h hp=>?_
 unfold yC at h;split at h
 ·cases h
  exact⟨am,GR _ _ ,by rw[OP];exact OQ _ _  hp⟩
 ·cases h
def rX(n:Int)(a:Int)(b:Int):Post:=⟨True,.c (.bool (decide (a<=n/\n<=b))),[]⟩
def yE:List AD->Option Post
 | [.c (.int .i64 n),.c (.int .i64 a),.c (.int .i64 b)]=>some (rX n a b)
 |_=>none
def GT:List (Nat×Ctr):=[]
def yF(n:Int)(a:Int)(b:Int):Prop :=
 ae (decide (a<=n)) (decide (n<=b)=decide (a<=n/\n<=b)/\True) (false=decide (a<=n/\n<=b)/\True)
theorem OS(n:Int)(a:Int)(b:Int):aY Tryz.prog (aj GT) am av Tryz.f73 (aP Tryz.f73) [] [.c (.int .i64 n),.c (.int .i64 a),.c (.int .i64 b)] (rX n a b)=yF n a b:=by kernel_rfl
theorem OT(n:Int)(a:Int)(b:Int)(Yh:(rX n a b).pre):yF n a b:=by
 simp only[rX,yF,aX,u1,u2,u3,u4,u5,u6,u7,u8,u9,v1,v2,v3,v4,v5,v6,v7,v8,v9,w1,w2,w3,w4,aN,ab,ac,ah,ax]at Yh⊢;refine⟨fun h=>?_,fun h=>?_⟩
 ·simp[h]
 ·simp[h]
theorem OU:Fits Tryz.prog 73 ⟨[],yE⟩:=by
 refine bf (Γ:=aj GT) aW Tryz.func73 fun ds p h hp=>?_
 unfold yE at h;split at h
 ·cases h
  exact⟨am,av,by rw[OS];exact OT _ _ _  hp⟩
 ·cases h
def rY(n:Int)(a:Int)(b:Int):Post:=⟨True,.c (.bool (decide (a<=n/\n<=b))),[]⟩
def yG:List AD->Option Post
 | [.c (.int .i64 n),.c (.int .i64 a),.c (.int .i64 b)]=>some (rY n a b)
 |_=>none
def GU:List (Nat×Ctr):=[]
def yH(n:Int)(a:Int)(b:Int):Prop :=
 ae (decide (a<=n)) (decide (n<=b)=decide (a<=n/\n<=b)/\True) (false=decide (a<=n/\n<=b)/\True)
theorem OW(n:Int)(a:Int)(b:Int):aY Tryz.prog (aj GU) am av Tryz.f71 (aP Tryz.f71) [] [.c (.int .i64 n),.c (.int .i64 a),.c (.int .i64 b)] (rY n a b)=yH n a b:=by kernel_rfl
theorem OX(n:Int)(a:Int)(b:Int)(Yh:(rY n a b).pre):yH n a b:=by
 simp only[rY,yH,aX,u1,u2,u3,u4,u5,u6,u7,u8,u9,v1,v2,v3,v4,v5,v6,v7,v8,v9,w1,w2,w3,w4,aN,ab,ac,ah,ax]at Yh⊢;refine⟨fun h=>?_,fun h=>?_⟩
 ·simp[h]
 ·simp[h]
theorem OY:Fits Tryz.prog 71 ⟨[],yG⟩:=by
 refine bf (Γ:=aj GU) aW Tryz.func71 fun ds p h hp=>?_
 unfold yG at h;split at h
 ·cases h
  exact⟨am,av,by rw[OW];exact OX _ _ _  hp⟩
 ·cases h
def yI(lo hi:Int)(l:List Int):Bool:=l.all fun x=>decide (lo<=x/\x<=hi)
theorem OZ{lo hi:Int}{l:List Int}(h:yI lo hi l=true)(i:Nat)(hi':i<l.length):lo<=l.getD i 0/\l.getD i 0<=hi:=by
 rw[bG l 0 i hi'];have:=List.all_eq_true.1 h _ (List.getElem_mem hi')
 simpa using this
def aV(l:List (List Int)):Nat:=(l.map List.length).sum
theorem GV(l:List (List Int))(i:Nat)(h:i<l.length):aV (l.take (i+1))=aV (l.take i)+(l.getD i []).length:=by
 rw[<-du l [] i h];simp[aV]
theorem GW(l:List (List Int))(i:Nat):aV (l.take i)<=aV l:=by
 have h:aV l=aV (l.take i)+aV (l.drop i):=by
  rw[aV,aV,aV,<-List.sum_append,<-List.map_append,List.take_append_drop]
 omega
theorem GX{l:List (List Int)}{r:List Int}(h:r∈l):r.length<=aV l:=by
 induction l with
 |nil=>simp at h
 |cons x l ih =>
  simp only[aV,List.map_cons,List.sum_cons]at ih⊢;rcases List.mem_cons.1 h with rfl|h
  ·omega
  ·have:=ih h;omega
def bK(l:List (List Int)):Prop:=l.length<=1099511627776/\∀r∈l,r.length<=1099511627776
theorem GY{l:List (List Int)}(h:bK l)(i:Nat)(hi:i<l.length):(l.getD i []).length<=1099511627776:=h.2 _ (bO l [] i hi)
def rZ(a:List (List Int))(b:List (List Int)):Post:=⟨bK a,.c (.bool (decide (a=b))),[]⟩
def yJ:List AD->Option Post
 | [.c (.rows .i64 a),.c (.rows .i64 b)]=>some (rZ a b)
 |_=>none
def GZ(a:List (List Int))(b:List (List Int)):Nat->Option Ann
 |0=>some (Ann.mk ((Nat)) (fun i=>⟨[(0,.c (.ro (.rows .i64 a))),(1,.c (.ro (.rows .i64 b))),(5,.c (.int .i64 ((i:Int))))],[]⟩) (fun i=>i<=a.length/\a.length=b.length/\a.take i=b.take i) (fun i=>a.length-i) (fun _=>av))
 |_=>none
def G0:List (Nat×Ctr):=[(104,⟨[],yA⟩)]
def yK(a:List (List Int))(b:List (List Int)):Prop :=
 ae ((a.length:Int) != (b.length:Int)) (false=decide (a=b)/\True) ((∃x0:Nat,(x0<=a.length/\a.length=b.length/\List.take x0 a=List.take x0 b)/\a=a/\b=b/\(0:Int)=(x0:Int))/\∀x1:Nat,x1<=a.length/\a.length=b.length/\List.take x1 a=List.take x1 b->ae (decide ((x1:Int)<(a.length:Int))) (ab (x1:Int) a.length/\ab (x1:Int) b.length/\(ah ((a.getD (x1:Int).toNat []).length)/\True)/\ae (!decide (a.getD (x1:Int).toNat []=b.getD (x1:Int).toNat [])) (false=decide (a=b)/\True) (ac ((x1:Int)+(1:Int))/\∃x2:Nat,(x2<=a.length/\a.length=b.length/\List.take x2 a=List.take x2 b)/\a.length-x2<a.length-x1/\a=a/\b=b/\(x1:Int)+(1:Int)=(x2:Int))) (true=decide (a=b)/\True))
theorem O0(a:List (List Int))(b:List (List Int)):aY Tryz.prog (aj G0) am (GZ a b) Tryz.f55 (aP Tryz.f55) [] [.c (.rows .i64 a),.c (.rows .i64 b)] (rZ a b)=yK a b:=by kernel_rfl
theorem O5(a:List (List Int))(b:List (List Int))(Yh:(rZ a b).pre):yK a b:=by
 simp only[rZ,yK,aX,u1,u2,u3,u4,u5,u6,u7,u8,u9,v1,v2,v3,v4,v5,v6,v7,v8,v9,w1,w2,w3,w4,aN,ab,ac,ah,ax]at Yh⊢;have h0:=Yh.1
 refine⟨fun h=>?_,fun h=>⟨⟨0,⟨by omega,by omega,rfl⟩,by simp⟩,fun i hi=>⟨fun h1=>⟨by omega,by omega,GY Yh i (by omega),fun h2=>?_,fun h2=>⟨by omega,i+1,⟨by omega,hi.2.1,?_⟩,by omega,by omega⟩⟩,fun h1=>?_⟩⟩⟩
 ·exact(decide_eq_false fun e=>h (by rw[e])).symm
 ·exact(decide_eq_false fun e=>h2 (by rw[e])).symm
 ·exact(pF a b [] i (by omega) (by omega) hi.2.2).2 h2
 ·refine(decide_eq_true ?_).symm
  have:=hi.2.2
  rwa[List.take_of_length_le (by omega),List.take_of_length_le (by omega)]at this
theorem O6:Fits Tryz.prog 55 ⟨[],yJ⟩:=by
 refine bf (Γ:=aj G0) (aD OO aW) Tryz.func55 fun ds p h hp=>?_
 unfold yJ at h;split at h
 ·cases h
  exact⟨am,GZ _ _ ,by rw[O0];exact O5 _ _  hp⟩
 ·cases h
def bt:List (List Int)->Int->List (List Int)
 | [],_=>[]
 |r::l,k=>c7 k r.length::bt l (k+(r.length:Int))
theorem ou:∀(l:List (List Int)) (k:Int),(bt l k).length=l.length
 | [],_=>rfl
 |r::l,k=>by simp[bt,ou l]
theorem yL:∀(a b:List (List Int)) (k:Int),bt (a++b) k=bt a k++bt b (k+(aV a:Int))
 | [],b,k=>by simp[bt,aV]
 |r::a,b,k=>by
  simp only[List.cons_append,bt,yL a b,aV,List.map_cons,List.sum_cons];rw[show k+((r.length+(a.map List.length).sum:Nat):Int)=k+(r.length:Int)+((a.map List.length).sum:Int) by omega]
theorem yM(l:List (List Int))(k:Int)(i:Nat)(h:i<l.length):bt (l.take (i+1)) k=bt (l.take i) k++[c7 (k+(aV (l.take i):Int)) (l.getD i []).length]:=by
 rw[<-du l [] i h,yL];rfl
theorem O7(l:List (List Int))(k:Int)(i:Nat)(h:i<l.length):(bt l k).getD i []=c7 (k+(aV (l.take i):Int)) (l.getD i []).length:=by
 have hl:(bt (l.take i) k).length=i:=by rw[ou,List.length_take];omega
 conv=>lhs;rw[<-List.take_append_drop (i+1) l]
 rw[yL,yM l k i h,List.append_assoc,getD_append_right' _ _ _ _ (by omega),hl,Nat.sub_self]
 rfl
theorem yN:∀(l:List (List Int)) (k:Int),aV (bt l k)=aV l
 | [],_=>rfl
 |r::l,k=>by
  have:=yN l (k+(r.length:Int))
  simp only[aV,bt,List.map_cons,List.sum_cons,aN]at this⊢;rw[this]
theorem G1:∀(l:List (List Int)) (k:Int),bt (bt l k) k=bt l k
 | [],_=>rfl
 |r::l,k=>by simp only[bt,aN,G1 l]
def sa(l:List (List Int))(k:Int):Post:=⟨l.length<=1048576/\aV l<=1048576/\0<=k/\k<=1073741824,.c (.int .i64 (if l=bt l k then k+(aV l:Int)else -1)),[]⟩
def yO:List AD->Option Post
 | [.c (.rows .i64 l),.c (.int .i64 k)]=>some (sa l k)
 |_=>none
def G2(l:List (List Int))(k:Int):Nat->Option Ann
 |0=>some (Ann.mk ((Nat)) (fun i=>⟨[(0,.c (.ro (.rows .i64 l))),(1,.c (.int .i64 (k+(aV (l.take i):Int)))),(5,.c (.int .i64 ((i:Int))))],[]⟩) (fun i=>i<=l.length/\l.take i=bt (l.take i) k) (fun i=>l.length-i) (fun _=>av))
 |_=>none
def G3:List (Nat×Ctr):=[(106,⟨[],yC⟩)]
def yP(l:List (List Int))(k:Int):Prop :=
 (∃x0:Nat,(x0<=l.length/\List.take x0 l=bt (List.take x0 l) k)/\l=l/\k=k+(↑(aV (List.take x0 l)):Int)/\(0:Int)=(x0:Int))/\∀x1:Nat,x1<=l.length/\List.take x1 l=bt (List.take x1 l) k->ae (decide ((x1:Int)<(l.length:Int))) (ab (x1:Int) l.length/\((ah ((l.getD (x1:Int).toNat []).length)/\(0:Int)<=k+(↑(aV (List.take x1 l)):Int)/\k+(↑(aV (List.take x1 l)):Int)<=(1099511627776:Int))/\True)/\ae (decide ((if l.getD (x1:Int).toNat []=c7 (k+(↑(aV (List.take x1 l)):Int)) ((l.getD (x1:Int).toNat []).length)then k+(↑(aV (List.take x1 l)):Int)+(↑((l.getD (x1:Int).toNat []).length):Int)else(-1:Int))<(0:Int))) (((-1:Int)=if l=bt l k then k+(aV l:Int)else(-1:Int))/\True) (ac ((x1:Int)+(1:Int))/\∃x2:Nat,(x2<=l.length/\List.take x2 l=bt (List.take x2 l) k)/\l.length-x2<l.length-x1/\l=l/\(if l.getD (x1:Int).toNat []=c7 (k+(↑(aV (List.take x1 l)):Int)) ((l.getD (x1:Int).toNat []).length)then k+(↑(aV (List.take x1 l)):Int)+(↑((l.getD (x1:Int).toNat []).length):Int)else(-1:Int))=k+(↑(aV (List.take x2 l)):Int)/\(x1:Int)+(1:Int)=(x2:Int))) ((k+(↑(aV (List.take x1 l)):Int)=if l=bt l k then k+(aV l:Int)else(-1:Int))/\True)
theorem O8(l:List (List Int))(k:Int):aY Tryz.prog (aj G3) am (G2 l k) Tryz.f57 (aP Tryz.f57) [] [.c (.rows .i64 l),.c (.int .i64 k)] (sa l k)=yP l k:=by kernel_rfl
theorem O9(l:List (List Int))(k:Int)(Yh:(sa l k).pre):yP l k:=by
 simp only[sa,yP,aX,u1,u2,u3,u4,u5,u6,u7,u8,u9,v1,v2,v3,v4,v5,v6,v7,v8,v9,w1,w2,w3,w4,aN,ab,ac,ah,ax]at Yh⊢;obtain⟨h1,h2,h3,h4⟩:=Yh;refine⟨⟨0,⟨by omega,rfl⟩,by simp[aV],rfl⟩,fun i ⟨hi,he⟩=>⟨fun h=>?_,fun h=>?_⟩⟩
 ·have q1:=GV l i (by omega)
  have q2:=GW l (i+1)
  have q3:=GX (bO l [] i (by omega))
  refine⟨by omega,by omega,fun h5=>?_,fun h5=>?_⟩
  ·split at h5
   ·omega
   ·rename_i h6
    rw[if_neg];intro e
    apply h6
    conv=>lhs;rw[e]
    exact O7 l k i (by omega)
  ·split at h5
   ·rename_i h6
    refine⟨by omega,i+1,⟨by omega,?_⟩,by omega,?_,by omega⟩
    ·rw[yM l k i (by omega),<-he,<-h6,du _ _ _ (by omega)]
    ·rw[if_pos h6];omega
   ·omega
 ·rw[List.take_of_length_le (by omega)]at he⊢
  rw[if_pos he]
theorem Pa:Fits Tryz.prog 57 ⟨[],yO⟩:=by
 refine bf (Γ:=aj G3) (aD OR aW) Tryz.func57 fun ds p h hp=>?_
 unfold yO at h;split at h
 ·cases h
  exact⟨am,G2 _ _ ,by rw[O8];exact O9 _ _  hp⟩
 ·cases h
theorem Pb{α:Type}{l:List α}(d:α){p:α->Bool}(h:l.all p=true)(i:Nat)(hi:i<l.length):p (l.getD i d)=true :=
 List.all_eq_true.1 h _ (bO l d i hi)
theorem yQ{α:Type}(a b:List α)(r d:α)(i:Nat)(h:a.length=i):(a++r::b).getD i d=r:=by
 rw[getD_append_right' _ _ _ _ (by omega),h,Nat.sub_self];rfl
theorem sb{α:Type}(a b:List α)(r v:α)(i:Nat)(h:a.length=i):(a++r::b).set i v=a++v::b:=by
 rw[List.set_append_right _ _ (by omega),h,Nat.sub_self];rfl
def yR(n:Int)(r:List Int):Bool:=decide ((r.length:Int)=n)&&yI 0 (n-1) r
def g9(t:List (List Int)):Bool:=decide (1<=(t.length:Int)/\(t.length:Int)<=12)&&t.all (yR (t.length:Int))
theorem Pc{n:Int}{r:List Int}(h:yR n r=true):(r.length:Int)=n/\yI 0 (n-1) r=true:=by
 simpa[yR]using h
theorem ow{t:List (List Int)}(h:g9 t=true):1<=t.length/\t.length<=12 /\
  ∀x,x<t.length->(t.getD x []).length=t.length/\∀y,y<t.length->0<=(t.getD x []).getD y 0/\(t.getD x []).getD y 0<=(t.length:Int)-1:=by
 simp only[g9,Bool.and_eq_true,decide_eq_true_eq]at h;refine⟨by omega,by omega,fun x hx=>?_⟩
 obtain⟨h1,h2⟩:=Pc (Pb [] h.2 x hx);exact⟨by omega,fun y hy=>OZ h2 y (by omega)⟩
def bQ(n:Nat)(f:Nat->Nat->Int):List (List Int):=(List.range n).map fun x=>ar n (f x)
theorem mR(n:Nat)(f:Nat->Nat->Int):(bQ n f).length=n:=by simp[bQ]
theorem ox(n:Nat)(f:Nat->Nat->Int)(x:Nat)(h:x<n):(bQ n f).getD x []=ar n (f x):=by
 simp[bQ,List.getD_eq_getElem?_getD,h]
def sc(n:Int)(q:Int->Int->Prop)(p:Int->Int->Int):Post:=⟨0<=n/\n<=144/\(∀x y,0<=x->x<n->0<=y->y<n->q x y),.c (.rows 62 2 .i64 (bQ n.toNat (fun x y=>p (x:Int) (y:Int)))),[]⟩
def lh:List AD->Option Post
 | [.c (.int .i64 n),.fv (.iii q p)]=>some (sc n q p)
 |_=>none
def G4(n:Int)(q:Int->Int->Prop)(p:Int->Int->Int):Nat->Option Ann
 |0=>some (Ann.mk ((Nat)) (fun i=>⟨[(0,.c (.int .i64 n)),(1,.fv (.iii q p)),(5,.c (.own 9)),(11,.c (.int .i64 n)),(12,.c (.int .i64 ((i:Int))))],[(9,some (.rows 0 62 2 .i64 ((bQ n.toNat (fun x y=>p (x:Int) (y:Int))).take i++List.replicate (n.toNat-i) [])))]⟩) (fun i=>(i:Int)<=n) (fun i=>n.toNat-i) (fun i=>fun b_=>match b_ with|2=>some (Ann.mk ((Nat)) (fun j=>⟨[(0,.c (.int .i64 n)),(1,.fv (.iii q p)),(5,.c (.own 9)),(11,.c (.int .i64 n)),(12,.c (.int .i64 ((i:Int)))),(6,.c (.int .i64 ((i:Int)))),(24,.c (.int .i64 n)),(25,.c (.int .i64 ((j:Int))))],[(9,some (.rows 0 62 2 .i64 ((bQ n.toNat (fun x y=>p (x:Int) (y:Int))).take i++((ar n.toNat fun y=>p (i:Int) (y:Int)).take j++List.replicate (n.toNat-j) 0)::List.replicate (n.toNat-(i+1)) [])))]⟩) (fun j=>(j:Int)<=n/\(i:Int)<n) (fun j=>n.toNat-j) (fun _=>av))|_=>none))
 |_=>none
def G5:List (Nat×Ctr):=[]
def yS(n:Int)(q:Int->Int->Prop)(p:Int->Int->Int):Prop :=
 (((0:Int)<=n/\n<=n/\ah n.toNat)/\((∃x0:Nat,(x0:Int)<=n/\n=n/\FV.iii q p=FV.iii q p/\(↑((List.replicate n.toNat ([]:List Int)).length):Int)=n/\(0:Int)=(x0:Int)/\List.replicate n.toNat ([]:List Int)=List.take x0 (bQ n.toNat fun(x y:Nat)=>p (x:Int) (y:Int))++List.replicate (n.toNat-x0) ([]:List Int))/\(∀x1:Nat,((x1:Int)<=n->(ae (decide ((x1:Int)<n)) (((0:Int)<=n/\n<=n/\ah n.toNat)/\(ab (x1:Int) ((List.take x1 (bQ n.toNat fun(x y:Nat)=>p (x:Int) (y:Int))++List.replicate (n.toNat-x1) ([]:List Int)).length)/\(ab (x1:Int) ((List.set (List.take x1 (bQ n.toNat fun(x y:Nat)=>p (x:Int) (y:Int))++List.replicate (n.toNat-x1) ([]:List Int)) (x1:Int).toNat (List.replicate n.toNat (0:Int))).length)/\((∃x2:Nat,(((x2:Int)<=n/\(x1:Int)<n)/\(n=n/\(FV.iii q p=FV.iii q p/\(n=n/\((x1:Int)=(x1:Int)/\((x1:Int)=(x1:Int)/\((↑(((List.set (List.take x1 (bQ n.toNat fun(x y:Nat)=>p (x:Int) (y:Int))++List.replicate (n.toNat-x1) ([]:List Int)) (x1:Int).toNat (List.replicate n.toNat (0:Int))).getD (x1:Int).toNat []).length):Int)=n/\(((0:Int)=(x2:Int)) /\
 (List.set (List.take x1 (bQ n.toNat fun(x y:Nat)=>p (x:Int) (y:Int))++List.replicate (n.toNat-x1) ([]:List Int)) (x1:Int).toNat (List.replicate n.toNat (0:Int))=List.take x1 (bQ n.toNat fun(x y:Nat)=>p (x:Int) (y:Int))++(List.take x2 (ar n.toNat fun(y:Nat)=>p (x1:Int) (y:Int))++List.replicate (n.toNat-x2) (0:Int))::List.replicate (n.toNat-(x1+(1:Nat))) []))))))))))/\(∀x3:Nat,((((x3:Int)<=n)/\((x1:Int)<n))->(ae (decide ((x3:Int)<n)) ((ab (x1:Int) ((List.take x1 (bQ n.toNat fun(x y:Nat)=>p (x:Int) (y:Int))++(List.take x3 (ar n.toNat fun(y:Nat)=>p (x1:Int) (y:Int))++List.replicate (n.toNat-x3) (0:Int))::List.replicate (n.toNat-(x1+(1:Nat))) []).length))/\((q (x1:Int) (x3:Int))/\((ab (x3:Int) (((List.take x1 (bQ n.toNat fun(x y:Nat)=>p (x:Int) (y:Int))++(List.take x3 (ar n.toNat fun(y:Nat)=>p (x1:Int) (y:Int))++List.replicate (n.toNat-x3) (0:Int))::List.replicate (n.toNat-(x1+(1:Nat))) []).getD (x1:Int).toNat []).length))/\((ac ((x3:Int)+(1:Int)))/\(∃x4:Nat,((((x4:Int)<=n)/\((x1:Int)<n))/\((n.toNat-x4<n.toNat-x3)/\((n=n)/\((FV.iii q p=FV.iii q p)/\((n=n)/\(((x1:Int)=(x1:Int))/\(((x1:Int)=(x1:Int))/\((n=n)/\(((x3:Int)+(1:Int)=(x4:Int)) /\
 (List.set (List.take x1 (bQ n.toNat fun(x y:Nat)=>p (x:Int) (y:Int))++(List.take x3 (ar n.toNat fun(y:Nat)=>p (x1:Int) (y:Int))++List.replicate (n.toNat-x3) (0:Int))::List.replicate (n.toNat-(x1+(1:Nat))) []) (x1:Int).toNat (List.set ((List.take x1 (bQ n.toNat fun(x y:Nat)=>p (x:Int) (y:Int))++(List.take x3 (ar n.toNat fun(y:Nat)=>p (x1:Int) (y:Int))++List.replicate (n.toNat-x3) (0:Int))::List.replicate (n.toNat-(x1+(1:Nat))) []).getD (x1:Int).toNat []) (x3:Int).toNat (p (x1:Int) (x3:Int)))=List.take x1 (bQ n.toNat fun(x y:Nat)=>p (x:Int) (y:Int))++(List.take x4 (ar n.toNat fun(y:Nat)=>p (x1:Int) (y:Int))++List.replicate (n.toNat-x4) (0:Int))::List.replicate (n.toNat-(x1+(1:Nat))) []))))))))))))))) ((ac ((x1:Int)+(1:Int)))/\(∃x5:Nat,(((x5:Int)<=n)/\((n.toNat-x5<n.toNat-x1)/\((n=n)/\((FV.iii q p=FV.iii q p)/\((n=n)/\(((x1:Int)+(1:Int)=(x5:Int))/\(List.take x1 (bQ n.toNat fun(x y:Nat)=>p (x:Int) (y:Int))++(List.take x3 (ar n.toNat fun(y:Nat)=>p (x1:Int) (y:Int))++List.replicate (n.toNat-x3) (0:Int))::List.replicate (n.toNat-(x1+(1:Nat))) []=List.take x5 (bQ n.toNat fun(x y:Nat)=>p (x:Int) (y:Int))++List.replicate (n.toNat-x5) ([]:List Int)))))))))))))))))
 ((List.take x1 (bQ n.toNat fun(x y:Nat)=>p (x:Int) (y:Int))++List.replicate (n.toNat-x1) ([]:List Int)=bQ n.toNat fun(x y:Nat)=>p (x:Int) (y:Int))/\True))))))
theorem Pd(n:Int)(q:Int->Int->Prop)(p:Int->Int->Int):aY Tryz.prog (aj G5) am (G4 n q p) Tryz.f124 (aP Tryz.f124) [] [.c (.int .i64 n),.fv (.iii q p)] (sc n q p)=yS n q p:=by kernel_rfl
theorem Pe(n:Int)(q:Int->Int->Prop)(p:Int->Int->Int)(Yh:(sc n q p).pre):yS n q p:=by
 simp only[sc,yS,aX,u1,u2,u3,u4,u5,u6,u7,u8,u9,v1,v2,v3,v4,v5,v6,v7,v8,v9,w1,w2,w3,w4,aN,ab,ac,ah,ax]at Yh⊢;obtain⟨h0,h1,hq⟩:=Yh;have hT:=mR n.toNat fun x y=>p (x:Int) (y:Int)
 have hr:∀i:Nat,(ar n.toNat fun y=>p (i:Int) (y:Int)).length=n.toNat:=fun i=>eA _ _
 refine⟨by omega,⟨0,by omega,by omega,rfl,by simp⟩,fun i hi=>?_⟩
 have hl:((bQ n.toNat fun x y=>p (x:Int) (y:Int)).take i).length=i:=by rw[List.length_take];omega
 refine⟨fun h=>?_,fun h=>?_⟩
 ·have hs:((bQ n.toNat fun x y=>p (x:Int) (y:Int)).take i++List.replicate (n.toNat-i) ([]:List Int)).set i (List.replicate n.toNat 0) =
      (bQ n.toNat fun x y=>p (x:Int) (y:Int)).take i++(List.replicate n.toNat 0)::List.replicate (n.toNat-(i+1)) []:=by
   rw[show n.toNat-i=(n.toNat-(i+1))+1 by omega,List.replicate_succ,sb _ _ _ _ _ hl]
  rw[hs];refine⟨by omega,by omega,by omega,⟨0,by omega,?_,rfl,by simp⟩,fun j ⟨hj,_⟩=>⟨fun h2=>?_,fun h2=>?_⟩⟩
  ·rw[yQ _ _ _ _ _ hl];simp;omega
  ·rw[yQ _ _ _ _ _ hl,sb _ _ _ _ _ hl]
   have hd:((ar n.toNat fun y=>p (i:Int) (y:Int)).take j++List.replicate (n.toNat-j) 0).length=n.toNat:=by
    rw[List.length_append,List.length_take,List.length_replicate,hr];omega
   rw[hd];refine⟨by omega,hq _ _ (by omega) h (by omega) h2,by omega,by omega,j+1,by omega,by omega,by omega,?_⟩
   have:=Cp (ar n.toNat fun y=>p (i:Int) (y:Int)) 0 0 j (by rw[hr];omega)
   rw[hr,eJ _ _ _ (by omega)]at this
   rw[this]
  ·refine⟨by omega,i+1,by omega,by omega,by omega,?_⟩
   have e:(ar n.toNat fun y=>p (i:Int) (y:Int)).take j=ar n.toNat fun y=>p (i:Int) (y:Int):=List.take_of_length_le (by rw[hr];omega)
   rw[<-du (bQ n.toNat fun x y=>p (x:Int) (y:Int)) [] i (by omega),ox _ _ _ (by omega),show n.toNat-j=0 by omega,e]
   simp
 ·rw[List.take_of_length_le (by omega),show n.toNat-i=0 by omega];simp
theorem oy:Fits Tryz.prog 124 ⟨[],lh⟩:=by
 refine bf (Γ:=aj G5) aW Tryz.func124 fun ds p h hp=>?_
 unfold lh at h;split at h
 ·cases h
  exact⟨am,G4 _ _ _ ,by rw[Pd];exact Pe _ _ _  hp⟩
 ·cases h
theorem sd{n:Nat}{f g:Nat->Nat->Int}(h:∀x y,x<n->y<n->f x y=g x y):bQ n f=bQ n g:=by
 unfold bQ;apply List.map_congr_left
 intro x hx
 exact mf fun y hy=>h x y (List.mem_range.1 hx) hy
theorem Pf(n:Nat)(f:Nat->Nat->Int)(h:n<=144):bK (bQ n f):=⟨by rw[mR];omega,fun r hr=>by
 simp only[bQ,List.mem_map]at hr;obtain⟨x,_,rfl⟩:=hr;rw[eA];omega⟩
theorem li:∀{a b:List Int},a.Nodup->(∀x∈a,x∈b)->a.length<=b.length
 | [],_,_,_=>Nat.zero_le _
 |x::a,b,hn,hs=>by
  rw[List.nodup_cons]at hn;have h1:x∈b:=hs x (by simp)
  have h2:=li (b:=b.erase x) hn.2 fun y hy=>(List.mem_erase_of_ne (by rintro rfl;exact hn.1 hy)).2 (hs y (by simp[hy]))
  rw[List.length_erase_of_mem h1]at h2;have:=List.length_pos_of_mem h1
  simp only[List.length_cons];omega
def ints(n:Nat):List Int:=(List.range n).map fun i:Nat=>(i:Int)
theorem yT:∀n,(ints n).Nodup
 |0=>by simp[ints]
 |n+1=>by
  have:ints (n+1)=ints n++[(n:Int)]:=by simp[ints,List.range_succ]
  rw[this,List.nodup_append];refine⟨yT n,by simp,fun a ha b hb=>?_⟩
  simp only[ints,List.mem_map,List.mem_range]at ha;obtain⟨i,hi,rfl⟩:=ha;simp at hb
  omega
theorem mS{n:Nat}{x:Int}:x∈ints n↔0<=x/\x<(n:Int):=by
 simp only[ints,List.mem_map,List.mem_range];exact⟨by rintro⟨i,hi,rfl⟩;omega,fun h=>⟨x.toNat,by omega,by omega⟩⟩
def mT(l:List Int):Bool:=decide ((∀x∈l,0<=x/\x<(l.length:Int))/\l.Nodup)
theorem Pg{l:List Int}:mT l=true↔∀x:Int,0<=x->x<(l.length:Int)->x∈l:=by
 simp only[mT,decide_eq_true_eq]
 constructor
 ·rintro⟨h1,h2⟩ x hx hx2
  refine Classical.byContradiction fun hn=>?_
  have:=li (a:=x::l) (b:=ints l.length) (List.nodup_cons.2 ⟨hn,h2⟩) fun y hy=>by
   rcases List.mem_cons.1 hy with rfl|hy
   ·exact mS.2 ⟨hx,hx2⟩
   ·exact mS.2 (h1 y hy)
  simp[ints]at this
  omega
 ·intro h
  have sub:∀l':List Int,l'.length<l.length->¬ ∀x∈ints l.length,x∈l':=fun l' hl hc=>by
   have:=li (yT l.length) hc
   simp[ints]at this
   omega
  have hall:∀x∈ints l.length,x∈l:=fun x hx=>h x (mS.1 hx).1 (mS.1 hx).2
  refine⟨fun x hx=>Classical.byContradiction fun hn=>?_,Classical.byContradiction fun hn=>?_⟩
  ·refine sub (l.erase x) (by rw[List.length_erase_of_mem hx];have:=List.length_pos_of_mem hx;omega) fun y hy=>?_
   exact(List.mem_erase_of_ne (by rintro rfl;exact hn (mS.1 hy))).2 (hall y hy)
  ·rw[List.nodup_iff_count]at hn
   simp only[Classical.not_forall]at hn;obtain⟨a,ha⟩:=hn;have hm:a∈l:=List.count_pos_iff.1 (by omega)
   have hm2:a∈l.erase a:=List.count_pos_iff.1 (by rw[List.count_erase_self];omega)
   refine sub (l.erase a) (by rw[List.length_erase_of_mem hm];have:=List.length_pos_of_mem hm;omega) fun y hy=>?_
   by_cases hya:y=a
   ·rw[hya];exact hm2
   ·exact(List.mem_erase_of_ne hya).2 (hall y hy)
def bd(x:Int):List Int->Int->Int
 | [],_=>-1
 |y::l,k=>if y=x then k else bd x l (k+1)
theorem G6(x:Int):∀(l:List Int) (k:Int),0<=k->decide (0<=bd x l k)=decide (x∈l)
 | [],k,_=>by simp[bd]
 |y::l,k,h=>by
  simp only[bd,List.mem_cons];by_cases hp:y=x
  ·simp[hp,h]
  ·simp only[hp,if_false,G6 x l (k+1) (by omega)]
   have:¬ x=y:=fun e=>hp e.symm
   simp[this]
def se(l:List Int)(n:Int):Post:=⟨l.length<=1099511627776,.c (.int .i64 (bd n l 0)),[]⟩
def yU:List AD->Option Post
 | [.c (.ints .i64 l),.c (.int .i64 n)]=>some (se l n)
 |_=>none
def G7(l:List Int)(n:Int):Nat->Option Ann
 |0=>some (Ann.mk ((Nat)) (fun i=>⟨[(0,.c (.ro (.ints .i64 l))),(1,.c (.int .i64 n)),(5,.c (.int .i64 ((i:Int))))],[]⟩) (fun i=>i<=l.length/\bd n l 0=bd n (l.drop i) (i:Int)) (fun i=>l.length-i) (fun _=>av))
 |_=>none
def G8:List (Nat×Ctr):=[]
def yV(l:List Int)(n:Int):Prop :=
 (∃x0:Nat,(x0<=l.length/\bd n l (0:Int)=bd n (List.drop x0 l) (x0:Int))/\l=l/\n=n/\(0:Int)=(x0:Int))/\∀x1:Nat,x1<=l.length/\bd n l (0:Int)=bd n (List.drop x1 l) (x1:Int)->ae (decide ((x1:Int)<(l.length:Int))) (ab (x1:Int) l.length/\ae (l.getD (x1:Int).toNat (0:Int) == n) ((x1:Int)=bd n l (0:Int)/\True) (ac ((x1:Int)+(1:Int))/\∃x2:Nat,(x2<=l.length/\bd n l (0:Int)=bd n (List.drop x2 l) (x2:Int))/\l.length-x2<l.length-x1/\l=l/\n=n/\(x1:Int)+(1:Int)=(x2:Int))) ((-1:Int)=bd n l (0:Int)/\True)
theorem Ph(l:List Int)(n:Int):aY Tryz.prog (aj G8) am (G7 l n) Tryz.f211 (aP Tryz.f211) [] [.c (.ints .i64 l),.c (.int .i64 n)] (se l n)=yV l n:=by kernel_rfl
theorem Pi(l:List Int)(n:Int)(Yh:(se l n).pre):yV l n:=by
 simp only[se,yV,aX,u1,u2,u3,u4,u5,u6,u7,u8,u9,v1,v2,v3,v4,v5,v6,v7,v8,v9,w1,w2,w3,w4,aN,ab,ac,ah,ax]at Yh⊢;refine⟨⟨0,⟨by omega,rfl⟩,rfl⟩,fun i ⟨hi,he⟩=>⟨fun h=>?_,fun h=>?_⟩⟩
 ·rw[drop_cons' l 0 i (by omega)]at he
  simp only[bd]at he;refine⟨by omega,fun h1=>?_,fun h1=>⟨by omega,i+1,⟨by omega,?_⟩,by omega,by omega⟩⟩
  ·rw[he,if_pos h1]
  ·rw[he,if_neg h1];simp
 ·rw[he,List.drop_of_length_le (by omega)];rfl
theorem Pj:Fits Tryz.prog 211 ⟨[],yU⟩:=by
 refine bf (Γ:=aj G8) aW Tryz.func211 fun ds p h hp=>?_
 unfold yU at h;split at h
 ·cases h
  exact⟨am,G7 _ _ ,by rw[Ph];exact Pi _ _  hp⟩
 ·cases h
def sf(l:List Int)(n:Int):Post:=⟨l.length<=1099511627776,.c (.bool (decide (n∈l))),[]⟩
def yW:List AD->Option Post
 | [.c (.ints .i64 l),.c (.int .i64 n)]=>some (sf l n)
 |_=>none
def G9:List (Nat×Ctr):=[(211,⟨[],yU⟩)]
def yX(l:List Int)(n:Int):Prop :=
 (l.length<=(1099511627776:Nat)/\True)/\decide ((0:Int)<=bd n l (0:Int))=decide (n∈l)/\True
theorem Pk(l:List Int)(n:Int):aY Tryz.prog (aj G9) am av Tryz.f182 (aP Tryz.f182) [] [.c (.ints .i64 l),.c (.int .i64 n)] (sf l n)=yX l n:=by kernel_rfl
theorem Pl(l:List Int)(n:Int)(Yh:(sf l n).pre):yX l n:=by
 simp only[sf,yX,aX,u1,u2,u3,u4,u5,u6,u7,u8,u9,v1,v2,v3,v4,v5,v6,v7,v8,v9,w1,w2,w3,w4,aN,ab,ac,ah,ax]at Yh⊢;exact⟨Yh,G6 n l 0 (by omega)⟩
theorem Pm:Fits Tryz.prog 182 ⟨[],yW⟩:=by
 refine bf (Γ:=aj G9) (aD Pj aW) Tryz.func182 fun ds p h hp=>?_
 unfold yW at h;split at h
 ·cases h
  exact⟨am,av,by rw[Pk];exact Pl _ _  hp⟩
 ·cases h
def en(t:List (List Int))(x y:Nat):Int:=(t.getD x []).getD y 0
end Go.Sx
