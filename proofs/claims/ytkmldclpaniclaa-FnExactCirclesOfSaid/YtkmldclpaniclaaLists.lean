/- Lists -/
import Derived.Test.YtkmldclpaniclaaProg
import Derived.Test.YtkmldclpaniclaaSxZ
import Derived.KernelRfl
open Go Go.Proofs
namespace Go.Sx
set_option linter.unusedSimpArgs false
set_option linter.unusedVariables false
def pP (l:List Int):Post:=⟨ag l.length,.c (.ints 2 .i64 (l)),[]⟩
def vC:List AD→Option Post
 | [.c (.ints .i64 (l))]=>some (pP l)
 | _=>none
def Cs (l:List Int):Nat→Option Ann
 | 0=>some (Ann.mk ((Nat)) (fun i=>⟨[(0,.c (.ro (.ints .i64 (l)))),(4,.c (.int .i64 ((i:Int)))),(3,.c (.own (1)))],[(1,some (.ints 2 .i64 (l.take i++List.replicate (l.length - i) 0)))]⟩) (fun i=>i≤l.length) (fun i=>l.length - i) (fun _=>ax))
 | _=>none
def Ct:List (Nat×Ctr):=[]
def vD (l:List Int):Prop :=
 ((((0:Int)≤(↑(l.length):Int))∧(((↑(l.length):Int)≤(↑(l.length):Int))∧(ag ((↑(l.length):Int).toNat))))∧((∃x0:Nat,((x0≤l.length)∧((l=l)∧(((0:Int)=(↑x0:Int))∧(List.replicate ((↑(l.length):Int).toNat) (0:Int)=List.take x0 l++List.replicate (l.length - x0) (0:Int))))))∧(∀x1:Nat,((x1≤l.length)→(ae (decide ((↑x1:Int)<(↑(l.length):Int))) ((aa (↑x1:Int) (l.length))∧((aa (↑x1:Int) ((List.take x1 l++List.replicate (l.length - x1) (0:Int)).length))∧((af ((↑x1:Int)+(1:Int)))∧(∃x2:Nat,((x2≤l.length)∧((l.length - x2<l.length - x1)∧((l=l)∧(((↑x1:Int)+(1:Int)=(↑x2:Int))∧(List.set (List.take x1 l++List.replicate (l.length - x1) (0:Int)) ((↑x1:Int).toNat) (l.getD ((↑x1:Int).toNat) (0:Int))=List.take x2 l++List.replicate (l.length - x2) (0:Int)))))))))) ((List.take x1 l++List.replicate (l.length - x1) (0:Int)=l)∧True))))))
theorem JU (l:List Int):aS Try.prog (ai Ct) aj (Cs l) Try.f43 (aM Try.f43) [] [.c (.ints .i64 (l))] (pP l)=vD l:=by kernel_rfl
theorem JV (l:List Int) (Yh:(pP l).pre):vD l:=by
 simp only [pP,vD,aR,u1,u2,u3,u4,u5,u6,u7,u8,u9,v1,v2,v3,v4,v5,v6,v7,v8,v9,w1,w2,w3,w4,aI,aa,af,ag,aw] at Yh ⊢;exact ⟨by omega,⟨0,by omega,by simp,by simp⟩,fun i hi=>⟨fun h=>⟨by omega,by omega,by omega,i+1,by omega,by omega,by omega,tp l 0 0 i (by omega)⟩,fun h=>Ar l 0 i (by omega)⟩⟩
theorem JW:Fits Try.prog 43 ⟨[],vC⟩:=by
 refine aY (Γ:=ai Ct) aQ Try.func43 fun ds p h hp=>?_
 unfold vC at h;split at h
 ·cases h
  exact ⟨aj,Cs _ ,by rw [JU];exact JV _  hp⟩
 ·cases h
def pQ (a:List Int) (b:List Int):Post:=⟨ag a.length,.c (.bool (decide (a=b))),[]⟩
def vE:List AD→Option Post
 | [.c (.ints .i64 (a)),.c (.ints .i64 (b))]=>some (pQ a b)
 | _=>none
def Cu (a:List Int) (b:List Int):Nat→Option Ann
 | 0=>some (Ann.mk ((Nat)) (fun i=>⟨[(0,.c (.ro (.ints .i64 (a)))),(1,.c (.ro (.ints .i64 (b)))),(5,.c (.int .i64 ((i:Int))))],[]⟩) (fun i=>i≤a.length∧a.length=b.length∧a.take i=b.take i) (fun i=>a.length - i) (fun _=>ax))
 | _=>none
def Cw:List (Nat×Ctr):=[]
def vF (a:List Int) (b:List Int):Prop :=
 (ae ((↑(a.length):Int) != (↑(b.length):Int)) ((false=decide (a=b))∧True) ((∃x0:Nat,(((x0≤a.length)∧((a.length=b.length)∧(List.take x0 a=List.take x0 b)))∧((a=a)∧((b=b)∧((0:Int)=(↑x0:Int))))))∧(∀x1:Nat,(((x1≤a.length)∧((a.length=b.length)∧(List.take x1 a=List.take x1 b)))→(ae (decide ((↑x1:Int)<(↑(a.length):Int))) ((aa (↑x1:Int) (a.length))∧((aa (↑x1:Int) (b.length))∧(ae (a.getD ((↑x1:Int).toNat) (0:Int) != b.getD ((↑x1:Int).toNat) (0:Int)) ((false=decide (a=b))∧True) ((af ((↑x1:Int)+(1:Int)))∧(∃x2:Nat,(((x2≤a.length)∧((a.length=b.length)∧(List.take x2 a=List.take x2 b)))∧((a.length - x2<a.length - x1)∧((a=a)∧((b=b)∧((↑x1:Int)+(1:Int)=(↑x2:Int))))))))))) ((true=decide (a=b))∧True))))))
theorem JX (a:List Int) (b:List Int):aS Try.prog (ai Cw) aj (Cu a b) Try.f32 (aM Try.f32) [] [.c (.ints .i64 (a)),.c (.ints .i64 (b))] (pQ a b)=vF a b:=by kernel_rfl
theorem JY (a:List Int) (b:List Int) (Yh:(pQ a b).pre):vF a b:=by
 simp only [pQ,vF,aR,u1,u2,u3,u4,u5,u6,u7,u8,u9,v1,v2,v3,v4,v5,v6,v7,v8,v9,w1,w2,w3,w4,aI,aa,af,ag,aw] at Yh ⊢;refine ⟨fun h=>?_,fun h=>⟨⟨0,⟨by omega,by omega,rfl⟩,by simp⟩,fun i hi=>⟨fun h1=>⟨by omega,by omega,fun h2=>?_,fun h2=>⟨by omega,i+1,⟨by omega,hi.2.1,?_⟩,by omega,by omega⟩⟩,fun h1=>?_⟩⟩⟩
 ·exact (decide_eq_false fun e=>h (by rw [e])).symm
 ·exact (decide_eq_false fun e=>h2 (by rw [e])).symm
 ·exact (oI a b 0 i (by omega) (by omega) hi.2.2).2 h2
 ·refine (decide_eq_true ?_).symm
  have:=hi.2.2
  rwa [List.take_of_length_le (by omega),List.take_of_length_le (by omega)] at this
theorem JZ:Fits Try.prog 32 ⟨[],vE⟩:=by
 refine aY (Γ:=ai Cw) aQ Try.func32 fun ds p h hp=>?_
 unfold vE at h;split at h
 ·cases h
  exact ⟨aj,Cu _ _ ,by rw [JX];exact JY _ _  hp⟩
 ·cases h
def pR (l:List Int) (k:Int):Post:=⟨ag l.length∧0≤k∧k≤1099511627776,.c (.int .i64 (k+(l.length:Int))),[.ints 2 .i64 (bM k l.length)]⟩
def vG:List AD→Option Post
 | [.c (.ints .i64 (l)),.c (.int .i64 (k))]=>some (pR l k)
 | _=>none
def Cy (l:List Int) (k:Int):Nat→Option Ann
 | 0=>some (Ann.mk ((Nat)) (fun i=>⟨[(0,.c (.own (700))),(1,.c (.int .i64 (k+(i:Int)))),(5,.c (.int .i64 ((i:Int))))],[(700,some (.ints 2 .i64 ((bM k l.length).take i++l.drop i)))]⟩) (fun i=>i≤l.length) (fun i=>l.length - i) (fun _=>ax))
 | _=>none
def Cz:List (Nat×Ctr):=[]
def vH (l:List Int) (k:Int):Prop :=
 ((∃x0:Nat,((x0≤l.length)∧((k=k+(↑x0:Int))∧(((0:Int)=(↑x0:Int))∧(l=List.take x0 (bM k (l.length))++List.drop x0 l)))))∧(∀x1:Nat,((x1≤l.length)→(ae (decide ((↑x1:Int)<(↑((List.take x1 (bM k (l.length))++List.drop x1 l).length):Int))) ((aa (↑x1:Int) ((List.take x1 (bM k (l.length))++List.drop x1 l).length))∧((af (k+(↑x1:Int)+(1:Int)))∧((af ((↑x1:Int)+(1:Int)))∧(∃x2:Nat,((x2≤l.length)∧((l.length - x2<l.length - x1)∧((k+(↑x1:Int)+(1:Int)=k+(↑x2:Int))∧(((↑x1:Int)+(1:Int)=(↑x2:Int))∧(List.set (List.take x1 (bM k (l.length))++List.drop x1 l) ((↑x1:Int).toNat) (k+(↑x1:Int))=List.take x2 (bM k (l.length))++List.drop x2 l))))))))) ((k+(↑x1:Int)=k+(↑(l.length):Int))∧((List.take x1 (bM k (l.length))++List.drop x1 l=bM k (l.length))∧True))))))
theorem J0 (l:List Int) (k:Int):aS Try.prog (ai Cz) aj (Cy l k) Try.f33 (aM Try.f33) [(0,0)] [.c (.ints .i64 (l)),.c (.int .i64 (k))] (pR l k)=vH l k:=by kernel_rfl
theorem J1 (l:List Int) (k:Int) (Yh:(pR l k).pre):vH l k:=by
 simp only [pR,vH,aR,u1,u2,u3,u4,u5,u6,u7,u8,u9,v1,v2,v3,v4,v5,v6,v7,v8,v9,w1,w2,w3,w4,aI,aa,af,ag,aw] at Yh ⊢;obtain ⟨h1,h2,h3⟩:=Yh;refine ⟨⟨0,by omega,by simp⟩,fun i hi=>⟨fun h=>⟨by omega,by omega,by omega,i+1,by omega,by omega,by omega,by omega,?_⟩,fun h=>⟨?_,?_⟩⟩⟩
 ·rw [←Hp (bM k l.length) l 0 i (aI _ _) (by omega),tq _ _ _ (by omega)]
 ·omega
 ·rw [List.take_of_length_le (by rw [aI];omega),List.drop_of_length_le (by omega),List.append_nil]
theorem J2:Fits Try.prog 33 ⟨[(0,0)],vG⟩:=by
 refine aY (Γ:=ai Cz) aQ Try.func33 fun ds p h hp=>?_
 unfold vG at h;split at h
 ·cases h
  exact ⟨aj,Cy _ _ ,by rw [J0];exact J1 _ _  hp⟩
 ·cases h
def pS (l:List Int) (k:Int):Post:=⟨ag l.length∧0≤k∧k≤1099511627776,.c (.int .i64 (if l=bM k l.length then k+(l.length:Int) else -1)),[]⟩
def vI:List AD→Option Post
 | [.c (.ints .i64 (l)),.c (.int .i64 (k))]=>some (pS l k)
 | _=>none
def CA (l:List Int) (k:Int):Nat→Option Ann
 | 0=>some (Ann.mk ((Nat)) (fun i=>⟨[(0,.c (.ro (.ints .i64 (l)))),(1,.c (.int .i64 (k+(i:Int)))),(5,.c (.int .i64 ((i:Int))))],[]⟩) (fun i=>i≤l.length∧l.take i=(bM k l.length).take i) (fun i=>l.length - i) (fun _=>ax))
 | _=>none
def CB:List (Nat×Ctr):=[]
def vJ (l:List Int) (k:Int):Prop :=
 ((∃x0:Nat,(((x0≤l.length)∧(List.take x0 l=List.take x0 (bM k (l.length))))∧((l=l)∧((k=k+(↑x0:Int))∧((0:Int)=(↑x0:Int))))))∧(∀x1:Nat,(((x1≤l.length)∧(List.take x1 l=List.take x1 (bM k (l.length))))→(ae (decide ((↑x1:Int)<(↑(l.length):Int))) ((aa (↑x1:Int) (l.length))∧(ae (l.getD ((↑x1:Int).toNat) (0:Int) != k+(↑x1:Int)) (((-1:Int)=if l=bM k (l.length) then k+(↑(l.length):Int) else (-1:Int))∧True) ((af (k+(↑x1:Int)+(1:Int)))∧((af ((↑x1:Int)+(1:Int)))∧(∃x2:Nat,(((x2≤l.length)∧(List.take x2 l=List.take x2 (bM k (l.length))))∧((l.length - x2<l.length - x1)∧((l=l)∧((k+(↑x1:Int)+(1:Int)=k+(↑x2:Int))∧((↑x1:Int)+(1:Int)=(↑x2:Int))))))))))) ((k+(↑x1:Int)=if l=bM k (l.length) then k+(↑(l.length):Int) else (-1:Int))∧True)))))
theorem J3 (l:List Int) (k:Int):aS Try.prog (ai CB) aj (CA l k) Try.f34 (aM Try.f34) [] [.c (.ints .i64 (l)),.c (.int .i64 (k))] (pS l k)=vJ l k:=by kernel_rfl
theorem J4 (l:List Int) (k:Int) (Yh:(pS l k).pre):vJ l k:=by
 simp only [pS,vJ,aR,u1,u2,u3,u4,u5,u6,u7,u8,u9,v1,v2,v3,v4,v5,v6,v7,v8,v9,w1,w2,w3,w4,aI,aa,af,ag,aw] at Yh ⊢;obtain ⟨h1,h2,h3⟩:=Yh;refine ⟨⟨0,⟨by omega,rfl⟩,by simp⟩,fun i hi=>⟨fun h=>⟨by omega,fun h4=>?_,fun h4=>⟨by omega,by omega,i+1,⟨by omega,?_⟩,by omega,by omega,by omega⟩⟩,fun h=>?_⟩⟩
 ·rw [if_neg]
  intro e
  rw [e,tq _ _ _ (by omega)] at h4
  exact h4 rfl
 ·rw [oI l (bM k l.length) 0 i (by omega) (by rw [aI];omega) hi.2,tq _ _ _ (by omega),h4]
 ·have:=hi.2
  rw [List.take_of_length_le (by omega),List.take_of_length_le (by rw [aI];omega)] at this
  rw [if_pos this];omega
theorem J5:Fits Try.prog 34 ⟨[],vI⟩:=by
 refine aY (Γ:=ai CB) aQ Try.func34 fun ds p h hp=>?_
 unfold vI at h;split at h
 ·cases h
  exact ⟨aj,CA _ _ ,by rw [J3];exact J4 _ _  hp⟩
 ·cases h
def pT (l:List Int) (k:Int):Post:=⟨(l.length:Int)≤9223372036854775807∧0≤k∧k≤1099511627776,.c (.int .i64 (if k<(l.length:Int) then -1 else k - (l.length:Int))),[]⟩
def vK:List AD→Option Post
 | [.c (.ints .i64 (l)),.c (.int .i64 (k))]=>some (pT l k)
 | _=>none
def CC:List (Nat×Ctr):=[]
def vL (l:List Int) (k:Int):Prop :=
 ((af (k - (↑(l.length):Int)))∧(ae (decide (k - (↑(l.length):Int)<(0:Int))) (((-1:Int)=if k<(↑(l.length):Int) then (-1:Int) else k - (↑(l.length):Int))∧True) ((k - (↑(l.length):Int)=if k<(↑(l.length):Int) then (-1:Int) else k - (↑(l.length):Int))∧True)))
theorem J6 (l:List Int) (k:Int):aS Try.prog (ai CC) aj ax Try.f38 (aM Try.f38) [] [.c (.ints .i64 (l)),.c (.int .i64 (k))] (pT l k)=vL l k:=by kernel_rfl
theorem J7 (l:List Int) (k:Int) (Yh:(pT l k).pre):vL l k:=by
 simp only [pT,vL,aR,u1,u2,u3,u4,u5,u6,u7,u8,u9,v1,v2,v3,v4,v5,v6,v7,v8,v9,w1,w2,w3,w4,aI,aa,af,ag,aw] at Yh ⊢;obtain ⟨h1,h2,h3⟩:=Yh;refine ⟨by omega,fun h=>?_,fun h=>?_⟩
 ·rw [if_pos (by omega)]
 ·rw [if_neg (by omega)]
theorem J8:Fits Try.prog 38 ⟨[],vK⟩:=by
 refine aY (Γ:=ai CC) aQ Try.func38 fun ds p h hp=>?_
 unfold vK at h;split at h
 ·cases h
  exact ⟨aj,ax,by rw [J6];exact J7 _ _  hp⟩
 ·cases h
def pU (n:Int) (a:Int) (b:Int):Post:=⟨True,.c (.bool (decide (a≤n∧n≤b))),[]⟩
def mZ:List AD→Option Post
 | [.c (.int .i64 (n)),.c (.int .i64 (a)),.c (.int .i64 (b))]=>some (pU n a b)
 | _=>none
def CD:List (Nat×Ctr):=[]
def vM (n:Int) (a:Int) (b:Int):Prop :=
 (ae (decide (a≤n)) ((decide (n≤b)=decide (a≤n∧n≤b))∧True) ((false=decide (a≤n∧n≤b))∧True))
theorem J9 (n:Int) (a:Int) (b:Int):aS Try.prog (ai CD) aj ax Try.f86 (aM Try.f86) [] [.c (.int .i64 (n)),.c (.int .i64 (a)),.c (.int .i64 (b))] (pU n a b)=vM n a b:=by kernel_rfl
theorem Ka (n:Int) (a:Int) (b:Int) (Yh:(pU n a b).pre):vM n a b:=by
 simp only [pU,vM,aR,u1,u2,u3,u4,u5,u6,u7,u8,u9,v1,v2,v3,v4,v5,v6,v7,v8,v9,w1,w2,w3,w4,aI,aa,af,ag,aw] at Yh ⊢;refine ⟨fun h=>?_,fun h=>?_⟩
 ·simp [h]
 ·simp [h]
theorem vN:Fits Try.prog 86 ⟨[],mZ⟩:=by
 refine aY (Γ:=ai CD) aQ Try.func86 fun ds p h hp=>?_
 unfold mZ at h;split at h
 ·cases h
  exact ⟨aj,ax,by rw [J9];exact Ka _ _ _  hp⟩
 ·cases h
def pV (n:Int) (a:Int) (b:Int):Post:=⟨True,.c (.bool (decide (a≤n∧n≤b))),[]⟩
def pW:List AD→Option Post
 | [.c (.int .i64 (n)),.c (.int .i64 (a)),.c (.int .i64 (b))]=>some (pV n a b)
 | _=>none
def CE:List (Nat×Ctr):=[]
def vO (n:Int) (a:Int) (b:Int):Prop :=
 (ae (decide (a≤n)) ((decide (n≤b)=decide (a≤n∧n≤b))∧True) ((false=decide (a≤n∧n≤b))∧True))
theorem Kb (n:Int) (a:Int) (b:Int):aS Try.prog (ai CE) aj ax Try.f54 (aM Try.f54) [] [.c (.int .i64 (n)),.c (.int .i64 (a)),.c (.int .i64 (b))] (pV n a b)=vO n a b:=by kernel_rfl
theorem Kc (n:Int) (a:Int) (b:Int) (Yh:(pV n a b).pre):vO n a b:=by
 simp only [pV,vO,aR,u1,u2,u3,u4,u5,u6,u7,u8,u9,v1,v2,v3,v4,v5,v6,v7,v8,v9,w1,w2,w3,w4,aI,aa,af,ag,aw] at Yh ⊢;refine ⟨fun h=>?_,fun h=>?_⟩
 ·simp [h]
 ·simp [h]
theorem CF:Fits Try.prog 54 ⟨[],pW⟩:=by
 refine aY (Γ:=ai CE) aQ Try.func54 fun ds p h hp=>?_
 unfold pW at h;split at h
 ·cases h
  exact ⟨aj,ax,by rw [Kb];exact Kc _ _ _  hp⟩
 ·cases h
def c9 (lo hi:Int) (l:List Int):Bool:=l.all fun x=>decide (lo≤x∧x≤hi)
theorem CG (lo hi:Int) (l:List Int) (i:Nat) (h:i<l.length):c9 lo hi (l.drop i)=(decide (lo≤l.getD i 0∧l.getD i 0≤hi)&&c9 lo hi (l.drop (i+1))):=by
 rw [drop_cons' l 0 i h];rfl
theorem Kd {lo hi:Int} {l:List Int} (h:c9 lo hi l=true) (i:Nat) (hi':i<l.length):lo≤l.getD i 0∧l.getD i 0≤hi:=by
 rw [bU l 0 i hi'];have:=List.all_eq_true.1 h _ (List.getElem_mem hi')
 simpa using this
def pX (l:List Int) (a:Int) (b:Int):Post:=⟨ag l.length,.c (.bool (c9 a b l)),[]⟩
def vP:List AD→Option Post
 | [.c (.ints .i64 (l)),.c (.int .i64 (a)),.c (.int .i64 (b))]=>some (pX l a b)
 | _=>none
def CH (l:List Int) (a:Int) (b:Int):Nat→Option Ann
 | 0=>some (Ann.mk ((Nat)) (fun i=>⟨[(1,.c (.int .i64 (a))),(2,.c (.int .i64 (b))),(9,.c (.ro (.ints .i64 (l)))),(10,.c (.int .i64 ((l.length:Int)))),(11,.c (.int .i64 ((i:Int))))],[]⟩) (fun i=>i≤l.length∧c9 a b l=c9 a b (l.drop i)) (fun i=>l.length - i) (fun _=>ax))
 | _=>none
def CJ:List (Nat×Ctr):=[(86,⟨[],mZ⟩)]
def vQ (l:List Int) (a:Int) (b:Int):Prop :=
 ((∃x0:Nat,(((x0≤l.length)∧(c9 a b l=c9 a b (List.drop x0 l)))∧((a=a)∧((b=b)∧((l=l)∧(((↑(l.length):Int)=(↑(l.length):Int))∧((0:Int)=(↑x0:Int))))))))∧(∀x1:Nat,(((x1≤l.length)∧(c9 a b l=c9 a b (List.drop x1 l)))→(ae (decide ((↑x1:Int)<(↑(l.length):Int))) ((aa (↑x1:Int) (l.length))∧((True∧True)∧(ae (!decide (a≤l.getD ((↑x1:Int).toNat) (0:Int)∧l.getD ((↑x1:Int).toNat) (0:Int)≤b)) ((false=c9 a b l)∧True) ((af ((↑x1:Int)+(1:Int)))∧(∃x2:Nat,(((x2≤l.length)∧(c9 a b l=c9 a b (List.drop x2 l)))∧((l.length - x2<l.length - x1)∧((a=a)∧((b=b)∧((l=l)∧(((↑(l.length):Int)=(↑(l.length):Int))∧((↑x1:Int)+(1:Int)=(↑x2:Int))))))))))))) ((true=c9 a b l)∧True)))))
theorem Ke (l:List Int) (a:Int) (b:Int):aS Try.prog (ai CJ) aj (CH l a b) Try.f89 (aM Try.f89) [] [.c (.ints .i64 (l)),.c (.int .i64 (a)),.c (.int .i64 (b))] (pX l a b)=vQ l a b:=by kernel_rfl
theorem Kf (l:List Int) (a:Int) (b:Int) (Yh:(pX l a b).pre):vQ l a b:=by
 simp only [pX,vQ,aR,u1,u2,u3,u4,u5,u6,u7,u8,u9,v1,v2,v3,v4,v5,v6,v7,v8,v9,w1,w2,w3,w4,aI,aa,af,ag,aw] at Yh ⊢;refine ⟨⟨0,⟨by omega,rfl⟩,rfl⟩,fun i ⟨hi,he⟩=>⟨fun h=>?_,fun h=>?_⟩⟩
 ·have hd:=CG a b l i (by omega)
  refine ⟨by omega,fun h1=>?_,fun h1=>⟨by omega,i+1,⟨by omega,?_⟩,by omega,by omega⟩⟩
  ·rw [he,hd,decide_eq_false h1];rfl
  ·rw [he,hd,decide_eq_true h1];rfl
 ·rw [he,List.drop_of_length_le (by omega)];rfl
theorem Kg:Fits Try.prog 89 ⟨[],vP⟩:=by
 refine aY (Γ:=ai CJ) (aC vN aQ) Try.func89 fun ds p h hp=>?_
 unfold vP at h;split at h
 ·cases h
  exact ⟨aj,CH _ _ _ ,by rw [Ke];exact Kf _ _ _  hp⟩
 ·cases h
def am (l:List (List Int)):Nat:=(l.map List.length).sum
theorem pY (l:List (List Int)) (i:Nat) (h:i<l.length):am (l.take (i+1))=am (l.take i)+(l.getD i []).length:=by
 rw [←dK l [] i h];simp [am]
theorem pZ (l:List (List Int)) (i:Nat):am (l.take i)≤am l:=by
 have h:am l=am (l.take i)+am (l.drop i):=by
  rw [am,am,am,←List.sum_append,←List.map_append,List.take_append_drop]
 omega
theorem p9 {l:List (List Int)} {r:List Int} (h:r∈l):r.length≤am l:=by
 induction l with
 | nil=>simp at h
 | cons x l ih =>
  simp only [am,List.map_cons,List.sum_cons] at ih ⊢;rcases List.mem_cons.1 h with rfl | h
  ·omega
  ·have:=ih h;omega
def bk (l:List (List Int)):Prop:=l.length≤1099511627776∧∀r∈l,r.length≤1099511627776
theorem CK {l:List (List Int)} (h:bk l) (i:Nat) (hi:i<l.length):(l.getD i []).length≤1099511627776:=h.2 _ (bN l [] i hi)
def qa (l:List (List Int)) (k:Int):Post:=⟨(l.length:Int)≤9223372036854775807∧(∀r∈l,(r.length:Int)≤9223372036854775807)∧0≤k∧k≤1099511627776,.c (.int .i64 (if k<(l.length:Int)+(am l:Int) then -1 else k - (l.length:Int) - (am l:Int))),[]⟩
def vR:List AD→Option Post
 | [.c (.rows .i64 (l)),.c (.int .i64 (k))]=>some (qa l k)
 | _=>none
def CM (l:List (List Int)) (k:Int):Nat→Option Ann
 | 0=>some (Ann.mk ((Nat)) (fun i=>⟨[(0,.c (.ro (.rows .i64 (l)))),(1,.c (.int .i64 (k - (l.length:Int) - (am (l.take i):Int)))),(5,.c (.int .i64 ((i:Int))))],[]⟩) (fun i=>i≤l.length∧(l.length:Int)+(am (l.take i):Int)≤k) (fun i=>l.length - i) (fun _=>ax))
 | _=>none
def CO:List (Nat×Ctr):=[(38,⟨[],vK⟩)]
def vS (l:List (List Int)) (k:Int):Prop :=
 ((af (k - (↑(l.length):Int)))∧(ae (decide (k - (↑(l.length):Int)<(0:Int))) (((-1:Int)=if k<(↑(l.length):Int)+(↑(am l):Int) then (-1:Int) else k - (↑(l.length):Int) - (↑(am l):Int))∧True) ((∃x0:Nat,(((x0≤l.length)∧((↑(l.length):Int)+(↑(am (List.take x0 l)):Int)≤k))∧((l=l)∧((k - (↑(l.length):Int)=k - (↑(l.length):Int) - (↑(am (List.take x0 l)):Int))∧((0:Int)=(↑x0:Int))))))∧(∀x1:Nat,(((x1≤l.length)∧((↑(l.length):Int)+(↑(am (List.take x1 l)):Int)≤k))→(ae (decide ((↑x1:Int)<(↑(l.length):Int))) ((aa (↑x1:Int) (l.length))∧(((((↑((l.getD ((↑x1:Int).toNat) []).length):Int)≤(9223372036854775807:Int))∧(((0:Int)≤k - (↑(l.length):Int) - (↑(am (List.take x1 l)):Int))∧(k - (↑(l.length):Int) - (↑(am (List.take x1 l)):Int)≤(1099511627776:Int))))∧True)∧(ae (decide ((if k - (↑(l.length):Int) - (↑(am (List.take x1 l)):Int)<(↑((l.getD ((↑x1:Int).toNat) []).length):Int) then (-1:Int) else k - (↑(l.length):Int) - (↑(am (List.take x1 l)):Int) - (↑((l.getD ((↑x1:Int).toNat) []).length):Int))<(0:Int))) (((-1:Int)=if k<(↑(l.length):Int)+(↑(am l):Int) then (-1:Int) else k - (↑(l.length):Int) - (↑(am l):Int))∧True) ((af ((↑x1:Int)+(1:Int)))∧(∃x2:Nat,(((x2≤l.length)∧((↑(l.length):Int)+(↑(am (List.take x2 l)):Int)≤k))∧((l.length - x2<l.length - x1)∧((l=l) ∧
 (((if k - (↑(l.length):Int) - (↑(am (List.take x1 l)):Int)<(↑((l.getD ((↑x1:Int).toNat) []).length):Int) then (-1:Int) else k - (↑(l.length):Int) - (↑(am (List.take x1 l)):Int) - (↑((l.getD ((↑x1:Int).toNat) []).length):Int))=k - (↑(l.length):Int) - (↑(am (List.take x2 l)):Int))∧((↑x1:Int)+(1:Int)=(↑x2:Int))))))))))) ((k - (↑(l.length):Int) - (↑(am (List.take x1 l)):Int)=if k<(↑(l.length):Int)+(↑(am l):Int) then (-1:Int) else k - (↑(l.length):Int) - (↑(am l):Int))∧True)))))))
theorem Kh (l:List (List Int)) (k:Int):aS Try.prog (ai CO) aj (CM l k) Try.f19 (aM Try.f19) [] [.c (.rows .i64 (l)),.c (.int .i64 (k))] (qa l k)=vS l k:=by kernel_rfl
theorem Ki (l:List (List Int)) (k:Int) (Yh:(qa l k).pre):vS l k:=by
 simp only [qa,vS,aR,u1,u2,u3,u4,u5,u6,u7,u8,u9,v1,v2,v3,v4,v5,v6,v7,v8,v9,w1,w2,w3,w4,aI,aa,af,ag,aw] at Yh ⊢;obtain ⟨h1,h2,h3,h4⟩:=Yh;refine ⟨by omega,fun h=>by rw [if_pos (by omega)],fun h=>⟨⟨0,⟨by omega,by simp [am];omega⟩,by simp [am],rfl⟩,fun i ⟨hi,he⟩=>⟨fun h=>?_,fun h=>?_⟩⟩⟩
 ·have q1:=h2 _ (bN l [] i (by omega))
  have q2:=pY l i (by omega)
  have q3:=pZ l (i+1)
  refine ⟨by omega,by omega,fun h5=>?_,fun h5=>?_⟩
  ·split at h5
   ·rw [if_pos (by omega)]
   ·omega
  ·split at h5
   ·omega
   ·rename_i h6
    rw [if_neg h6];exact ⟨by omega,i+1,by omega,by omega,by omega,by omega⟩
 ·rw [List.take_of_length_le (by omega)] at he ⊢
  rw [if_neg (by omega)]
theorem Kj:Fits Try.prog 19 ⟨[],vR⟩:=by
 refine aY (Γ:=ai CO) (aC J8 aQ) Try.func19 fun ds p h hp=>?_
 unfold vR at h;split at h
 ·cases h
  exact ⟨aj,CM _ _ ,by rw [Kh];exact Ki _ _  hp⟩
 ·cases h
def qb (l:List (List Int)):Post:=⟨bk l,.c (.rows 42 2 .i64 (l)),[]⟩
def vT:List AD→Option Post
 | [.c (.rows .i64 (l))]=>some (qb l)
 | _=>none
def CP (l:List (List Int)):Nat→Option Ann
 | 0=>some (Ann.mk ((Nat)) (fun i=>⟨[(0,.c (.ro (.rows .i64 (l)))),(4,.c (.int .i64 ((i:Int)))),(3,.c (.own (7)))],[(7,some (.rows 0 42 2 .i64 (l.take i++List.replicate (l.length - i) [])))]⟩) (fun i=>i≤l.length) (fun i=>l.length - i) (fun _=>ax))
 | _=>none
def CQ:List (Nat×Ctr):=[(43,⟨[],vC⟩)]
def vU (l:List (List Int)):Prop :=
 ((((0:Int)≤(↑(l.length):Int))∧(((↑(l.length):Int)≤(↑(l.length):Int))∧(ag ((↑(l.length):Int).toNat))))∧((∃x0:Nat,((x0≤l.length)∧((l=l)∧(((0:Int)=(↑x0:Int))∧(List.replicate ((↑(l.length):Int).toNat) []=List.take x0 l++List.replicate (l.length - x0) ([]:List Int))))))∧(∀x1:Nat,((x1≤l.length)→(ae (decide ((↑x1:Int)<(↑(l.length):Int))) ((aa (↑x1:Int) (l.length))∧(((ag ((l.getD ((↑x1:Int).toNat) []).length))∧True)∧((aa (↑x1:Int) ((List.take x1 l++List.replicate (l.length - x1) ([]:List Int)).length))∧((af ((↑x1:Int)+(1:Int)))∧(∃x2:Nat,((x2≤l.length)∧((l.length - x2<l.length - x1)∧((l=l)∧(((↑x1:Int)+(1:Int)=(↑x2:Int))∧(List.set (List.take x1 l++List.replicate (l.length - x1) ([]:List Int)) ((↑x1:Int).toNat) (l.getD ((↑x1:Int).toNat) [])=List.take x2 l++List.replicate (l.length - x2) ([]:List Int))))))))))) ((List.take x1 l++List.replicate (l.length - x1) ([]:List Int)=l)∧True))))))
theorem Kk (l:List (List Int)):aS Try.prog (ai CQ) aj (CP l) Try.f24 (aM Try.f24) [] [.c (.rows .i64 (l))] (qb l)=vU l:=by kernel_rfl
theorem Kl (l:List (List Int)) (Yh:(qb l).pre):vU l:=by
 simp only [qb,vU,aR,u1,u2,u3,u4,u5,u6,u7,u8,u9,v1,v2,v3,v4,v5,v6,v7,v8,v9,w1,w2,w3,w4,aI,aa,af,ag,aw] at Yh ⊢;have h1:=Yh.1
 exact ⟨by omega,⟨0,by omega,by simp,by simp⟩,fun i hi=>⟨fun h=>⟨by omega,CK Yh i (by omega),by omega,by omega,i+1,by omega,by omega,by omega,tp l [] [] i (by omega)⟩,fun h=>Ar l [] i (by omega)⟩⟩
theorem Km:Fits Try.prog 24 ⟨[],vT⟩:=by
 refine aY (Γ:=ai CQ) (aC JW aQ) Try.func24 fun ds p h hp=>?_
 unfold vT at h;split at h
 ·cases h
  exact ⟨aj,CP _ ,by rw [Kk];exact Kl _  hp⟩
 ·cases h
def qc (a:List (List Int)) (b:List (List Int)):Post:=⟨bk a,.c (.bool (decide (a=b))),[]⟩
def qd:List AD→Option Post
 | [.c (.rows .i64 (a)),.c (.rows .i64 (b))]=>some (qc a b)
 | _=>none
def CR (a:List (List Int)) (b:List (List Int)):Nat→Option Ann
 | 0=>some (Ann.mk ((Nat)) (fun i=>⟨[(0,.c (.ro (.rows .i64 (a)))),(1,.c (.ro (.rows .i64 (b)))),(5,.c (.int .i64 ((i:Int))))],[]⟩) (fun i=>i≤a.length∧a.length=b.length∧a.take i=b.take i) (fun i=>a.length - i) (fun _=>ax))
 | _=>none
def CT:List (Nat×Ctr):=[(32,⟨[],vE⟩)]
def vV (a:List (List Int)) (b:List (List Int)):Prop :=
 (ae ((↑(a.length):Int) != (↑(b.length):Int)) ((false=decide (a=b))∧True) ((∃x0:Nat,(((x0≤a.length)∧((a.length=b.length)∧(List.take x0 a=List.take x0 b)))∧((a=a)∧((b=b)∧((0:Int)=(↑x0:Int))))))∧(∀x1:Nat,(((x1≤a.length)∧((a.length=b.length)∧(List.take x1 a=List.take x1 b)))→(ae (decide ((↑x1:Int)<(↑(a.length):Int))) ((aa (↑x1:Int) (a.length))∧((aa (↑x1:Int) (b.length))∧(((ag ((a.getD ((↑x1:Int).toNat) []).length))∧True)∧(ae (!decide (a.getD ((↑x1:Int).toNat) []=b.getD ((↑x1:Int).toNat) [])) ((false=decide (a=b))∧True) ((af ((↑x1:Int)+(1:Int)))∧(∃x2:Nat,(((x2≤a.length)∧((a.length=b.length)∧(List.take x2 a=List.take x2 b)))∧((a.length - x2<a.length - x1)∧((a=a)∧((b=b)∧((↑x1:Int)+(1:Int)=(↑x2:Int)))))))))))) ((true=decide (a=b))∧True))))))
theorem Ko (a:List (List Int)) (b:List (List Int)):aS Try.prog (ai CT) aj (CR a b) Try.f9 (aM Try.f9) [] [.c (.rows .i64 (a)),.c (.rows .i64 (b))] (qc a b)=vV a b:=by kernel_rfl
theorem Kp (a:List (List Int)) (b:List (List Int)) (Yh:(qc a b).pre):vV a b:=by
 simp only [qc,vV,aR,u1,u2,u3,u4,u5,u6,u7,u8,u9,v1,v2,v3,v4,v5,v6,v7,v8,v9,w1,w2,w3,w4,aI,aa,af,ag,aw] at Yh ⊢;have h0:=Yh.1
 refine ⟨fun h=>?_,fun h=>⟨⟨0,⟨by omega,by omega,rfl⟩,by simp⟩,fun i hi=>⟨fun h1=>⟨by omega,by omega,CK Yh i (by omega),fun h2=>?_,fun h2=>⟨by omega,i+1,⟨by omega,hi.2.1,?_⟩,by omega,by omega⟩⟩,fun h1=>?_⟩⟩⟩
 ·exact (decide_eq_false fun e=>h (by rw [e])).symm
 ·exact (decide_eq_false fun e=>h2 (by rw [e])).symm
 ·exact (oI a b [] i (by omega) (by omega) hi.2.2).2 h2
 ·refine (decide_eq_true ?_).symm
  have:=hi.2.2
  rwa [List.take_of_length_le (by omega),List.take_of_length_le (by omega)] at this
theorem CU:Fits Try.prog 9 ⟨[],qd⟩:=by
 refine aY (Γ:=ai CT) (aC JZ aQ) Try.func9 fun ds p h hp=>?_
 unfold qd at h;split at h
 ·cases h
  exact ⟨aj,CR _ _ ,by rw [Ko];exact Kp _ _  hp⟩
 ·cases h
def aZ:List (List Int)→Int→List (List Int)
 | [],_=>[]
 | r::l,k=>bM k r.length::aZ l (k+(r.length:Int))
theorem jT:∀(l:List (List Int)) (k:Int),(aZ l k).length=l.length
 | [],_=>rfl
 | r::l,k=>by simp [aZ,jT l]
theorem vW:∀(l:List (List Int)) (k:Int),(aZ l k).map List.length=l.map List.length
 | [],_=>rfl
 | r::l,k=>by simp [aZ,aI,vW l]
theorem vX:∀(a b:List (List Int)) (k:Int),aZ (a++b) k=aZ a k++aZ b (k+(am a:Int))
 | [],b,k=>by simp [aZ,am]
 | r::a,b,k=>by
  simp only [List.cons_append,aZ,vX a b,am,List.map_cons,List.sum_cons];rw [show k+((r.length+(a.map List.length).sum:Nat):Int)=k+(r.length:Int)+((a.map List.length).sum:Int) by omega]
theorem qe (l:List (List Int)) (k:Int) (i:Nat) (h:i<l.length):aZ (l.take (i+1)) k=aZ (l.take i) k++[bM (k+(am (l.take i):Int)) (l.getD i []).length]:=by
 rw [←dK l [] i h,vX];rfl
theorem Kq (l:List (List Int)) (k:Int) (i:Nat) (h:i<l.length):(aZ l k).getD i []=bM (k+(am (l.take i):Int)) (l.getD i []).length:=by
 have hl:(aZ (l.take i) k).length=i:=by rw [jT,List.length_take];omega
 conv=>lhs;rw [←List.take_append_drop (i+1) l]
 rw [vX,qe l k i h,List.append_assoc,getD_append_right' _ _ _ _ (by omega),hl,Nat.sub_self]
 rfl
theorem qf:∀(l:List (List Int)) (k:Int),am (aZ l k)=am l
 | [],_=>rfl
 | r::l,k=>by
  have:=qf l (k+(r.length:Int))
  simp only [am,aZ,List.map_cons,List.sum_cons,aI] at this ⊢;rw [this]
theorem vY:∀(l:List (List Int)) (k:Int),aZ (aZ l k) k=aZ l k
 | [],_=>rfl
 | r::l,k=>by simp only [aZ,aI,vY l]
def qg (l:List (List Int)) (k:Int):Post:=⟨l.length≤1048576∧am l≤1048576∧0≤k∧k≤1073741824,.c (.int .i64 (k+(am l:Int))),[.rows 42 2 .i64 (aZ l k)]⟩
def vZ:List AD→Option Post
 | [.c (.rows .i64 (l)),.c (.int .i64 (k))]=>some (qg l k)
 | _=>none
def CV (l:List (List Int)) (k:Int):Nat→Option Ann
 | 0=>some (Ann.mk ((Nat)) (fun i=>⟨[(0,.c (.own (700))),(1,.c (.int .i64 (k+(am (l.take i):Int)))),(5,.c (.int .i64 ((i:Int))))],[(700,some (.rows 0 42 2 .i64 (aZ (l.take i) k++l.drop i)))]⟩) (fun i=>i≤l.length) (fun i=>l.length - i) (fun _=>ax))
 | _=>none
def CW:List (Nat×Ctr):=[(33,⟨[(0,0)],vG⟩)]
def lH (l:List (List Int)) (k:Int) (x0:Nat):=((aZ (List.take x0 l) k++List.drop x0 l).getD ((↑x0:Int).toNat) [])
def wa (l:List (List Int)) (k:Int):Prop :=
 ((∃x0:Nat,((x0≤l.length)∧((k=k+(↑(am (List.take x0 l)):Int))∧(((0:Int)=(↑x0:Int))∧(l=aZ (List.take x0 l) k++List.drop x0 l)))))∧(∀x1:Nat,((x1≤l.length)→(ae (decide ((↑x1:Int)<(↑((aZ (List.take x1 l) k++List.drop x1 l).length):Int))) ((aa (↑x1:Int) ((aZ (List.take x1 l) k++List.drop x1 l).length))∧((((ag ((lH l k x1).length))∧(((0:Int)≤k+(↑(am (List.take x1 l)):Int))∧(k+(↑(am (List.take x1 l)):Int)≤(1099511627776:Int))))∧((bM (k+(↑(am (List.take x1 l)):Int)) ((lH l k x1).length)).length=(lH l k x1).length))∧((af ((↑x1:Int)+(1:Int)))∧(∃x2:Nat,((x2≤l.length)∧((l.length - x2<l.length - x1)∧((k+(↑(am (List.take x1 l)):Int)+(↑((lH l k x1).length):Int)=k+(↑(am (List.take x2 l)):Int))∧(((↑x1:Int)+(1:Int)=(↑x2:Int))∧(List.set (aZ (List.take x1 l) k++List.drop x1 l) ((↑x1:Int).toNat) (bM (k+(↑(am (List.take x1 l)):Int)) ((lH l k x1).length))=aZ (List.take x2 l) k++List.drop x2 l))))))))) ((k+(↑(am (List.take x1 l)):Int)=k+(↑(am l):Int))∧((aZ (List.take x1 l) k++List.drop x1 l=aZ l k)∧True))))))
theorem Kr (l:List (List Int)) (k:Int):aS Try.prog (ai CW) aj (CV l k) Try.f12 (aM Try.f12) [(0,0)] [.c (.rows .i64 (l)),.c (.int .i64 (k))] (qg l k)=wa l k:=by kernel_rfl
theorem Ks (l:List (List Int)) (k:Int) (Yh:(qg l k).pre):wa l k:=by
 simp only [qg,wa,lH,aR,u1,u2,u3,u4,u5,u6,u7,u8,u9,v1,v2,v3,v4,v5,v6,v7,v8,v9,w1,w2,w3,w4,aI,aa,af,ag,aw] at Yh ⊢;obtain ⟨h1,h2,h3,h4⟩:=Yh;refine ⟨⟨0,by omega,by simp [am],rfl,by simp [aZ]⟩,fun i hi=>?_⟩
 have hlen:(aZ (l.take i) k).length=i:=by rw [jT,List.length_take];omega
 rw [hlen];refine ⟨fun h=>?_,fun h=>?_⟩
 ·have q1:=pY l i (by omega)
  have q2:=pZ l (i+1)
  have hg:(aZ (l.take i) k++l.drop i).getD i []=l.getD i []:=by
   rw [getD_append_right' _ _ _ _ (by omega),hlen,oJ];simp
  have q3:=p9 (bN l [] i (by omega))
  rw [hg];refine ⟨by omega,by omega,by omega,i+1,by omega,by omega,by omega,by omega,?_⟩
  rw [qe l k i (by omega),List.set_append_right _ _ (by omega),hlen,Nat.sub_self,drop_cons' l [] i (by omega),List.set_cons_zero]
  simp
 ·rw [List.take_of_length_le (by omega),List.drop_of_length_le (by omega),List.append_nil]
  exact ⟨rfl,rfl⟩
theorem Kt:Fits Try.prog 12 ⟨[(0,0)],vZ⟩:=by
 refine aY (Γ:=ai CW) (aC J2 aQ) Try.func12 fun ds p h hp=>?_
 unfold vZ at h;split at h
 ·cases h
  exact ⟨aj,CV _ _ ,by rw [Kr];exact Ks _ _  hp⟩
 ·cases h
def qh (l:List (List Int)) (k:Int):Post:=⟨l.length≤1048576∧am l≤1048576∧0≤k∧k≤1073741824,.c (.int .i64 (if l=aZ l k then k+(am l:Int) else -1)),[]⟩
def wb:List AD→Option Post
 | [.c (.rows .i64 (l)),.c (.int .i64 (k))]=>some (qh l k)
 | _=>none
def CX (l:List (List Int)) (k:Int):Nat→Option Ann
 | 0=>some (Ann.mk ((Nat)) (fun i=>⟨[(0,.c (.ro (.rows .i64 (l)))),(1,.c (.int .i64 (k+(am (l.take i):Int)))),(5,.c (.int .i64 ((i:Int))))],[]⟩) (fun i=>i≤l.length∧l.take i=aZ (l.take i) k) (fun i=>l.length - i) (fun _=>ax))
 | _=>none
def CY:List (Nat×Ctr):=[(34,⟨[],vI⟩)]
def wc (l:List (List Int)) (k:Int):Prop :=
 ((∃x0:Nat,(((x0≤l.length)∧(List.take x0 l=aZ (List.take x0 l) k))∧((l=l)∧((k=k+(↑(am (List.take x0 l)):Int))∧((0:Int)=(↑x0:Int))))))∧(∀x1:Nat,(((x1≤l.length)∧(List.take x1 l=aZ (List.take x1 l) k))→(ae (decide ((↑x1:Int)<(↑(l.length):Int))) ((aa (↑x1:Int) (l.length))∧((((ag ((l.getD ((↑x1:Int).toNat) []).length))∧(((0:Int)≤k+(↑(am (List.take x1 l)):Int))∧(k+(↑(am (List.take x1 l)):Int)≤(1099511627776:Int))))∧True)∧(ae (decide ((if l.getD ((↑x1:Int).toNat) []=bM (k+(↑(am (List.take x1 l)):Int)) ((l.getD ((↑x1:Int).toNat) []).length) then k+(↑(am (List.take x1 l)):Int)+(↑((l.getD ((↑x1:Int).toNat) []).length):Int) else (-1:Int))<(0:Int))) (((-1:Int)=if l=aZ l k then k+(↑(am l):Int) else (-1:Int))∧True) ((af ((↑x1:Int)+(1:Int)))∧(∃x2:Nat,(((x2≤l.length)∧(List.take x2 l=aZ (List.take x2 l) k))∧((l.length - x2<l.length - x1)∧((l=l)∧(((if l.getD ((↑x1:Int).toNat) []=bM (k+(↑(am (List.take x1 l)):Int)) ((l.getD ((↑x1:Int).toNat) []).length) then k+(↑(am (List.take x1 l)):Int)+(↑((l.getD ((↑x1:Int).toNat) []).length):Int) else (-1:Int))=k+(↑(am (List.take x2 l)):Int))∧((↑x1:Int)+(1:Int)=(↑x2:Int))))))))))) ((k+(↑(am (List.take x1 l)):Int)=if l=aZ l k then k+(↑(am l):Int) else (-1:Int))∧True)))))
theorem Ku (l:List (List Int)) (k:Int):aS Try.prog (ai CY) aj (CX l k) Try.f13 (aM Try.f13) [] [.c (.rows .i64 (l)),.c (.int .i64 (k))] (qh l k)=wc l k:=by kernel_rfl
theorem Kv (l:List (List Int)) (k:Int) (Yh:(qh l k).pre):wc l k:=by
 simp only [qh,wc,aR,u1,u2,u3,u4,u5,u6,u7,u8,u9,v1,v2,v3,v4,v5,v6,v7,v8,v9,w1,w2,w3,w4,aI,aa,af,ag,aw] at Yh ⊢;obtain ⟨h1,h2,h3,h4⟩:=Yh;refine ⟨⟨0,⟨by omega,rfl⟩,by simp [am],rfl⟩,fun i ⟨hi,he⟩=>⟨fun h=>?_,fun h=>?_⟩⟩
 ·have q1:=pY l i (by omega)
  have q2:=pZ l (i+1)
  have q3:=p9 (bN l [] i (by omega))
  refine ⟨by omega,by omega,fun h5=>?_,fun h5=>?_⟩
  ·split at h5
   ·omega
   ·rename_i h6
    rw [if_neg];intro e
    apply h6
    conv=>lhs;rw [e]
    exact Kq l k i (by omega)
  ·split at h5
   ·rename_i h6
    refine ⟨by omega,i+1,⟨by omega,?_⟩,by omega,?_,by omega⟩
    ·rw [qe l k i (by omega),←he,←h6,dK _ _ _ (by omega)]
    ·rw [if_pos h6];omega
   ·omega
 ·rw [List.take_of_length_le (by omega)] at he ⊢
  rw [if_pos he]
theorem Kw:Fits Try.prog 13 ⟨[],wb⟩:=by
 refine aY (Γ:=ai CY) (aC J5 aQ) Try.func13 fun ds p h hp=>?_
 unfold wb at h;split at h
 ·cases h
  exact ⟨aj,CX _ _ ,by rw [Ku];exact Kv _ _  hp⟩
 ·cases h
theorem Kx {t:List (List Int)} {k:Int} (h:¬ (if k<(t.length:Int)+(am t:Int) then (-1:Int) else k - (t.length:Int) - (am t:Int))<0) (hk:k≤1048576:=by omega) :
  t.length≤1048576∧am t≤1048576∧bk t:=by
 split at h
 ·omega
 ·refine ⟨by omega,by omega,by omega,fun r hr=>?_⟩
  have:=p9 hr
  omega
end Go.Sx
