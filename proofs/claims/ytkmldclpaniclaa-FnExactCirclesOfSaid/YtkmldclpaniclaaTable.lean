/- Table -/
import Derived.Test.YtkmldclpaniclaaLists
open Go Go.Proofs
namespace Go.Sx
set_option linter.unusedSimpArgs false
set_option linter.unusedVariables false
theorem Qc {α:Type} {l:List α} (d:α) (p:α→Bool) {i:Nat} (h:i<l.length):(l.drop i).all p=(p (l.getD i d)&&(l.drop (i+1)).all p):=by
 rw [drop_cons' l d i h];rfl
theorem Qd {α:Type} {l:List α} (d:α) {p:α→Bool} (h:l.all p=true) (i:Nat) (hi:i<l.length):p (l.getD i d)=true :=
 List.all_eq_true.1 h _ (bN l d i hi)
theorem As {α:Type} (a b:List α) (r d:α) (i:Nat) (h:a.length=i):(a++r::b).getD i d=r:=by
 rw [getD_append_right' _ _ _ _ (by omega),h,Nat.sub_self];rfl
theorem tu {α:Type} (a b:List α) (r v:α) (i:Nat) (h:a.length=i):(a++r::b).set i v=a++v::b:=by
 rw [List.set_append_right _ _ (by omega),h,Nat.sub_self];rfl
def dq (n:Int) (r:List Int):Bool:=decide ((r.length:Int)=n)&&c9 0 (n - 1) r
def cf (t:List (List Int)):Bool:=decide (1≤(t.length:Int)∧(t.length:Int)≤12)&&t.all (dq (t.length:Int))
theorem Qe {n:Int} {r:List Int} (h:dq n r=true):(r.length:Int)=n∧c9 0 (n - 1) r=true:=by
 simpa [dq] using h
theorem mQ {t:List (List Int)} (h:cf t=true):1≤t.length∧t.length≤12 ∧
  ∀x,x<t.length→(t.getD x []).length=t.length∧∀y,y<t.length→0≤(t.getD x []).getD y 0∧(t.getD x []).getD y 0≤(t.length:Int) - 1:=by
 simp only [cf,Bool.and_eq_true,decide_eq_true_eq] at h;refine ⟨by omega,by omega,fun x hx=>?_⟩
 obtain ⟨h1,h2⟩:=Qe (Qd [] h.2 x hx);exact ⟨by omega,fun y hy=>Kd h2 y (by omega)⟩
theorem Hr {t:List (List Int)} (h:¬ (1≤(t.length:Int)∧(t.length:Int)≤12)):cf t=false:=by simp only [cf,decide_eq_false h,Bool.false_and]
def tv (t:List (List Int)):Post:=⟨bk t,.c (.bool (cf t)),[]⟩
def Au:List AD→Option Post
 | [.c (.rows .i64 (t))]=>some (tv t)
 | _=>none
def Hs (t:List (List Int)):Nat→Option Ann
 | 0=>some (Ann.mk ((Nat)) (fun i=>⟨[(0,.c (.ro (.rows .i64 (t)))),(3,.c (.int .i64 ((t.length:Int)))),(4,.c (.int .i64 ((i:Int))))],[]⟩) (fun i=>i≤t.length∧1≤t.length∧t.length≤12∧t.all (dq (t.length:Int))=(t.drop i).all (dq (t.length:Int))) (fun i=>t.length - i) (fun i=>fun b_=>match b_ with | 2=>some (Ann.mk ((Nat)) (fun j=>⟨[(0,.c (.ro (.rows .i64 (t)))),(3,.c (.int .i64 ((t.length:Int)))),(4,.c (.int .i64 ((i:Int)))),(5,.c (.int .i64 ((j:Int))))],[]⟩) (fun j=>j≤t.length∧i<t.length∧(t.getD i []).length=t.length∧c9 0 ((t.length:Int) - 1) (t.getD i [])=c9 0 ((t.length:Int) - 1) ((t.getD i []).drop j)) (fun j=>t.length - j) (fun _=>ax)) | _=>none))
 | _=>none
def Ht:List (Nat×Ctr):=[(54,⟨[],pW⟩)]
def Av (t:List (List Int)):Prop :=
 ((True∧True)∧(ae (!decide ((1:Int)≤(↑(t.length):Int)∧(↑(t.length):Int)≤(12:Int))) ((false=cf t)∧True) ((∃x0:Nat,(((x0≤t.length)∧(((1:Nat)≤t.length)∧((t.length≤(12:Nat))∧(List.all t (dq (↑(t.length):Int))=List.all (List.drop x0 t) (dq (↑(t.length):Int))))))∧((t=t)∧(((↑(t.length):Int)=(↑(t.length):Int))∧((0:Int)=(↑x0:Int))))))∧(∀x1:Nat,(((x1≤t.length)∧(((1:Nat)≤t.length)∧((t.length≤(12:Nat))∧(List.all t (dq (↑(t.length):Int))=List.all (List.drop x1 t) (dq (↑(t.length):Int))))))→(ae (decide ((↑x1:Int)<(↑(t.length):Int))) ((aa (↑x1:Int) (t.length))∧(ae ((↑((t.getD ((↑x1:Int).toNat) []).length):Int) != (↑(t.length):Int)) ((false=cf t)∧True) ((∃x2:Nat,(((x2≤t.length)∧((x1<t.length)∧(((t.getD x1 []).length=t.length)∧(c9 (0:Int) ((↑(t.length):Int) - (1:Int)) (t.getD x1 [])=c9 (0:Int) ((↑(t.length):Int) - (1:Int)) (List.drop x2 (t.getD x1 []))))))∧((t=t)∧(((↑(t.length):Int)=(↑(t.length):Int))∧(((↑x1:Int)=(↑x1:Int))∧((0:Int)=(↑x2:Int)))))))∧(∀x3:Nat,(((x3≤t.length)∧((x1<t.length)∧(((t.getD x1 []).length=t.length)∧(c9 (0:Int) ((↑(t.length):Int) - (1:Int)) (t.getD x1 [])=c9 (0:Int) ((↑(t.length):Int) - (1:Int)) (List.drop x3 (t.getD x1 []))))))→(ae (decide ((↑x3:Int)<(↑(t.length):Int))) ((aa (↑x1:Int) (t.length))∧((aa (↑x3:Int) ((t.getD ((↑x1:Int).toNat) []).length))∧((af ((↑(t.length):Int) - (1:Int)))∧((True∧True) ∧
 (ae (!decide ((0:Int)≤(List.getD t ((↑x1:Int).toNat) []).getD ((↑x3:Int).toNat) (0:Int)∧(List.getD t ((↑x1:Int).toNat) []).getD ((↑x3:Int).toNat) (0:Int)≤(↑(t.length):Int) - (1:Int))) ((false=cf t)∧True) ((af ((↑x3:Int)+(1:Int)))∧(∃x4:Nat,(((x4≤t.length)∧((x1<t.length)∧(((t.getD x1 []).length=t.length)∧(c9 (0:Int) ((↑(t.length):Int) - (1:Int)) (t.getD x1 [])=c9 (0:Int) ((↑(t.length):Int) - (1:Int)) (List.drop x4 (t.getD x1 []))))))∧((t.length - x4<t.length - x3)∧((t=t)∧(((↑(t.length):Int)=(↑(t.length):Int))∧(((↑x1:Int)=(↑x1:Int))∧((↑x3:Int)+(1:Int)=(↑x4:Int)))))))))))))) ((af ((↑x1:Int)+(1:Int)))∧(∃x5:Nat,(((x5≤t.length)∧(((1:Nat)≤t.length)∧((t.length≤(12:Nat))∧(List.all t (dq (↑(t.length):Int))=List.all (List.drop x5 t) (dq (↑(t.length):Int))))))∧((t.length - x5<t.length - x1)∧((t=t)∧(((↑(t.length):Int)=(↑(t.length):Int))∧((↑x1:Int)+(1:Int)=(↑x5:Int)))))))))))))) ((true=cf t)∧True)))))))
theorem Qf (t:List (List Int)):aS Try.prog (ai Ht) aj (Hs t) Try.f39 (aM Try.f39) [] [.c (.rows .i64 (t))] (tv t)=Av t:=by kernel_rfl
theorem Qg (t:List (List Int)) (Yh:(tv t).pre):Av t:=by
 simp only [tv,Av,aR,u1,u2,u3,u4,u5,u6,u7,u8,u9,v1,v2,v3,v4,v5,v6,v7,v8,v9,w1,w2,w3,w4,aI,aa,af,ag,aw] at Yh ⊢;have hr:=Yh
 refine ⟨fun h=>(Hr h).symm,fun hn=>⟨⟨0,⟨by omega,by omega,by omega,rfl⟩,rfl⟩,fun i ⟨hi,_,_,he⟩=>⟨fun h=>?_,fun h=>?_⟩⟩⟩
 ·have hd:=Qc [] (dq (t.length:Int)) (show i<t.length by omega)
  have no:dq (t.length:Int) (t.getD i [])=false→false=cf t:=fun h=>by rw [cf,he,hd,h];simp
  refine ⟨by omega,fun h1=>no (by rw [dq,decide_eq_false h1];rfl),fun h1=>⟨⟨0,⟨by omega,by omega,by omega,rfl⟩,rfl⟩,fun j ⟨hj,_,hl,ha⟩=>⟨fun h2=>?_,fun h2=>?_⟩⟩⟩
  ·have hd2:=CG 0 ((t.length:Int) - 1) (t.getD i []) j (by omega)
   refine ⟨by omega,by omega,by omega,fun h3=>no ?_,fun h3=>⟨by omega,j+1,⟨by omega,by omega,hl,?_⟩,by omega,by omega⟩⟩
   ·rw [dq,ha,hd2,decide_eq_false h3];simp
   ·rw [ha,hd2,decide_eq_true h3];rfl
  ·refine ⟨by omega,i+1,⟨by omega,by omega,by omega,?_⟩,by omega,by omega⟩
   have:dq (t.length:Int) (t.getD i [])=true:=by
    rw [dq,decide_eq_true h1,ha,List.drop_of_length_le (by omega)];rfl
   rw [he,hd,this];rfl
 ·rw [cf,he,decide_eq_true hn,List.drop_of_length_le (by omega)];rfl
theorem Qh:Fits Try.prog 39 ⟨[],Au⟩:=by
 refine aY (Γ:=ai Ht) (aC CF aQ) Try.func39 fun ds p h hp=>?_
 unfold Au at h;split at h
 ·cases h
  exact ⟨aj,Hs _ ,by rw [Qf];exact Qg _  hp⟩
 ·cases h
def eO (p:List Int→Bool):List (List Int)→Int→Int
 | [],_=>-1
 | x::l,k=>if p x=true then k else eO p l (k+1)
theorem Hu (p:List Int→Bool):∀(l:List (List Int)) (k:Int),0≤k→decide (0≤eO p l k)=l.any p
 | [],k,_=>rfl
 | x::l,k,h=>by
  simp only [eO,List.any_cons];by_cases hp:p x=true
  ·simp [hp,h]
  ·simpa [hp] using Hu p l (k+1) (by omega)
def tw (l:List (List Int)) (q:List Int→Prop) (p:List Int→Bool):Post:=⟨l.length≤1099511627776∧∀x∈l,q x,.c (.int .i64 (eO p l 0)),[]⟩
def Aw:List AD→Option Post
 | [.c (.rows .i64 (l)),.fv (.lb q p)]=>some (tw l q p)
 | _=>none
def Hv (l:List (List Int)) (q:List Int→Prop) (p:List Int→Bool):Nat→Option Ann
 | 0=>some (Ann.mk ((Nat)) (fun i=>⟨[(0,.c (.ro (.rows .i64 (l)))),(1,.fv (.lb q p)),(7,.c (.int .i64 ((l.length:Int)))),(8,.c (.int .i64 ((i:Int))))],[]⟩) (fun i=>i≤l.length∧eO p l 0=eO p (l.drop i) (i:Int)) (fun i=>l.length - i) (fun _=>ax))
 | _=>none
def Hw:List (Nat×Ctr):=[]
def Ax (l:List (List Int)) (q:List Int→Prop) (p:List Int→Bool):Prop :=
 ((∃x0:Nat,(((x0≤l.length)∧(eO p l (0:Int)=eO p (List.drop x0 l) (↑x0:Int)))∧((l=l)∧((FV.lb q p=FV.lb q p)∧(((↑(l.length):Int)=(↑(l.length):Int))∧((0:Int)=(↑x0:Int)))))))∧(∀x1:Nat,(((x1≤l.length)∧(eO p l (0:Int)=eO p (List.drop x1 l) (↑x1:Int)))→(ae (decide ((↑x1:Int)<(↑(l.length):Int))) ((aa (↑x1:Int) (l.length))∧((q (l.getD ((↑x1:Int).toNat) []))∧(ae (p (l.getD ((↑x1:Int).toNat) [])) (((↑x1:Int)=eO p l (0:Int))∧True) ((af ((↑x1:Int)+(1:Int)))∧(∃x2:Nat,(((x2≤l.length)∧(eO p l (0:Int)=eO p (List.drop x2 l) (↑x2:Int)))∧((l.length - x2<l.length - x1)∧((l=l)∧((FV.lb q p=FV.lb q p)∧(((↑(l.length):Int)=(↑(l.length):Int))∧((↑x1:Int)+(1:Int)=(↑x2:Int)))))))))))) (((-1:Int)=eO p l (0:Int))∧True)))))
theorem Qi (l:List (List Int)) (q:List Int→Prop) (p:List Int→Bool):aS Try.prog (ai Hw) aj (Hv l q p) Try.f109 (aM Try.f109) [] [.c (.rows .i64 (l)),.fv (.lb q p)] (tw l q p)=Ax l q p:=by kernel_rfl
theorem Qj (l:List (List Int)) (q:List Int→Prop) (p:List Int→Bool) (Yh:(tw l q p).pre):Ax l q p:=by
 simp only [tw,Ax,aR,u1,u2,u3,u4,u5,u6,u7,u8,u9,v1,v2,v3,v4,v5,v6,v7,v8,v9,w1,w2,w3,w4,aI,aa,af,ag,aw] at Yh ⊢;obtain ⟨hl,hq⟩:=Yh;refine ⟨⟨0,⟨by omega,rfl⟩,rfl⟩,fun i ⟨hi,he⟩=>⟨fun h=>?_,fun h=>?_⟩⟩
 ·rw [drop_cons' l [] i (by omega)] at he
  simp only [eO] at he;refine ⟨by omega,hq _ (bN l [] i (by omega)),fun h1=>?_,fun h1=>⟨by omega,i+1,⟨by omega,?_⟩,by omega,by omega⟩⟩
  ·rw [he,if_pos h1]
  ·rw [he,if_neg (by rw [h1];exact Bool.false_ne_true)];simp
 ·rw [he,List.drop_of_length_le (by omega)];rfl
theorem Qk:Fits Try.prog 109 ⟨[],Aw⟩:=by
 refine aY (Γ:=ai Hw) aQ Try.func109 fun ds p h hp=>?_
 unfold Aw at h;split at h
 ·cases h
  exact ⟨aj,Hv _ _ _ ,by rw [Qi];exact Qj _ _ _  hp⟩
 ·cases h
def tz (l:List (List Int)) (q:List Int→Prop) (p:List Int→Bool):Post:=⟨l.length≤1099511627776∧∀x∈l,q x,.c (.bool (l.any p)),[]⟩
def tA:List AD→Option Post
 | [.c (.rows .i64 (l)),.fv (.lb q p)]=>some (tz l q p)
 | _=>none
def Hx:List (Nat×Ctr):=[(109,⟨[],Aw⟩)]
def Ay (l:List (List Int)) (q:List Int→Prop) (p:List Int→Bool):Prop :=
 ((((l.length≤(1099511627776:Nat))∧(∀(x:List Int),x∈l→q x))∧True)∧((decide ((0:Int)≤eO p l (0:Int))=List.any l p)∧True))
theorem Ql (l:List (List Int)) (q:List Int→Prop) (p:List Int→Bool):aS Try.prog (ai Hx) aj ax Try.f87 (aM Try.f87) [] [.c (.rows .i64 (l)),.fv (.lb q p)] (tz l q p)=Ay l q p:=by kernel_rfl
theorem Qm (l:List (List Int)) (q:List Int→Prop) (p:List Int→Bool) (Yh:(tz l q p).pre):Ay l q p:=by
 simp only [tz,Ay,aR,u1,u2,u3,u4,u5,u6,u7,u8,u9,v1,v2,v3,v4,v5,v6,v7,v8,v9,w1,w2,w3,w4,aI,aa,af,ag,aw] at Yh ⊢;exact ⟨Yh,Hu p l 0 (by omega)⟩
theorem Hy:Fits Try.prog 87 ⟨[],tA⟩:=by
 refine aY (Γ:=ai Hx) (aC Qk aQ) Try.func87 fun ds p h hp=>?_
 unfold tA at h;split at h
 ·cases h
  exact ⟨aj,ax,by rw [Ql];exact Qm _ _ _  hp⟩
 ·cases h
def tB (r:List Int) (n:Int):Post:=⟨r.length≤1099511627776∧1≤n∧n≤12,.c (.bool (!dq n r)),[]⟩
def Az:List AD→Option Post
 | [.c (.ints .i64 (r)),.box [.int .i64 (n)]]=>some (tB r n)
 | _=>none
def Hz:List (Nat×Ctr):=[(89,⟨[],vP⟩)]
def AA (r:List Int) (n:Int):Prop :=
 (ae ((↑(r.length):Int) != n) ((true=!dq n r)∧True) ((af (n - (1:Int)))∧(((ag (r.length))∧True)∧(((!c9 (0:Int) (n - (1:Int)) r)=!dq n r)∧True))))
theorem Qn (r:List Int) (n:Int):aS Try.prog (ai Hz) aj ax Try.f88 (aM Try.f88) [] [.c (.ints .i64 (r)),.box [.int .i64 (n)]] (tB r n)=AA r n:=by kernel_rfl
theorem Qo (r:List Int) (n:Int) (Yh:(tB r n).pre):AA r n:=by
 simp only [tB,AA,aR,u1,u2,u3,u4,u5,u6,u7,u8,u9,v1,v2,v3,v4,v5,v6,v7,v8,v9,w1,w2,w3,w4,aI,aa,af,ag,aw] at Yh ⊢;refine ⟨fun h=>by rw [dq,decide_eq_false h];rfl,fun h=>⟨by omega,Yh.1,?_⟩⟩
 rw [dq,decide_eq_true h];simp
theorem Qp:Fits Try.prog 88 ⟨[],Az⟩:=by
 refine aY (Γ:=ai Hz) (aC Kg aQ) Try.func88 fun ds p h hp=>?_
 unfold Az at h;split at h
 ·cases h
  exact ⟨aj,ax,by rw [Qn];exact Qo _ _  hp⟩
 ·cases h
def tC (t:List (List Int)):Post:=⟨bk t,.c (.bool (cf t)),[]⟩
def AB:List AD→Option Post
 | [.c (.rows .i64 (t))]=>some (tC t)
 | _=>none
def HA:List (Nat×Ctr):=[(86,⟨[],mZ⟩),(87,⟨[],tA⟩),(88,⟨[],Az⟩)]
def AC (t:List (List Int)):Prop :=
 ((True∧True)∧(ae (decide ((1:Int)≤(↑(t.length):Int)∧(↑(t.length):Int)≤(12:Int))) ((((t.length≤(1099511627776:Nat))∧(∀(x:List Int),x∈t→x.length≤(1099511627776:Nat)∧(1:Int)≤(↑(t.length):Int)∧(↑(t.length):Int)≤(12:Int)))∧True)∧(((!List.any t fun (x:List Int)=>!dq (↑(t.length):Int) x)=cf t)∧True)) ((false=cf t)∧True)))
theorem Qq (t:List (List Int)):aS Try.prog (ai HA) aj ax Try.f59 (aM Try.f59) [] [.c (.rows .i64 (t))] (tC t)=AC t:=by kernel_rfl
theorem Qr (t:List (List Int)) (Yh:(tC t).pre):AC t:=by
 simp only [tC,AC,aR,u1,u2,u3,u4,u5,u6,u7,u8,u9,v1,v2,v3,v4,v5,v6,v7,v8,v9,w1,w2,w3,w4,aI,aa,af,ag,aw] at Yh ⊢;refine ⟨fun h=>⟨⟨Yh.1,fun x hx=>⟨Yh.2 x hx,h⟩⟩,?_⟩,fun h=>(Hr h).symm⟩
 rw [cf,decide_eq_true h,Bool.true_and,List.all_eq_not_any_not,Bool.not_not]
theorem Qs:Fits Try.prog 59 ⟨[],AB⟩:=by
 refine aY (Γ:=ai HA) (aC vN (aC Hy (aC Qp aQ))) Try.func59 fun ds p h hp=>?_
 unfold AB at h;split at h
 ·cases h
  exact ⟨aj,ax,by rw [Qq];exact Qr _  hp⟩
 ·cases h
def cC (n:Nat) (f:Nat→Nat→Int):List (List Int):=(List.range n).map fun x=>aE n (f x)
theorem AE (n:Nat) (f:Nat→Nat→Int):(cC n f).length=n:=by simp [cC]
theorem Qt (n:Nat) (f:Nat→Nat→Int) (x:Nat) (h:x<n):(cC n f).getD x []=aE n (f x):=by
 simp [cC,List.getD_eq_getElem?_getD,h]
def tD (n:Int) (q:Int→Int→Prop) (p:Int→Int→Int):Post:=⟨0≤n∧n≤144∧(∀x y,0≤x→x<n→0≤y→y<n→q x y),.c (.rows 42 2 .i64 (cC n.toNat (fun x y=>p (x:Int) (y:Int)))),[]⟩
def AF:List AD→Option Post
 | [.c (.int .i64 (n)),.fv (.iii q p)]=>some (tD n q p)
 | _=>none
def HB (n:Int) (q:Int→Int→Prop) (p:Int→Int→Int):Nat→Option Ann
 | 0=>some (Ann.mk ((Nat)) (fun i=>⟨[(0,.c (.int .i64 (n))),(1,.fv (.iii q p)),(5,.c (.own (9))),(11,.c (.int .i64 (n))),(12,.c (.int .i64 ((i:Int))))],[(9,some (.rows 0 42 2 .i64 ((cC n.toNat (fun x y=>p (x:Int) (y:Int))).take i++List.replicate (n.toNat - i) [])))]⟩) (fun i=>(i:Int)≤n) (fun i=>n.toNat - i) (fun i=>fun b_=>match b_ with | 2=>some (Ann.mk ((Nat)) (fun j=>⟨[(0,.c (.int .i64 (n))),(1,.fv (.iii q p)),(5,.c (.own (9))),(11,.c (.int .i64 (n))),(12,.c (.int .i64 ((i:Int)))),(6,.c (.int .i64 ((i:Int)))),(24,.c (.int .i64 (n))),(25,.c (.int .i64 ((j:Int))))],[(9,some (.rows 0 42 2 .i64 ((cC n.toNat (fun x y=>p (x:Int) (y:Int))).take i++((aE n.toNat fun y=>p (i:Int) (y:Int)).take j++List.replicate (n.toNat - j) 0)::List.replicate (n.toNat - (i+1)) [])))]⟩) (fun j=>(j:Int)≤n∧(i:Int)<n) (fun j=>n.toNat - j) (fun _=>ax)) | _=>none))
 | _=>none
def HC:List (Nat×Ctr):=[]
def AG (n:Int) (q:Int→Int→Prop) (p:Int→Int→Int):Prop :=
 ((((0:Int)≤n)∧((n≤n)∧(ag (n.toNat))))∧((∃x0:Nat,(((↑x0:Int)≤n)∧((n=n)∧((FV.iii q p=FV.iii q p)∧(((↑((List.replicate (n.toNat) ([]:List Int)).length):Int)=n)∧(((0:Int)=(↑x0:Int))∧(List.replicate (n.toNat) ([]:List Int)=List.take x0 (cC (n.toNat) fun (x y:Nat)=>p (↑x:Int) (↑y:Int))++List.replicate (n.toNat - x0) ([]:List Int))))))))∧(∀x1:Nat,(((↑x1:Int)≤n)→(ae (decide ((↑x1:Int)<n)) ((((0:Int)≤n)∧((n≤n)∧(ag (n.toNat))))∧((aa (↑x1:Int) ((List.take x1 (cC (n.toNat) fun (x y:Nat)=>p (↑x:Int) (↑y:Int))++List.replicate (n.toNat - x1) ([]:List Int)).length))∧((aa (↑x1:Int) ((List.set (List.take x1 (cC (n.toNat) fun (x y:Nat)=>p (↑x:Int) (↑y:Int))++List.replicate (n.toNat - x1) ([]:List Int)) ((↑x1:Int).toNat) (List.replicate (n.toNat) (0:Int))).length))∧((∃x2:Nat,((((↑x2:Int)≤n)∧((↑x1:Int)<n))∧((n=n)∧((FV.iii q p=FV.iii q p)∧((n=n)∧(((↑x1:Int)=(↑x1:Int))∧(((↑x1:Int)=(↑x1:Int))∧(((↑(((List.set (List.take x1 (cC (n.toNat) fun (x y:Nat)=>p (↑x:Int) (↑y:Int))++List.replicate (n.toNat - x1) ([]:List Int)) ((↑x1:Int).toNat) (List.replicate (n.toNat) (0:Int))).getD ((↑x1:Int).toNat) []).length):Int)=n)∧(((0:Int)=(↑x2:Int)) ∧
 (List.set (List.take x1 (cC (n.toNat) fun (x y:Nat)=>p (↑x:Int) (↑y:Int))++List.replicate (n.toNat - x1) ([]:List Int)) ((↑x1:Int).toNat) (List.replicate (n.toNat) (0:Int))=List.take x1 (cC (n.toNat) fun (x y:Nat)=>p (↑x:Int) (↑y:Int))++(List.take x2 (aE (n.toNat) fun (y:Nat)=>p (↑x1:Int) (↑y:Int))++List.replicate (n.toNat - x2) (0:Int))::List.replicate (n.toNat - (x1+(1:Nat))) []))))))))))∧(∀x3:Nat,((((↑x3:Int)≤n)∧((↑x1:Int)<n))→(ae (decide ((↑x3:Int)<n)) ((aa (↑x1:Int) ((List.take x1 (cC (n.toNat) fun (x y:Nat)=>p (↑x:Int) (↑y:Int))++(List.take x3 (aE (n.toNat) fun (y:Nat)=>p (↑x1:Int) (↑y:Int))++List.replicate (n.toNat - x3) (0:Int))::List.replicate (n.toNat - (x1+(1:Nat))) []).length))∧((q (↑x1:Int) (↑x3:Int))∧((aa (↑x3:Int) (((List.take x1 (cC (n.toNat) fun (x y:Nat)=>p (↑x:Int) (↑y:Int))++(List.take x3 (aE (n.toNat) fun (y:Nat)=>p (↑x1:Int) (↑y:Int))++List.replicate (n.toNat - x3) (0:Int))::List.replicate (n.toNat - (x1+(1:Nat))) []).getD ((↑x1:Int).toNat) []).length))∧((af ((↑x3:Int)+(1:Int)))∧(∃x4:Nat,((((↑x4:Int)≤n)∧((↑x1:Int)<n))∧((n.toNat - x4<n.toNat - x3)∧((n=n)∧((FV.iii q p=FV.iii q p)∧((n=n)∧(((↑x1:Int)=(↑x1:Int))∧(((↑x1:Int)=(↑x1:Int))∧((n=n)∧(((↑x3:Int)+(1:Int)=(↑x4:Int)) ∧
 (List.set (List.take x1 (cC (n.toNat) fun (x y:Nat)=>p (↑x:Int) (↑y:Int))++(List.take x3 (aE (n.toNat) fun (y:Nat)=>p (↑x1:Int) (↑y:Int))++List.replicate (n.toNat - x3) (0:Int))::List.replicate (n.toNat - (x1+(1:Nat))) []) ((↑x1:Int).toNat) (List.set ((List.take x1 (cC (n.toNat) fun (x y:Nat)=>p (↑x:Int) (↑y:Int))++(List.take x3 (aE (n.toNat) fun (y:Nat)=>p (↑x1:Int) (↑y:Int))++List.replicate (n.toNat - x3) (0:Int))::List.replicate (n.toNat - (x1+(1:Nat))) []).getD ((↑x1:Int).toNat) []) ((↑x3:Int).toNat) (p (↑x1:Int) (↑x3:Int)))=List.take x1 (cC (n.toNat) fun (x y:Nat)=>p (↑x:Int) (↑y:Int))++(List.take x4 (aE (n.toNat) fun (y:Nat)=>p (↑x1:Int) (↑y:Int))++List.replicate (n.toNat - x4) (0:Int))::List.replicate (n.toNat - (x1+(1:Nat))) []))))))))))))))) ((af ((↑x1:Int)+(1:Int)))∧(∃x5:Nat,(((↑x5:Int)≤n)∧((n.toNat - x5<n.toNat - x1)∧((n=n)∧((FV.iii q p=FV.iii q p)∧((n=n)∧(((↑x1:Int)+(1:Int)=(↑x5:Int))∧(List.take x1 (cC (n.toNat) fun (x y:Nat)=>p (↑x:Int) (↑y:Int))++(List.take x3 (aE (n.toNat) fun (y:Nat)=>p (↑x1:Int) (↑y:Int))++List.replicate (n.toNat - x3) (0:Int))::List.replicate (n.toNat - (x1+(1:Nat))) []=List.take x5 (cC (n.toNat) fun (x y:Nat)=>p (↑x:Int) (↑y:Int))++List.replicate (n.toNat - x5) ([]:List Int)))))))))))))))))
 ((List.take x1 (cC (n.toNat) fun (x y:Nat)=>p (↑x:Int) (↑y:Int))++List.replicate (n.toNat - x1) ([]:List Int)=cC (n.toNat) fun (x y:Nat)=>p (↑x:Int) (↑y:Int))∧True))))))
theorem Qu (n:Int) (q:Int→Int→Prop) (p:Int→Int→Int):aS Try.prog (ai HC) aj (HB n q p) Try.f77 (aM Try.f77) [] [.c (.int .i64 (n)),.fv (.iii q p)] (tD n q p)=AG n q p:=by kernel_rfl
theorem Qv (n:Int) (q:Int→Int→Prop) (p:Int→Int→Int) (Yh:(tD n q p).pre):AG n q p:=by
 simp only [tD,AG,aR,u1,u2,u3,u4,u5,u6,u7,u8,u9,v1,v2,v3,v4,v5,v6,v7,v8,v9,w1,w2,w3,w4,aI,aa,af,ag,aw] at Yh ⊢;obtain ⟨h0,h1,hq⟩:=Yh;have hT:=AE n.toNat fun x y=>p (x:Int) (y:Int)
 have hr:∀i:Nat,(aE n.toNat fun y=>p (i:Int) (y:Int)).length=n.toNat:=fun i=>fA _ _
 refine ⟨by omega,⟨0,by omega,by omega,rfl,by simp⟩,fun i hi=>?_⟩
 have hl:((cC n.toNat fun x y=>p (x:Int) (y:Int)).take i).length=i:=by rw [List.length_take];omega
 refine ⟨fun h=>?_,fun h=>?_⟩
 ·have hs:((cC n.toNat fun x y=>p (x:Int) (y:Int)).take i++List.replicate (n.toNat - i) ([]:List Int)).set i (List.replicate n.toNat 0) =
      (cC n.toNat fun x y=>p (x:Int) (y:Int)).take i++(List.replicate n.toNat 0)::List.replicate (n.toNat - (i+1)) []:=by
   rw [show n.toNat - i=(n.toNat - (i+1))+1 by omega,List.replicate_succ,tu _ _ _ _ _ hl]
  rw [hs];refine ⟨by omega,by omega,by omega,⟨0,by omega,?_,rfl,by simp⟩,fun j ⟨hj,_⟩=>⟨fun h2=>?_,fun h2=>?_⟩⟩
  ·rw [As _ _ _ _ _ hl];simp;omega
  ·rw [As _ _ _ _ _ hl,tu _ _ _ _ _ hl]
   have hd:((aE n.toNat fun y=>p (i:Int) (y:Int)).take j++List.replicate (n.toNat - j) 0).length=n.toNat:=by
    rw [List.length_append,List.length_take,List.length_replicate,hr];omega
   rw [hd];refine ⟨by omega,hq _ _ (by omega) h (by omega) h2,by omega,by omega,j+1,by omega,by omega,by omega,?_⟩
   have:=tp (aE n.toNat fun y=>p (i:Int) (y:Int)) 0 0 j (by rw [hr];omega)
   rw [hr,eY _ _ _ (by omega)] at this
   rw [this]
  ·refine ⟨by omega,i+1,by omega,by omega,by omega,?_⟩
   have e:(aE n.toNat fun y=>p (i:Int) (y:Int)).take j=aE n.toNat fun y=>p (i:Int) (y:Int):=List.take_of_length_le (by rw [hr];omega)
   rw [←dK (cC n.toNat fun x y=>p (x:Int) (y:Int)) [] i (by omega),Qt _ _ _ (by omega),show n.toNat - j=0 by omega,e]
   simp
 ·rw [List.take_of_length_le (by omega),show n.toNat - i=0 by omega];simp
theorem Qw:Fits Try.prog 77 ⟨[],AF⟩:=by
 refine aY (Γ:=ai HC) aQ Try.func77 fun ds p h hp=>?_
 unfold AF at h;split at h
 ·cases h
  exact ⟨aj,HB _ _ _ ,by rw [Qu];exact Qv _ _ _  hp⟩
 ·cases h
theorem Qx (n:Nat) (f:Nat→Nat→Int) (h:n≤144):bk (cC n f):=⟨by rw [AE];omega,fun r hr=>by
 simp only [cC,List.mem_map] at hr;obtain ⟨x,_,rfl⟩:=hr;rw [fA];omega⟩
end Go.Sx
