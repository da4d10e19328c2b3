/- Rack -/
import Derived.Test.YtkmldclpaniclaaTable
open Go Go.Proofs
namespace Go.Sx
set_option linter.unusedSimpArgs false
set_option linter.unusedVariables false
theorem kh:∀{a b:List Int},a.Nodup→(∀x∈a,x∈b)→a.length≤b.length
 | [],_,_,_=>Nat.zero_le _
 | x::a,b,hn,hs=>by
  rw [List.nodup_cons] at hn;have h1:x∈b:=hs x (by simp)
  have h2:=kh (b:=b.erase x) hn.2 fun y hy=>(List.mem_erase_of_ne (by rintro rfl;exact hn.1 hy)).2 (hs y (by simp [hy]))
  rw [List.length_erase_of_mem h1] at h2;have:=List.length_pos_of_mem h1
  simp only [List.length_cons];omega
def ints (n:Nat):List Int:=(List.range n).map fun i:Nat=>(i:Int)
theorem xf:∀n,(ints n).Nodup
 | 0=>by simp [ints]
 | n+1=>by
  have:ints (n+1)=ints n++[(n:Int)]:=by simp [ints,List.range_succ]
  rw [this,List.nodup_append];refine ⟨xf n,by simp,fun a ha b hb=>?_⟩
  simp only [ints,List.mem_map,List.mem_range] at ha;obtain ⟨i,hi,rfl⟩:=ha;simp at hb
  omega
theorem lV {n:Nat} {x:Int}:x∈ints n↔0≤x∧x<(n:Int):=by
 simp only [ints,List.mem_map,List.mem_range];exact ⟨by rintro ⟨i,hi,rfl⟩;omega,fun h=>⟨x.toNat,by omega,by omega⟩⟩
def cu (l:List Int):Bool:=decide ((∀x∈l,0≤x∧x<(l.length:Int))∧l.Nodup)
theorem xg {l:List Int}:cu l=true↔∀x:Int,0≤x→x<(l.length:Int)→x∈l:=by
 simp only [cu,decide_eq_true_eq]
 constructor
 ·rintro ⟨h1,h2⟩ x hx hx2
  refine Classical.byContradiction fun hn=>?_
  have:=kh (a:=x::l) (b:=ints l.length) (List.nodup_cons.2 ⟨hn,h2⟩) fun y hy=>by
   rcases List.mem_cons.1 hy with rfl | hy
   ·exact lV.2 ⟨hx,hx2⟩
   ·exact lV.2 (h1 y hy)
  simp [ints] at this
  omega
 ·intro h
  have sub:∀l':List Int,l'.length<l.length→¬ ∀x∈ints l.length,x∈l':=fun l' hl hc=>by
   have:=kh (xf l.length) hc
   simp [ints] at this
   omega
  have hall:∀x∈ints l.length,x∈l:=fun x hx=>h x (lV.1 hx).1 (lV.1 hx).2
  refine ⟨fun x hx=>Classical.byContradiction fun hn=>?_,Classical.byContradiction fun hn=>?_⟩
  ·refine sub (l.erase x) (by rw [List.length_erase_of_mem hx];have:=List.length_pos_of_mem hx;omega) fun y hy=>?_
   exact (List.mem_erase_of_ne (by rintro rfl;exact hn (lV.1 hy))).2 (hall y hy)
  ·rw [List.nodup_iff_count] at hn
   simp only [Classical.not_forall] at hn;obtain ⟨a,ha⟩:=hn;have hm:a∈l:=List.count_pos_iff.1 (by omega)
   have hm2:a∈l.erase a:=List.count_pos_iff.1 (by rw [List.count_erase_self];omega)
   refine sub (l.erase a) (by rw [List.length_erase_of_mem hm];have:=List.length_pos_of_mem hm;omega) fun y hy=>?_
   by_cases hya:y=a
   ·rw [hya];exact hm2
   ·exact (List.mem_erase_of_ne hya).2 (hall y hy)
def aV (x:Int):List Int→Int→Int
 | [],_=>-1
 | y::l,k=>if y=x then k else aV x l (k+1)
theorem EE (x:Int):∀(l:List Int) (k:Int),0≤k→decide (0≤aV x l k)=decide (x∈l)
 | [],k,_=>by simp [aV]
 | y::l,k,h=>by
  simp only [aV,List.mem_cons];by_cases hp:y=x
  ·simp [hp,h]
  ·simp only [hp,if_false,EE x l (k+1) (by omega)]
   have:¬ x=y:=fun e=>hp e.symm
   simp [this]
def qE (l:List Int) (n:Int):Post:=⟨l.length≤1099511627776,.c (.int .i64 (aV n l 0)),[]⟩
def xh:List AD→Option Post
 | [.c (.ints .i64 (l)),.c (.int .i64 (n))]=>some (qE l n)
 | _=>none
def EF (l:List Int) (n:Int):Nat→Option Ann
 | 0=>some (Ann.mk ((Nat)) (fun i=>⟨[(0,.c (.ro (.ints .i64 (l)))),(1,.c (.int .i64 (n))),(5,.c (.int .i64 ((i:Int))))],[]⟩) (fun i=>i≤l.length∧aV n l 0=aV n (l.drop i) (i:Int)) (fun i=>l.length - i) (fun _=>ax))
 | _=>none
def EG:List (Nat×Ctr):=[]
def xi (l:List Int) (n:Int):Prop :=
 ((∃x0:Nat,(((x0≤l.length)∧(aV n l (0:Int)=aV n (List.drop x0 l) (↑x0:Int)))∧((l=l)∧((n=n)∧((0:Int)=(↑x0:Int))))))∧(∀x1:Nat,(((x1≤l.length)∧(aV n l (0:Int)=aV n (List.drop x1 l) (↑x1:Int)))→(ae (decide ((↑x1:Int)<(↑(l.length):Int))) ((aa (↑x1:Int) (l.length))∧(ae (l.getD ((↑x1:Int).toNat) (0:Int) == n) (((↑x1:Int)=aV n l (0:Int))∧True) ((af ((↑x1:Int)+(1:Int)))∧(∃x2:Nat,(((x2≤l.length)∧(aV n l (0:Int)=aV n (List.drop x2 l) (↑x2:Int)))∧((l.length - x2<l.length - x1)∧((l=l)∧((n=n)∧((↑x1:Int)+(1:Int)=(↑x2:Int)))))))))) (((-1:Int)=aV n l (0:Int))∧True)))))
theorem LZ (l:List Int) (n:Int):aS Try.prog (ai EG) aj (EF l n) Try.f83 (aM Try.f83) [] [.c (.ints .i64 (l)),.c (.int .i64 (n))] (qE l n)=xi l n:=by kernel_rfl
theorem L0 (l:List Int) (n:Int) (Yh:(qE l n).pre):xi l n:=by
 simp only [qE,xi,aR,u1,u2,u3,u4,u5,u6,u7,u8,u9,v1,v2,v3,v4,v5,v6,v7,v8,v9,w1,w2,w3,w4,aI,aa,af,ag,aw] at Yh ⊢;refine ⟨⟨0,⟨by omega,rfl⟩,rfl⟩,fun i ⟨hi,he⟩=>⟨fun h=>?_,fun h=>?_⟩⟩
 ·rw [drop_cons' l 0 i (by omega)] at he
  simp only [aV] at he;refine ⟨by omega,fun h1=>?_,fun h1=>⟨by omega,i+1,⟨by omega,?_⟩,by omega,by omega⟩⟩
  ·rw [he,if_pos h1]
  ·rw [he,if_neg h1];simp
 ·rw [he,List.drop_of_length_le (by omega)];rfl
theorem L5:Fits Try.prog 83 ⟨[],xh⟩:=by
 refine aY (Γ:=ai EG) aQ Try.func83 fun ds p h hp=>?_
 unfold xh at h;split at h
 ·cases h
  exact ⟨aj,EF _ _ ,by rw [LZ];exact L0 _ _  hp⟩
 ·cases h
def qF (l:List Int) (n:Int):Post:=⟨l.length≤1099511627776,.c (.bool (decide (n∈l))),[]⟩
def qG:List AD→Option Post
 | [.c (.ints .i64 (l)),.c (.int .i64 (n))]=>some (qF l n)
 | _=>none
def EH:List (Nat×Ctr):=[(83,⟨[],xh⟩)]
def xj (l:List Int) (n:Int):Prop :=
 (((l.length≤(1099511627776:Nat))∧True)∧((decide ((0:Int)≤aV n l (0:Int))=decide (n∈l))∧True))
theorem L6 (l:List Int) (n:Int):aS Try.prog (ai EH) aj ax Try.f55 (aM Try.f55) [] [.c (.ints .i64 (l)),.c (.int .i64 (n))] (qF l n)=xj l n:=by kernel_rfl
theorem L7 (l:List Int) (n:Int) (Yh:(qF l n).pre):xj l n:=by
 simp only [qF,xj,aR,u1,u2,u3,u4,u5,u6,u7,u8,u9,v1,v2,v3,v4,v5,v6,v7,v8,v9,w1,w2,w3,w4,aI,aa,af,ag,aw] at Yh ⊢;exact ⟨Yh,EE n l 0 (by omega)⟩
theorem EI:Fits Try.prog 55 ⟨[],qG⟩:=by
 refine aY (Γ:=ai EH) (aC L5 aQ) Try.func55 fun ds p h hp=>?_
 unfold qG at h;split at h
 ·cases h
  exact ⟨aj,ax,by rw [L6];exact L7 _ _  hp⟩
 ·cases h
def qH (l:List Int):Post:=⟨l.length≤1099511627776,.c (.bool (decide (1≤(l.length:Int)∧(l.length:Int)≤12)&&cu l)),[]⟩
def xk:List AD→Option Post
 | [.c (.ints .i64 (l))]=>some (qH l)
 | _=>none
def EJ (l:List Int):Nat→Option Ann
 | 0=>some (Ann.mk ((Nat)) (fun i=>⟨[(0,.c (.ro (.ints .i64 (l)))),(3,.c (.int .i64 ((l.length:Int)))),(4,.c (.int .i64 ((i:Int))))],[]⟩) (fun i=>i≤l.length∧∀x:Int,0≤x→x<(i:Int)→x∈l) (fun i=>l.length - i) (fun _=>ax))
 | _=>none
def EK:List (Nat×Ctr):=[(54,⟨[],pW⟩),(55,⟨[],qG⟩)]
def xl (l:List Int):Prop :=
 ((True∧True)∧(ae (!decide ((1:Int)≤(↑(l.length):Int)∧(↑(l.length):Int)≤(12:Int))) ((false=(decide ((1:Int)≤(↑(l.length):Int)∧(↑(l.length):Int)≤(12:Int))&&cu l))∧True) ((∃x0:Nat,(((x0≤l.length)∧(∀(x:Int),(0:Int)≤x→x<(↑x0:Int)→x∈l))∧((l=l)∧(((↑(l.length):Int)=(↑(l.length):Int))∧((0:Int)=(↑x0:Int))))))∧(∀x1:Nat,(((x1≤l.length)∧(∀(x:Int),(0:Int)≤x→x<(↑x1:Int)→x∈l))→(ae (decide ((↑x1:Int)<(↑(l.length):Int))) (((l.length≤(1099511627776:Nat))∧True)∧(ae (!decide ((↑x1:Int)∈l)) ((false=(decide ((1:Int)≤(↑(l.length):Int)∧(↑(l.length):Int)≤(12:Int))&&cu l))∧True) ((af ((↑x1:Int)+(1:Int)))∧(∃x2:Nat,(((x2≤l.length)∧(∀(x:Int),(0:Int)≤x→x<(↑x2:Int)→x∈l))∧((l.length - x2<l.length - x1)∧((l=l)∧(((↑(l.length):Int)=(↑(l.length):Int))∧((↑x1:Int)+(1:Int)=(↑x2:Int)))))))))) ((true=(decide ((1:Int)≤(↑(l.length):Int)∧(↑(l.length):Int)≤(12:Int))&&cu l))∧True)))))))
theorem L8 (l:List Int):aS Try.prog (ai EK) aj (EJ l) Try.f40 (aM Try.f40) [] [.c (.ints .i64 (l))] (qH l)=xl l:=by kernel_rfl
theorem L9 (l:List Int) (Yh:(qH l).pre):xl l:=by
 simp only [qH,xl,aR,u1,u2,u3,u4,u5,u6,u7,u8,u9,v1,v2,v3,v4,v5,v6,v7,v8,v9,w1,w2,w3,w4,aI,aa,af,ag,aw] at Yh ⊢;refine ⟨fun h=>by rw [decide_eq_false h];rfl,fun h=>⟨⟨0,⟨by omega,fun x a b=>by omega⟩,rfl⟩,fun i ⟨hi,he⟩=>⟨fun h2=>⟨Yh,fun h3=>?_,fun h3=>⟨by omega,i+1,⟨by omega,fun x a b=>?_⟩,by omega,by omega⟩⟩,fun h2=>?_⟩⟩⟩
 ·have:cu l=false:=by
   cases hb:cu l with
   | false=>rfl
   | true=>exact absurd (xg.1 hb i (by omega) h2) h3
  rw [this,Bool.and_false]
 ·by_cases hx:x=(i:Int)
  ·rw [hx];exact h3
  ·exact he x a (by omega)
 ·rw [decide_eq_true h,xg.2 fun x a b=>he x a (by omega)];rfl
theorem Ma:Fits Try.prog 40 ⟨[],xk⟩:=by
 refine aY (Γ:=ai EK) (aC CF (aC EI aQ)) Try.func40 fun ds p h hp=>?_
 unfold xk at h;split at h
 ·cases h
  exact ⟨aj,EJ _ ,by rw [L8];exact L9 _  hp⟩
 ·cases h
def dZ (n:Nat) (l:List Int):List Bool:=(List.range n).map fun i:Nat=>decide ((i:Int)∈l)
theorem EL (n:Nat) (l:List Int):(dZ n l).length=n:=by simp [dZ]
theorem EM (n:Nat) (l:List Int) (k:Nat) (h:k<n):(dZ n l).getD k false=decide ((k:Int)∈l):=by
 simp [dZ,List.getD_eq_getElem?_getD,h]
theorem Mb (n:Nat):dZ n []=List.replicate n false:=by
 apply List.ext_getElem
 ·simp [dZ]
 ·intro i h1 h2
  simp [dZ]
theorem Mc (n:Nat) (l:List Int) (k:Nat) (h:k<n):(dZ n l).set k true=dZ n (l++[(k:Int)]):=by
 apply List.ext_getElem
 ·simp [dZ]
 ·intro i h1 h2
  simp only [dZ,List.getElem_set,List.getElem_map,List.getElem_range,List.mem_append,List.mem_singleton];by_cases hk:k=i
  ·subst hk;simp
  ·have:¬ (i:Int)=(k:Int):=by omega
   simp [hk,this]
def qI (l:List Int):Post:=⟨l.length≤1099511627776,.c (.bool (cu l)),[]⟩
def xm:List AD→Option Post
 | [.c (.ints .i64 (l))]=>some (qI l)
 | _=>none
def EN (l:List Int):Nat→Option Ann
 | 0=>some (Ann.mk ((Nat)) (fun i=>⟨[(0,.c (.ro (.ints .i64 (l)))),(3,.c (.own (8))),(9,.c (.ro (.ints .i64 (l)))),(10,.c (.int .i64 ((l.length:Int)))),(11,.c (.int .i64 ((i:Int))))],[(8,some (.bools 4 (dZ l.length (l.take i))))]⟩) (fun i=>i≤l.length∧(∀x∈l.take i,0≤x∧x<(l.length:Int))∧(l.take i).Nodup) (fun i=>l.length - i) (fun _=>ax))
 | _=>none
def EO:List (Nat×Ctr):=[(86,⟨[],mZ⟩)]
def xn (l:List Int):Prop :=
 ((((0:Int)≤(↑(l.length):Int))∧(((↑(l.length):Int)≤(↑(l.length):Int))∧(ag ((↑(l.length):Int).toNat))))∧((∃x0:Nat,(((x0≤l.length)∧((∀(x:Int),x∈List.take x0 l→(0:Int)≤x∧x<(↑(l.length):Int))∧(List.Nodup (List.take x0 l))))∧((l=l)∧((l=l)∧(((↑(l.length):Int)=(↑(l.length):Int))∧(((0:Int)=(↑x0:Int))∧(List.replicate ((↑(l.length):Int).toNat) false=dZ (l.length) (List.take x0 l))))))))∧(∀x1:Nat,(((x1≤l.length)∧((∀(x:Int),x∈List.take x1 l→(0:Int)≤x∧x<(↑(l.length):Int))∧(List.Nodup (List.take x1 l))))→(ae (decide ((↑x1:Int)<(↑(l.length):Int))) ((aa (↑x1:Int) (l.length))∧((af ((↑(l.length):Int) - (1:Int)))∧((True∧True)∧(ae (!decide ((0:Int)≤l.getD ((↑x1:Int).toNat) (0:Int)∧l.getD ((↑x1:Int).toNat) (0:Int)≤(↑(l.length):Int) - (1:Int))) ((false=cu l)∧True) ((aa (l.getD ((↑x1:Int).toNat) (0:Int)) ((dZ (l.length) (List.take x1 l)).length))∧(ae ((dZ (l.length) (List.take x1 l)).getD ((l.getD ((↑x1:Int).toNat) (0:Int)).toNat) false) ((false=cu l)∧True) ((aa (l.getD ((↑x1:Int).toNat) (0:Int)) ((dZ (l.length) (List.take x1 l)).length))∧((af ((↑x1:Int)+(1:Int)))∧(∃x2:Nat,(((x2≤l.length)∧((∀(x:Int),x∈List.take x2 l→(0:Int)≤x∧x<(↑(l.length):Int))∧(List.Nodup (List.take x2 l))))∧((l.length - x2<l.length - x1)∧((l=l)∧((l=l)∧(((↑(l.length):Int)=(↑(l.length):Int))∧(((↑x1:Int)+(1:Int)=(↑x2:Int)) ∧
 (List.set (dZ (l.length) (List.take x1 l)) ((l.getD ((↑x1:Int).toNat) (0:Int)).toNat) true=dZ (l.length) (List.take x2 l))))))))))))))))) ((true=cu l)∧True))))))
theorem Md (l:List Int):aS Try.prog (ai EO) aj (EN l) Try.f91 (aM Try.f91) [] [.c (.ints .i64 (l))] (qI l)=xn l:=by kernel_rfl
theorem Me (l:List Int) (Yh:(qI l).pre):xn l:=by
 simp only [qI,xn,aR,u1,u2,u3,u4,u5,u6,u7,u8,u9,v1,v2,v3,v4,v5,v6,v7,v8,v9,w1,w2,w3,w4,aI,aa,af,ag,aw] at Yh ⊢;refine ⟨by omega,⟨0,⟨by omega,by simp,by simp⟩,rfl,(Mb _).symm⟩,fun i ⟨hi,h1,h2⟩=>⟨fun h=>⟨by omega,by omega,fun h3=>?_,fun h3=>⟨?_,fun h4=>?_,fun h4=>⟨?_,by omega,i+1,⟨by omega,fun x hx=>?_,?_⟩,by omega,by omega,?_⟩⟩⟩,fun h=>?_⟩⟩
 ·exact (decide_eq_false fun e=>h3 (by have:=e.1 _ (bN l 0 i (by omega));omega)).symm
 ·rw [EL];omega
 ·rw [EM _ _ _ (by omega),decide_eq_true_eq] at h4
  rw [show (((l.getD i 0).toNat:Nat):Int)=l.getD i 0 by omega] at h4
  refine (decide_eq_false fun e=>?_).symm
  have h5:(l.take (i+1)).Nodup:=List.Pairwise.sublist (List.take_sublist _ _) e.2
  rw [←dK l 0 i (by omega),List.nodup_append] at h5
  exact h5.2.2 _ h4 _ (by simp) rfl
 ·rw [EL];omega
 ·rw [←dK l 0 i (by omega),List.mem_append] at hx
  rcases hx with hx | hx
  ·exact h1 x hx
  ·simp only [List.mem_singleton] at hx
   rw [hx];omega
 ·rw [EM _ _ _ (by omega),decide_eq_false_iff_not] at h4
  rw [show (((l.getD i 0).toNat:Nat):Int)=l.getD i 0 by omega] at h4
  rw [←dK l 0 i (by omega),List.nodup_append]
  refine ⟨h2,by simp,fun a ha b hb=>?_⟩
  simp only [List.mem_singleton] at hb
  rintro rfl
  rw [hb] at ha;exact h4 ha
 ·rw [←dK l 0 i (by omega),Mc _ _ _ (by omega),show (((l.getD i 0).toNat:Nat):Int)=l.getD i 0 by omega]
 ·rw [List.take_of_length_le (by omega)] at h1 h2
  exact (decide_eq_true ⟨h1,h2⟩).symm
theorem Mf:Fits Try.prog 91 ⟨[],xm⟩:=by
 refine aY (Γ:=ai EO) (aC vN aQ) Try.func91 fun ds p h hp=>?_
 unfold xm at h;split at h
 ·cases h
  exact ⟨aj,EN _ ,by rw [Md];exact Me _  hp⟩
 ·cases h
def qJ (l:List Int):Post:=⟨l.length≤1099511627776,.c (.bool (!cu l)),[]⟩
def xo:List AD→Option Post
 | [.c (.ints .i64 (l))]=>some (qJ l)
 | _=>none
def EP:List (Nat×Ctr):=[(91,⟨[],xm⟩)]
def xp (l:List Int):Prop :=
 (((l.length≤(1099511627776:Nat))∧True)∧(((!cu l)=!cu l)∧True))
theorem Mg (l:List Int):aS Try.prog (ai EP) aj ax Try.f90 (aM Try.f90) [] [.c (.ints .i64 (l))] (qJ l)=xp l:=by kernel_rfl
theorem Mh (l:List Int) (Yh:(qJ l).pre):xp l:=by
 simp only [qJ,xp,aR,u1,u2,u3,u4,u5,u6,u7,u8,u9,v1,v2,v3,v4,v5,v6,v7,v8,v9,w1,w2,w3,w4,aI,aa,af,ag,aw] at Yh ⊢;exact Yh
theorem Mi:Fits Try.prog 90 ⟨[],xo⟩:=by
 refine aY (Γ:=ai EP) (aC Mf aQ) Try.func90 fun ds p h hp=>?_
 unfold xo at h;split at h
 ·cases h
  exact ⟨aj,ax,by rw [Mg];exact Mh _  hp⟩
 ·cases h
def qK (t:List (List Int)):Post:=⟨bk t,.c (.bool (t.all cu)),[]⟩
def xq:List AD→Option Post
 | [.c (.rows .i64 (t))]=>some (qK t)
 | _=>none
def EQ:List (Nat×Ctr):=[(87,⟨[],tA⟩),(90,⟨[],xo⟩)]
def xr (t:List (List Int)):Prop :=
 ((((t.length≤(1099511627776:Nat))∧(∀(x:List Int),x∈t→x.length≤(1099511627776:Nat)))∧True)∧(((!List.any t fun (x:List Int)=>!cu x)=List.all t cu)∧True))
theorem Mj (t:List (List Int)):aS Try.prog (ai EQ) aj ax Try.f60 (aM Try.f60) [] [.c (.rows .i64 (t))] (qK t)=xr t:=by kernel_rfl
theorem Mk (t:List (List Int)) (Yh:(qK t).pre):xr t:=by
 simp only [qK,xr,aR,u1,u2,u3,u4,u5,u6,u7,u8,u9,v1,v2,v3,v4,v5,v6,v7,v8,v9,w1,w2,w3,w4,aI,aa,af,ag,aw] at Yh ⊢;refine ⟨⟨Yh.1,Yh.2⟩,?_⟩
 rw [List.all_eq_not_any_not,Bool.not_not]
theorem Ml:Fits Try.prog 60 ⟨[],xq⟩:=by
 refine aY (Γ:=ai EQ) (aC Hy (aC Mi aQ)) Try.func60 fun ds p h hp=>?_
 unfold xq at h;split at h
 ·cases h
  exact ⟨aj,ax,by rw [Mj];exact Mk _  hp⟩
 ·cases h
def en (t:List (List Int)) (x y:Nat):Int:=(t.getD x []).getD y 0
end Go.Sx
