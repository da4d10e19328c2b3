/- MapQ -/
import Derived.Test.YtcdmndagoafcgaaGreatTable
open Go Go.Proofs
namespace Go.Sx
set_option linter.unusedSimpArgs false
set_option linter.unusedVariables false
theorem ui:∀{a b:List Int},a.Nodup→(∀x∈a,x∈b)→a.length≤b.length
 | [],_,_,_=>Nat.zero_le _
 | x::a,b,hn,hs=>by
  rw [List.nodup_cons] at hn;have h1:x∈b:=hs x (by simp)
  have h2:=ui (b:=b.erase x) hn.2 fun y hy=>(List.mem_erase_of_ne (by rintro rfl;exact hn.1 hy)).2 (hs y (by simp [hy]))
  rw [List.length_erase_of_mem h1] at h2;have:=List.length_pos_of_mem h1
  simp only [List.length_cons];omega
def ints (n:Nat):List Int:=(List.range n).map fun i:Nat=>(i:Int)
theorem Bh:∀n,(ints n).Nodup
 | 0=>by simp [ints]
 | n+1=>by
  have:ints (n+1)=ints n++[(n:Int)]:=by simp [ints,List.range_succ]
  rw [this,List.nodup_append];refine ⟨Bh n,by simp,fun a ha b hb=>?_⟩
  simp only [ints,List.mem_map,List.mem_range] at ha;obtain ⟨i,hi,rfl⟩:=ha;simp at hb
  omega
theorem nN {n:Nat} {x:Int}:x∈ints n↔0≤x∧x<(n:Int):=by
 simp only [ints,List.mem_map,List.mem_range];exact ⟨by rintro ⟨i,hi,rfl⟩;omega,fun h=>⟨x.toNat,by omega,by omega⟩⟩
def cW (l:List Int):Bool:=decide ((∀x∈l,0≤x∧x<(l.length:Int))∧l.Nodup)
theorem Bi {l:List Int}:cW l=true↔∀x:Int,0≤x→x<(l.length:Int)→x∈l:=by
 simp only [cW,decide_eq_true_eq]
 constructor
 ·rintro ⟨h1,h2⟩ x hx hx2
  refine Classical.byContradiction fun hn=>?_
  have:=ui (a:=x::l) (b:=ints l.length) (List.nodup_cons.2 ⟨hn,h2⟩) fun y hy=>by
   rcases List.mem_cons.1 hy with rfl | hy
   ·exact nN.2 ⟨hx,hx2⟩
   ·exact nN.2 (h1 y hy)
  simp [ints] at this
  omega
 ·intro h
  have sub:∀l':List Int,l'.length<l.length→¬ ∀x∈ints l.length,x∈l':=fun l' hl hc=>by
   have:=ui (Bh l.length) hc
   simp [ints] at this
   omega
  have hall:∀x∈ints l.length,x∈l:=fun x hx=>h x (nN.1 hx).1 (nN.1 hx).2
  refine ⟨fun x hx=>Classical.byContradiction fun hn=>?_,Classical.byContradiction fun hn=>?_⟩
  ·refine sub (l.erase x) (by rw [List.length_erase_of_mem hx];have:=List.length_pos_of_mem hx;omega) fun y hy=>?_
   exact (List.mem_erase_of_ne (by rintro rfl;exact hn (nN.1 hy))).2 (hall y hy)
  ·rw [List.nodup_iff_count] at hn
   simp only [Classical.not_forall] at hn;obtain ⟨a,ha⟩:=hn;have hm:a∈l:=List.count_pos_iff.1 (by omega)
   have hm2:a∈l.erase a:=List.count_pos_iff.1 (by rw [List.count_erase_self];omega)
   refine sub (l.erase a) (by rw [List.length_erase_of_mem hm];have:=List.length_pos_of_mem hm;omega) fun y hy=>?_
   by_cases hya:y=a
   ·rw [hya];exact hm2
   ·exact (List.mem_erase_of_ne hya).2 (hall y hy)
def bo (x:Int):List Int→Int→Int
 | [],_=>-1
 | y::l,k=>if y=x then k else bo x l (k+1)
theorem uj (x:Int):∀(l:List Int) (k:Int),0≤k→decide (0≤bo x l k)=decide (x∈l)
 | [],k,_=>by simp [bo]
 | y::l,k,h=>by
  simp only [bo,List.mem_cons];by_cases hp:y=x
  ·simp [hp,h]
  ·simp only [hp,if_false,uj x l (k+1) (by omega)]
   have:¬ x=y:=fun e=>hp e.symm
   simp [this]
def uk (l:List Int) (n:Int):Post:=⟨l.length≤1099511627776,.c (.int .i64 (bo n l 0)),[]⟩
def pG:List AD→Option Post
 | [.c (.ints .i64 (l)),.c (.int .i64 (n))]=>some (uk l n)
 | _=>none
def I2 (l:List Int) (n:Int):Nat→Option Ann
 | 0=>some (Ann.mk ((Nat)) (fun i=>⟨[(0,.c (.ro (.ints .i64 (l)))),(1,.c (.int .i64 (n))),(5,.c (.int .i64 ((i:Int))))],[]⟩) (fun i=>i≤l.length∧bo n l 0=bo n (l.drop i) (i:Int)) (fun i=>l.length - i) (fun _=>am))
 | _=>none
def I3:List (Nat×Ctr):=[]
def Bj (l:List Int) (n:Int):Prop :=
 ((∃x0:Nat,(((x0≤l.length)∧(bo n l (0:Int)=bo n (List.drop x0 l) (↑x0:Int)))∧((l=l)∧((n=n)∧((0:Int)=(↑x0:Int))))))∧(∀x1:Nat,(((x1≤l.length)∧(bo n l (0:Int)=bo n (List.drop x1 l) (↑x1:Int)))→(ac (decide ((↑x1:Int)<(↑(l.length):Int))) ((aa (↑x1:Int) (l.length))∧(ac (l.getD ((↑x1:Int).toNat) (0:Int) == n) (((↑x1:Int)=bo n l (0:Int))∧True) ((ab ((↑x1:Int)+(1:Int)))∧(∃x2:Nat,(((x2≤l.length)∧(bo n l (0:Int)=bo n (List.drop x2 l) (↑x2:Int)))∧((l.length - x2<l.length - x1)∧((l=l)∧((n=n)∧((↑x1:Int)+(1:Int)=(↑x2:Int)))))))))) (((-1:Int)=bo n l (0:Int))∧True)))))
theorem So (l:List Int) (n:Int):aC Tryz.prog (af I3) ah (I2 l n) Tryz.f247 (aE Tryz.f247) [] [.c (.ints .i64 (l)),.c (.int .i64 (n))] (uk l n)=Bj l n:=by kernel_rfl
theorem Sp (l:List Int) (n:Int) (Yh:(uk l n).pre):Bj l n:=by
 simp only [uk,Bj,aG,u1,u2,u3,u4,u5,u6,u7,u8,u9,v1,v2,v3,v4,v5,v6,v7,v8,v9,w1,w2,w3,w4,aH,aa,ab,ae,ar] at Yh ⊢;refine ⟨⟨0,⟨by omega,rfl⟩,rfl⟩,fun i ⟨hi,he⟩=>⟨fun h=>?_,fun h=>?_⟩⟩
 ·rw [drop_cons' l 0 i (by omega)] at he
  simp only [bo] at he;refine ⟨by omega,fun h1=>?_,fun h1=>⟨by omega,i+1,⟨by omega,?_⟩,by omega,by omega⟩⟩
  ·rw [he,if_pos h1]
  ·rw [he,if_neg h1];simp
 ·rw [he,List.drop_of_length_le (by omega)];rfl
theorem Bk:Fits Tryz.prog 247 ⟨[],pG⟩:=by
 refine aJ (Γ:=af I3) aF Tryz.func247 fun ds p h hp=>?_
 unfold pG at h;split at h
 ·cases h
  exact ⟨ah,I2 _ _ ,by rw [So];exact Sp _ _  hp⟩
 ·cases h
def ul (l:List Int) (n:Int):Post:=⟨l.length≤1099511627776,.c (.bool (decide (n∈l))),[]⟩
def pH:List AD→Option Post
 | [.c (.ints .i64 (l)),.c (.int .i64 (n))]=>some (ul l n)
 | _=>none
def I4:List (Nat×Ctr):=[(247,⟨[],pG⟩)]
def Bl (l:List Int) (n:Int):Prop :=
 (((l.length≤(1099511627776:Nat))∧True)∧((decide ((0:Int)≤bo n l (0:Int))=decide (n∈l))∧True))
theorem Sq (l:List Int) (n:Int):aC Tryz.prog (af I4) ah am Tryz.f221 (aE Tryz.f221) [] [.c (.ints .i64 (l)),.c (.int .i64 (n))] (ul l n)=Bl l n:=by kernel_rfl
theorem Sr (l:List Int) (n:Int) (Yh:(ul l n).pre):Bl l n:=by
 simp only [ul,Bl,aG,u1,u2,u3,u4,u5,u6,u7,u8,u9,v1,v2,v3,v4,v5,v6,v7,v8,v9,w1,w2,w3,w4,aH,aa,ab,ae,ar] at Yh ⊢;exact ⟨Yh,uj n l 0 (by omega)⟩
theorem Bn:Fits Tryz.prog 221 ⟨[],pH⟩:=by
 refine aJ (Γ:=af I4) (aj Bk aF) Tryz.func221 fun ds p h hp=>?_
 unfold pH at h;split at h
 ·cases h
  exact ⟨ah,am,by rw [Sq];exact Sr _ _  hp⟩
 ·cases h
def um (l:List Int):Post:=⟨l.length≤1099511627776,.c (.bool (decide (1≤(l.length:Int)∧(l.length:Int)≤12)&&cW l)),[]⟩
def Bo:List AD→Option Post
 | [.c (.ints .i64 (l))]=>some (um l)
 | _=>none
def I5 (l:List Int):Nat→Option Ann
 | 0=>some (Ann.mk ((Nat)) (fun i=>⟨[(0,.c (.ro (.ints .i64 (l)))),(3,.c (.int .i64 ((l.length:Int)))),(4,.c (.int .i64 ((i:Int))))],[]⟩) (fun i=>i≤l.length∧∀x:Int,0≤x→x<(i:Int)→x∈l) (fun i=>l.length - i) (fun _=>am))
 | _=>none
def I6:List (Nat×Ctr):=[(106,⟨[],qS⟩),(221,⟨[],pH⟩)]
def Bp (l:List Int):Prop :=
 ((True∧True)∧(ac (!decide ((1:Int)≤(↑(l.length):Int)∧(↑(l.length):Int)≤(12:Int))) ((false=(decide ((1:Int)≤(↑(l.length):Int)∧(↑(l.length):Int)≤(12:Int))&&cW l))∧True) ((∃x0:Nat,(((x0≤l.length)∧(∀(x:Int),(0:Int)≤x→x<(↑x0:Int)→x∈l))∧((l=l)∧(((↑(l.length):Int)=(↑(l.length):Int))∧((0:Int)=(↑x0:Int))))))∧(∀x1:Nat,(((x1≤l.length)∧(∀(x:Int),(0:Int)≤x→x<(↑x1:Int)→x∈l))→(ac (decide ((↑x1:Int)<(↑(l.length):Int))) (((l.length≤(1099511627776:Nat))∧True)∧(ac (!decide ((↑x1:Int)∈l)) ((false=(decide ((1:Int)≤(↑(l.length):Int)∧(↑(l.length):Int)≤(12:Int))&&cW l))∧True) ((ab ((↑x1:Int)+(1:Int)))∧(∃x2:Nat,(((x2≤l.length)∧(∀(x:Int),(0:Int)≤x→x<(↑x2:Int)→x∈l))∧((l.length - x2<l.length - x1)∧((l=l)∧(((↑(l.length):Int)=(↑(l.length):Int))∧((↑x1:Int)+(1:Int)=(↑x2:Int)))))))))) ((true=(decide ((1:Int)≤(↑(l.length):Int)∧(↑(l.length):Int)≤(12:Int))&&cW l))∧True)))))))
theorem Ss (l:List Int):aC Tryz.prog (af I6) ah (I5 l) Tryz.f171 (aE Tryz.f171) [] [.c (.ints .i64 (l))] (um l)=Bp l:=by kernel_rfl
theorem Su (l:List Int) (Yh:(um l).pre):Bp l:=by
 simp only [um,Bp,aG,u1,u2,u3,u4,u5,u6,u7,u8,u9,v1,v2,v3,v4,v5,v6,v7,v8,v9,w1,w2,w3,w4,aH,aa,ab,ae,ar] at Yh ⊢;refine ⟨fun h=>by rw [decide_eq_false h];rfl,fun h=>⟨⟨0,⟨by omega,fun x a b=>by omega⟩,rfl⟩,fun i ⟨hi,he⟩=>⟨fun h2=>⟨Yh,fun h3=>?_,fun h3=>⟨by omega,i+1,⟨by omega,fun x a b=>?_⟩,by omega,by omega⟩⟩,fun h2=>?_⟩⟩⟩
 ·have:cW l=false:=by
   cases hb:cW l with
   | false=>rfl
   | true=>exact absurd (Bi.1 hb i (by omega) h2) h3
  rw [this,Bool.and_false]
 ·by_cases hx:x=(i:Int)
  ·rw [hx];exact h3
  ·exact he x a (by omega)
 ·rw [decide_eq_true h,Bi.2 fun x a b=>he x a (by omega)];rfl
theorem Sv:Fits Tryz.prog 171 ⟨[],Bo⟩:=by
 refine aJ (Γ:=af I6) (aj Fu (aj Bn aF)) Tryz.func171 fun ds p h hp=>?_
 unfold Bo at h;split at h
 ·cases h
  exact ⟨ah,I5 _ ,by rw [Ss];exact Su _  hp⟩
 ·cases h
def fg (n:Nat) (l:List Int):List Bool:=(List.range n).map fun i:Nat=>decide ((i:Int)∈l)
theorem I7 (n:Nat) (l:List Int):(fg n l).length=n:=by simp [fg]
theorem I8 (n:Nat) (l:List Int) (k:Nat) (h:k<n):(fg n l).getD k false=decide ((k:Int)∈l):=by
 simp [fg,List.getD_eq_getElem?_getD,h]
theorem Sw (n:Nat):fg n []=List.replicate n false:=by
 apply List.ext_getElem
 ·simp [fg]
 ·intro i h1 h2
  simp [fg]
theorem Sy (n:Nat) (l:List Int) (k:Nat) (h:k<n):(fg n l).set k true=fg n (l++[(k:Int)]):=by
 apply List.ext_getElem
 ·simp [fg]
 ·intro i h1 h2
  simp only [fg,List.getElem_set,List.getElem_map,List.getElem_range,List.mem_append,List.mem_singleton];by_cases hk:k=i
  ·subst hk;simp
  ·have:¬ (i:Int)=(k:Int):=by omega
   simp [hk,this]
def uo (l:List Int):Post:=⟨l.length≤1099511627776,.c (.bool (cW l)),[]⟩
def Bq:List AD→Option Post
 | [.c (.ints .i64 (l))]=>some (uo l)
 | _=>none
def I9 (l:List Int):Nat→Option Ann
 | 0=>some (Ann.mk ((Nat)) (fun i=>⟨[(0,.c (.ro (.ints .i64 (l)))),(3,.c (.own (8))),(9,.c (.ro (.ints .i64 (l)))),(10,.c (.int .i64 ((l.length:Int)))),(11,.c (.int .i64 ((i:Int))))],[(8,some (.bools 4 (fg l.length (l.take i))))]⟩) (fun i=>i≤l.length∧(∀x∈l.take i,0≤x∧x<(l.length:Int))∧(l.take i).Nodup) (fun i=>l.length - i) (fun _=>am))
 | _=>none
def Ja:List (Nat×Ctr):=[(108,⟨[],oH⟩)]
def Br (l:List Int):Prop :=
 ((((0:Int)≤(↑(l.length):Int))∧(((↑(l.length):Int)≤(↑(l.length):Int))∧(ae ((↑(l.length):Int).toNat))))∧((∃x0:Nat,(((x0≤l.length)∧((∀(x:Int),x∈List.take x0 l→(0:Int)≤x∧x<(↑(l.length):Int))∧(List.Nodup (List.take x0 l))))∧((l=l)∧((l=l)∧(((↑(l.length):Int)=(↑(l.length):Int))∧(((0:Int)=(↑x0:Int))∧(List.replicate ((↑(l.length):Int).toNat) false=fg (l.length) (List.take x0 l))))))))∧(∀x1:Nat,(((x1≤l.length)∧((∀(x:Int),x∈List.take x1 l→(0:Int)≤x∧x<(↑(l.length):Int))∧(List.Nodup (List.take x1 l))))→(ac (decide ((↑x1:Int)<(↑(l.length):Int))) ((aa (↑x1:Int) (l.length))∧((ab ((↑(l.length):Int) - (1:Int)))∧((True∧True)∧(ac (!decide ((0:Int)≤l.getD ((↑x1:Int).toNat) (0:Int)∧l.getD ((↑x1:Int).toNat) (0:Int)≤(↑(l.length):Int) - (1:Int))) ((false=cW l)∧True) ((aa (l.getD ((↑x1:Int).toNat) (0:Int)) ((fg (l.length) (List.take x1 l)).length))∧(ac ((fg (l.length) (List.take x1 l)).getD ((l.getD ((↑x1:Int).toNat) (0:Int)).toNat) false) ((false=cW l)∧True) ((aa (l.getD ((↑x1:Int).toNat) (0:Int)) ((fg (l.length) (List.take x1 l)).length))∧((ab ((↑x1:Int)+(1:Int)))∧(∃x2:Nat,(((x2≤l.length)∧((∀(x:Int),x∈List.take x2 l→(0:Int)≤x∧x<(↑(l.length):Int))∧(List.Nodup (List.take x2 l))))∧((l.length - x2<l.length - x1)∧((l=l)∧((l=l)∧(((↑(l.length):Int)=(↑(l.length):Int))∧(((↑x1:Int)+(1:Int)=(↑x2:Int)) ∧
 (List.set (fg (l.length) (List.take x1 l)) ((l.getD ((↑x1:Int).toNat) (0:Int)).toNat) true=fg (l.length) (List.take x2 l))))))))))))))))) ((true=cW l)∧True))))))
theorem Sz (l:List Int):aC Tryz.prog (af Ja) ah (I9 l) Tryz.f244 (aE Tryz.f244) [] [.c (.ints .i64 (l))] (uo l)=Br l:=by kernel_rfl
theorem SA (l:List Int) (Yh:(uo l).pre):Br l:=by
 simp only [uo,Br,aG,u1,u2,u3,u4,u5,u6,u7,u8,u9,v1,v2,v3,v4,v5,v6,v7,v8,v9,w1,w2,w3,w4,aH,aa,ab,ae,ar] at Yh ⊢;refine ⟨by omega,⟨0,⟨by omega,by simp,by simp⟩,rfl,(Sw _).symm⟩,fun i ⟨hi,h1,h2⟩=>⟨fun h=>⟨by omega,by omega,fun h3=>?_,fun h3=>⟨?_,fun h4=>?_,fun h4=>⟨?_,by omega,i+1,⟨by omega,fun x hx=>?_,?_⟩,by omega,by omega,?_⟩⟩⟩,fun h=>?_⟩⟩
 ·exact (decide_eq_false fun e=>h3 (by have:=e.1 _ (cE l 0 i (by omega));omega)).symm
 ·rw [I7];omega
 ·rw [I8 _ _ _ (by omega),decide_eq_true_eq] at h4
  rw [show (((l.getD i 0).toNat:Nat):Int)=l.getD i 0 by omega] at h4
  refine (decide_eq_false fun e=>?_).symm
  have h5:(l.take (i+1)).Nodup:=List.Pairwise.sublist (List.take_sublist _ _) e.2
  rw [←dF l 0 i (by omega),List.nodup_append] at h5
  exact h5.2.2 _ h4 _ (by simp) rfl
 ·rw [I7];omega
 ·rw [←dF l 0 i (by omega),List.mem_append] at hx
  rcases hx with hx | hx
  ·exact h1 x hx
  ·simp only [List.mem_singleton] at hx
   rw [hx];omega
 ·rw [I8 _ _ _ (by omega),decide_eq_false_iff_not] at h4
  rw [show (((l.getD i 0).toNat:Nat):Int)=l.getD i 0 by omega] at h4
  rw [←dF l 0 i (by omega),List.nodup_append]
  refine ⟨h2,by simp,fun a ha b hb=>?_⟩
  simp only [List.mem_singleton] at hb
  rintro rfl
  rw [hb] at ha;exact h4 ha
 ·rw [←dF l 0 i (by omega),Sy _ _ _ (by omega),show (((l.getD i 0).toNat:Nat):Int)=l.getD i 0 by omega]
 ·rw [List.take_of_length_le (by omega)] at h1 h2
  exact (decide_eq_true ⟨h1,h2⟩).symm
theorem SB:Fits Tryz.prog 244 ⟨[],Bq⟩:=by
 refine aJ (Γ:=af Ja) (aj xq aF) Tryz.func244 fun ds p h hp=>?_
 unfold Bq at h;split at h
 ·cases h
  exact ⟨ah,I9 _ ,by rw [Sz];exact SA _  hp⟩
 ·cases h
def uq (l:List Int):Post:=⟨l.length≤1099511627776,.c (.bool (!cW l)),[]⟩
def Bs:List AD→Option Post
 | [.c (.ints .i64 (l))]=>some (uq l)
 | _=>none
def Jb:List (Nat×Ctr):=[(244,⟨[],Bq⟩)]
def Bt (l:List Int):Prop :=
 (((l.length≤(1099511627776:Nat))∧True)∧(((!cW l)=!cW l)∧True))
theorem SD (l:List Int):aC Tryz.prog (af Jb) ah am Tryz.f243 (aE Tryz.f243) [] [.c (.ints .i64 (l))] (uq l)=Bt l:=by kernel_rfl
theorem SE (l:List Int) (Yh:(uq l).pre):Bt l:=by
 simp only [uq,Bt,aG,u1,u2,u3,u4,u5,u6,u7,u8,u9,v1,v2,v3,v4,v5,v6,v7,v8,v9,w1,w2,w3,w4,aH,aa,ab,ae,ar] at Yh ⊢;exact Yh
theorem SF:Fits Tryz.prog 243 ⟨[],Bs⟩:=by
 refine aJ (Γ:=af Jb) (aj SB aF) Tryz.func243 fun ds p h hp=>?_
 unfold Bs at h;split at h
 ·cases h
  exact ⟨ah,am,by rw [SD];exact SE _  hp⟩
 ·cases h
def ur (t:List (List Int)):Post:=⟨au t,.c (.bool (t.all cW)),[]⟩
def Bv:List AD→Option Post
 | [.c (.rows .i64 (t))]=>some (ur t)
 | _=>none
def Jc:List (Nat×Ctr):=[(101,⟨[],qT⟩),(243,⟨[],Bs⟩)]
def Bw (t:List (List Int)):Prop :=
 ((((t.length≤(1099511627776:Nat))∧(∀(x:List Int),x∈t→x.length≤(1099511627776:Nat)))∧True)∧(((!List.any t fun (x:List Int)=>!cW x)=List.all t cW)∧True))
theorem SG (t:List (List Int)):aC Tryz.prog (af Jc) ah am Tryz.f185 (aE Tryz.f185) [] [.c (.rows .i64 (t))] (ur t)=Bw t:=by kernel_rfl
theorem SH (t:List (List Int)) (Yh:(ur t).pre):Bw t:=by
 simp only [ur,Bw,aG,u1,u2,u3,u4,u5,u6,u7,u8,u9,v1,v2,v3,v4,v5,v6,v7,v8,v9,w1,w2,w3,w4,aH,aa,ab,ae,ar] at Yh ⊢;refine ⟨⟨Yh.1,Yh.2⟩,?_⟩
 rw [List.all_eq_not_any_not,Bool.not_not]
theorem SI:Fits Tryz.prog 185 ⟨[],Bv⟩:=by
 refine aJ (Γ:=af Jc) (aj FD (aj SF aF)) Tryz.func185 fun ds p h hp=>?_
 unfold Bv at h;split at h
 ·cases h
  exact ⟨ah,am,by rw [SG];exact SH _  hp⟩
 ·cases h
def b7 {α:Type} (n:Nat) (q:Nat→Option α):Nat→Option α
 | 0=>none
 | k+1=>(q (n - (k+1))).or (b7 n q k)
theorem kX {α:Type} (n:Nat) (q:Nat→Option α) (i:Nat) (h:i<n):b7 n q (n - i)=(q i).or (b7 n q (n - (i+1))):=by
 rw [show n - i=(n - (i+1))+1 by omega,b7,show n - (n - (i+1)+1)=i by omega]
def en (t:List (List Int)) (x y:Nat):Int:=(t.getD x []).getD y 0
def bE:List Int→List Int→Bool
 | _,[]=>false
 | [],_::_=>true
 | x::a,y::b=>if x=y then bE a b else decide (x<y)
theorem Jd:∀a:List Int,bE a a=false
 | []=>rfl
 | x::a=>by rw [bE,if_pos rfl];exact Jd a
theorem Je:∀a b:List Int,bE a b=false→bE b a=false→a=b
 | [],[],_,_=>rfl
 | [],_::_,h,_=>by simp [bE] at h
 | _::_,[],_,h=>by simp [bE] at h
 | x::a,y::b,h,k=>by
  by_cases e:x=y
  ·subst e
   rw [bE,if_pos rfl] at h k;rw [Je a b h k]
  ·rw [bE,if_neg e] at h
   rw [bE,if_neg (Ne.symm e)] at k;simp at h k
   omega
theorem Jf:∀a b c:List Int,bE a b=true→bE b c=true→bE a c=true
 | _,_,[],_,h=>by cases ‹List Int› <;> simp [bE] at h
 | _,[],_::_,h,_=>by cases ‹List Int› <;> simp [bE] at h
 | [],_::_,_::_,_,_=>rfl
 | x::a,y::b,z::c,h,k=>by
  rw [bE] at h k ⊢;by_cases e:x=y
  ·subst e
   rw [if_pos rfl] at h;by_cases f:x=z
   ·subst f
    rw [if_pos rfl] at k ⊢;exact Jf a b c h k
   ·rw [if_neg f] at k ⊢
    exact k
  ·rw [if_neg e] at h
   by_cases f:y=z
   ·subst f
    rw [if_neg e];exact h
   ·rw [if_neg f] at k
    simp at h k
    rw [if_neg (by omega)]
    simp;omega
def cZ:List (List Int)→List Int→Nat
 | [],_=>0
 | k::K,m=>if bE k m=true then cZ K m+1 else 0
theorem Jg:∀(K:List (List Int)) (m:List Int),cZ K m≤K.length
 | [],_=>Nat.le_refl _
 | k::K,m=>by
  rw [cZ];split
  ·exact Nat.succ_le_succ (Jg K m)
  ·exact Nat.zero_le _
theorem Bz:∀(K:List (List Int)) (m:List Int) (i:Nat),(∀j,j<i→bE (K.getD j []) m=true)→i≤K.length→(∀h:i<K.length,bE (K.getD i []) m=false)→cZ K m=i
 | [],_,i,_,h,_=>by simp at h;subst h;rfl
 | k::K,m,0,_,_,h=>by
  have:=h (by simp)
  have h2:bE k m=false:=this
  rw [cZ,if_neg (by rw [h2];simp)]
 | k::K,m,i+1,a,b,c=>by
  have h0:bE k m=true:=a 0 (by omega)
  rw [cZ,if_pos h0,Bz K m i (fun j hj=>a (j+1) (by omega)) (by simpa using b) (fun h=>c (by simpa using h))]
def f6 (K:List (List Int)) (m:List Int):List (List Int) :=
 if cZ K m<K.length∧K.getD (cZ K m) []=m then K else K.take (cZ K m)++m::K.drop (cZ K m)
theorem BA (k:List Int) (K:List (List Int)) (m:List Int):f6 (k::K) m=if bE k m=true then k::f6 K m else if k=m then k::K else m::k::K:=by
 by_cases h:bE k m=true
 ·rw [if_pos h,f6,f6,cZ,if_pos h]
  simp only [List.length_cons,List.getD_cons_succ,Nat.add_lt_add_iff_right,List.take_succ_cons,List.drop_succ_cons,List.cons_append];split <;> rfl
 ·rw [if_neg h,f6,cZ,if_neg h]
  by_cases e:k=m
  ·simp [e]
  ·simp [e]
theorem BB:∀(K:List (List Int)) (m x:List Int),x∈f6 K m↔x=m∨x∈K
 | [],m,x=>by simp [f6,cZ]
 | k::K,m,x=>by
  rw [BA];split
  ·rw [List.mem_cons,BB K m x,List.mem_cons]
   constructor
   ·rintro (h | h | h) <;> simp [h]
   ·rintro (h | h | h) <;> simp [h]
  ·split
   ·rename_i e
    subst e;simp
   ·simp
theorem Jh:∀(K:List (List Int)) (m:List Int),(f6 K m).length≤K.length+1
 | [],m=>by simp [f6,cZ]
 | k::K,m=>by
  rw [BA];have:=Jh K m
  split
  ·simp only [List.length_cons];omega
  ·split <;> simp
def j7 (K:List (List Int)):Prop:=K.Pairwise fun a b=>bE a b=true
theorem Ji:∀(K:List (List Int)) (m:List Int),j7 K→j7 (f6 K m)
 | [],m,_=>by simp [f6,cZ,j7]
 | k::K,m,h=>by
  rw [BA];obtain ⟨h1,h2⟩:=List.pairwise_cons.1 h;split
  ·rename_i e
   exact List.pairwise_cons.2 ⟨fun x hx=>by
    rcases (BB K m x).1 hx with rfl | hx
    ·exact e
    ·exact h1 x hx,Ji K m h2⟩
  ·rename_i e
   split
   ·exact h
   ·rename_i ne
    have lt:bE m k=true:=by
     cases q:bE m k
     ·exact absurd (Je k m (by simpa using e) q) ne
     ·rfl
    refine List.pairwise_cons.2 ⟨fun x hx=>?_,h⟩
    rcases List.mem_cons.1 hx with rfl | hx
    ·exact lt
    ·exact Jf _ _ _ lt (h1 x hx)
theorem SJ {K:List (List Int)} (h:j7 K):K.Nodup:=h.imp fun {a b} hab e=>by
 subst e;rw [Jd] at hab;cases hab
def aX (M:List (List Int)):Nat→List (List Int)
 | 0=>[]
 | i+1=>f6 (aX M i) (M.getD i [])
def aU (M:List (List Int)):List (List Int):=aX M M.length
theorem Jj (M:List (List Int)):∀i,j7 (aX M i)
 | 0=>List.Pairwise.nil
 | i+1=>Ji _ _ (Jj M i)
theorem BC (M:List (List Int)):∀i,(aX M i).length≤i
 | 0=>Nat.le_refl _
 | i+1=>Nat.le_trans (Jh _ _) (Nat.succ_le_succ (BC M i))
theorem BD (M:List (List Int)) (x:List Int):∀i,x∈aX M i↔∃j,j<i∧x=M.getD j []
 | 0=>by simp [aX]
 | i+1=>by
  rw [aX,BB,BD M x i]
  constructor
  ·rintro (h | ⟨j,h1,h2⟩)
   ·exact ⟨i,by omega,h⟩
   ·exact ⟨j,by omega,h2⟩
  ·rintro ⟨j,h1,h2⟩
   by_cases e:j=i
   ·subst e;exact .inl h2
   ·exact .inr ⟨j,by omega,h2⟩
def f7:List (List Int)→List Int→Nat
 | [],_=>0
 | k::K,m=>if k=m then 0 else f7 K m+1
theorem pI:∀{K:List (List Int)} {m:List Int},m∈K→f7 K m<K.length∧K.getD (f7 K m) []=m
 | k::K,m,h=>by
  rw [f7];split
  ·rename_i e;exact ⟨by simp,e⟩
  ·rename_i e
   have:=pI (K:=K) (m:=m) (by rcases List.mem_cons.1 h with rfl | h;exact absurd rfl e;exact h)
   exact ⟨by simpa using this.1,by simpa using this.2⟩
theorem pJ:∀{K:List (List Int)} {m:List Int} (i:Nat),(∀j,j<i→K.getD j []≠m)→i<K.length→K.getD i []=m→f7 K m=i
 | [],_,i,_,h,_=>by simp at h
 | k::K,m,0,_,_,h=>by
  have:k=m:=h
  rw [f7,if_pos this]
 | k::K,m,i+1,a,b,c=>by
  have h0:k≠m:=a 0 (by omega)
  rw [f7,if_neg h0,pJ (K:=K) i (fun j hj=>a (j+1) (by omega)) (by simpa using b) (by simpa using c)]
theorem SK {K:List (List Int)} (h:K.Nodup) {i:Nat} (hi:i<K.length):f7 K (K.getD i [])=i:=by
 refine pJ i (fun j hj e=>?_) hi rfl
 rw [ce K [] j (by omega),ce K [] i hi] at e
 have:=(List.getElem_inj h).1 e
 omega
def aZ (M:List (List Int)):List Int:=M.map fun m=>(f7 (aU M) m:Int)
theorem nO {M:List (List Int)} {x:List Int}:x∈aU M↔x∈M:=by
 rw [aU,BD]
 constructor
 ·rintro ⟨j,h1,rfl⟩;exact cE M [] j h1
 ·intro h
  obtain ⟨j,h1,h2⟩:=List.getElem_of_mem h;exact ⟨j,h1,by rw [ce M [] j h1];exact h2.symm⟩
theorem Jk (M:List (List Int)):(aU M).length≤M.length:=BC M _
/- Sorting by insertion. -/
def c6 (p:List Int) (x:Int):Nat→Nat
 | 0=>0
 | j+1=>if x<p.getD j 0 then c6 p x j else j+1
theorem BE (p:List Int) (x:Int):∀j,c6 p x j≤j
 | 0=>Nat.le_refl _
 | j+1=>by rw [c6];split;exact Nat.le_succ_of_le (BE p x j);exact Nat.le_refl _
theorem Jl (p:List Int) (x:Int):∀j i,c6 p x j≤i→i<j→x<p.getD i 0
 | 0,i,_,h=>by omega
 | j+1,i,h,k=>by
  rw [c6] at h;split at h
  ·rename_i e
   by_cases ei:i=j
   ·subst ei;exact e
   ·exact Jl p x j i h (by omega)
  ·omega
theorem Jm (p:List Int) (x:Int):∀j,0<c6 p x j→p.getD (c6 p x j - 1) 0≤x
 | 0,h=>by simp [c6] at h
 | j+1,h=>by
  rw [c6] at h ⊢;split
  ·rename_i e;rw [if_pos e] at h;exact Jm p x j h
  ·rename_i e;simpa using e
def l9 (p:List Int) (x:Int):List Int:=p.take (c6 p x p.length)++x::p.drop (c6 p x p.length)
def cj (l:List Int):Nat→List Int
 | 0=>[]
 | i+1=>l9 (cj l i) (l.getD i 0)
def kY (l:List Int):List Int:=cj l l.length
theorem SM (p:List Int) (x:Int):(l9 p x).length=p.length+1:=by
 have:=BE p x p.length
 simp [l9];omega
theorem ut (l:List Int):∀i,(cj l i).length=i
 | 0=>rfl
 | i+1=>by rw [cj,SM,ut l i]
theorem SN (p:List Int) (x:Int):(l9 p x).Perm (p++[x]):=by
 have h1:(p.take (c6 p x p.length)++x::p.drop (c6 p x p.length)).Perm (x::(p.take (c6 p x p.length)++p.drop (c6 p x p.length))):=List.perm_middle
 rw [List.take_append_drop] at h1;exact h1.trans (List.perm_append_comm (l₁:=[x]) (l₂:=p))
theorem Jn (l:List Int):∀i,i≤l.length→(cj l i).Perm (l.take i)
 | 0,_=>by simp [cj]
 | i+1,h=>by
  rw [cj,←dF l 0 i (by omega)]
  exact (SN _ _).trans ((Jn l i (by omega)).append (List.Perm.refl _))
theorem Jo (l:List Int):(kY l).Perm l:=by
 have:=Jn l l.length (Nat.le_refl _)
 rwa [List.take_length] at this
theorem SO {p:List Int} (h:p.Pairwise (·≤·)) (x:Int):(l9 p x).Pairwise (·≤·):=by
 have hb:=BE p x p.length
 have hg:∀i j,i<j→j<p.length→p.getD i 0≤p.getD j 0:=fun i j hij hj=>by
  rw [ce p 0 i (by omega),ce p 0 j hj]
  exact List.pairwise_iff_getElem.1 h i j (by omega) hj hij
 have lo:∀a∈p.take (c6 p x p.length),a≤x:=fun a ha=>by
  obtain ⟨i,hi,rfl⟩:=List.getElem_of_mem ha;rw [List.length_take] at hi;have e:(p.take (c6 p x p.length))[i]=p.getD i 0:=by rw [List.getElem_take,ce p 0 i (by omega)]
  rw [e];have:=Jm p x p.length (by omega)
  by_cases q:i=c6 p x p.length - 1
  ·subst q;exact this
  ·exact Int.le_trans (hg i (c6 p x p.length - 1) (by omega) (by omega)) this
 have up:∀a∈p.drop (c6 p x p.length),x≤a:=fun a ha=>by
  obtain ⟨i,hi,rfl⟩:=List.getElem_of_mem ha;rw [List.length_drop] at hi;have e:(p.drop (c6 p x p.length))[i]=p.getD (c6 p x p.length+i) 0:=by rw [List.getElem_drop,ce p 0 _ (by omega)]
  rw [e];have:=Jl p x p.length (c6 p x p.length+i) (by omega) (by omega)
  omega
 rw [l9,List.pairwise_append];refine ⟨h.sublist (List.take_sublist _ _),List.pairwise_cons.2 ⟨up,h.sublist (List.drop_sublist _ _)⟩,fun a ha b hb=>?_⟩
 rcases List.mem_cons.1 hb with rfl | hb
 ·exact lo a ha
 ·exact Int.le_trans (lo a ha) (up b hb)
theorem BF (l:List Int):∀i,(cj l i).Pairwise (·≤·)
 | 0=>List.Pairwise.nil
 | i+1=>SO (BF l i) _
theorem SP {l l':List Int} (h:l.Perm l'):kY l=kY l' :=
 List.Perm.eq_of_pairwise (le:=(·≤·)) (fun a b _ _ h1 h2=>Int.le_antisymm h1 h2) (BF l _) (BF l' _) (((Jo l).trans h).trans (Jo l').symm)
/- What tables and colours tell of an element. -/
def gY (t:List (List Int)) (x y:Nat):Int :=
 (if en t x y=(y:Int) then 1 else 0)+(if en t y x=(y:Int) then 2 else 0)+(if en t x y=(x:Int) then 4 else 0)+(if en t y x=(x:Int) then 8 else 0)
def f8 (t:List (List Int)) (c:List Int) (x y:Nat):Int :=
 ((c.getD y 0 * 64+c.getD (en t x y).toNat 0) * 64+c.getD (en t y x).toNat 0) * 16+gY t x y
def gZ (t:List (List Int)) (x y:Nat):Nat→Nat
 | 0=>0
 | z+1=>if en t y z=(x:Int) then gZ t x y z+1 else gZ t x y z
def fQ (n:Nat) (t:List (List Int)) (x y:Nat):Nat:=gZ t x y n
def dz (n:Nat) (t:List (List Int)) (c:List Int) (x:Nat):List Int :=
 aq n (f8 t c x)++aq n fun y=>1099511627776+c.getD y 0 * 64+(fQ n t x y:Int)
def bg (n:Nat) (a:List (List (List Int))) (c:List Int) (x:Nat):Nat→List Int
 | 0=>[c.getD x 0]
 | k+1=>bg n a c x k++kY (dz n (a.getD k []) c x)
def cn (n:Nat) (a:List (List (List Int))) (c:List Int) (x:Nat):List Int:=bg n a c x a.length
theorem BG (n:Nat) (a:List (List (List Int))) (c:List Int) (x:Nat):∀k,(bg n a c x k).getD 0 0=c.getD x 0∧0<(bg n a c x k).length
 | 0=>by simp [bg]
 | k+1=>by
  have:=BG n a c x k
  rw [bg];exact ⟨by rw [getD_append_left' _ _ _ _ this.2];exact this.1,by simp;omega⟩
def ba (n:Nat) (t:List (List Int)):Prop:=t.length=n∧∀x,x<n→(t.getD x []).length=n∧∀y,y<n→0≤en t x y∧en t x y<(n:Int)
def bQ (n:Nat) (a:List (List (List Int))):Prop:=∀k,k<a.length→ba n (a.getD k [])
structure IsoG (n:Nat) (a b:List (List (List Int))) (g:Nat→Nat):Prop where
 lt:∀x,x<n→g x<n
 inj:∀x y,x<n→y<n→g x=g y→x=y
 map:∀k x y,k<a.length→x<n→y<n→en (b.getD k []) (g x) (g y)=(g (en (a.getD k []) x y).toNat:Int)
theorem pK {n:Nat} {g:Nat→Nat} (lt:∀x,x<n→g x<n) (inj:∀x y,x<n→y<n→g x=g y→x=y):((List.range n).map g).Perm (List.range n):=by
 have nd:((List.range n).map g).Nodup:=by
  rw [List.Nodup,List.pairwise_map];exact List.nodup_range.imp_of_mem fun {x y} hx hy hne e=>hne (inj x y (List.mem_range.1 hx) (List.mem_range.1 hy) e)
 refine (List.perm_ext_iff_of_nodup nd List.nodup_range).2 fun y=>⟨fun h=>?_,fun h=>?_⟩
 ·obtain ⟨x,hx,rfl⟩:=List.mem_map.1 h
  exact List.mem_range.2 (lt x (List.mem_range.1 hx))
 ·refine Classical.byContradiction fun hn=>?_
  have h1:(y::(List.range n).map g).Nodup:=List.nodup_cons.2 ⟨hn,nd⟩
  have h2:=List.Nodup.length_le_of_subset h1 (l₂:=List.range n) (fun z hz=>by
   rcases List.mem_cons.1 hz with rfl | hz
   ·exact h
   ·obtain ⟨x,hx,rfl⟩:=List.mem_map.1 hz
    exact List.mem_range.2 (lt x (List.mem_range.1 hx)))
  simp at h2
  omega
theorem Jp {n:Nat} {g:Nat→Nat} (lt:∀x,x<n→g x<n) (inj:∀x y,x<n→y<n→g x=g y→x=y) (F:Nat→Int):(aq n fun y=>F (g y)).Perm (aq n F):=by
 have:=(pK lt inj).map F
 rwa [List.map_map] at this
theorem BH (t:List (List Int)) (x y:Nat):∀n,gZ t x y n=(List.range n).countP fun z=>decide (en t y z=(x:Int))
 | 0=>rfl
 | n+1=>by
  rw [gZ,BH t x y n,List.range_succ,List.countP_append];by_cases h:en t y n=(x:Int) <;> simp [h]
theorem pL {n:Nat} {g:Nat→Nat} (inj:∀x y,x<n→y<n→g x=g y→x=y) {u:Int} (h0:0≤u) (h1:u<(n:Int)) {y:Nat} (hy:y<n):((g u.toNat:Nat):Int)=(g y:Int)↔u=(y:Int):=by
 constructor
 ·intro e
  have:=inj u.toNat y (by omega) hy (by omega)
  omega
 ·intro e;rw [show u.toNat=y by omega]
section
variable {n:Nat} {a b:List (List (List Int))} {g:Nat→Nat}
theorem SQ (h:IsoG n a b g) (ha:bQ n a) {k:Nat} (hk:k<a.length) {x y:Nat} (hx:x<n) (hy:y<n):gY (b.getD k []) (g x) (g y)=gY (a.getD k []) x y:=by
 have hu:=((ha k hk).2 x hx).2 y hy
 have hv:=((ha k hk).2 y hy).2 x hx
 have e1:=h.map k x y hk hx hy
 have e2:=h.map k y x hk hy hx
 simp only [gY,e1,e2,pL h.inj hu.1 hu.2 hx,pL h.inj hu.1 hu.2 hy,pL h.inj hv.1 hv.2 hx,pL h.inj hv.1 hv.2 hy]
theorem SR (h:IsoG n a b g) (ha:bQ n a) {c d:List Int} (hc:∀x,x<n→c.getD x 0=d.getD (g x) 0) {k:Nat} (hk:k<a.length) {x y:Nat} (hx:x<n) (hy:y<n) :
  f8 (b.getD k []) d (g x) (g y)=f8 (a.getD k []) c x y:=by
 have hu:=((ha k hk).2 x hx).2 y hy
 have hv:=((ha k hk).2 y hy).2 x hx
 rw [f8,f8,SQ h ha hk hx hy,h.map k x y hk hx hy,h.map k y x hk hy hx,Int.toNat_natCast,Int.toNat_natCast,←hc y hy,←hc _ (by omega),←hc _ (by omega)]
theorem ST (h:IsoG n a b g) (ha:bQ n a) {k:Nat} (hk:k<a.length) {x y:Nat} (hx:x<n) (hy:y<n):fQ n (b.getD k []) (g x) (g y)=fQ n (a.getD k []) x y:=by
 rw [fQ,fQ,BH,BH,←(pK h.lt h.inj).countP_eq,List.countP_map];refine List.countP_congr fun z hz=>?_
 have hz:=List.mem_range.1 hz
 have hu:=((ha k hk).2 y hy).2 z hz
 simp only [Function.comp,decide_eq_true_eq];rw [h.map k y z hk hy hz,pL h.inj hu.1 hu.2 hx]
theorem SU (h:IsoG n a b g) (ha:bQ n a) {c d:List Int} (hc:∀x,x<n→c.getD x 0=d.getD (g x) 0) {k:Nat} (hk:k<a.length) {x:Nat} (hx:x<n) :
  kY (dz n (b.getD k []) d (g x))=kY (dz n (a.getD k []) c x):=by
 refine SP ?_
 rw [dz,dz];refine List.Perm.append ((Jp h.lt h.inj _).symm.trans ?_) ((Jp h.lt h.inj _).symm.trans ?_)
 ·rw [mY fun y hy=>SR h ha hc hk hx hy]
 ·rw [mY fun y hy=>by rw [ST h ha hk hx hy,←hc y hy]]
theorem Jq (h:IsoG n a b g) (ha:bQ n a) {c d:List Int} (hc:∀x,x<n→c.getD x 0=d.getD (g x) 0) {x:Nat} (hx:x<n):∀k,k≤a.length→bg n b d (g x) k=bg n a c x k
 | 0,_=>by rw [bg,bg,hc x hx]
 | k+1,hk=>by rw [bg,bg,Jq h ha hc hx k (by omega),SU h ha hc (by omega) hx]
theorem SW (h:IsoG n a b g) (ha:bQ n a) (hab:b.length=a.length) {c d:List Int} (hc:∀x,x<n→c.getD x 0=d.getD (g x) 0) {x:Nat} (hx:x<n):cn n b d (g x)=cn n a c x:=by
 rw [cn,cn,hab];exact Jq h ha hc hx _ (Nat.le_refl _)
end
def aI (n:Nat) (a b:List (List (List Int))) (c d:List Int):List (List Int):=(List.range n).map (cn n a c)++(List.range n).map (cn n b d)
def ch (n:Nat) (cl:List Int) (m:Nat):Nat→List Int
 | 0=>List.replicate m 0
 | i+1=>(ch n cl m i).set (cl.getD i 0).toNat ((ch n cl m i).getD (cl.getD i 0).toNat 0+if i<n then 1 else -1)
def j8 (n:Nat) (M:List (List Int)):Bool:=(ch n (aZ M) (aU M).length M.length).all fun x=>decide (x=0)
def ma (n:Nat) (a b:List (List (List Int))) (c d:List Int):Option (List Int×List Int×Nat) :=
 let M:=aI n a b c d
 if j8 n M=true then some ((aZ M).take n,(aZ M).drop n,(aU M).length) else none
def g3 (n:Nat) (a b:List (List (List Int))):Nat→Nat→List Int→List Int→Option (List Int×List Int)
 | 0,_,_,_=>none
 | fuel+1,num,c,d=>match ma n a b c d with
  | none=>none
  | some (c',d',m)=>if m=num then some (c',d') else g3 n a b fuel m c' d'
theorem pM (n:Nat) (a b:List (List (List Int))) (c d:List Int):(aI n a b c d).length=2 * n:=by simp [aI];omega
theorem Jr (n:Nat) (a b:List (List (List Int))) (c d:List Int) {x:Nat} (h:x<n):(aI n a b c d).getD x []=cn n a c x:=by
 rw [aI,getD_append_left' _ _ _ _ (by simpa using h)];simp [List.getD_eq_getElem?_getD,h]
theorem Js (n:Nat) (a b:List (List (List Int))) (c d:List Int) {x:Nat} (h:x<n):(aI n a b c d).getD (n+x) []=cn n b d x:=by
 rw [aI,getD_append_right' _ _ _ _ (by simp)];simp [List.getD_eq_getElem?_getD,h]
theorem nP (M:List (List Int)):(aZ M).length=M.length:=by simp [aZ]
theorem pN (M:List (List Int)) {i:Nat} (h:i<M.length):(aZ M).getD i 0=(f7 (aU M) (M.getD i []):Int):=by
 rw [aZ,qR M _ [] 0 i h]
theorem BI (M:List (List Int)) {i:Nat} (h:i<M.length):0≤(aZ M).getD i 0∧(aZ M).getD i 0<((aU M).length:Int):=by
 rw [pN M h];have:=(pI (nO.2 (cE M [] i h))).1
 omega
def mb (c d:List Int) (m:Nat):Prop:=∀i,i<m→(i:Int)∈c++d
theorem BJ {n:Nat} {a b:List (List (List Int))} {c d c' d':List Int} {m:Nat} (h:ma n a b c d=some (c',d',m)) :
  c'.length=n∧d'.length=n∧m≤2 * n∧mb c' d' m∧(∀x,x<n→0≤c'.getD x 0∧c'.getD x 0<(m:Int))∧∀x,x<n→0≤d'.getD x 0∧d'.getD x 0<(m:Int):=by
 unfold ma at h;dsimp only at h;split at h
 ·cases h
  have L:=pM n a b c d
  refine ⟨by rw [List.length_take,nP,L];omega,by rw [List.length_drop,nP,L];omega,by have:=Jk (aI n a b c d);omega,fun i hi=>?_,fun x hx=>?_,fun x hx=>?_⟩
  ·rw [List.take_append_drop]
   have h1:(aU (aI n a b c d)).getD i []∈aI n a b c d:=nO.1 (cE _ _ _ hi)
   obtain ⟨j,hj,e⟩:=List.getElem_of_mem h1;have h2:=pN _ hj
   rw [ce _ [] j hj,e,SK (K:=aU (aI n a b c d)) (SJ (Jj _ _)) hi] at h2;rw [←h2];exact cE _ _ _ (by rw [nP];exact hj)
  ·rw [oG _ _ _ _ hx]
   exact BI _ (by omega)
  ·rw [M4]
   exact BI _ (by omega)
 ·cases h
theorem SX:∀(m:Nat) (l:List Int),(∀i:Nat,i<m→(i:Int)∈l)→m≤l.length:=fun m l h=>by
 have:=ui (Bh m) (b:=l) fun x hx=>by
  obtain ⟨h0,h1⟩:=nN.1 hx;have:=h x.toNat (by omega)
  rwa [Int.toNat_of_nonneg h0] at this
 simpa [ints] using this
theorem Jt {n:Nat} {a b:List (List (List Int))} {c d:List Int} {num:Nat} (hc:c.length=n) (hd:d.length=n) (h:mb c d num):num≤(aU (aI n a b c d)).length:=by
 have:=SX num ((aU (aI n a b c d)).map fun m=>m.getD 0 0) fun i hi=>by
  rcases List.mem_append.1 (h i hi) with q | q
  ·obtain ⟨x,hx,e⟩:=List.getElem_of_mem q
   refine List.mem_map.2 ⟨cn n a c x,nO.2 ?_,?_⟩
   ·rw [←Jr n a b c d (by omega)];exact cE _ _ _ (by rw [pM];omega)
   ·rw [cn,(BG n a c x _).1,ce c 0 x hx,e]
  ·obtain ⟨x,hx,e⟩:=List.getElem_of_mem q
   refine List.mem_map.2 ⟨cn n b d x,nO.2 ?_,?_⟩
   ·rw [←Js n a b c d (by omega)];exact cE _ _ _ (by rw [pM];omega)
   ·rw [cn,(BG n b d x _).1,ce d 0 x hx,e]
 simpa using this
/- Counting. -/
theorem j9 (n:Nat) (cl:List Int) (m:Nat):∀i,(ch n cl m i).length=m
 | 0=>by simp [ch]
 | i+1=>by rw [ch,List.length_set,j9 n cl m i]
theorem Ju (n:Nat) (cl:List Int) (m:Nat) (hcl:∀i,i<cl.length→0≤cl.getD i 0∧cl.getD i 0<(m:Int)) {q:Nat} (hq:q<m):∀i,i≤cl.length →
  (ch n cl m i).getD q 0=((List.range i).countP fun j=>decide (cl.getD j 0=(q:Int))&&decide (j<n):Nat) - (((List.range i).countP fun j=>decide (cl.getD j 0=(q:Int))&&!decide (j<n):Nat):Int)
 | 0,_=>by simp [ch,List.getD_eq_getElem?_getD,hq]
 | i+1,hi=>by
  have ih:=Ju n cl m hcl hq i (by omega)
  have hr:=hcl i (by omega)
  rw [ch,jS _ _ _ _ (by rw [j9];exact hq),List.range_succ,List.countP_append,List.countP_append]
  by_cases e:cl.getD i 0=(q:Int)
  ·rw [if_pos (by omega)]
   have:(cl.getD i 0).toNat=q:=by omega
   rw [this,ih];by_cases hn:i<n
   ·simp only [List.countP_cons,List.countP_nil,e,hn,if_true,decide_true,Bool.and_true,Bool.not_true,Bool.and_false,if_false,Bool.false_eq_true];omega
   ·simp only [List.countP_cons,List.countP_nil,e,hn,if_true,decide_true,decide_false,Bool.not_false,Bool.and_true,Bool.not_true,Bool.and_false,if_false,Bool.false_eq_true];omega
  ·rw [if_neg (by omega),ih]
   simp only [List.countP_cons,List.countP_nil,e,decide_false,Bool.false_and,Bool.false_eq_true,if_false,Nat.add_zero,Nat.zero_add]
theorem SY {n:Nat} {a b:List (List (List Int))} {g:Nat→Nat} (h:IsoG n a b g) (ha:bQ n a) (hab:b.length=a.length) {c d:List Int} (hc:∀x,x<n→c.getD x 0=d.getD (g x) 0) :
  j8 n (aI n a b c d)=true∧∀x,x<n→((aZ (aI n a b c d)).take n).getD x 0=((aZ (aI n a b c d)).drop n).getD (g x) 0:=by
 have L:=pM n a b c d
 have key:∀x,x<n→(aZ (aI n a b c d)).getD x 0=(aZ (aI n a b c d)).getD (n+g x) 0:=fun x hx=>by
  rw [pN _ (by omega),pN _ (by have:=h.lt x hx;omega),Jr n a b c d hx,Js n a b c d (h.lt x hx),SW h ha hab hc hx]
 refine ⟨?_,fun x hx=>?_⟩
 ·rw [j8,List.all_eq_true]
  intro v hv
  obtain ⟨q,hq,rfl⟩:=List.getElem_of_mem hv;rw [j9] at hq;rw [←ce _ 0 q (by rw [j9];exact hq),decide_eq_true_eq]
  have:=Ju n (aZ (aI n a b c d)) (aU (aI n a b c d)).length (fun i hi=>BI _ (by rwa [nP] at hi)) hq (aI n a b c d).length (by rw [nP];exact Nat.le_refl _)
  rw [this,L,show 2 * n=n+n by omega,List.range_add,List.countP_append,List.countP_append,List.countP_map,List.countP_map]
  have z1:(List.range n).countP (((fun j=>decide ((aZ (aI n a b c d)).getD j 0=(q:Int))&&decide (j<n))) ∘ fun x=>n+x)=0:=by
   rw [List.countP_eq_zero];intro x hx;simp
  have z2:(List.range n).countP (fun j=>decide ((aZ (aI n a b c d)).getD j 0=(q:Int))&&!decide (j<n))=0:=by
   rw [List.countP_eq_zero];intro x hx;have:=List.mem_range.1 hx;simp;omega
  have z3:(List.range n).countP (((fun j=>decide ((aZ (aI n a b c d)).getD j 0=(q:Int))&&!decide (j<n))) ∘ fun x=>n+x)=(List.range n).countP (fun j=>decide ((aZ (aI n a b c d)).getD j 0=(q:Int))&&decide (j<n)):=by
   rw [←(pK h.lt h.inj).countP_eq,List.countP_map];refine List.countP_congr fun x hx=>?_
   have hx:=List.mem_range.1 hx
   have k2:=key x hx
   simp only [Function.comp,hx,decide_true,Bool.and_true,decide_eq_true_eq,Bool.and_eq_true,←k2,Bool.not_eq_true',decide_eq_false_iff_not,Nat.not_lt,Nat.le_add_right,and_true]
  rw [z1,z2,z3];omega
 ·rw [oG _ _ _ _ hx,M4];exact key x hx
theorem SZ {n:Nat} {a b:List (List (List Int))} {g:Nat→Nat} (h:IsoG n a b g) (ha:bQ n a) (hab:b.length=a.length) {c d:List Int} (hc:∀x,x<n→c.getD x 0=d.getD (g x) 0) :
  ∃c' d' m,ma n a b c d=some (c',d',m)∧∀x,x<n→c'.getD x 0=d'.getD (g x) 0:=by
 obtain ⟨h1,h2⟩:=SY h ha hab hc;exact ⟨_,_,_,by unfold ma;dsimp only;rw [if_pos h1],h2⟩
theorem Jv {n:Nat} {a b:List (List (List Int))} {g:Nat→Nat} (h:IsoG n a b g) (ha:bQ n a) (hab:b.length=a.length):∀(fuel num:Nat) (c d:List Int),c.length=n→d.length=n→mb c d num→2 * n<fuel+num→num≤2 * n →
  (∀x,x<n→c.getD x 0=d.getD (g x) 0)→∃c' d',g3 n a b fuel num c d=some (c',d')∧∀x,x<n→c'.getD x 0=d'.getD (g x) 0
 | 0,num,c,d,_,_,_,h1,h2,_=>by omega
 | fuel+1,num,c,d,hcl,hdl,hcov,h1,h2,hc=>by
  obtain ⟨c',d',m,e,hc'⟩:=SZ h ha hab hc;obtain ⟨l1,l2,l3,l4,_⟩:=BJ e;rw [g3,e];simp only;by_cases hm:m=num
  ·rw [if_pos hm];exact ⟨c',d',rfl,hc'⟩
  ·rw [if_neg hm]
   have hle:num≤m:=by
    have:=Jt (n:=n) (a:=a) (b:=b) hcl hdl hcov
    unfold ma at e;dsimp only at e;split at e
    ·cases e;exact this
    ·cases e
   exact Jv h ha hab fuel m c' d' l1 l2 l4 (by omega) l3 hc'
def gw (n:Nat) (a b:List (List (List Int))) (c d:List Int):Option (List Int×List Int):=g3 n a b (2 * n+1) 0 c d
theorem uu {n:Nat} {a b:List (List (List Int))} {g:Nat→Nat} (h:IsoG n a b g) (ha:bQ n a) (hab:b.length=a.length) {c d:List Int} (hcl:c.length=n) (hdl:d.length=n) (hc:∀x,x<n→c.getD x 0=d.getD (g x) 0) :
  ∃c' d',gw n a b c d=some (c',d')∧∀x,x<n→c'.getD x 0=d'.getD (g x) 0 :=
 Jv h ha hab _ _ c d hcl hdl (fun i hi=>by omega) (by omega) (by omega) hc
end Go.Sx
