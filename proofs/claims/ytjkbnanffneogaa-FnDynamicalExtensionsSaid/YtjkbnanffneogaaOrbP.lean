/- OrbP -/
import Derived.Test.YtjkbnanffneogaaCmp
open Go Go.Proofs
namespace Go.Sx
set_option linter.unusedSimpArgs false
set_option linter.unusedVariables false
def orV (L:List (List Int)) (o:List Int) (i k:Nat):Int:=(L.getD k []).getD (o.getD i 0).toNat 0
def orK (L:List (List Int)) (o:List Int) (i:Nat):Nat→List Int
  | 0=>o
  | k+1=>if orV L o i k∈orK L o i k then orK L o i k else orK L o i k++[orV L o i k]
def orI (L:List (List Int)) (x:Int):Nat→List Int
  | 0=>[x]
  | i+1=>if i<(orI L x i).length then orK L (orI L x i) i L.length else orI L x i
def orF (L:List (List Int)) (x:Int):List Int:=orI L x L.length
structure OrOk (n:Nat) (x:Int) (o:List Int):Prop where
  el:∀v∈o,0≤v∧v<(n:Int)
  nd:o.Nodup
  hd:∃r,o=x::r
theorem OrOk.le {n:Nat} {x:Int} {o:List Int} (h:OrOk n x o):o.length≤n:=by
  have:=nodupLe (b:=ints n) h.nd fun v hv=>by
    have:=h.el v hv
    exact ints_mem.2 ⟨this.1,this.2⟩
  rwa [show (ints n).length=n by simp [ints]] at this
theorem orK_ok {L:List (List Int)} (ht:tabB L=true) {x:Int} {o:List Int} (h:OrOk L.length x o) {i:Nat} (hi:i<o.length):∀k,k≤L.length→OrOk L.length x (orK L o i k)∧∃s,orK L o i k=o++s
  | 0,_=>⟨h,[],by simp [orK]⟩
  | k+1,hk=>by
    obtain ⟨a,s,hs⟩:=orK_ok ht h hi k (by omega)
    obtain ⟨n1,n2,tt⟩:=tabB_of ht
    rw [orK]
    split
    · exact ⟨a,s,hs⟩
    · rename_i hn
      have e:=h.el _ (getD_mem o 0 i hi)
      have v:=(tt k (by omega)).2 (o.getD i 0).toNat (by omega)
      refine ⟨⟨fun w hw=>?_,?_,?_⟩,s++[orV L o i k],by rw [hs,List.append_assoc]⟩
      · rcases List.mem_append.1 hw with hw | hw
        · exact a.el w hw
        · rw [List.mem_singleton] at hw
          rw [hw];unfold orV;omega
      · rw [List.nodup_append]
        refine ⟨a.nd,by simp,fun u hu w hw=>?_⟩
        rw [List.mem_singleton] at hw
        rw [hw]
        exact fun e=>hn (e ▸ hu)
      · obtain ⟨r,hr⟩:=a.hd
        exact ⟨r++[orV L o i k],by rw [hr];rfl⟩
theorem orI_ok {L:List (List Int)} (ht:tabB L=true) {x:Int} (hx:0≤x∧x<(L.length:Int)):∀i,OrOk L.length x (orI L x i)
  | 0=>⟨fun v hv=>by rw [show v=x by simpa [orI] using hv];exact hx,by simp [orI],[],rfl⟩
  | i+1=>by
    have a:=orI_ok ht hx i
    rw [orI]
    split
    · rename_i h;exact (orK_ok ht a h L.length (Nat.le_refl _)).1
    · exact a
theorem orI_stop {L:List (List Int)} {x:Int} {i:Nat} (h:(orI L x i).length≤i):∀j,orI L x (i+j)=orI L x i
  | 0=>rfl
  | j+1=>by
    have:=orI_stop h j
    show orI L x (i+j+1)=_
    rw [orI,this,if_neg (by omega)]
def l01Orbit_p (L:List (List Int)) (x:Int):Post:=⟨tabB L=true∧0≤x∧x<(L.length:Int),.c (.ints 2 .i64 (orF L x)),[]⟩
def l01Orbit_ct:List AD→Option Post
  | [.c (.rows .i64 (L)),.c (.int .i64 (x))]=>some (l01Orbit_p L x)
  | _=>none
def l01Orbit_ann (L:List (List Int)) (x:Int):Nat→Option Ann
  | 0=>some (Ann.mk ((Nat)) (fun i=>⟨[(0,.c (.ro (.rows .i64 (L)))),(5,.c (.own (9))),(6,.c (.int .i64 ((i:Int))))],[(9,some (.ints 2 .i64 (orI L x i)))]⟩) (fun i=>i≤(orI L x i).length) (fun i=>L.length - i) (fun i=>fun b_=>match b_ with | 2=>some (Ann.mk ((Nat)) (fun k=>⟨[(0,.c (.ro (.rows .i64 (L)))),(5,.c (.own (9))),(6,.c (.int .i64 ((i:Int)))),(7,.c (.int .i64 ((k:Int))))],[(9,some (.ints 2 .i64 (orK L (orI L x i) i k)))]⟩) (fun k=>k≤L.length∧i<(orI L x i).length) (fun k=>L.length - k) (fun _=>noAnn)) | _=>none))
  | _=>none
def l01Orbit_G:List (Nat×Ctr):=[(95,⟨[],l01Has_ct⟩)]
def l01Orbit_V (L:List (List Int)) (x:Int):Prop :=
 ((∃x0:Nat,((x0≤(orI L x x0).length)∧((L=L)∧(((0:Int)=(↑x0:Int))∧([x]=orI L x x0)))))∧(∀x1:Nat,((x1≤(orI L x x1).length)→(BrP (decide ((↑x1:Int)<(↑((orI L x x1).length):Int))) ((∃x2:Nat,(((x2≤L.length)∧(x1<(orI L x x1).length))∧((L=L)∧(((↑x1:Int)=(↑x1:Int))∧(((0:Int)=(↑x2:Int))∧(orI L x x1=orK L (orI L x x1) x1 x2))))))∧(∀x3:Nat,(((x3≤L.length)∧(x1<(orI L x x1).length))→(BrP (decide ((↑x3:Int)<(↑(L.length):Int))) ((inB (↑x3:Int) (L.length))∧((inB (↑x1:Int) ((orK L (orI L x x1) x1 x3).length))∧((inB ((orK L (orI L x x1) x1 x3).getD ((↑x1:Int).toNat) (0:Int)) ((L.getD ((↑x3:Int).toNat) []).length))∧((((orK L (orI L x x1) x1 x3).length≤(1099511627776:Nat))∧True)∧(BrP (!decide ((List.getD L ((↑x3:Int).toNat) []).getD (((orK L (orI L x x1) x1 x3).getD ((↑x1:Int).toNat) (0:Int)).toNat) (0:Int)∈orK L (orI L x x1) x1 x3)) ((inB (↑x3:Int) (L.length))∧((inB (↑x1:Int) ((orK L (orI L x x1) x1 x3).length))∧((inB ((orK L (orI L x x1) x1 x3).getD ((↑x1:Int).toNat) (0:Int)) ((L.getD ((↑x3:Int).toNat) []).length))∧((room ((orK L (orI L x x1) x1 x3).length+[(List.getD L ((↑x3:Int).toNat) []).getD (((orK L (orI L x x1) x1 x3).getD ((↑x1:Int).toNat) (0:Int)).toNat) (0:Int)].length))∧((InR ((↑x3:Int)+(1:Int)))∧(∃x4:Nat,(((x4≤L.length)∧(x1<(orI L x x1).length))∧((L.length - x4<L.length - x3)∧((L=L)∧(((↑x1:Int)=(↑x1:Int))∧(((↑x3:Int)+(1:Int)=(↑x4:Int)) ∧
 (orK L (orI L x x1) x1 x3++[(List.getD L ((↑x3:Int).toNat) []).getD (((orK L (orI L x x1) x1 x3).getD ((↑x1:Int).toNat) (0:Int)).toNat) (0:Int)]=orK L (orI L x x1) x1 x4)))))))))))) ((InR ((↑x3:Int)+(1:Int)))∧(∃x5:Nat,(((x5≤L.length)∧(x1<(orI L x x1).length))∧((L.length - x5<L.length - x3)∧((L=L)∧(((↑x1:Int)=(↑x1:Int))∧(((↑x3:Int)+(1:Int)=(↑x5:Int))∧(orK L (orI L x x1) x1 x3=orK L (orI L x x1) x1 x5))))))))))))) ((InR ((↑x1:Int)+(1:Int)))∧(∃x6:Nat,((x6≤(orI L x x6).length)∧((L.length - x6<L.length - x1)∧((L=L)∧(((↑x1:Int)+(1:Int)=(↑x6:Int))∧(orK L (orI L x x1) x1 x3=orI L x x6))))))))))) ((orI L x x1=orF L x)∧True)))))
theorem l01Orbit_vc (L:List (List Int)) (x:Int):runF Try.prog (gam l01Orbit_G) noWr (l01Orbit_ann L x) Try.f100 (bodyOf Try.f100) [] [.c (.rows .i64 (L)),.c (.int .i64 (x))] (l01Orbit_p L x)=l01Orbit_V L x:=by kernel_rfl
theorem l01Orbit_ok (L:List (List Int)) (x:Int) (hpre:(l01Orbit_p L x).pre):l01Orbit_V L x:=by
  simp only [l01Orbit_p,l01Orbit_V,BrP_iff,u1,u2,u3,u4,u5,u6,u7,u8,u9,v1,v2,v3,v4,v5,v6,v7,v8,v9,w1,w2,w3,w4,markL_length,inB,InR,room,bdsOk] at hpre ⊢
  obtain ⟨ht,hx0,hx1⟩:=hpre
  obtain ⟨n1,n2,tt⟩:=tabB_of ht
  refine ⟨⟨0,Nat.zero_le _,rfl,rfl⟩,fun i hi=>⟨fun h=>⟨⟨0,⟨Nat.zero_le _,by omega⟩,rfl,rfl⟩,fun k ⟨hk,hi2⟩=>?_⟩,fun h=>?_⟩⟩
  · have O:=orI_ok ht ⟨hx0,hx1⟩ i
    have K:=orK_ok ht O hi2 k hk
    have ol:=O.le
    have kl:=K.1.le
    obtain ⟨s,hs⟩:=K.2
    have sl:(orK L (orI L x i) i k).length=(orI L x i).length+s.length:=by rw [hs,List.length_append]
    have g:(orK L (orI L x i) i k).getD i 0=(orI L x i).getD i 0:=by rw [hs,getD_append_left' _ _ _ _ hi2]
    have e:=O.el _ (getD_mem (orI L x i) 0 i hi2)
    refine ⟨fun h2=>?_,fun h2=>?_⟩
    · have r:=tt k (by omega)
      rw [g]
      have ve:(L.getD k []).getD ((orI L x i).getD i 0).toNat 0=orV L (orI L x i) i k:=rfl
      rw [ve]
      refine ⟨by omega,by omega,by omega,by omega,fun y=>⟨by omega,by omega,by omega,by omega,by omega,k+1,⟨by omega,hi2⟩,by omega,by omega,?_⟩,fun y=>⟨by omega,k+1,⟨by omega,hi2⟩,by omega,by omega,?_⟩⟩
      · rw [orK,if_neg y]
      · rw [orK,if_pos y]
    · have ek:k=L.length:=by omega
      subst ek
      have e2:orI L x (i+1)=orK L (orI L x i) i L.length:=by rw [orI,if_pos hi2]
      exact ⟨by omega,i+1,by rw [e2];omega,by omega,by omega,e2.symm⟩
  · have O:=(orI_ok ht ⟨hx0,hx1⟩ i).le
    have:=orI_stop (L:=L) (x:=x) (i:=i) (by omega) (L.length - i)
    rw [show i+(L.length - i)=L.length by omega] at this
    exact this.symm
theorem l01Orbit_fits:Fits Try.prog 100 ⟨[],l01Orbit_ct⟩:=by
  refine ffn (Γ:=gam l01Orbit_G) (gok_cons l01Has_fits gok_nil) Try.func100 fun ds p h hp=>?_
  unfold l01Orbit_ct at h
  split at h
  · cases h
    exact ⟨noWr,l01Orbit_ann _ _ ,by rw [l01Orbit_vc];exact l01Orbit_ok _ _  hp⟩
  · cases h
def sgN (l o:List Int) (v:Int):Nat→List Int
  | 0=>l
  | i+1=>(sgN l o v i).set (o.getD i 0).toNat v
def obN (L:List (List Int)):Nat→List Int×Int
  | 0=>(List.replicate L.length (-1),0)
  | x+1=>if 0≤(obN L x).1.getD x 0 then obN L x else (sgN (obN L x).1 (orF L (x:Int)) (obN L x).2 (orF L (x:Int)).length,(obN L x).2+1)
theorem sgN_length (l o:List Int) (v:Int):∀i,(sgN l o v i).length=l.length
  | 0=>rfl
  | i+1=>by rw [sgN,List.length_set,sgN_length l o v i]
theorem sgN_get {l o:List Int} {v:Int} {q:Nat} (hq:q<l.length):∀i,(sgN l o v i).getD q 0=l.getD q 0∨(sgN l o v i).getD q 0=v
  | 0=>.inl rfl
  | i+1=>by
    rw [sgN,getD_set _ _ _ _ (by rw [sgN_length];exact hq)]
    split
    · exact .inr rfl
    · exact sgN_get hq i
theorem sgN_hd {l o:List Int} {v:Int} {x:Nat} (hx:x<l.length) (h:(o.getD 0 0).toNat=x):∀i,1≤i→(sgN l o v i).getD x 0=v
  | 0,h1=>by omega
  | i+1,_=>by
    rw [sgN,getD_set _ _ _ _ (by rw [sgN_length];exact hx)]
    split
    · rfl
    · rename_i hn
      by_cases e:i=0
      · subst e;exact absurd h.symm hn
      · exact sgN_hd hx h i (by omega)
theorem obN_ok {L:List (List Int)} (ht:tabB L=true):∀x,x≤L.length→(obN L x).1.length=L.length∧0≤(obN L x).2∧(obN L x).2≤(x:Int)∧(∀q,q<L.length→-1≤(obN L x).1.getD q 0∧(obN L x).1.getD q 0≤(L.length:Int) - 1)∧∀q,q<x→0≤(obN L x).1.getD q 0
  | 0,_=>by
    have n1:=(tabB_of ht).1
    refine ⟨by simp [obN],by simp [obN],by simp [obN],fun q hq=>?_,fun q hq=>by omega⟩
    simp [obN,List.getD,hq]
    omega
  | x+1,hx=>by
    obtain ⟨a1,a2,a3,a4,a5⟩:=obN_ok ht x (by omega)
    rw [obN]
    split
    · rename_i h
      refine ⟨a1,a2,by omega,a4,fun q hq=>?_⟩
      by_cases e:q=x
      · rw [e];exact h
      · exact a5 q (by omega)
    · rename_i h
      have O:=orI_ok ht (x:=(x:Int)) ⟨by omega,by omega⟩ L.length
      obtain ⟨r,hr⟩:=O.hd
      have hr:orF L (x:Int)=(x:Int)::r:=hr
      refine ⟨by rw [sgN_length];exact a1,by show 0≤(obN L x).2+1;omega,by show (obN L x).2+1≤_;omega,fun q hq=>?_,fun q hq=>?_⟩
      · have:=a4 q hq
        rcases sgN_get (l:=(obN L x).1) (o:=orF L (x:Int)) (v:=(obN L x).2) (q:=q) (by omega) (orF L (x:Int)).length with e | e <;> rw [e] <;> omega
      · by_cases e:q=x
        · subst e
          rw [sgN_hd (by omega) (by rw [hr];simp) _ (by rw [hr];simp)]
          exact a2
        · have:=a5 q (by omega)
          rcases sgN_get (l:=(obN L x).1) (o:=orF L (x:Int)) (v:=(obN L x).2) (q:=q) (by omega) (orF L (x:Int)).length with e | e <;> rw [e] <;> omega
def l01Orbits_p (n:Int) (L:List (List Int)):Post:=⟨tabB L=true∧n=(L.length:Int),.c (.ints 2 .i64 ((obN L L.length).1)),[]⟩
def l01Orbits_ct:List AD→Option Post
  | [.c (.int .i64 (n)),.c (.rows .i64 (L))]=>some (l01Orbits_p n L)
  | _=>none
def l01Orbits_ann (n:Int) (L:List (List Int)):Nat→Option Ann
  | 0=>some (Ann.mk ((Nat)) (fun i=>⟨[(0,.c (.int .i64 (n))),(1,.c (.ro (.rows .i64 (L)))),(5,.c (.own (11))),(6,.c (.int .i64 ((i:Int))))],[(11,some (.ints 2 .i64 (List.replicate i (-1))))]⟩) (fun i=>i≤L.length) (fun i=>L.length - i) (fun _=>noAnn))
  | 2=>some (Ann.mk ((Nat)) (fun x=>⟨[(0,.c (.int .i64 (n))),(1,.c (.ro (.rows .i64 (L)))),(5,.c (.own (11))),(7,.c (.int .i64 ((obN L x).2))),(8,.c (.int .i64 ((x:Int))))],[(11,some (.ints 2 .i64 ((obN L x).1)))]⟩) (fun x=>x≤L.length) (fun x=>L.length - x) (fun x=>fun b_=>match b_ with | 4=>some (Ann.mk ((Nat)) (fun i=>⟨[(0,.c (.int .i64 (n))),(1,.c (.ro (.rows .i64 (L)))),(5,.c (.own (11))),(7,.c (.int .i64 ((obN L x).2))),(8,.c (.int .i64 ((x:Int)))),(9,.c (.own (32))),(10,.c (.int .i64 ((i:Int))))],[(11,some (.ints 2 .i64 (sgN (obN L x).1 (orF L (x:Int)) (obN L x).2 i))),(32,some (.ints 2 .i64 (orF L (x:Int))))]⟩) (fun i=>i≤(orF L (x:Int)).length∧x<L.length∧¬ 0≤(obN L x).1.getD x 0) (fun i=>(orF L (x:Int)).length - i) (fun _=>noAnn)) | _=>none))
  | _=>none
def l01Orbits_G:List (Nat×Ctr):=[(100,⟨[],l01Orbit_ct⟩)]
def l01Orbits_V (n:Int) (L:List (List Int)):Prop :=
 ((∃x0:Nat,((x0≤L.length)∧((n=n)∧((L=L)∧(((0:Int)=(↑x0:Int))∧([]=List.replicate x0 (-1:Int)))))))∧(∀x1:Nat,((x1≤L.length)→(BrP (decide ((↑x1:Int)<n)) ((room ((List.replicate x1 (-1:Int)).length+[(-1:Int)].length))∧((InR ((↑x1:Int)+(1:Int)))∧(∃x2:Nat,((x2≤L.length)∧((L.length - x2<L.length - x1)∧((n=n)∧((L=L)∧(((↑x1:Int)+(1:Int)=(↑x2:Int))∧(List.replicate x1 (-1:Int)++[(-1:Int)]=List.replicate x2 (-1:Int)))))))))) ((∃x3:Nat,((x3≤L.length)∧((n=n)∧((L=L)∧(((0:Int)=(obN L x3).2)∧(((0:Int)=(↑x3:Int))∧(List.replicate x1 (-1:Int)=(obN L x3).1)))))))∧(∀x4:Nat,((x4≤L.length)→(BrP (decide ((↑x4:Int)<n)) ((inB (↑x4:Int) (((obN L x4).1).length))∧(BrP (decide ((0:Int)≤((obN L x4).1).getD ((↑x4:Int).toNat) (0:Int))) ((InR ((↑x4:Int)+(1:Int)))∧(∃x5:Nat,((x5≤L.length)∧((L.length - x5<L.length - x4)∧((n=n)∧((L=L)∧(((obN L x4).2=(obN L x5).2)∧(((↑x4:Int)+(1:Int)=(↑x5:Int))∧((obN L x4).1=(obN L x5).1))))))))) ((((tabB L=true)∧(((0:Int)≤(↑x4:Int))∧((↑x4:Int)<(↑(L.length):Int))))∧True)∧((∃x6:Nat,(((x6≤(orF L (↑x4:Int)).length)∧((x4<L.length)∧(¬(0:Int)≤((obN L x4).1).getD x4 (0:Int))))∧((n=n)∧((L=L)∧(((obN L x4).2=(obN L x4).2)∧(((↑x4:Int)=(↑x4:Int))∧(((0:Int)=(↑x6:Int))∧(((obN L x4).1=sgN ((obN L x4).1) (orF L (↑x4:Int)) ((obN L x4).2) x6)∧(orF L (↑x4:Int)=orF L (↑x4:Int))))))))))∧(∀x7:Nat,(((x7≤(orF L (↑x4:Int)).length)∧((x4<L.length) ∧
 (¬(0:Int)≤((obN L x4).1).getD x4 (0:Int))))→(BrP (decide ((↑x7:Int)<(↑((orF L (↑x4:Int)).length):Int))) ((inB (↑x7:Int) ((orF L (↑x4:Int)).length))∧((inB ((orF L (↑x4:Int)).getD ((↑x7:Int).toNat) (0:Int)) ((sgN ((obN L x4).1) (orF L (↑x4:Int)) ((obN L x4).2) x7).length))∧((InR ((↑x7:Int)+(1:Int)))∧(∃x8:Nat,(((x8≤(orF L (↑x4:Int)).length)∧((x4<L.length)∧(¬(0:Int)≤((obN L x4).1).getD x4 (0:Int))))∧(((orF L (↑x4:Int)).length - x8<(orF L (↑x4:Int)).length - x7)∧((n=n)∧((L=L)∧(((obN L x4).2=(obN L x4).2)∧(((↑x4:Int)=(↑x4:Int))∧(((↑x7:Int)+(1:Int)=(↑x8:Int))∧((List.set (sgN ((obN L x4).1) (orF L (↑x4:Int)) ((obN L x4).2) x7) (((orF L (↑x4:Int)).getD ((↑x7:Int).toNat) (0:Int)).toNat) ((obN L x4).2)=sgN ((obN L x4).1) (orF L (↑x4:Int)) ((obN L x4).2) x8)∧(orF L (↑x4:Int)=orF L (↑x4:Int)))))))))))))) ((InR ((obN L x4).2+(1:Int)))∧((InR ((↑x4:Int)+(1:Int)))∧(∃x9:Nat,((x9≤L.length)∧((L.length - x9<L.length - x4)∧((n=n)∧((L=L)∧(((obN L x4).2+(1:Int)=(obN L x9).2)∧(((↑x4:Int)+(1:Int)=(↑x9:Int))∧(sgN ((obN L x4).1) (orF L (↑x4:Int)) ((obN L x4).2) x7=(obN L x9).1))))))))))))))))) (((obN L x4).1=(obN L (L.length)).1)∧True)))))))))
theorem l01Orbits_vc (n:Int) (L:List (List Int)):runF Try.prog (gam l01Orbits_G) noWr (l01Orbits_ann n L) Try.f91 (bodyOf Try.f91) [] [.c (.int .i64 (n)),.c (.rows .i64 (L))] (l01Orbits_p n L)=l01Orbits_V n L:=by kernel_rfl
theorem l01Orbits_ok (n:Int) (L:List (List Int)) (hpre:(l01Orbits_p n L).pre):l01Orbits_V n L:=by
  simp only [l01Orbits_p,l01Orbits_V,BrP_iff,u1,u2,u3,u4,u5,u6,u7,u8,u9,v1,v2,v3,v4,v5,v6,v7,v8,v9,w1,w2,w3,w4,markL_length,inB,InR,room,bdsOk] at hpre ⊢
  obtain ⟨ht,hn⟩:=hpre
  obtain ⟨n1,n2,tt⟩:=tabB_of ht
  refine ⟨⟨0,by omega,rfl,rfl⟩,fun i hi=>⟨fun h=>⟨by omega,by omega,i+1,by omega,by omega,by omega,by rw [List.replicate_succ']⟩,fun h=>?_⟩⟩
  refine ⟨⟨0,by omega,rfl,rfl,by rw [show i=L.length by omega];rfl⟩,fun x hx=>⟨fun h=>?_,fun h=>?_⟩⟩
  · obtain ⟨a1,a2,a3,a4,a5⟩:=obN_ok ht x hx
    refine ⟨by omega,fun y=>?_,fun y=>?_⟩
    · exact ⟨by omega,x+1,by omega,by omega,by rw [obN,if_pos y],by omega,by rw [obN,if_pos y]⟩
    · have O:=orI_ok ht (x:=(x:Int)) ⟨by omega,by omega⟩ L.length
      have ol:(orF L (x:Int)).length≤L.length:=O.le
      refine ⟨⟨ht,by omega,by omega⟩,⟨0,⟨by omega,by omega,by omega⟩,rfl,rfl⟩,fun i ⟨hi,_,_⟩=>⟨fun h2=>?_,fun h2=>?_⟩⟩
      · have e:=O.el _ (getD_mem (orF L (x:Int)) 0 i (by omega))
        have sl:=sgN_length (obN L x).1 (orF L (x:Int)) (obN L x).2 i
        exact ⟨by omega,by omega,by omega,i+1,⟨by omega,by omega,by omega⟩,by omega,by omega,rfl⟩
      · have y':¬ 0≤(obN L x).1.getD x 0:=by omega
        exact ⟨by omega,by omega,x+1,by omega,by omega,by rw [obN,if_neg y'],by omega,by rw [obN,if_neg y',show i=(orF L (x:Int)).length by omega]⟩
  · rw [show x=L.length by omega]
theorem l01Orbits_fits:Fits Try.prog 91 ⟨[],l01Orbits_ct⟩:=by
  refine ffn (Γ:=gam l01Orbits_G) (gok_cons l01Orbit_fits gok_nil) Try.func91 fun ds p h hp=>?_
  unfold l01Orbits_ct at h
  split at h
  · cases h
    exact ⟨noWr,l01Orbits_ann _ _ ,by rw [l01Orbits_vc];exact l01Orbits_ok _ _  hp⟩
  · cases h
end Go.Sx
