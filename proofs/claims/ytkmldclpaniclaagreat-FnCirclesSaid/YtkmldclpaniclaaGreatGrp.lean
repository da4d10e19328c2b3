/- Grp -/
import Derived.Test.YtkmldclpaniclaaGreatCmp
import Derived.Shelf.SlSortCmp.NoneTotal
import Derived.Lib.OwnBridge
import Derived.Test.YtkmldclpaniclaaGreatProg
import Derived.Test.YtkmldclpaniclaaGreatSxZ
import Derived.KernelRfl
import Derived.Test.YtkmldclpaniclaaGreatMapQ
import Derived.Test.YtkmldclpaniclaaGreatTable
set_option linter.unusedSimpArgs false
set_option linter.unusedVariables false
set_option linter.defProp false
section
open Go Go.Proofs Go.RowKit Go.Shelf
namespace Go.Sx
def zP:Shelf.Ren:=⟨fun x=>match x with|6=>134|14=>186|15=>139|20=>224|21=>225|22=>226|23=>227|24=>228|25=>229|26=>230|27=>231|28=>199|29=>200|46=>243|47=>234|48=>235|49=>244|50=>245|57=>247|_=>0,fun x=>match x with|0=>0|3=>3|4=>4|5=>5|9=>9|22=>68|24=>22|25=>135|39=>130|45=>173|46=>174|50=>178|53=>181|55=>112|66=>199|70=>203|76=>210|77=>211|_=>0,fun x=>x⟩
set_option maxRecDepth 100000
theorem Ln:SlLaysF.n6 Tryz.prog zP where
 mixed:=by kernel_rfl
 f6:=⟨Tryz.f134.name,by kernel_rfl,by kernel_rfl⟩
 f14:=⟨Tryz.f186.name,by kernel_rfl,by kernel_rfl⟩
 f15:=by kernel_rfl
 f20:=⟨Tryz.f224.name,by kernel_rfl,by kernel_rfl⟩
 f21:=⟨Tryz.f225.name,by kernel_rfl,by kernel_rfl⟩
 f22:=⟨Tryz.f226.name,by kernel_rfl,by kernel_rfl⟩
 f23:=⟨Tryz.f227.name,by kernel_rfl,by kernel_rfl⟩
 f24:=⟨Tryz.f228.name,by kernel_rfl,by kernel_rfl⟩
 f25:=⟨Tryz.f229.name,by kernel_rfl,by kernel_rfl⟩
 f26:=⟨Tryz.f230.name,by kernel_rfl,by kernel_rfl⟩
 f27:=⟨Tryz.f231.name,by kernel_rfl,by kernel_rfl⟩
 f28:=by kernel_rfl
 f29:=by kernel_rfl
 f46:=⟨Tryz.f243.name,by kernel_rfl,by kernel_rfl⟩
 f47:=by kernel_rfl
 f48:=by kernel_rfl
 f49:=⟨Tryz.f244.name,by kernel_rfl,by kernel_rfl⟩
 f50:=⟨Tryz.f245.name,by kernel_rfl,by kernel_rfl⟩
 f57:=⟨Tryz.f247.name,by kernel_rfl,by kernel_rfl⟩
 t0:=by kernel_rfl
 a0:=fun w=>by kernel_rfl
 z0:=fun w=>by kernel_rfl
 v0:=fun w=>by kernel_rfl
 t3:=by kernel_rfl
 a3:=fun w=>by kernel_rfl
 z3:=fun w=>by kernel_rfl
 v3:=fun w=>by kernel_rfl
 t4:=by kernel_rfl
 a4:=fun w=>by kernel_rfl
 z4:=fun w=>by kernel_rfl
 v4:=fun w=>by kernel_rfl
 t5:=by kernel_rfl
 a5:=fun w=>by kernel_rfl
 z5:=fun w=>by kernel_rfl
 v5:=fun w=>by kernel_rfl
 t9:=by kernel_rfl
 a9:=fun w=>by kernel_rfl
 z9:=fun w=>by kernel_rfl
 v9:=fun w=>by kernel_rfl
 t22:=by kernel_rfl
 a22:=fun w=>by kernel_rfl
 z22:=fun w=>by kernel_rfl
 v22:=fun w=>by kernel_rfl
 a24:=fun w=>by kernel_rfl
 z24:=fun w=>by kernel_rfl
 t25:=by kernel_rfl
 a25:=fun w=>by kernel_rfl
 z25:=fun w=>by kernel_rfl
 v25:=fun w=>by kernel_rfl
 t39:=by kernel_rfl
 a39:=fun w=>by kernel_rfl
 z39:=fun w=>by kernel_rfl
 v39:=fun w=>by kernel_rfl
 t45:=by kernel_rfl
 a45:=fun w=>by kernel_rfl
 z45:=fun w=>by kernel_rfl
 v45:=fun w=>by kernel_rfl
 t46:=by kernel_rfl
 a46:=fun w=>by kernel_rfl
 z46:=fun w=>by kernel_rfl
 v46:=fun w=>by kernel_rfl
 t50:=by kernel_rfl
 a50:=fun w=>by kernel_rfl
 z50:=fun w=>by kernel_rfl
 v50:=fun w=>by kernel_rfl
 t53:=by kernel_rfl
 a53:=fun w=>by kernel_rfl
 z53:=fun w=>by kernel_rfl
 v53:=fun w=>by kernel_rfl
 t55:=by kernel_rfl
 a55:=fun w=>by kernel_rfl
 z55:=fun w=>by kernel_rfl
 v55:=fun w=>by kernel_rfl
 t66:=by kernel_rfl
 a66:=fun w=>by kernel_rfl
 z66:=fun w=>by kernel_rfl
 v66:=fun w=>by kernel_rfl
 t70:=by kernel_rfl
 a70:=fun w=>by kernel_rfl
 z70:=fun w=>by kernel_rfl
 v70:=fun w=>by kernel_rfl
 t76:=by kernel_rfl
 a76:=fun w=>by kernel_rfl
 z76:=fun w=>by kernel_rfl
 v76:=fun w=>by kernel_rfl
 t77:=by kernel_rfl
 a77:=fun w=>by kernel_rfl
 z77:=fun w=>by kernel_rfl
 v77:=fun w=>by kernel_rfl
structure CmpOk {α:Type} (c:α->α->Int):Prop where
 anti:∀x y,c x y=- c y x
 zero:∀x y,c x y=0↔x=y
 le:∀x y z,c x y<=0->c y z<=0->c x z<=0
theorem zQ:CmpOk bg where
 anti x y:=by
  unfold bg
  (repeat' split)<;>omega
 zero x y:=mf
 le x y z:=by
  unfold bg
  (repeat' split)<;>omega
theorem CmpOk.lists{α:Type}{c:α->α->Int}(h:CmpOk c):CmpOk (aR c) where
 anti:=by
  intro a
  induction a with
  |nil=>intro b;cases b<;>rfl
  |cons x a ih =>
   intro b
   cases b with
   |nil=>rfl
   |cons y b =>
    simp only[aR];have h1:=h.anti x y
    by_cases h0:c x y=0
    ·rw[AA h0,AA (by omega),ih b]
    ·rw[AB h0,AB (by omega),h1]
 zero a b:=mg (fun x y=>h.zero x y)
 le:=by
  intro a
  induction a with
  |nil=>intro b d _ _;cases d<;>simp[aR]
  |cons x a ih =>
   intro b d h1 h2
   cases b with
   |nil=>simp[aR]at h1
   |cons y b =>
    cases d with
    |nil=>simp[aR]at h2
    |cons z d =>
     simp only[aR]at h1 h2⊢;have a1:=h.anti x y
     have a2:=h.anti y z
     have a3:=h.anti x z
     have z1:=h.zero x y
     have z2:=h.zero y z
     have z3:=h.zero x z
     by_cases e1:c x y=0
     ·have e1':=z1.1 e1
      subst e1';rw[AA e1]at h1;by_cases e2:c x z=0
      ·rw[AA e2]at h2⊢
       exact ih b d h1 h2
      ·rw[AB e2]at h2⊢
       exact h2
     ·rw[AB e1]at h1
      have l1:c x z<=0:=by
       by_cases e2:c y z=0
       ·rw[z2.1 e2]at h1;exact h1
       ·rw[AB e2]at h2
        exact h.le x y z h1 h2
      by_cases e3:c x z=0
      ·have e3':=z3.1 e3
       subst e3';have a4:=h.anti x y
       by_cases e2:c y x=0
       ·omega
       ·rw[AB e2]at h2;omega
      ·rw[AB e3];exact l1
theorem CmpOk.lt{α:Type}{c:α->α->Int}(h:CmpOk c){x y z:α}(h1:c x y<0)(h2:c y z<0):c x z<0:=by
 have l:=h.le x y z (by omega) (by omega)
 refine Av fun hc=>?_
 have e:=(h.zero x z).1 (by omega)
 subst e;have:=h.anti x y
 omega
def eA:D2->D2->Int:=aR (aR bg)
theorem dO:CmpOk eA:=zQ.lists.lists
def gQ(l:D3)(i j:Fin l.length):Int:=eA (l.getD i.1 []) (l.getD j.1 [])
theorem zR(l:D3):Go.Sort.SWO (fun i j=>decide (gQ l i j<0)) where
 irrefl:=fun x=>by
  have:eA (l.getD x.1 []) (l.getD x.1 [])=0:=(dO.zero _ _).2 rfl
  show decide (gQ l x x<0)=false
  rw[gQ,this];rfl
 trans:=fun x y z h1 h2=>by
  rw[Ab]at h1 h2⊢;exact dO.lt h1 h2
 ntrans:=fun x y z h1 h2=>by
  rw[Bq]at h1 h2⊢;unfold gQ at *;have a1:=dO.anti (l.getD x.1 []) (l.getD y.1 [])
  have a2:=dO.anti (l.getD y.1 []) (l.getD z.1 [])
  have a3:=dO.anti (l.getD x.1 []) (l.getD z.1 [])
  have:=dO.le (l.getD z.1 []) (l.getD y.1 []) (l.getD x.1 []) (by omega) (by omega)
  omega
def fe(l:D3)(h:0<l.length):Array (Fin l.length) :=
 letI:Inhabited (Fin l.length):=⟨⟨0,h⟩⟩
 Go.Sort.pdq (fun i j=>decide (gQ l i j<0)) (List.finRange l.length).toArray 0 (List.finRange l.length).toArray.size (Lib.bitLen (List.finRange l.length).toArray.size) true true
def dc(l:D3):D3:=if h:0<l.length then(fe l h).toList.map (fun i=>l.getD i.1 [])else []
theorem ti(l:D3)(h:0<l.length):(fe l h).toList.Perm (List.finRange l.length):=by
 letI:Inhabited (Fin l.length):=⟨⟨0,h⟩⟩
 have:=(Go.Sort.pdq_sorts (fun i j=>decide (gQ l i j<0)) (zR l) (List.finRange l.length).toArray 0 (List.finRange l.length).toArray.size (Lib.bitLen (List.finRange l.length).toArray.size) true true (AQ _) (AE _) (Or.inl rfl)).1
 obtain⟨h1,_,h3⟩:=this;have e1:∀(d:Array (Fin l.length)),d.extract 0 d.size=d:=fun d=>by simp
 rw[e1]at h3;have h4:((fe l h).extract 0 (List.finRange l.length).toArray.size).toList.Perm (List.finRange l.length).toArray.toList:=h3
 rw[<-show(fe l h).size=(List.finRange l.length).toArray.size from h1,e1]at h4
 simpa using h4
theorem tj(l:D3):(dc l).length=l.length:=by
 unfold dc;split
 ·rename_i h
  rw[AR,(ti l h).length_eq];simp
 ·show 0=l.length
  omega
theorem Ux(l:D3)(hr1:l.length<=1099511627776)(hr2:∀r∈l,aS r)(w:World)(e:TypeId)(v:Value)(ins:List Value)(h1:w.ownsRow 0 e 1 v l.length ins)(h2:ins.length=l.length)(hone0:∀u∈ins,u.oneCell'=true)
  (hrd:∀(i:Nat) (u:Value) (W:World),ins[i]?=some u->i<l.length->(∀b,b<w.heap.size->ae v≠some b->W.heap[b]?=w.heap[b]?)->bj W u (.rows .i64 (l.getD i []))) :
  Calls Tryz.prog 134 #[v,.func (.func 135) #[] #[]] w fun r w'=>r=.returned (.tuple #[])/\∃π:List Nat,π.Perm (List.range l.length)/\w'.ownsRow 0 e 1 v l.length (π.map fun i=>ins.getD i undef)/\dc l=π.map (fun i=>l.getD i []) /\
   OsD w w'/\w'.tape=w.tape/\w'.output=w.output/\w.heap.size<=w'.heap.size/\∀b,b<w.heap.size->ae v≠some b->w'.heap[b]?=w.heap[b]?:=by
 by_cases h0:0<l.length
 case neg =>
  have hl:l=[]:=Ay (by omega)
  subst hl;have hi:ins=[]:=Ay h2
  subst hi;have hv:∃p cap,v=.slice p 0 cap:=by
   rcases h1.2 with⟨e0,_⟩|⟨g,cap,cur,e0,_⟩
   ·exact⟨_,_,e0⟩
   ·exact⟨_,_,e0⟩
  obtain⟨p,cap,rfl⟩:=hv;refine(AnyF.slices_SortFunc_none (P:=Tryz.prog) (ρ:=zP) { Ln with } p cap _ w).mono ?_
  rintro r w' ⟨rfl,rfl⟩
  exact⟨rfl,[],by simp,h1,rfl,.refl _,rfl,rfl,AE _,fun _ _ _=>rfl⟩
 case pos =>
 letI:Inhabited (Fin l.length):=⟨⟨0,h0⟩⟩
 let enc:Fin l.length->Value:=fun i=>ins.getD i.1 undef
 have hz:(List.finRange l.length).map enc=ins:=by
  apply BP
  ·simp[h2]
  ·intro i a b
   simp[enc,List.getD,AF b]
 have hone:∀i:Fin l.length,(enc i).oneCell'=true:=fun i=>by
  have hi:i.1<ins.length:=by rw[h2];exact i.2
  show(ins.getD i.1 undef).oneCell'=true
  rw[List.getD,AF hi];exact hone0 _ (A7 hi)
 rw[<-hz]at h1;have hne:v≠.slice none 0 0:=fun hv=>by
  rcases h1.2 with⟨_,hn⟩|⟨g,cap,cur,h5,_⟩
  ·omega
  ·rw[hv]at h5;cases h5
 obtain⟨g,cap,rfl,_,ψ,hn,hm,hzl,hH⟩:=Lib.holds_of_ownsRow h1 hne;have hn0:∀i:Fin l.length,i.1<ins.length:=fun i=>by rw[h2];exact i.2
 obtain⟨fn,k1,k2,k3⟩:=sx.fn;have hsz:(List.finRange l.length).toArray.size=l.length:=by simp
 have hcmp:CmpLays1 Tryz.prog 135 #[] enc (gQ l) g 0 (List.finRange l.length).toArray.size w:=by
  intro m os dk hdk x y
  have keep:∀b,b<w.heap.size->b≠g->(sortWorld enc w g 0 m dk os).heap[b]?=w.heap[b]?:=fun b hb hne=>by
   unfold sortWorld;rw[Go.Sort.heap_grow_old _ _ (by simpa[Go.Sort.putRow,Go.Sort.mapBlock,Go.Sort.ahead]using hb)]
   simp[Go.Sort.putRow,Go.Sort.mapBlock,Go.Sort.ahead,C4,AM hne]
  have rd:∀i:Fin l.length,bj (sortWorld enc w g 0 m dk os) (enc i) (.rows .i64 (l.getD i.1 [])):=fun i =>
   hrd i.1 (enc i) _ (by simp[enc,List.getD,AF (hn0 i)]) i.2 fun b hb hne=>keep b hb fun hc=>hne (by rw[hc];rfl)
  have:=sx.run (sortWorld enc w g 0 m dk os) (sortWorld enc w g 0 m dk os) [enc x,enc y] [.c (.rows .i64 (l.getD x.1 [])),.c (.rows .i64 (l.getD y.1 []))] _ [] [] rfl
   ⟨hr2 _ (bI l [] x.1 x.2),hr2 _ (bI l [] y.1 y.2)⟩ rfl rfl rfl rfl (by simp) (by simp) (by simp) (fun q u hq=>⟨hq,by simp⟩) (fun i d hi=>by
    match i,hi with
    |0,hi=>cases hi;exact⟨enc x,rfl,hone x,rd x⟩
    |1,hi=>cases hi;exact⟨enc y,rfl,hone y,rd y⟩
    |i+2,hi=>simp at hi)
  refine Calls.mono this ?_
  rintro e0 w' ⟨v0,ms',img,wG,rfl,haft,_,_,_,hret⟩
  have hv:v0=.int .i64 (gQ l x y):=hret.val
  subst hv;refine⟨rfl,w'.drawn-(sortWorld enc w g 0 m dk os).drawn,w'.heap.extract (sortWorld enc w g 0 m dk os).heap.size w'.heap.size,?_⟩
  generalize hW:sortWorld enc w g 0 m dk os=W at *
  have hheap:w'.heap=W.heap++w'.heap.extract W.heap.size w'.heap.size:=by
   apply B7
   intro i
   by_cases hi:i<W.heap.size
   ·rw[C5 hi,haft.block i hi (by simp)]
   ·rw[Dt (by omega),Cb]
    split
    ·congr 1;omega
    ·rw[BH (by omega)]
  have hd:=haft.os.drawn
  cases w' with
  |mk heap tape drawn os' output =>
   simp only[Go.Sort.grow,World.drewN]at *;have e1:=haft.os.os
   have e2:=haft.tape
   have e3:=haft.output
   simp only at e1 e2 e3;rw[<-hheap,e1,e2,e3,show W.drawn+(drawn-W.drawn)=drawn by omega]
 have hcall:=Any.slices_SortFunc_eq (P:=Tryz.prog) (ρ:=zP) Ln enc hone (gQ l) (zR l) 135 #[] g 0 cap (List.finRange l.length).toArray w (fun args w=>nf k1 k2 k3 args) hcmp hH ψ (by rw[hsz];omega)
 rw[hsz]at hcall;refine Calls.mono hcall ?_
 rintro r w' ⟨rfl,n,os,rfl⟩
 refine⟨rfl,?_⟩
 have hD:Go.Sort.pdq (ltOf (gQ l)) (List.finRange l.length).toArray 0 l.length (Lib.bitLen l.length) true true=fe l h0:=by
  unfold fe;rw[hsz];rfl
 rw[hD];have hDp:=ti l h0
 have hDl:(fe l h0).toList.length=l.length:=by rw[hDp.length_eq];simp
 have hS:dc l=(fe l h0).toList.map (fun i=>l.getD i.1 []):=by unfold dc;rw[dif_pos h0]
 have hSl:=tj l
 generalize fe l h0=D at *
 have o:=Lib.ownsRow_putRow (q:=n) (k:=l.length) h1 (ys:=D.toList) hDl (AE _)
 rw[AU (by omega),Cc]at o
 have hpi:(D.toList.map (fun i:Fin l.length=>i.1)).map (fun i=>ins.getD i undef)=D.toList.map enc:=by rw[Bw];rfl
 refine⟨D.toList.map (fun i=>i.1),?_,?_,?_,⟨rfl,DR _ _⟩,rfl,rfl,?_,fun b hb hne=>?_⟩
 ·have:=hDp.map (fun i:Fin l.length=>i.1)
  refine this.trans ?_
  have:(List.finRange l.length).map (fun i:Fin l.length=>i.1)=List.range l.length:=BP (by simp) (by simp)
  rw[this]
 ·rw[hpi]
  refine dC o fun b hb=>?_
  simp[ae]at hb
  subst hb;exact Go.Sort.heap_grow_old _ _ (by simpa[Go.Sort.putRow,Go.Sort.mapBlock,Go.Sort.ahead]using ψ)
 ·rw[hS,Bw];rfl
 ·simp[sortWorld,Go.Sort.grow,Go.Sort.putRow,Go.Sort.mapBlock,Go.Sort.ahead]
 ·have hg:b≠g:=fun hc=>hne (by rw[hc];rfl)
  unfold sortWorld;rw[Go.Sort.heap_grow_old _ _ (by simpa[Go.Sort.putRow,Go.Sort.mapBlock,Go.Sort.ahead]using hb)]
  simp[Go.Sort.putRow,Go.Sort.mapBlock,Go.Sort.ahead,C4,AM hg]
theorem Uy(l:D3)(hr1:l.length<=1099511627776)(hr2:∀r∈l,aS r):Pz Tryz.prog 134 135 l (dc l):=by
 intro w e e2 e3 nd hO hnd
 have hlen:(aT nd).length=l.length:=(i8 hO).trans (Ap _)
 obtain⟨t1,t2,t3,t4⟩:=hO;have kid:∀i u,(aT nd)[i]?=some u->bf w [e2,e3] u (.rows .i64 (l.getD i [])):=fun i u hu=>t4 i u _ hu rfl
 have hne:∀u∈aT nd,∀b∈aQ 2 u,b<w.heap.size/\ae (aD nd)≠some b:=fun u hu b hb=>by
  obtain⟨i,hi⟩:=Ah hu;refine⟨bf.block (kid i u hi) b hb,fun hc=>?_⟩
  rw[dE,Ad]at hnd;exact hnd.2.2 b (by rw[hc];simp) b (Aj.2 ⟨u,hu,hb⟩) rfl
 refine Calls.mono (Ux l hr1 hr2 w e (aD nd) ((aT nd).map aD) t3 (by simpa using hlen) (fun u hu=>?_) (fun i u W hu hi hk=>?_)) ?_
 ·obtain⟨x,hx,rfl⟩:=AH.1 hu
  obtain⟨i,hi⟩:=Ah hx;exact(kid i x hi).one
 ·rw[Ai]at hu
  cases hx:(aT nd)[i]? with
  |none=>rw[hx]at hu;cases hu
  |some x =>
   rw[hx]at hu;cases hu;have hm:=AK hx
   exact(bf.keep (kid i x hx) fun b hb=>hk b (hne x hm b hb).1 (hne x hm b hb).2).reads
 ·rintro r w' ⟨rfl,π,p1,p2,p3,p4,p5,p6,p7,p8⟩
  have hπ:∀i∈π,i<l.length:=fun i hi=>by simpa using p1.mem_iff.1 hi
  have hπl:π.length=l.length:=by simpa using p1.length_eq
  have hh:(π.map fun i=>(aT nd).getD i undef).map aD=π.map fun i=>((aT nd).map aD).getD i undef:=by
   rw[Bw];refine Bk fun i hi=>?_
   have:=hπ i hi
   simp[List.getD,hlen,this]
  have hkk:(π.map fun i=>(aT nd).getD i undef).Perm (aT nd):=by
   refine(p1.map _).trans ?_
   have:(List.range l.length).map (fun i=>(aT nd).getD i undef)=aT nd:=by
    apply BP
    ·simp[hlen]
    ·intro i a b
     simp[List.getD,b]
   rw[this]
  refine⟨rfl,_,⟨rfl,rfl,?_,fun i u x hu hx=>?_⟩,hkk,p4,p5,p6,p7,p8⟩
  ·show w'.ownsRow 0 e 1 (aD nd) (dc l).length ((π.map fun i=>(aT nd).getD i undef).map aD)
   rw[hh,tj];exact p2
  ·have hu:(π.map fun i=>(aT nd).getD i undef)[i]?=some u:=hu
   rw[Ai]at hu;cases hj:π[i]? with
   |none=>rw[hj]at hu;cases hu
   |some j =>
    rw[hj]at hu;cases hu;have hjl:=hπ j (AK hj)
    have hkj:(aT nd)[j]?=some ((aT nd).getD j undef):=by simp[List.getD,hlen,hjl]
    have hx:some (FC.rows .i64 ((dc l).getD i []))=some x:=hx
    cases hx;have e1:(dc l).getD i []=l.getD j []:=by rw[p3];simp[List.getD,hj]
    rw[e1];have hm:=AK hkj
    exact bf.keep (kid j _ hkj) fun b hb=>p8 b (hne _ hm b hb).1 (hne _ hm b hb).2
def pJ:List AD->Option Post:=fun ds=>match ds with
 | [.c (.r3 .i64 l)]=>some ⟨l.length<=1099511627776/\∀r∈l,aS r,.c (.tr [135] (.r3 .i64 (dc l))),[]⟩
 |_=>none
theorem Uz:Fits Tryz.prog 134 ⟨[(0,97),(0,97)],pJ⟩ where
 fn:=⟨Tryz.f134,Tryz.func134,by kernel_rfl,by kernel_rfl⟩
 run:=fun _ _ _ ds p ms obs h _ _ hm _ hw=>by
  exfalso
  have h:pJ ds=some p:=h
  unfold pJ at h;split at h
  ·cases h;simp at hw
  ·cases h
 mv:=fun h=>by cases h
 gr:=fun h=>by cases h
 so:=fun _=>⟨fun l q g x l' ws h=>(by
  have h:pJ [.c (.rows .i64 l)]=some ⟨q,.c (.rows g x .i64 l'),ws⟩:=h
  cases h),fun l q g l' ws h hq=>by
  have h:some (⟨l.length<=1099511627776/\∀r∈l,aS r,.c (.tr [135] (.r3 .i64 (dc l))),[]⟩:Post)=some ⟨q,.c (.tr [g] (.r3 .i64 l')),ws⟩:=h
  simp only[AC,Post.mk.injEq,RV.c.injEq,RC.tr.injEq,CY,Bi,FC.r3.injEq,B8]at h;obtain⟨h1,⟨h2,h3⟩,_⟩:=h;subst h1;subst h2;subst h3;exact Uy l hq.1 hq.2⟩
 df:=fun h=>by cases h
 st:=fun h=>by cases h
end Go.Sx
end
section
open Go Go.Proofs
namespace Go.Sx
def dA:D1->D1->List Bool->D1×List Bool
 | [],im,us=>(im,us)
 |x::l,im,us=>dA l (im.set x.toNat (-1)) (us.set (im.getD x.toNat 0).toNat false)
def jx:D1->D1->List Bool->Prop
 | [],_,_=>True
 |x::l,im,us=>(0<=x/\x<(im.length:Int))/\(0<=im.getD x.toNat 0/\im.getD x.toNat 0<(us.length:Int))/\jx l (im.set x.toNat (-1)) (us.set (im.getD x.toNat 0).toNat false)
def Lo(fr:D3)(tt:D3)(im:D1)(us:List Bool)(st:D1)(c:Int):SV:=.tup []
def Lp(fr:D3)(tt:D3)(im:D1)(us:List Bool)(st:D1)(c:Int):List MA:=[.box [.c (.r3 .i64 fr),.c (.r3 .i64 tt),.ob (.ints 2 .i64 ((dA (st.drop c.toNat) im us).1)),.ob (.bools 4 ((dA (st.drop c.toNat) im us).2)),.ob (.ints 2 .i64 ((st.take c.toNat)))],.m (.c (.int .i64 c))]
def Lq(fr:D3)(tt:D3)(im:D1)(us:List Bool)(st:D1)(c:Int):List (Nat×Ob):=[]
def tp(fr:D3)(tt:D3)(im:D1)(us:List Bool)(st:D1)(c:Int):Post:=⟨0<=c/\c<=(st.length:Int)/\st.length<=1000/\jx (st.drop c.toNat) im us,.st (Lo fr tt im us st c) (Lq fr tt im us st c) (Lp fr tt im us st c),[]⟩
def tu:List AD->Option Post
 | [.ma (.box [.c (.r3 .i64 fr),.c (.r3 .i64 tt),.ob (.ints 2 .i64 im),.ob (.bools 4 us),.ob (.ints 2 .i64 st)]),.ma (.m (.c (.int .i64 c)))]=>some (tp fr tt im us st c)
 |_=>none
def Lr(fr:D3)(tt:D3)(im:D1)(us:List Bool)(st:D1)(c:Int):Nat->Option Ann
 |0=>some (Ann.mk ((Nat)×(D1)×(List Bool)) (fun x=>match x with|(i,a,b)=>⟨[(0,M' 7000),(1,A' c),(11,.c (.sub 7005 (Int.toNat c) (List.length st-Int.toNat c))),(12,A' ((List.length st-Int.toNat c:Nat):Int)),(13,A' i)],[(7000,P' [.ro (.r3 .i64 fr),.ro (.r3 .i64 tt),.own 7003,.own 7004,.own 7005]),(7003,O' a),(7004,some (.bools 4 b)),(7005,O' st)]⟩) (fun x=>match x with|(i,a,b)=>i<=st.length-c.toNat/\dA ((st.drop c.toNat).drop i) a b=dA (st.drop c.toNat) im us/\jx ((st.drop c.toNat).drop i) a b) (fun x=>match x with|(i,a,b)=>st.length-i) (fun _=>ar))
 |_=>none
def Ls(t:Nat):Bool:=[4000042].contains t
def Lu:List (Nat×Ctr):=[]
def zS(fr:D3)(tt:D3)(im:D1)(us:List Bool)(st:D1)(c:Int):Prop :=
 bM st.length (Option.some c) Option.none/\(∃x0:Nat×D1×List Bool,(x0.1<=st.length-c.toNat/\dA (List.drop x0.1 (List.drop c.toNat st)) x0.2.1 x0.2.2=dA (List.drop c.toNat st) im us/\jx (List.drop x0.1 (List.drop c.toNat st)) x0.2.1 x0.2.2)/\c=c/\c.toNat=c.toNat/\st.length-c.toNat=st.length-c.toNat/\(↑(st.length-c.toNat):Int)=(↑(st.length-c.toNat):Int)/\(0:Int)=(↑x0.1:Int)/\fr=fr/\tt=tt/\im=x0.2.1/\us=x0.2.2/\st=st)/\∀x1:Nat×D1×List Bool,x1.1<=st.length-c.toNat/\dA (List.drop x1.1 (List.drop c.toNat st)) x1.2.1 x1.2.2=dA (List.drop c.toNat st) im us/\jx (List.drop x1.1 (List.drop c.toNat st)) x1.2.1 x1.2.2->ab (decide ((↑x1.1:Int)<(↑(st.length-c.toNat):Int))) (ac (↑x1.1:Int) (st.length-c.toNat)/\ac (st.getD (c.toNat+(↑x1.1:Int).toNat) (0:Int)) x1.2.1.length/\ac (x1.2.1.getD ((st.getD (c.toNat+(↑x1.1:Int).toNat) (0:Int)).toNat) (0:Int)) x1.2.2.length/\ac (st.getD (c.toNat+(↑x1.1:Int).toNat) (0:Int)) x1.2.1.length/\af ((↑x1.1:Int)+(1:Int))/\∃x2:Nat×D1×List Bool,(x2.1<=st.length-c.toNat/\dA (List.drop x2.1 (List.drop c.toNat st)) x2.2.1 x2.2.2=dA (List.drop c.toNat st) im us/\jx (List.drop x2.1 (List.drop c.toNat st)) x2.2.1 x2.2.2)/\st.length-x2.1<st.length-x1.1/\c=c/\c.toNat=c.toNat/\st.length-c.toNat=st.length-c.toNat/\(↑(st.length-c.toNat):Int)=(↑(st.length-c.toNat):Int)/\(↑x1.1:Int)+(1:Int)=(↑x2.1:Int)/\fr=fr/\tt=tt/\List.set x1.2.1 ((st.getD (c.toNat+(↑x1.1:Int).toNat) (0:Int)).toNat) (-1:Int)=x2.2.1/\List.set x1.2.2 ((x1.2.1.getD ((st.getD (c.toNat+(↑x1.1:Int).toNat) (0:Int)).toNat) (0:Int)).toNat) false=x2.2.2/\st=st) (((0:Int)<=c/\c<=(st.length:Int))/\fr=fr/\tt=tt/\x1.2.1=(dA (List.drop c.toNat st) im us).1/\x1.2.2=(dA (List.drop c.toNat st) im us).2/\List.take c.toNat st=List.take c.toNat st)
theorem UA(fr:D3)(tt:D3)(im:D1)(us:List Bool)(st:D1)(c:Int):kN Tryz.prog (ah Lu) Ls (Lr fr tt im us st c) Tryz.f181 (aF Tryz.f181) [.box [.c (.r3 .i64 fr),.c (.r3 .i64 tt),.ob (.ints 2 .i64 im),.ob (.bools 4 us),.ob (.ints 2 .i64 st)],.m (.c (.int .i64 c))] (Lo fr tt im us st c) (gD 0 (Lp fr tt im us st c)++g4 (Lq fr tt im us st c))=zS fr tt im us st c:=by kernel_rfl
theorem UB(fr:D3)(tt:D3)(im:D1)(us:List Bool)(st:D1)(c:Int)(ξ:(tp fr tt im us st c).pre):zS fr tt im us st c:=by
 simp only[tp,zS,aJ]at ξ⊢;obtain⟨h1,h2,h3,h4⟩:=ξ;refine⟨⟨h1,h2⟩,⟨(0,im,us),⟨by omega,by simp,by simpa using h4⟩,by simp⟩,?_⟩
 rintro⟨i,a,b⟩ ⟨hi,hF,hO⟩
 simp only at hi hF hO⊢;refine⟨fun ψ=>?_,fun hge=>?_⟩
 ·have hi2:i<st.length-c.toNat:=by omega
  have hd:(st.drop c.toNat).drop i=st.getD (c.toNat+i) 0::(st.drop c.toNat).drop (i+1):=by
   rw[drop_cons' (st.drop c.toNat) 0 i (by rw[BG];omega)]
   congr 1
   simp[List.getD,BI]
  rw[hd]at hF hO;simp only[dA]at hF;obtain⟨q1,q2,q3⟩:=hO;refine⟨⟨by omega,by omega⟩,q1,q2,q1,by constructor<;>omega,(i+1,a.set (st.getD (c.toNat+i) 0).toNat (-1),b.set (a.getD (st.getD (c.toNat+i) 0).toNat 0).toNat false),⟨by omega,hF,q3⟩,by omega,by simp,rfl,rfl⟩
 ·have hi2:i=st.length-c.toNat:=by omega
  have hd:(st.drop c.toNat).drop i=[]:=CU (by rw[BG];omega)
  rw[hd]at hF;simp only[dA]at hF;refine⟨⟨h1,h2⟩,by rw[<-hF],by rw[<-hF]⟩
theorem UC:Fits Tryz.prog 181 ⟨[(0,93),(0,93)],tu⟩:=by
 refine nA (Γ:=ah Lu) aI Tryz.func181 (by kernel_rfl) (by kernel_rfl) (fun ads p h=>?_) fun mas q sv ex outs h hq=>?_
 ·unfold tu at h
  split at h
  ·cases h;rfl
  ·cases h
 ·unfold tu at h
  split at h
  ·rename_i heq
   have heq:=lY (l:=[_,_]) heq
   subst heq;unfold tp at h;cases h;exact⟨Ls,Lr _ _ _ _ _ _ ,by rw[UA];exact UB _ _ _ _ _ _  hq⟩
  ·cases h
theorem nS(f:Nat->Bool){i N:Nat}(h:i<N):(List.range' i (N-i)).all f=(f i&&(List.range' (i+1) (N-(i+1))).all f):=by
 rw[show N-i=(N-(i+1))+1 by omega,DS];rfl
theorem nU(f:Nat->Bool){i N:Nat}(h:N<=i):(List.range' i (N-i)).all f=true:=by
 rw[show N-i=0 by omega];rfl
theorem nV(f:Nat->Bool)(N:Nat):(List.range N).all f=(List.range' 0 (N-0)).all f:=by
 rw[DT,B5]
theorem zT(t:D2)(f:D1->Bool):t.all f=(List.range t.length).all fun x=>f (t.getD x []):=by
 rw[Cs,AW,AW]
 constructor
 ·intro h x hx
  rw[Af]at hx;exact h _ (bI t [] x hx)
 ·intro h r hr
  obtain⟨k,hk,rfl⟩:=Aw hr;have:=h k (by simpa using hk)
  rwa[bv _ _ _ hk]at this
theorem UD(l:List Nat)(f g:Nat->Bool):(l.all f&&l.all g)=l.all fun x=>f x&&g x:=by
 rw[Cs];simp only[AL,AW];exact⟨fun h x hx=>⟨h.1 x hx,h.2 x hx⟩,fun h=>⟨fun x hx=>(h x hx).1,fun x hx=>(h x hx).2⟩⟩
def iR(t:D2)(x y z:Nat):Bool:=decide (en t (en t x y).toNat z=en t x (en t y z).toNat)
def gR(t:D2)(x y:Nat):Bool:=(List.range t.length).all (iR t x y)
def nW(t:D2)(x:Nat):Bool:=(List.range t.length).all (gR t x)
def iS(t:D2)(x:Nat):Bool:=decide (en t 0 x=(x:Int))&&decide (en t x 0=(x:Int))
def fZ(t:D2)(x:Nat):Bool:=iS t x&&nW t x
def gw(t:D2)(x:Nat):Bool:=iS t x&&(cP (t.getD x [])&&nW t x)
def aC(t:D2):Bool:=cj t&&(t.all cP&&(List.range t.length).all (fZ t))
theorem UE(t:D2):aC t=(cj t&&(List.range t.length).all (gw t)):=by
 rw[aC,zT,UD]
 congr 2
 funext x
 simp only[fZ,gw];cases cP (t.getD x [])<;>cases iS t x<;>simp
theorem kV{t:D2}(h:aC t=true):cj t=true:=by
 rw[aC,AL]at h;exact h.1
def bk(t:D2)(x:Nat):Int:=aY 0 (t.getD x []) 0
theorem Lv(x:Int):∀(l:D1) (k:Int),0<=k->aY x l k<k+(l.length:Int)
 | [],k,h=>by simp[aY];omega
 |y::l,k,h=>by
  simp only[aY,AS];split
  ·omega
  ·have:=Lv x l (k+1) (by omega)
   omega
theorem zU{l:D1}(h:cP l=true){x:Int}(h0:0<=x)(h1:x<(l.length:Int)):x∈l:=Er.1 h x h0 h1
theorem UF{t:D2}(h:aC t=true){x:Nat}(hx:x<t.length):0<=bk t x/\bk t x<=(t.length:Int)-1:=by
 have ht:=iN (kV h)
 have hr:=(ht.2.2 x hx).1
 rw[aC,AL,AL]at h;have hp:cP (t.getD x [])=true:=by
  have:=h.2.1
  rw[zT,AW]at this;exact this x (by simpa using hx)
 have hm:=zU hp (x:=0) (by omega) (by omega)
 have h1:=Es 0 (t.getD x []) 0 (by omega)
 have h2:=Lv 0 (t.getD x []) 0 (by omega)
 rw[Aa hm]at h1;have h3:=Bz h1
 unfold bk;omega
def cC(t:D2):D1:=au t.length (bk t)
theorem Lw(t:D2):(cC t).length=t.length:=ep _ _
theorem Lx(t:D2)(x:Nat)(h:x<t.length):(cC t).getD x 0=bk t x:=er _ _ _ h
def nX(a c:D2)(x y z:Nat):Option D1 :=
 if en c x (en a y z).toNat=en a (en a (en c x y).toNat (bk a x).toNat).toNat (en c x z).toNat then none else some [(x:Int),(y:Int),(z:Int)]
def mn(a c:D2)(x y:Nat):Option D1:=dU a.length (nX a c x y) a.length
def kW(a c:D2)(x:Nat):Option D1:=dU a.length (mn a c x) a.length
def eW(a c:D2):Option D1:=dU a.length (kW a c) a.length
def gx(a c:D2):Bool:=aC a&&aC c&&decide (a.length=c.length)&&(eW a c).isNone
theorem UG{a c:D2}(h:gx a c=true):aC a=true/\aC c=true/\a.length=c.length/\(eW a c).isNone=true:=by
 simp only[gx,AL,Ab]at h;exact⟨h.1.1.1,h.1.1.2,h.1.2,h.2⟩
end Go.Sx
end
