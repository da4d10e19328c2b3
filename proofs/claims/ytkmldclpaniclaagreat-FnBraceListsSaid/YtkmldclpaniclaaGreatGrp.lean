/- Grp -/
import Derived.Test.YtkmldclpaniclaaGreatCmp
import Derived.Shelf.SlSortCmp.NoneTotal
import Derived.Lib.OwnBridge
import Derived.Test.YtkmldclpaniclaaGreatProg
import Derived.Test.YtkmldclpaniclaaGreatSxZ
import Derived.KernelRfl
import Derived.Test.YtkmldclpaniclaaGreatMapQ
import Derived.Test.YtkmldclpaniclaaGreatTable
set_option linter.unusedSimpArgs false
set_option linter.unusedVariables false
set_option linter.defProp false
section
open Go Go.Proofs Go.RowKit Go.Shelf
namespace Go.Sx
def F2:Shelf.Ren:=⟨λx=>match x with|6=>134|14=>186|15=>139|20=>224|21=>225|22=>226|23=>227|24=>228|25=>229|26=>230|27=>231|28=>199|29=>200|46=>243|47=>234|48=>235|49=>244|50=>245|57=>247|_=>0,λx=>match x with|0=>0|3=>3|4=>4|5=>5|9=>9|22=>68|24=>22|25=>135|39=>130|45=>173|46=>174|50=>178|53=>181|55=>112|66=>199|70=>203|76=>210|77=>211|_=>0,λx=>x⟩
set_option maxRecDepth 100000
def Ol:SlLaysF.n6 Tryz.prog F2 where
 mixed:=by kernel_rfl
 f6:=⟨Tryz.f134.name,by kernel_rfl,by kernel_rfl⟩
 f14:=⟨Tryz.f186.name,by kernel_rfl,by kernel_rfl⟩
 f15:=by kernel_rfl
 f20:=⟨Tryz.f224.name,by kernel_rfl,by kernel_rfl⟩
 f21:=⟨Tryz.f225.name,by kernel_rfl,by kernel_rfl⟩
 f22:=⟨Tryz.f226.name,by kernel_rfl,by kernel_rfl⟩
 f23:=⟨Tryz.f227.name,by kernel_rfl,by kernel_rfl⟩
 f24:=⟨Tryz.f228.name,by kernel_rfl,by kernel_rfl⟩
 f25:=⟨Tryz.f229.name,by kernel_rfl,by kernel_rfl⟩
 f26:=⟨Tryz.f230.name,by kernel_rfl,by kernel_rfl⟩
 f27:=⟨Tryz.f231.name,by kernel_rfl,by kernel_rfl⟩
 f28:=by kernel_rfl
 f29:=by kernel_rfl
 f46:=⟨Tryz.f243.name,by kernel_rfl,by kernel_rfl⟩
 f47:=by kernel_rfl
 f48:=by kernel_rfl
 f49:=⟨Tryz.f244.name,by kernel_rfl,by kernel_rfl⟩
 f50:=⟨Tryz.f245.name,by kernel_rfl,by kernel_rfl⟩
 f57:=⟨Tryz.f247.name,by kernel_rfl,by kernel_rfl⟩
 t0:=by kernel_rfl
 a0:=λw=>by kernel_rfl
 z0:=λw=>by kernel_rfl
 v0:=λw=>by kernel_rfl
 t3:=by kernel_rfl
 a3:=λw=>by kernel_rfl
 z3:=λw=>by kernel_rfl
 v3:=λw=>by kernel_rfl
 t4:=by kernel_rfl
 a4:=λw=>by kernel_rfl
 z4:=λw=>by kernel_rfl
 v4:=λw=>by kernel_rfl
 t5:=by kernel_rfl
 a5:=λw=>by kernel_rfl
 z5:=λw=>by kernel_rfl
 v5:=λw=>by kernel_rfl
 t9:=by kernel_rfl
 a9:=λw=>by kernel_rfl
 z9:=λw=>by kernel_rfl
 v9:=λw=>by kernel_rfl
 t22:=by kernel_rfl
 a22:=λw=>by kernel_rfl
 z22:=λw=>by kernel_rfl
 v22:=λw=>by kernel_rfl
 a24:=λw=>by kernel_rfl
 z24:=λw=>by kernel_rfl
 t25:=by kernel_rfl
 a25:=λw=>by kernel_rfl
 z25:=λw=>by kernel_rfl
 v25:=λw=>by kernel_rfl
 t39:=by kernel_rfl
 a39:=λw=>by kernel_rfl
 z39:=λw=>by kernel_rfl
 v39:=λw=>by kernel_rfl
 t45:=by kernel_rfl
 a45:=λw=>by kernel_rfl
 z45:=λw=>by kernel_rfl
 v45:=λw=>by kernel_rfl
 t46:=by kernel_rfl
 a46:=λw=>by kernel_rfl
 z46:=λw=>by kernel_rfl
 v46:=λw=>by kernel_rfl
 t50:=by kernel_rfl
 a50:=λw=>by kernel_rfl
 z50:=λw=>by kernel_rfl
 v50:=λw=>by kernel_rfl
 t53:=by kernel_rfl
 a53:=λw=>by kernel_rfl
 z53:=λw=>by kernel_rfl
 v53:=λw=>by kernel_rfl
 t55:=by kernel_rfl
 a55:=λw=>by kernel_rfl
 z55:=λw=>by kernel_rfl
 v55:=λw=>by kernel_rfl
 t66:=by kernel_rfl
 a66:=λw=>by kernel_rfl
 z66:=λw=>by kernel_rfl
 v66:=λw=>by kernel_rfl
 t70:=by kernel_rfl
 a70:=λw=>by kernel_rfl
 z70:=λw=>by kernel_rfl
 v70:=λw=>by kernel_rfl
 t76:=by kernel_rfl
 a76:=λw=>by kernel_rfl
 z76:=λw=>by kernel_rfl
 v76:=λw=>by kernel_rfl
 t77:=by kernel_rfl
 a77:=λw=>by kernel_rfl
 z77:=λw=>by kernel_rfl
 v77:=λw=>by kernel_rfl
structure CmpOk {α:Type} (c:α->α->Int):Prop where
 anti:∀x y,c x y=- c y x
 zero:∀x y,c x y=0↔x=y
 le:∀x y z,c x y<=0->c y z<=0->c x z<=0
def F3:CmpOk cf where
 anti x y:=by
  unfold cf
  (repeat' split)<;>omega
 zero x y:=Nf
 le x y z:=by
  unfold cf
  (repeat' split)<;>omega
theorem CmpOk.lists{α:Type}{c:α->α->Int}(h:CmpOk c):CmpOk (bC c) where
 anti:=by
  intro a
  induction a with
  |nil=>intro b;cases b<;>rfl
  |cons x a ih =>
   intro b
   cases b with
   |nil=>rfl
   |cons y b =>
    simp only[bC];have h1:=h.anti x y
    by_cases h0:c x y=0
    ·rw[AA h0,AA (by omega),ih b]
    ·rw[AB h0,AB (by omega),h1]
 zero a b:=ur (λx y=>h.zero x y)
 le:=by
  intro a
  induction a with
  |nil=>intro b d _ _;cases d<;>simp[bC]
  |cons x a ih =>
   intro b d h1 h2
   cases b with
   |nil=>simp[bC]at h1
   |cons y b =>
    cases d with
    |nil=>simp[bC]at h2
    |cons z d =>
     simp only[bC]at h1 h2⊢;have a1:=h.anti x y
     have a2:=h.anti y z
     have a3:=h.anti x z
     have z1:=h.zero x y
     have z2:=h.zero y z
     have z3:=h.zero x z
     by_cases e1:c x y=0
     ·have e1':=z1.1 e1
      subst e1';rw[AA e1]at h1;by_cases e2:c x z=0
      ·rw[AA e2]at h2⊢
       exact ih b d h1 h2
      ·rw[AB e2]at h2⊢
       exact h2
     ·rw[AB e1]at h1
      have l1:c x z<=0:=by
       by_cases e2:c y z=0
       ·rw[z2.1 e2]at h1;exact h1
       ·rw[AB e2]at h2
        exact h.le x y z h1 h2
      by_cases e3:c x z=0
      ·have e3':=z3.1 e3
       subst e3';have a4:=h.anti x y
       by_cases e2:c y x=0
       ·omega
       ·rw[AB e2]at h2;omega
      ·rw[AB e3];exact l1
theorem CmpOk.lt{α:Type}{c:α->α->Int}(h:CmpOk c){x y z:α}(h1:c x y<0)(h2:c y z<0):c x z<0:=by
 have l:=h.le x y z (by omega) (by omega)
 refine Ax λhc=>?_
 have e:=(h.zero x z).1 (by omega)
 subst e;have:=h.anti x y
 omega
def fx:D7->D7->Int:=bC (bC cf)
def eE:CmpOk fx:=F3.lists.lists
def hZ(l:D8)(i j:Fin l.length):Int:=fx (l.getD i.1 []) (l.getD j.1 [])
def F4(l:D8):Go.Sort.SWO (λi j=>decide (hZ l i j<0)) where
 irrefl:=λx=>by
  have:fx (l.getD x.1 []) (l.getD x.1 [])=0:=(eE.zero _ _).2 rfl
  show decide (hZ l x x<0)=false
  rw[hZ,this];rfl
 trans:=λx y z h1 h2=>by
  rw[Ai]at h1 h2⊢;exact eE.lt h1 h2
 ntrans:=λx y z h1 h2=>by
  rw[B4]at h1 h2⊢;unfold hZ at *;have a1:=eE.anti (l.getD x.1 []) (l.getD y.1 [])
  have a2:=eE.anti (l.getD y.1 []) (l.getD z.1 [])
  have a3:=eE.anti (l.getD x.1 []) (l.getD z.1 [])
  have:=eE.le (l.getD z.1 []) (l.getD y.1 []) (l.getD x.1 []) (by omega) (by omega)
  omega
def fC(l:D8)(h:0<l.length):Array (Fin l.length) :=
 letI:Inhabited (Fin l.length):=⟨⟨0,h⟩⟩
 Go.Sort.pdq (λi j=>decide (hZ l i j<0)) (List.finRange l.length).toArray 0 (List.finRange l.length).toArray.size (Lib.bitLen (List.finRange l.length).toArray.size) true true
def dz(l:D8):D8:=if h:0<l.length then(fC l h).toList.map (λi=>l.getD i.1 [])else []
def vh(l:D8)(h:0<l.length):(fC l h).toList.Perm (List.finRange l.length):=by
 letI:Inhabited (Fin l.length):=⟨⟨0,h⟩⟩
 have:=(Go.Sort.pdq_sorts (λi j=>decide (hZ l i j<0)) (F4 l) (List.finRange l.length).toArray 0 (List.finRange l.length).toArray.size (Lib.bitLen (List.finRange l.length).toArray.size) true true (AT _) (AE _) (Or.inl rfl)).1
 obtain⟨h1,_,h3⟩:=this;have e1:∀(d:Array (Fin l.length)),d.extract 0 d.size=d:=λd=>by simp
 rw[e1]at h3;have h4:((fC l h).extract 0 (List.finRange l.length).toArray.size).toList.Perm (List.finRange l.length).toArray.toList:=h3
 rw[<-show(fC l h).size=(List.finRange l.length).toArray.size from h1,e1]at h4
 simpa using h4
def vj(l:D8):(dz l).length=l.length:=by
 unfold dz;split
 ·rename_i h
  rw[AW,(vh l h).length_eq];simp
 ·show 0=l.length
  omega
def Yw(l:D8)(hr1:l.length<=1099511627776)(hr2:∀r∈l,aJ r)(w:World)(e:TypeId)(v:Value)(ins:List Value)(h1:w.ownsRow 0 e 1 v l.length ins)(h2:ins.length=l.length)(hone0:∀u∈ins,u.oneCell'=true)
  (hrd:∀(i:Nat) (u:Value) (W:World),ins[i]?=some u->i<l.length->(∀b,b<w.heap.size->ag v≠some b->W.heap[b]?=w.heap[b]?)->bu W u (.rows .i64 (l.getD i []))) :
  Calls Tryz.prog 134 #[v,.func (.func 135) #[] #[]] w λr w'=>r=.returned (.tuple #[])/\∃π:List Nat,π.Perm (List.range l.length)/\w'.ownsRow 0 e 1 v l.length (π.map λi=>ins.getD i undef)/\dz l=π.map (λi=>l.getD i []) /\
   OsD w w'/\w'.tape=w.tape/\w'.output=w.output/\w.heap.size<=w'.heap.size/\∀b,b<w.heap.size->ag v≠some b->w'.heap[b]?=w.heap[b]?:=by
 by_cases h0:0<l.length
 case neg =>
  have hl:l=[]:=BA (by omega)
  subst hl;have hi:ins=[]:=BA h2
  subst hi;have hv:∃p cap,v=.slice p 0 cap:=by
   rcases h1.2 with⟨e0,_⟩|⟨g,cap,cur,e0,_⟩
   ·exact⟨_,_,e0⟩
   ·exact⟨_,_,e0⟩
  obtain⟨p,cap,rfl⟩:=hv;refine(AnyF.slices_SortFunc_none (P:=Tryz.prog) (ρ:=F2) { Ol with } p cap _ w).mono ?_
  rintro r w' ⟨rfl,rfl⟩
  exact⟨rfl,[],by simp,h1,rfl,.refl _,rfl,rfl,AE _,λ_ _ _=>rfl⟩
 case pos =>
 letI:Inhabited (Fin l.length):=⟨⟨0,h0⟩⟩
 let enc:Fin l.length->Value:=λi=>ins.getD i.1 undef
 have hz:(List.finRange l.length).map enc=ins:=by
  apply BY
  ·simp[h2]
  ·intro i a b
   simp[enc,List.getD,AF b]
 have hone:∀i:Fin l.length,(enc i).oneCell'=true:=λi=>by
  have hi:i.1<ins.length:=by rw[h2];exact i.2
  show(ins.getD i.1 undef).oneCell'=true
  rw[List.getD,AF hi];exact hone0 _ (A5 hi)
 rw[<-hz]at h1;have hne:v≠.slice none 0 0:=λhv=>by
  rcases h1.2 with⟨_,hn⟩|⟨g,cap,cur,h5,_⟩
  ·omega
  ·rw[hv]at h5;cases h5
 obtain⟨g,cap,rfl,_,ψ,hn,hm,hzl,hH⟩:=Lib.holds_of_ownsRow h1 hne;have hn0:∀i:Fin l.length,i.1<ins.length:=λi=>by rw[h2];exact i.2
 obtain⟨fn,k1,k2,k3⟩:=uC.fn;have hsz:(List.finRange l.length).toArray.size=l.length:=by simp
 have hcmp:CmpLays1 Tryz.prog 135 #[] enc (hZ l) g 0 (List.finRange l.length).toArray.size w:=by
  intro m os dk hdk x y
  have keep:∀b,b<w.heap.size->b≠g->(sortWorld enc w g 0 m dk os).heap[b]?=w.heap[b]?:=λb hb hne=>by
   unfold sortWorld;rw[Go.Sort.heap_grow_old _ _ (by simpa[Go.Sort.putRow,Go.Sort.mapBlock,Go.Sort.ahead]using hb)]
   simp[Go.Sort.putRow,Go.Sort.mapBlock,Go.Sort.ahead,Array.getElem?_modify,AN hne]
  have rd:∀i:Fin l.length,bu (sortWorld enc w g 0 m dk os) (enc i) (.rows .i64 (l.getD i.1 [])):=λi =>
   hrd i.1 (enc i) _ (by simp[enc,List.getD,AF (hn0 i)]) i.2 λb hb hne=>keep b hb λhc=>hne (by rw[hc];rfl)
  have:=uC.run (sortWorld enc w g 0 m dk os) (sortWorld enc w g 0 m dk os) [enc x,enc y] [.c (.rows .i64 (l.getD x.1 [])),.c (.rows .i64 (l.getD y.1 []))] _ [] [] rfl
   ⟨hr2 _ (bN l [] x.1 x.2),hr2 _ (bN l [] y.1 y.2)⟩ rfl rfl rfl rfl (by simp) (by simp) (by simp) (λq u hq=>⟨hq,by simp⟩) (λi d hi=>by
    match i,hi with
    |0,hi=>cases hi;exact⟨enc x,rfl,hone x,rd x⟩
    |1,hi=>cases hi;exact⟨enc y,rfl,hone y,rd y⟩
    |i+2,hi=>simp at hi)
  refine Calls.mono this ?_
  rintro e0 w' ⟨v0,ms',img,wG,rfl,haft,_,_,_,hret⟩
  have hv:v0=.int .i64 (hZ l x y):=hret.val
  subst hv;refine⟨rfl,w'.drawn-(sortWorld enc w g 0 m dk os).drawn,w'.heap.extract (sortWorld enc w g 0 m dk os).heap.size w'.heap.size,?_⟩
  generalize hW:sortWorld enc w g 0 m dk os=W at *
  have hheap:w'.heap=W.heap++w'.heap.extract W.heap.size w'.heap.size:=by
   apply CU
   intro i
   by_cases hi:i<W.heap.size
   ·rw[DT hi,haft.block i hi (by simp)]
   ·rw[Array.getElem?_append_right (by omega),C9]
    split
    ·congr 1;omega
    ·rw[BO (by omega)]
  have hd:=haft.os.drawn
  cases w' with
  |mk heap tape drawn os' output =>
   simp only[Go.Sort.grow,World.drewN]at *;have e1:=haft.os.os
   have e2:=haft.tape
   have e3:=haft.output
   simp only at e1 e2 e3;rw[<-hheap,e1,e2,e3,show W.drawn+(drawn-W.drawn)=drawn by omega]
 have hcall:=Any.slices_SortFunc_eq (P:=Tryz.prog) (ρ:=F2) Ol enc hone (hZ l) (F4 l) 135 #[] g 0 cap (List.finRange l.length).toArray w (λargs w=>pX k1 k2 k3 args) hcmp hH ψ (by rw[hsz];omega)
 rw[hsz]at hcall;refine Calls.mono hcall ?_
 rintro r w' ⟨rfl,n,os,rfl⟩
 refine⟨rfl,?_⟩
 have hD:Go.Sort.pdq (ltOf (hZ l)) (List.finRange l.length).toArray 0 l.length (Lib.bitLen l.length) true true=fC l h0:=by
  unfold fC;rw[hsz];rfl
 rw[hD];have hDp:=vh l h0
 have hDl:(fC l h0).toList.length=l.length:=by rw[hDp.length_eq];simp
 have hS:dz l=(fC l h0).toList.map (λi=>l.getD i.1 []):=by unfold dz;rw[dif_pos h0]
 have hSl:=vj l
 generalize fC l h0=D at *
 have o:=Lib.ownsRow_putRow (q:=n) (k:=l.length) h1 (ys:=D.toList) hDl (AE _)
 rw[AU (by omega),DA]at o
 have hpi:(D.toList.map (λi:Fin l.length=>i.1)).map (λi=>ins.getD i undef)=D.toList.map enc:=by rw[B7];rfl
 refine⟨D.toList.map (λi=>i.1),?_,?_,?_,⟨rfl,Nat.le_add_right _ _⟩,rfl,rfl,?_,λb hb hne=>?_⟩
 ·have:=hDp.map (λi:Fin l.length=>i.1)
  refine this.trans ?_
  have:(List.finRange l.length).map (λi:Fin l.length=>i.1)=List.range l.length:=BY (by simp) (by simp)
  rw[this]
 ·rw[hpi]
  refine ed o λb hb=>?_
  simp[ag]at hb
  subst hb;exact Go.Sort.heap_grow_old _ _ (by simpa[Go.Sort.putRow,Go.Sort.mapBlock,Go.Sort.ahead]using ψ)
 ·rw[hS,B7];rfl
 ·simp[sortWorld,Go.Sort.grow,Go.Sort.putRow,Go.Sort.mapBlock,Go.Sort.ahead]
 ·have hg:b≠g:=λhc=>hne (by rw[hc];rfl)
  unfold sortWorld;rw[Go.Sort.heap_grow_old _ _ (by simpa[Go.Sort.putRow,Go.Sort.mapBlock,Go.Sort.ahead]using hb)]
  simp[Go.Sort.putRow,Go.Sort.mapBlock,Go.Sort.ahead,Array.getElem?_modify,AN hg]
def Yx(l:D8)(hr1:l.length<=1099511627776)(hr2:∀r∈l,aJ r):Sv Tryz.prog 134 135 l (dz l):=by
 intro w e e2 e3 nd hO hnd
 have hlen:(ba nd).length=l.length:=(jt hO).trans (Aq _)
 obtain⟨t1,t2,t3,t4⟩:=hO;have kid:∀i u,(ba nd)[i]?=some u->bq w [e2,e3] u (.rows .i64 (l.getD i [])):=λi u hu=>t4 i u _ hu rfl
 have hne:∀u∈ba nd,∀b∈aZ 2 u,b<w.heap.size/\ag (aM nd)≠some b:=λu hu b hb=>by
  obtain⟨i,hi⟩:=Ah hu;refine⟨bq.block (kid i u hi) b hb,λhc=>?_⟩
  rw[dX,Ae]at hnd;exact hnd.2.2 b (by rw[hc];simp) b (Am.2 ⟨u,hu,hb⟩) rfl
 refine Calls.mono (Yw l hr1 hr2 w e (aM nd) ((ba nd).map aM) t3 (by simpa using hlen) (λu hu=>?_) (λi u W hu hi hk=>?_)) ?_
 ·obtain⟨x,hx,rfl⟩:=AJ.1 hu
  obtain⟨i,hi⟩:=Ah hx;exact(kid i x hi).one
 ·rw[Ak]at hu
  cases hx:(ba nd)[i]? with
  |none=>rw[hx]at hu;cases hu
  |some x =>
   rw[hx]at hu;cases hu;have hm:=AK hx
   exact(bq.keep (kid i x hx) λb hb=>hk b (hne x hm b hb).1 (hne x hm b hb).2).reads
 ·rintro r w' ⟨rfl,π,p1,p2,p3,p4,p5,p6,p7,p8⟩
  have hπ:∀i∈π,i<l.length:=λi hi=>by simpa using p1.mem_iff.1 hi
  have hπl:π.length=l.length:=by simpa using p1.length_eq
  have hh:(π.map λi=>(ba nd).getD i undef).map aM=π.map λi=>((ba nd).map aM).getD i undef:=by
   rw[B7];refine B6 λi hi=>?_
   have:=hπ i hi
   simp[List.getD,hlen,this]
  have hkk:(π.map λi=>(ba nd).getD i undef).Perm (ba nd):=by
   refine(p1.map _).trans ?_
   have:(List.range l.length).map (λi=>(ba nd).getD i undef)=ba nd:=by
    apply BY
    ·simp[hlen]
    ·intro i a b
     simp[List.getD,b]
   rw[this]
  refine⟨rfl,_,⟨rfl,rfl,?_,λi u x hu hx=>?_⟩,hkk,p4,p5,p6,p7,p8⟩
  ·show w'.ownsRow 0 e 1 (aM nd) (dz l).length ((π.map λi=>(ba nd).getD i undef).map aM)
   rw[hh,vj];exact p2
  ·have hu:(π.map λi=>(ba nd).getD i undef)[i]?=some u:=hu
   rw[Ak]at hu;cases hj:π[i]? with
   |none=>rw[hj]at hu;cases hu
   |some j =>
    rw[hj]at hu;cases hu;have hjl:=hπ j (AK hj)
    have hkj:(ba nd)[j]?=some ((ba nd).getD j undef):=by simp[List.getD,hlen,hjl]
    have hx:some (FC.rows .i64 ((dz l).getD i []))=some x:=hx
    cases hx;have e1:(dz l).getD i []=l.getD j []:=by rw[p3];simp[List.getD,hj]
    rw[e1];have hm:=AK hkj
    exact bq.keep (kid j _ hkj) λb hb=>p8 b (hne _ hm b hb).1 (hne _ hm b hb).2
def qK:List AD->Option Post:=λds=>match ds with
 | [.c (.r3 .i64 l)]=>some ⟨l.length<=1099511627776/\∀r∈l,aJ r,.c (.tr [135] (.r3 .i64 (dz l))),[]⟩
 |_=>none
def Yy:Fits Tryz.prog 134 ⟨[(0,97),(0,97)],qK⟩ where
 fn:=⟨Tryz.f134,Tryz.func134,by kernel_rfl,by kernel_rfl⟩
 run:=λ_ _ _ ds p ms obs h _ _ hm _ hw=>by
  exfalso
  have h:qK ds=some p:=h
  unfold qK at h;split at h
  ·cases h;simp at hw
  ·cases h
 mv:=λh=>by cases h
 gr:=λh=>by cases h
 so:=λ_=>⟨λl q g x l' ws h=>(by
  have h:qK [.c (.rows .i64 l)]=some ⟨q,.c (.rows g x .i64 l'),ws⟩:=h
  cases h),λl q g l' ws h hq=>by
  have h:some (⟨l.length<=1099511627776/\∀r∈l,aJ r,.c (.tr [135] (.r3 .i64 (dz l))),[]⟩:Post)=some ⟨q,.c (.tr [g] (.r3 .i64 l')),ws⟩:=h
  simp only[AC,Post.mk.injEq,RV.c.injEq,RC.tr.injEq,Cf,Bi,FC.r3.injEq,CD]at h;obtain⟨h1,⟨h2,h3⟩,_⟩:=h;subst h1;subst h2;subst h3;exact Yx l hq.1 hq.2⟩
 df:=λh=>by cases h
 st:=λh=>by cases h
end Go.Sx
end
section
open Go Go.Proofs
namespace Go.Sx
def dU:D6->D6->List Bool->D6×List Bool
 | [],im,us=>(im,us)
 |x::l,im,us=>dU l (im.set x.toNat (-1)) (us.set (im.getD x.toNat 0).toNat false)
def jS:D6->D6->List Bool->Prop
 | [],_,_=>True
 |x::l,im,us=>(0<=x/\x<(im.length:Int))/\(0<=im.getD x.toNat 0/\im.getD x.toNat 0<(us.length:Int))/\jS l (im.set x.toNat (-1)) (us.set (im.getD x.toNat 0).toNat false)
def Om(fr:D8)(tt:D8)(im:D6)(us:List Bool)(st:D6)(c:Int):SV:=.tup []
def On(fr:D8)(tt:D8)(im:D6)(us:List Bool)(st:D6)(c:Int):List MA:=[.box [.c (.r3 .i64 fr),.c (.r3 .i64 tt),.ob (.ints 2 .i64 ((dU (st.drop c.toNat) im us).1)),.ob (.bools 4 ((dU (st.drop c.toNat) im us).2)),.ob (.ints 2 .i64 ((st.take c.toNat)))],.m (.c (.int .i64 c))]
def Oo(fr:D8)(tt:D8)(im:D6)(us:List Bool)(st:D6)(c:Int):List (Nat×Ob):=[]
def vn(fr:D8)(tt:D8)(im:D6)(us:List Bool)(st:D6)(c:Int):Post:=⟨0<=c/\c<=(st.length:Int)/\st.length<=1000/\jS (st.drop c.toNat) im us,.st (Om fr tt im us st c) (Oo fr tt im us st c) (On fr tt im us st c),[]⟩
def vo:List AD->Option Post
 | [.ma (.box [.c (.r3 .i64 fr),.c (.r3 .i64 tt),.ob (.ints 2 .i64 im),.ob (.bools 4 us),.ob (.ints 2 .i64 st)]),.ma (.m (.c (.int .i64 c)))]=>some (vn fr tt im us st c)
 |_=>none
def Oq(fr:D8)(tt:D8)(im:D6)(us:List Bool)(st:D6)(c:Int):Nat->Option Ann
 |0=>some (Ann.mk ((Nat)×(D6)×(List Bool)) (λx=>match x with|(i,a,b)=>⟨[(0,M' 7000),(1,A' c),(11,.c (.sub 7005 (Int.toNat c) (List.length st-Int.toNat c))),(12,A' ((List.length st-Int.toNat c:Nat):Int)),(13,A' i)],[(7000,P' [.ro (.r3 .i64 fr),.ro (.r3 .i64 tt),.own 7003,.own 7004,.own 7005]),(7003,O' a),(7004,some (.bools 4 b)),(7005,O' st)]⟩) (λx=>match x with|(i,a,b)=>i<=st.length-c.toNat/\dU ((st.drop c.toNat).drop i) a b=dU (st.drop c.toNat) im us/\jS ((st.drop c.toNat).drop i) a b) (λx=>match x with|(i,a,b)=>st.length-i) (λ_=>ar))
 |_=>none
def Ot(t:Nat):Bool:=[4000042].contains t
def Ou:List (Nat×Ctr):=[]
def F5(fr:D8)(tt:D8)(im:D6)(us:List Bool)(st:D6)(c:Int):Prop :=
 bS st.length (Option.some c) Option.none/\(∃x0:Nat×D6×List Bool,(x0.1<=st.length-c.toNat/\dU (List.drop x0.1 (List.drop c.toNat st)) x0.2.1 x0.2.2=dU (List.drop c.toNat st) im us/\jS (List.drop x0.1 (List.drop c.toNat st)) x0.2.1 x0.2.2)/\c=c/\c.toNat=c.toNat/\st.length-c.toNat=st.length-c.toNat/\(↑(st.length-c.toNat):Int)=(↑(st.length-c.toNat):Int)/\(0:Int)=(↑x0.1:Int)/\fr=fr/\tt=tt/\im=x0.2.1/\us=x0.2.2/\st=st)/\∀x1:Nat×D6×List Bool,x1.1<=st.length-c.toNat/\dU (List.drop x1.1 (List.drop c.toNat st)) x1.2.1 x1.2.2=dU (List.drop c.toNat st) im us/\jS (List.drop x1.1 (List.drop c.toNat st)) x1.2.1 x1.2.2->ab (decide ((↑x1.1:Int)<(↑(st.length-c.toNat):Int))) (ac (↑x1.1:Int) (st.length-c.toNat)/\ac (st.getD (c.toNat+(↑x1.1:Int).toNat) (0:Int)) x1.2.1.length/\ac (x1.2.1.getD ((st.getD (c.toNat+(↑x1.1:Int).toNat) (0:Int)).toNat) (0:Int)) x1.2.2.length/\ac (st.getD (c.toNat+(↑x1.1:Int).toNat) (0:Int)) x1.2.1.length/\ae ((↑x1.1:Int)+(1:Int))/\∃x2:Nat×D6×List Bool,(x2.1<=st.length-c.toNat/\dU (List.drop x2.1 (List.drop c.toNat st)) x2.2.1 x2.2.2=dU (List.drop c.toNat st) im us/\jS (List.drop x2.1 (List.drop c.toNat st)) x2.2.1 x2.2.2)/\st.length-x2.1<st.length-x1.1/\c=c/\c.toNat=c.toNat/\st.length-c.toNat=st.length-c.toNat/\(↑(st.length-c.toNat):Int)=(↑(st.length-c.toNat):Int)/\(↑x1.1:Int)+(1:Int)=(↑x2.1:Int)/\fr=fr/\tt=tt/\List.set x1.2.1 ((st.getD (c.toNat+(↑x1.1:Int).toNat) (0:Int)).toNat) (-1:Int)=x2.2.1/\List.set x1.2.2 ((x1.2.1.getD ((st.getD (c.toNat+(↑x1.1:Int).toNat) (0:Int)).toNat) (0:Int)).toNat) false=x2.2.2/\st=st) (((0:Int)<=c/\c<=(st.length:Int))/\fr=fr/\tt=tt/\x1.2.1=(dU (List.drop c.toNat st) im us).1/\x1.2.2=(dU (List.drop c.toNat st) im us).2/\List.take c.toNat st=List.take c.toNat st)
def Yz(fr:D8)(tt:D8)(im:D6)(us:List Bool)(st:D6)(c:Int):mH Tryz.prog (ah Ou) Ot (Oq fr tt im us st c) Tryz.f181 (aI Tryz.f181) [.box [.c (.r3 .i64 fr),.c (.r3 .i64 tt),.ob (.ints 2 .i64 im),.ob (.bools 4 us),.ob (.ints 2 .i64 st)],.m (.c (.int .i64 c))] (Om fr tt im us st c) (iv 0 (On fr tt im us st c)++iU (Oo fr tt im us st c))=F5 fr tt im us st c:=by kernel_rfl
def YA(fr:D8)(tt:D8)(im:D6)(us:List Bool)(st:D6)(c:Int)(ξ:(vn fr tt im us st c).pre):F5 fr tt im us st c:=by
 simp only[vn,F5,aO]at ξ⊢;obtain⟨h1,h2,h3,h4⟩:=ξ;refine⟨⟨h1,h2⟩,⟨(0,im,us),⟨by omega,by simp,by simpa using h4⟩,by simp⟩,?_⟩
 rintro⟨i,a,b⟩ ⟨hi,hF,hO⟩
 simp only at hi hF hO⊢;refine⟨fun ψ=>?_,λhge=>?_⟩
 ·have hi2:i<st.length-c.toNat:=by omega
  have hd:(st.drop c.toNat).drop i=st.getD (c.toNat+i) 0::(st.drop c.toNat).drop (i+1):=by
   rw[drop_cons' (st.drop c.toNat) 0 i (by rw[BD];omega)]
   congr 1
   simp[List.getD,BG]
  rw[hd]at hF hO;simp only[dU]at hF;obtain⟨q1,q2,q3⟩:=hO;refine⟨⟨by omega,by omega⟩,q1,q2,q1,by constructor<;>omega,(i+1,a.set (st.getD (c.toNat+i) 0).toNat (-1),b.set (a.getD (st.getD (c.toNat+i) 0).toNat 0).toNat false),⟨by omega,hF,q3⟩,by omega,by simp,rfl,rfl⟩
 ·have hi2:i=st.length-c.toNat:=by omega
  have hd:(st.drop c.toNat).drop i=[]:=Ca (by rw[BD];omega)
  rw[hd]at hF;simp only[dU]at hF;refine⟨⟨h1,h2⟩,by rw[<-hF],by rw[<-hF]⟩
def YB:Fits Tryz.prog 181 ⟨[(0,93),(0,93)],vo⟩:=by
 refine qf (Γ:=ah Ou) aN Tryz.func181 (by kernel_rfl) (by kernel_rfl) (λads p h=>?_) λmas q sv ex outs h hq=>?_
 ·unfold vo at h
  split at h
  ·cases h;rfl
  ·cases h
 ·unfold vo at h
  split at h
  ·rename_i heq
   have heq:=oq (l:=[_,_]) heq
   subst heq;unfold vn at h;cases h;exact⟨Ot,Oq _ _ _ _ _ _ ,by rw[Yz];exact YA _ _ _ _ _ _  hq⟩
  ·cases h
def vp{α:Type}{n:Nat}{q:Nat->Option α}{r:α}:∀{k:Nat},cI n q k=some r->∃i,q i=some r
 |0,h=>by cases h
 |k+1,h=>by
  simp only[cI,Option.or_eq_some_iff]at h;rcases h with h|⟨_,h⟩
  ·exact⟨_,h⟩
  ·exact vp h
def oX(f:Nat->Bool){i N:Nat}(h:i<N):(List.range' i (N-i)).all f=(f i&&(List.range' (i+1) (N-(i+1))).all f):=by
 rw[show N-i=(N-(i+1))+1 by omega,DU];rfl
def oY(f:Nat->Bool){i N:Nat}(h:N<=i):(List.range' i (N-i)).all f=true:=by
 rw[show N-i=0 by omega];rfl
def oZ(f:Nat->Bool)(N:Nat):(List.range N).all f=(List.range' 0 (N-0)).all f:=by
 rw[DV,CB]
def F6(t:D7)(f:D6->Bool):t.all f=(List.range t.length).all λx=>f (t.getD x []):=by
 rw[Cu,Ac,Ac]
 constructor
 ·intro h x hx
  rw[Af]at hx;exact h _ (bN t [] x hx)
 ·intro h r hr
  obtain⟨k,hk,rfl⟩:=A7 hr;have:=h k (by simpa using hk)
  rwa[bM _ _ _ hk]at this
def YC(l:List Nat)(f g:Nat->Bool):(l.all f&&l.all g)=l.all λx=>f x&&g x:=by
 rw[Cu];simp only[AO,Ac];exact⟨λh x hx=>⟨h.1 x hx,h.2 x hx⟩,λh=>⟨λx hx=>(h x hx).1,λx hx=>(h x hx).2⟩⟩
def jT(t:D7)(x y z:Nat):Bool:=decide (en t (en t x y).toNat z=en t x (en t y z).toNat)
def iN(t:D7)(x y:Nat):Bool:=(List.range t.length).all (jT t x y)
def qL(t:D7)(x:Nat):Bool:=(List.range t.length).all (iN t x)
def jU(t:D7)(x:Nat):Bool:=decide (en t 0 x=(x:Int))&&decide (en t x 0=(x:Int))
def gP(t:D7)(x:Nat):Bool:=jU t x&&qL t x
def gQ(t:D7)(x:Nat):Bool:=jU t x&&(cH (t.getD x [])&&qL t x)
def bo(t:D7):Bool:=bX t&&(t.all cH&&(List.range t.length).all (gP t))
def YD(t:D7):bo t=(bX t&&(List.range t.length).all (gQ t)):=by
 rw[bo,F6,YC]
 congr 2
 funext x
 simp only[gP,gQ];cases cH (t.getD x [])<;>cases jU t x<;>simp
def jV{t:D7}(h:bo t=true):bX t=true:=by
 rw[bo,AO]at h;exact h.1
def bk(t:D7)(x:Nat):Int:=bm 0 (t.getD x []) 0
def Ov(x:Int):∀(l:D6) (k:Int),0<=k->bm x l k<k+(l.length:Int)
 | [],k,h=>by simp[bm];omega
 |y::l,k,h=>by
  simp only[bm,AR];split
  ·omega
  ·have:=Ov x l (k+1) (by omega)
   omega
def F7{l:D6}(h:cH l=true){x:Int}(h0:0<=x)(h1:x<(l.length:Int)):x∈l:=Gy.1 h x h0 h1
def YE{t:D7}(h:bo t=true){x:Nat}(hx:x<t.length):0<=bk t x/\bk t x<=(t.length:Int)-1:=by
 have ht:=gH (jV h)
 have hr:=(ht.2.2 x hx).1
 rw[bo,AO,AO]at h;have hp:cH (t.getD x [])=true:=by
  have:=h.2.1
  rw[F6,Ac]at this;exact this x (by simpa using hx)
 have hm:=F7 hp (x:=0) (by omega) (by omega)
 have h1:=Gz 0 (t.getD x []) 0 (by omega)
 have h2:=Ov 0 (t.getD x []) 0 (by omega)
 rw[Ab hm]at h1;have h3:=CT h1
 unfold bk;omega
def cN(t:D7):D6:=ax t.length (bk t)
def Ow(t:D7):(cN t).length=t.length:=d4 _ _
def Ox(t:D7)(x:Nat)(h:x<t.length):(cN t).getD x 0=bk t x:=eA _ _ _ h
def jW(a c:D7)(x y z:Nat):Option D6 :=
 if en c x (en a y z).toNat=en a (en a (en c x y).toNat (bk a x).toNat).toNat (en c x z).toNat then none else some [(x:Int),(y:Int),(z:Int)]
def ia(a c:D7)(x y:Nat):Option D6:=cI a.length (jW a c x y) a.length
def gq(a c:D7)(x:Nat):Option D6:=cI a.length (ia a c x) a.length
def cS(a c:D7):Option D6:=cI a.length (gq a c) a.length
def cg(a c:D7):Bool:=bo a&&bo c&&decide (a.length=c.length)&&(cS a c).isNone
def Oy{a c:D7}(h:cg a c=true):bo a=true/\bo c=true/\a.length=c.length/\(cS a c).isNone=true:=by
 simp only[cg,AO,Ai]at h;exact⟨h.1.1.1,h.1.1.2,h.1.2,h.2⟩
def YF{a c:D7}{l:D6}(h:cS a c=some l):l≠[]:=by
 obtain⟨x,hx⟩:=vp h;obtain⟨y,hy⟩:=vp hx;obtain⟨z,hz⟩:=vp hy;unfold jW at hz;split at hz
 ·cases hz
 ·cases hz;simp
end Go.Sx
end
