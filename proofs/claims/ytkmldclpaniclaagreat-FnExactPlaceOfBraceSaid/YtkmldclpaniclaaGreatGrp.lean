/- Grp -/
import Derived.Test.YtkmldclpaniclaaGreatCmp
import Derived.Shelf.SlSortCmp.NoneTotal
import Derived.Lib.OwnBridge
import Derived.Test.YtkmldclpaniclaaGreatProg
import Derived.Test.YtkmldclpaniclaaGreatSxZ
import Derived.KernelRfl
import Derived.Test.YtkmldclpaniclaaGreatRack
import Derived.Test.YtkmldclpaniclaaGreatLists
set_option linter.unusedSimpArgs false
set_option linter.unusedVariables false
section
open Go Go.Proofs Go.RowKit Go.Shelf
namespace Go.Sx
def xF:Shelf.Ren:=⟨fun x=>match x with|6=>134|14=>186|15=>139|20=>224|21=>225|22=>226|23=>227|24=>228|25=>229|26=>230|27=>231|28=>199|29=>200|46=>243|47=>234|48=>235|49=>244|50=>245|57=>247|_=>0,fun x=>match x with|0=>0|3=>3|4=>4|5=>5|9=>9|22=>68|24=>22|25=>135|39=>130|45=>173|46=>174|50=>178|53=>181|55=>112|66=>199|70=>203|76=>210|77=>211|_=>0,fun x=>x⟩
set_option maxRecDepth 100000
theorem FT:SlLaysF.n6 Tryz.prog xF where
 mixed:=by kernel_rfl
 f6:=⟨Tryz.f134.name,by kernel_rfl,by kernel_rfl⟩
 f14:=⟨Tryz.f186.name,by kernel_rfl,by kernel_rfl⟩
 f15:=by kernel_rfl
 f20:=⟨Tryz.f224.name,by kernel_rfl,by kernel_rfl⟩
 f21:=⟨Tryz.f225.name,by kernel_rfl,by kernel_rfl⟩
 f22:=⟨Tryz.f226.name,by kernel_rfl,by kernel_rfl⟩
 f23:=⟨Tryz.f227.name,by kernel_rfl,by kernel_rfl⟩
 f24:=⟨Tryz.f228.name,by kernel_rfl,by kernel_rfl⟩
 f25:=⟨Tryz.f229.name,by kernel_rfl,by kernel_rfl⟩
 f26:=⟨Tryz.f230.name,by kernel_rfl,by kernel_rfl⟩
 f27:=⟨Tryz.f231.name,by kernel_rfl,by kernel_rfl⟩
 f28:=by kernel_rfl
 f29:=by kernel_rfl
 f46:=⟨Tryz.f243.name,by kernel_rfl,by kernel_rfl⟩
 f47:=by kernel_rfl
 f48:=by kernel_rfl
 f49:=⟨Tryz.f244.name,by kernel_rfl,by kernel_rfl⟩
 f50:=⟨Tryz.f245.name,by kernel_rfl,by kernel_rfl⟩
 f57:=⟨Tryz.f247.name,by kernel_rfl,by kernel_rfl⟩
 t0:=by kernel_rfl
 a0:=fun w=>by kernel_rfl
 z0:=fun w=>by kernel_rfl
 v0:=fun w=>by kernel_rfl
 t3:=by kernel_rfl
 a3:=fun w=>by kernel_rfl
 z3:=fun w=>by kernel_rfl
 v3:=fun w=>by kernel_rfl
 t4:=by kernel_rfl
 a4:=fun w=>by kernel_rfl
 z4:=fun w=>by kernel_rfl
 v4:=fun w=>by kernel_rfl
 t5:=by kernel_rfl
 a5:=fun w=>by kernel_rfl
 z5:=fun w=>by kernel_rfl
 v5:=fun w=>by kernel_rfl
 t9:=by kernel_rfl
 a9:=fun w=>by kernel_rfl
 z9:=fun w=>by kernel_rfl
 v9:=fun w=>by kernel_rfl
 t22:=by kernel_rfl
 a22:=fun w=>by kernel_rfl
 z22:=fun w=>by kernel_rfl
 v22:=fun w=>by kernel_rfl
 a24:=fun w=>by kernel_rfl
 z24:=fun w=>by kernel_rfl
 t25:=by kernel_rfl
 a25:=fun w=>by kernel_rfl
 z25:=fun w=>by kernel_rfl
 v25:=fun w=>by kernel_rfl
 t39:=by kernel_rfl
 a39:=fun w=>by kernel_rfl
 z39:=fun w=>by kernel_rfl
 v39:=fun w=>by kernel_rfl
 t45:=by kernel_rfl
 a45:=fun w=>by kernel_rfl
 z45:=fun w=>by kernel_rfl
 v45:=fun w=>by kernel_rfl
 t46:=by kernel_rfl
 a46:=fun w=>by kernel_rfl
 z46:=fun w=>by kernel_rfl
 v46:=fun w=>by kernel_rfl
 t50:=by kernel_rfl
 a50:=fun w=>by kernel_rfl
 z50:=fun w=>by kernel_rfl
 v50:=fun w=>by kernel_rfl
 t53:=by kernel_rfl
 a53:=fun w=>by kernel_rfl
 z53:=fun w=>by kernel_rfl
 v53:=fun w=>by kernel_rfl
 t55:=by kernel_rfl
 a55:=fun w=>by kernel_rfl
 z55:=fun w=>by kernel_rfl
 v55:=fun w=>by kernel_rfl
 t66:=by kernel_rfl
 a66:=fun w=>by kernel_rfl
 z66:=fun w=>by kernel_rfl
 v66:=fun w=>by kernel_rfl
 t70:=by kernel_rfl
 a70:=fun w=>by kernel_rfl
 z70:=fun w=>by kernel_rfl
 v70:=fun w=>by kernel_rfl
 t76:=by kernel_rfl
 a76:=fun w=>by kernel_rfl
 z76:=fun w=>by kernel_rfl
 v76:=fun w=>by kernel_rfl
 t77:=by kernel_rfl
 a77:=fun w=>by kernel_rfl
 z77:=fun w=>by kernel_rfl
 v77:=fun w=>by kernel_rfl
structure CmpOk {α:Type} (c:α->α->Int):Prop where
 anti:∀x y,c x y=- c y x
 zero:∀x y,c x y=0↔x=y
 le:∀x y z,c x y<=0->c y z<=0->c x z<=0
theorem xG:CmpOk bQ where
 anti x y:=by
  unfold bQ
  (repeat' split)<;>omega
 zero x y:=Fa
 le x y z:=by
  unfold bQ
  (repeat' split)<;>omega
theorem CmpOk.lists{α:Type}{c:α->α->Int}(h:CmpOk c):CmpOk (bn c) where
 anti:=by
  intro a
  induction a with
  |nil=>intro b;cases b<;>rfl
  |cons x a ih =>
   intro b
   cases b with
   |nil=>rfl
   |cons y b =>
    simp only[bn];have h1:=h.anti x y
    by_cases h0:c x y=0
    ·rw[if_pos h0,if_pos (by omega),ih b]
    ·rw[if_neg h0,if_neg (by omega),h1]
 zero a b:=qP (fun x y=>h.zero x y)
 le:=by
  intro a
  induction a with
  |nil=>intro b d _ _;cases d<;>simp[bn]
  |cons x a ih =>
   intro b d h1 h2
   cases b with
   |nil=>simp[bn]at h1
   |cons y b =>
    cases d with
    |nil=>simp[bn]at h2
    |cons z d =>
     simp only[bn]at h1 h2⊢;have a1:=h.anti x y
     have a2:=h.anti y z
     have a3:=h.anti x z
     have z1:=h.zero x y
     have z2:=h.zero y z
     have z3:=h.zero x z
     by_cases e1:c x y=0
     ·have e1':=z1.1 e1
      subst e1';rw[if_pos e1]at h1;by_cases e2:c x z=0
      ·rw[if_pos e2]at h2⊢
       exact ih b d h1 h2
      ·rw[if_neg e2]at h2⊢
       exact h2
     ·rw[if_neg e1]at h1
      have l1:c x z<=0:=by
       by_cases e2:c y z=0
       ·rw[z2.1 e2]at h1;exact h1
       ·rw[if_neg e2]at h2
        exact h.le x y z h1 h2
      by_cases e3:c x z=0
      ·have e3':=z3.1 e3
       subst e3';have a4:=h.anti x y
       by_cases e2:c y x=0
       ·omega
       ·rw[if_neg e2]at h2;omega
      ·rw[if_neg e3];exact l1
theorem CmpOk.lt{α:Type}{c:α->α->Int}(h:CmpOk c){x y z:α}(h1:c x y<0)(h2:c y z<0):c x z<0:=by
 have l:=h.le x y z (by omega) (by omega)
 refine Classical.byContradiction fun hc=>?_
 have e:=(h.zero x z).1 (by omega)
 subst e;have:=h.anti x y
 omega
def eG:V8->V8->Int:=bn (bn bQ)
theorem dQ:CmpOk eG:=xG.lists.lists
def gj(l:V9)(i j:Fin l.length):Int:=eG (l.getD i.1 []) (l.getD j.1 [])
theorem xH(l:V9):Go.Sort.SWO (fun i j=>decide (gj l i j<0)) where
 irrefl:=fun x=>by
  have:eG (l.getD x.1 []) (l.getD x.1 [])=0:=(dQ.zero _ _).2 rfl
  show decide (gj l x x<0)=false
  rw[gj,this];rfl
 trans:=fun x y z h1 h2=>by
  rw[decide_eq_true_eq]at h1 h2⊢;exact dQ.lt h1 h2
 ntrans:=fun x y z h1 h2=>by
  rw[decide_eq_false_iff_not]at h1 h2⊢;unfold gj at *;have a1:=dQ.anti (l.getD x.1 []) (l.getD y.1 [])
  have a2:=dQ.anti (l.getD y.1 []) (l.getD z.1 [])
  have a3:=dQ.anti (l.getD x.1 []) (l.getD z.1 [])
  have:=dQ.le (l.getD z.1 []) (l.getD y.1 []) (l.getD x.1 []) (by omega) (by omega)
  omega
def eM(l:V9)(h:0<l.length):Array (Fin l.length) :=
 letI:Inhabited (Fin l.length):=⟨⟨0,h⟩⟩
 Go.Sort.pdq (fun i j=>decide (gj l i j<0)) (List.finRange l.length).toArray 0 (List.finRange l.length).toArray.size (Lib.bitLen (List.finRange l.length).toArray.size) true true
def c7(l:V9):V9:=if h:0<l.length then(eM l h).toList.map (fun i=>l.getD i.1 [])else []
theorem rE(l:V9)(h:0<l.length):(eM l h).toList.Perm (List.finRange l.length):=by
 letI:Inhabited (Fin l.length):=⟨⟨0,h⟩⟩
 have:=(Go.Sort.pdq_sorts (fun i j=>decide (gj l i j<0)) (xH l) (List.finRange l.length).toArray 0 (List.finRange l.length).toArray.size (Lib.bitLen (List.finRange l.length).toArray.size) true true (Nat.zero_le _) (Nat.le_refl _) (Or.inl rfl)).1
 obtain⟨h1,_,h3⟩:=this;have e1:∀(d:Array (Fin l.length)),d.extract 0 d.size=d:=fun d=>by simp
 rw[e1]at h3;have h4:((eM l h).extract 0 (List.finRange l.length).toArray.size).toList.Perm (List.finRange l.length).toArray.toList:=h3
 rw[<-show(eM l h).size=(List.finRange l.length).toArray.size from h1,e1]at h4
 simpa using h4
theorem rF(l:V9):(c7 l).length=l.length:=by
 unfold c7;split
 ·rename_i h
  rw[List.length_map,(rE l h).length_eq];simp
 ·show 0=l.length
  omega
theorem OB(l:V9)(hr1:l.length<=1099511627776)(hr2:∀r∈l,aM r)(w:World)(e:TypeId)(v:Value)(ins:List Value)(h1:w.ownsRow 0 e 1 v l.length ins)(h2:ins.length=l.length)(hone0:∀u∈ins,u.oneCell'=true)
  (hrd:∀(i:Nat) (u:Value) (W:World),ins[i]?=some u->i<l.length->(∀b,b<w.heap.size->ag v≠some b->W.heap[b]?=w.heap[b]?)->bp W u (.rows .i64 (l.getD i []))) :
  Calls Tryz.prog 134 #[v,.func (.func 135) #[] #[]] w fun r w'=>r=.returned (.tuple #[])/\∃π:List Nat,π.Perm (List.range l.length)/\w'.ownsRow 0 e 1 v l.length (π.map fun i=>ins.getD i undef)/\c7 l=π.map (fun i=>l.getD i []) /\
   OsD w w'/\w'.tape=w.tape/\w'.output=w.output/\w.heap.size<=w'.heap.size/\∀b,b<w.heap.size->ag v≠some b->w'.heap[b]?=w.heap[b]?:=by
 by_cases h0:0<l.length
 case neg =>
  have hl:l=[]:=List.eq_nil_of_length_eq_zero (by omega)
  subst hl;have hi:ins=[]:=List.eq_nil_of_length_eq_zero h2
  subst hi;have hv:∃p cap,v=.slice p 0 cap:=by
   rcases h1.2 with⟨e0,_⟩|⟨g,cap,cur,e0,_⟩
   ·exact⟨_,_,e0⟩
   ·exact⟨_,_,e0⟩
  obtain⟨p,cap,rfl⟩:=hv;refine(AnyF.slices_SortFunc_none (P:=Tryz.prog) (ρ:=xF) { FT with } p cap _ w).mono ?_
  rintro r w' ⟨rfl,rfl⟩
  exact⟨rfl,[],by simp,h1,rfl,.refl _,rfl,rfl,Nat.le_refl _,fun _ _ _=>rfl⟩
 case pos =>
 letI:Inhabited (Fin l.length):=⟨⟨0,h0⟩⟩
 let enc:Fin l.length->Value:=fun i=>ins.getD i.1 undef
 have hz:(List.finRange l.length).map enc=ins:=by
  apply List.ext_getElem
  ·simp[h2]
  ·intro i a b
   simp[enc,List.getD,List.getElem?_eq_getElem b]
 have hone:∀i:Fin l.length,(enc i).oneCell'=true:=fun i=>by
  have hi:i.1<ins.length:=by rw[h2];exact i.2
  show(ins.getD i.1 undef).oneCell'=true
  rw[List.getD,List.getElem?_eq_getElem hi];exact hone0 _ (List.getElem_mem hi)
 rw[<-hz]at h1;have hne:v≠.slice none 0 0:=fun hv=>by
  rcases h1.2 with⟨_,hn⟩|⟨g,cap,cur,h5,_⟩
  ·omega
  ·rw[hv]at h5;cases h5
 obtain⟨g,cap,rfl,_,hlt,hn,hm,hzl,hH⟩:=Lib.holds_of_ownsRow h1 hne;have hn0:∀i:Fin l.length,i.1<ins.length:=fun i=>by rw[h2];exact i.2
 obtain⟨fn,k1,k2,k3⟩:=qZ.fn;have hsz:(List.finRange l.length).toArray.size=l.length:=by simp
 have hcmp:CmpLays1 Tryz.prog 135 #[] enc (gj l) g 0 (List.finRange l.length).toArray.size w:=by
  intro m os dk hdk x y
  have keep:∀b,b<w.heap.size->b≠g->(sortWorld enc w g 0 m dk os).heap[b]?=w.heap[b]?:=fun b hb hne=>by
   unfold sortWorld;rw[Go.Sort.heap_grow_old _ _ (by simpa[Go.Sort.putRow,Go.Sort.mapBlock,Go.Sort.ahead]using hb)]
   simp[Go.Sort.putRow,Go.Sort.mapBlock,Go.Sort.ahead,Array.getElem?_modify,Ne.symm hne]
  have rd:∀i:Fin l.length,bp (sortWorld enc w g 0 m dk os) (enc i) (.rows .i64 (l.getD i.1 [])):=fun i =>
   hrd i.1 (enc i) _ (by simp[enc,List.getD,List.getElem?_eq_getElem (hn0 i)]) i.2 fun b hb hne=>keep b hb fun hc=>hne (by rw[hc];rfl)
  have:=qZ.run (sortWorld enc w g 0 m dk os) (sortWorld enc w g 0 m dk os) [enc x,enc y] [.c (.rows .i64 (l.getD x.1 [])),.c (.rows .i64 (l.getD y.1 []))] _ [] [] rfl
   ⟨hr2 _ (bM l [] x.1 x.2),hr2 _ (bM l [] y.1 y.2)⟩ rfl rfl rfl rfl (by simp) (by simp) (by simp) (fun q u hq=>⟨hq,by simp⟩) (fun i d hi=>by
    match i,hi with
    |0,hi=>cases hi;exact⟨enc x,rfl,hone x,rd x⟩
    |1,hi=>cases hi;exact⟨enc y,rfl,hone y,rd y⟩
    |i+2,hi=>simp at hi)
  refine Calls.mono this ?_
  rintro e0 w' ⟨v0,ms',img,wG,rfl,haft,_,_,_,hret⟩
  have hv:v0=.int .i64 (gj l x y):=hret.val
  subst hv;refine⟨rfl,w'.drawn-(sortWorld enc w g 0 m dk os).drawn,w'.heap.extract (sortWorld enc w g 0 m dk os).heap.size w'.heap.size,?_⟩
  generalize hW:sortWorld enc w g 0 m dk os=W at *
  have hheap:w'.heap=W.heap++w'.heap.extract W.heap.size w'.heap.size:=by
   apply Array.ext_getElem?
   intro i
   by_cases hi:i<W.heap.size
   ·rw[Array.getElem?_append_left hi,haft.block i hi (by simp)]
   ·rw[Array.getElem?_append_right (by omega),Array.getElem?_extract]
    split
    ·congr 1;omega
    ·rw[Array.getElem?_eq_none (by omega)]
  have hd:=haft.os.drawn
  cases w' with
  |mk heap tape drawn os' output =>
   simp only[Go.Sort.grow,World.drewN]at *;have e1:=haft.os.os
   have e2:=haft.tape
   have e3:=haft.output
   simp only at e1 e2 e3;rw[<-hheap,e1,e2,e3,show W.drawn+(drawn-W.drawn)=drawn by omega]
 have hcall:=Any.slices_SortFunc_eq (P:=Tryz.prog) (ρ:=xF) FT enc hone (gj l) (xH l) 135 #[] g 0 cap (List.finRange l.length).toArray w (fun args w=>n8 k1 k2 k3 args) hcmp hH hlt (by rw[hsz];omega)
 rw[hsz]at hcall;refine Calls.mono hcall ?_
 rintro r w' ⟨rfl,n,os,rfl⟩
 refine⟨rfl,?_⟩
 have hD:Go.Sort.pdq (ltOf (gj l)) (List.finRange l.length).toArray 0 l.length (Lib.bitLen l.length) true true=eM l h0:=by
  unfold eM;rw[hsz];rfl
 rw[hD];have hDp:=rE l h0
 have hDl:(eM l h0).toList.length=l.length:=by rw[hDp.length_eq];simp
 have hS:c7 l=(eM l h0).toList.map (fun i=>l.getD i.1 []):=by unfold c7;rw[dif_pos h0]
 have hSl:=rF l
 generalize eM l h0=D at *
 have o:=Lib.ownsRow_putRow (q:=n) (k:=l.length) h1 (ys:=D.toList) hDl (Nat.le_refl _)
 rw[List.take_of_length_le (by omega),Array.toArray_toList]at o
 have hpi:(D.toList.map (fun i:Fin l.length=>i.1)).map (fun i=>ins.getD i undef)=D.toList.map enc:=by rw[List.map_map];rfl
 refine⟨D.toList.map (fun i=>i.1),?_,?_,?_,⟨rfl,Nat.le_add_right _ _⟩,rfl,rfl,?_,fun b hb hne=>?_⟩
 ·have:=hDp.map (fun i:Fin l.length=>i.1)
  refine this.trans ?_
  have:(List.finRange l.length).map (fun i:Fin l.length=>i.1)=List.range l.length:=List.ext_getElem (by simp) (by simp)
  rw[this]
 ·rw[hpi]
  refine dn o fun b hb=>?_
  simp[ag]at hb
  subst hb;exact Go.Sort.heap_grow_old _ _ (by simpa[Go.Sort.putRow,Go.Sort.mapBlock,Go.Sort.ahead]using hlt)
 ·rw[hS,List.map_map];rfl
 ·simp[sortWorld,Go.Sort.grow,Go.Sort.putRow,Go.Sort.mapBlock,Go.Sort.ahead]
 ·have hg:b≠g:=fun hc=>hne (by rw[hc];rfl)
  unfold sortWorld;rw[Go.Sort.heap_grow_old _ _ (by simpa[Go.Sort.putRow,Go.Sort.mapBlock,Go.Sort.ahead]using hb)]
  simp[Go.Sort.putRow,Go.Sort.mapBlock,Go.Sort.ahead,Array.getElem?_modify,Ne.symm hg]
theorem OC(l:V9)(hr1:l.length<=1099511627776)(hr2:∀r∈l,aM r):Kt Tryz.prog 134 135 l (c7 l):=by
 intro w e e2 e3 nd hO hnd
 have hlen:(aU nd).length=l.length:=(iu hO).trans (Nat.mul_one _)
 obtain⟨t1,t2,t3,t4⟩:=hO;have kid:∀i u,(aU nd)[i]?=some u->bh w [e2,e3] u (.rows .i64 (l.getD i [])):=fun i u hu=>t4 i u _ hu rfl
 have hne:∀u∈aU nd,∀b∈aR 2 u,b<w.heap.size/\ag (aB nd)≠some b:=fun u hu b hb=>by
  obtain⟨i,hi⟩:=List.getElem?_of_mem hu;refine⟨bh.block (kid i u hi) b hb,fun hc=>?_⟩
  rw[dq,List.nodup_append]at hnd;exact hnd.2.2 b (by rw[hc];simp) b (List.mem_flatMap.2 ⟨u,hu,hb⟩) rfl
 refine Calls.mono (OB l hr1 hr2 w e (aB nd) ((aU nd).map aB) t3 (by simpa using hlen) (fun u hu=>?_) (fun i u W hu hi hk=>?_)) ?_
 ·obtain⟨x,hx,rfl⟩:=List.mem_map.1 hu
  obtain⟨i,hi⟩:=List.getElem?_of_mem hx;exact(kid i x hi).one
 ·rw[List.getElem?_map]at hu
  cases hx:(aU nd)[i]? with
  |none=>rw[hx]at hu;cases hu
  |some x =>
   rw[hx]at hu;cases hu;have hm:=List.mem_of_getElem? hx
   exact(bh.keep (kid i x hx) fun b hb=>hk b (hne x hm b hb).1 (hne x hm b hb).2).reads
 ·rintro r w' ⟨rfl,π,p1,p2,p3,p4,p5,p6,p7,p8⟩
  have hπ:∀i∈π,i<l.length:=fun i hi=>by simpa using p1.mem_iff.1 hi
  have hπl:π.length=l.length:=by simpa using p1.length_eq
  have hh:(π.map fun i=>(aU nd).getD i undef).map aB=π.map fun i=>((aU nd).map aB).getD i undef:=by
   rw[List.map_map];refine List.map_congr_left fun i hi=>?_
   have:=hπ i hi
   simp[List.getD,hlen,this]
  have hkk:(π.map fun i=>(aU nd).getD i undef).Perm (aU nd):=by
   refine(p1.map _).trans ?_
   have:(List.range l.length).map (fun i=>(aU nd).getD i undef)=aU nd:=by
    apply List.ext_getElem
    ·simp[hlen]
    ·intro i a b
     simp[List.getD,b]
   rw[this]
  refine⟨rfl,_,⟨rfl,rfl,?_,fun i u x hu hx=>?_⟩,hkk,p4,p5,p6,p7,p8⟩
  ·show w'.ownsRow 0 e 1 (aB nd) (c7 l).length ((π.map fun i=>(aU nd).getD i undef).map aB)
   rw[hh,rF];exact p2
  ·have hu:(π.map fun i=>(aU nd).getD i undef)[i]?=some u:=hu
   rw[List.getElem?_map]at hu;cases hj:π[i]? with
   |none=>rw[hj]at hu;cases hu
   |some j =>
    rw[hj]at hu;cases hu;have hjl:=hπ j (List.mem_of_getElem? hj)
    have hkj:(aU nd)[j]?=some ((aU nd).getD j undef):=by simp[List.getD,hlen,hjl]
    have hx:some (FC.rows .i64 ((c7 l).getD i []))=some x:=hx
    cases hx;have e1:(c7 l).getD i []=l.getD j []:=by rw[p3];simp[List.getD,hj]
    rw[e1];have hm:=List.mem_of_getElem? hkj
    exact bh.keep (kid j _ hkj) fun b hb=>p8 b (hne _ hm b hb).1 (hne _ hm b hb).2
def oC:List AD->Option Post:=fun ds=>match ds with
 | [.c (.r3 .i64 l)]=>some ⟨l.length<=1099511627776/\∀r∈l,aM r,.c (.tr [135] (.r3 .i64 (c7 l))),[]⟩
 |_=>none
theorem OD:Fits Tryz.prog 134 ⟨[(0,97),(0,97)],oC⟩ where
 fn:=⟨Tryz.f134,Tryz.func134,by kernel_rfl,by kernel_rfl⟩
 run:=fun _ _ _ ds p ms obs h _ _ hm _ hw=>by
  exfalso
  have h:oC ds=some p:=h
  unfold oC at h;split at h
  ·cases h;simp at hw
  ·cases h
 mv:=fun h=>by cases h
 gr:=fun h=>by cases h
 so:=fun _=>⟨fun l q g x l' ws h=>(by
  have h:oC [.c (.rows .i64 l)]=some ⟨q,.c (.rows g x .i64 l'),ws⟩:=h
  cases h),fun l q g l' ws h hq=>by
  have h:some (⟨l.length<=1099511627776/\∀r∈l,aM r,.c (.tr [135] (.r3 .i64 (c7 l))),[]⟩:Post)=some ⟨q,.c (.tr [g] (.r3 .i64 l')),ws⟩:=h
  simp only[Option.some.injEq,Post.mk.injEq,RV.c.injEq,RC.tr.injEq,List.cons.injEq,and_true,FC.r3.injEq,true_and]at h;obtain⟨h1,⟨h2,h3⟩,_⟩:=h;subst h1;subst h2;subst h3;exact OC l hq.1 hq.2⟩
 df:=fun h=>by cases h
 st:=fun h=>by cases h
end Go.Sx
end
section
open Go Go.Proofs
namespace Go.Sx
def dl:V7->V7->List Bool->V7×List Bool
 | [],im,us=>(im,us)
 |x::l,im,us=>dl l (im.set x.toNat (-1)) (us.set (im.getD x.toNat 0).toNat false)
def iV:V7->V7->List Bool->Prop
 | [],_,_=>True
 |x::l,im,us=>(0<=x/\x<(im.length:Int))/\(0<=im.getD x.toNat 0/\im.getD x.toNat 0<(us.length:Int))/\iV l (im.set x.toNat (-1)) (us.set (im.getD x.toNat 0).toNat false)
def FU(fr:V9)(tt:V9)(im:V7)(us:List Bool)(st:V7)(c:Int):SV:=.tup []
def FW(fr:V9)(tt:V9)(im:V7)(us:List Bool)(st:V7)(c:Int):List MA:=[.box [.c (.r3 .i64 fr),.c (.r3 .i64 tt),.ob (.ints 2 .i64 ((dl (st.drop c.toNat) im us).1)),.ob (.bools 4 ((dl (st.drop c.toNat) im us).2)),.ob (.ints 2 .i64 ((st.take c.toNat)))],.m (.c (.int .i64 c))]
def FX(fr:V9)(tt:V9)(im:V7)(us:List Bool)(st:V7)(c:Int):List (Nat×Ob):=[]
def rG(fr:V9)(tt:V9)(im:V7)(us:List Bool)(st:V7)(c:Int):Post:=⟨0<=c/\c<=(st.length:Int)/\st.length<=1000/\iV (st.drop c.toNat) im us,.st (FU fr tt im us st c) (FX fr tt im us st c) (FW fr tt im us st c),[]⟩
def rH:List AD->Option Post
 | [.ma (.box [.c (.r3 .i64 fr),.c (.r3 .i64 tt),.ob (.ints 2 .i64 im),.ob (.bools 4 us),.ob (.ints 2 .i64 st)]),.ma (.m (.c (.int .i64 c)))]=>some (rG fr tt im us st c)
 |_=>none
def FY(fr:V9)(tt:V9)(im:V7)(us:List Bool)(st:V7)(c:Int):Nat->Option Ann
 |0=>some (Ann.mk ((Nat)×(V7)×(List Bool)) (fun x=>match x with|(i,a,b)=>⟨[(0,.c (.ptr 7000 0)),(1,.c (.int .i64 c)),(11,.c (.sub 7005 (Int.toNat c) (List.length st-Int.toNat c))),(12,.c (.int .i64 (((List.length st-Int.toNat c:Nat):Int)))),(13,.c (.int .i64 ((i:Int))))],[(7000,some (.box [.ro (.r3 .i64 fr),.ro (.r3 .i64 tt),.own 7003,.own 7004,.own 7005])),(7003,some (.ints 2 .i64 a)),(7004,some (.bools 4 b)),(7005,some (.ints 2 .i64 st))]⟩) (fun x=>match x with|(i,a,b)=>i<=st.length-c.toNat/\dl ((st.drop c.toNat).drop i) a b=dl (st.drop c.toNat) im us/\iV ((st.drop c.toNat).drop i) a b) (fun x=>match x with|(i,a,b)=>st.length-i) (fun _=>am))
 |_=>none
def FZ(t:Nat):Bool:=[4000042].contains t
def F0:List (Nat×Ctr):=[]
def xI(fr:V9)(tt:V9)(im:V7)(us:List Bool)(st:V7)(c:Int):Prop :=
 (ar st.length (Option.some c) Option.none/\((∃x0:Nat×V7×List Bool,(x0.1<=st.length-c.toNat/\dl (List.drop x0.1 (List.drop c.toNat st)) x0.2.1 x0.2.2=dl (List.drop c.toNat st) im us/\iV (List.drop x0.1 (List.drop c.toNat st)) x0.2.1 x0.2.2)/\c=c/\c.toNat=c.toNat/\st.length-c.toNat=st.length-c.toNat/\(↑(st.length-c.toNat):Int)=(↑(st.length-c.toNat):Int)/\(0:Int)=(↑x0.1:Int)/\fr=fr/\tt=tt/\im=x0.2.1/\us=x0.2.2/\st=st)/\(∀x1:Nat×V7×List Bool,(x1.1<=st.length-c.toNat/\dl (List.drop x1.1 (List.drop c.toNat st)) x1.2.1 x1.2.2=dl (List.drop c.toNat st) im us/\iV (List.drop x1.1 (List.drop c.toNat st)) x1.2.1 x1.2.2->(ae (decide ((↑x1.1:Int)<(↑(st.length-c.toNat):Int))) (aa (↑x1.1:Int) (st.length-c.toNat)/\(aa (st.getD (c.toNat+(↑x1.1:Int).toNat) (0:Int)) x1.2.1.length/\(aa (x1.2.1.getD ((st.getD (c.toNat+(↑x1.1:Int).toNat) (0:Int)).toNat) (0:Int)) x1.2.2.length/\(aa (st.getD (c.toNat+(↑x1.1:Int).toNat) (0:Int)) x1.2.1.length/\(ac ((↑x1.1:Int)+(1:Int))/\(∃x2:Nat×V7×List Bool,((x2.1<=st.length-c.toNat/\dl (List.drop x2.1 (List.drop c.toNat st)) x2.2.1 x2.2.2=dl (List.drop c.toNat st) im us/\iV (List.drop x2.1 (List.drop c.toNat st)) x2.2.1 x2.2.2)/\(st.length-x2.1<st.length-x1.1/\(c=c/\((c.toNat=c.toNat) /\
 ((st.length-c.toNat=st.length-c.toNat)/\(((↑(st.length-c.toNat):Int)=(↑(st.length-c.toNat):Int))/\(((↑x1.1:Int)+(1:Int)=(↑x2.1:Int))/\((fr=fr)/\((tt=tt)/\((List.set x1.2.1 ((st.getD (c.toNat+(↑x1.1:Int).toNat) (0:Int)).toNat) (-1:Int)=x2.2.1)/\((List.set x1.2.2 ((x1.2.1.getD ((st.getD (c.toNat+(↑x1.1:Int).toNat) (0:Int)).toNat) (0:Int)).toNat) false=x2.2.2)/\(st=st)))))))))))))))))) ((((0:Int)<=c)/\(c<=(st.length:Int)))/\((fr=fr)/\((tt=tt)/\((x1.2.1=(dl (List.drop c.toNat st) im us).1)/\((x1.2.2=(dl (List.drop c.toNat st) im us).2)/\(List.take c.toNat st=List.take c.toNat st)))))))))))
theorem OE(fr:V9)(tt:V9)(im:V7)(us:List Bool)(st:V7)(c:Int):kW Tryz.prog (ai F0) FZ (FY fr tt im us st c) Tryz.f181 (aE Tryz.f181) [.box [.c (.r3 .i64 fr),.c (.r3 .i64 tt),.ob (.ints 2 .i64 im),.ob (.bools 4 us),.ob (.ints 2 .i64 st)],.m (.c (.int .i64 c))] (FU fr tt im us st c) (gy 0 (FW fr tt im us st c)++gV (FX fr tt im us st c))=xI fr tt im us st c:=by kernel_rfl
theorem OF(fr:V9)(tt:V9)(im:V7)(us:List Bool)(st:V7)(c:Int)(Yh:(rG fr tt im us st c).pre):xI fr tt im us st c:=by
 simp only[rG,xI,aG,u1,u2,u3,u4,u5,u6,u7,u8,u9,v1,v2,v3,v4,v5,v6,v7,v8,v9,w1,w2,w3,w4,aH,aa,ac,af,ar]at Yh⊢;obtain⟨h1,h2,h3,h4⟩:=Yh;refine⟨⟨h1,h2⟩,⟨(0,im,us),⟨by omega,by simp,by simpa using h4⟩,by simp⟩,?_⟩
 rintro⟨i,a,b⟩ ⟨hi,hF,hO⟩
 simp only at hi hF hO⊢;refine⟨fun hlt=>?_,fun hge=>?_⟩
 ·have hi2:i<st.length-c.toNat:=by omega
  have hd:(st.drop c.toNat).drop i=st.getD (c.toNat+i) 0::(st.drop c.toNat).drop (i+1):=by
   rw[drop_cons' (st.drop c.toNat) 0 i (by rw[List.length_drop];omega)]
   congr 1
   simp[List.getD,List.getElem?_drop]
  rw[hd]at hF hO;simp only[dl]at hF;obtain⟨q1,q2,q3⟩:=hO;refine⟨⟨by omega,by omega⟩,q1,q2,q1,by constructor<;>omega,(i+1,a.set (st.getD (c.toNat+i) 0).toNat (-1),b.set (a.getD (st.getD (c.toNat+i) 0).toNat 0).toNat false),⟨by omega,hF,q3⟩,by omega,by simp,rfl,rfl⟩
 ·have hi2:i=st.length-c.toNat:=by omega
  have hd:(st.drop c.toNat).drop i=[]:=List.drop_eq_nil_of_le (by rw[List.length_drop];omega)
  rw[hd]at hF;simp only[dl]at hF;refine⟨⟨h1,h2⟩,by rw[<-hF],by rw[<-hF]⟩
theorem OG:Fits Tryz.prog 181 ⟨[(0,93),(0,93)],rH⟩:=by
 refine om (Γ:=ai F0) aF Tryz.func181 (by kernel_rfl) (by kernel_rfl) (fun ads p h=>?_) fun mas q sv ex outs h hq=>?_
 ·unfold rH at h
  split at h
  ·cases h;rfl
  ·cases h
 ·unfold rH at h
  split at h
  ·rename_i heq
   have heq:=mE (l:=[_,_]) heq
   subst heq;unfold rG at h;cases h;exact⟨FZ,FY _ _ _ _ _ _ ,by rw[OE];exact OF _ _ _ _ _ _  hq⟩
  ·cases h
theorem rI{α:Type}{n:Nat}{q:Nat->Option α}{r:α}:∀{k:Nat},b9 n q k=some r->∃i,q i=some r
 |0,h=>by cases h
 |k+1,h=>by
  simp only[b9,Option.or_eq_some_iff]at h;rcases h with h|⟨_,h⟩
  ·exact⟨_,h⟩
  ·exact rI h
theorem mV(f:Nat->Bool){i N:Nat}(h:i<N):(List.range' i (N-i)).all f=(f i&&(List.range' (i+1) (N-(i+1))).all f):=by
 rw[show N-i=(N-(i+1))+1 by omega,List.range'_succ];rfl
theorem mW(f:Nat->Bool){i N:Nat}(h:N<=i):(List.range' i (N-i)).all f=true:=by
 rw[show N-i=0 by omega];rfl
theorem mX(f:Nat->Bool)(N:Nat):(List.range N).all f=(List.range' 0 (N-0)).all f:=by
 rw[List.range_eq_range',Nat.sub_zero]
theorem xJ(t:V8)(f:V7->Bool):t.all f=(List.range t.length).all fun x=>f (t.getD x []):=by
 rw[Bool.eq_iff_iff,List.all_eq_true,List.all_eq_true]
 constructor
 ·intro h x hx
  rw[List.mem_range]at hx;exact h _ (bM t [] x hx)
 ·intro h r hr
  obtain⟨k,hk,rfl⟩:=List.getElem_of_mem hr;have:=h k (by simpa using hk)
  rwa[bF _ _ _ hk]at this
theorem OH(l:List Nat)(f g:Nat->Bool):(l.all f&&l.all g)=l.all fun x=>f x&&g x:=by
 rw[Bool.eq_iff_iff];simp only[Bool.and_eq_true,List.all_eq_true];exact⟨fun h x hx=>⟨h.1 x hx,h.2 x hx⟩,fun h=>⟨fun x hx=>(h x hx).1,fun x hx=>(h x hx).2⟩⟩
def iW(t:V8)(x y z:Nat):Bool:=decide (en t (en t x y).toNat z=en t x (en t y z).toNat)
def gL(t:V8)(x y:Nat):Bool:=(List.range t.length).all (iW t x y)
def oD(t:V8)(x:Nat):Bool:=(List.range t.length).all (gL t x)
def iX(t:V8)(x:Nat):Bool:=decide (en t 0 x=(x:Int))&&decide (en t x 0=(x:Int))
def fW(t:V8)(x:Nat):Bool:=iX t x&&oD t x
def fX(t:V8)(x:Nat):Bool:=iX t x&&(cM (t.getD x [])&&oD t x)
def ba(t:V8):Bool:=b6 t&&(t.all cM&&(List.range t.length).all (fW t))
theorem OI(t:V8):ba t=(b6 t&&(List.range t.length).all (fX t)):=by
 rw[ba,xJ,OH]
 congr 2
 funext x
 simp only[fW,fX];cases cM (t.getD x [])<;>cases iX t x<;>simp
theorem ju{t:V8}(h:ba t=true):b6 t=true:=by
 rw[ba,Bool.and_eq_true]at h;exact h.1
def bk(t:V8)(x:Nat):Int:=aZ 0 (t.getD x []) 0
theorem F1(x:Int):∀(l:V7) (k:Int),0<=k->aZ x l k<k+(l.length:Int)
 | [],k,h=>by simp[aZ];omega
 |y::l,k,h=>by
  simp only[aZ,List.length_cons];split
  ·omega
  ·have:=F1 x l (k+1) (by omega)
   omega
theorem xK{l:V7}(h:cM l=true){x:Int}(h0:0<=x)(h1:x<(l.length:Int)):x∈l:=AP.1 h x h0 h1
theorem OJ{t:V8}(h:ba t=true){x:Nat}(hx:x<t.length):0<=bk t x/\bk t x<=(t.length:Int)-1:=by
 have ht:=gu (ju h)
 have hr:=(ht.2.2 x hx).1
 rw[ba,Bool.and_eq_true,Bool.and_eq_true]at h;have hp:cM (t.getD x [])=true:=by
  have:=h.2.1
  rw[xJ,List.all_eq_true]at this;exact this x (by simpa using hx)
 have hm:=xK hp (x:=0) (by omega) (by omega)
 have h1:=AQ 0 (t.getD x []) 0 (by omega)
 have h2:=F1 0 (t.getD x []) 0 (by omega)
 rw[decide_eq_true hm]at h1;have h3:=of_decide_eq_true h1
 unfold bk;omega
def cd(t:V8):V7:=au t.length (bk t)
theorem F2(t:V8):(cd t).length=t.length:=eu _ _
theorem F3(t:V8)(x:Nat)(h:x<t.length):(cd t).getD x 0=bk t x:=eJ _ _ _ h
def iY(a c:V8)(x y z:Nat):Option V7 :=
 if en c x (en a y z).toNat=en a (en a (en c x y).toNat (bk a x).toNat).toNat (en c x z).toNat then none else some [(x:Int),(y:Int),(z:Int)]
def gk(a c:V8)(x y:Nat):Option V7:=b9 a.length (iY a c x y) a.length
def fF(a c:V8)(x:Nat):Option V7:=b9 a.length (gk a c x) a.length
def co(a c:V8):Option V7:=b9 a.length (fF a c) a.length
def cN(a c:V8):Bool:=ba a&&ba c&&decide (a.length=c.length)&&(co a c).isNone
theorem OK{a c:V8}(h:cN a c=true):ba a=true/\ba c=true/\a.length=c.length/\(co a c).isNone=true:=by
 simp only[cN,Bool.and_eq_true,decide_eq_true_eq]at h;exact⟨h.1.1.1,h.1.1.2,h.1.2,h.2⟩
theorem OL{a c:V8}{l:V7}(h:co a c=some l):l≠[]:=by
 obtain⟨x,hx⟩:=rI h;obtain⟨y,hy⟩:=rI hx;obtain⟨z,hz⟩:=rI hy;unfold iY at hz;split at hz
 ·cases hz
 ·cases hz;simp
end Go.Sx
end
