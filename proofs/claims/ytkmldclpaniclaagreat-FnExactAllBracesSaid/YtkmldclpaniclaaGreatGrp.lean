/- Grp -/
import Derived.Test.YtkmldclpaniclaaGreatCmp
import Derived.Shelf.SlSortCmp.NoneTotal
import Derived.Lib.OwnBridge
import Derived.Test.YtkmldclpaniclaaGreatProg
import Derived.Test.YtkmldclpaniclaaGreatSxZ
import Derived.KernelRfl
import Derived.Test.YtkmldclpaniclaaGreatRack
set_option linter.unusedSimpArgs false
set_option linter.unusedVariables false
section
open Go Go.Proofs Go.RowKit Go.Shelf
namespace Go.Sx
def wI:Shelf.Ren:=⟨fun x=>match x with|6=>134|14=>186|15=>139|20=>224|21=>225|22=>226|23=>227|24=>228|25=>229|26=>230|27=>231|28=>199|29=>200|46=>243|47=>234|48=>235|49=>244|50=>245|57=>247|_=>0,fun x=>match x with|0=>0|3=>3|4=>4|5=>5|9=>9|22=>68|24=>22|25=>135|39=>130|45=>173|46=>174|50=>178|53=>181|55=>112|66=>199|70=>203|76=>210|77=>211|_=>0,fun x=>x⟩
set_option maxRecDepth 100000
theorem Ez:SlLaysF.n6 Tryz.prog wI where
 mixed:=by kernel_rfl
 f6:=⟨Tryz.f134.name,by kernel_rfl,by kernel_rfl⟩
 f14:=⟨Tryz.f186.name,by kernel_rfl,by kernel_rfl⟩
 f15:=by kernel_rfl
 f20:=⟨Tryz.f224.name,by kernel_rfl,by kernel_rfl⟩
 f21:=⟨Tryz.f225.name,by kernel_rfl,by kernel_rfl⟩
 f22:=⟨Tryz.f226.name,by kernel_rfl,by kernel_rfl⟩
 f23:=⟨Tryz.f227.name,by kernel_rfl,by kernel_rfl⟩
 f24:=⟨Tryz.f228.name,by kernel_rfl,by kernel_rfl⟩
 f25:=⟨Tryz.f229.name,by kernel_rfl,by kernel_rfl⟩
 f26:=⟨Tryz.f230.name,by kernel_rfl,by kernel_rfl⟩
 f27:=⟨Tryz.f231.name,by kernel_rfl,by kernel_rfl⟩
 f28:=by kernel_rfl
 f29:=by kernel_rfl
 f46:=⟨Tryz.f243.name,by kernel_rfl,by kernel_rfl⟩
 f47:=by kernel_rfl
 f48:=by kernel_rfl
 f49:=⟨Tryz.f244.name,by kernel_rfl,by kernel_rfl⟩
 f50:=⟨Tryz.f245.name,by kernel_rfl,by kernel_rfl⟩
 f57:=⟨Tryz.f247.name,by kernel_rfl,by kernel_rfl⟩
 t0:=by kernel_rfl
 a0:=fun w=>by kernel_rfl
 z0:=fun w=>by kernel_rfl
 v0:=fun w=>by kernel_rfl
 t3:=by kernel_rfl
 a3:=fun w=>by kernel_rfl
 z3:=fun w=>by kernel_rfl
 v3:=fun w=>by kernel_rfl
 t4:=by kernel_rfl
 a4:=fun w=>by kernel_rfl
 z4:=fun w=>by kernel_rfl
 v4:=fun w=>by kernel_rfl
 t5:=by kernel_rfl
 a5:=fun w=>by kernel_rfl
 z5:=fun w=>by kernel_rfl
 v5:=fun w=>by kernel_rfl
 t9:=by kernel_rfl
 a9:=fun w=>by kernel_rfl
 z9:=fun w=>by kernel_rfl
 v9:=fun w=>by kernel_rfl
 t22:=by kernel_rfl
 a22:=fun w=>by kernel_rfl
 z22:=fun w=>by kernel_rfl
 v22:=fun w=>by kernel_rfl
 a24:=fun w=>by kernel_rfl
 z24:=fun w=>by kernel_rfl
 t25:=by kernel_rfl
 a25:=fun w=>by kernel_rfl
 z25:=fun w=>by kernel_rfl
 v25:=fun w=>by kernel_rfl
 t39:=by kernel_rfl
 a39:=fun w=>by kernel_rfl
 z39:=fun w=>by kernel_rfl
 v39:=fun w=>by kernel_rfl
 t45:=by kernel_rfl
 a45:=fun w=>by kernel_rfl
 z45:=fun w=>by kernel_rfl
 v45:=fun w=>by kernel_rfl
 t46:=by kernel_rfl
 a46:=fun w=>by kernel_rfl
 z46:=fun w=>by kernel_rfl
 v46:=fun w=>by kernel_rfl
 t50:=by kernel_rfl
 a50:=fun w=>by kernel_rfl
 z50:=fun w=>by kernel_rfl
 v50:=fun w=>by kernel_rfl
 t53:=by kernel_rfl
 a53:=fun w=>by kernel_rfl
 z53:=fun w=>by kernel_rfl
 v53:=fun w=>by kernel_rfl
 t55:=by kernel_rfl
 a55:=fun w=>by kernel_rfl
 z55:=fun w=>by kernel_rfl
 v55:=fun w=>by kernel_rfl
 t66:=by kernel_rfl
 a66:=fun w=>by kernel_rfl
 z66:=fun w=>by kernel_rfl
 v66:=fun w=>by kernel_rfl
 t70:=by kernel_rfl
 a70:=fun w=>by kernel_rfl
 z70:=fun w=>by kernel_rfl
 v70:=fun w=>by kernel_rfl
 t76:=by kernel_rfl
 a76:=fun w=>by kernel_rfl
 z76:=fun w=>by kernel_rfl
 v76:=fun w=>by kernel_rfl
 t77:=by kernel_rfl
 a77:=fun w=>by kernel_rfl
 z77:=fun w=>by kernel_rfl
 v77:=fun w=>by kernel_rfl
structure CmpOk {α:Type} (c:α->α->Int):Prop where
 anti:∀x y,c x y=- c y x
 zero:∀x y,c x y=0↔x=y
 le:∀x y z,c x y<=0->c y z<=0->c x z<=0
theorem wJ:CmpOk bS where
 anti x y:=by
  unfold bS
  (repeat' split)<;>omega
 zero x y:=DN
 le x y z:=by
  unfold bS
  (repeat' split)<;>omega
theorem CmpOk.lists{α:Type}{c:α->α->Int}(h:CmpOk c):CmpOk (bm c) where
 anti:=by
  intro a
  induction a with
  |nil=>intro b;cases b<;>rfl
  |cons x a ih =>
   intro b
   cases b with
   |nil=>rfl
   |cons y b =>
    simp only[bm];have h1:=h.anti x y
    by_cases h0:c x y=0
    ·rw[if_pos h0,if_pos (by omega),ih b]
    ·rw[if_neg h0,if_neg (by omega),h1]
 zero a b:=qj (fun x y=>h.zero x y)
 le:=by
  intro a
  induction a with
  |nil=>intro b d _ _;cases d<;>simp[bm]
  |cons x a ih =>
   intro b d h1 h2
   cases b with
   |nil=>simp[bm]at h1
   |cons y b =>
    cases d with
    |nil=>simp[bm]at h2
    |cons z d =>
     simp only[bm]at h1 h2⊢;have a1:=h.anti x y
     have a2:=h.anti y z
     have a3:=h.anti x z
     have z1:=h.zero x y
     have z2:=h.zero y z
     have z3:=h.zero x z
     by_cases e1:c x y=0
     ·have e1':=z1.1 e1
      subst e1';rw[if_pos e1]at h1;by_cases e2:c x z=0
      ·rw[if_pos e2]at h2⊢
       exact ih b d h1 h2
      ·rw[if_neg e2]at h2⊢
       exact h2
     ·rw[if_neg e1]at h1
      have l1:c x z<=0:=by
       by_cases e2:c y z=0
       ·rw[z2.1 e2]at h1;exact h1
       ·rw[if_neg e2]at h2
        exact h.le x y z h1 h2
      by_cases e3:c x z=0
      ·have e3':=z3.1 e3
       subst e3';have a4:=h.anti x y
       by_cases e2:c y x=0
       ·omega
       ·rw[if_neg e2]at h2;omega
      ·rw[if_neg e3];exact l1
theorem CmpOk.lt{α:Type}{c:α->α->Int}(h:CmpOk c){x y z:α}(h1:c x y<0)(h2:c y z<0):c x z<0:=by
 have l:=h.le x y z (by omega) (by omega)
 refine Classical.byContradiction fun hc=>?_
 have e:=(h.zero x z).1 (by omega)
 subst e;have:=h.anti x y
 omega
def em:List (List Int)->List (List Int)->Int:=bm (bm bS)
theorem dL:CmpOk em:=wJ.lists.lists
def fZ(l:List (List (List Int)))(i j:Fin l.length):Int:=em (l.getD i.1 []) (l.getD j.1 [])
theorem wK(l:List (List (List Int))):Go.Sort.SWO (fun i j=>decide (fZ l i j<0)) where
 irrefl:=fun x=>by
  have:em (l.getD x.1 []) (l.getD x.1 [])=0:=(dL.zero _ _).2 rfl
  show decide (fZ l x x<0)=false
  rw[fZ,this];rfl
 trans:=fun x y z h1 h2=>by
  rw[decide_eq_true_eq]at h1 h2⊢;exact dL.lt h1 h2
 ntrans:=fun x y z h1 h2=>by
  rw[decide_eq_false_iff_not]at h1 h2⊢;unfold fZ at *;have a1:=dL.anti (l.getD x.1 []) (l.getD y.1 [])
  have a2:=dL.anti (l.getD y.1 []) (l.getD z.1 [])
  have a3:=dL.anti (l.getD x.1 []) (l.getD z.1 [])
  have:=dL.le (l.getD z.1 []) (l.getD y.1 []) (l.getD x.1 []) (by omega) (by omega)
  omega
def eD(l:List (List (List Int)))(h:0<l.length):Array (Fin l.length) :=
 letI:Inhabited (Fin l.length):=⟨⟨0,h⟩⟩
 Go.Sort.pdq (fun i j=>decide (fZ l i j<0)) (List.finRange l.length).toArray 0 (List.finRange l.length).toArray.size (Lib.bitLen (List.finRange l.length).toArray.size) true true
def cS(l:List (List (List Int))):List (List (List Int)):=if h:0<l.length then(eD l h).toList.map (fun i=>l.getD i.1 [])else []
theorem qO(l:List (List (List Int)))(h:0<l.length):(eD l h).toList.Perm (List.finRange l.length):=by
 letI:Inhabited (Fin l.length):=⟨⟨0,h⟩⟩
 have:=(Go.Sort.pdq_sorts (fun i j=>decide (fZ l i j<0)) (wK l) (List.finRange l.length).toArray 0 (List.finRange l.length).toArray.size (Lib.bitLen (List.finRange l.length).toArray.size) true true (Nat.zero_le _) (Nat.le_refl _) (Or.inl rfl)).1
 obtain⟨h1,_,h3⟩:=this;have e1:∀(d:Array (Fin l.length)),d.extract 0 d.size=d:=fun d=>by simp
 rw[e1]at h3;have h4:((eD l h).extract 0 (List.finRange l.length).toArray.size).toList.Perm (List.finRange l.length).toArray.toList:=h3
 rw[<-show(eD l h).size=(List.finRange l.length).toArray.size from h1,e1]at h4
 simpa using h4
theorem qP(l:List (List (List Int))):(cS l).length=l.length:=by
 unfold cS;split
 ·rename_i h
  rw[List.length_map,(qO l h).length_eq];simp
 ·show 0=l.length
  omega
theorem Mr(l:List (List (List Int)))(hr1:l.length<=1099511627776)(hr2:∀r∈l,bK r)(w:World)(e:TypeId)(v:Value)(ins:List Value)(h1:w.ownsRow 0 e 1 v l.length ins)(h2:ins.length=l.length)(hone0:∀u∈ins,u.oneCell'=true)
  (hrd:∀(i:Nat) (u:Value) (W:World),ins[i]?=some u->i<l.length->(∀b,b<w.heap.size->af v≠some b->W.heap[b]?=w.heap[b]?)->bo W u (.rows .i64 (l.getD i []))) :
  Calls Tryz.prog 134 #[v,.func (.func 135) #[] #[]] w fun r w'=>r=.returned (.tuple #[])/\∃π:List Nat,π.Perm (List.range l.length)/\w'.ownsRow 0 e 1 v l.length (π.map fun i=>ins.getD i undef)/\cS l=π.map (fun i=>l.getD i []) /\
   OsD w w'/\w'.tape=w.tape/\w'.output=w.output/\w.heap.size<=w'.heap.size/\∀b,b<w.heap.size->af v≠some b->w'.heap[b]?=w.heap[b]?:=by
 by_cases h0:0<l.length
 case neg =>
  have hl:l=[]:=List.eq_nil_of_length_eq_zero (by omega)
  subst hl;have hi:ins=[]:=List.eq_nil_of_length_eq_zero h2
  subst hi;have hv:∃p cap,v=.slice p 0 cap:=by
   rcases h1.2 with⟨e0,_⟩|⟨g,cap,cur,e0,_⟩
   ·exact⟨_,_,e0⟩
   ·exact⟨_,_,e0⟩
  obtain⟨p,cap,rfl⟩:=hv;refine(AnyF.slices_SortFunc_none (P:=Tryz.prog) (ρ:=wI) { Ez with } p cap _ w).mono ?_
  rintro r w' ⟨rfl,rfl⟩
  exact⟨rfl,[],by simp,h1,rfl,.refl _,rfl,rfl,Nat.le_refl _,fun _ _ _=>rfl⟩
 case pos =>
 letI:Inhabited (Fin l.length):=⟨⟨0,h0⟩⟩
 let enc:Fin l.length->Value:=fun i=>ins.getD i.1 undef
 have hz:(List.finRange l.length).map enc=ins:=by
  apply List.ext_getElem
  ·simp[h2]
  ·intro i a b
   simp[enc,List.getD,List.getElem?_eq_getElem b]
 have hone:∀i:Fin l.length,(enc i).oneCell'=true:=fun i=>by
  have hi:i.1<ins.length:=by rw[h2];exact i.2
  show(ins.getD i.1 undef).oneCell'=true
  rw[List.getD,List.getElem?_eq_getElem hi];exact hone0 _ (List.getElem_mem hi)
 rw[<-hz]at h1;have hne:v≠.slice none 0 0:=fun hv=>by
  rcases h1.2 with⟨_,hn⟩|⟨g,cap,cur,h5,_⟩
  ·omega
  ·rw[hv]at h5;cases h5
 obtain⟨g,cap,rfl,_,hlt,hn,hm,hzl,hH⟩:=Lib.holds_of_ownsRow h1 hne;have hn0:∀i:Fin l.length,i.1<ins.length:=fun i=>by rw[h2];exact i.2
 obtain⟨fn,k1,k2,k3⟩:=qv.fn;have hsz:(List.finRange l.length).toArray.size=l.length:=by simp
 have hcmp:CmpLays1 Tryz.prog 135 #[] enc (fZ l) g 0 (List.finRange l.length).toArray.size w:=by
  intro m os dk hdk x y
  have keep:∀b,b<w.heap.size->b≠g->(sortWorld enc w g 0 m dk os).heap[b]?=w.heap[b]?:=fun b hb hne=>by
   unfold sortWorld;rw[Go.Sort.heap_grow_old _ _ (by simpa[Go.Sort.putRow,Go.Sort.mapBlock,Go.Sort.ahead]using hb)]
   simp[Go.Sort.putRow,Go.Sort.mapBlock,Go.Sort.ahead,Array.getElem?_modify,Ne.symm hne]
  have rd:∀i:Fin l.length,bo (sortWorld enc w g 0 m dk os) (enc i) (.rows .i64 (l.getD i.1 [])):=fun i =>
   hrd i.1 (enc i) _ (by simp[enc,List.getD,List.getElem?_eq_getElem (hn0 i)]) i.2 fun b hb hne=>keep b hb fun hc=>hne (by rw[hc];rfl)
  have:=qv.run (sortWorld enc w g 0 m dk os) (sortWorld enc w g 0 m dk os) [enc x,enc y] [.c (.rows .i64 (l.getD x.1 [])),.c (.rows .i64 (l.getD y.1 []))] _ [] [] rfl
   ⟨hr2 _ (bO l [] x.1 x.2),hr2 _ (bO l [] y.1 y.2)⟩ rfl rfl rfl rfl (by simp) (by simp) (by simp) (fun q u hq=>⟨hq,by simp⟩) (fun i d hi=>by
    match i,hi with
    |0,hi=>cases hi;exact⟨enc x,rfl,hone x,rd x⟩
    |1,hi=>cases hi;exact⟨enc y,rfl,hone y,rd y⟩
    |i+2,hi=>simp at hi)
  refine Calls.mono this ?_
  rintro e0 w' ⟨v0,ms',img,wG,rfl,haft,_,_,_,hret⟩
  have hv:v0=.int .i64 (fZ l x y):=hret.val
  subst hv;refine⟨rfl,w'.drawn-(sortWorld enc w g 0 m dk os).drawn,w'.heap.extract (sortWorld enc w g 0 m dk os).heap.size w'.heap.size,?_⟩
  generalize hW:sortWorld enc w g 0 m dk os=W at *
  have hheap:w'.heap=W.heap++w'.heap.extract W.heap.size w'.heap.size:=by
   apply Array.ext_getElem?
   intro i
   by_cases hi:i<W.heap.size
   ·rw[Array.getElem?_append_left hi,haft.block i hi (by simp)]
   ·rw[Array.getElem?_append_right (by omega),Array.getElem?_extract]
    split
    ·congr 1;omega
    ·rw[Array.getElem?_eq_none (by omega)]
  have hd:=haft.os.drawn
  cases w' with
  |mk heap tape drawn os' output =>
   simp only[Go.Sort.grow,World.drewN]at *;have e1:=haft.os.os
   have e2:=haft.tape
   have e3:=haft.output
   simp only at e1 e2 e3;rw[<-hheap,e1,e2,e3,show W.drawn+(drawn-W.drawn)=drawn by omega]
 have hcall:=Any.slices_SortFunc_eq (P:=Tryz.prog) (ρ:=wI) Ez enc hone (fZ l) (wK l) 135 #[] g 0 cap (List.finRange l.length).toArray w (fun args w=>nD k1 k2 k3 args) hcmp hH hlt (by rw[hsz];omega)
 rw[hsz]at hcall;refine Calls.mono hcall ?_
 rintro r w' ⟨rfl,n,os,rfl⟩
 refine⟨rfl,?_⟩
 have hD:Go.Sort.pdq (ltOf (fZ l)) (List.finRange l.length).toArray 0 l.length (Lib.bitLen l.length) true true=eD l h0:=by
  unfold eD;rw[hsz];rfl
 rw[hD];have hDp:=qO l h0
 have hDl:(eD l h0).toList.length=l.length:=by rw[hDp.length_eq];simp
 have hS:cS l=(eD l h0).toList.map (fun i=>l.getD i.1 []):=by unfold cS;rw[dif_pos h0]
 have hSl:=qP l
 generalize eD l h0=D at *
 have o:=Lib.ownsRow_putRow (q:=n) (k:=l.length) h1 (ys:=D.toList) hDl (Nat.le_refl _)
 rw[List.take_of_length_le (by omega),Array.toArray_toList]at o
 have hpi:(D.toList.map (fun i:Fin l.length=>i.1)).map (fun i=>ins.getD i undef)=D.toList.map enc:=by rw[List.map_map];rfl
 refine⟨D.toList.map (fun i=>i.1),?_,?_,?_,⟨rfl,Nat.le_add_right _ _⟩,rfl,rfl,?_,fun b hb hne=>?_⟩
 ·have:=hDp.map (fun i:Fin l.length=>i.1)
  refine this.trans ?_
  have:(List.finRange l.length).map (fun i:Fin l.length=>i.1)=List.range l.length:=List.ext_getElem (by simp) (by simp)
  rw[this]
 ·rw[hpi]
  refine dj o fun b hb=>?_
  simp[af]at hb
  subst hb;exact Go.Sort.heap_grow_old _ _ (by simpa[Go.Sort.putRow,Go.Sort.mapBlock,Go.Sort.ahead]using hlt)
 ·rw[hS,List.map_map];rfl
 ·simp[sortWorld,Go.Sort.grow,Go.Sort.putRow,Go.Sort.mapBlock,Go.Sort.ahead]
 ·have hg:b≠g:=fun hc=>hne (by rw[hc];rfl)
  unfold sortWorld;rw[Go.Sort.heap_grow_old _ _ (by simpa[Go.Sort.putRow,Go.Sort.mapBlock,Go.Sort.ahead]using hb)]
  simp[Go.Sort.putRow,Go.Sort.mapBlock,Go.Sort.ahead,Array.getElem?_modify,Ne.symm hg]
theorem Ms(l:List (List (List Int)))(hr1:l.length<=1099511627776)(hr2:∀r∈l,bK r):Io Tryz.prog 134 135 l (cS l):=by
 intro w e e2 e3 nd hO hnd
 have hlen:(aO nd).length=l.length:=(ia hO).trans (Nat.mul_one _)
 obtain⟨t1,t2,t3,t4⟩:=hO;have kid:∀i u,(aO nd)[i]?=some u->bg w [e2,e3] u (.rows .i64 (l.getD i [])):=fun i u hu=>t4 i u _ hu rfl
 have hne:∀u∈aO nd,∀b∈aJ 2 u,b<w.heap.size/\af (az nd)≠some b:=fun u hu b hb=>by
  obtain⟨i,hi⟩:=List.getElem?_of_mem hu;refine⟨bg.block (kid i u hi) b hb,fun hc=>?_⟩
  rw[dm,List.nodup_append]at hnd;exact hnd.2.2 b (by rw[hc];simp) b (List.mem_flatMap.2 ⟨u,hu,hb⟩) rfl
 refine Calls.mono (Mr l hr1 hr2 w e (az nd) ((aO nd).map az) t3 (by simpa using hlen) (fun u hu=>?_) (fun i u W hu hi hk=>?_)) ?_
 ·obtain⟨x,hx,rfl⟩:=List.mem_map.1 hu
  obtain⟨i,hi⟩:=List.getElem?_of_mem hx;exact(kid i x hi).one
 ·rw[List.getElem?_map]at hu
  cases hx:(aO nd)[i]? with
  |none=>rw[hx]at hu;cases hu
  |some x =>
   rw[hx]at hu;cases hu;have hm:=List.mem_of_getElem? hx
   exact(bg.keep (kid i x hx) fun b hb=>hk b (hne x hm b hb).1 (hne x hm b hb).2).reads
 ·rintro r w' ⟨rfl,π,p1,p2,p3,p4,p5,p6,p7,p8⟩
  have hπ:∀i∈π,i<l.length:=fun i hi=>by simpa using p1.mem_iff.1 hi
  have hπl:π.length=l.length:=by simpa using p1.length_eq
  have hh:(π.map fun i=>(aO nd).getD i undef).map az=π.map fun i=>((aO nd).map az).getD i undef:=by
   rw[List.map_map];refine List.map_congr_left fun i hi=>?_
   have:=hπ i hi
   simp[List.getD,hlen,this]
  have hkk:(π.map fun i=>(aO nd).getD i undef).Perm (aO nd):=by
   refine(p1.map _).trans ?_
   have:(List.range l.length).map (fun i=>(aO nd).getD i undef)=aO nd:=by
    apply List.ext_getElem
    ·simp[hlen]
    ·intro i a b
     simp[List.getD,b]
   rw[this]
  refine⟨rfl,_,⟨rfl,rfl,?_,fun i u x hu hx=>?_⟩,hkk,p4,p5,p6,p7,p8⟩
  ·show w'.ownsRow 0 e 1 (az nd) (cS l).length ((π.map fun i=>(aO nd).getD i undef).map az)
   rw[hh,qP];exact p2
  ·have hu:(π.map fun i=>(aO nd).getD i undef)[i]?=some u:=hu
   rw[List.getElem?_map]at hu;cases hj:π[i]? with
   |none=>rw[hj]at hu;cases hu
   |some j =>
    rw[hj]at hu;cases hu;have hjl:=hπ j (List.mem_of_getElem? hj)
    have hkj:(aO nd)[j]?=some ((aO nd).getD j undef):=by simp[List.getD,hlen,hjl]
    have hx:some (FC.rows .i64 ((cS l).getD i []))=some x:=hx
    cases hx;have e1:(cS l).getD i []=l.getD j []:=by rw[p3];simp[List.getD,hj]
    rw[e1];have hm:=List.mem_of_getElem? hkj
    exact bg.keep (kid j _ hkj) fun b hb=>p8 b (hne _ hm b hb).1 (hne _ hm b hb).2
def nX:List AD->Option Post:=fun ds=>match ds with
 | [.c (.r3 .i64 l)]=>some ⟨l.length<=1099511627776/\∀r∈l,bK r,.c (.tr [135] (.r3 .i64 (cS l))),[]⟩
 |_=>none
theorem Mt:Fits Tryz.prog 134 ⟨[(0,97),(0,97)],nX⟩ where
 fn:=⟨Tryz.f134,Tryz.func134,by kernel_rfl,by kernel_rfl⟩
 run:=fun _ _ _ ds p ms obs h _ _ hm _ hw=>by
  exfalso
  have h:nX ds=some p:=h
  unfold nX at h;split at h
  ·cases h;simp at hw
  ·cases h
 mv:=fun h=>by cases h
 gr:=fun h=>by cases h
 so:=fun _=>⟨fun l q g x l' ws h=>(by
  have h:nX [.c (.rows .i64 l)]=some ⟨q,.c (.rows g x .i64 l'),ws⟩:=h
  cases h),fun l q g l' ws h hq=>by
  have h:some (⟨l.length<=1099511627776/\∀r∈l,bK r,.c (.tr [135] (.r3 .i64 (cS l))),[]⟩:Post)=some ⟨q,.c (.tr [g] (.r3 .i64 l')),ws⟩:=h
  simp only[Option.some.injEq,Post.mk.injEq,RV.c.injEq,RC.tr.injEq,List.cons.injEq,and_true,FC.r3.injEq,true_and]at h;obtain⟨h1,⟨h2,h3⟩,_⟩:=h;subst h1;subst h2;subst h3;exact Ms l hq.1 hq.2⟩
 df:=fun h=>by cases h
 st:=fun h=>by cases h
end Go.Sx
end
section
open Go Go.Proofs
namespace Go.Sx
def dh:List Int->List Int->List Bool->List Int×List Bool
 | [],im,us=>(im,us)
 |x::l,im,us=>dh l (im.set x.toNat (-1)) (us.set (im.getD x.toNat 0).toNat false)
def iN:List Int->List Int->List Bool->Prop
 | [],_,_=>True
 |x::l,im,us=>(0<=x/\x<(im.length:Int))/\(0<=im.getD x.toNat 0/\im.getD x.toNat 0<(us.length:Int))/\iN l (im.set x.toNat (-1)) (us.set (im.getD x.toNat 0).toNat false)
def EA(fr:List (List (List Int)))(tt:List (List (List Int)))(im:List Int)(us:List Bool)(st:List Int)(c:Int):SV:=.tup []
def EB(fr:List (List (List Int)))(tt:List (List (List Int)))(im:List Int)(us:List Bool)(st:List Int)(c:Int):List MA:=[.box [.c (.r3 .i64 fr),.c (.r3 .i64 tt),.ob (.ints 2 .i64 ((dh (st.drop c.toNat) im us).1)),.ob (.bools 4 ((dh (st.drop c.toNat) im us).2)),.ob (.ints 2 .i64 ((st.take c.toNat)))],.m (.c (.int .i64 c))]
def EC(fr:List (List (List Int)))(tt:List (List (List Int)))(im:List Int)(us:List Bool)(st:List Int)(c:Int):List (Nat×Ob):=[]
def qQ(fr:List (List (List Int)))(tt:List (List (List Int)))(im:List Int)(us:List Bool)(st:List Int)(c:Int):Post:=⟨0<=c/\c<=(st.length:Int)/\st.length<=1000/\iN (st.drop c.toNat) im us,.st (EA fr tt im us st c) (EC fr tt im us st c) (EB fr tt im us st c),[]⟩
def qR:List AD->Option Post
 | [.ma (.box [.c (.r3 .i64 fr),.c (.r3 .i64 tt),.ob (.ints 2 .i64 im),.ob (.bools 4 us),.ob (.ints 2 .i64 st)]),.ma (.m (.c (.int .i64 c)))]=>some (qQ fr tt im us st c)
 |_=>none
def ED(fr:List (List (List Int)))(tt:List (List (List Int)))(im:List Int)(us:List Bool)(st:List Int)(c:Int):Nat->Option Ann
 |0=>some (Ann.mk ((Nat)×(List Int)×(List Bool)) (fun x=>match x with|(i,a,b)=>⟨[(0,.c (.ptr 7000 0)),(1,.c (.int .i64 c)),(11,.c (.sub 7005 (Int.toNat c) (List.length st-Int.toNat c))),(12,.c (.int .i64 (((List.length st-Int.toNat c:Nat):Int)))),(13,.c (.int .i64 ((i:Int))))],[(7000,some (.box [.ro (.r3 .i64 fr),.ro (.r3 .i64 tt),.own 7003,.own 7004,.own 7005])),(7003,some (.ints 2 .i64 a)),(7004,some (.bools 4 b)),(7005,some (.ints 2 .i64 st))]⟩) (fun x=>match x with|(i,a,b)=>i<=st.length-c.toNat/\dh ((st.drop c.toNat).drop i) a b=dh (st.drop c.toNat) im us/\iN ((st.drop c.toNat).drop i) a b) (fun x=>match x with|(i,a,b)=>st.length-i) (fun _=>av))
 |_=>none
def EE(t:Nat):Bool:=[4000042].contains t
def EF:List (Nat×Ctr):=[]
def wL(fr:List (List (List Int)))(tt:List (List (List Int)))(im:List Int)(us:List Bool)(st:List Int)(c:Int):Prop :=
 (ax st.length (Option.some c) Option.none/\((∃x0:Nat×List Int×List Bool,(x0.1<=st.length-c.toNat/\dh (List.drop x0.1 (List.drop c.toNat st)) x0.2.1 x0.2.2=dh (List.drop c.toNat st) im us/\iN (List.drop x0.1 (List.drop c.toNat st)) x0.2.1 x0.2.2)/\c=c/\c.toNat=c.toNat/\st.length-c.toNat=st.length-c.toNat/\(↑(st.length-c.toNat):Int)=(↑(st.length-c.toNat):Int)/\(0:Int)=(↑x0.1:Int)/\fr=fr/\tt=tt/\im=x0.2.1/\us=x0.2.2/\st=st)/\(∀x1:Nat×List Int×List Bool,(x1.1<=st.length-c.toNat/\dh (List.drop x1.1 (List.drop c.toNat st)) x1.2.1 x1.2.2=dh (List.drop c.toNat st) im us/\iN (List.drop x1.1 (List.drop c.toNat st)) x1.2.1 x1.2.2->(ae (decide ((↑x1.1:Int)<(↑(st.length-c.toNat):Int))) (ab (↑x1.1:Int) (st.length-c.toNat)/\(ab (st.getD (c.toNat+(↑x1.1:Int).toNat) (0:Int)) x1.2.1.length/\(ab (x1.2.1.getD ((st.getD (c.toNat+(↑x1.1:Int).toNat) (0:Int)).toNat) (0:Int)) x1.2.2.length/\(ab (st.getD (c.toNat+(↑x1.1:Int).toNat) (0:Int)) x1.2.1.length/\(ac ((↑x1.1:Int)+(1:Int))/\(∃x2:Nat×List Int×List Bool,((x2.1<=st.length-c.toNat/\dh (List.drop x2.1 (List.drop c.toNat st)) x2.2.1 x2.2.2=dh (List.drop c.toNat st) im us/\iN (List.drop x2.1 (List.drop c.toNat st)) x2.2.1 x2.2.2)/\(st.length-x2.1<st.length-x1.1/\(c=c/\((c.toNat=c.toNat) /\
 ((st.length-c.toNat=st.length-c.toNat)/\(((↑(st.length-c.toNat):Int)=(↑(st.length-c.toNat):Int))/\(((↑x1.1:Int)+(1:Int)=(↑x2.1:Int))/\((fr=fr)/\((tt=tt)/\((List.set x1.2.1 ((st.getD (c.toNat+(↑x1.1:Int).toNat) (0:Int)).toNat) (-1:Int)=x2.2.1)/\((List.set x1.2.2 ((x1.2.1.getD ((st.getD (c.toNat+(↑x1.1:Int).toNat) (0:Int)).toNat) (0:Int)).toNat) false=x2.2.2)/\(st=st)))))))))))))))))) ((((0:Int)<=c)/\(c<=(st.length:Int)))/\((fr=fr)/\((tt=tt)/\((x1.2.1=(dh (List.drop c.toNat st) im us).1)/\((x1.2.2=(dh (List.drop c.toNat st) im us).2)/\(List.take c.toNat st=List.take c.toNat st)))))))))))
theorem Mu(fr:List (List (List Int)))(tt:List (List (List Int)))(im:List Int)(us:List Bool)(st:List Int)(c:Int):kE Tryz.prog (aj EF) EE (ED fr tt im us st c) Tryz.f181 (aP Tryz.f181) [.box [.c (.r3 .i64 fr),.c (.r3 .i64 tt),.ob (.ints 2 .i64 im),.ob (.bools 4 us),.ob (.ints 2 .i64 st)],.m (.c (.int .i64 c))] (EA fr tt im us st c) (gn 0 (EB fr tt im us st c)++gK (EC fr tt im us st c))=wL fr tt im us st c:=by kernel_rfl
theorem Mv(fr:List (List (List Int)))(tt:List (List (List Int)))(im:List Int)(us:List Bool)(st:List Int)(c:Int)(Yh:(qQ fr tt im us st c).pre):wL fr tt im us st c:=by
 simp only[qQ,wL,aX,u1,u2,u3,u4,u5,u6,u7,u8,u9,v1,v2,v3,v4,v5,v6,v7,v8,v9,w1,w2,w3,w4,aN,ab,ac,ah,ax]at Yh⊢;obtain⟨h1,h2,h3,h4⟩:=Yh;refine⟨⟨h1,h2⟩,⟨(0,im,us),⟨by omega,by simp,by simpa using h4⟩,by simp⟩,?_⟩
 rintro⟨i,a,b⟩ ⟨hi,hF,hO⟩
 simp only at hi hF hO⊢;refine⟨fun hlt=>?_,fun hge=>?_⟩
 ·have hi2:i<st.length-c.toNat:=by omega
  have hd:(st.drop c.toNat).drop i=st.getD (c.toNat+i) 0::(st.drop c.toNat).drop (i+1):=by
   rw[drop_cons' (st.drop c.toNat) 0 i (by rw[List.length_drop];omega)]
   congr 1
   simp[List.getD,List.getElem?_drop]
  rw[hd]at hF hO;simp only[dh]at hF;obtain⟨q1,q2,q3⟩:=hO;refine⟨⟨by omega,by omega⟩,q1,q2,q1,by constructor<;>omega,(i+1,a.set (st.getD (c.toNat+i) 0).toNat (-1),b.set (a.getD (st.getD (c.toNat+i) 0).toNat 0).toNat false),⟨by omega,hF,q3⟩,by omega,by simp,rfl,rfl⟩
 ·have hi2:i=st.length-c.toNat:=by omega
  have hd:(st.drop c.toNat).drop i=[]:=List.drop_eq_nil_of_le (by rw[List.length_drop];omega)
  rw[hd]at hF;simp only[dh]at hF;refine⟨⟨h1,h2⟩,by rw[<-hF],by rw[<-hF]⟩
theorem Mw:Fits Tryz.prog 181 ⟨[(0,93),(0,93)],qR⟩:=by
 refine nL (Γ:=aj EF) aW Tryz.func181 (by kernel_rfl) (by kernel_rfl) (fun ads p h=>?_) fun mas q sv ex outs h hq=>?_
 ·unfold qR at h
  split at h
  ·cases h;rfl
  ·cases h
 ·unfold qR at h
  split at h
  ·rename_i heq
   have heq:=md (l:=[_,_]) heq
   subst heq;unfold qQ at h;cases h;exact⟨EE,ED _ _ _ _ _ _ ,by rw[Mu];exact Mv _ _ _ _ _ _  hq⟩
  ·cases h
theorem Mx(t:List (List Int))(f:List Int->Bool):t.all f=(List.range t.length).all fun x=>f (t.getD x []):=by
 rw[Bool.eq_iff_iff,List.all_eq_true,List.all_eq_true]
 constructor
 ·intro h x hx
  rw[List.mem_range]at hx;exact h _ (bO t [] x hx)
 ·intro h r hr
  obtain⟨k,hk,rfl⟩:=List.getElem_of_mem hr;have:=h k (by simpa using hk)
  rwa[bG _ _ _ hk]at this
def EG(t:List (List Int))(x y z:Nat):Bool:=decide (en t (en t x y).toNat z=en t x (en t y z).toNat)
def EH(t:List (List Int))(x y:Nat):Bool:=(List.range t.length).all (EG t x y)
def EI(t:List (List Int))(x:Nat):Bool:=(List.range t.length).all (EH t x)
def EJ(t:List (List Int))(x:Nat):Bool:=decide (en t 0 x=(x:Int))&&decide (en t x 0=(x:Int))
def EK(t:List (List Int))(x:Nat):Bool:=EJ t x&&EI t x
def f4(t:List (List Int)):Bool:=g9 t&&(t.all mT&&(List.range t.length).all (EK t))
theorem qS{t:List (List Int)}(h:f4 t=true):g9 t=true:=by
 rw[f4,Bool.and_eq_true]at h;exact h.1
def bk(t:List (List Int))(x:Nat):Int:=bd 0 (t.getD x []) 0
theorem EL{l:List Int}(h:mT l=true){x:Int}(h0:0<=x)(h1:x<(l.length:Int)):x∈l:=Pg.1 h x h0 h1
end Go.Sx
end
