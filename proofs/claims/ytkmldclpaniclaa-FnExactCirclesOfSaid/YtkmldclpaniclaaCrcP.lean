/- CrcP -/
import Derived.Test.YtkmldclpaniclaaCmp
import Derived.Shelf.SlSortCmp.NoneTotal
import Derived.Lib.OwnBridge
import Derived.Test.YtkmldclpaniclaaCrcG
import Derived.Test.YtkmldclpaniclaaHolL
import Derived.Test.YtkmldclpaniclaaCirP
section
open Go Go.Proofs Go.RowKit Go.Shelf
namespace Go.Sx
set_option linter.unusedSimpArgs false
set_option linter.unusedVariables false
def ur:Shelf.Ren:=⟨fun x=>match x with | 6=>52 | 14=>80 | 15=>48 | 20=>101 | 21=>102 | 22=>103 | 23=>104 | 24=>105 | 25=>106 | 26=>107 | 27=>108 | 28=>71 | 29=>72 | 46=>111 | 47=>96 | 48=>97 | 49=>112 | 50=>113 | 57=>114 | _=>0,fun x=>match x with | 0=>0 | 3=>3 | 4=>4 | 5=>5 | 9=>9 | 22=>35 | 24=>22 | 25=>66 | 39=>60 | 45=>78 | 46=>79 | 50=>83 | 53=>86 | 55=>88 | 66=>106 | 70=>110 | 76=>119 | 77=>120 | _=>0,fun x=>x⟩
set_option maxRecDepth 100000
theorem Bp:SlLaysF.n6 Try.prog ur where
 mixed:=by kernel_rfl
 f6:=⟨Try.f52.name,by kernel_rfl,by kernel_rfl⟩
 f14:=⟨Try.f80.name,by kernel_rfl,by kernel_rfl⟩
 f15:=by kernel_rfl
 f20:=⟨Try.f101.name,by kernel_rfl,by kernel_rfl⟩
 f21:=⟨Try.f102.name,by kernel_rfl,by kernel_rfl⟩
 f22:=⟨Try.f103.name,by kernel_rfl,by kernel_rfl⟩
 f23:=⟨Try.f104.name,by kernel_rfl,by kernel_rfl⟩
 f24:=⟨Try.f105.name,by kernel_rfl,by kernel_rfl⟩
 f25:=⟨Try.f106.name,by kernel_rfl,by kernel_rfl⟩
 f26:=⟨Try.f107.name,by kernel_rfl,by kernel_rfl⟩
 f27:=⟨Try.f108.name,by kernel_rfl,by kernel_rfl⟩
 f28:=by kernel_rfl
 f29:=by kernel_rfl
 f46:=⟨Try.f111.name,by kernel_rfl,by kernel_rfl⟩
 f47:=by kernel_rfl
 f48:=by kernel_rfl
 f49:=⟨Try.f112.name,by kernel_rfl,by kernel_rfl⟩
 f50:=⟨Try.f113.name,by kernel_rfl,by kernel_rfl⟩
 f57:=⟨Try.f114.name,by kernel_rfl,by kernel_rfl⟩
 t0:=by kernel_rfl
 a0:=fun w=>by kernel_rfl
 z0:=fun w=>by kernel_rfl
 v0:=fun w=>by kernel_rfl
 t3:=by kernel_rfl
 a3:=fun w=>by kernel_rfl
 z3:=fun w=>by kernel_rfl
 v3:=fun w=>by kernel_rfl
 t4:=by kernel_rfl
 a4:=fun w=>by kernel_rfl
 z4:=fun w=>by kernel_rfl
 v4:=fun w=>by kernel_rfl
 t5:=by kernel_rfl
 a5:=fun w=>by kernel_rfl
 z5:=fun w=>by kernel_rfl
 v5:=fun w=>by kernel_rfl
 t9:=by kernel_rfl
 a9:=fun w=>by kernel_rfl
 z9:=fun w=>by kernel_rfl
 v9:=fun w=>by kernel_rfl
 t22:=by kernel_rfl
 a22:=fun w=>by kernel_rfl
 z22:=fun w=>by kernel_rfl
 v22:=fun w=>by kernel_rfl
 a24:=fun w=>by kernel_rfl
 z24:=fun w=>by kernel_rfl
 t25:=by kernel_rfl
 a25:=fun w=>by kernel_rfl
 z25:=fun w=>by kernel_rfl
 v25:=fun w=>by kernel_rfl
 t39:=by kernel_rfl
 a39:=fun w=>by kernel_rfl
 z39:=fun w=>by kernel_rfl
 v39:=fun w=>by kernel_rfl
 t45:=by kernel_rfl
 a45:=fun w=>by kernel_rfl
 z45:=fun w=>by kernel_rfl
 v45:=fun w=>by kernel_rfl
 t46:=by kernel_rfl
 a46:=fun w=>by kernel_rfl
 z46:=fun w=>by kernel_rfl
 v46:=fun w=>by kernel_rfl
 t50:=by kernel_rfl
 a50:=fun w=>by kernel_rfl
 z50:=fun w=>by kernel_rfl
 v50:=fun w=>by kernel_rfl
 t53:=by kernel_rfl
 a53:=fun w=>by kernel_rfl
 z53:=fun w=>by kernel_rfl
 v53:=fun w=>by kernel_rfl
 t55:=by kernel_rfl
 a55:=fun w=>by kernel_rfl
 z55:=fun w=>by kernel_rfl
 v55:=fun w=>by kernel_rfl
 t66:=by kernel_rfl
 a66:=fun w=>by kernel_rfl
 z66:=fun w=>by kernel_rfl
 v66:=fun w=>by kernel_rfl
 t70:=by kernel_rfl
 a70:=fun w=>by kernel_rfl
 z70:=fun w=>by kernel_rfl
 v70:=fun w=>by kernel_rfl
 t76:=by kernel_rfl
 a76:=fun w=>by kernel_rfl
 z76:=fun w=>by kernel_rfl
 v76:=fun w=>by kernel_rfl
 t77:=by kernel_rfl
 a77:=fun w=>by kernel_rfl
 z77:=fun w=>by kernel_rfl
 v77:=fun w=>by kernel_rfl
structure CmpOk {α:Type} (c:α→α→Int):Prop where
 anti:∀x y,c x y=- c y x
 zero:∀x y,c x y=0↔x=y
 le:∀x y z,c x y≤0→c y z≤0→c x z≤0
theorem ut:CmpOk bG where
 anti x y:=by
  unfold bG
  (repeat' split) <;> omega
 zero x y:=HY
 le x y z:=by
  unfold bG
  (repeat' split) <;> omega
theorem CmpOk.lists {α:Type} {c:α→α→Int} (h:CmpOk c):CmpOk (bf c) where
 anti:=by
  intro a
  induction a with
  | nil=>intro b;cases b <;> rfl
  | cons x a ih =>
   intro b
   cases b with
   | nil=>rfl
   | cons y b =>
    simp only [bf];have h1:=h.anti x y
    by_cases h0:c x y=0
    ·rw [if_pos h0,if_pos (by omega),ih b]
    ·rw [if_neg h0,if_neg (by omega),h1]
 zero a b:=A3 (fun x y=>h.zero x y)
 le:=by
  intro a
  induction a with
  | nil=>intro b d _ _;cases d <;> simp [bf]
  | cons x a ih =>
   intro b d h1 h2
   cases b with
   | nil=>simp [bf] at h1
   | cons y b =>
    cases d with
    | nil=>simp [bf] at h2
    | cons z d =>
     simp only [bf] at h1 h2 ⊢;have a1:=h.anti x y
     have a2:=h.anti y z
     have a3:=h.anti x z
     have z1:=h.zero x y
     have z2:=h.zero y z
     have z3:=h.zero x z
     by_cases e1:c x y=0
     ·have e1':=z1.1 e1
      subst e1';rw [if_pos e1] at h1;by_cases e2:c x z=0
      ·rw [if_pos e2] at h2 ⊢
       exact ih b d h1 h2
      ·rw [if_neg e2] at h2 ⊢
       exact h2
     ·rw [if_neg e1] at h1
      have l1:c x z≤0:=by
       by_cases e2:c y z=0
       ·rw [z2.1 e2] at h1;exact h1
       ·rw [if_neg e2] at h2
        exact h.le x y z h1 h2
      by_cases e3:c x z=0
      ·have e3':=z3.1 e3
       subst e3';have a4:=h.anti x y
       by_cases e2:c y x=0
       ·omega
       ·rw [if_neg e2] at h2;omega
      ·rw [if_neg e3];exact l1
theorem CmpOk.lt {α:Type} {c:α→α→Int} (h:CmpOk c) {x y z:α} (h1:c x y<0) (h2:c y z<0):c x z<0:=by
 have l:=h.le x y z (by omega) (by omega)
 refine Classical.byContradiction fun hc=>?_
 have e:=(h.zero x z).1 (by omega)
 subst e;have:=h.anti x y
 omega
def gZ:List (List Int)→List (List Int)→Int:=bf (bf bG)
theorem gB:CmpOk gZ:=ut.lists.lists
def fC (l:List (List (List Int))) (i j:Fin l.length):Int:=gZ (l.getD i.1 []) (l.getD j.1 [])
theorem uu (l:List (List (List Int))):Go.Sort.SWO (fun i j=>decide (fC l i j<0)) where
 irrefl:=fun x=>by
  have:gZ (l.getD x.1 []) (l.getD x.1 [])=0:=(gB.zero _ _).2 rfl
  show decide (fC l x x<0)=false
  rw [fC,this];rfl
 trans:=fun x y z h1 h2=>by
  rw [decide_eq_true_eq] at h1 h2 ⊢;exact gB.lt h1 h2
 ntrans:=fun x y z h1 h2=>by
  rw [decide_eq_false_iff_not] at h1 h2 ⊢;unfold fC at *;have a1:=gB.anti (l.getD x.1 []) (l.getD y.1 [])
  have a2:=gB.anti (l.getD y.1 []) (l.getD z.1 [])
  have a3:=gB.anti (l.getD x.1 []) (l.getD z.1 [])
  have:=gB.le (l.getD z.1 []) (l.getD y.1 []) (l.getD x.1 []) (by omega) (by omega)
  omega
def dV (l:List (List (List Int))) (h:0<l.length):Array (Fin l.length) :=
 letI:Inhabited (Fin l.length):=⟨⟨0,h⟩⟩
 Go.Sort.pdq (fun i j=>decide (fC l i j<0)) (List.finRange l.length).toArray 0 (List.finRange l.length).toArray.size (Lib.bitLen (List.finRange l.length).toArray.size) true true
def cM (l:List (List (List Int))):List (List (List Int)):=if h:0<l.length then (dV l h).toList.map (fun i=>l.getD i.1 []) else []
theorem pe (l:List (List (List Int))) (h:0<l.length):(dV l h).toList.Perm (List.finRange l.length):=by
 letI:Inhabited (Fin l.length):=⟨⟨0,h⟩⟩
 have:=(Go.Sort.pdq_sorts (fun i j=>decide (fC l i j<0)) (uu l) (List.finRange l.length).toArray 0 (List.finRange l.length).toArray.size (Lib.bitLen (List.finRange l.length).toArray.size) true true (Nat.zero_le _) (Nat.le_refl _) (Or.inl rfl)).1
 obtain ⟨h1,_,h3⟩:=this;have e1:∀(d:Array (Fin l.length)),d.extract 0 d.size=d:=fun d=>by simp
 rw [e1] at h3;have h4:((dV l h).extract 0 (List.finRange l.length).toArray.size).toList.Perm (List.finRange l.length).toArray.toList:=h3
 rw [←show (dV l h).size=(List.finRange l.length).toArray.size from h1,e1] at h4
 simpa using h4
theorem pf (l:List (List (List Int))):(cM l).length=l.length:=by
 unfold cM;split
 ·rename_i h
  rw [List.length_map,(pe l h).length_eq];simp
 ·show 0=l.length
  omega
theorem Is (l:List (List (List Int))) (hr1:l.length≤1099511627776) (hr2:∀r∈l,bk r) (w:World) (e:TypeId) (v:Value) (ins:List Value) (h1:w.ownsRow 0 e 1 v l.length ins) (h2:ins.length=l.length) (hone0:∀u∈ins,u.oneCell'=true)
  (hrd:∀(i:Nat) (u:Value) (W:World),ins[i]?=some u→i<l.length→(∀b,b<w.heap.size→ab v≠some b→W.heap[b]?=w.heap[b]?)→aX W u (.rows .i64 (l.getD i []))) :
  Calls Try.prog 52 #[v,.func (.func 53) #[] #[]] w fun r w'=>r=.returned (.tuple #[])∧∃π:List Nat,π.Perm (List.range l.length)∧w'.ownsRow 0 e 1 v l.length (π.map fun i=>ins.getD i undef)∧cM l=π.map (fun i=>l.getD i []) ∧
   OsD w w'∧w'.tape=w.tape∧w'.output=w.output∧w.heap.size≤w'.heap.size∧∀b,b<w.heap.size→ab v≠some b→w'.heap[b]?=w.heap[b]?:=by
 by_cases h0:0<l.length
 case neg =>
  have hl:l=[]:=List.eq_nil_of_length_eq_zero (by omega)
  subst hl;have hi:ins=[]:=List.eq_nil_of_length_eq_zero h2
  subst hi;have hv:∃p cap,v=.slice p 0 cap:=by
   rcases h1.2 with ⟨e0,_⟩ | ⟨g,cap,cur,e0,_⟩
   ·exact ⟨_,_,e0⟩
   ·exact ⟨_,_,e0⟩
  obtain ⟨p,cap,rfl⟩:=hv;refine (AnyF.slices_SortFunc_none (P:=Try.prog) (ρ:=ur) { Bp with } p cap _ w).mono ?_
  rintro r w' ⟨rfl,rfl⟩
  exact ⟨rfl,[],by simp,h1,rfl,.refl _,rfl,rfl,Nat.le_refl _,fun _ _ _=>rfl⟩
 case pos =>
 letI:Inhabited (Fin l.length):=⟨⟨0,h0⟩⟩
 let enc:Fin l.length→Value:=fun i=>ins.getD i.1 undef
 have hz:(List.finRange l.length).map enc=ins:=by
  apply List.ext_getElem
  ·simp [h2]
  ·intro i a b
   simp [enc,List.getD,List.getElem?_eq_getElem b]
 have hone:∀i:Fin l.length,(enc i).oneCell'=true:=fun i=>by
  have hi:i.1<ins.length:=by rw [h2];exact i.2
  show (ins.getD i.1 undef).oneCell'=true
  rw [List.getD,List.getElem?_eq_getElem hi];exact hone0 _ (List.getElem_mem hi)
 rw [←hz] at h1;have hne:v≠.slice none 0 0:=fun hv=>by
  rcases h1.2 with ⟨_,hn⟩ | ⟨g,cap,cur,h5,_⟩
  ·omega
  ·rw [hv] at h5;cases h5
 obtain ⟨g,cap,rfl,_,hlt,hn,hm,hzl,hH⟩:=Lib.holds_of_ownsRow h1 hne;have hn0:∀i:Fin l.length,i.1<ins.length:=fun i=>by rw [h2];exact i.2
 obtain ⟨fn,k1,k2,k3⟩:=uh.fn;have hsz:(List.finRange l.length).toArray.size=l.length:=by simp
 have hcmp:CmpLays1 Try.prog 53 #[] enc (fC l) g 0 (List.finRange l.length).toArray.size w:=by
  intro m os dk hdk x y
  have keep:∀b,b<w.heap.size→b≠g→(sortWorld enc w g 0 m dk os).heap[b]?=w.heap[b]?:=fun b hb hne=>by
   unfold sortWorld;rw [Go.Sort.heap_grow_old _ _ (by simpa [Go.Sort.putRow,Go.Sort.mapBlock,Go.Sort.ahead] using hb)]
   simp [Go.Sort.putRow,Go.Sort.mapBlock,Go.Sort.ahead,Array.getElem?_modify,Ne.symm hne]
  have rd:∀i:Fin l.length,aX (sortWorld enc w g 0 m dk os) (enc i) (.rows .i64 (l.getD i.1 [])):=fun i =>
   hrd i.1 (enc i) _ (by simp [enc,List.getD,List.getElem?_eq_getElem (hn0 i)]) i.2 fun b hb hne=>keep b hb fun hc=>hne (by rw [hc];rfl)
  have:=uh.run (sortWorld enc w g 0 m dk os) (sortWorld enc w g 0 m dk os) [enc x,enc y] [.c (.rows .i64 (l.getD x.1 [])),.c (.rows .i64 (l.getD y.1 []))] _ [] [] rfl
   ⟨hr2 _ (bN l [] x.1 x.2),hr2 _ (bN l [] y.1 y.2)⟩ rfl rfl rfl rfl (by simp) (by simp) (by simp) (fun q u hq=>⟨hq,by simp⟩) (fun i d hi=>by
    match i,hi with
    | 0,hi=>cases hi;exact ⟨enc x,rfl,hone x,rd x⟩
    | 1,hi=>cases hi;exact ⟨enc y,rfl,hone y,rd y⟩
    | i+2,hi=>simp at hi)
  refine Calls.mono this ?_
  rintro e0 w' ⟨v0,ms',img,wG,rfl,haft,_,_,_,hret⟩
  have hv:v0=.int .i64 (fC l x y):=hret.val
  subst hv;refine ⟨rfl,w'.drawn - (sortWorld enc w g 0 m dk os).drawn,w'.heap.extract (sortWorld enc w g 0 m dk os).heap.size w'.heap.size,?_⟩
  generalize hW:sortWorld enc w g 0 m dk os=W at *
  have hheap:w'.heap=W.heap++w'.heap.extract W.heap.size w'.heap.size:=by
   apply Array.ext_getElem?
   intro i
   by_cases hi:i<W.heap.size
   ·rw [Array.getElem?_append_left hi,haft.block i hi (by simp)]
   ·rw [Array.getElem?_append_right (by omega),Array.getElem?_extract]
    split
    ·congr 1;omega
    ·rw [Array.getElem?_eq_none (by omega)]
  have hd:=haft.os.drawn
  cases w' with
  | mk heap tape drawn os' output =>
   simp only [Go.Sort.grow,World.drewN] at *;have e1:=haft.os.os
   have e2:=haft.tape
   have e3:=haft.output
   simp only at e1 e2 e3;rw [←hheap,e1,e2,e3,show W.drawn+(drawn - W.drawn)=drawn by omega]
 have hcall:=Any.slices_SortFunc_eq (P:=Try.prog) (ρ:=ur) Bp enc hone (fC l) (uu l) 53 #[] g 0 cap (List.finRange l.length).toArray w (fun args w=>mE k1 k2 k3 args) hcmp hH hlt (by rw [hsz];omega)
 rw [hsz] at hcall;refine Calls.mono hcall ?_
 rintro r w' ⟨rfl,n,os,rfl⟩
 refine ⟨rfl,?_⟩
 have hD:Go.Sort.pdq (ltOf (fC l)) (List.finRange l.length).toArray 0 l.length (Lib.bitLen l.length) true true=dV l h0:=by
  unfold dV;rw [hsz];rfl
 rw [hD];have hDp:=pe l h0
 have hDl:(dV l h0).toList.length=l.length:=by rw [hDp.length_eq];simp
 have hS:cM l=(dV l h0).toList.map (fun i=>l.getD i.1 []):=by unfold cM;rw [dif_pos h0]
 have hSl:=pf l
 generalize dV l h0=D at *
 have o:=Lib.ownsRow_putRow (q:=n) (k:=l.length) h1 (ys:=D.toList) hDl (Nat.le_refl _)
 rw [List.take_of_length_le (by omega),Array.toArray_toList] at o
 have hpi:(D.toList.map (fun i:Fin l.length=>i.1)).map (fun i=>ins.getD i undef)=D.toList.map enc:=by rw [List.map_map];rfl
 refine ⟨D.toList.map (fun i=>i.1),?_,?_,?_,⟨rfl,Nat.le_add_right _ _⟩,rfl,rfl,?_,fun b hb hne=>?_⟩
 ·have:=hDp.map (fun i:Fin l.length=>i.1)
  refine this.trans ?_
  have:(List.finRange l.length).map (fun i:Fin l.length=>i.1)=List.range l.length:=List.ext_getElem (by simp) (by simp)
  rw [this]
 ·rw [hpi]
  refine cK o fun b hb=>?_
  simp [ab] at hb
  subst hb;exact Go.Sort.heap_grow_old _ _ (by simpa [Go.Sort.putRow,Go.Sort.mapBlock,Go.Sort.ahead] using hlt)
 ·rw [hS,List.map_map];rfl
 ·simp [sortWorld,Go.Sort.grow,Go.Sort.putRow,Go.Sort.mapBlock,Go.Sort.ahead]
 ·have hg:b≠g:=fun hc=>hne (by rw [hc];rfl)
  unfold sortWorld;rw [Go.Sort.heap_grow_old _ _ (by simpa [Go.Sort.putRow,Go.Sort.mapBlock,Go.Sort.ahead] using hb)]
  simp [Go.Sort.putRow,Go.Sort.mapBlock,Go.Sort.ahead,Array.getElem?_modify,Ne.symm hg]
theorem It (l:List (List (List Int))) (hr1:l.length≤1099511627776) (hr2:∀r∈l,bk r):FU Try.prog 52 53 l (cM l):=by
 intro w e e2 e3 nd hO hnd
 have hlen:(aU nd).length=l.length:=jm hO
 obtain ⟨t1,t2,t3,t4⟩:=hO;have kid:∀i u,(aU nd)[i]?=some u→bd w [e2,e3] u (.rows .i64 (l.getD i [])):=fun i u hu=>t4 i u _ hu rfl
 have hne:∀u∈aU nd,∀b∈aN 2 u,b<w.heap.size∧ab (ay nd)≠some b:=fun u hu b hb=>by
  obtain ⟨i,hi⟩:=List.getElem?_of_mem hu;refine ⟨bd.block (kid i u hi) b hb,fun hc=>?_⟩
  rw [dn,List.nodup_append] at hnd;exact hnd.2.2 b (by rw [hc];simp) b (List.mem_flatMap.2 ⟨u,hu,hb⟩) rfl
 refine Calls.mono (Is l hr1 hr2 w e (ay nd) ((aU nd).map ay) t3 (by simpa using hlen) (fun u hu=>?_) (fun i u W hu hi hk=>?_)) ?_
 ·obtain ⟨x,hx,rfl⟩:=List.mem_map.1 hu
  obtain ⟨i,hi⟩:=List.getElem?_of_mem hx;exact (kid i x hi).one
 ·rw [List.getElem?_map] at hu
  cases hx:(aU nd)[i]? with
  | none=>rw [hx] at hu;cases hu
  | some x =>
   rw [hx] at hu;cases hu;have hm:=List.mem_of_getElem? hx
   exact (bd.keep (kid i x hx) fun b hb=>hk b (hne x hm b hb).1 (hne x hm b hb).2).reads
 ·rintro r w' ⟨rfl,π,p1,p2,p3,p4,p5,p6,p7,p8⟩
  have hπ:∀i∈π,i<l.length:=fun i hi=>by simpa using p1.mem_iff.1 hi
  have hπl:π.length=l.length:=by simpa using p1.length_eq
  have hh:(π.map fun i=>(aU nd).getD i undef).map ay=π.map fun i=>((aU nd).map ay).getD i undef:=by
   rw [List.map_map];refine List.map_congr_left fun i hi=>?_
   have:=hπ i hi
   simp [List.getD,hlen,this]
  have hkk:(π.map fun i=>(aU nd).getD i undef).Perm (aU nd):=by
   refine (p1.map _).trans ?_
   have:(List.range l.length).map (fun i=>(aU nd).getD i undef)=aU nd:=by
    apply List.ext_getElem
    ·simp [hlen]
    ·intro i a b
     simp [List.getD,b]
   rw [this]
  refine ⟨rfl,_,⟨rfl,rfl,?_,fun i u x hu hx=>?_⟩,hkk,p4,p5,p6,p7,p8⟩
  ·show w'.ownsRow 0 e 1 (ay nd) (cM l).length ((π.map fun i=>(aU nd).getD i undef).map ay)
   rw [hh,pf];exact p2
  ·have hu:(π.map fun i=>(aU nd).getD i undef)[i]?=some u:=hu
   rw [List.getElem?_map] at hu;cases hj:π[i]? with
   | none=>rw [hj] at hu;cases hu
   | some j =>
    rw [hj] at hu;cases hu;have hjl:=hπ j (List.mem_of_getElem? hj)
    have hkj:(aU nd)[j]?=some ((aU nd).getD j undef):=by simp [List.getD,hlen,hjl]
    have hx:some (FC.rows .i64 ((cM l).getD i []))=some x:=hx
    cases hx;have e1:(cM l).getD i []=l.getD j []:=by rw [p3];simp [List.getD,hj]
    rw [e1];have hm:=List.mem_of_getElem? hkj
    exact bd.keep (kid j _ hkj) fun b hb=>p8 b (hne _ hm b hb).1 (hne _ hm b hb).2
def mX:List AD→Option Post:=fun ds=>match ds with
 | [.c (.r3 .i64 l)]=>some ⟨l.length≤1099511627776∧∀r∈l,bk r,.c (.tr [53] (.r3 .i64 (cM l))),[]⟩
 | _=>none
theorem Iu:Fits Try.prog 52 ⟨[(0,97),(0,97)],mX⟩ where
 fn:=⟨Try.f52,Try.func52,by kernel_rfl,by kernel_rfl⟩
 run:=fun _ _ _ ds p ms obs h _ _ hm _ hw=>by
  exfalso
  have h:mX ds=some p:=h
  unfold mX at h;split at h
  ·cases h;simp at hw
  ·cases h
 mv:=fun h=>by cases h
 gr:=fun h=>by cases h
 so:=fun _=>⟨fun l q g x l' ws h=>(by
  have h:mX [.c (.rows .i64 l)]=some ⟨q,.c (.rows g x .i64 l'),ws⟩:=h
  cases h),fun l q g l' ws h hq=>by
  have h:some (⟨l.length≤1099511627776∧∀r∈l,bk r,.c (.tr [53] (.r3 .i64 (cM l))),[]⟩:Post)=some ⟨q,.c (.tr [g] (.r3 .i64 l')),ws⟩:=h
  simp only [Option.some.injEq,Post.mk.injEq,RV.c.injEq,RC.tr.injEq,List.cons.injEq,and_true,FC.r3.injEq,true_and] at h;obtain ⟨h1,⟨h2,h3⟩,_⟩:=h;subst h1;subst h2;subst h3;exact It l hq.1 hq.2⟩
 df:=fun h=>by cases h
 st:=fun h=>by cases h
end Go.Sx
end
section
open Go Go.Proofs
namespace Go.Sx
set_option linter.unusedSimpArgs false
set_option linter.unusedVariables false
theorem uv {P:List (List Int)→Prop} {t A L:List (List Int)} {rec:List (List Int)→List (List (List Int))→List (List (List Int))} {fd:List (List (List Int))} (h:∀L' fd',(∀c∈fd',P c)→∀c∈rec L' fd',P c) (h0:∀c∈fd,P c):∀i,∀c∈dg t A L rec fd i,P c
 | 0=>h0
 | i+1=>by
  rw [dg];split
  ·exact h _ _ (uv h h0 i)
  ·exact uv h h0 i
theorem Bq {P:List (List Int)→Prop} {t A:List (List Int)} (hP:∀L,P (gY t L)):∀(d:Nat) (L:List (List Int)) (fd:List (List (List Int))),(∀c∈fd,P c)→∀c∈b9 t A d L fd,P c
 | 0,L,fd,h=>h
 | d+1,L,fd,h=>by
  rw [b9];split
  ·intro c hc
   rcases List.mem_append.1 hc with hc | hc
   ·exact h c hc
   ·rw [List.mem_singleton] at hc
    rw [hc];exact hP L
  ·exact uv (fun L' fd' h'=>Bq hP d L' fd' h') h _
def pg (t:List (List Int)):Post:=⟨bc t=true∧t.length≤7,.c (.tr [22,42,2] (.r3 .i64 (cM (b9 t (bg t) 9 [] [])))),[]⟩
def uw:List AD→Option Post
 | [.c (.rows .i64 (t))]=>some (pg t)
 | _=>none
def Br (t:List (List Int)):Nat→Option Ann
 | 1002=>some (Ann.mk ((Unit)) (fun u=>⟨[(3,.c (.ptr 500 0))],[(500,some (.box [.ro (.rows .i64 (t)),.ro (.rows .i64 ((bg t))),.nil,.nil]))]⟩) (fun u=>True) (fun u=>0) (fun _=>ax))
 | _=>none
def Bs:List (Nat×Ctr):=[(26,⟨[],ve⟩),(51,⟨[(0,93),(0,93)],lB 9⟩),(52,⟨[(0,97),(0,97)],mX⟩),(53,⟨[],uf⟩)]
def lC (t:List (List Int)):=(b9 t (bg t) (9:Nat) ([]:List (List Int)) ([]:List (List (List Int))))
def ux (t:List (List Int)):Prop :=
 ((((((1:Nat)≤t.length)∧((lS (t::([]:List (List (List Int)))) (t::([]:List (List (List Int)))))∧((cW (t::([]:List (List (List Int)))) (t::([]:List (List (List Int))))).length≤(1000000000:Nat))))∧True)∧(∃x0:Unit,(True∧((t=t)∧(cW (t::([]:List (List (List Int)))) (t::([]:List (List (List Int))))=bg t)))))∧(∀x1:Unit,(True→(((t.length≤(7:Nat))∧((bi (t.length) t)∧((gX (t.length) (bg t))∧((gX (t.length) ([]:List (List Int)))∧(((bg t).length≤(49:Nat))∧((([]:List (List Int)).length≤t.length)∧((t.length<(9:Nat)+([]:List (List Int)).length)∧(([]:List (List (List Int))).length+(49:Nat) ^ (t.length - ([]:List (List Int)).length)≤(1099511627776:Nat)))))))))∧(((((lC t).length≤(1099511627776:Nat))∧(∀(r:List (List Int)),r∈b9 t (bg t) (9:Nat) ([]:List (List Int)) ([]:List (List (List Int)))→bk r))∧((cM (lC t)).length=(lC t).length))∧((cM (lC t)=cM (lC t))∧True))))))
theorem Iv (t:List (List Int)):aS Try.prog (ai Bs) aj (Br t) Try.f37 (aM Try.f37) [] [.c (.rows .i64 (t))] (pg t)=ux t:=by kernel_rfl
theorem Iw (t:List (List Int)) (Yh:(pg t).pre):ux t:=by
 simp only [pg,ux,lC,aR,u1,u2,u3,u4,u5,u6,u7,u8,u9,v1,v2,v3,v4,v5,v6,v7,v8,v9,w1,w2,w3,w4,aI,aa,af,ag,aw] at Yh ⊢;obtain ⟨h,hn⟩:=Yh;have G:=pC h
 have hl:=uX G hn
 have hA:(bg t).length≤49:=by rw [←lG G hn];exact hl
 have hpow:(49:Nat) ^ t.length≤49 ^ 7:=Nat.pow_le_pow_right (by omega) hn
 have hpow2:(49:Nat) ^ 7=678223072849:=by decide
 have hlen:=uo (t:=t) hA 9 [] [] (Nat.zero_le _)
 simp only [List.length_nil,Nat.sub_zero,Nat.zero_add] at hlen;have iso:∀p∈bg t,isoL t.length [t] [t] p:=fun p hp=>by
  rw [←lG G hn] at hp;have e:bj [t]=t.length:=rfl
  exact (((kf (lF G hn)).1 p).1 hp).2
 refine ⟨⟨⟨G.pos,lF G hn,by omega⟩,(),lG G hn⟩,fun _ _=>⟨⟨hn,G.tb,fun r hr=>⟨(iso r hr).len,(iso r hr).rng⟩,fun r hr=>(by cases hr),hA,Nat.zero_le _,by omega,by rw [Nat.sub_zero,Nat.zero_add];omega⟩,⟨by omega,Bq (P:=bk) (fun L=>Qx _ _ (by omega)) 9 [] [] (fun c hc=>(by cases hc))⟩,pf _⟩⟩
theorem Ix:Fits Try.prog 37 ⟨[],uw⟩:=by
 refine aY (Γ:=ai Bs) (aC Jy (aC (Ir 9) (aC Iu (aC uh aQ)))) Try.func37 fun ds p h hp=>?_
 unfold uw at h;split at h
 ·cases h
  exact ⟨aj,Br _ ,by rw [Iv];exact Iw _  hp⟩
 ·cases h
structure SolK (n:Nat) (t A:List (List Int)) (K:List Int):Prop where
 len:K.length=n
 rng:∀x,x<n→0≤K.getD x 0∧K.getD x 0<(A.length:Int)
 fit:∀x y,x<n→y<n→K.getD (bu t A K x y) 0=c8 A K x y
def cg (n:Nat) (K K':List Int):Prop:=∀x,x<n→0≤K.getD x 0→K'.getD x 0=K.getD x 0
theorem cg.refl (n:Nat) (K:List Int):cg n K K:=fun _ _ _=>rfl
theorem cg.trans {n:Nat} {a b c:List Int} (h:cg n a b) (k:cg n b c):cg n a c:=fun x hx h0=>by
 have e:=h x hx h0
 rw [k x hx (by rw [e];exact h0),e]
theorem eP {K:List Int} {z x:Nat} {w:Int} (hz:z<K.length):(K.set z w).getD x 0=if x=z then w else K.getD x 0:=by
 by_cases e:x=z
 ·subst e;rw [if_pos rfl];simp [List.getD,hz]
 ·rw [if_neg e];simp [List.getD,List.getElem?_set_ne (Ne.symm e)]
section
variable {n:Nat} {t A:List (List Int)}
theorem SolK.ok {K:List Int} (h:SolK n t A K):KOk n A.length K:=⟨h.len,fun x hx=>by have:=h.rng x hx;omega⟩
theorem cg.zz {K K':List Int} (h:cg n K K') {x y:Nat} (hx:x<n) (h0:0≤K.getD x 0):bu t A K' x y=bu t A K x y:=by
 unfold bu;rw [h x hx h0]
theorem cg.ww {K K':List Int} (h:cg n K K') {x y:Nat} (hx:x<n) (hy:y<n) (h0:0≤K.getD x 0) (h1:0≤K.getD y 0):c8 A K' x y=c8 A K x y:=by
 unfold c8;rw [h x hx h0,h y hy h1]
theorem Iy (ht:bi n t) (hA:AuOk n A) {K S:List Int} (hK:KOk n A.length K) (hS:SolK n t A S) (hs:cg n K S) {x y:Nat} (hx:x<n) (hy:y<n):∃K',eu t A K x y=some K'∧KOk n A.length K'∧cg n K K'∧cg n K' S:=by
 unfold eu;split
 ·exact ⟨K,rfl,hK,.refl _ _,hs⟩
 ·rename_i hn
  have h1:0≤K.getD x 0:=by omega
  have h2:0≤K.getD y 0:=by omega
  have w:=lw hA hK hx hy h1 h2
  have z:=jP ht hA hK hx hy h1
  have f:=hS.fit x y hx hy
  rw [hs.zz hx h1,hs.ww hx hy h1 h2] at f;split
  ·rename_i hz
   have hzl:bu t A K x y<K.length:=by rw [hK.len];exact z.2.2
   refine ⟨_,rfl,hK.set _ ⟨by omega,w.2.2⟩,fun u hu h0=>?_,fun u hu h0=>?_⟩
   ·rw [eP hzl]
    split
    ·rename_i e;subst e;omega
    ·rfl
   ·rw [eP hzl] at h0 ⊢
    split
    ·rename_i e;rw [e];exact f
    ·rename_i e;rw [if_neg e] at h0;exact hs u hu h0
  ·rename_i hz
   have:=hs _ z.2.2 (by omega)
   rw [if_pos (by rw [←this];exact f)]
   exact ⟨K,rfl,hK,.refl _ _,hs⟩
theorem Bt (ht:bi n t) (hA:AuOk n A) {K S:List Int} (hK:KOk n A.length K) (hS:SolK n t A S) (hs:cg n K S) {x:Nat} (hx:x<n):∀y,y≤n→∃K',cS t A K x y=some K'∧KOk n A.length K'∧cg n K K'∧cg n K' S
 | 0,_=>⟨K,rfl,hK,.refl _ _,hs⟩
 | y+1,hy=>by
  obtain ⟨K1,h1,h2,h3,h4⟩:=Bt ht hA hK hS hs hx y (by omega)
  obtain ⟨K2,k1,k2,k3,k4⟩:=Iy ht hA h2 hS h4 hx (y:=y) (by omega)
  exact ⟨K2,by rw [cS,h1];exact k1,k2,h3.trans k3,k4⟩
theorem Bv (ht:bi n t) (hA:AuOk n A) {K S:List Int} (hK:KOk n A.length K) (hS:SolK n t A S) (hs:cg n K S):∀x,x≤n→∃K',dE t A K x=some K'∧KOk n A.length K'∧cg n K K'∧cg n K' S
 | 0,_=>⟨K,rfl,hK,.refl _ _,hs⟩
 | x+1,hx=>by
  obtain ⟨K1,h1,h2,h3,h4⟩:=Bv ht hA hK hS hs x (by omega)
  obtain ⟨K2,k1,k2,k3,k4⟩:=Bt ht hA h2 hS h4 (x:=x) (by omega) t.length (by rw [ht.1];exact Nat.le_refl _)
  exact ⟨K2,by rw [dE,h1];exact k1,k2,h3.trans k3,k4⟩
theorem uy (ht:bi n t) (hA:AuOk n A) {S:List Int} (hS:SolK n t A S):∀(fu:Nat) {K:List Int},KOk n A.length K→cg n K S→∃K',dR t A fu K=some K'∧cg n K' S
 | 0,K,_,hs=>⟨K,rfl,hs⟩
 | fu+1,K,hK,hs=>by
  obtain ⟨K1,h1,h2,h3,h4⟩:=Bv ht hA hK hS hs t.length (by rw [ht.1];exact Nat.le_refl _)
  rw [dR,h1];simp only;split
  ·exact uy ht hA hS fu h2 h4
  ·exact ⟨K1,rfl,h4⟩
/- The spread keeps what is known. -/
theorem Iz (ht:bi n t) (hA:AuOk n A) {K K':List Int} (hK:KOk n A.length K) {x y:Nat} (hx:x<n) (hy:y<n) (h:eu t A K x y=some K'):cg n K K'∧(K'=K∨au K'<au K)∧(K'=K→K.getD x 0<0∨K.getD y 0<0∨(0≤K.getD (bu t A K x y) 0∧K.getD (bu t A K x y) 0=c8 A K x y)):=by
 unfold eu at h;split at h
 ·rename_i h0
  cases h;exact ⟨.refl _ _,.inl rfl,fun _=>h0.elim .inl fun h=>.inr (.inl h)⟩
 ·rename_i hn
  have h1:0≤K.getD x 0:=by omega
  have h2:0≤K.getD y 0:=by omega
  have w:=lw hA hK hx hy h1 h2
  have z:=jP ht hA hK hx hy h1
  have hzl:bu t A K x y<K.length:=by rw [hK.len];exact z.2.2
  split at h
  ·rename_i hz
   cases h;have hl:=mS (K:=K) (z:=bu t A K x y) hzl hz w.2.1
   refine ⟨fun u hu h0=>?_,.inr (by omega),fun e=>?_⟩
   ·rw [eP hzl]
    split
    ·rename_i e;subst e;omega
    ·rfl
   ·rw [e] at hl;omega
  ·rename_i hz
   split at h
   ·rename_i he
    cases h;exact ⟨.refl _ _,.inl rfl,fun _=>.inr (.inr ⟨by omega,he⟩)⟩
   ·cases h
def mY (t A:List (List Int)) (K:List Int) (x y:Nat):Prop:=K.getD x 0<0∨K.getD y 0<0∨(0≤K.getD (bu t A K x y) 0∧K.getD (bu t A K x y) 0=c8 A K x y)
theorem Bw (ht:bi n t) (hA:AuOk n A) {K:List Int} (hK:KOk n A.length K) {x:Nat} (hx:x<n):∀(y:Nat) {K':List Int},y≤n→cS t A K x y=some K'→cg n K K'∧(K'=K∨au K'<au K)∧(K'=K→∀y',y'<y→mY t A K x y')
 | 0,K',_,h=>by cases h;exact ⟨.refl _ _,.inl rfl,fun _ y' hy'=>by omega⟩
 | y+1,K',hy,h=>by
  rw [cS] at h;obtain ⟨K1,h1,h2⟩:=Option.bind_eq_some_iff.1 h;obtain ⟨a1,a2,a3⟩:=Bw ht hA hK hx y (by omega) h1
  have ok:=(oR ht hA hK hx y (by omega) h1).1
  obtain ⟨b1,b2,b3⟩:=Iz ht hA ok hx (by omega) h2
  have b4:=(AU ht hA ok hx (by omega) h2).2
  refine ⟨a1.trans b1,?_,fun e y' hy'=>?_⟩
  ·rcases a2 with rfl | a2
   ·exact b2
   ·exact .inr (by omega)
  ·have e1:K1=K:=by
    rcases a2 with a2 | a2
    ·exact a2
    ·rw [e] at b4;omega
   subst e1;by_cases ey:y'=y
   ·subst ey;exact b3 e
   ·exact a3 rfl y' (by omega)
theorem Bz (ht:bi n t) (hA:AuOk n A) {K:List Int} (hK:KOk n A.length K):∀(x:Nat) {K':List Int},x≤n→dE t A K x=some K'→cg n K K'∧(K'=K∨au K'<au K)∧(K'=K→∀x',x'<x→∀y,y<n→mY t A K x' y)
 | 0,K',_,h=>by cases h;exact ⟨.refl _ _,.inl rfl,fun _ y' hy'=>by omega⟩
 | x+1,K',hx,h=>by
  rw [dE] at h;obtain ⟨K1,h1,h2⟩:=Option.bind_eq_some_iff.1 h;obtain ⟨a1,a2,a3⟩:=Bz ht hA hK x (by omega) h1
  have ok:=(oS ht hA hK x (by omega) h1).1
  have hn:t.length≤n:=by rw [ht.1];exact Nat.le_refl _
  obtain ⟨b1,b2,b3⟩:=Bw ht hA ok (x:=x) (by omega) t.length hn h2
  have b4:=(oR ht hA ok (x:=x) (by omega) t.length hn h2).2
  refine ⟨a1.trans b1,?_,fun e x' hx' y hy=>?_⟩
  ·rcases a2 with rfl | a2
   ·exact b2
   ·exact .inr (by omega)
  ·have e1:K1=K:=by
    rcases a2 with a2 | a2
    ·exact a2
    ·rw [e] at b4;omega
   subst e1;by_cases ex:x'=x
   ·subst ex;exact b3 e y (by rw [ht.1];exact hy)
   ·exact a3 rfl x' (by omega) y hy
theorem uz (ht:bi n t) (hA:AuOk n A):∀(fu:Nat) {K K':List Int},KOk n A.length K→au K<fu→dR t A fu K=some K'→cg n K K'∧∀x,x<n→∀y,y<n→mY t A K' x y
 | 0,K,K',_,h,_=>by omega
 | fu+1,K,K',hK,hn,h=>by
  rw [dR] at h;split at h
  ·cases h
  ·rename_i K1 h1
   have hl:t.length≤n:=by rw [ht.1];exact Nat.le_refl _
   obtain ⟨a1,a2,a3⟩:=Bz ht hA hK t.length hl h1;have ok:=(oS ht hA hK t.length hl h1).1
   split at h
   ·rename_i hlt
    obtain ⟨b1,b2⟩:=uz ht hA fu ok (by omega) h
    exact ⟨a1.trans b1,b2⟩
   ·rename_i hge
    have h:K1=K':=Option.some.inj h
    subst h;have e:K1=K:=a2.resolve_right hge
    subst e;exact ⟨a1,fun x hx y hy=>a3 rfl x (by rw [ht.1];exact hx) y hy⟩
theorem IA {K:List Int} (h:au K=0) {x:Nat} (hx:x<K.length):0≤K.getD x 0:=by
 have:=List.countP_eq_zero.1 h (K.getD x 0) (by rw [List.getD,List.getElem?_eq_getElem hx];exact List.getElem_mem hx)
 simpa using this
theorem IB {K:List Int} (hK:KOk n A.length K) (hz:∀x,x<n→0≤K.getD x 0) (h:∀x,x<n→∀y,y<n→mY t A K x y):SolK n t A K :=
 ⟨hK.len,fun x hx=>⟨hz x hx,(hK.rng x hx).2⟩,fun x y hx hy=>by
  rcases h x hx y hy with h | h | h
  ·have:=hz x hx;omega
  ·have:=hz y hy;omega
  ·exact h.2⟩
def d8 (t A:List (List Int)):Nat→List Int→List (List Int)
 | 0,_=>[]
 | d+1,K=>if av K=K.length then [K] else (List.range A.length).flatMap fun i:Nat=>match cD t A (K.set (av K) (i:Int)) with
  | none=>[]
  | some K'=>d8 t A d K'
theorem uA:∀(d:Nat) (K:List Int) (out:List (List (List Int))),bR t A d K out=((d8 t A d K).map (bq t A)).foldl eA out
 | 0,K,out=>rfl
 | d+1,K,out=>by
  rw [bR,d8];split
  ·rfl
  ·have:∀m,cZ (cE t A (bR t A d) K) out m=(((List.range m).flatMap fun i:Nat=>match cD t A (K.set (av K) (i:Int)) with
       | none=>[]
       | some K'=>d8 t A d K').map (bq t A)).foldl eA out:=by
    intro m
    induction m with
    | zero=>rfl
    | succ m ih =>
     rw [cZ,ih,List.range_succ,List.flatMap_append,List.map_append,List.foldl_append];simp only [List.flatMap_cons,List.flatMap_nil,List.append_nil,cE];cases cD t A (K.set (av K) (m:Int)) with
     | none=>rfl
     | some K'=>exact uA d K' _
   exact this A.length
theorem BA (ht:bi n t) (hA:AuOk n A):∀(d:Nat) (K:List Int),KOk n A.length K→au K<d→(au K=0→SolK n t A K)→(∀S,S∈d8 t A d K↔SolK n t A S∧cg n K S)∧(d8 t A d K).Nodup
 | 0,K,_,h,_=>by omega
 | d+1,K,hK,hd,hz=>by
  rw [d8];by_cases hp:av K=K.length
  ·rw [if_pos hp]
   have all:=mT K hp
   have z:au K=0:=List.countP_eq_zero.2 fun k hk=>by
    obtain ⟨j,hj,rfl⟩:=List.mem_iff_getElem.1 hk;have:=all j hj
    rw [bU _ _ _ hj] at this
    simpa using this
   refine ⟨fun S=>?_,by simp⟩
   rw [List.mem_singleton]
   constructor
   ·rintro rfl;exact ⟨hz z,.refl _ _⟩
   ·rintro ⟨h1,h2⟩
    refine li (by rw [h1.len,hK.len]) fun i hi=>?_
    rw [h1.len] at hi;exact h2 i hi (all i (by rw [hK.len];exact hi))
  ·rw [if_neg hp]
   have hlt:av K<K.length:=by have:=jQ K;omega
   have hneg:=oU K hlt
   have hpn:av K<n:=by rw [←hK.len];exact hlt
   have br:∀i,i<A.length→∀K',cD t A (K.set (av K) (i:Int))=some K'→(∀S,S∈d8 t A d K'↔SolK n t A S∧cg n K S∧S.getD (av K) 0=(i:Int))∧(d8 t A d K').Nodup:=fun i hi K' h=>by
    have hset:=hK.set (av K) (w:=(i:Int)) ⟨by omega,by omega⟩
    obtain ⟨g1,g2⟩:=jg ht hA hK hlt hi h;have hfu:au (K.set (av K) (i:Int))<t.length+1:=by
     have:=tP (K.set (av K) (i:Int))
     rw [hset.len] at this;rw [ht.1];omega
    obtain ⟨f1,f2⟩:=uz ht hA _ hset hfu h;have up:∀S,SolK n t A S→(cg n K' S↔cg n K S∧S.getD (av K) 0=(i:Int)):=fun S hS=>by
     have base:cg n (K.set (av K) (i:Int)) S↔cg n K S∧S.getD (av K) 0=(i:Int):=by
      constructor
      ·intro k
       refine ⟨fun x hx h0=>?_,?_⟩
       ·have e:=eP (x:=x) (w:=(i:Int)) hlt
        have ne:x≠av K:=fun e=>by rw [e] at h0;omega
        rw [if_neg ne] at e;rw [k x hx (by rw [e];exact h0),e]
       ·have e:=eP (x:=av K) (w:=(i:Int)) hlt
        rw [if_pos rfl] at e;rw [k _ hpn (by rw [e];omega),e]
      ·rintro ⟨k1,k2⟩ x hx h0
       rw [eP hlt] at h0 ⊢;split
       ·rename_i e;rw [e];exact k2
       ·rename_i e;rw [if_neg e] at h0;exact k1 x hx h0
     rw [←base]
     constructor
     ·intro k;exact f1.trans k
     ·intro k
      obtain ⟨K2,q1,q2⟩:=uy ht hA hS (t.length+1) hset k;have h':dR t A (t.length+1) (K.set (av K) (i:Int))=some K':=h
      rw [h'] at q1;cases q1;exact q2
    obtain ⟨i1,i2⟩:=BA ht hA d K' g1 (by omega) (fun z=>IB g1 (fun x hx=>IA z (by rw [g1.len];exact hx)) f2)
    exact ⟨fun S=>by rw [i1 S];exact ⟨fun k=>⟨k.1,(up S k.1).1 k.2⟩,fun k=>⟨k.1,(up S k.1).2 k.2⟩⟩,i2⟩
   constructor
   ·intro S
    rw [List.mem_flatMap]
    constructor
    ·rintro ⟨i,hi,h⟩
     have hi:i<A.length:=by simpa using hi
     cases hq:cD t A (K.set (av K) (i:Int)) with
     | none=>rw [hq] at h;cases h
     | some K' =>
      rw [hq] at h;have:=((br i hi K' hq).1 S).1 h
      exact ⟨this.1,this.2.1⟩
    ·rintro ⟨h1,h2⟩
     have r:=h1.rng _ hpn
     have e:S.getD (av K) 0=((S.getD (av K) 0).toNat:Int):=by omega
     refine ⟨(S.getD (av K) 0).toNat,List.mem_range.2 (by omega),?_⟩
     have hset:=hK.set (av K) (w:=((S.getD (av K) 0).toNat:Int)) ⟨by omega,by omega⟩
     obtain ⟨K',q1,q2⟩:=uy ht hA h1 (t.length+1) hset (fun x hx h0=>by
      rw [eP hlt] at h0 ⊢;split
      ·rename_i e2;rw [e2];exact e
      ·rename_i e2;rw [if_neg e2] at h0;exact h2 x hx h0)
     have q1:cD t A (K.set (av K) ((S.getD (av K) 0).toNat:Int))=some K':=q1
     rw [q1];exact ((br _ (by omega) K' q1).1 S).2 ⟨h1,h2,e⟩
   ·refine List.pairwise_flatMap.2 ⟨fun i hi=>?_,List.Pairwise.imp_of_mem (fun {i j} hi hj hne S hS S' hS' e=>?_) List.nodup_range⟩
    ·have hi:i<A.length:=by simpa using hi
     cases hq:cD t A (K.set (av K) (i:Int)) with
     | none=>exact List.Pairwise.nil
     | some K'=>exact (br i hi K' hq).2
    ·have hi:i<A.length:=by simpa using hi
     have hj:j<A.length:=by simpa using hj
     subst e;cases hq:cD t A (K.set (av K) (i:Int)) with
     | none=>rw [hq] at hS;cases hS
     | some K' =>
      cases hq2:cD t A (K.set (av K) (j:Int)) with
      | none=>rw [hq2] at hS';cases hS'
      | some K2 =>
       rw [hq] at hS;rw [hq2] at hS';have a:=(((br i hi K' hq).1 S).1 hS).2.2
       have b:=(((br j hj K2 hq2).1 S).1 hS').2.2
       omega
end
end Go.Sx
end
