/- SxI -/
import Derived.Test.YtkmldclpaniclaaGreatSxH
set_option linter.unusedSimpArgs false
set_option linter.unusedVariables false
namespace Go.Sx
open Go.RowKit
theorem uE{P:Program}{e:TypeId}{c:SC}(h:nA P e c=true):∃i z,P.info? e=some i/\i.zero=some z /\
  (∀k n,c=.int k n->z=.int k n)/\(∀b,c=.bool b->z=.bool b)/\(c=.nil->z=.slice none 0 0)/\z.cells=#[z]:=by
 unfold nA at h;split at h
 ·rename_i i hi
  refine⟨i,?_⟩
  split at h
  ·rename_i k n hz
   refine⟨_,hi,hz,?_⟩
   cases c<;>simp_all[Value.cells]
  ·rename_i b hz
   refine⟨_,hi,hz,?_⟩
   cases c<;>simp_all[Value.cells]
  ·rename_i hz
   refine⟨_,hi,hz,?_⟩
   cases c<;>simp_all[Value.cells]
  ·cases h
 ·cases h
theorem iH{P:Program}{e:TypeId}(h:iA P e=true):∃i z,P.info? e=some i/\i.zero=some z/\i.size=1/\i.bytes<=128/\z.cells.size=1:=by
 unfold iA at h;split at h
 ·rename_i i hi
  simp only[Bool.and_eq_true,Nat.ble_eq]at h;obtain⟨⟨h1,h2⟩,h3⟩:=h;split at h3
  ·rename_i z hz
   exact⟨i,z,hi,hz,Nat.eq_of_beq_eq_true h2,h1,Nat.eq_of_beq_eq_true h3⟩
  ·cases h3
 ·cases h
section
variable {C:Cx} {σ:State} {mu:Nat->Img} {a:Act} {w:World}
theorem uF{t e:TypeId}(he:bL C.P t=some e)(hb:iA C.P e=true){i:TypeInfo}{z:Value}(hi:C.P.info? e=some i)(hz:i.zero=some z)(hzc:z.cells=#[z])
  {kl kc:IntKind} {n m:Int} (h0:0<=n) (h1:n<=m) (h2:af m.toNat) :
  ∃w',(Instr.makeSlice t (.int kl n) (.int kc m)).run C.P w=.ok (.slice (some ⟨w.heap.size,0,none⟩) n.toNat m.toNat) w'/\GrB w w' none /\
   w'.ownsRow 0 e 1 (.slice (some ⟨w.heap.size,0,none⟩) n.toNat m.toNat) n.toNat (List.replicate n.toNat z):=by
 obtain⟨i',z',hi',hz',hs,hby,_⟩:=iH hb;rw[hi]at hi';cases hi';unfold af at h2;have hb1:i.bytes*m.toNat<=128*1099511627776:=Nat.mul_le_mul hby h2
 have hb2:(i.bytes:Int)*m<=281474976710656:=by
  have h3:((i.bytes*m.toNat:Nat):Int)<=((128*1099511627776:Nat):Int):=Int.ofNat_le.2 hb1
  rw[Int.natCast_mul,Int.toNat_of_nonneg (by omega)]at h3
  omega
 have hr:=run_make (P:=C.P) w t e i z (fP he) hi hz kl kc n m h0 h1 hb2 (by omega)
 refine⟨_,hr,fw w _ none,by simp,.inr ⟨w.heap.size,m.toNat,_,rfl,Nat.zero_le _,heap_alloc_new w _,by omega,by unfold maxLen;omega,?_,?_⟩⟩
 ·rw[size_madeCells,hs]
 ·rw[hzc,toList_madeCells_one,hs]
  simp only[Nat.mul_one];rw[List.take_replicate]
  congr 1
  omega
theorem Cu{w:World}:∀{es:List TypeId} {x:FC},x.dep+1=es.length->x.len=0->(x.dep=0->∃k l,x=.ints k l)->bh w es (bm (.slice none 0 0) []) x
 | [],x,h,_,_=>by simp at h
 | [e],x,h,h0,hi=>by
  obtain⟨k,l,rfl⟩:=hi (by simpa using h)
  have:l=[]:=List.eq_nil_of_length_eq_zero h0
  subst this;exact⟨rfl,k,[],rfl,World.ownsRow_nil _ _ _ _⟩
 |e::e2::es,x,h,h0,_=>by
  refine⟨rfl,by simpa using h,?_,fun i u y hu=>by simp[cF]at hu⟩
  rw[h0];exact World.ownsRow_nil _ _ _ _
theorem Tv{w:World}{e1 e2:TypeId}{es:List TypeId}{d0 dd:FC}{n:Nat}{hd:Value}(hdep:d0.dep=es.length+1)(hr:Bh d0 n=some dd)(hown:w.ownsRow 0 e1 1 hd n (List.replicate n (.slice none 0 0))) :
  bh w (e1::e2::es) (bm hd (List.replicate n (bm (.slice none 0 0) []))) dd:=by
 have key:dd.wid=1/\dd.dep=d0.dep/\dd.len=n/\∀i x,cE dd i=some x->x.len=0/\x.dep+1=d0.dep/\(x.dep=0->∃k l,x=.ints k l):=by
  cases d0<;>simp only[Bh,reduceCtorEq,Option.some.injEq]at hr<;>subst hr
  all_goals
   refine⟨rfl,rfl,by simp[FC.len],fun i x hx=>?_⟩
   simp only[cE,Option.some.injEq]at hx;subst hx;have hl:∀{α:Type} (n:Nat),((List.replicate n ([]:List α)).getD i [])=[]:=fun {α} n=>by
    rw[List.getD_eq_getElem?_getD,List.getElem?_replicate];split<;>rfl
   rw[hl];refine⟨rfl,rfl,fun h=>?_⟩
   first
    |exact⟨_,_,rfl⟩
    |simp[FC.dep]at h
 obtain⟨k0,k1,k2,k3⟩:=key;refine⟨rfl,k1.trans hdep,?_,fun i u x hu hx=>?_⟩
 ·rw[d7,cF,k0,k2,List.map_replicate,d7]
  exact hown
 ·rw[cF]at hu
  rw[List.eq_of_mem_replicate (List.mem_of_getElem? hu)];obtain⟨a1,a2,a3⟩:=k3 i x hx;exact Cu (by rw[a2,hdep];rfl) a1 a3
theorem Cw(n:Nat):aR n (bm (.slice none 0 0) [])=[]:=by
 cases n with
 |zero=>rfl
 |succ n=>rw[dq];rfl
theorem Tw{n k:Nat}{b l c:Nat}{hd:Value}(hhd:hd=.slice (some ⟨b,0,none⟩) l c:=by rfl):aR (n+1) (bm hd (List.replicate k (bm (.slice none 0 0) [])))=[b]:=by
 have e:aR n (bm (.slice none 0 0) [])=[]:=by
  cases n with
  |zero=>rfl
  |succ n=>rw[dq];rfl
 rw[dq,d7,cF,hhd];have:(List.replicate k (bm (.slice none 0 0) [])).flatMap (aR n)=[]:=by
  rw[List.flatMap_eq_nil_iff];intro x hx
  rw[List.eq_of_mem_replicate hx];exact e
 rw[this];rfl
theorem Tx{d:Nat}{t:TypeId}{cl cc:SC}{vl vc:Value}{eff:Eff}(hr:(BB C.P d t cl cc).run σ=some eff)(hob:eff.obl)
  (hl:aj (σ.env C.wF mu) cl vl) (hc:aj (σ.env C.wF mu) cc vc) (h:St C σ mu a w) {dst:Option Nat} (hd:∀d,dst=some d->d<C.N) :
  ∃v w',(Instr.makeSlice t vl vc).run C.P w=.ok v w'/\ax C (σ.app dst eff) (a.put dst v) w':=by
 unfold BB at hr;split at hr
 ·simp[Rd.run]at hr
 ·rename_i e he
  split at hr
  ·rename_i hb
   split at hr
   ·rename_i kl n kc m
    simp only[aj]at hl hc;subst hl;subst hc;split at hr
    ·rename_i k hu
     split at hr
     ·rename_i hz
      obtain⟨Yj,hr⟩:=bU hr;simp only[Rd.run,Option.some.injEq]at hr;subst hr;obtain⟨i,z,hi,hz,h1,_,_,hzc⟩:=uE hz;obtain⟨w',hrun,hg,hown⟩:=uF (w:=w) he hb hi hz hzc (kl:=kl) (kc:=kc) hob.1 hob.2.1 hob.2.2;rw[h1 k 0 rfl]at hown;refine⟨_,w',hrun,h.new (m:=⟨.slice (some ⟨w.heap.size,0,none⟩) n.toNat m.toNat,[]⟩) hd Yj hg ⟨rfl,by simpa using hown⟩ (by simp[Img.blocks,ag]) (by simp[Img.blocks,ag]) ?_⟩
      simp[av,aj,bK,OSt.on,dJ,Value.oneCell']
     ·simp[Rd.run]at hr
    ·rename_i hu
     split at hr
     ·rename_i hz
      obtain⟨Yj,hr⟩:=bU hr;simp only[Rd.run,Option.some.injEq]at hr;subst hr;obtain⟨i,z,hi,hz,_,h1,_,hzc⟩:=uE hz;obtain⟨w',hrun,hg,hown⟩:=uF (w:=w) he hb hi hz hzc (kl:=kl) (kc:=kc) hob.1 hob.2.1 hob.2.2;rw[h1 false rfl]at hown;refine⟨_,w',hrun,h.new (m:=⟨.slice (some ⟨w.heap.size,0,none⟩) n.toNat m.toNat,[]⟩) hd Yj hg ⟨rfl,by simpa using hown⟩ (by simp[Img.blocks,ag]) (by simp[Img.blocks,ag]) ?_⟩
      simp[av,aj,bK,OSt.on,dJ,Value.oneCell']
     ·simp[Rd.run]at hr
    ·rename_i ei hu
     split at hr
     ·rename_i k hk
      split at hr
      ·rename_i hz
       obtain⟨Yj,hr⟩:=bU hr;simp only[Rd.run,Option.some.injEq]at hr;subst hr;obtain⟨i,z,hi,hz,_,_,h1,hzc⟩:=uE hz;obtain⟨w',hrun,hg,hown⟩:=uF (w:=w) he hb hi hz hzc (kl:=kl) (kc:=kc) hob.1 hob.2.1 hob.2.2;rw[h1 rfl]at hown;have hfm:(List.replicate n.toNat (Value.slice none 0 0)).filterMap ag=[]:=by
        rw[List.filterMap_eq_nil_iff];intro v hv
        rw[List.eq_of_mem_replicate hv];rfl
       refine⟨_,w',hrun,h.new (m:=⟨.slice (some ⟨w.heap.size,0,none⟩) n.toNat m.toNat,List.replicate n.toNat (.slice none 0 0)⟩) hd Yj hg ⟨by simpa using hown,by simp,fun j v r hj hr=>?_⟩ ?_ ?_ ?_⟩
       ·rw[List.eq_of_mem_replicate (List.mem_of_getElem? hj),List.eq_of_mem_replicate (List.mem_of_getElem? hr)]
        exact World.ownsRow_nil _ _ _ _
       ·simp[Img.blocks,hfm,ag]
       ·simp[Img.blocks,hfm,ag]
       ·simp[av,aj,bK,OSt.on,dJ,Value.oneCell']
      ·simp[Rd.run]at hr
     ·split at hr
      ·rename_i d0 hd0
       split at hr
       ·rename_i dd e1 e2 es hdd hes
        split at hr
        ·rename_i hz
         obtain⟨hz,rfl,hdep⟩:=hz;obtain⟨Yj,hr⟩:=bU hr;simp only[Rd.run,Option.some.injEq]at hr;subst hr;obtain⟨i,z,hi,hz,_,_,h1,hzc⟩:=uE hz;obtain⟨w',hrun,hg,hown⟩:=uF (w:=w) he hb hi hz hzc (kl:=kl) (kc:=kc) hob.1 hob.2.1 hob.2.2;rw[h1 rfl]at hown;have hT:=Tv (w:=w') (es:=es) (e2:=e2) hdep hdd hown
         have hB:=Tw (n:=(e2::es).length) (hd:=.slice (some ⟨w.heap.size,0,none⟩) n.toNat m.toNat) (k:=n.toNat)
         have hB2:(cW (e1::e2::es).length (bm (.slice (some ⟨w.heap.size,0,none⟩) n.toNat m.toNat) (List.replicate n.toNat (bm (.slice none 0 0) [])))).blocks=[w.heap.size]:=(dK hT).trans hB
         refine⟨_,w',hrun,h.new (m:=cW (e1::e2::es).length (bm (.slice (some ⟨w.heap.size,0,none⟩) n.toNat m.toNat) (List.replicate n.toNat (bm (.slice none 0 0) [])))) hd Yj hg ⟨_,rfl,hT⟩ ?_ ?_ ?_⟩
         ·rw[hB2];simp
         ·rw[hB2];simp
         ·simp[av,aj,bK,OSt.on,dJ,Value.oneCell',cW,d7]
        ·simp[Rd.run]at hr
       ·simp[Rd.run]at hr
      ·simp[Rd.run]at hr
    ·simp[Rd.run]at hr
   ·simp[Rd.run]at hr
  ·simp[Rd.run]at hr
def g6(w:World)(y:Value)(m:Nat)(news:List Value):Prop :=
 ∃yo c,y=.slice yo m c/\news.length=m/\(0<m->∃ad,yo=some ad/\∀(j:Nat) (u:Value),news[j]?=some u->w.cell? (ad.add j)=some u)
def nS(P:Program)(e:TypeId)(sz:Nat):Prop:=∃i z,P.info? e=some i/\i.zero=some z/\i.size=sz/\i.bytes<=128/\z.cells.size=sz
theorem Ty{P:Program}{e:TypeId}(h:BA P e=true):nS P e 2:=by
 unfold BA at h;split at h
 ·rename_i i hi
  simp only[Bool.and_eq_true,Nat.ble_eq]at h;obtain⟨⟨h1,h2⟩,h3⟩:=h;split at h3
  ·rename_i z hz
   exact⟨i,z,hi,hz,Nat.eq_of_beq_eq_true h2,h1,Nat.eq_of_beq_eq_true h3⟩
  ·cases h3
 ·cases h
def l7(w:World)(y:Value)(sz m:Nat)(news:List Value):Prop :=
 ∃yo c,y=.slice yo m c/\news.length=m*sz/\(0<m->∃ad,yo=some ad/\∀(j:Nat) (u:Value),news[j]?=some u->w.cell? (ad.add j)=some u)
theorem Cy{w:World}{y:Value}{m:Nat}{news:List Value}(h:g6 w y m news):l7 w y 1 m news:=by
 obtain⟨yo,c,h1,h2,h3⟩:=h;exact⟨yo,c,h1,by rw[h2,Nat.mul_one],h3⟩
theorem Cz{sz:Nat}{t ty e:TypeId}(he:bL C.P t=some e)(hb:nS C.P e sz){v y:Value}{n m:Nat}{xs news:List Value}(hown:w.ownsRow 0 e sz v n xs)
  (hy:l7 w y sz m news) (h1:∀u∈news,u.oneCell'=true) (hroom:af (n+m)) :
  ∃v' w',(Builtin.append_ #[t,t] ty #[v,y]).run C.P w=.ok v' w'/\w'.ownsRow 0 e sz v' (n+m) (xs++news)/\GrB w w' v.ownBlock /\
   ∀b,ag v'=some b->ag v=some b\/w.heap.size<=b:=by
 obtain⟨i,z,hi,hz,hs,hby,hzs⟩:=hb;have ht:=fP he
 obtain⟨yo,c,rfl,hnl,hcell⟩:=hy;unfold af at hroom;have hbytes:(n+m)*i.bytes<=140737488355328:=Nat.le_trans (Nat.mul_le_mul hroom hby) (by omega)
 by_cases hm:m=0
 ·subst hm
  have hnews:news=[]:=List.eq_nil_of_length_eq_zero (by rw[hnl,Nat.zero_mul])
  subst hnews;refine⟨v,w,?_,by simpa using hown,⟨.refl _,rfl,rfl,Nat.le_refl _,fun _ _ _=>rfl⟩,fun b hb=>.inl hb⟩
  have hf:(Builtin.firstCells sz 0 (.slice yo 0 c)).run C.P w=.ok #[] w:=by cases yo<;>simp[Builtin.firstCells,loadCells,loadCellsFrom]
  rcases hown.2 with⟨rfl,rfl⟩|⟨g,cap,cur,rfl,_,_,hnc,_⟩
  ·simp[Builtin.append_,run_underlying ht,sizeOf,typeInfo,hi,hs,Builtin.lenOf,hf]
  ·simp[Builtin.append_,run_underlying ht,sizeOf,typeInfo,hi,hs,Builtin.lenOf,hf,hnc,storeCells]
 ·obtain⟨ad,rfl,hcl⟩:=hcell (by omega)
  have hnl':news.length=m*i.size:=by rw[hs];exact hnl
  have hxl:xs.length=n*sz:=hown.1
  have hsum:(n+m)*sz=n*sz+m*sz:=Nat.add_mul _ _ _
  have grown:∀(old:Nat),old<n+m->∀(row:Option Nat),
    (w.drew.alloc (.cells (xs.toArray++news.toArray++Builtin.zeroCells z.cells (grownCap w (n+m) old e-(n+m))) e)).ownsRow 0 e sz
     (.slice (some ⟨w.heap.size,0,none⟩) (n+m) (grownCap w (n+m) old e)) (n+m) (xs++news) /\
    GrB w (w.drew.alloc (.cells (xs.toArray++news.toArray++Builtin.zeroCells z.cells (grownCap w (n+m) old e-(n+m))) e)) row:=by
   intro old ho row
   have hge:=grownCap_ge w (n+m) old e
   have hcm:grownCap w (n+m) old e<=maxLen:=grownCap_le_maxLen w (n+m) old e (by unfold maxLen;omega)
   refine⟨⟨by rw[List.length_append,hxl,hnl,hsum],.inr ⟨w.heap.size,_,_,rfl,Nat.zero_le _,heap_alloc_new w.drew _,hge,hcm,?_,?_⟩⟩,⟨⟨rfl,Nat.le_succ _⟩,rfl,rfl,by simp,fun k hk _=>(World.grownBy_alloc w.drew _ none).block k hk (by simp)⟩⟩
   ·simp only[Array.size_append,List.size_toArray,size_zeroCells,hzs,hxl,hnl]
    rw[<-hsum,<-Nat.add_mul,Nat.add_sub_cancel' hge]
   ·simp only[Array.toList_append,List.append_assoc]
    rw[<-List.append_assoc,show(n+m)*sz=(xs++news).length by rw[List.length_append,hxl,hnl,hsum]]
    exact List.take_left
  rcases hown.2 with⟨rfl,rfl⟩|⟨g,cap,cur,rfl,_,hg,hnc,hcm,hcs,htake⟩
  ·have hx:xs=[]:=List.eq_nil_of_length_eq_zero (by rw[hxl,Nat.zero_mul])
   subst hx;have hr:=run_append_nil (P:=C.P) w t ty e i z ht hi hz ad m c news hnl' hcl (by omega) (by omega) (by have hb:=hbytes;simp only[Nat.zero_add]at hb;omega)
   have hgr:=grown 0 (by omega) (Value.ownBlock (.slice none 0 0))
   simp only[Nat.zero_add,List.nil_append,Array.empty_append]at hgr⊢;exact⟨_,_,hr,hgr.1,hgr.2,fun b hb=>.inr (by simp[ag]at hb;omega)⟩
  ·by_cases hfit:n+m<=cap
   ·have hfit':n*i.size+news.length<=cur.size:=by rw[hs,hcs,hnl,<-hsum];exact Nat.mul_le_mul_right _ hfit
    have hfit2:n*sz+news.length<=cur.size:=by rw[<-hs];exact hfit'
    have hr:=run_append_room (P:=C.P) w t ty e i ht hi g n cap cur hg ad m c news hnl' hcl h1 hfit hfit'
    rw[hs]at hr;refine⟨_,_,hr,⟨by rw[List.length_append,hxl,hnl,hsum],.inr ⟨g,cap,_,rfl,Nat.zero_le _,setRow_heap w g cur _ e _ hg,hfit,hcm,?_,?_⟩⟩,⟨⟨rfl,Nat.le_refl _⟩,rfl,rfl,by simp,fun k _ hk=>setRow_other w g k _ (fun e=>hk (by simp[Value.ownBlock,e]))⟩,
     fun b hb=>.inl hb⟩
    ·simp only[List.size_toArray,List.length_append,List.length_take,List.length_drop,Array.length_toList]
     rw[<-hcs];omega
    ·rw[htake,show(n+m)*sz=(xs++news).length by rw[List.length_append,hxl,hnl,hsum]]
     exact List.take_left
   ·have holds:∀j u,xs[j]?=some u->w.cell? ((⟨g,0,none⟩:Addr).add j)=some u:=hown.cells (g:=g) rfl
    have hr:=run_append_grow (P:=C.P) w t ty e i z ht hi hz ⟨g,0,none⟩ n cap xs (by rw[hs];exact hxl) holds ad m c news hnl' hcl (by omega) (by omega) (growslice_fits (by omega) hbytes)
    have hgr:=grown cap (by omega) (Value.ownBlock (.slice (some ⟨g,0,none⟩) n cap))
    exact⟨_,_,hr,hgr.1,hgr.2,fun b hb=>.inr (by simp[ag]at hb;omega)⟩
theorem CA{t ty e:TypeId}(he:bL C.P t=some e)(hb:iA C.P e=true){v y:Value}{n m:Nat}{xs news:List Value}(hown:w.ownsRow 0 e 1 v n xs)
  (hy:g6 w y m news) (h1:∀u∈news,u.oneCell'=true) (hroom:af (n+m)) :
  ∃v' w',(Builtin.append_ #[t,t] ty #[v,y]).run C.P w=.ok v' w'/\w'.ownsRow 0 e 1 v' (n+m) (xs++news)/\GrB w w' v.ownBlock /\
   ∀b,ag v'=some b->ag v=some b\/w.heap.size<=b:=Cz he (iH hb) hown (Cy hy) h1 hroom
theorem Tz{t ty e:TypeId}(he:bL C.P t=some e)(hb:iA C.P e=true){bs:Option Addr}{y:Value}{m:Nat}{news:List Value}
  (hy:g6 w y m news) (h1:∀u∈news,u.oneCell'=true) (hm:m≠0) (hroom:af m) :
  ∃v' w',(Builtin.append_ #[t,t] ty #[.slice bs 0 0,y]).run C.P w=.ok v' w'/\w'.ownsRow 0 e 1 v' m news/\GrB w w' none /\
   ∀b,ag v'=some b->w.heap.size<=b:=by
 cases bs with
 |none =>
  obtain⟨v',w',q1,q2,q3,q4⟩:=CA (ty:=ty) he hb (v:=.slice none 0 0) (n:=0) (xs:=[]) (World.ownsRow_nil _ _ _ _) hy h1 (by simpa using hroom)
  exact⟨v',w',q1,by simpa using q2,q3,fun b hb'=>(q4 b hb').resolve_left (by simp[ag])⟩
 |some a =>
  obtain⟨i,z,hi,hz,hs,hby,hzs⟩:=iH hb;have ht:=fP he
  obtain⟨yo,c,rfl,hnl,hcell⟩:=hy;unfold af at hroom;have hbytes:m*i.bytes<=140737488355328:=Nat.le_trans (Nat.mul_le_mul hroom hby) (by omega)
  obtain⟨ad,rfl,hcl⟩:=hcell (by omega)
  have hnl':news.length=m*i.size:=by rw[hs,Nat.mul_one];exact hnl
  have hr:=run_append_grow (P:=C.P) w t ty e i z ht hi hz a 0 0 [] (by simp) (fun j v hj=>by simp at hj) ad m c news hnl' hcl (by omega) (by omega) (growslice_fits (by omega) (by simpa using hbytes))
  simp only[Nat.zero_add,Array.empty_append]at hr;have hge:=grownCap_ge w m 0 e
  have hcm:grownCap w m 0 e<=maxLen:=grownCap_le_maxLen w m 0 e (by unfold maxLen;omega)
  refine⟨_,_,hr,⟨by simp[hnl],.inr ⟨w.heap.size,_,_,rfl,Nat.zero_le _,heap_alloc_new w.drew _,hge,hcm,?_,?_⟩⟩,⟨⟨rfl,Nat.le_succ _⟩,rfl,rfl,by simp,fun k hk _=>(World.grownBy_alloc w.drew _ none).block k hk (by simp)⟩,fun b hb'=>by simp[ag]at hb';omega⟩
  ·simp only[Array.size_append,List.size_toArray,size_zeroCells,hzs,hnl]
   omega
  ·simp only[Array.toList_append]
   rw[show m*1=news.length by simp[hnl]]
   exact List.take_left
theorem TA(v:Value)(h:∀a,v≠.pointer a)(h':∀a,v≠.map a):v.ownBlock=ag v:=by
 cases v with
 |slice a n c=>cases a<;>rfl
 |pointer a=>exact absurd rfl (h a)
 |map a=>exact absurd rfl (h' a)
 |_=>rfl
theorem l8{B e size n:Nat}{v:Value}{xs:List Value}(h:w.ownsRow B e size v n xs):v.ownBlock=ag v:=by
 apply TA
 all_goals
  intro p hp
  subst hp;rcases h.2 with⟨h1,_⟩|⟨g,cap,cur,h1,_⟩<;>cases h1
theorem CB{e L n:Nat}{hd v:Value}{xs:List Value}(h:w.ownsRow 0 e 1 hd L xs)(hv:b7 hd 0 n v)(hn:n<=L):w.ownsRow 0 e 1 v n (xs.take n):=by
 have hl:xs.length=L:=by simpa using h.1
 rcases h.2 with⟨rfl,rfl⟩|⟨g,cap,cur,rfl,_,hg,hnc,hcm,hcs,htake⟩
 ·rcases hv with⟨_,rfl,_,rfl⟩|⟨g,len,cap,ao,h1,_⟩
  ·exact⟨by simp,.inl ⟨rfl,rfl⟩⟩
  ·cases h1
 ·rcases hv with⟨h1,_⟩|⟨g',len,cap',ao,h1,rfl,_,h2,h3⟩
  ·cases h1
  ·cases h1
   rw[h3 (.inl rfl)];refine⟨by simp[hl];omega,.inr ⟨g,cap,cur,rfl,Nat.zero_le _,hg,by omega,hcm,hcs,?_⟩⟩
   rw[<-htake,List.take_take]
   congr 1
   omega
theorem JK{e L n sz:Nat}{hd v:Value}{xs:List Value}(h:w.ownsRow 0 e sz hd L xs)(hv:b7 hd 0 n v)(hn:n<=L):w.ownsRow 0 e sz v n (xs.take (n*sz)):=by
 have hl:xs.length=L*sz:=h.1
 have hle:n*sz<=L*sz:=Nat.mul_le_mul_right _ hn
 rcases h.2 with⟨rfl,rfl⟩|⟨g,cap,cur,rfl,_,hg,hnc,hcm,hcs,htake⟩
 ·rcases hv with⟨_,rfl,_,rfl⟩|⟨g,len,cap,ao,h1,_⟩
  ·exact⟨by simp,.inl ⟨rfl,rfl⟩⟩
  ·cases h1
 ·rcases hv with⟨h1,_⟩|⟨g',len,cap',ao,h1,rfl,_,h2,h3⟩
  ·cases h1
  ·cases h1
   rw[h3 (.inl rfl)];refine⟨by rw[List.length_take];omega,.inr ⟨g,cap,cur,rfl,Nat.zero_le _,hg,by omega,hcm,hcs,?_⟩⟩
   rw[<-htake,List.take_take]
   congr 1
   omega
theorem JL{e L n sz:Nat}{hd v:Value}{xs:List Value}(h:w.ownsRow 0 e sz hd L xs)(hv:b7 hd 0 n v)(hn:n<=L):l7 w v sz n (xs.take (n*sz)):=by
 have h2:=JK h hv hn
 rcases h2.2 with⟨rfl,h3⟩|⟨g,cap,cur,h3,_⟩
 ·exact⟨none,0,by rw[h3],h2.1,fun h0=>by omega⟩
 ·subst h3
  refine⟨some ⟨g,0,none⟩,cap,rfl,h2.1,fun h0=>⟨_,rfl,fun j u hu=>?_⟩⟩
  have hj:j<n*sz:=by rw[<-h2.1];exact(List.getElem?_eq_some_iff.1 hu).1
  rw[Addr.add_lit,Nat.zero_add,Co h2 (b:=g) rfl j hj];exact hu
theorem CC{hd v:Value}{n:Nat}(hv:b7 hd 0 n v):ag v=ag hd:=by
 rcases hv with⟨rfl,rfl,_⟩|⟨g,len,cap,ao,rfl,rfl,_,_,h⟩
 ·rfl
 ·rw[h (.inl rfl)];rfl
theorem kG{e L off n:Nat}{hd v:Value}{xs:List Value}(h:w.ownsRow 0 e 1 hd L xs)(hv:b7 hd off n v)(hn:off+n<=L):g6 w v n ((xs.drop off).take n):=by
 have hl:xs.length=L:=by simpa using h.1
 obtain⟨x,c,rfl⟩:=jc hv;refine⟨x,c,rfl,by simp[hl];omega,fun h0=>?_⟩
 rcases hv with⟨_,_,_,h1⟩|⟨g,len,cap,ao,rfl,hvv,hc1,hc2,hao⟩
 ·omega
 ·cases hvv
  refine⟨ao,rfl,fun j u hu=>?_⟩
  rw[hao (.inr (by omega)),Addr.add_lit]
  rw[List.getElem?_take]at hu;split at hu
  ·rw[List.getElem?_drop]at hu
   rw[g5 h (b:=g) rfl (off+j) (by omega)];exact hu
  ·cases hu
theorem JM{wF:World}(hc:∀p u,wF.cell? p=some u->w.cell? p=some u){v:Value}{n:Nat}{R:Nat->Value->Prop}(h:bw wF v n R){f:Nat->Value}(hR:∀i u,i<n->R i u->u=f i) :
  g6 w v n ((List.range n).map f):=by
 obtain⟨x,c,rfl,_,hk⟩:=h;refine⟨x,c,rfl,by simp,fun h0=>?_⟩
 obtain⟨b,off,rfl,hk2⟩:=hk h0;refine⟨_,rfl,fun j u hu=>?_⟩
 have hj:j<n:=by have:=(List.getElem?_eq_some_iff.1 hu).1;simpa using this
 obtain⟨u',h1,h2⟩:=hk2 j hj;have:u=f j:=by simp[hj]at hu;exact hu.symm
 rw[Addr.add_lit,this,<-hR j u' hj h2];exact hc _ _ h1
theorem JN{α β:Type}(l:List α)(z:α)(g:α->β):(List.range l.length).map (fun i=>g (l.getD i z))=l.map g:=by
 apply List.ext_getElem?
 intro j
 by_cases hj:j<l.length<;>simp[hj]
theorem l9(k:IntKind)(l:V7):∀u∈l.map (Value.int k),u.oneCell'=true:=by
 intro u hu;obtain⟨_,_,rfl⟩:=List.mem_map.1 hu;rfl
theorem CD(l:List Bool):∀u∈l.map Value.bool,u.oneCell'=true:=by
 intro u hu;obtain⟨_,_,rfl⟩:=List.mem_map.1 hu;rfl
theorem TB{k:IntKind}{c:SC}{K:V7->Rd Eff}{r:Eff}(hr:(pg k c K).run σ=some r){v:Value}(hc:aj (σ.env C.wF mu) c v)(h:St C σ mu a w) :
  ∃l,(K l).run σ=some r/\g6 w v l.length (l.map (.int k)):=by
 cases c with
 |nil =>
  simp only[aj]at hc;subst hc;exact⟨[],hr,none,0,rfl,rfl,fun h0=>by simp at h0⟩
 |own o =>
  obtain⟨ob,ho,hr2⟩:=aX hr;clear hr;cases ob with
  |ints e k' l =>
   simp only at hr2;split at hr2
   ·rename_i hk;subst hk
    refine⟨l,hr2,?_⟩
    have hv:v=(mu o).hd:=aN ho hc
    subst hv;have:=h.ob o _ ho
    have hcl:=kG this.2 (cC this.2) (by omega)
    rwa[List.drop_zero,List.take_of_length_le (by simp)]at hcl
   ·simp[Rd.run]at hr2
  |_=>simp[Rd.run]at hr2
 |pre o n =>
  obtain⟨ob,ho,hr2⟩:=aX hr;clear hr;cases ob with
  |ints e k' l =>
   simp only at hr2;split at hr2
   ·rename_i hk;subst hk
    obtain⟨hn,hv⟩:=aN ho hc;have hn':n<=l.length:=hn
    refine⟨l.take n,hr2,?_⟩
    have:=h.ob o _ ho
    have hcl:=kG this.2 hv (by omega)
    rw[List.length_take,Nat.min_eq_left hn',List.map_take]
    simpa using hcl
   ·simp[Rd.run]at hr2
  |_=>simp[Rd.run]at hr2
 |sub o off n =>
  obtain⟨ob,ho,hr2⟩:=aX hr;clear hr;cases ob with
  |ints e k' l =>
   simp only at hr2;split at hr2
   ·rename_i hk;subst hk
    obtain⟨hn,hv⟩:=aN ho hc;have hn':off+n<=l.length:=hn
    refine⟨(l.drop off).take n,hr2,?_⟩
    have:=h.ob o _ ho
    have hcl:=kG this.2 hv hn'
    rw[List.length_take,List.length_drop,Nat.min_eq_left (by omega),List.map_take,List.map_drop]
    exact hcl
   ·simp[Rd.run]at hr2
  |_=>simp[Rd.run]at hr2
 |row o ver i =>
  obtain⟨ob,ho,hr2⟩:=aX hr;clear hr;cases ob with
  |rows ver' e ei k' l =>
   simp only at hr2;split at hr2
   ·rename_i hk
    obtain⟨rfl,rfl⟩:=hk;obtain⟨_,hx⟩:=aN ho hc;obtain⟨hins,hlt⟩:=hx rfl;have hlt':i<l.length:=hlt
    obtain⟨_,_,h3⟩:=h.ob o _ ho;have hrow:=h3 i v _ hins (List.getElem?_eq_getElem hlt')
    have hgd:l.getD i []=l[i]:=by simp[List.getD,hlt']
    refine⟨_,hr2,?_⟩
    rw[hgd];have hcl:=kG hrow (cC hrow) (by omega)
    rwa[List.drop_zero,List.take_of_length_le (by simp)]at hcl
   ·simp[Rd.run]at hr2
  |_=>simp[Rd.run]at hr2
 |ro d =>
  cases d with
  |ints k' l =>
   simp only[pg]at hr;split at hr
   ·rename_i hk;subst hk
    refine⟨l,hr,?_⟩
    have hcl:=JM (w:=w) (fun p u hp=>(h.cells p u hp).2) hc.2 (f:=fun i=>.int k' (l.getD i 0)) (fun i u _ hu=>hu)
    rwa[JN l 0 (Value.int k')]at hcl
   ·simp[Rd.run]at hr
  |_=>simp[pg,Rd.run]at hr
 |_=>simp[pg,Rd.run]at hr
theorem JO(l:List (List UInt8)):∀u∈l.map nv,u.oneCell'=true:=by
 intro u hu;obtain⟨_,_,rfl⟩:=List.mem_map.1 hu;rfl
theorem TC{c:SC}{K:List (List UInt8)->Rd Eff}{r:Eff}(hr:(BC c K).run σ=some r){v:Value}(hc:aj (σ.env C.wF mu) c v)(h:St C σ mu a w) :
  ∃l,(K l).run σ=some r/\g6 w v l.length (l.map nv):=by
 cases c with
 |own o =>
  obtain⟨ob,ho,hr2⟩:=aX hr;clear hr;cases ob with
  |strs e l =>
   refine⟨l,hr2,?_⟩
   have hv:v=(mu o).hd:=aN ho hc
   subst hv;have:=h.ob o _ ho
   have hcl:=kG this.2 (cC this.2) (by omega)
   rwa[List.drop_zero,List.take_of_length_le (by simp)]at hcl
  |_=>simp[Rd.run]at hr2
 |_=>simp[BC,Rd.run]at hr
theorem TD{c:SC}{K:List Bool->Rd Eff}{r:Eff}(hr:(ud c K).run σ=some r){v:Value}(hc:aj (σ.env C.wF mu) c v)(h:St C σ mu a w) :
  ∃l,(K l).run σ=some r/\g6 w v l.length (l.map .bool):=by
 cases c with
 |nil =>
  simp only[aj]at hc;subst hc;exact⟨[],hr,none,0,rfl,rfl,fun h0=>by simp at h0⟩
 |own o =>
  obtain⟨ob,ho,hr2⟩:=aX hr;clear hr;cases ob with
  |bools e l =>
   refine⟨l,hr2,?_⟩
   have hv:v=(mu o).hd:=aN ho hc
   subst hv;have:=h.ob o _ ho
   have hcl:=kG this.2 (cC this.2) (by omega)
   rwa[List.drop_zero,List.take_of_length_le (by simp)]at hcl
  |_=>simp[Rd.run]at hr2
 |ro d =>
  cases d with
  |bools l =>
   refine⟨l,hr,?_⟩
   have hcl:=JM (w:=w) (fun p u hp=>(h.cells p u hp).2) hc.2 (f:=fun i=>.bool (l.getD i false)) (fun i u _ hu=>hu)
   rwa[JN l false Value.bool]at hcl
  |_=>simp[ud,Rd.run]at hr
 |_=>simp[ud,Rd.run]at hr
end
end Go.Sx
