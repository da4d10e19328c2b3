/- SxIf -/
import Derived.Test.YtkmldclpaniclaaGreatSxH
set_option linter.unusedSimpArgs false
set_option linter.unusedVariables false
set_option linter.defProp false
section
namespace Go.Sx
open Go.RowKit
theorem vJ{P:Program}{e:TypeId}{c:SC}(h:oH P e c=true):∃i z,P.info? e=some i/\i.zero=some z /\
  (∀k n,c=.int k n->z=.int k n)/\(∀b,c=.bool b->z=.bool b)/\(c=.nil->z=.slice none 0 0)/\z.cells=#[z]:=by
 unfold oH at h;split at h
 ·rename_i i hi
  refine⟨i,?_⟩
  split at h
  ·rename_i k n hz
   refine⟨_,hi,hz,?_⟩
   cases c<;>simp_all[Value.cells]
  ·rename_i b hz
   refine⟨_,hi,hz,?_⟩
   cases c<;>simp_all[Value.cells]
  ·rename_i hz
   refine⟨_,hi,hz,?_⟩
   cases c<;>simp_all[Value.cells]
  ·cases h
 ·cases h
theorem jg{P:Program}{e:TypeId}(h:jb P e=true):∃i z,P.info? e=some i/\i.zero=some z/\i.size=1/\i.bytes<=128/\z.cells.size=1:=by
 unfold jb at h;split at h
 ·rename_i i hi
  simp only[AL,Nat.ble_eq]at h;obtain⟨⟨h1,h2⟩,h3⟩:=h;split at h3
  ·rename_i z hz
   exact⟨i,z,hi,hz,AY h2,h1,AY h3⟩
  ·cases h3
 ·cases h
section
variable {C:Cx} {σ:State} {mu:Nat->Img} {a:Act} {w:World}
theorem vK{t e:TypeId}(he:bS C.P t=some e)(hb:jb C.P e=true){i:TypeInfo}{z:Value}(hi:C.P.info? e=some i)(hz:i.zero=some z)(hzc:z.cells=#[z])
  {kl kc:IntKind}{n m:Int}(h0:0<=n)(h1:n<=m)(h2:am m.toNat) :
  ∃w',(Instr.makeSlice t (.int kl n) (.int kc m)).run C.P w=.ok (.slice (some ⟨w.heap.size,0,none⟩) n.toNat m.toNat) w'/\GrB w w' none /\
   w'.ownsRow 0 e 1 (.slice (some ⟨w.heap.size,0,none⟩) n.toNat m.toNat) n.toNat (List.replicate n.toNat z):=by
 obtain⟨i',z',hi',hz',hs,hby,_⟩:=jg hb;rw[hi]at hi';cases hi';unfold am at h2;have hb1:i.bytes*m.toNat<=128*1099511627776:=Be hby h2
 have hb2:(i.bytes:Int)*m<=281474976710656:=by
  have h3:((i.bytes*m.toNat:Nat):Int)<=((128*1099511627776:Nat):Int):=Int.ofNat_le.2 hb1
  rw[Dd,C3 (by omega)]at h3
  omega
 have hr:=run_make (P:=C.P) w t e i z (gj he) hi hz kl kc n m h0 h1 hb2 (by omega)
 refine⟨_,hr,fQ w _ none,by simp,.inr ⟨w.heap.size,m.toNat,_,rfl,AQ _,heap_alloc_new w _,by omega,by unfold maxLen;omega,?_,?_⟩⟩
 ·rw[size_madeCells,hs]
 ·rw[hzc,toList_madeCells_one,hs]
  simp only[Ap];rw[List.take_replicate]
  congr 1
  omega
theorem Ha{w:World}:∀{es:List TypeId} {x:FC},x.dep+1=es.length->x.len=0->(x.dep=0->∃k l,x=.ints k l)->bf w es (bp (.slice none 0 0) []) x
 | [],x,h,_,_=>by simp at h
 | [e],x,h,h0,hi=>by
  obtain⟨k,l,rfl⟩:=hi (by simpa using h)
  have:l=[]:=Ay h0
  subst this;exact⟨rfl,k,[],rfl,World.ownsRow_nil _ _ _ _⟩
 |e::e2::es,x,h,h0,_=>by
  refine⟨rfl,by simpa using h,?_,fun i u y hu=>by simp[cR]at hu⟩
  rw[h0];exact World.ownsRow_nil _ _ _ _
theorem XV{w:World}{e1 e2:TypeId}{es:List TypeId}{d0 dd:FC}{n:Nat}{hd:Value}(hdep:d0.dep=es.length+1)(hr:F6 d0 n=some dd)(hown:w.ownsRow 0 e1 1 hd n (List.replicate n (.slice none 0 0))) :
  bf w (e1::e2::es) (bp hd (List.replicate n (bp (.slice none 0 0) []))) dd:=by
 have key:dd.wid=1/\dd.dep=d0.dep/\dd.len=n/\∀i x,cQ dd i=some x->x.len=0/\x.dep+1=d0.dep/\(x.dep=0->∃k l,x=.ints k l):=by
  cases d0<;>simp only[F6,reduceCtorEq,AC]at hr<;>subst hr
  all_goals
   refine⟨rfl,rfl,by simp[FC.len],fun i x hx=>?_⟩
   simp only[cQ,AC]at hx;subst hx;have hl:∀{α:Type} (n:Nat),((List.replicate n ([]:List α)).getD i [])=[]:=fun {α} n=>by
    rw[AP,Dx];split<;>rfl
   rw[hl];refine⟨rfl,rfl,fun h=>?_⟩
   first
    |exact⟨_,_,rfl⟩
    |simp[FC.dep]at h
 obtain⟨k0,k1,k2,k3⟩:=key;refine⟨rfl,k1.trans hdep,?_,fun i u x hu hx=>?_⟩
 ·rw[eE,cR,k0,k2,List.map_replicate,eE]
  exact hown
 ·rw[cR]at hu
  rw[Cf (AK hu)];obtain⟨a1,a2,a3⟩:=k3 i x hx;exact Ha (by rw[a2,hdep];rfl) a1 a3
theorem Hb(n:Nat):aQ n (bp (.slice none 0 0) [])=[]:=by
 cases n with
 |zero=>rfl
 |succ n=>rw[dE];rfl
theorem XW{n k:Nat}{b l c:Nat}{hd:Value}(hhd:hd=.slice (some ⟨b,0,none⟩) l c:=by rfl):aQ (n+1) (bp hd (List.replicate k (bp (.slice none 0 0) [])))=[b]:=by
 have e:aQ n (bp (.slice none 0 0) [])=[]:=by
  cases n with
  |zero=>rfl
  |succ n=>rw[dE];rfl
 rw[dE,eE,cR,hhd];have:(List.replicate k (bp (.slice none 0 0) [])).flatMap (aQ n)=[]:=by
  rw[List.flatMap_eq_nil_iff];intro x hx
  rw[Cf hx];exact e
 rw[this];rfl
theorem XX{d:Nat}{t:TypeId}{cl cc:SC}{vl vc:Value}{eff:Eff}(hr:(Gm C.P d t cl cc).run σ=some eff)(hob:eff.obl)
  (hl:ag (σ.env C.wF mu) cl vl)(hc:ag (σ.env C.wF mu) cc vc)(h:St C σ mu a w){dst:Option Nat}(hd:∀d,dst=some d->d<C.N) :
  ∃v w',(Instr.makeSlice t vl vc).run C.P w=.ok v w'/\ax C (σ.app dst eff) (a.put dst v) w':=by
 unfold Gm at hr;split at hr
 ·simp[Rd.run]at hr
 ·rename_i e he
  split at hr
  ·rename_i hb
   split at hr
   ·rename_i kl n kc m
    simp only[ag]at hl hc;subst hl;subst hc;split at hr
    ·rename_i k hu
     split at hr
     ·rename_i hz
      obtain⟨θ,hr⟩:=b5 hr;simp only[Rd.run,AC]at hr;subst hr;obtain⟨i,z,hi,hz,h1,_,_,hzc⟩:=vJ hz;obtain⟨w',ω,hg,hown⟩:=vK (w:=w) he hb hi hz hzc (kl:=kl) (kc:=kc) hob.1 hob.2.1 hob.2.2;rw[h1 k 0 rfl]at hown;refine⟨_,w',ω,h.new (m:=⟨.slice (some ⟨w.heap.size,0,none⟩) n.toNat m.toNat,[]⟩) hd θ hg ⟨rfl,by simpa using hown⟩ (by simp[Img.blocks,ae]) (by simp[Img.blocks,ae]) ?_⟩
      simp[av,ag,bR,OSt.on,dV,Value.oneCell']
     ·simp[Rd.run]at hr
    ·rename_i hu
     split at hr
     ·rename_i hz
      obtain⟨θ,hr⟩:=b5 hr;simp only[Rd.run,AC]at hr;subst hr;obtain⟨i,z,hi,hz,_,h1,_,hzc⟩:=vJ hz;obtain⟨w',ω,hg,hown⟩:=vK (w:=w) he hb hi hz hzc (kl:=kl) (kc:=kc) hob.1 hob.2.1 hob.2.2;rw[h1 false rfl]at hown;refine⟨_,w',ω,h.new (m:=⟨.slice (some ⟨w.heap.size,0,none⟩) n.toNat m.toNat,[]⟩) hd θ hg ⟨rfl,by simpa using hown⟩ (by simp[Img.blocks,ae]) (by simp[Img.blocks,ae]) ?_⟩
      simp[av,ag,bR,OSt.on,dV,Value.oneCell']
     ·simp[Rd.run]at hr
    ·rename_i ei hu
     split at hr
     ·rename_i k hk
      split at hr
      ·rename_i hz
       obtain⟨θ,hr⟩:=b5 hr;simp only[Rd.run,AC]at hr;subst hr;obtain⟨i,z,hi,hz,_,_,h1,hzc⟩:=vJ hz;obtain⟨w',ω,hg,hown⟩:=vK (w:=w) he hb hi hz hzc (kl:=kl) (kc:=kc) hob.1 hob.2.1 hob.2.2;rw[h1 rfl]at hown;have hfm:(List.replicate n.toNat (Value.slice none 0 0)).filterMap ae=[]:=by
        rw[Dy];intro v hv
        rw[Cf hv];rfl
       refine⟨_,w',ω,h.new (m:=⟨.slice (some ⟨w.heap.size,0,none⟩) n.toNat m.toNat,List.replicate n.toNat (.slice none 0 0)⟩) hd θ hg ⟨by simpa using hown,by simp,fun j v r hj hr=>?_⟩ ?_ ?_ ?_⟩
       ·rw[Cf (AK hj),Cf (AK hr)]
        exact World.ownsRow_nil _ _ _ _
       ·simp[Img.blocks,hfm,ae]
       ·simp[Img.blocks,hfm,ae]
       ·simp[av,ag,bR,OSt.on,dV,Value.oneCell']
      ·simp[Rd.run]at hr
     ·split at hr
      ·rename_i d0 hd0
       split at hr
       ·rename_i dd e1 e2 es hdd hes
        split at hr
        ·rename_i hz
         obtain⟨hz,rfl,hdep⟩:=hz;obtain⟨θ,hr⟩:=b5 hr;simp only[Rd.run,AC]at hr;subst hr;obtain⟨i,z,hi,hz,_,_,h1,hzc⟩:=vJ hz;obtain⟨w',ω,hg,hown⟩:=vK (w:=w) he hb hi hz hzc (kl:=kl) (kc:=kc) hob.1 hob.2.1 hob.2.2;rw[h1 rfl]at hown;have hT:=XV (w:=w') (es:=es) (e2:=e2) hdep hdd hown
         have hB:=XW (n:=(e2::es).length) (hd:=.slice (some ⟨w.heap.size,0,none⟩) n.toNat m.toNat) (k:=n.toNat)
         have hB2:(dr (e1::e2::es).length (bp (.slice (some ⟨w.heap.size,0,none⟩) n.toNat m.toNat) (List.replicate n.toNat (bp (.slice none 0 0) [])))).blocks=[w.heap.size]:=(d9 hT).trans hB
         refine⟨_,w',ω,h.new (m:=dr (e1::e2::es).length (bp (.slice (some ⟨w.heap.size,0,none⟩) n.toNat m.toNat) (List.replicate n.toNat (bp (.slice none 0 0) [])))) hd θ hg ⟨_,rfl,hT⟩ ?_ ?_ ?_⟩
         ·rw[hB2];simp
         ·rw[hB2];simp
         ·simp[av,ag,bR,OSt.on,dV,Value.oneCell',dr,eE]
        ·simp[Rd.run]at hr
       ·simp[Rd.run]at hr
      ·simp[Rd.run]at hr
    ·simp[Rd.run]at hr
   ·simp[Rd.run]at hr
  ·simp[Rd.run]at hr
def iJ(w:World)(y:Value)(m:Nat)(news:List Value):Prop :=
 ∃yo c,y=.slice yo m c/\news.length=m/\(0<m->∃ad,yo=some ad/\∀(j:Nat) (u:Value),news[j]?=some u->w.cell? (ad.add j)=some u)
def oW(P:Program)(e:TypeId)(sz:Nat):Prop:=∃i z,P.info? e=some i/\i.zero=some z/\i.size=sz/\i.bytes<=128/\z.cells.size=sz
theorem XY{P:Program}{e:TypeId}(h:Gl P e=true):oW P e 2:=by
 unfold Gl at h;split at h
 ·rename_i i hi
  simp only[AL,Nat.ble_eq]at h;obtain⟨⟨h1,h2⟩,h3⟩:=h;split at h3
  ·rename_i z hz
   exact⟨i,z,hi,hz,AY h2,h1,AY h3⟩
  ·cases h3
 ·cases h
def mV(w:World)(y:Value)(sz m:Nat)(news:List Value):Prop :=
 ∃yo c,y=.slice yo m c/\news.length=m*sz/\(0<m->∃ad,yo=some ad/\∀(j:Nat) (u:Value),news[j]?=some u->w.cell? (ad.add j)=some u)
theorem Hc{w:World}{y:Value}{m:Nat}{news:List Value}(h:iJ w y m news):mV w y 1 m news:=by
 obtain⟨yo,c,h1,h2,h3⟩:=h;exact⟨yo,c,h1,by rw[h2,Ap],h3⟩
theorem Hd{sz:Nat}{t ty e:TypeId}(he:bS C.P t=some e)(hb:oW C.P e sz){v y:Value}{n m:Nat}{xs news:List Value}(hown:w.ownsRow 0 e sz v n xs)
  (hy:mV w y sz m news)(h1:∀u∈news,u.oneCell'=true)(hroom:am (n+m)) :
  ∃v' w',(Builtin.append_ #[t,t] ty #[v,y]).run C.P w=.ok v' w'/\w'.ownsRow 0 e sz v' (n+m) (xs++news)/\GrB w w' v.ownBlock /\
   ∀b,ae v'=some b->ae v=some b\/w.heap.size<=b:=by
 obtain⟨i,z,hi,hz,hs,hby,hzs⟩:=hb;have ht:=gj he
 obtain⟨yo,c,rfl,hnl,hcell⟩:=hy;unfold am at hroom;have hbytes:(n+m)*i.bytes<=140737488355328:=Ar (Be hroom hby) (by omega)
 by_cases hm:m=0
 ·subst hm
  have hnews:news=[]:=Ay (by rw[hnl,Nat.zero_mul])
  subst hnews;refine⟨v,w,?_,by simpa using hown,⟨.refl _,rfl,rfl,AE _,fun _ _ _=>rfl⟩,fun b hb=>.inl hb⟩
  have hf:(Builtin.firstCells sz 0 (.slice yo 0 c)).run C.P w=.ok #[] w:=by cases yo<;>simp[Builtin.firstCells,loadCells,loadCellsFrom]
  rcases hown.2 with⟨rfl,rfl⟩|⟨g,cap,cur,rfl,_,_,hnc,_⟩
  ·simp[Builtin.append_,run_underlying ht,sizeOf,typeInfo,hi,hs,Builtin.lenOf,hf]
  ·simp[Builtin.append_,run_underlying ht,sizeOf,typeInfo,hi,hs,Builtin.lenOf,hf,hnc,storeCells]
 ·obtain⟨ad,rfl,hcl⟩:=hcell (by omega)
  have hnl':news.length=m*i.size:=by rw[hs];exact hnl
  have hxl:xs.length=n*sz:=hown.1
  have hsum:(n+m)*sz=n*sz+m*sz:=BW _ _ _
  have grown:∀(old:Nat),old<n+m->∀(row:Option Nat),
    (w.drew.alloc (.cells (xs.toArray++news.toArray++Builtin.zeroCells z.cells (grownCap w (n+m) old e-(n+m))) e)).ownsRow 0 e sz
     (.slice (some ⟨w.heap.size,0,none⟩) (n+m) (grownCap w (n+m) old e)) (n+m) (xs++news) /\
    GrB w (w.drew.alloc (.cells (xs.toArray++news.toArray++Builtin.zeroCells z.cells (grownCap w (n+m) old e-(n+m))) e)) row:=by
   intro old ho row
   have hge:=grownCap_ge w (n+m) old e
   have hcm:grownCap w (n+m) old e<=maxLen:=grownCap_le_maxLen w (n+m) old e (by unfold maxLen;omega)
   refine⟨⟨by rw[Ag,hxl,hnl,hsum],.inr ⟨w.heap.size,_,_,rfl,AQ _,heap_alloc_new w.drew _,hge,hcm,?_,?_⟩⟩,⟨⟨rfl,BU _⟩,rfl,rfl,by simp,fun k hk _=>(World.grownBy_alloc w.drew _ none).block k hk (by simp)⟩⟩
   ·simp only[Di,Cg,size_zeroCells,hzs,hxl,hnl]
    rw[<-hsum,<-BW,Nat.add_sub_cancel' hge]
   ·simp only[Dj,Ao]
    rw[<-Ao,show(n+m)*sz=(xs++news).length by rw[Ag,hxl,hnl,hsum]]
    exact DD
  rcases hown.2 with⟨rfl,rfl⟩|⟨g,cap,cur,rfl,_,hg,hnc,hcm,hcs,htake⟩
  ·have hx:xs=[]:=Ay (by rw[hxl,Nat.zero_mul])
   subst hx;have hr:=run_append_nil (P:=C.P) w t ty e i z ht hi hz ad m c news hnl' hcl (by omega) (by omega) (by have hb:=hbytes;simp only[AJ]at hb;omega)
   have hgr:=grown 0 (by omega) (Value.ownBlock (.slice none 0 0))
   simp only[AJ,Ba,Array.empty_append]at hgr⊢;exact⟨_,_,hr,hgr.1,hgr.2,fun b hb=>.inr (by simp[ae]at hb;omega)⟩
  ·by_cases hfit:n+m<=cap
   ·have hfit':n*i.size+news.length<=cur.size:=by rw[hs,hcs,hnl,<-hsum];exact Br _ hfit
    have hfit2:n*sz+news.length<=cur.size:=by rw[<-hs];exact hfit'
    have hr:=run_append_room (P:=C.P) w t ty e i ht hi g n cap cur hg ad m c news hnl' hcl h1 hfit hfit'
    rw[hs]at hr;refine⟨_,_,hr,⟨by rw[Ag,hxl,hnl,hsum],.inr ⟨g,cap,_,rfl,AQ _,setRow_heap w g cur _ e _ hg,hfit,hcm,?_,?_⟩⟩,⟨⟨rfl,AE _⟩,rfl,rfl,by simp,fun k _ hk=>setRow_other w g k _ (fun e=>hk (by simp[Value.ownBlock,e]))⟩,
     fun b hb=>.inl hb⟩
    ·simp only[Cg,Ag,AT,BG,Dk]
     rw[<-hcs];omega
    ·rw[htake,show(n+m)*sz=(xs++news).length by rw[Ag,hxl,hnl,hsum]]
     exact DD
   ·have holds:∀j u,xs[j]?=some u->w.cell? ((⟨g,0,none⟩:Addr).add j)=some u:=hown.cells (g:=g) rfl
    have hr:=run_append_grow (P:=C.P) w t ty e i z ht hi hz ⟨g,0,none⟩ n cap xs (by rw[hs];exact hxl) holds ad m c news hnl' hcl (by omega) (by omega) (growslice_fits (by omega) hbytes)
    have hgr:=grown cap (by omega) (Value.ownBlock (.slice (some ⟨g,0,none⟩) n cap))
    exact⟨_,_,hr,hgr.1,hgr.2,fun b hb=>.inr (by simp[ae]at hb;omega)⟩
theorem He{t ty e:TypeId}(he:bS C.P t=some e)(hb:jb C.P e=true){v y:Value}{n m:Nat}{xs news:List Value}(hown:w.ownsRow 0 e 1 v n xs)
  (hy:iJ w y m news)(h1:∀u∈news,u.oneCell'=true)(hroom:am (n+m)) :
  ∃v' w',(Builtin.append_ #[t,t] ty #[v,y]).run C.P w=.ok v' w'/\w'.ownsRow 0 e 1 v' (n+m) (xs++news)/\GrB w w' v.ownBlock /\
   ∀b,ae v'=some b->ae v=some b\/w.heap.size<=b:=Hd he (jg hb) hown (Hc hy) h1 hroom
theorem XZ{t ty e:TypeId}(he:bS C.P t=some e)(hb:jb C.P e=true){bs:Option Addr}{y:Value}{m:Nat}{news:List Value}
  (hy:iJ w y m news)(h1:∀u∈news,u.oneCell'=true)(hm:m≠0)(hroom:am m) :
  ∃v' w',(Builtin.append_ #[t,t] ty #[.slice bs 0 0,y]).run C.P w=.ok v' w'/\w'.ownsRow 0 e 1 v' m news/\GrB w w' none /\
   ∀b,ae v'=some b->w.heap.size<=b:=by
 cases bs with
 |none =>
  obtain⟨v',w',q1,q2,q3,q4⟩:=He (ty:=ty) he hb (v:=.slice none 0 0) (n:=0) (xs:=[]) (World.ownsRow_nil _ _ _ _) hy h1 (by simpa using hroom)
  exact⟨v',w',q1,by simpa using q2,q3,fun b hb'=>(q4 b hb').resolve_left (by simp[ae])⟩
 |some a =>
  obtain⟨i,z,hi,hz,hs,hby,hzs⟩:=jg hb;have ht:=gj he
  obtain⟨yo,c,rfl,hnl,hcell⟩:=hy;unfold am at hroom;have hbytes:m*i.bytes<=140737488355328:=Ar (Be hroom hby) (by omega)
  obtain⟨ad,rfl,hcl⟩:=hcell (by omega)
  have hnl':news.length=m*i.size:=by rw[hs,Ap];exact hnl
  have hr:=run_append_grow (P:=C.P) w t ty e i z ht hi hz a 0 0 [] (by simp) (fun j v hj=>by simp at hj) ad m c news hnl' hcl (by omega) (by omega) (growslice_fits (by omega) (by simpa using hbytes))
  simp only[AJ,Array.empty_append]at hr;have hge:=grownCap_ge w m 0 e
  have hcm:grownCap w m 0 e<=maxLen:=grownCap_le_maxLen w m 0 e (by unfold maxLen;omega)
  refine⟨_,_,hr,⟨by simp[hnl],.inr ⟨w.heap.size,_,_,rfl,AQ _,heap_alloc_new w.drew _,hge,hcm,?_,?_⟩⟩,⟨⟨rfl,BU _⟩,rfl,rfl,by simp,fun k hk _=>(World.grownBy_alloc w.drew _ none).block k hk (by simp)⟩,fun b hb'=>by simp[ae]at hb';omega⟩
  ·simp only[Di,Cg,size_zeroCells,hzs,hnl]
   omega
  ·simp only[Dj]
   rw[show m*1=news.length by simp[hnl]]
   exact DD
theorem X0(v:Value)(h:∀a,v≠.pointer a)(h':∀a,v≠.map a):v.ownBlock=ae v:=by
 cases v with
 |slice a n c=>cases a<;>rfl
 |pointer a=>exact absurd rfl (h a)
 |map a=>exact absurd rfl (h' a)
 |_=>rfl
theorem mW{B e size n:Nat}{v:Value}{xs:List Value}(h:w.ownsRow B e size v n xs):v.ownBlock=ae v:=by
 apply X0
 all_goals
  intro p hp
  subst hp;rcases h.2 with⟨h1,_⟩|⟨g,cap,cur,h1,_⟩<;>cases h1
theorem Hf{e L n:Nat}{hd v:Value}{xs:List Value}(h:w.ownsRow 0 e 1 hd L xs)(hv:cp hd 0 n v)(hn:n<=L):w.ownsRow 0 e 1 v n (xs.take n):=by
 have hl:xs.length=L:=by simpa using h.1
 rcases h.2 with⟨rfl,rfl⟩|⟨g,cap,cur,rfl,_,hg,hnc,hcm,hcs,htake⟩
 ·rcases hv with⟨_,rfl,_,rfl⟩|⟨g,len,cap,ao,h1,_⟩
  ·exact⟨by simp,.inl ⟨rfl,rfl⟩⟩
  ·cases h1
 ·rcases hv with⟨h1,_⟩|⟨g',len,cap',ao,h1,rfl,_,h2,h3⟩
  ·cases h1
  ·cases h1
   rw[h3 (.inl rfl)];refine⟨by simp[hl];omega,.inr ⟨g,cap,cur,rfl,AQ _,hg,by omega,hcm,hcs,?_⟩⟩
   rw[<-htake,C8]
   congr 1
   omega
theorem OS{e L n sz:Nat}{hd v:Value}{xs:List Value}(h:w.ownsRow 0 e sz hd L xs)(hv:cp hd 0 n v)(hn:n<=L):w.ownsRow 0 e sz v n (xs.take (n*sz)):=by
 have hl:xs.length=L*sz:=h.1
 have hle:n*sz<=L*sz:=Br _ hn
 rcases h.2 with⟨rfl,rfl⟩|⟨g,cap,cur,rfl,_,hg,hnc,hcm,hcs,htake⟩
 ·rcases hv with⟨_,rfl,_,rfl⟩|⟨g,len,cap,ao,h1,_⟩
  ·exact⟨by simp,.inl ⟨rfl,rfl⟩⟩
  ·cases h1
 ·rcases hv with⟨h1,_⟩|⟨g',len,cap',ao,h1,rfl,_,h2,h3⟩
  ·cases h1
  ·cases h1
   rw[h3 (.inl rfl)];refine⟨by rw[AT];omega,.inr ⟨g,cap,cur,rfl,AQ _,hg,by omega,hcm,hcs,?_⟩⟩
   rw[<-htake,C8]
   congr 1
   omega
theorem OT{e L n sz:Nat}{hd v:Value}{xs:List Value}(h:w.ownsRow 0 e sz hd L xs)(hv:cp hd 0 n v)(hn:n<=L):mV w v sz n (xs.take (n*sz)):=by
 have h2:=OS h hv hn
 rcases h2.2 with⟨rfl,h3⟩|⟨g,cap,cur,h3,_⟩
 ·exact⟨none,0,by rw[h3],h2.1,fun h0=>by omega⟩
 ·subst h3
  refine⟨some ⟨g,0,none⟩,cap,rfl,h2.1,fun h0=>⟨_,rfl,fun j u hu=>?_⟩⟩
  have hj:j<n*sz:=by rw[<-h2.1];exact(AN.1 hu).1
  rw[Addr.add_lit,AJ,G4 h2 (b:=g) rfl j hj];exact hu
theorem Hg{hd v:Value}{n:Nat}(hv:cp hd 0 n v):ae v=ae hd:=by
 rcases hv with⟨rfl,rfl,_⟩|⟨g,len,cap,ao,rfl,rfl,_,_,h⟩
 ·rfl
 ·rw[h (.inl rfl)];rfl
theorem lJ{e L off n:Nat}{hd v:Value}{xs:List Value}(h:w.ownsRow 0 e 1 hd L xs)(hv:cp hd off n v)(hn:off+n<=L):iJ w v n ((xs.drop off).take n):=by
 have hl:xs.length=L:=by simpa using h.1
 obtain⟨x,c,rfl⟩:=jH hv;refine⟨x,c,rfl,by simp[hl];omega,fun h0=>?_⟩
 rcases hv with⟨_,_,_,h1⟩|⟨g,len,cap,ao,rfl,hvv,hc1,hc2,hao⟩
 ·omega
 ·cases hvv
  refine⟨ao,rfl,fun j u hu=>?_⟩
  rw[hao (.inr (by omega)),Addr.add_lit]
  rw[Az]at hu;split at hu
  ·rw[BI]at hu
   rw[iI h (b:=g) rfl (off+j) (by omega)];exact hu
  ·cases hu
theorem OU{wF:World}(hc:∀p u,wF.cell? p=some u->w.cell? p=some u){v:Value}{n:Nat}{R:Nat->Value->Prop}(h:bG wF v n R){f:Nat->Value}(hR:∀i u,i<n->R i u->u=f i) :
  iJ w v n ((List.range n).map f):=by
 obtain⟨x,c,rfl,_,hk⟩:=h;refine⟨x,c,rfl,by simp,fun h0=>?_⟩
 obtain⟨b,off,rfl,hk2⟩:=hk h0;refine⟨_,rfl,fun j u hu=>?_⟩
 have hj:j<n:=by have:=(AN.1 hu).1;simpa using this
 obtain⟨u',h1,h2⟩:=hk2 j hj;have:u=f j:=by simp[hj]at hu;exact hu.symm
 rw[Addr.add_lit,this,<-hR j u' hj h2];exact hc _ _ h1
theorem OW{α β:Type}(l:List α)(z:α)(g:α->β):(List.range l.length).map (fun i=>g (l.getD i z))=l.map g:=by
 apply BS
 intro j
 by_cases hj:j<l.length<;>simp[hj]
theorem mX(k:IntKind)(l:D1):∀u∈l.map (Value.int k),u.oneCell'=true:=by
 intro u hu;obtain⟨_,_,rfl⟩:=AH.1 hu;rfl
theorem Hh(l:List Bool):∀u∈l.map Value.bool,u.oneCell'=true:=by
 intro u hu;obtain⟨_,_,rfl⟩:=AH.1 hu;rfl
theorem X1{k:IntKind}{c:SC}{K:D1->Rd Eff}{r:Eff}(hr:(qk k c K).run σ=some r){v:Value}(hc:ag (σ.env C.wF mu) c v)(h:St C σ mu a w) :
  ∃l,(K l).run σ=some r/\iJ w v l.length (l.map (.int k)):=by
 cases c with
 |nil =>
  simp only[ag]at hc;subst hc;exact⟨[],hr,none,0,rfl,rfl,fun h0=>by simp at h0⟩
 |own o =>
  obtain⟨ob,ho,hr2⟩:=aX hr;clear hr;cases ob with
  |ints e k' l =>
   simp only at hr2;split at hr2
   ·rename_i hk;subst hk
    refine⟨l,hr2,?_⟩
    have hv:v=(mu o).hd:=aK ho hc
    subst hv;have:=h.ob o _ ho
    have hcl:=lJ this.2 (cH this.2) (by omega)
    rwa[CE,AU (by simp)]at hcl
   ·simp[Rd.run]at hr2
  |_=>simp[Rd.run]at hr2
 |pre o n =>
  obtain⟨ob,ho,hr2⟩:=aX hr;clear hr;cases ob with
  |ints e k' l =>
   simp only at hr2;split at hr2
   ·rename_i hk;subst hk
    obtain⟨hn,hv⟩:=aK ho hc;have hn':n<=l.length:=hn
    refine⟨l.take n,hr2,?_⟩
    have:=h.ob o _ ho
    have hcl:=lJ this.2 hv (by omega)
    rw[AT,B9 hn',CR]
    simpa using hcl
   ·simp[Rd.run]at hr2
  |_=>simp[Rd.run]at hr2
 |sub o off n =>
  obtain⟨ob,ho,hr2⟩:=aX hr;clear hr;cases ob with
  |ints e k' l =>
   simp only at hr2;split at hr2
   ·rename_i hk;subst hk
    obtain⟨hn,hv⟩:=aK ho hc;have hn':off+n<=l.length:=hn
    refine⟨(l.drop off).take n,hr2,?_⟩
    have:=h.ob o _ ho
    have hcl:=lJ this.2 hv hn'
    rw[AT,BG,B9 (by omega),CR,List.map_drop]
    exact hcl
   ·simp[Rd.run]at hr2
  |_=>simp[Rd.run]at hr2
 |row o ver i =>
  obtain⟨ob,ho,hr2⟩:=aX hr;clear hr;cases ob with
  |rows ver' e ei k' l =>
   simp only at hr2;split at hr2
   ·rename_i hk
    obtain⟨rfl,rfl⟩:=hk;obtain⟨_,hx⟩:=aK ho hc;obtain⟨hins,ψ⟩:=hx rfl;have hlt':i<l.length:=ψ
    obtain⟨_,_,h3⟩:=h.ob o _ ho;have hrow:=h3 i v _ hins (AF hlt')
    have hgd:l.getD i []=l[i]:=by simp[List.getD,hlt']
    refine⟨_,hr2,?_⟩
    rw[hgd];have hcl:=lJ hrow (cH hrow) (by omega)
    rwa[CE,AU (by simp)]at hcl
   ·simp[Rd.run]at hr2
  |_=>simp[Rd.run]at hr2
 |ro d =>
  cases d with
  |ints k' l =>
   simp only[qk]at hr;split at hr
   ·rename_i hk;subst hk
    refine⟨l,hr,?_⟩
    have hcl:=OU (w:=w) (fun p u hp=>(h.cells p u hp).2) hc.2 (f:=fun i=>.int k' (l.getD i 0)) (fun i u _ hu=>hu)
    rwa[OW l 0 (Value.int k')]at hcl
   ·simp[Rd.run]at hr
  |_=>simp[qk,Rd.run]at hr
 |_=>simp[qk,Rd.run]at hr
theorem OX(l:List (List UInt8)):∀u∈l.map oD,u.oneCell'=true:=by
 intro u hu;obtain⟨_,_,rfl⟩:=AH.1 hu;rfl
theorem X2{c:SC}{K:List (List UInt8)->Rd Eff}{r:Eff}(hr:(Gn c K).run σ=some r){v:Value}(hc:ag (σ.env C.wF mu) c v)(h:St C σ mu a w) :
  ∃l,(K l).run σ=some r/\iJ w v l.length (l.map oD):=by
 cases c with
 |own o =>
  obtain⟨ob,ho,hr2⟩:=aX hr;clear hr;cases ob with
  |strs e l =>
   refine⟨l,hr2,?_⟩
   have hv:v=(mu o).hd:=aK ho hc
   subst hv;have:=h.ob o _ ho
   have hcl:=lJ this.2 (cH this.2) (by omega)
   rwa[CE,AU (by simp)]at hcl
  |_=>simp[Rd.run]at hr2
 |_=>simp[Gn,Rd.run]at hr
theorem X3{c:SC}{K:List Bool->Rd Eff}{r:Eff}(hr:(vd c K).run σ=some r){v:Value}(hc:ag (σ.env C.wF mu) c v)(h:St C σ mu a w) :
  ∃l,(K l).run σ=some r/\iJ w v l.length (l.map .bool):=by
 cases c with
 |nil =>
  simp only[ag]at hc;subst hc;exact⟨[],hr,none,0,rfl,rfl,fun h0=>by simp at h0⟩
 |own o =>
  obtain⟨ob,ho,hr2⟩:=aX hr;clear hr;cases ob with
  |bools e l =>
   refine⟨l,hr2,?_⟩
   have hv:v=(mu o).hd:=aK ho hc
   subst hv;have:=h.ob o _ ho
   have hcl:=lJ this.2 (cH this.2) (by omega)
   rwa[CE,AU (by simp)]at hcl
  |_=>simp[Rd.run]at hr2
 |ro d =>
  cases d with
  |bools l =>
   refine⟨l,hr,?_⟩
   have hcl:=OU (w:=w) (fun p u hp=>(h.cells p u hp).2) hc.2 (f:=fun i=>.bool (l.getD i false)) (fun i u _ hu=>hu)
   rwa[OW l false Value.bool]at hcl
  |_=>simp[vd,Rd.run]at hr
 |_=>simp[vd,Rd.run]at hr
end
end Go.Sx
end
section
namespace Go.Sx
open Go.RowKit
theorem kv{w:World}{e n:Nat}{hd:Value}{xs:List Value}(h:w.ownsRow 0 e 1 hd n xs){off m:Nat}{v:Value}(hv:cp hd off m v)(hle:off+m<=n) :
  bG w v m fun i u=>xs[off+i]?=some u:=by
 have hl:xs.length=n:=by simpa using h.1
 rcases hv with⟨_,rfl,_,rfl⟩|⟨g,len,cap,ao,rfl,rfl,hc1,hc2,hao⟩
 ·exact⟨_,_,rfl,AE _,fun h0=>by omega⟩
 ·refine⟨_,_,rfl,hc2,fun h0=>?_⟩
  rw[hao (.inr (by omega))]
  refine⟨g,off,rfl,fun i hi=>?_⟩
  have ψ:off+i<xs.length:=by omega
  exact⟨xs[off+i],by rw[iI h (b:=g) rfl (off+i) (by omega)];exact AF ψ,AF ψ⟩
theorem OY{w:World}{e n:Nat}{hd:Value}{xs:List Value}(h:w.ownsRow 0 e 2 hd n xs){m:Nat}{v:Value}(hv:cp hd 0 m v)(hle:m<=n) :
  ga w v m fun i u=>xs[i]?=some u:=by
 have hl:xs.length=n*2:=h.1
 rcases hv with⟨_,rfl,_,rfl⟩|⟨g,len,cap,ao,rfl,rfl,hc1,hc2,hao⟩
 ·exact⟨_,_,rfl,AE _,fun h0=>by omega⟩
 ·refine⟨_,_,rfl,hc2,fun h0=>?_⟩
  rw[hao (.inl rfl)];refine⟨g,0,rfl,fun i hi=>?_⟩
  have ψ:i<xs.length:=by omega
  exact⟨xs[i],by rw[AJ,G4 h (b:=g) rfl i (by omega)];exact AF ψ,AF ψ⟩
theorem oX{w:World}{e n:Nat}{k:IntKind}{hd:Value}{l:D1}(h:w.ownsRow 0 e 1 hd n (l.map (.int k))){off m:Nat}{v:Value}(hv:cp hd off m v)(hle:off+m<=n) :
  gA w k v ((l.drop off).take m):=by
 have hl:l.length=n:=by simpa using h.1
 have:=kv h hv hle
 have hlen:((l.drop off).take m).length=m:=by simp;omega
 unfold gA;rw[hlen];exact this.mono fun i u hi hu=>by
  rw[Ai]at hu;cases hx:l[off+i]? with
  |none=>simp[hx]at hu
  |some x=>simp[hx]at hu;rw[<-hu];simp[List.getD,hi,hx]
theorem qy{ver:Nat}{e:TypeId}{d d':FC}(h:fC (.lst ver e d)=some d'):d'=d/\dn d=false:=by
 simp only[fC]at h;split at h
 ·cases h
 ·cases h;exact⟨rfl,by assumption⟩
theorem bf.kind{w:World}:∀{es:List TypeId} {u:Value} {x:FC},bf w es u x->(∃k l,x=.ints k l)\/x.dep≠0
 | [],_,_,h=>False.elim h
 | [_],_,_,⟨_,k,l,h2,_⟩=>.inl ⟨k,l,h2⟩
 |_::_::_,_,_,⟨_,h2,_⟩=>.inr (by omega)
theorem Hi{d:FC}(h:(∃k l,d=.ints k l)\/d.dep≠0):cg 0 d.len d=some d:=by
 rcases h with⟨k,l,rfl⟩|h
 ·simp[cg,FC.len]
 ·cases d<;>simp[cg,FC.len,FC.dep]at *
theorem Hj{w:World}:∀{es:List TypeId} {nd:Value} {d d':FC},bf w es nd d->∀{off n:Nat} {v:Value},cp (aD nd) off n v->off+n<=d.len->cg off n d=some d'->bj w v d'
 | [],_,_,_,h,_,_,_,_,_,_=>False.elim h
 | [e],nd,d,d',⟨_,k,l,h2,h3⟩,off,n,v,hv,hle,ht=>by
  subst h2;cases ht;exact oX h3 hv hle
 |e::e2::es,nd,d,d',h,off,n,v,hv,hle,ht=>by
  have hl:=i8 h
  obtain⟨_,h2,h3,h4⟩:=h;have el:∀i u,((aT nd).map aD)[off+i]?=some u->∃x,cQ d (off+i)=some x/\bj w u x:=fun i u hu=>by
   rw[Ai]at hu;cases hk:(aT nd)[off+i]? with
   |none=>rw[hk]at hu;cases hu
   |some kid =>
    rw[hk]at hu;cases hu;obtain⟨x,hx,_⟩:=li h2 (off+i);have ho:=h4 (off+i) kid x hk hx
    obtain⟨e',xs,hrow⟩:=ho.row;exact⟨x,hx,Hj (es:=e2::es) ho (cH hrow) (by omega) (Hi ho.kind)⟩
  have ln:∀{α:Type} (l:List α),off+n<=l.length->((l.drop off).take n).length=n:=fun l h=>by simp;omega
  cases d<;>simp only[cg,AC,reduceCtorEq]at ht<;>simp only[FC.dep]at h2<;>first|omega|skip
  all_goals first
  | (subst ht
     have hs:=kv h3 hv hle
     show bG _ _ _ _
     rw[ln _ hle];refine hs.below fun i u hi hu=>?_
     obtain⟨x,h5,h6⟩:=el i u hu;cases h5;rw[iA _ off n i _ hi];exact h6
     done)
  | (cases off with
     |succ off=>cases ht
     |zero =>
      cases ht;rename_i k l;have hle':0+n<=l.length:=hle
      show ga _ _ _ _
      rw[show(l.take n).length=n by rw[AT];omega]
      refine(OY h3 hv (by omega)).below fun i u hi hu=>?_
      obtain⟨x,h5,h6⟩:=el i u (by rw[AJ];exact hu)
      rw[AJ]at h5;cases h5;rw[uO hi];exact h6)
theorem bf.reads{w:World}{es:List TypeId}{nd:Value}{d:FC}(h:bf w es nd d):bj w (aD nd) d:=by
 obtain⟨e',xs,hrow⟩:=h.row;exact Hj h (cH hrow) (by omega) (Hi h.kind)
theorem vL{E:Env}{w:World}(hk:bL E.wF w){m:Img}{ob:Ob}(h:aO E w m ob){d d':FC}(hd:fC ob=some d){off n:Nat}{v:Value}(hv:cp m.hd off n v)(hle:off+n<=d.len)
  (hd':cg off n d=some d'):bj w v d':=by
 cases ob with
 |box cs=>cases hd
 |bx cs=>cases hd
 |strs e l=>cases hd
 |frz d=>cases hd
 |mp l=>cases hd
 |qu e k l=>cases hd
 |rowsH ver e ei k l hs=>cases hd
 |yd yv Y pre g=>cases hd
 |trk ver es d n=>cases hd
 |tr ver es d0 =>
  cases hd;obtain⟨nd,rfl,h1⟩:=h;exact Hj h1 hv hle hd'
 |lst ver e d0 =>
  obtain⟨rfl,_⟩:=qy hd;obtain⟨_,vs,h1,h2⟩:=h;have ln:∀{α:Type} (l:List α),off+n<=l.length->((l.drop off).take n).length=n:=fun l h=>by simp;omega
  have el:∀i u,vs[off+i]?=some u->∃fc,d.elem (off+i)=some fc/\bj w u fc:=fun i u hu=>by
   obtain⟨_,fc,h3,h4⟩:=h2 _ _ hu;exact⟨fc,h3,h4.mono hk⟩
  cases d with
  |int k n=>cases hd'
  |bool b=>cases hd'
  |str l=>cases hd'
  |ints k l =>
   cases hd'
   show bG _ _ _ _
   rw[ln l hle];refine(kv h1 hv hle).below fun i u hi hu=>?_
   obtain⟨fc,h3,h4⟩:=el i u hu;have e:=iA l off n i 0 hi
   simp only[FC.elem]at h3;split at h3<;>cases h3
   rw[e];exact h4
  |bools l =>
   cases hd'
   show bG _ _ _ _
   rw[ln l hle];refine(kv h1 hv hle).below fun i u hi hu=>?_
   obtain⟨fc,h3,h4⟩:=el i u hu;have e:=iA l off n i false hi
   simp only[FC.elem]at h3;split at h3<;>cases h3
   rw[e];exact h4
  |rows k l =>
   cases hd'
   show bG _ _ _ _
   rw[ln l hle];refine(kv h1 hv hle).below fun i u hi hu=>?_
   obtain⟨fc,h3,h4⟩:=el i u hu;have e:=iA l off n i [] hi
   simp only[FC.elem]at h3;split at h3<;>cases h3
   rw[e];exact h4
  |r3 k l =>
   cases hd'
   show bG _ _ _ _
   rw[ln l hle];refine(kv h1 hv hle).below fun i u hi hu=>?_
   obtain⟨fc,h3,h4⟩:=el i u hu;have e:=iA l off n i [] hi
   simp only[FC.elem]at h3;split at h3<;>cases h3
   rw[e];exact h4
  |r4 k l =>
   cases hd'
   show bG _ _ _ _
   rw[ln l hle];refine(kv h1 hv hle).below fun i u hi hu=>?_
   obtain⟨fc,h3,h4⟩:=el i u hu;have e:=iA l off n i [] hi
   simp only[FC.elem]at h3;split at h3<;>cases h3
   rw[e];exact h4
  |p3 k l =>
   cases off with
   |succ off=>cases hd'
   |zero =>
    cases hd';have hle':0+n<=l.length:=hle
    show ga _ _ _ _
    rw[show(l.take n).length=n by rw[AT];omega]
    refine(OY h1 hv (by omega)).below fun i u hi hu=>?_
    obtain⟨fc,h3,h4⟩:=el i u (by rw[AJ];exact hu)
    rw[AJ]at h3;simp only[FC.elem]at h3;split at h3<;>cases h3
    rw[uO hi];exact h4
 |ints e k l =>
  cases hd;cases hd';exact oX h.2 hv hle
 |bools e l =>
  cases hd;cases hd';have hlen:((l.drop off).take n).length=n:=by simp;simp only[FC.len]at hle;omega
  show bG _ _ _ _
  rw[hlen];exact(kv h.2 hv hle).mono fun i u hi hu=>by
   rw[Ai]at hu;cases hx:l[off+i]? with
   |none=>simp[hx]at hu
   |some x=>simp[hx]at hu;rw[<-hu];simp[List.getD,hi,hx]
 |rows ver e ei k l =>
  cases hd;cases hd';obtain⟨h1,h2,h3⟩:=h;have hlen:((l.drop off).take n).length=n:=by simp;simp only[FC.len]at hle;omega
  show bG _ _ _ _
  rw[hlen];exact(kv h1 hv hle).mono fun i u hi hu=>by
   have ψ:off+i<l.length:=by simp only[FC.len]at hle;omega
   have hg:((l.drop off).take n).getD i []=l[off+i]:=by simp[List.getD,hi,ψ]
   rw[hg];have hrow:=h3 _ u _ hu (AF ψ)
   have:=oX hrow (cH hrow) (by omega)
   simpa using this
theorem X4{d d':FC}(h:cg 0 d.len d=some d'):d'=d:=by
 cases d<;>simp only[cg,FC.len,CE,Bh,reduceCtorEq,AC]at h<;>exact h.symm
theorem Hk{ob:Ob}{d:FC}(hd:fC ob=some d):ob.shp.len=d.slen:=by
 cases ob with
 |lst ver e d0=>obtain⟨rfl,_⟩:=qy hd;rfl
 |_=>cases hd<;>rfl
theorem qz(d:FC):d.slen<=d.len:=by
 cases d with
 |p3 k l=>exact AQ _
 |_=>exact AE _
theorem OZ{d d':FC}(ht:cg 0 d.len d=some d'):cg 0 d.len d=some d:=by
 rw[ht,X4 ht]
theorem oY{ob:Ob}{d:FC}(hd:fC ob=some d):ob.isFz=false:=by
 cases ob with
 |frz d0=>cases hd
 |_=>rfl
theorem O0{E:Env}{w:World}{m:Img}{ob:Ob}(h:aO E w m ob){d:FC}(hd:fC ob=some d):cp m.hd 0 d.len m.hd:=by
 cases ob with
 |box cs=>cases hd
 |bx cs=>cases hd
 |strs e l=>cases hd
 |frz d=>cases hd
 |mp l=>cases hd
 |qu e k l=>cases hd
 |rowsH ver e ei k l hs=>cases hd
 |yd yv Y pre g=>cases hd
 |trk ver es d n=>cases hd
 |ints e k l=>cases hd;exact cH h.2
 |bools e l=>cases hd;exact cH h.2
 |rows ver e ei k l=>cases hd;exact cH h.1
 |lst ver e d0 =>
  obtain⟨rfl,_⟩:=qy hd;obtain⟨_,vs,h1,_⟩:=h;exact cH h1
 |tr ver es d0 =>
  cases hd;obtain⟨nd,rfl,h2⟩:=h;obtain⟨e,xs,h1⟩:=h2.row;exact cH h1
theorem X5{E:Env}{w:World}(hk:bL E.wF w){m:Img}{ob:Ob}(h:aO E w m ob){d:FC}(hd:fC ob=some d):bj w m.hd d:=by
 have hv:=O0 h hd
 cases ht:cg 0 d.len d with
 |some d'=>exact vL hk h hd hv (by omega) (OZ ht)
 |none =>
  exfalso
  cases ob with
  |lst ver e d0 =>
   obtain⟨rfl,hs⟩:=qy hd;cases d<;>first|cases hs;done|(simp[cg]at ht;done)
  |tr ver es d0 =>
   cases hd;obtain⟨nd,rfl,h1⟩:=h;rw[Hi h1.kind]at ht;cases ht
  |_=>cases hd<;>simp[cg]at ht
def mY(w wF:World)(B:List Nat):World:={ w with heap:=(Array.range w.heap.size).map fun b=>if b∈B then w.heap.getD b (.map #[] 0)else wF.heap.getD b (.map #[] 0) }
theorem O5{w wF:World}{B:List Nat}{b:Nat}(h:b∈B):(mY w wF B).heap[b]?=w.heap[b]?:=by
 simp only[mY,Dl];by_cases hb:b<w.heap.size
 ·rw[Dm,AA hb]
  simp[h,Array.getD,hb]
 ·rw[Dm,AB hb,BH (by omega)];rfl
theorem O6{w wF:World}{B:List Nat}{p:Addr}(h:p.block ∉ B)(ψ:p.block<w.heap.size):(mY w wF B).cell? p=wF.cell? p:=by
 have e:(mY w wF B).heap[p.block]?=some (wF.heap.getD p.block (.map #[] 0)):=by
  simp only[mY,Dl];rw[Dm,AA ψ];simp[h]
 by_cases hb:p.block<wF.heap.size
 ·refine World.cell?_of_block ?_
  rw[e];simp[Array.getD,hb]
 ·have e2:wF.heap[p.block]?=none:=BH (by omega)
  simp only[World.cell?,e,e2];simp[Array.getD,hb]
def Cv(ob ob':Ob):Prop:=(∃d,gb ob=some d/\ob'=.frz d)\/∃v e ei k l,ob=.rows v e ei k l/\ob'=.lst (v+1) e (.rows k l)
theorem X6{ob:Ob}{d:FC}(h:gb ob=some d):ob=.frz d\/(fC ob=some d/\∃d',cg 0 d.len d=some d'):=by
 unfold gb at h;split at h
 ·cases h;exact .inl rfl
 ·split at h
  ·split at h
   ·cases h;exact .inr ⟨by assumption,_,by assumption⟩
   ·cases h
  ·cases h
section
variable {C:Cx} {σ:State} {mu:Nat->Img} {a:Act} {w:World}
theorem lK{x:Nat×Option Ob}{hp:List (Nat×Option Ob)}{fr:List (Nat×SV)}(o:Nat):(State.mk fr (x::hp)).H o=if x.1=o then some x.2 else lk hp o:=by
 obtain⟨k,v⟩:=x;simp only[State.H];rw[bm]
theorem St.cv1(h:St C σ mu a w){o:Nat}{ob ob':Ob}(ho:σ.H o=some (some ob))(hc:Cv ob ob') :
  ∃wG mu',GrowF C wG/\St (C.fz wG) ⟨σ.fr,(o,some ob')::σ.hp⟩ mu' a w/\(∀x,x≠o->mu' x=mu x)/\bX (σ.env C.wF mu) ((State.mk σ.fr ((o,some ob')::σ.hp)).env wG mu'):=by
 have hH:∀x,(State.mk σ.fr ((o,some ob')::σ.hp)).H x=if o=x then some (some ob')else σ.H x:=fun x=>lK x
 have ψ:=(h.ob o ob ho).block
 have hsame:ob'=ob->∃wG mu',GrowF C wG/\St (C.fz wG) ⟨σ.fr,(o,some ob')::σ.hp⟩ mu' a w/\(∀x,x≠o->mu' x=mu x)/\bX (σ.env C.wF mu) ((State.mk σ.fr ((o,some ob')::σ.hp)).env wG mu'):=fun he=>by
  subst he;have e:∀x,(State.mk σ.fr ((o,some ob')::σ.hp)).H x=σ.H x:=fun x=>by
   rw[hH];split
   ·rename_i hx;subst hx;exact ho.symm
   ·rfl
  have est:(State.mk σ.fr ((o,some ob')::σ.hp)).ost=σ.ost:=funext fun x=>by simp only[State.ost,e]
  refine⟨C.wF,mu,.refl C,h.upd (fun _=>False) (.refl _) rfl rfl (AE _) (fun _ hs=>hs.elim) (fun _ _ _=>rfl) (fun x=>by rw[est];exact dJ.refl _ _) (fun x ob2 hx=>by rw[e]at hx;exact .inl ⟨hx,rfl,fun _ _ hs=>hs⟩) h.sz rfl (fun t sv ht=>.inl ⟨ht,rfl⟩),fun _ _=>rfl,fun _ _ h=>h,fun x=>by
   show dR C.wF (σ.ost x) ((State.mk σ.fr ((o,some ob')::σ.hp)).ost x) (mu x) (mu x)
   rw[est];exact dR.refl _ _ _⟩
 have key:∀(B:List Nat) (m:Img),(∀b∈B,b∈(mu o).blocks)->(∀b∈m.blocks,b∈(mu o).blocks/\b ∉ B)->m.blocks.Nodup ->
   (∀wG,bL C.wF wG->(∀b∈B,wG.heap[b]?=w.heap[b]?)->dR wG (σ.ost o) (dV ob') (mu o) m/\aO (σ.env wG mu) w m ob')->(∀E E':Env,E.wF=E'.wF->aO E w m ob'->aO E' w m ob') ->
   ∃wG mu',GrowF C wG/\St (C.fz wG) ⟨σ.fr,(o,some ob')::σ.hp⟩ mu' a w/\(∀x,x≠o->mu' x=mu x)/\bX (σ.env C.wF mu) ((State.mk σ.fr ((o,some ob')::σ.hp)).env wG mu'):=fun B m hB hm hnd χ henv=>by
  let wG:=mY w C.wF B
  have hcell:∀p u,C.wF.cell? p=some u->p.block ∉ B/\p.block<w.heap.size:=fun p u hp=>by
   obtain⟨h1,h2⟩:=h.cells p u hp;exact⟨fun hb=>h1 o ob ho (hB _ hb),cell_lt' h2⟩
  have hG:bL C.wF wG:=fun p u hp=>by
   obtain⟨h1,h2⟩:=hcell p u hp;exact(O6 h1 h2).trans hp
  have hG2:∀p u,wG.cell? p=some u->C.wF.cell? p=some u\/(p.block∈B/\w.cell? p=some u):=fun p u hp=>by
   by_cases hb:p.block∈B
   ·exact .inr ⟨hb,(World.cell?_of_block (O5 hb)).symm.trans hp⟩
   ·have hlt2:p.block<w.heap.size:=by
     have:=cell_lt' hp
     simpa[wG,mY]using this
    exact .inl ((O6 hb hlt2).symm.trans hp)
  obtain⟨r1,r2⟩:=χ wG hG fun b hb=>O5 hb
  have hle:∀x,dR wG (σ.ost x) ((State.mk σ.fr ((o,some ob')::σ.hp)).ost x) (mu x) (if x=o then m else mu x):=fun x=>by
   by_cases hxo:x=o
   ·subst hxo
    simp only[State.ost,hH,AV];exact r1
   ·have:(State.mk σ.fr ((o,some ob')::σ.hp)).ost x=σ.ost x:=by simp only[State.ost,hH,AB (AM hxo)]
    rw[this];simp only[hxo,Al];exact dR.refl _ _ _
  refine⟨wG,fun x=>if x=o then m else mu x,⟨hG,fun p u hp=>(hG2 p u hp).imp id fun⟨hb,_⟩=>((h.nd o ob ho).2 _ (hB _ hb)).symm⟩,?_,fun x hx=>by simp[hx],hG,hle⟩
  have hno:∀x ob2,x≠o->σ.H x=some (some ob2)->∀b∈(mu x).blocks,b ∉ m.blocks:=fun x ob2 hxo hx b hb hc=>h.sep x o ob2 ob hxo hx ho b hb (hm b hc).1
  have hG3:∀b∈B,∀x ob2,(State.mk σ.fr ((o,some ob')::σ.hp)).H x=some (some ob2)->b ∉ (if x=o then m else mu x).blocks:=fun b hb x ob2 hx=>by
   rw[hH]at hx;by_cases hxo:x=o
   ·simp only[hxo,AV]
    exact fun hc=>(hm _ hc).2 hb
   ·rw[AB (AM hxo)]at hx
    simp only[hxo,Al];exact h.sep o x ob ob2 (AM hxo) ho hx _ (hB _ hb)
  refine h.updG (fun b=>b∈m.blocks) (.refl _) rfl rfl (AE _) (fun b hb=>⟨o,ob,ho,(hm b hb).1⟩) (fun _ _ _=>rfl) hG (fun p u hp=>(hG2 p u hp).imp id fun q=>⟨q.2,hG3 _ q.1⟩) hle (fun x ob2 hx=>?_) h.sz rfl (fun t sv ht=>.inl ⟨ht,rfl⟩)
  ·rw[hH]at hx
   by_cases hxo:x=o
   ·subst hxo
    rw[AA rfl]at hx;cases hx;simp only[AV];refine .inr ⟨henv (σ.env wG mu) _ rfl r2,hnd,fun b hb=>.inl hb,fun x' ob3 hne hx'=>?_⟩
    rw[hH,AB hne]at hx';simp only[AM hne,Al];exact .inl ⟨hx',trivial,hno x' ob3 (AM hne) hx'⟩
   ·rw[AB (AM hxo)]at hx
    simp only[hxo,Al];exact .inl ⟨hx,trivial,hno x ob2 hxo hx⟩
 have hE:∀{wG},bL C.wF wG->bX (σ.env C.wF mu) (σ.env wG mu):=fun {wG} hG=>⟨hG,fun _=>dR.refl _ _ _⟩
 rcases hc with⟨d,h1,rfl⟩|⟨v,e,ei,k,l,rfl,rfl⟩
 ·rcases X6 h1 with rfl|⟨h2,d',h3⟩
  ·exact hsame rfl
  ·refine key (mu o).blocks ⟨.slice none 0 0,[]⟩ (fun b hb=>hb) (fun b hb=>by simp[Img.blocks,ae]at hb) (by simp[Img.blocks,ae]) (fun wG hG hk=>⟨.inr ⟨ob.shp,d,b8 ho (oY h2),rfl,Hk h2,?_,_,h3⟩,by simp[aO,Img.blocks,ae]⟩) (fun _ _ _ h=>h)
   have hr:=(h.ob o ob ho).keep (hE hG) hk
   have h4:=O0 hr h2
   have hrd:=vL (E:=σ.env wG mu) (fun _ _ h=>h) hr h2 h4 (by omega) (OZ h3)
   refine⟨?_,hrd⟩
   rcases h4 with⟨_,e,_,_⟩|⟨g,len,cap,ao,_,e,_,hc2,_⟩
   ·exact⟨_,_,_,e,AE _⟩
   ·exact⟨_,_,_,e,hc2⟩
 ·have hnd:=(h.nd o _ ho).1
  obtain⟨n1,n2⟩:((mu o).ins.filterMap ae).Nodup/\∀b,ae (mu o).hd=some b->b ∉ (mu o).ins.filterMap ae:=by
   unfold Img.blocks at hnd;rw[Ad]at hnd;exact⟨hnd.2.1,fun b hb hc=>hnd.2.2 b (by simp[hb]) b hc rfl⟩
  refine key ((mu o).ins.filterMap ae) ⟨(mu o).hd,[]⟩ (fun b hb=>by simp only[Img.blocks,AI];exact .inr hb) (fun b hb=>?_) ?_ (fun wG hG hk=>⟨.inl ?_,?_⟩) (fun E E' he h=>?_)
  ·simp only[Img.blocks,A6,Ac,BY]at hb
   exact⟨cz hb,n2 b hb⟩
  ·simp only[Img.blocks,A6,Ac]
   cases ae (mu o).hd<;>simp
  ·rw[b8 ho]
   refine⟨rfl,rfl,BU _,fun hv=>?_⟩
   simp[Ob.shp]at hv
  ·obtain⟨q1,q2,q3⟩:=h.ob o _ ho
   refine⟨rfl,(mu o).ins,q1,fun i u hi=>?_⟩
   have hlt2:i<l.length:=by rw[<-q2];exact(AN.1 hi).1
   have hrow:=q3 i u _ hi (AF hlt2)
   have hrow2:wG.ownsRow 0 ei 1 u l[i].length (l[i].map (.int k)):=dC hrow fun b hb=>hk b (Aq.2 ⟨u,AK hi,hb⟩)
   refine⟨fU hrow,.ints k (l.getD i []),by simp[FC.elem,hlt2],?_⟩
   have hgd:l.getD i []=l[i]:=by simp[List.getD,hlt2]
   rw[hgd];have:=oX hrow2 (cH hrow2) (by omega)
   show gA wG k u l[i]
   simpa using this
  ·obtain⟨q1,vs,q2,q3⟩:=h
   exact⟨q1,vs,q2,fun i u hi=>let⟨h4,fc,h5,h6⟩:=q3 i u hi;⟨h4,fc,h5,by rw[<-he];exact h6⟩⟩
theorem St.fzs(h:St C σ mu a w):∀(fs:List (Nat×Option Ob)),(∀o x,(o,x)∈fs->∃ob d,σ.H o=some (some ob)/\gb ob=some d/\x=some (.frz d)) ->
  ∃wG mu',GrowF C wG/\St (C.fz wG) ⟨σ.fr,fs++σ.hp⟩ mu' a w/\(∀o,(∀x,(o,x) ∉ fs)->mu' o=mu o)/\bX (σ.env C.wF mu) ((State.mk σ.fr (fs++σ.hp)).env wG mu')
 | [],_=>⟨C.wF,mu,.refl C,h,fun _ _=>rfl,bX.refl _⟩
 |(o,x)::fs,hf=>by
  obtain⟨wG,mu1,g1,s1,k1,e1⟩:=St.fzs h fs fun o' x' hm=>hf o' x' (AO _ hm)
  obtain⟨ob,d,q1,q2,rfl⟩:=hf o x (AX ..);have hcur:∃ob1,(State.mk σ.fr (fs++σ.hp)).H o=some (some ob1)/\gb ob1=some d:=by
   simp only[State.H,gk];cases hx:lk fs o with
   |none=>exact⟨ob,q1,q2⟩
   |some y =>
    have hm:(o,y)∈fs:=by
     clear hf s1 k1 g1 e1
     induction fs with
     |nil=>simp[lk]at hx
     |cons z fs ih =>
      obtain⟨k,v⟩:=z;rw[bm]at hx;split at hx
      ·rename_i hk;subst hk;cases hx;exact AX ..
      ·exact AO _ (ih hx)
    obtain⟨ob',d',r1,r2,rfl⟩:=hf o y (AO _ hm);rw[q1]at r1;cases r1;rw[q2]at r2;cases r2;exact⟨.frz d,rfl,rfl⟩
  obtain⟨ob1,c1,c2⟩:=hcur;obtain⟨wH,mu2,g2,s2,k2,e2⟩:=s1.cv1 c1 (.inl ⟨d,c2,rfl⟩);refine⟨wH,mu2,g1.trans g2,s2,fun o' hn=>?_,e1.trans e2⟩
  rw[k2 o' (fun hc=>hn (some (.frz d)) (by rw[hc];exact AX ..))]
  exact k1 o' fun x hx=>hn x (AO _ hx)
theorem ax.eqv{C:Cx}{σ σ':State}(hF:∀t,σ'.F t=σ.F t)(hH:∀o,σ'.H o=σ.H o){a:Act}{w:World}(hs:ax C σ a w):ax C σ' a w:=by
 have hst:σ'.ost=σ.ost:=funext fun o=>by simp[State.ost,hH]
 obtain⟨wG,mu,hg,q⟩:=hs;have henv:∀wF,σ'.env wF mu=σ.env wF mu:=fun wF=>by simp[State.env,hst]
 exact⟨wG,mu,hg,q.os,q.tape,q.output,q.size,q.block,fun p u hp=>⟨fun o ob ho=>(q.cells p u hp).1 o ob (by rw[<-hH];exact ho),(q.cells p u hp).2⟩,q.sz,q.df.sub (fun o ob ho=>⟨o,ob,by rw[<-hH];exact ho,fun _ h=>h⟩),fun t sv ht=>by rw[henv];exact q.fr t sv (by rw[<-hF];exact ht),fun o ob ho=>by rw[henv];exact q.ob o ob (by rw[<-hH];exact ho),
  fun o ob ho=>q.nd o ob (by rw[<-hH];exact ho),fun o o' ob ob' hne ho ho'=>q.sep o o' ob ob' hne (by rw[<-hH];exact ho) (by rw[<-hH];exact ho'),fun o m hp=>by rw[hst];exact q.pins o m hp⟩
end
end Go.Sx
end
