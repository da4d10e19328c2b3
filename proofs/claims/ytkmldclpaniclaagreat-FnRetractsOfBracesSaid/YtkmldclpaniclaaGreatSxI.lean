/- SxI -/
import Derived.Test.YtkmldclpaniclaaGreatSxH
set_option linter.unusedSimpArgs false
set_option linter.unusedVariables false
set_option linter.defProp false
namespace Go.Sx
open Go.RowKit
theorem w7{P:Program}{e:TypeId}{c:SC}(h:oK P e c=true):∃i z,P.info? e=some i/\i.zero=some z /\
  (∀k n,c=.int k n->z=.int k n)/\(∀b,c=.bool b->z=.bool b)/\(c=.nil->z=.slice none 0 0)/\z.cells=#[z]:=by
 unfold oK at h;split at h
 ·rename_i i hi
  refine⟨i,?_⟩
  split at h
  ·rename_i k n hz
   refine⟨_,hi,hz,?_⟩
   cases c<;>simp_all[Value.cells]
  ·rename_i b hz
   refine⟨_,hi,hz,?_⟩
   cases c<;>simp_all[Value.cells]
  ·rename_i hz
   refine⟨_,hi,hz,?_⟩
   cases c<;>simp_all[Value.cells]
  ·cases h
 ·cases h
theorem js{P:Program}{e:TypeId}(h:jn P e=true):∃i z,P.info? e=some i/\i.zero=some z/\i.size=1/\i.bytes<=128/\z.cells.size=1:=by
 unfold jn at h;split at h
 ·rename_i i hi
  simp only[AG,Nat.ble_eq]at h;obtain⟨⟨h1,h2⟩,h3⟩:=h;split at h3
  ·rename_i z hz
   exact⟨i,z,hi,hz,AX h2,h1,AX h3⟩
  ·cases h3
 ·cases h
section
variable {C:Cx} {σ:State} {mu:Nat->Img} {a:Act} {w:World}
theorem w8{t e:TypeId}(he:bX C.P t=some e)(hb:jn C.P e=true){i:TypeInfo}{z:Value}(hi:C.P.info? e=some i)(hz:i.zero=some z)(hzc:z.cells=#[z])
  {kl kc:IntKind}{n m:Int}(h0:0<=n)(h1:n<=m)(h2:ar m.toNat) :
  ∃w',(Instr.makeSlice t (.int kl n) (.int kc m)).run C.P w=.ok (.slice (some ⟨w.heap.size,0,none⟩) n.toNat m.toNat) w'/\GrB w w' none /\
   w'.ownsRow 0 e 1 (.slice (some ⟨w.heap.size,0,none⟩) n.toNat m.toNat) n.toNat (List.replicate n.toNat z):=by
 obtain⟨i',z',hi',hz',hs,hby,_⟩:=js hb;rw[hi]at hi';cases hi';unfold ar at h2;have hb1:i.bytes*m.toNat<=128*1099511627776:=BO hby h2
 have hb2:(i.bytes:Int)*m<=281474976710656:=by
  have h3:((i.bytes*m.toNat:Nat):Int)<=((128*1099511627776:Nat):Int):=Int.ofNat_le.2 hb1
  rw[Cb,CR (by omega)]at h3
  omega
 have hr:=run_make (P:=C.P) w t e i z (gp he) hi hz kl kc n m h0 h1 hb2 (by omega)
 refine⟨_,hr,fP w _ none,by simp,.inr ⟨w.heap.size,m.toNat,_,rfl,Ad _,heap_alloc_new w _,by omega,by unfold maxLen;omega,?_,?_⟩⟩
 ·rw[size_madeCells,hs]
 ·rw[hzc,toList_madeCells_one,hs]
  simp only[As];rw[List.take_replicate]
  congr 1
  omega
theorem HE{w:World}:∀{es:List TypeId} {x:FC},x.dep+1=es.length->x.len=0->(x.dep=0->∃k l,x=.ints k l)->br w es (bu (.slice none 0 0) []) x
 | [],x,h,_,_=>by simp at h
 | [e],x,h,h0,hi=>by
  obtain⟨k,l,rfl⟩:=hi (by simpa using h)
  have:l=[]:=BJ h0
  subst this;exact⟨rfl,k,[],rfl,World.ownsRow_nil _ _ _ _⟩
 |e::e2::es,x,h,h0,_=>by
  refine⟨rfl,by simpa using h,?_,fun i u y hu=>by simp[cY]at hu⟩
  rw[h0];exact World.ownsRow_nil _ _ _ _
theorem Za{w:World}{e1 e2:TypeId}{es:List TypeId}{d0 dd:FC}{n:Nat}{hd:Value}(hdep:d0.dep=es.length+1)(hr:Gz d0 n=some dd)(hown:w.ownsRow 0 e1 1 hd n (List.replicate n (.slice none 0 0))) :
  br w (e1::e2::es) (bu hd (List.replicate n (bu (.slice none 0 0) []))) dd:=by
 have key:dd.wid=1/\dd.dep=d0.dep/\dd.len=n/\∀i x,cX dd i=some x->x.len=0/\x.dep+1=d0.dep/\(x.dep=0->∃k l,x=.ints k l):=by
  cases d0<;>simp only[Gz,reduceCtorEq,AC]at hr<;>subst hr
  all_goals
   refine⟨rfl,rfl,by simp[FC.len],fun i x hx=>?_⟩
   simp only[cX,AC]at hx;subst hx;have hl:∀{α:Type} (n:Nat),((List.replicate n ([]:List α)).getD i [])=[]:=fun {α} n=>by
    rw[AN,DX];split<;>rfl
   rw[hl];refine⟨rfl,rfl,fun h=>?_⟩
   first
    |exact⟨_,_,rfl⟩
    |simp[FC.dep]at h
 obtain⟨k0,k1,k2,k3⟩:=key;refine⟨rfl,k1.trans hdep,?_,fun i u x hu hx=>?_⟩
 ·rw[eF,cY,k0,k2,List.map_replicate,eF]
  exact hown
 ·rw[cY]at hu
  rw[CB (AI hu)];obtain⟨a1,a2,a3⟩:=k3 i x hx;exact HE (by rw[a2,hdep];rfl) a1 a3
theorem HF(n:Nat):aW n (bu (.slice none 0 0) [])=[]:=by
 cases n with
 |zero=>rfl
 |succ n=>rw[dM];rfl
theorem Zb{n k:Nat}{b l c:Nat}{hd:Value}(hhd:hd=.slice (some ⟨b,0,none⟩) l c:=by rfl):aW (n+1) (bu hd (List.replicate k (bu (.slice none 0 0) [])))=[b]:=by
 have e:aW n (bu (.slice none 0 0) [])=[]:=by
  cases n with
  |zero=>rfl
  |succ n=>rw[dM];rfl
 rw[dM,eF,cY,hhd];have:(List.replicate k (bu (.slice none 0 0) [])).flatMap (aW n)=[]:=by
  rw[List.flatMap_eq_nil_iff];intro x hx
  rw[CB hx];exact e
 rw[this];rfl
theorem Zc{d:Nat}{t:TypeId}{cl cc:SC}{vl vc:Value}{eff:Eff}(hr:(GR C.P d t cl cc).run σ=some eff)(hob:eff.obl)
  (hl:ai (σ.env C.wF mu) cl vl)(hc:ai (σ.env C.wF mu) cc vc)(h:St C σ mu a w){dst:Option Nat}(hd:∀d,dst=some d->d<C.N) :
  ∃v w',(Instr.makeSlice t vl vc).run C.P w=.ok v w'/\ay C (σ.app dst eff) (a.put dst v) w':=by
 unfold GR at hr;split at hr
 ·simp[Rd.run]at hr
 ·rename_i e he
  split at hr
  ·rename_i hb
   split at hr
   ·rename_i kl n kc m
    simp only[ai]at hl hc;subst hl;subst hc;split at hr
    ·rename_i k hu
     split at hr
     ·rename_i hz
      obtain⟨θ,hr⟩:=b8 hr;simp only[Rd.run,AC]at hr;subst hr;obtain⟨i,z,hi,hz,h1,_,_,hzc⟩:=w7 hz;obtain⟨w',ω,hg,hown⟩:=w8 (w:=w) he hb hi hz hzc (kl:=kl) (kc:=kc) hob.1 hob.2.1 hob.2.2;rw[h1 k 0 rfl]at hown;refine⟨_,w',ω,h.new (m:=⟨.slice (some ⟨w.heap.size,0,none⟩) n.toNat m.toNat,[]⟩) hd θ hg ⟨rfl,by simpa using hown⟩ (by simp[Img.blocks,ac]) (by simp[Img.blocks,ac]) ?_⟩
      simp[aw,ai,bS,OSt.on,dX,Value.oneCell']
     ·simp[Rd.run]at hr
    ·rename_i hu
     split at hr
     ·rename_i hz
      obtain⟨θ,hr⟩:=b8 hr;simp only[Rd.run,AC]at hr;subst hr;obtain⟨i,z,hi,hz,_,h1,_,hzc⟩:=w7 hz;obtain⟨w',ω,hg,hown⟩:=w8 (w:=w) he hb hi hz hzc (kl:=kl) (kc:=kc) hob.1 hob.2.1 hob.2.2;rw[h1 false rfl]at hown;refine⟨_,w',ω,h.new (m:=⟨.slice (some ⟨w.heap.size,0,none⟩) n.toNat m.toNat,[]⟩) hd θ hg ⟨rfl,by simpa using hown⟩ (by simp[Img.blocks,ac]) (by simp[Img.blocks,ac]) ?_⟩
      simp[aw,ai,bS,OSt.on,dX,Value.oneCell']
     ·simp[Rd.run]at hr
    ·rename_i ei hu
     split at hr
     ·rename_i k hk
      split at hr
      ·rename_i hz
       obtain⟨θ,hr⟩:=b8 hr;simp only[Rd.run,AC]at hr;subst hr;obtain⟨i,z,hi,hz,_,_,h1,hzc⟩:=w7 hz;obtain⟨w',ω,hg,hown⟩:=w8 (w:=w) he hb hi hz hzc (kl:=kl) (kc:=kc) hob.1 hob.2.1 hob.2.2;rw[h1 rfl]at hown;have hfm:(List.replicate n.toNat (Value.slice none 0 0)).filterMap ac=[]:=by
        rw[DY];intro v hv
        rw[CB hv];rfl
       refine⟨_,w',ω,h.new (m:=⟨.slice (some ⟨w.heap.size,0,none⟩) n.toNat m.toNat,List.replicate n.toNat (.slice none 0 0)⟩) hd θ hg ⟨by simpa using hown,by simp,fun j v r hj hr=>?_⟩ ?_ ?_ ?_⟩
       ·rw[CB (AI hj),CB (AI hr)]
        exact World.ownsRow_nil _ _ _ _
       ·simp[Img.blocks,hfm,ac]
       ·simp[Img.blocks,hfm,ac]
       ·simp[aw,ai,bS,OSt.on,dX,Value.oneCell']
      ·simp[Rd.run]at hr
     ·split at hr
      ·rename_i d0 hd0
       split at hr
       ·rename_i dd e1 e2 es hdd hes
        split at hr
        ·rename_i hz
         obtain⟨hz,rfl,hdep⟩:=hz;obtain⟨θ,hr⟩:=b8 hr;simp only[Rd.run,AC]at hr;subst hr;obtain⟨i,z,hi,hz,_,_,h1,hzc⟩:=w7 hz;obtain⟨w',ω,hg,hown⟩:=w8 (w:=w) he hb hi hz hzc (kl:=kl) (kc:=kc) hob.1 hob.2.1 hob.2.2;rw[h1 rfl]at hown;have hT:=Za (w:=w') (es:=es) (e2:=e2) hdep hdd hown
         have hB:=Zb (n:=(e2::es).length) (hd:=.slice (some ⟨w.heap.size,0,none⟩) n.toNat m.toNat) (k:=n.toNat)
         have hB2:(dw (e1::e2::es).length (bu (.slice (some ⟨w.heap.size,0,none⟩) n.toNat m.toNat) (List.replicate n.toNat (bu (.slice none 0 0) [])))).blocks=[w.heap.size]:=(ef hT).trans hB
         refine⟨_,w',ω,h.new (m:=dw (e1::e2::es).length (bu (.slice (some ⟨w.heap.size,0,none⟩) n.toNat m.toNat) (List.replicate n.toNat (bu (.slice none 0 0) [])))) hd θ hg ⟨_,rfl,hT⟩ ?_ ?_ ?_⟩
         ·rw[hB2];simp
         ·rw[hB2];simp
         ·simp[aw,ai,bS,OSt.on,dX,Value.oneCell',dw,eF]
        ·simp[Rd.run]at hr
       ·simp[Rd.run]at hr
      ·simp[Rd.run]at hr
    ·simp[Rd.run]at hr
   ·simp[Rd.run]at hr
  ·simp[Rd.run]at hr
def iW(w:World)(y:Value)(m:Nat)(news:List Value):Prop :=
 ∃yo c,y=.slice yo m c/\news.length=m/\(0<m->∃ad,yo=some ad/\∀(j:Nat) (u:Value),news[j]?=some u->w.cell? (ad.add j)=some u)
def oZ(P:Program)(e:TypeId)(sz:Nat):Prop:=∃i z,P.info? e=some i/\i.zero=some z/\i.size=sz/\i.bytes<=128/\z.cells.size=sz
theorem Zd{P:Program}{e:TypeId}(h:GQ P e=true):oZ P e 2:=by
 unfold GQ at h;split at h
 ·rename_i i hi
  simp only[AG,Nat.ble_eq]at h;obtain⟨⟨h1,h2⟩,h3⟩:=h;split at h3
  ·rename_i z hz
   exact⟨i,z,hi,hz,AX h2,h1,AX h3⟩
  ·cases h3
 ·cases h
def m8(w:World)(y:Value)(sz m:Nat)(news:List Value):Prop :=
 ∃yo c,y=.slice yo m c/\news.length=m*sz/\(0<m->∃ad,yo=some ad/\∀(j:Nat) (u:Value),news[j]?=some u->w.cell? (ad.add j)=some u)
theorem HG{w:World}{y:Value}{m:Nat}{news:List Value}(h:iW w y m news):m8 w y 1 m news:=by
 obtain⟨yo,c,h1,h2,h3⟩:=h;exact⟨yo,c,h1,by rw[h2,As],h3⟩
theorem HH{sz:Nat}{t ty e:TypeId}(he:bX C.P t=some e)(hb:oZ C.P e sz){v y:Value}{n m:Nat}{xs news:List Value}(hown:w.ownsRow 0 e sz v n xs)
  (hy:m8 w y sz m news)(h1:∀u∈news,u.oneCell'=true)(hroom:ar (n+m)) :
  ∃v' w',(Builtin.append_ #[t,t] ty #[v,y]).run C.P w=.ok v' w'/\w'.ownsRow 0 e sz v' (n+m) (xs++news)/\GrB w w' v.ownBlock /\
   ∀b,ac v'=some b->ac v=some b\/w.heap.size<=b:=by
 obtain⟨i,z,hi,hz,hs,hby,hzs⟩:=hb;have ht:=gp he
 obtain⟨yo,c,rfl,hnl,hcell⟩:=hy;unfold ar at hroom;have hbytes:(n+m)*i.bytes<=140737488355328:=An (BO hroom hby) (by omega)
 by_cases hm:m=0
 ·subst hm
  have hnews:news=[]:=BJ (by rw[hnl,Nat.zero_mul])
  subst hnews;refine⟨v,w,?_,by simpa using hown,⟨.refl _,rfl,rfl,AE _,fun _ _ _=>rfl⟩,fun b hb=>.inl hb⟩
  have hf:(Builtin.firstCells sz 0 (.slice yo 0 c)).run C.P w=.ok #[] w:=by cases yo<;>simp[Builtin.firstCells,loadCells,loadCellsFrom]
  rcases hown.2 with⟨rfl,rfl⟩|⟨g,cap,cur,rfl,_,_,hnc,_⟩
  ·simp[Builtin.append_,run_underlying ht,sizeOf,typeInfo,hi,hs,Builtin.lenOf,hf]
  ·simp[Builtin.append_,run_underlying ht,sizeOf,typeInfo,hi,hs,Builtin.lenOf,hf,hnc,storeCells]
 ·obtain⟨ad,rfl,hcl⟩:=hcell (by omega)
  have hnl':news.length=m*i.size:=by rw[hs];exact hnl
  have hxl:xs.length=n*sz:=hown.1
  have hsum:(n+m)*sz=n*sz+m*sz:=CQ _ _ _
  have grown:∀(old:Nat),old<n+m->∀(row:Option Nat),
    (w.drew.alloc (.cells (xs.toArray++news.toArray++Builtin.zeroCells z.cells (grownCap w (n+m) old e-(n+m))) e)).ownsRow 0 e sz
     (.slice (some ⟨w.heap.size,0,none⟩) (n+m) (grownCap w (n+m) old e)) (n+m) (xs++news) /\
    GrB w (w.drew.alloc (.cells (xs.toArray++news.toArray++Builtin.zeroCells z.cells (grownCap w (n+m) old e-(n+m))) e)) row:=by
   intro old ho row
   have hge:=grownCap_ge w (n+m) old e
   have hcm:grownCap w (n+m) old e<=maxLen:=grownCap_le_maxLen w (n+m) old e (by unfold maxLen;omega)
   refine⟨⟨by rw[Al,hxl,hnl,hsum],.inr ⟨w.heap.size,_,_,rfl,Ad _,heap_alloc_new w.drew _,hge,hcm,?_,?_⟩⟩,⟨⟨rfl,BC _⟩,rfl,rfl,by simp,fun k hk _=>(World.grownBy_alloc w.drew _ none).block k hk (by simp)⟩⟩
   ·simp only[DE,CC,size_zeroCells,hzs,hxl,hnl]
    rw[<-hsum,<-CQ,Nat.add_sub_cancel' hge]
   ·simp only[DF,Ap]
    rw[<-Ap,show(n+m)*sz=(xs++news).length by rw[Al,hxl,hnl,hsum]]
    exact Ce
  rcases hown.2 with⟨rfl,rfl⟩|⟨g,cap,cur,rfl,_,hg,hnc,hcm,hcs,htake⟩
  ·have hx:xs=[]:=BJ (by rw[hxl,Nat.zero_mul])
   subst hx;have hr:=run_append_nil (P:=C.P) w t ty e i z ht hi hz ad m c news hnl' hcl (by omega) (by omega) (by have hb:=hbytes;simp only[AK]at hb;omega)
   have hgr:=grown 0 (by omega) (Value.ownBlock (.slice none 0 0))
   simp only[AK,Bs,Array.empty_append]at hgr⊢;exact⟨_,_,hr,hgr.1,hgr.2,fun b hb=>.inr (by simp[ac]at hb;omega)⟩
  ·by_cases hfit:n+m<=cap
   ·have hfit':n*i.size+news.length<=cur.size:=by rw[hs,hcs,hnl,<-hsum];exact Nat.mul_le_mul_right _ hfit
    have hfit2:n*sz+news.length<=cur.size:=by rw[<-hs];exact hfit'
    have hr:=run_append_room (P:=C.P) w t ty e i ht hi g n cap cur hg ad m c news hnl' hcl h1 hfit hfit'
    rw[hs]at hr;refine⟨_,_,hr,⟨by rw[Al,hxl,hnl,hsum],.inr ⟨g,cap,_,rfl,Ad _,setRow_heap w g cur _ e _ hg,hfit,hcm,?_,?_⟩⟩,⟨⟨rfl,AE _⟩,rfl,rfl,by simp,fun k _ hk=>setRow_other w g k _ (fun e=>hk (by simp[Value.ownBlock,e]))⟩,
     fun b hb=>.inl hb⟩
    ·simp only[CC,Al,AS,A6,DG]
     rw[<-hcs];omega
    ·rw[htake,show(n+m)*sz=(xs++news).length by rw[Al,hxl,hnl,hsum]]
     exact Ce
   ·have holds:∀j u,xs[j]?=some u->w.cell? ((⟨g,0,none⟩:Addr).add j)=some u:=hown.cells (g:=g) rfl
    have hr:=run_append_grow (P:=C.P) w t ty e i z ht hi hz ⟨g,0,none⟩ n cap xs (by rw[hs];exact hxl) holds ad m c news hnl' hcl (by omega) (by omega) (growslice_fits (by omega) hbytes)
    have hgr:=grown cap (by omega) (Value.ownBlock (.slice (some ⟨g,0,none⟩) n cap))
    exact⟨_,_,hr,hgr.1,hgr.2,fun b hb=>.inr (by simp[ac]at hb;omega)⟩
theorem HI{t ty e:TypeId}(he:bX C.P t=some e)(hb:jn C.P e=true){v y:Value}{n m:Nat}{xs news:List Value}(hown:w.ownsRow 0 e 1 v n xs)
  (hy:iW w y m news)(h1:∀u∈news,u.oneCell'=true)(hroom:ar (n+m)) :
  ∃v' w',(Builtin.append_ #[t,t] ty #[v,y]).run C.P w=.ok v' w'/\w'.ownsRow 0 e 1 v' (n+m) (xs++news)/\GrB w w' v.ownBlock /\
   ∀b,ac v'=some b->ac v=some b\/w.heap.size<=b:=HH he (js hb) hown (HG hy) h1 hroom
theorem Ze{t ty e:TypeId}(he:bX C.P t=some e)(hb:jn C.P e=true){bs:Option Addr}{y:Value}{m:Nat}{news:List Value}
  (hy:iW w y m news)(h1:∀u∈news,u.oneCell'=true)(hm:m≠0)(hroom:ar m) :
  ∃v' w',(Builtin.append_ #[t,t] ty #[.slice bs 0 0,y]).run C.P w=.ok v' w'/\w'.ownsRow 0 e 1 v' m news/\GrB w w' none /\
   ∀b,ac v'=some b->w.heap.size<=b:=by
 cases bs with
 |none =>
  obtain⟨v',w',q1,q2,q3,q4⟩:=HI (ty:=ty) he hb (v:=.slice none 0 0) (n:=0) (xs:=[]) (World.ownsRow_nil _ _ _ _) hy h1 (by simpa using hroom)
  exact⟨v',w',q1,by simpa using q2,q3,fun b hb'=>(q4 b hb').resolve_left (by simp[ac])⟩
 |some a =>
  obtain⟨i,z,hi,hz,hs,hby,hzs⟩:=js hb;have ht:=gp he
  obtain⟨yo,c,rfl,hnl,hcell⟩:=hy;unfold ar at hroom;have hbytes:m*i.bytes<=140737488355328:=An (BO hroom hby) (by omega)
  obtain⟨ad,rfl,hcl⟩:=hcell (by omega)
  have hnl':news.length=m*i.size:=by rw[hs,As];exact hnl
  have hr:=run_append_grow (P:=C.P) w t ty e i z ht hi hz a 0 0 [] (by simp) (fun j v hj=>by simp at hj) ad m c news hnl' hcl (by omega) (by omega) (growslice_fits (by omega) (by simpa using hbytes))
  simp only[AK,Array.empty_append]at hr;have hge:=grownCap_ge w m 0 e
  have hcm:grownCap w m 0 e<=maxLen:=grownCap_le_maxLen w m 0 e (by unfold maxLen;omega)
  refine⟨_,_,hr,⟨by simp[hnl],.inr ⟨w.heap.size,_,_,rfl,Ad _,heap_alloc_new w.drew _,hge,hcm,?_,?_⟩⟩,⟨⟨rfl,BC _⟩,rfl,rfl,by simp,fun k hk _=>(World.grownBy_alloc w.drew _ none).block k hk (by simp)⟩,fun b hb'=>by simp[ac]at hb';omega⟩
  ·simp only[DE,CC,size_zeroCells,hzs,hnl]
   omega
  ·simp only[DF]
   rw[show m*1=news.length by simp[hnl]]
   exact Ce
theorem Zf(v:Value)(h:∀a,v≠.pointer a)(h':∀a,v≠.map a):v.ownBlock=ac v:=by
 cases v with
 |slice a n c=>cases a<;>rfl
 |pointer a=>exact absurd rfl (h a)
 |map a=>exact absurd rfl (h' a)
 |_=>rfl
theorem m9{B e size n:Nat}{v:Value}{xs:List Value}(h:w.ownsRow B e size v n xs):v.ownBlock=ac v:=by
 apply Zf
 all_goals
  intro p hp
  subst hp;rcases h.2 with⟨h1,_⟩|⟨g,cap,cur,h1,_⟩<;>cases h1
theorem HJ{e L n:Nat}{hd v:Value}{xs:List Value}(h:w.ownsRow 0 e 1 hd L xs)(hv:cA hd 0 n v)(hn:n<=L):w.ownsRow 0 e 1 v n (xs.take n):=by
 have hl:xs.length=L:=by simpa using h.1
 rcases h.2 with⟨rfl,rfl⟩|⟨g,cap,cur,rfl,_,hg,hnc,hcm,hcs,htake⟩
 ·rcases hv with⟨_,rfl,_,rfl⟩|⟨g,len,cap,ao,h1,_⟩
  ·exact⟨by simp,.inl ⟨rfl,rfl⟩⟩
  ·cases h1
 ·rcases hv with⟨h1,_⟩|⟨g',len,cap',ao,h1,rfl,_,h2,h3⟩
  ·cases h1
  ·cases h1
   rw[h3 (.inl rfl)];refine⟨by simp[hl];omega,.inr ⟨g,cap,cur,rfl,Ad _,hg,by omega,hcm,hcs,?_⟩⟩
   rw[<-htake,DH]
   congr 1
   omega
theorem O9{e L n sz:Nat}{hd v:Value}{xs:List Value}(h:w.ownsRow 0 e sz hd L xs)(hv:cA hd 0 n v)(hn:n<=L):w.ownsRow 0 e sz v n (xs.take (n*sz)):=by
 have hl:xs.length=L*sz:=h.1
 have hle:n*sz<=L*sz:=Nat.mul_le_mul_right _ hn
 rcases h.2 with⟨rfl,rfl⟩|⟨g,cap,cur,rfl,_,hg,hnc,hcm,hcs,htake⟩
 ·rcases hv with⟨_,rfl,_,rfl⟩|⟨g,len,cap,ao,h1,_⟩
  ·exact⟨by simp,.inl ⟨rfl,rfl⟩⟩
  ·cases h1
 ·rcases hv with⟨h1,_⟩|⟨g',len,cap',ao,h1,rfl,_,h2,h3⟩
  ·cases h1
  ·cases h1
   rw[h3 (.inl rfl)];refine⟨by rw[AS];omega,.inr ⟨g,cap,cur,rfl,Ad _,hg,by omega,hcm,hcs,?_⟩⟩
   rw[<-htake,DH]
   congr 1
   omega
theorem Pa{e L n sz:Nat}{hd v:Value}{xs:List Value}(h:w.ownsRow 0 e sz hd L xs)(hv:cA hd 0 n v)(hn:n<=L):m8 w v sz n (xs.take (n*sz)):=by
 have h2:=O9 h hv hn
 rcases h2.2 with⟨rfl,h3⟩|⟨g,cap,cur,h3,_⟩
 ·exact⟨none,0,by rw[h3],h2.1,fun h0=>by omega⟩
 ·subst h3
  refine⟨some ⟨g,0,none⟩,cap,rfl,h2.1,fun h0=>⟨_,rfl,fun j u hu=>?_⟩⟩
  have hj:j<n*sz:=by rw[<-h2.1];exact(AJ.1 hu).1
  rw[Addr.add_lit,AK,w5 h2 (b:=g) rfl j hj];exact hu
theorem HK{hd v:Value}{n:Nat}(hv:cA hd 0 n v):ac v=ac hd:=by
 rcases hv with⟨rfl,rfl,_⟩|⟨g,len,cap,ao,rfl,rfl,_,_,h⟩
 ·rfl
 ·rw[h (.inl rfl)];rfl
theorem lU{e L off n:Nat}{hd v:Value}{xs:List Value}(h:w.ownsRow 0 e 1 hd L xs)(hv:cA hd off n v)(hn:off+n<=L):iW w v n ((xs.drop off).take n):=by
 have hl:xs.length=L:=by simpa using h.1
 obtain⟨x,c,rfl⟩:=jZ hv;refine⟨x,c,rfl,by simp[hl];omega,fun h0=>?_⟩
 rcases hv with⟨_,_,_,h1⟩|⟨g,len,cap,ao,rfl,hvv,hc1,hc2,hao⟩
 ·omega
 ·cases hvv
  refine⟨ao,rfl,fun j u hu=>?_⟩
  rw[hao (.inr (by omega)),Addr.add_lit]
  rw[Au]at hu;split at hu
  ·rw[A9]at hu
   rw[iV h (b:=g) rfl (off+j) (by omega)];exact hu
  ·cases hu
theorem Pb{wF:World}(hc:∀p u,wF.cell? p=some u->w.cell? p=some u){v:Value}{n:Nat}{R:Nat->Value->Prop}(h:bE wF v n R){f:Nat->Value}(hR:∀i u,i<n->R i u->u=f i) :
  iW w v n ((List.range n).map f):=by
 obtain⟨x,c,rfl,_,hk⟩:=h;refine⟨x,c,rfl,by simp,fun h0=>?_⟩
 obtain⟨b,off,rfl,hk2⟩:=hk h0;refine⟨_,rfl,fun j u hu=>?_⟩
 have hj:j<n:=by have:=(AJ.1 hu).1;simpa using this
 obtain⟨u',h1,h2⟩:=hk2 j hj;have:u=f j:=by simp[hj]at hu;exact hu.symm
 rw[Addr.add_lit,this,<-hR j u' hj h2];exact hc _ _ h1
theorem w9{α β:Type}(l:List α)(z:α)(g:α->β):(List.range l.length).map (fun i=>g (l.getD i z))=l.map g:=by
 apply BA
 intro j
 by_cases hj:j<l.length<;>simp[hj]
theorem nf(k:IntKind)(l:Db):∀u∈l.map (Value.int k),u.oneCell'=true:=by
 intro u hu;obtain⟨_,_,rfl⟩:=AT.1 hu;rfl
theorem HL(l:List Bool):∀u∈l.map Value.bool,u.oneCell'=true:=by
 intro u hu;obtain⟨_,_,rfl⟩:=AT.1 hu;rfl
theorem Zg{k:IntKind}{c:SC}{K:Db->Rd Eff}{r:Eff}(hr:(qD k c K).run σ=some r){v:Value}(hc:ai (σ.env C.wF mu) c v)(h:St C σ mu a w) :
  ∃l,(K l).run σ=some r/\iW w v l.length (l.map (.int k)):=by
 cases c with
 |nil =>
  simp only[ai]at hc;subst hc;exact⟨[],hr,none,0,rfl,rfl,fun h0=>by simp at h0⟩
 |own o =>
  obtain⟨ob,ho,hr2⟩:=aZ hr;clear hr;cases ob with
  |ints e k' l =>
   simp only at hr2;split at hr2
   ·rename_i hk;subst hk
    refine⟨l,hr2,?_⟩
    have hv:v=(mu o).hd:=aP ho hc
    subst hv;have:=h.ob o _ ho
    have hcl:=lU this.2 (cL this.2) (by omega)
    rwa[Bp,AU (by simp)]at hcl
   ·simp[Rd.run]at hr2
  |_=>simp[Rd.run]at hr2
 |pre o n =>
  obtain⟨ob,ho,hr2⟩:=aZ hr;clear hr;cases ob with
  |ints e k' l =>
   simp only at hr2;split at hr2
   ·rename_i hk;subst hk
    obtain⟨hn,hv⟩:=aP ho hc;have hn':n<=l.length:=hn
    refine⟨l.take n,hr2,?_⟩
    have:=h.ob o _ ho
    have hcl:=lU this.2 hv (by omega)
    rw[AS,CD hn',B5]
    simpa using hcl
   ·simp[Rd.run]at hr2
  |_=>simp[Rd.run]at hr2
 |sub o off n =>
  obtain⟨ob,ho,hr2⟩:=aZ hr;clear hr;cases ob with
  |ints e k' l =>
   simp only at hr2;split at hr2
   ·rename_i hk;subst hk
    obtain⟨hn,hv⟩:=aP ho hc;have hn':off+n<=l.length:=hn
    refine⟨(l.drop off).take n,hr2,?_⟩
    have:=h.ob o _ ho
    have hcl:=lU this.2 hv hn'
    rw[AS,A6,CD (by omega),B5,List.map_drop]
    exact hcl
   ·simp[Rd.run]at hr2
  |_=>simp[Rd.run]at hr2
 |row o ver i =>
  obtain⟨ob,ho,hr2⟩:=aZ hr;clear hr;cases ob with
  |rows ver' e ei k' l =>
   simp only at hr2;split at hr2
   ·rename_i hk
    obtain⟨rfl,rfl⟩:=hk;obtain⟨_,hx⟩:=aP ho hc;obtain⟨hins,ψ⟩:=hx rfl;have hlt':i<l.length:=ψ
    obtain⟨_,_,h3⟩:=h.ob o _ ho;have hrow:=h3 i v _ hins (AF hlt')
    have hgd:l.getD i []=l[i]:=by simp[List.getD,hlt']
    refine⟨_,hr2,?_⟩
    rw[hgd];have hcl:=lU hrow (cL hrow) (by omega)
    rwa[Bp,AU (by simp)]at hcl
   ·simp[Rd.run]at hr2
  |_=>simp[Rd.run]at hr2
 |ro d =>
  cases d with
  |ints k' l =>
   simp only[qD]at hr;split at hr
   ·rename_i hk;subst hk
    refine⟨l,hr,?_⟩
    have hcl:=Pb (w:=w) (fun p u hp=>(h.cells p u hp).2) hc.2 (f:=fun i=>.int k' (l.getD i 0)) (fun i u _ hu=>hu)
    rwa[w9 l 0 (Value.int k')]at hcl
   ·simp[Rd.run]at hr
  |_=>simp[qD,Rd.run]at hr
 |_=>simp[qD,Rd.run]at hr
theorem Pc(l:List (List UInt8)):∀u∈l.map oF,u.oneCell'=true:=by
 intro u hu;obtain⟨_,_,rfl⟩:=AT.1 hu;rfl
theorem Zh{c:SC}{K:List (List UInt8)->Rd Eff}{r:Eff}(hr:(GS c K).run σ=some r){v:Value}(hc:ai (σ.env C.wF mu) c v)(h:St C σ mu a w) :
  ∃l,(K l).run σ=some r/\iW w v l.length (l.map oF):=by
 cases c with
 |own o =>
  obtain⟨ob,ho,hr2⟩:=aZ hr;clear hr;cases ob with
  |strs e l =>
   refine⟨l,hr2,?_⟩
   have hv:v=(mu o).hd:=aP ho hc
   subst hv;have:=h.ob o _ ho
   have hcl:=lU this.2 (cL this.2) (by omega)
   rwa[Bp,AU (by simp)]at hcl
  |_=>simp[Rd.run]at hr2
 |_=>simp[GS,Rd.run]at hr
theorem Zi{c:SC}{K:List Bool->Rd Eff}{r:Eff}(hr:(wA c K).run σ=some r){v:Value}(hc:ai (σ.env C.wF mu) c v)(h:St C σ mu a w) :
  ∃l,(K l).run σ=some r/\iW w v l.length (l.map .bool):=by
 cases c with
 |nil =>
  simp only[ai]at hc;subst hc;exact⟨[],hr,none,0,rfl,rfl,fun h0=>by simp at h0⟩
 |own o =>
  obtain⟨ob,ho,hr2⟩:=aZ hr;clear hr;cases ob with
  |bools e l =>
   refine⟨l,hr2,?_⟩
   have hv:v=(mu o).hd:=aP ho hc
   subst hv;have:=h.ob o _ ho
   have hcl:=lU this.2 (cL this.2) (by omega)
   rwa[Bp,AU (by simp)]at hcl
  |_=>simp[Rd.run]at hr2
 |ro d =>
  cases d with
  |bools l =>
   refine⟨l,hr,?_⟩
   have hcl:=Pb (w:=w) (fun p u hp=>(h.cells p u hp).2) hc.2 (f:=fun i=>.bool (l.getD i false)) (fun i u _ hu=>hu)
   rwa[w9 l false Value.bool]at hcl
  |_=>simp[wA,Rd.run]at hr
 |_=>simp[wA,Rd.run]at hr
end
end Go.Sx
