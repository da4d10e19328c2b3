/- SxX SxY SxYs SxZ -/
import Derived.KernelRfl
import Derived.Test.YtkmldclpaniclaaGreatSxW
set_option linter.unusedSimpArgs false
set_option linter.unusedVariables false
set_option linter.defProp false
section
namespace Go.Sx
open Go.RowKit
theorem St.take1{C:Cx}{σ:State}{mu:Nat->Img}{tmps:Array Value}{r:Nat}{rs:List Nat}{w:World}(h:St C σ mu ⟨tmps,(r::rs).map fun r=>{ target:=.collected r,args:=#[] }⟩ w)  :
  w.heap[r]?=some (.deferred (some []))/\St C σ mu ⟨tmps,rs.map fun r=>{ target:=.collected r,args:=#[] }⟩ (w.putObj r (.deferred none)):=by
 obtain⟨rs',k1,k2,k3⟩:=h.df;have hinj:rs'=r::rs:=by
  have e:∀(l l':List Nat),l.map (fun r:Nat=>({ target:=Target.collected r,args:=#[] }:Deferred))=l'.map (fun r:Nat=>({ target:=Target.collected r,args:=#[] }:Deferred))->l=l':=by
   intro l
   induction l with
   |nil=>intro l' hl;cases l' with|nil=>rfl|cons y l'=>cases hl
   |cons x l ih =>
    intro l' hl
    cases l' with
    |nil=>cases hl
    |cons y l' =>
     injection hl with h1 h2
     injection h1 with h3
     injection h3 with h4
     rw[h4,ih l' h2]
  exact(e _ _ k1).symm
 subst hinj;obtain⟨q1,q2,q3⟩:=k3 r (by simp)
 have hoth:∀k,k≠r->(w.putObj r (.deferred none)).heap[k]?=w.heap[k]?:=fun k hk=>World.putObj_heap_other hk
 refine⟨q2,⟨h.os.os,h.os.drawn⟩,h.tape,h.output,by rw[World.putObj_size];exact h.size,fun k hk hm=>?_,fun p u hp=>?_,h.sz,?_,h.fr,fun o ob ho=>?_,h.nd,h.sep,h.pins⟩
 ·rw[hoth k (by omega)];exact h.block k hk hm
 ·obtain⟨z1,z2⟩:=h.cells p u hp
  refine⟨z1,?_⟩
  have hne:p.block≠r:=fun e=>by
   simp only[World.cell?,e,q2]at z2;cases z2
  rw[World.cell?_of_block (hoth _ hne)];exact z2
 ·rw[Aa]at k2
  refine⟨rs,rfl,k2.2,fun r' hr'=>?_⟩
  obtain⟨z1,z2,z3⟩:=k3 r' (Ab _ hr');exact⟨z1,by rw[hoth r' (fun e=>k2.1 (e ▸ hr'))];exact z2,z3⟩
 ·exact(h.ob o ob ho).keep (b7.refl _) fun b hb=>hoth b fun e=>q3 o ob ho (e ▸ hb)
theorem ay.leave{C:Cx}{σ:State}{a:Act}{w:World}(h:ay C σ a w):∃w',ay C σ ⟨a.tmps,[]⟩ w'/\∀fn R,LeavesInM Fence.wide 0 C.P fn a.tmps R [] .returning w'->LeavesInM Fence.wide 0 C.P fn a.tmps R a.defers .returning w:=by
 obtain⟨wG,mu,hg,h⟩:=h;obtain⟨tmps,ds⟩:=a;have k0:∃rs:List Nat,ds=rs.map fun r=>{ target:=.collected r,args:=#[] }:=let⟨rs,k1,_⟩:=h.df;⟨rs,k1⟩
 obtain⟨rs,rfl⟩:=k0
 induction rs generalizing w with
 |nil=>exact⟨w,⟨wG,mu,hg,h⟩,fun _ _ h=>h⟩
 |cons r rs ih =>
  obtain⟨q1,q2⟩:=h.take1;obtain⟨w',h1,h2⟩:=ih q2;exact⟨w',h1,fun fn R hl=>⟨by simp,.inl ⟨r,_,rfl,run_takeDeferred q1,h2 fn R hl⟩⟩⟩
theorem al1{d:FC}{rc:RC}{ob:Ob}(h:gS d rc=some ob):ob.shp.len=d.slen:=by
 unfold gS at h;split at h<;>first|(split at h<;>first|(cases h;rfl)|cases h)|(cases h;rfl)|cases h
theorem al2{P:Program}{Γ:FuncId->Option Ctr}(hΓ:di P Γ){f:FuncId}{fn:Func}{c:Code}{mt:List (Nat×Nat)}{ct:List AD->Option Post}
  (hf:P.funcs[f]?=some fn)(hb:fn.body=some c)(hname:(fn.name == "runtime.NumGoroutine")=false)(hpid:fk (dZ mt)=true)
  (h:∀ds p,ct ds=some p->p.pre->∃wr ann,aE P Γ wr ann fn c mt ds p):Fits P f ⟨mt,ct⟩:=by
 refine⟨⟨fn,hf,by simp[hb],hname⟩,?_,fun hm=>by
  have hm:mt=[(0,99),(0,99)]:=hm
  rw[hm]at hpid;exact absurd hpid (by decide),fun hm=>by
  have hm:mt=[(0,98),(0,98)]:=hm
  rw[hm]at hpid;exact absurd hpid (by decide),fun hm=>by
  have hm:mt=[(0,97),(0,97)]:=hm
  rw[hm]at hpid;exact absurd hpid (by decide),fun hm=>by
  have hm:mt=[(0,96),(0,96)]:=hm
  rw[hm]at hpid;exact absurd hpid (by decide),fun hm=>by
  have hm:mt=[(0,93),(0,93)]:=hm
  rw[hm]at hpid;exact absurd hpid (by decide)⟩
 intro w wF vs ds p ms obs hct ξ hvl hml hol hwl hmo hsep hwr hwF hargs
 have hpn:=kU hpid
 obtain⟨wr,ann,ω⟩:=h ds p hct ξ;unfold aE at ω;split at ω
 ·exact ω.elim
 rename_i hp hhp
 let C:Cx:=⟨P,ds.length+(fn.ntmps-ds.length),w,wF,fun b=>∃m∈ms,b∈m.blocks,fun o=>match cE o (ek mt p.wrs)with|true=>none|false=>lk ((dZ mt).zip ms) o⟩
 let mu:Nat->Img:=fun o=>match lk ((dZ mt).zip ms) o with
  |some m=>m
  |none=>⟨undef,[]⟩
 have hml':ms.length=(dZ mt).length:=by simpa[dZ]using hml
 have hmu:∀(x i j:Nat),mt[x]?=some (i,j)->∃m,ms[x]?=some m/\mu (cM i j)=m/\lk ((dZ mt).zip ms) (cM i j)=some m:=fun x i j hx=>by
  have h1:=jB hx
  obtain⟨m,hm⟩:=P9 (AI h1) hml';obtain⟨y,h2,h3⟩:=Ii hm;have:y=x:=yb hpn h2 h1
  subst this;exact⟨m,h3,by simp only[mu,hm],hm⟩
 have hcell:∀{i j:Nat} {d:FC},pi ds i j=some d->∃u,gw wF mt ms obs i j d u:=fun {i j d} hc=>by
  unfold pi at hc;split at hc
  ·rename_i d' hd
   split at hc
   ·cases hc
    obtain⟨v,_,h2⟩:=hargs i _ hd;exact⟨v,h2⟩
   ·cases hc
  ·rename_i cs hd
   obtain⟨v,_,arr,_,_,h4⟩:=hargs i _ hd;obtain⟨u,_,h5⟩:=h4 j d hc;exact⟨u,h5⟩
  ·rename_i off n d' hd
   split at hc
   ·cases hc
    obtain⟨v,_,h2⟩:=hargs i _ hd;simp only[dh]at h2;cases hx:bY mt i 0 with
    |none=>rw[hx]at h2;exact h2.elim
    |some x =>
     rw[hx]at h2;obtain⟨m,ob,q1,q2,q3,q4,q5,q6,q7⟩:=h2;exact⟨m.hd,q7,by rw[hx];exact⟨m,ob,q1,q2,rfl,q3⟩⟩
   ·cases hc
  ·cases hc
 let σ:State:=⟨ph mt 0 ds,hp⟩
 have hlive:∀{x i j:Nat},mt[x]?=some (i,j)->∃ob,σ.H (cM i j)=some (some ob):=fun {x i j} hx =>
  I0 hhp _ (AI (jB hx))
 have hnfz:∀{o:Nat} {ob:Ob},σ.H o=some (some ob)->ob.isFz=false:=fun {o ob} ho=>by
  obtain⟨x,i,j,ob',rc,_,_,_,h4,h5⟩:=rQ hhp o _ ho;cases h5;exact ak4 h4
 have hob:∀o ob,σ.H o=some (some ob)->∃(x:Nat) (m:Img),(dZ mt)[x]?=some o/\ms[x]?=some m/\mu o=m/\ob.shp.ver=0/\aR (σ.env C.wF mu) w m ob/\m.blocks.Nodup:=fun o ob ho=>by
  have ho':=ho
  obtain⟨x,i,j,ob',rc,h1,rfl,h3,h45,h6⟩:=rQ hhp o _ ho;cases h6;obtain⟨m,k1,k2,_⟩:=hmu x i j h1;unfold nH at h45;split at h45
  ·rename_i cs hcs
   obtain⟨rfl,hcs2⟩:=ak5 hcs;split at h45
   ·rename_i cs'
    split at h45
    ·cases h45
     obtain⟨q2,q4⟩:obs[x]?=some (.bx cs)/\∀(j:Nat) (d:FC),cs[j]?=some d->dt d=false->∃u,m.ins[j]?=some (.agg #[u])/\(∃a n c,u=.slice a n c/\n<=c)/\bp wF u d:=by
      rcases hcs2 with hcs2|⟨F,s0,hcs2,rfl⟩
      ·obtain⟨v,_,hv⟩:=hargs i _ hcs2
       simp only[dh]at hv;rw[IZ hpn h1]at hv;obtain⟨m',q1,q2,q3,q4⟩:=hv;rw[k1]at q1;cases q1;exact⟨q2,q4⟩
      ·obtain⟨v,_,hv⟩:=hargs i _ hcs2
       simp only[dh]at hv;rw[IZ hpn h1]at hv;obtain⟨m',b',q1,q2,_⟩:=hv;refine⟨q2,fun j d hj hs=>?_⟩
       match j,hj with
       |0,hj=>simp at hj;subst hj;cases hs
       |j+1,hj=>simp at hj
     obtain⟨⟨b,arr,t,r1,r2,r3,r4,r5⟩,r6⟩:=hmo x m _ k1 q2;refine⟨x,m,jB h1,k1,k2,rfl,⟨b,arr,t,r1,r2,r3,by rw[r4,I2],fun k c hk=>?_⟩,r6⟩
     obtain⟨d,hd,rfl⟩:=Q8 hk;obtain⟨u,t1,t2,t3⟩:=r5 k d hd;refine⟨u,t1,t2,?_⟩
     rw[AK];cases hs:dt d with
     |true=>simp only[AV];exact Im t3 hs _
     |false =>
      simp only[Bi,Ag];have t4:=In t3 hs
      obtain⟨u',t5,t6,t7⟩:=q4 k d hd hs;rw[t4]at t5;simp at t5
      rw[<-t5]at t6 t7;refine⟨⟨t6,t7⟩,t2,?_⟩
      have:(σ.env C.wF mu).st (cM i 0)=.live (Ob.box (ko (cM i 0) 0 cs)).shp:=cr ho'
      rw[this];intro _
      show(mu (cM i 0)).ins[k]?=_
      rw[k2];exact t4
    ·cases h45
   ·cases h45
  obtain⟨d,h4,h5⟩:∃d,pi ds i j=some d/\gS d rc=some ob:=by
   split at h45
   ·exact⟨_,by assumption,h45⟩
   ·cases h45
  obtain⟨u,hu⟩:=hcell h4;have hu2:=hu.2
  rw[IZ hpn h1]at hu2;obtain⟨m',ob2,q1,q2,q3,q4⟩:=hu2;rw[k1]at q1;cases q1;obtain⟨r1,r2⟩:=hmo x m ob2 k1 q2;obtain⟨ob3,q,r3,_⟩:=hwr x ob2 rc q2 h3;obtain⟨r4,r5⟩:=ak6 (E:=σ.env C.wF mu) (fun _ _ h=>h) q4 r3 h5 r1
  exact⟨x,m,jB h1,k1,k2,r5,r4,r2⟩
 have hargC:∀{i j:Nat} {d:FC} {u:Value},gw wF mt ms obs i j d u->ai (σ.env C.wF mu) (rH mt i j d) u/\u.oneCell'=true:=fun {i j d u} hu=>by
  refine⟨?_,hu.1⟩
  have hu2:=hu.2
  unfold rH;split
  ·rename_i hmem
   rw[nt]at hmem;cases hmt:bY mt i j with
   |none=>rw[hmt]at hmem;cases hmem
   |some x =>
    rw[hmt]at hu2;obtain⟨m,ob2,q1,q2,q3,q4⟩:=hu2;obtain⟨ob,hl⟩:=hlive (jw hmt);obtain⟨m',k1,k2,_⟩:=hmu x i j (jw hmt);rw[q1]at k1;cases k1;refine⟨hu.1,?_⟩
    have:(σ.env C.wF mu).st (cM i j)=.live ob.shp:=cr hl (hnfz hl)
    rw[this]
    show u=(mu (cM i j)).hd
    rw[k2,q3]
  ·rename_i hmem
   rw[nt]at hmem;cases hmt:bY mt i j with
   |none =>
    rw[hmt]at hu2;exact(jY (E:=σ.env C.wF mu) hu2).1
   |some x=>rw[hmt]at hmem;cases hmem
 have hs:ay C σ { tmps:=vs.toArray++Array.replicate (fn.ntmps-vs.toArray.size) undef,defers:=[] } w:=by
  refine St.ex (C:=C) (mu:=mu) ⟨.refl _,rfl,rfl,AE _,fun _ _ _=>rfl,fun q u hq=>?_,?_,kG.nil,fun t sv ht=>?_,fun o ob ho=>?_,fun o ob ho=>?_,fun o o' ob ob' hne ho ho' b hb hb'=>?_,fun o m hm=>?_⟩
  ·obtain⟨h1,h2⟩:=hwF q u hq
   exact⟨fun o ob ho hb=>by
    obtain⟨x,m,_,h3,h4,_⟩:=hob o ob ho;rw[h4]at hb;exact h2 m (AI h3) hb,h1⟩
  ·simp[C,hvl]
  ·obtain⟨i,d,h1,h2,rfl⟩:=Q9 ht
   rw[AK]at h2;subst h2;obtain⟨v,h3,h4⟩:=hargs t d h1;have hv:(vs.toArray++Array.replicate (fn.ntmps-vs.toArray.size) undef).getD t undef=v:=by
    have ψ:=(AJ.1 h3).1
    rw[BM,Array.getElem?_append_left (by simpa using ψ)]
    simp[h3]
   simp only[hv];cases d with
   |c d=>exact(hargC h4).1
   |agg cs =>
    obtain⟨arr,h5,h6,h7⟩:=h4;refine⟨arr,h5,by rw[h6,Rb],fun k c hk=>?_⟩
    obtain⟨d,h8,rfl⟩:=Ra hk;rw[AK];obtain⟨u,h9,h10⟩:=h7 k d h8;exact⟨u,h9,(hargC h10).2,(hargC h10).1⟩
   |box cs =>
    simp only[dh]at h4
    show aw C.P _ (match memP t 0 mt with|true=>SV.c (.ptr (cM t 0) 0)|false=>SV.c (.rob cs 0)) v
    rw[nt];cases hmt:bY mt t 0 with
    |none =>
     rw[hmt]at h4;obtain⟨b,off,h5,h6⟩:=h4;exact⟨b,off,h5,fun j fc hj=>h6 j fc (by rwa[AK]at hj)⟩
    |some x =>
     rw[hmt]at h4;obtain⟨m,q1,q2,q3,_⟩:=h4;have hx:=jw hmt
     obtain⟨ob,hl⟩:=hlive hx;obtain⟨m',k1,k2,_⟩:=hmu x t 0 hx;rw[q1]at k1;cases k1;obtain⟨⟨b,arr,ty,r1,_,_,_,_⟩,_⟩:=hmo x m _ q1 q2;obtain⟨x2,i2,j2,ob2,rc,s1,s2,s3,s4,s5⟩:=rQ hhp (cM t 0) _ hl;have hx2:x2=x:=yb hpn (jB s1) (by rw[<-s2];exact jB hx)
     subst hx2;rw[hx]at s1;cases s1;cases s5;unfold nH at s4;have hb:nG ds t 0=some cs:=by simp[nG,h1]
     rw[hb]at s4;simp only at s4;split at s4
     ·split at s4
      ·rename_i hne
       cases s4;have hv1:v.oneCell'=true:=by rw[q3,r1];rfl
       refine⟨hv1,?_⟩
       have:(σ.env C.wF mu).st (cM t 0)=.live (Ob.box (ko (cM t 0) 0 cs)).shp:=cr hl
       rw[this];refine⟨?_,b,?_,by rw[q3,r1]⟩
       ·show 0<(ko (cM t 0) 0 cs).length
        rw[I2];exact DD.2 hne.2
       ·show ac (mu (cM t 0)).hd=some b
        rw[k2,r1];rfl
      ·cases s4
     ·cases s4
   |bb cs=>exact h4
   |bf P' F=>exact h4
   |fv F=>exact h4
   |fvs F s0 =>
    simp only[dh]at h4;cases hmt:bY mt t 0 with
    |none=>rw[hmt]at h4;exact h4.elim
    |some x =>
     rw[hmt]at h4;obtain⟨m,b,q1,q2,q3,q4,q5⟩:=h4;have hx:=jw hmt
     obtain⟨ob,hl⟩:=hlive hx;obtain⟨m',k1,k2,_⟩:=hmu x t 0 hx;rw[q1]at k1;cases k1;refine⟨q4,?_⟩
     have:(σ.env C.wF mu).st (cM t 0)=.live ob.shp:=cr hl (hnfz hl)
     rw[this];refine⟨b,?_,q5⟩
     show(mu (cM t 0)).hd=_
     rw[k2,q3]
   |ma x=>exact(show False from h4).elim
   |cut off n d =>
    simp only[dh]at h4;cases hmt:bY mt t 0 with
    |none=>rw[hmt]at h4;exact h4.elim
    |some x =>
     rw[hmt]at h4;obtain⟨m,ob2,q1,q2,q3,q4,q5,q6,q7⟩:=h4;have hx:=jw hmt
     obtain⟨ob,hl⟩:=hlive hx;obtain⟨m',k1,k2,_⟩:=hmu x t 0 hx;rw[q1]at k1;cases k1;obtain⟨x2,i2,j2,ob3,rc,s1,s2,s3,s4,s5⟩:=rQ hhp (cM t 0) _ hl;have hx2:x2=x:=yb hpn (jB s1) (by rw[<-s2];exact jB hx)
     subst hx2;rw[hx]at s1;cases s1;cases s5;unfold nH at s4;have hb:nG ds t 0=none:=by simp[nG,h1]
     have hc:pi ds t 0=some d:=by simp[pi,h1]
     rw[hb]at s4;simp only[hc]at s4;refine⟨q6,?_⟩
     have:(σ.env C.wF mu).st (cM t 0)=.live ob.shp:=cr hl (hnfz hl)
     rw[this];refine⟨?_,?_⟩
     ·rw[al1 s4];exact q4
     ·show cA (mu (cM t 0)).hd off n v
      rw[k2];exact q5
  ·obtain⟨x,m,_,_,h3,_,h5,_⟩:=hob o ob ho
   rw[h3];exact h5
  ·obtain⟨x,m,_,h2,h3,_,_,h6⟩:=hob o ob ho
   rw[h3];exact⟨h6,fun b hb=>.inl ⟨m,AI h2,hb⟩⟩
  ·obtain⟨x,m,h1,h2,h3,_⟩:=hob o ob ho
   obtain⟨x',m',h1',h2',h3',_⟩:=hob o' ob' ho';rw[h3]at hb;rw[h3']at hb';refine hsep x x' m m' (fun hc=>hne ?_) h2 h2' b hb hb'
   subst hc;rw[h1]at h1';exact BE h1'
  ·have hm:(match cE o (ek mt p.wrs)with|true=>none|false=>lk ((dZ mt).zip ms) o)=some m:=hm
   split at hm
   ·cases hm
   obtain⟨x,h1,h2⟩:=Ii hm;obtain⟨ob,hl⟩:=I0 hhp o (AI h1);have hl:σ.H o=some (some ob):=hl
   rw[cr hl (hnfz hl)];have:mu o=m:=by simp only[mu,hm]
   exact⟨by rw[this],fun _=>this⟩
 have hpins:∀o m,C.pin o=some m->o∈ek mt p.wrs:=fun o m hm=>by
  have hm:(match cE o (ek mt p.wrs)with|true=>none|false=>lk ((dZ mt).zip ms) o)=some m:=hm
  split at hm
  ·cases hm
  ·exact Rh (by assumption)
 have hwp:=aj7 (C:=C) (k:=⟨P,Γ,wr,ds.length+(fn.ntmps-ds.length),ek mt p.wrs,false⟩) (ro:=none) rfl hΓ rfl hpins c 0 ann σ _ ω _ _ hs
 refine callsIn_wide.1 (callsIn_of_wp_marks (F:=Fence.wide) (n:=0) hf hb trivial (wpIn_mono (F:=Fence.wide) hwp ?_))
 rintro e a0 w0' ⟨σ',hsE,hK⟩
 obtain⟨w',⟨wG0,mu0,hg0,hst0⟩,hlv⟩:=hsE.leave;obtain⟨a',ha'⟩:∃a':Act,a'=⟨a0.tmps,[]⟩:=⟨_,rfl⟩;rw[<-ha']at hst0;have hat:a'.tmps=a0.tmps:=by rw[ha']
 have fin:∀(svs:List SV) (us:List (Nat×Nat)) (q q':Prop),eG (pj P σ') fn.results.toList=some svs->xY (me σ' svs p.ret) svs p.ret=some (us,q)->fk (us.map (·.2))=true->rP (ek mt p.wrs) us=true ->
   nJ (me σ' svs p.ret) (ek mt p.wrs) (mf p.wrs)=some q'->q/\q'->∃v,(results fn a'.tmps).run P w'=.ok v w'/\∃(v':Value) (ms':List Img) (img:Nat->Img) (wG:World),Ending.returned v=.returned v'/\After w w' ms/\ms'.length=ms.length /\
   (∀(x:Nat) (m m':Img) (ob:Ob) (rc:RC),ms[x]?=some m->ms'[x]?=some m'->obs[x]?=some ob->p.wrs[x]?=some rc->rc.isGone=false ->
    m'=m/\m'.hd=m.hd/\m'.blocks.Nodup/\(∀b∈m'.blocks,b∈m.blocks)/\∃ob' q,dz ob rc=some (ob',q)/\aR (E0 w) w' m' ob') /\
   GrowW w w' wF wG ms p.wrs/\RetRep (fun b=>w.heap.size<=b\/kb ms p.wrs b) w' wG img p.ret v':=by
  intro svs us q q' h1 h2 h3 h4 h5 h6
  obtain⟨rs,r1,r2,r30⟩:=ak0 (C:=C.fz wG0) (fn:=fn) h1 hst0;obtain⟨oc1,oc2⟩:=IK (al0 (σ:=σ') (svs:=svs) (rv:=p.ret));obtain⟨wG,mu',hg1,hst,he⟩:=hst0.cvs oc1 oc2;have hst:St (C.fz wG) (me σ' svs p.ret) mu' a' w':=hst
  have r3:∀(i:Nat) (sv:SV),svs[i]?=some sv->∃v,rs[i]?=some v/\aw P ((me σ' svs p.ret).env wG mu') sv v:=fun i sv hi=>by
   obtain⟨v,q1,q2⟩:=r30 i sv hi;exact⟨v,q1,q2.mono he⟩
  have hg:GrowF C wG:=hg0.trans hg1
  have hpinE:∀(x:Nat) (m:Img) (rc:RC),ms[x]?=some m->p.wrs[x]?=some rc->rc.isGone=false->∃o obf q,(dZ mt)[x]?=some o/\o∈ek mt p.wrs/\(me σ' svs p.ret).H o=some (some obf)/\obf.isFz=false/\iq o obf rc=some q/\q/\mu' o=m:=fun x m rc k1 krc kg=>by
   have ψ:x<mt.length:=by
    have:=(AJ.1 k1).1
    have hml2:ms.length=mt.length:=hml
    omega
   obtain⟨i,j,hx⟩:∃i j,mt[x]?=some (i,j):=⟨mt[x].1,mt[x].2,AF ψ⟩;obtain⟨y,y1,y2⟩:=Ri hx krc kg;obtain⟨obf,q2,r8,r9,r10⟩:=Rj h5 h6.2 y _ _ y1 y2;have hmem:cM i j∈ek mt p.wrs:=AI y1
   obtain⟨m2,k3,k4,k5⟩:=hmu x i j hx;rw[k1]at k3;cases k3;have hpin:C.pin (cM i j)=some m:=by
    show(match cE (cM i j) (ek mt p.wrs)with|true=>none|false=>lk ((dZ mt).zip ms) (cM i j))=some m
    cases hn:cE (cM i j) (ek mt p.wrs)with
    |true=>exact absurd hmem (jv hn)
    |false=>exact k5
   have hnf:=ak8 r9
   have h9:=hst.pins _ m hpin
   rw[cr r8 hnf]at h9;exact⟨cM i j,obf,q2,jB hx,hmem,r8,hnf,r9,r10,h9.2 (ak7 r9)⟩
  have hwx:∀(x:Nat) (m:Img),ms[x]?=some m->∃rc,p.wrs[x]?=some rc:=fun x m hx =>
   ⟨_,AF (by
    have:=(AJ.1 hx).1
    have hml2:ms.length=mt.length:=hml
    have hwl2:p.wrs.length=mt.length:=hwl
    omega)⟩
  have hM:∀i o ob,(i,o)∈us->(me σ' svs p.ret).H o=some (some ob)->∀b∈(mu' o).blocks,w.heap.size<=b\/kb ms p.wrs b:=by
   intro i o ob hio hoo b hb
   rcases(hst.nd o ob hoo).2 b hb with⟨m,hm,hbm⟩|h7
   ·right
    obtain⟨x,hx⟩:=Ah hm;obtain⟨rc,hrc⟩:=hwx x m hx;cases hgn:rc.isGone with
    |true=>exact⟨x,m,rc,hx,hrc,hgn,hbm⟩
    |false =>
     exfalso
     obtain⟨o2,obf,q2,k1,k2,r8,_,_,_,r9⟩:=hpinE x m rc hx hrc hgn;have hno:∀{l:List (Nat×Nat)},rP (ek mt p.wrs) l=true->(i,o)∈l->o ∉ ek mt p.wrs:=fun {l}=>by
      induction l with
      |nil=>intro _ h;simp at h
      |cons y l ih =>
       intro hn hy
       simp only[rP,AG]at hn;rcases AH.1 hy with hy|hy
       ·subst hy;exact jv hn.1
       ·exact ih hn.2 hy
     have hne:o≠o2:=fun hc=>hno h4 hio (by rw[hc];exact k2)
     rw[<-r9]at hbm;exact hst.sep o _ ob obf hne hoo r8 b hb hbm
   ·exact .inl h7
  obtain⟨img,r4⟩:=ak3 (Nw:=fun b=>w.heap.size<=b\/kb ms p.wrs b) hst h2 h6.1 hM (kU h3) r1 r3
  refine⟨_,r2,_,ms,img,wG,rfl,⟨hst.os,hst.tape,hst.output,hst.size,fun b hb hm=>hst.block b hb fun⟨m,k1,k2⟩=>hm m k1 k2⟩,rfl,?_,⟨hg.kept,fun q u hq=>⟨(hst.cells q u hq).2,?_⟩⟩,r4⟩
  ·intro x m m' ob rc k1 k2 k3 k4 kg
   rw[k1]at k2;cases k2;obtain⟨r5,r6⟩:=hmo x m ob k1 k3;obtain⟨ob',q1,r7,_⟩:=hwr x ob rc k3 k4;obtain⟨o,obf,q2,_,_,r8,hnf,r9,r10,h10⟩:=hpinE x m rc k1 k4 kg;have r12:=ak9 (w:=w') (w0:=w) r7 r9 r10 (hst.ob _ _ r8) rfl (cr r8 hnf)
   rw[h10]at r12;exact⟨rfl,rfl,r6,fun b hb=>hb,ob',q1,r7,r12⟩
  ·rcases hg.new q u hq with h7|h7|⟨m,hm,hbm⟩
   ·exact .inl h7
   ·exact .inr (.inl h7)
   ·obtain⟨x,hx⟩:=Ah hm
    obtain⟨rc,hrc⟩:=hwx x m hx;cases hgn:rc.isGone with
    |true=>exact .inr (.inr ⟨x,m,rc,hx,hrc,hgn,hbm⟩)
    |false =>
     exfalso
     obtain⟨o2,obf,q2,k1,k2,r8,_,_,_,r9⟩:=hpinE x m rc hx hrc hgn;rw[<-r9]at hbm;exact(hst.cells q u hq).1 o2 obf r8 hbm
 have fin2:IU P fn.results.toList mt p .ret σ'->∃v,(results fn a'.tmps).run P w'=.ok v w'/\∃(v':Value) (ms':List Img) (img:Nat->Img) (wG:World),Ending.returned v=.returned v'/\After w w' ms/\ms'.length=ms.length /\
   (∀(x:Nat) (m m':Img) (ob:Ob) (rc:RC),ms[x]?=some m->ms'[x]?=some m'->obs[x]?=some ob->p.wrs[x]?=some rc->rc.isGone=false ->
    m'=m/\m'.hd=m.hd/\m'.blocks.Nodup/\(∀b∈m'.blocks,b∈m.blocks)/\∃ob' q,dz ob rc=some (ob',q)/\aR (E0 w) w' m' ob') /\
   GrowW w w' wF wG ms p.wrs/\RetRep (fun b=>w.heap.size<=b\/kb ms p.wrs b) w' wG img p.ret v':=fun hK=>by
  simp only[IU]at hK;split at hK
  ·exact hK.elim
  ·split at hK
   ·exact hK.elim
   ·split at hK
    ·exact hK.elim
    ·split at hK
     ·exact hK.elim
     ·split at hK
      ·exact hK.elim
      ·rename_i q' hq'
       exact fin _ _ _ _ ‹_› ‹_› ‹_› ‹_› ‹_› hK
 rw[hat]at fin2;cases e with
 |normal=>exact hlv fn _ (fin2 hK)
 |ret=>exact hlv fn _ (fin2 hK)
 |_=>exact hK.elim
end Go.Sx
end
section
namespace Go.Sx
open Go.RowKit
def aF(fn:Func):Code :=
 match fn.body with
 |some c=>c
 |none=>.skip
theorem rR{P:Program}{Γ:FuncId->Option Ctr}(hΓ:di P Γ){f:FuncId}{fn:Func}{mt:List (Nat×Nat)}{ct:List AD->Option Post}
  (hf:P.funcs[f]?=some fn)(hb:fn.body.isSome=true)(hname:(fn.name == "runtime.NumGoroutine")=false)(hpid:fk (dZ mt)=true)
  (h:∀ds p,ct ds=some p->p.pre->∃wr ann,aE P Γ wr ann fn (aF fn) mt ds p):Fits P f ⟨mt,ct⟩:=by
 cases hc:fn.body with
 |none=>rw[hc]at hb;cases hb
 |some c =>
  refine al2 hΓ hf hc hname hpid fun ds p h1 h2=>?_
  have:=h ds p h1 h2
  unfold aF at this;rw[hc]at this;exact this
theorem I4{P:Program}{f:FuncId}{mt:List (Nat×Nat)}{ct:List AD->Option Post}(hf:∃fn,P.funcs[f]?=some fn/\fn.body.isSome=true/\(fn.name == "runtime.NumGoroutine")=false)
  (hpid:fk (dZ mt)=true)(h:∀ds p,ct ds=some p->p.pre->False):Fits P f ⟨mt,ct⟩:=by
 refine⟨hf,fun w wF vs ds p ms obs hct ξ=>(h ds p hct ξ).elim,fun hm=>?_,fun hm=>?_,fun hm=>?_,fun hm=>?_,fun hm=>?_⟩
 all_goals
  have hm:mt=_:=hm
  rw[hm]at hpid;exact absurd hpid (by decide)
theorem aI{P:Program}{Γ:FuncId->Option Ctr}(hΓ:di P Γ){f:FuncId}{fn:Func}{mt:List (Nat×Nat)}{ct:List AD->Option Post}
  (hf:P.funcs[f]?=some fn)(h:∀ds p,ct ds=some p->p.pre->∃wr ann,aE P Γ wr ann fn (aF fn) mt ds p)
  (hb:fn.body.isSome=true:=by kernel_rfl)(hname:(fn.name == "runtime.NumGoroutine")=false:=by kernel_rfl)(hpid:fk (dZ mt)=true:=by kernel_rfl):Fits P f ⟨mt,ct⟩:=rR hΓ hf hb hname hpid h
theorem ffv{P:Program}{Γ:FuncId->Option Ctr}(hΓ:di P Γ){f:FuncId}{fn:Func}{mt:List (Nat×Nat)}{ct:List AD->Option Post}
  (hf:P.funcs[f]?=some fn)(h:∀ds p,ct ds=some p->p.pre->∃wr ann,∃V:Prop,aE P Γ wr ann fn (aF fn) mt ds p=V/\V)
  (hb:fn.body.isSome=true:=by kernel_rfl)(hname:(fn.name == "runtime.NumGoroutine")=false:=by kernel_rfl)(hpid:fk (dZ mt)=true:=by kernel_rfl):Fits P f ⟨mt,ct⟩ :=
 rR hΓ hf hb hname hpid fun ds p a b=>(h ds p a b).elim fun w hw=>hw.elim fun n hn=>hn.elim fun V e=>⟨w,n,e.1.mpr e.2⟩
def af(l:List (Nat×Ctr))(f:FuncId):Option Ctr:=lk l f
theorem aG{P:Program}:di P (af []):=fun f c h=>by cases h
theorem aj{P:Program}{f:Nat}{c:Ctr}{l:List (Nat×Ctr)}(h:Fits P f c)(hl:di P (af l)):di P (af ((f,c)::l)):=fun g d hg=>by
 unfold af at hg;rw[bt]at hg;split at hg
 ·rename_i he
  cases hg;subst he;exact h
 ·exact hl g d hg
def ah(_:Nat):Bool:=false
def ak(_:Nat):Option Ann:=none
def D'(n:Int):SV:=.c (.int .i64 n)
def G'(l:List Int):SV:=.c (.ro (.ints .i64 l))
def I'(l:List (List Int)):SV:=.c (.ro (.rows .i64 l))
def J'(l:List (List (List Int))):SV:=.c (.ro (.r3 .i64 l))
def M'(k:Nat):SV:=.c (.own k)
def N'(k:Nat):SV:=.c (.ptr k 0)
def O'(l:List (List Int)):Option Ob:=some (.rows 0 62 2 .i64 l)
def Q'(l:List Int):Option Ob:=some (.ints 2 .i64 l)
def T'(l:List SC):Option Ob:=some (.box l)
def U'(f:Nat->State×Prop×Nat):Option Ann:=some (Ann.mk Nat (fun i=>(f i).1) (fun i=>(f i).2.1) (fun i=>(f i).2.2) (fun _=>ak))
def V'(f:Nat->State×Prop×Nat)(g:Nat->Nat->Option Ann):Option Ann:=some (Ann.mk Nat (fun i=>(f i).1) (fun i=>(f i).2.1) (fun i=>(f i).2.2) g)
end Go.Sx
end
section
namespace Go.Sx
open Go.RowKit
theorem St.frame{C:Cx}{σ:State}{mu:Nat->Img}{a:Act}{w:World}(h:St C σ mu a w){N:Nat}{fr:List (Nat×SV)}{tmps:Array Value}(hsz:tmps.size=N)
  (hfr:∀t sv,lk fr t=some sv->aw C.P (σ.env C.wF mu) sv (tmps.getD t undef)):St ⟨C.P,N,C.w0,C.wF,C.M,C.pin⟩ ⟨fr,σ.hp⟩ mu ⟨tmps,a.defers⟩ w :=
 ⟨h.os,h.tape,h.output,h.size,h.block,h.cells,hsz,h.df,hfr,h.ob,h.nd,h.sep,h.pins⟩
end Go.Sx
end
section
namespace Go.Sx
theorem al3{b:Bool}{A B:Prop}:ab b A B↔(b=true->A)/\(b=false->B):=by cases b<;>simp[ab]
theorem yc{α:Type}(f:List α)(z d:α)(i:Nat)(h:i<f.length) :
  (f.take i++List.replicate (f.length-i) z).set i (f.getD i d)=f.take (i+1)++List.replicate (f.length-(i+1)) z:=by
 apply BA
 intro j
 simp only[Av,List.getElem?_append,Al,AS,DR,Au,DX,AN];by_cases h1:i=j
 ·subst h1
  have:i<min i f.length+(f.length-i):=by omega
  simp only[AV,this];have h2:i<min (i+1) f.length:=by omega
  simp[h2,AF h]
 ·simp only[h1,Ag]
  by_cases h3:j<i
  ·have a:j<min i f.length:=by omega
   have b:j<min (i+1) f.length:=by omega
   have c:j<i+1:=by omega
   simp[a,b,h3,c]
  ·have a:¬ j<min i f.length:=by omega
   have b:¬ j<min (i+1) f.length:=by omega
   simp only[a,b,Ag];have:(j-min i f.length<f.length-i)↔(j-min (i+1) f.length<f.length-(i+1)):=by omega
   simp[this]
theorem al4{α:Type}(f:List α)(z:α)(n:Nat)(h:f.length=n):List.replicate n z=f.take 0++List.replicate (f.length-0) z:=by
 simp[h]
theorem al5{α:Type}(f:List α)(z:α)(i:Nat)(h:f.length<=i):f.take i++List.replicate (f.length-i) z=f:=by
 rw[AU h,Nat.sub_eq_zero_of_le h];simp
theorem eo{α:Type}(f:List α)(d:α)(i:Nat)(h:i<f.length):f.take i++[f.getD i d]=f.take (i+1):=by
 rw[List.take_add_one,AN,AF h];rfl
theorem cg{α:Type}(f:List α)(d:α)(i:Nat)(h:i<f.length):f.getD i d=f[i]:=by
 simp[AN,AF h]
theorem rS{α β:Type}(l:List α)(f:α->β)(d:α)(e:β)(i:Nat)(h:i<l.length):(l.map f).getD i e=f (l.getD i d):=by
 simp[AN,AF h]
theorem I5{α:Type}(a b:List α)(d:α)(i:Nat)(ha:i<a.length)(hb:i<b.length)(h:a.take i=b.take i) :
  a.take (i+1)=b.take (i+1)↔a.getD i d=b.getD i d:=by
 rw[<-eo a d i ha,<-eo b d i hb,h];simp
def Rk(k:Int)(n:Nat):Db:=(List.range n).map fun i:Nat=>k+(i:Int)
theorem al6(k:Int)(n:Nat):(Rk k n).length=n:=by simp[Rk]
theorem getD_append_right'{α:Type}(a b:List α)(d:α)(i:Nat)(h:a.length<=i):(a++b).getD i d=b.getD (i-a.length) d:=by
 simp[AN,Aq h]
theorem getD_append_left'{α:Type}(a b:List α)(d:α)(i:Nat)(h:i<a.length):(a++b).getD i d=a.getD i d:=by
 simp[AN,Am h]
theorem drop_cons'{α:Type}(l:List α)(d:α)(i:Nat)(h:i<l.length):l.drop i=l.getD i d::l.drop (i+1):=by
 rw[cg l d i h];exact List.drop_eq_getElem_cons h
theorem cU{α:Type}(l:List α)(d:α)(i:Nat)(h:i<l.length):l.getD i d∈l:=by
 rw[cg l d i h];exact CJ h
def ap(n:Nat)(f:Nat->Int):Db:=(List.range n).map f
theorem bK(n:Nat)(f:Nat->Int):(ap n f).length=n:=by simp[ap]
theorem cj(n:Nat)(f:Nat->Int)(i:Nat)(h:i<n):(ap n f).getD i 0=f i:=by
 simp[ap,AN,h]
theorem nL{n:Nat}{f g:Nat->Int}(h:∀i,i<n->f i=g i):ap n f=ap n g:=by
 apply Ch
 intro i hi
 exact h i (AW.1 hi)
theorem al7(n:Nat)(f:Nat->Int)(a:Nat)(v:Int):(ap n f).set a v=ap n (fun t=>if t=a then v else f t):=by
 apply BA
 intro j
 simp only[ap,Av,Aj,Ae,Bj];by_cases hj:j<n
 ·by_cases ha:a=j
  ·subst ha;simp[hj]
  ·simp[ha,hj,AO ha]
 ·by_cases ha:a=j
  ·subst ha;simp[hj]
  ·simp[ha,hj]
theorem Rl(l:Db):l=ap l.length fun i=>l.getD i 0:=by
 apply BA
 intro j
 by_cases hj:j<l.length
 ·simp[ap,hj]
 ·simp[ap,hj]
theorem Rm{a b:Db}(hl:a.length=b.length)(h:∀i,i<a.length->a.getD i 0=b.getD i 0):a=b:=by
 rw[Rl a,Rl b,<-hl];exact nL h
theorem kq(l:Db)(a i:Nat)(v:Int)(h:i<l.length):(l.set a v).getD i 0=if i=a then v else l.getD i 0:=by
 simp only[AN,Av];by_cases ha:a=i
 ·subst ha;simp[h]
 ·simp[ha,AO ha]
theorem pq{α:Type}(l:List α)(d:α)(n i:Nat)(h:i<n):(l.take n).getD i d=l.getD i d:=by
 simp[AN,h]
theorem Rn{α:Type}(l:List α)(d:α)(n i:Nat):(l.drop n).getD i d=l.getD (n+i) d:=by
 simp[AN]
section
theorem u1(p:Prop):(True/\p)=p:=B4 p
theorem u2(p:Prop):(p/\True)=p:=Be p
theorem u3{p:Prop}[Decidable p]:(decide p=true)=p:=AQ
theorem u4{p:Prop}[Decidable p]:decide p=false↔¬ p:=C3
theorem u5{α:Type}[BEq α][LawfulBEq α]{a b:α}:(a != b)=true↔a≠b:=bne_iff_ne
theorem u6{α:Type}[BEq α][LawfulBEq α]{a b:α}:(a == b)=true↔a=b:=beq_iff_eq
theorem u7{α:Type}[BEq α][LawfulBEq α]{a b:α}:(a != b)=false↔a=b:=bne_eq_false_iff_eq
theorem u8{α:Type}[BEq α][LawfulBEq α]{a b:α}:(a == b)=false↔a≠b:=beq_eq_false_iff_ne
theorem u9(b:Bool):(¬ b=true)=(b=false):=CU b
theorem v1(b:Bool):(¬ b=false)=(b=true):=Bool.not_eq_false b
theorem v2:(!true)=false:=C5
theorem v3:(!false)=true:=C6
theorem v4{a b:Bool}:((!a)=b)=(a=!b):=by simp only[Bool.not_eq_eq_eq_not]
theorem v5(n:Nat):((n:Int)).toNat=n:=AP n
theorem v6{α:Type}{a b:List α}:(a++b).length=a.length+b.length:=Al
theorem v7{α:Type}{i:Nat}{l:List α}:(l.take i).length=min i l.length:=AS
theorem v8{α:Type}{n:Nat}{a:α}:(List.replicate n a).length=n:=DR
theorem v9{α:Type}{l:List α}{i:Nat}{a:α}:(l.set i a).length=l.length:=Ai
theorem w1{α β:Type}{l:List α}(f:α->β):(l.map f).length=l.length:=Ae f
theorem w2{α:Type}{i:Nat}{l:List α}:(l.drop i).length=l.length-i:=A6
theorem w3{α:Type}:([]:List α).length=0:=BV
theorem w4{α:Type}{a:α}{l:List α}:(a::l).length=l.length+1:=AR
theorem y1(n:Int)(l:Nat):aa n l=(0<=n/\n<(l:Int)):=rfl
theorem y2(n:Int):ae n=(-9223372036854775808<=n/\n<=9223372036854775807):=rfl
theorem y3(n:Nat):ar n=(n<=1099511627776):=rfl
theorem y4(L:Nat):bD L none none=True:=rfl
theorem y5(L:Nat)(h:Int):bD L none (some h)=(0<=h/\h<=(L:Int)):=rfl
theorem y6(L:Nat)(l:Int):bD L (some l) none=(0<=l/\l<=(L:Int)):=rfl
theorem y7(L:Nat)(l h:Int):bD L (some l) (some h)=(0<=l/\l<=h/\h<=(L:Int)):=rfl
def aH:=And.intro @al3 <|And.intro @u1 <|And.intro @u2 <|And.intro @u3 <|And.intro @u4 <|And.intro @u5 <|And.intro @u6 <|And.intro @u7 <|And.intro @u8 <|And.intro @u9 <|And.intro @v1 <|And.intro @v2 <|And.intro @v3 <|And.intro @v4 <|And.intro @v5 <|And.intro @v6 <|And.intro @v7 <|And.intro @v8 <|And.intro @v9 <|And.intro @w1 <|And.intro @w2 <|And.intro @w3 <|And.intro @w4 <|And.intro al6 <|And.intro y1 <|And.intro y2 <|And.intro y3 <|And.intro y4 <|And.intro y5 <|And.intro y6 y7
end
end Go.Sx
end
