/- SxX SxY SxYs SxZ -/
import Derived.KernelRfl
import Derived.Test.YtkmldclpaniclaaGreatSxW
set_option linter.unusedSimpArgs false
set_option linter.unusedVariables false
set_option linter.defProp false
section
namespace Go.Sx
open Go.RowKit
theorem St.take1{C:Cx}{σ:State}{mu:Nat->Img}{tmps:Array Value}{r:Nat}{rs:List Nat}{w:World}(h:St C σ mu ⟨tmps,(r::rs).map fun r=>{ target:=.collected r,args:=#[] }⟩ w)  :
  w.heap[r]?=some (.deferred (some []))/\St C σ mu ⟨tmps,rs.map fun r=>{ target:=.collected r,args:=#[] }⟩ (w.putObj r (.deferred none)):=by
 obtain⟨rs',k1,k2,k3⟩:=h.df;have hinj:rs'=r::rs:=by
  have e:∀(l l':List Nat),l.map (fun r:Nat=>({ target:=Target.collected r,args:=#[] }:Deferred))=l'.map (fun r:Nat=>({ target:=Target.collected r,args:=#[] }:Deferred))->l=l':=by
   intro l
   induction l with
   |nil=>intro l' hl;cases l' with|nil=>rfl|cons y l'=>cases hl
   |cons x l ih =>
    intro l' hl
    cases l' with
    |nil=>cases hl
    |cons y l' =>
     injection hl with h1 h2
     injection h1 with h3
     injection h3 with h4
     rw[h4,ih l' h2]
  exact(e _ _ k1).symm
 subst hinj;obtain⟨q1,q2,q3⟩:=k3 r (by simp)
 have hoth:∀k,k≠r->(w.putObj r (.deferred none)).heap[k]?=w.heap[k]?:=fun k hk=>World.putObj_heap_other hk
 refine⟨q2,⟨h.os.os,h.os.drawn⟩,h.tape,h.output,by rw[World.putObj_size];exact h.size,fun k hk hm=>?_,fun p u hp=>?_,h.sz,?_,h.fr,fun o ob ho=>?_,h.nd,h.sep,h.pins⟩
 ·rw[hoth k (by omega)];exact h.block k hk hm
 ·obtain⟨z1,z2⟩:=h.cells p u hp
  refine⟨z1,?_⟩
  have hne:p.block≠r:=fun e=>by
   simp only[World.cell?,e,q2]at z2;cases z2
  rw[World.cell?_of_block (hoth _ hne)];exact z2
 ·rw[AZ]at k2
  refine⟨rs,rfl,k2.2,fun r' hr'=>?_⟩
  obtain⟨z1,z2,z3⟩:=k3 r' (AO _ hr');exact⟨z1,by rw[hoth r' (fun e=>k2.1 (e ▸ hr'))];exact z2,z3⟩
 ·exact(h.ob o ob ho).keep (bX.refl _) fun b hb=>hoth b fun e=>q3 o ob ho (e ▸ hb)
theorem ax.leave{C:Cx}{σ:State}{a:Act}{w:World}(h:ax C σ a w):∃w',ax C σ ⟨a.tmps,[]⟩ w'/\∀fn R,LeavesInM Fence.wide 0 C.P fn a.tmps R [] .returning w'->LeavesInM Fence.wide 0 C.P fn a.tmps R a.defers .returning w:=by
 obtain⟨wG,mu,hg,h⟩:=h;obtain⟨tmps,ds⟩:=a;have k0:∃rs:List Nat,ds=rs.map fun r=>{ target:=.collected r,args:=#[] }:=let⟨rs,k1,_⟩:=h.df;⟨rs,k1⟩
 obtain⟨rs,rfl⟩:=k0
 induction rs generalizing w with
 |nil=>exact⟨w,⟨wG,mu,hg,h⟩,fun _ _ h=>h⟩
 |cons r rs ih =>
  obtain⟨q1,q2⟩:=h.take1;obtain⟨w',h1,h2⟩:=ih q2;exact⟨w',h1,fun fn R hl=>⟨by simp,.inl ⟨r,_,rfl,run_takeDeferred q1,h2 fn R hl⟩⟩⟩
theorem ac8{d:FC}{rc:RC}{ob:Ob}(h:gJ d rc=some ob):ob.shp.len=d.slen:=by
 unfold gJ at h;split at h<;>first|(split at h<;>first|(cases h;rfl)|cases h)|(cases h;rfl)|cases h
theorem ac9{P:Program}{Γ:FuncId->Option Ctr}(hΓ:cY P Γ){f:FuncId}{fn:Func}{c:Code}{mt:List (Nat×Nat)}{ct:List AD->Option Post}
  (hf:P.funcs[f]?=some fn)(hb:fn.body=some c)(hname:(fn.name == "runtime.NumGoroutine")=false)(hpid:fm (dW mt)=true)
  (h:∀ds p,ct ds=some p->p.pre->∃wr ann,aM P Γ wr ann fn c mt ds p):Fits P f ⟨mt,ct⟩:=by
 refine⟨⟨fn,hf,by simp[hb],hname⟩,?_,fun hm=>by
  have hm:mt=[(0,99),(0,99)]:=hm
  rw[hm]at hpid;exact absurd hpid (by decide),fun hm=>by
  have hm:mt=[(0,98),(0,98)]:=hm
  rw[hm]at hpid;exact absurd hpid (by decide),fun hm=>by
  have hm:mt=[(0,97),(0,97)]:=hm
  rw[hm]at hpid;exact absurd hpid (by decide),fun hm=>by
  have hm:mt=[(0,96),(0,96)]:=hm
  rw[hm]at hpid;exact absurd hpid (by decide),fun hm=>by
  have hm:mt=[(0,93),(0,93)]:=hm
  rw[hm]at hpid;exact absurd hpid (by decide)⟩
 intro w wF vs ds p ms obs hct ξ hvl hml hol hwl hmo hsep hwr hwF hargs
 have hpn:=kC hpid
 obtain⟨wr,ann,ω⟩:=h ds p hct ξ;unfold aM at ω;split at ω
 ·exact ω.elim
 rename_i hp hhp
 let C:Cx:=⟨P,ds.length+(fn.ntmps-ds.length),w,wF,fun b=>∃m∈ms,b∈m.blocks,fun o=>match cA o (eo mt p.wrs)with|true=>none|false=>lk ((dW mt).zip ms) o⟩
 let mu:Nat->Img:=fun o=>match lk ((dW mt).zip ms) o with
  |some m=>m
  |none=>⟨undef,[]⟩
 have hml':ms.length=(dW mt).length:=by simpa[dW]using hml
 have hmu:∀(x i j:Nat),mt[x]?=some (i,j)->∃m,ms[x]?=some m/\mu (cI i j)=m/\lk ((dW mt).zip ms) (cI i j)=some m:=fun x i j hx=>by
  have h1:=jp hx
  obtain⟨m,hm⟩:=PO (AK h1) hml';obtain⟨y,h2,h3⟩:=HH hm;have:y=x:=wS hpn h2 h1
  subst this;exact⟨m,h3,by simp only[mu,hm],hm⟩
 have hcell:∀{i j:Nat} {d:FC},pg ds i j=some d->∃u,gq wF mt ms obs i j d u:=fun {i j d} hc=>by
  unfold pg at hc;split at hc
  ·rename_i d' hd
   split at hc
   ·cases hc
    obtain⟨v,_,h2⟩:=hargs i _ hd;exact⟨v,h2⟩
   ·cases hc
  ·rename_i cs hd
   obtain⟨v,_,arr,_,_,h4⟩:=hargs i _ hd;obtain⟨u,_,h5⟩:=h4 j d hc;exact⟨u,h5⟩
  ·rename_i off n d' hd
   split at hc
   ·cases hc
    obtain⟨v,_,h2⟩:=hargs i _ hd;simp only[dm]at h2;cases hx:bT mt i 0 with
    |none=>rw[hx]at h2;exact h2.elim
    |some x =>
     rw[hx]at h2;obtain⟨m,ob,q1,q2,q3,q4,q5,q6,q7⟩:=h2;exact⟨m.hd,q7,by rw[hx];exact⟨m,ob,q1,q2,rfl,q3⟩⟩
   ·cases hc
  ·cases hc
 let σ:State:=⟨pf mt 0 ds,hp⟩
 have hlive:∀{x i j:Nat},mt[x]?=some (i,j)->∃ob,σ.H (cI i j)=some (some ob):=fun {x i j} hx =>
  Im hhp _ (AK (jp hx))
 have hnfz:∀{o:Nat} {ob:Ob},σ.H o=some (some ob)->ob.isFz=false:=fun {o ob} ho=>by
  obtain⟨x,i,j,ob',rc,_,_,_,h4,h5⟩:=rn hhp o _ ho;cases h5;exact ac1 h4
 have hob:∀o ob,σ.H o=some (some ob)->∃(x:Nat) (m:Img),(dW mt)[x]?=some o/\ms[x]?=some m/\mu o=m/\ob.shp.ver=0/\aO (σ.env C.wF mu) w m ob/\m.blocks.Nodup:=fun o ob ho=>by
  have ho':=ho
  obtain⟨x,i,j,ob',rc,h1,rfl,h3,h45,h6⟩:=rn hhp o _ ho;cases h6;obtain⟨m,k1,k2,_⟩:=hmu x i j h1;unfold nu at h45;split at h45
  ·rename_i cs hcs
   obtain⟨rfl,hcs2⟩:=ac2 hcs;split at h45
   ·rename_i cs'
    split at h45
    ·cases h45
     obtain⟨q2,q4⟩:obs[x]?=some (.bx cs)/\∀(j:Nat) (d:FC),cs[j]?=some d->dn d=false->∃u,m.ins[j]?=some (.agg #[u])/\(∃a n c,u=.slice a n c/\n<=c)/\bj wF u d:=by
      rcases hcs2 with hcs2|⟨F,s0,hcs2,rfl⟩
      ·obtain⟨v,_,hv⟩:=hargs i _ hcs2
       simp only[dm]at hv;rw[Il hpn h1]at hv;obtain⟨m',q1,q2,q3,q4⟩:=hv;rw[k1]at q1;cases q1;exact⟨q2,q4⟩
      ·obtain⟨v,_,hv⟩:=hargs i _ hcs2
       simp only[dm]at hv;rw[Il hpn h1]at hv;obtain⟨m',b',q1,q2,_⟩:=hv;refine⟨q2,fun j d hj hs=>?_⟩
       match j,hj with
       |0,hj=>simp at hj;subst hj;cases hs
       |j+1,hj=>simp at hj
     obtain⟨⟨b,arr,t,r1,r2,r3,r4,r5⟩,r6⟩:=hmo x m _ k1 q2;refine⟨x,m,jp h1,k1,k2,rfl,⟨b,arr,t,r1,r2,r3,by rw[r4,In],fun k c hk=>?_⟩,r6⟩
     obtain⟨d,hd,rfl⟩:=QP hk;obtain⟨u,t1,t2,t3⟩:=r5 k d hd;refine⟨u,t1,t2,?_⟩
     rw[AJ];cases hs:dn d with
     |true=>simp only[AV];exact HL t3 hs _
     |false =>
      simp only[Bu,Al];have t4:=HM t3 hs
      obtain⟨u',t5,t6,t7⟩:=q4 k d hd hs;rw[t4]at t5;simp at t5
      rw[<-t5]at t6 t7;refine⟨⟨t6,t7⟩,t2,?_⟩
      have:(σ.env C.wF mu).st (cI i 0)=.live (Ob.box (jR (cI i 0) 0 cs)).shp:=b8 ho'
      rw[this];intro _
      show(mu (cI i 0)).ins[k]?=_
      rw[k2];exact t4
    ·cases h45
   ·cases h45
  obtain⟨d,h4,h5⟩:∃d,pg ds i j=some d/\gJ d rc=some ob:=by
   split at h45
   ·exact⟨_,by assumption,h45⟩
   ·cases h45
  obtain⟨u,hu⟩:=hcell h4;have hu2:=hu.2
  rw[Il hpn h1]at hu2;obtain⟨m',ob2,q1,q2,q3,q4⟩:=hu2;rw[k1]at q1;cases q1;obtain⟨r1,r2⟩:=hmo x m ob2 k1 q2;obtain⟨ob3,q,r3,_⟩:=hwr x ob2 rc q2 h3;obtain⟨r4,r5⟩:=ac3 (E:=σ.env C.wF mu) (fun _ _ h=>h) q4 r3 h5 r1
  exact⟨x,m,jp h1,k1,k2,r5,r4,r2⟩
 have hargC:∀{i j:Nat} {d:FC} {u:Value},gq wF mt ms obs i j d u->ag (σ.env C.wF mu) (qT mt i j d) u/\u.oneCell'=true:=fun {i j d u} hu=>by
  refine⟨?_,hu.1⟩
  have hu2:=hu.2
  unfold qT;split
  ·rename_i hmem
   rw[m9]at hmem;cases hmt:bT mt i j with
   |none=>rw[hmt]at hmem;cases hmem
   |some x =>
    rw[hmt]at hu2;obtain⟨m,ob2,q1,q2,q3,q4⟩:=hu2;obtain⟨ob,hl⟩:=hlive (jk hmt);obtain⟨m',k1,k2,_⟩:=hmu x i j (jk hmt);rw[q1]at k1;cases k1;refine⟨hu.1,?_⟩
    have:(σ.env C.wF mu).st (cI i j)=.live ob.shp:=b8 hl (hnfz hl)
    rw[this]
    show u=(mu (cI i j)).hd
    rw[k2,q3]
  ·rename_i hmem
   rw[m9]at hmem;cases hmt:bT mt i j with
   |none =>
    rw[hmt]at hu2;exact(lG (E:=σ.env C.wF mu) hu2).1
   |some x=>rw[hmt]at hmem;cases hmem
 have hs:ax C σ { tmps:=vs.toArray++Array.replicate (fn.ntmps-vs.toArray.size) undef,defers:=[] } w:=by
  refine St.ex (C:=C) (mu:=mu) ⟨.refl _,rfl,rfl,AE _,fun _ _ _=>rfl,fun q u hq=>?_,?_,km.nil,fun t sv ht=>?_,fun o ob ho=>?_,fun o ob ho=>?_,fun o o' ob ob' hne ho ho' b hb hb'=>?_,fun o m hm=>?_⟩
  ·obtain⟨h1,h2⟩:=hwF q u hq
   exact⟨fun o ob ho hb=>by
    obtain⟨x,m,_,h3,h4,_⟩:=hob o ob ho;rw[h4]at hb;exact h2 m (AK h3) hb,h1⟩
  ·simp[C,hvl]
  ·obtain⟨i,d,h1,h2,rfl⟩:=QQ ht
   rw[AJ]at h2;subst h2;obtain⟨v,h3,h4⟩:=hargs t d h1;have hv:(vs.toArray++Array.replicate (fn.ntmps-vs.toArray.size) undef).getD t undef=v:=by
    have ψ:=(AN.1 h3).1
    rw[BO,C5 (by simpa using ψ)]
    simp[h3]
   simp only[hv];cases d with
   |c d=>exact(hargC h4).1
   |agg cs =>
    obtain⟨arr,h5,h6,h7⟩:=h4;refine⟨arr,h5,by rw[h6,QS],fun k c hk=>?_⟩
    obtain⟨d,h8,rfl⟩:=QR hk;rw[AJ];obtain⟨u,h9,h10⟩:=h7 k d h8;exact⟨u,h9,(hargC h10).2,(hargC h10).1⟩
   |box cs =>
    simp only[dm]at h4
    show av C.P _ (match memP t 0 mt with|true=>SV.c (.ptr (cI t 0) 0)|false=>SV.c (.rob cs 0)) v
    rw[m9];cases hmt:bT mt t 0 with
    |none =>
     rw[hmt]at h4;obtain⟨b,off,h5,h6⟩:=h4;exact⟨b,off,h5,fun j fc hj=>h6 j fc (by rwa[AJ]at hj)⟩
    |some x =>
     rw[hmt]at h4;obtain⟨m,q1,q2,q3,_⟩:=h4;have hx:=jk hmt
     obtain⟨ob,hl⟩:=hlive hx;obtain⟨m',k1,k2,_⟩:=hmu x t 0 hx;rw[q1]at k1;cases k1;obtain⟨⟨b,arr,ty,r1,_,_,_,_⟩,_⟩:=hmo x m _ q1 q2;obtain⟨x2,i2,j2,ob2,rc,s1,s2,s3,s4,s5⟩:=rn hhp (cI t 0) _ hl;have hx2:x2=x:=wS hpn (jp s1) (by rw[<-s2];exact jp hx)
     subst hx2;rw[hx]at s1;cases s1;cases s5;unfold nu at s4;have hb:nt ds t 0=some cs:=by simp[nt,h1]
     rw[hb]at s4;simp only at s4;split at s4
     ·split at s4
      ·rename_i hne
       cases s4;have hv1:v.oneCell'=true:=by rw[q3,r1];rfl
       refine⟨hv1,?_⟩
       have:(σ.env C.wF mu).st (cI t 0)=.live (Ob.box (jR (cI t 0) 0 cs)).shp:=b8 hl
       rw[this];refine⟨?_,b,?_,by rw[q3,r1]⟩
       ·show 0<(jR (cI t 0) 0 cs).length
        rw[In];exact Dh.2 hne.2
       ·show ae (mu (cI t 0)).hd=some b
        rw[k2,r1];rfl
      ·cases s4
     ·cases s4
   |bb cs=>exact h4
   |fv F=>exact h4
   |fvs F s0 =>
    simp only[dm]at h4;cases hmt:bT mt t 0 with
    |none=>rw[hmt]at h4;exact h4.elim
    |some x =>
     rw[hmt]at h4;obtain⟨m,b,q1,q2,q3,q4,q5⟩:=h4;have hx:=jk hmt
     obtain⟨ob,hl⟩:=hlive hx;obtain⟨m',k1,k2,_⟩:=hmu x t 0 hx;rw[q1]at k1;cases k1;refine⟨q4,?_⟩
     have:(σ.env C.wF mu).st (cI t 0)=.live ob.shp:=b8 hl (hnfz hl)
     rw[this];refine⟨b,?_,q5⟩
     show(mu (cI t 0)).hd=_
     rw[k2,q3]
   |ma x=>exact(show False from h4).elim
   |cut off n d =>
    simp only[dm]at h4;cases hmt:bT mt t 0 with
    |none=>rw[hmt]at h4;exact h4.elim
    |some x =>
     rw[hmt]at h4;obtain⟨m,ob2,q1,q2,q3,q4,q5,q6,q7⟩:=h4;have hx:=jk hmt
     obtain⟨ob,hl⟩:=hlive hx;obtain⟨m',k1,k2,_⟩:=hmu x t 0 hx;rw[q1]at k1;cases k1;obtain⟨x2,i2,j2,ob3,rc,s1,s2,s3,s4,s5⟩:=rn hhp (cI t 0) _ hl;have hx2:x2=x:=wS hpn (jp s1) (by rw[<-s2];exact jp hx)
     subst hx2;rw[hx]at s1;cases s1;cases s5;unfold nu at s4;have hb:nt ds t 0=none:=by simp[nt,h1]
     have hc:pg ds t 0=some d:=by simp[pg,h1]
     rw[hb]at s4;simp only[hc]at s4;refine⟨q6,?_⟩
     have:(σ.env C.wF mu).st (cI t 0)=.live ob.shp:=b8 hl (hnfz hl)
     rw[this];refine⟨?_,?_⟩
     ·rw[ac8 s4];exact q4
     ·show cp (mu (cI t 0)).hd off n v
      rw[k2];exact q5
  ·obtain⟨x,m,_,_,h3,_,h5,_⟩:=hob o ob ho
   rw[h3];exact h5
  ·obtain⟨x,m,_,h2,h3,_,_,h6⟩:=hob o ob ho
   rw[h3];exact⟨h6,fun b hb=>.inl ⟨m,AK h2,hb⟩⟩
  ·obtain⟨x,m,h1,h2,h3,_⟩:=hob o ob ho
   obtain⟨x',m',h1',h2',h3',_⟩:=hob o' ob' ho';rw[h3]at hb;rw[h3']at hb';refine hsep x x' m m' (fun hc=>hne ?_) h2 h2' b hb hb'
   subst hc;rw[h1]at h1';exact BJ h1'
  ·have hm:(match cA o (eo mt p.wrs)with|true=>none|false=>lk ((dW mt).zip ms) o)=some m:=hm
   split at hm
   ·cases hm
   obtain⟨x,h1,h2⟩:=HH hm;obtain⟨ob,hl⟩:=Im hhp o (AK h1);have hl:σ.H o=some (some ob):=hl
   rw[b8 hl (hnfz hl)];have:mu o=m:=by simp only[mu,hm]
   exact⟨by rw[this],fun _=>this⟩
 have hpins:∀o m,C.pin o=some m->o∈eo mt p.wrs:=fun o m hm=>by
  have hm:(match cA o (eo mt p.wrs)with|true=>none|false=>lk ((dW mt).zip ms) o)=some m:=hm
  split at hm
  ·cases hm
  ·exact QX (by assumption)
 have hwp:=QG (C:=C) (k:=⟨P,Γ,wr,ds.length+(fn.ntmps-ds.length),eo mt p.wrs,false⟩) (ro:=none) rfl hΓ rfl hpins c 0 ann σ _ ω _ _ hs
 refine callsIn_wide.1 (callsIn_of_wp_marks (F:=Fence.wide) (n:=0) hf hb trivial (wpIn_mono (F:=Fence.wide) hwp ?_))
 rintro e a0 w0' ⟨σ',hsE,hK⟩
 obtain⟨w',⟨wG0,mu0,hg0,hst0⟩,hlv⟩:=hsE.leave;obtain⟨a',ha'⟩:∃a':Act,a'=⟨a0.tmps,[]⟩:=⟨_,rfl⟩;rw[<-ha']at hst0;have hat:a'.tmps=a0.tmps:=by rw[ha']
 have fin:∀(svs:List SV) (us:List (Nat×Nat)) (q q':Prop),ec (nv P σ') fn.results.toList=some svs->wP (lV σ' svs p.ret) svs p.ret=some (us,q)->fm (us.map (·.2))=true->rh (eo mt p.wrs) us=true ->
   nz (lV σ' svs p.ret) (eo mt p.wrs) (lW p.wrs)=some q'->q/\q'->∃v,(results fn a'.tmps).run P w'=.ok v w'/\∃(v':Value) (ms':List Img) (img:Nat->Img) (wG:World),Ending.returned v=.returned v'/\After w w' ms/\ms'.length=ms.length /\
   (∀(x:Nat) (m m':Img) (ob:Ob) (rc:RC),ms[x]?=some m->ms'[x]?=some m'->obs[x]?=some ob->p.wrs[x]?=some rc->rc.isGone=false ->
    m'=m/\m'.hd=m.hd/\m'.blocks.Nodup/\(∀b∈m'.blocks,b∈m.blocks)/\∃ob' q,dt ob rc=some (ob',q)/\aO (E0 w) w' m' ob') /\
   GrowW w w' wF wG ms p.wrs/\RetRep (fun b=>w.heap.size<=b\/jM ms p.wrs b) w' wG img p.ret v':=by
  intro svs us q q' h1 h2 h3 h4 h5 h6
  obtain⟨rs,r1,r2,r30⟩:=QK (C:=C.fz wG0) (fn:=fn) h1 hst0;obtain⟨oc1,oc2⟩:=H7 (ac7 (σ:=σ') (svs:=svs) (rv:=p.ret));obtain⟨wG,mu',hg1,hst,he⟩:=hst0.cvs oc1 oc2;have hst:St (C.fz wG) (lV σ' svs p.ret) mu' a' w':=hst
  have r3:∀(i:Nat) (sv:SV),svs[i]?=some sv->∃v,rs[i]?=some v/\av P ((lV σ' svs p.ret).env wG mu') sv v:=fun i sv hi=>by
   obtain⟨v,q1,q2⟩:=r30 i sv hi;exact⟨v,q1,q2.mono he⟩
  have hg:GrowF C wG:=hg0.trans hg1
  have hpinE:∀(x:Nat) (m:Img) (rc:RC),ms[x]?=some m->p.wrs[x]?=some rc->rc.isGone=false->∃o obf q,(dW mt)[x]?=some o/\o∈eo mt p.wrs/\(lV σ' svs p.ret).H o=some (some obf)/\obf.isFz=false/\ia o obf rc=some q/\q/\mu' o=m:=fun x m rc k1 krc kg=>by
   have ψ:x<mt.length:=by
    have:=(AN.1 k1).1
    have hml2:ms.length=mt.length:=hml
    omega
   obtain⟨i,j,hx⟩:∃i j,mt[x]?=some (i,j):=⟨mt[x].1,mt[x].2,AF ψ⟩;obtain⟨y,y1,y2⟩:=QY hx krc kg;obtain⟨obf,q2,r8,r9,r10⟩:=QZ h5 h6.2 y _ _ y1 y2;have hmem:cI i j∈eo mt p.wrs:=AK y1
   obtain⟨m2,k3,k4,k5⟩:=hmu x i j hx;rw[k1]at k3;cases k3;have hpin:C.pin (cI i j)=some m:=by
    show(match cA (cI i j) (eo mt p.wrs)with|true=>none|false=>lk ((dW mt).zip ms) (cI i j))=some m
    cases hn:cA (cI i j) (eo mt p.wrs)with
    |true=>exact absurd hmem (jj hn)
    |false=>exact k5
   have hnf:=ac5 r9
   have h9:=hst.pins _ m hpin
   rw[b8 r8 hnf]at h9;exact⟨cI i j,obf,q2,jp hx,hmem,r8,hnf,r9,r10,h9.2 (ac4 r9)⟩
  have hwx:∀(x:Nat) (m:Img),ms[x]?=some m->∃rc,p.wrs[x]?=some rc:=fun x m hx =>
   ⟨_,AF (by
    have:=(AN.1 hx).1
    have hml2:ms.length=mt.length:=hml
    have hwl2:p.wrs.length=mt.length:=hwl
    omega)⟩
  have hM:∀i o ob,(i,o)∈us->(lV σ' svs p.ret).H o=some (some ob)->∀b∈(mu' o).blocks,w.heap.size<=b\/jM ms p.wrs b:=by
   intro i o ob hio hoo b hb
   rcases(hst.nd o ob hoo).2 b hb with⟨m,hm,hbm⟩|h7
   ·right
    obtain⟨x,hx⟩:=Ah hm;obtain⟨rc,hrc⟩:=hwx x m hx;cases hgn:rc.isGone with
    |true=>exact⟨x,m,rc,hx,hrc,hgn,hbm⟩
    |false =>
     exfalso
     obtain⟨o2,obf,q2,k1,k2,r8,_,_,_,r9⟩:=hpinE x m rc hx hrc hgn;have hno:∀{l:List (Nat×Nat)},rh (eo mt p.wrs) l=true->(i,o)∈l->o ∉ eo mt p.wrs:=fun {l}=>by
      induction l with
      |nil=>intro _ h;simp at h
      |cons y l ih =>
       intro hn hy
       simp only[rh,AL]at hn;rcases AG.1 hy with hy|hy
       ·subst hy;exact jj hn.1
       ·exact ih hn.2 hy
     have hne:o≠o2:=fun hc=>hno h4 hio (by rw[hc];exact k2)
     rw[<-r9]at hbm;exact hst.sep o _ ob obf hne hoo r8 b hb hbm
   ·exact .inl h7
  obtain⟨img,r4⟩:=ac0 (Nw:=fun b=>w.heap.size<=b\/jM ms p.wrs b) hst h2 h6.1 hM (kC h3) r1 r3
  refine⟨_,r2,_,ms,img,wG,rfl,⟨hst.os,hst.tape,hst.output,hst.size,fun b hb hm=>hst.block b hb fun⟨m,k1,k2⟩=>hm m k1 k2⟩,rfl,?_,⟨hg.kept,fun q u hq=>⟨(hst.cells q u hq).2,?_⟩⟩,r4⟩
  ·intro x m m' ob rc k1 k2 k3 k4 kg
   rw[k1]at k2;cases k2;obtain⟨r5,r6⟩:=hmo x m ob k1 k3;obtain⟨ob',q1,r7,_⟩:=hwr x ob rc k3 k4;obtain⟨o,obf,q2,_,_,r8,hnf,r9,r10,h10⟩:=hpinE x m rc k1 k4 kg;have r12:=ac6 (w:=w') (w0:=w) r7 r9 r10 (hst.ob _ _ r8) rfl (b8 r8 hnf)
   rw[h10]at r12;exact⟨rfl,rfl,r6,fun b hb=>hb,ob',q1,r7,r12⟩
  ·rcases hg.new q u hq with h7|h7|⟨m,hm,hbm⟩
   ·exact .inl h7
   ·exact .inr (.inl h7)
   ·obtain⟨x,hx⟩:=Ah hm
    obtain⟨rc,hrc⟩:=hwx x m hx;cases hgn:rc.isGone with
    |true=>exact .inr (.inr ⟨x,m,rc,hx,hrc,hgn,hbm⟩)
    |false =>
     exfalso
     obtain⟨o2,obf,q2,k1,k2,r8,_,_,_,r9⟩:=hpinE x m rc hx hrc hgn;rw[<-r9]at hbm;exact(hst.cells q u hq).1 o2 obf r8 hbm
 have fin2:Ig P fn.results.toList mt p .ret σ'->∃v,(results fn a'.tmps).run P w'=.ok v w'/\∃(v':Value) (ms':List Img) (img:Nat->Img) (wG:World),Ending.returned v=.returned v'/\After w w' ms/\ms'.length=ms.length /\
   (∀(x:Nat) (m m':Img) (ob:Ob) (rc:RC),ms[x]?=some m->ms'[x]?=some m'->obs[x]?=some ob->p.wrs[x]?=some rc->rc.isGone=false ->
    m'=m/\m'.hd=m.hd/\m'.blocks.Nodup/\(∀b∈m'.blocks,b∈m.blocks)/\∃ob' q,dt ob rc=some (ob',q)/\aO (E0 w) w' m' ob') /\
   GrowW w w' wF wG ms p.wrs/\RetRep (fun b=>w.heap.size<=b\/jM ms p.wrs b) w' wG img p.ret v':=fun hK=>by
  simp only[Ig]at hK;split at hK
  ·exact hK.elim
  ·split at hK
   ·exact hK.elim
   ·split at hK
    ·exact hK.elim
    ·split at hK
     ·exact hK.elim
     ·split at hK
      ·exact hK.elim
      ·rename_i q' hq'
       exact fin _ _ _ _ ‹_› ‹_› ‹_› ‹_› ‹_› hK
 rw[hat]at fin2;cases e with
 |normal=>exact hlv fn _ (fin2 hK)
 |ret=>exact hlv fn _ (fin2 hK)
 |_=>exact hK.elim
end Go.Sx
end
section
namespace Go.Sx
open Go.RowKit
def aF(fn:Func):Code :=
 match fn.body with
 |some c=>c
 |none=>.skip
theorem wT{P:Program}{Γ:FuncId->Option Ctr}(hΓ:cY P Γ){f:FuncId}{fn:Func}{mt:List (Nat×Nat)}{ct:List AD->Option Post}
  (hf:P.funcs[f]?=some fn)(hb:fn.body.isSome=true)(hname:(fn.name == "runtime.NumGoroutine")=false)(hpid:fm (dW mt)=true)
  (h:∀ds p,ct ds=some p->p.pre->∃wr ann,aM P Γ wr ann fn (aF fn) mt ds p):Fits P f ⟨mt,ct⟩:=by
 cases hc:fn.body with
 |none=>rw[hc]at hb;cases hb
 |some c =>
  refine ac9 hΓ hf hc hname hpid fun ds p h1 h2=>?_
  have:=h ds p h1 h2
  unfold aF at this;rw[hc]at this;exact this
theorem Q0{P:Program}{f:FuncId}{mt:List (Nat×Nat)}{ct:List AD->Option Post}(hf:∃fn,P.funcs[f]?=some fn/\fn.body.isSome=true/\(fn.name == "runtime.NumGoroutine")=false)
  (hpid:fm (dW mt)=true)(h:∀ds p,ct ds=some p->p.pre->False):Fits P f ⟨mt,ct⟩:=by
 refine⟨hf,fun w wF vs ds p ms obs hct ξ=>(h ds p hct ξ).elim,fun hm=>?_,fun hm=>?_,fun hm=>?_,fun hm=>?_,fun hm=>?_⟩
 all_goals
  have hm:mt=_:=hm
  rw[hm]at hpid;exact absurd hpid (by decide)
theorem aU{P:Program}{Γ:FuncId->Option Ctr}(hΓ:cY P Γ){f:FuncId}{fn:Func}{mt:List (Nat×Nat)}{ct:List AD->Option Post}
  (hf:P.funcs[f]?=some fn)(h:∀ds p,ct ds=some p->p.pre->∃wr ann,aM P Γ wr ann fn (aF fn) mt ds p)
  (hb:fn.body.isSome=true:=by kernel_rfl)(hname:(fn.name == "runtime.NumGoroutine")=false:=by kernel_rfl)(hpid:fm (dW mt)=true:=by kernel_rfl):Fits P f ⟨mt,ct⟩:=wT hΓ hf hb hname hpid h
theorem ffv{P:Program}{Γ:FuncId->Option Ctr}(hΓ:cY P Γ){f:FuncId}{fn:Func}{mt:List (Nat×Nat)}{ct:List AD->Option Post}
  (hf:P.funcs[f]?=some fn)(h:∀ds p,ct ds=some p->p.pre->∃wr ann,∃V:Prop,aM P Γ wr ann fn (aF fn) mt ds p=V/\V)
  (hb:fn.body.isSome=true:=by kernel_rfl)(hname:(fn.name == "runtime.NumGoroutine")=false:=by kernel_rfl)(hpid:fm (dW mt)=true:=by kernel_rfl):Fits P f ⟨mt,ct⟩ :=
 wT hΓ hf hb hname hpid fun ds p a b=>(h ds p a b).elim fun w hw=>hw.elim fun n hn=>hn.elim fun V e=>⟨w,n,e.1.mpr e.2⟩
def ah(l:List (Nat×Ctr))(f:FuncId):Option Ctr:=lk l f
theorem aI{P:Program}:cY P (ah []):=fun f c h=>by cases h
theorem aw{P:Program}{f:Nat}{c:Ctr}{l:List (Nat×Ctr)}(h:Fits P f c)(hl:cY P (ah l)):cY P (ah ((f,c)::l)):=fun g d hg=>by
 unfold ah at hg;rw[bm]at hg;split at hg
 ·rename_i he
  cases hg;subst he;exact h
 ·exact hl g d hg
def aj(_:Nat):Bool:=false
def ar(_:Nat):Option Ann:=none
def A'(n:Int):SV:=.c (.int .i64 n)
def D'(l:List Int):SV:=.c (.ro (.ints .i64 l))
def G'(l:List (List Int)):SV:=.c (.ro (.rows .i64 l))
def I'(l:List (List (List Int))):SV:=.c (.ro (.r3 .i64 l))
def J'(k:Nat):SV:=.c (.own k)
def M'(k:Nat):SV:=.c (.ptr k 0)
def N'(l:List (List Int)):Option Ob:=some (.rows 0 62 2 .i64 l)
def O'(l:List Int):Option Ob:=some (.ints 2 .i64 l)
def P'(l:List SC):Option Ob:=some (.box l)
def Q'(f:Nat->State×Prop×Nat):Option Ann:=some (Ann.mk Nat (fun i=>(f i).1) (fun i=>(f i).2.1) (fun i=>(f i).2.2) (fun _=>ar))
def T'(f:Nat->State×Prop×Nat)(g:Nat->Nat->Option Ann):Option Ann:=some (Ann.mk Nat (fun i=>(f i).1) (fun i=>(f i).2.1) (fun i=>(f i).2.2) g)
end Go.Sx
end
section
namespace Go.Sx
open Go.RowKit
def Ip(P:Program)(rvs:List ResultVar)(pins:List Nat)(sv:SV)(O:List (Nat×Option Ob))(e:Exit)(σ:State):Prop :=
 match e with
 |.normal|.ret=>match ec (nv P σ) rvs with
  |none=>False
  |some svs=>match svs with
   | []=>match sv with
    |.tup []=>gI ⟨[],σ.hp⟩ ⟨[],O⟩ pins
    |_=>False
   | [x]=>gI ⟨[(0,x)],σ.hp⟩ ⟨[(0,sv)],O⟩ pins
   |_=>False
 |_=>False
def kN(P:Program)(Γ:FuncId->Option Ctr)(wr:Nat->Bool)(ann:Nat->Option Ann)(fn:Func)(c:Code)(mas:List MA)(sv:SV)(O:List (Nat×Option Ob)):Prop :=
 em ⟨P,Γ,wr,mas.length+(fn.ntmps-mas.length),lm mas O,false⟩ c 0 ann (eP mas) (Ip P fn.results.toList (lm mas O) sv O)
theorem St.frame{C:Cx}{σ:State}{mu:Nat->Img}{a:Act}{w:World}(h:St C σ mu a w){N:Nat}{fr:List (Nat×SV)}{tmps:Array Value}(hsz:tmps.size=N)
  (hfr:∀t sv,lk fr t=some sv->av C.P (σ.env C.wF mu) sv (tmps.getD t undef)):St ⟨C.P,N,C.w0,C.wF,C.M,C.pin⟩ ⟨fr,σ.hp⟩ mu ⟨tmps,a.defers⟩ w :=
 ⟨h.os,h.tape,h.output,h.size,h.block,h.cells,hsz,h.df,hfr,h.ob,h.nd,h.sep,h.pins⟩
theorem ad0{P:Program}{Γ:FuncId->Option Ctr}(hΓ:cY P Γ){f:FuncId}{fn:Func}{c:Code}(hf:P.funcs[f]?=some fn)(hb:fn.body=some c)
  {mas:List MA}{sv:SV}{O:List (Nat×Option Ob)}(h:∃wr ann,kN P Γ wr ann fn c mas sv O):HA P f mas sv O:=by
 obtain⟨wr,ann,ω⟩:=h;intro C mu vs w hP hw0 hN hvl hpins hst
 subst hP;subst hw0
 let C':Cx:=⟨C.P,mas.length+(fn.ntmps-mas.length),C.w0,C.wF,C.M,C.pin⟩
 have hst':St C' (eP mas) mu { tmps:=vs.toArray++Array.replicate (fn.ntmps-vs.toArray.size) undef,defers:=[] } C.w0:=by
  refine St.frame (a:=⟨vs.toArray,[]⟩) hst (by simp[hvl]) fun t sv ht=>?_
  have h1:=hst.fr t sv ht
  obtain⟨j,x,q1,q2,_⟩:=wg ht;have ψ:t<vs.length:=by
   have:=(AN.1 q1).1
   omega
  have:(vs.toArray++Array.replicate (fn.ntmps-vs.toArray.size) undef).getD t undef=vs.toArray.getD t undef:=by
   rw[BO,BO,C5 (by simpa using ψ)]
  rw[this];exact h1
 have hwp:=QG (C:=C') (k:=⟨C.P,Γ,wr,mas.length+(fn.ntmps-mas.length),lm mas O,false⟩) (ro:=none) rfl hΓ rfl hpins c 0 ann (eP mas) _ ω _ _ (St.ex hst')
 refine callsIn_wide.1 (callsIn_of_wp_marks (F:=Fence.wide) (n:=0) hf hb trivial (wpIn_mono (F:=Fence.wide) hwp ?_))
 rintro e a0 w0' ⟨σ',hsE,hK⟩
 obtain⟨w',⟨wG0,mu0,hg0,hst0⟩,hlv⟩:=hsE.leave;have fin:Ip C.P fn.results.toList (lm mas O) sv O .ret σ'->LeavesInM Fence.wide 0 C'.P fn a0.tmps (fun e w'=>∃v,e=.returned v/\ax ⟨C.P,1,C.w0,C.wF,C.M,C.pin⟩ (i9 sv O) ⟨#[v],[]⟩ w') [] .returning w':=fun hK=>by
  simp only[Ip]at hK;split at hK
  ·exact hK.elim
  ·rename_i svs hsvs
   obtain⟨rs,r1,r2,r3⟩:=QK (C:=C'.fz wG0) (fn:=fn) hsvs hst0;have hg1:GrowF ⟨C.P,1,C.w0,C.wF,C.M,C.pin⟩ wG0:=⟨hg0.kept,hg0.new⟩
   have sp:∀{σ n:State} {a w},gI σ n (lm mas O)->St ⟨C.P,1,C.w0,wG0,C.M,C.pin⟩ σ mu0 a w->ax ⟨C.P,1,C.w0,C.wF,C.M,C.pin⟩ n a w:=fun {σ n a w} h1 h2=>by
    unfold gI at h1;split at h1
    ·exact h1.elim
    ·rename_i ps hps
     exact ax.up hg1 (Qu (C:=⟨C.P,1,C.w0,wG0,C.M,C.pin⟩) hpins hps h1 (Qy (St.ex h2)))
   split at hK
   ·split at hK
    ·match rs,r1 with
     | [],_ =>
      refine⟨_,r2,_,rfl,?_⟩
      have hq:St ⟨C.P,1,C.w0,wG0,C.M,C.pin⟩ ⟨[],σ'.hp⟩ mu0 ⟨#[lX []],[]⟩ w':=St.frame hst0 rfl fun t sv ht=>by cases ht
      obtain⟨wG,mu1,z1,z2⟩:=sp hK hq;refine⟨wG,mu1,z1,St.frame z2 rfl fun t sv ht=>?_⟩
      rw[bm]at ht;split at ht
      ·rename_i e
       subst e;cases ht;exact⟨#[],rfl,rfl,fun i c hi=>by simp at hi⟩
      ·cases ht
    ·exact hK.elim
   ·rename_i x
    match rs,r1 with
    | [v],_ =>
     refine⟨_,r2,_,rfl,?_⟩
     obtain⟨v',z1,z2⟩:=r3 0 x rfl;cases z1;refine sp hK (St.frame hst0 rfl fun t sv ht=>?_)
     rw[bm]at ht;split at ht
     ·rename_i e
      subst e;cases ht;exact z2
     ·cases ht
   ·exact hK.elim
 cases e with
 |normal=>exact hlv fn _ (fin hK)
 |ret=>exact hlv fn _ (fin hK)
 |_=>exact hK.elim
theorem nA{P:Program}{Γ:FuncId->Option Ctr}(hΓ:cY P Γ){f:FuncId}{fn:Func}{ct:List AD->Option Post}
  (hf:P.funcs[f]?=some fn)(hb:fn.body.isSome=true)(hname:(fn.name == "runtime.NumGoroutine")=false)(hw:∀ads p,ct ads=some p->p.wrs=[])
  (h:∀mas q sv ex outs,ct (mas.map .ma)=some ⟨q,.st sv ex outs,[]⟩->q->∃wr ann,kN P Γ wr ann fn (aF fn) mas sv (gD 0 outs++g4 ex)):Fits P f ⟨[(0,93),(0,93)],ct⟩:=by
 cases hc:fn.body with
 |none=>rw[hc]at hb;cases hb
 |some c =>
  refine⟨⟨fn,hf,hb,hname⟩,fun w wF vs ds p ms obs hct _ _ _ _ hwl=>?_,fun hm=>(by have hm:([(0,93),(0,93)]:List (Nat×Nat))=[(0,99),(0,99)]:=hm;exact absurd hm (by decide)),fun hm=>(by have hm:([(0,93),(0,93)]:List (Nat×Nat))=[(0,98),(0,98)]:=hm;exact absurd hm (by decide)),fun hm=>(by have hm:([(0,93),(0,93)]:List (Nat×Nat))=[(0,97),(0,97)]:=hm;exact absurd hm (by decide)),fun hm=>(by have hm:([(0,93),(0,93)]:List (Nat×Nat))=[(0,96),(0,96)]:=hm;exact absurd hm (by decide)),fun _ mas q sv ex outs h1 h2=>?_⟩
  ·have:=hw _ _ hct
   rw[this]at hwl;have hwl:(0:Nat)=2:=hwl
   omega
  ·have:=h mas q sv ex outs h1 h2
   unfold aF at this;rw[hc]at this;exact ad0 hΓ hf hc this
theorem Iq{P:Program}{f:FuncId}{ct:List AD->Option Post}(hf:∃fn,P.funcs[f]?=some fn/\fn.body.isSome=true/\(fn.name == "runtime.NumGoroutine")=false)
  (h:∀ads p,ct ads=some p->p.pre->False):Fits P f ⟨[(0,93),(0,93)],ct⟩ :=
 ⟨hf,fun w wF vs ds p ms obs hct ξ=>(h ds p hct ξ).elim,fun hm=>(by have hm:([(0,93),(0,93)]:List (Nat×Nat))=[(0,99),(0,99)]:=hm;exact absurd hm (by decide)),fun hm=>(by have hm:([(0,93),(0,93)]:List (Nat×Nat))=[(0,98),(0,98)]:=hm;exact absurd hm (by decide)),fun hm=>(by have hm:([(0,93),(0,93)]:List (Nat×Nat))=[(0,97),(0,97)]:=hm;exact absurd hm (by decide)),fun hm=>(by have hm:([(0,93),(0,93)]:List (Nat×Nat))=[(0,96),(0,96)]:=hm;exact absurd hm (by decide)),
  fun _ mas q sv ex outs h1 h2=>(h _ _ h1 h2).elim⟩
theorem lY:∀{mas l:List MA},mas.map AD.ma=l.map AD.ma->mas=l
 | [],[],_=>rfl
 | [],_::_,h=>by cases h
 |_::_,[],h=>by cases h
 |x::mas,y::l,h=>by
  simp only[Ax,CY,AD.ma.injEq]at h;rw[h.1,lY h.2]
end Go.Sx
end
section
namespace Go.Sx
theorem ad1{b:Bool}{A B:Prop}:ab b A B↔(b=true->A)/\(b=false->B):=by cases b<;>simp[ab]
theorem wU{α:Type}(f:List α)(z d:α)(i:Nat)(h:i<f.length) :
  (f.take i++List.replicate (f.length-i) z).set i (f.getD i d)=f.take (i+1)++List.replicate (f.length-(i+1)) z:=by
 apply BS
 intro j
 simp only[BB,List.getElem?_append,Ag,AT,Bl,Az,Dx,AP];by_cases h1:i=j
 ·subst h1
  have:i<min i f.length+(f.length-i):=by omega
  simp only[AV,this];have h2:i<min (i+1) f.length:=by omega
  simp[h2,AF h]
 ·simp only[h1,Al]
  by_cases h3:j<i
  ·have a:j<min i f.length:=by omega
   have b:j<min (i+1) f.length:=by omega
   have c:j<i+1:=by omega
   simp[a,b,h3,c]
  ·have a:¬ j<min i f.length:=by omega
   have b:¬ j<min (i+1) f.length:=by omega
   simp only[a,b,Al];have:(j-min i f.length<f.length-i)↔(j-min (i+1) f.length<f.length-(i+1)):=by omega
   simp[this]
theorem ad2{α:Type}(f:List α)(z:α)(n:Nat)(h:f.length=n):List.replicate n z=f.take 0++List.replicate (f.length-0) z:=by
 simp[h]
theorem ad3{α:Type}(f:List α)(z:α)(i:Nat)(h:f.length<=i):f.take i++List.replicate (f.length-i) z=f:=by
 rw[AU h,Nat.sub_eq_zero_of_le h];simp
theorem dZ{α:Type}(f:List α)(d:α)(i:Nat)(h:i<f.length):f.take i++[f.getD i d]=f.take (i+1):=by
 rw[List.take_add_one,AP,AF h];rfl
theorem bv{α:Type}(f:List α)(d:α)(i:Nat)(h:i<f.length):f.getD i d=f[i]:=by
 simp[AP,AF h]
theorem jT{α β:Type}(l:List α)(f:α->β)(d:α)(e:β)(i:Nat)(h:i<l.length):(l.map f).getD i e=f (l.getD i d):=by
 simp[AP,AF h]
theorem wV{α:Type}(a b:List α)(d:α)(i:Nat)(ha:i<a.length)(hb:i<b.length)(h:a.take i=b.take i) :
  a.take (i+1)=b.take (i+1)↔a.getD i d=b.getD i d:=by
 rw[<-dZ a d i ha,<-dZ b d i hb,h];simp
def Q1(k:Int)(n:Nat):D1:=(List.range n).map fun i:Nat=>k+(i:Int)
theorem ad4(k:Int)(n:Nat):(Q1 k n).length=n:=by simp[Q1]
theorem getD_append_right'{α:Type}(a b:List α)(d:α)(i:Nat)(h:a.length<=i):(a++b).getD i d=b.getD (i-a.length) d:=by
 simp[AP,A0 h]
theorem getD_append_left'{α:Type}(a b:List α)(d:α)(i:Nat)(h:i<a.length):(a++b).getD i d=a.getD i d:=by
 simp[AP,Au h]
theorem drop_cons'{α:Type}(l:List α)(d:α)(i:Nat)(h:i<l.length):l.drop i=l.getD i d::l.drop (i+1):=by
 rw[bv l d i h];exact Cm h
theorem bI{α:Type}(l:List α)(d:α)(i:Nat)(h:i<l.length):l.getD i d∈l:=by
 rw[bv l d i h];exact A7 h
def au(n:Nat)(f:Nat->Int):D1:=(List.range n).map f
theorem ep(n:Nat)(f:Nat->Int):(au n f).length=n:=by simp[au]
theorem er(n:Nat)(f:Nat->Int)(i:Nat)(h:i<n):(au n f).getD i 0=f i:=by
 simp[au,AP,h]
theorem nB{n:Nat}{f g:Nat->Int}(h:∀i,i<n->f i=g i):au n f=au n g:=by
 apply Bk
 intro i hi
 exact h i (Af.1 hi)
theorem ad5(n:Nat)(f:Nat->Int)(a:Nat)(v:Int):(au n f).set a v=au n (fun t=>if t=a then v else f t):=by
 apply BS
 intro j
 simp only[au,BB,Ai,AR,CV];by_cases hj:j<n
 ·by_cases ha:a=j
  ·subst ha;simp[hj]
  ·simp[ha,hj,AM ha]
 ·by_cases ha:a=j
  ·subst ha;simp[hj]
  ·simp[ha,hj]
theorem Q2(l:D1):l=au l.length fun i=>l.getD i 0:=by
 apply BS
 intro j
 by_cases hj:j<l.length
 ·simp[au,hj]
 ·simp[au,hj]
theorem ic{a b:D1}(hl:a.length=b.length)(h:∀i,i<a.length->a.getD i 0=b.getD i 0):a=b:=by
 rw[Q2 a,Q2 b,<-hl];exact nB h
theorem iM(l:D1)(a i:Nat)(v:Int)(h:i<l.length):(l.set a v).getD i 0=if i=a then v else l.getD i 0:=by
 simp only[AP,BB];by_cases ha:a=i
 ·subst ha;simp[h]
 ·simp[ha,AM ha]
theorem pj{α:Type}(l:List α)(d:α)(n i:Nat)(h:i<n):(l.take n).getD i d=l.getD i d:=by
 simp[AP,h]
theorem Q3{α:Type}(l:List α)(d:α)(n i:Nat):(l.drop n).getD i d=l.getD (n+i) d:=by
 simp[AP]
section
theorem u1(p:Prop):(True/\p)=p:=B8 p
theorem u2(p:Prop):(p/\True)=p:=Bi p
theorem u3{p:Prop}[Decidable p]:(decide p=true)=p:=Ab
theorem u4{p:Prop}[Decidable p]:decide p=false↔¬ p:=Bq
theorem u5{α:Type}[BEq α][LawfulBEq α]{a b:α}:(a != b)=true↔a≠b:=bne_iff_ne
theorem u6{α:Type}[BEq α][LawfulBEq α]{a b:α}:(a == b)=true↔a=b:=beq_iff_eq
theorem u7{α:Type}[BEq α][LawfulBEq α]{a b:α}:(a != b)=false↔a=b:=bne_eq_false_iff_eq
theorem u8{α:Type}[BEq α][LawfulBEq α]{a b:α}:(a == b)=false↔a≠b:=beq_eq_false_iff_ne
theorem u9(b:Bool):(¬ b=true)=(b=false):=Cw b
theorem v1(b:Bool):(¬ b=false)=(b=true):=Bool.not_eq_false b
theorem v2:(!true)=false:=Da
theorem v3:(!false)=true:=Db
theorem v4{a b:Bool}:((!a)=b)=(a=!b):=by simp only[Bool.not_eq_eq_eq_not]
theorem v5(n:Nat):((n:Int)).toNat=n:=Am n
theorem v6{α:Type}{a b:List α}:(a++b).length=a.length+b.length:=Ag
theorem v7{α:Type}{i:Nat}{l:List α}:(l.take i).length=min i l.length:=AT
theorem v8{α:Type}{n:Nat}{a:α}:(List.replicate n a).length=n:=Bl
theorem v9{α:Type}{l:List α}{i:Nat}{a:α}:(l.set i a).length=l.length:=Ak
theorem w1{α β:Type}{l:List α}(f:α->β):(l.map f).length=l.length:=AR f
theorem w2{α:Type}{i:Nat}{l:List α}:(l.drop i).length=l.length-i:=BG
theorem w3{α:Type}:([]:List α).length=0:=Bn
theorem w4{α:Type}{a:α}{l:List α}:(a::l).length=l.length+1:=AS
theorem y1(n:Int)(l:Nat):ac n l=(0<=n/\n<(l:Int)):=rfl
theorem y2(n:Int):af n=(-9223372036854775808<=n/\n<=9223372036854775807):=rfl
theorem y3(n:Nat):am n=(n<=1099511627776):=rfl
theorem y4(L:Nat):bM L none none=True:=rfl
theorem y5(L:Nat)(h:Int):bM L none (some h)=(0<=h/\h<=(L:Int)):=rfl
theorem y6(L:Nat)(l:Int):bM L (some l) none=(0<=l/\l<=(L:Int)):=rfl
theorem y7(L:Nat)(l h:Int):bM L (some l) (some h)=(0<=l/\l<=h/\h<=(L:Int)):=rfl
def aJ:=And.intro @ad1 <|And.intro @u1 <|And.intro @u2 <|And.intro @u3 <|And.intro @u4 <|And.intro @u5 <|And.intro @u6 <|And.intro @u7 <|And.intro @u8 <|And.intro @u9 <|And.intro @v1 <|And.intro @v2 <|And.intro @v3 <|And.intro @v4 <|And.intro @v5 <|And.intro @v6 <|And.intro @v7 <|And.intro @v8 <|And.intro @v9 <|And.intro @w1 <|And.intro @w2 <|And.intro @w3 <|And.intro @w4 <|And.intro ad4 <|And.intro y1 <|And.intro y2 <|And.intro y3 <|And.intro y4 <|And.intro y5 <|And.intro y6 y7
end
end Go.Sx
end
