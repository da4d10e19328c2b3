/- SxX SxY SxZ -/
import Derived.KernelRfl
import Derived.Test.YtcdmndagoafcgaaGreatSxW
section
namespace Go.Sx
open Go.RowKit
theorem XK {d:FC} {rc:RC} {ob:Ob} (h:gJ d rc=some ob):ob.shp.len=d.len:=by
 unfold gJ at h;split at h <;> first | (split at h <;> first | (cases h;rfl) | cases h) | (cases h;rfl) | cases h
theorem XL {P:Program} {Γ:FuncId→Option Ctr} (hΓ:dE P Γ) {f:FuncId} {fn:Func} {c:Code} {mt:List (Nat×Nat)} {ct:List AD→Option Post}
  (hf:P.funcs[f]?=some fn) (hb:fn.body=some c) (hname:(fn.name == "runtime.NumGoroutine")=false) (hpid:iK (d7 mt)=true)
  (h:∀ds p,ct ds=some p→p.pre→∃wr ann,aC P Γ wr ann fn c mt ds p):Fits P f ⟨mt,ct⟩:=by
 refine ⟨⟨fn,hf,by simp [hb],hname⟩,?_,fun hm=>by
  have hm:mt=[(0,99),(0,99)]:=hm
  rw [hm] at hpid;exact absurd hpid (by decide),fun hm=>by
  have hm:mt=[(0,98),(0,98)]:=hm
  rw [hm] at hpid;exact absurd hpid (by decide),fun hm=>by
  have hm:mt=[(0,97),(0,97)]:=hm
  rw [hm] at hpid;exact absurd hpid (by decide),fun hm=>by
  have hm:mt=[(0,96),(0,96)]:=hm
  rw [hm] at hpid;exact absurd hpid (by decide)⟩
 intro w wF vs ds p ms obs hct Yh hvl hml hol hwl hmo hsep hwr hwF hargs
 have hpn:=qv hpid
 obtain ⟨wr,ann,hrun⟩:=h ds p hct Yh;unfold aC at hrun;split at hrun
 ·exact hrun.elim
 rename_i hp hhp
 let C:Cx:=⟨P,ds.length+(fn.ntmps - ds.length),w,wF,fun b=>∃m∈ms,b∈m.blocks,fun o=>match fo o (eo mt p.wrs) with | true=>none | false=>lk ((d7 mt).zip ms) o⟩
 let mu:Nat→Img:=fun o=>match lk ((d7 mt).zip ms) o with
  | some m=>m
  | none=>⟨undef,[]⟩
 have hml':ms.length=(d7 mt).length:=by simpa [d7] using hml
 have hmu:∀(x i j:Nat),mt[x]?=some (i,j)→∃m,ms[x]?=some m∧mu (cM i j)=m∧lk ((d7 mt).zip ms) (cM i j)=some m:=fun x i j hx=>by
  have h1:=jq hx
  obtain ⟨m,hm⟩:=L0 (List.mem_of_getElem? h1) hml';obtain ⟨y,h2,h3⟩:=EF hm;have:y=x:=xn hpn h2 h1
  subst this;exact ⟨m,h3,by simp only [mu,hm],hm⟩
 have hcell:∀{i j:Nat} {d:FC},oC ds i j=some d→∃u,fV wF mt ms obs i j d u:=fun {i j d} hc=>by
  unfold oC at hc;split at hc
  ·rename_i d' hd
   split at hc
   ·cases hc
    obtain ⟨v,_,h2⟩:=hargs i _ hd;exact ⟨v,h2⟩
   ·cases hc
  ·rename_i cs hd
   obtain ⟨v,_,arr,_,_,h4⟩:=hargs i _ hd;obtain ⟨u,_,h5⟩:=h4 j d hc;exact ⟨u,h5⟩
  ·rename_i off n d' hd
   split at hc
   ·cases hc
    obtain ⟨v,_,h2⟩:=hargs i _ hd;simp only [cD] at h2;cases hx:bG mt i 0 with
    | none=>rw [hx] at h2;exact h2.elim
    | some x =>
     rw [hx] at h2;obtain ⟨m,ob,q1,q2,q3,q4,q5,q6,q7⟩:=h2;exact ⟨m.hd,q7,by rw [hx];exact ⟨m,ob,q1,q2,rfl,q3⟩⟩
   ·cases hc
  ·cases hc
 let σ:State:=⟨oB mt 0 ds,hp⟩
 have hlive:∀{x i j:Nat},mt[x]?=some (i,j)→∃ob,σ.H (cM i j)=some (some ob):=fun {x i j} hx =>
  Fl hhp _ (List.mem_of_getElem? (jq hx))
 have hnfz:∀{o:Nat} {ob:Ob},σ.H o=some (some ob)→ob.isFz=false:=fun {o ob} ho=>by
  obtain ⟨x,i,j,ob',rc,_,_,_,h4,h5⟩:=qQ hhp o _ ho;cases h5;exact XD h4
 have hob:∀o ob,σ.H o=some (some ob)→∃(x:Nat) (m:Img),(d7 mt)[x]?=some o∧ms[x]?=some m∧mu o=m∧ob.shp.ver=0∧bn (σ.env C.wF mu) w m ob∧m.blocks.Nodup:=fun o ob ho=>by
  have ho':=ho
  obtain ⟨x,i,j,ob',rc,h1,rfl,h3,h45,h6⟩:=qQ hhp o _ ho;cases h6;obtain ⟨m,k1,k2,_⟩:=hmu x i j h1;unfold mU at h45;split at h45
  ·rename_i cs hcs
   obtain ⟨rfl,hcs2⟩:=XE hcs;split at h45
   ·rename_i cs'
    split at h45
    ·cases h45
     obtain ⟨q2,q4⟩:obs[x]?=some (.bx cs)∧∀(j:Nat) (d:FC),cs[j]?=some d→dv d=false→∃u,m.ins[j]?=some (.agg #[u])∧(∃a n c,u=.slice a n c∧n≤c)∧bw wF u d:=by
      rcases hcs2 with hcs2 | ⟨F,s0,hcs2,rfl⟩
      ·obtain ⟨v,_,hv⟩:=hargs i _ hcs2
       simp only [cD] at hv;rw [Fk hpn h1] at hv;obtain ⟨m',q1,q2,q3,q4⟩:=hv;rw [k1] at q1;cases q1;exact ⟨q2,q4⟩
      ·obtain ⟨v,_,hv⟩:=hargs i _ hcs2
       simp only [cD] at hv;rw [Fk hpn h1] at hv;obtain ⟨m',b',q1,q2,_⟩:=hv;refine ⟨q2,fun j d hj hs=>?_⟩
       match j,hj with
       | 0,hj=>simp at hj;subst hj;cases hs
       | j+1,hj=>simp at hj
     obtain ⟨⟨b,arr,t,r1,r2,r3,r4,r5⟩,r6⟩:=hmo x m _ k1 q2;refine ⟨x,m,jq h1,k1,k2,rfl,⟨b,arr,t,r1,r2,r3,by rw [r4,Fm],fun k c hk=>?_⟩,r6⟩
     obtain ⟨d,hd,rfl⟩:=MP hk;obtain ⟨u,t1,t2,t3⟩:=r5 k d hd;refine ⟨u,t1,t2,?_⟩
     rw [Nat.zero_add];cases hs:dv d with
     | true=>simp only [if_true];exact EJ t3 hs _
     | false =>
      simp only [Bool.false_eq_true,if_false];have t4:=EK t3 hs
      obtain ⟨u',t5,t6,t7⟩:=q4 k d hd hs;rw [t4] at t5;simp at t5
      rw [←t5] at t6 t7;refine ⟨⟨t6,t7⟩,t2,?_⟩
      have:(σ.env C.wF mu).st (cM i 0)=.live (Ob.box (jQ (cM i 0) 0 cs)).shp:=eR ho'
      rw [this];intro _
      show (mu (cM i 0)).ins[k]?=_
      rw [k2];exact t4
    ·cases h45
   ·cases h45
  obtain ⟨d,h4,h5⟩:∃d,oC ds i j=some d∧gJ d rc=some ob:=by
   split at h45
   ·exact ⟨_,by assumption,h45⟩
   ·cases h45
  obtain ⟨u,hu⟩:=hcell h4;have hu2:=hu.2
  rw [Fk hpn h1] at hu2;obtain ⟨m',ob2,q1,q2,q3,q4⟩:=hu2;rw [k1] at q1;cases q1;obtain ⟨r1,r2⟩:=hmo x m ob2 k1 q2;obtain ⟨ob3,q,r3,_⟩:=hwr x ob2 rc q2 h3;obtain ⟨r4,r5⟩:=XF (E:=σ.env C.wF mu) (fun _ _ h=>h) q4 r3 h5 r1
  exact ⟨x,m,jq h1,k1,k2,r5,r4,r2⟩
 have hargC:∀{i j:Nat} {d:FC} {u:Value},fV wF mt ms obs i j d u→ap (σ.env C.wF mu) (qH mt i j d) u∧u.oneCell'=true:=fun {i j d u} hu=>by
  refine ⟨?_,hu.1⟩
  have hu2:=hu.2
  unfold qH;split
  ·rename_i hmem
   rw [mJ] at hmem;cases hmt:bG mt i j with
   | none=>rw [hmt] at hmem;cases hmem
   | some x =>
    rw [hmt] at hu2;obtain ⟨m,ob2,q1,q2,q3,q4⟩:=hu2;obtain ⟨ob,hl⟩:=hlive (jn hmt);obtain ⟨m',k1,k2,_⟩:=hmu x i j (jn hmt);rw [q1] at k1;cases k1;refine ⟨hu.1,?_⟩
    have:(σ.env C.wF mu).st (cM i j)=.live ob.shp:=eR hl (hnfz hl)
    rw [this]
    show u=(mu (cM i j)).hd
    rw [k2,q3]
  ·rename_i hmem
   rw [mJ] at hmem;cases hmt:bG mt i j with
   | none =>
    rw [hmt] at hu2;exact (wd (E:=σ.env C.wF mu) hu2).1
   | some x=>rw [hmt] at hmem;cases hmem
 have hs:aN C σ { tmps:=vs.toArray++Array.replicate (fn.ntmps - vs.toArray.size) undef,defers:=[] } w:=by
  refine St.ex (C:=C) (mu:=mu) ⟨.refl _,rfl,rfl,Nat.le_refl _,fun _ _ _=>rfl,fun q u hq=>?_,?_,rfl,fun t sv ht=>?_,fun o ob ho=>?_,fun o ob ho=>?_,fun o o' ob ob' hne ho ho' b hb hb'=>?_,fun o m hm=>?_⟩
  ·obtain ⟨h1,h2⟩:=hwF q u hq
   exact ⟨fun o ob ho hb=>by
    obtain ⟨x,m,_,h3,h4,_⟩:=hob o ob ho;rw [h4] at hb;exact h2 m (List.mem_of_getElem? h3) hb,h1⟩
  ·simp [C,hvl]
  ·obtain ⟨i,d,h1,h2,rfl⟩:=MQ ht
   rw [Nat.zero_add] at h2;subst h2;obtain ⟨v,h3,h4⟩:=hargs t d h1;have hv:(vs.toArray++Array.replicate (fn.ntmps - vs.toArray.size) undef).getD t undef=v:=by
    have hlt:=(List.getElem?_eq_some_iff.1 h3).1
    rw [Array.getD_eq_getD_getElem?,Array.getElem?_append_left (by simpa using hlt)]
    simp [h3]
   simp only [hv];cases d with
   | c d=>exact (hargC h4).1
   | agg cs =>
    obtain ⟨arr,h5,h6,h7⟩:=h4;refine ⟨arr,h5,by rw [h6,MU],fun k c hk=>?_⟩
    obtain ⟨d,h8,rfl⟩:=MT hk;rw [Nat.zero_add];obtain ⟨u,h9,h10⟩:=h7 k d h8;exact ⟨u,h9,(hargC h10).2,(hargC h10).1⟩
   | box cs =>
    simp only [cD] at h4
    show aB C.P _ (match lp t 0 mt with | true=>SV.c (.ptr (cM t 0) 0) | false=>SV.c (.rob cs 0)) v
    rw [mJ];cases hmt:bG mt t 0 with
    | none =>
     rw [hmt] at h4;obtain ⟨b,off,h5,h6⟩:=h4;exact ⟨b,off,h5,fun j fc hj=>h6 j fc (by rwa [Nat.zero_add] at hj)⟩
    | some x =>
     rw [hmt] at h4;obtain ⟨m,q1,q2,q3,_⟩:=h4;have hx:=jn hmt
     obtain ⟨ob,hl⟩:=hlive hx;obtain ⟨m',k1,k2,_⟩:=hmu x t 0 hx;rw [q1] at k1;cases k1;obtain ⟨⟨b,arr,ty,r1,_,_,_,_⟩,_⟩:=hmo x m _ q1 q2;obtain ⟨x2,i2,j2,ob2,rc,s1,s2,s3,s4,s5⟩:=qQ hhp (cM t 0) _ hl;have hx2:x2=x:=xn hpn (jq s1) (by rw [←s2];exact jq hx)
     subst hx2;rw [hx] at s1;cases s1;cases s5;unfold mU at s4;have hb:mT ds t 0=some cs:=by simp [mT,h1]
     rw [hb] at s4;simp only at s4;split at s4
     ·split at s4
      ·rename_i hne
       cases s4;have hv1:v.oneCell'=true:=by rw [q3,r1];rfl
       refine ⟨hv1,?_⟩
       have:(σ.env C.wF mu).st (cM t 0)=.live (Ob.box (jQ (cM t 0) 0 cs)).shp:=eR hl
       rw [this];refine ⟨?_,b,?_,by rw [q3,r1]⟩
       ·show 0<(jQ (cM t 0) 0 cs).length
        rw [Fm];exact List.length_pos_iff.2 hne.2
       ·show ai (mu (cM t 0)).hd=some b
        rw [k2,r1];rfl
      ·cases s4
     ·cases s4
   | fv F=>exact h4
   | fvs F s0 =>
    simp only [cD] at h4;cases hmt:bG mt t 0 with
    | none=>rw [hmt] at h4;exact h4.elim
    | some x =>
     rw [hmt] at h4;obtain ⟨m,b,q1,q2,q3,q4,q5⟩:=h4;have hx:=jn hmt
     obtain ⟨ob,hl⟩:=hlive hx;obtain ⟨m',k1,k2,_⟩:=hmu x t 0 hx;rw [q1] at k1;cases k1;refine ⟨q4,?_⟩
     have:(σ.env C.wF mu).st (cM t 0)=.live ob.shp:=eR hl (hnfz hl)
     rw [this];refine ⟨b,?_,q5⟩
     show (mu (cM t 0)).hd=_
     rw [k2,q3]
   | cut off n d =>
    simp only [cD] at h4;cases hmt:bG mt t 0 with
    | none=>rw [hmt] at h4;exact h4.elim
    | some x =>
     rw [hmt] at h4;obtain ⟨m,ob2,q1,q2,q3,q4,q5,q6,q7⟩:=h4;have hx:=jn hmt
     obtain ⟨ob,hl⟩:=hlive hx;obtain ⟨m',k1,k2,_⟩:=hmu x t 0 hx;rw [q1] at k1;cases k1;obtain ⟨x2,i2,j2,ob3,rc,s1,s2,s3,s4,s5⟩:=qQ hhp (cM t 0) _ hl;have hx2:x2=x:=xn hpn (jq s1) (by rw [←s2];exact jq hx)
     subst hx2;rw [hx] at s1;cases s1;cases s5;unfold mU at s4;have hb:mT ds t 0=none:=by simp [mT,h1]
     have hc:oC ds t 0=some d:=by simp [oC,h1]
     rw [hb] at s4;simp only [hc] at s4;refine ⟨q6,?_⟩
     have:(σ.env C.wF mu).st (cM t 0)=.live ob.shp:=eR hl (hnfz hl)
     rw [this];refine ⟨?_,?_⟩
     ·rw [XK s4];exact q4
     ·show cH (mu (cM t 0)).hd off n v
      rw [k2];exact q5
  ·obtain ⟨x,m,_,_,h3,_,h5,_⟩:=hob o ob ho
   rw [h3];exact h5
  ·obtain ⟨x,m,_,h2,h3,_,_,h6⟩:=hob o ob ho
   rw [h3];exact ⟨h6,fun b hb=>.inl ⟨m,List.mem_of_getElem? h2,hb⟩⟩
  ·obtain ⟨x,m,h1,h2,h3,_⟩:=hob o ob ho
   obtain ⟨x',m',h1',h2',h3',_⟩:=hob o' ob' ho';rw [h3] at hb;rw [h3'] at hb';refine hsep x x' m m' (fun hc=>hne ?_) h2 h2' b hb hb'
   subst hc;rw [h1] at h1';exact Option.some.inj h1'
  ·have hm:(match fo o (eo mt p.wrs) with | true=>none | false=>lk ((d7 mt).zip ms) o)=some m:=hm
   split at hm
   ·cases hm
   obtain ⟨x,h1,h2⟩:=EF hm;obtain ⟨ob,hl⟩:=Fl hhp o (List.mem_of_getElem? h1);have hl:σ.H o=some (some ob):=hl
   rw [eR hl (hnfz hl)];have:mu o=m:=by simp only [mu,hm]
   exact ⟨by rw [this],fun _=>this⟩
 have hpins:∀o m,C.pin o=some m→o∈eo mt p.wrs:=fun o m hm=>by
  have hm:(match fo o (eo mt p.wrs) with | true=>none | false=>lk ((d7 mt).zip ms) o)=some m:=hm
  split at hm
  ·cases hm
  ·exact MZ (by assumption)
 have hwp:=Xw (C:=C) (k:=⟨P,Γ,wr,ds.length+(fn.ntmps - ds.length),eo mt p.wrs⟩) rfl hΓ rfl hpins c 0 ann σ _ hrun _ _ hs
 refine calls_of_wp hf hb (wp_mono hwp ?_)
 rintro e a' w' ⟨σ',⟨wG0,mu0,hg0,hst0⟩,hK⟩
 have fin:∀(svs:List SV) (us:List (Nat×Nat)) (q q':Prop),fG (oD P σ') fn.results.toList=some svs→xj (lH σ' svs p.ret) svs p.ret=some (us,q)→iK (us.map (·.2))=true→qP (eo mt p.wrs) us=true →
   mW (lH σ' svs p.ret) (eo mt p.wrs) (lI p.wrs)=some q'→q∧q'→∃v,(results fn a'.tmps).run P w'=.ok v w'∧∃(v':Value) (ms':List Img) (img:Nat→Img) (wG:World),Ending.returned v=.returned v'∧After w w' ms∧ms'.length=ms.length ∧
   (∀(x:Nat) (m m':Img) (ob:Ob) (rc:RC),ms[x]?=some m→ms'[x]?=some m'→obs[x]?=some ob→p.wrs[x]?=some rc→rc.isGone=false →
    m'=m∧m'.hd=m.hd∧m'.blocks.Nodup∧(∀b∈m'.blocks,b∈m.blocks)∧∃ob' q,cp ob rc=some (ob',q)∧bn (E0 w) w' m' ob') ∧
   GrowW w w' wF wG ms p.wrs∧RetRep (fun b=>w.heap.size≤b∨jL ms p.wrs b) w' wG img p.ret v':=by
  intro svs us q q' h1 h2 h3 h4 h5 h6
  obtain ⟨rs,r1,r2,r30⟩:=Xz (C:=C.fz wG0) (fn:=fn) h1 hst0;obtain ⟨oc1,oc2⟩:=Fb (XJ (σ:=σ') (svs:=svs) (rv:=p.ret));obtain ⟨wG,mu',hg1,hst,he⟩:=hst0.cvs oc1 oc2;have hst:St (C.fz wG) (lH σ' svs p.ret) mu' a' w':=hst
  have r3:∀(i:Nat) (sv:SV),svs[i]?=some sv→∃v,rs[i]?=some v∧aB P ((lH σ' svs p.ret).env wG mu') sv v:=fun i sv hi=>by
   obtain ⟨v,q1,q2⟩:=r30 i sv hi;exact ⟨v,q1,q2.mono he⟩
  have hg:GrowF C wG:=hg0.trans hg1
  have hpinE:∀(x:Nat) (m:Img) (rc:RC),ms[x]?=some m→p.wrs[x]?=some rc→rc.isGone=false→∃o obf q,(d7 mt)[x]?=some o∧o∈eo mt p.wrs∧(lH σ' svs p.ret).H o=some (some obf)∧obf.isFz=false∧hU o obf rc=some q∧q∧mu' o=m:=fun x m rc k1 krc kg=>by
   have hlt:x<mt.length:=by
    have:=(List.getElem?_eq_some_iff.1 k1).1
    have hml2:ms.length=mt.length:=hml
    omega
   obtain ⟨i,j,hx⟩:∃i j,mt[x]?=some (i,j):=⟨mt[x].1,mt[x].2,List.getElem?_eq_getElem hlt⟩;obtain ⟨y,y1,y2⟩:=M0 hx krc kg;obtain ⟨obf,q2,r8,r9,r10⟩:=M1 h5 h6.2 y _ _ y1 y2;have hmem:cM i j∈eo mt p.wrs:=List.mem_of_getElem? y1
   obtain ⟨m2,k3,k4,k5⟩:=hmu x i j hx;rw [k1] at k3;cases k3;have hpin:C.pin (cM i j)=some m:=by
    show (match fo (cM i j) (eo mt p.wrs) with | true=>none | false=>lk ((d7 mt).zip ms) (cM i j))=some m
    cases hn:fo (cM i j) (eo mt p.wrs) with
    | true=>exact absurd hmem (lD hn)
    | false=>exact k5
   have hnf:=XH r9
   have h9:=hst.pins _ m hpin
   rw [eR r8 hnf] at h9;exact ⟨cM i j,obf,q2,jq hx,hmem,r8,hnf,r9,r10,h9.2 (XG r9)⟩
  have hwx:∀(x:Nat) (m:Img),ms[x]?=some m→∃rc,p.wrs[x]?=some rc:=fun x m hx =>
   ⟨_,List.getElem?_eq_getElem (by
    have:=(List.getElem?_eq_some_iff.1 hx).1
    have hml2:ms.length=mt.length:=hml
    have hwl2:p.wrs.length=mt.length:=hwl
    omega)⟩
  have hM:∀i o ob,(i,o)∈us→(lH σ' svs p.ret).H o=some (some ob)→∀b∈(mu' o).blocks,w.heap.size≤b∨jL ms p.wrs b:=by
   intro i o ob hio hoo b hb
   rcases (hst.nd o ob hoo).2 b hb with ⟨m,hm,hbm⟩ | h7
   ·right
    obtain ⟨x,hx⟩:=List.getElem?_of_mem hm;obtain ⟨rc,hrc⟩:=hwx x m hx;cases hgn:rc.isGone with
    | true=>exact ⟨x,m,rc,hx,hrc,hgn,hbm⟩
    | false =>
     exfalso
     obtain ⟨o2,obf,q2,k1,k2,r8,_,_,_,r9⟩:=hpinE x m rc hx hrc hgn;have hno:∀{l:List (Nat×Nat)},qP (eo mt p.wrs) l=true→(i,o)∈l→o ∉ eo mt p.wrs:=fun {l}=>by
      induction l with
      | nil=>intro _ h;simp at h
      | cons y l ih =>
       intro hn hy
       simp only [qP,Bool.and_eq_true] at hn;rcases List.mem_cons.1 hy with hy | hy
       ·subst hy;exact lD hn.1
       ·exact ih hn.2 hy
     have hne:o≠o2:=fun hc=>hno h4 hio (by rw [hc];exact k2)
     rw [←r9] at hbm;exact hst.sep o _ ob obf hne hoo r8 b hb hbm
   ·exact .inl h7
  obtain ⟨img,r4⟩:=XC (Nw:=fun b=>w.heap.size≤b∨jL ms p.wrs b) hst h2 h6.1 hM (qv h3) r1 r3
  refine ⟨_,r2,_,ms,img,wG,rfl,⟨hst.os,hst.tape,hst.output,hst.size,fun b hb hm=>hst.block b hb fun ⟨m,k1,k2⟩=>hm m k1 k2⟩,rfl,?_,⟨hg.kept,fun q u hq=>⟨(hst.cells q u hq).2,?_⟩⟩,r4⟩
  ·intro x m m' ob rc k1 k2 k3 k4 kg
   rw [k1] at k2;cases k2;obtain ⟨r5,r6⟩:=hmo x m ob k1 k3;obtain ⟨ob',q1,r7,_⟩:=hwr x ob rc k3 k4;obtain ⟨o,obf,q2,_,_,r8,hnf,r9,r10,h10⟩:=hpinE x m rc k1 k4 kg;have r12:=XI (w:=w') (w0:=w) r7 r9 r10 (hst.ob _ _ r8) rfl (eR r8 hnf)
   rw [h10] at r12;exact ⟨rfl,rfl,r6,fun b hb=>hb,ob',q1,r7,r12⟩
  ·rcases hg.new q u hq with h7 | h7 | ⟨m,hm,hbm⟩
   ·exact .inl h7
   ·exact .inr (.inl h7)
   ·obtain ⟨x,hx⟩:=List.getElem?_of_mem hm
    obtain ⟨rc,hrc⟩:=hwx x m hx;cases hgn:rc.isGone with
    | true=>exact .inr (.inr ⟨x,m,rc,hx,hrc,hgn,hbm⟩)
    | false =>
     exfalso
     obtain ⟨o2,obf,q2,k1,k2,r8,_,_,_,r9⟩:=hpinE x m rc hx hrc hgn;rw [←r9] at hbm;exact (hst.cells q u hq).1 o2 obf r8 hbm
 have fin2:Ff P fn.results.toList mt p .ret σ'→∃v,(results fn a'.tmps).run P w'=.ok v w'∧∃(v':Value) (ms':List Img) (img:Nat→Img) (wG:World),Ending.returned v=.returned v'∧After w w' ms∧ms'.length=ms.length ∧
   (∀(x:Nat) (m m':Img) (ob:Ob) (rc:RC),ms[x]?=some m→ms'[x]?=some m'→obs[x]?=some ob→p.wrs[x]?=some rc→rc.isGone=false →
    m'=m∧m'.hd=m.hd∧m'.blocks.Nodup∧(∀b∈m'.blocks,b∈m.blocks)∧∃ob' q,cp ob rc=some (ob',q)∧bn (E0 w) w' m' ob') ∧
   GrowW w w' wF wG ms p.wrs∧RetRep (fun b=>w.heap.size≤b∨jL ms p.wrs b) w' wG img p.ret v':=fun hK=>by
  simp only [Ff] at hK;split at hK
  ·exact hK.elim
  ·split at hK
   ·exact hK.elim
   ·split at hK
    ·exact hK.elim
    ·split at hK
     ·exact hK.elim
     ·split at hK
      ·exact hK.elim
      ·rename_i q' hq'
       exact fin _ _ _ _ ‹_› ‹_› ‹_› ‹_› ‹_› hK
 cases e with
 | normal=>exact ⟨hst0.df,fin2 hK⟩
 | ret=>exact ⟨hst0.df,fin2 hK⟩
 | _=>exact hK.elim
end Go.Sx
end
section
namespace Go.Sx
open Go.RowKit
def aE (fn:Func):Code :=
 match fn.body with
 | some c=>c
 | none=>.skip
theorem xo {P:Program} {Γ:FuncId→Option Ctr} (hΓ:dE P Γ) {f:FuncId} {fn:Func} {mt:List (Nat×Nat)} {ct:List AD→Option Post}
  (hf:P.funcs[f]?=some fn) (hb:fn.body.isSome=true) (hname:(fn.name == "runtime.NumGoroutine")=false) (hpid:iK (d7 mt)=true)
  (h:∀ds p,ct ds=some p→p.pre→∃wr ann,aC P Γ wr ann fn (aE fn) mt ds p):Fits P f ⟨mt,ct⟩:=by
 cases hc:fn.body with
 | none=>rw [hc] at hb;cases hb
 | some c =>
  refine XL hΓ hf hc hname hpid fun ds p h1 h2=>?_
  have:=h ds p h1 h2
  unfold aE at this;rw [hc] at this;exact this
theorem Fo {P:Program} {f:FuncId} {mt:List (Nat×Nat)} {ct:List AD→Option Post} (hf:∃fn,P.funcs[f]?=some fn∧fn.body.isSome=true∧(fn.name == "runtime.NumGoroutine")=false)
  (hpid:iK (d7 mt)=true) (h:∀ds p,ct ds=some p→p.pre→False):Fits P f ⟨mt,ct⟩:=by
 refine ⟨hf,fun w wF vs ds p ms obs hct Yh=>(h ds p hct Yh).elim,fun hm=>?_,fun hm=>?_,fun hm=>?_,fun hm=>?_⟩
 all_goals
  have hm:mt=_:=hm
  rw [hm] at hpid;exact absurd hpid (by decide)
theorem aJ {P:Program} {Γ:FuncId→Option Ctr} (hΓ:dE P Γ) {f:FuncId} {fn:Func} {mt:List (Nat×Nat)} {ct:List AD→Option Post}
  (hf:P.funcs[f]?=some fn) (h:∀ds p,ct ds=some p→p.pre→∃wr ann,aC P Γ wr ann fn (aE fn) mt ds p)
  (hb:fn.body.isSome=true:=by kernel_rfl) (hname:(fn.name == "runtime.NumGoroutine")=false:=by kernel_rfl) (hpid:iK (d7 mt)=true:=by kernel_rfl):Fits P f ⟨mt,ct⟩:=xo hΓ hf hb hname hpid h
def af (l:List (Nat×Ctr)) (f:FuncId):Option Ctr:=lk l f
theorem aF {P:Program}:dE P (af []):=fun f c h=>by cases h
theorem aj {P:Program} {f:Nat} {c:Ctr} {l:List (Nat×Ctr)} (h:Fits P f c) (hl:dE P (af l)):dE P (af ((f,c)::l)):=fun g d hg=>by
 unfold af at hg;rw [bC] at hg;split at hg
 ·rename_i he
  cases hg;subst he;exact h
 ·exact hl g d hg
def ah (_:Nat):Bool:=false
def am (_:Nat):Option Ann:=none
end Go.Sx
end
section
namespace Go.Sx
theorem aG {b:Bool} {A B:Prop}:ac b A B↔(b=true→A)∧(b=false→B):=by cases b <;> simp [ac]
theorem Fp {α:Type} (f:List α) (z d:α) (i:Nat) (h:i<f.length) :
  (f.take i++List.replicate (f.length - i) z).set i (f.getD i d)=f.take (i+1)++List.replicate (f.length - (i+1)) z:=by
 apply List.ext_getElem?
 intro j
 simp only [List.getElem?_set,List.getElem?_append,List.length_append,List.length_take,List.length_replicate,List.getElem?_take,List.getElem?_replicate,List.getD_eq_getElem?_getD];by_cases h1:i=j
 ·subst h1
  have:i<min i f.length+(f.length - i):=by omega
  simp only [if_true,this];have h2:i<min (i+1) f.length:=by omega
  simp [h2,List.getElem?_eq_getElem h]
 ·simp only [h1,if_false]
  by_cases h3:j<i
  ·have a:j<min i f.length:=by omega
   have b:j<min (i+1) f.length:=by omega
   have c:j<i+1:=by omega
   simp [a,b,h3,c]
  ·have a:¬ j<min i f.length:=by omega
   have b:¬ j<min (i+1) f.length:=by omega
   simp only [a,b,if_false];have:(j - min i f.length<f.length - i)↔(j - min (i+1) f.length<f.length - (i+1)):=by omega
   simp [this]
theorem dF {α:Type} (f:List α) (d:α) (i:Nat) (h:i<f.length):f.take i++[f.getD i d]=f.take (i+1):=by
 rw [List.take_add_one,List.getD_eq_getElem?_getD,List.getElem?_eq_getElem h];rfl
theorem ce {α:Type} (f:List α) (d:α) (i:Nat) (h:i<f.length):f.getD i d=f[i]:=by
 simp [List.getD_eq_getElem?_getD,List.getElem?_eq_getElem h]
theorem qR {α β:Type} (l:List α) (f:α→β) (d:α) (e:β) (i:Nat) (h:i<l.length):(l.map f).getD i e=f (l.getD i d):=by
 simp [List.getD_eq_getElem?_getD,List.getElem?_eq_getElem h]
theorem Fq {α:Type} (a b:List α) (d:α) (i:Nat) (ha:i<a.length) (hb:i<b.length) (h:a.take i=b.take i) :
  a.take (i+1)=b.take (i+1)↔a.getD i d=b.getD i d:=by
 rw [←dF a d i ha,←dF b d i hb,h];simp
def M2 (k:Int) (n:Nat):List Int:=(List.range n).map fun i:Nat=>k+(i:Int)
theorem aH (k:Int) (n:Nat):(M2 k n).length=n:=by simp [M2]
theorem getD_append_right' {α:Type} (a b:List α) (d:α) (i:Nat) (h:a.length≤i):(a++b).getD i d=b.getD (i - a.length) d:=by
 simp [List.getD_eq_getElem?_getD,List.getElem?_append_right h]
theorem getD_append_left' {α:Type} (a b:List α) (d:α) (i:Nat) (h:i<a.length):(a++b).getD i d=a.getD i d:=by
 simp [List.getD_eq_getElem?_getD,List.getElem?_append_left h]
theorem drop_cons' {α:Type} (l:List α) (d:α) (i:Nat) (h:i<l.length):l.drop i=l.getD i d::l.drop (i+1):=by
 rw [ce l d i h];exact List.drop_eq_getElem_cons h
theorem cE {α:Type} (l:List α) (d:α) (i:Nat) (h:i<l.length):l.getD i d∈l:=by
 rw [ce l d i h];exact List.getElem_mem h
def aq (n:Nat) (f:Nat→Int):List Int:=(List.range n).map f
theorem cf (n:Nat) (f:Nat→Int):(aq n f).length=n:=by simp [aq]
theorem cr (n:Nat) (f:Nat→Int) (i:Nat) (h:i<n):(aq n f).getD i 0=f i:=by
 simp [aq,List.getD_eq_getElem?_getD,h]
theorem mY {n:Nat} {f g:Nat→Int} (h:∀i,i<n→f i=g i):aq n f=aq n g:=by
 apply List.map_congr_left
 intro i hi
 exact h i (List.mem_range.1 hi)
theorem XM (n:Nat) (f:Nat→Int) (a:Nat) (v:Int):(aq n f).set a v=aq n (fun t=>if t=a then v else f t):=by
 apply List.ext_getElem?
 intro j
 simp only [aq,List.getElem?_set,List.getElem?_map,List.length_map,List.length_range];by_cases hj:j<n
 ·by_cases ha:a=j
  ·subst ha;simp [hj]
  ·simp [ha,hj,Ne.symm ha]
 ·by_cases ha:a=j
  ·subst ha;simp [hj]
  ·simp [ha,hj]
theorem M3 (l:List Int):l=aq l.length fun i=>l.getD i 0:=by
 apply List.ext_getElem?
 intro j
 by_cases hj:j<l.length
 ·simp [aq,hj]
 ·simp [aq,hj]
theorem Fr {a b:List Int} (hl:a.length=b.length) (h:∀i,i<a.length→a.getD i 0=b.getD i 0):a=b:=by
 rw [M3 a,M3 b,←hl];exact mY h
theorem jS (l:List Int) (a i:Nat) (v:Int) (h:i<l.length):(l.set a v).getD i 0=if i=a then v else l.getD i 0:=by
 simp only [List.getD_eq_getElem?_getD,List.getElem?_set];by_cases ha:a=i
 ·subst ha;simp [h]
 ·simp [ha,Ne.symm ha]
theorem oG {α:Type} (l:List α) (d:α) (n i:Nat) (h:i<n):(l.take n).getD i d=l.getD i d:=by
 simp [List.getD_eq_getElem?_getD,h]
theorem M4 {α:Type} (l:List α) (d:α) (n i:Nat):(l.drop n).getD i d=l.getD (n+i) d:=by
 simp [List.getD_eq_getElem?_getD]
section
universe u
theorem u1 (p:Prop):(True∧p)=p:=true_and p
theorem u2 (p:Prop):(p∧True)=p:=and_true p
theorem u3 {p:Prop} [Decidable p]:(decide p=true)=p:=decide_eq_true_eq
theorem u4 {p:Prop} [Decidable p]:decide p=false↔¬ p:=decide_eq_false_iff_not
theorem u5 {α:Type u} [BEq α] [LawfulBEq α] {a b:α}:(a != b)=true↔a≠b:=bne_iff_ne
theorem u6 {α:Type u} [BEq α] [LawfulBEq α] {a b:α}:(a == b)=true↔a=b:=beq_iff_eq
theorem u7 {α:Type u} [BEq α] [LawfulBEq α] {a b:α}:(a != b)=false↔a=b:=bne_eq_false_iff_eq
theorem u8 {α:Type u} [BEq α] [LawfulBEq α] {a b:α}:(a == b)=false↔a≠b:=beq_eq_false_iff_ne
theorem u9 (b:Bool):(¬ b=true)=(b=false):=Bool.not_eq_true b
theorem v1 (b:Bool):(¬ b=false)=(b=true):=Bool.not_eq_false b
theorem v2:(!true)=false:=Bool.not_true
theorem v3:(!false)=true:=Bool.not_false
theorem v4 {a b:Bool}:((!a)=b)=(a=!b):=by simp only [Bool.not_eq_eq_eq_not]
theorem v5 (n:Nat):((n:Int)).toNat=n:=Int.toNat_natCast n
theorem v6 {α:Type u} {a b:List α}:(a++b).length=a.length+b.length:=List.length_append
theorem v7 {α:Type u} {i:Nat} {l:List α}:(l.take i).length=min i l.length:=List.length_take
theorem v8 {α:Type u} {n:Nat} {a:α}:(List.replicate n a).length=n:=List.length_replicate
theorem v9 {α:Type u} {l:List α} {i:Nat} {a:α}:(l.set i a).length=l.length:=List.length_set
theorem w1 {α β:Type} {l:List α} (f:α→β):(l.map f).length=l.length:=List.length_map f
theorem w2 {α:Type u} {i:Nat} {l:List α}:(l.drop i).length=l.length - i:=List.length_drop
theorem w3 {α:Type u}:([]:List α).length=0:=List.length_nil
theorem w4 {α:Type u} {a:α} {l:List α}:(a::l).length=l.length+1:=List.length_cons
end
end Go.Sx
end
