/- SxN -/
import Derived.Test.YtkmldclpaniclaaGreatSxM
set_option linter.unusedSimpArgs false
set_option linter.unusedVariables false
set_option linter.defProp false
namespace Go.Sx
open Go.RowKit
theorem jk:∀{mt:List (Nat×Nat)} {i j x:Nat},bT mt i j=some x->mt[x]?=some (i,j)
 | [],_,_,_,h=>by simp[bT]at h
 |(p,q)::l,i,j,x,h=>by
  simp only[bT]at h;split at h
  ·rename_i hc;obtain⟨rfl,rfl⟩:=hc;cases h;rfl
  ·cases hm:bT l i j with
   |none=>simp[hm]at h
   |some y=>simp[hm]at h;subst h;simpa using jk hm
theorem m9:∀(mt:List (Nat×Nat)) (i j:Nat),memP i j mt=(bT mt i j).isSome
 | [],_,_=>rfl
 |(p,q)::l,i,j=>by
  simp only[memP,bT,m9 l i j];by_cases h:p=i/\q=j
  ·rw[AA h,h.1,h.2];simp
  ·rw[AB h]
   have:(Nat.beq p i&&Nat.beq q j)=false:=by
    cases h1:Nat.beq p i<;>cases h2:Nat.beq q j<;>simp
    exact h ⟨AY h1,AY h2⟩
   rw[this];cases bT l i j<;>rfl
theorem HC{svs:List SV}:∀{mt:List (Nat×Nat)} {hid:List Nat},oO svs mt=some hid->hid.length=mt.length /\
  ∀(x:Nat) (p:Nat×Nat),mt[x]?=some p->∃o sv cs,hid[x]?=some o/\svs[p.1]?=some sv/\jC sv=some cs/\cs[p.2]?=some (.own o)
 | [],hid,h=>by simp[oO]at h;subst h;simp
 |(i,j)::mt,hid,h=>by
  simp only[oO]at h;split at h
  ·rename_i sv hsv
   split at h
   ·rename_i cs hcs
    split at h
    ·rename_i o ho
     split at h
     ·rename_i os hos
      cases h;obtain⟨h1,h2⟩:=HC hos;refine⟨by simp[h1],fun x p hx=>?_⟩
      cases x with
      |zero=>simp at hx;subst hx;exact⟨o,sv,cs,by simp,hsv,hcs,ho⟩
      |succ x=>simpa using h2 x p (by simpa using hx)
     ·cases h
    ·cases h
   ·cases h
  ·cases h
theorem o8{P:Program}{t:TypeId}{d:FC}(h:g6 P t=some d)(w:World):bj w (.slice none 0 0) d:=by
 have key:∀(R:Nat->Value->Prop),bG w (.slice none 0 0) 0 R:=fun R=>⟨_,_,rfl,AE _,fun h0=>by omega⟩
 unfold g6 at h
 repeat' split at h
 all_goals first|cases h;done|(cases h;exact key _)
section
variable {C:Cx} {σ:State} {mu:Nat->Img} {a:Act} {w w':World}
def fF(σ:State)(o:Nat):Ob :=
 match σ.H o with
 |some (some ob)=>ob
 |_=>.box []
theorem PB{α:Type}{hid:List Nat}{wF:World}(h:St C σ mu a w)(hw:HidW C σ mu w hid wF){mt:List (Nat×Nat)}{i j:Nat}{nl:Option FC}(hnl:∀d,nl=some d->∀w,bj w (.slice none 0 0) d)
  {c:SC}{K:FC->Rd α}{r:α}(hmut:∀x,bT mt i j=some x->∃o,hid[x]?=some o/\c=.own o)(hr:(oJ hid mt i j nl c K).run σ=some r) :
  ∃d,(K d).run σ=some r/\∀v,ag (σ.env C.wF mu) c v->gq wF mt (hid.map mu) (hid.map (fF σ)) i j d v:=by
 unfold oJ at hr;rw[m9]at hr;cases hm:bT mt i j with
 |none =>
  rw[hm]at hr;obtain⟨d,h1,h2⟩:=vT h hw hnl hr;refine⟨d,h1,fun v hv=>⟨(h2 v hv).1,?_⟩⟩
  rw[hm];exact(h2 v hv).2
 |some x =>
  rw[hm]at hr;obtain⟨o,ho,rfl⟩:=hmut x hm;obtain⟨ob,hob,hr2⟩:=aX hr;split at hr2
  ·rename_i d hd
   refine⟨d,hr2,fun v hv=>⟨hv.1,?_⟩⟩
   rw[hm];have hv':v=(mu o).hd:=aK hob hv (oY hd)
   exact⟨mu o,ob,by simp[ho],by simp[ho,fF,hob],hv',hd⟩
  ·simp[Rd.run]at hr2
theorem na{α:Type}{hid:List Nat}{wF:World}(h:St C σ mu a w)(hw:HidW C σ mu w hid wF){mt:List (Nat×Nat)}{i:Nat} :
  ∀(cs:List SC) (j:Nat) (ts:List TypeId) (K:List FC->Rd α) (r:α) (_:∀(x:Nat) (c:SC),cs[x]?=some c->∀y,bT mt i (j+x)=some y->∃o,hid[y]?=some o/\c=.own o)
   (_:(jE C.P hid mt i j cs ts K).run σ=some r),
  ∃ds,(K ds).run σ=some r/\ds.length=cs.length/\∀(x:Nat) (d:FC),ds[x]?=some d->∃c,cs[x]?=some c/\∀v,ag (σ.env C.wF mu) c v->gq wF mt (hid.map mu) (hid.map (fF σ)) i (j+x) d v
 | [],j,ts,K,r,_,hr=>⟨[],hr,rfl,fun x d h=>by simp at h⟩
 |c::cs,j,ts,K,r,hm,hr=>by
  simp only[jE]at hr;obtain⟨d,hr2,h1⟩:=PB h hw (fun d hd w=>by
   cases ts with
   |nil=>cases hd
   |cons t ts=>exact o8 hd w) (hm 0 c rfl) hr
  obtain⟨ds,h2,h3,h4⟩:=na h hw cs (j+1) ts.tail _ r (fun x c hx y hy=>hm (x+1) c (by simpa using hx) y (by rw[<-hy];congr 1;omega)) hr2
  refine⟨d::ds,h2,by simp[h3],fun x d' hx=>?_⟩
  cases x with
  |zero=>simp at hx;subst hx;exact⟨c,rfl,h1⟩
  |succ x =>
   obtain⟨c',h5,h6⟩:=h4 x d' (by simpa using hx)
   exact⟨c',by simpa using h5,fun v hv=>by rw[show j+(x+1)=j+1+x by omega];exact h6 v hv⟩
theorem vU{wF:World}{ms:List Img}{obs:List Ob}{i j:Nat}{d:FC}{v:Value}(h:gq wF [] ms obs i j d v):bj wF v d:=h.2
theorem HD{hid:List Nat}{wF:World}(h:St C σ mu a w)(hw:HidW C σ mu w hid wF){o:Nat}{xs:List SC}(ho:σ.H o=some (some (.box xs)))(hn:cA o hid=true){ds:List FC}(hl:ds.length=xs.length)
  (hds:∀(x:Nat) (d:FC),ds[x]?=some d->∃c,xs[x]?=some c/\∀v,ag (σ.env C.wF mu) c v->gq wF [] (hid.map mu) (hid.map (fF σ)) 0 (0+x) d v)
  {v:Value}(hv:ag (σ.env C.wF mu) (.ptr o 0) v):∃b off,v=.pointer (some ⟨b,off,none⟩)/\∀(j:Nat) (d:FC),ds[j]?=some d->∃u,wF.cell? ⟨b,off+j,none⟩=some u/\bj wF u d:=by
 have _:=hl
 obtain⟨_,b,hb,rfl⟩:=aK ho hv;obtain⟨g,arr,ty,h1,h2,h3,h4⟩:=lH h ho;have hgb:g=b:=by rw[State.env,h1]at hb;simpa[ae]using hb
 subst hgb;refine⟨g,0,rfl,fun j d hj=>?_⟩
 obtain⟨c,h5,h6⟩:=hds j d hj;obtain⟨u,h7,h8,h9⟩:=h4.2 j c h5;have hF:wF.heap[g]?=some (.cells arr ty (0,0)):=by rw[hw.own o _ ho hn g (cz hb)];exact h3
 exact⟨u,by rw[AJ,cell_of_row wF g j arr ty (0,0) hF];exact h7,vU (h6 u h9)⟩
theorem Za{xs:List SC}{o:Nat}(h:Gx xs=some o):xs=[.ptr o 0]:=by
 unfold Gx at h;split at h
 ·cases h;rfl
 ·cases h
theorem Zb{hid:List Nat}{wF:World}(h:St C σ mu a w)(hw:HidW C σ mu w hid wF){o o2:Nat}{xs:List SC}(ho:σ.H o=some (some (.box [.ptr o2 0])))(hn:cA o hid=true)(ho2:σ.H o2=some (some (.box xs)))(hn2:cA o2 hid=true){ds:List FC}(hl:ds.length=xs.length)
  (hds:∀(x:Nat) (d:FC),ds[x]?=some d->∃c,xs[x]?=some c/\∀v,ag (σ.env C.wF mu) c v->gq wF [] (hid.map mu) (hid.map (fF σ)) 0 (0+x) d v)
  {v:Value}(hv:ag (σ.env C.wF mu) (.ptr o 0) v):∃b off b2 off2,v=.pointer (some ⟨b,off,none⟩)/\wF.cell? ⟨b,off,none⟩=some (.pointer (some ⟨b2,off2,none⟩))/\∀(j:Nat) (d:FC),ds[j]?=some d->∃u,wF.cell? ⟨b2,off2+j,none⟩=some u/\bj wF u d:=by
 obtain⟨_,b,hb,rfl⟩:=aK ho hv;obtain⟨g,arr,ty,h1,h2,h3,h4⟩:=lH h ho;have hgb:g=b:=by rw[State.env,h1]at hb;simpa[ae]using hb
 subst hgb;obtain⟨u,h7,h8,h9⟩:=h4.2 0 (.ptr o2 0) rfl;obtain⟨b2,off2,rfl,h10⟩:=HD h hw ho2 hn2 hl hds h9;have hF:wF.heap[g]?=some (.cells arr ty (0,0)):=by rw[hw.own o _ ho hn g (cz hb)];exact h3
 exact⟨g,0,b2,off2,rfl,by rw[cell_of_row wF g 0 arr ty (0,0) hF];exact h7,h10⟩
theorem vV{α:Type}{hid:List Nat}{wF:World}(h:St C σ mu a w)(hw:HidW C σ mu w hid wF) :
  ∀(cs:List SC) (K:List AD->Rd α) (r:α) (_:(kt C.P hid cs K).run σ=some r),
  ∃ds,(K ds).run σ=some r/\ds.length=cs.length/\∀(x:Nat) (d:AD),ds[x]?=some d->∃c,cs[x]?=some c/\∀i v,ag (σ.env C.wF mu) c v->dm C.P wF [] [] [] i d v
 | [],K,r,hr=>⟨[],hr,rfl,fun x d h=>by simp at h⟩
 |c::cs,K,r,hr=>by
  have plain:∀K':List AD->Rd α,(kr hid none c fun d=>kt C.P hid cs fun r=>K' (.c d::r)).run σ=some r ->
    ∃ds,(K' ds).run σ=some r/\ds.length=(c::cs).length/\∀(x:Nat) (d:AD),ds[x]?=some d->∃c',(c::cs)[x]?=some c'/\∀i v,ag (σ.env C.wF mu) c' v->dm C.P wF [] [] [] i d v:=fun K' hr=>by
   obtain⟨d,hr2,h1⟩:=vT h hw (by simp) hr
   obtain⟨ds,h2,h3,h4⟩:=vV h hw cs _ r hr2;refine⟨.c d::ds,h2,by simp[h3],fun x d' hx=>?_⟩
   cases x with
   |zero=>simp at hx;subst hx;exact⟨c,rfl,fun i v hv=>h1 v hv⟩
   |succ x=>exact h4 x d' (by simpa using hx)
  unfold kt at hr;split at hr
  ·rename_i o
   unfold ef at hr;split at hr
   ·rename_i hn
    obtain⟨ob,ho,hr2⟩:=aX hr;cases ob with
    |box xs =>
     simp only at hr2;split at hr2
     ·rename_i o2 hne
      have hne:=Za hne
      subst hne;split at hr2
      ·rename_i hn2
       obtain⟨ob2,ho2,hr2⟩:=aX hr2;cases ob2 with
       |box ys =>
        obtain⟨dsx,hr3,h1,h2⟩:=na h hw ys 0 [] _ r (fun x c _ y hy=>by simp[bT]at hy) hr2
        obtain⟨ds,h5,h3,h4⟩:=vV h hw cs _ r hr3;refine⟨.bb dsx::ds,h5,by simp[h3],fun x d' hx=>?_⟩
        cases x with
        |zero=>simp at hx;subst hx;exact⟨_,rfl,fun i v hv=>Zb h hw ho hn ho2 hn2 h1 h2 hv⟩
        |succ x=>exact h4 x d' (by simpa using hx)
       |_=>simp[Rd.run]at hr2
      ·simp[Rd.run]at hr2
     obtain⟨dsx,hr3,h1,h2⟩:=na h hw xs 0 [] _ r (fun x c _ y hy=>by simp[bT]at hy) hr2
     obtain⟨ds,h5,h3,h4⟩:=vV h hw cs _ r hr3;refine⟨.box dsx::ds,h5,by simp[h3],fun x d' hx=>?_⟩
     cases x with
     |zero=>simp at hx;subst hx;exact⟨_,rfl,fun i v hv=>HD h hw ho hn h1 h2 hv⟩
     |succ x=>exact h4 x d' (by simpa using hx)
    |_=>simp[Rd.run]at hr2
   ·simp[Rd.run]at hr
  ·exact plain K hr
theorem Zc{P:Program}{wF wG:World}(hk:bL wF wG){i:Nat}{d:AD}{v:Value}(h:dm P wF [] [] [] i d v):dm P wG [] [] [] i d v:=by
 have hcell:∀{j d u},gq wF [] [] [] i j d u->gq wG [] [] [] i j d u:=fun {j d u} h=>⟨h.1,(vU h).mono hk⟩
 cases d with
 |c d=>exact hcell (j:=0) h
 |agg cs =>
  obtain⟨arr,rfl,h1,h2⟩:=h;exact⟨arr,rfl,h1,fun j d hj=>let⟨u,h3,h4⟩:=h2 j d hj;⟨u,h3,hcell h4⟩⟩
 |box cs =>
  obtain⟨b,off,rfl,h1⟩:=h;exact⟨b,off,rfl,fun j d hj=>let⟨u,h3,h4⟩:=h1 j d hj;⟨u,hk _ _ h3,h4.mono hk⟩⟩
 |bb cs =>
  obtain⟨b,off,b2,off2,rfl,h0,h1⟩:=h;exact⟨b,off,b2,off2,rfl,hk _ _ h0,fun j d hj=>let⟨u,h3,h4⟩:=h1 j d hj;⟨u,hk _ _ h3,h4.mono hk⟩⟩
 |fv F =>
  obtain⟨f,caps,fn,h1,h2,h3,h4,h5⟩:=h;exact⟨f,caps,fn,h1,h2,h3,h4,fun w us ds q c hk'=>h5 w us ds q c (fun p u hp=>hk' p u (hk p u hp))⟩
 |fvs F s=>exact(show False from h).elim
 |cut off n d=>exact(show False from h).elim
 |ma x=>exact(show False from h).elim
theorem Zd{wF:World}{f:FuncId}{ct:List AD->Option Post}(hf:Fits C.P f ⟨[],ct⟩){cds:List AD}{arr:Array Value}(hl:arr.size=cds.length)
  (hc:∀(x:Nat) (d:AD),cds[x]?=some d->∃u,arr[x]?=some u/\∀i,dm C.P wF [] [] [] i d u){w:World}(hk:bL wF w){us:List Value}{ds:List FC}(hlen:us.length=ds.length)
  (hus:∀(i:Nat) (d:FC),ds[i]?=some d->∃u,us[i]?=some u/\u.oneCell'=true/\bj w u d){pre:Prop}{rc:RC}(hp:ct (ds.map .c++cds)=some ⟨pre,.c rc,[]⟩)(hq:pre){c:SC}(hrc:jd rc=some c) :
  Calls C.P f (us.toArray++arr) w fun e w'=>e=.returned (uM c)/\Below w.heap.size w w'/\w.drawn<=w'.drawn:=by
 have:=hf.run w w (us++arr.toList) (ds.map .c++cds) _ [] [] hp hq (by simp[hl,hlen]) rfl rfl rfl (by simp) (by simp) (by simp) (fun q u hqu=>⟨hqu,by simp⟩) (fun i d' hi=>by
  by_cases ψ:i<ds.length
  ·rw[Au (by simpa using ψ),Ai]at hi
   cases hd:ds[i]? with
   |none=>rw[hd]at hi;cases hi
   |some d =>
    rw[hd]at hi;simp at hi
    subst hi;obtain⟨u,h1,h2,h3⟩:=hus i d hd;exact⟨u,by rw[Au (by omega)];exact h1,h2,h3⟩
  ·rw[A0 (by simpa using Nat.le_of_not_lt ψ)]at hi
   obtain⟨u,h1,h2⟩:=hc _ d' hi;refine⟨u,?_,Zc hk (h2 _)⟩
   rw[A0 (by omega),hlen]
   simpa using h1)
 rw[show(us++arr.toList).toArray=us.toArray++arr by simp]at this
 refine this.mono ?_
 rintro e w' ⟨v',ms',img,wG,rfl,haft,_,_,_,hret⟩
 refine⟨?_,haft.below,haft.os.drawn⟩
 have h1:=hret.val
 cases rc<;>simp only[jd,reduceCtorEq,AC]at hrc<;>subst hrc
 ·rw[show v'=_ from h1];rfl
 ·rw[show v'=_ from h1];rfl
theorem qE{o:Option Post}(h:mM o):∃pre b,o=some ⟨pre,.c (.bool b),[]⟩/\pre/\oK o=b:=by
 unfold mM at h;split at h
 ·exact⟨_,_,rfl,h,rfl⟩
 ·exact h.elim
theorem HE{o:Option Post}(h:lz o):∃pre n,o=some ⟨pre,.c (.int .i64 n),[]⟩/\pre/\lw o=n:=by
 unfold lz at h;split at h
 ·exact⟨_,_,rfl,h,rfl⟩
 ·exact h.elim
theorem PD{ds:List FC}{x:Int}(h:uJ ds=some x):ds=[.int .i64 x]:=by
 unfold uJ at h;split at h
 ·cases h;rfl
 ·cases h
theorem Ze{ds:List FC}{x:D1}(h:FR ds=some x):ds=[.ints .i64 x]:=by
 unfold FR at h;split at h
 ·cases h;rfl
 ·cases h
theorem Zf{ds:List FC}{x:D2}(h:FS ds=some x):ds=[.rows .i64 x]:=by
 unfold FS at h;split at h
 ·cases h;rfl
 ·cases h
theorem PE{ds:List FC}{x y:Int}(h:uK ds=some (x,y)):ds=[.int .i64 x,.int .i64 y]:=by
 unfold uK at h;split at h
 ·cases h;rfl
 ·cases h
theorem PF{ds:List FC}{x y:D1}(h:uL ds=some (x,y)):ds=[.ints .i64 x,.ints .i64 y]:=by
 unfold uL at h;split at h
 ·cases h;rfl
 ·cases h
theorem Zg{ps rs:List Nat}{ct:List AD->Option Post}{cds:List AD}{F:FV}(h:Gw ps rs ct cds=some F){ds:List FC}{q:Prop}{c:SC}(hat:F.at ds=some (q,c))(hq:q) :
  ∃pre rc,ct (ds.map .c++cds)=some ⟨pre,.c rc,[]⟩/\pre/\jd rc=some c:=by
 unfold Gw at h;split at h
 ·cases h
  simp only[FV.at]at hat;split at hat
  ·rename_i hin
   obtain rfl:=PD hin;cases hat;obtain⟨pre,b,h1,h2,h3⟩:=qE hq;exact⟨pre,_,h1,h2,by simp only[jd];rw[h3]⟩
  ·cases hat
 ·cases h
  simp only[FV.at]at hat;split at hat
  ·rename_i hin
   obtain rfl:=Ze hin;cases hat;obtain⟨pre,b,h1,h2,h3⟩:=qE hq;exact⟨pre,_,h1,h2,by simp only[jd];rw[h3]⟩
  ·cases hat
 ·cases h
  simp only[FV.at]at hat;split at hat
  ·rename_i hin
   obtain rfl:=PE hin;cases hat;obtain⟨pre,b,h1,h2,h3⟩:=HE hq;exact⟨pre,_,h1,h2,by simp only[jd];rw[h3]⟩
  ·cases hat
 ·cases h
  simp only[FV.at]at hat;split at hat
  ·rename_i hin
   obtain rfl:=PE hin;cases hat;obtain⟨pre,b,h1,h2,h3⟩:=qE hq;exact⟨pre,_,h1,h2,by simp only[jd];rw[h3]⟩
  ·cases hat
 ·cases h
  simp only[FV.at]at hat;split at hat
  ·rename_i hin
   obtain rfl:=PF hin;cases hat;obtain⟨pre,b,h1,h2,h3⟩:=HE hq;exact⟨pre,_,h1,h2,by simp only[jd];rw[h3]⟩
  ·cases hat
 ·cases h
  simp only[FV.at]at hat;split at hat
  ·rename_i hin
   obtain rfl:=PF hin;cases hat;obtain⟨pre,b,h1,h2,h3⟩:=qE hq;exact⟨pre,_,h1,h2,by simp only[jd];rw[h3]⟩
  ·cases hat
 ·cases h
  simp only[FV.at]at hat;split at hat
  ·rename_i hin
   obtain rfl:=Zf hin;cases hat;obtain⟨pre,b,h1,h2,h3⟩:=qE hq;exact⟨pre,_,h1,h2,by simp only[jd];rw[h3]⟩
  ·cases hat
 ·cases h
  simp only[FV.at]at hat;split at hat
  ·rename_i hin
   obtain rfl:=PD hin;cases hat;obtain⟨pre,b,h1,h2,h3⟩:=HE hq;exact⟨pre,_,h1,h2,by simp only[jd];rw[h3]⟩
  ·cases hat
 ·cases h
theorem Zh{F:FV}{ds:List FC}{q:Prop}{c:SC}(h:F.at ds=some (q,c))(E:Env):ag E c (uM c):=by
 unfold FV.at at h;split at h<;>split at h<;>first|(cases h;rfl)|cases h
def cY(P:Program)(Γ:FuncId->Option Ctr):Prop:=∀f c,Γ f=some c->Fits P f c
theorem Zi{f:FuncId}{c:Ctr}(h:Fits C.P f c):∃fn,C.P.funcs[f]?=some fn/\fn.body.isSome=true/\fn.name≠"runtime.NumGoroutine":=by
 obtain⟨fn,h1,h2,h3⟩:=h.fn;exact⟨fn,h1,h2,fun hc=>by rw[hc]at h3;cases h3⟩
theorem Zj{α:Type}{Γ:FuncId->Option Ctr}(hΓ:cY C.P Γ){hid:List Nat}{wF:World}(h:St C σ mu a w)(hw:HidW C σ mu w hid wF){mt:List (Nat×Nat)}{i:Nat}{t:TypeId}{sv:SV}
  (hmut:∀x j,bT mt i j=some x->∃o cs,hid[x]?=some o/\jC sv=some cs/\cs[j]?=some (.own o)){K:AD->Rd α}{r:α}(hr:(oL C.P Γ hid mt i t sv K).run σ=some r) :
  ∃d,(K d).run σ=some r/\∀v,av C.P (σ.env C.wF mu) sv v->dm C.P wF mt (hid.map mu) (hid.map (fF σ)) i d v:=by
 unfold oL at hr;split at hr
 ·rename_i c
  have hcm:∀x,bT mt i 0=some x->∃o,hid[x]?=some o/\c=.own o:=fun x hx=>by
   obtain⟨o,cs,h1,h2,h3⟩:=hmut x 0 hx;refine⟨o,h1,?_⟩
   simp only[jC]at h2;split at h2
   ·cases h2;simpa using h3
   ·cases h2
  have hm0:(∀o,c≠.own o)->bT mt i 0=none:=fun hc=>by
   cases hx:bT mt i 0 with
   |none=>rfl
   |some x=>obtain⟨o,_,h2⟩:=hcm x hx;exact absurd h2 (hc o)
  split at hr
  ·rename_i o x
   split at hr
   ·unfold ef at hr
    split at hr
    ·rename_i hn
     obtain⟨ob,ho,hr2⟩:=aX hr;cases ob with
     |box xs =>
      obtain⟨dsx,hr3,h1,h2⟩:=na h hw xs 0 _ _ r (fun x c _ y hy=>by simp[bT]at hy) hr2
      exact⟨_,hr3,fun v hv=>by simp only[dm,hm0 (by simp)];exact HD h hw ho hn h1 h2 hv⟩
     |_=>simp[Rd.run]at hr2
    ·simp[Rd.run]at hr
   ·simp[Rd.run]at hr
  ·rename_i cs x
   split at hr
   ·refine⟨_,hr,fun v hv=>?_⟩
    obtain⟨b,off,rfl,hc⟩:=hv;simp only[dm,hm0 (by simp)]
    exact⟨b,off,rfl,fun j d hj=>by
     obtain⟨u,h1,h2⟩:=hc j d (by simpa using hj)
     exact⟨u,hw.old _ _ h1,h2.mono hw.old⟩⟩
   ·simp[Rd.run]at hr
  ·obtain⟨d,h1,h2⟩:=PB h hw (fun d hd w=>o8 hd w) hcm hr
   exact⟨_,h1,h2⟩
 ·rename_i cs
  obtain⟨ds,h1,h2,h3⟩:=na h hw cs 0 _ _ r (fun x c hx y hy=>by
   rw[AJ]at hy;obtain⟨o,cs',h4,h5,h6⟩:=hmut y x hy;cases h5;exact⟨o,h4,BJ (hx.symm.trans h6)⟩) hr
  refine⟨_,h1,fun v hv=>?_⟩
  obtain⟨arr,rfl,h4,h5⟩:=hv;refine⟨arr,rfl,by rw[h4,h2],fun j d hj=>?_⟩
  obtain⟨c,h6,h7⟩:=h3 j d hj;obtain⟨u,h8,_,h9⟩:=h5 j c h6;exact⟨u,h8,by have:=h7 u h9;rwa[AJ]at this⟩
 ·exact⟨_,hr,fun v hv=>by
   obtain⟨f,caps,fn,h1,h2,h3,h4,h5⟩:=hv;exact⟨f,caps,fn,h1,h2,h3,h4,fun w us ds q c hk=>h5 w us ds q c (fun p u hp=>hk p u (hw.old p u hp))⟩⟩
 ·rename_i f caps
  split at hr
  ·split at hr
   ·simp[Rd.run]at hr
   ·rename_i ct hct
    have hf:=hΓ f _ hct
    obtain⟨fn,hfn1,hfn2,hfn3⟩:=Zi hf;obtain⟨cds,hr2,h1,h2⟩:=vV h hw caps _ r hr;have hcaps:∀arr,c7 (σ.env C.wF mu) caps arr->arr.size=cds.length/\∀(x:Nat) (d:AD),cds[x]?=some d->∃u,arr[x]?=some u/\∀i,dm C.P wF [] [] [] i d u:=fun arr χ=>by
     refine⟨by rw[χ.1,h1],fun x d hx=>?_⟩
     obtain⟨c,h3,h4⟩:=h2 x d hx;obtain⟨u,h5,_,h6⟩:=χ.2 x c h3;exact⟨u,h5,fun i=>h4 i u h6⟩
    split at hr2
    ·rename_i F hF
     refine⟨_,hr2,fun v hv=>?_⟩
     obtain⟨arr,rfl,χ⟩:=hv;obtain⟨h3,h4⟩:=hcaps arr χ;refine⟨f,arr,fn,rfl,hfn1,hfn2,hfn3,fun w us ds q c hk hat hq hlen hus=>?_⟩
     obtain⟨pre,rc,k1,k2,k3⟩:=Zg hF hat hq;exact Zd hf h3 h4 hk hlen hus k1 k2 k3
    ·simp[Rd.run]at hr2
   ·simp[Rd.run]at hr
  ·simp[Rd.run]at hr
 ·simp[Rd.run]at hr
 ·simp[Rd.run]at hr
theorem HF{α:Type}{Γ:FuncId->Option Ctr}(hΓ:cY C.P Γ){hid:List Nat}{wF:World}(h:St C σ mu a w)(hw:HidW C σ mu w hid wF){mt:List (Nat×Nat)} :
  ∀(svs:List SV) (i:Nat) (ts:List TypeId) (K:List AD->Rd α) (r:α)
   (_:∀(y:Nat) (sv:SV),svs[y]?=some sv->∀x j,bT mt (i+y) j=some x->∃o cs,hid[x]?=some o/\jC sv=some cs/\cs[j]?=some (.own o)) (_:(jF C.P Γ hid mt i svs ts K).run σ=some r),
  ∃ds,(K ds).run σ=some r/\ds.length=svs.length/\∀(y:Nat) (d:AD),ds[y]?=some d->∃sv,svs[y]?=some sv/\∀v,av C.P (σ.env C.wF mu) sv v->dm C.P wF mt (hid.map mu) (hid.map (fF σ)) (i+y) d v
 | [],i,ts,K,r,_,hr=>⟨[],hr,rfl,fun x d h=>by simp at h⟩
 |sv::svs,i,ts,K,r,hm,hr=>by
  simp only[jF]at hr;obtain⟨d,hr2,h1⟩:=Zj hΓ h hw (hm 0 sv rfl) hr;obtain⟨ds,h2,h3,h4⟩:=HF hΓ h hw svs (i+1) _ _ r (fun y sv hy x j hx=>hm (y+1) sv (by simpa using hy) x j (by rw[<-hx];congr 1;omega)) hr2
  refine⟨d::ds,h2,by simp[h3],fun y d' hy=>?_⟩
  cases y with
  |zero=>simp at hy;subst hy;exact⟨sv,rfl,h1⟩
  |succ y =>
   obtain⟨sv',h5,h6⟩:=h4 y d' (by simpa using hy)
   exact⟨sv',by simpa using h5,fun v hv=>by rw[show i+(y+1)=i+1+y by omega];exact h6 v hv⟩
theorem PG{α:Type}{hid:List Nat}{nl:Option FC}{c:SC}{K:FC->Rd α}{r:α}(hr:(kr hid nl c K).run σ=some r):∃d,(K d).run σ=some r:=by
 have hob:∀{o:Nat} {K':Ob->Rd α},(ef hid o K').run σ=some r->∃ob,(K' ob).run σ=some r:=fun {o K'} hr=>by
  unfold ef at hr;split at hr
  ·obtain⟨ob,_,hr2⟩:=aX hr;exact⟨ob,hr2⟩
  ·simp[Rd.run]at hr
 unfold kr at hr;split at hr
 ·exact⟨_,hr⟩
 ·exact⟨_,hr⟩
 ·exact⟨_,hr⟩
 ·cases nl with
  |none=>simp[Rd.run]at hr
  |some d=>exact⟨d,hr⟩
 ·obtain⟨ob,hr2⟩:=hob hr
  split at hr2
  ·exact⟨_,hr2⟩
  ·split at hr2
   ·exact⟨_,hr2⟩
   ·simp[Rd.run]at hr2
 ·obtain⟨ob,hr2⟩:=hob hr
  split at hr2
  ·split at hr2
   ·exact⟨_,hr2⟩
   ·simp[Rd.run]at hr2
  ·simp[Rd.run]at hr2
 ·obtain⟨ob,hr2⟩:=hob hr
  split at hr2
  ·split at hr2
   ·exact⟨_,hr2⟩
   ·simp[Rd.run]at hr2
  ·simp[Rd.run]at hr2
 ·obtain⟨ob,hr2⟩:=hob hr
  split at hr2
  ·split at hr2
   ·exact⟨_,hr2⟩
   ·simp[Rd.run]at hr2
  ·simp[Rd.run]at hr2
 ·obtain⟨ob,hr2⟩:=hob hr
  split at hr2
  ·split at hr2
   ·split at hr2
    ·exact⟨_,hr2⟩
    ·simp[Rd.run]at hr2
   ·simp[Rd.run]at hr2
  ·simp[Rd.run]at hr2
 ·exact⟨_,hr⟩
 ·exact⟨_,hr⟩
 ·obtain⟨ob,hr2⟩:=hob hr
  split at hr2
  ·split at hr2
   ·exact⟨_,hr2⟩
   ·simp[Rd.run]at hr2
  ·simp[Rd.run]at hr2
 ·simp[Rd.run]at hr
theorem PH{α:Type}{hid:List Nat}{mt:List (Nat×Nat)}{i j:Nat}{nl:Option FC}{c:SC}{K:FC->Rd α}{r:α}(hr:(oJ hid mt i j nl c K).run σ=some r):∃d,(K d).run σ=some r:=by
 unfold oJ at hr;split at hr
 ·unfold Gu at hr
  split at hr
  ·obtain⟨ob,_,hr2⟩:=aX hr
   split at hr2
   ·exact⟨_,hr2⟩
   ·simp[Rd.run]at hr2
  ·simp[Rd.run]at hr
 ·exact PG hr
theorem qF{α:Type}{P:Program}{hid:List Nat}{mt:List (Nat×Nat)}{i:Nat}:∀{cs:List SC} {j:Nat} {ts:List TypeId} {K:List FC->Rd α} {r:α},(jE P hid mt i j cs ts K).run σ=some r->∃d,(K d).run σ=some r
 | [],j,ts,K,r,hr=>⟨[],hr⟩
 |c::cs,j,ts,K,r,hr=>by
  obtain⟨d,hr2⟩:=PH hr;obtain⟨ds,hr3⟩:=qF hr2;exact⟨_,hr3⟩
theorem vW{α:Type}{P:Program}{hid:List Nat}:∀{cs:List SC} {K:List AD->Rd α} {r:α},(kt P hid cs K).run σ=some r->∃d,(K d).run σ=some r
 | [],K,r,hr=>⟨[],hr⟩
 |c::cs,K,r,hr=>by
  unfold kt at hr;split at hr
  ·unfold ef at hr
   split at hr
   ·obtain⟨ob,_,hr2⟩:=aX hr
    cases ob with
    |box xs =>
     simp only at hr2;split at hr2
     ·skip
      split at hr2
      ·obtain⟨ob2,_,hr2⟩:=aX hr2
       cases ob2 with
       |box ys =>
        obtain⟨d,hr3⟩:=qF hr2;obtain⟨ds,hr4⟩:=vW hr3;exact⟨_,hr4⟩
       |_=>simp[Rd.run]at hr2
      ·simp[Rd.run]at hr2
     obtain⟨d,hr3⟩:=qF hr2;obtain⟨ds,hr4⟩:=vW hr3;exact⟨_,hr4⟩
    |_=>simp[Rd.run]at hr2
   ·simp[Rd.run]at hr
  ·obtain⟨d,hr3⟩:=PG hr
   obtain⟨ds,hr4⟩:=vW hr3;exact⟨_,hr4⟩
theorem PI{α:Type}{P:Program}{Γ:FuncId->Option Ctr}{hid:List Nat}{mt:List (Nat×Nat)}{i:Nat}{t:TypeId}{sv:SV}{K:AD->Rd α}{r:α}(hr:(oL P Γ hid mt i t sv K).run σ=some r) :
  ∃d,(K d).run σ=some r:=by
 unfold oL at hr;split at hr
 ·split at hr
  ·split at hr
   ·unfold ef at hr
    split at hr
    ·obtain⟨ob,_,hr2⟩:=aX hr
     cases ob with
     |box xs=>obtain⟨d,hr3⟩:=qF hr2;exact⟨_,hr3⟩
     |_=>simp[Rd.run]at hr2
    ·simp[Rd.run]at hr
   ·simp[Rd.run]at hr
  ·split at hr
   ·exact⟨_,hr⟩
   ·simp[Rd.run]at hr
  ·obtain⟨d,hr3⟩:=PH hr;exact⟨_,hr3⟩
 ·obtain⟨d,hr3⟩:=qF hr;exact⟨_,hr3⟩
 ·exact⟨_,hr⟩
 ·split at hr
  ·split at hr
   ·simp[Rd.run]at hr
   ·obtain⟨cds,hr2⟩:=vW hr
    split at hr2
    ·exact⟨_,hr2⟩
    ·simp[Rd.run]at hr2
   ·simp[Rd.run]at hr
  ·simp[Rd.run]at hr
 ·simp[Rd.run]at hr
 ·simp[Rd.run]at hr
def jl(E:Env)(fs:List (Nat×Option Ob)):Prop:=∀o d,(o,some (.frz d))∈fs->E.st o=.frz d
theorem jl.left{E:Env}{fs gs:List (Nat×Option Ob)}(h:jl E (fs++gs)):jl E fs:=fun o d hm=>h o d (BM _ hm)
theorem jl.right{E:Env}{fs gs:List (Nat×Option Ob)}(h:jl E (fs++gs)):jl E gs:=fun o d hm=>h o d (BK _ hm)
theorem Zk{fs:List (Nat×Option Ob)}(hf:gm σ fs)(wG:World)(mu1:Nat->Img):jl ((State.mk σ.fr (fs++σ.hp)).env wG mu1) fs:=fun o d hm=>by
 have:lk fs o≠none:=fun hc=>by
  have key:∀{l:List (Nat×Option Ob)} {x:Option Ob},(o,x)∈l->lk l o≠none:=fun {l x}=>by
   induction l with
   |nil=>intro h;simp at h
   |cons z l ih =>
    intro h
    obtain⟨k,v⟩:=z;rw[bm];split
    ·simp
    ·rename_i hk
     rcases AG.1 h with h|h
     ·cases h;exact absurd rfl hk
     ·exact ih h
  exact key hm hc
 cases hl:lk fs o with
 |none=>exact absurd hl this
 |some y =>
  obtain⟨ob,d1,q1,q2,q3⟩:=hf o _ hm;obtain⟨ob',d2,r1,r2,r3⟩:=hf o y (qB hl);rw[q1]at r1;cases r1;rw[q2]at r2;cases r2;cases q3;subst r3;exact fE (by simp only[State.H,gk,hl])
theorem PJ{α:Type}{hid:List Nat}(_h:St C σ mu a w){nl:Option FC}(hnl:∀d,nl=some d->∀w,bj w (.slice none 0 0) d){c:SC}{K:FC->List (Nat×Option Ob)->Rd α}{r:α}(hr:(vg hid nl c K).run σ=some r) :
  ∃d fs,(K d fs).run σ=some r/\gm σ fs/\(∀o x,(o,x)∈fs->o ∉ hid)/\∀v,ag (σ.env C.wF mu) c v->∀E',bX (σ.env C.wF mu) E'->jl E' fs->v.oneCell'=true/\bj E'.wF v d:=by
 have no:gm σ []:=fun o x hm=>by simp at hm
 have no2:∀o x,(o,x)∈([]:List (Nat×Option Ob))->o ∉ hid:=fun o x hm=>by simp at hm
 have hob:∀{o:Nat} {K':Ob->Rd α},(ef hid o K').run σ=some r->∃ob,σ.H o=some (some ob)/\(K' ob).run σ=some r/\o ∉ hid:=fun {o K'} hr=>by
  unfold ef at hr;split at hr
  ·rename_i hn
   obtain⟨ob,ho,hr2⟩:=aX hr;exact⟨ob,ho,hr2,jj hn⟩
  ·simp[Rd.run]at hr
 have one:∀{o:Nat} {ob:Ob} {d:FC},σ.H o=some (some ob)->gb ob=some d->o ∉ hid->gm σ [(o,some (.frz d))]/\∀o' x,(o',x)∈[(o,some (Ob.frz d))]->o' ∉ hid:=fun {o ob d} h1 h2 h3 =>
  ⟨fun o' x hm=>by
   simp at hm
   obtain⟨rfl,rfl⟩:=hm;exact⟨ob,d,h1,h2,rfl⟩,fun o' x hm=>by
   simp at hm
   rw[hm.1];exact h3⟩
 unfold vg at hr;split at hr
 ·exact⟨_,_,hr,no,no2,fun v hv E' _ _=>by simp only[ag]at hv;subst hv;exact⟨rfl,rfl⟩⟩
 ·exact⟨_,_,hr,no,no2,fun v hv E' _ _=>by simp only[ag]at hv;subst hv;exact⟨rfl,rfl⟩⟩
 ·exact⟨_,_,hr,no,no2,fun v hv E' _ _=>by simp only[ag]at hv;subst hv;exact⟨rfl,rfl⟩⟩
 ·cases nl with
  |none=>simp[Rd.run]at hr
  |some d=>exact⟨d,_,hr,no,no2,fun v hv E' _ _=>by simp only[ag]at hv;subst hv;exact⟨rfl,hnl d rfl _⟩⟩
 ·exact⟨_,_,hr,no,no2,fun v hv E' hE _=>by
   obtain⟨⟨x,n,c,hv1,_⟩,hv2⟩:=hv;exact⟨by rw[hv1];rfl,hv2.mono hE.1⟩⟩
 ·rename_i o
  obtain⟨ob,ho,hr2,hn⟩:=hob hr;split at hr2
  ·rename_i d hd
   obtain⟨k1,k2⟩:=one ho hd hn;exact⟨d,_,hr2,k1,k2,fun v hv E' hE hf=>by
    have h2:=ag.mono hE hv
    have h3:=h2.2
    rw[hf o d (by simp)]at h3
    exact⟨h2.1,h3.2⟩⟩
  ·simp[Rd.run]at hr2
 ·rename_i o n
  obtain⟨ob,ho,hr2,hn⟩:=hob hr;split at hr2
  ·rename_i d hd
   split at hr2
   ·rename_i d' hd'
    obtain⟨k1,k2⟩:=one ho hd hn;exact⟨d',_,hr2,k1,k2,fun v hv E' hE hf=>by
     have h2:=ag.mono hE hv
     have h3:=h2.2
     rw[hf o d (by simp)]at h3
     obtain⟨d'',e1,e2⟩:=h3;rw[hd']at e1;cases e1;exact⟨h2.1,e2.2⟩⟩
   ·simp[Rd.run]at hr2
  ·simp[Rd.run]at hr2
 ·rename_i o off n
  obtain⟨ob,ho,hr2,hn⟩:=hob hr;split at hr2
  ·rename_i d hd
   split at hr2
   ·rename_i d' hd'
    obtain⟨k1,k2⟩:=one ho hd hn;exact⟨d',_,hr2,k1,k2,fun v hv E' hE hf=>by
     have h2:=ag.mono hE hv
     have h3:=h2.2
     rw[hf o d (by simp)]at h3
     obtain⟨d'',e1,e2⟩:=h3;rw[hd']at e1;cases e1;exact⟨h2.1,e2.2⟩⟩
   ·simp[Rd.run]at hr2
  ·simp[Rd.run]at hr2
 ·simp[Rd.run]at hr
theorem PK{α:Type}{hid:List Nat}(h:St C σ mu a w):∀(cs:List SC) (ts:List TypeId) (K:List FC->List (Nat×Option Ob)->Rd α) (r:α) (_:(vh C.P hid cs ts K).run σ=some r),
  ∃ds fs,(K ds fs).run σ=some r/\gm σ fs/\(∀o x,(o,x)∈fs->o ∉ hid)/\ds.length=cs.length/\∀(x:Nat) (d:FC),ds[x]?=some d->∃c,cs[x]?=some c/\∀v,ag (σ.env C.wF mu) c v->∀E',bX (σ.env C.wF mu) E'->jl E' fs->v.oneCell'=true/\bj E'.wF v d
 | [],ts,K,r,hr=>⟨[],[],hr,fun o x hm=>by simp at hm,fun o x hm=>by simp at hm,rfl,fun x d h=>by simp at h⟩
 |c::cs,ts,K,r,hr=>by
  simp only[vh]at hr;obtain⟨d,f0,hr2,k1,k2,k3⟩:=PJ h (fun d hd w=>by
   cases ts with
   |nil=>cases hd
   |cons t ts=>exact o8 hd w) hr
  obtain⟨ds,fs,hr3,h1,h2,h3,h4⟩:=PK h cs ts.tail _ r hr2;refine⟨_,_,hr3,fun o x hm=>(AI.1 hm).elim (k1 o x) (h1 o x),fun o x hm=>(AI.1 hm).elim (k2 o x) (h2 o x),by simp[h3],fun x d' hx=>?_⟩
  cases x with
  |zero=>simp at hx;subst hx;exact⟨c,rfl,fun v hv E' hE hf=>k3 v hv E' hE hf.left⟩
  |succ x =>
   obtain⟨c',h5,h6⟩:=h4 x d' (by simpa using hx)
   exact⟨c',by simpa using h5,fun v hv E' hE hf=>h6 v hv E' hE hf.right⟩
theorem Zl{α:Type}{hid:List Nat}(h:St C σ mu a w){mt:List (Nat×Nat)}{i:Nat}{t:TypeId}{sv:SV}(hmut:∀x j,bT mt i j=some x->∃o c,hid[x]?=some o/\sv=.c c/\c=.own o/\j=0)
  {K:AD->List (Nat×Option Ob)->Rd α}{r:α}(hr:(Gz C.P hid mt i t sv K).run σ=some r) :
  ∃ad fs,(K ad fs).run σ=some r/\gm σ fs/\(∀o x,(o,x)∈fs->o ∉ hid)/\∀v,av C.P (σ.env C.wF mu) sv v->∀E',bX (σ.env C.wF mu) E'->jl E' fs->dm C.P E'.wF mt (hid.map mu) (hid.map (fF σ)) i ad v:=by
 unfold Gz at hr;split at hr
 ·rename_i c
  split at hr
  ·rename_i hm
   rw[m9]at hm;cases hx:bT mt i 0 with
   |none=>rw[hx]at hm;cases hm
   |some x =>
    obtain⟨o,c',h1,h2,rfl,_⟩:=hmut x 0 hx;cases h2;obtain⟨ob,hob,hr2⟩:=aX hr;split at hr2
    ·rename_i d hd
     refine⟨_,_,hr2,fun o x hm=>by simp at hm,fun o x hm=>by simp at hm,fun v hv E' _ _=>⟨hv.1,?_⟩⟩
     rw[hx];have hv':v=(mu o).hd:=aK hob hv (oY hd)
     exact⟨mu o,ob,by simp[h1],by simp[h1,fF,hob],hv',hd⟩
    ·simp[Rd.run]at hr2
  ·rename_i hm
   obtain⟨d,fs,hr2,k1,k2,k3⟩:=PJ h (fun d hd w=>o8 hd w) hr
   refine⟨_,_,hr2,k1,k2,fun v hv E' hE hf=>?_⟩
   obtain⟨h1,h2⟩:=k3 v hv E' hE hf;refine⟨h1,?_⟩
   rw[m9]at hm;cases hx:bT mt i 0 with
   |some x=>rw[hx]at hm;cases hm
   |none=>exact h2
 ·rename_i cs
  have hno:∀j,bT mt i j=none:=fun j=>by
   cases hx:bT mt i j with
   |none=>rfl
   |some x=>obtain⟨_,_,_,h2,_⟩:=hmut x j hx;cases h2
  obtain⟨ds,fs,hr2,k1,k2,k3,k4⟩:=PK h cs _ _ r hr;refine⟨_,_,hr2,k1,k2,fun v hv E' hE hf=>?_⟩
  obtain⟨arr,rfl,h1,h2⟩:=hv;refine⟨arr,rfl,by rw[h1,k3],fun j d hj=>?_⟩
  obtain⟨c,h3,h4⟩:=k4 j d hj;obtain⟨u,h5,h6,h7⟩:=h2 j c h3;obtain⟨h8,h9⟩:=h4 u h7 E' hE hf;refine⟨u,h5,h8,?_⟩
  rw[hno j];exact h9
 ·exact⟨_,_,hr,fun o x hm=>by simp at hm,fun o x hm=>by simp at hm,fun v hv E' hE _=>mH.mono hE.1 hv⟩
 ·simp[Rd.run]at hr
theorem HG{α:Type}{hid:List Nat}(h:St C σ mu a w){mt:List (Nat×Nat)}:∀(svs:List SV) (i:Nat) (ts:List TypeId) (K:List AD->List (Nat×Option Ob)->Rd α) (r:α)
      (_:∀(y:Nat) (sv:SV),svs[y]?=some sv->∀x j,bT mt (i+y) j=some x->∃o c,hid[x]?=some o/\sv=.c c/\c=.own o/\j=0) (_:(vj C.P hid mt i svs ts K).run σ=some r),
  ∃ads fs,(K ads fs).run σ=some r/\gm σ fs/\(∀o x,(o,x)∈fs->o ∉ hid)/\ads.length=svs.length/\∀(y:Nat) (d:AD),ads[y]?=some d->∃sv,svs[y]?=some sv/\∀v,av C.P (σ.env C.wF mu) sv v ->
   ∀E',bX (σ.env C.wF mu) E'->jl E' fs->dm C.P E'.wF mt (hid.map mu) (hid.map (fF σ)) (i+y) d v
 | [],i,ts,K,r,_,hr=>⟨[],[],hr,fun o x hm=>by simp at hm,fun o x hm=>by simp at hm,rfl,fun x d h=>by simp at h⟩
 |sv::svs,i,ts,K,r,hm,hr=>by
  simp only[vj]at hr;obtain⟨ad,f0,hr2,k1,k2,k3⟩:=Zl h (hm 0 sv rfl) hr;obtain⟨ads,fs,hr3,h1,h2,h3,h4⟩:=HG h svs (i+1) _ _ r (fun y sv hy x j hx=>hm (y+1) sv (by simpa using hy) x j (by rw[<-hx];congr 1;omega)) hr2
  refine⟨_,_,hr3,fun o x hm=>(AI.1 hm).elim (k1 o x) (h1 o x),fun o x hm=>(AI.1 hm).elim (k2 o x) (h2 o x),by simp[h3],fun y d' hy=>?_⟩
  cases y with
  |zero=>simp at hy;subst hy;exact⟨sv,rfl,fun v hv E' hE hf=>k3 v hv E' hE hf.left⟩
  |succ y =>
   obtain⟨sv',h5,h6⟩:=h4 y d' (by simpa using hy)
   exact⟨sv',by simpa using h5,fun v hv E' hE hf=>by rw[show i+(y+1)=i+1+y by omega];exact h6 v hv E' hE hf.right⟩
end
end Go.Sx
