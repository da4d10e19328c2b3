/- SxN -/
import Derived.Test.YtkmldclpaniclaaGreatSxM
set_option linter.unusedSimpArgs false
set_option linter.unusedVariables false
namespace Go.Sx
open Go.RowKit
theorem iB:∀{mt:List (Nat×Nat)} {i j x:Nat},bR mt i j=some x->mt[x]?=some (i,j)
 | [],_,_,_,h=>by simp[bR]at h
 |(p,q)::l,i,j,x,h=>by
  simp only[bR]at h;split at h
  ·rename_i hc;obtain⟨rfl,rfl⟩:=hc;cases h;rfl
  ·cases hm:bR l i j with
   |none=>simp[hm]at h
   |some y=>simp[hm]at h;subst h;simpa using iB hm
theorem lP:∀(mt:List (Nat×Nat)) (i j:Nat),memP i j mt=(bR mt i j).isSome
 | [],_,_=>rfl
 |(p,q)::l,i,j=>by
  simp only[memP,bR,lP l i j];by_cases h:p=i/\q=j
  ·rw[if_pos h,h.1,h.2];simp
  ·rw[if_neg h]
   have:(Nat.beq p i&&Nat.beq q j)=false:=by
    cases h1:Nat.beq p i<;>cases h2:Nat.beq q j<;>simp
    exact h ⟨Nat.eq_of_beq_eq_true h1,Nat.eq_of_beq_eq_true h2⟩
   rw[this];cases bR l i j<;>rfl
theorem Br{svs:List SV}:∀{mt:List (Nat×Nat)} {hid:List Nat},nc svs mt=some hid->hid.length=mt.length /\
  ∀(x:Nat) (p:Nat×Nat),mt[x]?=some p->∃o sv cs,hid[x]?=some o/\svs[p.1]?=some sv/\iT sv=some cs/\cs[p.2]?=some (.own o)
 | [],hid,h=>by simp[nc]at h;subst h;simp
 |(i,j)::mt,hid,h=>by
  simp only[nc]at h;split at h
  ·rename_i sv hsv
   split at h
   ·rename_i cs hcs
    split at h
    ·rename_i o ho
     split at h
     ·rename_i os hos
      cases h;obtain⟨h1,h2⟩:=Br hos;refine⟨by simp[h1],fun x p hx=>?_⟩
      cases x with
      |zero=>simp at hx;subst hx;exact⟨o,sv,cs,by simp,hsv,hcs,ho⟩
      |succ x=>simpa using h2 x p (by simpa using hx)
     ·cases h
    ·cases h
   ·cases h
  ·cases h
theorem nz{P:Program}{t:TypeId}{d:FC}(h:gp P t=some d)(w:World):bo w (.slice none 0 0) d:=by
 have key:∀(R:Nat->Value->Prop),bv w (.slice none 0 0) 0 R:=fun R=>⟨_,_,rfl,Nat.le_refl _,fun h0=>by omega⟩
 unfold gp at h
 repeat' split at h
 all_goals first|cases h;done|(cases h;exact key _)
section
variable {C:Cx} {σ:State} {mu:Nat->Img} {a:Act} {w w':World}
def eY(σ:State)(o:Nat):Ob :=
 match σ.H o with
 |some (some ob)=>ob
 |_=>.box []
theorem Iq{α:Type}{hid:List Nat}{wF:World}(h:St C σ mu a w)(hw:HidW C σ mu w hid wF){mt:List (Nat×Nat)}{i j:Nat}{nl:Option FC}(hnl:∀d,nl=some d->∀w,bo w (.slice none 0 0) d)
  {c:SC} {K:FC->Rd α} {r:α} (hmut:∀x,bR mt i j=some x->∃o,hid[x]?=some o/\c=.own o) (hr:(mZ hid mt i j nl c K).run σ=some r) :
  ∃d,(K d).run σ=some r/\∀v,ai (σ.env C.wF mu) c v->gu wF mt (hid.map mu) (hid.map (eY σ)) i j d v:=by
 unfold mZ at hr;rw[lP]at hr;cases hm:bR mt i j with
 |none =>
  rw[hm]at hr;obtain⟨d,h1,h2⟩:=tM h hw hnl hr;refine⟨d,h1,fun v hv=>⟨(h2 v hv).1,?_⟩⟩
  rw[hm];exact(h2 v hv).2
 |some x =>
  rw[hm]at hr;obtain⟨o,ho,rfl⟩:=hmut x hm;obtain⟨ob,hob,hr2⟩:=aS hr;split at hr2
  ·rename_i d hd
   refine⟨d,hr2,fun v hv=>⟨hv.1,?_⟩⟩
   rw[hm];have hv':v=(mu o).hd:=aG hob hv (nt hd)
   exact⟨mu o,ob,by simp[ho],by simp[ho,eY,hob],hv',hd⟩
  ·simp[Rd.run]at hr2
theorem nA{α:Type}{hid:List Nat}{wF:World}(h:St C σ mu a w)(hw:HidW C σ mu w hid wF){mt:List (Nat×Nat)}{i:Nat} :
  ∀(cs:List SC) (j:Nat) (ts:List TypeId) (K:List FC->Rd α) (r:α) (_:∀(x:Nat) (c:SC),cs[x]?=some c->∀y,bR mt i (j+x)=some y->∃o,hid[y]?=some o/\c=.own o)
   (_:(js C.P hid mt i j cs ts K).run σ=some r),
  ∃ds,(K ds).run σ=some r/\ds.length=cs.length/\∀(x:Nat) (d:FC),ds[x]?=some d->∃c,cs[x]?=some c/\∀v,ai (σ.env C.wF mu) c v->gu wF mt (hid.map mu) (hid.map (eY σ)) i (j+x) d v
 | [],j,ts,K,r,_,hr=>⟨[],hr,rfl,fun x d h=>by simp at h⟩
 |c::cs,j,ts,K,r,hm,hr=>by
  simp only[js]at hr;obtain⟨d,hr2,h1⟩:=Iq h hw (fun d hd w=>by
   cases ts with
   |nil=>cases hd
   |cons t ts=>exact nz hd w) (hm 0 c rfl) hr
  obtain⟨ds,h2,h3,h4⟩:=nA h hw cs (j+1) ts.tail _ r (fun x c hx y hy=>hm (x+1) c (by simpa using hx) y (by rw[<-hy];congr 1;omega)) hr2
  refine⟨d::ds,h2,by simp[h3],fun x d' hx=>?_⟩
  cases x with
  |zero=>simp at hx;subst hx;exact⟨c,rfl,h1⟩
  |succ x =>
   obtain⟨c',h5,h6⟩:=h4 x d' (by simpa using hx)
   exact⟨c',by simpa using h5,fun v hv=>by rw[show j+(x+1)=j+1+x by omega];exact h6 v hv⟩
theorem Bs{wF:World}{ms:List Img}{obs:List Ob}{i j:Nat}{d:FC}{v:Value}(h:gu wF [] ms obs i j d v):bo wF v d:=h.2
theorem Bt{hid:List Nat}{wF:World}(h:St C σ mu a w)(hw:HidW C σ mu w hid wF){o:Nat}{xs:List SC}(ho:σ.H o=some (some (.box xs)))(hn:cb o hid=true){ds:List FC}(hl:ds.length=xs.length)
  (hds:∀(x:Nat) (d:FC),ds[x]?=some d->∃c,xs[x]?=some c/\∀v,ai (σ.env C.wF mu) c v->gu wF [] (hid.map mu) (hid.map (eY σ)) 0 (0+x) d v)
  {v:Value} (hv:ai (σ.env C.wF mu) (.ptr o 0) v):∃b off,v=.pointer (some ⟨b,off,none⟩)/\∀(j:Nat) (d:FC),ds[j]?=some d->∃u,wF.cell? ⟨b,off+j,none⟩=some u/\bo wF u d:=by
 have _:=hl
 obtain⟨_,b,hb,rfl⟩:=aG ho hv;obtain⟨g,arr,ty,h1,h2,h3,h4⟩:=nj h ho;have hgb:g=b:=by rw[State.env,h1]at hb;simpa[af]using hb
 subst hgb;refine⟨g,0,rfl,fun j d hj=>?_⟩
 obtain⟨c,h5,h6⟩:=hds j d hj;obtain⟨u,h7,h8,h9⟩:=h4.2 j c h5;have hF:wF.heap[g]?=some (.cells arr ty (0,0)):=by rw[hw.own o _ ho hn g (ca hb)];exact h3
 exact⟨u,by rw[Nat.zero_add,cell_of_row wF g j arr ty (0,0) hF];exact h7,Bs (h6 u h9)⟩
theorem RB{xs:List SC}{o:Nat}(h:zH xs=some o):xs=[.ptr o 0]:=by
 unfold zH at h;split at h
 ·cases h;rfl
 ·cases h
theorem RD{hid:List Nat}{wF:World}(h:St C σ mu a w)(hw:HidW C σ mu w hid wF){o o2:Nat}{xs:List SC}(ho:σ.H o=some (some (.box [.ptr o2 0])))(hn:cb o hid=true)(ho2:σ.H o2=some (some (.box xs)))(hn2:cb o2 hid=true){ds:List FC}(hl:ds.length=xs.length)
  (hds:∀(x:Nat) (d:FC),ds[x]?=some d->∃c,xs[x]?=some c/\∀v,ai (σ.env C.wF mu) c v->gu wF [] (hid.map mu) (hid.map (eY σ)) 0 (0+x) d v)
  {v:Value} (hv:ai (σ.env C.wF mu) (.ptr o 0) v):∃b off b2 off2,v=.pointer (some ⟨b,off,none⟩)/\wF.cell? ⟨b,off,none⟩=some (.pointer (some ⟨b2,off2,none⟩))/\∀(j:Nat) (d:FC),ds[j]?=some d->∃u,wF.cell? ⟨b2,off2+j,none⟩=some u/\bo wF u d:=by
 obtain⟨_,b,hb,rfl⟩:=aG ho hv;obtain⟨g,arr,ty,h1,h2,h3,h4⟩:=nj h ho;have hgb:g=b:=by rw[State.env,h1]at hb;simpa[af]using hb
 subst hgb;obtain⟨u,h7,h8,h9⟩:=h4.2 0 (.ptr o2 0) rfl;obtain⟨b2,off2,rfl,h10⟩:=Bt h hw ho2 hn2 hl hds h9;have hF:wF.heap[g]?=some (.cells arr ty (0,0)):=by rw[hw.own o _ ho hn g (ca hb)];exact h3
 exact⟨g,0,b2,off2,rfl,by rw[cell_of_row wF g 0 arr ty (0,0) hF];exact h7,h10⟩
theorem tN{α:Type}{hid:List Nat}{wF:World}(h:St C σ mu a w)(hw:HidW C σ mu w hid wF) :
  ∀(cs:List SC) (K:List AD->Rd α) (r:α) (_:(jt C.P hid cs K).run σ=some r),
  ∃ds,(K ds).run σ=some r/\ds.length=cs.length/\∀(x:Nat) (d:AD),ds[x]?=some d->∃c,cs[x]?=some c/\∀i v,ai (σ.env C.wF mu) c v->cZ C.P wF [] [] [] i d v
 | [],K,r,hr=>⟨[],hr,rfl,fun x d h=>by simp at h⟩
 |c::cs,K,r,hr=>by
  have plain:∀K':List AD->Rd α,(jr hid none c fun d=>jt C.P hid cs fun r=>K' (.c d::r)).run σ=some r ->
    ∃ds,(K' ds).run σ=some r/\ds.length=(c::cs).length/\∀(x:Nat) (d:AD),ds[x]?=some d->∃c',(c::cs)[x]?=some c'/\∀i v,ai (σ.env C.wF mu) c' v->cZ C.P wF [] [] [] i d v:=fun K' hr=>by
   obtain⟨d,hr2,h1⟩:=tM h hw (by simp) hr
   obtain⟨ds,h2,h3,h4⟩:=tN h hw cs _ r hr2;refine⟨.c d::ds,h2,by simp[h3],fun x d' hx=>?_⟩
   cases x with
   |zero=>simp at hx;subst hx;exact⟨c,rfl,fun i v hv=>h1 v hv⟩
   |succ x=>exact h4 x d' (by simpa using hx)
  unfold jt at hr;split at hr
  ·rename_i o
   unfold dQ at hr;split at hr
   ·rename_i hn
    obtain⟨ob,ho,hr2⟩:=aS hr;cases ob with
    |box xs =>
     simp only at hr2;split at hr2
     ·rename_i o2 hne
      have hne:=RB hne
      subst hne;split at hr2
      ·rename_i hn2
       obtain⟨ob2,ho2,hr2⟩:=aS hr2;cases ob2 with
       |box ys =>
        obtain⟨dsx,hr3,h1,h2⟩:=nA h hw ys 0 [] _ r (fun x c _ y hy=>by simp[bR]at hy) hr2
        obtain⟨ds,h5,h3,h4⟩:=tN h hw cs _ r hr3;refine⟨.bb dsx::ds,h5,by simp[h3],fun x d' hx=>?_⟩
        cases x with
        |zero=>simp at hx;subst hx;exact⟨_,rfl,fun i v hv=>RD h hw ho hn ho2 hn2 h1 h2 hv⟩
        |succ x=>exact h4 x d' (by simpa using hx)
       |_=>simp[Rd.run]at hr2
      ·simp[Rd.run]at hr2
     obtain⟨dsx,hr3,h1,h2⟩:=nA h hw xs 0 [] _ r (fun x c _ y hy=>by simp[bR]at hy) hr2
     obtain⟨ds,h5,h3,h4⟩:=tN h hw cs _ r hr3;refine⟨.box dsx::ds,h5,by simp[h3],fun x d' hx=>?_⟩
     cases x with
     |zero=>simp at hx;subst hx;exact⟨_,rfl,fun i v hv=>Bt h hw ho hn h1 h2 hv⟩
     |succ x=>exact h4 x d' (by simpa using hx)
    |_=>simp[Rd.run]at hr2
   ·simp[Rd.run]at hr
  ·exact plain K hr
theorem RE{P:Program}{wF wG:World}(hk:bD wF wG){i:Nat}{d:AD}{v:Value}(h:cZ P wF [] [] [] i d v):cZ P wG [] [] [] i d v:=by
 have hcell:∀{j d u},gu wF [] [] [] i j d u->gu wG [] [] [] i j d u:=fun {j d u} h=>⟨h.1,(Bs h).mono hk⟩
 cases d with
 |c d=>exact hcell (j:=0) h
 |agg cs =>
  obtain⟨arr,rfl,h1,h2⟩:=h;exact⟨arr,rfl,h1,fun j d hj=>let⟨u,h3,h4⟩:=h2 j d hj;⟨u,h3,hcell h4⟩⟩
 |box cs =>
  obtain⟨b,off,rfl,h1⟩:=h;exact⟨b,off,rfl,fun j d hj=>let⟨u,h3,h4⟩:=h1 j d hj;⟨u,hk _ _ h3,h4.mono hk⟩⟩
 |bb cs =>
  obtain⟨b,off,b2,off2,rfl,h0,h1⟩:=h;exact⟨b,off,b2,off2,rfl,hk _ _ h0,fun j d hj=>let⟨u,h3,h4⟩:=h1 j d hj;⟨u,hk _ _ h3,h4.mono hk⟩⟩
 |fv F =>
  obtain⟨f,caps,fn,h1,h2,h3,h4,h5⟩:=h;exact⟨f,caps,fn,h1,h2,h3,h4,fun w us ds q c hk'=>h5 w us ds q c (fun p u hp=>hk' p u (hk p u hp))⟩
 |fvs F s=>exact(show False from h).elim
 |cut off n d=>exact(show False from h).elim
 |ma x=>exact(show False from h).elim
theorem RF{wF:World}{f:FuncId}{ct:List AD->Option Post}(hf:Fits C.P f ⟨[],ct⟩){cds:List AD}{arr:Array Value}(hl:arr.size=cds.length)
  (hc:∀(x:Nat) (d:AD),cds[x]?=some d->∃u,arr[x]?=some u/\∀i,cZ C.P wF [] [] [] i d u) {w:World} (hk:bD wF w) {us:List Value} {ds:List FC} (hlen:us.length=ds.length)
  (hus:∀(i:Nat) (d:FC),ds[i]?=some d->∃u,us[i]?=some u/\u.oneCell'=true/\bo w u d) {pre:Prop} {rc:RC} (hp:ct (ds.map .c++cds)=some ⟨pre,.c rc,[]⟩) (hq:pre) {c:SC} (hrc:fG rc=some c) :
  Calls C.P f (us.toArray++arr) w fun e w'=>e=.returned (sj c)/\Below w.heap.size w w'/\w.drawn<=w'.drawn:=by
 have:=hf.run w w (us++arr.toList) (ds.map .c++cds) _ [] [] hp hq (by simp[hl,hlen]) rfl rfl rfl (by simp) (by simp) (by simp) (fun q u hqu=>⟨hqu,by simp⟩) (fun i d' hi=>by
  by_cases hlt:i<ds.length
  ·rw[List.getElem?_append_left (by simpa using hlt),List.getElem?_map]at hi
   cases hd:ds[i]? with
   |none=>rw[hd]at hi;cases hi
   |some d =>
    rw[hd]at hi;simp at hi
    subst hi;obtain⟨u,h1,h2,h3⟩:=hus i d hd;exact⟨u,by rw[List.getElem?_append_left (by omega)];exact h1,h2,h3⟩
  ·rw[List.getElem?_append_right (by simpa using Nat.le_of_not_lt hlt)]at hi
   obtain⟨u,h1,h2⟩:=hc _ d' hi;refine⟨u,?_,RE hk (h2 _)⟩
   rw[List.getElem?_append_right (by omega),hlen]
   simpa using h1)
 rw[show(us++arr.toList).toArray=us.toArray++arr by simp]at this
 refine this.mono ?_
 rintro e w' ⟨v',ms',img,wG,rfl,haft,_,_,_,hret⟩
 refine⟨?_,haft.below,haft.os.drawn⟩
 have h1:=hret.val
 cases rc<;>simp only[fG,reduceCtorEq,Option.some.injEq]at hrc<;>subst hrc
 ·rw[show v'=_ from h1];rfl
 ·rw[show v'=_ from h1];rfl
theorem o8{o:Option Post}(h:lw o):∃pre b,o=some ⟨pre,.c (.bool b),[]⟩/\pre/\m6 o=b:=by
 unfold lw at h;split at h
 ·exact⟨_,_,rfl,h,rfl⟩
 ·exact h.elim
theorem Bv{o:Option Post}(h:ip o):∃pre n,o=some ⟨pre,.c (.int .i64 n),[]⟩/\pre/\io o=n:=by
 unfold ip at h;split at h
 ·exact⟨_,_,rfl,h,rfl⟩
 ·exact h.elim
theorem Ir{ds:List FC}{x:Int}(h:sg ds=some x):ds=[.int .i64 x]:=by
 unfold sg at h;split at h
 ·cases h;rfl
 ·cases h
theorem RG{ds:List FC}{x:List Int}(h:yY ds=some x):ds=[.ints .i64 x]:=by
 unfold yY at h;split at h
 ·cases h;rfl
 ·cases h
theorem RH{ds:List FC}{x:List (List Int)}(h:yZ ds=some x):ds=[.rows .i64 x]:=by
 unfold yZ at h;split at h
 ·cases h;rfl
 ·cases h
theorem Is{ds:List FC}{x y:Int}(h:sh ds=some (x,y)):ds=[.int .i64 x,.int .i64 y]:=by
 unfold sh at h;split at h
 ·cases h;rfl
 ·cases h
theorem It{ds:List FC}{x y:List Int}(h:si ds=some (x,y)):ds=[.ints .i64 x,.ints .i64 y]:=by
 unfold si at h;split at h
 ·cases h;rfl
 ·cases h
theorem RI{ps rs:List Nat}{ct:List AD->Option Post}{cds:List AD}{F:FV}(h:zG ps rs ct cds=some F){ds:List FC}{q:Prop}{c:SC}(hat:F.at ds=some (q,c))(hq:q) :
  ∃pre rc,ct (ds.map .c++cds)=some ⟨pre,.c rc,[]⟩/\pre/\fG rc=some c:=by
 unfold zG at h;split at h
 ·cases h
  simp only[FV.at]at hat;split at hat
  ·rename_i hin
   obtain rfl:=Ir hin;cases hat;obtain⟨pre,b,h1,h2,h3⟩:=o8 hq;exact⟨pre,_,h1,h2,by simp only[fG];rw[h3]⟩
  ·cases hat
 ·cases h
  simp only[FV.at]at hat;split at hat
  ·rename_i hin
   obtain rfl:=RG hin;cases hat;obtain⟨pre,b,h1,h2,h3⟩:=o8 hq;exact⟨pre,_,h1,h2,by simp only[fG];rw[h3]⟩
  ·cases hat
 ·cases h
  simp only[FV.at]at hat;split at hat
  ·rename_i hin
   obtain rfl:=Is hin;cases hat;obtain⟨pre,b,h1,h2,h3⟩:=Bv hq;exact⟨pre,_,h1,h2,by simp only[fG];rw[h3]⟩
  ·cases hat
 ·cases h
  simp only[FV.at]at hat;split at hat
  ·rename_i hin
   obtain rfl:=Is hin;cases hat;obtain⟨pre,b,h1,h2,h3⟩:=o8 hq;exact⟨pre,_,h1,h2,by simp only[fG];rw[h3]⟩
  ·cases hat
 ·cases h
  simp only[FV.at]at hat;split at hat
  ·rename_i hin
   obtain rfl:=It hin;cases hat;obtain⟨pre,b,h1,h2,h3⟩:=Bv hq;exact⟨pre,_,h1,h2,by simp only[fG];rw[h3]⟩
  ·cases hat
 ·cases h
  simp only[FV.at]at hat;split at hat
  ·rename_i hin
   obtain rfl:=It hin;cases hat;obtain⟨pre,b,h1,h2,h3⟩:=o8 hq;exact⟨pre,_,h1,h2,by simp only[fG];rw[h3]⟩
  ·cases hat
 ·cases h
  simp only[FV.at]at hat;split at hat
  ·rename_i hin
   obtain rfl:=RH hin;cases hat;obtain⟨pre,b,h1,h2,h3⟩:=o8 hq;exact⟨pre,_,h1,h2,by simp only[fG];rw[h3]⟩
  ·cases hat
 ·cases h
  simp only[FV.at]at hat;split at hat
  ·rename_i hin
   obtain rfl:=Ir hin;cases hat;obtain⟨pre,b,h1,h2,h3⟩:=Bv hq;exact⟨pre,_,h1,h2,by simp only[fG];rw[h3]⟩
  ·cases hat
 ·cases h
theorem RJ{F:FV}{ds:List FC}{q:Prop}{c:SC}(h:F.at ds=some (q,c))(E:Env):ai E c (sj c):=by
 unfold FV.at at h;split at h<;>split at h<;>first|(cases h;rfl)|cases h
def cQ(P:Program)(Γ:FuncId->Option Ctr):Prop:=∀f c,Γ f=some c->Fits P f c
theorem RK{f:FuncId}{c:Ctr}(h:Fits C.P f c):∃fn,C.P.funcs[f]?=some fn/\fn.body.isSome=true/\fn.name≠"runtime.NumGoroutine":=by
 obtain⟨fn,h1,h2,h3⟩:=h.fn;exact⟨fn,h1,h2,fun hc=>by rw[hc]at h3;cases h3⟩
theorem RL{α:Type}{Γ:FuncId->Option Ctr}(hΓ:cQ C.P Γ){hid:List Nat}{wF:World}(h:St C σ mu a w)(hw:HidW C σ mu w hid wF){mt:List (Nat×Nat)}{i:Nat}{t:TypeId}{sv:SV}
  (hmut:∀x j,bR mt i j=some x->∃o cs,hid[x]?=some o/\iT sv=some cs/\cs[j]?=some (.own o)) {K:AD->Rd α} {r:α} (hr:(m7 C.P Γ hid mt i t sv K).run σ=some r) :
  ∃d,(K d).run σ=some r/\∀v,aq C.P (σ.env C.wF mu) sv v->cZ C.P wF mt (hid.map mu) (hid.map (eY σ)) i d v:=by
 unfold m7 at hr;split at hr
 ·rename_i c
  have hcm:∀x,bR mt i 0=some x->∃o,hid[x]?=some o/\c=.own o:=fun x hx=>by
   obtain⟨o,cs,h1,h2,h3⟩:=hmut x 0 hx;refine⟨o,h1,?_⟩
   simp only[iT]at h2;split at h2
   ·cases h2;simpa using h3
   ·cases h2
  have hm0:(∀o,c≠.own o)->bR mt i 0=none:=fun hc=>by
   cases hx:bR mt i 0 with
   |none=>rfl
   |some x=>obtain⟨o,_,h2⟩:=hcm x hx;exact absurd h2 (hc o)
  split at hr
  ·rename_i o x
   split at hr
   ·unfold dQ at hr
    split at hr
    ·rename_i hn
     obtain⟨ob,ho,hr2⟩:=aS hr;cases ob with
     |box xs =>
      obtain⟨dsx,hr3,h1,h2⟩:=nA h hw xs 0 _ _ r (fun x c _ y hy=>by simp[bR]at hy) hr2
      exact⟨_,hr3,fun v hv=>by simp only[cZ,hm0 (by simp)];exact Bt h hw ho hn h1 h2 hv⟩
     |_=>simp[Rd.run]at hr2
    ·simp[Rd.run]at hr
   ·simp[Rd.run]at hr
  ·rename_i cs x
   split at hr
   ·refine⟨_,hr,fun v hv=>?_⟩
    obtain⟨b,off,rfl,hc⟩:=hv;simp only[cZ,hm0 (by simp)]
    exact⟨b,off,rfl,fun j d hj=>by
     obtain⟨u,h1,h2⟩:=hc j d (by simpa using hj)
     exact⟨u,hw.old _ _ h1,h2.mono hw.old⟩⟩
   ·simp[Rd.run]at hr
  ·obtain⟨d,h1,h2⟩:=Iq h hw (fun d hd w=>nz hd w) hcm hr
   exact⟨_,h1,h2⟩
 ·rename_i cs
  obtain⟨ds,h1,h2,h3⟩:=nA h hw cs 0 _ _ r (fun x c hx y hy=>by
   rw[Nat.zero_add]at hy;obtain⟨o,cs',h4,h5,h6⟩:=hmut y x hy;cases h5;exact⟨o,h4,Option.some.inj (hx.symm.trans h6)⟩) hr
  refine⟨_,h1,fun v hv=>?_⟩
  obtain⟨arr,rfl,h4,h5⟩:=hv;refine⟨arr,rfl,by rw[h4,h2],fun j d hj=>?_⟩
  obtain⟨c,h6,h7⟩:=h3 j d hj;obtain⟨u,h8,_,h9⟩:=h5 j c h6;exact⟨u,h8,by have:=h7 u h9;rwa[Nat.zero_add]at this⟩
 ·exact⟨_,hr,fun v hv=>by
   obtain⟨f,caps,fn,h1,h2,h3,h4,h5⟩:=hv;exact⟨f,caps,fn,h1,h2,h3,h4,fun w us ds q c hk=>h5 w us ds q c (fun p u hp=>hk p u (hw.old p u hp))⟩⟩
 ·rename_i f caps
  split at hr
  ·split at hr
   ·simp[Rd.run]at hr
   ·rename_i ct hct
    have hf:=hΓ f _ hct
    obtain⟨fn,hfn1,hfn2,hfn3⟩:=RK hf;obtain⟨cds,hr2,h1,h2⟩:=tN h hw caps _ r hr;have hcaps:∀arr,cJ (σ.env C.wF mu) caps arr->arr.size=cds.length/\∀(x:Nat) (d:AD),cds[x]?=some d->∃u,arr[x]?=some u/\∀i,cZ C.P wF [] [] [] i d u:=fun arr hrep=>by
     refine⟨by rw[hrep.1,h1],fun x d hx=>?_⟩
     obtain⟨c,h3,h4⟩:=h2 x d hx;obtain⟨u,h5,_,h6⟩:=hrep.2 x c h3;exact⟨u,h5,fun i=>h4 i u h6⟩
    split at hr2
    ·rename_i F hF
     refine⟨_,hr2,fun v hv=>?_⟩
     obtain⟨arr,rfl,hrep⟩:=hv;obtain⟨h3,h4⟩:=hcaps arr hrep;refine⟨f,arr,fn,rfl,hfn1,hfn2,hfn3,fun w us ds q c hk hat hq hlen hus=>?_⟩
     obtain⟨pre,rc,k1,k2,k3⟩:=RI hF hat hq;exact RF hf h3 h4 hk hlen hus k1 k2 k3
    ·simp[Rd.run]at hr2
   ·simp[Rd.run]at hr
  ·simp[Rd.run]at hr
 ·simp[Rd.run]at hr
 ·simp[Rd.run]at hr
theorem tO{α:Type}{Γ:FuncId->Option Ctr}(hΓ:cQ C.P Γ){hid:List Nat}{wF:World}(h:St C σ mu a w)(hw:HidW C σ mu w hid wF){mt:List (Nat×Nat)} :
  ∀(svs:List SV) (i:Nat) (ts:List TypeId) (K:List AD->Rd α) (r:α)
   (_:∀(y:Nat) (sv:SV),svs[y]?=some sv->∀x j,bR mt (i+y) j=some x->∃o cs,hid[x]?=some o/\iT sv=some cs/\cs[j]?=some (.own o)) (_:(iq C.P Γ hid mt i svs ts K).run σ=some r),
  ∃ds,(K ds).run σ=some r/\ds.length=svs.length/\∀(y:Nat) (d:AD),ds[y]?=some d->∃sv,svs[y]?=some sv/\∀v,aq C.P (σ.env C.wF mu) sv v->cZ C.P wF mt (hid.map mu) (hid.map (eY σ)) (i+y) d v
 | [],i,ts,K,r,_,hr=>⟨[],hr,rfl,fun x d h=>by simp at h⟩
 |sv::svs,i,ts,K,r,hm,hr=>by
  simp only[iq]at hr;obtain⟨d,hr2,h1⟩:=RL hΓ h hw (hm 0 sv rfl) hr;obtain⟨ds,h2,h3,h4⟩:=tO hΓ h hw svs (i+1) _ _ r (fun y sv hy x j hx=>hm (y+1) sv (by simpa using hy) x j (by rw[<-hx];congr 1;omega)) hr2
  refine⟨d::ds,h2,by simp[h3],fun y d' hy=>?_⟩
  cases y with
  |zero=>simp at hy;subst hy;exact⟨sv,rfl,h1⟩
  |succ y =>
   obtain⟨sv',h5,h6⟩:=h4 y d' (by simpa using hy)
   exact⟨sv',by simpa using h5,fun v hv=>by rw[show i+(y+1)=i+1+y by omega];exact h6 v hv⟩
theorem Iu{α:Type}{hid:List Nat}{nl:Option FC}{c:SC}{K:FC->Rd α}{r:α}(hr:(jr hid nl c K).run σ=some r):∃d,(K d).run σ=some r:=by
 have hob:∀{o:Nat} {K':Ob->Rd α},(dQ hid o K').run σ=some r->∃ob,(K' ob).run σ=some r:=fun {o K'} hr=>by
  unfold dQ at hr;split at hr
  ·obtain⟨ob,_,hr2⟩:=aS hr;exact⟨ob,hr2⟩
  ·simp[Rd.run]at hr
 unfold jr at hr;split at hr
 ·exact⟨_,hr⟩
 ·exact⟨_,hr⟩
 ·exact⟨_,hr⟩
 ·cases nl with
  |none=>simp[Rd.run]at hr
  |some d=>exact⟨d,hr⟩
 ·obtain⟨ob,hr2⟩:=hob hr
  split at hr2
  ·exact⟨_,hr2⟩
  ·split at hr2
   ·exact⟨_,hr2⟩
   ·simp[Rd.run]at hr2
 ·obtain⟨ob,hr2⟩:=hob hr
  split at hr2
  ·split at hr2
   ·exact⟨_,hr2⟩
   ·simp[Rd.run]at hr2
  ·simp[Rd.run]at hr2
 ·obtain⟨ob,hr2⟩:=hob hr
  split at hr2
  ·split at hr2
   ·exact⟨_,hr2⟩
   ·simp[Rd.run]at hr2
  ·simp[Rd.run]at hr2
 ·obtain⟨ob,hr2⟩:=hob hr
  split at hr2
  ·split at hr2
   ·exact⟨_,hr2⟩
   ·simp[Rd.run]at hr2
  ·simp[Rd.run]at hr2
 ·obtain⟨ob,hr2⟩:=hob hr
  split at hr2
  ·split at hr2
   ·split at hr2
    ·exact⟨_,hr2⟩
    ·simp[Rd.run]at hr2
   ·simp[Rd.run]at hr2
  ·simp[Rd.run]at hr2
 ·exact⟨_,hr⟩
 ·exact⟨_,hr⟩
 ·obtain⟨ob,hr2⟩:=hob hr
  split at hr2
  ·split at hr2
   ·exact⟨_,hr2⟩
   ·simp[Rd.run]at hr2
  ·simp[Rd.run]at hr2
 ·simp[Rd.run]at hr
theorem Iv{α:Type}{hid:List Nat}{mt:List (Nat×Nat)}{i j:Nat}{nl:Option FC}{c:SC}{K:FC->Rd α}{r:α}(hr:(mZ hid mt i j nl c K).run σ=some r):∃d,(K d).run σ=some r:=by
 unfold mZ at hr;split at hr
 ·unfold zF at hr
  split at hr
  ·obtain⟨ob,_,hr2⟩:=aS hr
   split at hr2
   ·exact⟨_,hr2⟩
   ·simp[Rd.run]at hr2
  ·simp[Rd.run]at hr
 ·exact Iu hr
theorem o9{α:Type}{P:Program}{hid:List Nat}{mt:List (Nat×Nat)}{i:Nat}:∀{cs:List SC} {j:Nat} {ts:List TypeId} {K:List FC->Rd α} {r:α},(js P hid mt i j cs ts K).run σ=some r->∃d,(K d).run σ=some r
 | [],j,ts,K,r,hr=>⟨[],hr⟩
 |c::cs,j,ts,K,r,hr=>by
  obtain⟨d,hr2⟩:=Iv hr;obtain⟨ds,hr3⟩:=o9 hr2;exact⟨_,hr3⟩
theorem tP{α:Type}{P:Program}{hid:List Nat}:∀{cs:List SC} {K:List AD->Rd α} {r:α},(jt P hid cs K).run σ=some r->∃d,(K d).run σ=some r
 | [],K,r,hr=>⟨[],hr⟩
 |c::cs,K,r,hr=>by
  unfold jt at hr;split at hr
  ·unfold dQ at hr
   split at hr
   ·obtain⟨ob,_,hr2⟩:=aS hr
    cases ob with
    |box xs =>
     simp only at hr2;split at hr2
     ·skip
      split at hr2
      ·obtain⟨ob2,_,hr2⟩:=aS hr2
       cases ob2 with
       |box ys =>
        obtain⟨d,hr3⟩:=o9 hr2;obtain⟨ds,hr4⟩:=tP hr3;exact⟨_,hr4⟩
       |_=>simp[Rd.run]at hr2
      ·simp[Rd.run]at hr2
     obtain⟨d,hr3⟩:=o9 hr2;obtain⟨ds,hr4⟩:=tP hr3;exact⟨_,hr4⟩
    |_=>simp[Rd.run]at hr2
   ·simp[Rd.run]at hr
  ·obtain⟨d,hr3⟩:=Iu hr
   obtain⟨ds,hr4⟩:=tP hr3;exact⟨_,hr4⟩
theorem Iw{α:Type}{P:Program}{Γ:FuncId->Option Ctr}{hid:List Nat}{mt:List (Nat×Nat)}{i:Nat}{t:TypeId}{sv:SV}{K:AD->Rd α}{r:α}(hr:(m7 P Γ hid mt i t sv K).run σ=some r) :
  ∃d,(K d).run σ=some r:=by
 unfold m7 at hr;split at hr
 ·split at hr
  ·split at hr
   ·unfold dQ at hr
    split at hr
    ·obtain⟨ob,_,hr2⟩:=aS hr
     cases ob with
     |box xs=>obtain⟨d,hr3⟩:=o9 hr2;exact⟨_,hr3⟩
     |_=>simp[Rd.run]at hr2
    ·simp[Rd.run]at hr
   ·simp[Rd.run]at hr
  ·split at hr
   ·exact⟨_,hr⟩
   ·simp[Rd.run]at hr
  ·obtain⟨d,hr3⟩:=Iv hr;exact⟨_,hr3⟩
 ·obtain⟨d,hr3⟩:=o9 hr;exact⟨_,hr3⟩
 ·exact⟨_,hr⟩
 ·split at hr
  ·split at hr
   ·simp[Rd.run]at hr
   ·obtain⟨cds,hr2⟩:=tP hr
    split at hr2
    ·exact⟨_,hr2⟩
    ·simp[Rd.run]at hr2
   ·simp[Rd.run]at hr
  ·simp[Rd.run]at hr
 ·simp[Rd.run]at hr
 ·simp[Rd.run]at hr
def iC(E:Env)(fs:List (Nat×Option Ob)):Prop:=∀o d,(o,some (.frz d))∈fs->E.st o=.frz d
theorem iC.left{E:Env}{fs gs:List (Nat×Option Ob)}(h:iC E (fs++gs)):iC E fs:=fun o d hm=>h o d (List.mem_append_left _ hm)
theorem iC.right{E:Env}{fs gs:List (Nat×Option Ob)}(h:iC E (fs++gs)):iC E gs:=fun o d hm=>h o d (List.mem_append_right _ hm)
theorem RM{fs:List (Nat×Option Ob)}(hf:fL σ fs)(wG:World)(mu1:Nat->Img):iC ((State.mk σ.fr (fs++σ.hp)).env wG mu1) fs:=fun o d hm=>by
 have:lk fs o≠none:=fun hc=>by
  have key:∀{l:List (Nat×Option Ob)} {x:Option Ob},(o,x)∈l->lk l o≠none:=fun {l x}=>by
   induction l with
   |nil=>intro h;simp at h
   |cons z l ih =>
    intro h
    obtain⟨k,v⟩:=z;rw[bn];split
    ·simp
    ·rename_i hk
     rcases List.mem_cons.1 h with h|h
     ·cases h;exact absurd rfl hk
     ·exact ih h
  exact key hm hc
 cases hl:lk fs o with
 |none=>exact absurd hl this
 |some y =>
  obtain⟨ob,d1,q1,q2,q3⟩:=hf o _ hm;obtain⟨ob',d2,r1,r2,r3⟩:=hf o y (oW hl);rw[q1]at r1;cases r1;rw[q2]at r2;cases r2;cases q3;subst r3;exact eX (by simp only[State.H,fK,hl])
theorem Ix{α:Type}{hid:List Nat}(_h:St C σ mu a w){nl:Option FC}(hnl:∀d,nl=some d->∀w,bo w (.slice none 0 0) d){c:SC}{K:FC->List (Nat×Option Ob)->Rd α}{r:α}(hr:(sJ hid nl c K).run σ=some r) :
  ∃d fs,(K d fs).run σ=some r/\fL σ fs/\(∀o x,(o,x)∈fs->o ∉ hid)/\∀v,ai (σ.env C.wF mu) c v->∀E',bU (σ.env C.wF mu) E'->iC E' fs->v.oneCell'=true/\bo E'.wF v d:=by
 have no:fL σ []:=fun o x hm=>by simp at hm
 have no2:∀o x,(o,x)∈([]:List (Nat×Option Ob))->o ∉ hid:=fun o x hm=>by simp at hm
 have hob:∀{o:Nat} {K':Ob->Rd α},(dQ hid o K').run σ=some r->∃ob,σ.H o=some (some ob)/\(K' ob).run σ=some r/\o ∉ hid:=fun {o K'} hr=>by
  unfold dQ at hr;split at hr
  ·rename_i hn
   obtain⟨ob,ho,hr2⟩:=aS hr;exact⟨ob,ho,hr2,iA hn⟩
  ·simp[Rd.run]at hr
 have one:∀{o:Nat} {ob:Ob} {d:FC},σ.H o=some (some ob)->fF ob=some d->o ∉ hid->fL σ [(o,some (.frz d))]/\∀o' x,(o',x)∈[(o,some (Ob.frz d))]->o' ∉ hid:=fun {o ob d} h1 h2 h3 =>
  ⟨fun o' x hm=>by
   simp at hm
   obtain⟨rfl,rfl⟩:=hm;exact⟨ob,d,h1,h2,rfl⟩,fun o' x hm=>by
   simp at hm
   rw[hm.1];exact h3⟩
 unfold sJ at hr;split at hr
 ·exact⟨_,_,hr,no,no2,fun v hv E' _ _=>by simp only[ai]at hv;subst hv;exact⟨rfl,rfl⟩⟩
 ·exact⟨_,_,hr,no,no2,fun v hv E' _ _=>by simp only[ai]at hv;subst hv;exact⟨rfl,rfl⟩⟩
 ·exact⟨_,_,hr,no,no2,fun v hv E' _ _=>by simp only[ai]at hv;subst hv;exact⟨rfl,rfl⟩⟩
 ·cases nl with
  |none=>simp[Rd.run]at hr
  |some d=>exact⟨d,_,hr,no,no2,fun v hv E' _ _=>by simp only[ai]at hv;subst hv;exact⟨rfl,hnl d rfl _⟩⟩
 ·exact⟨_,_,hr,no,no2,fun v hv E' hE _=>by
   obtain⟨⟨x,n,c,hv1,_⟩,hv2⟩:=hv;exact⟨by rw[hv1];rfl,hv2.mono hE.1⟩⟩
 ·rename_i o
  obtain⟨ob,ho,hr2,hn⟩:=hob hr;split at hr2
  ·rename_i d hd
   obtain⟨k1,k2⟩:=one ho hd hn;exact⟨d,_,hr2,k1,k2,fun v hv E' hE hf=>by
    have h2:=ai.mono hE hv
    have h3:=h2.2
    rw[hf o d (by simp)]at h3
    exact⟨h2.1,h3.2⟩⟩
  ·simp[Rd.run]at hr2
 ·rename_i o n
  obtain⟨ob,ho,hr2,hn⟩:=hob hr;split at hr2
  ·rename_i d hd
   split at hr2
   ·rename_i d' hd'
    obtain⟨k1,k2⟩:=one ho hd hn;exact⟨d',_,hr2,k1,k2,fun v hv E' hE hf=>by
     have h2:=ai.mono hE hv
     have h3:=h2.2
     rw[hf o d (by simp)]at h3
     obtain⟨d'',e1,e2⟩:=h3;rw[hd']at e1;cases e1;exact⟨h2.1,e2.2⟩⟩
   ·simp[Rd.run]at hr2
  ·simp[Rd.run]at hr2
 ·rename_i o off n
  obtain⟨ob,ho,hr2,hn⟩:=hob hr;split at hr2
  ·rename_i d hd
   split at hr2
   ·rename_i d' hd'
    obtain⟨k1,k2⟩:=one ho hd hn;exact⟨d',_,hr2,k1,k2,fun v hv E' hE hf=>by
     have h2:=ai.mono hE hv
     have h3:=h2.2
     rw[hf o d (by simp)]at h3
     obtain⟨d'',e1,e2⟩:=h3;rw[hd']at e1;cases e1;exact⟨h2.1,e2.2⟩⟩
   ·simp[Rd.run]at hr2
  ·simp[Rd.run]at hr2
 ·simp[Rd.run]at hr
theorem Iy{α:Type}{hid:List Nat}(h:St C σ mu a w):∀(cs:List SC) (ts:List TypeId) (K:List FC->List (Nat×Option Ob)->Rd α) (r:α) (_:(sK C.P hid cs ts K).run σ=some r),
  ∃ds fs,(K ds fs).run σ=some r/\fL σ fs/\(∀o x,(o,x)∈fs->o ∉ hid)/\ds.length=cs.length/\∀(x:Nat) (d:FC),ds[x]?=some d->∃c,cs[x]?=some c/\∀v,ai (σ.env C.wF mu) c v->∀E',bU (σ.env C.wF mu) E'->iC E' fs->v.oneCell'=true/\bo E'.wF v d
 | [],ts,K,r,hr=>⟨[],[],hr,fun o x hm=>by simp at hm,fun o x hm=>by simp at hm,rfl,fun x d h=>by simp at h⟩
 |c::cs,ts,K,r,hr=>by
  simp only[sK]at hr;obtain⟨d,f0,hr2,k1,k2,k3⟩:=Ix h (fun d hd w=>by
   cases ts with
   |nil=>cases hd
   |cons t ts=>exact nz hd w) hr
  obtain⟨ds,fs,hr3,h1,h2,h3,h4⟩:=Iy h cs ts.tail _ r hr2;refine⟨_,_,hr3,fun o x hm=>(List.mem_append.1 hm).elim (k1 o x) (h1 o x),fun o x hm=>(List.mem_append.1 hm).elim (k2 o x) (h2 o x),by simp[h3],fun x d' hx=>?_⟩
  cases x with
  |zero=>simp at hx;subst hx;exact⟨c,rfl,fun v hv E' hE hf=>k3 v hv E' hE hf.left⟩
  |succ x =>
   obtain⟨c',h5,h6⟩:=h4 x d' (by simpa using hx)
   exact⟨c',by simpa using h5,fun v hv E' hE hf=>h6 v hv E' hE hf.right⟩
theorem RN{α:Type}{hid:List Nat}(h:St C σ mu a w){mt:List (Nat×Nat)}{i:Nat}{t:TypeId}{sv:SV}(hmut:∀x j,bR mt i j=some x->∃o c,hid[x]?=some o/\sv=.c c/\c=.own o/\j=0)
  {K:AD->List (Nat×Option Ob)->Rd α} {r:α} (hr:(zK C.P hid mt i t sv K).run σ=some r) :
  ∃ad fs,(K ad fs).run σ=some r/\fL σ fs/\(∀o x,(o,x)∈fs->o ∉ hid)/\∀v,aq C.P (σ.env C.wF mu) sv v->∀E',bU (σ.env C.wF mu) E'->iC E' fs->cZ C.P E'.wF mt (hid.map mu) (hid.map (eY σ)) i ad v:=by
 unfold zK at hr;split at hr
 ·rename_i c
  split at hr
  ·rename_i hm
   rw[lP]at hm;cases hx:bR mt i 0 with
   |none=>rw[hx]at hm;cases hm
   |some x =>
    obtain⟨o,c',h1,h2,rfl,_⟩:=hmut x 0 hx;cases h2;obtain⟨ob,hob,hr2⟩:=aS hr;split at hr2
    ·rename_i d hd
     refine⟨_,_,hr2,fun o x hm=>by simp at hm,fun o x hm=>by simp at hm,fun v hv E' _ _=>⟨hv.1,?_⟩⟩
     rw[hx];have hv':v=(mu o).hd:=aG hob hv (nt hd)
     exact⟨mu o,ob,by simp[h1],by simp[h1,eY,hob],hv',hd⟩
    ·simp[Rd.run]at hr2
  ·rename_i hm
   obtain⟨d,fs,hr2,k1,k2,k3⟩:=Ix h (fun d hd w=>nz hd w) hr
   refine⟨_,_,hr2,k1,k2,fun v hv E' hE hf=>?_⟩
   obtain⟨h1,h2⟩:=k3 v hv E' hE hf;refine⟨h1,?_⟩
   rw[lP]at hm;cases hx:bR mt i 0 with
   |some x=>rw[hx]at hm;cases hm
   |none=>exact h2
 ·rename_i cs
  have hno:∀j,bR mt i j=none:=fun j=>by
   cases hx:bR mt i j with
   |none=>rfl
   |some x=>obtain⟨_,_,_,h2,_⟩:=hmut x j hx;cases h2
  obtain⟨ds,fs,hr2,k1,k2,k3,k4⟩:=Iy h cs _ _ r hr;refine⟨_,_,hr2,k1,k2,fun v hv E' hE hf=>?_⟩
  obtain⟨arr,rfl,h1,h2⟩:=hv;refine⟨arr,rfl,by rw[h1,k3],fun j d hj=>?_⟩
  obtain⟨c,h3,h4⟩:=k4 j d hj;obtain⟨u,h5,h6,h7⟩:=h2 j c h3;obtain⟨h8,h9⟩:=h4 u h7 E' hE hf;refine⟨u,h5,h8,?_⟩
  rw[hno j];exact h9
 ·exact⟨_,_,hr,fun o x hm=>by simp at hm,fun o x hm=>by simp at hm,fun v hv E' hE _=>lj.mono hE.1 hv⟩
 ·simp[Rd.run]at hr
theorem Bw{α:Type}{hid:List Nat}(h:St C σ mu a w){mt:List (Nat×Nat)}:∀(svs:List SV) (i:Nat) (ts:List TypeId) (K:List AD->List (Nat×Option Ob)->Rd α) (r:α)
      (_:∀(y:Nat) (sv:SV),svs[y]?=some sv->∀x j,bR mt (i+y) j=some x->∃o c,hid[x]?=some o/\sv=.c c/\c=.own o/\j=0) (_:(sL C.P hid mt i svs ts K).run σ=some r),
  ∃ads fs,(K ads fs).run σ=some r/\fL σ fs/\(∀o x,(o,x)∈fs->o ∉ hid)/\ads.length=svs.length/\∀(y:Nat) (d:AD),ads[y]?=some d->∃sv,svs[y]?=some sv/\∀v,aq C.P (σ.env C.wF mu) sv v ->
   ∀E',bU (σ.env C.wF mu) E'->iC E' fs->cZ C.P E'.wF mt (hid.map mu) (hid.map (eY σ)) (i+y) d v
 | [],i,ts,K,r,_,hr=>⟨[],[],hr,fun o x hm=>by simp at hm,fun o x hm=>by simp at hm,rfl,fun x d h=>by simp at h⟩
 |sv::svs,i,ts,K,r,hm,hr=>by
  simp only[sL]at hr;obtain⟨ad,f0,hr2,k1,k2,k3⟩:=RN h (hm 0 sv rfl) hr;obtain⟨ads,fs,hr3,h1,h2,h3,h4⟩:=Bw h svs (i+1) _ _ r (fun y sv hy x j hx=>hm (y+1) sv (by simpa using hy) x j (by rw[<-hx];congr 1;omega)) hr2
  refine⟨_,_,hr3,fun o x hm=>(List.mem_append.1 hm).elim (k1 o x) (h1 o x),fun o x hm=>(List.mem_append.1 hm).elim (k2 o x) (h2 o x),by simp[h3],fun y d' hy=>?_⟩
  cases y with
  |zero=>simp at hy;subst hy;exact⟨sv,rfl,fun v hv E' hE hf=>k3 v hv E' hE hf.left⟩
  |succ y =>
   obtain⟨sv',h5,h6⟩:=h4 y d' (by simpa using hy)
   exact⟨sv',by simpa using h5,fun v hv E' hE hf=>by rw[show i+(y+1)=i+1+y by omega];exact h6 v hv E' hE hf.right⟩
end
end Go.Sx
