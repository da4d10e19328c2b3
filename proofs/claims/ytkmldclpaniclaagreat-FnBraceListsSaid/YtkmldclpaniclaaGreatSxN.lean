/- SxN -/
import Derived.Test.YtkmldclpaniclaaGreatSxM
set_option linter.unusedSimpArgs false
set_option linter.unusedVariables false
set_option linter.defProp false
namespace Go.Sx
open Go.RowKit
def jG:∀{mt:List (Nat×Nat)} {i j x:Nat},b9 mt i j=some x->mt[x]?=some (i,j)
 | [],_,_,_,h=>by simp[b9]at h
 |(p,q)::l,i,j,x,h=>by
  simp only[b9]at h;split at h
  ·rename_i hc;obtain⟨rfl,rfl⟩:=hc;cases h;rfl
  ·cases hm:b9 l i j with
   |none=>simp[hm]at h
   |some y=>simp[hm]at h;subst h;simpa using jG hm
def nU:∀(mt:List (Nat×Nat)) (i j:Nat),memP i j mt=(b9 mt i j).isSome
 | [],_,_=>rfl
 |(p,q)::l,i,j=>by
  simp only[memP,b9,nU l i j];by_cases h:p=i/\q=j
  ·rw[AA h,h.1,h.2];simp
  ·rw[AB h]
   have:(Nat.beq p i&&Nat.beq q j)=false:=by
    cases h1:Nat.beq p i<;>cases h2:Nat.beq q j<;>simp
    exact h ⟨AY h1,AY h2⟩
   rw[this];cases b9 l i j<;>rfl
def JE{svs:List SV}:∀{mt:List (Nat×Nat)} {hid:List Nat},pI svs mt=some hid->hid.length=mt.length /\
  ∀(x:Nat) (p:Nat×Nat),mt[x]?=some p->∃o sv cs,hid[x]?=some o/\svs[p.1]?=some sv/\ka sv=some cs/\cs[p.2]?=some (.own o)
 | [],hid,h=>by simp[pI]at h;subst h;simp
 |(i,j)::mt,hid,h=>by
  simp only[pI]at h;split at h
  ·rename_i sv hsv
   split at h
   ·rename_i cs hcs
    split at h
    ·rename_i o ho
     split at h
     ·rename_i os hos
      cases h;obtain⟨h1,h2⟩:=JE hos;refine⟨by simp[h1],λx p hx=>?_⟩
      cases x with
      |zero=>simp at hx;subst hx;exact⟨o,sv,cs,by simp,hsv,hcs,ho⟩
      |succ x=>simpa using h2 x p (by simpa using hx)
     ·cases h
    ·cases h
   ·cases h
  ·cases h
def pU{P:Program}{t:TypeId}{d:FC}(h:iy P t=some d)(w:World):bu w (.slice none 0 0) d:=by
 have key:∀(R:Nat->Value->Prop),bP w (.slice none 0 0) 0 R:=λR=>⟨_,_,rfl,AE _,λh0=>by omega⟩
 unfold iy at h
 repeat' split at h
 all_goals first|cases h;done|(cases h;exact key _)
section
variable {C:Cx} {σ:State} {mu:Nat->Img} {a:Act} {w w':World}
def fS(σ:State)(o:Nat):Ob :=
 match σ.H o with
 |some (some ob)=>ob
 |_=>.box []
def Sy{α:Type}{hid:List Nat}{wF:World}(h:St C σ mu a w)(hw:HidW C σ mu w hid wF){mt:List (Nat×Nat)}{i j:Nat}{nl:Option FC}(hnl:∀d,nl=some d->∀w,bu w (.slice none 0 0) d)
  {c:SC}{K:FC->Rd α}{r:α}(hmut:∀x,b9 mt i j=some x->∃o,hid[x]?=some o/\c=.own o)(hr:(pD hid mt i j nl c K).run σ=some r) :
  ∃d,(K d).run σ=some r/\∀v,ak (σ.env C.wF mu) c v->gG wF mt (hid.map mu) (hid.map (fS σ)) i j d v:=by
 unfold pD at hr;rw[nU]at hr;cases hm:b9 mt i j with
 |none =>
  rw[hm]at hr;obtain⟨d,h1,h2⟩:=xP h hw hnl hr;refine⟨d,h1,λv hv=>⟨(h2 v hv).1,?_⟩⟩
  rw[hm];exact(h2 v hv).2
 |some x =>
  rw[hm]at hr;obtain⟨o,ho,rfl⟩:=hmut x hm;obtain⟨ob,hob,hr2⟩:=bg hr;split at hr2
  ·rename_i d hd
   refine⟨d,hr2,λv hv=>⟨hv.1,?_⟩⟩
   rw[hm];have hv':v=(mu o).hd:=aV hob hv (pR hd)
   exact⟨mu o,ob,by simp[ho],by simp[ho,fS,hob],hv',hd⟩
  ·cases hr2
def nV{α:Type}{hid:List Nat}{wF:World}(h:St C σ mu a w)(hw:HidW C σ mu w hid wF){mt:List (Nat×Nat)}{i:Nat} :
  ∀(cs:List SC) (j:Nat) (ts:List TypeId) (K:List FC->Rd α) (r:α) (_:∀(x:Nat) (c:SC),cs[x]?=some c->∀y,b9 mt i (j+x)=some y->∃o,hid[y]?=some o/\c=.own o)
   (_:(ke C.P hid mt i j cs ts K).run σ=some r),
  ∃ds,(K ds).run σ=some r/\ds.length=cs.length/\∀(x:Nat) (d:FC),ds[x]?=some d->∃c,cs[x]?=some c/\∀v,ak (σ.env C.wF mu) c v->gG wF mt (hid.map mu) (hid.map (fS σ)) i (j+x) d v
 | [],j,ts,K,r,_,hr=>⟨[],hr,rfl,λx d h=>by simp at h⟩
 |c::cs,j,ts,K,r,hm,hr=>by
  simp only[ke]at hr;obtain⟨d,hr2,h1⟩:=Sy h hw (λd hd w=>by
   cases ts with
   |nil=>cases hd
   |cons t ts=>exact pU hd w) (hm 0 c rfl) hr
  obtain⟨ds,h2,h3,h4⟩:=nV h hw cs (j+1) ts.tail _ r (λx c hx y hy=>hm (x+1) c (by simpa using hx) y (by rw[<-hy];congr 1;omega)) hr2
  refine⟨d::ds,h2,by simp[h3],λx d' hx=>?_⟩
  cases x with
  |zero=>simp at hx;subst hx;exact⟨c,rfl,h1⟩
  |succ x =>
   obtain⟨c',h5,h6⟩:=h4 x d' (by simpa using hx)
   exact⟨c',by simpa using h5,λv hv=>by rw[show j+(x+1)=j+1+x by omega];exact h6 v hv⟩
def xQ{wF:World}{ms:List Img}{obs:List Ob}{i j:Nat}{d:FC}{v:Value}(h:gG wF [] ms obs i j d v):bu wF v d:=h.2
def JF{hid:List Nat}{wF:World}(h:St C σ mu a w)(hw:HidW C σ mu w hid wF){o:Nat}{xs:List SC}(ho:σ.H o=some (some (.box xs)))(hn:cM o hid=true){ds:List FC}(hl:ds.length=xs.length)
  (hds:∀(x:Nat) (d:FC),ds[x]?=some d->∃c,xs[x]?=some c/\∀v,ak (σ.env C.wF mu) c v->gG wF [] (hid.map mu) (hid.map (fS σ)) 0 (0+x) d v)
  {v:Value}(hv:ak (σ.env C.wF mu) (.ptr o 0) v):∃b off,v=.pointer (some ⟨b,off,none⟩)/\∀(j:Nat) (d:FC),ds[j]?=some d->∃u,wF.cell? ⟨b,off+j,none⟩=some u/\bu wF u d:=by
 have _:=hl
 obtain⟨_,b,hb,rfl⟩:=aV ho hv;obtain⟨g,arr,ty,h1,h2,h3,h4⟩:=mi h ho;have hgb:g=b:=by rw[State.env,h1]at hb;simpa[ag]using hb
 subst hgb;refine⟨g,0,rfl,λj d hj=>?_⟩
 obtain⟨c,h5,h6⟩:=hds j d hj;obtain⟨u,h7,h8,h9⟩:=h4.2 j c h5;have hF:wF.heap[g]?=some (.cells arr ty (0,0)):=by rw[hw.own o _ ho hn g (cL hb)];exact h3
 exact⟨u,by rw[AI,cell_of_row wF g j arr ty (0,0) hF];exact h7,xQ (h6 u h9)⟩
def at7{xs:List SC}{o:Nat}(h:Is xs=some o):xs=[.ptr o 0]:=by
 unfold Is at h;split at h
 ·cases h;rfl
 ·cases h
def at8{hid:List Nat}{wF:World}(h:St C σ mu a w)(hw:HidW C σ mu w hid wF){o o2:Nat}{xs:List SC}(ho:σ.H o=some (some (.box [.ptr o2 0])))(hn:cM o hid=true)(ho2:σ.H o2=some (some (.box xs)))(hn2:cM o2 hid=true){ds:List FC}(hl:ds.length=xs.length)
  (hds:∀(x:Nat) (d:FC),ds[x]?=some d->∃c,xs[x]?=some c/\∀v,ak (σ.env C.wF mu) c v->gG wF [] (hid.map mu) (hid.map (fS σ)) 0 (0+x) d v)
  {v:Value}(hv:ak (σ.env C.wF mu) (.ptr o 0) v):∃b off b2 off2,v=.pointer (some ⟨b,off,none⟩)/\wF.cell? ⟨b,off,none⟩=some (.pointer (some ⟨b2,off2,none⟩))/\∀(j:Nat) (d:FC),ds[j]?=some d->∃u,wF.cell? ⟨b2,off2+j,none⟩=some u/\bu wF u d:=by
 obtain⟨_,b,hb,rfl⟩:=aV ho hv;obtain⟨g,arr,ty,h1,h2,h3,h4⟩:=mi h ho;have hgb:g=b:=by rw[State.env,h1]at hb;simpa[ag]using hb
 subst hgb;obtain⟨u,h7,h8,h9⟩:=h4.2 0 (.ptr o2 0) rfl;obtain⟨b2,off2,rfl,h10⟩:=JF h hw ho2 hn2 hl hds h9;have hF:wF.heap[g]?=some (.cells arr ty (0,0)):=by rw[hw.own o _ ho hn g (cL hb)];exact h3
 exact⟨g,0,b2,off2,rfl,by rw[cell_of_row wF g 0 arr ty (0,0) hF];exact h7,h10⟩
def xR{α:Type}{hid:List Nat}{wF:World}(h:St C σ mu a w)(hw:HidW C σ mu w hid wF) :
  ∀(cs:List SC) (K:List AD->Rd α) (r:α) (_:(ld C.P hid cs K).run σ=some r),
  ∃ds,(K ds).run σ=some r/\ds.length=cs.length/\∀(x:Nat) (d:AD),ds[x]?=some d->∃c,cs[x]?=some c/\∀i v,ak (σ.env C.wF mu) c v->dD C.P wF [] [] [] i d v
 | [],K,r,hr=>⟨[],hr,rfl,λx d h=>by simp at h⟩
 |c::cs,K,r,hr=>by
  have plain:∀K':List AD->Rd α,(la hid none c λd=>ld C.P hid cs λr=>K' (.c d::r)).run σ=some r ->
    ∃ds,(K' ds).run σ=some r/\ds.length=(c::cs).length/\∀(x:Nat) (d:AD),ds[x]?=some d->∃c',(c::cs)[x]?=some c'/\∀i v,ak (σ.env C.wF mu) c' v->dD C.P wF [] [] [] i d v:=λK' hr=>by
   obtain⟨d,hr2,h1⟩:=xP h hw (by simp) hr
   obtain⟨ds,h2,h3,h4⟩:=xR h hw cs _ r hr2;refine⟨.c d::ds,h2,by simp[h3],λx d' hx=>?_⟩
   cases x with
   |zero=>simp at hx;subst hx;exact⟨c,rfl,λi v hv=>h1 v hv⟩
   |succ x=>exact h4 x d' (by simpa using hx)
  unfold ld at hr;split at hr
  ·rename_i o
   unfold eN at hr;split at hr
   ·rename_i hn
    obtain⟨ob,ho,hr2⟩:=bg hr;cases ob with
    |box xs =>
     simp only at hr2;split at hr2
     ·rename_i o2 hne
      have hne:=at7 hne
      subst hne;split at hr2
      ·rename_i hn2
       obtain⟨ob2,ho2,hr2⟩:=bg hr2;cases ob2 with
       |box ys =>
        obtain⟨dsx,hr3,h1,h2⟩:=nV h hw ys 0 [] _ r (λx c _ y hy=>by simp[b9]at hy) hr2
        obtain⟨ds,h5,h3,h4⟩:=xR h hw cs _ r hr3;refine⟨.bb dsx::ds,h5,by simp[h3],λx d' hx=>?_⟩
        cases x with
        |zero=>simp at hx;subst hx;exact⟨_,rfl,λi v hv=>at8 h hw ho hn ho2 hn2 h1 h2 hv⟩
        |succ x=>exact h4 x d' (by simpa using hx)
       |_=>cases hr2
      ·cases hr2
     obtain⟨dsx,hr3,h1,h2⟩:=nV h hw xs 0 [] _ r (λx c _ y hy=>by simp[b9]at hy) hr2
     obtain⟨ds,h5,h3,h4⟩:=xR h hw cs _ r hr3;refine⟨.box dsx::ds,h5,by simp[h3],λx d' hx=>?_⟩
     cases x with
     |zero=>simp at hx;subst hx;exact⟨_,rfl,λi v hv=>JF h hw ho hn h1 h2 hv⟩
     |succ x=>exact h4 x d' (by simpa using hx)
    |_=>cases hr2
   ·cases hr
  ·exact plain K hr
def at9{P:Program}{wF wG:World}(hk:bU wF wG){i:Nat}{d:AD}{v:Value}(h:dD P wF [] [] [] i d v):dD P wG [] [] [] i d v:=by
 have hcell:∀{j d u},gG wF [] [] [] i j d u->gG wG [] [] [] i j d u:=fun {j d u} h=>⟨h.1,(xQ h).mono hk⟩
 cases d with
 |c d=>exact hcell (j:=0) h
 |agg cs =>
  obtain⟨arr,rfl,h1,h2⟩:=h;exact⟨arr,rfl,h1,λj d hj=>let⟨u,h3,h4⟩:=h2 j d hj;⟨u,h3,hcell h4⟩⟩
 |box cs =>
  obtain⟨b,off,rfl,h1⟩:=h;exact⟨b,off,rfl,λj d hj=>let⟨u,h3,h4⟩:=h1 j d hj;⟨u,hk _ _ h3,h4.mono hk⟩⟩
 |bb cs =>
  obtain⟨b,off,b2,off2,rfl,h0,h1⟩:=h;exact⟨b,off,b2,off2,rfl,hk _ _ h0,λj d hj=>let⟨u,h3,h4⟩:=h1 j d hj;⟨u,hk _ _ h3,h4.mono hk⟩⟩
 |fv F =>
  obtain⟨f,caps,fn,h1,h2,h3,h4,h5⟩:=h;exact⟨f,caps,fn,h1,h2,h3,h4,λw us ds q c hk'=>h5 w us ds q c (λp u hp=>hk' p u (hk p u hp))⟩
 |fvs F s=>exact(show False from h).elim
 |cut off n d=>exact(show False from h).elim
 |ma x=>exact(show False from h).elim
def au0{wF:World}{f:FuncId}{ct:List AD->Option Post}(hf:Fits C.P f ⟨[],ct⟩){cds:List AD}{arr:Array Value}(hl:arr.size=cds.length)
  (hc:∀(x:Nat) (d:AD),cds[x]?=some d->∃u,arr[x]?=some u/\∀i,dD C.P wF [] [] [] i d u){w:World}(hk:bU wF w){us:List Value}{ds:List FC}(hlen:us.length=ds.length)
  (hus:∀(i:Nat) (d:FC),ds[i]?=some d->∃u,us[i]?=some u/\u.oneCell'=true/\bu w u d){pre:Prop}{rc:RC}(hp:ct (ds.map .c++cds)=some ⟨pre,.c rc,[]⟩)(hq:pre){c:SC}(hrc:jA rc=some c) :
  Calls C.P f (us.toArray++arr) w λe w'=>e=.returned (wU c)/\Below w.heap.size w w'/\w.drawn<=w'.drawn:=by
 have:=hf.run w w (us++arr.toList) (ds.map .c++cds) _ [] [] hp hq (by simp[hl,hlen]) rfl rfl rfl (by simp) (by simp) (by simp) (λq u hqu=>⟨hqu,by simp⟩) (λi d' hi=>by
  by_cases ψ:i<ds.length
  ·rw[As (by simpa using ψ),Ak]at hi
   cases hd:ds[i]? with
   |none=>rw[hd]at hi;cases hi
   |some d =>
    rw[hd]at hi;simp at hi
    subst hi;obtain⟨u,h1,h2,h3⟩:=hus i d hd;exact⟨u,by rw[As (by omega)];exact h1,h2,h3⟩
  ·rw[Ay (by simpa using Nat.le_of_not_lt ψ)]at hi
   obtain⟨u,h1,h2⟩:=hc _ d' hi;refine⟨u,?_,at9 hk (h2 _)⟩
   rw[Ay (by omega),hlen]
   simpa using h1)
 rw[show(us++arr.toList).toArray=us.toArray++arr by simp]at this
 refine this.mono ?_
 rintro e w' ⟨v',ms',img,wG,rfl,haft,_,_,_,hret⟩
 refine⟨?_,haft.below,haft.os.drawn⟩
 have h1:=hret.val
 cases rc<;>simp only[jA,reduceCtorEq,AC]at hrc<;>subst hrc
 ·rw[show v'=_ from h1];rfl
 ·rw[show v'=_ from h1];rfl
def sd{o:Option Post}(h:nz o):∃pre b,o=some ⟨pre,.c (.bool b),[]⟩/\pre/\pE o=b:=by
 unfold nz at h;split at h
 ·exact⟨_,_,rfl,h,rfl⟩
 ·exact h.elim
def JG{o:Option Post}(h:jy o):∃pre n,o=some ⟨pre,.c (.int .i64 n),[]⟩/\pre/\jx o=n:=by
 unfold jy at h;split at h
 ·exact⟨_,_,rfl,h,rfl⟩
 ·exact h.elim
def Sz{ds:List FC}{x:Int}(h:wR ds=some x):ds=[.int .i64 x]:=by
 unfold wR at h;split at h
 ·cases h;rfl
 ·cases h
def au1{ds:List FC}{x:D6}(h:HO ds=some x):ds=[.ints .i64 x]:=by
 unfold HO at h;split at h
 ·cases h;rfl
 ·cases h
def au2{ds:List FC}{x:D7}(h:HP ds=some x):ds=[.rows .i64 x]:=by
 unfold HP at h;split at h
 ·cases h;rfl
 ·cases h
def SA{ds:List FC}{x y:Int}(h:wS ds=some (x,y)):ds=[.int .i64 x,.int .i64 y]:=by
 unfold wS at h;split at h
 ·cases h;rfl
 ·cases h
def SB{ds:List FC}{x y:D6}(h:wT ds=some (x,y)):ds=[.ints .i64 x,.ints .i64 y]:=by
 unfold wT at h;split at h
 ·cases h;rfl
 ·cases h
def au3{ps rs:List Nat}{ct:List AD->Option Post}{cds:List AD}{F:FV}(h:Ir ps rs ct cds=some F){ds:List FC}{q:Prop}{c:SC}(hat:F.at ds=some (q,c))(hq:q) :
  ∃pre rc,ct (ds.map .c++cds)=some ⟨pre,.c rc,[]⟩/\pre/\jA rc=some c:=by
 unfold Ir at h;split at h
 ·cases h
  simp only[FV.at]at hat;split at hat
  ·rename_i hin
   obtain rfl:=Sz hin;cases hat;obtain⟨pre,b,h1,h2,h3⟩:=sd hq;exact⟨pre,_,h1,h2,by simp only[jA];rw[h3]⟩
  ·cases hat
 ·cases h
  simp only[FV.at]at hat;split at hat
  ·rename_i hin
   obtain rfl:=au1 hin;cases hat;obtain⟨pre,b,h1,h2,h3⟩:=sd hq;exact⟨pre,_,h1,h2,by simp only[jA];rw[h3]⟩
  ·cases hat
 ·cases h
  simp only[FV.at]at hat;split at hat
  ·rename_i hin
   obtain rfl:=SA hin;cases hat;obtain⟨pre,b,h1,h2,h3⟩:=JG hq;exact⟨pre,_,h1,h2,by simp only[jA];rw[h3]⟩
  ·cases hat
 ·cases h
  simp only[FV.at]at hat;split at hat
  ·rename_i hin
   obtain rfl:=SA hin;cases hat;obtain⟨pre,b,h1,h2,h3⟩:=sd hq;exact⟨pre,_,h1,h2,by simp only[jA];rw[h3]⟩
  ·cases hat
 ·cases h
  simp only[FV.at]at hat;split at hat
  ·rename_i hin
   obtain rfl:=SB hin;cases hat;obtain⟨pre,b,h1,h2,h3⟩:=JG hq;exact⟨pre,_,h1,h2,by simp only[jA];rw[h3]⟩
  ·cases hat
 ·cases h
  simp only[FV.at]at hat;split at hat
  ·rename_i hin
   obtain rfl:=SB hin;cases hat;obtain⟨pre,b,h1,h2,h3⟩:=sd hq;exact⟨pre,_,h1,h2,by simp only[jA];rw[h3]⟩
  ·cases hat
 ·cases h
  simp only[FV.at]at hat;split at hat
  ·rename_i hin
   obtain rfl:=au2 hin;cases hat;obtain⟨pre,b,h1,h2,h3⟩:=sd hq;exact⟨pre,_,h1,h2,by simp only[jA];rw[h3]⟩
  ·cases hat
 ·cases h
  simp only[FV.at]at hat;split at hat
  ·rename_i hin
   obtain rfl:=Sz hin;cases hat;obtain⟨pre,b,h1,h2,h3⟩:=JG hq;exact⟨pre,_,h1,h2,by simp only[jA];rw[h3]⟩
  ·cases hat
 ·cases h
def au4{F:FV}{ds:List FC}{q:Prop}{c:SC}(h:F.at ds=some (q,c))(E:Env):ak E c (wU c):=by
 unfold FV.at at h;split at h<;>split at h<;>first|(cases h;rfl)|cases h
def dj(P:Program)(Γ:FuncId->Option Ctr):Prop:=∀f c,Γ f=some c->Fits P f c
def au5{f:FuncId}{c:Ctr}(h:Fits C.P f c):∃fn,C.P.funcs[f]?=some fn/\fn.body.isSome=true/\fn.name≠"runtime.NumGoroutine":=by
 obtain⟨fn,h1,h2,h3⟩:=h.fn;exact⟨fn,h1,h2,λhc=>by rw[hc]at h3;cases h3⟩
def au6{α:Type}{Γ:FuncId->Option Ctr}(hΓ:dj C.P Γ){hid:List Nat}{wF:World}(h:St C σ mu a w)(hw:HidW C σ mu w hid wF){mt:List (Nat×Nat)}{i:Nat}{t:TypeId}{sv:SV}
  (hmut:∀x j,b9 mt i j=some x->∃o cs,hid[x]?=some o/\ka sv=some cs/\cs[j]?=some (.own o)){K:AD->Rd α}{r:α}(hr:(pF C.P Γ hid mt i t sv K).run σ=some r) :
  ∃d,(K d).run σ=some r/\∀v,aA C.P (σ.env C.wF mu) sv v->dD C.P wF mt (hid.map mu) (hid.map (fS σ)) i d v:=by
 unfold pF at hr;split at hr
 ·rename_i c
  have hcm:∀x,b9 mt i 0=some x->∃o,hid[x]?=some o/\c=.own o:=λx hx=>by
   obtain⟨o,cs,h1,h2,h3⟩:=hmut x 0 hx;refine⟨o,h1,?_⟩
   simp only[ka]at h2;split at h2
   ·cases h2;simpa using h3
   ·cases h2
  have hm0:(∀o,c≠.own o)->b9 mt i 0=none:=λhc=>by
   cases hx:b9 mt i 0 with
   |none=>rfl
   |some x=>obtain⟨o,_,h2⟩:=hcm x hx;exact absurd h2 (hc o)
  split at hr
  ·rename_i o x
   split at hr
   ·unfold eN at hr
    split at hr
    ·rename_i hn
     obtain⟨ob,ho,hr2⟩:=bg hr;cases ob with
     |box xs =>
      obtain⟨dsx,hr3,h1,h2⟩:=nV h hw xs 0 _ _ r (λx c _ y hy=>by simp[b9]at hy) hr2
      exact⟨_,hr3,λv hv=>by simp only[dD,hm0 (by simp)];exact JF h hw ho hn h1 h2 hv⟩
     |_=>cases hr2
    ·cases hr
   ·cases hr
  ·rename_i cs x
   split at hr
   ·refine⟨_,hr,λv hv=>?_⟩
    obtain⟨b,off,rfl,hc⟩:=hv;simp only[dD,hm0 (by simp)]
    exact⟨b,off,rfl,λj d hj=>by
     obtain⟨u,h1,h2⟩:=hc j d (by simpa using hj)
     exact⟨u,hw.old _ _ h1,h2.mono hw.old⟩⟩
   ·cases hr
  ·obtain⟨d,h1,h2⟩:=Sy h hw (λd hd w=>pU hd w) hcm hr
   exact⟨_,h1,h2⟩
 ·rename_i cs
  obtain⟨ds,h1,h2,h3⟩:=nV h hw cs 0 _ _ r (λx c hx y hy=>by
   rw[AI]at hy;obtain⟨o,cs',h4,h5,h6⟩:=hmut y x hy;cases h5;exact⟨o,h4,BF (hx.symm.trans h6)⟩) hr
  refine⟨_,h1,λv hv=>?_⟩
  obtain⟨arr,rfl,h4,h5⟩:=hv;refine⟨arr,rfl,by rw[h4,h2],λj d hj=>?_⟩
  obtain⟨c,h6,h7⟩:=h3 j d hj;obtain⟨u,h8,_,h9⟩:=h5 j c h6;exact⟨u,h8,by have:=h7 u h9;rwa[AI]at this⟩
 ·exact⟨_,hr,λv hv=>by
   obtain⟨f,caps,fn,h1,h2,h3,h4,h5⟩:=hv;exact⟨f,caps,fn,h1,h2,h3,h4,λw us ds q c hk=>h5 w us ds q c (λp u hp=>hk p u (hw.old p u hp))⟩⟩
 ·rename_i f caps
  split at hr
  ·split at hr
   ·cases hr
   ·rename_i ct hct
    have hf:=hΓ f _ hct
    obtain⟨fn,hfn1,hfn2,hfn3⟩:=au5 hf;obtain⟨cds,hr2,h1,h2⟩:=xR h hw caps _ r hr;have hcaps:∀arr,dp (σ.env C.wF mu) caps arr->arr.size=cds.length/\∀(x:Nat) (d:AD),cds[x]?=some d->∃u,arr[x]?=some u/\∀i,dD C.P wF [] [] [] i d u:=λarr χ=>by
     refine⟨by rw[χ.1,h1],λx d hx=>?_⟩
     obtain⟨c,h3,h4⟩:=h2 x d hx;obtain⟨u,h5,_,h6⟩:=χ.2 x c h3;exact⟨u,h5,λi=>h4 i u h6⟩
    split at hr2
    ·rename_i F hF
     refine⟨_,hr2,λv hv=>?_⟩
     obtain⟨arr,rfl,χ⟩:=hv;obtain⟨h3,h4⟩:=hcaps arr χ;refine⟨f,arr,fn,rfl,hfn1,hfn2,hfn3,λw us ds q c hk hat hq hlen hus=>?_⟩
     obtain⟨pre,rc,k1,k2,k3⟩:=au3 hF hat hq;exact au0 hf h3 h4 hk hlen hus k1 k2 k3
    ·cases hr2
   ·cases hr
  ·cases hr
 ·cases hr
 ·cases hr
def JH{α:Type}{Γ:FuncId->Option Ctr}(hΓ:dj C.P Γ){hid:List Nat}{wF:World}(h:St C σ mu a w)(hw:HidW C σ mu w hid wF){mt:List (Nat×Nat)} :
  ∀(svs:List SV) (i:Nat) (ts:List TypeId) (K:List AD->Rd α) (r:α)
   (_:∀(y:Nat) (sv:SV),svs[y]?=some sv->∀x j,b9 mt (i+y) j=some x->∃o cs,hid[x]?=some o/\ka sv=some cs/\cs[j]?=some (.own o)) (_:(kf C.P Γ hid mt i svs ts K).run σ=some r),
  ∃ds,(K ds).run σ=some r/\ds.length=svs.length/\∀(y:Nat) (d:AD),ds[y]?=some d->∃sv,svs[y]?=some sv/\∀v,aA C.P (σ.env C.wF mu) sv v->dD C.P wF mt (hid.map mu) (hid.map (fS σ)) (i+y) d v
 | [],i,ts,K,r,_,hr=>⟨[],hr,rfl,λx d h=>by simp at h⟩
 |sv::svs,i,ts,K,r,hm,hr=>by
  simp only[kf]at hr;obtain⟨d,hr2,h1⟩:=au6 hΓ h hw (hm 0 sv rfl) hr;obtain⟨ds,h2,h3,h4⟩:=JH hΓ h hw svs (i+1) _ _ r (λy sv hy x j hx=>hm (y+1) sv (by simpa using hy) x j (by rw[<-hx];congr 1;omega)) hr2
  refine⟨d::ds,h2,by simp[h3],λy d' hy=>?_⟩
  cases y with
  |zero=>simp at hy;subst hy;exact⟨sv,rfl,h1⟩
  |succ y =>
   obtain⟨sv',h5,h6⟩:=h4 y d' (by simpa using hy)
   exact⟨sv',by simpa using h5,λv hv=>by rw[show i+(y+1)=i+1+y by omega];exact h6 v hv⟩
def SD{α:Type}{hid:List Nat}{nl:Option FC}{c:SC}{K:FC->Rd α}{r:α}(hr:(la hid nl c K).run σ=some r):∃d,(K d).run σ=some r:=by
 have hob:∀{o:Nat} {K':Ob->Rd α},(eN hid o K').run σ=some r->∃ob,(K' ob).run σ=some r:=fun {o K'} hr=>by
  unfold eN at hr;split at hr
  ·obtain⟨ob,_,hr2⟩:=bg hr;exact⟨ob,hr2⟩
  ·cases hr
 unfold la at hr;split at hr
 ·exact⟨_,hr⟩
 ·exact⟨_,hr⟩
 ·exact⟨_,hr⟩
 ·cases nl with
  |none=>cases hr
  |some d=>exact⟨d,hr⟩
 ·obtain⟨ob,hr2⟩:=hob hr
  split at hr2
  ·exact⟨_,hr2⟩
  ·split at hr2
   ·exact⟨_,hr2⟩
   ·cases hr2
 ·obtain⟨ob,hr2⟩:=hob hr
  split at hr2
  ·split at hr2
   ·exact⟨_,hr2⟩
   ·cases hr2
  ·cases hr2
 ·obtain⟨ob,hr2⟩:=hob hr
  split at hr2
  ·split at hr2
   ·exact⟨_,hr2⟩
   ·cases hr2
  ·cases hr2
 ·obtain⟨ob,hr2⟩:=hob hr
  split at hr2
  ·split at hr2
   ·exact⟨_,hr2⟩
   ·cases hr2
  ·cases hr2
 ·obtain⟨ob,hr2⟩:=hob hr
  split at hr2
  ·split at hr2
   ·split at hr2
    ·exact⟨_,hr2⟩
    ·cases hr2
   ·cases hr2
  ·cases hr2
 ·exact⟨_,hr⟩
 ·exact⟨_,hr⟩
 ·obtain⟨ob,hr2⟩:=hob hr
  split at hr2
  ·split at hr2
   ·exact⟨_,hr2⟩
   ·cases hr2
  ·cases hr2
 ·cases hr
def SE{α:Type}{hid:List Nat}{mt:List (Nat×Nat)}{i j:Nat}{nl:Option FC}{c:SC}{K:FC->Rd α}{r:α}(hr:(pD hid mt i j nl c K).run σ=some r):∃d,(K d).run σ=some r:=by
 unfold pD at hr;split at hr
 ·unfold Ip at hr
  split at hr
  ·obtain⟨ob,_,hr2⟩:=bg hr
   split at hr2
   ·exact⟨_,hr2⟩
   ·cases hr2
  ·cases hr
 ·exact SD hr
def se{α:Type}{P:Program}{hid:List Nat}{mt:List (Nat×Nat)}{i:Nat}:∀{cs:List SC} {j:Nat} {ts:List TypeId} {K:List FC->Rd α} {r:α},(ke P hid mt i j cs ts K).run σ=some r->∃d,(K d).run σ=some r
 | [],j,ts,K,r,hr=>⟨[],hr⟩
 |c::cs,j,ts,K,r,hr=>by
  obtain⟨d,hr2⟩:=SE hr;obtain⟨ds,hr3⟩:=se hr2;exact⟨_,hr3⟩
def xS{α:Type}{P:Program}{hid:List Nat}:∀{cs:List SC} {K:List AD->Rd α} {r:α},(ld P hid cs K).run σ=some r->∃d,(K d).run σ=some r
 | [],K,r,hr=>⟨[],hr⟩
 |c::cs,K,r,hr=>by
  unfold ld at hr;split at hr
  ·unfold eN at hr
   split at hr
   ·obtain⟨ob,_,hr2⟩:=bg hr
    cases ob with
    |box xs =>
     simp only at hr2;split at hr2
     ·skip
      split at hr2
      ·obtain⟨ob2,_,hr2⟩:=bg hr2
       cases ob2 with
       |box ys =>
        obtain⟨d,hr3⟩:=se hr2;obtain⟨ds,hr4⟩:=xS hr3;exact⟨_,hr4⟩
       |_=>cases hr2
      ·cases hr2
     obtain⟨d,hr3⟩:=se hr2;obtain⟨ds,hr4⟩:=xS hr3;exact⟨_,hr4⟩
    |_=>cases hr2
   ·cases hr
  ·obtain⟨d,hr3⟩:=SD hr
   obtain⟨ds,hr4⟩:=xS hr3;exact⟨_,hr4⟩
def SF{α:Type}{P:Program}{Γ:FuncId->Option Ctr}{hid:List Nat}{mt:List (Nat×Nat)}{i:Nat}{t:TypeId}{sv:SV}{K:AD->Rd α}{r:α}(hr:(pF P Γ hid mt i t sv K).run σ=some r) :
  ∃d,(K d).run σ=some r:=by
 unfold pF at hr;split at hr
 ·split at hr
  ·split at hr
   ·unfold eN at hr
    split at hr
    ·obtain⟨ob,_,hr2⟩:=bg hr
     cases ob with
     |box xs=>obtain⟨d,hr3⟩:=se hr2;exact⟨_,hr3⟩
     |_=>cases hr2
    ·cases hr
   ·cases hr
  ·split at hr
   ·exact⟨_,hr⟩
   ·cases hr
  ·obtain⟨d,hr3⟩:=SE hr;exact⟨_,hr3⟩
 ·obtain⟨d,hr3⟩:=se hr;exact⟨_,hr3⟩
 ·exact⟨_,hr⟩
 ·split at hr
  ·split at hr
   ·cases hr
   ·obtain⟨cds,hr2⟩:=xS hr
    split at hr2
    ·exact⟨_,hr2⟩
    ·cases hr2
   ·cases hr
  ·cases hr
 ·cases hr
 ·cases hr
def jH(E:Env)(fs:List (Nat×Option Ob)):Prop:=∀o d,(o,some (.frz d))∈fs->E.st o=.frz d
theorem jH.left{E:Env}{fs gs:List (Nat×Option Ob)}(h:jH E (fs++gs)):jH E fs:=λo d hm=>h o d (BI _ hm)
theorem jH.right{E:Env}{fs gs:List (Nat×Option Ob)}(h:jH E (fs++gs)):jH E gs:=λo d hm=>h o d (BH _ hm)
def au7{fs:List (Nat×Option Ob)}(hf:gE σ fs)(wG:World)(mu1:Nat->Img):jH ((State.mk σ.fr (fs++σ.hp)).env wG mu1) fs:=λo d hm=>by
 have:lk fs o≠none:=λhc=>by
  have key:∀{l:List (Nat×Option Ob)} {x:Option Ob},(o,x)∈l->lk l o≠none:=fun {l x}=>by
   induction l with
   |nil=>intro h;simp at h
   |cons z l ih =>
    intro h
    obtain⟨k,v⟩:=z;rw[bv];split
    ·simp
    ·rename_i hk
     rcases AG.1 h with h|h
     ·cases h;exact absurd rfl hk
     ·exact ih h
  exact key hm hc
 cases hl:lk fs o with
 |none=>exact absurd hl this
 |some y =>
  obtain⟨ob,d1,q1,q2,q3⟩:=hf o _ hm;obtain⟨ob',d2,r1,r2,r3⟩:=hf o y (rX hl);rw[q1]at r1;cases r1;rw[q2]at r2;cases r2;cases q3;subst r3;exact fR (by simp only[State.H,gD,hl])
def SG{α:Type}{hid:List Nat}(_h:St C σ mu a w){nl:Option FC}(hnl:∀d,nl=some d->∀w,bu w (.slice none 0 0) d){c:SC}{K:FC->List (Nat×Option Ob)->Rd α}{r:α}(hr:(xh hid nl c K).run σ=some r) :
  ∃d fs,(K d fs).run σ=some r/\gE σ fs/\(∀o x,(o,x)∈fs->o ∉ hid)/\∀v,ak (σ.env C.wF mu) c v->∀E',co (σ.env C.wF mu) E'->jH E' fs->v.oneCell'=true/\bu E'.wF v d:=by
 have no:gE σ []:=λo x hm=>by simp at hm
 have no2:∀o x,(o,x)∈([]:List (Nat×Option Ob))->o ∉ hid:=λo x hm=>by simp at hm
 have hob:∀{o:Nat} {K':Ob->Rd α},(eN hid o K').run σ=some r->∃ob,σ.H o=some (some ob)/\(K' ob).run σ=some r/\o ∉ hid:=fun {o K'} hr=>by
  unfold eN at hr;split at hr
  ·rename_i hn
   obtain⟨ob,ho,hr2⟩:=bg hr;exact⟨ob,ho,hr2,jF hn⟩
  ·cases hr
 have one:∀{o:Nat} {ob:Ob} {d:FC},σ.H o=some (some ob)->gy ob=some d->o ∉ hid->gE σ [(o,some (.frz d))]/\∀o' x,(o',x)∈[(o,some (Ob.frz d))]->o' ∉ hid:=fun {o ob d} h1 h2 h3 =>
  ⟨λo' x hm=>by
   simp at hm
   obtain⟨rfl,rfl⟩:=hm;exact⟨ob,d,h1,h2,rfl⟩,λo' x hm=>by
   simp at hm
   rw[hm.1];exact h3⟩
 unfold xh at hr;split at hr
 ·exact⟨_,_,hr,no,no2,λv hv E' _ _=>by simp only[ak]at hv;subst hv;exact⟨rfl,rfl⟩⟩
 ·exact⟨_,_,hr,no,no2,λv hv E' _ _=>by simp only[ak]at hv;subst hv;exact⟨rfl,rfl⟩⟩
 ·exact⟨_,_,hr,no,no2,λv hv E' _ _=>by simp only[ak]at hv;subst hv;exact⟨rfl,rfl⟩⟩
 ·cases nl with
  |none=>cases hr
  |some d=>exact⟨d,_,hr,no,no2,λv hv E' _ _=>by simp only[ak]at hv;subst hv;exact⟨rfl,hnl d rfl _⟩⟩
 ·exact⟨_,_,hr,no,no2,λv hv E' hE _=>by
   obtain⟨⟨x,n,c,hv1,_⟩,hv2⟩:=hv;exact⟨by rw[hv1];rfl,hv2.mono hE.1⟩⟩
 ·rename_i o
  obtain⟨ob,ho,hr2,hn⟩:=hob hr;split at hr2
  ·rename_i d hd
   obtain⟨k1,k2⟩:=one ho hd hn;exact⟨d,_,hr2,k1,k2,λv hv E' hE hf=>by
    have h2:=ak.mono hE hv
    have h3:=h2.2
    rw[hf o d (by simp)]at h3
    exact⟨h2.1,h3.2⟩⟩
  ·cases hr2
 ·rename_i o n
  obtain⟨ob,ho,hr2,hn⟩:=hob hr;split at hr2
  ·rename_i d hd
   split at hr2
   ·rename_i d' hd'
    obtain⟨k1,k2⟩:=one ho hd hn;exact⟨d',_,hr2,k1,k2,λv hv E' hE hf=>by
     have h2:=ak.mono hE hv
     have h3:=h2.2
     rw[hf o d (by simp)]at h3
     obtain⟨d'',e1,e2⟩:=h3;rw[hd']at e1;cases e1;exact⟨h2.1,e2.2⟩⟩
   ·cases hr2
  ·cases hr2
 ·rename_i o off n
  obtain⟨ob,ho,hr2,hn⟩:=hob hr;split at hr2
  ·rename_i d hd
   split at hr2
   ·rename_i d' hd'
    obtain⟨k1,k2⟩:=one ho hd hn;exact⟨d',_,hr2,k1,k2,λv hv E' hE hf=>by
     have h2:=ak.mono hE hv
     have h3:=h2.2
     rw[hf o d (by simp)]at h3
     obtain⟨d'',e1,e2⟩:=h3;rw[hd']at e1;cases e1;exact⟨h2.1,e2.2⟩⟩
   ·cases hr2
  ·cases hr2
 ·cases hr
def SH{α:Type}{hid:List Nat}(h:St C σ mu a w):∀(cs:List SC) (ts:List TypeId) (K:List FC->List (Nat×Option Ob)->Rd α) (r:α) (_:(xi C.P hid cs ts K).run σ=some r),
  ∃ds fs,(K ds fs).run σ=some r/\gE σ fs/\(∀o x,(o,x)∈fs->o ∉ hid)/\ds.length=cs.length/\∀(x:Nat) (d:FC),ds[x]?=some d->∃c,cs[x]?=some c/\∀v,ak (σ.env C.wF mu) c v->∀E',co (σ.env C.wF mu) E'->jH E' fs->v.oneCell'=true/\bu E'.wF v d
 | [],ts,K,r,hr=>⟨[],[],hr,λo x hm=>by simp at hm,λo x hm=>by simp at hm,rfl,λx d h=>by simp at h⟩
 |c::cs,ts,K,r,hr=>by
  simp only[xi]at hr;obtain⟨d,f0,hr2,k1,k2,k3⟩:=SG h (λd hd w=>by
   cases ts with
   |nil=>cases hd
   |cons t ts=>exact pU hd w) hr
  obtain⟨ds,fs,hr3,h1,h2,h3,h4⟩:=SH h cs ts.tail _ r hr2;refine⟨_,_,hr3,λo x hm=>(AH.1 hm).elim (k1 o x) (h1 o x),λo x hm=>(AH.1 hm).elim (k2 o x) (h2 o x),by simp[h3],λx d' hx=>?_⟩
  cases x with
  |zero=>simp at hx;subst hx;exact⟨c,rfl,λv hv E' hE hf=>k3 v hv E' hE hf.left⟩
  |succ x =>
   obtain⟨c',h5,h6⟩:=h4 x d' (by simpa using hx)
   exact⟨c',by simpa using h5,λv hv E' hE hf=>h6 v hv E' hE hf.right⟩
def au8{α:Type}{hid:List Nat}(h:St C σ mu a w){mt:List (Nat×Nat)}{i:Nat}{t:TypeId}{sv:SV}(hmut:∀x j,b9 mt i j=some x->∃o c,hid[x]?=some o/\sv=.c c/\c=.own o/\j=0)
  {K:AD->List (Nat×Option Ob)->Rd α}{r:α}(hr:(Iu C.P hid mt i t sv K).run σ=some r) :
  ∃ad fs,(K ad fs).run σ=some r/\gE σ fs/\(∀o x,(o,x)∈fs->o ∉ hid)/\∀v,aA C.P (σ.env C.wF mu) sv v->∀E',co (σ.env C.wF mu) E'->jH E' fs->dD C.P E'.wF mt (hid.map mu) (hid.map (fS σ)) i ad v:=by
 unfold Iu at hr;split at hr
 ·rename_i c
  split at hr
  ·rename_i hm
   rw[nU]at hm;cases hx:b9 mt i 0 with
   |none=>rw[hx]at hm;cases hm
   |some x =>
    obtain⟨o,c',h1,h2,rfl,_⟩:=hmut x 0 hx;cases h2;obtain⟨ob,hob,hr2⟩:=bg hr;split at hr2
    ·rename_i d hd
     refine⟨_,_,hr2,λo x hm=>by simp at hm,λo x hm=>by simp at hm,λv hv E' _ _=>⟨hv.1,?_⟩⟩
     rw[hx];have hv':v=(mu o).hd:=aV hob hv (pR hd)
     exact⟨mu o,ob,by simp[h1],by simp[h1,fS,hob],hv',hd⟩
    ·cases hr2
  ·rename_i hm
   obtain⟨d,fs,hr2,k1,k2,k3⟩:=SG h (λd hd w=>pU hd w) hr
   refine⟨_,_,hr2,k1,k2,λv hv E' hE hf=>?_⟩
   obtain⟨h1,h2⟩:=k3 v hv E' hE hf;refine⟨h1,?_⟩
   rw[nU]at hm;cases hx:b9 mt i 0 with
   |some x=>rw[hx]at hm;cases hm
   |none=>exact h2
 ·rename_i cs
  have hno:∀j,b9 mt i j=none:=λj=>by
   cases hx:b9 mt i j with
   |none=>rfl
   |some x=>obtain⟨_,_,_,h2,_⟩:=hmut x j hx;cases h2
  obtain⟨ds,fs,hr2,k1,k2,k3,k4⟩:=SH h cs _ _ r hr;refine⟨_,_,hr2,k1,k2,λv hv E' hE hf=>?_⟩
  obtain⟨arr,rfl,h1,h2⟩:=hv;refine⟨arr,rfl,by rw[h1,k3],λj d hj=>?_⟩
  obtain⟨c,h3,h4⟩:=k4 j d hj;obtain⟨u,h5,h6,h7⟩:=h2 j c h3;obtain⟨h8,h9⟩:=h4 u h7 E' hE hf;refine⟨u,h5,h8,?_⟩
  rw[hno j];exact h9
 ·exact⟨_,_,hr,λo x hm=>by simp at hm,λo x hm=>by simp at hm,λv hv E' hE _=>nr.mono hE.1 hv⟩
 ·cases hr
def JI{α:Type}{hid:List Nat}(h:St C σ mu a w){mt:List (Nat×Nat)}:∀(svs:List SV) (i:Nat) (ts:List TypeId) (K:List AD->List (Nat×Option Ob)->Rd α) (r:α)
      (_:∀(y:Nat) (sv:SV),svs[y]?=some sv->∀x j,b9 mt (i+y) j=some x->∃o c,hid[x]?=some o/\sv=.c c/\c=.own o/\j=0) (_:(xj C.P hid mt i svs ts K).run σ=some r),
  ∃ads fs,(K ads fs).run σ=some r/\gE σ fs/\(∀o x,(o,x)∈fs->o ∉ hid)/\ads.length=svs.length/\∀(y:Nat) (d:AD),ads[y]?=some d->∃sv,svs[y]?=some sv/\∀v,aA C.P (σ.env C.wF mu) sv v ->
   ∀E',co (σ.env C.wF mu) E'->jH E' fs->dD C.P E'.wF mt (hid.map mu) (hid.map (fS σ)) (i+y) d v
 | [],i,ts,K,r,_,hr=>⟨[],[],hr,λo x hm=>by simp at hm,λo x hm=>by simp at hm,rfl,λx d h=>by simp at h⟩
 |sv::svs,i,ts,K,r,hm,hr=>by
  simp only[xj]at hr;obtain⟨ad,f0,hr2,k1,k2,k3⟩:=au8 h (hm 0 sv rfl) hr;obtain⟨ads,fs,hr3,h1,h2,h3,h4⟩:=JI h svs (i+1) _ _ r (λy sv hy x j hx=>hm (y+1) sv (by simpa using hy) x j (by rw[<-hx];congr 1;omega)) hr2
  refine⟨_,_,hr3,λo x hm=>(AH.1 hm).elim (k1 o x) (h1 o x),λo x hm=>(AH.1 hm).elim (k2 o x) (h2 o x),by simp[h3],λy d' hy=>?_⟩
  cases y with
  |zero=>simp at hy;subst hy;exact⟨sv,rfl,λv hv E' hE hf=>k3 v hv E' hE hf.left⟩
  |succ y =>
   obtain⟨sv',h5,h6⟩:=h4 y d' (by simpa using hy)
   exact⟨sv',by simpa using h5,λv hv E' hE hf=>by rw[show i+(y+1)=i+1+y by omega];exact h6 v hv E' hE hf.right⟩
end
end Go.Sx
