/- SxN -/
import Derived.Test.YtkmldclpaniclaaGreatSxM
set_option linter.unusedSimpArgs false
set_option linter.unusedVariables false
set_option linter.defProp false
namespace Go.Sx
open Go.RowKit
theorem jw:∀{mt:List (Nat×Nat)} {i j x:Nat},bY mt i j=some x->mt[x]?=some (i,j)
 | [],_,_,_,h=>by simp[bY]at h
 |(p,q)::l,i,j,x,h=>by
  simp only[bY]at h;split at h
  ·rename_i hc;obtain⟨rfl,rfl⟩:=hc;cases h;rfl
  ·cases hm:bY l i j with
   |none=>simp[hm]at h
   |some y=>simp[hm]at h;subst h;simpa using jw hm
theorem nt:∀(mt:List (Nat×Nat)) (i j:Nat),memP i j mt=(bY mt i j).isSome
 | [],_,_=>rfl
 |(p,q)::l,i,j=>by
  simp only[memP,bY,nt l i j];by_cases h:p=i/\q=j
  ·rw[AA h,h.1,h.2];simp
  ·rw[AB h]
   have:(Nat.beq p i&&Nat.beq q j)=false:=by
    cases h1:Nat.beq p i<;>cases h2:Nat.beq q j<;>simp
    exact h ⟨AX h1,AX h2⟩
   rw[this];cases bY l i j<;>rfl
theorem Ic{svs:List SV}:∀{mt:List (Nat×Nat)} {hid:List Nat},oR svs mt=some hid->hid.length=mt.length /\
  ∀(x:Nat) (p:Nat×Nat),mt[x]?=some p->∃o sv cs,hid[x]?=some o/\svs[p.1]?=some sv/\jR sv=some cs/\cs[p.2]?=some (.own o)
 | [],hid,h=>by simp[oR]at h;subst h;simp
 |(i,j)::mt,hid,h=>by
  simp only[oR]at h;split at h
  ·rename_i sv hsv
   split at h
   ·rename_i cs hcs
    split at h
    ·rename_i o ho
     split at h
     ·rename_i os hos
      cases h;obtain⟨h1,h2⟩:=Ic hos;refine⟨by simp[h1],fun x p hx=>?_⟩
      cases x with
      |zero=>simp at hx;subst hx;exact⟨o,sv,cs,by simp,hsv,hcs,ho⟩
      |succ x=>simpa using h2 x p (by simpa using hx)
     ·cases h
    ·cases h
   ·cases h
  ·cases h
theorem pa{P:Program}{t:TypeId}{d:FC}(h:ie P t=some d)(w:World):bp w (.slice none 0 0) d:=by
 have key:∀(R:Nat->Value->Prop),bE w (.slice none 0 0) 0 R:=fun R=>⟨_,_,rfl,AE _,fun h0=>by omega⟩
 unfold ie at h
 repeat' split at h
 all_goals first|cases h;done|(cases h;exact key _)
section
variable {C:Cx} {σ:State} {mu:Nat->Img} {a:Act} {w w':World}
def fE(σ:State)(o:Nat):Ob :=
 match σ.H o with
 |some (some ob)=>ob
 |_=>.box []
theorem PX{α:Type}{hid:List Nat}{wF:World}(h:St C σ mu a w)(hw:HidW C σ mu w hid wF){mt:List (Nat×Nat)}{i j:Nat}{nl:Option FC}(hnl:∀d,nl=some d->∀w,bp w (.slice none 0 0) d)
  {c:SC}{K:FC->Rd α}{r:α}(hmut:∀x,bY mt i j=some x->∃o,hid[x]?=some o/\c=.own o)(hr:(oM hid mt i j nl c K).run σ=some r) :
  ∃d,(K d).run σ=some r/\∀v,ai (σ.env C.wF mu) c v->gw wF mt (hid.map mu) (hid.map (fE σ)) i j d v:=by
 unfold oM at hr;rw[nt]at hr;cases hm:bY mt i j with
 |none =>
  rw[hm]at hr;obtain⟨d,h1,h2⟩:=xn h hw hnl hr;refine⟨d,h1,fun v hv=>⟨(h2 v hv).1,?_⟩⟩
  rw[hm];exact(h2 v hv).2
 |some x =>
  rw[hm]at hr;obtain⟨o,ho,rfl⟩:=hmut x hm;obtain⟨ob,hob,hr2⟩:=aZ hr;split at hr2
  ·rename_i d hd
   refine⟨d,hr2,fun v hv=>⟨hv.1,?_⟩⟩
   rw[hm];have hv':v=(mu o).hd:=aP hob hv (o5 hd)
   exact⟨mu o,ob,by simp[ho],by simp[ho,fE,hob],hv',hd⟩
  ·simp[Rd.run]at hr2
theorem nu{α:Type}{hid:List Nat}{wF:World}(h:St C σ mu a w)(hw:HidW C σ mu w hid wF){mt:List (Nat×Nat)}{i:Nat} :
  ∀(cs:List SC) (j:Nat) (ts:List TypeId) (K:List FC->Rd α) (r:α) (_:∀(x:Nat) (c:SC),cs[x]?=some c->∀y,bY mt i (j+x)=some y->∃o,hid[y]?=some o/\c=.own o)
   (_:(jT C.P hid mt i j cs ts K).run σ=some r),
  ∃ds,(K ds).run σ=some r/\ds.length=cs.length/\∀(x:Nat) (d:FC),ds[x]?=some d->∃c,cs[x]?=some c/\∀v,ai (σ.env C.wF mu) c v->gw wF mt (hid.map mu) (hid.map (fE σ)) i (j+x) d v
 | [],j,ts,K,r,_,hr=>⟨[],hr,rfl,fun x d h=>by simp at h⟩
 |c::cs,j,ts,K,r,hm,hr=>by
  simp only[jT]at hr;obtain⟨d,hr2,h1⟩:=PX h hw (fun d hd w=>by
   cases ts with
   |nil=>cases hd
   |cons t ts=>exact pa hd w) (hm 0 c rfl) hr
  obtain⟨ds,h2,h3,h4⟩:=nu h hw cs (j+1) ts.tail _ r (fun x c hx y hy=>hm (x+1) c (by simpa using hx) y (by rw[<-hy];congr 1;omega)) hr2
  refine⟨d::ds,h2,by simp[h3],fun x d' hx=>?_⟩
  cases x with
  |zero=>simp at hx;subst hx;exact⟨c,rfl,h1⟩
  |succ x =>
   obtain⟨c',h5,h6⟩:=h4 x d' (by simpa using hx)
   exact⟨c',by simpa using h5,fun v hv=>by rw[show j+(x+1)=j+1+x by omega];exact h6 v hv⟩
theorem xo{wF:World}{ms:List Img}{obs:List Ob}{i j:Nat}{d:FC}{v:Value}(h:gw wF [] ms obs i j d v):bp wF v d:=h.2
theorem Id{hid:List Nat}{wF:World}(h:St C σ mu a w)(hw:HidW C σ mu w hid wF){o:Nat}{xs:List SC}(ho:σ.H o=some (some (.box xs)))(hn:cE o hid=true){ds:List FC}(hl:ds.length=xs.length)
  (hds:∀(x:Nat) (d:FC),ds[x]?=some d->∃c,xs[x]?=some c/\∀v,ai (σ.env C.wF mu) c v->gw wF [] (hid.map mu) (hid.map (fE σ)) 0 (0+x) d v)
  {v:Value}(hv:ai (σ.env C.wF mu) (.ptr o 0) v):∃b off,v=.pointer (some ⟨b,off,none⟩)/\∀(j:Nat) (d:FC),ds[j]?=some d->∃u,wF.cell? ⟨b,off+j,none⟩=some u/\bp wF u d:=by
 have _:=hl
 obtain⟨_,b,hb,rfl⟩:=aP ho hv;obtain⟨g,arr,ty,h1,h2,h3,h4⟩:=kM h ho;have hgb:g=b:=by rw[State.env,h1]at hb;simpa[ac]using hb
 subst hgb;refine⟨g,0,rfl,fun j d hj=>?_⟩
 obtain⟨c,h5,h6⟩:=hds j d hj;obtain⟨u,h7,h8,h9⟩:=h4.2 j c h5;have hF:wF.heap[g]?=some (.cells arr ty (0,0)):=by rw[hw.own o _ ho hn g (cD hb)];exact h3
 exact⟨u,by rw[AK,cell_of_row wF g j arr ty (0,0) hF];exact h7,xo (h6 u h9)⟩
theorem ab7{xs:List SC}{o:Nat}(h:G1 xs=some o):xs=[.ptr o 0]:=by
 unfold G1 at h;split at h
 ·cases h;rfl
 ·cases h
theorem ab8{hid:List Nat}{wF:World}(h:St C σ mu a w)(hw:HidW C σ mu w hid wF){o o2:Nat}{xs:List SC}(ho:σ.H o=some (some (.box [.ptr o2 0])))(hn:cE o hid=true)(ho2:σ.H o2=some (some (.box xs)))(hn2:cE o2 hid=true){ds:List FC}(hl:ds.length=xs.length)
  (hds:∀(x:Nat) (d:FC),ds[x]?=some d->∃c,xs[x]?=some c/\∀v,ai (σ.env C.wF mu) c v->gw wF [] (hid.map mu) (hid.map (fE σ)) 0 (0+x) d v)
  {v:Value}(hv:ai (σ.env C.wF mu) (.ptr o 0) v):∃b off b2 off2,v=.pointer (some ⟨b,off,none⟩)/\wF.cell? ⟨b,off,none⟩=some (.pointer (some ⟨b2,off2,none⟩))/\∀(j:Nat) (d:FC),ds[j]?=some d->∃u,wF.cell? ⟨b2,off2+j,none⟩=some u/\bp wF u d:=by
 obtain⟨_,b,hb,rfl⟩:=aP ho hv;obtain⟨g,arr,ty,h1,h2,h3,h4⟩:=kM h ho;have hgb:g=b:=by rw[State.env,h1]at hb;simpa[ac]using hb
 subst hgb;obtain⟨u,h7,h8,h9⟩:=h4.2 0 (.ptr o2 0) rfl;obtain⟨b2,off2,rfl,h10⟩:=Id h hw ho2 hn2 hl hds h9;have hF:wF.heap[g]?=some (.cells arr ty (0,0)):=by rw[hw.own o _ ho hn g (cD hb)];exact h3
 exact⟨g,0,b2,off2,rfl,by rw[cell_of_row wF g 0 arr ty (0,0) hF];exact h7,h10⟩
theorem ab9{xs:List SC}{P:Program}{F:FV}(h:G2 xs=some (P,F)):xs=[.fnc P F]:=by
 unfold G2 at h;split at h
 ·cases h;rfl
 ·cases h
theorem ac0{hid:List Nat}{wF:World}(h:St C σ mu a w)(hw:HidW C σ mu w hid wF){o:Nat}{P:Program}{F:FV}(ho:σ.H o=some (some (.box [.fnc P F])))(hn:cE o hid=true)
  {v:Value}(hv:ai (σ.env C.wF mu) (.ptr o 0) v):∃b off u,v=.pointer (some ⟨b,off,none⟩)/\wF.cell? ⟨b,off,none⟩=some u/\gj P wF F u:=by
 obtain⟨_,b,hb,rfl⟩:=aP ho hv;obtain⟨g,arr,ty,h1,h2,h3,h4⟩:=kM h ho;have hgb:g=b:=by rw[State.env,h1]at hb;simpa[ac]using hb
 subst hgb;obtain⟨u,h7,h8,h9⟩:=h4.2 0 (.fnc P F) rfl;have hF:wF.heap[g]?=some (.cells arr ty (0,0)):=by rw[hw.own o _ ho hn g (cD hb)];exact h3
 exact⟨g,0,u,rfl,by rw[cell_of_row wF g 0 arr ty (0,0) hF];exact h7,gj.mono (fun p u hp=>hw.old p u hp) h9⟩
theorem re{α:Type}{hid:List Nat}{wF:World}(h:St C σ mu a w)(hw:HidW C σ mu w hid wF) :
  ∀(cs:List SC) (K:List AD->Rd α) (r:α) (_:(jV C.P hid cs K).run σ=some r),
  ∃ds,(K ds).run σ=some r/\ds.length=cs.length/\∀(x:Nat) (d:AD),ds[x]?=some d->∃c,cs[x]?=some c/\∀i v,ai (σ.env C.wF mu) c v->dh C.P wF [] [] [] i d v
 | [],K,r,hr=>⟨[],hr,rfl,fun x d h=>by simp at h⟩
 |c::cs,K,r,hr=>by
  have plain:∀K':List AD->Rd α,(kJ hid none c fun d=>jV C.P hid cs fun r=>K' (.c d::r)).run σ=some r ->
    ∃ds,(K' ds).run σ=some r/\ds.length=(c::cs).length/\∀(x:Nat) (d:AD),ds[x]?=some d->∃c',(c::cs)[x]?=some c'/\∀i v,ai (σ.env C.wF mu) c' v->dh C.P wF [] [] [] i d v:=fun K' hr=>by
   obtain⟨d,hr2,h1⟩:=xn h hw (by simp) hr
   obtain⟨ds,h2,h3,h4⟩:=re h hw cs _ r hr2;refine⟨.c d::ds,h2,by simp[h3],fun x d' hx=>?_⟩
   cases x with
   |zero=>simp at hx;subst hx;exact⟨c,rfl,fun i v hv=>h1 v hv⟩
   |succ x=>exact h4 x d' (by simpa using hx)
  unfold jV at hr;split at hr
  ·rename_i o
   unfold eh at hr;split at hr
   ·rename_i hn
    obtain⟨ob,ho,hr2⟩:=aZ hr;cases ob with
    |box xs =>
     simp only at hr2;split at hr2
     ·rename_i o2 hne
      have hne:=ab7 hne
      subst hne;split at hr2
      ·rename_i hn2
       obtain⟨ob2,ho2,hr2⟩:=aZ hr2;cases ob2 with
       |box ys =>
        obtain⟨dsx,hr3,h1,h2⟩:=nu h hw ys 0 [] _ r (fun x c _ y hy=>by simp[bY]at hy) hr2
        obtain⟨ds,h5,h3,h4⟩:=re h hw cs _ r hr3;refine⟨.bb dsx::ds,h5,by simp[h3],fun x d' hx=>?_⟩
        cases x with
        |zero=>simp at hx;subst hx;exact⟨_,rfl,fun i v hv=>ab8 h hw ho hn ho2 hn2 h1 h2 hv⟩
        |succ x=>exact h4 x d' (by simpa using hx)
       |_=>simp[Rd.run]at hr2
      ·simp[Rd.run]at hr2
     split at hr2
     ·rename_i P' F hfn
      have hfn:=ab9 hfn
      subst hfn;obtain⟨ds,h5,h3,h4⟩:=re h hw cs _ r hr2;refine⟨.bf P' F::ds,h5,by simp[h3],fun x d' hx=>?_⟩
      cases x with
      |zero=>simp at hx;subst hx;exact⟨_,rfl,fun i v hv=>ac0 h hw ho hn hv⟩
      |succ x=>exact h4 x d' (by simpa using hx)
     obtain⟨dsx,hr3,h1,h2⟩:=nu h hw xs 0 [] _ r (fun x c _ y hy=>by simp[bY]at hy) hr2
     obtain⟨ds,h5,h3,h4⟩:=re h hw cs _ r hr3;refine⟨.box dsx::ds,h5,by simp[h3],fun x d' hx=>?_⟩
     cases x with
     |zero=>simp at hx;subst hx;exact⟨_,rfl,fun i v hv=>Id h hw ho hn h1 h2 hv⟩
     |succ x=>exact h4 x d' (by simpa using hx)
    |_=>simp[Rd.run]at hr2
   ·simp[Rd.run]at hr
  ·exact plain K hr
theorem PY{P:Program}{wF wG:World}(hk:bJ wF wG){i:Nat}{d:AD}{v:Value}(h:dh P wF [] [] [] i d v):dh P wG [] [] [] i d v:=by
 have hcell:∀{j d u},gw wF [] [] [] i j d u->gw wG [] [] [] i j d u:=fun {j d u} h=>⟨h.1,(xo h).mono hk⟩
 cases d with
 |c d=>exact hcell (j:=0) h
 |agg cs =>
  obtain⟨arr,rfl,h1,h2⟩:=h;exact⟨arr,rfl,h1,fun j d hj=>let⟨u,h3,h4⟩:=h2 j d hj;⟨u,h3,hcell h4⟩⟩
 |box cs =>
  obtain⟨b,off,rfl,h1⟩:=h;exact⟨b,off,rfl,fun j d hj=>let⟨u,h3,h4⟩:=h1 j d hj;⟨u,hk _ _ h3,h4.mono hk⟩⟩
 |bb cs =>
  obtain⟨b,off,b2,off2,rfl,h0,h1⟩:=h;exact⟨b,off,b2,off2,rfl,hk _ _ h0,fun j d hj=>let⟨u,h3,h4⟩:=h1 j d hj;⟨u,hk _ _ h3,h4.mono hk⟩⟩
 |bf P' F =>
  obtain⟨b,off,u,rfl,h0,h1⟩:=h;exact⟨b,off,u,rfl,hk _ _ h0,gj.mono hk h1⟩
 |fv F =>
  obtain⟨f,caps,fn,h1,h2,h3,h4,h5⟩:=h;exact⟨f,caps,fn,h1,h2,h3,h4,fun w us ds q c hk'=>h5 w us ds q c (fun p u hp=>hk' p u (hk p u hp))⟩
 |fvs F s=>exact(show False from h).elim
 |cut off n d=>exact(show False from h).elim
 |ma x=>exact(show False from h).elim
theorem ac1{wF:World}{f:FuncId}{ct:List AD->Option Post}(hf:Fits C.P f ⟨[],ct⟩){cds:List AD}{arr:Array Value}(hl:arr.size=cds.length)
  (hc:∀(x:Nat) (d:AD),cds[x]?=some d->∃u,arr[x]?=some u/\∀i,dh C.P wF [] [] [] i d u){w:World}(hk:bJ wF w){us:List Value}{ds:List FC}(hlen:us.length=ds.length)
  (hus:∀(i:Nat) (d:FC),ds[i]?=some d->∃u,us[i]?=some u/\u.oneCell'=true/\bp w u d){pre:Prop}{rc:RC}(hp:ct (ds.map .c++cds)=some ⟨pre,.c rc,[]⟩)(hq:pre){c:SC}(hrc:jp rc=some c) :
  Calls C.P f (us.toArray++arr) w fun e w'=>e=.returned (wj c)/\Below w.heap.size w w'/\w.drawn<=w'.drawn:=by
 have:=hf.run w w (us++arr.toList) (ds.map .c++cds) _ [] [] hp hq (by simp[hl,hlen]) rfl rfl rfl (by simp) (by simp) (by simp) (fun q u hqu=>⟨hqu,by simp⟩) (fun i d' hi=>by
  by_cases ψ:i<ds.length
  ·rw[Am (by simpa using ψ),Aj]at hi
   cases hd:ds[i]? with
   |none=>rw[hd]at hi;cases hi
   |some d =>
    rw[hd]at hi;simp at hi
    subst hi;obtain⟨u,h1,h2,h3⟩:=hus i d hd;exact⟨u,by rw[Am (by omega)];exact h1,h2,h3⟩
  ·rw[Aq (by simpa using C7 ψ)]at hi
   obtain⟨u,h1,h2⟩:=hc _ d' hi;refine⟨u,?_,PY hk (h2 _)⟩
   rw[Aq (by omega),hlen]
   simpa using h1)
 rw[show(us++arr.toList).toArray=us.toArray++arr by simp]at this
 refine this.mono ?_
 rintro e w' ⟨v',ms',img,wG,rfl,haft,_,_,_,hret⟩
 refine⟨?_,haft.below,haft.os.drawn⟩
 have h1:=hret.val
 cases rc<;>simp only[jp,reduceCtorEq,AC]at hrc<;>subst hrc
 ·rw[show v'=_ from h1];rfl
 ·rw[show v'=_ from h1];rfl
theorem ac2{wF:World}{f:FuncId}{ct:List AD->Option Post}(hf:Fits C.P f ⟨[],ct⟩){cds:List AD}{arr:Array Value}(hl:arr.size=cds.length)
  (hc:∀(x:Nat) (d:AD),cds[x]?=some d->∃u,arr[x]?=some u/\∀i,dh C.P wF [] [] [] i d u){w:World}(hk:bJ wF w){us:List Value}{ds:List FC}(hlen:us.length=ds.length)
  (hus:∀(i:Nat) (d:FC),ds[i]?=some d->∃u,us[i]?=some u/\u.oneCell'=true/\bp w u d){pre:Prop}{x y:Int}(hp:ct (ds.map .c++cds)=some ⟨pre,.tup [.inl (.int .i64 x),.inl (.int .i64 y)],[]⟩)(hq:pre) :
  Calls C.P f (us.toArray++arr) w fun e w'=>e=.returned (wj (.pr x y))/\Below w.heap.size w w'/\w.drawn<=w'.drawn:=by
 have:=hf.run w w (us++arr.toList) (ds.map .c++cds) _ [] [] hp hq (by simp[hl,hlen]) rfl rfl rfl (by simp) (by simp) (by simp) (fun q u hqu=>⟨hqu,by simp⟩) (fun i d' hi=>by
  by_cases ψ:i<ds.length
  ·rw[Am (by simpa using ψ),Aj]at hi
   cases hd:ds[i]? with
   |none=>rw[hd]at hi;cases hi
   |some d =>
    rw[hd]at hi;simp at hi
    subst hi;obtain⟨u,h1,h2,h3⟩:=hus i d hd;exact⟨u,by rw[Am (by omega)];exact h1,h2,h3⟩
  ·rw[Aq (by simpa using C7 ψ)]at hi
   obtain⟨u,h1,h2⟩:=hc _ d' hi;refine⟨u,?_,PY hk (h2 _)⟩
   rw[Aq (by omega),hlen]
   simpa using h1)
 rw[show(us++arr.toList).toArray=us.toArray++arr by simp]at this
 refine this.mono ?_
 rintro e w' ⟨v',ms',img,wG,rfl,haft,_,_,_,hret⟩
 refine⟨?_,haft.below,haft.os.drawn⟩
 obtain⟨arr2,rfl,hsz,hel⟩:=hret.val;obtain⟨u0,g0,r0⟩:=hel 0 _ rfl;obtain⟨u1,g1,r1⟩:=hel 1 _ rfl;have r0:u0=.int .i64 x:=r0
 have r1:u1=.int .i64 y:=r1
 subst r0 r1;have:arr2=#[.int .i64 x,.int .i64 y]:=by
  apply B6
  intro i
  match i with
  |0=>rw[g0];rfl
  |1=>rw[g1];rfl
  |i+2 =>
   have e:arr2.size=2:=hsz
   rw[BD (by omega)];rfl
 rw[this];rfl
theorem rg{o:Option Post}(h:mR o):∃pre b,o=some ⟨pre,.c (.bool b),[]⟩/\pre/\oN o=b:=by
 unfold mR at h;split at h
 ·exact⟨_,_,rfl,h,rfl⟩
 ·exact h.elim
theorem Ie{o:Option Post}(h:jU o):∃pre n,o=some ⟨pre,.c (.int .i64 n),[]⟩/\pre/\kK o=n:=by
 unfold jU at h;split at h
 ·exact⟨_,_,rfl,h,rfl⟩
 ·exact h.elim
theorem PZ{ds:List FC}{x:Int}(h:wg ds=some x):ds=[.int .i64 x]:=by
 unfold wg at h;split at h
 ·cases h;rfl
 ·cases h
theorem ac3{ds:List FC}{x:Db}(h:Gj ds=some x):ds=[.ints .i64 x]:=by
 unfold Gj at h;split at h
 ·cases h;rfl
 ·cases h
theorem ac4{ds:List FC}{x:Dc}(h:Gk ds=some x):ds=[.rows .i64 x]:=by
 unfold Gk at h;split at h
 ·cases h;rfl
 ·cases h
theorem If{ds:List FC}{x y:Int}(h:qr ds=some (x,y)):ds=[.int .i64 x,.int .i64 y]:=by
 unfold qr at h;split at h
 ·cases h;rfl
 ·cases h
theorem P2{ds:List FC}{x y:Db}(h:wh ds=some (x,y)):ds=[.ints .i64 x,.ints .i64 y]:=by
 unfold wh at h;split at h
 ·cases h;rfl
 ·cases h
theorem ac5{o:Option Post}(h:qG o):∃pre x y,o=some ⟨pre,.tup [.inl (.int .i64 x),.inl (.int .i64 y)],[]⟩/\pre/\mS o=(x,y):=by
 unfold qG at h;split at h
 ·exact⟨_,_,_,rfl,h,rfl⟩
 ·exact h.elim
theorem ac6{ps rs:List Nat}{ct:List AD->Option Post}{cds:List AD}{F:FV}(h:G0 ps rs ct cds=some F){ds:List FC}{q:Prop}{c:SC}(hat:F.at ds=some (q,c))(hq:q) :
  (∃pre rc,ct (ds.map .c++cds)=some ⟨pre,.c rc,[]⟩/\pre/\jp rc=some c)\/∃pre x y,ct (ds.map .c++cds)=some ⟨pre,.tup [.inl (.int .i64 x),.inl (.int .i64 y)],[]⟩/\pre/\c=.pr x y:=by
 unfold G0 at h;split at h
 ·cases h
  simp only[FV.at]at hat;split at hat
  ·rename_i hin
   obtain rfl:=PZ hin;cases hat;obtain⟨pre,b,h1,h2,h3⟩:=rg hq;exact .inl ⟨pre,_,h1,h2,by simp only[jp];rw[h3]⟩
  ·cases hat
 ·cases h
  simp only[FV.at]at hat;split at hat
  ·rename_i hin
   obtain rfl:=ac3 hin;cases hat;obtain⟨pre,b,h1,h2,h3⟩:=rg hq;exact .inl ⟨pre,_,h1,h2,by simp only[jp];rw[h3]⟩
  ·cases hat
 ·cases h
  simp only[FV.at]at hat;split at hat
  ·rename_i hin
   obtain rfl:=If hin;cases hat;obtain⟨pre,b,h1,h2,h3⟩:=Ie hq;exact .inl ⟨pre,_,h1,h2,by simp only[jp];rw[h3]⟩
  ·cases hat
 ·cases h
  simp only[FV.at]at hat;split at hat
  ·rename_i hin
   obtain rfl:=If hin;cases hat;obtain⟨pre,b,h1,h2,h3⟩:=rg hq;exact .inl ⟨pre,_,h1,h2,by simp only[jp];rw[h3]⟩
  ·cases hat
 ·cases h
  simp only[FV.at]at hat;split at hat
  ·rename_i hin
   obtain rfl:=P2 hin;cases hat;obtain⟨pre,b,h1,h2,h3⟩:=Ie hq;exact .inl ⟨pre,_,h1,h2,by simp only[jp];rw[h3]⟩
  ·cases hat
 ·cases h
  simp only[FV.at]at hat;split at hat
  ·rename_i hin
   obtain rfl:=P2 hin;cases hat;obtain⟨pre,b,h1,h2,h3⟩:=rg hq;exact .inl ⟨pre,_,h1,h2,by simp only[jp];rw[h3]⟩
  ·cases hat
 ·cases h
  simp only[FV.at]at hat;split at hat
  ·rename_i hin
   obtain rfl:=ac4 hin;cases hat;obtain⟨pre,b,h1,h2,h3⟩:=rg hq;exact .inl ⟨pre,_,h1,h2,by simp only[jp];rw[h3]⟩
  ·cases hat
 ·cases h
  simp only[FV.at]at hat;split at hat
  ·rename_i hin
   obtain rfl:=If hin;cases hat;obtain⟨pre,x,y,h1,h2,h3⟩:=ac5 hq;exact .inr ⟨pre,_,_,h1,h2,by rw[h3]⟩
  ·cases hat
 ·cases h
  simp only[FV.at]at hat;split at hat
  ·rename_i hin
   obtain rfl:=PZ hin;cases hat;obtain⟨pre,b,h1,h2,h3⟩:=Ie hq;exact .inl ⟨pre,_,h1,h2,by simp only[jp];rw[h3]⟩
  ·cases hat
 ·cases h
theorem ac7{F:FV}{ds:List FC}{q:Prop}{c:SC}(h:F.at ds=some (q,c))(E:Env):ai E c (wj c):=by
 unfold FV.at at h;split at h<;>split at h<;>first|(cases h;rfl)|cases h
def di(P:Program)(Γ:FuncId->Option Ctr):Prop:=∀f c,Γ f=some c->Fits P f c
theorem ac8{f:FuncId}{c:Ctr}(h:Fits C.P f c):∃fn,C.P.funcs[f]?=some fn/\fn.body.isSome=true/\fn.name≠"runtime.NumGoroutine":=by
 obtain⟨fn,h1,h2,h3⟩:=h.fn;exact⟨fn,h1,h2,fun hc=>by rw[hc]at h3;cases h3⟩
theorem ac9{α:Type}{Γ:FuncId->Option Ctr}(hΓ:di C.P Γ){hid:List Nat}{wF:World}(h:St C σ mu a w)(hw:HidW C σ mu w hid wF){mt:List (Nat×Nat)}{i:Nat}{t:TypeId}{sv:SV}
  (hmut:∀x j,bY mt i j=some x->∃o cs,hid[x]?=some o/\jR sv=some cs/\cs[j]?=some (.own o)){K:AD->Rd α}{r:α}(hr:(oO C.P Γ hid mt i t sv K).run σ=some r) :
  ∃d,(K d).run σ=some r/\∀v,aw C.P (σ.env C.wF mu) sv v->dh C.P wF mt (hid.map mu) (hid.map (fE σ)) i d v:=by
 unfold oO at hr;split at hr
 ·rename_i c
  have hcm:∀x,bY mt i 0=some x->∃o,hid[x]?=some o/\c=.own o:=fun x hx=>by
   obtain⟨o,cs,h1,h2,h3⟩:=hmut x 0 hx;refine⟨o,h1,?_⟩
   simp only[jR]at h2;split at h2
   ·cases h2;simpa using h3
   ·cases h2
  have hm0:(∀o,c≠.own o)->bY mt i 0=none:=fun hc=>by
   cases hx:bY mt i 0 with
   |none=>rfl
   |some x=>obtain⟨o,_,h2⟩:=hcm x hx;exact absurd h2 (hc o)
  split at hr
  ·rename_i o x
   split at hr
   ·unfold eh at hr
    split at hr
    ·rename_i hn
     obtain⟨ob,ho,hr2⟩:=aZ hr;cases ob with
     |box xs =>
      obtain⟨dsx,hr3,h1,h2⟩:=nu h hw xs 0 _ _ r (fun x c _ y hy=>by simp[bY]at hy) hr2
      exact⟨_,hr3,fun v hv=>by simp only[dh,hm0 (by simp)];exact Id h hw ho hn h1 h2 hv⟩
     |_=>simp[Rd.run]at hr2
    ·simp[Rd.run]at hr
   ·simp[Rd.run]at hr
  ·rename_i cs x
   split at hr
   ·refine⟨_,hr,fun v hv=>?_⟩
    obtain⟨b,off,rfl,hc⟩:=hv;simp only[dh,hm0 (by simp)]
    exact⟨b,off,rfl,fun j d hj=>by
     obtain⟨u,h1,h2⟩:=hc j d (by simpa using hj)
     exact⟨u,hw.old _ _ h1,h2.mono hw.old⟩⟩
   ·simp[Rd.run]at hr
  ·obtain⟨d,h1,h2⟩:=PX h hw (fun d hd w=>pa hd w) hcm hr
   exact⟨_,h1,h2⟩
 ·rename_i cs
  obtain⟨ds,h1,h2,h3⟩:=nu h hw cs 0 _ _ r (fun x c hx y hy=>by
   rw[AK]at hy;obtain⟨o,cs',h4,h5,h6⟩:=hmut y x hy;cases h5;exact⟨o,h4,BE (hx.symm.trans h6)⟩) hr
  refine⟨_,h1,fun v hv=>?_⟩
  obtain⟨arr,rfl,h4,h5⟩:=hv;refine⟨arr,rfl,by rw[h4,h2],fun j d hj=>?_⟩
  obtain⟨c,h6,h7⟩:=h3 j d hj;obtain⟨u,h8,_,h9⟩:=h5 j c h6;exact⟨u,h8,by have:=h7 u h9;rwa[AK]at this⟩
 ·exact⟨_,hr,fun v hv=>by
   obtain⟨f,caps,fn,h1,h2,h3,h4,h5⟩:=hv;exact⟨f,caps,fn,h1,h2,h3,h4,fun w us ds q c hk=>h5 w us ds q c (fun p u hp=>hk p u (hw.old p u hp))⟩⟩
 ·rename_i f caps
  split at hr
  ·split at hr
   ·simp[Rd.run]at hr
   ·rename_i ct hct
    have hf:=hΓ f _ hct
    obtain⟨fn,hfn1,hfn2,hfn3⟩:=ac8 hf;obtain⟨cds,hr2,h1,h2⟩:=re h hw caps _ r hr;have hcaps:∀arr,c9 (σ.env C.wF mu) caps arr->arr.size=cds.length/\∀(x:Nat) (d:AD),cds[x]?=some d->∃u,arr[x]?=some u/\∀i,dh C.P wF [] [] [] i d u:=fun arr χ=>by
     refine⟨by rw[χ.1,h1],fun x d hx=>?_⟩
     obtain⟨c,h3,h4⟩:=h2 x d hx;obtain⟨u,h5,_,h6⟩:=χ.2 x c h3;exact⟨u,h5,fun i=>h4 i u h6⟩
    split at hr2
    ·rename_i F hF
     refine⟨_,hr2,fun v hv=>?_⟩
     obtain⟨arr,rfl,χ⟩:=hv;obtain⟨h3,h4⟩:=hcaps arr χ;refine⟨f,arr,fn,rfl,hfn1,hfn2,hfn3,fun w us ds q c hk hat hq hlen hus=>?_⟩
     rcases ac6 hF hat hq with⟨pre,rc,k1,k2,k3⟩|⟨pre,x,y,k1,k2,rfl⟩
     ·exact ac1 hf h3 h4 hk hlen hus k1 k2 k3
     ·exact ac2 hf h3 h4 hk hlen hus k1 k2
    ·simp[Rd.run]at hr2
   ·simp[Rd.run]at hr
  ·simp[Rd.run]at hr
 ·simp[Rd.run]at hr
 ·simp[Rd.run]at hr
theorem Ig{α:Type}{Γ:FuncId->Option Ctr}(hΓ:di C.P Γ){hid:List Nat}{wF:World}(h:St C σ mu a w)(hw:HidW C σ mu w hid wF){mt:List (Nat×Nat)} :
  ∀(svs:List SV) (i:Nat) (ts:List TypeId) (K:List AD->Rd α) (r:α)
   (_:∀(y:Nat) (sv:SV),svs[y]?=some sv->∀x j,bY mt (i+y) j=some x->∃o cs,hid[x]?=some o/\jR sv=some cs/\cs[j]?=some (.own o)) (_:(jW C.P Γ hid mt i svs ts K).run σ=some r),
  ∃ds,(K ds).run σ=some r/\ds.length=svs.length/\∀(y:Nat) (d:AD),ds[y]?=some d->∃sv,svs[y]?=some sv/\∀v,aw C.P (σ.env C.wF mu) sv v->dh C.P wF mt (hid.map mu) (hid.map (fE σ)) (i+y) d v
 | [],i,ts,K,r,_,hr=>⟨[],hr,rfl,fun x d h=>by simp at h⟩
 |sv::svs,i,ts,K,r,hm,hr=>by
  simp only[jW]at hr;obtain⟨d,hr2,h1⟩:=ac9 hΓ h hw (hm 0 sv rfl) hr;obtain⟨ds,h2,h3,h4⟩:=Ig hΓ h hw svs (i+1) _ _ r (fun y sv hy x j hx=>hm (y+1) sv (by simpa using hy) x j (by rw[<-hx];congr 1;omega)) hr2
  refine⟨d::ds,h2,by simp[h3],fun y d' hy=>?_⟩
  cases y with
  |zero=>simp at hy;subst hy;exact⟨sv,rfl,h1⟩
  |succ y =>
   obtain⟨sv',h5,h6⟩:=h4 y d' (by simpa using hy)
   exact⟨sv',by simpa using h5,fun v hv=>by rw[show i+(y+1)=i+1+y by omega];exact h6 v hv⟩
theorem P3{α:Type}{hid:List Nat}{nl:Option FC}{c:SC}{K:FC->Rd α}{r:α}(hr:(kJ hid nl c K).run σ=some r):∃d,(K d).run σ=some r:=by
 have hob:∀{o:Nat} {K':Ob->Rd α},(eh hid o K').run σ=some r->∃ob,(K' ob).run σ=some r:=fun {o K'} hr=>by
  unfold eh at hr;split at hr
  ·obtain⟨ob,_,hr2⟩:=aZ hr;exact⟨ob,hr2⟩
  ·simp[Rd.run]at hr
 unfold kJ at hr;split at hr
 ·exact⟨_,hr⟩
 ·exact⟨_,hr⟩
 ·exact⟨_,hr⟩
 ·cases nl with
  |none=>simp[Rd.run]at hr
  |some d=>exact⟨d,hr⟩
 ·obtain⟨ob,hr2⟩:=hob hr
  split at hr2
  ·exact⟨_,hr2⟩
  ·split at hr2
   ·exact⟨_,hr2⟩
   ·simp[Rd.run]at hr2
 ·obtain⟨ob,hr2⟩:=hob hr
  split at hr2
  ·split at hr2
   ·exact⟨_,hr2⟩
   ·simp[Rd.run]at hr2
  ·simp[Rd.run]at hr2
 ·obtain⟨ob,hr2⟩:=hob hr
  split at hr2
  ·split at hr2
   ·exact⟨_,hr2⟩
   ·simp[Rd.run]at hr2
  ·simp[Rd.run]at hr2
 ·obtain⟨ob,hr2⟩:=hob hr
  split at hr2
  ·split at hr2
   ·exact⟨_,hr2⟩
   ·simp[Rd.run]at hr2
  ·simp[Rd.run]at hr2
 ·obtain⟨ob,hr2⟩:=hob hr
  split at hr2
  ·split at hr2
   ·split at hr2
    ·exact⟨_,hr2⟩
    ·simp[Rd.run]at hr2
   ·simp[Rd.run]at hr2
  ·simp[Rd.run]at hr2
 ·exact⟨_,hr⟩
 ·exact⟨_,hr⟩
 ·obtain⟨ob,hr2⟩:=hob hr
  split at hr2
  ·split at hr2
   ·exact⟨_,hr2⟩
   ·simp[Rd.run]at hr2
  ·simp[Rd.run]at hr2
 ·simp[Rd.run]at hr
theorem P4{α:Type}{hid:List Nat}{mt:List (Nat×Nat)}{i j:Nat}{nl:Option FC}{c:SC}{K:FC->Rd α}{r:α}(hr:(oM hid mt i j nl c K).run σ=some r):∃d,(K d).run σ=some r:=by
 unfold oM at hr;split at hr
 ·unfold GY at hr
  split at hr
  ·obtain⟨ob,_,hr2⟩:=aZ hr
   split at hr2
   ·exact⟨_,hr2⟩
   ·simp[Rd.run]at hr2
  ·simp[Rd.run]at hr
 ·exact P3 hr
theorem rh{α:Type}{P:Program}{hid:List Nat}{mt:List (Nat×Nat)}{i:Nat}:∀{cs:List SC} {j:Nat} {ts:List TypeId} {K:List FC->Rd α} {r:α},(jT P hid mt i j cs ts K).run σ=some r->∃d,(K d).run σ=some r
 | [],j,ts,K,r,hr=>⟨[],hr⟩
 |c::cs,j,ts,K,r,hr=>by
  obtain⟨d,hr2⟩:=P4 hr;obtain⟨ds,hr3⟩:=rh hr2;exact⟨_,hr3⟩
theorem rk{α:Type}{P:Program}{hid:List Nat}:∀{cs:List SC} {K:List AD->Rd α} {r:α},(jV P hid cs K).run σ=some r->∃d,(K d).run σ=some r
 | [],K,r,hr=>⟨[],hr⟩
 |c::cs,K,r,hr=>by
  unfold jV at hr;split at hr
  ·unfold eh at hr
   split at hr
   ·obtain⟨ob,_,hr2⟩:=aZ hr
    cases ob with
    |box xs =>
     simp only at hr2;split at hr2
     ·skip
      split at hr2
      ·obtain⟨ob2,_,hr2⟩:=aZ hr2
       cases ob2 with
       |box ys =>
        obtain⟨d,hr3⟩:=rh hr2;obtain⟨ds,hr4⟩:=rk hr3;exact⟨_,hr4⟩
       |_=>simp[Rd.run]at hr2
      ·simp[Rd.run]at hr2
     split at hr2
     ·obtain⟨ds,hr4⟩:=rk hr2
      exact⟨_,hr4⟩
     obtain⟨d,hr3⟩:=rh hr2;obtain⟨ds,hr4⟩:=rk hr3;exact⟨_,hr4⟩
    |_=>simp[Rd.run]at hr2
   ·simp[Rd.run]at hr
  ·obtain⟨d,hr3⟩:=P3 hr
   obtain⟨ds,hr4⟩:=rk hr3;exact⟨_,hr4⟩
theorem P5{α:Type}{P:Program}{Γ:FuncId->Option Ctr}{hid:List Nat}{mt:List (Nat×Nat)}{i:Nat}{t:TypeId}{sv:SV}{K:AD->Rd α}{r:α}(hr:(oO P Γ hid mt i t sv K).run σ=some r) :
  ∃d,(K d).run σ=some r:=by
 unfold oO at hr;split at hr
 ·split at hr
  ·split at hr
   ·unfold eh at hr
    split at hr
    ·obtain⟨ob,_,hr2⟩:=aZ hr
     cases ob with
     |box xs=>obtain⟨d,hr3⟩:=rh hr2;exact⟨_,hr3⟩
     |_=>simp[Rd.run]at hr2
    ·simp[Rd.run]at hr
   ·simp[Rd.run]at hr
  ·split at hr
   ·exact⟨_,hr⟩
   ·simp[Rd.run]at hr
  ·obtain⟨d,hr3⟩:=P4 hr;exact⟨_,hr3⟩
 ·obtain⟨d,hr3⟩:=rh hr;exact⟨_,hr3⟩
 ·exact⟨_,hr⟩
 ·split at hr
  ·split at hr
   ·simp[Rd.run]at hr
   ·obtain⟨cds,hr2⟩:=rk hr
    split at hr2
    ·exact⟨_,hr2⟩
    ·simp[Rd.run]at hr2
   ·simp[Rd.run]at hr
  ·simp[Rd.run]at hr
 ·simp[Rd.run]at hr
 ·simp[Rd.run]at hr
def jx(E:Env)(fs:List (Nat×Option Ob)):Prop:=∀o d,(o,some (.frz d))∈fs->E.st o=.frz d
theorem jx.left{E:Env}{fs gs:List (Nat×Option Ob)}(h:jx E (fs++gs)):jx E fs:=fun o d hm=>h o d (BF _ hm)
theorem jx.right{E:Env}{fs gs:List (Nat×Option Ob)}(h:jx E (fs++gs)):jx E gs:=fun o d hm=>h o d (BG _ hm)
theorem ad0{fs:List (Nat×Option Ob)}(hf:gu σ fs)(wG:World)(mu1:Nat->Img):jx ((State.mk σ.fr (fs++σ.hp)).env wG mu1) fs:=fun o d hm=>by
 have:lk fs o≠none:=fun hc=>by
  have key:∀{l:List (Nat×Option Ob)} {x:Option Ob},(o,x)∈l->lk l o≠none:=fun {l x}=>by
   induction l with
   |nil=>intro h;simp at h
   |cons z l ih =>
    intro h
    obtain⟨k,v⟩:=z;rw[bt];split
    ·simp
    ·rename_i hk
     rcases AH.1 h with h|h
     ·cases h;exact absurd rfl hk
     ·exact ih h
  exact key hm hc
 cases hl:lk fs o with
 |none=>exact absurd hl this
 |some y =>
  obtain⟨ob,d1,q1,q2,q3⟩:=hf o _ hm;obtain⟨ob',d2,r1,r2,r3⟩:=hf o y (qW hl);rw[q1]at r1;cases r1;rw[q2]at r2;cases r2;cases q3;subst r3;exact fD (by simp only[State.H,gt,hl])
theorem P6{α:Type}{hid:List Nat}(_h:St C σ mu a w){nl:Option FC}(hnl:∀d,nl=some d->∀w,bp w (.slice none 0 0) d){c:SC}{K:FC->List (Nat×Option Ob)->Rd α}{r:α}(hr:(wE hid nl c K).run σ=some r) :
  ∃d fs,(K d fs).run σ=some r/\gu σ fs/\(∀o x,(o,x)∈fs->o ∉ hid)/\∀v,ai (σ.env C.wF mu) c v->∀E',b7 (σ.env C.wF mu) E'->jx E' fs->v.oneCell'=true/\bp E'.wF v d:=by
 have no:gu σ []:=fun o x hm=>by simp at hm
 have no2:∀o x,(o,x)∈([]:List (Nat×Option Ob))->o ∉ hid:=fun o x hm=>by simp at hm
 have hob:∀{o:Nat} {K':Ob->Rd α},(eh hid o K').run σ=some r->∃ob,σ.H o=some (some ob)/\(K' ob).run σ=some r/\o ∉ hid:=fun {o K'} hr=>by
  unfold eh at hr;split at hr
  ·rename_i hn
   obtain⟨ob,ho,hr2⟩:=aZ hr;exact⟨ob,ho,hr2,jv hn⟩
  ·simp[Rd.run]at hr
 have one:∀{o:Nat} {ob:Ob} {d:FC},σ.H o=some (some ob)->gk ob=some d->o ∉ hid->gu σ [(o,some (.frz d))]/\∀o' x,(o',x)∈[(o,some (Ob.frz d))]->o' ∉ hid:=fun {o ob d} h1 h2 h3 =>
  ⟨fun o' x hm=>by
   simp at hm
   obtain⟨rfl,rfl⟩:=hm;exact⟨ob,d,h1,h2,rfl⟩,fun o' x hm=>by
   simp at hm
   rw[hm.1];exact h3⟩
 unfold wE at hr;split at hr
 ·exact⟨_,_,hr,no,no2,fun v hv E' _ _=>by simp only[ai]at hv;subst hv;exact⟨rfl,rfl⟩⟩
 ·exact⟨_,_,hr,no,no2,fun v hv E' _ _=>by simp only[ai]at hv;subst hv;exact⟨rfl,rfl⟩⟩
 ·exact⟨_,_,hr,no,no2,fun v hv E' _ _=>by simp only[ai]at hv;subst hv;exact⟨rfl,rfl⟩⟩
 ·cases nl with
  |none=>simp[Rd.run]at hr
  |some d=>exact⟨d,_,hr,no,no2,fun v hv E' _ _=>by simp only[ai]at hv;subst hv;exact⟨rfl,hnl d rfl _⟩⟩
 ·exact⟨_,_,hr,no,no2,fun v hv E' hE _=>by
   obtain⟨⟨x,n,c,hv1,_⟩,hv2⟩:=hv;exact⟨by rw[hv1];rfl,hv2.mono hE.1⟩⟩
 ·rename_i o
  obtain⟨ob,ho,hr2,hn⟩:=hob hr;split at hr2
  ·rename_i d hd
   obtain⟨k1,k2⟩:=one ho hd hn;exact⟨d,_,hr2,k1,k2,fun v hv E' hE hf=>by
    have h2:=ai.mono hE hv
    have h3:=h2.2
    rw[hf o d (by simp)]at h3
    exact⟨h2.1,h3.2⟩⟩
  ·simp[Rd.run]at hr2
 ·rename_i o n
  obtain⟨ob,ho,hr2,hn⟩:=hob hr;split at hr2
  ·rename_i d hd
   split at hr2
   ·rename_i d' hd'
    obtain⟨k1,k2⟩:=one ho hd hn;exact⟨d',_,hr2,k1,k2,fun v hv E' hE hf=>by
     have h2:=ai.mono hE hv
     have h3:=h2.2
     rw[hf o d (by simp)]at h3
     obtain⟨d'',e1,e2⟩:=h3;rw[hd']at e1;cases e1;exact⟨h2.1,e2.2⟩⟩
   ·simp[Rd.run]at hr2
  ·simp[Rd.run]at hr2
 ·rename_i o off n
  obtain⟨ob,ho,hr2,hn⟩:=hob hr;split at hr2
  ·rename_i d hd
   split at hr2
   ·rename_i d' hd'
    obtain⟨k1,k2⟩:=one ho hd hn;exact⟨d',_,hr2,k1,k2,fun v hv E' hE hf=>by
     have h2:=ai.mono hE hv
     have h3:=h2.2
     rw[hf o d (by simp)]at h3
     obtain⟨d'',e1,e2⟩:=h3;rw[hd']at e1;cases e1;exact⟨h2.1,e2.2⟩⟩
   ·simp[Rd.run]at hr2
  ·simp[Rd.run]at hr2
 ·simp[Rd.run]at hr
theorem P7{α:Type}{hid:List Nat}(h:St C σ mu a w):∀(cs:List SC) (ts:List TypeId) (K:List FC->List (Nat×Option Ob)->Rd α) (r:α) (_:(wI C.P hid cs ts K).run σ=some r),
  ∃ds fs,(K ds fs).run σ=some r/\gu σ fs/\(∀o x,(o,x)∈fs->o ∉ hid)/\ds.length=cs.length/\∀(x:Nat) (d:FC),ds[x]?=some d->∃c,cs[x]?=some c/\∀v,ai (σ.env C.wF mu) c v->∀E',b7 (σ.env C.wF mu) E'->jx E' fs->v.oneCell'=true/\bp E'.wF v d
 | [],ts,K,r,hr=>⟨[],[],hr,fun o x hm=>by simp at hm,fun o x hm=>by simp at hm,rfl,fun x d h=>by simp at h⟩
 |c::cs,ts,K,r,hr=>by
  simp only[wI]at hr;obtain⟨d,f0,hr2,k1,k2,k3⟩:=P6 h (fun d hd w=>by
   cases ts with
   |nil=>cases hd
   |cons t ts=>exact pa hd w) hr
  obtain⟨ds,fs,hr3,h1,h2,h3,h4⟩:=P7 h cs ts.tail _ r hr2;refine⟨_,_,hr3,fun o x hm=>(AL.1 hm).elim (k1 o x) (h1 o x),fun o x hm=>(AL.1 hm).elim (k2 o x) (h2 o x),by simp[h3],fun x d' hx=>?_⟩
  cases x with
  |zero=>simp at hx;subst hx;exact⟨c,rfl,fun v hv E' hE hf=>k3 v hv E' hE hf.left⟩
  |succ x =>
   obtain⟨c',h5,h6⟩:=h4 x d' (by simpa using hx)
   exact⟨c',by simpa using h5,fun v hv E' hE hf=>h6 v hv E' hE hf.right⟩
theorem ad1{α:Type}{hid:List Nat}(h:St C σ mu a w){mt:List (Nat×Nat)}{i:Nat}{t:TypeId}{sv:SV}(hmut:∀x j,bY mt i j=some x->∃o c,hid[x]?=some o/\sv=.c c/\c=.own o/\j=0)
  {K:AD->List (Nat×Option Ob)->Rd α}{r:α}(hr:(G4 C.P hid mt i t sv K).run σ=some r) :
  ∃ad fs,(K ad fs).run σ=some r/\gu σ fs/\(∀o x,(o,x)∈fs->o ∉ hid)/\∀v,aw C.P (σ.env C.wF mu) sv v->∀E',b7 (σ.env C.wF mu) E'->jx E' fs->dh C.P E'.wF mt (hid.map mu) (hid.map (fE σ)) i ad v:=by
 unfold G4 at hr;split at hr
 ·rename_i c
  split at hr
  ·rename_i hm
   rw[nt]at hm;cases hx:bY mt i 0 with
   |none=>rw[hx]at hm;cases hm
   |some x =>
    obtain⟨o,c',h1,h2,rfl,_⟩:=hmut x 0 hx;cases h2;obtain⟨ob,hob,hr2⟩:=aZ hr;split at hr2
    ·rename_i d hd
     refine⟨_,_,hr2,fun o x hm=>by simp at hm,fun o x hm=>by simp at hm,fun v hv E' _ _=>⟨hv.1,?_⟩⟩
     rw[hx];have hv':v=(mu o).hd:=aP hob hv (o5 hd)
     exact⟨mu o,ob,by simp[h1],by simp[h1,fE,hob],hv',hd⟩
    ·simp[Rd.run]at hr2
  ·rename_i hm
   obtain⟨d,fs,hr2,k1,k2,k3⟩:=P6 h (fun d hd w=>pa hd w) hr
   refine⟨_,_,hr2,k1,k2,fun v hv E' hE hf=>?_⟩
   obtain⟨h1,h2⟩:=k3 v hv E' hE hf;refine⟨h1,?_⟩
   rw[nt]at hm;cases hx:bY mt i 0 with
   |some x=>rw[hx]at hm;cases hm
   |none=>exact h2
 ·rename_i cs
  have hno:∀j,bY mt i j=none:=fun j=>by
   cases hx:bY mt i j with
   |none=>rfl
   |some x=>obtain⟨_,_,_,h2,_⟩:=hmut x j hx;cases h2
  obtain⟨ds,fs,hr2,k1,k2,k3,k4⟩:=P7 h cs _ _ r hr;refine⟨_,_,hr2,k1,k2,fun v hv E' hE hf=>?_⟩
  obtain⟨arr,rfl,h1,h2⟩:=hv;refine⟨arr,rfl,by rw[h1,k3],fun j d hj=>?_⟩
  obtain⟨c,h3,h4⟩:=k4 j d hj;obtain⟨u,h5,h6,h7⟩:=h2 j c h3;obtain⟨h8,h9⟩:=h4 u h7 E' hE hf;refine⟨u,h5,h8,?_⟩
  rw[hno j];exact h9
 ·exact⟨_,_,hr,fun o x hm=>by simp at hm,fun o x hm=>by simp at hm,fun v hv E' hE _=>gj.mono hE.1 hv⟩
 ·simp[Rd.run]at hr
theorem Ih{α:Type}{hid:List Nat}(h:St C σ mu a w){mt:List (Nat×Nat)}:∀(svs:List SV) (i:Nat) (ts:List TypeId) (K:List AD->List (Nat×Option Ob)->Rd α) (r:α)
      (_:∀(y:Nat) (sv:SV),svs[y]?=some sv->∀x j,bY mt (i+y) j=some x->∃o c,hid[x]?=some o/\sv=.c c/\c=.own o/\j=0) (_:(wJ C.P hid mt i svs ts K).run σ=some r),
  ∃ads fs,(K ads fs).run σ=some r/\gu σ fs/\(∀o x,(o,x)∈fs->o ∉ hid)/\ads.length=svs.length/\∀(y:Nat) (d:AD),ads[y]?=some d->∃sv,svs[y]?=some sv/\∀v,aw C.P (σ.env C.wF mu) sv v ->
   ∀E',b7 (σ.env C.wF mu) E'->jx E' fs->dh C.P E'.wF mt (hid.map mu) (hid.map (fE σ)) (i+y) d v
 | [],i,ts,K,r,_,hr=>⟨[],[],hr,fun o x hm=>by simp at hm,fun o x hm=>by simp at hm,rfl,fun x d h=>by simp at h⟩
 |sv::svs,i,ts,K,r,hm,hr=>by
  simp only[wJ]at hr;obtain⟨ad,f0,hr2,k1,k2,k3⟩:=ad1 h (hm 0 sv rfl) hr;obtain⟨ads,fs,hr3,h1,h2,h3,h4⟩:=Ih h svs (i+1) _ _ r (fun y sv hy x j hx=>hm (y+1) sv (by simpa using hy) x j (by rw[<-hx];congr 1;omega)) hr2
  refine⟨_,_,hr3,fun o x hm=>(AL.1 hm).elim (k1 o x) (h1 o x),fun o x hm=>(AL.1 hm).elim (k2 o x) (h2 o x),by simp[h3],fun y d' hy=>?_⟩
  cases y with
  |zero=>simp at hy;subst hy;exact⟨sv,rfl,fun v hv E' hE hf=>k3 v hv E' hE hf.left⟩
  |succ y =>
   obtain⟨sv',h5,h6⟩:=h4 y d' (by simpa using hy)
   exact⟨sv',by simpa using h5,fun v hv E' hE hf=>by rw[show i+(y+1)=i+1+y by omega];exact h6 v hv E' hE hf.right⟩
end
end Go.Sx
