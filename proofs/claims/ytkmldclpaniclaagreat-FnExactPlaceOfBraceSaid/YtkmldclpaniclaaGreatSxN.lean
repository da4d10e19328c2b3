/- SxN -/
import Derived.Test.YtkmldclpaniclaaGreatSxM
set_option linter.unusedSimpArgs false
set_option linter.unusedVariables false
namespace Go.Sx
open Go.RowKit
theorem iK:∀{mt:List (Nat×Nat)} {i j x:Nat},bP mt i j=some x->mt[x]?=some (i,j)
 | [],_,_,_,h=>by simp[bP]at h
 |(p,q)::l,i,j,x,h=>by
  simp only[bP]at h;split at h
  ·rename_i hc;obtain⟨rfl,rfl⟩:=hc;cases h;rfl
  ·cases hm:bP l i j with
   |none=>simp[hm]at h
   |some y=>simp[hm]at h;subst h;simpa using iK hm
theorem mi:∀(mt:List (Nat×Nat)) (i j:Nat),memP i j mt=(bP mt i j).isSome
 | [],_,_=>rfl
 |(p,q)::l,i,j=>by
  simp only[memP,bP,mi l i j];by_cases h:p=i/\q=j
  ·rw[if_pos h,h.1,h.2];simp
  ·rw[if_neg h]
   have:(Nat.beq p i&&Nat.beq q j)=false:=by
    cases h1:Nat.beq p i<;>cases h2:Nat.beq q j<;>simp
    exact h ⟨Nat.eq_of_beq_eq_true h1,Nat.eq_of_beq_eq_true h2⟩
   rw[this];cases bP l i j<;>rfl
theorem Dd{svs:List SV}:∀{mt:List (Nat×Nat)} {hid:List Nat},nI svs mt=some hid->hid.length=mt.length /\
  ∀(x:Nat) (p:Nat×Nat),mt[x]?=some p->∃o sv cs,hid[x]?=some o/\svs[p.1]?=some sv/\i8 sv=some cs/\cs[p.2]?=some (.own o)
 | [],hid,h=>by simp[nI]at h;subst h;simp
 |(i,j)::mt,hid,h=>by
  simp only[nI]at h;split at h
  ·rename_i sv hsv
   split at h
   ·rename_i cs hcs
    split at h
    ·rename_i o ho
     split at h
     ·rename_i os hos
      cases h;obtain⟨h1,h2⟩:=Dd hos;refine⟨by simp[h1],fun x p hx=>?_⟩
      cases x with
      |zero=>simp at hx;subst hx;exact⟨o,sv,cs,by simp,hsv,hcs,ho⟩
      |succ x=>simpa using h2 x p (by simpa using hx)
     ·cases h
    ·cases h
   ·cases h
  ·cases h
theorem nX{P:Program}{t:TypeId}{d:FC}(h:gz P t=some d)(w:World):bp w (.slice none 0 0) d:=by
 have key:∀(R:Nat->Value->Prop),bw w (.slice none 0 0) 0 R:=fun R=>⟨_,_,rfl,Nat.le_refl _,fun h0=>by omega⟩
 unfold gz at h
 repeat' split at h
 all_goals first|cases h;done|(cases h;exact key _)
section
variable {C:Cx} {σ:State} {mu:Nat->Img} {a:Act} {w w':World}
def fg(σ:State)(o:Nat):Ob :=
 match σ.H o with
 |some (some ob)=>ob
 |_=>.box []
theorem Kv{α:Type}{hid:List Nat}{wF:World}(h:St C σ mu a w)(hw:HidW C σ mu w hid wF){mt:List (Nat×Nat)}{i j:Nat}{nl:Option FC}(hnl:∀d,nl=some d->∀w,bp w (.slice none 0 0) d)
  {c:SC} {K:FC->Rd α} {r:α} (hmut:∀x,bP mt i j=some x->∃o,hid[x]?=some o/\c=.own o) (hr:(nC hid mt i j nl c K).run σ=some r) :
  ∃d,(K d).run σ=some r/\∀v,aj (σ.env C.wF mu) c v->gD wF mt (hid.map mu) (hid.map (fg σ)) i j d v:=by
 unfold nC at hr;rw[mi]at hr;cases hm:bP mt i j with
 |none =>
  rw[hm]at hr;obtain⟨d,h1,h2⟩:=uR h hw hnl hr;refine⟨d,h1,fun v hv=>⟨(h2 v hv).1,?_⟩⟩
  rw[hm];exact(h2 v hv).2
 |some x =>
  rw[hm]at hr;obtain⟨o,ho,rfl⟩:=hmut x hm;obtain⟨ob,hob,hr2⟩:=aX hr;split at hr2
  ·rename_i d hd
   refine⟨d,hr2,fun v hv=>⟨hv.1,?_⟩⟩
   rw[hm];have hv':v=(mu o).hd:=aN hob hv (nU hd)
   exact⟨mu o,ob,by simp[ho],by simp[ho,fg,hob],hv',hd⟩
  ·simp[Rd.run]at hr2
theorem nY{α:Type}{hid:List Nat}{wF:World}(h:St C σ mu a w)(hw:HidW C σ mu w hid wF){mt:List (Nat×Nat)}{i:Nat} :
  ∀(cs:List SC) (j:Nat) (ts:List TypeId) (K:List FC->Rd α) (r:α) (_:∀(x:Nat) (c:SC),cs[x]?=some c->∀y,bP mt i (j+x)=some y->∃o,hid[y]?=some o/\c=.own o)
   (_:(jI C.P hid mt i j cs ts K).run σ=some r),
  ∃ds,(K ds).run σ=some r/\ds.length=cs.length/\∀(x:Nat) (d:FC),ds[x]?=some d->∃c,cs[x]?=some c/\∀v,aj (σ.env C.wF mu) c v->gD wF mt (hid.map mu) (hid.map (fg σ)) i (j+x) d v
 | [],j,ts,K,r,_,hr=>⟨[],hr,rfl,fun x d h=>by simp at h⟩
 |c::cs,j,ts,K,r,hm,hr=>by
  simp only[jI]at hr;obtain⟨d,hr2,h1⟩:=Kv h hw (fun d hd w=>by
   cases ts with
   |nil=>cases hd
   |cons t ts=>exact nX hd w) (hm 0 c rfl) hr
  obtain⟨ds,h2,h3,h4⟩:=nY h hw cs (j+1) ts.tail _ r (fun x c hx y hy=>hm (x+1) c (by simpa using hx) y (by rw[<-hy];congr 1;omega)) hr2
  refine⟨d::ds,h2,by simp[h3],fun x d' hx=>?_⟩
  cases x with
  |zero=>simp at hx;subst hx;exact⟨c,rfl,h1⟩
  |succ x =>
   obtain⟨c',h5,h6⟩:=h4 x d' (by simpa using hx)
   exact⟨c',by simpa using h5,fun v hv=>by rw[show j+(x+1)=j+1+x by omega];exact h6 v hv⟩
theorem De{wF:World}{ms:List Img}{obs:List Ob}{i j:Nat}{d:FC}{v:Value}(h:gD wF [] ms obs i j d v):bp wF v d:=h.2
theorem Df{hid:List Nat}{wF:World}(h:St C σ mu a w)(hw:HidW C σ mu w hid wF){o:Nat}{xs:List SC}(ho:σ.H o=some (some (.box xs)))(hn:cb o hid=true){ds:List FC}(hl:ds.length=xs.length)
  (hds:∀(x:Nat) (d:FC),ds[x]?=some d->∃c,xs[x]?=some c/\∀v,aj (σ.env C.wF mu) c v->gD wF [] (hid.map mu) (hid.map (fg σ)) 0 (0+x) d v)
  {v:Value} (hv:aj (σ.env C.wF mu) (.ptr o 0) v):∃b off,v=.pointer (some ⟨b,off,none⟩)/\∀(j:Nat) (d:FC),ds[j]?=some d->∃u,wF.cell? ⟨b,off+j,none⟩=some u/\bp wF u d:=by
 have _:=hl
 obtain⟨_,b,hb,rfl⟩:=aN ho hv;obtain⟨g,arr,ty,h1,h2,h3,h4⟩:=nM h ho;have hgb:g=b:=by rw[State.env,h1]at hb;simpa[ag]using hb
 subst hgb;refine⟨g,0,rfl,fun j d hj=>?_⟩
 obtain⟨c,h5,h6⟩:=hds j d hj;obtain⟨u,h7,h8,h9⟩:=h4.2 j c h5;have hF:wF.heap[g]?=some (.cells arr ty (0,0)):=by rw[hw.own o _ ho hn g (ca hb)];exact h3
 exact⟨u,by rw[Nat.zero_add,cell_of_row wF g j arr ty (0,0) hF];exact h7,De (h6 u h9)⟩
theorem UF{xs:List SC}{o:Nat}(h:BK xs=some o):xs=[.ptr o 0]:=by
 unfold BK at h;split at h
 ·cases h;rfl
 ·cases h
theorem UG{hid:List Nat}{wF:World}(h:St C σ mu a w)(hw:HidW C σ mu w hid wF){o o2:Nat}{xs:List SC}(ho:σ.H o=some (some (.box [.ptr o2 0])))(hn:cb o hid=true)(ho2:σ.H o2=some (some (.box xs)))(hn2:cb o2 hid=true){ds:List FC}(hl:ds.length=xs.length)
  (hds:∀(x:Nat) (d:FC),ds[x]?=some d->∃c,xs[x]?=some c/\∀v,aj (σ.env C.wF mu) c v->gD wF [] (hid.map mu) (hid.map (fg σ)) 0 (0+x) d v)
  {v:Value} (hv:aj (σ.env C.wF mu) (.ptr o 0) v):∃b off b2 off2,v=.pointer (some ⟨b,off,none⟩)/\wF.cell? ⟨b,off,none⟩=some (.pointer (some ⟨b2,off2,none⟩))/\∀(j:Nat) (d:FC),ds[j]?=some d->∃u,wF.cell? ⟨b2,off2+j,none⟩=some u/\bp wF u d:=by
 obtain⟨_,b,hb,rfl⟩:=aN ho hv;obtain⟨g,arr,ty,h1,h2,h3,h4⟩:=nM h ho;have hgb:g=b:=by rw[State.env,h1]at hb;simpa[ag]using hb
 subst hgb;obtain⟨u,h7,h8,h9⟩:=h4.2 0 (.ptr o2 0) rfl;obtain⟨b2,off2,rfl,h10⟩:=Df h hw ho2 hn2 hl hds h9;have hF:wF.heap[g]?=some (.cells arr ty (0,0)):=by rw[hw.own o _ ho hn g (ca hb)];exact h3
 exact⟨g,0,b2,off2,rfl,by rw[cell_of_row wF g 0 arr ty (0,0) hF];exact h7,h10⟩
theorem uS{α:Type}{hid:List Nat}{wF:World}(h:St C σ mu a w)(hw:HidW C σ mu w hid wF) :
  ∀(cs:List SC) (K:List AD->Rd α) (r:α) (_:(jJ C.P hid cs K).run σ=some r),
  ∃ds,(K ds).run σ=some r/\ds.length=cs.length/\∀(x:Nat) (d:AD),ds[x]?=some d->∃c,cs[x]?=some c/\∀i v,aj (σ.env C.wF mu) c v->db C.P wF [] [] [] i d v
 | [],K,r,hr=>⟨[],hr,rfl,fun x d h=>by simp at h⟩
 |c::cs,K,r,hr=>by
  have plain:∀K':List AD->Rd α,(jH hid none c fun d=>jJ C.P hid cs fun r=>K' (.c d::r)).run σ=some r ->
    ∃ds,(K' ds).run σ=some r/\ds.length=(c::cs).length/\∀(x:Nat) (d:AD),ds[x]?=some d->∃c',(c::cs)[x]?=some c'/\∀i v,aj (σ.env C.wF mu) c' v->db C.P wF [] [] [] i d v:=fun K' hr=>by
   obtain⟨d,hr2,h1⟩:=uR h hw (by simp) hr
   obtain⟨ds,h2,h3,h4⟩:=uS h hw cs _ r hr2;refine⟨.c d::ds,h2,by simp[h3],fun x d' hx=>?_⟩
   cases x with
   |zero=>simp at hx;subst hx;exact⟨c,rfl,fun i v hv=>h1 v hv⟩
   |succ x=>exact h4 x d' (by simpa using hx)
  unfold jJ at hr;split at hr
  ·rename_i o
   unfold dU at hr;split at hr
   ·rename_i hn
    obtain⟨ob,ho,hr2⟩:=aX hr;cases ob with
    |box xs =>
     simp only at hr2;split at hr2
     ·rename_i o2 hne
      have hne:=UF hne
      subst hne;split at hr2
      ·rename_i hn2
       obtain⟨ob2,ho2,hr2⟩:=aX hr2;cases ob2 with
       |box ys =>
        obtain⟨dsx,hr3,h1,h2⟩:=nY h hw ys 0 [] _ r (fun x c _ y hy=>by simp[bP]at hy) hr2
        obtain⟨ds,h5,h3,h4⟩:=uS h hw cs _ r hr3;refine⟨.bb dsx::ds,h5,by simp[h3],fun x d' hx=>?_⟩
        cases x with
        |zero=>simp at hx;subst hx;exact⟨_,rfl,fun i v hv=>UG h hw ho hn ho2 hn2 h1 h2 hv⟩
        |succ x=>exact h4 x d' (by simpa using hx)
       |_=>simp[Rd.run]at hr2
      ·simp[Rd.run]at hr2
     obtain⟨dsx,hr3,h1,h2⟩:=nY h hw xs 0 [] _ r (fun x c _ y hy=>by simp[bP]at hy) hr2
     obtain⟨ds,h5,h3,h4⟩:=uS h hw cs _ r hr3;refine⟨.box dsx::ds,h5,by simp[h3],fun x d' hx=>?_⟩
     cases x with
     |zero=>simp at hx;subst hx;exact⟨_,rfl,fun i v hv=>Df h hw ho hn h1 h2 hv⟩
     |succ x=>exact h4 x d' (by simpa using hx)
    |_=>simp[Rd.run]at hr2
   ·simp[Rd.run]at hr
  ·exact plain K hr
theorem UH{P:Program}{wF wG:World}(hk:bC wF wG){i:Nat}{d:AD}{v:Value}(h:db P wF [] [] [] i d v):db P wG [] [] [] i d v:=by
 have hcell:∀{j d u},gD wF [] [] [] i j d u->gD wG [] [] [] i j d u:=fun {j d u} h=>⟨h.1,(De h).mono hk⟩
 cases d with
 |c d=>exact hcell (j:=0) h
 |agg cs =>
  obtain⟨arr,rfl,h1,h2⟩:=h;exact⟨arr,rfl,h1,fun j d hj=>let⟨u,h3,h4⟩:=h2 j d hj;⟨u,h3,hcell h4⟩⟩
 |box cs =>
  obtain⟨b,off,rfl,h1⟩:=h;exact⟨b,off,rfl,fun j d hj=>let⟨u,h3,h4⟩:=h1 j d hj;⟨u,hk _ _ h3,h4.mono hk⟩⟩
 |bb cs =>
  obtain⟨b,off,b2,off2,rfl,h0,h1⟩:=h;exact⟨b,off,b2,off2,rfl,hk _ _ h0,fun j d hj=>let⟨u,h3,h4⟩:=h1 j d hj;⟨u,hk _ _ h3,h4.mono hk⟩⟩
 |fv F =>
  obtain⟨f,caps,fn,h1,h2,h3,h4,h5⟩:=h;exact⟨f,caps,fn,h1,h2,h3,h4,fun w us ds q c hk'=>h5 w us ds q c (fun p u hp=>hk' p u (hk p u hp))⟩
 |fvs F s=>exact(show False from h).elim
 |cut off n d=>exact(show False from h).elim
 |ma x=>exact(show False from h).elim
theorem UI{wF:World}{f:FuncId}{ct:List AD->Option Post}(hf:Fits C.P f ⟨[],ct⟩){cds:List AD}{arr:Array Value}(hl:arr.size=cds.length)
  (hc:∀(x:Nat) (d:AD),cds[x]?=some d->∃u,arr[x]?=some u/\∀i,db C.P wF [] [] [] i d u) {w:World} (hk:bC wF w) {us:List Value} {ds:List FC} (hlen:us.length=ds.length)
  (hus:∀(i:Nat) (d:FC),ds[i]?=some d->∃u,us[i]?=some u/\u.oneCell'=true/\bp w u d) {pre:Prop} {rc:RC} (hp:ct (ds.map .c++cds)=some ⟨pre,.c rc,[]⟩) (hq:pre) {c:SC} (hrc:fN rc=some c) :
  Calls C.P f (us.toArray++arr) w fun e w'=>e=.returned (tO c)/\Below w.heap.size w w'/\w.drawn<=w'.drawn:=by
 have:=hf.run w w (us++arr.toList) (ds.map .c++cds) _ [] [] hp hq (by simp[hl,hlen]) rfl rfl rfl (by simp) (by simp) (by simp) (fun q u hqu=>⟨hqu,by simp⟩) (fun i d' hi=>by
  by_cases hlt:i<ds.length
  ·rw[List.getElem?_append_left (by simpa using hlt),List.getElem?_map]at hi
   cases hd:ds[i]? with
   |none=>rw[hd]at hi;cases hi
   |some d =>
    rw[hd]at hi;simp at hi
    subst hi;obtain⟨u,h1,h2,h3⟩:=hus i d hd;exact⟨u,by rw[List.getElem?_append_left (by omega)];exact h1,h2,h3⟩
  ·rw[List.getElem?_append_right (by simpa using Nat.le_of_not_lt hlt)]at hi
   obtain⟨u,h1,h2⟩:=hc _ d' hi;refine⟨u,?_,UH hk (h2 _)⟩
   rw[List.getElem?_append_right (by omega),hlen]
   simpa using h1)
 rw[show(us++arr.toList).toArray=us.toArray++arr by simp]at this
 refine this.mono ?_
 rintro e w' ⟨v',ms',img,wG,rfl,haft,_,_,_,hret⟩
 refine⟨?_,haft.below,haft.os.drawn⟩
 have h1:=hret.val
 cases rc<;>simp only[fN,reduceCtorEq,Option.some.injEq]at hrc<;>subst hrc
 ·rw[show v'=_ from h1];rfl
 ·rw[show v'=_ from h1];rfl
theorem pG{o:Option Post}(h:lR o):∃pre b,o=some ⟨pre,.c (.bool b),[]⟩/\pre/\nD o=b:=by
 unfold lR at h;split at h
 ·exact⟨_,_,rfl,h,rfl⟩
 ·exact h.elim
theorem Dg{o:Option Post}(h:iC o):∃pre n,o=some ⟨pre,.c (.int .i64 n),[]⟩/\pre/\iB o=n:=by
 unfold iC at h;split at h
 ·exact⟨_,_,rfl,h,rfl⟩
 ·exact h.elim
theorem Kw{ds:List FC}{x:Int}(h:tL ds=some x):ds=[.int .i64 x]:=by
 unfold tL at h;split at h
 ·cases h;rfl
 ·cases h
theorem UJ{ds:List FC}{x:V7}(h:A5 ds=some x):ds=[.ints .i64 x]:=by
 unfold A5 at h;split at h
 ·cases h;rfl
 ·cases h
theorem UK{ds:List FC}{x:V8}(h:A6 ds=some x):ds=[.rows .i64 x]:=by
 unfold A6 at h;split at h
 ·cases h;rfl
 ·cases h
theorem Kx{ds:List FC}{x y:Int}(h:tM ds=some (x,y)):ds=[.int .i64 x,.int .i64 y]:=by
 unfold tM at h;split at h
 ·cases h;rfl
 ·cases h
theorem Ky{ds:List FC}{x y:V7}(h:tN ds=some (x,y)):ds=[.ints .i64 x,.ints .i64 y]:=by
 unfold tN at h;split at h
 ·cases h;rfl
 ·cases h
theorem UL{ps rs:List Nat}{ct:List AD->Option Post}{cds:List AD}{F:FV}(h:BJ ps rs ct cds=some F){ds:List FC}{q:Prop}{c:SC}(hat:F.at ds=some (q,c))(hq:q) :
  ∃pre rc,ct (ds.map .c++cds)=some ⟨pre,.c rc,[]⟩/\pre/\fN rc=some c:=by
 unfold BJ at h;split at h
 ·cases h
  simp only[FV.at]at hat;split at hat
  ·rename_i hin
   obtain rfl:=Kw hin;cases hat;obtain⟨pre,b,h1,h2,h3⟩:=pG hq;exact⟨pre,_,h1,h2,by simp only[fN];rw[h3]⟩
  ·cases hat
 ·cases h
  simp only[FV.at]at hat;split at hat
  ·rename_i hin
   obtain rfl:=UJ hin;cases hat;obtain⟨pre,b,h1,h2,h3⟩:=pG hq;exact⟨pre,_,h1,h2,by simp only[fN];rw[h3]⟩
  ·cases hat
 ·cases h
  simp only[FV.at]at hat;split at hat
  ·rename_i hin
   obtain rfl:=Kx hin;cases hat;obtain⟨pre,b,h1,h2,h3⟩:=Dg hq;exact⟨pre,_,h1,h2,by simp only[fN];rw[h3]⟩
  ·cases hat
 ·cases h
  simp only[FV.at]at hat;split at hat
  ·rename_i hin
   obtain rfl:=Kx hin;cases hat;obtain⟨pre,b,h1,h2,h3⟩:=pG hq;exact⟨pre,_,h1,h2,by simp only[fN];rw[h3]⟩
  ·cases hat
 ·cases h
  simp only[FV.at]at hat;split at hat
  ·rename_i hin
   obtain rfl:=Ky hin;cases hat;obtain⟨pre,b,h1,h2,h3⟩:=Dg hq;exact⟨pre,_,h1,h2,by simp only[fN];rw[h3]⟩
  ·cases hat
 ·cases h
  simp only[FV.at]at hat;split at hat
  ·rename_i hin
   obtain rfl:=Ky hin;cases hat;obtain⟨pre,b,h1,h2,h3⟩:=pG hq;exact⟨pre,_,h1,h2,by simp only[fN];rw[h3]⟩
  ·cases hat
 ·cases h
  simp only[FV.at]at hat;split at hat
  ·rename_i hin
   obtain rfl:=UK hin;cases hat;obtain⟨pre,b,h1,h2,h3⟩:=pG hq;exact⟨pre,_,h1,h2,by simp only[fN];rw[h3]⟩
  ·cases hat
 ·cases h
  simp only[FV.at]at hat;split at hat
  ·rename_i hin
   obtain rfl:=Kw hin;cases hat;obtain⟨pre,b,h1,h2,h3⟩:=Dg hq;exact⟨pre,_,h1,h2,by simp only[fN];rw[h3]⟩
  ·cases hat
 ·cases h
theorem UM{F:FV}{ds:List FC}{q:Prop}{c:SC}(h:F.at ds=some (q,c))(E:Env):aj E c (tO c):=by
 unfold FV.at at h;split at h<;>split at h<;>first|(cases h;rfl)|cases h
def cZ(P:Program)(Γ:FuncId->Option Ctr):Prop:=∀f c,Γ f=some c->Fits P f c
theorem UN{f:FuncId}{c:Ctr}(h:Fits C.P f c):∃fn,C.P.funcs[f]?=some fn/\fn.body.isSome=true/\fn.name≠"runtime.NumGoroutine":=by
 obtain⟨fn,h1,h2,h3⟩:=h.fn;exact⟨fn,h1,h2,fun hc=>by rw[hc]at h3;cases h3⟩
theorem UO{α:Type}{Γ:FuncId->Option Ctr}(hΓ:cZ C.P Γ){hid:List Nat}{wF:World}(h:St C σ mu a w)(hw:HidW C σ mu w hid wF){mt:List (Nat×Nat)}{i:Nat}{t:TypeId}{sv:SV}
  (hmut:∀x j,bP mt i j=some x->∃o cs,hid[x]?=some o/\i8 sv=some cs/\cs[j]?=some (.own o)) {K:AD->Rd α} {r:α} (hr:(nE C.P Γ hid mt i t sv K).run σ=some r) :
  ∃d,(K d).run σ=some r/\∀v,av C.P (σ.env C.wF mu) sv v->db C.P wF mt (hid.map mu) (hid.map (fg σ)) i d v:=by
 unfold nE at hr;split at hr
 ·rename_i c
  have hcm:∀x,bP mt i 0=some x->∃o,hid[x]?=some o/\c=.own o:=fun x hx=>by
   obtain⟨o,cs,h1,h2,h3⟩:=hmut x 0 hx;refine⟨o,h1,?_⟩
   simp only[i8]at h2;split at h2
   ·cases h2;simpa using h3
   ·cases h2
  have hm0:(∀o,c≠.own o)->bP mt i 0=none:=fun hc=>by
   cases hx:bP mt i 0 with
   |none=>rfl
   |some x=>obtain⟨o,_,h2⟩:=hcm x hx;exact absurd h2 (hc o)
  split at hr
  ·rename_i o x
   split at hr
   ·unfold dU at hr
    split at hr
    ·rename_i hn
     obtain⟨ob,ho,hr2⟩:=aX hr;cases ob with
     |box xs =>
      obtain⟨dsx,hr3,h1,h2⟩:=nY h hw xs 0 _ _ r (fun x c _ y hy=>by simp[bP]at hy) hr2
      exact⟨_,hr3,fun v hv=>by simp only[db,hm0 (by simp)];exact Df h hw ho hn h1 h2 hv⟩
     |_=>simp[Rd.run]at hr2
    ·simp[Rd.run]at hr
   ·simp[Rd.run]at hr
  ·rename_i cs x
   split at hr
   ·refine⟨_,hr,fun v hv=>?_⟩
    obtain⟨b,off,rfl,hc⟩:=hv;simp only[db,hm0 (by simp)]
    exact⟨b,off,rfl,fun j d hj=>by
     obtain⟨u,h1,h2⟩:=hc j d (by simpa using hj)
     exact⟨u,hw.old _ _ h1,h2.mono hw.old⟩⟩
   ·simp[Rd.run]at hr
  ·obtain⟨d,h1,h2⟩:=Kv h hw (fun d hd w=>nX hd w) hcm hr
   exact⟨_,h1,h2⟩
 ·rename_i cs
  obtain⟨ds,h1,h2,h3⟩:=nY h hw cs 0 _ _ r (fun x c hx y hy=>by
   rw[Nat.zero_add]at hy;obtain⟨o,cs',h4,h5,h6⟩:=hmut y x hy;cases h5;exact⟨o,h4,Option.some.inj (hx.symm.trans h6)⟩) hr
  refine⟨_,h1,fun v hv=>?_⟩
  obtain⟨arr,rfl,h4,h5⟩:=hv;refine⟨arr,rfl,by rw[h4,h2],fun j d hj=>?_⟩
  obtain⟨c,h6,h7⟩:=h3 j d hj;obtain⟨u,h8,_,h9⟩:=h5 j c h6;exact⟨u,h8,by have:=h7 u h9;rwa[Nat.zero_add]at this⟩
 ·exact⟨_,hr,fun v hv=>by
   obtain⟨f,caps,fn,h1,h2,h3,h4,h5⟩:=hv;exact⟨f,caps,fn,h1,h2,h3,h4,fun w us ds q c hk=>h5 w us ds q c (fun p u hp=>hk p u (hw.old p u hp))⟩⟩
 ·rename_i f caps
  split at hr
  ·split at hr
   ·simp[Rd.run]at hr
   ·rename_i ct hct
    have hf:=hΓ f _ hct
    obtain⟨fn,hfn1,hfn2,hfn3⟩:=UN hf;obtain⟨cds,hr2,h1,h2⟩:=uS h hw caps _ r hr;have hcaps:∀arr,cQ (σ.env C.wF mu) caps arr->arr.size=cds.length/\∀(x:Nat) (d:AD),cds[x]?=some d->∃u,arr[x]?=some u/\∀i,db C.P wF [] [] [] i d u:=fun arr hrep=>by
     refine⟨by rw[hrep.1,h1],fun x d hx=>?_⟩
     obtain⟨c,h3,h4⟩:=h2 x d hx;obtain⟨u,h5,_,h6⟩:=hrep.2 x c h3;exact⟨u,h5,fun i=>h4 i u h6⟩
    split at hr2
    ·rename_i F hF
     refine⟨_,hr2,fun v hv=>?_⟩
     obtain⟨arr,rfl,hrep⟩:=hv;obtain⟨h3,h4⟩:=hcaps arr hrep;refine⟨f,arr,fn,rfl,hfn1,hfn2,hfn3,fun w us ds q c hk hat hq hlen hus=>?_⟩
     obtain⟨pre,rc,k1,k2,k3⟩:=UL hF hat hq;exact UI hf h3 h4 hk hlen hus k1 k2 k3
    ·simp[Rd.run]at hr2
   ·simp[Rd.run]at hr
  ·simp[Rd.run]at hr
 ·simp[Rd.run]at hr
 ·simp[Rd.run]at hr
theorem uT{α:Type}{Γ:FuncId->Option Ctr}(hΓ:cZ C.P Γ){hid:List Nat}{wF:World}(h:St C σ mu a w)(hw:HidW C σ mu w hid wF){mt:List (Nat×Nat)} :
  ∀(svs:List SV) (i:Nat) (ts:List TypeId) (K:List AD->Rd α) (r:α)
   (_:∀(y:Nat) (sv:SV),svs[y]?=some sv->∀x j,bP mt (i+y) j=some x->∃o cs,hid[x]?=some o/\i8 sv=some cs/\cs[j]?=some (.own o)) (_:(iD C.P Γ hid mt i svs ts K).run σ=some r),
  ∃ds,(K ds).run σ=some r/\ds.length=svs.length/\∀(y:Nat) (d:AD),ds[y]?=some d->∃sv,svs[y]?=some sv/\∀v,av C.P (σ.env C.wF mu) sv v->db C.P wF mt (hid.map mu) (hid.map (fg σ)) (i+y) d v
 | [],i,ts,K,r,_,hr=>⟨[],hr,rfl,fun x d h=>by simp at h⟩
 |sv::svs,i,ts,K,r,hm,hr=>by
  simp only[iD]at hr;obtain⟨d,hr2,h1⟩:=UO hΓ h hw (hm 0 sv rfl) hr;obtain⟨ds,h2,h3,h4⟩:=uT hΓ h hw svs (i+1) _ _ r (fun y sv hy x j hx=>hm (y+1) sv (by simpa using hy) x j (by rw[<-hx];congr 1;omega)) hr2
  refine⟨d::ds,h2,by simp[h3],fun y d' hy=>?_⟩
  cases y with
  |zero=>simp at hy;subst hy;exact⟨sv,rfl,h1⟩
  |succ y =>
   obtain⟨sv',h5,h6⟩:=h4 y d' (by simpa using hy)
   exact⟨sv',by simpa using h5,fun v hv=>by rw[show i+(y+1)=i+1+y by omega];exact h6 v hv⟩
theorem Kz{α:Type}{hid:List Nat}{nl:Option FC}{c:SC}{K:FC->Rd α}{r:α}(hr:(jH hid nl c K).run σ=some r):∃d,(K d).run σ=some r:=by
 have hob:∀{o:Nat} {K':Ob->Rd α},(dU hid o K').run σ=some r->∃ob,(K' ob).run σ=some r:=fun {o K'} hr=>by
  unfold dU at hr;split at hr
  ·obtain⟨ob,_,hr2⟩:=aX hr;exact⟨ob,hr2⟩
  ·simp[Rd.run]at hr
 unfold jH at hr;split at hr
 ·exact⟨_,hr⟩
 ·exact⟨_,hr⟩
 ·exact⟨_,hr⟩
 ·cases nl with
  |none=>simp[Rd.run]at hr
  |some d=>exact⟨d,hr⟩
 ·obtain⟨ob,hr2⟩:=hob hr
  split at hr2
  ·exact⟨_,hr2⟩
  ·split at hr2
   ·exact⟨_,hr2⟩
   ·simp[Rd.run]at hr2
 ·obtain⟨ob,hr2⟩:=hob hr
  split at hr2
  ·split at hr2
   ·exact⟨_,hr2⟩
   ·simp[Rd.run]at hr2
  ·simp[Rd.run]at hr2
 ·obtain⟨ob,hr2⟩:=hob hr
  split at hr2
  ·split at hr2
   ·exact⟨_,hr2⟩
   ·simp[Rd.run]at hr2
  ·simp[Rd.run]at hr2
 ·obtain⟨ob,hr2⟩:=hob hr
  split at hr2
  ·split at hr2
   ·exact⟨_,hr2⟩
   ·simp[Rd.run]at hr2
  ·simp[Rd.run]at hr2
 ·obtain⟨ob,hr2⟩:=hob hr
  split at hr2
  ·split at hr2
   ·split at hr2
    ·exact⟨_,hr2⟩
    ·simp[Rd.run]at hr2
   ·simp[Rd.run]at hr2
  ·simp[Rd.run]at hr2
 ·exact⟨_,hr⟩
 ·exact⟨_,hr⟩
 ·obtain⟨ob,hr2⟩:=hob hr
  split at hr2
  ·split at hr2
   ·exact⟨_,hr2⟩
   ·simp[Rd.run]at hr2
  ·simp[Rd.run]at hr2
 ·simp[Rd.run]at hr
theorem KA{α:Type}{hid:List Nat}{mt:List (Nat×Nat)}{i j:Nat}{nl:Option FC}{c:SC}{K:FC->Rd α}{r:α}(hr:(nC hid mt i j nl c K).run σ=some r):∃d,(K d).run σ=some r:=by
 unfold nC at hr;split at hr
 ·unfold BI at hr
  split at hr
  ·obtain⟨ob,_,hr2⟩:=aX hr
   split at hr2
   ·exact⟨_,hr2⟩
   ·simp[Rd.run]at hr2
  ·simp[Rd.run]at hr
 ·exact Kz hr
theorem pH{α:Type}{P:Program}{hid:List Nat}{mt:List (Nat×Nat)}{i:Nat}:∀{cs:List SC} {j:Nat} {ts:List TypeId} {K:List FC->Rd α} {r:α},(jI P hid mt i j cs ts K).run σ=some r->∃d,(K d).run σ=some r
 | [],j,ts,K,r,hr=>⟨[],hr⟩
 |c::cs,j,ts,K,r,hr=>by
  obtain⟨d,hr2⟩:=KA hr;obtain⟨ds,hr3⟩:=pH hr2;exact⟨_,hr3⟩
theorem uU{α:Type}{P:Program}{hid:List Nat}:∀{cs:List SC} {K:List AD->Rd α} {r:α},(jJ P hid cs K).run σ=some r->∃d,(K d).run σ=some r
 | [],K,r,hr=>⟨[],hr⟩
 |c::cs,K,r,hr=>by
  unfold jJ at hr;split at hr
  ·unfold dU at hr
   split at hr
   ·obtain⟨ob,_,hr2⟩:=aX hr
    cases ob with
    |box xs =>
     simp only at hr2;split at hr2
     ·skip
      split at hr2
      ·obtain⟨ob2,_,hr2⟩:=aX hr2
       cases ob2 with
       |box ys =>
        obtain⟨d,hr3⟩:=pH hr2;obtain⟨ds,hr4⟩:=uU hr3;exact⟨_,hr4⟩
       |_=>simp[Rd.run]at hr2
      ·simp[Rd.run]at hr2
     obtain⟨d,hr3⟩:=pH hr2;obtain⟨ds,hr4⟩:=uU hr3;exact⟨_,hr4⟩
    |_=>simp[Rd.run]at hr2
   ·simp[Rd.run]at hr
  ·obtain⟨d,hr3⟩:=Kz hr
   obtain⟨ds,hr4⟩:=uU hr3;exact⟨_,hr4⟩
theorem KB{α:Type}{P:Program}{Γ:FuncId->Option Ctr}{hid:List Nat}{mt:List (Nat×Nat)}{i:Nat}{t:TypeId}{sv:SV}{K:AD->Rd α}{r:α}(hr:(nE P Γ hid mt i t sv K).run σ=some r) :
  ∃d,(K d).run σ=some r:=by
 unfold nE at hr;split at hr
 ·split at hr
  ·split at hr
   ·unfold dU at hr
    split at hr
    ·obtain⟨ob,_,hr2⟩:=aX hr
     cases ob with
     |box xs=>obtain⟨d,hr3⟩:=pH hr2;exact⟨_,hr3⟩
     |_=>simp[Rd.run]at hr2
    ·simp[Rd.run]at hr
   ·simp[Rd.run]at hr
  ·split at hr
   ·exact⟨_,hr⟩
   ·simp[Rd.run]at hr
  ·obtain⟨d,hr3⟩:=KA hr;exact⟨_,hr3⟩
 ·obtain⟨d,hr3⟩:=pH hr;exact⟨_,hr3⟩
 ·exact⟨_,hr⟩
 ·split at hr
  ·split at hr
   ·simp[Rd.run]at hr
   ·obtain⟨cds,hr2⟩:=uU hr
    split at hr2
    ·exact⟨_,hr2⟩
    ·simp[Rd.run]at hr2
   ·simp[Rd.run]at hr
  ·simp[Rd.run]at hr
 ·simp[Rd.run]at hr
 ·simp[Rd.run]at hr
def iL(E:Env)(fs:List (Nat×Option Ob)):Prop:=∀o d,(o,some (.frz d))∈fs->E.st o=.frz d
theorem iL.left{E:Env}{fs gs:List (Nat×Option Ob)}(h:iL E (fs++gs)):iL E fs:=fun o d hm=>h o d (List.mem_append_left _ hm)
theorem iL.right{E:Env}{fs gs:List (Nat×Option Ob)}(h:iL E (fs++gs)):iL E gs:=fun o d hm=>h o d (List.mem_append_right _ hm)
theorem UP{fs:List (Nat×Option Ob)}(hf:fS σ fs)(wG:World)(mu1:Nat->Img):iL ((State.mk σ.fr (fs++σ.hp)).env wG mu1) fs:=fun o d hm=>by
 have:lk fs o≠none:=fun hc=>by
  have key:∀{l:List (Nat×Option Ob)} {x:Option Ob},(o,x)∈l->lk l o≠none:=fun {l x}=>by
   induction l with
   |nil=>intro h;simp at h
   |cons z l ih =>
    intro h
    obtain⟨k,v⟩:=z;rw[bo];split
    ·simp
    ·rename_i hk
     rcases List.mem_cons.1 h with h|h
     ·cases h;exact absurd rfl hk
     ·exact ih h
  exact key hm hc
 cases hl:lk fs o with
 |none=>exact absurd hl this
 |some y =>
  obtain⟨ob,d1,q1,q2,q3⟩:=hf o _ hm;obtain⟨ob',d2,r1,r2,r3⟩:=hf o y (pD hl);rw[q1]at r1;cases r1;rw[q2]at r2;cases r2;cases q3;subst r3;exact ff (by simp only[State.H,fR,hl])
theorem KC{α:Type}{hid:List Nat}(_h:St C σ mu a w){nl:Option FC}(hnl:∀d,nl=some d->∀w,bp w (.slice none 0 0) d){c:SC}{K:FC->List (Nat×Option Ob)->Rd α}{r:α}(hr:(uh hid nl c K).run σ=some r) :
  ∃d fs,(K d fs).run σ=some r/\fS σ fs/\(∀o x,(o,x)∈fs->o ∉ hid)/\∀v,aj (σ.env C.wF mu) c v->∀E',bS (σ.env C.wF mu) E'->iL E' fs->v.oneCell'=true/\bp E'.wF v d:=by
 have no:fS σ []:=fun o x hm=>by simp at hm
 have no2:∀o x,(o,x)∈([]:List (Nat×Option Ob))->o ∉ hid:=fun o x hm=>by simp at hm
 have hob:∀{o:Nat} {K':Ob->Rd α},(dU hid o K').run σ=some r->∃ob,σ.H o=some (some ob)/\(K' ob).run σ=some r/\o ∉ hid:=fun {o K'} hr=>by
  unfold dU at hr;split at hr
  ·rename_i hn
   obtain⟨ob,ho,hr2⟩:=aX hr;exact⟨ob,ho,hr2,iJ hn⟩
  ·simp[Rd.run]at hr
 have one:∀{o:Nat} {ob:Ob} {d:FC},σ.H o=some (some ob)->fM ob=some d->o ∉ hid->fS σ [(o,some (.frz d))]/\∀o' x,(o',x)∈[(o,some (Ob.frz d))]->o' ∉ hid:=fun {o ob d} h1 h2 h3 =>
  ⟨fun o' x hm=>by
   simp at hm
   obtain⟨rfl,rfl⟩:=hm;exact⟨ob,d,h1,h2,rfl⟩,fun o' x hm=>by
   simp at hm
   rw[hm.1];exact h3⟩
 unfold uh at hr;split at hr
 ·exact⟨_,_,hr,no,no2,fun v hv E' _ _=>by simp only[aj]at hv;subst hv;exact⟨rfl,rfl⟩⟩
 ·exact⟨_,_,hr,no,no2,fun v hv E' _ _=>by simp only[aj]at hv;subst hv;exact⟨rfl,rfl⟩⟩
 ·exact⟨_,_,hr,no,no2,fun v hv E' _ _=>by simp only[aj]at hv;subst hv;exact⟨rfl,rfl⟩⟩
 ·cases nl with
  |none=>simp[Rd.run]at hr
  |some d=>exact⟨d,_,hr,no,no2,fun v hv E' _ _=>by simp only[aj]at hv;subst hv;exact⟨rfl,hnl d rfl _⟩⟩
 ·exact⟨_,_,hr,no,no2,fun v hv E' hE _=>by
   obtain⟨⟨x,n,c,hv1,_⟩,hv2⟩:=hv;exact⟨by rw[hv1];rfl,hv2.mono hE.1⟩⟩
 ·rename_i o
  obtain⟨ob,ho,hr2,hn⟩:=hob hr;split at hr2
  ·rename_i d hd
   obtain⟨k1,k2⟩:=one ho hd hn;exact⟨d,_,hr2,k1,k2,fun v hv E' hE hf=>by
    have h2:=aj.mono hE hv
    have h3:=h2.2
    rw[hf o d (by simp)]at h3
    exact⟨h2.1,h3.2⟩⟩
  ·simp[Rd.run]at hr2
 ·rename_i o n
  obtain⟨ob,ho,hr2,hn⟩:=hob hr;split at hr2
  ·rename_i d hd
   split at hr2
   ·rename_i d' hd'
    obtain⟨k1,k2⟩:=one ho hd hn;exact⟨d',_,hr2,k1,k2,fun v hv E' hE hf=>by
     have h2:=aj.mono hE hv
     have h3:=h2.2
     rw[hf o d (by simp)]at h3
     obtain⟨d'',e1,e2⟩:=h3;rw[hd']at e1;cases e1;exact⟨h2.1,e2.2⟩⟩
   ·simp[Rd.run]at hr2
  ·simp[Rd.run]at hr2
 ·rename_i o off n
  obtain⟨ob,ho,hr2,hn⟩:=hob hr;split at hr2
  ·rename_i d hd
   split at hr2
   ·rename_i d' hd'
    obtain⟨k1,k2⟩:=one ho hd hn;exact⟨d',_,hr2,k1,k2,fun v hv E' hE hf=>by
     have h2:=aj.mono hE hv
     have h3:=h2.2
     rw[hf o d (by simp)]at h3
     obtain⟨d'',e1,e2⟩:=h3;rw[hd']at e1;cases e1;exact⟨h2.1,e2.2⟩⟩
   ·simp[Rd.run]at hr2
  ·simp[Rd.run]at hr2
 ·simp[Rd.run]at hr
theorem KD{α:Type}{hid:List Nat}(h:St C σ mu a w):∀(cs:List SC) (ts:List TypeId) (K:List FC->List (Nat×Option Ob)->Rd α) (r:α) (_:(ui C.P hid cs ts K).run σ=some r),
  ∃ds fs,(K ds fs).run σ=some r/\fS σ fs/\(∀o x,(o,x)∈fs->o ∉ hid)/\ds.length=cs.length/\∀(x:Nat) (d:FC),ds[x]?=some d->∃c,cs[x]?=some c/\∀v,aj (σ.env C.wF mu) c v->∀E',bS (σ.env C.wF mu) E'->iL E' fs->v.oneCell'=true/\bp E'.wF v d
 | [],ts,K,r,hr=>⟨[],[],hr,fun o x hm=>by simp at hm,fun o x hm=>by simp at hm,rfl,fun x d h=>by simp at h⟩
 |c::cs,ts,K,r,hr=>by
  simp only[ui]at hr;obtain⟨d,f0,hr2,k1,k2,k3⟩:=KC h (fun d hd w=>by
   cases ts with
   |nil=>cases hd
   |cons t ts=>exact nX hd w) hr
  obtain⟨ds,fs,hr3,h1,h2,h3,h4⟩:=KD h cs ts.tail _ r hr2;refine⟨_,_,hr3,fun o x hm=>(List.mem_append.1 hm).elim (k1 o x) (h1 o x),fun o x hm=>(List.mem_append.1 hm).elim (k2 o x) (h2 o x),by simp[h3],fun x d' hx=>?_⟩
  cases x with
  |zero=>simp at hx;subst hx;exact⟨c,rfl,fun v hv E' hE hf=>k3 v hv E' hE hf.left⟩
  |succ x =>
   obtain⟨c',h5,h6⟩:=h4 x d' (by simpa using hx)
   exact⟨c',by simpa using h5,fun v hv E' hE hf=>h6 v hv E' hE hf.right⟩
theorem UQ{α:Type}{hid:List Nat}(h:St C σ mu a w){mt:List (Nat×Nat)}{i:Nat}{t:TypeId}{sv:SV}(hmut:∀x j,bP mt i j=some x->∃o c,hid[x]?=some o/\sv=.c c/\c=.own o/\j=0)
  {K:AD->List (Nat×Option Ob)->Rd α} {r:α} (hr:(BP C.P hid mt i t sv K).run σ=some r) :
  ∃ad fs,(K ad fs).run σ=some r/\fS σ fs/\(∀o x,(o,x)∈fs->o ∉ hid)/\∀v,av C.P (σ.env C.wF mu) sv v->∀E',bS (σ.env C.wF mu) E'->iL E' fs->db C.P E'.wF mt (hid.map mu) (hid.map (fg σ)) i ad v:=by
 unfold BP at hr;split at hr
 ·rename_i c
  split at hr
  ·rename_i hm
   rw[mi]at hm;cases hx:bP mt i 0 with
   |none=>rw[hx]at hm;cases hm
   |some x =>
    obtain⟨o,c',h1,h2,rfl,_⟩:=hmut x 0 hx;cases h2;obtain⟨ob,hob,hr2⟩:=aX hr;split at hr2
    ·rename_i d hd
     refine⟨_,_,hr2,fun o x hm=>by simp at hm,fun o x hm=>by simp at hm,fun v hv E' _ _=>⟨hv.1,?_⟩⟩
     rw[hx];have hv':v=(mu o).hd:=aN hob hv (nU hd)
     exact⟨mu o,ob,by simp[h1],by simp[h1,fg,hob],hv',hd⟩
    ·simp[Rd.run]at hr2
  ·rename_i hm
   obtain⟨d,fs,hr2,k1,k2,k3⟩:=KC h (fun d hd w=>nX hd w) hr
   refine⟨_,_,hr2,k1,k2,fun v hv E' hE hf=>?_⟩
   obtain⟨h1,h2⟩:=k3 v hv E' hE hf;refine⟨h1,?_⟩
   rw[mi]at hm;cases hx:bP mt i 0 with
   |some x=>rw[hx]at hm;cases hm
   |none=>exact h2
 ·rename_i cs
  have hno:∀j,bP mt i j=none:=fun j=>by
   cases hx:bP mt i j with
   |none=>rfl
   |some x=>obtain⟨_,_,_,h2,_⟩:=hmut x j hx;cases h2
  obtain⟨ds,fs,hr2,k1,k2,k3,k4⟩:=KD h cs _ _ r hr;refine⟨_,_,hr2,k1,k2,fun v hv E' hE hf=>?_⟩
  obtain⟨arr,rfl,h1,h2⟩:=hv;refine⟨arr,rfl,by rw[h1,k3],fun j d hj=>?_⟩
  obtain⟨c,h3,h4⟩:=k4 j d hj;obtain⟨u,h5,h6,h7⟩:=h2 j c h3;obtain⟨h8,h9⟩:=h4 u h7 E' hE hf;refine⟨u,h5,h8,?_⟩
  rw[hno j];exact h9
 ·exact⟨_,_,hr,fun o x hm=>by simp at hm,fun o x hm=>by simp at hm,fun v hv E' hE _=>lM.mono hE.1 hv⟩
 ·simp[Rd.run]at hr
theorem Dh{α:Type}{hid:List Nat}(h:St C σ mu a w){mt:List (Nat×Nat)}:∀(svs:List SV) (i:Nat) (ts:List TypeId) (K:List AD->List (Nat×Option Ob)->Rd α) (r:α)
      (_:∀(y:Nat) (sv:SV),svs[y]?=some sv->∀x j,bP mt (i+y) j=some x->∃o c,hid[x]?=some o/\sv=.c c/\c=.own o/\j=0) (_:(uj C.P hid mt i svs ts K).run σ=some r),
  ∃ads fs,(K ads fs).run σ=some r/\fS σ fs/\(∀o x,(o,x)∈fs->o ∉ hid)/\ads.length=svs.length/\∀(y:Nat) (d:AD),ads[y]?=some d->∃sv,svs[y]?=some sv/\∀v,av C.P (σ.env C.wF mu) sv v ->
   ∀E',bS (σ.env C.wF mu) E'->iL E' fs->db C.P E'.wF mt (hid.map mu) (hid.map (fg σ)) (i+y) d v
 | [],i,ts,K,r,_,hr=>⟨[],[],hr,fun o x hm=>by simp at hm,fun o x hm=>by simp at hm,rfl,fun x d h=>by simp at h⟩
 |sv::svs,i,ts,K,r,hm,hr=>by
  simp only[uj]at hr;obtain⟨ad,f0,hr2,k1,k2,k3⟩:=UQ h (hm 0 sv rfl) hr;obtain⟨ads,fs,hr3,h1,h2,h3,h4⟩:=Dh h svs (i+1) _ _ r (fun y sv hy x j hx=>hm (y+1) sv (by simpa using hy) x j (by rw[<-hx];congr 1;omega)) hr2
  refine⟨_,_,hr3,fun o x hm=>(List.mem_append.1 hm).elim (k1 o x) (h1 o x),fun o x hm=>(List.mem_append.1 hm).elim (k2 o x) (h2 o x),by simp[h3],fun y d' hy=>?_⟩
  cases y with
  |zero=>simp at hy;subst hy;exact⟨sv,rfl,fun v hv E' hE hf=>k3 v hv E' hE hf.left⟩
  |succ y =>
   obtain⟨sv',h5,h6⟩:=h4 y d' (by simpa using hy)
   exact⟨sv',by simpa using h5,fun v hv E' hE hf=>by rw[show i+(y+1)=i+1+y by omega];exact h6 v hv E' hE hf.right⟩
end
end Go.Sx
