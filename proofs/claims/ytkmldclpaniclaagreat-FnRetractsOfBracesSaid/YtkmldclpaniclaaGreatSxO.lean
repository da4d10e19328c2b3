/- SxO -/
import Derived.Test.YtkmldclpaniclaaGreatSxN
set_option linter.unusedSimpArgs false
set_option linter.unusedVariables false
set_option linter.defProp false
namespace Go.Sx
open Go.RowKit
theorem xp{d:Nat}:∀{sl:List (Nat×RC)} {o:Nat} {x:Option Ob},lk (d5 d sl) o=some x->∃i rc ob,(i,rc)∈sl/\o=d+1000*i/\iR rc=some ob/\x=some ob
 | [],o,x,h=>by simp[d5,lk]at h
 |(i,rc)::sl,o,x,h=>by
  simp only[d5]at h;split at h
  ·rename_i ob hob
   rw[bt]at h;split at h
   ·rename_i ho
    cases h;exact⟨i,rc,ob,by simp,ho.symm,hob,rfl⟩
   ·obtain⟨i',rc',ob',h1,h2⟩:=xp h
    exact⟨i',rc',ob',by simp[h1],h2⟩
  ·obtain⟨i',rc',ob',h1,h2⟩:=xp h
   exact⟨i',rc',ob',by simp[h1],h2⟩
theorem P8{d:Nat}:∀{sl:List (Nat×RC)} {i:Nat} {rc:RC} {ob:Ob},(i,rc)∈sl->iR rc=some ob->∃ob',lk (d5 d sl) (d+1000*i)=some (some ob')
 | [],i,rc,ob,h,_=>by simp at h
 |(j,rc')::sl,i,rc,ob,h,hob=>by
  simp only[d5];rcases AH.1 h with h1|h1
  ·cases h1
   rw[hob];exact⟨ob,by simp[bt]⟩
  ·obtain⟨ob',h2⟩:=P8 (d:=d) h1 hob
   split
   ·rename_i ob2 hob2
    rw[bt];split
    ·exact⟨_,rfl⟩
    ·exact⟨ob',h2⟩
   ·exact⟨ob',h2⟩
theorem nv{α:Type}{σ:State}:∀{ids:List (Nat×Option Ob)} {k:Rd α} {r:α},(lQ ids k).run σ=some r->k.run σ=some r/\∀o x,lk ids o=some x->σ.H o=none
 | [],k,r,h=>⟨h,fun o x hx=>by simp[lk]at hx⟩
 |(i,y)::l,k,r,h=>by
  obtain⟨h1,h2⟩:=b8 h;obtain⟨h3,h4⟩:=nv h2;refine⟨h3,fun o x hx=>?_⟩
  rw[bt]at hx;split at hx
  ·rename_i ho;subst ho;exact h1
  ·exact h4 o x hx
theorem xq{α:Type}{σ:State}:∀{hid:List Nat} {wrs:List RC} {K:List (Nat×Option Ob)->Prop->Rd α} {r:α},(mU hid wrs K).run σ=some r ->
  ∃ups q,(K ups q).run σ=some r/\wrs.length=hid.length/\(∀o,o ∉ hid->lk ups o=none)/\(hid.Nodup ->
   ∀(x:Nat) (o:Nat) (rc:RC),hid[x]?=some o->wrs[x]?=some rc->∃ob ob' p,σ.H o=some (some ob)/\dz ob rc=some (ob',p)/\(q->p)/\lk ups o=some (oS rc ob'))
 | [],[],K,r,h=>⟨[],True,h,rfl,fun _ _=>rfl,fun _ x o rc hx=>by simp at hx⟩
 | [],_::_,K,r,h=>by simp[mU,Rd.run]at h
 |_::_,[],K,r,h=>by simp[mU,Rd.run]at h
 |o::hid,rc::wrs,K,r,h=>by
  obtain⟨ob,ho,h2⟩:=aZ h;split at h2
  ·rename_i ob' p hw
   obtain⟨ups,q,h3,h4,h5,h6⟩:=xq h2;refine⟨(o,oS rc ob')::ups,p/\q,h3,by simp[h4],fun o' hn=>?_,fun hnd x o' rc' hx hr=>?_⟩
   ·rw[bt,AB (fun hc=>hn (by simp[hc]))]
    exact h5 o' fun hc=>hn (by simp[hc])
   ·obtain⟨hn1,hn2⟩:=Aa.1 hnd
    cases x with
    |zero =>
     simp at hx hr;subst hx;subst hr
     exact⟨ob,ob',p,ho,hw,fun h=>h.1,by simp[bt]⟩
    |succ x =>
     simp at hx hr
     obtain⟨ob2,ob2',p2,h7,h8,h9,h10⟩:=h6 hn2 x o' rc' hx hr;refine⟨ob2,ob2',p2,h7,h8,fun h=>h9 h.2,?_⟩
     rw[bt,AB (fun hc=>hn1 (by rw[hc];exact AI hx))]
     exact h10
  ·simp[Rd.run]at h2
theorem Ii{β:Type}:∀{l:List Nat} {ms:List β} {o:Nat} {m:β},lk (l.zip ms) o=some m->∃x:Nat,l[x]?=some o/\ms[x]?=some m
 | [],_,o,m,h=>by simp[lk]at h
 |_::_,[],o,m,h=>by simp[lk]at h
 |k::l,m'::ms,o,m,h=>by
  rw[DN,bt]at h;split at h
  ·rename_i hk;subst hk;cases h;exact⟨0,rfl,rfl⟩
  ·obtain⟨x,h1,h2⟩:=Ii h
   exact⟨x+1,by simpa using h1,by simpa using h2⟩
theorem P9{β:Type}:∀{l:List Nat} {ms:List β} {o:Nat},o∈l->ms.length=l.length->∃m,lk (l.zip ms) o=some m
 | [],_,o,h,_=>by simp at h
 |_::_,[],o,_,h=>by simp at h
 |k::l,m'::ms,o,h,hl=>by
  rw[DN,bt];by_cases hk:k=o
  ·exact⟨m',by simp[hk]⟩
  ·rw[AB hk]
   exact P9 ((AH.1 h).resolve_left (AO hk)) (by simpa using hl)
theorem kV:∀{l l':List FC} {p:Prop},gm l l'=some p->l'.length=l.length
 | [],l',p,h=>by
  cases l' with
  |nil=>rfl
  |cons y l'=>simp[gm]at h
 |x::l,[],p,h=>by cases x<;>simp[gm]at h
 |x::l,y::l',p,h=>by
  cases x<;>cases y<;>simp only[gm,reduceCtorEq]at h
  ·split at h
   ·simp[kV h]
   ·cases h
  ·simp[kV h]
  ·simp[kV h]
  ·split at h
   ·split at h
    ·rename_i hp;simp[kV hp]
    ·cases h
   ·cases h
  ·split at h
   ·rename_i hp;simp[kV hp]
   ·cases h
  all_goals
   split at h
   ·split at h
    ·rename_i hp;simp[kV hp]
    ·cases h
   ·cases h
theorem ad2{a b:FC}(h:a.len=b.len)(hw:a.wid=b.wid):a.slen=b.slen:=by
 by_cases h1:a.wid=1
 ·rw[w6 h1,w6 (hw ▸ h1),h]
 ·cases a<;>first|exact absurd rfl h1|skip
  cases b<;>first|rfl|cases hw
theorem ad3{ob ob':Ob}{rc:RC}{q:Prop}(h:dz ob rc=some (ob',q))(hg:rc.isGone=false)(hq:q) :
  ob'.shp.len=ob.shp.len/\ob.shp.ver<=ob'.shp.ver/\(ob'.shp.ver=ob.shp.ver->ob'.shp.rl=ob.shp.rl)/\ob.isEnv=false/\ob'.isEnv=false/\ob.isFz=false/\ob'.isFz=false:=by
 unfold dz at h;split at h
 ·split at h
  ·cases h
   exact⟨hq,AE _,fun _=>rfl,rfl,rfl,rfl,rfl⟩
  ·cases h
 ·split at h
  ·cases h
   exact⟨hq,AE _,fun _=>rfl,rfl,rfl,rfl,rfl⟩
  ·cases h
 ·split at h
  ·cases h
   exact⟨by simpa[Ob.shp]using A8 List.length (show _=_ from hq),AE _,fun _=>hq,rfl,rfl,rfl,rfl⟩
  ·cases h
 ·split at h
  ·rename_i p hp
   cases h;exact⟨kV hp,AE _,fun _=>rfl,rfl,rfl,rfl,rfl⟩
  ·cases h
 ·split at h
  ·rename_i hc
   simp only[AG]at hc;cases h;exact⟨ad2 hq (AX hc.2).symm,AE _,fun _=>rfl,rfl,rfl,rfl,rfl⟩
  ·cases h
 ·cases hg
 ·cases hg
 ·cases hg
 ·cases h
theorem ad4{ob ob':Ob}{rc:RC}{q:Prop}(h:dz ob rc=some (ob',q)):ob.isFz=false/\((∀cs,ob≠.box cs)):=by
 have bx:∀cs,dz (.box cs) rc≠some (ob',q):=fun cs h=>by
  cases rc with
  |gone y=>cases y<;>simp[dz]at h
  |_=>simp[dz]at h
 have fz:∀d,dz (.frz d) rc≠some (ob',q):=fun d h=>by
  cases rc with
  |gone y=>cases y<;>simp[dz]at h
  |_=>simp[dz]at h
 refine⟨?_,fun cs hc=>bx cs (by rw[<-hc];exact h)⟩
 cases hf:ob.isFz with
 |false=>rfl
 |true =>
  cases ob<;>cases hf
  exact absurd h (fz _)
theorem aR.toE0{E:Env}{wF w:World}{m:Img}{ob:Ob}(h:aR E w m ob)(hk:bJ E.wF wF)(hb:∀cs,ob≠.box cs):aR (E0 wF) w m ob:=by
 cases ob with
 |box cs=>exact absurd rfl (hb cs)
 |lst ver e d =>
  obtain⟨q1,vs,q2,q3⟩:=h;exact⟨q1,vs,q2,fun i u hi=>let⟨r1,fc,r2,r3⟩:=q3 i u hi;⟨r1,fc,r2,r3.mono hk⟩⟩
 |yd yv Y pre g=>exact⟨h.1,h.2.1.trans hk,h.2.2⟩
 |_=>exact h
theorem rn:∀{s:Nat} {l:List RC} {i:Nat} {rc:RC},(i,rc)∈oP s l↔∃j,l[j]?=some rc/\i=s+j
 |s,[],i,rc=>by simp[oP]
 |s,x::l,i,rc=>by
  simp only[oP,AH,rn]
  constructor
  ·rintro(h|⟨j,h1,h2⟩)
   ·cases h;exact⟨0,rfl,rfl⟩
   ·exact⟨j+1,by simpa using h1,by omega⟩
  ·rintro⟨j,h1,h2⟩
   cases j with
   |zero=>simp at h1;subst h1;exact .inl (by rw[h2];rfl)
   |succ j=>exact .inr ⟨j,by simpa using h1,by omega⟩
def xr(s i:Nat)(rc:RC):RC ⊕ List RC->Prop
 |.inl y=>rc=y/\i=16*s
 |.inr ys=>∃k:Nat,ys[k]?=some rc/\i=16*s+k
theorem pb:∀{s:Nat} {l:List (RC ⊕ List RC)} {i:Nat} {rc:RC},(i,rc)∈mT s l↔∃(j:Nat) (x:RC ⊕ List RC),l[j]?=some x/\xr (s+j) i rc x
 |s,[],i,rc=>by simp[mT]
 |s,.inl x::l,i,rc=>by
  simp only[mT,AH,pb]
  constructor
  ·rintro(h|⟨j,y,h1,h2⟩)
   ·cases h;exact⟨0,_,rfl,rfl,rfl⟩
   ·exact⟨j+1,y,by simpa using h1,by rw[show s+(j+1)=s+1+j by omega];exact h2⟩
  ·rintro⟨j,y,h1,h2⟩
   cases j with
   |zero=>simp at h1;subst h1;obtain⟨h3,h4⟩:=h2;exact .inl (by rw[h3,h4];rfl)
   |succ j=>exact .inr ⟨j,y,by simpa using h1,by rw[show s+1+j=s+(j+1) by omega];exact h2⟩
 |s,.inr xs::l,i,rc=>by
  simp only[mT,AL,rn,pb]
  constructor
  ·rintro(⟨k,h1,h2⟩|⟨j,y,h1,h2⟩)
   ·exact⟨0,_,rfl,k,h1,h2⟩
   ·exact⟨j+1,y,by simpa using h1,by rw[show s+(j+1)=s+1+j by omega];exact h2⟩
  ·rintro⟨j,y,h1,h2⟩
   cases j with
   |zero=>simp at h1;subst h1;exact .inl h2
   |succ j=>exact .inr ⟨j,y,by simpa using h1,by rw[show s+1+j=s+(j+1) by omega];exact h2⟩
theorem rp{Nw:Nat->Prop}{w' wG:World}{img:Nat->Img}{rv:RV}{v:Value}(h:xm Nw w' wG img rv v){i:Nat}{rc:RC}(hi:(i,rc)∈dn rv):∃u,io Nw w' wG (img i) rc u:=by
 cases rv with
 |c x =>
  simp[dn]at hi
  obtain⟨rfl,rfl⟩:=hi;exact⟨v,h⟩
 |agg l =>
  obtain⟨arr,_,h1,h2⟩:=h;obtain⟨j,h3,rfl⟩:=rn.1 hi;obtain⟨u,_,h4⟩:=h2 j rc h3;exact⟨u,h4⟩
 |st sv ex outs=>exact h.elim
 |tup l =>
  obtain⟨arr,_,h1,h2⟩:=h;obtain⟨j,x,h3,h4⟩:=pb.1 hi;obtain⟨u,_,h5⟩:=h2 j x h3;cases x with
  |inl y=>obtain⟨rfl,rfl⟩:=h4;rw[AK];exact⟨u,h5⟩
  |inr ys =>
   obtain⟨k,h6,rfl⟩:=h4;obtain⟨arr',_,_,h7⟩:=h5;obtain⟨u',_,h8⟩:=h7 k rc h6;rw[AK];exact⟨u',h8⟩
theorem ad5{cs:List FC}{j:Nat}{d:FC}(h:cs[j]?=some d)(hd:dt d=false):qH cs=false:=by
 induction cs generalizing j with
 |nil=>simp at h
 |cons x l ih =>
  cases j with
  |zero=>simp at h;subst h;simp[qH,hd]
  |succ j=>simp[qH,ih (by simpa using h)]
theorem Qa{E E':Env}{d:FC}{v:Value}(h:ai E (dm d) v)(hw:dt d=false->bJ E.wF E'.wF):ai E' (dm d) v:=by
 cases d with
 |int k n=>exact h
 |bool b=>exact h
 |str l=>exact h
 |ints k l=>exact⟨h.1,h.2.mono (hw rfl)⟩
 |bools l=>exact⟨h.1,h.2.mono (hw rfl)⟩
 |rows k l=>exact⟨h.1,h.2.mono (hw rfl)⟩
 |r3 k l=>exact⟨h.1,h.2.mono (hw rfl)⟩
 |r4 k l=>exact⟨h.1,h.2.mono (hw rfl)⟩
 |p3 k l=>exact⟨h.1,h.2.mono (hw rfl)⟩
theorem xt{Nw:Nat->Prop}{w' wG:World}{m:Img}{rc:RC}{u:Value}(h:io Nw w' wG m rc u){ob:Ob}(ho:iR rc=some ob) :
  ((∀off n e ei k l,rc≠.cut off n e ei k l)->u=m.hd)/\u.oneCell'=true/\(∀E:Env,(wB rc=true->bJ wG E.wF)->aR E w' m ob)/\m.blocks.Nodup/\(∀b∈m.blocks,Nw b)/\ob.isFz=false:=by
 cases rc with
 |int k n=>cases ho
 |bool b=>cases ho
 |str l=>cases ho
 |ints e k l=>cases ho;obtain⟨h1,h2,h3,h4⟩:=h;exact⟨fun _=>h1,by rw[h1];exact gq h2.2,fun E _=>h2.env,h3,h4,rfl⟩
 |bools e l=>cases ho;obtain⟨h1,h2,h3,h4⟩:=h;exact⟨fun _=>h1,by rw[h1];exact gq h2.2,fun E _=>h2.env,h3,h4,rfl⟩
 |rows e ei k l=>cases ho;obtain⟨h1,h2,h3,h4⟩:=h;exact⟨fun _=>h1,by rw[h1];exact gq h2.1,fun E _=>h2.env,h3,h4,rfl⟩
 |strs e l=>cases ho;obtain⟨h1,h2,h3,h4⟩:=h;exact⟨fun _=>h1,by rw[h1];exact gq h2.2,fun E _=>h2.env,h3,h4,rfl⟩
 |lst e d =>
  cases ho;obtain⟨h1,⟨q1,vs,q2,q3⟩,h3,h4⟩:=h;exact⟨fun _=>h1,by rw[h1];exact gq q2,fun E hE=>⟨q1,vs,q2,fun i x hi=>let⟨r1,fc,r2,r3⟩:=q3 i x hi;⟨r1,fc,r2,r3.mono (hE rfl)⟩⟩,h3,h4,rfl⟩
 |cut off n e ei k l =>
  cases ho;obtain⟨h1,h2,h3,h4,h5⟩:=h;exact⟨fun hc=>absurd rfl (hc off n e ei k l),by rcases h1 with⟨_,rfl,_⟩|⟨_,_,_,_,_,rfl,_⟩<;>rfl,fun E _=>h3.env,h4,h5,rfl⟩
 |nilq b=>cases ho
 |ro d=>cases ho
 |gone x=>cases ho
 |tr es d =>
  cases ho;obtain⟨h1,h2,h3,h4⟩:=h;refine⟨fun _=>h1,?_,fun E _=>h2.env,h3,h4,rfl⟩
  obtain⟨nd,rfl,h5⟩:=h2;rw[h1];exact h5.one
 |bx cs =>
  cases ho;obtain⟨h1,⟨b,arr,t,k1,k2,k3,k4,k5⟩,h3,h4,_⟩:=h;refine⟨fun _=>h1,by rw[h1,k1];rfl,fun E hE=>⟨b,arr,t,k1,k2,k3,k4,fun j c hj=>?_⟩,h3,h4,rfl⟩
  obtain⟨x,q1,q2,q3⟩:=k5 j c hj;rw[Aj]at hj;cases hd:cs[j]? with
  |none=>rw[hd]at hj;cases hj
  |some d =>
   rw[hd]at hj;simp at hj
   subst hj;exact⟨x,q1,q2,Qa q3 fun hs=>hE (by simp[wB,ad5 hd hs])⟩
theorem Ij{i:Nat}{rc:RC}:∀{l:List (Nat×RC)},(i,rc)∈l->wB rc=true->roL l=true
 | [],h,_=>by simp at h
 |(j,x)::l,h,hr=>by
  simp only[roL,BI];rcases AH.1 h with h|h
  ·cases h;exact .inl hr
  ·exact .inr (Ij h hr)
theorem ad6{P:Program}{Nw:Nat->Prop}{w' wG:World}{img:Nat->Img}{rv:RV}{v:Value}(h:xm Nw w' wG img rv v){E:Env}{d:Nat}(hro:lP rv=true->bJ wG E.wF)
  (hE:∀i rc,(i,rc)∈dn rv->(iR rc).isSome=true->(∃s,E.st (d+1000*i)=.live s/\(∀cs,rc=.bx cs->0<s.len)/\∀off n e ei k l,rc=.cut off n e ei k l->l.length<=s.len)/\E.mu (d+1000*i)=img i):aw P E (lO d rv) v:=by
 have one:∀i rc u,(i,rc)∈dn rv->io Nw w' wG (img i) rc u->u.oneCell'=true/\ai E (lN (d+1000*i) rc) u:=fun i rc u hi hc=>by
  have obj:∀ob,iR rc=some ob->lN (d+1000*i) rc=.own (d+1000*i)->u.oneCell'=true/\ai E (lN (d+1000*i) rc) u:=fun ob ho hr=>by
   obtain⟨h1,h2,_⟩:=xt hc ho;obtain⟨⟨s,h3,_⟩,h4⟩:=hE i rc hi (by rw[ho];rfl)
   refine⟨h2,?_⟩
   rw[hr];refine⟨h2,?_⟩
   rw[h3]
   show u=(E.mu (d+1000*i)).hd
   rw[h4];exact h1 fun off n e ei k l he=>by rw[he]at hr;cases hr
  cases rc with
  |int k n=>simp only[io]at hc;subst hc;exact⟨rfl,rfl⟩
  |bool b=>simp only[io]at hc;subst hc;exact⟨rfl,rfl⟩
  |str l=>simp only[io]at hc;subst hc;exact⟨rfl,rfl⟩
  |ints e k l=>exact obj _ rfl rfl
  |bools e l=>exact obj _ rfl rfl
  |strs e l=>exact obj _ rfl rfl
  |rows e ei k l=>exact obj _ rfl rfl
  |cut off n e ei k l =>
   obtain⟨⟨s,h3,_,h5⟩,h4⟩:=hE i _ hi rfl;obtain⟨h1,h2,h6,_⟩:=hc;have hone:u.oneCell'=true:=by rcases h1 with⟨_,rfl,_⟩|⟨_,_,_,_,_,rfl,_⟩<;>rfl
   refine⟨hone,hone,?_⟩
   rw[h3];refine⟨An h2 (h5 _ _ _ _ _ _ rfl),?_⟩
   show cA (E.mu (d+1000*i)).hd off n u
   rw[h4];exact h1
  |lst e d=>exact obj _ rfl rfl
  |tr es d=>exact obj _ rfl rfl
  |gone x=>exact hc.elim
  |nilq b=>obtain⟨a,n,c,rfl,hb⟩:=hc;exact⟨rfl,a,n,c,rfl,hb⟩
  |ro d =>
   obtain⟨⟨a,n,c,rfl,hn⟩,hrd⟩:=hc;exact⟨rfl,⟨a,n,c,rfl,hn⟩,hrd.mono (hro (Ij hi rfl))⟩
  |bx cs =>
   obtain⟨⟨s,h3,h5,_⟩,h4⟩:=hE i _ hi rfl;obtain⟨h1,⟨b,arr,t,k1,_⟩,_⟩:=hc;have h2:u.oneCell'=true:=by rw[h1,k1];rfl
   refine⟨h2,h2,?_⟩
   rw[h3];refine⟨h5 cs rfl,b,?_,by rw[h1,k1]⟩
   show ac (E.mu (d+1000*i)).hd=some b
   rw[h4,k1];rfl
 have hL:∀(l:List RC) (s j:Nat),(jo d s l)[j]?=(l[j]?).map fun x=>lN (d+1000*(s+j)) x:=by
  intro l
  induction l with
  |nil=>intro s j;simp[jo]
  |cons x l ih =>
   intro s j
   cases j with
   |zero=>simp[jo]
   |succ j=>simp only[jo,BX,ih];rw[show s+1+j=s+(j+1) by omega]
 have hLl:∀(l:List RC) (s:Nat),(jo d s l).length=l.length:=by
  intro l
  induction l with
  |nil=>intro s;rfl
  |cons x l ih=>intro s;simp[jo,ih]
 have repL:∀(s:Nat) (l:List RC) (arr:Array Value),(∀j x,l[j]?=some x->(s+j,x)∈dn rv)->Ia Nw w' wG img s l arr->c9 E (jo d s l) arr:=fun s l arr hs hr=>by
  refine⟨by rw[hr.1,hLl],fun j c hj=>?_⟩
  rw[hL]at hj;cases hx:l[j]? with
  |none=>simp[hx]at hj
  |some x =>
   simp[hx]at hj;subst hj
   obtain⟨u,h1,h2⟩:=hr.2 j x hx;obtain⟨h3,h4⟩:=one (s+j) x u (hs j x hx) h2;exact⟨u,h1,h3,h4⟩
 have hT:∀(l:List (RC ⊕ List RC)) (s j:Nat),(kL d s l)[j]?=(l[j]?).map fun x=>match x with|.inl y=>.inl (lN (d+1000*(16*(s+j))) y)|.inr ys=>.inr (jo d (16*(s+j)) ys):=by
  intro l
  induction l with
  |nil=>intro s j;simp[kL]
  |cons x l ih =>
   intro s j
   cases x<;>cases j with
   |zero=>simp[kL]
   |succ j=>simp only[kL,BX,ih];rw[show s+1+j=s+(j+1) by omega]
 have hTl:∀(l:List (RC ⊕ List RC)) (s:Nat),(kL d s l).length=l.length:=by
  intro l
  induction l with
  |nil=>intro s;rfl
  |cons x l ih=>intro s;cases x<;>simp[kL,ih]
 cases rv with
 |c x=>exact(one 0 x v (by simp[dn]) h).2
 |agg l =>
  obtain⟨arr,rfl,h1⟩:=h;exact⟨arr,rfl,repL 0 l arr (fun j x hj=>rn.2 ⟨j,hj,rfl⟩) h1⟩
 |st sv ex outs=>exact h.elim
 |tup l =>
  obtain⟨arr,rfl,h1,h2⟩:=h;refine⟨arr,rfl,by rw[h1,hTl],fun j c hj=>?_⟩
  rw[hT]at hj;cases hx:l[j]? with
  |none=>simp[hx]at hj
  |some x =>
   obtain⟨u,h3,h4⟩:=h2 j x hx;simp[hx]at hj;subst hj
   refine⟨u,h3,?_⟩
   cases x with
   |inl y=>exact one (16*j) y u (pb.2 ⟨j,_,hx,rfl,by rw[AK]⟩) h4
   |inr ys =>
    obtain⟨arr',rfl,h5⟩:=h4;exact⟨arr',rfl,repL (16*j) ys arr' (fun k x hk=>pb.2 ⟨j,_,hx,k,hk,by rw[AK]⟩) h5⟩
section
variable {C:Cx} {σ:State} {mu:Nat->Img} {a:Act} {w w':World}
theorem rq{d:Nat}{f:FuncId}{mt:List (Nat×Nat)}{ct:List AD->Option Post}(hf:Fits C.P f ⟨mt,ct⟩)(h:St C σ mu a w){hid:List Nat}(hnd:hid.Nodup)(hl1:hid.length=mt.length)
  {ms:List Img}{obs:List Ob}(hm1:ms.length=hid.length)(hm2:obs.length=hid.length){ads:List AD}{pre q:Prop}{ret:RV}{wrs:List RC}{ups:List (Nat×Option Ob)}(hpost:ct ads=some ⟨pre,ret,wrs⟩)(ξ:pre)(hobq:q)
  (hwl:wrs.length=hid.length)(hwn:∀o,o ∉ hid->lk ups o=none){wF:World}
  (hwr:∀(x:Nat) (o:Nat) (rc:RC),hid[x]?=some o->wrs[x]?=some rc->∃m ob ob' ob0 p,ms[x]?=some m/\obs[x]?=some ob/\aR (E0 wF) w m ob/\m.blocks=(mu o).blocks/\dz ob rc=some (ob',p)/\(q->p) /\
   σ.H o=some (some ob0)/\ob0.isFz=false/\((rc.isGone=true/\lk ups o=some none)\/(rc.isGone=false/\∃obN,lk ups o=some (some obN)/\obN.isFz=false /\
    (obN.shp.len=ob0.shp.len/\ob0.shp.ver<=obN.shp.ver/\(obN.shp.ver=ob0.shp.ver->obN.shp.rl=ob0.shp.rl))/\∀E w',bJ C.wF E.wF->b7 (σ.env C.wF mu) E->aR (E0 w) w' m ob'->aR E w' (mu o) obN)))
  (θ:∀o x,lk (d5 d (dn ret)) o=some x->σ.H o=none)(hkept:∀p u,wF.cell? p=some u->w.cell? p=some u/\∀o∈hid,p.block ∉ (mu o).blocks)
  (hro:lP ret=true->wF=C.wF)
  {vs:List Value}(hal:vs.length=ads.length)(hargs:∀(i:Nat) (ad:AD),ads[i]?=some ad->∃v,vs[i]?=some v/\dh C.P wF mt ms obs i ad v)
  {pp:Option Prop}{dst:Option Nat}(hd:∀d,dst=some d->d<C.N) :
  Calls C.P f vs.toArray w fun e w'=>∃v,e=.returned v/\ay C (σ.app dst ⟨lO d ret,d5 d (dn ret)++ups,pp⟩) (a.put dst v) w':=by
 have hwx:∀(x o:Nat),hid[x]?=some o->∃rc,wrs[x]?=some rc:=fun x o hx =>
  ⟨_,AF (by rw[hwl];exact(AJ.1 hx).1)⟩
 have hox:∀(x:Nat) (m:Img),ms[x]?=some m->∃o,hid[x]?=some o:=fun x m hx =>
  ⟨_,AF (by rw[<-hm1];exact(AJ.1 hx).1)⟩
 have hbx:∀(x:Nat) (m:Img) (o:Nat),ms[x]?=some m->hid[x]?=some o->m.blocks=(mu o).blocks/\∃ob,σ.H o=some (some ob):=fun x m o hx ho=>by
  obtain⟨rc,hrc⟩:=hwx x o ho;obtain⟨m',ob,ob',ob0,p,k1,_,_,k4,_,_,k7,_⟩:=hwr x o rc ho hrc;rw[hx]at k1;cases k1;exact⟨k4,ob0,k7⟩
 refine(hf.run w wF vs ads ⟨pre,ret,wrs⟩ ms obs hpost ξ hal (by rw[hm1,hl1]) (by rw[hm2,hl1]) (by rw[hwl];exact hl1) ?_ ?_ ?_ ?_ ?_).mono ?_
 ·intro x m ob hx hx2
  obtain⟨o,ho⟩:=hox x m hx;obtain⟨rc,hrc⟩:=hwx x o ho;obtain⟨m',ob',ob2,ob0,p,k1,k2,k3,k4,_,_,k7,_⟩:=hwr x o rc ho hrc;rw[hx]at k1;cases k1;rw[hx2]at k2;cases k2;exact⟨k3,by rw[k4];exact(h.nd o _ k7).1⟩
 ·intro x x' m m' hne hx hx' b hb hb'
  obtain⟨o,ho⟩:=hox x m hx;obtain⟨o',ho'⟩:=hox x' m' hx';obtain⟨k1,ob,k2⟩:=hbx x m o hx ho;obtain⟨k1',ob',k2'⟩:=hbx x' m' o' hx' ho';rw[k1]at hb;rw[k1']at hb';refine h.sep o o' ob ob' (fun hc=>hne ?_) k2 k2' b hb hb'
  subst hc;exact(Cg (AJ.1 ho).1 hnd).1 (ho.trans ho'.symm)
 ·intro x ob rc hx hrc
  have ψ:x<ms.length:=by rw[hm1,<-hm2];exact(AJ.1 hx).1
  obtain⟨o,ho⟩:=hox x _ (AF ψ);obtain⟨m',ob',ob2,ob0,p,_,k2,_,_,k5,k6,_⟩:=hwr x o rc ho hrc;rw[hx]at k2;cases k2;exact⟨_,_,k5,k6 hobq⟩
 ·intro p u hp
  obtain⟨h1,h2⟩:=hkept p u hp;refine⟨h1,fun m hm hb=>?_⟩
  obtain⟨x,hx⟩:=Ah hm;obtain⟨o,ho⟩:=hox x m hx;rw[(hbx x m o hx ho).1]at hb;exact h2 o (AI ho) hb
 ·exact hargs
 ·rintro e w' ⟨v,ms',img,wG,rfl,haft,hml,hms,hgw,hret⟩
  refine⟨v,rfl,?_⟩
  let ru:=d5 d (dn ret)
  have hrul:∀o x,lk ru o=some x->∃i rc ob,(i,rc)∈dn ret/\o=d+1000*i/\iR rc=some ob/\x=some ob:=fun o x hx=>xp hx
  let mu':Nat->Img:=fun o=>match lk ru o with
   |some _=>img ((o-d) / 1000)
   |none=>mu o
  have hmuR:∀o x i,lk ru o=some x->o=d+1000*i->mu' o=img i:=fun o x i hx ho=>by
   simp only[mu',hx];rw[show(o-d) / 1000=i by omega]
  have hlive:∀o∈hid,∃ob,σ.H o=some (some ob):=fun o ho=>by
   obtain⟨x,hx⟩:=Ah ho;have ψ:x<ms.length:=by rw[hm1];exact(AJ.1 hx).1
   exact(hbx x _ o (AF ψ) hx).2
  have hnotR:∀o∈hid,lk ru o=none:=fun o ho=>by
   cases hx:lk ru o with
   |none=>rfl
   |some x =>
    obtain⟨ob,h1⟩:=hlive o ho;have:=θ o x hx
    rw[h1]at this;cases this
  have hmuO:∀o,lk ru o=none->mu' o=mu o:=fun o hn=>by simp only[mu',hn]
  have hlkE:∀o,lk (ru++ups) o=match lk ru o with|some x=>some x|none=>lk ups o:=fun o=>by rw[gt];cases lk ru o<;>rfl
  have hH:∀o∈hid,∃ob,σ.H o=some (some ob)/\ob.isFz=false/\mu' o=mu o/\((lk (ru++ups) o=some none)\/∃ob',lk (ru++ups) o=some (some ob')/\ob'.isFz=false /\
    (∀E,bJ C.wF E.wF->b7 (σ.env C.wF mu) E->aR E w' (mu o) ob')/\ob'.shp.len=ob.shp.len/\ob.shp.ver<=ob'.shp.ver/\(ob'.shp.ver=ob.shp.ver->ob'.shp.rl=ob.shp.rl)):=fun o ho=>by
   obtain⟨x,hx⟩:=Ah ho;obtain⟨rc,hrc⟩:=hwx x o hx;obtain⟨m,ob,ob',ob0,p,k1,k2,k3,k4,k5,k6,k7,k71,k8⟩:=hwr x o rc hx hrc;refine⟨ob0,k7,k71,hmuO o (hnotR o ho),?_⟩
   rcases k8 with⟨_,k8⟩|⟨k80,obN,k8,k81,k9,k10⟩
   ·exact .inl (by rw[hlkE,hnotR o ho];exact k8)
   ·have ψ:x<ms'.length:=by rw[hml];exact(AJ.1 k1).1
    obtain⟨j0,_,_,_,ob3,q3,j4,j5⟩:=hms x m _ ob rc k1 (AF ψ) k2 hrc k80;rw[k5]at j4;cases j4;rw[j0]at j5;exact .inr ⟨obN,by rw[hlkE,hnotR o ho];exact k8,k81,fun E hE1 hE2=>k10 E w' hE1 hE2 j5,k9.1,k9.2.1,k9.2.2⟩
  have hups:∀o x,lk ups o=some x->o∈hid:=fun o x hx=>by
   refine BU fun hc=>?_
   rw[hwn o hc]at hx;cases hx
  obtain⟨wC,hC1,hC2,hC3⟩:∃wC,bJ C.wF wC/\(lP ret=true->bJ wG wC)/\∀p u,wC.cell? p=some u->C.wF.cell? p=some u\/(lP ret=true/\wG.cell? p=some u/\w'.cell? p=some u/\(w.heap.size<=p.block\/kb ms wrs p.block)):=by
   cases hr:lP ret with
   |false=>exact⟨C.wF,fun _ _ h=>h,(fun h=>by cases h),fun p u hp=>.inl hp⟩
   |true =>
    have e:=hro hr
    refine⟨wG,fun p u hp=>hgw.kept p u (by rw[e];exact hp),fun _ _ _ h=>h,fun p u hp=>?_⟩
    obtain⟨h1,h2⟩:=hgw.new p u hp;rcases h2 with h2|h2
    ·exact .inl (by rw[<-e];exact h2)
    ·exact .inr ⟨rfl,hp,h1,h2⟩
  have heat:∀b,kb ms wrs b->∃o∈hid,b∈(mu o).blocks/\lk (ru++ups) o=some none:=fun b ⟨x,m,rc,e1,e2,e3,e4⟩=>by
   obtain⟨o,ho⟩:=hox x m e1;obtain⟨m',ob,ob',ob0,p,k1,_,_,k4,_,_,_,_,k8⟩:=hwr x o rc ho e2;rw[e1]at k1;cases k1;refine⟨o,AI ho,by rw[<-k4];exact e4,?_⟩
   rcases k8 with⟨_,k8⟩|⟨k8,_⟩
   ·rw[hlkE,hnotR o (AI ho)];exact k8
   ·rw[e3]at k8;cases k8
  have htch:∀o∈hid,∀b∈(mu o).blocks,jr σ mu ⟨lO d ret,ru++ups,pp⟩ b:=fun o ho b hb=>by
   obtain⟨ob,h1,_,_,h2⟩:=hH o ho;rcases h2 with h2|⟨ob',h2,_⟩
   ·exact⟨o,none,ob,h2,h1,hb⟩
   ·exact⟨o,some ob',ob,h2,h1,hb⟩
  have hold:∀o x,lk ru o=none->lk (ru++ups) o=some x->∃ob1,σ.H o=some (some ob1)/\mu' o=mu o/\o∈hid:=fun o x hn hx=>by
   rw[hlkE,hn]at hx;obtain⟨ob1,h1,_,h3,_⟩:=hH o (hups o _ hx);exact⟨ob1,h1,h3,hups o _ hx⟩
  have hnew:∀o y,lk ru o=some y->∃i rc,(i,rc)∈dn ret/\o=d+1000*i/\mu' o=img i/\(iR rc).isSome=true/\∀b∈(mu' o).blocks,w.heap.size<=b\/kb ms wrs b:=fun o y hx=>by
   obtain⟨i,rc,ob',h1,h2,h3,h4⟩:=hrul o _ hx;obtain⟨u,h5⟩:=rp hret.val h1;obtain⟨_,_,_,_,h8,_⟩:=xt h5 h3;rw[hmuR o _ i hx h2];exact⟨i,rc,h1,h2,rfl,by rw[h3];rfl,h8⟩
  have hfar:∀b,(w.heap.size<=b\/kb ms wrs b)->∀o ob,σ.H o=some (some ob)->lk (ru++ups) o≠some none->b ∉ (mu o).blocks:=fun b hb o ob ho hn hc=>by
   rcases hb with hb|hb
   ·have:=(h.ob o ob ho).block b hc;omega
   ·obtain⟨o2,ho2,hb2,hl2⟩:=heat b hb
    obtain⟨ob2,h2⟩:=hlive o2 ho2;exact h.sep o o2 ob ob2 (fun hcc=>hn (by rw[hcc];exact hl2)) ho h2 b hc hb2
  refine⟨wC,mu',⟨hC1,fun p u hp=>?_⟩,h.upsG (mu':=mu') hd haft.os haft.tape haft.output haft.size (fun b hb ht=>haft.block b hb fun m hm hbm=>ht ?_) hC1 (fun p u hp=>?_) (fun o ho=>?_) (fun o x ho=>?_) (fun o ob ho=>?_) (fun o o' ob ob' hne ho ho' b hb hb'=>?_) (fun _=>?_)⟩
  ·rcases hC3 p u hp with h1|⟨_,_,_,h1⟩
   ·exact .inl h1
   ·rcases h1 with h1|h1
    ·exact .inr (.inl (An h.size h1))
    ·obtain⟨o,ho,hb,_⟩:=heat _ h1
     obtain⟨ob,hob⟩:=hlive o ho;exact .inr ((h.nd o ob hob).2 _ hb).symm
  ·obtain⟨x,hx⟩:=Ah hm
   obtain⟨o,ho⟩:=hox x m hx;rw[(hbx x m o hx ho).1]at hbm;exact htch o (AI ho) b hbm
  ·rcases hC3 p u hp with h1|⟨hr,h0,h1,h2⟩
   ·exact .inl h1
   ·refine .inr ⟨h1,fun o ob ho hob=>hfar _ h2 o ob hob (by rw[show lk (ru++ups) o=none from ho];simp),fun o ob ho=>?_⟩
    have ho:lk (ru++ups) o=some (some ob):=ho
    cases hx:lk ru o with
    |some y =>
     obtain⟨i,rc,k1,k2,k3,k4,_⟩:=hnew o y hx;rw[k3];exact hret.fz p u h0 i rc k1 k4
    |none =>
     obtain⟨ob1,k1,k2,_⟩:=hold o _ hx ho;rw[k2];exact hfar _ h2 o ob1 k1 (by rw[ho];simp)
  ·have ho:lk (ru++ups) o=none:=ho
   rw[hlkE]at ho;cases hx:lk ru o with
   |some x=>rw[hx]at ho;cases ho
   |none=>exact hmuO o hx
  ·have ho:lk (ru++ups) o=some x:=ho
   have ho2:=ho
   rw[hlkE]at ho;cases hx:lk ru o with
   |some y =>
    have:σ.ost o=.absent:=by simp[State.ost,θ o y hx]
    rw[this];exact .inl trivial
   |none =>
    rw[hx]at ho;obtain⟨ob,h1,h10,h3,h4⟩:=hH o (hups o x ho);rcases h4 with h4|⟨ob',h2,h21,h4,h8,h9,h11⟩
    ·rw[ho2]at h4
     cases h4;exact .inl (wW h1)
    ·rw[ho2]at h2
     cases h2
     left
     rw[cr h1 h10,h3];simp only[m6];rw[mW h21];exact⟨h8,rfl,h9,fun hv=>⟨rfl,h11 hv⟩⟩
  ·have ho:lk (ru++ups) o=some (some ob):=ho
   have ho2:=ho
   rw[hlkE]at ho;cases hx:lk ru o with
   |some y =>
    rw[hx]at ho;cases ho;obtain⟨i,rc,ob',h1,h2,h3,h4⟩:=hrul o _ hx;cases h4;obtain⟨u,h5⟩:=rp hret.val h1;obtain⟨_,_,h6,h7,h8,_⟩:=xt h5 h3;rw[hmuR o _ i hx h2];refine⟨h6 (σ.env wC mu) fun hr=>hC2 (Ij h1 hr),h7,fun b hb=>?_⟩
    rcases h8 b hb with h9|h9
    ·exact .inr h9
    ·obtain⟨o2,q1,q2,_⟩:=heat b h9
     exact .inl (htch o2 q1 b q2)
   |none =>
    rw[hx]at ho;obtain⟨ob1,h1,_,h3,h4⟩:=hH o (hups o _ ho);rcases h4 with h4|⟨ob',h2,_,h4,_⟩
    ·rw[ho2]at h4;cases h4
    ·rw[ho2]at h2
     cases h2;rw[h3];exact⟨h4 (σ.env wC mu) hC1 ⟨hC1,fun _=>dQ.refl _ _ _⟩,(h.nd o _ h1).1,fun b hb=>.inl ⟨o,_,ob1,ho2,h1,hb⟩⟩
  ·have ho:lk (ru++ups) o=some (some ob):=ho
   have ho':lk (ru++ups) o'=some (some ob'):=ho'
   cases hx:lk ru o with
   |some y =>
    obtain⟨i,rc,h1,h2,h3,h4,h5⟩:=hnew o y hx;cases hx':lk ru o' with
    |some y' =>
     obtain⟨i',rc',h1',h2',h3',h4',_⟩:=hnew o' y' hx';rw[h3]at hb;rw[h3']at hb';exact hret.sep i i' rc rc' h1 h1' (fun hc=>hne (by rw[h2,h2',hc])) h4 h4' b hb hb'
    |none =>
     obtain⟨ob1,k1,k2,_⟩:=hold o' _ hx' ho';rw[k2]at hb';exact hfar b (h5 b hb) o' ob1 k1 (by rw[ho'];simp) hb'
   |none =>
    obtain⟨ob1,k1,k2,_⟩:=hold o _ hx ho;rw[k2]at hb;cases hx':lk ru o' with
    |some y' =>
     obtain⟨_,_,_,_,_,_,h5⟩:=hnew o' y' hx';exact hfar b (h5 b hb') o ob1 k1 (by rw[ho];simp) hb
    |none =>
     obtain⟨ob1',k1',k2',_⟩:=hold o' _ hx' ho';rw[k2']at hb';exact h.sep o o' ob1 ob1' hne k1 k1' b hb hb'
  ·refine ad6 hret.val hC2 fun i rc hi hs=>?_
   cases hoo:iR rc with
   |none=>rw[hoo]at hs;cases hs
   |some ob =>
    obtain⟨ob',h1⟩:=P8 (d:=d) hi hoo;obtain⟨i',rc',ob2,q1,q2,q3,q4⟩:=xp h1;have:i'=i:=by omega
    subst this;cases q4;obtain⟨u2,r2⟩:=rp hret.val q1;have hnf:=(xt r2 q3).2.2.2.2.2
    refine⟨⟨ob'.shp,?_,?_,?_⟩,hmuR _ _ i' h1 rfl⟩
    ·have:lk (ru++ups) (d+1000*i')=some (some ob'):=by rw[hlkE];simp only[ru,h1]
     simp only[State.env,State.ost,j8];rw[show lk (d5 d (dn ret)++ups) (d+1000*i')=some (some ob') from this]
     exact mW hnf
    ·rintro cs rfl
     obtain⟨u1,_,⟨b,arr,t,k1,_⟩,_⟩:=rp hret.val hi;cases rc' with
     |ints e k l =>
      obtain⟨_,r3,_⟩:=r2;rcases r3.2.2 with⟨r4,_⟩|⟨_,_,_,r4,_⟩<;>rw[k1]at r4<;>cases r4
     |bools e l =>
      obtain⟨_,r3,_⟩:=r2;rcases r3.2.2 with⟨r4,_⟩|⟨_,_,_,r4,_⟩<;>rw[k1]at r4<;>cases r4
     |strs e l =>
      obtain⟨_,r3,_⟩:=r2;rcases r3.2.2 with⟨r4,_⟩|⟨_,_,_,r4,_⟩<;>rw[k1]at r4<;>cases r4
     |rows e ei k l =>
      obtain⟨_,r3,_⟩:=r2;rcases r3.1.2 with⟨r4,_⟩|⟨_,_,_,r4,_⟩<;>rw[k1]at r4<;>cases r4
     |lst e dd =>
      obtain⟨_,⟨_,vs0,r3,_⟩,_⟩:=r2;rcases r3.2 with⟨r4,_⟩|⟨_,_,_,r4,_⟩<;>rw[k1]at r4<;>cases r4
     |tr es dd =>
      obtain⟨_,⟨nd,r6,r7⟩,_⟩:=r2;obtain⟨e9,xs9,r3⟩:=r7.row;have r8:(img i').hd=aK nd:=by rw[r6];rfl
      rcases r3.2 with⟨r4,_⟩|⟨_,_,_,r4,_⟩<;>rw[<-r8,k1]at r4<;>cases r4
     |cut off n e ei k l =>
      obtain⟨_,_,r3,_⟩:=r2;rcases r3.1.2 with⟨r4,_⟩|⟨_,_,_,r4,_⟩<;>rw[k1]at r4<;>cases r4
     |bx cs' =>
      cases q3;obtain⟨_,_,_,_,r5⟩:=r2
      show 0<(cs'.map dm).length
      rw[Ae];exact DD.2 r5
     |_=>cases q3
    ·rintro off n e ei k l rfl
     obtain⟨u1,_,_,k1,_⟩:=rp hret.val hi;have len:∀{e' sz:Nat} {n':Nat} {xs:List Value},w'.ownsRow 0 e' sz (img i').hd n' xs->l.length<=n':=fun {e' sz n' xs} hr=>by
      rcases k1.1.2 with⟨z1,z2⟩|⟨g,cap,cur,z1,_⟩
      ·rw[z2];exact Ad _
      ·rcases hr.2 with⟨y1,y2⟩|⟨g',cap',cur',y1,_⟩
       ·rw[z1]at y1;cases y1
       ·rw[z1]at y1;cases y1;exact AE _
     have lenD:∀{e':Nat} {dd:FC} {xs:List Value},w'.ownsRow 0 e' dd.wid (img i').hd dd.len xs->l.length<=dd.slen:=fun {e' dd xs} hr=>by
      have h1:=len hr
      cases dd with
      |p3 k2 l2 =>
       rcases k1.1.2 with⟨z1,z2⟩|⟨g,cap,cur,z1,_,z2,z3,_,z4,_⟩
       ·rw[z2];exact Ad _
       ·rcases hr.2 with⟨y1,y2⟩|⟨g',cap',cur',y1,_,y2,_,_,y4,_⟩
        ·rw[z1]at y1;cases y1
        ·rw[z1]at y1
         injection y1 with y11 y12 y13
         injection y11 with y11
         injection y11 with y11
         subst y11;rw[z2]at y2;cases y2;have y4:cur.size=cap' * 2:=y4
         omega
      |_=>exact h1
     cases rc' with
     |ints e k l2=>cases q3;obtain⟨_,r3,_⟩:=r2;exact len r3.2
     |bools e l2=>cases q3;obtain⟨_,r3,_⟩:=r2;exact len r3.2
     |strs e l2=>cases q3;obtain⟨_,r3,_⟩:=r2;exact len r3.2
     |rows e ei k l2=>cases q3;obtain⟨_,r3,_⟩:=r2;exact len r3.1
     |lst e dd=>cases q3;obtain⟨_,⟨_,vs0,r3,_⟩,_⟩:=r2;exact lenD r3
     |tr es dd =>
      cases q3;obtain⟨_,⟨nd,r6,r7⟩,_⟩:=r2;obtain⟨e9,xs9,r3⟩:=r7.row;have r8:(img i').hd=aK nd:=by rw[r6];rfl
      rw[<-r8]at r3;exact lenD r3
     |cut off n e ei k l2=>cases q3;obtain⟨_,_,r3,_⟩:=r2;exact len r3.1
     |bx cs' =>
      exfalso
      obtain⟨_,⟨b,arr,t,y1,_⟩,_⟩:=r2;rcases k1.1.2 with⟨z1,_⟩|⟨_,_,_,z1,_⟩<;>rw[y1]at z1<;>cases z1
     |_=>cases q3
theorem Qb(h:St C σ mu a w){hid:List Nat}{ups:List (Nat×Option Ob)}{q:Prop}{x o:Nat}{rc:RC}{wF:World}(hk:bJ C.wF wF)(hw:∃ob ob' p,σ.H o=some (some ob)/\dz ob rc=some (ob',p)/\(q->p)/\lk ups o=some (oS rc ob'))(hq:q)(hx:hid[x]?=some o) :
  ∃m ob ob' ob0 p,(hid.map mu)[x]?=some m/\(hid.map (fE σ))[x]?=some ob/\aR (E0 wF) w m ob/\m.blocks=(mu o).blocks/\dz ob rc=some (ob',p)/\(q->p) /\
   σ.H o=some (some ob0)/\ob0.isFz=false/\((rc.isGone=true/\lk ups o=some none)\/(rc.isGone=false/\∃obN,lk ups o=some (some obN)/\obN.isFz=false /\
    (obN.shp.len=ob0.shp.len/\ob0.shp.ver<=obN.shp.ver/\(obN.shp.ver=ob0.shp.ver->obN.shp.rl=ob0.shp.rl))/\∀E w',bJ C.wF E.wF->b7 (σ.env C.wF mu) E->aR (E0 w) w' m ob'->aR E w' (mu o) obN)):=by
 obtain⟨ob,ob',p,h1,h2,h3,h4⟩:=hw;obtain⟨n1,n2⟩:=ad4 h2;refine⟨mu o,ob,ob',ob,p,by simp[hx],by simp[hx,fE,h1],(h.ob o ob h1).toE0 hk n2,rfl,h2,h3,h1,n1,?_⟩
 cases hg:rc.isGone with
 |true=>exact .inl ⟨rfl,by rw[h4];simp[oS,hg]⟩
 |false =>
  obtain⟨s1,s2,s3,s4,s5,s6,s7⟩:=ad3 h2 hg (h3 hq);exact .inr ⟨rfl,ob',by rw[h4];simp[oS,hg],s7,⟨s1,s2,s3⟩,fun E w' _ _ hr=>hr.env s5⟩
theorem Qc:∀{mt:List (Nat×Nat)} {i j x:Nat},bY mt i j=some x->(i,j)∈mt:=fun h=>AI (jw h)
theorem Ik{svs:List SV}:∀{mt:List (Nat×Nat)},wK svs mt=true->∀i j,(i,j)∈mt->∃c,svs[i]?=some (.c c)/\j=0
 | [],_,i,j,h=>by simp at h
 |(i0,j0)::mt,hm,i,j,h=>by
  simp only[wK,AG]at hm;rcases AH.1 h with h|h
  ·cases h
   have:=hm.1
   split at this
   ·rename_i c hc;exact⟨c,hc,AX this⟩
   ·cases this
  ·exact Ik hm.2 i j h
theorem ad7{d:Nat}{f:FuncId}{mt:List (Nat×Nat)}{ct:List AD->Option Post}(hf:Fits C.P f ⟨mt,ct⟩){hid:List Nat}{svs:List SV}{ts:List TypeId}{eff:Eff}(hhid:oR svs mt=some hid)(hnd:hid.Nodup)
  (hr:(wL C.P d mt ct hid svs ts).run σ=some eff)(hob:eff.obl)(h:St C σ mu a w)
  {vs:List Value}(hvl:vs.length=svs.length)(hvs:∀(i:Nat) (sv:SV),svs[i]?=some sv->∃v,vs[i]?=some v/\aw C.P (σ.env C.wF mu) sv v){dst:Option Nat}(hd:∀d,dst=some d->d<C.N) :
  Calls C.P f vs.toArray w fun e w'=>∃v,e=.returned v/\ay C (σ.app dst eff) (a.put dst v) w':=by
 unfold wL at hr;split at hr
 ·simp[Rd.run]at hr
 ·rename_i hmt0
  obtain⟨hl1,hm1⟩:=Ic hhid;obtain⟨ads,fs,hr2,k1,k2,k3,k4⟩:=Ih h svs 0 ts _ _ (fun y sv hy x j hx=>by
   rw[AK]at hx;obtain⟨o,sv',cs,h1,h2,h3,h4⟩:=hm1 x (y,j) (jw hx);obtain⟨c,h5,h6⟩:=Ik hmt0 y j (Qc hx);have h2:svs[y]?=some sv':=h2
   rw[h2]at h5;cases h5;rw[h2]at hy;cases hy;have h6:j=0:=h6
   subst h6;simp only[jR]at h3;split at h3
   ·cases h3
    exact⟨o,c,h1,rfl,by simpa using h4,rfl⟩
   ·cases h3) hr
  clear hr;split at hr2
  ·simp[Rd.run]at hr2
  ·rename_i pre ret wrs hpost
   obtain⟨ups,q,hr3,hwl,hwn,hwr⟩:=xq hr2;have hwr:=hwr hnd
   obtain⟨hr4,θ⟩:=nv hr3;simp only[Rd.run,AC]at hr4;subst hr4;obtain⟨wG,mu1,g1,s1,m1,e1⟩:=h.fzs fs k1;have hno:∀o∈hid,∀x,(o,x) ∉ fs:=fun o ho x hm=>k2 o x hm ho
   have hms:hid.map mu1=hid.map mu:=Ch fun o ho=>m1 o (hno o ho)
   have hobs:hid.map (fE (State.mk σ.fr (fs++σ.hp)))=hid.map (fE σ):=Ch fun o ho=>by unfold fE;rw[gv (hno o ho)]
   have hin:=ad0 k1 wG mu1
   have hcore:=rq (C:=C.fz wG) hf s1 hnd hl1 (ms:=hid.map mu1) (obs:=hid.map (fE (State.mk σ.fr (fs++σ.hp)))) (by simp) (by simp) (wF:=wG) hpost hob.1 hob.2 hwl hwn
    (fun x o rc hx hrc=>Qb s1 (fun _ _ h=>h) (by
     obtain⟨ob,ob',p,q1,q2,q3,q4⟩:=hwr x o rc hx hrc;exact⟨ob,ob',p,by rw[gv (hno o (AI hx))];exact q1,q2,q3,q4⟩) hob.2 hx)
    (fun o x hx=>by rw[gv (nj k1 (θ o x hx))];exact θ o x hx)
    (fun p u hp=>⟨(s1.cells p u hp).2,fun o ho hb=>by
     obtain⟨x,hx⟩:=Ah ho;obtain⟨rc,hrc⟩:∃rc,wrs[x]?=some rc:=⟨_,AF (by rw[hwl];exact(AJ.1 hx).1)⟩
     obtain⟨ob,ob',p',q1,_⟩:=hwr x o rc hx hrc;exact(s1.cells p u hp).1 o ob (by rw[gv (hno o ho)];exact q1) hb⟩)
    (fun _=>rfl) (vs:=vs) (by rw[hvl,k3]) (fun i ad hi=>by
     obtain⟨sv,h1,h2⟩:=k4 i ad hi;obtain⟨v,h3,h4⟩:=hvs i sv h1;refine⟨v,h3,?_⟩
     have:=h2 v h4 _ e1 hin
     rw[AK]at this;rw[hms,hobs];exact this) (dst:=dst) hd (pp:=some (pre/\q))
   refine hcore.mono ?_
   rintro e w' ⟨v,rfl,hs⟩
   refine⟨v,rfl,ay.up g1 (ay.eqv (fun t=>by rw[lR,lR];rfl) (fun x=>?_) hs)⟩
   show lk ((d5 d (dn ret)++(ups++fs))++σ.hp) x=lk ((d5 d (dn ret)++ups)++(fs++σ.hp)) x
   rw[Ap,Ap,Ap]
theorem ke{Γ:FuncId->Option Ctr}(hΓ:di C.P Γ){d:Nat}{f:FuncId}{svs:List SV}{ts:List TypeId}{eff:Eff}(hr:(ig C.P Γ d f svs ts).run σ=some eff)(hob:eff.obl)(h:St C σ mu a w)
  {vs:List Value}(hvl:vs.length=svs.length)(hvs:∀(i:Nat) (sv:SV),svs[i]?=some sv->∃v,vs[i]?=some v/\aw C.P (σ.env C.wF mu) sv v){dst:Option Nat}(hd:∀d,dst=some d->d<C.N) :
  (∃fn,C.P.funcs[f]?=some fn/\fn.body.isSome=true/\(fn.name == "runtime.NumGoroutine")=false) /\
  Calls C.P f vs.toArray w fun e w'=>∃v,e=.returned v/\ay C (σ.app dst eff) (a.put dst v) w':=by
 unfold ig at hr;split at hr
 ·simp[Rd.run]at hr
 ·rename_i mt ct hct
  have hf:=hΓ f _ hct
  refine⟨hf.fn,?_⟩
  split at hr
  ·simp[Rd.run]at hr
  ·rename_i hid hhid
   split at hr
   ·simp[Rd.run]at hr
   ·rename_i hnd
    have hnd:=kU hnd
    obtain⟨hl1,hm1⟩:=Ic hhid;by_cases hlive:∀o∈hid,∃ob,σ.H o=some (some ob)
    case neg =>
     exfalso
     apply hlive
     intro o ho
     have key:∀(svs:List SV) (i:Nat) (ts:List TypeId) (K:List AD->Rd Eff),(jW C.P Γ hid mt i svs ts K).run σ=some eff->∃ds,(K ds).run σ=some eff:=by
      intro svs
      induction svs with
      |nil=>intro i ts K hr;exact⟨[],hr⟩
      |cons sv svs ih =>
       intro i ts K hr
       simp only[jW]at hr;have arg:∀{K:AD->Rd Eff},(oO C.P Γ hid mt i (ts.headD 0) sv K).run σ=some eff->∃d,(K d).run σ=some eff:=fun {K} hr=>P5 hr
       obtain⟨d,hr2⟩:=arg hr;obtain⟨ds,hr3⟩:=ih _ _ _ hr2;exact⟨_,hr3⟩
     obtain⟨ds,hr2⟩:=key svs 0 ts _ hr;split at hr2
     ·simp[Rd.run]at hr2
     ·rename_i pre ret wrs hpost
      have fin:∀{wrs:List RC} {K:List (Nat×Option Ob)->Prop->Rd Eff},(mU hid wrs K).run σ=some eff->∃ob,σ.H o=some (some ob):=fun {wrs K} hr2=>by
       obtain⟨ups,q,_,h4,_,h6⟩:=xq hr2;obtain⟨x,hx⟩:=Ah ho;have ψ:x<wrs.length:=by rw[h4];exact(AJ.1 hx).1
       obtain⟨ob,_,_,h7,_⟩:=h6 hnd x o _ hx (AF ψ);exact⟨ob,h7⟩
      split at hr2
      ·unfold wL at hr2
       split at hr2
       ·simp[Rd.run]at hr2
       ·rename_i hmt0
        obtain⟨ads2,fs2,hr5,_⟩:=Ih h svs 0 ts _ _ (fun y sv hy x j hx=>by
         rw[AK]at hx;obtain⟨o,sv',cs,h1,h2,h3,h4⟩:=hm1 x (y,j) (jw hx);obtain⟨c,h5,h6⟩:=Ik hmt0 y j (Qc hx);have h2:svs[y]?=some sv':=h2
         rw[h2]at h5;cases h5;rw[h2]at hy;cases hy;have h6:j=0:=h6
         subst h6;simp only[jR]at h3;split at h3
         ·cases h3
          exact⟨o,c,h1,rfl,by simpa using h4,rfl⟩
         ·cases h3) hr2
        split at hr5
        ·simp[Rd.run]at hr5
        ·exact fin hr5
      ·exact fin hr2
    case pos =>
    have hw:=rb h hid hlive
    obtain⟨ads,hr2,hal,har⟩:=Ig hΓ h hw svs 0 ts _ _ (fun y sv hy x j hx=>by
     rw[AK]at hx;obtain⟨o,sv',cs,h1,h2,h3,h4⟩:=hm1 x (y,j) (jw hx);have:sv'=sv:=BE (h2.symm.trans hy)
     subst this;exact⟨o,cs,h1,h3,h4⟩) hr
    clear hr;split at hr2
    ·simp[Rd.run]at hr2
    ·rename_i pre ret wrs hpost
     split at hr2
     ·exact ad7 hf hhid hnd hr2 hob h hvl hvs hd
     rename_i hnro;obtain⟨ups,q,hr3,hwl,hwn,hwr⟩:=xq hr2;have hwr:=hwr hnd
     obtain⟨hr4,θ⟩:=nv hr3;simp only[Rd.run,AC]at hr4;subst hr4;refine rq hf h hnd hl1 (ms:=hid.map mu) (obs:=hid.map (fE σ)) (by simp) (by simp) hpost hob.1 hob.2 hwl hwn (fun x o rc hx hrc=>Qb h hw.old (hwr x o rc hx hrc) hob.2 hx) θ hw.kept (fun hc=>by rw[hnro]at hc;cases hc) (by rw[hvl,hal]) (fun i ad hi=>?_) hd
     obtain⟨sv,h1,h2⟩:=har i ad hi;obtain⟨v,h3,h4⟩:=hvs i sv h1;exact⟨v,h3,by have:=h2 v h4;rwa[AK]at this⟩
theorem Qd{E:Env}{w:World}{e ei:TypeId}{v:Value}{k:IntKind}{l:Dc}(h:br w [e,ei] v (.rows k l)):aR E w ⟨aK v,(bo v).map aK⟩ (.rows 0 e ei k l)/\(⟨aK v,(bo v).map aK⟩:Img).blocks=aW 2 v:=by
 have hl:=jO h
 obtain⟨_,h2,h3,h4⟩:=h;refine⟨⟨h3,(Ae _).trans (hl.trans (As _)),fun i u r hu hr=>?_⟩,?_⟩
 ·rw[Aj]at hu
  cases hx:(bo v)[i]? with
  |none=>rw[hx]at hu;cases hu
  |some x =>
   rw[hx]at hu;cases hu;have hi:i<l.length:=(AJ.1 hr).1
   have hy:cX (.rows k l) i=some (.ints k r):=by
    simp only[cX,AN,hr,DO]
   obtain⟨e',he,h5⟩:=Hz (h4 i x _ hx hy);cases he;exact h5
 ·have f:∀l:List Value,l.flatMap (hU 1)=l.map aK:=fun l=>by
   induction l with
   |nil=>rfl
   |cons x l ih =>
    have z:hU 1 x=[aK x]:=by
     show aK x::(bo x).flatMap (hU 0)=_
     generalize bo x=m
     induction m with
     |nil=>rfl
     |cons y m ih2 =>
      rw[Ba];exact ih2
    rw[Ba,ih,z];rfl
  have g:hU 2 v=aK v::(bo v).map aK:=by
   show aK v::(bo v).flatMap (hU 1)=_
   rw[f]
  show(ac (aK v)).toList++((bo v).map aK).filterMap ac=(hU 2 v).filterMap ac
  rw[g,Az];cases ac (aK v)<;>rfl
theorem ad8{d:Nat}{t:TypeId}{cx:SC}{vx:Value}{eff:Eff}(hr:(GD C.P d t cx).run σ=some eff)(hob:eff.obl)(hx:ai (σ.env C.wF mu) cx vx)(h:St C σ mu a w){dst:Option Nat}(hd:∀d,dst=some d->d<C.N) :
  ∃v,(Instr.loadAt t vx).run C.P w=.ok v w/\ay C (σ.app dst eff) (a.put dst v) w:=by
 unfold GD at hr;split at hr
 ·rename_i hagg
  have hone:∀(b j:Nat) (v:Value),w.cell? ⟨b,j,none⟩=some v->(Instr.loadAt t (.pointer (some ⟨b,j,none⟩))).run C.P w=.ok v w:=fun b j v hv=>by
   simp only[Instr.loadAt,Instr.sureAddr,Sem.run_bind,Sem.run_pure,Result.andThen_ok];exact Hy hagg hv
  split at hr
  ·rename_i o ver j
   obtain⟨ob,ho,hr⟩:=aZ hr;have hnf:ob.isFz=false:=by cases ob<;>first|rfl|simp[Rd.run]at hr
   have hx:=aP ho hx hnf
   clear hnf;split at hr
   ·rename_i ver' e1 e ei k l
    split at hr
    ·rename_i hv
     obtain⟨θ,hr⟩:=b8 hr;simp only[Rd.run,AC]at hr;subst hr;obtain⟨nd,u,b,n,c,q1,q2,q3,q4,rfl⟩:=hx.2 hv.symm;cases q2;obtain⟨hm,_,x',k1,k2,_⟩:=lS (p:=[]) (h.ob o _ ho) q1 rfl;have k2:br w [e1,e,ei] nd x':=k2
     cases k1;have hn:=k2.len q3
     subst hn;have q4:j<l.length:=by have:=HA k2 q4;rwa[show(FC.r3 k l).cn=l.length from As _]at this
     obtain⟨e',e2,es',he,k3,v,k4,k5⟩:=OX (y:=.rows k (l.getD j [])) k2 rfl (by rw[show(FC.r3 k l).cn=l.length from As _];exact q4)
     cases he;obtain⟨r1,r2⟩:=Qd (E:=σ.env C.wF mu) k5;have nodupM:=(h.nd o _ ho).1
     have hB:(mu o).blocks=aW 3 nd:=by rw[hm];exact ef (es:=[e1,e,ei]) k2
     have nodupV:(aW 2 v).Nodup:=by
      rw[hB]at nodupM;exact HW (p:=[j]) (es:=[e1,e,ei]) (u:=v) k2 nodupM (by simp[eE,k4])
     have mem:∀c∈aW 2 v,c∈(mu o).blocks:=fun c hc=>by
      rw[hB];exact dE.2 (.inr ⟨v,AI k4,hc⟩)
     refine⟨aK v,hone b j _ (by rw[iV k3 (b:=b) (by rw[q3];rfl) j q4,Aj,k4];rfl),?_⟩
     exact h.move hd θ [o] (fun o' ho'=>by simp at ho';subst ho';exact⟨_,ho⟩) (.refl _) rfl rfl (AE _) (fun _ _ _=>rfl) r1 (by rw[r2];exact nodupV) (fun c hc=>.inl ⟨o,by simp,mem c (by rw[r2]at hc;exact hc)⟩) rfl k5.one
    ·simp[Rd.run]at hr
   ·rename_i ver' e1 e ei k l m
    split at hr
    ·rename_i hv
     obtain⟨θ,hr⟩:=b8 hr;simp only[Rd.run,AC]at hr;subst hr;obtain⟨rfl,hjl⟩:j=m/\m<l.length:=hob;obtain⟨nd,u,b,n,c,q1,q2,q3,q4,rfl⟩:=hx.2 hv.symm;cases q2;obtain⟨nd',hm,k2⟩:=h.ob o _ ho;have q1':(mu o).ins[0]?=some nd:=q1
     rw[hm]at q1';cases q1';have hB:(mu o).blocks=aW 3 nd:=by rw[hm];exact wm (es:=[e1,e,ei]) k2
     obtain⟨z1,z2,z3,⟨vs,z4,z5⟩,z6⟩:=k2;have z3:(bo nd).length+j=l.length:=z3.trans (As _)
     cases hks:bo nd with
     |nil=>rw[hks]at z3;simp at z3;omega
     |cons v ks =>
     rw[hks]at z3 z5 z6;have hv0:=z5 0 v rfl
     have k5:=z6 0 v (.rows k (l.getD j [])) rfl rfl
     obtain⟨r1,r2⟩:=Qd (E:=σ.env C.wF mu) k5;have nodupM:=(h.nd o _ ho).1
     have eB:(mu o).blocks=(ac (aK nd)).toList++(aW 2 v++ks.flatMap (aW 2)):=by rw[hB,dM,hks,Ba]
     rw[eB,Ak,Ak]at nodupM;obtain⟨n1,⟨n2,n3,n4⟩,n5⟩:=nodupM;have hT:ji w (j+1) [e1,e,ei] (bu (aK nd) ks) (.r3 k l):=by
      refine⟨rfl,z2,?_,⟨vs,z4,fun i u hu=>?_⟩,fun i u x hu hx=>?_⟩
      ·rw[cY]
       rw[AR]at z3;rw[show(FC.r3 k l).cn=l.length from As _]
       omega
      ·rw[cY]at hu
       have:=z5 (i+1) u (by simpa using hu)
       rwa[show j+(i+1)=j+1+i by omega]at this
      ·rw[cY]at hu
       exact z6 (i+1) u x (by simpa using hu) (by rwa[show j+(i+1)=j+1+i by omega])
     have hB2:(dw 3 (bu (aK nd) ks)).blocks=(ac (aK nd)).toList++ks.flatMap (aW 2):=by
      rw[show(dw 3 (bu (aK nd) ks)).blocks=aW 3 (bu (aK nd) ks) from wm (es:=[e1,e,ei]) hT,dM];rfl
     have hlen:j<vs.length:=(AJ.1 hv0).1
     refine⟨aK v,hone b j _ ?_,?_⟩
     ·have hvl:vs.length=l.length:=z4.1.trans (As _)
      have z4':w.ownsRow 0 e1 1 (aK nd) l.length vs:=z4
      rw[iV z4' (b:=b) (by rw[q3];rfl) j hjl]
      exact hv0
     ·refine h.split hd θ ho rfl (m:=⟨aK v,(bo v).map aK⟩) (m':=dw 3 (bu (aK nd) ks)) ⟨rfl,by rw[hm];rfl,BC _,fun hc=>by simp[Ob.shp]at hc⟩ r1 ⟨_,rfl,hT⟩ (by rw[r2];exact n2) ?_ (fun c hc=>?_) (fun c hc=>?_) (fun c hc hc2=>?_) rfl k5.one rfl rfl
      ·rw[hB2,Ak]
       exact⟨n1,n3,fun x hx y hy=>n5 x hx y (BG _ hy)⟩
      ·rw[eB];rw[r2]at hc;simp[hc]
      ·rw[eB];rw[hB2]at hc
       rcases AL.1 hc with hc|hc
       ·exact BF _ hc
       ·exact BG _ (BG _ hc)
      ·rw[r2]at hc
       rw[hB2]at hc2;rcases AL.1 hc2 with hc2|hc2
       ·exact n5 c hc2 c (BF _ hc) rfl
       ·exact n4 c hc c hc2 rfl
    ·simp[Rd.run]at hr
   ·simp[Rd.run]at hr
  ·simp[Rd.run]at hr
 ·simp[Rd.run]at hr
theorem rt{d:Nat}{ob:Ob}{σ:State}(θ:σ.H d=none):∀(r:Rd Eff) {e:Eff},(iT d ob r).run σ=some e->∃e0,r.run ⟨σ.fr,(d,some ob)::σ.hp⟩=some e0/\e=⟨e0.val,e0.hp++[(d,none)],e0.owed⟩
 |.ret e0,e,h=>by
  simp only[iT,Rd.run,AC]at h;exact⟨e0,rfl,h.symm⟩
 |.fail,e,h=>by simp[iT,Rd.run]at h
 |.f t k,e,h=>by
  simp only[iT,Rd.run]at h;split at h
  ·rename_i sv hsv
   obtain⟨e0,h1,h2⟩:=rt θ (k sv) h;refine⟨e0,?_,h2⟩
   have:(State.mk σ.fr ((d,some ob)::σ.hp)).F t=some sv:=hsv
   simp only[Rd.run,this];exact h1
  ·cases h
 |.h o k,e,h=>by
  simp only[iT]at h;split at h
  ·rename_i hb
   have hb:=AX hb
   subst hb;obtain⟨e0,h1,h2⟩:=rt θ (k ob) h;refine⟨e0,?_,h2⟩
   have:(State.mk σ.fr ((o,some ob)::σ.hp)).H o=some (some ob):=by rw[lV,AA rfl]
   simp only[Rd.run,this];exact h1
  ·rename_i hb
   have hb:=Bn hb
   obtain⟨ob2,h3,h4⟩:=aZ h;obtain⟨e0,h1,h2⟩:=rt θ (k ob2) h4;refine⟨e0,?_,h2⟩
   have:(State.mk σ.fr ((d,some ob)::σ.hp)).H o=some (some ob2):=by rw[lV,AB (AO hb)];exact h3
   simp only[Rd.run,this];exact h1
 |.abs o k,e,h=>by
  simp only[iT]at h;split at h
  ·simp[Rd.run]at h
  ·rename_i hb
   have hb:=Bn hb
   simp only[Rd.run]at h;split at h
   ·rename_i h3
    obtain⟨e0,h1,h2⟩:=rt θ k h;refine⟨e0,?_,h2⟩
    have:(State.mk σ.fr ((d,some ob)::σ.hp)).H o=none:=by rw[lV,AB (AO hb)];exact h3
    simp only[Rd.run,this];exact h1
   ·cases h
theorem ay.kill{C:Cx}{σ σ':State}{d:Nat}(hF:∀t,σ'.F t=σ.F t)(hH:∀o,o≠d->σ'.H o=σ.H o)(hd:σ'.H d=some none){ob:Ob}(hd0:σ.H d=some (some ob)){a:Act}{w:World}(hs:ay C σ a w):ay C σ' a w:=by
 obtain⟨wG,mu,hg,q⟩:=hs;have hle:∀o,dL (σ.ost o) (σ'.ost o) (mu o) (mu o):=fun o=>by
  by_cases e:o=d
  ·subst e
   have:σ'.ost o=.dead:=by simp[State.ost,hd]
   rw[this];have:σ.ost o=dX ob:=by simp[State.ost,hd0]
   rw[this];cases ob<;>simp[dX,dL]
  ·have:σ'.ost o=σ.ost o:=by simp[State.ost,hH o e]
   rw[this];exact dL.refl _ _
 have:=q.upd (σ':=σ') (mu':=mu) (a':=a) (w':=w) (fun _=>False) (.refl _) rfl rfl (AE _) (fun _ h=>h.elim) (fun _ _ _=>rfl) hle (fun o ob2 ho=>by
  by_cases e:o=d
  ·subst e;rw[hd]at ho;cases ho
  ·rw[hH o e]at ho;exact .inl ⟨ho,rfl,fun _ _ h=>h⟩) q.sz rfl (fun t sv ht=>by rw[hF]at ht;exact .inl ⟨ht,rfl⟩)
 exact⟨wG,mu,hg,this⟩
theorem ad9{Γ:FuncId->Option Ctr}(hΓ:di C.P Γ){d i D:Nat}{e ei:TypeId}{k:IntKind}{f:FuncId}{svs:List SV}{ts:List TypeId}{eff:Eff}(hn:wR (Γ f) svs=some i)(θ:σ.H D=none)
  (hr2:(iT D (.rows 0 e ei k []) (ig C.P Γ d f (svs.set i (.c (.own D))) ts)).run σ=some eff)(hob:eff.obl)(h:St C σ mu a w)
  {vs:List Value}(hvl:vs.length=svs.length)(hvs:∀(i:Nat) (sv:SV),svs[i]?=some sv->∃v,vs[i]?=some v/\aw C.P (σ.env C.wF mu) sv v){dst:Option Nat}(hd:∀d,dst=some d->d<C.N) :
  (∃fn,C.P.funcs[f]?=some fn/\fn.body.isSome=true/\(fn.name == "runtime.NumGoroutine")=false) /\
  Calls C.P f vs.toArray w fun e w'=>∃v,e=.returned v/\ay C (σ.app dst eff) (a.put dst v) w':=by
 obtain⟨e0,hr3,rfl⟩:=rt θ _ hr2
 let m0:Img:=⟨.slice none 0 0,[]⟩
 let mu1:Nat->Img:=fun o=>if o=D then m0 else mu o
 have hHo:∀o,o≠D->(State.mk σ.fr ((D,some (Ob.rows 0 e ei k []))::σ.hp)).H o=σ.H o:=fun o ho=>by rw[lV,AB (AO ho)];rfl
 have hHD:(State.mk σ.fr ((D,some (Ob.rows 0 e ei k []))::σ.hp)).H D=some (some (.rows 0 e ei k [])):=by rw[lV,AA rfl]
 have hst:∀o,o≠D->(State.mk σ.fr ((D,some (Ob.rows 0 e ei k []))::σ.hp)).ost o=σ.ost o:=fun o ho=>by simp only[State.ost,hHo o ho]
 have ha:σ.ost D=.absent:=by simp[State.ost,θ]
 have hle:∀o,dL (σ.ost o) ((State.mk σ.fr ((D,some (Ob.rows 0 e ei k []))::σ.hp)).ost o) (mu o) (mu1 o):=fun o=>by
  by_cases e:o=D
  ·rw[e,ha];trivial
  ·rw[hst o e,show mu1 o=mu o from AB e];exact dL.refl _ _
 have h1:St C ⟨σ.fr,(D,some (Ob.rows 0 e ei k []))::σ.hp⟩ mu1 a w:=h.upd (fun _=>False) (.refl _) rfl rfl (AE _) (fun _ h=>h.elim) (fun _ _ _=>rfl) hle (fun o ob ho=>by
  by_cases q:o=D
  ·rw[q,hHD]at ho
   cases ho
   right
   rw[q,show mu1 D=m0 from AA rfl]
   refine⟨⟨World.ownsRow_nil _ _ _ _,rfl,fun i v r hi=>by simp[m0]at hi⟩,by simp[m0,Img.blocks,ac],by simp[m0,Img.blocks,ac],fun o' ob' hne ho'=>?_⟩
   exact .inr (by simp[m0,Img.blocks,ac])
  ·rw[hHo o q]at ho
   exact .inl ⟨ho,AB q,fun _ _ h=>h⟩) h.sz rfl (fun t sv ht=>.inl ⟨ht,rfl⟩)
 have hE:b7 (σ.env C.wF mu) ((State.mk σ.fr ((D,some (Ob.rows 0 e ei k []))::σ.hp)).env C.wF mu1):=⟨fun _ _ h=>h,fun o=>.inl (hle o)⟩
 have hsv:svs[i]?=some (.c .nil):=by
  unfold wR at hn;split at hn
  ·split at hn
   ·cases hn;assumption
   ·cases hn
  ·cases hn
 obtain⟨q1,q2⟩:=ke hΓ hr3 hob h1 (vs:=vs) (by simpa using hvl) (fun j sv hj=>by
  rw[Av]at hj;split at hj
  ·rename_i hij
   subst hij;split at hj
   ·cases hj
    obtain⟨v,h3,h4⟩:=hvs i _ hsv;refine⟨v,h3,?_⟩
    have h4:v=.slice none 0 0:=h4
    subst h4;refine⟨rfl,?_⟩
    have:((State.mk σ.fr ((D,some (Ob.rows 0 e ei k []))::σ.hp)).env C.wF mu1).st D=.live (Ob.rows 0 e ei k []).shp:=by
     show(State.mk σ.fr ((D,some (Ob.rows 0 e ei k []))::σ.hp)).ost D=_
     simp only[State.ost,hHD];rfl
    rw[this]
    show Value.slice none 0 0=(mu1 D).hd
    rw[show mu1 D=m0 from AA rfl]
   ·cases hj
  ·obtain⟨v,h3,h4⟩:=hvs j sv hj
   exact⟨v,h3,h4.mono hE⟩) hd
 refine⟨q1,q2.mono ?_⟩
 rintro r w' ⟨v,rfl,hs⟩
 refine⟨v,rfl,?_⟩
 have hl:∀o,(σ.app dst ⟨e0.val,e0.hp++[(D,none)],e0.owed⟩).H o=match lk e0.hp o with|some x=>some x|none=>if o=D then some none else σ.H o:=fun o=>by
  show lk ((e0.hp++[(D,none)])++σ.hp) o=_
  rw[Ap,gt];cases lk e0.hp o with
  |some x=>rfl
  |none =>
   show lk ((D,none)::σ.hp) o=_
   rw[bt];by_cases q:o=D
   ·rw[AA q,AA q.symm]
   ·rw[AB q,AB (AO q)];rfl
 have hl1:∀o,((State.mk σ.fr ((D,some (Ob.rows 0 e ei k []))::σ.hp)).app dst e0).H o=match lk e0.hp o with|some x=>some x|none=>if o=D then some (some (.rows 0 e ei k []))else σ.H o:=fun o=>by
  show lk (e0.hp++((D,some (Ob.rows 0 e ei k []))::σ.hp)) o=_
  rw[gt];cases lk e0.hp o with
  |some x=>rfl
  |none =>
   show lk ((D,some (Ob.rows 0 e ei k []))::σ.hp) o=_
   rw[bt];by_cases q:o=D
   ·rw[AA q,AA q.symm]
   ·rw[AB q,AB (AO q)];rfl
 have hFr:∀t,(σ.app dst ⟨e0.val,e0.hp++[(D,none)],e0.owed⟩).F t=((State.mk σ.fr ((D,some (Ob.rows 0 e ei k []))::σ.hp)).app dst e0).F t:=fun t=>by
  rw[lR,lR];rfl
 cases hx:lk e0.hp D with
 |some x =>
  refine ay.eqv hFr (fun o=>?_) hs
  rw[hl,hl1];by_cases q:o=D
  ·rw[q,hx]
  ·rw[AB q,AB q]
 |none =>
  refine ay.kill (d:=D) (ob:=.rows 0 e ei k []) hFr (fun o ho=>?_) ?_ ?_ hs
  ·rw[hl,hl1,AB ho,AB ho]
  ·rw[hl,hx];simp
  ·rw[hl1,hx];simp
theorem ae0{Γ:FuncId->Option Ctr}(hΓ:di C.P Γ){d i:Nat}{f:FuncId}{svs:List SV}{ts:List TypeId}{eff:Eff}(hn:wR (Γ f) svs=some i)(hr:(Ho C.P Γ d f i svs ts).run σ=some eff)(hob:eff.obl)(h:St C σ mu a w)
  {vs:List Value}(hvl:vs.length=svs.length)(hvs:∀(i:Nat) (sv:SV),svs[i]?=some sv->∃v,vs[i]?=some v/\aw C.P (σ.env C.wF mu) sv v){dst:Option Nat}(hd:∀d,dst=some d->d<C.N) :
  (∃fn,C.P.funcs[f]?=some fn/\fn.body.isSome=true/\(fn.name == "runtime.NumGoroutine")=false) /\
  Calls C.P f vs.toArray w fun e w'=>∃v,e=.returned v/\ay C (σ.app dst eff) (a.put dst v) w':=by
 unfold Ho at hr;split at hr
 ·have key:∀(svs:List SV) (i:Nat) (ts:List TypeId) (K:List AD->Rd Eff),(jW C.P Γ [] [] i svs ts K).run σ=some eff->∃ds,(K ds).run σ=some eff:=by
   intro svs
   induction svs with
   |nil=>intro i ts K hr;exact⟨[],hr⟩
   |cons sv svs ih =>
    intro i ts K hr
    simp only[jW]at hr;obtain⟨d,hr2⟩:=P5 hr;obtain⟨ds,hr3⟩:=ih _ _ _ hr2;exact⟨_,hr3⟩
  obtain⟨ads,hr2⟩:=key _ _ _ _ hr;split at hr2
  ·obtain⟨θ,hr3⟩:=b8 hr2
   exact ad9 hΓ hn θ hr3 hob h hvl hvs hd
  ·simp[Rd.run]at hr2
 ·simp[Rd.run]at hr
theorem xu{wF:World}{E:Env}(hE:E.wF=wF){c:SC}{d:FC}(h:wD c=some d){v:Value}(hv:ai E c v):v.oneCell'=true/\bp wF v d:=by
 subst hE;unfold wD at h;split at h
 ·cases h;simp only[ai]at hv;subst hv;exact⟨rfl,rfl⟩
 ·cases h;simp only[ai]at hv;subst hv;exact⟨rfl,rfl⟩
 ·cases h;simp only[ai]at hv;subst hv;exact⟨rfl,rfl⟩
 ·cases h
  obtain⟨⟨x,n,c,hv1,_⟩,hv2⟩:=hv;exact⟨by rw[hv1];rfl,hv2⟩
 ·cases h
theorem ae1{sv:SV}{ad:AD}(h:oQ sv=some ad){v:Value}(hv:aw C.P (σ.env C.wF mu) sv v)(i:Nat):dh C.P C.wF [] [] [] i ad v:=by
 unfold oQ at h;split at h
 ·split at h
  ·rename_i d hd
   cases h;exact xu rfl hd hv
  ·cases h
 ·split at h
  ·rename_i ds hds
   cases h;obtain⟨arr,rfl,h1,h2⟩:=hv;obtain⟨h3,h4⟩:=im hds;refine⟨arr,rfl,by rw[h1,h3],fun j d hj=>?_⟩
   obtain⟨c,h5,h6⟩:=h4 j d hj;obtain⟨u,h7,h8,h9⟩:=h2 j c h5;exact⟨u,h7,xu rfl h6 h9⟩
  ·cases h
 ·cases h
theorem ae2{Γ:FuncId->Option Ctr}(hΓ:di C.P Γ){d:Nat}{f:FuncId}{svs:List SV}{ads:List AD}{pre:Prop}{ret:RV}{eff:Eff}(hc:G3 (Γ f) svs=some (ads,pre,ret))(hr:(G5 d pre ret).run σ=some eff)(hob:eff.obl)(h:St C σ mu a w)
  {vs:List Value}(hvl:vs.length=svs.length)(hvs:∀(i:Nat) (sv:SV),svs[i]?=some sv->∃v,vs[i]?=some v/\aw C.P (σ.env C.wF mu) sv v){dst:Option Nat}(hd:∀d,dst=some d->d<C.N) :
  (∃fn,C.P.funcs[f]?=some fn/\fn.body.isSome=true/\(fn.name == "runtime.NumGoroutine")=false) /\
  Calls C.P f vs.toArray w fun e w'=>∃v,e=.returned v/\ay C (σ.app dst eff) (a.put dst v) w':=by
 unfold G3 at hc;split at hc
 ·rename_i ct hct
  have hf:=hΓ f _ hct
  refine⟨hf.fn,?_⟩
  split at hc
  ·rename_i ads' hads
   split at hc
   ·rename_i pre' ret' hpost
    split at hc
    ·cases hc
     obtain⟨h1,h2⟩:=im hads;unfold G5 at hr;obtain⟨hr4,θ⟩:=nv hr;simp only[Rd.run,AC]at hr4;subst hr4;refine rq hf h (hid:=[]) List.nodup_nil rfl (ms:=[]) (obs:=[]) rfl rfl hpost hob.1 hob.2 rfl (fun _ _=>rfl) (fun x o rc hx=>by simp at hx) θ (wF:=C.wF) (fun p u hp=>⟨(h.cells p u hp).2,by simp⟩) (fun _=>rfl) (by rw[hvl,h1]) (fun i ad hi=>?_) hd
     obtain⟨sv,h3,h4⟩:=h2 i ad hi;obtain⟨v,h5,h6⟩:=hvs i sv h3;exact⟨v,h5,ae1 h4 h6 i⟩
    ·cases hc
   ·cases hc
  ·cases hc
 ·cases hc
end
end Go.Sx
