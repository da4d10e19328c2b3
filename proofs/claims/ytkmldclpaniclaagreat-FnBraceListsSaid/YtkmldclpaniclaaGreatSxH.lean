/- SxG SxH -/
import Derived.Test.YtkmldclpaniclaaGreatSxE
set_option linter.unusedSimpArgs false
set_option linter.unusedVariables false
set_option linter.defProp false
section
namespace Go.Sx
open Go.RowKit
section
variable {C:Cx} {σ:State} {mu:Nat->Img} {a:Act} {w:World}
def eO{o:Nat}{ob:Ob}(ho:σ.H o=some (some ob)){v:Value}(hv:v.oneCell'=true){p:Shp->Prop}{q:FC->Prop}(h:p ob.shp)(hf:ob.isFz=false:=by first|rfl|assumption):b7 (σ.env C.wF mu) o v p q:=by
 have:(σ.env C.wF mu).st o=.live ob.shp:=cz ho hf
 refine⟨hv,?_⟩
 rw[this];exact h
def ak5{s:TypeId}{cx:SC}{f:Nat}{vx:Value}{eff:Eff}(hr:(Id C.P s cx f).run σ=some eff)(hob:eff.obl)(hx:ak (σ.env C.wF mu) cx vx)(h:St C σ mu a w) :
  eff.hp=[]/\∃v,(Instr.fieldAt s vx f).run C.P w=.ok v w/\aA C.P (σ.env C.wF mu) eff.val v:=by
 unfold Id at hr;split at hr
 ·rename_i fs hu
  split at hr
  ·cases hr
  ·rename_i fd hfd
   split at hr
   ·rename_i n hn
    have hsz:=gA hn
    have ω:∀b i,(Instr.fieldAt s (.pointer (some ⟨b,i,none⟩)) f).run C.P w=.ok (.pointer (some ⟨b,i+fd.offset,none⟩)) w:=λb i=>by
     simp[Instr.fieldAt,run_underlying hu,hfd,Instr.sureAddr,fieldPlace,hsz,Addr.add_lit]
    split at hr
    ·rename_i o i
     obtain⟨ob,ho,hr⟩:=bg hr;cases ob with
     |box cs =>
      simp only at hr;split at hr
      ·rename_i ψ
       simp only[Rd.run,aS,AC]at hr;subst hr;obtain⟨_,b,hb,rfl⟩:=aV ho hx;exact⟨rfl,_,ω b i,eO ho rfl ⟨ψ,b,hb,rfl⟩⟩
      ·cases hr
     |_=>cases hr
    ·rename_i cs i
     simp only[Rd.run,aS,AC]at hr;subst hr;obtain⟨b,off,rfl,hc⟩:=hx;exact⟨rfl,_,ω b off,b,off+fd.offset,rfl,λj fc hj=>by
      obtain⟨u,h1,h2⟩:=hc (fd.offset+j) fc (by rw[<-BU];exact hj)
      exact⟨u,by rw[BU];exact h1,h2⟩⟩
    ·rename_i o ver p j
     obtain⟨ob,ho,hr⟩:=bg hr;cases ob with
     |tr ver' es d =>
      simp only at hr;split at hr
      ·split at hr
       ·rename_i hv
        have hx:=aV ho hx
        obtain⟨nd,u,b,n,c,q1,q2,q3,q4,rfl⟩:=hx.2 hv.symm;obtain⟨_,_,x',k1,k2,_⟩:=mg (h.ob o _ ho) q1 q2;cases k1;have key:∀j',j'<d.cn->j'<n\/j'<(ba u).length:=λj' hob=>by
         match es,k2 with
         | [_],⟨_,kk,ll,z2,_⟩ =>
          left
          rw[k2.len q3];subst z2
          simpa[FC.cn,FC.wid]using hob
         |_::_::_,k2=>exact .inr (by rw[jt k2];exact hob)
        split at hr
        ·rename_i hof
         simp only[Rd.run,AC]at hr;subst hr;have hr1:=ω b j
         rw[hof,Bg]at hr1;exact⟨rfl,_,hr1,eO ho rfl ⟨hx.1,λ_=>⟨nd,u,b,n,c,q1,q2,q3,key j hob,rfl⟩⟩⟩
        ·rename_i hof
         simp only[Rd.run,AC]at hr;subst hr;have hr1:=ω b j
         rw[hof]at hr1;exact⟨rfl,_,hr1,eO ho rfl ⟨hx.1,λ_=>⟨nd,u,b,n,c,q1,q2,q3,key (j+1) hob,rfl⟩⟩⟩
        ·cases hr
       ·cases hr
      ·cases hr
     |_=>cases hr
    ·cases hr
   ·cases hr
 ·cases hr
def ak6{s:TypeId}{sv:SV}{f:Nat}{vx:Value}{eff:Eff}(hr:(Ie C.P s sv f).run σ=some eff)(hx:aA C.P (σ.env C.wF mu) sv vx) :
  eff.hp=[]/\∃v,(Instr.field s vx f).run C.P w=.ok v w/\aA C.P (σ.env C.wF mu) eff.val v:=by
 unfold Ie at hr;split at hr
 ·rename_i fs hu
  split at hr
  ·cases hr
  ·rename_i fd hfd
   split at hr
   ·rename_i cs
    obtain⟨arr,rfl,hsz,hcs⟩:=hx;split at hr
    ·rename_i hagg
     split at hr
     ·rename_i n hn
      split at hr
      ·rename_i hle
       simp only[Rd.run,AC]at hr;subst hr;refine⟨rfl,.agg (arr.extract fd.offset (fd.offset+n)),?_,_,rfl,?_⟩
       ·simp[Instr.field,run_underlying hu,hfd,asAgg,part,xA hagg,gA hn]
       ·refine⟨by simp[hsz];omega,λi c hi=>?_⟩
        rw[Aw]at hi;split at hi
        ·rename_i hin
         rw[BG]at hi;obtain⟨u,h1,h2⟩:=hcs _ c hi;have ψ:fd.offset+i<arr.size:=(BB.1 h1).1
         refine⟨u,?_,h2⟩
         rw[C9,AA (by omega)]
         exact h1
        ·cases hi
      ·cases hr
     ·cases hr
    ·rename_i hagg
     split at hr
     ·rename_i c hc
      simp only[Rd.run,aS,AC]at hr;subst hr;obtain⟨u,h1,h2,h3⟩:=hcs _ c hc;refine⟨rfl,u,?_,h3⟩
      simp[Instr.field,run_underlying hu,hfd,asAgg,part,xA hagg,h1]
     ·cases hr
    ·cases hr
   ·cases hr
 ·cases hr
def I5{t e:TypeId}(he:b8 C.P t=some e)(hs:cU C.P e=some 1){ad:Addr}{len cap:Nat}{k:IntKind}{n:Int}(hn:ac n len) :
  (Instr.indexAt t (.slice (some ad) len cap) (.int k n)).run C.P w=.ok (.pointer (some (ad.add n.toNat))) w:=by
 have h1:0<=n/\n<(len:Int):=hn
 simp[Instr.indexAt,run_underlying (gB he),asIntOf,h1.1,h1.2,gA hs]
def nG{t e:TypeId}(he:b8 C.P t=some e)(hs:cU C.P e=some 1){hd v:Value}{off len:Nat}(hv:cF hd off len v){k:IntKind}{n:Int}(hn:ac n len) :
  ∃b,ag hd=some b/\(Instr.indexAt t v (.int k n)).run C.P w=.ok (.pointer (some ⟨b,off+n.toNat,none⟩)) w:=by
 have h1:0<=n/\n<(len:Int):=hn
 rcases hv with⟨_,_,_,h0⟩|⟨g,l,cap,ao,rfl,rfl,hc1,hc2,hao⟩
 ·omega
 ·refine⟨g,rfl,?_⟩
  rw[hao (.inr (by omega)),I5 he hs hn,Addr.add_lit]
def RK{t e:TypeId}(he:b8 C.P t=some e)(hs:cU C.P e=some 2){ad:Addr}{len cap:Nat}{k:IntKind}{n:Int}(hn:ac n len) :
  (Instr.indexAt t (.slice (some ad) len cap) (.int k n)).run C.P w=.ok (.pointer (some (ad.add (n.toNat*2)))) w:=by
 have h1:0<=n/\n<(len:Int):=hn
 simp[Instr.indexAt,run_underlying (gB he),asIntOf,h1.1,h1.2,gA hs]
def ak7{t e:TypeId}(he:b8 C.P t=some e)(hs:cU C.P e=some 2){hd v:Value}{len:Nat}(hv:cF hd 0 len v){k:IntKind}{n:Int}(hn:ac n len) :
  ∃b,ag hd=some b/\(Instr.indexAt t v (.int k n)).run C.P w=.ok (.pointer (some ⟨b,n.toNat*2,none⟩)) w:=by
 have h1:0<=n/\n<(len:Int):=hn
 rcases hv with⟨_,_,_,h0⟩|⟨g,l,cap,ao,rfl,rfl,hc1,hc2,hao⟩
 ·omega
 ·refine⟨g,rfl,?_⟩
  rw[hao (.inl rfl),RK he hs hn,Addr.add_lit,AI]
def c7{w:World}{B e size n:Nat}{v:Value}{xs:List Value}(h:w.ownsRow B e size v n xs):cF v 0 n v:=by
 rcases h.2 with⟨rfl,rfl⟩|⟨g,cap,cur,rfl,_,_,hn,_⟩
 ·exact .inl ⟨rfl,rfl,rfl,rfl⟩
 ·exact .inr ⟨g,n,cap,_,rfl,rfl,AT _,hn,λ_=>rfl⟩
def Ob.len?:Ob->Option Nat
 |.box _=>none
 |.bx _=>none
 |.strs _ l=>some l.length
 |.ints _ _ l=>some l.length
 |.bools _ l=>some l.length
 |.rows _ _ _ _ l=>some l.length
 |.lst _ _ d=>match d.wid with
  |1=>some d.len
  |_=>none
 |.frz _=>none
 |.mp _=>none
 |.qu _ _ _=>none
 |.rowsH _ _ _ _ l _=>some l.length
 |.tr _ _ d=>match d.wid with
  |1=>some d.len
  |_=>none
 |.yd _ _ _ _=>none
 |.trk _ _ _ _=>none
def xB{d:FC}(h:d.wid=1):d.slen=d.len:=by
 cases d with
 |p3 k l=>cases h
 |_=>rfl
def mj{α:Type}{d:FC}{r:Rd α}{σ:State}{x:α}(h:(ep d r).run σ=some x):d.wid=1/\r.run σ=some x:=by
 unfold ep at h;split at h
 ·rename_i e;exact⟨e,h⟩
 ·cases h
def RL{d:FC}{L:Nat}(h:(match d.wid with|1=>some d.len|_=>none)=some L):d.wid=1/\L=d.len:=by
 split at h
 ·rename_i e;cases h;exact⟨e,rfl⟩
 ·cases h
def rP{E:Env}{m:Img}{ob:Ob}{L:Nat}(hl:ob.len?=some L)(h:aX E w m ob):cF m.hd 0 L m.hd/\ob.shp.len=L:=by
 cases ob with
 |box cs=>cases hl
 |bx cs=>cases hl
 |strs e l=>cases hl;exact⟨c7 h.2,rfl⟩
 |ints e k l=>cases hl;exact⟨c7 h.2,rfl⟩
 |bools e l=>cases hl;exact⟨c7 h.2,rfl⟩
 |rows ver e ei k l=>cases hl;exact⟨c7 h.1,rfl⟩
 |lst ver e d =>
  obtain⟨e1,rfl⟩:=RL hl;obtain⟨_,vs,h1,_⟩:=h;exact⟨c7 h1,xB e1⟩
 |frz d=>cases hl
 |mp l=>cases hl
 |qu e k l=>cases hl
 |rowsH ver e ei k l hs=>cases hl;obtain⟨_,⟨vs,h1,_⟩,_⟩:=h;exact⟨c7 h1,rfl⟩
 |yd yv Y pre g=>cases hl
 |trk ver es d n=>cases hl
 |tr ver es d =>
  obtain⟨e1,rfl⟩:=RL hl;obtain⟨nd,rfl,h2⟩:=h;obtain⟨e,xs,h1⟩:=h2.row;exact⟨c7 h1,xB e1⟩
def rQ{t e:TypeId}(he:b8 C.P t=some e)(hs:cU C.P e=some 1){wF:World}{v:Value}{len:Nat}{R:Nat->Value->Prop}(hv:bP wF v len R){k:IntKind}{n:Int}(hn:ac n len) :
  ∃b off u,(Instr.indexAt t v (.int k n)).run C.P w=.ok (.pointer (some ⟨b,off,none⟩)) w/\wF.cell? ⟨b,off,none⟩=some u/\R n.toNat u:=by
 have h1:0<=n/\n<(len:Int):=hn
 obtain⟨ad,c,rfl,_,hk⟩:=hv;obtain⟨b,off,rfl,hk2⟩:=hk (by omega)
 obtain⟨u,h2,h3⟩:=hk2 n.toNat (by omega)
 exact⟨b,off+n.toNat,u,by rw[I5 he hs hn,Addr.add_lit],h2,h3⟩
def ak8{t:TypeId}{cx ci:SC}{vx vi:Value}{eff:Eff}(hr:(If C.P t cx ci).run σ=some eff)(hob:eff.obl)
  (hx:ak (σ.env C.wF mu) cx vx)(hi:ak (σ.env C.wF mu) ci vi)(h:St C σ mu a w) :
  eff.hp=[]/\∃v,(Instr.indexAt t vx vi).run C.P w=.ok v w/\aA C.P (σ.env C.wF mu) eff.val v:=by
 unfold If at hr;split at hr
 ·cases hr
 ·rename_i e he
  split at hr
  ·rename_i hs
   split at hr
   ·rename_i k n
    simp only[ak]at hi;subst hi;split at hr
    ·rename_i o
     obtain⟨ob,ho,hr⟩:=bg hr;have hnf:ob.isFz=false:=by cases ob<;>first|rfl|simp[Rd.run]at hr
     have hv:=aV ho hx hnf
     have hv':vx=(mu o).hd:=hv
     subst hv';have key:∀L,ob.len?=some L->eff=⟨.c (.ptr o n.toNat),[],some (ac n L)⟩->eff.hp=[]/\∃v,(Instr.indexAt t (mu o).hd (.int k n)).run C.P w=.ok v w/\aA C.P (σ.env C.wF mu) eff.val v:=λL hL heff=>by
      subst heff;obtain⟨h1,h2⟩:=rP hL (h.ob o ob ho);obtain⟨b,h3,h4⟩:=nG (w:=w) (k:=k) he hs h1 hob;refine⟨rfl,_,h4,eO ho rfl ⟨?_,b,h3,by simp⟩ hnf⟩
      have h5:0<=n/\n<(L:Int):=hob
      omega
     clear hnf;cases ob with
     |frz d=>cases hr
     |mp l=>cases hr
     |qu e' k' l =>
      simp only[Rd.run,AC]at hr;subst hr;have hB:0<=n/\n<(l.length:Int):=hob
      obtain⟨_,h2⟩:=h.ob o _ ho;rcases h2 with⟨_,h3⟩|⟨g,off,cap,a1,_⟩
      ·have:l.length=0:=by rw[<-AW (f:=Value.int k'),h3];rfl
       omega
      ·refine⟨rfl,.pointer (some ⟨g,off+n.toNat,none⟩),by rw[a1,I5 he hs (by rw[AW];exact hB),Addr.add_lit],eO ho rfl ⟨?_,g,off,_,_,a1,rfl⟩⟩
       show n.toNat<l.length
       omega
     |lst ver e d =>
      obtain⟨e1,hr⟩:=mj hr;simp only[Rd.run,AC]at hr;exact key _ (by simp only[Ob.len?,e1]) hr.symm
     |rowsH ver e ei k l hs=>simp only[Rd.run,AC]at hr;exact key _ rfl hr.symm
     |yd yv Y pre g=>cases hr
     |trk ver es d m =>
      obtain⟨_,hr⟩:=mj hr;simp only[Rd.run,AC]at hr;subst hr;obtain⟨nd,hm,h2⟩:=h.ob o _ ho;obtain⟨ee,xs,h1⟩:=h2.row;have hhd:(mu o).hd=aM nd:=by rw[hm];rfl
      rw[hhd];obtain⟨b,h3,h4⟩:=nG (w:=w) (k:=k) he hs (c7 h1) hob;have h5:0<=n/\n<(d.len:Int):=hob
      obtain⟨cap,h6,_⟩:=nF h1 h3;rw[AI]at h4;exact⟨rfl,_,h4,eO ho rfl ⟨AE _,λ_=>⟨nd,nd,b,_,cap,by show(mu o).ins[0]?=_;rw[hm];rfl,rfl,h6,.inl (by omega),rfl⟩⟩⟩
     |tr ver es d =>
      obtain⟨_,hr⟩:=mj hr;simp only[Rd.run,AC]at hr;subst hr;obtain⟨nd,hm,h2⟩:=h.ob o _ ho;obtain⟨ee,xs,h1⟩:=h2.row;have hhd:(mu o).hd=aM nd:=by rw[hm];rfl
      rw[hhd];obtain⟨b,h3,h4⟩:=nG (w:=w) (k:=k) he hs (c7 h1) hob;have h5:0<=n/\n<(d.len:Int):=hob
      obtain⟨cap,h6,_⟩:=nF h1 h3;rw[AI]at h4;exact⟨rfl,_,h4,eO ho rfl ⟨AE _,λ_=>⟨nd,nd,b,_,cap,by show(mu o).ins[0]?=_;rw[hm];rfl,rfl,h6,.inl (by omega),rfl⟩⟩⟩
     |box cs=>cases hr
     |bx cs=>cases hr
     |ints e k l=>simp only[Rd.run,AC]at hr;exact key _ rfl hr.symm
     |bools e l=>simp only[Rd.run,AC]at hr;exact key _ rfl hr.symm
     |strs e l=>simp only[Rd.run,AC]at hr;exact key _ rfl hr.symm
     |rows ver e ei k l=>simp only[Rd.run,AC]at hr;exact key _ rfl hr.symm
    ·rename_i o ver p
     obtain⟨ob,ho,hr⟩:=bg hr;have hnf:ob.isFz=false:=by cases ob<;>first|rfl|simp[Rd.run]at hr
     have hx:=aV ho hx hnf
     clear hnf;cases ob with
     |tr ver' es d =>
      simp only at hr;split at hr
      ·rename_i hver
       split at hr
       ·rename_i x hx1
        obtain⟨_,hr⟩:=mj hr;simp only[Rd.run,AC]at hr;subst hr;obtain⟨nd,u,q1,q2,rfl⟩:=hx.2 hver.symm;obtain⟨_,_,x',k1,k2,_⟩:=mg (h.ob o _ ho) q1 q2;rw[hx1]at k1;cases k1;obtain⟨ee,xs,h1⟩:=k2.row;obtain⟨b,h3,h4⟩:=nG (w:=w) (k:=k) he hs (c7 h1) hob;have h5:0<=n/\n<(x.len:Int):=hob
        obtain⟨cap,h6,_⟩:=nF h1 h3;rw[AI]at h4;exact⟨rfl,_,h4,eO ho rfl ⟨hx.1,λ_=>⟨nd,u,b,_,cap,q1,q2,h6,.inl (by omega),rfl⟩⟩⟩
       ·cases hr
      ·cases hr
     |_=>cases hr
    ·rename_i o len
     obtain⟨ob,ho,hr⟩:=bg hr;obtain⟨hnf,hr⟩:=nC hr;simp only[Rd.run,AC]at hr;subst hr;obtain⟨hle,hv⟩:=aV ho hx;obtain⟨b,h3,h4⟩:=nG (w:=w) (k:=k) he hs hv hob;have h5:0<=n/\n<(len:Int):=hob
     exact⟨rfl,_,h4,eO ho rfl ⟨by omega,b,h3,by simp⟩⟩
    ·rename_i o off len
     obtain⟨ob,ho,hr⟩:=bg hr;obtain⟨hnf,hr⟩:=nC hr;simp only[Rd.run,AC]at hr;subst hr;obtain⟨hle,hv⟩:=aV ho hx;obtain⟨b,h3,h4⟩:=nG (w:=w) (k:=k) he hs hv hob;have h5:0<=n/\n<(len:Int):=hob
     exact⟨rfl,_,h4,eO ho rfl ⟨by omega,b,h3,rfl⟩⟩
    ·rename_i o ver i
     obtain⟨ob,ho,hr⟩:=bg hr;have hnf:ob.isFz=false:=by cases ob<;>first|rfl|simp[Rd.run]at hr
     cases ob with
     |rows ver' e' ei k' l =>
      simp only at hr;split at hr
      ·rename_i hver
       simp only[Rd.run,AC]at hr;subst hr;obtain⟨h0,hx⟩:=aV ho hx;obtain⟨hins,ψ⟩:=hx hver.symm;have hlt':i<l.length:=ψ
       obtain⟨_,_,h3⟩:=h.ob o _ ho;have hrow:=h3 i vx _ hins (AF hlt')
       have hgd:l.getD i []=l[i]:=by simp[List.getD,hlt']
       have hob':ac n l[i].length:=by rw[<-hgd];exact hob
       obtain⟨b,h4,h5⟩:=nG (w:=w) (k:=k) he hs (c7 hrow) hob';have h6:0<=n/\n<(l[i].length:Int):=hob'
       refine⟨rfl,_,h5,eO ho rfl ⟨h0,λ_=>⟨hlt',?_,vx,b,hins,h4,by simp⟩⟩⟩
       have:((Ob.rows ver' e' ei k' l).shp.rl.getD i 0)=l[i].length:=by simp[Ob.shp,List.getD,hlt']
       omega
      ·cases hr
     |_=>cases hr
    ·rename_i d
     have h5:∀L,ac n L->n.toNat<L:=λL hL=>by have:0<=n/\n<(L:Int):=hL;omega
     split at hr<;>simp only[Rd.run,AC,reduceCtorEq]at hr<;>subst hr
     ·rename_i kk l
      obtain⟨b,off,u,h1,h2,h3⟩:=rQ (w:=w) (k:=k) he hs hx.2 hob;exact⟨rfl,_,h1,b,off,.int kk (l.getD n.toNat 0),u,by simp[FC.elem,h5 _ hob],rfl,h2,h3⟩
     ·rename_i l
      obtain⟨b,off,u,h1,h2,h3⟩:=rQ (w:=w) (k:=k) he hs hx.2 hob;exact⟨rfl,_,h1,b,off,.bool (l.getD n.toNat false),u,by simp[FC.elem,h5 _ hob],rfl,h2,h3⟩
     ·rename_i kk l
      obtain⟨b,off,u,h1,h2,h3⟩:=rQ (w:=w) (k:=k) he hs hx.2 hob;exact⟨rfl,_,h1,b,off,.ints kk (l.getD n.toNat []),u,by simp[FC.elem,h5 _ hob],rfl,h2,h3⟩
     ·rename_i kk l
      obtain⟨b,off,u,h1,h2,h3⟩:=rQ (w:=w) (k:=k) he hs hx.2 hob;exact⟨rfl,_,h1,b,off,.rows kk (l.getD n.toNat []),u,by simp[FC.elem,h5 _ hob],rfl,h2,h3⟩
     ·rename_i kk l
      obtain⟨b,off,u,h1,h2,h3⟩:=rQ (w:=w) (k:=k) he hs hx.2 hob;exact⟨rfl,_,h1,b,off,.r3 kk (l.getD n.toNat []),u,by simp[FC.elem,h5 _ hob],rfl,h2,h3⟩
    ·cases hr
   ·cases hr
  ·split at hr
   ·rename_i hs
    split at hr
    ·rename_i k n
     simp only[ak]at hi;subst hi;split at hr
     ·rename_i o
      obtain⟨ob,ho,hr⟩:=bg hr;have hnf:ob.isFz=false:=by cases ob<;>first|rfl|simp[Rd.run]at hr
      have hv:=aV ho hx hnf
      have hv':vx=(mu o).hd:=hv
      subst hv';clear hnf;split at hr
      ·rename_i ver es kk l
       simp only[Rd.run,AC]at hr;subst hr;obtain⟨nd,hm,h2⟩:=h.ob o _ ho;obtain⟨ee,xs,h1⟩:=h2.row;have hhd:(mu o).hd=aM nd:=by rw[hm];rfl
       rw[hhd];obtain⟨b,h3,h4⟩:=ak7 (w:=w) (k:=k) he hs (c7 h1) hob;have h5:0<=n/\n<(l.length:Int):=hob
       obtain⟨cap,h6,_⟩:=nF h1 h3;have hk:(ba nd).length=l.length*2:=by
        match es,h2 with
        | [_],⟨_,_,_,z2,_⟩=>cases z2
        |_::_::_,h2=>exact jt h2
       exact⟨rfl,_,h4,eO ho rfl ⟨AE _,λ_=>⟨nd,nd,b,_,cap,by show(mu o).ins[0]?=_;rw[hm];rfl,rfl,h6,.inr (by omega),rfl⟩⟩⟩
      ·cases hr
     ·rename_i kk l
      simp only[Rd.run,AC]at hr;subst hr;obtain⟨_,ad,c,rfl,_,hk⟩:=hx;have h5:0<=n/\n<(l.length:Int):=hob
      obtain⟨b,off,rfl,hk2⟩:=hk (by omega)
      refine⟨rfl,_,by rw[RK he hs hob,Addr.add_lit],b,off+n.toNat*2,rfl,λj fc hj=>?_⟩
      match j,hj with
      |0,hj =>
       cases hj;obtain⟨u,h2,h3⟩:=hk2 (n.toNat*2) (by omega)
       have e1:n.toNat*2 % 2=0:=by omega
       have e2:n.toNat*2 / 2=n.toNat:=by omega
       simp only[fh,e1,e2,AX]at h3;exact⟨u,h2,h3⟩
      |1,hj =>
       cases hj;obtain⟨u,h2,h3⟩:=hk2 (n.toNat*2+1) (by omega)
       have e1:¬ (n.toNat*2+1) % 2=0:=by omega
       have e2:(n.toNat*2+1) / 2=n.toNat:=by omega
       simp only[fh,e1,e2,Al]at h3;exact⟨u,by rw[BU];exact h2,h3⟩
      |j+2,hj=>simp at hj
     ·cases hr
    ·cases hr
   ·cases hr
def ak9{t e ty:TypeId}(he:b8 C.P t=some e)(x:Option Addr)(n c:Nat):(Builtin.len_ #[t] ty #[.slice x n c]).run C.P w=.ok (.int .i64 (n:Int)) w:=by
 simp[Builtin.len_,run_underlying (gB he),goInt]
def kj{hd v:Value}{off n:Nat}(h:cF hd off n v):∃x c,v=.slice x n c:=by
 rcases h with⟨_,rfl,_,rfl⟩|⟨g,l,cap,ao,_,rfl,_⟩
 ·exact⟨_,_,rfl⟩
 ·exact⟨_,_,rfl⟩
def RM{t ty e:TypeId}{cx:SC}{vx:Value}{eff:Eff}(hr:(xb cx).run σ=some eff)
  (ht:b8 C.P t=some e\/(∃l,cx=.str l)/\C.P.underlying t=some .string)(hn:(∃l,cx=.str l)->C.P.underlying t=some .string)
  (hx:ak (σ.env C.wF mu) cx vx)(h:St C σ mu a w) :
  eff.hp=[]/\∃v,(Builtin.len_ #[t] ty #[vx]).run C.P w=.ok v w/\aA C.P (σ.env C.wF mu) eff.val v:=by
 have hsl:∀(n:Nat),(∀l,cx≠.str l)->(∃x c,vx=.slice x n c)->eff=⟨.c (.int .i64 n),[],none⟩ ->
   eff.hp=[]/\∃v,(Builtin.len_ #[t] ty #[vx]).run C.P w=.ok v w/\aA C.P (σ.env C.wF mu) eff.val v:=λn hne ⟨x,c,hv⟩ heff=>by
  rcases ht with he|⟨⟨l,hl⟩,_⟩
  ·subst heff;subst hv
   exact⟨rfl,_,ak9 he x n c,rfl⟩
  ·exact absurd hl (hne l)
 unfold xb at hr;split at hr
 ·simp only[ak]at hx
  simp only[Rd.run,aS,AC]at hr;exact hsl 0 (by simp) ⟨_,_,hx⟩ hr.symm
 ·rename_i l
  simp only[ak]at hx;simp only[Rd.run,aS,AC]at hr;subst hr;subst hx;refine⟨rfl,_,by simp[Builtin.len_,run_underlying (hn ⟨l,rfl⟩),goInt];rfl,?_⟩
  simp[aA,ak,ByteArray.size]
 ·rename_i o
  obtain⟨ob,ho,hr⟩:=bg hr;have hnf:ob.isFz=false:=by cases ob<;>first|rfl|simp[Rd.run]at hr
  have hv':vx=(mu o).hd:=aV ho hx
  have key:∀L,ob.len?=some L->eff=⟨.c (.int .i64 L),[],none⟩->_:=λL hL heff=>by
   obtain⟨h1,_⟩:=rP hL (h.ob o ob ho);rw[<-hv']at h1;exact hsl L (by simp) (kj h1) heff
  cases ob with
  |box cs=>cases hr
  |bx cs=>cases hr
  |ints e k l=>simp only[Rd.run,aS,AC]at hr;exact key _ rfl hr.symm
  |bools e l=>simp only[Rd.run,aS,AC]at hr;exact key _ rfl hr.symm
  |strs e l=>simp only[Rd.run,aS,AC]at hr;exact key _ rfl hr.symm
  |rows ver e ei k l=>simp only[Rd.run,aS,AC]at hr;exact key _ rfl hr.symm
  |lst ver e d =>
   simp only[Rd.run,aS,AC]at hr;obtain⟨_,vs,h1,_⟩:=h.ob o _ ho;exact hsl _ (by simp) (kj (by rw[hv'];exact c7 h1)) hr.symm
  |rowsH ver e ei k l hs=>simp only[Rd.run,aS,AC]at hr;exact key _ rfl hr.symm
  |yd yv Y pre g=>cases hr
  |tr ver es d =>
   simp only[Rd.run,aS,AC]at hr;obtain⟨nd,hm,h2⟩:=h.ob o _ ho;obtain⟨ee,xs,h1⟩:=h2.row;exact hsl _ (by simp) (kj (by rw[hv',hm];exact c7 h1)) hr.symm
  |trk ver es d n =>
   simp only[Rd.run,aS,AC]at hr;obtain⟨nd,hm,h2⟩:=h.ob o _ ho;obtain⟨ee,xs,h1⟩:=h2.row;exact hsl _ (by simp) (kj (by rw[hv',hm];exact c7 h1)) hr.symm
  |frz d=>cases hr
  |mp l=>cases hr
  |qu e k l =>
   simp only[Rd.run,aS,AC]at hr;obtain⟨_,h2⟩:=h.ob o _ ho;refine hsl l.length (by simp) ?_ hr.symm
   rw[hv'];rcases h2 with⟨h2,h3⟩|⟨g,off,cap,a1,_⟩
   ·have:l.length=0:=by rw[<-AW (f:=Value.int k),h3];rfl
    exact⟨_,_,by rw[h2,this]⟩
   ·exact⟨_,_,by rw[a1,AW]⟩
 ·rename_i o ver p
  obtain⟨ob,ho,hr⟩:=bg hr;have hnf:ob.isFz=false:=by cases ob<;>first|rfl|simp[Rd.run]at hr
  have hx:=aV ho hx hnf
  clear hnf;cases ob with
  |tr ver' es d =>
   simp only at hr;split at hr
   ·rename_i hver
    split at hr
    ·rename_i x hx1
     simp only[Rd.run,aS,AC]at hr;obtain⟨nd,u,q1,q2,rfl⟩:=hx.2 hver.symm;obtain⟨_,_,x',k1,k2,_⟩:=mg (h.ob o _ ho) q1 q2;rw[hx1]at k1;cases k1;obtain⟨ee,xs,h1⟩:=k2.row;exact hsl x.len (by simp) (kj (c7 h1)) hr.symm
    ·cases hr
   ·cases hr
  |_=>cases hr
 ·rename_i o n
  obtain⟨ob,ho,hr⟩:=bg hr;obtain⟨hnf,hr⟩:=nC hr;simp only[Rd.run,aS,AC]at hr;exact hsl n (by simp) (kj (aV ho hx).2) hr.symm
 ·rename_i o off n
  obtain⟨ob,ho,hr⟩:=bg hr;obtain⟨hnf,hr⟩:=nC hr;simp only[Rd.run,aS,AC]at hr;exact hsl n (by simp) (kj (aV ho hx).2) hr.symm
 ·rename_i o ver i
  obtain⟨ob,ho,hr⟩:=bg hr;cases ob with
  |rows ver' e' ei k' l =>
   simp only at hr;split at hr
   ·rename_i hver
    simp only[Rd.run,aS,AC]at hr;obtain⟨h0,hx⟩:=aV ho hx;obtain⟨hins,ψ⟩:=hx hver.symm;have hlt':i<l.length:=ψ
    obtain⟨_,_,h3⟩:=h.ob o _ ho;have hrow:=h3 i vx _ hins (AF hlt')
    have hgd:l.getD i []=l[i]:=by simp[List.getD,hlt']
    rw[hgd]at hr;exact hsl _ (by simp) (kj (c7 hrow)) hr.symm
   ·cases hr
  |_=>cases hr
 ·rename_i d
  split at hr<;>simp only[Rd.run,aS,AC,reduceCtorEq]at hr
  all_goals
   obtain⟨_,x,c,hv,_,_⟩:=hx;exact hsl _ (by simp) ⟨x,c,hv⟩ hr.symm
 ·cases hr
def al0{sv:SV}{i:Nat}{vx:Value}{eff:Eff}(hr:(In sv i).run σ=some eff)(hx:aA C.P (σ.env C.wF mu) sv vx) :
  eff.hp=[]/\∃v,(Instr.extract vx i).run C.P w=.ok v w/\aA C.P (σ.env C.wF mu) eff.val v:=by
 unfold In at hr;split at hr
 ·obtain⟨arr,rfl,hsz,hc⟩:=hx
  split at hr
  ·rename_i c hcc
   simp only[Rd.run,aS,AC]at hr;subst hr;obtain⟨u,h1,h2⟩:=hc i _ hcc;exact⟨rfl,u,by simp[Instr.extract,h1],h2.2⟩
  ·rename_i cs hcc
   simp only[Rd.run,AC]at hr;subst hr;obtain⟨u,h1,h2⟩:=hc i _ hcc;exact⟨rfl,u,by simp[Instr.extract,h1],h2⟩
  ·cases hr
 ·cases hr
def al1{t:TypeId}{cx ci:SC}{vx vi:Value}{eff:Eff}(hr:(Io C.P t cx ci).run σ=some eff)(hob:eff.obl)
  (hx:ak (σ.env C.wF mu) cx vx)(hi:ak (σ.env C.wF mu) ci vi) :
  eff.hp=[]/\∃v,(Instr.index t vx vi).run C.P w=.ok v w/\aA C.P (σ.env C.wF mu) eff.val v:=by
 simp[Io,Rd.run]at hr
end
end Go.Sx
end
section
section
namespace Go.Sx
open Go.RowKit
def OV(ov:Option Value)(oi:Option Int):Prop :=
 match oi with
 |none=>ov=none
 |some n=>∃k,ov=some (.int k n)
def bV:Option Int->Nat
 |none=>0
 |some l=>l.toNat
def dv(L:Nat):Option Int->Nat
 |none=>L
 |some h=>h.toNat
def pL{L:Nat}{l h:Option Int}(hb:bS L l h):bV l<=dv L h/\dv L h<=L:=by
 cases l<;>cases h<;>simp only[bS,bV,dv]at *<;>omega
def pM{α:Type}{r:List α}{l h:Option Int}(hb:bS r.length l h):(cZ r l h).length=dv r.length h-bV l:=by
 cases l<;>cases h<;>simp only[bS,bV,dv,cZ]at *<;>simp<;>omega
def RN{α:Type}{r:List α}{l h:Option Int}(hb:bS r.length l h){j:Nat}(hj:j<dv r.length h-bV l):(cZ r l h)[j]?=r[bV l+j]?:=by
 cases l<;>cases h<;>simp only[bS,bV,dv,cZ]at *
 ·simp
 ·simp[Aw];intro;omega
 ·simp[BG]
 ·simp only[BG,Aw]
  rw[AA (by omega)]
section
variable {C:Cx} {σ:State} {mu:Nat->Img} {a:Act} {w:World}
def pN{α:Type}{x:Option Operand}{k:Option Int->Rd α}{r:α}(hr:(lZ x k).run σ=some r)(h:St C σ mu a w) :
  ∃oi,(k oi).run σ=some r/\OV (x.map a.eval) oi:=by
 cases x with
 |none=>exact⟨none,hr,rfl⟩
 |some y =>
  simp only[lZ]at hr;obtain⟨c,h1,h2⟩:=db hr h;cases c with
  |int kd n=>exact⟨some n,h1,kd,by simp only[ak]at h2;simp[h2]⟩
  |_=>cases h1
def pO{t e:TypeId}(he:b8 C.P t=some e)(hs:cU C.P e=some 1){x:Option Addr}{len cap:Nat}{lo hi:Option Value}{l h:Option Int}
  (hl:OV lo l)(hh:OV hi h)(hb:bS len l h)(hlc:len<=cap) :
  (Instr.sliceAt t (.slice x len cap) lo hi none).run C.P w=.ok (.slice (if cap=bV l then x else x.map (·.add (bV l))) (dv len h-bV l) (cap-bV l)) w:=by
 have hu:=run_underlying (gB he)
 have hsz:=gA hs
 cases l with
 |none =>
  simp only[OV]at hl;subst hl;cases h with
  |none =>
   simp only[OV]at hh;subst hh;simp[Instr.sliceAt,Instr.slice,Instr.sliceBounds,hu,hsz,bV,dv]
   rfl
  |some h =>
   obtain⟨k,rfl⟩:=hh;simp only[bS]at hb;have h2:h<=(cap:Int):=by omega
   simp[Instr.sliceAt,Instr.slice,Instr.sliceBounds,Instr.sliceBound,asIntOf,hu,hsz,bV,dv,hb.1,h2]
   rfl
 |some l =>
  obtain⟨k,rfl⟩:=hl;cases h with
  |none =>
   simp only[OV]at hh;subst hh;simp only[bS]at hb;simp[Instr.sliceAt,Instr.slice,Instr.sliceBounds,Instr.sliceBound,asIntOf,hu,hsz,bV,dv,hb.1,hb.2]
   rfl
  |some h =>
   obtain⟨k',rfl⟩:=hh;simp only[bS]at hb;have h1:0<=h:=by omega
   have h2:h<=(cap:Int):=by omega
   have h3:l<=max h 0:=by omega
   simp[Instr.sliceAt,Instr.slice,Instr.sliceBounds,Instr.sliceBound,asIntOf,hu,hsz,bV,dv,hb.1,h1,h2,h3]
   rfl
def I6{t e:TypeId}(he:b8 C.P t=some e)(hs:cU C.P e=some 1){hd v:Value}{off n:Nat}(hv:cF hd off n v){lo hi:Option Value}{l h:Option Int}
  (hl:OV lo l)(hh:OV hi h)(hb:bS n l h) :
  ∃v',(Instr.sliceAt t v lo hi none).run C.P w=.ok v' w/\cF hd (off+bV l) (dv n h-bV l) v':=by
 obtain⟨h1,h2⟩:=pL hb;rcases hv with⟨rfl,rfl,rfl,rfl⟩|⟨g,len,cap,ao,rfl,rfl,hc1,hc2,hao⟩
 ·refine⟨_,pO he hs hl hh hb (AE _),.inl ⟨rfl,?_,by omega,by omega⟩⟩
  have e1:bV l=0:=by omega
  have e2:dv 0 h=0:=by omega
  simp[e1,e2]
 ·refine⟨_,pO he hs hl hh hb hc2,.inr ⟨g,len,cap,if cap-off=bV l then ao else ao.add (bV l),rfl,?_,by omega,by omega,λhor=>?_⟩⟩
  ·have e1:cap-(off+bV l)=cap-off-bV l:=by omega
   rw[e1];by_cases hq:cap-off=bV l<;>simp[hq]
  ·by_cases hq:cap-off=bV l
   ·rw[AA hq]
    have:off=0/\bV l=0:=by rcases hor with h3|h3<;>omega
    rw[this.1,this.2];exact hao (.inl this.1) |>.trans (by rw[this.1])
   ·rw[AB hq,hao (.inr (by omega)),Addr.add_lit]
def rR{t e:TypeId}(he:b8 C.P t=some e)(hs:cU C.P e=some 1){wF:World}{v:Value}{n:Nat}{R:Nat->Value->Prop}(hv:bP wF v n R){lo hi:Option Value}{l h:Option Int}
  (hl:OV lo l)(hh:OV hi h)(hb:bS n l h) :
  ∃v',(Instr.sliceAt t v lo hi none).run C.P w=.ok v' w/\bP wF v' (dv n h-bV l) λj u=>R (bV l+j) u:=by
 obtain⟨h1,h2⟩:=pL hb;obtain⟨x,c,rfl,hc,hk⟩:=hv;refine⟨_,pO he hs hl hh hb hc,_,_,rfl,by omega,λh0=>?_⟩
 obtain⟨b,off,rfl,hk2⟩:=hk (by omega)
 refine⟨b,off+bV l,?_,λi hi=>?_⟩
 ·rw[AB (by omega)];simp[Addr.add_lit]
 ·obtain⟨u,h3,h4⟩:=hk2 (bV l+i) (by omega)
  exact⟨u,by rw[BU];exact h3,h4⟩
theorem bP.mono{w:World}{v:Value}{n:Nat}{R R':Nat->Value->Prop}(h:bP w v n R)(hR:∀i u,i<n->R i u->R' i u):bP w v n R':=h.below hR
def rS{α:Type}{r:List α}{l h:Option Int}(hb:bS r.length l h){j:Nat}(hj:j<dv r.length h-bV l)(z:α):(cZ r l h).getD j z=r.getD (bV l+j) z:=by
 simp[List.getD,RN hb hj]
def I7{hd v:Value}{off n:Nat}(h:cF hd off n v):v.oneCell'=true:=by
 obtain⟨x,c,rfl⟩:=kj h;rfl
def al2{t:TypeId}{cx:SC}{lo hi:Option Operand}{vx:Value}{eff:Eff}(hr:(rG C.P t cx lo hi).run σ=some eff)(hob:eff.obl)
  (hx:ak (σ.env C.wF mu) cx vx)(h:St C σ mu a w) :
  eff.hp=[]/\∃v,(Instr.sliceAt t vx (lo.map a.eval) (hi.map a.eval) none).run C.P w=.ok v w/\aA C.P (σ.env C.wF mu) eff.val v:=by
 unfold rG at hr;split at hr
 ·rename_i r
  simp only[ak]at hx;subst hx;split at hr
  ·rename_i hu
   obtain⟨l,hr,hl⟩:=pN hr h;obtain⟨hh,hr,hhi⟩:=pN hr h;simp only[Rd.run,AC]at hr;subst hr;have hsz:(⟨r.toArray⟩:ByteArray).size=r.length:=by simp[ByteArray.size]
   have hb:bS r.length l hh:=hob
   have hex:(⟨r.toArray⟩:ByteArray).extract (bV l) (dv r.length hh)=⟨(cZ r l hh).toArray⟩:=by
    apply ByteArray.ext
    apply A0
    simp only[ByteArray.data_extract,Array.toList_extract];obtain⟨h1,h2⟩:=pL hb;apply BP
    intro j
    by_cases hj:j<dv r.length hh-bV l
    ·rw[RN hb hj]
     simp[List.extract,BG,hj]
    ·rw[BM (l:=cZ r l hh) (by rw[pM hb];omega)]
     simp[List.extract]
     omega
   refine⟨rfl,.string ⟨(cZ r l hh).toArray⟩,?_,rfl⟩
   rw[<-hex];generalize lo.map a.eval=lo' at hl
   generalize hi.map a.eval=hi' at hhi
   cases l with
   |none =>
    simp only[OV]at hl;subst hl;cases hh with
    |none=>simp only[OV]at hhi;subst hhi;simp only[bV,dv,cZ]at hex;simp[Instr.sliceAt,Instr.slice,Instr.sliceBounds,run_underlying hu,bV,dv,hex]
    |some hh =>
     obtain⟨k,rfl⟩:=hhi;simp only[bS]at hb;simp[Instr.sliceAt,Instr.slice,Instr.sliceBounds,Instr.sliceBound,asIntOf,run_underlying hu,bV,dv,hsz,hb.1,hb.2]
   |some l =>
    obtain⟨k,rfl⟩:=hl;cases hh with
    |none =>
     simp only[OV]at hhi;subst hhi;simp only[bS]at hb;simp[Instr.sliceAt,Instr.slice,Instr.sliceBounds,Instr.sliceBound,asIntOf,run_underlying hu,bV,dv,hsz,hb.1,hb.2]
    |some hh =>
     obtain⟨k',rfl⟩:=hhi;simp only[bS]at hb;have h1:0<=hh:=by omega
     have h3:l<=max hh 0:=by omega
     simp[Instr.sliceAt,Instr.slice,Instr.sliceBounds,Instr.sliceBound,asIntOf,run_underlying hu,bV,dv,hsz,hb.1,hb.2.2,h1,h3]
  ·cases hr
 ·split at hr
  ·cases hr
  ·rename_i e he
   split at hr
   ·rename_i hs
    obtain⟨l,hr,hl⟩:=pN hr h;obtain⟨hh,hr,hhi⟩:=pN hr h;cases cx with
    |own o =>
     obtain⟨ob,ho,hr⟩:=bg hr;have hnf:ob.isFz=false:=by cases ob<;>first|rfl|simp[Rd.run]at hr
     have hv':vx=(mu o).hd:=aV ho hx
     subst hv';have key:∀L,ob.len?=some L->eff=⟨.c (l7 o L l hh),[],some (bS L l hh)⟩ ->
       eff.hp=[]/\∃v,(Instr.sliceAt t (mu o).hd (lo.map a.eval) (hi.map a.eval) none).run C.P w=.ok v w/\aA C.P (σ.env C.wF mu) eff.val v:=λL hL heff=>by
      subst heff;obtain⟨h1,h2⟩:=rP hL (h.ob o ob ho);obtain⟨v',h3,h4⟩:=I6 (w:=w) he hs h1 hl hhi hob;obtain⟨b1,b2⟩:=pL (show bS L l hh from hob)
      refine⟨rfl,v',h3,?_⟩
      cases l<;>cases hh<;>simp only[l7,bV,dv,AI,CB]at h4 b1 b2⊢<;>refine eO ho (I7 h4) ⟨by omega,h4⟩
     cases ob with
     |box cs=>cases hr
     |bx cs=>cases hr
     |strs e l=>cases hr
     |ints e k l=>simp only[Rd.run,AC]at hr;exact key _ rfl hr.symm
     |bools e l=>simp only[Rd.run,AC]at hr;exact key _ rfl hr.symm
     |rows ver e ei k l=>simp only[Rd.run,AC]at hr;exact key _ rfl hr.symm
     |lst ver e d =>
      obtain⟨e1,hr⟩:=mj hr;simp only[Rd.run,AC]at hr;exact key _ (by simp only[Ob.len?,e1]) hr.symm
     |frz d=>cases hr
     |mp l=>cases hr
     |qu e k l=>cases hr
     |rowsH ver e ei k l hs=>cases hr
     |yd yv Y pre g=>cases hr
     |tr ver es d=>cases hr
     |trk ver es d n=>cases hr
    |pre o L =>
     obtain⟨ob,ho,hr⟩:=bg hr;obtain⟨hnf,hr⟩:=nC hr;simp only[Rd.run,AC]at hr;subst hr;obtain⟨h2,h1⟩:=aV ho hx;obtain⟨v',h3,h4⟩:=I6 (w:=w) he hs h1 hl hhi hob;obtain⟨b1,b2⟩:=pL (show bS L l hh from hob)
     refine⟨rfl,v',h3,?_⟩
     cases l<;>cases hh<;>simp only[l7,bV,dv,AI,CB]at h4 b1 b2⊢<;>refine eO ho (I7 h4) ⟨by omega,h4⟩
    |sub o off L =>
     obtain⟨ob,ho,hr⟩:=bg hr;obtain⟨hnf,hr⟩:=nC hr;simp only[Rd.run,AC]at hr;subst hr;obtain⟨h2,h1⟩:=aV ho hx;obtain⟨v',h3,h4⟩:=I6 (w:=w) he hs h1 hl hhi hob;obtain⟨b1,b2⟩:=pL (show bS L l hh from hob)
     refine⟨rfl,v',h3,?_⟩
     cases l<;>cases hh<;>simp only[Rs,bV,dv,Bg,CB]at h4 b1 b2⊢<;>refine eO ho (I7 h4) ⟨by omega,h4⟩
    |ro d =>
     obtain⟨_,hx⟩:=hx;cases d with
     |ints k r =>
      simp only[Rd.run,AC]at hr;subst hr;obtain⟨v',h3,h4⟩:=rR (w:=w) he hs hx hl hhi hob;have hq:bu C.wF v' (.ints k (cZ r l hh)):=by
       show bP _ _ _ _
       rw[pM hob];exact h4.mono λi u hi hu=>by rw[hu,rS hob hi]
      exact⟨rfl,v',h3,hq.slice,hq⟩
     |bools r =>
      simp only[Rd.run,AC]at hr;subst hr;obtain⟨v',h3,h4⟩:=rR (w:=w) he hs hx hl hhi hob;have hq:bu C.wF v' (.bools (cZ r l hh)):=by
       show bP _ _ _ _
       rw[pM hob];exact h4.mono λi u hi hu=>by rw[hu,rS hob hi]
      exact⟨rfl,v',h3,hq.slice,hq⟩
     |rows k r =>
      simp only[Rd.run,AC]at hr;subst hr;obtain⟨v',h3,h4⟩:=rR (w:=w) he hs hx hl hhi hob;have hq:bu C.wF v' (.rows k (cZ r l hh)):=by
       show bP _ _ _ _
       rw[pM hob];exact h4.mono λi u hi hu=>by rw[rS hob hi];exact hu
      exact⟨rfl,v',h3,hq.slice,hq⟩
     |r3 k r =>
      simp only[Rd.run,AC]at hr;subst hr;obtain⟨v',h3,h4⟩:=rR (w:=w) he hs hx hl hhi hob;have hq:bu C.wF v' (.r3 k (cZ r l hh)):=by
       show bP _ _ _ _
       rw[pM hob];exact h4.mono λi u hi hu=>by rw[rS hob hi];exact hu
      exact⟨rfl,v',h3,hq.slice,hq⟩
     |r4 k r =>
      simp only[Rd.run,AC]at hr;subst hr;obtain⟨v',h3,h4⟩:=rR (w:=w) he hs hx hl hhi hob;have hq:bu C.wF v' (.r4 k (cZ r l hh)):=by
       show bP _ _ _ _
       rw[pM hob];exact h4.mono λi u hi hu=>by rw[rS hob hi];exact hu
      exact⟨rfl,v',h3,hq.slice,hq⟩
     |_=>cases hr
    |_=>cases hr
   ·cases hr
end
end Go.Sx
end
section
namespace Go.Sx
open Go.RowKit
def gD{α:Type}(l l':List (Nat×α))(t:Nat):lk (l++l') t=match lk l t with|some x=>some x|none=>lk l' t:=by
 induction l with
 |nil=>simp[lk]
 |cons p l ih =>
  obtain⟨k,v⟩:=p;rw[Bk,bv,bv];by_cases h:k=t<;>simp[h,ih]
section
variable {C:Cx} {σ:State} {mu mu':Nat->Img} {a:Act} {w w':World}
def km{dst:Option Nat}{e:Eff}{o:Nat}:(σ.app dst e).H o=match lk e.hp o with|some x=>some x|none=>σ.H o:=by
 simp only[State.app,State.H,gD];cases lk e.hp o<;>rfl
def jC(σ:State)(mu:Nat->Img)(e:Eff)(b:Nat):Prop:=∃o x ob,lk e.hp o=some x/\σ.H o=some (some ob)/\b∈(mu o).blocks
def nH:Option Ob->OSt
 |none=>.dead
 |some ob=>eo ob
def al3{dst:Option Nat}{e:Eff}{wG:World}(hmu:∀o,lk e.hp o=none->mu' o=mu o)
  (hole:∀o x,lk e.hp o=some x->ec wG (σ.ost o) (nH x) (mu o) (mu' o))(o:Nat):ec wG (σ.ost o) ((σ.app dst e).ost o) (mu o) (mu' o):=by
 cases hx:lk e.hp o with
 |none =>
  have:(σ.app dst e).ost o=σ.ost o:=by simp[State.ost,km,hx]
  rw[this,hmu o hx];exact ec.refl _ _ _
 |some x =>
  have:(σ.app dst e).ost o=nH x:=by cases x<;>simp[State.ost,km,hx,nH]
  rw[this];exact hole o x hx
theorem St.upsG(h:St C σ mu a w){dst:Option Nat}(hd:∀d,dst=some d->d<C.N){e:Eff}{v:Value}{wG:World}
  (hos:OsD w w')(htape:w'.tape=w.tape)(hout:w'.output=w.output)(hsize:w.heap.size<=w'.heap.size)
  (hkeep:∀b,b<w.heap.size->¬ jC σ mu e b->w'.heap[b]?=w.heap[b]?)
  (hG:bU C.wF wG)(hG2:∀p u,wG.cell? p=some u->C.wF.cell? p=some u\/(w'.cell? p=some u/\(∀o ob,lk e.hp o=none->σ.H o=some (some ob)->p.block ∉ (mu o).blocks)/\∀o ob,lk e.hp o=some (some ob)->p.block ∉ (mu' o).blocks))
  (hmu:∀o,lk e.hp o=none->mu' o=mu o)
  (hole:∀o x,lk e.hp o=some x->ec wG (σ.ost o) (nH x) (mu o) (mu' o))
  (hnew:∀o ob,lk e.hp o=some (some ob)->aX (σ.env wG mu) w' (mu' o) ob/\(mu' o).blocks.Nodup/\∀b∈(mu' o).blocks,jC σ mu e b\/w.heap.size<=b)
  (hsep:∀o o' ob ob',o≠o'->lk e.hp o=some (some ob)->lk e.hp o'=some (some ob')->∀b∈(mu' o).blocks,b ∉ (mu' o').blocks)
  (hval:co (σ.env C.wF mu) ((σ.app dst e).env wG mu')->aA C.P ((σ.app dst e).env wG mu') e.val v):St (C.fz wG) (σ.app dst e) mu' (a.put dst v) w':=by
 have hle:=al3 (dst:=dst) hmu hole
 have hE:co (σ.env C.wF mu) ((σ.app dst e).env wG mu'):=⟨hG,hle⟩
 have hE2:co (σ.env wG mu) ((σ.app dst e).env wG mu'):=⟨λ_ _ h=>h,hle⟩
 have hlive:∀o ob,(σ.app dst e).H o=some (some ob)->(lk e.hp o=none/\σ.H o=some (some ob))\/lk e.hp o=some (some ob):=λo ob ho=>by
  rw[km]at ho;cases hx:lk e.hp o with
  |none=>rw[hx]at ho;exact .inl ⟨rfl,ho⟩
  |some x=>rw[hx]at ho;exact .inr ho
 have hG3:∀p u,wG.cell? p=some u->C.wF.cell? p=some u\/(w'.cell? p=some u/\∀o ob,(σ.app dst e).H o=some (some ob)->p.block ∉ (mu' o).blocks):=λp u hp=>by
  rcases hG2 p u hp with h1|⟨h1,h2,h3⟩
  ·exact .inl h1
  ·refine .inr ⟨h1,λo ob ho=>?_⟩
   rcases hlive o ob ho with⟨h4,h5⟩|h4
   ·rw[hmu o h4];exact h2 o ob h4 h5
   ·exact h3 o ob h4
 refine h.updG (jC σ mu e) hos htape hout hsize ?_ hkeep hG hG3 hle (λo ob ho=>?_) (by rw[xv];exact h.sz) (xw _ _ _) (xx h hd (hval hE))
 ·rintro b ⟨o,x,ob,_,h2,h3⟩
  exact⟨o,ob,h2,h3⟩
 ·have old:∀o' ob',lk e.hp o'=none->σ.H o'=some (some ob')->∀b∈(mu o').blocks,¬ jC σ mu e b:=by
   rintro o' ob' h1 h2 b hb ⟨o2,x,ob2,h3,h4,h5⟩
   have hne:o'≠o2:=λhc=>by rw[hc,h3]at h1;cases h1
   exact h.sep o' o2 ob' ob2 hne h2 h4 b hb h5
  rcases hlive o ob ho with⟨hx,ho⟩|hx
  ·exact .inl ⟨ho,hmu o hx,old o ob hx ho⟩
  ·obtain⟨h1,h2,h3⟩:=hnew o ob hx
   refine .inr ⟨h1.keep hE2 (λ_ _=>rfl),h2,h3,λo' ob' hne ho'=>?_⟩
   rcases hlive o' ob' ho' with⟨hx',ho'⟩|hx'
   ·exact .inl ⟨ho',hmu o' hx',old o' ob' hx' ho'⟩
   ·exact .inr (hsep o o' ob ob' hne hx hx')
theorem St.ups(h:St C σ mu a w){dst:Option Nat}(hd:∀d,dst=some d->d<C.N){e:Eff}{v:Value}
  (hos:OsD w w')(htape:w'.tape=w.tape)(hout:w'.output=w.output)(hsize:w.heap.size<=w'.heap.size)
  (hkeep:∀b,b<w.heap.size->¬ jC σ mu e b->w'.heap[b]?=w.heap[b]?)
  (hmu:∀o,lk e.hp o=none->mu' o=mu o)
  (hole:∀o x,lk e.hp o=some x->d5 (σ.ost o) (nH x) (mu o) (mu' o))
  (hnew:∀o ob,lk e.hp o=some (some ob)->aX (σ.env C.wF mu) w' (mu' o) ob/\(mu' o).blocks.Nodup/\∀b∈(mu' o).blocks,jC σ mu e b\/w.heap.size<=b)
  (hsep:∀o o' ob ob',o≠o'->lk e.hp o=some (some ob)->lk e.hp o'=some (some ob')->∀b∈(mu' o).blocks,b ∉ (mu' o').blocks)
  (hval:co (σ.env C.wF mu) ((σ.app dst e).env C.wF mu')->aA C.P ((σ.app dst e).env C.wF mu') e.val v):St C (σ.app dst e) mu' (a.put dst v) w' :=
 h.upsG hd hos htape hout hsize hkeep (λ_ _ h=>h) (λ_ _ h=>.inl h) hmu (λo x hx=>.inl (hole o x hx)) hnew hsep hval
theorem St.new(h:St C σ mu a w){dst:Option Nat}(hd:∀d,dst=some d->d<C.N){d:Nat}(θ:σ.H d=none){val:SV}{p:Option Prop}{ob:Ob}{m:Img}{v:Value}
  (hg:GrB w w' none)(χ:aX (σ.env C.wF mu) w' m ob)(hnd:m.blocks.Nodup)(hb:∀b∈m.blocks,w.heap.size<=b)
  (hval:aA C.P ⟨C.wF,λo=>if o=d then m else mu o,λo=>if o=d then eo ob else σ.ost o⟩ val v) :
  aD C (σ.app dst ⟨val,[(d,some ob)],p⟩) (a.put dst v) w':=by
 have hlk:∀o,lk [(d,some ob)] o=if d=o then some (some ob)else none:=λo=>by rw[bv];simp[lk]
 refine St.ex (mu:=λo=>if o=d then m else mu o) (h.ups hd hg.os hg.tape hg.output hg.size (λb hb' _=>hg.block b hb' (by simp)) (λo ho=>?_) (λo x ho=>?_) (λo ob' ho=>?_) (λo o' ob1 ob2 hne ho ho'=>?_) (λ_=>?_))
 ·rw[hlk]at ho
  split at ho
  ·cases ho
  ·rename_i hne;simp[AN hne]
 ·rw[hlk]at ho
  split at ho
  ·rename_i hdo;subst hdo
   have:σ.ost d=.absent:=by simp[State.ost,θ]
   rw[this];trivial
  ·cases ho
 ·rw[hlk]at ho
  split at ho
  ·rename_i hdo;subst hdo;cases ho
   simp only[AX];exact⟨χ,hnd,λb hb'=>.inr (hb b hb')⟩
  ·cases ho
 ·rw[hlk]at ho ho'
  split at ho<;>split at ho'<;>first|cases ho;done|cases ho';done|(rename_i h1 h2;exact absurd (h1.symm.trans h2) hne)
 ·have:(σ.app dst ⟨val,[(d,some ob)],p⟩).env C.wF (λo=>if o=d then m else mu o)=⟨C.wF,λo=>if o=d then m else mu o,λo=>if o=d then eo ob else σ.ost o⟩:=by
   simp only[State.env,Env.mk.injEq,CD]
   funext o
   simp only[State.ost,km,hlk];by_cases hdo:d=o
   ·subst hdo;simp
   ·simp[hdo,AN hdo]
  rw[this];exact hval
def al4{E:Env}{cs:List SC}{arr:Array Value}(h:dp E cs arr)(t:TypeId):aX E (w.alloc (.cells arr t)) ⟨.pointer (some ⟨w.heap.size,0,none⟩),[]⟩ (.box cs) :=
 ⟨w.heap.size,arr,t,rfl,by simp,heap_alloc_new w _,h⟩
theorem St.newBox(h:St C σ mu a w){dst:Option Nat}(hd:∀d,dst=some d->d<C.N){d:Nat}(θ:σ.H d=none){p:Option Prop}{cs:List SC}{arr:Array Value}(ty:TypeId)
  (hr:dp (σ.env C.wF mu) cs arr)(hne:cs≠[]) :
  aD C (σ.app dst ⟨.c (.ptr d 0),[(d,some (.box cs))],p⟩) (a.put dst (.pointer (some ⟨w.heap.size,0,none⟩))) (w.alloc (.cells arr ty)):=by
 refine h.new hd θ (f9 w _ none) (al4 hr ty) (by simp[Img.blocks,ag]) (by simp[Img.blocks,ag]) ?_
 simp only[aA,ak,b7,AX,OSt.on,Ob.shp,eo];exact⟨rfl,Dl.2 hne,w.heap.size,rfl,rfl⟩
def pP{P:Program}{t:TypeId}{cs:List SC}(h:iV P t=some cs)(w:World)(E:Env) :
  ∃z,(zeroValue t).run P w=.ok z w/\dp E cs z.cells:=by
 unfold iV at h;split at h
 ·rename_i i hi
  split at h
  ·rename_i z hz
   obtain⟨h1,h2⟩:=iB h;refine⟨z,by simp[zeroValue,typeInfo,hi,hz],by simpa using h1.symm,λj c hc=>?_⟩
   obtain⟨x,h3,h4⟩:=h2 j c hc;have:=IY (E:=E) h4
   exact⟨x,by simpa using h3,this.2.1,this.1⟩
  ·cases h
 ·cases h
def al5{d:Nat}{t:TypeId}{eff:Eff}(hr:(H6 C.P d t).run σ=some eff)(h:St C σ mu a w){dst:Option Nat}(hd:∀d,dst=some d->d<C.N) :
  ∃v w',(Instr.alloc t true (.tuple #[])).run C.P w=.ok v w'/\aD C (σ.app dst eff) (a.put dst v) w':=by
 unfold H6 at hr;split at hr
 ·rename_i cs hcs
  obtain⟨θ,hr⟩:=cq hr;split at hr
  ·rename_i hne
   simp only[Rd.run,AC]at hr;subst hr;obtain⟨z,hz,χ⟩:=pP hcs w (σ.env C.wF mu);refine⟨_,_,?_,h.newBox hd θ t χ (by intro hc;subst hc;simp at hne)⟩
   simp[Instr.alloc,hz,newVar,newRow]
  ·cases hr
 ·cases hr
def xC{E:Env}{c:SC}{v:Value}(hp:c.plain=true)(hc:ak E c v):v.oneCell'=true:=by
 cases c with
 |any=>cases hp
 |und=>cases hp
 |int k n=>simp only[ak]at hc;rw[hc];rfl
 |bool b=>simp only[ak]at hc;rw[hc];rfl
 |str l=>simp only[ak]at hc;rw[hc];rfl
 |nil=>simp only[ak]at hc;rw[hc];rfl
 |own o=>exact hc.1
 |pre o n=>exact hc.1
 |sub o off n=>exact hc.1
 |ptr o i=>exact hc.1
 |row o ver i=>exact hc.1
 |rptr o ver i j=>exact hc.1
 |ro d=>obtain⟨⟨a,n,c,hv,_⟩,_⟩:=hc;rw[hv];rfl
 |rop d i=>obtain⟨b,off,fc,u,_,hv,_⟩:=hc;rw[hv];rfl
 |rob cs i=>obtain⟨b,off,hv,_⟩:=hc;rw[hv];rfl
 |rbb cs=>obtain⟨b,off,b2,off2,hv,_⟩:=hc;rw[hv];rfl
 |nilq b=>obtain⟨a,n,c,hv,_⟩:=hc;rw[hv];rfl
 |emp=>obtain⟨a,hv⟩:=hc;rw[hv];rfl
 |bsl o n=>exact hc.1
 |qptr o i=>exact hc.1
 |kid o ver p=>exact hc.1
 |kptr o ver p j=>exact hc.1
 |orig o j d=>exact hc.2.1
def xD{v:Value}(h:v.oneCell'=true):v.cells=#[v]:=by cases v<;>first|rfl|cases h
def al6{d:Nat}{t:TypeId}{sv:SV}{vx:Value}{eff:Eff}(hr:(H7 d sv).run σ=some eff)(hx:aA C.P (σ.env C.wF mu) sv vx)(h:St C σ mu a w)
  {dst:Option Nat}(hd:∀d,dst=some d->d<C.N) :
  ∃v w',(Instr.box t vx).run C.P w=.ok v w'/\aD C (σ.app dst eff) (a.put dst v) w':=by
 unfold H7 at hr;split at hr
 ·rename_i c
  split at hr
  ·rename_i hp
   obtain⟨θ,hr⟩:=cq hr;simp only[Rd.run,AC]at hr;subst hr;have h1:=xC hp hx
   refine⟨_,_,?_,h.newBox hd θ (arr:=vx.cells) t ?_ (by simp)⟩
   ·simp[Instr.box,newVar,newRow]
   ·rw[xD h1]
    refine⟨rfl,λi c' hc'=>?_⟩
    cases i with
    |zero=>simp at hc';subst hc';exact⟨vx,rfl,h1,hx⟩
    |succ i=>simp at hc'
  ·cases hr
 ·rename_i cs
  obtain⟨θ,hr⟩:=cq hr;split at hr
  ·rename_i hne
   simp only[Rd.run,AC]at hr;subst hr;obtain⟨arr,rfl,χ⟩:=hx;refine⟨_,_,?_,h.newBox hd θ (arr:=arr) t χ (by intro hc;subst hc;simp at hne)⟩
   simp[Instr.box,newVar,newRow,Value.cells]
  ·cases hr
 ·cases hr
end
end Go.Sx
end
end
