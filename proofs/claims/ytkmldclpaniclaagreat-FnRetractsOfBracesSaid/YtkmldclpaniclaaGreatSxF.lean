/- SxF -/
import Derived.Test.YtkmldclpaniclaaGreatSxE
set_option linter.unusedSimpArgs false
set_option linter.unusedVariables false
set_option linter.defProp false
namespace Go.Sx
open Go.RowKit
section
variable {C:Cx} {σ:State} {mu:Nat->Img} {a:Act} {w:World}
theorem d6{o:Nat}{ob:Ob}(ho:σ.H o=some (some ob)){v:Value}(hv:v.oneCell'=true){p:Shp->Prop}{q:FC->Prop}(h:p ob.shp)(hf:ob.isFz=false:=by first|rfl|assumption):bS (σ.env C.wF mu) o v p q:=by
 have:(σ.env C.wF mu).st o=.live ob.shp:=cr ho hf
 refine⟨hv,?_⟩
 rw[this];exact h
theorem YX{s:TypeId}{cx:SC}{f:Nat}{vx:Value}{eff:Eff}(hr:(GM C.P s cx f).run σ=some eff)(hob:eff.obl)(hx:ai (σ.env C.wF mu) cx vx)(h:St C σ mu a w) :
  eff.hp=[]/\∃v,(Instr.fieldAt s vx f).run C.P w=.ok v w/\aw C.P (σ.env C.wF mu) eff.val v:=by
 unfold GM at hr;split at hr
 ·rename_i fs hu
  split at hr
  ·simp[Rd.run]at hr
  ·rename_i fd hfd
   split at hr
   ·rename_i n hn
    have hsz:=gn hn
    have ω:∀b i,(Instr.fieldAt s (.pointer (some ⟨b,i,none⟩)) f).run C.P w=.ok (.pointer (some ⟨b,i+fd.offset,none⟩)) w:=fun b i=>by
     simp[Instr.fieldAt,run_underlying hu,hfd,Instr.sureAddr,fieldPlace,hsz,Addr.add_lit]
    split at hr
    ·rename_i o i
     obtain⟨ob,ho,hr⟩:=aZ hr;cases ob with
     |box cs =>
      simp only at hr;split at hr
      ·rename_i ψ
       simp only[Rd.run,aN,AC]at hr;subst hr;obtain⟨_,b,hb,rfl⟩:=aP ho hx;exact⟨rfl,_,ω b i,d6 ho rfl ⟨ψ,b,hb,rfl⟩⟩
      ·simp[Rd.run]at hr
     |_=>simp[Rd.run]at hr
    ·rename_i cs i
     simp only[Rd.run,aN,AC]at hr;subst hr;obtain⟨b,off,rfl,hc⟩:=hx;exact⟨rfl,_,ω b off,b,off+fd.offset,rfl,fun j fc hj=>by
      obtain⟨u,h1,h2⟩:=hc (fd.offset+j) fc (by rw[<-A0];exact hj)
      exact⟨u,by rw[A0];exact h1,h2⟩⟩
    ·rename_i o ver p j
     obtain⟨ob,ho,hr⟩:=aZ hr;cases ob with
     |tr ver' es d =>
      simp only at hr;split at hr
      ·split at hr
       ·rename_i hv
        have hx:=aP ho hx
        obtain⟨nd,u,b,n,c,q1,q2,q3,q4,rfl⟩:=hx.2 hv.symm;obtain⟨_,_,x',k1,k2,_⟩:=lS (h.ob o _ ho) q1 q2;cases k1;have key:∀j',j'<d.cn->j'<n\/j'<(bo u).length:=fun j' hob=>by
         match es,k2 with
         | [_],⟨_,kk,ll,z2,_⟩ =>
          left
          rw[k2.len q3];subst z2
          simpa[FC.cn,FC.wid]using hob
         |_::_::_,k2=>exact .inr (by rw[jO k2];exact hob)
        split at hr
        ·rename_i hof
         simp only[Rd.run,AC]at hr;subst hr;have hr1:=ω b j
         rw[hof,Bc]at hr1;exact⟨rfl,_,hr1,d6 ho rfl ⟨hx.1,fun _=>⟨nd,u,b,n,c,q1,q2,q3,key j hob,rfl⟩⟩⟩
        ·rename_i hof
         simp only[Rd.run,AC]at hr;subst hr;have hr1:=ω b j
         rw[hof]at hr1;exact⟨rfl,_,hr1,d6 ho rfl ⟨hx.1,fun _=>⟨nd,u,b,n,c,q1,q2,q3,key (j+1) hob,rfl⟩⟩⟩
        ·simp[Rd.run]at hr
       ·simp[Rd.run]at hr
      ·simp[Rd.run]at hr
     |_=>simp[Rd.run]at hr
    ·simp[Rd.run]at hr
   ·simp[Rd.run]at hr
 ·simp[Rd.run]at hr
theorem YY{s:TypeId}{sv:SV}{f:Nat}{vx:Value}{eff:Eff}(hr:(GN C.P s sv f).run σ=some eff)(hx:aw C.P (σ.env C.wF mu) sv vx) :
  eff.hp=[]/\∃v,(Instr.field s vx f).run C.P w=.ok v w/\aw C.P (σ.env C.wF mu) eff.val v:=by
 unfold GN at hr;split at hr
 ·rename_i fs hu
  split at hr
  ·simp[Rd.run]at hr
  ·rename_i fd hfd
   split at hr
   ·rename_i cs
    obtain⟨arr,rfl,hsz,hcs⟩:=hx;split at hr
    ·rename_i hagg
     split at hr
     ·rename_i n hn
      split at hr
      ·rename_i hle
       simp only[Rd.run,AC]at hr;subst hr;refine⟨rfl,.agg (arr.extract fd.offset (fd.offset+n)),?_,_,rfl,?_⟩
       ·simp[Instr.field,run_underlying hu,hfd,asAgg,part,wY hagg,gn hn]
       ·refine⟨by simp[hsz];omega,fun i c hi=>?_⟩
        rw[Au]at hi;split at hi
        ·rename_i hin
         rw[A9]at hi;obtain⟨u,h1,h2⟩:=hcs _ c hi;have ψ:fd.offset+i<arr.size:=(A5.1 h1).1
         refine⟨u,?_,h2⟩
         rw[DC,AA (by omega)]
         exact h1
        ·cases hi
      ·simp[Rd.run]at hr
     ·simp[Rd.run]at hr
    ·rename_i hagg
     split at hr
     ·rename_i c hc
      simp only[Rd.run,aN,AC]at hr;subst hr;obtain⟨u,h1,h2,h3⟩:=hcs _ c hc;refine⟨rfl,u,?_,h3⟩
      simp[Instr.field,run_underlying hu,hfd,asAgg,part,wY hagg,h1]
     ·simp[Rd.run]at hr
    ·simp[Rd.run]at hr
   ·simp[Rd.run]at hr
 ·simp[Rd.run]at hr
theorem HB{t e:TypeId}(he:bX C.P t=some e)(hs:cK C.P e=some 1){ad:Addr}{len cap:Nat}{k:IntKind}{n:Int}(hn:aa n len) :
  (Instr.indexAt t (.slice (some ad) len cap) (.int k n)).run C.P w=.ok (.pointer (some (ad.add n.toNat))) w:=by
 have h1:0<=n/\n<(len:Int):=hn
 simp[Instr.indexAt,run_underlying (gp he),asIntOf,h1.1,h1.2,gn hs]
theorem mZ{t e:TypeId}(he:bX C.P t=some e)(hs:cK C.P e=some 1){hd v:Value}{off len:Nat}(hv:cA hd off len v){k:IntKind}{n:Int}(hn:aa n len) :
  ∃b,ac hd=some b/\(Instr.indexAt t v (.int k n)).run C.P w=.ok (.pointer (some ⟨b,off+n.toNat,none⟩)) w:=by
 have h1:0<=n/\n<(len:Int):=hn
 rcases hv with⟨_,_,_,h0⟩|⟨g,l,cap,ao,rfl,rfl,hc1,hc2,hao⟩
 ·omega
 ·refine⟨g,rfl,?_⟩
  rw[hao (.inr (by omega)),HB he hs hn,Addr.add_lit]
theorem O0{t e:TypeId}(he:bX C.P t=some e)(hs:cK C.P e=some 2){ad:Addr}{len cap:Nat}{k:IntKind}{n:Int}(hn:aa n len) :
  (Instr.indexAt t (.slice (some ad) len cap) (.int k n)).run C.P w=.ok (.pointer (some (ad.add (n.toNat*2)))) w:=by
 have h1:0<=n/\n<(len:Int):=hn
 simp[Instr.indexAt,run_underlying (gp he),asIntOf,h1.1,h1.2,gn hs]
theorem O5{t e:TypeId}(he:bX C.P t=some e)(hs:cK C.P e=some 2){hd v:Value}{len:Nat}(hv:cA hd 0 len v){k:IntKind}{n:Int}(hn:aa n len) :
  ∃b,ac hd=some b/\(Instr.indexAt t v (.int k n)).run C.P w=.ok (.pointer (some ⟨b,n.toNat*2,none⟩)) w:=by
 have h1:0<=n/\n<(len:Int):=hn
 rcases hv with⟨_,_,_,h0⟩|⟨g,l,cap,ao,rfl,rfl,hc1,hc2,hao⟩
 ·omega
 ·refine⟨g,rfl,?_⟩
  rw[hao (.inl rfl),O0 he hs hn,Addr.add_lit,AK]
theorem cL{w:World}{B e size n:Nat}{v:Value}{xs:List Value}(h:w.ownsRow B e size v n xs):cA v 0 n v:=by
 rcases h.2 with⟨rfl,rfl⟩|⟨g,cap,cur,rfl,_,_,hn,_⟩
 ·exact .inl ⟨rfl,rfl,rfl,rfl⟩
 ·exact .inr ⟨g,n,cap,_,rfl,rfl,Ad _,hn,fun _=>rfl⟩
def Ob.len?:Ob->Option Nat
 |.box _=>none
 |.bx _=>none
 |.strs _ l=>some l.length
 |.ints _ _ l=>some l.length
 |.bools _ l=>some l.length
 |.rows _ _ _ _ l=>some l.length
 |.lst _ _ d=>match d.wid with
  |1=>some d.len
  |_=>none
 |.frz _=>none
 |.mp _=>none
 |.qu _ _ _=>none
 |.rowsH _ _ _ _ l _=>some l.length
 |.tr _ _ d=>match d.wid with
  |1=>some d.len
  |_=>none
 |.yd _ _ _ _=>none
 |.trk _ _ _ _=>none
theorem w6{d:FC}(h:d.wid=1):d.slen=d.len:=by
 cases d with
 |p3 k l=>cases h
 |_=>rfl
theorem lT{α:Type}{d:FC}{r:Rd α}{σ:State}{x:α}(h:(eg d r).run σ=some x):d.wid=1/\r.run σ=some x:=by
 unfold eg at h;split at h
 ·rename_i e;exact⟨e,h⟩
 ·simp[Rd.run]at h
theorem O6{d:FC}{L:Nat}(h:(match d.wid with|1=>some d.len|_=>none)=some L):d.wid=1/\L=d.len:=by
 split at h
 ·rename_i e;cases h;exact⟨e,rfl⟩
 ·cases h
theorem qM{E:Env}{m:Img}{ob:Ob}{L:Nat}(hl:ob.len?=some L)(h:aR E w m ob):cA m.hd 0 L m.hd/\ob.shp.len=L:=by
 cases ob with
 |box cs=>cases hl
 |bx cs=>cases hl
 |strs e l=>cases hl;exact⟨cL h.2,rfl⟩
 |ints e k l=>cases hl;exact⟨cL h.2,rfl⟩
 |bools e l=>cases hl;exact⟨cL h.2,rfl⟩
 |rows ver e ei k l=>cases hl;exact⟨cL h.1,rfl⟩
 |lst ver e d =>
  obtain⟨e1,rfl⟩:=O6 hl;obtain⟨_,vs,h1,_⟩:=h;exact⟨cL h1,w6 e1⟩
 |frz d=>cases hl
 |mp l=>cases hl
 |qu e k l=>cases hl
 |rowsH ver e ei k l hs=>cases hl;obtain⟨_,⟨vs,h1,_⟩,_⟩:=h;exact⟨cL h1,rfl⟩
 |yd yv Y pre g=>cases hl
 |trk ver es d n=>cases hl
 |tr ver es d =>
  obtain⟨e1,rfl⟩:=O6 hl;obtain⟨nd,rfl,h2⟩:=h;obtain⟨e,xs,h1⟩:=h2.row;exact⟨cL h1,w6 e1⟩
theorem qN{t e:TypeId}(he:bX C.P t=some e)(hs:cK C.P e=some 1){wF:World}{v:Value}{len:Nat}{R:Nat->Value->Prop}(hv:bE wF v len R){k:IntKind}{n:Int}(hn:aa n len) :
  ∃b off u,(Instr.indexAt t v (.int k n)).run C.P w=.ok (.pointer (some ⟨b,off,none⟩)) w/\wF.cell? ⟨b,off,none⟩=some u/\R n.toNat u:=by
 have h1:0<=n/\n<(len:Int):=hn
 obtain⟨ad,c,rfl,_,hk⟩:=hv;obtain⟨b,off,rfl,hk2⟩:=hk (by omega)
 obtain⟨u,h2,h3⟩:=hk2 n.toNat (by omega)
 exact⟨b,off+n.toNat,u,by rw[HB he hs hn,Addr.add_lit],h2,h3⟩
theorem YZ{t:TypeId}{cx ci:SC}{vx vi:Value}{eff:Eff}(hr:(GO C.P t cx ci).run σ=some eff)(hob:eff.obl)
  (hx:ai (σ.env C.wF mu) cx vx)(hi:ai (σ.env C.wF mu) ci vi)(h:St C σ mu a w) :
  eff.hp=[]/\∃v,(Instr.indexAt t vx vi).run C.P w=.ok v w/\aw C.P (σ.env C.wF mu) eff.val v:=by
 unfold GO at hr;split at hr
 ·simp[Rd.run]at hr
 ·rename_i e he
  split at hr
  ·rename_i hs
   split at hr
   ·rename_i k n
    simp only[ai]at hi;subst hi;split at hr
    ·rename_i o
     obtain⟨ob,ho,hr⟩:=aZ hr;have hnf:ob.isFz=false:=by cases ob<;>first|rfl|simp[Rd.run]at hr
     have hv:=aP ho hx hnf
     have hv':vx=(mu o).hd:=hv
     subst hv';have key:∀L,ob.len?=some L->eff=⟨.c (.ptr o n.toNat),[],some (aa n L)⟩->eff.hp=[]/\∃v,(Instr.indexAt t (mu o).hd (.int k n)).run C.P w=.ok v w/\aw C.P (σ.env C.wF mu) eff.val v:=fun L hL heff=>by
      subst heff;obtain⟨h1,h2⟩:=qM hL (h.ob o ob ho);obtain⟨b,h3,h4⟩:=mZ (w:=w) (k:=k) he hs h1 hob;refine⟨rfl,_,h4,d6 ho rfl ⟨?_,b,h3,by simp⟩ hnf⟩
      have h5:0<=n/\n<(L:Int):=hob
      omega
     clear hnf;cases ob with
     |frz d=>simp[Rd.run]at hr
     |mp l=>simp[Rd.run]at hr
     |qu e' k' l =>
      simp only[Rd.run,AC]at hr;subst hr;have hB:0<=n/\n<(l.length:Int):=hob
      obtain⟨_,h2⟩:=h.ob o _ ho;rcases h2 with⟨_,h3⟩|⟨g,off,cap,a1,_⟩
      ·have:l.length=0:=by rw[<-Ae (f:=Value.int k'),h3];rfl
       omega
      ·refine⟨rfl,.pointer (some ⟨g,off+n.toNat,none⟩),by rw[a1,HB he hs (by rw[Ae];exact hB),Addr.add_lit],d6 ho rfl ⟨?_,g,off,_,_,a1,rfl⟩⟩
       show n.toNat<l.length
       omega
     |lst ver e d =>
      obtain⟨e1,hr⟩:=lT hr;simp only[Rd.run,AC]at hr;exact key _ (by simp only[Ob.len?,e1]) hr.symm
     |rowsH ver e ei k l hs=>simp only[Rd.run,AC]at hr;exact key _ rfl hr.symm
     |yd yv Y pre g=>simp[Rd.run]at hr
     |trk ver es d m =>
      obtain⟨_,hr⟩:=lT hr;simp only[Rd.run,AC]at hr;subst hr;obtain⟨nd,hm,h2⟩:=h.ob o _ ho;obtain⟨ee,xs,h1⟩:=h2.row;have hhd:(mu o).hd=aK nd:=by rw[hm];rfl
      rw[hhd];obtain⟨b,h3,h4⟩:=mZ (w:=w) (k:=k) he hs (cL h1) hob;have h5:0<=n/\n<(d.len:Int):=hob
      obtain⟨cap,h6,_⟩:=mY h1 h3;rw[AK]at h4;exact⟨rfl,_,h4,d6 ho rfl ⟨AE _,fun _=>⟨nd,nd,b,_,cap,by show(mu o).ins[0]?=_;rw[hm];rfl,rfl,h6,.inl (by omega),rfl⟩⟩⟩
     |tr ver es d =>
      obtain⟨_,hr⟩:=lT hr;simp only[Rd.run,AC]at hr;subst hr;obtain⟨nd,hm,h2⟩:=h.ob o _ ho;obtain⟨ee,xs,h1⟩:=h2.row;have hhd:(mu o).hd=aK nd:=by rw[hm];rfl
      rw[hhd];obtain⟨b,h3,h4⟩:=mZ (w:=w) (k:=k) he hs (cL h1) hob;have h5:0<=n/\n<(d.len:Int):=hob
      obtain⟨cap,h6,_⟩:=mY h1 h3;rw[AK]at h4;exact⟨rfl,_,h4,d6 ho rfl ⟨AE _,fun _=>⟨nd,nd,b,_,cap,by show(mu o).ins[0]?=_;rw[hm];rfl,rfl,h6,.inl (by omega),rfl⟩⟩⟩
     |box cs=>simp[Rd.run]at hr
     |bx cs=>simp[Rd.run]at hr
     |ints e k l=>simp only[Rd.run,AC]at hr;exact key _ rfl hr.symm
     |bools e l=>simp only[Rd.run,AC]at hr;exact key _ rfl hr.symm
     |strs e l=>simp only[Rd.run,AC]at hr;exact key _ rfl hr.symm
     |rows ver e ei k l=>simp only[Rd.run,AC]at hr;exact key _ rfl hr.symm
    ·rename_i o ver p
     obtain⟨ob,ho,hr⟩:=aZ hr;have hnf:ob.isFz=false:=by cases ob<;>first|rfl|simp[Rd.run]at hr
     have hx:=aP ho hx hnf
     clear hnf;cases ob with
     |tr ver' es d =>
      simp only at hr;split at hr
      ·rename_i hver
       split at hr
       ·rename_i x hx1
        obtain⟨_,hr⟩:=lT hr;simp only[Rd.run,AC]at hr;subst hr;obtain⟨nd,u,q1,q2,rfl⟩:=hx.2 hver.symm;obtain⟨_,_,x',k1,k2,_⟩:=lS (h.ob o _ ho) q1 q2;rw[hx1]at k1;cases k1;obtain⟨ee,xs,h1⟩:=k2.row;obtain⟨b,h3,h4⟩:=mZ (w:=w) (k:=k) he hs (cL h1) hob;have h5:0<=n/\n<(x.len:Int):=hob
        obtain⟨cap,h6,_⟩:=mY h1 h3;rw[AK]at h4;exact⟨rfl,_,h4,d6 ho rfl ⟨hx.1,fun _=>⟨nd,u,b,_,cap,q1,q2,h6,.inl (by omega),rfl⟩⟩⟩
       ·simp[Rd.run]at hr
      ·simp[Rd.run]at hr
     |_=>simp[Rd.run]at hr
    ·rename_i o len
     obtain⟨ob,ho,hr⟩:=aZ hr;obtain⟨hnf,hr⟩:=mV hr;simp only[Rd.run,AC]at hr;subst hr;obtain⟨hle,hv⟩:=aP ho hx;obtain⟨b,h3,h4⟩:=mZ (w:=w) (k:=k) he hs hv hob;have h5:0<=n/\n<(len:Int):=hob
     exact⟨rfl,_,h4,d6 ho rfl ⟨by omega,b,h3,by simp⟩⟩
    ·rename_i o off len
     obtain⟨ob,ho,hr⟩:=aZ hr;obtain⟨hnf,hr⟩:=mV hr;simp only[Rd.run,AC]at hr;subst hr;obtain⟨hle,hv⟩:=aP ho hx;obtain⟨b,h3,h4⟩:=mZ (w:=w) (k:=k) he hs hv hob;have h5:0<=n/\n<(len:Int):=hob
     exact⟨rfl,_,h4,d6 ho rfl ⟨by omega,b,h3,rfl⟩⟩
    ·rename_i o ver i
     obtain⟨ob,ho,hr⟩:=aZ hr;have hnf:ob.isFz=false:=by cases ob<;>first|rfl|simp[Rd.run]at hr
     cases ob with
     |rows ver' e' ei k' l =>
      simp only at hr;split at hr
      ·rename_i hver
       simp only[Rd.run,AC]at hr;subst hr;obtain⟨h0,hx⟩:=aP ho hx;obtain⟨hins,ψ⟩:=hx hver.symm;have hlt':i<l.length:=ψ
       obtain⟨_,_,h3⟩:=h.ob o _ ho;have hrow:=h3 i vx _ hins (AF hlt')
       have hgd:l.getD i []=l[i]:=by simp[List.getD,hlt']
       have hob':aa n l[i].length:=by rw[<-hgd];exact hob
       obtain⟨b,h4,h5⟩:=mZ (w:=w) (k:=k) he hs (cL hrow) hob';have h6:0<=n/\n<(l[i].length:Int):=hob'
       refine⟨rfl,_,h5,d6 ho rfl ⟨h0,fun _=>⟨hlt',?_,vx,b,hins,h4,by simp⟩⟩⟩
       have:((Ob.rows ver' e' ei k' l).shp.rl.getD i 0)=l[i].length:=by simp[Ob.shp,List.getD,hlt']
       omega
      ·simp[Rd.run]at hr
     |_=>simp[Rd.run]at hr
    ·rename_i d
     have h5:∀L,aa n L->n.toNat<L:=fun L hL=>by have:0<=n/\n<(L:Int):=hL;omega
     split at hr<;>simp only[Rd.run,AC,reduceCtorEq]at hr<;>subst hr
     ·rename_i kk l
      obtain⟨b,off,u,h1,h2,h3⟩:=qN (w:=w) (k:=k) he hs hx.2 hob;exact⟨rfl,_,h1,b,off,.int kk (l.getD n.toNat 0),u,by simp[FC.elem,h5 _ hob],rfl,h2,h3⟩
     ·rename_i l
      obtain⟨b,off,u,h1,h2,h3⟩:=qN (w:=w) (k:=k) he hs hx.2 hob;exact⟨rfl,_,h1,b,off,.bool (l.getD n.toNat false),u,by simp[FC.elem,h5 _ hob],rfl,h2,h3⟩
     ·rename_i kk l
      obtain⟨b,off,u,h1,h2,h3⟩:=qN (w:=w) (k:=k) he hs hx.2 hob;exact⟨rfl,_,h1,b,off,.ints kk (l.getD n.toNat []),u,by simp[FC.elem,h5 _ hob],rfl,h2,h3⟩
     ·rename_i kk l
      obtain⟨b,off,u,h1,h2,h3⟩:=qN (w:=w) (k:=k) he hs hx.2 hob;exact⟨rfl,_,h1,b,off,.rows kk (l.getD n.toNat []),u,by simp[FC.elem,h5 _ hob],rfl,h2,h3⟩
     ·rename_i kk l
      obtain⟨b,off,u,h1,h2,h3⟩:=qN (w:=w) (k:=k) he hs hx.2 hob;exact⟨rfl,_,h1,b,off,.r3 kk (l.getD n.toNat []),u,by simp[FC.elem,h5 _ hob],rfl,h2,h3⟩
    ·simp[Rd.run]at hr
   ·simp[Rd.run]at hr
  ·split at hr
   ·rename_i hs
    split at hr
    ·rename_i k n
     simp only[ai]at hi;subst hi;split at hr
     ·rename_i o
      obtain⟨ob,ho,hr⟩:=aZ hr;have hnf:ob.isFz=false:=by cases ob<;>first|rfl|simp[Rd.run]at hr
      have hv:=aP ho hx hnf
      have hv':vx=(mu o).hd:=hv
      subst hv';clear hnf;split at hr
      ·rename_i ver es kk l
       simp only[Rd.run,AC]at hr;subst hr;obtain⟨nd,hm,h2⟩:=h.ob o _ ho;obtain⟨ee,xs,h1⟩:=h2.row;have hhd:(mu o).hd=aK nd:=by rw[hm];rfl
       rw[hhd];obtain⟨b,h3,h4⟩:=O5 (w:=w) (k:=k) he hs (cL h1) hob;have h5:0<=n/\n<(l.length:Int):=hob
       obtain⟨cap,h6,_⟩:=mY h1 h3;have hk:(bo nd).length=l.length*2:=by
        match es,h2 with
        | [_],⟨_,_,_,z2,_⟩=>cases z2
        |_::_::_,h2=>exact jO h2
       exact⟨rfl,_,h4,d6 ho rfl ⟨AE _,fun _=>⟨nd,nd,b,_,cap,by show(mu o).ins[0]?=_;rw[hm];rfl,rfl,h6,.inr (by omega),rfl⟩⟩⟩
      ·rename_i ver es kk l
       simp only[Rd.run,AC]at hr;subst hr;obtain⟨_,vs,h1,h2⟩:=h.ob o _ ho;obtain⟨b,h3,h4⟩:=O5 (w:=w) (k:=k) he hs (cL h1) hob;exact⟨rfl,_,h4,d6 ho rfl ⟨b,h3,by simp⟩⟩
      ·simp[Rd.run]at hr
     ·rename_i kk l
      simp only[Rd.run,AC]at hr;subst hr;obtain⟨_,ad,c,rfl,_,hk⟩:=hx;have h5:0<=n/\n<(l.length:Int):=hob
      obtain⟨b,off,rfl,hk2⟩:=hk (by omega)
      refine⟨rfl,_,by rw[O0 he hs hob,Addr.add_lit],b,off+n.toNat*2,rfl,fun j fc hj=>?_⟩
      match j,hj with
      |0,hj =>
       cases hj;obtain⟨u,h2,h3⟩:=hk2 (n.toNat*2) (by omega)
       have e1:n.toNat*2 % 2=0:=by omega
       have e2:n.toNat*2 / 2=n.toNat:=by omega
       simp only[dP,e1,e2,AV]at h3;exact⟨u,h2,h3⟩
      |1,hj =>
       cases hj;obtain⟨u,h2,h3⟩:=hk2 (n.toNat*2+1) (by omega)
       have e1:¬ (n.toNat*2+1) % 2=0:=by omega
       have e2:(n.toNat*2+1) / 2=n.toNat:=by omega
       simp only[dP,e1,e2,Ag]at h3;exact⟨u,by rw[A0];exact h2,h3⟩
      |j+2,hj=>simp at hj
     ·simp[Rd.run]at hr
    ·simp[Rd.run]at hr
   ·simp[Rd.run]at hr
theorem Y2{t e ty:TypeId}(he:bX C.P t=some e)(x:Option Addr)(n c:Nat):(Builtin.len_ #[t] ty #[.slice x n c]).run C.P w=.ok (.int .i64 (n:Int)) w:=by
 simp[Builtin.len_,run_underlying (gp he),goInt]
theorem jZ{hd v:Value}{off n:Nat}(h:cA hd off n v):∃x c,v=.slice x n c:=by
 rcases h with⟨_,rfl,_,rfl⟩|⟨g,l,cap,ao,_,rfl,_⟩
 ·exact⟨_,_,rfl⟩
 ·exact⟨_,_,rfl⟩
theorem O7{t ty e:TypeId}{cx:SC}{vx:Value}{eff:Eff}(hr:(wx cx).run σ=some eff)
  (ht:bX C.P t=some e\/(∃l,cx=.str l)/\C.P.underlying t=some .string)(hn:(∃l,cx=.str l)->C.P.underlying t=some .string)
  (hx:ai (σ.env C.wF mu) cx vx)(h:St C σ mu a w) :
  eff.hp=[]/\∃v,(Builtin.len_ #[t] ty #[vx]).run C.P w=.ok v w/\aw C.P (σ.env C.wF mu) eff.val v:=by
 have hsl:∀(n:Nat),(∀l,cx≠.str l)->(∃x c,vx=.slice x n c)->eff=⟨.c (.int .i64 n),[],none⟩ ->
   eff.hp=[]/\∃v,(Builtin.len_ #[t] ty #[vx]).run C.P w=.ok v w/\aw C.P (σ.env C.wF mu) eff.val v:=fun n hne ⟨x,c,hv⟩ heff=>by
  rcases ht with he|⟨⟨l,hl⟩,_⟩
  ·subst heff;subst hv
   exact⟨rfl,_,Y2 he x n c,rfl⟩
  ·exact absurd hl (hne l)
 unfold wx at hr;split at hr
 ·simp only[ai]at hx
  simp only[Rd.run,aN,AC]at hr;exact hsl 0 (by simp) ⟨_,_,hx⟩ hr.symm
 ·rename_i l
  simp only[ai]at hx;simp only[Rd.run,aN,AC]at hr;subst hr;subst hx;refine⟨rfl,_,by simp[Builtin.len_,run_underlying (hn ⟨l,rfl⟩),goInt];rfl,?_⟩
  simp[aw,ai,ByteArray.size]
 ·rename_i o
  obtain⟨ob,ho,hr⟩:=aZ hr;have hnf:ob.isFz=false:=by cases ob<;>first|rfl|simp[Rd.run]at hr
  have hv':vx=(mu o).hd:=aP ho hx
  have key:∀L,ob.len?=some L->eff=⟨.c (.int .i64 L),[],none⟩->_:=fun L hL heff=>by
   obtain⟨h1,_⟩:=qM hL (h.ob o ob ho);rw[<-hv']at h1;exact hsl L (by simp) (jZ h1) heff
  cases ob with
  |box cs=>simp[Rd.run]at hr
  |bx cs=>simp[Rd.run]at hr
  |ints e k l=>simp only[Rd.run,aN,AC]at hr;exact key _ rfl hr.symm
  |bools e l=>simp only[Rd.run,aN,AC]at hr;exact key _ rfl hr.symm
  |strs e l=>simp only[Rd.run,aN,AC]at hr;exact key _ rfl hr.symm
  |rows ver e ei k l=>simp only[Rd.run,aN,AC]at hr;exact key _ rfl hr.symm
  |lst ver e d =>
   simp only[Rd.run,aN,AC]at hr;obtain⟨_,vs,h1,_⟩:=h.ob o _ ho;exact hsl _ (by simp) (jZ (by rw[hv'];exact cL h1)) hr.symm
  |rowsH ver e ei k l hs=>simp only[Rd.run,aN,AC]at hr;exact key _ rfl hr.symm
  |yd yv Y pre g=>simp[Rd.run]at hr
  |tr ver es d =>
   simp only[Rd.run,aN,AC]at hr;obtain⟨nd,hm,h2⟩:=h.ob o _ ho;obtain⟨ee,xs,h1⟩:=h2.row;exact hsl _ (by simp) (jZ (by rw[hv',hm];exact cL h1)) hr.symm
  |trk ver es d n =>
   simp only[Rd.run,aN,AC]at hr;obtain⟨nd,hm,h2⟩:=h.ob o _ ho;obtain⟨ee,xs,h1⟩:=h2.row;exact hsl _ (by simp) (jZ (by rw[hv',hm];exact cL h1)) hr.symm
  |frz d=>simp[Rd.run]at hr
  |mp l=>simp[Rd.run]at hr
  |qu e k l =>
   simp only[Rd.run,aN,AC]at hr;obtain⟨_,h2⟩:=h.ob o _ ho;refine hsl l.length (by simp) ?_ hr.symm
   rw[hv'];rcases h2 with⟨h2,h3⟩|⟨g,off,cap,a1,_⟩
   ·have:l.length=0:=by rw[<-Ae (f:=Value.int k),h3];rfl
    exact⟨_,_,by rw[h2,this]⟩
   ·exact⟨_,_,by rw[a1,Ae]⟩
 ·rename_i o ver p
  obtain⟨ob,ho,hr⟩:=aZ hr;have hnf:ob.isFz=false:=by cases ob<;>first|rfl|simp[Rd.run]at hr
  have hx:=aP ho hx hnf
  clear hnf;cases ob with
  |tr ver' es d =>
   simp only at hr;split at hr
   ·rename_i hver
    split at hr
    ·rename_i x hx1
     simp only[Rd.run,aN,AC]at hr;obtain⟨nd,u,q1,q2,rfl⟩:=hx.2 hver.symm;obtain⟨_,_,x',k1,k2,_⟩:=lS (h.ob o _ ho) q1 q2;rw[hx1]at k1;cases k1;obtain⟨ee,xs,h1⟩:=k2.row;exact hsl x.len (by simp) (jZ (cL h1)) hr.symm
    ·simp[Rd.run]at hr
   ·simp[Rd.run]at hr
  |_=>simp[Rd.run]at hr
 ·rename_i o n
  obtain⟨ob,ho,hr⟩:=aZ hr;obtain⟨hnf,hr⟩:=mV hr;simp only[Rd.run,aN,AC]at hr;exact hsl n (by simp) (jZ (aP ho hx).2) hr.symm
 ·rename_i o off n
  obtain⟨ob,ho,hr⟩:=aZ hr;obtain⟨hnf,hr⟩:=mV hr;simp only[Rd.run,aN,AC]at hr;exact hsl n (by simp) (jZ (aP ho hx).2) hr.symm
 ·rename_i o ver i
  obtain⟨ob,ho,hr⟩:=aZ hr;cases ob with
  |rows ver' e' ei k' l =>
   simp only at hr;split at hr
   ·rename_i hver
    simp only[Rd.run,aN,AC]at hr;obtain⟨h0,hx⟩:=aP ho hx;obtain⟨hins,ψ⟩:=hx hver.symm;have hlt':i<l.length:=ψ
    obtain⟨_,_,h3⟩:=h.ob o _ ho;have hrow:=h3 i vx _ hins (AF hlt')
    have hgd:l.getD i []=l[i]:=by simp[List.getD,hlt']
    rw[hgd]at hr;exact hsl _ (by simp) (jZ (cL hrow)) hr.symm
   ·simp[Rd.run]at hr
  |_=>simp[Rd.run]at hr
 ·rename_i d
  split at hr<;>simp only[Rd.run,aN,AC,reduceCtorEq]at hr
  all_goals
   obtain⟨_,x,c,hv,_,_⟩:=hx;exact hsl _ (by simp) ⟨x,c,hv⟩ hr.symm
 ·simp[Rd.run]at hr
theorem Y3{sv:SV}{i:Nat}{vx:Value}{eff:Eff}(hr:(GW sv i).run σ=some eff)(hx:aw C.P (σ.env C.wF mu) sv vx) :
  eff.hp=[]/\∃v,(Instr.extract vx i).run C.P w=.ok v w/\aw C.P (σ.env C.wF mu) eff.val v:=by
 unfold GW at hr;split at hr
 ·obtain⟨arr,rfl,hsz,hc⟩:=hx
  split at hr
  ·rename_i c hcc
   simp only[Rd.run,aN,AC]at hr;subst hr;obtain⟨u,h1,h2⟩:=hc i _ hcc;exact⟨rfl,u,by simp[Instr.extract,h1],h2.2⟩
  ·rename_i cs hcc
   simp only[Rd.run,AC]at hr;subst hr;obtain⟨u,h1,h2⟩:=hc i _ hcc;exact⟨rfl,u,by simp[Instr.extract,h1],h2⟩
  ·simp[Rd.run]at hr
 ·simp[Rd.run]at hr
theorem Y4{t:TypeId}{cx ci:SC}{vx vi:Value}{eff:Eff}(hr:(GX C.P t cx ci).run σ=some eff)(hob:eff.obl)
  (hx:ai (σ.env C.wF mu) cx vx)(hi:ai (σ.env C.wF mu) ci vi) :
  eff.hp=[]/\∃v,(Instr.index t vx vi).run C.P w=.ok v w/\aw C.P (σ.env C.wF mu) eff.val v:=by
 simp[GX,Rd.run]at hr
end
end Go.Sx
