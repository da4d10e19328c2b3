/- SxB SxBt -/
import Derived.Test.YtkmldclpaniclaaGreatSxA
set_option linter.unusedSimpArgs false
set_option linter.unusedVariables false
set_option linter.defProp false
section
namespace Go.Sx
open Go.RowKit
theorem ip.mono{w0 w:World}(hc:∀p u,w0.cell? p=some u->w.cell? p=some u){k:IntKind}{v:Value}{l:D6}(h:ip w0 k v l):ip w k v l:=by
 obtain⟨a,c,hv,hle,h⟩:=h;refine⟨a,c,hv,hle,λh0=>?_⟩
 obtain⟨b,off,ha,h⟩:=h h0;exact⟨b,off,ha,λi hi=>let⟨u,h1,h2⟩:=h i hi;⟨u,hc _ _ h1,h2⟩⟩
theorem bP.kept{w0 w:World}(hc:bU w0 w){v:Value}{n:Nat}{R R':Nat->Value->Prop}(h:bP w0 v n R)(hR:∀i u,R i u->R' i u):bP w v n R':=by
 obtain⟨a,c,hv,hle,h⟩:=h;refine⟨a,c,hv,hle,λh0=>?_⟩
 obtain⟨b,off,ha,h⟩:=h h0;exact⟨b,off,ha,λi hi=>let⟨u,h1,h2⟩:=h i hi;⟨u,hc _ _ h1,hR i u h2⟩⟩
theorem gx.kept{w0 w:World}(hc:bU w0 w){v:Value}{n:Nat}{R R':Nat->Value->Prop}(h:gx w0 v n R)(hR:∀i u,R i u->R' i u):gx w v n R':=by
 obtain⟨a,c,hv,hle,h⟩:=h;refine⟨a,c,hv,hle,λh0=>?_⟩
 obtain⟨b,off,ha,h⟩:=h h0;exact⟨b,off,ha,λi hi=>let⟨u,h1,h2⟩:=h i hi;⟨u,hc _ _ h1,hR i u h2⟩⟩
theorem bu.mono{w0 w:World}(hc:∀p u,w0.cell? p=some u->w.cell? p=some u){v:Value}{d:FC}(h:bu w0 v d):bu w v d:=by
 cases d with
 |int k n=>exact h
 |bool b=>exact h
 |str l=>exact h
 |ints k l=>exact ip.mono hc h
 |bools l=>exact bP.kept hc h λ_ _ h=>h
 |rows k l=>exact bP.kept hc h λ_ _ h=>h.mono hc
 |r3 k l=>exact bP.kept hc h λ_ _ h=>bP.kept hc h λ_ _ h=>h.mono hc
 |r4 k l=>exact bP.kept hc h λ_ _ h=>bP.kept hc h λ_ _ h=>bP.kept hc h λ_ _ h=>h.mono hc
 |p3 k l=>exact gx.kept hc h λ_ _ h=>bP.kept hc h λ_ _ h=>h.mono hc
theorem f8.mono{w0 w:World}(hc:bU w0 w){v:Value}{d:FC}(h:f8 w0 v d):f8 w v d:=⟨h.1,h.2.mono hc⟩
theorem bU.trans{a b c:World}(h:bU a b)(k:bU b c):bU a c:=λp u hp=>k p u (h p u hp)
theorem nr.mono{P:Program}{w0 w:World}(hc:bU w0 w){F:FV}{v:Value}(h:nr P w0 F v):nr P w F v:=by
 obtain⟨f,caps,fn,h1,h2,h3,h4,h5⟩:=h;exact⟨f,caps,fn,h1,h2,h3,h4,λw' us ds q c hk=>h5 w' us ds q c (bU.trans hc hk)⟩
theorem rz.mono{P:Program}{w0 w:World}(hc:bU w0 w){b:Nat}{F:SFV}{v:Value}(h:rz P w0 b F v):rz P w b F v:=by
 obtain⟨f,caps,fn,h1,h2,h3,h4,h5⟩:=h;exact⟨f,caps,fn,h1,h2,h3,h4,λw' s x y hk=>h5 w' s x y (bU.trans hc hk)⟩
theorem Below.cells{w0 w:World}(h:Below w0.heap.size w0 w):∀p u,w0.cell? p=some u->w.cell? p=some u :=
 λ_ _ hp=>(h.cell (World.block_lt_of_cell? w0 _ hp)).trans hp
def d5(s s':OSt)(m m':Img):Prop :=
 match s,s' with
 |.absent,_=>True
 |.dead,.dead=>True
 |.live _,.dead=>True
 |.frz _,.dead=>True
 |.frz d,.frz d'=>d=d'
 |.live x,.live y=>y.len=x.len/\m'.hd=m.hd/\x.ver<=y.ver/\(y.ver=x.ver->m'=m/\y.rl=x.rl)
 |_,_=>False
def ec(wF:World)(s s':OSt)(m m':Img):Prop:=d5 s s' m m'\/∃x d,s=.live x/\s'=.frz d/\x.len=d.slen/\f8 wF m.hd d/\∃d',cD 0 d.len d=some d'
def co(E E':Env):Prop:=bU E.wF E'.wF/\∀o,ec E'.wF (E.st o) (E'.st o) (E.mu o) (E'.mu o)
theorem d5.refl(s:OSt)(m:Img):d5 s s m m:=by cases s<;>simp[d5]
theorem ec.refl(wF:World)(s:OSt)(m:Img):ec wF s s m m:=.inl (.refl s m)
theorem co.refl(E:Env):co E E:=⟨λ_ _ h=>h,λ_=>.refl _ _ _⟩
theorem ec.trans{wF wG:World}(hk:bU wF wG){a b c:OSt}{m m' m'':Img}(h:ec wF a b m m')(k:ec wG b c m' m''):ec wG a c m m'':=by
 rcases h with h|⟨x,d,rfl,rfl,h1,h2,h3⟩
 ·rcases k with k|⟨x,d,rfl,rfl,k1,k2,k3⟩
  ·left
   cases a<;>cases b<;>simp only[d5]at h<;>cases c<;>simp only[d5]at k⊢
   ·obtain⟨a1,a2,a3,a4⟩:=h
    obtain⟨b1,b2,b3,b4⟩:=k;refine⟨b1.trans a1,b2.trans a2,Ao a3 b3,λhv=>?_⟩
    obtain⟨c1,c2⟩:=a4 (by omega)
    obtain⟨d1,d2⟩:=b4 (by omega)
    exact⟨d1.trans c1,d2.trans c2⟩
   ·exact h.trans k
  ·cases a<;>simp only[d5]at h
   ·left;trivial
   ·obtain⟨a1,a2,a3,a4⟩:=h
    exact .inr ⟨_,d,rfl,rfl,a1.symm.trans k1,by rw[<-a2];exact k2,k3⟩
 ·rcases k with k|⟨y,d',k0,_⟩
  ·cases c<;>simp only[d5]at k
   ·left;trivial
   ·subst k;exact .inr ⟨x,d,rfl,rfl,h1,h2.mono hk,h3⟩
  ·cases k0
theorem co.trans{E E' E'':Env}(h:co E E')(k:co E' E''):co E E'':=⟨bU.trans h.1 k.1,λo=>(h.2 o).trans k.1 (k.2 o)⟩
theorem b7.le{E E':Env}{o:Nat}{v:Value}(h:ec E'.wF (E.st o) (E'.st o) (E.mu o) (E'.mu o)){p q:Shp->Prop}{p' q':FC->Prop}(hs:b7 E o v p p')
  (hpq:∀x y,y.len=x.len->(E'.mu o).hd=(E.mu o).hd->x.ver<=y.ver->(y.ver=x.ver->E'.mu o=E.mu o/\y.rl=x.rl)->p x->q y)(hff:∀d,p' d->q' d:=by intros;trivial)
  (hlf:∀x d,x.len=d.slen->f8 E'.wF (E.mu o).hd d->(∃d',cD 0 d.len d=some d')->p x->q' d:=by intros;trivial):b7 E' o v q q':=by
 refine⟨hs.1,?_⟩
 have h2:=hs.2
 rcases h with h|⟨x,d,h3,h4,h5,h6,h7⟩
 ·cases hE:E.st o<;>cases hE':E'.st o<;>rw[hE]at h h2<;>rw[hE']at h<;>simp only[d5,OSt.on]at *
  ·exact hpq _ _ h.1 h.2.1 h.2.2.1 h.2.2.2 h2
  ·subst h;exact hff _ h2
 ·rw[h3]at h2
  rw[h4];exact hlf x d h5 h6 h7 h2
def rA{w:World}{hd v:Value}{n off m:Nat}{R:Nat->Value->Prop}(h:bP w hd n R)(hv:cF hd off m v)(hle:off+m<=n):bP w v m λi u=>R (off+i) u:=by
 obtain⟨a,c,h1,h2,h3⟩:=h;rcases hv with⟨_,rfl,_,rfl⟩|⟨g,len,cap,ao,rfl,rfl,hc1,hc2,hao⟩
 ·exact⟨_,_,rfl,AE _,λh0=>by omega⟩
 ·cases h1
  refine⟨_,_,rfl,hc2,λh0=>?_⟩
  obtain⟨b,o2,h4,h5⟩:=h3 (by omega)
  cases h4;rw[hao (.inr (by omega))]
  exact⟨g,off,rfl,λi hi=>by have:=h5 (off+i) (by omega);rwa[AI]at this⟩
def iS{α:Type}(l:List α)(off m i:Nat)(z:α)(h:i<m):((l.drop off).take m).getD i z=l.getD (off+i) z:=by
 simp[List.getD,h]
theorem bP.below{w:World}{v:Value}{n:Nat}{R R':Nat->Value->Prop}(h:bP w v n R)(hR:∀i u,i<n->R i u->R' i u):bP w v n R':=by
 obtain⟨a,c,hv,hle,hk⟩:=h;refine⟨a,c,hv,hle,λh0=>?_⟩
 obtain⟨b,off,ha,hk⟩:=hk h0;exact⟨b,off,ha,λi hi=>let⟨u,h1,h2⟩:=hk i hi;⟨u,h1,hR i u hi h2⟩⟩
def wW{l:EA}{n j:Nat}(h:j<n*2):fh (l.take n) j=fh l j:=by
 have:j / 2<n:=by omega
 simp[fh,List.getD,Aw,this]
def ah9{w:World}{hd v:Value}{n m:Nat}{R:Nat->Value->Prop}(h:gx w hd n R)(hv:cF hd 0 m v)(hle:m<=n):gx w v m R:=by
 obtain⟨a,c,h1,h2,h3⟩:=h;rcases hv with⟨_,rfl,_,rfl⟩|⟨g,len,cap,ao,rfl,rfl,hc1,hc2,hao⟩
 ·exact⟨_,_,rfl,AE _,λh0=>by omega⟩
 ·cases h1
  refine⟨_,_,rfl,hc2,λh0=>?_⟩
  obtain⟨b,o2,h4,h5⟩:=h3 (by omega)
  cases h4;rw[hao (.inl rfl)];exact⟨g,0,rfl,λi hi=>h5 i (by omega)⟩
theorem gx.below{w:World}{v:Value}{n:Nat}{R R':Nat->Value->Prop}(h:gx w v n R)(hR:∀i u,i<n*2->R i u->R' i u):gx w v n R':=by
 obtain⟨a,c,hv,hle,hk⟩:=h;refine⟨a,c,hv,hle,λh0=>?_⟩
 obtain⟨b,off,ha,hk⟩:=hk h0;exact⟨b,off,ha,λi hi=>let⟨u,h1,h2⟩:=hk i hi;⟨u,h1,hR i u hi h2⟩⟩
def Rm{w:World}{hd v:Value}{d:FC}{off m:Nat}(h:f8 w hd d)(hv:cF hd off m v)(hle:off+m<=d.slen)(hd':∃d',cD 0 d.len d=some d'):∃d',cD off m d=some d'/\f8 w v d':=by
 have hs:∃a n c,v=.slice a n c/\n<=c:=by
  rcases hv with⟨_,rfl,_,_⟩|⟨g,len,cap,ao,_,rfl,_,hc2,_⟩
  ·exact⟨_,_,_,rfl,AE _⟩
  ·exact⟨_,_,_,rfl,hc2⟩
 have ln:∀{α:Type} (l:List α),off+m<=l.length->((l.drop off).take m).length=m:=λl h=>by simp;omega
 obtain⟨_,h⟩:=h;obtain⟨d',hd'⟩:=hd';cases d with
 |int k n=>cases hd'
 |bool b=>cases hd'
 |str l=>cases hd'
 |ints k l =>
  refine⟨_,rfl,hs,?_⟩
  show bP _ _ _ _
  rw[ln l hle];exact(rA h hv hle).below λi u hi hu=>by
   have e:=iS l off m i 0 hi
   rw[e];exact hu
 |bools l =>
  refine⟨_,rfl,hs,?_⟩
  show bP _ _ _ _
  rw[ln l hle];exact(rA h hv hle).below λi u hi hu=>by
   have e:=iS l off m i false hi
   rw[e];exact hu
 |rows k l =>
  refine⟨_,rfl,hs,?_⟩
  show bP _ _ _ _
  rw[ln l hle];exact(rA h hv hle).below λi u hi hu=>by
   have e:=iS l off m i [] hi
   rw[e];exact hu
 |r3 k l =>
  refine⟨_,rfl,hs,?_⟩
  show bP _ _ _ _
  rw[ln l hle];exact(rA h hv hle).below λi u hi hu=>by
   have e:=iS l off m i [] hi
   rw[e];exact hu
 |r4 k l =>
  refine⟨_,rfl,hs,?_⟩
  show bP _ _ _ _
  rw[ln l hle];exact(rA h hv hle).below λi u hi hu=>by
   have e:=iS l off m i [] hi
   rw[e];exact hu
 |p3 k l =>
  cases off with
  |succ off=>have:off+1+m<=0:=hle;omega
  |zero =>
   refine⟨_,rfl,hs,?_⟩
   show gx _ _ _ _
   have hle':0+m<=0:=hle
   rw[show(l.take m).length=m by rw[AP];omega]
   exact(ah9 h hv (by omega)).below λi u hi hu=>by
    rw[wW hi];exact hu
theorem ak.mono{E E':Env}(h:co E E'){c:SC}{v:Value}(hr:ak E c v):ak E' c v:=by
 obtain⟨hw,ho⟩:=h;cases c with
 |any=>trivial
 |und=>exact hr
 |int k n=>exact hr
 |bool b=>exact hr
 |str l=>exact hr
 |nil=>exact hr
 |own o=>exact b7.le (ho o) hr (λx y _ h2 _ _ hp=>by rw[h2];exact hp) (λd h=>h.mono hw) (λx d _ h2 _ hp=>by rw[show v=_ from hp];exact h2)
 |pre o n=>exact b7.le (ho o) hr (λx y h1 h2 _ _ hp=>by rw[h2,h1];exact hp) (λd ⟨d',h1,h2⟩=>⟨d',h1,h2.mono hw⟩) (λx d h1 h2 h3 hp=>Rm h2 hp.2 (by have:=hp.1;omega) h3)
 |sub o off n=>exact b7.le (ho o) hr (λx y h1 h2 _ _ hp=>by rw[h2,h1];exact hp) (λd ⟨d',h1,h2⟩=>⟨d',h1,h2.mono hw⟩) (λx d h1 h2 h3 hp=>Rm h2 hp.2 (by have:=hp.1;omega) h3)
 |ptr o i=>exact b7.le (ho o) hr λx y h1 h2 _ _ hp=>by rw[h2,h1];exact hp
 |row o ver i=>exact b7.le (ho o) hr λx y h1 h2 h3 h4 hp=>⟨by omega,λe=>by
   have hv:y.ver=x.ver:=by omega
   obtain⟨h5,h6⟩:=h4 hv;rw[h5,h1];exact hp.2 (by omega)⟩
 |rptr o ver i j=>exact b7.le (ho o) hr λx y h1 h2 h3 h4 hp=>⟨by omega,λe=>by
   have hv:y.ver=x.ver:=by omega
   obtain⟨h5,h6⟩:=h4 hv;rw[h5,h6,h1];exact hp.2 (by omega)⟩
 |ro d=>exact⟨hr.1,hr.2.mono hw⟩
 |rop d i=>obtain⟨b,off,fc,u,h1,h2,h3,h4⟩:=hr;exact⟨b,off,fc,u,h1,h2,hw _ _ h3,h4.mono hw⟩
 |rbb cs=>obtain⟨b,off,b2,off2,h1,h0,h2⟩:=hr;exact⟨b,off,b2,off2,h1,hw _ _ h0,λj fc hj=>let⟨u,h3,h4⟩:=h2 j fc hj;⟨u,hw _ _ h3,h4.mono hw⟩⟩
 |rob cs i=>obtain⟨b,off,h1,h2⟩:=hr;exact⟨b,off,h1,λj fc hj=>let⟨u,h3,h4⟩:=h2 j fc hj;⟨u,hw _ _ h3,h4.mono hw⟩⟩
 |nilq b=>exact hr
 |emp=>exact hr
 |qptr o i=>exact b7.le (ho o) hr λx y h1 h2 _ _ hp=>by rw[h2,h1];exact hp
 |bsl o n=>exact b7.le (ho o) hr λx y h1 h2 _ _ hp=>by rw[h2,h1];exact hp
 |kid o ver p=>exact b7.le (ho o) hr λx y h1 h2 h3 h4 hp=>⟨by omega,λe=>by
   have hv:y.ver=x.ver:=by omega
   rw[(h4 hv).1];exact hp.2 (by omega)⟩
 |kptr o ver p j=>exact b7.le (ho o) hr λx y h1 h2 h3 h4 hp=>⟨by omega,λe=>by
   have hv:y.ver=x.ver:=by omega
   rw[(h4 hv).1];exact hp.2 (by omega)⟩
 |orig o j d =>
  refine⟨⟨hr.1.1,hr.1.2.mono hw⟩,b7.le (ho o) hr.2 λx y h1 h2 h3 h4 hp e=>?_⟩
  have hv:y.ver=x.ver:=by omega
  rw[(h4 hv).1];exact hp (by omega)
theorem dp.mono{E E':Env}(h:co E E'){cs:List SC}{arr:Array Value}(hr:dp E cs arr):dp E' cs arr :=
 ⟨hr.1,λi c hi=>let⟨u,h1,h2,h3⟩:=hr.2 i c hi;⟨u,h1,h2,h3.mono h⟩⟩
theorem wV.mono{E E':Env}(h:co E E'){c:SC ⊕ List SC}{v:Value}(hr:wV E c v):wV E' c v:=by
 cases c with
 |inl c=>exact⟨hr.1,hr.2.mono h⟩
 |inr cs=>exact let⟨arr,h1,h2⟩:=hr;⟨arr,h1,h2.mono h⟩
theorem aA.mono{P:Program}{E E':Env}(h:co E E'){c:SV}{v:Value}(hr:aA P E c v):aA P E' c v:=by
 cases c with
 |c x=>exact ak.mono h hr
 |agg l=>exact let⟨arr,h1,h2⟩:=hr;⟨arr,h1,h2.mono h⟩
 |fn f l=>exact let⟨arr,h1,h2⟩:=hr;⟨arr,h1,h2.mono h⟩
 |fv F=>exact nr.mono h.1 hr
 |fvs o F=>exact b7.le (h.2 o) hr λx y _ h2 _ _ ⟨b,hp1,hp2⟩=>⟨b,by rw[h2];exact hp1,hp2.mono h.1⟩
 |tup l=>exact let⟨arr,h1,h2,h3⟩:=hr;⟨arr,h1,h2,λi c hi=>let⟨u,h4,h5⟩:=h3 i c hi;⟨u,h4,h5.mono h⟩⟩
def ed{w w':World}{B e size n:Nat}{v:Value}{xs:List Value}(h:w.ownsRow B e size v n xs)
  (hk:∀b,ag v=some b->w'.heap[b]?=w.heap[b]?):w'.ownsRow B e size v n xs:=by
 refine⟨h.1,?_⟩
 rcases h.2 with h2|⟨g,cap,cur,hv,hb,hg,r⟩
 ·exact .inl h2
 ·exact .inr ⟨g,cap,cur,hv,hb,by rw[hk g (by rw[hv];rfl)];exact hg,r⟩
def ir{w:World}{B e size n:Nat}{v:Value}{xs:List Value}(h:w.ownsRow B e size v n xs) :
  ∀b,ag v=some b->B<=b/\b<w.heap.size:=by
 intro b hb
 rcases h.2 with⟨h2,_⟩|⟨g,cap,cur,hv,hB,hg,r⟩
 ·subst h2;simp[ag]at hb
 ·subst hv;simp[ag]at hb;subst hb
  exact⟨hB,(BB.1 hg).1⟩
def cL{m:Img}{b:Nat}(h:ag m.hd=some b):b∈m.blocks:=by simp[Img.blocks,h]
def pv{m:Img}{b i:Nat}{v:Value}(hi:m.ins[i]?=some v)(h:ag v=some b):b∈m.blocks:=by
 simp only[Img.blocks,AH,Au];exact .inr ⟨v,AK hi,h⟩
def ai0{w w':World}{v:Value}{xs:List Value}(h:nt w v xs)(hk:∀b,ag v=some b->w'.heap[b]?=w.heap[b]?):nt w' v xs:=by
 rcases h with h|⟨g,off,cap,rfl,h2,h3,h4,h5,h6⟩
 ·exact .inl h
 ·have hg:=hk g rfl
  have hc:∀i,w'.cell? ⟨g,i,none⟩=w.cell? ⟨g,i,none⟩:=λi=>by simp only[World.cell?,hg]
  have hf:∀i,w'.frozen? ⟨g,i,none⟩=w.frozen? ⟨g,i,none⟩:=λi=>by simp only[World.frozen?,hg]
  refine .inr ⟨g,off,cap,rfl,h2,h3,?_,λj hj=>by rw[hc,hf];exact h5 j hj,λi u hu=>by rw[hc];exact h6 i u hu⟩
  rw[CF h4]at hg;exact(BB.1 hg).1
theorem j8.keep{w w':World}{m:Img}{e ei:TypeId}{k:IntKind}{l:D7}{hs:List Nat}(h:j8 w m e ei k l hs)(hk:∀b∈m.blocks,w'.heap[b]?=w.heap[b]?):j8 w' m e ei k l hs:=by
 obtain⟨h1,⟨vs,h2,h3⟩,h4⟩:=h;refine⟨h1,⟨vs,ed h2 λb hb=>hk b (cL hb),h3⟩,λi v r hi hr=>⟨(h4 i v r hi hr).1,λhn=>?_⟩⟩
 exact ed ((h4 i v r hi hr).2 hn) λb hb=>hk b (pv hi hb)
def dW{n:Nat}{nd:Value}{b:Nat}:b∈aZ (n+1) nd↔ag (aM nd)=some b\/∃u∈ba nd,b∈aZ n u:=by
 simp only[aZ,iq,Au,AG,Am]
 constructor
 ·rintro⟨v,rfl|⟨u,hu,hv⟩,hb⟩
  ·exact .inl hb
  ·exact .inr ⟨u,hu,v,hv,hb⟩
 ·rintro(hb|⟨u,hu,v,hv,hb⟩)
  ·exact⟨_,.inl rfl,hb⟩
  ·exact⟨v,.inr ⟨u,hu,hv⟩,hb⟩
def dX(n:Nat)(nd:Value):aZ (n+1) nd=(ag (aM nd)).toList++(ba nd).flatMap (aZ n):=by
 have:((ba nd).flatMap (iq n)).filterMap ag=(ba nd).flatMap (aZ n):=by
  induction ba nd with
  |nil=>rfl
  |cons u l ih=>rw[Av,Di,ih,Av];rfl
 rw[aZ,iq,A8,<-this];cases ag (aM nd)<;>rfl
def lW{d:FC}{n:Nat}(h:d.dep=n+1)(i:Nat):∃x,c9 d i=some x/\x.dep=n:=by
 cases d<;>simp only[FC.dep]at h<;>first|omega|exact⟨_,rfl,by simp only[FC.dep];omega⟩
def eW(hd:Value)(ks:List Value):aM (bB hd ks)=hd:=rfl
def da(hd:Value)(ks:List Value):ba (bB hd ks)=ks:=rfl
def kY{nd:Value}(h:nd=bB (aM nd) []):ba nd=[]:=by rw[h];rfl
theorem bq.keep{w w':World}:∀{es:List TypeId} {nd:Value} {d:FC},bq w es nd d->(∀b∈aZ es.length nd,w'.heap[b]?=w.heap[b]?)->bq w' es nd d
 | [],_,_,h,_=>False.elim h
 | [_],_,_,⟨h1,k,l,h2,h3⟩,hk=>⟨h1,k,l,h2,ed h3 λb hb=>hk b (dW.2 (.inl hb))⟩
 |_::e2::es,_,_,⟨h1,h2,h3,h4⟩,hk=>⟨h1,h2,ed h3 λb hb=>hk b (dW.2 (.inl hb)),λi u x hu hx =>
   bq.keep (es:=e2::es) (h4 i u x hu hx) λb hb=>hk b (dW.2 (.inr ⟨u,AK hu,hb⟩))⟩
theorem bq.block{w:World}:∀{es:List TypeId} {nd:Value} {d:FC},bq w es nd d->∀b∈aZ es.length nd,b<w.heap.size
 | [],_,_,h,_,_=>False.elim h
 | [_],nd,_,⟨h1,k,l,h2,h3⟩,b,hb=>by
  rcases dW.1 hb with hb|⟨u,hu,_⟩
  ·exact(ir h3 b hb).2
  ·rw[kY h1]at hu;simp at hu
 |_::e2::es,nd,_,⟨h1,h2,h3,h4⟩,b,hb=>by
  rcases dW.1 hb with hb|⟨u,hu,hb⟩
  ·exact(ir h3 b hb).2
  ·obtain⟨i,hi⟩:=Ah hu
   obtain⟨x,hx,_⟩:=lW h2 i;exact bq.block (es:=e2::es) (h4 i u x hi hx) b hb
theorem bq.nd{w:World}:∀{es:List TypeId} {nd:Value} {d:FC},bq w es nd d->nd=bB (aM nd) (ba nd)/\es≠[]
 | [],_,_,h=>False.elim h
 | [_],nd,_,⟨h1,_⟩=>⟨by rw[kY h1];exact h1,by simp⟩
 |_::_::_,_,_,⟨h1,_⟩=>⟨h1,by simp⟩
def Rn{n:Nat}{nd:Value}(h:nd=bB (aM nd) (ba nd))(hn:n≠0):(dN n nd).blocks=aZ n nd:=by
 obtain⟨n,rfl⟩:∃m,n=m+1:=⟨n-1,by omega⟩
 have hb:ag nd=none:=by rw[h];rfl
 simp only[Img.blocks,dN,aZ,iq,List.tail_cons,A8,hb];cases ag (aM nd)<;>rfl
def eK{w:World}{es:List TypeId}{nd:Value}{d:FC}(h:bq w es nd d):(dN es.length nd).blocks=aZ es.length nd :=
 Rn h.nd.1 (by intro hc;exact h.nd.2 (BA hc))
theorem jq.keep{w w':World}{n:Nat}:∀{es:List TypeId} {nd:Value} {d:FC},jq w n es nd d->(∀b∈aZ es.length nd,w'.heap[b]?=w.heap[b]?)->jq w' n es nd d
 | [],_,_,h,_=>False.elim h
 | [_],_,_,h,_=>False.elim h
 |_::e2::es,_,_,⟨h1,h2,h3,⟨vs,h4,h5⟩,h6⟩,hk=>⟨h1,h2,h3,⟨vs,ed h4 λb hb=>hk b (dW.2 (.inl hb)),h5⟩,λi u x hu hx =>
   (h6 i u x hu hx).keep λb hb=>hk b (dW.2 (.inr ⟨u,AK hu,hb⟩))⟩
theorem jq.block{w:World}{n:Nat}:∀{es:List TypeId} {nd:Value} {d:FC},jq w n es nd d->∀b∈aZ es.length nd,b<w.heap.size
 | [],_,_,h,_,_=>False.elim h
 | [_],_,_,h,_,_=>False.elim h
 |_::e2::es,nd,_,⟨h1,h2,h3,⟨vs,h4,h5⟩,h6⟩,b,hb=>by
  rcases dW.1 hb with hb|⟨u,hu,hb⟩
  ·exact(ir h4 b hb).2
  ·obtain⟨i,hi⟩:=Ah hu
   obtain⟨x,hx,_⟩:=lW h2 (n+i);exact(h6 i u x hi hx).block b hb
def wX{w:World}{n:Nat}{es:List TypeId}{nd:Value}{d:FC}(h:jq w n es nd d):(dN es.length nd).blocks=aZ es.length nd :=
 match es,h with
 |_::_::_,⟨h1,_⟩=>Rn h1 (by simp)
theorem bq.k{w:World}{e e2:TypeId}{es:List TypeId}{nd:Value}{d:FC}(h:bq w (e::e2::es) nd d):jq w 0 (e::e2::es) nd d:=by
 obtain⟨h1,h2,h3,h4⟩:=h;refine⟨h1,h2,?_,⟨_,h3,λi u hu=>?_⟩,λi u x hu hx=>h4 i u x hu (by rw[AI]at hx;exact hx)⟩
 ·have:=h3.1
  rw[AW]at this;exact this
 ·rw[AI,Ak,hu];rfl
theorem aX.keep{E E':Env}(hE:co E E'){w w':World}{m:Img}{ob:Ob}(h:aX E w m ob)
  (hk:∀b∈m.blocks,w'.heap[b]?=w.heap[b]?):aX E' w' m ob:=by
 cases ob with
 |box cs =>
  obtain⟨b,arr,t,h1,h2,h4,h5⟩:=h;exact⟨b,arr,t,h1,h2,by rw[hk b (cL (by rw[h1];rfl))];exact h4,h5.mono hE⟩
 |bx cs =>
  obtain⟨b,arr,t,h1,h2,h4,h5⟩:=h;exact⟨b,arr,t,h1,h2,by rw[hk b (cL (by rw[h1];rfl))];exact h4,h5⟩
 |ints e k l=>exact⟨h.1,ed h.2 λb hb=>hk b (cL hb)⟩
 |bools e l=>exact⟨h.1,ed h.2 λb hb=>hk b (cL hb)⟩
 |strs e l=>exact⟨h.1,ed h.2 λb hb=>hk b (cL hb)⟩
 |rows ver e ei k l =>
  obtain⟨h1,h2,h3⟩:=h;refine⟨ed h1 λb hb=>hk b (cL hb),h2,λi v r hi hr=>?_⟩
  exact ed (h3 i v r hi hr) λb hb=>hk b (pv hi hb)
 |lst ver e d =>
  obtain⟨h1,vs,h2,h3⟩:=h;exact⟨h1,vs,ed h2 λb hb=>hk b (cL hb),λi u hi=>let⟨h4,fc,h5,h6⟩:=h3 i u hi;⟨h4,fc,h5,h6.mono hE.1⟩⟩
 |frz d=>exact h
 |mp l =>
  obtain⟨h1,b,es,ck,h2,h3,h4⟩:=h;exact⟨h1,b,es,ck,h2,by rw[hk b (cL (by rw[h2];rfl))];exact h3,h4⟩
 |qu e k l=>exact⟨h.1,ai0 h.2 λb hb=>hk b (cL hb)⟩
 |rowsH ver e ei k l hs=>exact j8.keep h hk
 |tr ver es d =>
  obtain⟨nd,rfl,h2⟩:=h;exact⟨nd,rfl,h2.keep λb hb=>hk b (by rw[eK h2];exact hb)⟩
 |trk ver es d n =>
  obtain⟨nd,rfl,h2⟩:=h;exact⟨nd,rfl,h2.keep λb hb=>hk b (by rw[wX h2];exact hb)⟩
 |yd yv Y pre b =>
  obtain⟨h1,h2,h3,h4⟩:=h;refine⟨h1,h2.trans hE.1,Y.loc pre b w w' _ h3 hk,λk hkm=>?_⟩
  have h5:=h4 k hkm
  have h6:=hk k hkm
  rw[CF h5]at h6;exact(BB.1 h6).1
theorem aX.block{E:Env}{w:World}{m:Img}{ob:Ob}(h:aX E w m ob):∀b∈m.blocks,b<w.heap.size:=by
 intro b hb
 have hb0:=hb
 simp only[Img.blocks,AH,Au,BV]at hb;cases ob with
 |box cs =>
  obtain⟨g,arr,t,h1,h2,h4,h5⟩:=h;rcases hb with hb|⟨v,hv,hvb⟩
  ·rw[h1]at hb;simp[ag]at hb;subst hb;exact(BB.1 h4).1
  ·rw[h2 v hv]at hvb;cases hvb
 |bx cs =>
  obtain⟨g,arr,t,h1,h2,h4,h5⟩:=h;rcases hb with hb|⟨v,hv,hvb⟩
  ·rw[h1]at hb;simp[ag]at hb;subst hb;exact(BB.1 h4).1
  ·rw[h2 v hv]at hvb;cases hvb
 |ints e k l =>
  rcases hb with hb|⟨v,hv,_⟩
  ·exact(ir h.2 b hb).2
  ·simp[h.1]at hv
 |bools e l =>
  rcases hb with hb|⟨v,hv,_⟩
  ·exact(ir h.2 b hb).2
  ·simp[h.1]at hv
 |strs e l =>
  rcases hb with hb|⟨v,hv,_⟩
  ·exact(ir h.2 b hb).2
  ·simp[h.1]at hv
 |rows ver e ei k l =>
  obtain⟨h1,h2,h3⟩:=h;rcases hb with hb|⟨v,hv,hb⟩
  ·exact(ir h1 b hb).2
  ·obtain⟨i,hi⟩:=Ah hv
   have ψ:i<l.length:=by rw[<-h2];exact(AL.1 hi).1
   exact(ir (h3 i v _ hi (AF ψ)) b hb).2
 |lst ver e d =>
  obtain⟨h1,vs,h2,_⟩:=h;rcases hb with hb|⟨v,hv,_⟩
  ·exact(ir h2 b hb).2
  ·simp[h1]at hv
 |mp l =>
  obtain⟨h1,g,es,ck,h2,h3,h4⟩:=h;rcases hb with hb|⟨v,hv,_⟩
  ·rw[h2]at hb;simp[ag]at hb;subst hb;exact(BB.1 h3).1
  ·simp[h1]at hv
 |rowsH ver e ei k l hs =>
  obtain⟨h1,⟨vs,h2,_⟩,h4⟩:=h;rcases hb with hb|⟨v,hv,hb⟩
  ·exact(ir h2 b hb).2
  ·obtain⟨i,hi⟩:=Ah hv
   have ψ:i<l.length:=by rw[<-h1];exact(AL.1 hi).1
   obtain⟨h5,h6⟩:=h4 i v _ hi (AF ψ);by_cases hm:i∈hs
   ·rw[h5 hm]at hb;cases hb
   ·exact(ir (h6 hm) b hb).2
 |qu e k l =>
  obtain⟨h1,h2⟩:=h;rcases hb with hb|⟨v,hv,_⟩
  ·rcases h2 with⟨h2,_⟩|⟨g,off,cap,h2,_,_,h3,_⟩
   ·rw[h2]at hb;simp[ag]at hb
   ·rw[h2]at hb;simp[ag]at hb;subst hb;exact h3
  ·simp[h1]at hv
 |tr ver es d =>
  obtain⟨nd,rfl,h2⟩:=h;rw[eK h2]at hb0;exact h2.block b hb0
 |trk ver es d n =>
  obtain⟨nd,rfl,h2⟩:=h;rw[wX h2]at hb0;exact h2.block b hb0
 |yd yv Y pre g=>exact h.2.2.2 b hb0
 |frz d =>
  have h:m.blocks=[]:=h
  have:b∈m.blocks:=by simp only[Img.blocks,AH,Au,BV];exact hb
  rw[h]at this;cases this
def cell_lt'{w:World}{p:Addr}{u:Value}(h:w.cell? p=some u):p.block<w.heap.size:=World.block_lt_of_cell? w _ h
section
variable {C:Cx} {σ σ':State} {mu mu':Nat->Img} {a a':Act} {w w':World}
theorem St.updG(h:St C σ mu a w)(S:Nat->Prop){wG:World}(hos:OsD w w')(htape:w'.tape=w.tape)(hout:w'.output=w.output)(hsize:w.heap.size<=w'.heap.size)
  (hS0:∀b,S b->∃o ob,σ.H o=some (some ob)/\b∈(mu o).blocks)(hkeep:∀b,b<w.heap.size->¬ S b->w'.heap[b]?=w.heap[b]?)
  (hG:bU C.wF wG)(hG2:∀p u,wG.cell? p=some u->C.wF.cell? p=some u\/(w'.cell? p=some u/\∀o ob,σ'.H o=some (some ob)->p.block ∉ (mu' o).blocks))
  (hle:∀o,ec wG (σ.ost o) (σ'.ost o) (mu o) (mu' o))
  (hob:∀o ob,σ'.H o=some (some ob)->(σ.H o=some (some ob)/\mu' o=mu o/\∀b∈(mu o).blocks,¬ S b) \/
   (aX (σ'.env wG mu') w' (mu' o) ob/\(mu' o).blocks.Nodup/\(∀b∈(mu' o).blocks,S b\/w.heap.size<=b) /\
    ∀o' ob',o≠o'->σ'.H o'=some (some ob')->(σ.H o'=some (some ob')/\mu' o'=mu o'/\∀b∈(mu o').blocks,¬ S b)\/∀b∈(mu' o).blocks,b ∉ (mu' o').blocks))
  (hsz:a'.tmps.size=C.N)(hdf:a'.defers=a.defers)
  (hfr:∀t sv,σ'.F t=some sv->(σ.F t=some sv/\a'.tmps.getD t undef=a.tmps.getD t undef)\/aA C.P (σ'.env wG mu') sv (a'.tmps.getD t undef)) :
  St (C.fz wG) σ' mu' a' w':=by
 have hE:co (σ.env C.wF mu) (σ'.env wG mu'):=⟨hG,hle⟩
 have hbl:∀o ob,σ.H o=some (some ob)->∀b∈(mu o).blocks,b<w.heap.size:=λo ob ho=>(h.ob o ob ho).block
 have hS1:∀b,S b->C.M b\/C.w0.heap.size<=b:=λb hb=>by
  obtain⟨o,ob,h1,h2⟩:=hS0 b hb;exact(h.nd o ob h1).2 b h2
 have hkb:∀k,k<C.w0.heap.size->¬ C.M k->w'.heap[k]?=w.heap[k]?:=λk hk hm =>
  hkeep k (Nat.lt_of_lt_of_le hk h.size) (λhs=>by rcases hS1 k hs with h1|h1<;>first|exact hm h1|omega)
 have hMk:kX C.w0.heap.size σ' mu' a'.defers w':=by
  obtain⟨rs,k1,k2,k3⟩:=h.df;rw[hdf];refine⟨rs,k1,k2,λr hr=>?_⟩
  obtain⟨q1,q2,q3⟩:=k3 r hr;have ψ:=(BB.1 q2).1
  have hS:¬ S r:=λhs=>by
   obtain⟨o,ob,z1,z2⟩:=hS0 r hs;exact q3 o ob z1 z2
  refine⟨q1,(hkeep r ψ hS).trans q2,λo ob ho hb=>?_⟩
  rcases hob o ob ho with⟨z1,z2,_⟩|⟨_,_,z2,_⟩
  ·rw[z2]at hb;exact q3 o ob z1 hb
  ·rcases z2 r hb with z3|z3
   ·exact hS z3
   ·omega
 refine⟨hos.trans h.os,htape.trans h.tape,hout.trans h.output,Ao h.size hsize,λk hk hm=>?_,λp u hp=>?_,hsz,hMk,?_,?_,?_,?_,?_⟩
 ·show w'.heap[k]?=C.w0.heap[k]?
  rw[hkb k hk hm];exact h.block k hk hm
 ·rcases hG2 p u hp with hp|⟨h1,h2⟩
  ·obtain⟨h1,h2⟩:=h.cells p u hp
   have hn:¬ S p.block:=λhs=>by
    obtain⟨o,ob,h3,h4⟩:=hS0 _ hs;exact h1 o ob h3 h4
   have ψ:=cell_lt' h2
   refine⟨λo ob ho hb=>?_,(World.cell?_of_block (hkeep _ ψ hn)).trans h2⟩
   rcases hob o ob ho with⟨h3,h4,_⟩|⟨_,_,h3,_⟩
   ·rw[h4]at hb;exact h1 o ob h3 hb
   ·rcases h3 _ hb with h4|h4
    ·exact hn h4
    ·omega
  ·exact⟨h2,h1⟩
 ·intro t sv ht
  rcases hfr t sv ht with⟨h1,h2⟩|h1
  ·rw[h2];exact(h.fr t sv h1).mono hE
  ·exact h1
 ·intro o ob ho
  rcases hob o ob ho with⟨h1,h2,h3⟩|⟨h1,_⟩
  ·rw[h2];exact(h.ob o ob h1).keep hE λb hb=>hkeep b (hbl o ob h1 b hb) (h3 b hb)
  ·exact h1
 ·intro o ob ho
  rcases hob o ob ho with⟨h1,h2,h3⟩|⟨_,h1,h2,_⟩
  ·rw[h2];exact h.nd o ob h1
  ·exact⟨h1,λb hb=>by
    rcases h2 b hb with hs|hs
    ·exact hS1 b hs
    ·exact .inr (Ao h.size hs)⟩
 ·intro o o' ob ob' hne ho ho' b hb hb'
  rcases hob o ob ho with⟨h1,h2,h3⟩|⟨_,_,h1,h2⟩
  ·rcases hob o' ob' ho' with⟨k1,k2,k3⟩|⟨_,_,k1,k2⟩
   ·rw[h2]at hb;rw[k2]at hb'
    exact h.sep o o' ob ob' hne h1 k1 b hb hb'
   ·rw[h2]at hb
    rcases k1 b hb' with hs|hs
    ·exact h3 b hb hs
    ·have:=hbl o ob h1 b hb;omega
  ·rcases h2 o' ob' hne ho' with⟨k1,k2,k3⟩|k1
   ·rw[k2]at hb'
    rcases h1 b hb with hs|hs
    ·exact k3 b hb' hs
    ·have:=hbl o' ob' k1 b hb';omega
   ·exact k1 b hb hb'
 ·intro o m hp
  have h1:=h.pins o m hp
  rcases hle o with h2|⟨x,d,_,h3,_⟩
  ·cases hs:σ.ost o with
   |absent=>rw[hs]at h1;exact h1.elim
   |dead =>
    rw[hs]at h2;cases hs':σ'.ost o<;>rw[hs']at h2<;>first|trivial|exact h2.elim
   |frz d =>
    rw[hs]at h2;cases hs':σ'.ost o<;>rw[hs']at h2<;>first|trivial|exact h2.elim
   |live x =>
    rw[hs]at h1 h2;cases hs':σ'.ost o with
    |absent=>rw[hs']at h2;exact h2.elim
    |dead=>trivial
    |frz d=>trivial
    |live y =>
     rw[hs']at h2;obtain⟨k1,k2,k3,k4⟩:=h2;refine⟨k2.trans h1.1,λhv=>?_⟩
     rw[(k4 (by omega)).1]
     exact h1.2 (by omega)
  ·rw[h3];trivial
theorem St.upd(h:St C σ mu a w)(S:Nat->Prop)(hos:OsD w w')(htape:w'.tape=w.tape)(hout:w'.output=w.output)(hsize:w.heap.size<=w'.heap.size)
  (hS0:∀b,S b->∃o ob,σ.H o=some (some ob)/\b∈(mu o).blocks)(hkeep:∀b,b<w.heap.size->¬ S b->w'.heap[b]?=w.heap[b]?)
  (hle:∀o,d5 (σ.ost o) (σ'.ost o) (mu o) (mu' o))
  (hob:∀o ob,σ'.H o=some (some ob)->(σ.H o=some (some ob)/\mu' o=mu o/\∀b∈(mu o).blocks,¬ S b) \/
   (aX (σ'.env C.wF mu') w' (mu' o) ob/\(mu' o).blocks.Nodup/\(∀b∈(mu' o).blocks,S b\/w.heap.size<=b) /\
    ∀o' ob',o≠o'->σ'.H o'=some (some ob')->(σ.H o'=some (some ob')/\mu' o'=mu o'/\∀b∈(mu o').blocks,¬ S b)\/∀b∈(mu' o).blocks,b ∉ (mu' o').blocks))
  (hsz:a'.tmps.size=C.N)(hdf:a'.defers=a.defers)
  (hfr:∀t sv,σ'.F t=some sv->(σ.F t=some sv/\a'.tmps.getD t undef=a.tmps.getD t undef)\/aA C.P (σ'.env C.wF mu') sv (a'.tmps.getD t undef)) :
  St C σ' mu' a' w' :=
 h.updG S hos htape hout hsize hS0 hkeep (λ_ _ h=>h) (λ_ _ h=>.inl h) (λo=>.inl (hle o)) hob hsz hdf hfr
end
end Go.Sx
end
section
namespace Go.Sx
open Go.RowKit
def ga:FC->Nat->FC->Option FC
 |.rows k l,i,.ints k' x=>if k=k' then some (.rows k (l.set i x))else none
 |.r3 k l,i,.rows k' x=>if k=k' then some (.r3 k (l.set i x))else none
 |.r4 k l,i,.r3 k' x=>if k=k' then some (.r4 k (l.set i x))else none
 |.p3 k l,i,.rows k' x=>if k=k' then some (.p3 k (lU l i x))else none
 |_,_,_=>none
def jr:FC->List Nat->Option FC
 |d,[]=>some d
 |d,i::p=>match c9 d i with
  |some x=>jr x p
  |none=>none
def nu:FC->List Nat->FC->Option FC
 |_,[],x=>some x
 |d,i::p,x=>match c9 d i with
  |some y=>match nu y p x with
   |some y'=>ga d i y'
   |none=>none
  |none=>none
def iu:Value->List Nat->Value->Value
 |_,[],u'=>u'
 |nd,i::p,u'=>match(ba nd)[i]? with
  |some u=>bB (aM nd) ((ba nd).set i (iu u p u'))
  |none=>nd
def gT:List Nat->List Nat->Bool
 | [],[]=>true
 |a::l,b::m=>Nat.beq a b&&gT l m
 |_,_=>false
def js:∀{l m:List Nat},gT l m=true->l=m
 | [],[],_=>rfl
 | [],_::_,h=>by simp[gT]at h
 |_::_,[],h=>by simp[gT]at h
 |a::l,b::m,h=>by
  simp only[gT,AO]at h;rw[AY h.1,js h.2]
def jt{w:World}{e e2:TypeId}{es:List TypeId}{nd:Value}{d:FC}(h:bq w (e::e2::es) nd d):(ba nd).length=d.cn:=by
 have:=h.2.2.1.1
 rw[AW]at this;exact this
theorem bq.at{w:World}:∀{p:List Nat} {es:List TypeId} {nd u:Value} {d:FC},bq w es nd d->eV nd p=some u ->
  ∃x,jr d p=some x/\bq w (es.drop p.length) u x/\∀b∈aZ (es.drop p.length).length u,b∈aZ es.length nd
 | [],es,nd,u,d,h,hu=>by
  cases hu;exact⟨d,rfl,h,λb hb=>hb⟩
 |i::p,[],nd,u,d,h,hu=>False.elim h
 |i::p,[e],nd,u,d,h,hu=>by
  simp only[eV,kY h.1]at hu;simp at hu
 |i::p,e::e2::es,nd,u,d,⟨h1,h2,h3,h4⟩,hu=>by
  simp only[eV]at hu;split at hu
  ·rename_i v hv
   obtain⟨x0,hx0,_⟩:=lW h2 i;obtain⟨x,k1,k2,k3⟩:=bq.at (p:=p) (es:=e2::es) (h4 i v x0 hv hx0) hu;refine⟨x,by simp only[jr,hx0];exact k1,k2,λb hb=>dW.2 (.inr ⟨v,AK hv,k3 b hb⟩)⟩
  ·cases hu
def HQ{d d' x:FC}{i:Nat}(h:ga d i x=some d'):d'.dep=d.dep/\d'.len=d.len/\d'.wid=d.wid:=by
 cases d<;>cases x<;>simp only[ga,reduceCtorEq]at h
 all_goals
  split at h
  ·cases h;exact⟨rfl,by simp[FC.len,lU],rfl⟩
  ·cases h
def Ro{l:EA}{i j:Nat}{x:D7}:(j=i->i<l.length*2->fh (lU l i x) j=x)/\(j≠i->fh (lU l i x) j=fh l j):=by
 constructor
 ·rintro rfl hi
  have hl:j / 2<l.length:=by omega
  simp only[fh,lU,List.getD,A9,AX,hl];split<;>rfl
 ·intro hne
  by_cases h2:j / 2=i / 2
  ·by_cases hl:i / 2<l.length
   ·simp only[fh,lU,List.getD,h2,A9,AX,hl]
    by_cases hj:j % 2=0
    ·have hi:¬ i % 2=0:=by omega
     simp[hj,hi]
    ·have hi:i % 2=0:=by omega
     simp[hj,hi]
   ·rw[lU,List.set_eq_of_length_le (by omega)]
  ·simp[fh,lU,List.getD,A6 (AN h2)]
def wY{d d' x:FC}{i j:Nat}(h:ga d i x=some d'):(j=i->i<d.cn->c9 d' j=some x)/\(j≠i->c9 d' j=c9 d j):=by
 cases d<;>cases x<;>simp only[ga,reduceCtorEq]at h
 all_goals
  split at h
  ·rename_i hk
   subst hk;cases h;refine⟨λe hi=>?_,λe=>?_⟩
   ·subst e
    first
    |(rw[c9,Ro.1 rfl hi];done)
    | (simp only[FC.cn,FC.len,FC.wid,Nat.mul_one]at hi
       simp[c9,List.getD,hi])
   ·first
    |(rw[c9,c9,Ro.2 e];done)
    |simp[c9,List.getD,A6 (AN e)]
  ·cases h
def Rp{α:Type}{f:α->List Nat}{A:List Nat}{l:List α}{i:Nat}{v v':α}(h:(A++l.flatMap f).Nodup)(hi:l[i]?=some v)(h1:(f v').Nodup)(h2:∀b∈f v',b∈f v\/b ∉ A++l.flatMap f) :
  (A++(l.set i v').flatMap f).Nodup/\(∀b∈(l.set i v').flatMap f,b∈l.flatMap f\/b∈f v')/\(∀b∈A,b ∉ f v)/\∀(j:Nat) (y:α),j≠i->l[j]?=some y->∀b∈f y,b ∉ f v:=by
 obtain⟨ψ,hv⟩:=AL.1 hi;have e1:l=l.take i++v::l.drop (i+1):=by rw[<-hv];simp
 have e2:l.set i v'=l.take i++v'::l.drop (i+1):=List.set_eq_take_append_cons_drop.trans (AA ψ)
 have sep:∀(j:Nat) (y:α),j≠i->l[j]?=some y->y∈l.take i\/y∈l.drop (i+1):=λj y hj hy=>by
  by_cases hji:j<i
  ·exact .inl (AK (i:=j) (by rw[Aw,AA hji];exact hy))
  ·exact .inr (AK (i:=j-(i+1)) (by rw[BG,show i+1+(j-(i+1))=j by omega];exact hy))
 rw[e2];have h2':∀b∈f v',b∈f v\/b ∉ A++(l.take i++v::l.drop (i+1)).flatMap f:=λb hb=>by rw[<-e1];exact h2 b hb
 have h3:(A++(l.take i++v::l.drop (i+1)).flatMap f).Nodup:=by rw[<-e1];exact h
 have h4:∀b,b∈(l.take i++v::l.drop (i+1)).flatMap f->b∈l.flatMap f:=λb hb=>by rw[e1];exact hb
 clear h h2 e1 e2 hi hv;generalize l.take i=l1 at *
 generalize l.drop (i+1)=l2 at *
 simp only[Bz,Av,Ae,AH]at h2' h3 h4⊢;obtain⟨a1,⟨a2,⟨a3,a4,a5⟩,a6⟩,a7⟩:=h3;refine⟨⟨a1,⟨a2,⟨h1,a4,λb hb c hc e=>?_⟩,λb hb c hc e=>?_⟩,λb hb c hc e=>?_⟩,λb hb=>?_,λb hb hc=>a7 b hb b (.inr (.inl hc)) rfl,λj y hj hy b hb hc=>?_⟩
 ·subst e
  rcases h2' b hb with k|k
  ·exact a5 b k b hc rfl
  ·exact k (.inr (.inr (.inr hc)))
 ·subst e
  rcases hc with hc|hc
  ·rcases h2' b hc with k|k
   ·exact a6 b hb b (.inl k) rfl
   ·exact k (.inr (.inl hb))
  ·exact a6 b hb b (.inr hc) rfl
 ·subst e
  rcases hc with hc|hc|hc
  ·exact a7 b hb b (.inl hc) rfl
  ·rcases h2' b hc with k|k
   ·exact a7 b hb b (.inr (.inl k)) rfl
   ·exact k (.inl hb)
  ·exact a7 b hb b (.inr (.inr hc)) rfl
 ·rcases hb with hb|hb|hb
  ·exact .inl (h4 b (.inl hb))
  ·exact .inr hb
  ·exact .inl (h4 b (.inr (.inr hb)))
 ·rcases sep j y hj hy with k|k
  ·exact a6 b (Am.2 ⟨y,k,hb⟩) b (.inl hc) rfl
  ·exact a5 b hc b (Am.2 ⟨y,k,hb⟩) rfl
def HR{w w':World}:∀{p:List Nat} {es:List TypeId} {nd u u':Value} {d x' d':FC},bq w es nd d->(aZ es.length nd).Nodup->eV nd p=some u->nu d p x'=some d'->aM u'=aM u ->
  (∀b∈aZ es.length nd,b ∉ aZ (es.drop p.length).length u->w'.heap[b]?=w.heap[b]?)->bq w' (es.drop p.length) u' x'->(aZ (es.drop p.length).length u').Nodup ->
  (∀b∈aZ (es.drop p.length).length u',b∈aZ (es.drop p.length).length u\/b ∉ aZ es.length nd) ->
  bq w' es (iu nd p u') d'/\aM (iu nd p u')=aM nd/\(aZ es.length (iu nd p u')).Nodup/\∀b∈aZ es.length (iu nd p u'),b∈aZ es.length nd\/b∈aZ (es.drop p.length).length u'
 | [],es,nd,u,u',d,x',d',h,hn,hu,hp,hh,hk,ho,hn',hb=>by
  cases hu;cases hp;exact⟨ho,hh,hn',λb hb=>.inr hb⟩
 |i::p,[],nd,u,u',d,x',d',h,hn,hu,hp,hh,hk,ho,hn',hb=>False.elim h
 |i::p,[e],nd,u,u',d,x',d',h,hn,hu,hp,hh,hk,ho,hn',hb=>by
  simp only[eV,kY h.1]at hu;simp at hu
 |i::p,e::e2::es,nd,u,u',d,x',d',h,hn,hu,hp,hh,hk,ho,hn',hb=>by
  have hl:=jt h
  obtain⟨h1,h2,h3,h4⟩:=h;simp only[eV]at hu;split at hu
  ·rename_i v hv
   obtain⟨x0,hx0,_⟩:=lW h2 i;simp only[nu,hx0]at hp;split at hp
   ·rename_i y' hy'
    have hv0:=h4 i v x0 hv hx0
    have sub:∀b∈aZ (e2::es).length v,b∈aZ (e::e2::es).length nd:=λb hb=>dW.2 (.inr ⟨v,AK hv,hb⟩)
    obtain⟨_,_,_,subu⟩:=bq.at hv0 hu;have hn0:((ag (aM nd)).toList++(ba nd).flatMap (aZ (e2::es).length)).Nodup:=by
     have:=hn
     rw[AR,dX]at this;exact this
    have hnv:(aZ (e2::es).length v).Nodup:=by
     have h9:=(Ae.1 hn0).2.1
     have h8:=CZ.1 h9
     exact h8.1 v (AK hv)
    obtain⟨k1,k2,k3,k4⟩:=HR (p:=p) (es:=e2::es) hv0 hnv hu hy' hh (λb hb hn=>hk b (sub b hb) hn) ho hn' (λb hb1=>(hb b hb1).imp id λhc hc2=>hc (sub b hc2))
    have my:∀b∈aZ (e2::es).length (iu v p u'),b∈aZ (e2::es).length v\/b ∉ (ag (aM nd)).toList++(ba nd).flatMap (aZ (e2::es).length):=λb hb1=>by
     rcases k4 b hb1 with c|c
     ·exact .inl c
     ·rcases hb b c with c|c
      ·exact .inl (subu b c)
      ·refine .inr λhc=>c ?_
       rw[AR,dX];exact hc
    obtain⟨n1,n2,n3,n4⟩:=Rp hn0 hv k3 my;have hil:i<d.cn:=by rw[<-hl];exact(AL.1 hv).1
    obtain⟨p1,p2,p3⟩:=HQ hp;have hmap:((ba nd).set i (iu v p u')).map aM=(ba nd).map aM:=by
     rw[CG,k2];apply BP
     intro x
     rw[A9];split
     ·rename_i hx
      subst hx;rw[AA (by rw[AW];exact(AL.1 hv).1),Ak,hv];rfl
     ·rfl
    have hset:iu nd (i::p) u'=bB (aM nd) ((ba nd).set i (iu v p u')):=by simp only[iu,hv]
    rw[hset];refine⟨⟨rfl,p1.trans h2,?_,λj y x hj hx=>?_⟩,rfl,?_,λb hb1=>?_⟩
    ·rw[eW,da,hmap,p2,p3]
     exact ed h3 λb hb1=>hk b (dW.2 (.inl hb1)) λhc=>n3 b (by rw[hb1];simp) (subu b hc)
    ·rw[da,A9]at hj
     split at hj
     ·rename_i hij
      subst hij;split at hj
      ·cases hj
       rw[(wY hp).1 rfl hil]at hx;cases hx;exact k1
      ·cases hj
     ·rename_i hij
      rw[(wY hp).2 (AN hij)]at hx;exact(h4 j y x hj hx).keep λb hb1=>hk b (dW.2 (.inr ⟨y,AK hj,hb1⟩)) λhc=>n4 j y (AN hij) hj b hb1 (subu b hc)
    ·rw[AR,dX]
     exact n1
    ·rcases dW.1 hb1 with c|c
     ·exact .inl (dW.2 (.inl c))
     ·rcases n2 b (by rw[da]at c;exact Am.2 c)with c|c
      ·exact .inl (dW.2 (.inr (Am.1 c)))
      ·rcases k4 b c with c|c
       ·exact .inl (sub b c)
       ·exact .inr c
   ·cases hp
  ·cases hu
end Go.Sx
end
