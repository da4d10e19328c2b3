/- SxB SxBt -/
import Derived.Test.YtkmldclpaniclaaGreatSxA
set_option linter.unusedSimpArgs false
set_option linter.unusedVariables false
set_option linter.defProp false
section
namespace Go.Sx
open Go.RowKit
theorem gA.mono{w0 w:World}(hc:∀p u,w0.cell? p=some u->w.cell? p=some u){k:IntKind}{v:Value}{l:D1}(h:gA w0 k v l):gA w k v l:=by
 obtain⟨a,c,hv,hle,h⟩:=h;refine⟨a,c,hv,hle,fun h0=>?_⟩
 obtain⟨b,off,ha,h⟩:=h h0;exact⟨b,off,ha,fun i hi=>let⟨u,h1,h2⟩:=h i hi;⟨u,hc _ _ h1,h2⟩⟩
theorem bG.kept{w0 w:World}(hc:bL w0 w){v:Value}{n:Nat}{R R':Nat->Value->Prop}(h:bG w0 v n R)(hR:∀i u,R i u->R' i u):bG w v n R':=by
 obtain⟨a,c,hv,hle,h⟩:=h;refine⟨a,c,hv,hle,fun h0=>?_⟩
 obtain⟨b,off,ha,h⟩:=h h0;exact⟨b,off,ha,fun i hi=>let⟨u,h1,h2⟩:=h i hi;⟨u,hc _ _ h1,hR i u h2⟩⟩
theorem ga.kept{w0 w:World}(hc:bL w0 w){v:Value}{n:Nat}{R R':Nat->Value->Prop}(h:ga w0 v n R)(hR:∀i u,R i u->R' i u):ga w v n R':=by
 obtain⟨a,c,hv,hle,h⟩:=h;refine⟨a,c,hv,hle,fun h0=>?_⟩
 obtain⟨b,off,ha,h⟩:=h h0;exact⟨b,off,ha,fun i hi=>let⟨u,h1,h2⟩:=h i hi;⟨u,hc _ _ h1,hR i u h2⟩⟩
theorem bj.mono{w0 w:World}(hc:∀p u,w0.cell? p=some u->w.cell? p=some u){v:Value}{d:FC}(h:bj w0 v d):bj w v d:=by
 cases d with
 |int k n=>exact h
 |bool b=>exact h
 |str l=>exact h
 |ints k l=>exact gA.mono hc h
 |bools l=>exact bG.kept hc h fun _ _ h=>h
 |rows k l=>exact bG.kept hc h fun _ _ h=>h.mono hc
 |r3 k l=>exact bG.kept hc h fun _ _ h=>bG.kept hc h fun _ _ h=>h.mono hc
 |r4 k l=>exact bG.kept hc h fun _ _ h=>bG.kept hc h fun _ _ h=>bG.kept hc h fun _ _ h=>h.mono hc
 |p3 k l=>exact ga.kept hc h fun _ _ h=>bG.kept hc h fun _ _ h=>h.mono hc
theorem fP.mono{w0 w:World}(hc:bL w0 w){v:Value}{d:FC}(h:fP w0 v d):fP w v d:=⟨h.1,h.2.mono hc⟩
theorem bL.trans{a b c:World}(h:bL a b)(k:bL b c):bL a c:=fun p u hp=>k p u (h p u hp)
theorem mH.mono{P:Program}{w0 w:World}(hc:bL w0 w){F:FV}{v:Value}(h:mH P w0 F v):mH P w F v:=by
 obtain⟨f,caps,fn,h1,h2,h3,h4,h5⟩:=h;exact⟨f,caps,fn,h1,h2,h3,h4,fun w' us ds q c hk=>h5 w' us ds q c (bL.trans hc hk)⟩
theorem qc.mono{P:Program}{w0 w:World}(hc:bL w0 w){b:Nat}{F:SFV}{v:Value}(h:qc P w0 b F v):qc P w b F v:=by
 obtain⟨f,caps,fn,h1,h2,h3,h4,h5⟩:=h;exact⟨f,caps,fn,h1,h2,h3,h4,fun w' s x y hk=>h5 w' s x y (bL.trans hc hk)⟩
theorem Below.cells{w0 w:World}(h:Below w0.heap.size w0 w):∀p u,w0.cell? p=some u->w.cell? p=some u :=
 fun _ _ hp=>(h.cell (World.block_lt_of_cell? w0 _ hp)).trans hp
def dJ(s s':OSt)(m m':Img):Prop :=
 match s,s' with
 |.absent,_=>True
 |.dead,.dead=>True
 |.live _,.dead=>True
 |.frz _,.dead=>True
 |.frz d,.frz d'=>d=d'
 |.live x,.live y=>y.len=x.len/\m'.hd=m.hd/\x.ver<=y.ver/\(y.ver=x.ver->m'=m/\y.rl=x.rl)
 |_,_=>False
def dR(wF:World)(s s':OSt)(m m':Img):Prop:=dJ s s' m m'\/∃x d,s=.live x/\s'=.frz d/\x.len=d.slen/\fP wF m.hd d/\∃d',cg 0 d.len d=some d'
def bX(E E':Env):Prop:=bL E.wF E'.wF/\∀o,dR E'.wF (E.st o) (E'.st o) (E.mu o) (E'.mu o)
theorem dJ.refl(s:OSt)(m:Img):dJ s s m m:=by cases s<;>simp[dJ]
theorem dR.refl(wF:World)(s:OSt)(m:Img):dR wF s s m m:=.inl (.refl s m)
theorem bX.refl(E:Env):bX E E:=⟨fun _ _ h=>h,fun _=>.refl _ _ _⟩
theorem dR.trans{wF wG:World}(hk:bL wF wG){a b c:OSt}{m m' m'':Img}(h:dR wF a b m m')(k:dR wG b c m' m''):dR wG a c m m'':=by
 rcases h with h|⟨x,d,rfl,rfl,h1,h2,h3⟩
 ·rcases k with k|⟨x,d,rfl,rfl,k1,k2,k3⟩
  ·left
   cases a<;>cases b<;>simp only[dJ]at h<;>cases c<;>simp only[dJ]at k⊢
   ·obtain⟨a1,a2,a3,a4⟩:=h
    obtain⟨b1,b2,b3,b4⟩:=k;refine⟨b1.trans a1,b2.trans a2,Ar a3 b3,fun hv=>?_⟩
    obtain⟨c1,c2⟩:=a4 (by omega)
    obtain⟨d1,d2⟩:=b4 (by omega)
    exact⟨d1.trans c1,d2.trans c2⟩
   ·exact h.trans k
  ·cases a<;>simp only[dJ]at h
   ·left;trivial
   ·obtain⟨a1,a2,a3,a4⟩:=h
    exact .inr ⟨_,d,rfl,rfl,a1.symm.trans k1,by rw[<-a2];exact k2,k3⟩
 ·rcases k with k|⟨y,d',k0,_⟩
  ·cases c<;>simp only[dJ]at k
   ·left;trivial
   ·subst k;exact .inr ⟨x,d,rfl,rfl,h1,h2.mono hk,h3⟩
  ·cases k0
theorem bX.trans{E E' E'':Env}(h:bX E E')(k:bX E' E''):bX E E'':=⟨bL.trans h.1 k.1,fun o=>(h.2 o).trans k.1 (k.2 o)⟩
theorem bR.le{E E':Env}{o:Nat}{v:Value}(h:dR E'.wF (E.st o) (E'.st o) (E.mu o) (E'.mu o)){p q:Shp->Prop}{p' q':FC->Prop}(hs:bR E o v p p')
  (hpq:∀x y,y.len=x.len->(E'.mu o).hd=(E.mu o).hd->x.ver<=y.ver->(y.ver=x.ver->E'.mu o=E.mu o/\y.rl=x.rl)->p x->q y)(hff:∀d,p' d->q' d:=by intros;trivial)
  (hlf:∀x d,x.len=d.slen->fP E'.wF (E.mu o).hd d->(∃d',cg 0 d.len d=some d')->p x->q' d:=by intros;trivial):bR E' o v q q':=by
 refine⟨hs.1,?_⟩
 have h2:=hs.2
 rcases h with h|⟨x,d,h3,h4,h5,h6,h7⟩
 ·cases hE:E.st o<;>cases hE':E'.st o<;>rw[hE]at h h2<;>rw[hE']at h<;>simp only[dJ,OSt.on]at *
  ·exact hpq _ _ h.1 h.2.1 h.2.2.1 h.2.2.2 h2
  ·subst h;exact hff _ h2
 ·rw[h3]at h2
  rw[h4];exact hlf x d h5 h6 h7 h2
theorem qd{w:World}{hd v:Value}{n off m:Nat}{R:Nat->Value->Prop}(h:bG w hd n R)(hv:cp hd off m v)(hle:off+m<=n):bG w v m fun i u=>R (off+i) u:=by
 obtain⟨a,c,h1,h2,h3⟩:=h;rcases hv with⟨_,rfl,_,rfl⟩|⟨g,len,cap,ao,rfl,rfl,hc1,hc2,hao⟩
 ·exact⟨_,_,rfl,AE _,fun h0=>by omega⟩
 ·cases h1
  refine⟨_,_,rfl,hc2,fun h0=>?_⟩
  obtain⟨b,o2,h4,h5⟩:=h3 (by omega)
  cases h4;rw[hao (.inr (by omega))]
  exact⟨g,off,rfl,fun i hi=>by have:=h5 (off+i) (by omega);rwa[AJ]at this⟩
theorem iA{α:Type}(l:List α)(off m i:Nat)(z:α)(h:i<m):((l.drop off).take m).getD i z=l.getD (off+i) z:=by
 simp[List.getD,h]
theorem bG.below{w:World}{v:Value}{n:Nat}{R R':Nat->Value->Prop}(h:bG w v n R)(hR:∀i u,i<n->R i u->R' i u):bG w v n R':=by
 obtain⟨a,c,hv,hle,hk⟩:=h;refine⟨a,c,hv,hle,fun h0=>?_⟩
 obtain⟨b,off,ha,hk⟩:=hk h0;exact⟨b,off,ha,fun i hi=>let⟨u,h1,h2⟩:=hk i hi;⟨u,h1,hR i u hi h2⟩⟩
theorem uO{l:D5}{n j:Nat}(h:j<n*2):eO (l.take n) j=eO l j:=by
 have:j / 2<n:=by omega
 simp[eO,List.getD,Az,this]
theorem Xi{w:World}{hd v:Value}{n m:Nat}{R:Nat->Value->Prop}(h:ga w hd n R)(hv:cp hd 0 m v)(hle:m<=n):ga w v m R:=by
 obtain⟨a,c,h1,h2,h3⟩:=h;rcases hv with⟨_,rfl,_,rfl⟩|⟨g,len,cap,ao,rfl,rfl,hc1,hc2,hao⟩
 ·exact⟨_,_,rfl,AE _,fun h0=>by omega⟩
 ·cases h1
  refine⟨_,_,rfl,hc2,fun h0=>?_⟩
  obtain⟨b,o2,h4,h5⟩:=h3 (by omega)
  cases h4;rw[hao (.inl rfl)];exact⟨g,0,rfl,fun i hi=>h5 i (by omega)⟩
theorem ga.below{w:World}{v:Value}{n:Nat}{R R':Nat->Value->Prop}(h:ga w v n R)(hR:∀i u,i<n*2->R i u->R' i u):ga w v n R':=by
 obtain⟨a,c,hv,hle,hk⟩:=h;refine⟨a,c,hv,hle,fun h0=>?_⟩
 obtain⟨b,off,ha,hk⟩:=hk h0;exact⟨b,off,ha,fun i hi=>let⟨u,h1,h2⟩:=hk i hi;⟨u,h1,hR i u hi h2⟩⟩
theorem Oo{w:World}{hd v:Value}{d:FC}{off m:Nat}(h:fP w hd d)(hv:cp hd off m v)(hle:off+m<=d.slen)(hd':∃d',cg 0 d.len d=some d'):∃d',cg off m d=some d'/\fP w v d':=by
 have hs:∃a n c,v=.slice a n c/\n<=c:=by
  rcases hv with⟨_,rfl,_,_⟩|⟨g,len,cap,ao,_,rfl,_,hc2,_⟩
  ·exact⟨_,_,_,rfl,AE _⟩
  ·exact⟨_,_,_,rfl,hc2⟩
 have ln:∀{α:Type} (l:List α),off+m<=l.length->((l.drop off).take m).length=m:=fun l h=>by simp;omega
 obtain⟨_,h⟩:=h;obtain⟨d',hd'⟩:=hd';cases d with
 |int k n=>cases hd'
 |bool b=>cases hd'
 |str l=>cases hd'
 |ints k l =>
  refine⟨_,rfl,hs,?_⟩
  show bG _ _ _ _
  rw[ln l hle];exact(qd h hv hle).below fun i u hi hu=>by
   have e:=iA l off m i 0 hi
   rw[e];exact hu
 |bools l =>
  refine⟨_,rfl,hs,?_⟩
  show bG _ _ _ _
  rw[ln l hle];exact(qd h hv hle).below fun i u hi hu=>by
   have e:=iA l off m i false hi
   rw[e];exact hu
 |rows k l =>
  refine⟨_,rfl,hs,?_⟩
  show bG _ _ _ _
  rw[ln l hle];exact(qd h hv hle).below fun i u hi hu=>by
   have e:=iA l off m i [] hi
   rw[e];exact hu
 |r3 k l =>
  refine⟨_,rfl,hs,?_⟩
  show bG _ _ _ _
  rw[ln l hle];exact(qd h hv hle).below fun i u hi hu=>by
   have e:=iA l off m i [] hi
   rw[e];exact hu
 |r4 k l =>
  refine⟨_,rfl,hs,?_⟩
  show bG _ _ _ _
  rw[ln l hle];exact(qd h hv hle).below fun i u hi hu=>by
   have e:=iA l off m i [] hi
   rw[e];exact hu
 |p3 k l =>
  cases off with
  |succ off=>have:off+1+m<=0:=hle;omega
  |zero =>
   refine⟨_,rfl,hs,?_⟩
   show ga _ _ _ _
   have hle':0+m<=0:=hle
   rw[show(l.take m).length=m by rw[AT];omega]
   exact(Xi h hv (by omega)).below fun i u hi hu=>by
    rw[uO hi];exact hu
theorem ag.mono{E E':Env}(h:bX E E'){c:SC}{v:Value}(hr:ag E c v):ag E' c v:=by
 obtain⟨hw,ho⟩:=h;cases c with
 |any=>trivial
 |und=>exact hr
 |int k n=>exact hr
 |bool b=>exact hr
 |str l=>exact hr
 |nil=>exact hr
 |own o=>exact bR.le (ho o) hr (fun x y _ h2 _ _ hp=>by rw[h2];exact hp) (fun d h=>h.mono hw) (fun x d _ h2 _ hp=>by rw[show v=_ from hp];exact h2)
 |pre o n=>exact bR.le (ho o) hr (fun x y h1 h2 _ _ hp=>by rw[h2,h1];exact hp) (fun d ⟨d',h1,h2⟩=>⟨d',h1,h2.mono hw⟩) (fun x d h1 h2 h3 hp=>Oo h2 hp.2 (by have:=hp.1;omega) h3)
 |sub o off n=>exact bR.le (ho o) hr (fun x y h1 h2 _ _ hp=>by rw[h2,h1];exact hp) (fun d ⟨d',h1,h2⟩=>⟨d',h1,h2.mono hw⟩) (fun x d h1 h2 h3 hp=>Oo h2 hp.2 (by have:=hp.1;omega) h3)
 |ptr o i=>exact bR.le (ho o) hr fun x y h1 h2 _ _ hp=>by rw[h2,h1];exact hp
 |row o ver i=>exact bR.le (ho o) hr fun x y h1 h2 h3 h4 hp=>⟨by omega,fun e=>by
   have hv:y.ver=x.ver:=by omega
   obtain⟨h5,h6⟩:=h4 hv;rw[h5,h1];exact hp.2 (by omega)⟩
 |rptr o ver i j=>exact bR.le (ho o) hr fun x y h1 h2 h3 h4 hp=>⟨by omega,fun e=>by
   have hv:y.ver=x.ver:=by omega
   obtain⟨h5,h6⟩:=h4 hv;rw[h5,h6,h1];exact hp.2 (by omega)⟩
 |ro d=>exact⟨hr.1,hr.2.mono hw⟩
 |rop d i=>obtain⟨b,off,fc,u,h1,h2,h3,h4⟩:=hr;exact⟨b,off,fc,u,h1,h2,hw _ _ h3,h4.mono hw⟩
 |rbb cs=>obtain⟨b,off,b2,off2,h1,h0,h2⟩:=hr;exact⟨b,off,b2,off2,h1,hw _ _ h0,fun j fc hj=>let⟨u,h3,h4⟩:=h2 j fc hj;⟨u,hw _ _ h3,h4.mono hw⟩⟩
 |rob cs i=>obtain⟨b,off,h1,h2⟩:=hr;exact⟨b,off,h1,fun j fc hj=>let⟨u,h3,h4⟩:=h2 j fc hj;⟨u,hw _ _ h3,h4.mono hw⟩⟩
 |nilq b=>exact hr
 |emp=>exact hr
 |qptr o i=>exact bR.le (ho o) hr fun x y h1 h2 _ _ hp=>by rw[h2,h1];exact hp
 |bsl o n=>exact bR.le (ho o) hr fun x y h1 h2 _ _ hp=>by rw[h2,h1];exact hp
 |kid o ver p=>exact bR.le (ho o) hr fun x y h1 h2 h3 h4 hp=>⟨by omega,fun e=>by
   have hv:y.ver=x.ver:=by omega
   rw[(h4 hv).1];exact hp.2 (by omega)⟩
 |kptr o ver p j=>exact bR.le (ho o) hr fun x y h1 h2 h3 h4 hp=>⟨by omega,fun e=>by
   have hv:y.ver=x.ver:=by omega
   rw[(h4 hv).1];exact hp.2 (by omega)⟩
 |orig o j d =>
  refine⟨⟨hr.1.1,hr.1.2.mono hw⟩,bR.le (ho o) hr.2 fun x y h1 h2 h3 h4 hp e=>?_⟩
  have hv:y.ver=x.ver:=by omega
  rw[(h4 hv).1];exact hp (by omega)
theorem c7.mono{E E':Env}(h:bX E E'){cs:List SC}{arr:Array Value}(hr:c7 E cs arr):c7 E' cs arr :=
 ⟨hr.1,fun i c hi=>let⟨u,h1,h2,h3⟩:=hr.2 i c hi;⟨u,h1,h2,h3.mono h⟩⟩
theorem uN.mono{E E':Env}(h:bX E E'){c:SC ⊕ List SC}{v:Value}(hr:uN E c v):uN E' c v:=by
 cases c with
 |inl c=>exact⟨hr.1,hr.2.mono h⟩
 |inr cs=>exact let⟨arr,h1,h2⟩:=hr;⟨arr,h1,h2.mono h⟩
theorem av.mono{P:Program}{E E':Env}(h:bX E E'){c:SV}{v:Value}(hr:av P E c v):av P E' c v:=by
 cases c with
 |c x=>exact ag.mono h hr
 |agg l=>exact let⟨arr,h1,h2⟩:=hr;⟨arr,h1,h2.mono h⟩
 |fn f l=>exact let⟨arr,h1,h2⟩:=hr;⟨arr,h1,h2.mono h⟩
 |fv F=>exact mH.mono h.1 hr
 |fvs o F=>exact bR.le (h.2 o) hr fun x y _ h2 _ _ ⟨b,hp1,hp2⟩=>⟨b,by rw[h2];exact hp1,hp2.mono h.1⟩
 |tup l=>exact let⟨arr,h1,h2,h3⟩:=hr;⟨arr,h1,h2,fun i c hi=>let⟨u,h4,h5⟩:=h3 i c hi;⟨u,h4,h5.mono h⟩⟩
theorem dC{w w':World}{B e size n:Nat}{v:Value}{xs:List Value}(h:w.ownsRow B e size v n xs)
  (hk:∀b,ae v=some b->w'.heap[b]?=w.heap[b]?):w'.ownsRow B e size v n xs:=by
 refine⟨h.1,?_⟩
 rcases h.2 with h2|⟨g,cap,cur,hv,hb,hg,r⟩
 ·exact .inl h2
 ·exact .inr ⟨g,cap,cur,hv,hb,by rw[hk g (by rw[hv];rfl)];exact hg,r⟩
theorem gB{w:World}{B e size n:Nat}{v:Value}{xs:List Value}(h:w.ownsRow B e size v n xs) :
  ∀b,ae v=some b->B<=b/\b<w.heap.size:=by
 intro b hb
 rcases h.2 with⟨h2,_⟩|⟨g,cap,cur,hv,hB,hg,r⟩
 ·subst h2;simp[ae]at hb
 ·subst hv;simp[ae]at hb;subst hb
  exact⟨hB,(BC.1 hg).1⟩
theorem cz{m:Img}{b:Nat}(h:ae m.hd=some b):b∈m.blocks:=by simp[Img.blocks,h]
theorem oE{m:Img}{b i:Nat}{v:Value}(hi:m.ins[i]?=some v)(h:ae v=some b):b∈m.blocks:=by
 simp only[Img.blocks,AI,Aq];exact .inr ⟨v,AK hi,h⟩
theorem Xj{w w':World}{v:Value}{xs:List Value}(h:mI w v xs)(hk:∀b,ae v=some b->w'.heap[b]?=w.heap[b]?):mI w' v xs:=by
 rcases h with h|⟨g,off,cap,rfl,h2,h3,h4,h5,h6⟩
 ·exact .inl h
 ·have hg:=hk g rfl
  have hc:∀i,w'.cell? ⟨g,i,none⟩=w.cell? ⟨g,i,none⟩:=fun i=>by simp only[World.cell?,hg]
  have hf:∀i,w'.frozen? ⟨g,i,none⟩=w.frozen? ⟨g,i,none⟩:=fun i=>by simp only[World.frozen?,hg]
  refine .inr ⟨g,off,cap,rfl,h2,h3,?_,fun j hj=>by rw[hc,hf];exact h5 j hj,fun i u hu=>by rw[hc];exact h6 i u hu⟩
  rw[CA h4]at hg;exact(BC.1 hg).1
theorem jA.keep{w w':World}{m:Img}{e ei:TypeId}{k:IntKind}{l:D2}{hs:List Nat}(h:jA w m e ei k l hs)(hk:∀b∈m.blocks,w'.heap[b]?=w.heap[b]?):jA w' m e ei k l hs:=by
 obtain⟨h1,⟨vs,h2,h3⟩,h4⟩:=h;refine⟨h1,⟨vs,dC h2 fun b hb=>hk b (cz hb),h3⟩,fun i v r hi hr=>⟨(h4 i v r hi hr).1,fun hn=>?_⟩⟩
 exact dC ((h4 i v r hi hr).2 hn) fun b hb=>hk b (oE hi hb)
theorem dD{n:Nat}{nd:Value}{b:Nat}:b∈aQ (n+1) nd↔ae (aD nd)=some b\/∃u∈aT nd,b∈aQ n u:=by
 simp only[aQ,gZ,Aq,AG,Aj]
 constructor
 ·rintro⟨v,rfl|⟨u,hu,hv⟩,hb⟩
  ·exact .inl hb
  ·exact .inr ⟨u,hu,v,hv,hb⟩
 ·rintro(hb|⟨u,hu,v,hv,hb⟩)
  ·exact⟨_,.inl rfl,hb⟩
  ·exact⟨v,.inr ⟨u,hu,hv⟩,hb⟩
theorem dE(n:Nat)(nd:Value):aQ (n+1) nd=(ae (aD nd)).toList++(aT nd).flatMap (aQ n):=by
 have:((aT nd).flatMap (gZ n)).filterMap ae=(aT nd).flatMap (aQ n):=by
  induction aT nd with
  |nil=>rfl
  |cons u l ih=>rw[Bg,De,ih,Bg];rfl
 rw[aQ,gZ,BA,<-this];cases ae (aD nd)<;>rfl
theorem li{d:FC}{n:Nat}(h:d.dep=n+1)(i:Nat):∃x,cQ d i=some x/\x.dep=n:=by
 cases d<;>simp only[FC.dep]at h<;>first|omega|exact⟨_,rfl,by simp only[FC.dep];omega⟩
theorem eE(hd:Value)(ks:List Value):aD (bp hd ks)=hd:=rfl
theorem cR(hd:Value)(ks:List Value):aT (bp hd ks)=ks:=rfl
theorem ko{nd:Value}(h:nd=bp (aD nd) []):aT nd=[]:=by rw[h];rfl
theorem bf.keep{w w':World}:∀{es:List TypeId} {nd:Value} {d:FC},bf w es nd d->(∀b∈aQ es.length nd,w'.heap[b]?=w.heap[b]?)->bf w' es nd d
 | [],_,_,h,_=>False.elim h
 | [_],_,_,⟨h1,k,l,h2,h3⟩,hk=>⟨h1,k,l,h2,dC h3 fun b hb=>hk b (dD.2 (.inl hb))⟩
 |_::e2::es,_,_,⟨h1,h2,h3,h4⟩,hk=>⟨h1,h2,dC h3 fun b hb=>hk b (dD.2 (.inl hb)),fun i u x hu hx =>
   bf.keep (es:=e2::es) (h4 i u x hu hx) fun b hb=>hk b (dD.2 (.inr ⟨u,AK hu,hb⟩))⟩
theorem bf.block{w:World}:∀{es:List TypeId} {nd:Value} {d:FC},bf w es nd d->∀b∈aQ es.length nd,b<w.heap.size
 | [],_,_,h,_,_=>False.elim h
 | [_],nd,_,⟨h1,k,l,h2,h3⟩,b,hb=>by
  rcases dD.1 hb with hb|⟨u,hu,_⟩
  ·exact(gB h3 b hb).2
  ·rw[ko h1]at hu;simp at hu
 |_::e2::es,nd,_,⟨h1,h2,h3,h4⟩,b,hb=>by
  rcases dD.1 hb with hb|⟨u,hu,hb⟩
  ·exact(gB h3 b hb).2
  ·obtain⟨i,hi⟩:=Ah hu
   obtain⟨x,hx,_⟩:=li h2 i;exact bf.block (es:=e2::es) (h4 i u x hi hx) b hb
theorem bf.nd{w:World}:∀{es:List TypeId} {nd:Value} {d:FC},bf w es nd d->nd=bp (aD nd) (aT nd)/\es≠[]
 | [],_,_,h=>False.elim h
 | [_],nd,_,⟨h1,_⟩=>⟨by rw[ko h1];exact h1,by simp⟩
 |_::_::_,_,_,⟨h1,_⟩=>⟨h1,by simp⟩
theorem Oq{n:Nat}{nd:Value}(h:nd=bp (aD nd) (aT nd))(hn:n≠0):(dr n nd).blocks=aQ n nd:=by
 obtain⟨n,rfl⟩:∃m,n=m+1:=⟨n-1,by omega⟩
 have hb:ae nd=none:=by rw[h];rfl
 simp only[Img.blocks,dr,aQ,gZ,List.tail_cons,BA,hb];cases ae (aD nd)<;>rfl
theorem d9{w:World}{es:List TypeId}{nd:Value}{d:FC}(h:bf w es nd d):(dr es.length nd).blocks=aQ es.length nd :=
 Oq h.nd.1 (by intro hc;exact h.nd.2 (Ay hc))
theorem i5.keep{w w':World}{n:Nat}:∀{es:List TypeId} {nd:Value} {d:FC},i5 w n es nd d->(∀b∈aQ es.length nd,w'.heap[b]?=w.heap[b]?)->i5 w' n es nd d
 | [],_,_,h,_=>False.elim h
 | [_],_,_,h,_=>False.elim h
 |_::e2::es,_,_,⟨h1,h2,h3,⟨vs,h4,h5⟩,h6⟩,hk=>⟨h1,h2,h3,⟨vs,dC h4 fun b hb=>hk b (dD.2 (.inl hb)),h5⟩,fun i u x hu hx =>
   (h6 i u x hu hx).keep fun b hb=>hk b (dD.2 (.inr ⟨u,AK hu,hb⟩))⟩
theorem i5.block{w:World}{n:Nat}:∀{es:List TypeId} {nd:Value} {d:FC},i5 w n es nd d->∀b∈aQ es.length nd,b<w.heap.size
 | [],_,_,h,_,_=>False.elim h
 | [_],_,_,h,_,_=>False.elim h
 |_::e2::es,nd,_,⟨h1,h2,h3,⟨vs,h4,h5⟩,h6⟩,b,hb=>by
  rcases dD.1 hb with hb|⟨u,hu,hb⟩
  ·exact(gB h4 b hb).2
  ·obtain⟨i,hi⟩:=Ah hu
   obtain⟨x,hx,_⟩:=li h2 (n+i);exact(h6 i u x hi hx).block b hb
theorem uP{w:World}{n:Nat}{es:List TypeId}{nd:Value}{d:FC}(h:i5 w n es nd d):(dr es.length nd).blocks=aQ es.length nd :=
 match es,h with
 |_::_::_,⟨h1,_⟩=>Oq h1 (by simp)
theorem bf.k{w:World}{e e2:TypeId}{es:List TypeId}{nd:Value}{d:FC}(h:bf w (e::e2::es) nd d):i5 w 0 (e::e2::es) nd d:=by
 obtain⟨h1,h2,h3,h4⟩:=h;refine⟨h1,h2,?_,⟨_,h3,fun i u hu=>?_⟩,fun i u x hu hx=>h4 i u x hu (by rw[AJ]at hx;exact hx)⟩
 ·have:=h3.1
  rw[AR]at this;exact this
 ·rw[AJ,Ai,hu];rfl
theorem aO.keep{E E':Env}(hE:bX E E'){w w':World}{m:Img}{ob:Ob}(h:aO E w m ob)
  (hk:∀b∈m.blocks,w'.heap[b]?=w.heap[b]?):aO E' w' m ob:=by
 cases ob with
 |box cs =>
  obtain⟨b,arr,t,h1,h2,h4,h5⟩:=h;exact⟨b,arr,t,h1,h2,by rw[hk b (cz (by rw[h1];rfl))];exact h4,h5.mono hE⟩
 |bx cs =>
  obtain⟨b,arr,t,h1,h2,h4,h5⟩:=h;exact⟨b,arr,t,h1,h2,by rw[hk b (cz (by rw[h1];rfl))];exact h4,h5⟩
 |ints e k l=>exact⟨h.1,dC h.2 fun b hb=>hk b (cz hb)⟩
 |bools e l=>exact⟨h.1,dC h.2 fun b hb=>hk b (cz hb)⟩
 |strs e l=>exact⟨h.1,dC h.2 fun b hb=>hk b (cz hb)⟩
 |rows ver e ei k l =>
  obtain⟨h1,h2,h3⟩:=h;refine⟨dC h1 fun b hb=>hk b (cz hb),h2,fun i v r hi hr=>?_⟩
  exact dC (h3 i v r hi hr) fun b hb=>hk b (oE hi hb)
 |lst ver e d =>
  obtain⟨h1,vs,h2,h3⟩:=h;exact⟨h1,vs,dC h2 fun b hb=>hk b (cz hb),fun i u hi=>let⟨h4,fc,h5,h6⟩:=h3 i u hi;⟨h4,fc,h5,h6.mono hE.1⟩⟩
 |frz d=>exact h
 |mp l =>
  obtain⟨h1,b,es,ck,h2,h3,h4⟩:=h;exact⟨h1,b,es,ck,h2,by rw[hk b (cz (by rw[h2];rfl))];exact h3,h4⟩
 |qu e k l=>exact⟨h.1,Xj h.2 fun b hb=>hk b (cz hb)⟩
 |rowsH ver e ei k l hs=>exact jA.keep h hk
 |tr ver es d =>
  obtain⟨nd,rfl,h2⟩:=h;exact⟨nd,rfl,h2.keep fun b hb=>hk b (by rw[d9 h2];exact hb)⟩
 |trk ver es d n =>
  obtain⟨nd,rfl,h2⟩:=h;exact⟨nd,rfl,h2.keep fun b hb=>hk b (by rw[uP h2];exact hb)⟩
 |yd yv Y pre b =>
  obtain⟨h1,h2,h3,h4⟩:=h;refine⟨h1,h2.trans hE.1,Y.loc pre b w w' _ h3 hk,fun k hkm=>?_⟩
  have h5:=h4 k hkm
  have h6:=hk k hkm
  rw[CA h5]at h6;exact(BC.1 h6).1
theorem aO.block{E:Env}{w:World}{m:Img}{ob:Ob}(h:aO E w m ob):∀b∈m.blocks,b<w.heap.size:=by
 intro b hb
 have hb0:=hb
 simp only[Img.blocks,AI,Aq,BY]at hb;cases ob with
 |box cs =>
  obtain⟨g,arr,t,h1,h2,h4,h5⟩:=h;rcases hb with hb|⟨v,hv,hvb⟩
  ·rw[h1]at hb;simp[ae]at hb;subst hb;exact(BC.1 h4).1
  ·rw[h2 v hv]at hvb;cases hvb
 |bx cs =>
  obtain⟨g,arr,t,h1,h2,h4,h5⟩:=h;rcases hb with hb|⟨v,hv,hvb⟩
  ·rw[h1]at hb;simp[ae]at hb;subst hb;exact(BC.1 h4).1
  ·rw[h2 v hv]at hvb;cases hvb
 |ints e k l =>
  rcases hb with hb|⟨v,hv,_⟩
  ·exact(gB h.2 b hb).2
  ·simp[h.1]at hv
 |bools e l =>
  rcases hb with hb|⟨v,hv,_⟩
  ·exact(gB h.2 b hb).2
  ·simp[h.1]at hv
 |strs e l =>
  rcases hb with hb|⟨v,hv,_⟩
  ·exact(gB h.2 b hb).2
  ·simp[h.1]at hv
 |rows ver e ei k l =>
  obtain⟨h1,h2,h3⟩:=h;rcases hb with hb|⟨v,hv,hb⟩
  ·exact(gB h1 b hb).2
  ·obtain⟨i,hi⟩:=Ah hv
   have ψ:i<l.length:=by rw[<-h2];exact(AN.1 hi).1
   exact(gB (h3 i v _ hi (AF ψ)) b hb).2
 |lst ver e d =>
  obtain⟨h1,vs,h2,_⟩:=h;rcases hb with hb|⟨v,hv,_⟩
  ·exact(gB h2 b hb).2
  ·simp[h1]at hv
 |mp l =>
  obtain⟨h1,g,es,ck,h2,h3,h4⟩:=h;rcases hb with hb|⟨v,hv,_⟩
  ·rw[h2]at hb;simp[ae]at hb;subst hb;exact(BC.1 h3).1
  ·simp[h1]at hv
 |rowsH ver e ei k l hs =>
  obtain⟨h1,⟨vs,h2,_⟩,h4⟩:=h;rcases hb with hb|⟨v,hv,hb⟩
  ·exact(gB h2 b hb).2
  ·obtain⟨i,hi⟩:=Ah hv
   have ψ:i<l.length:=by rw[<-h1];exact(AN.1 hi).1
   obtain⟨h5,h6⟩:=h4 i v _ hi (AF ψ);by_cases hm:i∈hs
   ·rw[h5 hm]at hb;cases hb
   ·exact(gB (h6 hm) b hb).2
 |qu e k l =>
  obtain⟨h1,h2⟩:=h;rcases hb with hb|⟨v,hv,_⟩
  ·rcases h2 with⟨h2,_⟩|⟨g,off,cap,h2,_,_,h3,_⟩
   ·rw[h2]at hb;simp[ae]at hb
   ·rw[h2]at hb;simp[ae]at hb;subst hb;exact h3
  ·simp[h1]at hv
 |tr ver es d =>
  obtain⟨nd,rfl,h2⟩:=h;rw[d9 h2]at hb0;exact h2.block b hb0
 |trk ver es d n =>
  obtain⟨nd,rfl,h2⟩:=h;rw[uP h2]at hb0;exact h2.block b hb0
 |yd yv Y pre g=>exact h.2.2.2 b hb0
 |frz d =>
  have h:m.blocks=[]:=h
  have:b∈m.blocks:=by simp only[Img.blocks,AI,Aq,BY];exact hb
  rw[h]at this;cases this
theorem cell_lt'{w:World}{p:Addr}{u:Value}(h:w.cell? p=some u):p.block<w.heap.size:=World.block_lt_of_cell? w _ h
section
variable {C:Cx} {σ σ':State} {mu mu':Nat->Img} {a a':Act} {w w':World}
theorem St.updG(h:St C σ mu a w)(S:Nat->Prop){wG:World}(hos:OsD w w')(htape:w'.tape=w.tape)(hout:w'.output=w.output)(hsize:w.heap.size<=w'.heap.size)
  (hS0:∀b,S b->∃o ob,σ.H o=some (some ob)/\b∈(mu o).blocks)(hkeep:∀b,b<w.heap.size->¬ S b->w'.heap[b]?=w.heap[b]?)
  (hG:bL C.wF wG)(hG2:∀p u,wG.cell? p=some u->C.wF.cell? p=some u\/(w'.cell? p=some u/\∀o ob,σ'.H o=some (some ob)->p.block ∉ (mu' o).blocks))
  (hle:∀o,dR wG (σ.ost o) (σ'.ost o) (mu o) (mu' o))
  (hob:∀o ob,σ'.H o=some (some ob)->(σ.H o=some (some ob)/\mu' o=mu o/\∀b∈(mu o).blocks,¬ S b) \/
   (aO (σ'.env wG mu') w' (mu' o) ob/\(mu' o).blocks.Nodup/\(∀b∈(mu' o).blocks,S b\/w.heap.size<=b) /\
    ∀o' ob',o≠o'->σ'.H o'=some (some ob')->(σ.H o'=some (some ob')/\mu' o'=mu o'/\∀b∈(mu o').blocks,¬ S b)\/∀b∈(mu' o).blocks,b ∉ (mu' o').blocks))
  (hsz:a'.tmps.size=C.N)(hdf:a'.defers=a.defers)
  (hfr:∀t sv,σ'.F t=some sv->(σ.F t=some sv/\a'.tmps.getD t undef=a.tmps.getD t undef)\/av C.P (σ'.env wG mu') sv (a'.tmps.getD t undef)) :
  St (C.fz wG) σ' mu' a' w':=by
 have hE:bX (σ.env C.wF mu) (σ'.env wG mu'):=⟨hG,hle⟩
 have hbl:∀o ob,σ.H o=some (some ob)->∀b∈(mu o).blocks,b<w.heap.size:=fun o ob ho=>(h.ob o ob ho).block
 have hS1:∀b,S b->C.M b\/C.w0.heap.size<=b:=fun b hb=>by
  obtain⟨o,ob,h1,h2⟩:=hS0 b hb;exact(h.nd o ob h1).2 b h2
 have hkb:∀k,k<C.w0.heap.size->¬ C.M k->w'.heap[k]?=w.heap[k]?:=fun k hk hm =>
  hkeep k (Nat.lt_of_lt_of_le hk h.size) (fun hs=>by rcases hS1 k hs with h1|h1<;>first|exact hm h1|omega)
 have hMk:km C.w0.heap.size σ' mu' a'.defers w':=by
  obtain⟨rs,k1,k2,k3⟩:=h.df;rw[hdf];refine⟨rs,k1,k2,fun r hr=>?_⟩
  obtain⟨q1,q2,q3⟩:=k3 r hr;have ψ:=(BC.1 q2).1
  have hS:¬ S r:=fun hs=>by
   obtain⟨o,ob,z1,z2⟩:=hS0 r hs;exact q3 o ob z1 z2
  refine⟨q1,(hkeep r ψ hS).trans q2,fun o ob ho hb=>?_⟩
  rcases hob o ob ho with⟨z1,z2,_⟩|⟨_,_,z2,_⟩
  ·rw[z2]at hb;exact q3 o ob z1 hb
  ·rcases z2 r hb with z3|z3
   ·exact hS z3
   ·omega
 refine⟨hos.trans h.os,htape.trans h.tape,hout.trans h.output,Ar h.size hsize,fun k hk hm=>?_,fun p u hp=>?_,hsz,hMk,?_,?_,?_,?_,?_⟩
 ·show w'.heap[k]?=C.w0.heap[k]?
  rw[hkb k hk hm];exact h.block k hk hm
 ·rcases hG2 p u hp with hp|⟨h1,h2⟩
  ·obtain⟨h1,h2⟩:=h.cells p u hp
   have hn:¬ S p.block:=fun hs=>by
    obtain⟨o,ob,h3,h4⟩:=hS0 _ hs;exact h1 o ob h3 h4
   have ψ:=cell_lt' h2
   refine⟨fun o ob ho hb=>?_,(World.cell?_of_block (hkeep _ ψ hn)).trans h2⟩
   rcases hob o ob ho with⟨h3,h4,_⟩|⟨_,_,h3,_⟩
   ·rw[h4]at hb;exact h1 o ob h3 hb
   ·rcases h3 _ hb with h4|h4
    ·exact hn h4
    ·omega
  ·exact⟨h2,h1⟩
 ·intro t sv ht
  rcases hfr t sv ht with⟨h1,h2⟩|h1
  ·rw[h2];exact(h.fr t sv h1).mono hE
  ·exact h1
 ·intro o ob ho
  rcases hob o ob ho with⟨h1,h2,h3⟩|⟨h1,_⟩
  ·rw[h2];exact(h.ob o ob h1).keep hE fun b hb=>hkeep b (hbl o ob h1 b hb) (h3 b hb)
  ·exact h1
 ·intro o ob ho
  rcases hob o ob ho with⟨h1,h2,h3⟩|⟨_,h1,h2,_⟩
  ·rw[h2];exact h.nd o ob h1
  ·exact⟨h1,fun b hb=>by
    rcases h2 b hb with hs|hs
    ·exact hS1 b hs
    ·exact .inr (Ar h.size hs)⟩
 ·intro o o' ob ob' hne ho ho' b hb hb'
  rcases hob o ob ho with⟨h1,h2,h3⟩|⟨_,_,h1,h2⟩
  ·rcases hob o' ob' ho' with⟨k1,k2,k3⟩|⟨_,_,k1,k2⟩
   ·rw[h2]at hb;rw[k2]at hb'
    exact h.sep o o' ob ob' hne h1 k1 b hb hb'
   ·rw[h2]at hb
    rcases k1 b hb' with hs|hs
    ·exact h3 b hb hs
    ·have:=hbl o ob h1 b hb;omega
  ·rcases h2 o' ob' hne ho' with⟨k1,k2,k3⟩|k1
   ·rw[k2]at hb'
    rcases h1 b hb with hs|hs
    ·exact k3 b hb' hs
    ·have:=hbl o' ob' k1 b hb';omega
   ·exact k1 b hb hb'
 ·intro o m hp
  have h1:=h.pins o m hp
  rcases hle o with h2|⟨x,d,_,h3,_⟩
  ·cases hs:σ.ost o with
   |absent=>rw[hs]at h1;exact h1.elim
   |dead =>
    rw[hs]at h2;cases hs':σ'.ost o<;>rw[hs']at h2<;>first|trivial|exact h2.elim
   |frz d =>
    rw[hs]at h2;cases hs':σ'.ost o<;>rw[hs']at h2<;>first|trivial|exact h2.elim
   |live x =>
    rw[hs]at h1 h2;cases hs':σ'.ost o with
    |absent=>rw[hs']at h2;exact h2.elim
    |dead=>trivial
    |frz d=>trivial
    |live y =>
     rw[hs']at h2;obtain⟨k1,k2,k3,k4⟩:=h2;refine⟨k2.trans h1.1,fun hv=>?_⟩
     rw[(k4 (by omega)).1]
     exact h1.2 (by omega)
  ·rw[h3];trivial
theorem St.upd(h:St C σ mu a w)(S:Nat->Prop)(hos:OsD w w')(htape:w'.tape=w.tape)(hout:w'.output=w.output)(hsize:w.heap.size<=w'.heap.size)
  (hS0:∀b,S b->∃o ob,σ.H o=some (some ob)/\b∈(mu o).blocks)(hkeep:∀b,b<w.heap.size->¬ S b->w'.heap[b]?=w.heap[b]?)
  (hle:∀o,dJ (σ.ost o) (σ'.ost o) (mu o) (mu' o))
  (hob:∀o ob,σ'.H o=some (some ob)->(σ.H o=some (some ob)/\mu' o=mu o/\∀b∈(mu o).blocks,¬ S b) \/
   (aO (σ'.env C.wF mu') w' (mu' o) ob/\(mu' o).blocks.Nodup/\(∀b∈(mu' o).blocks,S b\/w.heap.size<=b) /\
    ∀o' ob',o≠o'->σ'.H o'=some (some ob')->(σ.H o'=some (some ob')/\mu' o'=mu o'/\∀b∈(mu o').blocks,¬ S b)\/∀b∈(mu' o).blocks,b ∉ (mu' o').blocks))
  (hsz:a'.tmps.size=C.N)(hdf:a'.defers=a.defers)
  (hfr:∀t sv,σ'.F t=some sv->(σ.F t=some sv/\a'.tmps.getD t undef=a.tmps.getD t undef)\/av C.P (σ'.env C.wF mu') sv (a'.tmps.getD t undef)) :
  St C σ' mu' a' w' :=
 h.updG S hos htape hout hsize hS0 hkeep (fun _ _ h=>h) (fun _ _ h=>.inl h) (fun o=>.inl (hle o)) hob hsz hdf hfr
end
end Go.Sx
end
section
namespace Go.Sx
open Go.RowKit
def fR:FC->Nat->FC->Option FC
 |.rows k l,i,.ints k' x=>if k=k' then some (.rows k (l.set i x))else none
 |.r3 k l,i,.rows k' x=>if k=k' then some (.r3 k (l.set i x))else none
 |.r4 k l,i,.r3 k' x=>if k=k' then some (.r4 k (l.set i x))else none
 |.p3 k l,i,.rows k' x=>if k=k' then some (.p3 k (ld l i x))else none
 |_,_,_=>none
def i6:FC->List Nat->Option FC
 |d,[]=>some d
 |d,i::p=>match cQ d i with
  |some x=>i6 x p
  |none=>none
def mJ:FC->List Nat->FC->Option FC
 |_,[],x=>some x
 |d,i::p,x=>match cQ d i with
  |some y=>match mJ y p x with
   |some y'=>fR d i y'
   |none=>none
  |none=>none
def g3:Value->List Nat->Value->Value
 |_,[],u'=>u'
 |nd,i::p,u'=>match(aT nd)[i]? with
  |some u=>bp (aD nd) ((aT nd).set i (g3 u p u'))
  |none=>nd
def gC:List Nat->List Nat->Bool
 | [],[]=>true
 |a::l,b::m=>Nat.beq a b&&gC l m
 |_,_=>false
theorem i7:∀{l m:List Nat},gC l m=true->l=m
 | [],[],_=>rfl
 | [],_::_,h=>by simp[gC]at h
 |_::_,[],h=>by simp[gC]at h
 |a::l,b::m,h=>by
  simp only[gC,AL]at h;rw[AY h.1,i7 h.2]
theorem i8{w:World}{e e2:TypeId}{es:List TypeId}{nd:Value}{d:FC}(h:bf w (e::e2::es) nd d):(aT nd).length=d.cn:=by
 have:=h.2.2.1.1
 rw[AR]at this;exact this
theorem bf.at{w:World}:∀{p:List Nat} {es:List TypeId} {nd u:Value} {d:FC},bf w es nd d->eD nd p=some u ->
  ∃x,i6 d p=some x/\bf w (es.drop p.length) u x/\∀b∈aQ (es.drop p.length).length u,b∈aQ es.length nd
 | [],es,nd,u,d,h,hu=>by
  cases hu;exact⟨d,rfl,h,fun b hb=>hb⟩
 |i::p,[],nd,u,d,h,hu=>False.elim h
 |i::p,[e],nd,u,d,h,hu=>by
  simp only[eD,ko h.1]at hu;simp at hu
 |i::p,e::e2::es,nd,u,d,⟨h1,h2,h3,h4⟩,hu=>by
  simp only[eD]at hu;split at hu
  ·rename_i v hv
   obtain⟨x0,hx0,_⟩:=li h2 i;obtain⟨x,k1,k2,k3⟩:=bf.at (p:=p) (es:=e2::es) (h4 i v x0 hv hx0) hu;refine⟨x,by simp only[i6,hx0];exact k1,k2,fun b hb=>dD.2 (.inr ⟨v,AK hv,k3 b hb⟩)⟩
  ·cases hu
theorem FT{d d' x:FC}{i:Nat}(h:fR d i x=some d'):d'.dep=d.dep/\d'.len=d.len/\d'.wid=d.wid:=by
 cases d<;>cases x<;>simp only[fR,reduceCtorEq]at h
 all_goals
  split at h
  ·cases h;exact⟨rfl,by simp[FC.len,ld],rfl⟩
  ·cases h
theorem Ot{l:D5}{i j:Nat}{x:D2}:(j=i->i<l.length*2->eO (ld l i x) j=x)/\(j≠i->eO (ld l i x) j=eO l j):=by
 constructor
 ·rintro rfl hi
  have hl:j / 2<l.length:=by omega
  simp only[eO,ld,List.getD,BB,AV,hl];split<;>rfl
 ·intro hne
  by_cases h2:j / 2=i / 2
  ·by_cases hl:i / 2<l.length
   ·simp only[eO,ld,List.getD,h2,BB,AV,hl]
    by_cases hj:j % 2=0
    ·have hi:¬ i % 2=0:=by omega
     simp[hj,hi]
    ·have hi:i % 2=0:=by omega
     simp[hj,hi]
   ·rw[ld,List.set_eq_of_length_le (by omega)]
  ·simp[eO,ld,List.getD,A8 (AM h2)]
theorem uQ{d d' x:FC}{i j:Nat}(h:fR d i x=some d'):(j=i->i<d.cn->cQ d' j=some x)/\(j≠i->cQ d' j=cQ d j):=by
 cases d<;>cases x<;>simp only[fR,reduceCtorEq]at h
 all_goals
  split at h
  ·rename_i hk
   subst hk;cases h;refine⟨fun e hi=>?_,fun e=>?_⟩
   ·subst e
    first
    |(rw[cQ,Ot.1 rfl hi];done)
    | (simp only[FC.cn,FC.len,FC.wid,Nat.mul_one]at hi
       simp[cQ,List.getD,hi])
   ·first
    |(rw[cQ,cQ,Ot.2 e];done)
    |simp[cQ,List.getD,A8 (AM e)]
  ·cases h
theorem Ou{α:Type}{f:α->List Nat}{A:List Nat}{l:List α}{i:Nat}{v v':α}(h:(A++l.flatMap f).Nodup)(hi:l[i]?=some v)(h1:(f v').Nodup)(h2:∀b∈f v',b∈f v\/b ∉ A++l.flatMap f) :
  (A++(l.set i v').flatMap f).Nodup/\(∀b∈(l.set i v').flatMap f,b∈l.flatMap f\/b∈f v')/\(∀b∈A,b ∉ f v)/\∀(j:Nat) (y:α),j≠i->l[j]?=some y->∀b∈f y,b ∉ f v:=by
 obtain⟨ψ,hv⟩:=AN.1 hi;have e1:l=l.take i++v::l.drop (i+1):=by rw[<-hv];simp
 have e2:l.set i v'=l.take i++v'::l.drop (i+1):=List.set_eq_take_append_cons_drop.trans (AA ψ)
 have sep:∀(j:Nat) (y:α),j≠i->l[j]?=some y->y∈l.take i\/y∈l.drop (i+1):=fun j y hj hy=>by
  by_cases hji:j<i
  ·exact .inl (AK (i:=j) (by rw[Az,AA hji];exact hy))
  ·exact .inr (AK (i:=j-(i+1)) (by rw[BI,show i+1+(j-(i+1))=j by omega];exact hy))
 rw[e2];have h2':∀b∈f v',b∈f v\/b ∉ A++(l.take i++v::l.drop (i+1)).flatMap f:=fun b hb=>by rw[<-e1];exact h2 b hb
 have h3:(A++(l.take i++v::l.drop (i+1)).flatMap f).Nodup:=by rw[<-e1];exact h
 have h4:∀b,b∈(l.take i++v::l.drop (i+1)).flatMap f->b∈l.flatMap f:=fun b hb=>by rw[e1];exact hb
 clear h h2 e1 e2 hi hv;generalize l.take i=l1 at *
 generalize l.drop (i+1)=l2 at *
 simp only[CO,Bg,Ad,AI]at h2' h3 h4⊢;obtain⟨a1,⟨a2,⟨a3,a4,a5⟩,a6⟩,a7⟩:=h3;refine⟨⟨a1,⟨a2,⟨h1,a4,fun b hb c hc e=>?_⟩,fun b hb c hc e=>?_⟩,fun b hb c hc e=>?_⟩,fun b hb=>?_,fun b hb hc=>a7 b hb b (.inr (.inl hc)) rfl,fun j y hj hy b hb hc=>?_⟩
 ·subst e
  rcases h2' b hb with k|k
  ·exact a5 b k b hc rfl
  ·exact k (.inr (.inr (.inr hc)))
 ·subst e
  rcases hc with hc|hc
  ·rcases h2' b hc with k|k
   ·exact a6 b hb b (.inl k) rfl
   ·exact k (.inr (.inl hb))
  ·exact a6 b hb b (.inr hc) rfl
 ·subst e
  rcases hc with hc|hc|hc
  ·exact a7 b hb b (.inl hc) rfl
  ·rcases h2' b hc with k|k
   ·exact a7 b hb b (.inr (.inl k)) rfl
   ·exact k (.inl hb)
  ·exact a7 b hb b (.inr (.inr hc)) rfl
 ·rcases hb with hb|hb|hb
  ·exact .inl (h4 b (.inl hb))
  ·exact .inr hb
  ·exact .inl (h4 b (.inr (.inr hb)))
 ·rcases sep j y hj hy with k|k
  ·exact a6 b (Aj.2 ⟨y,k,hb⟩) b (.inl hc) rfl
  ·exact a5 b hc b (Aj.2 ⟨y,k,hb⟩) rfl
theorem FU{w w':World}:∀{p:List Nat} {es:List TypeId} {nd u u':Value} {d x' d':FC},bf w es nd d->(aQ es.length nd).Nodup->eD nd p=some u->mJ d p x'=some d'->aD u'=aD u ->
  (∀b∈aQ es.length nd,b ∉ aQ (es.drop p.length).length u->w'.heap[b]?=w.heap[b]?)->bf w' (es.drop p.length) u' x'->(aQ (es.drop p.length).length u').Nodup ->
  (∀b∈aQ (es.drop p.length).length u',b∈aQ (es.drop p.length).length u\/b ∉ aQ es.length nd) ->
  bf w' es (g3 nd p u') d'/\aD (g3 nd p u')=aD nd/\(aQ es.length (g3 nd p u')).Nodup/\∀b∈aQ es.length (g3 nd p u'),b∈aQ es.length nd\/b∈aQ (es.drop p.length).length u'
 | [],es,nd,u,u',d,x',d',h,hn,hu,hp,hh,hk,ho,hn',hb=>by
  cases hu;cases hp;exact⟨ho,hh,hn',fun b hb=>.inr hb⟩
 |i::p,[],nd,u,u',d,x',d',h,hn,hu,hp,hh,hk,ho,hn',hb=>False.elim h
 |i::p,[e],nd,u,u',d,x',d',h,hn,hu,hp,hh,hk,ho,hn',hb=>by
  simp only[eD,ko h.1]at hu;simp at hu
 |i::p,e::e2::es,nd,u,u',d,x',d',h,hn,hu,hp,hh,hk,ho,hn',hb=>by
  have hl:=i8 h
  obtain⟨h1,h2,h3,h4⟩:=h;simp only[eD]at hu;split at hu
  ·rename_i v hv
   obtain⟨x0,hx0,_⟩:=li h2 i;simp only[mJ,hx0]at hp;split at hp
   ·rename_i y' hy'
    have hv0:=h4 i v x0 hv hx0
    have sub:∀b∈aQ (e2::es).length v,b∈aQ (e::e2::es).length nd:=fun b hb=>dD.2 (.inr ⟨v,AK hv,hb⟩)
    obtain⟨_,_,_,subu⟩:=bf.at hv0 hu;have hn0:((ae (aD nd)).toList++(aT nd).flatMap (aQ (e2::es).length)).Nodup:=by
     have:=hn
     rw[AS,dE]at this;exact this
    have hnv:(aQ (e2::es).length v).Nodup:=by
     have h9:=(Ad.1 hn0).2.1
     have h8:=CP.1 h9
     exact h8.1 v (AK hv)
    obtain⟨k1,k2,k3,k4⟩:=FU (p:=p) (es:=e2::es) hv0 hnv hu hy' hh (fun b hb hn=>hk b (sub b hb) hn) ho hn' (fun b hb1=>(hb b hb1).imp id fun hc hc2=>hc (sub b hc2))
    have lP:∀b∈aQ (e2::es).length (g3 v p u'),b∈aQ (e2::es).length v\/b ∉ (ae (aD nd)).toList++(aT nd).flatMap (aQ (e2::es).length):=fun b hb1=>by
     rcases k4 b hb1 with c|c
     ·exact .inl c
     ·rcases hb b c with c|c
      ·exact .inl (subu b c)
      ·refine .inr fun hc=>c ?_
       rw[AS,dE];exact hc
    obtain⟨n1,n2,n3,n4⟩:=Ou hn0 hv k3 lP;have hil:i<d.cn:=by rw[<-hl];exact(AN.1 hv).1
    obtain⟨p1,p2,p3⟩:=FT hp;have hmap:((aT nd).set i (g3 v p u')).map aD=(aT nd).map aD:=by
     rw[CB,k2];apply BS
     intro x
     rw[BB];split
     ·rename_i hx
      subst hx;rw[AA (by rw[AR];exact(AN.1 hv).1),Ai,hv];rfl
     ·rfl
    have hset:g3 nd (i::p) u'=bp (aD nd) ((aT nd).set i (g3 v p u')):=by simp only[g3,hv]
    rw[hset];refine⟨⟨rfl,p1.trans h2,?_,fun j y x hj hx=>?_⟩,rfl,?_,fun b hb1=>?_⟩
    ·rw[eE,cR,hmap,p2,p3]
     exact dC h3 fun b hb1=>hk b (dD.2 (.inl hb1)) fun hc=>n3 b (by rw[hb1];simp) (subu b hc)
    ·rw[cR,BB]at hj
     split at hj
     ·rename_i hij
      subst hij;split at hj
      ·cases hj
       rw[(uQ hp).1 rfl hil]at hx;cases hx;exact k1
      ·cases hj
     ·rename_i hij
      rw[(uQ hp).2 (AM hij)]at hx;exact(h4 j y x hj hx).keep fun b hb1=>hk b (dD.2 (.inr ⟨y,AK hj,hb1⟩)) fun hc=>n4 j y (AM hij) hj b hb1 (subu b hc)
    ·rw[AS,dE]
     exact n1
    ·rcases dD.1 hb1 with c|c
     ·exact .inl (dD.2 (.inl c))
     ·rcases n2 b (by rw[cR]at c;exact Aj.2 c)with c|c
      ·exact .inl (dD.2 (.inr (Aj.1 c)))
      ·rcases k4 b c with c|c
       ·exact .inl (sub b c)
       ·exact .inr c
   ·cases hp
  ·cases hu
end Go.Sx
end
