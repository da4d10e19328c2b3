/- SxB SxBt -/
import Derived.Test.YtkmldclpaniclaaGreatSxA
set_option linter.unusedSimpArgs false
set_option linter.unusedVariables false
set_option linter.defProp false
section
namespace Go.Sx
open Go.RowKit
theorem g9.mono{w0 w:World}(hc:∀p u,w0.cell? p=some u->w.cell? p=some u){k:IntKind}{v:Value}{l:Db}(h:g9 w0 k v l):g9 w k v l:=by
 obtain⟨a,c,hv,hle,h⟩:=h;refine⟨a,c,hv,hle,fun h0=>?_⟩
 obtain⟨b,off,ha,h⟩:=h h0;exact⟨b,off,ha,fun i hi=>let⟨u,h1,h2⟩:=h i hi;⟨u,hc _ _ h1,h2⟩⟩
theorem bE.kept{w0 w:World}(hc:bJ w0 w){v:Value}{n:Nat}{R R':Nat->Value->Prop}(h:bE w0 v n R)(hR:∀i u,R i u->R' i u):bE w v n R':=by
 obtain⟨a,c,hv,hle,h⟩:=h;refine⟨a,c,hv,hle,fun h0=>?_⟩
 obtain⟨b,off,ha,h⟩:=h h0;exact⟨b,off,ha,fun i hi=>let⟨u,h1,h2⟩:=h i hi;⟨u,hc _ _ h1,hR i u h2⟩⟩
theorem gh.kept{w0 w:World}(hc:bJ w0 w){v:Value}{n:Nat}{R R':Nat->Value->Prop}(h:gh w0 v n R)(hR:∀i u,R i u->R' i u):gh w v n R':=by
 obtain⟨a,c,hv,hle,h⟩:=h;refine⟨a,c,hv,hle,fun h0=>?_⟩
 obtain⟨b,off,ha,h⟩:=h h0;exact⟨b,off,ha,fun i hi=>let⟨u,h1,h2⟩:=h i hi;⟨u,hc _ _ h1,hR i u h2⟩⟩
theorem bp.mono{w0 w:World}(hc:∀p u,w0.cell? p=some u->w.cell? p=some u){v:Value}{d:FC}(h:bp w0 v d):bp w v d:=by
 cases d with
 |int k n=>exact h
 |bool b=>exact h
 |str l=>exact h
 |ints k l=>exact g9.mono hc h
 |bools l=>exact bE.kept hc h fun _ _ h=>h
 |rows k l=>exact bE.kept hc h fun _ _ h=>h.mono hc
 |r3 k l=>exact bE.kept hc h fun _ _ h=>bE.kept hc h fun _ _ h=>h.mono hc
 |r4 k l=>exact bE.kept hc h fun _ _ h=>bE.kept hc h fun _ _ h=>bE.kept hc h fun _ _ h=>h.mono hc
 |p3 k l=>exact gh.kept hc h fun _ _ h=>bE.kept hc h fun _ _ h=>h.mono hc
theorem fO.mono{w0 w:World}(hc:bJ w0 w){v:Value}{d:FC}(h:fO w0 v d):fO w v d:=⟨h.1,h.2.mono hc⟩
theorem bJ.trans{a b c:World}(h:bJ a b)(k:bJ b c):bJ a c:=fun p u hp=>k p u (h p u hp)
theorem gj.mono{P:Program}{w0 w:World}(hc:bJ w0 w){F:FV}{v:Value}(h:gj P w0 F v):gj P w F v:=by
 obtain⟨f,caps,fn,h1,h2,h3,h4,h5⟩:=h;exact⟨f,caps,fn,h1,h2,h3,h4,fun w' us ds q c hk=>h5 w' us ds q c (bJ.trans hc hk)⟩
theorem qt.mono{P:Program}{w0 w:World}(hc:bJ w0 w){b:Nat}{F:SFV}{v:Value}(h:qt P w0 b F v):qt P w b F v:=by
 obtain⟨f,caps,fn,h1,h2,h3,h4,h5⟩:=h;exact⟨f,caps,fn,h1,h2,h3,h4,fun w' s x y hk=>h5 w' s x y (bJ.trans hc hk)⟩
theorem Below.cells{w0 w:World}(h:Below w0.heap.size w0 w):∀p u,w0.cell? p=some u->w.cell? p=some u :=
 fun _ _ hp=>(h.cell (World.block_lt_of_cell? w0 _ hp)).trans hp
def dL(s s':OSt)(m m':Img):Prop :=
 match s,s' with
 |.absent,_=>True
 |.dead,.dead=>True
 |.live _,.dead=>True
 |.frz _,.dead=>True
 |.frz d,.frz d'=>d=d'
 |.live x,.live y=>y.len=x.len/\m'.hd=m.hd/\x.ver<=y.ver/\(y.ver=x.ver->m'=m/\y.rl=x.rl)
 |_,_=>False
def dQ(wF:World)(s s':OSt)(m m':Img):Prop:=dL s s' m m'\/∃x d,s=.live x/\s'=.frz d/\x.len=d.slen/\fO wF m.hd d/\∃d',cz 0 d.len d=some d'
def b7(E E':Env):Prop:=bJ E.wF E'.wF/\∀o,dQ E'.wF (E.st o) (E'.st o) (E.mu o) (E'.mu o)
theorem dL.refl(s:OSt)(m:Img):dL s s m m:=by cases s<;>simp[dL]
theorem dQ.refl(wF:World)(s:OSt)(m:Img):dQ wF s s m m:=.inl (.refl s m)
theorem b7.refl(E:Env):b7 E E:=⟨fun _ _ h=>h,fun _=>.refl _ _ _⟩
theorem dQ.trans{wF wG:World}(hk:bJ wF wG){a b c:OSt}{m m' m'':Img}(h:dQ wF a b m m')(k:dQ wG b c m' m''):dQ wG a c m m'':=by
 rcases h with h|⟨x,d,rfl,rfl,h1,h2,h3⟩
 ·rcases k with k|⟨x,d,rfl,rfl,k1,k2,k3⟩
  ·left
   cases a<;>cases b<;>simp only[dL]at h<;>cases c<;>simp only[dL]at k⊢
   ·obtain⟨a1,a2,a3,a4⟩:=h
    obtain⟨b1,b2,b3,b4⟩:=k;refine⟨b1.trans a1,b2.trans a2,An a3 b3,fun hv=>?_⟩
    obtain⟨c1,c2⟩:=a4 (by omega)
    obtain⟨d1,d2⟩:=b4 (by omega)
    exact⟨d1.trans c1,d2.trans c2⟩
   ·exact h.trans k
  ·cases a<;>simp only[dL]at h
   ·left;trivial
   ·obtain⟨a1,a2,a3,a4⟩:=h
    exact .inr ⟨_,d,rfl,rfl,a1.symm.trans k1,by rw[<-a2];exact k2,k3⟩
 ·rcases k with k|⟨y,d',k0,_⟩
  ·cases c<;>simp only[dL]at k
   ·left;trivial
   ·subst k;exact .inr ⟨x,d,rfl,rfl,h1,h2.mono hk,h3⟩
  ·cases k0
theorem b7.trans{E E' E'':Env}(h:b7 E E')(k:b7 E' E''):b7 E E'':=⟨bJ.trans h.1 k.1,fun o=>(h.2 o).trans k.1 (k.2 o)⟩
theorem bS.le{E E':Env}{o:Nat}{v:Value}(h:dQ E'.wF (E.st o) (E'.st o) (E.mu o) (E'.mu o)){p q:Shp->Prop}{p' q':FC->Prop}(hs:bS E o v p p')
  (hpq:∀x y,y.len=x.len->(E'.mu o).hd=(E.mu o).hd->x.ver<=y.ver->(y.ver=x.ver->E'.mu o=E.mu o/\y.rl=x.rl)->p x->q y)(hff:∀d,p' d->q' d:=by intros;trivial)
  (hlf:∀x d,x.len=d.slen->fO E'.wF (E.mu o).hd d->(∃d',cz 0 d.len d=some d')->p x->q' d:=by intros;trivial):bS E' o v q q':=by
 refine⟨hs.1,?_⟩
 have h2:=hs.2
 rcases h with h|⟨x,d,h3,h4,h5,h6,h7⟩
 ·cases hE:E.st o<;>cases hE':E'.st o<;>rw[hE]at h h2<;>rw[hE']at h<;>simp only[dL,OSt.on]at *
  ·exact hpq _ _ h.1 h.2.1 h.2.2.1 h.2.2.2 h2
  ·subst h;exact hff _ h2
 ·rw[h3]at h2
  rw[h4];exact hlf x d h5 h6 h7 h2
theorem qv{w:World}{hd v:Value}{n off m:Nat}{R:Nat->Value->Prop}(h:bE w hd n R)(hv:cA hd off m v)(hle:off+m<=n):bE w v m fun i u=>R (off+i) u:=by
 obtain⟨a,c,h1,h2,h3⟩:=h;rcases hv with⟨_,rfl,_,rfl⟩|⟨g,len,cap,ao,rfl,rfl,hc1,hc2,hao⟩
 ·exact⟨_,_,rfl,AE _,fun h0=>by omega⟩
 ·cases h1
  refine⟨_,_,rfl,hc2,fun h0=>?_⟩
  obtain⟨b,o2,h4,h5⟩:=h3 (by omega)
  cases h4;rw[hao (.inr (by omega))]
  exact⟨g,off,rfl,fun i hi=>by have:=h5 (off+i) (by omega);rwa[AK]at this⟩
theorem iN{α:Type}(l:List α)(off m i:Nat)(z:α)(h:i<m):((l.drop off).take m).getD i z=l.getD (off+i) z:=by
 simp[List.getD,h]
theorem bE.below{w:World}{v:Value}{n:Nat}{R R':Nat->Value->Prop}(h:bE w v n R)(hR:∀i u,i<n->R i u->R' i u):bE w v n R':=by
 obtain⟨a,c,hv,hle,hk⟩:=h;refine⟨a,c,hv,hle,fun h0=>?_⟩
 obtain⟨b,off,ha,hk⟩:=hk h0;exact⟨b,off,ha,fun i hi=>let⟨u,h1,h2⟩:=hk i hi;⟨u,h1,hR i u hi h2⟩⟩
theorem wl{l:Df}{n j:Nat}(h:j<n*2):dP (l.take n) j=dP l j:=by
 have:j / 2<n:=by omega
 simp[dP,List.getD,Au,this]
theorem Ys{w:World}{hd v:Value}{n m:Nat}{R:Nat->Value->Prop}(h:gh w hd n R)(hv:cA hd 0 m v)(hle:m<=n):gh w v m R:=by
 obtain⟨a,c,h1,h2,h3⟩:=h;rcases hv with⟨_,rfl,_,rfl⟩|⟨g,len,cap,ao,rfl,rfl,hc1,hc2,hao⟩
 ·exact⟨_,_,rfl,AE _,fun h0=>by omega⟩
 ·cases h1
  refine⟨_,_,rfl,hc2,fun h0=>?_⟩
  obtain⟨b,o2,h4,h5⟩:=h3 (by omega)
  cases h4;rw[hao (.inl rfl)];exact⟨g,0,rfl,fun i hi=>h5 i (by omega)⟩
theorem gh.below{w:World}{v:Value}{n:Nat}{R R':Nat->Value->Prop}(h:gh w v n R)(hR:∀i u,i<n*2->R i u->R' i u):gh w v n R':=by
 obtain⟨a,c,hv,hle,hk⟩:=h;refine⟨a,c,hv,hle,fun h0=>?_⟩
 obtain⟨b,off,ha,hk⟩:=hk h0;exact⟨b,off,ha,fun i hi=>let⟨u,h1,h2⟩:=hk i hi;⟨u,h1,hR i u hi h2⟩⟩
theorem OD{w:World}{hd v:Value}{d:FC}{off m:Nat}(h:fO w hd d)(hv:cA hd off m v)(hle:off+m<=d.slen)(hd':∃d',cz 0 d.len d=some d'):∃d',cz off m d=some d'/\fO w v d':=by
 have hs:∃a n c,v=.slice a n c/\n<=c:=by
  rcases hv with⟨_,rfl,_,_⟩|⟨g,len,cap,ao,_,rfl,_,hc2,_⟩
  ·exact⟨_,_,_,rfl,AE _⟩
  ·exact⟨_,_,_,rfl,hc2⟩
 have ln:∀{α:Type} (l:List α),off+m<=l.length->((l.drop off).take m).length=m:=fun l h=>by simp;omega
 obtain⟨_,h⟩:=h;obtain⟨d',hd'⟩:=hd';cases d with
 |int k n=>cases hd'
 |bool b=>cases hd'
 |str l=>cases hd'
 |ints k l =>
  refine⟨_,rfl,hs,?_⟩
  show bE _ _ _ _
  rw[ln l hle];exact(qv h hv hle).below fun i u hi hu=>by
   have e:=iN l off m i 0 hi
   rw[e];exact hu
 |bools l =>
  refine⟨_,rfl,hs,?_⟩
  show bE _ _ _ _
  rw[ln l hle];exact(qv h hv hle).below fun i u hi hu=>by
   have e:=iN l off m i false hi
   rw[e];exact hu
 |rows k l =>
  refine⟨_,rfl,hs,?_⟩
  show bE _ _ _ _
  rw[ln l hle];exact(qv h hv hle).below fun i u hi hu=>by
   have e:=iN l off m i [] hi
   rw[e];exact hu
 |r3 k l =>
  refine⟨_,rfl,hs,?_⟩
  show bE _ _ _ _
  rw[ln l hle];exact(qv h hv hle).below fun i u hi hu=>by
   have e:=iN l off m i [] hi
   rw[e];exact hu
 |r4 k l =>
  refine⟨_,rfl,hs,?_⟩
  show bE _ _ _ _
  rw[ln l hle];exact(qv h hv hle).below fun i u hi hu=>by
   have e:=iN l off m i [] hi
   rw[e];exact hu
 |p3 k l =>
  cases off with
  |succ off=>have:off+1+m<=0:=hle;omega
  |zero =>
   refine⟨_,rfl,hs,?_⟩
   show gh _ _ _ _
   have hle':0+m<=0:=hle
   rw[show(l.take m).length=m by rw[AS];omega]
   exact(Ys h hv (by omega)).below fun i u hi hu=>by
    rw[wl hi];exact hu
theorem ai.mono{E E':Env}(h:b7 E E'){c:SC}{v:Value}(hr:ai E c v):ai E' c v:=by
 obtain⟨hw,ho⟩:=h;cases c with
 |any=>trivial
 |und=>exact hr
 |int k n=>exact hr
 |bool b=>exact hr
 |str l=>exact hr
 |nil=>exact hr
 |own o=>exact bS.le (ho o) hr (fun x y _ h2 _ _ hp=>by rw[h2];exact hp) (fun d h=>h.mono hw) (fun x d _ h2 _ hp=>by rw[show v=_ from hp];exact h2)
 |pre o n=>exact bS.le (ho o) hr (fun x y h1 h2 _ _ hp=>by rw[h2,h1];exact hp) (fun d ⟨d',h1,h2⟩=>⟨d',h1,h2.mono hw⟩) (fun x d h1 h2 h3 hp=>OD h2 hp.2 (by have:=hp.1;omega) h3)
 |sub o off n=>exact bS.le (ho o) hr (fun x y h1 h2 _ _ hp=>by rw[h2,h1];exact hp) (fun d ⟨d',h1,h2⟩=>⟨d',h1,h2.mono hw⟩) (fun x d h1 h2 h3 hp=>OD h2 hp.2 (by have:=hp.1;omega) h3)
 |ptr o i=>exact bS.le (ho o) hr fun x y h1 h2 _ _ hp=>by rw[h2,h1];exact hp
 |row o ver i=>exact bS.le (ho o) hr fun x y h1 h2 h3 h4 hp=>⟨by omega,fun e=>by
   have hv:y.ver=x.ver:=by omega
   obtain⟨h5,h6⟩:=h4 hv;rw[h5,h1];exact hp.2 (by omega)⟩
 |rptr o ver i j=>exact bS.le (ho o) hr fun x y h1 h2 h3 h4 hp=>⟨by omega,fun e=>by
   have hv:y.ver=x.ver:=by omega
   obtain⟨h5,h6⟩:=h4 hv;rw[h5,h6,h1];exact hp.2 (by omega)⟩
 |ro d=>exact⟨hr.1,hr.2.mono hw⟩
 |rop d i=>obtain⟨b,off,fc,u,h1,h2,h3,h4⟩:=hr;exact⟨b,off,fc,u,h1,h2,hw _ _ h3,h4.mono hw⟩
 |fnc P F=>exact gj.mono hw hr
 |rbf P F=>obtain⟨b,off,u,h1,h0,h2⟩:=hr;exact⟨b,off,u,h1,hw _ _ h0,gj.mono hw h2⟩
 |pr x y=>exact hr
 |pptr o i=>exact bS.le (ho o) hr fun x y h1 h2 _ _ hp=>by rw[h2];exact hp
 |rbb cs=>obtain⟨b,off,b2,off2,h1,h0,h2⟩:=hr;exact⟨b,off,b2,off2,h1,hw _ _ h0,fun j fc hj=>let⟨u,h3,h4⟩:=h2 j fc hj;⟨u,hw _ _ h3,h4.mono hw⟩⟩
 |rob cs i=>obtain⟨b,off,h1,h2⟩:=hr;exact⟨b,off,h1,fun j fc hj=>let⟨u,h3,h4⟩:=h2 j fc hj;⟨u,hw _ _ h3,h4.mono hw⟩⟩
 |nilq b=>exact hr
 |emp=>exact hr
 |qptr o i=>exact bS.le (ho o) hr fun x y h1 h2 _ _ hp=>by rw[h2,h1];exact hp
 |bsl o n=>exact bS.le (ho o) hr fun x y h1 h2 _ _ hp=>by rw[h2,h1];exact hp
 |kid o ver p=>exact bS.le (ho o) hr fun x y h1 h2 h3 h4 hp=>⟨by omega,fun e=>by
   have hv:y.ver=x.ver:=by omega
   rw[(h4 hv).1];exact hp.2 (by omega)⟩
 |kptr o ver p j=>exact bS.le (ho o) hr fun x y h1 h2 h3 h4 hp=>⟨by omega,fun e=>by
   have hv:y.ver=x.ver:=by omega
   rw[(h4 hv).1];exact hp.2 (by omega)⟩
 |orig o j d =>
  refine⟨⟨hr.1.1,hr.1.2.mono hw⟩,bS.le (ho o) hr.2 fun x y h1 h2 h3 h4 hp e=>?_⟩
  have hv:y.ver=x.ver:=by omega
  rw[(h4 hv).1];exact hp (by omega)
theorem c9.mono{E E':Env}(h:b7 E E'){cs:List SC}{arr:Array Value}(hr:c9 E cs arr):c9 E' cs arr :=
 ⟨hr.1,fun i c hi=>let⟨u,h1,h2,h3⟩:=hr.2 i c hi;⟨u,h1,h2,h3.mono h⟩⟩
theorem wk.mono{E E':Env}(h:b7 E E'){c:SC ⊕ List SC}{v:Value}(hr:wk E c v):wk E' c v:=by
 cases c with
 |inl c=>exact⟨hr.1,hr.2.mono h⟩
 |inr cs=>exact let⟨arr,h1,h2⟩:=hr;⟨arr,h1,h2.mono h⟩
theorem aw.mono{P:Program}{E E':Env}(h:b7 E E'){c:SV}{v:Value}(hr:aw P E c v):aw P E' c v:=by
 cases c with
 |c x=>exact ai.mono h hr
 |agg l=>exact let⟨arr,h1,h2⟩:=hr;⟨arr,h1,h2.mono h⟩
 |fn f l=>exact let⟨arr,h1,h2⟩:=hr;⟨arr,h1,h2.mono h⟩
 |fv F=>exact gj.mono h.1 hr
 |fvs o F=>exact bS.le (h.2 o) hr fun x y _ h2 _ _ ⟨b,hp1,hp2⟩=>⟨b,by rw[h2];exact hp1,hp2.mono h.1⟩
 |tup l=>exact let⟨arr,h1,h2,h3⟩:=hr;⟨arr,h1,h2,fun i c hi=>let⟨u,h4,h5⟩:=h3 i c hi;⟨u,h4,h5.mono h⟩⟩
theorem dY{w w':World}{B e size n:Nat}{v:Value}{xs:List Value}(h:w.ownsRow B e size v n xs)
  (hk:∀b,ac v=some b->w'.heap[b]?=w.heap[b]?):w'.ownsRow B e size v n xs:=by
 refine⟨h.1,?_⟩
 rcases h.2 with h2|⟨g,cap,cur,hv,hb,hg,r⟩
 ·exact .inl h2
 ·exact .inr ⟨g,cap,cur,hv,hb,by rw[hk g (by rw[hv];rfl)];exact hg,r⟩
theorem hZ{w:World}{B e size n:Nat}{v:Value}{xs:List Value}(h:w.ownsRow B e size v n xs) :
  ∀b,ac v=some b->B<=b/\b<w.heap.size:=by
 intro b hb
 rcases h.2 with⟨h2,_⟩|⟨g,cap,cur,hv,hB,hg,r⟩
 ·subst h2;simp[ac]at hb
 ·subst hv;simp[ac]at hb;subst hb
  exact⟨hB,(A5.1 hg).1⟩
theorem cD{m:Img}{b:Nat}(h:ac m.hd=some b):b∈m.blocks:=by simp[Img.blocks,h]
theorem oG{m:Img}{b i:Nat}{v:Value}(hi:m.ins[i]?=some v)(h:ac v=some b):b∈m.blocks:=by
 simp only[Img.blocks,AL,Ar];exact .inr ⟨v,AI hi,h⟩
theorem Yt{w w':World}{v:Value}{xs:List Value}(h:mO w v xs)(hk:∀b,ac v=some b->w'.heap[b]?=w.heap[b]?):mO w' v xs:=by
 rcases h with h|⟨g,off,cap,rfl,h2,h3,h4,h5,h6⟩
 ·exact .inl h
 ·have hg:=hk g rfl
  have hc:∀i,w'.cell? ⟨g,i,none⟩=w.cell? ⟨g,i,none⟩:=fun i=>by simp only[World.cell?,hg]
  have hf:∀i,w'.frozen? ⟨g,i,none⟩=w.frozen? ⟨g,i,none⟩:=fun i=>by simp only[World.frozen?,hg]
  refine .inr ⟨g,off,cap,rfl,h2,h3,?_,fun j hj=>by rw[hc,hf];exact h5 j hj,fun i u hu=>by rw[hc];exact h6 i u hu⟩
  rw[Bk h4]at hg;exact(A5.1 hg).1
theorem jN.keep{w w':World}{m:Img}{e ei:TypeId}{k:IntKind}{l:Dc}{hs:List Nat}(h:jN w m e ei k l hs)(hk:∀b∈m.blocks,w'.heap[b]?=w.heap[b]?):jN w' m e ei k l hs:=by
 obtain⟨h1,⟨vs,h2,h3⟩,h4⟩:=h;refine⟨h1,⟨vs,dY h2 fun b hb=>hk b (cD hb),h3⟩,fun i v r hi hr=>⟨(h4 i v r hi hr).1,fun hn=>?_⟩⟩
 exact dY ((h4 i v r hi hr).2 hn) fun b hb=>hk b (oG hi hb)
theorem dE{n:Nat}{nd:Value}{b:Nat}:b∈aW (n+1) nd↔ac (aK nd)=some b\/∃u∈bo nd,b∈aW n u:=by
 simp only[aW,hU,Ar,AH,Ao]
 constructor
 ·rintro⟨v,rfl|⟨u,hu,hv⟩,hb⟩
  ·exact .inl hb
  ·exact .inr ⟨u,hu,v,hv,hb⟩
 ·rintro(hb|⟨u,hu,v,hv,hb⟩)
  ·exact⟨_,.inl rfl,hb⟩
  ·exact⟨v,.inr ⟨u,hu,hv⟩,hb⟩
theorem dM(n:Nat)(nd:Value):aW (n+1) nd=(ac (aK nd)).toList++(bo nd).flatMap (aW n):=by
 have:((bo nd).flatMap (hU n)).filterMap ac=(bo nd).flatMap (aW n):=by
  induction bo nd with
  |nil=>rfl
  |cons u l ih=>rw[Ba,C9,ih,Ba];rfl
 rw[aW,hU,Az,<-this];cases ac (aK nd)<;>rfl
theorem lH{d:FC}{n:Nat}(h:d.dep=n+1)(i:Nat):∃x,cX d i=some x/\x.dep=n:=by
 cases d<;>simp only[FC.dep]at h<;>first|omega|exact⟨_,rfl,by simp only[FC.dep];omega⟩
theorem eF(hd:Value)(ks:List Value):aK (bu hd ks)=hd:=rfl
theorem cY(hd:Value)(ks:List Value):bo (bu hd ks)=ks:=rfl
theorem kH{nd:Value}(h:nd=bu (aK nd) []):bo nd=[]:=by rw[h];rfl
theorem br.keep{w w':World}:∀{es:List TypeId} {nd:Value} {d:FC},br w es nd d->(∀b∈aW es.length nd,w'.heap[b]?=w.heap[b]?)->br w' es nd d
 | [],_,_,h,_=>False.elim h
 | [_],_,_,⟨h1,k,l,h2,h3⟩,hk=>⟨h1,k,l,h2,dY h3 fun b hb=>hk b (dE.2 (.inl hb))⟩
 |_::e2::es,_,_,⟨h1,h2,h3,h4⟩,hk=>⟨h1,h2,dY h3 fun b hb=>hk b (dE.2 (.inl hb)),fun i u x hu hx =>
   br.keep (es:=e2::es) (h4 i u x hu hx) fun b hb=>hk b (dE.2 (.inr ⟨u,AI hu,hb⟩))⟩
theorem br.block{w:World}:∀{es:List TypeId} {nd:Value} {d:FC},br w es nd d->∀b∈aW es.length nd,b<w.heap.size
 | [],_,_,h,_,_=>False.elim h
 | [_],nd,_,⟨h1,k,l,h2,h3⟩,b,hb=>by
  rcases dE.1 hb with hb|⟨u,hu,_⟩
  ·exact(hZ h3 b hb).2
  ·rw[kH h1]at hu;simp at hu
 |_::e2::es,nd,_,⟨h1,h2,h3,h4⟩,b,hb=>by
  rcases dE.1 hb with hb|⟨u,hu,hb⟩
  ·exact(hZ h3 b hb).2
  ·obtain⟨i,hi⟩:=Ah hu
   obtain⟨x,hx,_⟩:=lH h2 i;exact br.block (es:=e2::es) (h4 i u x hi hx) b hb
theorem br.nd{w:World}:∀{es:List TypeId} {nd:Value} {d:FC},br w es nd d->nd=bu (aK nd) (bo nd)/\es≠[]
 | [],_,_,h=>False.elim h
 | [_],nd,_,⟨h1,_⟩=>⟨by rw[kH h1];exact h1,by simp⟩
 |_::_::_,_,_,⟨h1,_⟩=>⟨h1,by simp⟩
theorem OE{n:Nat}{nd:Value}(h:nd=bu (aK nd) (bo nd))(hn:n≠0):(dw n nd).blocks=aW n nd:=by
 obtain⟨n,rfl⟩:∃m,n=m+1:=⟨n-1,by omega⟩
 have hb:ac nd=none:=by rw[h];rfl
 simp only[Img.blocks,dw,aW,hU,List.tail_cons,Az,hb];cases ac (aK nd)<;>rfl
theorem ef{w:World}{es:List TypeId}{nd:Value}{d:FC}(h:br w es nd d):(dw es.length nd).blocks=aW es.length nd :=
 OE h.nd.1 (by intro hc;exact h.nd.2 (BJ hc))
theorem ji.keep{w w':World}{n:Nat}:∀{es:List TypeId} {nd:Value} {d:FC},ji w n es nd d->(∀b∈aW es.length nd,w'.heap[b]?=w.heap[b]?)->ji w' n es nd d
 | [],_,_,h,_=>False.elim h
 | [_],_,_,h,_=>False.elim h
 |_::e2::es,_,_,⟨h1,h2,h3,⟨vs,h4,h5⟩,h6⟩,hk=>⟨h1,h2,h3,⟨vs,dY h4 fun b hb=>hk b (dE.2 (.inl hb)),h5⟩,fun i u x hu hx =>
   (h6 i u x hu hx).keep fun b hb=>hk b (dE.2 (.inr ⟨u,AI hu,hb⟩))⟩
theorem ji.block{w:World}{n:Nat}:∀{es:List TypeId} {nd:Value} {d:FC},ji w n es nd d->∀b∈aW es.length nd,b<w.heap.size
 | [],_,_,h,_,_=>False.elim h
 | [_],_,_,h,_,_=>False.elim h
 |_::e2::es,nd,_,⟨h1,h2,h3,⟨vs,h4,h5⟩,h6⟩,b,hb=>by
  rcases dE.1 hb with hb|⟨u,hu,hb⟩
  ·exact(hZ h4 b hb).2
  ·obtain⟨i,hi⟩:=Ah hu
   obtain⟨x,hx,_⟩:=lH h2 (n+i);exact(h6 i u x hi hx).block b hb
theorem wm{w:World}{n:Nat}{es:List TypeId}{nd:Value}{d:FC}(h:ji w n es nd d):(dw es.length nd).blocks=aW es.length nd :=
 match es,h with
 |_::_::_,⟨h1,_⟩=>OE h1 (by simp)
theorem br.k{w:World}{e e2:TypeId}{es:List TypeId}{nd:Value}{d:FC}(h:br w (e::e2::es) nd d):ji w 0 (e::e2::es) nd d:=by
 obtain⟨h1,h2,h3,h4⟩:=h;refine⟨h1,h2,?_,⟨_,h3,fun i u hu=>?_⟩,fun i u x hu hx=>h4 i u x hu (by rw[AK]at hx;exact hx)⟩
 ·have:=h3.1
  rw[Ae]at this;exact this
 ·rw[AK,Aj,hu];rfl
theorem aR.keep{E E':Env}(hE:b7 E E'){w w':World}{m:Img}{ob:Ob}(h:aR E w m ob)
  (hk:∀b∈m.blocks,w'.heap[b]?=w.heap[b]?):aR E' w' m ob:=by
 cases ob with
 |box cs =>
  obtain⟨b,arr,t,h1,h2,h4,h5⟩:=h;exact⟨b,arr,t,h1,h2,by rw[hk b (cD (by rw[h1];rfl))];exact h4,h5.mono hE⟩
 |bx cs =>
  obtain⟨b,arr,t,h1,h2,h4,h5⟩:=h;exact⟨b,arr,t,h1,h2,by rw[hk b (cD (by rw[h1];rfl))];exact h4,h5⟩
 |ints e k l=>exact⟨h.1,dY h.2 fun b hb=>hk b (cD hb)⟩
 |bools e l=>exact⟨h.1,dY h.2 fun b hb=>hk b (cD hb)⟩
 |strs e l=>exact⟨h.1,dY h.2 fun b hb=>hk b (cD hb)⟩
 |rows ver e ei k l =>
  obtain⟨h1,h2,h3⟩:=h;refine⟨dY h1 fun b hb=>hk b (cD hb),h2,fun i v r hi hr=>?_⟩
  exact dY (h3 i v r hi hr) fun b hb=>hk b (oG hi hb)
 |lst ver e d =>
  obtain⟨h1,vs,h2,h3⟩:=h;exact⟨h1,vs,dY h2 fun b hb=>hk b (cD hb),fun i u hi=>let⟨h4,fc,h5,h6⟩:=h3 i u hi;⟨h4,fc,h5,h6.mono hE.1⟩⟩
 |frz d=>exact h
 |mp l =>
  obtain⟨h1,b,es,ck,h2,h3,h4⟩:=h;exact⟨h1,b,es,ck,h2,by rw[hk b (cD (by rw[h2];rfl))];exact h3,h4⟩
 |qu e k l=>exact⟨h.1,Yt h.2 fun b hb=>hk b (cD hb)⟩
 |rowsH ver e ei k l hs=>exact jN.keep h hk
 |tr ver es d =>
  obtain⟨nd,rfl,h2⟩:=h;exact⟨nd,rfl,h2.keep fun b hb=>hk b (by rw[ef h2];exact hb)⟩
 |trk ver es d n =>
  obtain⟨nd,rfl,h2⟩:=h;exact⟨nd,rfl,h2.keep fun b hb=>hk b (by rw[wm h2];exact hb)⟩
 |yd yv Y pre b =>
  obtain⟨h1,h2,h3,h4⟩:=h;refine⟨h1,h2.trans hE.1,Y.loc pre b w w' _ h3 hk,fun k hkm=>?_⟩
  have h5:=h4 k hkm
  have h6:=hk k hkm
  rw[Bk h5]at h6;exact(A5.1 h6).1
theorem aR.block{E:Env}{w:World}{m:Img}{ob:Ob}(h:aR E w m ob):∀b∈m.blocks,b<w.heap.size:=by
 intro b hb
 have hb0:=hb
 simp only[Img.blocks,AL,Ar,BK]at hb;cases ob with
 |box cs =>
  obtain⟨g,arr,t,h1,h2,h4,h5⟩:=h;rcases hb with hb|⟨v,hv,hvb⟩
  ·rw[h1]at hb;simp[ac]at hb;subst hb;exact(A5.1 h4).1
  ·rw[h2 v hv]at hvb;cases hvb
 |bx cs =>
  obtain⟨g,arr,t,h1,h2,h4,h5⟩:=h;rcases hb with hb|⟨v,hv,hvb⟩
  ·rw[h1]at hb;simp[ac]at hb;subst hb;exact(A5.1 h4).1
  ·rw[h2 v hv]at hvb;cases hvb
 |ints e k l =>
  rcases hb with hb|⟨v,hv,_⟩
  ·exact(hZ h.2 b hb).2
  ·simp[h.1]at hv
 |bools e l =>
  rcases hb with hb|⟨v,hv,_⟩
  ·exact(hZ h.2 b hb).2
  ·simp[h.1]at hv
 |strs e l =>
  rcases hb with hb|⟨v,hv,_⟩
  ·exact(hZ h.2 b hb).2
  ·simp[h.1]at hv
 |rows ver e ei k l =>
  obtain⟨h1,h2,h3⟩:=h;rcases hb with hb|⟨v,hv,hb⟩
  ·exact(hZ h1 b hb).2
  ·obtain⟨i,hi⟩:=Ah hv
   have ψ:i<l.length:=by rw[<-h2];exact(AJ.1 hi).1
   exact(hZ (h3 i v _ hi (AF ψ)) b hb).2
 |lst ver e d =>
  obtain⟨h1,vs,h2,_⟩:=h;rcases hb with hb|⟨v,hv,_⟩
  ·exact(hZ h2 b hb).2
  ·simp[h1]at hv
 |mp l =>
  obtain⟨h1,g,es,ck,h2,h3,h4⟩:=h;rcases hb with hb|⟨v,hv,_⟩
  ·rw[h2]at hb;simp[ac]at hb;subst hb;exact(A5.1 h3).1
  ·simp[h1]at hv
 |rowsH ver e ei k l hs =>
  obtain⟨h1,⟨vs,h2,_⟩,h4⟩:=h;rcases hb with hb|⟨v,hv,hb⟩
  ·exact(hZ h2 b hb).2
  ·obtain⟨i,hi⟩:=Ah hv
   have ψ:i<l.length:=by rw[<-h1];exact(AJ.1 hi).1
   obtain⟨h5,h6⟩:=h4 i v _ hi (AF ψ);by_cases hm:i∈hs
   ·rw[h5 hm]at hb;cases hb
   ·exact(hZ (h6 hm) b hb).2
 |qu e k l =>
  obtain⟨h1,h2⟩:=h;rcases hb with hb|⟨v,hv,_⟩
  ·rcases h2 with⟨h2,_⟩|⟨g,off,cap,h2,_,_,h3,_⟩
   ·rw[h2]at hb;simp[ac]at hb
   ·rw[h2]at hb;simp[ac]at hb;subst hb;exact h3
  ·simp[h1]at hv
 |tr ver es d =>
  obtain⟨nd,rfl,h2⟩:=h;rw[ef h2]at hb0;exact h2.block b hb0
 |trk ver es d n =>
  obtain⟨nd,rfl,h2⟩:=h;rw[wm h2]at hb0;exact h2.block b hb0
 |yd yv Y pre g=>exact h.2.2.2 b hb0
 |frz d =>
  have h:m.blocks=[]:=h
  have:b∈m.blocks:=by simp only[Img.blocks,AL,Ar,BK];exact hb
  rw[h]at this;cases this
theorem cell_lt'{w:World}{p:Addr}{u:Value}(h:w.cell? p=some u):p.block<w.heap.size:=World.block_lt_of_cell? w _ h
section
variable {C:Cx} {σ σ':State} {mu mu':Nat->Img} {a a':Act} {w w':World}
theorem St.updG(h:St C σ mu a w)(S:Nat->Prop){wG:World}(hos:OsD w w')(htape:w'.tape=w.tape)(hout:w'.output=w.output)(hsize:w.heap.size<=w'.heap.size)
  (hS0:∀b,S b->∃o ob,σ.H o=some (some ob)/\b∈(mu o).blocks)(hkeep:∀b,b<w.heap.size->¬ S b->w'.heap[b]?=w.heap[b]?)
  (hG:bJ C.wF wG)(hG2:∀p u,wG.cell? p=some u->C.wF.cell? p=some u\/(w'.cell? p=some u/\∀o ob,σ'.H o=some (some ob)->p.block ∉ (mu' o).blocks))
  (hle:∀o,dQ wG (σ.ost o) (σ'.ost o) (mu o) (mu' o))
  (hob:∀o ob,σ'.H o=some (some ob)->(σ.H o=some (some ob)/\mu' o=mu o/\∀b∈(mu o).blocks,¬ S b) \/
   (aR (σ'.env wG mu') w' (mu' o) ob/\(mu' o).blocks.Nodup/\(∀b∈(mu' o).blocks,S b\/w.heap.size<=b) /\
    ∀o' ob',o≠o'->σ'.H o'=some (some ob')->(σ.H o'=some (some ob')/\mu' o'=mu o'/\∀b∈(mu o').blocks,¬ S b)\/∀b∈(mu' o).blocks,b ∉ (mu' o').blocks))
  (hsz:a'.tmps.size=C.N)(hdf:a'.defers=a.defers)
  (hfr:∀t sv,σ'.F t=some sv->(σ.F t=some sv/\a'.tmps.getD t undef=a.tmps.getD t undef)\/aw C.P (σ'.env wG mu') sv (a'.tmps.getD t undef)) :
  St (C.fz wG) σ' mu' a' w':=by
 have hE:b7 (σ.env C.wF mu) (σ'.env wG mu'):=⟨hG,hle⟩
 have hbl:∀o ob,σ.H o=some (some ob)->∀b∈(mu o).blocks,b<w.heap.size:=fun o ob ho=>(h.ob o ob ho).block
 have hS1:∀b,S b->C.M b\/C.w0.heap.size<=b:=fun b hb=>by
  obtain⟨o,ob,h1,h2⟩:=hS0 b hb;exact(h.nd o ob h1).2 b h2
 have hkb:∀k,k<C.w0.heap.size->¬ C.M k->w'.heap[k]?=w.heap[k]?:=fun k hk hm =>
  hkeep k (Nat.lt_of_lt_of_le hk h.size) (fun hs=>by rcases hS1 k hs with h1|h1<;>first|exact hm h1|omega)
 have hMk:kG C.w0.heap.size σ' mu' a'.defers w':=by
  obtain⟨rs,k1,k2,k3⟩:=h.df;rw[hdf];refine⟨rs,k1,k2,fun r hr=>?_⟩
  obtain⟨q1,q2,q3⟩:=k3 r hr;have ψ:=(A5.1 q2).1
  have hS:¬ S r:=fun hs=>by
   obtain⟨o,ob,z1,z2⟩:=hS0 r hs;exact q3 o ob z1 z2
  refine⟨q1,(hkeep r ψ hS).trans q2,fun o ob ho hb=>?_⟩
  rcases hob o ob ho with⟨z1,z2,_⟩|⟨_,_,z2,_⟩
  ·rw[z2]at hb;exact q3 o ob z1 hb
  ·rcases z2 r hb with z3|z3
   ·exact hS z3
   ·omega
 refine⟨hos.trans h.os,htape.trans h.tape,hout.trans h.output,An h.size hsize,fun k hk hm=>?_,fun p u hp=>?_,hsz,hMk,?_,?_,?_,?_,?_⟩
 ·show w'.heap[k]?=C.w0.heap[k]?
  rw[hkb k hk hm];exact h.block k hk hm
 ·rcases hG2 p u hp with hp|⟨h1,h2⟩
  ·obtain⟨h1,h2⟩:=h.cells p u hp
   have hn:¬ S p.block:=fun hs=>by
    obtain⟨o,ob,h3,h4⟩:=hS0 _ hs;exact h1 o ob h3 h4
   have ψ:=cell_lt' h2
   refine⟨fun o ob ho hb=>?_,(World.cell?_of_block (hkeep _ ψ hn)).trans h2⟩
   rcases hob o ob ho with⟨h3,h4,_⟩|⟨_,_,h3,_⟩
   ·rw[h4]at hb;exact h1 o ob h3 hb
   ·rcases h3 _ hb with h4|h4
    ·exact hn h4
    ·omega
  ·exact⟨h2,h1⟩
 ·intro t sv ht
  rcases hfr t sv ht with⟨h1,h2⟩|h1
  ·rw[h2];exact(h.fr t sv h1).mono hE
  ·exact h1
 ·intro o ob ho
  rcases hob o ob ho with⟨h1,h2,h3⟩|⟨h1,_⟩
  ·rw[h2];exact(h.ob o ob h1).keep hE fun b hb=>hkeep b (hbl o ob h1 b hb) (h3 b hb)
  ·exact h1
 ·intro o ob ho
  rcases hob o ob ho with⟨h1,h2,h3⟩|⟨_,h1,h2,_⟩
  ·rw[h2];exact h.nd o ob h1
  ·exact⟨h1,fun b hb=>by
    rcases h2 b hb with hs|hs
    ·exact hS1 b hs
    ·exact .inr (An h.size hs)⟩
 ·intro o o' ob ob' hne ho ho' b hb hb'
  rcases hob o ob ho with⟨h1,h2,h3⟩|⟨_,_,h1,h2⟩
  ·rcases hob o' ob' ho' with⟨k1,k2,k3⟩|⟨_,_,k1,k2⟩
   ·rw[h2]at hb;rw[k2]at hb'
    exact h.sep o o' ob ob' hne h1 k1 b hb hb'
   ·rw[h2]at hb
    rcases k1 b hb' with hs|hs
    ·exact h3 b hb hs
    ·have:=hbl o ob h1 b hb;omega
  ·rcases h2 o' ob' hne ho' with⟨k1,k2,k3⟩|k1
   ·rw[k2]at hb'
    rcases h1 b hb with hs|hs
    ·exact k3 b hb' hs
    ·have:=hbl o' ob' k1 b hb';omega
   ·exact k1 b hb hb'
 ·intro o m hp
  have h1:=h.pins o m hp
  rcases hle o with h2|⟨x,d,_,h3,_⟩
  ·cases hs:σ.ost o with
   |absent=>rw[hs]at h1;exact h1.elim
   |dead =>
    rw[hs]at h2;cases hs':σ'.ost o<;>rw[hs']at h2<;>first|trivial|exact h2.elim
   |frz d =>
    rw[hs]at h2;cases hs':σ'.ost o<;>rw[hs']at h2<;>first|trivial|exact h2.elim
   |live x =>
    rw[hs]at h1 h2;cases hs':σ'.ost o with
    |absent=>rw[hs']at h2;exact h2.elim
    |dead=>trivial
    |frz d=>trivial
    |live y =>
     rw[hs']at h2;obtain⟨k1,k2,k3,k4⟩:=h2;refine⟨k2.trans h1.1,fun hv=>?_⟩
     rw[(k4 (by omega)).1]
     exact h1.2 (by omega)
  ·rw[h3];trivial
theorem St.upd(h:St C σ mu a w)(S:Nat->Prop)(hos:OsD w w')(htape:w'.tape=w.tape)(hout:w'.output=w.output)(hsize:w.heap.size<=w'.heap.size)
  (hS0:∀b,S b->∃o ob,σ.H o=some (some ob)/\b∈(mu o).blocks)(hkeep:∀b,b<w.heap.size->¬ S b->w'.heap[b]?=w.heap[b]?)
  (hle:∀o,dL (σ.ost o) (σ'.ost o) (mu o) (mu' o))
  (hob:∀o ob,σ'.H o=some (some ob)->(σ.H o=some (some ob)/\mu' o=mu o/\∀b∈(mu o).blocks,¬ S b) \/
   (aR (σ'.env C.wF mu') w' (mu' o) ob/\(mu' o).blocks.Nodup/\(∀b∈(mu' o).blocks,S b\/w.heap.size<=b) /\
    ∀o' ob',o≠o'->σ'.H o'=some (some ob')->(σ.H o'=some (some ob')/\mu' o'=mu o'/\∀b∈(mu o').blocks,¬ S b)\/∀b∈(mu' o).blocks,b ∉ (mu' o').blocks))
  (hsz:a'.tmps.size=C.N)(hdf:a'.defers=a.defers)
  (hfr:∀t sv,σ'.F t=some sv->(σ.F t=some sv/\a'.tmps.getD t undef=a.tmps.getD t undef)\/aw C.P (σ'.env C.wF mu') sv (a'.tmps.getD t undef)) :
  St C σ' mu' a' w' :=
 h.updG S hos htape hout hsize hS0 hkeep (fun _ _ h=>h) (fun _ _ h=>.inl h) (fun o=>.inl (hle o)) hob hsz hdf hfr
end
end Go.Sx
end
section
namespace Go.Sx
open Go.RowKit
def fQ:FC->Nat->FC->Option FC
 |.rows k l,i,.ints k' x=>if k=k' then some (.rows k (l.set i x))else none
 |.r3 k l,i,.rows k' x=>if k=k' then some (.r3 k (l.set i x))else none
 |.r4 k l,i,.r3 k' x=>if k=k' then some (.r4 k (l.set i x))else none
 |.p3 k l,i,.rows k' x=>if k=k' then some (.p3 k (lF l i x))else none
 |_,_,_=>none
def jj:FC->List Nat->Option FC
 |d,[]=>some d
 |d,i::p=>match cX d i with
  |some x=>jj x p
  |none=>none
def mP:FC->List Nat->FC->Option FC
 |_,[],x=>some x
 |d,i::p,x=>match cX d i with
  |some y=>match mP y p x with
   |some y'=>fQ d i y'
   |none=>none
  |none=>none
def ia:Value->List Nat->Value->Value
 |_,[],u'=>u'
 |nd,i::p,u'=>match(bo nd)[i]? with
  |some u=>bu (aK nd) ((bo nd).set i (ia u p u'))
  |none=>nd
def gN:List Nat->List Nat->Bool
 | [],[]=>true
 |a::l,b::m=>Nat.beq a b&&gN l m
 |_,_=>false
theorem jk:∀{l m:List Nat},gN l m=true->l=m
 | [],[],_=>rfl
 | [],_::_,h=>by simp[gN]at h
 |_::_,[],h=>by simp[gN]at h
 |a::l,b::m,h=>by
  simp only[gN,AG]at h;rw[AX h.1,jk h.2]
theorem jO{w:World}{e e2:TypeId}{es:List TypeId}{nd:Value}{d:FC}(h:br w (e::e2::es) nd d):(bo nd).length=d.cn:=by
 have:=h.2.2.1.1
 rw[Ae]at this;exact this
theorem br.at{w:World}:∀{p:List Nat} {es:List TypeId} {nd u:Value} {d:FC},br w es nd d->eE nd p=some u ->
  ∃x,jj d p=some x/\br w (es.drop p.length) u x/\∀b∈aW (es.drop p.length).length u,b∈aW es.length nd
 | [],es,nd,u,d,h,hu=>by
  cases hu;exact⟨d,rfl,h,fun b hb=>hb⟩
 |i::p,[],nd,u,d,h,hu=>False.elim h
 |i::p,[e],nd,u,d,h,hu=>by
  simp only[eE,kH h.1]at hu;simp at hu
 |i::p,e::e2::es,nd,u,d,⟨h1,h2,h3,h4⟩,hu=>by
  simp only[eE]at hu;split at hu
  ·rename_i v hv
   obtain⟨x0,hx0,_⟩:=lH h2 i;obtain⟨x,k1,k2,k3⟩:=br.at (p:=p) (es:=e2::es) (h4 i v x0 hv hx0) hu;refine⟨x,by simp only[jj,hx0];exact k1,k2,fun b hb=>dE.2 (.inr ⟨v,AI hv,k3 b hb⟩)⟩
  ·cases hu
theorem Gl{d d' x:FC}{i:Nat}(h:fQ d i x=some d'):d'.dep=d.dep/\d'.len=d.len/\d'.wid=d.wid:=by
 cases d<;>cases x<;>simp only[fQ,reduceCtorEq]at h
 all_goals
  split at h
  ·cases h;exact⟨rfl,by simp[FC.len,lF],rfl⟩
  ·cases h
theorem OF{l:Df}{i j:Nat}{x:Dc}:(j=i->i<l.length*2->dP (lF l i x) j=x)/\(j≠i->dP (lF l i x) j=dP l j):=by
 constructor
 ·rintro rfl hi
  have hl:j / 2<l.length:=by omega
  simp only[dP,lF,List.getD,Av,AV,hl];split<;>rfl
 ·intro hne
  by_cases h2:j / 2=i / 2
  ·by_cases hl:i / 2<l.length
   ·simp only[dP,lF,List.getD,h2,Av,AV,hl]
    by_cases hj:j % 2=0
    ·have hi:¬ i % 2=0:=by omega
     simp[hj,hi]
    ·have hi:i % 2=0:=by omega
     simp[hj,hi]
   ·rw[lF,List.set_eq_of_length_le (by omega)]
  ·simp[dP,lF,List.getD,BQ (AO h2)]
theorem wn{d d' x:FC}{i j:Nat}(h:fQ d i x=some d'):(j=i->i<d.cn->cX d' j=some x)/\(j≠i->cX d' j=cX d j):=by
 cases d<;>cases x<;>simp only[fQ,reduceCtorEq]at h
 all_goals
  split at h
  ·rename_i hk
   subst hk;cases h;refine⟨fun e hi=>?_,fun e=>?_⟩
   ·subst e
    first
    |(rw[cX,OF.1 rfl hi];done)
    | (simp only[FC.cn,FC.len,FC.wid,Nat.mul_one]at hi
       simp[cX,List.getD,hi])
   ·first
    |(rw[cX,cX,OF.2 e];done)
    |simp[cX,List.getD,BQ (AO e)]
  ·cases h
theorem OG{α:Type}{f:α->List Nat}{A:List Nat}{l:List α}{i:Nat}{v v':α}(h:(A++l.flatMap f).Nodup)(hi:l[i]?=some v)(h1:(f v').Nodup)(h2:∀b∈f v',b∈f v\/b ∉ A++l.flatMap f) :
  (A++(l.set i v').flatMap f).Nodup/\(∀b∈(l.set i v').flatMap f,b∈l.flatMap f\/b∈f v')/\(∀b∈A,b ∉ f v)/\∀(j:Nat) (y:α),j≠i->l[j]?=some y->∀b∈f y,b ∉ f v:=by
 obtain⟨ψ,hv⟩:=AJ.1 hi;have e1:l=l.take i++v::l.drop (i+1):=by rw[<-hv];simp
 have e2:l.set i v'=l.take i++v'::l.drop (i+1):=List.set_eq_take_append_cons_drop.trans (AA ψ)
 have sep:∀(j:Nat) (y:α),j≠i->l[j]?=some y->y∈l.take i\/y∈l.drop (i+1):=fun j y hj hy=>by
  by_cases hji:j<i
  ·exact .inl (AI (i:=j) (by rw[Au,AA hji];exact hy))
  ·exact .inr (AI (i:=j-(i+1)) (by rw[A9,show i+1+(j-(i+1))=j by omega];exact hy))
 rw[e2];have h2':∀b∈f v',b∈f v\/b ∉ A++(l.take i++v::l.drop (i+1)).flatMap f:=fun b hb=>by rw[<-e1];exact h2 b hb
 have h3:(A++(l.take i++v::l.drop (i+1)).flatMap f).Nodup:=by rw[<-e1];exact h
 have h4:∀b,b∈(l.take i++v::l.drop (i+1)).flatMap f->b∈l.flatMap f:=fun b hb=>by rw[e1];exact hb
 clear h h2 e1 e2 hi hv;generalize l.take i=l1 at *
 generalize l.drop (i+1)=l2 at *
 simp only[Cy,Ba,Ak,AL]at h2' h3 h4⊢;obtain⟨a1,⟨a2,⟨a3,a4,a5⟩,a6⟩,a7⟩:=h3;refine⟨⟨a1,⟨a2,⟨h1,a4,fun b hb c hc e=>?_⟩,fun b hb c hc e=>?_⟩,fun b hb c hc e=>?_⟩,fun b hb=>?_,fun b hb hc=>a7 b hb b (.inr (.inl hc)) rfl,fun j y hj hy b hb hc=>?_⟩
 ·subst e
  rcases h2' b hb with k|k
  ·exact a5 b k b hc rfl
  ·exact k (.inr (.inr (.inr hc)))
 ·subst e
  rcases hc with hc|hc
  ·rcases h2' b hc with k|k
   ·exact a6 b hb b (.inl k) rfl
   ·exact k (.inr (.inl hb))
  ·exact a6 b hb b (.inr hc) rfl
 ·subst e
  rcases hc with hc|hc|hc
  ·exact a7 b hb b (.inl hc) rfl
  ·rcases h2' b hc with k|k
   ·exact a7 b hb b (.inr (.inl k)) rfl
   ·exact k (.inl hb)
  ·exact a7 b hb b (.inr (.inr hc)) rfl
 ·rcases hb with hb|hb|hb
  ·exact .inl (h4 b (.inl hb))
  ·exact .inr hb
  ·exact .inl (h4 b (.inr (.inr hb)))
 ·rcases sep j y hj hy with k|k
  ·exact a6 b (Ao.2 ⟨y,k,hb⟩) b (.inl hc) rfl
  ·exact a5 b hc b (Ao.2 ⟨y,k,hb⟩) rfl
theorem Gm{w w':World}:∀{p:List Nat} {es:List TypeId} {nd u u':Value} {d x' d':FC},br w es nd d->(aW es.length nd).Nodup->eE nd p=some u->mP d p x'=some d'->aK u'=aK u ->
  (∀b∈aW es.length nd,b ∉ aW (es.drop p.length).length u->w'.heap[b]?=w.heap[b]?)->br w' (es.drop p.length) u' x'->(aW (es.drop p.length).length u').Nodup ->
  (∀b∈aW (es.drop p.length).length u',b∈aW (es.drop p.length).length u\/b ∉ aW es.length nd) ->
  br w' es (ia nd p u') d'/\aK (ia nd p u')=aK nd/\(aW es.length (ia nd p u')).Nodup/\∀b∈aW es.length (ia nd p u'),b∈aW es.length nd\/b∈aW (es.drop p.length).length u'
 | [],es,nd,u,u',d,x',d',h,hn,hu,hp,hh,hk,ho,hn',hb=>by
  cases hu;cases hp;exact⟨ho,hh,hn',fun b hb=>.inr hb⟩
 |i::p,[],nd,u,u',d,x',d',h,hn,hu,hp,hh,hk,ho,hn',hb=>False.elim h
 |i::p,[e],nd,u,u',d,x',d',h,hn,hu,hp,hh,hk,ho,hn',hb=>by
  simp only[eE,kH h.1]at hu;simp at hu
 |i::p,e::e2::es,nd,u,u',d,x',d',h,hn,hu,hp,hh,hk,ho,hn',hb=>by
  have hl:=jO h
  obtain⟨h1,h2,h3,h4⟩:=h;simp only[eE]at hu;split at hu
  ·rename_i v hv
   obtain⟨x0,hx0,_⟩:=lH h2 i;simp only[mP,hx0]at hp;split at hp
   ·rename_i y' hy'
    have hv0:=h4 i v x0 hv hx0
    have sub:∀b∈aW (e2::es).length v,b∈aW (e::e2::es).length nd:=fun b hb=>dE.2 (.inr ⟨v,AI hv,hb⟩)
    obtain⟨_,_,_,subu⟩:=br.at hv0 hu;have hn0:((ac (aK nd)).toList++(bo nd).flatMap (aW (e2::es).length)).Nodup:=by
     have:=hn
     rw[AR,dM]at this;exact this
    have hnv:(aW (e2::es).length v).Nodup:=by
     have h9:=(Ak.1 hn0).2.1
     have h8:=Cw.1 h9
     exact h8.1 v (AI hv)
    obtain⟨k1,k2,k3,k4⟩:=Gm (p:=p) (es:=e2::es) hv0 hnv hu hy' hh (fun b hb hn=>hk b (sub b hb) hn) ho hn' (fun b hb1=>(hb b hb1).imp id fun hc hc2=>hc (sub b hc2))
    have l7:∀b∈aW (e2::es).length (ia v p u'),b∈aW (e2::es).length v\/b ∉ (ac (aK nd)).toList++(bo nd).flatMap (aW (e2::es).length):=fun b hb1=>by
     rcases k4 b hb1 with c|c
     ·exact .inl c
     ·rcases hb b c with c|c
      ·exact .inl (subu b c)
      ·refine .inr fun hc=>c ?_
       rw[AR,dM];exact hc
    obtain⟨n1,n2,n3,n4⟩:=OG hn0 hv k3 l7;have hil:i<d.cn:=by rw[<-hl];exact(AJ.1 hv).1
    obtain⟨p1,p2,p3⟩:=Gl hp;have hmap:((bo nd).set i (ia v p u')).map aK=(bo nd).map aK:=by
     rw[Bl,k2];apply BA
     intro x
     rw[Av];split
     ·rename_i hx
      subst hx;rw[AA (by rw[Ae];exact(AJ.1 hv).1),Aj,hv];rfl
     ·rfl
    have hset:ia nd (i::p) u'=bu (aK nd) ((bo nd).set i (ia v p u')):=by simp only[ia,hv]
    rw[hset];refine⟨⟨rfl,p1.trans h2,?_,fun j y x hj hx=>?_⟩,rfl,?_,fun b hb1=>?_⟩
    ·rw[eF,cY,hmap,p2,p3]
     exact dY h3 fun b hb1=>hk b (dE.2 (.inl hb1)) fun hc=>n3 b (by rw[hb1];simp) (subu b hc)
    ·rw[cY,Av]at hj
     split at hj
     ·rename_i hij
      subst hij;split at hj
      ·cases hj
       rw[(wn hp).1 rfl hil]at hx;cases hx;exact k1
      ·cases hj
     ·rename_i hij
      rw[(wn hp).2 (AO hij)]at hx;exact(h4 j y x hj hx).keep fun b hb1=>hk b (dE.2 (.inr ⟨y,AI hj,hb1⟩)) fun hc=>n4 j y (AO hij) hj b hb1 (subu b hc)
    ·rw[AR,dM]
     exact n1
    ·rcases dE.1 hb1 with c|c
     ·exact .inl (dE.2 (.inl c))
     ·rcases n2 b (by rw[cY]at c;exact Ao.2 c)with c|c
      ·exact .inl (dE.2 (.inr (Ao.1 c)))
      ·rcases k4 b c with c|c
       ·exact .inl (sub b c)
       ·exact .inr c
   ·cases hp
  ·cases hu
end Go.Sx
end
