/- CrcC -/
import Derived.Test.YtkmldclpaniclaaGreatMpgL
import Derived.Test.YtkmldclpaniclaaGreatMpgD
import Derived.Test.YtkmldclpaniclaaGreatTable
import Derived.Test.YtkmldclpaniclaaGreatGrp
import Derived.Test.YtkmldclpaniclaaGreatEqt
import Derived.Test.YtkmldclpaniclaaGreatCrcG
set_option linter.unusedSimpArgs false
set_option linter.unusedVariables false
set_option linter.defProp false
open Go Go.Proofs
namespace Go.Sx
theorem Kc(x:Int):∀(l:D1) (k:Int),0<=k->∀j:Nat,(j:Int)+k<aY x l k->l.getD j 0≠x
 | [],k,hk,j,h=>by simp[aY]at h;omega
 |y::l,k,hk,j,h=>by
  rw[aY]at h;by_cases e:y=x
  ·rw[AA e]at h;omega
  ·rw[AB e]at h
   cases j with
   |zero=>simpa using e
   |succ j =>
    rw[CX];exact Kc x l (k+1) (by omega) j (by push_cast at h;omega)
theorem Kd:∀(a b:D1) (i:Nat),i<a.length->a.length=b.length->(∀j,j<i->a.getD j 0=b.getD j 0)->a.getD i 0<b.getD i 0->bh a b=true
 | [],_,i,h,_,_,_=>by simp at h
 |_::_,[],_,_,h,_,_=>by simp at h
 |x::a,y::b,i,hi,hl,hj,ψ=>by
  rw[bh];cases i with
  |zero =>
   simp only[CM]at ψ;rw[AB (by omega)];simpa using ψ
  |succ i =>
   have h0:=hj 0 (by omega)
   simp only[CM]at h0;rw[AA h0];refine Kd a b i (by simpa using hi) (by simpa using hl) (fun j hj'=>?_) (by simpa using ψ)
   have:=hj (j+1) (by omega)
   simpa using this
theorem Ke{a b:D2}(ha:eX a)(hb:eX b)(h:∀g,g∈a↔g∈b):a=b:=by
 have hp:a.Perm b:=(DK (oc ha) (oc hb)).2 h
 exact DI (le:=fun x y=>bh x y=true) (fun x y _ _ h1 h2=>by have:=EF _ _ _ h1 h2;rw[EE]at this;cases this) ha hb hp
theorem yV{n:Nat}{a:D3}(h:bH n a):c6 n a:=fun t ht=>by
 obtain⟨k,hk,e⟩:=BV.1 ht;have:=h k hk
 rw[List.getD,AF hk,B4,e]at this;refine⟨this.1,fun x y hx hxn=>?_⟩
 obtain⟨h1,h2⟩:=this.2 x.toNat (by omega)
 exact⟨h1,fun hy hyn=>h2 y.toNat (by omega)⟩
theorem Tz{n:Nat}{a b:D3}(ha:c6 n a)(hab:a.length=b.length){p:D1}(hl:p.length=n)(hr:∀i,i<n->0<=p.getD i 0/\p.getD i 0<(n:Int)):my a b p↔TT (ui n p) a b:=by
 rw[TT.iff hab]
 constructor
 ·intro h k hk x y hx hxn hy hyn
  have t0:=((ha (a.getD k []) (by rw[List.getD,AF hk];exact A7 hk)).2 x y hx hxn).2 hy hyn
  exact h k x.toNat y.toNat hk (by omega) (by omega) (by rw[hl];exact t0.2)
 ·intro h k x y hk hx hy _
  exact h k hk (x:Int) (y:Int) (by omega) (by omega) (by omega) (by omega)
section
variable {n:Nat} {F T:D3}
theorem yW{E:MS->D2}{s:MS}{x:Int}{p:D1}:∀(e v:Nat),p∈f7 F T E s x e v↔∃w:Nat,v<=w/\w<v+e/\¬ s.2.1.getD w false=true/\(aH F T 101 x w s).1=true/\p∈E (aH F T 101 x w s).2
 |0,v=>by simp[f7];intro w h1 h2;omega
 |e+1,v=>by
  rw[f7,AI,yW e (v+1)]
  constructor
  ·rintro(h|⟨w,h1,h2,h3⟩)
   ·split at h
    ·cases h
    ·split at h
     ·rename_i h1 h2;exact⟨v,AE _,by omega,h1,h2,h⟩
     ·cases h
   ·exact⟨w,by omega,by omega,h3⟩
  ·rintro⟨w,h1,h2,h3,h4,h5⟩
   by_cases e2:w=v
   ·subst e2;left;rw[AB h3,AA h4];exact h5
   ·exact .inr ⟨w,by omega,by omega,h3,h4,h5⟩
theorem Kf{E:MS->D2}{s:MS}{x:Int}:∀(e v:Nat),(∀w:Nat,v<=w->w<v+e->¬ s.2.1.getD w false=true->(aH F T 101 x w s).1=true->eX (E (aH F T 101 x w s).2))->(∀w w':Nat,v<=w->w<w'->w'<v+e->¬ s.2.1.getD w false=true->¬ s.2.1.getD w' false=true->(aH F T 101 x w s).1=true->(aH F T 101 x w' s).1=true->∀p∈E (aH F T 101 x w s).2,∀q∈E (aH F T 101 x w' s).2,bh p q=true) ->
  eX (f7 F T E s x e v)
 |0,v,_,_=>by rw[f7];exact List.Pairwise.nil
 |e+1,v,h1,h2=>by
  rw[f7];refine Ck.2 ⟨?_,Kf e (v+1) (fun w a b=>h1 w (by omega) (by omega)) (fun w w' a b c=>h2 w w' (by omega) b (by omega)),fun p hp q hq=>?_⟩
  ·split
   ·exact List.Pairwise.nil
   ·split
    ·rename_i a b;exact h1 v (AE _) (by omega) a b
    ·exact List.Pairwise.nil
  ·obtain⟨w,a1,a2,a3,a4,a5⟩:=(yW e (v+1)).1 hq
   split at hp
   ·cases hp
   ·split at hp
    ·rename_i b1 b2;exact h2 v w (AE _) (by omega) (by omega) b1 a3 b2 a4 p hp q a5
    ·cases hp
theorem Kg(hn:n<=100)(hFT:F.length=T.length)(hf:c6 n F)(ht:c6 n T):∀(d:Nat) (s:MS),MW n s->MI n s->cq s.1<d->Cl F T [] s->(∀p,p∈bJ F T d s↔isoL n F T p/\gW n p s)/\eX (bJ F T d s)
 |0,s,_,_,h,_=>by omega
 |d+1,s,w,q,hd,hc=>by
  have iso:=fun {p:D1} hl hr=>Tz (n:=n) (b:=T) hf hFT (p:=p) hl hr
  have hcn:=w.cnt
  rw[bJ];rcases E3 (-1) s.1 0 (Ct _)with⟨h1,h2⟩|⟨h1,h2,h3⟩
  ·rw[AA h1]
   have all:∀x:Int,0<=x->x<n->0<=gi s.1 x:=fun x x0 x1=>Av fun hh=>by
    have:=q.neg x x0 x1 hh
    refine h2 ?_
    rw[<-this];have hxl:x.toNat<s.1.length:=by rw[w.im];omega
    rw[gi,List.getD,AF hxl,B4];exact A7 hxl
   have hrng:∀i,i<n->0<=s.1.getD i 0/\s.1.getD i 0<(n:Int):=fun i hi=>⟨all (i:Int) (by omega) (by omega),w.rg (i:Int) (by omega) (by omega)⟩
   have hmem:∀x:Int,0<=x->x<n->x∈s.2.2:=fun x x0 x1=>(q.mem x x0 x1).2 (all x x0 x1)
   refine⟨fun p=>?_,by simp[eX]⟩
   rw[As]
   constructor
   ·rintro rfl
    refine⟨⟨w.im,hrng,?_,(iso w.im hrng).2 ?_⟩,fun _ _ _ _=>rfl⟩
    ·refine BD.2 fun i j hi hj hij e=>?_
     have hl:=w.im
     have:=q.inj (i:Int) (j:Int) (by omega) (by omega) (by omega) (by omega) (all _ (by omega) (by omega)) (by simp[gi,List.getD,hi,hj,e])
     omega
    ·rw[TT.iff hFT]
     intro k hk x y x0 x1 y0 y1
     exact(TT.iff hFT).1 (hc x (hmem x x0 x1) y (hmem y y0 y1) (by simp) (by simp)) k hk
   ·rintro⟨hi,he⟩
    exact Nm hi.len w.im fun z z0 z1=>he z z0 z1 (all z z0 z1)
  ·have hx0:=h1
   rw[AB (by omega)]
   have hxg:gi s.1 (aY (-1) s.1 0)=-1:=by simpa[gi]using h3
   have hxn:aY (-1) s.1 0<(n:Int):=by rw[w.im]at h2;omega
   have hfst:∀j:Nat,(j:Int)<aY (-1) s.1 0->0<=gi s.1 (j:Int):=fun j hj=>Av fun hh=>by
    have:=q.neg (j:Int) (by omega) (by omega) hh
    exact Kc (-1) s.1 0 (Ct _) j (by omega) (by simpa[gi]using this)
   generalize aY (-1) s.1 0=x at *
   have step:∀v:Nat,v<n->¬ s.2.1.getD v false=true->(aH F T 101 x v s).1=true->(∀p,p∈bJ F T d (aH F T 101 x v s).2↔isoL n F T p/\gW n p (aH F T 101 x v s).2)/\eX (bJ F T d (aH F T 101 x v s).2)/\(∀p,gW n p (aH F T 101 x v s).2->gW n p s/\gi p x=v):=fun v hv hu ha=>by
    have m1:=mF hf ht 101 x (v:Int) s hx0 hxn (by omega) (by omega) w
    have hl:cq (aH F T 101 x (v:Int) s).2.1+1<=cq s.1:=Nq hf ht (d:=100) (v:=(v:Int)) hx0 hxn (by omega) (by omega) w (by omega) (by simpa using hu)
    obtain⟨c1,c2⟩:=Nx hf ht 101 [] x (v:Int) s hx0 hxn (by omega) (by omega) w hc ha
    obtain⟨i1,i2⟩:=Kg hn hFT hf ht d _ m1.wf (m1.hon q) (by omega) c1
    exact⟨i1,i2,fun p hp=>⟨fun z z0 z1 hz=>by rw[<-m1.keep z z0 z1 hz];exact hp z z0 z1 (by rw[m1.keep z z0 z1 hz];exact hz),by rw[<-c2];exact hp x hx0 hxn (by rw[c2];omega)⟩⟩
   refine⟨fun p=>?_,?_⟩
   ·rw[yW]
    constructor
    ·rintro⟨v,_,h5,h6,h7,h8⟩
     have h5:v<n:=by rw[w.im]at h5;omega
     obtain⟨i1,_,i3⟩:=step v h5 h6 h7;obtain⟨j1,j2⟩:=(i1 p).1 h8;exact⟨j1,(i3 p j2).1⟩
    ·rintro⟨hi,he⟩
     have hr:=hi.rng x.toNat (by omega)
     have hpx:gi p x=((gi p x).toNat:Int):=by simp only[gi];omega
     have hv:(gi p x).toNat<n:=by simp only[gi];omega
     obtain⟨c1,c2⟩:=Nu hi.len hi.nd hf ht ((iso hi.len hi.rng).1 hi.ok) 101 x ((gi p x).toNat:Int) s hx0 hxn (by omega) (by omega) w q (by omega) he hpx
     have hu:¬ s.2.1.getD (gi p x).toNat false=true:=fun hu=>by
      obtain⟨z,z0,z1,hz⟩:=(q.us ((gi p x).toNat:Int) (by omega) (by omega)).1 (by rw[Am];exact hu)
      have e:=he z z0 z1 (by omega)
      have:=Nt hi.len hi.nd ⟨z0,z1⟩ ⟨hx0,hxn⟩ (by rw[e,hz];exact hpx.symm)
      subst this;omega
     obtain⟨i1,_,_⟩:=step _ hv hu c1;exact⟨(gi p x).toNat,AQ _,by rw[w.im];omega,hu,c1,(i1 p).2 ⟨hi,c2⟩⟩
   ·refine Kf _ _ (fun v _ h5 h6 h7=>(step v (by rw[w.im]at h5;omega) h6 h7).2.1) (fun v v' _ hvv h5 h6 h6' h7 h7' p hp r hr=>?_)
    have h5':v'<n:=by rw[w.im]at h5;omega
    obtain⟨i1,_,i3⟩:=step v (by omega) h6 h7
    obtain⟨j1,_,j3⟩:=step v' h5' h6' h7';obtain⟨a1,a2⟩:=(i1 p).1 hp;obtain⟨b1,b2⟩:=(j1 r).1 hr;obtain⟨e1,e2⟩:=i3 p a2;obtain⟨f1,f2⟩:=j3 r b2;refine Kd p r x.toNat (by rw[a1.len];omega) (by rw[a1.len,b1.len]) (fun j hj=>?_) ?_
    ·have hz:=hfst j (by omega)
     have q1:=e1 (j:Int) (by omega) (by omega) hz
     have q2:=f1 (j:Int) (by omega) (by omega) hz
     simpa[gi]using q1.trans q2.symm
    ·show gi p x<gi r x
     rw[e2,f2];omega
theorem kS{fr tt:D3}(h:iY fr tt):(∀p,p∈bF fr tt↔bC tt=bC fr/\isoL (bC fr) fr tt p)/\eX (bF fr tt):=by
 obtain⟨h1,h2,h3,h4,hf,ht⟩:=h;rw[bF];split
 ·rename_i e
  obtain⟨a,b⟩:=Kg h4 h2 hf (ht e) 101 (fk (bC fr)) (M8 _) (M9 _) (by rw[fk,EU];omega) (fun a ha=>by simp[fk]at ha)
  refine⟨fun p=>?_,b⟩
  rw[a p];exact⟨fun k=>⟨e,k.1⟩,fun k=>⟨k.2,fun z z0 z1 hz=>by simp only[fk]at hz;rw[om z0 z1]at hz;omega⟩⟩
 ·rename_i e
  exact⟨fun p=>⟨fun k=>(by cases k),fun k=>absurd k.1 e⟩,List.Pairwise.nil⟩
end
def sC:List AD->Option Post
 | [.c (.ints .i64 l)]=>some ⟨l.length≠0/\am l.length,.c (.ints 2 .i64 l),[]⟩
 |_=>none
theorem Ki:Fits Tryz.prog 82 ⟨[],sC⟩:=by
 refine ffv (Γ:=ah []) aI Tryz.func82 fun ds p h ξ=>?_
 unfold sC at h;split at h<;>cases h
 rename_i l
 refine⟨aj,ar,FC.len (FC.ints IntKind.i64 l)≠(0:Nat)/\am (([]:D1).length+l.length)/\[]++l=l/\True,by kernel_rfl,?_⟩
 simp only[aJ]at ξ⊢;obtain⟨a,b⟩:=ξ;exact⟨a,by omega,rfl⟩
def Kj(fr:D3)(tt:D3):SV:=.fn 129 [.ptr 400 0,.ptr 401 0]
def Kk(fr:D3)(tt:D3):List MA:=[]
def Kl(fr:D3)(tt:D3):List (Nat×Ob):=[(400,(.box [.own 402])),(401,(.box [.own 403])),(402,(.lst 0 22 (.r3 .i64 fr))),(403,(.lst 0 22 (.r3 .i64 tt)))]
def sD(fr:D3)(tt:D3):Post:=⟨True,.st (Kj fr tt) (Kl fr tt) (Kk fr tt),[]⟩
def sE:List AD->Option Post
 | [.ma (.m (.ob (.lst 0 22 (.r3 .i64 fr)))),.ma (.m (.ob (.lst 0 22 (.r3 .i64 tt))))]=>some (sD fr tt)
 |_=>none
def Km:List (Nat×Ctr):=[]
def yY(fr:D3)(tt:D3):Prop :=
 fr=fr/\tt=tt
theorem TC(fr:D3)(tt:D3):kN Tryz.prog (ah Km) aj ar Tryz.f76 (aF Tryz.f76) [.m (.ob (.lst 0 22 (.r3 .i64 fr))),.m (.ob (.lst 0 22 (.r3 .i64 tt)))] (Kj fr tt) (gD 0 (Kk fr tt)++g4 (Kl fr tt))=yY fr tt:=by kernel_rfl
theorem TD(fr:D3)(tt:D3)(ξ:(sD fr tt).pre):yY fr tt:=by
 simp only[sD,yY,aJ]at ξ⊢
theorem TE:Fits Tryz.prog 76 ⟨[(0,93),(0,93)],sE⟩:=by
 refine nA (Γ:=ah Km) aI Tryz.func76 (by kernel_rfl) (by kernel_rfl) (fun ads p h=>?_) fun mas q sv ex outs h hq=>?_
 ·unfold sE at h
  split at h
  ·cases h;rfl
  ·cases h
 ·unfold sE at h
  split at h
  ·rename_i heq
   have heq:=lY (l:=[_,_]) heq
   subst heq;unfold sD at h;cases h;exact⟨aj,ar,by rw[TC];exact TD _ _  hq⟩
  ·cases h
theorem yZ:∀(l pre:D2),ba (fun _ _=>true) pre l=(pre++l,true)
 | [],pre=>by simp[ba]
 |x::l,pre=>by rw[ba,AA rfl,yZ l];simp
theorem y8{ok:D2->D1->Prop}(M:Nat):∀(l pre:D2),(∀pre' x,x∈l->pre'.length<M->ok pre' x)->pre.length+l.length<=M->eI ok (fun _ _=>true) pre l
 | [],pre,_,_=>trivial
 |x::l,pre,h,hM=>by
  simp only[AS]at hM;exact⟨h pre x AX (by omega),fun _=>y8 M l (pre++[x]) (fun pre' y hy=>h pre' y (AO _ hy)) (by simp;omega)⟩
def nI:List AD->Option Post
 | [.c (.rows .i64 t)]=>some ⟨1<=t.length/\iY [t] [t]/\(bF [t] [t]).length<=1000000000,.c (.rows 62 2 .i64 (bF [t] [t])),[]⟩
 |_=>none
def Ko(t:D2):Nat->Option Ann
 |0=>some (Ann.rf 2 (fun _ _=>true) (fun pre x=>pre.length<1000000000/\1<=x.length/\x.length<=100) [600] [(3,.c (.ptr 600 0))] (fun pre=>[(600,some (.box [.own 601])),(601,some (.rows 0 62 2 .i64 pre))]) (fun pre=>[(600,some (.box [.own 601])),(601,some (.rows 0 62 2 .i64 pre))]))
 |_=>none
def gL(t:D2):=(t::([]:D3))
theorem sG:Fits Tryz.prog 87 ⟨[],nI⟩:=by
 refine ffv (Γ:=ah [(76,⟨[(0,93),(0,93)],sE⟩),(129,⟨[(0,93),(0,93)],pU⟩),(82,⟨[],sC⟩)]) (aw TE (aw Ng (aw Ki aI))) Tryz.func87 fun ds p h ξ=>?_
 unfold nI at h;split at h<;>cases h
 rename_i t
 refine⟨aj,Ko t,True/\(∀p:D2,true=true/\true=true)/\(([]:D2)=([]:D2)/\t::([]:D3)=t::([]:D3)/\t::([]:D3)=t::([]:D3))/\(∀p0:D2,∀x1:D1,p0.length<(1000000000:Nat)/\(1:Nat)<=x1.length/\x1.length<=(100:Nat)->((x1.length≠(0:Nat)/\am x1.length)/\True)/\am (p0.length+(x1::([]:D2)).length)/\true=true/\x1=x1/\p0++x1::([]:D2)=p0++x1::([]:D2))/\∀Y2:YJ,YJ.P Y2=Go.Proofs.Tryz.prog->YJ.e Y2=(2:Go.TypeId)->(YJ.go Y2=fun(x:D2) (x_1:D1)=>true)->(YJ.ok Y2=fun(pre:D2) (x:D1)=>pre.length<(1000000000:Nat)/\(1:Nat)<=x.length/\x.length<=(100:Nat))->(iY (gL t) (gL t)/\YJ.P Y2=Go.Proofs.Tryz.prog/\YJ.e Y2=(2:Go.TypeId)/\eI (YJ.ok Y2) (YJ.go Y2) ([]:D2) (bF (gL t) (gL t)))/\Y2=Y2/\((ba (YJ.go Y2) ([]:D2) (bF (gL t) (gL t))).2=true->(ba (YJ.go Y2) ([]:D2) (bF (gL t) (gL t))).1=bF (gL t) (gL t)/\True)/\((ba (YJ.go Y2) ([]:D2) (bF (gL t) (gL t))).2=false->False),by kernel_rfl,?_⟩
 simp only[gL,aJ]at ξ⊢;obtain⟨h1,h2,h3⟩:=ξ;refine⟨fun _=>trivial,fun p x h=>⟨⟨by omega,by omega⟩,by omega⟩,fun Y q1 q2 q3 q4=>?_⟩
 rw[q3,q4,yZ];have hn:bC [t]=t.length:=rfl
 have h100:=h2.2.2.2.1
 exact⟨⟨h2,q1,q2,y8 1000000000 _ [] (fun pre' x hx hp=>⟨hp,by
  have:=(((kS h2).1 x).1 hx).2.len;omega,by
  have:=(((kS h2).1 x).1 hx).2.len;omega⟩) (by simpa using h3)⟩,fun _=>by simp,fun h=>by cases h⟩
def gM(t:D2)(x y:Nat):Nat:=(en t x y).toNat
structure GrpT (n:Nat) (t:D2):Prop where
 tb:aA n t
 pos:1<=n
 z1:∀x,x<n->gM t 0 x=x
 z2:∀x,x<n->gM t x 0=x
 asc:∀x y z,x<n->y<n->z<n->gM t (gM t x y) z=gM t x (gM t y z)
 can:∀x y z,x<n->y<n->z<n->gM t x y=gM t x z->y=z
 inv:∀x,x<n->∃y,y<n/\gM t x y=0
theorem TH{l:D1}(h:cP l=true):l.Nodup:=by
 refine BD.2 fun i j hi hj hij e=>?_
 have:=jz (a:=(List.range l.length).map (fun x:Nat=>(x:Int))) (b:=l.eraseIdx j) (BE.2 (Bb.imp fun hne e=>hne (by omega))) (fun x hx=>by
  obtain⟨y,hy,rfl⟩:=AH.1 hx;have hy:y<l.length:=by simpa using hy
  obtain⟨k,hk,ek⟩:=BV.1 (zU h (x:=(y:Int)) (by omega) (by omega))
  rw[List.mem_eraseIdx_iff_getElem];by_cases ej:k=j
  ·subst ej;exact⟨i,hi,by omega,by rw[e];exact ek⟩
  ·exact⟨k,hk,ej,ek⟩)
 rw[AR,CV,List.length_eraseIdx]at this;rw[AA hj]at this;omega
theorem TI{t:D2}(h:cj t=true):aA t.length t:=by
 obtain⟨_,_,h3⟩:=iN h;refine⟨rfl,fun x hx=>⟨(h3 x hx).1,fun y hy=>?_⟩⟩
 have:=(h3 x hx).2 y hy
 simp only[en];omega
theorem gN{t:D2}(h:aC t=true):GrpT t.length t:=by
 have htb:=TI (kV h)
 have hpos:=(iN (kV h)).1
 rw[aC,AL,AL]at h;obtain⟨_,hp,hx⟩:=h;have hx:∀x,x<t.length->en t 0 x=x/\en t x 0=x/\∀y,y<t.length->∀z,z<t.length->en t (en t x y).toNat z=en t x (en t y z).toNat:=fun x hxl=>by
  have:=AW.1 hx x (by simpa using hxl)
  simp only[fZ,iS,AL,Ab,nW,gR,iR,AW,Af]at this;exact⟨this.1.1,this.1.2,fun y hy z hz=>this.2 y hy z hz⟩
 have hperm:∀x,x<t.length->cP (t.getD x [])=true:=fun x hxl=>by
  rw[zT,AW]at hp;exact hp x (by simpa using hxl)
 have row:∀x,x<t.length->(t.getD x []).length=t.length:=fun x hx=>(htb.2 x hx).1
 refine⟨htb,hpos,fun x hl=>by simp only[gM];rw[(hx x hl).1];simp,fun x hl=>by simp only[gM];rw[(hx x hl).2.1];simp,fun x y z h1 h2 h3=>by simp only[gM];rw[(hx x h1).2.2 y h2 z h3],fun x y z h1 h2 h3 e=>?_,fun x hl=>?_⟩
 ·have hnd:(t.getD x []).Nodup:=TH (hperm x h1)
  have a1:=(htb.2 x h1).2 y h2
  have a2:=(htb.2 x h1).2 z h3
  have e:en t x y=en t x z:=by simp only[gM]at e;omega
  exact pI hnd (by rw[row x h1];exact h2) (by rw[row x h1];exact h3) e
 ·have:=zU (hperm x hl) (x:=0) (by omega) (by rw[row x hl];omega)
  obtain⟨y,hy,e⟩:=BV.1 this;exact⟨y,by rw[<-row x hl];exact hy,by rw[gM,en,bv _ _ _ hy,e];rfl⟩
section
variable {n:Nat} {t:D2}
theorem GrpT.lt(G:GrpT n t){x y:Nat}(hx:x<n)(hy:y<n):gM t x y<n:=by
 have:=(G.tb.2 x hx).2 y hy
 simp only[gM];omega
theorem GrpT.canR(G:GrpT n t){x y z:Nat}(hx:x<n)(hy:y<n)(hz:z<n)(e:gM t x z=gM t y z):x=y:=by
 obtain⟨w,hw,ew⟩:=G.inv z hz;have h1:=G.asc x z w hx hz hw
 have h2:=G.asc y z w hy hz hw
 rw[ew,G.z2 x hx]at h1;rw[ew,G.z2 y hy]at h2;rw[<-h1,<-h2,e]
def ap(p:D1)(x:Nat):Nat:=(p.getD x 0).toNat
theorem fb{p:D1}(h:isoL n [t] [t] p){x:Nat}(hx:x<n):ap p x<n:=by
 have:=h.rng x hx
 simp only[ap];omega
theorem jv(G:GrpT n t){p:D1}(h:isoL n [t] [t] p){x y:Nat}(hx:x<n)(hy:y<n):ap p (gM t x y)=gM t (ap p x) (ap p y):=by
 have:=(h.g (ml G.tb)).map 0 x y (by simp) hx hy
 simp only[CM]at this
 show(p.getD (en t x y).toNat 0).toNat=(en t (p.getD x 0).toNat (p.getD y 0).toNat).toNat
 omega
theorem gO(G:GrpT n t){p:D1}(h:isoL n [t] [t] p):ap p 0=0:=by
 have hp:=G.pos
 have h0:=fb h (x:=0) (by omega)
 have e:=jv G h (x:=0) (y:=0) (by omega) (by omega)
 rw[G.z1 0 (by omega)]at e
 refine(G.can (ap p 0) (ap p 0) 0 h0 h0 (by omega) ?_)
 rw[<-e,G.z2 _ h0]
theorem za:∀(n:Nat) (l:List Nat),l.Nodup->(∀x∈l,x<n)->l.length<=n:=fun n l hl h=>by
 have:=jz (a:=l.map (fun x:Nat=>(x:Int))) (b:=(List.range n).map (fun x:Nat=>(x:Int))) (BE.2 (hl.imp fun hne e=>hne (by omega))) (fun x hx=>by
  obtain⟨y,hy,rfl⟩:=AH.1 hx;exact AH.2 ⟨y,by simpa using h y hy,rfl⟩)
 simpa using this
theorem zb(G:GrpT n t){p q:D1}(hp:isoL n [t] [t] p)(hq:isoL n [t] [t] q)(S:List Nat)(hS:∀s∈S,s<n/\ap p s=ap q s)(hnd:S.Nodup)(hl:n<2*S.length):p=q:=by
 have all:∀y,y<n->ap p y=ap q y:=fun y hy=>Av fun hne=>by
  have nd:(S++S.map (gM t y)).Nodup:=by
   rw[Ad];refine⟨hnd,?_,fun a ha b hb e=>?_⟩
   ·refine BE.2 (BZ (fun {a b} ha hb hne2 e=>hne2 ?_) hnd)
    exact G.can y a b hy (hS a ha).1 (hS b hb).1 e
   ·obtain⟨s,hs,rfl⟩:=AH.1 hb
    obtain⟨hs1,hs2⟩:=hS s hs;have e2:=(hS a ha).2
    rw[e,jv G hp hy hs1,jv G hq hy hs1,hs2]at e2;exact hne (G.canR (fb hp hy) (fb hq hy) (fb hq hs1) e2)
  have:=za n _ nd (fun x hx=>by
   rcases AI.1 hx with hx|hx
   ·exact(hS x hx).1
   ·obtain⟨s,hs,rfl⟩:=AH.1 hx
    exact G.lt hy (hS s hs).1)
  simp only[Ag,AR]at this;omega
 refine ic (by rw[hp.len,hq.len]) fun i hi=>?_
 rw[hp.len]at hi;have:=all i hi
 have h1:=hp.rng i hi
 have h2:=hq.rng i hi
 simp only[ap]at this;omega
theorem TJ(G:GrpT n t)(hn:n<=7):∃a b,a<n/\b<n/\∀p q,isoL n [t] [t] p->isoL n [t] [t] q->ap p a=ap q a->ap p b=ap q b->p=q:=by
 have hpos:=G.pos
 by_cases h1:n<=1
 ·exact⟨0,0,by omega,by omega,fun p q hp hq _ _=>zb G hp hq [0] (fun s hs=>by
   simp only[As]at hs;subst hs;exact⟨by omega,by rw[gO G hp,gO G hq]⟩) (by simp) (by simp;omega)⟩
 ·by_cases h3:n<=3
  ·exact⟨1,1,by omega,by omega,fun p q hp hq e _=>zb G hp hq [0,1] (fun s hs=>by
    simp only[AG,Cu,or_false]at hs;rcases hs with rfl|rfl
    ·exact⟨by omega,by rw[gO G hp,gO G hq]⟩
    ·exact⟨by omega,e⟩) (by simp) (by simp;omega)⟩
  ·obtain⟨v,hv,ev⟩:=G.inv 1 (by omega)
   obtain⟨b,hb,hb0,hb1,hbv⟩:∃b,b<n/\b≠0/\b≠1/\b≠v:=by
    by_cases e2:v=2
    ·exact⟨3,by omega,by omega,by omega,by omega⟩
    ·exact⟨2,by omega,by omega,by omega,by omega⟩
   have hm:=G.lt (x:=1) (y:=b) (by omega) hb
   have m0:gM t 1 b≠0:=fun e=>hbv (G.can 1 b v (by omega) hb hv (by rw[e,ev]))
   have m1:gM t 1 b≠1:=fun e=>hb0 (G.can 1 b 0 (by omega) hb (by omega) (by rw[e,G.z2 1 (by omega)]))
   have mb:gM t 1 b≠b:=fun e=>by
    have:=G.canR (x:=1) (y:=0) (z:=b) (by omega) (by omega) hb (by rw[e,G.z1 b hb])
    omega
   refine⟨1,b,by omega,hb,fun p q hp hq e1 e2=>zb G hp hq [0,1,b,gM t 1 b] (fun s hs=>?_) ?_ (by simp;omega)⟩
   ·simp only[AG,Cu,or_false]at hs
    rcases hs with rfl|rfl|rfl|rfl
    ·exact⟨by omega,by rw[gO G hp,gO G hq]⟩
    ·exact⟨by omega,e1⟩
    ·exact⟨hb,e2⟩
    ·exact⟨hm,by rw[jv G hp (by omega) hb,jv G hq (by omega) hb,e1,e2]⟩
   ·simp only[AZ,AG,Cu,or_false,not_or,CZ,List.nodup_nil,Bi]
    exact⟨⟨by omega,fun e=>hb0 e.symm,fun e=>m0 e.symm⟩,⟨fun e=>hb1 e.symm,fun e=>m1 e.symm⟩,fun e=>mb e.symm⟩
theorem TL(G:GrpT n t)(hn:n<=7){L:D2}(hL:∀p∈L,isoL n [t] [t] p)(hnd:L.Nodup):L.length<=49:=by
 obtain⟨a,b,ha,hb,hab⟩:=TJ G hn;have hp:=G.pos
 have nd:(L.map fun p=>ap p a*n+ap p b).Nodup:=BE.2 (BZ (fun {p q} h1 h2 hne e=>by
  have p1:=fb (hL p h1) ha
  have p2:=fb (hL p h1) hb
  have q1:=fb (hL q h2) ha
  have q2:=fb (hL q h2) hb
  have e1:ap p a=ap q a:=by
   have:=A4 (· / n) e
   simp only[CK _ n]at this
   rwa[Nat.mul_add_div (by omega),Nat.mul_add_div (by omega),Nat.div_eq_of_lt p2,Nat.div_eq_of_lt q2]at this
  rw[e1]at e;exact hne (hab p q (hL p h1) (hL q h2) e1 (by omega))) hnd)
 have:=za (n*n) _ nd (fun x hx=>by
  obtain⟨p,hp,rfl⟩:=AH.1 hx;have p1:=fb (hL p hp) ha
  have p2:=fb (hL p hp) hb
  have:(ap p a+1)*n<=n*n:=Br n (by omega)
  rw[BW]at this;omega)
 have h2:n*n<=7*7:=Be hn hn
 simp only[AR]at this;omega
theorem jX(G:GrpT n t)(hn:n<=7):iY [t] [t]:=by
 have e:bC [t]=n:=G.tb.1
 refine⟨by simp,rfl,by simp,by rw[e];omega,?_,fun _=>?_⟩<;>rw[e]<;>exact yV (ml G.tb)
theorem zc(G:GrpT n t)(hn:n<=7):(bF [t] [t]).length<=49:=by
 have e:bC [t]=n:=G.tb.1
 obtain⟨h1,h2⟩:=kS (jX G hn);exact TL G hn (fun p hp=>by have:=((h1 p).1 hp).2;rwa[e]at this) (oc h2)
theorem iO(G:GrpT n t)(hn:n<=7):bF [t] [t]=aa t:=by
 have e:bC [t]=n:=G.tb.1
 obtain⟨h1,h2⟩:=kS (jX G hn);rw[e]at h1;have E:bF [t] [t]=ff n [t] [t]:=Ke h2 (Mc n [t] [t]) fun p=>by
  rw[h1 p,pO (ml G.tb) G.pos];exact⟨fun k=>⟨k.2,by
   have:=gO G k.2
   have r:=k.2.rng 0 G.pos
   simp only[ap]at this;omega⟩,fun k=>⟨rfl,k.1⟩⟩
 have hlen:=zc G hn
 rw[E]at hlen⊢;have e2:nT [t]=n:=G.tb.1
 have F:aa t=(ff n [t] [t]).take 1000000:=by
  rw[aa,gX,AA rfl,e2];exact Mb (ml G.tb) rfl G.pos (by omega)
 rw[F,AU (by omega)]
end
theorem zd{P:D2->Prop}{t A L:D2}{rec:D2->D3->D3}{fd:D3}(h:∀L' fd',(∀c∈fd',P c)->∀c∈rec L' fd',P c)(h0:∀c∈fd,P c):∀i,∀c∈dS t A L rec fd i,P c
 |0=>h0
 |i+1=>by
  rw[dS];split
  ·exact h _ _ (zd h h0 i)
  ·exact zd h h0 i
theorem Kq{P:D2->Prop}{t A:D2}(hP:∀L,P (dM t L)):∀(d:Nat) (L:D2) (fd:D3),(∀c∈fd,P c)->∀c∈cB t A d L fd,P c
 |0,L,fd,h=>h
 |d+1,L,fd,h=>by
  rw[cB];split
  ·intro c hc
   rcases AI.1 hc with hc|hc
   ·exact h c hc
   ·rw[As]at hc
    rw[hc];exact hP L
  ·exact zd (fun L' fd' h'=>Kq hP d L' fd' h') h _
def sI:List AD->Option Post
 | [.c (.rows .i64 t)]=>some ⟨aC t=true/\t.length<=7,.c (.tr [22,62,2] (.r3 .i64 (dc (cB t (aa t) 9 [] [])))),[]⟩
 |_=>none
def Kr(t:D2):Nat->Option Ann
 |1002=>some (Ann.mk ((Unit)) (fun u=>⟨[(3,M' 500)],[(500,P' [.ro (.rows .i64 t),.ro (.rows .i64 ((aa t))),.nil,.nil])]⟩) (fun u=>True) (fun u=>0) (fun _=>ar))
 |_=>none
def nJ(t:D2):=(cB t (aa t) (9:Nat) ([]:D2) ([]:D3))
theorem Kt:Fits Tryz.prog 85 ⟨[],sI⟩:=by
 refine ffv (Γ:=ah [(87,⟨[],nI⟩),(133,⟨[(0,93),(0,93)],nN 9⟩),(134,⟨[(0,97),(0,97)],pJ⟩),(135,⟨[],sw⟩)]) (aw sG (aw (TZ 9) (aw Uz (aw sx aI)))) Tryz.func85 fun ds p h ξ=>?_
 unfold sI at h;split at h<;>cases h
 rename_i t
 refine⟨aj,Kr t,((((1:Nat)<=t.length/\iY (t::([]:D3)) (t::([]:D3))/\(bF (t::([]:D3)) (t::([]:D3))).length<=(1000000000:Nat))/\True)/\∃x0:Unit,True/\t=t/\bF (t::([]:D3)) (t::([]:D3))=aa t)/\∀x1:Unit,True->(t.length<=(7:Nat)/\aA t.length t/\jw t.length (aa t)/\jw t.length ([]:D2)/\(aa t).length<=(49:Nat)/\([]:D2).length<=t.length/\t.length<(9:Nat)+([]:D2).length/\([]:D3).length+(49:Nat) ^ (t.length-([]:D2).length)<=(1099511627776:Nat))/\(((nJ t).length<=(1099511627776:Nat)/\∀(r:D2),r∈cB t (aa t) (9:Nat) ([]:D2) ([]:D3)->aS r)/\(dc (nJ t)).length=(nJ t).length)/\dc (nJ t)=dc (nJ t)/\True,by kernel_rfl,?_⟩
 simp only[nJ,aJ]at ξ⊢;obtain⟨h,hn⟩:=ξ;have G:=gN h
 have hl:=zc G hn
 have hA:(aa t).length<=49:=by rw[<-iO G hn];exact hl
 have hpow:(49:Nat) ^ t.length<=49 ^ 7:=Ca (by omega) hn
 have hpow2:(49:Nat) ^ 7=678223072849:=by decide
 have hlen:=zj (t:=t) hA 9 [] [] (AQ _)
 simp only[Bn,B5,AJ]at hlen;have iso:∀p∈aa t,isoL t.length [t] [t] p:=fun p hp=>by
  rw[<-iO G hn]at hp;have e:bC [t]=t.length:=rfl
  exact(((kS (jX G hn)).1 p).1 hp).2
 refine⟨⟨⟨G.pos,jX G hn,by omega⟩,(),iO G hn⟩,fun _ _=>⟨⟨hn,G.tb,fun r hr=>⟨(iso r hr).len,(iso r hr).rng⟩,fun r hr=>(by cases hr),hA,AQ _,by omega,by rw[B5,AJ];omega⟩,⟨by omega,Kq (P:=aS) (fun L=>ag5 _ _ (by omega)) 9 [] [] (fun c hc=>(by cases hc))⟩,tj _⟩⟩
end Go.Sx
