/- MpgE -/
import Derived.Test.YtkmldclpaniclaaGreatMpgC
import Derived.Test.YtkmldclpaniclaaGreatMpgL
import Derived.Test.YtkmldclpaniclaaGreatRack
set_option linter.unusedSimpArgs false
set_option linter.unusedVariables false
open Go Go.Proofs
namespace Go.Sx
def bu(fr:List (List (List Int))):Nat:=(fr.getD 0 []).length
def eH(n:Nat):MS:=(List.replicate n (-1),List.replicate n false,[])
def cX(fr tt:List (List (List Int))):List (List Int):=if bu tt=bu fr then bB fr tt 101 (eH (bu fr))else []
def kW(fr tt:List (List (List Int))):Prop:=1<=fr.length/\fr.length=tt.length/\fr.length<=100/\bu fr<=100/\cI (bu fr) fr/\(bu tt=bu fr->cI (bu fr) tt)
theorem xr(n:Nat):b9 (List.replicate n (-1))=n:=by
 induction n with
 |zero=>rfl
 |succ n ih=>rw[List.replicate_succ,b9,List.countP_cons];rw[b9]at ih;rw[ih];simp
theorem mM{n:Nat}{x:Int}(h:0<=x)(k:x<n):gi (List.replicate n (-1)) x=-1:=by
 have:x.toNat<n:=by omega
 simp[gi,List.getD,this]
theorem FR(n:Nat):MW n (eH n):=⟨by simp[eH],by simp[eH],fun x hx=>by simp[eH]at hx,fun z h0 h1=>by rw[eH,mM h0 h1];omega,by simp[eH,xr]⟩
theorem FT(n:Nat):MI n (eH n):=⟨by simp[eH],fun x h0 h1=>by simp only[eH];rw[mM h0 h1];simp,fun x h0 h1 _=>by rw[eH,mM h0 h1],fun x y h0 h1 _ _ h=>by simp only[eH]at h;rw[mM h0 h1]at h;omega,fun v h0 h1=>by
 simp only[eH]
 constructor
 ·intro h
  have:v.toNat<n:=by omega
  simp[List.getD,this]at h
 ·rintro⟨x,x0,x1,e⟩
  rw[mM x0 x1]at e;omega⟩
def FU(Y:YJ)(fr:List (List (List Int)))(tt:List (List (List Int))):SV:=.tup []
def FW(Y:YJ)(fr:List (List (List Int)))(tt:List (List (List Int))):List MA:=[.m (.ob (.yd (ba Y.go [] (cX fr tt)).1.length Y (ba Y.go [] (cX fr tt)).1 (ba Y.go [] (cX fr tt)).2)),.box [.c (.r3 .i64 fr)],.box [.c (.r3 .i64 tt)]]
def FX(Y:YJ)(fr:List (List (List Int)))(tt:List (List (List Int))):List (Nat×Ob):=[]
def rz(Y:YJ)(fr:List (List (List Int)))(tt:List (List (List Int))):Post:=⟨kW fr tt/\Y.P=Tryz.prog/\Y.e=2/\eo Y.ok Y.go [] (cX fr tt),.st (FU Y fr tt) (FX Y fr tt) (FW Y fr tt),[]⟩
def rA:List AD->Option Post
 | [.ma (.m (.ob (.yd 0 Y [] true))),.ma (.box [.c (.r3 .i64 fr)]),.ma (.box [.c (.r3 .i64 tt)])]=>some (rz Y fr tt)
 |_=>none
def FY(Y:YJ)(fr:List (List (List Int)))(tt:List (List (List Int))):Nat->Option Ann
 |0=>some (Ann.mk ((Nat)) (fun i=>⟨[(0,.c (.own 7000)),(1,.c (.ptr 7100 0)),(2,.c (.ptr 7200 0)),(5,.c (.ptr 500 0)),(26,.c (.int .i64 ((bu fr:Int)))),(27,.c (.int .i64 ((i:Int))))],[(7000,some (.yd 0 Y [] true)),(7100,some (.box [.ro (.r3 .i64 fr)])),(7200,some (.box [.ro (.r3 .i64 tt)])),(500,some (.box [.ro (.r3 .i64 fr),.ro (.r3 .i64 tt),.own 501,.own 502,.nil])),(501,some (.ints 2 .i64 ((List.replicate i (-1)++List.replicate (bu fr-i) 0)))),(502,some (.bools 4 ((List.replicate (bu fr) false))))]⟩) (fun i=>i<=bu fr) (fun i=>bu fr-i) (fun _=>av))
 |_=>none
def FZ:List (Nat×Ctr):=[(130,⟨[(0,93),(0,93)],mL 101⟩)]
def gE(fr:List (List (List Int))):=(↑((fr.getD (0:Nat) ([]:List (List Int))).length):Int)
def mN(fr:List (List (List Int)))(x0:Nat):=(List.replicate x0 (-1:Int)++List.replicate (bu fr-x0) (0:Int),List.replicate (bu fr) false,([]:List Int))
def xt(Y:YJ)(fr:List (List (List Int)))(tt:List (List (List Int))):Prop :=
 (ab (0:Int) fr.length/\(ab (0:Int) tt.length/\(ae ((↑((tt.getD (0:Nat) ([]:List (List Int))).length):Int) != (↑((fr.getD (0:Nat) ([]:List (List Int))).length):Int)) ((0:Nat)=((ba (YJ.go Y) ([]:List (List Int)) (cX fr tt)).1).length/\Y=Y/\([]:List (List Int))=(ba (YJ.go Y) ([]:List (List Int)) (cX fr tt)).1/\true=(ba (YJ.go Y) ([]:List (List Int)) (cX fr tt)).2/\fr=fr/\tt=tt) (((0:Int)<=(gE fr)/\(gE fr)<=(gE fr)/\ah (gE fr).toNat)/\(((0:Int)<=(gE fr)/\(gE fr)<=(gE fr)/\ah (gE fr).toNat)/\((∃x0:Nat,x0<=bu fr/\(↑((List.replicate (gE fr).toNat (0:Int)).length):Int)=(bu fr:Int)/\(0:Int)=(x0:Int)/\(0:Nat)=(0:Nat)/\Y=Y/\([]:List (List Int))=([]:List (List Int))/\true=true/\fr=fr/\tt=tt/\fr=fr/\tt=tt/\List.replicate (gE fr).toNat (0:Int)=List.replicate x0 (-1:Int)++List.replicate (bu fr-x0) (0:Int)/\List.replicate (gE fr).toNat false=List.replicate (bu fr) false)/\(∀x1:Nat,(x1<=bu fr->(ae (decide ((x1:Int)<(bu fr:Int))) (ab (x1:Int) ((List.replicate x1 (-1:Int)++List.replicate (bu fr-x1) (0:Int)).length)/\(ac ((x1:Int)+(1:Int))/\(∃x2:Nat,(x2<=bu fr/\(bu fr-x2<bu fr-x1/\((bu fr:Int)=(bu fr:Int)/\((x1:Int)+(1:Int)=(x2:Int)/\((0:Nat)=(0:Nat)/\((Y=Y) /\
 ((([]:List (List Int))=([]:List (List Int)))/\((true=true)/\((fr=fr)/\((tt=tt)/\((fr=fr)/\((tt=tt)/\((List.set (List.replicate x1 (-1:Int)++List.replicate (bu fr-x1) (0:Int)) (x1:Int).toNat (-1:Int)=List.replicate x2 (-1:Int)++List.replicate (bu fr-x2) (0:Int))/\(List.replicate (bu fr) false=List.replicate (bu fr) false))))))))))))))))) (((xp ((List.replicate x1 (-1:Int)++List.replicate (bu fr-x1) (0:Int)).length) fr tt (mN fr x1))/\((b9 (List.replicate x1 (-1:Int)++List.replicate (bu fr-x1) (0:Int))<(101:Nat))/\((YJ.P Y=Go.Proofs.Tryz.prog)/\((YJ.e Y=(2:Go.TypeId))/\(eo (YJ.ok Y) (YJ.go Y) ([]:List (List Int)) (bB fr tt (101:Nat) (mN fr x1)))))))/\(((0:Nat)+(((ba (YJ.go Y) ([]:List (List Int)) (bB fr tt (101:Nat) (mN fr x1))).1).length-([]:List (List Int)).length)=((ba (YJ.go Y) ([]:List (List Int)) (cX fr tt)).1).length)/\((Y=Y)/\(((ba (YJ.go Y) ([]:List (List Int)) (bB fr tt (101:Nat) (mN fr x1))).1=(ba (YJ.go Y) ([]:List (List Int)) (cX fr tt)).1)/\(((ba (YJ.go Y) ([]:List (List Int)) (bB fr tt (101:Nat) (mN fr x1))).2=(ba (YJ.go Y) ([]:List (List Int)) (cX fr tt)).2)/\((fr=fr)/\(tt=tt))))))))))))))))
theorem NF(Y:YJ)(fr:List (List (List Int)))(tt:List (List (List Int))):kE Tryz.prog (aj FZ) am (FY Y fr tt) Tryz.f129 (aP Tryz.f129) [.m (.ob (.yd 0 Y [] true)),.box [.c (.r3 .i64 fr)],.box [.c (.r3 .i64 tt)]] (FU Y fr tt) (gn 0 (FW Y fr tt)++gK (FX Y fr tt))=xt Y fr tt:=by kernel_rfl
theorem NH(Y:YJ)(fr:List (List (List Int)))(tt:List (List (List Int)))(Yh:(rz Y fr tt).pre):xt Y fr tt:=by
 simp only[rz,xt,gE,mN,aX,u1,u2,u3,u4,u5,u6,u7,u8,u9,v1,v2,v3,v4,v5,v6,v7,v8,v9,w1,w2,w3,w4,aN,ab,ac,ah,ax]at Yh⊢;obtain⟨⟨h1,h2,h3,h4,hf,ht⟩,hP,he,hok⟩:=Yh;refine⟨⟨by omega,by omega⟩,⟨by omega,by omega⟩,fun hne=>?_,fun heq=>⟨⟨by omega,by omega,?_⟩,⟨by omega,by omega,?_⟩,⟨0,Nat.zero_le _,rfl,rfl,by simp[bu],rfl⟩,fun i hi=>⟨fun hlt=>?_,fun hge=>?_⟩⟩⟩
 ·have e:cX fr tt=[]:=if_neg (fun e=>hne (by simp only[bu]at e;omega))
  rw[e];exact⟨rfl,rfl,rfl⟩
 ·simp only[bu]at h4;omega
 ·simp only[bu]at h4;omega
 ·refine⟨by omega,by omega,i+1,by omega,by omega,by omega,?_⟩
  have:bu fr-i=(bu fr-(i+1))+1:=by omega
  rw[this,List.replicate_succ,List.set_append_right _ _ (by simp)]
  simp[List.replicate_succ']
 ·have ei:i=bu fr:=by omega
  subst ei;have en:bu tt=bu fr:=by simp only[bu];omega
  have e:cX fr tt=bB fr tt 101 (eH (bu fr)):=if_pos en
  simp only[Nat.sub_self,List.replicate_zero,List.append_nil,Nat.add_zero,Nat.sub_zero,Nat.zero_add];rw[e]at hok⊢;exact⟨⟨⟨⟨h4,h2,h3,hf,ht en,FR _⟩,FT _⟩,by rw[xr];omega,hP,he,hok⟩,rfl,rfl,rfl⟩
theorem NI:Fits Tryz.prog 129 ⟨[(0,93),(0,93)],rA⟩:=by
 refine nL (Γ:=aj FZ) (aD (NE 101) aW) Tryz.func129 (by kernel_rfl) (by kernel_rfl) (fun ads p h=>?_) fun mas q sv ex outs h hq=>?_
 ·unfold rA at h
  split at h
  ·cases h;rfl
  ·cases h
 ·unfold rA at h
  split at h
  ·rename_i heq
   have heq:=md (l:=[_,_,_]) heq
   subst heq;unfold rz at h;cases h;exact⟨am,FY _ _ _ ,by rw[NF];exact NH _ _ _  hq⟩
  ·cases h
theorem F0(x:Int):∀(l:List Int) (k:Int),0<=k->∀j:Nat,(j:Int)+k<bd x l k->l.getD j 0≠x
 | [],k,hk,j,h=>by simp[bd]at h;omega
 |y::l,k,hk,j,h=>by
  rw[bd]at h;by_cases e:y=x
  ·rw[if_pos e]at h;omega
  ·rw[if_neg e]at h
   cases j with
   |zero=>simpa using e
   |succ j =>
    rw[List.getD_cons_succ];exact F0 x l (k+1) (by omega) j (by push_cast at h;omega)
theorem F1:∀(a b:List Int) (i:Nat),i<a.length->a.length=b.length->(∀j,j<i->a.getD j 0=b.getD j 0)->a.getD i 0<b.getD i 0->bh a b=true
 | [],_,i,h,_,_,_=>by simp at h
 |_::_,[],_,_,h,_,_=>by simp at h
 |x::a,y::b,i,hi,hl,hj,hlt=>by
  rw[bh];cases i with
  |zero =>
   simp only[List.getD_cons_zero]at hlt;rw[if_neg (by omega)];simpa using hlt
  |succ i =>
   have h0:=hj 0 (by omega)
   simp only[List.getD_cons_zero]at h0;rw[if_pos h0];refine F1 a b i (by simpa using hi) (by simpa using hl) (fun j hj'=>?_) (by simpa using hlt)
   have:=hj (j+1) (by omega)
   simpa using this
theorem NJ{a b:List (List Int)}(ha:eR a)(hb:eR b)(h:∀g,g∈a↔g∈b):a=b:=by
 have hp:a.Perm b:=(List.perm_ext_iff_of_nodup (n9 ha) (n9 hb)).2 h
 exact List.Perm.eq_of_pairwise (le:=fun x y=>bh x y=true) (fun x y _ _ h1 h2=>by have:=w9 _ _ _ h1 h2;rw[w8]at this;cases this) ha hb hp
theorem NK{n:Nat}{a:List (List (List Int))}(h:bA n a):cI n a:=fun t ht=>by
 obtain⟨k,hk,e⟩:=List.mem_iff_getElem.1 ht;have:=h k hk
 rw[List.getD,List.getElem?_eq_getElem hk,Option.getD_some,e]at this;refine⟨this.1,fun x y hx hxn=>?_⟩
 obtain⟨h1,h2⟩:=this.2 x.toNat (by omega)
 exact⟨h1,fun hy hyn=>h2 y.toNat (by omega)⟩
theorem NM{n:Nat}{a b:List (List (List Int))}(ha:cI n a)(hab:a.length=b.length){p:List Int}(hl:p.length=n)(hr:∀i,i<n->0<=p.getD i 0/\p.getD i 0<(n:Int)):kP a b p↔TT (rI n p) a b:=by
 rw[TT.iff hab]
 constructor
 ·intro h k hk x y hx hxn hy hyn
  have t0:=((ha (a.getD k []) (by rw[List.getD,List.getElem?_eq_getElem hk];exact List.getElem_mem hk)).2 x y hx hxn).2 hy hyn
  exact h k x.toNat y.toNat hk (by omega) (by omega) (by rw[hl];exact t0.2)
 ·intro h k x y hk hx hy _
  exact h k hk (x:Int) (y:Int) (by omega) (by omega) (by omega) (by omega)
section
variable {n:Nat} {F T:List (List (List Int))}
theorem xu{E:MS->List (List Int)}{s:MS}{x:Int}{p:List Int}:∀(e v:Nat),p∈fB F T E s x e v↔∃w:Nat,v<=w/\w<v+e/\¬ s.2.1.getD w false=true/\(aF F T 101 x w s).1=true/\p∈E (aF F T 101 x w s).2
 |0,v=>by simp[fB];intro w h1 h2;omega
 |e+1,v=>by
  rw[fB,List.mem_append,xu e (v+1)]
  constructor
  ·rintro(h|⟨w,h1,h2,h3⟩)
   ·split at h
    ·cases h
    ·split at h
     ·rename_i h1 h2;exact⟨v,Nat.le_refl _,by omega,h1,h2,h⟩
     ·cases h
   ·exact⟨w,by omega,by omega,h3⟩
  ·rintro⟨w,h1,h2,h3,h4,h5⟩
   by_cases e2:w=v
   ·subst e2;left;rw[if_neg h3,if_pos h4];exact h5
   ·exact .inr ⟨w,by omega,by omega,h3,h4,h5⟩
theorem F2{E:MS->List (List Int)}{s:MS}{x:Int}:∀(e v:Nat),(∀w:Nat,v<=w->w<v+e->¬ s.2.1.getD w false=true->(aF F T 101 x w s).1=true->eR (E (aF F T 101 x w s).2))->(∀w w':Nat,v<=w->w<w'->w'<v+e->¬ s.2.1.getD w false=true->¬ s.2.1.getD w' false=true->(aF F T 101 x w s).1=true->(aF F T 101 x w' s).1=true->∀p∈E (aF F T 101 x w s).2,∀q∈E (aF F T 101 x w' s).2,bh p q=true) ->
  eR (fB F T E s x e v)
 |0,v,_,_=>by rw[fB];exact List.Pairwise.nil
 |e+1,v,h1,h2=>by
  rw[fB];refine List.pairwise_append.2 ⟨?_,F2 e (v+1) (fun w a b=>h1 w (by omega) (by omega)) (fun w w' a b c=>h2 w w' (by omega) b (by omega)),fun p hp q hq=>?_⟩
  ·split
   ·exact List.Pairwise.nil
   ·split
    ·rename_i a b;exact h1 v (Nat.le_refl _) (by omega) a b
    ·exact List.Pairwise.nil
  ·obtain⟨w,a1,a2,a3,a4,a5⟩:=(xu e (v+1)).1 hq
   split at hp
   ·cases hp
   ·split at hp
    ·rename_i b1 b2;exact h2 v w (Nat.le_refl _) (by omega) (by omega) b1 a3 b2 a4 p hp q a5
    ·cases hp
theorem F3(hn:n<=100)(hFT:F.length=T.length)(hf:cI n F)(ht:cI n T):∀(d:Nat) (s:MS),MW n s->MI n s->b9 s.1<d->Cl F T [] s->(∀p,p∈bB F T d s↔isoL n F T p/\gg n p s)/\eR (bB F T d s)
 |0,s,_,_,h,_=>by omega
 |d+1,s,w,q,hd,hc=>by
  have iso:=fun {p:List Int} hl hr=>NM (n:=n) (b:=T) hf hFT (p:=p) hl hr
  have hcn:=w.cnt
  rw[bB];rcases xB (-1) s.1 0 (Int.le_refl _)with⟨h1,h2⟩|⟨h1,h2,h3⟩
  ·rw[if_pos h1]
   have all:∀x:Int,0<=x->x<n->0<=gi s.1 x:=fun x x0 x1=>Classical.byContradiction fun hh=>by
    have:=q.neg x x0 x1 hh
    refine h2 ?_
    rw[<-this];have hxl:x.toNat<s.1.length:=by rw[w.im];omega
    rw[gi,List.getD,List.getElem?_eq_getElem hxl,Option.getD_some];exact List.getElem_mem hxl
   have hrng:∀i,i<n->0<=s.1.getD i 0/\s.1.getD i 0<(n:Int):=fun i hi=>⟨all (i:Int) (by omega) (by omega),w.rg (i:Int) (by omega) (by omega)⟩
   have hmem:∀x:Int,0<=x->x<n->x∈s.2.2:=fun x x0 x1=>(q.mem x x0 x1).2 (all x x0 x1)
   refine⟨fun p=>?_,by simp[eR]⟩
   rw[List.mem_singleton]
   constructor
   ·rintro rfl
    refine⟨⟨w.im,hrng,?_,(iso w.im hrng).2 ?_⟩,fun _ _ _ _=>rfl⟩
    ·refine List.pairwise_iff_getElem.2 fun i j hi hj hij e=>?_
     have hl:=w.im
     have:=q.inj (i:Int) (j:Int) (by omega) (by omega) (by omega) (by omega) (all _ (by omega) (by omega)) (by simp[gi,List.getD,hi,hj,e])
     omega
    ·rw[TT.iff hFT]
     intro k hk x y x0 x1 y0 y1
     exact(TT.iff hFT).1 (hc x (hmem x x0 x1) y (hmem y y0 y1) (by simp) (by simp)) k hk
   ·rintro⟨hi,he⟩
    exact Gk hi.len w.im fun z z0 z1=>he z z0 z1 (all z z0 z1)
  ·have hx0:=h1
   rw[if_neg (by omega)]
   have hxg:gi s.1 (bd (-1) s.1 0)=-1:=by simpa[gi]using h3
   have hxn:bd (-1) s.1 0<(n:Int):=by rw[w.im]at h2;omega
   have hfst:∀j:Nat,(j:Int)<bd (-1) s.1 0->0<=gi s.1 (j:Int):=fun j hj=>Classical.byContradiction fun hh=>by
    have:=q.neg (j:Int) (by omega) (by omega) hh
    exact F0 (-1) s.1 0 (Int.le_refl _) j (by omega) (by simpa[gi]using this)
   generalize bd (-1) s.1 0=x at *
   have step:∀v:Nat,v<n->¬ s.2.1.getD v false=true->(aF F T 101 x v s).1=true->(∀p,p∈bB F T d (aF F T 101 x v s).2↔isoL n F T p/\gg n p (aF F T 101 x v s).2)/\eR (bB F T d (aF F T 101 x v s).2)/\(∀p,gg n p (aF F T 101 x v s).2->gg n p s/\gi p x=v):=fun v hv hu ha=>by
    have m1:=kZ hf ht 101 x (v:Int) s hx0 hxn (by omega) (by omega) w
    have hl:b9 (aF F T 101 x (v:Int) s).2.1+1<=b9 s.1:=Gp hf ht (d:=100) (v:=(v:Int)) hx0 hxn (by omega) (by omega) w (by omega) (by simpa using hu)
    obtain⟨c1,c2⟩:=Gv hf ht 101 [] x (v:Int) s hx0 hxn (by omega) (by omega) w hc ha
    obtain⟨i1,i2⟩:=F3 hn hFT hf ht d _ m1.wf (m1.hon q) (by omega) c1
    exact⟨i1,i2,fun p hp=>⟨fun z z0 z1 hz=>by rw[<-m1.keep z z0 z1 hz];exact hp z z0 z1 (by rw[m1.keep z z0 z1 hz];exact hz),by rw[<-c2];exact hp x hx0 hxn (by rw[c2];omega)⟩⟩
   refine⟨fun p=>?_,?_⟩
   ·rw[xu]
    constructor
    ·rintro⟨v,_,h5,h6,h7,h8⟩
     have h5:v<n:=by rw[w.im]at h5;omega
     obtain⟨i1,_,i3⟩:=step v h5 h6 h7;obtain⟨j1,j2⟩:=(i1 p).1 h8;exact⟨j1,(i3 p j2).1⟩
    ·rintro⟨hi,he⟩
     have hr:=hi.rng x.toNat (by omega)
     have hpx:gi p x=((gi p x).toNat:Int):=by simp only[gi];omega
     have hv:(gi p x).toNat<n:=by simp only[gi];omega
     obtain⟨c1,c2⟩:=Gt hi.len hi.nd hf ht ((iso hi.len hi.rng).1 hi.ok) 101 x ((gi p x).toNat:Int) s hx0 hxn (by omega) (by omega) w q (by omega) he hpx
     have hu:¬ s.2.1.getD (gi p x).toNat false=true:=fun hu=>by
      obtain⟨z,z0,z1,hz⟩:=(q.us ((gi p x).toNat:Int) (by omega) (by omega)).1 (by rw[Int.toNat_natCast];exact hu)
      have e:=he z z0 z1 (by omega)
      have:=Gs hi.len hi.nd ⟨z0,z1⟩ ⟨hx0,hxn⟩ (by rw[e,hz];exact hpx.symm)
      subst this;omega
     obtain⟨i1,_,_⟩:=step _ hv hu c1;exact⟨(gi p x).toNat,Nat.zero_le _,by rw[w.im];omega,hu,c1,(i1 p).2 ⟨hi,c2⟩⟩
   ·refine F2 _ _ (fun v _ h5 h6 h7=>(step v (by rw[w.im]at h5;omega) h6 h7).2.1) (fun v v' _ hvv h5 h6 h6' h7 h7' p hp r hr=>?_)
    have h5':v'<n:=by rw[w.im]at h5;omega
    obtain⟨i1,_,i3⟩:=step v (by omega) h6 h7
    obtain⟨j1,_,j3⟩:=step v' h5' h6' h7';obtain⟨a1,a2⟩:=(i1 p).1 hp;obtain⟨b1,b2⟩:=(j1 r).1 hr;obtain⟨e1,e2⟩:=i3 p a2;obtain⟨f1,f2⟩:=j3 r b2;refine F1 p r x.toNat (by rw[a1.len];omega) (by rw[a1.len,b1.len]) (fun j hj=>?_) ?_
    ·have hz:=hfst j (by omega)
     have q1:=e1 (j:Int) (by omega) (by omega) hz
     have q2:=f1 (j:Int) (by omega) (by omega) hz
     simpa[gi]using q1.trans q2.symm
    ·show gi p x<gi r x
     rw[e2,f2];omega
theorem kX{fr tt:List (List (List Int))}(h:kW fr tt):(∀p,p∈cX fr tt↔bu tt=bu fr/\isoL (bu fr) fr tt p)/\eR (cX fr tt):=by
 obtain⟨h1,h2,h3,h4,hf,ht⟩:=h;rw[cX];split
 ·rename_i e
  obtain⟨a,b⟩:=F3 h4 h2 hf (ht e) 101 (eH (bu fr)) (FR _) (FT _) (by rw[eH,xr];omega) (fun a ha=>by simp[eH]at ha)
  refine⟨fun p=>?_,b⟩
  rw[a p];exact⟨fun k=>⟨e,k.1⟩,fun k=>⟨k.2,fun z z0 z1 hz=>by simp only[eH]at hz;rw[mM z0 z1]at hz;omega⟩⟩
 ·rename_i e
  exact⟨fun p=>⟨fun k=>(by cases k),fun k=>absurd k.1 e⟩,List.Pairwise.nil⟩
end
def rB(l:List Int):Post:=⟨l.length≠0/\ah l.length,.c (.ints 2 .i64 l),[]⟩
def rC:List AD->Option Post
 | [.c (.ints .i64 l)]=>some (rB l)
 |_=>none
def F4:List (Nat×Ctr):=[]
def xv(l:List Int):Prop :=
 FC.len (FC.ints IntKind.i64 l)≠(0:Nat)/\ah (([]:List Int).length+l.length)/\[]++l=l/\True
theorem NN(l:List Int):aY Tryz.prog (aj F4) am av Tryz.f82 (aP Tryz.f82) [] [.c (.ints .i64 l)] (rB l)=xv l:=by kernel_rfl
theorem NO(l:List Int)(Yh:(rB l).pre):xv l:=by
 simp only[rB,xv,aX,u1,u2,u3,u4,u5,u6,u7,u8,u9,v1,v2,v3,v4,v5,v6,v7,v8,v9,w1,w2,w3,w4,aN,ab,ac,ah,ax]at Yh⊢;obtain⟨a,b⟩:=Yh;exact⟨a,by omega,rfl⟩
theorem F5:Fits Tryz.prog 82 ⟨[],rC⟩:=by
 refine bf (Γ:=aj F4) aW Tryz.func82 fun ds p h hp=>?_
 unfold rC at h;split at h
 ·cases h
  exact⟨am,av,by rw[NN];exact NO _  hp⟩
 ·cases h
def F6(fr:List (List (List Int)))(tt:List (List (List Int))):SV:=.fn 129 [.ptr 400 0,.ptr 401 0]
def F7(fr:List (List (List Int)))(tt:List (List (List Int))):List MA:=[]
def F8(fr:List (List (List Int)))(tt:List (List (List Int))):List (Nat×Ob):=[(400,(.box [.own 402])),(401,(.box [.own 403])),(402,(.lst 0 22 (.r3 .i64 fr))),(403,(.lst 0 22 (.r3 .i64 tt)))]
def rD(fr:List (List (List Int)))(tt:List (List (List Int))):Post:=⟨True,.st (F6 fr tt) (F8 fr tt) (F7 fr tt),[]⟩
def rE:List AD->Option Post
 | [.ma (.m (.ob (.lst 0 22 (.r3 .i64 fr)))),.ma (.m (.ob (.lst 0 22 (.r3 .i64 tt))))]=>some (rD fr tt)
 |_=>none
def F9:List (Nat×Ctr):=[]
def xw(fr:List (List (List Int)))(tt:List (List (List Int))):Prop :=
 fr=fr/\tt=tt
theorem NP(fr:List (List (List Int)))(tt:List (List (List Int))):kE Tryz.prog (aj F9) am av Tryz.f76 (aP Tryz.f76) [.m (.ob (.lst 0 22 (.r3 .i64 fr))),.m (.ob (.lst 0 22 (.r3 .i64 tt)))] (F6 fr tt) (gn 0 (F7 fr tt)++gK (F8 fr tt))=xw fr tt:=by kernel_rfl
theorem NQ(fr:List (List (List Int)))(tt:List (List (List Int)))(Yh:(rD fr tt).pre):xw fr tt:=by
 simp only[rD,xw,aX,u1,u2,u3,u4,u5,u6,u7,u8,u9,v1,v2,v3,v4,v5,v6,v7,v8,v9,w1,w2,w3,w4,aN,ab,ac,ah,ax]at Yh⊢
theorem NR:Fits Tryz.prog 76 ⟨[(0,93),(0,93)],rE⟩:=by
 refine nL (Γ:=aj F9) aW Tryz.func76 (by kernel_rfl) (by kernel_rfl) (fun ads p h=>?_) fun mas q sv ex outs h hq=>?_
 ·unfold rE at h
  split at h
  ·cases h;rfl
  ·cases h
 ·unfold rE at h
  split at h
  ·rename_i heq
   have heq:=md (l:=[_,_]) heq
   subst heq;unfold rD at h;cases h;exact⟨am,av,by rw[NP];exact NQ _ _  hq⟩
  ·cases h
theorem Ga:∀(l pre:List (List Int)),ba (fun _ _=>true) pre l=(pre++l,true)
 | [],pre=>by simp[ba]
 |x::l,pre=>by rw[ba,if_pos rfl,Ga l];simp
theorem Gb{ok:List (List Int)->List Int->Prop}(M:Nat):∀(l pre:List (List Int)),(∀pre' x,x∈l->pre'.length<M->ok pre' x)->pre.length+l.length<=M->eo ok (fun _ _=>true) pre l
 | [],pre,_,_=>trivial
 |x::l,pre,h,hM=>by
  simp only[List.length_cons]at hM;exact⟨h pre x List.mem_cons_self (by omega),fun _=>Gb M l (pre++[x]) (fun pre' y hy=>h pre' y (List.mem_cons_of_mem _ hy)) (by simp;omega)⟩
def rF(t:List (List Int)):Post:=⟨1<=t.length/\kW [t] [t]/\(cX [t] [t]).length<=1000000000,.c (.rows 62 2 .i64 (cX [t] [t])),[]⟩
def rG:List AD->Option Post
 | [.c (.rows .i64 t)]=>some (rF t)
 |_=>none
def Gc(t:List (List Int)):Nat->Option Ann
 |0=>some (Ann.rf 2 (fun _ _=>true) (fun pre x=>pre.length<1000000000/\1<=x.length/\x.length<=100) [600] [(3,.c (.ptr 600 0))] (fun pre=>[(600,some (.box [.own 601])),(601,some (.rows 0 62 2 .i64 pre))]) (fun pre=>[(600,some (.box [.own 601])),(601,some (.rows 0 62 2 .i64 pre))]))
 |_=>none
def Gd:List (Nat×Ctr):=[(76,⟨[(0,93),(0,93)],rE⟩),(129,⟨[(0,93),(0,93)],rA⟩),(82,⟨[],rC⟩)]
def gb(t:List (List Int)):=(t::([]:List (List (List Int))))
def xx(t:List (List Int)):Prop :=
 True/\(∀p:List (List Int),(true=true/\true=true))/\(([]:List (List Int))=([]:List (List Int))/\t::([]:List (List (List Int)))=t::([]:List (List (List Int)))/\t::([]:List (List (List Int)))=t::([]:List (List (List Int))))/\(∀p0:List (List Int),(∀x1:List Int,p0.length<(1000000000:Nat)/\(1:Nat)<=x1.length/\x1.length<=(100:Nat)->((x1.length≠(0:Nat)/\ah x1.length)/\True)/\ah (p0.length+(x1::([]:List (List Int))).length)/\true=true/\x1=x1/\p0++x1::([]:List (List Int))=p0++x1::([]:List (List Int))))/\∀Y2:YJ,YJ.P Y2=Go.Proofs.Tryz.prog->YJ.e Y2=(2:Go.TypeId)->(YJ.go Y2=fun(x:List (List Int)) (x_1:List Int)=>true)->(YJ.ok Y2=fun(pre:List (List Int)) (x:List Int)=>pre.length<(1000000000:Nat)/\(1:Nat)<=x.length/\x.length<=(100:Nat))->(kW (gb t) (gb t)/\YJ.P Y2=Go.Proofs.Tryz.prog/\YJ.e Y2=(2:Go.TypeId)/\eo (YJ.ok Y2) (YJ.go Y2) ([]:List (List Int)) (cX (gb t) (gb t)))/\Y2=Y2/\((ba (YJ.go Y2) ([]:List (List Int)) (cX (gb t) (gb t))).2=true->(ba (YJ.go Y2) ([]:List (List Int)) (cX (gb t) (gb t))).1=cX (gb t) (gb t)/\True)/\((ba (YJ.go Y2) ([]:List (List Int)) (cX (gb t) (gb t))).2=false->False)
theorem NS(t:List (List Int)):aY Tryz.prog (aj Gd) am (Gc t) Tryz.f87 (aP Tryz.f87) [] [.c (.rows .i64 t)] (rF t)=xx t:=by kernel_rfl
theorem NT(t:List (List Int))(Yh:(rF t).pre):xx t:=by
 simp only[rF,xx,gb,aX,u1,u2,u3,u4,u5,u6,u7,u8,u9,v1,v2,v3,v4,v5,v6,v7,v8,v9,w1,w2,w3,w4,aN,ab,ac,ah,ax]at Yh⊢;obtain⟨h1,h2,h3⟩:=Yh;refine⟨fun _=>trivial,fun p x h=>⟨⟨by omega,by omega⟩,by omega⟩,fun Y q1 q2 q3 q4=>?_⟩
 rw[q3,q4,Ga];have hn:bu [t]=t.length:=rfl
 have h100:=h2.2.2.2.1
 exact⟨⟨h2,q1,q2,Gb 1000000000 _ [] (fun pre' x hx hp=>⟨hp,by
  have:=(((kX h2).1 x).1 hx).2.len;omega,by
  have:=(((kX h2).1 x).1 hx).2.len;omega⟩) (by simpa using h3)⟩,fun _=>by simp,fun h=>by cases h⟩
theorem Ge:Fits Tryz.prog 87 ⟨[],rG⟩:=by
 refine bf (Γ:=aj Gd) (aD NR (aD NI (aD F5 aW))) Tryz.func87 fun ds p h hp=>?_
 unfold rG at h;split at h
 ·cases h
  exact⟨am,Gc _ ,by rw[NS];exact NT _  hp⟩
 ·cases h
end Go.Sx
