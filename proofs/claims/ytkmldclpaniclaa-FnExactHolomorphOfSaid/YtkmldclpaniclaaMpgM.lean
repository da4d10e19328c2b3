/- MpgM -/
import Derived.Test.YtkmldclpaniclaaMpgC
import Derived.Test.YtkmldclpaniclaaMpgL
open Go Go.Proofs
namespace Go.Sx
set_option linter.unusedSimpArgs false
set_option linter.unusedVariables false
def nT0 (fr:List (List (List Int))):Nat:=(fr.getD 0 []).length
def isoZ (n:Nat):MS:=(List.replicate n (-1),List.replicate n false,[])
def isoS (fr tt:List (List (List Int))):List (List Int):=if nT0 tt=nT0 fr then extL fr tt 101 (isoZ (nT0 fr)) else []
def IsoPre (fr tt:List (List (List Int))):Prop:=1≤fr.length∧fr.length=tt.length∧fr.length≤100∧nT0 fr≤100∧TabN (nT0 fr) fr∧(nT0 tt=nT0 fr→TabN (nT0 fr) tt)
theorem frees_z (n:Nat):frees (List.replicate n (-1))=n:=by
 induction n with
 | zero=>rfl
 | succ n ih=>rw [List.replicate_succ,frees,List.countP_cons];rw [frees] at ih;rw [ih];simp
theorem gi_z {n:Nat} {x:Int} (h:0≤x) (k:x<n):gi (List.replicate n (-1)) x=-1:=by
 have:x.toNat<n:=by omega
 simp [gi,List.getD,this]
theorem isoZ_wf (n:Nat):MW n (isoZ n):=⟨by simp [isoZ],by simp [isoZ],fun x hx=>by simp [isoZ] at hx,fun z h0 h1=>by rw [isoZ,gi_z h0 h1];omega,by simp [isoZ,frees_z]⟩
theorem isoZ_hon (n:Nat):MI n (isoZ n):=⟨by simp [isoZ],fun x h0 h1=>by simp only [isoZ];rw [gi_z h0 h1];simp,fun x h0 h1 _=>by rw [isoZ,gi_z h0 h1],fun x y h0 h1 _ _ h=>by simp only [isoZ] at h;rw [gi_z h0 h1] at h;omega,fun v h0 h1=>by
 simp only [isoZ]
 constructor
 ·intro h
  have:v.toNat<n:=by omega
  simp [List.getD,this] at h
 ·rintro ⟨x,x0,x1,e⟩
  rw [gi_z x0 x1] at e;omega⟩
def isos1_sv (Y:YJ) (fr:List (List (List Int))) (tt:List (List (List Int))):SV:=.tup []
def isos1_outs (Y:YJ) (fr:List (List (List Int))) (tt:List (List (List Int))):List MA:=[.m (.ob (.yd (visit Y.go [] (isoS fr tt)).1.length Y (visit Y.go [] (isoS fr tt)).1 (visit Y.go [] (isoS fr tt)).2)),.box [.c (.r3 .i64 (fr))],.box [.c (.r3 .i64 (tt))]]
def isos1_ex (Y:YJ) (fr:List (List (List Int))) (tt:List (List (List Int))):List (Nat×Ob):=[]
def isos1_p (Y:YJ) (fr:List (List (List Int))) (tt:List (List (List Int))):Post:=⟨IsoPre fr tt∧Y.P=Try.prog∧Y.e=2∧visOk Y.ok Y.go [] (isoS fr tt),.st (isos1_sv Y fr tt) (isos1_ex Y fr tt) (isos1_outs Y fr tt),[]⟩
def isos1_ct:List AD→Option Post
 | [.ma (.m (.ob (.yd 0 Y [] true))),.ma (.box [.c (.r3 .i64 (fr))]),.ma (.box [.c (.r3 .i64 (tt))])]=>some (isos1_p Y fr tt)
 | _=>none
def isos1_ann (Y:YJ) (fr:List (List (List Int))) (tt:List (List (List Int))):Nat→Option Ann
 | 0=>some (Ann.mk ((Nat)) (fun i=>⟨[(0,.c (.own (7000))),(1,.c (.ptr 7100 0)),(2,.c (.ptr 7200 0)),(5,.c (.ptr 500 0)),(26,.c (.int .i64 ((nT0 fr:Int)))),(27,.c (.int .i64 ((i:Int))))],[(7000,some (.yd 0 Y [] true)),(7100,some (.box [.ro (.r3 .i64 (fr))])),(7200,some (.box [.ro (.r3 .i64 (tt))])),(500,some (.box [.ro (.r3 .i64 (fr)),.ro (.r3 .i64 (tt)),.own (501),.own (502),.nil])),(501,some (.ints 2 .i64 ((List.replicate i (-1)++List.replicate (nT0 fr - i) 0)))),(502,some (.bools 4 ((List.replicate (nT0 fr) false))))]⟩) (fun i=>i≤nT0 fr) (fun i=>nT0 fr - i) (fun _=>noAnn))
 | _=>none
def isos1_G:List (Nat×Ctr):=[(62,⟨[(0,93),(0,93)],extend_ct 101⟩)]
def isos1_c1 (fr:List (List (List Int))):=(↑((fr.getD (0:Nat) ([]:List (List Int))).length):Int)
def isos1_c2 (fr:List (List (List Int))) (x0:Nat):=(List.replicate x0 (-1:Int)++List.replicate (nT0 fr - x0) (0:Int),List.replicate (nT0 fr) false,([]:List Int))
def isos1_V (Y:YJ) (fr:List (List (List Int))) (tt:List (List (List Int))):Prop :=
 ((inB (0:Int) (fr.length))∧((inB (0:Int) (tt.length))∧(BrP ((↑((tt.getD (0:Nat) ([]:List (List Int))).length):Int) != (↑((fr.getD (0:Nat) ([]:List (List Int))).length):Int)) (((0:Nat)=((visit (YJ.go Y) ([]:List (List Int)) (isoS fr tt)).1).length)∧((Y=Y)∧((([]:List (List Int))=(visit (YJ.go Y) ([]:List (List Int)) (isoS fr tt)).1)∧((true=(visit (YJ.go Y) ([]:List (List Int)) (isoS fr tt)).2)∧((fr=fr)∧(tt=tt)))))) ((((0:Int)≤(isos1_c1 fr))∧(((isos1_c1 fr)≤(isos1_c1 fr))∧(room ((isos1_c1 fr).toNat))))∧((((0:Int)≤(isos1_c1 fr))∧(((isos1_c1 fr)≤(isos1_c1 fr))∧(room ((isos1_c1 fr).toNat))))∧((∃x0:Nat,((x0≤nT0 fr)∧(((↑((List.replicate ((isos1_c1 fr).toNat) (0:Int)).length):Int)=(↑(nT0 fr):Int))∧(((0:Int)=(↑x0:Int))∧(((0:Nat)=(0:Nat))∧((Y=Y)∧((([]:List (List Int))=([]:List (List Int)))∧((true=true)∧((fr=fr)∧((tt=tt)∧((fr=fr)∧((tt=tt)∧((List.replicate ((isos1_c1 fr).toNat) (0:Int)=List.replicate x0 (-1:Int)++List.replicate (nT0 fr - x0) (0:Int))∧(List.replicate ((isos1_c1 fr).toNat) false=List.replicate (nT0 fr) false))))))))))))))∧(∀x1:Nat,((x1≤nT0 fr)→(BrP (decide ((↑x1:Int)<(↑(nT0 fr):Int))) ((inB (↑x1:Int) ((List.replicate x1 (-1:Int)++List.replicate (nT0 fr - x1) (0:Int)).length))∧((InR ((↑x1:Int)+(1:Int)))∧(∃x2:Nat,((x2≤nT0 fr)∧((nT0 fr - x2<nT0 fr - x1)∧(((↑(nT0 fr):Int)=(↑(nT0 fr):Int))∧(((↑x1:Int)+(1:Int)=(↑x2:Int))∧(((0:Nat)=(0:Nat))∧((Y=Y) ∧
 ((([]:List (List Int))=([]:List (List Int)))∧((true=true)∧((fr=fr)∧((tt=tt)∧((fr=fr)∧((tt=tt)∧((List.set (List.replicate x1 (-1:Int)++List.replicate (nT0 fr - x1) (0:Int)) ((↑x1:Int).toNat) (-1:Int)=List.replicate x2 (-1:Int)++List.replicate (nT0 fr - x2) (0:Int))∧(List.replicate (nT0 fr) false=List.replicate (nT0 fr) false))))))))))))))))) (((ExtPre ((List.replicate x1 (-1:Int)++List.replicate (nT0 fr - x1) (0:Int)).length) fr tt (isos1_c2 fr x1))∧((frees (List.replicate x1 (-1:Int)++List.replicate (nT0 fr - x1) (0:Int))<(101:Nat))∧((YJ.P Y=Go.Proofs.Try.prog)∧((YJ.e Y=(2:Go.TypeId))∧(visOk (YJ.ok Y) (YJ.go Y) ([]:List (List Int)) (extL fr tt (101:Nat) (isos1_c2 fr x1)))))))∧(((0:Nat)+(((visit (YJ.go Y) ([]:List (List Int)) (extL fr tt (101:Nat) (isos1_c2 fr x1))).1).length - ([]:List (List Int)).length)=((visit (YJ.go Y) ([]:List (List Int)) (isoS fr tt)).1).length)∧((Y=Y)∧(((visit (YJ.go Y) ([]:List (List Int)) (extL fr tt (101:Nat) (isos1_c2 fr x1))).1=(visit (YJ.go Y) ([]:List (List Int)) (isoS fr tt)).1)∧(((visit (YJ.go Y) ([]:List (List Int)) (extL fr tt (101:Nat) (isos1_c2 fr x1))).2=(visit (YJ.go Y) ([]:List (List Int)) (isoS fr tt)).2)∧((fr=fr)∧(tt=tt))))))))))))))))
theorem isos1_vc (Y:YJ) (fr:List (List (List Int))) (tt:List (List (List Int))):runS Try.prog (gam isos1_G) noWr (isos1_ann Y fr tt) Try.f61 (bodyOf Try.f61) [.m (.ob (.yd 0 Y [] true)),.box [.c (.r3 .i64 (fr))],.box [.c (.r3 .i64 (tt))]] (isos1_sv Y fr tt) (masO 0 (isos1_outs Y fr tt)++exO (isos1_ex Y fr tt))=isos1_V Y fr tt:=by kernel_rfl
theorem isos1_ok (Y:YJ) (fr:List (List (List Int))) (tt:List (List (List Int))) (hpre:(isos1_p Y fr tt).pre):isos1_V Y fr tt:=by
 simp only [isos1_p,isos1_V,isos1_c1,isos1_c2,BrP_iff,u1,u2,u3,u4,u5,u6,u7,u8,u9,v1,v2,v3,v4,v5,v6,v7,v8,v9,w1,w2,w3,w4,markL_length,inB,InR,room,bdsOk] at hpre ⊢
 obtain ⟨⟨h1,h2,h3,h4,hf,ht⟩,hP,he,hok⟩:=hpre
 refine ⟨⟨by omega,by omega⟩,⟨by omega,by omega⟩,fun hne=>?_,fun heq=>⟨⟨by omega,by omega,?_⟩,⟨by omega,by omega,?_⟩,⟨0,Nat.zero_le _,rfl,rfl,by simp [nT0],rfl⟩,fun i hi=>⟨fun hlt=>?_,fun hge=>?_⟩⟩⟩
 ·have e:isoS fr tt=[]:=if_neg (fun e=>hne (by simp only [nT0] at e;omega))
  rw [e];exact ⟨rfl,rfl,rfl⟩
 ·simp only [nT0] at h4;omega
 ·simp only [nT0] at h4;omega
 ·refine ⟨by omega,by omega,i+1,by omega,by omega,by omega,?_⟩
  have:nT0 fr - i=(nT0 fr - (i+1))+1:=by omega
  rw [this,List.replicate_succ,List.set_append_right _ _ (by simp)]
  simp [List.replicate_succ']
 ·have ei:i=nT0 fr:=by omega
  subst ei
  have en:nT0 tt=nT0 fr:=by simp only [nT0];omega
  have e:isoS fr tt=extL fr tt 101 (isoZ (nT0 fr)):=if_pos en
  simp only [Nat.sub_self,List.replicate_zero,List.append_nil,Nat.add_zero,Nat.sub_zero,Nat.zero_add]
  rw [e] at hok ⊢
  exact ⟨⟨⟨⟨h4,h2,h3,hf,ht en,isoZ_wf _⟩,isoZ_hon _⟩,by rw [frees_z];omega,hP,he,hok⟩,rfl,rfl,rfl⟩
theorem isos1_fits:Fits Try.prog 61 ⟨[(0,93),(0,93)],isos1_ct⟩:=by
 refine fits_sfn (Γ:=gam isos1_G) (gok_cons (extend_fits 101) gok_nil) Try.func61 (by kernel_rfl) (by kernel_rfl) (fun ads p h=>?_) fun mas q sv ex outs h hq=>?_
 ·unfold isos1_ct at h
  split at h
  ·cases h;rfl
  ·cases h
 ·unfold isos1_ct at h
  split at h
  ·rename_i heq
   have heq:=ma_inj (l:=[_,_,_]) heq
   subst heq
   unfold isos1_p at h
   cases h
   exact ⟨noWr,isos1_ann _ _ _ ,by rw [isos1_vc];exact isos1_ok _ _ _  hq⟩
  ·cases h
theorem idxL_first (x:Int):∀(l:List Int) (k:Int),0≤k→∀j:Nat,(j:Int)+k<idxL x l k→l.getD j 0≠x
 | [],k,hk,j,h=>by simp [idxL] at h;omega
 | y::l,k,hk,j,h=>by
  rw [idxL] at h
  by_cases e:y=x
  ·rw [if_pos e] at h;omega
  ·rw [if_neg e] at h
   cases j with
   | zero=>simpa using e
   | succ j =>
    rw [List.getD_cons_succ]
    exact idxL_first x l (k+1) (by omega) j (by push_cast at h;omega)
theorem lexB_of:∀(a b:List Int) (i:Nat),i<a.length→a.length=b.length→(∀j,j<i→a.getD j 0=b.getD j 0)→a.getD i 0<b.getD i 0→lexB a b=true
 | [],_,i,h,_,_,_=>by simp at h
 | _::_,[],_,_,h,_,_=>by simp at h
 | x::a,y::b,i,hi,hl,hj,hlt=>by
  rw [lexB]
  cases i with
  | zero =>
   simp only [List.getD_cons_zero] at hlt
   rw [if_neg (by omega)];simpa using hlt
  | succ i =>
   have h0:=hj 0 (by omega)
   simp only [List.getD_cons_zero] at h0
   rw [if_pos h0]
   refine lexB_of a b i (by simpa using hi) (by simpa using hl) (fun j hj'=>?_) (by simpa using hlt)
   have:=hj (j+1) (by omega)
   simpa using this
theorem srtK_eq {a b:List (List Int)} (ha:srtK a) (hb:srtK b) (h:∀g,g∈a↔g∈b):a=b:=by
 have hp:a.Perm b:=(List.perm_ext_iff_of_nodup (srtK_nodup ha) (srtK_nodup hb)).2 h
 exact List.Perm.eq_of_pairwise (le:=fun x y=>lexB x y=true) (fun x y _ _ h1 h2=>by have:=lexB_tr _ _ _ h1 h2;rw [lexB_irr] at this;cases this) ha hb hp
theorem tsN_Tab {n:Nat} {a:List (List (List Int))} (h:tsN n a):TabN n a:=fun t ht=>by
 obtain ⟨k,hk,e⟩:=List.mem_iff_getElem.1 ht
 have:=h k hk
 rw [List.getD,List.getElem?_eq_getElem hk,Option.getD_some,e] at this
 refine ⟨this.1,fun x y hx hxn=>?_⟩
 obtain ⟨h1,h2⟩:=this.2 x.toNat (by omega)
 exact ⟨h1,fun hy hyn=>h2 y.toNat (by omega)⟩
theorem isoL_hom {n:Nat} {a b:List (List (List Int))} (ha:TabN n a) (hab:a.length=b.length) {p:List Int} (hl:p.length=n) (hr:∀i,i<n→0≤p.getD i 0∧p.getD i 0<(n:Int)):okM a b p↔TT (Hom n p) a b:=by
 rw [TT.iff hab]
 constructor
 ·intro h k hk x y hx hxn hy hyn
  have t0:=((ha (a.getD k []) (by rw [List.getD,List.getElem?_eq_getElem hk];exact List.getElem_mem hk)).2 x y hx hxn).2 hy hyn
  exact h k x.toNat y.toNat hk (by omega) (by omega) (by rw [hl];exact t0.2)
 ·intro h k x y hk hx hy _
  exact h k hk (x:Int) (y:Int) (by omega) (by omega) (by omega) (by omega)
section
variable {n:Nat} {F T:List (List (List Int))}
theorem extR_mem {E:MS→List (List Int)} {s:MS} {x:Int} {p:List Int}:∀(e v:Nat),p∈extR F T E s x e v↔∃w:Nat,v≤w∧w<v+e∧¬ s.2.1.getD w false=true∧(asg F T 101 x w s).1=true∧p∈E (asg F T 101 x w s).2
 | 0,v=>by simp [extR];intro w h1 h2;omega
 | e+1,v=>by
  rw [extR,List.mem_append,extR_mem e (v+1)]
  constructor
  ·rintro (h | ⟨w,h1,h2,h3⟩)
   ·split at h
    ·cases h
    ·split at h
     ·rename_i h1 h2;exact ⟨v,Nat.le_refl _,by omega,h1,h2,h⟩
     ·cases h
   ·exact ⟨w,by omega,by omega,h3⟩
  ·rintro ⟨w,h1,h2,h3,h4,h5⟩
   by_cases e2:w=v
   ·subst e2;left;rw [if_neg h3,if_pos h4];exact h5
   ·exact .inr ⟨w,by omega,by omega,h3,h4,h5⟩
theorem extR_srt {E:MS→List (List Int)} {s:MS} {x:Int}:∀(e v:Nat),(∀w:Nat,v≤w→w<v+e→¬ s.2.1.getD w false=true→(asg F T 101 x w s).1=true→srtK (E (asg F T 101 x w s).2))→(∀w w':Nat,v≤w→w<w'→w'<v+e→¬ s.2.1.getD w false=true→¬ s.2.1.getD w' false=true→(asg F T 101 x w s).1=true→(asg F T 101 x w' s).1=true→∀p∈E (asg F T 101 x w s).2,∀q∈E (asg F T 101 x w' s).2,lexB p q=true) →
  srtK (extR F T E s x e v)
 | 0,v,_,_=>by rw [extR];exact List.Pairwise.nil
 | e+1,v,h1,h2=>by
  rw [extR]
  refine List.pairwise_append.2 ⟨?_,extR_srt e (v+1) (fun w a b=>h1 w (by omega) (by omega)) (fun w w' a b c=>h2 w w' (by omega) b (by omega)),fun p hp q hq=>?_⟩
  ·split
   ·exact List.Pairwise.nil
   ·split
    ·rename_i a b;exact h1 v (Nat.le_refl _) (by omega) a b
    ·exact List.Pairwise.nil
  ·obtain ⟨w,a1,a2,a3,a4,a5⟩:=(extR_mem e (v+1)).1 hq
   split at hp
   ·cases hp
   ·split at hp
    ·rename_i b1 b2;exact h2 v w (Nat.le_refl _) (by omega) (by omega) b1 a3 b2 a4 p hp q a5
    ·cases hp
theorem extL_ok (hn:n≤100) (hFT:F.length=T.length) (hf:TabN n F) (ht:TabN n T):∀(d:Nat) (s:MS),MW n s→MI n s→frees s.1<d→Cl F T [] s→(∀p,p∈extL F T d s↔isoL n F T p∧Ext n p s)∧srtK (extL F T d s)
 | 0,s,_,_,h,_=>by omega
 | d+1,s,w,q,hd,hc=>by
  have iso:=fun {p:List Int} hl hr=>isoL_hom (n:=n) (b:=T) hf hFT (p:=p) hl hr
  have hcn:=w.cnt
  rw [extL]
  rcases idxL_at (-1) s.1 0 (Int.le_refl _) with ⟨h1,h2⟩ | ⟨h1,h2,h3⟩
  ·rw [if_pos h1]
   have all:∀x:Int,0≤x→x<n→0≤gi s.1 x:=fun x x0 x1=>Classical.byContradiction fun hh=>by
    have:=q.neg x x0 x1 hh
    refine h2 ?_
    rw [←this]
    have hxl:x.toNat<s.1.length:=by rw [w.im];omega
    rw [gi,List.getD,List.getElem?_eq_getElem hxl,Option.getD_some]
    exact List.getElem_mem hxl
   have hrng:∀i,i<n→0≤s.1.getD i 0∧s.1.getD i 0<(n:Int):=fun i hi=>⟨all (i:Int) (by omega) (by omega),w.rg (i:Int) (by omega) (by omega)⟩
   have hmem:∀x:Int,0≤x→x<n→x∈s.2.2:=fun x x0 x1=>(q.mem x x0 x1).2 (all x x0 x1)
   refine ⟨fun p=>?_,by simp [srtK]⟩
   rw [List.mem_singleton]
   constructor
   ·rintro rfl
    refine ⟨⟨w.im,hrng,?_,(iso w.im hrng).2 ?_⟩,fun _ _ _ _=>rfl⟩
    ·refine List.pairwise_iff_getElem.2 fun i j hi hj hij e=>?_
     have hl:=w.im
     have:=q.inj (i:Int) (j:Int) (by omega) (by omega) (by omega) (by omega) (all _ (by omega) (by omega)) (by simp [gi,List.getD,hi,hj,e])
     omega
    ·rw [TT.iff hFT]
     intro k hk x y x0 x1 y0 y1
     exact (TT.iff hFT).1 (hc x (hmem x x0 x1) y (hmem y y0 y1) (by simp) (by simp)) k hk
   ·rintro ⟨hi,he⟩
    exact list_gi hi.len w.im fun z z0 z1=>he z z0 z1 (all z z0 z1)
  ·have hx0:=h1
   rw [if_neg (by omega)]
   have hxg:gi s.1 (idxL (-1) s.1 0)=-1:=by simpa [gi] using h3
   have hxn:idxL (-1) s.1 0<(n:Int):=by rw [w.im] at h2;omega
   have hfst:∀j:Nat,(j:Int)<idxL (-1) s.1 0→0≤gi s.1 (j:Int):=fun j hj=>Classical.byContradiction fun hh=>by
    have:=q.neg (j:Int) (by omega) (by omega) hh
    exact idxL_first (-1) s.1 0 (Int.le_refl _) j (by omega) (by simpa [gi] using this)
   generalize idxL (-1) s.1 0=x at *
   have step:∀v:Nat,v<n→¬ s.2.1.getD v false=true→(asg F T 101 x v s).1=true→(∀p,p∈extL F T d (asg F T 101 x v s).2↔isoL n F T p∧Ext n p (asg F T 101 x v s).2)∧srtK (extL F T d (asg F T 101 x v s).2)∧(∀p,Ext n p (asg F T 101 x v s).2→Ext n p s∧gi p x=v):=fun v hv hu ha=>by
    have m1:=asg_ok hf ht 101 x (v:Int) s hx0 hxn (by omega) (by omega) w
    have hl:frees (asg F T 101 x (v:Int) s).2.1+1≤frees s.1:=asg_less hf ht (d:=100) (v:=(v:Int)) hx0 hxn (by omega) (by omega) w (by omega) (by simpa using hu)
    obtain ⟨c1,c2⟩:=asg_sound hf ht 101 [] x (v:Int) s hx0 hxn (by omega) (by omega) w hc ha
    obtain ⟨i1,i2⟩:=extL_ok hn hFT hf ht d _ m1.wf (m1.hon q) (by omega) c1
    exact ⟨i1,i2,fun p hp=>⟨fun z z0 z1 hz=>by rw [←m1.keep z z0 z1 hz];exact hp z z0 z1 (by rw [m1.keep z z0 z1 hz];exact hz),by rw [←c2];exact hp x hx0 hxn (by rw [c2];omega)⟩⟩
   refine ⟨fun p=>?_,?_⟩
   ·rw [extR_mem]
    constructor
    ·rintro ⟨v,_,h5,h6,h7,h8⟩
     have h5:v<n:=by rw [w.im] at h5;omega
     obtain ⟨i1,_,i3⟩:=step v h5 h6 h7
     obtain ⟨j1,j2⟩:=(i1 p).1 h8
     exact ⟨j1,(i3 p j2).1⟩
    ·rintro ⟨hi,he⟩
     have hr:=hi.rng x.toNat (by omega)
     have hpx:gi p x=((gi p x).toNat:Int):=by simp only [gi];omega
     have hv:(gi p x).toNat<n:=by simp only [gi];omega
     obtain ⟨c1,c2⟩:=asg_foll hi.len hi.nd hf ht ((iso hi.len hi.rng).1 hi.ok) 101 x ((gi p x).toNat:Int) s hx0 hxn (by omega) (by omega) w q (by omega) he hpx
     have hu:¬ s.2.1.getD (gi p x).toNat false=true:=fun hu=>by
      obtain ⟨z,z0,z1,hz⟩:=(q.us ((gi p x).toNat:Int) (by omega) (by omega)).1 (by rw [Int.toNat_natCast];exact hu)
      have e:=he z z0 z1 (by omega)
      have:=inj_p hi.len hi.nd ⟨z0,z1⟩ ⟨hx0,hxn⟩ (by rw [e,hz];exact hpx.symm)
      subst this
      omega
     obtain ⟨i1,_,_⟩:=step _ hv hu c1
     exact ⟨(gi p x).toNat,Nat.zero_le _,by rw [w.im];omega,hu,c1,(i1 p).2 ⟨hi,c2⟩⟩
   ·refine extR_srt _ _ (fun v _ h5 h6 h7=>(step v (by rw [w.im] at h5;omega) h6 h7).2.1) (fun v v' _ hvv h5 h6 h6' h7 h7' p hp r hr=>?_)
    have h5':v'<n:=by rw [w.im] at h5;omega
    obtain ⟨i1,_,i3⟩:=step v (by omega) h6 h7
    obtain ⟨j1,_,j3⟩:=step v' h5' h6' h7'
    obtain ⟨a1,a2⟩:=(i1 p).1 hp
    obtain ⟨b1,b2⟩:=(j1 r).1 hr
    obtain ⟨e1,e2⟩:=i3 p a2
    obtain ⟨f1,f2⟩:=j3 r b2
    refine lexB_of p r x.toNat (by rw [a1.len];omega) (by rw [a1.len,b1.len]) (fun j hj=>?_) ?_
    ·have hz:=hfst j (by omega)
     have q1:=e1 (j:Int) (by omega) (by omega) hz
     have q2:=f1 (j:Int) (by omega) (by omega) hz
     simpa [gi] using q1.trans q2.symm
    ·show gi p x<gi r x
     rw [e2,f2];omega
theorem isoS_ok {fr tt:List (List (List Int))} (h:IsoPre fr tt):(∀p,p∈isoS fr tt↔nT0 tt=nT0 fr∧isoL (nT0 fr) fr tt p)∧srtK (isoS fr tt):=by
 obtain ⟨h1,h2,h3,h4,hf,ht⟩:=h
 rw [isoS]
 split
 ·rename_i e
  obtain ⟨a,b⟩:=extL_ok h4 h2 hf (ht e) 101 (isoZ (nT0 fr)) (isoZ_wf _) (isoZ_hon _) (by rw [isoZ,frees_z];omega) (fun a ha=>by simp [isoZ] at ha)
  refine ⟨fun p=>?_,b⟩
  rw [a p]
  exact ⟨fun k=>⟨e,k.1⟩,fun k=>⟨k.2,fun z z0 z1 hz=>by simp only [isoZ] at hz;rw [gi_z z0 z1] at hz;omega⟩⟩
 ·rename_i e
  exact ⟨fun p=>⟨fun k=>(by cases k),fun k=>absurd k.1 e⟩,List.Pairwise.nil⟩
end
end Go.Sx
