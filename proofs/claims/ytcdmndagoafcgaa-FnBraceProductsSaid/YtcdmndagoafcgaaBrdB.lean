/- BrdB -/
import Derived.Test.YtcdmndagoafcgaaCirM
import Derived.Test.YtcdmndagoafcgaaDrawY
import Derived.Test.YtcdmndagoafcgaaBrcC
open Go Go.Proofs
namespace Go.Sx
set_option linter.unusedSimpArgs false
set_option linter.unusedVariables false
def pmL (l:List Int):List Int:=0::l.map fun x=>x+1
def g10a (code:List Int) (a h most:Int):Dr :=
 ((namL (1+nxV code a h most)).getD (nxV code (nxA code.length a most) (nxH h most) ((namL (1+nxV code a h most)).length:Int)).toNat [],
  nxA code.length (nxA code.length a most) ((namL (1+nxV code a h most)).length:Int),nxH (nxH h most) ((namL (1+nxV code a h most)).length:Int))
def g10p (code:List Int) (d:Dr):List Int×Int×Int:=dpS code (nxA code.length d.2.1 2) (nxH d.2.2 2) ((d.1.length:Int) - 1).toNat
def g10b (code:List Int) (d:Dr):Dr :=
 if 1<(d.1.length:Int) then
  if nxV code d.2.1 d.2.2 2=0 then (imL d.1 (pmL (g10p code d).1) d.1.length,(g10p code d).2) else (d.1,nxA code.length d.2.1 2,nxH d.2.2 2)
 else d
def g10 (code:List Int) (a h most:Int):Dr:=g10b code (g10a code a h most)
def okG (code:List Int) (m:Nat) (d:Dr):Prop:=1≤d.1.length∧d.1.length≤m∧tbN d.1.length d.1∧0≤d.2.1∧d.2.1≤(code.length:Int)
theorem tb_sq {n:Nat} {t:List (List Int)} (h:tbN n t):sqB (n:Int) t:=⟨by rw [h.1],fun i hi=>by
 have e:=h.1
 have r:=h.2 i (by omega)
 refine ⟨by rw [r.1],fun j hj=>?_⟩
 have v:=r.2 j (by omega)
 have e2:en t i j=(t.getD i []).getD j 0:=rfl
 omega⟩
theorem sq_tb {n:Nat} {t:List (List Int)} (h:sqB (n:Int) t):tbN n t:=by
 have e:=h.1
 refine ⟨by omega,fun i hi=>?_⟩
 have r:=h.2 i (by omega)
 refine ⟨by omega,fun j hj=>?_⟩
 have v:=r.2 j (by omega)
 have e2:en t i j=(t.getD i []).getD j 0:=rfl
 omega
theorem g10a_ok {code:List Int} (hb:bytesB code) {a h most:Int} (h0:0≤a) (h1:a≤(code.length:Int)) (h2:1≤most) (h3:most≤5):okG code 5 (g10a code a h most)∧(g10a code a h most).1∈namL (1+nxV code a h most)∧0≤nxV code (nxA code.length a most) (nxH h most) ((namL (1+nxV code a h most)).length:Int)∧nxV code (nxA code.length a most) (nxH h most) ((namL (1+nxV code a h most)).length:Int)<((namL (1+nxV code a h most)).length:Int):=by
 have v:=nxV_in hb a h h2
 have s:=nxA_in (n:=most) h0 h1
 have p:1≤(namL (1+nxV code a h most)).length:=by simp [namL]
 have w:=nxV_in hb (nxA code.length a most) (nxH h most) (n:=((namL (1+nxV code a h most)).length:Int)) (by omega)
 have m:(g10a code a h most).1∈namL (1+nxV code a h most):=getD_mem _ _ _ (by omega)
 obtain ⟨q1,q2,q3,_⟩:=nam_ok (by omega) (by omega) m
 have s2:=nxA_in (n:=((namL (1+nxV code a h most)).length:Int)) s.1 s.2
 exact ⟨⟨by omega,by omega,q3,s2.1,s2.2⟩,m,w.1,by omega⟩
theorem pm_get {l:List Int} {n:Nat} (hl:l.length+1=n) (hr:∀i,i<l.length→0≤l.getD i 0∧l.getD i 0≤(n:Int) - 2):(pmL l).length=n∧∀i,i<(pmL l).length→0≤(pmL l).getD i 0∧(pmL l).getD i 0≤(n:Int) - 1:=by
 have L:(pmL l).length=n:=by simp [pmL];omega
 refine ⟨L,fun i hi=>?_⟩
 cases i with
 | zero=>simp [pmL];omega
 | succ i =>
  have h:i<l.length:=by omega
  have e:(pmL l).getD (i+1) 0=l.getD i 0+1:=by
   show (l.map fun x=>x+1).getD i 0=_
   exact getD_map _ _ _ _ _ h
  have:=hr i h
  omega
theorem g10p_ok {code:List Int} (hb:bytesB code) {m:Nat} {d:Dr} (h:okG code m d):((g10p code d).1.length+1=d.1.length∧∀i,i<(g10p code d).1.length→0≤(g10p code d).1.getD i 0∧(g10p code d).1.getD i 0≤(d.1.length:Int) - 2)∧0≤(g10p code d).2.1∧(g10p code d).2.1≤(code.length:Int):=by
 obtain ⟨a1,a2,a3,a4,a5⟩:=h
 have s:=nxA_in (n:=2) a4 a5
 have D:=dp_get hb (h:=nxH d.2.2 2) s.1 s.2 ((d.1.length:Int) - 1).toNat
 have I:=dp_in hb (h:=nxH d.2.2 2) s.1 s.2 ((d.1.length:Int) - 1).toNat
 refine ⟨⟨by have:=D.1;unfold g10p;omega,fun i hi=>?_⟩,I.2.2⟩
 have:=D.2 i hi
 unfold g10p
 omega
theorem im_tb {n:Nat} {t:List (List Int)} {p:List Int} (ht:tbN n t) (hn:t.length=n) (hp:p.length=n) (hr:∀i,i<p.length→0≤p.getD i 0∧p.getD i 0≤(n:Int) - 1):tbN n (imL t p t.length):=by
 subst hn
 exact sq_tb (imL_sq (tb_sq ht) (by omega) hr t.length (Nat.le_refl _))
theorem g10b_ok {code:List Int} (hb:bytesB code) {m:Nat} {d:Dr} (h:okG code m d):okG code m (g10b code d):=by
 have P:=g10p_ok hb h
 obtain ⟨a1,a2,a3,a4,a5⟩:=h
 have s:=nxA_in (n:=2) a4 a5
 unfold g10b
 split
 ·split
  ·obtain ⟨q1,q2⟩:=pm_get P.1.1 P.1.2
   have T:=im_tb a3 rfl q1 q2
   refine ⟨?_,?_,?_,P.2.1,P.2.2⟩
   ·show 1≤(imL d.1 (pmL (g10p code d).1) d.1.length).length;rw [T.1];exact a1
   ·show (imL d.1 (pmL (g10p code d).1) d.1.length).length≤m;rw [T.1];exact a2
   ·show tbN (imL d.1 (pmL (g10p code d).1) d.1.length).length _;rw [T.1];exact T
  ·exact ⟨a1,a2,a3,s.1,s.2⟩
 ·exact ⟨a1,a2,a3,a4,a5⟩
theorem pm_take {l:List Int} {i:Nat} (h:i<l.length):pmL (l.take i)++[l.getD i 0+1]=pmL (l.take (i+1)):=by
 rw [←take_snoc l 0 i h];simp [pmL]
def l10Draw_p (code:List Int) (a:Int) (h:Int) (most:Int):Post:=⟨bytesB code∧code.length≤4096∧0≤a∧a≤(code.length:Int)∧1≤most∧most≤5,.c (.rows 22 2 .i64 ((g10 code a h most).1)),[.bx [.ints .u8 (code),.int .i64 ((g10 code a h most).2.1),.int .u64 ((g10 code a h most).2.2)]]⟩
def l10Draw_ct:List AD→Option Post
 | [.box [.ints .u8 (code),.int .i64 (a),.int .u64 (h)],.c (.int .i64 (most))]=>some (l10Draw_p code a h most)
 | _=>none
def l10Draw_ann (code:List Int) (a:Int) (h:Int) (most:Int):Nat→Option Ann
 | 1003=>some (Ann.mk ((Unit)) (fun u=>⟨[(0,.c (.ptr 700 0)),(6,.c (.own (6)))],[(6,some (.rows 0 22 2 .i64 ((g10a code a h most).1))),(700,some (.box [.orig 700 0 (.ints .u8 (code)),.int .i64 ((g10a code a h most).2.1),.int .u64 ((g10a code a h most).2.2)]))]⟩) (fun u=>True) (fun u=>0) (fun u=>fun b_=>match b_ with | 0=>some (Ann.mk ((Nat)) (fun i=>⟨[(6,.c (.own (6))),(8,.c (.own (8))),(9,.c (.own (9))),(10,.c (.int .i64 ((i:Int))))],[(6,some (.rows 0 22 2 .i64 ((g10a code a h most).1))),(8,some (.ints 2 .i64 (pmL ((g10p code (g10a code a h most)).1.take i)))),(9,some (.ints 2 .i64 ((g10p code (g10a code a h most)).1))),(700,some (.box [.orig 700 0 (.ints .u8 (code)),.int .i64 ((g10p code (g10a code a h most)).2.1),.int .u64 ((g10p code (g10a code a h most)).2.2)]))]⟩) (fun i=>i≤(g10p code (g10a code a h most)).1.length∧1<((g10a code a h most).1.length:Int)∧nxV code (g10a code a h most).2.1 (g10a code a h most).2.2 2=0) (fun i=>(g10p code (g10a code a h most)).1.length - i) (fun _=>noAnn)) | _=>none))
 | _=>none
def l10Draw_wr (t:Nat):Bool:=[3000022].contains t
def l10Draw_G:List (Nat×Ctr):=[(95,⟨[(0,0)],l01Next_ct⟩),(127,⟨[],l10Named_ct⟩),(128,⟨[(0,0)],l03DrawPerm_ct⟩),(129,⟨[],l03Image_ct⟩)]
def l10Draw_c1 (code:List Int) (a:Int) (h:Int) (most:Int):=(dpS code (nxA (code.length) (((g10a code a h most).2).1) (2:Int)) (nxH (((g10a code a h most).2).2) (2:Int)) (((↑(((g10a code a h most).1).length):Int) - (1:Int)).toNat))
def l10Draw_V (code:List Int) (a:Int) (h:Int) (most:Int):Prop :=
 ((((bytesB code)∧(((0:Int)≤a)∧(a≤(1099511627776:Int))))∧((code=code)∧True))∧((InR ((1:Int)+nxV code a h most))∧(((((1:Int)≤(1:Int)+nxV code a h most)∧((1:Int)+nxV code a h most≤(5:Int)))∧True)∧(((((bytesB code)∧(((0:Int)≤nxA (code.length) a most)∧(nxA (code.length) a most≤(1099511627776:Int))))∧((code=code)∧True))∧((inB (nxV code (nxA (code.length) a most) (nxH h most) (↑(FC.len (FC.r3 IntKind.i64 (namL ((1:Int)+nxV code a h most)))):Int)) (FC.len (FC.r3 IntKind.i64 (namL ((1:Int)+nxV code a h most)))))∧(∃x0:Unit,(True∧(((namL ((1:Int)+nxV code a h most)).getD ((nxV code (nxA (code.length) a most) (nxH h most) (↑(FC.len (FC.r3 IntKind.i64 (namL ((1:Int)+nxV code a h most)))):Int)).toNat) ([]:List (List Int))=(g10a code a h most).1)∧((code=code)∧((nxA (code.length) (nxA (code.length) a most) (↑(FC.len (FC.r3 IntKind.i64 (namL ((1:Int)+nxV code a h most)))):Int)=((g10a code a h most).2).1)∧(nxH (nxH h most) (↑(FC.len (FC.r3 IntKind.i64 (namL ((1:Int)+nxV code a h most)))):Int)=((g10a code a h most).2).2))))))))∧(∀x1:Unit,(True→(BrP (decide ((1:Int)<(↑(((g10a code a h most).1).length):Int))) ((((bytesB code)∧(((0:Int)≤((g10a code a h most).2).1)∧(((g10a code a h most).2).1≤(1099511627776:Int))))∧((code=code)∧True))∧(BrP (nxV code (((g10a code a h most).2).1) (((g10a code a h most).2).2) (2:Int) == (0:Int)) ((InR ((↑(((g10a code a h most).1).length):Int) - (1:Int)))∧((((bytesB code) ∧
 (((0:Int)≤nxA (code.length) (((g10a code a h most).2).1) (2:Int))∧((nxA (code.length) (((g10a code a h most).2).1) (2:Int)≤(↑(code.length):Int))∧((code.length≤(4096:Nat))∧(((0:Int)≤(↑(((g10a code a h most).1).length):Int) - (1:Int))∧((↑(((g10a code a h most).1).length):Int) - (1:Int)≤(144:Int)))))))∧((code=code)∧True))∧((∃x2:Nat,(((x2≤((g10p code (g10a code a h most)).1).length)∧(((1:Int)<(↑(((g10a code a h most).1).length):Int))∧(nxV code (((g10a code a h most).2).1) (((g10a code a h most).2).2) (2:Int)=(0:Int))))∧(((0:Int)=(↑x2:Int))∧(((g10a code a h most).1=(g10a code a h most).1)∧(([(0:Int)]=pmL (List.take x2 ((g10p code (g10a code a h most)).1)))∧(((l10Draw_c1 code a h most).1=(g10p code (g10a code a h most)).1)∧((code=code)∧((((l10Draw_c1 code a h most).2).1=((g10p code (g10a code a h most)).2).1)∧(((l10Draw_c1 code a h most).2).2=((g10p code (g10a code a h most)).2).2)))))))))∧(∀x3:Nat,(((x3≤((g10p code (g10a code a h most)).1).length)∧(((1:Int)<(↑(((g10a code a h most).1).length):Int))∧(nxV code (((g10a code a h most).2).1) (((g10a code a h most).2).2) (2:Int)=(0:Int))))→(BrP (decide ((↑x3:Int)<(↑(((g10p code (g10a code a h most)).1).length):Int))) ((inB (↑x3:Int) (((g10p code (g10a code a h most)).1).length))∧((InR (((g10p code (g10a code a h most)).1).getD ((↑x3:Int).toNat) (0:Int)+(1:Int))) ∧
 ((room ((pmL (List.take x3 ((g10p code (g10a code a h most)).1))).length+[((g10p code (g10a code a h most)).1).getD ((↑x3:Int).toNat) (0:Int)+(1:Int)].length))∧((InR ((↑x3:Int)+(1:Int)))∧(∃x4:Nat,(((x4≤((g10p code (g10a code a h most)).1).length)∧(((1:Int)<(↑(((g10a code a h most).1).length):Int))∧(nxV code (((g10a code a h most).2).1) (((g10a code a h most).2).2) (2:Int)=(0:Int))))∧((((g10p code (g10a code a h most)).1).length - x4<((g10p code (g10a code a h most)).1).length - x3)∧(((↑x3:Int)+(1:Int)=(↑x4:Int))∧(((g10a code a h most).1=(g10a code a h most).1)∧((pmL (List.take x3 ((g10p code (g10a code a h most)).1))++[((g10p code (g10a code a h most)).1).getD ((↑x3:Int).toNat) (0:Int)+(1:Int)]=pmL (List.take x4 ((g10p code (g10a code a h most)).1)))∧(((g10p code (g10a code a h most)).1=(g10p code (g10a code a h most)).1)∧((code=code)∧((((g10p code (g10a code a h most)).2).1=((g10p code (g10a code a h most)).2).1)∧(((g10p code (g10a code a h most)).2).2=((g10p code (g10a code a h most)).2).2)))))))))))))) ((((roomR ((g10a code a h most).1))∧((((g10a code a h most).1).length≤(144:Nat))∧((sqB (↑(((g10a code a h most).1).length):Int) ((g10a code a h most).1))∧(((pmL (List.take x3 ((g10p code (g10a code a h most)).1))).length=((g10a code a h most).1).length) ∧
 (∀(i:Nat),i<(pmL (List.take x3 ((g10p code (g10a code a h most)).1))).length→(0:Int)≤(pmL (List.take x3 ((g10p code (g10a code a h most)).1))).getD i (0:Int)∧(pmL (List.take x3 ((g10p code (g10a code a h most)).1))).getD i (0:Int)≤(↑(((g10a code a h most).1).length):Int) - (1:Int))))))∧True)∧((imL ((g10a code a h most).1) (pmL (List.take x3 ((g10p code (g10a code a h most)).1))) (((g10a code a h most).1).length)=(g10 code a h most).1)∧(((code=code)∧((((g10p code (g10a code a h most)).2).1=((g10 code a h most).2).1)∧((((g10p code (g10a code a h most)).2).2=((g10 code a h most).2).2)∧True)))∧True))))))))) (((g10a code a h most).1=(g10 code a h most).1)∧(((code=code)∧((nxA (code.length) (((g10a code a h most).2).1) (2:Int)=((g10 code a h most).2).1)∧((nxH (((g10a code a h most).2).2) (2:Int)=((g10 code a h most).2).2)∧True)))∧True)))) (((g10a code a h most).1=(g10 code a h most).1)∧(((code=code)∧((((g10a code a h most).2).1=((g10 code a h most).2).1)∧((((g10a code a h most).2).2=((g10 code a h most).2).2)∧True)))∧True)))))))))
theorem l10Draw_vc (code:List Int) (a:Int) (h:Int) (most:Int):runF Try.prog (gam l10Draw_G) l10Draw_wr (l10Draw_ann code a h most) Try.f96 (bodyOf Try.f96) [(0,0)] [.box [.ints .u8 (code),.int .i64 (a),.int .u64 (h)],.c (.int .i64 (most))] (l10Draw_p code a h most)=l10Draw_V code a h most:=by kernel_rfl
theorem l10Draw_ok (code:List Int) (a:Int) (h:Int) (most:Int) (hpre:(l10Draw_p code a h most).pre):l10Draw_V code a h most:=by
 simp only [l10Draw_p,l10Draw_V,l10Draw_c1,BrP_iff,u1,u2,u3,u4,u5,u6,u7,u8,u9,v1,v2,v3,v4,v5,v6,v7,v8,v9,w1,w2,w3,w4,markL_length,inB,InR,room,bdsOk] at hpre ⊢
 simp only [FC.len]
 obtain ⟨hb,hc,h0,h1,h2,h3⟩:=hpre
 obtain ⟨K,_,w1,w2⟩:=g10a_ok hb (h:=h) h0 h1 h2 h3
 have v:=nxV_in hb a h h2
 have s:=nxA_in (n:=most) h0 h1
 refine ⟨⟨hb,h0,by omega⟩,by omega,by omega,⟨⟨hb,s.1,by omega⟩,⟨w1,w2⟩,⟨⟨⟩,rfl,rfl,rfl⟩⟩,fun _ _=>?_⟩
 have e:g10 code a h most=g10b code (g10a code a h most):=rfl
 rw [e]
 generalize g10a code a h most=d at K ⊢
 have P:=g10p_ok hb K
 obtain ⟨k1,k2,k3,k4,k5⟩:=K
 have s2:=nxA_in (n:=2) k4 k5
 refine ⟨fun z=>⟨⟨hb,k4,by omega⟩,fun y=>⟨by omega,⟨hb,s2.1,s2.2,hc,by omega,by omega⟩,⟨0,⟨by omega,z,y⟩,rfl,rfl,rfl,rfl,rfl⟩,fun i ⟨hi,_,_⟩=>⟨fun g=>?_,fun g=>?_⟩⟩,fun y=>?_⟩,fun z=>?_⟩
 ·have:=P.1.2 i (by omega)
  refine ⟨by omega,by omega,by simp [pmL];omega,by omega,i+1,⟨by omega,z,y⟩,by omega,by omega,pm_take (by omega)⟩
 ·rw [List.take_of_length_le (by omega)]
  obtain ⟨q1,q2⟩:=pm_get P.1.1 P.1.2
  have R:g10b code d=(imL d.1 (pmL (g10p code d).1) d.1.length,(g10p code d).2):=by unfold g10b;rw [if_pos z,if_pos y]
  rw [R]
  exact ⟨⟨sq_room (tb_sq k3) (by omega),by omega,tb_sq k3,q1,q2⟩,rfl,rfl,rfl⟩
 ·have R:g10b code d=(d.1,nxA code.length d.2.1 2,nxH d.2.2 2):=by unfold g10b;rw [if_pos z,if_neg y]
  rw [R];exact ⟨rfl,rfl,rfl⟩
 ·have R:g10b code d=d:=by unfold g10b;rw [if_neg z]
  rw [R];exact ⟨rfl,rfl,rfl⟩
theorem l10Draw_fits:Fits Try.prog 96 ⟨[(0,0)],l10Draw_ct⟩:=by
 refine ffn (Γ:=gam l10Draw_G) (gok_cons l01Next_fits (gok_cons l10Named_fits (gok_cons l03DrawPerm_fits (gok_cons l03Image_fits gok_nil)))) Try.func96 fun ds p h hp=>?_
 unfold l10Draw_ct at h
 split at h
 ·cases h
  exact ⟨l10Draw_wr,l10Draw_ann _ _ _ _ ,by rw [l10Draw_vc];exact l10Draw_ok _ _ _ _  hp⟩
 ·cases h
def cclL (t:List (List Int)) (y:Nat):List Int:=tab t.length fun x=>en t x y
def trqL (t:List (List Int)):List (List Int):=(List.range t.length).map (cclL t)
theorem tab_snocB {n:Nat} (f:Nat→Int) {i:Nat} (hi:i<n):(tab n f).take i++[f i]=(tab n f).take (i+1):=by
 rw [←take_snoc (tab n f) 0 i (by rw [tab_length];exact hi),tab_getD _ _ _ hi]
def l01ColumnB_p (t:List (List Int)) (y:Int):Post:=⟨t.length≤144∧0≤y∧y<(t.length:Int)∧(∀x,x<t.length→(t.getD x []).length=t.length),.c (.ints 2 .i64 (cclL t y.toNat)),[]⟩
def l01ColumnB_ct:List AD→Option Post
 | [.c (.rows .i64 (t)),.c (.int .i64 (y))]=>some (l01ColumnB_p t y)
 | _=>none
def l01ColumnB_ann (t:List (List Int)) (y:Int):Nat→Option Ann
 | 0=>some (Ann.mk ((Nat)) (fun x=>⟨[(0,.c (.ro (.rows .i64 (t)))),(1,.c (.int .i64 (y))),(5,.c (.own (100))),(6,.c (.int .i64 ((x:Int))))],[(100,some (.ints 2 .i64 ((cclL t y.toNat).take x)))]⟩) (fun x=>x≤t.length) (fun x=>t.length - x) (fun _=>noAnn))
 | _=>none
def l01ColumnB_G:List (Nat×Ctr):=[]
def l01ColumnB_V (t:List (List Int)) (y:Int):Prop :=
 ((∃x0:Nat,((x0≤t.length)∧((t=t)∧((y=y)∧(((0:Int)=(↑x0:Int))∧([]=List.take x0 (cclL t (y.toNat))))))))∧(∀x1:Nat,((x1≤t.length)→(BrP (decide ((↑x1:Int)<(↑(t.length):Int))) ((inB (↑x1:Int) (t.length))∧((inB y ((t.getD ((↑x1:Int).toNat) []).length))∧((room ((List.take x1 (cclL t (y.toNat))).length+[(List.getD t ((↑x1:Int).toNat) []).getD (y.toNat) (0:Int)].length))∧((InR ((↑x1:Int)+(1:Int)))∧(∃x2:Nat,((x2≤t.length)∧((t.length - x2<t.length - x1)∧((t=t)∧((y=y)∧(((↑x1:Int)+(1:Int)=(↑x2:Int))∧(List.take x1 (cclL t (y.toNat))++[(List.getD t ((↑x1:Int).toNat) []).getD (y.toNat) (0:Int)]=List.take x2 (cclL t (y.toNat))))))))))))) ((List.take x1 (cclL t (y.toNat))=cclL t (y.toNat))∧True)))))
theorem l01ColumnB_vc (t:List (List Int)) (y:Int):runF Try.prog (gam l01ColumnB_G) noWr (l01ColumnB_ann t y) Try.f158 (bodyOf Try.f158) [] [.c (.rows .i64 (t)),.c (.int .i64 (y))] (l01ColumnB_p t y)=l01ColumnB_V t y:=by kernel_rfl
theorem l01ColumnB_ok (t:List (List Int)) (y:Int) (hpre:(l01ColumnB_p t y).pre):l01ColumnB_V t y:=by
 simp only [l01ColumnB_p,l01ColumnB_V,BrP_iff,u1,u2,u3,u4,u5,u6,u7,u8,u9,v1,v2,v3,v4,v5,v6,v7,v8,v9,w1,w2,w3,w4,markL_length,inB,InR,room,bdsOk] at hpre ⊢
 obtain ⟨h1,h2,h3,h4⟩:=hpre
 have lc:(cclL t y.toNat).length=t.length:=tab_length _ _
 refine ⟨⟨0,by omega,by omega,rfl⟩,fun x hx=>⟨fun h=>?_,fun h=>?_⟩⟩
 ·have:=h4 x (by omega)
  exact ⟨by omega,by omega,by omega,by omega,x+1,by omega,by omega,by omega,tab_snocB (fun x=>en t x y.toNat) (by omega)⟩
 ·exact List.take_of_length_le (by omega)
theorem l01ColumnB_fits:Fits Try.prog 158 ⟨[],l01ColumnB_ct⟩:=by
 refine ffn (Γ:=gam l01ColumnB_G) gok_nil Try.func158 fun ds p h hp=>?_
 unfold l01ColumnB_ct at h
 split at h
 ·cases h
  exact ⟨noWr,l01ColumnB_ann _ _ ,by rw [l01ColumnB_vc];exact l01ColumnB_ok _ _  hp⟩
 ·cases h
def l01TurnB_p (t:List (List Int)):Post:=⟨t.length≤144∧(∀x,x<t.length→(t.getD x []).length=t.length),.c (.rows 22 2 .i64 (trqL t)),[]⟩
def l01TurnB_ct:List AD→Option Post
 | [.c (.rows .i64 (t))]=>some (l01TurnB_p t)
 | _=>none
def l01TurnB_ann (t:List (List Int)):Nat→Option Ann
 | 0=>some (Ann.mk ((Nat)) (fun y=>⟨[(0,.c (.ro (.rows .i64 (t)))),(3,.c (.own (100))),(4,.c (.int .i64 ((y:Int))))],[(100,some (.rows 0 22 2 .i64 ((trqL t).take y)))]⟩) (fun y=>y≤t.length) (fun y=>t.length - y) (fun _=>noAnn))
 | _=>none
def l01TurnB_G:List (Nat×Ctr):=[(158,⟨[],l01ColumnB_ct⟩)]
def l01TurnB_V (t:List (List Int)):Prop :=
 ((∃x0:Nat,((x0≤t.length)∧((t=t)∧(((0:Int)=(↑x0:Int))∧(([]:List (List Int))=List.take x0 (trqL t))))))∧(∀x1:Nat,((x1≤t.length)→(BrP (decide ((↑x1:Int)<(↑(t.length):Int))) ((((t.length≤(144:Nat))∧(((0:Int)≤(↑x1:Int))∧(((↑x1:Int)<(↑(t.length):Int))∧(∀(x:Nat),x<t.length→(t.getD x []).length=t.length))))∧True)∧((room ((List.take x1 (trqL t)).length+(cclL t ((↑x1:Int).toNat)::([]:List (List Int))).length))∧((InR ((↑x1:Int)+(1:Int)))∧(∃x2:Nat,((x2≤t.length)∧((t.length - x2<t.length - x1)∧((t=t)∧(((↑x1:Int)+(1:Int)=(↑x2:Int))∧(List.take x1 (trqL t)++cclL t ((↑x1:Int).toNat)::([]:List (List Int))=List.take x2 (trqL t)))))))))) ((List.take x1 (trqL t)=trqL t)∧True)))))
theorem l01TurnB_vc (t:List (List Int)):runF Try.prog (gam l01TurnB_G) noWr (l01TurnB_ann t) Try.f125 (bodyOf Try.f125) [] [.c (.rows .i64 (t))] (l01TurnB_p t)=l01TurnB_V t:=by kernel_rfl
theorem l01TurnB_ok (t:List (List Int)) (hpre:(l01TurnB_p t).pre):l01TurnB_V t:=by
 simp only [l01TurnB_p,l01TurnB_V,BrP_iff,u1,u2,u3,u4,u5,u6,u7,u8,u9,v1,v2,v3,v4,v5,v6,v7,v8,v9,w1,w2,w3,w4,markL_length,inB,InR,room,bdsOk] at hpre ⊢
 obtain ⟨h1,h4⟩:=hpre
 have lc:(trqL t).length=t.length:=by simp [trqL]
 have li:∀y,(cclL t y).length=t.length:=fun y=>tab_length _ _
 refine ⟨⟨0,by omega,by omega,rfl⟩,fun y hy=>⟨fun h=>⟨⟨by omega,by omega,by omega,h4⟩,by omega,by omega,y+1,by omega,by omega,by omega,?_⟩,fun h=>?_⟩⟩
 ·rw [←take_snoc (trqL t) [] y (by omega)]
  simp [trqL,List.getD_eq_getElem?_getD,show y<t.length by omega]
 ·exact List.take_of_length_le (by omega)
theorem l01TurnB_fits:Fits Try.prog 125 ⟨[],l01TurnB_ct⟩:=by
 refine ffn (Γ:=gam l01TurnB_G) (gok_cons l01ColumnB_fits gok_nil) Try.func125 fun ds p h hp=>?_
 unfold l01TurnB_ct at h
 split at h
 ·cases h
  exact ⟨noWr,l01TurnB_ann _ ,by rw [l01TurnB_vc];exact l01TurnB_ok _  hp⟩
 ·cases h
theorem trq_tb {n:Nat} {t:List (List Int)} (h:tbN n t):tbN n (trqL t):=by
 have e:=h.1
 refine ⟨by simp [trqL,e],fun x hx=>?_⟩
 have r:(trqL t).getD x []=cclL t x:=by simp [trqL,List.getD_eq_getElem?_getD,e,hx]
 refine ⟨by rw [r,cclL,tab_length,e],fun y hy=>?_⟩
 have v:en (trqL t) x y=en t y x:=by
  show ((trqL t).getD x []).getD y 0=_
  rw [r,cclL,tab_getD _ _ _ (by omega)]
 rw [v];exact (h.2 y hy).2 x hx
def rgF (n k:Int) (x y:Nat):Int:=((x:Int)+(y:Int)+k * (x:Int) * (y:Int)).tmod n
def rgT (n k:Int):List (List Int):=tabR n.toNat (rgF n k)
theorem rgT_tb {n k:Int} (h:1≤n) (hk:0≤k):tbN (cyT n).length (rgT n k):=by
 have e:=cyT_len h
 refine ⟨by rw [rgT,tabR_length];omega,fun x hx=>?_⟩
 have r:(rgT n k).getD x []=tab n.toNat (rgF n k x):=tabR_getD _ _ _ (by omega)
 refine ⟨by rw [r,tab_length];omega,fun y hy=>?_⟩
 have v:en (rgT n k) x y=rgF n k x y:=by
  show ((rgT n k).getD x []).getD y 0=_
  rw [r,tab_getD _ _ _ (by omega)]
 have p:0≤k * (x:Int) * (y:Int):=Int.mul_nonneg (Int.mul_nonneg hk (by omega)) (by omega)
 have a:=Int.tmod_nonneg (a:=(x:Int)+(y:Int)+k * (x:Int) * (y:Int)) n (by omega)
 have b:=Int.tmod_lt_of_pos ((x:Int)+(y:Int)+k * (x:Int) * (y:Int)) (b:=n) (by omega)
 rw [v,rgF];omega
def l11Ring_p (n:Int) (k:Int):Post:=⟨1≤n∧n≤12∧0≤k∧k≤12,.agg [.rows 22 2 .i64 (cyT n),.rows 22 2 .i64 (rgT n k)],[]⟩
def l11Ring_ct:List AD→Option Post
 | [.c (.int .i64 (n)),.c (.int .i64 (k))]=>some (l11Ring_p n k)
 | _=>none
def l11Ring_ann (n:Int) (k:Int):Nat→Option Ann
 | 0=>some (Ann.mk ((Nat)) (fun i=>⟨[(0,.c (.int .i64 (n))),(1,.c (.int .i64 (k))),(4,.c (.ptr 4 0)),(5,.c (.ptr 5 0)),(6,.c (.int .i64 ((i:Int))))],[(4,some (.box [.nil,.nil])),(5,some (.box [.own (105),.own (106)])),(105,some (.rows 0 22 2 .i64 (cyT n))),(106,some (.rows 0 22 2 .i64 (tabP n.toNat i (rgF n k))))]⟩) (fun i=>(i:Int)≤n) (fun i=>n.toNat - i) (fun i=>fun b_=>match b_ with | 2=>some (Ann.mk ((Nat)) (fun j=>⟨[(0,.c (.int .i64 (n))),(1,.c (.int .i64 (k))),(4,.c (.ptr 4 0)),(5,.c (.ptr 5 0)),(6,.c (.int .i64 ((i:Int)))),(7,.c (.own (7))),(8,.c (.int .i64 ((j:Int))))],[(4,some (.box [.nil,.nil])),(5,some (.box [.own (105),.own (106)])),(105,some (.rows 0 22 2 .i64 (cyT n))),(106,some (.rows 0 22 2 .i64 (tabP n.toNat i (rgF n k)))),(7,some (.ints 2 .i64 (tab j (rgF n k i))))]⟩) (fun j=>(i:Int)<n∧(j:Int)≤n) (fun j=>n.toNat - j) (fun _=>noAnn)) | _=>none))
 | _=>none
def l11Ring_G:List (Nat×Ctr):=[(159,⟨[],l10Cyclic_ct⟩)]
def l11Ring_V (n:Int) (k:Int):Prop :=
 (((((1:Int)≤n)∧(n≤(12:Int)))∧True)∧((∃x0:Nat,(((↑x0:Int)≤n)∧((n=n)∧((k=k)∧(((0:Int)=(↑x0:Int))∧((cyT n=cyT n)∧(tabP (n.toNat) x0 (rgF n k)=([]:List (List Int)))))))))∧(∀x1:Nat,(((↑x1:Int)≤n)→(BrP (decide ((↑x1:Int)<n)) ((∃x2:Nat,((((↑x1:Int)<n)∧((↑x2:Int)≤n))∧((n=n)∧((k=k)∧(((↑x1:Int)=(↑x1:Int))∧(((0:Int)=(↑x2:Int))∧((cyT n=cyT n)∧((tabP (n.toNat) x1 (rgF n k)=tabP (n.toNat) x1 (rgF n k))∧([]=tab x2 (rgF n k x1))))))))))∧(∀x3:Nat,((((↑x1:Int)<n)∧((↑x3:Int)≤n))→(BrP (decide ((↑x3:Int)<n)) ((InR ((↑x1:Int)+(↑x3:Int)))∧((InR (k * (↑x1:Int)))∧((InR (k * (↑x1:Int) * (↑x3:Int)))∧((InR ((↑x1:Int)+(↑x3:Int)+k * (↑x1:Int) * (↑x3:Int)))∧((n≠(0:Int))∧((room ((tab x3 (rgF n k x1)).length+[Int.tmod ((↑x1:Int)+(↑x3:Int)+k * (↑x1:Int) * (↑x3:Int)) n].length))∧((InR ((↑x3:Int)+(1:Int)))∧(∃x4:Nat,((((↑x1:Int)<n)∧((↑x4:Int)≤n))∧((n.toNat - x4<n.toNat - x3)∧((n=n)∧((k=k)∧(((↑x1:Int)=(↑x1:Int))∧(((↑x3:Int)+(1:Int)=(↑x4:Int))∧((cyT n=cyT n)∧((tabP (n.toNat) x1 (rgF n k)=tabP (n.toNat) x1 (rgF n k))∧(tab x3 (rgF n k x1)++[Int.tmod ((↑x1:Int)+(↑x3:Int)+k * (↑x1:Int) * (↑x3:Int)) n]=tab x4 (rgF n k x1)))))))))))))))))) ((room ((tabP (n.toNat) x1 (rgF n k)).length+(tab x3 (rgF n k x1)::([]:List (List Int))).length))∧((InR ((↑x1:Int)+(1:Int)))∧(∃x5:Nat,(((↑x5:Int)≤n)∧((n.toNat - x5<n.toNat - x1)∧((n=n)∧((k=k)∧(((↑x1:Int)+(1:Int)=(↑x5:Int))∧((cyT n=cyT n) ∧
 (tabP (n.toNat) x1 (rgF n k)++tab x3 (rgF n k x1)::([]:List (List Int))=tabP (n.toNat) x5 (rgF n k))))))))))))))) (((cyT n=cyT n)∧((tabP (n.toNat) x1 (rgF n k)=rgT n k)∧True))∧True))))))
theorem l11Ring_vc (n:Int) (k:Int):runF Try.prog (gam l11Ring_G) noWr (l11Ring_ann n k) Try.f126 (bodyOf Try.f126) [] [.c (.int .i64 (n)),.c (.int .i64 (k))] (l11Ring_p n k)=l11Ring_V n k:=by kernel_rfl
theorem l11Ring_ok (n:Int) (k:Int) (hpre:(l11Ring_p n k).pre):l11Ring_V n k:=by
 simp only [l11Ring_p,l11Ring_V,BrP_iff,u1,u2,u3,u4,u5,u6,u7,u8,u9,v1,v2,v3,v4,v5,v6,v7,v8,v9,w1,w2,w3,w4,markL_length,inB,InR,room,bdsOk] at hpre ⊢
 obtain ⟨h1,h2,h3,h4⟩:=hpre
 refine ⟨⟨h1,h2⟩,⟨0,by omega,rfl,rfl⟩,fun i hi=>⟨fun h=>⟨⟨0,⟨by omega,by omega⟩,rfl,rfl⟩,fun j ⟨_,hj⟩=>⟨fun g=>?_,fun g=>⟨by rw [tabP_length];omega,by omega,i+1,by omega,by omega,by omega,?_⟩⟩⟩,fun h=>?_⟩⟩
 ·have a1:k * (i:Int)≤12 * 12:=Int.mul_le_mul (by omega) (by omega) (by omega) (by omega)
  have a0:0≤k * (i:Int):=Int.mul_nonneg h3 (by omega)
  have b1:k * (i:Int) * (j:Int)≤12 * 12 * 12:=Int.mul_le_mul a1 (by omega) (by omega) (by omega)
  have b0:0≤k * (i:Int) * (j:Int):=Int.mul_nonneg a0 (by omega)
  refine ⟨by omega,by omega,by omega,by omega,by omega,by rw [tab_length];omega,by omega,j+1,⟨by omega,by omega⟩,by omega,by omega,?_⟩
  rw [tab_succ'];rfl
 ·rw [tabP_succ,show j=n.toNat by omega]
 ·rw [show i=n.toNat by omega];rfl
theorem l11Ring_fits:Fits Try.prog 126 ⟨[],l11Ring_ct⟩:=by
 refine ffn (Γ:=gam l11Ring_G) (gok_cons l10Cyclic_fits gok_nil) Try.func126 fun ds p h hp=>?_
 unfold l11Ring_ct at h
 split at h
 ·cases h
  exact ⟨noWr,l11Ring_ann _ _ ,by rw [l11Ring_vc];exact l11Ring_ok _ _  hp⟩
 ·cases h
end Go.Sx
