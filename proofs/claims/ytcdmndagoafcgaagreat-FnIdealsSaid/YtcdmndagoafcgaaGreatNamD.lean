/- NamD -/
import Derived.Test.YtcdmndagoafcgaaGreatCirB
import Derived.Test.YtcdmndagoafcgaaGreatGrp
open Go Go.Proofs
namespace Go.Sx
set_option linter.unusedSimpArgs false
set_option linter.unusedVariables false
theorem S1 {t A:List (List Int)} {K:List Int} (h:(d9 t A K).2=true):eT t A K=some (d9 t A K).1:=by
 unfold d9 at h ⊢;cases e:eT t A K with
 | none=>rw [e] at h;cases h
 | some x=>rfl
theorem S2 {t A:List (List Int)} {K:List Int} (h:(d9 t A K).2=false):eT t A K=none:=by
 unfold d9 at h;cases e:eT t A K with
 | none=>rfl
 | some x=>rw [e] at h;cases h
theorem S3 {t A:List (List Int)} {rec:List Int→List (List (List Int))→List (List (List Int))} {K K':List Int} {i:Nat} {o:List (List (List Int))} (h:eT t A (K.set (bf K) (i:Int))=some K'):dp t A rec K i o=rec K' o:=by unfold dp;rw [h]
theorem S4 {t A:List (List Int)} {rec:List Int→List (List (List Int))→List (List (List Int))} {K:List Int} {i:Nat} {o:List (List (List Int))} (h:eT t A (K.set (bf K) (i:Int))=none):dp t A rec K i o=o:=by unfold dp;rw [h]
theorem Jw {n:Nat} {t A:List (List Int)} (ht:ba n t) (hA:AuOk n A) {K:List Int} (hK:KOk n A.length K) (hp:bf K=K.length):ba n (bX t A K):=by
 refine ⟨by simp [bX,ht.1],fun x hx=>?_⟩
 have hk:=rN K hp x (by rw [hK.len];exact hx)
 have hr:=hK.rng x hx
 have row:(bX t A K).getD x []=bU (A.getD (K.getD x 0).toNat []) (t.getD x []):=by
  rw [bX];simp [List.getD_eq_getElem?_getD,ht.1,hx]
 have L:=hA.len (K.getD x 0).toNat (by omega)
 refine ⟨by rw [row,bU,List.length_map,L],fun y hy=>?_⟩
 have r:=hA.rng (K.getD x 0).toNat y (by omega) hy
 have v:=(ht.2 x hx).2 (en A (K.getD x 0).toNat y).toNat (by omega)
 have:en (bX t A K) x y=en t x (en A (K.getD x 0).toNat y).toNat:=by
  unfold en at *;rw [row,bU,qR _ _ 0 0 _ (by omega)]
 rw [this];exact v
theorem pO {n:Nat} {t:List (List Int)} (h:ba n t) (hn:n≤12):au t:=⟨by rw [h.1];omega,fun r hr=>by
 obtain ⟨x,hx,rfl⟩:=List.getElem_of_mem hr;have:=(h.2 x (by rw [h.1] at hx;exact hx)).1
 rw [ce t [] x hx] at this;omega⟩
def bB (n i:Nat) (f:Nat→Nat→Int):List (List Int):=(List.range i).map fun x=>aq n (f x)
theorem uv (n i:Nat) (f:Nat→Nat→Int):bB n (i+1) f=bB n i f++[aq n (f i)]:=uf _ _
theorem uw (n i:Nat) (f:Nat→Nat→Int):(bB n i f).length=i:=by simp [bB]
theorem ux {x a m:Nat} (h:x<a * m) (hm:1≤m):(x:Int).tdiv (m:Int)=((x / m:Nat):Int)∧(x:Int).tmod (m:Int)=((x % m:Nat):Int)∧x / m<a∧x % m<m:=by
 refine ⟨?_,?_,(Nat.div_lt_iff_lt_mul (by omega)).2 h,Nat.mod_lt _ (by omega)⟩
 ·rw [Int.tdiv_eq_ediv_of_nonneg (by omega)];rfl
 ·rw [Int.tmod_eq_emod_of_nonneg (by omega)];rfl
def eg (n:Int) (x y:Nat):Int:=((x:Int)+(y:Int)).tmod n
def ak (n:Int):List (List Int):=aS n.toNat (eg n)
def uy (n:Int):Post:=⟨1≤n∧n≤12,.c (.rows 57 2 .i64 (ak n)),[]⟩
def uz:List AD→Option Post
 | [.c (.int .i64 (n))]=>some (uy n)
 | _=>none
def Jx (n:Int):Nat→Option Ann
 | 0=>some (Ann.mk ((Nat)) (fun i=>⟨[(0,.c (.int .i64 (n))),(3,.c (.own (3))),(4,.c (.int .i64 ((i:Int))))],[(3,some (.rows 0 57 2 .i64 (bB n.toNat i (eg n))))]⟩) (fun i=>(i:Int)≤n) (fun i=>n.toNat - i) (fun i=>fun b_=>match b_ with | 2=>some (Ann.mk ((Nat)) (fun j=>⟨[(0,.c (.int .i64 (n))),(3,.c (.own (3))),(4,.c (.int .i64 ((i:Int)))),(5,.c (.own (5))),(6,.c (.int .i64 ((j:Int))))],[(3,some (.rows 0 57 2 .i64 (bB n.toNat i (eg n)))),(5,some (.ints 2 .i64 (aq j (eg n i))))]⟩) (fun j=>(i:Int)<n∧(j:Int)≤n) (fun j=>n.toNat - j) (fun _=>am)) | _=>none))
 | _=>none
def Jy:List (Nat×Ctr):=[]
def BK (n:Int):Prop :=
 ((∃x0:Nat,(((↑x0:Int)≤n)∧((n=n)∧(((0:Int)=(↑x0:Int))∧(([]:List (List Int))=bB (n.toNat) x0 (eg n))))))∧(∀x1:Nat,(((↑x1:Int)≤n)→(ac (decide ((↑x1:Int)<n)) ((∃x2:Nat,((((↑x1:Int)<n)∧((↑x2:Int)≤n))∧((n=n)∧(((↑x1:Int)=(↑x1:Int))∧(((0:Int)=(↑x2:Int))∧((bB (n.toNat) x1 (eg n)=bB (n.toNat) x1 (eg n))∧([]=aq x2 (eg n x1))))))))∧(∀x3:Nat,((((↑x1:Int)<n)∧((↑x3:Int)≤n))→(ac (decide ((↑x3:Int)<n)) ((ab ((↑x1:Int)+(↑x3:Int)))∧((n≠(0:Int))∧((ae ((aq x3 (eg n x1)).length+[Int.tmod ((↑x1:Int)+(↑x3:Int)) n].length))∧((ab ((↑x3:Int)+(1:Int)))∧(∃x4:Nat,((((↑x1:Int)<n)∧((↑x4:Int)≤n))∧((n.toNat - x4<n.toNat - x3)∧((n=n)∧(((↑x1:Int)=(↑x1:Int))∧(((↑x3:Int)+(1:Int)=(↑x4:Int))∧((bB (n.toNat) x1 (eg n)=bB (n.toNat) x1 (eg n))∧(aq x3 (eg n x1)++[Int.tmod ((↑x1:Int)+(↑x3:Int)) n]=aq x4 (eg n x1))))))))))))) ((ae ((bB (n.toNat) x1 (eg n)).length+(aq x3 (eg n x1)::([]:List (List Int))).length))∧((ab ((↑x1:Int)+(1:Int)))∧(∃x5:Nat,(((↑x5:Int)≤n)∧((n.toNat - x5<n.toNat - x1)∧((n=n)∧(((↑x1:Int)+(1:Int)=(↑x5:Int))∧(bB (n.toNat) x1 (eg n)++aq x3 (eg n x1)::([]:List (List Int))=bB (n.toNat) x5 (eg n))))))))))))) ((bB (n.toNat) x1 (eg n)=ak n)∧True)))))
theorem S5 (n:Int):aC Tryz.prog (af Jy) ah (Jx n) Tryz.f206 (aE Tryz.f206) [] [.c (.int .i64 (n))] (uy n)=BK n:=by kernel_rfl
theorem S6 (n:Int) (Yh:(uy n).pre):BK n:=by
 simp only [uy,BK,aG,u1,u2,u3,u4,u5,u6,u7,u8,u9,v1,v2,v3,v4,v5,v6,v7,v8,v9,w1,w2,w3,w4,aH,aa,ab,ae,ar] at Yh ⊢;refine ⟨⟨0,by omega,rfl,rfl⟩,fun i hi=>⟨fun h=>⟨⟨0,⟨by omega,by omega⟩,rfl,rfl⟩,fun j ⟨_,hj⟩=>⟨fun g=>⟨by omega,by omega,by rw [cf];omega,by omega,j+1,⟨by omega,by omega⟩,by omega,by omega,?_⟩,fun g=>⟨by rw [uw];omega,by omega,i+1,by omega,by omega,by omega,?_⟩⟩⟩,fun h=>?_⟩⟩
 ·rw [tab_succ'];rfl
 ·rw [uv,show j=n.toNat by omega]
 ·rw [show i=n.toNat by omega];rfl
theorem Jz:Fits Tryz.prog 206 ⟨[],uz⟩:=by
 refine aJ (Γ:=af Jy) aF Tryz.func206 fun ds p h hp=>?_
 unfold uz at h;split at h
 ·cases h
  exact ⟨ah,Jx _ ,by rw [S5];exact S6 _  hp⟩
 ·cases h
def dA (a b:List (List Int)) (x y:Nat):Int :=
 en a ((x:Int).tdiv (b.length:Int)).toNat ((y:Int).tdiv (b.length:Int)).toNat * (b.length:Int)+en b ((x:Int).tmod (b.length:Int)).toNat ((y:Int).tmod (b.length:Int)).toNat
def bp (a b:List (List Int)):List (List Int):=aS (a.length * b.length) (dA a b)
theorem JA {a b:List (List Int)} (ha:ba a.length a) (hb:ba b.length b) (h1:1≤b.length) {x y:Nat} (hx:x<a.length * b.length) (hy:y<a.length * b.length):0≤dA a b x y∧dA a b x y<((a.length * b.length:Nat):Int):=by
 obtain ⟨x1,x2,x3,x4⟩:=ux hx h1;obtain ⟨y1,y2,y3,y4⟩:=ux hy h1;have A:=(ha.2 _ x3).2 _ y3
 have B:=(hb.2 _ x4).2 _ y4
 rw [dA,x1,x2,y1,y2];simp only [Int.toNat_natCast];generalize en a (x / b.length) (y / b.length)=u at *
 generalize en b (x % b.length) (y % b.length)=v at *
 have:u * (b.length:Int)≤((a.length:Int) - 1) * (b.length:Int):=Int.mul_le_mul_of_nonneg_right (by omega) (by omega)
 have h0:0≤u * (b.length:Int):=Int.mul_nonneg A.1 (by omega)
 rw [Int.sub_mul] at this;rw [Int.natCast_mul];omega
theorem JB {a b:List (List Int)} (ha:ba a.length a) (hb:ba b.length b) (h1:1≤b.length):ba (a.length * b.length) (bp a b):=by
 refine ⟨fK _ _,fun x hx=>?_⟩
 have r:(bp a b).getD x []=aq (a.length * b.length) (dA a b x):=eZ _ _ _ hx
 refine ⟨by rw [r,cf],fun y hy=>?_⟩
 have v:en (bp a b) x y=dA a b x y:=by
  show ((bp a b).getD x []).getD y 0=_
  rw [r,cr _ _ _ hy]
 rw [v];exact JA ha hb h1 hx hy
def uA (a:List (List Int)) (b:List (List Int)):Post:=⟨ba a.length a∧ba b.length b∧1≤b.length∧a.length≤144∧b.length≤144,.c (.rows 57 2 .i64 (bp a b)),[]⟩
def uB:List AD→Option Post
 | [.c (.rows .i64 (a)),.c (.rows .i64 (b))]=>some (uA a b)
 | _=>none
def JC (a:List (List Int)) (b:List (List Int)):Nat→Option Ann
 | 0=>some (Ann.mk ((Nat)) (fun i=>⟨[(0,.c (.ro (.rows .i64 (a)))),(1,.c (.ro (.rows .i64 (b)))),(5,.c (.int .i64 ((a.length:Int)))),(6,.c (.int .i64 ((b.length:Int)))),(7,.c (.own (7))),(8,.c (.int .i64 ((i:Int))))],[(7,some (.rows 0 57 2 .i64 (bB (a.length * b.length) i (dA a b))))]⟩) (fun i=>i≤a.length * b.length) (fun i=>a.length * b.length - i) (fun i=>fun b_=>match b_ with | 2=>some (Ann.mk ((Nat)) (fun j=>⟨[(0,.c (.ro (.rows .i64 (a)))),(1,.c (.ro (.rows .i64 (b)))),(5,.c (.int .i64 ((a.length:Int)))),(6,.c (.int .i64 ((b.length:Int)))),(7,.c (.own (7))),(8,.c (.int .i64 ((i:Int)))),(9,.c (.own (9))),(10,.c (.int .i64 ((j:Int))))],[(7,some (.rows 0 57 2 .i64 (bB (a.length * b.length) i (dA a b)))),(9,some (.ints 2 .i64 (aq j (dA a b i))))]⟩) (fun j=>i<a.length * b.length∧j≤a.length * b.length) (fun j=>a.length * b.length - j) (fun _=>am)) | _=>none))
 | _=>none
def JD:List (Nat×Ctr):=[]
def gz (b:List (List Int)) (x0:Nat):=(Int.tdiv (↑x0:Int) (↑(b.length):Int))
def kZ (b:List (List Int)) (x0:Nat):=((Int.tmod (↑x0:Int) (↑(b.length):Int)).toNat)
def BM (a:List (List Int)) (b:List (List Int)):Prop :=
 ((∃x0:Nat,((x0≤a.length * b.length)∧((a=a)∧((b=b)∧(((↑(a.length):Int)=(↑(a.length):Int))∧(((↑(b.length):Int)=(↑(b.length):Int))∧(((0:Int)=(↑x0:Int))∧(([]:List (List Int))=bB (a.length * b.length) x0 (dA a b)))))))))∧(∀x1:Nat,((x1≤a.length * b.length)→((ab ((↑(a.length):Int) * (↑(b.length):Int)))∧(ac (decide ((↑x1:Int)<(↑(a.length):Int) * (↑(b.length):Int))) ((∃x2:Nat,(((x1<a.length * b.length)∧(x2≤a.length * b.length))∧((a=a)∧((b=b)∧(((↑(a.length):Int)=(↑(a.length):Int))∧(((↑(b.length):Int)=(↑(b.length):Int))∧(((↑x1:Int)=(↑x1:Int))∧(((0:Int)=(↑x2:Int))∧((bB (a.length * b.length) x1 (dA a b)=bB (a.length * b.length) x1 (dA a b))∧([]=aq x2 (dA a b x1)))))))))))∧(∀x3:Nat,(((x1<a.length * b.length)∧(x3≤a.length * b.length))→((ab ((↑(a.length):Int) * (↑(b.length):Int)))∧(ac (decide ((↑x3:Int)<(↑(a.length):Int) * (↑(b.length):Int))) ((((↑(b.length):Int)≠(0:Int))∧(ab (gz b x1)))∧((aa (gz b x1) (a.length))∧((((↑(b.length):Int)≠(0:Int))∧(ab (gz b x3)))∧((aa (gz b x3) ((a.getD ((gz b x1).toNat) []).length))∧((ab ((List.getD a ((gz b x1).toNat) []).getD ((gz b x3).toNat) (0:Int) * (↑(b.length):Int)))∧(((↑(b.length):Int)≠(0:Int))∧((aa (Int.tmod (↑x1:Int) (↑(b.length):Int)) (b.length))∧(((↑(b.length):Int)≠(0:Int))∧((aa (Int.tmod (↑x3:Int) (↑(b.length):Int)) ((b.getD (kZ b x1) []).length)) ∧
 ((ab ((List.getD a ((gz b x1).toNat) []).getD ((gz b x3).toNat) (0:Int) * (↑(b.length):Int)+(List.getD b (kZ b x1) []).getD (kZ b x3) (0:Int)))∧((ae ((aq x3 (dA a b x1)).length+[(List.getD a ((gz b x1).toNat) []).getD ((gz b x3).toNat) (0:Int) * (↑(b.length):Int)+(List.getD b (kZ b x1) []).getD (kZ b x3) (0:Int)].length))∧((ab ((↑x3:Int)+(1:Int)))∧(∃x4:Nat,(((x1<a.length * b.length)∧(x4≤a.length * b.length))∧((a.length * b.length - x4<a.length * b.length - x3)∧((a=a)∧((b=b)∧(((↑(a.length):Int)=(↑(a.length):Int))∧(((↑(b.length):Int)=(↑(b.length):Int))∧(((↑x1:Int)=(↑x1:Int))∧(((↑x3:Int)+(1:Int)=(↑x4:Int))∧((bB (a.length * b.length) x1 (dA a b)=bB (a.length * b.length) x1 (dA a b))∧(aq x3 (dA a b x1)++[(List.getD a ((gz b x1).toNat) []).getD ((gz b x3).toNat) (0:Int) * (↑(b.length):Int)+(List.getD b (kZ b x1) []).getD (kZ b x3) (0:Int)]=aq x4 (dA a b x1)))))))))))))))))))))))) ((ae ((bB (a.length * b.length) x1 (dA a b)).length+(aq x3 (dA a b x1)::([]:List (List Int))).length))∧((ab ((↑x1:Int)+(1:Int)))∧(∃x5:Nat,((x5≤a.length * b.length)∧((a.length * b.length - x5<a.length * b.length - x1)∧((a=a)∧((b=b)∧(((↑(a.length):Int)=(↑(a.length):Int))∧(((↑(b.length):Int)=(↑(b.length):Int))∧(((↑x1:Int)+(1:Int)=(↑x5:Int)) ∧
 (bB (a.length * b.length) x1 (dA a b)++aq x3 (dA a b x1)::([]:List (List Int))=bB (a.length * b.length) x5 (dA a b))))))))))))))))) ((bB (a.length * b.length) x1 (dA a b)=bp a b)∧True))))))
theorem S7 (a:List (List Int)) (b:List (List Int)):aC Tryz.prog (af JD) ah (JC a b) Tryz.f207 (aE Tryz.f207) [] [.c (.rows .i64 (a)),.c (.rows .i64 (b))] (uA a b)=BM a b:=by kernel_rfl
theorem S8 (a:List (List Int)) (b:List (List Int)) (Yh:(uA a b).pre):BM a b:=by
 simp only [uA,BM,gz,kZ,aG,u1,u2,u3,u4,u5,u6,u7,u8,u9,v1,v2,v3,v4,v5,v6,v7,v8,v9,w1,w2,w3,w4,aH,aa,ab,ae,ar] at Yh ⊢;obtain ⟨h1,h2,h3,h4,h5⟩:=Yh;have hm:a.length * b.length≤144 * 144:=Nat.mul_le_mul h4 h5
 have hc:(a.length:Int) * (b.length:Int)=((a.length * b.length:Nat):Int):=by rw [Int.natCast_mul]
 rw [hc];generalize hN:a.length * b.length=N at *
 refine ⟨⟨0,by omega,rfl,rfl⟩,fun i hi=>⟨by omega,fun h=>⟨⟨0,⟨by omega,by omega⟩,rfl,rfl⟩,fun j ⟨_,hj⟩=>⟨by omega,fun g=>?_,fun g=>⟨by rw [uw];omega,by omega,i+1,by omega,by omega,by omega,?_⟩⟩⟩,fun h=>?_⟩⟩
 ·obtain ⟨x1,x2,x3,x4⟩:=ux (x:=i) (a:=a.length) (m:=b.length) (by omega) h3
  obtain ⟨y1,y2,y3,y4⟩:=ux (x:=j) (a:=a.length) (m:=b.length) (by omega) h3
  have A:=(h1.2 _ x3)
  have B:=(h2.2 _ x4)
  have A2:=A.2 _ y3
  have B2:=B.2 _ y4
  have P:=JA h1 h2 h3 (x:=i) (y:=j) (by omega) (by omega)
  have TS:aq (j+1) (dA a b i)=aq j (dA a b i)++[dA a b i j]:=tab_succ' _ _
  rw [dA,x1,x2,y1,y2] at P TS;rw [x1,x2,y1,y2];simp only [Int.toNat_natCast] at P TS ⊢;have A3:((a.getD (i / b.length) []).getD (j / b.length) 0)=en a (i / b.length) (j / b.length):=rfl
  have B3:((b.getD (i % b.length) []).getD (j % b.length) 0)=en b (i % b.length) (j % b.length):=rfl
  rw [A3,B3];have u0:0≤en a (i / b.length) (j / b.length) * (b.length:Int):=Int.mul_nonneg A2.1 (by omega)
  have eb:=h2.1
  clear x1 x2 y1 y2;generalize i / b.length=u1 at *
  generalize j / b.length=u2 at *
  generalize i % b.length=v1 at *
  generalize j % b.length=v2 at *
  refine ⟨⟨by omega,by omega⟩,by omega,⟨by omega,by omega⟩,by omega,by omega,by omega,by omega,by omega,by omega,by omega,by rw [cf];omega,by omega,j+1,⟨by omega,by omega⟩,by omega,by omega,TS.symm⟩
 ·rw [uv,show j=N by omega]
 ·rw [show i=N by omega,bp,hN];rfl
theorem JE:Fits Tryz.prog 207 ⟨[],uB⟩:=by
 refine aJ (Γ:=af JD) aF Tryz.func207 fun ds p h hp=>?_
 unfold uB at h;split at h
 ·cases h
  exact ⟨ah,JC _ _ ,by rw [S7];exact S8 _ _  hp⟩
 ·cases h
section
variable {n m:Nat} {A C A2 C2:Nat→Nat→Nat}
end
def fC:Nat→Nat→Nat
 | 0,_=>0
 | k+1,s=>s % 2+fC k (s / 2)
theorem uC:∀(k s:Nat),fC k s=(List.range k).countP fun i=>s.testBit i
 | 0,_=>rfl
 | k+1,s=>by
  rw [fC,uC k (s / 2),List.range_succ_eq_map,List.countP_cons,List.countP_map];have e:((fun i=>s.testBit i) ∘ Nat.succ)=fun i=>(s / 2).testBit i:=by
   funext i
   simp [Function.comp,Nat.testBit_succ]
  rw [e];have h0:s % 2=if s.testBit 0=true then 1 else 0:=by
   rw [Nat.testBit_zero];by_cases h:s % 2=1
   ·simp [h]
   ·have:s % 2=0:=by omega
    simp [this]
  rw [h0];omega
theorem S9 {s k:Nat} (h:s<2 ^ k) (j:Nat):fC (k+j) s=fC k s:=by
 rw [uC,uC,List.range_add,List.countP_append];have:((List.range j).map (k+·)).countP (fun i=>s.testBit i)=0:=by
  rw [List.countP_eq_zero];intro x hx
  obtain ⟨y,_,rfl⟩:=List.mem_map.1 hx;rw [Nat.testBit_lt_two_pow (Nat.lt_of_lt_of_le h (Nat.pow_le_pow_right (by omega) (by omega)))]
  simp
 rw [this];rfl
theorem Ta {n:Nat} {r:List Int} (hl:r.length=n) (hr:∀y,y<n→0≤r.getD y 0∧r.getD y 0<(n:Int)) (hi:∀y z,y<n→z<n→r.getD y 0=r.getD z 0→y=z):cW r=true:=by
 rw [cW,decide_eq_true_eq];refine ⟨fun x hx=>?_,?_⟩
 ·obtain ⟨y,hy,rfl⟩:=List.getElem_of_mem hx
  have:=hr y (by omega)
  rw [ce r 0 y hy] at this;omega
 ·rw [List.Nodup,List.pairwise_iff_getElem]
  intro i j h1 h2 hij e
  have:=hi i j (by omega) (by omega) (by rw [ce r 0 i h1,ce r 0 j h2,e])
  omega
theorem JF {t:List (List Int)} (ht:aW t=true) (hass:∀x y z,x<t.length→y<t.length→z<t.length→tA t (tA t x y) z=tA t x (tA t y z)) (z1:∀x,x<t.length→tA t 0 x=x) (z2:∀x,x<t.length→tA t x 0=x)
  (inv:∀x,x<t.length→∃y,y<t.length∧tA t x y=0):a9 t=true:=by
 have T:=bA ht
 have E:∀{x y},x<t.length→y<t.length→_:=fun {x y} hx hy=>fh ht (x:=x) (y:=y) hx hy
 rw [a9,ht,Bool.true_and,Bool.and_eq_true,List.all_eq_true,List.all_eq_true]
 constructor
 ·intro r hr
  obtain ⟨x,hx,rfl⟩:=List.getElem_of_mem hr;have row:=T.2.2 x hx
  rw [ce t [] x hx] at row;refine Ta (n:=t.length) row.1 (fun y hy=>by have:=row.2 y hy;omega) fun y z hy hz e=>?_
  have e2:en t x y=en t x z:=by
   unfold en;rw [ce t [] x hx];exact e
  have e3:tA t x y=tA t x z:=by unfold tA;rw [e2]
  obtain ⟨i,hi,hxi⟩:=inv x hx;have hl:tA t i x=0:=by
   obtain ⟨k,hk,hik⟩:=inv i hi;have hxk:x=k:=by rw [←z2 x hx,←hik,←hass x i k hx hi hk,hxi,z1 k hk]
   rw [hxk];exact hik
  rw [←z1 y hy,←z1 z hz,←hl,hass i x y hi hx hy,hass i x z hi hx hz,e3]
 ·intro x hx
  have hx:=List.mem_range.1 hx
  rw [f3,Bool.and_eq_true,gQ,Bool.and_eq_true,decide_eq_true_eq,decide_eq_true_eq];refine ⟨⟨?_,?_⟩,?_⟩
  ·rw [(E (by omega) hx).2,z1 x hx]
  ·rw [(E hx (by omega)).2,z2 x hx]
  ·rw [lR,List.all_eq_true]
   intro y hy
   have hy:=List.mem_range.1 hy
   rw [gP,List.all_eq_true];intro z hz
   have hz:=List.mem_range.1 hz
   rw [ju,decide_eq_true_eq,(E hx hy).2,(E hy hz).2,Int.toNat_natCast,Int.toNat_natCast,(E (E hx hy).1 hz).2,(E hx (E hy hz).1).2,hass x y z hx hy hz]
theorem uD {α:Type} {n:Nat} {q:Nat→Option α} (h:∀i,i<n→q i=none):∀k,k≤n→b7 n q k=none
 | 0,_=>rfl
 | k+1,hk=>by rw [b7,h _ (by omega),uD h k (by omega)];rfl
theorem pP {a c:List (List Int)} (h:eW a c):aK a c=true:=by
 obtain ⟨ta,tc,hl,B⟩:=h;have EA:∀{x y},x<a.length→y<a.length→_:=fun {x y} hx hy=>fh ta (x:=x) (y:=y) hx hy
 have EC:∀{x y},x<a.length→y<a.length→tA c x y<a.length∧en c x y=(tA c x y:Int):=fun {x y} hx hy=>by
  have:=fh tc (x:=x) (y:=y) (by omega) (by omega)
  rwa [hl] at this
 have ga:=JF ta B.aas B.a0l B.a0r B.ainv
 have gc:a9 c=true:=JF tc (by rw [hl];exact B.cas) (by rw [hl];exact B.c0l) (by rw [hl];exact B.c0r) (by rw [hl];exact B.cinv)
 have F:cA a c=none:=by
  refine uD (fun x hx=>uD (fun y hy=>uD (fun z hz=>?_) _ (Nat.le_refl _)) _ (Nat.le_refl _)) _ (Nat.le_refl _)
  have K:=(pU ga).2.2.2 x hx
  rw [ie,if_pos];have q:=B.brc x y z (bk a x).toNat hx hy hz K.1 K.2
  have e1:=(EA hy hz)
  have e2:=(EC hx hy)
  have e3:=(EA e2.1 K.1)
  have e4:=(EC hx hz)
  have e5:=(EC hx e1.1)
  have e6:=(EA e3.1 e4.1)
  rw [e1.2,e2.2,e4.2,Int.toNat_natCast,Int.toNat_natCast,Int.toNat_natCast,e3.2,Int.toNat_natCast,e5.2,e6.2,q]
 rw [aK,ga,gc,F,decide_eq_true hl.symm];rfl
def iw (s:Int):Int:=(fC 63 s.toNat:Int)
section
variable {a c a2 c2:List (List Int)} (h:eW a c) (h2:eW a2 c2) (hs:a.length * a2.length≤12)
theorem JG {a c:List (List Int)} (h:eW a c):ba a.length a∧ba a.length c∧1≤a.length:=by
 obtain ⟨ta,tc,hl,B⟩:=h;refine ⟨⟨rfl,fun x hx=>⟨((bA ta).2.2 x hx).1,fun y hy=>by have:=fh ta hx hy;omega⟩⟩,⟨hl,fun x hx=>⟨by rw [←hl];exact ((bA tc).2.2 x (by omega)).1,fun y hy=>by have:=fh tc (x:=x) (y:=y) (by omega) (by omega);omega⟩⟩,B.pos⟩
theorem Tb {n:Nat} {t u:List (List Int)} (ht:ba n t) (hu:ba n u):t=u↔∀x y,x<n→y<n→tA t x y=tA u x y:=by
 constructor
 ·rintro rfl x y _ _;rfl
 ·intro e
  apply List.ext_getElem?
  intro x
  by_cases hx:x<n
  ·have hxt:x<t.length:=by rw [ht.1];exact hx
   have hxu:x<u.length:=by rw [hu.1];exact hx
   rw [List.getElem?_eq_getElem hxt,List.getElem?_eq_getElem hxu]
   congr 1
   have r1:=ht.2 x hx
   have r2:=hu.2 x hx
   rw [ce t [] x (by rw [ht.1];exact hx)] at r1
   rw [ce u [] x (by rw [hu.1];exact hx)] at r2
   refine Fr (by rw [r1.1,r2.1]) fun y hy=>?_
   rw [r1.1] at hy;have v1:=r1.2 y hy
   have v2:=r2.2 y hy
   have q:=e x y hx hy
   have e1:t[x].getD y 0=en t x y:=by unfold en;rw [ce t [] x (by rw [ht.1];exact hx)]
   have e2:u[x].getD y 0=en u x y:=by unfold en;rw [ce u [] x (by rw [hu.1];exact hx)]
   rw [e1,e2];unfold tA at q;omega
  ·rw [List.getElem?_eq_none (by rw [ht.1];omega),List.getElem?_eq_none (by rw [hu.1];omega)]
include h h2
include hs
end
def bJ (n s:Int) (x y:Nat):Int :=
 if (x:Int)<n∧(y:Int)<n then ((x:Int).tmod n+(y:Int).tmod n).tmod n
 else if (x:Int)<n then n+((x:Int).tmod n+(y:Int).tmod n).tmod n
 else if (y:Int)<n then n+((x:Int).tmod n - (y:Int).tmod n+n).tmod n
 else ((x:Int).tmod n - (y:Int).tmod n+n+s).tmod n
def cB (n s:Int):List (List Int):=aS (2 * n).toNat (bJ n s)
theorem JH (x:Nat) {n:Int} (h:1≤n):0≤(x:Int).tmod n∧(x:Int).tmod n<n:=⟨Int.tmod_nonneg _ (by omega),Int.tmod_lt_of_pos _ (by omega)⟩
theorem JI {x:Int} {n:Int} (h0:0≤x) (h:1≤n):0≤x.tmod n∧x.tmod n<n:=⟨Int.tmod_nonneg _ h0,Int.tmod_lt_of_pos _ (by omega)⟩
def uE (n:Int) (s:Int):Post:=⟨1≤n∧n≤12∧0≤s∧s≤12,.c (.rows 57 2 .i64 (cB n s)),[]⟩
def BO:List AD→Option Post
 | [.c (.int .i64 (n)),.c (.int .i64 (s))]=>some (uE n s)
 | _=>none
def JJ (n:Int) (s:Int):Nat→Option Ann
 | 0=>some (Ann.mk ((Nat)) (fun i=>⟨[(0,.c (.int .i64 (n))),(1,.c (.int .i64 (s))),(5,.c (.own (11))),(6,.c (.int .i64 ((i:Int))))],[(11,some (.rows 0 57 2 .i64 (bB (2 * n).toNat i (bJ n s))))]⟩) (fun i=>(i:Int)≤2 * n) (fun i=>(2 * n).toNat - i) (fun i=>fun b_=>match b_ with | 2=>some (Ann.mk ((Nat)) (fun j=>⟨[(0,.c (.int .i64 (n))),(1,.c (.int .i64 (s))),(5,.c (.own (11))),(6,.c (.int .i64 ((i:Int)))),(7,.c (.own (18))),(8,.c (.int .i64 ((j:Int))))],[(11,some (.rows 0 57 2 .i64 (bB (2 * n).toNat i (bJ n s)))),(18,some (.ints 2 .i64 (aq j (bJ n s i))))]⟩) (fun j=>(i:Int)<2 * n∧(j:Int)≤2 * n) (fun j=>(2 * n).toNat - j) (fun _=>am)) | _=>none))
 | _=>none
def JK:List (Nat×Ctr):=[]
def jd (n:Int) (x0:Nat) (x1:Nat):=(Int.tmod (↑x0:Int) n - Int.tmod (↑x1:Int) n+n)
def iy (n:Int) (x0:Nat) (x1:Nat):=(Int.tmod (↑x0:Int) n+Int.tmod (↑x1:Int) n)
def BP (n:Int) (s:Int):Prop :=
 ((∃x0:Nat,(((↑x0:Int)≤(2:Int) * n)∧((n=n)∧((s=s)∧(((0:Int)=(↑x0:Int))∧(([]:List (List Int))=bB (((2:Int) * n).toNat) x0 (bJ n s)))))))∧(∀x1:Nat,(((↑x1:Int)≤(2:Int) * n)→((ab ((2:Int) * n))∧(ac (decide ((↑x1:Int)<(2:Int) * n)) ((∃x2:Nat,((((↑x1:Int)<(2:Int) * n)∧((↑x2:Int)≤(2:Int) * n))∧((n=n)∧((s=s)∧(((↑x1:Int)=(↑x1:Int))∧(((0:Int)=(↑x2:Int))∧((bB (((2:Int) * n).toNat) x1 (bJ n s)=bB (((2:Int) * n).toNat) x1 (bJ n s))∧([]=aq x2 (bJ n s x1)))))))))∧(∀x3:Nat,((((↑x1:Int)<(2:Int) * n)∧((↑x3:Int)≤(2:Int) * n))→((ab ((2:Int) * n))∧(ac (decide ((↑x3:Int)<(2:Int) * n)) ((n≠(0:Int))∧((n≠(0:Int))∧(ac (decide ((↑x1:Int)<n)) (ac (decide ((↑x3:Int)<n)) ((ab (iy n x1 x3))∧((n≠(0:Int))∧((ae ((aq x3 (bJ n s x1)).length+[Int.tmod (iy n x1 x3) n].length))∧((ab ((↑x3:Int)+(1:Int)))∧(∃x4:Nat,((((↑x1:Int)<(2:Int) * n)∧((↑x4:Int)≤(2:Int) * n))∧((((2:Int) * n).toNat - x4<((2:Int) * n).toNat - x3)∧((n=n)∧((s=s)∧(((↑x1:Int)=(↑x1:Int))∧(((↑x3:Int)+(1:Int)=(↑x4:Int))∧((bB (((2:Int) * n).toNat) x1 (bJ n s)=bB (((2:Int) * n).toNat) x1 (bJ n s))∧(aq x3 (bJ n s x1)++[Int.tmod (iy n x1 x3) n]=aq x4 (bJ n s x1)))))))))))))) (ac (decide ((↑x1:Int)<n)) ((ab (iy n x1 x3))∧((n≠(0:Int))∧((ab (n+Int.tmod (iy n x1 x3) n))∧((ae ((aq x3 (bJ n s x1)).length+[n+Int.tmod (iy n x1 x3) n].length)) ∧
 ((ab ((↑x3:Int)+(1:Int)))∧(∃x5:Nat,((((↑x1:Int)<(2:Int) * n)∧((↑x5:Int)≤(2:Int) * n))∧((((2:Int) * n).toNat - x5<((2:Int) * n).toNat - x3)∧((n=n)∧((s=s)∧(((↑x1:Int)=(↑x1:Int))∧(((↑x3:Int)+(1:Int)=(↑x5:Int))∧((bB (((2:Int) * n).toNat) x1 (bJ n s)=bB (((2:Int) * n).toNat) x1 (bJ n s))∧(aq x3 (bJ n s x1)++[n+Int.tmod (iy n x1 x3) n]=aq x5 (bJ n s x1))))))))))))))) (ac (decide ((↑x3:Int)<n)) ((ab (Int.tmod (↑x1:Int) n - Int.tmod (↑x3:Int) n))∧((ab (jd n x1 x3))∧((n≠(0:Int))∧((ab (n+Int.tmod (jd n x1 x3) n))∧((ae ((aq x3 (bJ n s x1)).length+[n+Int.tmod (jd n x1 x3) n].length))∧((ab ((↑x3:Int)+(1:Int)))∧(∃x6:Nat,((((↑x1:Int)<(2:Int) * n)∧((↑x6:Int)≤(2:Int) * n))∧((((2:Int) * n).toNat - x6<((2:Int) * n).toNat - x3)∧((n=n)∧((s=s)∧(((↑x1:Int)=(↑x1:Int))∧(((↑x3:Int)+(1:Int)=(↑x6:Int))∧((bB (((2:Int) * n).toNat) x1 (bJ n s)=bB (((2:Int) * n).toNat) x1 (bJ n s))∧(aq x3 (bJ n s x1)++[n+Int.tmod (jd n x1 x3) n]=aq x6 (bJ n s x1)))))))))))))))) ((ab (Int.tmod (↑x1:Int) n - Int.tmod (↑x3:Int) n))∧((ab (jd n x1 x3))∧((ab (Int.tmod (↑x1:Int) n - Int.tmod (↑x3:Int) n+n+s))∧((n≠(0:Int))∧((ae ((aq x3 (bJ n s x1)).length+[Int.tmod (Int.tmod (↑x1:Int) n - Int.tmod (↑x3:Int) n+n+s) n].length))∧((ab ((↑x3:Int)+(1:Int)))∧(∃x7:Nat,((((↑x1:Int)<(2:Int) * n)∧((↑x7:Int)≤(2:Int) * n)) ∧
 ((((2:Int) * n).toNat - x7<((2:Int) * n).toNat - x3)∧((n=n)∧((s=s)∧(((↑x1:Int)=(↑x1:Int))∧(((↑x3:Int)+(1:Int)=(↑x7:Int))∧((bB (((2:Int) * n).toNat) x1 (bJ n s)=bB (((2:Int) * n).toNat) x1 (bJ n s))∧(aq x3 (bJ n s x1)++[Int.tmod (Int.tmod (↑x1:Int) n - Int.tmod (↑x3:Int) n+n+s) n]=aq x7 (bJ n s x1))))))))))))))))))) (ac (decide ((↑x1:Int)<n)) ((ab (iy n x1 x3))∧((n≠(0:Int))∧((ab (n+Int.tmod (iy n x1 x3) n))∧((ae ((aq x3 (bJ n s x1)).length+[n+Int.tmod (iy n x1 x3) n].length))∧((ab ((↑x3:Int)+(1:Int)))∧(∃x8:Nat,((((↑x1:Int)<(2:Int) * n)∧((↑x8:Int)≤(2:Int) * n))∧((((2:Int) * n).toNat - x8<((2:Int) * n).toNat - x3)∧((n=n)∧((s=s)∧(((↑x1:Int)=(↑x1:Int))∧(((↑x3:Int)+(1:Int)=(↑x8:Int))∧((bB (((2:Int) * n).toNat) x1 (bJ n s)=bB (((2:Int) * n).toNat) x1 (bJ n s))∧(aq x3 (bJ n s x1)++[n+Int.tmod (iy n x1 x3) n]=aq x8 (bJ n s x1))))))))))))))) (ac (decide ((↑x3:Int)<n)) ((ab (Int.tmod (↑x1:Int) n - Int.tmod (↑x3:Int) n))∧((ab (jd n x1 x3))∧((n≠(0:Int))∧((ab (n+Int.tmod (jd n x1 x3) n))∧((ae ((aq x3 (bJ n s x1)).length+[n+Int.tmod (jd n x1 x3) n].length))∧((ab ((↑x3:Int)+(1:Int)))∧(∃x9:Nat,((((↑x1:Int)<(2:Int) * n)∧((↑x9:Int)≤(2:Int) * n))∧((((2:Int) * n).toNat - x9<((2:Int) * n).toNat - x3)∧((n=n)∧((s=s)∧(((↑x1:Int)=(↑x1:Int))∧(((↑x3:Int)+(1:Int)=(↑x9:Int)) ∧
 ((bB (((2:Int) * n).toNat) x1 (bJ n s)=bB (((2:Int) * n).toNat) x1 (bJ n s))∧(aq x3 (bJ n s x1)++[n+Int.tmod (jd n x1 x3) n]=aq x9 (bJ n s x1)))))))))))))))) ((ab (Int.tmod (↑x1:Int) n - Int.tmod (↑x3:Int) n))∧((ab (jd n x1 x3))∧((ab (Int.tmod (↑x1:Int) n - Int.tmod (↑x3:Int) n+n+s))∧((n≠(0:Int))∧((ae ((aq x3 (bJ n s x1)).length+[Int.tmod (Int.tmod (↑x1:Int) n - Int.tmod (↑x3:Int) n+n+s) n].length))∧((ab ((↑x3:Int)+(1:Int)))∧(∃x10:Nat,((((↑x1:Int)<(2:Int) * n)∧((↑x10:Int)≤(2:Int) * n))∧((((2:Int) * n).toNat - x10<((2:Int) * n).toNat - x3)∧((n=n)∧((s=s)∧(((↑x1:Int)=(↑x1:Int))∧(((↑x3:Int)+(1:Int)=(↑x10:Int))∧((bB (((2:Int) * n).toNat) x1 (bJ n s)=bB (((2:Int) * n).toNat) x1 (bJ n s))∧(aq x3 (bJ n s x1)++[Int.tmod (Int.tmod (↑x1:Int) n - Int.tmod (↑x3:Int) n+n+s) n]=aq x10 (bJ n s x1))))))))))))))))))))) ((ae ((bB (((2:Int) * n).toNat) x1 (bJ n s)).length+(aq x3 (bJ n s x1)::([]:List (List Int))).length))∧((ab ((↑x1:Int)+(1:Int)))∧(∃x11:Nat,(((↑x11:Int)≤(2:Int) * n)∧((((2:Int) * n).toNat - x11<((2:Int) * n).toNat - x1)∧((n=n)∧((s=s)∧(((↑x1:Int)+(1:Int)=(↑x11:Int))∧(bB (((2:Int) * n).toNat) x1 (bJ n s)++aq x3 (bJ n s x1)::([]:List (List Int))=bB (((2:Int) * n).toNat) x11 (bJ n s))))))))))))))) ((bB (((2:Int) * n).toNat) x1 (bJ n s)=cB n s)∧True))))))
theorem Tc (n:Int) (s:Int):aC Tryz.prog (af JK) ah (JJ n s) Tryz.f208 (aE Tryz.f208) [] [.c (.int .i64 (n)),.c (.int .i64 (s))] (uE n s)=BP n s:=by kernel_rfl
theorem Td (n:Int) (s:Int) (Yh:(uE n s).pre):BP n s:=by
 simp only [uE,BP,jd,iy,aG,u1,u2,u3,u4,u5,u6,u7,u8,u9,v1,v2,v3,v4,v5,v6,v7,v8,v9,w1,w2,w3,w4,aH,aa,ab,ae,ar] at Yh ⊢;obtain ⟨h1,h2,h3,h4⟩:=Yh;refine ⟨⟨0,by omega,rfl,rfl⟩,fun i hi=>⟨by omega,fun h=>⟨⟨0,⟨by omega,by omega⟩,rfl,rfl⟩,fun j ⟨_,hj⟩=>⟨by omega,fun g=>?_,fun g=>⟨by rw [uw];omega,by omega,i+1,by omega,by omega,by omega,?_⟩⟩⟩,fun h=>?_⟩⟩
 ·have a:=JH i h1
  have b:=JH j h1
  have c:=JI (x:=(i:Int).tmod n+(j:Int).tmod n) (by omega) h1
  have d:=JI (x:=(i:Int).tmod n - (j:Int).tmod n+n) (by omega) h1
  have TS:aq j (bJ n s i)++[bJ n s i j]=aq (j+1) (bJ n s i):=(tab_succ' _ _).symm
  have R:∀v:Int,v=bJ n s i j→(aq j (bJ n s i)).length+(0+1)≤1099511627776∧∃x:Nat,(((i:Int)<2 * n∧(x:Int)≤2 * n)∧(2 * n).toNat - x<(2 * n).toNat - j∧(j:Int)+1=(x:Int)∧aq j (bJ n s i)++[v]=aq x (bJ n s i)):=fun v hv=>by
   subst hv;refine ⟨by rw [cf];omega,j+1,⟨by omega,by omega⟩,by omega,by omega,TS⟩
  by_cases q:(i:Int)<n <;> by_cases r:(j:Int)<n
  ·have:=R _ (if_pos ⟨q,r⟩).symm
   simp only [q,r,not_true_eq_false,not_false_eq_true,true_implies,false_implies,and_true,true_and,implies_true];exact ⟨by omega,by omega,by omega,by omega,this.1,by omega,this.2⟩
  ·have:=R _ ((if_neg (by omega)).trans (if_pos q)).symm
   simp only [q,r,not_true_eq_false,not_false_eq_true,true_implies,false_implies,and_true,true_and,implies_true];exact ⟨by omega,by omega,by omega,by omega,by omega,this.1,by omega,this.2⟩
  ·have:=R _ ((if_neg (by omega)).trans ((if_neg q).trans (if_pos r))).symm
   simp only [q,r,not_true_eq_false,not_false_eq_true,true_implies,false_implies,and_true,true_and,implies_true];exact ⟨by omega,by omega,by omega,by omega,by omega,by omega,this.1,by omega,this.2⟩
  ·have:=R _ ((if_neg (by omega)).trans ((if_neg q).trans (if_neg r))).symm
   simp only [q,r,not_true_eq_false,not_false_eq_true,true_implies,false_implies,and_true,true_and,implies_true];exact ⟨by omega,by omega,by omega,by omega,by omega,by omega,this.1,by omega,this.2⟩
 ·rw [uv,show j=(2 * n).toNat by omega]
 ·rw [show i=(2 * n).toNat by omega];rfl
theorem Te:Fits Tryz.prog 208 ⟨[],BO⟩:=by
 refine aJ (Γ:=af JK) aF Tryz.func208 fun ds p h hp=>?_
 unfold BO at h;split at h
 ·cases h
  exact ⟨ah,JJ _ _ ,by rw [Tc];exact Td _ _  hp⟩
 ·cases h
end Go.Sx
