/- BprP -/
import Derived.Test.YtcdmndagoafcgaaCirB
import Derived.Test.YtcdmndagoafcgaaGrp
import Derived.Test.YtcdmndagoafcgaaLvl
open Go Go.Proofs
namespace Go.Sx
set_option linter.unusedSimpArgs false
set_option linter.unusedVariables false
theorem spC_yes {t A:List (List Int)} {K:List Int} (h:(spC t A K).2=true):spR t A K=some (spC t A K).1:=by
 unfold spC at h ⊢
 cases e:spR t A K with
 | none=>rw [e] at h;cases h
 | some x=>rfl
theorem spC_no {t A:List (List Int)} {K:List Int} (h:(spC t A K).2=false):spR t A K=none:=by
 unfold spC at h
 cases e:spR t A K with
 | none=>rfl
 | some x=>rw [e] at h;cases h
theorem srG_yes {t A:List (List Int)} {rec:List Int→List (List (List Int))→List (List (List Int))} {K K':List Int} {i:Nat} {o:List (List (List Int))} (h:spR t A (K.set (psN K) (i:Int))=some K'):srG t A rec K i o=rec K' o:=by unfold srG;rw [h]
theorem srG_no {t A:List (List Int)} {rec:List Int→List (List (List Int))→List (List (List Int))} {K:List Int} {i:Nat} {o:List (List (List Int))} (h:spR t A (K.set (psN K) (i:Int))=none):srG t A rec K i o=o:=by unfold srG;rw [h]
theorem cir_row {n:Nat} {t A:List (List Int)} (ht:tbN n t) (hA:AuOk n A) {K:List Int} (hK:KOk n A.length K) (hp:psN K=K.length):tbN n (cirT t A K):=by
 refine ⟨by simp [cirT,ht.1],fun x hx=>?_⟩
 have hk:=psN_all K hp x (by rw [hK.len];exact hx)
 have hr:=hK.rng x hx
 have row:(cirT t A K).getD x []=thL (A.getD (K.getD x 0).toNat []) (t.getD x []):=by
  rw [cirT];simp [List.getD_eq_getElem?_getD,ht.1,hx]
 have L:=hA.len (K.getD x 0).toNat (by omega)
 refine ⟨by rw [row,thL,List.length_map,L],fun y hy=>?_⟩
 have r:=hA.rng (K.getD x 0).toNat y (by omega) hy
 have v:=(ht.2 x hx).2 (en A (K.getD x 0).toNat y).toNat (by omega)
 have:en (cirT t A K) x y=en t x (en A (K.getD x 0).toNat y).toNat:=by
  unfold en at *
  rw [row,thL,getD_map _ _ 0 0 _ (by omega)]
 rw [this];exact v
theorem tbN_room {n:Nat} {t:List (List Int)} (h:tbN n t) (hn:n≤12):roomR t:=⟨by rw [h.1];omega,fun r hr=>by
 obtain ⟨x,hx,rfl⟩:=List.getElem_of_mem hr
 have:=(h.2 x (by rw [h.1] at hx;exact hx)).1
 rw [getD_lt t [] x hx] at this
 omega⟩
def tabP (n i:Nat) (f:Nat→Nat→Int):List (List Int):=(List.range i).map fun x=>tab n (f x)
theorem tabP_succ (n i:Nat) (f:Nat→Nat→Int):tabP n (i+1) f=tabP n i f++[tab n (f i)]:=map_range_succ _ _
theorem tabP_length (n i:Nat) (f:Nat→Nat→Int):(tabP n i f).length=i:=by simp [tabP]
theorem td_in {x a m:Nat} (h:x<a * m) (hm:1≤m):(x:Int).tdiv (m:Int)=((x / m:Nat):Int)∧(x:Int).tmod (m:Int)=((x % m:Nat):Int)∧x / m<a∧x % m<m:=by
 refine ⟨?_,?_,(Nat.div_lt_iff_lt_mul (by omega)).2 h,Nat.mod_lt _ (by omega)⟩
 ·rw [Int.tdiv_eq_ediv_of_nonneg (by omega)];rfl
 ·rw [Int.tmod_eq_emod_of_nonneg (by omega)];rfl
def cyF (n:Int) (x y:Nat):Int:=((x:Int)+(y:Int)).tmod n
def cyT (n:Int):List (List Int):=tabR n.toNat (cyF n)
def l10Cyclic_p (n:Int):Post:=⟨1≤n∧n≤12,.c (.rows 22 2 .i64 (cyT n)),[]⟩
def l10Cyclic_ct:List AD→Option Post
 | [.c (.int .i64 (n))]=>some (l10Cyclic_p n)
 | _=>none
def l10Cyclic_ann (n:Int):Nat→Option Ann
 | 0=>some (Ann.mk ((Nat)) (fun i=>⟨[(0,.c (.int .i64 (n))),(3,.c (.own (3))),(4,.c (.int .i64 ((i:Int))))],[(3,some (.rows 0 22 2 .i64 (tabP n.toNat i (cyF n))))]⟩) (fun i=>(i:Int)≤n) (fun i=>n.toNat - i) (fun i=>fun b_=>match b_ with | 2=>some (Ann.mk ((Nat)) (fun j=>⟨[(0,.c (.int .i64 (n))),(3,.c (.own (3))),(4,.c (.int .i64 ((i:Int)))),(5,.c (.own (5))),(6,.c (.int .i64 ((j:Int))))],[(3,some (.rows 0 22 2 .i64 (tabP n.toNat i (cyF n)))),(5,some (.ints 2 .i64 (tab j (cyF n i))))]⟩) (fun j=>(i:Int)<n∧(j:Int)≤n) (fun j=>n.toNat - j) (fun _=>noAnn)) | _=>none))
 | _=>none
def l10Cyclic_G:List (Nat×Ctr):=[]
def l10Cyclic_V (n:Int):Prop :=
 ((∃x0:Nat,(((↑x0:Int)≤n)∧((n=n)∧(((0:Int)=(↑x0:Int))∧(([]:List (List Int))=tabP (n.toNat) x0 (cyF n))))))∧(∀x1:Nat,(((↑x1:Int)≤n)→(BrP (decide ((↑x1:Int)<n)) ((∃x2:Nat,((((↑x1:Int)<n)∧((↑x2:Int)≤n))∧((n=n)∧(((↑x1:Int)=(↑x1:Int))∧(((0:Int)=(↑x2:Int))∧((tabP (n.toNat) x1 (cyF n)=tabP (n.toNat) x1 (cyF n))∧([]=tab x2 (cyF n x1))))))))∧(∀x3:Nat,((((↑x1:Int)<n)∧((↑x3:Int)≤n))→(BrP (decide ((↑x3:Int)<n)) ((InR ((↑x1:Int)+(↑x3:Int)))∧((n≠(0:Int))∧((room ((tab x3 (cyF n x1)).length+[Int.tmod ((↑x1:Int)+(↑x3:Int)) n].length))∧((InR ((↑x3:Int)+(1:Int)))∧(∃x4:Nat,((((↑x1:Int)<n)∧((↑x4:Int)≤n))∧((n.toNat - x4<n.toNat - x3)∧((n=n)∧(((↑x1:Int)=(↑x1:Int))∧(((↑x3:Int)+(1:Int)=(↑x4:Int))∧((tabP (n.toNat) x1 (cyF n)=tabP (n.toNat) x1 (cyF n))∧(tab x3 (cyF n x1)++[Int.tmod ((↑x1:Int)+(↑x3:Int)) n]=tab x4 (cyF n x1))))))))))))) ((room ((tabP (n.toNat) x1 (cyF n)).length+(tab x3 (cyF n x1)::([]:List (List Int))).length))∧((InR ((↑x1:Int)+(1:Int)))∧(∃x5:Nat,(((↑x5:Int)≤n)∧((n.toNat - x5<n.toNat - x1)∧((n=n)∧(((↑x1:Int)+(1:Int)=(↑x5:Int))∧(tabP (n.toNat) x1 (cyF n)++tab x3 (cyF n x1)::([]:List (List Int))=tabP (n.toNat) x5 (cyF n))))))))))))) ((tabP (n.toNat) x1 (cyF n)=cyT n)∧True)))))
theorem l10Cyclic_vc (n:Int):runF Try.prog (gam l10Cyclic_G) noWr (l10Cyclic_ann n) Try.f159 (bodyOf Try.f159) [] [.c (.int .i64 (n))] (l10Cyclic_p n)=l10Cyclic_V n:=by kernel_rfl
theorem l10Cyclic_ok (n:Int) (hpre:(l10Cyclic_p n).pre):l10Cyclic_V n:=by
 simp only [l10Cyclic_p,l10Cyclic_V,BrP_iff,u1,u2,u3,u4,u5,u6,u7,u8,u9,v1,v2,v3,v4,v5,v6,v7,v8,v9,w1,w2,w3,w4,markL_length,inB,InR,room,bdsOk] at hpre ⊢
 refine ⟨⟨0,by omega,rfl,rfl⟩,fun i hi=>⟨fun h=>⟨⟨0,⟨by omega,by omega⟩,rfl,rfl⟩,fun j ⟨_,hj⟩=>⟨fun g=>⟨by omega,by omega,by rw [tab_length];omega,by omega,j+1,⟨by omega,by omega⟩,by omega,by omega,?_⟩,fun g=>⟨by rw [tabP_length];omega,by omega,i+1,by omega,by omega,by omega,?_⟩⟩⟩,fun h=>?_⟩⟩
 ·rw [tab_succ'];rfl
 ·rw [tabP_succ,show j=n.toNat by omega]
 ·rw [show i=n.toNat by omega];rfl
theorem l10Cyclic_fits:Fits Try.prog 159 ⟨[],l10Cyclic_ct⟩:=by
 refine ffn (Γ:=gam l10Cyclic_G) gok_nil Try.func159 fun ds p h hp=>?_
 unfold l10Cyclic_ct at h
 split at h
 ·cases h
  exact ⟨noWr,l10Cyclic_ann _ ,by rw [l10Cyclic_vc];exact l10Cyclic_ok _  hp⟩
 ·cases h
def prF (a b:List (List Int)) (x y:Nat):Int :=
 en a ((x:Int).tdiv (b.length:Int)).toNat ((y:Int).tdiv (b.length:Int)).toNat * (b.length:Int)+en b ((x:Int).tmod (b.length:Int)).toNat ((y:Int).tmod (b.length:Int)).toNat
def prT (a b:List (List Int)):List (List Int):=tabR (a.length * b.length) (prF a b)
theorem pr_in {a b:List (List Int)} (ha:tbN a.length a) (hb:tbN b.length b) (h1:1≤b.length) {x y:Nat} (hx:x<a.length * b.length) (hy:y<a.length * b.length):0≤prF a b x y∧prF a b x y<((a.length * b.length:Nat):Int):=by
 obtain ⟨x1,x2,x3,x4⟩:=td_in hx h1
 obtain ⟨y1,y2,y3,y4⟩:=td_in hy h1
 have A:=(ha.2 _ x3).2 _ y3
 have B:=(hb.2 _ x4).2 _ y4
 rw [prF,x1,x2,y1,y2]
 simp only [Int.toNat_natCast]
 generalize en a (x / b.length) (y / b.length)=u at *
 generalize en b (x % b.length) (y % b.length)=v at *
 have:u * (b.length:Int)≤((a.length:Int) - 1) * (b.length:Int):=Int.mul_le_mul_of_nonneg_right (by omega) (by omega)
 have h0:0≤u * (b.length:Int):=Int.mul_nonneg A.1 (by omega)
 rw [Int.sub_mul] at this
 rw [Int.natCast_mul]
 omega
def l04Product_p (a:List (List Int)) (b:List (List Int)):Post:=⟨tbN a.length a∧tbN b.length b∧1≤b.length∧a.length≤144∧b.length≤144,.c (.rows 22 2 .i64 (prT a b)),[]⟩
def l04Product_ct:List AD→Option Post
 | [.c (.rows .i64 (a)),.c (.rows .i64 (b))]=>some (l04Product_p a b)
 | _=>none
def l04Product_ann (a:List (List Int)) (b:List (List Int)):Nat→Option Ann
 | 0=>some (Ann.mk ((Nat)) (fun i=>⟨[(0,.c (.ro (.rows .i64 (a)))),(1,.c (.ro (.rows .i64 (b)))),(5,.c (.int .i64 ((a.length:Int)))),(6,.c (.int .i64 ((b.length:Int)))),(7,.c (.own (7))),(8,.c (.int .i64 ((i:Int))))],[(7,some (.rows 0 22 2 .i64 (tabP (a.length * b.length) i (prF a b))))]⟩) (fun i=>i≤a.length * b.length) (fun i=>a.length * b.length - i) (fun i=>fun b_=>match b_ with | 2=>some (Ann.mk ((Nat)) (fun j=>⟨[(0,.c (.ro (.rows .i64 (a)))),(1,.c (.ro (.rows .i64 (b)))),(5,.c (.int .i64 ((a.length:Int)))),(6,.c (.int .i64 ((b.length:Int)))),(7,.c (.own (7))),(8,.c (.int .i64 ((i:Int)))),(9,.c (.own (9))),(10,.c (.int .i64 ((j:Int))))],[(7,some (.rows 0 22 2 .i64 (tabP (a.length * b.length) i (prF a b)))),(9,some (.ints 2 .i64 (tab j (prF a b i))))]⟩) (fun j=>i<a.length * b.length∧j≤a.length * b.length) (fun j=>a.length * b.length - j) (fun _=>noAnn)) | _=>none))
 | _=>none
def l04Product_G:List (Nat×Ctr):=[]
def l04Product_c1 (b:List (List Int)) (x0:Nat):=(Int.tdiv (↑x0:Int) (↑(b.length):Int))
def l04Product_V (a:List (List Int)) (b:List (List Int)):Prop :=
 ((∃x0:Nat,((x0≤a.length * b.length)∧((a=a)∧((b=b)∧(((↑(a.length):Int)=(↑(a.length):Int))∧(((↑(b.length):Int)=(↑(b.length):Int))∧(((0:Int)=(↑x0:Int))∧(([]:List (List Int))=tabP (a.length * b.length) x0 (prF a b)))))))))∧(∀x1:Nat,((x1≤a.length * b.length)→((InR ((↑(a.length):Int) * (↑(b.length):Int)))∧(BrP (decide ((↑x1:Int)<(↑(a.length):Int) * (↑(b.length):Int))) ((∃x2:Nat,(((x1<a.length * b.length)∧(x2≤a.length * b.length))∧((a=a)∧((b=b)∧(((↑(a.length):Int)=(↑(a.length):Int))∧(((↑(b.length):Int)=(↑(b.length):Int))∧(((↑x1:Int)=(↑x1:Int))∧(((0:Int)=(↑x2:Int))∧((tabP (a.length * b.length) x1 (prF a b)=tabP (a.length * b.length) x1 (prF a b))∧([]=tab x2 (prF a b x1)))))))))))∧(∀x3:Nat,(((x1<a.length * b.length)∧(x3≤a.length * b.length))→((InR ((↑(a.length):Int) * (↑(b.length):Int)))∧(BrP (decide ((↑x3:Int)<(↑(a.length):Int) * (↑(b.length):Int))) ((((↑(b.length):Int)≠(0:Int))∧(InR (l04Product_c1 b x1)))∧((inB (l04Product_c1 b x1) (a.length))∧((((↑(b.length):Int)≠(0:Int))∧(InR (l04Product_c1 b x3)))∧((inB (l04Product_c1 b x3) ((a.getD ((l04Product_c1 b x1).toNat) []).length))∧((InR ((List.getD a ((l04Product_c1 b x1).toNat) []).getD ((l04Product_c1 b x3).toNat) (0:Int) * (↑(b.length):Int)))∧(((↑(b.length):Int)≠(0:Int))∧((inB (Int.tmod (↑x1:Int) (↑(b.length):Int)) (b.length))∧(((↑(b.length):Int)≠(0:Int)) ∧
 ((inB (Int.tmod (↑x3:Int) (↑(b.length):Int)) ((b.getD ((Int.tmod (↑x1:Int) (↑(b.length):Int)).toNat) []).length))∧((InR ((List.getD a ((l04Product_c1 b x1).toNat) []).getD ((l04Product_c1 b x3).toNat) (0:Int) * (↑(b.length):Int)+(List.getD b ((Int.tmod (↑x1:Int) (↑(b.length):Int)).toNat) []).getD ((Int.tmod (↑x3:Int) (↑(b.length):Int)).toNat) (0:Int)))∧((room ((tab x3 (prF a b x1)).length+[(List.getD a ((l04Product_c1 b x1).toNat) []).getD ((l04Product_c1 b x3).toNat) (0:Int) * (↑(b.length):Int)+(List.getD b ((Int.tmod (↑x1:Int) (↑(b.length):Int)).toNat) []).getD ((Int.tmod (↑x3:Int) (↑(b.length):Int)).toNat) (0:Int)].length))∧((InR ((↑x3:Int)+(1:Int)))∧(∃x4:Nat,(((x1<a.length * b.length)∧(x4≤a.length * b.length))∧((a.length * b.length - x4<a.length * b.length - x3)∧((a=a)∧((b=b)∧(((↑(a.length):Int)=(↑(a.length):Int))∧(((↑(b.length):Int)=(↑(b.length):Int))∧(((↑x1:Int)=(↑x1:Int))∧(((↑x3:Int)+(1:Int)=(↑x4:Int))∧((tabP (a.length * b.length) x1 (prF a b)=tabP (a.length * b.length) x1 (prF a b))∧(tab x3 (prF a b x1)++[(List.getD a ((l04Product_c1 b x1).toNat) []).getD ((l04Product_c1 b x3).toNat) (0:Int) * (↑(b.length):Int)+(List.getD b ((Int.tmod (↑x1:Int) (↑(b.length):Int)).toNat) []).getD ((Int.tmod (↑x3:Int) (↑(b.length):Int)).toNat) (0:Int)]=tab x4 (prF a b x1)))))))))))))))))))))))) ((room ((tabP (a.length * b.length) x1 (prF a b)).length+(tab x3 (prF a b x1)::([]:List (List Int))).length))∧((InR ((↑x1:Int)+(1:Int))) ∧
 (∃x5:Nat,((x5≤a.length * b.length)∧((a.length * b.length - x5<a.length * b.length - x1)∧((a=a)∧((b=b)∧(((↑(a.length):Int)=(↑(a.length):Int))∧(((↑(b.length):Int)=(↑(b.length):Int))∧(((↑x1:Int)+(1:Int)=(↑x5:Int))∧(tabP (a.length * b.length) x1 (prF a b)++tab x3 (prF a b x1)::([]:List (List Int))=tabP (a.length * b.length) x5 (prF a b))))))))))))))))) ((tabP (a.length * b.length) x1 (prF a b)=prT a b)∧True))))))
theorem l04Product_vc (a:List (List Int)) (b:List (List Int)):runF Try.prog (gam l04Product_G) noWr (l04Product_ann a b) Try.f51 (bodyOf Try.f51) [] [.c (.rows .i64 (a)),.c (.rows .i64 (b))] (l04Product_p a b)=l04Product_V a b:=by kernel_rfl
theorem l04Product_ok (a:List (List Int)) (b:List (List Int)) (hpre:(l04Product_p a b).pre):l04Product_V a b:=by
 simp only [l04Product_p,l04Product_V,l04Product_c1,BrP_iff,u1,u2,u3,u4,u5,u6,u7,u8,u9,v1,v2,v3,v4,v5,v6,v7,v8,v9,w1,w2,w3,w4,markL_length,inB,InR,room,bdsOk] at hpre ⊢
 obtain ⟨h1,h2,h3,h4,h5⟩:=hpre
 have hm:a.length * b.length≤144 * 144:=Nat.mul_le_mul h4 h5
 have hc:(a.length:Int) * (b.length:Int)=((a.length * b.length:Nat):Int):=by rw [Int.natCast_mul]
 rw [hc]
 generalize hN:a.length * b.length=N at *
 refine ⟨⟨0,by omega,rfl,rfl⟩,fun i hi=>⟨by omega,fun h=>⟨⟨0,⟨by omega,by omega⟩,rfl,rfl⟩,fun j ⟨_,hj⟩=>⟨by omega,fun g=>?_,fun g=>⟨by rw [tabP_length];omega,by omega,i+1,by omega,by omega,by omega,?_⟩⟩⟩,fun h=>?_⟩⟩
 ·obtain ⟨x1,x2,x3,x4⟩:=td_in (x:=i) (a:=a.length) (m:=b.length) (by omega) h3
  obtain ⟨y1,y2,y3,y4⟩:=td_in (x:=j) (a:=a.length) (m:=b.length) (by omega) h3
  have A:=(h1.2 _ x3)
  have B:=(h2.2 _ x4)
  have A2:=A.2 _ y3
  have B2:=B.2 _ y4
  have P:=pr_in h1 h2 h3 (x:=i) (y:=j) (by omega) (by omega)
  have TS:tab (j+1) (prF a b i)=tab j (prF a b i)++[prF a b i j]:=tab_succ' _ _
  rw [prF,x1,x2,y1,y2] at P TS
  rw [x1,x2,y1,y2]
  simp only [Int.toNat_natCast] at P TS ⊢
  have A3:((a.getD (i / b.length) []).getD (j / b.length) 0)=en a (i / b.length) (j / b.length):=rfl
  have B3:((b.getD (i % b.length) []).getD (j % b.length) 0)=en b (i % b.length) (j % b.length):=rfl
  rw [A3,B3]
  have u0:0≤en a (i / b.length) (j / b.length) * (b.length:Int):=Int.mul_nonneg A2.1 (by omega)
  have eb:=h2.1
  clear x1 x2 y1 y2
  generalize i / b.length=u1 at *
  generalize j / b.length=u2 at *
  generalize i % b.length=v1 at *
  generalize j % b.length=v2 at *
  refine ⟨⟨by omega,by omega⟩,by omega,⟨by omega,by omega⟩,by omega,by omega,by omega,by omega,by omega,by omega,by omega,by rw [tab_length];omega,by omega,j+1,⟨by omega,by omega⟩,by omega,by omega,TS.symm⟩
 ·rw [tabP_succ,show j=N by omega]
 ·rw [show i=N by omega,prT,hN];rfl
theorem l04Product_fits:Fits Try.prog 51 ⟨[],l04Product_ct⟩:=by
 refine ffn (Γ:=gam l04Product_G) gok_nil Try.func51 fun ds p h hp=>?_
 unfold l04Product_ct at h
 split at h
 ·cases h
  exact ⟨noWr,l04Product_ann _ _ ,by rw [l04Product_vc];exact l04Product_ok _ _  hp⟩
 ·cases h
def prN (m:Nat) (A B:Nat→Nat→Nat) (x y:Nat):Nat:=A (x / m) (y / m) * m+B (x % m) (y % m)
theorem dm_div {m u v:Nat} (h:v<m):(u * m+v) / m=u:=by
 rw [Nat.add_comm,Nat.add_mul_div_right _ _ (by omega),Nat.div_eq_of_lt h,Nat.zero_add]
theorem dm_mod {m u v:Nat} (h:v<m):(u * m+v) % m=v:=by
 rw [Nat.add_comm,Nat.add_mul_mod_self_right,Nat.mod_eq_of_lt h]
theorem dm_self (x m:Nat):x / m * m+x % m=x:=by rw [Nat.mul_comm];exact Nat.div_add_mod x m
theorem dm_lt {n m u v:Nat} (hu:u<n) (hv:v<m):u * m+v<n * m:=by
 have:(u+1) * m≤n * m:=Nat.mul_le_mul_right m hu
 rw [Nat.add_mul,Nat.one_mul] at this
 omega
theorem dm_in {n m x:Nat} (h:x<n * m):x / m<n∧x % m<m:=by
 have hm:0<m:=Nat.pos_of_ne_zero fun e=>by subst e;simp at h
 exact ⟨(Nat.div_lt_iff_lt_mul hm).2 h,Nat.mod_lt _ hm⟩
theorem dm_eq {m u v u' v':Nat} (h:v<m) (h':v'<m):u * m+v=u' * m+v'↔u=u'∧v=v':=by
 constructor
 ·intro e
  have a:=dm_div (u:=u) h
  have b:=dm_mod (u:=u) h
  rw [e,dm_div h'] at a
  rw [e,dm_mod h'] at b
  exact ⟨a.symm,b.symm⟩
 ·rintro ⟨rfl,rfl⟩;rfl
section
variable {n m:Nat} {A C A2 C2:Nat→Nat→Nat}
theorem prN_in (hA:∀x y,x<n→y<n→A x y<n) (hB:∀x y,x<m→y<m→A2 x y<m) {x y:Nat} (hx:x<n * m) (hy:y<n * m):prN m A A2 x y<n * m∧prN m A A2 x y / m=A (x / m) (y / m)∧prN m A A2 x y % m=A2 (x % m) (y % m):=by
 obtain ⟨a,b⟩:=dm_in hx
 obtain ⟨c,d⟩:=dm_in hy
 have v:=hB _ _ b d
 exact ⟨dm_lt (hA _ _ a c) v,dm_div v,dm_mod v⟩
theorem BrN.prod (B:BrN n A C) (B2:BrN m A2 C2):BrN (n * m) (prN m A A2) (prN m C C2):=by
 have hp:0<n * m:=Nat.mul_pos B.pos B2.pos
 have IA:∀{x y},x<n * m→y<n * m→_:=fun {x y} hx hy=>prN_in (x:=x) (y:=y) B.ain B2.ain hx hy
 have IC:∀{x y},x<n * m→y<n * m→_:=fun {x y} hx hy=>prN_in (x:=x) (y:=y) B.cin B2.cin hx hy
 have z1:0 / m=0:=Nat.zero_div m
 have z2:0 % m=0:=Nat.zero_mod m
 refine ⟨hp,fun x y hx hy=>(IA hx hy).1,fun x y hx hy=>(IC hx hy).1,fun x y z hx hy hz=>?_,fun x y z hx hy hz=>?_,fun x hx=>?_,fun x hx=>?_,fun x hx=>?_,fun x hx=>?_,fun x hx=>?_,fun x hx=>?_,fun x y z i hx hy hz hi hxi=>?_⟩
 ·obtain ⟨a,b⟩:=dm_in hx
  obtain ⟨c,d⟩:=dm_in hy
  obtain ⟨e,f⟩:=dm_in hz
  show A (prN m A A2 x y / m) (z / m) * m+A2 (prN m A A2 x y % m) (z % m)=A (x / m) (prN m A A2 y z / m) * m+A2 (x % m) (prN m A A2 y z % m)
  rw [(IA hx hy).2.1,(IA hx hy).2.2,(IA hy hz).2.1,(IA hy hz).2.2,B.aas _ _ _ a c e,B2.aas _ _ _ b d f]
 ·obtain ⟨a,b⟩:=dm_in hx
  obtain ⟨c,d⟩:=dm_in hy
  obtain ⟨e,f⟩:=dm_in hz
  show C (prN m C C2 x y / m) (z / m) * m+C2 (prN m C C2 x y % m) (z % m)=C (x / m) (prN m C C2 y z / m) * m+C2 (x % m) (prN m C C2 y z % m)
  rw [(IC hx hy).2.1,(IC hx hy).2.2,(IC hy hz).2.1,(IC hy hz).2.2,B.cas _ _ _ a c e,B2.cas _ _ _ b d f]
 ·obtain ⟨a,b⟩:=dm_in hx
  rw [prN,z1,z2,B.a0l _ a,B2.a0l _ b,dm_self]
 ·obtain ⟨a,b⟩:=dm_in hx
  rw [prN,z1,z2,B.a0r _ a,B2.a0r _ b,dm_self]
 ·obtain ⟨a,b⟩:=dm_in hx
  rw [prN,z1,z2,B.c0l _ a,B2.c0l _ b,dm_self]
 ·obtain ⟨a,b⟩:=dm_in hx
  rw [prN,z1,z2,B.c0r _ a,B2.c0r _ b,dm_self]
 ·obtain ⟨a,b⟩:=dm_in hx
  obtain ⟨u,h1,h2⟩:=B.ainv _ a
  obtain ⟨v,h3,h4⟩:=B2.ainv _ b
  exact ⟨u * m+v,dm_lt h1 h3,by rw [prN,dm_div h3,dm_mod h3,h2,h4];simp⟩
 ·obtain ⟨a,b⟩:=dm_in hx
  obtain ⟨u,h1,h2⟩:=B.cinv _ a
  obtain ⟨v,h3,h4⟩:=B2.cinv _ b
  exact ⟨u * m+v,dm_lt h1 h3,by rw [prN,dm_div h3,dm_mod h3,h2,h4];simp⟩
 ·obtain ⟨a,b⟩:=dm_in hx
  obtain ⟨c,d⟩:=dm_in hy
  obtain ⟨e,f⟩:=dm_in hz
  obtain ⟨g,h⟩:=dm_in hi
  have q:=IA hx hi
  rw [hxi] at q
  have q1:A (x / m) (i / m)=0:=by rw [←q.2.1,z1]
  have q2:A2 (x % m) (i % m)=0:=by rw [←q.2.2,z2]
  have w1:=IC hx hy
  have w2:=IC hx hz
  have w3:=IA w1.1 hi
  show C (x / m) (prN m A A2 y z / m) * m+C2 (x % m) (prN m A A2 y z % m)=A (prN m A A2 (prN m C C2 x y) i / m) (prN m C C2 x z / m) * m+A2 (prN m A A2 (prN m C C2 x y) i % m) (prN m C C2 x z % m)
  rw [(IA hy hz).2.1,(IA hy hz).2.2,w3.2.1,w3.2.2,w1.2.1,w1.2.2,w2.2.1,w2.2.2,B.brc _ _ _ _ a c e g q1,B2.brc _ _ _ _ b d f h q2]
theorem soc_prod (hn:0<n) (hm:0<m) (hA:∀x y,x<n→y<n→A x y<n) (hC:∀x y,x<n→y<n→C x y<n) (hA2:∀x y,x<m→y<m→A2 x y<m) (hC2:∀x y,x<m→y<m→C2 x y<m) {t:Nat} (ht:t<n * m) :
  SocP (n * m) (prN m A A2) (prN m C C2) t↔SocP n A C (t / m)∧SocP m A2 C2 (t % m):=by
 obtain ⟨a,b⟩:=dm_in ht
 constructor
 ·rintro ⟨_,h⟩
  refine ⟨⟨a,fun z hz=>?_⟩,⟨b,fun z hz=>?_⟩⟩
  ·have:=h (z * m+0) (dm_lt hz hm)
   simp only [prN,dm_div hm,dm_mod hm] at this
   obtain ⟨e1,e2⟩:=this
   rw [dm_eq (hC2 _ _ b hm) (hA2 _ _ b hm)] at e1
   rw [dm_eq (hA2 _ _ b hm) (hA2 _ _ hm b)] at e2
   exact ⟨e1.1,e2.1⟩
  ·have:=h (0 * m+z) (dm_lt hn hz)
   simp only [prN,dm_div hz,dm_mod hz] at this
   obtain ⟨e1,e2⟩:=this
   rw [dm_eq (hC2 _ _ b hz) (hA2 _ _ b hz)] at e1
   rw [dm_eq (hA2 _ _ b hz) (hA2 _ _ hz b)] at e2
   exact ⟨e1.2,e2.2⟩
 ·rintro ⟨⟨_,h1⟩,⟨_,h2⟩⟩
  refine ⟨ht,fun z hz=>?_⟩
  obtain ⟨c,d⟩:=dm_in hz
  have e1:=h1 _ c
  have e2:=h2 _ d
  rw [prN,prN,prN,e1.1,e1.2,e2.1,e2.2]
  exact ⟨rfl,rfl⟩
end
/- Counting. -/
theorem count_prod (p q:Nat→Bool) (m:Nat):∀n,(List.range (n * m)).countP (fun t=>p (t / m)&&q (t % m))=(List.range n).countP p * (List.range m).countP q
 | 0=>by simp
 | n+1=>by
  rw [Nat.succ_mul,List.range_add,List.countP_append,count_prod p q m n,List.range_succ,List.countP_append,List.countP_map,Nat.add_mul]
  congr 1
  have e:(List.range m).countP ((fun t=>p (t / m)&&q (t % m)) ∘ fun x=>n * m+x)=(List.range m).countP fun x=>p n&&q x:=by
   refine List.countP_congr fun x hx=>?_
   have hx:=List.mem_range.1 hx
   simp only [Function.comp,dm_div hx,dm_mod hx]
  rw [e]
  cases hpn:p n <;> simp [hpn]
def pcF:Nat→Nat→Nat
 | 0,_=>0
 | k+1,s=>s % 2+pcF k (s / 2)
theorem pcF_count:∀(k s:Nat),pcF k s=(List.range k).countP fun i=>s.testBit i
 | 0,_=>rfl
 | k+1,s=>by
  rw [pcF,pcF_count k (s / 2),List.range_succ_eq_map,List.countP_cons,List.countP_map]
  have e:((fun i=>s.testBit i) ∘ Nat.succ)=fun i=>(s / 2).testBit i:=by
   funext i
   simp [Function.comp,Nat.testBit_succ]
  rw [e]
  have h0:s % 2=if s.testBit 0=true then 1 else 0:=by
   rw [Nat.testBit_zero]
   by_cases h:s % 2=1
   ·simp [h]
   ·have:s % 2=0:=by omega
    simp [this]
  rw [h0];omega
theorem pcF_more {s k:Nat} (h:s<2 ^ k) (j:Nat):pcF (k+j) s=pcF k s:=by
 rw [pcF_count,pcF_count,List.range_add,List.countP_append]
 have:((List.range j).map (k+·)).countP (fun i=>s.testBit i)=0:=by
  rw [List.countP_eq_zero]
  intro x hx
  obtain ⟨y,_,rfl⟩:=List.mem_map.1 hx
  rw [Nat.testBit_lt_two_pow (Nat.lt_of_lt_of_le h (Nat.pow_le_pow_right (by omega) (by omega)))]
  simp
 rw [this];rfl
/- Tables. -/
theorem tb_tabB {n:Nat} {t:List (List Int)} (h:tbN n t) (h1:1≤n) (h2:n≤12):tabB t=true:=by
 have e:=h.1
 rw [tabB,Bool.and_eq_true,decide_eq_true_eq,List.all_eq_true]
 refine ⟨by omega,fun r hr=>?_⟩
 obtain ⟨x,hx,rfl⟩:=List.getElem_of_mem hr
 have row:=h.2 x (by omega)
 rw [getD_lt t [] x hx] at row
 rw [rowB,Bool.and_eq_true,decide_eq_true_eq]
 refine ⟨by omega,?_⟩
 rw [allW,List.all_eq_true]
 intro v hv
 obtain ⟨y,hy,rfl⟩:=List.getElem_of_mem hv
 have q:=row.2 y (by omega)
 have e2:en t x y=t[x][y]:=by
  unfold en
  rw [getD_lt t [] x hx,getD_lt _ 0 y hy]
 rw [e2] at q
 rw [decide_eq_true_eq];omega
theorem prT_tb {a b:List (List Int)} (ha:tbN a.length a) (hb:tbN b.length b) (h1:1≤b.length):tbN (a.length * b.length) (prT a b):=by
 refine ⟨tabR_length _ _,fun x hx=>?_⟩
 have r:(prT a b).getD x []=tab (a.length * b.length) (prF a b x):=tabR_getD _ _ _ hx
 refine ⟨by rw [r,tab_length],fun y hy=>?_⟩
 have v:en (prT a b) x y=prF a b x y:=by
  show ((prT a b).getD x []).getD y 0=_
  rw [r,tab_getD _ _ _ hy]
 rw [v];exact pr_in ha hb h1 hx hy
theorem prT_tA {a b:List (List Int)} (ha:tbN a.length a) (hb:tbN b.length b) (h1:1≤b.length) {x y:Nat} (hx:x<a.length * b.length) (hy:y<a.length * b.length):tA (prT a b) x y=prN b.length (tA a) (tA b) x y:=by
 have r:(prT a b).getD x []=tab (a.length * b.length) (prF a b x):=tabR_getD _ _ _ hx
 have v:en (prT a b) x y=prF a b x y:=by
  show ((prT a b).getD x []).getD y 0=_
  rw [r,tab_getD _ _ _ hy]
 obtain ⟨x1,x2,x3,x4⟩:=td_in hx h1
 obtain ⟨y1,y2,y3,y4⟩:=td_in hy h1
 have A:=(ha.2 _ x3).2 _ y3
 have B:=(hb.2 _ x4).2 _ y4
 have m0:0≤en a (x / b.length) (y / b.length) * (b.length:Int):=Int.mul_nonneg A.1 (by omega)
 rw [tA,v,prF,x1,x2,y1,y2,Int.toNat_natCast,Int.toNat_natCast,Int.toNat_natCast,Int.toNat_natCast,Int.toNat_add m0 B.1,Int.toNat_mul A.1 (by omega),Int.toNat_natCast]
 rfl
theorem perm_of {n:Nat} {r:List Int} (hl:r.length=n) (hr:∀y,y<n→0≤r.getD y 0∧r.getD y 0<(n:Int)) (hi:∀y z,y<n→z<n→r.getD y 0=r.getD z 0→y=z):permB r=true:=by
 rw [permB,decide_eq_true_eq]
 refine ⟨fun x hx=>?_,?_⟩
 ·obtain ⟨y,hy,rfl⟩:=List.getElem_of_mem hx
  have:=hr y (by omega)
  rw [getD_lt r 0 y hy] at this
  omega
 ·rw [List.Nodup,List.pairwise_iff_getElem]
  intro i j h1 h2 hij e
  have:=hi i j (by omega) (by omega) (by rw [getD_lt r 0 i h1,getD_lt r 0 j h2,e])
  omega
theorem grp_of {t:List (List Int)} (ht:tabB t=true) (hass:∀x y z,x<t.length→y<t.length→z<t.length→tA t (tA t x y) z=tA t x (tA t y z)) (z1:∀x,x<t.length→tA t 0 x=x) (z2:∀x,x<t.length→tA t x 0=x)
  (inv:∀x,x<t.length→∃y,y<t.length∧tA t x y=0):grpB t=true:=by
 have T:=tabB_of ht
 have E:∀{x y},x<t.length→y<t.length→_:=fun {x y} hx hy=>tA_lt ht (x:=x) (y:=y) hx hy
 rw [grpB,ht,Bool.true_and,Bool.and_eq_true,List.all_eq_true,List.all_eq_true]
 constructor
 ·intro r hr
  obtain ⟨x,hx,rfl⟩:=List.getElem_of_mem hr
  have row:=T.2.2 x hx
  rw [getD_lt t [] x hx] at row
  refine perm_of (n:=t.length) row.1 (fun y hy=>by have:=row.2 y hy;omega) fun y z hy hz e=>?_
  have e2:en t x y=en t x z:=by
   unfold en
   rw [getD_lt t [] x hx];exact e
  have e3:tA t x y=tA t x z:=by unfold tA;rw [e2]
  obtain ⟨i,hi,hxi⟩:=inv x hx
  have hl:tA t i x=0:=by
   obtain ⟨k,hk,hik⟩:=inv i hi
   have hxk:x=k:=by rw [←z2 x hx,←hik,←hass x i k hx hi hk,hxi,z1 k hk]
   rw [hxk];exact hik
  rw [←z1 y hy,←z1 z hz,←hl,hass i x y hi hx hy,hass i x z hi hx hz,e3]
 ·intro x hx
  have hx:=List.mem_range.1 hx
  rw [gpX,Bool.and_eq_true,zrX,Bool.and_eq_true,decide_eq_true_eq,decide_eq_true_eq]
  refine ⟨⟨?_,?_⟩,?_⟩
  ·rw [(E (by omega) hx).2,z1 x hx]
  ·rw [(E hx (by omega)).2,z2 x hx]
  ·rw [asX,List.all_eq_true]
   intro y hy
   have hy:=List.mem_range.1 hy
   rw [asY,List.all_eq_true]
   intro z hz
   have hz:=List.mem_range.1 hz
   rw [asZ,decide_eq_true_eq,(E hx hy).2,(E hy hz).2,Int.toNat_natCast,Int.toNat_natCast,(E (E hx hy).1 hz).2,(E hx (E hy hz).1).2,hass x y z hx hy hz]
theorem firstO_all {α:Type} {n:Nat} {q:Nat→Option α} (h:∀i,i<n→q i=none):∀k,k≤n→firstO n q k=none
 | 0,_=>rfl
 | k+1,hk=>by rw [firstO,h _ (by omega),firstO_all h k (by omega)];rfl
theorem brcB_of_brT {a c:List (List Int)} (h:brT a c):brcB a c=true:=by
 obtain ⟨ta,tc,hl,B⟩:=h
 have EA:∀{x y},x<a.length→y<a.length→_:=fun {x y} hx hy=>tA_lt ta (x:=x) (y:=y) hx hy
 have EC:∀{x y},x<a.length→y<a.length→tA c x y<a.length∧en c x y=(tA c x y:Int):=fun {x y} hx hy=>by
  have:=tA_lt tc (x:=x) (y:=y) (by omega) (by omega)
  rwa [hl] at this
 have ga:=grp_of ta B.aas B.a0l B.a0r B.ainv
 have gc:grpB c=true:=grp_of tc (by rw [hl];exact B.cas) (by rw [hl];exact B.c0l) (by rw [hl];exact B.c0r) (by rw [hl];exact B.cinv)
 have F:brF a c=none:=by
  refine firstO_all (fun x hx=>firstO_all (fun y hy=>firstO_all (fun z hz=>?_) _ (Nat.le_refl _)) _ (Nat.le_refl _)) _ (Nat.le_refl _)
  have K:=(grp_facts ga).2.2.2 x hx
  rw [brZ,if_pos]
  have q:=B.brc x y z (bk a x).toNat hx hy hz K.1 K.2
  have e1:=(EA hy hz)
  have e2:=(EC hx hy)
  have e3:=(EA e2.1 K.1)
  have e4:=(EC hx hz)
  have e5:=(EC hx e1.1)
  have e6:=(EA e3.1 e4.1)
  rw [e1.2,e2.2,e4.2,Int.toNat_natCast,Int.toNat_natCast,Int.toNat_natCast,e3.2,Int.toNat_natCast,e5.2,e6.2,q]
 rw [brcB,ga,gc,F,decide_eq_true hl.symm];rfl
theorem brT_prod {a c a2 c2:List (List Int)} (h:brT a c) (h2:brT a2 c2) (hs:a.length * a2.length≤12):brT (prT a a2) (prT c c2):=by
 obtain ⟨ta,tc,hl,B⟩:=h
 obtain ⟨ta2,tc2,hl2,B2⟩:=h2
 have Ta:tbN a.length a:=⟨rfl,fun x hx=>⟨((tabB_of ta).2.2 x hx).1,fun y hy=>by have:=tA_lt ta hx hy;omega⟩⟩
 have Tc:tbN c.length c:=⟨rfl,fun x hx=>⟨((tabB_of tc).2.2 x hx).1,fun y hy=>by have:=tA_lt tc hx hy;omega⟩⟩
 have Ta2:tbN a2.length a2:=⟨rfl,fun x hx=>⟨((tabB_of ta2).2.2 x hx).1,fun y hy=>by have:=tA_lt ta2 hx hy;omega⟩⟩
 have Tc2:tbN c2.length c2:=⟨rfl,fun x hx=>⟨((tabB_of tc2).2.2 x hx).1,fun y hy=>by have:=tA_lt tc2 hx hy;omega⟩⟩
 have p:=Nat.mul_pos B.pos B2.pos
 have P:=prT_tb Ta Ta2 B2.pos
 have Q:=prT_tb Tc Tc2 (by have:=B2.pos;omega)
 have lP:(prT a a2).length=a.length * a2.length:=tabR_length _ _
 have lQ:(prT c c2).length=a.length * a2.length:=by rw [←hl,←hl2];exact tabR_length _ _
 refine ⟨tb_tabB P p hs,tb_tabB Q (by rw [hl,hl2];exact p) (by rw [hl,hl2];exact hs),by rw [lP,lQ],?_⟩
 rw [lP]
 refine (B.prod B2).congr (fun x y hx hy=>prT_tA Ta Ta2 B2.pos hx hy) fun x y hx hy=>?_
 have:=prT_tA Tc Tc2 (by have:=B2.pos;omega) (x:=x) (y:=y) (by rw [hl,hl2];exact hx) (by rw [hl,hl2];exact hy)
 rw [this,hl2]
end Go.Sx
