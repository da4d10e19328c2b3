/- MapB -/
import Derived.Test.YtkmldclpaniclaaMapA
open Go Go.Proofs
namespace Go.Sx
set_option linter.unusedSimpArgs false
set_option linter.unusedVariables false
def ow1 (t:List (List Int)) (x y:Nat):Int:=if en t x y=(y:Int) then 1 else 0
def ow2 (t:List (List Int)) (x y:Nat):Int:=ow1 t x y+if en t y x=(y:Int) then 2 else 0
def ow3 (t:List (List Int)) (x y:Nat):Int:=ow2 t x y+if en t x y=(x:Int) then 4 else 0
theorem ow4 (t:List (List Int)) (x y:Nat):ownF t x y=ow3 t x y+if en t y x=(x:Int) then 8 else 0:=rfl
theorem ow_in (t:List (List Int)) (x y:Nat):(0≤ow1 t x y∧ow1 t x y≤1)∧(0≤ow2 t x y∧ow2 t x y≤3)∧(0≤ow3 t x y∧ow3 t x y≤7)∧0≤ownF t x y∧ownF t x y≤15:=by
 rw [ow4]
 unfold ow3 ow2 ow1
 split <;> split <;> split <;> split <;> omega
theorem cnZ_le (t:List (List Int)) (x y:Nat):∀n,cnZ t x y n≤n
 | 0=>Nat.le_refl _
 | n+1=>by rw [cnZ];have:=cnZ_le t x y n;split <;> omega
def ctR (n:Nat) (t:List (List Int)) (x j i:Nat):List Int:=tab n fun q=>if q<j then (cntF n t x q:Int) else if q=j then (cnZ t x j i:Int) else 0
def bbL (p:List Int) (x:Int) (j:Nat):List Int:=p.take j++x::p.drop j
theorem bbL_len (p:List Int) (x:Int) {j:Nat} (h:j≤p.length):(bbL p x j).length=p.length+1:=by simp [bbL];omega
theorem bbL_at (p:List Int) (x:Int) {j:Nat} (h:j≤p.length):(bbL p x j).getD j 0=x:=at_getD _ _ _ _ _ (by rw [List.length_take];omega)
theorem bbL_lo (p:List Int) (x:Int) {j:Nat} (h:j+1≤p.length):(bbL p x (j+1)).getD j 0=p.getD j 0:=by
 rw [bbL,getD_append_left' _ _ _ _ (by rw [List.length_take];omega),take_getD _ _ _ _ (by omega)]
theorem bbL_step (p:List Int) (x:Int) {j:Nat} (h:j+1≤p.length):((bbL p x (j+1)).set (j+1) (p.getD j 0)).set j x=bbL p x j:=by
 rw [bbL,bbL,at_set _ _ _ _ _ (by rw [List.length_take];omega),←take_snoc p 0 j (by omega),List.append_assoc,List.singleton_append,at_set _ _ _ _ _ (by rw [List.length_take];omega),drop_cons' p 0 j (by omega)]
theorem tab_succ' (n:Nat) (f:Nat→Int):tab (n+1) f=tab n f++[f n]:=by simp [tab,List.range_succ]
theorem ctR_len (n:Nat) (t:List (List Int)) (x j i:Nat):(ctR n t x j i).length=n:=tab_length _ _
theorem ctR_zero (n:Nat) (t:List (List Int)) (x:Nat):List.replicate n 0=ctR n t x 0 0:=by
 refine list_ext (by rw [ctR_len];simp) fun q hq=>?_
 have hq:q<n:=by simpa using hq
 rw [ctR,tab_getD _ _ _ hq,if_neg (by omega)]
 simp [List.getD_eq_getElem?_getD,hq,cnZ]
theorem ctR_at {n:Nat} (t:List (List Int)) (x:Nat) {j:Nat} (i:Nat) (h:j<n):(ctR n t x j i).getD j 0=(cnZ t x j i:Int):=by
 rw [ctR,tab_getD _ _ _ h,if_neg (by omega),if_pos rfl]
theorem ctR_yes {n:Nat} {t:List (List Int)} {x j i:Nat} (h:en t j i=(x:Int)):(ctR n t x j i).set j ((cnZ t x j i:Int)+1)=ctR n t x j (i+1):=by
 rw [ctR,ctR,tab_set]
 refine tab_ext fun q hq=>?_
 by_cases e:q=j
 ·rw [if_pos e,if_neg (by omega),if_pos e,cnZ,if_pos h];rfl
 ·rw [if_neg e,if_neg e,if_neg e]
theorem ctR_no {n:Nat} {t:List (List Int)} {x j i:Nat} (h:¬ en t j i=(x:Int)):ctR n t x j i=ctR n t x j (i+1):=by
 rw [ctR,ctR]
 refine tab_ext fun q hq=>?_
 rw [cnZ,if_neg h]
theorem ctR_next (n:Nat) (t:List (List Int)) (x j:Nat):ctR n t x j n=ctR n t x (j+1) 0:=by
 rw [ctR,ctR]
 refine tab_ext fun q hq=>?_
 by_cases e:q=j
 ·rw [if_neg (by omega),if_pos e,if_pos (by omega),cntF,e]
 ·by_cases e2:q<j
  ·rw [if_pos e2,if_pos (by omega)]
  ·rw [if_neg e2,if_neg e,if_neg (by omega)]
   split
   ·rfl
   ·rfl
theorem ctR_end {n:Nat} (t:List (List Int)) (x:Nat) {q:Nat} (h:q<n):(ctR n t x n 0).getD q 0=(cntF n t x q:Int):=by
 rw [ctR,tab_getD _ _ _ h,if_pos h]
theorem mkS_len (n:Nat) (t:List (List Int)) (c:List Int) (x:Nat):(mkS n t c x).length=2 * n:=by rw [mkS,List.length_append,tab_length,tab_length];omega
theorem mkN_len (n:Nat) (a:List (List (List Int))) (c:List Int) (x:Nat):∀k,(mkN n a c x k).length=1+k * (2 * n)
 | 0=>by simp [mkN]
 | k+1=>by rw [mkN,List.length_append,mkN_len n a c x k,isL,isN_len,mkS_len,Nat.add_mul,Nat.one_mul,Nat.add_assoc]
def l03Mark_p (t:List (List (List Int))) (c:List Int) (z:Int):Post:=⟨t.length≤1000∧1≤c.length∧c.length≤12∧tsN c.length t∧(∀i,i<c.length→0≤c.getD i 0∧c.getD i 0≤60)∧0≤z∧z<(c.length:Int),.c (.ints 2 .i64 (mkF c.length t c z.toNat)),[]⟩
def l03Mark_ct:List AD→Option Post
 | [.c (.r3 .i64 (t)),.c (.ints .i64 (c)),.c (.int .i64 (z))]=>some (l03Mark_p t c z)
 | _=>none
def l03Mark_ann (t:List (List (List Int))) (c:List Int) (z:Int):Nat→Option Ann
 | 0=>some (Ann.mk ((Nat)) (fun k=>⟨[(0,.c (.ro (.r3 .i64 (t)))),(1,.c (.ro (.ints .i64 (c)))),(2,.c (.int .i64 (z))),(7,.c (.int .i64 ((c.length:Int)))),(8,.c (.own (8))),(9,.c (.int .i64 ((k:Int))))],[(8,some (.ints 2 .i64 (mkN c.length t c z.toNat k)))]⟩) (fun k=>k≤t.length) (fun k=>t.length - k) (fun k=>fun b_=>match b_ with | 2=>some (Ann.mk ((Nat)) (fun j=>⟨[(0,.c (.ro (.r3 .i64 (t)))),(1,.c (.ro (.ints .i64 (c)))),(2,.c (.int .i64 (z))),(7,.c (.int .i64 ((c.length:Int)))),(8,.c (.own (8))),(9,.c (.int .i64 ((k:Int)))),(10,.c (.own (10))),(11,.c (.int .i64 ((j:Int))))],[(8,some (.ints 2 .i64 (mkN c.length t c z.toNat k))),(10,some (.ints 2 .i64 (tab j (keyF (t.getD k []) c z.toNat))))]⟩) (fun j=>k<t.length∧j≤c.length) (fun j=>c.length - j) (fun j=>fun b_=>match b_ with | 1013=>some (Ann.mk ((Unit)) (fun u=>⟨[(0,.c (.ro (.r3 .i64 (t)))),(1,.c (.ro (.ints .i64 (c)))),(2,.c (.int .i64 (z))),(7,.c (.int .i64 ((c.length:Int)))),(8,.c (.own (8))),(9,.c (.int .i64 ((k:Int)))),(10,.c (.own (10))),(11,.c (.int .i64 ((j:Int)))),(12,.c (.int .i64 (en (t.getD k []) z.toNat j))),(13,.c (.int .i64 (en (t.getD k []) j z.toNat))),(14,.c (.int .i64 (ow1 (t.getD k []) z.toNat j)))],[(8,some (.ints 2 .i64 (mkN c.length t c z.toNat k))),(10,some (.ints 2 .i64 (tab j (keyF (t.getD k []) c z.toNat))))]⟩) (fun u=>j<c.length) (fun u=>0) (fun _=>noAnn)) | 1015=>some (Ann.mk ((Unit)) (fun u=>⟨[(0,.c (.ro (.r3 .i64 (t)))),(1,.c (.ro (.ints .i64 (c)))),(2,.c (.int .i64 (z))),(7,.c (.int .i64 ((c.length:Int)))),(8,.c (.own (8))),(9,.c (.int .i64 ((k:Int)))),(10,.c (.own (10))),(11,.c (.int .i64 ((j:Int)))),(12,.c (.int .i64 (en (t.getD k []) z.toNat j))),(13,.c (.int .i64 (en (t.getD k []) j z.toNat))),(14,.c (.int .i64 (ow2 (t.getD k []) z.toNat j)))],[(8,some (.ints 2 .i64 (mkN c.length t c z.toNat k))),(10,some (.ints 2 .i64 (tab j (keyF (t.getD k []) c z.toNat))))]⟩) (fun u=>j<c.length) (fun u=>0) (fun _=>noAnn)) | 1017=>some (Ann.mk ((Unit)) (fun u=>⟨[(0,.c (.ro (.r3 .i64 (t)))),(1,.c (.ro (.ints .i64 (c)))),(2,.c (.int .i64 (z))),(7,.c (.int .i64 ((c.length:Int)))),(8,.c (.own (8))),(9,.c (.int .i64 ((k:Int)))),(10,.c (.own (10))),(11,.c (.int .i64 ((j:Int)))),(12,.c (.int .i64 (en (t.getD k []) z.toNat j))),(13,.c (.int .i64 (en (t.getD k []) j z.toNat))),(14,.c (.int .i64 (ow3 (t.getD k []) z.toNat j)))],[(8,some (.ints 2 .i64 (mkN c.length t c z.toNat k))),(10,some (.ints 2 .i64 (tab j (keyF (t.getD k []) c z.toNat))))]⟩) (fun u=>j<c.length) (fun u=>0) (fun _=>noAnn)) | 1019=>some (Ann.mk ((Unit)) (fun u=>⟨[(0,.c (.ro (.r3 .i64 (t)))),(1,.c (.ro (.ints .i64 (c)))),(2,.c (.int .i64 (z))),(7,.c (.int .i64 ((c.length:Int)))),(8,.c (.own (8))),(9,.c (.int .i64 ((k:Int)))),(10,.c (.own (10))),(11,.c (.int .i64 ((j:Int)))),(12,.c (.int .i64 (en (t.getD k []) z.toNat j))),(13,.c (.int .i64 (en (t.getD k []) j z.toNat))),(14,.c (.int .i64 (ownF (t.getD k []) z.toNat j)))],[(8,some (.ints 2 .i64 (mkN c.length t c z.toNat k))),(10,some (.ints 2 .i64 (tab j (keyF (t.getD k []) c z.toNat))))]⟩) (fun u=>j<c.length) (fun u=>0) (fun _=>noAnn)) | _=>none)) | 4=>some (Ann.mk ((Nat)) (fun j=>⟨[(0,.c (.ro (.r3 .i64 (t)))),(1,.c (.ro (.ints .i64 (c)))),(2,.c (.int .i64 (z))),(7,.c (.int .i64 ((c.length:Int)))),(8,.c (.own (8))),(9,.c (.int .i64 ((k:Int)))),(10,.c (.own (10))),(15,.c (.own (15))),(16,.c (.int .i64 ((j:Int))))],[(8,some (.ints 2 .i64 (mkN c.length t c z.toNat k))),(10,some (.ints 2 .i64 (tab c.length (keyF (t.getD k []) c z.toNat)))),(15,some (.ints 2 .i64 (ctR c.length (t.getD k []) z.toNat j 0)))]⟩) (fun j=>k<t.length∧j≤c.length) (fun j=>c.length - j) (fun j=>fun b_=>match b_ with | 6=>some (Ann.mk ((Nat)) (fun i=>⟨[(0,.c (.ro (.r3 .i64 (t)))),(1,.c (.ro (.ints .i64 (c)))),(2,.c (.int .i64 (z))),(7,.c (.int .i64 ((c.length:Int)))),(8,.c (.own (8))),(9,.c (.int .i64 ((k:Int)))),(10,.c (.own (10))),(15,.c (.own (15))),(16,.c (.int .i64 ((j:Int)))),(17,.c (.int .i64 ((i:Int))))],[(8,some (.ints 2 .i64 (mkN c.length t c z.toNat k))),(10,some (.ints 2 .i64 (tab c.length (keyF (t.getD k []) c z.toNat)))),(15,some (.ints 2 .i64 (ctR c.length (t.getD k []) z.toNat j i)))]⟩) (fun i=>j<c.length∧i≤c.length) (fun i=>c.length - i) (fun _=>noAnn)) | _=>none)) | 8=>some (Ann.mk ((Nat)) (fun j=>⟨[(0,.c (.ro (.r3 .i64 (t)))),(1,.c (.ro (.ints .i64 (c)))),(2,.c (.int .i64 (z))),(7,.c (.int .i64 ((c.length:Int)))),(8,.c (.own (8))),(9,.c (.int .i64 ((k:Int)))),(10,.c (.own (10))),(15,.c (.own (15))),(18,.c (.int .i64 ((j:Int))))],[(8,some (.ints 2 .i64 (mkN c.length t c z.toNat k))),(10,some (.ints 2 .i64 (tab c.length (keyF (t.getD k []) c z.toNat)++tab j (fun y=>1099511627776+c.getD y 0 * 64+(cntF c.length (t.getD k []) z.toNat y:Int))))),(15,some (.ints 2 .i64 (ctR c.length (t.getD k []) z.toNat c.length 0)))]⟩) (fun j=>k<t.length∧j≤c.length) (fun j=>c.length - j) (fun _=>noAnn)) | 10=>some (Ann.mk ((Nat)) (fun i=>⟨[(0,.c (.ro (.r3 .i64 (t)))),(1,.c (.ro (.ints .i64 (c)))),(2,.c (.int .i64 (z))),(7,.c (.int .i64 ((c.length:Int)))),(8,.c (.own (8))),(9,.c (.int .i64 ((k:Int)))),(10,.c (.own (10))),(19,.c (.int .i64 ((i:Int))))],[(8,some (.ints 2 .i64 (mkN c.length t c z.toNat k))),(10,some (.ints 2 .i64 (isN (mkS c.length (t.getD k []) c z.toNat) i++(mkS c.length (t.getD k []) c z.toNat).drop i)))]⟩) (fun i=>k<t.length∧1≤i∧i≤2 * c.length) (fun i=>2 * c.length - i) (fun i=>fun b_=>match b_ with | 12=>some (Ann.mk ((Nat)) (fun j=>⟨[(0,.c (.ro (.r3 .i64 (t)))),(1,.c (.ro (.ints .i64 (c)))),(2,.c (.int .i64 (z))),(7,.c (.int .i64 ((c.length:Int)))),(8,.c (.own (8))),(9,.c (.int .i64 ((k:Int)))),(10,.c (.own (10))),(19,.c (.int .i64 ((i:Int)))),(20,.c (.int .i64 ((j:Int))))],[(8,some (.ints 2 .i64 (mkN c.length t c z.toNat k))),(10,some (.ints 2 .i64 (bbL (isN (mkS c.length (t.getD k []) c z.toNat) i) ((mkS c.length (t.getD k []) c z.toNat).getD i 0) j++(mkS c.length (t.getD k []) c z.toNat).drop (i+1))))]⟩) (fun j=>i<2 * c.length∧j≤i∧bub (isN (mkS c.length (t.getD k []) c z.toNat) i) ((mkS c.length (t.getD k []) c z.toNat).getD i 0) i=bub (isN (mkS c.length (t.getD k []) c z.toNat) i) ((mkS c.length (t.getD k []) c z.toNat).getD i 0) j) (fun j=>j) (fun _=>noAnn)) | _=>none)) | _=>none))
 | _=>none
def l03Mark_G:List (Nat×Ctr):=[]
def l03Mark_c1 (t:List (List (List Int))) (c:List Int) (z:Int) (x0:Nat):=(mkS (c.length) (t.getD x0 ([]:List (List Int))) c (z.toNat))
def l03Mark_c2 (t:List (List (List Int))) (x0:Nat):=(t.getD x0 ([]:List (List Int)))
def l03Mark_c3 (t:List (List (List Int))) (c:List Int) (z:Int) (x0:Nat) (x1:Nat) (x2:Nat):=(bbL (isN (l03Mark_c1 t c z x0) x1) ((l03Mark_c1 t c z x0).getD x1 (0:Int)) x2++List.drop (x1+(1:Nat)) (l03Mark_c1 t c z x0))
def l03Mark_c4 (t:List (List (List Int))) (c:List Int) (z:Int) (x0:Nat) (x1:Nat):=(c.getD ((↑x0:Int).toNat) (0:Int) * (64:Int)+c.getD ((en (l03Mark_c2 t x1) (z.toNat) x0).toNat) (0:Int))
def l03Mark_c5 (t:List (List (List Int))) (c:List Int) (z:Int) (x0:Nat):=(keyF (l03Mark_c2 t x0) c (z.toNat))
def l03Mark_c6 (t:List (List (List Int))) (x0:Nat):=(t.getD ((↑x0:Int).toNat) ([]:List (List Int)))
def l03Mark_V (t:List (List (List Int))) (c:List Int) (z:Int):Prop :=
 ((inB z (c.length))∧((∃x0:Nat,((x0≤t.length)∧((t=t)∧((c=c)∧((z=z)∧(((↑(c.length):Int)=(↑(c.length):Int))∧(((0:Int)=(↑x0:Int))∧([c.getD (z.toNat) (0:Int)]=mkN (c.length) t c (z.toNat) x0))))))))∧(∀x1:Nat,((x1≤t.length)→(BrP (decide ((↑x1:Int)<(↑(t.length):Int))) ((∃x2:Nat,(((x1<t.length)∧(x2≤c.length))∧((t=t)∧((c=c)∧((z=z)∧(((↑(c.length):Int)=(↑(c.length):Int))∧(((↑x1:Int)=(↑x1:Int))∧(((0:Int)=(↑x2:Int))∧((mkN (c.length) t c (z.toNat) x1=mkN (c.length) t c (z.toNat) x1)∧([]=tab x2 (l03Mark_c5 t c z x1)))))))))))∧(∀x3:Nat,(((x1<t.length)∧(x3≤c.length))→(BrP (decide ((↑x3:Int)<(↑(c.length):Int))) ((inB (↑x1:Int) (t.length))∧((inB z ((l03Mark_c6 t x1).length))∧((inB (↑x3:Int) (((l03Mark_c6 t x1).getD (z.toNat) []).length))∧((inB (↑x1:Int) (t.length))∧((inB (↑x3:Int) ((l03Mark_c6 t x1).length))∧((inB z (((l03Mark_c6 t x1).getD ((↑x3:Int).toNat) []).length))∧((BrP ((List.getD (List.getD t ((↑x1:Int).toNat) ([]:List (List Int))) (z.toNat) []).getD ((↑x3:Int).toNat) (0:Int) == (↑x3:Int)) (∃x4:Unit,((x3<c.length)∧((t=t)∧((c=c)∧((z=z)∧(((↑(c.length):Int)=(↑(c.length):Int))∧(((↑x1:Int)=(↑x1:Int))∧(((↑x3:Int)=(↑x3:Int))∧(((List.getD (l03Mark_c6 t x1) (z.toNat) []).getD ((↑x3:Int).toNat) (0:Int)=en (l03Mark_c2 t x1) (z.toNat) x3)∧(((List.getD (l03Mark_c6 t x1) ((↑x3:Int).toNat) []).getD (z.toNat) (0:Int)=en (l03Mark_c2 t x1) x3 (z.toNat))∧(((1:Int)=ow1 (l03Mark_c2 t x1) (z.toNat) x3) ∧
 ((mkN (c.length) t c (z.toNat) x1=mkN (c.length) t c (z.toNat) x1)∧(tab x3 (l03Mark_c5 t c z x1)=tab x3 (l03Mark_c5 t c z x1)))))))))))))) (∃x5:Unit,((x3<c.length)∧((t=t)∧((c=c)∧((z=z)∧(((↑(c.length):Int)=(↑(c.length):Int))∧(((↑x1:Int)=(↑x1:Int))∧(((↑x3:Int)=(↑x3:Int))∧(((List.getD (l03Mark_c6 t x1) (z.toNat) []).getD ((↑x3:Int).toNat) (0:Int)=en (l03Mark_c2 t x1) (z.toNat) x3)∧(((List.getD (l03Mark_c6 t x1) ((↑x3:Int).toNat) []).getD (z.toNat) (0:Int)=en (l03Mark_c2 t x1) x3 (z.toNat))∧(((0:Int)=ow1 (l03Mark_c2 t x1) (z.toNat) x3)∧((mkN (c.length) t c (z.toNat) x1=mkN (c.length) t c (z.toNat) x1)∧(tab x3 (l03Mark_c5 t c z x1)=tab x3 (l03Mark_c5 t c z x1)))))))))))))))∧(∀x6:Unit,((x3<c.length)→((BrP (en (t.getD x1 ([]:List (List Int))) x3 (z.toNat) == (↑x3:Int)) ((InR (ow1 (l03Mark_c2 t x1) (z.toNat) x3+(2:Int)))∧(∃x7:Unit,((x3<c.length)∧((t=t)∧((c=c)∧((z=z)∧(((↑(c.length):Int)=(↑(c.length):Int))∧(((↑x1:Int)=(↑x1:Int))∧(((↑x3:Int)=(↑x3:Int))∧((en (l03Mark_c2 t x1) (z.toNat) x3=en (l03Mark_c2 t x1) (z.toNat) x3)∧((en (l03Mark_c2 t x1) x3 (z.toNat)=en (l03Mark_c2 t x1) x3 (z.toNat))∧((ow1 (l03Mark_c2 t x1) (z.toNat) x3+(2:Int)=ow2 (l03Mark_c2 t x1) (z.toNat) x3)∧((mkN (c.length) t c (z.toNat) x1=mkN (c.length) t c (z.toNat) x1)∧(tab x3 (l03Mark_c5 t c z x1)=tab x3 (l03Mark_c5 t c z x1))))))))))))))) (∃x8:Unit,((x3<c.length)∧((t=t)∧((c=c)∧((z=z)∧(((↑(c.length):Int)=(↑(c.length):Int)) ∧
 (((↑x1:Int)=(↑x1:Int))∧(((↑x3:Int)=(↑x3:Int))∧((en (l03Mark_c2 t x1) (z.toNat) x3=en (l03Mark_c2 t x1) (z.toNat) x3)∧((en (l03Mark_c2 t x1) x3 (z.toNat)=en (l03Mark_c2 t x1) x3 (z.toNat))∧((ow1 (l03Mark_c2 t x1) (z.toNat) x3=ow2 (l03Mark_c2 t x1) (z.toNat) x3)∧((mkN (c.length) t c (z.toNat) x1=mkN (c.length) t c (z.toNat) x1)∧(tab x3 (l03Mark_c5 t c z x1)=tab x3 (l03Mark_c5 t c z x1)))))))))))))))∧(∀x9:Unit,((x3<c.length)→((BrP (en (t.getD x1 ([]:List (List Int))) (z.toNat) x3 == z) ((InR (ow2 (l03Mark_c2 t x1) (z.toNat) x3+(4:Int)))∧(∃x10:Unit,((x3<c.length)∧((t=t)∧((c=c)∧((z=z)∧(((↑(c.length):Int)=(↑(c.length):Int))∧(((↑x1:Int)=(↑x1:Int))∧(((↑x3:Int)=(↑x3:Int))∧((en (l03Mark_c2 t x1) (z.toNat) x3=en (l03Mark_c2 t x1) (z.toNat) x3)∧((en (l03Mark_c2 t x1) x3 (z.toNat)=en (l03Mark_c2 t x1) x3 (z.toNat))∧((ow2 (l03Mark_c2 t x1) (z.toNat) x3+(4:Int)=ow3 (l03Mark_c2 t x1) (z.toNat) x3)∧((mkN (c.length) t c (z.toNat) x1=mkN (c.length) t c (z.toNat) x1)∧(tab x3 (l03Mark_c5 t c z x1)=tab x3 (l03Mark_c5 t c z x1))))))))))))))) (∃x11:Unit,((x3<c.length)∧((t=t)∧((c=c)∧((z=z)∧(((↑(c.length):Int)=(↑(c.length):Int))∧(((↑x1:Int)=(↑x1:Int))∧(((↑x3:Int)=(↑x3:Int))∧((en (l03Mark_c2 t x1) (z.toNat) x3=en (l03Mark_c2 t x1) (z.toNat) x3)∧((en (l03Mark_c2 t x1) x3 (z.toNat)=en (l03Mark_c2 t x1) x3 (z.toNat))∧((ow2 (l03Mark_c2 t x1) (z.toNat) x3=ow3 (l03Mark_c2 t x1) (z.toNat) x3) ∧
 ((mkN (c.length) t c (z.toNat) x1=mkN (c.length) t c (z.toNat) x1)∧(tab x3 (l03Mark_c5 t c z x1)=tab x3 (l03Mark_c5 t c z x1)))))))))))))))∧(∀x12:Unit,((x3<c.length)→((BrP (en (t.getD x1 ([]:List (List Int))) x3 (z.toNat) == z) ((InR (ow3 (l03Mark_c2 t x1) (z.toNat) x3+(8:Int)))∧(∃x13:Unit,((x3<c.length)∧((t=t)∧((c=c)∧((z=z)∧(((↑(c.length):Int)=(↑(c.length):Int))∧(((↑x1:Int)=(↑x1:Int))∧(((↑x3:Int)=(↑x3:Int))∧((en (l03Mark_c2 t x1) (z.toNat) x3=en (l03Mark_c2 t x1) (z.toNat) x3)∧((en (l03Mark_c2 t x1) x3 (z.toNat)=en (l03Mark_c2 t x1) x3 (z.toNat))∧((ow3 (l03Mark_c2 t x1) (z.toNat) x3+(8:Int)=ownF (l03Mark_c2 t x1) (z.toNat) x3)∧((mkN (c.length) t c (z.toNat) x1=mkN (c.length) t c (z.toNat) x1)∧(tab x3 (l03Mark_c5 t c z x1)=tab x3 (l03Mark_c5 t c z x1))))))))))))))) (∃x14:Unit,((x3<c.length)∧((t=t)∧((c=c)∧((z=z)∧(((↑(c.length):Int)=(↑(c.length):Int))∧(((↑x1:Int)=(↑x1:Int))∧(((↑x3:Int)=(↑x3:Int))∧((en (l03Mark_c2 t x1) (z.toNat) x3=en (l03Mark_c2 t x1) (z.toNat) x3)∧((en (l03Mark_c2 t x1) x3 (z.toNat)=en (l03Mark_c2 t x1) x3 (z.toNat))∧((ow3 (l03Mark_c2 t x1) (z.toNat) x3=ownF (l03Mark_c2 t x1) (z.toNat) x3)∧((mkN (c.length) t c (z.toNat) x1=mkN (c.length) t c (z.toNat) x1)∧(tab x3 (l03Mark_c5 t c z x1)=tab x3 (l03Mark_c5 t c z x1)))))))))))))))∧(∀x15:Unit,((x3<c.length)→((inB (↑x3:Int) (c.length))∧((InR (c.getD ((↑x3:Int).toNat) (0:Int) * (64:Int))) ∧
 ((inB (en (l03Mark_c2 t x1) (z.toNat) x3) (c.length))∧((InR (l03Mark_c4 t c z x3 x1))∧((InR ((l03Mark_c4 t c z x3 x1) * (64:Int)))∧((inB (en (l03Mark_c2 t x1) x3 (z.toNat)) (c.length))∧((InR ((l03Mark_c4 t c z x3 x1) * (64:Int)+c.getD ((en (l03Mark_c2 t x1) x3 (z.toNat)).toNat) (0:Int)))∧((InR (((l03Mark_c4 t c z x3 x1) * (64:Int)+c.getD ((en (l03Mark_c2 t x1) x3 (z.toNat)).toNat) (0:Int)) * (16:Int)))∧((InR (((l03Mark_c4 t c z x3 x1) * (64:Int)+c.getD ((en (l03Mark_c2 t x1) x3 (z.toNat)).toNat) (0:Int)) * (16:Int)+ownF (l03Mark_c2 t x1) (z.toNat) x3))∧((room ((tab x3 (l03Mark_c5 t c z x1)).length+[((l03Mark_c4 t c z x3 x1) * (64:Int)+c.getD ((en (l03Mark_c2 t x1) x3 (z.toNat)).toNat) (0:Int)) * (16:Int)+ownF (l03Mark_c2 t x1) (z.toNat) x3].length))∧((InR ((↑x3:Int)+(1:Int)))∧(∃x16:Nat,(((x1<t.length)∧(x16≤c.length))∧((c.length - x16<c.length - x3)∧((t=t)∧((c=c)∧((z=z)∧(((↑(c.length):Int)=(↑(c.length):Int))∧(((↑x1:Int)=(↑x1:Int))∧(((↑x3:Int)+(1:Int)=(↑x16:Int))∧((mkN (c.length) t c (z.toNat) x1=mkN (c.length) t c (z.toNat) x1)∧(tab x3 (l03Mark_c5 t c z x1)++[((l03Mark_c4 t c z x3 x1) * (64:Int)+c.getD ((en (l03Mark_c2 t x1) x3 (z.toNat)).toNat) (0:Int)) * (16:Int)+ownF (l03Mark_c2 t x1) (z.toNat) x3]=tab x16 (l03Mark_c5 t c z x1))))))))))))))))))))))))))))))))))))))))) ((((0:Int)≤(↑(c.length):Int))∧(((↑(c.length):Int)≤(↑(c.length):Int))∧(room ((↑(c.length):Int).toNat))))∧((∃x17:Nat,(((x1<t.length) ∧
 (x17≤c.length))∧((t=t)∧((c=c)∧((z=z)∧(((↑(c.length):Int)=(↑(c.length):Int))∧(((↑x1:Int)=(↑x1:Int))∧(((0:Int)=(↑x17:Int))∧((mkN (c.length) t c (z.toNat) x1=mkN (c.length) t c (z.toNat) x1)∧((tab x3 (l03Mark_c5 t c z x1)=tab (c.length) (l03Mark_c5 t c z x1))∧(List.replicate ((↑(c.length):Int).toNat) (0:Int)=ctR (c.length) (l03Mark_c2 t x1) (z.toNat) x17 (0:Nat))))))))))))∧(∀x18:Nat,(((x1<t.length)∧(x18≤c.length))→(BrP (decide ((↑x18:Int)<(↑(c.length):Int))) ((∃x19:Nat,(((x18<c.length)∧(x19≤c.length))∧((t=t)∧((c=c)∧((z=z)∧(((↑(c.length):Int)=(↑(c.length):Int))∧(((↑x1:Int)=(↑x1:Int))∧(((↑x18:Int)=(↑x18:Int))∧(((0:Int)=(↑x19:Int))∧((mkN (c.length) t c (z.toNat) x1=mkN (c.length) t c (z.toNat) x1)∧((tab (c.length) (l03Mark_c5 t c z x1)=tab (c.length) (l03Mark_c5 t c z x1))∧(ctR (c.length) (l03Mark_c2 t x1) (z.toNat) x18 (0:Nat)=ctR (c.length) (l03Mark_c2 t x1) (z.toNat) x18 x19))))))))))))∧(∀x20:Nat,(((x18<c.length)∧(x20≤c.length))→(BrP (decide ((↑x20:Int)<(↑(c.length):Int))) ((inB (↑x1:Int) (t.length))∧((inB (↑x18:Int) ((l03Mark_c6 t x1).length))∧((inB (↑x20:Int) (((l03Mark_c6 t x1).getD ((↑x18:Int).toNat) []).length))∧(BrP ((List.getD (List.getD t ((↑x1:Int).toNat) ([]:List (List Int))) ((↑x18:Int).toNat) []).getD ((↑x20:Int).toNat) (0:Int) == z) ((inB (↑x18:Int) ((ctR (c.length) (l03Mark_c2 t x1) (z.toNat) x18 x20).length)) ∧
 ((InR ((ctR (c.length) (l03Mark_c2 t x1) (z.toNat) x18 x20).getD ((↑x18:Int).toNat) (0:Int)+(1:Int)))∧((inB (↑x18:Int) ((ctR (c.length) (l03Mark_c2 t x1) (z.toNat) x18 x20).length))∧((InR ((↑x20:Int)+(1:Int)))∧(∃x21:Nat,(((x18<c.length)∧(x21≤c.length))∧((c.length - x21<c.length - x20)∧((t=t)∧((c=c)∧((z=z)∧(((↑(c.length):Int)=(↑(c.length):Int))∧(((↑x1:Int)=(↑x1:Int))∧(((↑x18:Int)=(↑x18:Int))∧(((↑x20:Int)+(1:Int)=(↑x21:Int))∧((mkN (c.length) t c (z.toNat) x1=mkN (c.length) t c (z.toNat) x1)∧((tab (c.length) (l03Mark_c5 t c z x1)=tab (c.length) (l03Mark_c5 t c z x1))∧(List.set (ctR (c.length) (l03Mark_c2 t x1) (z.toNat) x18 x20) ((↑x18:Int).toNat) ((ctR (c.length) (l03Mark_c2 t x1) (z.toNat) x18 x20).getD ((↑x18:Int).toNat) (0:Int)+(1:Int))=ctR (c.length) (l03Mark_c2 t x1) (z.toNat) x18 x21))))))))))))))))) ((InR ((↑x20:Int)+(1:Int)))∧(∃x22:Nat,(((x18<c.length)∧(x22≤c.length))∧((c.length - x22<c.length - x20)∧((t=t)∧((c=c)∧((z=z)∧(((↑(c.length):Int)=(↑(c.length):Int))∧(((↑x1:Int)=(↑x1:Int))∧(((↑x18:Int)=(↑x18:Int))∧(((↑x20:Int)+(1:Int)=(↑x22:Int))∧((mkN (c.length) t c (z.toNat) x1=mkN (c.length) t c (z.toNat) x1)∧((tab (c.length) (l03Mark_c5 t c z x1)=tab (c.length) (l03Mark_c5 t c z x1))∧(ctR (c.length) (l03Mark_c2 t x1) (z.toNat) x18 x20=ctR (c.length) (l03Mark_c2 t x1) (z.toNat) x18 x22)))))))))))))))))) ((InR ((↑x18:Int)+(1:Int)))∧(∃x23:Nat,(((x1<t.length)∧(x23≤c.length)) ∧
 ((c.length - x23<c.length - x18)∧((t=t)∧((c=c)∧((z=z)∧(((↑(c.length):Int)=(↑(c.length):Int))∧(((↑x1:Int)=(↑x1:Int))∧(((↑x18:Int)+(1:Int)=(↑x23:Int))∧((mkN (c.length) t c (z.toNat) x1=mkN (c.length) t c (z.toNat) x1)∧((tab (c.length) (l03Mark_c5 t c z x1)=tab (c.length) (l03Mark_c5 t c z x1))∧(ctR (c.length) (l03Mark_c2 t x1) (z.toNat) x18 x20=ctR (c.length) (l03Mark_c2 t x1) (z.toNat) x23 (0:Nat)))))))))))))))))) ((∃x24:Nat,(((x1<t.length)∧(x24≤c.length))∧((t=t)∧((c=c)∧((z=z)∧(((↑(c.length):Int)=(↑(c.length):Int))∧(((↑x1:Int)=(↑x1:Int))∧(((0:Int)=(↑x24:Int))∧((mkN (c.length) t c (z.toNat) x1=mkN (c.length) t c (z.toNat) x1)∧((tab (c.length) (l03Mark_c5 t c z x1)=tab (c.length) (l03Mark_c5 t c z x1)++tab x24 fun (y:Nat)=>(1099511627776:Int)+c.getD y (0:Int) * (64:Int)+(↑(cntF (c.length) (l03Mark_c2 t x1) (z.toNat) y):Int))∧(ctR (c.length) (l03Mark_c2 t x1) (z.toNat) x18 (0:Nat)=ctR (c.length) (l03Mark_c2 t x1) (z.toNat) (c.length) (0:Nat))))))))))))∧(∀x25:Nat,(((x1<t.length)∧(x25≤c.length))→(BrP (decide ((↑x25:Int)<(↑(c.length):Int))) ((inB (↑x25:Int) (c.length))∧((InR (c.getD ((↑x25:Int).toNat) (0:Int) * (64:Int)))∧((InR ((1099511627776:Int)+c.getD ((↑x25:Int).toNat) (0:Int) * (64:Int)))∧((inB (↑x25:Int) ((ctR (c.length) (l03Mark_c2 t x1) (z.toNat) (c.length) (0:Nat)).length)) ∧
 ((InR ((1099511627776:Int)+c.getD ((↑x25:Int).toNat) (0:Int) * (64:Int)+(ctR (c.length) (l03Mark_c2 t x1) (z.toNat) (c.length) (0:Nat)).getD ((↑x25:Int).toNat) (0:Int)))∧((room ((tab (c.length) (l03Mark_c5 t c z x1)++tab x25 fun (y:Nat)=>(1099511627776:Int)+c.getD y (0:Int) * (64:Int)+(↑(cntF (c.length) (l03Mark_c2 t x1) (z.toNat) y):Int)).length+[(1099511627776:Int)+c.getD ((↑x25:Int).toNat) (0:Int) * (64:Int)+(ctR (c.length) (l03Mark_c2 t x1) (z.toNat) (c.length) (0:Nat)).getD ((↑x25:Int).toNat) (0:Int)].length))∧((InR ((↑x25:Int)+(1:Int)))∧(∃x26:Nat,(((x1<t.length)∧(x26≤c.length))∧((c.length - x26<c.length - x25)∧((t=t)∧((c=c)∧((z=z)∧(((↑(c.length):Int)=(↑(c.length):Int))∧(((↑x1:Int)=(↑x1:Int))∧(((↑x25:Int)+(1:Int)=(↑x26:Int))∧((mkN (c.length) t c (z.toNat) x1=mkN (c.length) t c (z.toNat) x1)∧(((tab (c.length) (l03Mark_c5 t c z x1)++tab x25 fun (y:Nat)=>(1099511627776:Int)+c.getD y (0:Int) * (64:Int)+(↑(cntF (c.length) (l03Mark_c2 t x1) (z.toNat) y):Int))++[(1099511627776:Int)+c.getD ((↑x25:Int).toNat) (0:Int) * (64:Int)+(ctR (c.length) (l03Mark_c2 t x1) (z.toNat) (c.length) (0:Nat)).getD ((↑x25:Int).toNat) (0:Int)]=tab (c.length) (l03Mark_c5 t c z x1)++tab x26 fun (y:Nat)=>(1099511627776:Int)+c.getD y (0:Int) * (64:Int)+(↑(cntF (c.length) (l03Mark_c2 t x1) (z.toNat) y):Int)) ∧
 (ctR (c.length) (l03Mark_c2 t x1) (z.toNat) (c.length) (0:Nat)=ctR (c.length) (l03Mark_c2 t x1) (z.toNat) (c.length) (0:Nat)))))))))))))))))))) ((∃x27:Nat,(((x1<t.length)∧(((1:Nat)≤x27)∧(x27≤(2:Nat) * c.length)))∧((t=t)∧((c=c)∧((z=z)∧(((↑(c.length):Int)=(↑(c.length):Int))∧(((↑x1:Int)=(↑x1:Int))∧(((1:Int)=(↑x27:Int))∧((mkN (c.length) t c (z.toNat) x1=mkN (c.length) t c (z.toNat) x1)∧((tab (c.length) (l03Mark_c5 t c z x1)++tab x25 fun (y:Nat)=>(1099511627776:Int)+c.getD y (0:Int) * (64:Int)+(↑(cntF (c.length) (l03Mark_c2 t x1) (z.toNat) y):Int))=isN (l03Mark_c1 t c z x1) x27++List.drop x27 (l03Mark_c1 t c z x1)))))))))))∧(∀x28:Nat,(((x1<t.length)∧(((1:Nat)≤x28)∧(x28≤(2:Nat) * c.length)))→(BrP (decide ((↑x28:Int)<(↑((isN (mkS (c.length) (t.getD x1 ([]:List (List Int))) c (z.toNat)) x28++List.drop x28 (mkS (c.length) (t.getD x1 ([]:List (List Int))) c (z.toNat))).length):Int))) ((∃x29:Nat,(((x28<(2:Nat) * c.length)∧((x29≤x28)∧(bub (isN (l03Mark_c1 t c z x1) x28) ((l03Mark_c1 t c z x1).getD x28 (0:Int)) x28=bub (isN (l03Mark_c1 t c z x1) x28) ((l03Mark_c1 t c z x1).getD x28 (0:Int)) x29)))∧((t=t)∧((c=c)∧((z=z)∧(((↑(c.length):Int)=(↑(c.length):Int))∧(((↑x1:Int)=(↑x1:Int))∧(((↑x28:Int)=(↑x28:Int))∧(((↑x28:Int)=(↑x29:Int))∧((mkN (c.length) t c (z.toNat) x1=mkN (c.length) t c (z.toNat) x1) ∧
 (isN (l03Mark_c1 t c z x1) x28++List.drop x28 (l03Mark_c1 t c z x1)=bbL (isN (l03Mark_c1 t c z x1) x28) ((l03Mark_c1 t c z x1).getD x28 (0:Int)) x29++List.drop (x28+(1:Nat)) (l03Mark_c1 t c z x1))))))))))))∧(∀x30:Nat,(((x28<(2:Nat) * c.length)∧((x30≤x28)∧(bub (isN (l03Mark_c1 t c z x1) x28) ((l03Mark_c1 t c z x1).getD x28 (0:Int)) x28=bub (isN (l03Mark_c1 t c z x1) x28) ((l03Mark_c1 t c z x1).getD x28 (0:Int)) x30)))→(BrP (decide ((0:Int)<(↑x30:Int))) ((inB (↑x30:Int) ((l03Mark_c3 t c z x1 x28 x30).length))∧((InR ((↑x30:Int) - (1:Int)))∧((inB ((↑x30:Int) - (1:Int)) ((l03Mark_c3 t c z x1 x28 x30).length))∧(BrP (decide ((bbL (isN (mkS (c.length) (List.getD t x1 ([]:List (List Int))) c (z.toNat)) x28) (List.getD (mkS (c.length) (List.getD t x1 ([]:List (List Int))) c (z.toNat)) x28 (0:Int)) x30++List.drop (x28+(1:Nat)) (mkS (c.length) (List.getD t x1 ([]:List (List Int))) c (z.toNat))).getD ((↑x30:Int).toNat) (0:Int)<(bbL (isN (mkS (c.length) (List.getD t x1 ([]:List (List Int))) c (z.toNat)) x28) (List.getD (mkS (c.length) (List.getD t x1 ([]:List (List Int))) c (z.toNat)) x28 (0:Int)) x30++List.drop (x28+(1:Nat)) (mkS (c.length) (List.getD t x1 ([]:List (List Int))) c (z.toNat))).getD (((↑x30:Int) - (1:Int)).toNat) (0:Int))) ((inB (↑x30:Int) ((l03Mark_c3 t c z x1 x28 x30).length))∧((InR ((↑x30:Int) - (1:Int)))∧((inB ((↑x30:Int) - (1:Int)) ((l03Mark_c3 t c z x1 x28 x30).length)) ∧
 ((inB (↑x30:Int) ((l03Mark_c3 t c z x1 x28 x30).length))∧((InR ((↑x30:Int) - (1:Int)))∧((inB ((↑x30:Int) - (1:Int)) ((List.set (l03Mark_c3 t c z x1 x28 x30) ((↑x30:Int).toNat) ((l03Mark_c3 t c z x1 x28 x30).getD (((↑x30:Int) - (1:Int)).toNat) (0:Int))).length))∧((InR ((↑x30:Int) - (1:Int)))∧(∃x31:Nat,(((x28<(2:Nat) * c.length)∧((x31≤x28)∧(bub (isN (l03Mark_c1 t c z x1) x28) ((l03Mark_c1 t c z x1).getD x28 (0:Int)) x28=bub (isN (l03Mark_c1 t c z x1) x28) ((l03Mark_c1 t c z x1).getD x28 (0:Int)) x31)))∧((x31<x30)∧((t=t)∧((c=c)∧((z=z)∧(((↑(c.length):Int)=(↑(c.length):Int))∧(((↑x1:Int)=(↑x1:Int))∧(((↑x28:Int)=(↑x28:Int))∧(((↑x30:Int) - (1:Int)=(↑x31:Int))∧((mkN (c.length) t c (z.toNat) x1=mkN (c.length) t c (z.toNat) x1)∧(List.set (List.set (l03Mark_c3 t c z x1 x28 x30) ((↑x30:Int).toNat) ((l03Mark_c3 t c z x1 x28 x30).getD (((↑x30:Int) - (1:Int)).toNat) (0:Int))) (((↑x30:Int) - (1:Int)).toNat) ((l03Mark_c3 t c z x1 x28 x30).getD ((↑x30:Int).toNat) (0:Int))=bbL (isN (l03Mark_c1 t c z x1) x28) ((l03Mark_c1 t c z x1).getD x28 (0:Int)) x31++List.drop (x28+(1:Nat)) (l03Mark_c1 t c z x1)))))))))))))))))))) ((InR ((↑x28:Int)+(1:Int)))∧(∃x32:Nat,(((x1<t.length)∧(((1:Nat)≤x32)∧(x32≤(2:Nat) * c.length)))∧(((2:Nat) * c.length - x32<(2:Nat) * c.length - x28)∧((t=t)∧((c=c)∧((z=z)∧(((↑(c.length):Int)=(↑(c.length):Int))∧(((↑x1:Int)=(↑x1:Int))∧(((↑x28:Int)+(1:Int)=(↑x32:Int)) ∧
 ((mkN (c.length) t c (z.toNat) x1=mkN (c.length) t c (z.toNat) x1)∧(bbL (isN (l03Mark_c1 t c z x1) x28) ((l03Mark_c1 t c z x1).getD x28 (0:Int)) x30++List.drop (x28+(1:Nat)) (l03Mark_c1 t c z x1)=isN (l03Mark_c1 t c z x1) x32++List.drop x32 (l03Mark_c1 t c z x1))))))))))))))))) ((InR ((↑x28:Int)+(1:Int)))∧(∃x33:Nat,(((x1<t.length)∧(((1:Nat)≤x33)∧(x33≤(2:Nat) * c.length)))∧(((2:Nat) * c.length - x33<(2:Nat) * c.length - x28)∧((t=t)∧((c=c)∧((z=z)∧(((↑(c.length):Int)=(↑(c.length):Int))∧(((↑x1:Int)=(↑x1:Int))∧(((↑x28:Int)+(1:Int)=(↑x33:Int))∧((mkN (c.length) t c (z.toNat) x1=mkN (c.length) t c (z.toNat) x1)∧(bbL (isN (l03Mark_c1 t c z x1) x28) ((l03Mark_c1 t c z x1).getD x28 (0:Int)) x30++List.drop (x28+(1:Nat)) (l03Mark_c1 t c z x1)=isN (l03Mark_c1 t c z x1) x33++List.drop x33 (l03Mark_c1 t c z x1))))))))))))))))) ((room ((mkN (c.length) t c (z.toNat) x1).length+(isN (l03Mark_c1 t c z x1) x28++List.drop x28 (l03Mark_c1 t c z x1)).length))∧((InR ((↑x1:Int)+(1:Int)))∧(∃x34:Nat,((x34≤t.length)∧((t.length - x34<t.length - x1)∧((t=t)∧((c=c)∧((z=z)∧(((↑(c.length):Int)=(↑(c.length):Int))∧(((↑x1:Int)+(1:Int)=(↑x34:Int))∧(mkN (c.length) t c (z.toNat) x1++(isN (l03Mark_c1 t c z x1) x28++List.drop x28 (l03Mark_c1 t c z x1))=mkN (c.length) t c (z.toNat) x34)))))))))))))))))))))))))))) ((mkN (c.length) t c (z.toNat) x1=mkF (c.length) t c (z.toNat))∧True))))))
theorem l03Mark_vc (t:List (List (List Int))) (c:List Int) (z:Int):runF Try.prog (gam l03Mark_G) noWr (l03Mark_ann t c z) Try.f84 (bodyOf Try.f84) [] [.c (.r3 .i64 (t)),.c (.ints .i64 (c)),.c (.int .i64 (z))] (l03Mark_p t c z)=l03Mark_V t c z:=by kernel_rfl
theorem l03Mark_ok (t:List (List (List Int))) (c:List Int) (z:Int) (hpre:(l03Mark_p t c z).pre):l03Mark_V t c z:=by
 simp only [l03Mark_p,l03Mark_V,l03Mark_c1,l03Mark_c2,l03Mark_c3,l03Mark_c4,l03Mark_c5,l03Mark_c6,BrP_iff,u1,u2,u3,u4,u5,u6,u7,u8,u9,v1,v2,v3,v4,v5,v6,v7,v8,v9,w1,w2,w3,w4,markL_length,inB,InR,room,bdsOk] at hpre ⊢
 obtain ⟨h1,h2,h3,h4,h5,h6,h7⟩:=hpre
 simp only [tab_length,ctR_len,mkN_len,mkS_len,isN_len]
 refine ⟨by omega,⟨0,by omega,rfl,rfl⟩,fun k hk=>⟨fun hk2=>?_,fun hk2=>?_⟩⟩
 ·have A:=h4 k (by omega)
  have hz:((z.toNat:Nat):Int)=z:=by omega
  have hkn:k * (2 * c.length)≤1000 * 24:=Nat.mul_le_mul (by omega) (by omega)
  have L1:(t.getD k []).length=c.length:=A.1
  have L2:=(A.2 z.toNat (by omega)).1
  have MS:∀S:List (List Int),S=t.getD k []→mkN c.length t c z.toNat k++isL (mkS c.length S c z.toNat)=mkN c.length t c z.toNat (k+1):=fun S e=>by rw [e];rfl
  generalize t.getD k []=T at *
  refine ⟨⟨0,⟨by omega,by omega⟩,rfl,rfl⟩,fun j ⟨_,hj⟩=>⟨fun hj2=>?_,fun hj2=>?_⟩⟩
  ·have E1:=(A.2 z.toNat (by omega)).2 j (by omega)
   have E2:=(A.2 j (by omega)).2 z.toNat (by omega)
   have L3:=(A.2 j (by omega)).1
   obtain ⟨O1,O2,O3,O4⟩:=ow_in T z.toNat j
   refine ⟨by omega,by omega,by omega,by omega,by omega,by omega,⟨fun q=>⟨⟨⟩,by omega,rfl,rfl,(if_pos q).symm⟩,fun q=>⟨⟨⟩,by omega,rfl,rfl,(if_neg q).symm⟩⟩,fun _ _=>⟨⟨fun q=>⟨by omega,⟨⟩,by omega,?_⟩,fun q=>⟨⟨⟩,by omega,?_⟩⟩,fun _ _=>⟨⟨fun q=>⟨by omega,⟨⟩,by omega,?_⟩,fun q=>⟨⟨⟩,by omega,?_⟩⟩,fun _ _=>⟨⟨fun q=>⟨by omega,⟨⟩,by omega,?_⟩,fun q=>⟨⟨⟩,by omega,?_⟩⟩,fun _ _=>?_⟩⟩⟩⟩
   ·rw [ow2,if_pos q]
   ·rw [ow2,if_neg q];omega
   ·rw [ow3,hz,if_pos q]
   ·rw [ow3,hz,if_neg q];omega
   ·rw [ow4,hz,if_pos q]
   ·rw [ow4,hz,if_neg q];omega
   ·have c1:=h5 j (by omega)
    have c2:=h5 (en T z.toNat j).toNat (by omega)
    have c3:=h5 (en T j z.toNat).toNat (by omega)
    refine ⟨by omega,by omega,by omega,by omega,by omega,by omega,by omega,by omega,by omega,by omega,by omega,j+1,⟨by omega,by omega⟩,by omega,by omega,?_⟩
    rw [tab_succ'];rfl
  ·have ej:j=c.length:=by omega
   subst ej
   refine ⟨⟨by omega,by omega,by omega⟩,⟨0,⟨by omega,by omega⟩,rfl,rfl,ctR_zero _ _ _⟩,fun j ⟨_,hj⟩=>⟨fun hj2=>⟨⟨0,⟨by omega,by omega⟩,rfl,rfl⟩,fun i ⟨_,hi⟩=>⟨fun hi2=>?_,fun hi2=>?_⟩⟩,fun hj2=>?_⟩⟩
   ·have L3:=(A.2 j (by omega)).1
    have cl:=cnZ_le T z.toNat j i
    rw [ctR_at _ _ _ (by omega)]
    refine ⟨by omega,by omega,by omega,fun q=>⟨by omega,by omega,by omega,by omega,i+1,⟨by omega,by omega⟩,by omega,by omega,?_⟩,fun q=>⟨by omega,i+1,⟨by omega,by omega⟩,by omega,by omega,?_⟩⟩
    ·exact ctR_yes (by rw [hz];exact q)
    ·exact ctR_no (by rw [hz];exact q)
   ·rw [show i=c.length by omega]
    exact ⟨by omega,j+1,⟨by omega,by omega⟩,by omega,by omega,ctR_next _ _ _ _⟩
   ·rw [show j=c.length by omega]
    refine ⟨⟨0,⟨by omega,by omega⟩,rfl,by simp [tab]⟩,fun j ⟨_,hj⟩=>⟨fun hj2=>?_,fun hj2=>?_⟩⟩
    ·have c1:=h5 j (by omega)
     have cl:cntF c.length T z.toNat j≤c.length:=cnZ_le _ _ _ _
     rw [ctR_end _ _ (by omega)]
     refine ⟨by omega,by omega,by omega,by omega,by omega,by omega,by omega,j+1,⟨by omega,by omega⟩,by omega,by omega,?_⟩
     rw [tab_succ',List.append_assoc]
    ·have ej:j=c.length:=by omega
     subst ej
     have SL:=mkS_len c.length T c z.toNat
     have S0:tab c.length (keyF T c z.toNat)++(tab c.length fun y=>1099511627776+c.getD y 0 * 64+(cntF c.length T z.toNat y:Int))=mkS c.length T c z.toNat:=rfl
     rw [S0]
     have MS:=MS T rfl
     generalize mkS c.length T c z.toNat=S at *
     have I1:isN S 1=S.take 1:=by
      rw [←take_snoc S 0 0 (by omega)];rfl
     refine ⟨⟨1,⟨by omega,by omega,by omega⟩,rfl,by rw [I1,List.take_append_drop]⟩,fun i ⟨_,hi1,hi⟩=>⟨fun hi2=>?_,fun hi2=>?_⟩⟩
     ·have PL:=isN_len S i
      have B0:isN S i++S.drop i=bbL (isN S i) (S.getD i 0) i++S.drop (i+1):=by
       rw [bbL,List.take_of_length_le (by omega),List.drop_of_length_le (l:=isN S i) (by omega),drop_cons' S 0 i (by omega),List.append_assoc];rfl
      have BN:∀j,bub (isN S i) (S.getD i 0) i=j→bbL (isN S i) (S.getD i 0) j++S.drop (i+1)=isN S (i+1)++S.drop (i+1):=fun j e=>by
       rw [isN,insI,PL,e];rfl
      generalize isN S i=p at *
      generalize S.getD i 0=x at *
      refine ⟨⟨i,⟨by omega,by omega,rfl⟩,rfl,B0⟩,fun j ⟨_,hj,ib⟩=>?_⟩
      have BL:=bbL_len p x (j:=j) (by omega)
      rw [BL]
      refine ⟨fun j0=>?_,fun j0=>?_⟩
      ·obtain ⟨j,rfl⟩:∃m,j=m+1:=⟨j - 1,by omega⟩
       have g1:(bbL p x (j+1)++S.drop (i+1)).getD (j+1) 0=x:=by rw [getD_append_left' _ _ _ _ (by omega),bbL_at _ _ (by omega)]
       have g0:(bbL p x (j+1)++S.drop (i+1)).getD j 0=p.getD j 0:=by rw [getD_append_left' _ _ _ _ (by omega),bbL_lo _ _ (by omega)]
       have ez:(((j+1:Nat):Int) - 1).toNat=j:=by omega
       rw [bub] at ib
       rw [ez,g1,g0]
       refine ⟨by omega,by omega,by omega,fun q=>⟨by omega,by omega,by omega,by omega,by omega,by omega,by omega,j,⟨by omega,by omega,by rw [ib,if_pos q]⟩,by omega,by omega,?_⟩,fun q=>⟨by omega,i+1,⟨by omega,by omega,by omega⟩,by omega,by omega,BN (j+1) (by rw [ib,if_neg q])⟩⟩
       rw [List.set_append_left _ _ (by omega),List.set_append_left _ _ (by rw [List.length_set];omega),bbL_step _ _ (by omega)]
      ·have ej:j=0:=by omega
       subst ej
       exact ⟨by omega,i+1,⟨by omega,by omega,by omega⟩,by omega,by omega,BN 0 ib⟩
     ·have ei:i=S.length:=by omega
      rw [ei,List.drop_length,List.append_nil]
      exact ⟨by omega,by omega,k+1,by omega,by omega,by omega,MS⟩
 ·rw [mkF,show k=t.length by omega]
theorem l03Mark_fits:Fits Try.prog 84 ⟨[],l03Mark_ct⟩:=by
 refine ffn (Γ:=gam l03Mark_G) gok_nil Try.func84 fun ds p h hp=>?_
 unfold l03Mark_ct at h
 split at h
 ·cases h
  exact ⟨noWr,l03Mark_ann _ _ _ ,by rw [l03Mark_vc];exact l03Mark_ok _ _ _  hp⟩
 ·cases h
end Go.Sx
