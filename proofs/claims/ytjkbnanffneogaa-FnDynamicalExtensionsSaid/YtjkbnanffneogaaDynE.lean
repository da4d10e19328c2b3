/- DynE -/
import Derived.Test.YtjkbnanffneogaaDyn
open Go Go.Proofs
namespace Go.Sx
set_option linter.unusedSimpArgs false
set_option linter.unusedVariables false
def pB (k:Int) (p:List Int):Bool:=decide ((p.length:Int)=k)&&permB p
def sB (k:Int) (l:List (List Int)):Bool:=decide ((l.length:Int)=k)&&l.all (pB k)
def rB (n k:Int) (r:List (List (List Int))):Bool:=decide ((r.length:Int)=n)&&r.all (sB k)
def ddB (n k:Int) (d:List (List (List (List Int)))):Bool:=decide ((d.length:Int)=n)&&d.all (rB n k)
def l14Dynamical_p (n:Int) (k:Int) (d:List (List (List (List Int)))):Post:=⟨1≤k∧k≤12∧room4 d,.c (.bool (ddB n k d)),[]⟩
def l14Dynamical_ct:List AD→Option Post
  | [.c (.int .i64 (n)),.c (.int .i64 (k)),.c (.r4 .i64 (d))]=>some (l14Dynamical_p n k d)
  | _=>none
def l14Dynamical_ann (n:Int) (k:Int) (d:List (List (List (List Int)))):Nat→Option Ann
  | 0=>some (Ann.mk ((Nat)) (fun i=>⟨[(0,.c (.int .i64 (n))),(1,.c (.int .i64 (k))),(2,.c (.ro (.r4 .i64 (d)))),(7,.c (.int .i64 ((i:Int))))],[]⟩) (fun i=>i≤d.length∧(d.length:Int)=n∧d.all (rB n k)=(d.drop i).all (rB n k)) (fun i=>d.length - i) (fun i=>fun b_=>match b_ with | 2=>some (Ann.mk ((Nat)) (fun j=>⟨[(0,.c (.int .i64 (n))),(1,.c (.int .i64 (k))),(2,.c (.ro (.r4 .i64 (d)))),(7,.c (.int .i64 ((i:Int)))),(8,.c (.int .i64 ((j:Int))))],[]⟩) (fun j=>i<d.length∧j≤(d.getD i []).length∧((d.getD i []).length:Int)=n∧(d.getD i []).all (sB k)=((d.getD i []).drop j).all (sB k)) (fun j=>(d.getD i []).length - j) (fun j=>fun b_=>match b_ with | 4=>some (Ann.mk ((Nat)) (fun s=>⟨[(0,.c (.int .i64 (n))),(1,.c (.int .i64 (k))),(2,.c (.ro (.r4 .i64 (d)))),(7,.c (.int .i64 ((i:Int)))),(8,.c (.int .i64 ((j:Int)))),(9,.c (.int .i64 ((s:Int))))],[]⟩) (fun s=>j<(d.getD i []).length∧s≤((d.getD i []).getD j []).length∧(((d.getD i []).getD j []).length:Int)=k∧((d.getD i []).getD j []).all (pB k)=(((d.getD i []).getD j []).drop s).all (pB k)) (fun s=>((d.getD i []).getD j []).length - s) (fun _=>noAnn)) | _=>none)) | _=>none))
  | _=>none
def l14Dynamical_G:List (Nat×Ctr):=[(78,⟨[],l01Perm_ct⟩)]
def l14Dynamical_c1 (d:List (List (List (List Int)))) (x0:Nat) (x1:Nat):=((List.getD d x0 ([]:List (List (List Int)))).getD x1 ([]:List (List Int)))
def l14Dynamical_V (n:Int) (k:Int) (d:List (List (List (List Int)))):Prop :=
 (BrP ((↑(d.length):Int) != n) ((false=ddB n k d)∧True) ((∃x0:Nat,(((x0≤d.length)∧(((↑(d.length):Int)=n)∧(List.all d (rB n k)=List.all (List.drop x0 d) (rB n k))))∧((n=n)∧((k=k)∧((d=d)∧((0:Int)=(↑x0:Int)))))))∧(∀x1:Nat,(((x1≤d.length)∧(((↑(d.length):Int)=n)∧(List.all d (rB n k)=List.all (List.drop x1 d) (rB n k))))→(BrP (decide ((↑x1:Int)<(↑(d.length):Int))) ((inB (↑x1:Int) (d.length))∧(BrP ((↑((d.getD ((↑x1:Int).toNat) ([]:List (List (List Int)))).length):Int) != n) ((false=ddB n k d)∧True) ((∃x2:Nat,(((x1<d.length)∧((x2≤(d.getD x1 ([]:List (List (List Int)))).length)∧(((↑((d.getD x1 ([]:List (List (List Int)))).length):Int)=n)∧(List.all (d.getD x1 ([]:List (List (List Int)))) (sB k)=List.all (List.drop x2 (d.getD x1 ([]:List (List (List Int))))) (sB k)))))∧((n=n)∧((k=k)∧((d=d)∧(((↑x1:Int)=(↑x1:Int))∧((0:Int)=(↑x2:Int))))))))∧(∀x3:Nat,(((x1<d.length)∧((x3≤(d.getD x1 ([]:List (List (List Int)))).length)∧(((↑((d.getD x1 ([]:List (List (List Int)))).length):Int)=n)∧(List.all (d.getD x1 ([]:List (List (List Int)))) (sB k)=List.all (List.drop x3 (d.getD x1 ([]:List (List (List Int))))) (sB k)))))→((inB (↑x1:Int) (d.length))∧(BrP (decide ((↑x3:Int)<(↑((d.getD ((↑x1:Int).toNat) ([]:List (List (List Int)))).length):Int))) ((inB (↑x1:Int) (d.length))∧((inB (↑x3:Int) ((d.getD ((↑x1:Int).toNat) ([]:List (List (List Int)))).length)) ∧
 (BrP ((↑(((List.getD d ((↑x1:Int).toNat) ([]:List (List (List Int)))).getD ((↑x3:Int).toNat) ([]:List (List Int))).length):Int) != k) ((false=ddB n k d)∧True) ((∃x4:Nat,(((x3<(d.getD x1 ([]:List (List (List Int)))).length)∧((x4≤(l14Dynamical_c1 d x1 x3).length)∧(((↑((l14Dynamical_c1 d x1 x3).length):Int)=k)∧(List.all (l14Dynamical_c1 d x1 x3) (pB k)=List.all (List.drop x4 (l14Dynamical_c1 d x1 x3)) (pB k)))))∧((n=n)∧((k=k)∧((d=d)∧(((↑x1:Int)=(↑x1:Int))∧(((↑x3:Int)=(↑x3:Int))∧((0:Int)=(↑x4:Int)))))))))∧(∀x5:Nat,(((x3<(d.getD x1 ([]:List (List (List Int)))).length)∧((x5≤(l14Dynamical_c1 d x1 x3).length)∧(((↑((l14Dynamical_c1 d x1 x3).length):Int)=k)∧(List.all (l14Dynamical_c1 d x1 x3) (pB k)=List.all (List.drop x5 (l14Dynamical_c1 d x1 x3)) (pB k)))))→((inB (↑x1:Int) (d.length))∧((inB (↑x3:Int) ((d.getD ((↑x1:Int).toNat) ([]:List (List (List Int)))).length))∧(BrP (decide ((↑x5:Int)<(↑(((List.getD d ((↑x1:Int).toNat) ([]:List (List (List Int)))).getD ((↑x3:Int).toNat) ([]:List (List Int))).length):Int))) ((inB (↑x1:Int) (d.length))∧((inB (↑x3:Int) ((d.getD ((↑x1:Int).toNat) ([]:List (List (List Int)))).length))∧((inB (↑x5:Int) (((List.getD d ((↑x1:Int).toNat) ([]:List (List (List Int)))).getD ((↑x3:Int).toNat) ([]:List (List Int))).length))∧(BrP ((↑(((List.getD (List.getD d ((↑x1:Int).toNat) ([]:List (List (List Int)))) ((↑x3:Int).toNat) ([]:List (List Int))).getD ((↑x5:Int).toNat) []).length):Int) != k)
 ((false=ddB n k d)∧True) ((inB (↑x1:Int) (d.length))∧((inB (↑x3:Int) ((d.getD ((↑x1:Int).toNat) ([]:List (List (List Int)))).length))∧((inB (↑x5:Int) (((List.getD d ((↑x1:Int).toNat) ([]:List (List (List Int)))).getD ((↑x3:Int).toNat) ([]:List (List Int))).length))∧(((((List.getD (List.getD d ((↑x1:Int).toNat) ([]:List (List (List Int)))) ((↑x3:Int).toNat) ([]:List (List Int))).getD ((↑x5:Int).toNat) []).length≤(1099511627776:Nat))∧True)∧(BrP (!(decide ((1:Int)≤(↑(((List.getD (List.getD d ((↑x1:Int).toNat) ([]:List (List (List Int)))) ((↑x3:Int).toNat) ([]:List (List Int))).getD ((↑x5:Int).toNat) []).length):Int)∧(↑(((List.getD (List.getD d ((↑x1:Int).toNat) ([]:List (List (List Int)))) ((↑x3:Int).toNat) ([]:List (List Int))).getD ((↑x5:Int).toNat) []).length):Int)≤(12:Int))&&permB ((List.getD (List.getD d ((↑x1:Int).toNat) ([]:List (List (List Int)))) ((↑x3:Int).toNat) ([]:List (List Int))).getD ((↑x5:Int).toNat) []))) ((false=ddB n k d)∧True) ((InR ((↑x5:Int)+(1:Int)))∧(∃x6:Nat,(((x3<(d.getD x1 ([]:List (List (List Int)))).length)∧((x6≤(l14Dynamical_c1 d x1 x3).length)∧(((↑((l14Dynamical_c1 d x1 x3).length):Int)=k)∧(List.all (l14Dynamical_c1 d x1 x3) (pB k)=List.all (List.drop x6 (l14Dynamical_c1 d x1 x3)) (pB k)))))∧(((l14Dynamical_c1 d x1 x3).length - x6<(l14Dynamical_c1 d x1 x3).length - x5)∧((n=n)∧((k=k)∧((d=d)∧(((↑x1:Int)=(↑x1:Int))∧(((↑x3:Int)=(↑x3:Int)) ∧
 ((↑x5:Int)+(1:Int)=(↑x6:Int)))))))))))))))))))) ((InR ((↑x3:Int)+(1:Int)))∧(∃x7:Nat,(((x1<d.length)∧((x7≤(d.getD x1 ([]:List (List (List Int)))).length)∧(((↑((d.getD x1 ([]:List (List (List Int)))).length):Int)=n)∧(List.all (d.getD x1 ([]:List (List (List Int)))) (sB k)=List.all (List.drop x7 (d.getD x1 ([]:List (List (List Int))))) (sB k)))))∧(((d.getD x1 ([]:List (List (List Int)))).length - x7<(d.getD x1 ([]:List (List (List Int)))).length - x3)∧((n=n)∧((k=k)∧((d=d)∧(((↑x1:Int)=(↑x1:Int))∧((↑x3:Int)+(1:Int)=(↑x7:Int))))))))))))))))))) ((InR ((↑x1:Int)+(1:Int)))∧(∃x8:Nat,(((x8≤d.length)∧(((↑(d.length):Int)=n)∧(List.all d (rB n k)=List.all (List.drop x8 d) (rB n k))))∧((d.length - x8<d.length - x1)∧((n=n)∧((k=k)∧((d=d)∧((↑x1:Int)+(1:Int)=(↑x8:Int)))))))))))))))) ((true=ddB n k d)∧True))))))
theorem l14Dynamical_vc (n:Int) (k:Int) (d:List (List (List (List Int)))):runF Try.prog (gam l14Dynamical_G) noWr (l14Dynamical_ann n k d) Try.f60 (bodyOf Try.f60) [] [.c (.int .i64 (n)),.c (.int .i64 (k)),.c (.r4 .i64 (d))] (l14Dynamical_p n k d)=l14Dynamical_V n k d:=by kernel_rfl
theorem l14Dynamical_ok (n:Int) (k:Int) (d:List (List (List (List Int)))) (hpre:(l14Dynamical_p n k d).pre):l14Dynamical_V n k d:=by
  simp only [l14Dynamical_p,l14Dynamical_V,l14Dynamical_c1,BrP_iff,true_and,and_true,decide_eq_true_eq,decide_eq_false_iff_not,bne_iff_ne,beq_iff_eq,bne_eq_false_iff_eq,beq_eq_false_iff_ne,Bool.not_eq_true,Bool.not_eq_false,Bool.not_true,Bool.not_false,Bool.not_eq_eq_eq_not,Int.toNat_natCast,List.length_append,List.length_take,List.length_replicate,List.length_set,List.length_map,List.length_drop,List.length_nil,List.length_cons,markL_length,inB,InR,room,bdsOk,FC.len] at hpre ⊢
  obtain ⟨k1,k2,hr,hR⟩:=hpre
  refine ⟨fun h=>by rw [ddB,decide_eq_false h];rfl,fun hn=>⟨⟨0,⟨by omega,hn,rfl⟩,rfl⟩,fun i ⟨hi,_,he⟩=>⟨fun hl=>?_,fun hl=>?_⟩⟩⟩
  · have hd:=allG_drop [] (rB n k) (show i<d.length by omega)
    have Ri:=hR _ (getD_mem d [] i (by omega))
    have noI:rB n k (d.getD i [])=false→false=ddB n k d:=fun h=>by rw [ddB,he,hd,h];simp
    have yesI:rB n k (d.getD i [])=true→d.all (rB n k)=(d.drop (i+1)).all (rB n k):=fun h=>by rw [he,hd,h];rfl
    refine ⟨by omega,fun h=>noI (by rw [rB,decide_eq_false h];rfl),fun h1=>⟨⟨0,⟨by omega,by omega,h1,rfl⟩,rfl⟩,fun j ⟨_,hj,_,ej⟩=>⟨by omega,fun hl2=>?_,fun hl2=>?_⟩⟩⟩
    · have hd2:=allG_drop [] (sB k) (show j<(d.getD i []).length by omega)
      have Rj:=Ri.2 _ (getD_mem (d.getD i []) [] j (by omega))
      have noJ:sB k ((d.getD i []).getD j [])=false→false=ddB n k d:=fun h=>noI (by rw [rB,ej,hd2,h];simp)
      have yesJ:sB k ((d.getD i []).getD j [])=true→(d.getD i []).all (sB k)=((d.getD i []).drop (j+1)).all (sB k):=fun h=>by rw [ej,hd2,h];rfl
      refine ⟨by omega,by omega,fun h=>noJ (by rw [sB,decide_eq_false h];rfl),fun h2=>⟨⟨0,⟨by omega,by omega,h2,rfl⟩,rfl⟩,fun s ⟨_,hs,_,es⟩=>⟨by omega,by omega,fun hl3=>?_,fun hl3=>?_⟩⟩⟩
      · have hd3:=allG_drop [] (pB k) (show s<((d.getD i []).getD j []).length by omega)
        have Rs:=Rj.2 _ (getD_mem ((d.getD i []).getD j []) [] s (by omega))
        have noS:pB k (((d.getD i []).getD j []).getD s [])=false→false=ddB n k d:=fun h=>noJ (by rw [sB,es,hd3,h];simp)
        have yesS:pB k (((d.getD i []).getD j []).getD s [])=true→((d.getD i []).getD j []).all (pB k)=(((d.getD i []).getD j []).drop (s+1)).all (pB k):=fun h=>by rw [es,hd3,h];rfl
        refine ⟨by omega,by omega,by omega,fun h=>noS (by rw [pB,decide_eq_false h];rfl),fun h3=>?_⟩
        have eq1:decide (1≤((((d.getD i []).getD j []).getD s []).length:Int)∧((((d.getD i []).getD j []).getD s []).length:Int)≤12)=true:=decide_eq_true (by omega)
        rw [eq1,Bool.true_and]
        refine ⟨by omega,by omega,by omega,Rs,fun h4=>noS (by rw [pB,h4,Bool.and_false]),fun h4=>⟨by omega,s+1,⟨by omega,by omega,h2,yesS (by rw [pB,h4,decide_eq_true h3];rfl)⟩,by omega,by omega⟩⟩
      · refine ⟨by omega,j+1,⟨by omega,by omega,h1,yesJ ?_⟩,by omega,by omega⟩
        rw [sB,decide_eq_true h2,es,List.drop_of_length_le (by omega)];rfl
    · refine ⟨by omega,i+1,⟨by omega,hn,yesI ?_⟩,by omega,by omega⟩
      rw [rB,decide_eq_true h1,ej,List.drop_of_length_le (by omega)];rfl
  · rw [ddB,decide_eq_true hn,he,List.drop_of_length_le (by omega)];rfl
theorem l14Dynamical_fits:Fits Try.prog 60 ⟨[],l14Dynamical_ct⟩:=by
  refine ffn (Γ:=gam l14Dynamical_G) (gok_cons l01Perm_fits gok_nil) Try.func60 fun ds p h hp=>?_
  unfold l14Dynamical_ct at h
  split at h
  · cases h
    exact ⟨noWr,l14Dynamical_ann _ _ _ ,by rw [l14Dynamical_vc];exact l14Dynamical_ok _ _ _  hp⟩
  · cases h
def isDynamical1_p (p:List Int) (k:Int):Post:=⟨p.length≤1099511627776,.c (.bool (!pB k p)),[]⟩
def isDynamical1_ct:List AD→Option Post
  | [.c (.ints .i64 (p)),.box [.int .i64 (k)]]=>some (isDynamical1_p p k)
  | _=>none
def isDynamical1_G:List (Nat×Ctr):=[(48,⟨[],isPermuted_ct⟩)]
def isDynamical1_V (p:List Int) (k:Int):Prop :=
 (BrP ((↑(p.length):Int) != k) ((true=!pB k p)∧True) (((p.length≤(1099511627776:Nat))∧True)∧(((!permB p)=!pB k p)∧True)))
theorem isDynamical1_vc (p:List Int) (k:Int):runF Try.prog (gam isDynamical1_G) noWr noAnn Try.f82 (bodyOf Try.f82) [] [.c (.ints .i64 (p)),.box [.int .i64 (k)]] (isDynamical1_p p k)=isDynamical1_V p k:=by kernel_rfl
theorem isDynamical1_ok (p:List Int) (k:Int) (hpre:(isDynamical1_p p k).pre):isDynamical1_V p k:=by
  simp only [isDynamical1_p,isDynamical1_V,BrP_iff,true_and,and_true,decide_eq_true_eq,decide_eq_false_iff_not,bne_iff_ne,beq_iff_eq,bne_eq_false_iff_eq,beq_eq_false_iff_ne,Bool.not_eq_true,Bool.not_eq_false,Bool.not_true,Bool.not_false,Bool.not_eq_eq_eq_not,Int.toNat_natCast,List.length_append,List.length_take,List.length_replicate,List.length_set,List.length_map,List.length_drop,List.length_nil,List.length_cons,markL_length,inB,InR,room,bdsOk,FC.len] at hpre ⊢
  refine ⟨fun h=>by rw [pB,decide_eq_false h];rfl,fun h=>⟨hpre,by rw [pB,decide_eq_true h];simp⟩⟩
theorem isDynamical1_fits:Fits Try.prog 82 ⟨[],isDynamical1_ct⟩:=by
  refine ffn (Γ:=gam isDynamical1_G) (gok_cons isPermuted_fits gok_nil) Try.func82 fun ds p h hp=>?_
  unfold isDynamical1_ct at h
  split at h
  · cases h
    exact ⟨noWr,noAnn,by rw [isDynamical1_vc];exact isDynamical1_ok _ _  hp⟩
  · cases h
def isDynamical_p (n:Int) (k:Int) (d:List (List (List (List Int)))):Post:=⟨room4 d,.c (.bool (decide (1≤k∧k≤12)&&ddB n k d)),[]⟩
def isDynamical_ct:List AD→Option Post
  | [.c (.int .i64 (n)),.c (.int .i64 (k)),.c (.r4 .i64 (d))]=>some (isDynamical_p n k d)
  | _=>none
def isDynamical_ann (n:Int) (k:Int) (d:List (List (List (List Int)))):Nat→Option Ann
  | 0=>some (Ann.mk ((Nat)) (fun i=>⟨[(0,.c (.int .i64 (n))),(1,.c (.int .i64 (k))),(2,.c (.ro (.r4 .i64 (d)))),(4,.c (.ptr 4 0)),(20,.c (.ro (.r4 .i64 (d)))),(21,.c (.int .i64 ((d.length:Int)))),(22,.c (.int .i64 ((i:Int))))],[(4,some (.box [.int .i64 (k)]))]⟩) (fun i=>i≤d.length∧(1≤k∧k≤12)∧(d.length:Int)=n∧d.all (rB n k)=(d.drop i).all (rB n k)) (fun i=>d.length - i) (fun i=>fun b_=>match b_ with | 2=>some (Ann.mk ((Nat)) (fun j=>⟨[(0,.c (.int .i64 (n))),(1,.c (.int .i64 (k))),(2,.c (.ro (.r4 .i64 (d)))),(4,.c (.ptr 4 0)),(20,.c (.ro (.r4 .i64 (d)))),(21,.c (.int .i64 ((d.length:Int)))),(22,.c (.int .i64 ((i:Int)))),(30,.c (.ro (.r3 .i64 (d.getD i [])))),(31,.c (.int .i64 (((d.getD i []).length:Int)))),(32,.c (.int .i64 ((j:Int))))],[(4,some (.box [.int .i64 (k)]))]⟩) (fun j=>i<d.length∧j≤(d.getD i []).length∧((d.getD i []).length:Int)=n∧(d.getD i []).all (sB k)=((d.getD i []).drop j).all (sB k)) (fun j=>(d.getD i []).length - j) (fun _=>noAnn)) | _=>none))
  | _=>none
def isDynamical_G:List (Nat×Ctr):=[(71,⟨[],within_ct⟩),(72,⟨[],ContainsFuncR_ct⟩),(82,⟨[],isDynamical1_ct⟩)]
def isDynamical_c1 (d:List (List (List (List Int)))) (x0:Nat):=(d.getD x0 ([]:List (List (List Int))))
def isDynamical_V (n:Int) (k:Int) (d:List (List (List (List Int)))):Prop :=
 ((True∧True)∧(BrP (!decide ((1:Int)≤k∧k≤(12:Int))) ((false=(decide ((1:Int)≤k∧k≤(12:Int))&&ddB n k d))∧True) (BrP ((↑(d.length):Int) != n) ((false=(decide ((1:Int)≤k∧k≤(12:Int))&&ddB n k d))∧True) ((∃x0:Nat,(((x0≤d.length)∧((((1:Int)≤k)∧(k≤(12:Int)))∧(((↑(d.length):Int)=n)∧(List.all d (rB n k)=List.all (List.drop x0 d) (rB n k)))))∧((n=n)∧((k=k)∧((d=d)∧((d=d)∧(((↑(d.length):Int)=(↑(d.length):Int))∧(((0:Int)=(↑x0:Int))∧(k=k)))))))))∧(∀x1:Nat,(((x1≤d.length)∧((((1:Int)≤k)∧(k≤(12:Int)))∧(((↑(d.length):Int)=n)∧(List.all d (rB n k)=List.all (List.drop x1 d) (rB n k)))))→(BrP (decide ((↑x1:Int)<(↑(d.length):Int))) ((inB (↑x1:Int) (d.length))∧(BrP ((↑((d.getD ((↑x1:Int).toNat) ([]:List (List (List Int)))).length):Int) != n) ((false=(decide ((1:Int)≤k∧k≤(12:Int))&&ddB n k d))∧True) ((∃x2:Nat,(((x1<d.length)∧((x2≤(isDynamical_c1 d x1).length)∧(((↑((isDynamical_c1 d x1).length):Int)=n)∧(List.all (isDynamical_c1 d x1) (sB k)=List.all (List.drop x2 (isDynamical_c1 d x1)) (sB k)))))∧((n=n)∧((k=k)∧((d=d)∧((d=d)∧(((↑(d.length):Int)=(↑(d.length):Int))∧(((↑x1:Int)=(↑x1:Int))∧((d.getD ((↑x1:Int).toNat) ([]:List (List (List Int)))=d.getD x1 ([]:List (List (List Int))))∧(((↑((d.getD ((↑x1:Int).toNat) ([]:List (List (List Int)))).length):Int)=(↑((isDynamical_c1 d x1).length):Int))∧(((0:Int)=(↑x2:Int))∧(k=k))))))))))))∧(∀x3:Nat,(((x1<d.length) ∧
 ((x3≤(isDynamical_c1 d x1).length)∧(((↑((isDynamical_c1 d x1).length):Int)=n)∧(List.all (isDynamical_c1 d x1) (sB k)=List.all (List.drop x3 (isDynamical_c1 d x1)) (sB k)))))→(BrP (decide ((↑x3:Int)<(↑((d.getD x1 ([]:List (List (List Int)))).length):Int))) ((inB (↑x3:Int) ((isDynamical_c1 d x1).length))∧(BrP ((↑(((List.getD d x1 ([]:List (List (List Int)))).getD ((↑x3:Int).toNat) ([]:List (List Int))).length):Int) != k) ((false=(decide ((1:Int)≤k∧k≤(12:Int))&&ddB n k d))∧True) ((((((isDynamical_c1 d x1).getD ((↑x3:Int).toNat) ([]:List (List Int))).length≤(1099511627776:Nat))∧(∀(x:List Int),x∈(isDynamical_c1 d x1).getD ((↑x3:Int).toNat) ([]:List (List Int))→x.length≤(1099511627776:Nat)))∧True)∧(BrP (List.any ((List.getD d x1 ([]:List (List (List Int)))).getD ((↑x3:Int).toNat) ([]:List (List Int))) fun (x:List Int)=>!pB k x) ((false=(decide ((1:Int)≤k∧k≤(12:Int))&&ddB n k d))∧True) ((InR ((↑x3:Int)+(1:Int)))∧(∃x4:Nat,(((x1<d.length)∧((x4≤(isDynamical_c1 d x1).length)∧(((↑((isDynamical_c1 d x1).length):Int)=n)∧(List.all (isDynamical_c1 d x1) (sB k)=List.all (List.drop x4 (isDynamical_c1 d x1)) (sB k)))))∧(((isDynamical_c1 d x1).length - x4<(isDynamical_c1 d x1).length - x3)∧((n=n)∧((k=k)∧((d=d)∧((d=d)∧(((↑(d.length):Int)=(↑(d.length):Int))∧(((↑x1:Int)=(↑x1:Int))∧((d.getD x1 ([]:List (List (List Int)))=d.getD x1 ([]:List (List (List Int)))) ∧
 (((↑((isDynamical_c1 d x1).length):Int)=(↑((isDynamical_c1 d x1).length):Int))∧(((↑x3:Int)+(1:Int)=(↑x4:Int))∧(k=k)))))))))))))))))) ((InR ((↑x1:Int)+(1:Int)))∧(∃x5:Nat,(((x5≤d.length)∧((((1:Int)≤k)∧(k≤(12:Int)))∧(((↑(d.length):Int)=n)∧(List.all d (rB n k)=List.all (List.drop x5 d) (rB n k)))))∧((d.length - x5<d.length - x1)∧((n=n)∧((k=k)∧((d=d)∧((d=d)∧(((↑(d.length):Int)=(↑(d.length):Int))∧(((↑x1:Int)+(1:Int)=(↑x5:Int))∧(k=k))))))))))))))))) ((true=(decide ((1:Int)≤k∧k≤(12:Int))&&ddB n k d))∧True))))))))
theorem isDynamical_vc (n:Int) (k:Int) (d:List (List (List (List Int)))):runF Try.prog (gam isDynamical_G) noWr (isDynamical_ann n k d) Try.f43 (bodyOf Try.f43) [] [.c (.int .i64 (n)),.c (.int .i64 (k)),.c (.r4 .i64 (d))] (isDynamical_p n k d)=isDynamical_V n k d:=by kernel_rfl
theorem isDynamical_ok (n:Int) (k:Int) (d:List (List (List (List Int)))) (hpre:(isDynamical_p n k d).pre):isDynamical_V n k d:=by
  simp only [isDynamical_p,isDynamical_V,isDynamical_c1,BrP_iff,true_and,and_true,decide_eq_true_eq,decide_eq_false_iff_not,bne_iff_ne,beq_iff_eq,bne_eq_false_iff_eq,beq_eq_false_iff_ne,Bool.not_eq_true,Bool.not_eq_false,Bool.not_true,Bool.not_false,Bool.not_eq_eq_eq_not,Int.toNat_natCast,List.length_append,List.length_take,List.length_replicate,List.length_set,List.length_map,List.length_drop,List.length_nil,List.length_cons,markL_length,inB,InR,room,bdsOk,FC.len] at hpre ⊢
  obtain ⟨hr,hR⟩:=hpre
  refine ⟨fun h=>by rw [decide_eq_false h];rfl,fun hk=>?_⟩
  rw [decide_eq_true hk,Bool.true_and]
  refine ⟨fun h=>by rw [ddB,decide_eq_false h];rfl,fun hn=>⟨⟨0,⟨by omega,hk,hn,rfl⟩,rfl⟩,fun i ⟨hi,_,_,he⟩=>⟨fun hl=>?_,fun hl=>?_⟩⟩⟩
  · have hd:=allG_drop [] (rB n k) (show i<d.length by omega)
    have Ri:=hR _ (getD_mem d [] i (by omega))
    have noI:rB n k (d.getD i [])=false→false=ddB n k d:=fun h=>by rw [ddB,he,hd,h];simp
    have yesI:rB n k (d.getD i [])=true→d.all (rB n k)=(d.drop (i+1)).all (rB n k):=fun h=>by rw [he,hd,h];rfl
    generalize d.getD i []=r at *
    refine ⟨by omega,fun h=>noI (by rw [rB,decide_eq_false h];rfl),fun h1=>⟨⟨0,⟨by omega,by omega,h1,rfl⟩,rfl⟩,fun j ⟨_,hj,_,ej⟩=>⟨fun hl2=>?_,fun hl2=>?_⟩⟩⟩
    · have hd2:=allG_drop [] (sB k) (show j<r.length by omega)
      have Rj:=Ri.2 _ (getD_mem r [] j (by omega))
      have noJ:sB k (r.getD j [])=false→false=ddB n k d:=fun h=>noI (by rw [rB,ej,hd2,h];simp)
      have yesJ:sB k (r.getD j [])=true→r.all (sB k)=(r.drop (j+1)).all (sB k):=fun h=>by rw [ej,hd2,h];rfl
      generalize r.getD j []=l at *
      have ea:l.all (pB k)=!(l.any fun x=>!pB k x):=by rw [List.all_eq_not_any_not]
      refine ⟨by omega,fun h=>noJ (by rw [sB,decide_eq_false h];rfl),fun h2=>⟨⟨Rj.1,fun x hx=>Rj.2 x hx⟩,fun h3=>noJ (by rw [sB,ea,h3];simp),fun h3=>⟨by omega,j+1,⟨by omega,by omega,h1,yesJ (by rw [sB,ea,h3,decide_eq_true h2];rfl)⟩,by omega,by omega⟩⟩⟩
    · refine ⟨by omega,i+1,⟨by omega,hk,hn,yesI ?_⟩,by omega,by omega⟩
      rw [rB,decide_eq_true h1,ej,List.drop_of_length_le (by omega)];rfl
  · rw [ddB,decide_eq_true hn,he,List.drop_of_length_le (by omega)];rfl
theorem isDynamical_fits:Fits Try.prog 43 ⟨[],isDynamical_ct⟩:=by
  refine ffn (Γ:=gam isDynamical_G) (gok_cons within_fits (gok_cons ContainsFuncR_fits (gok_cons isDynamical1_fits gok_nil))) Try.func43 fun ds p h hp=>?_
  unfold isDynamical_ct at h
  split at h
  · cases h
    exact ⟨noWr,isDynamical_ann _ _ _ ,by rw [isDynamical_vc];exact isDynamical_ok _ _ _  hp⟩
  · cases h
theorem pB_of {k:Int} {p:List Int} (h:pB k p=true):(p.length:Int)=k∧∀i,i<p.length→0≤p.getD i 0∧p.getD i 0<k:=by
  simp only [pB,permB,Bool.and_eq_true,decide_eq_true_eq] at h
  refine ⟨h.1,fun i hi=>?_⟩
  have:=h.2.1 _ (getD_mem p 0 i hi)
  omega
theorem ddB_of {n k:Int} {d:List (List (List (List Int)))} (h:ddB n k d=true):(d.length:Int)=n∧∀a,a<d.length→((d.getD a []).length:Int)=n∧∀b,b<(d.getD a []).length→(((d.getD a []).getD b []).length:Int)=k ∧
    ∀s,s<((d.getD a []).getD b []).length→((((d.getD a []).getD b []).getD s []).length:Int)=k∧∀u,u<(((d.getD a []).getD b []).getD s []).length→0≤((((d.getD a []).getD b []).getD s []).getD u 0)∧((((d.getD a []).getD b []).getD s []).getD u 0)<k:=by
  simp only [ddB,Bool.and_eq_true,decide_eq_true_eq] at h
  refine ⟨h.1,fun a ha=>?_⟩
  have h1:=allG_get [] h.2 a ha
  simp only [rB,Bool.and_eq_true,decide_eq_true_eq] at h1
  refine ⟨h1.1,fun b hb=>?_⟩
  have h2:=allG_get [] h1.2 b hb
  simp only [sB,Bool.and_eq_true,decide_eq_true_eq] at h2
  refine ⟨h2.1,fun s hs=>?_⟩
  exact pB_of (allG_get [] h2.2 s hs)
def dyI (t:List (List Int)) (k:Int) (d:List (List (List (List Int)))) (x y:Int):Int :=
  (t.getD (x.tdiv k).toNat []).getD (y.tdiv k).toNat 0 * k+(((d.getD (x.tdiv k).toNat []).getD (y.tdiv k).toNat []).getD (x.tmod k).toNat []).getD (y.tmod k).toNat 0
def dyR (t:List (List Int)) (k:Int) (d:List (List (List (List Int)))):List (List Int):=tabR ((t.length:Int) * k).toNat fun x y=>dyI t k d (x:Int) (y:Int)
theorem nk_in {t:List (List Int)} {k:Int} (h1:tabB t=true) (h2:1≤k∧k≤12):0≤(t.length:Int) * k∧(t.length:Int) * k≤144:=by
  have ht:=tabB_of h1
  have p1:=Int.mul_nonneg (show 0≤(t.length:Int) by omega) (show 0≤k by omega)
  have p2:=Int.mul_le_mul (show (t.length:Int)≤12 by omega) h2.2 (by omega) (by omega)
  omega
theorem dy_in {t:List (List Int)} {k:Int} {d:List (List (List (List Int)))} (h1:tabB t=true) (hk:1≤k∧k≤12) (h2:ddB (t.length:Int) k d=true) {x y:Int} (hx:0≤x) (hx2:x<(t.length:Int) * k) (hy:0≤y) (hy2:y<(t.length:Int) * k) :
    0≤x.tdiv k∧x.tdiv k<(t.length:Int)∧0≤y.tdiv k∧y.tdiv k<(t.length:Int)∧0≤x.tmod k∧x.tmod k<k∧0≤y.tmod k∧y.tmod k<k ∧
    (t.getD (x.tdiv k).toNat []).length=t.length∧(d.length:Int)=(t.length:Int)∧((d.getD (x.tdiv k).toNat []).length:Int)=(t.length:Int) ∧
    (((d.getD (x.tdiv k).toNat []).getD (y.tdiv k).toNat []).length:Int)=k∧((((d.getD (x.tdiv k).toNat []).getD (y.tdiv k).toNat []).getD (x.tmod k).toNat []).length:Int)=k ∧
    0≤(t.getD (x.tdiv k).toNat []).getD (y.tdiv k).toNat 0 * k∧(t.getD (x.tdiv k).toNat []).getD (y.tdiv k).toNat 0 * k≤144 ∧
    0≤(((d.getD (x.tdiv k).toNat []).getD (y.tdiv k).toNat []).getD (x.tmod k).toNat []).getD (y.tmod k).toNat 0∧(((d.getD (x.tdiv k).toNat []).getD (y.tdiv k).toNat []).getD (x.tmod k).toNat []).getD (y.tmod k).toNat 0<k:=by
  obtain ⟨n1,n2,ht⟩:=tabB_of h1
  obtain ⟨g1,g2⟩:=ddB_of h2
  obtain ⟨a1,a2,a3,a4⟩:=div_in hk.1 hx hx2
  obtain ⟨b1,b2,b3,b4⟩:=div_in hk.1 hy hy2
  have c:=ht (x.tdiv k).toNat (by omega)
  have e:=c.2 (y.tdiv k).toNat (by omega)
  obtain ⟨q1,q2⟩:=g2 (x.tdiv k).toNat (by omega)
  obtain ⟨q3,q4⟩:=q2 (y.tdiv k).toNat (by omega)
  obtain ⟨q5,q6⟩:=q4 (x.tmod k).toNat (by omega)
  have q7:=q6 (y.tmod k).toNat (by omega)
  have p1:=Int.mul_nonneg e.1 (show 0≤k by omega)
  have p2:=Int.mul_le_mul (show (t.getD (x.tdiv k).toNat []).getD (y.tdiv k).toNat 0≤12 by omega) hk.2 (by omega) (by omega)
  exact ⟨a1,a2,b1,b2,a3,by omega,b3,by omega,c.1,g1,q1,q3,q5,p1,by omega,q7.1,q7.2⟩
def DynamicalExtension1_p (x:Int) (y:Int) (t:List (List Int)) (b:Int) (k:Int) (d:List (List (List (List Int)))):Post:=⟨tabB t=true∧(1≤k∧k≤12)∧ddB (t.length:Int) k d=true∧b=k∧0≤x∧x<(t.length:Int) * k∧0≤y∧y<(t.length:Int) * k,.c (.int .i64 (dyI t k d x y)),[]⟩
def DynamicalExtension1_ct:List AD→Option Post
  | [.c (.int .i64 (x)),.c (.int .i64 (y)),.box [.rows .i64 (t)],.box [.int .i64 (b)],.box [.int .i64 (k)],.box [.r4 .i64 (d)]]=>some (DynamicalExtension1_p x y t b k d)
  | _=>none
def DynamicalExtension1_G:List (Nat×Ctr):=[]
def DynamicalExtension1_V (x:Int) (y:Int) (t:List (List Int)) (b:Int) (k:Int) (d:List (List (List (List Int)))):Prop :=
 (((b≠(0:Int))∧(InR (Int.tdiv x b)))∧((inB (Int.tdiv x b) (t.length))∧(((b≠(0:Int))∧(InR (Int.tdiv y b)))∧((inB (Int.tdiv y b) ((t.getD ((Int.tdiv x b).toNat) []).length))∧((InR ((List.getD t ((Int.tdiv x b).toNat) []).getD ((Int.tdiv y b).toNat) (0:Int) * k))∧(((b≠(0:Int))∧(InR (Int.tdiv x b)))∧((inB (Int.tdiv x b) (d.length))∧(((b≠(0:Int))∧(InR (Int.tdiv y b)))∧((inB (Int.tdiv y b) ((d.getD ((Int.tdiv x b).toNat) ([]:List (List (List Int)))).length))∧((b≠(0:Int))∧((inB (Int.tmod x b) (((List.getD d ((Int.tdiv x b).toNat) ([]:List (List (List Int)))).getD ((Int.tdiv y b).toNat) ([]:List (List Int))).length))∧((b≠(0:Int))∧((inB (Int.tmod y b) (((List.getD (List.getD d ((Int.tdiv x b).toNat) ([]:List (List (List Int)))) ((Int.tdiv y b).toNat) ([]:List (List Int))).getD ((Int.tmod x b).toNat) []).length))∧((InR ((List.getD t ((Int.tdiv x b).toNat) []).getD ((Int.tdiv y b).toNat) (0:Int) * k+(List.getD (List.getD (List.getD d ((Int.tdiv x b).toNat) ([]:List (List (List Int)))) ((Int.tdiv y b).toNat) ([]:List (List Int))) ((Int.tmod x b).toNat) []).getD ((Int.tmod y b).toNat) (0:Int)))∧(((List.getD t ((Int.tdiv x b).toNat) []).getD ((Int.tdiv y b).toNat) (0:Int) * k+(List.getD (List.getD (List.getD d ((Int.tdiv x b).toNat) ([]:List (List (List Int)))) ((Int.tdiv y b).toNat) ([]:List (List Int))) ((Int.tmod x b).toNat) []).getD ((Int.tmod y b).toNat) (0:Int)=dyI t k d x y)∧True)))))))))))))))
theorem DynamicalExtension1_vc (x:Int) (y:Int) (t:List (List Int)) (b:Int) (k:Int) (d:List (List (List (List Int)))):runF Try.prog (gam DynamicalExtension1_G) noWr noAnn Try.f45 (bodyOf Try.f45) [] [.c (.int .i64 (x)),.c (.int .i64 (y)),.box [.rows .i64 (t)],.box [.int .i64 (b)],.box [.int .i64 (k)],.box [.r4 .i64 (d)]] (DynamicalExtension1_p x y t b k d)=DynamicalExtension1_V x y t b k d:=by kernel_rfl
theorem DynamicalExtension1_ok (x:Int) (y:Int) (t:List (List Int)) (b:Int) (k:Int) (d:List (List (List (List Int)))) (hpre:(DynamicalExtension1_p x y t b k d).pre):DynamicalExtension1_V x y t b k d:=by
  simp only [DynamicalExtension1_p,DynamicalExtension1_V,BrP_iff,true_and,and_true,decide_eq_true_eq,decide_eq_false_iff_not,bne_iff_ne,beq_iff_eq,bne_eq_false_iff_eq,beq_eq_false_iff_ne,Bool.not_eq_true,Bool.not_eq_false,Bool.not_true,Bool.not_false,Bool.not_eq_eq_eq_not,Int.toNat_natCast,List.length_append,List.length_take,List.length_replicate,List.length_set,List.length_map,List.length_drop,List.length_nil,List.length_cons,markL_length,inB,InR,room,bdsOk,FC.len] at hpre ⊢
  obtain ⟨h1,h2,h3,rfl,hx,hx2,hy,hy2⟩:=hpre
  have q:=dy_in h1 h2 h3 hx hx2 hy hy2
  have ht:=tabB_of h1
  exact ⟨by omega,by omega,by omega,by omega,by omega,by omega,by omega,by omega,by omega,by omega,by omega,by omega,by omega,by omega,rfl⟩
theorem DynamicalExtension1_fits:Fits Try.prog 45 ⟨[],DynamicalExtension1_ct⟩:=by
  refine ffn (Γ:=gam DynamicalExtension1_G) gok_nil Try.func45 fun ds p h hp=>?_
  unfold DynamicalExtension1_ct at h
  split at h
  · cases h
    exact ⟨noWr,noAnn,by rw [DynamicalExtension1_vc];exact DynamicalExtension1_ok _ _ _ _ _ _  hp⟩
  · cases h
def dyC (t:List (List Int)) (k:Int) (d:List (List (List (List Int)))):List (List Int)×Int :=
  if cycB t=true then (if (decide (1≤k∧k≤12)&&ddB (t.length:Int) k d)=true then (if 12<(t.length:Int) * k then ([],3) else if cycB (dyR t k d)=true then (dyR t k d,0) else ([],5)) else ([],2)) else ([],1)
def iDE_p (t:List (List Int)) (k:Int) (d:List (List (List (List Int)))):Post:=⟨roomR t∧room4 d,.tup [.inr [.rows 41 2 .i64 ((dyC t k d).1)],.inl (.int .i64 ((dyC t k d).2))],[]⟩
def iDE_ct:List AD→Option Post
  | [.agg [.rows .i64 (t)],.c (.int .i64 (k)),.c (.r4 .i64 (d))]=>some (iDE_p t k d)
  | _=>none
def iDE_G:List (Nat×Ctr):=[(16,⟨[],IsCycleSet_ct⟩),(43,⟨[],isDynamical_ct⟩),(44,⟨[],tableBy_ct⟩),(45,⟨[],DynamicalExtension1_ct⟩)]
def iDE_V (t:List (List Int)) (k:Int) (d:List (List (List (List Int)))):Prop :=
 (((roomR t)∧True)∧(BrP (!cycB t) ((((([]:List (List Int))=(dyC t k d).1)∧True)∧(((1:Int)=(dyC t k d).2)∧True))∧True) (((room4 d)∧True)∧(BrP (!(decide ((1:Int)≤k∧k≤(12:Int))&&ddB (↑(t.length):Int) k d)) ((((([]:List (List Int))=(dyC t k d).1)∧True)∧(((2:Int)=(dyC t k d).2)∧True))∧True) ((InR ((↑(t.length):Int) * k))∧(BrP (decide ((12:Int)<(↑(t.length):Int) * k)) ((((([]:List (List Int))=(dyC t k d).1)∧True)∧(((3:Int)=(dyC t k d).2)∧True))∧True) ((InR ((↑(t.length):Int) * k))∧(((((0:Int)≤(↑(t.length):Int) * k)∧(((↑(t.length):Int) * k≤(144:Int))∧(∀(x y:Int),(0:Int)≤x→x<(↑(t.length):Int) * k→(0:Int)≤y→y<(↑(t.length):Int) * k→ctQI (DynamicalExtension1_ct [AD.c (FC.int IntKind.i64 x),AD.c (FC.int IntKind.i64 y),AD.box [FC.rows IntKind.i64 t],AD.box [FC.int IntKind.i64 k],AD.box [FC.int IntKind.i64 k],AD.box [FC.r4 IntKind.i64 d]]))))∧True)∧(((roomR (tabR (((↑(t.length):Int) * k).toNat) fun (x y:Nat)=>ctI (DynamicalExtension1_ct [AD.c (FC.int IntKind.i64 (↑x:Int)),AD.c (FC.int IntKind.i64 (↑y:Int)),AD.box [FC.rows IntKind.i64 t],AD.box [FC.int IntKind.i64 k],AD.box [FC.int IntKind.i64 k],AD.box [FC.r4 IntKind.i64 d]])))∧True)∧(BrP (!cycB (tabR (((↑(t.length):Int) * k).toNat) fun (x y:Nat)=>ctI (DynamicalExtension1_ct [AD.c (FC.int IntKind.i64 (↑x:Int)),AD.c (FC.int IntKind.i64 (↑y:Int)),AD.box [FC.rows IntKind.i64 t],AD.box [FC.int IntKind.i64 k],AD.box [FC.int IntKind.i64 k],AD.box [FC.r4 IntKind.i64 d]])))
 ((((([]:List (List Int))=(dyC t k d).1)∧True)∧(((5:Int)=(dyC t k d).2)∧True))∧True) (((((tabR (((↑(t.length):Int) * k).toNat) fun (x y:Nat)=>ctI (DynamicalExtension1_ct [AD.c (FC.int IntKind.i64 (↑x:Int)),AD.c (FC.int IntKind.i64 (↑y:Int)),AD.box [FC.rows IntKind.i64 t],AD.box [FC.int IntKind.i64 k],AD.box [FC.int IntKind.i64 k],AD.box [FC.r4 IntKind.i64 d]]))=(dyC t k d).1)∧True)∧(((0:Int)=(dyC t k d).2)∧True))∧True)))))))))))
theorem iDE_vc (t:List (List Int)) (k:Int) (d:List (List (List (List Int)))):runF Try.prog (gam iDE_G) noWr noAnn Try.f15 (bodyOf Try.f15) [] [.agg [.rows .i64 (t)],.c (.int .i64 (k)),.c (.r4 .i64 (d))] (iDE_p t k d)=iDE_V t k d:=by kernel_rfl
theorem iDE_ok (t:List (List Int)) (k:Int) (d:List (List (List (List Int)))) (hpre:(iDE_p t k d).pre):iDE_V t k d:=by
  simp only [iDE_p,iDE_V,BrP_iff,true_and,and_true,decide_eq_true_eq,decide_eq_false_iff_not,bne_iff_ne,beq_iff_eq,bne_eq_false_iff_eq,beq_eq_false_iff_ne,Bool.not_eq_true,Bool.not_eq_false,Bool.not_true,Bool.not_false,Bool.not_eq_eq_eq_not,Int.toNat_natCast,List.length_append,List.length_take,List.length_replicate,List.length_set,List.length_map,List.length_drop,List.length_nil,List.length_cons,markL_length,inB,InR,room,bdsOk,FC.len] at hpre ⊢
  obtain ⟨h1,h2⟩:=hpre
  refine ⟨h1,fun h=>by simp [dyC,h],fun hc=>⟨h2,fun h=>by rw [dyC,if_pos hc,if_neg (by rw [h];simp)];exact ⟨rfl,rfl⟩,fun hd=>?_⟩⟩
  have hd2:=hd
  simp only [Bool.and_eq_true,decide_eq_true_eq] at hd2
  obtain ⟨hk,hdd⟩:=hd2
  have hn:=nk_in (cycB_tab hc) hk
  refine ⟨by omega,fun hb=>?_,fun hb=>⟨by omega,⟨by omega,by omega,fun x y a b c e=>⟨cycB_tab hc,hk,hdd,rfl,a,b,c,e⟩⟩,tabR_room _ _ (by omega),fun h=>?_,fun h=>?_⟩⟩
  · rw [dyC,if_pos hc,if_pos hd,if_pos hb];exact ⟨rfl,rfl⟩
  · have h:cycB (dyR t k d)=false:=h
    rw [dyC,if_pos hc,if_pos hd,if_neg hb,if_neg (by rw [h];simp)];exact ⟨rfl,rfl⟩
  · have h:cycB (dyR t k d)=true:=h
    rw [dyC,if_pos hc,if_pos hd,if_neg hb,if_pos h];exact ⟨rfl,rfl⟩
theorem iDE_fits:Fits Try.prog 15 ⟨[],iDE_ct⟩:=by
  refine ffn (Γ:=gam iDE_G) (gok_cons IsCycleSet_fits (gok_cons isDynamical_fits (gok_cons tableBy_fits (gok_cons DynamicalExtension1_fits gok_nil)))) Try.func15 fun ds p h hp=>?_
  unfold iDE_ct at h
  split at h
  · cases h
    exact ⟨noWr,noAnn,by rw [iDE_vc];exact iDE_ok _ _ _  hp⟩
  · cases h
def sDE_p (t:List (List Int)) (k:Int) (d:List (List (List (List Int)))):Post:=⟨roomR t∧room4 d,.tup [.inr [.rows 41 2 .i64 ((dyC t k d).1)],.inl (.int .i64 ((dyC t k d).2))],[]⟩
def sDE_ct:List AD→Option Post
  | [.agg [.rows .i64 (t)],.c (.int .i64 (k)),.c (.r4 .i64 (d))]=>some (sDE_p t k d)
  | _=>none
def sDE_ann (t:List (List Int)) (k:Int) (d:List (List (List (List Int)))):Nat→Option Ann
  | 0=>some (Ann.mk ((Nat)) (fun i=>⟨[(1,.c (.int .i64 (k))),(2,.c (.ro (.r4 .i64 (d)))),(3,.c (.ptr 3 0)),(6,.c (.ptr 6 0)),(8,.c (.int .i64 ((t.length:Int)))),(9,.c (.ptr 9 0)),(10,.c (.int .i64 ((i:Int))))],[(3,some (.box [.ro (.rows .i64 (t))])),(6,some (.box [.nil])),(9,some (.box [.own (100)])),(100,some (.rows 0 41 2 .i64 ((dyR t k d).take i)))]⟩) (fun i=>(i:Int)≤(t.length:Int) * k∧cycB t=true∧(1≤k∧k≤12)∧ddB (t.length:Int) k d=true∧(t.length:Int) * k≤12) (fun i=>((t.length:Int) * k).toNat - i) (fun i=>fun b_=>match b_ with | 2=>some (Ann.mk ((Nat)) (fun j=>⟨[(1,.c (.int .i64 (k))),(2,.c (.ro (.r4 .i64 (d)))),(3,.c (.ptr 3 0)),(6,.c (.ptr 6 0)),(8,.c (.int .i64 ((t.length:Int)))),(9,.c (.ptr 9 0)),(10,.c (.int .i64 ((i:Int)))),(11,.c (.own (101))),(12,.c (.int .i64 ((j:Int))))],[(3,some (.box [.ro (.rows .i64 (t))])),(6,some (.box [.nil])),(9,some (.box [.own (100)])),(100,some (.rows 0 41 2 .i64 ((dyR t k d).take i))),(101,some (.ints 2 .i64 ((tab ((t.length:Int) * k).toNat fun y=>dyI t k d (i:Int) (y:Int)).take j)))]⟩) (fun j=>(j:Int)≤(t.length:Int) * k∧(i:Int)<(t.length:Int) * k) (fun j=>((t.length:Int) * k).toNat - j) (fun _=>noAnn)) | _=>none))
  | _=>none
def sDE_G:List (Nat×Ctr):=[(39,⟨[],l05Is_ct⟩),(54,⟨[],l01In_ct⟩),(60,⟨[],l14Dynamical_ct⟩)]
def sDE_c1 (k:Int) (d:List (List (List (List Int)))) (x0:Nat) (x1:Nat):=((List.getD (List.getD d ((Int.tdiv (↑x0:Int) k).toNat) ([]:List (List (List Int)))) ((Int.tdiv (↑x1:Int) k).toNat) ([]:List (List Int))).getD ((Int.tmod (↑x0:Int) k).toNat) [])
def sDE_V (t:List (List Int)) (k:Int) (d:List (List (List (List Int)))):Prop :=
 (((roomR t)∧True)∧(BrP (!cycB t) ((((([]:List (List Int))=(dyC t k d).1)∧True)∧(((1:Int)=(dyC t k d).2)∧True))∧True) ((True∧True)∧(BrP (!decide ((1:Int)≤k∧k≤(12:Int))) ((((([]:List (List Int))=(dyC t k d).1)∧True)∧(((2:Int)=(dyC t k d).2)∧True))∧True) (((((1:Int)≤k)∧((k≤(12:Int))∧(room4 d)))∧True)∧(BrP (!ddB (↑(t.length):Int) k d) ((((([]:List (List Int))=(dyC t k d).1)∧True)∧(((2:Int)=(dyC t k d).2)∧True))∧True) ((InR ((↑(t.length):Int) * k))∧(BrP (decide ((12:Int)<(↑(t.length):Int) * k)) ((((([]:List (List Int))=(dyC t k d).1)∧True)∧(((3:Int)=(dyC t k d).2)∧True))∧True) ((∃x0:Nat,((((↑x0:Int)≤(↑(t.length):Int) * k)∧((cycB t=true)∧((((1:Int)≤k)∧(k≤(12:Int)))∧((ddB (↑(t.length):Int) k d=true)∧((↑(t.length):Int) * k≤(12:Int))))))∧((k=k)∧((d=d)∧(((↑(t.length):Int)=(↑(t.length):Int))∧(((0:Int)=(↑x0:Int))∧((t=t)∧(List.take x0 (dyR t k d)=([]:List (List Int))))))))))∧(∀x1:Nat,((((↑x1:Int)≤(↑(t.length):Int) * k)∧((cycB t=true)∧((((1:Int)≤k)∧(k≤(12:Int)))∧((ddB (↑(t.length):Int) k d=true)∧((↑(t.length):Int) * k≤(12:Int))))))→((InR ((↑(t.length):Int) * k))∧(BrP (decide ((↑x1:Int)<(↑(t.length):Int) * k)) ((∃x2:Nat,((((↑x2:Int)≤(↑(t.length):Int) * k)∧((↑x1:Int)<(↑(t.length):Int) * k))∧((k=k)∧((d=d)∧(((↑(t.length):Int)=(↑(t.length):Int))∧(((↑x1:Int)=(↑x1:Int))∧(((0:Int)=(↑x2:Int))∧((t=t)∧((List.take x1 (dyR t k d)=List.take x1 (dyR t k d)) ∧
 ([]=List.take x2 (tab (((↑(t.length):Int) * k).toNat) fun (y:Nat)=>dyI t k d (↑x1:Int) (↑y:Int))))))))))))∧(∀x3:Nat,((((↑x3:Int)≤(↑(t.length):Int) * k)∧((↑x1:Int)<(↑(t.length):Int) * k))→((InR ((↑(t.length):Int) * k))∧(BrP (decide ((↑x3:Int)<(↑(t.length):Int) * k)) (((k≠(0:Int))∧(InR (Int.tdiv (↑x1:Int) k)))∧(((k≠(0:Int))∧(InR (Int.tdiv (↑x3:Int) k)))∧((inB (Int.tdiv (↑x1:Int) k) (t.length))∧((inB (Int.tdiv (↑x3:Int) k) ((t.getD ((Int.tdiv (↑x1:Int) k).toNat) []).length))∧((InR ((List.getD t ((Int.tdiv (↑x1:Int) k).toNat) []).getD ((Int.tdiv (↑x3:Int) k).toNat) (0:Int) * k))∧((inB (Int.tdiv (↑x1:Int) k) (d.length))∧((inB (Int.tdiv (↑x3:Int) k) ((d.getD ((Int.tdiv (↑x1:Int) k).toNat) ([]:List (List (List Int)))).length))∧((k≠(0:Int))∧((inB (Int.tmod (↑x1:Int) k) (((List.getD d ((Int.tdiv (↑x1:Int) k).toNat) ([]:List (List (List Int)))).getD ((Int.tdiv (↑x3:Int) k).toNat) ([]:List (List Int))).length))∧((k≠(0:Int))∧((inB (Int.tmod (↑x3:Int) k) ((sDE_c1 k d x1 x3).length))∧((InR ((List.getD t ((Int.tdiv (↑x1:Int) k).toNat) []).getD ((Int.tdiv (↑x3:Int) k).toNat) (0:Int) * k+(sDE_c1 k d x1 x3).getD ((Int.tmod (↑x3:Int) k).toNat) (0:Int)))∧((room ((List.take x3 (tab (((↑(t.length):Int) * k).toNat) fun (y:Nat)=>dyI t k d (↑x1:Int) (↑y:Int))).length+[(List.getD t ((Int.tdiv (↑x1:Int) k).toNat) []).getD ((Int.tdiv (↑x3:Int) k).toNat) (0:Int) * k+(sDE_c1 k d x1 x3).getD ((Int.tmod (↑x3:Int) k).toNat) (0:Int)].length)) ∧
 ((InR ((↑x3:Int)+(1:Int)))∧(∃x4:Nat,((((↑x4:Int)≤(↑(t.length):Int) * k)∧((↑x1:Int)<(↑(t.length):Int) * k))∧((((↑(t.length):Int) * k).toNat - x4<((↑(t.length):Int) * k).toNat - x3)∧((k=k)∧((d=d)∧(((↑(t.length):Int)=(↑(t.length):Int))∧(((↑x1:Int)=(↑x1:Int))∧(((↑x3:Int)+(1:Int)=(↑x4:Int))∧((t=t)∧((List.take x1 (dyR t k d)=List.take x1 (dyR t k d))∧(List.take x3 (tab (((↑(t.length):Int) * k).toNat) fun (y:Nat)=>dyI t k d (↑x1:Int) (↑y:Int))++[(List.getD t ((Int.tdiv (↑x1:Int) k).toNat) []).getD ((Int.tdiv (↑x3:Int) k).toNat) (0:Int) * k+(sDE_c1 k d x1 x3).getD ((Int.tmod (↑x3:Int) k).toNat) (0:Int)]=List.take x4 (tab (((↑(t.length):Int) * k).toNat) fun (y:Nat)=>dyI t k d (↑x1:Int) (↑y:Int))))))))))))))))))))))))))) ((room ((List.take x1 (dyR t k d)).length+(List.take x3 (tab (((↑(t.length):Int) * k).toNat) fun (y:Nat)=>dyI t k d (↑x1:Int) (↑y:Int))::([]:List (List Int))).length))∧((InR ((↑x1:Int)+(1:Int)))∧(∃x5:Nat,((((↑x5:Int)≤(↑(t.length):Int) * k)∧((cycB t=true)∧((((1:Int)≤k)∧(k≤(12:Int)))∧((ddB (↑(t.length):Int) k d=true)∧((↑(t.length):Int) * k≤(12:Int))))))∧((((↑(t.length):Int) * k).toNat - x5<((↑(t.length):Int) * k).toNat - x1)∧((k=k)∧((d=d)∧(((↑(t.length):Int)=(↑(t.length):Int))∧(((↑x1:Int)+(1:Int)=(↑x5:Int))∧((t=t) ∧
 (List.take x1 (dyR t k d)++List.take x3 (tab (((↑(t.length):Int) * k).toNat) fun (y:Nat)=>dyI t k d (↑x1:Int) (↑y:Int))::([]:List (List Int))=List.take x5 (dyR t k d))))))))))))))))) (((roomR (List.take x1 (dyR t k d)))∧True)∧(BrP (!cycB (List.take x1 (dyR t k d))) ((((([]:List (List Int))=(dyC t k d).1)∧True)∧(((5:Int)=(dyC t k d).2)∧True))∧True) ((((List.take x1 (dyR t k d)=(dyC t k d).1)∧True)∧(((0:Int)=(dyC t k d).2)∧True))∧True))))))))))))))))
theorem sDE_vc (t:List (List Int)) (k:Int) (d:List (List (List (List Int)))):runF Try.prog (gam sDE_G) noWr (sDE_ann t k d) Try.f18 (bodyOf Try.f18) [] [.agg [.rows .i64 (t)],.c (.int .i64 (k)),.c (.r4 .i64 (d))] (sDE_p t k d)=sDE_V t k d:=by kernel_rfl
theorem sDE_ok (t:List (List Int)) (k:Int) (d:List (List (List (List Int)))) (hpre:(sDE_p t k d).pre):sDE_V t k d:=by
  simp only [sDE_p,sDE_V,sDE_c1,BrP_iff,true_and,and_true,decide_eq_true_eq,decide_eq_false_iff_not,bne_iff_ne,beq_iff_eq,bne_eq_false_iff_eq,beq_eq_false_iff_ne,Bool.not_eq_true,Bool.not_eq_false,Bool.not_true,Bool.not_false,Bool.not_eq_eq_eq_not,Int.toNat_natCast,List.length_append,List.length_take,List.length_replicate,List.length_set,List.length_map,List.length_drop,List.length_nil,List.length_cons,markL_length,inB,InR,room,bdsOk,FC.len] at hpre ⊢
  obtain ⟨h1,h2⟩:=hpre
  refine ⟨h1,fun h=>by simp [dyC,h],fun hc=>⟨fun h=>?_,fun hk=>⟨⟨hk.1,hk.2,h2⟩,fun h=>?_,fun hdd=>?_⟩⟩⟩
  · rw [dyC,if_pos hc,if_neg (by rw [decide_eq_false h];simp)];exact ⟨rfl,rfl⟩
  · rw [dyC,if_pos hc,if_neg (by rw [h];simp)];exact ⟨rfl,rfl⟩
  have hd:(decide (1≤k∧k≤12)&&ddB (t.length:Int) k d)=true:=by rw [decide_eq_true hk,hdd];rfl
  have hn:=nk_in (cycB_tab hc) hk
  have ht:=tabB_of (cycB_tab hc)
  have hT:(dyR t k d).length=((t.length:Int) * k).toNat:=tabR_length _ _
  have hr:∀i:Nat,(tab ((t.length:Int) * k).toNat fun y=>dyI t k d (i:Int) (y:Int)).length=((t.length:Int) * k).toNat:=fun i=>tab_length _ _
  refine ⟨by omega,fun hb=>?_,fun hb=>⟨⟨0,⟨by omega,hc,hk,hdd,by omega⟩,rfl,rfl⟩,fun i ⟨hi,_,_,_,_⟩=>⟨by omega,fun hl=>⟨⟨0,⟨by omega,by omega⟩,rfl,rfl⟩,fun j ⟨hj,_⟩=>⟨by omega,fun h3=>?_,fun h3=>?_⟩⟩,fun hl=>?_⟩⟩⟩
  · rw [dyC,if_pos hc,if_pos hd,if_pos hb];exact ⟨rfl,rfl⟩
  · have q:=dy_in (cycB_tab hc) hk hdd (show 0≤(i:Int) by omega) hl (show 0≤(j:Int) by omega) h3
    have:=hr i
    refine ⟨by omega,by omega,by omega,by omega,by omega,by omega,by omega,by omega,by omega,by omega,by omega,by omega,by omega,by omega,j+1,⟨by omega,by omega⟩,by omega,by omega,?_⟩
    rw [←take_snoc _ 0 j (by omega),tab_getD _ _ _ (by omega)]
    rfl
  · have e:(tab ((t.length:Int) * k).toNat fun y=>dyI t k d (i:Int) (y:Int)).take j=tab ((t.length:Int) * k).toNat fun y=>dyI t k d (i:Int) (y:Int):=List.take_of_length_le (by rw [hr];omega)
    refine ⟨by omega,by omega,i+1,⟨by omega,hc,hk,hdd,by omega⟩,by omega,by omega,?_⟩
    rw [←take_snoc (dyR t k d) [] i (by omega),e,dyR,tabR_getD _ _ _ (by omega)]
  · have e:(dyR t k d).take i=dyR t k d:=List.take_of_length_le (by omega)
    rw [e]
    refine ⟨tabR_room _ _ (by omega),fun h=>?_,fun h=>?_⟩
    · rw [dyC,if_pos hc,if_pos hd,if_neg hb,if_neg (by rw [h];simp)];exact ⟨rfl,rfl⟩
    · rw [dyC,if_pos hc,if_pos hd,if_neg hb,if_pos h];exact ⟨rfl,rfl⟩
theorem sDE_fits:Fits Try.prog 18 ⟨[],sDE_ct⟩:=by
  refine ffn (Γ:=gam sDE_G) (gok_cons l05Is_fits (gok_cons l01In_fits (gok_cons l14Dynamical_fits gok_nil))) Try.func18 fun ds p h hp=>?_
  unfold sDE_ct at h
  split at h
  · cases h
    exact ⟨noWr,sDE_ann _ _ _ ,by rw [sDE_vc];exact sDE_ok _ _ _  hp⟩
  · cases h
theorem dyC_room (t:List (List Int)) (k:Int) (d:List (List (List (List Int)))):roomR (dyC t k d).1∧(dyC t k d).1.length≤1048576∧sumL (dyC t k d).1≤1048576:=by
  have nil:roomR ([]:List (List Int))∧([]:List (List Int)).length≤1048576∧sumL ([]:List (List Int))≤1048576:=⟨⟨by simp,by simp⟩,by simp,by simp [sumL]⟩
  unfold dyC
  split
  · split
    · split
      · exact nil
      · split
        · exact ⟨tabR_room _ _ (by omega),by simp only [dyR,tabR_length];omega,Nat.le_trans (tabR_sum _ _ (by omega)) (by omega)⟩
        · exact nil
    · exact nil
  · exact nil
end Go.Sx
