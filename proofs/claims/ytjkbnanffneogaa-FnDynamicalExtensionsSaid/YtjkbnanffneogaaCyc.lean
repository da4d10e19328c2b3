/- Cyc -/
import Derived.Test.YtjkbnanffneogaaRackC
open Go Go.Proofs
namespace Go.Sx
set_option linter.unusedSimpArgs false
set_option linter.unusedVariables false
def cyZ (t:List (List Int)) (x y z:Nat):Option (List Int):=if en t (en t x y).toNat (en t x z).toNat=en t (en t y x).toNat (en t y z).toNat then none else some [(x:Int),(y:Int),(z:Int)]
def cyY (t:List (List Int)) (x y:Nat):Option (List Int):=firstO t.length (cyZ t x y) t.length
def cyX (t:List (List Int)) (x:Nat):Option (List Int):=firstO t.length (cyY t x) t.length
def cyF (t:List (List Int)):Option (List Int):=firstO t.length (cyX t) t.length
theorem cyF_len {t:List (List Int)} {l:List Int} (h:cyF t=some l):l.length=3:=by
  obtain ⟨x,h⟩:=firstO_some h
  obtain ⟨y,h⟩:=firstO_some h
  obtain ⟨z,h⟩:=firstO_some h
  unfold cyZ at h
  split at h
  · cases h
  · cases h;rfl
def l05Fault_p (t:List (List Int)):Post:=⟨tabB t=true,.c (.ints 2 .i64 ((cyF t).getD [])),[]⟩
def l05Fault_ct:List AD→Option Post
  | [.c (.rows .i64 (t))]=>some (l05Fault_p t)
  | _=>none
def l05Fault_ann (t:List (List Int)):Nat→Option Ann
  | 0=>some (Ann.mk ((Nat)) (fun i=>⟨[(0,.c (.ro (.rows .i64 (t)))),(3,.c (.int .i64 ((t.length:Int)))),(4,.c (.int .i64 ((i:Int))))],[]⟩) (fun i=>i≤t.length∧cyF t=firstO t.length (cyX t) (t.length - i)) (fun i=>t.length - i) (fun i=>fun b_=>match b_ with | 2=>some (Ann.mk ((Nat)) (fun j=>⟨[(0,.c (.ro (.rows .i64 (t)))),(3,.c (.int .i64 ((t.length:Int)))),(4,.c (.int .i64 ((i:Int)))),(5,.c (.int .i64 ((j:Int))))],[]⟩) (fun j=>j≤t.length∧i<t.length∧cyF t=(firstO t.length (cyY t i) (t.length - j)).or (firstO t.length (cyX t) (t.length - (i+1)))) (fun j=>t.length - j) (fun j=>fun b_=>match b_ with | 4=>some (Ann.mk ((Nat)) (fun k=>⟨[(0,.c (.ro (.rows .i64 (t)))),(3,.c (.int .i64 ((t.length:Int)))),(4,.c (.int .i64 ((i:Int)))),(5,.c (.int .i64 ((j:Int)))),(6,.c (.int .i64 ((k:Int))))],[]⟩) (fun k=>k≤t.length∧j<t.length∧cyF t=((firstO t.length (cyZ t i j) (t.length - k)).or (firstO t.length (cyY t i) (t.length - (j+1)))).or (firstO t.length (cyX t) (t.length - (i+1)))) (fun k=>t.length - k) (fun _=>noAnn)) | _=>none)) | _=>none))
  | _=>none
def l05Fault_G:List (Nat×Ctr):=[]
def l05Fault_c1 (t:List (List Int)) (x0:Nat) (x1:Nat):=((List.getD t ((↑x0:Int).toNat) []).getD ((↑x1:Int).toNat) (0:Int))
def l05Fault_V (t:List (List Int)):Prop :=
 ((∃x0:Nat,(((x0≤t.length)∧(cyF t=firstO (t.length) (cyX t) (t.length - x0)))∧((t=t)∧(((↑(t.length):Int)=(↑(t.length):Int))∧((0:Int)=(↑x0:Int))))))∧(∀x1:Nat,(((x1≤t.length)∧(cyF t=firstO (t.length) (cyX t) (t.length - x1)))→(BrP (decide ((↑x1:Int)<(↑(t.length):Int))) ((∃x2:Nat,(((x2≤t.length)∧((x1<t.length)∧(cyF t=Option.or (firstO (t.length) (cyY t x1) (t.length - x2)) (firstO (t.length) (cyX t) (t.length - (x1+(1:Nat)))))))∧((t=t)∧(((↑(t.length):Int)=(↑(t.length):Int))∧(((↑x1:Int)=(↑x1:Int))∧((0:Int)=(↑x2:Int)))))))∧(∀x3:Nat,(((x3≤t.length)∧((x1<t.length)∧(cyF t=Option.or (firstO (t.length) (cyY t x1) (t.length - x3)) (firstO (t.length) (cyX t) (t.length - (x1+(1:Nat)))))))→(BrP (decide ((↑x3:Int)<(↑(t.length):Int))) ((∃x4:Nat,(((x4≤t.length)∧((x3<t.length)∧(cyF t=Option.or (Option.or (firstO (t.length) (cyZ t x1 x3) (t.length - x4)) (firstO (t.length) (cyY t x1) (t.length - (x3+(1:Nat))))) (firstO (t.length) (cyX t) (t.length - (x1+(1:Nat)))))))∧((t=t)∧(((↑(t.length):Int)=(↑(t.length):Int))∧(((↑x1:Int)=(↑x1:Int))∧(((↑x3:Int)=(↑x3:Int))∧((0:Int)=(↑x4:Int))))))))∧(∀x5:Nat,(((x5≤t.length)∧((x3<t.length)∧(cyF t=Option.or (Option.or (firstO (t.length) (cyZ t x1 x3) (t.length - x5)) (firstO (t.length) (cyY t x1) (t.length - (x3+(1:Nat))))) (firstO (t.length) (cyX t) (t.length - (x1+(1:Nat)))))))→(BrP (decide ((↑x5:Int)<(↑(t.length):Int))) ((inB (↑x1:Int) (t.length)) ∧
 ((inB (↑x3:Int) ((t.getD ((↑x1:Int).toNat) []).length))∧((inB (l05Fault_c1 t x1 x3) (t.length))∧((inB (↑x1:Int) (t.length))∧((inB (↑x5:Int) ((t.getD ((↑x1:Int).toNat) []).length))∧((inB (l05Fault_c1 t x1 x5) ((t.getD ((l05Fault_c1 t x1 x3).toNat) []).length))∧((inB (↑x3:Int) (t.length))∧((inB (↑x1:Int) ((t.getD ((↑x3:Int).toNat) []).length))∧((inB (l05Fault_c1 t x3 x1) (t.length))∧((inB (↑x3:Int) (t.length))∧((inB (↑x5:Int) ((t.getD ((↑x3:Int).toNat) []).length))∧((inB (l05Fault_c1 t x3 x5) ((t.getD ((l05Fault_c1 t x3 x1).toNat) []).length))∧(BrP ((List.getD t ((List.getD (List.getD t ((↑x1:Int).toNat) []) ((↑x3:Int).toNat) (0:Int)).toNat) []).getD (((List.getD t ((↑x1:Int).toNat) []).getD ((↑x5:Int).toNat) (0:Int)).toNat) (0:Int) != (List.getD t ((List.getD (List.getD t ((↑x3:Int).toNat) []) ((↑x1:Int).toNat) (0:Int)).toNat) []).getD (((List.getD t ((↑x3:Int).toNat) []).getD ((↑x5:Int).toNat) (0:Int)).toNat) (0:Int)) (([(↑x1:Int),(↑x3:Int),(↑x5:Int)]=Option.getD (cyF t) [])∧True) ((InR ((↑x5:Int)+(1:Int)))∧(∃x6:Nat,(((x6≤t.length)∧((x3<t.length)∧(cyF t=Option.or (Option.or (firstO (t.length) (cyZ t x1 x3) (t.length - x6)) (firstO (t.length) (cyY t x1) (t.length - (x3+(1:Nat))))) (firstO (t.length) (cyX t) (t.length - (x1+(1:Nat)))))))∧((t.length - x6<t.length - x5)∧((t=t)∧(((↑(t.length):Int)=(↑(t.length):Int))∧(((↑x1:Int)=(↑x1:Int))∧(((↑x3:Int)=(↑x3:Int))∧((↑x5:Int)+(1:Int)=(↑x6:Int))))))))))))))))))))))) ((InR ((↑x3:Int)+(1:Int))) ∧
 (∃x7:Nat,(((x7≤t.length)∧((x1<t.length)∧(cyF t=Option.or (firstO (t.length) (cyY t x1) (t.length - x7)) (firstO (t.length) (cyX t) (t.length - (x1+(1:Nat)))))))∧((t.length - x7<t.length - x3)∧((t=t)∧(((↑(t.length):Int)=(↑(t.length):Int))∧(((↑x1:Int)=(↑x1:Int))∧((↑x3:Int)+(1:Int)=(↑x7:Int))))))))))))) ((InR ((↑x1:Int)+(1:Int)))∧(∃x8:Nat,(((x8≤t.length)∧(cyF t=firstO (t.length) (cyX t) (t.length - x8)))∧((t.length - x8<t.length - x1)∧((t=t)∧(((↑(t.length):Int)=(↑(t.length):Int))∧((↑x1:Int)+(1:Int)=(↑x8:Int)))))))))))) (([]=Option.getD (cyF t) [])∧True)))))
theorem l05Fault_vc (t:List (List Int)):runF Try.prog (gam l05Fault_G) noWr (l05Fault_ann t) Try.f80 (bodyOf Try.f80) [] [.c (.rows .i64 (t))] (l05Fault_p t)=l05Fault_V t:=by kernel_rfl
theorem l05Fault_ok (t:List (List Int)) (hpre:(l05Fault_p t).pre):l05Fault_V t:=by
  simp only [l05Fault_p,l05Fault_V,l05Fault_c1,BrP_iff,u1,u2,u3,u4,u5,u6,u7,u8,u9,v1,v2,v3,v4,v5,v6,v7,v8,v9,w1,w2,w3,w4,markL_length,inB,InR,room,bdsOk] at hpre ⊢
  obtain ⟨n1,n2,ht⟩:=tabB_of hpre
  refine ⟨⟨0,⟨by omega,rfl⟩,rfl⟩,fun i ⟨hi,hx⟩=>⟨fun h=>⟨⟨0,⟨by omega,by omega,?_⟩,rfl⟩,fun j ⟨hj,_,hy⟩=>⟨fun h2=>⟨⟨0,⟨by omega,by omega,?_⟩,rfl⟩,fun k ⟨hk,_,hz⟩=>⟨fun h3=>?_,fun h3=>?_⟩⟩,fun h2=>?_⟩⟩,fun h=>?_⟩⟩
  · rw [hx,firstO_step _ _ i (by omega)];rfl
  · rw [hy,firstO_step _ _ j (by omega)];rfl
  · have a:=ht i (by omega)
    have b:=ht j (by omega)
    have c:=b.2 k (by omega)
    have d:=a.2 j (by omega)
    have e:=a.2 k (by omega)
    have g:=b.2 i (by omega)
    have g':=ht ((t.getD j []).getD i 0).toNat (by omega)
    have f:=ht ((t.getD i []).getD j 0).toNat (by omega)
    repeat (refine ⟨by omega,?_⟩)
    refine ⟨fun h4=>?_,fun h4=>⟨by omega,k+1,⟨by omega,by omega,?_⟩,by omega,by omega⟩⟩
    · rw [hz,firstO_step _ _ k (by omega),show cyZ t i j k=some [(i:Int),(j:Int),(k:Int)] from if_neg h4];rfl
    · rw [hz,firstO_step _ _ k (by omega),show cyZ t i j k=none from if_pos h4];rfl
  · refine ⟨by omega,j+1,⟨by omega,by omega,?_⟩,by omega,by omega⟩
    rw [hz,show t.length - k=0 by omega];rfl
  · refine ⟨by omega,i+1,⟨by omega,?_⟩,by omega,by omega⟩
    rw [hy,show t.length - j=0 by omega];rfl
  · rw [hx,show t.length - i=0 by omega];rfl
theorem l05Fault_fits:Fits Try.prog 80 ⟨[],l05Fault_ct⟩:=by
  refine ffn (Γ:=gam l05Fault_G) gok_nil Try.func80 fun ds p h hp=>?_
  unfold l05Fault_ct at h
  split at h
  · cases h
    exact ⟨noWr,l05Fault_ann _ ,by rw [l05Fault_vc];exact l05Fault_ok _  hp⟩
  · cases h
def cycleFault_p (t:List (List Int)):Post:=⟨tabB t=true,.c (.nilq ((cyF t).isNone)),[]⟩
def cycleFault_ct:List AD→Option Post
  | [.c (.rows .i64 (t))]=>some (cycleFault_p t)
  | _=>none
def cycleFault_ann (t:List (List Int)):Nat→Option Ann
  | 0=>some (Ann.mk ((Nat)) (fun i=>⟨[(0,.c (.ro (.rows .i64 (t)))),(3,.c (.int .i64 ((t.length:Int)))),(9,.c (.int .i64 ((t.length:Int)))),(10,.c (.int .i64 ((i:Int))))],[]⟩) (fun i=>i≤t.length∧cyF t=firstO t.length (cyX t) (t.length - i)) (fun i=>t.length - i) (fun i=>fun b_=>match b_ with | 2=>some (Ann.mk ((Nat)) (fun j=>⟨[(0,.c (.ro (.rows .i64 (t)))),(3,.c (.int .i64 ((t.length:Int)))),(9,.c (.int .i64 ((t.length:Int)))),(10,.c (.int .i64 ((i:Int)))),(4,.c (.int .i64 ((i:Int)))),(13,.c (.int .i64 ((t.length:Int)))),(14,.c (.int .i64 ((j:Int))))],[]⟩) (fun j=>j≤t.length∧i<t.length∧cyF t=(firstO t.length (cyY t i) (t.length - j)).or (firstO t.length (cyX t) (t.length - (i+1)))) (fun j=>t.length - j) (fun j=>fun b_=>match b_ with | 4=>some (Ann.mk ((Nat)) (fun k=>⟨[(0,.c (.ro (.rows .i64 (t)))),(3,.c (.int .i64 ((t.length:Int)))),(9,.c (.int .i64 ((t.length:Int)))),(10,.c (.int .i64 ((i:Int)))),(4,.c (.int .i64 ((i:Int)))),(13,.c (.int .i64 ((t.length:Int)))),(14,.c (.int .i64 ((j:Int)))),(5,.c (.int .i64 ((j:Int)))),(17,.c (.int .i64 ((t.length:Int)))),(18,.c (.int .i64 ((k:Int))))],[]⟩) (fun k=>k≤t.length∧j<t.length∧cyF t=((firstO t.length (cyZ t i j) (t.length - k)).or (firstO t.length (cyY t i) (t.length - (j+1)))).or (firstO t.length (cyX t) (t.length - (i+1)))) (fun k=>t.length - k) (fun _=>noAnn)) | _=>none)) | _=>none))
  | _=>none
def cycleFault_G:List (Nat×Ctr):=[]
def cycleFault_c1 (t:List (List Int)) (x0:Nat) (x1:Nat):=((List.getD t ((↑x0:Int).toNat) []).getD ((↑x1:Int).toNat) (0:Int))
def cycleFault_V (t:List (List Int)):Prop :=
 ((∃x0:Nat,(((x0≤t.length)∧(cyF t=firstO (t.length) (cyX t) (t.length - x0)))∧((t=t)∧(((↑(t.length):Int)=(↑(t.length):Int))∧(((↑(t.length):Int)=(↑(t.length):Int))∧((0:Int)=(↑x0:Int)))))))∧(∀x1:Nat,(((x1≤t.length)∧(cyF t=firstO (t.length) (cyX t) (t.length - x1)))→(BrP (decide ((↑x1:Int)<(↑(t.length):Int))) ((∃x2:Nat,(((x2≤t.length)∧((x1<t.length)∧(cyF t=Option.or (firstO (t.length) (cyY t x1) (t.length - x2)) (firstO (t.length) (cyX t) (t.length - (x1+(1:Nat)))))))∧((t=t)∧(((↑(t.length):Int)=(↑(t.length):Int))∧(((↑(t.length):Int)=(↑(t.length):Int))∧(((↑x1:Int)=(↑x1:Int))∧(((↑x1:Int)=(↑x1:Int))∧(((↑(t.length):Int)=(↑(t.length):Int))∧((0:Int)=(↑x2:Int))))))))))∧(∀x3:Nat,(((x3≤t.length)∧((x1<t.length)∧(cyF t=Option.or (firstO (t.length) (cyY t x1) (t.length - x3)) (firstO (t.length) (cyX t) (t.length - (x1+(1:Nat)))))))→(BrP (decide ((↑x3:Int)<(↑(t.length):Int))) ((∃x4:Nat,(((x4≤t.length)∧((x3<t.length)∧(cyF t=Option.or (Option.or (firstO (t.length) (cyZ t x1 x3) (t.length - x4)) (firstO (t.length) (cyY t x1) (t.length - (x3+(1:Nat))))) (firstO (t.length) (cyX t) (t.length - (x1+(1:Nat)))))))∧((t=t)∧(((↑(t.length):Int)=(↑(t.length):Int))∧(((↑(t.length):Int)=(↑(t.length):Int))∧(((↑x1:Int)=(↑x1:Int))∧(((↑x1:Int)=(↑x1:Int))∧(((↑(t.length):Int)=(↑(t.length):Int))∧(((↑x3:Int)=(↑x3:Int))∧(((↑x3:Int)=(↑x3:Int))∧(((↑(t.length):Int)=(↑(t.length):Int))∧((0:Int)=(↑x4:Int))))))))))))) ∧
 (∀x5:Nat,(((x5≤t.length)∧((x3<t.length)∧(cyF t=Option.or (Option.or (firstO (t.length) (cyZ t x1 x3) (t.length - x5)) (firstO (t.length) (cyY t x1) (t.length - (x3+(1:Nat))))) (firstO (t.length) (cyX t) (t.length - (x1+(1:Nat)))))))→(BrP (decide ((↑x5:Int)<(↑(t.length):Int))) ((inB (↑x1:Int) (t.length))∧((inB (↑x3:Int) ((t.getD ((↑x1:Int).toNat) []).length))∧((inB (cycleFault_c1 t x1 x3) (t.length))∧((inB (↑x1:Int) (t.length))∧((inB (↑x5:Int) ((t.getD ((↑x1:Int).toNat) []).length))∧((inB (cycleFault_c1 t x1 x5) ((t.getD ((cycleFault_c1 t x1 x3).toNat) []).length))∧((inB (↑x3:Int) (t.length))∧((inB (↑x1:Int) ((t.getD ((↑x3:Int).toNat) []).length))∧((inB (cycleFault_c1 t x3 x1) (t.length))∧((inB (↑x3:Int) (t.length))∧((inB (↑x5:Int) ((t.getD ((↑x3:Int).toNat) []).length))∧((inB (cycleFault_c1 t x3 x5) ((t.getD ((cycleFault_c1 t x3 x1).toNat) []).length))∧(BrP ((List.getD t ((List.getD (List.getD t ((↑x1:Int).toNat) []) ((↑x3:Int).toNat) (0:Int)).toNat) []).getD (((List.getD t ((↑x1:Int).toNat) []).getD ((↑x5:Int).toNat) (0:Int)).toNat) (0:Int) != (List.getD t ((List.getD (List.getD t ((↑x3:Int).toNat) []) ((↑x1:Int).toNat) (0:Int)).toNat) []).getD (((List.getD t ((↑x3:Int).toNat) []).getD ((↑x5:Int).toNat) (0:Int)).toNat) (0:Int)) (((false=Option.isNone (cyF t))∧([(↑x1:Int),(↑x3:Int),(↑x5:Int)].length≠(0:Nat)))∧True) ((InR ((↑x5:Int)+(1:Int)))∧(∃x6:Nat,(((x6≤t.length)∧((x3<t.length) ∧
 (cyF t=Option.or (Option.or (firstO (t.length) (cyZ t x1 x3) (t.length - x6)) (firstO (t.length) (cyY t x1) (t.length - (x3+(1:Nat))))) (firstO (t.length) (cyX t) (t.length - (x1+(1:Nat)))))))∧((t.length - x6<t.length - x5)∧((t=t)∧(((↑(t.length):Int)=(↑(t.length):Int))∧(((↑(t.length):Int)=(↑(t.length):Int))∧(((↑x1:Int)=(↑x1:Int))∧(((↑x1:Int)=(↑x1:Int))∧(((↑(t.length):Int)=(↑(t.length):Int))∧(((↑x3:Int)=(↑x3:Int))∧(((↑x3:Int)=(↑x3:Int))∧(((↑(t.length):Int)=(↑(t.length):Int))∧((↑x5:Int)+(1:Int)=(↑x6:Int)))))))))))))))))))))))))))) ((InR ((↑x3:Int)+(1:Int)))∧(∃x7:Nat,(((x7≤t.length)∧((x1<t.length)∧(cyF t=Option.or (firstO (t.length) (cyY t x1) (t.length - x7)) (firstO (t.length) (cyX t) (t.length - (x1+(1:Nat)))))))∧((t.length - x7<t.length - x3)∧((t=t)∧(((↑(t.length):Int)=(↑(t.length):Int))∧(((↑(t.length):Int)=(↑(t.length):Int))∧(((↑x1:Int)=(↑x1:Int))∧(((↑x1:Int)=(↑x1:Int))∧(((↑(t.length):Int)=(↑(t.length):Int))∧((↑x3:Int)+(1:Int)=(↑x7:Int)))))))))))))))) ((InR ((↑x1:Int)+(1:Int)))∧(∃x8:Nat,(((x8≤t.length)∧(cyF t=firstO (t.length) (cyX t) (t.length - x8)))∧((t.length - x8<t.length - x1)∧((t=t)∧(((↑(t.length):Int)=(↑(t.length):Int))∧(((↑(t.length):Int)=(↑(t.length):Int))∧((↑x1:Int)+(1:Int)=(↑x8:Int))))))))))))) ((true=Option.isNone (cyF t))∧True)))))
theorem cycleFault_vc (t:List (List Int)):runF Try.prog (gam cycleFault_G) noWr (cycleFault_ann t) Try.f50 (bodyOf Try.f50) [] [.c (.rows .i64 (t))] (cycleFault_p t)=cycleFault_V t:=by kernel_rfl
theorem cycleFault_ok (t:List (List Int)) (hpre:(cycleFault_p t).pre):cycleFault_V t:=by
  simp only [cycleFault_p,cycleFault_V,cycleFault_c1,BrP_iff,u1,u2,u3,u4,u5,u6,u7,u8,u9,v1,v2,v3,v4,v5,v6,v7,v8,v9,w1,w2,w3,w4,markL_length,inB,InR,room,bdsOk] at hpre ⊢
  obtain ⟨n1,n2,ht⟩:=tabB_of hpre
  refine ⟨⟨0,⟨by omega,rfl⟩,rfl⟩,fun i ⟨hi,hx⟩=>⟨fun h=>⟨⟨0,⟨by omega,by omega,?_⟩,rfl⟩,fun j ⟨hj,_,hy⟩=>⟨fun h2=>⟨⟨0,⟨by omega,by omega,?_⟩,rfl⟩,fun k ⟨hk,_,hz⟩=>⟨fun h3=>?_,fun h3=>?_⟩⟩,fun h2=>?_⟩⟩,fun h=>?_⟩⟩
  · rw [hx,firstO_step _ _ i (by omega)];rfl
  · rw [hy,firstO_step _ _ j (by omega)];rfl
  · have a:=ht i (by omega)
    have b:=ht j (by omega)
    have c:=b.2 k (by omega)
    have d:=a.2 j (by omega)
    have e:=a.2 k (by omega)
    have g:=b.2 i (by omega)
    have g':=ht ((t.getD j []).getD i 0).toNat (by omega)
    have f:=ht ((t.getD i []).getD j 0).toNat (by omega)
    repeat (refine ⟨by omega,?_⟩)
    refine ⟨fun h4=>?_,fun h4=>⟨by omega,k+1,⟨by omega,by omega,?_⟩,by omega,by omega⟩⟩
    · refine ⟨?_,by omega⟩
      rw [hz,firstO_step _ _ k (by omega),show cyZ t i j k=some [(i:Int),(j:Int),(k:Int)] from if_neg h4];rfl
    · rw [hz,firstO_step _ _ k (by omega),show cyZ t i j k=none from if_pos h4];rfl
  · refine ⟨by omega,j+1,⟨by omega,by omega,?_⟩,by omega,by omega⟩
    rw [hz,show t.length - k=0 by omega];rfl
  · refine ⟨by omega,i+1,⟨by omega,?_⟩,by omega,by omega⟩
    rw [hy,show t.length - j=0 by omega];rfl
  · rw [hx,show t.length - i=0 by omega];rfl
theorem cycleFault_fits:Fits Try.prog 50 ⟨[],cycleFault_ct⟩:=by
  refine ffn (Γ:=gam cycleFault_G) gok_nil Try.func50 fun ds p h hp=>?_
  unfold cycleFault_ct at h
  split at h
  · cases h
    exact ⟨noWr,cycleFault_ann _ ,by rw [cycleFault_vc];exact cycleFault_ok _  hp⟩
  · cases h
def l01Rows_p (t:List (List Int)):Post:=⟨tabB t=true,.c (.bool (t.all permB)),[]⟩
def l01Rows_ct:List AD→Option Post
  | [.c (.rows .i64 (t))]=>some (l01Rows_p t)
  | _=>none
def l01Rows_ann (t:List (List Int)):Nat→Option Ann
  | 0=>some (Ann.mk ((Nat)) (fun i=>⟨[(0,.c (.ro (.rows .i64 (t)))),(3,.c (.int .i64 ((i:Int))))],[]⟩) (fun i=>i≤t.length∧t.all permB=(t.drop i).all permB) (fun i=>t.length - i) (fun _=>noAnn))
  | _=>none
def l01Rows_G:List (Nat×Ctr):=[(78,⟨[],l01Perm_ct⟩)]
def l01Rows_V (t:List (List Int)):Prop :=
 ((∃x0:Nat,(((x0≤t.length)∧(List.all t permB=List.all (List.drop x0 t) permB))∧((t=t)∧((0:Int)=(↑x0:Int)))))∧(∀x1:Nat,(((x1≤t.length)∧(List.all t permB=List.all (List.drop x1 t) permB))→(BrP (decide ((↑x1:Int)<(↑(t.length):Int))) ((inB (↑x1:Int) (t.length))∧((((t.getD ((↑x1:Int).toNat) []).length≤(1099511627776:Nat))∧True)∧(BrP (!(decide ((1:Int)≤(↑((t.getD ((↑x1:Int).toNat) []).length):Int)∧(↑((t.getD ((↑x1:Int).toNat) []).length):Int)≤(12:Int))&&permB (t.getD ((↑x1:Int).toNat) []))) ((false=List.all t permB)∧True) ((InR ((↑x1:Int)+(1:Int)))∧(∃x2:Nat,(((x2≤t.length)∧(List.all t permB=List.all (List.drop x2 t) permB))∧((t.length - x2<t.length - x1)∧((t=t)∧((↑x1:Int)+(1:Int)=(↑x2:Int)))))))))) ((true=List.all t permB)∧True)))))
theorem l01Rows_vc (t:List (List Int)):runF Try.prog (gam l01Rows_G) noWr (l01Rows_ann t) Try.f77 (bodyOf Try.f77) [] [.c (.rows .i64 (t))] (l01Rows_p t)=l01Rows_V t:=by kernel_rfl
theorem l01Rows_ok (t:List (List Int)) (hpre:(l01Rows_p t).pre):l01Rows_V t:=by
  simp only [l01Rows_p,l01Rows_V,BrP_iff,u1,u2,u3,u4,u5,u6,u7,u8,u9,v1,v2,v3,v4,v5,v6,v7,v8,v9,w1,w2,w3,w4,markL_length,inB,InR,room,bdsOk] at hpre ⊢
  obtain ⟨n1,n2,ht⟩:=tabB_of hpre
  refine ⟨⟨0,⟨by omega,rfl⟩,rfl⟩,fun i ⟨hi,he⟩=>⟨fun h2=>?_,fun h2=>?_⟩⟩
  · have hd:=allG_drop [] permB (show i<t.length by omega)
    have hl:=(ht i (by omega)).1
    refine ⟨by omega,by omega,fun h3=>?_,fun h3=>⟨by omega,i+1,⟨by omega,?_⟩,by omega,by omega⟩⟩
    · rw [decide_eq_true (by omega),Bool.true_and] at h3
      rw [he,hd,h3];rfl
    · rw [decide_eq_true (by omega),Bool.true_and] at h3
      rw [he,hd,h3];rfl
  · rw [he,List.drop_of_length_le (by omega)];rfl
theorem l01Rows_fits:Fits Try.prog 77 ⟨[],l01Rows_ct⟩:=by
  refine ffn (Γ:=gam l01Rows_G) (gok_cons l01Perm_fits gok_nil) Try.func77 fun ds p h hp=>?_
  unfold l01Rows_ct at h
  split at h
  · cases h
    exact ⟨noWr,l01Rows_ann _ ,by rw [l01Rows_vc];exact l01Rows_ok _  hp⟩
  · cases h
def sqL (t:List (List Int)):List Int:=tab t.length fun x=>en t x x
def l05Squares_p (t:List (List Int)):Post:=⟨tabB t=true,.c (.ints 2 .i64 (sqL t)),[]⟩
def l05Squares_ct:List AD→Option Post
  | [.c (.rows .i64 (t))]=>some (l05Squares_p t)
  | _=>none
def l05Squares_ann (t:List (List Int)):Nat→Option Ann
  | 0=>some (Ann.mk ((Nat)) (fun i=>⟨[(0,.c (.ro (.rows .i64 (t)))),(3,.c (.own (5))),(4,.c (.int .i64 ((i:Int))))],[(5,some (.ints 2 .i64 ((sqL t).take i)))]⟩) (fun i=>i≤t.length) (fun i=>t.length - i) (fun _=>noAnn))
  | _=>none
def l05Squares_G:List (Nat×Ctr):=[]
def l05Squares_V (t:List (List Int)):Prop :=
 ((∃x0:Nat,((x0≤t.length)∧((t=t)∧(((0:Int)=(↑x0:Int))∧([]=List.take x0 (sqL t))))))∧(∀x1:Nat,((x1≤t.length)→(BrP (decide ((↑x1:Int)<(↑(t.length):Int))) ((inB (↑x1:Int) (t.length))∧((inB (↑x1:Int) ((t.getD ((↑x1:Int).toNat) []).length))∧((room ((List.take x1 (sqL t)).length+[(List.getD t ((↑x1:Int).toNat) []).getD ((↑x1:Int).toNat) (0:Int)].length))∧((InR ((↑x1:Int)+(1:Int)))∧(∃x2:Nat,((x2≤t.length)∧((t.length - x2<t.length - x1)∧((t=t)∧(((↑x1:Int)+(1:Int)=(↑x2:Int))∧(List.take x1 (sqL t)++[(List.getD t ((↑x1:Int).toNat) []).getD ((↑x1:Int).toNat) (0:Int)]=List.take x2 (sqL t))))))))))) ((List.take x1 (sqL t)=sqL t)∧True)))))
theorem l05Squares_vc (t:List (List Int)):runF Try.prog (gam l05Squares_G) noWr (l05Squares_ann t) Try.f79 (bodyOf Try.f79) [] [.c (.rows .i64 (t))] (l05Squares_p t)=l05Squares_V t:=by kernel_rfl
theorem l05Squares_ok (t:List (List Int)) (hpre:(l05Squares_p t).pre):l05Squares_V t:=by
  simp only [l05Squares_p,l05Squares_V,BrP_iff,u1,u2,u3,u4,u5,u6,u7,u8,u9,v1,v2,v3,v4,v5,v6,v7,v8,v9,w1,w2,w3,w4,markL_length,inB,InR,room,bdsOk] at hpre ⊢
  obtain ⟨n1,n2,ht⟩:=tabB_of hpre
  have hs:(sqL t).length=t.length:=tab_length _ _
  refine ⟨⟨0,by omega,rfl,by simp⟩,fun i hi=>⟨fun h2=>?_,fun h2=>List.take_of_length_le (by omega)⟩⟩
  have a:=ht i (by omega)
  refine ⟨by omega,by omega,by omega,by omega,i+1,by omega,by omega,by omega,?_⟩
  rw [←take_snoc (sqL t) 0 i (by omega),sqL,tab_getD _ _ _ (by omega)]
  rfl
theorem l05Squares_fits:Fits Try.prog 79 ⟨[],l05Squares_ct⟩:=by
  refine ffn (Γ:=gam l05Squares_G) gok_nil Try.func79 fun ds p h hp=>?_
  unfold l05Squares_ct at h
  split at h
  · cases h
    exact ⟨noWr,l05Squares_ann _ ,by rw [l05Squares_vc];exact l05Squares_ok _  hp⟩
  · cases h
def squaresOf_p (t:List (List Int)):Post:=⟨tabB t=true,.c (.ints 2 .i64 (sqL t)),[]⟩
def squaresOf_ct:List AD→Option Post
  | [.agg [.rows .i64 (t)]]=>some (squaresOf_p t)
  | _=>none
def squaresOf_ann (t:List (List Int)):Nat→Option Ann
  | 0=>some (Ann.mk ((Nat)) (fun i=>⟨[(1,.c (.ptr 1 0)),(3,.c (.own (8))),(10,.c (.int .i64 ((t.length:Int)))),(11,.c (.int .i64 ((i:Int))))],[(1,some (.box [.ro (.rows .i64 (t))])),(8,some (.ints 2 .i64 ((sqL t).take i++List.replicate (t.length - i) 0)))]⟩) (fun i=>i≤t.length) (fun i=>t.length - i) (fun _=>noAnn))
  | _=>none
def squaresOf_G:List (Nat×Ctr):=[]
def squaresOf_V (t:List (List Int)):Prop :=
 ((((0:Int)≤(↑(t.length):Int))∧(((↑(t.length):Int)≤(↑(t.length):Int))∧(room ((↑(t.length):Int).toNat))))∧((∃x0:Nat,((x0≤t.length)∧(((↑((List.replicate ((↑(t.length):Int).toNat) (0:Int)).length):Int)=(↑(t.length):Int))∧(((0:Int)=(↑x0:Int))∧((t=t)∧(List.replicate ((↑(t.length):Int).toNat) (0:Int)=List.take x0 (sqL t)++List.replicate (t.length - x0) (0:Int)))))))∧(∀x1:Nat,((x1≤t.length)→(BrP (decide ((↑x1:Int)<(↑(t.length):Int))) ((inB (↑x1:Int) (t.length))∧((inB (↑x1:Int) ((t.getD ((↑x1:Int).toNat) []).length))∧((inB (↑x1:Int) ((List.take x1 (sqL t)++List.replicate (t.length - x1) (0:Int)).length))∧((InR ((↑x1:Int)+(1:Int)))∧(∃x2:Nat,((x2≤t.length)∧((t.length - x2<t.length - x1)∧(((↑(t.length):Int)=(↑(t.length):Int))∧(((↑x1:Int)+(1:Int)=(↑x2:Int))∧((t=t)∧(List.set (List.take x1 (sqL t)++List.replicate (t.length - x1) (0:Int)) ((↑x1:Int).toNat) ((List.getD t ((↑x1:Int).toNat) []).getD ((↑x1:Int).toNat) (0:Int))=List.take x2 (sqL t)++List.replicate (t.length - x2) (0:Int)))))))))))) ((List.take x1 (sqL t)++List.replicate (t.length - x1) (0:Int)=sqL t)∧True))))))
theorem squaresOf_vc (t:List (List Int)):runF Try.prog (gam squaresOf_G) noWr (squaresOf_ann t) Try.f49 (bodyOf Try.f49) [] [.agg [.rows .i64 (t)]] (squaresOf_p t)=squaresOf_V t:=by kernel_rfl
theorem squaresOf_ok (t:List (List Int)) (hpre:(squaresOf_p t).pre):squaresOf_V t:=by
  simp only [squaresOf_p,squaresOf_V,BrP_iff,u1,u2,u3,u4,u5,u6,u7,u8,u9,v1,v2,v3,v4,v5,v6,v7,v8,v9,w1,w2,w3,w4,markL_length,inB,InR,room,bdsOk] at hpre ⊢
  obtain ⟨n1,n2,ht⟩:=tabB_of hpre
  have hs:(sqL t).length=t.length:=tab_length _ _
  refine ⟨by omega,⟨0,by omega,rfl,by simp⟩,fun i hi=>⟨fun h2=>?_,fun h2=>?_⟩⟩
  · have a:=ht i (by omega)
    repeat (refine And.intro (by omega) ?_)
    refine ⟨i+1,by omega,by omega,by omega,?_⟩
    have:=fill_step (sqL t) 0 0 i (by omega)
    rw [hs] at this
    rw [←this,sqL,tab_getD _ _ _ (by omega)]
    rfl
  · rw [List.take_of_length_le (by omega),show t.length - i=0 by omega];simp
theorem squaresOf_fits:Fits Try.prog 49 ⟨[],squaresOf_ct⟩:=by
  refine ffn (Γ:=gam squaresOf_G) gok_nil Try.func49 fun ds p h hp=>?_
  unfold squaresOf_ct at h
  split at h
  · cases h
    exact ⟨noWr,squaresOf_ann _ ,by rw [squaresOf_vc];exact squaresOf_ok _  hp⟩
  · cases h
def cycB (t:List (List Int)):Bool:=tabB t&&t.all permB&&permB (sqL t)&&(cyF t).isNone
theorem cycB_tab {t:List (List Int)} (h:cycB t=true):tabB t=true:=by
  simp only [cycB,Bool.and_eq_true] at h
  exact h.1.1.1
theorem sqL_length (t:List (List Int)):(sqL t).length=t.length:=tab_length _ _
def l05Is_p (t:List (List Int)):Post:=⟨roomR t,.c (.bool (cycB t)),[]⟩
def l05Is_ct:List AD→Option Post
  | [.agg [.rows .i64 (t)]]=>some (l05Is_p t)
  | _=>none
def l05Is_G:List (Nat×Ctr):=[(76,⟨[],l01Table_ct⟩),(77,⟨[],l01Rows_ct⟩),(79,⟨[],l05Squares_ct⟩),(78,⟨[],l01Perm_ct⟩),(80,⟨[],l05Fault_ct⟩)]
def l05Is_V (t:List (List Int)):Prop :=
 (((roomR t)∧True)∧(BrP (tabB t) (((tabB t=true)∧True)∧(BrP (List.all t permB) (((tabB t=true)∧True)∧((((sqL t).length≤(1099511627776:Nat))∧True)∧(BrP (decide ((1:Int)≤(↑((sqL t).length):Int)∧(↑((sqL t).length):Int)≤(12:Int))&&permB (sqL t)) (((tabB t=true)∧True)∧((((↑((Option.getD (cyF t) []).length):Int) == (0:Int))=cycB t)∧True)) ((false=cycB t)∧True)))) ((false=cycB t)∧True))) ((false=cycB t)∧True)))
theorem l05Is_vc (t:List (List Int)):runF Try.prog (gam l05Is_G) noWr noAnn Try.f39 (bodyOf Try.f39) [] [.agg [.rows .i64 (t)]] (l05Is_p t)=l05Is_V t:=by kernel_rfl
theorem l05Is_ok (t:List (List Int)) (hpre:(l05Is_p t).pre):l05Is_V t:=by
  simp only [l05Is_p,l05Is_V,BrP_iff,u1,u2,u3,u4,u5,u6,u7,u8,u9,v1,v2,v3,v4,v5,v6,v7,v8,v9,w1,w2,w3,w4,markL_length,inB,InR,room,bdsOk] at hpre ⊢
  refine ⟨hpre,fun h=>⟨h,fun h2=>?_,fun h2=>by rw [cycB,h2];simp⟩,fun h=>by rw [cycB,h];rfl⟩
  have ht:=tabB_of h
  have hs:=sqL_length t
  rw [decide_eq_true (by omega),Bool.true_and]
  refine ⟨h,by omega,fun h3=>⟨h,?_⟩,fun h3=>by rw [cycB,h3];simp⟩
  rw [cycB,h,h2,h3]
  cases hf:cyF t with
  | none=>rfl
  | some l =>
    have hl:=cyF_len hf
    simp only [Option.getD_some,Option.isNone_some,Bool.and_false]
    rw [beq_eq_false_iff_ne]
    omega
theorem l05Is_fits:Fits Try.prog 39 ⟨[],l05Is_ct⟩:=by
  refine ffn (Γ:=gam l05Is_G) (gok_cons l01Table_fits (gok_cons l01Rows_fits (gok_cons l05Squares_fits (gok_cons l01Perm_fits (gok_cons l05Fault_fits gok_nil))))) Try.func39 fun ds p h hp=>?_
  unfold l05Is_ct at h
  split at h
  · cases h
    exact ⟨noWr,noAnn,by rw [l05Is_vc];exact l05Is_ok _  hp⟩
  · cases h
def IsCycleSet_p (t:List (List Int)):Post:=⟨roomR t,.c (.bool (cycB t)),[]⟩
def IsCycleSet_ct:List AD→Option Post
  | [.agg [.rows .i64 (t)]]=>some (IsCycleSet_p t)
  | _=>none
def IsCycleSet_G:List (Nat×Ctr):=[(46,⟨[],IsTable_ct⟩),(47,⟨[],permutationRows_ct⟩),(49,⟨[],squaresOf_ct⟩),(48,⟨[],isPermuted_ct⟩),(50,⟨[],cycleFault_ct⟩)]
def IsCycleSet_V (t:List (List Int)):Prop :=
 (((roomR t)∧True)∧(BrP (tabB t) (((roomR t)∧True)∧(BrP (List.all t permB) (((tabB t=true)∧True)∧((((sqL t).length≤(1099511627776:Nat))∧True)∧(BrP (permB (sqL t)) (((tabB t=true)∧True)∧((Option.isNone (cyF t)=cycB t)∧True)) ((false=cycB t)∧True)))) ((false=cycB t)∧True))) ((false=cycB t)∧True)))
theorem IsCycleSet_vc (t:List (List Int)):runF Try.prog (gam IsCycleSet_G) noWr noAnn Try.f16 (bodyOf Try.f16) [] [.agg [.rows .i64 (t)]] (IsCycleSet_p t)=IsCycleSet_V t:=by kernel_rfl
theorem IsCycleSet_ok (t:List (List Int)) (hpre:(IsCycleSet_p t).pre):IsCycleSet_V t:=by
  simp only [IsCycleSet_p,IsCycleSet_V,BrP_iff,u1,u2,u3,u4,u5,u6,u7,u8,u9,v1,v2,v3,v4,v5,v6,v7,v8,v9,w1,w2,w3,w4,markL_length,inB,InR,room,bdsOk] at hpre ⊢
  refine ⟨hpre,fun h=>⟨hpre,fun h2=>?_,fun h2=>by rw [cycB,h2];simp⟩,fun h=>by rw [cycB,h];rfl⟩
  have ht:=tabB_of h
  have hs:=sqL_length t
  refine ⟨h,by omega,fun h3=>⟨h,?_⟩,fun h3=>by rw [cycB,h3];simp⟩
  rw [cycB,h,h2,h3];rfl
theorem IsCycleSet_fits:Fits Try.prog 16 ⟨[],IsCycleSet_ct⟩:=by
  refine ffn (Γ:=gam IsCycleSet_G) (gok_cons IsTable_fits (gok_cons permutationRows_fits (gok_cons squaresOf_fits (gok_cons isPermuted_fits (gok_cons cycleFault_fits gok_nil))))) Try.func16 fun ds p h hp=>?_
  unfold IsCycleSet_ct at h
  split at h
  · cases h
    exact ⟨noWr,noAnn,by rw [IsCycleSet_vc];exact IsCycleSet_ok _  hp⟩
  · cases h
end Go.Sx
