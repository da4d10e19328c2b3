/- Dyn -/
import Derived.Test.YtjkbnanffneogaaLists
import Derived.Test.YtjkbnanffneogaaInc
import Derived.Test.YtjkbnanffneogaaCyc
open Go Go.Proofs
namespace Go.Sx
set_option linter.unusedSimpArgs false
set_option linter.unusedVariables false
def room3 (l:List (List (List Int))):Prop:=l.length≤1099511627776∧∀r∈l,roomR r
def room4 (l:List (List (List (List Int)))):Prop:=l.length≤1099511627776∧∀r∈l,room3 r
section
variable {α:Type} {f:α→Int→α} {c:α→Nat}
end
def conP (m:Nat) (b:Int):List Int:=tab m fun t=>((t:Int)+b).tmod (m:Int)
def conS (m:Nat) (b:Int):List (List Int):=List.replicate m (conP m b)
def conR (m:Nat) (r:List Int):List (List (List Int)):=r.map (conS m)
def con4 (m:Nat) (f:List (List Int)):List (List (List (List Int))):=f.map (conR m)
def sqr (f:List (List Int)):List (List Int):=f.map (List.take f.length)
def mOk (m:Int) (f:List (List Int)):Prop:=1≤m∧m≤12∧f.length≤13∧∀r∈f,f.length≤r.length∧r.length≤13∧∀x∈r,-1000≤x∧x≤1000
def l14Constant_p (m:Int) (f:List (List Int)):Post:=⟨mOk m f,.c (.tr [59,24,41,2] (.r4 .i64 (con4 m.toNat (sqr f)))),[]⟩
def l14Constant_ct:List AD→Option Post
  | [.c (.int .i64 (m)),.c (.rows .i64 (f))]=>some (l14Constant_p m f)
  | _=>none
def l14Constant_ann (m:Int) (f:List (List Int)):Nat→Option Ann
  | 0=>some (Ann.mk ((Nat)) (fun i=>⟨[(0,.c (.int .i64 (m))),(1,.c (.ro (.rows .i64 (f)))),(5,.c (.own (100))),(6,.c (.int .i64 ((i:Int))))],[(100,some (.tr 0 [59,24,41,2] (.r4 .i64 ((con4 m.toNat (sqr f)).take i))))]⟩) (fun i=>i≤f.length) (fun i=>f.length - i) (fun i=>fun b_=>match b_ with | 2=>some (Ann.mk ((Nat)) (fun j=>⟨[(0,.c (.int .i64 (m))),(1,.c (.ro (.rows .i64 (f)))),(5,.c (.own (100))),(6,.c (.int .i64 ((i:Int)))),(7,.c (.own (101))),(8,.c (.int .i64 ((j:Int))))],[(100,some (.tr 0 [59,24,41,2] (.r4 .i64 ((con4 m.toNat (sqr f)).take i)))),(101,some (.tr 0 [24,41,2] (.r3 .i64 ((conR m.toNat ((f.getD i []).take f.length)).take j))))]⟩) (fun j=>i<f.length∧j≤f.length) (fun j=>f.length - j) (fun j=>fun b_=>match b_ with | 4=>some (Ann.mk ((Nat)) (fun s=>⟨[(0,.c (.int .i64 (m))),(1,.c (.ro (.rows .i64 (f)))),(5,.c (.own (100))),(6,.c (.int .i64 ((i:Int)))),(7,.c (.own (101))),(8,.c (.int .i64 ((j:Int)))),(9,.c (.own (102))),(10,.c (.int .i64 ((s:Int))))],[(100,some (.tr 0 [59,24,41,2] (.r4 .i64 ((con4 m.toNat (sqr f)).take i)))),(101,some (.tr 0 [24,41,2] (.r3 .i64 ((conR m.toNat ((f.getD i []).take f.length)).take j)))),(102,some (.rows 0 41 2 .i64 (List.replicate s (conP m.toNat ((f.getD i []).getD j 0)))))]⟩) (fun s=>j<f.length∧s≤m.toNat) (fun s=>m.toNat - s) (fun s=>fun b_=>match b_ with | 6=>some (Ann.mk ((Nat)) (fun u=>⟨[(0,.c (.int .i64 (m))),(1,.c (.ro (.rows .i64 (f)))),(5,.c (.own (100))),(6,.c (.int .i64 ((i:Int)))),(7,.c (.own (101))),(8,.c (.int .i64 ((j:Int)))),(9,.c (.own (102))),(10,.c (.int .i64 ((s:Int)))),(11,.c (.own (103))),(12,.c (.int .i64 ((u:Int))))],[(100,some (.tr 0 [59,24,41,2] (.r4 .i64 ((con4 m.toNat (sqr f)).take i)))),(101,some (.tr 0 [24,41,2] (.r3 .i64 ((conR m.toNat ((f.getD i []).take f.length)).take j)))),(102,some (.rows 0 41 2 .i64 (List.replicate s (conP m.toNat ((f.getD i []).getD j 0))))),(103,some (.ints 2 .i64 ((conP m.toNat ((f.getD i []).getD j 0)).take u)))]⟩) (fun u=>s<m.toNat∧u≤m.toNat) (fun u=>m.toNat - u) (fun _=>noAnn)) | _=>none)) | _=>none)) | _=>none))
  | _=>none
def l14Constant_wr (t:Nat):Bool:=[2000013,2000020,2000059,2000063].contains t
def l14Constant_G:List (Nat×Ctr):=[]
def l14Constant_c1 (m:Int) (f:List (List Int)) (x0:Nat):=(conR (m.toNat) (List.take (f.length) (f.getD x0 [])))
def l14Constant_c2 (m:Int) (f:List (List Int)) (x0:Nat) (x1:Nat):=(conP (m.toNat) ((List.getD f x0 []).getD x1 (0:Int)))
def l14Constant_V (m:Int) (f:List (List Int)):Prop :=
 ((∃x0:Nat,((x0≤f.length)∧((m=m)∧((f=f)∧(((0:Int)=(↑x0:Int))∧(([]:List (List (List (List Int))))=List.take x0 (con4 (m.toNat) (sqr f))))))))∧(∀x1:Nat,((x1≤f.length)→(BrP (decide ((↑x1:Int)<(↑(f.length):Int))) ((∃x2:Nat,(((x1<f.length)∧(x2≤f.length))∧((m=m)∧((f=f)∧(((↑x1:Int)=(↑x1:Int))∧(((0:Int)=(↑x2:Int))∧((List.take x1 (con4 (m.toNat) (sqr f))=List.take x1 (con4 (m.toNat) (sqr f)))∧(([]:List (List (List Int)))=List.take x2 (l14Constant_c1 m f x1)))))))))∧(∀x3:Nat,(((x1<f.length)∧(x3≤f.length))→(BrP (decide ((↑x3:Int)<(↑(f.length):Int))) ((∃x4:Nat,(((x3<f.length)∧(x4≤m.toNat))∧((m=m)∧((f=f)∧(((↑x1:Int)=(↑x1:Int))∧(((↑x3:Int)=(↑x3:Int))∧(((0:Int)=(↑x4:Int))∧((List.take x1 (con4 (m.toNat) (sqr f))=List.take x1 (con4 (m.toNat) (sqr f)))∧((List.take x3 (l14Constant_c1 m f x1)=List.take x3 (l14Constant_c1 m f x1))∧(([]:List (List Int))=List.replicate x4 (l14Constant_c2 m f x1 x3)))))))))))∧(∀x5:Nat,(((x3<f.length)∧(x5≤m.toNat))→(BrP (decide ((↑x5:Int)<m)) ((∃x6:Nat,(((x5<m.toNat)∧(x6≤m.toNat))∧((m=m)∧((f=f)∧(((↑x1:Int)=(↑x1:Int))∧(((↑x3:Int)=(↑x3:Int))∧(((↑x5:Int)=(↑x5:Int))∧(((0:Int)=(↑x6:Int))∧((List.take x1 (con4 (m.toNat) (sqr f))=List.take x1 (con4 (m.toNat) (sqr f)))∧((List.take x3 (l14Constant_c1 m f x1)=List.take x3 (l14Constant_c1 m f x1))∧((List.replicate x5 (l14Constant_c2 m f x1 x3)=List.replicate x5 (l14Constant_c2 m f x1 x3)) ∧
 ([]=List.take x6 (l14Constant_c2 m f x1 x3)))))))))))))∧(∀x7:Nat,(((x5<m.toNat)∧(x7≤m.toNat))→(BrP (decide ((↑x7:Int)<m)) ((inB (↑x1:Int) (f.length))∧((inB (↑x3:Int) ((f.getD ((↑x1:Int).toNat) []).length))∧((InR ((↑x7:Int)+(List.getD f ((↑x1:Int).toNat) []).getD ((↑x3:Int).toNat) (0:Int)))∧((m≠(0:Int))∧((room ((List.take x7 (l14Constant_c2 m f x1 x3)).length+[Int.tmod ((↑x7:Int)+(List.getD f ((↑x1:Int).toNat) []).getD ((↑x3:Int).toNat) (0:Int)) m].length))∧((InR ((↑x7:Int)+(1:Int)))∧(∃x8:Nat,(((x5<m.toNat)∧(x8≤m.toNat))∧((m.toNat - x8<m.toNat - x7)∧((m=m)∧((f=f)∧(((↑x1:Int)=(↑x1:Int))∧(((↑x3:Int)=(↑x3:Int))∧(((↑x5:Int)=(↑x5:Int))∧(((↑x7:Int)+(1:Int)=(↑x8:Int))∧((List.take x1 (con4 (m.toNat) (sqr f))=List.take x1 (con4 (m.toNat) (sqr f)))∧((List.take x3 (l14Constant_c1 m f x1)=List.take x3 (l14Constant_c1 m f x1))∧((List.replicate x5 (l14Constant_c2 m f x1 x3)=List.replicate x5 (l14Constant_c2 m f x1 x3))∧(List.take x7 (l14Constant_c2 m f x1 x3)++[Int.tmod ((↑x7:Int)+(List.getD f ((↑x1:Int).toNat) []).getD ((↑x3:Int).toNat) (0:Int)) m]=List.take x8 (l14Constant_c2 m f x1 x3)))))))))))))))))))) ((room ((List.replicate x5 (l14Constant_c2 m f x1 x3)).length+(List.take x7 (l14Constant_c2 m f x1 x3)::([]:List (List Int))).length))∧((InR ((↑x5:Int)+(1:Int)))∧(∃x9:Nat,(((x3<f.length)∧(x9≤m.toNat))∧((m.toNat - x9<m.toNat - x5)∧((m=m)∧((f=f)∧(((↑x1:Int)=(↑x1:Int))∧(((↑x3:Int)=(↑x3:Int)) ∧
 (((↑x5:Int)+(1:Int)=(↑x9:Int))∧((List.take x1 (con4 (m.toNat) (sqr f))=List.take x1 (con4 (m.toNat) (sqr f)))∧((List.take x3 (l14Constant_c1 m f x1)=List.take x3 (l14Constant_c1 m f x1))∧(List.replicate x5 (l14Constant_c2 m f x1 x3)++List.take x7 (l14Constant_c2 m f x1 x3)::([]:List (List Int))=List.replicate x9 (l14Constant_c2 m f x1 x3)))))))))))))))))) ((room (FC.len (FC.r3 IntKind.i64 (List.take x3 (l14Constant_c1 m f x1)))+FC.len (FC.r3 IntKind.i64 (List.replicate x5 (l14Constant_c2 m f x1 x3)::([]:List (List (List Int)))))))∧((InR ((↑x3:Int)+(1:Int)))∧(∃x10:Nat,(((x1<f.length)∧(x10≤f.length))∧((f.length - x10<f.length - x3)∧((m=m)∧((f=f)∧(((↑x1:Int)=(↑x1:Int))∧(((↑x3:Int)+(1:Int)=(↑x10:Int))∧((List.take x1 (con4 (m.toNat) (sqr f))=List.take x1 (con4 (m.toNat) (sqr f)))∧(List.take x3 (l14Constant_c1 m f x1)++List.replicate x5 (l14Constant_c2 m f x1 x3)::([]:List (List (List Int)))=List.take x10 (l14Constant_c1 m f x1)))))))))))))))) ((room (FC.len (FC.r4 IntKind.i64 (List.take x1 (con4 (m.toNat) (sqr f))))+FC.len (FC.r4 IntKind.i64 (List.take x3 (l14Constant_c1 m f x1)::([]:List (List (List (List Int))))))))∧((InR ((↑x1:Int)+(1:Int)))∧(∃x11:Nat,((x11≤f.length)∧((f.length - x11<f.length - x1)∧((m=m)∧((f=f)∧(((↑x1:Int)+(1:Int)=(↑x11:Int)) ∧
 (List.take x1 (con4 (m.toNat) (sqr f))++List.take x3 (l14Constant_c1 m f x1)::([]:List (List (List (List Int))))=List.take x11 (con4 (m.toNat) (sqr f))))))))))))))) ((List.take x1 (con4 (m.toNat) (sqr f))=con4 (m.toNat) (sqr f))∧True)))))
theorem l14Constant_vc (m:Int) (f:List (List Int)):runF Try.prog (gam l14Constant_G) l14Constant_wr (l14Constant_ann m f) Try.f55 (bodyOf Try.f55) [] [.c (.int .i64 (m)),.c (.rows .i64 (f))] (l14Constant_p m f)=l14Constant_V m f:=by kernel_rfl
theorem l14Constant_ok (m:Int) (f:List (List Int)) (hpre:(l14Constant_p m f).pre):l14Constant_V m f:=by
  simp only [l14Constant_p,l14Constant_V,l14Constant_c1,l14Constant_c2,BrP_iff,true_and,and_true,decide_eq_true_eq,decide_eq_false_iff_not,bne_iff_ne,beq_iff_eq,bne_eq_false_iff_eq,beq_eq_false_iff_ne,Bool.not_eq_true,Bool.not_eq_false,Bool.not_true,Bool.not_false,Bool.not_eq_eq_eq_not,Int.toNat_natCast,List.length_append,List.length_take,List.length_replicate,List.length_set,List.length_map,List.length_drop,List.length_nil,List.length_cons,markL_length,inB,InR,room,bdsOk,FC.len] at hpre ⊢
  obtain ⟨m1,m2,m3,m4⟩:=hpre
  have eS:(sqr f).length=f.length:=List.length_map _
  have eD:(con4 m.toNat (sqr f)).length=f.length:=(List.length_map _).trans eS
  refine ⟨⟨0,by omega,rfl,rfl⟩,fun i hi=>⟨fun hl=>?_,fun hl=>?_⟩⟩
  · obtain ⟨r1,r3,r2⟩:=m4 _ (getD_mem f [] i (by omega))
    have hS:(sqr f).getD i []=(f.getD i []).take f.length:=getD_map _ _ [] _ i (by omega)
    have hD:(con4 m.toNat (sqr f)).getD i []=conR m.toNat ((sqr f).getD i []):=getD_map _ _ [] _ i (by omega)
    have hT:=take_snoc (con4 m.toNat (sqr f)) [] i (by omega)
    rw [hD,hS] at hT
    generalize f.getD i []=r at *
    have eR:(conR m.toNat (r.take f.length)).length=f.length:=by rw [conR,List.length_map,List.length_take];omega
    refine ⟨⟨0,⟨by omega,by omega⟩,rfl,rfl⟩,fun j ⟨_,hj⟩=>⟨fun hl2=>?_,fun hl2=>?_⟩⟩
    · have b0:=r2 _ (getD_mem r 0 j (by omega))
      have hR:(conR m.toNat (r.take f.length)).getD j []=conS m.toNat (r.getD j 0):=by
        rw [conR,getD_map _ _ 0 _ j (by rw [List.length_take];omega),getD_lt _ 0 j (by rw [List.length_take];omega),List.getElem_take,getD_lt r 0 j (by omega)]
      have hT2:=take_snoc (conR m.toNat (r.take f.length)) [] j (by omega)
      rw [hR] at hT2
      generalize r.getD j 0=b at *
      have eP:(conP m.toNat b).length=m.toNat:=tab_length _ _
      refine ⟨⟨0,⟨by omega,by omega⟩,rfl,rfl⟩,fun s ⟨_,hs⟩=>⟨fun hl3=>?_,fun hl3=>?_⟩⟩
      · refine ⟨⟨0,⟨by omega,by omega⟩,rfl,rfl⟩,fun u ⟨_,hu⟩=>⟨fun hl4=>?_,fun hl4=>?_⟩⟩
        · refine ⟨by omega,by omega,by omega,by omega,by omega,by omega,u+1,⟨by omega,by omega⟩,by omega,by omega,?_⟩
          rw [←take_snoc (conP m.toNat b) 0 u (by omega),conP,tab_getD _ _ _ (by omega),show ((m.toNat:Nat):Int)=m by omega]
        · have e1:(conP m.toNat b).take u=conP m.toNat b:=List.take_of_length_le (by omega)
          refine ⟨by omega,by omega,s+1,⟨by omega,by omega⟩,by omega,by omega,?_⟩
          rw [e1,List.replicate_succ']
      · obtain rfl:s=m.toNat:=by omega
        exact ⟨by omega,by omega,j+1,⟨by omega,by omega⟩,by omega,by omega,hT2⟩
    · have e1:(conR m.toNat (r.take f.length)).take j=conR m.toNat (r.take f.length):=List.take_of_length_le (by omega)
      refine ⟨by omega,by omega,i+1,by omega,by omega,by omega,?_⟩
      rw [e1]
      exact hT
  · exact List.take_of_length_le (by omega)
theorem l14Constant_fits:Fits Try.prog 55 ⟨[],l14Constant_ct⟩:=by
  refine ffn (Γ:=gam l14Constant_G) gok_nil Try.func55 fun ds p h hp=>?_
  unfold l14Constant_ct at h
  split at h
  · cases h
    exact ⟨l14Constant_wr,l14Constant_ann _ _ ,by rw [l14Constant_vc];exact l14Constant_ok _ _  hp⟩
  · cases h
end Go.Sx
