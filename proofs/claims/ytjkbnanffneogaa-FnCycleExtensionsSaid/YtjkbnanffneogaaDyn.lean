/- Dyn -/
import Derived.Test.YtjkbnanffneogaaExtC
open Go Go.Proofs
namespace Go.Sx
set_option linter.unusedSimpArgs false
set_option linter.unusedVariables false
def conP (m:Nat) (b:Int):List Int:=tab m fun t=>((t:Int)+b).tmod (m:Int)
def conS (m:Nat) (b:Int):List (List Int):=List.replicate m (conP m b)
def conR (m:Nat) (r:List Int):List (List (List Int)):=r.map (conS m)
def con4 (m:Nat) (f:List (List Int)):List (List (List (List Int))):=f.map (conR m)
def cdC (t:List (List Int)) (m:Int) (f:List (List Int)):List (List (List (List Int)))×Int :=
  if cycB t=true then (if matB (t.length:Int) m f=true then (con4 m.toNat f,0) else ([],2)) else ([],1)
def iCD_p (t:List (List Int)) (m:Int) (f:List (List Int)):Post:=⟨roomR t∧roomR f,.tup [.inl (.tr [59,24,41,2] (.r4 .i64 ((cdC t m f).1))),.inl (.int .i64 ((cdC t m f).2))],[]⟩
def iCD_ct:List AD→Option Post
  | [.agg [.rows .i64 (t)],.c (.int .i64 (m)),.c (.rows .i64 (f))]=>some (iCD_p t m f)
  | _=>none
def iCD_ann (t:List (List Int)) (m:Int) (f:List (List Int)):Nat→Option Ann
  | 0=>some (Ann.mk ((Nat)) (fun i=>⟨[(1,.c (.int .i64 (m))),(8,.c (.own (28))),(29,.c (.ro (.rows .i64 (f)))),(30,.c (.int .i64 ((f.length:Int)))),(31,.c (.int .i64 ((i:Int))))],[(28,some (.tr 0 [59,24,41,2] (.r4 .i64 ((con4 m.toNat f).take i++List.replicate (f.length - i) []))))]⟩) (fun i=>i≤f.length∧cycB t=true∧matB (t.length:Int) m f=true) (fun i=>f.length - i) (fun i=>fun b_=>match b_ with | 2=>some (Ann.mk ((Nat)) (fun j=>⟨[(1,.c (.int .i64 (m))),(8,.c (.own (28))),(9,.c (.int .i64 ((i:Int)))),(29,.c (.ro (.rows .i64 (f)))),(30,.c (.int .i64 ((f.length:Int)))),(31,.c (.int .i64 ((i:Int)))),(42,.c (.ro (.ints .i64 (f.getD i [])))),(43,.c (.int .i64 (((f.getD i []).length:Int)))),(44,.c (.int .i64 ((j:Int))))],[(28,some (.tr 0 [59,24,41,2] (.r4 .i64 ((con4 m.toNat f).take i++((conR m.toNat (f.getD i [])).take j++List.replicate ((f.getD i []).length - j) [])::List.replicate (f.length - (i+1)) []))))]⟩) (fun j=>i<f.length∧j≤(f.getD i []).length) (fun j=>(f.getD i []).length - j) (fun j=>fun b_=>match b_ with | 4=>some (Ann.mk ((Nat)) (fun s=>⟨[(1,.c (.int .i64 (m))),(8,.c (.own (28))),(9,.c (.int .i64 ((i:Int)))),(11,.c (.int .i64 ((j:Int)))),(12,.c (.int .i64 ((f.getD i []).getD j 0))),(29,.c (.ro (.rows .i64 (f)))),(30,.c (.int .i64 ((f.length:Int)))),(31,.c (.int .i64 ((i:Int)))),(42,.c (.ro (.ints .i64 (f.getD i [])))),(43,.c (.int .i64 (((f.getD i []).length:Int)))),(44,.c (.int .i64 ((j:Int)))),(64,.c (.int .i64 ((m.toNat:Int)))),(65,.c (.int .i64 ((s:Int))))],[(28,some (.tr 0 [59,24,41,2] (.r4 .i64 ((con4 m.toNat f).take i++((conR m.toNat (f.getD i [])).take j++(List.replicate s (conP m.toNat ((f.getD i []).getD j 0))++List.replicate (m.toNat - s) [])::List.replicate ((f.getD i []).length - (j+1)) [])::List.replicate (f.length - (i+1)) []))))]⟩) (fun s=>j<(f.getD i []).length∧s≤m.toNat) (fun s=>m.toNat - s) (fun s=>fun b_=>match b_ with | 6=>some (Ann.mk ((Nat)) (fun u=>⟨[(1,.c (.int .i64 (m))),(8,.c (.own (28))),(9,.c (.int .i64 ((i:Int)))),(11,.c (.int .i64 ((j:Int)))),(12,.c (.int .i64 ((f.getD i []).getD j 0))),(13,.c (.int .i64 ((s:Int)))),(14,.c (.own (69))),(29,.c (.ro (.rows .i64 (f)))),(30,.c (.int .i64 ((f.length:Int)))),(31,.c (.int .i64 ((i:Int)))),(42,.c (.ro (.ints .i64 (f.getD i [])))),(43,.c (.int .i64 (((f.getD i []).length:Int)))),(44,.c (.int .i64 ((j:Int)))),(64,.c (.int .i64 ((m.toNat:Int)))),(65,.c (.int .i64 ((s:Int)))),(71,.c (.int .i64 ((m.toNat:Int)))),(72,.c (.int .i64 ((u:Int))))],[(28,some (.tr 0 [59,24,41,2] (.r4 .i64 ((con4 m.toNat f).take i++((conR m.toNat (f.getD i [])).take j++(List.replicate s (conP m.toNat ((f.getD i []).getD j 0))++List.replicate (m.toNat - s) [])::List.replicate ((f.getD i []).length - (j+1)) [])::List.replicate (f.length - (i+1)) [])))),(69,some (.ints 2 .i64 ((conP m.toNat ((f.getD i []).getD j 0)).take u++List.replicate (m.toNat - u) 0)))]⟩) (fun u=>s<m.toNat∧u≤m.toNat) (fun u=>m.toNat - u) (fun _=>noAnn)) | _=>none)) | _=>none)) | _=>none))
  | _=>none
def iCD_G:List (Nat×Ctr):=[(16,⟨[],IsCycleSet_ct⟩),(35,⟨[],isMatrix_ct⟩)]
def iCD_c1 (m:Int) (f:List (List Int)) (x0:Nat) (x1:Nat) (x2:Nat):=(List.take x0 (conR (m.toNat) (f.getD x1 []))++(List.replicate x2 (conP (m.toNat) ((List.getD f x1 []).getD x0 (0:Int)))++List.replicate (m.toNat - x2) ([]:List Int))::List.replicate ((f.getD x1 []).length - (x0+(1:Nat))) ([]:List (List Int)))
def iCD_c2 (m:Int) (f:List (List Int)) (x0:Nat) (x1:Nat):=(List.take x0 (con4 (m.toNat) f)++(List.take x1 (conR (m.toNat) (f.getD x0 []))++List.replicate ((f.getD x0 []).length - x1) ([]:List (List Int)))::List.replicate (f.length - (x0+(1:Nat))) ([]:List (List (List Int))))
def iCD_c3 (m:Int) (f:List (List Int)) (x0:Nat) (x1:Nat) (x2:Nat):=(List.take x0 (con4 (m.toNat) f)++(iCD_c1 m f x1 x0 x2)::List.replicate (f.length - (x0+(1:Nat))) ([]:List (List (List Int))))
def iCD_c4 (m:Int) (f:List (List Int)) (x0:Nat) (x1:Nat):=(List.set ((iCD_c2 m f x0 x1).getD ((↑x0:Int).toNat) ([]:List (List (List Int)))) ((↑x1:Int).toNat) (List.replicate (m.toNat) ([]:List Int)))
def iCD_V (t:List (List Int)) (m:Int) (f:List (List Int)):Prop :=
 (((roomR t)∧True)∧(BrP (!cycB t) (((FC.len (FC.r4 IntKind.i64 ((cdC t m f).1))=(0:Nat))∧(((1:Int)=(cdC t m f).2)∧True))∧True) (((roomR f)∧True)∧(BrP (!matB (↑(t.length):Int) m f) (((FC.len (FC.r4 IntKind.i64 ((cdC t m f).1))=(0:Nat))∧(((2:Int)=(cdC t m f).2)∧True))∧True) ((((0:Int)≤(↑(f.length):Int))∧(((↑(f.length):Int)≤(↑(f.length):Int))∧(room ((↑(f.length):Int).toNat))))∧((∃x0:Nat,(((x0≤f.length)∧((cycB t=true)∧(matB (↑(t.length):Int) m f=true)))∧((m=m)∧((f=f)∧(((↑(f.length):Int)=(↑(f.length):Int))∧(((0:Int)=(↑x0:Int))∧(List.replicate ((↑(f.length):Int).toNat) ([]:List (List (List Int)))=List.take x0 (con4 (m.toNat) f)++List.replicate (f.length - x0) ([]:List (List (List Int))))))))))∧(∀x1:Nat,(((x1≤f.length)∧((cycB t=true)∧(matB (↑(t.length):Int) m f=true)))→(BrP (decide ((↑x1:Int)<(↑(f.length):Int))) ((inB (↑x1:Int) (f.length))∧((((0:Int)≤(↑((f.getD ((↑x1:Int).toNat) []).length):Int))∧(((↑((f.getD ((↑x1:Int).toNat) []).length):Int)≤(↑((f.getD ((↑x1:Int).toNat) []).length):Int))∧(room ((↑((f.getD ((↑x1:Int).toNat) []).length):Int).toNat))))∧((inB (↑x1:Int) (FC.len (FC.r4 IntKind.i64 (List.take x1 (con4 (m.toNat) f)++List.replicate (f.length - x1) ([]:List (List (List Int)))))))∧((∃x2:Nat,(((x1<f.length)∧(x2≤(f.getD x1 []).length))∧((m=m)∧(((↑x1:Int)=(↑x1:Int))∧((f=f)∧(((↑(f.length):Int)=(↑(f.length):Int))∧(((↑x1:Int)=(↑x1:Int))∧((f.getD ((↑x1:Int).toNat) []=f.getD x1 []) ∧
 (((↑((f.getD ((↑x1:Int).toNat) []).length):Int)=(↑((f.getD x1 []).length):Int))∧(((0:Int)=(↑x2:Int))∧(List.set (List.take x1 (con4 (m.toNat) f)++List.replicate (f.length - x1) ([]:List (List (List Int)))) ((↑x1:Int).toNat) (List.replicate ((↑((f.getD ((↑x1:Int).toNat) []).length):Int).toNat) ([]:List (List Int)))=List.take x1 (con4 (m.toNat) f)++(List.take x2 (conR (m.toNat) (f.getD x1 []))++List.replicate ((f.getD x1 []).length - x2) ([]:List (List Int)))::List.replicate (f.length - (x1+(1:Nat))) ([]:List (List (List Int))))))))))))))∧(∀x3:Nat,(((x1<f.length)∧(x3≤(f.getD x1 []).length))→(BrP (decide ((↑x3:Int)<(↑((f.getD x1 []).length):Int))) ((inB (↑x3:Int) ((f.getD x1 []).length))∧((inB (↑x1:Int) (FC.len (FC.r4 IntKind.i64 (iCD_c2 m f x1 x3))))∧((((0:Int)≤m)∧((m≤m)∧(room (m.toNat))))∧((inB (↑x3:Int) (FC.len (FC.r3 IntKind.i64 ((iCD_c2 m f x1 x3).getD ((↑x1:Int).toNat) ([]:List (List (List Int)))))))∧((inB (↑x1:Int) (FC.len (FC.r4 IntKind.i64 (List.set (iCD_c2 m f x1 x3) ((↑x1:Int).toNat) (iCD_c4 m f x1 x3)))))∧((inB (↑x3:Int) (FC.len (FC.r3 IntKind.i64 ((List.set (iCD_c2 m f x1 x3) ((↑x1:Int).toNat) (iCD_c4 m f x1 x3)).getD ((↑x1:Int).toNat) ([]:List (List (List Int)))))))∧((∃x4:Nat,(((x3<(f.getD x1 []).length)∧(x4≤m.toNat))∧((m=m)∧(((↑x1:Int)=(↑x1:Int))∧(((↑x3:Int)=(↑x3:Int))∧(((List.getD f x1 []).getD ((↑x3:Int).toNat) (0:Int)=(List.getD f x1 []).getD x3 (0:Int))∧((f=f) ∧
 (((↑(f.length):Int)=(↑(f.length):Int))∧(((↑x1:Int)=(↑x1:Int))∧((f.getD x1 []=f.getD x1 [])∧(((↑((f.getD x1 []).length):Int)=(↑((f.getD x1 []).length):Int))∧(((↑x3:Int)=(↑x3:Int))∧(((↑(FC.len (FC.rows IntKind.i64 ((List.getD (List.set (iCD_c2 m f x1 x3) ((↑x1:Int).toNat) (iCD_c4 m f x1 x3)) ((↑x1:Int).toNat) ([]:List (List (List Int)))).getD ((↑x3:Int).toNat) ([]:List (List Int))))):Int)=(↑(m.toNat):Int))∧(((0:Int)=(↑x4:Int))∧(List.set (iCD_c2 m f x1 x3) ((↑x1:Int).toNat) (iCD_c4 m f x1 x3)=List.take x1 (con4 (m.toNat) f)++(iCD_c1 m f x3 x1 x4)::List.replicate (f.length - (x1+(1:Nat))) ([]:List (List (List Int))))))))))))))))))∧(∀x5:Nat,(((x3<(f.getD x1 []).length)∧(x5≤m.toNat))→(BrP (decide ((↑x5:Int)<(↑(m.toNat):Int))) ((((0:Int)≤m)∧((m≤m)∧(room (m.toNat))))∧((∃x6:Nat,(((x5<m.toNat)∧(x6≤m.toNat))∧((m=m)∧(((↑x1:Int)=(↑x1:Int))∧(((↑x3:Int)=(↑x3:Int))∧(((List.getD f x1 []).getD x3 (0:Int)=(List.getD f x1 []).getD x3 (0:Int))∧(((↑x5:Int)=(↑x5:Int))∧((f=f)∧(((↑(f.length):Int)=(↑(f.length):Int))∧(((↑x1:Int)=(↑x1:Int))∧((f.getD x1 []=f.getD x1 [])∧(((↑((f.getD x1 []).length):Int)=(↑((f.getD x1 []).length):Int))∧(((↑x3:Int)=(↑x3:Int))∧(((↑(m.toNat):Int)=(↑(m.toNat):Int))∧(((↑x5:Int)=(↑x5:Int))∧(((↑((List.replicate (m.toNat) (0:Int)).length):Int)=(↑(m.toNat):Int))∧(((0:Int)=(↑x6:Int)) ∧
 ((List.take x1 (con4 (m.toNat) f)++(iCD_c1 m f x3 x1 x5)::List.replicate (f.length - (x1+(1:Nat))) ([]:List (List (List Int)))=List.take x1 (con4 (m.toNat) f)++(iCD_c1 m f x3 x1 x5)::List.replicate (f.length - (x1+(1:Nat))) ([]:List (List (List Int))))∧(List.replicate (m.toNat) (0:Int)=List.take x6 (conP (m.toNat) ((List.getD f x1 []).getD x3 (0:Int)))++List.replicate (m.toNat - x6) (0:Int))))))))))))))))))))∧(∀x7:Nat,(((x5<m.toNat)∧(x7≤m.toNat))→(BrP (decide ((↑x7:Int)<(↑(m.toNat):Int))) ((InR ((↑x7:Int)+(List.getD f x1 []).getD x3 (0:Int)))∧((m≠(0:Int))∧((inB (↑x7:Int) ((List.take x7 (conP (m.toNat) ((List.getD f x1 []).getD x3 (0:Int)))++List.replicate (m.toNat - x7) (0:Int)).length))∧((InR ((↑x7:Int)+(1:Int)))∧(∃x8:Nat,(((x5<m.toNat)∧(x8≤m.toNat))∧((m.toNat - x8<m.toNat - x7)∧((m=m)∧(((↑x1:Int)=(↑x1:Int))∧(((↑x3:Int)=(↑x3:Int))∧(((List.getD f x1 []).getD x3 (0:Int)=(List.getD f x1 []).getD x3 (0:Int))∧(((↑x5:Int)=(↑x5:Int))∧((f=f)∧(((↑(f.length):Int)=(↑(f.length):Int))∧(((↑x1:Int)=(↑x1:Int))∧((f.getD x1 []=f.getD x1 [])∧(((↑((f.getD x1 []).length):Int)=(↑((f.getD x1 []).length):Int))∧(((↑x3:Int)=(↑x3:Int))∧(((↑(m.toNat):Int)=(↑(m.toNat):Int))∧(((↑x5:Int)=(↑x5:Int))∧(((↑(m.toNat):Int)=(↑(m.toNat):Int))∧(((↑x7:Int)+(1:Int)=(↑x8:Int)) ∧
 ((List.take x1 (con4 (m.toNat) f)++(iCD_c1 m f x3 x1 x5)::List.replicate (f.length - (x1+(1:Nat))) ([]:List (List (List Int)))=List.take x1 (con4 (m.toNat) f)++(iCD_c1 m f x3 x1 x5)::List.replicate (f.length - (x1+(1:Nat))) ([]:List (List (List Int))))∧(List.set (List.take x7 (conP (m.toNat) ((List.getD f x1 []).getD x3 (0:Int)))++List.replicate (m.toNat - x7) (0:Int)) ((↑x7:Int).toNat) (Int.tmod ((↑x7:Int)+(List.getD f x1 []).getD x3 (0:Int)) m)=List.take x8 (conP (m.toNat) ((List.getD f x1 []).getD x3 (0:Int)))++List.replicate (m.toNat - x8) (0:Int))))))))))))))))))))))))) ((inB (↑x1:Int) (FC.len (FC.r4 IntKind.i64 (iCD_c3 m f x1 x3 x5))))∧((inB (↑x3:Int) (FC.len (FC.r3 IntKind.i64 ((iCD_c3 m f x1 x3 x5).getD ((↑x1:Int).toNat) ([]:List (List (List Int)))))))∧((inB (↑x5:Int) (FC.len (FC.rows IntKind.i64 ((List.getD (iCD_c3 m f x1 x3 x5) ((↑x1:Int).toNat) ([]:List (List (List Int)))).getD ((↑x3:Int).toNat) ([]:List (List Int))))))∧((InR ((↑x5:Int)+(1:Int)))∧(∃x9:Nat,(((x3<(f.getD x1 []).length)∧(x9≤m.toNat))∧((m.toNat - x9<m.toNat - x5)∧((m=m)∧(((↑x1:Int)=(↑x1:Int))∧(((↑x3:Int)=(↑x3:Int))∧(((List.getD f x1 []).getD x3 (0:Int)=(List.getD f x1 []).getD x3 (0:Int))∧((f=f)∧(((↑(f.length):Int)=(↑(f.length):Int))∧(((↑x1:Int)=(↑x1:Int))∧((f.getD x1 []=f.getD x1 [])∧(((↑((f.getD x1 []).length):Int)=(↑((f.getD x1 []).length):Int))∧(((↑x3:Int)=(↑x3:Int))∧(((↑(m.toNat):Int)=(↑(m.toNat):Int)) ∧
 (((↑x5:Int)+(1:Int)=(↑x9:Int))∧(List.set (iCD_c3 m f x1 x3 x5) ((↑x1:Int).toNat) (List.set ((iCD_c3 m f x1 x3 x5).getD ((↑x1:Int).toNat) ([]:List (List (List Int)))) ((↑x3:Int).toNat) (List.set ((List.getD (iCD_c3 m f x1 x3 x5) ((↑x1:Int).toNat) ([]:List (List (List Int)))).getD ((↑x3:Int).toNat) ([]:List (List Int))) ((↑x5:Int).toNat) (List.take x7 (conP (m.toNat) ((List.getD f x1 []).getD x3 (0:Int)))++List.replicate (m.toNat - x7) (0:Int))))=List.take x1 (con4 (m.toNat) f)++(iCD_c1 m f x3 x1 x9)::List.replicate (f.length - (x1+(1:Nat))) ([]:List (List (List Int)))))))))))))))))))))))))))) ((InR ((↑x3:Int)+(1:Int)))∧(∃x10:Nat,(((x1<f.length)∧(x10≤(f.getD x1 []).length))∧(((f.getD x1 []).length - x10<(f.getD x1 []).length - x3)∧((m=m)∧(((↑x1:Int)=(↑x1:Int))∧((f=f)∧(((↑(f.length):Int)=(↑(f.length):Int))∧(((↑x1:Int)=(↑x1:Int))∧((f.getD x1 []=f.getD x1 [])∧(((↑((f.getD x1 []).length):Int)=(↑((f.getD x1 []).length):Int))∧(((↑x3:Int)+(1:Int)=(↑x10:Int))∧(List.take x1 (con4 (m.toNat) f)++(iCD_c1 m f x3 x1 x5)::List.replicate (f.length - (x1+(1:Nat))) ([]:List (List (List Int)))=List.take x1 (con4 (m.toNat) f)++(List.take x10 (conR (m.toNat) (f.getD x1 []))++List.replicate ((f.getD x1 []).length - x10) ([]:List (List Int)))::List.replicate (f.length - (x1+(1:Nat))) ([]:List (List (List Int)))))))))))))))))))))))))) ((InR ((↑x1:Int)+(1:Int)))∧(∃x11:Nat,(((x11≤f.length)∧((cycB t=true) ∧
 (matB (↑(t.length):Int) m f=true)))∧((f.length - x11<f.length - x1)∧((m=m)∧((f=f)∧(((↑(f.length):Int)=(↑(f.length):Int))∧(((↑x1:Int)+(1:Int)=(↑x11:Int))∧(List.take x1 (con4 (m.toNat) f)++(List.take x3 (conR (m.toNat) (f.getD x1 []))++List.replicate ((f.getD x1 []).length - x3) ([]:List (List Int)))::List.replicate (f.length - (x1+(1:Nat))) ([]:List (List (List Int)))=List.take x11 (con4 (m.toNat) f)++List.replicate (f.length - x11) ([]:List (List (List Int))))))))))))))))))) (((List.take x1 (con4 (m.toNat) f)++List.replicate (f.length - x1) ([]:List (List (List Int)))=(cdC t m f).1)∧(((0:Int)=(cdC t m f).2)∧True))∧True))))))))))
theorem iCD_vc (t:List (List Int)) (m:Int) (f:List (List Int)):runF Try.prog (gam iCD_G) noWr (iCD_ann t m f) Try.f14 (bodyOf Try.f14) [] [.agg [.rows .i64 (t)],.c (.int .i64 (m)),.c (.rows .i64 (f))] (iCD_p t m f)=iCD_V t m f:=by kernel_rfl
theorem iCD_ok (t:List (List Int)) (m:Int) (f:List (List Int)) (hpre:(iCD_p t m f).pre):iCD_V t m f:=by
  simp only [iCD_p,iCD_V,iCD_c1,iCD_c2,iCD_c3,iCD_c4,BrP_iff,true_and,and_true,decide_eq_true_eq,decide_eq_false_iff_not,bne_iff_ne,beq_iff_eq,bne_eq_false_iff_eq,beq_eq_false_iff_ne,Bool.not_eq_true,Bool.not_eq_false,Bool.not_true,Bool.not_false,Bool.not_eq_eq_eq_not,Int.toNat_natCast,List.length_append,List.length_take,List.length_replicate,List.length_set,List.length_map,List.length_drop,List.length_nil,List.length_cons,markL_length,inB,InR,room,bdsOk,FC.len] at hpre ⊢
  obtain ⟨h1,h2⟩:=hpre
  refine ⟨h1,fun h=>by simp [cdC,h],fun hc=>⟨h2,fun h=>by simp [cdC,hc,h],fun hm=>?_⟩⟩
  obtain ⟨m1,m2,m3,m4⟩:=matB_of hm
  have tb:=tabB_of (cycB_tab hc)
  have eD:(con4 m.toNat f).length=f.length:=List.length_map _
  have em:((m.toNat:Nat):Int)=m:=by omega
  refine ⟨⟨by omega,by omega,by omega⟩,⟨0,⟨by omega,hc,hm⟩,rfl,by simp⟩,fun i ⟨hi,_,_⟩=>?_⟩
  have lD:((con4 m.toNat f).take i).length=i:=by rw [List.length_take];omega
  refine ⟨fun hl=>?_,fun hl=>?_⟩
  · obtain ⟨r1,r2⟩:=m4 i (by omega)
    have hD:(con4 m.toNat f).getD i []=conR m.toNat (f.getD i []):=getD_map _ _ [] _ i (by omega)
    have hT:=take_snoc (con4 m.toNat f) [] i (by omega)
    rw [hD] at hT
    generalize f.getD i []=r at *
    have eR:(conR m.toNat r).length=r.length:=List.length_map _
    have AG:∀v R,((con4 m.toNat f).take i++v::R).getD i []=v:=fun v R=>at_getD _ _ _ _ _ lD
    have AS:∀v v' R,((con4 m.toNat f).take i++v::R).set i v'=(con4 m.toNat f).take i++v'::R:=fun v v' R=>at_set _ _ _ _ _ lD
    have S0:f.length - i=(f.length - (i+1))+1:=by omega
    rw [S0,List.replicate_succ,AS]
    refine ⟨by omega,⟨by omega,by omega,by omega⟩,by omega,⟨0,⟨by omega,by omega⟩,rfl,by simp⟩,fun j ⟨_,hj⟩=>?_⟩
    simp only [AG,AS,List.length_append,List.length_take,List.length_replicate,List.length_set]
    have lR:((conR m.toNat r).take j).length=j:=by rw [List.length_take];omega
    refine ⟨fun hl2=>?_,fun hl2=>?_⟩
    · have b0:=r2 j (by omega)
      have hR:(conR m.toNat r).getD j []=conS m.toNat (r.getD j 0):=getD_map _ _ 0 _ j (by omega)
      have hT2:=take_snoc (conR m.toNat r) [] j (by omega)
      rw [hR] at hT2
      generalize r.getD j 0=b at *
      have eP:(conP m.toNat b).length=m.toNat:=tab_length _ _
      have BG:∀v R,((conR m.toNat r).take j++v::R).getD j []=v:=fun v R=>at_getD _ _ _ _ _ lR
      have BS:∀v v' R,((conR m.toNat r).take j++v::R).set j v'=(conR m.toNat r).take j++v'::R:=fun v v' R=>at_set _ _ _ _ _ lR
      have S1:r.length - j=(r.length - (j+1))+1:=by omega
      rw [S1,List.replicate_succ]
      simp only [BG,BS,List.length_append,List.length_take,List.length_replicate,List.length_set,List.length_cons]
      refine ⟨by omega,by omega,⟨by omega,by omega,by omega⟩,by omega,by omega,by omega,⟨0,⟨by omega,by omega⟩,trivial,rfl,by simp⟩,fun s ⟨_,hs⟩=>?_⟩
      refine ⟨fun hl3=>?_,fun hl3=>?_⟩
      · refine ⟨⟨by omega,by omega,by omega⟩,⟨0,⟨by omega,by omega⟩,rfl,by simp⟩,fun u ⟨_,hu⟩=>⟨fun hl4=>?_,fun hl4=>?_⟩⟩
        · refine ⟨by omega,by omega,by omega,by omega,u+1,⟨by omega,by omega⟩,by omega,by omega,?_⟩
          have:=fill_step (conP m.toNat b) 0 0 u (by rw [eP];omega)
          rw [eP] at this
          rw [←this]
          congr 1
          rw [conP,tab_getD _ _ _ (by omega),em]
        · have e1:(conP m.toNat b).take u=conP m.toNat b:=List.take_of_length_le (by omega)
          have e2:m.toNat - u=0:=by omega
          have S3:m.toNat - s=(m.toNat - (s+1))+1:=by omega
          refine ⟨by omega,by omega,by omega,by omega,s+1,⟨by omega,by omega⟩,by omega,by omega,?_⟩
          rw [e1,e2,S3,List.replicate_succ,at_set _ _ _ _ _ (List.length_replicate ..),List.replicate_zero,List.append_nil,List.replicate_succ',List.append_assoc]
          rfl
      · obtain rfl:s=m.toNat:=by omega
        refine ⟨by omega,j+1,⟨by omega,by omega⟩,by omega,by omega,?_⟩
        rw [Nat.sub_self,List.replicate_zero,List.append_nil,←hT2,List.append_assoc]
        rfl
    · obtain rfl:j=r.length:=by omega
      refine ⟨by omega,i+1,⟨by omega,hc,hm⟩,by omega,by omega,?_⟩
      have e1:(conR m.toNat r).take r.length=conR m.toNat r:=List.take_of_length_le (by omega)
      rw [Nat.sub_self,List.replicate_zero,List.append_nil,e1,←hT,List.append_assoc]
      rfl
  · obtain rfl:i=f.length:=by omega
    rw [Nat.sub_self,List.replicate_zero,List.append_nil,List.take_of_length_le (by omega),cdC,if_pos hc,if_pos hm]
    exact ⟨rfl,rfl⟩
theorem iCD_fits:Fits Try.prog 14 ⟨[],iCD_ct⟩:=by
  refine ffn (Γ:=gam iCD_G) (gok_cons IsCycleSet_fits (gok_cons isMatrix_fits gok_nil)) Try.func14 fun ds p h hp=>?_
  unfold iCD_ct at h
  split at h
  · cases h
    exact ⟨noWr,iCD_ann _ _ _ ,by rw [iCD_vc];exact iCD_ok _ _ _  hp⟩
  · cases h
theorem sumB_le {α:Type} (c:α→Nat) (B:Nat):∀(l:List α),(∀x∈l,c x≤B)→sumB c l≤l.length * B
  | [],_=>by simp [sumB]
  | x::l,h=>by
    have h1:=h x (by simp)
    have h2:=sumB_le c B l fun y hy=>h y (by simp [hy])
    simp only [sumB,List.map_cons,List.sum_cons,List.length_cons] at h2 ⊢
    rw [Nat.succ_mul]
    omega
theorem con4_all {m:Nat} {f:List (List Int)} (hm:m≤12) (hf:f.length≤12) (hr:∀r∈f,r.length≤12):room4 (con4 m f)∧fit4 (con4 m f)∧tot4 (con4 m f)≤1048576:=by
  have P:∀b,(conP m b).length=m:=fun b=>tab_length _ _
  have S:∀b,(conS m b).length=m:=fun b=>List.length_replicate ..
  have SR:∀b,∀q∈conS m b,q.length=m:=fun b q hq=>by rw [List.eq_of_mem_replicate hq];exact P b
  have R:∀r,(conR m r).length=r.length:=fun r=>List.length_map _
  have sS:∀b,sumL (conS m b)≤144:=fun b=>by
    have:=sumB_le List.length 12 (conS m b) fun q hq=>by rw [SR b q hq];exact hm
    have e:sumL (conS m b)=sumB List.length (conS m b):=rfl
    rw [e]
    rw [S] at this
    exact Nat.le_trans this (Nat.le_trans (Nat.mul_le_mul_right 12 hm) (by omega))
  have sR:∀r:List Int,r.length≤12→tot3 (conR m r)≤1728:=fun r hr=>by
    have:=sumB_le sumL 144 (conR m r) fun q hq=>by
      obtain ⟨b,_,rfl⟩:=List.mem_map.1 hq
      exact sS b
    rw [R] at this
    exact Nat.le_trans this (Nat.le_trans (Nat.mul_le_mul_right 144 hr) (by omega))
  have s4:tot4 (con4 m f)≤20736:=by
    have:=sumB_le tot3 1728 (con4 m f) fun q hq=>by
      obtain ⟨r,h1,rfl⟩:=List.mem_map.1 hq
      exact sR r (hr r h1)
    rw [show (con4 m f).length=f.length from List.length_map _] at this
    exact Nat.le_trans this (Nat.le_trans (Nat.mul_le_mul_right 1728 hf) (by omega))
  refine ⟨⟨by rw [con4,List.length_map];omega,fun q hq=>?_⟩,⟨by rw [con4,List.length_map];omega,fun q hq=>?_⟩,by omega⟩
  · obtain ⟨r,h1,rfl⟩:=List.mem_map.1 hq
    have:=hr r h1
    refine ⟨by rw [R];omega,fun y hy=>?_⟩
    obtain ⟨b,_,rfl⟩:=List.mem_map.1 hy
    exact ⟨by rw [S];omega,fun z hz=>by rw [SR b z hz];omega⟩
  · obtain ⟨r,h1,rfl⟩:=List.mem_map.1 hq
    have:=hr r h1
    refine ⟨by rw [R];omega,fun y hy=>?_⟩
    obtain ⟨b,_,rfl⟩:=List.mem_map.1 hy
    rw [S];omega
theorem cdC_all (t:List (List Int)) (m:Int) (f:List (List Int)):room4 (cdC t m f).1∧fit4 (cdC t m f).1∧tot4 (cdC t m f).1≤1048576:=by
  have nil:room4 []∧fit4 []∧tot4 []≤1048576:=⟨⟨by simp,by simp⟩,⟨by simp,by simp⟩,by simp [tot4,sumB]⟩
  unfold cdC
  split
  · rename_i hc
    split
    · rename_i hm
      obtain ⟨m1,m2,m3,m4⟩:=matB_of hm
      have tb:=tabB_of (cycB_tab hc)
      refine con4_all (by omega) (by omega) fun r hr=>?_
      obtain ⟨i,hi,rfl⟩:=List.getElem_of_mem hr
      have:=(m4 i hi).1
      rw [getD_lt f [] i hi] at this
      omega
    · exact nil
  · exact nil
end Go.Sx
