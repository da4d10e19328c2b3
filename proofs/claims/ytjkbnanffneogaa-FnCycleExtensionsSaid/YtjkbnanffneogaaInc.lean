/- Ext Inc -/
import Derived.Test.YtjkbnanffneogaaRackC
import Derived.Test.YtjkbnanffneogaaLists
section
open Go Go.Proofs
namespace Go.Sx
set_option linter.unusedSimpArgs false
set_option linter.unusedVariables false
theorem div_in {a n m:Int} (hm:1≤m) (h0:0≤a) (h:a<n * m):0≤a.tdiv m∧a.tdiv m<n∧0≤a.tmod m∧a.tmod m≤m - 1:=by
  have e1:a.tdiv m=a / m:=Int.tdiv_eq_ediv_of_nonneg h0
  rw [e1]
  have q:=tmod_in h0 hm
  exact ⟨Int.ediv_nonneg h0 (by omega),Int.ediv_lt_of_lt_mul (by omega) h,q.1,q.2⟩
def exI (t:List (List Int)) (m:Int) (f:List (List Int)) (x y:Int):Int:=(t.getD (x.tdiv m).toNat []).getD (y.tdiv m).toNat 0 * m+(y.tmod m+(f.getD (x.tdiv m).toNat []).getD (y.tdiv m).toNat 0).tmod m
def exR (t:List (List Int)) (m:Int) (f:List (List Int)):List (List Int):=tabR ((t.length:Int) * m).toNat fun x y=>exI t m f (x:Int) (y:Int)
theorem ex_in {t:List (List Int)} {m:Int} {f:List (List Int)} (h1:tabB t=true) (h2:matB (t.length:Int) m f=true) {x y:Int} (hx:0≤x) (hx2:x<(t.length:Int) * m) (hy:0≤y) (hy2:y<(t.length:Int) * m) :
    1≤m∧m≤12∧(f.length:Int)=(t.length:Int)∧0≤x.tdiv m∧x.tdiv m<(t.length:Int)∧0≤y.tdiv m∧y.tdiv m<(t.length:Int)∧0≤y.tmod m∧y.tmod m≤m - 1 ∧
    (t.getD (x.tdiv m).toNat []).length=t.length∧(f.getD (x.tdiv m).toNat []).length=t.length ∧
    0≤(f.getD (x.tdiv m).toNat []).getD (y.tdiv m).toNat 0∧(f.getD (x.tdiv m).toNat []).getD (y.tdiv m).toNat 0≤m - 1 ∧
    0≤(t.getD (x.tdiv m).toNat []).getD (y.tdiv m).toNat 0 * m∧(t.getD (x.tdiv m).toNat []).getD (y.tdiv m).toNat 0 * m≤144 ∧
    0≤(y.tmod m+(f.getD (x.tdiv m).toNat []).getD (y.tdiv m).toNat 0).tmod m∧(y.tmod m+(f.getD (x.tdiv m).toNat []).getD (y.tdiv m).toNat 0).tmod m≤m - 1:=by
  obtain ⟨n1,n2,ht⟩:=tabB_of h1
  obtain ⟨m1,m2,m3,hf⟩:=matB_of h2
  obtain ⟨a1,a2,_,_⟩:=div_in m1 hx hx2
  obtain ⟨b1,b2,b3,b4⟩:=div_in m1 hy hy2
  have c:=ht (x.tdiv m).toNat (by omega)
  have d:=c.2 (y.tdiv m).toNat (by omega)
  have e:=hf (x.tdiv m).toNat (by omega)
  have g:=e.2 (y.tdiv m).toNat (by omega)
  have p1:=Int.mul_nonneg d.1 (show 0≤m by omega)
  have p2:=Int.mul_le_mul (show (t.getD (x.tdiv m).toNat []).getD (y.tdiv m).toNat 0≤12 by omega) m2 (by omega) (by omega)
  have q:=tmod_in (a:=y.tmod m+(f.getD (x.tdiv m).toNat []).getD (y.tdiv m).toNat 0) (by omega) m1
  exact ⟨m1,m2,m3,a1,a2,b1,b2,b3,b4,c.1,by omega,g.1,g.2,p1,by omega,q.1,q.2⟩
theorem nm_in {t:List (List Int)} {m:Int} {f:List (List Int)} (h1:tabB t=true) (h2:matB (t.length:Int) m f=true):0≤(t.length:Int) * m∧(t.length:Int) * m≤144:=by
  have ht:=tabB_of h1
  obtain ⟨m1,m2,_⟩:=matB_of h2
  have p1:=Int.mul_nonneg (show 0≤(t.length:Int) by omega) (show 0≤m by omega)
  have p2:=Int.mul_le_mul (show (t.length:Int)≤12 by omega) m2 (by omega) (by omega)
  omega
def extension1_p (x:Int) (y:Int) (t:List (List Int)) (b:Int) (m:Int) (f:List (List Int)):Post:=⟨tabB t=true∧matB (t.length:Int) m f=true∧b=m∧0≤x∧x<(t.length:Int) * m∧0≤y∧y<(t.length:Int) * m,.c (.int .i64 (exI t m f x y)),[]⟩
def extension1_ct:List AD→Option Post
  | [.c (.int .i64 (x)),.c (.int .i64 (y)),.box [.rows .i64 (t)],.box [.int .i64 (b)],.box [.int .i64 (m)],.box [.rows .i64 (f)]]=>some (extension1_p x y t b m f)
  | _=>none
def extension1_G:List (Nat×Ctr):=[]
def extension1_V (x:Int) (y:Int) (t:List (List Int)) (b:Int) (m:Int) (f:List (List Int)):Prop :=
 (((b≠(0:Int))∧(InR (Int.tdiv x b)))∧((inB (Int.tdiv x b) (t.length))∧(((b≠(0:Int))∧(InR (Int.tdiv y b)))∧((inB (Int.tdiv y b) ((t.getD ((Int.tdiv x b).toNat) []).length))∧((InR ((List.getD t ((Int.tdiv x b).toNat) []).getD ((Int.tdiv y b).toNat) (0:Int) * m))∧((b≠(0:Int))∧(((b≠(0:Int))∧(InR (Int.tdiv x b)))∧((inB (Int.tdiv x b) (f.length))∧(((b≠(0:Int))∧(InR (Int.tdiv y b)))∧((inB (Int.tdiv y b) ((f.getD ((Int.tdiv x b).toNat) []).length))∧((InR (Int.tmod y b+(List.getD f ((Int.tdiv x b).toNat) []).getD ((Int.tdiv y b).toNat) (0:Int)))∧((m≠(0:Int))∧((InR ((List.getD t ((Int.tdiv x b).toNat) []).getD ((Int.tdiv y b).toNat) (0:Int) * m+Int.tmod (Int.tmod y b+(List.getD f ((Int.tdiv x b).toNat) []).getD ((Int.tdiv y b).toNat) (0:Int)) m))∧(((List.getD t ((Int.tdiv x b).toNat) []).getD ((Int.tdiv y b).toNat) (0:Int) * m+Int.tmod (Int.tmod y b+(List.getD f ((Int.tdiv x b).toNat) []).getD ((Int.tdiv y b).toNat) (0:Int)) m=exI t m f x y)∧True))))))))))))))
theorem extension1_vc (x:Int) (y:Int) (t:List (List Int)) (b:Int) (m:Int) (f:List (List Int)):runF Try.prog (gam extension1_G) noWr noAnn Try.f75 (bodyOf Try.f75) [] [.c (.int .i64 (x)),.c (.int .i64 (y)),.box [.rows .i64 (t)],.box [.int .i64 (b)],.box [.int .i64 (m)],.box [.rows .i64 (f)]] (extension1_p x y t b m f)=extension1_V x y t b m f:=by kernel_rfl
theorem extension1_ok (x:Int) (y:Int) (t:List (List Int)) (b:Int) (m:Int) (f:List (List Int)) (hpre:(extension1_p x y t b m f).pre):extension1_V x y t b m f:=by
  simp only [extension1_p,extension1_V,BrP_iff,u1,u2,u3,u4,u5,u6,u7,u8,u9,v1,v2,v3,v4,v5,v6,v7,v8,v9,w1,w2,w3,w4,markL_length,inB,InR,room,bdsOk] at hpre ⊢
  obtain ⟨h1,h2,rfl,hx,hx2,hy,hy2⟩:=hpre
  have q:=ex_in h1 h2 hx hx2 hy hy2
  have ht:=tabB_of h1
  exact ⟨by omega,by omega,by omega,by omega,by omega,by omega,by omega,by omega,by omega,by omega,by omega,by omega,by omega,rfl⟩
theorem extension1_fits:Fits Try.prog 75 ⟨[],extension1_ct⟩:=by
  refine ffn (Γ:=gam extension1_G) gok_nil Try.func75 fun ds p h hp=>?_
  unfold extension1_ct at h
  split at h
  · cases h
    exact ⟨noWr,noAnn,by rw [extension1_vc];exact extension1_ok _ _ _ _ _ _  hp⟩
  · cases h
def extension_p (t:List (List Int)) (m:Int) (f:List (List Int)):Post:=⟨tabB t=true∧matB (t.length:Int) m f=true,.c (.rows 41 2 .i64 (exR t m f)),[]⟩
def extension_ct:List AD→Option Post
  | [.c (.rows .i64 (t)),.c (.int .i64 (m)),.c (.rows .i64 (f))]=>some (extension_p t m f)
  | _=>none
def extension_G:List (Nat×Ctr):=[(44,⟨[],tableBy_ct⟩),(75,⟨[],extension1_ct⟩)]
def extension_V (t:List (List Int)) (m:Int) (f:List (List Int)):Prop :=
 ((InR ((↑(t.length):Int) * m))∧(((((0:Int)≤(↑(t.length):Int) * m)∧(((↑(t.length):Int) * m≤(144:Int))∧(∀(x y:Int),(0:Int)≤x→x<(↑(t.length):Int) * m→(0:Int)≤y→y<(↑(t.length):Int) * m→ctQI (extension1_ct [AD.c (FC.int IntKind.i64 x),AD.c (FC.int IntKind.i64 y),AD.box [FC.rows IntKind.i64 t],AD.box [FC.int IntKind.i64 m],AD.box [FC.int IntKind.i64 m],AD.box [FC.rows IntKind.i64 f]]))))∧True)∧(((tabR (((↑(t.length):Int) * m).toNat) fun (x y:Nat)=>ctI (extension1_ct [AD.c (FC.int IntKind.i64 (↑x:Int)),AD.c (FC.int IntKind.i64 (↑y:Int)),AD.box [FC.rows IntKind.i64 t],AD.box [FC.int IntKind.i64 m],AD.box [FC.int IntKind.i64 m],AD.box [FC.rows IntKind.i64 f]]))=exR t m f)∧True)))
theorem extension_vc (t:List (List Int)) (m:Int) (f:List (List Int)):runF Try.prog (gam extension_G) noWr noAnn Try.f37 (bodyOf Try.f37) [] [.c (.rows .i64 (t)),.c (.int .i64 (m)),.c (.rows .i64 (f))] (extension_p t m f)=extension_V t m f:=by kernel_rfl
theorem extension_ok (t:List (List Int)) (m:Int) (f:List (List Int)) (hpre:(extension_p t m f).pre):extension_V t m f:=by
  simp only [extension_p,extension_V,BrP_iff,u1,u2,u3,u4,u5,u6,u7,u8,u9,v1,v2,v3,v4,v5,v6,v7,v8,v9,w1,w2,w3,w4,markL_length,inB,InR,room,bdsOk] at hpre ⊢
  obtain ⟨h1,h2⟩:=hpre
  have hb:=nm_in h1 h2
  exact ⟨by omega,⟨by omega,by omega,fun x y a b c d=>⟨h1,h2,rfl,a,b,c,d⟩⟩,tabR_ext fun x y hx hy=>rfl⟩
theorem extension_fits:Fits Try.prog 37 ⟨[],extension_ct⟩:=by
  refine ffn (Γ:=gam extension_G) (gok_cons tableBy_fits (gok_cons extension1_fits gok_nil)) Try.func37 fun ds p h hp=>?_
  unfold extension_ct at h
  split at h
  · cases h
    exact ⟨noWr,noAnn,by rw [extension_vc];exact extension_ok _ _ _  hp⟩
  · cases h
def l14Extend_p (t:List (List Int)) (m:Int) (f:List (List Int)):Post:=⟨tabB t=true∧matB (t.length:Int) m f=true,.c (.rows 41 2 .i64 (exR t m f)),[]⟩
def l14Extend_ct:List AD→Option Post
  | [.c (.rows .i64 (t)),.c (.int .i64 (m)),.c (.rows .i64 (f))]=>some (l14Extend_p t m f)
  | _=>none
def l14Extend_ann (t:List (List Int)) (m:Int) (f:List (List Int)):Nat→Option Ann
  | 0=>some (Ann.mk ((Nat)) (fun i=>⟨[(0,.c (.ro (.rows .i64 (t)))),(1,.c (.int .i64 (m))),(2,.c (.ro (.rows .i64 (f)))),(7,.c (.int .i64 ((t.length:Int)))),(8,.c (.own (16))),(9,.c (.int .i64 ((i:Int))))],[(16,some (.rows 0 41 2 .i64 ((exR t m f).take i)))]⟩) (fun i=>(i:Int)≤(t.length:Int) * m) (fun i=>((t.length:Int) * m).toNat - i) (fun i=>fun b_=>match b_ with | 2=>some (Ann.mk ((Nat)) (fun j=>⟨[(0,.c (.ro (.rows .i64 (t)))),(1,.c (.int .i64 (m))),(2,.c (.ro (.rows .i64 (f)))),(7,.c (.int .i64 ((t.length:Int)))),(8,.c (.own (16))),(9,.c (.int .i64 ((i:Int)))),(10,.c (.own (24))),(11,.c (.int .i64 ((j:Int))))],[(16,some (.rows 0 41 2 .i64 ((exR t m f).take i))),(24,some (.ints 2 .i64 ((tab ((t.length:Int) * m).toNat fun y=>exI t m f (i:Int) (y:Int)).take j)))]⟩) (fun j=>(j:Int)≤(t.length:Int) * m∧(i:Int)<(t.length:Int) * m) (fun j=>((t.length:Int) * m).toNat - j) (fun _=>noAnn)) | _=>none))
  | _=>none
def l14Extend_G:List (Nat×Ctr):=[]
def l14Extend_c1 (m:Int) (f:List (List Int)) (x0:Nat) (x1:Nat):=(Int.tmod (↑x0:Int) m+(List.getD f ((Int.tdiv (↑x1:Int) m).toNat) []).getD ((Int.tdiv (↑x0:Int) m).toNat) (0:Int))
def l14Extend_V (t:List (List Int)) (m:Int) (f:List (List Int)):Prop :=
 ((∃x0:Nat,(((↑x0:Int)≤(↑(t.length):Int) * m)∧((t=t)∧((m=m)∧((f=f)∧(((↑(t.length):Int)=(↑(t.length):Int))∧(((0:Int)=(↑x0:Int))∧(([]:List (List Int))=List.take x0 (exR t m f)))))))))∧(∀x1:Nat,(((↑x1:Int)≤(↑(t.length):Int) * m)→((InR ((↑(t.length):Int) * m))∧(BrP (decide ((↑x1:Int)<(↑(t.length):Int) * m)) ((∃x2:Nat,((((↑x2:Int)≤(↑(t.length):Int) * m)∧((↑x1:Int)<(↑(t.length):Int) * m))∧((t=t)∧((m=m)∧((f=f)∧(((↑(t.length):Int)=(↑(t.length):Int))∧(((↑x1:Int)=(↑x1:Int))∧(((0:Int)=(↑x2:Int))∧((List.take x1 (exR t m f)=List.take x1 (exR t m f))∧([]=List.take x2 (tab (((↑(t.length):Int) * m).toNat) fun (y:Nat)=>exI t m f (↑x1:Int) (↑y:Int))))))))))))∧(∀x3:Nat,((((↑x3:Int)≤(↑(t.length):Int) * m)∧((↑x1:Int)<(↑(t.length):Int) * m))→((InR ((↑(t.length):Int) * m))∧(BrP (decide ((↑x3:Int)<(↑(t.length):Int) * m)) (((m≠(0:Int))∧(InR (Int.tdiv (↑x1:Int) m)))∧(((m≠(0:Int))∧(InR (Int.tdiv (↑x3:Int) m)))∧((inB (Int.tdiv (↑x1:Int) m) (t.length))∧((inB (Int.tdiv (↑x3:Int) m) ((t.getD ((Int.tdiv (↑x1:Int) m).toNat) []).length))∧((InR ((List.getD t ((Int.tdiv (↑x1:Int) m).toNat) []).getD ((Int.tdiv (↑x3:Int) m).toNat) (0:Int) * m))∧((m≠(0:Int))∧((inB (Int.tdiv (↑x1:Int) m) (f.length))∧((inB (Int.tdiv (↑x3:Int) m) ((f.getD ((Int.tdiv (↑x1:Int) m).toNat) []).length))∧((InR (l14Extend_c1 m f x3 x1))∧((m≠(0:Int)) ∧
 ((InR ((List.getD t ((Int.tdiv (↑x1:Int) m).toNat) []).getD ((Int.tdiv (↑x3:Int) m).toNat) (0:Int) * m+Int.tmod (l14Extend_c1 m f x3 x1) m))∧((room ((List.take x3 (tab (((↑(t.length):Int) * m).toNat) fun (y:Nat)=>exI t m f (↑x1:Int) (↑y:Int))).length+[(List.getD t ((Int.tdiv (↑x1:Int) m).toNat) []).getD ((Int.tdiv (↑x3:Int) m).toNat) (0:Int) * m+Int.tmod (l14Extend_c1 m f x3 x1) m].length))∧((InR ((↑x3:Int)+(1:Int)))∧(∃x4:Nat,((((↑x4:Int)≤(↑(t.length):Int) * m)∧((↑x1:Int)<(↑(t.length):Int) * m))∧((((↑(t.length):Int) * m).toNat - x4<((↑(t.length):Int) * m).toNat - x3)∧((t=t)∧((m=m)∧((f=f)∧(((↑(t.length):Int)=(↑(t.length):Int))∧(((↑x1:Int)=(↑x1:Int))∧(((↑x3:Int)+(1:Int)=(↑x4:Int))∧((List.take x1 (exR t m f)=List.take x1 (exR t m f))∧(List.take x3 (tab (((↑(t.length):Int) * m).toNat) fun (y:Nat)=>exI t m f (↑x1:Int) (↑y:Int))++[(List.getD t ((Int.tdiv (↑x1:Int) m).toNat) []).getD ((Int.tdiv (↑x3:Int) m).toNat) (0:Int) * m+Int.tmod (l14Extend_c1 m f x3 x1) m]=List.take x4 (tab (((↑(t.length):Int) * m).toNat) fun (y:Nat)=>exI t m f (↑x1:Int) (↑y:Int)))))))))))))))))))))))))) ((room ((List.take x1 (exR t m f)).length+(List.take x3 (tab (((↑(t.length):Int) * m).toNat) fun (y:Nat)=>exI t m f (↑x1:Int) (↑y:Int))::([]:List (List Int))).length))∧((InR ((↑x1:Int)+(1:Int)))∧(∃x5:Nat,(((↑x5:Int)≤(↑(t.length):Int) * m)∧((((↑(t.length):Int) * m).toNat - x5<((↑(t.length):Int) * m).toNat - x1)∧((t=t)∧((m=m)∧((f=f) ∧
 (((↑(t.length):Int)=(↑(t.length):Int))∧(((↑x1:Int)+(1:Int)=(↑x5:Int))∧(List.take x1 (exR t m f)++List.take x3 (tab (((↑(t.length):Int) * m).toNat) fun (y:Nat)=>exI t m f (↑x1:Int) (↑y:Int))::([]:List (List Int))=List.take x5 (exR t m f))))))))))))))))) ((List.take x1 (exR t m f)=exR t m f)∧True))))))
theorem l14Extend_vc (t:List (List Int)) (m:Int) (f:List (List Int)):runF Try.prog (gam l14Extend_G) noWr (l14Extend_ann t m f) Try.f38 (bodyOf Try.f38) [] [.c (.rows .i64 (t)),.c (.int .i64 (m)),.c (.rows .i64 (f))] (l14Extend_p t m f)=l14Extend_V t m f:=by kernel_rfl
theorem l14Extend_ok (t:List (List Int)) (m:Int) (f:List (List Int)) (hpre:(l14Extend_p t m f).pre):l14Extend_V t m f:=by
  simp only [l14Extend_p,l14Extend_V,l14Extend_c1,BrP_iff,u1,u2,u3,u4,u5,u6,u7,u8,u9,v1,v2,v3,v4,v5,v6,v7,v8,v9,w1,w2,w3,w4,markL_length,inB,InR,room,bdsOk] at hpre ⊢
  obtain ⟨h1,h2⟩:=hpre
  have hb:=nm_in h1 h2
  have ht:=tabB_of h1
  have hT:(exR t m f).length=((t.length:Int) * m).toNat:=tabR_length _ _
  have hr:∀i:Nat,(tab ((t.length:Int) * m).toNat fun y=>exI t m f (i:Int) (y:Int)).length=((t.length:Int) * m).toNat:=fun i=>tab_length _ _
  refine ⟨⟨0,by omega,rfl,by simp⟩,fun i hi=>⟨by omega,fun h=>⟨⟨0,by omega,rfl,by simp⟩,fun j ⟨hj,_⟩=>⟨by omega,fun h3=>?_,fun h3=>?_⟩⟩,fun h=>List.take_of_length_le (by omega)⟩⟩
  · have q:=ex_in h1 h2 (show 0≤(i:Int) by omega) h (show 0≤(j:Int) by omega) h3
    have:=hr i
    refine ⟨by omega,by omega,by omega,by omega,by omega,by omega,by omega,by omega,by omega,by omega,by omega,by omega,by omega,j+1,by omega,by omega,by omega,?_⟩
    rw [←take_snoc _ 0 j (by omega),tab_getD _ _ _ (by omega)]
    rfl
  · refine ⟨by omega,by omega,i+1,by omega,by omega,by omega,?_⟩
    have e:(tab ((t.length:Int) * m).toNat fun y=>exI t m f (i:Int) (y:Int)).take j=tab ((t.length:Int) * m).toNat fun y=>exI t m f (i:Int) (y:Int):=List.take_of_length_le (by rw [hr];omega)
    rw [←take_snoc (exR t m f) [] i (by omega),e,exR,tabR_getD _ _ _ (by omega)]
theorem l14Extend_fits:Fits Try.prog 38 ⟨[],l14Extend_ct⟩:=by
  refine ffn (Γ:=gam l14Extend_G) gok_nil Try.func38 fun ds p h hp=>?_
  unfold l14Extend_ct at h
  split at h
  · cases h
    exact ⟨noWr,l14Extend_ann _ _ _ ,by rw [l14Extend_vc];exact l14Extend_ok _ _ _  hp⟩
  · cases h
end Go.Sx
end
section
open Go Go.Proofs
namespace Go.Sx
set_option linter.unusedSimpArgs false
set_option linter.unusedVariables false
def unitL (n:Nat):List Int:=tab n fun i=>(i:Int)
end Go.Sx
end
