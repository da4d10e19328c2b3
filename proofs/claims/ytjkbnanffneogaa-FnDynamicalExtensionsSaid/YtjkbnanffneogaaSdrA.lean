/- SdrA -/
import Derived.Test.YtjkbnanffneogaaDrawY
import Derived.Test.YtjkbnanffneogaaCyc
import Derived.Test.YtjkbnanffneogaaInc
import Derived.Test.YtjkbnanffneogaaMat
open Go Go.Proofs
namespace Go.Sx
set_option linter.unusedSimpArgs false
set_option linter.unusedVariables false
abbrev Sq:=List (List Int)×List (List Int)
theorem sq_row {n:Int} {t:List (List Int)} (h:sqB n t) {x:Nat} (hx:(x:Int)<n):((t.getD x []).length:Int)=n∧∀y:Nat,(y:Int)<n→0≤(t.getD x []).getD y 0∧(t.getD x []).getD y 0≤n - 1:=by
  have e:=h.1
  have:=h.2 x (by omega)
  exact ⟨this.1,fun y hy=>this.2 y (by omega)⟩
theorem sq_tab {t:List (List Int)} (h:sqB (t.length:Int) t) (h1:1≤t.length) (h2:t.length≤12):tabB t=true:=by
  simp only [tabB,Bool.and_eq_true,decide_eq_true_eq,List.all_eq_true]
  refine ⟨by omega,fun r hr=>?_⟩
  obtain ⟨i,hi,rfl⟩:=List.getElem_of_mem hr
  have:=sq_row h (x:=i) (by omega)
  rw [getD_lt t [] i hi] at this
  simp only [rowB,Bool.and_eq_true,decide_eq_true_eq]
  refine ⟨by omega,?_⟩
  simp only [allW,List.all_eq_true,decide_eq_true_eq]
  intro x hx
  obtain ⟨j,hj,rfl⟩:=List.getElem_of_mem hx
  have q:=this.2 j (by omega)
  rw [getD_lt _ 0 j hj] at q
  omega
theorem rows_snoc {n:Nat} (f:Nat→Nat→Int) {i:Nat} (hi:i<n):(tabR n f).take i++[tab n (f i)]=(tabR n f).take (i+1):=by
  rw [←take_snoc (tabR n f) [] i (by rw [tabR_length];exact hi),tabR_getD _ _ _ hi]
theorem tab_snoc {n:Nat} (f:Nat→Int) {i:Nat} (hi:i<n):(tab n f).take i++[f i]=(tab n f).take (i+1):=by
  rw [←take_snoc (tab n f) 0 i (by rw [tab_length];exact hi),tab_getD _ _ _ hi]
def l01UnitG_p (n:Int):Post:=⟨0≤n∧n≤1099511627776,.c (.ints 2 .i64 (unitL n.toNat)),[]⟩
def l01UnitG_ct:List AD→Option Post
  | [.c (.int .i64 (n))]=>some (l01UnitG_p n)
  | _=>none
def l01UnitG_ann (n:Int):Nat→Option Ann
  | 0=>some (Ann.mk ((Nat)) (fun i=>⟨[(0,.c (.int .i64 (n))),(3,.c (.own (10))),(4,.c (.int .i64 ((i:Int))))],[(10,some (.ints 2 .i64 ((unitL n.toNat).take i)))]⟩) (fun i=>i≤n.toNat) (fun i=>n.toNat - i) (fun _=>noAnn))
  | _=>none
def l01UnitG_G:List (Nat×Ctr):=[]
def l01UnitG_V (n:Int):Prop :=
 ((∃x0:Nat,((x0≤n.toNat)∧((n=n)∧(((0:Int)=(↑x0:Int))∧([]=List.take x0 (unitL (n.toNat)))))))∧(∀x1:Nat,((x1≤n.toNat)→(BrP (decide ((↑x1:Int)<n)) ((room ((List.take x1 (unitL (n.toNat))).length+[(↑x1:Int)].length))∧((InR ((↑x1:Int)+(1:Int)))∧(∃x2:Nat,((x2≤n.toNat)∧((n.toNat - x2<n.toNat - x1)∧((n=n)∧(((↑x1:Int)+(1:Int)=(↑x2:Int))∧(List.take x1 (unitL (n.toNat))++[(↑x1:Int)]=List.take x2 (unitL (n.toNat)))))))))) ((List.take x1 (unitL (n.toNat))=unitL (n.toNat))∧True)))))
theorem l01UnitG_vc (n:Int):runF Try.prog (gam l01UnitG_G) noWr (l01UnitG_ann n) Try.f92 (bodyOf Try.f92) [] [.c (.int .i64 (n))] (l01UnitG_p n)=l01UnitG_V n:=by kernel_rfl
theorem l01UnitG_ok (n:Int) (hpre:(l01UnitG_p n).pre):l01UnitG_V n:=by
  simp only [l01UnitG_p,l01UnitG_V,BrP_iff,u1,u2,u3,u4,u5,u6,u7,u8,u9,v1,v2,v3,v4,v5,v6,v7,v8,v9,w1,w2,w3,w4,markL_length,inB,InR,room,bdsOk] at hpre ⊢
  have hl:(unitL n.toNat).length=n.toNat:=by simp [unitL,tab_length]
  refine ⟨⟨0,by omega,rfl,by simp⟩,fun i hi=>⟨fun h=>⟨by omega,by omega,i+1,by omega,by omega,by omega,?_⟩,fun h=>?_⟩⟩
  · rw [←take_snoc (unitL n.toNat) 0 i (by omega),unitL,tab_getD _ _ _ (by omega)]
  · exact List.take_of_length_le (by omega)
theorem l01UnitG_fits:Fits Try.prog 92 ⟨[],l01UnitG_ct⟩:=by
  refine ffn (Γ:=gam l01UnitG_G) gok_nil Try.func92 fun ds p h hp=>?_
  unfold l01UnitG_ct at h
  split at h
  · cases h
    exact ⟨noWr,l01UnitG_ann _ ,by rw [l01UnitG_vc];exact l01UnitG_ok _  hp⟩
  · cases h
def twS (p q:List Int):Sq:=(List.replicate p.length p,tabR p.length fun x _=>q.getD x 0)
def l02Twist_p (p:List Int) (q:List Int):Post:=⟨p.length≤144∧p.length≤q.length,.agg [.rows 41 2 .i64 ((twS p q).1),.rows 41 2 .i64 ((twS p q).2)],[]⟩
def l02Twist_ct:List AD→Option Post
  | [.c (.ints .i64 (p)),.c (.ints .i64 (q))]=>some (l02Twist_p p q)
  | _=>none
def l02Twist_ann (p:List Int) (q:List Int):Nat→Option Ann
  | 0=>some (Ann.mk ((Nat)) (fun x=>⟨[(0,.c (.ro (.ints .i64 (p)))),(1,.c (.ro (.ints .i64 (q)))),(4,.c (.ptr 4 0)),(5,.c (.ptr 5 0)),(6,.c (.int .i64 ((x:Int))))],[(4,some (.box [.nil,.nil])),(5,some (.box [.own (100),.own (101)])),(100,some (.rows 0 41 2 .i64 (List.replicate x p))),(101,some (.rows 0 41 2 .i64 ((tabR p.length fun x _=>q.getD x 0).take x)))]⟩) (fun x=>x≤p.length) (fun x=>p.length - x) (fun x=>fun b_=>match b_ with | 2=>some (Ann.mk ((Nat)) (fun y=>⟨[(0,.c (.ro (.ints .i64 (p)))),(1,.c (.ro (.ints .i64 (q)))),(4,.c (.ptr 4 0)),(5,.c (.ptr 5 0)),(6,.c (.int .i64 ((x:Int)))),(7,.c (.own (102))),(8,.c (.int .i64 ((y:Int))))],[(4,some (.box [.nil,.nil])),(5,some (.box [.own (100),.own (101)])),(100,some (.rows 0 41 2 .i64 (List.replicate x p))),(101,some (.rows 0 41 2 .i64 ((tabR p.length fun x _=>q.getD x 0).take x))),(102,some (.ints 2 .i64 ((tab p.length fun _=>q.getD x 0).take y)))]⟩) (fun y=>y≤p.length∧x<p.length) (fun y=>p.length - y) (fun _=>noAnn)) | _=>none))
  | _=>none
def l02Twist_G:List (Nat×Ctr):=[(59,⟨[],l01Own_ct⟩)]
def l02Twist_V (p:List Int) (q:List Int):Prop :=
 ((∃x0:Nat,((x0≤p.length)∧((p=p)∧((q=q)∧(((0:Int)=(↑x0:Int))∧((List.replicate x0 p=([]:List (List Int)))∧(List.take x0 (tabR (p.length) fun (x x_1:Nat)=>q.getD x (0:Int))=([]:List (List Int)))))))))∧(∀x1:Nat,((x1≤p.length)→(BrP (decide ((↑x1:Int)<(↑(p.length):Int))) ((∃x2:Nat,(((x2≤p.length)∧(x1<p.length))∧((p=p)∧((q=q)∧(((↑x1:Int)=(↑x1:Int))∧(((0:Int)=(↑x2:Int))∧((List.replicate x1 p=List.replicate x1 p)∧((List.take x1 (tabR (p.length) fun (x x_1:Nat)=>q.getD x (0:Int))=List.take x1 (tabR (p.length) fun (x x_1:Nat)=>q.getD x (0:Int)))∧([]=List.take x2 (tab (p.length) fun (x:Nat)=>q.getD x1 (0:Int)))))))))))∧(∀x3:Nat,(((x3≤p.length)∧(x1<p.length))→(BrP (decide ((↑x3:Int)<(↑(p.length):Int))) ((inB (↑x1:Int) (q.length))∧((room ((List.take x3 (tab (p.length) fun (x:Nat)=>q.getD x1 (0:Int))).length+[q.getD ((↑x1:Int).toNat) (0:Int)].length))∧((InR ((↑x3:Int)+(1:Int)))∧(∃x4:Nat,(((x4≤p.length)∧(x1<p.length))∧((p.length - x4<p.length - x3)∧((p=p)∧((q=q)∧(((↑x1:Int)=(↑x1:Int))∧(((↑x3:Int)+(1:Int)=(↑x4:Int))∧((List.replicate x1 p=List.replicate x1 p)∧((List.take x1 (tabR (p.length) fun (x x_1:Nat)=>q.getD x (0:Int))=List.take x1 (tabR (p.length) fun (x x_1:Nat)=>q.getD x (0:Int)))∧(List.take x3 (tab (p.length) fun (x:Nat)=>q.getD x1 (0:Int))++[q.getD ((↑x1:Int).toNat) (0:Int)]=List.take x4 (tab (p.length) fun (x:Nat)=>q.getD x1 (0:Int)))))))))))))))
 (((room (p.length))∧True)∧((room ((List.replicate x1 p).length+(p::([]:List (List Int))).length))∧((room ((List.take x1 (tabR (p.length) fun (x x_1:Nat)=>q.getD x (0:Int))).length+(List.take x3 (tab (p.length) fun (x:Nat)=>q.getD x1 (0:Int))::([]:List (List Int))).length))∧((InR ((↑x1:Int)+(1:Int)))∧(∃x5:Nat,((x5≤p.length)∧((p.length - x5<p.length - x1)∧((p=p)∧((q=q)∧(((↑x1:Int)+(1:Int)=(↑x5:Int))∧((List.replicate x1 p++p::([]:List (List Int))=List.replicate x5 p)∧(List.take x1 (tabR (p.length) fun (x x_1:Nat)=>q.getD x (0:Int))++List.take x3 (tab (p.length) fun (x:Nat)=>q.getD x1 (0:Int))::([]:List (List Int))=List.take x5 (tabR (p.length) fun (x x_1:Nat)=>q.getD x (0:Int)))))))))))))))))) (((List.replicate x1 p=(twS p q).1)∧((List.take x1 (tabR (p.length) fun (x x_1:Nat)=>q.getD x (0:Int))=(twS p q).2)∧True))∧True)))))
theorem l02Twist_vc (p:List Int) (q:List Int):runF Try.prog (gam l02Twist_G) noWr (l02Twist_ann p q) Try.f112 (bodyOf Try.f112) [] [.c (.ints .i64 (p)),.c (.ints .i64 (q))] (l02Twist_p p q)=l02Twist_V p q:=by kernel_rfl
theorem l02Twist_ok (p:List Int) (q:List Int) (hpre:(l02Twist_p p q).pre):l02Twist_V p q:=by
  simp only [l02Twist_p,l02Twist_V,BrP_iff,u1,u2,u3,u4,u5,u6,u7,u8,u9,v1,v2,v3,v4,v5,v6,v7,v8,v9,w1,w2,w3,w4,markL_length,inB,InR,room,bdsOk] at hpre ⊢
  obtain ⟨h1,h2⟩:=hpre
  have lR:(tabR p.length fun x _=>q.getD x 0).length=p.length:=tabR_length _ _
  have lT:∀x:Nat,(tab p.length fun _=>q.getD x 0).length=p.length:=fun x=>tab_length _ _
  refine ⟨⟨0,by omega,rfl,rfl,rfl⟩,fun x hx=>⟨fun h=>⟨⟨0,⟨by omega,by omega⟩,rfl,rfl⟩,fun y ⟨hy,_⟩=>⟨fun h3=>?_,fun h3=>?_⟩⟩,fun h=>?_⟩⟩
  · have:=lT x
    refine ⟨by omega,by omega,by omega,y+1,⟨by omega,by omega⟩,by omega,by omega,?_⟩
    rw [←tab_snoc _ (show y<p.length by omega)]
  · have l3:=lT x
    refine ⟨by omega,by omega,by omega,by omega,x+1,by omega,by omega,by omega,?_,?_⟩
    · rw [List.replicate_succ']
    · rw [←rows_snoc _ (show x<p.length by omega),List.take_of_length_le (l:=tab p.length fun _=>q.getD x 0) (by omega)]
  · rw [show x=p.length by omega,List.take_of_length_le (by omega)]
    exact ⟨rfl,rfl⟩
theorem l02Twist_fits:Fits Try.prog 112 ⟨[],l02Twist_ct⟩:=by
  refine ffn (Γ:=gam l02Twist_G) (gok_cons l01Own_fits gok_nil) Try.func112 fun ds p h hp=>?_
  unfold l02Twist_ct at h
  split at h
  · cases h
    exact ⟨noWr,l02Twist_ann _ _ ,by rw [l02Twist_vc];exact l02Twist_ok _ _  hp⟩
  · cases h
def l02Flip_p (n:Int):Post:=⟨0≤n∧n≤144,.agg [.rows 41 2 .i64 ((twS (unitL n.toNat) (unitL n.toNat)).1),.rows 41 2 .i64 ((twS (unitL n.toNat) (unitL n.toNat)).2)],[]⟩
def l02Flip_ct:List AD→Option Post
  | [.c (.int .i64 (n))]=>some (l02Flip_p n)
  | _=>none
def l02Flip_G:List (Nat×Ctr):=[(92,⟨[],l01UnitG_ct⟩),(112,⟨[],l02Twist_ct⟩)]
def l02Flip_V (n:Int):Prop :=
 (((((0:Int)≤n)∧(n≤(1099511627776:Int)))∧True)∧(((((unitL (n.toNat)).length≤(144:Nat))∧((unitL (n.toNat)).length≤(unitL (n.toNat)).length))∧True)∧((((twS (unitL (n.toNat)) (unitL (n.toNat))).1=(twS (unitL (n.toNat)) (unitL (n.toNat))).1)∧(((twS (unitL (n.toNat)) (unitL (n.toNat))).2=(twS (unitL (n.toNat)) (unitL (n.toNat))).2)∧True))∧True)))
theorem l02Flip_vc (n:Int):runF Try.prog (gam l02Flip_G) noWr noAnn Try.f107 (bodyOf Try.f107) [] [.c (.int .i64 (n))] (l02Flip_p n)=l02Flip_V n:=by kernel_rfl
theorem l02Flip_ok (n:Int) (hpre:(l02Flip_p n).pre):l02Flip_V n:=by
  simp only [l02Flip_p,l02Flip_V,BrP_iff,u1,u2,u3,u4,u5,u6,u7,u8,u9,v1,v2,v3,v4,v5,v6,v7,v8,v9,w1,w2,w3,w4,markL_length,inB,InR,room,bdsOk] at hpre ⊢
  have:(unitL n.toNat).length=n.toNat:=tab_length _ _
  exact ⟨by omega,by omega⟩
theorem l02Flip_fits:Fits Try.prog 107 ⟨[],l02Flip_ct⟩:=by
  refine ffn (Γ:=gam l02Flip_G) (gok_cons l01UnitG_fits (gok_cons l02Twist_fits gok_nil)) Try.func107 fun ds p h hp=>?_
  unfold l02Flip_ct at h
  split at h
  · cases h
    exact ⟨noWr,noAnn,by rw [l02Flip_vc];exact l02Flip_ok _  hp⟩
  · cases h
def plF (n:Int) (x y:Nat):Int:=(2 * (x:Int) - (y:Int)+n).tmod n
def plS (n:Int):Sq:=(tabR n.toNat (plF n),tabR n.toNat fun x _=>(x:Int))
def l02Polygon_p (n:Int):Post:=⟨1≤n∧n≤144,.agg [.rows 41 2 .i64 ((plS n).1),.rows 41 2 .i64 ((plS n).2)],[]⟩
def l02Polygon_ct:List AD→Option Post
  | [.c (.int .i64 (n))]=>some (l02Polygon_p n)
  | _=>none
def l02Polygon_ann (n:Int):Nat→Option Ann
  | 0=>some (Ann.mk ((Nat)) (fun x=>⟨[(0,.c (.int .i64 (n))),(2,.c (.ptr 2 0)),(3,.c (.ptr 3 0)),(4,.c (.int .i64 ((x:Int))))],[(2,some (.box [.nil,.nil])),(3,some (.box [.own (100),.own (101)])),(100,some (.rows 0 41 2 .i64 ((plS n).1.take x))),(101,some (.rows 0 41 2 .i64 ((plS n).2.take x)))]⟩) (fun x=>(x:Int)≤n) (fun x=>n.toNat - x) (fun x=>fun b_=>match b_ with | 2=>some (Ann.mk ((Nat)) (fun y=>⟨[(0,.c (.int .i64 (n))),(2,.c (.ptr 2 0)),(3,.c (.ptr 3 0)),(4,.c (.int .i64 ((x:Int)))),(5,.c (.own (102))),(6,.c (.own (103))),(7,.c (.int .i64 ((y:Int))))],[(2,some (.box [.nil,.nil])),(3,some (.box [.own (100),.own (101)])),(100,some (.rows 0 41 2 .i64 ((plS n).1.take x))),(101,some (.rows 0 41 2 .i64 ((plS n).2.take x))),(102,some (.ints 2 .i64 ((tab n.toNat (plF n x)).take y))),(103,some (.ints 2 .i64 ((tab n.toNat fun _=>(x:Int)).take y)))]⟩) (fun y=>(y:Int)≤n∧(x:Int)<n) (fun y=>n.toNat - y) (fun _=>noAnn)) | _=>none))
  | _=>none
def l02Polygon_G:List (Nat×Ctr):=[]
def l02Polygon_V (n:Int):Prop :=
 ((∃x0:Nat,(((↑x0:Int)≤n)∧((n=n)∧(((0:Int)=(↑x0:Int))∧((List.take x0 ((plS n).1)=([]:List (List Int)))∧(List.take x0 ((plS n).2)=([]:List (List Int))))))))∧(∀x1:Nat,(((↑x1:Int)≤n)→(BrP (decide ((↑x1:Int)<n)) ((∃x2:Nat,((((↑x2:Int)≤n)∧((↑x1:Int)<n))∧((n=n)∧(((↑x1:Int)=(↑x1:Int))∧(((0:Int)=(↑x2:Int))∧((List.take x1 ((plS n).1)=List.take x1 ((plS n).1))∧((List.take x1 ((plS n).2)=List.take x1 ((plS n).2))∧(([]=List.take x2 (tab (n.toNat) (plF n x1)))∧([]=List.take x2 (tab (n.toNat) fun (x:Nat)=>(↑x1:Int)))))))))))∧(∀x3:Nat,((((↑x3:Int)≤n)∧((↑x1:Int)<n))→(BrP (decide ((↑x3:Int)<n)) ((InR ((2:Int) * (↑x1:Int)))∧((InR ((2:Int) * (↑x1:Int) - (↑x3:Int)))∧((InR ((2:Int) * (↑x1:Int) - (↑x3:Int)+n))∧((n≠(0:Int))∧((room ((List.take x3 (tab (n.toNat) (plF n x1))).length+[Int.tmod ((2:Int) * (↑x1:Int) - (↑x3:Int)+n) n].length))∧((room ((List.take x3 (tab (n.toNat) fun (x:Nat)=>(↑x1:Int))).length+[(↑x1:Int)].length))∧((InR ((↑x3:Int)+(1:Int)))∧(∃x4:Nat,((((↑x4:Int)≤n)∧((↑x1:Int)<n))∧((n.toNat - x4<n.toNat - x3)∧((n=n)∧(((↑x1:Int)=(↑x1:Int))∧(((↑x3:Int)+(1:Int)=(↑x4:Int))∧((List.take x1 ((plS n).1)=List.take x1 ((plS n).1))∧((List.take x1 ((plS n).2)=List.take x1 ((plS n).2))∧((List.take x3 (tab (n.toNat) (plF n x1))++[Int.tmod ((2:Int) * (↑x1:Int) - (↑x3:Int)+n) n]=List.take x4 (tab (n.toNat) (plF n x1))) ∧
 (List.take x3 (tab (n.toNat) fun (x:Nat)=>(↑x1:Int))++[(↑x1:Int)]=List.take x4 (tab (n.toNat) fun (x:Nat)=>(↑x1:Int))))))))))))))))))) ((room ((List.take x1 ((plS n).1)).length+(List.take x3 (tab (n.toNat) (plF n x1))::([]:List (List Int))).length))∧((room ((List.take x1 ((plS n).2)).length+(List.take x3 (tab (n.toNat) fun (x:Nat)=>(↑x1:Int))::([]:List (List Int))).length))∧((InR ((↑x1:Int)+(1:Int)))∧(∃x5:Nat,(((↑x5:Int)≤n)∧((n.toNat - x5<n.toNat - x1)∧((n=n)∧(((↑x1:Int)+(1:Int)=(↑x5:Int))∧((List.take x1 ((plS n).1)++List.take x3 (tab (n.toNat) (plF n x1))::([]:List (List Int))=List.take x5 ((plS n).1))∧(List.take x1 ((plS n).2)++List.take x3 (tab (n.toNat) fun (x:Nat)=>(↑x1:Int))::([]:List (List Int))=List.take x5 ((plS n).2))))))))))))))) (((List.take x1 ((plS n).1)=(plS n).1)∧((List.take x1 ((plS n).2)=(plS n).2)∧True))∧True)))))
theorem l02Polygon_vc (n:Int):runF Try.prog (gam l02Polygon_G) noWr (l02Polygon_ann n) Try.f113 (bodyOf Try.f113) [] [.c (.int .i64 (n))] (l02Polygon_p n)=l02Polygon_V n:=by kernel_rfl
theorem l02Polygon_ok (n:Int) (hpre:(l02Polygon_p n).pre):l02Polygon_V n:=by
  simp only [l02Polygon_p,l02Polygon_V,BrP_iff,u1,u2,u3,u4,u5,u6,u7,u8,u9,v1,v2,v3,v4,v5,v6,v7,v8,v9,w1,w2,w3,w4,markL_length,inB,InR,room,bdsOk] at hpre ⊢
  obtain ⟨h1,h2⟩:=hpre
  have lA:(plS n).1.length=n.toNat:=tabR_length _ _
  have lB:(plS n).2.length=n.toNat:=tabR_length _ _
  refine ⟨⟨0,by omega,rfl,rfl,rfl⟩,fun x hx=>⟨fun h=>⟨⟨0,⟨by omega,by omega⟩,rfl,rfl,rfl⟩,fun y ⟨hy,_⟩=>⟨fun h3=>?_,fun h3=>?_⟩⟩,fun h=>?_⟩⟩
  · have l1:(tab n.toNat (plF n x)).length=n.toNat:=tab_length _ _
    have l2:(tab n.toNat fun _=>(x:Int)).length=n.toNat:=tab_length _ _
    refine ⟨by omega,by omega,by omega,by omega,by omega,by omega,by omega,y+1,⟨by omega,by omega⟩,by omega,by omega,?_,?_⟩
    · rw [←tab_snoc _ (show y<n.toNat by omega)];rfl
    · rw [←tab_snoc _ (show y<n.toNat by omega)]
  · have l1:(tab n.toNat (plF n x)).length=n.toNat:=tab_length _ _
    have l2:(tab n.toNat fun _=>(x:Int)).length=n.toNat:=tab_length _ _
    refine ⟨by omega,by omega,by omega,x+1,by omega,by omega,by omega,?_,?_⟩
    · rw [List.take_of_length_le (l:=tab n.toNat (plF n x)) (by omega)];exact rows_snoc _ (by omega)
    · rw [List.take_of_length_le (l:=tab n.toNat fun _=>(x:Int)) (by omega)];exact rows_snoc (fun x _=>(x:Int)) (by omega)
  · exact ⟨List.take_of_length_le (by omega),List.take_of_length_le (by omega)⟩
theorem l02Polygon_fits:Fits Try.prog 113 ⟨[],l02Polygon_ct⟩:=by
  refine ffn (Γ:=gam l02Polygon_G) gok_nil Try.func113 fun ds p h hp=>?_
  unfold l02Polygon_ct at h
  split at h
  · cases h
    exact ⟨noWr,l02Polygon_ann _ ,by rw [l02Polygon_vc];exact l02Polygon_ok _  hp⟩
  · cases h
def emS (n:Int):Sq:=(List.replicate n.toNat (List.replicate n.toNat 0),List.replicate n.toNat (List.replicate n.toNat 0))
def l02Empty_p (n:Int):Post:=⟨0≤n∧n≤144,.agg [.rows 41 2 .i64 ((emS n).1),.rows 41 2 .i64 ((emS n).2)],[]⟩
def l02Empty_ct:List AD→Option Post
  | [.c (.int .i64 (n))]=>some (l02Empty_p n)
  | _=>none
def l02Empty_ann (n:Int):Nat→Option Ann
  | 0=>some (Ann.mk ((Nat)) (fun x=>⟨[(0,.c (.int .i64 (n))),(2,.c (.ptr 2 0)),(3,.c (.ptr 3 0)),(4,.c (.int .i64 ((x:Int))))],[(2,some (.box [.nil,.nil])),(3,some (.box [.own (100),.own (101)])),(100,some (.rows 0 41 2 .i64 (List.replicate x (List.replicate n.toNat 0)))),(101,some (.rows 0 41 2 .i64 (List.replicate x (List.replicate n.toNat 0))))]⟩) (fun x=>(x:Int)≤n) (fun x=>n.toNat - x) (fun _=>noAnn))
  | _=>none
def l02Empty_G:List (Nat×Ctr):=[]
def l02Empty_V (n:Int):Prop :=
 ((∃x0:Nat,(((↑x0:Int)≤n)∧((n=n)∧(((0:Int)=(↑x0:Int))∧((List.replicate x0 (List.replicate (n.toNat) (0:Int))=([]:List (List Int)))∧(List.replicate x0 (List.replicate (n.toNat) (0:Int))=([]:List (List Int))))))))∧(∀x1:Nat,(((↑x1:Int)≤n)→(BrP (decide ((↑x1:Int)<n)) ((((0:Int)≤n)∧((n≤n)∧(room (n.toNat))))∧((room ((List.replicate x1 (List.replicate (n.toNat) (0:Int))).length+(List.replicate (n.toNat) (0:Int)::([]:List (List Int))).length))∧((((0:Int)≤n)∧((n≤n)∧(room (n.toNat))))∧((room ((List.replicate x1 (List.replicate (n.toNat) (0:Int))).length+(List.replicate (n.toNat) (0:Int)::([]:List (List Int))).length))∧((InR ((↑x1:Int)+(1:Int)))∧(∃x2:Nat,(((↑x2:Int)≤n)∧((n.toNat - x2<n.toNat - x1)∧((n=n)∧(((↑x1:Int)+(1:Int)=(↑x2:Int))∧((List.replicate x1 (List.replicate (n.toNat) (0:Int))++List.replicate (n.toNat) (0:Int)::([]:List (List Int))=List.replicate x2 (List.replicate (n.toNat) (0:Int)))∧(List.replicate x1 (List.replicate (n.toNat) (0:Int))++List.replicate (n.toNat) (0:Int)::([]:List (List Int))=List.replicate x2 (List.replicate (n.toNat) (0:Int)))))))))))))) (((List.replicate x1 (List.replicate (n.toNat) (0:Int))=(emS n).1)∧((List.replicate x1 (List.replicate (n.toNat) (0:Int))=(emS n).2)∧True))∧True)))))
theorem l02Empty_vc (n:Int):runF Try.prog (gam l02Empty_G) noWr (l02Empty_ann n) Try.f122 (bodyOf Try.f122) [] [.c (.int .i64 (n))] (l02Empty_p n)=l02Empty_V n:=by kernel_rfl
theorem l02Empty_ok (n:Int) (hpre:(l02Empty_p n).pre):l02Empty_V n:=by
  simp only [l02Empty_p,l02Empty_V,BrP_iff,u1,u2,u3,u4,u5,u6,u7,u8,u9,v1,v2,v3,v4,v5,v6,v7,v8,v9,w1,w2,w3,w4,markL_length,inB,InR,room,bdsOk] at hpre ⊢
  refine ⟨⟨0,by omega,by omega,rfl,rfl⟩,fun x hx=>⟨fun h=>⟨⟨by omega,by omega,by omega⟩,by omega,⟨by omega,by omega,by omega⟩,by omega,by omega,x+1,by omega,by omega,by omega,by rw [List.replicate_succ'],by rw [List.replicate_succ']⟩,fun h=>?_⟩⟩
  rw [show x=n.toNat by omega];exact ⟨rfl,rfl⟩
theorem l02Empty_fits:Fits Try.prog 122 ⟨[],l02Empty_ct⟩:=by
  refine ffn (Γ:=gam l02Empty_G) gok_nil Try.func122 fun ds p h hp=>?_
  unfold l02Empty_ct at h
  split at h
  · cases h
    exact ⟨noWr,l02Empty_ann _ ,by rw [l02Empty_vc];exact l02Empty_ok _  hp⟩
  · cases h
def ivC (A B:List (List Int)) (x y:Nat) (o:Sq):Sq :=
  let u:=((A.getD x []).getD y 0).toNat
  let v:=((B.getD x []).getD y 0).toNat
  (o.1.set u ((o.1.getD u []).set v (x:Int)),o.2.set u ((o.2.getD u []).set v (y:Int)))
def ivY (A B:List (List Int)) (x:Nat) (o:Sq):Nat→Sq
  | 0=>o
  | y+1=>ivC A B x y (ivY A B x o y)
def ivX (A B:List (List Int)):Nat→Sq
  | 0=>emS (A.length:Int)
  | x+1=>ivY A B x (ivX A B x) A.length
theorem rep_sq {n:Int} (h:1≤n):sqB n (List.replicate n.toNat (List.replicate n.toNat 0)):=sq_rep (by omega) (by simp;omega) fun x hx=>by
  rw [List.eq_of_mem_replicate hx];omega
theorem ivC_sq {n:Int} {A B:List (List Int)} (hA:sqB n A) (hB:sqB n B) {x y:Nat} (hx:(x:Int)<n) (hy:(y:Int)<n) {o:Sq} (h:sqB n o.1∧sqB n o.2):sqB n (ivC A B x y o).1∧sqB n (ivC A B x y o).2:=by
  have a:=(sq_row hA hx).2 y hy
  have b:=(sq_row hB hx).2 y hy
  exact ⟨sq_set h.1 (by omega) (by omega) (by omega) (by omega),sq_set h.2 (by omega) (by omega) (by omega) (by omega)⟩
theorem ivY_sq {n:Int} {A B:List (List Int)} (hA:sqB n A) (hB:sqB n B) {x:Nat} (hx:(x:Int)<n) {o:Sq} (h:sqB n o.1∧sqB n o.2):∀y:Nat,(y:Int)≤n→sqB n (ivY A B x o y).1∧sqB n (ivY A B x o y).2
  | 0,_=>h
  | y+1,hy=>ivC_sq hA hB hx (by omega) (ivY_sq hA hB hx h y (by omega))
theorem ivX_sq {A B:List (List Int)} (hA:sqB (A.length:Int) A) (hB:sqB (A.length:Int) B) (h1:1≤A.length):∀x:Nat,x≤A.length→sqB (A.length:Int) (ivX A B x).1∧sqB (A.length:Int) (ivX A B x).2
  | 0,_=>⟨rep_sq (by omega),rep_sq (by omega)⟩
  | x+1,hx=>ivY_sq hA hB (by omega) (ivX_sq hA hB h1 x (by omega)) A.length (by omega)
def l02Inverse_p (A:List (List Int)) (B:List (List Int)):Post:=⟨1≤A.length∧A.length≤144∧sqB (A.length:Int) A∧sqB (A.length:Int) B,.agg [.rows 41 2 .i64 ((ivX A B A.length).1),.rows 41 2 .i64 ((ivX A B A.length).2)],[]⟩
def l02Inverse_ct:List AD→Option Post
  | [.agg [.rows .i64 (A),.rows .i64 (B)]]=>some (l02Inverse_p A B)
  | _=>none
def l02Inverse_ann (A:List (List Int)) (B:List (List Int)):Nat→Option Ann
  | 0=>some (Ann.mk ((Nat)) (fun x=>⟨[(1,.c (.ptr 1 0)),(2,.c (.ptr 2 0)),(3,.c (.int .i64 ((A.length:Int)))),(4,.c (.ptr 4 0)),(5,.c (.int .i64 ((x:Int))))],[(1,some (.box [.ro (.rows .i64 (A)),.ro (.rows .i64 (B))])),(2,some (.box [.nil,.nil])),(4,some (.box [.own (100),.own (101)])),(100,some (.rows 0 41 2 .i64 ((ivX A B x).1))),(101,some (.rows 0 41 2 .i64 ((ivX A B x).2)))]⟩) (fun x=>x≤A.length) (fun x=>A.length - x) (fun x=>fun b_=>match b_ with | 2=>some (Ann.mk ((Nat)) (fun y=>⟨[(1,.c (.ptr 1 0)),(2,.c (.ptr 2 0)),(3,.c (.int .i64 ((A.length:Int)))),(4,.c (.ptr 4 0)),(5,.c (.int .i64 ((x:Int)))),(6,.c (.int .i64 ((y:Int))))],[(1,some (.box [.ro (.rows .i64 (A)),.ro (.rows .i64 (B))])),(2,some (.box [.nil,.nil])),(4,some (.box [.own (100),.own (101)])),(100,some (.rows 0 41 2 .i64 ((ivY A B x (ivX A B x) y).1))),(101,some (.rows 0 41 2 .i64 ((ivY A B x (ivX A B x) y).2)))]⟩) (fun y=>y≤A.length∧x<A.length) (fun y=>A.length - y) (fun _=>noAnn)) | _=>none))
  | _=>none
def l02Inverse_G:List (Nat×Ctr):=[(122,⟨[],l02Empty_ct⟩)]
def l02Inverse_c1 (A:List (List Int)) (x0:Nat) (x1:Nat):=((List.getD A ((↑x0:Int).toNat) []).getD ((↑x1:Int).toNat) (0:Int))
def l02Inverse_V (A:List (List Int)) (B:List (List Int)):Prop :=
 (((((0:Int)≤(↑(A.length):Int))∧((↑(A.length):Int)≤(144:Int)))∧True)∧((∃x0:Nat,((x0≤A.length)∧(((↑(A.length):Int)=(↑(A.length):Int))∧(((0:Int)=(↑x0:Int))∧((A=A)∧((B=B)∧(((emS (↑(A.length):Int)).1=(ivX A B x0).1)∧((emS (↑(A.length):Int)).2=(ivX A B x0).2))))))))∧(∀x1:Nat,((x1≤A.length)→(BrP (decide ((↑x1:Int)<(↑(A.length):Int))) ((∃x2:Nat,(((x2≤A.length)∧(x1<A.length))∧(((↑(A.length):Int)=(↑(A.length):Int))∧(((↑x1:Int)=(↑x1:Int))∧(((0:Int)=(↑x2:Int))∧((A=A)∧((B=B)∧(((ivX A B x1).1=(ivY A B x1 (ivX A B x1) x2).1)∧((ivX A B x1).2=(ivY A B x1 (ivX A B x1) x2).2)))))))))∧(∀x3:Nat,(((x3≤A.length)∧(x1<A.length))→(BrP (decide ((↑x3:Int)<(↑(A.length):Int))) ((inB (↑x1:Int) (A.length))∧((inB (↑x3:Int) ((A.getD ((↑x1:Int).toNat) []).length))∧((inB (l02Inverse_c1 A x1 x3) (((ivY A B x1 (ivX A B x1) x3).1).length))∧((inB (↑x1:Int) (A.length))∧((inB (↑x3:Int) ((A.getD ((↑x1:Int).toNat) []).length))∧((inB (l02Inverse_c1 A x1 x3) (((ivY A B x1 (ivX A B x1) x3).2).length))∧((inB (↑x1:Int) (B.length))∧((inB (↑x3:Int) ((B.getD ((↑x1:Int).toNat) []).length))∧((inB ((List.getD B ((↑x1:Int).toNat) []).getD ((↑x3:Int).toNat) (0:Int)) ((((ivY A B x1 (ivX A B x1) x3).1).getD ((l02Inverse_c1 A x1 x3).toNat) []).length))∧((inB (↑x1:Int) (B.length))∧((inB (↑x3:Int) ((B.getD ((↑x1:Int).toNat) []).length)) ∧
 ((inB ((List.getD B ((↑x1:Int).toNat) []).getD ((↑x3:Int).toNat) (0:Int)) ((((ivY A B x1 (ivX A B x1) x3).2).getD ((l02Inverse_c1 A x1 x3).toNat) []).length))∧((InR ((↑x3:Int)+(1:Int)))∧(∃x4:Nat,(((x4≤A.length)∧(x1<A.length))∧((A.length - x4<A.length - x3)∧(((↑(A.length):Int)=(↑(A.length):Int))∧(((↑x1:Int)=(↑x1:Int))∧(((↑x3:Int)+(1:Int)=(↑x4:Int))∧((A=A)∧((B=B)∧((List.set ((ivY A B x1 (ivX A B x1) x3).1) ((l02Inverse_c1 A x1 x3).toNat) (List.set (((ivY A B x1 (ivX A B x1) x3).1).getD ((l02Inverse_c1 A x1 x3).toNat) []) (((List.getD B ((↑x1:Int).toNat) []).getD ((↑x3:Int).toNat) (0:Int)).toNat) (↑x1:Int))=(ivY A B x1 (ivX A B x1) x4).1)∧(List.set ((ivY A B x1 (ivX A B x1) x3).2) ((l02Inverse_c1 A x1 x3).toNat) (List.set (((ivY A B x1 (ivX A B x1) x3).2).getD ((l02Inverse_c1 A x1 x3).toNat) []) (((List.getD B ((↑x1:Int).toNat) []).getD ((↑x3:Int).toNat) (0:Int)).toNat) (↑x3:Int))=(ivY A B x1 (ivX A B x1) x4).2))))))))))))))))))))))) ((InR ((↑x1:Int)+(1:Int)))∧(∃x5:Nat,((x5≤A.length)∧((A.length - x5<A.length - x1)∧(((↑(A.length):Int)=(↑(A.length):Int))∧(((↑x1:Int)+(1:Int)=(↑x5:Int))∧((A=A)∧((B=B)∧(((ivY A B x1 (ivX A B x1) x3).1=(ivX A B x5).1)∧((ivY A B x1 (ivX A B x1) x3).2=(ivX A B x5).2)))))))))))))) ((((ivX A B x1).1=(ivX A B (A.length)).1)∧(((ivX A B x1).2=(ivX A B (A.length)).2)∧True))∧True))))))
theorem l02Inverse_vc (A:List (List Int)) (B:List (List Int)):runF Try.prog (gam l02Inverse_G) noWr (l02Inverse_ann A B) Try.f118 (bodyOf Try.f118) [] [.agg [.rows .i64 (A),.rows .i64 (B)]] (l02Inverse_p A B)=l02Inverse_V A B:=by kernel_rfl
theorem l02Inverse_ok (A:List (List Int)) (B:List (List Int)) (hpre:(l02Inverse_p A B).pre):l02Inverse_V A B:=by
  simp only [l02Inverse_p,l02Inverse_V,l02Inverse_c1,BrP_iff,u1,u2,u3,u4,u5,u6,u7,u8,u9,v1,v2,v3,v4,v5,v6,v7,v8,v9,w1,w2,w3,w4,markL_length,inB,InR,room,bdsOk] at hpre ⊢
  obtain ⟨h1,h2,hA,hB⟩:=hpre
  refine ⟨⟨by omega,by omega⟩,⟨0,by omega,by omega,rfl,rfl⟩,fun x hx=>⟨fun h=>⟨⟨0,⟨by omega,by omega⟩,rfl,rfl,rfl⟩,fun y ⟨hy,_⟩=>⟨fun h3=>?_,fun h3=>?_⟩⟩,fun h=>?_⟩⟩
  · have X:=ivX_sq hA hB h1 x hx
    have Y:=ivY_sq hA hB (x:=x) (by omega) X y (by omega)
    have a1:=sq_row hA (x:=x) (by omega)
    have b1:=sq_row hB (x:=x) (by omega)
    have a2:=a1.2 y (by omega)
    have b2:=b1.2 y (by omega)
    have lB:=hB.1
    have y1:=Y.1.1
    have y2:=Y.2.1
    have u1:=sq_row Y.1 (x:=((A.getD x []).getD y 0).toNat) (by omega)
    have u2:=sq_row Y.2 (x:=((A.getD x []).getD y 0).toNat) (by omega)
    refine ⟨by omega,by omega,by omega,by omega,by omega,by omega,by omega,by omega,by omega,by omega,by omega,by omega,by omega,y+1,⟨by omega,by omega⟩,by omega,by omega,rfl,rfl⟩
  · refine ⟨by omega,x+1,by omega,by omega,by omega,?_,?_⟩
    · rw [show y=A.length by omega];rfl
    · rw [show y=A.length by omega];rfl
  · rw [show x=A.length by omega];exact ⟨rfl,rfl⟩
theorem l02Inverse_fits:Fits Try.prog 118 ⟨[],l02Inverse_ct⟩:=by
  refine ffn (Γ:=gam l02Inverse_G) (gok_cons l02Empty_fits gok_nil) Try.func118 fun ds p h hp=>?_
  unfold l02Inverse_ct at h
  split at h
  · cases h
    exact ⟨noWr,l02Inverse_ann _ _ ,by rw [l02Inverse_vc];exact l02Inverse_ok _ _  hp⟩
  · cases h
theorem pr_in {n m:Int} {x:Nat} (hn:1≤n) (hm:1≤m) (hx:(x:Int)<n * m):0≤(x:Int).tdiv m∧(x:Int).tdiv m≤n - 1∧0≤(x:Int).tmod m∧(x:Int).tmod m≤m - 1:=by
  have e:=tmod_in' (a:=(x:Int)) (m:=m) (by omega) hm
  rw [Int.tdiv_eq_ediv_of_nonneg (by omega)]
  have a:=Int.ediv_nonneg (show 0≤(x:Int) by omega) (show 0≤m by omega)
  have b:=Int.ediv_lt_of_lt_mul (show 0<m by omega) hx
  exact ⟨a,by omega,e.1,e.2⟩
theorem mul_12 {a m:Int} (h0:0≤a) (h1:a≤11) (h2:m≤12) (h3:0≤m):0≤a * m∧a * m≤132:=by
  have:=Int.mul_le_mul h1 h2 h3 (show (0:Int)≤11 by omega)
  exact ⟨Int.mul_nonneg h0 h3,by omega⟩
def prF (m:Int) (A C:List (List Int)) (x y:Nat):Int:=(A.getD ((x:Int).tdiv m).toNat []).getD ((y:Int).tdiv m).toNat 0 * m+(C.getD ((x:Int).tmod m).toNat []).getD ((y:Int).tmod m).toNat 0
def prS (s t:Sq):Sq:=(tabR ((s.1.length:Int) * (t.1.length:Int)).toNat (prF (t.1.length:Int) s.1 t.1),tabR ((s.1.length:Int) * (t.1.length:Int)).toNat (prF (t.1.length:Int) s.2 t.2))
def l02Product_p (A:List (List Int)) (B:List (List Int)) (C:List (List Int)) (D:List (List Int)):Post:=⟨1≤A.length∧A.length≤12∧1≤C.length∧C.length≤12∧sqB (A.length:Int) A∧sqB (A.length:Int) B∧sqB (C.length:Int) C∧sqB (C.length:Int) D,.agg [.rows 41 2 .i64 ((prS (A,B) (C,D)).1),.rows 41 2 .i64 ((prS (A,B) (C,D)).2)],[]⟩
def l02Product_ct:List AD→Option Post
  | [.agg [.rows .i64 (A),.rows .i64 (B)],.agg [.rows .i64 (C),.rows .i64 (D)]]=>some (l02Product_p A B C D)
  | _=>none
def l02Product_ann (A:List (List Int)) (B:List (List Int)) (C:List (List Int)) (D:List (List Int)):Nat→Option Ann
  | 0=>some (Ann.mk ((Nat)) (fun x=>⟨[(2,.c (.ptr 2 0)),(3,.c (.ptr 3 0)),(4,.c (.ptr 4 0)),(5,.c (.int .i64 ((A.length:Int)))),(6,.c (.int .i64 ((C.length:Int)))),(7,.c (.ptr 7 0)),(8,.c (.int .i64 ((x:Int))))],[(2,some (.box [.ro (.rows .i64 (A)),.ro (.rows .i64 (B))])),(3,some (.box [.ro (.rows .i64 (C)),.ro (.rows .i64 (D))])),(4,some (.box [.nil,.nil])),(7,some (.box [.own (100),.own (101)])),(100,some (.rows 0 41 2 .i64 ((prS (A,B) (C,D)).1.take x))),(101,some (.rows 0 41 2 .i64 ((prS (A,B) (C,D)).2.take x)))]⟩) (fun x=>(x:Int)≤(A.length:Int) * (C.length:Int)) (fun x=>((A.length:Int) * (C.length:Int)).toNat - x) (fun x=>fun b_=>match b_ with | 2=>some (Ann.mk ((Nat)) (fun y=>⟨[(2,.c (.ptr 2 0)),(3,.c (.ptr 3 0)),(4,.c (.ptr 4 0)),(5,.c (.int .i64 ((A.length:Int)))),(6,.c (.int .i64 ((C.length:Int)))),(7,.c (.ptr 7 0)),(8,.c (.int .i64 ((x:Int)))),(9,.c (.own (102))),(10,.c (.own (103))),(11,.c (.int .i64 ((y:Int))))],[(2,some (.box [.ro (.rows .i64 (A)),.ro (.rows .i64 (B))])),(3,some (.box [.ro (.rows .i64 (C)),.ro (.rows .i64 (D))])),(4,some (.box [.nil,.nil])),(7,some (.box [.own (100),.own (101)])),(100,some (.rows 0 41 2 .i64 ((prS (A,B) (C,D)).1.take x))),(101,some (.rows 0 41 2 .i64 ((prS (A,B) (C,D)).2.take x))),(102,some (.ints 2 .i64 ((tab ((A.length:Int) * (C.length:Int)).toNat (prF (C.length:Int) A C x)).take y))),(103,some (.ints 2 .i64 ((tab ((A.length:Int) * (C.length:Int)).toNat (prF (C.length:Int) B D x)).take y)))]⟩) (fun y=>(y:Int)≤(A.length:Int) * (C.length:Int)∧(x:Int)<(A.length:Int) * (C.length:Int)) (fun y=>((A.length:Int) * (C.length:Int)).toNat - y) (fun _=>noAnn)) | _=>none))
  | _=>none
def l02Product_G:List (Nat×Ctr):=[]
def l02Product_c1 (C:List (List Int)) (x0:Nat):=((Int.tdiv (↑x0:Int) (↑(C.length):Int)).toNat)
def l02Product_c2 (A:List (List Int)) (C:List (List Int)):=(((↑(A.length):Int) * (↑(C.length):Int)).toNat)
def l02Product_c3 (C:List (List Int)) (x0:Nat):=((Int.tmod (↑x0:Int) (↑(C.length):Int)).toNat)
def l02Product_V (A:List (List Int)) (B:List (List Int)) (C:List (List Int)) (D:List (List Int)):Prop :=
 ((∃x0:Nat,(((↑x0:Int)≤(↑(A.length):Int) * (↑(C.length):Int))∧(((↑(A.length):Int)=(↑(A.length):Int))∧(((↑(C.length):Int)=(↑(C.length):Int))∧(((0:Int)=(↑x0:Int))∧((A=A)∧((B=B)∧((C=C)∧((D=D)∧((List.take x0 ((prS (A,B) (C,D)).1)=([]:List (List Int)))∧(List.take x0 ((prS (A,B) (C,D)).2)=([]:List (List Int)))))))))))))∧(∀x1:Nat,(((↑x1:Int)≤(↑(A.length):Int) * (↑(C.length):Int))→((InR ((↑(A.length):Int) * (↑(C.length):Int)))∧(BrP (decide ((↑x1:Int)<(↑(A.length):Int) * (↑(C.length):Int))) ((∃x2:Nat,((((↑x2:Int)≤(↑(A.length):Int) * (↑(C.length):Int))∧((↑x1:Int)<(↑(A.length):Int) * (↑(C.length):Int)))∧(((↑(A.length):Int)=(↑(A.length):Int))∧(((↑(C.length):Int)=(↑(C.length):Int))∧(((↑x1:Int)=(↑x1:Int))∧(((0:Int)=(↑x2:Int))∧((A=A)∧((B=B)∧((C=C)∧((D=D)∧((List.take x1 ((prS (A,B) (C,D)).1)=List.take x1 ((prS (A,B) (C,D)).1))∧((List.take x1 ((prS (A,B) (C,D)).2)=List.take x1 ((prS (A,B) (C,D)).2))∧(([]=List.take x2 (tab (l02Product_c2 A C) (prF (↑(C.length):Int) A C x1)))∧([]=List.take x2 (tab (l02Product_c2 A C) (prF (↑(C.length):Int) B D x1))))))))))))))))∧(∀x3:Nat,((((↑x3:Int)≤(↑(A.length):Int) * (↑(C.length):Int))∧((↑x1:Int)<(↑(A.length):Int) * (↑(C.length):Int)))→((InR ((↑(A.length):Int) * (↑(C.length):Int)))∧(BrP (decide ((↑x3:Int)<(↑(A.length):Int) * (↑(C.length):Int))) ((((↑(C.length):Int)≠(0:Int))∧(InR (Int.tdiv (↑x1:Int) (↑(C.length):Int)))) ∧
 ((inB (Int.tdiv (↑x1:Int) (↑(C.length):Int)) (A.length))∧((((↑(C.length):Int)≠(0:Int))∧(InR (Int.tdiv (↑x3:Int) (↑(C.length):Int))))∧((inB (Int.tdiv (↑x3:Int) (↑(C.length):Int)) ((A.getD (l02Product_c1 C x1) []).length))∧((InR ((List.getD A (l02Product_c1 C x1) []).getD (l02Product_c1 C x3) (0:Int) * (↑(C.length):Int)))∧(((↑(C.length):Int)≠(0:Int))∧((inB (Int.tmod (↑x1:Int) (↑(C.length):Int)) (C.length))∧(((↑(C.length):Int)≠(0:Int))∧((inB (Int.tmod (↑x3:Int) (↑(C.length):Int)) ((C.getD (l02Product_c3 C x1) []).length))∧((InR ((List.getD A (l02Product_c1 C x1) []).getD (l02Product_c1 C x3) (0:Int) * (↑(C.length):Int)+(List.getD C (l02Product_c3 C x1) []).getD (l02Product_c3 C x3) (0:Int)))∧((room ((List.take x3 (tab (l02Product_c2 A C) (prF (↑(C.length):Int) A C x1))).length+[(List.getD A (l02Product_c1 C x1) []).getD (l02Product_c1 C x3) (0:Int) * (↑(C.length):Int)+(List.getD C (l02Product_c3 C x1) []).getD (l02Product_c3 C x3) (0:Int)].length))∧((((↑(C.length):Int)≠(0:Int))∧(InR (Int.tdiv (↑x1:Int) (↑(C.length):Int))))∧((inB (Int.tdiv (↑x1:Int) (↑(C.length):Int)) (B.length))∧((((↑(C.length):Int)≠(0:Int))∧(InR (Int.tdiv (↑x3:Int) (↑(C.length):Int))))∧((inB (Int.tdiv (↑x3:Int) (↑(C.length):Int)) ((B.getD (l02Product_c1 C x1) []).length))∧((InR ((List.getD B (l02Product_c1 C x1) []).getD (l02Product_c1 C x3) (0:Int) * (↑(C.length):Int)))∧(((↑(C.length):Int)≠(0:Int))∧((inB (Int.tmod (↑x1:Int) (↑(C.length):Int)) (D.length))∧(((↑(C.length):Int)≠(0:Int)) ∧
 ((inB (Int.tmod (↑x3:Int) (↑(C.length):Int)) ((D.getD (l02Product_c3 C x1) []).length))∧((InR ((List.getD B (l02Product_c1 C x1) []).getD (l02Product_c1 C x3) (0:Int) * (↑(C.length):Int)+(List.getD D (l02Product_c3 C x1) []).getD (l02Product_c3 C x3) (0:Int)))∧((room ((List.take x3 (tab (l02Product_c2 A C) (prF (↑(C.length):Int) B D x1))).length+[(List.getD B (l02Product_c1 C x1) []).getD (l02Product_c1 C x3) (0:Int) * (↑(C.length):Int)+(List.getD D (l02Product_c3 C x1) []).getD (l02Product_c3 C x3) (0:Int)].length))∧((InR ((↑x3:Int)+(1:Int)))∧(∃x4:Nat,((((↑x4:Int)≤(↑(A.length):Int) * (↑(C.length):Int))∧((↑x1:Int)<(↑(A.length):Int) * (↑(C.length):Int)))∧((((↑(A.length):Int) * (↑(C.length):Int)).toNat - x4<((↑(A.length):Int) * (↑(C.length):Int)).toNat - x3)∧(((↑(A.length):Int)=(↑(A.length):Int))∧(((↑(C.length):Int)=(↑(C.length):Int))∧(((↑x1:Int)=(↑x1:Int))∧(((↑x3:Int)+(1:Int)=(↑x4:Int))∧((A=A)∧((B=B)∧((C=C)∧((D=D)∧((List.take x1 ((prS (A,B) (C,D)).1)=List.take x1 ((prS (A,B) (C,D)).1))∧((List.take x1 ((prS (A,B) (C,D)).2)=List.take x1 ((prS (A,B) (C,D)).2))∧((List.take x3 (tab (l02Product_c2 A C) (prF (↑(C.length):Int) A C x1))++[(List.getD A (l02Product_c1 C x1) []).getD (l02Product_c1 C x3) (0:Int) * (↑(C.length):Int)+(List.getD C (l02Product_c3 C x1) []).getD (l02Product_c3 C x3) (0:Int)]=List.take x4 (tab (l02Product_c2 A C) (prF (↑(C.length):Int) A C x1))) ∧
 (List.take x3 (tab (l02Product_c2 A C) (prF (↑(C.length):Int) B D x1))++[(List.getD B (l02Product_c1 C x1) []).getD (l02Product_c1 C x3) (0:Int) * (↑(C.length):Int)+(List.getD D (l02Product_c3 C x1) []).getD (l02Product_c3 C x3) (0:Int)]=List.take x4 (tab (l02Product_c2 A C) (prF (↑(C.length):Int) B D x1)))))))))))))))))))))))))))))))))))))))) ((room ((List.take x1 ((prS (A,B) (C,D)).1)).length+(List.take x3 (tab (l02Product_c2 A C) (prF (↑(C.length):Int) A C x1))::([]:List (List Int))).length))∧((room ((List.take x1 ((prS (A,B) (C,D)).2)).length+(List.take x3 (tab (l02Product_c2 A C) (prF (↑(C.length):Int) B D x1))::([]:List (List Int))).length))∧((InR ((↑x1:Int)+(1:Int)))∧(∃x5:Nat,(((↑x5:Int)≤(↑(A.length):Int) * (↑(C.length):Int))∧((((↑(A.length):Int) * (↑(C.length):Int)).toNat - x5<((↑(A.length):Int) * (↑(C.length):Int)).toNat - x1)∧(((↑(A.length):Int)=(↑(A.length):Int))∧(((↑(C.length):Int)=(↑(C.length):Int))∧(((↑x1:Int)+(1:Int)=(↑x5:Int))∧((A=A)∧((B=B)∧((C=C)∧((D=D)∧((List.take x1 ((prS (A,B) (C,D)).1)++List.take x3 (tab (l02Product_c2 A C) (prF (↑(C.length):Int) A C x1))::([]:List (List Int))=List.take x5 ((prS (A,B) (C,D)).1))∧(List.take x1 ((prS (A,B) (C,D)).2)++List.take x3 (tab (l02Product_c2 A C) (prF (↑(C.length):Int) B D x1))::([]:List (List Int))=List.take x5 ((prS (A,B) (C,D)).2))))))))))))))))))))) (((List.take x1 ((prS (A,B) (C,D)).1)=(prS (A,B) (C,D)).1) ∧
 ((List.take x1 ((prS (A,B) (C,D)).2)=(prS (A,B) (C,D)).2)∧True))∧True))))))
theorem l02Product_vc (A:List (List Int)) (B:List (List Int)) (C:List (List Int)) (D:List (List Int)):runF Try.prog (gam l02Product_G) noWr (l02Product_ann A B C D) Try.f114 (bodyOf Try.f114) [] [.agg [.rows .i64 (A),.rows .i64 (B)],.agg [.rows .i64 (C),.rows .i64 (D)]] (l02Product_p A B C D)=l02Product_V A B C D:=by kernel_rfl
theorem l02Product_ok (A:List (List Int)) (B:List (List Int)) (C:List (List Int)) (D:List (List Int)) (hpre:(l02Product_p A B C D).pre):l02Product_V A B C D:=by
  simp only [l02Product_p,l02Product_V,l02Product_c1,l02Product_c2,l02Product_c3,BrP_iff,u1,u2,u3,u4,u5,u6,u7,u8,u9,v1,v2,v3,v4,v5,v6,v7,v8,v9,w1,w2,w3,w4,markL_length,inB,InR,room,bdsOk] at hpre ⊢
  obtain ⟨h1,h2,h3,h4,hA,hB,hC,hD⟩:=hpre
  have mx:(A.length:Int) * (C.length:Int)≤12 * 12:=Int.mul_le_mul (by omega) (by omega) (by omega) (by omega)
  have mn:0≤(A.length:Int) * (C.length:Int):=Int.mul_nonneg (by omega) (by omega)
  have lA:(prS (A,B) (C,D)).1.length=((A.length:Int) * (C.length:Int)).toNat:=tabR_length _ _
  have lB:(prS (A,B) (C,D)).2.length=((A.length:Int) * (C.length:Int)).toNat:=tabR_length _ _
  have lBB:=hB.1
  have lDD:=hD.1
  refine ⟨⟨0,by omega,rfl,rfl,rfl⟩,fun x hx=>⟨by omega,fun h=>⟨⟨0,⟨by omega,by omega⟩,rfl,rfl,rfl⟩,fun y ⟨hy,_⟩=>⟨by omega,fun h5=>?_,fun h5=>?_⟩⟩,fun h=>?_⟩⟩
  · have l1:(tab ((A.length:Int) * (C.length:Int)).toNat (prF (C.length:Int) A C x)).length=((A.length:Int) * (C.length:Int)).toNat:=tab_length _ _
    have l2:(tab ((A.length:Int) * (C.length:Int)).toNat (prF (C.length:Int) B D x)).length=((A.length:Int) * (C.length:Int)).toNat:=tab_length _ _
    obtain ⟨p1,p2,p3,p4⟩:=pr_in (n:=(A.length:Int)) (m:=(C.length:Int)) (x:=x) (by omega) (by omega) h
    obtain ⟨q1,q2,q3,q4⟩:=pr_in (n:=(A.length:Int)) (m:=(C.length:Int)) (x:=y) (by omega) (by omega) h5
    have a1:=sq_row hA (x:=((x:Int).tdiv (C.length:Int)).toNat) (by omega)
    have b1:=sq_row hB (x:=((x:Int).tdiv (C.length:Int)).toNat) (by omega)
    have c1:=sq_row hC (x:=((x:Int).tmod (C.length:Int)).toNat) (by omega)
    have d1:=sq_row hD (x:=((x:Int).tmod (C.length:Int)).toNat) (by omega)
    have a2:=a1.2 ((y:Int).tdiv (C.length:Int)).toNat (by omega)
    have b2:=b1.2 ((y:Int).tdiv (C.length:Int)).toNat (by omega)
    have c2:=c1.2 ((y:Int).tmod (C.length:Int)).toNat (by omega)
    have d2:=d1.2 ((y:Int).tmod (C.length:Int)).toNat (by omega)
    have ea:=mul_12 a2.1 (show _≤(11:Int) by omega) (show (C.length:Int)≤12 by omega) (by omega)
    have eb:=mul_12 b2.1 (show _≤(11:Int) by omega) (show (C.length:Int)≤12 by omega) (by omega)
    refine ⟨⟨by omega,by omega⟩,by omega,⟨by omega,by omega⟩,by omega,by omega,by omega,by omega,by omega,by omega,by omega,by omega,⟨by omega,by omega⟩,by omega,⟨by omega,by omega⟩,by omega,by omega,by omega,by omega,by omega,by omega,by omega,by omega,by omega,y+1,⟨by omega,by omega⟩,by omega,by omega,?_,?_⟩
    · exact tab_snoc (prF (C.length:Int) A C x) (by omega)
    · exact tab_snoc (prF (C.length:Int) B D x) (by omega)
  · have l1:(tab ((A.length:Int) * (C.length:Int)).toNat (prF (C.length:Int) A C x)).length=((A.length:Int) * (C.length:Int)).toNat:=tab_length _ _
    have l2:(tab ((A.length:Int) * (C.length:Int)).toNat (prF (C.length:Int) B D x)).length=((A.length:Int) * (C.length:Int)).toNat:=tab_length _ _
    refine ⟨by omega,by omega,by omega,x+1,by omega,by omega,by omega,?_,?_⟩
    · rw [List.take_of_length_le (l:=tab _ (prF (C.length:Int) A C x)) (by omega)];exact rows_snoc (prF (C.length:Int) A C) (show x<((A.length:Int) * (C.length:Int)).toNat by omega)
    · rw [List.take_of_length_le (l:=tab _ (prF (C.length:Int) B D x)) (by omega)];exact rows_snoc (prF (C.length:Int) B D) (show x<((A.length:Int) * (C.length:Int)).toNat by omega)
  · exact ⟨List.take_of_length_le (by omega),List.take_of_length_le (by omega)⟩
theorem l02Product_fits:Fits Try.prog 114 ⟨[],l02Product_ct⟩:=by
  refine ffn (Γ:=gam l02Product_G) gok_nil Try.func114 fun ds p h hp=>?_
  unfold l02Product_ct at h
  split at h
  · cases h
    exact ⟨noWr,l02Product_ann _ _ _ _ ,by rw [l02Product_vc];exact l02Product_ok _ _ _ _  hp⟩
  · cases h
def unF (n:Int) (A C:List (List Int)) (d:Nat→Nat→Int) (x y:Nat):Int :=
  if (x:Int)<n∧(y:Int)<n then (A.getD x []).getD y 0 else if n≤(x:Int)∧n≤(y:Int) then (C.getD ((x:Int) - n).toNat []).getD ((y:Int) - n).toNat 0+n else d x y
def unS (s t:Sq):Sq:=(tabR ((s.1.length:Int)+(t.1.length:Int)).toNat (unF (s.1.length:Int) s.1 t.1 fun _ y=>(y:Int)),tabR ((s.1.length:Int)+(t.1.length:Int)).toNat (unF (s.1.length:Int) s.2 t.2 fun x _=>(x:Int)))
def l02Union_p (A:List (List Int)) (B:List (List Int)) (C:List (List Int)) (D:List (List Int)):Post:=⟨1≤A.length∧A.length≤12∧1≤C.length∧C.length≤12∧sqB (A.length:Int) A∧sqB (A.length:Int) B∧sqB (C.length:Int) C∧sqB (C.length:Int) D,.agg [.rows 41 2 .i64 ((unS (A,B) (C,D)).1),.rows 41 2 .i64 ((unS (A,B) (C,D)).2)],[]⟩
def l02Union_ct:List AD→Option Post
  | [.agg [.rows .i64 (A),.rows .i64 (B)],.agg [.rows .i64 (C),.rows .i64 (D)]]=>some (l02Union_p A B C D)
  | _=>none
def l02Union_ann (A:List (List Int)) (B:List (List Int)) (C:List (List Int)) (D:List (List Int)):Nat→Option Ann
  | 0=>some (Ann.mk ((Nat)) (fun x=>⟨[(2,.c (.ptr 2 0)),(3,.c (.ptr 3 0)),(4,.c (.ptr 4 0)),(5,.c (.int .i64 ((A.length:Int)))),(6,.c (.int .i64 ((C.length:Int)))),(7,.c (.ptr 7 0)),(8,.c (.int .i64 ((x:Int))))],[(2,some (.box [.ro (.rows .i64 (A)),.ro (.rows .i64 (B))])),(3,some (.box [.ro (.rows .i64 (C)),.ro (.rows .i64 (D))])),(4,some (.box [.nil,.nil])),(7,some (.box [.own (100),.own (101)])),(100,some (.rows 0 41 2 .i64 ((unS (A,B) (C,D)).1.take x))),(101,some (.rows 0 41 2 .i64 ((unS (A,B) (C,D)).2.take x)))]⟩) (fun x=>(x:Int)≤(A.length:Int)+(C.length:Int)) (fun x=>((A.length:Int)+(C.length:Int)).toNat - x) (fun x=>fun b_=>match b_ with | 2=>some (Ann.mk ((Nat)) (fun y=>⟨[(2,.c (.ptr 2 0)),(3,.c (.ptr 3 0)),(4,.c (.ptr 4 0)),(5,.c (.int .i64 ((A.length:Int)))),(6,.c (.int .i64 ((C.length:Int)))),(7,.c (.ptr 7 0)),(8,.c (.int .i64 ((x:Int)))),(9,.c (.own (102))),(10,.c (.own (103))),(11,.c (.int .i64 ((y:Int))))],[(2,some (.box [.ro (.rows .i64 (A)),.ro (.rows .i64 (B))])),(3,some (.box [.ro (.rows .i64 (C)),.ro (.rows .i64 (D))])),(4,some (.box [.nil,.nil])),(7,some (.box [.own (100),.own (101)])),(100,some (.rows 0 41 2 .i64 ((unS (A,B) (C,D)).1.take x))),(101,some (.rows 0 41 2 .i64 ((unS (A,B) (C,D)).2.take x))),(102,some (.ints 2 .i64 ((tab ((A.length:Int)+(C.length:Int)).toNat (unF (A.length:Int) A C (fun _ y=>(y:Int)) x)).take y))),(103,some (.ints 2 .i64 ((tab ((A.length:Int)+(C.length:Int)).toNat (unF (A.length:Int) B D (fun x _=>(x:Int)) x)).take y)))]⟩) (fun y=>(y:Int)≤(A.length:Int)+(C.length:Int)∧(x:Int)<(A.length:Int)+(C.length:Int)) (fun y=>((A.length:Int)+(C.length:Int)).toNat - y) (fun _=>noAnn)) | _=>none))
  | _=>none
def l02Union_G:List (Nat×Ctr):=[]
def l02Union_c1 (A:List (List Int)) (C:List (List Int)):=(((↑(A.length):Int)+(↑(C.length):Int)).toNat)
def l02Union_c2 (A:List (List Int)) (x0:Nat):=(((↑x0:Int) - (↑(A.length):Int)).toNat)
def l02Union_V (A:List (List Int)) (B:List (List Int)) (C:List (List Int)) (D:List (List Int)):Prop :=
 ((∃x0:Nat,(((↑x0:Int)≤(↑(A.length):Int)+(↑(C.length):Int))∧(((↑(A.length):Int)=(↑(A.length):Int))∧(((↑(C.length):Int)=(↑(C.length):Int))∧(((0:Int)=(↑x0:Int))∧((A=A)∧((B=B)∧((C=C)∧((D=D)∧((List.take x0 ((unS (A,B) (C,D)).1)=([]:List (List Int)))∧(List.take x0 ((unS (A,B) (C,D)).2)=([]:List (List Int)))))))))))))∧(∀x1:Nat,(((↑x1:Int)≤(↑(A.length):Int)+(↑(C.length):Int))→((InR ((↑(A.length):Int)+(↑(C.length):Int)))∧(BrP (decide ((↑x1:Int)<(↑(A.length):Int)+(↑(C.length):Int))) ((∃x2:Nat,((((↑x2:Int)≤(↑(A.length):Int)+(↑(C.length):Int))∧((↑x1:Int)<(↑(A.length):Int)+(↑(C.length):Int)))∧(((↑(A.length):Int)=(↑(A.length):Int))∧(((↑(C.length):Int)=(↑(C.length):Int))∧(((↑x1:Int)=(↑x1:Int))∧(((0:Int)=(↑x2:Int))∧((A=A)∧((B=B)∧((C=C)∧((D=D)∧((List.take x1 ((unS (A,B) (C,D)).1)=List.take x1 ((unS (A,B) (C,D)).1))∧((List.take x1 ((unS (A,B) (C,D)).2)=List.take x1 ((unS (A,B) (C,D)).2))∧(([]=List.take x2 (tab (l02Union_c1 A C) (unF (↑(A.length):Int) A C (fun (x y:Nat)=>(↑y:Int)) x1)))∧([]=List.take x2 (tab (l02Union_c1 A C) (unF (↑(A.length):Int) B D (fun (x x_1:Nat)=>(↑x:Int)) x1))))))))))))))))∧(∀x3:Nat,((((↑x3:Int)≤(↑(A.length):Int)+(↑(C.length):Int))∧((↑x1:Int)<(↑(A.length):Int)+(↑(C.length):Int)))→((InR ((↑(A.length):Int)+(↑(C.length):Int)))∧(BrP (decide ((↑x3:Int)<(↑(A.length):Int)+(↑(C.length):Int))) (BrP (decide ((↑x1:Int)<(↑(A.length):Int)))
 (BrP (decide ((↑x3:Int)<(↑(A.length):Int))) ((inB (↑x1:Int) (A.length))∧((inB (↑x3:Int) ((A.getD ((↑x1:Int).toNat) []).length))∧((room ((List.take x3 (tab (l02Union_c1 A C) (unF (↑(A.length):Int) A C (fun (x y:Nat)=>(↑y:Int)) x1))).length+[(List.getD A ((↑x1:Int).toNat) []).getD ((↑x3:Int).toNat) (0:Int)].length))∧((inB (↑x1:Int) (B.length))∧((inB (↑x3:Int) ((B.getD ((↑x1:Int).toNat) []).length))∧((room ((List.take x3 (tab (l02Union_c1 A C) (unF (↑(A.length):Int) B D (fun (x x_1:Nat)=>(↑x:Int)) x1))).length+[(List.getD B ((↑x1:Int).toNat) []).getD ((↑x3:Int).toNat) (0:Int)].length))∧((InR ((↑x3:Int)+(1:Int)))∧(∃x4:Nat,((((↑x4:Int)≤(↑(A.length):Int)+(↑(C.length):Int))∧((↑x1:Int)<(↑(A.length):Int)+(↑(C.length):Int)))∧((((↑(A.length):Int)+(↑(C.length):Int)).toNat - x4<((↑(A.length):Int)+(↑(C.length):Int)).toNat - x3)∧(((↑(A.length):Int)=(↑(A.length):Int))∧(((↑(C.length):Int)=(↑(C.length):Int))∧(((↑x1:Int)=(↑x1:Int))∧(((↑x3:Int)+(1:Int)=(↑x4:Int))∧((A=A)∧((B=B)∧((C=C)∧((D=D)∧((List.take x1 ((unS (A,B) (C,D)).1)=List.take x1 ((unS (A,B) (C,D)).1))∧((List.take x1 ((unS (A,B) (C,D)).2)=List.take x1 ((unS (A,B) (C,D)).2))∧((List.take x3 (tab (l02Union_c1 A C) (unF (↑(A.length):Int) A C (fun (x y:Nat)=>(↑y:Int)) x1))++[(List.getD A ((↑x1:Int).toNat) []).getD ((↑x3:Int).toNat) (0:Int)]=List.take x4 (tab (l02Union_c1 A C) (unF (↑(A.length):Int) A C (fun (x y:Nat)=>(↑y:Int)) x1))) ∧
 (List.take x3 (tab (l02Union_c1 A C) (unF (↑(A.length):Int) B D (fun (x x_1:Nat)=>(↑x:Int)) x1))++[(List.getD B ((↑x1:Int).toNat) []).getD ((↑x3:Int).toNat) (0:Int)]=List.take x4 (tab (l02Union_c1 A C) (unF (↑(A.length):Int) B D (fun (x x_1:Nat)=>(↑x:Int)) x1)))))))))))))))))))))))) (BrP (decide ((↑(A.length):Int)≤(↑x1:Int))) (BrP (decide ((↑(A.length):Int)≤(↑x3:Int))) ((InR ((↑x1:Int) - (↑(A.length):Int)))∧((inB ((↑x1:Int) - (↑(A.length):Int)) (C.length))∧((InR ((↑x3:Int) - (↑(A.length):Int)))∧((inB ((↑x3:Int) - (↑(A.length):Int)) ((C.getD (l02Union_c2 A x1) []).length))∧((InR ((List.getD C (l02Union_c2 A x1) []).getD (l02Union_c2 A x3) (0:Int)+(↑(A.length):Int)))∧((room ((List.take x3 (tab (l02Union_c1 A C) (unF (↑(A.length):Int) A C (fun (x y:Nat)=>(↑y:Int)) x1))).length+[(List.getD C (l02Union_c2 A x1) []).getD (l02Union_c2 A x3) (0:Int)+(↑(A.length):Int)].length))∧((InR ((↑x1:Int) - (↑(A.length):Int)))∧((inB ((↑x1:Int) - (↑(A.length):Int)) (D.length))∧((InR ((↑x3:Int) - (↑(A.length):Int)))∧((inB ((↑x3:Int) - (↑(A.length):Int)) ((D.getD (l02Union_c2 A x1) []).length))∧((InR ((List.getD D (l02Union_c2 A x1) []).getD (l02Union_c2 A x3) (0:Int)+(↑(A.length):Int)))∧((room ((List.take x3 (tab (l02Union_c1 A C) (unF (↑(A.length):Int) B D (fun (x x_1:Nat)=>(↑x:Int)) x1))).length+[(List.getD D (l02Union_c2 A x1) []).getD (l02Union_c2 A x3) (0:Int)+(↑(A.length):Int)].length))∧((InR ((↑x3:Int)+(1:Int))) ∧
 (∃x5:Nat,((((↑x5:Int)≤(↑(A.length):Int)+(↑(C.length):Int))∧((↑x1:Int)<(↑(A.length):Int)+(↑(C.length):Int)))∧((((↑(A.length):Int)+(↑(C.length):Int)).toNat - x5<((↑(A.length):Int)+(↑(C.length):Int)).toNat - x3)∧(((↑(A.length):Int)=(↑(A.length):Int))∧(((↑(C.length):Int)=(↑(C.length):Int))∧(((↑x1:Int)=(↑x1:Int))∧(((↑x3:Int)+(1:Int)=(↑x5:Int))∧((A=A)∧((B=B)∧((C=C)∧((D=D)∧((List.take x1 ((unS (A,B) (C,D)).1)=List.take x1 ((unS (A,B) (C,D)).1))∧((List.take x1 ((unS (A,B) (C,D)).2)=List.take x1 ((unS (A,B) (C,D)).2))∧((List.take x3 (tab (l02Union_c1 A C) (unF (↑(A.length):Int) A C (fun (x y:Nat)=>(↑y:Int)) x1))++[(List.getD C (l02Union_c2 A x1) []).getD (l02Union_c2 A x3) (0:Int)+(↑(A.length):Int)]=List.take x5 (tab (l02Union_c1 A C) (unF (↑(A.length):Int) A C (fun (x y:Nat)=>(↑y:Int)) x1)))∧(List.take x3 (tab (l02Union_c1 A C) (unF (↑(A.length):Int) B D (fun (x x_1:Nat)=>(↑x:Int)) x1))++[(List.getD D (l02Union_c2 A x1) []).getD (l02Union_c2 A x3) (0:Int)+(↑(A.length):Int)]=List.take x5 (tab (l02Union_c1 A C) (unF (↑(A.length):Int) B D (fun (x x_1:Nat)=>(↑x:Int)) x1)))))))))))))))))))))))))))))) ((room ((List.take x3 (tab (l02Union_c1 A C) (unF (↑(A.length):Int) A C (fun (x y:Nat)=>(↑y:Int)) x1))).length+[(↑x3:Int)].length))∧((room ((List.take x3 (tab (l02Union_c1 A C) (unF (↑(A.length):Int) B D (fun (x x_1:Nat)=>(↑x:Int)) x1))).length+[(↑x1:Int)].length))∧((InR ((↑x3:Int)+(1:Int))) ∧
 (∃x6:Nat,((((↑x6:Int)≤(↑(A.length):Int)+(↑(C.length):Int))∧((↑x1:Int)<(↑(A.length):Int)+(↑(C.length):Int)))∧((((↑(A.length):Int)+(↑(C.length):Int)).toNat - x6<((↑(A.length):Int)+(↑(C.length):Int)).toNat - x3)∧(((↑(A.length):Int)=(↑(A.length):Int))∧(((↑(C.length):Int)=(↑(C.length):Int))∧(((↑x1:Int)=(↑x1:Int))∧(((↑x3:Int)+(1:Int)=(↑x6:Int))∧((A=A)∧((B=B)∧((C=C)∧((D=D)∧((List.take x1 ((unS (A,B) (C,D)).1)=List.take x1 ((unS (A,B) (C,D)).1))∧((List.take x1 ((unS (A,B) (C,D)).2)=List.take x1 ((unS (A,B) (C,D)).2))∧((List.take x3 (tab (l02Union_c1 A C) (unF (↑(A.length):Int) A C (fun (x y:Nat)=>(↑y:Int)) x1))++[(↑x3:Int)]=List.take x6 (tab (l02Union_c1 A C) (unF (↑(A.length):Int) A C (fun (x y:Nat)=>(↑y:Int)) x1)))∧(List.take x3 (tab (l02Union_c1 A C) (unF (↑(A.length):Int) B D (fun (x x_1:Nat)=>(↑x:Int)) x1))++[(↑x1:Int)]=List.take x6 (tab (l02Union_c1 A C) (unF (↑(A.length):Int) B D (fun (x x_1:Nat)=>(↑x:Int)) x1))))))))))))))))))))) ((room ((List.take x3 (tab (l02Union_c1 A C) (unF (↑(A.length):Int) A C (fun (x y:Nat)=>(↑y:Int)) x1))).length+[(↑x3:Int)].length))∧((room ((List.take x3 (tab (l02Union_c1 A C) (unF (↑(A.length):Int) B D (fun (x x_1:Nat)=>(↑x:Int)) x1))).length+[(↑x1:Int)].length))∧((InR ((↑x3:Int)+(1:Int)))∧(∃x7:Nat,((((↑x7:Int)≤(↑(A.length):Int)+(↑(C.length):Int))∧((↑x1:Int)<(↑(A.length):Int)+(↑(C.length):Int))) ∧
 ((((↑(A.length):Int)+(↑(C.length):Int)).toNat - x7<((↑(A.length):Int)+(↑(C.length):Int)).toNat - x3)∧(((↑(A.length):Int)=(↑(A.length):Int))∧(((↑(C.length):Int)=(↑(C.length):Int))∧(((↑x1:Int)=(↑x1:Int))∧(((↑x3:Int)+(1:Int)=(↑x7:Int))∧((A=A)∧((B=B)∧((C=C)∧((D=D)∧((List.take x1 ((unS (A,B) (C,D)).1)=List.take x1 ((unS (A,B) (C,D)).1))∧((List.take x1 ((unS (A,B) (C,D)).2)=List.take x1 ((unS (A,B) (C,D)).2))∧((List.take x3 (tab (l02Union_c1 A C) (unF (↑(A.length):Int) A C (fun (x y:Nat)=>(↑y:Int)) x1))++[(↑x3:Int)]=List.take x7 (tab (l02Union_c1 A C) (unF (↑(A.length):Int) A C (fun (x y:Nat)=>(↑y:Int)) x1)))∧(List.take x3 (tab (l02Union_c1 A C) (unF (↑(A.length):Int) B D (fun (x x_1:Nat)=>(↑x:Int)) x1))++[(↑x1:Int)]=List.take x7 (tab (l02Union_c1 A C) (unF (↑(A.length):Int) B D (fun (x x_1:Nat)=>(↑x:Int)) x1)))))))))))))))))))))) (BrP (decide ((↑(A.length):Int)≤(↑x1:Int))) (BrP (decide ((↑(A.length):Int)≤(↑x3:Int))) ((InR ((↑x1:Int) - (↑(A.length):Int)))∧((inB ((↑x1:Int) - (↑(A.length):Int)) (C.length))∧((InR ((↑x3:Int) - (↑(A.length):Int)))∧((inB ((↑x3:Int) - (↑(A.length):Int)) ((C.getD (l02Union_c2 A x1) []).length))∧((InR ((List.getD C (l02Union_c2 A x1) []).getD (l02Union_c2 A x3) (0:Int)+(↑(A.length):Int))) ∧
 ((room ((List.take x3 (tab (l02Union_c1 A C) (unF (↑(A.length):Int) A C (fun (x y:Nat)=>(↑y:Int)) x1))).length+[(List.getD C (l02Union_c2 A x1) []).getD (l02Union_c2 A x3) (0:Int)+(↑(A.length):Int)].length))∧((InR ((↑x1:Int) - (↑(A.length):Int)))∧((inB ((↑x1:Int) - (↑(A.length):Int)) (D.length))∧((InR ((↑x3:Int) - (↑(A.length):Int)))∧((inB ((↑x3:Int) - (↑(A.length):Int)) ((D.getD (l02Union_c2 A x1) []).length))∧((InR ((List.getD D (l02Union_c2 A x1) []).getD (l02Union_c2 A x3) (0:Int)+(↑(A.length):Int)))∧((room ((List.take x3 (tab (l02Union_c1 A C) (unF (↑(A.length):Int) B D (fun (x x_1:Nat)=>(↑x:Int)) x1))).length+[(List.getD D (l02Union_c2 A x1) []).getD (l02Union_c2 A x3) (0:Int)+(↑(A.length):Int)].length))∧((InR ((↑x3:Int)+(1:Int)))∧(∃x8:Nat,((((↑x8:Int)≤(↑(A.length):Int)+(↑(C.length):Int))∧((↑x1:Int)<(↑(A.length):Int)+(↑(C.length):Int)))∧((((↑(A.length):Int)+(↑(C.length):Int)).toNat - x8<((↑(A.length):Int)+(↑(C.length):Int)).toNat - x3)∧(((↑(A.length):Int)=(↑(A.length):Int))∧(((↑(C.length):Int)=(↑(C.length):Int))∧(((↑x1:Int)=(↑x1:Int))∧(((↑x3:Int)+(1:Int)=(↑x8:Int))∧((A=A)∧((B=B)∧((C=C)∧((D=D)∧((List.take x1 ((unS (A,B) (C,D)).1)=List.take x1 ((unS (A,B) (C,D)).1))∧((List.take x1 ((unS (A,B) (C,D)).2)=List.take x1 ((unS (A,B) (C,D)).2)) ∧
 ((List.take x3 (tab (l02Union_c1 A C) (unF (↑(A.length):Int) A C (fun (x y:Nat)=>(↑y:Int)) x1))++[(List.getD C (l02Union_c2 A x1) []).getD (l02Union_c2 A x3) (0:Int)+(↑(A.length):Int)]=List.take x8 (tab (l02Union_c1 A C) (unF (↑(A.length):Int) A C (fun (x y:Nat)=>(↑y:Int)) x1)))∧(List.take x3 (tab (l02Union_c1 A C) (unF (↑(A.length):Int) B D (fun (x x_1:Nat)=>(↑x:Int)) x1))++[(List.getD D (l02Union_c2 A x1) []).getD (l02Union_c2 A x3) (0:Int)+(↑(A.length):Int)]=List.take x8 (tab (l02Union_c1 A C) (unF (↑(A.length):Int) B D (fun (x x_1:Nat)=>(↑x:Int)) x1)))))))))))))))))))))))))))))) ((room ((List.take x3 (tab (l02Union_c1 A C) (unF (↑(A.length):Int) A C (fun (x y:Nat)=>(↑y:Int)) x1))).length+[(↑x3:Int)].length))∧((room ((List.take x3 (tab (l02Union_c1 A C) (unF (↑(A.length):Int) B D (fun (x x_1:Nat)=>(↑x:Int)) x1))).length+[(↑x1:Int)].length))∧((InR ((↑x3:Int)+(1:Int)))∧(∃x9:Nat,((((↑x9:Int)≤(↑(A.length):Int)+(↑(C.length):Int))∧((↑x1:Int)<(↑(A.length):Int)+(↑(C.length):Int)))∧((((↑(A.length):Int)+(↑(C.length):Int)).toNat - x9<((↑(A.length):Int)+(↑(C.length):Int)).toNat - x3)∧(((↑(A.length):Int)=(↑(A.length):Int))∧(((↑(C.length):Int)=(↑(C.length):Int))∧(((↑x1:Int)=(↑x1:Int))∧(((↑x3:Int)+(1:Int)=(↑x9:Int))∧((A=A)∧((B=B)∧((C=C)∧((D=D)∧((List.take x1 ((unS (A,B) (C,D)).1)=List.take x1 ((unS (A,B) (C,D)).1))∧((List.take x1 ((unS (A,B) (C,D)).2)=List.take x1 ((unS (A,B) (C,D)).2)) ∧
 ((List.take x3 (tab (l02Union_c1 A C) (unF (↑(A.length):Int) A C (fun (x y:Nat)=>(↑y:Int)) x1))++[(↑x3:Int)]=List.take x9 (tab (l02Union_c1 A C) (unF (↑(A.length):Int) A C (fun (x y:Nat)=>(↑y:Int)) x1)))∧(List.take x3 (tab (l02Union_c1 A C) (unF (↑(A.length):Int) B D (fun (x x_1:Nat)=>(↑x:Int)) x1))++[(↑x1:Int)]=List.take x9 (tab (l02Union_c1 A C) (unF (↑(A.length):Int) B D (fun (x x_1:Nat)=>(↑x:Int)) x1))))))))))))))))))))) ((room ((List.take x3 (tab (l02Union_c1 A C) (unF (↑(A.length):Int) A C (fun (x y:Nat)=>(↑y:Int)) x1))).length+[(↑x3:Int)].length))∧((room ((List.take x3 (tab (l02Union_c1 A C) (unF (↑(A.length):Int) B D (fun (x x_1:Nat)=>(↑x:Int)) x1))).length+[(↑x1:Int)].length))∧((InR ((↑x3:Int)+(1:Int)))∧(∃x10:Nat,((((↑x10:Int)≤(↑(A.length):Int)+(↑(C.length):Int))∧((↑x1:Int)<(↑(A.length):Int)+(↑(C.length):Int)))∧((((↑(A.length):Int)+(↑(C.length):Int)).toNat - x10<((↑(A.length):Int)+(↑(C.length):Int)).toNat - x3)∧(((↑(A.length):Int)=(↑(A.length):Int))∧(((↑(C.length):Int)=(↑(C.length):Int))∧(((↑x1:Int)=(↑x1:Int))∧(((↑x3:Int)+(1:Int)=(↑x10:Int))∧((A=A)∧((B=B)∧((C=C)∧((D=D)∧((List.take x1 ((unS (A,B) (C,D)).1)=List.take x1 ((unS (A,B) (C,D)).1))∧((List.take x1 ((unS (A,B) (C,D)).2)=List.take x1 ((unS (A,B) (C,D)).2)) ∧
 ((List.take x3 (tab (l02Union_c1 A C) (unF (↑(A.length):Int) A C (fun (x y:Nat)=>(↑y:Int)) x1))++[(↑x3:Int)]=List.take x10 (tab (l02Union_c1 A C) (unF (↑(A.length):Int) A C (fun (x y:Nat)=>(↑y:Int)) x1)))∧(List.take x3 (tab (l02Union_c1 A C) (unF (↑(A.length):Int) B D (fun (x x_1:Nat)=>(↑x:Int)) x1))++[(↑x1:Int)]=List.take x10 (tab (l02Union_c1 A C) (unF (↑(A.length):Int) B D (fun (x x_1:Nat)=>(↑x:Int)) x1)))))))))))))))))))))) ((room ((List.take x1 ((unS (A,B) (C,D)).1)).length+(List.take x3 (tab (l02Union_c1 A C) (unF (↑(A.length):Int) A C (fun (x y:Nat)=>(↑y:Int)) x1))::([]:List (List Int))).length))∧((room ((List.take x1 ((unS (A,B) (C,D)).2)).length+(List.take x3 (tab (l02Union_c1 A C) (unF (↑(A.length):Int) B D (fun (x x_1:Nat)=>(↑x:Int)) x1))::([]:List (List Int))).length))∧((InR ((↑x1:Int)+(1:Int)))∧(∃x11:Nat,(((↑x11:Int)≤(↑(A.length):Int)+(↑(C.length):Int))∧((((↑(A.length):Int)+(↑(C.length):Int)).toNat - x11<((↑(A.length):Int)+(↑(C.length):Int)).toNat - x1)∧(((↑(A.length):Int)=(↑(A.length):Int))∧(((↑(C.length):Int)=(↑(C.length):Int))∧(((↑x1:Int)+(1:Int)=(↑x11:Int))∧((A=A)∧((B=B)∧((C=C)∧((D=D)∧((List.take x1 ((unS (A,B) (C,D)).1)++List.take x3 (tab (l02Union_c1 A C) (unF (↑(A.length):Int) A C (fun (x y:Nat)=>(↑y:Int)) x1))::([]:List (List Int))=List.take x11 ((unS (A,B) (C,D)).1)) ∧
 (List.take x1 ((unS (A,B) (C,D)).2)++List.take x3 (tab (l02Union_c1 A C) (unF (↑(A.length):Int) B D (fun (x x_1:Nat)=>(↑x:Int)) x1))::([]:List (List Int))=List.take x11 ((unS (A,B) (C,D)).2))))))))))))))))))))) (((List.take x1 ((unS (A,B) (C,D)).1)=(unS (A,B) (C,D)).1)∧((List.take x1 ((unS (A,B) (C,D)).2)=(unS (A,B) (C,D)).2)∧True))∧True))))))
theorem l02Union_vc (A:List (List Int)) (B:List (List Int)) (C:List (List Int)) (D:List (List Int)):runF Try.prog (gam l02Union_G) noWr (l02Union_ann A B C D) Try.f116 (bodyOf Try.f116) [] [.agg [.rows .i64 (A),.rows .i64 (B)],.agg [.rows .i64 (C),.rows .i64 (D)]] (l02Union_p A B C D)=l02Union_V A B C D:=by kernel_rfl
theorem l02Union_ok (A:List (List Int)) (B:List (List Int)) (C:List (List Int)) (D:List (List Int)) (hpre:(l02Union_p A B C D).pre):l02Union_V A B C D:=by
  simp only [l02Union_p,l02Union_V,l02Union_c1,l02Union_c2,BrP_iff,u1,u2,u3,u4,u5,u6,u7,u8,u9,v1,v2,v3,v4,v5,v6,v7,v8,v9,w1,w2,w3,w4,markL_length,inB,InR,room,bdsOk] at hpre ⊢
  obtain ⟨h1,h2,h3,h4,hA,hB,hC,hD⟩:=hpre
  have lA:(unS (A,B) (C,D)).1.length=((A.length:Int)+(C.length:Int)).toNat:=tabR_length _ _
  have lB:(unS (A,B) (C,D)).2.length=((A.length:Int)+(C.length:Int)).toNat:=tabR_length _ _
  have lBB:=hB.1
  have lDD:=hD.1
  refine ⟨⟨0,by omega,rfl,rfl,rfl⟩,fun x hx=>⟨by omega,fun h=>⟨⟨0,⟨by omega,by omega⟩,rfl,rfl,rfl⟩,fun y ⟨hy,_⟩=>⟨by omega,fun h5=>?_,fun h5=>?_⟩⟩,fun h=>?_⟩⟩
  · have l1:(tab ((A.length:Int)+(C.length:Int)).toNat (unF (A.length:Int) A C (fun _ y=>(y:Int)) x)).length=((A.length:Int)+(C.length:Int)).toNat:=tab_length _ _
    have l2:(tab ((A.length:Int)+(C.length:Int)).toNat (unF (A.length:Int) B D (fun x _=>(x:Int)) x)).length=((A.length:Int)+(C.length:Int)).toNat:=tab_length _ _
    have s1:=tab_snoc (unF (A.length:Int) A C (fun _ y=>(y:Int)) x) (show y<((A.length:Int)+(C.length:Int)).toNat by omega)
    have s2:=tab_snoc (unF (A.length:Int) B D (fun x _=>(x:Int)) x) (show y<((A.length:Int)+(C.length:Int)).toNat by omega)
    have D1:¬ ((x:Int)<(A.length:Int)∧(y:Int)<(A.length:Int))→¬ ((A.length:Int)≤(x:Int)∧(A.length:Int)≤(y:Int))→unF (A.length:Int) A C (fun _ y=>(y:Int)) x y=(y:Int)∧unF (A.length:Int) B D (fun x _=>(x:Int)) x y=(x:Int):=fun a b=>by
      rw [unF,if_neg a,if_neg b,unF,if_neg a,if_neg b];exact ⟨rfl,rfl⟩
    refine ⟨fun c1=>⟨fun c2=>?_,fun c2=>⟨fun c3=>by omega,fun c3=>?_⟩⟩,fun c1=>⟨fun c3=>⟨fun c4=>?_,fun c4=>?_⟩,fun c3=>by omega⟩⟩
    · have a1:=sq_row hA (x:=x) (by omega)
      have b1:=sq_row hB (x:=x) (by omega)
      have e1:unF (A.length:Int) A C (fun _ y=>(y:Int)) x y=(A.getD x []).getD y 0:=if_pos ⟨c1,c2⟩
      have e2:unF (A.length:Int) B D (fun x _=>(x:Int)) x y=(B.getD x []).getD y 0:=if_pos ⟨c1,c2⟩
      rw [e1] at s1;rw [e2] at s2
      exact ⟨by omega,by omega,by omega,by omega,by omega,by omega,by omega,y+1,⟨by omega,by omega⟩,by omega,by omega,s1,s2⟩
    · obtain ⟨e1,e2⟩:=D1 (by omega) (by omega)
      rw [e1] at s1;rw [e2] at s2
      exact ⟨by omega,by omega,by omega,y+1,⟨by omega,by omega⟩,by omega,by omega,s1,s2⟩
    · have a1:=sq_row hC (x:=((x:Int) - (A.length:Int)).toNat) (by omega)
      have b1:=sq_row hD (x:=((x:Int) - (A.length:Int)).toNat) (by omega)
      have a2:=a1.2 ((y:Int) - (A.length:Int)).toNat (by omega)
      have b2:=b1.2 ((y:Int) - (A.length:Int)).toNat (by omega)
      have e1:unF (A.length:Int) A C (fun _ y=>(y:Int)) x y=(C.getD ((x:Int) - (A.length:Int)).toNat []).getD ((y:Int) - (A.length:Int)).toNat 0+(A.length:Int):=(if_neg (by omega)).trans (if_pos ⟨c3,c4⟩)
      have e2:unF (A.length:Int) B D (fun x _=>(x:Int)) x y=(D.getD ((x:Int) - (A.length:Int)).toNat []).getD ((y:Int) - (A.length:Int)).toNat 0+(A.length:Int):=(if_neg (by omega)).trans (if_pos ⟨c3,c4⟩)
      rw [e1] at s1;rw [e2] at s2
      exact ⟨by omega,by omega,by omega,by omega,by omega,by omega,by omega,by omega,by omega,by omega,by omega,by omega,by omega,y+1,⟨by omega,by omega⟩,by omega,by omega,s1,s2⟩
    · obtain ⟨e1,e2⟩:=D1 (by omega) (by omega)
      rw [e1] at s1;rw [e2] at s2
      exact ⟨by omega,by omega,by omega,y+1,⟨by omega,by omega⟩,by omega,by omega,s1,s2⟩
  · have l1:(tab ((A.length:Int)+(C.length:Int)).toNat (unF (A.length:Int) A C (fun _ y=>(y:Int)) x)).length=((A.length:Int)+(C.length:Int)).toNat:=tab_length _ _
    have l2:(tab ((A.length:Int)+(C.length:Int)).toNat (unF (A.length:Int) B D (fun x _=>(x:Int)) x)).length=((A.length:Int)+(C.length:Int)).toNat:=tab_length _ _
    refine ⟨by omega,by omega,by omega,x+1,by omega,by omega,by omega,?_,?_⟩
    · rw [List.take_of_length_le (l:=tab _ (unF (A.length:Int) A C (fun _ y=>(y:Int)) x)) (by omega)];exact rows_snoc (unF (A.length:Int) A C (fun _ y=>(y:Int))) (show x<((A.length:Int)+(C.length:Int)).toNat by omega)
    · rw [List.take_of_length_le (l:=tab _ (unF (A.length:Int) B D (fun x _=>(x:Int)) x)) (by omega)];exact rows_snoc (unF (A.length:Int) B D (fun x _=>(x:Int))) (show x<((A.length:Int)+(C.length:Int)).toNat by omega)
  · exact ⟨List.take_of_length_le (by omega),List.take_of_length_le (by omega)⟩
theorem l02Union_fits:Fits Try.prog 116 ⟨[],l02Union_ct⟩:=by
  refine ffn (Γ:=gam l02Union_G) gok_nil Try.func116 fun ds p h hp=>?_
  unfold l02Union_ct at h
  split at h
  · cases h
    exact ⟨noWr,l02Union_ann _ _ _ _ ,by rw [l02Union_vc];exact l02Union_ok _ _ _ _  hp⟩
  · cases h
def ioF (t:List (List Int)) (x y:Nat):Int:=idxL (x:Int) (t.getD ((t.getD x []).getD y 0).toNat []) 0
def ioS (t:List (List Int)):Sq:=(t,tabR t.length (ioF t))
def l02Involutive_p (t:List (List Int)):Post:=⟨1≤t.length∧t.length≤144∧sqB (t.length:Int) t,.agg [.rows 41 2 .i64 ((ioS t).1),.rows 41 2 .i64 ((ioS t).2)],[]⟩
def l02Involutive_ct:List AD→Option Post
  | [.c (.rows .i64 (t))]=>some (l02Involutive_p t)
  | _=>none
def l02Involutive_ann (t:List (List Int)):Nat→Option Ann
  | 0=>some (Ann.mk ((Nat)) (fun x=>⟨[(0,.c (.ro (.rows .i64 (t)))),(2,.c (.ptr 2 0)),(3,.c (.ptr 3 0)),(4,.c (.int .i64 ((x:Int))))],[(2,some (.box [.nil,.nil])),(3,some (.box [.own (100),.own (101)])),(100,some (.rows 0 41 2 .i64 (t))),(101,some (.rows 0 41 2 .i64 ((ioS t).2.take x)))]⟩) (fun x=>x≤t.length) (fun x=>t.length - x) (fun x=>fun b_=>match b_ with | 2=>some (Ann.mk ((Nat)) (fun y=>⟨[(0,.c (.ro (.rows .i64 (t)))),(2,.c (.ptr 2 0)),(3,.c (.ptr 3 0)),(4,.c (.int .i64 ((x:Int)))),(5,.c (.own (102))),(6,.c (.int .i64 ((y:Int))))],[(2,some (.box [.nil,.nil])),(3,some (.box [.own (100),.own (101)])),(100,some (.rows 0 41 2 .i64 (t))),(101,some (.rows 0 41 2 .i64 ((ioS t).2.take x))),(102,some (.ints 2 .i64 ((tab t.length (ioF t x)).take y)))]⟩) (fun y=>y≤t.length∧x<t.length) (fun y=>t.length - y) (fun _=>noAnn)) | _=>none))
  | _=>none
def l02Involutive_G:List (Nat×Ctr):=[(121,⟨[],l01Own2_ct⟩),(101,⟨[],l01Index_ct⟩)]
def l02Involutive_V (t:List (List Int)):Prop :=
 (((roomR t)∧True)∧((∃x0:Nat,((x0≤t.length)∧((t=t)∧(((0:Int)=(↑x0:Int))∧((t=t)∧(List.take x0 ((ioS t).2)=([]:List (List Int))))))))∧(∀x1:Nat,((x1≤t.length)→(BrP (decide ((↑x1:Int)<(↑(t.length):Int))) ((∃x2:Nat,(((x2≤t.length)∧(x1<t.length))∧((t=t)∧(((↑x1:Int)=(↑x1:Int))∧(((0:Int)=(↑x2:Int))∧((t=t)∧((List.take x1 ((ioS t).2)=List.take x1 ((ioS t).2))∧([]=List.take x2 (tab (t.length) (ioF t x1))))))))))∧(∀x3:Nat,(((x3≤t.length)∧(x1<t.length))→(BrP (decide ((↑x3:Int)<(↑(t.length):Int))) ((inB (↑x1:Int) (t.length))∧((inB (↑x3:Int) ((t.getD ((↑x1:Int).toNat) []).length))∧((inB ((List.getD t ((↑x1:Int).toNat) []).getD ((↑x3:Int).toNat) (0:Int)) (t.length))∧((((t.getD (((List.getD t ((↑x1:Int).toNat) []).getD ((↑x3:Int).toNat) (0:Int)).toNat) []).length≤(1099511627776:Nat))∧True)∧((room ((List.take x3 (tab (t.length) (ioF t x1))).length+[idxL (↑x1:Int) (t.getD (((List.getD t ((↑x1:Int).toNat) []).getD ((↑x3:Int).toNat) (0:Int)).toNat) []) (0:Int)].length))∧((InR ((↑x3:Int)+(1:Int)))∧(∃x4:Nat,(((x4≤t.length)∧(x1<t.length))∧((t.length - x4<t.length - x3)∧((t=t)∧(((↑x1:Int)=(↑x1:Int))∧(((↑x3:Int)+(1:Int)=(↑x4:Int))∧((t=t)∧((List.take x1 ((ioS t).2)=List.take x1 ((ioS t).2))∧(List.take x3 (tab (t.length) (ioF t x1))++[idxL (↑x1:Int) (t.getD (((List.getD t ((↑x1:Int).toNat) []).getD ((↑x3:Int).toNat) (0:Int)).toNat) []) (0:Int)]=List.take x4 (tab (t.length) (ioF t x1)))))))))))))))))
 ((room ((List.take x1 ((ioS t).2)).length+(List.take x3 (tab (t.length) (ioF t x1))::([]:List (List Int))).length))∧((InR ((↑x1:Int)+(1:Int)))∧(∃x5:Nat,((x5≤t.length)∧((t.length - x5<t.length - x1)∧((t=t)∧(((↑x1:Int)+(1:Int)=(↑x5:Int))∧((t=t)∧(List.take x1 ((ioS t).2)++List.take x3 (tab (t.length) (ioF t x1))::([]:List (List Int))=List.take x5 ((ioS t).2)))))))))))))) (((t=(ioS t).1)∧((List.take x1 ((ioS t).2)=(ioS t).2)∧True))∧True))))))
theorem l02Involutive_vc (t:List (List Int)):runF Try.prog (gam l02Involutive_G) noWr (l02Involutive_ann t) Try.f117 (bodyOf Try.f117) [] [.c (.rows .i64 (t))] (l02Involutive_p t)=l02Involutive_V t:=by kernel_rfl
theorem l02Involutive_ok (t:List (List Int)) (hpre:(l02Involutive_p t).pre):l02Involutive_V t:=by
  simp only [l02Involutive_p,l02Involutive_V,BrP_iff,u1,u2,u3,u4,u5,u6,u7,u8,u9,v1,v2,v3,v4,v5,v6,v7,v8,v9,w1,w2,w3,w4,markL_length,inB,InR,room,bdsOk] at hpre ⊢
  obtain ⟨h1,h2,hA⟩:=hpre
  have lB:(ioS t).2.length=t.length:=tabR_length _ _
  refine ⟨sq_room hA (by omega),⟨0,by omega,by omega,rfl⟩,fun x hx=>⟨fun h=>⟨⟨0,⟨by omega,by omega⟩,rfl,rfl⟩,fun y ⟨hy,_⟩=>⟨fun h5=>?_,fun h5=>?_⟩⟩,fun h=>?_⟩⟩
  · have l1:(tab t.length (ioF t x)).length=t.length:=tab_length _ _
    have a1:=sq_row hA (x:=x) (by omega)
    have a2:=a1.2 y (by omega)
    have a3:=sq_row hA (x:=((t.getD x []).getD y 0).toNat) (by omega)
    exact ⟨by omega,by omega,by omega,by omega,by omega,by omega,y+1,⟨by omega,by omega⟩,by omega,by omega,tab_snoc (ioF t x) (by omega)⟩
  · have l1:(tab t.length (ioF t x)).length=t.length:=tab_length _ _
    refine ⟨by omega,by omega,x+1,by omega,by omega,by omega,?_⟩
    rw [List.take_of_length_le (l:=tab t.length (ioF t x)) (by omega)];exact rows_snoc _ (by omega)
  · exact ⟨rfl,List.take_of_length_le (by omega)⟩
theorem l02Involutive_fits:Fits Try.prog 117 ⟨[],l02Involutive_ct⟩:=by
  refine ffn (Γ:=gam l02Involutive_G) (gok_cons l01Own2_fits (gok_cons l01Index_fits gok_nil)) Try.func117 fun ds p h hp=>?_
  unfold l02Involutive_ct at h
  split at h
  · cases h
    exact ⟨noWr,l02Involutive_ann _ ,by rw [l02Involutive_vc];exact l02Involutive_ok _  hp⟩
  · cases h
def rnL (t:List (List Int)) (p:List Int):Nat→List (List Int)
  | 0=>List.replicate t.length (List.replicate t.length 0)
  | x+1=>imC t p x t.length (rnL t p x)
theorem rnL_sq {t:List (List Int)} {p:List Int} (ht:sqB (t.length:Int) t) (h1:1≤t.length) (hp:p.length=t.length) (hq:∀i,i<p.length→0≤p.getD i 0∧p.getD i 0≤(t.length:Int) - 1):∀(x:Nat),x≤t.length→sqB (t.length:Int) (rnL t p x)
  | 0,_=>by
    have:=rep_sq (n:=(t.length:Int)) (by omega)
    rwa [Int.toNat_natCast] at this
  | x+1,hx=>imC_sq ht hp hq x (by omega) _ (Nat.le_refl _) _ (rnL_sq ht h1 hp hq x (by omega))
def l01Rename_p (t:List (List Int)) (p:List Int):Post:=⟨1≤t.length∧t.length≤144∧sqB (t.length:Int) t∧p.length=t.length∧(∀i,i<p.length→0≤p.getD i 0∧p.getD i 0≤(t.length:Int) - 1),.c (.rows 41 2 .i64 (rnL t p t.length)),[]⟩
def l01Rename_ct:List AD→Option Post
  | [.c (.rows .i64 (t)),.c (.ints .i64 (p))]=>some (l01Rename_p t p)
  | _=>none
def l01Rename_ann (t:List (List Int)) (p:List Int):Nat→Option Ann
  | 0=>some (Ann.mk ((Nat)) (fun x=>⟨[(0,.c (.ro (.rows .i64 (t)))),(1,.c (.ro (.ints .i64 (p)))),(5,.c (.own (100))),(6,.c (.int .i64 ((x:Int))))],[(100,some (.rows 0 41 2 .i64 (List.replicate x (List.replicate t.length 0))))]⟩) (fun x=>x≤t.length) (fun x=>t.length - x) (fun _=>noAnn))
  | 2=>some (Ann.mk ((Nat)) (fun x=>⟨[(0,.c (.ro (.rows .i64 (t)))),(1,.c (.ro (.ints .i64 (p)))),(5,.c (.own (100))),(7,.c (.int .i64 ((x:Int))))],[(100,some (.rows 0 41 2 .i64 (rnL t p x)))]⟩) (fun x=>x≤t.length) (fun x=>t.length - x) (fun x=>fun b_=>match b_ with | 4=>some (Ann.mk ((Nat)) (fun y=>⟨[(0,.c (.ro (.rows .i64 (t)))),(1,.c (.ro (.ints .i64 (p)))),(5,.c (.own (100))),(7,.c (.int .i64 ((x:Int)))),(8,.c (.row 100 0 (Int.toNat (p.getD (Int.toNat (x:Int)) 0)))),(9,.c (.int .i64 ((y:Int))))],[(100,some (.rows 0 41 2 .i64 (imC t p x y (rnL t p x))))]⟩) (fun y=>y≤t.length∧x<t.length) (fun y=>t.length - y) (fun _=>noAnn)) | _=>none))
  | _=>none
def l01Rename_G:List (Nat×Ctr):=[]
def l01Rename_V (t:List (List Int)) (p:List Int):Prop :=
 ((∃x0:Nat,((x0≤t.length)∧((t=t)∧((p=p)∧(((0:Int)=(↑x0:Int))∧(([]:List (List Int))=List.replicate x0 (List.replicate (t.length) (0:Int))))))))∧(∀x1:Nat,((x1≤t.length)→(BrP (decide ((↑x1:Int)<(↑(t.length):Int))) ((((0:Int)≤(↑(t.length):Int))∧(((↑(t.length):Int)≤(↑(t.length):Int))∧(room ((↑(t.length):Int).toNat))))∧((room ((List.replicate x1 (List.replicate (t.length) (0:Int))).length+(List.replicate ((↑(t.length):Int).toNat) (0:Int)::([]:List (List Int))).length))∧((InR ((↑x1:Int)+(1:Int)))∧(∃x2:Nat,((x2≤t.length)∧((t.length - x2<t.length - x1)∧((t=t)∧((p=p)∧(((↑x1:Int)+(1:Int)=(↑x2:Int))∧(List.replicate x1 (List.replicate (t.length) (0:Int))++List.replicate ((↑(t.length):Int).toNat) (0:Int)::([]:List (List Int))=List.replicate x2 (List.replicate (t.length) (0:Int)))))))))))) ((∃x3:Nat,((x3≤t.length)∧((t=t)∧((p=p)∧(((0:Int)=(↑x3:Int))∧(List.replicate x1 (List.replicate (t.length) (0:Int))=rnL t p x3))))))∧(∀x4:Nat,((x4≤t.length)→(BrP (decide ((↑x4:Int)<(↑(t.length):Int))) ((inB (↑x4:Int) (p.length))∧((inB (p.getD ((↑x4:Int).toNat) (0:Int)) ((rnL t p x4).length))∧((∃x5:Nat,(((x5≤t.length)∧(x4<t.length))∧((t=t)∧((p=p)∧(((↑x4:Int)=(↑x4:Int))∧(((p.getD ((↑x4:Int).toNat) (0:Int)).toNat=(p.getD ((↑x4:Int).toNat) (0:Int)).toNat)∧(((0:Int)=(↑x5:Int))∧(rnL t p x4=imC t p x4 x5 (rnL t p x4)))))))))∧(∀x6:Nat,(((x6≤t.length)∧(x4<t.length)) →
 (BrP (decide ((↑x6:Int)<(↑(t.length):Int))) ((inB (↑x6:Int) (p.length))∧((inB (↑x4:Int) (t.length))∧((inB (↑x6:Int) ((t.getD ((↑x4:Int).toNat) []).length))∧((inB ((List.getD t ((↑x4:Int).toNat) []).getD ((↑x6:Int).toNat) (0:Int)) (p.length))∧((inB (p.getD ((↑x6:Int).toNat) (0:Int)) (((imC t p x4 x6 (rnL t p x4)).getD ((p.getD ((↑x4:Int).toNat) (0:Int)).toNat) []).length))∧((InR ((↑x6:Int)+(1:Int)))∧(∃x7:Nat,(((x7≤t.length)∧(x4<t.length))∧((t.length - x7<t.length - x6)∧((t=t)∧((p=p)∧(((↑x4:Int)=(↑x4:Int))∧(((p.getD ((↑x4:Int).toNat) (0:Int)).toNat=(p.getD ((↑x4:Int).toNat) (0:Int)).toNat)∧(((↑x6:Int)+(1:Int)=(↑x7:Int))∧(List.set (imC t p x4 x6 (rnL t p x4)) ((p.getD ((↑x4:Int).toNat) (0:Int)).toNat) (List.set ((imC t p x4 x6 (rnL t p x4)).getD ((p.getD ((↑x4:Int).toNat) (0:Int)).toNat) []) ((p.getD ((↑x6:Int).toNat) (0:Int)).toNat) (p.getD (((List.getD t ((↑x4:Int).toNat) []).getD ((↑x6:Int).toNat) (0:Int)).toNat) (0:Int)))=imC t p x4 x7 (rnL t p x4)))))))))))))))) ((InR ((↑x4:Int)+(1:Int)))∧(∃x8:Nat,((x8≤t.length)∧((t.length - x8<t.length - x4)∧((t=t)∧((p=p)∧(((↑x4:Int)+(1:Int)=(↑x8:Int))∧(imC t p x4 x6 (rnL t p x4)=rnL t p x8)))))))))))))) ((rnL t p x4=rnL t p (t.length))∧True)))))))))
theorem l01Rename_vc (t:List (List Int)) (p:List Int):runF Try.prog (gam l01Rename_G) noWr (l01Rename_ann t p) Try.f98 (bodyOf Try.f98) [] [.c (.rows .i64 (t)),.c (.ints .i64 (p))] (l01Rename_p t p)=l01Rename_V t p:=by kernel_rfl
theorem l01Rename_ok (t:List (List Int)) (p:List Int) (hpre:(l01Rename_p t p).pre):l01Rename_V t p:=by
  simp only [l01Rename_p,l01Rename_V,BrP_iff,u1,u2,u3,u4,u5,u6,u7,u8,u9,v1,v2,v3,v4,v5,v6,v7,v8,v9,w1,w2,w3,w4,markL_length,inB,InR,room,bdsOk] at hpre ⊢
  obtain ⟨h1,h2,ht,hp,hq⟩:=hpre
  have q:=fun x (hx:x<t.length)=>hq x (by omega)
  have I:=rnL_sq ht h1 (by omega) hq
  refine ⟨⟨0,by omega,by omega,rfl⟩,fun x hx=>⟨fun h=>⟨⟨by omega,by omega,by omega⟩,by omega,by omega,x+1,by omega,by omega,by omega,by rw [List.replicate_succ']⟩,fun h=>⟨⟨0,by omega,by omega,by rw [show x=t.length by omega];rfl⟩,fun x hx=>⟨fun h=>⟨?_,?_,⟨0,⟨by omega,by omega⟩,by omega,rfl⟩,fun y ⟨hy,_⟩=>⟨fun h4=>?_,fun h4=>?_⟩⟩,fun h=>?_⟩⟩⟩⟩
  · omega
  · have:=(I x hx).1
    have q1:=q x (by omega)
    omega
  · have C:=imC_sq ht (by omega) hq x (by omega) y (by omega) _ (I x (by omega))
    have q1:=q x (by omega)
    have q2:=q y (by omega)
    have t1:=ht.2 x (by omega)
    have t2:=t1.2 y (by omega)
    have c1:=C.1
    have c2:=(C.2 (p.getD x 0).toNat (by omega)).1
    exact ⟨by omega,by omega,by omega,by omega,by omega,by omega,y+1,⟨by omega,by omega⟩,by omega,by omega,rfl⟩
  · exact ⟨by omega,x+1,by omega,by omega,by omega,by rw [show y=t.length by omega];rfl⟩
  · rw [show x=t.length by omega]
theorem l01Rename_fits:Fits Try.prog 98 ⟨[],l01Rename_ct⟩:=by
  refine ffn (Γ:=gam l01Rename_G) gok_nil Try.func98 fun ds p h hp=>?_
  unfold l01Rename_ct at h
  split at h
  · cases h
    exact ⟨noWr,l01Rename_ann _ _ ,by rw [l01Rename_vc];exact l01Rename_ok _ _  hp⟩
  · cases h
def l02Rename_p (A:List (List Int)) (B:List (List Int)) (p:List Int):Post:=⟨1≤A.length∧A.length≤144∧B.length=A.length∧sqB (A.length:Int) A∧sqB (A.length:Int) B∧p.length=A.length∧(∀i,i<p.length→0≤p.getD i 0∧p.getD i 0≤(A.length:Int) - 1),.agg [.rows 41 2 .i64 (rnL A p A.length),.rows 41 2 .i64 (rnL B p B.length)],[]⟩
def l02Rename_ct:List AD→Option Post
  | [.agg [.rows .i64 (A),.rows .i64 (B)],.c (.ints .i64 (p))]=>some (l02Rename_p A B p)
  | _=>none
def l02Rename_G:List (Nat×Ctr):=[(98,⟨[],l01Rename_ct⟩)]
def l02Rename_V (A:List (List Int)) (B:List (List Int)) (p:List Int):Prop :=
 (((((1:Nat)≤A.length)∧((A.length≤(144:Nat))∧((sqB (↑(A.length):Int) A)∧((p.length=A.length)∧(∀(i:Nat),i<p.length→(0:Int)≤p.getD i (0:Int)∧p.getD i (0:Int)≤(↑(A.length):Int) - (1:Int))))))∧True)∧(((((1:Nat)≤B.length)∧((B.length≤(144:Nat))∧((sqB (↑(B.length):Int) B)∧((p.length=B.length)∧(∀(i:Nat),i<p.length→(0:Int)≤p.getD i (0:Int)∧p.getD i (0:Int)≤(↑(B.length):Int) - (1:Int))))))∧True)∧(((rnL A p (A.length)=rnL A p (A.length))∧((rnL B p (B.length)=rnL B p (B.length))∧True))∧True)))
theorem l02Rename_vc (A:List (List Int)) (B:List (List Int)) (p:List Int):runF Try.prog (gam l02Rename_G) noWr noAnn Try.f109 (bodyOf Try.f109) [] [.agg [.rows .i64 (A),.rows .i64 (B)],.c (.ints .i64 (p))] (l02Rename_p A B p)=l02Rename_V A B p:=by kernel_rfl
theorem l02Rename_ok (A:List (List Int)) (B:List (List Int)) (p:List Int) (hpre:(l02Rename_p A B p).pre):l02Rename_V A B p:=by
  simp only [l02Rename_p,l02Rename_V,BrP_iff,u1,u2,u3,u4,u5,u6,u7,u8,u9,v1,v2,v3,v4,v5,v6,v7,v8,v9,w1,w2,w3,w4,markL_length,inB,InR,room,bdsOk] at hpre ⊢
  obtain ⟨h1,h2,h3,hA,hB,hp,hq⟩:=hpre
  have e:(B.length:Int)=(A.length:Int):=by omega
  exact ⟨⟨h1,h2,hA,hp,hq⟩,by omega,by omega,by rw [e];exact hB,by omega,by rw [e];exact hq⟩
theorem l02Rename_fits:Fits Try.prog 109 ⟨[],l02Rename_ct⟩:=by
  refine ffn (Γ:=gam l02Rename_G) (gok_cons l01Rename_fits gok_nil) Try.func109 fun ds p h hp=>?_
  unfold l02Rename_ct at h
  split at h
  · cases h
    exact ⟨noWr,noAnn,by rw [l02Rename_vc];exact l02Rename_ok _ _ _  hp⟩
  · cases h
def colL (t:List (List Int)) (y:Nat):List Int:=tab t.length fun x=>en t x y
def trnL (t:List (List Int)):List (List Int):=(List.range t.length).map (colL t)
def l01Column_p (t:List (List Int)) (y:Int):Post:=⟨t.length≤144∧0≤y∧y<(t.length:Int)∧(∀x,x<t.length→(t.getD x []).length=t.length),.c (.ints 2 .i64 (colL t y.toNat)),[]⟩
def l01Column_ct:List AD→Option Post
  | [.c (.rows .i64 (t)),.c (.int .i64 (y))]=>some (l01Column_p t y)
  | _=>none
def l01Column_ann (t:List (List Int)) (y:Int):Nat→Option Ann
  | 0=>some (Ann.mk ((Nat)) (fun x=>⟨[(0,.c (.ro (.rows .i64 (t)))),(1,.c (.int .i64 (y))),(5,.c (.own (100))),(6,.c (.int .i64 ((x:Int))))],[(100,some (.ints 2 .i64 ((colL t y.toNat).take x)))]⟩) (fun x=>x≤t.length) (fun x=>t.length - x) (fun _=>noAnn))
  | _=>none
def l01Column_G:List (Nat×Ctr):=[]
def l01Column_V (t:List (List Int)) (y:Int):Prop :=
 ((∃x0:Nat,((x0≤t.length)∧((t=t)∧((y=y)∧(((0:Int)=(↑x0:Int))∧([]=List.take x0 (colL t (y.toNat))))))))∧(∀x1:Nat,((x1≤t.length)→(BrP (decide ((↑x1:Int)<(↑(t.length):Int))) ((inB (↑x1:Int) (t.length))∧((inB y ((t.getD ((↑x1:Int).toNat) []).length))∧((room ((List.take x1 (colL t (y.toNat))).length+[(List.getD t ((↑x1:Int).toNat) []).getD (y.toNat) (0:Int)].length))∧((InR ((↑x1:Int)+(1:Int)))∧(∃x2:Nat,((x2≤t.length)∧((t.length - x2<t.length - x1)∧((t=t)∧((y=y)∧(((↑x1:Int)+(1:Int)=(↑x2:Int))∧(List.take x1 (colL t (y.toNat))++[(List.getD t ((↑x1:Int).toNat) []).getD (y.toNat) (0:Int)]=List.take x2 (colL t (y.toNat))))))))))))) ((List.take x1 (colL t (y.toNat))=colL t (y.toNat))∧True)))))
theorem l01Column_vc (t:List (List Int)) (y:Int):runF Try.prog (gam l01Column_G) noWr (l01Column_ann t y) Try.f119 (bodyOf Try.f119) [] [.c (.rows .i64 (t)),.c (.int .i64 (y))] (l01Column_p t y)=l01Column_V t y:=by kernel_rfl
theorem l01Column_ok (t:List (List Int)) (y:Int) (hpre:(l01Column_p t y).pre):l01Column_V t y:=by
  simp only [l01Column_p,l01Column_V,BrP_iff,u1,u2,u3,u4,u5,u6,u7,u8,u9,v1,v2,v3,v4,v5,v6,v7,v8,v9,w1,w2,w3,w4,markL_length,inB,InR,room,bdsOk] at hpre ⊢
  obtain ⟨h1,h2,h3,h4⟩:=hpre
  have lc:(colL t y.toNat).length=t.length:=tab_length _ _
  refine ⟨⟨0,by omega,by omega,rfl⟩,fun x hx=>⟨fun h=>?_,fun h=>?_⟩⟩
  · have:=h4 x (by omega)
    exact ⟨by omega,by omega,by omega,by omega,x+1,by omega,by omega,by omega,tab_snoc (fun x=>en t x y.toNat) (by omega)⟩
  · exact List.take_of_length_le (by omega)
theorem l01Column_fits:Fits Try.prog 119 ⟨[],l01Column_ct⟩:=by
  refine ffn (Γ:=gam l01Column_G) gok_nil Try.func119 fun ds p h hp=>?_
  unfold l01Column_ct at h
  split at h
  · cases h
    exact ⟨noWr,l01Column_ann _ _ ,by rw [l01Column_vc];exact l01Column_ok _ _  hp⟩
  · cases h
def l01Turn_p (t:List (List Int)):Post:=⟨t.length≤144∧(∀x,x<t.length→(t.getD x []).length=t.length),.c (.rows 41 2 .i64 (trnL t)),[]⟩
def l01Turn_ct:List AD→Option Post
  | [.c (.rows .i64 (t))]=>some (l01Turn_p t)
  | _=>none
def l01Turn_ann (t:List (List Int)):Nat→Option Ann
  | 0=>some (Ann.mk ((Nat)) (fun y=>⟨[(0,.c (.ro (.rows .i64 (t)))),(3,.c (.own (100))),(4,.c (.int .i64 ((y:Int))))],[(100,some (.rows 0 41 2 .i64 ((trnL t).take y)))]⟩) (fun y=>y≤t.length) (fun y=>t.length - y) (fun _=>noAnn))
  | _=>none
def l01Turn_G:List (Nat×Ctr):=[(119,⟨[],l01Column_ct⟩)]
def l01Turn_V (t:List (List Int)):Prop :=
 ((∃x0:Nat,((x0≤t.length)∧((t=t)∧(((0:Int)=(↑x0:Int))∧(([]:List (List Int))=List.take x0 (trnL t))))))∧(∀x1:Nat,((x1≤t.length)→(BrP (decide ((↑x1:Int)<(↑(t.length):Int))) ((((t.length≤(144:Nat))∧(((0:Int)≤(↑x1:Int))∧(((↑x1:Int)<(↑(t.length):Int))∧(∀(x:Nat),x<t.length→(t.getD x []).length=t.length))))∧True)∧((room ((List.take x1 (trnL t)).length+(colL t ((↑x1:Int).toNat)::([]:List (List Int))).length))∧((InR ((↑x1:Int)+(1:Int)))∧(∃x2:Nat,((x2≤t.length)∧((t.length - x2<t.length - x1)∧((t=t)∧(((↑x1:Int)+(1:Int)=(↑x2:Int))∧(List.take x1 (trnL t)++colL t ((↑x1:Int).toNat)::([]:List (List Int))=List.take x2 (trnL t)))))))))) ((List.take x1 (trnL t)=trnL t)∧True)))))
theorem l01Turn_vc (t:List (List Int)):runF Try.prog (gam l01Turn_G) noWr (l01Turn_ann t) Try.f110 (bodyOf Try.f110) [] [.c (.rows .i64 (t))] (l01Turn_p t)=l01Turn_V t:=by kernel_rfl
theorem l01Turn_ok (t:List (List Int)) (hpre:(l01Turn_p t).pre):l01Turn_V t:=by
  simp only [l01Turn_p,l01Turn_V,BrP_iff,u1,u2,u3,u4,u5,u6,u7,u8,u9,v1,v2,v3,v4,v5,v6,v7,v8,v9,w1,w2,w3,w4,markL_length,inB,InR,room,bdsOk] at hpre ⊢
  obtain ⟨h1,h4⟩:=hpre
  have lc:(trnL t).length=t.length:=by simp [trnL]
  have li:∀y,(colL t y).length=t.length:=fun y=>tab_length _ _
  refine ⟨⟨0,by omega,by omega,rfl⟩,fun y hy=>⟨fun h=>⟨⟨by omega,by omega,by omega,h4⟩,by omega,by omega,y+1,by omega,by omega,by omega,?_⟩,fun h=>?_⟩⟩
  · rw [←take_snoc (trnL t) [] y (by omega)]
    simp [trnL,List.getD_eq_getElem?_getD,show y<t.length by omega]
  · exact List.take_of_length_le (by omega)
theorem l01Turn_fits:Fits Try.prog 110 ⟨[],l01Turn_ct⟩:=by
  refine ffn (Γ:=gam l01Turn_G) (gok_cons l01Column_fits gok_nil) Try.func110 fun ds p h hp=>?_
  unfold l01Turn_ct at h
  split at h
  · cases h
    exact ⟨noWr,l01Turn_ann _ ,by rw [l01Turn_vc];exact l01Turn_ok _  hp⟩
  · cases h
def goodB (A B:List (List Int)):Bool:=A.all permB&&(trnL B).all permB
theorem trn_sq {n:Nat} {B:List (List Int)} (hB:sqB (n:Int) B) (hl:B.length=n):sqB (n:Int) (trnL B):=by
  have e:(trnL B).length=B.length:=by simp [trnL]
  refine ⟨by omega,fun i hi=>?_⟩
  have g:(trnL B).getD i []=colL B i:=by simp [trnL,List.getD_eq_getElem?_getD,show i<B.length by omega]
  rw [g,colL,tab_length]
  refine ⟨by omega,fun j hj=>?_⟩
  rw [tab_getD _ _ _ (by omega)]
  exact (sq_row hB (x:=j) (by omega)).2 i (by omega)
def l02Good_p (A:List (List Int)) (B:List (List Int)):Post:=⟨1≤A.length∧A.length≤12∧B.length=A.length∧sqB (A.length:Int) A∧sqB (A.length:Int) B,.c (.bool (goodB A B)),[]⟩
def l02Good_ct:List AD→Option Post
  | [.agg [.rows .i64 (A),.rows .i64 (B)]]=>some (l02Good_p A B)
  | _=>none
def l02Good_G:List (Nat×Ctr):=[(77,⟨[],l01Rows_ct⟩),(110,⟨[],l01Turn_ct⟩)]
def l02Good_V (A:List (List Int)) (B:List (List Int)):Prop :=
 (((tabB A=true)∧True)∧(BrP (List.all A permB) ((((B.length≤(144:Nat))∧(∀(x:Nat),x<B.length→(B.getD x []).length=B.length))∧True)∧(((tabB (trnL B)=true)∧True)∧((List.all (trnL B) permB=goodB A B)∧True))) ((false=goodB A B)∧True)))
theorem l02Good_vc (A:List (List Int)) (B:List (List Int)):runF Try.prog (gam l02Good_G) noWr noAnn Try.f104 (bodyOf Try.f104) [] [.agg [.rows .i64 (A),.rows .i64 (B)]] (l02Good_p A B)=l02Good_V A B:=by kernel_rfl
theorem l02Good_ok (A:List (List Int)) (B:List (List Int)) (hpre:(l02Good_p A B).pre):l02Good_V A B:=by
  simp only [l02Good_p,l02Good_V,BrP_iff,u1,u2,u3,u4,u5,u6,u7,u8,u9,v1,v2,v3,v4,v5,v6,v7,v8,v9,w1,w2,w3,w4,markL_length,inB,InR,room,bdsOk] at hpre ⊢
  obtain ⟨h1,h2,h3,hA,hB⟩:=hpre
  refine ⟨sq_tab hA h1 h2,fun h=>⟨⟨by omega,fun x hx=>?_⟩,?_,?_⟩,fun h=>?_⟩
  · have:=(sq_row hB (x:=x) (by omega)).1;omega
  · refine sq_tab ?_ (by simp [trnL];omega) (by simp [trnL];omega)
    have e:(trnL B).length=B.length:=by simp [trnL]
    rw [e,h3]
    exact trn_sq hB h3
  · rw [goodB,h,Bool.true_and]
  · rw [goodB,h,Bool.false_and]
theorem l02Good_fits:Fits Try.prog 104 ⟨[],l02Good_ct⟩:=by
  refine ffn (Γ:=gam l02Good_G) (gok_cons l01Rows_fits (gok_cons l01Turn_fits gok_nil)) Try.func104 fun ds p h hp=>?_
  unfold l02Good_ct at h
  split at h
  · cases h
    exact ⟨noWr,noAnn,by rw [l02Good_vc];exact l02Good_ok _ _  hp⟩
  · cases h
def twcB (A B:List (List Int)) (x y:Nat):Bool:=decide (en A (en A x y).toNat (en B x y).toNat=(x:Int))&&decide (en B (en A x y).toNat (en B x y).toNat=(y:Int))
def twiceB (A B:List (List Int)):Bool:=decide (∀x,x<A.length→∀y,y<A.length→twcB A B x y=true)
def l02Twice_p (A:List (List Int)) (B:List (List Int)):Post:=⟨1≤A.length∧A.length≤12∧B.length=A.length∧sqB (A.length:Int) A∧sqB (A.length:Int) B,.c (.bool (twiceB A B)),[]⟩
def l02Twice_ct:List AD→Option Post
  | [.agg [.rows .i64 (A),.rows .i64 (B)]]=>some (l02Twice_p A B)
  | _=>none
def l02Twice_ann (A:List (List Int)) (B:List (List Int)):Nat→Option Ann
  | 0=>some (Ann.mk ((Nat)) (fun x=>⟨[(1,.c (.ptr 1 0)),(3,.c (.int .i64 ((x:Int))))],[(1,some (.box [.ro (.rows .i64 (A)),.ro (.rows .i64 (B))]))]⟩) (fun x=>x≤A.length∧∀u,u<x→∀v,v<A.length→twcB A B u v=true) (fun x=>A.length - x) (fun x=>fun b_=>match b_ with | 2=>some (Ann.mk ((Nat)) (fun y=>⟨[(1,.c (.ptr 1 0)),(3,.c (.int .i64 ((x:Int)))),(4,.c (.int .i64 ((y:Int))))],[(1,some (.box [.ro (.rows .i64 (A)),.ro (.rows .i64 (B))]))]⟩) (fun y=>y≤A.length∧x<A.length∧∀v,v<y→twcB A B x v=true) (fun y=>A.length - y) (fun _=>noAnn)) | _=>none))
  | _=>none
def l02Twice_G:List (Nat×Ctr):=[]
def l02Twice_V (A:List (List Int)) (B:List (List Int)):Prop :=
 ((∃x0:Nat,(((x0≤A.length)∧(∀(u:Nat),u<x0→∀(v:Nat),v<A.length→twcB A B u v=true))∧(((0:Int)=(↑x0:Int))∧((A=A)∧(B=B)))))∧(∀x1:Nat,(((x1≤A.length)∧(∀(u:Nat),u<x1→∀(v:Nat),v<A.length→twcB A B u v=true))→(BrP (decide ((↑x1:Int)<(↑(A.length):Int))) ((∃x2:Nat,(((x2≤A.length)∧((x1<A.length)∧(∀(v:Nat),v<x2→twcB A B x1 v=true)))∧(((↑x1:Int)=(↑x1:Int))∧(((0:Int)=(↑x2:Int))∧((A=A)∧(B=B))))))∧(∀x3:Nat,(((x3≤A.length)∧((x1<A.length)∧(∀(v:Nat),v<x3→twcB A B x1 v=true)))→(BrP (decide ((↑x3:Int)<(↑(A.length):Int))) ((inB (↑x1:Int) (A.length))∧((inB (↑x3:Int) ((A.getD ((↑x1:Int).toNat) []).length))∧((inB (↑x1:Int) (B.length))∧((inB (↑x3:Int) ((B.getD ((↑x1:Int).toNat) []).length))∧((inB ((List.getD A ((↑x1:Int).toNat) []).getD ((↑x3:Int).toNat) (0:Int)) (A.length))∧((inB ((List.getD B ((↑x1:Int).toNat) []).getD ((↑x3:Int).toNat) (0:Int)) ((A.getD (((List.getD A ((↑x1:Int).toNat) []).getD ((↑x3:Int).toNat) (0:Int)).toNat) []).length))∧(BrP ((List.getD A ((List.getD (List.getD A ((↑x1:Int).toNat) []) ((↑x3:Int).toNat) (0:Int)).toNat) []).getD (((List.getD B ((↑x1:Int).toNat) []).getD ((↑x3:Int).toNat) (0:Int)).toNat) (0:Int) != (↑x1:Int)) ((false=twiceB A B)∧True) ((inB ((List.getD A ((↑x1:Int).toNat) []).getD ((↑x3:Int).toNat) (0:Int)) (B.length)) ∧
 ((inB ((List.getD B ((↑x1:Int).toNat) []).getD ((↑x3:Int).toNat) (0:Int)) ((B.getD (((List.getD A ((↑x1:Int).toNat) []).getD ((↑x3:Int).toNat) (0:Int)).toNat) []).length))∧(BrP ((List.getD B ((List.getD (List.getD A ((↑x1:Int).toNat) []) ((↑x3:Int).toNat) (0:Int)).toNat) []).getD (((List.getD B ((↑x1:Int).toNat) []).getD ((↑x3:Int).toNat) (0:Int)).toNat) (0:Int) != (↑x3:Int)) ((false=twiceB A B)∧True) ((InR ((↑x3:Int)+(1:Int)))∧(∃x4:Nat,(((x4≤A.length)∧((x1<A.length)∧(∀(v:Nat),v<x4→twcB A B x1 v=true)))∧((A.length - x4<A.length - x3)∧(((↑x1:Int)=(↑x1:Int))∧(((↑x3:Int)+(1:Int)=(↑x4:Int))∧((A=A)∧(B=B)))))))))))))))))) ((InR ((↑x1:Int)+(1:Int)))∧(∃x5:Nat,(((x5≤A.length)∧(∀(u:Nat),u<x5→∀(v:Nat),v<A.length→twcB A B u v=true))∧((A.length - x5<A.length - x1)∧(((↑x1:Int)+(1:Int)=(↑x5:Int))∧((A=A)∧(B=B))))))))))) ((true=twiceB A B)∧True)))))
theorem l02Twice_vc (A:List (List Int)) (B:List (List Int)):runF Try.prog (gam l02Twice_G) noWr (l02Twice_ann A B) Try.f105 (bodyOf Try.f105) [] [.agg [.rows .i64 (A),.rows .i64 (B)]] (l02Twice_p A B)=l02Twice_V A B:=by kernel_rfl
theorem l02Twice_ok (A:List (List Int)) (B:List (List Int)) (hpre:(l02Twice_p A B).pre):l02Twice_V A B:=by
  simp only [l02Twice_p,l02Twice_V,BrP_iff,u1,u2,u3,u4,u5,u6,u7,u8,u9,v1,v2,v3,v4,v5,v6,v7,v8,v9,w1,w2,w3,w4,markL_length,inB,InR,room,bdsOk] at hpre ⊢
  obtain ⟨h1,h2,h3,hA,hB⟩:=hpre
  have no:∀x y,x<A.length→y<A.length→twcB A B x y=false→false=twiceB A B:=fun x y hx hy hf=>by
    refine (decide_eq_false fun hc=>?_).symm
    rw [hc x hx y hy] at hf;cases hf
  refine ⟨⟨0,⟨by omega,fun u hu=>by omega⟩,by omega⟩,fun x ⟨hx,hX⟩=>⟨fun h=>⟨⟨0,⟨by omega,by omega,fun u hu=>by omega⟩,by omega⟩,fun y ⟨hy,_,hY⟩=>⟨fun h5=>?_,fun h5=>?_⟩⟩,fun h=>?_⟩⟩
  · have a1:=sq_row hA (x:=x) (by omega)
    have b1:=sq_row hB (x:=x) (by omega)
    have a2:=a1.2 y (by omega)
    have b2:=b1.2 y (by omega)
    have a3:=sq_row hA (x:=((A.getD x []).getD y 0).toNat) (by omega)
    have b3:=sq_row hB (x:=((A.getD x []).getD y 0).toNat) (by omega)
    refine ⟨by omega,by omega,by omega,by omega,by omega,by omega,fun h6=>?_,fun h6=>⟨by omega,by omega,fun h7=>?_,fun h7=>⟨by omega,y+1,⟨by omega,by omega,fun v hv=>?_⟩,by omega,by omega⟩⟩⟩
    · refine no x y (by omega) (by omega) ?_
      unfold twcB;exact Bool.and_eq_false_iff.2 (.inl (decide_eq_false h6))
    · refine no x y (by omega) (by omega) ?_
      unfold twcB;exact Bool.and_eq_false_iff.2 (.inr (decide_eq_false h7))
    · by_cases e:v=y
      · subst e
        unfold twcB;exact Bool.and_eq_true_iff.2 ⟨decide_eq_true h6,decide_eq_true h7⟩
      · exact hY v (by omega)
  · refine ⟨by omega,x+1,⟨by omega,fun u hu v hv=>?_⟩,by omega,by omega⟩
    by_cases e:u=x
    · subst e;exact hY v (by omega)
    · exact hX u (by omega) v hv
  · exact (decide_eq_true fun u hu v hv=>hX u (by omega) v hv).symm
theorem l02Twice_fits:Fits Try.prog 105 ⟨[],l02Twice_ct⟩:=by
  refine ffn (Γ:=gam l02Twice_G) gok_nil Try.func105 fun ds p h hp=>?_
  unfold l02Twice_ct at h
  split at h
  · cases h
    exact ⟨noWr,l02Twice_ann _ _ ,by rw [l02Twice_vc];exact l02Twice_ok _ _  hp⟩
  · cases h
def afT (n a b c:Int):List (List Int):=tabR n.toNat fun x y=>(a * (x:Int)+b * (y:Int)+c).tmod n
def l05Affine_p (n:Int) (a:Int) (b:Int) (c:Int):Post:=⟨1≤n∧n≤12∧0≤a∧a≤100∧0≤b∧b≤100∧0≤c∧c≤100,.agg [.rows 41 2 .i64 (afT n a b c)],[]⟩
def l05Affine_ct:List AD→Option Post
  | [.c (.int .i64 (n)),.c (.int .i64 (a)),.c (.int .i64 (b)),.c (.int .i64 (c))]=>some (l05Affine_p n a b c)
  | _=>none
def l05Affine_ann (n:Int) (a:Int) (b:Int) (c:Int):Nat→Option Ann
  | 0=>some (Ann.mk ((Nat)) (fun x=>⟨[(0,.c (.int .i64 (n))),(1,.c (.int .i64 (a))),(2,.c (.int .i64 (b))),(3,.c (.int .i64 (c))),(8,.c (.ptr 8 0)),(9,.c (.ptr 9 0)),(10,.c (.int .i64 ((x:Int))))],[(8,some (.box [.nil])),(9,some (.box [.own (100)])),(100,some (.rows 0 41 2 .i64 ((afT n a b c).take x)))]⟩) (fun x=>(x:Int)≤n) (fun x=>n.toNat - x) (fun x=>fun b_=>match b_ with | 2=>some (Ann.mk ((Nat)) (fun y=>⟨[(0,.c (.int .i64 (n))),(1,.c (.int .i64 (a))),(2,.c (.int .i64 (b))),(3,.c (.int .i64 (c))),(8,.c (.ptr 8 0)),(9,.c (.ptr 9 0)),(10,.c (.int .i64 ((x:Int)))),(11,.c (.own (101))),(12,.c (.int .i64 ((y:Int))))],[(8,some (.box [.nil])),(9,some (.box [.own (100)])),(100,some (.rows 0 41 2 .i64 ((afT n a b c).take x))),(101,some (.ints 2 .i64 ((tab n.toNat fun y=>(a * (x:Int)+b * (y:Int)+c).tmod n).take y)))]⟩) (fun y=>(y:Int)≤n∧(x:Int)<n) (fun y=>n.toNat - y) (fun _=>noAnn)) | _=>none))
  | _=>none
def l05Affine_G:List (Nat×Ctr):=[]
def l05Affine_V (n:Int) (a:Int) (b:Int) (c:Int):Prop :=
 ((∃x0:Nat,(((↑x0:Int)≤n)∧((n=n)∧((a=a)∧((b=b)∧((c=c)∧(((0:Int)=(↑x0:Int))∧(List.take x0 (afT n a b c)=([]:List (List Int))))))))))∧(∀x1:Nat,(((↑x1:Int)≤n)→(BrP (decide ((↑x1:Int)<n)) ((∃x2:Nat,((((↑x2:Int)≤n)∧((↑x1:Int)<n))∧((n=n)∧((a=a)∧((b=b)∧((c=c)∧(((↑x1:Int)=(↑x1:Int))∧(((0:Int)=(↑x2:Int))∧((List.take x1 (afT n a b c)=List.take x1 (afT n a b c))∧([]=List.take x2 (tab (n.toNat) fun (y:Nat)=>Int.tmod (a * (↑x1:Int)+b * (↑y:Int)+c) n)))))))))))∧(∀x3:Nat,((((↑x3:Int)≤n)∧((↑x1:Int)<n))→(BrP (decide ((↑x3:Int)<n)) ((InR (a * (↑x1:Int)))∧((InR (b * (↑x3:Int)))∧((InR (a * (↑x1:Int)+b * (↑x3:Int)))∧((InR (a * (↑x1:Int)+b * (↑x3:Int)+c))∧((n≠(0:Int))∧((room ((List.take x3 (tab (n.toNat) fun (y:Nat)=>Int.tmod (a * (↑x1:Int)+b * (↑y:Int)+c) n)).length+[Int.tmod (a * (↑x1:Int)+b * (↑x3:Int)+c) n].length))∧((InR ((↑x3:Int)+(1:Int)))∧(∃x4:Nat,((((↑x4:Int)≤n)∧((↑x1:Int)<n))∧((n.toNat - x4<n.toNat - x3)∧((n=n)∧((a=a)∧((b=b)∧((c=c)∧(((↑x1:Int)=(↑x1:Int))∧(((↑x3:Int)+(1:Int)=(↑x4:Int))∧((List.take x1 (afT n a b c)=List.take x1 (afT n a b c))∧(List.take x3 (tab (n.toNat) fun (y:Nat)=>Int.tmod (a * (↑x1:Int)+b * (↑y:Int)+c) n)++[Int.tmod (a * (↑x1:Int)+b * (↑x3:Int)+c) n]=List.take x4 (tab (n.toNat) fun (y:Nat)=>Int.tmod (a * (↑x1:Int)+b * (↑y:Int)+c) n)))))))))))))))))))
 ((room ((List.take x1 (afT n a b c)).length+(List.take x3 (tab (n.toNat) fun (y:Nat)=>Int.tmod (a * (↑x1:Int)+b * (↑y:Int)+c) n)::([]:List (List Int))).length))∧((InR ((↑x1:Int)+(1:Int)))∧(∃x5:Nat,(((↑x5:Int)≤n)∧((n.toNat - x5<n.toNat - x1)∧((n=n)∧((a=a)∧((b=b)∧((c=c)∧(((↑x1:Int)+(1:Int)=(↑x5:Int))∧(List.take x1 (afT n a b c)++List.take x3 (tab (n.toNat) fun (y:Nat)=>Int.tmod (a * (↑x1:Int)+b * (↑y:Int)+c) n)::([]:List (List Int))=List.take x5 (afT n a b c)))))))))))))))) (((List.take x1 (afT n a b c)=afT n a b c)∧True)∧True)))))
theorem l05Affine_vc (n:Int) (a:Int) (b:Int) (c:Int):runF Try.prog (gam l05Affine_G) noWr (l05Affine_ann n a b c) Try.f102 (bodyOf Try.f102) [] [.c (.int .i64 (n)),.c (.int .i64 (a)),.c (.int .i64 (b)),.c (.int .i64 (c))] (l05Affine_p n a b c)=l05Affine_V n a b c:=by kernel_rfl
theorem l05Affine_ok (n:Int) (a:Int) (b:Int) (c:Int) (hpre:(l05Affine_p n a b c).pre):l05Affine_V n a b c:=by
  simp only [l05Affine_p,l05Affine_V,BrP_iff,u1,u2,u3,u4,u5,u6,u7,u8,u9,v1,v2,v3,v4,v5,v6,v7,v8,v9,w1,w2,w3,w4,markL_length,inB,InR,room,bdsOk] at hpre ⊢
  obtain ⟨h1,h2,a0,a1,b0,b1,c0,c1⟩:=hpre
  have lA:(afT n a b c).length=n.toNat:=tabR_length _ _
  have l1:∀x:Nat,(tab n.toNat fun y=>(a * (x:Int)+b * (y:Int)+c).tmod n).length=n.toNat:=fun x=>tab_length _ _
  refine ⟨⟨0,by omega,by omega,rfl⟩,fun x hx=>⟨fun h=>⟨⟨0,⟨by omega,by omega⟩,by omega,rfl⟩,fun y ⟨hy,_⟩=>⟨fun h5=>?_,fun h5=>?_⟩⟩,fun h=>?_⟩⟩
  · have:=l1 x
    have m1:=mulN_in (a:=a) (x:=x) a0 (by omega) (by omega)
    have m2:=mulN_in (a:=b) (x:=y) b0 (by omega) (by omega)
    exact ⟨by omega,by omega,by omega,by omega,by omega,by omega,by omega,y+1,⟨by omega,by omega⟩,by omega,by omega,tab_snoc (fun y=>(a * (x:Int)+b * (y:Int)+c).tmod n) (by omega)⟩
  · have:=l1 x
    refine ⟨by omega,by omega,x+1,by omega,by omega,by omega,?_⟩
    rw [List.take_of_length_le (l:=tab n.toNat fun y=>(a * (x:Int)+b * (y:Int)+c).tmod n) (by omega)]
    exact rows_snoc (fun x y=>(a * (x:Int)+b * (y:Int)+c).tmod n) (by omega)
  · exact List.take_of_length_le (by omega)
theorem l05Affine_fits:Fits Try.prog 102 ⟨[],l05Affine_ct⟩:=by
  refine ffn (Γ:=gam l05Affine_G) gok_nil Try.func102 fun ds p h hp=>?_
  unfold l05Affine_ct at h
  split at h
  · cases h
    exact ⟨noWr,l05Affine_ann _ _ _ _ ,by rw [l05Affine_vc];exact l05Affine_ok _ _ _ _  hp⟩
  · cases h
def cyT (A:List (List Int)):List (List Int):=A.map bkL
def l05Cycle_p (A:List (List Int)) (B:List (List Int)):Post:=⟨1≤A.length∧A.length≤144∧sqB (A.length:Int) A,.agg [.rows 41 2 .i64 (cyT A)],[]⟩
def l05Cycle_ct:List AD→Option Post
  | [.agg [.rows .i64 (A),.rows .i64 (B)]]=>some (l05Cycle_p A B)
  | _=>none
def l05Cycle_ann (A:List (List Int)) (B:List (List Int)):Nat→Option Ann
  | 0=>some (Ann.mk ((Nat)) (fun x=>⟨[(1,.c (.ptr 1 0)),(2,.c (.ptr 2 0)),(3,.c (.ptr 3 0)),(4,.c (.int .i64 ((x:Int))))],[(1,some (.box [.ro (.rows .i64 (A)),.ro (.rows .i64 (B))])),(2,some (.box [.nil])),(3,some (.box [.own (100)])),(100,some (.rows 0 41 2 .i64 ((cyT A).take x)))]⟩) (fun x=>x≤A.length) (fun x=>A.length - x) (fun _=>noAnn))
  | _=>none
def l05Cycle_G:List (Nat×Ctr):=[(111,⟨[],l01BackG_ct⟩)]
def l05Cycle_V (A:List (List Int)) (B:List (List Int)):Prop :=
 ((∃x0:Nat,((x0≤A.length)∧(((0:Int)=(↑x0:Int))∧((A=A)∧((B=B)∧(List.take x0 (cyT A)=([]:List (List Int))))))))∧(∀x1:Nat,((x1≤A.length)→(BrP (decide ((↑x1:Int)<(↑(A.length):Int))) ((inB (↑x1:Int) (A.length))∧((((room ((A.getD ((↑x1:Int).toNat) []).length))∧(inQ ((A.getD ((↑x1:Int).toNat) []).length) (A.getD ((↑x1:Int).toNat) [])))∧True)∧((room ((List.take x1 (cyT A)).length+(bkL (A.getD ((↑x1:Int).toNat) [])::([]:List (List Int))).length))∧((InR ((↑x1:Int)+(1:Int)))∧(∃x2:Nat,((x2≤A.length)∧((A.length - x2<A.length - x1)∧(((↑x1:Int)+(1:Int)=(↑x2:Int))∧((A=A)∧((B=B)∧(List.take x1 (cyT A)++bkL (A.getD ((↑x1:Int).toNat) [])::([]:List (List Int))=List.take x2 (cyT A)))))))))))) (((List.take x1 (cyT A)=cyT A)∧True)∧True)))))
theorem l05Cycle_vc (A:List (List Int)) (B:List (List Int)):runF Try.prog (gam l05Cycle_G) noWr (l05Cycle_ann A B) Try.f106 (bodyOf Try.f106) [] [.agg [.rows .i64 (A),.rows .i64 (B)]] (l05Cycle_p A B)=l05Cycle_V A B:=by kernel_rfl
theorem l05Cycle_ok (A:List (List Int)) (B:List (List Int)) (hpre:(l05Cycle_p A B).pre):l05Cycle_V A B:=by
  simp only [l05Cycle_p,l05Cycle_V,BrP_iff,u1,u2,u3,u4,u5,u6,u7,u8,u9,v1,v2,v3,v4,v5,v6,v7,v8,v9,w1,w2,w3,w4,markL_length,inB,InR,room,bdsOk] at hpre ⊢
  obtain ⟨h1,h2,hA⟩:=hpre
  have lc:(cyT A).length=A.length:=by simp [cyT]
  refine ⟨⟨0,by omega,by omega,rfl⟩,fun x hx=>⟨fun h=>?_,fun h=>?_⟩⟩
  · have a1:=sq_row hA (x:=x) (by omega)
    refine ⟨by omega,⟨by omega,fun i hi=>?_⟩,by omega,by omega,x+1,by omega,by omega,by omega,?_⟩
    · have:=a1.2 i (by omega)
      omega
    · rw [←take_snoc (cyT A) [] x (by omega)]
      simp [cyT,List.getD_eq_getElem?_getD,show x<A.length by omega]
  · exact List.take_of_length_le (by omega)
theorem l05Cycle_fits:Fits Try.prog 106 ⟨[],l05Cycle_ct⟩:=by
  refine ffn (Γ:=gam l05Cycle_G) (gok_cons l01BackG_fits gok_nil) Try.func106 fun ds p h hp=>?_
  unfold l05Cycle_ct at h
  split at h
  · cases h
    exact ⟨noWr,l05Cycle_ann _ _ ,by rw [l05Cycle_vc];exact l05Cycle_ok _ _  hp⟩
  · cases h
end Go.Sx
