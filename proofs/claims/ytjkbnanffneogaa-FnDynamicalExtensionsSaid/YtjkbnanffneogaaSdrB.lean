/- SdrB -/
import Derived.Test.YtjkbnanffneogaaSdrA
open Go Go.Proofs
namespace Go.Sx
set_option linter.unusedSimpArgs false
set_option linter.unusedVariables false
def duS (code:List Int) (n:Nat) (a h:Int):Nat→List Int×Int×Int
  | 0=>(unitL n,a,h)
  | j+1=>let s:=duS code n a h j
    let k:=(nxV code s.2.1 s.2.2 ((n:Int) - 1 - (j:Int)+1)).toNat
    ((s.1.set (n - 1 - j) (s.1.getD k 0)).set k (s.1.getD (n - 1 - j) 0),nxA code.length s.2.1 ((n:Int) - 1 - (j:Int)+1),nxH s.2.2 ((n:Int) - 1 - (j:Int)+1))
def inN (n:Nat) (p:List Int):Prop:=p.length=n∧∀i,i<n→0≤p.getD i 0∧p.getD i 0≤(n:Int) - 1
theorem inN_set {n:Nat} {p:List Int} (h:inN n p) {k:Nat} {v:Int} (hv:0≤v∧v≤(n:Int) - 1):inN n (p.set k v):=by
  refine ⟨by rw [List.length_set];exact h.1,fun i hi=>?_⟩
  rw [getD_set _ _ _ _ (by rw [h.1];exact hi)]
  split
  · exact hv
  · exact h.2 i hi
theorem inN_unit (n:Nat):inN n (unitL n):=⟨tab_length _ _,fun i hi=>by rw [unitL,tab_getD _ _ _ hi];omega⟩
theorem du_in {code:List Int} (hb:bytesB code) {n:Nat} {a h:Int} (h0:0≤a) (h1:a≤(code.length:Int)):∀j,j+1≤n→inN n (duS code n a h j).1∧0≤(duS code n a h j).2.1∧(duS code n a h j).2.1≤(code.length:Int)
  | 0,_=>⟨inN_unit n,h0,h1⟩
  | j+1,hj=>by
    obtain ⟨e1,e2,e3⟩:=du_in hb (n:=n) (h:=h) h0 h1 j (by omega)
    have v:=nxV_in hb (duS code n a h j).2.1 (duS code n a h j).2.2 (n:=(n:Int) - 1 - (j:Int)+1) (by omega)
    have s:=nxA_in (n:=(n:Int) - 1 - (j:Int)+1) e2 e3
    exact ⟨inN_set (k:=(nxV code (duS code n a h j).2.1 (duS code n a h j).2.2 ((n:Int) - 1 - (j:Int)+1)).toNat) (inN_set (k:=n - 1 - j) e1 (e1.2 (nxV code (duS code n a h j).2.1 (duS code n a h j).2.2 ((n:Int) - 1 - (j:Int)+1)).toNat (by omega))) (e1.2 (n - 1 - j) (by omega)),s⟩
def duF (code:List Int) (n a h:Int):List Int×Int×Int:=duS code n.toNat a h (n.toNat - 1)
theorem duF_in {code:List Int} (hb:bytesB code) {n a h:Int} (hn:1≤n) (h0:0≤a) (h1:a≤(code.length:Int)):inN n.toNat (duF code n a h).1∧0≤(duF code n a h).2.1∧(duF code n a h).2.1≤(code.length:Int):=du_in hb h0 h1 _ (by omega)
def l01DrawU_p (code:List Int) (a:Int) (h:Int) (n:Int):Post:=⟨bytesB code∧0≤a∧a≤(code.length:Int)∧code.length≤4096∧1≤n∧n≤144,.c (.ints 2 .i64 ((duF code n a h).1)),[.bx [.ints .u8 (code),.int .i64 ((duF code n a h).2.1),.int .u64 ((duF code n a h).2.2)]]⟩
def l01DrawU_ct:List AD→Option Post
  | [.box [.ints .u8 (code),.int .i64 (a),.int .u64 (h)],.c (.int .i64 (n))]=>some (l01DrawU_p code a h n)
  | _=>none
def l01DrawU_ann (code:List Int) (a:Int) (h:Int) (n:Int):Nat→Option Ann
  | 0=>some (Ann.mk ((Nat)) (fun j=>⟨[(0,.c (.ptr 700 0)),(1,.c (.int .i64 (n))),(5,.c (.own (100))),(6,.c (.int .i64 (n - 1 - (j:Int))))],[(700,some (.box [.orig 700 0 (.ints .u8 (code)),.int .i64 ((duS code n.toNat a h j).2.1),.int .u64 ((duS code n.toNat a h j).2.2)])),(100,some (.ints 2 .i64 ((duS code n.toNat a h j).1)))]⟩) (fun j=>(j:Int)≤n - 1) (fun j=>n.toNat - j) (fun _=>noAnn))
  | _=>none
def l01DrawU_G:List (Nat×Ctr):=[(57,⟨[(0,0)],l01Next_ct⟩),(92,⟨[],l01UnitG_ct⟩)]
def l01DrawU_c1 (code:List Int) (a:Int) (h:Int) (n:Int) (x0:Nat):=(nxV code (((duS code (n.toNat) a h x0).2).1) (((duS code (n.toNat) a h x0).2).2) (n - (1:Int) - (↑x0:Int)+(1:Int)))
def l01DrawU_V (code:List Int) (a:Int) (h:Int) (n:Int):Prop :=
 (((((0:Int)≤n)∧(n≤(1099511627776:Int)))∧True)∧((InR (n - (1:Int)))∧((∃x0:Nat,(((↑x0:Int)≤n - (1:Int))∧((n=n)∧((n - (1:Int)=n - (1:Int) - (↑x0:Int))∧((code=code)∧((a=((duS code (n.toNat) a h x0).2).1)∧((h=((duS code (n.toNat) a h x0).2).2)∧(unitL (n.toNat)=(duS code (n.toNat) a h x0).1))))))))∧(∀x1:Nat,(((↑x1:Int)≤n - (1:Int))→(BrP (decide ((0:Int)<n - (1:Int) - (↑x1:Int))) ((InR (n - (1:Int) - (↑x1:Int)+(1:Int)))∧((((bytesB code)∧(((0:Int)≤((duS code (n.toNat) a h x1).2).1)∧(((duS code (n.toNat) a h x1).2).1≤(1099511627776:Int))))∧((code=code)∧True))∧((inB (n - (1:Int) - (↑x1:Int)) (((duS code (n.toNat) a h x1).1).length))∧((inB (l01DrawU_c1 code a h n x1) (((duS code (n.toNat) a h x1).1).length))∧((inB (n - (1:Int) - (↑x1:Int)) (((duS code (n.toNat) a h x1).1).length))∧((inB (l01DrawU_c1 code a h n x1) ((List.set ((duS code (n.toNat) a h x1).1) ((n - (1:Int) - (↑x1:Int)).toNat) (((duS code (n.toNat) a h x1).1).getD ((l01DrawU_c1 code a h n x1).toNat) (0:Int))).length))∧((InR (n - (1:Int) - (↑x1:Int) - (1:Int)))∧(∃x2:Nat,(((↑x2:Int)≤n - (1:Int))∧((n.toNat - x2<n.toNat - x1)∧((n=n)∧((n - (1:Int) - (↑x1:Int) - (1:Int)=n - (1:Int) - (↑x2:Int))∧((code=code)∧((nxA (code.length) (((duS code (n.toNat) a h x1).2).1) (n - (1:Int) - (↑x1:Int)+(1:Int))=((duS code (n.toNat) a h x2).2).1)∧((nxH (((duS code (n.toNat) a h x1).2).2) (n - (1:Int) - (↑x1:Int)+(1:Int))=((duS code (n.toNat) a h x2).2).2) ∧
 (List.set (List.set ((duS code (n.toNat) a h x1).1) ((n - (1:Int) - (↑x1:Int)).toNat) (((duS code (n.toNat) a h x1).1).getD ((l01DrawU_c1 code a h n x1).toNat) (0:Int))) ((l01DrawU_c1 code a h n x1).toNat) (((duS code (n.toNat) a h x1).1).getD ((n - (1:Int) - (↑x1:Int)).toNat) (0:Int))=(duS code (n.toNat) a h x2).1)))))))))))))))) (((duS code (n.toNat) a h x1).1=(duF code n a h).1)∧(((code=code)∧((((duS code (n.toNat) a h x1).2).1=((duF code n a h).2).1)∧((((duS code (n.toNat) a h x1).2).2=((duF code n a h).2).2)∧True)))∧True))))))))
theorem l01DrawU_vc (code:List Int) (a:Int) (h:Int) (n:Int):runF Try.prog (gam l01DrawU_G) noWr (l01DrawU_ann code a h n) Try.f58 (bodyOf Try.f58) [(0,0)] [.box [.ints .u8 (code),.int .i64 (a),.int .u64 (h)],.c (.int .i64 (n))] (l01DrawU_p code a h n)=l01DrawU_V code a h n:=by kernel_rfl
theorem l01DrawU_ok (code:List Int) (a:Int) (h:Int) (n:Int) (hpre:(l01DrawU_p code a h n).pre):l01DrawU_V code a h n:=by
  simp only [l01DrawU_p,l01DrawU_V,l01DrawU_c1,BrP_iff,u1,u2,u3,u4,u5,u6,u7,u8,u9,v1,v2,v3,v4,v5,v6,v7,v8,v9,w1,w2,w3,w4,markL_length,inB,InR,room,bdsOk] at hpre ⊢
  obtain ⟨hb,h0,h1,h2,h3,h4⟩:=hpre
  have en:((n.toNat:Nat):Int)=n:=by omega
  refine ⟨by omega,by omega,⟨0,by omega,by omega,rfl,rfl,rfl⟩,fun j hj=>⟨fun hlt=>?_,fun hge=>?_⟩⟩
  · obtain ⟨e1,e2,e3⟩:=du_in hb (n:=n.toNat) (h:=h) h0 h1 j (by omega)
    have v:=nxV_in hb (duS code n.toNat a h j).2.1 (duS code n.toNat a h j).2.2 (n:=n - 1 - (j:Int)+1) (by omega)
    have l:=e1.1
    have st:duS code n.toNat a h (j+1)=(((duS code n.toNat a h j).1.set (n.toNat - 1 - j) ((duS code n.toNat a h j).1.getD (nxV code (duS code n.toNat a h j).2.1 (duS code n.toNat a h j).2.2 (n - 1 - (j:Int)+1)).toNat 0)).set (nxV code (duS code n.toNat a h j).2.1 (duS code n.toNat a h j).2.2 (n - 1 - (j:Int)+1)).toNat ((duS code n.toNat a h j).1.getD (n.toNat - 1 - j) 0),
        nxA code.length (duS code n.toNat a h j).2.1 (n - 1 - (j:Int)+1),nxH (duS code n.toNat a h j).2.2 (n - 1 - (j:Int)+1)):=by
      rw [duS,en]
    rw [show (n - 1 - (j:Int)).toNat=n.toNat - 1 - j by omega]
    refine ⟨by omega,⟨hb,e2,by omega⟩,by omega,by omega,by omega,by omega,by omega,j+1,by omega,by omega,by omega,by rw [st],by rw [st],by rw [st]⟩
  · rw [show j=n.toNat - 1 by omega];exact ⟨rfl,rfl,rfl⟩
theorem l01DrawU_fits:Fits Try.prog 58 ⟨[(0,0)],l01DrawU_ct⟩:=by
  refine ffn (Γ:=gam l01DrawU_G) (gok_cons l01Next_fits (gok_cons l01UnitG_fits gok_nil)) Try.func58 fun ds p h hp=>?_
  unfold l01DrawU_ct at h
  split at h
  · cases h
    exact ⟨noWr,l01DrawU_ann _ _ _ _ ,by rw [l01DrawU_vc];exact l01DrawU_ok _ _ _ _  hp⟩
  · cases h
abbrev Sr:=Sq×Int×Int
def okS (code:List Int) (most:Int) (r:Sr):Prop:=1≤r.1.1.length∧(r.1.1.length:Int)≤most∧r.1.2.length=r.1.1.length∧sqB (r.1.1.length:Int) r.1.1∧sqB (r.1.1.length:Int) r.1.2∧0≤r.2.1∧r.2.1≤(code.length:Int)
def thN (p:List Int) (n:Nat):Nat→List Int
  | 0=>unitL n
  | j+1=>thL (thN p n j) p
theorem thN_in {n:Nat} {p:List Int} (h:inN n p):∀j,inN n (thN p n j)
  | 0=>inN_unit n
  | j+1=>by
    have ih:=thN_in h j
    refine ⟨by rw [thN,thL,List.length_map];exact ih.1,fun i hi=>?_⟩
    have:=ih.2 i hi
    rw [thN,thL,getD_map _ _ 0 0 i (by rw [ih.1];exact hi)]
    exact h.2 _ (by omega)
def tdF (code:List Int) (n a h:Int):Sr :=
  let d:=duF code n a h
  let q:=thN d.1 n.toNat (nxV code d.2.1 d.2.2 4).toNat
  let a2:=nxA code.length d.2.1 4
  let h2:=nxH d.2.2 4
  (if nxV code a2 h2 2=0 then twS d.1 q else twS q d.1,nxA code.length a2 2,nxH h2 2)
theorem twS_ok {n:Nat} {p q:List Int} (hp:inN n p) (hq:inN n q) (h1:1≤n):(twS p q).1.length=n∧(twS p q).2.length=n∧sqB (n:Int) (twS p q).1∧sqB (n:Int) (twS p q).2:=by
  have l:=hp.1
  refine ⟨by simp [twS,l],by simp [twS,tabR_length,l],?_,?_⟩
  · have:=sq_rep (n:=(n:Int)) (p:=p) (by omega) (by omega) fun x hx=>by
      obtain ⟨i,hi,rfl⟩:=List.getElem_of_mem hx
      have:=hp.2 i (by omega)
      rwa [getD_lt p 0 i hi] at this
    rw [Int.toNat_natCast] at this
    rw [twS,l];exact this
  · have:=sq_tabR (n:=(n:Int)) (fun x _=>q.getD x 0) (by omega) fun x y hx hy=>hq.2 x (by omega)
    rw [Int.toNat_natCast] at this
    rw [twS,l];exact this
theorem tdF_ok {code:List Int} (hb:bytesB code) {n a h:Int} (hn:1≤n) (h0:0≤a) (h1:a≤(code.length:Int)):okS code n (tdF code n a h)∧((tdF code n a h).1.1.length:Int)=n:=by
  obtain ⟨d1,d2,d3⟩:=duF_in hb (h:=h) hn h0 h1
  have s:=nxA_in (n:=4) d2 d3
  have s2:=nxA_in (n:=2) s.1 s.2
  have T:=thN_in d1 (nxV code (duF code n a h).2.1 (duF code n a h).2.2 4).toNat
  have key:∀r:Sq,r.1.length=n.toNat∧r.2.length=n.toNat∧sqB (n.toNat:Int) r.1∧sqB (n.toNat:Int) r.2→∀s:Int×Int,0≤s.1∧s.1≤(code.length:Int)→okS code n (r,s)∧((r,s).1.1.length:Int)=n:=fun r hr s hs =>
    ⟨⟨by show 1≤r.1.length;omega,by show (r.1.length:Int)≤n;omega,by show r.2.length=r.1.length;omega,by show sqB (r.1.length:Int) r.1;rw [hr.1];exact hr.2.2.1,by show sqB (r.1.length:Int) r.2;rw [hr.1];exact hr.2.2.2,hs⟩,by show (r.1.length:Int)=n;omega⟩
  unfold tdF
  dsimp only
  split
  · exact key _ (twS_ok d1 T (by omega)) _ s2
  · exact key _ (twS_ok T d1 (by omega)) _ s2
def l02Twisted_p (code:List Int) (a:Int) (h:Int) (n:Int):Post:=⟨bytesB code∧0≤a∧a≤(code.length:Int)∧code.length≤4096∧1≤n∧n≤144,.agg [.rows 41 2 .i64 ((tdF code n a h).1.1),.rows 41 2 .i64 ((tdF code n a h).1.2)],[.bx [.ints .u8 (code),.int .i64 ((tdF code n a h).2.1),.int .u64 ((tdF code n a h).2.2)]]⟩
def l02Twisted_ct:List AD→Option Post
  | [.box [.ints .u8 (code),.int .i64 (a),.int .u64 (h)],.c (.int .i64 (n))]=>some (l02Twisted_p code a h n)
  | _=>none
def l02Twisted_ann (code:List Int) (a:Int) (h:Int) (n:Int):Nat→Option Ann
  | 0=>some (Ann.mk ((Nat)) (fun j=>⟨[(0,.c (.ptr 700 0)),(1,.c (.int .i64 (n))),(4,.c (.ptr 4 0)),(5,.c (.own (100))),(6,.c (.own (101))),(7,.c (.int .i64 (nxV code (duF code n a h).2.1 (duF code n a h).2.2 4 - (j:Int))))],[(4,some (.box [.nil,.nil])),(700,some (.box [.orig 700 0 (.ints .u8 (code)),.int .i64 (nxA code.length (duF code n a h).2.1 4),.int .u64 (nxH (duF code n a h).2.2 4)])),(100,some (.ints 2 .i64 ((duF code n a h).1))),(101,some (.ints 2 .i64 (thN (duF code n a h).1 n.toNat j)))]⟩) (fun j=>(j:Int)≤nxV code (duF code n a h).2.1 (duF code n a h).2.2 4) (fun j=>4 - j) (fun _=>noAnn))
  | _=>none
def l02Twisted_G:List (Nat×Ctr):=[(57,⟨[(0,0)],l01Next_ct⟩),(58,⟨[(0,0)],l01DrawU_ct⟩),(92,⟨[],l01UnitG_ct⟩),(120,⟨[],l01ThenG_ct⟩),(112,⟨[],l02Twist_ct⟩)]
def l02Twisted_V (code:List Int) (a:Int) (h:Int) (n:Int):Prop :=
 ((((bytesB code)∧(((0:Int)≤a)∧((a≤(↑(code.length):Int))∧((code.length≤(4096:Nat))∧(((1:Int)≤n)∧(n≤(144:Int)))))))∧((code=code)∧True))∧(((((0:Int)≤n)∧(n≤(1099511627776:Int)))∧True)∧((((bytesB code)∧(((0:Int)≤((duF code n a h).2).1)∧(((duF code n a h).2).1≤(1099511627776:Int))))∧((code=code)∧True))∧((∃x0:Nat,(((↑x0:Int)≤nxV code (((duF code n a h).2).1) (((duF code n a h).2).2) (4:Int))∧((n=n)∧((nxV code (((duF code n a h).2).1) (((duF code n a h).2).2) (4:Int)=nxV code (((duF code n a h).2).1) (((duF code n a h).2).2) (4:Int) - (↑x0:Int))∧((code=code)∧((nxA (code.length) (((duF code n a h).2).1) (4:Int)=nxA (code.length) (((duF code n a h).2).1) (4:Int))∧((nxH (((duF code n a h).2).2) (4:Int)=nxH (((duF code n a h).2).2) (4:Int))∧(((duF code n a h).1=(duF code n a h).1)∧(unitL (n.toNat)=thN ((duF code n a h).1) (n.toNat) x0)))))))))∧(∀x1:Nat,(((↑x1:Int)≤nxV code (((duF code n a h).2).1) (((duF code n a h).2).2) (4:Int))→(BrP (decide ((0:Int)<nxV code (((duF code n a h).2).1) (((duF code n a h).2).2) (4:Int) - (↑x1:Int))) ((((room ((thN ((duF code n a h).1) (n.toNat) x1).length))∧(inQ (((duF code n a h).1).length) (thN ((duF code n a h).1) (n.toNat) x1)))∧True)∧((InR (nxV code (((duF code n a h).2).1) (((duF code n a h).2).2) (4:Int) - (↑x1:Int) - (1:Int)))∧(∃x2:Nat,(((↑x2:Int)≤nxV code (((duF code n a h).2).1) (((duF code n a h).2).2) (4:Int))∧(((4:Nat) - x2<(4:Nat) - x1)∧((n=n) ∧
 ((nxV code (((duF code n a h).2).1) (((duF code n a h).2).2) (4:Int) - (↑x1:Int) - (1:Int)=nxV code (((duF code n a h).2).1) (((duF code n a h).2).2) (4:Int) - (↑x2:Int))∧((code=code)∧((nxA (code.length) (((duF code n a h).2).1) (4:Int)=nxA (code.length) (((duF code n a h).2).1) (4:Int))∧((nxH (((duF code n a h).2).2) (4:Int)=nxH (((duF code n a h).2).2) (4:Int))∧(((duF code n a h).1=(duF code n a h).1)∧(thL (thN ((duF code n a h).1) (n.toNat) x1) ((duF code n a h).1)=thN ((duF code n a h).1) (n.toNat) x2)))))))))))) ((((bytesB code)∧(((0:Int)≤nxA (code.length) (((duF code n a h).2).1) (4:Int))∧(nxA (code.length) (((duF code n a h).2).1) (4:Int)≤(1099511627776:Int))))∧((code=code)∧True))∧(BrP (nxV code (nxA (code.length) (((duF code n a h).2).1) (4:Int)) (nxH (((duF code n a h).2).2) (4:Int)) (2:Int) == (0:Int)) ((((((duF code n a h).1).length≤(144:Nat))∧(((duF code n a h).1).length≤(thN ((duF code n a h).1) (n.toNat) x1).length))∧True)∧((((twS ((duF code n a h).1) (thN ((duF code n a h).1) (n.toNat) x1)).1=((tdF code n a h).1).1)∧(((twS ((duF code n a h).1) (thN ((duF code n a h).1) (n.toNat) x1)).2=((tdF code n a h).1).2)∧True))∧(((code=code)∧((nxA (code.length) (nxA (code.length) (((duF code n a h).2).1) (4:Int)) (2:Int)=((tdF code n a h).2).1)∧((nxH (nxH (((duF code n a h).2).2) (4:Int)) (2:Int)=((tdF code n a h).2).2)∧True)))∧True))) (((((thN ((duF code n a h).1) (n.toNat) x1).length≤(144:Nat)) ∧
 ((thN ((duF code n a h).1) (n.toNat) x1).length≤((duF code n a h).1).length))∧True)∧((((twS (thN ((duF code n a h).1) (n.toNat) x1) ((duF code n a h).1)).1=((tdF code n a h).1).1)∧(((twS (thN ((duF code n a h).1) (n.toNat) x1) ((duF code n a h).1)).2=((tdF code n a h).1).2)∧True))∧(((code=code)∧((nxA (code.length) (nxA (code.length) (((duF code n a h).2).1) (4:Int)) (2:Int)=((tdF code n a h).2).1)∧((nxH (nxH (((duF code n a h).2).2) (4:Int)) (2:Int)=((tdF code n a h).2).2)∧True)))∧True))))))))))))
theorem l02Twisted_vc (code:List Int) (a:Int) (h:Int) (n:Int):runF Try.prog (gam l02Twisted_G) noWr (l02Twisted_ann code a h n) Try.f115 (bodyOf Try.f115) [(0,0)] [.box [.ints .u8 (code),.int .i64 (a),.int .u64 (h)],.c (.int .i64 (n))] (l02Twisted_p code a h n)=l02Twisted_V code a h n:=by kernel_rfl
theorem l02Twisted_ok (code:List Int) (a:Int) (h:Int) (n:Int) (hpre:(l02Twisted_p code a h n).pre):l02Twisted_V code a h n:=by
  simp only [l02Twisted_p,l02Twisted_V,BrP_iff,u1,u2,u3,u4,u5,u6,u7,u8,u9,v1,v2,v3,v4,v5,v6,v7,v8,v9,w1,w2,w3,w4,markL_length,inB,InR,room,bdsOk] at hpre ⊢
  obtain ⟨hb,h0,h1,h2,h3,h4⟩:=hpre
  obtain ⟨d1,d2,d3⟩:=duF_in hb (h:=h) h3 h0 h1
  have v:=nxV_in hb (duF code n a h).2.1 (duF code n a h).2.2 (n:=4) (by omega)
  have s:=nxA_in (n:=4) d2 d3
  have l:=d1.1
  refine ⟨⟨hb,h0,h1,h2,h3,h4⟩,by omega,⟨hb,d2,by omega⟩,⟨0,by omega,by omega,rfl⟩,fun j hj=>⟨fun hlt=>?_,fun hge=>?_⟩⟩
  · have T:=thN_in d1 j
    have lT:=T.1
    refine ⟨⟨by omega,fun i hi=>?_⟩,by omega,j+1,by omega,by omega,by omega,rfl⟩
    have:=T.2 i (by omega)
    omega
  · have T:=thN_in d1 j
    have lT:=T.1
    have ej:j=(nxV code (duF code n a h).2.1 (duF code n a h).2.2 4).toNat:=by omega
    have td:tdF code n a h=(if nxV code (nxA code.length (duF code n a h).2.1 4) (nxH (duF code n a h).2.2 4) 2=0 then twS (duF code n a h).1 (thN (duF code n a h).1 n.toNat j) else twS (thN (duF code n a h).1 n.toNat j) (duF code n a h).1,nxA code.length (nxA code.length (duF code n a h).2.1 4) 2,nxH (nxH (duF code n a h).2.2 4) 2):=by
      rw [ej];rfl
    refine ⟨⟨hb,s.1,by omega⟩,fun z=>?_,fun z=>?_⟩
    · rw [td,if_pos z];exact ⟨⟨by omega,by omega⟩,⟨rfl,rfl⟩,rfl,rfl⟩
    · rw [td,if_neg z];exact ⟨⟨by omega,by omega⟩,⟨rfl,rfl⟩,rfl,rfl⟩
theorem l02Twisted_fits:Fits Try.prog 115 ⟨[(0,0)],l02Twisted_ct⟩:=by
  refine ffn (Γ:=gam l02Twisted_G) (gok_cons l01Next_fits (gok_cons l01DrawU_fits (gok_cons l01UnitG_fits (gok_cons l01ThenG_fits (gok_cons l02Twist_fits gok_nil))))) Try.func115 fun ds p h hp=>?_
  unfold l02Twisted_ct at h
  split at h
  · cases h
    exact ⟨noWr,l02Twisted_ann _ _ _ _ ,by rw [l02Twisted_vc];exact l02Twisted_ok _ _ _ _  hp⟩
  · cases h
def io4:List (List Int):=[[0,1,3,2],[0,1,3,2],[1,0,2,3],[1,0,2,3]]
def io3:List (List Int):=[[0,1,2],[0,1,2],[1,0,2]]
def anN (code:List Int) (K:Int→Int→Int→Sr) (most n c a h:Int):Sr :=
  if c=0 then (twS (unitL n.toNat) (unitL n.toNat),a,h)
  else if c=1 then (plS n,a,h)
  else if c=2∧4≤n∧n.tmod 2=0 then
    let s:=tdF code (n.tdiv 2) a h
    let t:=tdF code 2 s.2.1 s.2.2
    (prS s.1 t.1,t.2)
  else if c=3∧2≤n then
    let m:=1+nxV code a h (n - 1)
    let s:=K (nxA code.length a (n - 1)) (nxH h (n - 1)) m
    let t:=tdF code (n - m) s.2.1 s.2.2
    (unS s.1 t.1,t.2)
  else if c=4∧4≤most then (ioS io4,a,h)
  else if c=5∧2≤n then (ivX (plS n).1 (plS n).2 (plS n).1.length,a,h)
  else if c=6∧3≤most then (ioS io3,a,h)
  else tdF code n a h
def anF (code:List Int):Nat→Int→Int→Int→Sr
  | 0,a,h,most=>tdF code most a h
  | d+1,a,h,most=>anN code (anF code d) most (1+nxV code a h most) (nxV code (nxA code.length a most) (nxH h most) 8) (nxA code.length (nxA code.length a most) 8) (nxH (nxH h most) 8)
theorem plS_ok {n:Int} (h1:1≤n):((plS n).1.length:Int)=n∧((plS n).2.length:Int)=n∧sqB n (plS n).1∧sqB n (plS n).2:=by
  refine ⟨by simp only [plS,tabR_length];omega,by simp only [plS,tabR_length];omega,sq_tabR _ (by omega) fun x y hx hy=>?_,sq_tabR _ (by omega) fun x y hx hy=>by omega⟩
  exact tmod_in' (by omega) h1
theorem prT_ok {n m:Int} {A C:List (List Int)} (hA:sqB n A) (hC:sqB m C) (hn:1≤n) (hm:1≤m):sqB (n * m) (tabR (n * m).toNat (prF m A C)):=by
  refine sq_tabR _ (Int.mul_nonneg (by omega) (by omega)) fun x y hx hy=>?_
  obtain ⟨p1,p2,p3,p4⟩:=pr_in hn hm hx
  obtain ⟨q1,q2,q3,q4⟩:=pr_in hn hm hy
  have a:=(sq_row hA (x:=((x:Int).tdiv m).toNat) (by omega)).2 ((y:Int).tdiv m).toNat (by omega)
  have c:=(sq_row hC (x:=((x:Int).tmod m).toNat) (by omega)).2 ((y:Int).tmod m).toNat (by omega)
  unfold prF
  generalize (A.getD ((x:Int).tdiv m).toNat []).getD ((y:Int).tdiv m).toNat 0=u at *
  have e1:=Int.mul_nonneg a.1 (show 0≤m by omega)
  have e2:=Int.mul_le_mul_of_nonneg_right a.2 (show 0≤m by omega)
  rw [Int.sub_mul,Int.one_mul] at e2
  omega
theorem unT_ok {n m:Int} {A C:List (List Int)} {d:Nat→Nat→Int} (hA:sqB n A) (hC:sqB m C) (hn:1≤n) (hm:1≤m) (hd:∀x y:Nat,(x:Int)<n+m→(y:Int)<n+m→0≤d x y∧d x y≤n+m - 1):sqB (n+m) (tabR (n+m).toNat (unF n A C d)):=by
  refine sq_tabR _ (by omega) fun x y hx hy=>?_
  unfold unF
  split
  · rename_i h
    have a:=(sq_row hA (x:=x) h.1).2 y h.2
    omega
  · split
    · rename_i h
      have c:=(sq_row hC (x:=((x:Int) - n).toNat) (by omega)).2 ((y:Int) - n).toNat (by omega)
      omega
    · exact hd x y hx hy
def okQ (n:Int) (s:Sq):Prop:=(s.1.length:Int)=n∧(s.2.length:Int)=n∧sqB n s.1∧sqB n s.2
theorem okS_of {code:List Int} {n most:Int} {s:Sq} {p:Int×Int} (h:okQ n s) (h1:1≤n) (h2:n≤most) (hp:0≤p.1∧p.1≤(code.length:Int)):okS code most (s,p):=by
  obtain ⟨a,b,c,d⟩:=h
  refine ⟨?_,?_,?_,?_,?_,hp⟩
  · show 1≤s.1.length;omega
  · show (s.1.length:Int)≤most;omega
  · show s.2.length=s.1.length;omega
  · show sqB (s.1.length:Int) s.1;rw [a];exact c
  · show sqB (s.1.length:Int) s.2;rw [a];exact d
theorem okQ_of {code:List Int} {most:Int} {r:Sr} (h:okS code most r):okQ (r.1.1.length:Int) r.1:=by
  obtain ⟨a,b,c,d,e,_⟩:=h
  exact ⟨rfl,by omega,d,e⟩
theorem prS_ok {n m:Int} {s t:Sq} (hs:okQ n s) (ht:okQ m t) (hn:1≤n) (hm:1≤m):okQ (n * m) (prS s t):=by
  obtain ⟨a,b,c,d⟩:=hs
  obtain ⟨a',b',c',d'⟩:=ht
  have nn:0≤n * m:=Int.mul_nonneg (by omega) (by omega)
  unfold prS
  rw [a,a']
  exact ⟨by rw [tabR_length];omega,by rw [tabR_length];omega,prT_ok c c' hn hm,prT_ok d d' hn hm⟩
theorem unS_ok {n m:Int} {s t:Sq} (hs:okQ n s) (ht:okQ m t) (hn:1≤n) (hm:1≤m):okQ (n+m) (unS s t):=by
  obtain ⟨a,b,c,d⟩:=hs
  obtain ⟨a',b',c',d'⟩:=ht
  unfold unS
  rw [a,a']
  exact ⟨by rw [tabR_length];omega,by rw [tabR_length];omega,unT_ok c c' hn hm fun x y hx hy=>by omega,unT_ok d d' hn hm fun x y hx hy=>by omega⟩
theorem twU_ok {n:Int} (hn:1≤n):okQ n (twS (unitL n.toNat) (unitL n.toNat)):=by
  obtain ⟨a,b,c,d⟩:=twS_ok (inN_unit n.toNat) (inN_unit n.toNat) (by omega)
  have e:(n.toNat:Int)=n:=by omega
  rw [e] at c d
  exact ⟨by omega,by omega,c,d⟩
theorem iv_ok {n:Int} {s:Sq} (hs:okQ n s) (hn:1≤n):okQ n (ivX s.1 s.2 s.1.length):=by
  obtain ⟨a,b,c,d⟩:=hs
  obtain ⟨e,f⟩:=ivX_sq (by rw [a];exact c) (by rw [a];exact d) (by omega) s.1.length (Nat.le_refl _)
  rw [a] at e f
  exact ⟨e.1,f.1,e,f⟩
theorem io4_ok:sqB 4 io4∧okQ 4 (ioS io4):=by
  unfold okQ sqB
  decide
theorem io3_ok:sqB 3 io3∧okQ 3 (ioS io3):=by
  unfold okQ sqB
  decide
theorem anN_ok {code:List Int} (hb:bytesB code) {K:Int→Int→Int→Sr} {most n c a h:Int} (h1:1≤n) (h2:n≤most) (h6:most≤6) (ha:0≤a) (ha2:a≤(code.length:Int))
    (hK:∀m a h,1≤m→m≤most - 1→0≤a→a≤(code.length:Int)→okS code m (K a h m)):okS code most (anN code K most n c a h):=by
  unfold anN
  split
  · exact okS_of (twU_ok h1) h1 h2 ⟨ha,ha2⟩
  split
  · have:=plS_ok h1
    exact okS_of ⟨this.1,this.2.1,this.2.2⟩ h1 h2 ⟨ha,ha2⟩
  split
  · rename_i e
    have e1:2≤n.tdiv 2∧n.tdiv 2≤3∧n.tdiv 2 * 2=n:=by
      have:n=4∨n=5∨n=6:=by omega
      rcases this with e | e | e <;> subst e
      · decide
      · exact absurd (show (5:Int).tmod 2=0 by omega) (by decide)
      · decide
    obtain ⟨s1,s2⟩:=tdF_ok hb (n:=n.tdiv 2) (h:=h) (by omega) ha ha2
    obtain ⟨t1,t2⟩:=tdF_ok hb (n:=2) (h:=(tdF code (n.tdiv 2) a h).2.2) (by omega) s1.2.2.2.2.2.1 s1.2.2.2.2.2.2
    have q1:=okQ_of s1
    have q2:=okQ_of t1
    rw [s2] at q1
    rw [t2] at q2
    have:=prS_ok q1 q2 (by omega) (by omega)
    rw [e1.2.2] at this
    exact okS_of this h1 h2 t1.2.2.2.2.2
  split
  · rename_i e
    have v:=nxV_in hb a h (n:=n - 1) (by omega)
    have s:=nxA_in (n:=n - 1) ha ha2
    have k:=hK (1+nxV code a h (n - 1)) (nxA code.length a (n - 1)) (nxH h (n - 1)) (by omega) (by omega) s.1 s.2
    dsimp only
    generalize K (nxA code.length a (n - 1)) (nxH h (n - 1)) (1+nxV code a h (n - 1))=r at *
    obtain ⟨t1,t2⟩:=tdF_ok hb (n:=n - (1+nxV code a h (n - 1))) (h:=r.2.2) (by omega) k.2.2.2.2.2.1 k.2.2.2.2.2.2
    have q1:=okQ_of k
    have q2:=okQ_of t1
    rw [t2] at q2
    have k1:=k.1
    have k2:=k.2.1
    exact okS_of (unS_ok q1 q2 (by omega) (by omega)) (by omega) (by omega) t1.2.2.2.2.2
  split
  · rename_i e
    exact okS_of io4_ok.2 (by omega) e.2 ⟨ha,ha2⟩
  split
  · have:=plS_ok h1
    exact okS_of (iv_ok ⟨this.1,this.2.1,this.2.2⟩ h1) h1 h2 ⟨ha,ha2⟩
  split
  · rename_i e
    exact okS_of io3_ok.2 (by omega) e.2 ⟨ha,ha2⟩
  · obtain ⟨s1,s2⟩:=tdF_ok hb (n:=n) (h:=h) h1 ha ha2
    have q1:=okQ_of s1
    rw [s2] at q1
    exact okS_of q1 h1 h2 s1.2.2.2.2.2
theorem anF_ok {code:List Int} (hb:bytesB code):∀(d:Nat) (most a h:Int),1≤most→most≤(d:Int)→most≤6→0≤a→a≤(code.length:Int)→okS code most (anF code d a h most)
  | 0,most,a,h,h1,h2,_,_,_=>by omega
  | d+1,most,a,h,h1,h2,h6,ha,ha2=>by
    have v:=nxV_in hb a h (n:=most) h1
    have s:=nxA_in (n:=most) ha ha2
    have s2:=nxA_in (n:=8) s.1 s.2
    exact anN_ok hb (by omega) (by omega) h6 s2.1 s2.2 fun m a h m1 m2 b1 b2=>anF_ok hb d m a h m1 (by omega) (by omega) b1 b2
theorem evenHalf {n:Int} (h4:4≤n) (h6:n≤6) (e:n.tmod 2=0):2≤n.tdiv 2∧n.tdiv 2≤3:=by
  have:n=4∨n=5∨n=6:=by omega
  rcases this with e2 | e2 | e2 <;> subst e2
  · decide
  · exact absurd e (by decide)
  · decide
def l02Any_p (d:Nat) (code:List Int) (a:Int) (h:Int) (most:Int):Post:=⟨bytesB code∧0≤a∧a≤(code.length:Int)∧code.length≤4096∧1≤most∧most≤(d:Int)∧d≤6,.agg [.rows 41 2 .i64 ((anF code d a h most).1.1),.rows 41 2 .i64 ((anF code d a h most).1.2)],[.bx [.ints .u8 (code),.int .i64 ((anF code d a h most).2.1),.int .u64 ((anF code d a h most).2.2)]]⟩
def l02Any_ct (d:Nat):List AD→Option Post
  | [.box [.ints .u8 (code),.int .i64 (a),.int .u64 (h)],.c (.int .i64 (most))]=>some (l02Any_p d code a h most)
  | _=>none
def l02Any_G (d:Nat):List (Nat×Ctr):=[(57,⟨[(0,0)],l01Next_ct⟩),(107,⟨[],l02Flip_ct⟩),(113,⟨[],l02Polygon_ct⟩),(114,⟨[],l02Product_ct⟩),(116,⟨[],l02Union_ct⟩),(115,⟨[(0,0)],l02Twisted_ct⟩),(117,⟨[],l02Involutive_ct⟩),(118,⟨[],l02Inverse_ct⟩),(108,⟨[(0,0)],l02Any_ct d⟩)]
def l02Any_c1 (d:Nat) (code:List Int) (a:Int) (h:Int) (most:Int):=(anF code d (nxA (code.length) (nxA (code.length) (nxA (code.length) a most) (8:Int)) ((1:Int)+nxV code a h most - (1:Int))) (nxH (nxH (nxH h most) (8:Int)) ((1:Int)+nxV code a h most - (1:Int))) ((1:Int)+nxV code (nxA (code.length) (nxA (code.length) a most) (8:Int)) (nxH (nxH h most) (8:Int)) ((1:Int)+nxV code a h most - (1:Int))))
def l02Any_c2 (code:List Int) (a:Int) (h:Int) (most:Int):=(tdF code (Int.tdiv ((1:Int)+nxV code a h most) (2:Int)) (nxA (code.length) (nxA (code.length) a most) (8:Int)) (nxH (nxH h most) (8:Int)))
def l02Any_c3 (d:Nat) (code:List Int) (a:Int) (h:Int) (most:Int):=(tdF code ((1:Int)+nxV code a h most - ((1:Int)+nxV code (nxA (code.length) (nxA (code.length) a most) (8:Int)) (nxH (nxH h most) (8:Int)) ((1:Int)+nxV code a h most - (1:Int)))) (((l02Any_c1 d code a h most).2).1) (((l02Any_c1 d code a h most).2).2))
def l02Any_c4 (code:List Int) (a:Int) (h:Int) (most:Int):=(tdF code ((1:Int)+nxV code a h most) (nxA (code.length) (nxA (code.length) a most) (8:Int)) (nxH (nxH h most) (8:Int)))
def l02Any_c5 (code:List Int) (a:Int) (h:Int) (most:Int):=(tdF code (2:Int) (((l02Any_c2 code a h most).2).1) (((l02Any_c2 code a h most).2).2))
def l02Any_c6 (d:Nat) (code:List Int) (a:Int) (h:Int) (most:Int):=((anF code (d+(1:Nat)) a h most).1)
def l02Any_c7 (d:Nat) (code:List Int) (a:Int) (h:Int) (most:Int):=((anF code (d+(1:Nat)) a h most).2)
def l02Any_V (d:Nat) (code:List Int) (a:Int) (h:Int) (most:Int):Prop :=
 ((((bytesB code)∧(((0:Int)≤a)∧(a≤(1099511627776:Int))))∧((code=code)∧True))∧((InR ((1:Int)+nxV code a h most))∧((((bytesB code)∧(((0:Int)≤nxA (code.length) a most)∧(nxA (code.length) a most≤(1099511627776:Int))))∧((code=code)∧True))∧(BrP (nxV code (nxA (code.length) a most) (nxH h most) (8:Int) == (0:Int)) (((((0:Int)≤(1:Int)+nxV code a h most)∧((1:Int)+nxV code a h most≤(144:Int)))∧True)∧((((twS (unitL (((1:Int)+nxV code a h most).toNat)) (unitL (((1:Int)+nxV code a h most).toNat))).1=(l02Any_c6 d code a h most).1)∧(((twS (unitL (((1:Int)+nxV code a h most).toNat)) (unitL (((1:Int)+nxV code a h most).toNat))).2=(l02Any_c6 d code a h most).2)∧True))∧(((code=code)∧((nxA (code.length) (nxA (code.length) a most) (8:Int)=(l02Any_c7 d code a h most).1)∧((nxH (nxH h most) (8:Int)=(l02Any_c7 d code a h most).2)∧True)))∧True))) (BrP (nxV code (nxA (code.length) a most) (nxH h most) (8:Int) == (1:Int)) (((((1:Int)≤(1:Int)+nxV code a h most)∧((1:Int)+nxV code a h most≤(144:Int)))∧True)∧((((plS ((1:Int)+nxV code a h most)).1=(l02Any_c6 d code a h most).1)∧(((plS ((1:Int)+nxV code a h most)).2=(l02Any_c6 d code a h most).2)∧True))∧(((code=code)∧((nxA (code.length) (nxA (code.length) a most) (8:Int)=(l02Any_c7 d code a h most).1)∧((nxH (nxH h most) (8:Int)=(l02Any_c7 d code a h most).2)∧True)))∧True))) (BrP (nxV code (nxA (code.length) a most) (nxH h most) (8:Int) == (2:Int)) (BrP (decide ((4:Int)≤(1:Int)+nxV code a h most))
 (((2:Int)≠(0:Int))∧(BrP (Int.tmod ((1:Int)+nxV code a h most) (2:Int) == (0:Int)) ((((2:Int)≠(0:Int))∧(InR (Int.tdiv ((1:Int)+nxV code a h most) (2:Int))))∧((((bytesB code)∧(((0:Int)≤nxA (code.length) (nxA (code.length) a most) (8:Int))∧((nxA (code.length) (nxA (code.length) a most) (8:Int)≤(↑(code.length):Int))∧((code.length≤(4096:Nat))∧(((1:Int)≤Int.tdiv ((1:Int)+nxV code a h most) (2:Int))∧(Int.tdiv ((1:Int)+nxV code a h most) (2:Int)≤(144:Int)))))))∧((code=code)∧True))∧((((bytesB code)∧(((0:Int)≤((l02Any_c2 code a h most).2).1)∧((((l02Any_c2 code a h most).2).1≤(↑(code.length):Int))∧((code.length≤(4096:Nat))∧(((1:Int)≤(2:Int))∧((2:Int)≤(144:Int)))))))∧((code=code)∧True))∧(((((1:Nat)≤(((l02Any_c2 code a h most).1).1).length)∧(((((l02Any_c2 code a h most).1).1).length≤(12:Nat))∧(((1:Nat)≤(((l02Any_c5 code a h most).1).1).length)∧(((((l02Any_c5 code a h most).1).1).length≤(12:Nat))∧((sqB (↑((((l02Any_c2 code a h most).1).1).length):Int) (((l02Any_c2 code a h most).1).1))∧((sqB (↑((((l02Any_c2 code a h most).1).1).length):Int) (((l02Any_c2 code a h most).1).2))∧((sqB (↑((((l02Any_c5 code a h most).1).1).length):Int) (((l02Any_c5 code a h most).1).1))∧(sqB (↑((((l02Any_c5 code a h most).1).1).length):Int) (((l02Any_c5 code a h most).1).2)))))))))∧True)∧((((prS (((l02Any_c2 code a h most).1).1,((l02Any_c2 code a h most).1).2) (((l02Any_c5 code a h most).1).1,((l02Any_c5 code a h most).1).2)).1=(l02Any_c6 d code a h most).1) ∧
 (((prS (((l02Any_c2 code a h most).1).1,((l02Any_c2 code a h most).1).2) (((l02Any_c5 code a h most).1).1,((l02Any_c5 code a h most).1).2)).2=(l02Any_c6 d code a h most).2)∧True))∧(((code=code)∧((((l02Any_c5 code a h most).2).1=(l02Any_c7 d code a h most).1)∧((((l02Any_c5 code a h most).2).2=(l02Any_c7 d code a h most).2)∧True)))∧True)))))) ((((bytesB code)∧(((0:Int)≤nxA (code.length) (nxA (code.length) a most) (8:Int))∧((nxA (code.length) (nxA (code.length) a most) (8:Int)≤(↑(code.length):Int))∧((code.length≤(4096:Nat))∧(((1:Int)≤(1:Int)+nxV code a h most)∧((1:Int)+nxV code a h most≤(144:Int)))))))∧((code=code)∧True))∧(((((l02Any_c4 code a h most).1).1=(l02Any_c6 d code a h most).1)∧((((l02Any_c4 code a h most).1).2=(l02Any_c6 d code a h most).2)∧True))∧(((code=code)∧((((l02Any_c4 code a h most).2).1=(l02Any_c7 d code a h most).1)∧((((l02Any_c4 code a h most).2).2=(l02Any_c7 d code a h most).2)∧True)))∧True))))) ((((bytesB code)∧(((0:Int)≤nxA (code.length) (nxA (code.length) a most) (8:Int))∧((nxA (code.length) (nxA (code.length) a most) (8:Int)≤(↑(code.length):Int))∧((code.length≤(4096:Nat))∧(((1:Int)≤(1:Int)+nxV code a h most)∧((1:Int)+nxV code a h most≤(144:Int)))))))∧((code=code)∧True))∧(((((l02Any_c4 code a h most).1).1=(l02Any_c6 d code a h most).1)∧((((l02Any_c4 code a h most).1).2=(l02Any_c6 d code a h most).2)∧True))∧(((code=code)∧((((l02Any_c4 code a h most).2).1=(l02Any_c7 d code a h most).1) ∧
 ((((l02Any_c4 code a h most).2).2=(l02Any_c7 d code a h most).2)∧True)))∧True)))) (BrP (nxV code (nxA (code.length) a most) (nxH h most) (8:Int) == (3:Int)) (BrP (decide ((2:Int)≤(1:Int)+nxV code a h most)) ((InR ((1:Int)+nxV code a h most - (1:Int)))∧((((bytesB code)∧(((0:Int)≤nxA (code.length) (nxA (code.length) a most) (8:Int))∧(nxA (code.length) (nxA (code.length) a most) (8:Int)≤(1099511627776:Int))))∧((code=code)∧True))∧((InR ((1:Int)+nxV code (nxA (code.length) (nxA (code.length) a most) (8:Int)) (nxH (nxH h most) (8:Int)) ((1:Int)+nxV code a h most - (1:Int))))∧((((bytesB code)∧(((0:Int)≤nxA (code.length) (nxA (code.length) (nxA (code.length) a most) (8:Int)) ((1:Int)+nxV code a h most - (1:Int)))∧((nxA (code.length) (nxA (code.length) (nxA (code.length) a most) (8:Int)) ((1:Int)+nxV code a h most - (1:Int))≤(↑(code.length):Int))∧((code.length≤(4096:Nat))∧(((1:Int)≤(1:Int)+nxV code (nxA (code.length) (nxA (code.length) a most) (8:Int)) (nxH (nxH h most) (8:Int)) ((1:Int)+nxV code a h most - (1:Int)))∧(((1:Int)+nxV code (nxA (code.length) (nxA (code.length) a most) (8:Int)) (nxH (nxH h most) (8:Int)) ((1:Int)+nxV code a h most - (1:Int))≤(↑d:Int))∧(d≤(6:Nat))))))))∧((code=code)∧True))∧((InR ((1:Int)+nxV code a h most - ((1:Int)+nxV code (nxA (code.length) (nxA (code.length) a most) (8:Int)) (nxH (nxH h most) (8:Int)) ((1:Int)+nxV code a h most - (1:Int)))))∧((((bytesB code) ∧
 (((0:Int)≤((l02Any_c1 d code a h most).2).1)∧((((l02Any_c1 d code a h most).2).1≤(↑(code.length):Int))∧((code.length≤(4096:Nat))∧(((1:Int)≤(1:Int)+nxV code a h most - ((1:Int)+nxV code (nxA (code.length) (nxA (code.length) a most) (8:Int)) (nxH (nxH h most) (8:Int)) ((1:Int)+nxV code a h most - (1:Int))))∧((1:Int)+nxV code a h most - ((1:Int)+nxV code (nxA (code.length) (nxA (code.length) a most) (8:Int)) (nxH (nxH h most) (8:Int)) ((1:Int)+nxV code a h most - (1:Int)))≤(144:Int)))))))∧((code=code)∧True))∧(((((1:Nat)≤(((l02Any_c1 d code a h most).1).1).length)∧(((((l02Any_c1 d code a h most).1).1).length≤(12:Nat))∧(((1:Nat)≤(((l02Any_c3 d code a h most).1).1).length)∧(((((l02Any_c3 d code a h most).1).1).length≤(12:Nat))∧((sqB (↑((((l02Any_c1 d code a h most).1).1).length):Int) (((l02Any_c1 d code a h most).1).1))∧((sqB (↑((((l02Any_c1 d code a h most).1).1).length):Int) (((l02Any_c1 d code a h most).1).2))∧((sqB (↑((((l02Any_c3 d code a h most).1).1).length):Int) (((l02Any_c3 d code a h most).1).1))∧(sqB (↑((((l02Any_c3 d code a h most).1).1).length):Int) (((l02Any_c3 d code a h most).1).2)))))))))∧True)∧((((unS (((l02Any_c1 d code a h most).1).1,((l02Any_c1 d code a h most).1).2) (((l02Any_c3 d code a h most).1).1,((l02Any_c3 d code a h most).1).2)).1=(l02Any_c6 d code a h most).1) ∧
 (((unS (((l02Any_c1 d code a h most).1).1,((l02Any_c1 d code a h most).1).2) (((l02Any_c3 d code a h most).1).1,((l02Any_c3 d code a h most).1).2)).2=(l02Any_c6 d code a h most).2)∧True))∧(((code=code)∧((((l02Any_c3 d code a h most).2).1=(l02Any_c7 d code a h most).1)∧((((l02Any_c3 d code a h most).2).2=(l02Any_c7 d code a h most).2)∧True)))∧True))))))))) ((((bytesB code)∧(((0:Int)≤nxA (code.length) (nxA (code.length) a most) (8:Int))∧((nxA (code.length) (nxA (code.length) a most) (8:Int)≤(↑(code.length):Int))∧((code.length≤(4096:Nat))∧(((1:Int)≤(1:Int)+nxV code a h most)∧((1:Int)+nxV code a h most≤(144:Int)))))))∧((code=code)∧True))∧(((((l02Any_c4 code a h most).1).1=(l02Any_c6 d code a h most).1)∧((((l02Any_c4 code a h most).1).2=(l02Any_c6 d code a h most).2)∧True))∧(((code=code)∧((((l02Any_c4 code a h most).2).1=(l02Any_c7 d code a h most).1)∧((((l02Any_c4 code a h most).2).2=(l02Any_c7 d code a h most).2)∧True)))∧True)))) (BrP (nxV code (nxA (code.length) a most) (nxH h most) (8:Int) == (4:Int)) (BrP (decide ((4:Int)≤most)) (((((1:Nat)≤([(0:Int),(1:Int),(3:Int),(2:Int)]::[(0:Int),(1:Int),(3:Int),(2:Int)]::[(1:Int),(0:Int),(2:Int),(3:Int)]::[(1:Int),(0:Int),(2:Int),(3:Int)]::([]:List (List Int))).length)∧((([(0:Int),(1:Int),(3:Int),(2:Int)]::[(0:Int),(1:Int),(3:Int),(2:Int)]::[(1:Int),(0:Int),(2:Int),(3:Int)]::[(1:Int),(0:Int),(2:Int),(3:Int)]::([]:List (List Int))).length≤(144:Nat)) ∧
 (sqB (↑(([(0:Int),(1:Int),(3:Int),(2:Int)]::[(0:Int),(1:Int),(3:Int),(2:Int)]::[(1:Int),(0:Int),(2:Int),(3:Int)]::[(1:Int),(0:Int),(2:Int),(3:Int)]::([]:List (List Int))).length):Int) ([(0:Int),(1:Int),(3:Int),(2:Int)]::[(0:Int),(1:Int),(3:Int),(2:Int)]::[(1:Int),(0:Int),(2:Int),(3:Int)]::[(1:Int),(0:Int),(2:Int),(3:Int)]::([]:List (List Int))))))∧True)∧((((ioS ([(0:Int),(1:Int),(3:Int),(2:Int)]::[(0:Int),(1:Int),(3:Int),(2:Int)]::[(1:Int),(0:Int),(2:Int),(3:Int)]::[(1:Int),(0:Int),(2:Int),(3:Int)]::([]:List (List Int)))).1=(l02Any_c6 d code a h most).1)∧(((ioS ([(0:Int),(1:Int),(3:Int),(2:Int)]::[(0:Int),(1:Int),(3:Int),(2:Int)]::[(1:Int),(0:Int),(2:Int),(3:Int)]::[(1:Int),(0:Int),(2:Int),(3:Int)]::([]:List (List Int)))).2=(l02Any_c6 d code a h most).2)∧True))∧(((code=code)∧((nxA (code.length) (nxA (code.length) a most) (8:Int)=(l02Any_c7 d code a h most).1)∧((nxH (nxH h most) (8:Int)=(l02Any_c7 d code a h most).2)∧True)))∧True))) ((((bytesB code)∧(((0:Int)≤nxA (code.length) (nxA (code.length) a most) (8:Int))∧((nxA (code.length) (nxA (code.length) a most) (8:Int)≤(↑(code.length):Int))∧((code.length≤(4096:Nat))∧(((1:Int)≤(1:Int)+nxV code a h most)∧((1:Int)+nxV code a h most≤(144:Int)))))))∧((code=code)∧True))∧(((((l02Any_c4 code a h most).1).1=(l02Any_c6 d code a h most).1)∧((((l02Any_c4 code a h most).1).2=(l02Any_c6 d code a h most).2)∧True)) ∧
 (((code=code)∧((((l02Any_c4 code a h most).2).1=(l02Any_c7 d code a h most).1)∧((((l02Any_c4 code a h most).2).2=(l02Any_c7 d code a h most).2)∧True)))∧True)))) (BrP (nxV code (nxA (code.length) a most) (nxH h most) (8:Int) == (5:Int)) (BrP (decide ((2:Int)≤(1:Int)+nxV code a h most)) (((((1:Int)≤(1:Int)+nxV code a h most)∧((1:Int)+nxV code a h most≤(144:Int)))∧True)∧(((((1:Nat)≤((plS ((1:Int)+nxV code a h most)).1).length)∧((((plS ((1:Int)+nxV code a h most)).1).length≤(144:Nat))∧((sqB (↑(((plS ((1:Int)+nxV code a h most)).1).length):Int) ((plS ((1:Int)+nxV code a h most)).1))∧(sqB (↑(((plS ((1:Int)+nxV code a h most)).1).length):Int) ((plS ((1:Int)+nxV code a h most)).2)))))∧True)∧((((ivX ((plS ((1:Int)+nxV code a h most)).1) ((plS ((1:Int)+nxV code a h most)).2) (((plS ((1:Int)+nxV code a h most)).1).length)).1=(l02Any_c6 d code a h most).1)∧(((ivX ((plS ((1:Int)+nxV code a h most)).1) ((plS ((1:Int)+nxV code a h most)).2) (((plS ((1:Int)+nxV code a h most)).1).length)).2=(l02Any_c6 d code a h most).2)∧True))∧(((code=code)∧((nxA (code.length) (nxA (code.length) a most) (8:Int)=(l02Any_c7 d code a h most).1)∧((nxH (nxH h most) (8:Int)=(l02Any_c7 d code a h most).2)∧True)))∧True)))) ((((bytesB code)∧(((0:Int)≤nxA (code.length) (nxA (code.length) a most) (8:Int))∧((nxA (code.length) (nxA (code.length) a most) (8:Int)≤(↑(code.length):Int))∧((code.length≤(4096:Nat))∧(((1:Int)≤(1:Int)+nxV code a h most) ∧
 ((1:Int)+nxV code a h most≤(144:Int)))))))∧((code=code)∧True))∧(((((l02Any_c4 code a h most).1).1=(l02Any_c6 d code a h most).1)∧((((l02Any_c4 code a h most).1).2=(l02Any_c6 d code a h most).2)∧True))∧(((code=code)∧((((l02Any_c4 code a h most).2).1=(l02Any_c7 d code a h most).1)∧((((l02Any_c4 code a h most).2).2=(l02Any_c7 d code a h most).2)∧True)))∧True)))) (BrP (nxV code (nxA (code.length) a most) (nxH h most) (8:Int) == (6:Int)) (BrP (decide ((3:Int)≤most)) (((((1:Nat)≤([(0:Int),(1:Int),(2:Int)]::[(0:Int),(1:Int),(2:Int)]::[(1:Int),(0:Int),(2:Int)]::([]:List (List Int))).length)∧((([(0:Int),(1:Int),(2:Int)]::[(0:Int),(1:Int),(2:Int)]::[(1:Int),(0:Int),(2:Int)]::([]:List (List Int))).length≤(144:Nat))∧(sqB (↑(([(0:Int),(1:Int),(2:Int)]::[(0:Int),(1:Int),(2:Int)]::[(1:Int),(0:Int),(2:Int)]::([]:List (List Int))).length):Int) ([(0:Int),(1:Int),(2:Int)]::[(0:Int),(1:Int),(2:Int)]::[(1:Int),(0:Int),(2:Int)]::([]:List (List Int))))))∧True)∧((((ioS ([(0:Int),(1:Int),(2:Int)]::[(0:Int),(1:Int),(2:Int)]::[(1:Int),(0:Int),(2:Int)]::([]:List (List Int)))).1=(l02Any_c6 d code a h most).1)∧(((ioS ([(0:Int),(1:Int),(2:Int)]::[(0:Int),(1:Int),(2:Int)]::[(1:Int),(0:Int),(2:Int)]::([]:List (List Int)))).2=(l02Any_c6 d code a h most).2)∧True))∧(((code=code)∧((nxA (code.length) (nxA (code.length) a most) (8:Int)=(l02Any_c7 d code a h most).1) ∧
 ((nxH (nxH h most) (8:Int)=(l02Any_c7 d code a h most).2)∧True)))∧True))) ((((bytesB code)∧(((0:Int)≤nxA (code.length) (nxA (code.length) a most) (8:Int))∧((nxA (code.length) (nxA (code.length) a most) (8:Int)≤(↑(code.length):Int))∧((code.length≤(4096:Nat))∧(((1:Int)≤(1:Int)+nxV code a h most)∧((1:Int)+nxV code a h most≤(144:Int)))))))∧((code=code)∧True))∧(((((l02Any_c4 code a h most).1).1=(l02Any_c6 d code a h most).1)∧((((l02Any_c4 code a h most).1).2=(l02Any_c6 d code a h most).2)∧True))∧(((code=code)∧((((l02Any_c4 code a h most).2).1=(l02Any_c7 d code a h most).1)∧((((l02Any_c4 code a h most).2).2=(l02Any_c7 d code a h most).2)∧True)))∧True)))) ((((bytesB code)∧(((0:Int)≤nxA (code.length) (nxA (code.length) a most) (8:Int))∧((nxA (code.length) (nxA (code.length) a most) (8:Int)≤(↑(code.length):Int))∧((code.length≤(4096:Nat))∧(((1:Int)≤(1:Int)+nxV code a h most)∧((1:Int)+nxV code a h most≤(144:Int)))))))∧((code=code)∧True))∧(((((l02Any_c4 code a h most).1).1=(l02Any_c6 d code a h most).1)∧((((l02Any_c4 code a h most).1).2=(l02Any_c6 d code a h most).2)∧True))∧(((code=code)∧((((l02Any_c4 code a h most).2).1=(l02Any_c7 d code a h most).1)∧((((l02Any_c4 code a h most).2).2=(l02Any_c7 d code a h most).2)∧True)))∧True)))))))))))))
theorem l02Any_vc (d:Nat) (code:List Int) (a:Int) (h:Int) (most:Int):runF Try.prog (gam (l02Any_G d)) noWr noAnn Try.f108 (bodyOf Try.f108) [(0,0)] [.box [.ints .u8 (code),.int .i64 (a),.int .u64 (h)],.c (.int .i64 (most))] (l02Any_p (d+1) code a h most)=l02Any_V d code a h most:=by kernel_rfl
theorem l02Any_ok (d:Nat) (code:List Int) (a:Int) (h:Int) (most:Int) (hpre:(l02Any_p (d+1) code a h most).pre):l02Any_V d code a h most:=by
  simp only [l02Any_p,l02Any_V,l02Any_c1,l02Any_c2,l02Any_c3,l02Any_c4,l02Any_c5,l02Any_c6,l02Any_c7,BrP_iff,u1,u2,u3,u4,u5,u6,u7,u8,u9,v1,v2,v3,v4,v5,v6,v7,v8,v9,w1,w2,w3,w4,markL_length,inB,InR,room,bdsOk] at hpre ⊢
  obtain ⟨hb,h0,h1,h2,h3,h4,h5⟩:=hpre
  have v:=nxV_in hb a h (n:=most) h3
  have s1:=nxA_in (n:=most) h0 h1
  have s2:=nxA_in (n:=8) s1.1 s1.2
  have e0:anF code (d+1) a h most=anN code (anF code d) most (1+nxV code a h most) (nxV code (nxA code.length a most) (nxH h most) 8) (nxA code.length (nxA code.length a most) 8) (nxH (nxH h most) 8):=rfl
  rw [e0]
  have hK:∀m a h,1≤m→m≤(d:Int)→0≤a→a≤(code.length:Int)→okS code m (anF code d a h m):=fun m a h m1 m2 b1 b2=>anF_ok hb d m a h m1 m2 (by omega) b1 b2
  have hn1:1≤1+nxV code a h most:=by omega
  have hn2:1+nxV code a h most≤most:=by omega
  refine ⟨⟨hb,h0,by omega⟩,by omega,⟨hb,s1.1,by omega⟩,?_⟩
  generalize 1+nxV code a h most=n at *
  generalize nxV code (nxA code.length a most) (nxH h most) 8=c at *
  generalize nxA code.length (nxA code.length a most) 8=a2 at *
  generalize nxH (nxH h most) 8=h2' at *
  have Y:anN code (anF code d) most n c a2 h2'=tdF code n a2 h2'→(bytesB code∧0≤a2∧a2≤(code.length:Int)∧code.length≤4096∧1≤n∧n≤144)∧((tdF code n a2 h2').1.1=(anN code (anF code d) most n c a2 h2').1.1∧(tdF code n a2 h2').1.2=(anN code (anF code d) most n c a2 h2').1.2) ∧
      (tdF code n a2 h2').2.1=(anN code (anF code d) most n c a2 h2').2.1∧(tdF code n a2 h2').2.2=(anN code (anF code d) most n c a2 h2').2.2:=fun e=>by
    rw [e];exact ⟨⟨hb,s2.1,s2.2,h2,hn1,by omega⟩,⟨rfl,rfl⟩,rfl,rfl⟩
  refine ⟨fun z0=>?_,fun z0=>⟨fun z1=>?_,fun z1=>⟨fun z2=>⟨fun y4=>⟨by omega,fun ev=>?_,fun ev=>?_⟩,fun y4=>?_⟩,fun z2=>⟨fun z3=>⟨fun y2=>?_,fun y2=>?_⟩,fun z3=>⟨fun z4=>⟨fun y4=>?_,fun y4=>?_⟩,fun z4=>⟨fun z5=>⟨fun y2=>?_,fun y2=>?_⟩,fun z5=>⟨fun z6=>⟨fun y3=>?_,fun y3=>?_⟩,fun z6=>?_⟩⟩⟩⟩⟩⟩⟩
  · rw [anN,if_pos z0]
    exact ⟨⟨by omega,by omega⟩,⟨rfl,rfl⟩,rfl,rfl⟩
  · rw [anN,if_neg z0,if_pos z1]
    exact ⟨⟨by omega,by omega⟩,⟨rfl,rfl⟩,rfl,rfl⟩
  · rw [anN,if_neg z0,if_neg z1,if_pos ⟨z2,y4,ev⟩]
    have hh:=evenHalf y4 (by omega) ev
    obtain ⟨S1,S2⟩:=tdF_ok hb (n:=n.tdiv 2) (h:=h2') (by omega) s2.1 s2.2
    dsimp only
    generalize tdF code (n.tdiv 2) a2 h2'=r at *
    obtain ⟨S3,S4,S5,S6,S7,S8,S9⟩:=S1
    obtain ⟨T1,T2⟩:=tdF_ok hb (n:=2) (h:=r.2.2) (by omega) S8 S9
    generalize tdF code 2 r.2.1 r.2.2=q at *
    obtain ⟨T3,T4,T5,T6,T7,T8,T9⟩:=T1
    exact ⟨⟨by omega,by omega⟩,⟨hb,s2.1,s2.2,h2,by omega,by omega⟩,⟨hb,S8,S9,h2,by omega,by omega⟩,⟨by omega,by omega,by omega,by omega,S6,S7,T6,T7⟩,⟨rfl,rfl⟩,rfl,rfl⟩
  · exact Y (by rw [anN,if_neg z0,if_neg z1,if_neg (fun e=>ev e.2.2),if_neg (fun e=>by omega),if_neg (fun e=>by omega),if_neg (fun e=>by omega),if_neg (fun e=>by omega)])
  · exact Y (by rw [anN,if_neg z0,if_neg z1,if_neg (fun e=>y4 e.2.1),if_neg (fun e=>by omega),if_neg (fun e=>by omega),if_neg (fun e=>by omega),if_neg (fun e=>by omega)])
  · rw [anN,if_neg z0,if_neg z1,if_neg (fun e=>z2 e.1),if_pos ⟨z3,y2⟩]
    have w:=nxV_in hb a2 h2' (n:=n - 1) (by omega)
    have s3:=nxA_in (n:=n - 1) s2.1 s2.2
    dsimp only
    have k:=hK (1+nxV code a2 h2' (n - 1)) (nxA code.length a2 (n - 1)) (nxH h2' (n - 1)) (by omega) (by omega) s3.1 s3.2
    generalize hm:1+nxV code a2 h2' (n - 1)=m at *
    have hm1:1≤m:=by omega
    have hm2:m≤n - 1:=by omega
    clear hm
    have k':=k
    obtain ⟨K1,K2,K3,K4,K5,K6,K7⟩:=k'
    obtain ⟨T1,T2⟩:=tdF_ok hb (n:=n - m) (h:=(anF code d (nxA code.length a2 (n - 1)) (nxH h2' (n - 1)) m).2.2) (by omega) K6 K7
    generalize anF code d (nxA code.length a2 (n - 1)) (nxH h2' (n - 1)) m=r at *
    generalize tdF code (n - m) r.2.1 r.2.2=q at *
    obtain ⟨T3,T4,T5,T6,T7,T8,T9⟩:=T1
    exact ⟨by omega,⟨hb,s2.1,by omega⟩,by omega,⟨hb,s3.1,s3.2,h2,hm1,by omega,by omega⟩,by omega,⟨hb,K6,K7,h2,by omega,by omega⟩,⟨by omega,by omega,by omega,by omega,K4,K5,T6,T7⟩,⟨rfl,rfl⟩,rfl,rfl⟩
  · exact Y (by rw [anN,if_neg z0,if_neg z1,if_neg (fun e=>z2 e.1),if_neg (fun e=>y2 e.2),if_neg (fun e=>by omega),if_neg (fun e=>by omega),if_neg (fun e=>by omega)])
  · rw [anN,if_neg z0,if_neg z1,if_neg (fun e=>z2 e.1),if_neg (fun e=>z3 e.1),if_pos ⟨z4,y4⟩]
    exact ⟨⟨by omega,by omega,io4_ok.1⟩,⟨rfl,rfl⟩,rfl,rfl⟩
  · exact Y (by rw [anN,if_neg z0,if_neg z1,if_neg (fun e=>z2 e.1),if_neg (fun e=>z3 e.1),if_neg (fun e=>y4 e.2),if_neg (fun e=>by omega),if_neg (fun e=>by omega)])
  · rw [anN,if_neg z0,if_neg z1,if_neg (fun e=>z2 e.1),if_neg (fun e=>z3 e.1),if_neg (fun e=>z4 e.1),if_pos ⟨z5,y2⟩]
    have P:=plS_ok (n:=n) hn1
    exact ⟨⟨by omega,by omega⟩,⟨by omega,by omega,by rw [P.1];exact P.2.2.1,by rw [P.1];exact P.2.2.2⟩,⟨rfl,rfl⟩,rfl,rfl⟩
  · exact Y (by rw [anN,if_neg z0,if_neg z1,if_neg (fun e=>z2 e.1),if_neg (fun e=>z3 e.1),if_neg (fun e=>z4 e.1),if_neg (fun e=>y2 e.2),if_neg (fun e=>by omega)])
  · rw [anN,if_neg z0,if_neg z1,if_neg (fun e=>z2 e.1),if_neg (fun e=>z3 e.1),if_neg (fun e=>z4 e.1),if_neg (fun e=>z5 e.1),if_pos ⟨z6,y3⟩]
    exact ⟨⟨by omega,by omega,io3_ok.1⟩,⟨rfl,rfl⟩,rfl,rfl⟩
  · exact Y (by rw [anN,if_neg z0,if_neg z1,if_neg (fun e=>z2 e.1),if_neg (fun e=>z3 e.1),if_neg (fun e=>z4 e.1),if_neg (fun e=>z5 e.1),if_neg (fun e=>y3 e.2)])
  · exact Y (by rw [anN,if_neg z0,if_neg z1,if_neg (fun e=>z2 e.1),if_neg (fun e=>z3 e.1),if_neg (fun e=>z4 e.1),if_neg (fun e=>z5 e.1),if_neg (fun e=>z6 e.1)])
theorem l02Any_no (code:List Int) (a:Int) (h:Int) (most:Int) (h:(l02Any_p 0 code a h most).pre):False:=by
  simp only [l02Any_p] at h
  omega
theorem l02Any_fits (d:Nat):Fits Try.prog 108 ⟨[(0,0)],l02Any_ct d⟩:=by
  induction d with
  | zero =>
    refine fits_no ⟨Try.f108,Try.func108,by kernel_rfl,by kernel_rfl⟩ (by decide) fun ds p h hp=>?_
    unfold l02Any_ct at h
    split at h
    · cases h
      exact l02Any_no _ _ _ _  hp
    · cases h
  | succ d ih =>
    refine fits_fn (Γ:=gam (l02Any_G d)) (gok_cons l01Next_fits (gok_cons l02Flip_fits (gok_cons l02Polygon_fits (gok_cons l02Product_fits (gok_cons l02Union_fits (gok_cons l02Twisted_fits (gok_cons l02Involutive_fits (gok_cons l02Inverse_fits (gok_cons ih gok_nil))))))))) Try.func108 (by kernel_rfl) (by kernel_rfl) (by kernel_rfl) fun ds p h hp=>?_
    unfold l02Any_ct at h
    split at h
    · cases h
      exact ⟨noWr,noAnn,by rw [l02Any_vc];exact l02Any_ok _ _ _ _ _  hp⟩
    · cases h
def sdF (code:List Int) (a h most:Int):Sr :=
  let r:=anF code 6 a h most
  let a1:=nxA code.length r.2.1 4
  let h1:=nxH r.2.2 4
  if 0<nxV code r.2.1 r.2.2 4 then
    let d:=duF code (r.1.1.length:Int) a1 h1
    ((rnL r.1.1 d.1 r.1.1.length,rnL r.1.2 d.1 r.1.2.length),d.2)
  else (r.1,a1,h1)
theorem inN_rng {n:Nat} {p:List Int} (h:inN n p):p.length=n∧∀i,i<p.length→0≤p.getD i 0∧p.getD i 0≤(n:Int) - 1:=⟨h.1,fun i hi=>h.2 i (by rw [←h.1];exact hi)⟩
theorem sdF_ok {code:List Int} (hb:bytesB code) {a h most:Int} (h1:1≤most) (h6:most≤6) (ha:0≤a) (ha2:a≤(code.length:Int)):okS code most (sdF code a h most):=by
  have R:=anF_ok hb 6 most a h h1 h6 h6 ha ha2
  unfold sdF
  dsimp only
  generalize anF code 6 a h most=r at *
  obtain ⟨K1,K2,K3,K4,K5,K6,K7⟩:=R
  have s:=nxA_in (n:=4) K6 K7
  split
  · obtain ⟨d1,d2⟩:=duF_in hb (n:=(r.1.1.length:Int)) (h:=nxH r.2.2 4) (by omega) s.1 s.2
    generalize duF code (r.1.1.length:Int) (nxA code.length r.2.1 4) (nxH r.2.2 4)=q at *
    rw [Int.toNat_natCast] at d1
    obtain ⟨p1,p2⟩:=inN_rng d1
    have A:=rnL_sq K4 K1 p1 p2 r.1.1.length (Nat.le_refl _)
    have e:(r.1.2.length:Int)=(r.1.1.length:Int):=by omega
    have B:=rnL_sq (t:=r.1.2) (p:=q.1) (by rw [e];exact K5) (by omega) (by omega) (by rw [e];exact p2) r.1.2.length (Nat.le_refl _)
    rw [e] at B
    exact okS_of (n:=(r.1.1.length:Int)) ⟨A.1,B.1,A,B⟩ (by omega) K2 d2
  · exact okS_of (n:=(r.1.1.length:Int)) ⟨rfl,by omega,K4,K5⟩ (by omega) K2 s
def l02Draw_p (code:List Int) (a:Int) (h:Int) (most:Int):Post:=⟨bytesB code∧0≤a∧a≤(code.length:Int)∧code.length≤4096∧1≤most∧most≤6,.agg [.rows 41 2 .i64 ((sdF code a h most).1.1),.rows 41 2 .i64 ((sdF code a h most).1.2)],[.bx [.ints .u8 (code),.int .i64 ((sdF code a h most).2.1),.int .u64 ((sdF code a h most).2.2)]]⟩
def l02Draw_ct:List AD→Option Post
  | [.box [.ints .u8 (code),.int .i64 (a),.int .u64 (h)],.c (.int .i64 (most))]=>some (l02Draw_p code a h most)
  | _=>none
def l02Draw_G:List (Nat×Ctr):=[(57,⟨[(0,0)],l01Next_ct⟩),(58,⟨[(0,0)],l01DrawU_ct⟩),(109,⟨[],l02Rename_ct⟩),(108,⟨[(0,0)],l02Any_ct 6⟩)]
def l02Draw_c1 (code:List Int) (a:Int) (h:Int) (most:Int):=(duF code (↑((((anF code (6:Nat) a h most).1).1).length):Int) (nxA (code.length) (((anF code (6:Nat) a h most).2).1) (4:Int)) (nxH (((anF code (6:Nat) a h most).2).2) (4:Int)))
def l02Draw_V (code:List Int) (a:Int) (h:Int) (most:Int):Prop :=
 ((((bytesB code)∧(((0:Int)≤a)∧((a≤(↑(code.length):Int))∧((code.length≤(4096:Nat))∧(((1:Int)≤most)∧((most≤(↑(6:Nat):Int))∧((6:Nat)≤(6:Nat))))))))∧((code=code)∧True))∧((((bytesB code)∧(((0:Int)≤((anF code (6:Nat) a h most).2).1)∧(((anF code (6:Nat) a h most).2).1≤(1099511627776:Int))))∧((code=code)∧True))∧(BrP (decide ((0:Int)<nxV code (((anF code (6:Nat) a h most).2).1) (((anF code (6:Nat) a h most).2).2) (4:Int))) ((((bytesB code)∧(((0:Int)≤nxA (code.length) (((anF code (6:Nat) a h most).2).1) (4:Int))∧((nxA (code.length) (((anF code (6:Nat) a h most).2).1) (4:Int)≤(↑(code.length):Int))∧((code.length≤(4096:Nat))∧(((1:Int)≤(↑((((anF code (6:Nat) a h most).1).1).length):Int))∧((↑((((anF code (6:Nat) a h most).1).1).length):Int)≤(144:Int)))))))∧((code=code)∧True))∧(((((1:Nat)≤(((anF code (6:Nat) a h most).1).1).length)∧(((((anF code (6:Nat) a h most).1).1).length≤(144:Nat))∧(((((anF code (6:Nat) a h most).1).2).length=(((anF code (6:Nat) a h most).1).1).length)∧((sqB (↑((((anF code (6:Nat) a h most).1).1).length):Int) (((anF code (6:Nat) a h most).1).1))∧((sqB (↑((((anF code (6:Nat) a h most).1).1).length):Int) (((anF code (6:Nat) a h most).1).2))∧((((l02Draw_c1 code a h most).1).length=(((anF code (6:Nat) a h most).1).1).length) ∧
 (∀(i:Nat),i<((l02Draw_c1 code a h most).1).length→(0:Int)≤((l02Draw_c1 code a h most).1).getD i (0:Int)∧((l02Draw_c1 code a h most).1).getD i (0:Int)≤(↑((((anF code (6:Nat) a h most).1).1).length):Int) - (1:Int))))))))∧True)∧(((rnL (((anF code (6:Nat) a h most).1).1) ((l02Draw_c1 code a h most).1) ((((anF code (6:Nat) a h most).1).1).length)=((sdF code a h most).1).1)∧((rnL (((anF code (6:Nat) a h most).1).2) ((l02Draw_c1 code a h most).1) ((((anF code (6:Nat) a h most).1).2).length)=((sdF code a h most).1).2)∧True))∧(((code=code)∧((((l02Draw_c1 code a h most).2).1=((sdF code a h most).2).1)∧((((l02Draw_c1 code a h most).2).2=((sdF code a h most).2).2)∧True)))∧True)))) (((((anF code (6:Nat) a h most).1).1=((sdF code a h most).1).1)∧((((anF code (6:Nat) a h most).1).2=((sdF code a h most).1).2)∧True))∧(((code=code)∧((nxA (code.length) (((anF code (6:Nat) a h most).2).1) (4:Int)=((sdF code a h most).2).1)∧((nxH (((anF code (6:Nat) a h most).2).2) (4:Int)=((sdF code a h most).2).2)∧True)))∧True)))))
theorem l02Draw_vc (code:List Int) (a:Int) (h:Int) (most:Int):runF Try.prog (gam l02Draw_G) noWr noAnn Try.f103 (bodyOf Try.f103) [(0,0)] [.box [.ints .u8 (code),.int .i64 (a),.int .u64 (h)],.c (.int .i64 (most))] (l02Draw_p code a h most)=l02Draw_V code a h most:=by kernel_rfl
theorem l02Draw_ok (code:List Int) (a:Int) (h:Int) (most:Int) (hpre:(l02Draw_p code a h most).pre):l02Draw_V code a h most:=by
  simp only [l02Draw_p,l02Draw_V,l02Draw_c1,BrP_iff,u1,u2,u3,u4,u5,u6,u7,u8,u9,v1,v2,v3,v4,v5,v6,v7,v8,v9,w1,w2,w3,w4,markL_length,inB,InR,room,bdsOk] at hpre ⊢
  obtain ⟨hb,h0,h1,h2,h3,h4⟩:=hpre
  have R:=anF_ok hb 6 most a h h3 (by omega) h4 h0 h1
  have e:sdF code a h most=if 0<nxV code (anF code 6 a h most).2.1 (anF code 6 a h most).2.2 4 then
    ((rnL (anF code 6 a h most).1.1 (duF code ((anF code 6 a h most).1.1.length:Int) (nxA code.length (anF code 6 a h most).2.1 4) (nxH (anF code 6 a h most).2.2 4)).1 (anF code 6 a h most).1.1.length,
      rnL (anF code 6 a h most).1.2 (duF code ((anF code 6 a h most).1.1.length:Int) (nxA code.length (anF code 6 a h most).2.1 4) (nxH (anF code 6 a h most).2.2 4)).1 (anF code 6 a h most).1.2.length),
      (duF code ((anF code 6 a h most).1.1.length:Int) (nxA code.length (anF code 6 a h most).2.1 4) (nxH (anF code 6 a h most).2.2 4)).2) else ((anF code 6 a h most).1,nxA code.length (anF code 6 a h most).2.1 4,nxH (anF code 6 a h most).2.2 4):=rfl
  rw [e]
  clear e
  generalize anF code 6 a h most=r at *
  obtain ⟨K1,K2,K3,K4,K5,K6,K7⟩:=R
  have s:=nxA_in (n:=4) K6 K7
  refine ⟨⟨hb,h0,h1,h2,h3,by omega,by omega⟩,⟨hb,K6,by omega⟩,fun z=>?_,fun z=>?_⟩
  · rw [if_pos z]
    obtain ⟨d1,d2⟩:=duF_in hb (n:=(r.1.1.length:Int)) (h:=nxH r.2.2 4) (by omega) s.1 s.2
    generalize duF code (r.1.1.length:Int) (nxA code.length r.2.1 4) (nxH r.2.2 4)=q at *
    rw [Int.toNat_natCast] at d1
    obtain ⟨p1,p2⟩:=inN_rng d1
    exact ⟨⟨hb,s.1,s.2,h2,by omega,by omega⟩,⟨K1,by omega,K3,K4,K5,p1,p2⟩,⟨rfl,rfl⟩,rfl,rfl⟩
  · rw [if_neg z]
    exact ⟨⟨rfl,rfl⟩,rfl,rfl⟩
theorem l02Draw_fits:Fits Try.prog 103 ⟨[(0,0)],l02Draw_ct⟩:=by
  refine ffn (Γ:=gam l02Draw_G) (gok_cons l01Next_fits (gok_cons l01DrawU_fits (gok_cons l02Rename_fits (gok_cons (l02Any_fits 6) gok_nil)))) Try.func103 fun ds p h hp=>?_
  unfold l02Draw_ct at h
  split at h
  · cases h
    exact ⟨noWr,noAnn,by rw [l02Draw_vc];exact l02Draw_ok _ _ _ _  hp⟩
  · cases h
def slK (code:List Int) (n:Int):Nat→Int→Int→Dr
  | 0,a,h=>(cyT (twS (unitL n.toNat) (unitL n.toNat)).1,a,h)
  | j+1,a,h =>
    let t:=sdF code a h n
    if goodB t.1.1 t.1.2=true∧twiceB t.1.1 t.1.2=true then (cyT t.1.1,t.2) else slK code n j t.2.1 t.2.2
def afK (code:List Int) (n:Int):Nat→Int→Int→Dr
  | 0,a,h=>slK code n 8 a h
  | j+1,a,h =>
    let a1:=nxA code.length a n
    let h1:=nxH h n
    let a2:=nxA code.length a1 n
    let h2:=nxH h1 n
    let c:=afT n (nxV code a h n) (nxV code a1 h1 n) (nxV code a2 h2 n)
    if cycB c=true then (c,nxA code.length a2 n,nxH h2 n) else afK code n j (nxA code.length a2 n) (nxH h2 n)
def c5F (code:List Int) (a h most:Int):Dr :=
  let n:=1+nxV code a h most
  let a1:=nxA code.length a most
  let h1:=nxH h most
  if nxV code a1 h1 3=0 then afK code n 30 (nxA code.length a1 3) (nxH h1 3) else slK code n 8 (nxA code.length a1 3) (nxH h1 3)
theorem bk_in {n:Nat} {p:List Int} (hp:p.length=n) (hn:1≤n):inN n (bkL p):=by
  have key:∀m,m≤n→inN n (bkN p m):=fun m=>by
    induction m with
    | zero=>intro _;exact ⟨by simp [bkN,hp],fun i hi=>by simp [bkN,List.getD,List.getElem?_replicate,hp,hi];omega⟩
    | succ m ih =>
      intro hm
      exact inN_set (ih (by omega)) (by omega)
  rw [bkL,hp]
  exact key n (Nat.le_refl _)
theorem cyT_sq {n:Nat} {A:List (List Int)} (hA:sqB (n:Int) A) (hn:1≤n):sqB (n:Int) (cyT A):=by
  have e:(cyT A).length=A.length:=by simp [cyT]
  have l:=hA.1
  refine ⟨by omega,fun i hi=>?_⟩
  have g:(cyT A).getD i []=bkL (A.getD i []):=getD_map A bkL [] [] i (by omega)
  have r:=sq_row hA (x:=i) (by omega)
  have b:=bk_in (n:=n) (p:=A.getD i []) (by omega) hn
  rw [g]
  exact ⟨by rw [b.1],fun j hj=>b.2 j (by omega)⟩
theorem okD_cy {code:List Int} {most:Int} {r:Sr} (h:okS code most r) (h6:most≤6):okD code (cyT r.1.1,r.2):=by
  obtain ⟨K1,K2,K3,K4,K5,K6,K7⟩:=h
  exact okD_of (cyT_sq K4 K1) (by omega) (by omega) ⟨K6,K7⟩
theorem slK_ok {code:List Int} (hb:bytesB code) {n:Int} (h1:1≤n) (h6:n≤6):∀j a h,0≤a→a≤(code.length:Int)→okD code (slK code n j a h)
  | 0,a,h,ha,ha2=>okD_cy (okS_of (p:=(a,h)) (twU_ok h1) h1 h6 ⟨ha,ha2⟩) (Int.le_refl _)
  | j+1,a,h,ha,ha2=>by
    have S:=sdF_ok hb (h:=h) h1 h6 ha ha2
    rw [slK]
    split
    · exact okD_cy S h6
    · exact slK_ok hb h1 h6 j _ _ S.2.2.2.2.2.1 S.2.2.2.2.2.2
theorem afT_sq {n a b c:Int} (h1:1≤n) (h2:n≤12) (a0:0≤a) (a1:a≤100) (b0:0≤b) (b1:b≤100) (c0:0≤c) (c1:c≤100):sqB n (afT n a b c):=sq_tabR _ (by omega) fun x y hx hy=>by
  have m1:=mulN_in (a:=a) (x:=x) a0 (by omega) (by omega)
  have m2:=mulN_in (a:=b) (x:=y) b0 (by omega) (by omega)
  exact tmod_in' (by omega) h1
theorem afK_ok {code:List Int} (hb:bytesB code) {n:Int} (h1:1≤n) (h6:n≤6):∀j a h,0≤a→a≤(code.length:Int)→okD code (afK code n j a h)
  | 0,a,h,ha,ha2=>slK_ok hb h1 h6 8 a h ha ha2
  | j+1,a,h,ha,ha2=>by
    have s1:=nxA_in (n:=n) ha ha2
    have s2:=nxA_in (n:=n) s1.1 s1.2
    have s3:=nxA_in (n:=n) s2.1 s2.2
    have v1:=nxV_in hb a h (n:=n) h1
    have v2:=nxV_in hb (nxA code.length a n) (nxH h n) (n:=n) h1
    have v3:=nxV_in hb (nxA code.length (nxA code.length a n) n) (nxH (nxH h n) n) (n:=n) h1
    rw [afK]
    split
    · exact okD_of (afT_sq h1 (by omega) (by omega) (by omega) (by omega) (by omega) (by omega) (by omega)) h1 h6 s3
    · exact afK_ok hb h1 h6 j _ _ s3.1 s3.2
theorem c5F_ok {code:List Int} (hb:bytesB code) {a h most:Int} (h1:1≤most) (h6:most≤6) (ha:0≤a) (ha2:a≤(code.length:Int)):okD code (c5F code a h most):=by
  have v:=nxV_in hb a h (n:=most) h1
  have s1:=nxA_in (n:=most) ha ha2
  have s2:=nxA_in (n:=3) s1.1 s1.2
  unfold c5F
  dsimp only
  split
  · exact afK_ok hb (by omega) (by omega) 30 _ _ s2.1 s2.2
  · exact slK_ok hb (by omega) (by omega) 8 _ _ s2.1 s2.2
def l05Any_p (code:List Int) (a:Int) (h:Int) (most:Int):Post:=⟨bytesB code∧0≤a∧a≤(code.length:Int)∧code.length≤4096∧1≤most∧most≤6,.agg [.rows 41 2 .i64 ((c5F code a h most).1)],[.bx [.ints .u8 (code),.int .i64 ((c5F code a h most).2.1),.int .u64 ((c5F code a h most).2.2)]]⟩
def l05Any_ct:List AD→Option Post
  | [.box [.ints .u8 (code),.int .i64 (a),.int .u64 (h)],.c (.int .i64 (most))]=>some (l05Any_p code a h most)
  | _=>none
def l05Any_ann (code:List Int) (a:Int) (h:Int) (most:Int):Nat→Option Ann
  | 0=>some (Ann.mk ((Nat)×(Int)×(Int)) (fun x=>match x with | (k,b,g)=>⟨[(0,.c (.ptr 700 0)),(4,.c (.ptr 4 0)),(5,.c (.int .i64 (1+nxV code a h most))),(6,.c (.int .i64 ((k:Int))))],[(4,some (.box [.nil])),(700,some (.box [.orig 700 0 (.ints .u8 (code)),.int .i64 (b),.int .u64 (g)]))]⟩) (fun x=>match x with | (k,b,g)=>k≤30∧0≤b∧b≤(code.length:Int)∧c5F code a h most=afK code (1+nxV code a h most) (30 - k) b g) (fun x=>match x with | (k,b,g)=>30 - k) (fun _=>noAnn))
  | 2=>some (Ann.mk ((Nat)×(Int)×(Int)) (fun x=>match x with | (k,b,g)=>⟨[(0,.c (.ptr 700 0)),(4,.c (.ptr 4 0)),(5,.c (.int .i64 (1+nxV code a h most))),(8,.c (.int .i64 ((k:Int))))],[(4,some (.box [.nil])),(700,some (.box [.orig 700 0 (.ints .u8 (code)),.int .i64 (b),.int .u64 (g)]))]⟩) (fun x=>match x with | (k,b,g)=>k≤8∧0≤b∧b≤(code.length:Int)∧c5F code a h most=slK code (1+nxV code a h most) (8 - k) b g) (fun x=>match x with | (k,b,g)=>8 - k) (fun _=>noAnn))
  | _=>none
def l05Any_G:List (Nat×Ctr):=[(57,⟨[(0,0)],l01Next_ct⟩),(102,⟨[],l05Affine_ct⟩),(39,⟨[],l05Is_ct⟩),(103,⟨[(0,0)],l02Draw_ct⟩),(104,⟨[],l02Good_ct⟩),(105,⟨[],l02Twice_ct⟩),(106,⟨[],l05Cycle_ct⟩),(107,⟨[],l02Flip_ct⟩)]
def l05Any_c1 (code:List Int) (a:Int) (h:Int) (most:Int) (x0:Nat×Int×Int):=(((sdF code x0.2.1 x0.2.2 ((1:Int)+nxV code a h most)).1).1)
def l05Any_c2 (code:List Int) (a:Int) (h:Int) (most:Int):=((twS (unitL (((1:Int)+nxV code a h most).toNat)) (unitL (((1:Int)+nxV code a h most).toNat))).1)
def l05Any_V1 (code:List Int) (a:Int) (h:Int) (most:Int):Prop :=
 ∀x0:Nat×Int×Int,(((x0.1≤(8:Nat))∧(((0:Int)≤x0.2.1)∧((x0.2.1≤(↑(code.length):Int))∧(c5F code a h most=slK code ((1:Int)+nxV code a h most) ((8:Nat) - x0.1) (x0.2.1) (x0.2.2)))))→(BrP (decide ((↑x0.1:Int)<(8:Int))) ((((bytesB code)∧(((0:Int)≤x0.2.1)∧((x0.2.1≤(↑(code.length):Int))∧((code.length≤(4096:Nat))∧(((1:Int)≤(1:Int)+nxV code a h most)∧((1:Int)+nxV code a h most≤(6:Int)))))))∧((code=code)∧True))∧(((((1:Nat)≤(l05Any_c1 code a h most x0).length)∧(((l05Any_c1 code a h most x0).length≤(12:Nat))∧(((((sdF code x0.2.1 x0.2.2 ((1:Int)+nxV code a h most)).1).2).length=(l05Any_c1 code a h most x0).length)∧((sqB (↑((l05Any_c1 code a h most x0).length):Int) (l05Any_c1 code a h most x0))∧(sqB (↑((l05Any_c1 code a h most x0).length):Int) (((sdF code x0.2.1 x0.2.2 ((1:Int)+nxV code a h most)).1).2))))))∧True)∧(BrP (goodB (((sdF code x0.2.1 x0.2.2 ((1:Int)+nxV code a h most)).1).1) (((sdF code x0.2.1 x0.2.2 ((1:Int)+nxV code a h most)).1).2)) (((((1:Nat)≤(l05Any_c1 code a h most x0).length)∧(((l05Any_c1 code a h most x0).length≤(12:Nat))∧(((((sdF code x0.2.1 x0.2.2 ((1:Int)+nxV code a h most)).1).2).length=(l05Any_c1 code a h most x0).length)∧((sqB (↑((l05Any_c1 code a h most x0).length):Int) (l05Any_c1 code a h most x0))∧(sqB (↑((l05Any_c1 code a h most x0).length):Int) (((sdF code x0.2.1 x0.2.2 ((1:Int)+nxV code a h most)).1).2))))))∧True) ∧
 (BrP (twiceB (((sdF code x0.2.1 x0.2.2 ((1:Int)+nxV code a h most)).1).1) (((sdF code x0.2.1 x0.2.2 ((1:Int)+nxV code a h most)).1).2)) (((((1:Nat)≤(l05Any_c1 code a h most x0).length)∧(((l05Any_c1 code a h most x0).length≤(144:Nat))∧(sqB (↑((l05Any_c1 code a h most x0).length):Int) (l05Any_c1 code a h most x0))))∧True)∧(((cyT (l05Any_c1 code a h most x0)=(c5F code a h most).1)∧True)∧(((code=code)∧((((sdF code x0.2.1 x0.2.2 ((1:Int)+nxV code a h most)).2).1=((c5F code a h most).2).1)∧((((sdF code x0.2.1 x0.2.2 ((1:Int)+nxV code a h most)).2).2=((c5F code a h most).2).2)∧True)))∧True))) ((InR ((↑x0.1:Int)+(1:Int)))∧(∃x1:Nat×Int×Int,(((x1.1≤(8:Nat))∧(((0:Int)≤x1.2.1)∧((x1.2.1≤(↑(code.length):Int))∧(c5F code a h most=slK code ((1:Int)+nxV code a h most) ((8:Nat) - x1.1) (x1.2.1) (x1.2.2)))))∧(((8:Nat) - x1.1<(8:Nat) - x0.1)∧(((1:Int)+nxV code a h most=(1:Int)+nxV code a h most)∧(((↑x0.1:Int)+(1:Int)=(↑x1.1:Int))∧((code=code)∧((((sdF code x0.2.1 x0.2.2 ((1:Int)+nxV code a h most)).2).1=x1.2.1)∧(((sdF code x0.2.1 x0.2.2 ((1:Int)+nxV code a h most)).2).2=x1.2.2))))))))))) ((InR ((↑x0.1:Int)+(1:Int)))∧(∃x2:Nat×Int×Int,(((x2.1≤(8:Nat))∧(((0:Int)≤x2.2.1)∧((x2.2.1≤(↑(code.length):Int))∧(c5F code a h most=slK code ((1:Int)+nxV code a h most) ((8:Nat) - x2.1) (x2.2.1) (x2.2.2)))))∧(((8:Nat) - x2.1<(8:Nat) - x0.1)∧(((1:Int)+nxV code a h most=(1:Int)+nxV code a h most) ∧
 (((↑x0.1:Int)+(1:Int)=(↑x2.1:Int))∧((code=code)∧((((sdF code x0.2.1 x0.2.2 ((1:Int)+nxV code a h most)).2).1=x2.2.1)∧(((sdF code x0.2.1 x0.2.2 ((1:Int)+nxV code a h most)).2).2=x2.2.2)))))))))))) (((((0:Int)≤(1:Int)+nxV code a h most)∧((1:Int)+nxV code a h most≤(144:Int)))∧True)∧(((((1:Nat)≤(l05Any_c2 code a h most).length)∧(((l05Any_c2 code a h most).length≤(144:Nat))∧(sqB (↑((l05Any_c2 code a h most).length):Int) (l05Any_c2 code a h most))))∧True)∧(((cyT (l05Any_c2 code a h most)=(c5F code a h most).1)∧True)∧(((code=code)∧((x0.2.1=((c5F code a h most).2).1)∧((x0.2.2=((c5F code a h most).2).2)∧True)))∧True))))))
def l05Any_c3 (code:List Int) (a:Int) (h:Int) (most:Int) (x0:Nat×Int×Int):=(nxA (code.length) (nxA (code.length) x0.2.1 ((1:Int)+nxV code a h most)) ((1:Int)+nxV code a h most))
def l05Any_V (code:List Int) (a:Int) (h:Int) (most:Int):Prop :=
 ((((bytesB code)∧(((0:Int)≤a)∧(a≤(1099511627776:Int))))∧((code=code)∧True))∧((InR ((1:Int)+nxV code a h most))∧((((bytesB code)∧(((0:Int)≤nxA (code.length) a most)∧(nxA (code.length) a most≤(1099511627776:Int))))∧((code=code)∧True))∧(BrP (nxV code (nxA (code.length) a most) (nxH h most) (3:Int) == (0:Int)) ((∃x0:Nat×Int×Int,(((x0.1≤(30:Nat))∧(((0:Int)≤x0.2.1)∧((x0.2.1≤(↑(code.length):Int))∧(c5F code a h most=afK code ((1:Int)+nxV code a h most) ((30:Nat) - x0.1) (x0.2.1) (x0.2.2)))))∧(((1:Int)+nxV code a h most=(1:Int)+nxV code a h most)∧(((0:Int)=(↑x0.1:Int))∧((code=code)∧((nxA (code.length) (nxA (code.length) a most) (3:Int)=x0.2.1)∧(nxH (nxH h most) (3:Int)=x0.2.2)))))))∧(∀x1:Nat×Int×Int,(((x1.1≤(30:Nat))∧(((0:Int)≤x1.2.1)∧((x1.2.1≤(↑(code.length):Int))∧(c5F code a h most=afK code ((1:Int)+nxV code a h most) ((30:Nat) - x1.1) (x1.2.1) (x1.2.2)))))→(BrP (decide ((↑x1.1:Int)<(30:Int))) ((((bytesB code)∧(((0:Int)≤x1.2.1)∧(x1.2.1≤(1099511627776:Int))))∧((code=code)∧True))∧((((bytesB code)∧(((0:Int)≤nxA (code.length) x1.2.1 ((1:Int)+nxV code a h most))∧(nxA (code.length) x1.2.1 ((1:Int)+nxV code a h most)≤(1099511627776:Int))))∧((code=code)∧True))∧((((bytesB code)∧(((0:Int)≤nxA (code.length) (nxA (code.length) x1.2.1 ((1:Int)+nxV code a h most)) ((1:Int)+nxV code a h most)) ∧
 (nxA (code.length) (nxA (code.length) x1.2.1 ((1:Int)+nxV code a h most)) ((1:Int)+nxV code a h most)≤(1099511627776:Int))))∧((code=code)∧True))∧(((((1:Int)≤(1:Int)+nxV code a h most)∧(((1:Int)+nxV code a h most≤(12:Int))∧(((0:Int)≤nxV code x1.2.1 x1.2.2 ((1:Int)+nxV code a h most))∧((nxV code x1.2.1 x1.2.2 ((1:Int)+nxV code a h most)≤(100:Int))∧(((0:Int)≤nxV code (nxA (code.length) x1.2.1 ((1:Int)+nxV code a h most)) (nxH x1.2.2 ((1:Int)+nxV code a h most)) ((1:Int)+nxV code a h most))∧((nxV code (nxA (code.length) x1.2.1 ((1:Int)+nxV code a h most)) (nxH x1.2.2 ((1:Int)+nxV code a h most)) ((1:Int)+nxV code a h most)≤(100:Int))∧(((0:Int)≤nxV code (l05Any_c3 code a h most x1) (nxH (nxH x1.2.2 ((1:Int)+nxV code a h most)) ((1:Int)+nxV code a h most)) ((1:Int)+nxV code a h most))∧(nxV code (l05Any_c3 code a h most x1) (nxH (nxH x1.2.2 ((1:Int)+nxV code a h most)) ((1:Int)+nxV code a h most)) ((1:Int)+nxV code a h most)≤(100:Int)))))))))∧True)∧(((roomR (afT ((1:Int)+nxV code a h most) (nxV code x1.2.1 x1.2.2 ((1:Int)+nxV code a h most)) (nxV code (nxA (code.length) x1.2.1 ((1:Int)+nxV code a h most)) (nxH x1.2.2 ((1:Int)+nxV code a h most)) ((1:Int)+nxV code a h most)) (nxV code (l05Any_c3 code a h most x1) (nxH (nxH x1.2.2 ((1:Int)+nxV code a h most)) ((1:Int)+nxV code a h most)) ((1:Int)+nxV code a h most))))∧True) ∧
 (BrP (cycB (afT ((1:Int)+nxV code a h most) (nxV code x1.2.1 x1.2.2 ((1:Int)+nxV code a h most)) (nxV code (nxA (code.length) x1.2.1 ((1:Int)+nxV code a h most)) (nxH x1.2.2 ((1:Int)+nxV code a h most)) ((1:Int)+nxV code a h most)) (nxV code (nxA (code.length) (nxA (code.length) x1.2.1 ((1:Int)+nxV code a h most)) ((1:Int)+nxV code a h most)) (nxH (nxH x1.2.2 ((1:Int)+nxV code a h most)) ((1:Int)+nxV code a h most)) ((1:Int)+nxV code a h most)))) (((afT ((1:Int)+nxV code a h most) (nxV code x1.2.1 x1.2.2 ((1:Int)+nxV code a h most)) (nxV code (nxA (code.length) x1.2.1 ((1:Int)+nxV code a h most)) (nxH x1.2.2 ((1:Int)+nxV code a h most)) ((1:Int)+nxV code a h most)) (nxV code (l05Any_c3 code a h most x1) (nxH (nxH x1.2.2 ((1:Int)+nxV code a h most)) ((1:Int)+nxV code a h most)) ((1:Int)+nxV code a h most))=(c5F code a h most).1)∧True)∧(((code=code)∧((nxA (code.length) (l05Any_c3 code a h most x1) ((1:Int)+nxV code a h most)=((c5F code a h most).2).1)∧((nxH (nxH (nxH x1.2.2 ((1:Int)+nxV code a h most)) ((1:Int)+nxV code a h most)) ((1:Int)+nxV code a h most)=((c5F code a h most).2).2)∧True)))∧True)) ((InR ((↑x1.1:Int)+(1:Int)))∧(∃x2:Nat×Int×Int,(((x2.1≤(30:Nat))∧(((0:Int)≤x2.2.1)∧((x2.2.1≤(↑(code.length):Int))∧(c5F code a h most=afK code ((1:Int)+nxV code a h most) ((30:Nat) - x2.1) (x2.2.1) (x2.2.2)))))∧(((30:Nat) - x2.1<(30:Nat) - x1.1)∧(((1:Int)+nxV code a h most=(1:Int)+nxV code a h most) ∧
 (((↑x1.1:Int)+(1:Int)=(↑x2.1:Int))∧((code=code)∧((nxA (code.length) (l05Any_c3 code a h most x1) ((1:Int)+nxV code a h most)=x2.2.1)∧(nxH (nxH (nxH x1.2.2 ((1:Int)+nxV code a h most)) ((1:Int)+nxV code a h most)) ((1:Int)+nxV code a h most)=x2.2.2))))))))))))))) ((∃x3:Nat×Int×Int,(((x3.1≤(8:Nat))∧(((0:Int)≤x3.2.1)∧((x3.2.1≤(↑(code.length):Int))∧(c5F code a h most=slK code ((1:Int)+nxV code a h most) ((8:Nat) - x3.1) (x3.2.1) (x3.2.2)))))∧(((1:Int)+nxV code a h most=(1:Int)+nxV code a h most)∧(((0:Int)=(↑x3.1:Int))∧((code=code)∧((x1.2.1=x3.2.1)∧(x1.2.2=x3.2.2)))))))∧(l05Any_V1 code a h most)))))) ((∃x7:Nat×Int×Int,(((x7.1≤(8:Nat))∧(((0:Int)≤x7.2.1)∧((x7.2.1≤(↑(code.length):Int))∧(c5F code a h most=slK code ((1:Int)+nxV code a h most) ((8:Nat) - x7.1) (x7.2.1) (x7.2.2)))))∧(((1:Int)+nxV code a h most=(1:Int)+nxV code a h most)∧(((0:Int)=(↑x7.1:Int))∧((code=code)∧((nxA (code.length) (nxA (code.length) a most) (3:Int)=x7.2.1)∧(nxH (nxH h most) (3:Int)=x7.2.2)))))))∧(l05Any_V1 code a h most))))))
theorem l05Any_vc (code:List Int) (a:Int) (h:Int) (most:Int):runF Try.prog (gam l05Any_G) noWr (l05Any_ann code a h most) Try.f97 (bodyOf Try.f97) [(0,0)] [.box [.ints .u8 (code),.int .i64 (a),.int .u64 (h)],.c (.int .i64 (most))] (l05Any_p code a h most)=l05Any_V code a h most:=by kernel_rfl
theorem l05Any_ok (code:List Int) (a:Int) (h:Int) (most:Int) (hpre:(l05Any_p code a h most).pre):l05Any_V code a h most:=by
  simp only [l05Any_p,l05Any_V,l05Any_V1,l05Any_c1,l05Any_c2,l05Any_c3,BrP_iff,u1,u2,u3,u4,u5,u6,u7,u8,u9,v1,v2,v3,v4,v5,v6,v7,v8,v9,w1,w2,w3,w4,markL_length,inB,InR,room,bdsOk] at hpre ⊢
  obtain ⟨hb,h0,h1,h2,h3,h4⟩:=hpre
  have v:=nxV_in hb a h (n:=most) h3
  have s1:=nxA_in (n:=most) h0 h1
  have s2:=nxA_in (n:=3) s1.1 s1.2
  have e:c5F code a h most=if nxV code (nxA code.length a most) (nxH h most) 3=0 then afK code (1+nxV code a h most) 30 (nxA code.length (nxA code.length a most) 3) (nxH (nxH h most) 3) else slK code (1+nxV code a h most) 8 (nxA code.length (nxA code.length a most) 3) (nxH (nxH h most) 3):=rfl
  have hn1:1≤1+nxV code a h most:=by omega
  have hn2:1+nxV code a h most≤6:=by omega
  generalize c5F code a h most=X at *
  generalize hn:1+nxV code a h most=n at *
  refine (fun w=>⟨⟨hb,h0,by omega⟩,by omega,⟨hb,s1.1,by omega⟩,fun z=>⟨⟨(0,nxA code.length (nxA code.length a most) 3,nxH (nxH h most) 3),⟨by show 0≤30;omega,s2.1,s2.2,e.trans (if_pos z)⟩,rfl,rfl,rfl⟩,fun x ⟨x1,x2,x3,x4⟩=>⟨fun hl=>?_,fun hl=>⟨⟨(0,x.2.1,x.2.2),⟨by show 0≤8;omega,x2,x3,x4.trans (by rw [show 30 - x.1=0 by omega];rfl)⟩,rfl,rfl,rfl⟩,w⟩⟩⟩,
    fun z=>⟨⟨(0,nxA code.length (nxA code.length a most) 3,nxH (nxH h most) 3),⟨by show 0≤8;omega,s2.1,s2.2,e.trans (if_neg z)⟩,rfl,rfl,rfl⟩,w⟩⟩) ?_
  rotate_left
  · have t1:=nxA_in (n:=n) x2 x3
    have t2:=nxA_in (n:=n) t1.1 t1.2
    have t3:=nxA_in (n:=n) t2.1 t2.2
    have v1:=nxV_in hb x.2.1 x.2.2 (n:=n) hn1
    have v2:=nxV_in hb (nxA code.length x.2.1 n) (nxH x.2.2 n) (n:=n) hn1
    have v3:=nxV_in hb (nxA code.length (nxA code.length x.2.1 n) n) (nxH (nxH x.2.2 n) n) (n:=n) hn1
    have st:afK code n (30 - x.1) x.2.1 x.2.2=if cycB (afT n (nxV code x.2.1 x.2.2 n) (nxV code (nxA code.length x.2.1 n) (nxH x.2.2 n) n) (nxV code (nxA code.length (nxA code.length x.2.1 n) n) (nxH (nxH x.2.2 n) n) n))=true then (afT n (nxV code x.2.1 x.2.2 n) (nxV code (nxA code.length x.2.1 n) (nxH x.2.2 n) n) (nxV code (nxA code.length (nxA code.length x.2.1 n) n) (nxH (nxH x.2.2 n) n) n),nxA code.length (nxA code.length (nxA code.length x.2.1 n) n) n,nxH (nxH (nxH x.2.2 n) n) n) else afK code n (30 - (x.1+1)) (nxA code.length (nxA code.length (nxA code.length x.2.1 n) n) n) (nxH (nxH (nxH x.2.2 n) n) n):=by
      rw [show 30 - x.1=(30 - (x.1+1))+1 by omega];rfl
    have q:=afT_sq (n:=n) (a:=nxV code x.2.1 x.2.2 n) (b:=nxV code (nxA code.length x.2.1 n) (nxH x.2.2 n) n) (c:=nxV code (nxA code.length (nxA code.length x.2.1 n) n) (nxH (nxH x.2.2 n) n) n) hn1 (by omega) (by omega) (by omega) (by omega) (by omega) (by omega) (by omega)
    refine ⟨⟨hb,x2,by omega⟩,⟨hb,t1.1,by omega⟩,⟨hb,t2.1,by omega⟩,⟨by omega,by omega,by omega,by omega,by omega,by omega,by omega,by omega⟩,sq_room q (by omega),fun y=>?_,fun y=>⟨by omega,(x.1+1,nxA code.length (nxA code.length (nxA code.length x.2.1 n) n) n,nxH (nxH (nxH x.2.2 n) n) n),⟨by show x.1+1≤30;omega,t3.1,t3.2,?_⟩,by show 30 - (x.1+1)<30 - x.1;omega,by show ((x.1:Nat):Int)+1=((x.1+1:Nat):Int);omega,rfl,rfl⟩⟩
    · rw [x4,st,if_pos y];exact ⟨rfl,rfl,rfl⟩
    · rw [x4,st,if_neg (by rw [y];decide)]
  · intro x ⟨x1,x2,x3,x4⟩
    have S:=sdF_ok hb (h:=x.2.2) hn1 hn2 x2 x3
    have U:=twU_ok (n:=n) hn1
    refine ⟨fun hl=>?_,fun hl=>?_⟩
    · have st:slK code n (8 - x.1) x.2.1 x.2.2=if goodB (sdF code x.2.1 x.2.2 n).1.1 (sdF code x.2.1 x.2.2 n).1.2=true∧twiceB (sdF code x.2.1 x.2.2 n).1.1 (sdF code x.2.1 x.2.2 n).1.2=true then (cyT (sdF code x.2.1 x.2.2 n).1.1,(sdF code x.2.1 x.2.2 n).2) else slK code n (8 - (x.1+1)) (sdF code x.2.1 x.2.2 n).2.1 (sdF code x.2.1 x.2.2 n).2.2:=by
        rw [show 8 - x.1=(8 - (x.1+1))+1 by omega];rfl
      generalize sdF code x.2.1 x.2.2 n=r at *
      obtain ⟨K1,K2,K3,K4,K5,K6,K7⟩:=S
      have go:¬ (goodB r.1.1 r.1.2=true∧twiceB r.1.1 r.1.2=true)→(-9223372036854775808≤(x.1:Int)+1∧(x.1:Int)+1≤9223372036854775807)∧∃x5:Nat×Int×Int,(x5.1≤8∧0≤x5.2.1∧x5.2.1≤(code.length:Int)∧X=slK code n (8 - x5.1) x5.2.1 x5.2.2)∧8 - x5.1<8 - x.1∧(x.1:Int)+1=(x5.1:Int)∧r.2.1=x5.2.1∧r.2.2=x5.2.2:=fun hno =>
        ⟨by omega,(x.1+1,r.2.1,r.2.2),⟨by show x.1+1≤8;omega,K6,K7,by rw [x4,st,if_neg hno]⟩,by show 8 - (x.1+1)<8 - x.1;omega,by show ((x.1:Nat):Int)+1=((x.1+1:Nat):Int);omega,rfl,rfl⟩
      refine ⟨⟨hb,x2,x3,h2,hn1,hn2⟩,⟨K1,by omega,K3,K4,K5⟩,fun g1=>⟨⟨K1,by omega,K3,K4,K5⟩,fun g2=>⟨⟨K1,by omega,K4⟩,?_⟩,fun g2=>go fun hc=>?_⟩,fun g1=>go fun hc=>?_⟩
      · rw [x4,st,if_pos ⟨g1,g2⟩];exact ⟨rfl,rfl,rfl⟩
      · rw [hc.2] at g2;cases g2
      · rw [hc.1] at g1;cases g1
    · have U1:((twS (unitL n.toNat) (unitL n.toNat)).1.length:Int)=n:=U.1
      refine ⟨⟨by omega,by omega⟩,⟨by omega,by omega,by rw [U1];exact U.2.2.1⟩,?_⟩
      rw [x4,show 8 - x.1=0 by omega]
      exact ⟨rfl,rfl,rfl⟩
theorem l05Any_fits:Fits Try.prog 97 ⟨[(0,0)],l05Any_ct⟩:=by
  refine ffn (Γ:=gam l05Any_G) (gok_cons l01Next_fits (gok_cons l05Affine_fits (gok_cons l05Is_fits (gok_cons l02Draw_fits (gok_cons l02Good_fits (gok_cons l02Twice_fits (gok_cons l05Cycle_fits (gok_cons l02Flip_fits gok_nil)))))))) Try.func97 fun ds p h hp=>?_
  unfold l05Any_ct at h
  split at h
  · cases h
    exact ⟨noWr,l05Any_ann _ _ _ _ ,by rw [l05Any_vc];exact l05Any_ok _ _ _ _  hp⟩
  · cases h
def c5D (code:List Int) (a h most:Int):Dr :=
  let r:=c5F code a h most
  let a1:=nxA code.length r.2.1 3
  let h1:=nxH r.2.2 3
  if 0<nxV code r.2.1 r.2.2 3 then
    let d:=duF code (r.1.length:Int) a1 h1
    (rnL r.1 d.1 r.1.length,d.2)
  else (r.1,a1,h1)
theorem c5D_ok {code:List Int} (hb:bytesB code) {a h most:Int} (h1:1≤most) (h6:most≤6) (ha:0≤a) (ha2:a≤(code.length:Int)):okD code (c5D code a h most):=by
  have R:=c5F_ok hb (h:=h) h1 h6 ha ha2
  unfold c5D
  dsimp only
  generalize c5F code a h most=r at *
  obtain ⟨K1,K2,K3,K4,K5⟩:=R
  have s:=nxA_in (n:=3) K4 K5
  split
  · obtain ⟨d1,d2⟩:=duF_in hb (n:=(r.1.length:Int)) (h:=nxH r.2.2 3) (by omega) s.1 s.2
    generalize duF code (r.1.length:Int) (nxA code.length r.2.1 3) (nxH r.2.2 3)=q at *
    rw [Int.toNat_natCast] at d1
    obtain ⟨p1,p2⟩:=inN_rng d1
    exact okD_of (rnL_sq K3 K1 p1 p2 r.1.length (Nat.le_refl _)) (by omega) (by omega) d2
  · exact ⟨K1,K2,K3,s⟩
def l05Draw_p (code:List Int) (a:Int) (h:Int) (most:Int):Post:=⟨bytesB code∧0≤a∧a≤(code.length:Int)∧code.length≤4096∧1≤most∧most≤6,.agg [.rows 41 2 .i64 ((c5D code a h most).1)],[.bx [.ints .u8 (code),.int .i64 ((c5D code a h most).2.1),.int .u64 ((c5D code a h most).2.2)]]⟩
def l05Draw_ct:List AD→Option Post
  | [.box [.ints .u8 (code),.int .i64 (a),.int .u64 (h)],.c (.int .i64 (most))]=>some (l05Draw_p code a h most)
  | _=>none
def l05Draw_G:List (Nat×Ctr):=[(57,⟨[(0,0)],l01Next_ct⟩),(58,⟨[(0,0)],l01DrawU_ct⟩),(98,⟨[],l01Rename_ct⟩),(97,⟨[(0,0)],l05Any_ct⟩)]
def l05Draw_c1 (code:List Int) (a:Int) (h:Int) (most:Int):=(duF code (↑(((c5F code a h most).1).length):Int) (nxA (code.length) (((c5F code a h most).2).1) (3:Int)) (nxH (((c5F code a h most).2).2) (3:Int)))
def l05Draw_V (code:List Int) (a:Int) (h:Int) (most:Int):Prop :=
 ((((bytesB code)∧(((0:Int)≤a)∧((a≤(↑(code.length):Int))∧((code.length≤(4096:Nat))∧(((1:Int)≤most)∧(most≤(6:Int)))))))∧((code=code)∧True))∧((((bytesB code)∧(((0:Int)≤((c5F code a h most).2).1)∧(((c5F code a h most).2).1≤(1099511627776:Int))))∧((code=code)∧True))∧(BrP (decide ((0:Int)<nxV code (((c5F code a h most).2).1) (((c5F code a h most).2).2) (3:Int))) ((((bytesB code)∧(((0:Int)≤nxA (code.length) (((c5F code a h most).2).1) (3:Int))∧((nxA (code.length) (((c5F code a h most).2).1) (3:Int)≤(↑(code.length):Int))∧((code.length≤(4096:Nat))∧(((1:Int)≤(↑(((c5F code a h most).1).length):Int))∧((↑(((c5F code a h most).1).length):Int)≤(144:Int)))))))∧((code=code)∧True))∧(((((1:Nat)≤((c5F code a h most).1).length)∧((((c5F code a h most).1).length≤(144:Nat))∧((sqB (↑(((c5F code a h most).1).length):Int) ((c5F code a h most).1))∧((((l05Draw_c1 code a h most).1).length=((c5F code a h most).1).length)∧(∀(i:Nat),i<((l05Draw_c1 code a h most).1).length→(0:Int)≤((l05Draw_c1 code a h most).1).getD i (0:Int)∧((l05Draw_c1 code a h most).1).getD i (0:Int)≤(↑(((c5F code a h most).1).length):Int) - (1:Int))))))∧True)∧(((rnL ((c5F code a h most).1) ((l05Draw_c1 code a h most).1) (((c5F code a h most).1).length)=(c5D code a h most).1)∧True)∧(((code=code)∧((((l05Draw_c1 code a h most).2).1=((c5D code a h most).2).1)∧((((l05Draw_c1 code a h most).2).2=((c5D code a h most).2).2)∧True)))∧True))))
 ((((c5F code a h most).1=(c5D code a h most).1)∧True)∧(((code=code)∧((nxA (code.length) (((c5F code a h most).2).1) (3:Int)=((c5D code a h most).2).1)∧((nxH (((c5F code a h most).2).2) (3:Int)=((c5D code a h most).2).2)∧True)))∧True)))))
theorem l05Draw_vc (code:List Int) (a:Int) (h:Int) (most:Int):runF Try.prog (gam l05Draw_G) noWr noAnn Try.f86 (bodyOf Try.f86) [(0,0)] [.box [.ints .u8 (code),.int .i64 (a),.int .u64 (h)],.c (.int .i64 (most))] (l05Draw_p code a h most)=l05Draw_V code a h most:=by kernel_rfl
theorem l05Draw_ok (code:List Int) (a:Int) (h:Int) (most:Int) (hpre:(l05Draw_p code a h most).pre):l05Draw_V code a h most:=by
  simp only [l05Draw_p,l05Draw_V,l05Draw_c1,BrP_iff,u1,u2,u3,u4,u5,u6,u7,u8,u9,v1,v2,v3,v4,v5,v6,v7,v8,v9,w1,w2,w3,w4,markL_length,inB,InR,room,bdsOk] at hpre ⊢
  obtain ⟨hb,h0,h1,h2,h3,h4⟩:=hpre
  have R:=c5F_ok hb (h:=h) h3 h4 h0 h1
  have e:c5D code a h most=if 0<nxV code (c5F code a h most).2.1 (c5F code a h most).2.2 3 then
    (rnL (c5F code a h most).1 (duF code ((c5F code a h most).1.length:Int) (nxA code.length (c5F code a h most).2.1 3) (nxH (c5F code a h most).2.2 3)).1 (c5F code a h most).1.length,
      (duF code ((c5F code a h most).1.length:Int) (nxA code.length (c5F code a h most).2.1 3) (nxH (c5F code a h most).2.2 3)).2) else ((c5F code a h most).1,nxA code.length (c5F code a h most).2.1 3,nxH (c5F code a h most).2.2 3):=rfl
  rw [e]
  clear e
  generalize c5F code a h most=r at *
  obtain ⟨K1,K2,K3,K4,K5⟩:=R
  have s:=nxA_in (n:=3) K4 K5
  refine ⟨⟨hb,h0,h1,h2,h3,h4⟩,⟨hb,K4,by omega⟩,fun z=>?_,fun z=>?_⟩
  · rw [if_pos z]
    obtain ⟨d1,d2⟩:=duF_in hb (n:=(r.1.length:Int)) (h:=nxH r.2.2 3) (by omega) s.1 s.2
    generalize duF code (r.1.length:Int) (nxA code.length r.2.1 3) (nxH r.2.2 3)=q at *
    rw [Int.toNat_natCast] at d1
    obtain ⟨p1,p2⟩:=inN_rng d1
    exact ⟨⟨hb,s.1,s.2,h2,by omega,by omega⟩,⟨K1,by omega,K3,p1,p2⟩,rfl,rfl,rfl⟩
  · rw [if_neg z]
    exact ⟨rfl,rfl,rfl⟩
theorem l05Draw_fits:Fits Try.prog 86 ⟨[(0,0)],l05Draw_ct⟩:=by
  refine ffn (Γ:=gam l05Draw_G) (gok_cons l01Next_fits (gok_cons l01DrawU_fits (gok_cons l01Rename_fits (gok_cons l05Any_fits gok_nil)))) Try.func86 fun ds p h hp=>?_
  unfold l05Draw_ct at h
  split at h
  · cases h
    exact ⟨noWr,noAnn,by rw [l05Draw_vc];exact l05Draw_ok _ _ _ _  hp⟩
  · cases h
end Go.Sx
