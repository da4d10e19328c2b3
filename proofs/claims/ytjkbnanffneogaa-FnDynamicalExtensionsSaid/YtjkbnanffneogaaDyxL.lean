/- DyxL -/
import Derived.Test.YtjkbnanffneogaaShpI
import Derived.Test.YtjkbnanffneogaaSpl
import Derived.Test.YtjkbnanffneogaaDynE
open Go Go.Proofs
namespace Go.Sx
set_option linter.unusedSimpArgs false
set_option linter.unusedVariables false
def rwOk (n:Nat) (r:List Int):Prop:=r.length=n∧∀x∈r,-1000≤x∧x≤1000
theorem rw_set {n:Nat} {F:List (List Int)} (h:∀r∈F,rwOk n r) (i j:Nat) {v:Int} (h0:-1000≤v) (h1:v≤1000):∀r∈F.set i ((F.getD i []).set j v),rwOk n r:=by
  by_cases e:i<F.length
  · intro r hr
    rcases List.mem_or_eq_of_mem_set hr with hr | rfl
    · exact h r hr
    · have q:=h _ (getD_mem F [] i e)
      refine ⟨by rw [List.length_set];exact q.1,fun x hx=>?_⟩
      rcases List.mem_or_eq_of_mem_set hx with hx | rfl
      · exact q.2 x hx
      · exact ⟨h0,h1⟩
  · rw [List.set_eq_of_length_le (by omega)];exact h
theorem rw_drw {code:List Int} (hb:bytesB code) {m:Int} (hm:1≤m∧m≤12) {n:Nat}:∀(j:Nat) (s:Ds),(∀r∈s.1,rwOk n r)→0≤s.2.1→s.2.1≤(code.length:Int)→(drwS code m n j s).1.length=s.1.length+j∧∀r∈(drwS code m n j s).1,rwOk n r
  | 0,s,h,_,_=>⟨rfl,h⟩
  | j+1,s,h,h0,h1=>by
    have D:=drL_len (code:=code) (m:=m) n ([],s.2.1,s.2.2) h0 h1
    have E:=drL_in hb hm.1 n ([],s.2.1,s.2.2) (fun x hx=>(List.not_mem_nil hx).elim)
    have:=rw_drw hb hm (n:=n) j (s.1++[(lsS code m n ([],s.2.1,s.2.2)).1],(lsS code m n ([],s.2.1,s.2.2)).2) (fun r hr=>by
      rcases List.mem_append.1 hr with hr | hr
      · exact h r hr
      · rw [List.mem_singleton.1 hr]
        refine ⟨by rw [D.1];show 0+n=n;omega,fun x hx=>?_⟩
        have:=E x hx
        omega) D.2.1 D.2.2
    refine ⟨?_,this.2⟩
    have e:=this.1
    rw [List.length_append] at e
    show (drwS code m n j _).1.length=_
    rw [e];show s.1.length+1+j=_;omega
theorem tm_in {m x:Int} (hm:1≤m∧m≤12):-1000≤x.tmod m∧x.tmod m≤1000:=by
  have h1:=Int.tmod_lt_of_pos x (show 0<m by omega)
  have h2:=Int.tmod_lt_of_pos (-x) (show 0<m by omega)
  rw [Int.neg_tmod] at h2
  omega
theorem shW_in {t:List (List Int)} {m:Int} {g lb w:List Int} {x y:Nat} (hm:1≤m∧m≤12):-1000≤shW t m g lb w x y∧shW t m g lb w x y≤1000:=by
  unfold shW
  split
  · exact tm_in hm
  · unfold cbF
    exact tm_in hm
theorem rw_shE {code:List Int} (hb:bytesB code) {n:Nat} {m b k:Int} {F:List (List Int)} (hm:1≤m∧m≤12) (h:∀r∈F,rwOk n r):(shE code n m (F,b,k)).1.length=F.length∧∀r∈(shE code n m (F,b,k)).1,rwOk n r:=by
  by_cases z:nxV code b k 12=0
  · rw [shE0 z]
    have v:=nxV_in hb (nxA code.length (nxA code.length (nxA code.length b 12) n) n) (nxH (nxH (nxH k 12) n) n) hm.1
    exact ⟨List.length_set,rw_set h _ _ (by omega) (by omega)⟩
  · by_cases z1:nxV code b k 12=1
    · rw [shE1 z z1]
      have v:=nxV_in hb (nxA code.length b 12) (nxH k 12) (n:=2) (by omega)
      have e:∀i:Nat,-1000≤[-1,m].getD i 0∧[-1,m].getD i 0≤1000:=fun i=>by
        match i with
        | 0=>show -1000≤(-1:Int)∧(-1:Int)≤1000;omega
        | 1=>show -1000≤m∧m≤1000;omega
        | i+2=>show -1000≤(0:Int)∧(0:Int)≤1000;omega
      exact ⟨List.length_set,rw_set h _ _ (e _).1 (e _).2⟩
    · by_cases z2:nxV code b k 12=2
      · rw [shE2 z z1 z2];exact ⟨rfl,h⟩
      · rw [shE3 z z1 z2];exact ⟨rfl,h⟩
theorem rw_shF {code:List Int} (hb:bytesB code) {t:List (List Int)} {m a h:Int} (ht:tabB t=true) (hm:1≤m∧m≤12) (h0:0≤a) (h1:a≤(code.length:Int)):(shF code t m a h).1.length=t.length∧∀r∈(shF code t m a h).1,rwOk t.length r:=by
  have s:=nxA_in (n:=5) h0 h1
  rw [shF,if_pos ⟨ht,hm⟩]
  split
  · have D:=rw_drw hb hm (n:=t.length) t.length ([],nxA code.length a 5,nxH h 5) (fun r hr=>(List.not_mem_nil hr).elim) s.1 s.2
    exact ⟨by show (drwS _ _ _ _ _).1.length=_;rw [D.1];show 0+t.length=_;omega,D.2⟩
  · have R:∀r∈(shB code t m (nxA code.length a 5) (nxH h 5)).1,rwOk t.length r:=fun r hr=>by
      simp only [shB,tabR,List.mem_map] at hr
      obtain ⟨i,_,rfl⟩:=hr
      refine ⟨tab_length _ _,fun x hx=>?_⟩
      simp only [tab,List.mem_map] at hx
      obtain ⟨j,_,rfl⟩:=hx
      exact shW_in hm
    have q:=rw_shE hb hm (n:=t.length) (b:=(shB code t m (nxA code.length a 5) (nxH h 5)).2.1) (k:=(shB code t m (nxA code.length a 5) (nxH h 5)).2.2) R
    exact ⟨q.1.trans (tabR_length _ _),q.2⟩
theorem mOk_shF {code:List Int} (hb:bytesB code) {t:List (List Int)} {m a h:Int} (ht:tabB t=true) (hm:1≤m∧m≤12) (h0:0≤a) (h1:a≤(code.length:Int)):mOk m (yT (shF code t m a h)):=by
  obtain ⟨q1,q2⟩:=rw_shF hb (h:=h) ht hm h0 h1
  have n:=(tabB_of ht).2.1
  have l:=yT_length (shF code t m a h)
  refine ⟨hm.1,hm.2,by omega,fun r hr=>?_⟩
  obtain ⟨a,b⟩:=q2 r (List.mem_of_mem_drop (List.mem_of_mem_take hr))
  exact ⟨by omega,by omega,b⟩
theorem drw_pos {code:List Int} {m:Int} {n:Nat}:∀(j:Nat) (s:Ds),0≤s.2.1→s.2.1≤(code.length:Int)→0≤(drwS code m n j s).2.1∧(drwS code m n j s).2.1≤(code.length:Int)
  | 0,s,h0,h1=>⟨h0,h1⟩
  | j+1,s,h0,h1=>by
    have D:=drL_len (code:=code) (m:=m) n ([],s.2.1,s.2.2) h0 h1
    exact drw_pos (code:=code) (m:=m) (n:=n) j (s.1++[(lsS code m n ([],s.2.1,s.2.2)).1],(lsS code m n ([],s.2.1,s.2.2)).2) D.2.1 D.2.2
theorem shE_pos {code:List Int} {n m b k:Int} {F:List (List Int)} (h0:0≤b) (h1:b≤(code.length:Int)):0≤(shE code n m (F,b,k)).2.2.1∧(shE code n m (F,b,k)).2.2.1≤(code.length:Int):=by
  have s1:=nxA_in (n:=12) h0 h1
  have s2:=nxA_in (n:=n) s1.1 s1.2
  have s3:=nxA_in (n:=n) s2.1 s2.2
  by_cases z:nxV code b k 12=0
  · rw [shE0 z];exact nxA_in s3.1 s3.2
  · by_cases z1:nxV code b k 12=1
    · rw [shE1 z z1];exact nxA_in (n:=2) s1.1 s1.2
    · by_cases z2:nxV code b k 12=2
      · rw [shE2 z z1 z2];exact s1
      · rw [shE3 z z1 z2];exact s1
theorem shF_pos {code:List Int} {t:List (List Int)} {m a h:Int} (h0:0≤a) (h1:a≤(code.length:Int)):0≤(shF code t m a h).2.2.1∧(shF code t m a h).2.2.1≤(code.length:Int):=by
  have s:=nxA_in (n:=5) h0 h1
  unfold shF
  split
  · split
    · exact drw_pos (code:=code) (m:=m) (n:=t.length) t.length ([],nxA code.length a 5,nxH h 5) s.1 s.2
    · have g:=drL_len (code:=code) (m:=m) t.length ([],nxA code.length a 5,nxH h 5) s.1 s.2
      have w:=drL_len (code:=code) (m:=m) (t.length * t.length) ([],(lsS code m t.length ([],nxA code.length a 5,nxH h 5)).2) g.2.1 g.2.2
      exact shE_pos w.2.1 w.2.2
  · exact drw_pos (code:=code) (m:=m) (n:=t.length) t.length ([],a,h) h0 h1
theorem con4_dims {m:Nat} {k:Int} {f:List (List Int)} (h:mOk k f):(con4 m (sqr f)).length=f.length∧∀x,x<f.length→((con4 m (sqr f)).getD x []).length=f.length∧∀y,y<f.length→(((con4 m (sqr f)).getD x []).getD y []).length=m:=by
  have eS:(sqr f).length=f.length:=List.length_map _
  refine ⟨(List.length_map _).trans eS,fun x hx=>?_⟩
  have q:=h.2.2.2 _ (getD_mem f [] x hx)
  have hD:(con4 m (sqr f)).getD x []=conR m ((sqr f).getD x []):=getD_map _ _ [] _ x (by omega)
  have hS:(sqr f).getD x []=(f.getD x []).take f.length:=getD_map _ _ [] _ x hx
  rw [hD,hS]
  have l:((f.getD x []).take f.length).length=f.length:=by rw [List.length_take];omega
  refine ⟨(List.length_map _).trans l,fun y hy=>?_⟩
  have e:(conR m ((f.getD x []).take f.length)).getD y []=conS m (((f.getD x []).take f.length).getD y 0):=getD_map _ _ 0 _ y (by omega)
  rw [e,conS,List.length_replicate]
theorem mix_setG {α:Type} (A B:List α) (d:α) (y:Nat) (hA:y<A.length) (hB:y<B.length):(A.take y++B.drop y).set y (A.getD y d)=A.take (y+1)++B.drop (y+1):=by
  rw [drop_cons' B d y hB,at_set _ _ _ _ _ (by rw [List.length_take];omega),←take_snoc A d y hA,List.append_assoc];rfl
def dxY (code:List Int):Dr:=spD code 0 (frH code code.length) 4
def dxT (code:List Int):List (List Int):=(dxY code).1
def dxM (code:List Int):Int×Int×Int:=moD code (dxY code).2.1 (dxY code).2.2 ((dxT code).length:Int)
def dxK (code:List Int):Int:=(dxM code).1
def dxS (code:List Int):Dy:=shF code (dxT code) (dxK code) (dxM code).2.1 (dxM code).2.2
def dxC (code:List Int):List (List (List (List Int))):=con4 (dxK code).toNat (sqr (yT (dxS code)))
def dxP (code:List Int):List Int×Int×Int:=duF code (dxK code) (nxA code.length (dxS code).2.2.1 3) (nxH (dxS code).2.2.2 3)
def wP (p:List Int) (l:List (List Int)):List (List Int):=l.map fun _=>p
def wR (p:List Int) (r:List (List (List Int))):List (List (List Int)):=r.map (wP p)
def wAll (p:List Int) (d:List (List (List (List Int)))):List (List (List (List Int))):=d.map (wR p)
def dxE (code:List Int):List (List (List (List Int))) :=
  if nxV code (dxP code).2.1 (dxP code).2.2 4=0 then
    (wAll (dxP code).1 (dxC code)).set 0 (((wAll (dxP code).1 (dxC code)).getD 0 []).set 0 ((((wAll (dxP code).1 (dxC code)).getD 0 []).getD 0 []).set 0 (duF code (dxK code) (nxA code.length (dxP code).2.1 4) (nxH (dxP code).2.2 4)).1))
  else wAll (dxP code).1 (dxC code)
def dxD (code:List Int):List (List (List (List Int))) :=
  if cycB (dxT code)=true∧1≤dxK code∧dxK code≤12 then
    (if (dxC code).length≠(dxT code).length then dxC code else if 0<nxV code (dxS code).2.2.1 (dxS code).2.2.2 3 then dxC code else dxE code)
  else []
theorem dxY_ok {code:List Int} (hb:bytesB code):okB code (dxY code):=spD_ok hb (by omega) (by omega) (by omega) (by omega)
theorem dxT_room {code:List Int} (hb:bytesB code):roomR (dxT code)∧(dxT code).length≤13:=by
  obtain ⟨k1,k2,k3,k4⟩:=dxY_ok hb
  refine ⟨⟨by unfold dxT;omega,fun r hr=>?_⟩,k1⟩
  have:=k2 r hr
  omega
def DrawDyE_p (code:List Int):Post:=⟨bytesB code∧code.length≤4096,.tup [.inr [.rows 41 2 .i64 (dxT code)],.inl (.int .i64 (dxK code)),.inl (.tr [59,24,41,2] (.r4 .i64 (dxD code)))],[]⟩
def DrawDyE_ct:List AD→Option Post
  | [.c (.ints .u8 (code))]=>some (DrawDyE_p code)
  | _=>none
def DrawDyE_ann (code:List Int):Nat→Option Ann
  | 0=>some (Ann.mk ((Nat)) (fun x=>⟨[(2,.c (.ptr 2 0)),(5,.c (.ptr 15 0)),(6,.c (.ptr 6 0)),(8,.c (.int .i64 (dxK code))),(9,.c (.own (41))),(10,.c (.own (58))),(11,.c (.int .i64 ((x:Int))))],[(2,some (.box [.nil])),(15,some (.box [.ro (.ints .u8 (code)),.int .i64 ((dxP code).2.1),.int .u64 ((dxP code).2.2)])),(6,some (.box [.own (17)])),(17,some (.rows 0 41 2 .i64 (dxT code))),(58,some (.ints 2 .i64 ((dxP code).1))),(41,some (.tr 0 [59,24,41,2] (.r4 .i64 ((wAll (dxP code).1 (dxC code)).take x++(dxC code).drop x))))]⟩) (fun x=>x≤(dxC code).length∧(dxC code).length=(dxT code).length∧cycB (dxT code)=true∧1≤dxK code∧dxK code≤12∧¬ 0<nxV code (dxS code).2.2.1 (dxS code).2.2.2 3) (fun x=>(dxC code).length - x) (fun x=>fun b_=>match b_ with | 2=>some (Ann.mk ((Nat)) (fun y=>⟨[(2,.c (.ptr 2 0)),(5,.c (.ptr 15 0)),(6,.c (.ptr 6 0)),(8,.c (.int .i64 (dxK code))),(9,.c (.own (41))),(10,.c (.own (58))),(11,.c (.int .i64 ((x:Int)))),(12,.c (.int .i64 ((y:Int))))],[(2,some (.box [.nil])),(15,some (.box [.ro (.ints .u8 (code)),.int .i64 ((dxP code).2.1),.int .u64 ((dxP code).2.2)])),(6,some (.box [.own (17)])),(17,some (.rows 0 41 2 .i64 (dxT code))),(58,some (.ints 2 .i64 ((dxP code).1))),(41,some (.tr 0 [59,24,41,2] (.r4 .i64 ((wAll (dxP code).1 (dxC code)).take x++((wR (dxP code).1 ((dxC code).getD x [])).take y++((dxC code).getD x []).drop y)::(dxC code).drop (x+1)))))]⟩) (fun y=>x<(dxC code).length∧y≤((dxC code).getD x []).length) (fun y=>((dxC code).getD x []).length - y) (fun y=>fun b_=>match b_ with | 4=>some (Ann.mk ((Nat)) (fun i=>⟨[(2,.c (.ptr 2 0)),(5,.c (.ptr 15 0)),(6,.c (.ptr 6 0)),(8,.c (.int .i64 (dxK code))),(9,.c (.own (41))),(10,.c (.own (58))),(11,.c (.int .i64 ((x:Int)))),(12,.c (.int .i64 ((y:Int)))),(13,.c (.int .i64 ((i:Int))))],[(2,some (.box [.nil])),(15,some (.box [.ro (.ints .u8 (code)),.int .i64 ((dxP code).2.1),.int .u64 ((dxP code).2.2)])),(6,some (.box [.own (17)])),(17,some (.rows 0 41 2 .i64 (dxT code))),(58,some (.ints 2 .i64 ((dxP code).1))),(41,some (.tr 0 [59,24,41,2] (.r4 .i64 ((wAll (dxP code).1 (dxC code)).take x++((wR (dxP code).1 ((dxC code).getD x [])).take y++((wP (dxP code).1 (((dxC code).getD x []).getD y [])).take i++(((dxC code).getD x []).getD y []).drop i)::((dxC code).getD x []).drop (y+1))::(dxC code).drop (x+1)))))]⟩) (fun i=>y<((dxC code).getD x []).length∧i≤(((dxC code).getD x []).getD y []).length) (fun i=>(((dxC code).getD x []).getD y []).length - i) (fun _=>noAnn)) | _=>none)) | _=>none))
  | _=>none
def DrawDyE_wr (t:Nat):Bool:=[2000034].contains t
def DrawDyE_G:List (Nat×Ctr):=[(51,⟨[],l01From_ct⟩),(52,⟨[(0,0)],l05Spoil_ct⟩),(53,⟨[(0,0)],l14Modulus_ct⟩),(39,⟨[],l05Is_ct⟩),(54,⟨[],l01In_ct⟩),(56,⟨[(0,0)],l14Shape_ct⟩),(55,⟨[],l14Constant_ct⟩),(57,⟨[(0,0)],l01Next_ct⟩),(58,⟨[(0,0)],l01DrawU_ct⟩),(59,⟨[],l01Own_ct⟩)]
def DrawDyE_c1 (code:List Int):=(moD code (((spD code (0:Int) (frH code (code.length)) (4:Int)).2).1) (((spD code (0:Int) (frH code (code.length)) (4:Int)).2).2) (↑(((spD code (0:Int) (frH code (code.length)) (4:Int)).1).length):Int))
def DrawDyE_c2 (code:List Int):=(shF code ((spD code (0:Int) (frH code (code.length)) (4:Int)).1) ((DrawDyE_c1 code).1) (((DrawDyE_c1 code).2).1) (((DrawDyE_c1 code).2).2))
def DrawDyE_c3 (code:List Int) (x0:Nat):=((dxC code).getD x0 ([]:List (List (List Int))))
def DrawDyE_c4 (code:List Int) (x0:Nat) (x1:Nat) (x2:Nat):=(List.take x0 (wR ((dxP code).1) (DrawDyE_c3 code x1))++(List.take x2 (wP ((dxP code).1) ((DrawDyE_c3 code x1).getD x0 ([]:List (List Int))))++List.drop x2 ((DrawDyE_c3 code x1).getD x0 ([]:List (List Int))))::List.drop (x0+(1:Nat)) (DrawDyE_c3 code x1))
def DrawDyE_c5 (code:List Int) (x0:Nat) (x1:Nat) (x2:Nat):=(List.take x0 (wAll ((dxP code).1) (dxC code))++(DrawDyE_c4 code x1 x0 x2)::List.drop (x0+(1:Nat)) (dxC code))
def DrawDyE_c6 (code:List Int):=(List.take (((DrawDyE_c2 code).1).length - ((DrawDyE_c2 code).2).1) (List.drop (((DrawDyE_c2 code).2).1) ((DrawDyE_c2 code).1)))
def DrawDyE_c7 (code:List Int):=(spD code (0:Int) (frH code (code.length)) (4:Int))
def DrawDyE_c8 (code:List Int):=(wAll ((dxP code).1) (dxC code))
def DrawDyE_c9 (code:List Int):=(duF code ((DrawDyE_c1 code).1) (nxA (code.length) ((((DrawDyE_c2 code).2).2).1) (3:Int)) (nxH ((((DrawDyE_c2 code).2).2).2) (3:Int)))
def DrawDyE_c10 (code:List Int) (x0:Nat) (x1:Nat):=(List.take x0 (wR ((dxP code).1) (DrawDyE_c3 code x1))++List.drop x0 (DrawDyE_c3 code x1))
def DrawDyE_c11 (code:List Int) (x0:Nat):=((List.take x0 (DrawDyE_c8 code)++List.drop x0 (dxC code)).getD (0:Nat) ([]:List (List (List Int))))
def DrawDyE_V (code:List Int):Prop :=
 ((((bytesB code)∧(code.length≤(4096:Nat)))∧True)∧((((bytesB code)∧(((0:Int)≤(0:Int))∧(((0:Int)≤(↑(code.length):Int))∧((code.length≤(4096:Nat))∧(((1:Int)≤(4:Int))∧((4:Int)≤(6:Int)))))))∧((code=code)∧True))∧((((bytesB code)∧(((0:Int)≤((DrawDyE_c7 code).2).1)∧((((DrawDyE_c7 code).2).1≤(↑(code.length):Int))∧((code.length≤(4096:Nat))∧(((0:Int)≤(↑(((DrawDyE_c7 code).1).length):Int))∧((↑(((DrawDyE_c7 code).1).length):Int)≤(13:Int)))))))∧((code=code)∧True))∧(((roomR ((DrawDyE_c7 code).1))∧True)∧(BrP (!cycB ((spD code (0:Int) (frH code (code.length)) (4:Int)).1)) (((((DrawDyE_c7 code).1=dxT code)∧True)∧(((DrawDyE_c1 code).1=dxK code)∧((([]:List (List (List (List Int))))=dxD code)∧True)))∧True) ((True∧True)∧(BrP (!decide ((1:Int)≤(moD code (((spD code (0:Int) (frH code (code.length)) (4:Int)).2).1) (((spD code (0:Int) (frH code (code.length)) (4:Int)).2).2) (↑(((spD code (0:Int) (frH code (code.length)) (4:Int)).1).length):Int)).1∧(moD code (((spD code (0:Int) (frH code (code.length)) (4:Int)).2).1) (((spD code (0:Int) (frH code (code.length)) (4:Int)).2).2) (↑(((spD code (0:Int) (frH code (code.length)) (4:Int)).1).length):Int)).1≤(12:Int))) (((((DrawDyE_c7 code).1=dxT code)∧True)∧(((DrawDyE_c1 code).1=dxK code)∧((([]:List (List (List (List Int))))=dxD code)∧True)))∧True) ((((bytesB code)∧((code.length≤(4096:Nat))∧(((0:Int)≤((DrawDyE_c1 code).2).1)∧((((DrawDyE_c1 code).2).1≤(↑(code.length):Int)) ∧
 ((((DrawDyE_c7 code).1).length≤(100:Nat))∧((roomR ((DrawDyE_c7 code).1))∧(((-1000:Int)≤(DrawDyE_c1 code).1)∧((DrawDyE_c1 code).1≤(1000:Int)))))))))∧((code=code)∧True))∧(((mOk ((DrawDyE_c1 code).1) (DrawDyE_c6 code))∧True) ∧
 (BrP ((↑(FC.len (FC.r4 IntKind.i64 (con4 (((moD code (((spD code (0:Int) (frH code (code.length)) (4:Int)).2).1) (((spD code (0:Int) (frH code (code.length)) (4:Int)).2).2) (↑(((spD code (0:Int) (frH code (code.length)) (4:Int)).1).length):Int)).1).toNat) (sqr (List.take (((shF code ((spD code (0:Int) (frH code (code.length)) (4:Int)).1) ((moD code (((spD code (0:Int) (frH code (code.length)) (4:Int)).2).1) (((spD code (0:Int) (frH code (code.length)) (4:Int)).2).2) (↑(((spD code (0:Int) (frH code (code.length)) (4:Int)).1).length):Int)).1) (((moD code (((spD code (0:Int) (frH code (code.length)) (4:Int)).2).1) (((spD code (0:Int) (frH code (code.length)) (4:Int)).2).2) (↑(((spD code (0:Int) (frH code (code.length)) (4:Int)).1).length):Int)).2).1) (((moD code (((spD code (0:Int) (frH code (code.length)) (4:Int)).2).1) (((spD code (0:Int) (frH code (code.length)) (4:Int)).2).2) (↑(((spD code (0:Int) (frH code (code.length)) (4:Int)).1).length):Int)).2).2)).1).length - ((shF code ((spD code (0:Int) (frH code (code.length)) (4:Int)).1) ((moD code (((spD code (0:Int) (frH code (code.length)) (4:Int)).2).1) (((spD code (0:Int) (frH code (code.length)) (4:Int)).2).2) (↑(((spD code (0:Int) (frH code (code.length)) (4:Int)).1).length):Int)).1) (((moD code (((spD code (0:Int) (frH code (code.length)) (4:Int)).2).1) (((spD code (0:Int) (frH code (code.length)) (4:Int)).2).2) (↑(((spD code (0:Int) (frH code (code.length)) (4:Int)).1).length):Int)).2).1) (((moD code (((spD code (0:Int) (frH code (code.length)) (4:Int)).2).1) (((spD code (0:Int) (frH code (code.length)) (4:Int)).2).2) (↑(((spD code (0:Int) (frH code (code.length)) (4:Int)).1).length):Int)).2).2)).2).1) (List.drop (((shF code ((spD code (0:Int) (frH code (code.length)) (4:Int)).1) ((moD code (((spD code (0:Int) (frH code (code.length)) (4:Int)).2).1) (((spD code (0:Int) (frH code (code.length)) (4:Int)).2).2) (↑(((spD code (0:Int) (frH code (code.length)) (4:Int)).1).length):Int)).1) (((moD code (((spD code (0:Int) (frH code (code.length)) (4:Int)).2).1) (((spD code (0:Int) (frH code (code.length)) (4:Int)).2).2) (↑(((spD code (0:Int) (frH code (code.length)) (4:Int)).1).length):Int)).2).1) (((moD code (((spD code (0:Int) (frH code (code.length)) (4:Int)).2).1) (((spD code (0:Int) (frH code (code.length)) (4:Int)).2).2) (↑(((spD code (0:Int) (frH code (code.length)) (4:Int)).1).length):Int)).2).2)).2).1) ((shF code ((spD code (0:Int) (frH code (code.length)) (4:Int)).1) ((moD code (((spD code (0:Int) (frH code (code.length)) (4:Int)).2).1) (((spD code (0:Int) (frH code (code.length)) (4:Int)).2).2) (↑(((spD code (0:Int) (frH code (code.length)) (4:Int)).1).length):Int)).1) (((moD code (((spD code (0:Int) (frH code (code.length)) (4:Int)).2).1) (((spD code (0:Int) (frH code (code.length)) (4:Int)).2).2) (↑(((spD code (0:Int) (frH code (code.length)) (4:Int)).1).length):Int)).2).1) (((moD code (((spD code (0:Int) (frH code (code.length)) (4:Int)).2).1) (((spD code (0:Int) (frH code (code.length)) (4:Int)).2).2) (↑(((spD code (0:Int) (frH code (code.length)) (4:Int)).1).length):Int)).2).2)).1))))))):Int) != (↑(((spD code (0:Int) (frH code (code.length)) (4:Int)).1).length):Int))
 (((((DrawDyE_c7 code).1=dxT code)∧True)∧(((DrawDyE_c1 code).1=dxK code)∧((con4 (((DrawDyE_c1 code).1).toNat) (sqr (DrawDyE_c6 code))=dxD code)∧True)))∧True) ((((bytesB code)∧(((0:Int)≤(((DrawDyE_c2 code).2).2).1)∧((((DrawDyE_c2 code).2).2).1≤(1099511627776:Int))))∧((code=code)∧True)) ∧
 (BrP (decide ((0:Int)<nxV code ((((shF code ((spD code (0:Int) (frH code (code.length)) (4:Int)).1) ((moD code (((spD code (0:Int) (frH code (code.length)) (4:Int)).2).1) (((spD code (0:Int) (frH code (code.length)) (4:Int)).2).2) (↑(((spD code (0:Int) (frH code (code.length)) (4:Int)).1).length):Int)).1) (((moD code (((spD code (0:Int) (frH code (code.length)) (4:Int)).2).1) (((spD code (0:Int) (frH code (code.length)) (4:Int)).2).2) (↑(((spD code (0:Int) (frH code (code.length)) (4:Int)).1).length):Int)).2).1) (((moD code (((spD code (0:Int) (frH code (code.length)) (4:Int)).2).1) (((spD code (0:Int) (frH code (code.length)) (4:Int)).2).2) (↑(((spD code (0:Int) (frH code (code.length)) (4:Int)).1).length):Int)).2).2)).2).2).1) ((((shF code ((spD code (0:Int) (frH code (code.length)) (4:Int)).1) ((moD code (((spD code (0:Int) (frH code (code.length)) (4:Int)).2).1) (((spD code (0:Int) (frH code (code.length)) (4:Int)).2).2) (↑(((spD code (0:Int) (frH code (code.length)) (4:Int)).1).length):Int)).1) (((moD code (((spD code (0:Int) (frH code (code.length)) (4:Int)).2).1) (((spD code (0:Int) (frH code (code.length)) (4:Int)).2).2) (↑(((spD code (0:Int) (frH code (code.length)) (4:Int)).1).length):Int)).2).1) (((moD code (((spD code (0:Int) (frH code (code.length)) (4:Int)).2).1) (((spD code (0:Int) (frH code (code.length)) (4:Int)).2).2) (↑(((spD code (0:Int) (frH code (code.length)) (4:Int)).1).length):Int)).2).2)).2).2).2) (3:Int))) (((((DrawDyE_c7 code).1=dxT code) ∧
 True)∧(((DrawDyE_c1 code).1=dxK code)∧((con4 (((DrawDyE_c1 code).1).toNat) (sqr (DrawDyE_c6 code))=dxD code)∧True)))∧True) ((((bytesB code)∧(((0:Int)≤nxA (code.length) ((((DrawDyE_c2 code).2).2).1) (3:Int))∧((nxA (code.length) ((((DrawDyE_c2 code).2).2).1) (3:Int)≤(↑(code.length):Int))∧((code.length≤(4096:Nat))∧(((1:Int)≤(DrawDyE_c1 code).1)∧((DrawDyE_c1 code).1≤(144:Int)))))))∧((code=code)∧True))∧((∃x0:Nat,(((x0≤(dxC code).length)∧(((dxC code).length=(dxT code).length)∧((cycB (dxT code)=true)∧(((1:Int)≤dxK code)∧((dxK code≤(12:Int))∧(¬(0:Int)<nxV code ((((dxS code).2).2).1) ((((dxS code).2).2).2) (3:Int)))))))∧(((DrawDyE_c1 code).1=dxK code)∧(((0:Int)=(↑x0:Int))∧((code=code)∧((((DrawDyE_c9 code).2).1=((dxP code).2).1)∧((((DrawDyE_c9 code).2).2=((dxP code).2).2)∧(((DrawDyE_c7 code).1=dxT code)∧(((DrawDyE_c9 code).1=(dxP code).1)∧(con4 (((DrawDyE_c1 code).1).toNat) (sqr (DrawDyE_c6 code))=List.take x0 (DrawDyE_c8 code)++List.drop x0 (dxC code)))))))))))∧(∀x1:Nat,(((x1≤(dxC code).length)∧(((dxC code).length=(dxT code).length)∧((cycB (dxT code)=true)∧(((1:Int)≤dxK code)∧((dxK code≤(12:Int))∧(¬(0:Int)<nxV code ((((dxS code).2).2).1) ((((dxS code).2).2).2) (3:Int)))))))→(BrP (decide ((↑x1:Int)<(↑(FC.len (FC.r4 IntKind.i64 (List.take x1 (wAll ((dxP code).1) (dxC code))++List.drop x1 (dxC code)))):Int))) ((∃x2:Nat,(((x1<(dxC code).length)∧(x2≤(DrawDyE_c3 code x1).length))∧((dxK code=dxK code) ∧
 (((↑x1:Int)=(↑x1:Int))∧(((0:Int)=(↑x2:Int))∧((code=code)∧((((dxP code).2).1=((dxP code).2).1)∧((((dxP code).2).2=((dxP code).2).2)∧((dxT code=dxT code)∧(((dxP code).1=(dxP code).1)∧(List.take x1 (DrawDyE_c8 code)++List.drop x1 (dxC code)=List.take x1 (DrawDyE_c8 code)++(DrawDyE_c10 code x2 x1)::List.drop (x1+(1:Nat)) (dxC code))))))))))))∧(∀x3:Nat,(((x1<(dxC code).length)∧(x3≤(DrawDyE_c3 code x1).length))→((inB (↑x1:Int) (FC.len (FC.r4 IntKind.i64 (List.take x1 (DrawDyE_c8 code)++(DrawDyE_c10 code x3 x1)::List.drop (x1+(1:Nat)) (dxC code)))))∧(BrP (decide ((↑x3:Int)<(↑(FC.len (FC.r3 IntKind.i64 ((List.take x1 (wAll ((dxP code).1) (dxC code))++(List.take x3 (wR ((dxP code).1) (List.getD (dxC code) x1 ([]:List (List (List Int)))))++List.drop x3 (List.getD (dxC code) x1 ([]:List (List (List Int)))))::List.drop (x1+(1:Nat)) (dxC code)).getD ((↑x1:Int).toNat) ([]:List (List (List Int)))))):Int))) ((∃x4:Nat,(((x3<(DrawDyE_c3 code x1).length)∧(x4≤((DrawDyE_c3 code x1).getD x3 ([]:List (List Int))).length))∧((dxK code=dxK code)∧(((↑x1:Int)=(↑x1:Int))∧(((↑x3:Int)=(↑x3:Int))∧(((0:Int)=(↑x4:Int))∧((code=code)∧((((dxP code).2).1=((dxP code).2).1)∧((((dxP code).2).2=((dxP code).2).2)∧((dxT code=dxT code)∧(((dxP code).1=(dxP code).1) ∧
 (List.take x1 (DrawDyE_c8 code)++(DrawDyE_c10 code x3 x1)::List.drop (x1+(1:Nat)) (dxC code)=List.take x1 (DrawDyE_c8 code)++(DrawDyE_c4 code x3 x1 x4)::List.drop (x1+(1:Nat)) (dxC code)))))))))))))∧(∀x5:Nat,(((x3<(DrawDyE_c3 code x1).length)∧(x5≤((DrawDyE_c3 code x1).getD x3 ([]:List (List Int))).length))→((inB (↑x1:Int) (FC.len (FC.r4 IntKind.i64 (DrawDyE_c5 code x1 x3 x5))))∧((inB (↑x3:Int) (FC.len (FC.r3 IntKind.i64 ((DrawDyE_c5 code x1 x3 x5).getD ((↑x1:Int).toNat) ([]:List (List (List Int)))))))∧(BrP (decide ((↑x5:Int)<(↑(FC.len (FC.rows IntKind.i64 ((List.getD (List.take x1 (wAll ((dxP code).1) (dxC code))++(List.take x3 (wR ((dxP code).1) (List.getD (dxC code) x1 ([]:List (List (List Int)))))++(List.take x5 (wP ((dxP code).1) (List.getD (List.getD (dxC code) x1 ([]:List (List (List Int)))) x3 ([]:List (List Int))))++List.drop x5 (List.getD (List.getD (dxC code) x1 ([]:List (List (List Int)))) x3 ([]:List (List Int))))::List.drop (x3+(1:Nat)) (List.getD (dxC code) x1 ([]:List (List (List Int)))))::List.drop (x1+(1:Nat)) (dxC code)) ((↑x1:Int).toNat) ([]:List (List (List Int)))).getD ((↑x3:Int).toNat) ([]:List (List Int))))):Int))) ((inB (↑x1:Int) (FC.len (FC.r4 IntKind.i64 (DrawDyE_c5 code x1 x3 x5))))∧((inB (↑x3:Int) (FC.len (FC.r3 IntKind.i64 ((DrawDyE_c5 code x1 x3 x5).getD ((↑x1:Int).toNat) ([]:List (List (List Int)))))))∧(((room (((dxP code).1).length))∧True) ∧
 ((inB (↑x5:Int) (FC.len (FC.rows IntKind.i64 ((List.getD (DrawDyE_c5 code x1 x3 x5) ((↑x1:Int).toNat) ([]:List (List (List Int)))).getD ((↑x3:Int).toNat) ([]:List (List Int))))))∧((InR ((↑x5:Int)+(1:Int)))∧(∃x6:Nat,(((x3<(DrawDyE_c3 code x1).length)∧(x6≤((DrawDyE_c3 code x1).getD x3 ([]:List (List Int))).length))∧((((DrawDyE_c3 code x1).getD x3 ([]:List (List Int))).length - x6<((DrawDyE_c3 code x1).getD x3 ([]:List (List Int))).length - x5)∧((dxK code=dxK code)∧(((↑x1:Int)=(↑x1:Int))∧(((↑x3:Int)=(↑x3:Int))∧(((↑x5:Int)+(1:Int)=(↑x6:Int))∧((code=code)∧((((dxP code).2).1=((dxP code).2).1)∧((((dxP code).2).2=((dxP code).2).2)∧((dxT code=dxT code)∧(((dxP code).1=(dxP code).1)∧(List.set (DrawDyE_c5 code x1 x3 x5) ((↑x1:Int).toNat) (List.set ((DrawDyE_c5 code x1 x3 x5).getD ((↑x1:Int).toNat) ([]:List (List (List Int)))) ((↑x3:Int).toNat) (List.set ((List.getD (DrawDyE_c5 code x1 x3 x5) ((↑x1:Int).toNat) ([]:List (List (List Int)))).getD ((↑x3:Int).toNat) ([]:List (List Int))) ((↑x5:Int).toNat) ((dxP code).1)))=List.take x1 (DrawDyE_c8 code)++(DrawDyE_c4 code x3 x1 x6)::List.drop (x1+(1:Nat)) (dxC code))))))))))))))))))) ((InR ((↑x3:Int)+(1:Int)))∧(∃x7:Nat,(((x1<(dxC code).length)∧(x7≤(DrawDyE_c3 code x1).length))∧(((DrawDyE_c3 code x1).length - x7<(DrawDyE_c3 code x1).length - x3)∧((dxK code=dxK code)∧(((↑x1:Int)=(↑x1:Int))∧(((↑x3:Int)+(1:Int)=(↑x7:Int))∧((code=code) ∧
 ((((dxP code).2).1=((dxP code).2).1)∧((((dxP code).2).2=((dxP code).2).2)∧((dxT code=dxT code)∧(((dxP code).1=(dxP code).1)∧(List.take x1 (DrawDyE_c8 code)++(DrawDyE_c4 code x3 x1 x5)::List.drop (x1+(1:Nat)) (dxC code)=List.take x1 (DrawDyE_c8 code)++(DrawDyE_c10 code x7 x1)::List.drop (x1+(1:Nat)) (dxC code)))))))))))))))))))) ((InR ((↑x1:Int)+(1:Int)))∧(∃x8:Nat,(((x8≤(dxC code).length)∧(((dxC code).length=(dxT code).length)∧((cycB (dxT code)=true)∧(((1:Int)≤dxK code)∧((dxK code≤(12:Int))∧(¬(0:Int)<nxV code ((((dxS code).2).2).1) ((((dxS code).2).2).2) (3:Int)))))))∧(((dxC code).length - x8<(dxC code).length - x1)∧((dxK code=dxK code)∧(((↑x1:Int)+(1:Int)=(↑x8:Int))∧((code=code)∧((((dxP code).2).1=((dxP code).2).1)∧((((dxP code).2).2=((dxP code).2).2)∧((dxT code=dxT code)∧(((dxP code).1=(dxP code).1)∧(List.take x1 (DrawDyE_c8 code)++(DrawDyE_c10 code x3 x1)::List.drop (x1+(1:Nat)) (dxC code)=List.take x8 (DrawDyE_c8 code)++List.drop x8 (dxC code)))))))))))))))))) ((((bytesB code)∧(((0:Int)≤((dxP code).2).1)∧(((dxP code).2).1≤(1099511627776:Int))))∧((code=code)∧True))∧(BrP (nxV code (((dxP code).2).1) (((dxP code).2).2) (4:Int) == (0:Int)) ((inB (0:Int) (FC.len (FC.r4 IntKind.i64 (List.take x1 (DrawDyE_c8 code)++List.drop x1 (dxC code)))))∧((inB (0:Int) (FC.len (FC.r3 IntKind.i64 (DrawDyE_c11 code x1))))∧((((bytesB code)∧(((0:Int)≤nxA (code.length) (((dxP code).2).1) (4:Int)) ∧
 ((nxA (code.length) (((dxP code).2).1) (4:Int)≤(↑(code.length):Int))∧((code.length≤(4096:Nat))∧(((1:Int)≤dxK code)∧(dxK code≤(144:Int)))))))∧((code=code)∧True))∧((inB (0:Int) (FC.len (FC.rows IntKind.i64 ((DrawDyE_c11 code x1).getD (0:Nat) ([]:List (List Int))))))∧((((dxT code=dxT code)∧True)∧((dxK code=dxK code)∧((List.set (List.take x1 (DrawDyE_c8 code)++List.drop x1 (dxC code)) (0:Nat) (List.set (DrawDyE_c11 code x1) (0:Nat) (List.set ((DrawDyE_c11 code x1).getD (0:Nat) ([]:List (List Int))) (0:Nat) ((duF code (dxK code) (nxA (code.length) (((dxP code).2).1) (4:Int)) (nxH (((dxP code).2).2) (4:Int))).1)))=dxD code)∧True)))∧True))))) ((((dxT code=dxT code)∧True)∧((dxK code=dxK code)∧((List.take x1 (DrawDyE_c8 code)++List.drop x1 (dxC code)=dxD code)∧True)))∧True))))))))))))))))))))
theorem DrawDyE_vc (code:List Int):runF Try.prog (gam DrawDyE_G) DrawDyE_wr (DrawDyE_ann code) Try.f17 (bodyOf Try.f17) [] [.c (.ints .u8 (code))] (DrawDyE_p code)=DrawDyE_V code:=by kernel_rfl
theorem DrawDyE_ok (code:List Int) (hpre:(DrawDyE_p code).pre):DrawDyE_V code:=by
  simp only [DrawDyE_p,DrawDyE_V,DrawDyE_c1,DrawDyE_c2,DrawDyE_c3,DrawDyE_c4,DrawDyE_c5,DrawDyE_c6,DrawDyE_c7,DrawDyE_c8,DrawDyE_c9,DrawDyE_c10,DrawDyE_c11,BrP_iff,true_and,and_true,decide_eq_true_eq,decide_eq_false_iff_not,bne_iff_ne,beq_iff_eq,bne_eq_false_iff_eq,beq_eq_false_iff_ne,Bool.not_eq_true,Bool.not_eq_false,Bool.not_true,Bool.not_false,Bool.not_eq_eq_eq_not,Int.toNat_natCast,List.length_append,List.length_take,List.length_replicate,List.length_set,List.length_map,List.length_drop,List.length_nil,List.length_cons,markL_length,inB,InR,room,bdsOk,FC.len] at hpre ⊢
  obtain ⟨hb,hc⟩:=hpre
  have eY:spD code 0 (frH code code.length) 4=dxY code:=rfl
  simp only [eY]
  have eT:(dxY code).1=dxT code:=rfl
  simp only [eT]
  have eM:moD code (dxY code).2.1 (dxY code).2.2 ((dxT code).length:Int)=dxM code:=rfl
  simp only [eM]
  have eK:(dxM code).1=dxK code:=rfl
  simp only [eK]
  have eS:shF code (dxT code) (dxK code) (dxM code).2.1 (dxM code).2.2=dxS code:=rfl
  simp only [eS]
  have eG:List.take ((dxS code).1.length - (dxS code).2.1) (List.drop (dxS code).2.1 (dxS code).1)=yT (dxS code):=rfl
  simp only [eG]
  have eC:con4 (dxK code).toNat (sqr (yT (dxS code)))=dxC code:=rfl
  simp only [eC]
  have eP:duF code (dxK code) (nxA code.length (dxS code).2.2.1 3) (nxH (dxS code).2.2.2 3)=dxP code:=rfl
  simp only [eP]
  obtain ⟨k1,k2,k3,k4⟩:=dxY_ok hb
  obtain ⟨T1,T2⟩:=dxT_room hb
  have M:=moD_in hb (h:=(dxY code).2.2) (n:=((dxT code).length:Int)) k3 k4 (by omega)
  rw [eM,eK] at M
  refine ⟨⟨hb,hc⟩,⟨hb,by omega,by omega,hc,by omega,by omega⟩,⟨hb,k3,k4,hc,by omega,by omega⟩,T1,fun z=>⟨trivial,trivial,?_⟩,fun hC=>⟨fun hk=>⟨trivial,trivial,?_⟩,fun hk=>⟨⟨hb,hc,M.2.2.1,M.2.2.2,by omega,T1,by omega,by omega⟩,?_⟩⟩⟩
  · rw [dxD,if_neg (by rw [z];simp)]
  · rw [dxD,if_neg (fun q=>hk q.2)]
  have P:=shF_pos (code:=code) (t:=dxT code) (m:=dxK code) (a:=(dxM code).2.1) (h:=(dxM code).2.2) M.2.2.1 M.2.2.2
  have mo:=mOk_shF hb (h:=(dxM code).2.2) (cycB_tab hC) hk M.2.2.1 M.2.2.2
  rw [eS] at P mo
  have tb:=tabB_of (cycB_tab hC)
  have n3:=nxA_in (n:=3) P.1 P.2
  have U:=duF_in hb (n:=dxK code) (a:=nxA code.length (dxS code).2.2.1 3) (h:=nxH (dxS code).2.2.2 3) hk.1 n3.1 n3.2
  rw [eP] at U
  have n4:=nxA_in (n:=4) U.2.1 U.2.2
  have dm:=con4_dims (m:=(dxK code).toNat) mo
  rw [eC] at dm
  have hD0:dxD code=if (dxC code).length≠(dxT code).length then dxC code else if 0<nxV code (dxS code).2.2.1 (dxS code).2.2.2 3 then dxC code else dxE code:=if_pos ⟨hC,hk⟩
  refine ⟨mo,fun h=>⟨trivial,trivial,?_⟩,fun h=>⟨⟨hb,P.1,by omega⟩,fun hv=>⟨trivial,trivial,?_⟩,fun hv=>⟨⟨hb,n3.1,n3.2,hc,hk.1,by omega⟩,?_⟩⟩⟩
  · rw [hD0,if_pos (by omega)]
  · rw [hD0,if_neg (by omega),if_pos hv]
  have hD:dxD code=dxE code:=by rw [hD0,if_neg (by omega),if_neg hv]
  rw [hD]
  unfold dxE
  have pl:(dxP code).1.length≤12:=by have:=U.1.1;omega
  have F13:(yT (dxS code)).length≤13:=mo.2.2.1
  obtain ⟨d1,d2⟩:=dm
  rw [←d1] at d2
  generalize (dxP code).1=p at *
  generalize hDD:dxC code=D at *
  have lW:(wAll p D).length=D.length:=List.length_map _
  refine ⟨⟨0,⟨by omega,by omega,hC,hk.1,hk.2,hv⟩,trivial,rfl,trivial,trivial,trivial,trivial,rfl⟩,fun x ⟨hx,_⟩=>⟨fun hl=>⟨⟨0,⟨by omega,by omega⟩,rfl,?_⟩,fun y ⟨_,hy⟩=>?_⟩,fun hl=>⟨⟨hb,by omega,by omega⟩,?_⟩⟩⟩
  · rw [drop_cons' D [] x (by omega)];rfl
  · have hx':x<D.length:=by omega
    obtain ⟨r1,r2⟩:=d2 x hx'
    have g1:∀(N:List (List (List Int))) (L:List (List (List (List Int)))),((wAll p D).take x++N::L).getD x []=N:=fun N L=>at_getD _ _ _ _ _ (by rw [List.length_take];omega)
    have s1:∀(N Q:List (List (List Int))) (L:List (List (List (List Int)))),((wAll p D).take x++N::L).set x Q=(wAll p D).take x++Q::L:=fun N Q L=>at_set _ _ _ _ _ (by rw [List.length_take];omega)
    have hW:(wAll p D).getD x []=wR p (D.getD x []):=getD_map _ _ [] _ x hx'
    have tW:=take_snoc (wAll p D) [] x (by omega)
    rw [hW] at tW
    simp only [g1,s1]
    generalize D.getD x []=r at *
    have lR:(wR p r).length=r.length:=List.length_map _
    have b1:0≤(x:Int)∧(x:Int)<((min x (wAll p D).length+(D.length - (x+1)+1):Nat):Int):=by omega
    have len2:((wR p r).take y++r.drop y).length=r.length:=by rw [List.length_append,List.length_take,List.length_drop];omega
    refine ⟨b1,fun hl2=>?_,fun hl2=>⟨by omega,x+1,⟨by omega,by omega,hC,hk.1,hk.2,hv⟩,by omega,by omega,?_⟩⟩
    · have hy':y<r.length:=by have:=of_decide_eq_true hl2;omega
      have l1:=r2 y (by omega)
      have g2:∀(N:List (List Int)) (L:List (List (List Int))),((wR p r).take y++N::L).getD y []=N:=fun N L=>at_getD _ _ _ _ _ (by rw [List.length_take];omega)
      have s2:∀(N Q:List (List Int)) (L:List (List (List Int))),((wR p r).take y++N::L).set y Q=(wR p r).take y++Q::L:=fun N Q L=>at_set _ _ _ _ _ (by rw [List.length_take];omega)
      have hR:(wR p r).getD y []=wP p (r.getD y []):=getD_map _ _ [] _ y hy'
      have tR:=take_snoc (wR p r) [] y (by omega)
      rw [hR] at tR
      have dR:=drop_cons' r [] y hy'
      simp only [g2,s2]
      generalize r.getD y []=l at *
      have lP:(wP p l).length=l.length:=List.length_map _
      refine ⟨⟨0,⟨by omega,by omega⟩,rfl,?_⟩,fun i ⟨_,hi⟩=>?_⟩
      · rw [dR];rfl
      · have len3:((wP p l).take i++l.drop i).length=l.length:=by rw [List.length_append,List.length_take,List.length_drop];omega
        have len4:((wR p r).take y++((wP p l).take i++l.drop i)::r.drop (y+1)).length=r.length:=by rw [List.length_append,List.length_take,List.length_cons,List.length_drop];omega
        rw [len3,len4]
        refine ⟨b1,by omega,fun hl3=>?_,fun hl3=>⟨by omega,y+1,⟨by omega,by omega⟩,by omega,by omega,?_⟩⟩
        · have hi':i<l.length:=by have:=of_decide_eq_true hl3;omega
          refine ⟨b1,by omega,by omega,by omega,by omega,i+1,⟨by omega,by omega⟩,by omega,by omega,?_⟩
          have hP:(wP p l).getD i []=p:=getD_map _ _ [] _ i hi'
          have q:=mix_setG (wP p l) l [] i (by omega) hi'
          rw [hP] at q
          rw [q]
        · have hi':i=l.length:=by have:=of_decide_eq_false hl3;omega
          have e3:(wP p l).take i++l.drop i=wP p l:=by rw [hi',List.drop_of_length_le (Nat.le_refl _),List.append_nil,List.take_of_length_le (by omega)]
          rw [←tR,e3,List.append_assoc]
          rfl
    · have hy':y=r.length:=by have:=of_decide_eq_false hl2;omega
      have e2:(wR p r).take y++r.drop y=wR p r:=by rw [hy',List.drop_of_length_le (Nat.le_refl _),List.append_nil,List.take_of_length_le (by omega)]
      rw [←tW,e2,List.append_assoc]
      rfl
  · have hx':x=D.length:=by omega
    have eW:(wAll p D).take x++D.drop x=wAll p D:=by rw [hx',List.drop_of_length_le (Nat.le_refl _),List.append_nil,List.take_of_length_le (by omega)]
    simp only [eW]
    obtain ⟨r1,r2⟩:=d2 0 (by omega)
    have l1:=r2 0 (by omega)
    have hW:(wAll p D).getD 0 []=wR p (D.getD 0 []):=getD_map _ _ [] _ 0 (by omega)
    have hR:(wR p (D.getD 0 [])).getD 0 []=wP p ((D.getD 0 []).getD 0 []):=getD_map _ _ [] _ 0 (by omega)
    have lR:(wR p (D.getD 0 [])).length=(D.getD 0 []).length:=List.length_map _
    have lP:(wP p ((D.getD 0 []).getD 0 [])).length=((D.getD 0 []).getD 0 []).length:=List.length_map _
    refine ⟨fun v=>?_,fun v=>?_⟩
    · rw [if_pos v,hW,hR]
      exact ⟨by omega,by omega,⟨hb,n4.1,n4.2,hc,hk.1,by omega⟩,by omega,rfl⟩
    · rw [if_neg v]
theorem DrawDyE_fits:Fits Try.prog 17 ⟨[],DrawDyE_ct⟩:=by
  refine ffn (Γ:=gam DrawDyE_G) (gok_cons l01From_fits (gok_cons l05Spoil_fits (gok_cons l14Modulus_fits (gok_cons l05Is_fits (gok_cons l01In_fits (gok_cons l14Shape_fits (gok_cons l14Constant_fits (gok_cons l01Next_fits (gok_cons l01DrawU_fits (gok_cons l01Own_fits gok_nil)))))))))) Try.func17 fun ds p h hp=>?_
  unfold DrawDyE_ct at h
  split at h
  · cases h
    exact ⟨DrawDyE_wr,DrawDyE_ann _ ,by rw [DrawDyE_vc];exact DrawDyE_ok _  hp⟩
  · cases h
end Go.Sx
