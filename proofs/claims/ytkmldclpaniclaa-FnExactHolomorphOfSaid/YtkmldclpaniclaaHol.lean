/- Hol -/
import Derived.Test.YtkmldclpaniclaaGrpA
import Derived.Test.YtkmldclpaniclaaMpgA
import Derived.Test.YtkmldclpaniclaaGrpC
open Go Go.Proofs
namespace Go.Sx
set_option linter.unusedSimpArgs false
set_option linter.unusedVariables false
def hoP (t A:List (List Int)) (a i:Nat):List (List Int):=((List.range a).flatMap fun x=>A.map fun f=>thL f (t.getD x []))++(A.take i).map fun f=>thL f (t.getD a [])
theorem hoP_step {t A:List (List Int)} {a i:Nat} (hi:i<A.length):hoP t A a (i+1)=hoP t A a i++[thL (A.getD i []) (t.getD a [])]:=by
 rw [hoP,hoP,List.append_assoc,←take_snoc A [] i hi,List.map_append];rfl
theorem hoP_row {t A:List (List Int)} {a:Nat}:hoP t A a A.length=hoP t A (a+1) 0:=by
 rw [hoP,hoP,List.take_length,List.take_zero,List.map_nil,List.append_nil,List.range_succ,List.flatMap_append];simp
section
variable {n:Nat} {t:List (List Int)}
theorem au_iso (G:GrpT n t) (hn:n≤7) {p:List Int} (h:p∈auF t):isoL n [t] [t] p:=by
 rw [←isoS_auF G hn] at h
 have e:nT0 [t]=n:=G.tb.1
 have:=(((isoS_ok (isoPre1 G hn)).1 p).1 h).2
 rwa [e] at this
theorem au_len (G:GrpT n t) (hn:n≤7):(auF t).length≤49:=by rw [←isoS_auF G hn];exact isoS_len G hn
theorem au_nodup (G:GrpT n t) (hn:n≤7):(auF t).Nodup:=by
 rw [←isoS_auF G hn];exact srtK_nodup (isoS_ok (isoPre1 G hn)).2
theorem ho_inj (G:GrpT n t) {f g:List Int} (hf:isoL n [t] [t] f) (hg:isoL n [t] [t] g) {x y:Nat} (hx:x<n) (hy:y<n) (e:thL f (t.getD x [])=thL g (t.getD y [])):x=y∧f=g:=by
 have get:∀z,z<n→gM t x (ap f z)=gM t y (ap g z):=fun z hz=>by
  have:(thL f (t.getD x [])).getD z 0=(thL g (t.getD y [])).getD z 0:=congrArg (fun l:List Int=>l.getD z 0) e
  rw [thL_get (by rw [hf.len];exact hz),thL_get (by rw [hg.len];exact hz)] at this
  exact congrArg Int.toNat this
 have e0:x=y:=by
  have:=get 0 G.pos
  rw [ap_zero G hf,ap_zero G hg,G.z2 x hx,G.z2 y hy] at this
  exact this
 refine ⟨e0,?_⟩
 subst e0
 refine list_ext (by rw [hf.len,hg.len]) fun i hi=>?_
 rw [hf.len] at hi
 have:=G.can x (ap f i) (ap g i) hx (ap_lt hf hi) (ap_lt hg hi) (get i hi)
 have h1:=hf.rng i hi
 have h2:=hg.rng i hi
 simp only [ap] at this
 omega
theorem hoP_mem {A:List (List Int)} {a i:Nat} {m:List Int} (h:m∈hoP t A a i):∃x f,(x<a∨x=a∧0<i)∧f∈A∧m=thL f (t.getD x []):=by
 rw [hoP,List.mem_append] at h
 rcases h with h | h
 ·obtain ⟨x,hx,h⟩:=List.mem_flatMap.1 h
  obtain ⟨f,hf,rfl⟩:=List.mem_map.1 h
  exact ⟨x,f,.inl (by simpa using hx),hf,rfl⟩
 ·obtain ⟨f,hf,rfl⟩:=List.mem_map.1 h
  refine ⟨a,f,.inr ⟨rfl,?_⟩,List.mem_of_mem_take hf,rfl⟩
  cases i with
  | zero=>simp at hf
  | succ i=>omega
theorem hoP_nodup (G:GrpT n t) (hn:n≤7) {a i:Nat} (h:a<n∨a≤n∧i=0):(hoP t (auF t) a i).Nodup:=by
 have mapN:∀(B:List (List Int)) (x:Nat),x<n→B.Nodup→(∀f∈B,f∈auF t)→(B.map fun f=>thL f (t.getD x [])).Nodup:=fun B x hx hB hs =>
  List.pairwise_map.2 (List.Pairwise.imp_of_mem (fun {f g} hf hg hne e=>hne (ho_inj G (au_iso G hn (hs f hf)) (au_iso G hn (hs g hg)) hx hx e).2) hB)
 rw [hoP,List.nodup_append]
 refine ⟨?_,?_,fun m hm m' hm' e=>?_⟩
 ·refine List.pairwise_flatMap.2 ⟨fun x hx=>mapN _ x (by simp at hx;omega) (au_nodup G hn) fun f hf=>hf,List.Pairwise.imp_of_mem (fun {x y} hx hy hne m hm m' hm' e=>?_) List.nodup_range⟩
  obtain ⟨f,hf,rfl⟩:=List.mem_map.1 hm
  obtain ⟨g,hg,rfl⟩:=List.mem_map.1 hm'
  exact hne (ho_inj G (au_iso G hn hf) (au_iso G hn hg) (by simp at hx;omega) (by simp at hy;omega) e).1
 ·rcases h with h | ⟨_,rfl⟩
  ·exact mapN _ a h ((List.take_sublist _ _).nodup (au_nodup G hn)) fun f hf=>List.mem_of_mem_take hf
  ·simp
 ·obtain ⟨x,hx,hm⟩:=List.mem_flatMap.1 hm
  obtain ⟨f,hf,rfl⟩:=List.mem_map.1 hm
  obtain ⟨g,hg,rfl⟩:=List.mem_map.1 hm'
  have hx:x<a:=by simpa using hx
  have ha:a<n:=by
   rcases h with h | ⟨_,rfl⟩
   ·exact h
   ·simp at hg
  have:=(ho_inj G (au_iso G hn hf) (au_iso G hn (List.mem_of_mem_take hg)) (by omega) ha e).1
  omega
theorem flat_len {α β:Type} (F:α→List β) (k:Nat):∀l:List α,(∀x∈l,(F x).length≤k)→(l.flatMap F).length≤l.length * k
 | [],_=>by simp
 | x::l,h=>by
  have:=flat_len F k l fun y hy=>h y (List.mem_cons_of_mem _ hy)
  have h0:=h x List.mem_cons_self
  simp only [List.flatMap_cons,List.length_append,List.length_cons,Nat.add_mul]
  omega
theorem hoP_len (G:GrpT n t) (hn:n≤7) {a i:Nat} (h:a≤n):(hoP t (auF t) a i).length≤400:=by
 have:=au_len G hn
 rw [hoP,List.length_append]
 have h1:=flat_len (fun x=>(auF t).map fun f=>thL f (t.getD x [])) 49 (List.range a) (fun x _=>by simpa using this)
 have h2:((auF t).take i).length≤49:=by rw [List.length_take];omega
 have h3:(List.range a).length * 49≤7 * 49:=Nat.mul_le_mul_right 49 (by simp;omega)
 simp only [List.length_map]
 omega
end
def insP (K:List (List Int)) (m:List Int):List (List Int):=K.take (posK K m)++m::K.drop (posK K m)
def insA (L:List (List Int)):List (List Int):=L.foldl insP []
theorem insA_snoc (L:List (List Int)) (m:List Int):insA (L++[m])=insP (insA L) m:=by simp [insA]
theorem insP_len (K:List (List Int)) (m:List Int):(insP K m).length=K.length+1:=by
 have:=posK_le K m
 simp only [insP,List.length_append,List.length_take,List.length_cons,List.length_drop];omega
theorem insP_eq {K:List (List Int)} {m:List Int} (h:¬ m∈K):insP K m=insK K m:=by
 rw [insK,if_neg,insP]
 rintro ⟨h1,h2⟩
 exact h (h2 ▸ getD_mem K [] _ h1)
theorem insA_ok:∀(n:Nat) (L:List (List Int)),L.length=n→L.Nodup→srtK (insA L)∧(∀x,x∈insA L↔x∈L)∧(insA L).length=L.length
 | 0,L,h,_=>by
  have:L=[]:=List.eq_nil_of_length_eq_zero h
  subst this
  exact ⟨List.Pairwise.nil,fun x=>Iff.rfl,rfl⟩
 | n+1,L,h,hnd=>by
  have e:L=L.dropLast++[L.getLast (by intro h0;simp [h0] at h)]:=(List.dropLast_concat_getLast _).symm
  generalize L.getLast _=m at e
  generalize L.dropLast=M at e
  subst e
  rw [List.nodup_append] at hnd
  obtain ⟨h1,h2,h3⟩:=insA_ok n M (by simpa using h) hnd.1
  have hm:¬ m∈insA M:=fun hm=>hnd.2.2 m ((h2 m).1 hm) m (by simp) rfl
  rw [insA_snoc]
  refine ⟨by rw [insP_eq hm];exact insK_srt _ _ h1,fun x=>?_,by rw [insP_len,h3];simp⟩
  rw [insP_eq hm,insK_mem,h2]
  simp [or_comm]
def l03Search_p (K:List (List Int)) (m:List Int):Post:=⟨K.length≤1000000000∧(∀x∈K,room x.length)∧srtK K,.c (.int .i64 ((posK K m:Int))),[]⟩
def l03Search_ct:List AD→Option Post
 | [.c (.rows .i64 (K)),.c (.ints .i64 (m))]=>some (l03Search_p K m)
 | _=>none
def l03Search_ann (K:List (List Int)) (m:List Int):Nat→Option Ann
 | 0=>some (Ann.mk ((Nat)×(Nat)) (fun x=>match x with | (lo,hi)=>⟨[(0,.c (.ro (.rows .i64 (K)))),(1,.c (.ro (.ints .i64 (m)))),(5,.c (.int .i64 ((lo:Int)))),(6,.c (.int .i64 ((hi:Int))))],[]⟩) (fun x=>match x with | (lo,hi)=>lo≤hi∧hi≤K.length∧(∀j,j<lo→lexB (K.getD j []) m=true)∧(∀j,hi≤j→j<K.length→lexB (K.getD j []) m=false)) (fun x=>match x with | (lo,hi)=>hi - lo) (fun _=>noAnn))
 | _=>none
def l03Search_G:List (Nat×Ctr):=[(42,⟨[],l01Less_ct⟩)]
def l03Search_V (K:List (List Int)) (m:List Int):Prop :=
 ((∃x0:Nat×Nat,(((x0.1≤x0.2)∧((x0.2≤K.length)∧((∀(j:Nat),j<x0.1→lexB (K.getD j []) m=true)∧(∀(j:Nat),x0.2≤j→j<K.length→lexB (K.getD j []) m=false))))∧((K=K)∧((m=m)∧(((0:Int)=(↑x0.1:Int))∧((↑(K.length):Int)=(↑x0.2:Int)))))))∧(∀x1:Nat×Nat,(((x1.1≤x1.2)∧((x1.2≤K.length)∧((∀(j:Nat),j<x1.1→lexB (K.getD j []) m=true)∧(∀(j:Nat),x1.2≤j→j<K.length→lexB (K.getD j []) m=false))))→(BrP (decide ((↑x1.1:Int)<(↑x1.2:Int))) ((InR ((↑x1.1:Int)+(↑x1.2:Int)))∧((((2:Int)≠(0:Int))∧(InR (Int.tdiv ((↑x1.1:Int)+(↑x1.2:Int)) (2:Int))))∧((inB (Int.tdiv ((↑x1.1:Int)+(↑x1.2:Int)) (2:Int)) (K.length))∧(((room ((K.getD ((Int.tdiv ((↑x1.1:Int)+(↑x1.2:Int)) (2:Int)).toNat) []).length))∧True)∧(BrP (lexB (K.getD ((Int.tdiv ((↑x1.1:Int)+(↑x1.2:Int)) (2:Int)).toNat) []) m) ((InR (Int.tdiv ((↑x1.1:Int)+(↑x1.2:Int)) (2:Int)+(1:Int)))∧(∃x2:Nat×Nat,(((x2.1≤x2.2)∧((x2.2≤K.length)∧((∀(j:Nat),j<x2.1→lexB (K.getD j []) m=true)∧(∀(j:Nat),x2.2≤j→j<K.length→lexB (K.getD j []) m=false))))∧((x2.2 - x2.1<x1.2 - x1.1)∧((K=K)∧((m=m)∧((Int.tdiv ((↑x1.1:Int)+(↑x1.2:Int)) (2:Int)+(1:Int)=(↑x2.1:Int))∧((↑x1.2:Int)=(↑x2.2:Int))))))))) (∃x3:Nat×Nat,(((x3.1≤x3.2)∧((x3.2≤K.length)∧((∀(j:Nat),j<x3.1→lexB (K.getD j []) m=true)∧(∀(j:Nat),x3.2≤j→j<K.length→lexB (K.getD j []) m=false))))∧((x3.2 - x3.1<x1.2 - x1.1)∧((K=K)∧((m=m)∧(((↑x1.1:Int)=(↑x3.1:Int)) ∧
 (Int.tdiv ((↑x1.1:Int)+(↑x1.2:Int)) (2:Int)=(↑x3.2:Int))))))))))))) (((↑x1.1:Int)=(↑(posK K m):Int))∧True)))))
theorem l03Search_vc (K:List (List Int)) (m:List Int):runF Try.prog (gam l03Search_G) noWr (l03Search_ann K m) Try.f23 (bodyOf Try.f23) [] [.c (.rows .i64 (K)),.c (.ints .i64 (m))] (l03Search_p K m)=l03Search_V K m:=by kernel_rfl
theorem l03Search_ok (K:List (List Int)) (m:List Int) (hpre:(l03Search_p K m).pre):l03Search_V K m:=by
 simp only [l03Search_p,l03Search_V,BrP_iff,u1,u2,u3,u4,u5,u6,u7,u8,u9,v1,v2,v3,v4,v5,v6,v7,v8,v9,w1,w2,w3,w4,markL_length,inB,InR,room,bdsOk] at hpre ⊢
 obtain ⟨h1,h2,h3⟩:=hpre
 have lt:∀i j,i<j→j<K.length→lexB (K.getD i []) (K.getD j [])=true:=fun i j hij hj=>by
  rw [getD_lt _ _ _ hj,getD_lt _ _ _ (show i<K.length by omega)]
  exact List.pairwise_iff_getElem.1 h3 i j (by omega) hj hij
 refine ⟨⟨(0,K.length),⟨Nat.zero_le _,Nat.le_refl _,fun j hj=>by omega,fun j hj hk=>by omega⟩,rfl,rfl⟩,fun ⟨lo,hi⟩ ⟨a1,a2,a3,a4⟩=>?_⟩
 simp only at a1 a2 a3 a4 ⊢
 have e:((lo:Int)+(hi:Int)).tdiv 2=(((lo+hi) / 2:Nat):Int):=by rw [Int.tdiv_eq_ediv_of_nonneg (by omega)];omega
 rw [e]
 have em:(((lo+hi) / 2:Nat):Int).toNat=(lo+hi) / 2:=rfl
 rw [em]
 generalize hmid:(lo+hi) / 2=mid
 refine ⟨fun hlt=>⟨by omega,⟨by omega,by omega,by omega⟩,by omega,h2 _ (getD_mem K [] mid (by omega)),fun ht=>⟨by omega,(mid+1,hi),⟨by omega,a2,fun j hj=>?_,a4⟩,by simp only;omega,by simp only;omega,rfl⟩,fun hf=>⟨(lo,mid),⟨by omega,by omega,a3,fun j hj hk=>?_⟩,by simp only;omega,rfl,rfl⟩⟩,fun hge=>?_⟩
 ·by_cases ej:j=mid
  ·rw [ej];exact ht
  ·exact lexB_tr _ _ _ (lt j mid (by omega) (by omega)) ht
 ·by_cases ej:j=mid
  ·rw [ej];exact hf
  ·cases q:lexB (K.getD j []) m with
   | false=>rfl
   | true =>
    have:=lexB_tr _ _ _ (lt mid j (by omega) hk) q
    rw [hf] at this;cases this
 ·have:posK K m=lo:=posK_from K m lo a3 (by omega) fun h=>a4 lo (by omega) h
  rw [this]
theorem l03Search_fits:Fits Try.prog 23 ⟨[],l03Search_ct⟩:=by
 refine ffn (Γ:=gam l03Search_G) (gok_cons l01Less_fits gok_nil) Try.func23 fun ds p h hp=>?_
 unfold l03Search_ct at h
 split at h
 ·cases h
  exact ⟨noWr,l03Search_ann _ _ ,by rw [l03Search_vc];exact l03Search_ok _ _  hp⟩
 ·cases h
def sHol_p (t:List (List Int)):Post:=⟨roomR t,.tup [.inl (.ro (.rows .i64 ((if grpB t=true then if t.length≤7 then insA (hoP t (auF t) t.length 0) else [] else [])))),.inl (.int .i64 ((if grpB t=true then if t.length≤7 then 0 else 3 else 1)))],[]⟩
def sHol_ct:List AD→Option Post
 | [.agg [.rows .i64 (t)]]=>some (sHol_p t)
 | _=>none
def sHol_ann (t:List (List Int)):Nat→Option Ann
 | 1=>some (Ann.mk ((Nat)) (fun a=>⟨[(1,.c (.ptr 600 0)),(4,.c (.ro (.rows .i64 ((auF t))))),(5,.c (.ro (.rows .i64 ((insA (hoP t (auF t) a 0)))))),(6,.c (.int .i64 ((a:Int))))],[(600,some (.box [.ro (.rows .i64 (t))]))]⟩) (fun a=>a≤t.length∧grpB t=true∧t.length≤7) (fun a=>t.length - a) (fun a=>fun b_=>match b_ with | 3=>some (Ann.mk ((Nat)) (fun i=>⟨[(1,.c (.ptr 600 0)),(4,.c (.ro (.rows .i64 ((auF t))))),(5,.c (.ro (.rows .i64 ((insA (hoP t (auF t) a i)))))),(6,.c (.int .i64 ((a:Int)))),(7,.c (.int .i64 ((i:Int))))],[(600,some (.box [.ro (.rows .i64 (t))]))]⟩) (fun i=>i≤(auF t).length∧a<t.length) (fun i=>(auF t).length - i) (fun _=>noAnn)) | _=>none))
 | _=>none
def sHol_G:List (Nat×Ctr):=[(20,⟨[],l10Is_ct⟩),(21,⟨[],l10Automorphisms_ct⟩),(22,⟨[],l01ThenG_ct⟩),(23,⟨[],l03Search_ct⟩)]
def sHol_c1 (t:List (List Int)) (x0:Nat) (x1:Nat):=(Option.some (↑(posK (insA (hoP t (auF t) x0 x1)) (thL ((auF t).getD ((↑x1:Int).toNat) []) (t.getD ((↑x0:Int).toNat) []))):Int))
def sHol_V (t:List (List Int)):Prop :=
 (((roomR t)∧True)∧(BrP (!grpB t) (((FC.len (FC.rows IntKind.i64 (if grpB t=true then if t.length≤(7:Nat) then insA (hoP t (auF t) (t.length) (0:Nat)) else ([]:List (List Int)) else ([]:List (List Int))))=(0:Nat))∧(((1:Int)=if grpB t=true then if t.length≤(7:Nat) then (0:Int) else (3:Int) else (1:Int))∧True))∧True) (BrP (decide ((7:Int)<(↑(t.length):Int))) (((FC.len (FC.rows IntKind.i64 (if grpB t=true then if t.length≤(7:Nat) then insA (hoP t (auF t) (t.length) (0:Nat)) else ([]:List (List Int)) else ([]:List (List Int))))=(0:Nat))∧(((3:Int)=if grpB t=true then if t.length≤(7:Nat) then (0:Int) else (3:Int) else (1:Int))∧True))∧True) (((tabB t=true)∧True)∧((∃x0:Nat,(((x0≤t.length)∧((grpB t=true)∧(t.length≤(7:Nat))))∧((auF t=auF t)∧((([]:List (List Int))=insA (hoP t (auF t) x0 (0:Nat)))∧(((0:Int)=(↑x0:Int))∧(t=t))))))∧(∀x1:Nat,(((x1≤t.length)∧((grpB t=true)∧(t.length≤(7:Nat))))→(BrP (decide ((↑x1:Int)<(↑(t.length):Int))) ((∃x2:Nat,(((x2≤(auF t).length)∧(x1<t.length))∧((auF t=auF t)∧((insA (hoP t (auF t) x1 (0:Nat))=insA (hoP t (auF t) x1 x2))∧(((↑x1:Int)=(↑x1:Int))∧(((0:Int)=(↑x2:Int))∧(t=t)))))))∧(∀x3:Nat,(((x3≤(auF t).length)∧(x1<t.length))→(BrP (decide ((↑x3:Int)<(↑((auF t).length):Int))) ((inB (↑x3:Int) ((auF t).length))∧((inB (↑x1:Int) (t.length))∧((((room (((auF t).getD ((↑x3:Int).toNat) []).length)) ∧
 (inQ ((t.getD ((↑x1:Int).toNat) []).length) ((auF t).getD ((↑x3:Int).toNat) [])))∧True)∧(((((insA (hoP t (auF t) x1 x3)).length≤(1000000000:Nat))∧((∀(x:List Int),x∈insA (hoP t (auF t) x1 x3)→room (x.length))∧(srtK (insA (hoP t (auF t) x1 x3)))))∧True)∧((bdsOk ((insA (hoP t (auF t) x1 x3)).length) (sHol_c1 t x1 x3) Option.none)∧((room ((thL ((auF t).getD ((↑x3:Int).toNat) []) (t.getD ((↑x1:Int).toNat) [])::([]:List (List Int))).length+FC.len (FC.rows IntKind.i64 (cutL (insA (hoP t (auF t) x1 x3)) (sHol_c1 t x1 x3) Option.none))))∧((bdsOk ((insA (hoP t (auF t) x1 x3)).length) Option.none (sHol_c1 t x1 x3))∧((room (([]:List (List Int)).length+FC.len (FC.rows IntKind.i64 (cutL (insA (hoP t (auF t) x1 x3)) Option.none (sHol_c1 t x1 x3)))))∧((room (FC.len (FC.rows IntKind.i64 (([]:List (List Int))++cutL (insA (hoP t (auF t) x1 x3)) Option.none (sHol_c1 t x1 x3)))+FC.len (FC.rows IntKind.i64 (thL ((auF t).getD ((↑x3:Int).toNat) []) (t.getD ((↑x1:Int).toNat) [])::([]:List (List Int))++cutL (insA (hoP t (auF t) x1 x3)) (sHol_c1 t x1 x3) Option.none))))∧((InR ((↑x3:Int)+(1:Int)))∧(∃x4:Nat,(((x4≤(auF t).length)∧(x1<t.length))∧(((auF t).length - x4<(auF t).length - x3)∧((auF t=auF t) ∧
 ((([]:List (List Int))++cutL (insA (hoP t (auF t) x1 x3)) Option.none (sHol_c1 t x1 x3)++(thL ((auF t).getD ((↑x3:Int).toNat) []) (t.getD ((↑x1:Int).toNat) [])::([]:List (List Int))++cutL (insA (hoP t (auF t) x1 x3)) (sHol_c1 t x1 x3) Option.none)=insA (hoP t (auF t) x1 x4))∧(((↑x1:Int)=(↑x1:Int))∧(((↑x3:Int)+(1:Int)=(↑x4:Int))∧(t=t)))))))))))))))))) ((InR ((↑x1:Int)+(1:Int)))∧(∃x5:Nat,(((x5≤t.length)∧((grpB t=true)∧(t.length≤(7:Nat))))∧((t.length - x5<t.length - x1)∧((auF t=auF t)∧((insA (hoP t (auF t) x1 x3)=insA (hoP t (auF t) x5 (0:Nat)))∧(((↑x1:Int)+(1:Int)=(↑x5:Int))∧(t=t)))))))))))) (((insA (hoP t (auF t) x1 (0:Nat))=if grpB t=true then if t.length≤(7:Nat) then insA (hoP t (auF t) (t.length) (0:Nat)) else ([]:List (List Int)) else ([]:List (List Int)))∧(((0:Int)=if grpB t=true then if t.length≤(7:Nat) then (0:Int) else (3:Int) else (1:Int))∧True))∧True)))))))))
theorem sHol_vc (t:List (List Int)):runF Try.prog (gam sHol_G) noWr (sHol_ann t) Try.f6 (bodyOf Try.f6) [] [.agg [.rows .i64 (t)]] (sHol_p t)=sHol_V t:=by kernel_rfl
theorem sHol_ok (t:List (List Int)) (hpre:(sHol_p t).pre):sHol_V t:=by
 simp only [sHol_p,sHol_V,sHol_c1,BrP_iff,u1,u2,u3,u4,u5,u6,u7,u8,u9,v1,v2,v3,v4,v5,v6,v7,v8,v9,w1,w2,w3,w4,markL_length,inB,InR,room,bdsOk] at hpre ⊢
 simp only [FC.len,cutL,Int.toNat_natCast]
 refine ⟨hpre,fun h=>⟨by rw [if_neg (by rw [h];simp)];rfl,by rw [if_neg (by rw [h];simp)]⟩,fun h=>⟨fun h7=>⟨by rw [if_pos h,if_neg (by omega)];rfl,by rw [if_pos h,if_neg (by omega)]⟩,fun h7=>⟨grp_tab h,⟨0,⟨by omega,h,by omega⟩,rfl,rfl⟩,fun a ⟨ha,_,hn⟩=>⟨fun hlt=>⟨⟨0,⟨by omega,by omega⟩,rfl,rfl⟩,fun i ⟨hi,hal⟩=>⟨fun hil=>?_,fun hil=>?_⟩⟩,fun hge=>?_⟩⟩⟩⟩
 ·have G:=grpT_of h
  have hil:i<(auF t).length:=by omega
  have hf:=au_iso G hn (getD_mem (auF t) [] i hil)
  have hN:=hoP_nodup G hn (a:=a) (i:=i) (.inl hal)
  have hL:=hoP_len G hn (a:=a) (i:=i) ha
  obtain ⟨s1,s2,s3⟩:=insA_ok _ _ rfl hN
  have hrow:(t.getD a []).length=t.length:=(G.tb.2 a hal).1
  have hA:=au_len G hn
  have hp:=posK_le (insA (hoP t (auF t) a i)) (thL ((auF t).getD i []) (t.getD a []))
  refine ⟨by omega,by omega,⟨by rw [hf.len];omega,fun k hk=>by rw [hrow];exact hf.rng k (by rw [←hf.len];exact hk)⟩,⟨by omega,fun x hx=>?_,s1⟩,by omega,by simp only [List.length_drop];omega,by omega,by simp only [List.length_take];omega,by simp only [List.length_take,List.length_drop,List.length_append,List.length_nil,List.length_singleton];omega,by omega,i+1,⟨by omega,hal⟩,by omega,?_,by omega⟩
  ·obtain ⟨y,f,_,hfm,rfl⟩:=hoP_mem ((s2 x).1 hx)
   rw [thL_length,(au_iso G hn hfm).len];omega
  ·rw [hoP_step hil,insA_snoc,insP];simp
 ·have e:i=(auF t).length:=by omega
  subst e
  exact ⟨by omega,a+1,⟨by omega,h,hn⟩,by omega,by rw [hoP_row],by omega⟩
 ·have e:a=t.length:=by omega
  subst e
  rw [if_pos h,if_pos hn,if_pos h,if_pos hn]
  exact ⟨rfl,rfl⟩
theorem sHol_fits:Fits Try.prog 6 ⟨[],sHol_ct⟩:=by
 refine ffn (Γ:=gam sHol_G) (gok_cons l10Is_fits (gok_cons l10Automorphisms_fits (gok_cons l01ThenG_fits (gok_cons l03Search_fits gok_nil)))) Try.func6 fun ds p h hp=>?_
 unfold sHol_ct at h
 split at h
 ·cases h
  exact ⟨noWr,sHol_ann _ ,by rw [sHol_vc];exact sHol_ok _  hp⟩
 ·cases h
end Go.Sx
