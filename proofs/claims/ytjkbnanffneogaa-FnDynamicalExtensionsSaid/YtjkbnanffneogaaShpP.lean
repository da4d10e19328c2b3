/- ShpP -/
import Derived.Test.YtjkbnanffneogaaDrawD
import Derived.Test.YtjkbnanffneogaaOrbP
import Derived.Test.YtjkbnanffneogaaRackC
import Derived.Test.YtjkbnanffneogaaCyc
open Go Go.Proofs
namespace Go.Sx
set_option linter.unusedSimpArgs false
set_option linter.unusedVariables false
theorem drL_in {code:List Int} (hb:bytesB code) {m:Int} (hm:1≤m):∀(j:Nat) (s:List Int×Int×Int),(∀x∈s.1,0≤x∧x≤m - 1)→∀x∈(lsS code m j s).1,0≤x∧x≤m - 1
  | 0,s,h=>h
  | j+1,s,h=>by
    have v:=nxV_in hb s.2.1 s.2.2 hm
    refine drL_in hb hm j (s.1++[nxV code s.2.1 s.2.2 m],nxA code.length s.2.1 m,nxH s.2.2 m) fun x hx=>?_
    rcases List.mem_append.1 hx with hx | hx
    · exact h x hx
    · rw [List.mem_singleton.1 hx];exact v
theorem drL_len {code:List Int} {m:Int}:∀(j:Nat) (s:List Int×Int×Int),0≤s.2.1→s.2.1≤(code.length:Int)→(lsS code m j s).1.length=s.1.length+j∧0≤(lsS code m j s).2.1∧(lsS code m j s).2.1≤(code.length:Int)
  | 0,s,h0,h1=>⟨rfl,h0,h1⟩
  | j+1,s,h0,h1=>by
    have a:=nxA_in (n:=m) h0 h1
    have:=drL_len (code:=code) (m:=m) j (s.1++[nxV code s.2.1 s.2.2 m],nxA code.length s.2.1 m,nxH s.2.2 m) a.1 a.2
    rw [List.length_append] at this
    refine ⟨?_,this.2⟩
    have e:=this.1
    show (lsS code m j _).1.length=_
    rw [e];show s.1.length+1+j=_;omega
def l14DrawList_p (code:List Int) (a:Int) (h:Int) (n:Int) (m:Int):Post:=⟨bytesB code∧0≤a∧a≤(code.length:Int)∧code.length≤4096∧n≤1000000∧-1000000≤n,.c (.ints 2 .i64 ((lsS code m n.toNat ([],a,h)).1)),[.bx [.ints .u8 (code),.int .i64 ((lsS code m n.toNat ([],a,h)).2.1),.int .u64 ((lsS code m n.toNat ([],a,h)).2.2)]]⟩
def l14DrawList_ct:List AD→Option Post
  | [.box [.ints .u8 (code),.int .i64 (a),.int .u64 (h)],.c (.int .i64 (n)),.c (.int .i64 (m))]=>some (l14DrawList_p code a h n m)
  | _=>none
def l14DrawList_ann (code:List Int) (a:Int) (h:Int) (n:Int) (m:Int):Nat→Option Ann
  | 0=>some (Ann.mk ((Nat)×(List Int)×(Int)×(Int)) (fun x=>match x with | (j,l,b,g)=>⟨[(0,.c (.ptr 700 0)),(1,.c (.int .i64 (n - (n.toNat - j:Nat)))),(2,.c (.int .i64 (m))),(7,.c (.own (8)))],[(700,some (.box [.orig 700 0 (.ints .u8 (code)),.int .i64 (b),.int .u64 (g)])),(8,some (.ints 2 .i64 (l)))]⟩) (fun x=>match x with | (j,l,b,g)=>j≤n.toNat∧l.length=n.toNat - j∧0≤b∧b≤(code.length:Int)∧lsS code m n.toNat ([],a,h)=lsS code m j (l,b,g)) (fun x=>match x with | (j,l,b,g)=>j) (fun _=>noAnn))
  | _=>none
def l14DrawList_G:List (Nat×Ctr):=[(57,⟨[(0,0)],l01Next_ct⟩)]
def l14DrawList_V (code:List Int) (a:Int) (h:Int) (n:Int) (m:Int):Prop :=
 ((∃x0:Nat×List Int×Int×Int,(((x0.1≤n.toNat)∧(((x0.2.1).length=n.toNat - x0.1)∧(((0:Int)≤x0.2.2.1)∧((x0.2.2.1≤(↑(code.length):Int))∧(lsS code m (n.toNat) ([],a,h)=lsS code m (x0.1) (x0.2.1,x0.2.2.1,x0.2.2.2))))))∧((n=n - (↑(n.toNat - x0.1):Int))∧((m=m)∧((code=code)∧((a=x0.2.2.1)∧((h=x0.2.2.2)∧([]=x0.2.1))))))))∧(∀x1:Nat×List Int×Int×Int,(((x1.1≤n.toNat)∧(((x1.2.1).length=n.toNat - x1.1)∧(((0:Int)≤x1.2.2.1)∧((x1.2.2.1≤(↑(code.length):Int))∧(lsS code m (n.toNat) ([],a,h)=lsS code m (x1.1) (x1.2.1,x1.2.2.1,x1.2.2.2))))))→(BrP (decide ((0:Int)<n - (↑(n.toNat - x1.1):Int))) ((((bytesB code)∧(((0:Int)≤x1.2.2.1)∧(x1.2.2.1≤(1099511627776:Int))))∧((code=code)∧True))∧((room (x1.2.1.length+[nxV code x1.2.2.1 x1.2.2.2 m].length))∧((InR (n - (↑(n.toNat - x1.1):Int) - (1:Int)))∧(∃x2:Nat×List Int×Int×Int,(((x2.1≤n.toNat)∧(((x2.2.1).length=n.toNat - x2.1)∧(((0:Int)≤x2.2.2.1)∧((x2.2.2.1≤(↑(code.length):Int))∧(lsS code m (n.toNat) ([],a,h)=lsS code m (x2.1) (x2.2.1,x2.2.2.1,x2.2.2.2))))))∧((x2.1<x1.1)∧((n - (↑(n.toNat - x1.1):Int) - (1:Int)=n - (↑(n.toNat - x2.1):Int))∧((m=m)∧((code=code)∧((nxA (code.length) x1.2.2.1 m=x2.2.2.1)∧((nxH x1.2.2.2 m=x2.2.2.2)∧(x1.2.1++[nxV code x1.2.2.1 x1.2.2.2 m]=x2.2.1)))))))))))) ((x1.2.1=(lsS code m (n.toNat) ([],a,h)).1)∧(((code=code)∧((x1.2.2.1=((lsS code m (n.toNat) ([],a,h)).2).1)∧((x1.2.2.2=((lsS code m (n.toNat) ([],a,h)).2).2) ∧
 True)))∧True))))))
theorem l14DrawList_vc (code:List Int) (a:Int) (h:Int) (n:Int) (m:Int):runF Try.prog (gam l14DrawList_G) noWr (l14DrawList_ann code a h n m) Try.f89 (bodyOf Try.f89) [(0,0)] [.box [.ints .u8 (code),.int .i64 (a),.int .u64 (h)],.c (.int .i64 (n)),.c (.int .i64 (m))] (l14DrawList_p code a h n m)=l14DrawList_V code a h n m:=by kernel_rfl
theorem l14DrawList_ok (code:List Int) (a:Int) (h:Int) (n:Int) (m:Int) (hpre:(l14DrawList_p code a h n m).pre):l14DrawList_V code a h n m:=by
  simp only [l14DrawList_p,l14DrawList_V,BrP_iff,u1,u2,u3,u4,u5,u6,u7,u8,u9,v1,v2,v3,v4,v5,v6,v7,v8,v9,w1,w2,w3,w4,markL_length,inB,InR,room,bdsOk] at hpre ⊢
  obtain ⟨hb,h0,h1,h2,h3,h4⟩:=hpre
  refine ⟨⟨(n.toNat,[],a,h),?_⟩,?_⟩
  · dsimp only
    exact ⟨⟨Nat.le_refl _,by simp,h0,h1,rfl⟩,by omega,rfl,rfl,rfl⟩
  rintro ⟨j,l,b,g⟩ ⟨q1,q2,q3,q4,q5⟩
  dsimp only at q1 q2 q3 q4 q5 ⊢
  have s1:=nxA_in (n:=m) q3 q4
  refine ⟨fun hl=>⟨⟨hb,q3,by omega⟩,by omega,by omega,(j - 1,l++[nxV code b g m],nxA code.length b m,nxH g m),?_⟩,fun hl=>?_⟩
  · dsimp only
    refine ⟨⟨by omega,by rw [List.length_append];show l.length+1=_;omega,s1.1,s1.2,?_⟩,by omega,by omega,rfl,rfl,rfl⟩
    rw [q5,show j=(j - 1)+1 by omega];rfl
  · rw [q5,show j=0 by omega];exact ⟨rfl,rfl,rfl⟩
theorem l14DrawList_fits:Fits Try.prog 89 ⟨[(0,0)],l14DrawList_ct⟩:=by
  refine ffn (Γ:=gam l14DrawList_G) (gok_cons l01Next_fits gok_nil) Try.func89 fun ds p h hp=>?_
  unfold l14DrawList_ct at h
  split at h
  · cases h
    exact ⟨noWr,l14DrawList_ann _ _ _ _ _ ,by rw [l14DrawList_vc];exact l14DrawList_ok _ _ _ _ _  hp⟩
  · cases h
abbrev Ds:=List (List Int)×Int×Int
def drwS (code:List Int) (m:Int) (n:Nat):Nat→Ds→Ds
  | 0,s=>s
  | j+1,s=>drwS code m n j (s.1++[(lsS code m n ([],s.2.1,s.2.2)).1],(lsS code m n ([],s.2.1,s.2.2)).2)
def shR (s:Ds):Dy:=(s.1,0,s.2)
def shW (t:List (List Int)) (m:Int) (g lb w:List Int) (x y:Nat):Int :=
  if 0<lb.length then (cbF t m g x y+w.getD (lb.getD x 0 * (t.length:Int)+lb.getD y 0).toNat 0).tmod m else cbF t m g x y
def shL (t:List (List Int)):List Int:=if t.all permB=true then (obN t t.length).1 else []
def shB (code:List Int) (t:List (List Int)) (m a h:Int):Ds :=
  let g:=lsS code m t.length ([],a,h)
  let w:=lsS code m (t.length * t.length) ([],g.2)
  (tabR t.length (shW t m g.1 (shL t) w.1),w.2)
def shE (code:List Int) (n m:Int) (s:Ds):Dy :=
  let c:=nxV code s.2.1 s.2.2 12
  let a1:=nxA code.length s.2.1 12
  let h1:=nxH s.2.2 12
  if c=0 then
    (s.1.set (nxV code a1 h1 n).toNat ((s.1.getD (nxV code a1 h1 n).toNat []).set (nxV code (nxA code.length a1 n) (nxH h1 n) n).toNat (nxV code (nxA code.length (nxA code.length a1 n) n) (nxH (nxH h1 n) n) m)),0,
      nxA code.length (nxA code.length (nxA code.length a1 n) n) m,nxH (nxH (nxH h1 n) n) m)
  else if c=1 then (s.1.set 0 ((s.1.getD 0 []).set 0 ([-1,m].getD (nxV code a1 h1 2).toNat 0)),0,nxA code.length a1 2,nxH h1 2)
  else if c=2 then (s.1,1,a1,h1) else (s.1,0,a1,h1)
theorem shE0 {code:List Int} {n m b k:Int} {F:List (List Int)} (z:nxV code b k 12=0):shE code n m (F,b,k) =
    (F.set (nxV code (nxA code.length b 12) (nxH k 12) n).toNat ((F.getD (nxV code (nxA code.length b 12) (nxH k 12) n).toNat []).set (nxV code (nxA code.length (nxA code.length b 12) n) (nxH (nxH k 12) n) n).toNat (nxV code (nxA code.length (nxA code.length (nxA code.length b 12) n) n) (nxH (nxH (nxH k 12) n) n) m)),0,
      nxA code.length (nxA code.length (nxA code.length (nxA code.length b 12) n) n) m,nxH (nxH (nxH (nxH k 12) n) n) m):=by
  unfold shE;dsimp only;rw [if_pos z]
theorem shE1 {code:List Int} {n m b k:Int} {F:List (List Int)} (z:nxV code b k 12≠0) (z1:nxV code b k 12=1):shE code n m (F,b,k) =
    (F.set 0 ((F.getD 0 []).set 0 ([-1,m].getD (nxV code (nxA code.length b 12) (nxH k 12) 2).toNat 0)),0,nxA code.length (nxA code.length b 12) 2,nxH (nxH k 12) 2):=by
  unfold shE;dsimp only;rw [if_neg z,if_pos z1]
theorem shE2 {code:List Int} {n m b k:Int} {F:List (List Int)} (z:nxV code b k 12≠0) (z1:nxV code b k 12≠1) (z2:nxV code b k 12=2):shE code n m (F,b,k)=(F,1,nxA code.length b 12,nxH k 12):=by
  unfold shE;dsimp only;rw [if_neg z,if_neg z1,if_pos z2]
theorem shE3 {code:List Int} {n m b k:Int} {F:List (List Int)} (z:nxV code b k 12≠0) (z1:nxV code b k 12≠1) (z2:nxV code b k 12≠2):shE code n m (F,b,k)=(F,0,nxA code.length b 12,nxH k 12):=by
  unfold shE;dsimp only;rw [if_neg z,if_neg z1,if_neg z2]
def shF (code:List Int) (t:List (List Int)) (m a h:Int):Dy :=
  if tabB t=true∧1≤m∧m≤12 then
    (if nxV code a h 5=0 then shR (drwS code m t.length t.length ([],nxA code.length a 5,nxH h 5)) else shE code t.length m (shB code t m (nxA code.length a 5) (nxH h 5)))
  else shR (drwS code m t.length t.length ([],a,h))
def lbOk (n:Nat) (lb:List Int):Prop:=lb=[]∨(lb.length=n∧∀q,q<n→0≤lb.getD q 0∧lb.getD q 0≤(n:Int) - 1)
theorem shL_ok {t:List (List Int)} (ht:tabB t=true):lbOk t.length (shL t):=by
  unfold shL
  split
  · obtain ⟨a1,_,_,a4,a5⟩:=obN_ok ht t.length (Nat.le_refl _)
    exact .inr ⟨a1,fun q hq=>⟨a5 q hq,(a4 q hq).2⟩⟩
  · exact .inl rfl
theorem sh_mk {n m:Int} {g:List Int} (hm:1≤m∧m≤12) (hl:(g.length:Int)=n) (hg:∀x∈g,0≤x∧x≤m - 1):shiftB n m g=true:=by
  simp only [shiftB,numsB,allW,Bool.and_eq_true,decide_eq_true_eq,List.all_eq_true]
  exact ⟨hm,hg,hl⟩
theorem mix_get (A B:List Int) (y:Nat) (hA:y≤A.length) (hB:y<B.length):(A.take y++B.drop y).getD y 0=B.getD y 0:=by
  rw [drop_cons' B 0 y hB,at_getD _ _ _ _ _ (by rw [List.length_take];omega)]
theorem mix_set (A B:List Int) (y:Nat) (hA:y<A.length) (hB:y<B.length):(A.take y++B.drop y).set y (A.getD y 0)=A.take (y+1)++B.drop (y+1):=by
  rw [drop_cons' B 0 y hB,at_set _ _ _ _ _ (by rw [List.length_take];omega),←take_snoc A 0 y hA,List.append_assoc];rfl
def l14Shape_p (code:List Int) (a:Int) (h:Int) (t:List (List Int)) (m:Int):Post:=⟨bytesB code∧code.length≤4096∧0≤a∧a≤(code.length:Int)∧t.length≤100∧roomR t∧-1000≤m∧m≤1000,.c (.cut ((shF code t m a h).2.1) ((shF code t m a h).1.length - (shF code t m a h).2.1) 41 2 .i64 ((shF code t m a h).1)),[.bx [.ints .u8 (code),.int .i64 ((shF code t m a h).2.2.1),.int .u64 ((shF code t m a h).2.2.2)]]⟩
def l14Shape_ct:List AD→Option Post
  | [.box [.ints .u8 (code),.int .i64 (a),.int .u64 (h)],.c (.rows .i64 (t)),.c (.int .i64 (m))]=>some (l14Shape_p code a h t m)
  | _=>none
def l14Shape_ann (code:List Int) (a:Int) (h:Int) (t:List (List Int)) (m:Int):Nat→Option Ann
  | 0=>some (Ann.mk ((Nat)×(List (List Int))×(Int)×(Int)) (fun x=>match x with | (i,l,b,g)=>⟨[(0,.c (.ptr 700 0)),(2,.c (.int .i64 (m))),(7,.c (.int .i64 ((t.length:Int)))),(8,.c (.own (18))),(9,.c (.int .i64 ((i:Int))))],[(700,some (.box [.orig 700 0 (.ints .u8 (code)),.int .i64 (b),.int .u64 (g)])),(18,some (.rows 0 41 2 .i64 (l)))]⟩) (fun x=>match x with | (i,l,b,g)=>i≤t.length∧l.length=i∧0≤b∧b≤(code.length:Int)∧shF code t m a h=shR (drwS code m t.length (t.length - i) (l,b,g))) (fun x=>match x with | (i,l,b,g)=>t.length - i) (fun _=>noAnn))
  | 2=>some (Ann.mk ((Nat)×(List Int)×(List Int)×(List Int)×(Int)×(Int)) (fun x=>match x with | (x,g,lb,w,b,k)=>⟨[(0,.c (.ptr 700 0)),(2,.c (.int .i64 (m))),(7,.c (.int .i64 ((t.length:Int)))),(8,.c (.own (51))),(10,.c (.own (57))),(11,.c (.own (63))),(12,.c (.int .i64 ((x:Int))))],[(700,some (.box [.orig 700 0 (.ints .u8 (code)),.int .i64 (b),.int .u64 (k)])),(51,some (.rows 0 41 2 .i64 ((tabR t.length (shW t m g lb w)).take x++(tabR t.length (cbF t m g)).drop x))),(57,some (.ints 2 .i64 (lb))),(63,some (.ints 2 .i64 (w)))]⟩) (fun x=>match x with | (x,g,lb,w,b,k)=>x≤t.length∧tabB t=true∧shiftB (t.length:Int) m g=true∧lbOk t.length lb∧shiftB ((t.length * t.length:Nat):Int) m w=true∧0≤b∧b≤(code.length:Int)∧shF code t m a h=shE code t.length m (tabR t.length (shW t m g lb w),b,k)) (fun x=>match x with | (x,g,lb,w,b,k)=>t.length - x) (fun x=>match x with | (x,g,lb,w,b,k)=>fun b_=>match b_ with | 4=>some (Ann.mk ((Nat)) (fun y=>⟨[(0,.c (.ptr 700 0)),(2,.c (.int .i64 (m))),(7,.c (.int .i64 ((t.length:Int)))),(8,.c (.own (51))),(10,.c (.own (57))),(11,.c (.own (63))),(12,.c (.int .i64 ((x:Int)))),(13,.c (.row 51 0 (Int.toNat (x:Int)))),(14,.c (.int .i64 ((y:Int))))],[(700,some (.box [.orig 700 0 (.ints .u8 (code)),.int .i64 (b),.int .u64 (k)])),(51,some (.rows 0 41 2 .i64 ((tabR t.length (shW t m g lb w)).take x++((tab t.length (shW t m g lb w x)).take y++(tab t.length (cbF t m g x)).drop y)::(tabR t.length (cbF t m g)).drop (x+1)))),(57,some (.ints 2 .i64 (lb))),(63,some (.ints 2 .i64 (w)))]⟩) (fun y=>y≤t.length∧x<t.length) (fun y=>t.length - y) (fun _=>noAnn)) | _=>none))
  | _=>none
def l14Shape_G:List (Nat×Ctr):=[(57,⟨[(0,0)],l01Next_ct⟩),(88,⟨[(0,0)],l01Pick_ct⟩),(76,⟨[],l01Table_ct⟩),(54,⟨[],l01In_ct⟩),(89,⟨[(0,0)],l14DrawList_ct⟩),(90,⟨[],l14Bound_ct⟩),(77,⟨[],l01Rows_ct⟩),(91,⟨[],l01Orbits_ct⟩)]
def l14Shape_c1 (t:List (List Int)) (m:Int) (x0:Nat×List Int×List Int×List Int×Int×Int):=(List.take x0.1 (tabR (t.length) (shW t m x0.2.1 x0.2.2.1 x0.2.2.2.1))++List.drop x0.1 (tabR (t.length) (cbF t m x0.2.1)))
def l14Shape_c2 (t:List (List Int)) (m:Int) (x0:Nat×List Int×List Int×List Int×Int×Int) (x1:Nat):=(List.take x0.1 (tabR (t.length) (shW t m x0.2.1 x0.2.2.1 x0.2.2.2.1))++(List.take x1 (tab (t.length) (shW t m x0.2.1 x0.2.2.1 x0.2.2.2.1 x0.1))++List.drop x1 (tab (t.length) (cbF t m x0.2.1 x0.1)))::List.drop (x0.1+(1:Nat)) (tabR (t.length) (cbF t m x0.2.1)))
def l14Shape_c3 (code:List Int) (t:List (List Int)) (x0:Nat×List Int×List Int×List Int×Int×Int):=(nxA (code.length) (nxA (code.length) x0.2.2.2.2.1 (12:Int)) (↑(t.length):Int))
def l14Shape_c4 (code:List Int) (t:List (List Int)) (x0:Nat×List Int×List Int×List Int×Int×Int):=(nxV code (nxA (code.length) x0.2.2.2.2.1 (12:Int)) (nxH x0.2.2.2.2.2 (12:Int)) (↑(t.length):Int))
def l14Shape_c5 (t:List (List Int)) (m:Int) (x0:Nat) (x1:Nat×List Int×List Int×List Int×Int×Int):=(List.take x0 (tab (t.length) (shW t m x1.2.1 x1.2.2.1 x1.2.2.2.1 x1.1))++List.drop x0 (tab (t.length) (cbF t m x1.2.1 x1.1)))
def l14Shape_c6 (code:List Int) (t:List (List Int)) (m:Int) (x0:Nat×List Int×List Int×List Int×Int×Int):=(List.set ((l14Shape_c1 t m x0).getD ((l14Shape_c4 code t x0).toNat) []) ((nxV code (l14Shape_c3 code t x0) (nxH (nxH x0.2.2.2.2.2 (12:Int)) (↑(t.length):Int)) (↑(t.length):Int)).toNat) (nxV code (nxA (code.length) (l14Shape_c3 code t x0) (↑(t.length):Int)) (nxH (nxH (nxH x0.2.2.2.2.2 (12:Int)) (↑(t.length):Int)) (↑(t.length):Int)) m))
def l14Shape_V1 (code:List Int) (a:Int) (h:Int) (t:List (List Int)) (m:Int):Prop :=
 ∀x0:Nat×List Int×List Int×List Int×Int×Int,(((x0.1≤t.length)∧((tabB t=true)∧((shiftB (↑(t.length):Int) m (x0.2.1)=true)∧((lbOk (t.length) (x0.2.2.1))∧((shiftB (↑(t.length * t.length):Int) m (x0.2.2.2.1)=true)∧(((0:Int)≤x0.2.2.2.2.1)∧((x0.2.2.2.2.1≤(↑(code.length):Int))∧(shF code t m a h=shE code (↑(t.length):Int) m (tabR (t.length) (shW t m (x0.2.1) (x0.2.2.1) (x0.2.2.2.1)),x0.2.2.2.2.1,x0.2.2.2.2.2)))))))))→(BrP (decide ((↑x0.1:Int)<(↑(t.length):Int))) ((inB (↑x0.1:Int) ((l14Shape_c1 t m x0).length))∧((∃x1:Nat,(((x1≤t.length)∧(x0.1<t.length))∧((m=m)∧(((↑(t.length):Int)=(↑(t.length):Int))∧(((↑x0.1:Int)=(↑x0.1:Int))∧(((↑x0.1:Int).toNat=(↑x0.1:Int).toNat)∧(((0:Int)=(↑x1:Int))∧((code=code)∧((x0.2.2.2.2.1=x0.2.2.2.2.1)∧((x0.2.2.2.2.2=x0.2.2.2.2.2)∧((List.take x0.1 (tabR (t.length) (shW t m x0.2.1 x0.2.2.1 x0.2.2.2.1))++List.drop x0.1 (tabR (t.length) (cbF t m x0.2.1))=List.take x0.1 (tabR (t.length) (shW t m x0.2.1 x0.2.2.1 x0.2.2.2.1))++(l14Shape_c5 t m x1 x0)::List.drop (x0.1+(1:Nat)) (tabR (t.length) (cbF t m x0.2.1)))∧((x0.2.2.1=x0.2.2.1)∧(x0.2.2.2.1=x0.2.2.2.1)))))))))))))∧(∀x2:Nat,(((x2≤t.length)∧(x0.1<t.length))→(BrP (decide ((↑x2:Int)<(↑(t.length):Int))) (BrP (decide ((0:Int)<(↑(x0.2.2.1.length):Int))) ((inB (↑x2:Int) (((l14Shape_c2 t m x0 x2).getD ((↑x0.1:Int).toNat) []).length))∧((inB (↑x0.1:Int) (x0.2.2.1.length)) ∧
 ((InR (x0.2.2.1.getD ((↑x0.1:Int).toNat) (0:Int) * (↑(t.length):Int)))∧((inB (↑x2:Int) (x0.2.2.1.length))∧((InR (x0.2.2.1.getD ((↑x0.1:Int).toNat) (0:Int) * (↑(t.length):Int)+x0.2.2.1.getD ((↑x2:Int).toNat) (0:Int)))∧((inB (x0.2.2.1.getD ((↑x0.1:Int).toNat) (0:Int) * (↑(t.length):Int)+x0.2.2.1.getD ((↑x2:Int).toNat) (0:Int)) (x0.2.2.2.1.length))∧((InR ((List.getD (l14Shape_c2 t m x0 x2) ((↑x0.1:Int).toNat) []).getD ((↑x2:Int).toNat) (0:Int)+x0.2.2.2.1.getD ((x0.2.2.1.getD ((↑x0.1:Int).toNat) (0:Int) * (↑(t.length):Int)+x0.2.2.1.getD ((↑x2:Int).toNat) (0:Int)).toNat) (0:Int)))∧((m≠(0:Int))∧((inB (↑x2:Int) (((l14Shape_c2 t m x0 x2).getD ((↑x0.1:Int).toNat) []).length))∧((InR ((↑x2:Int)+(1:Int)))∧(∃x3:Nat,(((x3≤t.length)∧(x0.1<t.length))∧((t.length - x3<t.length - x2)∧((m=m)∧(((↑(t.length):Int)=(↑(t.length):Int))∧(((↑x0.1:Int)=(↑x0.1:Int))∧(((↑x0.1:Int).toNat=(↑x0.1:Int).toNat)∧(((↑x2:Int)+(1:Int)=(↑x3:Int))∧((code=code)∧((x0.2.2.2.2.1=x0.2.2.2.2.1)∧((x0.2.2.2.2.2=x0.2.2.2.2.2) ∧
 ((List.set (l14Shape_c2 t m x0 x2) ((↑x0.1:Int).toNat) (List.set ((l14Shape_c2 t m x0 x2).getD ((↑x0.1:Int).toNat) []) ((↑x2:Int).toNat) (Int.tmod ((List.getD (l14Shape_c2 t m x0 x2) ((↑x0.1:Int).toNat) []).getD ((↑x2:Int).toNat) (0:Int)+x0.2.2.2.1.getD ((x0.2.2.1.getD ((↑x0.1:Int).toNat) (0:Int) * (↑(t.length):Int)+x0.2.2.1.getD ((↑x2:Int).toNat) (0:Int)).toNat) (0:Int)) m))=List.take x0.1 (tabR (t.length) (shW t m x0.2.1 x0.2.2.1 x0.2.2.2.1))++(l14Shape_c5 t m x3 x0)::List.drop (x0.1+(1:Nat)) (tabR (t.length) (cbF t m x0.2.1)))∧((x0.2.2.1=x0.2.2.1)∧(x0.2.2.2.1=x0.2.2.2.1)))))))))))))))))))))))) ((InR ((↑x2:Int)+(1:Int)))∧(∃x4:Nat,(((x4≤t.length)∧(x0.1<t.length))∧((t.length - x4<t.length - x2)∧((m=m)∧(((↑(t.length):Int)=(↑(t.length):Int))∧(((↑x0.1:Int)=(↑x0.1:Int))∧(((↑x0.1:Int).toNat=(↑x0.1:Int).toNat)∧(((↑x2:Int)+(1:Int)=(↑x4:Int))∧((code=code)∧((x0.2.2.2.2.1=x0.2.2.2.2.1)∧((x0.2.2.2.2.2=x0.2.2.2.2.2)∧((List.take x0.1 (tabR (t.length) (shW t m x0.2.1 x0.2.2.1 x0.2.2.2.1))++(l14Shape_c5 t m x2 x0)::List.drop (x0.1+(1:Nat)) (tabR (t.length) (cbF t m x0.2.1))=List.take x0.1 (tabR (t.length) (shW t m x0.2.1 x0.2.2.1 x0.2.2.2.1))++(l14Shape_c5 t m x4 x0)::List.drop (x0.1+(1:Nat)) (tabR (t.length) (cbF t m x0.2.1)))∧((x0.2.2.1=x0.2.2.1)∧(x0.2.2.2.1=x0.2.2.2.1)))))))))))))))) ((InR ((↑x0.1:Int)+(1:Int)))∧(∃x5:Nat×List Int×List Int×List Int×Int×Int,(((x5.1≤t.length)∧((tabB t=true) ∧
 ((shiftB (↑(t.length):Int) m (x5.2.1)=true)∧((lbOk (t.length) (x5.2.2.1))∧((shiftB (↑(t.length * t.length):Int) m (x5.2.2.2.1)=true)∧(((0:Int)≤x5.2.2.2.2.1)∧((x5.2.2.2.2.1≤(↑(code.length):Int))∧(shF code t m a h=shE code (↑(t.length):Int) m (tabR (t.length) (shW t m (x5.2.1) (x5.2.2.1) (x5.2.2.2.1)),x5.2.2.2.2.1,x5.2.2.2.2.2)))))))))∧((t.length - x5.1<t.length - x0.1)∧((m=m)∧(((↑(t.length):Int)=(↑(t.length):Int))∧(((↑x0.1:Int)+(1:Int)=(↑x5.1:Int))∧((code=code)∧((x0.2.2.2.2.1=x5.2.2.2.2.1)∧((x0.2.2.2.2.2=x5.2.2.2.2.2)∧((List.take x0.1 (tabR (t.length) (shW t m x0.2.1 x0.2.2.1 x0.2.2.2.1))++(l14Shape_c5 t m x2 x0)::List.drop (x0.1+(1:Nat)) (tabR (t.length) (cbF t m x0.2.1))=List.take x5.1 (tabR (t.length) (shW t m x5.2.1 x5.2.2.1 x5.2.2.2.1))++List.drop x5.1 (tabR (t.length) (cbF t m x5.2.1)))∧((x0.2.2.1=x5.2.2.1)∧(x0.2.2.2.1=x5.2.2.2.1)))))))))))))))))) ((((bytesB code)∧(((0:Int)≤x0.2.2.2.2.1)∧(x0.2.2.2.2.1≤(1099511627776:Int))))∧((code=code)∧True))∧(BrP (nxV code x0.2.2.2.2.1 x0.2.2.2.2.2 (12:Int) == (0:Int)) ((((bytesB code)∧(((0:Int)≤nxA (code.length) x0.2.2.2.2.1 (12:Int))∧(nxA (code.length) x0.2.2.2.2.1 (12:Int)≤(1099511627776:Int))))∧((code=code)∧True))∧((inB (l14Shape_c4 code t x0) ((l14Shape_c1 t m x0).length))∧((((bytesB code)∧(((0:Int)≤nxA (code.length) (nxA (code.length) x0.2.2.2.2.1 (12:Int)) (↑(t.length):Int)) ∧
 (nxA (code.length) (nxA (code.length) x0.2.2.2.2.1 (12:Int)) (↑(t.length):Int)≤(1099511627776:Int))))∧((code=code)∧True))∧((((bytesB code)∧(((0:Int)≤nxA (code.length) (l14Shape_c3 code t x0) (↑(t.length):Int))∧(nxA (code.length) (l14Shape_c3 code t x0) (↑(t.length):Int)≤(1099511627776:Int))))∧((code=code)∧True))∧((inB (nxV code (l14Shape_c3 code t x0) (nxH (nxH x0.2.2.2.2.2 (12:Int)) (↑(t.length):Int)) (↑(t.length):Int)) (((l14Shape_c1 t m x0).getD ((l14Shape_c4 code t x0).toNat) []).length))∧((((0:Nat)=((shF code t m a h).2).1)∧(((List.set (l14Shape_c1 t m x0) ((l14Shape_c4 code t x0).toNat) (l14Shape_c6 code t m x0)).length=((shF code t m a h).1).length - ((shF code t m a h).2).1)∧(List.set (l14Shape_c1 t m x0) ((l14Shape_c4 code t x0).toNat) (l14Shape_c6 code t m x0)=(shF code t m a h).1)))∧(((code=code)∧((nxA (code.length) (nxA (code.length) (l14Shape_c3 code t x0) (↑(t.length):Int)) m=(((shF code t m a h).2).2).1)∧((nxH (nxH (nxH (nxH x0.2.2.2.2.2 (12:Int)) (↑(t.length):Int)) (↑(t.length):Int)) m=(((shF code t m a h).2).2).2)∧True)))∧True))))))) (BrP (nxV code x0.2.2.2.2.1 x0.2.2.2.2.2 (12:Int) == (1:Int)) ((inB (0:Int) ((l14Shape_c1 t m x0).length))∧((((bytesB code)∧(((0:Int)≤nxA (code.length) x0.2.2.2.2.1 (12:Int))∧((nxA (code.length) x0.2.2.2.2.1 (12:Int)≤(1099511627776:Int))∧(((1:Nat)≤[(-1:Int),m].length)∧([(-1:Int),m].length≤(100:Nat))))))∧((code=code)∧True))∧((inB (0:Int) (((l14Shape_c1 t m x0).getD (0:Nat) []).length)) ∧
 ((((0:Nat)=((shF code t m a h).2).1)∧(((List.set (l14Shape_c1 t m x0) (0:Nat) (List.set ((l14Shape_c1 t m x0).getD (0:Nat) []) (0:Nat) ([(-1:Int),m].getD ((nxV code (nxA (code.length) x0.2.2.2.2.1 (12:Int)) (nxH x0.2.2.2.2.2 (12:Int)) (↑([(-1:Int),m].length):Int)).toNat) (0:Int)))).length=((shF code t m a h).1).length - ((shF code t m a h).2).1)∧(List.set (l14Shape_c1 t m x0) (0:Nat) (List.set ((l14Shape_c1 t m x0).getD (0:Nat) []) (0:Nat) ([(-1:Int),m].getD ((nxV code (nxA (code.length) x0.2.2.2.2.1 (12:Int)) (nxH x0.2.2.2.2.2 (12:Int)) (↑([(-1:Int),m].length):Int)).toNat) (0:Int)))=(shF code t m a h).1)))∧(((code=code)∧((nxA (code.length) (nxA (code.length) x0.2.2.2.2.1 (12:Int)) (↑([(-1:Int),m].length):Int)=(((shF code t m a h).2).2).1)∧((nxH (nxH x0.2.2.2.2.2 (12:Int)) (↑([(-1:Int),m].length):Int)=(((shF code t m a h).2).2).2)∧True)))∧True))))) (BrP (nxV code x0.2.2.2.2.1 x0.2.2.2.2.2 (12:Int) == (2:Int)) ((bdsOk ((l14Shape_c1 t m x0).length) (Option.some (1:Int)) Option.none)∧((((1:Nat)=((shF code t m a h).2).1)∧(((l14Shape_c1 t m x0).length - (1:Int).toNat=((shF code t m a h).1).length - ((shF code t m a h).2).1)∧(List.take x0.1 (tabR (t.length) (shW t m x0.2.1 x0.2.2.1 x0.2.2.2.1))++List.drop x0.1 (tabR (t.length) (cbF t m x0.2.1))=(shF code t m a h).1)))∧(((code=code)∧((nxA (code.length) x0.2.2.2.2.1 (12:Int)=(((shF code t m a h).2).2).1)∧((nxH x0.2.2.2.2.2 (12:Int)=(((shF code t m a h).2).2).2)∧True)))∧True)))
 ((((0:Nat)=((shF code t m a h).2).1)∧(((l14Shape_c1 t m x0).length=((shF code t m a h).1).length - ((shF code t m a h).2).1)∧(List.take x0.1 (tabR (t.length) (shW t m x0.2.1 x0.2.2.1 x0.2.2.2.1))++List.drop x0.1 (tabR (t.length) (cbF t m x0.2.1))=(shF code t m a h).1)))∧(((code=code)∧((nxA (code.length) x0.2.2.2.2.1 (12:Int)=(((shF code t m a h).2).2).1)∧((nxH x0.2.2.2.2.2 (12:Int)=(((shF code t m a h).2).2).2)∧True)))∧True))))))))
def l14Shape_V2 (code:List Int) (a:Int) (h:Int) (t:List (List Int)) (m:Int):Prop :=
 ∀x0:Nat×List (List Int)×Int×Int,(((x0.1≤t.length)∧(((x0.2.1).length=x0.1)∧(((0:Int)≤x0.2.2.1)∧((x0.2.2.1≤(↑(code.length):Int))∧(shF code t m a h=shR (drwS code m (t.length) (t.length - x0.1) (x0.2.1,x0.2.2.1,x0.2.2.2)))))))→(BrP (decide ((↑x0.1:Int)<(↑(t.length):Int))) ((((bytesB code)∧(((0:Int)≤x0.2.2.1)∧((x0.2.2.1≤(↑(code.length):Int))∧((code.length≤(4096:Nat))∧(((↑(t.length):Int)≤(1000000:Int))∧((-1000000:Int)≤(↑(t.length):Int)))))))∧((code=code)∧True))∧((room (x0.2.1.length+((lsS code m ((↑(t.length):Int).toNat) ([],x0.2.2.1,x0.2.2.2)).1::([]:List (List Int))).length))∧((InR ((↑x0.1:Int)+(1:Int)))∧(∃x1:Nat×List (List Int)×Int×Int,(((x1.1≤t.length)∧(((x1.2.1).length=x1.1)∧(((0:Int)≤x1.2.2.1)∧((x1.2.2.1≤(↑(code.length):Int))∧(shF code t m a h=shR (drwS code m (t.length) (t.length - x1.1) (x1.2.1,x1.2.2.1,x1.2.2.2)))))))∧((t.length - x1.1<t.length - x0.1)∧((m=m)∧(((↑(t.length):Int)=(↑(t.length):Int))∧(((↑x0.1:Int)+(1:Int)=(↑x1.1:Int))∧((code=code)∧((((lsS code m ((↑(t.length):Int).toNat) ([],x0.2.2.1,x0.2.2.2)).2).1=x1.2.2.1)∧((((lsS code m ((↑(t.length):Int).toNat) ([],x0.2.2.1,x0.2.2.2)).2).2=x1.2.2.2)∧(x0.2.1++(lsS code m ((↑(t.length):Int).toNat) ([],x0.2.2.1,x0.2.2.2)).1::([]:List (List Int))=x1.2.1))))))))))))) ((((0:Nat)=((shF code t m a h).2).1)∧((x0.2.1.length=((shF code t m a h).1).length - ((shF code t m a h).2).1)∧(x0.2.1=(shF code t m a h).1))) ∧
 (((code=code)∧((x0.2.2.1=(((shF code t m a h).2).2).1)∧((x0.2.2.2=(((shF code t m a h).2).2).2)∧True)))∧True))))
def l14Shape_c7 (code:List Int) (a:Int) (h:Int) (t:List (List Int)) (m:Int):=(lsS code m (((↑(t.length):Int) * (↑(t.length):Int)).toNat) ([],((lsS code m ((↑(t.length):Int).toNat) ([],nxA (code.length) a (5:Int),nxH h (5:Int))).2).1,((lsS code m ((↑(t.length):Int).toNat) ([],nxA (code.length) a (5:Int),nxH h (5:Int))).2).2))
def l14Shape_c8 (code:List Int) (a:Int) (h:Int) (t:List (List Int)) (m:Int):=(lsS code m ((↑(t.length):Int).toNat) ([],nxA (code.length) a (5:Int),nxH h (5:Int)))
def l14Shape_V (code:List Int) (a:Int) (h:Int) (t:List (List Int)) (m:Int):Prop :=
 (((roomR t)∧True)∧(BrP (!tabB t) ((∃x0:Nat×List (List Int)×Int×Int,(((x0.1≤t.length)∧(((x0.2.1).length=x0.1)∧(((0:Int)≤x0.2.2.1)∧((x0.2.2.1≤(↑(code.length):Int))∧(shF code t m a h=shR (drwS code m (t.length) (t.length - x0.1) (x0.2.1,x0.2.2.1,x0.2.2.2)))))))∧((m=m)∧(((↑(t.length):Int)=(↑(t.length):Int))∧(((0:Int)=(↑x0.1:Int))∧((code=code)∧((a=x0.2.2.1)∧((h=x0.2.2.2)∧(([]:List (List Int))=x0.2.1)))))))))∧(l14Shape_V2 code a h t m)) ((True∧True)∧(BrP (!decide ((1:Int)≤m∧m≤(12:Int))) ((∃x3:Nat×List (List Int)×Int×Int,(((x3.1≤t.length)∧(((x3.2.1).length=x3.1)∧(((0:Int)≤x3.2.2.1)∧((x3.2.2.1≤(↑(code.length):Int))∧(shF code t m a h=shR (drwS code m (t.length) (t.length - x3.1) (x3.2.1,x3.2.2.1,x3.2.2.2)))))))∧((m=m)∧(((↑(t.length):Int)=(↑(t.length):Int))∧(((0:Int)=(↑x3.1:Int))∧((code=code)∧((a=x3.2.2.1)∧((h=x3.2.2.2)∧(([]:List (List Int))=x3.2.1)))))))))∧(l14Shape_V2 code a h t m)) ((((bytesB code)∧(((0:Int)≤a)∧(a≤(1099511627776:Int))))∧((code=code)∧True))∧(BrP (nxV code a h (5:Int) == (0:Int)) ((∃x6:Nat×List (List Int)×Int×Int,(((x6.1≤t.length)∧(((x6.2.1).length=x6.1)∧(((0:Int)≤x6.2.2.1)∧((x6.2.2.1≤(↑(code.length):Int))∧(shF code t m a h=shR (drwS code m (t.length) (t.length - x6.1) (x6.2.1,x6.2.2.1,x6.2.2.2)))))))∧((m=m)∧(((↑(t.length):Int)=(↑(t.length):Int))∧(((0:Int)=(↑x6.1:Int))∧((code=code)∧((nxA (code.length) a (5:Int)=x6.2.2.1) ∧
 ((nxH h (5:Int)=x6.2.2.2)∧(([]:List (List Int))=x6.2.1)))))))))∧(l14Shape_V2 code a h t m)) ((((bytesB code)∧(((0:Int)≤nxA (code.length) a (5:Int))∧((nxA (code.length) a (5:Int)≤(↑(code.length):Int))∧((code.length≤(4096:Nat))∧(((↑(t.length):Int)≤(1000000:Int))∧((-1000000:Int)≤(↑(t.length):Int)))))))∧((code=code)∧True))∧((((tabB t=true)∧(shiftB (↑(t.length):Int) m ((l14Shape_c8 code a h t m).1)=true))∧True)∧(((tabB t=true)∧True)∧(BrP (List.all t permB) ((((tabB t=true)∧((↑(t.length):Int)=(↑(t.length):Int)))∧True)∧((InR ((↑(t.length):Int) * (↑(t.length):Int)))∧((((bytesB code)∧(((0:Int)≤((l14Shape_c8 code a h t m).2).1)∧((((l14Shape_c8 code a h t m).2).1≤(↑(code.length):Int))∧((code.length≤(4096:Nat))∧(((↑(t.length):Int) * (↑(t.length):Int)≤(1000000:Int))∧((-1000000:Int)≤(↑(t.length):Int) * (↑(t.length):Int)))))))∧((code=code)∧True))∧((∃x9:Nat×List Int×List Int×List Int×Int×Int,(((x9.1≤t.length)∧((tabB t=true)∧((shiftB (↑(t.length):Int) m (x9.2.1)=true)∧((lbOk (t.length) (x9.2.2.1))∧((shiftB (↑(t.length * t.length):Int) m (x9.2.2.2.1)=true)∧(((0:Int)≤x9.2.2.2.2.1)∧((x9.2.2.2.2.1≤(↑(code.length):Int))∧(shF code t m a h=shE code (↑(t.length):Int) m (tabR (t.length) (shW t m (x9.2.1) (x9.2.2.1) (x9.2.2.2.1)),x9.2.2.2.2.1,x9.2.2.2.2.2)))))))))∧((m=m)∧(((↑(t.length):Int)=(↑(t.length):Int))∧(((0:Int)=(↑x9.1:Int))∧((code=code)∧((((l14Shape_c7 code a h t m).2).1=x9.2.2.2.2.1) ∧
 ((((l14Shape_c7 code a h t m).2).2=x9.2.2.2.2.2)∧((tabR (t.length) (cbF t m ((l14Shape_c8 code a h t m).1))=List.take x9.1 (tabR (t.length) (shW t m x9.2.1 x9.2.2.1 x9.2.2.2.1))++List.drop x9.1 (tabR (t.length) (cbF t m x9.2.1)))∧(((obN t (t.length)).1=x9.2.2.1)∧((l14Shape_c7 code a h t m).1=x9.2.2.2.1)))))))))))∧(l14Shape_V1 code a h t m))))) ((InR ((↑(t.length):Int) * (↑(t.length):Int)))∧((((bytesB code)∧(((0:Int)≤((l14Shape_c8 code a h t m).2).1)∧((((l14Shape_c8 code a h t m).2).1≤(↑(code.length):Int))∧((code.length≤(4096:Nat))∧(((↑(t.length):Int) * (↑(t.length):Int)≤(1000000:Int))∧((-1000000:Int)≤(↑(t.length):Int) * (↑(t.length):Int)))))))∧((code=code)∧True))∧((∃x16:Nat×List Int×List Int×List Int×Int×Int,(((x16.1≤t.length)∧((tabB t=true)∧((shiftB (↑(t.length):Int) m (x16.2.1)=true)∧((lbOk (t.length) (x16.2.2.1))∧((shiftB (↑(t.length * t.length):Int) m (x16.2.2.2.1)=true)∧(((0:Int)≤x16.2.2.2.2.1)∧((x16.2.2.2.2.1≤(↑(code.length):Int))∧(shF code t m a h=shE code (↑(t.length):Int) m (tabR (t.length) (shW t m (x16.2.1) (x16.2.2.1) (x16.2.2.2.1)),x16.2.2.2.2.1,x16.2.2.2.2.2)))))))))∧((m=m)∧(((↑(t.length):Int)=(↑(t.length):Int))∧(((0:Int)=(↑x16.1:Int))∧((code=code)∧((((l14Shape_c7 code a h t m).2).1=x16.2.2.2.2.1)∧((((l14Shape_c7 code a h t m).2).2=x16.2.2.2.2.2) ∧
 ((tabR (t.length) (cbF t m ((l14Shape_c8 code a h t m).1))=List.take x16.1 (tabR (t.length) (shW t m x16.2.1 x16.2.2.1 x16.2.2.2.1))++List.drop x16.1 (tabR (t.length) (cbF t m x16.2.1)))∧(([]=x16.2.2.1)∧((l14Shape_c7 code a h t m).1=x16.2.2.2.1)))))))))))∧(l14Shape_V1 code a h t m))))))))))))))
theorem l14Shape_vc (code:List Int) (a:Int) (h:Int) (t:List (List Int)) (m:Int):runF Try.prog (gam l14Shape_G) noWr (l14Shape_ann code a h t m) Try.f56 (bodyOf Try.f56) [(0,0)] [.box [.ints .u8 (code),.int .i64 (a),.int .u64 (h)],.c (.rows .i64 (t)),.c (.int .i64 (m))] (l14Shape_p code a h t m)=l14Shape_V code a h t m:=by kernel_rfl
set_option maxHeartbeats 1000000 in
theorem l14Shape_ok (code:List Int) (a:Int) (h:Int) (t:List (List Int)) (m:Int) (hpre:(l14Shape_p code a h t m).pre):l14Shape_V code a h t m:=by
  simp only [l14Shape_p,l14Shape_V,l14Shape_V2,l14Shape_V1,l14Shape_c1,l14Shape_c2,l14Shape_c3,l14Shape_c4,l14Shape_c5,l14Shape_c6,l14Shape_c7,l14Shape_c8,BrP_iff,u1,u2,u3,u4,u5,u6,u7,u8,u9,v1,v2,v3,v4,v5,v6,v7,v8,v9,w1,w2,w3,w4,markL_length,inB,InR,room,bdsOk] at hpre ⊢
  obtain ⟨hb,hc,h0,h1,hn,hr,m1,m2⟩:=hpre
  refine (fun w=>⟨hr,fun ht=>⟨⟨(0,[],a,h),?_⟩,w⟩,fun ht=>⟨fun hm=>⟨⟨(0,[],a,h),?_⟩,w⟩,fun hm=>⟨⟨hb,h0,by omega⟩,fun z=>⟨⟨(0,[],nxA code.length a 5,nxH h 5),?_⟩,w⟩,fun z=>?_⟩⟩⟩) ?_
  · rintro ⟨i,l,b,g⟩ ⟨q1,q2,q3,q4,q5⟩
    dsimp only at q1 q2 q3 q4 q5 ⊢
    have D:=drL_len (code:=code) (m:=m) t.length ([],b,g) q3 q4
    refine ⟨fun hl=>⟨⟨hb,q3,q4,hc,by omega,by omega⟩,by omega,by omega,(i+1,l++[(lsS code m t.length ([],b,g)).1],(lsS code m t.length ([],b,g)).2.1,(lsS code m t.length ([],b,g)).2.2),?_⟩,fun hl=>?_⟩
    · dsimp only
      refine ⟨⟨by omega,by rw [List.length_append];show l.length+1=_;omega,D.2.1,D.2.2,?_⟩,by omega,by omega,rfl,rfl,rfl⟩
      rw [q5,show t.length - i=(t.length - (i+1))+1 by omega];rfl
    · rw [q5,show t.length - i=0 by omega];exact ⟨⟨rfl,rfl,rfl⟩,rfl,rfl⟩
  · exact ⟨⟨Nat.zero_le _,rfl,h0,h1,by rw [shF,if_neg (by simp [ht])];rfl⟩,rfl,rfl,rfl,rfl⟩
  · exact ⟨⟨Nat.zero_le _,rfl,h0,h1,by rw [shF,if_neg (fun e=>hm e.2)];rfl⟩,rfl,rfl,rfl,rfl⟩
  · have s:=nxA_in (n:=5) h0 h1
    exact ⟨⟨Nat.zero_le _,rfl,s.1,s.2,by rw [shF,if_pos ⟨ht,hm⟩,if_pos z];rfl⟩,rfl,rfl,rfl,rfl⟩
  have s:=nxA_in (n:=5) h0 h1
  have hF:shF code t m a h=shE code t.length m (shB code t m (nxA code.length a 5) (nxH h 5)):=by rw [shF,if_pos ⟨ht,hm⟩,if_neg z]
  obtain ⟨n1,n2,tt⟩:=tabB_of ht
  have sq:t.length * t.length≤144:=Nat.mul_le_mul n2 n2
  have G:=drL_len (code:=code) (m:=m) t.length ([],nxA code.length a 5,nxH h 5) s.1 s.2
  have G2:=drL_in hb hm.1 t.length ([],nxA code.length a 5,nxH h 5) (fun x hx=>(List.not_mem_nil hx).elim)
  have hG:shiftB (t.length:Int) m (lsS code m t.length ([],nxA code.length a 5,nxH h 5)).1=true:=sh_mk hm (by rw [G.1];simp) G2
  have W:=drL_len (code:=code) (m:=m) (t.length * t.length) ([],(lsS code m t.length ([],nxA code.length a 5,nxH h 5)).2) G.2.1 G.2.2
  have W2:=drL_in hb hm.1 (t.length * t.length) ([],(lsS code m t.length ([],nxA code.length a 5,nxH h 5)).2) (fun x hx=>(List.not_mem_nil hx).elim)
  have hW:shiftB ((t.length * t.length:Nat):Int) m (lsS code m (t.length * t.length) ([],(lsS code m t.length ([],nxA code.length a 5,nxH h 5)).2)).1=true:=sh_mk hm (by rw [W.1];simp) W2
  have L:=shL_ok ht
  have sb:shB code t m (nxA code.length a 5) (nxH h 5)=(tabR t.length (shW t m (lsS code m t.length ([],nxA code.length a 5,nxH h 5)).1 (shL t) (lsS code m (t.length * t.length) ([],(lsS code m t.length ([],nxA code.length a 5,nxH h 5)).2)).1),(lsS code m (t.length * t.length) ([],(lsS code m t.length ([],nxA code.length a 5,nxH h 5)).2)).2):=rfl
  have e:((t.length:Int) * (t.length:Int))=((t.length * t.length:Nat):Int):=by simp
  simp only [e,Int.toNat_natCast]
  refine (fun wk=>⟨⟨hb,s.1,s.2,hc,by omega,by omega⟩,⟨ht,hG⟩,ht,fun pz=>⟨ht,⟨by omega,by omega⟩,⟨hb,G.2.1,G.2.2,hc,by omega,by omega⟩,⟨(0,(lsS code m t.length ([],nxA code.length a 5,nxH h 5)).1,(obN t t.length).1,(lsS code m (t.length * t.length) ([],(lsS code m t.length ([],nxA code.length a 5,nxH h 5)).2)).1,(lsS code m (t.length * t.length) ([],(lsS code m t.length ([],nxA code.length a 5,nxH h 5)).2)).2),?_⟩,wk⟩,fun pz=>⟨⟨by omega,by omega⟩,⟨hb,G.2.1,G.2.2,hc,by omega,by omega⟩,⟨(0,(lsS code m t.length ([],nxA code.length a 5,nxH h 5)).1,[],(lsS code m (t.length * t.length) ([],(lsS code m t.length ([],nxA code.length a 5,nxH h 5)).2)).1,(lsS code m (t.length * t.length) ([],(lsS code m t.length ([],nxA code.length a 5,nxH h 5)).2)).2),?_⟩,wk⟩⟩) ?_
  · rintro ⟨x,g,lb,w,b,k⟩ ⟨q1,_,hg,hlb,hw,q3,q4,q5⟩
    dsimp only at q1 hg hlb hw q3 q4 q5 ⊢
    have g':=shiftB_of hg
    have w':=shiftB_of hw
    have hW:(tabR t.length (shW t m g lb w)).length=t.length:=tabR_length _ _
    have hC:(tabR t.length (cbF t m g)).length=t.length:=tabR_length _ _
    have hl:((tabR t.length (shW t m g lb w)).take x).length=x:=by rw [List.length_take];omega
    have r1:(tab t.length (shW t m g lb w x)).length=t.length:=tab_length _ _
    have r2:(tab t.length (cbF t m g x)).length=t.length:=tab_length _ _
    refine ⟨fun h1=>⟨by omega,⟨0,⟨Nat.zero_le _,by omega⟩,rfl,?_⟩,fun y ⟨hy,_⟩=>⟨fun h2=>⟨fun h3=>?_,fun h3=>?_⟩,fun h2=>?_⟩⟩,fun h1=>?_⟩
    · rw [drop_cons' (tabR t.length (cbF t m g)) [] x (by omega),tabR_getD _ _ _ (by omega)];rfl
    · rw [at_getD _ _ _ _ _ hl,at_set _ _ _ _ _ hl]
      have hx:x<t.length:=by omega
      have hy:y<t.length:=by omega
      have rl:(List.take y (tab t.length (shW t m g lb w x))++List.drop y (tab t.length (cbF t m g x))).length=t.length:=by
        rw [List.length_append,List.length_take,List.length_drop];omega
      have rg:=mix_get (tab t.length (shW t m g lb w x)) (tab t.length (cbF t m g x)) y (by omega) (by omega)
      rw [tab_getD _ _ _ hy] at rg
      have cb:=cb_in ht hg x y hx hy
      have cv:0≤cbF t m g x y∧cbF t m g x y≤m - 1:=tmod_in (by omega) (by omega)
      have lq:lb.length=t.length∧∀q,q<t.length→0≤lb.getD q 0∧lb.getD q 0≤(t.length:Int) - 1:=by
        rcases hlb with e | e
        · rw [e] at h3;simp at h3
        · exact e
      have lx:=lq.2 x hx
      have ly:=lq.2 y hy
      have p1:=Int.mul_nonneg lx.1 (show (0:Int)≤(t.length:Int) by omega)
      have p2:=Int.mul_le_mul_of_nonneg_right lx.2 (show (0:Int)≤(t.length:Int) by omega)
      rw [Int.sub_mul,e,Int.one_mul] at p2
      have wl:=w'.2.2.1
      have wv:=w'.2.2.2 (lb.getD x 0 * (t.length:Int)+lb.getD y 0).toNat (by omega)
      have st:=mix_set (tab t.length (shW t m g lb w x)) (tab t.length (cbF t m g x)) y (by omega) (by omega)
      rw [tab_getD _ _ _ hy] at st
      rw [rg]
      have sv:shW t m g lb w x y=(cbF t m g x y+w.getD (lb.getD x 0 * (t.length:Int)+lb.getD y 0).toNat 0).tmod m:=by rw [shW,if_pos (by omega)]
      rw [←sv,st,rl]
      exact ⟨by omega,by omega,by omega,by omega,by omega,by omega,by omega,by omega,by omega,by omega,y+1,⟨by omega,hx⟩,by omega,by omega,rfl⟩
    · have hy:y<t.length:=by omega
      refine ⟨by omega,y+1,⟨by omega,by omega⟩,by omega,by omega,?_⟩
      rw [←take_snoc (tab t.length (shW t m g lb w x)) 0 y (by omega),tab_getD _ _ _ hy,shW,if_neg (by omega),drop_cons' (tab t.length (cbF t m g x)) 0 y (by omega),tab_getD _ _ _ hy,List.append_assoc];rfl
    · refine ⟨by omega,(x+1,g,lb,w,b,k),?_⟩
      dsimp only
      refine ⟨⟨by omega,ht,hg,hlb,hw,q3,q4,q5⟩,by omega,by omega,rfl,rfl,?_,rfl,rfl⟩
      rw [←take_snoc (tabR t.length (shW t m g lb w)) [] x (by omega),tabR_getD _ _ _ (by omega),show (tab t.length (shW t m g lb w x)).take y=tab t.length (shW t m g lb w x) from List.take_of_length_le (by omega),show (tab t.length (cbF t m g x)).drop y=[] from List.drop_of_length_le (by omega),List.append_nil,List.append_assoc];rfl
    · have eF:List.take x (tabR t.length (shW t m g lb w))++List.drop x (tabR t.length (cbF t m g))=tabR t.length (shW t m g lb w):=by
        rw [List.take_of_length_le (by omega),List.drop_of_length_le (by omega),List.append_nil]
      simp only [eF]
      have v1:=nxV_in hb (nxA code.length b 12) (nxH k 12) (n:=(t.length:Int)) (by omega)
      have s1:=nxA_in (n:=12) q3 q4
      have s2:=nxA_in (n:=(t.length:Int)) s1.1 s1.2
      have s3:=nxA_in (n:=(t.length:Int)) s2.1 s2.2
      have v2:=nxV_in hb (nxA code.length (nxA code.length b 12) (t.length:Int)) (nxH (nxH k 12) (t.length:Int)) (n:=(t.length:Int)) (by omega)
      have rw0:∀i,i<t.length→((tabR t.length (shW t m g lb w)).getD i []).length=t.length:=fun i hi=>by rw [tabR_getD _ _ _ hi,tab_length]
      refine ⟨⟨hb,q3,by omega⟩,fun z=>?_,fun z=>⟨fun z1=>?_,fun z1=>⟨fun z2=>?_,fun z2=>?_⟩⟩⟩
      · rw [q5,shE0 z]
        have r0:=rw0 (nxV code (nxA code.length b 12) (nxH k 12) (t.length:Int)).toNat (by omega)
        exact ⟨⟨hb,s1.1,by omega⟩,by omega,⟨hb,s2.1,by omega⟩,⟨hb,s3.1,by omega⟩,by omega,⟨rfl,by dsimp only;rw [List.length_set];omega,rfl⟩,rfl,rfl⟩
      · rw [q5,shE1 z z1]
        have r0:=rw0 0 (by omega)
        exact ⟨by omega,⟨hb,s1.1,by omega,by omega,by omega⟩,by omega,⟨rfl,by dsimp only;rw [List.length_set];omega,rfl⟩,rfl,rfl⟩
      · rw [q5,shE2 z z1 z2]
        exact ⟨by omega,⟨rfl,by dsimp only;omega,rfl⟩,rfl,rfl⟩
      · rw [q5,shE3 z z1 z2]
        exact ⟨⟨rfl,by dsimp only;omega,rfl⟩,rfl,rfl⟩
  · have eL:shL t=(obN t t.length).1:=if_pos pz
    exact ⟨⟨Nat.zero_le _,ht,hG,eL ▸ L,hW,W.2.1,W.2.2,by rw [hF,sb,eL]⟩,rfl,rfl,rfl,rfl,rfl,rfl⟩
  · have eL:shL t=[]:=if_neg (by simp [pz])
    exact ⟨⟨Nat.zero_le _,ht,hG,.inl rfl,hW,W.2.1,W.2.2,by rw [hF,sb,eL]⟩,rfl,rfl,rfl,rfl,rfl,rfl⟩
theorem l14Shape_fits:Fits Try.prog 56 ⟨[(0,0)],l14Shape_ct⟩:=by
  refine ffn (Γ:=gam l14Shape_G) (gok_cons l01Next_fits (gok_cons l01Pick_fits (gok_cons l01Table_fits (gok_cons l01In_fits (gok_cons l14DrawList_fits (gok_cons l14Bound_fits (gok_cons l01Rows_fits (gok_cons l01Orbits_fits gok_nil)))))))) Try.func56 fun ds p h hp=>?_
  unfold l14Shape_ct at h
  split at h
  · cases h
    exact ⟨noWr,l14Shape_ann _ _ _ _ _ ,by rw [l14Shape_vc];exact l14Shape_ok _ _ _ _ _  hp⟩
  · cases h
end Go.Sx
