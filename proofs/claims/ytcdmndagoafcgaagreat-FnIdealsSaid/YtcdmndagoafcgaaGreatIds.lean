/- Ids -/
import Derived.Test.YtcdmndagoafcgaaGreatGrp
import Derived.Test.YtcdmndagoafcgaaGreatIdlC
open Go Go.Proofs
namespace Go.Sx
set_option linter.unusedSimpArgs false
set_option linter.unusedVariables false
theorem Is {n:Nat} (h:1≤n):(2:Int) ^ n=2 * ((2 ^ (n - 1):Nat):Int):=by
 obtain ⟨m,rfl⟩:∃m,n=m+1:=⟨n - 1,by omega⟩
 rw [Int.pow_succ,Nat.add_sub_cancel,Int.natCast_pow,Int.mul_comm];rfl
theorem pA {n:Nat} (h:n≤12):2 ^ (n - 1)≤2048:=Nat.pow_le_pow_right (n:=2) (by omega) (show n - 1≤11 by omega)
theorem pB {a:List (List Int)} (h:aW a=true) {k:Nat} (hk:k<2 ^ (a.length - 1)):bu a (2 * (k:Int)+1):=by
 have n1:=(bA h).1
 refine ⟨h,by omega,?_⟩
 obtain ⟨m,hm⟩:∃m,a.length=m+1:=⟨a.length - 1,by omega⟩
 rw [hm,Nat.add_sub_cancel] at hk;rw [hm,Nat.pow_succ];omega
theorem tR {p:Int→Bool} {k:Nat} {x:Int} (h:x∈aL p k):∃j,j<k∧x=2 * (j:Int)+1:=by
 simp only [aL,List.mem_map,List.mem_filter,List.mem_range] at h;obtain ⟨j,⟨hj,_⟩,rfl⟩:=h;exact ⟨j,hj,rfl⟩
def tS (a:List (List Int)) (c:List (List Int)) (q:Int→Prop) (p:Int→Bool):Post:=⟨aW a=true∧(∀s:Int,bu a s→q s),.c (.ints 2 .i64 (aL p (2 ^ (a.length - 1)))),[]⟩
def pC:List AD→Option Post
 | [.agg [.rows .i64 (a),.rows .i64 (c)],.fv (.ib q p)]=>some (tS a c q p)
 | _=>none
def It (a:List (List Int)) (c:List (List Int)) (q:Int→Prop) (p:Int→Bool):Nat→Option Ann
 | 0=>some (Ann.mk ((Nat)) (fun k=>⟨[(1,.fv (.ib q p)),(2,.c (.ptr 2 0)),(5,.c (.own (5))),(6,.c (.int .i64 (2 * (k:Int)+1)))],[(2,some (.box [.ro (.rows .i64 (a)),.ro (.rows .i64 (c))])),(5,some (.ints 2 .i64 (aL p k)))]⟩) (fun k=>k≤2 ^ (a.length - 1)) (fun k=>2 ^ (a.length - 1) - k) (fun _=>am))
 | _=>none
def Iu:List (Nat×Ctr):=[]
def AP (a:List (List Int)) (c:List (List Int)) (q:Int→Prop) (p:Int→Bool):Prop :=
 ((∃x0:Nat,((x0≤(2:Nat) ^ (a.length - (1:Nat)))∧((FV.ib q p=FV.ib q p)∧(((1:Int)=(2:Int) * (↑x0:Int)+(1:Int))∧((a=a)∧((c=c)∧(aL p x0=[])))))))∧(∀x1:Nat,((x1≤(2:Nat) ^ (a.length - (1:Nat)))→(((((0:Int)≤(↑(a.length):Int))∧((↑(a.length):Int)≤(62:Int)))∧(ab ((1:Int) * (2:Int) ^ (↑(a.length):Int).toNat)))∧(ac (decide ((2:Int) * (↑x1:Int)+(1:Int)<(1:Int) * (2:Int) ^ (↑(a.length):Int).toNat)) ((q ((2:Int) * (↑x1:Int)+(1:Int)))∧(ac (p ((2:Int) * (↑x1:Int)+(1:Int))) ((ae ((aL p x1).length+[(2:Int) * (↑x1:Int)+(1:Int)].length))∧((ab ((2:Int) * (↑x1:Int)+(1:Int)+(2:Int)))∧(∃x2:Nat,((x2≤(2:Nat) ^ (a.length - (1:Nat)))∧(((2:Nat) ^ (a.length - (1:Nat)) - x2<(2:Nat) ^ (a.length - (1:Nat)) - x1)∧((FV.ib q p=FV.ib q p)∧(((2:Int) * (↑x1:Int)+(1:Int)+(2:Int)=(2:Int) * (↑x2:Int)+(1:Int))∧((a=a)∧((c=c)∧(aL p x1++[(2:Int) * (↑x1:Int)+(1:Int)]=aL p x2)))))))))) ((ab ((2:Int) * (↑x1:Int)+(1:Int)+(2:Int)))∧(∃x3:Nat,((x3≤(2:Nat) ^ (a.length - (1:Nat)))∧(((2:Nat) ^ (a.length - (1:Nat)) - x3<(2:Nat) ^ (a.length - (1:Nat)) - x1)∧((FV.ib q p=FV.ib q p)∧(((2:Int) * (↑x1:Int)+(1:Int)+(2:Int)=(2:Int) * (↑x3:Int)+(1:Int))∧((a=a)∧((c=c)∧(aL p x1=aL p x3))))))))))) ((aL p x1=aL p ((2:Nat) ^ (a.length - (1:Nat))))∧True))))))
theorem RG (a:List (List Int)) (c:List (List Int)) (q:Int→Prop) (p:Int→Bool):aC Tryz.prog (af Iu) ah (It a c q p) Tryz.f96 (aE Tryz.f96) [] [.agg [.rows .i64 (a),.rows .i64 (c)],.fv (.ib q p)] (tS a c q p)=AP a c q p:=by kernel_rfl
theorem RH (a:List (List Int)) (c:List (List Int)) (q:Int→Prop) (p:Int→Bool) (Yh:(tS a c q p).pre):AP a c q p:=by
 simp only [tS,AP,aG,u1,u2,u3,u4,u5,u6,u7,u8,u9,v1,v2,v3,v4,v5,v6,v7,v8,v9,w1,w2,w3,w4,aH,aa,ab,ae,ar] at Yh ⊢;obtain ⟨h1,hq⟩:=Yh;obtain ⟨n1,n2,ht⟩:=bA h1;have e:=Is (n:=a.length) (by omega)
 have q2:=pA (n:=a.length) (by omega)
 have q3:=Int.natCast_nonneg (2 ^ (a.length - 1))
 refine ⟨⟨0,by omega,rfl,rfl⟩,fun k hk=>?_⟩
 have ol:=nF p k
 rw [Int.one_mul,e];refine ⟨by omega,fun h=>⟨hq _ (pB h1 (by omega)),fun hp=>⟨by omega,by omega,k+1,by omega,by omega,by omega,?_⟩,fun hp=>⟨by omega,k+1,by omega,by omega,by omega,?_⟩⟩,fun h=>by rw [show k=2 ^ (a.length - 1) by omega]⟩
 ·rw [nE,if_pos hp]
 ·rw [nE,if_neg (by rw [hp];decide)]
theorem AQ:Fits Tryz.prog 96 ⟨[],pC⟩:=by
 refine aJ (Γ:=af Iu) aF Tryz.func96 fun ds p h hp=>?_
 unfold pC at h;split at h
 ·cases h
  exact ⟨ah,It _ _ _ _ ,by rw [RG];exact RH _ _ _ _  hp⟩
 ·cases h
def tT (t:List (List Int)):Post:=⟨aW t=true,.c (.ints 2 .i64 (aL (bv t) (2 ^ (t.length - 1)))),[]⟩
def tU:List AD→Option Post
 | [.c (.rows .i64 (t))]=>some (tT t)
 | _=>none
def Iv (t:List (List Int)):Nat→Option Ann
 | 0=>some (Ann.mk ((Nat)) (fun k=>⟨[(0,.c (.ro (.rows .i64 (t)))),(3,.c (.own (5))),(4,.c (.int .i64 (2 * (k:Int)+1)))],[(5,some (.ints 2 .i64 (aL (bv t) k)))]⟩) (fun k=>k≤2 ^ (t.length - 1)) (fun k=>2 ^ (t.length - 1) - k) (fun _=>am))
 | _=>none
def Iw:List (Nat×Ctr):=[(157,⟨[],tE⟩)]
def AR (t:List (List Int)):Prop :=
 ((∃x0:Nat,((x0≤(2:Nat) ^ (t.length - (1:Nat)))∧((t=t)∧(((1:Int)=(2:Int) * (↑x0:Int)+(1:Int))∧([]=aL (bv t) x0)))))∧(∀x1:Nat,((x1≤(2:Nat) ^ (t.length - (1:Nat)))→(((((0:Int)≤IntKind.wrap IntKind.u64 (↑(t.length):Int))∧(IntKind.wrap IntKind.u64 (↑(t.length):Int)≤(62:Int)))∧(ab ((1:Int) * (2:Int) ^ (IntKind.wrap IntKind.u64 (↑(t.length):Int)).toNat)))∧(ac (decide ((2:Int) * (↑x1:Int)+(1:Int)<(1:Int) * (2:Int) ^ (IntKind.wrap IntKind.u64 (↑(t.length):Int)).toNat)) (((bu t ((2:Int) * (↑x1:Int)+(1:Int)))∧True)∧(ac (bv t ((2:Int) * (↑x1:Int)+(1:Int))) ((ae ((aL (bv t) x1).length+[(2:Int) * (↑x1:Int)+(1:Int)].length))∧((ab ((2:Int) * (↑x1:Int)+(1:Int)+(2:Int)))∧(∃x2:Nat,((x2≤(2:Nat) ^ (t.length - (1:Nat)))∧(((2:Nat) ^ (t.length - (1:Nat)) - x2<(2:Nat) ^ (t.length - (1:Nat)) - x1)∧((t=t)∧(((2:Int) * (↑x1:Int)+(1:Int)+(2:Int)=(2:Int) * (↑x2:Int)+(1:Int))∧(aL (bv t) x1++[(2:Int) * (↑x1:Int)+(1:Int)]=aL (bv t) x2)))))))) ((ab ((2:Int) * (↑x1:Int)+(1:Int)+(2:Int)))∧(∃x3:Nat,((x3≤(2:Nat) ^ (t.length - (1:Nat)))∧(((2:Nat) ^ (t.length - (1:Nat)) - x3<(2:Nat) ^ (t.length - (1:Nat)) - x1)∧((t=t)∧(((2:Int) * (↑x1:Int)+(1:Int)+(2:Int)=(2:Int) * (↑x3:Int)+(1:Int))∧(aL (bv t) x1=aL (bv t) x3))))))))) ((aL (bv t) x1=aL (bv t) ((2:Nat) ^ (t.length - (1:Nat))))∧True))))))
theorem RI (t:List (List Int)):aC Tryz.prog (af Iw) ah (Iv t) Tryz.f155 (aE Tryz.f155) [] [.c (.rows .i64 (t))] (tT t)=AR t:=by kernel_rfl
theorem RJ (t:List (List Int)) (Yh:(tT t).pre):AR t:=by
 simp only [tT,AR,aG,u1,u2,u3,u4,u5,u6,u7,u8,u9,v1,v2,v3,v4,v5,v6,v7,v8,v9,w1,w2,w3,w4,aH,aa,ab,ae,ar] at Yh ⊢;obtain ⟨n1,n2,ht⟩:=bA Yh;have e:=Is (n:=t.length) (by omega)
 have q2:=pA (n:=t.length) (by omega)
 have q3:=Int.natCast_nonneg (2 ^ (t.length - 1))
 have w:IntKind.u64.wrap (t.length:Int)=(t.length:Int):=iX (by omega)
 refine ⟨⟨0,by omega,rfl,rfl⟩,fun k hk=>?_⟩
 have ol:=nF (bv t) k
 rw [w,Int.toNat_natCast,Int.one_mul,e];refine ⟨by omega,fun h=>⟨pB Yh (by omega),fun hp=>⟨by omega,by omega,k+1,by omega,by omega,by omega,?_⟩,fun hp=>⟨by omega,k+1,by omega,by omega,by omega,?_⟩⟩,fun h=>by rw [show k=2 ^ (t.length - 1) by omega]⟩
 ·rw [nE,if_pos hp]
 ·rw [nE,if_neg (by rw [hp];decide)]
theorem Ix:Fits Tryz.prog 155 ⟨[],tU⟩:=by
 refine aJ (Γ:=af Iw) (aj Ia aF) Tryz.func155 fun ds p h hp=>?_
 unfold tU at h;split at h
 ·cases h
  exact ⟨ah,Iv _ ,by rw [RI];exact RJ _  hp⟩
 ·cases h
def tV (s:Int) (a:List (List Int)) (c:List (List Int)) (l:List (List Int)):Post:=⟨bM a c∧l=aO a c∧bu a s,.c (.bool (aR a c s)),[]⟩
def AS:List AD→Option Post
 | [.c (.int .i64 (s)),.box [.rows .i64 (a),.rows .i64 (c)],.box [.rows .i64 (l)]]=>some (tV s a c l)
 | _=>none
def Iy:List (Nat×Ctr):=[(85,⟨[],pf⟩)]
def AT (s:Int) (a:List (List Int)) (c:List (List Int)) (l:List (List Int)):Prop :=
 ((((bM a c)∧((l=aO a c)∧(bu a s)))∧True)∧((aR a c s=aR a c s)∧True))
theorem RK (s:Int) (a:List (List Int)) (c:List (List Int)) (l:List (List Int)):aC Tryz.prog (af Iy) ah am Tryz.f163 (aE Tryz.f163) [] [.c (.int .i64 (s)),.box [.rows .i64 (a),.rows .i64 (c)],.box [.rows .i64 (l)]] (tV s a c l)=AT s a c l:=by kernel_rfl
theorem RL (s:Int) (a:List (List Int)) (c:List (List Int)) (l:List (List Int)) (Yh:(tV s a c l).pre):AT s a c l:=by
 simp only [tV,AT,aG,u1,u2,u3,u4,u5,u6,u7,u8,u9,v1,v2,v3,v4,v5,v6,v7,v8,v9,w1,w2,w3,w4,aH,aa,ab,ae,ar] at Yh ⊢;exact Yh
theorem RM:Fits Tryz.prog 163 ⟨[],AS⟩:=by
 refine aJ (Γ:=af Iy) (aj Ao aF) Tryz.func163 fun ds p h hp=>?_
 unfold AS at h;split at h
 ·cases h
  exact ⟨ah,am,by rw [RK];exact RL _ _ _ _  hp⟩
 ·cases h
def tW (a:List (List Int)) (c:List (List Int)):Post:=⟨bM a c,.c (.ints 2 .i64 (aL (aR a c) (2 ^ (a.length - 1)))),[]⟩
def pD:List AD→Option Post
 | [.agg [.rows .i64 (a),.rows .i64 (c)]]=>some (tW a c)
 | _=>none
def Iz:List (Nat×Ctr):=[(86,⟨[],kT⟩),(96,⟨[],pC⟩),(163,⟨[],AS⟩)]
def AU (a:List (List Int)) (c:List (List Int)):Prop :=
 (((bM a c)∧True)∧((((aW a=true)∧(∀(s:Int),bu a s→bM a c∧aO a c=aO a c∧bu a s))∧True)∧((aL (fun (x:Int)=>aR a c x) ((2:Nat) ^ (a.length - (1:Nat)))=aL (aR a c) ((2:Nat) ^ (a.length - (1:Nat))))∧True)))
theorem RN (a:List (List Int)) (c:List (List Int)):aC Tryz.prog (af Iz) ah am Tryz.f95 (aE Tryz.f95) [] [.agg [.rows .i64 (a),.rows .i64 (c)]] (tW a c)=AU a c:=by kernel_rfl
theorem RO (a:List (List Int)) (c:List (List Int)) (Yh:(tW a c).pre):AU a c:=by
 simp only [tW,AU,aG,u1,u2,u3,u4,u5,u6,u7,u8,u9,v1,v2,v3,v4,v5,v6,v7,v8,v9,w1,w2,w3,w4,aH,aa,ab,ae,ar] at Yh ⊢;exact ⟨Yh,dh Yh.1,fun s hs=>⟨Yh,hs⟩⟩
theorem AV:Fits Tryz.prog 95 ⟨[],pD⟩:=by
 refine aJ (Γ:=af Iz) (aj nD (aj AQ (aj RM aF))) Tryz.func95 fun ds p h hp=>?_
 unfold pD at h;split at h
 ·cases h
  exact ⟨ah,am,by rw [RN];exact RO _ _  hp⟩
 ·cases h
def tX (a:List (List Int)) (c:List (List Int)):Post:=⟨bM a c,.c (.ints 2 .i64 (aL (aR a c) (2 ^ (a.length - 1)))),[]⟩
def AW:List AD→Option Post
 | [.agg [.rows .i64 (a),.rows .i64 (c)]]=>some (tX a c)
 | _=>none
def IA (a:List (List Int)) (c:List (List Int)):Nat→Option Ann
 | 0=>some (Ann.mk ((Nat)) (fun i=>⟨[(1,.c (.ptr 1 0)),(3,.c (.own (8))),(4,.c (.own (9))),(5,.c (.int .i64 ((i:Int))))],[(1,some (.box [.ro (.rows .i64 (a)),.ro (.rows .i64 (c))])),(8,some (.ints 2 .i64 (aL (bv a) (2 ^ (a.length - 1))))),(9,some (.ints 2 .i64 (((aL (bv a) (2 ^ (a.length - 1))).take i).filter (aR a c))))]⟩) (fun i=>i≤(aL (bv a) (2 ^ (a.length - 1))).length) (fun i=>(aL (bv a) (2 ^ (a.length - 1))).length - i) (fun _=>am))
 | _=>none
def IB:List (Nat×Ctr):=[(155,⟨[],tU⟩),(90,⟨[],pm⟩)]
def eA (a:List (List Int)):=(aL (bv a) ((2:Nat) ^ (a.length - (1:Nat))))
def AX (a:List (List Int)) (c:List (List Int)):Prop :=
 (((aW a=true)∧True)∧((∃x0:Nat,((x0≤(eA a).length)∧(((0:Int)=(↑x0:Int))∧((a=a)∧((c=c)∧((aL (bv a) ((2:Nat) ^ (a.length - (1:Nat)))=aL (bv a) ((2:Nat) ^ (a.length - (1:Nat))))∧([]=List.filter (aR a c) (List.take x0 (eA a)))))))))∧(∀x1:Nat,((x1≤(eA a).length)→(ac (decide ((↑x1:Int)<(↑((aL (bv a) ((2:Nat) ^ (a.length - (1:Nat)))).length):Int))) ((aa (↑x1:Int) ((eA a).length))∧((((bM a c)∧(bu a ((eA a).getD ((↑x1:Int).toNat) (0:Int))))∧True)∧(ac (aR a c ((aL (bv a) ((2:Nat) ^ (a.length - (1:Nat)))).getD ((↑x1:Int).toNat) (0:Int))) ((aa (↑x1:Int) ((eA a).length))∧((ae ((List.filter (aR a c) (List.take x1 (eA a))).length+[(eA a).getD ((↑x1:Int).toNat) (0:Int)].length))∧((ab ((↑x1:Int)+(1:Int)))∧(∃x2:Nat,((x2≤(eA a).length)∧(((eA a).length - x2<(eA a).length - x1)∧(((↑x1:Int)+(1:Int)=(↑x2:Int))∧((a=a)∧((c=c)∧((aL (bv a) ((2:Nat) ^ (a.length - (1:Nat)))=aL (bv a) ((2:Nat) ^ (a.length - (1:Nat))))∧(List.filter (aR a c) (List.take x1 (eA a))++[(eA a).getD ((↑x1:Int).toNat) (0:Int)]=List.filter (aR a c) (List.take x2 (eA a))))))))))))) ((ab ((↑x1:Int)+(1:Int)))∧(∃x3:Nat,((x3≤(eA a).length)∧(((eA a).length - x3<(eA a).length - x1)∧(((↑x1:Int)+(1:Int)=(↑x3:Int))∧((a=a)∧((c=c) ∧
 ((aL (bv a) ((2:Nat) ^ (a.length - (1:Nat)))=aL (bv a) ((2:Nat) ^ (a.length - (1:Nat))))∧(List.filter (aR a c) (List.take x1 (eA a))=List.filter (aR a c) (List.take x3 (eA a)))))))))))))) ((List.filter (aR a c) (List.take x1 (eA a))=aL (aR a c) ((2:Nat) ^ (a.length - (1:Nat))))∧True))))))
theorem RP (a:List (List Int)) (c:List (List Int)):aC Tryz.prog (af IB) ah (IA a c) Tryz.f156 (aE Tryz.f156) [] [.agg [.rows .i64 (a),.rows .i64 (c)]] (tX a c)=AX a c:=by kernel_rfl
theorem RQ (a:List (List Int)) (c:List (List Int)) (Yh:(tX a c).pre):AX a c:=by
 simp only [tX,AX,eA,aG,u1,u2,u3,u4,u5,u6,u7,u8,u9,v1,v2,v3,v4,v5,v6,v7,v8,v9,w1,w2,w3,w4,aH,aa,ab,ae,ar] at Yh ⊢;have h1:=dh Yh.1
 have n2:=(bA h1).2.1
 have n1:=(bA h1).1
 have q2:=pA (n:=a.length) (by omega)
 have ol:=nF (bv a) (2 ^ (a.length - 1))
 refine ⟨h1,⟨0,by omega,rfl,rfl⟩,fun i hi=>⟨fun h=>?_,fun h=>?_⟩⟩
 ·obtain ⟨j,hj,ej⟩:=tR (cE (aL (bv a) (2 ^ (a.length - 1))) 0 i (by omega))
  have hs:bu a ((aL (bv a) (2 ^ (a.length - 1))).getD i 0):=by rw [ej];exact pB h1 hj
  have fl:((aL (bv a) (2 ^ (a.length - 1))).take i |>.filter (aR a c)).length≤i:=by
   have:=List.length_filter_le (aR a c) ((aL (bv a) (2 ^ (a.length - 1))).take i)
   rw [List.length_take] at this;omega
  refine ⟨by omega,⟨Yh,hs⟩,fun hp=>⟨by omega,by omega,by omega,i+1,by omega,by omega,by omega,?_⟩,fun hp=>⟨by omega,i+1,by omega,by omega,by omega,?_⟩⟩
  ·rw [←dF _ 0 i (by omega),List.filter_append,List.filter_cons,if_pos hp];rfl
  ·rw [←dF _ 0 i (by omega),List.filter_append,List.filter_cons,if_neg (by rw [hp];decide)];simp
 ·rw [List.take_of_length_le (by omega)]
  refine QE _ _ (fun s h2=>?_) _
  simp only [aR,cQ,Bool.and_eq_true] at h2;exact h2.1.1.1.2
theorem RR:Fits Tryz.prog 156 ⟨[],AW⟩:=by
 refine aJ (Γ:=af IB) (aj Ix (aj Ax aF)) Tryz.func156 fun ds p h hp=>?_
 unfold AW at h;split at h
 ·cases h
  exact ⟨ah,IA _ _ ,by rw [RP];exact RQ _ _  hp⟩
 ·cases h
def i9 (a c:List (List Int)):List Int×Int:=if aK a c=true then (aL (aR a c) (2 ^ (a.length - 1)),0) else ([],1)
def tY (a:List (List Int)) (c:List (List Int)):Post:=⟨au a∧au c,.tup [.inl (.ints 2 .i64 ((i9 a c).1)),.inl (.int .i64 ((i9 a c).2))],[]⟩
def AY:List AD→Option Post
 | [.agg [.rows .i64 (a),.rows .i64 (c)]]=>some (tY a c)
 | _=>none
def IC:List (Nat×Ctr):=[(44,⟨[],gT⟩),(95,⟨[],pD⟩)]
def AZ (a:List (List Int)) (c:List (List Int)):Prop :=
 ((((au a)∧(au c))∧True)∧(ac (!aK a c) ((([]=(i9 a c).1)∧(((1:Int)=(i9 a c).2)∧True))∧True) (((bM a c)∧True)∧(((aL (aR a c) ((2:Nat) ^ (a.length - (1:Nat)))=(i9 a c).1)∧(((0:Int)=(i9 a c).2)∧True))∧True))))
theorem RS (a:List (List Int)) (c:List (List Int)):aC Tryz.prog (af IC) ah am Tryz.f37 (aE Tryz.f37) [] [.agg [.rows .i64 (a),.rows .i64 (c)]] (tY a c)=AZ a c:=by kernel_rfl
theorem RT (a:List (List Int)) (c:List (List Int)) (Yh:(tY a c).pre):AZ a c:=by
 simp only [tY,AZ,aG,u1,u2,u3,u4,u5,u6,u7,u8,u9,v1,v2,v3,v4,v5,v6,v7,v8,v9,w1,w2,w3,w4,aH,aa,ab,ae,ar] at Yh ⊢;exact ⟨Yh,fun h=>by simp [i9,h],fun h=>⟨⟨(dq h).1,(dq h).2.1,(dq h).2.2.1⟩,by simp [i9,h]⟩⟩
theorem RU:Fits Tryz.prog 37 ⟨[],AY⟩:=by
 refine aJ (Γ:=af IC) (aj iZ (aj AV aF)) Tryz.func37 fun ds p h hp=>?_
 unfold AY at h;split at h
 ·cases h
  exact ⟨ah,am,by rw [RS];exact RT _ _  hp⟩
 ·cases h
end Go.Sx
