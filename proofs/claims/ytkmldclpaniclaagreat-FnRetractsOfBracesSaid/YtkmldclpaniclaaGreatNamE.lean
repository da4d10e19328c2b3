/- NamE -/
import Derived.Test.YtkmldclpaniclaaGreatNamD
import Derived.Test.YtkmldclpaniclaaGreatGrp
set_option linter.unusedSimpArgs false
set_option linter.unusedVariables false
set_option linter.defProp false
open Go Go.Proofs
namespace Go.Sx
def ow(K:Dc)(m:Db):Dc:=K.take (bO K m)++m::K.drop (bO K m)
def uD:List AD->Option Post
 | [.c (.rows .i64 K),.c (.ints .i64 m)]=>some ⟨K.length<=1000000000/\(∀x∈K,ar x.length)/\f5 K,.c (.int .i64 ((bO K m:Int))),[]⟩
 |_=>none
def MK(K:Dc)(m:Db):Nat->Option Ann
 |0=>some (Ann.mk ((Nat)×(Nat)) (fun x=>match x with|(lo,hi)=>⟨[(0,I' K),(1,G' m),(5,D' lo),(6,D' hi)],[]⟩) (fun x=>match x with|(lo,hi)=>lo<=hi/\hi<=K.length/\(∀j,j<lo->bj (K.getD j []) m=true)/\(∀j,hi<=j->j<K.length->bj (K.getD j []) m=false)) (fun x=>match x with|(lo,hi)=>hi-lo) (fun _=>ak))
 |_=>none
theorem MN:Fits Tryz.prog 214 ⟨[],uD⟩:=by
 refine ffv (Γ:=af [(203,⟨[],pW⟩)]) (aj D5 aG) Tryz.func214 fun ds p h ξ=>?_
 unfold uD at h;split at h<;>cases h
 rename_i K m
 refine⟨ah,MK K m,(∃x0:Nat×Nat,(x0.1<=x0.2/\x0.2<=K.length/\(∀(j:Nat),j<x0.1->bj (K.getD j []) m=true)/\∀(j:Nat),x0.2<=j->j<K.length->bj (K.getD j []) m=false)/\K=K/\m=m/\(0:Int)=(↑x0.1:Int)/\(K.length:Int)=(↑x0.2:Int))/\∀x1:Nat×Nat,(x1.1<=x1.2/\x1.2<=K.length/\(∀(j:Nat),j<x1.1->bj (K.getD j []) m=true)/\∀(j:Nat),x1.2<=j->j<K.length->bj (K.getD j []) m=false)->ab (decide ((↑x1.1:Int)<(↑x1.2:Int))) (ae ((↑x1.1:Int)+(↑x1.2:Int))/\((2:Int)≠(0:Int)/\ae (Int.tdiv ((↑x1.1:Int)+(↑x1.2:Int)) (2:Int)))/\aa (Int.tdiv ((↑x1.1:Int)+(↑x1.2:Int)) (2:Int)) K.length/\(ar ((K.getD ((Int.tdiv ((↑x1.1:Int)+(↑x1.2:Int)) (2:Int)).toNat) []).length)/\True)/\ab (bj (K.getD ((Int.tdiv ((↑x1.1:Int)+(↑x1.2:Int)) (2:Int)).toNat) []) m) (ae (Int.tdiv ((↑x1.1:Int)+(↑x1.2:Int)) (2:Int)+(1:Int))/\∃x2:Nat×Nat,(x2.1<=x2.2/\x2.2<=K.length/\(∀(j:Nat),j<x2.1->bj (K.getD j []) m=true)/\∀(j:Nat),x2.2<=j->j<K.length->bj (K.getD j []) m=false)/\x2.2-x2.1<x1.2-x1.1/\K=K/\m=m/\Int.tdiv ((↑x1.1:Int)+(↑x1.2:Int)) (2:Int)+(1:Int)=(↑x2.1:Int)/\(↑x1.2:Int)=(↑x2.2:Int)) (∃x3:Nat×Nat,(x3.1<=x3.2/\x3.2<=K.length/\(∀(j:Nat),j<x3.1->bj (K.getD j []) m=true)/\∀(j:Nat),x3.2<=j->j<K.length->bj (K.getD j []) m=false)/\x3.2-x3.1<x1.2-x1.1/\K=K/\m=m/\(↑x1.1:Int)=(↑x3.1:Int)/\Int.tdiv ((↑x1.1:Int)+(↑x1.2:Int)) (2:Int)=(↑x3.2:Int))) ((↑x1.1:Int)=(bO K m:Int)/\True),by kernel_rfl,?_⟩
 simp only[aH]at ξ⊢;obtain⟨h1,h2,h3⟩:=ξ;have lt:∀i j,i<j->j<K.length->bj (K.getD i []) (K.getD j [])=true:=fun i j hij hj=>by
  rw[cg _ _ _ hj,cg _ _ _ (show i<K.length by omega)]
  exact Bu.1 h3 i j (by omega) hj hij
 refine⟨⟨(0,K.length),⟨Ad _,AE _,fun j hj=>by omega,fun j hj hk=>by omega⟩,rfl,rfl⟩,fun⟨lo,hi⟩ ⟨a1,a2,a3,a4⟩=>?_⟩
 simp only at a1 a2 a3 a4⊢;have e:((lo:Int)+(hi:Int)).tdiv 2=(((lo+hi) / 2:Nat):Int):=by rw[DV (by omega)];omega
 rw[e];have em:(((lo+hi) / 2:Nat):Int).toNat=(lo+hi) / 2:=rfl
 rw[em];generalize hmid:(lo+hi) / 2=mid
 refine⟨fun ψ=>⟨by omega,⟨by omega,by omega,by omega⟩,by omega,h2 _ (cU K [] mid (by omega)),fun ht=>⟨by omega,(mid+1,hi),⟨by omega,a2,fun j hj=>?_,a4⟩,by simp only;omega,by simp only;omega,rfl⟩,fun hf=>⟨(lo,mid),⟨by omega,by omega,a3,fun j hj hk=>?_⟩,by simp only;omega,rfl,rfl⟩⟩,fun hge=>?_⟩
 ·by_cases ej:j=mid
  ·rw[ej];exact ht
  ·exact um _ _ _ (lt j mid (by omega) (by omega)) ht
 ·by_cases ej:j=mid
  ·rw[ej];exact hf
  ·cases q:bj (K.getD j []) m with
   |false=>rfl
   |true =>
    have:=um _ _ _ (lt mid j (by omega) hk) q
    rw[hf]at this;cases this
 ·have:bO K m=lo:=uo K m lo a3 (by omega) fun h=>a4 lo (by omega) h
  rw[this]
def iI:Dc:=[[1,2,0,3],[0,2,3,1]]
def gH(q:Dc×Dc)(s:Nat):Db:=bA (q.1.getD (s / 2) []) (iI.getD (s % 2) [])
def MP(q:Dc×Dc)(s:Nat):Dc×Dc :=
 if bO q.2 (gH q s)<q.2.length/\q.2.getD (bO q.2 (gH q s)) []=gH q s then q else(q.1++[gH q s],ow q.2 (gH q s))
def ax:Nat->Dc×Dc
 |0=>([[0,1,2,3]],[[0,1,2,3]])
 |s+1=>MP (ax s) s
def uE(K:Dc):Bool:=(List.range K.length).all fun j=>(List.range j).all fun i=>bj (K.getD i []) (K.getD j [])
def gI(p:Db):Bool:=decide (p.length=4)&&(List.range 4).all fun i=>decide (0<=p.getD i 0/\p.getD i 0<4)
def MQ(s:Nat):Bool:=decide (s / 2<(ax s).1.length)&&decide ((ax s).1.length<=12)&&decide ((ax s).2.length<=12)&&uE (ax s).2&&(ax s).2.all gI&&(ax s).1.all gI
theorem VH:(List.range 24).all MQ=true:=by decide +kernel
theorem EG:(ax 24).1.length=12/\(ax 24).1.all gI=true:=by decide +kernel
theorem VI:iI.all gI=true:=by decide
theorem MT{K:Dc}(h:uE K=true):f5 K:=by
 refine Bu.2 fun i j hi hj hij=>?_
 simp only[uE,AM,AW]at h;have:=h j hj i hij
 rwa[cg K [] i hi,cg K [] j hj]at this
theorem MU{p:Db}(h:gI p=true):p.length=4/\∀i,i<4->0<=p.getD i 0/\p.getD i 0<4:=by
 simpa[gI]using h
theorem uF{K:Dc}(h:K.all gI=true){i:Nat}(hi:i<K.length):(K.getD i []).length=4/\∀j,j<4->0<=(K.getD i []).getD j 0/\(K.getD i []).getD j 0<4 :=
 MU (AM.1 h _ (cU K [] i hi))
theorem EH{K:Dc}(h:K.all gI=true):∀x∈K,x.length<=1099511627776:=fun x hx=>by
 have:=(MU (AM.1 h x hx)).1;omega
structure GpOk (s:Nat):Prop where
 i:s / 2<(ax s).1.length
 l1:(ax s).1.length<=12
 l2:(ax s).2.length<=12
 so:f5 (ax s).2
 p2:(ax s).2.all gI=true
 p1:(ax s).1.all gI=true
theorem uG{s:Nat}(h:s<24):GpOk s:=by
 have:=AM.1 VH s (AW.2 h)
 simp only[MQ,AG,AQ]at this;obtain⟨⟨⟨⟨⟨a,b⟩,c⟩,d⟩,e⟩,f⟩:=this;exact⟨a,b,c,MT d,e,f⟩
def EI:List AD->Option Post
 | [.c (.int .i64 n),.c (.rows .i64 l)]=>some ⟨n=4/\l=iI,.c (.bool true),[]⟩
 |_=>none
def MV(n:Int)(l:Dc):Nat->Option Ann
 |0=>U' fun i=>⟨⟨[(0,D' n),(1,I' l),(5,D' i)],[]⟩,i<=2,2-i⟩
 |_=>none
theorem VL:Fits Tryz.prog 212 ⟨[],EI⟩:=by
 refine ffv (Γ:=af [(71,⟨[],pv⟩),(131,⟨[],uh⟩)]) (aj yh (aj LZ aG)) Tryz.func212 fun ds p h ξ=>?_
 unfold EI at h;split at h<;>cases h
 rename_i n l
 refine⟨ah,MV n l,(True/\True)/\ab (!decide ((1:Int)<=n/\n<=(12:Int))) (false=true/\True) (ab (decide ((16:Int)<(l.length:Int))) (false=true/\True) ((∃x0:Nat,x0<=(2:Nat)/\n=n/\l=l/\(0:Int)=(x0:Int))/\∀x1:Nat,x1<=(2:Nat)->ab (decide ((x1:Int)<(l.length:Int))) (aa (x1:Int) l.length/\ab ((↑((l.getD (x1:Int).toNat []).length):Int) != n) (false=true/\True) (aa (x1:Int) l.length/\((l.getD (x1:Int).toNat []).length<=(1099511627776:Nat)/\True)/\ab (!(decide ((1:Int)<=(↑((l.getD (x1:Int).toNat []).length):Int)/\(↑((l.getD (x1:Int).toNat []).length):Int)<=(12:Int))&&cB (l.getD (x1:Int).toNat []))) (false=true/\True) (ae ((x1:Int)+(1:Int))/\∃x2:Nat,x2<=(2:Nat)/\(2:Nat)-x2<(2:Nat)-x1/\n=n/\l=l/\(x1:Int)+(1:Int)=(x2:Int)))) (true=true/\True))),by kernel_rfl,?_⟩
 simp only[aH]at ξ⊢;obtain⟨rfl,rfl⟩:=ξ;have hl:iI.length=2:=rfl
 refine⟨fun h=>by omega,fun _=>⟨fun h=>by rw[hl]at h;omega,fun _=>⟨⟨0,by omega,rfl⟩,fun i hi=>⟨fun h=>?_,fun _=>trivial⟩⟩⟩⟩
 rw[hl]at h⊢;have:i=0\/i=1:=by omega
 rcases this with rfl|rfl
 ·exact⟨by omega,fun h=>absurd (by decide) h,fun _=>⟨by omega,by decide,fun h=>absurd h (by decide),fun _=>⟨by omega,1,by omega,by omega,by omega⟩⟩⟩
 ·exact⟨by omega,fun h=>absurd (by decide) h,fun _=>⟨by omega,by decide,fun h=>absurd h (by decide),fun _=>⟨by omega,2,by omega,by omega,by omega⟩⟩⟩
def uI(n:Int)(l:Dc)(lim:Int):Post:=⟨n=4/\l=iI/\lim=12,.c (.ro (.rows .i64 (ax 24).1)),[]⟩
def EK:List AD->Option Post
 | [.c (.int .i64 n),.c (.rows .i64 l),.c (.int .i64 lim)]=>some (uI n l lim)
 |_=>none
def MX(n:Int)(l:Dc)(lim:Int):Nat->Option Ann
 |0=>U' fun i=>⟨⟨[(0,D' n),(1,I' l),(2,D' lim),(7,M' 600),(8,D' i)],[(600,Q' ([(0:Int),1,2,3].take i))]⟩,i<=4,4-i⟩
 |2=>V' (fun i=>⟨⟨[(1,I' l),(2,D' lim),(9,M' 601),(10,I' (((ax (i*2)).2))),(11,D' i)],[(601,some (.lst 0 62 (.rows .i64 ((ax (i*2)).1))))]⟩,i<=12,12-i⟩) (fun i b_=>match b_ with|4=>U' fun k=>⟨⟨[(1,I' l),(2,D' lim),(9,M' 601),(10,I' (((ax (i*2+k)).2))),(11,D' i),(12,D' k)],[(601,some (.lst 0 62 (.rows .i64 ((ax (i*2+k)).1))))]⟩,i<12/\k<=2,2-k⟩|_=>none)
 |_=>none
def MY(t:Nat):Bool:=[1000027,1000029,1000079,1000084,1000093].contains t
def MZ:List (Nat×Ctr):=[(189,⟨[],nZ⟩),(214,⟨[],uD⟩),(202,⟨[],n9⟩)]
def fN(l:Dc)(x0:Nat)(x1:Nat):=(↑(bO ((ax (x0*(2:Nat)+x1)).2) (bA (((ax (x0*(2:Nat)+x1)).1).getD (↑x0:Int).toNat []) (l.getD (↑x1:Int).toNat []))):Int)
def qe(l:Dc)(x0:Nat)(x1:Nat):=(bA (((ax (x0*(2:Nat)+x1)).1).getD (↑x0:Int).toNat []) (l.getD (↑x1:Int).toNat [])::([]:Dc)++bZ ((ax (x0*(2:Nat)+x1)).2) (Option.some (fN l x0 x1)) Option.none)
def qf(l:Dc)(x0:Nat)(x1:Nat):=(FC.rows IntKind.i64 (bA (((ax (x0*(2:Nat)+x1)).1).getD (↑x0:Int).toNat []) (l.getD (↑x1:Int).toNat [])::([]:Dc)))
def EL(n:Int)(l:Dc)(lim:Int):Prop :=
 ((∃x0:Nat,((x0<=(4:Nat))/\((n=n)/\((l=l)/\((lim=lim)/\(((0:Int)=(↑x0:Int))/\([]=List.take x0 [(0:Int),(1:Int),(2:Int),(3:Int)])))))))/\(∀x1:Nat,((x1<=(4:Nat))->(ab (decide ((↑x1:Int)<n)) ((ar ((List.take x1 [(0:Int),(1:Int),(2:Int),(3:Int)]).length+[(↑x1:Int)].length))/\((ae ((↑x1:Int)+(1:Int)))/\(∃x2:Nat,((x2<=(4:Nat))/\(((4:Nat)-x2<(4:Nat)-x1)/\((n=n)/\((l=l)/\((lim=lim)/\(((↑x1:Int)+(1:Int)=(↑x2:Int))/\(List.take x1 [(0:Int),(1:Int),(2:Int),(3:Int)]++[(↑x1:Int)]=List.take x2 [(0:Int),(1:Int),(2:Int),(3:Int)])))))))))) ((∃x3:Nat,((x3<=(12:Nat))/\((l=l)/\((lim=lim)/\((List.take x1 [(0:Int),(1:Int),(2:Int),(3:Int)]::([]:Dc)=(ax (x3*(2:Nat))).2)/\(((0:Int)=(↑x3:Int))/\(List.take x1 [(0:Int),(1:Int),(2:Int),(3:Int)]::([]:Dc)=(ax (x3*(2:Nat))).1)))))))/\(∀x4:Nat,((x4<=(12:Nat))->(ab (decide ((↑x4:Int)<(↑(FC.len (FC.rows IntKind.i64 ((ax (x4*(2:Nat))).1))):Int))) (ab (decide ((↑(FC.len (FC.rows IntKind.i64 ((ax (x4*(2:Nat))).1))):Int)<=lim)) ((∃x5:Nat,(((x4<(12:Nat))/\(x5<=(2:Nat)))/\((l=l)/\((lim=lim)/\(((ax (x4*(2:Nat))).2=(ax (x4*(2:Nat)+x5)).2)/\(((↑x4:Int)=(↑x4:Int))/\(((0:Int)=(↑x5:Int))/\((ax (x4*(2:Nat))).1=(ax (x4*(2:Nat)+x5)).1))))))))/\(∀x6:Nat,(((x4<(12:Nat))/\(x6<=(2:Nat)))->(ab (decide ((↑x6:Int)<(↑(l.length):Int))) (ab (decide ((↑(FC.len (FC.rows IntKind.i64 ((ax (x4*(2:Nat)+x6)).1))):Int)<=lim))
 ((aa (↑x4:Int) (FC.len (FC.rows IntKind.i64 ((ax (x4*(2:Nat)+x6)).1))))/\((aa (↑x6:Int) l.length)/\((((ar ((((ax (x4*(2:Nat)+x6)).1).getD (↑x4:Int).toNat []).length))/\(kw ((l.getD (↑x6:Int).toNat []).length) (((ax (x4*(2:Nat)+x6)).1).getD (↑x4:Int).toNat [])))/\True)/\((((((ax (x4*(2:Nat)+x6)).2).length<=(1000000000:Nat))/\((∀(x:Db),x∈(ax (x4*(2:Nat)+x6)).2->ar x.length)/\(f5 ((ax (x4*(2:Nat)+x6)).2))))/\True)/\(ab (decide ((↑(bO ((ax (x4*(2:Nat)+x6)).2) (bA (((ax (x4*(2:Nat)+x6)).1).getD (↑x4:Int).toNat []) (l.getD (↑x6:Int).toNat []))):Int)<(↑(((ax (x4*(2:Nat)+x6)).2).length):Int))) ((aa (fN l x4 x6) (((ax (x4*(2:Nat)+x6)).2).length))/\(((ar ((((ax (x4*(2:Nat)+x6)).2).getD (fN l x4 x6).toNat []).length))/\True)/\(ab (decide (((ax (x4*(2:Nat)+x6)).2).getD ((↑(bO ((ax (x4*(2:Nat)+x6)).2) (bA (((ax (x4*(2:Nat)+x6)).1).getD (↑x4:Int).toNat []) (l.getD (↑x6:Int).toNat []))):Int).toNat) []=bA (((ax (x4*(2:Nat)+x6)).1).getD (↑x4:Int).toNat []) (l.getD (↑x6:Int).toNat []))) ((ae ((↑x6:Int)+(1:Int)))/\(∃x7:Nat,(((x4<(12:Nat))/\(x7<=(2:Nat)))/\(((2:Nat)-x7<(2:Nat)-x6)/\((l=l)/\((lim=lim)/\(((ax (x4*(2:Nat)+x6)).2=(ax (x4*(2:Nat)+x7)).2)/\(((↑x4:Int)=(↑x4:Int))/\(((↑x6:Int)+(1:Int)=(↑x7:Int))/\((ax (x4*(2:Nat)+x6)).1=(ax (x4*(2:Nat)+x7)).1))))))))))
 ((bD (((ax (x4*(2:Nat)+x6)).2).length) (Option.some (fN l x4 x6)) Option.none)/\((ar (FC.len (qf l x4 x6)+FC.len (FC.rows IntKind.i64 (bZ ((ax (x4*(2:Nat)+x6)).2) (Option.some (fN l x4 x6)) Option.none))))/\((bD (((ax (x4*(2:Nat)+x6)).2).length) Option.none (Option.some (fN l x4 x6)))/\((ar (([]:Dc).length+FC.len (FC.rows IntKind.i64 (bZ ((ax (x4*(2:Nat)+x6)).2) Option.none (Option.some (fN l x4 x6))))))/\((ar (FC.len (FC.rows IntKind.i64 (([]:Dc)++bZ ((ax (x4*(2:Nat)+x6)).2) Option.none (Option.some (fN l x4 x6))))+FC.len (FC.rows IntKind.i64 (qe l x4 x6))))/\((ar (FC.len (FC.rows IntKind.i64 ((ax (x4*(2:Nat)+x6)).1))+FC.len (qf l x4 x6)))/\((ae ((↑x6:Int)+(1:Int)))/\(∃x8:Nat,(((x4<(12:Nat))/\(x8<=(2:Nat)))/\(((2:Nat)-x8<(2:Nat)-x6)/\((l=l)/\((lim=lim)/\((([]:Dc)++bZ ((ax (x4*(2:Nat)+x6)).2) Option.none (Option.some (fN l x4 x6))++(qe l x4 x6)=(ax (x4*(2:Nat)+x8)).2)/\(((↑x4:Int)=(↑x4:Int))/\(((↑x6:Int)+(1:Int)=(↑x8:Int))/\((ax (x4*(2:Nat)+x6)).1++bA (((ax (x4*(2:Nat)+x6)).1).getD (↑x4:Int).toNat []) (l.getD (↑x6:Int).toNat [])::([]:Dc)=(ax (x4*(2:Nat)+x8)).1))))))))))))))))))) ((bD (((ax (x4*(2:Nat)+x6)).2).length) (Option.some (fN l x4 x6)) Option.none) /\
 ((ar (FC.len (qf l x4 x6)+FC.len (FC.rows IntKind.i64 (bZ ((ax (x4*(2:Nat)+x6)).2) (Option.some (fN l x4 x6)) Option.none))))/\((bD (((ax (x4*(2:Nat)+x6)).2).length) Option.none (Option.some (fN l x4 x6)))/\((ar (([]:Dc).length+FC.len (FC.rows IntKind.i64 (bZ ((ax (x4*(2:Nat)+x6)).2) Option.none (Option.some (fN l x4 x6))))))/\((ar (FC.len (FC.rows IntKind.i64 (([]:Dc)++bZ ((ax (x4*(2:Nat)+x6)).2) Option.none (Option.some (fN l x4 x6))))+FC.len (FC.rows IntKind.i64 (qe l x4 x6))))/\((ar (FC.len (FC.rows IntKind.i64 ((ax (x4*(2:Nat)+x6)).1))+FC.len (qf l x4 x6)))/\((ae ((↑x6:Int)+(1:Int)))/\(∃x9:Nat,(((x4<(12:Nat))/\(x9<=(2:Nat)))/\(((2:Nat)-x9<(2:Nat)-x6)/\((l=l)/\((lim=lim)/\((([]:Dc)++bZ ((ax (x4*(2:Nat)+x6)).2) Option.none (Option.some (fN l x4 x6))++(qe l x4 x6)=(ax (x4*(2:Nat)+x9)).2)/\(((↑x4:Int)=(↑x4:Int))/\(((↑x6:Int)+(1:Int)=(↑x9:Int))/\((ax (x4*(2:Nat)+x6)).1++bA (((ax (x4*(2:Nat)+x6)).1).getD (↑x4:Int).toNat []) (l.getD (↑x6:Int).toNat [])::([]:Dc)=(ax (x4*(2:Nat)+x9)).1))))))))))))))))))))) ((ae ((↑x4:Int)+(1:Int)))/\(∃x10:Nat,((x10<=(12:Nat))/\(((12:Nat)-x10<(12:Nat)-x4)/\((l=l)/\((lim=lim)/\(((ax (x4*(2:Nat)+x6)).2=(ax (x10*(2:Nat))).2)/\(((↑x4:Int)+(1:Int)=(↑x10:Int)) /\
 ((ax (x4*(2:Nat)+x6)).1=(ax (x10*(2:Nat))).1)))))))))) ((ae ((↑x4:Int)+(1:Int)))/\(∃x11:Nat,((x11<=(12:Nat))/\(((12:Nat)-x11<(12:Nat)-x4)/\((l=l)/\((lim=lim)/\(((ax (x4*(2:Nat)+x6)).2=(ax (x11*(2:Nat))).2)/\(((↑x4:Int)+(1:Int)=(↑x11:Int))/\((ax (x4*(2:Nat)+x6)).1=(ax (x11*(2:Nat))).1))))))))))))) (((ax (x4*(2:Nat))).1=(ax (24:Nat)).1)/\True)) (((ax (x4*(2:Nat))).1=(ax (24:Nat)).1)/\True)))))))))
theorem VM(n:Int)(l:Dc)(lim:Int):aE Tryz.prog (af MZ) MY (MX n l lim) Tryz.f213 (aF Tryz.f213) [] [.c (.int .i64 n),.c (.rows .i64 l),.c (.int .i64 lim)] (uI n l lim)=EL n l lim:=by kernel_rfl
theorem VN(n:Int)(l:Dc)(lim:Int)(ξ:(uI n l lim).pre):EL n l lim:=by
 simp only[uI,EL,fN,qe,qf,aH]at ξ⊢;obtain⟨rfl,rfl,rfl⟩:=ξ;have hl:iI.length=2:=rfl
 simp only[FC.len,bZ,hl,AP];refine⟨⟨0,by omega,rfl,rfl⟩,fun i hi=>⟨fun h=>?_,fun h=>⟨⟨0,by omega,?_,rfl,?_⟩,fun x hx=>⟨fun h1=>⟨fun h2=>⟨⟨0,⟨by omega,by omega⟩,rfl,rfl,rfl⟩,fun k ⟨hx1,hk⟩=>?_⟩,fun h2=>?_⟩,fun h1=>?_⟩⟩⟩⟩
 ·have:i=0\/i=1\/i=2\/i=3:=by omega
  rcases this with rfl|rfl|rfl|rfl
  ·exact⟨by omega,by omega,1,by omega,by omega,by omega,rfl⟩
  ·exact⟨by omega,by omega,2,by omega,by omega,by omega,rfl⟩
  ·exact⟨by omega,by omega,3,by omega,by omega,by omega,rfl⟩
  ·exact⟨by omega,by omega,4,by omega,by omega,by omega,rfl⟩
 ·have:i=4:=by omega
  subst this;rfl
 ·have:i=4:=by omega
  subst this;rfl
 ·have end2:k=2->(ax (x*2+k)).2=(ax ((x+1)*2)).2/\(ax (x*2+k)).1=(ax ((x+1)*2)).1:=fun e=>by
   subst e;rw[show x*2+2=(x+1)*2 by omega];exact⟨rfl,rfl⟩
  refine⟨fun h3=>⟨fun h4=>?_,fun h4=>?_⟩,fun h3=>?_⟩
  ·have hk2:k<2:=by omega
   have O:=uG (s:=x*2+k) (by omega)
   have oi:=O.i
   have o2:=O.l2
   have nx:ax (x*2+(k+1))=MP (ax (x*2+k)) (x*2+k):=rfl
   have e:bA ((ax (x*2+k)).1.getD x []) (iI.getD k [])=gH (ax (x*2+k)) (x*2+k):=by
    rw[gH,show(x*2+k) / 2=x by omega,show(x*2+k) % 2=k by omega]
   have r1:=uF O.p1 (i:=x) (by omega)
   have r2:=uF VI (i:=k) (by rw[hl];exact hk2)
   have pl:=un (ax (x*2+k)).2 (gH (ax (x*2+k)) (x*2+k))
   have room2:=EH O.p2
   rw[e];have nx2:ax (x*2+(k+1))=if bO (ax (x*2+k)).2 (gH (ax (x*2+k)) (x*2+k))<(ax (x*2+k)).2.length/\(ax (x*2+k)).2.getD (bO (ax (x*2+k)).2 (gH (ax (x*2+k)) (x*2+k))) []=gH (ax (x*2+k)) (x*2+k)then ax (x*2+k)else((ax (x*2+k)).1++[gH (ax (x*2+k)) (x*2+k)],ow (ax (x*2+k)).2 (gH (ax (x*2+k)) (x*2+k))):=nx
   generalize gH (ax (x*2+k)) (x*2+k)=m at pl nx2⊢
   have fin:¬ (bO (ax (x*2+k)).2 m<(ax (x*2+k)).2.length/\(ax (x*2+k)).2.getD (bO (ax (x*2+k)).2 m) []=m)->[]++List.take (bO (ax (x*2+k)).2 m) (ax (x*2+k)).2++([m]++List.drop (bO (ax (x*2+k)).2 m) (ax (x*2+k)).2)=(ax (x*2+(k+1))).2/\(ax (x*2+k)).1++[m]=(ax (x*2+(k+1))).1:=fun a=>by
    rw[nx2,AB a];exact⟨by simp[ow],rfl⟩
   refine⟨by omega,by omega,⟨by omega,fun j hj=>?_⟩,⟨by omega,room2,O.so⟩,fun p=>⟨by omega,room2 _ (cU _ _ _ (by omega)),fun q=>?_,fun q=>?_⟩,fun p=>?_⟩
   ·rw[r1.1]at hj;rw[r2.1];exact r1.2 j hj
   ·have o:ax (x*2+(k+1))=ax (x*2+k):=by rw[nx2,AA ⟨by omega,q⟩]
    exact⟨by omega,k+1,⟨hx1,by omega⟩,by omega,by rw[o],by omega,by rw[o]⟩
   ·obtain⟨f1,f2⟩:=fin fun c=>q c.2
    refine⟨by omega,?_,by omega,?_,?_,?_,by omega,k+1,⟨hx1,by omega⟩,by omega,f1,by omega,f2⟩<;>simp only[Al,AS,A6,AR,BV]<;>omega
   ·obtain⟨f1,f2⟩:=fin fun c=>p (by omega)
    refine⟨by omega,?_,by omega,?_,?_,?_,by omega,k+1,⟨hx1,by omega⟩,by omega,f1,by omega,f2⟩<;>simp only[Al,AS,A6,AR,BV]<;>omega
  ·exfalso
   by_cases e:x*2+k=24
   ·rw[e]at h4;have:=EG.1;omega
   ·have:=(uG (s:=x*2+k) (by omega)).l1;omega
  ·obtain⟨e1,e2⟩:=end2 (by omega)
   exact⟨by omega,x+1,by omega,by omega,e1,by omega,e2⟩
 ·exfalso
  by_cases e:x=12
  ·subst e;have:=EG.1;have e2:(ax (12*2)).1.length=12:=this;omega
  ·have:=(uG (s:=x*2) (by omega)).l1;omega
 ·have e:x=12:=by
   by_cases e:x=12
   ·exact e
   ·have:=(uG (s:=x*2) (by omega)).i;omega
  subst e;rfl
theorem VO:Fits Tryz.prog 213 ⟨[],EK⟩:=by
 refine aI (Γ:=af MZ) (aj sM (aj MN (aj sS aG))) Tryz.func213 fun ds p h hp=>?_
 unfold EK at h;split at h
 ·cases h
  exact⟨MY,MX _ _ _ ,by rw[VM];exact VN _ _ _  hp⟩
 ·cases h
def dq:Nat->Dc
 |0=>[]
 |i+1=>ow (dq i) ((ax 24).1.getD i [])
def M0(i:Nat):Bool:=decide ((dq i).length=i)&&uE (dq i)&&(dq i).all gI
theorem VP:(List.range 13).all M0=true:=by decide +kernel
theorem M1{i:Nat}(h:i<=12):(dq i).length=i/\f5 (dq i)/\(dq i).all gI=true:=by
 have:=AM.1 VP i (AW.2 (by omega))
 simp only[M0,AG,AQ]at this;exact⟨this.1.1,MT this.1.2,this.2⟩
def ed(K:Dc)(x y:Nat):Int:=fW K (bA (K.getD x []) (K.getD y []))
def M2:Dc:=[[0,1,2,3],[0,2,3,1],[0,3,1,2],[1,0,3,2],[1,2,0,3],[1,3,2,0],[2,0,1,3],[2,1,3,0],[2,3,0,1],[3,0,2,1],[3,1,0,2],[3,2,1,0]]
theorem VQ:dq 12=M2:=by decide +kernel
def mG:Dc:=bq 12 (ed M2)
def EM:List AD->Option Post
 | [.c (.rows .i64 K)]=>some ⟨K.length=12/\K.all gI=true,.c (.rows 62 2 .i64 (bq 12 (ed K))),[]⟩
 |_=>none
def M3(K:Dc):Nat->Option Ann
 |0=>V' (fun i=>⟨⟨[(0,I' K),(3,M' 600),(4,D' i)],[(600,O' (bn 12 i (ed K)))]⟩,i<=12,12-i⟩) (fun i b_=>match b_ with|2=>U' fun j=>⟨⟨[(0,I' K),(3,M' 600),(4,D' i),(5,M' 601),(6,D' j)],[(600,O' (bn 12 i (ed K))),(601,Q' (ap j (ed K i)))]⟩,i<12/\j<=12,12-j⟩|_=>none)
 |_=>none
theorem VT:Fits Tryz.prog 215 ⟨[],EM⟩:=by
 refine ffv (Γ:=af [(232,⟨[],sU⟩),(189,⟨[],nZ⟩)]) (aj KD (aj sM aG)) Tryz.func215 fun ds p h ξ=>?_
 unfold EM at h;split at h<;>cases h
 rename_i K
 refine⟨ah,M3 K,(∃x0:Nat,x0<=(12:Nat)/\K=K/\(0:Int)=(x0:Int)/\([]:Dc)=bn (12:Nat) x0 (ed K))/\∀x1:Nat,x1<=(12:Nat)->ab (decide ((x1:Int)<(K.length:Int))) ((∃x2:Nat,(x1<(12:Nat)/\x2<=(12:Nat))/\K=K/\(x1:Int)=(x1:Int)/\(0:Int)=(x2:Int)/\bn (12:Nat) x1 (ed K)=bn (12:Nat) x1 (ed K)/\[]=ap x2 (ed K x1))/\∀x3:Nat,x1<(12:Nat)/\x3<=(12:Nat)->ab (decide ((x3:Int)<(K.length:Int))) (aa (x1:Int) K.length/\aa (x3:Int) K.length/\((ar ((K.getD (x1:Int).toNat []).length)/\kw ((K.getD (x3:Int).toNat []).length) (K.getD (x1:Int).toNat []))/\True)/\(aD K/\True)/\ar ((ap x3 (ed K x1)).length+[fW K (bA (K.getD (x1:Int).toNat []) (K.getD (x3:Int).toNat []))].length)/\ae ((x3:Int)+(1:Int))/\∃x4:Nat,(x1<(12:Nat)/\x4<=(12:Nat))/\(12:Nat)-x4<(12:Nat)-x3/\K=K/\(x1:Int)=(x1:Int)/\(x3:Int)+(1:Int)=(x4:Int)/\bn (12:Nat) x1 (ed K)=bn (12:Nat) x1 (ed K)/\ap x3 (ed K x1)++[fW K (bA (K.getD (x1:Int).toNat []) (K.getD (x3:Int).toNat []))]=ap x4 (ed K x1)) (ar ((bn (12:Nat) x1 (ed K)).length+(ap x3 (ed K x1)::([]:Dc)).length)/\ae ((x1:Int)+(1:Int))/\∃x5:Nat,x5<=(12:Nat)/\(12:Nat)-x5<(12:Nat)-x1/\K=K/\(x1:Int)+(1:Int)=(x5:Int)/\bn (12:Nat) x1 (ed K)++ap x3 (ed K x1)::([]:Dc)=bn (12:Nat) x5 (ed K))) (bn (12:Nat) x1 (ed K)=bq (12:Nat) (ed K)/\True),by kernel_rfl,?_⟩
 simp only[aH]at ξ⊢;obtain⟨hl,hp⟩:=ξ;have R:aD K:=⟨by omega,EH hp⟩
 refine⟨⟨0,by omega,rfl,rfl⟩,fun i hi=>⟨fun h=>⟨⟨0,⟨by omega,by omega⟩,rfl,rfl⟩,fun j ⟨hi1,hj⟩=>⟨fun g=>?_,fun g=>⟨by rw[qd];omega,by omega,i+1,by omega,by omega,by omega,?_⟩⟩⟩,fun h=>?_⟩⟩
 ·have r1:=uF hp (i:=i) (by omega)
  have r2:=uF hp (i:=j) (by omega)
  exact⟨by omega,by omega,⟨by omega,fun k hk=>by rw[r1.1]at hk;rw[r2.1];exact r1.2 k hk⟩,R,by rw[bK];omega,by omega,j+1,⟨hi1,by omega⟩,by omega,by omega,by rw[tab_succ'];rfl⟩
 ·rw[qc,show j=12 by omega]
 ·rw[show i=12 by omega];rfl
def EO:List AD->Option Post
 | [.c (.int .i64 n),.c (.rows .i64 l)]=>some ⟨n=4/\l=iI,.tup [.inr [.rows 62 2 .i64 mG],.inl (.int .i64 0)],[]⟩
 |_=>none
def M5(n:Int)(l:Dc):Nat->Option Ann
 |1=>U' fun i=>⟨⟨[(4,N' 4),(6,I' ((ax 24).1)),(7,I' (dq i)),(8,D' i)],[(4,T' [.nil])]⟩,i<=12,12-i⟩
 |_=>none
def M6(t:Nat):Bool:=[1000029,1000046,1000051].contains t
def kD(x0:Nat):=(Option.some (↑(bO (dq x0) (((ax (24:Nat)).1).getD (↑x0:Int).toNat [])):Int))
theorem VW:Fits Tryz.prog 170 ⟨[],EO⟩:=by
 refine ffv (Γ:=af [(71,⟨[],pv⟩),(212,⟨[],EI⟩),(213,⟨[],EK⟩),(214,⟨[],uD⟩),(215,⟨[],EM⟩)]) (aj yh (aj VL (aj VO (aj MN (aj VT aG))))) Tryz.func170 fun ds p h ξ=>?_
 unfold EO at h;split at h<;>cases h
 rename_i n l
 refine⟨M6,M5 n l,(True/\True)/\ab (!decide ((1:Int)<=n/\n<=(12:Int))) (((([]:Dc)=mG/\True)/\(1:Int)=(0:Int)/\True)/\True) (((n=(4:Int)/\l=iI)/\True)/\((n=(4:Int)/\l=iI/\(12:Int)=(12:Int))/\True)/\(∃x0:Nat,x0<=(12:Nat)/\(ax (24:Nat)).1=(ax (24:Nat)).1/\([]:Dc)=dq x0/\(0:Int)=(x0:Int))/\∀x1:Nat,x1<=(12:Nat)->ab (decide ((x1:Int)<(12:Int))) (aa (x1:Int) (((ax (24:Nat)).1).length)/\(((dq x1).length<=(1000000000:Nat)/\(∀(x:Db),x∈dq x1->ar x.length)/\f5 (dq x1))/\True)/\aa (x1:Int) (((ax (24:Nat)).1).length)/\bD (dq x1).length (kD x1) Option.none/\ar (FC.len (FC.rows IntKind.i64 (((ax (24:Nat)).1).getD (x1:Int).toNat []::([]:Dc)))+FC.len (FC.rows IntKind.i64 (bZ (dq x1) (kD x1) Option.none)))/\bD (dq x1).length Option.none (kD x1)/\ar (([]:Dc).length+FC.len (FC.rows IntKind.i64 (bZ (dq x1) Option.none (kD x1))))/\ar (FC.len (FC.rows IntKind.i64 (([]:Dc)++bZ (dq x1) Option.none (kD x1)))+FC.len (FC.rows IntKind.i64 (((ax (24:Nat)).1).getD (x1:Int).toNat []::([]:Dc)++bZ (dq x1) (kD x1) Option.none)))/\ae ((x1:Int)+(1:Int))/\∃x2:Nat,x2<=(12:Nat)/\(12:Nat)-x2<(12:Nat)-x1/\(ax (24:Nat)).1=(ax (24:Nat)).1/\([]:Dc)++bZ (dq x1) Option.none (kD x1)++(((ax (24:Nat)).1).getD (x1:Int).toNat []::([]:Dc)++bZ (dq x1) (kD x1) Option.none)=dq x2/\(x1:Int)+(1:Int)=(x2:Int)) ((((dq x1).length=(12:Nat)/\List.all (dq x1) gI=true)/\True)/\((bq (12:Nat) (ed (dq x1))=mG/\True)/\(0:Int)=(0:Int)/\True)/\True)),by kernel_rfl,?_⟩
 simp only[kD,aH]at ξ⊢;obtain⟨rfl,rfl⟩:=ξ;have ge:=EG.1
 refine⟨fun h=>absurd (by omega) h,fun _=>⟨⟨rfl,rfl⟩,⟨rfl,rfl⟩,⟨0,by omega,rfl,rfl⟩,fun i hi=>⟨fun h=>?_,fun h=>?_⟩⟩⟩
 ·obtain⟨l,so,p⟩:=M1 (i:=i) (by omega)
  have pl:=un (dq i) ((ax 24).1.getD i [])
  have nx:dq (i+1)=ow (dq i) ((ax 24).1.getD i []):=rfl
  rw[ow]at nx;simp only[FC.len,bZ,AP];refine⟨by omega,⟨by omega,EH p,so⟩,by omega,by omega,?_,by omega,?_,?_,by omega,i+1,by omega,by omega,by rw[nx];simp,by omega⟩<;>simp only[Al,AS,A6,AR,BV]<;>omega
 ·have e:i=12:=by omega
  subst e;obtain⟨l,_,p⟩:=M1 (i:=12) (by omega)
  exact⟨⟨l,p⟩,by rw[VQ];rfl⟩
end Go.Sx
