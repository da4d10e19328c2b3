/- Lists -/
import Derived.Test.YtkmldclpaniclaaGreatProg
import Derived.Test.YtkmldclpaniclaaGreatSxZ
import Derived.KernelRfl
open Go Go.Proofs
namespace Go.Sx
set_option linter.unusedSimpArgs false
set_option linter.unusedVariables false
def sd(l:V7):Post:=⟨af l.length,.c (.ints 2 .i64 l),[]⟩
def yk:List AD->Option Post
 | [.c (.ints .i64 l)]=>some (sd l)
 |_=>none
def Gw(l:V7):Nat->Option Ann
 |0=>some (Ann.mk ((Nat)) (fun i=>⟨[(0,.c (.ro (.ints .i64 l))),(4,.c (.int .i64 ((i:Int)))),(3,.c (.own 1))],[(1,some (.ints 2 .i64 (l.take i++List.replicate (l.length-i) 0)))]⟩) (fun i=>i<=l.length) (fun i=>l.length-i) (fun _=>am))
 |_=>none
def Gx:List (Nat×Ctr):=[]
def ym(l:V7):Prop :=
 ((0:Int)<=(l.length:Int)/\(l.length:Int)<=(l.length:Int)/\af (l.length:Int).toNat)/\(∃x0:Nat,x0<=l.length/\l=l/\(0:Int)=(x0:Int)/\List.replicate (l.length:Int).toNat (0:Int)=List.take x0 l++List.replicate (l.length-x0) (0:Int))/\∀x1:Nat,x1<=l.length->ae (decide ((x1:Int)<(l.length:Int))) (aa (x1:Int) l.length/\aa (x1:Int) ((List.take x1 l++List.replicate (l.length-x1) (0:Int)).length)/\ac ((x1:Int)+(1:Int))/\∃x2:Nat,x2<=l.length/\l.length-x2<l.length-x1/\l=l/\(x1:Int)+(1:Int)=(x2:Int)/\List.set (List.take x1 l++List.replicate (l.length-x1) (0:Int)) (x1:Int).toNat (l.getD (x1:Int).toNat (0:Int))=List.take x2 l++List.replicate (l.length-x2) (0:Int)) (List.take x1 l++List.replicate (l.length-x1) (0:Int)=l/\True)
theorem PP(l:V7):aJ Tryz.prog (ai Gx) ak (Gw l) Tryz.f97 (aE Tryz.f97) [] [.c (.ints .i64 l)] (sd l)=ym l:=by kernel_rfl
theorem PQ(l:V7)(Yh:(sd l).pre):ym l:=by
 simp only[sd,ym,aG,u1,u2,u3,u4,u5,u6,u7,u8,u9,v1,v2,v3,v4,v5,v6,v7,v8,v9,w1,w2,w3,w4,aH,aa,ac,af,ar]at Yh⊢;exact⟨by omega,⟨0,by omega,by simp,by simp⟩,fun i hi=>⟨fun h=>⟨by omega,by omega,by omega,i+1,by omega,by omega,by omega,oo l 0 0 i (by omega)⟩,fun h=>D1 l 0 i (by omega)⟩⟩
theorem PR:Fits Tryz.prog 97 ⟨[],yk⟩:=by
 refine aO (Γ:=ai Gx) aF Tryz.func97 fun ds p h hp=>?_
 unfold yk at h;split at h
 ·cases h
  exact⟨ak,Gw _ ,by rw[PP];exact PQ _  hp⟩
 ·cases h
def se(a:V7)(b:V7):Post:=⟨af a.length,.c (.bool (decide (a=b))),[]⟩
def yn:List AD->Option Post
 | [.c (.ints .i64 a),.c (.ints .i64 b)]=>some (se a b)
 |_=>none
def Gy(a:V7)(b:V7):Nat->Option Ann
 |0=>some (Ann.mk ((Nat)) (fun i=>⟨[(0,.c (.ro (.ints .i64 a))),(1,.c (.ro (.ints .i64 b))),(5,.c (.int .i64 ((i:Int))))],[]⟩) (fun i=>i<=a.length/\a.length=b.length/\a.take i=b.take i) (fun i=>a.length-i) (fun _=>am))
 |_=>none
def Gz:List (Nat×Ctr):=[]
def yq(a:V7)(b:V7):Prop :=
 ae ((a.length:Int) != (b.length:Int)) (false=decide (a=b)/\True) ((∃x0:Nat,(x0<=a.length/\a.length=b.length/\List.take x0 a=List.take x0 b)/\a=a/\b=b/\(0:Int)=(x0:Int))/\∀x1:Nat,x1<=a.length/\a.length=b.length/\List.take x1 a=List.take x1 b->ae (decide ((x1:Int)<(a.length:Int))) (aa (x1:Int) a.length/\aa (x1:Int) b.length/\ae (a.getD (x1:Int).toNat (0:Int) != b.getD (x1:Int).toNat (0:Int)) (false=decide (a=b)/\True) (ac ((x1:Int)+(1:Int))/\∃x2:Nat,(x2<=a.length/\a.length=b.length/\List.take x2 a=List.take x2 b)/\a.length-x2<a.length-x1/\a=a/\b=b/\(x1:Int)+(1:Int)=(x2:Int))) (true=decide (a=b)/\True))
theorem PS(a:V7)(b:V7):aJ Tryz.prog (ai Gz) ak (Gy a b) Tryz.f104 (aE Tryz.f104) [] [.c (.ints .i64 a),.c (.ints .i64 b)] (se a b)=yq a b:=by kernel_rfl
theorem PT(a:V7)(b:V7)(Yh:(se a b).pre):yq a b:=by
 simp only[se,yq,aG,u1,u2,u3,u4,u5,u6,u7,u8,u9,v1,v2,v3,v4,v5,v6,v7,v8,v9,w1,w2,w3,w4,aH,aa,ac,af,ar]at Yh⊢;refine⟨fun h=>?_,fun h=>⟨⟨0,⟨by omega,by omega,rfl⟩,by simp⟩,fun i hi=>⟨fun h1=>⟨by omega,by omega,fun h2=>?_,fun h2=>⟨by omega,i+1,⟨by omega,hi.2.1,?_⟩,by omega,by omega⟩⟩,fun h1=>?_⟩⟩⟩
 ·exact(decide_eq_false fun e=>h (by rw[e])).symm
 ·exact(decide_eq_false fun e=>h2 (by rw[e])).symm
 ·exact(D2 a b 0 i (by omega) (by omega) hi.2.2).2 h2
 ·refine(decide_eq_true ?_).symm
  have:=hi.2.2
  rwa[List.take_of_length_le (by omega),List.take_of_length_le (by omega)]at this
theorem PU:Fits Tryz.prog 104 ⟨[],yn⟩:=by
 refine aO (Γ:=ai Gz) aF Tryz.func104 fun ds p h hp=>?_
 unfold yn at h;split at h
 ·cases h
  exact⟨ak,Gy _ _ ,by rw[PS];exact PT _ _  hp⟩
 ·cases h
def sf(l:V7)(k:Int):Post:=⟨(l.length:Int)<=9223372036854775807/\0<=k/\k<=1099511627776,.c (.int .i64 (if k<(l.length:Int)then -1 else k-(l.length:Int))),[]⟩
def yr:List AD->Option Post
 | [.c (.ints .i64 l),.c (.int .i64 k)]=>some (sf l k)
 |_=>none
def GA:List (Nat×Ctr):=[]
def yt(l:V7)(k:Int):Prop :=
 ac (k-(l.length:Int))/\ae (decide (k-(l.length:Int)<(0:Int))) (((-1:Int)=if k<(l.length:Int)then(-1:Int)else k-(l.length:Int))/\True) ((k-(l.length:Int)=if k<(l.length:Int)then(-1:Int)else k-(l.length:Int))/\True)
theorem PV(l:V7)(k:Int):aJ Tryz.prog (ai GA) ak am Tryz.f93 (aE Tryz.f93) [] [.c (.ints .i64 l),.c (.int .i64 k)] (sf l k)=yt l k:=by kernel_rfl
theorem PW(l:V7)(k:Int)(Yh:(sf l k).pre):yt l k:=by
 simp only[sf,yt,aG,u1,u2,u3,u4,u5,u6,u7,u8,u9,v1,v2,v3,v4,v5,v6,v7,v8,v9,w1,w2,w3,w4,aH,aa,ac,af,ar]at Yh⊢;obtain⟨h1,h2,h3⟩:=Yh;refine⟨by omega,fun h=>?_,fun h=>?_⟩
 ·rw[if_pos (by omega)]
 ·rw[if_neg (by omega)]
theorem PX:Fits Tryz.prog 93 ⟨[],yr⟩:=by
 refine aO (Γ:=ai GA) aF Tryz.func93 fun ds p h hp=>?_
 unfold yr at h;split at h
 ·cases h
  exact⟨ak,am,by rw[PV];exact PW _ _  hp⟩
 ·cases h
def sg(n:Int)(a:Int)(b:Int):Post:=⟨True,.c (.bool (decide (a<=n/\n<=b))),[]⟩
def oF:List AD->Option Post
 | [.c (.int .i64 n),.c (.int .i64 a),.c (.int .i64 b)]=>some (sg n a b)
 |_=>none
def GB:List (Nat×Ctr):=[]
def yu(n:Int)(a:Int)(b:Int):Prop :=
 ae (decide (a<=n)) (decide (n<=b)=decide (a<=n/\n<=b)/\True) (false=decide (a<=n/\n<=b)/\True)
theorem PY(n:Int)(a:Int)(b:Int):aJ Tryz.prog (ai GB) ak am Tryz.f73 (aE Tryz.f73) [] [.c (.int .i64 n),.c (.int .i64 a),.c (.int .i64 b)] (sg n a b)=yu n a b:=by kernel_rfl
theorem PZ(n:Int)(a:Int)(b:Int)(Yh:(sg n a b).pre):yu n a b:=by
 simp only[sg,yu,aG,u1,u2,u3,u4,u5,u6,u7,u8,u9,v1,v2,v3,v4,v5,v6,v7,v8,v9,w1,w2,w3,w4,aH,aa,ac,af,ar]at Yh⊢;refine⟨fun h=>?_,fun h=>?_⟩
 ·simp[h]
 ·simp[h]
theorem yw:Fits Tryz.prog 73 ⟨[],oF⟩:=by
 refine aO (Γ:=ai GB) aF Tryz.func73 fun ds p h hp=>?_
 unfold oF at h;split at h
 ·cases h
  exact⟨ak,am,by rw[PY];exact PZ _ _ _  hp⟩
 ·cases h
def sh(n:Int)(a:Int)(b:Int):Post:=⟨True,.c (.bool (decide (a<=n/\n<=b))),[]⟩
def si:List AD->Option Post
 | [.c (.int .i64 n),.c (.int .i64 a),.c (.int .i64 b)]=>some (sh n a b)
 |_=>none
def GC:List (Nat×Ctr):=[]
def yx(n:Int)(a:Int)(b:Int):Prop :=
 ae (decide (a<=n)) (decide (n<=b)=decide (a<=n/\n<=b)/\True) (false=decide (a<=n/\n<=b)/\True)
theorem P0(n:Int)(a:Int)(b:Int):aJ Tryz.prog (ai GC) ak am Tryz.f71 (aE Tryz.f71) [] [.c (.int .i64 n),.c (.int .i64 a),.c (.int .i64 b)] (sh n a b)=yx n a b:=by kernel_rfl
theorem P1(n:Int)(a:Int)(b:Int)(Yh:(sh n a b).pre):yx n a b:=by
 simp only[sh,yx,aG,u1,u2,u3,u4,u5,u6,u7,u8,u9,v1,v2,v3,v4,v5,v6,v7,v8,v9,w1,w2,w3,w4,aH,aa,ac,af,ar]at Yh⊢;refine⟨fun h=>?_,fun h=>?_⟩
 ·simp[h]
 ·simp[h]
theorem GD:Fits Tryz.prog 71 ⟨[],si⟩:=by
 refine aO (Γ:=ai GC) aF Tryz.func71 fun ds p h hp=>?_
 unfold si at h;split at h
 ·cases h
  exact⟨ak,am,by rw[P0];exact P1 _ _ _  hp⟩
 ·cases h
def dz(lo hi:Int)(l:V7):Bool:=l.all fun x=>decide (lo<=x/\x<=hi)
theorem GE(lo hi:Int)(l:V7)(i:Nat)(h:i<l.length):dz lo hi (l.drop i)=(decide (lo<=l.getD i 0/\l.getD i 0<=hi)&&dz lo hi (l.drop (i+1))):=by
 rw[drop_cons' l 0 i h];rfl
theorem P2{lo hi:Int}{l:V7}(h:dz lo hi l=true)(i:Nat)(hi':i<l.length):lo<=l.getD i 0/\l.getD i 0<=hi:=by
 rw[bF l 0 i hi'];have:=List.all_eq_true.1 h _ (List.getElem_mem hi')
 simpa using this
def sj(l:V7)(a:Int)(b:Int):Post:=⟨af l.length,.c (.bool (dz a b l)),[]⟩
def yy:List AD->Option Post
 | [.c (.ints .i64 l),.c (.int .i64 a),.c (.int .i64 b)]=>some (sj l a b)
 |_=>none
def GF(l:V7)(a:Int)(b:Int):Nat->Option Ann
 |0=>some (Ann.mk ((Nat)) (fun i=>⟨[(1,.c (.int .i64 a)),(2,.c (.int .i64 b)),(9,.c (.ro (.ints .i64 l))),(10,.c (.int .i64 ((l.length:Int)))),(11,.c (.int .i64 ((i:Int))))],[]⟩) (fun i=>i<=l.length/\dz a b l=dz a b (l.drop i)) (fun i=>l.length-i) (fun _=>am))
 |_=>none
def GG:List (Nat×Ctr):=[(73,⟨[],oF⟩)]
def yz(l:V7)(a:Int)(b:Int):Prop :=
 (∃x0:Nat,(x0<=l.length/\dz a b l=dz a b (List.drop x0 l))/\a=a/\b=b/\l=l/\(l.length:Int)=(l.length:Int)/\(0:Int)=(x0:Int))/\∀x1:Nat,x1<=l.length/\dz a b l=dz a b (List.drop x1 l)->ae (decide ((x1:Int)<(l.length:Int))) (aa (x1:Int) l.length/\(True/\True)/\ae (!decide (a<=l.getD (x1:Int).toNat (0:Int)/\l.getD (x1:Int).toNat (0:Int)<=b)) (false=dz a b l/\True) (ac ((x1:Int)+(1:Int))/\∃x2:Nat,(x2<=l.length/\dz a b l=dz a b (List.drop x2 l))/\l.length-x2<l.length-x1/\a=a/\b=b/\l=l/\(l.length:Int)=(l.length:Int)/\(x1:Int)+(1:Int)=(x2:Int))) (true=dz a b l/\True)
theorem P3(l:V7)(a:Int)(b:Int):aJ Tryz.prog (ai GG) ak (GF l a b) Tryz.f206 (aE Tryz.f206) [] [.c (.ints .i64 l),.c (.int .i64 a),.c (.int .i64 b)] (sj l a b)=yz l a b:=by kernel_rfl
theorem P4(l:V7)(a:Int)(b:Int)(Yh:(sj l a b).pre):yz l a b:=by
 simp only[sj,yz,aG,u1,u2,u3,u4,u5,u6,u7,u8,u9,v1,v2,v3,v4,v5,v6,v7,v8,v9,w1,w2,w3,w4,aH,aa,ac,af,ar]at Yh⊢;refine⟨⟨0,⟨by omega,rfl⟩,rfl⟩,fun i ⟨hi,he⟩=>⟨fun h=>?_,fun h=>?_⟩⟩
 ·have hd:=GE a b l i (by omega)
  refine⟨by omega,fun h1=>?_,fun h1=>⟨by omega,i+1,⟨by omega,?_⟩,by omega,by omega⟩⟩
  ·rw[he,hd,decide_eq_false h1];rfl
  ·rw[he,hd,decide_eq_true h1];rfl
 ·rw[he,List.drop_of_length_le (by omega)];rfl
theorem P5:Fits Tryz.prog 206 ⟨[],yy⟩:=by
 refine aO (Γ:=ai GG) (aw yw aF) Tryz.func206 fun ds p h hp=>?_
 unfold yy at h;split at h
 ·cases h
  exact⟨ak,GF _ _ _ ,by rw[P3];exact P4 _ _ _  hp⟩
 ·cases h
def bg(l:V8):Nat:=(l.map List.length).sum
theorem P6(l:V8)(i:Nat)(h:i<l.length):bg (l.take (i+1))=bg (l.take i)+(l.getD i []).length:=by
 rw[<-dF l [] i h];simp[bg]
theorem P7(l:V8)(i:Nat):bg (l.take i)<=bg l:=by
 have h:bg l=bg (l.take i)+bg (l.drop i):=by
  rw[bg,bg,bg,<-List.sum_append,<-List.map_append,List.take_append_drop]
 omega
theorem P8{l:V8}{r:V7}(h:r∈l):r.length<=bg l:=by
 induction l with
 |nil=>simp at h
 |cons x l ih =>
  simp only[bg,List.map_cons,List.sum_cons]at ih⊢;rcases List.mem_cons.1 h with rfl|h
  ·omega
  ·have:=ih h;omega
def aM(l:V8):Prop:=l.length<=1099511627776/\∀r∈l,r.length<=1099511627776
theorem yA{l:V8}(h:aM l)(i:Nat)(hi:i<l.length):(l.getD i []).length<=1099511627776:=h.2 _ (bM l [] i hi)
def sk(l:V8)(k:Int):Post:=⟨(l.length:Int)<=9223372036854775807/\(∀r∈l,(r.length:Int)<=9223372036854775807)/\0<=k/\k<=1099511627776,.c (.int .i64 (if k<(l.length:Int)+(bg l:Int)then -1 else k-(l.length:Int)-(bg l:Int))),[]⟩
def yB:List AD->Option Post
 | [.c (.rows .i64 l),.c (.int .i64 k)]=>some (sk l k)
 |_=>none
def GH(l:V8)(k:Int):Nat->Option Ann
 |0=>some (Ann.mk ((Nat)) (fun i=>⟨[(0,.c (.ro (.rows .i64 l))),(1,.c (.int .i64 (k-(l.length:Int)-(bg (l.take i):Int)))),(5,.c (.int .i64 ((i:Int))))],[]⟩) (fun i=>i<=l.length/\(l.length:Int)+(bg (l.take i):Int)<=k) (fun i=>l.length-i) (fun _=>am))
 |_=>none
def GI:List (Nat×Ctr):=[(93,⟨[],yr⟩)]
def yC(l:V8)(k:Int):Prop :=
 (ac (k-(l.length:Int))/\(ae (decide (k-(l.length:Int)<(0:Int))) (((-1:Int)=if k<(l.length:Int)+(bg l:Int)then(-1:Int)else k-(l.length:Int)-(bg l:Int))/\True) ((∃x0:Nat,(x0<=l.length/\(l.length:Int)+(↑(bg (List.take x0 l)):Int)<=k)/\l=l/\k-(l.length:Int)=k-(l.length:Int)-(↑(bg (List.take x0 l)):Int)/\(0:Int)=(x0:Int))/\(∀x1:Nat,(x1<=l.length/\(l.length:Int)+(↑(bg (List.take x1 l)):Int)<=k->(ae (decide ((x1:Int)<(l.length:Int))) (aa (x1:Int) l.length/\((((↑((l.getD (x1:Int).toNat []).length):Int)<=(9223372036854775807:Int)/\(0:Int)<=k-(l.length:Int)-(↑(bg (List.take x1 l)):Int)/\k-(l.length:Int)-(↑(bg (List.take x1 l)):Int)<=(1099511627776:Int))/\True)/\(ae (decide ((if k-(l.length:Int)-(↑(bg (List.take x1 l)):Int)<(↑((l.getD (x1:Int).toNat []).length):Int)then(-1:Int)else k-(l.length:Int)-(↑(bg (List.take x1 l)):Int)-(↑((l.getD (x1:Int).toNat []).length):Int))<(0:Int))) (((-1:Int)=if k<(l.length:Int)+(bg l:Int)then(-1:Int)else k-(l.length:Int)-(bg l:Int))/\True) (ac ((x1:Int)+(1:Int))/\(∃x2:Nat,((x2<=l.length/\(l.length:Int)+(↑(bg (List.take x2 l)):Int)<=k)/\(l.length-x2<l.length-x1/\((l=l) /\
 (((if k-(l.length:Int)-(↑(bg (List.take x1 l)):Int)<(↑((l.getD (x1:Int).toNat []).length):Int)then(-1:Int)else k-(l.length:Int)-(↑(bg (List.take x1 l)):Int)-(↑((l.getD (x1:Int).toNat []).length):Int))=k-(l.length:Int)-(↑(bg (List.take x2 l)):Int))/\((x1:Int)+(1:Int)=(x2:Int))))))))))) ((k-(l.length:Int)-(↑(bg (List.take x1 l)):Int)=if k<(l.length:Int)+(bg l:Int)then(-1:Int)else k-(l.length:Int)-(bg l:Int))/\True)))))))
theorem P9(l:V8)(k:Int):aJ Tryz.prog (ai GI) ak (GH l k) Tryz.f49 (aE Tryz.f49) [] [.c (.rows .i64 l),.c (.int .i64 k)] (sk l k)=yC l k:=by kernel_rfl
theorem Qa(l:V8)(k:Int)(Yh:(sk l k).pre):yC l k:=by
 simp only[sk,yC,aG,u1,u2,u3,u4,u5,u6,u7,u8,u9,v1,v2,v3,v4,v5,v6,v7,v8,v9,w1,w2,w3,w4,aH,aa,ac,af,ar]at Yh⊢;obtain⟨h1,h2,h3,h4⟩:=Yh;refine⟨by omega,fun h=>by rw[if_pos (by omega)],fun h=>⟨⟨0,⟨by omega,by simp[bg];omega⟩,by simp[bg],rfl⟩,fun i ⟨hi,he⟩=>⟨fun h=>?_,fun h=>?_⟩⟩⟩
 ·have q1:=h2 _ (bM l [] i (by omega))
  have q2:=P6 l i (by omega)
  have q3:=P7 l (i+1)
  refine⟨by omega,by omega,fun h5=>?_,fun h5=>?_⟩
  ·split at h5
   ·rw[if_pos (by omega)]
   ·omega
  ·split at h5
   ·omega
   ·rename_i h6
    rw[if_neg h6];exact⟨by omega,i+1,by omega,by omega,by omega,by omega⟩
 ·rw[List.take_of_length_le (by omega)]at he⊢
  rw[if_neg (by omega)]
theorem Qb:Fits Tryz.prog 49 ⟨[],yB⟩:=by
 refine aO (Γ:=ai GI) (aw PX aF) Tryz.func49 fun ds p h hp=>?_
 unfold yB at h;split at h
 ·cases h
  exact⟨ak,GH _ _ ,by rw[P9];exact Qa _ _  hp⟩
 ·cases h
def sm(l:V8):Post:=⟨aM l,.c (.rows 62 2 .i64 l),[]⟩
def yD:List AD->Option Post
 | [.c (.rows .i64 l)]=>some (sm l)
 |_=>none
def GJ(l:V8):Nat->Option Ann
 |0=>some (Ann.mk ((Nat)) (fun i=>⟨[(0,.c (.ro (.rows .i64 l))),(4,.c (.int .i64 ((i:Int)))),(3,.c (.own 7))],[(7,some (.rows 0 62 2 .i64 (l.take i++List.replicate (l.length-i) [])))]⟩) (fun i=>i<=l.length) (fun i=>l.length-i) (fun _=>am))
 |_=>none
def GK:List (Nat×Ctr):=[(97,⟨[],yk⟩)]
def yE(l:V8):Prop :=
 ((0:Int)<=(l.length:Int)/\(l.length:Int)<=(l.length:Int)/\af (l.length:Int).toNat)/\(∃x0:Nat,x0<=l.length/\l=l/\(0:Int)=(x0:Int)/\List.replicate (l.length:Int).toNat []=List.take x0 l++List.replicate (l.length-x0) ([]:V7))/\∀x1:Nat,x1<=l.length->ae (decide ((x1:Int)<(l.length:Int))) (aa (x1:Int) l.length/\(af ((l.getD (x1:Int).toNat []).length)/\True)/\aa (x1:Int) ((List.take x1 l++List.replicate (l.length-x1) ([]:V7)).length)/\ac ((x1:Int)+(1:Int))/\∃x2:Nat,x2<=l.length/\l.length-x2<l.length-x1/\l=l/\(x1:Int)+(1:Int)=(x2:Int)/\List.set (List.take x1 l++List.replicate (l.length-x1) ([]:V7)) (x1:Int).toNat (l.getD (x1:Int).toNat [])=List.take x2 l++List.replicate (l.length-x2) ([]:V7)) (List.take x1 l++List.replicate (l.length-x1) ([]:V7)=l/\True)
theorem Qc(l:V8):aJ Tryz.prog (ai GK) ak (GJ l) Tryz.f52 (aE Tryz.f52) [] [.c (.rows .i64 l)] (sm l)=yE l:=by kernel_rfl
theorem Qd(l:V8)(Yh:(sm l).pre):yE l:=by
 simp only[sm,yE,aG,u1,u2,u3,u4,u5,u6,u7,u8,u9,v1,v2,v3,v4,v5,v6,v7,v8,v9,w1,w2,w3,w4,aH,aa,ac,af,ar]at Yh⊢;have h1:=Yh.1
 exact⟨by omega,⟨0,by omega,by simp,by simp⟩,fun i hi=>⟨fun h=>⟨by omega,yA Yh i (by omega),by omega,by omega,i+1,by omega,by omega,by omega,oo l [] [] i (by omega)⟩,fun h=>D1 l [] i (by omega)⟩⟩
theorem Qe:Fits Tryz.prog 52 ⟨[],yD⟩:=by
 refine aO (Γ:=ai GK) (aw PR aF) Tryz.func52 fun ds p h hp=>?_
 unfold yD at h;split at h
 ·cases h
  exact⟨ak,GJ _ ,by rw[Qc];exact Qd _  hp⟩
 ·cases h
def sn(a:V8)(b:V8):Post:=⟨aM a,.c (.bool (decide (a=b))),[]⟩
def yF:List AD->Option Post
 | [.c (.rows .i64 a),.c (.rows .i64 b)]=>some (sn a b)
 |_=>none
def GL(a:V8)(b:V8):Nat->Option Ann
 |0=>some (Ann.mk ((Nat)) (fun i=>⟨[(0,.c (.ro (.rows .i64 a))),(1,.c (.ro (.rows .i64 b))),(5,.c (.int .i64 ((i:Int))))],[]⟩) (fun i=>i<=a.length/\a.length=b.length/\a.take i=b.take i) (fun i=>a.length-i) (fun _=>am))
 |_=>none
def GM:List (Nat×Ctr):=[(104,⟨[],yn⟩)]
def yG(a:V8)(b:V8):Prop :=
 ae ((a.length:Int) != (b.length:Int)) (false=decide (a=b)/\True) ((∃x0:Nat,(x0<=a.length/\a.length=b.length/\List.take x0 a=List.take x0 b)/\a=a/\b=b/\(0:Int)=(x0:Int))/\∀x1:Nat,x1<=a.length/\a.length=b.length/\List.take x1 a=List.take x1 b->ae (decide ((x1:Int)<(a.length:Int))) (aa (x1:Int) a.length/\aa (x1:Int) b.length/\(af ((a.getD (x1:Int).toNat []).length)/\True)/\ae (!decide (a.getD (x1:Int).toNat []=b.getD (x1:Int).toNat [])) (false=decide (a=b)/\True) (ac ((x1:Int)+(1:Int))/\∃x2:Nat,(x2<=a.length/\a.length=b.length/\List.take x2 a=List.take x2 b)/\a.length-x2<a.length-x1/\a=a/\b=b/\(x1:Int)+(1:Int)=(x2:Int))) (true=decide (a=b)/\True))
theorem Qf(a:V8)(b:V8):aJ Tryz.prog (ai GM) ak (GL a b) Tryz.f55 (aE Tryz.f55) [] [.c (.rows .i64 a),.c (.rows .i64 b)] (sn a b)=yG a b:=by kernel_rfl
theorem Qg(a:V8)(b:V8)(Yh:(sn a b).pre):yG a b:=by
 simp only[sn,yG,aG,u1,u2,u3,u4,u5,u6,u7,u8,u9,v1,v2,v3,v4,v5,v6,v7,v8,v9,w1,w2,w3,w4,aH,aa,ac,af,ar]at Yh⊢;have h0:=Yh.1
 refine⟨fun h=>?_,fun h=>⟨⟨0,⟨by omega,by omega,rfl⟩,by simp⟩,fun i hi=>⟨fun h1=>⟨by omega,by omega,yA Yh i (by omega),fun h2=>?_,fun h2=>⟨by omega,i+1,⟨by omega,hi.2.1,?_⟩,by omega,by omega⟩⟩,fun h1=>?_⟩⟩⟩
 ·exact(decide_eq_false fun e=>h (by rw[e])).symm
 ·exact(decide_eq_false fun e=>h2 (by rw[e])).symm
 ·exact(D2 a b [] i (by omega) (by omega) hi.2.2).2 h2
 ·refine(decide_eq_true ?_).symm
  have:=hi.2.2
  rwa[List.take_of_length_le (by omega),List.take_of_length_le (by omega)]at this
theorem Qh:Fits Tryz.prog 55 ⟨[],yF⟩:=by
 refine aO (Γ:=ai GM) (aw PU aF) Tryz.func55 fun ds p h hp=>?_
 unfold yF at h;split at h
 ·cases h
  exact⟨ak,GL _ _ ,by rw[Qf];exact Qg _ _  hp⟩
 ·cases h
theorem GN{t:V8}{k:Int}(h:¬ (if k<(t.length:Int)+(bg t:Int)then(-1:Int)else k-(t.length:Int)-(bg t:Int))<0)(hk:k<=1048576:=by omega) :
  t.length<=1048576/\bg t<=1048576/\aM t:=by
 split at h
 ·omega
 ·refine⟨by omega,by omega,by omega,fun r hr=>?_⟩
  have:=P8 hr
  omega
end Go.Sx
