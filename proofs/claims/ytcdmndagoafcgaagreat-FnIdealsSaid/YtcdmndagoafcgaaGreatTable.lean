/- Table -/
import Derived.Test.YtcdmndagoafcgaaGreatProg
import Derived.Test.YtcdmndagoafcgaaGreatSxZ
import Derived.KernelRfl
open Go Go.Proofs
namespace Go.Sx
set_option linter.unusedSimpArgs false
set_option linter.unusedVariables false
def xp (n:Int) (a:Int) (b:Int):Post:=⟨True,.c (.bool (decide (a≤n∧n≤b))),[]⟩
def oH:List AD→Option Post
 | [.c (.int .i64 (n)),.c (.int .i64 (a)),.c (.int .i64 (b))]=>some (xp n a b)
 | _=>none
def M5:List (Nat×Ctr):=[]
def Fs (n:Int) (a:Int) (b:Int):Prop :=
 (ac (decide (a≤n)) ((decide (n≤b)=decide (a≤n∧n≤b))∧True) ((false=decide (a≤n∧n≤b))∧True))
theorem XN (n:Int) (a:Int) (b:Int):aC Tryz.prog (af M5) ah am Tryz.f108 (aE Tryz.f108) [] [.c (.int .i64 (n)),.c (.int .i64 (a)),.c (.int .i64 (b))] (xp n a b)=Fs n a b:=by kernel_rfl
theorem XO (n:Int) (a:Int) (b:Int) (Yh:(xp n a b).pre):Fs n a b:=by
 simp only [xp,Fs,aG,u1,u2,u3,u4,u5,u6,u7,u8,u9,v1,v2,v3,v4,v5,v6,v7,v8,v9,w1,w2,w3,w4,aH,aa,ab,ae,ar] at Yh ⊢;refine ⟨fun h=>?_,fun h=>?_⟩
 ·simp [h]
 ·simp [h]
theorem xq:Fits Tryz.prog 108 ⟨[],oH⟩:=by
 refine aJ (Γ:=af M5) aF Tryz.func108 fun ds p h hp=>?_
 unfold oH at h;split at h
 ·cases h
  exact ⟨ah,am,by rw [XN];exact XO _ _ _  hp⟩
 ·cases h
def xr (n:Int) (a:Int) (b:Int):Post:=⟨True,.c (.bool (decide (a≤n∧n≤b))),[]⟩
def qS:List AD→Option Post
 | [.c (.int .i64 (n)),.c (.int .i64 (a)),.c (.int .i64 (b))]=>some (xr n a b)
 | _=>none
def M6:List (Nat×Ctr):=[]
def Ft (n:Int) (a:Int) (b:Int):Prop :=
 (ac (decide (a≤n)) ((decide (n≤b)=decide (a≤n∧n≤b))∧True) ((false=decide (a≤n∧n≤b))∧True))
theorem XP (n:Int) (a:Int) (b:Int):aC Tryz.prog (af M6) ah am Tryz.f106 (aE Tryz.f106) [] [.c (.int .i64 (n)),.c (.int .i64 (a)),.c (.int .i64 (b))] (xr n a b)=Ft n a b:=by kernel_rfl
theorem XQ (n:Int) (a:Int) (b:Int) (Yh:(xr n a b).pre):Ft n a b:=by
 simp only [xr,Ft,aG,u1,u2,u3,u4,u5,u6,u7,u8,u9,v1,v2,v3,v4,v5,v6,v7,v8,v9,w1,w2,w3,w4,aH,aa,ab,ae,ar] at Yh ⊢;refine ⟨fun h=>?_,fun h=>?_⟩
 ·simp [h]
 ·simp [h]
theorem Fu:Fits Tryz.prog 106 ⟨[],qS⟩:=by
 refine aJ (Γ:=af M6) aF Tryz.func106 fun ds p h hp=>?_
 unfold qS at h;split at h
 ·cases h
  exact ⟨ah,am,by rw [XP];exact XQ _ _ _  hp⟩
 ·cases h
def dQ (lo hi:Int) (l:List Int):Bool:=l.all fun x=>decide (lo≤x∧x≤hi)
theorem M7 (lo hi:Int) (l:List Int) (i:Nat) (h:i<l.length):dQ lo hi (l.drop i)=(decide (lo≤l.getD i 0∧l.getD i 0≤hi)&&dQ lo hi (l.drop (i+1))):=by
 rw [drop_cons' l 0 i h];rfl
theorem XR {lo hi:Int} {l:List Int} (h:dQ lo hi l=true) (i:Nat) (hi':i<l.length):lo≤l.getD i 0∧l.getD i 0≤hi:=by
 rw [ce l 0 i hi'];have:=List.all_eq_true.1 h _ (List.getElem_mem hi')
 simpa using this
def xt (l:List Int) (a:Int) (b:Int):Post:=⟨ae l.length,.c (.bool (dQ a b l)),[]⟩
def Fv:List AD→Option Post
 | [.c (.ints .i64 (l)),.c (.int .i64 (a)),.c (.int .i64 (b))]=>some (xt l a b)
 | _=>none
def M8 (l:List Int) (a:Int) (b:Int):Nat→Option Ann
 | 0=>some (Ann.mk ((Nat)) (fun i=>⟨[(1,.c (.int .i64 (a))),(2,.c (.int .i64 (b))),(9,.c (.ro (.ints .i64 (l)))),(10,.c (.int .i64 ((l.length:Int)))),(11,.c (.int .i64 ((i:Int))))],[]⟩) (fun i=>i≤l.length∧dQ a b l=dQ a b (l.drop i)) (fun i=>l.length - i) (fun _=>am))
 | _=>none
def M9:List (Nat×Ctr):=[(108,⟨[],oH⟩)]
def Fw (l:List Int) (a:Int) (b:Int):Prop :=
 ((∃x0:Nat,(((x0≤l.length)∧(dQ a b l=dQ a b (List.drop x0 l)))∧((a=a)∧((b=b)∧((l=l)∧(((↑(l.length):Int)=(↑(l.length):Int))∧((0:Int)=(↑x0:Int))))))))∧(∀x1:Nat,(((x1≤l.length)∧(dQ a b l=dQ a b (List.drop x1 l)))→(ac (decide ((↑x1:Int)<(↑(l.length):Int))) ((aa (↑x1:Int) (l.length))∧((True∧True)∧(ac (!decide (a≤l.getD ((↑x1:Int).toNat) (0:Int)∧l.getD ((↑x1:Int).toNat) (0:Int)≤b)) ((false=dQ a b l)∧True) ((ab ((↑x1:Int)+(1:Int)))∧(∃x2:Nat,(((x2≤l.length)∧(dQ a b l=dQ a b (List.drop x2 l)))∧((l.length - x2<l.length - x1)∧((a=a)∧((b=b)∧((l=l)∧(((↑(l.length):Int)=(↑(l.length):Int))∧((↑x1:Int)+(1:Int)=(↑x2:Int))))))))))))) ((true=dQ a b l)∧True)))))
theorem XS (l:List Int) (a:Int) (b:Int):aC Tryz.prog (af M9) ah (M8 l a b) Tryz.f242 (aE Tryz.f242) [] [.c (.ints .i64 (l)),.c (.int .i64 (a)),.c (.int .i64 (b))] (xt l a b)=Fw l a b:=by kernel_rfl
theorem XT (l:List Int) (a:Int) (b:Int) (Yh:(xt l a b).pre):Fw l a b:=by
 simp only [xt,Fw,aG,u1,u2,u3,u4,u5,u6,u7,u8,u9,v1,v2,v3,v4,v5,v6,v7,v8,v9,w1,w2,w3,w4,aH,aa,ab,ae,ar] at Yh ⊢;refine ⟨⟨0,⟨by omega,rfl⟩,rfl⟩,fun i ⟨hi,he⟩=>⟨fun h=>?_,fun h=>?_⟩⟩
 ·have hd:=M7 a b l i (by omega)
  refine ⟨by omega,fun h1=>?_,fun h1=>⟨by omega,i+1,⟨by omega,?_⟩,by omega,by omega⟩⟩
  ·rw [he,hd,decide_eq_false h1];rfl
  ·rw [he,hd,decide_eq_true h1];rfl
 ·rw [he,List.drop_of_length_le (by omega)];rfl
theorem XU:Fits Tryz.prog 242 ⟨[],Fv⟩:=by
 refine aJ (Γ:=af M9) (aj xq aF) Tryz.func242 fun ds p h hp=>?_
 unfold Fv at h;split at h
 ·cases h
  exact ⟨ah,M8 _ _ _ ,by rw [XS];exact XT _ _ _  hp⟩
 ·cases h
def lJ (l:List (List Int)):Nat:=(l.map List.length).sum
def au (l:List (List Int)):Prop:=l.length≤1099511627776∧∀r∈l,r.length≤1099511627776
theorem XV {l:List (List Int)} (h:au l) (i:Nat) (hi:i<l.length):(l.getD i []).length≤1099511627776:=h.2 _ (cE l [] i hi)
theorem oI {α:Type} {l:List α} (d:α) (p:α→Bool) {i:Nat} (h:i<l.length):(l.drop i).all p=(p (l.getD i d)&&(l.drop (i+1)).all p):=by
 rw [drop_cons' l d i h];rfl
theorem XW {α:Type} {l:List α} (d:α) {p:α→Bool} (h:l.all p=true) (i:Nat) (hi:i<l.length):p (l.getD i d)=true :=
 List.all_eq_true.1 h _ (cE l d i hi)
theorem xu {α:Type} (a b:List α) (r d:α) (i:Nat) (h:a.length=i):(a++r::b).getD i d=r:=by
 rw [getD_append_right' _ _ _ _ (by omega),h,Nat.sub_self];rfl
theorem oJ {α:Type} (a b:List α) (r v:α) (i:Nat) (h:a.length=i):(a++r::b).set i v=a++v::b:=by
 rw [List.set_append_right _ _ (by omega),h,Nat.sub_self];rfl
def d4 (n:Int) (r:List Int):Bool:=decide ((r.length:Int)=n)&&dQ 0 (n - 1) r
def aW (t:List (List Int)):Bool:=decide (1≤(t.length:Int)∧(t.length:Int)≤12)&&t.all (d4 (t.length:Int))
theorem XX {n:Int} {r:List Int} (h:d4 n r=true):(r.length:Int)=n∧dQ 0 (n - 1) r=true:=by
 simpa [d4] using h
theorem bA {t:List (List Int)} (h:aW t=true):1≤t.length∧t.length≤12 ∧
  ∀x,x<t.length→(t.getD x []).length=t.length∧∀y,y<t.length→0≤(t.getD x []).getD y 0∧(t.getD x []).getD y 0≤(t.length:Int) - 1:=by
 simp only [aW,Bool.and_eq_true,decide_eq_true_eq] at h;refine ⟨by omega,by omega,fun x hx=>?_⟩
 obtain ⟨h1,h2⟩:=XX (XW [] h.2 x hx);exact ⟨by omega,fun y hy=>XR h2 y (by omega)⟩
theorem Na {t:List (List Int)} (h:¬ (1≤(t.length:Int)∧(t.length:Int)≤12)):aW t=false:=by simp only [aW,decide_eq_false h,Bool.false_and]
def xv (t:List (List Int)):Post:=⟨au t,.c (.bool (aW t)),[]⟩
def Fx:List AD→Option Post
 | [.c (.rows .i64 (t))]=>some (xv t)
 | _=>none
def Nb (t:List (List Int)):Nat→Option Ann
 | 0=>some (Ann.mk ((Nat)) (fun i=>⟨[(0,.c (.ro (.rows .i64 (t)))),(3,.c (.int .i64 ((t.length:Int)))),(4,.c (.int .i64 ((i:Int))))],[]⟩) (fun i=>i≤t.length∧1≤t.length∧t.length≤12∧t.all (d4 (t.length:Int))=(t.drop i).all (d4 (t.length:Int))) (fun i=>t.length - i) (fun i=>fun b_=>match b_ with | 2=>some (Ann.mk ((Nat)) (fun j=>⟨[(0,.c (.ro (.rows .i64 (t)))),(3,.c (.int .i64 ((t.length:Int)))),(4,.c (.int .i64 ((i:Int)))),(5,.c (.int .i64 ((j:Int))))],[]⟩) (fun j=>j≤t.length∧i<t.length∧(t.getD i []).length=t.length∧dQ 0 ((t.length:Int) - 1) (t.getD i [])=dQ 0 ((t.length:Int) - 1) ((t.getD i []).drop j)) (fun j=>t.length - j) (fun _=>am)) | _=>none))
 | _=>none
def Nc:List (Nat×Ctr):=[(106,⟨[],qS⟩)]
def Fy (t:List (List Int)):Prop :=
 ((True∧True)∧(ac (!decide ((1:Int)≤(↑(t.length):Int)∧(↑(t.length):Int)≤(12:Int))) ((false=aW t)∧True) ((∃x0:Nat,(((x0≤t.length)∧(((1:Nat)≤t.length)∧((t.length≤(12:Nat))∧(List.all t (d4 (↑(t.length):Int))=List.all (List.drop x0 t) (d4 (↑(t.length):Int))))))∧((t=t)∧(((↑(t.length):Int)=(↑(t.length):Int))∧((0:Int)=(↑x0:Int))))))∧(∀x1:Nat,(((x1≤t.length)∧(((1:Nat)≤t.length)∧((t.length≤(12:Nat))∧(List.all t (d4 (↑(t.length):Int))=List.all (List.drop x1 t) (d4 (↑(t.length):Int))))))→(ac (decide ((↑x1:Int)<(↑(t.length):Int))) ((aa (↑x1:Int) (t.length))∧(ac ((↑((t.getD ((↑x1:Int).toNat) []).length):Int) != (↑(t.length):Int)) ((false=aW t)∧True) ((∃x2:Nat,(((x2≤t.length)∧((x1<t.length)∧(((t.getD x1 []).length=t.length)∧(dQ (0:Int) ((↑(t.length):Int) - (1:Int)) (t.getD x1 [])=dQ (0:Int) ((↑(t.length):Int) - (1:Int)) (List.drop x2 (t.getD x1 []))))))∧((t=t)∧(((↑(t.length):Int)=(↑(t.length):Int))∧(((↑x1:Int)=(↑x1:Int))∧((0:Int)=(↑x2:Int)))))))∧(∀x3:Nat,(((x3≤t.length)∧((x1<t.length)∧(((t.getD x1 []).length=t.length)∧(dQ (0:Int) ((↑(t.length):Int) - (1:Int)) (t.getD x1 [])=dQ (0:Int) ((↑(t.length):Int) - (1:Int)) (List.drop x3 (t.getD x1 []))))))→(ac (decide ((↑x3:Int)<(↑(t.length):Int))) ((aa (↑x1:Int) (t.length))∧((aa (↑x3:Int) ((t.getD ((↑x1:Int).toNat) []).length))∧((ab ((↑(t.length):Int) - (1:Int)))∧((True∧True) ∧
 (ac (!decide ((0:Int)≤(List.getD t ((↑x1:Int).toNat) []).getD ((↑x3:Int).toNat) (0:Int)∧(List.getD t ((↑x1:Int).toNat) []).getD ((↑x3:Int).toNat) (0:Int)≤(↑(t.length):Int) - (1:Int))) ((false=aW t)∧True) ((ab ((↑x3:Int)+(1:Int)))∧(∃x4:Nat,(((x4≤t.length)∧((x1<t.length)∧(((t.getD x1 []).length=t.length)∧(dQ (0:Int) ((↑(t.length):Int) - (1:Int)) (t.getD x1 [])=dQ (0:Int) ((↑(t.length):Int) - (1:Int)) (List.drop x4 (t.getD x1 []))))))∧((t.length - x4<t.length - x3)∧((t=t)∧(((↑(t.length):Int)=(↑(t.length):Int))∧(((↑x1:Int)=(↑x1:Int))∧((↑x3:Int)+(1:Int)=(↑x4:Int)))))))))))))) ((ab ((↑x1:Int)+(1:Int)))∧(∃x5:Nat,(((x5≤t.length)∧(((1:Nat)≤t.length)∧((t.length≤(12:Nat))∧(List.all t (d4 (↑(t.length):Int))=List.all (List.drop x5 t) (d4 (↑(t.length):Int))))))∧((t.length - x5<t.length - x1)∧((t=t)∧(((↑(t.length):Int)=(↑(t.length):Int))∧((↑x1:Int)+(1:Int)=(↑x5:Int)))))))))))))) ((true=aW t)∧True)))))))
theorem XY (t:List (List Int)):aC Tryz.prog (af Nc) ah (Nb t) Tryz.f180 (aE Tryz.f180) [] [.c (.rows .i64 (t))] (xv t)=Fy t:=by kernel_rfl
theorem XZ (t:List (List Int)) (Yh:(xv t).pre):Fy t:=by
 simp only [xv,Fy,aG,u1,u2,u3,u4,u5,u6,u7,u8,u9,v1,v2,v3,v4,v5,v6,v7,v8,v9,w1,w2,w3,w4,aH,aa,ab,ae,ar] at Yh ⊢;have hr:=Yh
 refine ⟨fun h=>(Na h).symm,fun hn=>⟨⟨0,⟨by omega,by omega,by omega,rfl⟩,rfl⟩,fun i ⟨hi,_,_,he⟩=>⟨fun h=>?_,fun h=>?_⟩⟩⟩
 ·have hd:=oI [] (d4 (t.length:Int)) (show i<t.length by omega)
  have no:d4 (t.length:Int) (t.getD i [])=false→false=aW t:=fun h=>by rw [aW,he,hd,h];simp
  refine ⟨by omega,fun h1=>no (by rw [d4,decide_eq_false h1];rfl),fun h1=>⟨⟨0,⟨by omega,by omega,by omega,rfl⟩,rfl⟩,fun j ⟨hj,_,hl,ha⟩=>⟨fun h2=>?_,fun h2=>?_⟩⟩⟩
  ·have hd2:=M7 0 ((t.length:Int) - 1) (t.getD i []) j (by omega)
   refine ⟨by omega,by omega,by omega,fun h3=>no ?_,fun h3=>⟨by omega,j+1,⟨by omega,by omega,hl,?_⟩,by omega,by omega⟩⟩
   ·rw [d4,ha,hd2,decide_eq_false h3];simp
   ·rw [ha,hd2,decide_eq_true h3];rfl
  ·refine ⟨by omega,i+1,⟨by omega,by omega,by omega,?_⟩,by omega,by omega⟩
   have:d4 (t.length:Int) (t.getD i [])=true:=by
    rw [d4,decide_eq_true h1,ha,List.drop_of_length_le (by omega)];rfl
   rw [he,hd,this];rfl
 ·rw [aW,he,decide_eq_true hn,List.drop_of_length_le (by omega)];rfl
theorem X0:Fits Tryz.prog 180 ⟨[],Fx⟩:=by
 refine aJ (Γ:=af Nc) (aj Fu aF) Tryz.func180 fun ds p h hp=>?_
 unfold Fx at h;split at h
 ·cases h
  exact ⟨ah,Nb _ ,by rw [XY];exact XZ _  hp⟩
 ·cases h
def fZ (p:List Int→Bool):List (List Int)→Int→Int
 | [],_=>-1
 | x::l,k=>if p x=true then k else fZ p l (k+1)
theorem Nd (p:List Int→Bool):∀(l:List (List Int)) (k:Int),0≤k→decide (0≤fZ p l k)=l.any p
 | [],k,_=>rfl
 | x::l,k,h=>by
  simp only [fZ,List.any_cons];by_cases hp:p x=true
  ·simp [hp,h]
  ·simpa [hp] using Nd p l (k+1) (by omega)
def xw (l:List (List Int)) (q:List Int→Prop) (p:List Int→Bool):Post:=⟨l.length≤1099511627776∧∀x∈l,q x,.c (.int .i64 (fZ p l 0)),[]⟩
def Fz:List AD→Option Post
 | [.c (.rows .i64 (l)),.fv (.lb q p)]=>some (xw l q p)
 | _=>none
def Nf (l:List (List Int)) (q:List Int→Prop) (p:List Int→Bool):Nat→Option Ann
 | 0=>some (Ann.mk ((Nat)) (fun i=>⟨[(0,.c (.ro (.rows .i64 (l)))),(1,.fv (.lb q p)),(7,.c (.int .i64 ((l.length:Int)))),(8,.c (.int .i64 ((i:Int))))],[]⟩) (fun i=>i≤l.length∧fZ p l 0=fZ p (l.drop i) (i:Int)) (fun i=>l.length - i) (fun _=>am))
 | _=>none
def Ng:List (Nat×Ctr):=[]
def FA (l:List (List Int)) (q:List Int→Prop) (p:List Int→Bool):Prop :=
 ((∃x0:Nat,(((x0≤l.length)∧(fZ p l (0:Int)=fZ p (List.drop x0 l) (↑x0:Int)))∧((l=l)∧((FV.lb q p=FV.lb q p)∧(((↑(l.length):Int)=(↑(l.length):Int))∧((0:Int)=(↑x0:Int)))))))∧(∀x1:Nat,(((x1≤l.length)∧(fZ p l (0:Int)=fZ p (List.drop x1 l) (↑x1:Int)))→(ac (decide ((↑x1:Int)<(↑(l.length):Int))) ((aa (↑x1:Int) (l.length))∧((q (l.getD ((↑x1:Int).toNat) []))∧(ac (p (l.getD ((↑x1:Int).toNat) [])) (((↑x1:Int)=fZ p l (0:Int))∧True) ((ab ((↑x1:Int)+(1:Int)))∧(∃x2:Nat,(((x2≤l.length)∧(fZ p l (0:Int)=fZ p (List.drop x2 l) (↑x2:Int)))∧((l.length - x2<l.length - x1)∧((l=l)∧((FV.lb q p=FV.lb q p)∧(((↑(l.length):Int)=(↑(l.length):Int))∧((↑x1:Int)+(1:Int)=(↑x2:Int)))))))))))) (((-1:Int)=fZ p l (0:Int))∧True)))))
theorem X1 (l:List (List Int)) (q:List Int→Prop) (p:List Int→Bool):aC Tryz.prog (af Ng) ah (Nf l q p) Tryz.f164 (aE Tryz.f164) [] [.c (.rows .i64 (l)),.fv (.lb q p)] (xw l q p)=FA l q p:=by kernel_rfl
theorem X2 (l:List (List Int)) (q:List Int→Prop) (p:List Int→Bool) (Yh:(xw l q p).pre):FA l q p:=by
 simp only [xw,FA,aG,u1,u2,u3,u4,u5,u6,u7,u8,u9,v1,v2,v3,v4,v5,v6,v7,v8,v9,w1,w2,w3,w4,aH,aa,ab,ae,ar] at Yh ⊢;obtain ⟨hl,hq⟩:=Yh;refine ⟨⟨0,⟨by omega,rfl⟩,rfl⟩,fun i ⟨hi,he⟩=>⟨fun h=>?_,fun h=>?_⟩⟩
 ·rw [drop_cons' l [] i (by omega)] at he
  simp only [fZ] at he;refine ⟨by omega,hq _ (cE l [] i (by omega)),fun h1=>?_,fun h1=>⟨by omega,i+1,⟨by omega,?_⟩,by omega,by omega⟩⟩
  ·rw [he,if_pos h1]
  ·rw [he,if_neg (by rw [h1];exact Bool.false_ne_true)];simp
 ·rw [he,List.drop_of_length_le (by omega)];rfl
theorem X3:Fits Tryz.prog 164 ⟨[],Fz⟩:=by
 refine aJ (Γ:=af Ng) aF Tryz.func164 fun ds p h hp=>?_
 unfold Fz at h;split at h
 ·cases h
  exact ⟨ah,Nf _ _ _ ,by rw [X1];exact X2 _ _ _  hp⟩
 ·cases h
def xx (l:List (List Int)) (q:List Int→Prop) (p:List Int→Bool):Post:=⟨l.length≤1099511627776∧∀x∈l,q x,.c (.bool (l.any p)),[]⟩
def qT:List AD→Option Post
 | [.c (.rows .i64 (l)),.fv (.lb q p)]=>some (xx l q p)
 | _=>none
def Nh:List (Nat×Ctr):=[(164,⟨[],Fz⟩)]
def FB (l:List (List Int)) (q:List Int→Prop) (p:List Int→Bool):Prop :=
 ((((l.length≤(1099511627776:Nat))∧(∀(x:List Int),x∈l→q x))∧True)∧((decide ((0:Int)≤fZ p l (0:Int))=List.any l p)∧True))
theorem X4 (l:List (List Int)) (q:List Int→Prop) (p:List Int→Bool):aC Tryz.prog (af Nh) ah am Tryz.f101 (aE Tryz.f101) [] [.c (.rows .i64 (l)),.fv (.lb q p)] (xx l q p)=FB l q p:=by kernel_rfl
theorem X5 (l:List (List Int)) (q:List Int→Prop) (p:List Int→Bool) (Yh:(xx l q p).pre):FB l q p:=by
 simp only [xx,FB,aG,u1,u2,u3,u4,u5,u6,u7,u8,u9,v1,v2,v3,v4,v5,v6,v7,v8,v9,w1,w2,w3,w4,aH,aa,ab,ae,ar] at Yh ⊢;exact ⟨Yh,Nd p l 0 (by omega)⟩
theorem FD:Fits Tryz.prog 101 ⟨[],qT⟩:=by
 refine aJ (Γ:=af Nh) (aj X3 aF) Tryz.func101 fun ds p h hp=>?_
 unfold qT at h;split at h
 ·cases h
  exact ⟨ah,am,by rw [X4];exact X5 _ _ _  hp⟩
 ·cases h
def xy (r:List Int) (n:Int):Post:=⟨r.length≤1099511627776∧1≤n∧n≤12,.c (.bool (!d4 n r)),[]⟩
def FE:List AD→Option Post
 | [.c (.ints .i64 (r)),.box [.int .i64 (n)]]=>some (xy r n)
 | _=>none
def Ni:List (Nat×Ctr):=[(242,⟨[],Fv⟩)]
def FF (r:List Int) (n:Int):Prop :=
 (ac ((↑(r.length):Int) != n) ((true=!d4 n r)∧True) ((ab (n - (1:Int)))∧(((ae (r.length))∧True)∧(((!dQ (0:Int) (n - (1:Int)) r)=!d4 n r)∧True))))
theorem X6 (r:List Int) (n:Int):aC Tryz.prog (af Ni) ah am Tryz.f241 (aE Tryz.f241) [] [.c (.ints .i64 (r)),.box [.int .i64 (n)]] (xy r n)=FF r n:=by kernel_rfl
theorem X7 (r:List Int) (n:Int) (Yh:(xy r n).pre):FF r n:=by
 simp only [xy,FF,aG,u1,u2,u3,u4,u5,u6,u7,u8,u9,v1,v2,v3,v4,v5,v6,v7,v8,v9,w1,w2,w3,w4,aH,aa,ab,ae,ar] at Yh ⊢;refine ⟨fun h=>by rw [d4,decide_eq_false h];rfl,fun h=>⟨by omega,Yh.1,?_⟩⟩
 rw [d4,decide_eq_true h];simp
theorem X8:Fits Tryz.prog 241 ⟨[],FE⟩:=by
 refine aJ (Γ:=af Ni) (aj XU aF) Tryz.func241 fun ds p h hp=>?_
 unfold FE at h;split at h
 ·cases h
  exact ⟨ah,am,by rw [X6];exact X7 _ _  hp⟩
 ·cases h
def xz (t:List (List Int)):Post:=⟨au t,.c (.bool (aW t)),[]⟩
def FG:List AD→Option Post
 | [.c (.rows .i64 (t))]=>some (xz t)
 | _=>none
def Nj:List (Nat×Ctr):=[(108,⟨[],oH⟩),(101,⟨[],qT⟩),(241,⟨[],FE⟩)]
def FH (t:List (List Int)):Prop :=
 ((True∧True)∧(ac (decide ((1:Int)≤(↑(t.length):Int)∧(↑(t.length):Int)≤(12:Int))) ((((t.length≤(1099511627776:Nat))∧(∀(x:List Int),x∈t→x.length≤(1099511627776:Nat)∧(1:Int)≤(↑(t.length):Int)∧(↑(t.length):Int)≤(12:Int)))∧True)∧(((!List.any t fun (x:List Int)=>!d4 (↑(t.length):Int) x)=aW t)∧True)) ((false=aW t)∧True)))
theorem X9 (t:List (List Int)):aC Tryz.prog (af Nj) ah am Tryz.f184 (aE Tryz.f184) [] [.c (.rows .i64 (t))] (xz t)=FH t:=by kernel_rfl
theorem Ya (t:List (List Int)) (Yh:(xz t).pre):FH t:=by
 simp only [xz,FH,aG,u1,u2,u3,u4,u5,u6,u7,u8,u9,v1,v2,v3,v4,v5,v6,v7,v8,v9,w1,w2,w3,w4,aH,aa,ab,ae,ar] at Yh ⊢;refine ⟨fun h=>⟨⟨Yh.1,fun x hx=>⟨Yh.2 x hx,h⟩⟩,?_⟩,fun h=>(Na h).symm⟩
 rw [aW,decide_eq_true h,Bool.true_and,List.all_eq_not_any_not,Bool.not_not]
theorem Yb:Fits Tryz.prog 184 ⟨[],FG⟩:=by
 refine aJ (Γ:=af Nj) (aj xq (aj FD (aj X8 aF))) Tryz.func184 fun ds p h hp=>?_
 unfold FG at h;split at h
 ·cases h
  exact ⟨ah,am,by rw [X9];exact Ya _  hp⟩
 ·cases h
def aS (n:Nat) (f:Nat→Nat→Int):List (List Int):=(List.range n).map fun x=>aq n (f x)
theorem fK (n:Nat) (f:Nat→Nat→Int):(aS n f).length=n:=by simp [aS]
theorem eZ (n:Nat) (f:Nat→Nat→Int) (x:Nat) (h:x<n):(aS n f).getD x []=aq n (f x):=by
 simp [aS,List.getD_eq_getElem?_getD,h]
def xA (n:Int) (q:Int→Int→Prop) (p:Int→Int→Int):Post:=⟨0≤n∧n≤144∧(∀x y,0≤x→x<n→0≤y→y<n→q x y),.c (.rows 57 2 .i64 (aS n.toNat (fun x y=>p (x:Int) (y:Int)))),[]⟩
def oK:List AD→Option Post
 | [.c (.int .i64 (n)),.fv (.iii q p)]=>some (xA n q p)
 | _=>none
def Nk (n:Int) (q:Int→Int→Prop) (p:Int→Int→Int):Nat→Option Ann
 | 0=>some (Ann.mk ((Nat)) (fun i=>⟨[(0,.c (.int .i64 (n))),(1,.fv (.iii q p)),(5,.c (.own (9))),(11,.c (.int .i64 (n))),(12,.c (.int .i64 ((i:Int))))],[(9,some (.rows 0 57 2 .i64 ((aS n.toNat (fun x y=>p (x:Int) (y:Int))).take i++List.replicate (n.toNat - i) [])))]⟩) (fun i=>(i:Int)≤n) (fun i=>n.toNat - i) (fun i=>fun b_=>match b_ with | 2=>some (Ann.mk ((Nat)) (fun j=>⟨[(0,.c (.int .i64 (n))),(1,.fv (.iii q p)),(5,.c (.own (9))),(11,.c (.int .i64 (n))),(12,.c (.int .i64 ((i:Int)))),(6,.c (.int .i64 ((i:Int)))),(24,.c (.int .i64 (n))),(25,.c (.int .i64 ((j:Int))))],[(9,some (.rows 0 57 2 .i64 ((aS n.toNat (fun x y=>p (x:Int) (y:Int))).take i++((aq n.toNat fun y=>p (i:Int) (y:Int)).take j++List.replicate (n.toNat - j) 0)::List.replicate (n.toNat - (i+1)) [])))]⟩) (fun j=>(j:Int)≤n∧(i:Int)<n) (fun j=>n.toNat - j) (fun _=>am)) | _=>none))
 | _=>none
def Nl:List (Nat×Ctr):=[]
def FI (n:Int) (q:Int→Int→Prop) (p:Int→Int→Int):Prop :=
 ((((0:Int)≤n)∧((n≤n)∧(ae (n.toNat))))∧((∃x0:Nat,(((↑x0:Int)≤n)∧((n=n)∧((FV.iii q p=FV.iii q p)∧(((↑((List.replicate (n.toNat) ([]:List Int)).length):Int)=n)∧(((0:Int)=(↑x0:Int))∧(List.replicate (n.toNat) ([]:List Int)=List.take x0 (aS (n.toNat) fun (x y:Nat)=>p (↑x:Int) (↑y:Int))++List.replicate (n.toNat - x0) ([]:List Int))))))))∧(∀x1:Nat,(((↑x1:Int)≤n)→(ac (decide ((↑x1:Int)<n)) ((((0:Int)≤n)∧((n≤n)∧(ae (n.toNat))))∧((aa (↑x1:Int) ((List.take x1 (aS (n.toNat) fun (x y:Nat)=>p (↑x:Int) (↑y:Int))++List.replicate (n.toNat - x1) ([]:List Int)).length))∧((aa (↑x1:Int) ((List.set (List.take x1 (aS (n.toNat) fun (x y:Nat)=>p (↑x:Int) (↑y:Int))++List.replicate (n.toNat - x1) ([]:List Int)) ((↑x1:Int).toNat) (List.replicate (n.toNat) (0:Int))).length))∧((∃x2:Nat,((((↑x2:Int)≤n)∧((↑x1:Int)<n))∧((n=n)∧((FV.iii q p=FV.iii q p)∧((n=n)∧(((↑x1:Int)=(↑x1:Int))∧(((↑x1:Int)=(↑x1:Int))∧(((↑(((List.set (List.take x1 (aS (n.toNat) fun (x y:Nat)=>p (↑x:Int) (↑y:Int))++List.replicate (n.toNat - x1) ([]:List Int)) ((↑x1:Int).toNat) (List.replicate (n.toNat) (0:Int))).getD ((↑x1:Int).toNat) []).length):Int)=n)∧(((0:Int)=(↑x2:Int)) ∧
 (List.set (List.take x1 (aS (n.toNat) fun (x y:Nat)=>p (↑x:Int) (↑y:Int))++List.replicate (n.toNat - x1) ([]:List Int)) ((↑x1:Int).toNat) (List.replicate (n.toNat) (0:Int))=List.take x1 (aS (n.toNat) fun (x y:Nat)=>p (↑x:Int) (↑y:Int))++(List.take x2 (aq (n.toNat) fun (y:Nat)=>p (↑x1:Int) (↑y:Int))++List.replicate (n.toNat - x2) (0:Int))::List.replicate (n.toNat - (x1+(1:Nat))) []))))))))))∧(∀x3:Nat,((((↑x3:Int)≤n)∧((↑x1:Int)<n))→(ac (decide ((↑x3:Int)<n)) ((aa (↑x1:Int) ((List.take x1 (aS (n.toNat) fun (x y:Nat)=>p (↑x:Int) (↑y:Int))++(List.take x3 (aq (n.toNat) fun (y:Nat)=>p (↑x1:Int) (↑y:Int))++List.replicate (n.toNat - x3) (0:Int))::List.replicate (n.toNat - (x1+(1:Nat))) []).length))∧((q (↑x1:Int) (↑x3:Int))∧((aa (↑x3:Int) (((List.take x1 (aS (n.toNat) fun (x y:Nat)=>p (↑x:Int) (↑y:Int))++(List.take x3 (aq (n.toNat) fun (y:Nat)=>p (↑x1:Int) (↑y:Int))++List.replicate (n.toNat - x3) (0:Int))::List.replicate (n.toNat - (x1+(1:Nat))) []).getD ((↑x1:Int).toNat) []).length))∧((ab ((↑x3:Int)+(1:Int)))∧(∃x4:Nat,((((↑x4:Int)≤n)∧((↑x1:Int)<n))∧((n.toNat - x4<n.toNat - x3)∧((n=n)∧((FV.iii q p=FV.iii q p)∧((n=n)∧(((↑x1:Int)=(↑x1:Int))∧(((↑x1:Int)=(↑x1:Int))∧((n=n)∧(((↑x3:Int)+(1:Int)=(↑x4:Int)) ∧
 (List.set (List.take x1 (aS (n.toNat) fun (x y:Nat)=>p (↑x:Int) (↑y:Int))++(List.take x3 (aq (n.toNat) fun (y:Nat)=>p (↑x1:Int) (↑y:Int))++List.replicate (n.toNat - x3) (0:Int))::List.replicate (n.toNat - (x1+(1:Nat))) []) ((↑x1:Int).toNat) (List.set ((List.take x1 (aS (n.toNat) fun (x y:Nat)=>p (↑x:Int) (↑y:Int))++(List.take x3 (aq (n.toNat) fun (y:Nat)=>p (↑x1:Int) (↑y:Int))++List.replicate (n.toNat - x3) (0:Int))::List.replicate (n.toNat - (x1+(1:Nat))) []).getD ((↑x1:Int).toNat) []) ((↑x3:Int).toNat) (p (↑x1:Int) (↑x3:Int)))=List.take x1 (aS (n.toNat) fun (x y:Nat)=>p (↑x:Int) (↑y:Int))++(List.take x4 (aq (n.toNat) fun (y:Nat)=>p (↑x1:Int) (↑y:Int))++List.replicate (n.toNat - x4) (0:Int))::List.replicate (n.toNat - (x1+(1:Nat))) []))))))))))))))) ((ab ((↑x1:Int)+(1:Int)))∧(∃x5:Nat,(((↑x5:Int)≤n)∧((n.toNat - x5<n.toNat - x1)∧((n=n)∧((FV.iii q p=FV.iii q p)∧((n=n)∧(((↑x1:Int)+(1:Int)=(↑x5:Int))∧(List.take x1 (aS (n.toNat) fun (x y:Nat)=>p (↑x:Int) (↑y:Int))++(List.take x3 (aq (n.toNat) fun (y:Nat)=>p (↑x1:Int) (↑y:Int))++List.replicate (n.toNat - x3) (0:Int))::List.replicate (n.toNat - (x1+(1:Nat))) []=List.take x5 (aS (n.toNat) fun (x y:Nat)=>p (↑x:Int) (↑y:Int))++List.replicate (n.toNat - x5) ([]:List Int)))))))))))))))))
 ((List.take x1 (aS (n.toNat) fun (x y:Nat)=>p (↑x:Int) (↑y:Int))++List.replicate (n.toNat - x1) ([]:List Int)=aS (n.toNat) fun (x y:Nat)=>p (↑x:Int) (↑y:Int))∧True))))))
theorem Yc (n:Int) (q:Int→Int→Prop) (p:Int→Int→Int):aC Tryz.prog (af Nl) ah (Nk n q p) Tryz.f153 (aE Tryz.f153) [] [.c (.int .i64 (n)),.fv (.iii q p)] (xA n q p)=FI n q p:=by kernel_rfl
theorem Yd (n:Int) (q:Int→Int→Prop) (p:Int→Int→Int) (Yh:(xA n q p).pre):FI n q p:=by
 simp only [xA,FI,aG,u1,u2,u3,u4,u5,u6,u7,u8,u9,v1,v2,v3,v4,v5,v6,v7,v8,v9,w1,w2,w3,w4,aH,aa,ab,ae,ar] at Yh ⊢;obtain ⟨h0,h1,hq⟩:=Yh;have hT:=fK n.toNat fun x y=>p (x:Int) (y:Int)
 have hr:∀i:Nat,(aq n.toNat fun y=>p (i:Int) (y:Int)).length=n.toNat:=fun i=>cf _ _
 refine ⟨by omega,⟨0,by omega,by omega,rfl,by simp⟩,fun i hi=>?_⟩
 have hl:((aS n.toNat fun x y=>p (x:Int) (y:Int)).take i).length=i:=by rw [List.length_take];omega
 refine ⟨fun h=>?_,fun h=>?_⟩
 ·have hs:((aS n.toNat fun x y=>p (x:Int) (y:Int)).take i++List.replicate (n.toNat - i) ([]:List Int)).set i (List.replicate n.toNat 0) =
      (aS n.toNat fun x y=>p (x:Int) (y:Int)).take i++(List.replicate n.toNat 0)::List.replicate (n.toNat - (i+1)) []:=by
   rw [show n.toNat - i=(n.toNat - (i+1))+1 by omega,List.replicate_succ,oJ _ _ _ _ _ hl]
  rw [hs];refine ⟨by omega,by omega,by omega,⟨0,by omega,?_,rfl,by simp⟩,fun j ⟨hj,_⟩=>⟨fun h2=>?_,fun h2=>?_⟩⟩
  ·rw [xu _ _ _ _ _ hl];simp;omega
  ·rw [xu _ _ _ _ _ hl,oJ _ _ _ _ _ hl]
   have hd:((aq n.toNat fun y=>p (i:Int) (y:Int)).take j++List.replicate (n.toNat - j) 0).length=n.toNat:=by
    rw [List.length_append,List.length_take,List.length_replicate,hr];omega
   rw [hd];refine ⟨by omega,hq _ _ (by omega) h (by omega) h2,by omega,by omega,j+1,by omega,by omega,by omega,?_⟩
   have:=Fp (aq n.toNat fun y=>p (i:Int) (y:Int)) 0 0 j (by rw [hr];omega)
   rw [hr,cr _ _ _ (by omega)] at this
   rw [this]
  ·refine ⟨by omega,i+1,by omega,by omega,by omega,?_⟩
   have e:(aq n.toNat fun y=>p (i:Int) (y:Int)).take j=aq n.toNat fun y=>p (i:Int) (y:Int):=List.take_of_length_le (by rw [hr];omega)
   rw [←dF (aS n.toNat fun x y=>p (x:Int) (y:Int)) [] i (by omega),eZ _ _ _ (by omega),show n.toNat - j=0 by omega,e]
   simp
 ·rw [List.take_of_length_le (by omega),show n.toNat - i=0 by omega];simp
theorem xB:Fits Tryz.prog 153 ⟨[],oK⟩:=by
 refine aJ (Γ:=af Nl) aF Tryz.func153 fun ds p h hp=>?_
 unfold oK at h;split at h
 ·cases h
  exact ⟨ah,Nk _ _ _ ,by rw [Yc];exact Yd _ _ _  hp⟩
 ·cases h
theorem xC {n:Nat} {f g:Nat→Nat→Int} (h:∀x y,x<n→y<n→f x y=g x y):aS n f=aS n g:=by
 unfold aS;apply List.map_congr_left
 intro x hx
 exact mY fun y hy=>h x y (List.mem_range.1 hx) hy
theorem Ye (n:Nat) (f:Nat→Nat→Int) (h:n≤144):au (aS n f):=⟨by rw [fK];omega,fun r hr=>by
 simp only [aS,List.mem_map] at hr;obtain ⟨x,_,rfl⟩:=hr;rw [cf];omega⟩
theorem Yf (n:Nat) (f:Nat→Nat→Int) (h:n≤144):lJ (aS n f)≤20736:=by
 have e:lJ (aS n f)=n * n:=by
  have:(aS n f).map List.length=List.replicate n n:=by
   apply List.ext_getElem
   ·simp [aS]
   ·intro i h1 h2
    simp [aS,cf]
  rw [lJ,this];simp
 rw [e];exact Nat.le_trans (Nat.mul_le_mul h h) (by omega)
end Go.Sx
