/- MapD -/
import Derived.Test.YtkmldclpaniclaaBase
import Derived.Test.YtkmldclpaniclaaMapC
open Go Go.Proofs
namespace Go.Sx
set_option linter.unusedSimpArgs false
set_option linter.unusedVariables false
def l01Own_p (l:List Int):Post:=⟨room l.length,.c (.ints 2 .i64 (l)),[]⟩
def l01Own_ct:List AD→Option Post
 | [.c (.ints .i64 (l))]=>some (l01Own_p l)
 | _=>none
def l01Own_G:List (Nat×Ctr):=[]
def l01Own_V (l:List Int):Prop :=
 ((room (([]:List Int).length+l.length))∧(([]++l=l)∧True))
theorem l01Own_vc (l:List Int):runF Try.prog (gam l01Own_G) noWr noAnn Try.f75 (bodyOf Try.f75) [] [.c (.ints .i64 (l))] (l01Own_p l)=l01Own_V l:=by kernel_rfl
theorem l01Own_ok (l:List Int) (hpre:(l01Own_p l).pre):l01Own_V l:=by
 simp only [l01Own_p,l01Own_V,BrP_iff,u1,u2,u3,u4,u5,u6,u7,u8,u9,v1,v2,v3,v4,v5,v6,v7,v8,v9,w1,w2,w3,w4,markL_length,inB,InR,room,bdsOk] at hpre ⊢
 simp [hpre]
theorem l01Own_fits:Fits Try.prog 75 ⟨[],l01Own_ct⟩:=by
 refine ffn (Γ:=gam l01Own_G) gok_nil Try.func75 fun ds p h hp=>?_
 unfold l01Own_ct at h
 split at h
 ·cases h
  exact ⟨noWr,noAnn,by rw [l01Own_vc];exact l01Own_ok _  hp⟩
 ·cases h
theorem rfR_ok {n:Nat} {a b:List (List (List Int))} {c d:List Int} (h:(rfR n a b c d).2.2=true):rfL n a b c d=some ((rfR n a b c d).1,(rfR n a b c d).2.1):=by
 unfold rfR at h ⊢
 cases e:rfL n a b c d with
 | none=>rw [e] at h;cases h
 | some x=>rfl
theorem rfR_no {n:Nat} {a b:List (List (List Int))} {c d:List Int} (h:(rfR n a b c d).2.2=false):rfL n a b c d=none:=by
 unfold rfR at h
 cases e:rfL n a b c d with
 | none=>rfl
 | some x=>rw [e] at h;cases h
theorem set60 {n:Nat} {p:List Int} (h:∀i,i<n→0≤p.getD i 0∧p.getD i 0≤60) (hp:p.length=n) (j:Nat):∀i,i<n→0≤(p.set j 60).getD i 0∧(p.set j 60).getD i 0≤60:=fun i hi=>by
 rw [getD_set _ _ _ _ (by omega)]
 split
 ·omega
 ·exact h i hi
theorem snoc_in {n:Nat} {f:List Int} (h:∀i,i<f.length→0≤f.getD i 0∧f.getD i 0<(n:Int)) {y:Nat} (hy:y<n):∀i,i<f.length+(0+1)→0≤(f++[(y:Int)]).getD i 0∧(f++[(y:Int)]).getD i 0<(n:Int):=fun i hi=>by
 by_cases q:i<f.length
 ·rw [getD_append_left' _ _ _ _ q];exact h i q
 ·rw [getD_append_right' _ _ _ _ (by omega),show i - f.length=0 by omega]
  simp;omega
def l03Seek_p (d:Nat) (a:List (List (List Int))) (b:List (List (List Int))) (f:List Int) (p:List Int) (q:List Int) (most:Int) (out:List (List Int)):Post:=⟨(f.length≤p.length∧p.length<d+f.length)∧1≤f.length∧a.length≤1000∧b.length=a.length∧p.length≤12∧q.length=p.length∧nT a=p.length∧tsN p.length a∧tsN p.length b∧(∀i,i<p.length→0≤p.getD i 0∧p.getD i 0≤60)∧(∀i,i<p.length→0≤q.getD i 0∧q.getD i 0≤60)∧(∀i,i<f.length→0≤f.getD i 0∧f.getD i 0<(p.length:Int))∧(out.length:Int)<most∧most≤1000000,.c (.rows 42 2 .i64 (skF p.length a b most.toNat (p.length - f.length) f p q out)),[.gone (.rows 42 2 .i64 (out))]⟩
def l03Seek_ct (d:Nat):List AD→Option Post
 | [.c (.r3 .i64 (a)),.c (.r3 .i64 (b)),.c (.ints .i64 (f)),.c (.ints .i64 (p)),.c (.ints .i64 (q)),.c (.int .i64 (most)),.c (.rows .i64 (out))]=>some (l03Seek_p d a b f p q most out)
 | _=>none
def l03Seek_ann (d:Nat) (a:List (List (List Int))) (b:List (List (List Int))) (f:List Int) (p:List Int) (q:List Int) (most:Int) (out:List (List Int)):Nat→Option Ann
 | 0=>some (Ann.mk ((Nat)) (fun y=>⟨[(0,.c (.ro (.r3 .i64 (a)))),(1,.c (.ro (.r3 .i64 (b)))),(2,.c (.ro (.ints .i64 (f)))),(3,.c (.ro (.ints .i64 (p)))),(4,.c (.ro (.ints .i64 (q)))),(5,.c (.int .i64 (most))),(6,.c (.own (796))),(15,.c (.int .i64 ((f.length:Int)))),(16,.c (.int .i64 ((y:Int))))],[(796,some (.rows 0 42 2 .i64 (skY (skG p.length a b most.toNat (skF p.length a b most.toNat (p.length - f.length - 1)) f p q) out y)))]⟩) (fun y=>y≤p.length∧f.length<p.length) (fun y=>p.length - y) (fun _=>noAnn))
 | _=>none
def l03Seek_G (d:Nat):List (Nat×Ctr):=[(75,⟨[],l01Own_ct⟩),(55,⟨[],l01Has_ct⟩),(56,⟨[],l03Fits_ct⟩),(57,⟨[],l03Refine_ct⟩),(58,⟨[(6,0)],l03Seek_ct d⟩)]
def l03Seek_c1 (a:List (List (List Int))) (b:List (List (List Int))) (f:List Int) (p:List Int) (q:List Int) (x0:Nat):=(rfR ((List.set p ((↑(f.length):Int).toNat) (60:Int)).length) a b (List.set p ((↑(f.length):Int).toNat) (60:Int)) (List.set q ((↑x0:Int).toNat) (60:Int)))
def l03Seek_c2 (a:List (List (List Int))) (b:List (List (List Int))) (f:List Int) (p:List Int) (q:List Int) (most:Int):=(skG (p.length) a b (most.toNat) (skF (p.length) a b (most.toNat) (p.length - f.length - (1:Nat))) f p q)
def l03Seek_V (d:Nat) (a:List (List (List Int))) (b:List (List (List Int))) (f:List Int) (p:List Int) (q:List Int) (most:Int) (out:List (List Int)):Prop :=
 (BrP ((↑(f.length):Int) == (↑(p.length):Int)) (((room (f.length))∧True)∧((room (out.length+(f::([]:List (List Int))).length))∧((out++f::([]:List (List Int))=skF (p.length) a b (most.toNat) (p.length - f.length) f p q out)∧True))) ((∃x0:Nat,(((x0≤p.length)∧(f.length<p.length))∧((a=a)∧((b=b)∧((f=f)∧((p=p)∧((q=q)∧((most=most)∧(((↑(f.length):Int)=(↑(f.length):Int))∧(((0:Int)=(↑x0:Int))∧(out=skY (l03Seek_c2 a b f p q most) out x0)))))))))))∧(∀x1:Nat,(((x1≤p.length)∧(f.length<p.length))→(BrP (decide ((↑x1:Int)<(↑(q.length):Int))) (BrP (decide ((↑((skY (skG (p.length) a b (most.toNat) (skF (p.length) a b (most.toNat) (p.length - f.length - (1:Nat))) f p q) out x1).length):Int)<most)) (((room (f.length))∧True)∧((room (f.length+[(↑x1:Int)].length))∧(((f.length≤(1099511627776:Nat))∧True)∧(BrP (decide ((↑x1:Int)∈f)) ((InR ((↑x1:Int)+(1:Int)))∧(∃x2:Nat,(((x2≤p.length)∧(f.length<p.length))∧((p.length - x2<p.length - x1)∧((a=a)∧((b=b)∧((f=f)∧((p=p)∧((q=q)∧((most=most)∧(((↑(f.length):Int)=(↑(f.length):Int))∧(((↑x1:Int)+(1:Int)=(↑x2:Int))∧(skY (l03Seek_c2 a b f p q most) out x1=skY (l03Seek_c2 a b f p q most) out x2))))))))))))) ((inB (↑(f.length):Int) (p.length))∧((inB (↑x1:Int) (q.length))∧(BrP (p.getD ((↑(f.length):Int).toNat) (0:Int) != q.getD ((↑x1:Int).toNat) (0:Int)) ((InR ((↑x1:Int)+(1:Int)))∧(∃x3:Nat,(((x3≤p.length)∧(f.length<p.length))∧((p.length - x3<p.length - x1)∧((a=a) ∧
 ((b=b)∧((f=f)∧((p=p)∧((q=q)∧((most=most)∧(((↑(f.length):Int)=(↑(f.length):Int))∧(((↑x1:Int)+(1:Int)=(↑x3:Int))∧(skY (l03Seek_c2 a b f p q most) out x1=skY (l03Seek_c2 a b f p q most) out x3))))))))))))) ((((a.length≤(1000:Nat))∧((nT a≤(1000:Nat))∧(((1:Nat)≤(f++[(↑x1:Int)]).length)∧(((f++[(↑x1:Int)]).length≤nT a)∧((b.length=a.length)∧((tsN (nT a) a)∧((tsN (nT a) b)∧(∀(i:Nat),i<(f++[(↑x1:Int)]).length→(0:Int)≤(f++[(↑x1:Int)]).getD i (0:Int)∧(f++[(↑x1:Int)]).getD i (0:Int)<(↑(nT a):Int)))))))))∧True)∧(BrP (!ftB a b (f++[(↑x1:Int)])) ((InR ((↑x1:Int)+(1:Int)))∧(∃x4:Nat,(((x4≤p.length)∧(f.length<p.length))∧((p.length - x4<p.length - x1)∧((a=a)∧((b=b)∧((f=f)∧((p=p)∧((q=q)∧((most=most)∧(((↑(f.length):Int)=(↑(f.length):Int))∧(((↑x1:Int)+(1:Int)=(↑x4:Int))∧(skY (l03Seek_c2 a b f p q most) out x1=skY (l03Seek_c2 a b f p q most) out x4))))))))))))) (((room (p.length))∧True)∧(((room (q.length))∧True)∧((inB (↑(f.length):Int) (p.length))∧((inB (↑x1:Int) (q.length))∧((((a.length≤(1000:Nat))∧((b.length=a.length)∧(((1:Nat)≤(List.set p ((↑(f.length):Int).toNat) (60:Int)).length)∧(((List.set p ((↑(f.length):Int).toNat) (60:Int)).length≤(12:Nat))∧(((List.set q ((↑x1:Int).toNat) (60:Int)).length=(List.set p ((↑(f.length):Int).toNat) (60:Int)).length)∧((tsN ((List.set p ((↑(f.length):Int).toNat) (60:Int)).length) a)∧((tsN ((List.set p ((↑(f.length):Int).toNat) (60:Int)).length) b) ∧
 ((∀(i:Nat),i<(List.set p ((↑(f.length):Int).toNat) (60:Int)).length→(0:Int)≤(List.set p ((↑(f.length):Int).toNat) (60:Int)).getD i (0:Int)∧(List.set p ((↑(f.length):Int).toNat) (60:Int)).getD i (0:Int)≤(60:Int))∧(∀(i:Nat),i<(List.set p ((↑(f.length):Int).toNat) (60:Int)).length→(0:Int)≤(List.set q ((↑x1:Int).toNat) (60:Int)).getD i (0:Int)∧(List.set q ((↑x1:Int).toNat) (60:Int)).getD i (0:Int)≤(60:Int))))))))))∧True)∧(BrP (((rfR ((List.set p ((↑(f.length):Int).toNat) (60:Int)).length) a b (List.set p ((↑(f.length):Int).toNat) (60:Int)) (List.set q ((↑x1:Int).toNat) (60:Int))).2).2) ((((((f++[(↑x1:Int)]).length≤((l03Seek_c1 a b f p q x1).1).length)∧(((l03Seek_c1 a b f p q x1).1).length<d+(f++[(↑x1:Int)]).length))∧(((1:Nat)≤(f++[(↑x1:Int)]).length)∧((a.length≤(1000:Nat))∧((b.length=a.length)∧((((l03Seek_c1 a b f p q x1).1).length≤(12:Nat))∧(((((l03Seek_c1 a b f p q x1).2).1).length=((l03Seek_c1 a b f p q x1).1).length)∧((nT a=((l03Seek_c1 a b f p q x1).1).length)∧((tsN (((l03Seek_c1 a b f p q x1).1).length) a)∧((tsN (((l03Seek_c1 a b f p q x1).1).length) b)∧((∀(i:Nat),i<((l03Seek_c1 a b f p q x1).1).length→(0:Int)≤((l03Seek_c1 a b f p q x1).1).getD i (0:Int)∧((l03Seek_c1 a b f p q x1).1).getD i (0:Int)≤(60:Int))∧((∀(i:Nat),i<((l03Seek_c1 a b f p q x1).1).length→(0:Int)≤(((l03Seek_c1 a b f p q x1).2).1).getD i (0:Int)∧(((l03Seek_c1 a b f p q x1).2).1).getD i (0:Int)≤(60:Int)) ∧
 ((∀(i:Nat),i<(f++[(↑x1:Int)]).length→(0:Int)≤(f++[(↑x1:Int)]).getD i (0:Int)∧(f++[(↑x1:Int)]).getD i (0:Int)<(↑(((l03Seek_c1 a b f p q x1).1).length):Int))∧(((↑((skY (l03Seek_c2 a b f p q most) out x1).length):Int)<most)∧(most≤(1000000:Int)))))))))))))))∧(True∧True))∧((InR ((↑x1:Int)+(1:Int)))∧(∃x5:Nat,(((x5≤p.length)∧(f.length<p.length))∧((p.length - x5<p.length - x1)∧((a=a)∧((b=b)∧((f=f)∧((p=p)∧((q=q)∧((most=most)∧(((↑(f.length):Int)=(↑(f.length):Int))∧(((↑x1:Int)+(1:Int)=(↑x5:Int))∧(skF (((l03Seek_c1 a b f p q x1).1).length) a b (most.toNat) (((l03Seek_c1 a b f p q x1).1).length - (f++[(↑x1:Int)]).length) (f++[(↑x1:Int)]) ((l03Seek_c1 a b f p q x1).1) (((l03Seek_c1 a b f p q x1).2).1) (skY (l03Seek_c2 a b f p q most) out x1)=skY (l03Seek_c2 a b f p q most) out x5)))))))))))))) ((InR ((↑x1:Int)+(1:Int)))∧(∃x6:Nat,(((x6≤p.length)∧(f.length<p.length))∧((p.length - x6<p.length - x1)∧((a=a)∧((b=b)∧((f=f)∧((p=p)∧((q=q)∧((most=most)∧(((↑(f.length):Int)=(↑(f.length):Int))∧(((↑x1:Int)+(1:Int)=(↑x6:Int))∧(skY (l03Seek_c2 a b f p q most) out x1=skY (l03Seek_c2 a b f p q most) out x6)))))))))))))))))))))))))))) ((skY (l03Seek_c2 a b f p q most) out x1=skF (p.length) a b (most.toNat) (p.length - f.length) f p q out)∧True)) ((skY (l03Seek_c2 a b f p q most) out x1=skF (p.length) a b (most.toNat) (p.length - f.length) f p q out)∧True))))))
theorem l03Seek_vc (d:Nat) (a:List (List (List Int))) (b:List (List (List Int))) (f:List Int) (p:List Int) (q:List Int) (most:Int) (out:List (List Int)):runF Try.prog (gam (l03Seek_G d)) noWr (l03Seek_ann (d+1) a b f p q most out) Try.f58 (bodyOf Try.f58) [(6,0)] [.c (.r3 .i64 (a)),.c (.r3 .i64 (b)),.c (.ints .i64 (f)),.c (.ints .i64 (p)),.c (.ints .i64 (q)),.c (.int .i64 (most)),.c (.rows .i64 (out))] (l03Seek_p (d+1) a b f p q most out)=l03Seek_V d a b f p q most out:=by kernel_rfl
theorem l03Seek_ok (d:Nat) (a:List (List (List Int))) (b:List (List (List Int))) (f:List Int) (p:List Int) (q:List Int) (most:Int) (out:List (List Int)) (hpre:(l03Seek_p (d+1) a b f p q most out).pre):l03Seek_V d a b f p q most out:=by
 simp only [l03Seek_p,l03Seek_V,l03Seek_c1,l03Seek_c2,BrP_iff,u1,u2,u3,u4,u5,u6,u7,u8,u9,v1,v2,v3,v4,v5,v6,v7,v8,v9,w1,w2,w3,w4,markL_length,inB,InR,room,bdsOk] at hpre ⊢
 obtain ⟨⟨h1,h2⟩,h3,h4,h5,h6,h7,h8,h9,h10,h11,h12,h13,h14,h15⟩:=hpre
 refine ⟨fun e=>⟨by omega,by omega,?_⟩,fun e=>⟨⟨0,⟨by omega,by omega⟩,rfl,rfl⟩,fun y ⟨hy,hfl⟩=>⟨fun y2=>⟨fun hlt=>?_,fun hlt=>?_⟩,fun y2=>?_⟩⟩⟩
 ·rw [show p.length - f.length=0 by omega];rfl
 ·have hm:∀m,skY (skG p.length a b most.toNat (skF p.length a b most.toNat (p.length - f.length - 1)) f p q) out y=m→skY (skG p.length a b most.toNat (skF p.length a b most.toNat (p.length - f.length - 1)) f p q) out (y+1)=skG p.length a b most.toNat (skF p.length a b most.toNat (p.length - f.length - 1)) f p q y m:=fun m e=>by rw [skY,e]
  generalize skY (skG p.length a b most.toNat (skF p.length a b most.toNat (p.length - f.length - 1)) f p q) out y=o at *
  have hm:=hm o rfl
  have hlt2:o.length<most.toNat:=by omega
  have next:∀r,skG p.length a b most.toNat (skF p.length a b most.toNat (p.length - f.length - 1)) f p q y o=r→r=skY (skG p.length a b most.toNat (skF p.length a b most.toNat (p.length - f.length - 1)) f p q) out (y+1):=fun r e=>by rw [hm,e]
  refine ⟨by omega,by omega,by omega,fun m=>⟨by omega,y+1,⟨by omega,by omega⟩,by omega,by omega,next _ ?_⟩,fun m=>⟨by omega,by omega,fun c=>⟨by omega,y+1,⟨by omega,by omega⟩,by omega,by omega,next _ ?_⟩,fun c=>⟨⟨h4,by omega,by omega,by omega,h5,by rw [h8];exact h9,by rw [h8];exact h10,by rw [h8];exact snoc_in h13 (by omega)⟩,fun g=>⟨by omega,y+1,⟨by omega,by omega⟩,by omega,by omega,next _ ?_⟩,fun g=>⟨by omega,by omega,by omega,by omega,⟨h4,h5,by omega,h6,h7,h9,h10,set60 h11 rfl _,set60 h12 h7 _⟩,fun r=>?_,fun r=>⟨by omega,y+1,⟨by omega,by omega⟩,by omega,by omega,next _ ?_⟩⟩⟩⟩⟩
  ·rw [skG,if_pos hlt2,if_pos (.inl m)]
  ·rw [skG,if_pos hlt2,if_pos (.inr (.inl c))]
  ·rw [skG,if_pos hlt2,if_pos (.inr (.inr g))]
  ·have ok:=rfR_ok r
   obtain ⟨l1,l2,l3,l4⟩:=rfF_len _ _ _ _ _ _ ok
   rw [l1]
   refine ⟨⟨⟨by omega,by omega⟩,by omega,h4,h5,h6,by omega,h8,h9,h10,fun i hi=>?_,fun i hi=>?_,snoc_in h13 (by omega),hlt,h15⟩,by omega,y+1,⟨by omega,by omega⟩,by omega,by omega,next _ ?_⟩
   ·have:=l3 i hi;omega
   ·have:=l4 i hi;omega
   ·rw [skG,if_pos hlt2,if_neg (by rintro (z | z | z);exact m z;exact z c;rw [g] at z;cases z),ok]
    simp only
    rw [show p.length - f.length - 1=p.length - (f.length+(0+1)) by omega]
  ·rw [skG,if_pos hlt2,if_neg (by rintro (z | z | z);exact m z;exact z c;rw [g] at z;cases z),rfR_no r]
 ·rw [show p.length - f.length=(p.length - f.length - 1)+1 by omega,skF]
  have:=skY_full (n:=p.length) (a:=a) (b:=b) (most:=most.toNat) (rec:=skF p.length a b most.toNat (p.length - f.length - 1)) (f:=f) (c:=p) (d:=q) (out:=out) (y:=y) (by omega) (p.length - y)
  rw [show y+(p.length - y)=p.length by omega] at this
  exact this.symm
 ·rw [show y=p.length by omega]
  generalize hk:p.length - f.length - 1=k
  rw [show p.length - f.length=k+1 by omega];rfl
theorem l03Seek_no (a:List (List (List Int))) (b:List (List (List Int))) (f:List Int) (p:List Int) (q:List Int) (most:Int) (out:List (List Int)) (h:(l03Seek_p 0 a b f p q most out).pre):False:=by
 simp only [l03Seek_p] at h
 omega
theorem l03Seek_fits (d:Nat):Fits Try.prog 58 ⟨[(6,0)],l03Seek_ct d⟩:=by
 induction d with
 | zero =>
  refine fits_no ⟨Try.f58,Try.func58,by kernel_rfl,by kernel_rfl⟩ (by decide) fun ds p h hp=>?_
  unfold l03Seek_ct at h
  split at h
  ·cases h
   exact l03Seek_no _ _ _ _ _ _ _  hp
  ·cases h
 | succ d ih =>
  refine fits_fn (Γ:=gam (l03Seek_G d)) (gok_cons l01Own_fits (gok_cons l01Has_fits (gok_cons l03Fits_fits (gok_cons l03Refine_fits (gok_cons ih gok_nil))))) Try.func58 (by kernel_rfl) (by kernel_rfl) (by kernel_rfl) fun ds p h hp=>?_
  unfold l03Seek_ct at h
  split at h
  ·cases h
   exact ⟨noWr,l03Seek_ann _ _ _ _ _ _ _ _ ,by rw [l03Seek_vc];exact l03Seek_ok _ _ _ _ _ _ _ _  hp⟩
  ·cases h
def mpR (a b:List (List (List Int))) (most:Int):List (List Int):=if nT a=nT b then mpL (nT a) a b most.toNat else []
theorem rep_in {n:Nat} (j:Nat):∀i,i<n→0≤((List.replicate n (0:Int)).set j 60).getD i 0∧((List.replicate n (0:Int)).set j 60).getD i 0≤60 :=
 set60 (fun i hi=>by simp [List.getD_eq_getElem?_getD,hi]) (by simp) j
def l03Maps_p (a:List (List (List Int))) (b:List (List (List Int))) (f:List Int) (most:Int):Post:=⟨f=[0]∧1≤a.length∧a.length≤1000∧b.length=a.length∧1≤nT a∧nT a≤12∧tsN (nT a) a∧tsN (nT b) b∧1≤most∧most≤1000000,.c (.rows 42 2 .i64 (mpR a b most)),[]⟩
def l03Maps_ct:List AD→Option Post
 | [.c (.r3 .i64 (a)),.c (.r3 .i64 (b)),.c (.ints .i64 (f)),.c (.int .i64 (most))]=>some (l03Maps_p a b f most)
 | _=>none
def l03Maps_G:List (Nat×Ctr):=[(56,⟨[],l03Fits_ct⟩),(57,⟨[],l03Refine_ct⟩),(58,⟨[(6,0)],l03Seek_ct 13⟩)]
def l03Maps_c1 (a:List (List (List Int))):=(List.replicate ((↑((a.getD (0:Nat) ([]:List (List Int))).length):Int).toNat) (0:Int))
def l03Maps_c2 (a:List (List (List Int))) (b:List (List (List Int))):=(rfR ((List.set (l03Maps_c1 a) (0:Nat) (60:Int)).length) a b (List.set (l03Maps_c1 a) (0:Nat) (60:Int)) (List.set (l03Maps_c1 a) (0:Nat) (60:Int)))
def l03Maps_c3 (a:List (List (List Int))) (b:List (List (List Int))):=(rfR ((l03Maps_c1 a).length) a b (l03Maps_c1 a) (l03Maps_c1 a))
def l03Maps_V (a:List (List (List Int))) (b:List (List (List Int))) (f:List Int) (most:Int):Prop :=
 ((inB (0:Int) (a.length))∧((inB (0:Int) (b.length))∧(BrP ((↑((a.getD (0:Nat) ([]:List (List Int))).length):Int) != (↑((b.getD (0:Nat) ([]:List (List Int))).length):Int)) ((([]:List (List Int))=mpR a b most)∧True) ((inB (0:Int) (a.length))∧((((0:Int)≤(↑((a.getD (0:Nat) ([]:List (List Int))).length):Int))∧(((↑((a.getD (0:Nat) ([]:List (List Int))).length):Int)≤(↑((a.getD (0:Nat) ([]:List (List Int))).length):Int))∧(room ((↑((a.getD (0:Nat) ([]:List (List Int))).length):Int).toNat))))∧((inB (0:Int) (a.length))∧((((0:Int)≤(↑((a.getD (0:Nat) ([]:List (List Int))).length):Int))∧(((↑((a.getD (0:Nat) ([]:List (List Int))).length):Int)≤(↑((a.getD (0:Nat) ([]:List (List Int))).length):Int))∧(room ((↑((a.getD (0:Nat) ([]:List (List Int))).length):Int).toNat))))∧(BrP (decide ((0:Int)<(↑(f.length):Int))) ((((a.length≤(1000:Nat))∧((nT a≤(1000:Nat))∧(((1:Nat)≤f.length)∧((f.length≤nT a)∧((b.length=a.length)∧((tsN (nT a) a)∧((tsN (nT a) b)∧(∀(i:Nat),i<f.length→(0:Int)≤f.getD i (0:Int)∧f.getD i (0:Int)<(↑(nT a):Int)))))))))∧True)∧(BrP (!ftB a b f) ((([]:List (List Int))=mpR a b most)∧True) ((inB (0:Int) ((l03Maps_c1 a).length))∧((inB (0:Int) ((l03Maps_c1 a).length))∧((((a.length≤(1000:Nat))∧((b.length=a.length)∧(((1:Nat)≤(List.set (l03Maps_c1 a) (0:Nat) (60:Int)).length)∧(((List.set (l03Maps_c1 a) (0:Nat) (60:Int)).length≤(12:Nat)) ∧
 (((List.set (l03Maps_c1 a) (0:Nat) (60:Int)).length=(List.set (l03Maps_c1 a) (0:Nat) (60:Int)).length)∧((tsN ((List.set (l03Maps_c1 a) (0:Nat) (60:Int)).length) a)∧((tsN ((List.set (l03Maps_c1 a) (0:Nat) (60:Int)).length) b)∧((∀(i:Nat),i<(List.set (l03Maps_c1 a) (0:Nat) (60:Int)).length→(0:Int)≤(List.set (l03Maps_c1 a) (0:Nat) (60:Int)).getD i (0:Int)∧(List.set (l03Maps_c1 a) (0:Nat) (60:Int)).getD i (0:Int)≤(60:Int))∧(∀(i:Nat),i<(List.set (l03Maps_c1 a) (0:Nat) (60:Int)).length→(0:Int)≤(List.set (l03Maps_c1 a) (0:Nat) (60:Int)).getD i (0:Int)∧(List.set (l03Maps_c1 a) (0:Nat) (60:Int)).getD i (0:Int)≤(60:Int))))))))))∧True)∧(BrP (!((rfR ((List.set (List.replicate ((↑((a.getD (0:Nat) ([]:List (List Int))).length):Int).toNat) (0:Int)) (0:Nat) (60:Int)).length) a b (List.set (List.replicate ((↑((a.getD (0:Nat) ([]:List (List Int))).length):Int).toNat) (0:Int)) (0:Nat) (60:Int)) (List.set (List.replicate ((↑((a.getD (0:Nat) ([]:List (List Int))).length):Int).toNat) (0:Int)) (0:Nat) (60:Int))).2).2) ((([]:List (List Int))=mpR a b most)∧True) (((((f.length≤((l03Maps_c2 a b).1).length)∧(((l03Maps_c2 a b).1).length<(13:Nat)+f.length))∧(((1:Nat)≤f.length)∧((a.length≤(1000:Nat))∧((b.length=a.length)∧((((l03Maps_c2 a b).1).length≤(12:Nat))∧(((((l03Maps_c2 a b).2).1).length=((l03Maps_c2 a b).1).length)∧((nT a=((l03Maps_c2 a b).1).length)∧((tsN (((l03Maps_c2 a b).1).length) a)∧((tsN (((l03Maps_c2 a b).1).length) b) ∧
 ((∀(i:Nat),i<((l03Maps_c2 a b).1).length→(0:Int)≤((l03Maps_c2 a b).1).getD i (0:Int)∧((l03Maps_c2 a b).1).getD i (0:Int)≤(60:Int))∧((∀(i:Nat),i<((l03Maps_c2 a b).1).length→(0:Int)≤(((l03Maps_c2 a b).2).1).getD i (0:Int)∧(((l03Maps_c2 a b).2).1).getD i (0:Int)≤(60:Int))∧((∀(i:Nat),i<f.length→(0:Int)≤f.getD i (0:Int)∧f.getD i (0:Int)<(↑(((l03Maps_c2 a b).1).length):Int))∧(((↑(([]:List (List Int)).length):Int)<most)∧(most≤(1000000:Int)))))))))))))))∧(True∧True))∧((skF (((l03Maps_c2 a b).1).length) a b (most.toNat) (((l03Maps_c2 a b).1).length - f.length) f ((l03Maps_c2 a b).1) (((l03Maps_c2 a b).2).1) ([]:List (List Int))=mpR a b most)∧True)))))))) ((((a.length≤(1000:Nat))∧((b.length=a.length)∧(((1:Nat)≤(l03Maps_c1 a).length)∧(((l03Maps_c1 a).length≤(12:Nat))∧(((l03Maps_c1 a).length=(l03Maps_c1 a).length)∧((tsN ((l03Maps_c1 a).length) a)∧((tsN ((l03Maps_c1 a).length) b)∧((∀(i:Nat),i<(l03Maps_c1 a).length→(0:Int)≤(l03Maps_c1 a).getD i (0:Int)∧(l03Maps_c1 a).getD i (0:Int)≤(60:Int))∧(∀(i:Nat),i<(l03Maps_c1 a).length→(0:Int)≤(l03Maps_c1 a).getD i (0:Int)∧(l03Maps_c1 a).getD i (0:Int)≤(60:Int))))))))))∧True) ∧
 (BrP (!((rfR ((List.replicate ((↑((a.getD (0:Nat) ([]:List (List Int))).length):Int).toNat) (0:Int)).length) a b (List.replicate ((↑((a.getD (0:Nat) ([]:List (List Int))).length):Int).toNat) (0:Int)) (List.replicate ((↑((a.getD (0:Nat) ([]:List (List Int))).length):Int).toNat) (0:Int))).2).2) ((([]:List (List Int))=mpR a b most)∧True) (((((f.length≤((l03Maps_c3 a b).1).length)∧(((l03Maps_c3 a b).1).length<(13:Nat)+f.length))∧(((1:Nat)≤f.length)∧((a.length≤(1000:Nat))∧((b.length=a.length)∧((((l03Maps_c3 a b).1).length≤(12:Nat))∧(((((l03Maps_c3 a b).2).1).length=((l03Maps_c3 a b).1).length)∧((nT a=((l03Maps_c3 a b).1).length)∧((tsN (((l03Maps_c3 a b).1).length) a)∧((tsN (((l03Maps_c3 a b).1).length) b)∧((∀(i:Nat),i<((l03Maps_c3 a b).1).length→(0:Int)≤((l03Maps_c3 a b).1).getD i (0:Int)∧((l03Maps_c3 a b).1).getD i (0:Int)≤(60:Int))∧((∀(i:Nat),i<((l03Maps_c3 a b).1).length→(0:Int)≤(((l03Maps_c3 a b).2).1).getD i (0:Int)∧(((l03Maps_c3 a b).2).1).getD i (0:Int)≤(60:Int))∧((∀(i:Nat),i<f.length→(0:Int)≤f.getD i (0:Int)∧f.getD i (0:Int)<(↑(((l03Maps_c3 a b).1).length):Int))∧(((↑(([]:List (List Int)).length):Int)<most)∧(most≤(1000000:Int)))))))))))))))∧(True∧True))∧((skF (((l03Maps_c3 a b).1).length) a b (most.toNat) (((l03Maps_c3 a b).1).length - f.length) f ((l03Maps_c3 a b).1) (((l03Maps_c3 a b).2).1) ([]:List (List Int))=mpR a b most)∧True))))))))))))
theorem l03Maps_vc (a:List (List (List Int))) (b:List (List (List Int))) (f:List Int) (most:Int):runF Try.prog (gam l03Maps_G) noWr noAnn Try.f41 (bodyOf Try.f41) [] [.c (.r3 .i64 (a)),.c (.r3 .i64 (b)),.c (.ints .i64 (f)),.c (.int .i64 (most))] (l03Maps_p a b f most)=l03Maps_V a b f most:=by kernel_rfl
theorem l03Maps_ok (a:List (List (List Int))) (b:List (List (List Int))) (f:List Int) (most:Int) (hpre:(l03Maps_p a b f most).pre):l03Maps_V a b f most:=by
 simp only [l03Maps_p,l03Maps_V,l03Maps_c1,l03Maps_c2,l03Maps_c3,BrP_iff,u1,u2,u3,u4,u5,u6,u7,u8,u9,v1,v2,v3,v4,v5,v6,v7,v8,v9,w1,w2,w3,w4,markL_length,inB,InR,room,bdsOk] at hpre ⊢
 obtain ⟨rfl,h1,h2,h3,h4,h5,h6,h7,h8,h9⟩:=hpre
 have ea:(a.getD 0 []).length=nT a:=rfl
 have eb:(b.getD 0 []).length=nT b:=rfl
 simp only [ea,eb,List.length_cons,List.length_nil]
 refine ⟨by omega,by omega,fun q=>?_,fun q=>?_⟩
 ·rw [mpR,if_neg (by omega)]
 have e:nT a=nT b:=by omega
 rw [←e] at h7
 have R:mpR a b most=mpL (nT a) a b most.toNat:=if_pos e
 rw [R]
 refine ⟨by omega,by omega,by omega,by omega,fun _=>⟨⟨h2,by omega,by omega,by omega,h3,h6,h7,fun i hi=>?_⟩,fun z=>?_,fun z=>⟨by omega,by omega,⟨h2,h3,h4,h5,h6,h7,rep_in 0,rep_in 0⟩,fun y=>?_,fun y=>?_⟩⟩,fun z=>absurd z (by omega)⟩
 ·have:i=0:=by omega
  subst this;simp;omega
 ·rw [mpL,if_pos z]
 ·rw [mpL,if_neg (by rw [z];simp),rfR_no y]
 ·have ok:=rfR_ok y
  obtain ⟨l1,l2,l3,l4⟩:=rfF_len _ _ _ _ _ _ ok
  rw [l1]
  refine ⟨⟨⟨by omega,by omega⟩,by omega,h2,h3,h5,by omega,rfl,h6,h7,fun i hi=>?_,fun i hi=>?_,fun i hi=>?_,by omega,by omega⟩,?_⟩
  ·have:=l3 i hi;omega
  ·have:=l4 i hi;omega
  ·have:i=0:=by omega
   subst this;simp;omega
  ·rw [mpL,if_neg (by rw [z];simp),ok]
theorem l03Maps_fits:Fits Try.prog 41 ⟨[],l03Maps_ct⟩:=by
 refine ffn (Γ:=gam l03Maps_G) (gok_cons l03Fits_fits (gok_cons l03Refine_fits (gok_cons (l03Seek_fits 13) gok_nil))) Try.func41 fun ds p h hp=>?_
 unfold l03Maps_ct at h
 split at h
 ·cases h
  exact ⟨noWr,noAnn,by rw [l03Maps_vc];exact l03Maps_ok _ _ _ _  hp⟩
 ·cases h
end Go.Sx
