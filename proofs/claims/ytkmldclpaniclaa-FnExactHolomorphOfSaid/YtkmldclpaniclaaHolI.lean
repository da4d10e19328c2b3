/- HolI -/
import Derived.Test.YtkmldclpaniclaaHol
import Derived.Test.YtkmldclpaniclaaSrtNP
import Derived.Test.YtkmldclpaniclaaMpgA
open Go Go.Proofs
namespace Go.Sx
set_option linter.unusedSimpArgs false
set_option linter.unusedVariables false
def Equal_p (a:List Int) (b:List Int):Post:=⟨a.length≤9223372036854775807∧b.length≤9223372036854775807,.c (.bool (decide (a=b))),[]⟩
def Equal_ct:List AD→Option Post
 | [.c (.ints .i64 (a)),.c (.ints .i64 (b))]=>some (Equal_p a b)
 | _=>none
def Equal_ann (a:List Int) (b:List Int):Nat→Option Ann
 | 0=>some (Ann.mk ((Nat)) (fun i=>⟨[(0,.c (.ro (.ints .i64 (a)))),(1,.c (.ro (.ints .i64 (b)))),(12,.c (.int .i64 ((a.length:Int)))),(13,.c (.int .i64 ((i:Int))))],[]⟩) (fun i=>i≤a.length∧a.length=b.length∧decide (a=b)=decide (a.drop i=b.drop i)) (fun i=>a.length - i) (fun _=>noAnn))
 | _=>none
def Equal_G:List (Nat×Ctr):=[]
def Equal_V (a:List Int) (b:List Int):Prop :=
 (BrP ((↑(a.length):Int) != (↑(b.length):Int)) ((false=decide (a=b))∧True) ((∃x0:Nat,(((x0≤a.length)∧((a.length=b.length)∧(decide (a=b)=decide (List.drop x0 a=List.drop x0 b))))∧((a=a)∧((b=b)∧(((↑(a.length):Int)=(↑(a.length):Int))∧((0:Int)=(↑x0:Int)))))))∧(∀x1:Nat,(((x1≤a.length)∧((a.length=b.length)∧(decide (a=b)=decide (List.drop x1 a=List.drop x1 b))))→(BrP (decide ((↑x1:Int)<(↑(a.length):Int))) ((inB (↑x1:Int) (a.length))∧((inB (↑x1:Int) (b.length))∧(BrP (a.getD ((↑x1:Int).toNat) (0:Int) != b.getD ((↑x1:Int).toNat) (0:Int)) ((false=decide (a=b))∧True) ((InR ((↑x1:Int)+(1:Int)))∧(∃x2:Nat,(((x2≤a.length)∧((a.length=b.length)∧(decide (a=b)=decide (List.drop x2 a=List.drop x2 b))))∧((a.length - x2<a.length - x1)∧((a=a)∧((b=b)∧(((↑(a.length):Int)=(↑(a.length):Int))∧((↑x1:Int)+(1:Int)=(↑x2:Int)))))))))))) ((true=decide (a=b))∧True))))))
theorem Equal_vc (a:List Int) (b:List Int):runF Try.prog (gam Equal_G) noWr (Equal_ann a b) Try.f31 (bodyOf Try.f31) [] [.c (.ints .i64 (a)),.c (.ints .i64 (b))] (Equal_p a b)=Equal_V a b:=by kernel_rfl
theorem Equal_ok (a:List Int) (b:List Int) (hpre:(Equal_p a b).pre):Equal_V a b:=by
 simp only [Equal_p,Equal_V,BrP_iff,u1,u2,u3,u4,u5,u6,u7,u8,u9,v1,v2,v3,v4,v5,v6,v7,v8,v9,w1,w2,w3,w4,markL_length,inB,InR,room,bdsOk] at hpre ⊢
 refine ⟨fun h=>?_,fun h=>⟨⟨0,⟨by omega,by omega,rfl⟩,rfl⟩,fun i ⟨hi,hl,he⟩=>⟨fun h2=>?_,fun h2=>?_⟩⟩⟩
 ·exact (decide_eq_false fun e=>h (by rw [e])).symm
 ·have ea:=drop_cons' a 0 i (by omega)
  have eb:=drop_cons' b 0 i (by omega)
  refine ⟨by omega,by omega,fun h3=>?_,fun h3=>⟨by omega,i+1,⟨by omega,hl,?_⟩,by omega,by omega⟩⟩
  ·rw [he,ea,eb]
   exact (decide_eq_false fun e=>h3 (by injection e)).symm
  ·rw [he,ea,eb,h3]
   simp
 ·rw [he,List.drop_eq_nil_of_le (by omega),List.drop_eq_nil_of_le (by omega)];rfl
theorem Equal_fits:Fits Try.prog 31 ⟨[],Equal_ct⟩:=by
 refine ffn (Γ:=gam Equal_G) gok_nil Try.func31 fun ds p h hp=>?_
 unfold Equal_ct at h
 split at h
 ·cases h
  exact ⟨noWr,Equal_ann _ _ ,by rw [Equal_vc];exact Equal_ok _ _  hp⟩
 ·cases h
def thenL_p (p:List Int) (q:List Int):Post:=⟨p.length≤1000∧inQ q.length p,.c (.ints 2 .i64 (thL p q)),[]⟩
def thenL_ct:List AD→Option Post
 | [.c (.ints .i64 (p)),.c (.ints .i64 (q))]=>some (thenL_p p q)
 | _=>none
def thenL_ann (p:List Int) (q:List Int):Nat→Option Ann
 | 0=>some (Ann.mk ((Nat)) (fun i=>⟨[(0,.c (.ro (.ints .i64 (p)))),(1,.c (.ro (.ints .i64 (q)))),(5,.c (.own (10))),(11,.c (.ro (.ints .i64 (p)))),(12,.c (.int .i64 ((p.length:Int)))),(13,.c (.int .i64 ((i:Int))))],[(10,some (.ints 2 .i64 ((thL p q).take i++List.replicate ((thL p q).length - i) 0)))]⟩) (fun i=>i≤p.length) (fun i=>p.length - i) (fun _=>noAnn))
 | _=>none
def thenL_G:List (Nat×Ctr):=[]
def thenL_V (p:List Int) (q:List Int):Prop :=
 ((((0:Int)≤(↑(p.length):Int))∧(((↑(p.length):Int)≤(↑(p.length):Int))∧(room ((↑(p.length):Int).toNat))))∧((∃x0:Nat,((x0≤p.length)∧((p=p)∧((q=q)∧((p=p)∧(((↑(p.length):Int)=(↑(p.length):Int))∧(((0:Int)=(↑x0:Int))∧(List.replicate ((↑(p.length):Int).toNat) (0:Int)=List.take x0 (thL p q)++List.replicate ((thL p q).length - x0) (0:Int)))))))))∧(∀x1:Nat,((x1≤p.length)→(BrP (decide ((↑x1:Int)<(↑(p.length):Int))) ((inB (↑x1:Int) (p.length))∧((inB (p.getD ((↑x1:Int).toNat) (0:Int)) (q.length))∧((inB (↑x1:Int) ((List.take x1 (thL p q)++List.replicate ((thL p q).length - x1) (0:Int)).length))∧((InR ((↑x1:Int)+(1:Int)))∧(∃x2:Nat,((x2≤p.length)∧((p.length - x2<p.length - x1)∧((p=p)∧((q=q)∧((p=p)∧(((↑(p.length):Int)=(↑(p.length):Int))∧(((↑x1:Int)+(1:Int)=(↑x2:Int))∧(List.set (List.take x1 (thL p q)++List.replicate ((thL p q).length - x1) (0:Int)) ((↑x1:Int).toNat) (q.getD ((p.getD ((↑x1:Int).toNat) (0:Int)).toNat) (0:Int))=List.take x2 (thL p q)++List.replicate ((thL p q).length - x2) (0:Int)))))))))))))) ((List.take x1 (thL p q)++List.replicate ((thL p q).length - x1) (0:Int)=thL p q)∧True))))))
theorem thenL_vc (p:List Int) (q:List Int):runF Try.prog (gam thenL_G) noWr (thenL_ann p q) Try.f27 (bodyOf Try.f27) [] [.c (.ints .i64 (p)),.c (.ints .i64 (q))] (thenL_p p q)=thenL_V p q:=by kernel_rfl
theorem thenL_ok (p:List Int) (q:List Int) (hpre:(thenL_p p q).pre):thenL_V p q:=by
 simp only [thenL_p,thenL_V,BrP_iff,u1,u2,u3,u4,u5,u6,u7,u8,u9,v1,v2,v3,v4,v5,v6,v7,v8,v9,w1,w2,w3,w4,markL_length,inB,InR,room,bdsOk] at hpre ⊢
 obtain ⟨h1,h3⟩:=hpre
 have hl:=thL_length p q
 refine ⟨by omega,⟨0,by omega,rfl,fill_start _ _ _ hl⟩,fun i hi=>⟨fun h=>?_,fun h=>?_⟩⟩
 ·have hr:=h3 i (by omega)
  refine ⟨by omega,by omega,by omega,by omega,i+1,by omega,by omega,by omega,?_⟩
  rw [←fill_step (thL p q) 0 0 i (by omega),thL_get (by omega)]
 ·exact fill_end _ _ _ (by omega)
theorem thenL_fits:Fits Try.prog 27 ⟨[],thenL_ct⟩:=by
 refine ffn (Γ:=gam thenL_G) gok_nil Try.func27 fun ds p h hp=>?_
 unfold thenL_ct at h
 split at h
 ·cases h
  exact ⟨noWr,thenL_ann _ _ ,by rw [thenL_vc];exact thenL_ok _ _  hp⟩
 ·cases h
def isGroup_p (t:List (List Int)):Post:=⟨roomR t,.c (.bool (grpB t)),[]⟩
def isGroup_ct:List AD→Option Post
 | [.agg [.rows .i64 (t)]]=>some (isGroup_p t)
 | _=>none
def isGroup_G:List (Nat×Ctr):=[(44,⟨[],isGroupTable_ct⟩)]
def isGroup_V (t:List (List Int)):Prop :=
 (((roomR t)∧True)∧((grpB t=grpB t)∧True))
theorem isGroup_vc (t:List (List Int)):runF Try.prog (gam isGroup_G) noWr noAnn Try.f25 (bodyOf Try.f25) [] [.agg [.rows .i64 (t)]] (isGroup_p t)=isGroup_V t:=by kernel_rfl
theorem isGroup_ok (t:List (List Int)) (hpre:(isGroup_p t).pre):isGroup_V t:=by
 simp only [isGroup_p,isGroup_V,BrP_iff,u1,u2,u3,u4,u5,u6,u7,u8,u9,v1,v2,v3,v4,v5,v6,v7,v8,v9,w1,w2,w3,w4,markL_length,inB,InR,room,bdsOk] at hpre ⊢
 exact hpre
theorem isGroup_fits:Fits Try.prog 25 ⟨[],isGroup_ct⟩:=by
 refine ffn (Γ:=gam isGroup_G) (gok_cons isGroupTable_fits gok_nil) Try.func25 fun ds p h hp=>?_
 unfold isGroup_ct at h
 split at h
 ·cases h
  exact ⟨noWr,noAnn,by rw [isGroup_vc];exact isGroup_ok _  hp⟩
 ·cases h
def iHol_p (t:List (List Int)):Post:=⟨roomR t,.tup [.inl (.rows 42 2 .i64 ((if grpB t=true then if t.length≤7 then insA (hoP t (auF t) t.length 0) else [] else []))),.inl (.int .i64 ((if grpB t=true then if t.length≤7 then 0 else 3 else 1)))],[]⟩
def iHol_ct:List AD→Option Post
 | [.agg [.rows .i64 (t)]]=>some (iHol_p t)
 | _=>none
def iHol_ann (t:List (List Int)):Nat→Option Ann
 | 0=>some (Ann.mk ((Nat)) (fun a=>⟨[(1,.c (.ptr 600 0)),(4,.c (.own (601))),(17,.c (.ro (.rows .i64 (t)))),(18,.c (.int .i64 ((t.length:Int)))),(19,.c (.int .i64 ((a:Int))))],[(600,some (.box [.ro (.rows .i64 (t))])),(601,some (.rows 0 42 2 .i64 (hoP t (auF t) a 0)))]⟩) (fun a=>a≤t.length∧grpB t=true∧t.length≤7) (fun a=>t.length - a) (fun a=>fun b_=>match b_ with | 2=>some (Ann.mk ((Nat)) (fun i=>⟨[(1,.c (.ptr 600 0)),(4,.c (.own (601))),(17,.c (.ro (.rows .i64 (t)))),(18,.c (.int .i64 ((t.length:Int)))),(19,.c (.int .i64 ((a:Int)))),(6,.c (.ro (.ints .i64 ((t.getD a []))))),(25,.c (.own (602))),(26,.c (.int .i64 (((auF t).length:Int)))),(27,.c (.int .i64 ((i:Int))))],[(600,some (.box [.ro (.rows .i64 (t))])),(601,some (.rows 0 42 2 .i64 (hoP t (auF t) a i))),(602,some (.rows 0 42 2 .i64 (auF t)))]⟩) (fun i=>i≤(auF t).length∧a<t.length) (fun i=>(auF t).length - i) (fun _=>noAnn)) | _=>none))
 | _=>none
def iHol_G:List (Nat×Ctr):=[(25,⟨[],isGroup_ct⟩),(26,⟨[],groupAut_ct⟩),(27,⟨[],thenL_ct⟩),(28,⟨[(0,97),(0,97)],sSortN_ct⟩),(30,⟨[(0,0)],compactF_ct⟩),(31,⟨[],Equal_ct⟩),(29,⟨[],slicesCompare_ct⟩)]
def iHol_V (t:List (List Int)):Prop :=
 (((roomR t)∧True)∧(BrP (!grpB t) (((([]:List (List Int))=if grpB t=true then if t.length≤(7:Nat) then insA (hoP t (auF t) (t.length) (0:Nat)) else ([]:List (List Int)) else ([]:List (List Int)))∧(((1:Int)=if grpB t=true then if t.length≤(7:Nat) then (0:Int) else (3:Int) else (1:Int))∧True))∧True) (BrP (decide ((7:Int)<(↑(t.length):Int))) (((([]:List (List Int))=if grpB t=true then if t.length≤(7:Nat) then insA (hoP t (auF t) (t.length) (0:Nat)) else ([]:List (List Int)) else ([]:List (List Int)))∧(((3:Int)=if grpB t=true then if t.length≤(7:Nat) then (0:Int) else (3:Int) else (1:Int))∧True))∧True) ((∃x0:Nat,(((x0≤t.length)∧((grpB t=true)∧(t.length≤(7:Nat))))∧((t=t)∧(((↑(t.length):Int)=(↑(t.length):Int))∧(((0:Int)=(↑x0:Int))∧((t=t)∧(hoP t (auF t) x0 (0:Nat)=([]:List (List Int)))))))))∧(∀x1:Nat,(((x1≤t.length)∧((grpB t=true)∧(t.length≤(7:Nat))))→(BrP (decide ((↑x1:Int)<(↑(t.length):Int))) ((inB (↑x1:Int) (t.length))∧(((((1:Nat)≤t.length)∧((IsoPre (t::([]:List (List (List Int)))) (t::([]:List (List (List Int)))))∧((isoS (t::([]:List (List (List Int)))) (t::([]:List (List (List Int))))).length≤(1000000000:Nat))))∧True)∧((∃x2:Nat,(((x2≤(auF t).length)∧(x1<t.length))∧((t=t)∧(((↑(t.length):Int)=(↑(t.length):Int))∧(((↑x1:Int)=(↑x1:Int))∧((t.getD ((↑x1:Int).toNat) []=t.getD x1 []) ∧
 (((↑((isoS (t::([]:List (List (List Int)))) (t::([]:List (List (List Int))))).length):Int)=(↑((auF t).length):Int))∧(((0:Int)=(↑x2:Int))∧((t=t)∧((hoP t (auF t) x1 (0:Nat)=hoP t (auF t) x1 x2)∧(isoS (t::([]:List (List (List Int)))) (t::([]:List (List (List Int))))=auF t)))))))))))∧(∀x3:Nat,(((x3≤(auF t).length)∧(x1<t.length))→(BrP (decide ((↑x3:Int)<(↑((auF t).length):Int))) ((inB (↑x3:Int) ((auF t).length))∧((((((auF t).getD ((↑x3:Int).toNat) []).length≤(1000:Nat))∧(inQ ((t.getD x1 []).length) ((auF t).getD ((↑x3:Int).toNat) [])))∧True)∧((room ((hoP t (auF t) x1 x3).length+(thL ((auF t).getD ((↑x3:Int).toNat) []) (t.getD x1 [])::([]:List (List Int))).length))∧((InR ((↑x3:Int)+(1:Int)))∧(∃x4:Nat,(((x4≤(auF t).length)∧(x1<t.length))∧(((auF t).length - x4<(auF t).length - x3)∧((t=t)∧(((↑(t.length):Int)=(↑(t.length):Int))∧(((↑x1:Int)=(↑x1:Int))∧((t.getD x1 []=t.getD x1 [])∧(((↑((auF t).length):Int)=(↑((auF t).length):Int))∧(((↑x3:Int)+(1:Int)=(↑x4:Int))∧((t=t)∧((hoP t (auF t) x1 x3++thL ((auF t).getD ((↑x3:Int).toNat) []) (t.getD x1 [])::([]:List (List Int))=hoP t (auF t) x1 x4)∧(auF t=auF t)))))))))))))))) ((InR ((↑x1:Int)+(1:Int)))∧(∃x5:Nat,(((x5≤t.length)∧((grpB t=true)∧(t.length≤(7:Nat))))∧((t.length - x5<t.length - x1)∧((t=t)∧(((↑(t.length):Int)=(↑(t.length):Int))∧(((↑x1:Int)+(1:Int)=(↑x5:Int))∧((t=t)∧(hoP t (auF t) x1 x3=hoP t (auF t) x5 (0:Nat))))))))))))))))
 (((((hoP t (auF t) x1 (0:Nat)).length≤(1000000000:Nat))∧(∀(r:List Int),r∈hoP t (auF t) x1 (0:Nat)→r.length≤(1000:Nat)))∧((srtN (hoP t (auF t) x1 (0:Nat))).length=(hoP t (auF t) x1 (0:Nat)).length))∧((((room ((srtN (hoP t (auF t) x1 (0:Nat))).length))∧(∀(i:Nat),(0:Nat)<i→i<(srtN (hoP t (auF t) x1 (0:Nat))).length→(((srtN (hoP t (auF t) x1 (0:Nat))).getD i []).length≤(9223372036854775807:Nat)∧((srtN (hoP t (auF t) x1 (0:Nat))).getD (i - (1:Nat)) []).length≤(9223372036854775807:Nat))∧decide ((srtN (hoP t (auF t) x1 (0:Nat))).getD i []=(srtN (hoP t (auF t) x1 (0:Nat))).getD (i - (1:Nat)) [])=false))∧(True∧True))∧(((srtN (hoP t (auF t) x1 (0:Nat))=if grpB t=true then if t.length≤(7:Nat) then insA (hoP t (auF t) (t.length) (0:Nat)) else ([]:List (List Int)) else ([]:List (List Int)))∧(((0:Int)=if grpB t=true then if t.length≤(7:Nat) then (0:Int) else (3:Int) else (1:Int))∧True))∧True))))))))))
theorem iHol_vc (t:List (List Int)):runF Try.prog (gam iHol_G) noWr (iHol_ann t) Try.f8 (bodyOf Try.f8) [] [.agg [.rows .i64 (t)]] (iHol_p t)=iHol_V t:=by kernel_rfl
theorem iHol_ok (t:List (List Int)) (hpre:(iHol_p t).pre):iHol_V t:=by
 simp only [iHol_p,iHol_V,BrP_iff,u1,u2,u3,u4,u5,u6,u7,u8,u9,v1,v2,v3,v4,v5,v6,v7,v8,v9,w1,w2,w3,w4,markL_length,inB,InR,room,bdsOk] at hpre ⊢
 refine ⟨hpre,fun h=>⟨by rw [if_neg (by rw [h];simp)],by rw [if_neg (by rw [h];simp)]⟩,fun h=>⟨fun h7=>⟨by rw [if_pos h,if_neg (by omega)],by rw [if_pos h,if_neg (by omega)]⟩,fun h7=>?_⟩⟩
 have G:=grpT_of h
 have hn:t.length≤7:=by omega
 have hA:=au_len G hn
 refine ⟨⟨0,⟨by omega,h,by omega⟩,rfl,rfl⟩,fun a ⟨ha,_,_⟩=>⟨fun hlt=>⟨by omega,⟨G.pos,isoPre1 G hn,by rw [isoS_auF G hn];omega⟩,⟨0,⟨by omega,by omega⟩,by rw [isoS_auF G hn],rfl,rfl,isoS_auF G hn⟩,fun i ⟨hi,hal⟩=>⟨fun hil=>?_,fun hil=>?_⟩⟩,fun hge=>?_⟩⟩
 ·have hil:i<(auF t).length:=by omega
  have hf:=au_iso G hn (getD_mem (auF t) [] i hil)
  have hL:=hoP_len G hn (a:=a) (i:=i) ha
  have hrow:(t.getD a []).length=t.length:=(G.tb.2 a hal).1
  exact ⟨by omega,⟨by rw [hf.len];omega,fun k hk=>by rw [hrow];exact hf.rng k (by rw [←hf.len];exact hk)⟩,by omega,by omega,i+1,⟨by omega,hal⟩,by omega,by omega,by rw [hoP_step hil]⟩
 ·have e:i=(auF t).length:=by omega
  subst e
  exact ⟨by omega,a+1,⟨by omega,h,hn⟩,by omega,by omega,by rw [hoP_row]⟩
 ·have e:a=t.length:=by omega
  subst e
  have hN:=hoP_nodup G hn (a:=t.length) (i:=0) (.inr ⟨by omega,rfl⟩)
  have hL:=hoP_len G hn (a:=t.length) (i:=0) (by omega)
  have hS:=srtN_len (hoP t (auF t) t.length 0)
  have mem:∀x,x∈hoP t (auF t) t.length 0→x.length=t.length:=fun x hx=>by
   obtain ⟨y,f,_,hfm,rfl⟩:=hoP_mem hx
   rw [thL_length,(au_iso G hn hfm).len]
  have get:∀i,i<(srtN (hoP t (auF t) t.length 0)).length→((srtN (hoP t (auF t) t.length 0)).getD i []).length=t.length:=fun i hi=>mem _ ((srtN_perm _).mem_iff.1 (getD_mem _ [] i hi))
  refine ⟨⟨⟨by omega,fun r hr=>by rw [mem r hr];omega⟩,hS⟩,⟨by omega,fun i h0 hi=>⟨⟨by rw [get i hi];omega,by rw [get (i - 1) (by omega)];omega⟩,fun e=>?_⟩⟩,by rw [if_pos h,if_pos hn,srtN_ins _ hN],by rw [if_pos h,if_pos hn]⟩
  have hnd:=(srtN_perm (hoP t (auF t) t.length 0)).nodup_iff.2 hN
  rw [getD_lt _ _ _ hi,getD_lt _ _ _ (show i - 1<(srtN (hoP t (auF t) t.length 0)).length by omega)] at e
  exact List.pairwise_iff_getElem.1 hnd (i - 1) i (by omega) hi (by omega) e.symm
theorem iHol_fits:Fits Try.prog 8 ⟨[],iHol_ct⟩:=by
 refine ffn (Γ:=gam iHol_G) (gok_cons isGroup_fits (gok_cons groupAut_fits (gok_cons thenL_fits (gok_cons sSortN_fits (gok_cons compactF_fits (gok_cons Equal_fits (gok_cons slicesCompare_fits gok_nil))))))) Try.func8 fun ds p h hp=>?_
 unfold iHol_ct at h
 split at h
 ·cases h
  exact ⟨noWr,iHol_ann _ ,by rw [iHol_vc];exact iHol_ok _  hp⟩
 ·cases h
end Go.Sx
