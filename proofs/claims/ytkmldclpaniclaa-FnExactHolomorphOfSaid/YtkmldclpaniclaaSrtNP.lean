/- SrtNP -/
import Derived.Test.YtkmldclpaniclaaMpgM
import Derived.Test.YtkmldclpaniclaaMpgA
import Derived.Test.YtkmldclpaniclaaCmp
import Derived.Shelf.SlSortCmp.NoneTotal
import Derived.Lib.OwnBridge
import Derived.Test.YtkmldclpaniclaaHol
section
open Go Go.Proofs
namespace Go.Sx
set_option linter.unusedSimpArgs false
set_option linter.unusedVariables false
def isomorphisms_sv (fr:List (List (List Int))) (tt:List (List (List Int))):SV:=.fn 61 [.ptr 400 0,.ptr 401 0]
def isomorphisms_outs (fr:List (List (List Int))) (tt:List (List (List Int))):List MA:=[]
def isomorphisms_ex (fr:List (List (List Int))) (tt:List (List (List Int))):List (Nat×Ob):=[(400,(.box [.own (402)])),(401,(.box [.own (403)])),(402,(.lst 0 22 (.r3 .i64 (fr)))),(403,(.lst 0 22 (.r3 .i64 (tt))))]
def isomorphisms_p (fr:List (List (List Int))) (tt:List (List (List Int))):Post:=⟨True,.st (isomorphisms_sv fr tt) (isomorphisms_ex fr tt) (isomorphisms_outs fr tt),[]⟩
def isomorphisms_ct:List AD→Option Post
 | [.ma (.m (.ob (.lst 0 22 (.r3 .i64 (fr))))),.ma (.m (.ob (.lst 0 22 (.r3 .i64 (tt)))))]=>some (isomorphisms_p fr tt)
 | _=>none
def isomorphisms_G:List (Nat×Ctr):=[]
def isomorphisms_V (fr:List (List (List Int))) (tt:List (List (List Int))):Prop :=
 ((fr=fr)∧(tt=tt))
theorem isomorphisms_vc (fr:List (List (List Int))) (tt:List (List (List Int))):runS Try.prog (gam isomorphisms_G) noWr noAnn Try.f45 (bodyOf Try.f45) [.m (.ob (.lst 0 22 (.r3 .i64 (fr)))),.m (.ob (.lst 0 22 (.r3 .i64 (tt))))] (isomorphisms_sv fr tt) (masO 0 (isomorphisms_outs fr tt)++exO (isomorphisms_ex fr tt))=isomorphisms_V fr tt:=by kernel_rfl
theorem isomorphisms_ok (fr:List (List (List Int))) (tt:List (List (List Int))) (hpre:(isomorphisms_p fr tt).pre):isomorphisms_V fr tt:=by
 simp only [isomorphisms_p,isomorphisms_V,BrP_iff,u1,u2,u3,u4,u5,u6,u7,u8,u9,v1,v2,v3,v4,v5,v6,v7,v8,v9,w1,w2,w3,w4,markL_length,inB,InR,room,bdsOk] at hpre ⊢
theorem isomorphisms_fits:Fits Try.prog 45 ⟨[(0,93),(0,93)],isomorphisms_ct⟩:=by
 refine fits_sfn (Γ:=gam isomorphisms_G) gok_nil Try.func45 (by kernel_rfl) (by kernel_rfl) (fun ads p h=>?_) fun mas q sv ex outs h hq=>?_
 ·unfold isomorphisms_ct at h
  split at h
  ·cases h;rfl
  ·cases h
 ·unfold isomorphisms_ct at h
  split at h
  ·rename_i heq
   have heq:=ma_inj (l:=[_,_]) heq
   subst heq
   unfold isomorphisms_p at h
   cases h
   exact ⟨noWr,noAnn,by rw [isomorphisms_vc];exact isomorphisms_ok _ _  hq⟩
  ·cases h
theorem visit_all:∀(l pre:List (List Int)),visit (fun _ _=>true) pre l=(pre++l,true)
 | [],pre=>by simp [visit]
 | x::l,pre=>by rw [visit,if_pos rfl,visit_all l];simp
theorem visOk_all {ok:List (List Int)→List Int→Prop} (M:Nat):∀(l pre:List (List Int)),(∀pre' x,x∈l→pre'.length<M→ok pre' x)→pre.length+l.length≤M→visOk ok (fun _ _=>true) pre l
 | [],pre,_,_=>trivial
 | x::l,pre,h,hM=>by
  simp only [List.length_cons] at hM
  exact ⟨h pre x List.mem_cons_self (by omega),fun _=>visOk_all M l (pre++[x]) (fun pre' y hy=>h pre' y (List.mem_cons_of_mem _ hy)) (by simp;omega)⟩
def groupAut_p (t:List (List Int)):Post:=⟨1≤t.length∧IsoPre [t] [t]∧(isoS [t] [t]).length≤1000000000,.c (.rows 42 2 .i64 (isoS [t] [t])),[]⟩
def groupAut_ct:List AD→Option Post
 | [.c (.rows .i64 (t))]=>some (groupAut_p t)
 | _=>none
def groupAut_ann (t:List (List Int)):Nat→Option Ann
 | 0=>some (Ann.rf 2 (fun _ _=>true) (fun pre x=>pre.length<1000000000∧1≤x.length∧x.length≤100) [600] [(3,.c (.ptr 600 0))] (fun pre=>[(600,some (.box [.own (601)])),(601,some (.rows 0 42 2 .i64 (pre)))]) (fun pre=>[(600,some (.box [.own (601)])),(601,some (.rows 0 42 2 .i64 (pre)))]))
 | _=>none
def groupAut_G:List (Nat×Ctr):=[(45,⟨[(0,93),(0,93)],isomorphisms_ct⟩),(61,⟨[(0,93),(0,93)],isos1_ct⟩),(46,⟨[],Clone_ct⟩)]
def groupAut_V (t:List (List Int)):Prop :=
 (True∧((∀p:List (List Int),(true=true∧true=true))∧(((([]:List (List Int))=([]:List (List Int)))∧((t::([]:List (List (List Int)))=t::([]:List (List (List Int))))∧(t::([]:List (List (List Int)))=t::([]:List (List (List Int))))))∧((∀p0:List (List Int),(∀x1:List Int,(((p0.length<(1000000000:Nat))∧(((1:Nat)≤x1.length)∧(x1.length≤(100:Nat))))→((((x1.length≠(0:Nat))∧(room (x1.length)))∧True)∧((room (p0.length+(x1::([]:List (List Int))).length))∧((true=true)∧((x1=x1)∧(p0++x1::([]:List (List Int))=p0++x1::([]:List (List Int))))))))))∧(∀Y2:YJ,((YJ.P Y2=Go.Proofs.Try.prog)→((YJ.e Y2=(2:Go.TypeId))→((YJ.go Y2=fun (x:List (List Int)) (x_1:List Int)=>true)→((YJ.ok Y2=fun (pre:List (List Int)) (x:List Int)=>pre.length<(1000000000:Nat)∧(1:Nat)≤x.length∧x.length≤(100:Nat))→(((IsoPre (t::([]:List (List (List Int)))) (t::([]:List (List (List Int)))))∧((YJ.P Y2=Go.Proofs.Try.prog)∧((YJ.e Y2=(2:Go.TypeId))∧(visOk (YJ.ok Y2) (YJ.go Y2) ([]:List (List Int)) (isoS (t::([]:List (List (List Int)))) (t::([]:List (List (List Int)))))))))∧((Y2=Y2)∧((((visit (YJ.go Y2) ([]:List (List Int)) (isoS (t::([]:List (List (List Int)))) (t::([]:List (List (List Int)))))).2=true) →
 (((visit (YJ.go Y2) ([]:List (List Int)) (isoS (t::([]:List (List (List Int)))) (t::([]:List (List (List Int)))))).1=isoS (t::([]:List (List (List Int)))) (t::([]:List (List (List Int)))))∧True))∧(((visit (YJ.go Y2) ([]:List (List Int)) (isoS (t::([]:List (List (List Int)))) (t::([]:List (List (List Int)))))).2=false)→(False))))))))))))))
theorem groupAut_vc (t:List (List Int)):runF Try.prog (gam groupAut_G) noWr (groupAut_ann t) Try.f26 (bodyOf Try.f26) [] [.c (.rows .i64 (t))] (groupAut_p t)=groupAut_V t:=by kernel_rfl
theorem groupAut_ok (t:List (List Int)) (hpre:(groupAut_p t).pre):groupAut_V t:=by
 simp only [groupAut_p,groupAut_V,BrP_iff,u1,u2,u3,u4,u5,u6,u7,u8,u9,v1,v2,v3,v4,v5,v6,v7,v8,v9,w1,w2,w3,w4,markL_length,inB,InR,room,bdsOk] at hpre ⊢
 obtain ⟨h1,h2,h3⟩:=hpre
 refine ⟨fun _=>trivial,fun p x h=>⟨⟨by omega,by omega⟩,by omega⟩,fun Y q1 q2 q3 q4=>?_⟩
 rw [q3,q4,visit_all]
 have hn:nT0 [t]=t.length:=rfl
 have h100:=h2.2.2.2.1
 exact ⟨⟨h2,q1,q2,visOk_all 1000000000 _ [] (fun pre' x hx hp=>⟨hp,by
  have:=(((isoS_ok h2).1 x).1 hx).2.len;omega,by
  have:=(((isoS_ok h2).1 x).1 hx).2.len;omega⟩) (by simpa using h3)⟩,fun _=>by simp,fun h=>by cases h⟩
theorem groupAut_fits:Fits Try.prog 26 ⟨[],groupAut_ct⟩:=by
 refine ffn (Γ:=gam groupAut_G) (gok_cons isomorphisms_fits (gok_cons isos1_fits (gok_cons Clone_fits gok_nil))) Try.func26 fun ds p h hp=>?_
 unfold groupAut_ct at h
 split at h
 ·cases h
  exact ⟨noWr,groupAut_ann _ ,by rw [groupAut_vc];exact groupAut_ok _  hp⟩
 ·cases h
end Go.Sx
end
section
open Go Go.Proofs Go.RowKit Go.Shelf
namespace Go.Sx
set_option linter.unusedSimpArgs false
set_option linter.unusedVariables false
def sortRenN:Shelf.Ren:=⟨fun x=>match x with | 6=>28 | 14=>47 | 15=>48 | 20=>63 | 21=>64 | 22=>65 | 23=>66 | 24=>67 | 25=>68 | 26=>69 | 27=>70 | 28=>71 | 29=>72 | 46=>95 | 47=>96 | 48=>97 | 49=>98 | 50=>99 | 57=>110 | _=>0,fun x=>match x with | 0=>0 | 3=>3 | 4=>4 | 5=>5 | 9=>9 | 22=>22 | 24=>42 | 25=>47 | 39=>60 | 45=>78 | 46=>79 | 50=>83 | 53=>86 | 55=>88 | 66=>106 | 70=>110 | 76=>119 | 77=>120 | _=>0,fun x=>x⟩
set_option maxRecDepth 100000
theorem sortLaysN:SlLaysF.n6 Try.prog sortRenN where
 mixed:=by kernel_rfl
 f6:=⟨Try.f28.name,by kernel_rfl,by kernel_rfl⟩
 f14:=⟨Try.f47.name,by kernel_rfl,by kernel_rfl⟩
 f15:=by kernel_rfl
 f20:=⟨Try.f63.name,by kernel_rfl,by kernel_rfl⟩
 f21:=⟨Try.f64.name,by kernel_rfl,by kernel_rfl⟩
 f22:=⟨Try.f65.name,by kernel_rfl,by kernel_rfl⟩
 f23:=⟨Try.f66.name,by kernel_rfl,by kernel_rfl⟩
 f24:=⟨Try.f67.name,by kernel_rfl,by kernel_rfl⟩
 f25:=⟨Try.f68.name,by kernel_rfl,by kernel_rfl⟩
 f26:=⟨Try.f69.name,by kernel_rfl,by kernel_rfl⟩
 f27:=⟨Try.f70.name,by kernel_rfl,by kernel_rfl⟩
 f28:=by kernel_rfl
 f29:=by kernel_rfl
 f46:=⟨Try.f95.name,by kernel_rfl,by kernel_rfl⟩
 f47:=by kernel_rfl
 f48:=by kernel_rfl
 f49:=⟨Try.f98.name,by kernel_rfl,by kernel_rfl⟩
 f50:=⟨Try.f99.name,by kernel_rfl,by kernel_rfl⟩
 f57:=⟨Try.f110.name,by kernel_rfl,by kernel_rfl⟩
 t0:=by kernel_rfl
 a0:=fun w=>by kernel_rfl
 z0:=fun w=>by kernel_rfl
 v0:=fun w=>by kernel_rfl
 t3:=by kernel_rfl
 a3:=fun w=>by kernel_rfl
 z3:=fun w=>by kernel_rfl
 v3:=fun w=>by kernel_rfl
 t4:=by kernel_rfl
 a4:=fun w=>by kernel_rfl
 z4:=fun w=>by kernel_rfl
 v4:=fun w=>by kernel_rfl
 t5:=by kernel_rfl
 a5:=fun w=>by kernel_rfl
 z5:=fun w=>by kernel_rfl
 v5:=fun w=>by kernel_rfl
 t9:=by kernel_rfl
 a9:=fun w=>by kernel_rfl
 z9:=fun w=>by kernel_rfl
 v9:=fun w=>by kernel_rfl
 t22:=by kernel_rfl
 a22:=fun w=>by kernel_rfl
 z22:=fun w=>by kernel_rfl
 v22:=fun w=>by kernel_rfl
 a24:=fun w=>by kernel_rfl
 z24:=fun w=>by kernel_rfl
 t25:=by kernel_rfl
 a25:=fun w=>by kernel_rfl
 z25:=fun w=>by kernel_rfl
 v25:=fun w=>by kernel_rfl
 t39:=by kernel_rfl
 a39:=fun w=>by kernel_rfl
 z39:=fun w=>by kernel_rfl
 v39:=fun w=>by kernel_rfl
 t45:=by kernel_rfl
 a45:=fun w=>by kernel_rfl
 z45:=fun w=>by kernel_rfl
 v45:=fun w=>by kernel_rfl
 t46:=by kernel_rfl
 a46:=fun w=>by kernel_rfl
 z46:=fun w=>by kernel_rfl
 v46:=fun w=>by kernel_rfl
 t50:=by kernel_rfl
 a50:=fun w=>by kernel_rfl
 z50:=fun w=>by kernel_rfl
 v50:=fun w=>by kernel_rfl
 t53:=by kernel_rfl
 a53:=fun w=>by kernel_rfl
 z53:=fun w=>by kernel_rfl
 v53:=fun w=>by kernel_rfl
 t55:=by kernel_rfl
 a55:=fun w=>by kernel_rfl
 z55:=fun w=>by kernel_rfl
 v55:=fun w=>by kernel_rfl
 t66:=by kernel_rfl
 a66:=fun w=>by kernel_rfl
 z66:=fun w=>by kernel_rfl
 v66:=fun w=>by kernel_rfl
 t70:=by kernel_rfl
 a70:=fun w=>by kernel_rfl
 z70:=fun w=>by kernel_rfl
 v70:=fun w=>by kernel_rfl
 t76:=by kernel_rfl
 a76:=fun w=>by kernel_rfl
 z76:=fun w=>by kernel_rfl
 v76:=fun w=>by kernel_rfl
 t77:=by kernel_rfl
 a77:=fun w=>by kernel_rfl
 z77:=fun w=>by kernel_rfl
 v77:=fun w=>by kernel_rfl
theorem cmpI_antiN (x y:Int):cmpI x y=- cmpI y x:=by
 unfold cmpI
 (repeat' split) <;> omega
theorem cmpG_antiN:∀a b:List Int,cmpG cmpI a b=- cmpG cmpI b a
 | [],[]=>rfl
 | [],_::_=>rfl
 | _::_,[]=>rfl
 | x::a,y::b=>by
  simp only [cmpG]
  have h:=cmpI_antiN x y
  by_cases h0:cmpI x y=0
  ·rw [if_pos h0,if_pos (by omega),cmpG_antiN a b]
  ·rw [if_neg h0,if_neg (by omega),h]
theorem cmpG_leN:∀a b c:List Int,cmpG cmpI a b≤0→cmpG cmpI b c≤0→cmpG cmpI a c≤0
 | [],_,[],_,_=>by simp [cmpG]
 | [],_,_::_,_,_=>by simp [cmpG]
 | _::_,[],_,h,_=>by simp [cmpG] at h
 | _::_,_::_,[],_,h=>by simp [cmpG] at h
 | x::a,y::b,z::c,h1,h2=>by
  simp only [cmpG] at h1 h2 ⊢
  have v:∀u v:Int,(cmpI u v=-1∧u<v)∨(cmpI u v=0∧u=v)∨(cmpI u v=1∧v<u):=fun u v=>by
   unfold cmpI
   split
   ·omega
   ·split <;> omega
  have v1:=v x y
  have v2:=v y z
  have v3:=v x z
  by_cases e1:cmpI x y=0
  ·rw [if_pos e1] at h1
   by_cases e2:cmpI y z=0
   ·rw [if_pos e2] at h2
    rw [if_pos (by omega)]
    exact cmpG_leN a b c h1 h2
   ·rw [if_neg e2] at h2
    rw [if_neg (by omega)];omega
  ·rw [if_neg e1] at h1
   by_cases e2:cmpI y z=0
   ·rw [if_neg (by omega)];omega
   ·rw [if_neg e2] at h2
    rw [if_neg (by omega)];omega
theorem cmpG_ltN (a b c:List Int) (h1:cmpG cmpI a b<0) (h2:cmpG cmpI b c<0):cmpG cmpI a c<0:=by
 have h:=cmpG_leN a b c (by omega) (by omega)
 refine Classical.byContradiction fun hc=>?_
 have e:cmpG cmpI a c=0:=by omega
 have:=(cmpG_zero (fun x y=>cmpI_zero)).1 e
 subst this
 have:=cmpG_antiN a b
 omega
def rwN (l:List (List Int)) (i j:Fin l.length):Int:=cmpG cmpI (l.getD i.1 []) (l.getD j.1 [])
theorem rwN_swo (l:List (List Int)):Go.Sort.SWO (fun i j=>decide (rwN l i j<0)) where
 irrefl:=fun x=>by
  have:cmpG cmpI (l.getD x.1 []) (l.getD x.1 [])=0:=(cmpG_zero fun x y=>cmpI_zero).2 rfl
  show decide (rwN l x x<0)=false
  rw [rwN,this];rfl
 trans:=fun x y z h1 h2=>by
  rw [decide_eq_true_eq] at h1 h2 ⊢
  exact cmpG_ltN _ _ _ h1 h2
 ntrans:=fun x y z h1 h2=>by
  rw [decide_eq_false_iff_not] at h1 h2 ⊢
  unfold rwN at *
  have a1:=cmpG_antiN (l.getD x.1 []) (l.getD y.1 [])
  have a2:=cmpG_antiN (l.getD y.1 []) (l.getD z.1 [])
  have a3:=cmpG_antiN (l.getD x.1 []) (l.getD z.1 [])
  have:=cmpG_leN (l.getD z.1 []) (l.getD y.1 []) (l.getD x.1 []) (by omega) (by omega)
  omega
def srtNI (l:List (List Int)) (h:0<l.length):Array (Fin l.length) :=
 letI:Inhabited (Fin l.length):=⟨⟨0,h⟩⟩
 Go.Sort.pdq (fun i j=>decide (rwN l i j<0)) (List.finRange l.length).toArray 0 (List.finRange l.length).toArray.size (Lib.bitLen (List.finRange l.length).toArray.size) true true
def srtN (l:List (List Int)):List (List Int):=if h:0<l.length then (srtNI l h).toList.map (fun i=>l.getD i.1 []) else []
theorem srtNI_ok (l:List (List Int)) (h:0<l.length):(srtNI l h).toList.Perm (List.finRange l.length):=by
 letI:Inhabited (Fin l.length):=⟨⟨0,h⟩⟩
 have:=(Go.Sort.pdq_sorts (fun i j=>decide (rwN l i j<0)) (rwN_swo l) (List.finRange l.length).toArray 0 (List.finRange l.length).toArray.size (Lib.bitLen (List.finRange l.length).toArray.size) true true (Nat.zero_le _) (Nat.le_refl _) (Or.inl rfl)).1
 obtain ⟨h1,_,h3⟩:=this
 have e1:∀(d:Array (Fin l.length)),d.extract 0 d.size=d:=fun d=>by simp
 rw [e1] at h3
 have h4:((srtNI l h).extract 0 (List.finRange l.length).toArray.size).toList.Perm (List.finRange l.length).toArray.toList:=h3
 rw [←show (srtNI l h).size=(List.finRange l.length).toArray.size from h1,e1] at h4
 simpa using h4
theorem srtN_len (l:List (List Int)):(srtN l).length=l.length:=by
 unfold srtN
 split
 ·rename_i h
  rw [List.length_map,(srtNI_ok l h).length_eq];simp
 ·show 0=l.length
  omega
theorem sortN_at (l:List (List Int)) (hr1:l.length≤1000000000) (hr2:∀r∈l,r.length≤1000):SortAt Try.prog 28 29 l (srtN l):=by
 intro w e ei v ins h1 h2 h3 hnd
 by_cases h0:0<l.length
 case neg =>
  have hl:l=[]:=List.eq_nil_of_length_eq_zero (by omega)
  subst hl
  have hi:ins=[]:=List.eq_nil_of_length_eq_zero h2
  subst hi
  have hv:∃p cap,v=.slice p 0 cap:=by
   rcases h1.2 with ⟨e0,_⟩ | ⟨g,cap,cur,e0,_⟩
   ·exact ⟨_,_,e0⟩
   ·exact ⟨_,_,e0⟩
  obtain ⟨p,cap,rfl⟩:=hv
  refine (AnyF.slices_SortFunc_none (P:=Try.prog) (ρ:=sortRenN) { sortLaysN with } p cap _ w).mono ?_
  rintro r w' ⟨rfl,rfl⟩
  exact ⟨rfl,[],h1,rfl,fun i u r hi=>by simp at hi,.refl _,.refl _,rfl,rfl,Nat.le_refl _,fun _ _ _=>rfl⟩
 case pos =>
 letI:Inhabited (Fin l.length):=⟨⟨0,h0⟩⟩
 let enc:Fin l.length→Value:=fun i=>ins.getD i.1 undef
 have hz:(List.finRange l.length).map enc=ins:=by
  apply List.ext_getElem
  ·simp [h2]
  ·intro i a b
   simp [enc,List.getD,List.getElem?_eq_getElem b]
 have hone:∀i:Fin l.length,(enc i).oneCell'=true:=fun i=>by
  have hi:i.1<ins.length:=by rw [h2];exact i.2
  have:=ownsRow_one (h3 i.1 (ins.getD i.1 undef) (l.getD i.1 []) (by simp [List.getD,hi]) (by simp [List.getD,i.2]))
  exact this
 rw [←hz] at h1
 have hne:v≠.slice none 0 0:=fun hv=>by
  rcases h1.2 with ⟨_,hn⟩ | ⟨g,cap,cur,h5,_⟩
  ·omega
  ·rw [hv] at h5;cases h5
 obtain ⟨g,cap,rfl,_,hlt,hn,hm,hzl,hH⟩:=Lib.holds_of_ownsRow h1 hne
 have hn0:∀i:Fin l.length,i.1<ins.length:=fun i=>by rw [h2];exact i.2
 have hrow:∀i:Fin l.length,w.ownsRow 0 ei 1 (enc i) (l.getD i.1 []).length ((l.getD i.1 []).map (.int .i64))∧∀b,hdBlock (enc i)=some b→b<w.heap.size∧b≠g:=fun i=>by
  have hu:ins[i.1]?=some (enc i):=by simp [enc,List.getD,List.getElem?_eq_getElem (hn0 i)]
  have h4:=h3 i.1 (enc i) (l.getD i.1 []) hu (by simp [List.getD,i.2])
  refine ⟨h4,fun b hb=>⟨(ownsRow_block h4 b hb).2,fun hc=>?_⟩⟩
  exact (nodup_blocks_ins hnd).2 b (by rw [hc];rfl) (List.mem_filterMap.2 ⟨enc i,List.mem_of_getElem? hu,hb⟩)
 obtain ⟨fn,k1,k2,k3⟩:=slicesCompare_fits.fn
 have hsz:(List.finRange l.length).toArray.size=l.length:=by simp
 have hcmp:CmpLays1 Try.prog 29 #[] enc (rwN l) g 0 (List.finRange l.length).toArray.size w:=by
  intro m os dk hdk x y
  have keep:∀b,b<w.heap.size→b≠g→(sortWorld enc w g 0 m dk os).heap[b]?=w.heap[b]?:=fun b hb hne=>by
   unfold sortWorld
   rw [Go.Sort.heap_grow_old _ _ (by simpa [Go.Sort.putRow,Go.Sort.mapBlock,Go.Sort.ahead] using hb)]
   simp [Go.Sort.putRow,Go.Sort.mapBlock,Go.Sort.ahead,Array.getElem?_modify,Ne.symm hne]
  have rd:∀i:Fin l.length,Reads (sortWorld enc w g 0 m dk os) (enc i) (.ints .i64 (l.getD i.1 [])):=fun i=>by
   obtain ⟨h4,h5⟩:=hrow i
   have h6:=ownsRow_keep h4 fun b hb=>keep b (h5 b hb).1 (h5 b hb).2
   have:=reads_ints h6 (viewV_own h6) (by omega)
   show ReadsI _ _ _ _
   simpa using this
  have:=slicesCompare_fits.run (sortWorld enc w g 0 m dk os) (sortWorld enc w g 0 m dk os) [enc x,enc y] [.c (.ints .i64 (l.getD x.1 [])),.c (.ints .i64 (l.getD y.1 []))] _ [] [] rfl
   ⟨by have:=hr2 _ (getD_mem l [] x.1 x.2);unfold room;omega,by have:=hr2 _ (getD_mem l [] y.1 y.2);unfold room;omega⟩ rfl rfl rfl rfl (by simp) (by simp) (by simp) (fun q u hq=>⟨hq,by simp⟩) (fun i d hi=>by
    match i,hi with
    | 0,hi=>cases hi;exact ⟨enc x,rfl,hone x,rd x⟩
    | 1,hi=>cases hi;exact ⟨enc y,rfl,hone y,rd y⟩
    | i+2,hi=>simp at hi)
  refine Calls.mono this ?_
  rintro e0 w' ⟨v0,ms',img,wG,rfl,haft,_,_,_,hret⟩
  have hv:v0=.int .i64 (rwN l x y):=hret.val
  subst hv
  refine ⟨rfl,w'.drawn - (sortWorld enc w g 0 m dk os).drawn,w'.heap.extract (sortWorld enc w g 0 m dk os).heap.size w'.heap.size,?_⟩
  generalize hW:sortWorld enc w g 0 m dk os=W at *
  have hheap:w'.heap=W.heap++w'.heap.extract W.heap.size w'.heap.size:=by
   apply Array.ext_getElem?
   intro i
   by_cases hi:i<W.heap.size
   ·rw [Array.getElem?_append_left hi,haft.block i hi (by simp)]
   ·rw [Array.getElem?_append_right (by omega),Array.getElem?_extract]
    split
    ·congr 1;omega
    ·rw [Array.getElem?_eq_none (by omega)]
  have hd:=haft.os.drawn
  cases w' with
  | mk heap tape drawn os' output =>
   simp only [Go.Sort.grow,World.drewN] at *
   have e1:=haft.os.os
   have e2:=haft.tape
   have e3:=haft.output
   simp only at e1 e2 e3
   rw [←hheap,e1,e2,e3,show W.drawn+(drawn - W.drawn)=drawn by omega]
 have hcall:=Any.slices_SortFunc_eq (P:=Try.prog) (ρ:=sortRenN) sortLaysN enc hone (rwN l) (rwN_swo l) 29 #[] g 0 cap (List.finRange l.length).toArray w (fun args w=>run_callFunc k1 k2 k3 args) hcmp hH hlt (by rw [hsz];omega)
 rw [hsz] at hcall
 refine Calls.mono hcall ?_
 rintro r w' ⟨rfl,n,os,rfl⟩
 refine ⟨rfl,?_⟩
 have hD:Go.Sort.pdq (ltOf (rwN l)) (List.finRange l.length).toArray 0 l.length (Lib.bitLen l.length) true true=srtNI l h0:=by
  unfold srtNI
  rw [hsz]
  rfl
 rw [hD]
 have hDp:=srtNI_ok l h0
 have hDl:(srtNI l h0).toList.length=l.length:=by rw [hDp.length_eq];simp
 have hS:srtN l=(srtNI l h0).toList.map (fun i=>l.getD i.1 []):=by unfold srtN;rw [dif_pos h0]
 have hSl:=srtN_len l
 generalize srtNI l h0=D at *
 have o:=Lib.ownsRow_putRow (q:=n) (k:=l.length) h1 (ys:=D.toList) hDl (Nat.le_refl _)
 rw [List.take_of_length_le (by omega),Array.toArray_toList] at o
 refine ⟨D.toList.map enc,?_,by rw [List.length_map,hDl,hSl],fun i u r hi hr=>?_,?_,⟨rfl,Nat.le_add_right _ _⟩,rfl,rfl,?_,fun b hb hne=>?_⟩
 ·rw [hSl]
  refine ownsRow_keep o fun b hb=>?_
  simp [hdBlock] at hb
  subst hb
  exact Go.Sort.heap_grow_old _ _ (by simpa [Go.Sort.putRow,Go.Sort.mapBlock,Go.Sort.ahead] using hlt)
 ·rw [hS,List.getElem?_map] at hr
  rw [List.getElem?_map] at hi
  cases hx:D.toList[i]? with
  | none=>rw [hx] at hi;cases hi
  | some x =>
   rw [hx] at hi hr
   cases hi
   cases hr
   exact (hrow x).1
 ·rw [←hz]
  exact hDp.map enc
 ·simp [sortWorld,Go.Sort.grow,Go.Sort.putRow,Go.Sort.mapBlock,Go.Sort.ahead]
 ·have hg:b≠g:=fun hc=>hne (by rw [hc];rfl)
  unfold sortWorld
  rw [Go.Sort.heap_grow_old _ _ (by simpa [Go.Sort.putRow,Go.Sort.mapBlock,Go.Sort.ahead] using hb)]
  simp [Go.Sort.putRow,Go.Sort.mapBlock,Go.Sort.ahead,Array.getElem?_modify,Ne.symm hg]
def sSortN_ct:List AD→Option Post:=fun ds=>match ds with
 | [.c (.rows .i64 l)]=>some ⟨l.length≤1000000000∧∀r∈l,r.length≤1000,.c (.rows 29 0 .i64 (srtN l)),[]⟩
 | _=>none
theorem sSortN_fits:Fits Try.prog 28 ⟨[(0,97),(0,97)],sSortN_ct⟩ where
 fn:=⟨Try.f28,Try.func28,by kernel_rfl,by kernel_rfl⟩
 run:=fun _ _ _ ds p ms obs h _ _ hm _ hw=>by
  exfalso
  have h:sSortN_ct ds=some p:=h
  unfold sSortN_ct at h
  split at h
  ·cases h;simp at hw
  ·cases h
 mv:=fun h=>by cases h
 gr:=fun h=>by cases h
 so:=fun _ l q g x l' ws h hq=>by
  have h:some (⟨l.length≤1000000000∧∀r∈l,r.length≤1000,.c (.rows 29 0 .i64 (srtN l)),[]⟩:Post)=some ⟨q,.c (.rows g x .i64 l'),ws⟩:=h
  simp only [Option.some.injEq,Post.mk.injEq,RV.c.injEq,RC.rows.injEq] at h
  obtain ⟨h1,⟨h2,_,_,h3⟩,_⟩:=h
  subst h1;subst h2;subst h3
  exact sortN_at l hq.1 hq.2
 df:=fun h=>by cases h
 st:=fun h=>by cases h
end Go.Sx
end
section
open Go Go.Proofs
namespace Go.Sx
set_option linter.unusedSimpArgs false
set_option linter.unusedVariables false
theorem cmpG_lex:∀a b:List Int,cmpG cmpI a b<0→lexB a b=true
 | [],[],h=>by simp [cmpG] at h
 | [],_::_,_=>rfl
 | _::_,[],h=>by simp [cmpG] at h
 | x::a,y::b,h=>by
  simp only [cmpG] at h
  rw [lexB]
  by_cases e:cmpI x y=0
  ·rw [if_pos e] at h
   rw [if_pos (cmpI_zero.1 e)]
   exact cmpG_lex a b h
  ·rw [if_neg e] at h
   have:¬ x=y:=fun e2=>e (cmpI_zero.2 e2)
   rw [if_neg this]
   unfold cmpI at h
   split at h
   ·simpa using ‹_›
   ·split at h <;> omega
theorem srtN_perm (l:List (List Int)):(srtN l).Perm l:=by
 unfold srtN
 split
 ·rename_i h
  refine ((srtNI_ok l h).map _).trans ?_
  have:(List.finRange l.length).map (fun i=>l.getD i.1 [])=l:=by
   apply List.ext_getElem (by simp)
   intro i h1 h2
   simp [List.getD,h2]
  rw [this]
 ·have:l=[]:=List.eq_nil_of_length_eq_zero (by omega)
  rw [this]
theorem srtN_srt (l:List (List Int)) (hnd:l.Nodup):srtK (srtN l):=by
 have hnd2:(srtN l).Nodup:=(srtN_perm l).nodup_iff.2 hnd
 by_cases h:0<l.length
 case neg =>
  unfold srtN
  rw [dif_neg h]
  exact List.Pairwise.nil
 letI:Inhabited (Fin l.length):=⟨⟨0,h⟩⟩
 have S:=(Go.Sort.pdq_sorts (fun i j=>decide (rwN l i j<0)) (rwN_swo l) (List.finRange l.length).toArray 0 (List.finRange l.length).toArray.size (Lib.bitLen (List.finRange l.length).toArray.size) true true (Nat.zero_le _) (Nat.le_refl _) (Or.inl rfl)).2
 have S:∀i j:Nat,i<j→j<l.length→decide (rwN l (srtNI l h)[j]! (srtNI l h)[i]!<0)=false:=fun i j h1 h2=>S i j (Nat.zero_le _) h1 (by simpa using h2)
 have hS:srtN l=(srtNI l h).toList.map (fun i=>l.getD i.1 []):=by unfold srtN;rw [dif_pos h]
 have sl:(srtNI l h).toList.length=l.length:=by rw [(srtNI_ok l h).length_eq];simp
 have sz:(srtNI l h).size=l.length:=by simpa using sl
 have g:∀i (hi:i<l.length),(srtNI l h)[i]! = (srtNI l h).toList[i]'(by omega):=fun i hi=>by
  rw [getElem!_pos (srtNI l h) i (by omega)];simp
 have hlen:(srtN l).length=l.length:=srtN_len l
 refine List.pairwise_iff_getElem.2 fun i j hi hj hij=>?_
 have e:∀k (hk:k<(srtN l).length),(srtN l)[k]=l.getD ((srtNI l h)[k]!).1 []:=fun k hk=>by
  rw [g k (by omega)]
  simp [hS]
 have s:=S i j hij (by omega)
 rw [decide_eq_false_iff_not,rwN,←e j hj,←e i hi] at s
 have an:=cmpG_antiN (srtN l)[i] (srtN l)[j]
 have ne:cmpG cmpI (srtN l)[i] (srtN l)[j]≠0:=fun e0=>by
  have:=(cmpG_zero (fun x y=>cmpI_zero)).1 e0
  exact List.pairwise_iff_getElem.1 hnd2 i j hi hj hij this
 exact cmpG_lex _ _ (by omega)
theorem srtN_ins (l:List (List Int)) (hnd:l.Nodup):srtN l=insA l:=by
 obtain ⟨h1,h2,_⟩:=insA_ok _ l rfl hnd
 exact srtK_eq (srtN_srt l hnd) h1 fun g=>by rw [h2,(srtN_perm l).mem_iff]
end Go.Sx
end
