/- BrdC -/
import Derived.Test.YtcdmndagoafcgaaBrdB
open Go Go.Proofs
namespace Go.Sx
set_option linter.unusedSimpArgs false
set_option linter.unusedVariables false
abbrev Bd:=List (List Int)×List (List Int)×Int×Int
def b0F (code:List Int) (d:Dr):Bd:=(d.1,if nxV code d.2.1 d.2.2 2=0 then trqL d.1 else d.1,nxA code.length d.2.1 2,nxH d.2.2 2)
def rgN (code:List Int) (most a h:Int):Int:=1+nxV code a h most
def rgK (code:List Int) (most a h:Int):Int:=nxV code (nxA code.length a most) (nxH h most) (rgN code most a h)
def rgA (code:List Int) (most a h:Int):Int:=nxA code.length (nxA code.length a most) (rgN code most a h)
def rgH (code:List Int) (most a h:Int):Int:=nxH (nxH h most) (rgN code most a h)
def df1 (code:List Int) (d:Dr):Bd:=(d.1,(cirF d.1 (auF d.1)).getD (nxV code d.2.1 d.2.2 ((cirF d.1 (auF d.1)).length:Int)).toNat [],nxA code.length d.2.1 ((cirF d.1 (auF d.1)).length:Int),nxH d.2.2 ((cirF d.1 (auF d.1)).length:Int))
def df2 (code:List Int) (b:Bd):Bd :=
 if 1<(b.1.length:Int) then
  if nxV code b.2.2.1 b.2.2.2 2=0 then (imL b.1 (pmL (g10p code (b.1,b.2.2)).1) b.1.length,imL b.2.1 (pmL (g10p code (b.1,b.2.2)).1) b.2.1.length,(g10p code (b.1,b.2.2)).2) else (b.1,b.2.1,nxA code.length b.2.2.1 2,nxH b.2.2.2 2)
 else b
def dfB (code:List Int) (a h most:Int):Bd:=df2 code (df1 code (g10a code a h most))
def rgS (code:List Int) (most:Int):Nat→Int→Int→Bd
 | 0,a,h=>dfB code a h most
 | j+1,a,h=>if brcB (cyT (rgN code most a h)) (rgT (rgN code most a h) (rgK code most a h))=true then (cyT (rgN code most a h),rgT (rgN code most a h) (rgK code most a h),rgA code most a h,rgH code most a h) else rgS code most j (rgA code most a h) (rgH code most a h)
def l11F (code:List Int) (a h most:Int):Bd :=
 if nxV code a h 5=0 then b0F code (g10 code (nxA code.length a 5) (nxH h 5) most)
 else if nxV code a h 5=1 then rgS code most 6 (nxA code.length a 5) (nxH h 5)
 else dfB code (nxA code.length a 5) (nxH h 5) most
def okB (code:List Int) (m:Nat) (b:Bd):Prop:=1≤b.1.length∧b.1.length≤m∧tbN b.1.length b.1∧tbN b.1.length b.2.1∧0≤b.2.2.1∧b.2.2.1≤(code.length:Int)
theorem okB_g {code:List Int} {m:Nat} {b:Bd} (h:okB code m b):okG code m (b.1,b.2.2):=⟨h.1,h.2.1,h.2.2.1,h.2.2.2.2⟩
theorem df1_ok {code:List Int} (hb:bytesB code) {n:Int} (h1:1≤n) (h2:n≤5) {d:Dr} (hd:d.1∈namL n) (hg:okG code 5 d):okB code 5 (df1 code d)∧(0≤nxV code d.2.1 d.2.2 ((cirF d.1 (auF d.1)).length:Int)∧nxV code d.2.1 d.2.2 ((cirF d.1 (auF d.1)).length:Int)<((cirF d.1 (auF d.1)).length:Int)) ∧
  tabB d.1=true∧AuOk d.1.length (auF d.1)∧(auF d.1).length≤100:=by
 obtain ⟨q1,q2,q3,q4,q5,q6⟩:=nam_ok h1 h2 hd
 obtain ⟨a1,a2,a3,a4,a5⟩:=hg
 obtain ⟨c1,c2⟩:=cirF_ok q3 a1 (by omega) q4 q6
 have v:=nxV_in hb d.2.1 d.2.2 (n:=((cirF d.1 (auF d.1)).length:Int)) (by omega)
 have s:=nxA_in (n:=((cirF d.1 (auF d.1)).length:Int)) a4 a5
 refine ⟨⟨a1,a2,a3,c2 _ (getD_mem _ [] _ (by omega)),s.1,s.2⟩,⟨v.1,by omega⟩,q2,q4,q5⟩
theorem df2_ok {code:List Int} (hb:bytesB code) {m:Nat} {b:Bd} (h:okB code m b):okB code m (df2 code b):=by
 have P:=g10p_ok hb (okB_g h)
 obtain ⟨a1,a2,a3,a4,a5,a6⟩:=h
 have s:=nxA_in (n:=2) a5 a6
 unfold df2
 split
 ·split
  ·obtain ⟨q1,q2⟩:=pm_get P.1.1 P.1.2
   have T:=im_tb a3 rfl q1 q2
   have U:=im_tb a4 a4.1 q1 q2
   refine ⟨?_,?_,?_,?_,P.2.1,P.2.2⟩
   ·show 1≤(imL b.1 (pmL (g10p code (b.1,b.2.2)).1) b.1.length).length;rw [T.1];exact a1
   ·show (imL b.1 (pmL (g10p code (b.1,b.2.2)).1) b.1.length).length≤m;rw [T.1];exact a2
   ·show tbN (imL b.1 (pmL (g10p code (b.1,b.2.2)).1) b.1.length).length _;rw [T.1];exact T
   ·show tbN (imL b.1 (pmL (g10p code (b.1,b.2.2)).1) b.1.length).length _;rw [T.1];exact U
  ·exact ⟨a1,a2,a3,a4,s.1,s.2⟩
 ·exact ⟨a1,a2,a3,a4,a5,a6⟩
theorem dfB_ok {code:List Int} (hb:bytesB code) {a h most:Int} (h0:0≤a) (h1:a≤(code.length:Int)) (h2:1≤most) (h3:most≤5):okB code 5 (dfB code a h most):=by
 have v:=nxV_in hb a h h2
 obtain ⟨K,m,_⟩:=g10a_ok hb (h:=h) h0 h1 h2 h3
 exact df2_ok hb (df1_ok hb (by omega) (by omega) m K).1
theorem rg_in {code:List Int} (hb:bytesB code) {a h most:Int} (h0:0≤a) (h1:a≤(code.length:Int)) (h2:1≤most):1≤rgN code most a h∧rgN code most a h≤most∧0≤rgK code most a h∧rgK code most a h≤rgN code most a h - 1∧0≤rgA code most a h∧rgA code most a h≤(code.length:Int):=by
 have v:=nxV_in hb a h h2
 have n1:1≤rgN code most a h∧rgN code most a h≤most:=by unfold rgN;omega
 have s:=nxA_in (n:=most) h0 h1
 have w:=nxV_in hb (nxA code.length a most) (nxH h most) n1.1
 have s2:=nxA_in (n:=rgN code most a h) s.1 s.2
 exact ⟨n1.1,n1.2,w.1,w.2,s2.1,s2.2⟩
theorem rgS_ok {code:List Int} (hb:bytesB code) {most:Int} (h2:1≤most) (h3:most≤5):∀(j:Nat) (a h:Int),0≤a→a≤(code.length:Int)→okB code 5 (rgS code most j a h)
 | 0,a,h,h0,h1=>dfB_ok hb h0 h1 h2 h3
 | j+1,a,h,h0,h1=>by
  obtain ⟨r1,r2,r3,r4,r5,r6⟩:=rg_in hb (h:=h) h0 h1 h2
  have e:=cyT_len r1
  rw [rgS]
  split
  ·exact ⟨by show 1≤(cyT (rgN code most a h)).length;omega,by show (cyT (rgN code most a h)).length≤5;omega,cyT_tb r1,rgT_tb r1 r3,r5,r6⟩
  ·exact rgS_ok hb h2 h3 j _ _ r5 r6
theorem l11F_ok {code:List Int} (hb:bytesB code) {a h most:Int} (h0:0≤a) (h1:a≤(code.length:Int)) (h2:1≤most) (h3:most≤5):okB code 5 (l11F code a h most):=by
 have s:=nxA_in (n:=5) h0 h1
 unfold l11F
 split
 ·obtain ⟨K,_⟩:=g10a_ok hb (h:=nxH h 5) s.1 s.2 h2 h3
  obtain ⟨k1,k2,k3,k4,k5⟩:=g10b_ok hb K
  have s2:=nxA_in (n:=2) k4 k5
  refine ⟨k1,k2,k3,?_,s2.1,s2.2⟩
  show tbN _ (if _ then _ else _)
  split
  ·exact trq_tb k3
  ·exact k3
 ·split
  ·exact rgS_ok hb h2 h3 6 _ _ s.1 s.2
  ·exact dfB_ok hb s.1 s.2 h2 h3
def l11Draw_p (code:List Int) (a:Int) (h:Int) (most:Int):Post:=⟨bytesB code∧code.length≤4096∧0≤a∧a≤(code.length:Int)∧1≤most∧most≤5,.agg [.rows 22 2 .i64 ((l11F code a h most).1),.ro (.rows .i64 ((l11F code a h most).2.1))],[.bx [.ints .u8 (code),.int .i64 ((l11F code a h most).2.2.1),.int .u64 ((l11F code a h most).2.2.2)]]⟩
def l11Draw_ct:List AD→Option Post
 | [.box [.ints .u8 (code),.int .i64 (a),.int .u64 (h)],.c (.int .i64 (most))]=>some (l11Draw_p code a h most)
 | _=>none
def l11Draw_ann (code:List Int) (a:Int) (h:Int) (most:Int):Nat→Option Ann
 | 1=>some (Ann.mk ((Nat)×(Int)×(Int)) (fun x=>match x with | (i,b,g)=>⟨[(0,.c (.ptr 700 0)),(1,.c (.int .i64 (most))),(4,.c (.ptr 4 0)),(6,.c (.int .i64 ((i:Int))))],[(4,some (.box [.nil,.nil])),(700,some (.box [.orig 700 0 (.ints .u8 (code)),.int .i64 (b),.int .u64 (g)]))]⟩) (fun x=>match x with | (i,b,g)=>i≤6∧0≤b∧b≤(code.length:Int)∧l11F code a h most=rgS code most (6 - i) b g) (fun x=>match x with | (i,b,g)=>6 - i) (fun _=>noAnn))
 | 1019=>some (Ann.mk ((Int)×(Int)) (fun x=>match x with | (b,g)=>⟨[(0,.c (.ptr 700 0)),(1,.c (.int .i64 (most))),(4,.c (.ptr 4 0))],[(4,some (.box [.nil,.nil])),(700,some (.box [.orig 700 0 (.ints .u8 (code)),.int .i64 (b),.int .u64 (g)]))]⟩) (fun x=>match x with | (b,g)=>0≤b∧b≤(code.length:Int)∧l11F code a h most=dfB code b g most) (fun x=>match x with | (b,g)=>0) (fun x=>match x with | (b,g)=>fun b_=>match b_ with | 1020=>some (Ann.mk ((Unit)) (fun u=>⟨[(0,.c (.ptr 700 0)),(4,.c (.ptr 4 0)),(11,.c (.own (11)))],[(4,some (.box [.nil,.nil])),(11,some (.tr 0 [26,22,2] (.r3 .i64 ((namL (1+nxV code b g most)))))),(700,some (.box [.orig 700 0 (.ints .u8 (code)),.int .i64 (nxA code.length b most),.int .u64 (nxH g most)]))]⟩) (fun u=>True) (fun u=>0) (fun u=>fun b_=>match b_ with | 1021=>some (Ann.mk ((Unit)) (fun u=>⟨[(0,.c (.ptr 700 0)),(4,.c (.ptr 4 0)),(12,.c (.own (12)))],[(4,some (.box [.nil,.nil])),(12,some (.rows 0 22 2 .i64 ((g10a code b g most).1))),(700,some (.box [.orig 700 0 (.ints .u8 (code)),.int .i64 ((g10a code b g most).2.1),.int .u64 ((g10a code b g most).2.2)]))]⟩) (fun u=>True) (fun u=>0) (fun u=>fun b_=>match b_ with | 1023=>some (Ann.mk ((Unit)) (fun u=>⟨[(0,.c (.ptr 700 0)),(4,.c (.ptr 4 0)),(12,.c (.own (114))),(14,.c (.ptr 14 0))],[(4,some (.box [.nil,.nil])),(14,some (.box [.own (114),.ro (.rows .i64 ((df1 code (g10a code b g most)).2.1))])),(114,some (.rows 0 22 2 .i64 ((df1 code (g10a code b g most)).1))),(700,some (.box [.orig 700 0 (.ints .u8 (code)),.int .i64 ((df1 code (g10a code b g most)).2.2.1),.int .u64 ((df1 code (g10a code b g most)).2.2.2)]))]⟩) (fun u=>True) (fun u=>0) (fun u=>fun b_=>match b_ with | 3=>some (Ann.mk ((Nat)) (fun i=>⟨[(0,.c (.ptr 700 0)),(4,.c (.ptr 4 0)),(14,.c (.ptr 14 0)),(16,.c (.own (16))),(17,.c (.own (17))),(18,.c (.int .i64 ((i:Int))))],[(4,some (.box [.nil,.nil])),(14,some (.box [.own (114),.ro (.rows .i64 ((df1 code (g10a code b g most)).2.1))])),(114,some (.rows 0 22 2 .i64 ((df1 code (g10a code b g most)).1))),(16,some (.ints 2 .i64 (pmL ((g10p code ((df1 code (g10a code b g most)).1,(df1 code (g10a code b g most)).2.2)).1.take i)))),(17,some (.ints 2 .i64 ((g10p code ((df1 code (g10a code b g most)).1,(df1 code (g10a code b g most)).2.2)).1))),(700,some (.box [.orig 700 0 (.ints .u8 (code)),.int .i64 ((g10p code ((df1 code (g10a code b g most)).1,(df1 code (g10a code b g most)).2.2)).2.1),.int .u64 ((g10p code ((df1 code (g10a code b g most)).1,(df1 code (g10a code b g most)).2.2)).2.2)]))]⟩) (fun i=>i≤(g10p code ((df1 code (g10a code b g most)).1,(df1 code (g10a code b g most)).2.2)).1.length∧1<((df1 code (g10a code b g most)).1.length:Int)∧nxV code (df1 code (g10a code b g most)).2.2.1 (df1 code (g10a code b g most)).2.2.2 2=0) (fun i=>(g10p code ((df1 code (g10a code b g most)).1,(df1 code (g10a code b g most)).2.2)).1.length - i) (fun _=>noAnn)) | _=>none)) | _=>none)) | _=>none)) | _=>none))
 | _=>none
def l11Draw_wr (t:Nat):Bool:=[3000086].contains t
def l11Draw_G:List (Nat×Ctr):=[(95,⟨[(0,0)],l01Next_ct⟩),(96,⟨[(0,0)],l10Draw_ct⟩),(125,⟨[],l01TurnB_ct⟩),(40,⟨[],l01Own2_ct⟩),(126,⟨[],l11Ring_ct⟩),(50,⟨[],l11Is_ct⟩),(127,⟨[],l10Named_ct⟩),(72,⟨[(0,0)],l13CirclesM_ct⟩),(128,⟨[(0,0)],l03DrawPerm_ct⟩),(129,⟨[],l03Image_ct⟩)]
def l11Draw_c1 (code:List Int) (most:Int) (x0:Int×Int):=(g10p code ((df1 code (g10a code x0.1 x0.2 most)).1,((df1 code (g10a code x0.1 x0.2 most)).2).2))
def l11Draw_c2 (code:List Int) (most:Int) (x0:Int×Int):=((df1 code (g10a code x0.1 x0.2 most)).2)
def l11Draw_c3 (code:List Int) (a:Int) (h:Int) (most:Int):=(g10 code (nxA (code.length) a (5:Int)) (nxH h (5:Int)) most)
def l11Draw_c4 (code:List Int) (most:Int) (x0:Int×Int):=(dpS code (nxA (code.length) (((l11Draw_c2 code most x0).2).1) (2:Int)) (nxH (((l11Draw_c2 code most x0).2).2) (2:Int)) (((↑(((df1 code (g10a code x0.1 x0.2 most)).1).length):Int) - (1:Int)).toNat))
def l11Draw_V (code:List Int) (a:Int) (h:Int) (most:Int):Prop :=
 (((((bytesB code)∧(((0:Int)≤a)∧(a≤(1099511627776:Int))))∧((code=code)∧True))∧(BrP (nxV code a h (5:Int) == (0:Int)) ((((bytesB code)∧((code.length≤(4096:Nat))∧(((0:Int)≤nxA (code.length) a (5:Int))∧((nxA (code.length) a (5:Int)≤(↑(code.length):Int))∧(((1:Int)≤most)∧(most≤(5:Int)))))))∧((code=code)∧True))∧((((bytesB code)∧(((0:Int)≤((l11Draw_c3 code a h most).2).1)∧(((l11Draw_c3 code a h most).2).1≤(1099511627776:Int))))∧((code=code)∧True))∧(BrP (nxV code (((g10 code (nxA (code.length) a (5:Int)) (nxH h (5:Int)) most).2).1) (((g10 code (nxA (code.length) a (5:Int)) (nxH h (5:Int)) most).2).2) (2:Int) == (0:Int)) ((((((l11Draw_c3 code a h most).1).length≤(144:Nat))∧(∀(x:Nat),x<((l11Draw_c3 code a h most).1).length→(((l11Draw_c3 code a h most).1).getD x []).length=((l11Draw_c3 code a h most).1).length))∧True)∧((((l11Draw_c3 code a h most).1=(l11F code a h most).1)∧((trqL ((l11Draw_c3 code a h most).1)=((l11F code a h most).2).1)∧True))∧(((code=code)∧((nxA (code.length) (((l11Draw_c3 code a h most).2).1) (2:Int)=(((l11F code a h most).2).2).1)∧((nxH (((l11Draw_c3 code a h most).2).2) (2:Int)=(((l11F code a h most).2).2).2)∧True)))∧True))) (((roomR ((l11Draw_c3 code a h most).1))∧True)∧((((l11Draw_c3 code a h most).1=(l11F code a h most).1)∧(((l11Draw_c3 code a h most).1=((l11F code a h most).2).1)∧True))∧(((code=code)∧((nxA (code.length) (((l11Draw_c3 code a h most).2).1) (2:Int)=(((l11F code a h most).2).2).1) ∧
 ((nxH (((l11Draw_c3 code a h most).2).2) (2:Int)=(((l11F code a h most).2).2).2)∧True)))∧True)))))) (BrP (nxV code a h (5:Int) == (1:Int)) ((∃x0:Nat×Int×Int,(((x0.1≤(6:Nat))∧(((0:Int)≤x0.2.1)∧((x0.2.1≤(↑(code.length):Int))∧(l11F code a h most=rgS code most ((6:Nat) - x0.1) (x0.2.1) (x0.2.2)))))∧((most=most)∧(((0:Int)=(↑x0.1:Int))∧((code=code)∧((nxA (code.length) a (5:Int)=x0.2.1)∧(nxH h (5:Int)=x0.2.2)))))))∧(∀x1:Nat×Int×Int,(((x1.1≤(6:Nat))∧(((0:Int)≤x1.2.1)∧((x1.2.1≤(↑(code.length):Int))∧(l11F code a h most=rgS code most ((6:Nat) - x1.1) (x1.2.1) (x1.2.2)))))→(BrP (decide ((↑x1.1:Int)<(6:Int))) ((((bytesB code)∧(((0:Int)≤x1.2.1)∧(x1.2.1≤(1099511627776:Int))))∧((code=code)∧True))∧((InR ((1:Int)+nxV code x1.2.1 x1.2.2 most))∧((((bytesB code)∧(((0:Int)≤nxA (code.length) x1.2.1 most)∧(nxA (code.length) x1.2.1 most≤(1099511627776:Int))))∧((code=code)∧True))∧(((((1:Int)≤(1:Int)+nxV code x1.2.1 x1.2.2 most)∧(((1:Int)+nxV code x1.2.1 x1.2.2 most≤(12:Int))∧(((0:Int)≤nxV code (nxA (code.length) x1.2.1 most) (nxH x1.2.2 most) ((1:Int)+nxV code x1.2.1 x1.2.2 most))∧(nxV code (nxA (code.length) x1.2.1 most) (nxH x1.2.2 most) ((1:Int)+nxV code x1.2.1 x1.2.2 most)≤(12:Int)))))∧True)∧((((roomR (cyT ((1:Int)+nxV code x1.2.1 x1.2.2 most)))∧(roomR (rgT ((1:Int)+nxV code x1.2.1 x1.2.2 most) (nxV code (nxA (code.length) x1.2.1 most) (nxH x1.2.2 most) ((1:Int)+nxV code x1.2.1 x1.2.2 most)))))∧True) ∧
 (BrP (brcB (cyT ((1:Int)+nxV code x1.2.1 x1.2.2 most)) (rgT ((1:Int)+nxV code x1.2.1 x1.2.2 most) (nxV code (nxA (code.length) x1.2.1 most) (nxH x1.2.2 most) ((1:Int)+nxV code x1.2.1 x1.2.2 most)))) (((cyT ((1:Int)+nxV code x1.2.1 x1.2.2 most)=(l11F code a h most).1)∧((rgT ((1:Int)+nxV code x1.2.1 x1.2.2 most) (nxV code (nxA (code.length) x1.2.1 most) (nxH x1.2.2 most) ((1:Int)+nxV code x1.2.1 x1.2.2 most))=((l11F code a h most).2).1)∧True))∧(((code=code)∧((nxA (code.length) (nxA (code.length) x1.2.1 most) ((1:Int)+nxV code x1.2.1 x1.2.2 most)=(((l11F code a h most).2).2).1)∧((nxH (nxH x1.2.2 most) ((1:Int)+nxV code x1.2.1 x1.2.2 most)=(((l11F code a h most).2).2).2)∧True)))∧True)) ((InR ((↑x1.1:Int)+(1:Int)))∧(∃x2:Nat×Int×Int,(((x2.1≤(6:Nat))∧(((0:Int)≤x2.2.1)∧((x2.2.1≤(↑(code.length):Int))∧(l11F code a h most=rgS code most ((6:Nat) - x2.1) (x2.2.1) (x2.2.2)))))∧(((6:Nat) - x2.1<(6:Nat) - x1.1)∧((most=most)∧(((↑x1.1:Int)+(1:Int)=(↑x2.1:Int))∧((code=code)∧((nxA (code.length) (nxA (code.length) x1.2.1 most) ((1:Int)+nxV code x1.2.1 x1.2.2 most)=x2.2.1)∧(nxH (nxH x1.2.2 most) ((1:Int)+nxV code x1.2.1 x1.2.2 most)=x2.2.2))))))))))))))) (∃x3:Int×Int,((((0:Int)≤x3.1)∧((x3.1≤(↑(code.length):Int))∧(l11F code a h most=dfB code (x3.1) (x3.2) most)))∧((most=most)∧((code=code)∧((x1.2.1=x3.1)∧(x1.2.2=x3.2)))))))))) (BrP (nxV code a h (5:Int) == (2:Int)) (BrP (decide ((8:Int)≤most)) (False)
 (∃x4:Int×Int,((((0:Int)≤x4.1)∧((x4.1≤(↑(code.length):Int))∧(l11F code a h most=dfB code (x4.1) (x4.2) most)))∧((most=most)∧((code=code)∧((nxA (code.length) a (5:Int)=x4.1)∧(nxH h (5:Int)=x4.2))))))) (∃x5:Int×Int,((((0:Int)≤x5.1)∧((x5.1≤(↑(code.length):Int))∧(l11F code a h most=dfB code (x5.1) (x5.2) most)))∧((most=most)∧((code=code)∧((nxA (code.length) a (5:Int)=x5.1)∧(nxH h (5:Int)=x5.2))))))))))∧(∀x6:Int×Int,((((0:Int)≤x6.1)∧((x6.1≤(↑(code.length):Int))∧(l11F code a h most=dfB code (x6.1) (x6.2) most)))→(((((bytesB code)∧(((0:Int)≤x6.1)∧(x6.1≤(1099511627776:Int))))∧((code=code)∧True))∧((InR ((1:Int)+nxV code x6.1 x6.2 (if (7:Int)<most then (7:Int) else most)))∧(((((1:Int)≤(1:Int)+nxV code x6.1 x6.2 (if (7:Int)<most then (7:Int) else most))∧((1:Int)+nxV code x6.1 x6.2 (if (7:Int)<most then (7:Int) else most)≤(5:Int)))∧True)∧(∃x7:Unit,(True∧((namL ((1:Int)+nxV code x6.1 x6.2 (if (7:Int)<most then (7:Int) else most))=namL ((1:Int)+nxV code x6.1 x6.2 most))∧((code=code)∧((nxA (code.length) x6.1 (if (7:Int)<most then (7:Int) else most)=nxA (code.length) x6.1 most)∧(nxH x6.2 (if (7:Int)<most then (7:Int) else most)=nxH x6.2 most)))))))))∧(∀x8:Unit,(True→(((((bytesB code)∧(((0:Int)≤nxA (code.length) x6.1 most)∧(nxA (code.length) x6.1 most≤(1099511627776:Int))))∧((code=code)∧True)) ∧
 ((inB (nxV code (nxA (code.length) x6.1 most) (nxH x6.2 most) (↑(FC.len (FC.r3 IntKind.i64 (namL ((1:Int)+nxV code x6.1 x6.2 most)))):Int)) (FC.len (FC.r3 IntKind.i64 (namL ((1:Int)+nxV code x6.1 x6.2 most)))))∧(∃x9:Unit,(True∧(((namL ((1:Int)+nxV code x6.1 x6.2 most)).getD ((nxV code (nxA (code.length) x6.1 most) (nxH x6.2 most) (↑(FC.len (FC.r3 IntKind.i64 (namL ((1:Int)+nxV code x6.1 x6.2 most)))):Int)).toNat) ([]:List (List Int))=(g10a code x6.1 x6.2 most).1)∧((code=code)∧((nxA (code.length) (nxA (code.length) x6.1 most) (↑(FC.len (FC.r3 IntKind.i64 (namL ((1:Int)+nxV code x6.1 x6.2 most)))):Int)=((g10a code x6.1 x6.2 most).2).1)∧(nxH (nxH x6.2 most) (↑(FC.len (FC.r3 IntKind.i64 (namL ((1:Int)+nxV code x6.1 x6.2 most)))):Int)=((g10a code x6.1 x6.2 most).2).2))))))))∧(∀x10:Unit,(True→((((tabB ((g10a code x6.1 x6.2 most).1)=true)∧((AuOk (((g10a code x6.1 x6.2 most).1).length) (auF ((g10a code x6.1 x6.2 most).1)))∧(((auF ((g10a code x6.1 x6.2 most).1)).length≤(100:Nat))∧(((g10a code x6.1 x6.2 most).1).length≤(7:Nat)))))∧((List.map List.length ((g10a code x6.1 x6.2 most).1)=List.map List.length ((g10a code x6.1 x6.2 most).1))∧True))∧(((((bytesB code)∧(((0:Int)≤((g10a code x6.1 x6.2 most).2).1)∧(((g10a code x6.1 x6.2 most).2).1≤(1099511627776:Int))))∧((code=code)∧True)) ∧
 ((inB (nxV code (((g10a code x6.1 x6.2 most).2).1) (((g10a code x6.1 x6.2 most).2).2) (↑((cirF ((g10a code x6.1 x6.2 most).1) (auF ((g10a code x6.1 x6.2 most).1))).length):Int)) ((cirF ((g10a code x6.1 x6.2 most).1) (auF ((g10a code x6.1 x6.2 most).1))).length))∧(∃x11:Unit,(True∧(((cirF ((g10a code x6.1 x6.2 most).1) (auF ((g10a code x6.1 x6.2 most).1))).getD ((nxV code (((g10a code x6.1 x6.2 most).2).1) (((g10a code x6.1 x6.2 most).2).2) (↑((cirF ((g10a code x6.1 x6.2 most).1) (auF ((g10a code x6.1 x6.2 most).1))).length):Int)).toNat) ([]:List (List Int))=(l11Draw_c2 code most x6).1)∧(((g10a code x6.1 x6.2 most).1=(df1 code (g10a code x6.1 x6.2 most)).1)∧((code=code)∧((nxA (code.length) (((g10a code x6.1 x6.2 most).2).1) (↑((cirF ((g10a code x6.1 x6.2 most).1) (auF ((g10a code x6.1 x6.2 most).1))).length):Int)=((l11Draw_c2 code most x6).2).1)∧(nxH (((g10a code x6.1 x6.2 most).2).2) (↑((cirF ((g10a code x6.1 x6.2 most).1) (auF ((g10a code x6.1 x6.2 most).1))).length):Int)=((l11Draw_c2 code most x6).2).2)))))))))∧(∀x12:Unit,(True→(BrP (decide ((1:Int)<(↑(((df1 code (g10a code x6.1 x6.2 most)).1).length):Int))) ((((bytesB code)∧(((0:Int)≤((l11Draw_c2 code most x6).2).1)∧(((l11Draw_c2 code most x6).2).1≤(1099511627776:Int))))∧((code=code)∧True))∧(BrP (nxV code ((((df1 code (g10a code x6.1 x6.2 most)).2).2).1) ((((df1 code (g10a code x6.1 x6.2 most)).2).2).2) (2:Int) == (0:Int))
 ((InR ((↑(((df1 code (g10a code x6.1 x6.2 most)).1).length):Int) - (1:Int)))∧((((bytesB code)∧(((0:Int)≤nxA (code.length) (((l11Draw_c2 code most x6).2).1) (2:Int))∧((nxA (code.length) (((l11Draw_c2 code most x6).2).1) (2:Int)≤(↑(code.length):Int))∧((code.length≤(4096:Nat))∧(((0:Int)≤(↑(((df1 code (g10a code x6.1 x6.2 most)).1).length):Int) - (1:Int))∧((↑(((df1 code (g10a code x6.1 x6.2 most)).1).length):Int) - (1:Int)≤(144:Int)))))))∧((code=code)∧True))∧((∃x13:Nat,(((x13≤((l11Draw_c1 code most x6).1).length)∧(((1:Int)<(↑(((df1 code (g10a code x6.1 x6.2 most)).1).length):Int))∧(nxV code (((l11Draw_c2 code most x6).2).1) (((l11Draw_c2 code most x6).2).2) (2:Int)=(0:Int))))∧(((0:Int)=(↑x13:Int))∧(((l11Draw_c2 code most x6).1=(l11Draw_c2 code most x6).1)∧(((df1 code (g10a code x6.1 x6.2 most)).1=(df1 code (g10a code x6.1 x6.2 most)).1)∧(([(0:Int)]=pmL (List.take x13 ((l11Draw_c1 code most x6).1)))∧(((l11Draw_c4 code most x6).1=(l11Draw_c1 code most x6).1)∧((code=code)∧((((l11Draw_c4 code most x6).2).1=((l11Draw_c1 code most x6).2).1)∧(((l11Draw_c4 code most x6).2).2=((l11Draw_c1 code most x6).2).2))))))))))∧(∀x14:Nat,(((x14≤((l11Draw_c1 code most x6).1).length)∧(((1:Int)<(↑(((df1 code (g10a code x6.1 x6.2 most)).1).length):Int))∧(nxV code (((l11Draw_c2 code most x6).2).1) (((l11Draw_c2 code most x6).2).2) (2:Int)=(0:Int)))) →
 (BrP (decide ((↑x14:Int)<(↑(((g10p code ((df1 code (g10a code x6.1 x6.2 most)).1,((df1 code (g10a code x6.1 x6.2 most)).2).2)).1).length):Int))) ((inB (↑x14:Int) (((l11Draw_c1 code most x6).1).length))∧((InR (((l11Draw_c1 code most x6).1).getD ((↑x14:Int).toNat) (0:Int)+(1:Int)))∧((room ((pmL (List.take x14 ((l11Draw_c1 code most x6).1))).length+[((l11Draw_c1 code most x6).1).getD ((↑x14:Int).toNat) (0:Int)+(1:Int)].length))∧((InR ((↑x14:Int)+(1:Int)))∧(∃x15:Nat,(((x15≤((l11Draw_c1 code most x6).1).length)∧(((1:Int)<(↑(((df1 code (g10a code x6.1 x6.2 most)).1).length):Int))∧(nxV code (((l11Draw_c2 code most x6).2).1) (((l11Draw_c2 code most x6).2).2) (2:Int)=(0:Int))))∧((((l11Draw_c1 code most x6).1).length - x15<((l11Draw_c1 code most x6).1).length - x14)∧(((↑x14:Int)+(1:Int)=(↑x15:Int))∧(((l11Draw_c2 code most x6).1=(l11Draw_c2 code most x6).1)∧(((df1 code (g10a code x6.1 x6.2 most)).1=(df1 code (g10a code x6.1 x6.2 most)).1)∧((pmL (List.take x14 ((l11Draw_c1 code most x6).1))++[((l11Draw_c1 code most x6).1).getD ((↑x14:Int).toNat) (0:Int)+(1:Int)]=pmL (List.take x15 ((l11Draw_c1 code most x6).1)))∧(((l11Draw_c1 code most x6).1=(l11Draw_c1 code most x6).1)∧((code=code)∧((((l11Draw_c1 code most x6).2).1=((l11Draw_c1 code most x6).2).1)∧(((l11Draw_c1 code most x6).2).2=((l11Draw_c1 code most x6).2).2))))))))))))))) ((((roomR ((df1 code (g10a code x6.1 x6.2 most)).1)) ∧
 ((((df1 code (g10a code x6.1 x6.2 most)).1).length≤(144:Nat))∧((sqB (↑(((df1 code (g10a code x6.1 x6.2 most)).1).length):Int) ((df1 code (g10a code x6.1 x6.2 most)).1))∧(((pmL (List.take x14 ((l11Draw_c1 code most x6).1))).length=((df1 code (g10a code x6.1 x6.2 most)).1).length)∧(∀(i:Nat),i<(pmL (List.take x14 ((l11Draw_c1 code most x6).1))).length→(0:Int)≤(pmL (List.take x14 ((l11Draw_c1 code most x6).1))).getD i (0:Int)∧(pmL (List.take x14 ((l11Draw_c1 code most x6).1))).getD i (0:Int)≤(↑(((df1 code (g10a code x6.1 x6.2 most)).1).length):Int) - (1:Int))))))∧True)∧((((roomR ((l11Draw_c2 code most x6).1))∧((((l11Draw_c2 code most x6).1).length≤(144:Nat))∧((sqB (↑(((l11Draw_c2 code most x6).1).length):Int) ((l11Draw_c2 code most x6).1))∧(((pmL (List.take x14 ((l11Draw_c1 code most x6).1))).length=((l11Draw_c2 code most x6).1).length)∧(∀(i:Nat),i<(pmL (List.take x14 ((l11Draw_c1 code most x6).1))).length→(0:Int)≤(pmL (List.take x14 ((l11Draw_c1 code most x6).1))).getD i (0:Int)∧(pmL (List.take x14 ((l11Draw_c1 code most x6).1))).getD i (0:Int)≤(↑(((l11Draw_c2 code most x6).1).length):Int) - (1:Int))))))∧True)∧(((imL ((df1 code (g10a code x6.1 x6.2 most)).1) (pmL (List.take x14 ((l11Draw_c1 code most x6).1))) (((df1 code (g10a code x6.1 x6.2 most)).1).length)=(l11F code a h most).1)∧((imL ((l11Draw_c2 code most x6).1) (pmL (List.take x14 ((l11Draw_c1 code most x6).1))) (((l11Draw_c2 code most x6).1).length)=((l11F code a h most).2).1) ∧
 True))∧(((code=code)∧((((l11Draw_c1 code most x6).2).1=(((l11F code a h most).2).2).1)∧((((l11Draw_c1 code most x6).2).2=(((l11F code a h most).2).2).2)∧True)))∧True)))))))))) ((((df1 code (g10a code x6.1 x6.2 most)).1=(l11F code a h most).1)∧(((l11Draw_c2 code most x6).1=((l11F code a h most).2).1)∧True))∧(((code=code)∧((nxA (code.length) (((l11Draw_c2 code most x6).2).1) (2:Int)=(((l11F code a h most).2).2).1)∧((nxH (((l11Draw_c2 code most x6).2).2) (2:Int)=(((l11F code a h most).2).2).2)∧True)))∧True)))) ((((df1 code (g10a code x6.1 x6.2 most)).1=(l11F code a h most).1)∧(((l11Draw_c2 code most x6).1=((l11F code a h most).2).1)∧True))∧(((code=code)∧((((l11Draw_c2 code most x6).2).1=(((l11F code a h most).2).2).1)∧((((l11Draw_c2 code most x6).2).2=(((l11F code a h most).2).2).2)∧True)))∧True))))))))))))))))
theorem l11Draw_vc (code:List Int) (a:Int) (h:Int) (most:Int):runF Try.prog (gam l11Draw_G) l11Draw_wr (l11Draw_ann code a h most) Try.f94 (bodyOf Try.f94) [(0,0)] [.box [.ints .u8 (code),.int .i64 (a),.int .u64 (h)],.c (.int .i64 (most))] (l11Draw_p code a h most)=l11Draw_V code a h most:=by kernel_rfl
theorem l11Draw_ok (code:List Int) (a:Int) (h:Int) (most:Int) (hpre:(l11Draw_p code a h most).pre):l11Draw_V code a h most:=by
 simp only [l11Draw_p,l11Draw_V,l11Draw_c1,l11Draw_c2,l11Draw_c3,l11Draw_c4,BrP_iff,u1,u2,u3,u4,u5,u6,u7,u8,u9,v1,v2,v3,v4,v5,v6,v7,v8,v9,w1,w2,w3,w4,markL_length,inB,InR,room,bdsOk] at hpre ⊢
 simp only [FC.len]
 obtain ⟨hb,hc,h0,h1,h2,h3⟩:=hpre
 have s:=nxA_in (n:=5) h0 h1
 refine ⟨⟨⟨hb,h0,by omega⟩,fun z=>?_,fun z=>⟨fun z2=>⟨⟨⟨0,nxA code.length a 5,nxH h 5⟩,⟨by dsimp only;omega,s.1,s.2,?_⟩,rfl,rfl,rfl⟩,fun ⟨i,b,g⟩ ⟨i1,i2,i3,i4⟩=>?_⟩,fun z2=>⟨fun z3=>⟨fun y=>absurd y (by omega),fun y=>⟨⟨nxA code.length a 5,nxH h 5⟩,⟨s.1,s.2,?_⟩,rfl,rfl⟩⟩,fun z3=>⟨⟨nxA code.length a 5,nxH h 5⟩,⟨s.1,s.2,?_⟩,rfl,rfl⟩⟩⟩⟩,fun ⟨b,g⟩ ⟨b1,b2,b3⟩=>?_⟩
 ·obtain ⟨K,_⟩:=g10a_ok hb (h:=nxH h 5) s.1 s.2 h2 h3
  obtain ⟨k1,k2,k3,k4,k5⟩:=g10b_ok hb K
  have e:l11F code a h most=b0F code (g10 code (nxA code.length a 5) (nxH h 5) most):=if_pos z
  have e2:g10b code (g10a code (nxA code.length a 5) (nxH h 5) most)=g10 code (nxA code.length a 5) (nxH h 5) most:=rfl
  rw [e2] at k1 k2 k3 k4 k5
  rw [e]
  generalize g10 code (nxA code.length a 5) (nxH h 5) most=d at *
  refine ⟨⟨hb,hc,s.1,s.2,h2,h3⟩,⟨hb,k4,by omega⟩,fun y=>⟨⟨by omega,fun x hx=>(k3.2 x hx).1⟩,⟨rfl,?_⟩,rfl,rfl⟩,fun y=>⟨sq_room (tb_sq k3) (by omega),⟨rfl,?_⟩,rfl,rfl⟩⟩
  ·unfold b0F;rw [if_pos y]
  ·unfold b0F;rw [if_neg y]
 ·dsimp only;unfold l11F;rw [if_neg z,if_pos z2]
 ·dsimp only at i1 i2 i3 i4 ⊢
  refine ⟨fun hi=>?_,fun hi=>⟨⟨b,g⟩,⟨i2,i3,?_⟩,rfl,rfl⟩⟩
  ·obtain ⟨r1,r2,r3,r4,r5,r6⟩:=rg_in hb (h:=g) i2 i3 h2
   have s2:=nxA_in (n:=most) i2 i3
   have e1:1+nxV code b g most=rgN code most b g:=rfl
   rw [e1]
   have e2:nxV code (nxA code.length b most) (nxH g most) (rgN code most b g)=rgK code most b g:=rfl
   have e3:nxA code.length (nxA code.length b most) (rgN code most b g)=rgA code most b g:=rfl
   have e4:nxH (nxH g most) (rgN code most b g)=rgH code most b g:=rfl
   rw [e2,e3,e4]
   have L:=cyT_len r1
   have T1:=cyT_tb r1
   have T2:=rgT_tb r1 r3
   rw [show 6 - i=(5 - i)+1 by omega,rgS] at i4
   refine ⟨⟨hb,i2,by omega⟩,by omega,⟨hb,s2.1,by omega⟩,⟨r1,by omega,r3,by omega⟩,⟨sq_room (tb_sq T1) (by omega),sq_room (tb_sq T2) (by omega)⟩,fun y=>?_,fun y=>⟨by omega,⟨i+1,rgA code most b g,rgH code most b g⟩,⟨by dsimp only;omega,r5,r6,?_⟩,by dsimp only;omega,by dsimp only;omega,rfl,rfl⟩⟩
   ·rw [if_pos y] at i4;rw [i4];exact ⟨⟨rfl,rfl⟩,rfl,rfl⟩
   ·rw [if_neg (by rw [y];simp)] at i4;dsimp only;rw [i4,show 6 - (i+1)=5 - i by omega]
  ·dsimp only;rw [i4,show 6 - i=0 by omega];rfl
 ·dsimp only;unfold l11F;rw [if_neg z,if_neg z2]
 ·dsimp only;unfold l11F;rw [if_neg z,if_neg z2]
 ·dsimp only at b1 b2 b3 ⊢
  have hm:(if 7<most then 7 else most)=most:=if_neg (by omega)
  rw [hm]
  have v:=nxV_in hb b g h2
  have sb:=nxA_in (n:=most) b1 b2
  obtain ⟨K,mem,w1,w2⟩:=g10a_ok hb (h:=g) b1 b2 h2 h3
  refine ⟨⟨⟨hb,b1,by omega⟩,by omega,by omega,⟨⟩,rfl,rfl,rfl⟩,fun _ _=>⟨⟨⟨hb,sb.1,by omega⟩,⟨w1,w2⟩,⟨⟩,rfl,rfl,rfl⟩,fun _ _=>?_⟩⟩
  have D:=df1_ok hb (n:=1+nxV code b g most) (by omega) (by omega) mem K
  have bF:dfB code b g most=df2 code (df1 code (g10a code b g most)):=rfl
  rw [b3,bF]
  generalize g10a code b g most=d at *
  obtain ⟨k1,k2,k3,k4,k5⟩:=K
  obtain ⟨D0,D1,D2,D3,D4⟩:=D
  refine ⟨⟨D2,D3,D4,by omega⟩,⟨⟨hb,k4,by omega⟩,D1,⟨⟩,rfl,rfl,rfl,rfl⟩,fun _ _=>?_⟩
  generalize df1 code d=x at *
  have P:=g10p_ok hb (okB_g D0)
  obtain ⟨x1,x2,x3,x4,x5,x6⟩:=D0
  have sx:=nxA_in (n:=2) x5 x6
  refine ⟨fun z=>⟨⟨hb,x5,by omega⟩,fun y=>⟨by omega,⟨hb,sx.1,sx.2,hc,by omega,by omega⟩,⟨0,⟨by omega,z,y⟩,rfl,rfl,rfl,rfl,rfl⟩,fun i ⟨hi,_,_⟩=>⟨fun gi=>?_,fun gi=>?_⟩⟩,fun y=>?_⟩,fun z=>?_⟩
  ·have:=P.1.2 i (by omega)
   have pl:=P.1.1
   dsimp only at pl
   refine ⟨by omega,by omega,by simp [pmL];omega,by omega,i+1,⟨by omega,z,y⟩,by omega,by omega,pm_take (by omega)⟩
  ·rw [List.take_of_length_le (by omega)]
   obtain ⟨q1,q2⟩:=pm_get P.1.1 P.1.2
   dsimp only at q1 q2
   have R:df2 code x=(imL x.1 (pmL (g10p code (x.1,x.2.2)).1) x.1.length,imL x.2.1 (pmL (g10p code (x.1,x.2.2)).1) x.2.1.length,(g10p code (x.1,x.2.2)).2):=by unfold df2;rw [if_pos z,if_pos y]
   rw [R]
   have xl:=x4.1
   have T4:tbN x.2.1.length x.2.1:=by rw [xl];exact x4
   refine ⟨⟨sq_room (tb_sq x3) (by omega),by omega,tb_sq x3,q1,q2⟩,⟨sq_room (tb_sq x4) (by omega),by omega,tb_sq T4,by omega,by rw [xl];exact q2⟩,⟨rfl,rfl⟩,rfl,rfl⟩
  ·have R:df2 code x=(x.1,x.2.1,nxA code.length x.2.2.1 2,nxH x.2.2.2 2):=by unfold df2;rw [if_pos z,if_neg y]
   rw [R];exact ⟨⟨rfl,rfl⟩,rfl,rfl⟩
  ·have R:df2 code x=x:=by unfold df2;rw [if_neg z]
   rw [R];exact ⟨⟨rfl,rfl⟩,rfl,rfl⟩
theorem l11Draw_fits:Fits Try.prog 94 ⟨[(0,0)],l11Draw_ct⟩:=by
 refine ffn (Γ:=gam l11Draw_G) (gok_cons l01Next_fits (gok_cons l10Draw_fits (gok_cons l01TurnB_fits (gok_cons l01Own2_fits (gok_cons l11Ring_fits (gok_cons l11Is_fits (gok_cons l10Named_fits (gok_cons l13CirclesM_fits (gok_cons l03DrawPerm_fits (gok_cons l03Image_fits gok_nil)))))))))) Try.func94 fun ds p h hp=>?_
 unfold l11Draw_ct at h
 split at h
 ·cases h
  exact ⟨l11Draw_wr,l11Draw_ann _ _ _ _ ,by rw [l11Draw_vc];exact l11Draw_ok _ _ _ _  hp⟩
 ·cases h
end Go.Sx
