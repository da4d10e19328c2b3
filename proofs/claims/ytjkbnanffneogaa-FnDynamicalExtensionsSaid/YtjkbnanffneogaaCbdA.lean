/- CbdA -/
import Derived.Test.YtjkbnanffneogaaSdrB
import Derived.Test.YtjkbnanffneogaaShpI
open Go Go.Proofs
namespace Go.Sx
set_option linter.unusedSimpArgs false
set_option linter.unusedVariables false
def ovS (code:List Int) (n:Int):Nat→List Int×Int×Int→List Int×Int×Int
  | 0,s=>s
  | j+1,s=>ovS code n j (s.1.set (n.toNat - (j+1)) (nxV code s.2.1 s.2.2 n),nxA code.length s.2.1 n,nxH s.2.2 n)
def tbG (n:Int) (first:List Int) (x y:Nat):Int:=first.getD (((x:Int)+(y:Int)).tmod n).toNat 0
def tbR (code:List Int) (n kind:Int) (first:List Int) (x:Nat) (a h:Int):List Int×Int×Int :=
  if kind=0 then ovS code n n.toNat (duF code n a h) else if kind=1 then (tab n.toNat (tbG n first x),(duF code n a h).2) else duF code n a h
abbrev Dq:=List (List Int)×Int×Int
def tbS (code:List Int) (n kind:Int) (first:List Int):Nat→Dq→Dq
  | 0,s=>s
  | j+1,s=>tbS code n kind first j (s.1++[(tbR code n kind first (n.toNat - (j+1)) s.2.1 s.2.2).1],(tbR code n kind first (n.toNat - (j+1)) s.2.1 s.2.2).2)
def tbF (code:List Int) (a h n:Int):Dq:=tbS code n (nxV code a h 3) (duF code n (nxA code.length a 3) (nxH h 3)).1 n.toNat ([],(duF code n (nxA code.length a 3) (nxH h 3)).2)
def okR (code:List Int) (n:Int) (r:List Int×Int×Int):Prop:=(r.1.length:Int)=n∧0≤r.2.1∧r.2.1≤(code.length:Int)
theorem ov_ok {code:List Int} {n:Int}:∀(j:Nat) (s:List Int×Int×Int),okR code n s→okR code n (ovS code n j s)
  | 0,_,h=>h
  | j+1,s,h=>by
    obtain ⟨h1,h2,h3⟩:=h
    have a:=nxA_in (n:=n) h2 h3
    exact ov_ok j _ ⟨by rw [List.length_set];exact h1,a⟩
theorem du_ok {code:List Int} (hb:bytesB code) {n a h:Int} (hn:1≤n) (h0:0≤a) (h1:a≤(code.length:Int)):okR code n (duF code n a h):=by
  obtain ⟨d1,d2⟩:=duF_in hb (h:=h) hn h0 h1
  exact ⟨by have:=d1.1;omega,d2⟩
theorem tbR_ok {code:List Int} (hb:bytesB code) {n kind:Int} {first:List Int} {x:Nat} {a h:Int} (hn:1≤n) (h0:0≤a) (h1:a≤(code.length:Int)):okR code n (tbR code n kind first x a h):=by
  have D:=du_ok hb (h:=h) hn h0 h1
  unfold tbR
  split
  · exact ov_ok _ _ D
  · split
    · exact ⟨by rw [tab_length];omega,D.2⟩
    · exact D
theorem tbS_ok {code:List Int} (hb:bytesB code) {n kind:Int} {first:List Int} (hn:1≤n):∀(j:Nat) (s:Dq),(∀r∈s.1,(r.length:Int)=n)→s.1.length+j=n.toNat→0≤s.2.1→s.2.1≤(code.length:Int) →
    (∀r∈(tbS code n kind first j s).1,(r.length:Int)=n)∧(tbS code n kind first j s).1.length=n.toNat∧0≤(tbS code n kind first j s).2.1∧(tbS code n kind first j s).2.1≤(code.length:Int)
  | 0,s,h,hl,h0,h1=>⟨h,hl,h0,h1⟩
  | j+1,s,h,hl,h0,h1=>by
    have R:=tbR_ok hb (kind:=kind) (first:=first) (x:=n.toNat - (j+1)) (h:=s.2.2) hn h0 h1
    refine tbS_ok hb hn j _ (fun r hr=>?_) ?_ R.2.1 R.2.2
    · rcases List.mem_append.1 hr with hr | hr
      · exact h r hr
      · rw [List.mem_singleton.1 hr];exact R.1
    · rw [List.length_append];show s.1.length+1+j=_;omega
theorem tbF_ok {code:List Int} (hb:bytesB code) {a h n:Int} (hn:1≤n) (h0:0≤a) (h1:a≤(code.length:Int)):(∀r∈(tbF code a h n).1,(r.length:Int)=n)∧(tbF code a h n).1.length=n.toNat∧0≤(tbF code a h n).2.1∧(tbF code a h n).2.1≤(code.length:Int):=by
  have s:=nxA_in (n:=3) h0 h1
  have D:=du_ok hb (h:=nxH h 3) hn s.1 s.2
  exact tbS_ok hb hn _ _ (fun r hr=>(List.not_mem_nil hr).elim) (by simp) D.2.1 D.2.2
def l01Tables_p (code:List Int) (a:Int) (h:Int) (n:Int):Post:=⟨bytesB code∧0≤a∧a≤(code.length:Int)∧code.length≤4096∧1≤n∧n≤13,.c (.rows 41 2 .i64 ((tbF code a h n).1)),[.bx [.ints .u8 (code),.int .i64 ((tbF code a h n).2.1),.int .u64 ((tbF code a h n).2.2)]]⟩
def l01Tables_ct:List AD→Option Post
  | [.box [.ints .u8 (code),.int .i64 (a),.int .u64 (h)],.c (.int .i64 (n))]=>some (l01Tables_p code a h n)
  | _=>none
def l01Tables_ann (code:List Int) (a:Int) (h:Int) (n:Int):Nat→Option Ann
  | 0=>some (Ann.mk ((Nat)×(List (List Int))×(Int)×(Int)) (fun x=>match x with | (i,l,b,g)=>⟨[(0,.c (.ptr 700 0)),(1,.c (.int .i64 (n))),(5,.c (.own (100))),(6,.c (.int .i64 (nxV code a h 3))),(7,.c (.own (101))),(8,.c (.int .i64 ((i:Int))))],[(700,some (.box [.orig 700 0 (.ints .u8 (code)),.int .i64 (b),.int .u64 (g)])),(100,some (.rows 0 41 2 .i64 (l))),(101,some (.ints 2 .i64 ((duF code n (nxA code.length a 3) (nxH h 3)).1)))]⟩) (fun x=>match x with | (i,l,b,g)=>(i:Int)≤n∧l.length=i∧0≤b∧b≤(code.length:Int)∧tbF code a h n=tbS code n (nxV code a h 3) (duF code n (nxA code.length a 3) (nxH h 3)).1 (n.toNat - i) (l,b,g)) (fun x=>match x with | (i,l,b,g)=>n.toNat - i) (fun x=>match x with | (i,l,b,g)=>fun b_=>match b_ with | 3=>some (Ann.mk ((Nat)×(List Int)×(Int)×(Int)) (fun x=>match x with | (j,lr,c,k)=>⟨[(0,.c (.ptr 700 0)),(1,.c (.int .i64 (n))),(5,.c (.own (100))),(6,.c (.int .i64 (nxV code a h 3))),(7,.c (.own (101))),(8,.c (.int .i64 ((i:Int)))),(9,.c (.own (102))),(10,.c (.int .i64 (n - (j:Int))))],[(700,some (.box [.orig 700 0 (.ints .u8 (code)),.int .i64 (c),.int .u64 (k)])),(100,some (.rows 0 41 2 .i64 (l))),(101,some (.ints 2 .i64 ((duF code n (nxA code.length a 3) (nxH h 3)).1))),(102,some (.ints 2 .i64 (lr)))]⟩) (fun x=>match x with | (j,lr,c,k)=>(j:Int)≤n∧(i:Int)<n∧(lr.length:Int)=n∧0≤c∧c≤(code.length:Int)∧nxV code a h 3=0∧ovS code n n.toNat (duF code n b g)=ovS code n j (lr,c,k)) (fun x=>match x with | (j,lr,c,k)=>j) (fun _=>noAnn)) | 5=>some (Ann.mk ((Nat)) (fun w=>⟨[(0,.c (.ptr 700 0)),(1,.c (.int .i64 (n))),(5,.c (.own (100))),(6,.c (.int .i64 (nxV code a h 3))),(7,.c (.own (101))),(8,.c (.int .i64 ((i:Int)))),(9,.c (.own (102))),(11,.c (.int .i64 ((w:Int))))],[(700,some (.box [.orig 700 0 (.ints .u8 (code)),.int .i64 ((duF code n b g).2.1),.int .u64 ((duF code n b g).2.2)])),(100,some (.rows 0 41 2 .i64 (l))),(101,some (.ints 2 .i64 ((duF code n (nxA code.length a 3) (nxH h 3)).1))),(102,some (.ints 2 .i64 ((tab n.toNat (tbG n (duF code n (nxA code.length a 3) (nxH h 3)).1 i)).take w++((duF code n b g).1).drop w)))]⟩) (fun w=>(w:Int)≤n∧(i:Int)<n∧nxV code a h 3=1) (fun w=>n.toNat - w) (fun _=>noAnn)) | _=>none))
  | _=>none
def l01Tables_G:List (Nat×Ctr):=[(57,⟨[(0,0)],l01Next_ct⟩),(58,⟨[(0,0)],l01DrawU_ct⟩)]
def l01Tables_c1 (code:List Int) (a:Int) (h:Int) (n:Int):=(duF code n (nxA (code.length) a (3:Int)) (nxH h (3:Int)))
def l01Tables_c2 (code:List Int) (a:Int) (h:Int) (n:Int) (x0:Nat) (x1:Nat×List (List Int)×Int×Int):=(List.take x0 (tab (n.toNat) (tbG n ((l01Tables_c1 code a h n).1) x1.1))++List.drop x0 ((duF code n x1.2.2.1 x1.2.2.2).1))
def l01Tables_V (code:List Int) (a:Int) (h:Int) (n:Int):Prop :=
 ((((bytesB code)∧(((0:Int)≤a)∧(a≤(1099511627776:Int))))∧((code=code)∧True))∧((((bytesB code)∧(((0:Int)≤nxA (code.length) a (3:Int))∧((nxA (code.length) a (3:Int)≤(↑(code.length):Int))∧((code.length≤(4096:Nat))∧(((1:Int)≤n)∧(n≤(144:Int)))))))∧((code=code)∧True))∧((∃x0:Nat×List (List Int)×Int×Int,((((↑(x0.1):Int)≤n)∧(((x0.2.1).length=x0.1)∧(((0:Int)≤x0.2.2.1)∧((x0.2.2.1≤(↑(code.length):Int))∧(tbF code a h n=tbS code n (nxV code a h (3:Int)) ((l01Tables_c1 code a h n).1) (n.toNat - x0.1) (x0.2.1,x0.2.2.1,x0.2.2.2))))))∧((n=n)∧((nxV code a h (3:Int)=nxV code a h (3:Int))∧(((0:Int)=(↑x0.1:Int))∧((code=code)∧((((l01Tables_c1 code a h n).2).1=x0.2.2.1)∧((((l01Tables_c1 code a h n).2).2=x0.2.2.2)∧((([]:List (List Int))=x0.2.1)∧((l01Tables_c1 code a h n).1=(l01Tables_c1 code a h n).1))))))))))∧(∀x1:Nat×List (List Int)×Int×Int,((((↑(x1.1):Int)≤n)∧(((x1.2.1).length=x1.1)∧(((0:Int)≤x1.2.2.1)∧((x1.2.2.1≤(↑(code.length):Int))∧(tbF code a h n=tbS code n (nxV code a h (3:Int)) ((l01Tables_c1 code a h n).1) (n.toNat - x1.1) (x1.2.1,x1.2.2.1,x1.2.2.2))))))→(BrP (decide ((↑x1.1:Int)<n)) ((((bytesB code)∧(((0:Int)≤x1.2.2.1)∧((x1.2.2.1≤(↑(code.length):Int))∧((code.length≤(4096:Nat))∧(((1:Int)≤n)∧(n≤(144:Int)))))))∧((code=code)∧True))∧(BrP (nxV code a h (3:Int) == (0:Int)) ((∃x2:Nat×List Int×Int×Int,((((↑(x2.1):Int)≤n)∧(((↑x1.1:Int)<n)∧(((↑((x2.2.1).length):Int)=n) ∧
 (((0:Int)≤x2.2.2.1)∧((x2.2.2.1≤(↑(code.length):Int))∧((nxV code a h (3:Int)=(0:Int))∧(ovS code n (n.toNat) (duF code n x1.2.2.1 x1.2.2.2)=ovS code n (x2.1) (x2.2.1,x2.2.2.1,x2.2.2.2))))))))∧((n=n)∧((nxV code a h (3:Int)=nxV code a h (3:Int))∧(((↑x1.1:Int)=(↑x1.1:Int))∧(((0:Int)=n - (↑x2.1:Int))∧((code=code)∧((((duF code n x1.2.2.1 x1.2.2.2).2).1=x2.2.2.1)∧((((duF code n x1.2.2.1 x1.2.2.2).2).2=x2.2.2.2)∧((x1.2.1=x1.2.1)∧(((l01Tables_c1 code a h n).1=(l01Tables_c1 code a h n).1)∧((duF code n x1.2.2.1 x1.2.2.2).1=x2.2.1))))))))))))∧(∀x3:Nat×List Int×Int×Int,((((↑(x3.1):Int)≤n)∧(((↑x1.1:Int)<n)∧(((↑((x3.2.1).length):Int)=n)∧(((0:Int)≤x3.2.2.1)∧((x3.2.2.1≤(↑(code.length):Int))∧((nxV code a h (3:Int)=(0:Int))∧(ovS code n (n.toNat) (duF code n x1.2.2.1 x1.2.2.2)=ovS code n (x3.1) (x3.2.1,x3.2.2.1,x3.2.2.2))))))))→(BrP (decide (n - (↑x3.1:Int)<n)) ((((bytesB code)∧(((0:Int)≤x3.2.2.1)∧(x3.2.2.1≤(1099511627776:Int))))∧((code=code)∧True))∧((inB (n - (↑x3.1:Int)) (x3.2.1.length))∧((InR (n - (↑x3.1:Int)+(1:Int)))∧(∃x4:Nat×List Int×Int×Int,((((↑(x4.1):Int)≤n)∧(((↑x1.1:Int)<n)∧(((↑((x4.2.1).length):Int)=n)∧(((0:Int)≤x4.2.2.1)∧((x4.2.2.1≤(↑(code.length):Int))∧((nxV code a h (3:Int)=(0:Int))∧(ovS code n (n.toNat) (duF code n x1.2.2.1 x1.2.2.2)=ovS code n (x4.1) (x4.2.1,x4.2.2.1,x4.2.2.2))))))))∧((x4.1<x3.1)∧((n=n)∧((nxV code a h (3:Int)=nxV code a h (3:Int))∧(((↑x1.1:Int)=(↑x1.1:Int)) ∧
 ((n - (↑x3.1:Int)+(1:Int)=n - (↑x4.1:Int))∧((code=code)∧((nxA (code.length) x3.2.2.1 n=x4.2.2.1)∧((nxH x3.2.2.2 n=x4.2.2.2)∧((x1.2.1=x1.2.1)∧(((l01Tables_c1 code a h n).1=(l01Tables_c1 code a h n).1)∧(List.set x3.2.1 ((n - (↑x3.1:Int)).toNat) (nxV code x3.2.2.1 x3.2.2.2 n)=x4.2.1)))))))))))))))) ((room (x1.2.1.length+(x3.2.1::([]:List (List Int))).length))∧((InR ((↑x1.1:Int)+(1:Int)))∧(∃x5:Nat×List (List Int)×Int×Int,((((↑(x5.1):Int)≤n)∧(((x5.2.1).length=x5.1)∧(((0:Int)≤x5.2.2.1)∧((x5.2.2.1≤(↑(code.length):Int))∧(tbF code a h n=tbS code n (nxV code a h (3:Int)) ((l01Tables_c1 code a h n).1) (n.toNat - x5.1) (x5.2.1,x5.2.2.1,x5.2.2.2))))))∧((n.toNat - x5.1<n.toNat - x1.1)∧((n=n)∧((nxV code a h (3:Int)=nxV code a h (3:Int))∧(((↑x1.1:Int)+(1:Int)=(↑x5.1:Int))∧((code=code)∧((x3.2.2.1=x5.2.2.1)∧((x3.2.2.2=x5.2.2.2)∧((x1.2.1++x3.2.1::([]:List (List Int))=x5.2.1)∧((l01Tables_c1 code a h n).1=(l01Tables_c1 code a h n).1))))))))))))))))) (BrP (nxV code a h (3:Int) == (1:Int)) ((∃x6:Nat,((((↑x6:Int)≤n)∧(((↑x1.1:Int)<n)∧(nxV code a h (3:Int)=(1:Int))))∧((n=n)∧((nxV code a h (3:Int)=nxV code a h (3:Int))∧(((↑x1.1:Int)=(↑x1.1:Int))∧(((0:Int)=(↑x6:Int))∧((code=code)∧((((duF code n x1.2.2.1 x1.2.2.2).2).1=((duF code n x1.2.2.1 x1.2.2.2).2).1)∧((((duF code n x1.2.2.1 x1.2.2.2).2).2=((duF code n x1.2.2.1 x1.2.2.2).2).2)∧((x1.2.1=x1.2.1) ∧
 (((l01Tables_c1 code a h n).1=(l01Tables_c1 code a h n).1)∧((duF code n x1.2.2.1 x1.2.2.2).1=List.take x6 (tab (n.toNat) (tbG n ((l01Tables_c1 code a h n).1) x1.1))++List.drop x6 ((duF code n x1.2.2.1 x1.2.2.2).1)))))))))))))∧(∀x7:Nat,((((↑x7:Int)≤n)∧(((↑x1.1:Int)<n)∧(nxV code a h (3:Int)=(1:Int))))→(BrP (decide ((↑x7:Int)<n)) ((InR ((↑x1.1:Int)+(↑x7:Int)))∧((n≠(0:Int))∧((inB (Int.tmod ((↑x1.1:Int)+(↑x7:Int)) n) (((l01Tables_c1 code a h n).1).length))∧((inB (↑x7:Int) ((l01Tables_c2 code a h n x7 x1).length))∧((InR ((↑x7:Int)+(1:Int)))∧(∃x8:Nat,((((↑x8:Int)≤n)∧(((↑x1.1:Int)<n)∧(nxV code a h (3:Int)=(1:Int))))∧((n.toNat - x8<n.toNat - x7)∧((n=n)∧((nxV code a h (3:Int)=nxV code a h (3:Int))∧(((↑x1.1:Int)=(↑x1.1:Int))∧(((↑x7:Int)+(1:Int)=(↑x8:Int))∧((code=code)∧((((duF code n x1.2.2.1 x1.2.2.2).2).1=((duF code n x1.2.2.1 x1.2.2.2).2).1)∧((((duF code n x1.2.2.1 x1.2.2.2).2).2=((duF code n x1.2.2.1 x1.2.2.2).2).2)∧((x1.2.1=x1.2.1)∧(((l01Tables_c1 code a h n).1=(l01Tables_c1 code a h n).1)∧(List.set (l01Tables_c2 code a h n x7 x1) ((↑x7:Int).toNat) (((l01Tables_c1 code a h n).1).getD ((Int.tmod ((↑x1.1:Int)+(↑x7:Int)) n).toNat) (0:Int))=List.take x8 (tab (n.toNat) (tbG n ((l01Tables_c1 code a h n).1) x1.1))++List.drop x8 ((duF code n x1.2.2.1 x1.2.2.2).1))))))))))))))))))) ((room (x1.2.1.length+((l01Tables_c2 code a h n x7 x1)::([]:List (List Int))).length))∧((InR ((↑x1.1:Int)+(1:Int))) ∧
 (∃x9:Nat×List (List Int)×Int×Int,((((↑(x9.1):Int)≤n)∧(((x9.2.1).length=x9.1)∧(((0:Int)≤x9.2.2.1)∧((x9.2.2.1≤(↑(code.length):Int))∧(tbF code a h n=tbS code n (nxV code a h (3:Int)) ((l01Tables_c1 code a h n).1) (n.toNat - x9.1) (x9.2.1,x9.2.2.1,x9.2.2.2))))))∧((n.toNat - x9.1<n.toNat - x1.1)∧((n=n)∧((nxV code a h (3:Int)=nxV code a h (3:Int))∧(((↑x1.1:Int)+(1:Int)=(↑x9.1:Int))∧((code=code)∧((((duF code n x1.2.2.1 x1.2.2.2).2).1=x9.2.2.1)∧((((duF code n x1.2.2.1 x1.2.2.2).2).2=x9.2.2.2)∧((x1.2.1++(l01Tables_c2 code a h n x7 x1)::([]:List (List Int))=x9.2.1)∧((l01Tables_c1 code a h n).1=(l01Tables_c1 code a h n).1))))))))))))))))) ((room (x1.2.1.length+((duF code n x1.2.2.1 x1.2.2.2).1::([]:List (List Int))).length))∧((InR ((↑x1.1:Int)+(1:Int)))∧(∃x10:Nat×List (List Int)×Int×Int,((((↑(x10.1):Int)≤n)∧(((x10.2.1).length=x10.1)∧(((0:Int)≤x10.2.2.1)∧((x10.2.2.1≤(↑(code.length):Int))∧(tbF code a h n=tbS code n (nxV code a h (3:Int)) ((l01Tables_c1 code a h n).1) (n.toNat - x10.1) (x10.2.1,x10.2.2.1,x10.2.2.2))))))∧((n.toNat - x10.1<n.toNat - x1.1)∧((n=n)∧((nxV code a h (3:Int)=nxV code a h (3:Int))∧(((↑x1.1:Int)+(1:Int)=(↑x10.1:Int))∧((code=code)∧((((duF code n x1.2.2.1 x1.2.2.2).2).1=x10.2.2.1)∧((((duF code n x1.2.2.1 x1.2.2.2).2).2=x10.2.2.2)∧((x1.2.1++(duF code n x1.2.2.1 x1.2.2.2).1::([]:List (List Int))=x10.2.1) ∧
 ((l01Tables_c1 code a h n).1=(l01Tables_c1 code a h n).1)))))))))))))))) ((x1.2.1=(tbF code a h n).1)∧(((code=code)∧((x1.2.2.1=((tbF code a h n).2).1)∧((x1.2.2.2=((tbF code a h n).2).2)∧True)))∧True))))))))
theorem l01Tables_vc (code:List Int) (a:Int) (h:Int) (n:Int):runF Try.prog (gam l01Tables_G) noWr (l01Tables_ann code a h n) Try.f99 (bodyOf Try.f99) [(0,0)] [.box [.ints .u8 (code),.int .i64 (a),.int .u64 (h)],.c (.int .i64 (n))] (l01Tables_p code a h n)=l01Tables_V code a h n:=by kernel_rfl
theorem l01Tables_ok (code:List Int) (a:Int) (h:Int) (n:Int) (hpre:(l01Tables_p code a h n).pre):l01Tables_V code a h n:=by
  simp only [l01Tables_p,l01Tables_V,l01Tables_c1,l01Tables_c2,BrP_iff,u1,u2,u3,u4,u5,u6,u7,u8,u9,v1,v2,v3,v4,v5,v6,v7,v8,v9,w1,w2,w3,w4,markL_length,inB,InR,room,bdsOk] at hpre ⊢
  obtain ⟨hb,h0,h1,hc,n0,n1⟩:=hpre
  have s:=nxA_in (n:=3) h0 h1
  have D:=du_ok hb (h:=nxH h 3) n0 s.1 s.2
  have v:=nxV_in hb a h (n:=3) (by omega)
  refine ⟨⟨hb,h0,by omega⟩,⟨hb,s.1,s.2,hc,n0,by omega⟩,⟨(0,[],(duF code n (nxA code.length a 3) (nxH h 3)).2.1,(duF code n (nxA code.length a 3) (nxH h 3)).2.2),?_⟩,?_⟩
  · dsimp only
    exact ⟨⟨by omega,rfl,D.2.1,D.2.2,rfl⟩,rfl,rfl,rfl,rfl⟩
  have e:tbF code a h n=tbS code n (nxV code a h 3) (duF code n (nxA code.length a 3) (nxH h 3)).1 n.toNat ([],(duF code n (nxA code.length a 3) (nxH h 3)).2):=rfl
  generalize tbF code a h n=X at *
  generalize duF code n (nxA code.length a 3) (nxH h 3)=F at *
  generalize nxV code a h 3=kd at *
  rintro ⟨i,l,b,g⟩ ⟨q1,q2,q3,q4,q5⟩
  dsimp only at q1 q2 q3 q4 q5 ⊢
  have E:=du_ok hb (h:=g) n0 q3 q4
  have st:(i:Int)<n→X=tbS code n kd F.1 (n.toNat - (i+1)) (l++[(tbR code n kd F.1 i b g).1],(tbR code n kd F.1 i b g).2):=fun hl=>by
    rw [q5,show n.toNat - i=(n.toNat - (i+1))+1 by omega,tbS,show n.toNat - (n.toNat - (i+1)+1)=i by omega]
  refine ⟨fun hl=>⟨⟨hb,q3,q4,hc,n0,by omega⟩,fun z=>⟨⟨(n.toNat,(duF code n b g).1,(duF code n b g).2.1,(duF code n b g).2.2),?_⟩,?_⟩,fun z=>⟨fun z1=>⟨⟨0,?_⟩,?_⟩,fun z1=>⟨by omega,by omega,(i+1,l++[(duF code n b g).1],(duF code n b g).2.1,(duF code n b g).2.2),?_⟩⟩⟩,fun hl=>?_⟩
  · dsimp only
    exact ⟨⟨by omega,hl,E.1,E.2.1,E.2.2,z,rfl⟩,by omega,rfl,rfl,rfl⟩
  · rintro ⟨j,lr,c,k⟩ ⟨p1,p2,p3,p4,p5,p6,p7⟩
    dsimp only at p1 p2 p3 p4 p5 p6 p7 ⊢
    have s1:=nxA_in (n:=n) p4 p5
    refine ⟨fun hl2=>⟨⟨hb,p4,by omega⟩,by omega,by omega,(j - 1,lr.set (n - (j:Int)).toNat (nxV code c k n),nxA code.length c n,nxH k n),?_⟩,fun hl2=>⟨by omega,by omega,(i+1,l++[lr],c,k),?_⟩⟩
    · dsimp only
      refine ⟨⟨by omega,hl,by rw [List.length_set];exact p3,s1.1,s1.2,z,?_⟩,by omega,by omega,rfl,rfl,rfl⟩
      rw [p7,show j=(j - 1)+1 by omega,ovS,show (n - ((j - 1+1:Nat):Int)).toNat=n.toNat - (j - 1+1) by omega];rfl
    · dsimp only
      refine ⟨⟨by omega,by rw [List.length_append,q2];rfl,p4,p5,?_⟩,by omega,by omega,rfl,rfl,rfl⟩
      rw [st hl,tbR,if_pos z,p7,show j=0 by omega];rfl
  · exact ⟨⟨by omega,hl,z1⟩,by simp⟩
  · intro w ⟨p1,p2,p3⟩
    have lT:(tab n.toNat (tbG n F.1 i)).length=n.toNat:=tab_length _ _
    have E1:=E.1
    have lm:((tab n.toNat (tbG n F.1 i)).take w++((duF code n b g).1).drop w).length=n.toNat:=by rw [List.length_append,List.length_take,List.length_drop];omega
    refine ⟨fun hl2=>?_,fun hl2=>⟨by omega,by omega,(i+1,l++[tab n.toNat (tbG n F.1 i)],(duF code n b g).2.1,(duF code n b g).2.2),?_⟩⟩
    · have t1:=tmod_in' (a:=(i:Int)+(w:Int)) (m:=n) (by omega) n0
      have D1:=D.1
      refine ⟨by omega,by omega,by omega,by omega,by omega,w+1,⟨by omega,hl,z1⟩,by omega,by omega,?_⟩
      rw [←mix_set (tab n.toNat (tbG n F.1 i)) _ w (by omega) (by omega),tab_getD _ _ _ (by omega)];rfl
    · dsimp only
      refine ⟨⟨by omega,by rw [List.length_append,q2];rfl,E.2.1,E.2.2,?_⟩,by omega,by omega,rfl,rfl,?_⟩
      · rw [st hl,tbR,if_neg z,if_pos z1]
      · rw [List.take_of_length_le (by omega),List.drop_of_length_le (by omega),List.append_nil]
  · dsimp only
    refine ⟨⟨by omega,by rw [List.length_append,q2];rfl,E.2.1,E.2.2,?_⟩,by omega,by omega,rfl,rfl,rfl⟩
    rw [st hl,tbR,if_neg z,if_neg z1]
  · rw [q5,show n.toNat - i=0 by omega];exact ⟨rfl,rfl,rfl⟩
theorem l01Tables_fits:Fits Try.prog 99 ⟨[(0,0)],l01Tables_ct⟩:=by
  refine ffn (Γ:=gam l01Tables_G) (gok_cons l01Next_fits (gok_cons l01DrawU_fits gok_nil)) Try.func99 fun ds p h hp=>?_
  unfold l01Tables_ct at h
  split at h
  · cases h
    exact ⟨noWr,l01Tables_ann _ _ _ _ ,by rw [l01Tables_vc];exact l01Tables_ok _ _ _ _  hp⟩
  · cases h
end Go.Sx
