/- PlcP -/
import Derived.Test.YtkmldclpaniclaaGreatSrtN
import Derived.Test.YtkmldclpaniclaaGreatCrcC
import Derived.Test.YtkmldclpaniclaaGreatHol
import Derived.Test.YtkmldclpaniclaaGreatTable
import Derived.Test.YtkmldclpaniclaaGreatEqt
import Derived.Test.YtkmldclpaniclaaGreatNamD
import Derived.Test.YtkmldclpaniclaaGreatActP
import Derived.Test.YtkmldclpaniclaaGreatDrawY
import Derived.Test.YtkmldclpaniclaaGreatBrdA
set_option linter.unusedSimpArgs false
set_option linter.unusedVariables false
set_option linter.defProp false
open Go Go.Proofs
namespace Go.Sx
theorem NX:∀a b:D1,aR bg a b<0->bh a b=true
 | [],[],h=>by simp[aR]at h
 | [],_::_,_=>rfl
 |_::_,[],h=>by simp[aR]at h
 |x::a,y::b,h=>by
  simp only[aR]at h;rw[bh];by_cases e:bg x y=0
  ·rw[AA e]at h
   rw[AA (mf.1 e)];exact NX a b h
  ·rw[AB e]at h
   have:¬ x=y:=fun e2=>e (mf.2 e2)
   rw[AB this];unfold bg at h;split at h
   ·simpa using ‹_›
   ·split at h<;>omega
theorem uv(l:D2):(cX l).Perm l:=by
 unfold cX;split
 ·rename_i h
  refine((uI l h).map _).trans ?_
  have:(List.finRange l.length).map (fun i=>l.getD i.1 [])=l:=by
   apply BP (by simp)
   intro i h1 h2
   simp[List.getD,h2]
  rw[this]
 ·have:l=[]:=Ay (by omega)
  rw[this]
theorem WF(l:D2)(hnd:l.Nodup):eX (cX l):=by
 have hnd2:(cX l).Nodup:=(uv l).nodup_iff.2 hnd
 by_cases h:0<l.length
 case neg =>
  unfold cX;rw[dif_neg h];exact List.Pairwise.nil
 letI:Inhabited (Fin l.length):=⟨⟨0,h⟩⟩
 have S:=(Go.Sort.pdq_sorts (fun i j=>decide (gY l i j<0)) (FP l) (List.finRange l.length).toArray 0 (List.finRange l.length).toArray.size (Lib.bitLen (List.finRange l.length).toArray.size) true true (AQ _) (AE _) (Or.inl rfl)).2
 have S:∀i j:Nat,i<j->j<l.length->decide (gY l (fl l h)[j]! (fl l h)[i]!<0)=false:=fun i j h1 h2=>S i j (AQ _) h1 (by simpa using h2)
 have hS:cX l=(fl l h).toList.map (fun i=>l.getD i.1 []):=by unfold cX;rw[dif_pos h]
 have sl:(fl l h).toList.length=l.length:=by rw[(uI l h).length_eq];simp
 have sz:(fl l h).size=l.length:=by simpa using sl
 have g:∀i (hi:i<l.length),(fl l h)[i]! = (fl l h).toList[i]'(by omega):=fun i hi=>by
  rw[getElem!_pos (fl l h) i (by omega)];simp
 have hlen:(cX l).length=l.length:=FQ l
 refine BD.2 fun i j hi hj hij=>?_
 have e:∀k (hk:k<(cX l).length),(cX l)[k]=l.getD ((fl l h)[k]!).1 []:=fun k hk=>by
  rw[g k (by omega)]
  simp[hS]
 have s:=S i j hij (by omega)
 rw[Bq,gY,<-e j hj,<-e i hi]at s;have an:=oC (cX l)[i] (cX l)[j]
 have ne:aR bg (cX l)[i] (cX l)[j]≠0:=fun e0=>by
  have:=(mg (fun x y=>mf)).1 e0
  exact BD.1 hnd2 i j hi hj hij this
 exact NX _ _ (by omega)
theorem WG(l:D2)(hnd:l.Nodup):cX l=fN l:=by
 obtain⟨h1,h2,_⟩:=Ec _ l rfl hnd;exact Ke (WF l hnd) h1 fun g=>by rw[h2,(uv l).mem_iff]
def Fq:List AD->Option Post
 | [.c (.rows .i64 l),.fv (.llb q p)]=>some ⟨am l.length/\∀i,0<i->i<l.length->q (l.getD i []) (l.getD (i-1) [])/\p (l.getD i []) (l.getD (i-1) [])=false,.c (.rows 62 2 .i64 l),[.gone (.rows 62 2 .i64 l)]⟩
 |_=>none
def NY(l:D2)(q:D1->D1->Prop)(p:D1->D1->Bool):Nat->Option Ann
 |0=>Q' fun k=>⟨⟨[(0,J' 790),(1,.fv (.llb q p)),(5,A' k)],[(790,N' l)]⟩,1<=k/\k<=l.length,l.length-k⟩
 |_=>none
theorem WJ:Fits Tryz.prog 91 ⟨[(0,0)],Fq⟩:=by
 refine ffv (Γ:=ah []) aI Tryz.func91 fun ds p h ξ=>?_
 unfold Fq at h;split at h<;>cases h
 rename_i l q p
 refine⟨aj,NY l q p,ab (decide ((l.length:Int)<(2:Int))) (l=l/\True) ((∃x0:Nat,((1:Nat)<=x0/\x0<=l.length)/\FV.llb q p=FV.llb q p/\(1:Int)=(x0:Int)/\l=l)/\∀x1:Nat,(1:Nat)<=x1/\x1<=l.length->ab (decide ((x1:Int)<(l.length:Int))) (ac (x1:Int) l.length/\af ((x1:Int)-(1:Int))/\ac ((x1:Int)-(1:Int)) l.length/\q (l.getD (x1:Int).toNat []) (l.getD (((x1:Int)-(1:Int)).toNat) [])/\ab (p (l.getD (x1:Int).toNat []) (l.getD (((x1:Int)-(1:Int)).toNat) [])) (bM l.length (Option.some (x1:Int)) Option.none/\False) (af ((x1:Int)+(1:Int))/\∃x2:Nat,((1:Nat)<=x2/\x2<=l.length)/\l.length-x2<l.length-x1/\FV.llb q p=FV.llb q p/\(x1:Int)+(1:Int)=(x2:Int)/\l=l)) (l=l/\True)),by kernel_rfl,?_⟩
 simp only[aJ]at ξ⊢;obtain⟨h1,h2⟩:=ξ;refine⟨fun _=>trivial,fun h=>⟨⟨1,by omega,rfl⟩,fun k ⟨hk1,hk2⟩=>⟨fun ψ=>?_,fun _=>trivial⟩⟩⟩
 have e:((k:Int)-1).toNat=k-1:=by omega
 rw[e];obtain⟨a,b⟩:=h2 k hk1 (by omega)
 exact⟨by omega,by omega,by omega,a,fun hh=>(by rw[b]at hh;cases hh),fun _=>⟨by omega,k+1,by omega,by omega,by omega⟩⟩
def ow:List AD->Option Post
 | [.agg [.rows .i64 t]]=>some ⟨aS t,.c (.bool (aC t)),[]⟩
 |_=>none
theorem uy:Fits Tryz.prog 53 ⟨[],ow⟩:=by
 refine ffv (Γ:=ah [(98,⟨[],tC⟩)]) (aw LM aI) Tryz.func53 fun ds p h ξ=>?_
 unfold ow at h;split at h<;>cases h
 rename_i t
 refine⟨aj,ar,(aS t/\True)/\aC t=aC t/\True,by kernel_rfl,?_⟩
 simp only[aJ]at ξ⊢;exact ξ
def Ft:List AD->Option Post
 | [.agg [.rows .i64 t]]=>some ⟨aS t,.tup [.inl (.rows 62 2 .i64 ((if aC t=true then if t.length<=7 then fN (bE t (aa t) t.length 0)else []else []))),.inl (.int .i64 ((if aC t=true then if t.length<=7 then 0 else 3 else 1)))],[]⟩
 |_=>none
def N1(t:D2):Nat->Option Ann
 |0=>T' (fun a=>⟨⟨[(1,M' 600),(4,J' 601),(17,G' t),(18,A' t.length),(19,A' a)],[(600,P' [.ro (.rows .i64 t)]),(601,N' (bE t (aa t) a 0))]⟩,a<=t.length/\aC t=true/\t.length<=7,t.length-a⟩) (fun a b_=>match b_ with|2=>Q' fun i=>⟨⟨[(1,M' 600),(4,J' 601),(17,G' t),(18,A' t.length),(19,A' a),(6,D' (t.getD a [])),(25,J' 602),(26,A' ((((aa t).length:Int)))),(27,A' i)],[(600,P' [.ro (.rows .i64 t)]),(601,N' (bE t (aa t) a i)),(602,N' (aa t))]⟩,i<=(aa t).length/\a<t.length,(aa t).length-i⟩|_=>none)
 |_=>none
def kh(t:D2):=(t::([]:D3))
theorem WO:Fits Tryz.prog 45 ⟨[],Ft⟩:=by
 refine ffv (Γ:=ah [(53,⟨[],ow⟩),(87,⟨[],nI⟩),(88,⟨[],tg⟩),(89,⟨[(0,97),(0,97)],qb⟩),(91,⟨[(0,0)],Fq⟩),(92,⟨[],ta⟩),(90,⟨[],sn⟩)]) (aw uy (aw sG (aw Lm (aw Xh (aw WJ (aw Lj (aw sq aI))))))) Tryz.func45 fun ds p h ξ=>?_
 unfold Ft at h;split at h<;>cases h
 rename_i t
 refine⟨aj,N1 t,(aS t/\True)/\ab (!aC t) (((([]:D2)=if aC t=true then if t.length<=(7:Nat)then fN (bE t (aa t) t.length (0:Nat))else([]:D2)else([]:D2))/\((1:Int)=if aC t=true then if t.length<=(7:Nat)then(0:Int)else(3:Int)else(1:Int))/\True)/\True) (ab (decide ((7:Int)<(t.length:Int))) (((([]:D2)=if aC t=true then if t.length<=(7:Nat)then fN (bE t (aa t) t.length (0:Nat))else([]:D2)else([]:D2))/\((3:Int)=if aC t=true then if t.length<=(7:Nat)then(0:Int)else(3:Int)else(1:Int))/\True)/\True) ((∃x0:Nat,(x0<=t.length/\aC t=true/\t.length<=(7:Nat))/\t=t/\(t.length:Int)=(t.length:Int)/\(0:Int)=(x0:Int)/\t=t/\bE t (aa t) x0 (0:Nat)=([]:D2))/\∀x1:Nat,x1<=t.length/\aC t=true/\t.length<=(7:Nat)->ab (decide ((x1:Int)<(t.length:Int))) (ac (x1:Int) t.length/\(((1:Nat)<=t.length/\iY (kh t) (kh t)/\(bF (kh t) (kh t)).length<=(1000000000:Nat))/\True)/\(∃x2:Nat,(x2<=(aa t).length/\x1<t.length)/\t=t/\(t.length:Int)=(t.length:Int)/\(x1:Int)=(x1:Int)/\t.getD (x1:Int).toNat []=t.getD x1 []/\(↑((bF (kh t) (kh t)).length):Int)=(↑((aa t).length):Int)/\(0:Int)=(x2:Int)/\t=t/\bE t (aa t) x1 (0:Nat)=bE t (aa t) x1 x2/\bF (kh t) (kh t)=aa t)/\∀x3:Nat,x3<=(aa t).length/\x1<t.length->ab (decide ((x3:Int)<(↑((aa t).length):Int))) (ac (x3:Int) (aa t).length/\((((aa t).getD (x3:Int).toNat []).length<=(1000:Nat)/\gv (t.getD x1 []).length ((aa t).getD (x3:Int).toNat []))/\True)/\am ((bE t (aa t) x1 x3).length+(aE ((aa t).getD (x3:Int).toNat []) (t.getD x1 [])::([]:D2)).length)/\af ((x3:Int)+(1:Int))/\∃x4:Nat,(x4<=(aa t).length/\x1<t.length)/\(aa t).length-x4<(aa t).length-x3/\t=t/\(t.length:Int)=(t.length:Int)/\(x1:Int)=(x1:Int)/\t.getD x1 []=t.getD x1 []/\(↑((aa t).length):Int)=(↑((aa t).length):Int)/\(x3:Int)+(1:Int)=(x4:Int)/\t=t/\bE t (aa t) x1 x3++aE ((aa t).getD (x3:Int).toNat []) (t.getD x1 [])::([]:D2)=bE t (aa t) x1 x4/\aa t=aa t) (af ((x1:Int)+(1:Int))/\∃x5:Nat,(x5<=t.length/\aC t=true/\t.length<=(7:Nat))/\t.length-x5<t.length-x1/\t=t/\(t.length:Int)=(t.length:Int)/\(x1:Int)+(1:Int)=(x5:Int)/\t=t/\bE t (aa t) x1 x3=bE t (aa t) x5 (0:Nat))) ((((bE t (aa t) x1 (0:Nat)).length<=(1000000000:Nat)/\∀(r:D1),r∈bE t (aa t) x1 (0:Nat)->r.length<=(1000:Nat))/\(cX (bE t (aa t) x1 (0:Nat))).length=(bE t (aa t) x1 (0:Nat)).length)/\((am ((cX (bE t (aa t) x1 (0:Nat))).length)/\∀(i:Nat),(0:Nat)<i->i<(cX (bE t (aa t) x1 (0:Nat))).length->(((cX (bE t (aa t) x1 (0:Nat))).getD i []).length<=(9223372036854775807:Nat)/\((cX (bE t (aa t) x1 (0:Nat))).getD (i-(1:Nat)) []).length<=(9223372036854775807:Nat))/\decide ((cX (bE t (aa t) x1 (0:Nat))).getD i []=(cX (bE t (aa t) x1 (0:Nat))).getD (i-(1:Nat)) [])=false)/\True/\True)/\((cX (bE t (aa t) x1 (0:Nat))=if aC t=true then if t.length<=(7:Nat)then fN (bE t (aa t) t.length (0:Nat))else([]:D2)else([]:D2))/\((0:Int)=if aC t=true then if t.length<=(7:Nat)then(0:Int)else(3:Int)else(1:Int))/\True)/\True))),by kernel_rfl,?_⟩
 simp only[kh,aJ]at ξ⊢;refine⟨ξ,fun h=>⟨by rw[AB (by rw[h];simp)],by rw[AB (by rw[h];simp)]⟩,fun h=>⟨fun h7=>⟨by rw[AA h,AB (by omega)],by rw[AA h,AB (by omega)]⟩,fun h7=>?_⟩⟩
 have G:=gN h
 have hn:t.length<=7:=by omega
 have hA:=iq G hn
 refine⟨⟨0,⟨by omega,h,by omega⟩,rfl,rfl⟩,fun a ⟨ha,_,_⟩=>⟨fun ψ=>⟨by omega,⟨G.pos,jX G hn,by rw[iO G hn];omega⟩,⟨0,⟨by omega,by omega⟩,by rw[iO G hn],rfl,rfl,iO G hn⟩,fun i ⟨hi,hal⟩=>⟨fun hil=>?_,fun hil=>?_⟩⟩,fun hge=>?_⟩⟩
 ·have hil:i<(aa t).length:=by omega
  have hf:=gS G hn (bI (aa t) [] i hil)
  have hL:=LY G hn (a:=a) (i:=i) ha
  have hrow:(t.getD a []).length=t.length:=(G.tb.2 a hal).1
  exact⟨by omega,⟨by rw[hf.len];omega,fun k hk=>by rw[hrow];exact hf.rng k (by rw[<-hf.len];exact hk)⟩,by omega,by omega,i+1,⟨by omega,hal⟩,by omega,by omega,by rw[U2 hil]⟩
 ·have e:i=(aa t).length:=by omega
  subst e;exact⟨by omega,a+1,⟨by omega,h,hn⟩,by omega,by omega,by rw[LV]⟩
 ·have e:a=t.length:=by omega
  subst e;have hN:=LX G hn (a:=t.length) (i:=0) (.inr ⟨by omega,rfl⟩)
  have hL:=LY G hn (a:=t.length) (i:=0) (by omega)
  have hS:=FQ (bE t (aa t) t.length 0)
  have mem:∀x,x∈bE t (aa t) t.length 0->x.length=t.length:=fun x hx=>by
   obtain⟨y,f,_,hfm,rfl⟩:=LW hx;rw[fL,(gS G hn hfm).len]
  have get:∀i,i<(cX (bE t (aa t) t.length 0)).length->((cX (bE t (aa t) t.length 0)).getD i []).length=t.length:=fun i hi=>mem _ ((uv _).mem_iff.1 (bI _ [] i hi))
  refine⟨⟨⟨by omega,fun r hr=>by rw[mem r hr];omega⟩,hS⟩,⟨by omega,fun i h0 hi=>⟨⟨by rw[get i hi];omega,by rw[get (i-1) (by omega)];omega⟩,fun e=>?_⟩⟩,by rw[AA h,AA hn,WG _ hN],by rw[AA h,AA hn]⟩
  have hnd:=(uv (bE t (aa t) t.length 0)).nodup_iff.2 hN
  rw[bv _ _ _ hi,bv _ _ _ (show i-1<(cX (bE t (aa t) t.length 0)).length by omega)]at e
  exact BD.1 hnd (i-1) i (by omega) hi (by omega) e.symm
theorem N3(k:Nat):∀l:D2,(∀r∈l,r.length<=k)->nC l<=l.length*k
 | [],_=>by simp[nC]
 |r::l,h=>by
  have h1:=h r AX
  have h2:=N3 k l fun x hx=>h x (AO _ hx)
  simp only[nC,Ax,Bt,AS,BW]at *;omega
def ox{α:Type}(c:α->Nat)(l:List α):Nat:=(l.map c).sum
def Fv(l:D3):Nat:=ox nC l
def uA(l:D3):Prop:=l.length<=1099511627776/\∀r∈l,aS r
def N4(l:D3):Prop:=l.length<=1048576/\∀r∈l,r.length<=1048576
section
variable {α:Type} {f:α->Int->α} {c:α->Nat}
end
def cf(t:D2):D3×Int:=(if aC t=true then if t.length<=7 then bw t (aa t)else []else [],if aC t=true then if t.length<=7 then 0 else 3 else 1)
theorem oy{t:D2}(h:aC t=false):cf t=([],1):=by simp[cf,h]
theorem oz{t:D2}(h:aC t=true)(h7:7<t.length):cf t=([],3):=by
 simp[cf,h,show ¬ t.length<=7 by omega]
theorem mG{t:D2}(h:aC t=true)(h7:t.length<=7):cf t=(bw t (aa t),0):=by simp[cf,h,h7]
def Fw:List AD->Option Post
 | [.agg [.rows .i64 t]]=>some ⟨aS t,.tup [.inl (.tr [22,62,2] (.r3 .i64 (cf t).1)),.inl (.int .i64 (cf t).2)],[]⟩
 |_=>none
theorem WR:Fits Tryz.prog 42 ⟨[],Fw⟩:=by
 refine ffv (Γ:=ah [(53,⟨[],ow⟩),(85,⟨[],sI⟩)]) (aw uy (aw Kt aI)) Tryz.func42 fun ds p h ξ=>?_
 unfold Fw at h;split at h<;>cases h
 rename_i t
 refine⟨aj,ar,(aS t/\True)/\ab (!aC t) ((FC.len (FC.r3 IntKind.i64 (cf t).1)=(0:Nat)/\(1:Int)=(cf t).2/\True)/\True) (ab (decide ((7:Int)<(t.length:Int))) ((FC.len (FC.r3 IntKind.i64 (cf t).1)=(0:Nat)/\(3:Int)=(cf t).2/\True)/\True) (((aC t=true/\t.length<=(7:Nat))/\True)/\(dc (cB t (aa t) (9:Nat) ([]:D2) ([]:D3))=(cf t).1/\(0:Int)=(cf t).2/\True)/\True)),by kernel_rfl,?_⟩
 simp only[aJ]at ξ⊢;refine⟨ξ,fun h=>by rw[oy h];exact⟨rfl,rfl⟩,fun h=>⟨fun h7=>by rw[oz h (by omega)];exact⟨rfl,rfl⟩,fun h7=>⟨⟨h,by omega⟩,?_⟩⟩⟩
 rw[mG h (by omega),pn (gN h) (by omega)]
 exact⟨rfl,rfl⟩
def Fy:List AD->Option Post
 | [.agg [.rows .i64 t]]=>some ⟨aS t,.c (.int .i64 (cf t).2),[]⟩
 |_=>none
theorem WU:Fits Tryz.prog 50 ⟨[],Fy⟩:=by
 refine ffv (Γ:=ah [(94,⟨[],D6⟩)]) (aw UX aI) Tryz.func50 fun ds p h ξ=>?_
 unfold Fy at h;split at h<;>cases h
 rename_i t
 refine⟨aj,ar,(aS t/\True)/\ab (!aC t) ((1:Int)=(cf t).2/\True) (ab (decide ((7:Int)<(t.length:Int))) ((3:Int)=(cf t).2/\True) ((0:Int)=(cf t).2/\True)),by kernel_rfl,?_⟩
 simp only[aJ]at ξ⊢;exact⟨ξ,fun h=>by rw[oy h],fun h=>⟨fun h7=>by rw[oz h (by omega)],fun h7=>by rw[mG h (by omega)]⟩⟩
def FA:List AD->Option Post
 | [.agg [.rows .i64 t]]=>some ⟨aS t,.tup [.inl (.ro (.r3 .i64 (cf t).1)),.inl (.int .i64 (cf t).2)],[]⟩
 |_=>none
theorem WX:Fits Tryz.prog 43 ⟨[],FA⟩:=by
 refine ffv (Γ:=ah [(50,⟨[],Fy⟩),(86,⟨[],E9⟩)]) (aw WU (aw Wi aI)) Tryz.func43 fun ds p h ξ=>?_
 unfold FA at h;split at h<;>cases h
 rename_i t
 refine⟨aj,ar,(aS t/\True)/\ab ((cf t).2 != (0:Int)) ((FC.len (FC.r3 IntKind.i64 (cf t).1)=(0:Nat)/\(cf t).2=(cf t).2/\True)/\True) (((cj t=true/\AuOk t.length (aa t)/\(aa t).length<=(100:Nat)/\t.length<=(7:Nat))/\True)/\(bw t (aa t)=(cf t).1/\(0:Int)=(cf t).2/\True)/\True),by kernel_rfl,?_⟩
 simp only[aJ]at ξ⊢;refine⟨ξ,fun h=>?_,fun h=>?_⟩
 ·cases hg:aC t with
  |false=>rw[oy hg];rfl
  |true =>
   by_cases h7:7<t.length
   ·rw[oz hg h7];rfl
   ·rw[mG hg (by omega)]at h;exact absurd rfl h
 ·cases hg:aC t with
  |false=>rw[oy hg]at h;exact absurd h (by decide)
  |true =>
   by_cases h7:7<t.length
   ·rw[oz hg h7]at h;exact absurd h (by decide)
   ·have G:=gN hg
    have hA:=iq G (by omega)
    refine⟨⟨kV hg,(mm G.tb G.pos (by omega)).1,by omega,by omega⟩,?_⟩
    rw[mG hg (by omega)]
    exact⟨rfl,rfl⟩
theorem WY{n:Nat}{t:D2}(G:GrpT n t)(hn:n<=7):∀c∈bw t (aa t),aA n c:=by
 have hA:=iq G hn
 obtain⟨h1,h2⟩:=mm G.tb G.pos (by omega)
 exact(Uh G.tb G.pos (by omega) h1 h2).2
theorem WZ{n:Nat}{c:D2}(h:aA n c):nC c<=n*n:=by
 have:=N3 n c fun r hr=>by
  obtain⟨i,hi,rfl⟩:=Aw hr;have:=(h.2 i (by rw[<-h.1];exact hi)).1
  rw[bv c [] i hi]at this;omega
 rw[h.1]at this;exact this
theorem FD{n:Nat}{c:D2}(h:aA n c)(hn:n<=12):aS c:=⟨by rw[h.1];omega,fun r hr=>by
 obtain⟨i,hi,rfl⟩:=Aw hr;have:=(h.2 i (by rw[<-h.1];exact hi)).1
 rw[bv c [] i hi]at this;omega⟩
theorem N8{α:Type}(c:α->Nat)(k:Nat):∀l:List α,(∀x∈l,c x<=k)->ox c l<=l.length*k
 | [],_=>by simp[ox]
 |x::l,h=>by
  have h1:=h x AX
  have h2:=N8 c k l fun y hy=>h y (AO _ hy)
  simp only[ox,Ax,Bt,AS,BW]at *;omega
theorem W0(t:D2):uA (cf t).1/\N4 (cf t).1/\Fv (cf t).1<=1048576:=by
 have nil:uA ([]:D3)/\N4 ([]:D3)/\Fv ([]:D3)<=1048576:=⟨⟨by simp,by simp⟩,⟨by simp,by simp⟩,by simp[Fv,ox]⟩
 cases hg:aC t with
 |false=>rw[oy hg];exact nil
 |true =>
  by_cases h7:7<t.length
  ·rw[oz hg h7];exact nil
  ·rw[mG hg (by omega)]
   have G:=gN hg
   have hl:=xf G (by omega)
   have hr:=WY G (by omega)
   have hs:=N8 nC 49 (bw t (aa t)) fun c hc=>by
    have:=WZ (hr c hc)
    have:t.length*t.length<=7*7:=Be (by omega) (by omega)
    omega
   refine⟨⟨by simp only;omega,fun c hc=>FD (hr c hc) (by omega)⟩,⟨by simp only;omega,fun c hc=>by rw[(hr c hc).1];omega⟩,?_⟩
   show ox nC (bw t (aa t))<=1048576
   omega
def eN(t:D2):D5×Int:=(if aC t=true then if t.length<=7 then bB t (oA t (aa t))else []else [],if aC t=true then if t.length<=7 then 0 else 3 else 1)
theorem N9{t:D2}(h:aC t=false):eN t=([],1):=by simp[eN,h]
theorem Oa{t:D2}(h:aC t=true)(h7:7<t.length):eN t=([],3):=by
 simp[eN,h,show ¬ t.length<=7 by omega]
theorem Oc{t:D2}(h:aC t=true)(h7:t.length<=7):eN t=(bB t (oA t (aa t)),0):=by simp[eN,h,h7]
theorem Od(t:D2):(eN t).2=(cf t).2:=rfl
def FE:List AD->Option Post
 | [.agg [.rows .i64 t]]=>some ⟨aS t,.tup [.inl (.tr [39,62,2] (.p3 .i64 (eN t).1)),.inl (.int .i64 (eN t).2)],[]⟩
 |_=>none
theorem W6:Fits Tryz.prog 12 ⟨[],FE⟩:=by
 refine ffv (Γ:=ah [(53,⟨[],ow⟩),(54,⟨[],ye⟩)]) (aw uy (aw Sg aI)) Tryz.func12 fun ds p h ξ=>?_
 unfold FE at h;split at h<;>cases h
 rename_i t
 refine⟨aj,ar,(aS t/\True)/\ab (!aC t) ((FC.len (FC.p3 IntKind.i64 (eN t).1)=(0:Nat)/\(1:Int)=(eN t).2/\True)/\True) (ab (decide ((7:Int)<(t.length:Int))) ((FC.len (FC.p3 IntKind.i64 (eN t).1)=(0:Nat)/\(3:Int)=(eN t).2/\True)/\True) (((aC t=true/\t.length<=(7:Nat))/\True)/\(bB t ((dp (aa t) (aZ t)).2)=(eN t).1/\(0:Int)=(eN t).2/\True)/\True)),by kernel_rfl,?_⟩
 simp only[aJ]at ξ⊢;refine⟨ξ,fun h=>by rw[N9 h];exact⟨rfl,rfl⟩,fun h=>⟨fun h7=>by rw[Oa h (by omega)];exact⟨rfl,rfl⟩,fun h7=>⟨⟨h,by omega⟩,?_⟩⟩⟩
 rw[Oc h (by omega),Xd (gN h) (by omega)]
 exact⟨rfl,rfl⟩
def FG:List AD->Option Post
 | [.c (.ints .u8 η)]=>some ⟨True,.c (.bool (decide (4096<(η.length:Int)))),[]⟩
 |_=>none
theorem W9:Fits Tryz.prog 18 ⟨[],FG⟩:=by
 refine ffv (Γ:=ah []) aI Tryz.func18 fun ds p h ξ=>?_
 unfold FG at h;split at h<;>cases h
 rename_i η
 refine⟨aj,ar,decide ((4096:Int)<(η.length:Int))=decide ((4096:Int)<(η.length:Int))/\True,by kernel_rfl,?_⟩
 simp only[aJ]at ξ⊢
def uH:List AD->Option Post
 | [.c (.ints .i64 a),.c (.ints .i64 b)]=>some ⟨am a.length,.c (.bool (decide (a=b))),[]⟩
 |_=>none
def Og(a:D1)(b:D1):Nat->Option Ann
 |0=>Q' fun i=>⟨⟨[(0,D' a),(1,D' b),(5,A' i)],[]⟩,i<=a.length/\a.length=b.length/\a.take i=b.take i,a.length-i⟩
 |_=>none
theorem Oi:Fits Tryz.prog 47 ⟨[],uH⟩:=by
 refine ffv (Γ:=ah []) aI Tryz.func47 fun ds p h ξ=>?_
 unfold uH at h;split at h<;>cases h
 rename_i a b
 refine⟨aj,Og a b,ab ((a.length:Int) != (b.length:Int)) (false=decide (a=b)/\True) ((∃x0:Nat,(x0<=a.length/\a.length=b.length/\List.take x0 a=List.take x0 b)/\a=a/\b=b/\(0:Int)=(x0:Int))/\∀x1:Nat,x1<=a.length/\a.length=b.length/\List.take x1 a=List.take x1 b->ab (decide ((x1:Int)<(a.length:Int))) (ac (x1:Int) a.length/\ac (x1:Int) b.length/\ab (a.getD (x1:Int).toNat (0:Int) != b.getD (x1:Int).toNat (0:Int)) (false=decide (a=b)/\True) (af ((x1:Int)+(1:Int))/\∃x2:Nat,(x2<=a.length/\a.length=b.length/\List.take x2 a=List.take x2 b)/\a.length-x2<a.length-x1/\a=a/\b=b/\(x1:Int)+(1:Int)=(x2:Int))) (true=decide (a=b)/\True)),by kernel_rfl,?_⟩
 simp only[aJ]at ξ⊢;refine⟨fun h=>?_,fun h=>⟨⟨0,⟨by omega,by omega,rfl⟩,by simp⟩,fun i hi=>⟨fun h1=>⟨by omega,by omega,fun h2=>?_,fun h2=>⟨by omega,i+1,⟨by omega,hi.2.1,?_⟩,by omega,by omega⟩⟩,fun h1=>?_⟩⟩⟩
 ·exact(Ae fun e=>h (by rw[e])).symm
 ·exact(Ae fun e=>h2 (by rw[e])).symm
 ·exact(wV a b 0 i (by omega) (by omega) hi.2.2).2 h2
 ·refine(Aa ?_).symm
  have:=hi.2.2
  rwa[AU (by omega),AU (by omega)]at this
theorem FJ{n:Nat}{a c:D2}(ha:aA n a)(hc:aA n c):bH n [a,c]:=fun k hk=>by
 have:k=0\/k=1:=by simp at hk;omega
 rcases this with rfl|rfl
 ·exact ha
 ·exact hc
theorem Oj{n:Nat}{a c a2 c2:D2}(hn:n<=12)(ha:aA n a)(hc:aA n c)(ha2:aA n a2)(hc2:aA n c2):iY [a,c] [a2,c2]:=by
 have e:bC [a,c]=n:=ha.1
 refine⟨by simp,rfl,by simp,by rw[e];omega,?_,fun _=>?_⟩<;>rw[e]
 ·exact yV (FJ ha hc)
 ·exact yV (FJ ha2 hc2)
end Go.Sx
