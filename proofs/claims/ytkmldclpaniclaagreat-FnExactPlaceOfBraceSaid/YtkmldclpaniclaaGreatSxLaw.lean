/- SxLaw -/
import Derived.Test.YtkmldclpaniclaaGreatNgA
import Derived.Test.YtkmldclpaniclaaGreatJoin
import Derived.Test.YtkmldclpaniclaaGreatBrcC
import Derived.Test.YtkmldclpaniclaaGreatSxZ
import Derived.ProofKit
import Derived.OpenShut
import Derived.Lib.SmallJoins
import Derived.Deep.Matrix
set_option linter.unusedSimpArgs false
set_option linter.unusedVariables false
section
open Go Go.Proofs
namespace Go.Sx
theorem J9{n:Int}(h1:1<=n)(h2:n<=7):(bv n).length<=4802:=by
 have a:=te (fun t=>bB t (bG t (ab t))) 2401 (aQ n) fun x hx=>(oY h1 h2 hx).1
 have:(aQ n).length*2401<=2*2401:=Nat.mul_le_mul_right _ (oX h1 h2).1
 rw[bv];omega
theorem kJ{n:Nat}{a c:V8}(ha:ay n a)(hc:ay n c):bt n [a,c]:=fun k hk=>by
 have:k=0\/k=1:=by simp at hk;omega
 rcases this with rfl|rfl
 ·exact ha
 ·exact hc
theorem Ka{n:Nat}{a c a2 c2:V8}(hn:n<=12)(ha:ay n a)(hc:ay n c)(ha2:ay n a2)(hc2:ay n c2):jB [a,c] [a2,c2]:=by
 have e:bu [a,c]=n:=ha.1
 refine⟨by simp,rfl,by simp,by rw[e];omega,?_,fun _=>?_⟩<;>rw[e]
 ·exact zn (kJ ha hc)
 ·exact zn (kJ ha2 hc2)
theorem Ui{n:Nat}{a c a2 c2:V8}(G:GrpT n a)(H:GrpT n a2)(hc:ay n c){p:V7}(h:isoL n [a,c] [a2,c2] p):p.getD 0 0=0:=by
 have hp:=G.pos
 have r:=h.rng 0 hp
 have m:=(h.g (kJ G.tb hc)).map 0 0 0 (by simp) hp hp
 simp only[List.getD_cons_zero]at m;have z:(en a 0 0).toNat=0:=G.z1 0 hp
 rw[z]at m;have l0:ap p 0<n:=by simp only[ap];omega
 have e:gM a2 (ap p 0) (ap p 0)=ap p 0:=by
  simp only[gM,ap];omega
 have:=H.can (ap p 0) (ap p 0) 0 l0 l0 hp (by rw[e,H.z2 _ l0])
 simp only[ap]at this;omega
theorem Uj{n:Nat}{a c a2 c2:V8}(hn:n<=12)(G:GrpT n a)(H:GrpT n a2)(hc:ay n c)(hc2:ay n c2):(cz [a,c] [a2,c2]=[]↔dB [a,c] [a2,c2] 1=[]):=by
 have e:nT [a,c]=n:=G.tb.1
 have e0:bu [a,c]=n:=G.tb.1
 have e2:nT [a2,c2]=n:=H.tb.1
 have e3:bu [a2,c2]=n:=H.tb.1
 have S:=(kh (Ka hn G.tb hc H.tb hc2)).1
 have M:dB [a,c] [a2,c2] 1=(d4 n [a,c] [a2,c2]).take 1:=by
  rw[dB,if_pos (by rw[e,e2]),e]
  exact yI (b:=[a2,c2]) (Yi:=1) (kJ G.tb hc) rfl G.pos (Nat.le_refl 1)
 rw[M,List.eq_nil_iff_forall_not_mem]
 constructor
 ·intro h
  cases hA:d4 n [a,c] [a2,c2]with
  |nil=>rfl
  |cons g l =>
   have:=((lA (kJ G.tb hc) G.pos).1 (by rw[hA];exact List.mem_cons_self (a:=g) (l:=l))).1
   exact absurd ((S g).2 ⟨by rw[e0,e3],by rw[e0];exact this⟩) (h g)
 ·intro h p hp
  have k:=((S p).1 hp).2
  rw[e0]at k;have m:=(lA (kJ G.tb hc) G.pos).2 ⟨k,Ui G H hc k⟩
  cases hA:d4 n [a,c] [a2,c2]with
  |nil=>rw[hA]at m;cases m
  |cons g l=>rw[hA]at h;cases h
theorem Kb{n:Int}(h1:1<=n)(h2:n<=7){q:V8×V8}(hq:q∈bv n):GrpT n.toNat q.1/\ay n.toNat q.2:=by
 obtain⟨t,ht,hq⟩:=List.mem_flatMap.1 hq;obtain⟨e,g⟩:=(oX h1 h2).2 t ht;have e':n.toNat=t.length:=by omega
 obtain⟨c,hc,rfl⟩:=List.mem_map.1 hq;have G:=js g
 rw[e'];exact⟨G,mK G (by omega) (List.mem_filter.1 hc).1⟩
theorem Kc{α:Type}(p:α->Bool)(z:α)(l:List α){i:Nat}(hi:i<l.length)(h:i<=l.findIdx p):(p (l.getD i z)=true->l.findIdx p=i)/\(p (l.getD i z)=false->i+1<=l.findIdx p):=by
 rw[bF l z i hi]
 constructor
 ·intro hp
  refine Nat.le_antisymm ?_ h
  exact Nat.le_of_not_lt fun hlt=>by
   have:=List.not_of_lt_findIdx hlt
   rw[hp]at this;cases this
 ·intro hp
  refine Nat.lt_of_le_of_ne h fun e=>?_
  have:=List.findIdx_getElem (p:=p) (xs:=l) (w:=by omega)
  simp only[<-e]at this;rw[hp]at this;cases this
def mg(a c:V8)(q:V8×V8):Bool:=!(cz [a,c] [q.1,q.2]).isEmpty
def g7(a c:V8):Nat:=(bv a.length).findIdx (mg a c)
def cS(a c:V8):Int×Int :=
 if cN a c=true then(if a.length<=7 then(if g7 a c<(bv a.length).length then((g7 a c:Int),0)else(0,4))else(0,3))else(0,1)
theorem Kd{a c:V8}(h:cN a c=false):cS a c=(0,1):=by simp[cS,h]
theorem Ke{a c:V8}(h:cN a c=true)(h7:7<a.length):cS a c=(0,3):=by simp[cS,h,show ¬ a.length<=7 by omega]
theorem Kf{a c:V8}(h:cN a c=true)(h7:a.length<=7){i:Nat}(hi:i<(bv a.length).length)(e:g7 a c=i):cS a c=((i:Int),0):=by
 rw[cS,if_pos h,if_pos h7,e,if_pos hi]
theorem Kg{a c:V8}(h:cN a c=true)(h7:a.length<=7)(e:(bv a.length).length<=g7 a c):cS a c=(0,4):=by
 rw[cS,if_pos h,if_pos h7,if_neg (by omega)]
theorem Kh{a c:V8}(h:cN a c=true):GrpT a.length a/\ay a.length c:=by
 obtain⟨x,y,z,_⟩:=OK h;have C:=(js y).tb
 rw[<-z]at C;exact⟨js x,C⟩
theorem Uk(l:V8):(bd (fun _ _=>false) [] l).2=l.isEmpty:=by
 cases l<;>simp[bd]
def uL(a:V8)(c:V8):Post:=⟨aM a/\aM c,.tup [.inl (.int .i64 (cS a c).1),.inl (.int .i64 (cS a c).2)],[]⟩
def CZ:List AD->Option Post
 | [.agg [.rows .i64 a,.rows .i64 c]]=>some (uL a c)
 |_=>none
def Ki(a:V8)(c:V8):Nat->Option Ann
 |0=>some (Ann.mk ((Nat)) (fun i=>⟨[(1,.c (.ptr 500 0)),(2,.c (.ptr 502 0)),(3,.c (.ptr 503 0)),(16,.c (.ro (.p3 .i64 (bv a.length)))),(17,.c (.int .i64 (((bv a.length).length:Int)))),(18,.c (.int .i64 ((i:Int))))],[(500,some (.box [.ro (.rows .i64 a),.ro (.rows .i64 c)])),(502,some (.box [.int .i64 0])),(503,some (.box [.int .i64 0]))]⟩) (fun i=>cN a c=true/\a.length<=7/\i<=g7 a c/\i<=(bv a.length).length) (fun i=>(bv a.length).length-i) (fun i=>fun b_=>match b_ with|2=>some (Ann.rf 2 (fun _ _=>false) (fun _ _=>True) [500,502,503,504] [(1,.c (.ptr 500 0)),(2,.c (.ptr 502 0)),(3,.c (.ptr 503 0)),(4,.c (.ptr 504 0)),(16,.c (.ro (.p3 .i64 (bv a.length)))),(17,.c (.int .i64 (((bv a.length).length:Int)))),(18,.c (.int .i64 ((i:Int))))] (fun pre=>[(500,some (.box [.ro (.rows .i64 a),.ro (.rows .i64 c)])),(502,some (.box [.int .i64 0])),(503,some (.box [.int .i64 0])),(504,some (.box [.int .i64 ((i:Int))]))]) (fun pre=>[(500,some (.box [.ro (.rows .i64 a),.ro (.rows .i64 c)])),(502,some (.box [.int .i64 ((i:Int))])),(503,some (.box [.int .i64 0])),(504,some (.box [.int .i64 ((i:Int))]))]))|_=>none))
 |_=>none
def Kj:List (Nat×Ctr):=[(36,⟨[],wg⟩),(74,⟨[],Ay⟩),(76,⟨[(0,93),(0,93)],oR⟩),(129,⟨[(0,93),(0,93)],oQ⟩)]
def jR(a:V8)(x0:Nat):=((bv (↑(a.length):Int)).getD (↑x0:Int).toNat (([]:V8),([]:V8)))
def uM(a:V8)(c:V8)(x0:Nat):=(cz (a::c::([]:V9)) ((jR a x0).1::(jR a x0).2::([]:V9)))
def gC(a:V8):=(bv (↑(a.length):Int))
def C0(a:V8)(c:V8):Prop :=
 (((aM a/\aM c)/\True)/\(ae (!cN a c) (((0:Int)=(cS a c).1/\(1:Int)=(cS a c).2/\True)/\True) (ae (decide ((7:Int)<(a.length:Int))) (((0:Int)=(cS a c).1/\(3:Int)=(cS a c).2/\True)/\True) ((((1:Int)<=(a.length:Int)/\(a.length:Int)<=(7:Int))/\True)/\((∃x0:Nat,(cN a c=true/\a.length<=(7:Nat)/\x0<=g7 a c/\x0<=(gC a).length)/\bv (a.length:Int)=bv (a.length:Int)/\(↑(FC.len (FC.p3 IntKind.i64 (gC a))):Int)=(↑((gC a).length):Int)/\(0:Int)=(x0:Int)/\a=a/\c=c/\(0:Int)=(0:Int)/\(0:Int)=(0:Int))/\(∀x1:Nat,(cN a c=true/\a.length<=(7:Nat)/\x1<=g7 a c/\x1<=(gC a).length->(ae (decide ((x1:Int)<(↑((bv (a.length:Int)).length):Int))) (aa (x1:Int) (gC a).length/\(True/\((∀p:V8,true=true/\true=true)/\((bv (a.length:Int)=bv (a.length:Int)/\(↑((gC a).length):Int)=(↑((gC a).length):Int)/\(x1:Int)=(x1:Int)/\a=a/\c=c/\(0:Int)=(0:Int)/\(0:Int)=(0:Int)/\(x1:Int)=(x1:Int)/\a::c::([]:V9)=a::c::([]:V9)/\(jR a x1).1::(jR a x1).2::([]:V9)=(jR a x1).1::(jR a x1).2::([]:V9))/\((∀p2:V8,(∀x3:V7,(True->(false=false/\(x3=x3/\(a=a/\(c=c/\((x1:Int)=(x1:Int)/\(((0:Int)=(0:Int)) /\
 ((x1:Int)=(x1:Int)))))))))))/\(∀Y4:YJ,((YJ.P Y4=Go.Proofs.Tryz.prog)->((YJ.e Y4=(2:Go.TypeId))->((YJ.go Y4=fun(x:V8) (x_1:V7)=>false)->((YJ.ok Y4=fun(x:V8) (x_1:V7)=>True)->(((jB (a::c::([]:V9)) ((jR a x1).1::(jR a x1).2::([]:V9)))/\((YJ.P Y4=Go.Proofs.Tryz.prog)/\((YJ.e Y4=(2:Go.TypeId))/\(d5 (YJ.ok Y4) (YJ.go Y4) ([]:V8) (uM a c x1)))))/\((Y4=Y4)/\((((bd (YJ.go Y4) ([]:V8) (uM a c x1)).2=true)->((ac ((x1:Int)+(1:Int)))/\(∃x5:Nat,(((cN a c=true)/\((a.length<=(7:Nat))/\((x5<=g7 a c)/\(x5<=(gC a).length))))/\(((gC a).length-x5<(gC a).length-x1)/\((bv (a.length:Int)=bv (a.length:Int))/\(((↑((gC a).length):Int)=(↑((gC a).length):Int))/\(((x1:Int)+(1:Int)=(x5:Int))/\((a=a)/\((c=c)/\(((0:Int)=(0:Int))/\((0:Int)=(0:Int)))))))))))))/\(((bd (YJ.go Y4) ([]:V8) (uM a c x1)).2=false)->((((x1:Int)=(cS a c).1)/\(((0:Int)=(cS a c).2)/\True))/\True))))))))))))))) ((((0:Int)=(cS a c).1)/\(((4:Int)=(cS a c).2)/\True))/\True)))))))))
theorem Ul(a:V8)(c:V8):aJ Tryz.prog (ai Kj) ak (Ki a c) Tryz.f33 (aE Tryz.f33) [] [.agg [.rows .i64 a,.rows .i64 c]] (uL a c)=C0 a c:=by kernel_rfl
theorem Um(a:V8)(c:V8)(Yh:(uL a c).pre):C0 a c:=by
 simp only[uL,C0,jR,uM,gC,aG,u1,u2,u3,u4,u5,u6,u7,u8,u9,v1,v2,v3,v4,v5,v6,v7,v8,v9,w1,w2,w3,w4,aH,aa,ac,af,ar]at Yh⊢;refine⟨Yh,fun h=>by rw[Kd h];exact⟨rfl,rfl⟩,fun h=>⟨fun h7=>by rw[Ke h (by omega)];exact⟨rfl,rfl⟩,fun h7=>?_⟩⟩
 obtain⟨G,tc⟩:=Kh h;have hp:=G.pos
 have h7:a.length<=7:=by omega
 refine⟨⟨by omega,by omega⟩,⟨0,⟨h,by omega,by omega,by omega⟩,?_⟩,fun i hh=>?_⟩
 ·exact⟨rfl,rfl⟩
 ·obtain⟨_,_,hi,hl⟩:=hh
  refine⟨fun hlt=>?_,fun hge=>by rw[Kg h h7 (by omega)];exact⟨rfl,rfl⟩⟩
  have hL:=J9 (n:=a.length) (by omega) (by omega)
  have hi1:i<(bv a.length).length:=by omega
  have F:=Kc (mg a c) ([],[]) (bv a.length) hi1 hi
  obtain⟨H,tc2⟩:=Kb (by omega) (by omega) (bM (bv a.length) ([],[]) i hi1)
  rw[Int.toNat_natCast]at H tc2;refine⟨by omega,fun _=>trivial,fun _ _ _=>trivial,fun Y q1 q2 q3 q4=>?_⟩
  rw[q3,q4,Uk];refine⟨⟨Ka (by omega) G.tb tc H.tb tc2,q1,q2,?_⟩,fun hv=>⟨by omega,i+1,⟨h,h7,F.2 ?_,by omega⟩,by omega,by omega⟩,fun hv=>?_⟩
  ·generalize cz [a,c] _=l
   cases l<;>simp[d5]
  ·rw[mg,hv];rfl
  ·rw[Kf h h7 hi1 (F.1 (by rw[mg,hv];rfl))];exact⟨rfl,rfl⟩
theorem Un:Fits Tryz.prog 33 ⟨[],CZ⟩:=by
 refine aO (Γ:=ai Kj) (aw ME (aw R4 (aw H4 (aw HT aF)))) Tryz.func33 fun ds p h hp=>?_
 unfold CZ at h;split at h
 ·cases h
  exact⟨ak,Ki _ _ ,by rw[Ul];exact Um _ _  hp⟩
 ·cases h
def uN(a:V8)(c:V8)(a2:V8)(c2:V8)(q:Bool):Post:=⟨1<=a.length/\a.length<=12/\ay a.length a/\ay a.length c/\ay a2.length a2/\ay a2.length c2,.c (.rows 62 2 .i64 (dB [a,c] [a2,c2] (if q=true then 1 else 1000000))),[]⟩
def C3:List AD->Option Post
 | [.agg [.rows .i64 a,.rows .i64 c],.agg [.rows .i64 a2,.rows .i64 c2],.c (.bool q)]=>some (uN a c a2 c2 q)
 |_=>none
def Kk:List (Nat×Ctr):=[(128,⟨[],sF⟩)]
def er(a:V8)(c:V8):=(a::c::([]:V9))
def C4(a:V8)(c:V8)(a2:V8)(c2:V8)(q:Bool):Prop :=
 (ae ((a.length:Int) != (a2.length:Int)) (([]:V8)=dB (er a c) (a2::c2::([]:V9)) (if q=true then(1:Int)else(1000000:Int))/\True) (ae q ((([(0:Int)]=[(0:Int)]/\(1:Nat)<=(er a c).length/\(er a c).length<=(1000:Nat)/\(a2::c2::([]:V9)).length=(er a c).length/\(1:Nat)<=nT (er a c)/\nT (er a c)<=(12:Nat)/\bt (nT (er a c)) (er a c)/\bt (nT (a2::c2::([]:V9))) (a2::c2::([]:V9))/\(1:Int)<=(1:Int)/\(1:Int)<=(1000000:Int))/\True)/\dB (er a c) (a2::c2::([]:V9)) (1:Int)=dB (er a c) (a2::c2::([]:V9)) (if q=true then(1:Int)else(1000000:Int))/\True) ((([(0:Int)]=[(0:Int)]/\(1:Nat)<=(er a c).length/\(er a c).length<=(1000:Nat)/\(a2::c2::([]:V9)).length=(er a c).length/\(1:Nat)<=nT (er a c)/\nT (er a c)<=(12:Nat)/\bt (nT (er a c)) (er a c)/\bt (nT (a2::c2::([]:V9))) (a2::c2::([]:V9))/\(1:Int)<=(1000000:Int)/\(1000000:Int)<=(1000000:Int))/\True) /\
 ((dB (er a c) (a2::c2::([]:V9)) (1000000:Int)=dB (er a c) (a2::c2::([]:V9)) (if q=true then(1:Int)else(1000000:Int)))/\True))))
theorem Uo(a:V8)(c:V8)(a2:V8)(c2:V8)(q:Bool):aJ Tryz.prog (ai Kk) ak am Tryz.f75 (aE Tryz.f75) [] [.agg [.rows .i64 a,.rows .i64 c],.agg [.rows .i64 a2,.rows .i64 c2],.c (.bool q)] (uN a c a2 c2 q)=C4 a c a2 c2 q:=by kernel_rfl
theorem Up(a:V8)(c:V8)(a2:V8)(c2:V8)(q:Bool)(Yh:(uN a c a2 c2 q).pre):C4 a c a2 c2 q:=by
 simp only[uN,C4,er,aG,u1,u2,u3,u4,u5,u6,u7,u8,u9,v1,v2,v3,v4,v5,v6,v7,v8,v9,w1,w2,w3,w4,aH,aa,ac,af,ar]at Yh⊢;obtain⟨h1,h2,h3,h4,h5,h6⟩:=Yh;have e:nT [a,c]=a.length:=rfl
 have e2:nT [a2,c2]=a2.length:=rfl
 refine⟨fun h=>?_,fun h=>?_⟩
 ·rw[dB,if_neg (by rw[e,e2];omega)]
 ·have T:bt (nT [a,c]) [a,c]:=kJ h3 h4
  have T2:bt (nT [a2,c2]) [a2,c2]:=kJ h5 h6
  exact⟨fun hq=>⟨⟨by omega,by omega,by omega,by omega,T,T2,by omega,by omega⟩,by rw[if_pos hq]⟩,fun hq=>⟨⟨by omega,by omega,by omega,by omega,T,T2,by omega,by omega⟩,by rw[hq];rfl⟩⟩
theorem Uq:Fits Tryz.prog 75 ⟨[],C3⟩:=by
 refine aO (Γ:=ai Kk) (aw Hi aF) Tryz.func75 fun ds p h hp=>?_
 unfold C3 at h;split at h
 ·cases h
  exact⟨ak,am,by rw[Uo];exact Up _ _ _ _ _  hp⟩
 ·cases h
def uO(a:V8)(c:V8):Post:=⟨aM a/\aM c,.tup [.inl (.int .i64 (cS a c).1),.inl (.int .i64 (cS a c).2)],[]⟩
def C5:List AD->Option Post
 | [.agg [.rows .i64 a,.rows .i64 c]]=>some (uO a c)
 |_=>none
def Kl(a:V8)(c:V8):Nat->Option Ann
 |1=>some (Ann.mk ((Nat)) (fun i=>⟨[(1,.c (.ptr 500 0)),(2,.c (.int .i64 0)),(3,.c (.int .i64 0)),(4,.c (.ro (.p3 .i64 (bv a.length)))),(5,.c (.int .i64 ((i:Int))))],[(500,some (.box [.ro (.rows .i64 a),.ro (.rows .i64 c)]))]⟩) (fun i=>cN a c=true/\a.length<=7/\i<=g7 a c/\i<=(bv a.length).length) (fun i=>(bv a.length).length-i) (fun _=>am))
 |_=>none
def Km:List (Nat×Ctr):=[(61,⟨[],wi⟩),(72,⟨[],AA⟩),(75,⟨[],C3⟩)]
def pE(a:V8)(x0:Nat):=((bv (↑(a.length):Int)).getD (↑x0:Int).toNat (([]:V8),([]:V8)))
def C6(a:V8)(c:V8):Prop :=
 (((aM a/\aM c)/\True)/\(ae (!cN a c) (((0:Int)=(cS a c).1/\(1:Int)=(cS a c).2/\True)/\True) (ae (decide ((7:Int)<(a.length:Int))) (((0:Int)=(cS a c).1/\(3:Int)=(cS a c).2/\True)/\True) ((((1:Int)<=(a.length:Int)/\(a.length:Int)<=(7:Int))/\True)/\((∃x0:Nat,(cN a c=true/\a.length<=(7:Nat)/\x0<=g7 a c/\x0<=(bv (a.length:Int)).length)/\(0:Int)=(0:Int)/\(0:Int)=(0:Int)/\bv (a.length:Int)=bv (a.length:Int)/\(0:Int)=(x0:Int)/\a=a/\c=c)/\(∀x1:Nat,(cN a c=true/\a.length<=(7:Nat)/\x1<=g7 a c/\x1<=(bv (a.length:Int)).length->(ae (decide ((x1:Int)<(↑((bv (a.length:Int)).length):Int))) (aa (x1:Int) ((bv (a.length:Int)).length)/\((((1:Nat)<=a.length/\a.length<=(12:Nat)/\ay a.length a/\ay a.length c/\ay (((pE a x1).1).length) (pE a x1).1/\ay (((pE a x1).1).length) (pE a x1).2)/\True)/\(ae (decide ((0:Int)<(↑((dB (a::c::([]:V9)) (((bv (a.length:Int)).getD (x1:Int).toNat (([]:V8),([]:V8))).1::((bv (a.length:Int)).getD (x1:Int).toNat (([]:V8),([]:V8))).2::([]:V9)) (if true=true then(1:Int)else(1000000:Int))).length):Int))) (((x1:Int)=(cS a c).1/\(0:Int)=(cS a c).2/\True)/\True) (ac ((x1:Int)+(1:Int))/\(∃x2:Nat,(((cN a c=true) /\
 ((a.length<=(7:Nat))/\((x2<=g7 a c)/\(x2<=(bv (a.length:Int)).length))))/\(((bv (a.length:Int)).length-x2<(bv (a.length:Int)).length-x1)/\(((0:Int)=(0:Int))/\(((0:Int)=(0:Int))/\((bv (a.length:Int)=bv (a.length:Int))/\(((x1:Int)+(1:Int)=(x2:Int))/\((a=a)/\(c=c))))))))))))) ((((0:Int)=(cS a c).1)/\(((4:Int)=(cS a c).2)/\True))/\True)))))))))
theorem Ur(a:V8)(c:V8):aJ Tryz.prog (ai Km) ak (Kl a c) Tryz.f31 (aE Tryz.f31) [] [.agg [.rows .i64 a,.rows .i64 c]] (uO a c)=C6 a c:=by kernel_rfl
theorem Us(a:V8)(c:V8)(Yh:(uO a c).pre):C6 a c:=by
 simp only[uO,C6,pE,aG,u1,u2,u3,u4,u5,u6,u7,u8,u9,v1,v2,v3,v4,v5,v6,v7,v8,v9,w1,w2,w3,w4,aH,aa,ac,af,ar]at Yh⊢;refine⟨Yh,fun h=>by rw[Kd h];exact⟨rfl,rfl⟩,fun h=>⟨fun h7=>by rw[Ke h (by omega)];exact⟨rfl,rfl⟩,fun h7=>?_⟩⟩
 obtain⟨G,tc⟩:=Kh h;have hp:=G.pos
 have h7:a.length<=7:=by omega
 refine⟨⟨by omega,by omega⟩,⟨0,⟨h,by omega,by omega,by omega⟩,?_⟩,fun i hh=>?_⟩
 ·rfl
 ·obtain⟨_,_,hi,hl⟩:=hh
  refine⟨fun hlt=>?_,fun hge=>by rw[Kg h h7 (by omega)];exact⟨rfl,rfl⟩⟩
  have hL:=J9 (n:=a.length) (by omega) (by omega)
  have hi1:i<(bv a.length).length:=by omega
  have F:=Kc (mg a c) ([],[]) (bv a.length) hi1 hi
  obtain⟨H,tc2⟩:=Kb (by omega) (by omega) (bM (bv a.length) ([],[]) i hi1)
  rw[Int.toNat_natCast]at H tc2;have M:=Uj (by omega) G H tc tc2
  have lq:=H.tb.1
  rw[if_pos trivial];refine⟨by omega,⟨hp,by omega,G.tb,tc,by rw[lq];exact H.tb,by rw[lq];exact tc2⟩,fun hv=>?_,fun hv=>⟨by omega,i+1,⟨h,h7,F.2 ?_,by omega⟩,by omega,by omega⟩⟩
  ·rw[Kf h h7 hi1 (F.1 ?_)]
   ·exact⟨rfl,rfl⟩
   ·have ne:cz [a,c] [((bv a.length).getD i ([],[])).1,((bv a.length).getD i ([],[])).2]≠[]:=fun hn=>by
     rw[M.1 hn]at hv;simp at hv
    rw[mg];cases hI:cz [a,c] [((bv a.length).getD i ([],[])).1,((bv a.length).getD i ([],[])).2]with
    |nil=>exact absurd hI ne
    |cons x l=>rfl
  ·have z:dB [a,c] [((bv a.length).getD i ([],[])).1,((bv a.length).getD i ([],[])).2] 1=[]:=List.length_eq_zero_iff.1 (by omega)
   rw[mg,M.2 z];rfl
theorem Ut:Fits Tryz.prog 31 ⟨[],C5⟩:=by
 refine aO (Γ:=ai Km) (aw MH (aw R7 (aw Uq aF))) Tryz.func31 fun ds p h hp=>?_
 unfold C5 at h;split at h
 ·cases h
  exact⟨ak,Kl _ _ ,by rw[Ur];exact Us _ _  hp⟩
 ·cases h
def uP(a:V8)(c:V8):Post:=⟨((a.length:Int)<=9223372036854775807/\(∀r∈a,(r.length:Int)<=9223372036854775807))/\((c.length:Int)<=9223372036854775807/\(∀r∈c,(r.length:Int)<=9223372036854775807)),.c (.bool true),[]⟩
def C7:List AD->Option Post
 | [.agg [.rows .i64 a,.rows .i64 c]]=>some (uP a c)
 |_=>none
def Ko:List (Nat×Ctr):=[(30,⟨[],ye⟩),(32,⟨[],yg⟩),(34,⟨[],yi⟩),(31,⟨[],C5⟩),(33,⟨[],CZ⟩)]
def C8(a:V8)(c:V8):Prop :=
 ((((a.length:Int)<=(9223372036854775807:Int)/\∀(r:V7),r∈a->(r.length:Int)<=(9223372036854775807:Int))/\((c.length:Int)<=(9223372036854775807:Int)/\∀(r:V7),r∈c->(r.length:Int)<=(9223372036854775807:Int))/\(0:Int)<=(1048576:Int)/\(1048576:Int)<=(1099511627776:Int))/\True)/\ae (decide (i4 a c (1048576:Int)<(0:Int))) (true=true/\True) (((aM a/\aM c)/\True)/\((aM a/\aM c)/\True)/\((aM a/\aM c)/\True)/\((aM a/\aM c)/\True)/\ae ((cS a c).1 != (cS a c).1) (false=true/\True) (ae ((cS a c).2 != (cS a c).2) (false=true/\True) (((aM a/\aM c)/\True)/\((aM a/\aM c)/\True)/\ae (!decide (a=a/\c=c)) (false=true/\True) (true=true/\True))))
theorem Uu(a:V8)(c:V8):aJ Tryz.prog (ai Ko) ak am Tryz.f6 (aE Tryz.f6) [] [.agg [.rows .i64 a,.rows .i64 c]] (uP a c)=C8 a c:=by kernel_rfl
theorem Uv(a:V8)(c:V8)(Yh:(uP a c).pre):C8 a c:=by
 simp only[uP,C8,aG,u1,u2,u3,u4,u5,u6,u7,u8,u9,v1,v2,v3,v4,v5,v6,v7,v8,v9,w1,w2,w3,w4,aH,aa,ac,af,ar]at Yh⊢;obtain⟨⟨a1,a2⟩,b1,b2⟩:=Yh;refine⟨⟨⟨a1,a2⟩,⟨b1,b2⟩,by omega,by omega⟩,fun _=>trivial,fun h=>?_⟩
 obtain⟨e1,e2,e3,d1,d2,d3⟩:=Pz h;simp[e3,d3]
theorem Uw:Fits Tryz.prog 6 ⟨[],C7⟩:=by
 refine aO (Γ:=ai Ko) (aw Ps (aw Pv (aw Py (aw Ut (aw Un aF))))) Tryz.func6 fun ds p h hp=>?_
 unfold C7 at h;split at h
 ·cases h
  exact⟨ak,am,by rw[Uu];exact Uv _ _  hp⟩
 ·cases h
end Go.Sx
end
section
namespace Go.Sx
open Go.ChangeShapes Go.WideShapes Go.ChangeAt Go.RowKit Go.ChangeMaps Go.Deep
def Kp(n:Int):Prop:=-9223372036854775808<=n/\n<=9223372036854775807
theorem wf_i64'{n:Int}(h:(Lit.int .i64 n).wf=true):Kp n:=by
 simp only[Lit.wf,Bool.and_eq_true,decide_eq_true_eq]at h;exact h
theorem Ux:maxLen=9223372036854775807:=rfl
section
variable {H:Type} {enc:TypeId×Value->H} {P:Program} {W:World}
def C9(P:Program)(W:World)(t:TypeId)(v:Value)(d:FC):Prop:=v.oneCell'=true/\bp W v d
theorem Kq{t e q:TypeId}{fuel:Nat}{v:Value}{x:DataW H×List MemPlace}(ht:P.underlying t=some (.slice e))(he:P.underlying e=some (.slice q))(hq:P.underlying q=some (.int .i64))
  (ce:P.cellsOf e=1) (cq:P.cellsOf q=1) (h:DataW.trod enc P W 0 (fun _=>true) true fuel t [v]=some x) :
  ∃l:V8,l.length<=maxLen/\(∀r∈l,r.length<=maxLen/\∀n∈r,Kp n)/\C9 P W t v (.rows .i64 l):=by
 rcases open_int_rows ht he hq ce cq h with⟨h1,_⟩|⟨a,len,cap,A,L,Cc,Z,h1,_,hl,hm,_,hrow⟩
 ·simp only[List.cons.injEq,and_true]at h1
  subst h1;exact⟨[],Nat.zero_le _,by simp,rfl,none,0,rfl,Nat.le_refl _,fun h=>by simp at h⟩
 ·simp only[List.cons.injEq,and_true]at h1
  subst h1;refine⟨(List.range len).map fun r=>(Z r).take (L r),by simp;omega,?_,rfl,some a,cap,by simp,by simpa using hl,fun hpos=>?_⟩
  ·intro r hr
   simp only[List.mem_map,List.mem_range]at hr;obtain⟨j,hj,rfl⟩:=hr;obtain⟨_,k2,k3,k4,k5,_⟩:=hrow j (by omega)
   exact⟨by simp;omega,fun n hn=>wf_i64' (k5 n (List.mem_of_mem_take hn))⟩
  ·simp only[List.length_map,List.length_range]at hpos
   obtain⟨b,off,spot⟩:=a;have hs:spot=none:=by simpa[Addr.add]using World.cell?_spot (hrow 0 (by omega)).1
   subst hs;refine⟨b,off,rfl,fun i hi=>?_⟩
   simp only[List.length_map,List.length_range]at hi;obtain⟨k1,k2,k3,k4,k5,k6,k7⟩:=hrow i (by omega)
   refine⟨_,by rw[<-add_plain];exact k1,?_⟩
   have hget:((List.range len).map fun r=>(Z r).take (L r)).getD i []=(Z i).take (L i):=by
    simp[List.getD_eq_getElem?_getD,hi]
   show f4 W .i64 _ _
   rw[hget];have hlen:((Z i).take (L i)).length=L i:=by simp;omega
   refine⟨A i,Cc i,by rw[hlen],by rw[hlen];exact k2,fun hp=>?_⟩
   rw[hlen]at hp;cases hA:A i with
   |none=>have:=k6 hA;omega
   |some a' =>
    obtain⟨_,hc⟩:=k7 a' hA;obtain⟨b',off',spot'⟩:=a';have hs:spot'=none:=by simpa[Addr.add]using World.cell?_spot (hc 0 (by omega))
    subst hs;refine⟨b',off',rfl,fun j hj=>?_⟩
    rw[hlen]at hj;refine⟨_,by rw[<-add_plain];exact hc j (by omega),?_⟩
    simp[List.getD_eq_getElem?_getD,List.getElem?_take,hj]
theorem Uy{t:TypeId}{v0 v1:Value}{t0 t1:TypeId}{d0 d1:FC}(h0:C9 P W t0 v0 d0)(h1:C9 P W t1 v1 d1)(i:Nat):db P W [] [] [] i (.agg [d0,d1]) (.agg #[v0,v1]) :=
 ⟨_,rfl,rfl,fun j d hj=>match j,hj with
  |0,hj=>by cases hj;exact⟨v0,rfl,h0.1,h0.2⟩
  |1,hj=>by cases hj;exact⟨v1,rfl,h1.1,h1.2⟩
  |j+2,hj=>by simp at hj⟩
theorem Kr(hl:laidOutB P=true){W':World}(hb:Below W.heap.size W W'):∀{ts:List TypeId} {vs:List Value} {ds:List (DataW H)} {p:List MemPlace},(∀t∈ts,P.readableRec t=true/\t<P.types.size) ->
  DataW.TrodAll enc P W 0 (fun _=>true) true ts vs ds p->(∀x∈p,x.block<W.heap.size)->DataW.TrodAll enc P W' 0 (fun b=>decide (b<W.heap.size)) true ts vs ds p
 | [],[],[],p,_,h,_=>h
 |t::ts,v::vs,d::ds,p,ht,h,hlt=>by
  obtain⟨p1,p2,h1,h2,rfl⟩:=h;exact⟨p1,p2,Below.trod hl (ht t (by simp)).1 (ht t (by simp)).2 h1 hb (fun x hx=>hlt x (by simp[hx])),Kr hl hb (fun t' h'=>ht t' (by simp[h'])) h2 (fun x hx=>hlt x (by simp[hx])),rfl⟩
 | [],[],_::_,_,_,h,_=>h.elim
 | [],_::_,[],_,_,h,_=>h.elim
 | [],_::_,_::_,_,_,h,_=>h.elim
 |_::_,[],[],_,_,h,_=>h.elim
 |_::_,[],_::_,_,_,h,_=>h.elim
 |_::_,_::_,[],_,_,h,_=>h.elim
theorem Ks{W:World}{base:Nat}{sp:Nat->Bool}{hd:Bool}:∀{ts:List TypeId} {vs:List Value} {ds:List (DataW H)} {p:List MemPlace},DataW.TrodAll enc P W base sp hd ts vs ds p->vs.length=ts.length/\ds.length=ts.length
 | [],[],[],_,_=>⟨rfl,rfl⟩
 |t::ts,v::vs,d::ds,p,h=>by
  obtain⟨p1,p2,_,h2,_⟩:=h;have:=Ks h2
  simp[this.1,this.2]
 | [],[],_::_,_,h=>h.elim
 | [],_::_,[],_,h=>h.elim
 | [],_::_,_::_,_,h=>h.elim
 |_::_,[],[],_,h=>h.elim
 |_::_,[],_::_,_,h=>h.elim
 |_::_,_::_,[],_,h=>h.elim
end
theorem Uz{C:Checked}{os:Os}{H:Type}{enc:TypeId×Value->H}{f:FuncId}{fn:Func}{s:ChangeSpec}{conds:List PathCond}{kN handsOn:Bool}{tb:TypeId}
  (own:ownKnob C.prog.godebug=none) (started:os.Started) (noInit:C.prog.inits.idxOf? f=none) (hfn:C.prog.funcs[f]?=some fn) (hlaid:laidOutB C.prog=true)
  (hvars:s.vars=[]) (hrd:∀t∈fn.params.toList,C.prog.readableRec t=true/\t<C.prog.types.size) (hres:fn.resultTypes=#[tb]) (htb:C.prog.underlying tb=some .bool)
  (hspec:∀ds:List (DataW H),ds.length=fn.params.toList.length->s.fn H ds={ results:=[.lit (.bool true)],args:=ds,vars:=[] })
  (witness:∃(w:World) (tape:Tape) (i:Input),w.os=os/\(w.forCall tape i).Shaped C.prog/\i.vars=[]/\Input.okWide C.prog (w.forCall tape i) .any w.heap.size f i /\
   s.pre6 enc C.prog fn conds false (w.forCall tape i).memory i.args/\({}:Assume).holds C.prog (lone (Frame.enter C.prog f i.args .normal) [] (w.forCall tape i)))
  {ct:List AD->Option Post} (fits:Fits C.prog f ⟨[],ct⟩)
  (hopen:∀(W:World) (base:Nat) (vs:List Value) (ds:List (DataW H)) (p:List MemPlace),DataW.TrodAll enc C.prog W 0 (fun _=>true) true fn.params.toList vs ds p ->
   (∀(j:Nat) t v,fn.params[j]?=some t->vs[j]?=some v->Value.okWide C.prog W .any base t v) ->
   ∃(ads:List AD) (pre:Prop),ct ads=some ⟨pre,.c (.bool true),[]⟩/\pre/\vs.length=ads.length/\∀(i:Nat) (d:AD),ads[i]?=some d->∃v,vs[i]?=some v/\db C.prog W [] [] [] i d v) :
  ReturnsInHanded {} C os f .any (s.pre6 enc C.prog fn conds false) (s.post enc C.prog fn false kN handsOn false):=by
 refine returnsInHanded_of_change own started noInit hfn witness ?_
 intro W base args ds gs before hval hW _ _
 have hW':=hW
 obtain⟨p,q,hA,hV,rfl,hfz,hnd⟩:=hW;rw[hvars]at hV;obtain⟨rfl,rfl⟩:=trodVars_none hV;obtain⟨ads,pre,h1,h2,h3,h4⟩:=hopen W base args.toList ds p hA (fun j t v ht hv=>hval j t v ht (by simpa using hv))
 have hrun:=fits.run W W args.toList ads _ [] [] h1 h2 h3 rfl rfl rfl (by simp) (by simp) (by simp) (fun q u hq=>⟨hq,by simp⟩) h4
 refine hrun.mono fun e W' ⟨v,ms',img,wG,he,haft,hms,_,_,hret⟩=>?_
 subst he;have hv:v=.bool true:=hret.val
 subst hv;have hB:Below W.heap.size W W':=haft.below
 have hlt:∀x∈p,x.block<W.heap.size:=fun x hx=>by simpa using hW'.lt x (by simp[hx])
 have hsp:=hspec ds (Ks hA).2
 refine⟨_,rfl,ds,[],p++[],[],p,[],hW',?_,?_,?_,hB.frame _,fun h=>by cases h⟩
 ·rw[List.append_nil,hsp,hres]
  exact trodAll_cons_mk (shut_bool htb _) trodAll_mk0
 ·rw[List.append_nil,hsp]
  exact Kr hlaid hB hrd hA hlt
 ·rw[List.append_nil,hsp,hvars]
  rfl
end Go.Sx
end
