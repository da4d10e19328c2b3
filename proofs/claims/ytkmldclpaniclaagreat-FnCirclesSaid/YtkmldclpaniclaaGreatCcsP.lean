/- CcsP -/
import Derived.Test.YtkmldclpaniclaaGreatBrdA
import Derived.Test.YtkmldclpaniclaaGreatPlcP
set_option linter.unusedSimpArgs false
set_option linter.unusedVariables false
set_option linter.defProp false
open Go Go.Proofs
namespace Go.Sx
def yg(η:D1)(d:Dr):Int:=bz η d.2.1 d.2.2 24
def l7(η:D1)(d:Dr):Int:=bu η.length d.2.1 24
def jW(d:Dr):Int:=bU d.2.2 24
def pv(η:D1)(d:Dr):Int:=bz η (l7 η d) (jW d) (d.1.length:Int)
def Sh(η:D1)(d:Dr):Int:=bz η (bu η.length (l7 η d) (d.1.length:Int)) (bU (jW d) (d.1.length:Int)) (d.1.length:Int)
def Si(η:D1)(d:Dr):Int:=bz η (bu η.length (bu η.length (l7 η d) (d.1.length:Int)) (d.1.length:Int)) (bU (bU (jW d) (d.1.length:Int)) (d.1.length:Int)) ((d.1.length:Int)+1)
def rM(η:D1)(d:Dr):D1×Int×Int:=bo η (bu η.length (l7 η d) (d.1.length:Int)) (bU (jW d) (d.1.length:Int)) d.1.length
def kQ(η:D1)(d:Dr):Dr :=
 if yg η d=0 then(d.1.set (pv η d).toNat (rM η d).1,(rM η d).2)
 else if yg η d=1 then(d.1.set (pv η d).toNat ((d.1.getD (pv η d).toNat []).set (Sh η d).toNat (Si η d)),
  bu η.length (bu η.length (bu η.length (l7 η d) (d.1.length:Int)) (d.1.length:Int)) ((d.1.length:Int)+1),bU (bU (bU (jW d) (d.1.length:Int)) (d.1.length:Int)) ((d.1.length:Int)+1))
 else if yg η d=2 then(d.1.drop 1,l7 η d,jW d)
 else(d.1,l7 η d,jW d)
def fa(η:D1)(a h ζ:Int):Dr:=kQ η (bN η a h ζ)
theorem Js{η:D1}(hb:cO η){a h ζ:Int}(h0:0<=a)(h1:a<=(η.length:Int))(h2:1<=ζ)(h3:ζ<=8):nG η ζ.toNat (bN η a h ζ) :=
 RJ hb (I4 hb h0 h1 h2 h3).1
theorem Sj{η:D1}(hb:cO η){m:Nat}{d:Dr}(h:nG η m d)(hm:m<=8):aS (kQ η d).1:=by
 obtain⟨k1,k2,k3,k4,k5⟩:=h;have R:=E7 k3 (by omega)
 have s:=il (n:=24) k4 k5
 have s2:=il (n:=(d.1.length:Int)) s.1 s.2
 unfold kQ;split
 ·refine⟨by rw[Ak];exact R.1,fun r hr=>?_⟩
  rcases Cp hr with hr|rfl
  ·exact R.2 r hr
  ·have:=(pE hb (h:=bU (jW d) (d.1.length:Int)) s2.1 s2.2 d.1.length).1
   show(bo η (bu η.length (bu η.length d.2.1 24) (d.1.length:Int)) (bU (jW d) (d.1.length:Int)) d.1.length).1.length<=_
   rw[this];omega
 ·split
  ·refine⟨by rw[Ak];exact R.1,fun r hr=>?_⟩
   rcases Cp hr with hr|rfl
   ·exact R.2 r hr
   ·rw[Ak]
    by_cases q:(pv η d).toNat<d.1.length
    ·exact R.2 _ (bI _ [] _ q)
    ·rw[AP,BQ (by omega)];simp
  ·split
   ·have dl:(d.1.drop 1).length<=d.1.length:=by rw[BG];omega
    exact⟨Ar dl R.1,fun r hr=>R.2 r (List.mem_of_mem_drop hr)⟩
   ·exact R
def yh:List AD->Option Post
 | [.box [.ints .u8 η,.int .i64 a,.int .u64 h],.c (.int .i64 ζ)]=>some ⟨cO η/\η.length<=4096/\0<=a/\a<=(η.length:Int)/\1<=ζ/\ζ<=8,.agg [.ro (.rows .i64 (fa η a h ζ).1)],[.bx [.ints .u8 η,.int .i64 ((fa η a h ζ).2.1),.int .u64 ((fa η a h ζ).2.2)]]⟩
 |_=>none
def dL(η:D1)(a:Int)(h:Int)(ζ:Int):=(↑(((bN η a h ζ).1).length):Int)
def l8(η:D1)(a:Int)(h:Int)(ζ:Int):=(bu η.length (((bN η a h ζ).2).1) (24:Int))
def l9(η:D1)(a:Int)(h:Int)(ζ:Int):=(bz η (l8 η a h ζ) (bU (((bN η a h ζ).2).2) (24:Int)) (dL η a h ζ))
def jt(η:D1)(a:Int)(h:Int)(ζ:Int):=(bu η.length (l8 η a h ζ) (dL η a h ζ))
def kR(η:D1)(a:Int)(h:Int)(ζ:Int):=(bU (bU (((bN η a h ζ).2).2) (24:Int)) (dL η a h ζ))
theorem Sm:Fits Tryz.prog 132 ⟨[(0,0)],yh⟩:=by
 refine ffv (Γ:=ah [(77,⟨[(0,0)],pC⟩),(151,⟨[(0,0)],xN⟩),(183,⟨[(0,0)],sO⟩)]) (aw zn (aw RN (aw KM aI))) Tryz.func132 fun ds p h ξ=>?_
 unfold yh at h;split at h<;>cases h
 rename_i η a h ζ
 refine⟨aj,ar,((cO η/\η.length<=(4096:Nat)/\(0:Int)<=a/\a<=(η.length:Int)/\(1:Int)<=ζ/\ζ<=(8:Int))/\η=η/\True)/\((cO η/\(0:Int)<=((bN η a h ζ).2).1/\((bN η a h ζ).2).1<=(1099511627776:Int))/\η=η/\True)/\ab (bz η (((bN η a h ζ).2).1) (((bN η a h ζ).2).2) (24:Int) == (0:Int)) (((cO η/\(0:Int)<=bu η.length (((bN η a h ζ).2).1) (24:Int)/\bu η.length (((bN η a h ζ).2).1) (24:Int)<=(1099511627776:Int))/\η=η/\True)/\((cO η/\(0:Int)<=bu η.length (l8 η a h ζ) (dL η a h ζ)/\bu η.length (l8 η a h ζ) (dL η a h ζ)<=(η.length:Int)/\η.length<=(4096:Nat)/\(0:Int)<=(dL η a h ζ)/\(dL η a h ζ)<=(144:Int))/\η=η/\True)/\ac (l9 η a h ζ) (((bN η a h ζ).1).length)/\(List.set (bN η a h ζ).1 (l9 η a h ζ).toNat ((bo η (jt η a h ζ) (kR η a h ζ) (dL η a h ζ).toNat).1)=(fa η a h ζ).1/\True)/\(η=η/\((bo η (jt η a h ζ) (kR η a h ζ) (dL η a h ζ).toNat).2).1=((fa η a h ζ).2).1/\((bo η (jt η a h ζ) (kR η a h ζ) (dL η a h ζ).toNat).2).2=((fa η a h ζ).2).2/\True)/\True) (ab (bz η (((bN η a h ζ).2).1) (((bN η a h ζ).2).2) (24:Int) == (1:Int)) (((cO η/\(0:Int)<=bu η.length (((bN η a h ζ).2).1) (24:Int)/\bu η.length (((bN η a h ζ).2).1) (24:Int)<=(1099511627776:Int))/\η=η/\True)/\ac (l9 η a h ζ) (((bN η a h ζ).1).length)/\((cO η/\(0:Int)<=bu η.length (l8 η a h ζ) (dL η a h ζ)/\bu η.length (l8 η a h ζ) (dL η a h ζ)<=(1099511627776:Int))/\η=η/\True)/\af ((dL η a h ζ)+(1:Int))/\((cO η/\(0:Int)<=bu η.length (jt η a h ζ) (dL η a h ζ)/\bu η.length (jt η a h ζ) (dL η a h ζ)<=(1099511627776:Int))/\η=η/\True)/\ac (bz η (jt η a h ζ) (kR η a h ζ) (dL η a h ζ)) ((((bN η a h ζ).1).getD (l9 η a h ζ).toNat []).length)/\(List.set (bN η a h ζ).1 (l9 η a h ζ).toNat (List.set (((bN η a h ζ).1).getD (l9 η a h ζ).toNat []) ((bz η (jt η a h ζ) (kR η a h ζ) (dL η a h ζ)).toNat) (bz η (bu η.length (jt η a h ζ) (dL η a h ζ)) (bU (kR η a h ζ) (dL η a h ζ)) ((dL η a h ζ)+(1:Int))))=(fa η a h ζ).1/\True)/\(η=η/\bu η.length (bu η.length (jt η a h ζ) (dL η a h ζ)) ((dL η a h ζ)+(1:Int))=((fa η a h ζ).2).1/\bU (bU (kR η a h ζ) (dL η a h ζ)) ((dL η a h ζ)+(1:Int))=((fa η a h ζ).2).2/\True)/\True) (ab (bz η (((bN η a h ζ).2).1) (((bN η a h ζ).2).2) (24:Int) == (2:Int)) (bM (((bN η a h ζ).1).length) (Option.some (1:Int)) Option.none/\(List.take (((bN η a h ζ).1).length-(1:Int).toNat) (List.drop (1:Nat) (bN η a h ζ).1)=(fa η a h ζ).1/\True)/\(η=η/\bu η.length (((bN η a h ζ).2).1) (24:Int)=((fa η a h ζ).2).1/\bU (((bN η a h ζ).2).2) (24:Int)=((fa η a h ζ).2).2/\True)/\True) (((bN η a h ζ).1=(fa η a h ζ).1/\True)/\(η=η/\bu η.length (((bN η a h ζ).2).1) (24:Int)=((fa η a h ζ).2).1/\bU (((bN η a h ζ).2).2) (24:Int)=((fa η a h ζ).2).2/\True)/\True))),by kernel_rfl,?_⟩
 simp only[dL,l8,l9,jt,kR,aJ]at ξ⊢;obtain⟨hb,hc,h0,h1,h2,h3⟩:=ξ;have L:=Js hb (h:=h) h0 h1 h2 h3
 have e:fa η a h ζ=kQ η (bN η a h ζ):=rfl
 rw[e];generalize bN η a h ζ=d at *
 obtain⟨k1,k2,k3,k4,k5⟩:=L;have s:=il (n:=24) k4 k5
 have s2:=il (n:=(d.1.length:Int)) s.1 s.2
 have s3:=il (n:=(d.1.length:Int)) s2.1 s2.2
 have I:=mh hb (bu η.length d.2.1 24) (bU d.2.2 24) (n:=(d.1.length:Int)) (by omega)
 have J:=mh hb (bu η.length (bu η.length d.2.1 24) (d.1.length:Int)) (bU (bU d.2.2 24) (d.1.length:Int)) (n:=(d.1.length:Int)) (by omega)
 refine⟨⟨hb,hc,h0,h1,h2,h3⟩,⟨hb,k4,by omega⟩,fun z=>?_,fun z=>⟨fun z2=>?_,fun z2=>⟨fun z3=>?_,fun z3=>?_⟩⟩⟩
 ·rw[show kQ η d=(d.1.set (pv η d).toNat (rM η d).1,(rM η d).2) from AA z]
  exact⟨⟨hb,s.1,by omega⟩,⟨hb,s2.1,s2.2,hc,by omega,by omega⟩,by omega,rfl,rfl,rfl⟩
 ·rw[show kQ η d=_ from(AB z).trans (AA z2)]
  have row:=(k3.2 (bz η (bu η.length d.2.1 24) (bU d.2.2 24) (d.1.length:Int)).toNat (by omega)).1
  exact⟨⟨hb,s.1,by omega⟩,by omega,⟨hb,s2.1,by omega⟩,by omega,⟨hb,s3.1,by omega⟩,by rw[row];omega,rfl,rfl,rfl⟩
 ·rw[show kQ η d=_ from(AB z).trans ((AB z2).trans (AA z3))]
  exact⟨by omega,AU (by simp),rfl,rfl⟩
 ·rw[show kQ η d=_ from(AB z).trans ((AB z2).trans (AB z3))]
  exact⟨rfl,rfl,rfl⟩
def ak(η:D1):D2:=(fa η 0 (gu η η.length) 8).1
theorem Sn{η:D1}(hb:cO η):aS (ak η):=Sj hb (Js hb (by omega) (by omega) (by omega) (by omega)) (by decide)
def yj:List AD->Option Post
 | [.c (.ints .u8 η)]=>some ⟨cO η/\η.length<=4096,.agg [.ro (.rows .i64 ((ak η)))],[]⟩
 |_=>none
theorem Sq:Fits Tryz.prog 84 ⟨[],yj⟩:=by
 refine ffv (Γ:=ah [(78,⟨[],zo⟩),(132,⟨[(0,0)],yh⟩)]) (aw T5 (aw Sm aI)) Tryz.func84 fun ds p h ξ=>?_
 unfold yj at h;split at h<;>cases h
 rename_i η
 refine⟨aj,ar,((cO η/\η.length<=(4096:Nat))/\True)/\((cO η/\η.length<=(4096:Nat)/\(0:Int)<=(0:Int)/\(0:Int)<=(η.length:Int)/\(1:Int)<=(8:Int)/\(8:Int)<=(8:Int))/\η=η/\True)/\((fa η (0:Int) (gu η η.length) (8:Int)).1=ak η/\True)/\True,by kernel_rfl,?_⟩
 simp only[aJ]at ξ⊢;obtain⟨hb,hc⟩:=ξ;exact⟨⟨hb,hc⟩,⟨hb,hc,by omega,by omega,by omega,by omega⟩,rfl⟩
def yl:List AD->Option Post
 | [.c (.ints .u8 η)]=>some ⟨cO η/\η.length<=4096,.agg [.ro (.rows .i64 ((ak η)))],[]⟩
 |_=>none
theorem Su:Fits Tryz.prog 41 ⟨[],yl⟩:=by
 refine ffv (Γ:=ah [(84,⟨[],yj⟩)]) (aw Sq aI) Tryz.func41 fun ds p h ξ=>?_
 unfold yl at h;split at h<;>cases h
 rename_i η
 refine⟨aj,ar,((cO η/\η.length<=(4096:Nat))/\True)/\(ak η=ak η/\True)/\True,by kernel_rfl,?_⟩
 simp only[aJ]at ξ⊢;exact ξ
def yn:List AD->Option Post
 | [.agg [.rows .i64 t]]=>some ⟨aS t/\aC t=true/\t.length<=7,.tup [.inl (.rows 62 2 .i64 (aa t)),.inl (.int .i64 0)],[]⟩
 |_=>none
theorem Sy:Fits Tryz.prog 46 ⟨[],yn⟩:=by
 refine ffv (Γ:=ah [(53,⟨[],ow⟩),(87,⟨[],nI⟩)]) (aw uy (aw sG aI)) Tryz.func46 fun ds p h ξ=>?_
 unfold yn at h;split at h<;>cases h
 rename_i t
 refine⟨aj,ar,(aS t/\True)/\ab (!aC t) ((([]:D2)=aa t/\(1:Int)=(0:Int)/\True)/\True) ((((1:Nat)<=t.length/\iY (t::([]:D3)) (t::([]:D3))/\(bF (t::([]:D3)) (t::([]:D3))).length<=(1000000000:Nat))/\True)/\(bF (t::([]:D3)) (t::([]:D3))=aa t/\(0:Int)=(0:Int)/\True)/\True),by kernel_rfl,?_⟩
 simp only[aJ]at ξ⊢;obtain⟨h1,h2,h3⟩:=ξ;have G:=gN h2
 have hA:=iq G h3
 have e:=iO G h3
 exact⟨h1,fun h=>(by rw[h2]at h;cases h),fun _=>⟨⟨G.pos,jX G h3,by rw[e];omega⟩,e⟩⟩
def Jx(fr:D3)(tt:D3):SV:=.fn 129 [.ptr 400 0,.ptr 401 0]
def Jy(fr:D3)(tt:D3):List MA:=[]
def Jz(fr:D3)(tt:D3):List (Nat×Ob):=[(400,(.box [.ro (.r3 .i64 fr)])),(401,(.box [.ro (.r3 .i64 tt)]))]
def rR(fr:D3)(tt:D3):Post:=⟨True,.st (Jx fr tt) (Jz fr tt) (Jy fr tt),[]⟩
def rS:List AD->Option Post
 | [.ma (.m (.c (.r3 .i64 fr))),.ma (.m (.c (.r3 .i64 tt)))]=>some (rR fr tt)
 |_=>none
def JA:List (Nat×Ctr):=[]
def yr(fr:D3)(tt:D3):Prop :=
 fr=fr/\tt=tt
theorem Sz(fr:D3)(tt:D3):kN Tryz.prog (ah JA) aj ar Tryz.f76 (aF Tryz.f76) [.m (.c (.r3 .i64 fr)),.m (.c (.r3 .i64 tt))] (Jx fr tt) (gD 0 (Jy fr tt)++g4 (Jz fr tt))=yr fr tt:=by kernel_rfl
theorem SA(fr:D3)(tt:D3)(ξ:(rR fr tt).pre):yr fr tt:=by
 simp only[rR,yr,aJ]at ξ⊢
theorem SB:Fits Tryz.prog 76 ⟨[(0,93),(0,93)],rS⟩:=by
 refine nA (Γ:=ah JA) aI Tryz.func76 (by kernel_rfl) (by kernel_rfl) (fun ads p h=>?_) fun mas q sv ex outs h hq=>?_
 ·unfold rS at h
  split at h
  ·cases h;rfl
  ·cases h
 ·unfold rS at h
  split at h
  ·rename_i heq
   have heq:=lY (l:=[_,_]) heq
   subst heq;unfold rR at h;cases h;exact⟨aj,ar,by rw[Sz];exact SA _ _  hq⟩
  ·cases h
def rT(a:D2)(c:D2):Post:=⟨aS a/\aS c/\gx a c=true/\(bF [a,c] [a,c]).length<=1000000000,.tup [.inl (.int .i64 (((bF [a,c] [a,c]).length:Int))),.inl (.int .i64 0)],[]⟩
def yt:List AD->Option Post
 | [.agg [.rows .i64 a,.rows .i64 c]]=>some (rT a c)
 |_=>none
def JB(a:D2)(c:D2):Nat->Option Ann
 |1005=>some (Ann.mk ((Unit)) (fun u=>⟨[(1,M' 500),(4,I' ([a,c])),(5,M' 5)],[(500,P' [.ro (.rows .i64 a),.ro (.rows .i64 c)]),(5,P' [.int .i64 0])]⟩) (fun u=>True) (fun u=>0) (fun _=>ar))
 |0=>some (Ann.rf 2 (fun _ _=>true) (fun pre x=>pre.length<1000000000) [500,501] [(1,.c (.ptr 500 0)),(4,.c (.ro (.r3 .i64 ([a,c])))),(5,.c (.ptr 501 0))] (fun pre=>[(500,some (.box [.ro (.rows .i64 a),.ro (.rows .i64 c)])),(501,some (.box [.int .i64 ((pre.length:Int))]))]) (fun pre=>[(500,some (.box [.ro (.rows .i64 a),.ro (.rows .i64 c)])),(501,some (.box [.int .i64 ((pre.length:Int))]))]))
 |_=>none
def JC:List (Nat×Ctr):=[(36,⟨[],se⟩),(76,⟨[(0,93),(0,93)],rS⟩),(129,⟨[(0,93),(0,93)],pU⟩)]
def mc(a:D2)(c:D2):=(bF (a::c::([]:D3)) (a::c::([]:D3)))
def yu(a:D2)(c:D2):Prop :=
 ((((aS a)/\(aS c))/\True)/\(ab (!gx a c) ((((0:Int)=(↑((mc a c).length):Int))/\(((1:Int)=(0:Int))/\True))/\True) ((∃x0:Unit,(True/\((a::c::([]:D3)=a::c::([]:D3))/\((a=a)/\((c=c)/\((0:Int)=(0:Int)))))))/\(∀x1:Unit,(True->(True/\((∀p:D2,(true=true/\true=true))/\(((a::c::([]:D3)=a::c::([]:D3))/\((a=a)/\((c=c)/\(((0:Int)=(0:Int))/\((a::c::([]:D3)=a::c::([]:D3))/\(a::c::([]:D3)=a::c::([]:D3)))))))/\((∀p2:D2,(∀x3:D1,((p2.length<(1000000000:Nat))->((af ((↑(p2.length):Int)+(1:Int)))/\((true=true)/\((x3=x3)/\((a=a)/\((c=c)/\((↑(p2.length):Int)+(1:Int)=(↑((p2++x3::([]:D2)).length):Int))))))))))/\(∀Y4:YJ,((YJ.P Y4=Go.Proofs.Tryz.prog)->((YJ.e Y4=(2:Go.TypeId))->((YJ.go Y4=fun(x:D2) (x_1:D1)=>true)->((YJ.ok Y4=fun(pre:D2) (x:D1)=>pre.length<(1000000000:Nat))->(((iY (a::c::([]:D3)) (a::c::([]:D3)))/\((YJ.P Y4=Go.Proofs.Tryz.prog)/\((YJ.e Y4=(2:Go.TypeId))/\(eI (YJ.ok Y4) (YJ.go Y4) ([]:D2) (mc a c)))))/\((Y4=Y4)/\((((ba (YJ.go Y4) ([]:D2) (mc a c)).2=true) ->
 ((((↑(((ba (YJ.go Y4) ([]:D2) (mc a c)).1).length):Int)=(↑((mc a c).length):Int))/\(((0:Int)=(0:Int))/\True))/\True))/\(((ba (YJ.go Y4) ([]:D2) (mc a c)).2=false)->(False)))))))))))))))))))
theorem SD(a:D2)(c:D2):aM Tryz.prog (ah JC) aj (JB a c) Tryz.f48 (aF Tryz.f48) [] [.agg [.rows .i64 a,.rows .i64 c]] (rT a c)=yu a c:=by kernel_rfl
theorem SE(a:D2)(c:D2)(ξ:(rT a c).pre):yu a c:=by
 simp only[rT,yu,mc,aJ]at ξ⊢;obtain⟨r1,r2,h,hl⟩:=ξ;obtain⟨g1,g2,e,_⟩:=UG h;have C:=(gN g2).tb
 rw[<-e]at C;have P:=Oj (iN (kV g1)).2.1 (gN g1).tb C (gN g1).tb C
 refine⟨⟨r1,r2⟩,fun q=>(by rw[h]at q;cases q),fun _=>⟨⟨(),trivial⟩,fun _ _=>⟨fun _=>trivial,fun p _ hp=>⟨by omega,by omega⟩,fun Y q1 q2 q3 q4=>?_⟩⟩⟩
 rw[q3,q4,yZ];exact⟨⟨P,q1,q2,y8 1000000000 _ [] (fun pre' x _ hp=>hp) (by simpa using hl)⟩,fun _=>by simp,fun h=>by cases h⟩
theorem SF:Fits Tryz.prog 48 ⟨[],yt⟩:=by
 refine aU (Γ:=ah JC) (aw JV (aw SB (aw Ng aI))) Tryz.func48 fun ds p h hp=>?_
 unfold yt at h;split at h
 ·cases h
  exact⟨aj,JB _ _ ,by rw[SD];exact SE _ _  hp⟩
 ·cases h
def rV:List AD->Option Post
 | [.c (.rows .i64 a),.c (.rows .i64 b)]=>some ⟨aS a,.c (.bool (decide (a=b))),[]⟩
 |_=>none
def JD(a:D2)(b:D2):Nat->Option Ann
 |0=>Q' fun i=>⟨⟨[(0,G' a),(1,G' b),(5,A' i)],[]⟩,i<=a.length/\a.length=b.length/\a.take i=b.take i,a.length-i⟩
 |_=>none
theorem JF:Fits Tryz.prog 39 ⟨[],rV⟩:=by
 refine ffv (Γ:=ah [(47,⟨[],uH⟩)]) (aw Oi aI) Tryz.func39 fun ds p h ξ=>?_
 unfold rV at h;split at h<;>cases h
 rename_i a b
 refine⟨aj,JD a b,ab ((a.length:Int) != (b.length:Int)) (false=decide (a=b)/\True) ((∃x0:Nat,(x0<=a.length/\a.length=b.length/\List.take x0 a=List.take x0 b)/\a=a/\b=b/\(0:Int)=(x0:Int))/\∀x1:Nat,x1<=a.length/\a.length=b.length/\List.take x1 a=List.take x1 b->ab (decide ((x1:Int)<(a.length:Int))) (ac (x1:Int) a.length/\ac (x1:Int) b.length/\(am ((a.getD (x1:Int).toNat []).length)/\True)/\ab (!decide (a.getD (x1:Int).toNat []=b.getD (x1:Int).toNat [])) (false=decide (a=b)/\True) (af ((x1:Int)+(1:Int))/\∃x2:Nat,(x2<=a.length/\a.length=b.length/\List.take x2 a=List.take x2 b)/\a.length-x2<a.length-x1/\a=a/\b=b/\(x1:Int)+(1:Int)=(x2:Int))) (true=decide (a=b)/\True)),by kernel_rfl,?_⟩
 simp only[aJ]at ξ⊢;have hk:=ξ.1
 refine⟨fun h=>(Ae fun e=>h (by rw[e])).symm,fun h=>⟨⟨0,⟨by omega,by omega,rfl⟩,rfl⟩,fun i ⟨hi,hl,he⟩=>⟨fun g=>⟨by omega,by omega,ξ.2 _ (bI a [] i (by omega)),fun q=>(Ae fun e=>q (by rw[e])).symm,fun q=>⟨by omega,i+1,⟨by omega,hl,(wV a b [] i (by omega) (by omega) he).2 q⟩,by omega,by omega⟩⟩,fun g=>?_⟩⟩⟩
 rw[AU (by omega),AU (by omega)]at he
 exact(Aa he).symm
def yx:List AD->Option Post
 | [.c (.r3 .i64 a),.c (.r3 .i64 b)]=>some ⟨uA a,.c (.bool (decide (a=b))),[]⟩
 |_=>none
def JG(a:D3)(b:D3):Nat->Option Ann
 |0=>Q' fun i=>⟨⟨[(0,I' a),(1,I' b),(5,A' i)],[]⟩,i<=a.length/\a.length=b.length/\a.take i=b.take i,a.length-i⟩
 |_=>none
theorem SK:Fits Tryz.prog 44 ⟨[],yx⟩:=by
 refine ffv (Γ:=ah [(39,⟨[],rV⟩)]) (aw JF aI) Tryz.func44 fun ds p h ξ=>?_
 unfold yx at h;split at h<;>cases h
 rename_i a b
 refine⟨aj,JG a b,ab ((a.length:Int) != (b.length:Int)) (false=decide (a=b)/\True) ((∃x0:Nat,(x0<=a.length/\a.length=b.length/\List.take x0 a=List.take x0 b)/\a=a/\b=b/\(0:Int)=(x0:Int))/\∀x1:Nat,x1<=a.length/\a.length=b.length/\List.take x1 a=List.take x1 b->ab (decide ((x1:Int)<(a.length:Int))) (ac (x1:Int) a.length/\ac (x1:Int) b.length/\(aS (a.getD (x1:Int).toNat ([]:D2))/\True)/\ab (!decide (a.getD (x1:Int).toNat ([]:D2)=b.getD (x1:Int).toNat ([]:D2))) (false=decide (a=b)/\True) (af ((x1:Int)+(1:Int))/\∃x2:Nat,(x2<=a.length/\a.length=b.length/\List.take x2 a=List.take x2 b)/\a.length-x2<a.length-x1/\a=a/\b=b/\(x1:Int)+(1:Int)=(x2:Int))) (true=decide (a=b)/\True)),by kernel_rfl,?_⟩
 simp only[aJ]at ξ⊢;have hk:=ξ.1
 refine⟨fun h=>(Ae fun e=>h (by rw[e])).symm,fun h=>⟨⟨0,⟨by omega,by omega,rfl⟩,rfl⟩,fun i ⟨hi,hl,he⟩=>⟨fun g=>⟨by omega,by omega,ξ.2 _ (bI a [] i (by omega)),fun q=>(Ae fun e=>q (by rw[e])).symm,fun q=>⟨by omega,i+1,⟨by omega,hl,(wV a b [] i (by omega) (by omega) he).2 q⟩,by omega,by omega⟩⟩,fun g=>?_⟩⟩⟩
 rw[AU (by omega),AU (by omega)]at he
 exact(Aa he).symm
/- A group's table by its laws. -/
theorem SM{n:Nat}{t:D2}(h:aA n t)(h1:1<=n)(h2:n<=12):cj t=true:=by
 have e:=h.1
 rw[cj,AL,Ab,AW];refine⟨by omega,fun r hr=>?_⟩
 obtain⟨x,hx,rfl⟩:=Aw hr;have row:=h.2 x (by omega)
 have ex:=bv t [] x hx
 rw[ex]at row;rw[dX,AL,Ab,dK,AW];refine⟨by omega,fun v hv=>?_⟩
 obtain⟨y,hy,rfl⟩:=Aw hv;have q:=row.2 y (by omega)
 rw[en,ex,bv _ 0 y hy]at q;rw[Ab];omega
theorem rX{n:Nat}{t:D2}(h:aA n t){x y:Nat}(hx:x<n)(hy:y<n):en t x y=(gM t x y:Int):=by
 have:=(h.2 x hx).2 y hy
 simp only[gM];omega
theorem SN{t:D2}(G:GrpT t.length t)(hn:t.length<=12):aC t=true:=by
 have tb:=G.tb
 have E:=fun {x y} (hx:x<t.length) (hy:y<t.length)=>rX tb hx hy
 rw[aC,SM tb G.pos hn,A9,AL,AW,AW]
 constructor
 ·intro r hr
  obtain⟨x,hx,rfl⟩:=Aw hr;have row:=tb.2 x hx
  have ex:=bv t [] x hx
  rw[cP,Ab];rw[ex]at row;have get:∀y (hy:y<t[x].length),t[x][y]=(gM t x y:Int):=fun y hy=>by
   rw[<-E hx (by omega),en,ex,bv _ 0 y hy]
  refine⟨fun v hv=>?_,BD.2 fun i j h1 h2 hij e=>?_⟩
  ·obtain⟨y,hy,rfl⟩:=Aw hv
   have:=G.lt hx (show y<t.length by omega)
   rw[get y hy];omega
  ·rw[get i h1,get j h2]at e
   have:=G.can x i j hx (by omega) (by omega) (by omega)
   omega
 ·intro x hx
  have hx:=Af.1 hx
  rw[fZ,AL,iS,AL,Ab,Ab,nW,AW];refine⟨⟨?_,?_⟩,fun y hy=>?_⟩
  ·rw[E G.pos hx,G.z1 x hx]
  ·rw[E hx G.pos,G.z2 x hx]
  ·have hy:=Af.1 hy
   rw[gR,AW];intro z hz
   have hz:=Af.1 hz
   rw[iR,Ab,E hx hy,E hy hz,Am,Am,E (G.lt hx hy) hz,E hx (G.lt hy hz),G.asc x y z hx hy hz]
theorem JI(x:Int):∀(l:D1) (k:Nat),x∈l->∃i:Nat,aY x l k=((k+i:Nat):Int)/\i<l.length/\l.getD i 0=x
 | [],_,h=>by cases h
 |y::l,k,h=>by
  rw[aY];by_cases e:y=x
  ·exact⟨0,by simp[e],by simp,by simp[e]⟩
  ·obtain⟨i,h1,h2,h3⟩:=JI x l (k+1) ((AG.1 h).resolve_left fun q=>e q.symm)
   refine⟨i+1,?_,by simp;omega,by simpa using h3⟩
   rw[AB e];have:((k:Int)+1)=((k+1:Nat):Int):=by omega
   rw[this,h1];omega
theorem SO{t:D2}(G:GrpT t.length t){x:Nat}(hx:x<t.length):(bk t x).toNat<t.length/\gM t x (bk t x).toNat=0:=by
 obtain⟨y,hy,e⟩:=G.inv x hx;have row:=G.tb.2 x hx
 have m:(0:Int)∈t.getD x []:=by
  have q:(t.getD x []).getD y 0=0:=by
   have:=rX G.tb hx hy
   rw[e]at this;exact this
  rw[<-q];exact bI _ 0 y (by omega)
 obtain⟨i,h1,h2,h3⟩:=JI 0 (t.getD x []) 0 m;have h1:bk t x=((0+i:Nat):Int):=h1
 rw[h1,Am,AJ];exact⟨by omega,by rw[gM,en,h3];rfl⟩
theorem rY{α:Type}{n:Nat}{q:Nat->Option α}(h:∀i,i<n->q i=none):∀k,k<=n->dU n q k=none
 |0,_=>rfl
 |k+1,hk=>by rw[dU,h _ (by omega),rY h k (by omega)];rfl
theorem SP{t:D2}(hg:aC t=true)(hn:t.length<=7){c:D2}(hc:c∈bw t (aa t)):gx t c=true:=by
 have G:=gN hg
 obtain⟨L,hL,rfl⟩:=(pq G hn).1 hc;have tc:=ry G hn hL
 have I:=fun x (hx:x<t.length)=>(fH G hn).1 (hL.mem x hx)
 have lt:=fun x y (hx:x<t.length) (hy:y<t.length)=>(I x hx).p.lt hy
 have E:∀x y,x<t.length->y<t.length->gM (dM t L) x y=gM t x (ap (L.getD x []) y):=fun x y hx hy=>po G hx hy
 have F:∀x y z,x<t.length->y<t.length->z<t.length->ap (L.getD (gM t x (ap (L.getD x []) y)) []) z=ap (L.getD x []) (ap (L.getD y []) z):=fun x y z hx hy hz=>by
  rw[show L.getD (gM t x (ap (L.getD x []) y)) []=aE (L.getD y []) (L.getD x []) from hL.fit x y hx hy,ie (I y hy).p hz]
 have M:∀x y z,x<t.length->y<t.length->z<t.length->ap (L.getD x []) (gM t y z)=gM t (ap (L.getD x []) y) (ap (L.getD x []) z):=fun x y z hx hy hz=>jv G (I x hx) hy hz
 have A:=fun x y (hx:x<t.length) (hy:y<t.length)=>G.lt hx hy
 have C:∀x y,x<t.length->y<t.length->gM (dM t L) x y<t.length:=fun x y hx hy=>by rw[E x y hx hy];exact A _ _ hx (lt x y hx hy)
 have e:=tc.1
 have H:GrpT (dM t L).length (dM t L):=by
  rw[e];refine⟨tc,G.pos,fun x hx=>?_,fun x hx=>?_,fun x y z hx hy hz=>?_,fun x y z hx hy hz q=>?_,fun x hx=>?_⟩
  ·rw[E 0 x G.pos hx,IM G hn hL,rx hx];exact G.z1 x hx
  ·rw[E x 0 hx G.pos,gO G (I x hx)];exact G.z2 x hx
  ·have k:=A x _ hx (lt x y hx hy)
   rw[E x y hx hy,E _ z k hz,F x y z hx hy hz,E y z hy hz,E x _ hx (A y _ hy (lt y z hy hz)),M x y _ hx hy (lt y z hy hz)];exact G.asc x _ _ hx (lt x y hx hy) (lt x _ hx (lt y z hy hz))
  ·rw[E x y hx hy,E x z hx hz]at q
   exact(I x hx).p.inj hy hz (G.can x _ _ hx (lt x y hx hy) (lt x z hx hz) q)
  ·obtain⟨y,hy,e⟩:=G.inv x hx
   obtain⟨k,hk,rfl⟩:=(I x hx).p.onto hy;exact⟨k,hk,by rw[E x k hx hk];exact e⟩
 rw[gx,hg,SN H (by omega),Aa e.symm,Bool.and_self,Bool.and_self,A9]
 have:eW t (dM t L)=none:=rY (fun x hx=>rY (fun y hy=>rY (fun z hz=>?_) _ (AE _)) _ (AE _)) _ (AE _)
 ·rw[this];rfl
 ·obtain⟨hi,hxi⟩:=SO G hx
  have u:=lt x y hx hy
  have v:=lt x z hx hz
  rw[nX,AA];generalize (bk t x).toNat=i at hi hxi⊢
  have ix:gM t i x=0:=G.can x _ _ hx (A i x hi hx) G.pos (by rw[<-G.asc x i x hx hi hx,hxi,G.z1 x hx,G.z2 x hx])
  have D:=fun {x y} (hx:x<t.length) (hy:y<t.length)=>rX G.tb hx hy
  have K:=fun {x y} (hx:x<t.length) (hy:y<t.length)=>rX tc hx hy
  rw[D hy hz,K hx hy,K hx hz,Am,Am,Am,K hx (A y z hy hz),D (C x y hx hy) hi,Am,D (A _ i (C x y hx hy) hi) (C x z hx hz)];rw[E x _ hx (A y z hy hz),M x y z hx hy hz,E x y hx hy,E x z hx hz,G.asc _ i _ (A x _ hx u) hi (A x _ hx v),<-G.asc i x _ hi hx v,ix,G.z1 _ v,G.asc x _ _ hx u v]
section
variable {n:Nat} {t:D2}
theorem SQ(G:GrpT n t)(hn:n<=7){c:D2}(hc:c∈bw t (aa t)){x:Nat}(hx:x<n):c.getD x []∈bE t (aa t) n 0:=by
 obtain⟨L,hL,rfl⟩:=(pq G hn).1 hc;have I:=(fH G hn).1 (hL.mem x hx)
 rw[bE,AI];refine .inl (Aj.2 ⟨x,by simpa using hx,AH.2 ⟨L.getD x [],hL.mem x hx,?_⟩⟩)
 rw[dM,G.tb.1,pm _ _ _ hx];refine ic (by rw[fL,I.len,ep]) fun y hy=>?_
 rw[fL,I.len]at hy;rw[fK (by rw[I.len];exact hy),er _ _ _ hy];rfl
theorem JJ(t A:D2):∀a,(bE t A a 0).length=a*A.length
 |0=>by simp[bE]
 |a+1=>by
  have h:=JJ t A a
  rw[<-LV];simp only[bE,Ag,List.take_zero,Cq,Bn,Bc,Bh,AR]at h⊢;rw[h,BW,Nat.one_mul]
/- Counting pairs. -/
theorem JK{α β:Type}(R:α->β->Bool){f:α}{A:List α}:∀O:List β,(∀s∈O,R f s=false)->(O.map fun d=>(f::A).countP fun f=>R f d).sum=(O.map fun d=>A.countP fun f=>R f d).sum
 | [],_=>rfl
 |s::O,h=>by
  have ih:=JK R (f:=f) (A:=A) O fun d hd=>h d (AO _ hd)
  rw[Ax,Ax,Bt,Bt,ih,Dq (p:=fun f=>R f s) (by rw[h s AX];simp)]
theorem JL{α β:Type}(R:α->β->Bool){f:α}{A:List α}{r:β}(hr:R f r=true):∀O:List β,O.Nodup->r∈O->(∀s∈O,R f s=true->s=r)->(O.map fun d=>(f::A).countP fun f=>R f d).sum=(O.map fun d=>A.countP fun f=>R f d).sum+1
 | [],_,h,_=>by cases h
 |s::O,nd,h,hu=>by
  rw[AZ]at nd;rw[Ax,Ax,Bt,Bt];rcases AG.1 h with rfl|h
  ·rw[List.countP_cons_of_pos (p:=fun f=>R f r) hr,JK R O fun d hd=>by
    cases e:R f d with
    |false=>rfl
    |true=>exact absurd (hu d (AO _ hd) e ▸ hd) nd.1]
   omega
  ·rw[JL R hr O nd.2 h fun d hd=>hu d (AO _ hd),Dq (p:=fun f=>R f s) fun e=>nd.1 (hu s AX e ▸ h)]
   omega
theorem yz{α β:Type}(R:α->β->Bool){O:List β}(hO:O.Nodup):∀A:List α,(∀f∈A,∃r∈O,R f r=true/\∀s∈O,R f s=true->s=r)->(O.map fun d=>A.countP fun f=>R f d).sum=A.length
 | [],_=>by
  have:∀O:List β,(O.map fun d=>([]:List α).countP fun f=>R f d).sum=0:=fun O=>by
   induction O with
   |nil=>rfl
   |cons d O ih=>rw[Ax,Bt,ih];rfl
  exact this O
 |f::A,h=>by
  obtain⟨r,h1,h2,h3⟩:=h f AX;rw[JL R h2 O hO h1 h3,yz R hO A fun g hg=>h g (AO _ hg)];rfl
theorem JM{β:Type}(F:β->Nat)(k:Nat):∀O:List β,(∀d∈O,F d=k)->(O.map F).sum=O.length*k
 | [],_=>by simp
 |d::O,h=>by
  rw[Ax,Bt,JM F k O fun d hd=>h d (AO _ hd),h d AX,AS,BW];omega
theorem JN{X Y:D2}(h:D1->D1)(hX:X.Nodup)(hm:∀x∈X,h x∈Y)(hi:∀x∈X,∀y∈X,h x=h y->x=y):X.length<=Y.length:=by
 have:=jz (a:=X.map h) (b:=Y) (BE.2 (BZ (fun {x y} hx hy hne e=>hne (hi x hx y hy e)) hX)) fun z hz=>by
  obtain⟨x,hx,rfl⟩:=AH.1 hz;exact hm x hx
 rwa[AR]at this
theorem JO{p q g:D1}(hp:IsP n p)(hq:IsP n q)(hg:IsP n g)(e:aE p g=aE q g):p=q:=by
 refine ic (by rw[hp.len,hq.len]) fun i hi=>?_
 rw[hp.len]at hi;have a:=ie (q:=g) hp hi
 rw[e,ie hq hi]at a;rw[hp.int hi,hq.int hi,hg.inj (hq.lt hi) (hp.lt hi) a]
def ju(n:Nat)(t c:D2):Nat:=(aa t).countP fun f=>decide (bn c f n=c)
theorem SR(G:GrpT n t)(hn:n<=7){c:D2}(tc:aA n c){g:D1}(hg:g∈aa t):(aa t).countP (fun f=>decide (bn c f n=bn c g n))=ju n t c:=by
 have nd:=mq G hn
 have P:=fun {f} (hf:f∈aa t)=>iy G hn hf
 rw[ju,Cr,Cr];refine Nat.le_antisymm (JN (fun f=>aE f (b6 g)) (nd.filter _) (fun f hf=>?_) fun f hf k hk e=>?_) (JN (fun f=>aE f g) (nd.filter _) (fun f hf=>?_) fun f hf k hk e=>?_)
 ·obtain⟨h1,h2⟩:=An.1 hf
  have h2:bn c f n=bn c g n:=by simpa using h2
  refine An.2 ⟨pZ G hn h1 (oB G hn hg),?_⟩
  rw[<-qa G hn h1 (oB G hn hg) tc,h2,p9 G hn hg tc];simp
 ·exact JO (P (An.1 hf).1) (P (An.1 hk).1) (P hg).bk e
 ·obtain⟨h1,h2⟩:=An.1 hf
  have h2:bn c f n=c:=by simpa using h2
  refine An.2 ⟨pZ G hn h1 hg,?_⟩
  rw[<-qa G hn h1 hg tc,h2];simp
 ·exact JO (P (An.1 hf).1) (P (An.1 hk).1) (P hg) e
def pz(n:Nat)(t d c:D2):Bool:=(aa t).any fun f=>decide (bn c f n=d)
theorem rZ{d c:D2}:pz n t d c=true↔∃f∈aa t,bn c f n=d:=by simp[pz]
theorem ST(G:GrpT n t){c:D2}(tc:aA n c):bn c (cF n) n=c:=(fY tc (xh n)).uniq (xh n) (ImO.un tc)
theorem JP(G:GrpT n t)(hn:n<=7){c:D2}(tc:aA n c):1<=ju n t c :=
 List.countP_pos_iff.2 ⟨cF n,FM G hn,by rw[ST G tc];simp⟩
theorem SU(G:GrpT n t)(hn:n<=7){c:D2}(hc:c∈bw t (aa t)):(bw t (aa t)).countP (fun d=>pz n t d c)=(aa t).length / ju n t c:=by
 have tc:=kj G hn hc
 have h:=yz (fun f d=>decide (bn c f n=d)) (O:=(bw t (aa t)).filter fun d=>pz n t d c) ((xk G hn).filter _) (aa t) fun f hf =>
  ⟨bn c f n,An.2 ⟨FL G hn hf hc,rZ.2 ⟨f,hf,rfl⟩⟩,by simp,fun s _ e=>by simpa using Eq.symm (Bz e)⟩
 rw[JM _ (ju n t c) _ fun d hd=>by
  obtain⟨g,hg,rfl⟩:=rZ.1 (An.1 hd).2;exact SR G hn tc hg]at h
 rw[Cr,<-h,Nat.mul_div_cancel _ (JP G hn tc)]
theorem JQ{A:D2}{c:D2}(tc:aA n c)(hA:∀f∈A,IsP n f):i4 A c=true↔∀f∈A,eA c (bn c f n)<=0:=by
 rw[i4,AW,tc.1];refine forall_congr' fun f=>forall_congr' fun hf=>?_
 have tf:=(fY tc (hA f hf)).tb
 have h:=nD (bn c f n) c (by rw[tf.1,tc.1])
 have an:=dO.anti c (bn c f n)
 cases hb:ca (bn c f n) c with
 |false =>
  rw[hb]at h;have:¬ eA (bn c f n) c<0:=fun q=>by cases h.2 q
  simp;omega
 |true =>
  have:=h.1 hb
  simp;omega
theorem SW(G:GrpT n t)(hn:n<=7):((oA t (aa t)).map fun c=>(aa t).length / ju n t c).sum=(bw t (aa t)).length:=by
 have P:=fun f (hf:f∈aa t)=>iy G hn hf
 have h:=yz (fun d c=>pz n t d c) (O:=oA t (aa t)) ((xk G hn).filter _) (bw t (aa t)) fun d hd=>?_
 ·rw[<-h]
  congr 1
  exact Bk fun c hc=>(SU G hn (An.1 hc).1).symm
 ·have td:=kj G hn hd
  obtain⟨m,hm,hmin⟩:=FK ((aa t).map fun f=>bn d f n) (by
   intro h0
   have:=FM G hn
   rw[List.map_eq_nil_iff]at h0;rw[h0]at this;cases this)
  obtain⟨f,hf,rfl⟩:=AH.1 hm;have tm:=(fY td (P f hf)).tb
  refine⟨bn d f n,An.2 ⟨FL G hn hf hd,(JQ tm P).2 fun g hg=>?_⟩,rZ.2 ⟨b6 f,oB G hn hf,p9 G hn hf td⟩,fun s hs hsd=>?_⟩
  ·rw[qa G hn hf hg td]
   exact hmin _ (AH.2 ⟨aE f g,pZ G hn hf hg,rfl⟩)
  ·obtain⟨hs1,hs2⟩:=An.1 hs
   have ts:=kj G hn hs1
   obtain⟨g,hg,rfl⟩:=rZ.1 hsd;have a:=(JQ ts P).1 hs2 (aE g f) (pZ G hn hg hf)
   rw[<-qa G hn hg hf ts]at a;have b:=hmin _ (AH.2 ⟨b6 g,oB G hn hg,rfl⟩)
   rw[p9 G hn hg ts]at b;have an:=dO.anti s (bn (bn s g n) f n)
   exact(dO.zero _ _).1 (by omega)
theorem SX(G:GrpT n t)(hn:n<=7){c:D2}(tc:aA n c):(bF [t,c] [t,c]).length=ju n t c:=by
 have K:=kS (Oj (by omega) G.tb tc G.tb tc)
 have e:bC [t,c]=n:=G.tb.1
 have M:∀p,p∈bF [t,c] [t,c]↔p∈(aa t).filter fun f=>decide (bn c f n=c):=fun p=>by
  rw[K.1 p,e,An,fH G hn,Ab]
  constructor
  ·rintro⟨_,k⟩
   have P:=k.p
   have g:=(k.g (FJ G.tb tc)).map
   refine⟨IY G P fun x y hx hy=>?_,?_⟩
   ·have:=g 0 x y (by simp) hx hy
    simp only[CM]at this;exact(A4 Int.toNat this).symm
   ·refine(fY tc P).uniq P ⟨tc,fun x y hx hy=>?_⟩
    have m:=g 1 x y (by simp) hx hy
    simp only[CX,CM]at m;have r:=P.rng (gM c x y) (jU tc hx hy)
    have m':en c (ap p x) (ap p y)=((p.getD (gM c x y) 0).toNat:Int):=m
    omega
  ·rintro⟨k,h⟩
   have P:=k.p
   refine⟨rfl,P.len,P.rng,P.nd,fun i x y hi hx hy hv=>?_⟩
   rcases(show i=0\/i=1 by simp at hi;omega)with rfl|rfl
   ·exact k.ok 0 x y (by simp) hx hy hv
   ·rw[P.len]at hx hy
    have I:=fY tc P
    rw[h]at I;exact(I.eq x y hx hy).symm
 rw[ju,Cr];exact Nat.le_antisymm (jz (oc K.2) fun p hp=>(M p).1 hp) (jz ((mq G hn).filter _) fun p hp=>(M p).2 hp)
end
end Go.Sx
