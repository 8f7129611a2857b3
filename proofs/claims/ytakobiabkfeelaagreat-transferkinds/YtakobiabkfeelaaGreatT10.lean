/- A part of a proof: an abstract machine, proved sound, or contracts of functions. No condition. -/
import Derived.Deep.RegionLaw
import Derived.Test.YtakobiabkfeelaaGreatProg
import Derived.Laws.IdiomRangeMap
import Derived.WalkLawsBesides
import Derived.Recover
import Derived.Test.YtakobiabkfeelaaGreatT9
set_option linter.unusedVariables false
set_option linter.unusedSimpArgs false
set_option linter.defProp false
set_option maxRecDepth 100000
set_option maxHeartbeats 4000000
namespace Abs
open Go Go.Proofs
structure Fd where
 df:Int
 site:Int
 kind:Int
 deriving DecidableEq
def fx(x:Fd):au:= .agg [it x.df,it x.site,it x.kind]
structure Wk where
 nx:Fa
 th:Fa
 ths:Int
 wR:Int
 fd:List Fd
 ps:List Pa
 us:List Int
 f:Fa
structure Wc where
 p:Pg
 level:Int
 rules:List Ru
 d:Df
 s:Sm
 ei:List Sy
def cW(c:Wc)(w:Wk):List au:=cF w.nx++(cF w.th++([it w.ths,it w.wR,.ref 1000 (w.fd.map fx).length,.ref 1001 (w.ps.map bF).length,.ref 1002 (w.us.map it).length]++(cP c.p++([it c.level,fj 10 gM c.rules]++(cD c.d++(cS c.s++(cF w.f++[fj 11 eU c.ei])))))))
def b_(c:Wc)(w:Wk):Ct:=⟨[.agg (cW c w)],[⟨3,true,w.fd.map fx⟩,⟨3,true,w.ps.map bF⟩,⟨1,true,w.us.map it⟩]⟩
def zEx:Ex:= .mk 0 0 0 []
def Z0(c:Wc)(w:Wk)(a:Av)(X:Fa)(h:C 281 [bQ c.d,bg w.f,it c.s.n,ai a,cI zEx] (bg X)):aj Tryz.prog 284 [.ptr 1000 0,ai a] (b_ c w) (.bR []) (b_ c {w with f:=X}):=by refine fo Tryz.func284 ?_;exact aW
def vF(n:Int)(a:Av)(w:Wk):Wk:={w with f:={w.f with v:=w.f.v.set n.toNat a}}
def hLay(j:Nat):Nat->List Ad:=λn=>bif Nat.beq n 60000 then[.aR 1000 j]else[]
def ctX(c:Wc)(w:Wk)(v r a:au):Ct:=⟨[.agg (cF w.nx++(cF w.th++([it w.ths,it w.wR,.ref 1000 (w.fd.map fx).length,.ref 1001 (w.ps.map bF).length,.ref 1002 (w.us.map it).length]++(cP c.p++([it c.level,fj 10 gM c.rules]++(cD c.d++(cS c.s++([bo w.f.dead,v,dF w.f.jh,r,a,it w.f.ew,it w.f.may,it w.f.parts]++[fj 11 eU c.ei]))))))))],[⟨3,true,w.fd.map fx⟩,⟨3,true,w.ps.map bF⟩,⟨1,true,w.us.map it⟩]⟩
def Of(c:Wc)(w:Wk)(v:Int)(a:Av)(hv:0<=v∧v.toNat<w.f.v.length)(hn:w.f.v.length<=1048576):aj Tryz.prog 352 [.ptr 1000 0,it v,ai a] (b_ c w) (.bR []) (b_ c (vF v a w)):=by
 have hx:=vj (f:=w.f) (n:=v) hv.2;have hv0:=hv.1;have c3:=xq (w.f.v.map ai) (λe=>by have h:w.f.v=[]:=ze.1 e;have:=hv.2;rw[h]at this;exact absurd this (Nat.not_lt_zero _)) ui;have e:b_ c (vF v a w)=ctX c w (.sl 5 ((w.f.v.map ai).set v.toNat (ai a)) false) (fj 6 aO w.f.refs) (ints w.f.arr):=by rw[<-jL];rfl
 have el:((w.f.v.map ai).set v.toNat (ai a)).length=(w.f.v.map ai).length:=ag
 rw[e];refine eg hm Tryz.func352 (λ_=>false) [] (hLay 66) aB ?_;refine aN ?_;repeat((refine a_.at rfl hv0 hx ?_);refine run ?_)
 exact aG
def jA(a b:Int):Int:=if a<b then -1 else if a>b then 1 else 0
def kK(x y:Fd):Int:=jA x.kind y.kind
def fU(x y:Pa):Int:=if jA x.a y.a≠0 then jA x.a y.a else jA x.b y.b
def yv(a:Int):C 375 [it a] (bo false):=by
 have b1:(!(a==a))=false:=ag
 have b2:(a !=a)=false:=ag
 refine fo Tryz.func375 ?_;refine run ?_;first|exact fu.mk (aL bo b1) rfl|exact fu.mk (aL bo b2) rfl|exact fu.mk rfl rfl
def N_(a b:Int):C 349 [it a,it b] (it (jA a b)):=by
 unfold jA;by_cases h1:a<b
 ·have b1:=tB h1;rw[aq h1];refine fo Tryz.func349 ?_;refine run ?_;repeat((apply aE;first|exact(yv a)|exact(yv b));refine run ?_)
  exact aG
 ·have b1:=fB h1;rw[ah h1];by_cases h2:a>b
  ·have b2:=tB h2;rw[aq h2];refine fo Tryz.func349 ?_;refine run ?_;repeat((apply aE;first|exact(yv a)|exact(yv b));refine run ?_)
   exact aG
  ·have b2:=fB h2;rw[ah h2];refine fo Tryz.func349 ?_;refine run ?_;repeat((apply aE;first|exact(yv a)|exact(yv b));refine run ?_)
   exact aG
def S_(x y:Fd):C 359 [fx x,fx y] (it (kK x y)):=by have c:=N_ x.kind y.kind;refine fo Tryz.func359 ?_;exact aW
def cmpOr_c(a b:Int):C 433 [.sl 1 [it a,it b] false] (it (if a≠0 then a else b)):=by
 refine fo Tryz.func433 ?_;refine run ?_;refine bB.mk ⟨[],aZ.np (2) (λk=>(1<=k->a=0)∧(2<=k->b=0)) (λk=>⟨[(8,it k)],[],[]⟩) (⟨λh=>absurd h af,λh=>absurd h af⟩) ?_⟩;intro k hk hJ;have hk' :k=0∨k=1∨k=2:=af
 refine hk'.elim (λh=> ?_) (λh=>h.elim (λh=> ?_) (λh=> ?_))
 ·subst h;by_cases h1:a=0
  ·have b1:(a !=0)=false:=Ap;refine run ?_;repeat((first|refine a_.at rfl af rfl ?_);refine run ?_)
   refine⟨⟨0+1,(by omega:0<2),⟨λ_=>h1,λh=>absurd h af⟩⟩,ik (by omega:0<2) (gh 0),?_⟩;exact vH
  ·have b1:(a !=0)=true:=(by simp;exact h1);refine run ?_;repeat((first|refine a_.at rfl af rfl ?_);refine run ?_)
   exact fu.mk (aL it (aq h1).symm) rfl
 ·subst h;have h0:=hJ.1 (cu _);by_cases h1:b=0
  ·have b1:(b !=0)=false:=Ap;refine run ?_;repeat((first|refine a_.at rfl af rfl ?_);refine run ?_)
   refine⟨⟨1+1,(by omega:1<2),⟨λ_=>h0,λ_=>h1⟩⟩,ik (by omega:1<2) (gh 1),?_⟩;exact vH
  ·have b1:(b !=0)=true:=(by simp;exact h1);refine run ?_;repeat((first|refine a_.at rfl af rfl ?_);refine run ?_)
   exact fu.mk (aL it (ah (λh=>h h0)).symm) rfl
 ·subst h;have h0:=hJ.1 af;have h1:=hJ.2 (cu _);refine run ?_;repeat((first|refine a_.at rfl af rfl ?_);refine run ?_)
  exact fu.mk (aL it ((ah (λh=>h h0)).trans h1).symm) rfl
def S8(x y:Pa):C 432 [bF x,bF y] (it (fU x y)):=by have c1:=N_ x.a y.a;have c2:=N_ x.b y.b;have c3:=cmpOr_c (jA x.a y.a) (jA x.b y.b);unfold fU;refine fo Tryz.func432 ?_;exact aW
end Abs
namespace Abs
open Go Go.Proofs Go.Shelf Go.RowKit Go.Lib
def zd:=@List.getElem?_drop
def Kr:=@List.eq_nil_of_length_eq_zero
def J0:=@List.length_drop
def VZ{G:Prop}(h:G:=by rw[dO,show W.cell? ⟨vb,vo+j,none⟩=w.cell? ⟨vb,vo+j,none⟩ from fh (by rw[hW,hW1];exact dC _ _ _ _ hvb)];exact hx j v hj):G:=h
def VP{G:Prop}(h:G:=by rw[dO,show W.cell? ⟨vb,vo+j,none⟩=W1.cell? ⟨vb,vo+j,none⟩ from fh (by rw[hW])];exact hO _ _ v hvw (hx j v hj)):G:=h
def zby9_{G:Prop}(h:G:=by rw[dO,show W.cell? ⟨b,i*3+j,none⟩=W1.cell? ⟨b,i*3+j,none⟩ from fh (by exact Rn)];exact RH):G:=h
def PC{G:Prop}(h:G:=by rw[e1,hW2,hW1];show(Array.setIfInBounds (w.heap.push _) _ _).size=_;simp):G:=h
def Wf{G:Prop}(h:G:=by rw[hzs];cases base with|none=>exact zmq84_|some b=>exact zmq68_):G:=h
def We{G:Prop}(h:G:=by simp only[World.frozen?,hb];simpa using hf ((i+1)*3) (by omega)):G:=h
def Pr{G:Prop}(h:G:=by rw[hW1];show _<(w.heap.push _).size;simp):G:=h
def Pl{G:Prop}(h:G:=by rw[hW1];exact da w.drew _):G:=h
def Pk{G:Prop}(h:G:=by rw[hW2];exact dn _ _ _ hlt1):G:=h
def pN{G:Prop}(h:G:=by simp only[Nat.min_def];split<;>omega):G:=h
def O_{G:Prop}(h:G:=by show _<=(w.heap.push _).size;simp):G:=h
def O9{G:Prop}(h:G:=by simp[aX]at ho;omega):G:=h
def O7{G:Prop}(h:G:=by rw[hM,J0];omega):G:=h
def O3{G:Prop}(h:G:=by rw[hzb,hik];exact RU):G:=h
def JY{G:Prop}(h:G:=by simp[World.shape?,hs1]):G:=h
def JW{G:Prop}(h:G:=by rw[hzb];exact RU):G:=h
def JU{G:Prop}(h:G:=by simp[World.shape?,hb]):G:=h
def xQ{G:Prop}(h:G:=by simpa[D1]using h1):G:=h
def jJ{G:Prop}(h:G:=by rw[hMl];try omega):G:=h
def xM{G:Prop}(h:G:=by rw[hW2,hW1];rfl):G:=h
def AE{G:Prop}(h:G:=by simpa using D1):G:=h
def xI{G:Prop}(h:G:=by rw[hxl]):G:=h
def VI{G:Prop}(h:G:=by refine⟨rfl,⟨rfl,rfl,rfl,by simp[dr],λk hk hx=>dC _ _ _ _ hx⟩,by simp[dr],_,dn _ _ _ hlt,by simp[aX],λj hj=> ?_⟩;have:=CM (C:=C) (x:=x) (M:=[]) (p:=n*3) (z:=3) (q:=n*3+3) (N:=n*3) rfl hxl (cu _) (by simp) (λj hj=>by omega) (by omega) j hj;simpa[il]using this):G:=h
def mE{G:Prop}(h:G:=by rw[IntKind.wrap_i64];omega):G:=h
def OT{G:Prop}(h:G:=by rw[dC _ _ _ _ (by omega),e1,hW2,dC _ _ _ _ (by omega),hW1];exact bO w.drew _ k hk):G:=h
def q_{G:Prop}(h:G:=by rw[mF];omega):G:=h
def OQ{G:Prop}(h:G:=by obtain⟨j,hj⟩:=pR.1 hv;have:=LU j v hj;exact h1C _ v (by omega) this.2):G:=h
def Vt{G:Prop}(h:G:=by rw[hzs];exact Src.ofSlice w Tryz.underlying36 ⟨vb,vo,none⟩ 1 vc x (by rw[hxl]) (λj u hj=>by rw[dO];exact hx j u hj) (λv hv=>by rw[tW];exact h1 v hv)):G:=h
def Vs{G:Prop}(h:G:=by rw[hzs];exact Src.ofSlice w Tryz.underlying68 ⟨vb,vo,none⟩ 1 vc x (by rw[hxl]) (λj u hj=>by rw[dO];exact hx j u hj) (λv hv=>by rw[tW];exact h1 v hv)):G:=h
def Vr{G:Prop}(h:G:=by rw[hzs];exact Src.ofSlice w Tryz.underlying69 ⟨vb,vo,none⟩ 1 vc x (by rw[hxl]) (λj u hj=>by rw[dO];exact hx j u hj) (λv hv=>by rw[tW];exact h1 v hv)):G:=h
def Cc{G:Prop}(h:G:=by simp[Builtin.zeroCells,Value.cells];omega):G:=h
def zmq68_{G:Prop}(h:G:=by exact run_firstCells_some w.drew 3 n ⟨b,0,none⟩ n c C.toList (by simpa using D1) (λj v hj=>by rw[dO,eO];exact hcs b rfl j v (by simpa using hj))):G:=h
def OM{G:Prop}(h:G:=by obtain⟨j,hj⟩:=pR.1 hv;exact h1C _ v (by rw[<-LU];exact hj)):G:=h
def zmq84_{G:Prop}(h:G:=by have h0:=hnil rfl;subst h0;have:C.toList=[]:=Kr (by simpa using D1);rw[this];exact run_firstCells_none w.drew 3 0 0 c):G:=h
def OG{G:Prop}(h:G:=by rename_i hj;rw[zd]at h;exact⟨hj,by simpa using h⟩):G:=h
def JM{G:Prop}(h:G:=by rw[hW1];exact(fh (w:=w) (bO w.drew _ k hk)).trans h):G:=h
def JI{G:Prop}(h:G:=by rw[dO];exact(eB (w:=w.drew) hb).trans (LU j v hj).2):G:=h
def RU{G:Prop}(h:G:=by exact growslice_fits hroom hbig):G:=h
def JG{G:Prop}(h:G:=by simp only[World.frozen?,hb];simpa using hf C.size (by omega)):G:=h
def RH{G:Prop}(h:G:=by exact hO _ _ v hbw (hcs _ v (by rw[<-LU];exact hj))):G:=h
def xE{G:Prop}(h:G:=by simp[aX];omega):G:=h
def JA{G:Prop}(h:G:=by rw[hM,mF,J0,D1];omega):G:=h
def Jy{G:Prop}(h:G:=by simp[Builtin.zeroCells,Value.cells,D1,hxl];omega):G:=h
def Rn{G:Prop}(h:G:=by rw[hW,hW2];exact dC _ _ _ _ (by omega)):G:=h
def Lb(b n c i vb vo vc:Nat)(C:Array Value)(e:TypeId)(fz:Nat×Nat)(x:List Value)(w:World)(hi:i<n)(hroom:n+1<=c)(hn63:n+1<=4611686018427387904)(hb:w.heap[b]? =some (.cells C e fz))(hf:qQ fz (C.size+1))(hC:c*3<=C.size)(hvb:vb≠b)(hxl:x.length=3)(hx:∀j v,x[j]? =some v->w.cell? ⟨vb,vo+j,none⟩=some v)(h1:∀v∈x,leaf v=true)(h1C:∀j v,j<n*3->C[j]? =some v->leaf v=true):Calls Tryz.prog 413 #[.slice (some ⟨b,0,none⟩) n c,.int .i64 i,.slice (some ⟨vb,vo,none⟩) (1:Nat) vc] w λr w' =>jq w w' b n c (i*3) 3 (n*3) C e fz x r:=by
 have hw1:IntKind.i64.wrap ((i:Int)+1)=(i:Int)+1:=mE
 have hw2:IntKind.i64.wrap ((n:Int)+1)=(n:Int)+1:=mE
 have hz2:¬((i:Int)=(n:Int)):=af
 have hb1:(0:Int)<=(i:Int)+1:=af
 have hin:i<=n:=af
 have htn:((i:Int)+1).toNat=i+1:=af
 have hb2:¬(c=i+1):=af
 have hb3:(i:Int)<=(n:Int)+1:=af
 have hb4:¬(c=i):=af
 have hlt:=cJ hb;have hsz:(Tryz.prog.info? 77).map (·.size)=some 3:=aB
 have D1:C.toList.length=C.size:=ag
 obtain⟨cv,ev,fv,hs1,hs2⟩:=vE (hx 0 _ (iM af));have hov:∀lb cb,(callFunc 456 #[.slice (some ⟨vb,vo,none⟩) (1:Nat) vc,.slice (some ⟨b,(i+1)*3,none⟩) lb cb]).run Tryz.prog w= .ok (.value (.bool false)) w:=λlb cb=>by rw[run_callFunc_extern Tryz.func456 aB aB aB (e:=Extern.SlicesOverlaps.overlaps #[68,68] #[4]) aB,ov w 68 4 77 Tryz.underlying68 3 Tryz.sizeOf77 ⟨vb,vo,none⟩ ⟨b,(i+1)*3,none⟩ 1 vc lb cb hvb ev e cv.size C.size JY JU hs2 af We JG];rfl
 obtain⟨M,hM⟩:∃M,M=(C.toList.drop (i*3)).take ((n - i)*3):=⟨_,rfl⟩;have hMl:M.length=(n - i)*3:=JA
 have LU:∀j v,M[j]? =some v->j<(n - i)*3∧C[i*3+j]? =some v:=λj v h=>by rw[hM,kQ]at h;split at h;exact OG;cases h
 have hcp1:∀ty dc sc,(Builtin.copy_ #[68,68] ty #[.slice (some ⟨b,(i+1)*3,none⟩) (n - i) dc,.slice (some ⟨b,i*3,none⟩) (n+1 - i) sc]).run Tryz.prog w.drew= .ok (goInt (n - i:Nat)) (dr w.drew b (.cells (aJ C.toList ((i+1)*3) M).toArray e fz)):=λty dc sc=>
  gj w.drew _ _ ty 77 3 b ((i+1)*3) (n - i) dc ⟨b,i*3,none⟩ (n+1 - i) sc (n - i) M Tryz.underlying68 hsz pN jJ
   (λj v hj=>JI) hb (λo ho=>hf o af) jJ
   (λv hv=>OQ)
 obtain⟨W1,hW1⟩:∃W1,W1=dr w.drew b (.cells (aJ C.toList ((i+1)*3) M).toArray e fz):=⟨_,rfl⟩;have YF:W1.heap[b]? =some (.cells (aJ C.toList ((i+1)*3) M).toArray e fz):=D8
 have hcp2:∀W:World,W.heap=W1.heap->∀ty dc,(Builtin.copy_ #[68,68] ty #[.slice (some ⟨b,i*3,none⟩) (n+1 - i) dc,.slice (some ⟨vb,vo,none⟩) (1:Nat) vc]).run Tryz.prog W= .ok (goInt (1:Nat)) (dr W b (.cells (aJ (aJ C.toList ((i+1)*3) M).toArray.toList (i*3) x).toArray e fz)):=λW hW ty dc=>gj W _ _ ty 77 3 b (i*3) (n+1 - i) dc ⟨vb,vo,none⟩ 1 vc 1 x Tryz.underlying68 hsz pN xI (λj v hj=>VZ) (by rw[hW];exact YF) (λo ho=>hf o O9) xE h1;rw[<-hW1]at hcp1;have hfin:jq w (dr W1 b (.cells (aJ (aJ C.toList ((i+1)*3) M).toArray.toList (i*3) x).toArray e fz)) b n c (i*3) 3 (n*3) C e fz x (.returned (.slice (some ⟨b,0,none⟩) (n+1) c)):=GF hW1 hlt af hxl af jJ (λj hj=>by rw[hM,kQ,aq af,zd];simp) af;rw[hW1,hM]at hfin
 go_enter Tryz.func413,Tryz.ntmps413
 go_wp2_with (simp only[hov])
 go_region_law (refine ou rfl _ _ 68 68 rfl _ _ kG kG (hcp1 _ _ _) ?_)
 go_wp2_with (at_builtin;refine lG _ rfl _ _ 68 68 rfl _ _ rfl rfl (hcp2 _ rfl _ _) ?_)
 go_ret
 exact hfin
def Qq(b n c vb vo vc:Nat)(C:Array Value)(e:TypeId)(fz:Nat×Nat)(x:List Value)(w:World)(hroom:n+1<=c)(hb:w.heap[b]? =some (.cells C e fz))(hf:qQ fz (C.size+1))(hC:c*3<=C.size)(hxl:x.length=3)(hx:∀j v,x[j]? =some v->w.cell? ⟨vb,vo+j,none⟩=some v)(h1:∀v∈x,leaf v=true):Calls Tryz.prog 413 #[.slice (some ⟨b,0,none⟩) n c,.int .i64 n,.slice (some ⟨vb,vo,none⟩) (1:Nat) vc] w λr w' =>jq w w' b n c (n*3) 3 (n*3) C e fz x r:=by
 obtain⟨i0,hi0,hz0,hzs,hzb⟩:=info_parts (P:=Tryz.prog) (e:=77) (z:= .agg #[.int .i64 0,.int .i64 0,.int .i64 0]) (size:=3) (bytes:=24) aB;have hsrc:Src Tryz.prog i0.size 68 (.slice (some ⟨vb,vo,none⟩) (1:Nat) vc) 1 x w:=Vs
 have hrun:=λty=>oz w 68 68 ty 77 i0 Tryz.underlying68 hi0 b n c _ 1 x hsrc hroom hb (λo ho=>hf o af) (by rw[hzs,hxl];omega);simp only[hzs,ni]at hrun;have hlt:=cJ hb;have hfin:jq w (dr w b (.cells (aJ C.toList (n*3) x).toArray e fz)) b n c (n*3) 3 (n*3) C e fz x (.returned (.slice (some ⟨b,0,none⟩) (n+1) c)):=VI
 go_enter Tryz.func413,Tryz.ntmps413
 go_wp2_with (at_builtin;refine Lib.wpList_append_run _ rfl _ _ _ _ rfl _ _ rfl rfl _ _ (hrun _) ?_)
 go_ret
 exact hfin
theorem GM(base:Option Nat)(n c vb vo vc:Nat)(C:Array Value)(x:List Value)(w:World)(hnc:n<=c)(hroom:c<n+1)(hbig:(n+1)*24<=140737488355328)(hnil:base=none->n=0)(D1:C.size=n*3)(hcs:∀b,base=some b->∀j v,C[j]? =some v->w.cell? ⟨b,j,none⟩=some v)(hxl:x.length=3)(hx:∀j v,x[j]? =some v->w.cell? ⟨vb,vo+j,none⟩=some v)(h1:∀v∈x,leaf v=true):Calls Tryz.prog 413 #[.slice (base.map λb=>⟨b,0,none⟩) n c,.int .i64 n,.slice (some ⟨vb,vo,none⟩) (1:Nat) vc] w λr w' =>jW w w' n (n*3) 3 (n*3) C x r:=by
 obtain⟨i0,hi0,hz0,hzs,hzb⟩:=info_parts (P:=Tryz.prog) (e:=77) (z:= .agg #[.int .i64 0,.int .i64 0,.int .i64 0]) (size:=3) (bytes:=24) aB;have hsrc:Src Tryz.prog i0.size 68 (.slice (some ⟨vb,vo,none⟩) (1:Nat) vc) 1 x w:=Vs
 have hold:(Builtin.firstCells i0.size n (.slice (base.map λb=>(⟨b,0,none⟩:Addr)) n c)).run Tryz.prog w.drew= .ok C.toList.toArray w.drew:=Wf
 have hrun:∀ty,(Builtin.append_ #[68,68] ty #[.slice (base.map λb=>⟨b,0,none⟩) n c,.slice (some ⟨vb,vo,none⟩) (1:Nat) vc]).run Tryz.prog w=_:=λty=>run_append_grow_src w 68 68 ty 77 i0 _ Tryz.underlying68 hi0 hz0 (base.map λb=>⟨b,0,none⟩) n c C.toList hold _ 1 x hsrc hroom af JW;have hG:=grownCap_ge w (n+1) c 77;have hfin:jW w (w.drew.alloc (.cells ((C.toList++x).toArray++Builtin.zeroCells (.agg #[.int .i64 0,.int .i64 0,.int .i64 0]:Value).cells (grownCap w (n+1) c 77 - (n+1))) 77)) n (n*3) 3 (n*3) C x (.returned (.slice (some ⟨w.heap.size,0,none⟩) (n+1) (grownCap w (n+1) c 77))):=by generalize grownCap w (n+1) c 77=G at hG ⊢;refine⟨G,_,77,rfl,hG,⟨rfl,rfl,rfl,O_,λk hk _=>bO w.drew _ k hk⟩,Fk,da w.drew _,?_,λj hj=> ?_⟩;exact Jy;have:=CM (C:=((C.toList++x).toArray++Builtin.zeroCells (.agg #[.int .i64 0,.int .i64 0,.int .i64 0]:Value).cells (G - (n+1)))) (x:=x) (M:=[]) (p:=n*3) (z:=3) (q:=n*3+3) (N:=n*3) rfl hxl (cu _) ag (λj hj=>af) (by simp[D1,hxl]) j hj;unfold GJ;rw[jr (by simp[D1,hxl];omega),mJ,A5];by_cases h1:j<n*3;rw[aq xQ,aq h1];simp;rw[ah xQ,ah h1,aq hj];simp[D1]
 go_enter Tryz.func413,Tryz.ntmps413
 cases base with
 |none=>
  have h0:=hnil rfl;subst h0
  go_wp2_with (at_builtin;refine Lib.wpList_append_run _ rfl _ _ _ _ rfl _ _ rfl rfl _ _ (hrun _) ?_)
  go_ret
  exact hfin
 |some a=>
  go_wp2_with (at_builtin;refine Lib.wpList_append_run _ rfl _ _ _ _ rfl _ _ rfl rfl _ _ (hrun _) ?_)
  all_goals (go_ret;exact hfin)
theorem Nx(b n c i vb vo vc:Nat)(C:Array Value)(x:List Value)(w:World)(hi:i<n)(hnc:n<=c)(hroom:c<n+1)(hbig:(n+1)*24<=140737488355328)(D1:C.size=n*3)(hcs:∀(j:Nat) v,C[j]? =some v->w.cell? ⟨b,j,none⟩=some v)(h1C:∀(j:Nat) v,C[j]? =some v->leaf v=true)(hxl:x.length=3)(hx:∀j v,x[j]? =some v->w.cell? ⟨vb,vo+j,none⟩=some v)(h1:∀v∈x,leaf v=true):Calls Tryz.prog 413 #[.slice (some ⟨b,0,none⟩) n c,.int .i64 i,.slice (some ⟨vb,vo,none⟩) (1:Nat) vc] w λr w' =>jW w w' n (i*3) 3 (n*3) C x r:=by
 obtain⟨i0,hi0,hz0,hzs,hzb⟩:=info_parts (P:=Tryz.prog) (e:=77) (z:= .agg #[.int .i64 0,.int .i64 0,.int .i64 0]) (size:=3) (bytes:=24) aB;have hsz:(Tryz.prog.info? 77).map (·.size)=some 3:=by rw[hi0];simp[hzs]
 have hz2:¬((i:Int)=(n:Int)):=af
 have hz3:(c:Int)<(n:Int)+1:=af
 have hbw:b<w.heap.size:=mB (hcs 0 _ (kq af));have hvw:vb<w.heap.size:=mB (hx 0 _ (iM af));have hkk:(n:Int)+1 - (i:Int)=((n+1 - i:Nat):Int):=af
 have hik:i+(n+1 - i)=n+1:=af
 have hCt:C.toList.length=n*3:=AE
 have hold:(Builtin.firstCells i0.size i (.slice (some ⟨b,0,none⟩) i c)).run Tryz.prog w.drew= .ok (C.toList.take (i*3)).toArray w.drew:=by rw[hzs];exact run_firstCells_some w.drew 3 i ⟨b,0,none⟩ i c (C.toList.take (i*3)) q_ (λj v hj=>by rw[dO,eO];rw[kQ]at hj;split at hj;exact hcs j v qw;cases hj)
 have hrz:∀ty,(Builtin.append_ #[68,3] ty #[.slice (some ⟨b,0,none⟩) i c,.int .i64 ((n:Int)+1 - (i:Int))]).run Tryz.prog w=
  .ok (.slice (some ⟨w.heap.size,0,none⟩) (n+1) (grownCap w (n+1) c 77)) (w.drew.alloc (.cells ((C.toList.take (i*3)).toArray++Builtin.zeroCells (.agg #[.int .i64 0,.int .i64 0,.int .i64 0]:Value).cells (n+1 - i)++Builtin.zeroCells (.agg #[.int .i64 0,.int .i64 0,.int .i64 0]:Value).cells (grownCap w (n+1) c 77 - (n+1))) 77)):=λty=>by
  have h:=Lib.run_append_grow_zeros w 68 3 ty 77 i0 _ .i64 .i64 Tryz.underlying68 Tryz.underlying3 hi0 hz0 (some ⟨b,0,none⟩) i c (C.toList.take (i*3)) hold (n+1 - i) af af af af (by rw[hzb];omega) O3;rw[hik]at h;rw[hkk];exact h
 have hG:=grownCap_ge w (n+1) c 77;have hG63:grownCap w (n+1) c 77<=9223372036854775807:=by have:=grownCap_le_maxLen w (n+1) c 77 (by unfold maxLen;omega);unfold maxLen at this;omega
 obtain⟨G,YT⟩:∃G,G=grownCap w (n+1) c 77:=⟨_,rfl⟩;rw[<-YT]at hrz hG hG63;obtain⟨R,hR⟩:∃R:Array Value,R=(C.toList.take (i*3)).toArray++Builtin.zeroCells (.agg #[.int .i64 0,.int .i64 0,.int .i64 0]:Value).cells (n+1 - i)++Builtin.zeroCells (.agg #[.int .i64 0,.int .i64 0,.int .i64 0]:Value).cells (G - (n+1)):=⟨_,rfl⟩;rw[<-hR]at hrz;have hRl:R.size=G*3:=by rw[hR];exact Cc
 have hRC:∀j,j<i*3->R[j]? =C[j]? :=λj hj=>by rw[hR,jr Cc,jr aA,mJ,kQ,aq hj];simp
 obtain⟨W1,hW1⟩:∃W1,W1=w.drew.alloc (.cells R 77):=⟨_,rfl⟩;rw[<-hW1]at hrz;have hN:W1.heap[w.heap.size]? =some (.cells R 77 (0,0)):=Pl
 have hO:∀k j v,k<w.heap.size->w.cell? ⟨k,j,none⟩=some v->W1.cell? ⟨k,j,none⟩=some v:=λk j v hk h=>JM
 have hcpA:∀W:World,W.heap=W1.heap->∀ty dc,(Builtin.copy_ #[68,68] ty #[.slice (some ⟨w.heap.size,i*3,none⟩) (n+1 - i) dc,.slice (some ⟨vb,vo,none⟩) (1:Nat) vc]).run Tryz.prog W= .ok (goInt (1:Nat)) (dr W w.heap.size (.cells (aJ R.toList (i*3) x).toArray 77 (0,0))):=λW hW ty dc=>
  gj W _ _ ty 77 3 w.heap.size (i*3) (n+1 - i) dc ⟨vb,vo,none⟩ 1 vc 1 x Tryz.underlying68 hsz pN xI
   (λj v hj=>VP)
   (by rw[hW];exact hN) (λo _=>ag) af h1
 obtain⟨M,hM⟩:∃M,M=C.toList.drop (i*3):=⟨_,rfl⟩;have hMl:M.length=(n - i)*3:=O7
 have LU:∀j:Nat,M[j]? =C[i*3+j]? :=λj=>by rw[hM,zd];simp
 obtain⟨W2,hW2⟩:∃W2,W2=dr W1 w.heap.size (.cells (aJ R.toList (i*3) x).toArray 77 (0,0)):=⟨_,rfl⟩;have hlt1:w.heap.size<W1.heap.size:=Pr
 have hN2:W2.heap[w.heap.size]? =some (.cells (aJ R.toList (i*3) x).toArray 77 (0,0)):=Pk
 have hcpB:∀W:World,W.heap=W2.heap->∀ty dc sc,(Builtin.copy_ #[68,68] ty #[.slice (some ⟨w.heap.size,(i+1)*3,none⟩) (n - i) dc,.slice (some ⟨b,i*3,none⟩) (n - i) sc]).run Tryz.prog W= .ok (goInt (n - i:Nat)) (dr W w.heap.size (.cells (aJ (aJ R.toList (i*3) x).toArray.toList ((i+1)*3) M).toArray 77 (0,0))):=λW hW ty dc sc=>
  gj W _ _ ty 77 3 w.heap.size ((i+1)*3) (n - i) dc ⟨b,i*3,none⟩ (n - i) sc (n - i) M Tryz.underlying68 hsz pN jJ
   (λj v hj=>zby9_)
   (by rw[hW];exact hN2) (λo _=>ag) xE (λv hv=>OM)
 have hfin:∀(W:World),W.heap=W2.heap->W.os=w.os->W.tape=w.tape->W.output=w.output->jW w (dr W w.heap.size (.cells (aJ (aJ R.toList (i*3) x).toArray.toList ((i+1)*3) M).toArray 77 (0,0))) n (i*3) 3 (n*3) C x (.returned (.slice (some ⟨w.heap.size,0,none⟩) (n+1) G)):=λW e1 e2 e3 e4=>by
  have hs:W.heap.size=w.heap.size+1:=PC
  refine⟨G,_,77,rfl,hG,⟨e2,e3,e4,oW,λk hk _=> ?_⟩,oW,dn _ _ _ af,?_,λj hj=> ?_⟩;exact OT;simp[aX,hRl];·exact K_ af hxl af jJ (λj _=>LU j) hRC af j hj
 have hGi:¬(G=i):=af
 have hGim:¬(G=i+1):=af
 have hci:¬(c=i):=af
 have hw1:IntKind.i64.wrap ((i:Int)+1)=(i:Int)+1:=mE
 have hw2:IntKind.i64.wrap ((n:Int)+1)=(n:Int)+1:=mE
 have hw3:IntKind.i64.wrap ((n:Int)+1 - (i:Int))=(n:Int)+1 - (i:Int):=mE
 have hb1:(0:Int)<=(i:Int)+1:=af
 have hin:i<=n:=af
 have htn:((i:Int)+1).toNat=i+1:=af
 have hb3:(i:Int)<=(n:Int):=af
 have SO:=hfin (dr (w.alloc (.cells R 77)).drew w.heap.size (.cells (aJ R.toList (i*3) x).toArray 77)).drew xM rfl rfl rfl;rw[hM]at SO;have hfB:=hcpB (dr (w.alloc (.cells R 77)).drew w.heap.size (.cells (aJ R.toList (i*3) x).toArray 77)).drew xM;clear hkk hik hold YT hR hRl
 go_enter Tryz.func413,Tryz.ntmps413
 go_wp2_with (first
  |(at_builtin;refine Lib.wpList_append_run _ rfl _ _ _ _ rfl _ _ rfl rfl _ _ (hrz _) ?_)|(at_builtin;refine lG _ rfl _ _ 68 68 rfl _ _ rfl rfl (hcpA _ rfl _ _) ?_))
 go_region_law (refine ou rfl _ _ 68 68 rfl (.slice (some ⟨w.heap.size,(i+1)*3,none⟩) (n - i) (G - (i+1))) (.slice (some ⟨b,i*3,none⟩) (n - i) (c - i)) kG kG (hfB 3 (G - (i+1)) (c - i)) ?_)
 go_wp2
 go_ret
 exact SO
def La(b n c i vb vo vc:Nat)(C:Array Value)(e:TypeId)(fz:Nat×Nat)(x:List Value)(w:World)(hi:i<n)(hroom:n+1<=c)(hn63:n+1<=4611686018427387904)(hb:w.heap[b]? =some (.cells C e fz))(hf:qQ fz (C.size+1))(hC:c*3<=C.size)(hvb:vb≠b)(hxl:x.length=3)(hx:∀j v,x[j]? =some v->w.cell? ⟨vb,vo+j,none⟩=some v)(h1:∀v∈x,leaf v=true)(h1C:∀j v,j<n*3->C[j]? =some v->leaf v=true):Calls Tryz.prog 464 #[.slice (some ⟨b,0,none⟩) n c,.int .i64 i,.slice (some ⟨vb,vo,none⟩) (1:Nat) vc] w λr w' =>jq w w' b n c (i*3) 3 (n*3) C e fz x r:=by
 have hw1:IntKind.i64.wrap ((i:Int)+1)=(i:Int)+1:=mE
 have hw2:IntKind.i64.wrap ((n:Int)+1)=(n:Int)+1:=mE
 have hz2:¬((i:Int)=(n:Int)):=af
 have hb1:(0:Int)<=(i:Int)+1:=af
 have hin:i<=n:=af
 have htn:((i:Int)+1).toNat=i+1:=af
 have hb2:¬(c=i+1):=af
 have hb3:(i:Int)<=(n:Int)+1:=af
 have hb4:¬(c=i):=af
 have hlt:=cJ hb;have hsz:(Tryz.prog.info? 80).map (·.size)=some 3:=aB
 have D1:C.toList.length=C.size:=ag
 obtain⟨cv,ev,fv,hs1,hs2⟩:=vE (hx 0 _ (iM af));have hov:∀lb cb,(callFunc 488 #[.slice (some ⟨vb,vo,none⟩) (1:Nat) vc,.slice (some ⟨b,(i+1)*3,none⟩) lb cb]).run Tryz.prog w= .ok (.value (.bool false)) w:=λlb cb=>by rw[run_callFunc_extern Tryz.func488 aB aB aB (e:=Extern.SlicesOverlaps.overlaps #[69,69] #[4]) aB,ov w 69 4 80 Tryz.underlying69 3 Tryz.sizeOf80 ⟨vb,vo,none⟩ ⟨b,(i+1)*3,none⟩ 1 vc lb cb hvb ev e cv.size C.size JY JU hs2 af We JG];rfl
 obtain⟨M,hM⟩:∃M,M=(C.toList.drop (i*3)).take ((n - i)*3):=⟨_,rfl⟩;have hMl:M.length=(n - i)*3:=JA
 have LU:∀j v,M[j]? =some v->j<(n - i)*3∧C[i*3+j]? =some v:=λj v h=>by rw[hM,kQ]at h;split at h;exact OG;cases h
 have hcp1:∀ty dc sc,(Builtin.copy_ #[69,69] ty #[.slice (some ⟨b,(i+1)*3,none⟩) (n - i) dc,.slice (some ⟨b,i*3,none⟩) (n+1 - i) sc]).run Tryz.prog w.drew= .ok (goInt (n - i:Nat)) (dr w.drew b (.cells (aJ C.toList ((i+1)*3) M).toArray e fz)):=λty dc sc=>
  gj w.drew _ _ ty 80 3 b ((i+1)*3) (n - i) dc ⟨b,i*3,none⟩ (n+1 - i) sc (n - i) M Tryz.underlying69 hsz pN jJ
   (λj v hj=>JI) hb (λo ho=>hf o af) jJ
   (λv hv=>OQ)
 obtain⟨W1,hW1⟩:∃W1,W1=dr w.drew b (.cells (aJ C.toList ((i+1)*3) M).toArray e fz):=⟨_,rfl⟩;have YF:W1.heap[b]? =some (.cells (aJ C.toList ((i+1)*3) M).toArray e fz):=D8
 have hcp2:∀W:World,W.heap=W1.heap->∀ty dc,(Builtin.copy_ #[69,69] ty #[.slice (some ⟨b,i*3,none⟩) (n+1 - i) dc,.slice (some ⟨vb,vo,none⟩) (1:Nat) vc]).run Tryz.prog W= .ok (goInt (1:Nat)) (dr W b (.cells (aJ (aJ C.toList ((i+1)*3) M).toArray.toList (i*3) x).toArray e fz)):=λW hW ty dc=>gj W _ _ ty 80 3 b (i*3) (n+1 - i) dc ⟨vb,vo,none⟩ 1 vc 1 x Tryz.underlying69 hsz pN xI (λj v hj=>VZ) (by rw[hW];exact YF) (λo ho=>hf o O9) xE h1;rw[<-hW1]at hcp1;have hfin:jq w (dr W1 b (.cells (aJ (aJ C.toList ((i+1)*3) M).toArray.toList (i*3) x).toArray e fz)) b n c (i*3) 3 (n*3) C e fz x (.returned (.slice (some ⟨b,0,none⟩) (n+1) c)):=GF hW1 hlt af hxl af jJ (λj hj=>by rw[hM,kQ,aq af,zd];simp) af;rw[hW1,hM]at hfin
 go_enter Tryz.func464,Tryz.ntmps464
 go_wp2_with (simp only[hov])
 go_region_law (refine ou rfl _ _ 69 69 rfl _ _ kG kG (hcp1 _ _ _) ?_)
 go_wp2_with (at_builtin;refine lG _ rfl _ _ 69 69 rfl _ _ rfl rfl (hcp2 _ rfl _ _) ?_)
 go_ret
 exact hfin
def Qp(b n c vb vo vc:Nat)(C:Array Value)(e:TypeId)(fz:Nat×Nat)(x:List Value)(w:World)(hroom:n+1<=c)(hb:w.heap[b]? =some (.cells C e fz))(hf:qQ fz (C.size+1))(hC:c*3<=C.size)(hxl:x.length=3)(hx:∀j v,x[j]? =some v->w.cell? ⟨vb,vo+j,none⟩=some v)(h1:∀v∈x,leaf v=true):Calls Tryz.prog 464 #[.slice (some ⟨b,0,none⟩) n c,.int .i64 n,.slice (some ⟨vb,vo,none⟩) (1:Nat) vc] w λr w' =>jq w w' b n c (n*3) 3 (n*3) C e fz x r:=by
 obtain⟨i0,hi0,hz0,hzs,hzb⟩:=info_parts (P:=Tryz.prog) (e:=80) (z:= .agg #[.int .i64 0,.int .i64 0,.int .i64 0]) (size:=3) (bytes:=24) aB;have hsrc:Src Tryz.prog i0.size 69 (.slice (some ⟨vb,vo,none⟩) (1:Nat) vc) 1 x w:=Vr
 have hrun:=λty=>oz w 69 69 ty 80 i0 Tryz.underlying69 hi0 b n c _ 1 x hsrc hroom hb (λo ho=>hf o af) (by rw[hzs,hxl];omega);simp only[hzs,ni]at hrun;have hlt:=cJ hb;have hfin:jq w (dr w b (.cells (aJ C.toList (n*3) x).toArray e fz)) b n c (n*3) 3 (n*3) C e fz x (.returned (.slice (some ⟨b,0,none⟩) (n+1) c)):=VI
 go_enter Tryz.func464,Tryz.ntmps464
 go_wp2_with (at_builtin;refine Lib.wpList_append_run _ rfl _ _ _ _ rfl _ _ rfl rfl _ _ (hrun _) ?_)
 go_ret
 exact hfin
theorem GL(base:Option Nat)(n c vb vo vc:Nat)(C:Array Value)(x:List Value)(w:World)(hnc:n<=c)(hroom:c<n+1)(hbig:(n+1)*24<=140737488355328)(hnil:base=none->n=0)(D1:C.size=n*3)(hcs:∀b,base=some b->∀j v,C[j]? =some v->w.cell? ⟨b,j,none⟩=some v)(hxl:x.length=3)(hx:∀j v,x[j]? =some v->w.cell? ⟨vb,vo+j,none⟩=some v)(h1:∀v∈x,leaf v=true):Calls Tryz.prog 464 #[.slice (base.map λb=>⟨b,0,none⟩) n c,.int .i64 n,.slice (some ⟨vb,vo,none⟩) (1:Nat) vc] w λr w' =>jW w w' n (n*3) 3 (n*3) C x r:=by
 obtain⟨i0,hi0,hz0,hzs,hzb⟩:=info_parts (P:=Tryz.prog) (e:=80) (z:= .agg #[.int .i64 0,.int .i64 0,.int .i64 0]) (size:=3) (bytes:=24) aB;have hsrc:Src Tryz.prog i0.size 69 (.slice (some ⟨vb,vo,none⟩) (1:Nat) vc) 1 x w:=Vr
 have hold:(Builtin.firstCells i0.size n (.slice (base.map λb=>(⟨b,0,none⟩:Addr)) n c)).run Tryz.prog w.drew= .ok C.toList.toArray w.drew:=Wf
 have hrun:∀ty,(Builtin.append_ #[69,69] ty #[.slice (base.map λb=>⟨b,0,none⟩) n c,.slice (some ⟨vb,vo,none⟩) (1:Nat) vc]).run Tryz.prog w=_:=λty=>run_append_grow_src w 69 69 ty 80 i0 _ Tryz.underlying69 hi0 hz0 (base.map λb=>⟨b,0,none⟩) n c C.toList hold _ 1 x hsrc hroom af JW;have hG:=grownCap_ge w (n+1) c 80;have hfin:jW w (w.drew.alloc (.cells ((C.toList++x).toArray++Builtin.zeroCells (.agg #[.int .i64 0,.int .i64 0,.int .i64 0]:Value).cells (grownCap w (n+1) c 80 - (n+1))) 80)) n (n*3) 3 (n*3) C x (.returned (.slice (some ⟨w.heap.size,0,none⟩) (n+1) (grownCap w (n+1) c 80))):=by generalize grownCap w (n+1) c 80=G at hG ⊢;refine⟨G,_,80,rfl,hG,⟨rfl,rfl,rfl,O_,λk hk _=>bO w.drew _ k hk⟩,Fk,da w.drew _,?_,λj hj=> ?_⟩;exact Jy;have:=CM (C:=((C.toList++x).toArray++Builtin.zeroCells (.agg #[.int .i64 0,.int .i64 0,.int .i64 0]:Value).cells (G - (n+1)))) (x:=x) (M:=[]) (p:=n*3) (z:=3) (q:=n*3+3) (N:=n*3) rfl hxl (cu _) ag (λj hj=>af) (by simp[D1,hxl]) j hj;unfold GJ;rw[jr (by simp[D1,hxl];omega),mJ,A5];by_cases h1:j<n*3;rw[aq xQ,aq h1];simp;rw[ah xQ,ah h1,aq hj];simp[D1]
 go_enter Tryz.func464,Tryz.ntmps464
 cases base with
 |none=>
  have h0:=hnil rfl;subst h0
  go_wp2_with (at_builtin;refine Lib.wpList_append_run _ rfl _ _ _ _ rfl _ _ rfl rfl _ _ (hrun _) ?_)
  go_ret
  exact hfin
 |some a=>
  go_wp2_with (at_builtin;refine Lib.wpList_append_run _ rfl _ _ _ _ rfl _ _ rfl rfl _ _ (hrun _) ?_)
  all_goals (go_ret;exact hfin)
theorem Nv(b n c i vb vo vc:Nat)(C:Array Value)(x:List Value)(w:World)(hi:i<n)(hnc:n<=c)(hroom:c<n+1)(hbig:(n+1)*24<=140737488355328)(D1:C.size=n*3)(hcs:∀(j:Nat) v,C[j]? =some v->w.cell? ⟨b,j,none⟩=some v)(h1C:∀(j:Nat) v,C[j]? =some v->leaf v=true)(hxl:x.length=3)(hx:∀j v,x[j]? =some v->w.cell? ⟨vb,vo+j,none⟩=some v)(h1:∀v∈x,leaf v=true):Calls Tryz.prog 464 #[.slice (some ⟨b,0,none⟩) n c,.int .i64 i,.slice (some ⟨vb,vo,none⟩) (1:Nat) vc] w λr w' =>jW w w' n (i*3) 3 (n*3) C x r:=by
 obtain⟨i0,hi0,hz0,hzs,hzb⟩:=info_parts (P:=Tryz.prog) (e:=80) (z:= .agg #[.int .i64 0,.int .i64 0,.int .i64 0]) (size:=3) (bytes:=24) aB;have hsz:(Tryz.prog.info? 80).map (·.size)=some 3:=by rw[hi0];simp[hzs]
 have hz2:¬((i:Int)=(n:Int)):=af
 have hz3:(c:Int)<(n:Int)+1:=af
 have hbw:b<w.heap.size:=mB (hcs 0 _ (kq af));have hvw:vb<w.heap.size:=mB (hx 0 _ (iM af));have hkk:(n:Int)+1 - (i:Int)=((n+1 - i:Nat):Int):=af
 have hik:i+(n+1 - i)=n+1:=af
 have hCt:C.toList.length=n*3:=AE
 have hold:(Builtin.firstCells i0.size i (.slice (some ⟨b,0,none⟩) i c)).run Tryz.prog w.drew= .ok (C.toList.take (i*3)).toArray w.drew:=by rw[hzs];exact run_firstCells_some w.drew 3 i ⟨b,0,none⟩ i c (C.toList.take (i*3)) q_ (λj v hj=>by rw[dO,eO];rw[kQ]at hj;split at hj;exact hcs j v qw;cases hj)
 have hrz:∀ty,(Builtin.append_ #[69,3] ty #[.slice (some ⟨b,0,none⟩) i c,.int .i64 ((n:Int)+1 - (i:Int))]).run Tryz.prog w=
  .ok (.slice (some ⟨w.heap.size,0,none⟩) (n+1) (grownCap w (n+1) c 80)) (w.drew.alloc (.cells ((C.toList.take (i*3)).toArray++Builtin.zeroCells (.agg #[.int .i64 0,.int .i64 0,.int .i64 0]:Value).cells (n+1 - i)++Builtin.zeroCells (.agg #[.int .i64 0,.int .i64 0,.int .i64 0]:Value).cells (grownCap w (n+1) c 80 - (n+1))) 80)):=λty=>by
  have h:=Lib.run_append_grow_zeros w 69 3 ty 80 i0 _ .i64 .i64 Tryz.underlying69 Tryz.underlying3 hi0 hz0 (some ⟨b,0,none⟩) i c (C.toList.take (i*3)) hold (n+1 - i) af af af af (by rw[hzb];omega) O3;rw[hik]at h;rw[hkk];exact h
 have hG:=grownCap_ge w (n+1) c 80;have hG63:grownCap w (n+1) c 80<=9223372036854775807:=by have:=grownCap_le_maxLen w (n+1) c 80 (by unfold maxLen;omega);unfold maxLen at this;omega
 obtain⟨G,YT⟩:∃G,G=grownCap w (n+1) c 80:=⟨_,rfl⟩;rw[<-YT]at hrz hG hG63;obtain⟨R,hR⟩:∃R:Array Value,R=(C.toList.take (i*3)).toArray++Builtin.zeroCells (.agg #[.int .i64 0,.int .i64 0,.int .i64 0]:Value).cells (n+1 - i)++Builtin.zeroCells (.agg #[.int .i64 0,.int .i64 0,.int .i64 0]:Value).cells (G - (n+1)):=⟨_,rfl⟩;rw[<-hR]at hrz;have hRl:R.size=G*3:=by rw[hR];exact Cc
 have hRC:∀j,j<i*3->R[j]? =C[j]? :=λj hj=>by rw[hR,jr Cc,jr aA,mJ,kQ,aq hj];simp
 obtain⟨W1,hW1⟩:∃W1,W1=w.drew.alloc (.cells R 80):=⟨_,rfl⟩;rw[<-hW1]at hrz;have hN:W1.heap[w.heap.size]? =some (.cells R 80 (0,0)):=Pl
 have hO:∀k j v,k<w.heap.size->w.cell? ⟨k,j,none⟩=some v->W1.cell? ⟨k,j,none⟩=some v:=λk j v hk h=>JM
 have hcpA:∀W:World,W.heap=W1.heap->∀ty dc,(Builtin.copy_ #[69,69] ty #[.slice (some ⟨w.heap.size,i*3,none⟩) (n+1 - i) dc,.slice (some ⟨vb,vo,none⟩) (1:Nat) vc]).run Tryz.prog W= .ok (goInt (1:Nat)) (dr W w.heap.size (.cells (aJ R.toList (i*3) x).toArray 80 (0,0))):=λW hW ty dc=>
  gj W _ _ ty 80 3 w.heap.size (i*3) (n+1 - i) dc ⟨vb,vo,none⟩ 1 vc 1 x Tryz.underlying69 hsz pN xI
   (λj v hj=>VP)
   (by rw[hW];exact hN) (λo _=>ag) af h1
 obtain⟨M,hM⟩:∃M,M=C.toList.drop (i*3):=⟨_,rfl⟩;have hMl:M.length=(n - i)*3:=O7
 have LU:∀j:Nat,M[j]? =C[i*3+j]? :=λj=>by rw[hM,zd];simp
 obtain⟨W2,hW2⟩:∃W2,W2=dr W1 w.heap.size (.cells (aJ R.toList (i*3) x).toArray 80 (0,0)):=⟨_,rfl⟩;have hlt1:w.heap.size<W1.heap.size:=Pr
 have hN2:W2.heap[w.heap.size]? =some (.cells (aJ R.toList (i*3) x).toArray 80 (0,0)):=Pk
 have hcpB:∀W:World,W.heap=W2.heap->∀ty dc sc,(Builtin.copy_ #[69,69] ty #[.slice (some ⟨w.heap.size,(i+1)*3,none⟩) (n - i) dc,.slice (some ⟨b,i*3,none⟩) (n - i) sc]).run Tryz.prog W= .ok (goInt (n - i:Nat)) (dr W w.heap.size (.cells (aJ (aJ R.toList (i*3) x).toArray.toList ((i+1)*3) M).toArray 80 (0,0))):=λW hW ty dc sc=>
  gj W _ _ ty 80 3 w.heap.size ((i+1)*3) (n - i) dc ⟨b,i*3,none⟩ (n - i) sc (n - i) M Tryz.underlying69 hsz pN jJ
   (λj v hj=>zby9_)
   (by rw[hW];exact hN2) (λo _=>ag) xE (λv hv=>OM)
 have hfin:∀(W:World),W.heap=W2.heap->W.os=w.os->W.tape=w.tape->W.output=w.output->jW w (dr W w.heap.size (.cells (aJ (aJ R.toList (i*3) x).toArray.toList ((i+1)*3) M).toArray 80 (0,0))) n (i*3) 3 (n*3) C x (.returned (.slice (some ⟨w.heap.size,0,none⟩) (n+1) G)):=λW e1 e2 e3 e4=>by
  have hs:W.heap.size=w.heap.size+1:=PC
  refine⟨G,_,80,rfl,hG,⟨e2,e3,e4,oW,λk hk _=> ?_⟩,oW,dn _ _ _ af,?_,λj hj=> ?_⟩;exact OT;simp[aX,hRl];·exact K_ af hxl af jJ (λj _=>LU j) hRC af j hj
 have hGi:¬(G=i):=af
 have hGim:¬(G=i+1):=af
 have hci:¬(c=i):=af
 have hw1:IntKind.i64.wrap ((i:Int)+1)=(i:Int)+1:=mE
 have hw2:IntKind.i64.wrap ((n:Int)+1)=(n:Int)+1:=mE
 have hw3:IntKind.i64.wrap ((n:Int)+1 - (i:Int))=(n:Int)+1 - (i:Int):=mE
 have hb1:(0:Int)<=(i:Int)+1:=af
 have hin:i<=n:=af
 have htn:((i:Int)+1).toNat=i+1:=af
 have hb3:(i:Int)<=(n:Int):=af
 have SO:=hfin (dr (w.alloc (.cells R 80)).drew w.heap.size (.cells (aJ R.toList (i*3) x).toArray 80)).drew xM rfl rfl rfl;rw[hM]at SO;have hfB:=hcpB (dr (w.alloc (.cells R 80)).drew w.heap.size (.cells (aJ R.toList (i*3) x).toArray 80)).drew xM;clear hkk hik hold YT hR hRl
 go_enter Tryz.func464,Tryz.ntmps464
 go_wp2_with (first
  |(at_builtin;refine Lib.wpList_append_run _ rfl _ _ _ _ rfl _ _ rfl rfl _ _ (hrz _) ?_)|(at_builtin;refine lG _ rfl _ _ 69 69 rfl _ _ rfl rfl (hcpA _ rfl _ _) ?_))
 go_region_law (refine ou rfl _ _ 69 69 rfl (.slice (some ⟨w.heap.size,(i+1)*3,none⟩) (n - i) (G - (i+1))) (.slice (some ⟨b,i*3,none⟩) (n - i) (c - i)) kG kG (hfB 3 (G - (i+1)) (c - i)) ?_)
 go_wp2
 go_ret
 exact SO
def Lc(b n c i vb vo vc:Nat)(C:Array Value)(e:TypeId)(fz:Nat×Nat)(x:List Value)(w:World)(hi:i<n)(hroom:n+1<=c)(hn63:n+1<=4611686018427387904)(hb:w.heap[b]? =some (.cells C e fz))(hf:qQ fz (C.size+1))(hC:c<=C.size)(hvb:vb≠b)(hxl:x.length=1)(hx:∀j v,x[j]? =some v->w.cell? ⟨vb,vo+j,none⟩=some v)(h1:∀v∈x,leaf v=true)(h1C:∀j v,j<n->C[j]? =some v->leaf v=true):Calls Tryz.prog 409 #[.slice (some ⟨b,0,none⟩) n c,.int .i64 i,.slice (some ⟨vb,vo,none⟩) (1:Nat) vc] w λr w' =>jq w w' b n c (i) 1 (n) C e fz x r:=by
 have hw1:IntKind.i64.wrap ((i:Int)+1)=(i:Int)+1:=mE
 have hw2:IntKind.i64.wrap ((n:Int)+1)=(n:Int)+1:=mE
 have hz2:¬((i:Int)=(n:Int)):=af
 have hb1:(0:Int)<=(i:Int)+1:=af
 have hin:i<=n:=af
 have htn:((i:Int)+1).toNat=i+1:=af
 have hb2:¬(c=i+1):=af
 have hb3:(i:Int)<=(n:Int)+1:=af
 have hb4:¬(c=i):=af
 have hlt:=cJ hb;have hsz:(Tryz.prog.info? 3).map (·.size)=some 1:=aB
 have D1:C.toList.length=C.size:=ag
 obtain⟨cv,ev,fv,hs1,hs2⟩:=vE (hx 0 _ (iM af));have hov:∀lb cb,(callFunc 453 #[.slice (some ⟨vb,vo,none⟩) (1:Nat) vc,.slice (some ⟨b,(i+1),none⟩) lb cb]).run Tryz.prog w= .ok (.value (.bool false)) w:=λlb cb=>by rw[run_callFunc_extern Tryz.func453 aB aB aB (e:=Extern.SlicesOverlaps.overlaps #[36,36] #[4]) aB,ov w 36 4 3 Tryz.underlying36 1 Tryz.sizeOf3 ⟨vb,vo,none⟩ ⟨b,(i+1),none⟩ 1 vc lb cb hvb ev e cv.size C.size JY JU hs2 af (by simp only[World.frozen?,hb];simpa using hf ((i+1)) af) JG];rfl
 obtain⟨M,hM⟩:∃M,M=(C.toList.drop (i)).take ((n - i)):=⟨_,rfl⟩;have hMl:M.length=(n - i):=JA
 have LU:∀j v,M[j]? =some v->j<(n - i)∧C[i+j]? =some v:=λj v h=>by rw[hM,kQ]at h;split at h;exact OG;cases h
 have hcp1:∀ty dc sc,(Builtin.copy_ #[36,36] ty #[.slice (some ⟨b,(i+1),none⟩) (n - i) dc,.slice (some ⟨b,i,none⟩) (n+1 - i) sc]).run Tryz.prog w.drew= .ok (goInt (n - i:Nat)) (dr w.drew b (.cells (aJ C.toList ((i+1)) M).toArray e fz)):=λty dc sc=>
  gj w.drew _ _ ty 3 1 b ((i+1)) (n - i) dc ⟨b,i,none⟩ (n+1 - i) sc (n - i) M Tryz.underlying36 hsz pN jJ
   (λj v hj=>JI) hb (λo ho=>hf o af) jJ
   (λv hv=>OQ)
 obtain⟨W1,hW1⟩:∃W1,W1=dr w.drew b (.cells (aJ C.toList ((i+1)) M).toArray e fz):=⟨_,rfl⟩;have YF:W1.heap[b]? =some (.cells (aJ C.toList ((i+1)) M).toArray e fz):=D8
 have hcp2:∀W:World,W.heap=W1.heap->∀ty dc,(Builtin.copy_ #[36,36] ty #[.slice (some ⟨b,i,none⟩) (n+1 - i) dc,.slice (some ⟨vb,vo,none⟩) (1:Nat) vc]).run Tryz.prog W= .ok (goInt (1:Nat)) (dr W b (.cells (aJ (aJ C.toList ((i+1)) M).toArray.toList (i) x).toArray e fz)):=λW hW ty dc=>gj W _ _ ty 3 1 b (i) (n+1 - i) dc ⟨vb,vo,none⟩ 1 vc 1 x Tryz.underlying36 hsz pN xI (λj v hj=>VZ) (by rw[hW];exact YF) (λo ho=>hf o O9) xE h1;rw[<-hW1]at hcp1;have hfin:jq w (dr W1 b (.cells (aJ (aJ C.toList ((i+1)) M).toArray.toList (i) x).toArray e fz)) b n c (i) 1 (n) C e fz x (.returned (.slice (some ⟨b,0,none⟩) (n+1) c)):=GF hW1 hlt af hxl af jJ (λj hj=>by rw[hM,kQ,aq af,zd];simp) af;rw[hW1,hM]at hfin
 go_enter Tryz.func409,Tryz.ntmps409
 go_wp2_with (simp only[hov])
 go_region_law (refine ou rfl _ _ 36 36 rfl _ _ kG kG (hcp1 _ _ _) ?_)
 go_wp2_with (at_builtin;refine lG _ rfl _ _ 36 36 rfl _ _ rfl rfl (hcp2 _ rfl _ _) ?_)
 go_ret
 exact hfin
def Qr(b n c vb vo vc:Nat)(C:Array Value)(e:TypeId)(fz:Nat×Nat)(x:List Value)(w:World)(hroom:n+1<=c)(hb:w.heap[b]? =some (.cells C e fz))(hf:qQ fz (C.size+1))(hC:c<=C.size)(hxl:x.length=1)(hx:∀j v,x[j]? =some v->w.cell? ⟨vb,vo+j,none⟩=some v)(h1:∀v∈x,leaf v=true):Calls Tryz.prog 409 #[.slice (some ⟨b,0,none⟩) n c,.int .i64 n,.slice (some ⟨vb,vo,none⟩) (1:Nat) vc] w λr w' =>jq w w' b n c (n) 1 (n) C e fz x r:=by
 obtain⟨i0,hi0,hz0,hzs,hzb⟩:=info_parts (P:=Tryz.prog) (e:=3) (z:= .int .i64 0) (size:=1) (bytes:=8) aB;have hsrc:Src Tryz.prog i0.size 36 (.slice (some ⟨vb,vo,none⟩) (1:Nat) vc) 1 x w:=Vt
 have hrun:=λty=>oz w 36 36 ty 3 i0 Tryz.underlying36 hi0 b n c _ 1 x hsrc hroom hb (λo ho=>hf o af) (by rw[hzs,hxl];omega);simp only[hzs,ni]at hrun;have hlt:=cJ hb;have hfin:jq w (dr w b (.cells (aJ C.toList (n) x).toArray e fz)) b n c (n) 1 (n) C e fz x (.returned (.slice (some ⟨b,0,none⟩) (n+1) c)):=by refine⟨rfl,⟨rfl,rfl,rfl,by simp[dr],λk hk hx=>dC _ _ _ _ hx⟩,by simp[dr],_,dn _ _ _ hlt,by simp[aX],λj hj=> ?_⟩;have:=CM (C:=C) (x:=x) (M:=[]) (p:=n) (z:=1) (q:=n+1) (N:=n) rfl hxl (cu _) ag (λj hj=>af) af j hj;simpa[il]using this
 go_enter Tryz.func409,Tryz.ntmps409
 go_wp2_with (at_builtin;refine Lib.wpList_append_run _ rfl _ _ _ _ rfl _ _ rfl rfl _ _ (hrun _) ?_)
 go_ret
 exact hfin
theorem GN(base:Option Nat)(n c vb vo vc:Nat)(C:Array Value)(x:List Value)(w:World)(hnc:n<=c)(hroom:c<n+1)(hbig:(n+1)*8<=140737488355328)(hnil:base=none->n=0)(D1:C.size=n)(hcs:∀b,base=some b->∀j v,C[j]? =some v->w.cell? ⟨b,j,none⟩=some v)(hxl:x.length=1)(hx:∀j v,x[j]? =some v->w.cell? ⟨vb,vo+j,none⟩=some v)(h1:∀v∈x,leaf v=true):Calls Tryz.prog 409 #[.slice (base.map λb=>⟨b,0,none⟩) n c,.int .i64 n,.slice (some ⟨vb,vo,none⟩) (1:Nat) vc] w λr w' =>jW w w' n (n) 1 (n) C x r:=by
 obtain⟨i0,hi0,hz0,hzs,hzb⟩:=info_parts (P:=Tryz.prog) (e:=3) (z:= .int .i64 0) (size:=1) (bytes:=8) aB;have hsrc:Src Tryz.prog i0.size 36 (.slice (some ⟨vb,vo,none⟩) (1:Nat) vc) 1 x w:=Vt
 have hold:(Builtin.firstCells i0.size n (.slice (base.map λb=>(⟨b,0,none⟩:Addr)) n c)).run Tryz.prog w.drew= .ok C.toList.toArray w.drew:=by rw[hzs];cases base with|none=>have h0:=hnil rfl;subst h0;have:C.toList=[]:=Kr AE;rw[this];exact run_firstCells_none w.drew 1 0 0 c|some b=>exact run_firstCells_some w.drew 1 n ⟨b,0,none⟩ n c C.toList AE (λj v hj=>by rw[dO,eO];exact hcs b rfl j v qw)
 have hrun:∀ty,(Builtin.append_ #[36,36] ty #[.slice (base.map λb=>⟨b,0,none⟩) n c,.slice (some ⟨vb,vo,none⟩) (1:Nat) vc]).run Tryz.prog w=_:=λty=>run_append_grow_src w 36 36 ty 3 i0 _ Tryz.underlying36 hi0 hz0 (base.map λb=>⟨b,0,none⟩) n c C.toList hold _ 1 x hsrc hroom af JW;have hG:=grownCap_ge w (n+1) c 3;have hfin:jW w (w.drew.alloc (.cells ((C.toList++x).toArray++Builtin.zeroCells (.int .i64 0:Value).cells (grownCap w (n+1) c 3 - (n+1))) 3)) n (n) 1 (n) C x (.returned (.slice (some ⟨w.heap.size,0,none⟩) (n+1) (grownCap w (n+1) c 3))):=by generalize grownCap w (n+1) c 3=G at hG ⊢;refine⟨G,_,3,rfl,hG,⟨rfl,rfl,rfl,O_,λk hk _=>bO w.drew _ k hk⟩,Fk,da w.drew _,?_,λj hj=> ?_⟩;exact Jy;have:=CM (C:=((C.toList++x).toArray++Builtin.zeroCells (.int .i64 0:Value).cells (G - (n+1)))) (x:=x) (M:=[]) (p:=n) (z:=1) (q:=n+1) (N:=n) rfl hxl (cu _) ag (λj hj=>af) (by simp[D1,hxl]) j hj;unfold GJ;rw[jr (by simp[D1,hxl];omega),mJ,A5];by_cases h1:j<n;rw[aq xQ,aq h1];simp;rw[ah xQ,ah h1,aq hj];simp[D1]
 go_enter Tryz.func409,Tryz.ntmps409
 cases base with
 |none=>
  have h0:=hnil rfl;subst h0
  go_wp2_with (at_builtin;refine Lib.wpList_append_run _ rfl _ _ _ _ rfl _ _ rfl rfl _ _ (hrun _) ?_)
  go_ret
  exact hfin
 |some a=>
  go_wp2_with (at_builtin;refine Lib.wpList_append_run _ rfl _ _ _ _ rfl _ _ rfl rfl _ _ (hrun _) ?_)
  all_goals (go_ret;exact hfin)
theorem Nz(b n c i vb vo vc:Nat)(C:Array Value)(x:List Value)(w:World)(hi:i<n)(hnc:n<=c)(hroom:c<n+1)(hbig:(n+1)*8<=140737488355328)(D1:C.size=n)(hcs:∀(j:Nat) v,C[j]? =some v->w.cell? ⟨b,j,none⟩=some v)(h1C:∀(j:Nat) v,C[j]? =some v->leaf v=true)(hxl:x.length=1)(hx:∀j v,x[j]? =some v->w.cell? ⟨vb,vo+j,none⟩=some v)(h1:∀v∈x,leaf v=true):Calls Tryz.prog 409 #[.slice (some ⟨b,0,none⟩) n c,.int .i64 i,.slice (some ⟨vb,vo,none⟩) (1:Nat) vc] w λr w' =>jW w w' n (i) 1 (n) C x r:=by
 obtain⟨i0,hi0,hz0,hzs,hzb⟩:=info_parts (P:=Tryz.prog) (e:=3) (z:= .int .i64 0) (size:=1) (bytes:=8) aB;have hsz:(Tryz.prog.info? 3).map (·.size)=some 1:=by rw[hi0];simp[hzs]
 have hz2:¬((i:Int)=(n:Int)):=af
 have hz3:(c:Int)<(n:Int)+1:=af
 have hbw:b<w.heap.size:=mB (hcs 0 _ (kq af));have hvw:vb<w.heap.size:=mB (hx 0 _ (iM af));have hkk:(n:Int)+1 - (i:Int)=((n+1 - i:Nat):Int):=af
 have hik:i+(n+1 - i)=n+1:=af
 have hCt:C.toList.length=n:=AE
 have hold:(Builtin.firstCells i0.size i (.slice (some ⟨b,0,none⟩) i c)).run Tryz.prog w.drew= .ok (C.toList.take (i)).toArray w.drew:=by rw[hzs];exact run_firstCells_some w.drew 1 i ⟨b,0,none⟩ i c (C.toList.take (i)) q_ (λj v hj=>by rw[dO,eO];rw[kQ]at hj;split at hj;exact hcs j v qw;cases hj)
 have hrz:∀ty,(Builtin.append_ #[36,3] ty #[.slice (some ⟨b,0,none⟩) i c,.int .i64 ((n:Int)+1 - (i:Int))]).run Tryz.prog w=
  .ok (.slice (some ⟨w.heap.size,0,none⟩) (n+1) (grownCap w (n+1) c 3)) (w.drew.alloc (.cells ((C.toList.take (i)).toArray++Builtin.zeroCells (.int .i64 0:Value).cells (n+1 - i)++Builtin.zeroCells (.int .i64 0:Value).cells (grownCap w (n+1) c 3 - (n+1))) 3)):=λty=>by
  have h:=Lib.run_append_grow_zeros w 36 3 ty 3 i0 _ .i64 .i64 Tryz.underlying36 Tryz.underlying3 hi0 hz0 (some ⟨b,0,none⟩) i c (C.toList.take (i)) hold (n+1 - i) af af af af (by rw[hzb];omega) O3;rw[hik]at h;rw[hkk];exact h
 have hG:=grownCap_ge w (n+1) c 3;have hG63:grownCap w (n+1) c 3<=9223372036854775807:=by have:=grownCap_le_maxLen w (n+1) c 3 (by unfold maxLen;omega);unfold maxLen at this;omega
 obtain⟨G,YT⟩:∃G,G=grownCap w (n+1) c 3:=⟨_,rfl⟩;rw[<-YT]at hrz hG hG63;obtain⟨R,hR⟩:∃R:Array Value,R=(C.toList.take (i)).toArray++Builtin.zeroCells (.int .i64 0:Value).cells (n+1 - i)++Builtin.zeroCells (.int .i64 0:Value).cells (G - (n+1)):=⟨_,rfl⟩;rw[<-hR]at hrz;have hRl:R.size=G:=by rw[hR];exact Cc
 have hRC:∀j,j<i->R[j]? =C[j]? :=λj hj=>by rw[hR,jr Cc,jr aA,mJ,kQ,aq hj];simp
 obtain⟨W1,hW1⟩:∃W1,W1=w.drew.alloc (.cells R 3):=⟨_,rfl⟩;rw[<-hW1]at hrz;have hN:W1.heap[w.heap.size]? =some (.cells R 3 (0,0)):=Pl
 have hO:∀k j v,k<w.heap.size->w.cell? ⟨k,j,none⟩=some v->W1.cell? ⟨k,j,none⟩=some v:=λk j v hk h=>JM
 have hcpA:∀W:World,W.heap=W1.heap->∀ty dc,(Builtin.copy_ #[36,36] ty #[.slice (some ⟨w.heap.size,i,none⟩) (n+1 - i) dc,.slice (some ⟨vb,vo,none⟩) (1:Nat) vc]).run Tryz.prog W= .ok (goInt (1:Nat)) (dr W w.heap.size (.cells (aJ R.toList (i) x).toArray 3 (0,0))):=λW hW ty dc=>
  gj W _ _ ty 3 1 w.heap.size (i) (n+1 - i) dc ⟨vb,vo,none⟩ 1 vc 1 x Tryz.underlying36 hsz pN xI
   (λj v hj=>VP)
   (by rw[hW];exact hN) (λo _=>ag) af h1
 obtain⟨M,hM⟩:∃M,M=C.toList.drop (i):=⟨_,rfl⟩;have hMl:M.length=(n - i):=O7
 have LU:∀j:Nat,M[j]? =C[i+j]? :=λj=>by rw[hM,zd];simp
 obtain⟨W2,hW2⟩:∃W2,W2=dr W1 w.heap.size (.cells (aJ R.toList (i) x).toArray 3 (0,0)):=⟨_,rfl⟩;have hlt1:w.heap.size<W1.heap.size:=Pr
 have hN2:W2.heap[w.heap.size]? =some (.cells (aJ R.toList (i) x).toArray 3 (0,0)):=Pk
 have hcpB:∀W:World,W.heap=W2.heap->∀ty dc sc,(Builtin.copy_ #[36,36] ty #[.slice (some ⟨w.heap.size,(i+1),none⟩) (n - i) dc,.slice (some ⟨b,i,none⟩) (n - i) sc]).run Tryz.prog W= .ok (goInt (n - i:Nat)) (dr W w.heap.size (.cells (aJ (aJ R.toList (i) x).toArray.toList ((i+1)) M).toArray 3 (0,0))):=λW hW ty dc sc=>
  gj W _ _ ty 3 1 w.heap.size ((i+1)) (n - i) dc ⟨b,i,none⟩ (n - i) sc (n - i) M Tryz.underlying36 hsz pN jJ
   (λj v hj=>by rw[dO,show W.cell? ⟨b,i+j,none⟩=W1.cell? ⟨b,i+j,none⟩ from fh Rn];exact RH)
   (by rw[hW];exact hN2) (λo _=>ag) xE (λv hv=>OM)
 have hfin:∀(W:World),W.heap=W2.heap->W.os=w.os->W.tape=w.tape->W.output=w.output->jW w (dr W w.heap.size (.cells (aJ (aJ R.toList (i) x).toArray.toList ((i+1)) M).toArray 3 (0,0))) n (i) 1 (n) C x (.returned (.slice (some ⟨w.heap.size,0,none⟩) (n+1) G)):=λW e1 e2 e3 e4=>by
  have hs:W.heap.size=w.heap.size+1:=PC
  refine⟨G,_,3,rfl,hG,⟨e2,e3,e4,oW,λk hk _=> ?_⟩,oW,dn _ _ _ af,?_,λj hj=> ?_⟩;exact OT;simp[aX,hRl];·exact K_ af hxl af jJ (λj _=>LU j) hRC af j hj
 have hGi:¬(G=i):=af
 have hGim:¬(G=i+1):=af
 have hci:¬(c=i):=af
 have hw1:IntKind.i64.wrap ((i:Int)+1)=(i:Int)+1:=mE
 have hw2:IntKind.i64.wrap ((n:Int)+1)=(n:Int)+1:=mE
 have hw3:IntKind.i64.wrap ((n:Int)+1 - (i:Int))=(n:Int)+1 - (i:Int):=mE
 have hb1:(0:Int)<=(i:Int)+1:=af
 have hin:i<=n:=af
 have htn:((i:Int)+1).toNat=i+1:=af
 have hb3:(i:Int)<=(n:Int):=af
 have SO:=hfin (dr (w.alloc (.cells R 3)).drew w.heap.size (.cells (aJ R.toList (i) x).toArray 3)).drew xM rfl rfl rfl;rw[hM]at SO;have hfB:=hcpB (dr (w.alloc (.cells R 3)).drew w.heap.size (.cells (aJ R.toList (i) x).toArray 3)).drew xM;clear hkk hik hold YT hR hRl
 go_enter Tryz.func409,Tryz.ntmps409
 go_wp2_with (first
  |(at_builtin;refine Lib.wpList_append_run _ rfl _ _ _ _ rfl _ _ rfl rfl _ _ (hrz _) ?_)|(at_builtin;refine lG _ rfl _ _ 36 36 rfl _ _ rfl rfl (hcpA _ rfl _ _) ?_))
 go_region_law (refine ou rfl _ _ 36 36 rfl (.slice (some ⟨w.heap.size,(i+1),none⟩) (n - i) (G - (i+1))) (.slice (some ⟨b,i,none⟩) (n - i) (c - i)) kG kG (hfB 3 (G - (i+1)) (c - i)) ?_)
 go_wp2
 go_ret
 exact SO
end Abs
namespace Abs
open Go Go.Proofs
def Ec{G:Prop}(h:G:=by simp at hs;omega):G:=h
structure Fe(P:Program)(f z by' :Nat):Prop where
 fn:∃fn,P.funcs[f]? =some fn∧fn.body.isNone=false∧(fn.name== "runtime.NumGoroutine")=false
 shift:∀(b n c i vb vo vc:Nat) (C:Array Value) (e:TypeId) (fz:Nat×Nat) (x:List Value) (w:World) (_:i<n) (_:n+1<=c) (_:n+1<=4611686018427387904)
  (_:w.heap[b]? =some (.cells C e fz)) (_:qQ fz (C.size+1)) (_:c*z<=C.size) (_:vb≠b) (_:x.length=z)
  (_:∀j v,x[j]? =some v->w.cell? ⟨vb,vo+j,none⟩=some v) (_:∀v∈x,leaf v=true) (_:∀j v,j<n*z->C[j]? =some v->leaf v=true),Calls P f #[.slice (some ⟨b,0,none⟩) n c,.int .i64 i,.slice (some ⟨vb,vo,none⟩) (1:Nat) vc] w λr w' =>jq w w' b n c (i*z) z (n*z) C e fz x r
 QH :∀(b n c vb vo vc:Nat) (C:Array Value) (e:TypeId) (fz:Nat×Nat) (x:List Value) (w:World) (_:n+1<=c)
  (_:w.heap[b]? =some (.cells C e fz)) (_:qQ fz (C.size+1)) (_:c*z<=C.size) (_:x.length=z)
  (_:∀j v,x[j]? =some v->w.cell? ⟨vb,vo+j,none⟩=some v) (_:∀v∈x,leaf v=true),Calls P f #[.slice (some ⟨b,0,none⟩) n c,.int .i64 n,.slice (some ⟨vb,vo,none⟩) (1:Nat) vc] w λr w' =>jq w w' b n c (n*z) z (n*z) C e fz x r
 full:∀(base:Option Nat) (n c vb vo vc:Nat) (C:Array Value) (x:List Value) (w:World) (_:n<=c) (_:c<n+1) (_:(n+1)*by' <=140737488355328)
  (_:base=none->n=0) (_:C.size=n*z) (_:∀b,base=some b->∀(j:Nat) v,C[j]? =some v->w.cell? ⟨b,j,none⟩=some v) (_:x.length=z)
  (_:∀j v,x[j]? =some v->w.cell? ⟨vb,vo+j,none⟩=some v) (_:∀v∈x,leaf v=true),Calls P f #[.slice (base.map λb=>⟨b,0,none⟩) n c,.int .i64 n,.slice (some ⟨vb,vo,none⟩) (1:Nat) vc] w λr w' =>jW w w' n (n*z) z (n*z) C x r
 grow:∀(b n c i vb vo vc:Nat) (C:Array Value) (x:List Value) (w:World) (_:i<n) (_:n<=c) (_:c<n+1) (_:(n+1)*by' <=140737488355328)
  (_:C.size=n*z) (_:∀(j:Nat) v,C[j]? =some v->w.cell? ⟨b,j,none⟩=some v) (_:∀(j:Nat) v,C[j]? =some v->leaf v=true) (_:x.length=z)
  (_:∀j v,x[j]? =some v->w.cell? ⟨vb,vo+j,none⟩=some v) (_:∀v∈x,leaf v=true),Calls P f #[.slice (some ⟨b,0,none⟩) n c,.int .i64 i,.slice (some ⟨vb,vo,none⟩) (1:Nat) vc] w λr w' =>jW w w' n (i*z) z (n*z) C x r
def nX(es:List au)(i:Nat)(x:au):List au:=es.take i++x::es.drop i
def tY{es:List au}{i:Nat}(x:au)(h:i<=es.length):(nX es i x).length=es.length+1:=by unfold nX;exact aA
def DE{es:List au}{i z:Nat}{x:au}(h:∀e∈es,(cells e).length=z)(hx:(cells x).length=z):∀e∈nX es i x,(cells e).length=z:=λe he=>by unfold nX at he;rcases d_.1 he with he|he;exact h e (pQ he);rcases bT.1 he with rfl|he;exact hx;exact h e (Kg he)
def YA{es:List au}{i z:Nat}{x:au}(h:∀e∈es,(cells e).length=z)(hx:(cells x).length=z)(hi:i<=es.length)(j:Nat):nth ((nX es i x).flatMap cells) j=if j<i*z then nth (es.flatMap cells) j else if j<i*z+z then nth (cells x) (j - i*z)else nth (es.flatMap cells) (j - z):=by
 have hl:(es.take i).length=i:=q_
 have e0:=pG (es.take i) (es.drop i) (λe he=>h e (pQ he));rw[Ck,hl]at e0;have e1:=pG (es.take i) (x::es.drop i) (λe he=>h e (pQ he)) j;rw[hl]at e1;unfold nX;rw[e1];by_cases h1:j<i*z;rw[aq h1,aq h1,e0,aq h1];rw[ah h1,ah h1];have e2:=pG [x] (es.drop i) (sz:=z) (λe he=>by rw[fY.1 he];exact hx) (j - i*z);rw[List.singleton_append]at e2;rw[e2];simp only[tt,Nat.one_mul,mH,AU,jM];by_cases h2:j<i*z+z;rw[aq af,aq h2];rw[ah af,ah h2,e0,ah af];congr 1;omega
def CL{I:Nat->Nat->Option Value}{es:List au}{i z:Nat}{x:au}{C C' :Array Value}{xl:List Value}(h:∀e∈es,(cells e).length=z)(hx:(cells x).length=z)(hi:i<=es.length)(hC:∀(j:Nat) d,nth (es.flatMap cells) j=some d->∃v,C[j]? =some v∧bN I v d∧leaf v=true)(hX:∀(j:Nat) d,nth (cells x) j=some d->∃v,xl[j]? =some v∧bN I v d∧leaf v=true)(hC' :∀j,j<es.length*z+z->C'[j]? =GJ C xl (i*z) z j):∀(j:Nat) d,nth ((nX es i x).flatMap cells) j=some d->∃v,C'[j]? =some v∧bN I v d∧leaf v=true:=λj d hd=>by have hj:=aH hd;rw[dJ (DE h hx),tY x hi,re]at hj;rw[YA h hx hi]at hd;rw[hC' j hj];unfold GJ;split at hd;rename_i h1;rw[aq h1];exact hC j d hd;rename_i h1;rw[ah h1];split at hd;rename_i h2;rw[aq h2];exact hX _ d hd;rename_i h2;rw[ah h2];exact hC _ d hd
def upd2{α:Type}(a b c:α):aY (aY (λ_=>none) 1000 (some a)) 1001 (some b)=aY (aY (aY (λ_=>none) 1000 (some c)) 1001 (some b)) 1000 (some a):=by funext k;by_cases h1:k=1000;subst h1;rw[aP _ _ _ _ az,bw,bw];rw[aP _ 1000 _ _ h1];by_cases h2:k=1001;subst h2;rw[bw,bw];rw[aP _ _ _ _ h2,aP _ _ _ _ h1,aP _ _ _ _ h2,aP _ _ _ _ h1]
theorem YB{P:Program}{f z by' :Nat}(S:Fe P f z by')(hz:z≠0)(hby:8<=by')(es:List au)(x:au)(i:Nat)(hi:i<=es.length)(hbig:(es.length+1)*by' <=140737488355328):aj P f [.ref 1000 es.length,.int .i64 i,.ref 1001 1] ⟨[],[⟨z,true,es⟩,⟨z,true,[x]⟩]⟩ (.ref 1000 (es.length+1)) ⟨[],[⟨z,true,nX es i x⟩,⟨z,true,[x]⟩]⟩:=by
 refine⟨S.fn,λγ w vs hs hrep hm=> ?_⟩;obtain⟨v0,v1,v2,rfl⟩:∃a b c,vs= #[a,b,c]:=by
  refine⟨vs[0]' Ec,vs[1]' Ec,vs[2]' Ec,?_⟩;apply Array.ext;simpa using hs;intro k h1 h2;have:k=0∨k=1∨k=2:=Ec
  rcases this with rfl|rfl|rfl<;>rfl
 have r0:=hrep 0 v0 _ rfl rfl;have r1:=(hrep 1 v1 _ rfl rfl).gy;have r2:=hrep 2 v2 _ rfl rfl;subst r1;obtain⟨t,t1,t2,t3,rfl,t5,t6⟩:=hm.pj r0 (row:=⟨z,true,es⟩) rfl rfl;obtain⟨u,u1,u2,u3,rfl,u5,u6⟩:=hm.pj r2 (row:=⟨z,true,[x]⟩) rfl rfl;have tn:=t6.1 hz;have un:=u6.1 hz;have tO:=t6.2.o hz tn;have uO:=u6.2.o hz un;dsimp only at t2 t3 u2 u3 t5 u5;have hx:(cells x).length=z:=u5 x ag;unfold ji at uO;cases hub:u.base with|none=>rw[hub]at uO;have:=uO.1;simp at this|some vb=>
 rw[hub]at uO;obtain⟨q1,q2,q3,c,e,fz,q4,q5,q6,q7,q8,q9⟩:=uO;dsimp only at q6 q9;simp only[mH,AU,jM]at q9;have hu1:u.n=1:=u3;have hcz:z<=c.size:=by rw[hu1]at q1;have:=Cj z q1;omega
 obtain⟨xl,hxl⟩:∃xl,xl=c.toList.take z:=⟨_,rfl⟩;have YE:xl.length=z:=by rw[hxl,mF];exact aA
 have hxc:∀(j:Nat) v,xl[j]? =some v->j<z∧c[j]? =some v:=λj v h=>by rw[hxl,kQ]at h;split at h;rename_i hj;exact⟨hj,gI⟩;cases h
 have hxs:∀j v,xl[j]? =some v->w.cell? ⟨vb,0+j,none⟩=some v:=λj v h=>by rw[eO];exact(eB q4).trans (hxc j v h).2
 have hX:∀(j:Nat) d,nth (cells x) j=some d->∃v,xl[j]? =some v∧bN γ.I v d∧leaf v=true:=λj d hd=>by obtain⟨v,v1,v2,v3,_⟩:=q9 j d hd;have hj:=aH hd;exact⟨v,by rw[hxl,kQ,aq af];simpa using v1,v2,v3⟩
 have hx1:∀v∈xl,leaf v=true:=λv hv=>by obtain⟨j,hj⟩:=pR.1 hv;obtain⟨h1,h2⟩:=hxc j v hj;obtain⟨d,hd⟩:=bP (l:=cells x) (i:=j) af;obtain⟨v',v1,_,v3⟩:=hX j d hd;rw[hj]at v1;cases v1;exact v3
 have hu:u.value= .slice (some ⟨vb,0,none⟩) (1:Nat) u.cap:=by unfold Tv.value;rw[hub,hu1]
 rw[hu];have hne:∀b,t.base=some b->vb≠b:=λb hb e=>by subst e;exact absurd (hm.kN 1000 1001 t u vb t1 u1 (.inl hb) (.inl hub)) az
 have hsl:=DE (i:=i) t5 hx;have hlen:=tY x hi;have fin:∀(b:Nat) (cap:Nat) (C' :Array Value) (e' :TypeId) (fz' :Nat×Nat) (w' :World),(t.base=some b∧cap=t.cap∨b=w.heap.size)->es.length+1<=cap->Frame w w' (λk=>k=b)->w'.heap[b]? =some (.cells C' e' fz')->qQ fz' (C'.size+1)->cap*z<=C'.size->
  (∀(j:Nat) d,nth ((nX es i x).flatMap cells) j=some d->∃v,C'[j]? =some v∧bN γ.I v d∧leaf v=true)->
  ∃γ',Ext γ γ' ∧bG γ' (.slice (some ⟨b,0,none⟩) (es.length+1) cap) (.ref 1000 (es.length+1))∧Mem (Cx.of 0 γ.X w γ.I) γ' (init [] ⟨[],[⟨z,true,nX es i x⟩,⟨z,true,[x]⟩]⟩) w' :=by
  intro b cap C' e' fz' w' hb hcap hfr hblk hfree hC' hcells;have tG:∀j,γ.I b j=none:=λj=>by rcases hb with⟨hb,_⟩|rfl;unfold ji at tO;rw[hb]at tO;exact tO.2.2.2.choose_spec.choose_spec.choose_spec.2.2.2.2.1 rfl j;cases hj:γ.I w.heap.size j with|none=>rfl|some v=>exact absurd (hm.Hu hj) (fP _)
  have hmu:∀l,γ.mu l≠some b:=λl h=>by rcases hb with⟨hb,_⟩|rfl;unfold ji at tO;rw[hb]at tO;exact tO.2.2.1 l h;exact absurd (hm.vK h) (fP _)
  have sQ:(Cx.of 0 γ.X w γ.I).dZ b:=by rcases hb with⟨hb,_⟩|rfl;exact(t6.2.vW (.inl hb)).2.1;exact .inl (cu _)
  have hx0:Ext γ (γ.row 1000 (Tv.pl z (es.length+1) (some b) cap)):=γ.ph (.inr ⟨t,t1,t2.symm,λe=>absurd (t2.symm.trans e) hz,.inl (by show t.n<es.length+1;omega)⟩);refine⟨_,hx0,.ref (Tv.pl z (es.length+1) (some b) cap) qz (cu _) (λ_=>rfl) ⟨_,_,rfl⟩,?_⟩;refine(hm.names (s' :=init [] ⟨[],[⟨z,true,es⟩,⟨z,true,[x]⟩]⟩) rfl rfl).setRow (k:=1000) (r:=⟨z,true,nX es i x⟩) (t:=Tv.pl z (es.length+1) (some b) cap) hx0 rfl rfl (λ_ _=>rfl) (hfr.sub λk _ hk=> .inl (by rw[hk])) rfl hlen.symm hsl ?_ ?_ rfl (upd2 _ _ _);refine⟨rfl,λ_ _=> ?_,λ_ e=>bM,λe=>absurd e hz,λe=>absurd e hz⟩;exact⟨hcap,sQ,hmu,C',e',fz',hblk,⟨λo ho=>hfree o af,λ_=>hfree⟩,hC',λj _=>tG j,λ_ j=>tG j,λj d hd=>Wn⟩;intro k hk;have hk:=hk.plain rfl;cases hk;refine⟨λj y hj hy hyb=> ?_,λo v hv=>by have:γ.I b o=some v:=hv;rw[tG o]at this;cases this⟩;rcases hb with⟨hb,_⟩|rfl;exact hj (hm.kN j 1000 y t b hy t1 hyb (.inl hb));exact absurd (hm.kr hy hyb).1 (fP _)
 unfold ji at tO;cases htb:t.base with
 |none=>
  rw[htb]at tO;have he:es=[]:=tO.1;subst he;have hi0:i=0:=uy
  subst hi0;have ht:t.value= .slice ((none:Option Nat).map λb=>⟨b,0,none⟩) 0 0:=by unfold Tv.value;rw[htb];rfl
  rw[ht];refine Calls.mono (S.full none 0 0 vb 0 u.cap #[] xl w af af hbig (λ_=>rfl) ag (λb h=>jl) YE hxs hx1) λr w' hr=> ?_;obtain⟨G,c',e',rfl,g1,g2,g3,g4,g5,g6⟩:=hr.out;exact fin w.heap.size G c' e' (0,0) w' (.inr rfl) g1 (g2.sub λ_ _ h=>h.elim) g4 (λ_ _=>ag) g5 (CL t5 hx hi (C:= #[]) (λj d hd=>qy) hX (by simpa using g6))
 |some b=>
  rw[htb]at tO;obtain⟨p1,p2,p3,C,eC,fzC,p4,p5,p6,p7,p8,p9⟩:=tO;dsimp only at p5 p6 p9;have htn:t.n=es.length:=t3;have ht:t.value= .slice (some ⟨b,0,none⟩) es.length t.cap:=by unfold Tv.value;rw[htb,htn]
  rw[ht];have hfl:=dJ t5;have hCs:∀(j:Nat) d,nth (es.flatMap cells) j=some d->∃v,C[j]? =some v∧bN γ.I v d∧leaf v=true:=λj d hd=>by obtain⟨v,a1,a2,a3,_⟩:=p9 j d hd;exact⟨v,a1,a2,a3⟩
  have NH:∀j v,j<es.length*z->C[j]? =some v->leaf v=true:=λj v hj hv=>by obtain⟨d,hd⟩:=bP (l:=es.flatMap cells) (i:=j) af;obtain⟨v',a1,a2,a3⟩:=hCs j d hd;rw[hv]at a1;cases a1;exact a3
  have hn63:es.length+1<=4611686018427387904:=by have:=Nat.mul_le_mul_left (es.length+1) hby;omega
  have room:∀(r:Ending) (w' :World),jq w w' b es.length t.cap (i*z) z (es.length*z) C eC fzC xl r->es.length+1<=t.cap->∃v,r= .returned v∧∃γ',Ext γ γ' ∧bG γ' v (.ref 1000 (es.length+1))∧Mem (Cx.of 0 γ.X w γ.I) γ' (init [] ⟨[],[⟨z,true,nX es i x⟩,⟨z,true,[x]⟩]⟩) w' :=λr w' hr hc=>by obtain⟨C',g1,g2,g3⟩:=hr.vW;exact⟨_,hr.r,fin b t.cap C' eC fzC w' (.inl ⟨htb,rfl⟩) hc hr.fr g1 (by rw[g2];exact p5.2 rfl) (by rw[g2];exact p6) (CL t5 hx hi hCs hX g3)⟩
  obtain⟨C0,hC0⟩:∃C0:Array Value,C0=(C.toList.take (es.length*z)).toArray:=⟨_,rfl⟩;have hle:es.length*z<=C.size:=by rw[<-htn];exact en (Cj z p1) p6
  have hC0s:C0.size=es.length*z:=by rw[hC0];exact aA
  have hC0g:∀j:Nat,C0[j]? =if j<es.length*z then C[j]? else none:=λj=>by rw[hC0,mJ,kQ];simp
  have hC0c:∀(j:Nat) v,C0[j]? =some v->w.cell? ⟨b,j,none⟩=some v:=λj v hv=>by rw[hC0g]at hv;split at hv;exact(eB p4).trans hv;cases hv
  have hCs0:∀(j:Nat) d,nth (es.flatMap cells) j=some d->∃v,C0[j]? =some v∧bN γ.I v d∧leaf v=true:=λj d hd=>by obtain⟨v,a1,a2,a3⟩:=hCs j d hd;have:=aH hd;exact⟨v,by rw[hC0g,aq af];exact a1,a2,a3⟩
  have full:∀(r:Ending) (w' :World),jW w w' es.length (i*z) z (es.length*z) C0 xl r->∃v,r= .returned v∧∃γ',Ext γ γ' ∧bG γ' v (.ref 1000 (es.length+1))∧Mem (Cx.of 0 γ.X w γ.I) γ' (init [] ⟨[],[⟨z,true,nX es i x⟩,⟨z,true,[x]⟩]⟩) w' :=λr w' hr=>by obtain⟨G,c',e',g0,g1,g2,g3,g4,g5,g6⟩:=hr.out;exact⟨_,g0,fin w.heap.size G c' e' (0,0) w' (.inr rfl) g1 (g2.sub λ_ _ h=>h.elim) g4 (λ_ _=>ag) g5 (CL t5 hx hi hCs0 hX g6)⟩
  have pack:∀{r:Ending} {w' :World},(∃v,r= .returned v∧∃γ',Ext γ γ' ∧bG γ' v (.ref 1000 (es.length+1))∧Mem (Cx.of 0 γ.X w γ.I) γ' (init [] ⟨[],[⟨z,true,nX es i x⟩,⟨z,true,[x]⟩]⟩) w')->match r with| .returned v=>∃γ',Ext γ γ' ∧bG γ' v (.ref 1000 (es.length+1))∧Mem (Cx.of 0 γ.X w γ.I) γ' (init [] ⟨[],[⟨z,true,nX es i x⟩,⟨z,true,[x]⟩]⟩) w'| .panicked ch=>∃γ' q,Ext γ γ' ∧rM (.ref 1000 (es.length+1))=some q∧ch=qe q∧Mem (Cx.of 0 γ.X w γ.I) γ' (init [] ⟨[],[⟨z,true,nX es i x⟩,⟨z,true,[x]⟩]⟩) w'| .outgrown=>False:=λh=>by obtain⟨v,rfl,h⟩:=h;exact h
  by_cases hroom:es.length+1<=t.cap;by_cases hin:i<es.length;exact Calls.mono (S.shift b es.length t.cap i vb 0 u.cap C eC fzC xl w hin hroom hn63 p4 (p5.2 rfl) p6 (hne b htb) YE hxs hx1 NH) λr w' hr=>pack (room r w' hr hroom);have:i=es.length:=af;subst this;exact Calls.mono (S.QH b es.length t.cap vb 0 u.cap C eC fzC xl w hroom p4 (p5.2 rfl) p6 YE hxs hx1) λr w' hr=>pack (room r w' hr hroom);by_cases hin:i<es.length;exact Calls.mono (S.grow b es.length t.cap i vb 0 u.cap C0 xl w hin (by rw[<-htn];exact p1) af hbig hC0s hC0c (λj v hv=>by rw[hC0g]at hv;split at hv;rename_i hj;exact NH j v hj hv;cases hv) YE hxs hx1) λr w' hr=>pack (full r w' hr);have:i=es.length:=af;subst this;exact Calls.mono (S.full (some b) es.length t.cap vb 0 u.cap C0 xl w (by rw[<-htn];exact p1) af hbig (λh=>jl) hC0s (λb' hb' =>by cases hb';exact hC0c) YE hxs hx1) λr w' hr=>pack (full r w' hr)
def Nw:Fe Tryz.prog 413 3 24 where
 fn:=⟨_,Tryz.func413,aB,aB⟩
 shift:=Lb
 QH :=Qq
 full:=GM
 grow:=Nx
def Nu:Fe Tryz.prog 464 3 24 where
 fn:=⟨_,Tryz.func464,aB,aB⟩
 shift:=La
 QH :=Qp
 full:=GL
 grow:=Nv
def Ny:Fe Tryz.prog 409 1 8 where
 fn:=⟨_,Tryz.func409,aB,aB⟩
 shift b n c i vb vo vc C e fz x w h1 h2 h3 h4 h5 h6 h7 h8 h9 h10 h11:=by simpa using Lc b n c i vb vo vc C e fz x w h1 h2 h3 h4 h5 (by simpa using h6) h7 h8 h9 h10 (by simpa using h11)
 QH b n c vb vo vc C e fz x w h1 h2 h3 h4 h5 h6 h7:=by simpa using Qr b n c vb vo vc C e fz x w h1 h2 h3 (by simpa using h4) h5 h6 h7
 full base n c vb vo vc C x w h1 h2 h3 h4 h5 h6 h7 h8 h9:=by simpa using GN base n c vb vo vc C x w h1 h2 h3 h4 (by simpa using h5) h6 h7 h8 h9
 grow b n c i vb vo vc C x w h1 h2 h3 h4 h5 h6 h7 h8 h9 h10:=by simpa using Nz b n c i vb vo vc C x w h1 h2 h3 h4 (by simpa using h5) h6 h7 h8 h9 h10
def J7:=@Bool.eq_false_iff
def PD{G:Prop}(h:G:=by subst eN;rcases hh with⟨h1,h2,h3⟩|⟨h1,h2⟩;rw[h1,h3];rfl;rw[h1];exact fE (h2 hn)):G:=h
def Py{G:Prop}(h:G:=by rcases hh with⟨h1,h2,h3⟩|⟨h1,h2⟩;exact absurd h2 hn;exact h1.symm):G:=h
def xH{G:Prop}(h:G:=by exact fu.mk (tup2 eN eH) rfl):G:=h
def Ju{G:Prop}(h:G:=by refine aN ?_;refine⟨⟨⟨r.i,(r.i+r.j) / 2⟩,⟨j1,by exact bu,by exact bu⟩⟩,hm',?_⟩;exact vH):G:=h
def Jt{G:Prop}(h:G:=by refine aN ?_;refine⟨⟨⟨(r.i+r.j) / 2+1,r.j⟩,⟨by exact bu,j2,j3⟩⟩,hm',?_⟩;exact vH):G:=h
def Q9{G:Prop}(h:G:=by refine eg hm Tryz.func348 (λ_=>true) [true] (λ_=>[]) (by exact aB) ?_;exact aW):G:=h
def Q8{G:Prop}(h:G:=by refine eg hm Tryz.func358 (λ_=>true) [true] (λ_=>[]) (by exact aB) ?_;exact aW):G:=h
def Q7{G:Prop}(h:G:=by refine eg hm Tryz.func431 (λ_=>true) [true] (λ_=>[]) (by exact aB) ?_;exact aW):G:=h
def Ht{α:Type}(c:α->Int)(l:List α):Prop:=∀i j (hi:i<l.length) (hj:j<l.length),i<j->c l[j]<=0->c l[i]<0
def posOf{α:Type}(c:α->Int):List α->Nat|[]=>0|x::l=>if c x<0 then posOf c l+1 else 0
def qf{α:Type}(c:α->Int):List α->Bool|[]=>false|x::l=>if c x<0 then qf c l else c x==0
theorem rL{α:Type}(c:α->Int):∀l:List α,posOf c l<=l.length|[]=>cu _|x::l=>by unfold posOf;split;have:=rL c l;exact aA;simp
def Ht.tail{α:Type}{c:α->Int}{x:α}{l:List α}(h:Ht c (x::l)):Ht c l:=λi j hi hj hij=>by have:=h (i+1) (j+1) aA aA af;exact jI
theorem Bn{α:Type}{c:α->Int}:∀{l:List α},Ht c l->∀h (hh:h<l.length),c l[h]<0↔h<posOf c l
 |x::l,hm,0,hh=>by unfold posOf;split;rename_i hx;simpa using hx;rename_i hx;simpa using hx
 |x::l,hm,h+1,hh=>by
  have hh' :h<l.length:=by simpa using hh
  have ih:=Bn hm.tail h hh';unfold posOf;split;rename_i hx;simp only[List.getElem_cons_succ];omega;rename_i hx;simp only[List.getElem_cons_succ];have:=hm 0 (h+1) ag (by simpa using hh) af;simp at this;constructor;intro h2;exact absurd (this af) hx;intro h2;omega
theorem BH{α:Type}{c:α->Int}:∀{l:List α},(qf c l=true∧∃h:posOf c l<l.length,c l[posOf c l]=0)∨(qf c l=false∧∀h:posOf c l<l.length,c l[posOf c l]≠0)|[]=> .inr ⟨rfl,λh=>by simp at h⟩|x::l=>by unfold qf;by_cases hx:c x<0;have e:posOf c (x::l)=posOf c l+1:=(by rw[posOf,aq hx]);rw[aq hx];rcases BH (c:=c) (l:=l)with⟨h1,h2,h3⟩|⟨h1,h2⟩;exact .inl ⟨h1,by rw[e];simpa using h2,by simp only[e];simpa using h3⟩;exact .inr ⟨h1,λh=>by simp only[e];simpa using h2 (by simpa[e]using h)⟩;have e:posOf c (x::l)=0:=(by rw[posOf,ah hx]);rw[ah hx];by_cases h0:c x=0;exact .inl ⟨by simp[h0],uu,by simp only[e];simpa using h0⟩;exact .inr ⟨by simpa using h0,λh=>by simp only[e];simpa using h0⟩
structure BI where
 i:Nat
 j:Nat
def wrapU64{y:Int}(h1:0<=y)(h2:y<2^64):IntKind.u64.wrap y=y:=JC
def Arith.HZ{x y:Int}{K:Int->Prop}(e:x=y)(h1:0<=y)(h2:y<2^64)(h:K y):Arith .u64 x K:=by subst e;exact⟨by rw[wrapU64 h1 h2];exact h⟩
def YR(a:Nat):((a:Nat):Int).fdiv (2^(min (Int.toNat 1) IntKind.u64.bits))=((a / 2:Nat):Int):=by
 have:(2:Int)^(min (Int.toNat 1) IntKind.u64.bits)=2:=az
 rw[this,Int.fdiv_eq_ediv_of_nonneg _ af];omega
def tup2{a a' :Nat}{b b' :Bool}(h1:a=a')(h2:b=b'):au.bR [it a,bo b]=au.bR [it a',bo b']:=by rw[h1,h2]
def rX{α:Type}(c:α->Int)(x:α)(l:List α):List α:=if qf c l=true then l else l.take (posOf c l)++x::l.drop (posOf c l)
def GH{α:Type}(n:Nat)(x:α)(f:α->au)(l:List α):nX (l.map f) n (f x)=(l.take n++x::l.drop n).map f:=by unfold nX;simp
def bs412(l:List Fd)(x:Fd)(hl:l.length<2^40)(hM:Ht (λy=>kK y x) l):aj Tryz.prog 412 [.ref 1000 (l.map fx).length,fx x,.gB (.func 359) [] []] ⟨[],[⟨3,true,l.map fx⟩]⟩ (.bR [it (posOf (λy=>kK y x) l),bo (qf (λy=>kK y x) l)]) ⟨[],[⟨3,true,l.map fx⟩]⟩:=by
 have hp:=rL (λy=>kK y x) l;have hlen:(l.map fx).length=l.length:=ag
 have hlt:=λh hh=>Bn hM h hh;have hh:=BH (c:=λy=>kK y x) (l:=l);generalize hN:posOf (λy=>kK y x) l=N at hp hlt hh ⊢;generalize qf (λy=>kK y x) l=H at hh ⊢;try dsimp only at hlt hh
 refine fo Tryz.func412 ?_;refine run ?_;refine bB.mk ⟨[],aZ.lp (λr:BI=>r.i<=N∧N<=r.j∧r.j<=l.length) (λr=>⟨[(9,it r.i),(10,it r.j)],[],[]⟩) (λr=>r.j - r.i) ⟨0,(l.map fx).length⟩ ⟨dL _,bu,bu⟩ ?_⟩;intro r hJ;have j1:=hJ.1;have j2:=hJ.2.1;have j3:=hJ.2.2;by_cases hr:r.i<r.j
 ·have b1:decide ((r.i:Int)<(r.j:Int))=true:=tB af;have e1:(r.i:Int)+(r.j:Int)=((r.i+r.j:Nat):Int):=by omega
  have e2:=YR (r.i+r.j);have hk:(r.i+r.j) / 2<l.length:=af
  have c1:=S_ l[(r.i+r.j) / 2] x;have hlt' :=hlt _ hk;by_cases hc:kK l[(r.i+r.j) / 2] x<0
  ·have b2:=tB hc;have hk2:=hlt'.1 hc;have hm' :r.j - ((r.i+r.j) / 2+1)<r.j - r.i:=by omega
   refine run ?_;refine Arith.HZ rfl af af ?_;refine run ?_;repeat((refine a_.map hk rfl ?_);refine run ?_)
   exact Jt
  ·have b2:=fB hc;have hk2:¬(r.i+r.j) / 2<N:=λh=>hc (hlt'.2 h);have hm' :(r.i+r.j) / 2 - r.i<r.j - r.i:=by omega
   refine run ?_;refine Arith.HZ rfl af af ?_;refine run ?_;repeat((refine a_.map hk rfl ?_);refine run ?_)
   exact Ju
 ·have b1:decide ((r.i:Int)<(r.j:Int))=false:=fB af;have eN:r.i=N:=by omega
  by_cases hn:N<l.length
  ·have b2:decide ((r.i:Int)<((l.map fx).length:Nat))=true:=tB af;have hk:r.i<l.length:=by omega
   have c1:=S_ l[r.i] x;have eH:(kK l[r.i] x==0)=H:=PD
   refine run ?_;repeat((refine a_.map hk rfl ?_);refine run ?_)
   refine aN ?_;exact xH
  have b2:decide ((r.i:Int)<((l.map fx).length:Nat))=false:=fB af;have eH:false=H:=Py
  refine run ?_;exact xH
def Uq(l:List Fd)(x:Fd)(hl:l.length<2^32)(hM:Ht (λy=>kK y x) l):aj Tryz.prog 358 [.ref 1000 (l.map fx).length,fx x,.gB (.func 359) [] []] ⟨[],[⟨3,true,l.map fx⟩]⟩ (.ref 1000 ((rX (λy=>kK y x) x l).map fx).length) ⟨[],[⟨3,true,(rX (λy=>kK y x) x l).map fx⟩]⟩:=by have c1:=bs412 l x af hM;have hp:=rL (λy=>kK y x) l;unfold rX;by_cases h:qf (λy=>kK y x) l=true;rw[aq h];rw[h]at c1;generalize posOf (λy=>kK y x) l=N at c1 hp;exact Q8;have h' :=J7.2 h;rw[ah h];rw[h']at c1;have e:=GH (posOf (λy=>kK y x) l) x fx l;have el:=aL List.length e;rw[tY (fx x) qu]at el;have c2:=YB Nw az az (l.map fx) (fx x) (posOf (λy=>kK y x) l) qu aA;rw[e]at c2;generalize posOf (λy=>kK y x) l=N at c1 c2 el ⊢;exact Q8
def bs463(l:List Pa)(x:Pa)(hl:l.length<2^40)(hM:Ht (λy=>fU y x) l):aj Tryz.prog 463 [.ref 1000 (l.map bF).length,bF x,.gB (.func 432) [] []] ⟨[],[⟨3,true,l.map bF⟩]⟩ (.bR [it (posOf (λy=>fU y x) l),bo (qf (λy=>fU y x) l)]) ⟨[],[⟨3,true,l.map bF⟩]⟩:=by
 have hp:=rL (λy=>fU y x) l;have hlen:(l.map bF).length=l.length:=ag
 have hlt:=λh hh=>Bn hM h hh;have hh:=BH (c:=λy=>fU y x) (l:=l);generalize hN:posOf (λy=>fU y x) l=N at hp hlt hh ⊢;generalize qf (λy=>fU y x) l=H at hh ⊢;try dsimp only at hlt hh
 refine fo Tryz.func463 ?_;refine run ?_;refine bB.mk ⟨[],aZ.lp (λr:BI=>r.i<=N∧N<=r.j∧r.j<=l.length) (λr=>⟨[(9,it r.i),(10,it r.j)],[],[]⟩) (λr=>r.j - r.i) ⟨0,(l.map bF).length⟩ ⟨dL _,bu,bu⟩ ?_⟩;intro r hJ;have j1:=hJ.1;have j2:=hJ.2.1;have j3:=hJ.2.2;by_cases hr:r.i<r.j
 ·have b1:decide ((r.i:Int)<(r.j:Int))=true:=tB af;have e1:(r.i:Int)+(r.j:Int)=((r.i+r.j:Nat):Int):=by omega
  have e2:=YR (r.i+r.j);have hk:(r.i+r.j) / 2<l.length:=af
  have c1:=S8 l[(r.i+r.j) / 2] x;have hlt' :=hlt _ hk;by_cases hc:fU l[(r.i+r.j) / 2] x<0
  ·have b2:=tB hc;have hk2:=hlt'.1 hc;have hm' :r.j - ((r.i+r.j) / 2+1)<r.j - r.i:=by omega
   refine run ?_;refine Arith.HZ rfl af af ?_;refine run ?_;repeat((refine a_.map hk rfl ?_);refine run ?_)
   exact Jt
  ·have b2:=fB hc;have hk2:¬(r.i+r.j) / 2<N:=λh=>hc (hlt'.2 h);have hm' :(r.i+r.j) / 2 - r.i<r.j - r.i:=by omega
   refine run ?_;refine Arith.HZ rfl af af ?_;refine run ?_;repeat((refine a_.map hk rfl ?_);refine run ?_)
   exact Ju
 ·have b1:decide ((r.i:Int)<(r.j:Int))=false:=fB af;have eN:r.i=N:=by omega
  by_cases hn:N<l.length
  ·have b2:decide ((r.i:Int)<((l.map bF).length:Nat))=true:=tB af;have hk:r.i<l.length:=by omega
   have c1:=S8 l[r.i] x;have eH:(fU l[r.i] x==0)=H:=PD
   refine run ?_;repeat((refine a_.map hk rfl ?_);refine run ?_)
   refine aN ?_;exact xH
  have b2:decide ((r.i:Int)<((l.map bF).length:Nat))=false:=fB af;have eH:false=H:=Py
  refine run ?_;exact xH
def Uo(l:List Pa)(x:Pa)(hl:l.length<2^32)(hM:Ht (λy=>fU y x) l):aj Tryz.prog 431 [.ref 1000 (l.map bF).length,bF x,.gB (.func 432) [] []] ⟨[],[⟨3,true,l.map bF⟩]⟩ (.ref 1000 ((rX (λy=>fU y x) x l).map bF).length) ⟨[],[⟨3,true,(rX (λy=>fU y x) x l).map bF⟩]⟩:=by have c1:=bs463 l x af hM;have hp:=rL (λy=>fU y x) l;unfold rX;by_cases h:qf (λy=>fU y x) l=true;rw[aq h];rw[h]at c1;generalize posOf (λy=>fU y x) l=N at c1 hp;exact Q7;have h' :=J7.2 h;rw[ah h];rw[h']at c1;have e:=GH (posOf (λy=>fU y x) l) x bF l;have el:=aL List.length e;rw[tY (bF x) qu]at el;have c2:=YB Nu az az (l.map bF) (bF x) (posOf (λy=>fU y x) l) qu aA;rw[e]at c2;generalize posOf (λy=>fU y x) l=N at c1 c2 el ⊢;exact Q7
def bs408(l:List Int)(x:Int)(hl:l.length<2^40)(hM:Ht (λy=>jA y x) l):aj Tryz.prog 408 [.ref 1000 (l.map it).length,it x,.gB (.func 349) [] []] ⟨[],[⟨1,true,l.map it⟩]⟩ (.bR [it (posOf (λy=>jA y x) l),bo (qf (λy=>jA y x) l)]) ⟨[],[⟨1,true,l.map it⟩]⟩:=by
 have hp:=rL (λy=>jA y x) l;have hlen:(l.map it).length=l.length:=ag
 have hlt:=λh hh=>Bn hM h hh;have hh:=BH (c:=λy=>jA y x) (l:=l);generalize hN:posOf (λy=>jA y x) l=N at hp hlt hh ⊢;generalize qf (λy=>jA y x) l=H at hh ⊢;try dsimp only at hlt hh
 refine fo Tryz.func408 ?_;refine run ?_;refine bB.mk ⟨[],aZ.lp (λr:BI=>r.i<=N∧N<=r.j∧r.j<=l.length) (λr=>⟨[(9,it r.i),(10,it r.j)],[],[]⟩) (λr=>r.j - r.i) ⟨0,(l.map it).length⟩ ⟨dL _,bu,bu⟩ ?_⟩;intro r hJ;have j1:=hJ.1;have j2:=hJ.2.1;have j3:=hJ.2.2;by_cases hr:r.i<r.j
 ·have b1:decide ((r.i:Int)<(r.j:Int))=true:=tB af;have e1:(r.i:Int)+(r.j:Int)=((r.i+r.j:Nat):Int):=by omega
  have e2:=YR (r.i+r.j);have hk:(r.i+r.j) / 2<l.length:=af
  have c1:=N_ l[(r.i+r.j) / 2] x;have hlt' :=hlt _ hk;by_cases hc:jA l[(r.i+r.j) / 2] x<0
  ·have b2:=tB hc;have hk2:=hlt'.1 hc;have hm' :r.j - ((r.i+r.j) / 2+1)<r.j - r.i:=by omega
   refine run ?_;refine Arith.HZ rfl af af ?_;refine run ?_;repeat((refine a_.map hk rfl ?_);refine run ?_)
   exact Jt
  ·have b2:=fB hc;have hk2:¬(r.i+r.j) / 2<N:=λh=>hc (hlt'.2 h);have hm' :(r.i+r.j) / 2 - r.i<r.j - r.i:=by omega
   refine run ?_;refine Arith.HZ rfl af af ?_;refine run ?_;repeat((refine a_.map hk rfl ?_);refine run ?_)
   exact Ju
 ·have b1:decide ((r.i:Int)<(r.j:Int))=false:=fB af;have eN:r.i=N:=by omega
  by_cases hn:N<l.length
  ·have b2:decide ((r.i:Int)<((l.map it).length:Nat))=true:=tB af;have hk:r.i<l.length:=by omega
   have c1:=N_ l[r.i] x;have eH:(jA l[r.i] x==0)=H:=PD
   refine run ?_;repeat((refine a_.map hk rfl ?_);refine run ?_)
   refine aN ?_;exact xH
  have b2:decide ((r.i:Int)<((l.map it).length:Nat))=false:=fB af;have eH:false=H:=Py
  refine run ?_;exact xH
def Ur(l:List Int)(x:Int)(hl:l.length<2^32)(hM:Ht (λy=>jA y x) l):aj Tryz.prog 348 [.ref 1000 (l.map it).length,it x,.gB (.func 349) [] []] ⟨[],[⟨1,true,l.map it⟩]⟩ (.ref 1000 ((rX (λy=>jA y x) x l).map it).length) ⟨[],[⟨1,true,(rX (λy=>jA y x) x l).map it⟩]⟩:=by have c1:=bs408 l x af hM;have hp:=rL (λy=>jA y x) l;unfold rX;by_cases h:qf (λy=>jA y x) l=true;rw[aq h];rw[h]at c1;generalize posOf (λy=>jA y x) l=N at c1 hp;exact Q9;have h' :=J7.2 h;rw[ah h];rw[h']at c1;have e:=GH (posOf (λy=>jA y x) l) x it l;have el:=aL List.length e;rw[tY (it x) qu]at el;have c2:=YB Ny az az (l.map it) (it x) (posOf (λy=>jA y x) l) qu aA;rw[e]at c2;generalize posOf (λy=>jA y x) l=N at c1 c2 el ⊢;exact Q9
end Abs
namespace Abs
open Go
def Fs:=@Array.getElem?_setIfInBounds
def RE{G:Prop}(h:G:=by refine .inl (Oper.wp_mono (λa' w' ⟨⟨s',g',e1,e2,e3⟩,e4⟩=> ?_) hs);exact go e1 e2 e3 e4):G:=h
section
variable{P:Program}
def HI(w:World)(b:Nat)(o:Obj):World:={w with heap:=w.heap.setIfInBounds b o}
def next_at(w:World)(ty:TypeId)(bi bm since c0:Nat)(seen:Array Nat)(es:Array MapEntry)(clock:Nat)(hi:w.heap[bi]? =some (.mapIter (some bm) since seen c0))(hb:w.heap[bm]? =some (.map es clock))(hold:∀x∈es.toList,x.born<since)(hsc:since<=c0):((leftOf es seen).size=0∧(Instr.next (.pointer (some ⟨bi,0,none⟩)) false ty).run P w= .ok (.tuple #[.bool false]) w)∨∃e∈(leftOf es seen).toList,∃w1:World,(w1=w∨w1=w.drew)∧(Instr.next (.pointer (some ⟨bi,0,none⟩)) false ty).run P w= .ok (.tuple #[.bool true,e.key,e.val]) (HI w1 bi (.mapIter (some bm) since (seen.push e.born) clock)):=by
 simp only[Instr.next,getObj,Sem.run_bind,Sem.run,hi,hb,Result.andThen,next_test_false seen es since c0 hold hsc,uI,jP];unfold leftOf;have hmem:∀x∈(Array.filter (λe=> !seen.contains e.born) es).toList,x.born<since:=λx hx=>hold x (by simp at hx ⊢;exact hx.1);generalize Array.filter (λe=> !seen.contains e.born) es=L at hmem ⊢;have e1:L.filter (λx=>decide (x.born<since))=L:=Array.filter_eq_self.2 (λx hx=>by simpa using hmem x ux);have e2:L.filter (λx=>decide (x.born>=since))= #[]:=by rw[Array.filter_eq_empty_iff];intro x hx;have:=hmem x ux;exact aA
 simp only[e1,e2,Array.append_empty];by_cases h0:L.size=0;left;have:L= #[]:=Array.eq_empty_of_size_eq_zero h0;subst this;refine⟨rfl,?_⟩;simp[choose,Sem.run,Question.forced];right;have hne:L.isEmpty=false:=by simp[Array.isEmpty,h0]
 simp only[hne,uI,jP,Array.empty_append,Array.size_map];have hch:∃(j:Nat) (w1:World),j<L.size∧(w1=w∨w1=w.drew)∧(choose (Question.mapNext L.size)).run P w= .ok j w1:=by by_cases hf:L.size<=1;exact⟨0,w,af,.inl rfl,by simp[choose,Sem.run,Question.forced,hf]⟩;exact⟨_,w.drew,AM _ af,.inr rfl,by simp only[choose,Sem.run,Question.forced,yd,hf,jP,Question.cut];rfl⟩
 obtain⟨j,w1,hj,hal,hrun⟩:=hch;refine⟨L[j],ag,w1,hal,?_⟩;have hi1:w1.heap[bi]? =some (.mapIter (some bm) since seen c0):=by rcases hal with rfl|rfl<;>exact hi
 have hset:∀(o' :Obj),(setObj bi o').run P w1= .ok () (HI w1 bi o'):=λo' =>by simp only[setObj,Sem.run];rw[hi1];rfl
 simp only[hrun,Array.getElem?_map,kq hj,wa,Sem.run_bind,hset,Result.andThen];rfl
def Za(w:World)(bi bm since:Nat)(seen:Array Nat)(es:Array MapEntry)(clock:Nat)(e:MapEntry)(hi:w.heap[bi]? =some (.mapIter (some bm) since (seen.push e.born) clock))(hb:w.heap[bm]? =some (.map es clock))(he:e∈es.toList)(hn:(es.toList.map (·.born)).Nodup):(Instr.entry (.pointer (some ⟨bi,0,none⟩))).run P w= .ok (.tuple #[e.key,e.val]) w:=by
 have hf:es.find? (·.born==e.born)=some e:=by rw[<-Array.find?_toList];exact find_born e es.toList hn he
 simp only[Instr.entry,getObj,Sem.run_bind,Sem.run,hi,hb,Result.andThen,Array.back?_push,bne_self_eq_false,uI,jP,hf];rfl
def iq{a:Act}{dst:Option Nat}{v:Value}{t:Nat}(h:dst≠some t):(a.put dst v).tmps[t]? =a.tmps[t]? :=by cases dst with|none=>rfl|some d=>have hd:d≠t:=λe=>h (by rw[e]);show(a.tmps.setIfInBounds d v)[t]? =_;rw[Fs,ah hd]
theorem R6{o:Oper}{a:Act}{w:World}{N:Act->World->Prop}{Q:Exit->Act->World->Prop}{t:Nat}(h:o.wp P a w N Q)(hd:o.dst≠some t):o.wp P a w (λa' w' =>N a' w' ∧a'.tmps[t]? =a.tmps[t]?) Q:=by
 unfold Oper.wp at*;generalize (execOp a.eval o).run P w=r at*;cases r with
 |ok x w' =>
  cases x with
  |value v=>exact⟨h,iq hd⟩|skip=>exact⟨h,iq hd⟩|defer d=>exact⟨h,iq (a:={a with defers:=d::a.defers}) hd⟩|enter f args=>refine Calls.mono h λe w2 he=> ?_;cases e with|returned v=>exact⟨he,iq hd⟩|panicked ch=>exact he|outgrown=>exact he
  |row r args=>exact Rows.mono h λv w2 he=>⟨he,iq hd⟩|_=>exact h
 |halt s w' =>cases s with|panic v=>exact h|_=>exact h
end
section
variable{P:Program}{c:mC}
theorem Iu{all:Array Oper}(hok:vR P c){Q:Go.Exit->Act->World->Prop}{cx:Cx}{t:Nat}:∀(l:List Oper) (i:Nat) (_:∀k o,nth l k=some o->nth all.toList (i+k)=some o) (_:∀o∈l,lq o=false∧o.guard=none∧o.dst≠some t) (_:F8 P cx.n all=true) {s:St} {K:Out->St->Prop} {g:Gh} {a:Act} {w:World},eQ P c all.toList l s K->Rel cx g s a w->(∀s' g' a' w',K .normal s' ->Ext g g' ->Rel cx g' s' a' w' ->a'.tmps[t]? =a.tmps[t]?->Q .normal a' w')->wpOps P all Q (List.range' i l.length) a w
 |[],i,_,_,hB,s,K,g,a,w,hk,h,hq=>hq s g a w hk (Ext.refl g) h rfl
 |o::l,i,hl,hc,hB,s,K,g,a,w,hk,h,hq=>by
  have ho:nth all.toList i=some o:=hl 0 o rfl;have ho' :all[i]? =some o:=Al
  have hb:opB P cx.n o=true:=OH
  have hd:i6 cx.n o.dst=true:=JD
  have hl' :∀k o,nth l k=some o->nth all.toList (i+1+k)=some o:=λk o hk=>Wo
  obtain⟨hcb,hgd,hdt⟩:=hc o (tj ..);rw[eJ,J5,wpOps_cons];unfold wpOp;rw[ho'];dsimp only;rw[sX]at hk;rcases w7 h hk with⟨h1,h2⟩|⟨h1,h2⟩
  rotate_left
  unfold Region.wanted at h1;rw[hgd]at h1;cases h1;rw[aq h1];have go:∀{s1:St} {g1:Gh} {a1:Act} {w1:World},eQ P c all.toList l s1 K->Ext g g1->Rel cx g1 s1 a1 w1->a1.tmps[t]? =a.tmps[t]?->wpOps P all Q (List.range' (i+1) l.length) a1 w1:=λ{s1 g1 a1 w1} e1 e5 e6 e7=>Iu hok l (i+1) hl' (λo ho=>hc o (ko _ ho)) hB e1 e6 λs' g' a' w' k1 k4 k5 k6=>hq s' g' a' w' k1 (e5.trans k4) k5 (k6.trans e7);rcases IP h2 with⟨hcb',_⟩|⟨hcb',_⟩|hp|⟨es,ne,hp,hnil⟩|⟨hcb',_⟩
  rw[hcb]at hcb';cases hcb';rw[hcb]at hcb';cases hcb';replace hp:aC P c o.dst s (λs1=>norm o.dst (cy P o (c_ P s)) s1 λs' =>eQ P c all.toList l s' K) (cy P o (c_ P s)):=hp.elim (·.1) (·.2);have hp' :=qT (K' :=λs1=>eQ P c all.toList l s1 K) hp λs1 _ h1 h2=>O5
  have hs:=R6 (Fw (Q:=Q) h hb hok.C hp') hdt;exact RE;obtain⟨op,t',x,y,t'',z,z2,e,n1,n2,n3,n4,n5⟩:=Il hp;have cont:∀{d:au},norm o.dst (cy P o (c_ P s)) (s.put o.dst d) (λs' =>eQ P c all.toList l s' K)->eQ P c all.toList l (s.put o.dst d) K:=λ{d} h=>by rw[norm_eq]at h;exact h
  have hs:=R6 (uV (Q:=Q) (K:=λs1=>eQ P c all.toList l s1 K) h hd n1 n2 n3 n4 n5 ⟨(λe=>bM),λ_ e=>cont (hnil.t e),λ_=> .inl (cont hnil.f)⟩) hdt;exact RE;rw[hcb]at hcb';cases hcb'
end
end Abs
namespace Abs
open Go Go.Proofs
def Kq:=@Array.getD_eq_getD_getElem?
def cxl(n:Nat)(X:Nat->Prop)(w0:World)(I0:Nat->Nat->Option Value)(bi bm:Nat)(oi om:Obj):Cx where
 n:=n
 dZ b:=(w0.heap.size<=b∨X b)∧b≠bi∧b≠bm
 I0:=I0
 D:=[]
 Fr _ w:=Frame w0 w X∧bi<w.heap.size∧bm<w.heap.size∧w.heap[bi]? =some oi∧w.heap[bm]? =some om
 st _ _ w w' h _ k _ _:=by obtain⟨h1,h2,h3,h4,h5⟩:=h;refine⟨⟨k.os.trans h1.os,k.tape.trans h1.tape,k.output.trans h1.output,en h1.size k.size,λb hb hx=> ?_⟩,jb h2 k.size,jb h3 k.size,?_,?_⟩;exact(k.block b (jb hb h1.size) (λe=>by rcases e.1 with e|e;omega;exact hx e)).trans (h1.block b hb hx);exact(k.block bi h2 (λe=>e.2.1 rfl)).trans h4;exact(k.block bm h3 (λe=>e.2.2 rfl)).trans h5
def sR(es:List au):St:={env:=aY (λ_=>none) 3 (some (.ref 9 es.length)),H:=λ_=>none,hn:=[],R:=aY (λ_=>none) 9 (some ⟨1,true,es⟩),rn:=[9],y:= .off}
def P5{es:List au}{t:Nat}{d:au}(h:(sR es).env t=some d):t=3∧d= .ref 9 es.length:=by have h' :aY (λ_=>none) 3 (some (au.ref 9 es.length)) t=some d:=h;unfold aY at h';cases hb:Nat.beq t 3 with|true=>rw[hb]at h';exact⟨dt hb,by cases h';rfl⟩|false=>rw[hb]at h';cases h'
def sR_R{es:List au}{k:Nat}{r:Row}(h:(sR es).R k=some r):k=9∧r=⟨1,true,es⟩:=by have h' :aY (λ_=>none) 9 (some (Row.mk 1 true es)) k=some r:=h;unfold aY at h';cases hb:Nat.beq k 9 with|true=>rw[hb]at h';exact⟨dt hb,by cases h';rfl⟩|false=>rw[hb]at h';cases h'
def Rel.only{cx:Cx}{g:Gh}{s:St}{a:Act}{w:World}(h:Rel cx g s a w){es:List au}(h3:s.env 3=some (.ref 9 es.length))(h9:s.R 9=some ⟨1,true,es⟩):∃g',g'.I=g.I∧Rel cx g' (sR es) a w:=by
 obtain⟨t,h1,h2,h4,h5,h6⟩:=h.mem.row 9 _ h9;refine⟨⟨g.I,λ_=>none,λk=>if k=9 then some t else none⟩,rfl,?_,h.size,h.defers,?_⟩;intro u d hd;obtain⟨rfl,rfl⟩:=P5 hd;have hr:=h.env 3 _ h3;obtain⟨t',ht',hn,hv,hx⟩:=hr.nB;rw[h1]at ht';cases ht';exact .ref t (show(if 9=9 then some t else none)=some t from aq rfl) hn hv hx;have m:=h.mem;refine⟨m.iw,λl d hd=>(by cases hd),λl b e=>bM,λl _ b e=>bM,λl b e=>bM,λk r hr=> ?_,λk u hu=> ?_,λk j t1 t2 b e1 e2=> ?_,m.kx,m.frame,m.new⟩;obtain⟨rfl,rfl⟩:=sR_R hr;refine⟨t,show(if 9=9 then some t else none)=some t from aq rfl,h2,h4,h5,h6.z,λhz hn=> ?_,h6.h,λhz=>absurd hz s_,λhz=>absurd hz s_⟩;have k:=h6.o hz hn;unfold ji at k ⊢;cases hb:t.base with|none=>rw[hb]at k;exact k|some b=>rw[hb]at k;obtain⟨k1,k2,k3,k4⟩:=k;exact⟨k1,k2,(λl e=>bM),k4⟩
 have hu' :(if k=9 then some t else none)=some u:=hu;split at hu';rename_i e;subst e;exact⟨⟨1,true,es⟩,rfl⟩;cases hu';intro _ _;have e1' :(if k=9 then some t else none)=some t1:=e1;have e2' :(if j=9 then some t else none)=some t2:=e2;split at e1';split at e2';omega;cases e2';cases e1'
def Rel.Cz{cx:Cx}{g:Gh}{s:St}{a:Act}{w:World}(h:Rel cx g s a w){t:Nat}(ht:s.env t=none)(v:Value):Rel cx g s (a.put (some t) v) w:=by
 refine⟨λu d hd=> ?_,by simp[Act.put,h.size],h.defers,h.mem⟩;have hu:u≠t:=λe=>by rw[e,ht]at hd;cases hd
 have:=h.env u d hd;rw[Kq]at this ⊢;rw[iq (a:=a) (dst:=some t) (v:=v) (t:=u) (λe=>hu (by cases e;rfl))];exact this
def UP{w w1:World}{bi:Nat}{a1 a2 c1 c2:_}{seen seen' :Array Nat}{I:Nat->Nat->Option Value}(hc:Cells I w)(hi:w.heap[bi]? =some (.mapIter a1 c1 seen c2))(h1:w1.heap=w.heap):Cells I (HI w1 bi (.mapIter a1 c1 seen' a2)):=by intro b o v e;obtain⟨k1,k2⟩:=hc b o v e;refine⟨?_,k2⟩;by_cases hb:b=bi;subst hb;exfalso;obtain⟨_,_,_,h⟩:=r_ k1 hi;cases h;rw[<-k1];refine fh ?_;show(w1.heap.setIfInBounds bi _)[b]? =_;rw[Fs,ah (λe=>hb e.symm),h1]
def Rel.next{n:Nat}{X:Nat->Prop}{w0:World}{I0:Nat->Nat->Option Value}{bi bm:Nat}{om:Obj}{x1:Option Nat}{c1 c2 c3:Nat}{seen seen' :Array Nat}{g:Gh}{s:St}{a:Act}{w w1:World}(h:Rel (cxl n X w0 I0 bi bm (.mapIter x1 c1 seen c2) om) g s a w)(hw:w1=w∨w1=w.drew)(hb0:w0.heap.size<=bi)(hne:bm≠bi):Rel (cxl n X w0 I0 bi bm (.mapIter x1 c1 seen' c3) om) g s a (HI w1 bi (.mapIter x1 c1 seen' c3)):=by
 obtain⟨f1,f2,f3,f4,f5⟩:=h.mem.frame;have hh:w1.heap=w.heap:=by rcases hw with rfl|rfl<;>rfl
 have hsz:(HI w1 bi (.mapIter x1 c1 seen' c3)).heap.size=w.heap.size:=by show(w1.heap.setIfInBounds bi _).size=_;rw[Array.size_setIfInBounds,hh]
 have hoth:∀b,b≠bi->(HI w1 bi (.mapIter x1 c1 seen' c3)).heap[b]? =w.heap[b]? :=λb hb=>by show(w1.heap.setIfInBounds bi _)[b]? =_;rw[Fs,ah (λe=>hb e.symm),hh]
 have hself:(HI w1 bi (.mapIter x1 c1 seen' c3)).heap[bi]? =some (.mapIter x1 c1 seen' c3):=by show(w1.heap.setIfInBounds bi _)[bi]? =_;rw[Fs,aq rfl,aq (by rw[hh];exact f2)]
 have fr:Frame w0 (HI w1 bi (.mapIter x1 c1 seen' c3)) X:=by refine⟨?_,?_,?_,by rw[hsz];exact f1.size,λb hb hx=> ?_⟩;rcases hw with rfl|rfl<;>exact f1.os;rcases hw with rfl|rfl<;>exact f1.tape;rcases hw with rfl|rfl<;>exact f1.output;rw[hoth b af];exact f1.block b hb hx
 have m:=h.mem.after (gO :=cxl n X w0 I0 bi bm (.mapIter x1 c1 seen' c3) om) (w' :=HI w1 bi (.mapIter x1 c1 seen' c3)) (I' :=g.I) (λ_ _ _ e=>e) (UP h.mem.iw f4 hh) (λb _ hb=>hoth b hb.2.1) (λb o v e _ _=>e) (λb _ hb=>hb) h.mem.kx ⟨fr,by rw[hsz];exact f2,by rw[hsz];exact f3,hself,by rw[hoth bm hne];exact f5⟩ (λb hb=>h.mem.new b (by rw[hsz]at hb;exact hb));exact⟨h.env,h.size,h.defers,m⟩
def kZ{β:Type}:Mp β->List Int|[]=>[]|some (k,_)::r=>k::kZ r|none::r=>kZ r
theorem oD{β:Type}:∀(a b:Mp β),kZ (a++b)=kZ a++kZ b|[],_=>rfl|some (k,_)::r,b=>by simp only[x_,kZ,oD r b]|none::r,b=>by simp only[x_,kZ,oD r b]
def pA(u:Mp Bool):List Int:=(kZ u).mergeSort λx y=>decide (x<=y)
def pY(e:MapEntry):Int:=match e.key with| .int _ n=>n|_=>0
theorem wN{I:Nat->Nat->Option Value}:∀(u:Mp Bool) (es:List MapEntry),h_ I es (u.map (sE bo))->es.map pY=kZ u∧∀e∈es,e.key= .int .i64 (pY e)
 |[],es,h=>by cases h;exact⟨rfl,λe he=>(by cases he)⟩|none::r,es,h=>by cases h with|del h=>exact wN r es h
 |some (k,v)::r,es,h=>by
  cases h with
  | @cons e es _ _ _ _ hk hv h=>
    obtain⟨h1,h2⟩:=wN r es h
    have hke:pY e=k:=by unfold pY;rw[hk]
    refine⟨by rw[n_,h1,hke];rfl,λx hx=> ?_⟩
    rcases bT.1 hx with rfl|hx
    ·rw[hke];exact hk
    ·exact h2 x hx
def PM{u:Mp Bool}{xs:List Int}(h:xs.Perm (kZ u)):(xs.mergeSort λx y=>decide (x<=y))=pA u:=by
 have tr:∀a b c:Int,decide (a<=b)=true->decide (b<=c)=true->decide (a<=c)=true:=λa b c h1 h2=>by simp at*;omega
 have tot:∀a b:Int,(decide (a<=b)||decide (b<=a))=true:=λa b=>aA
 refine List.Perm.eq_of_pairwise (le:=λx y=>decide (x<=y)=true) (λa b _ _ h1 h2=>by simp at*;omega) (List.pairwise_mergeSort tr tot xs) (List.pairwise_mergeSort tr tot _) ?_;exact(List.mergeSort_perm xs _).trans (h.trans (List.mergeSort_perm _ _).symm)
def xx(es:List MapEntry)(seen:Array Nat)(ys:List MapEntry):Prop:=∃rest,(ys++rest).Perm es∧∀e∈rest,seen.contains e.born=false
def xx.nil(es:List MapEntry):xx es #[] []:=⟨es,.refl _,λe _=>ag⟩
theorem xx.push{es:Array MapEntry}{seen:Array Nat}{ys:List MapEntry}(h:xx es.toList seen ys)(hn:(es.toList.map (·.born)).Nodup)(hs:∀y∈ys,seen.contains y.born=true){e:MapEntry}(he:e∈(leftOf es seen).toList):xx es.toList (seen.push e.born) (ys++[e])∧∀y∈ys++[e],(seen.push e.born).contains y.born=true:=by
 obtain⟨rest,h1,h2⟩:=h;obtain⟨k1,k2⟩:=mem_left he;have hr:e∈rest:=by rcases d_.1 (h1.mem_iff.2 k1)with h|h;rw[hs e h]at k2;cases k2;exact h
 obtain⟨r1,r2,rfl⟩:=List.append_of_mem hr;have nd:((ys++(r1++e::r2)).map (·.born)).Nodup:=(List.Perm.nodup_iff (h1.map _)).2 hn;refine⟨⟨r1++r2,?_,λx hx=> ?_⟩,λy hy=> ?_⟩;rw[pP];have pm:(e::(r1++r2)).Perm (r1++e::r2):=(List.perm_middle (a:=e) (l₁:=r1) (l₂:=r2)).symm;exact(List.Perm.append_left ys pm).trans h1;rw[contains_push,Kf];refine⟨h2 x ?_,?_⟩;rcases d_.1 hx with h|h;exact Ci _ h;exact zh _ (ko _ h);rw[beq_eq_false_iff_ne];intro hb;rw[eI,wc]at nd;have nd2:=nd.2.1;rw[eI,n_,wc,uF]at nd2;rcases d_.1 hx with h|h;exact nd2.2.2 _ (dM.2 ⟨x,h,rfl⟩) _ (tj ..) hb;exact nd2.2.1.1 (dM.2 ⟨x,h,hb⟩);rw[contains_push];rcases d_.1 hy with h|h;rw[hs y h];rfl;rw[fY.1 h];simp
def xx.all{es:Array MapEntry}{seen:Array Nat}{ys:List MapEntry}(h:xx es.toList seen ys)(h0:(leftOf es seen).size=0):ys.Perm es.toList:=by obtain⟨rest,h1,h2⟩:=h;have:=all_seen es seen h0;cases rest with|nil=>exact gJ|cons e r=>have k:=this e (h1.mem_iff.1 ag);rw[h2 e ag]at k;cases k
def opsv{P:Program}{ops:Array Oper}{Q:Go.Exit->Act->World->Prop}{i:Nat}{rest:List Nat}{a:Act}{w w' :World}{o:Oper}{v:Value}(ho:ops[i]? =some o)(hg:o.guard=none)(hr:(execOp a.eval o).run P w= .ok (.value v) w')(k:wpOps P ops Q rest (a.put o.dst v) w'):wpOps P ops Q (i::rest) a w:=by
 unfold wpOps;rw[ho];dsimp only;have h1:Region.wanted o (yielded ops a.tmps)=true:=by unfold Region.wanted;rw[hg]
 rw[aq h1];refine .inl ?_;unfold Oper.wp;rw[hr];exact k
def ym{P:Program}{ops:Array Oper}{Q:Go.Exit->Act->World->Prop}{a:Act}{w:World}(h:Q .normal a w):wpOps P ops Q [] a w:=h
def zn{next:Act->World->Prop}{Q:Go.Exit->Act->World->Prop}{a:Act}{w:World}(h:next a w):Go.Exit.then next Q .normal a w:=h
def c407:mC:=cfA Tryz.prog (λn=>Nat.beq n 218) (λ_=>[])
def ok407:vR Tryz.prog c407:=⟨λ_ _ _ _ _ h=>h,λ_ _ _ _ h=>False.elim h,λ_ _ h=>h⟩
def nL{a:Act}{t:Nat}{v:Value}(h:a.tmps[t]? =some v):a.eval (.tmp t)=v:=by show a.tmps.getD t undef=v;rw[Kq,h];rfl
def putAt{a:Act}{t:Nat}{v:Value}(h:t<a.tmps.size):(a.put (some t) v).tmps[t]? =some v:=by show(a.tmps.setIfInBounds t v)[t]? =_;rw[Fs,aq rfl,aq h]
def qB{a:Act}{d:Option Nat}{v:Value}:(a.put d v).tmps.size=a.tmps.size:=by cases d<;>simp[Act.put]
def O'{G:Prop}(h:G:=by simp[execOp,h,hr,Result.andThen]):G:=h
section
variable{P:Program}{a:Act}{o:Oper}{w:World}
def CT{x:Operand}(h:o.op= .assign x):(execOp a.eval o).run P w= .ok (.value (a.eval x)) w:=by simp[execOp,h]
def ex_move{x:Operand}(h:o.op= .move x):(execOp a.eval o).run P w= .ok (.value (a.eval x)) w:=by simp[execOp,h]
def Y6{t:TypeId}{x:Operand}(h:o.op= .range t x){v:Value}{w' :World}(hr:(Instr.range t (a.eval x)).run P w= .ok v w'):(execOp a.eval o).run P w= .ok (.value v) w' :=O'
def SX{x:Operand}{b:Bool}(h:o.op= .next x b){v:Value}{w' :World}(hr:(Instr.next (a.eval x) b o.type).run P w= .ok v w'):(execOp a.eval o).run P w= .ok (.value v) w' :=O'
def Y7{x:Operand}(h:o.op= .entry x){v:Value}{w' :World}(hr:(Instr.entry (a.eval x)).run P w= .ok v w'):(execOp a.eval o).run P w= .ok (.value v) w' :=O'
def zZ{x:Operand}{i:Nat}(h:o.op= .extract x i){vs:Array Value}{v:Value}(hx:a.eval x= .tuple vs)(hv:vs[i]? =some v):(execOp a.eval o).run P w= .ok (.value v) w:=by
 have hr:(Instr.extract (a.eval x) i).run P w= .ok v w:=by rw[hx];simp[Instr.extract,hv]
 simp[execOp,h,hr,Result.andThen]
end
def F7{P:Program}{ops:Array Oper}{Q:Go.Exit->Act->World->Prop}{i:Nat}{rest:List Nat}{a:Act}{w w' :World}{o:Oper}{v:Value}{t:Nat}(ho:ops[i]? =some o)(hg:o.guard=none)(hd:o.dst=some t)(hr:(execOp a.eval o).run P w= .ok (.value v) w')(k:∀a',a' =a.put (some t) v->wpOps P ops Q rest a' w'):wpOps P ops Q (i::rest) a w:=opsv ho hg hr (k _ (by rw[hd]))
def MH{P:Program}{c:mC}{id:Nat}{ops:Array Oper}(hok:vR P c){Q:Go.Exit->Act->World->Prop}{cx:Cx}{t:Nat}(hc:ops.toList.all (λo=> !lq o&&o.guard.isNone&&o.dst !=some t)=true)(hB:F8 P cx.n ops=true){s:St}{K:Out->St->Prop}{g:Gh}{a:Act}{w:World}(hx:eQ P c ops.toList ops.toList s K)(h:Rel cx g s a w)(hq:∀s' g' a' w',K .normal s' ->Ext g g' ->Rel cx g' s' a' w' ->a'.tmps[t]? =a.tmps[t]?->Q .normal a' w'):(Code.region id ops false).wp P Q a w:=by refine wp_region ?_;rw[List.range_eq_range',<-rB];refine Iu hok ops.toList 0 (λk o h=>by rw[eO];exact h) (λo ho=> ?_) hB hx h hq;rw[jN]at hc;have:=hc o ho;simp only[bc,mG,bne_iff_ne,Option.isNone_iff_eq_none]at this;exact⟨this.1.1,this.1.2,this.2⟩
def sW(es:List au)(r:Row):St:={env:=aY (λ_=>none) 3 (some (.ref 9 es.length)),H:=λ_=>none,hn:=[],R:=aY (aY (λ_=>none) 1000 (some r)) 9 (some ⟨1,true,es⟩),rn:=[1000,9],y:= .off}
def sW_R{es:List au}{r0:Row}{k:Nat}{r:Row}(h:(sW es r0).R k=some r):(k=9∧r=⟨1,true,es⟩)∨(k=1000∧r=r0):=by have h' :aY (aY (λ_=>none) 1000 (some r0)) 9 (some (Row.mk 1 true es)) k=some r:=h;unfold aY at h';cases hb:Nat.beq k 9 with|true=>rw[hb]at h';exact .inl ⟨dt hb,by cases h';rfl⟩|false=>rw[hb]at h';cases hb2:Nat.beq k 1000 with|true=>rw[hb2]at h';exact .inr ⟨dt hb2,by cases h';rfl⟩|false=>rw[hb2]at h';cases h'
def Rel.whole{n:Nat}{γ g:Gh}{w0 w:World}{bi bm:Nat}{oi:Obj}{es0:Array MapEntry}{clock:Nat}{ds es:List au}{a:Act}{t:Tv}(h:Rel (cxl n γ.X w0 γ.I bi bm oi (.map es0 clock)) g (sR es) a w)(hm:∀l b,γ.mu l≠some b)(ht:γ.tv 1000=some t)(ho:∀k t',γ.tv k=some t' ->k=1000)(hz:t.sz=0∧t.nest=false)(hn:t.n=ds.length)(hb:t.base=some bm)(hds:∀e∈ds,(cells e).length=0)(hI:j_ γ.I g.I)(hmo:Oq γ.I es0.toList clock ds):∃g',Ext γ g' ∧Rel (Cx.of n γ.X w0 γ.I) g' (sW es ⟨0,true,ds⟩) a w:=by
 have m:=h.mem;have Qd:∀l b,g.mu l≠some b:=λl b e=>by obtain⟨d,hd⟩:=m.gv l b e;cases hd
 have f:=m.frame;have tv9:∀k t',g.tv k=some t' ->k=9:=λk t' e=>by obtain⟨r,hr⟩:=m.gD k t' e;exact(sR_R hr).1
 have bX:γ.X bm:= .inr ⟨1000,t,ht,.inl hb⟩;have bI:∀j,g.I bm j=none:=λj=>by cases e:g.I bm j with|none=>rfl|some v=>obtain⟨_,_,_,k⟩:=r_ (m.iw bm j v e).1 f.2.2.2.2;cases k
 have t1:∀k,k≠1000->aY g.tv 1000 (some t) k=g.tv k:=λk hk=>aP _ _ _ _ hk;refine⟨{g with tv:=aY g.tv 1000 (some t)},⟨hI,λl b e=>absurd e (hm l b),λk t' e=> ?_⟩,?_,h.size,h.defers,?_⟩;have:=ho k t' e;subst this;rw[ht]at e;cases e;exact⟨t,show aY g.tv 1000 (some t) 1000=some t from bw _ _ _,.refl t⟩;intro u d hd;have hd' :(sR es).env u=some d:=hd;obtain⟨rfl,rfl⟩:=P5 hd';obtain⟨t',ht',h1,h2,h3⟩:=(h.env 3 _ hd').nB;exact .ref t' ((t1 9 az).trans ht') h1 h2 h3;refine⟨m.iw,λl d hd=>(by cases hd),λl b e=>absurd e (Qd l b),λl _ b e=>absurd e (Qd l b),λl b e=>absurd e (Qd l b),λk r hr=> ?_,λk u hu=> ?_,λk j u1 u2 b e1 e2 b1 b2=> ?_,λb o v e=>(m.kx b o v e).imp id (λq=>q.1),f.1,λb hb=> .inl (en f.1.size hb)⟩;rcases sW_R hr with⟨rfl,rfl⟩|⟨rfl,rfl⟩;obtain⟨t',k1,k2,k3,k4,k5⟩:=m.row 9 ⟨1,true,es⟩ rfl;refine⟨t',(t1 9 az).trans k1,k2,k3,k4,?_⟩;refine i_.dZ (cx:=cxl n γ.X w0 γ.I bi bm oi (.map es0 clock)) (λb _ q=>q.1) ?_;exact @i_.X7 _ g {g with tv:=aY g.tv 1000 (some t)} w w t' _ (λ_ _ _ e=>e) (λb hb=>⟨rfl,λl=>Qd l b,λ_=>rfl⟩) k5;refine⟨t,show aY g.tv 1000 (some t) 1000=some t from bw _ _ _,hz.1,hn,hds,hz.1,λq=>absurd rfl q,λq=>absurd rfl q,λ_ _=>⟨rfl,bm,es0,clock,hb,.inr bX,λl=>Qd l bm,bI,f.2.2.2.2,hmo.rep.mono hI,hmo.lt,hmo.nd⟩,λ_ e=> ?_⟩;rw[hz.2]at e;cases e;have hu' :aY g.tv 1000 (some t) k=some u:=hu;by_cases hk:k=1000;subst hk;exact nf;rw[t1 k hk]at hu';have:=tv9 k u hu';subst this;exact nf;have e1' :aY g.tv 1000 (some t) k=some u1:=e1;have e2' :aY g.tv 1000 (some t) j=some u2:=e2;have key:∀{u:Tv},g.tv 9=some u->u.vZ bm->False:=λ{u} hu hb=>(m.kr hu hb).2.1.2.2 rfl;have mapb:∀{b:Nat},t.vZ b->b=bm:=λ{b} hb' =>by rcases hb' with e|⟨_,e,_⟩;rw[hb]at e;cases e;rfl;rw[hz.2]at e;cases e
 by_cases hk:k=1000<;>by_cases hj:j=1000;omega;subst hk;rw[bw]at e1';cases e1';rw[t1 j hj]at e2';have:=tv9 j u2 e2';subst this;rw[mapb b1]at b2;exact(key e2' b2).elim;subst hj;rw[bw]at e2';cases e2';rw[t1 k hk]at e1';have:=tv9 k u1 e1';subst this;rw[mapb b2]at b1;exact(key e1' b1).elim;rw[t1 k hk]at e1';rw[t1 j hj]at e2';rw[tv9 k u1 e1',tv9 j u2 e2']
def Y5{N:Act->World->Prop}{M M' :Act->World->Prop}{Q:Go.Exit->Act->World->Prop}{a:Act}{w:World}(h:N a w):Go.Exit.then M' (Go.Exit.then M (Go.Exit.inBlock 0 (Go.Exit.then N Q))) (.exit 0) a w:=by show Go.Exit.inBlock 0 (Go.Exit.then N Q) (.exit 0) a w;simp only[Go.Exit.inBlock,jO];exact h
theorem yt{β:Type}:∀u:Mp β,(kZ u).length<=u.length|[]=>cu _|some (k,v)::r=>by have:=yt r;simp only[kZ,eJ];omega|none::r=>by have:=yt r;simp only[kZ,eJ];omega
def PZ(u:Mp Bool):∀e∈u.map (sE bo),(cells e).length=0:=λe he=>by obtain⟨x,_,rfl⟩:=dM.1 he;cases x with|none=>rfl|some p=>rfl
def sW_nm(es:List au)(r:Row):Nm (sW es r):=by refine⟨λl hl=>absurd rfl hl,λk hk=> ?_⟩;cases h:(sW es r).R k with|none=>exact absurd h hk|some x=>rcases sW_R h with⟨rfl,_⟩|⟨rfl,_⟩;exact ko _ (tj ..);exact tj ..
def Qm(u:Mp Bool)(hl:u.length<=2^30)(γ:Gh)(w0:World)(bm:Nat)(t:Tv)(es:Array MapEntry)(clock:Nat)(hmem:Mem (Cx.of 0 γ.X w0 γ.I) γ (init [.dR 1000] ⟨[],[oC u]⟩) w0)(ht:γ.tv 1000=some t)(hz:t.sz=0∧t.nest=false)(hn:t.n=(u.map (sE bo)).length)(hb:t.base=some bm)(hes:w0.heap[bm]? =some (.map es clock))(hmo:Oq γ.I es.toList clock (u.map (sE bo))):Calls Tryz.prog 407 #[.map (some bm)] w0 λe w' =>match e with| .returned v=>∃γ',Ext γ γ' ∧bG γ' v (ints (pA u))∧Mem (Cx.of 0 γ.X w0 γ.I) γ' (init [] ⟨[],[oC u]⟩) w' |_=>False:=by
 have Qd:∀l b,γ.mu l≠some b:=λl b e=>by obtain⟨d,hd⟩:=hmem.gv l b e;cases hd
 have only:∀k t',γ.tv k=some t' ->k=1000:=λk t' e=>by obtain⟨r,hr⟩:=hmem.gD k t' e;have hr' :mz [oC u] 1000 (λ_=>none) k=some r:=hr;rw[zw]at hr';split at hr';rename_i hle;have:=aH hr';simp at this;omega;cases hr'
 have hbl:bm<w0.heap.size:=cJ hes;obtain⟨hkeys,hkey⟩:=wN u es.toList hmo.rep;refine calls_of_wp (fn:=Tryz.f407) Tryz.func407 rfl ?_;have z0:∃a0:Act,a0={tmps:= #[.map (some bm)]++Array.replicate (Tryz.f407.ntmps - #[Value.map (some bm)].size) undef,defers:=[]}∧a0.tmps.size=18∧a0.tmps[0]? =some (.map (some bm))∧a0.defers=[]:=⟨_,rfl,rfl,rfl,rfl⟩;obtain⟨a0,e0,s0,t0,d0⟩:=z0;rw[<-e0];clear e0;have hrange:(Instr.range 470 (.map (some bm))).run Tryz.prog w0= .ok (.pointer (some ⟨w0.heap.size,0,none⟩)) (w0.alloc (.mapIter (some bm) clock #[] clock)):=run_range_map w0 470 3 4 bm es clock aB hes;refine wp_seq (wp_region (F7 rfl rfl rfl (CT rfl) λa1 h1=>ym (zn ?_)));refine wp_seq (wp_region (F7 rfl rfl rfl (CT rfl) λa2 h2=>ym (zn ?_)));have f1:a1.tmps.size=18:=by rw[h1,qB];exact s0
 have f2:a2.tmps.size=18:=by rw[h2,qB];exact f1
 have g2:a2.tmps[0]? =some (.map (some bm)):=by rw[h2,iq az,h1,iq az];exact t0
 have g3:a2.tmps[3]? =some (.slice none 0 0):=by rw[h2,putAt af];rfl
 refine wp_seq (wp_seq (wp_region (F7 rfl rfl rfl (ex_move rfl) λa3 h3=> ?_)));have h3' :a3=a2.put (some 5) (.map (some bm)):=by rw[h3,nL g2]
 have f3:a3.tmps.size=18:=by rw[h3',qB];exact f2
 have g5:a3.tmps[5]? =some (.map (some bm)):=by rw[h3',putAt af]
 refine F7 rfl rfl rfl (Y6 rfl (by rw[nL g5];exact hrange)) λa4 h4=>ym (zn ?_);have f4:a4.tmps.size=18:=by rw[h4,qB];exact f3
 have g6:a4.tmps[6]? =some (.pointer (some ⟨w0.heap.size,0,none⟩)):=by rw[h4,putAt af]
 have g7:a4.tmps[3]? =some (.slice none 0 0):=by rw[h4,iq az,h3',iq az];exact g3
 have d4:a4.defers=[]:=by rw[h4,h3',h2,h1];exact d0
 have mI:∀j,γ.I w0.heap.size j=none:=λj=>by cases e:γ.I w0.heap.size j with|none=>rfl|some v=>exact absurd (mB (hmem.iw _ j v e).1) (fP _)
 have hp:=hmem.push (.mapIter (some bm) clock #[] clock);have heq:w0.alloc (.mapIter (some bm) clock #[] clock)=dN w0 (.mapIter (some bm) clock #[] clock):=rfl;have hsz:(w0.alloc (.mapIter (some bm) clock #[] clock)).heap.size=w0.heap.size+1:=by rw[heq];simp[dN]
 have rel0:Rel (cxl 18 γ.X w0 γ.I w0.heap.size bm (.mapIter (some bm) clock #[] clock) (.map es clock)) ⟨γ.I,λ_=>none,aY (λ_=>none) 9 (some (Tv.pl 1 0 none 0))⟩ (sR []) a4 (w0.alloc (.mapIter (some bm) clock #[] clock)):=by
  have tv9:∀k t',aY (λ_=>none) 9 (some (Tv.pl 1 0 none 0)) k=some t' ->k=9∧t' =Tv.pl 1 0 none 0:=λk t' e=>by by_cases hk:k=9;subst hk;rw[bw]at e;cases e;exact⟨rfl,rfl⟩;rw[aP _ _ _ _ hk]at e;cases e
  refine⟨λx d hd=> ?_,f4,d4,?_⟩;obtain⟨rfl,rfl⟩:=P5 hd;have h0:a4.tmps.getD 3 undef= .slice none 0 0:=by rw[Kq,g7];rfl
  rw[h0];exact .ref (Tv.pl 1 0 none 0) rfl (cu 0) (λ_=>rfl) ⟨none,0,rfl⟩;refine⟨hp.iw,λl d hd=>(by cases hd),λl b e=>bM,λl _ b e=>bM,λl b e=>bM,λk r hr=> ?_,λk u hu=> ?_,λk j u1 u2 b e1 e2 _ _=> ?_,λb o v e=> .inl e,⟨⟨rfl,rfl,rfl,af,λb hb _=>heap_alloc_old w0 _ hb⟩,af,af,heap_alloc_new w0 _,(heap_alloc_old w0 _ hbl).trans hes⟩,λb hb=>⟨.inl af,af,af⟩⟩;obtain⟨rfl,rfl⟩:=sR_R hr;exact⟨Tv.pl 1 0 none 0,rfl,rfl,rfl,(λe he=>by cases he),⟨rfl,λ_ _=>⟨rfl,rfl⟩,λ_ e=>bM,λe=>absurd e s_,λe=>absurd e s_⟩⟩;obtain⟨rfl,rfl⟩:=tv9 k u hu;exact nf;rw[(tv9 k u1 e1).1,(tv9 j u2 e2).1]
 refine wp_block (wp_loop (λa w=>∃seen ys g,Rel (cxl 18 γ.X w0 γ.I w0.heap.size bm (.mapIter (some bm) clock seen clock) (.map es clock)) g (sR ((ys.map pY).map it)) a w∧a.tmps[6]? =some (.pointer (some ⟨w0.heap.size,0,none⟩))∧j_ γ.I g.I∧xx es.toList seen ys∧∀y∈ys,seen.contains y.born=true)
  (λa w=>(leftOf es (w.iterSeen w0.heap.size)).size) ⟨#[],[],⟨γ.I,λ_=>none,aY (λ_=>none) 9 (some (Tv.pl 1 0 none 0))⟩,rel0,g6,λ_ _ _ h=>h,xx.nil _,λy hy=>by cases hy⟩ ?_)
 rintro a w ⟨seen,ys,g,rel,q6,hI,hs1,hs2⟩
 obtain⟨fr1,fr2,fr3,fr4,fr5⟩:=rel.mem.frame;have hse:w.iterSeen w0.heap.size=seen:=by unfold World.iterSeen;rw[fr4]
 have hsza:a.tmps.size=18:=rel.size;rcases next_at (P:=Tryz.prog) w 0 w0.heap.size bm clock clock seen es clock fr4 fr5 hmo.lt (cu _)with⟨hdone,hrun⟩|⟨e,he,w1,hw1,hrun⟩;refine wp_seq (wp_region (F7 rfl rfl rfl (SX rfl (by rw[nL q6];exact hrun)) λb1 k1=> ?_));have z1:b1.tmps.size=18:=by rw[k1,qB];exact hsza
 refine F7 rfl rfl rfl (zZ rfl (nL (by rw[k1];exact putAt af)) rfl) λb2 k2=>ym (zn ?_);refine wp_seq (wp_cond_split (t:=false) (nL (by rw[k2];exact putAt af)) (λe=>bM) (λ_=>wp_exit (Y5 ?_)));have relb:Rel (cxl 18 γ.X w0 γ.I w0.heap.size bm (.mapIter (some bm) clock seen clock) (.map es clock)) g (sR ((ys.map pY).map it)) b2 w:=by rw[k2,k1];exact(rel.Cz rfl _).Cz rfl _
 have hperm:=xx.all hs1 hdone;have hsort:((ys.map pY).mergeSort λx y=>decide (x<=y))=pA u:=PM (by rw[<-hkeys];exact hperm.map _);have hlen:(ys.map pY).length<2^62:=by have h1:=yt u;have h2:=(hperm.map pY).length_eq;rw[hkeys]at h2;omega
 obtain⟨g',hE,relW⟩:=Rel.whole relb Qd ht only hz hn hb (λe he=>PZ u e he) hI hmo;have e1:((ys.map pY).mergeSort λx y=>decide (x<=y)).map it=(pA u).map it:=by rw[hsort]
 clear relb rel hs1 hs2 hperm hsort;generalize ys.map pY=zs at relW hlen e1;have cs:=sort_ok zs hlen;refine wpIn_wide.1 (mi (P:=Tryz.prog) hm ok407 (M:=none) (ro:=none) (n:=0) (cx:=Cx.of 18 γ.X w0 γ.I) _ aB (.inr rfl) (sW (zs.map it) ⟨0,true,u.map (sE bo)⟩) (λe s=>match e with| .exit _=>False| .DX _=>False|_=>fin Tryz.prog [] s Tryz.f407.results.toList 0 1 (ints (pA u)) ⟨[],[oC u]⟩) g' b2 w _ ?_ relW rfl (sW_nm _ _) λe s' gO g2 a' w' k1 k2 k3 k4 k5 k6=> ?_);clear hrange hmem hes hmo hkey z1 k1 k2 relW rel0 hp hrun fr1 fr2 fr3 fr4 fr5;refine aN ?_;exact fu.mk (aL (λx=>au.sl 1 x false) e1) rfl;have hcx:gO =Cx.of 18 γ.X w0 γ.I:=k3.same rfl rfl;subst hcx;have key:fin Tryz.prog [] s' Tryz.f407.results.toList 0 1 (ints (pA u)) ⟨[],[oC u]⟩->a'.defers=[]∧∃v,(results Tryz.f407 a'.tmps).run Tryz.prog w' = .ok v w' ∧∃γ',Ext γ γ' ∧bG γ' v (ints (pA u))∧Mem (Cx.of 0 γ.X w0 γ.I) γ' (init [] ⟨[],[oC u]⟩) w' :=λhf=>⟨k6.defers,IM (P:=Tryz.prog) k6 (hE.trans k5) hmem aB hf⟩;cases e with|normal=>exact key k1|ret=>exact key k1|exit id=>exact k1.elim|DX q=>exact k1.elim
 ·obtain⟨he1,he2⟩:=mem_left he;have rel2:=rel.next (seen' :=seen.push e.born) (c3:=clock) hw1 (cu _) (λx=>af)
  obtain⟨_,_,_,y4,y5⟩:=rel2.mem.frame;have hent:=Za (P:=Tryz.prog) _ w0.heap.size bm clock seen es clock e y4 y5 he1 hmo.nd;generalize HI w1 w0.heap.size (.mapIter (some bm) clock (seen.push e.born) clock)=w2 at rel2 y4 y5 hrun hent;refine wp_seq (wp_region (F7 rfl rfl rfl (SX rfl (by rw[nL q6];exact hrun)) λb1 k1=> ?_));have z1:b1.tmps.size=18:=by rw[k1,qB];exact hsza
  refine F7 rfl rfl rfl (zZ rfl (nL (by rw[k1];exact putAt af)) rfl) λb2 k2=>ym (zn ?_);have z2:b2.tmps.size=18:=by rw[k2,qB];exact z1
  refine wp_seq (wp_cond_split (t:=true) (nL (by rw[k2];exact putAt af)) (λ_=>wp_skip (zn ?_)) (λe=>bM));have q62:b2.tmps[6]? =some (.pointer (some ⟨w0.heap.size,0,none⟩)):=by rw[k2,iq az,k1,iq az];exact q6
  refine wp_block (wp_seq (wp_region (F7 rfl rfl rfl (Y7 rfl (by rw[nL q62];exact hent)) λb3 k3=> ?_)));have z3:b3.tmps.size=18:=by rw[k3,qB];exact z2
  refine F7 rfl rfl rfl (zZ rfl (nL (by rw[k3];exact putAt af)) rfl) λb4 k4=> ?_;have z4:b4.tmps.size=18:=by rw[k4,qB];exact z3
  refine F7 rfl rfl rfl (CT rfl) λb5 k5=>ym (zn ?_);have k5' :b5=b4.put (some 4) (.int .i64 (pY e)):=by rw[k5,nL (by rw[k4];exact putAt af),hkey e he1];rfl
  have rel3:Rel (cxl 18 γ.X w0 γ.I w0.heap.size bm (.mapIter (some bm) clock (seen.push e.born) clock) (.map es clock)) g (sR ((ys.map pY).map it)) b4 w2:=by rw[k4,k3,k2,k1];exact(((rel2.Cz rfl _).Cz rfl _).Cz rfl _).Cz rfl _
  have rel4:=rel3.put (dst:=some 4) rfl (v:= .int .i64 (pY e)) (d:=it (pY e)) (.pure (.int _ _));rw[<-k5']at rel4;have q65:b5.tmps[6]? =some (.pointer (some ⟨w0.heap.size,0,none⟩)):=by rw[k5',iq az,k4,iq az,k3,iq az];exact q62
  have eapp:((ys++[e]).map pY).map it=(ys.map pY).map it++[it (pY e)]:=ag
  refine MH ok407 (t:=6) (cx:=cxl 18 γ.X w0 γ.I w0.heap.size bm (.mapIter (some bm) clock (seen.push e.born) clock) (.map es clock)) (K:=λ_ s' =>s'.env 3=some (.ref 9 ((ys.map pY).map it++[it (pY e)]).length)∧s'.R 9=some ⟨1,true,(ys.map pY).map it++[it (pY e)]⟩) aB aB ?_ rel4 λs' g' a' w' hK hx hr hk=> ?_;have hzl:((ys.map pY).map it).length<=2^30:=(by obtain⟨rest,p1,_⟩:=hs1;have p2:=p1.length_eq;have p3:=yt u;rw[<-hkeys]at p3;simp at p2 p3 ⊢;omega);generalize (ys.map pY).map it=zs at hzl ⊢;generalize pY e=kk;clear hrange hmem hes hmo hkey z1 k1 k2 rel0 hp hrun fr1 fr2 fr3 fr4 fr5 rel rel2 rel3 rel4;refine run ?_;exact⟨rfl,rfl⟩;obtain⟨g'',hI'',relO⟩:=hr.only hK.1 hK.2;rw[<-eapp]at relO;obtain⟨_,_,_,x4,_⟩:=relO.mem.frame;have hp2:=xx.push hs1 hmo.nd hs2 he;have hse' :w'.iterSeen w0.heap.size=seen.push e.born:=by unfold World.iterSeen;rw[x4]
  show(∃seen ys g,_)∧_;refine⟨⟨seen.push e.born,ys++[e],g'',relO,hk.trans q65,λb o v h=>by rw[hI''];exact hx.I _ _ _ (hI _ _ _ h),hp2.1,hp2.2⟩,?_⟩;show(leftOf es (w'.iterSeen w0.heap.size)).size<(leftOf es (w.iterSeen w0.heap.size)).size;rw[hse',hse];exact left_shrinks es seen e he
def list_c(u:Mp Bool)(hl:u.length<=2^30)(hk:u.length=(kZ u).length):aj Tryz.prog 407 [.dR 1000] ⟨[],[oC u]⟩ (ints (pA u)) ⟨[],[oC u]⟩:=by refine⟨⟨_,Tryz.func407,aB,aB⟩,λγ w vs hs hrep hmem=> ?_⟩;obtain⟨v0,rfl⟩:=KM (hs:vs.size=1);obtain⟨t,b,ht,hz,hb,rfl⟩:=(hrep 0 v0 _ rfl rfl).M6;obtain⟨t',ht',h1,h2,h3,h4⟩:=hmem.row 1000 (oC u) rfl;rw[ht]at ht';cases ht';obtain⟨_,b',es,clock,k1,k2,k3,k4,k5,k6⟩:=h4.m rfl hz.2;rw[hb]at k1;cases k1;refine Calls.mono (Qm u hl γ w b t es clock hmem ht hz h2 hb k5 k6) λe w' h=> ?_;cases e with|returned v=>exact h|panicked ch=>exact h.elim|outgrown=>exact h.elim
def JF{G:Prop}(h:G:=by intro u hu;rw[oK _ _ _ _ _ _ _ (by omega)];exact hu):G:=h
structure On(ids:List Int)(u:Mp Bool):Prop where
 len:u.length=(kZ u).length
 mem:∀k∈kZ u,k∈ids
 nd:(kZ u).Nodup
def On.nil(ids:List Int):On ids []:=⟨rfl,λ_ h=>jl,xV⟩
theorem zP{β:Type}{n:Int}:∀{u:Mp β},wO n u=none->n∉kZ u
 |[],_,h=>by cases h|some (k,v)::r,h,hm=>by simp only[wO]at h;cases hb:n==k with|true=>rw[hb]at h;cases h|false=>rw[hb]at h;rcases bT.1 hm with e|hm;rw[e]at hb;simp at hb;exact zP (u:=r) h hm
 |none::r,h,hm=>zP (u:=r) h hm
def On.put{ids:List Int}{u:Mp Bool}(h:On ids u){n:Int}(hn:n∈ids):On ids (Qj n true u):=by
 unfold Qj;split;rename_i i hi;obtain⟨l,v,r,rfl,hj,_,_⟩:=Gl hi;have hil:i=l.length:=af
 subst hil;have e:(l++some (n,v)::r).set l.length (some (n,true))=l++some (n,true)::r:=ag
 rw[e];have hk:kZ (l++some (n,true)::r)=kZ (l++some (n,v)::r):=by rw[oD,oD];rfl
 exact⟨by rw[hk,<-h.len];simp,by rw[hk];exact h.mem,by rw[hk];exact h.nd⟩;rename_i hi;have hno:=zP (Gm hi);refine⟨by rw[oD];simp[h.len,kZ],λk hk=> ?_,?_⟩;rw[oD]at hk;rcases d_.1 hk with hk|hk;exact h.mem k hk;rcases bT.1 hk with rfl|hk;exact hn;cases hk;rw[oD,wc];refine⟨h.nd,by simp[kZ],λa ha b hb=> ?_⟩;rcases bT.1 hb with rfl|hb;intro e;subst e;exact hno ha;cases hb
theorem wK{α:Type}[DecidableEq α]:∀{l m:List α},l.Nodup->(∀x∈l,x∈m)->l.length<=m.length|[],_,_,_=>dL _|x::l,m,hn,hs=>by have hx:=hs x ag;have hn' :=uF.1 hn;have:=wK (l:=l) (m:=m.erase x) hn'.2 (λy hy=>(List.mem_erase_of_ne (λe=>hn'.1 (by rw[<-e];exact hy))).2 (hs y oT));rw[List.length_erase_of_mem hx]at this;have:=List.length_pos_of_mem hx;exact aA
def On.le{ids:List Int}{u:Mp Bool}(h:On ids u):u.length<=ids.length:=by rw[h.len];exact wK h.nd h.mem
def apOne_u{ids:List Int}{op:Int}{x y:Av}{s:Us}{r:Ru}(h:On ids s.2)(hr:r.id∈ids):On ids (sb op x y s r).2:=by unfold sb;split;exact h;split;split;exact h;exact h.put hr;exact h
theorem apK_u{ids:List Int}{op:Int}{x y:Av}:∀{l:List Ru} {s:Us},On ids s.2->(∀r∈l,r.id∈ids)->On ids (pJ op x y s l).2|[],_,h,_=>h|r::l,s,h,hl=>apK_u (l:=l) (s:=sb op x y s r) (apOne_u h (hl r ag)) (λq hq=>hl q (by simp[hq]))
def Lu{d:Df}{f:Fa}{rules:List Ru}{vars na:Int}{k:Nat}{e:Ex}{z:Nat}(he:jY vars na k e z):∀u,On (rules.map (·.id)) u->On (rules.map (·.id)) (gL d rules f e u).2:=by have hl:∀r∈rules,r.id∈rules.map (·.id):=λr hr=>dM.2 ⟨r,hr,rfl⟩;induction he with|num h=>exact JF|var h=>exact JF|len h=>exact JF|bin h _ _ iha ihb=>intro u hu;rw[CU _ _ _ _ _ _ _ h];exact apK_u (ihb _ (iha u hu)) hl
def HY{u:Mp Bool}{k:Int}:k∈pA u↔k∈kZ u:=by unfold pA;exact List.mem_mergeSort
def Tk{ids:List Int}{u:Mp Bool}(h:On ids u):(pA u).length<=ids.length:=by have:=h.le;rw[h.len]at this;unfold pA;rw[List.length_mergeSort];exact this
def eval_c{d:Df}{f:Fa}{rules:List Ru}(hd:yG d)(hf:qO d f)(hl:rules.length<=2^30)(hr:∀r∈rules,HR r){k:Nat}{e:Ex}{z:Nat}(he:jY d.vars d.aK.length k e z):C 347 [bQ d,fj 10 gM rules,bg f,cI e] (.bR [ai (gL d rules f e []).1,ints (pA (gL d rules f e []).2)]):=by have c1:=evalU_c hd hf hl hr he [];have hu:=Lu (d:=d) (f:=f) (rules:=rules) he [] (On.nil _);have hle:=hu.le;rw[cZ]at hle;have c2:=list_c (gL d rules f e []).2 af hu.len;generalize gL d rules f e []=R at c1 c2 ⊢;obtain⟨a,u⟩:=R;dsimp only at c1 c2 ⊢;refine fo Tryz.func347 ?_;exact aW
abbrev Rs:=Wk×Bool
def Rs.and(r:Rs)(k:Wk->Rs):Rs:=if r.2=true then r else k r.1
def wF(w:Wk)(ok:Bool):Rs:=(w,!ok)
def cV(c:Wc)(kind:Int)(certain:Bool)(w:Wk):Wk:=if certain=true then w else{w with fd:=rX (λy=>kK y ⟨c.d.id,c.s.site,kind⟩) ⟨c.d.id,c.s.site,kind⟩ w.fd}
def sK(c:Wc)(a b:Int)(w:Wk):Wk:={w with ps:=rX (λy=>fU y ⟨a,b,c.s.site⟩) ⟨a,b,c.s.site⟩ w.ps}
def wj(l:List Int)(id:Int):List Int:=rX (λy=>jA y id) id l
def kS(c:Wc)(e:Ex)(w:Wk):Wk:={w with us:=(pA (gL c.d c.rules w.f e []).2).foldl wj w.us}
def iC(c:Wc)(e:Ex)(w:Wk):Av:=(gL c.d c.rules w.f e []).1
def g_(c:Wc)(a:Av)(w:Wk):Wk:={w with f:=MC w.f c.s.n a zEx}
def gY(c:Wc)(e:Ex)(r:pL)(kind:Int)(w:Wk):Rs:=if vT (iC c e w) (jj r)=true then(kS c e w,false)else match kY (iC c e w) (jj r)with|some m=>(if e.op=2 then vF e.n m (cV c kind false (kS c e w))else cV c kind false (kS c e w),false)|none=>(cV c kind false (kS c e w),true)
def Ui(x:Ex):Co:= .mk 3 [.mk 1 0 0 [],x] []
def IE(m:Int)(x:Ex):Co:= .mk 2 [x,.mk 3 m 0 []] []
def iZ(c:Wc)(w:Wk):Rs:=if YC c.d w.f c.s.m c.s.x (iC c c.s.x w)=true then(kS c c.s.x w,false)else({cV c 1 false (kS c c.s.x w)with f:=dW c.d (.mk 6 [] [Ui c.s.x,IE c.s.m c.s.x]) w.f true},(dW c.d (.mk 6 [] [Ui c.s.x,IE c.s.m c.s.x]) w.f true).dead)
def aQ(w:Wk)(n:Int):Rf:=w.f.refs.getD n.toNat ⟨0,zR⟩
def eh(n s:Int)(a:Av)(w:Wk):Wk:={w with f:={w.f with refs:=w.f.refs.set n.toNat ⟨s,a⟩}}
def iF(c:Wc)(n:Int)(w:Wk):Rs:=wF (cV c 2 (bz (aQ w n).s 1==0) w) (!((aQ w n).s==1))
def r7(c:Wc)(n:Int)(a:Av)(w:Wk):Rs:=(wF (cV c 3 (bz (aQ w n).s 2==0) w) (!((aQ w n).s==2))).and λw=>(eh n 2 a w,false)
def pV(x:Int)(k:Nat):Bool:=bz (x.fdiv (2^(min k 64))) 1==1
def zI(site may aM:Int)(a:Nat)(ps:List Pa)(b:Nat):List Pa:=if (!(a==b)&&(pV may a&&pV aM b))=true then rX (λy=>fU y ⟨a,b,site⟩) ⟨a,b,site⟩ ps else ps
def Bm(site may aM:Int)(ps:List Pa)(a:Nat):List Pa:=(List.range 8).foldl (zI site may aM a) ps
def WW(site may aM:Int)(ps:List Pa):List Pa:=(List.range 8).foldl (Bm site may aM) ps
def nV(c:Wc)(aM:Int)(w:Wk):Wk:={w with wR:=iD w.wR aM,ps:=WW c.s.site w.f.may aM w.ps}
def gE(c:Wc)(w:Wk):Rs:=
 if c.s.op=6 then r7 c c.s.n zR w
 else if c.s.op=7 then(iF c c.s.n w).and λw=>(eh c.s.n 1 zR w,false)
 else if c.s.op=8 then(iF c c.s.m w).and λw=>if c.s.n=c.s.m then(eh c.s.n 2 (aQ w c.s.m).a w,false)else(r7 c c.s.n (aQ w c.s.m).a w).and λw=>(eh c.s.m 1 zR w,false)
 else if c.s.op=9 then(iF c c.s.n w).and λw=>(eh c.s.n 2 (iC c c.s.x w) (kS c c.s.x w),false)
 else if c.s.op=10 then(iF c c.s.m w).and λw=>(g_ c (aQ w c.s.m).a (eh c.s.m 2 (aQ w c.s.m).a w),false)
 else(w,false)
def dj(l:List pL)(n:Int):pL:=l.getD n.toNat ⟨0,0,0⟩
def pW(l:List Qu)(n:Int):Qu:=l.getD n.toNat ⟨0,⟨0,0,0⟩⟩
def dS(l:List Int)(n:Int):Int:=l.getD n.toNat 0
def SB(a:Av)(sink:Int):Av:={a with mask:=bz a.mask sink}
def rN(c:Wc)(w:Wk):Rs:=
 if c.s.op=5 then gY c c.s.x (dj c.p.d.globals c.s.m) 12 w
 else if c.s.op=18 then gY c c.s.x (pW c.p.d.eP c.s.m).r 12 w
 else if c.s.op=21 then
  (if c.s.x.op=2 then vF c.s.x.n (SB (gV w.f c.s.x.n) (dS c.p.d.sinks c.s.m)) (cV c 7 (kO (iC c c.s.x w).mask (dS c.p.d.sinks c.s.m)==0) (kS c c.s.x w))
   else cV c 7 (kO (iC c c.s.x w).mask (dS c.p.d.sinks c.s.m)==0) (kS c c.s.x w),false)
 else(w,false)
def gZ(m:Int):Int:=IntKind.i64.wrap (1*2^(min m.toNat IntKind.i64.bits))
def sN(c:Wc)(w:Wk):Rs:=
 if c.s.op=17 then(wF (cV c 5 (!(bz w.f.ew (gZ c.s.m)==0)) w) (!(bz w.f.may (gZ c.s.m)==0))).and λw=>({w with f:={w.f with ew:=kO w.f.ew (gZ c.s.m),may:=kO w.f.may (gZ c.s.m)}},false)
 else(wF (cV c 4 (bz w.f.may (gZ c.s.m)==0) w) (bz w.f.ew (gZ c.s.m)==0)).and λw=>((λw:Wk=>{w with f:={w.f with ew:=iD w.f.ew (gZ c.s.m),may:=iD w.f.may (gZ c.s.m)}}) (nV c (gZ c.s.m) w),false)
def jt(bits:Int)(w:Wk):Wk:=if bits=0 then w else{w with ths:=bits,th:=w.f}
def A'(b:Int)(w:Wk):Wk:={w with f:={w.f with parts:=iD w.f.parts b}}
def fV(c:Wc)(h:Hd):List Ex->Nat->Wk->Rs|[],_,w=>(w,false)|e::l,i,w=>(gY c e (dj h.params i) 11 w).and (fV c h l (i+1))
def tT(c:Wc)(h:Hd)(n:Int)(i:Nat)(w:Wk):Rs:=(iF c n w).and λw1=>(wF (cV c 11 (vT (aQ w n).a (jj (dj h.given i))) w1) (kY (aQ w n).a (jj (dj h.given i))).isSome).and λw=>(eh n 1 zR w,false)
def fO(c:Wc)(h:Hd):List Int->Nat->Wk->Rs|[],_,w=>(w,false)|n::l,i,w=>(tT c h n i w).and (fO c h l (i+1))
def PQ(c:Wc)(y:Sy)(w:Wk):Wk:=
 let w:=cV c 4 (bz y.aM w.f.may==0) w;let w:=y.dY.foldl (λw (x:Pa)=>sK c x.a x.b w) w;let w:=A' y.mS (jt y.pU (nV c y.aM w))
 if c.s.n>=0 then g_ c ⟨y.LR,y.LS,y.rm,y.rr,y.nW⟩ w else w
def qh(c:Wc)(h:Hd)(y:Sy)(w:Wk):Rs:=(fV c h c.s.args 0 (A' (gZ h.part) (cV c 13 (pV w.f.parts h.part.toNat) w))).and λw=>(fO c h c.s.cO 0 w).and λw=>(PQ c y w,false)
def kC(c:Wc)(h:Hd)(y:Sy)(w:Wk):Rs:=
 if c.s.op=1 then({kS c c.s.x w with f:=MC w.f c.s.n (iC c c.s.x w) c.s.x},false)
 else if c.s.op=2 then(iZ c w).and λw=>(g_ c (Hq (dS w.f.arr c.s.m)) w,false)
 else if c.s.op=3 then(iZ c w).and λw=>((λv:Wk=>{v with f:={v.f with arr:=v.f.arr.set c.s.m.toNat (iD (dS v.f.arr c.s.m) (iC c c.s.y w).mask)}}) (kS c c.s.y w),false)
 else if c.s.op=4 then(g_ c (jj (dj c.p.d.globals c.s.m)) w,false)
 else if c.s.op=19 then(g_ c (jj (pW c.p.d.eP c.s.m).r) w,false)
 else if c.s.op=20 then(g_ c (jj (dj c.p.d.ft c.s.m)) w,false)
 else if c.s.op=5∨c.s.op=18∨c.s.op=21 then rN c w
 else if c.s.op=6∨c.s.op=7∨c.s.op=8∨c.s.op=9∨c.s.op=10 then gE c w
 else if c.s.op=16∨c.s.op=17 then sN c w
 else if c.s.op=22 then(A' (gZ c.s.m) w,false)
 else if c.s.op=23 then({cV c 10 (dW c.d c.s.c w.f false).dead w with f:=dW c.d c.s.c w.f true},false)
 else if c.s.op=14 then(jt (gZ c.s.v) w,true)
 else if c.s.op=13 then qh c h y w
 else(w,false)
def yW(c:Wc)(h:Hd)(y:Sy)(w:Wk):Wk:=if (kC c h y w).2=true then{(kC c h y w).1 with f:=gU}else(kC c h y w).1
def zeroF:Fa:=⟨false,[],[],[],[],0,0,0⟩
def wk0(f:Fa):Wk:=⟨zeroF,gU,0,0,[],[],[],f⟩
def nk(c:Wc)(h:Hd)(y:Sy)(f:Fa):Wk:=if f.dead=true then{wk0 f with nx:=gU}else(λw:Wk=>{w with nx:=pI c.d c.level w.f,th:=pI c.d c.level w.th}) (yW c h y (wk0 f))
def Kl:=@List.pairwise_iff_getElem
def EB:=@List.pairwise_cons
def J6:=@List.Pairwise.imp
def VY{G:Prop}(h:G:=by have:jA a.kind b.kind<0:=h;rw[BZ]at this;omega):G:=h
def Pd{G:Prop}(h:G:=by unfold jA;(repeat' split)<;>omega):G:=h
section
variable{α:Type}
def GG(c:α->Int)(x:α):rX c x []=[x]:=rfl
def CN(c:α->Int)(x y:α)(l:List α):rX c x (y::l)=if c y<0 then y::rX c x l else if c y=0 then y::l else x::y::l:=by unfold rX;by_cases h:c y<0;simp only[qf,posOf,aq h];split<;>simp;simp only[qf,posOf,ah h];by_cases h0:c y=0;simp[h0];have:(c y==0)=false:=(by simpa using h0);simp[this,h0]
theorem rR{c:α->Int}{x:α}:∀{l:List α} {z:α},z∈rX c x l->z=x∨z∈l|[],z,h=>by rw[GG]at h;exact gI|y::l,z,h=>by rw[CN]at h;split at h;rcases bT.1 h with rfl|h;simp;rcases rR h with h|h;exact .inl h;simp[h];split at h;exact .inr h;exact gI
theorem wW{c:α->Int}{x:α}:∀{l:List α},(rX c x l).length<=l.length+1|[]=>by simp[GG]|y::l=>by rw[CN];split;have:=wW (c:=c) (x:=x) (l:=l);exact aA;split<;>simp
structure Ow(c:α->α->Int):Prop where
 tr:∀{x y z},c x y<0->c y z<=0->c x z<0
 sym:∀{x y},0<c x y->c y x<0
def Fc(c:α->α->Int)(l:List α):Prop:=l.Pairwise λx y=>c x y<0
def Fc.mono{c:α->α->Int}(hc:Ow c){l:List α}(h:Fc c l)(x:α):Ht (λy=>c y x) l:=λi j hi hj hij hle=>hc.tr (Kl.1 h i j hi hj hij) hle
theorem Fc.ins{c:α->α->Int}(hc:Ow c){x:α}:∀{l:List α},Fc c l->Fc c (rX (λy=>c y x) x l)|[],_=>by rw[GG];exact List.pairwise_singleton _ _|y::l,h=>by have h' :=EB.1 h;rw[CN];split;rename_i hy;refine EB.2 ⟨λz hz=> ?_,Fc.ins hc h'.2⟩;rcases rR hz with rfl|hz;exact hy;exact h'.1 z hz;rename_i hy;split;exact h;rename_i h0;have hxy:c x y<0:=hc.sym af;refine EB.2 ⟨λz hz=> ?_,h⟩;rcases bT.1 hz with rfl|hz;exact hxy;exact hc.tr hxy (xT (h'.1 z hz))
end
def E7:Ow jA:=⟨λ{x y z} h1 h2=>by unfold jA at*;split at h1<;>split at h2<;>(repeat' split at h1)<;>(repeat' split at h2)<;>(repeat' split)<;>omega,λ{x y} h=>by unfold jA at*;(repeat' split at h)<;>(repeat' split)<;>omega⟩
def BZ{x y:Int}:jA x y<0↔x<y:=Pd
def S9{x y:Int}:jA x y<=0↔x<=y:=Pd
def E8{x y:Int}:jA x y=0↔x=y:=Pd
def G':Ow kK:=⟨λh1 h2=>E7.tr h1 h2,λh=>E7.sym h⟩
def G_{x y:Pa}:fU x y<0↔x.a<y.a∨(x.a=y.a∧x.b<y.b):=by unfold fU;by_cases h:x.a=y.a;rw[ah (by rw[E8.2 h];exact λe=>e rfl),BZ];omega;rw[aq (λe=>h (E8.1 e)),BZ];omega
def Oa{x y:Pa}:fU x y<=0↔x.a<y.a∨(x.a=y.a∧x.b<=y.b):=by unfold fU;by_cases h:x.a=y.a;rw[ah (by rw[E8.2 h];exact λe=>e rfl),S9];omega;rw[aq (λe=>h (E8.1 e)),S9];omega
def xp:Ow fU:=⟨λ{x y z} h1 h2=>by rw[G_]at*;rw[Oa]at h2;omega,λ{x y} h=>by
 have:¬fU x y<=0:=af
 rw[Oa]at this;rw[G_];omega⟩
structure iK(c:Wc)(w:Wk):Prop where
 f:qO c.d w.f
 fd:Fc kK w.fd
 fk:∀x∈w.fd,1<=x.kind∧x.kind<=14
 ps:Fc fU w.ps
 us:Fc jA w.us
 um:∀k∈w.us,k∈c.rules.map (·.id)
def Fc.nodup{l:List Int}(h:Fc jA l):l.Nodup:=J6 (λ{a b} h e=>by rw[BZ]at h;omega) h
def iK.fl{c:Wc}{w:Wk}(h:iK c w):w.fd.length<=15:=by have h1:(w.fd.map (·.kind)).Nodup:=List.pairwise_map.2 (J6 (λ{a b} h e=>VY) h.fd);have:=wK (m:=(List.range 15).map (λn:Nat=>(n:Int))) h1 (λx hx=>by obtain⟨y,hy,rfl⟩:=dM.1 hx;have:=h.fk y hy;exact dM.2 ⟨y.kind.toNat,uP.2 af,af⟩);exact jI
def iK.find{c:Wc}{w:Wk}(h:iK c w){k:Int}(hk:1<=k∧k<=14)(b:Bool):iK c (cV c k b w):=by unfold cV;split;exact h;exact⟨h.f,h.fd.ins G',λx hx=>by rcases rR hx with rfl|hx;exact hk;exact h.fk x hx,h.ps,h.us,h.um⟩
def iK.pair{c:Wc}{w:Wk}(h:iK c w)(a b:Int):iK c (sK c a b w):=⟨h.f,h.fd,h.fk,h.ps.ins xp,h.us,h.um⟩
theorem Kt{ids:List Int}:∀{l us:List Int},Fc jA us->(∀k∈us,k∈ids)->(∀k∈l,k∈ids)->Fc jA (l.foldl wj us)∧∀k∈l.foldl wj us,k∈ids|[],us,h1,h2,_=>⟨h1,h2⟩|x::l,us,h1,h2,h3=>Kt (l:=l) (us:=wj us x) (h1.ins E7) (λk hk=>by rcases rR hk with rfl|hk;exact h3 _ ag;exact h2 k hk) (λk hk=>h3 k (by simp[hk]))
def iK.set{c:Wc}{w:Wk}(h:iK c w){vars na:Int}{k:Nat}{e:Ex}{z:Nat}(he:jY vars na k e z):iK c (kS c e w):=by have hu:=Lu (d:=c.d) (f:=w.f) (rules:=c.rules) he [] (On.nil _);obtain⟨h1,h2⟩:=Kt (l:=pA (gL c.d c.rules w.f e []).2) h.us h.um (λk hk=>hu.mem k (HY.1 hk));exact⟨h.f,h.fd,h.fk,h.ps,h1,h2⟩
def iK.L6{c:Wc}{w:Wk}(h:iK c w){f:Fa}(hf:qO c.d f):iK c {w with f:=f}:=⟨hf,h.fd,h.fk,h.ps,h.us,h.um⟩
structure kP(c:Wc):Prop where
 d:yG c.d
 rl:c.rules.length<=2^30
 ru:∀r∈c.rules,HR r
def Cp{c:Wc}{w:Wk}(hc:kP c)(hw:iK c w){k:Nat}{e:Ex}{z:Nat}(he:jY c.d.vars c.d.aK.length k e z):aj Tryz.prog 282 [.ptr 1000 0,cI e] (b_ c w) (ai (iC c e w)) (b_ c (kS c e w)):=by
 have c1:=eval_c hc.d hw.f hc.rl hc.ru he;have hu:=Lu (d:=c.d) (f:=w.f) (rules:=c.rules) he [] (On.nil _);have hl:∀x∈pA (gL c.d c.rules w.f e []).2,x∈c.rules.map (·.id):=λx hx=>hu.mem x (HY.1 hx);have hLl:=Tk hu;rw[cZ]at hLl;unfold iC kS;generalize gL c.d c.rules w.f e []=R at c1 hl hLl ⊢;obtain⟨a,u⟩:=R;dsimp only at c1 hl hLl ⊢;generalize pA u=L at c1 hl hLl ⊢;obtain⟨U,hU,hU0,hUs⟩:∃U:Nat->List Int,(∀k,U k=(L.take k).foldl wj w.us)∧U 0=w.us∧∀k (h:k<L.length),rX (λy=>jA y L[k]) L[k] (U k)=U (k+1):=⟨λk=>(L.take k).foldl wj w.us,λ_=>rfl,rfl,λk h=>by show _=(L.take (k+1)).foldl wj w.us;rw[jd h,zc];rfl⟩;have hUn:U L.length=L.foldl wj w.us:=by rw[hU,AS]
 have hok:∀k,Fc jA (U k)∧(U k).length<=c.rules.length:=λk=>by have:=Kt (l:=L.take k) hw.us hw.um (λx hx=>hl x (pQ hx));rw[hU];refine⟨this.1,?_⟩;have:=wK this.1.nodup this.2;rwa[cZ]at this
 have hrl:=hc.rl;have hwu:w.us=U 0:=hU0.symm;rw[<-hUn];have hc0:b_ c w=b_ c {w with us:=U 0}:=by rw[hU0]
 rw[hc0];refine eg hm Tryz.func282 (λn=>Nat.beq n 348) [] (λ_=>[]) aB ?_;refine aN ?_;refine bB.mk ⟨[],aZ.np (L.length) (λ_=>True) (λk=>⟨[(29,it k)],[(1000,.agg (cW c {w with us:=U k}))],[(1002,⟨1,true,(U k).map it⟩)]⟩) trivial ?_⟩;intro k hk hJ;by_cases hk1:k<L.length;have b1:decide ((k:Int)<((L.map it).length:Nat))=true:=gw
 have hs:=hok k;have c2:=Ur (U k) L[k] af (hs.1.mono E7 L[k]);rw[hUs k hk1]at c2;refine run ?_;refine a_.map hk1 rfl ?_;refine aN ?_;exact tM hk1;have b1:decide ((k:Int)<((L.map it).length:Nat))=false:=aA
 have hkk:k=L.length:=af
 subst hkk;exact aT
def r6{c:Wc}{w:Wk}(hw:iK c w)(k:Int)(b:Bool):aj Tryz.prog 289 [.ptr 1000 0,it k,bo b] (b_ c w) (.bR []) (b_ c (cV c k b w)):=by have hfl:=hw.fl;unfold cV;cases b with|true=>rw[aq rfl];refine fo Tryz.func289 ?_;exact aT|false=>rw[ah ag];have c2:=Uq w.fd ⟨c.d.id,c.s.site,k⟩ af (hw.fd.mono G' _);generalize rX (λy=>kK y ⟨c.d.id,c.s.site,k⟩) ⟨c.d.id,c.s.site,k⟩ w.fd=X at c2 ⊢;refine eg hm Tryz.func289 (λn=>Nat.beq n 358) [] (λ_=>[]) aB ?_;exact aW
def XA{c:Wc}{w:Wk}(hw:iK c w)(hl:w.ps.length<2^32)(a b:Int):aj Tryz.prog 365 [.ptr 1000 0,it a,it b] (b_ c w) (.bR []) (b_ c (sK c a b w)):=by have c2:=Uo w.ps ⟨a,b,c.s.site⟩ hl (hw.ps.mono xp _);unfold sK;generalize rX (λy=>fU y ⟨a,b,c.s.site⟩) ⟨a,b,c.s.site⟩ w.ps=X at c2 ⊢;refine eg hm Tryz.func365 (λn=>Nat.beq n 431) [] (λ_=>[]) aB ?_;exact aW
end Abs
namespace Abs
open Go Go.Proofs Go.RowKit
theorem FX(p:Option Addr)(b:Bool)(w:World):Calls Tryz.prog 292 #[.pointer p,.bool b] w λe w' =>w' =w∧((b=true∧e= .returned (.tuple #[]))∨(b=false∧e= .panicked (qe 347))):=by
 cases b with
 |true=>
  go_enter Tryz.func292,Tryz.ntmps292
  go_wp2
  go_end0
  exact⟨rfl,.inl ⟨trivial,rfl⟩⟩
 |false=>
  go_enter Tryz.func292,Tryz.ntmps292
  go_wp2
  exact⟨rfl,rfl,.inr ⟨trivial,rfl⟩⟩
def FV{γ:Gh}{v:Value}{l:Nat}(r:bG γ v (.ptr l 0)):∃b,γ.mu l=some b∧v= .pointer (some ⟨b,0,none⟩):=VV
def L9{vs:Array Value}(h:vs.size=2):∃a b,vs= #[a,b]:=
 ⟨vs[0],vs[1],by
  apply Array.ext;exact gI;intro i h2 h3;have:i=0∨i=1:=af
  rcases this with rfl|rfl<;>rfl⟩
def kW(c:Wc)(w:Wk)(m:Ct):aj Tryz.prog 292 [.ptr 1000 0,bo true] m (.bR []) m:=by refine⟨⟨_,Tryz.func292,aB,aB⟩,λγ w vs hs hrep hmem=> ?_⟩;obtain⟨v0,v1,rfl⟩:=L9 (hs:vs.size=2);obtain⟨b,_,rfl⟩:=FV (hrep 0 v0 _ rfl rfl);have:=(hrep 1 v1 _ rfl rfl).nO;subst this;refine Calls.mono (FX _ _ w) λe w' h=> ?_;obtain⟨rfl,⟨_,rfl⟩|⟨h,_⟩⟩:=h;exact⟨γ,Ext.refl γ,.bR rfl (λi v d hv=>ur),hmem.names rfl rfl⟩;cases h
def jG(c:Wc)(w:Wk)(m:Ct):aj Tryz.prog 292 [.ptr 1000 0,bo false] m (vh 347) m:=by refine⟨⟨_,Tryz.func292,aB,aB⟩,λγ w vs hs hrep hmem=> ?_⟩;obtain⟨v0,v1,rfl⟩:=L9 (hs:vs.size=2);obtain⟨b,_,rfl⟩:=FV (hrep 0 v0 _ rfl rfl);have:=(hrep 1 v1 _ rfl rfl).nO;subst this;refine Calls.mono (FX _ _ w) λe w' h=> ?_;obtain⟨rfl,⟨h,_⟩|⟨_,rfl⟩⟩:=h;cases h;exact⟨γ,347,Ext.refl γ,rfl,rfl,hmem.names rfl rfl⟩
end Abs
namespace Abs
open Go Go.Proofs
def KR{w:Wk}{n:Int}(h:n.toNat<w.f.refs.length):nth (w.f.refs.map aO) n.toNat=some (.agg [it (aQ w n).s,it (aQ w n).a.lo,it (aQ w n).a.hi,it (aQ w n).a.m,it (aQ w n).a.r,it (aQ w n).a.mask]):=by rw[bW,fq h];unfold aQ;simp[h,aO]
def si :C 354 [] (ai zR):=by refine fo Tryz.func354 ?_;exact aT
def rK(c:Wc)(w:Wk)(n s:Int)(a:Av)(hn:0<=n∧n.toNat<w.f.refs.length)(hl:w.f.refs.length<=1048576):aj Tryz.prog 356 [.ptr 1000 0,it n,it s,ai a] (b_ c w) (.bR []) (b_ c (eh n s a w)):=by
 have hx:=KR (w:=w) hn.2;have hn0:=hn.1;have c3:=Ob (w.f.refs.map aO) (λe=>by have h:w.f.refs=[]:=ze.1 e;have:=hn.2;rw[h]at this;exact absurd this (Nat.not_lt_zero _)) ui;have e:b_ c (eh n s a w)=ctX c w (fj 5 ai w.f.v) (.sl 6 ((w.f.refs.map aO).set n.toNat (.agg [it s,it a.lo,it a.hi,it a.m,it a.r,it a.mask])) false) (ints w.f.arr):=by rw[show au.agg [it s,it a.lo,it a.hi,it a.m,it a.r,it a.mask]=aO ⟨s,a⟩ from rfl,<-jL];rfl
 have el:((w.f.refs.map aO).set n.toNat (.agg [it s,it a.lo,it a.hi,it a.m,it a.r,it a.mask])).length=(w.f.refs.map aO).length:=ag
 rw[e];refine eg hm Tryz.func356 (λ_=>false) [] (hLay 68) aB ?_;refine aN ?_;repeat((refine a_.at rfl hn0 hx ?_);refine run ?_)
 exact aG
def cY(r:Rs)(d:au):au:=if r.2=true then vh 347 else d
def need_c{c:Wc}{w:Wk}(hw:iK c w)(n:Int)(hn:0<=n∧n.toNat<w.f.refs.length):aj Tryz.prog 355 [.ptr 1000 0,it n] (b_ c w) (cY (iF c n w) (ai (aQ w n).a)) (b_ c (iF c n w).1):=by
 have hx:=KR (w:=w) hn.2;have hn0:=hn.1;have e1:=nS (aQ w n).s 1;have e2:=iP (a:=(aQ w n).s) (b:=1) (n:=1) af af af;have cf:=r6 hw 2 (bz (aQ w n).s 1==0);have hr:(cV c 2 (bz (aQ w n).s 1==0) w).f=w.f:=by unfold cV;split<;>rfl
 unfold iF wF cY;have hxx:=hx;rw[<-hr]at hxx;generalize cV c 2 (bz (aQ w n).s 1==0) w=W at*;generalize bz (aQ w n).s 1=A at*;by_cases hs:(aQ w n).s=1
 ·have b1:(!((aQ w n).s==1))=false:=by rw[hs];rfl
  have cp:aj Tryz.prog 292 [.ptr 1000 0,bo ((aQ w n).s !=1)] (b_ c W) (vh 347) (b_ c W):=by rw[show((aQ w n).s !=1)=false from b1];exact jG c w _
  rw[b1];generalize aQ w n=R at*;refine fo Tryz.func355 ?_;refine aN ?_;repeat((first|refine a_.at rfl hn0 hx ?_|refine a_.at rfl hn0 hxx ?_|(apply aE;first|exact cf|exact cp));refine run ?_)
  exact aG
 ·have b1:(!((aQ w n).s==1))=true:=by simpa using hs
  have cp:aj Tryz.prog 292 [.ptr 1000 0,bo ((aQ w n).s !=1)] (b_ c W) (.bR []) (b_ c W):=by rw[show((aQ w n).s !=1)=true from b1];exact kW c w _
  rw[b1];generalize aQ w n=R at*;refine fo Tryz.func355 ?_;refine aN ?_;repeat((first|refine a_.at rfl hn0 hx ?_|refine a_.at rfl hn0 hxx ?_|(apply aE;first|exact cf|exact cp));refine run ?_)
  exact aG
def fill_c{c:Wc}{w:Wk}(hw:iK c w)(n:Int)(a:Av)(hn:0<=n∧n.toNat<w.f.refs.length)(hl:w.f.refs.length<=1048576):aj Tryz.prog 353 [.ptr 1000 0,it n,ai a] (b_ c w) (cY (r7 c n a w) (.bR [])) (b_ c (r7 c n a w).1):=by
 have hx:=KR (w:=w) hn.2;have hn0:=hn.1;have e1:=nS (aQ w n).s 2;have e2:=iP (a:=(aQ w n).s) (b:=2) (n:=2) af af af;have cf:=r6 hw 3 (bz (aQ w n).s 2==0);have hr:(cV c 3 (bz (aQ w n).s 2==0) w).f=w.f:=by unfold cV;split<;>rfl
 unfold r7 wF cY Rs.and;have cr:=rK c (cV c 3 (bz (aQ w n).s 2==0) w) n 2 a (by rw[hr];exact hn) (by rw[hr];exact hl);generalize cV c 3 (bz (aQ w n).s 2==0) w=W at*;generalize bz (aQ w n).s 2=A at*;by_cases hs:(aQ w n).s=2
 ·have b1:(!((aQ w n).s==2))=false:=by rw[hs];rfl
  have cp:aj Tryz.prog 292 [.ptr 1000 0,bo ((aQ w n).s !=2)] (b_ c W) (vh 347) (b_ c W):=by rw[show((aQ w n).s !=2)=false from b1];exact jG c w _
  rw[b1];generalize aQ w n=R at*;refine fo Tryz.func353 ?_;refine aN ?_;repeat((first|refine a_.at rfl hn0 hx ?_|(apply aE;first|exact cf|exact cp));refine run ?_)
  exact aG
 ·have b1:(!((aQ w n).s==2))=true:=by simpa using hs
  have cp:aj Tryz.prog 292 [.ptr 1000 0,bo ((aQ w n).s !=2)] (b_ c W) (.bR []) (b_ c W):=by rw[show((aQ w n).s !=2)=true from b1];exact kW c w _
  rw[b1];generalize aQ w n=R at*;refine fo Tryz.func353 ?_;refine aN ?_;repeat((first|refine a_.at rfl hn0 hx ?_|(apply aE;first|exact cf|exact cp|exact cr));refine run ?_)
  exact aG
def Jv{G:Prop}(h:G:=by generalize iC c e w=A at*;generalize cV c kind false (kS c e w)=W2 at*;generalize kS c e w=W1 at*;generalize jj r=I at*;refine fo Tryz.func351 ?_;exact aW):G:=h
def Ly{vars na:Int}{k:Nat}{e:Ex}{z:Nat}(he:jY vars na k e z)(h:e.op=2):0<=e.n∧e.n<vars:=by cases he with|num h1=>exact absurd h (by show ¬(1:Int)=2;omega)|var h1=>exact h1|len h1=>exact absurd h (by show ¬(3:Int)=2;omega)|bin ho _ _=>exact absurd (show _=(2:Int) from h) (by show ¬_=(2:Int);have:=ho.1;simp only[Ex.op];omega)
structure nU(r:pL):Prop where
 lo: -2147483648<=r.lo
 le:r.lo<=r.hi
 hi:r.hi<=2147483647
 k0:0<=r.mask
 k1:r.mask<=255
def nU.av{r:pL}(h:nU r):aU (jj r):=by show aU (m7 r.lo r.hi 1 r.mask);have h1:=h.lo;have h2:=h.le;have h3:=h.hi;exact(kL af af af h.k0 h.k1 af af).1
def sF{c:Wc}{w:Wk}(hc:kP c)(hw:iK c w){k:Nat}{e:Ex}{z:Nat}(he:jY c.d.vars c.d.aK.length k e z):aU (iC c e w):=G4 hc.d hw.f hc.ru he []
def Gf{c:Wc}{w:Wk}(hc:kP c)(hw:iK c w){k:Nat}{e:Ex}{z:Nat}(he:jY c.d.vars c.d.aK.length k e z){r:pL}(hr:nU r)(kind:Int)(hk:1<=kind∧kind<=14):aj Tryz.prog 351 [.ptr 1000 0,cI e,bp r,it kind] (b_ c w) (cY (gY c e r kind w) (.bR [])) (b_ c (gY c e r kind w).1):=by
 have c1:=Cp hc hw he;have hv:=sF hc hw he;have h1:=hr.lo;have h2:=hr.le;have h3:=hr.hi;have ci:=Lf r af af;have cl:=leq_c (iC c e w) (jj r) hv hr.av;have cm:=KX (iC c e w) (jj r) hv hr.av;have hw1:=hw.set (c:=c) he;have cf:=r6 hw1 kind false;have hf2:(cV c kind false (kS c e w)).f=w.f:=rfl;have hv2:=hw.f.v;have hdv:=hc.d.vars;unfold gY cY;by_cases hle:vT (iC c e w) (jj r)=true;rw[aq hle];generalize iC c e w=A at*;generalize kS c e w=W1 at*;generalize jj r=I at*;refine fo Tryz.func351 ?_;exact aW;have hle' :vT (iC c e w) (jj r)=false:=by simpa using hle
 rw[ah hle];cases hmt:kY (iC c e w) (jj r)with|none=>rw[hmt]at cm;have cp:=jG c w (b_ c (cV c kind false (kS c e w)));exact Jv|some m=>rw[hmt]at cm;have cp:=kW c w (b_ c (cV c kind false (kS c e w)));by_cases ho:e.op=2;have b1:=tE ho;have hn:=Ly he ho;have cb:=Of c (cV c kind false (kS c e w)) e.n m (by rw[hf2];omega) (by rw[hf2];omega);dsimp only;rw[aq ho];exact Jv;have b1:=fE ho;dsimp only;rw[ah ho];exact Jv
def W_(f:Fa):C 345 [bg f,cI zEx] (.bR [it (qd f zEx).1,it (qd f zEx).2.1,bo (qd f zEx).2.2]):=by
 have e:qd f zEx=(0,0,false):=by simp[qd,zEx,Ex.op]
 rw[e];exact D5
def qX{c:Wc}{w:Wk}(hc:kP c)(hf:qO c.d w.f)(hn:0<=c.s.n∧c.s.n<c.d.vars)(a:Av):aj Tryz.prog 284 [.ptr 1000 0,ai a] (b_ c w) (.bR []) (b_ c (g_ c a w)):=Z0 c w a _ (Xb hc.d hf c.s.n hn a (.inl rfl) (W_ w.f))
def eok_k{vars na:Int}{k:Nat}{e:Ex}{z:Nat}(he:jY vars na k e z):∃k0,k=k0+1:=by cases he<;>exact nf
def GD{vars na:Int}{k:Nat}{e:Ex}{z:Nat}(he:jY vars na k e z){m:Int}(hm:0<=m∧m<na):Ff vars na (k+2) (.mk 6 [] [Ui e,IE m e]) (1+(1+1+z)+(1+z+1)):=by obtain⟨k0,rfl⟩:=eok_k he;exact .and af (.test af (.num af) he) (.test af he (.len hm))
def Nt{c:Wc}{w:Wk}(hc:kP c)(hw:iK c w){k:Nat}{z:Nat}(he:jY c.d.vars c.d.aK.length k c.s.x z)(hn:0<=c.s.m∧c.s.m<c.d.aK.length):aj Tryz.prog 283 [.ptr 1000 0] (b_ c w) (cY (iZ c w) (.bR [])) (b_ c (iZ c w).1):=by
 have c1:=Cp hc hw he;have hv:=sF hc hw he;have ci:=Qo hc.d hw.f c.s.m hn (iC c c.s.x w) hv he;have hw1:=hw.set (c:=c) he;have cf:=r6 hw1 1 false;have ca:=C6 hc.d (GD he hn) (.inr hw.f) true;have hfk:=oN hc.d.LM (GD he hn) (.inr hw.f) true;have eC:fN (.mk 6 [] [Ui c.s.x,IE c.s.m c.s.x])= .agg [it 6,.sl 4 [] false,.sl 3 [.agg [it 3,.sl 4 [.agg [it 1,it 0,it 0,.sl 4 [] false],cI c.s.x] false,.sl 3 [] false],.agg [it 2,.sl 4 [cI c.s.x,.agg [it 3,it c.s.m,it 0,.sl 4 [] false]] false,.sl 3 [] false]] false]:=by simp[fN,cC,Ui,IE,BX,rC,jz,rE,Sr,cI,cE,Co.op,Co.a,Co.c]
 rw[eC]at ca;unfold iZ cY;by_cases hi:YC c.d w.f c.s.m c.s.x (iC c c.s.x w)=true;rw[aq hi];rw[hi]at ci;generalize iC c c.s.x w=A at*;refine fo Tryz.func283 ?_;exact aW;have hi' :YC c.d w.f c.s.m c.s.x (iC c c.s.x w)=false:=uy
 rw[ah hi];rw[hi']at ci;generalize iC c c.s.x w=A at*;generalize dW c.d (.mk 6 [] [Ui c.s.x,IE c.s.m c.s.x]) w.f true=F at*;obtain⟨U,hU⟩:∃U,kS c c.s.x w={w with us:=U}:=⟨_,rfl⟩;rw[hU]at c1 cf ⊢;obtain⟨D,hD⟩:∃D,cV c 1 false {w with us:=U}={w with us:=U,fd:=D}:=⟨_,rfl⟩;rw[hD]at cf ⊢;dsimp only;by_cases hdd:F.dead=true;have cp:=jG c w (b_ c {w with us:=U,fd:=D,f:=F});rw[aq hdd];obtain⟨fd,fv,fg,fr,fa,fm,fy,fp⟩:=F;dsimp only at hdd;subst hdd;refine fo Tryz.func283 ?_;exact aW;have hdd' :F.dead=false:=(by simpa using hdd);have cp:=kW c w (b_ c {w with us:=U,fd:=D,f:=F});rw[ah hdd];obtain⟨fd,fv,fg,fr,fa,fm,fy,fp⟩:=F;dsimp only at hdd';subst hdd';refine fo Tryz.func283 ?_;exact aW
def OW{G:Prop}(h:G:=by refine run ?_;have pM:=aL (λu=>some (au.agg (cW c {w with wR:=O,ps:=u}))) hst;have Hx:=aL (λu=>some (Row.mk 3 true (u.map bF))) hst;exact tM hb1):G:=h
def pinL_ok{site may aM:Int}{a:Nat}{ps:List Pa}(h:Fc fU ps)(b:Nat):Fc fU (zI site may aM a ps b):=by unfold zI;split;exact h.ins xp;exact h
def Xx{site may aM:Int}{a:Nat}{ps:List Pa}(b:Nat):(zI site may aM a ps b).length<=ps.length+1:=by unfold zI;split;exact wW;omega
theorem pinF{site may aM:Int}{a:Nat}:∀{l:List Nat} {ps:List Pa},Fc fU ps->Fc fU (l.foldl (zI site may aM a) ps)∧(l.foldl (zI site may aM a) ps).length<=ps.length+l.length|[],ps,h=>⟨h,ag⟩|b::l,ps,h=>by have h1:=pinF (site:=site) (may:=may) (aM:=aM) (a:=a) (l:=l) (pinL_ok (site:=site) (may:=may) (aM:=aM) (a:=a) h b);have h2:=Xx (site:=site) (may:=may) (aM:=aM) (a:=a) (ps:=ps) b;exact⟨h1.1,by have:=h1.2;simp only[ta,eJ];omega⟩
theorem poutF{site may aM:Int}:∀{l:List Nat} {ps:List Pa},Fc fU ps->Fc fU (l.foldl (Bm site may aM) ps)∧(l.foldl (Bm site may aM) ps).length<=ps.length+8*l.length
 |[],ps,h=>⟨h,ag⟩
 |b::l,ps,h=>by
  have h0:=pinF (site:=site) (may:=may) (aM:=aM) (a:=b) (l:=List.range 8) h;have h1:=poutF (site:=site) (may:=may) (aM:=aM) (l:=l) (ps:=Bm site may aM ps b) h0.1;refine⟨h1.1,?_⟩;have h2:=h1.2;have h3:(Bm site may aM ps b).length<=ps.length+8:=by have:=h0.2;rwa[AV]at this
  simp only[ta,eJ];omega
def WV{c:Wc}{w:Wk}(hw:iK c w)(hl:w.ps.length+64<2^32)(aM:Int)(hlk:0<=aM∧aM<2^60)(hwl:0<=w.wR∧w.wR<2^60):aj Tryz.prog 357 [.ptr 1000 0,it aM] (b_ c w) (.bR []) (b_ c (nV c aM w)):=by
 have e1:=Bq w.wR aM;have e2:=rO (a:=w.wR) (b:=aM) (n:=60) af hwl.1 af hlk.1 af;have hmay:=hw.f.may;unfold nV;generalize hO:iD w.wR aM=O at*;obtain⟨P,hP0,hPs,hPn,hPe,hPk⟩:∃P:Nat->Nat->List Pa,P 0 0=w.ps∧(∀a b,b<8->zI c.s.site w.f.may aM a (P a b) b=P a (b+1))∧(∀a,a<8->P a 8=P (a+1) 0)∧P 8 0=WW c.s.site w.f.may aM w.ps∧(∀a b,a<=8->b<=8->a*8+b<=64->Fc fU (P a b)∧(P a b).length<=w.ps.length+64):=by refine⟨λa b=>(List.range b).foldl (zI c.s.site w.f.may aM a) ((List.range a).foldl (Bm c.s.site w.f.may aM) w.ps),rfl,λa b _=> ?_,λa _=> ?_,rfl,λa b ha hb hab=> ?_⟩;dsimp only;rw[uQ,zc];rfl;show _=(List.range (a+1)).foldl (Bm c.s.site w.f.may aM) w.ps;rw[show List.range (a+1)=List.range a++[a] from uQ,zc];rfl;have h1:=poutF (site:=c.s.site) (may:=w.f.may) (aM:=aM) (l:=List.range a) hw.ps;have h2:=pinF (site:=c.s.site) (may:=w.f.may) (aM:=aM) (a:=a) (l:=List.range b) h1.1;refine⟨h2.1,?_⟩;have h3:=h1.2;have h4:=h2.2;simp only[AV]at h3 h4;exact bu
 obtain⟨FA,hFA⟩:∃FA:Nat->Int,∀a:Nat,(((BitVec.ofInt IntKind.i64.bits (w.f.may.fdiv (2^(min (Int.toNat (a:Int)) IntKind.i64.bits)))&&&BitVec.ofInt IntKind.i64.bits 1).toNat:Nat):Int)=FA a∧(0<=FA a∧FA a<2^1)∧pV w.f.may a=(FA a==1):=⟨λa=>bz (w.f.may.fdiv (2^(min (Int.toNat (a:Int)) IntKind.i64.bits))) 1,λa=>⟨nS _ _,iP (n:=1) af af af,rfl⟩⟩;obtain⟨FB,hFB⟩:∃FB:Nat->Int,∀b:Nat,(((BitVec.ofInt IntKind.i64.bits (aM.fdiv (2^(min (Int.toNat (b:Int)) IntKind.i64.bits)))&&&BitVec.ofInt IntKind.i64.bits 1).toNat:Nat):Int)=FB b∧(0<=FB b∧FB b<2^1)∧pV aM b=(FB b==1):=⟨λb=>bz (aM.fdiv (2^(min (Int.toNat (b:Int)) IntKind.i64.bits))) 1,λb=>⟨nS _ _,iP (n:=1) af af af,rfl⟩⟩;rw[<-hPe];have hc0:b_ c {w with wR:=O}=b_ c {w with wR:=O,ps:=P 0 0}:=by rw[hP0]
 have hw0:w.ps=P 0 0:=hP0.symm;have hc1:b_ c w=b_ c {w with ps:=P 0 0}:=by rw[hP0]
 rw[hc1];refine fo Tryz.func357 ?_;refine run ?_;refine bB.mk ⟨[],aZ.np 8 (λ_=>True) (λa=>⟨[(16,it a)],[(1000,.agg (cW c {w with wR:=O,ps:=P a 0}))],[(1001,⟨3,true,(P a 0).map bF⟩)]⟩) trivial ?_⟩;intro a ha hJ;by_cases ha1:a<8;have b1:decide ((a:Int)<8)=true:=aA
 have hn:=hPn a ha1;refine run ?_;refine bB.mk ⟨[],aZ.np 8 (λ_=>True) (λb=>⟨[(19,it b)],[(1000,.agg (cW c {w with wR:=O,ps:=P a b}))],[(1001,⟨3,true,(P a b).map bF⟩)]⟩) trivial ?_⟩;intro b hb hJ2;by_cases hb1:b<8;have b2:decide ((b:Int)<8)=true:=aA;have hpk:=hPk a b af af af;have hst:=hPs a b hb1;unfold zI at hst;rw[(hFA a).2.2,(hFB b).2.2]at hst;have fa:=hFA a;have fb:=hFB b;have e3:=fa.1;have e4:=fa.2.1;have e5:=fb.1;have e6:=fb.2.1;have cp:=XA (c:=c) (w:={w with wR:=O,ps:=P a b}) ⟨hw.f,hw.fd,hw.fk,hpk.1,hw.us,hw.um⟩ bu a b;unfold sK at cp;dsimp only at cp;by_cases hab:a=b;have q1:((a:Int) !=(b:Int))=false:=(by rw[hab];simp);rw[ah (by rw[hab];simp)]at hst;exact OW;have q1:((a:Int) !=(b:Int))=true:=aA;have q0:(!(a==b))=true:=by simpa using hab
 rw[q0,Bool.true_and]at hst;by_cases h1:(FA a==1)=true;by_cases h2:(FB b==1)=true;rw[aq (by rw[h1,h2];rfl)]at hst;rw[hst]at cp;refine aN ?_;exact tM hb1;have h2' :(FB b==1)=false:=qx;rw[ah (by rw[h1,h2'];simp)]at hst;exact OW;have h1' :(FA a==1)=false:=gJ;rw[ah (by rw[h1'];simp)]at hst;exact OW;have b2:decide ((b:Int)<8)=false:=aA;have hbb:b=8:=af
 subst hbb;refine run ?_;have pM:=aL (λu=>some (au.agg (cW c {w with wR:=O,ps:=u}))) hn;have Hx:=aL (λu=>some (Row.mk 3 true (u.map bF))) hn;exact tM ha1;have b1:decide ((a:Int)<8)=false:=aA
 have haa:a=8:=af
 subst haa;exact aT
def Pv{G:Prop}(h:G:=by unfold cV;split;exact⟨w.fd,rfl⟩;exact nf):G:=h
def Rh{G:Prop}(h:G:=by generalize bz w.f.ew (IntKind.i64.wrap (1*2^(min c.s.m.toNat IntKind.i64.bits)))=A1 at*;generalize bz w.f.may (IntKind.i64.wrap (1*2^(min c.s.m.toNat IntKind.i64.bits)))=A2 at*;refine fo Tryz.func288 ?_;exact aW):G:=h
def Sb(c:Wc)(w:Wk)(bits:Int):aj Tryz.prog 291 [.ptr 1000 0,it bits] (b_ c w) (.bR []) (b_ c (jt bits w)):=by
 unfold jt;by_cases h:bits=0;have b1:(bits !=0)=false:=by rw[h];rfl
 rw[aq h];refine fo Tryz.func291 ?_;exact aT;have b1:(bits !=0)=true:=gI
 rw[ah h];refine fo Tryz.func291 ?_;exact aT
def C4{m:Int}(h:0<=m∧m<16):0<gZ m∧gZ m<2^16:=by
 have:m=0∨m=1∨m=2∨m=3∨m=4∨m=5∨m=6∨m=7∨m=8∨m=9∨m=10∨m=11∨m=12∨m=13∨m=14∨m=15:=af
 rcases this with rfl|rfl|rfl|rfl|rfl|rfl|rfl|rfl|rfl|rfl|rfl|rfl|rfl|rfl|rfl|rfl<;>decide
def Yl{c:Wc}{w:Wk}(hw:iK c w)(hl:w.ps.length+64<2^32)(hop:c.s.op=16∨c.s.op=17)(hm' :0<=c.s.m∧c.s.m<8)(hwl:0<=w.wR∧w.wR<2^60):aj Tryz.prog 288 [.ptr 1000 0] (b_ c w) (cY (sN c w) (.bR [])) (b_ c (sN c w).1):=by
 have hb:=C4 (m:=c.s.m) af;have hmu:=hw.f.ew;have hma:=hw.f.may;have hm0:=hm'.1;unfold sN cY Rs.and;unfold gZ at hb ⊢;have e1:=nS w.f.ew (IntKind.i64.wrap (1*2^(min c.s.m.toNat IntKind.i64.bits)));have e2:=nS w.f.may (IntKind.i64.wrap (1*2^(min c.s.m.toNat IntKind.i64.bits)));have d1:=iP (a:=w.f.ew) (b:=(IntKind.i64.wrap (1*2^(min c.s.m.toNat IntKind.i64.bits)))) (n:=16) af af hb.2;have d2:=iP (a:=w.f.may) (b:=(IntKind.i64.wrap (1*2^(min c.s.m.toNat IntKind.i64.bits)))) (n:=16) af af hb.2;by_cases ho:c.s.op=17;rw[aq ho];have b1:=tE ho;have e3:=QT w.f.ew (IntKind.i64.wrap (1*2^(min c.s.m.toNat IntKind.i64.bits)));have e4:=QT w.f.may (IntKind.i64.wrap (1*2^(min c.s.m.toNat IntKind.i64.bits)));have d3:=B8 (a:=w.f.ew) (b:=(IntKind.i64.wrap (1*2^(min c.s.m.toNat IntKind.i64.bits)))) (n:=16) af af af;have d4:=B8 (a:=w.f.may) (b:=(IntKind.i64.wrap (1*2^(min c.s.m.toNat IntKind.i64.bits)))) (n:=16) af af af;have cf:=r6 hw 5 (!(bz w.f.ew (IntKind.i64.wrap (1*2^(min c.s.m.toNat IntKind.i64.bits)))==0));obtain⟨D,hD⟩:∃D,cV c 5 (!(bz w.f.ew (IntKind.i64.wrap (1*2^(min c.s.m.toNat IntKind.i64.bits)))==0)) w={w with fd:=D}:=Pv
 rw[hD]at cf ⊢;dsimp only;by_cases hp:bz w.f.may (IntKind.i64.wrap (1*2^(min c.s.m.toNat IntKind.i64.bits)))=0;have p1:(!(bz w.f.may (IntKind.i64.wrap (1*2^(min c.s.m.toNat IntKind.i64.bits)))==0))=false:=(by rw[hp];rfl);have cp:aj Tryz.prog 292 [.ptr 1000 0,bo (bz w.f.may (IntKind.i64.wrap (1*2^(min c.s.m.toNat IntKind.i64.bits))) !=0)] (b_ c {w with fd:=D}) (vh 347) (b_ c {w with fd:=D}):=by rw[show(bz w.f.may (IntKind.i64.wrap (1*2^(min c.s.m.toNat IntKind.i64.bits))) !=0)=false from p1];exact jG c w _
 rw[p1];exact Rh;have p1:(!(bz w.f.may (IntKind.i64.wrap (1*2^(min c.s.m.toNat IntKind.i64.bits)))==0))=true:=qu;have cp:aj Tryz.prog 292 [.ptr 1000 0,bo (bz w.f.may (IntKind.i64.wrap (1*2^(min c.s.m.toNat IntKind.i64.bits))) !=0)] (b_ c {w with fd:=D}) (.bR []) (b_ c {w with fd:=D}):=by rw[show(bz w.f.may (IntKind.i64.wrap (1*2^(min c.s.m.toNat IntKind.i64.bits))) !=0)=true from p1];exact kW c w _
 rw[p1];show aj Tryz.prog 288 [.ptr 1000 0] (b_ c w) (.bR []) (b_ c {w with fd:=D,f:={w.f with ew:=kO w.f.ew (IntKind.i64.wrap (1*2^(min c.s.m.toNat IntKind.i64.bits))),may:=kO w.f.may (IntKind.i64.wrap (1*2^(min c.s.m.toNat IntKind.i64.bits)))}});generalize bz w.f.ew (IntKind.i64.wrap (1*2^(min c.s.m.toNat IntKind.i64.bits)))=A1 at*;generalize bz w.f.may (IntKind.i64.wrap (1*2^(min c.s.m.toNat IntKind.i64.bits)))=A2 at*;generalize kO w.f.ew (IntKind.i64.wrap (1*2^(min c.s.m.toNat IntKind.i64.bits)))=A3 at*;generalize kO w.f.may (IntKind.i64.wrap (1*2^(min c.s.m.toNat IntKind.i64.bits)))=A4 at*;refine fo Tryz.func288 ?_;exact aW;rw[ah ho];have b1:=fE ho;have e3:=Bq w.f.ew (IntKind.i64.wrap (1*2^(min c.s.m.toNat IntKind.i64.bits)));have e4:=Bq w.f.may (IntKind.i64.wrap (1*2^(min c.s.m.toNat IntKind.i64.bits)));have d3:=rO (a:=w.f.ew) (b:=(IntKind.i64.wrap (1*2^(min c.s.m.toNat IntKind.i64.bits)))) (n:=16) af af af af af;have d4:=rO (a:=w.f.may) (b:=(IntKind.i64.wrap (1*2^(min c.s.m.toNat IntKind.i64.bits)))) (n:=16) af af af af af;have hw1:=hw.find (c:=c) (k:=4) af (bz w.f.may (IntKind.i64.wrap (1*2^(min c.s.m.toNat IntKind.i64.bits)))==0);have cf:=r6 hw 4 (bz w.f.may (IntKind.i64.wrap (1*2^(min c.s.m.toNat IntKind.i64.bits)))==0);obtain⟨D,hD⟩:∃D,cV c 4 (bz w.f.may (IntKind.i64.wrap (1*2^(min c.s.m.toNat IntKind.i64.bits)))==0) w={w with fd:=D}:=Pv
 rw[hD]at cf hw1 ⊢;have ct:=WV hw1 hl (IntKind.i64.wrap (1*2^(min c.s.m.toNat IntKind.i64.bits))) af hwl;obtain⟨O,P,hT⟩:∃O P,nV c (IntKind.i64.wrap (1*2^(min c.s.m.toNat IntKind.i64.bits))) {w with fd:=D}={w with fd:=D,wR:=O,ps:=P}:=⟨_,_,rfl⟩;rw[hT]at ct;dsimp only;by_cases hp:bz w.f.ew (IntKind.i64.wrap (1*2^(min c.s.m.toNat IntKind.i64.bits)))=0;have p1:(bz w.f.ew (IntKind.i64.wrap (1*2^(min c.s.m.toNat IntKind.i64.bits)))==0)=true:=(by rw[hp];rfl);have cp:aj Tryz.prog 292 [.ptr 1000 0,bo (bz w.f.ew (IntKind.i64.wrap (1*2^(min c.s.m.toNat IntKind.i64.bits)))==0)] (b_ c {w with fd:=D}) (.bR []) (b_ c {w with fd:=D}):=by rw[p1];exact kW c w _
 have hT' :=hT;rw[p1];show aj Tryz.prog 288 [.ptr 1000 0] (b_ c w) (.bR []) (b_ c ((λw:Wk=>{w with f:={w.f with ew:=iD w.f.ew (IntKind.i64.wrap (1*2^(min c.s.m.toNat IntKind.i64.bits))),may:=iD w.f.may (IntKind.i64.wrap (1*2^(min c.s.m.toNat IntKind.i64.bits)))}}) (nV c (IntKind.i64.wrap (1*2^(min c.s.m.toNat IntKind.i64.bits))) {w with fd:=D})));rw[hT];dsimp only;generalize bz w.f.ew (IntKind.i64.wrap (1*2^(min c.s.m.toNat IntKind.i64.bits)))=A1 at*;generalize bz w.f.may (IntKind.i64.wrap (1*2^(min c.s.m.toNat IntKind.i64.bits)))=A2 at*;generalize iD w.f.ew (IntKind.i64.wrap (1*2^(min c.s.m.toNat IntKind.i64.bits)))=A3 at*;generalize iD w.f.may (IntKind.i64.wrap (1*2^(min c.s.m.toNat IntKind.i64.bits)))=A4 at*;refine fo Tryz.func288 ?_;exact aW;have p1:(bz w.f.ew (IntKind.i64.wrap (1*2^(min c.s.m.toNat IntKind.i64.bits)))==0)=false:=qu;have cp:aj Tryz.prog 292 [.ptr 1000 0,bo (bz w.f.ew (IntKind.i64.wrap (1*2^(min c.s.m.toNat IntKind.i64.bits)))==0)] (b_ c {w with fd:=D}) (vh 347) (b_ c {w with fd:=D}):=by rw[p1];exact jG c w _
 rw[p1];show aj Tryz.prog 288 [.ptr 1000 0] (b_ c w) (vh 347) (b_ c {w with fd:=D});exact Rh
def Jr{G:Prop}(h:G:=by generalize aQ w c.s.m=R at*;refine fo Tryz.func287 ?_;exact aW):G:=h
def sU(c:Wc)(k:Int)(b:Bool)(w:Wk):∃D,cV c k b w={w with fd:=D}:=Pv
def Ge{c:Wc}{w:Wk}(hw:iK c w)(n:Int)(hn:0<=n∧n.toNat<w.f.refs.length):∃D,iK c {w with fd:=D}∧((aQ w n).s=1∧iF c n w=({w with fd:=D},true)∧aj Tryz.prog 355 [.ptr 1000 0,it n] (b_ c w) (vh 347) (b_ c {w with fd:=D})∨(aQ w n).s≠1∧iF c n w=({w with fd:=D},false)∧aj Tryz.prog 355 [.ptr 1000 0,it n] (b_ c w) (ai (aQ w n).a) (b_ c {w with fd:=D})):=by
 have cn:=need_c hw n hn;have hw1:=hw.find (c:=c) (k:=2) af (bz (aQ w n).s 1==0);obtain⟨D,hD⟩:=sU c 2 (bz (aQ w n).s 1==0) w;rw[hD]at hw1;refine⟨D,hw1,?_⟩;unfold cY at cn;unfold iF wF at cn ⊢;rw[hD]at cn ⊢;by_cases hs:(aQ w n).s=1;have b1:(!((aQ w n).s==1))=false:=by rw[hs];rfl
 rw[b1]at cn ⊢;exact .inl ⟨hs,rfl,cn⟩;have b1:(!((aQ w n).s==1))=true:=by simpa using hs
 rw[b1]at cn ⊢;exact .inr ⟨hs,rfl,cn⟩
def Y3{c:Wc}{w:Wk}(hw:iK c w)(n:Int)(a:Av)(hn:0<=n∧n.toNat<w.f.refs.length)(hl:w.f.refs.length<=1048576):∃D,iK c {w with fd:=D}∧((aQ w n).s=2∧r7 c n a w=({w with fd:=D},true)∧aj Tryz.prog 353 [.ptr 1000 0,it n,ai a] (b_ c w) (vh 347) (b_ c {w with fd:=D})∨(aQ w n).s≠2∧r7 c n a w=(eh n 2 a {w with fd:=D},false)∧aj Tryz.prog 353 [.ptr 1000 0,it n,ai a] (b_ c w) (.bR []) (b_ c (eh n 2 a {w with fd:=D}))):=by
 have cn:=fill_c hw n a hn hl;have hw1:=hw.find (c:=c) (k:=3) af (bz (aQ w n).s 2==0);obtain⟨D,hD⟩:=sU c 3 (bz (aQ w n).s 2==0) w;rw[hD]at hw1;refine⟨D,hw1,?_⟩;unfold cY at cn;unfold r7 wF Rs.and at cn ⊢;rw[hD]at cn ⊢;by_cases hs:(aQ w n).s=2;have b1:(!((aQ w n).s==2))=false:=by rw[hs];rfl
 rw[b1]at cn ⊢;exact .inl ⟨hs,rfl,cn⟩;have b1:(!((aQ w n).s==2))=true:=by simpa using hs
 rw[b1]at cn ⊢;exact .inr ⟨hs,rfl,cn⟩
def Rs.xv(w:Wk)(k:Wk->Rs):Rs.and (w,false) k=k w:=by unfold Rs.and;exact ah ag
def Rs.xu(w:Wk)(k:Wk->Rs):Rs.and (w,true) k=(w,true):=by unfold Rs.and;exact aq rfl
def qO.yk{d:Df}{f:Fa}(h:qO d f)(hd:yG d):f.refs.length<=1048576:=by have:=h.refs;have:=hd.refs;omega
section
variable{c:Wc}{w:Wk}
def X5(hc:kP c)(hw:iK c w)(ho:c.s.op=6)(hn:0<=c.s.n∧c.s.n<c.d.refs):aj Tryz.prog 287 [.ptr 1000 0] (b_ c w) (cY (gE c w) (.bR [])) (b_ c (gE c w).1):=by
 have b1:=tE ho;have hr:=hw.f.refs;obtain⟨D,hD,h⟩:=Y3 hw c.s.n zR af (hw.f.yk hc.d);unfold gE cY;rw[aq ho];rcases h with⟨_,e,cf⟩|⟨_,e,cf⟩<;>rw[e]
 ·refine fo Tryz.func287 ?_;refine run ?_;repeat((apply aE;first|exact(si)|exact(cf));refine run ?_)
  exact aG
 ·refine fo Tryz.func287 ?_;refine run ?_;repeat((apply aE;first|exact(si)|exact(cf));refine run ?_)
  exact aG
def T9(hc:kP c)(hw:iK c w)(ho:c.s.op=7)(hn:0<=c.s.n∧c.s.n<c.d.refs):aj Tryz.prog 287 [.ptr 1000 0] (b_ c w) (cY (gE c w) (.bR [])) (b_ c (gE c w).1):=by
 have b0:=fE (show c.s.op≠6 by omega);have b1:=tE ho;have hr:=hw.f.refs;obtain⟨D,hD,h⟩:=Ge hw c.s.n af;have cr:=rK c {w with fd:=D} c.s.n 1 zR bu (hw.f.yk hc.d);unfold gE cY Rs.and;rw[ah (show c.s.op≠6 by omega),aq ho];rcases h with⟨_,e,cf⟩|⟨_,e,cf⟩<;>rw[e]
 ·refine fo Tryz.func287 ?_;refine run ?_;repeat((apply aE;first|exact(si)|exact(cf));refine run ?_)
  exact aG
 ·show aj Tryz.prog 287 [.ptr 1000 0] (b_ c w) (.bR []) (b_ c (eh c.s.n 1 zR {w with fd:=D}));refine fo Tryz.func287 ?_;refine run ?_;repeat((apply aE;first|exact(si)|exact(cf)|exact(cr));refine run ?_)
  exact aG
def X4(hc:kP c)(hw:iK c w)(ho:c.s.op=9)(hn:0<=c.s.n∧c.s.n<c.d.refs){k:Nat}{z:Nat}(he:jY c.d.vars c.d.aK.length k c.s.x z):aj Tryz.prog 287 [.ptr 1000 0] (b_ c w) (cY (gE c w) (.bR [])) (b_ c (gE c w).1):=by
 have b0:=fE (show c.s.op≠6 by omega);have b7:=fE (show c.s.op≠7 by omega);have b8:=fE (show c.s.op≠8 by omega);have b1:=tE ho;have hr:=hw.f.refs;obtain⟨D,hD,h⟩:=Ge hw c.s.n af;have cs:=Cp hc hD he;have cr:=rK c (kS c c.s.x {w with fd:=D}) c.s.n 2 (iC c c.s.x {w with fd:=D}) (by show _∧_<w.f.refs.length;omega) (hw.f.yk hc.d);unfold gE cY Rs.and;rw[ah (show c.s.op≠6 by omega),ah (show c.s.op≠7 by omega),ah (show c.s.op≠8 by omega),aq ho];rcases h with⟨_,e,cf⟩|⟨_,e,cf⟩<;>rw[e]
 ·refine fo Tryz.func287 ?_;refine run ?_;repeat((apply aE;first|exact(si)|exact(cf));refine run ?_)
  exact aG
 show aj Tryz.prog 287 [.ptr 1000 0] (b_ c w) (.bR []) (b_ c (eh c.s.n 2 (iC c c.s.x {w with fd:=D}) (kS c c.s.x {w with fd:=D})));obtain⟨U,hU⟩:∃U,kS c c.s.x {w with fd:=D}={w with fd:=D,us:=U}:=⟨_,rfl⟩;rw[hU]at cs cr ⊢;generalize iC c c.s.x {w with fd:=D}=A at*;refine fo Tryz.func287 ?_;exact aW
def X6(hc:kP c)(hw:iK c w)(ho:c.s.op=10)(hn:0<=c.s.m∧c.s.m<c.d.refs)(hv:0<=c.s.n∧c.s.n<c.d.vars):aj Tryz.prog 287 [.ptr 1000 0] (b_ c w) (cY (gE c w) (.bR [])) (b_ c (gE c w).1):=by
 have b0:=fE (show c.s.op≠6 by omega);have b7:=fE (show c.s.op≠7 by omega);have b8:=fE (show c.s.op≠8 by omega);have b9:=fE (show c.s.op≠9 by omega);have b1:=tE ho;have hr:=hw.f.refs;obtain⟨D,hD,h⟩:=Ge hw c.s.m af;have ha:aU (aQ w c.s.m).a:=by
  unfold aQ;have hlt:c.s.m.toNat<w.f.refs.length:=af
  have e:w.f.refs.getD c.s.m.toNat ⟨0,zR⟩=w.f.refs[c.s.m.toNat]:=by simp[hlt]
  rw[e];exact(hw.f.ra _ (cU hlt)).a
 have hL:qO c.d (eh c.s.m 2 (aQ w c.s.m).a {w with fd:=D}).f:=by have h:=hw.f;exact⟨h.live,h.v,h.va,h.jh,by show(List.set _ _ _).length=_;rw[pO];exact h.refs,mem_set h.ra _ ⟨⟨by show(1:Int)<=2;omega,by show(2:Int)<=3;omega⟩,ha,λe=>by have e:(2:Int)=1:=e;omega⟩,h.arr,h.aa,h.ew,h.may,h.parts,h.sub⟩
 have cr:=rK c {w with fd:=D} c.s.m 2 (aQ w c.s.m).a bu (hw.f.yk hc.d);have ca:=qX hc hL hv (aQ w c.s.m).a;unfold gE cY Rs.and;rw[ah (show c.s.op≠6 by omega),ah (show c.s.op≠7 by omega),ah (show c.s.op≠8 by omega),ah (show c.s.op≠9 by omega),aq ho];rcases h with⟨_,e,cf⟩|⟨_,e,cf⟩<;>rw[e]
 ·refine fo Tryz.func287 ?_;refine run ?_;repeat((apply aE;first|exact(si)|exact(cf));refine run ?_)
  exact aG
 show aj Tryz.prog 287 [.ptr 1000 0] (b_ c w) (.bR []) (b_ c (g_ c (aQ w c.s.m).a (eh c.s.m 2 (aQ w c.s.m).a {w with fd:=D})));generalize g_ c (aQ w c.s.m).a (eh c.s.m 2 (aQ w c.s.m).a {w with fd:=D})=W3 at*;generalize eh c.s.m 2 (aQ w c.s.m).a {w with fd:=D}=W2 at*;exact Jr
def T8(hc:kP c)(hw:iK c w)(ho:c.s.op=8)(hn:0<=c.s.n∧c.s.n<c.d.refs)(hm' :0<=c.s.m∧c.s.m<c.d.refs):aj Tryz.prog 287 [.ptr 1000 0] (b_ c w) (cY (gE c w) (.bR [])) (b_ c (gE c w).1):=by
 have b0:=fE (show c.s.op≠6 by omega);have b7:=fE (show c.s.op≠7 by omega);have b1:=tE ho;have hr:=hw.f.refs;have hrl:=hw.f.yk hc.d;obtain⟨D,hD,h⟩:=Ge hw c.s.m af;have hr1:aQ {w with fd:=D} c.s.n=aQ w c.s.n:=rfl;unfold gE cY;rw[ah (show c.s.op≠6 by omega),ah (show c.s.op≠7 by omega),aq ho];rcases h with⟨_,e,cf⟩|⟨_,e,cf⟩<;>rw[e];show aj Tryz.prog 287 [.ptr 1000 0] (b_ c w) (vh 347) (b_ c {w with fd:=D});refine fo Tryz.func287 ?_;exact aW
 ·by_cases hnm:c.s.n=c.s.m;have b2:=tE hnm;have cr:=rK c {w with fd:=D} c.s.n 2 (aQ w c.s.m).a bu hrl;rw[Rs.xv,aq hnm];show aj Tryz.prog 287 [.ptr 1000 0] (b_ c w) (.bR []) (b_ c (eh c.s.n 2 (aQ w c.s.m).a {w with fd:=D}));generalize eh c.s.n 2 (aQ w c.s.m).a {w with fd:=D}=W2 at*;exact Jr
  ·have b2:=fE hnm;obtain⟨E,hE,h2⟩:=Y3 hD c.s.n (aQ w c.s.m).a bu hrl;rw[Rs.xv,ah hnm,show aQ {w with fd:=D} c.s.m=aQ w c.s.m from rfl];rcases h2 with⟨_,e3,ck⟩|⟨_,e3,ck⟩<;>rw[e3];show aj Tryz.prog 287 [.ptr 1000 0] (b_ c w) (vh 347) (b_ c {w with fd:=E});exact Jr
   ·have cr:=rK c (eh c.s.n 2 (aQ w c.s.m).a {w with fd:=E}) c.s.m 1 zR (by show _∧_<(List.set _ _ _).length;rw[pO];exact bu) (by show(List.set _ _ _).length<=_;rw[pO];exact hrl);show aj Tryz.prog 287 [.ptr 1000 0] (b_ c w) (.bR []) (b_ c (eh c.s.m 1 zR (eh c.s.n 2 (aQ w c.s.m).a {w with fd:=E})));dsimp only at ck;generalize eh c.s.m 1 zR (eh c.s.n 2 (aQ w c.s.m).a {w with fd:=E})=W3 at*;generalize eh c.s.n 2 (aQ w c.s.m).a {w with fd:=E}=W2 at*;generalize aQ w c.s.m=R at*;refine fo Tryz.func287 ?_;refine run ?_;repeat((apply aE;first|exact(cf)|exact(ck)|exact(si)|exact(cr));refine run ?_)
    exact aG
end
def En{G:Prop}(h:G:=by unfold dj;simp[hn.2]):G:=h
def Cb{G:Prop}(h:G:=by rw[e];exact hr _ (cU hn.2)):G:=h
def KQ{l:List pL}{n:Int}(h:n.toNat<l.length):nth (l.map bp) n.toNat=some (.agg [it (dj l n).lo,it (dj l n).hi,it (dj l n).mask]):=by rw[bW,fq h];unfold dj;simp[h,bp]
def XM{l:List Qu}{n:Int}(h:n.toNat<l.length):nth (l.map encQ) n.toNat=some (.agg [it (pW l n).cap,it (pW l n).r.lo,it (pW l n).r.hi,it (pW l n).r.mask]):=by rw[bW,fq h];unfold pW;simp[h,encQ]
def KS{l:List Int}{n:Int}(h:n.toNat<l.length):nth (l.map it) n.toNat=some (it (dS l n)):=by rw[bW,fq h];unfold dS;simp[h]
def hPan(r t:Nat):Nat->List Ad:=λn=>bif Nat.beq n (50000+r)then[.tmp t 0]else[]
section
variable{c:Wc}{w:Wk}
theorem TY(hc:kP c)(hw:iK c w)(ho:c.s.op=5){k:Nat}{z:Nat}(he:jY c.d.vars c.d.aK.length k c.s.x z)(hn:0<=c.s.m∧c.s.m.toNat<c.p.d.globals.length)(hr:∀r∈c.p.d.globals,nU r):aj Tryz.prog 286 [.ptr 1000 0] (b_ c w) (cY (rN c w) (.bR [])) (b_ c (rN c w).1):=by
 have b1:=tE ho;have hx:=KQ hn.2;have hn0:=hn.1;have hR:nU (dj c.p.d.globals c.s.m):=by
  have e:dj c.p.d.globals c.s.m=c.p.d.globals[c.s.m.toNat]:=En
  exact Cb
 have cn:=Gf hc hw he hR 12 af;unfold rN cY;rw[aq ho];unfold cY at cn;generalize gY c c.s.x (dj c.p.d.globals c.s.m) 12 w=N at*;obtain⟨W,b⟩:=N;cases b with
 |false=>
  dsimp only[if_false,Bool.false_eq_true]at cn ⊢;generalize dj c.p.d.globals c.s.m=R at*;refine fo Tryz.func286 ?_;refine aN ?_;repeat((first|refine a_.at rfl hn0 hx ?_|(apply aE;exact cn));refine run ?_)
  exact aG
 |true=>
  dsimp only[if_true]at cn ⊢;generalize dj c.p.d.globals c.s.m=R at*;refine eg hm Tryz.func286 (λ_=>false) [] (hPan 3 34) aB ?_;refine run ?_;refine QZ.mk (.inr ?_);refine aN ?_;repeat((first|refine a_.at rfl hn0 hx ?_|(apply aE;exact cn));refine run ?_)
  exact aG
theorem XC(hc:kP c)(hw:iK c w)(ho:c.s.op=18){k:Nat}{z:Nat}(he:jY c.d.vars c.d.aK.length k c.s.x z)(hn:0<=c.s.m∧c.s.m.toNat<c.p.d.eP.length)(hr:∀q∈c.p.d.eP,nU q.r):aj Tryz.prog 286 [.ptr 1000 0] (b_ c w) (cY (rN c w) (.bR [])) (b_ c (rN c w).1):=by
 have b0:=fE (show c.s.op≠5 by omega);have b1:=tE ho;have hx:=XM hn.2;have hn0:=hn.1;have hR:nU (pW c.p.d.eP c.s.m).r:=by
  have e:pW c.p.d.eP c.s.m=c.p.d.eP[c.s.m.toNat]:=by unfold pW;simp[hn.2]
  exact Cb
 have cn:=Gf hc hw he hR 12 af;unfold rN cY;rw[ah (show c.s.op≠5 by omega),aq ho];unfold cY at cn;generalize gY c c.s.x (pW c.p.d.eP c.s.m).r 12 w=N at*;obtain⟨W,b⟩:=N;cases b with
 |false=>
  dsimp only[if_false,Bool.false_eq_true]at cn ⊢;generalize pW c.p.d.eP c.s.m=R at*;refine fo Tryz.func286 ?_;refine aN ?_;repeat((first|refine a_.at rfl hn0 hx ?_|(apply aE;exact cn));refine run ?_)
  exact aG
 |true=>
  dsimp only[if_true]at cn ⊢;generalize pW c.p.d.eP c.s.m=R at*;refine eg hm Tryz.func286 (λ_=>false) [] (hPan 5 49) aB ?_;refine run ?_;refine QZ.mk (.inr ?_);refine aN ?_;repeat((first|refine a_.at rfl hn0 hx ?_|(apply aE;exact cn));refine run ?_)
  exact aG
def XB(hc:kP c)(hw:iK c w)(ho:c.s.op=21){k:Nat}{z:Nat}(he:jY c.d.vars c.d.aK.length k c.s.x z)(hn:0<=c.s.m∧c.s.m.toNat<c.p.d.sinks.length)(hr:∀s∈c.p.d.sinks,0<=s∧s<=255):aj Tryz.prog 286 [.ptr 1000 0] (b_ c w) (cY (rN c w) (.bR [])) (b_ c (rN c w).1):=by
 have b0:=fE (show c.s.op≠5 by omega);have b9:=fE (show c.s.op≠18 by omega);have b1:=tE ho;have hx:=KS hn.2;have hn0:=hn.1;have hS:0<=dS c.p.d.sinks c.s.m∧dS c.p.d.sinks c.s.m<=255:=by
  have e:dS c.p.d.sinks c.s.m=c.p.d.sinks[c.s.m.toNat]:=by unfold dS;simp[hn.2]
  exact Cb
 have cs:=Cp hc hw he;have hA:=sF hc hw he;have hw1:=hw.set (c:=c) he;have k0:=hA.k0;have k1:=hA.k1;have hv:=hw.f.v;have hvl:=hc.d.vars;unfold rN cY;rw[ah (show c.s.op≠5 by omega),ah (show c.s.op≠18 by omega),aq ho];obtain⟨U,hU⟩:∃U,kS c c.s.x w={w with us:=U}:=⟨_,rfl⟩;rw[hU]at cs hw1 ⊢;have e1:=QT (iC c c.s.x w).mask (dS c.p.d.sinks c.s.m);have d1:=B8 (a:=(iC c c.s.x w).mask) (b:=dS c.p.d.sinks c.s.m) (n:=8) af k0 af;have cf:=r6 hw1 7 (kO (iC c c.s.x w).mask (dS c.p.d.sinks c.s.m)==0);obtain⟨D,hD⟩:=sU c 7 (kO (iC c c.s.x w).mask (dS c.p.d.sinks c.s.m)==0) {w with us:=U};rw[hD]at cf ⊢;by_cases hx2:c.s.x.op=2
 ·have b2:=tE hx2;have hvn:=Ly he hx2;have hxv:=vj (f:=w.f) (n:=c.s.x.n) af;have hvn0:=hvn.1;have e2:=nS (gV w.f c.s.x.n).mask (dS c.p.d.sinks c.s.m);have d2:=iP (a:=(gV w.f c.s.x.n).mask) (b:=dS c.p.d.sinks c.s.m) (n:=8) af hS.1 af;have cb:=Of c {w with us:=U,fd:=D} c.s.x.n (SB (gV w.f c.s.x.n) (dS c.p.d.sinks c.s.m)) bu bu;rw[aq hx2];generalize hB:vF c.s.x.n (SB (gV w.f c.s.x.n) (dS c.p.d.sinks c.s.m)) {w with us:=U,fd:=D}=W3 at*;unfold SB ai at cb;dsimp only at cb;generalize iC c c.s.x w=A at*;generalize bz (gV w.f c.s.x.n).mask (dS c.p.d.sinks c.s.m)=M at*;generalize kO A.mask (dS c.p.d.sinks c.s.m)=M2 at*;generalize dS c.p.d.sinks c.s.m=S at*;generalize gV w.f c.s.x.n=G at*;obtain⟨g1,g2,g3,g4,g5⟩:=G;dsimp only at cb e2 hxv;refine fo Tryz.func286 ?_;refine aN ?_;repeat((first|refine a_.at rfl hn0 hx ?_|refine a_.at rfl hvn0 hxv ?_|(apply aE;first|exact cs|exact cf|exact cb));refine run ?_)
  exact aG
 ·have b2:=fE hx2;rw[ah hx2];generalize iC c c.s.x w=A at*;generalize kO A.mask (dS c.p.d.sinks c.s.m)=M2 at*;generalize dS c.p.d.sinks c.s.m=S at*;refine fo Tryz.func286 ?_;refine aN ?_;repeat((first|refine a_.at rfl hn0 hx ?_|(apply aE;first|exact cs|exact cf));refine run ?_)
  exact aG
def CK(hc:kP c)(hw:iK c w){k:Nat}{z:Nat}(he:jY c.d.vars c.d.aK.length k c.s.x z)(hn:0<=c.s.m∧c.s.m<c.d.aK.length):True∧((iZ c w).2=false->iK c (iZ c w).1):=by refine⟨trivial,?_⟩;have hfk:=oN hc.d.LM (GD he hn) (.inr hw.f) true;have hw1:=(hw.set (c:=c) he).find (c:=c) (k:=1) af false;unfold iZ;split;intro _;exact hw.set he;intro hdd;dsimp only at hdd ⊢;rcases hfk with e|hfk;rw[e]at hdd;cases hdd;exact hw1.L6 hfk
end
def nc{G:Prop}(h:G:=by dsimp only[if_false,Bool.false_eq_true]at cc ⊢;refine fo Tryz.func236 ?_;exact aW):G:=h
def m_{G:Prop}(h:G:=by dsimp only[if_true]at cc ⊢;refine fo Tryz.func236 ?_;exact aW):G:=h
def Q_{G:Prop}(h:G:=by rw[Rs.xu];dsimp only[if_true]at ci ⊢;refine fo Tryz.func236 ?_;exact aW):G:=h
def nD{c:Wc}{n:Int}(h:¬c.s.op=n:=by omega):¬c.s.op=n:=h
section
variable{c:Wc}{w:Wk}
def do_set(h:Hd)(y:Sy)(hc:kP c)(hw:iK c w)(ho:c.s.op=1){k:Nat}{z:Nat}(he:jY c.d.vars c.d.aK.length k c.s.x z)(hn:0<=c.s.n∧c.s.n<c.d.vars):aj Tryz.prog 236 [.ptr 1000 0] (b_ c w) (cY (kC c h y w) (.bR [])) (b_ c (kC c h y w).1):=by
 have o1:(c.s.op==1)=true:=aw
 have cs:=Cp hc hw he;have cf:=setF_c hc.d hw.f c.s.n hn (iC c c.s.x w) he;unfold kC cY;rw[aq (show c.s.op=1 by omega)];obtain⟨U,hU⟩:∃U,kS c c.s.x w={w with us:=U}:=⟨_,rfl⟩;rw[hU]at cs ⊢;generalize MC w.f c.s.n (iC c c.s.x w) c.s.x=F at*;generalize iC c c.s.x w=A at*;refine fo Tryz.func236 ?_;exact aW
def do_read(h:Hd)(y:Sy)(hc:kP c)(hw:iK c w)(ho:c.s.op=4)(hv:0<=c.s.n∧c.s.n<c.d.vars)(hn:0<=c.s.m∧c.s.m.toNat<c.p.d.globals.length)(hr:∀q∈c.p.d.globals,nU q):aj Tryz.prog 236 [.ptr 1000 0] (b_ c w) (cY (kC c h y w) (.bR [])) (b_ c (kC c h y w).1):=by
 have o1:(c.s.op==1)=false:=aw
 have o2:(c.s.op==2)=false:=aw
 have o3:(c.s.op==3)=false:=aw
 have o4:(c.s.op==4)=true:=aw
 have hx:=KQ hn.2;have hn0:=hn.1;have hR:nU (dj c.p.d.globals c.s.m):=by
  have e:dj c.p.d.globals c.s.m=c.p.d.globals[c.s.m.toNat]:=En
  exact Cb
 have h1:=hR.lo;have h2:=hR.le;have h3:=hR.hi;have ci:=Lf (dj c.p.d.globals c.s.m) af af;have ca:=qX hc hw.f hv (jj (dj c.p.d.globals c.s.m));unfold kC cY;(repeat rw[ah nD]);rw[aq (show c.s.op=4 by omega)];generalize g_ c (jj (dj c.p.d.globals c.s.m)) w=W at*;generalize jj (dj c.p.d.globals c.s.m)=A at*;generalize dj c.p.d.globals c.s.m=R at*;refine fo Tryz.func236 ?_;refine aN ?_;repeat((first|refine a_.at rfl hn0 hx ?_|(apply aE;first|exact ci|exact ca));refine run ?_)
 exact aG
def do_recv(h:Hd)(y:Sy)(hc:kP c)(hw:iK c w)(ho:c.s.op=19)(hv:0<=c.s.n∧c.s.n<c.d.vars)(hn:0<=c.s.m∧c.s.m.toNat<c.p.d.eP.length)(hr:∀q∈c.p.d.eP,nU q.r):aj Tryz.prog 236 [.ptr 1000 0] (b_ c w) (cY (kC c h y w) (.bR [])) (b_ c (kC c h y w).1):=by
 have o1:(c.s.op==1)=false:=aw
 have o2:(c.s.op==2)=false:=aw
 have o3:(c.s.op==3)=false:=aw
 have o4:(c.s.op==4)=false:=aw
 have Oz:(c.s.op==19)=true:=aw
 have hx:=XM hn.2;have hn0:=hn.1;have hR:nU ((pW c.p.d.eP c.s.m).r):=by
  have e:pW c.p.d.eP c.s.m=c.p.d.eP[c.s.m.toNat]:=by unfold pW;simp[hn.2]
  exact Cb
 have h1:=hR.lo;have h2:=hR.le;have h3:=hR.hi;have ci:=Lf ((pW c.p.d.eP c.s.m).r) af af;have ca:=qX hc hw.f hv (jj ((pW c.p.d.eP c.s.m).r));unfold kC cY;(repeat rw[ah nD]);rw[aq (show c.s.op=19 by omega)];generalize g_ c (jj ((pW c.p.d.eP c.s.m).r)) w=W at*;generalize jj ((pW c.p.d.eP c.s.m).r)=A at*;generalize pW c.p.d.eP c.s.m=R at*;refine fo Tryz.func236 ?_;refine aN ?_;repeat((first|refine a_.at rfl hn0 hx ?_|(apply aE;first|exact ci|exact ca));refine run ?_)
 exact aG
def UJ(h:Hd)(y:Sy)(hc:kP c)(hw:iK c w)(ho:c.s.op=20)(hv:0<=c.s.n∧c.s.n<c.d.vars)(hn:0<=c.s.m∧c.s.m.toNat<c.p.d.ft.length)(hr:∀q∈c.p.d.ft,nU q):aj Tryz.prog 236 [.ptr 1000 0] (b_ c w) (cY (kC c h y w) (.bR [])) (b_ c (kC c h y w).1):=by
 have o1:(c.s.op==1)=false:=aw
 have o2:(c.s.op==2)=false:=aw
 have o3:(c.s.op==3)=false:=aw
 have o4:(c.s.op==4)=false:=aw
 have Oz:(c.s.op==19)=false:=aw
 have Qc:(c.s.op==20)=true:=aw
 have hx:=KQ hn.2;have hn0:=hn.1;have hR:nU (dj c.p.d.ft c.s.m):=by
  have e:dj c.p.d.ft c.s.m=c.p.d.ft[c.s.m.toNat]:=En
  exact Cb
 have h1:=hR.lo;have h2:=hR.le;have h3:=hR.hi;have ci:=Lf (dj c.p.d.ft c.s.m) af af;have ca:=qX hc hw.f hv (jj (dj c.p.d.ft c.s.m));unfold kC cY;(repeat rw[ah nD]);rw[aq (show c.s.op=20 by omega)];generalize g_ c (jj (dj c.p.d.ft c.s.m)) w=W at*;generalize jj (dj c.p.d.ft c.s.m)=A at*;generalize dj c.p.d.ft c.s.m=R at*;refine fo Tryz.func236 ?_;refine aN ?_;repeat((first|refine a_.at rfl hn0 hx ?_|(apply aE;first|exact ci|exact ca));refine run ?_)
 exact aG
def do_out5(h:Hd)(y:Sy)(ho:c.s.op=5)(cc:aj Tryz.prog 286 [.ptr 1000 0] (b_ c w) (cY (rN c w) (.bR [])) (b_ c (rN c w).1)):aj Tryz.prog 236 [.ptr 1000 0] (b_ c w) (cY (kC c h y w) (.bR [])) (b_ c (kC c h y w).1):=by
 have o1:(c.s.op==1)=false:=aw
 have o2:(c.s.op==2)=false:=aw
 have o3:(c.s.op==3)=false:=aw
 have o4:(c.s.op==4)=false:=aw
 have Oz:(c.s.op==19)=false:=aw
 have Qc:(c.s.op==20)=false:=aw
 have o5:(c.s.op==5)=true:=aw
 unfold kC cY;(repeat rw[ah nD]);rw[aq (show c.s.op=5∨c.s.op=18∨c.s.op=21 by omega)];unfold cY at cc;generalize rN c w=N at*;obtain⟨W,b⟩:=N;cases b with|false=>exact nc|true=>exact m_
def Zh(h:Hd)(y:Sy)(ho:c.s.op=18)(cc:aj Tryz.prog 286 [.ptr 1000 0] (b_ c w) (cY (rN c w) (.bR [])) (b_ c (rN c w).1)):aj Tryz.prog 236 [.ptr 1000 0] (b_ c w) (cY (kC c h y w) (.bR [])) (b_ c (kC c h y w).1):=by
 have o1:(c.s.op==1)=false:=aw
 have o2:(c.s.op==2)=false:=aw
 have o3:(c.s.op==3)=false:=aw
 have o4:(c.s.op==4)=false:=aw
 have Oz:(c.s.op==19)=false:=aw
 have Qc:(c.s.op==20)=false:=aw
 have o5:(c.s.op==5)=false:=aw
 have TZ:(c.s.op==18)=true:=aw
 unfold kC cY;(repeat rw[ah nD]);rw[aq (show c.s.op=5∨c.s.op=18∨c.s.op=21 by omega)];unfold cY at cc;generalize rN c w=N at*;obtain⟨W,b⟩:=N;cases b with|false=>exact nc|true=>exact m_
def Zg(h:Hd)(y:Sy)(ho:c.s.op=21)(cc:aj Tryz.prog 286 [.ptr 1000 0] (b_ c w) (cY (rN c w) (.bR [])) (b_ c (rN c w).1)):aj Tryz.prog 236 [.ptr 1000 0] (b_ c w) (cY (kC c h y w) (.bR [])) (b_ c (kC c h y w).1):=by
 have o1:(c.s.op==1)=false:=aw
 have o2:(c.s.op==2)=false:=aw
 have o3:(c.s.op==3)=false:=aw
 have o4:(c.s.op==4)=false:=aw
 have Oz:(c.s.op==19)=false:=aw
 have Qc:(c.s.op==20)=false:=aw
 have o5:(c.s.op==5)=false:=aw
 have TZ:(c.s.op==18)=false:=aw
 have U6:(c.s.op==21)=true:=aw
 unfold kC cY;(repeat rw[ah nD]);rw[aq (show c.s.op=5∨c.s.op=18∨c.s.op=21 by omega)];unfold cY at cc;generalize rN c w=N at*;obtain⟨W,b⟩:=N;cases b with|false=>exact nc|true=>exact m_
def Zl(h:Hd)(y:Sy)(ho:c.s.op=6)(cc:aj Tryz.prog 287 [.ptr 1000 0] (b_ c w) (cY (gE c w) (.bR [])) (b_ c (gE c w).1)):aj Tryz.prog 236 [.ptr 1000 0] (b_ c w) (cY (kC c h y w) (.bR [])) (b_ c (kC c h y w).1):=by
 have o1:(c.s.op==1)=false:=aw
 have o2:(c.s.op==2)=false:=aw
 have o3:(c.s.op==3)=false:=aw
 have o4:(c.s.op==4)=false:=aw
 have Oz:(c.s.op==19)=false:=aw
 have Qc:(c.s.op==20)=false:=aw
 have o5:(c.s.op==5)=false:=aw
 have TZ:(c.s.op==18)=false:=aw
 have U6:(c.s.op==21)=false:=aw
 have o6:(c.s.op==6)=true:=aw
 unfold kC cY;(repeat rw[ah nD]);rw[ah (show ¬(c.s.op=5∨c.s.op=18∨c.s.op=21) by omega),aq (show c.s.op=6∨c.s.op=7∨c.s.op=8∨c.s.op=9∨c.s.op=10 by omega)];unfold cY at cc;generalize gE c w=N at*;obtain⟨W,b⟩:=N;cases b with|false=>exact nc|true=>exact m_
def Zk(h:Hd)(y:Sy)(ho:c.s.op=7)(cc:aj Tryz.prog 287 [.ptr 1000 0] (b_ c w) (cY (gE c w) (.bR [])) (b_ c (gE c w).1)):aj Tryz.prog 236 [.ptr 1000 0] (b_ c w) (cY (kC c h y w) (.bR [])) (b_ c (kC c h y w).1):=by
 have o1:(c.s.op==1)=false:=aw
 have o2:(c.s.op==2)=false:=aw
 have o3:(c.s.op==3)=false:=aw
 have o4:(c.s.op==4)=false:=aw
 have Oz:(c.s.op==19)=false:=aw
 have Qc:(c.s.op==20)=false:=aw
 have o5:(c.s.op==5)=false:=aw
 have TZ:(c.s.op==18)=false:=aw
 have U6:(c.s.op==21)=false:=aw
 have o6:(c.s.op==6)=false:=aw
 have o7:(c.s.op==7)=true:=aw
 unfold kC cY;(repeat rw[ah nD]);rw[ah (show ¬(c.s.op=5∨c.s.op=18∨c.s.op=21) by omega),aq (show c.s.op=6∨c.s.op=7∨c.s.op=8∨c.s.op=9∨c.s.op=10 by omega)];unfold cY at cc;generalize gE c w=N at*;obtain⟨W,b⟩:=N;cases b with|false=>exact nc|true=>exact m_
def Zj(h:Hd)(y:Sy)(ho:c.s.op=8)(cc:aj Tryz.prog 287 [.ptr 1000 0] (b_ c w) (cY (gE c w) (.bR [])) (b_ c (gE c w).1)):aj Tryz.prog 236 [.ptr 1000 0] (b_ c w) (cY (kC c h y w) (.bR [])) (b_ c (kC c h y w).1):=by
 have o1:(c.s.op==1)=false:=aw
 have o2:(c.s.op==2)=false:=aw
 have o3:(c.s.op==3)=false:=aw
 have o4:(c.s.op==4)=false:=aw
 have Oz:(c.s.op==19)=false:=aw
 have Qc:(c.s.op==20)=false:=aw
 have o5:(c.s.op==5)=false:=aw
 have TZ:(c.s.op==18)=false:=aw
 have U6:(c.s.op==21)=false:=aw
 have o6:(c.s.op==6)=false:=aw
 have o7:(c.s.op==7)=false:=aw
 have o8:(c.s.op==8)=true:=aw
 unfold kC cY;(repeat rw[ah nD]);rw[ah (show ¬(c.s.op=5∨c.s.op=18∨c.s.op=21) by omega),aq (show c.s.op=6∨c.s.op=7∨c.s.op=8∨c.s.op=9∨c.s.op=10 by omega)];unfold cY at cc;generalize gE c w=N at*;obtain⟨W,b⟩:=N;cases b with|false=>exact nc|true=>exact m_
def Zi(h:Hd)(y:Sy)(ho:c.s.op=9)(cc:aj Tryz.prog 287 [.ptr 1000 0] (b_ c w) (cY (gE c w) (.bR [])) (b_ c (gE c w).1)):aj Tryz.prog 236 [.ptr 1000 0] (b_ c w) (cY (kC c h y w) (.bR [])) (b_ c (kC c h y w).1):=by
 have o1:(c.s.op==1)=false:=aw
 have o2:(c.s.op==2)=false:=aw
 have o3:(c.s.op==3)=false:=aw
 have o4:(c.s.op==4)=false:=aw
 have Oz:(c.s.op==19)=false:=aw
 have Qc:(c.s.op==20)=false:=aw
 have o5:(c.s.op==5)=false:=aw
 have TZ:(c.s.op==18)=false:=aw
 have U6:(c.s.op==21)=false:=aw
 have o6:(c.s.op==6)=false:=aw
 have o7:(c.s.op==7)=false:=aw
 have o8:(c.s.op==8)=false:=aw
 have o9:(c.s.op==9)=true:=aw
 unfold kC cY;(repeat rw[ah nD]);rw[ah (show ¬(c.s.op=5∨c.s.op=18∨c.s.op=21) by omega),aq (show c.s.op=6∨c.s.op=7∨c.s.op=8∨c.s.op=9∨c.s.op=10 by omega)];unfold cY at cc;generalize gE c w=N at*;obtain⟨W,b⟩:=N;cases b with|false=>exact nc|true=>exact m_
def UK(h:Hd)(y:Sy)(ho:c.s.op=10)(cc:aj Tryz.prog 287 [.ptr 1000 0] (b_ c w) (cY (gE c w) (.bR [])) (b_ c (gE c w).1)):aj Tryz.prog 236 [.ptr 1000 0] (b_ c w) (cY (kC c h y w) (.bR [])) (b_ c (kC c h y w).1):=by
 have o1:(c.s.op==1)=false:=aw
 have o2:(c.s.op==2)=false:=aw
 have o3:(c.s.op==3)=false:=aw
 have o4:(c.s.op==4)=false:=aw
 have Oz:(c.s.op==19)=false:=aw
 have Qc:(c.s.op==20)=false:=aw
 have o5:(c.s.op==5)=false:=aw
 have TZ:(c.s.op==18)=false:=aw
 have U6:(c.s.op==21)=false:=aw
 have o6:(c.s.op==6)=false:=aw
 have o7:(c.s.op==7)=false:=aw
 have o8:(c.s.op==8)=false:=aw
 have o9:(c.s.op==9)=false:=aw
 have XK:(c.s.op==10)=true:=aw
 unfold kC cY;(repeat rw[ah nD]);rw[ah (show ¬(c.s.op=5∨c.s.op=18∨c.s.op=21) by omega),aq (show c.s.op=6∨c.s.op=7∨c.s.op=8∨c.s.op=9∨c.s.op=10 by omega)];unfold cY at cc;generalize gE c w=N at*;obtain⟨W,b⟩:=N;cases b with|false=>exact nc|true=>exact m_
def UM(h:Hd)(y:Sy)(ho:c.s.op=16)(cc:aj Tryz.prog 288 [.ptr 1000 0] (b_ c w) (cY (sN c w) (.bR [])) (b_ c (sN c w).1)):aj Tryz.prog 236 [.ptr 1000 0] (b_ c w) (cY (kC c h y w) (.bR [])) (b_ c (kC c h y w).1):=by
 have o1:(c.s.op==1)=false:=aw
 have o2:(c.s.op==2)=false:=aw
 have o3:(c.s.op==3)=false:=aw
 have o4:(c.s.op==4)=false:=aw
 have Oz:(c.s.op==19)=false:=aw
 have Qc:(c.s.op==20)=false:=aw
 have o5:(c.s.op==5)=false:=aw
 have TZ:(c.s.op==18)=false:=aw
 have U6:(c.s.op==21)=false:=aw
 have o6:(c.s.op==6)=false:=aw
 have o7:(c.s.op==7)=false:=aw
 have o8:(c.s.op==8)=false:=aw
 have o9:(c.s.op==9)=false:=aw
 have XK:(c.s.op==10)=false:=aw
 have o16:(c.s.op==16)=true:=aw
 unfold kC cY;(repeat rw[ah nD]);rw[ah (show ¬(c.s.op=5∨c.s.op=18∨c.s.op=21) by omega),ah (show ¬(c.s.op=6∨c.s.op=7∨c.s.op=8∨c.s.op=9∨c.s.op=10) by omega),aq (show c.s.op=16∨c.s.op=17 by omega)];unfold cY at cc;generalize sN c w=N at*;obtain⟨W,b⟩:=N;cases b with|false=>exact nc|true=>exact m_
def UL(h:Hd)(y:Sy)(ho:c.s.op=17)(cc:aj Tryz.prog 288 [.ptr 1000 0] (b_ c w) (cY (sN c w) (.bR [])) (b_ c (sN c w).1)):aj Tryz.prog 236 [.ptr 1000 0] (b_ c w) (cY (kC c h y w) (.bR [])) (b_ c (kC c h y w).1):=by
 have o1:(c.s.op==1)=false:=aw
 have o2:(c.s.op==2)=false:=aw
 have o3:(c.s.op==3)=false:=aw
 have o4:(c.s.op==4)=false:=aw
 have Oz:(c.s.op==19)=false:=aw
 have Qc:(c.s.op==20)=false:=aw
 have o5:(c.s.op==5)=false:=aw
 have TZ:(c.s.op==18)=false:=aw
 have U6:(c.s.op==21)=false:=aw
 have o6:(c.s.op==6)=false:=aw
 have o7:(c.s.op==7)=false:=aw
 have o8:(c.s.op==8)=false:=aw
 have o9:(c.s.op==9)=false:=aw
 have XK:(c.s.op==10)=false:=aw
 have o16:(c.s.op==16)=false:=aw
 have o17:(c.s.op==17)=true:=aw
 unfold kC cY;(repeat rw[ah nD]);rw[ah (show ¬(c.s.op=5∨c.s.op=18∨c.s.op=21) by omega),ah (show ¬(c.s.op=6∨c.s.op=7∨c.s.op=8∨c.s.op=9∨c.s.op=10) by omega),aq (show c.s.op=16∨c.s.op=17 by omega)];unfold cY at cc;generalize sN c w=N at*;obtain⟨W,b⟩:=N;cases b with|false=>exact nc|true=>exact m_
def do_use(h:Hd)(y:Sy)(hw:iK c w)(ho:c.s.op=22)(hm' :0<=c.s.m∧c.s.m<16):aj Tryz.prog 236 [.ptr 1000 0] (b_ c w) (cY (kC c h y w) (.bR [])) (b_ c (kC c h y w).1):=by
 have o1:(c.s.op==1)=false:=aw
 have o2:(c.s.op==2)=false:=aw
 have o3:(c.s.op==3)=false:=aw
 have o4:(c.s.op==4)=false:=aw
 have Oz:(c.s.op==19)=false:=aw
 have Qc:(c.s.op==20)=false:=aw
 have o5:(c.s.op==5)=false:=aw
 have TZ:(c.s.op==18)=false:=aw
 have U6:(c.s.op==21)=false:=aw
 have o6:(c.s.op==6)=false:=aw
 have o7:(c.s.op==7)=false:=aw
 have o8:(c.s.op==8)=false:=aw
 have o9:(c.s.op==9)=false:=aw
 have XK:(c.s.op==10)=false:=aw
 have o16:(c.s.op==16)=false:=aw
 have o17:(c.s.op==17)=false:=aw
 have o22:(c.s.op==22)=true:=aw
 have hb:=C4 hm';have hm0:=hm'.1;have hp:=hw.f.parts;have e1:=Bq w.f.parts (gZ c.s.m);have d1:=rO (a:=w.f.parts) (b:=gZ c.s.m) (n:=16) af af af af hb.2;unfold kC cY A';(repeat rw[ah nD]);rw[ah (show ¬(c.s.op=5∨c.s.op=18∨c.s.op=21) by omega),ah (show ¬(c.s.op=6∨c.s.op=7∨c.s.op=8∨c.s.op=9∨c.s.op=10) by omega),ah (show ¬(c.s.op=16∨c.s.op=17) by omega),aq (show c.s.op=22 by omega)];unfold gZ at*;generalize iD w.f.parts (IntKind.i64.wrap (1*2^(min c.s.m.toNat IntKind.i64.bits)))=O at*;refine fo Tryz.func236 ?_;exact aT
def UN(h:Hd)(y:Sy)(hc:kP c)(hw:iK c w)(ho:c.s.op=23){k:Nat}{z:Nat}(he:Ff c.d.vars c.d.aK.length k c.s.c z):aj Tryz.prog 236 [.ptr 1000 0] (b_ c w) (cY (kC c h y w) (.bR [])) (b_ c (kC c h y w).1):=by
 have o1:(c.s.op==1)=false:=aw
 have o2:(c.s.op==2)=false:=aw
 have o3:(c.s.op==3)=false:=aw
 have o4:(c.s.op==4)=false:=aw
 have Oz:(c.s.op==19)=false:=aw
 have Qc:(c.s.op==20)=false:=aw
 have o5:(c.s.op==5)=false:=aw
 have TZ:(c.s.op==18)=false:=aw
 have U6:(c.s.op==21)=false:=aw
 have o6:(c.s.op==6)=false:=aw
 have o7:(c.s.op==7)=false:=aw
 have o8:(c.s.op==8)=false:=aw
 have o9:(c.s.op==9)=false:=aw
 have XK:(c.s.op==10)=false:=aw
 have o16:(c.s.op==16)=false:=aw
 have o17:(c.s.op==17)=false:=aw
 have o22:(c.s.op==22)=false:=aw
 have o23:(c.s.op==23)=true:=aw
 have c1:=C6 hc.d he (.inr hw.f) false;have c2:=C6 hc.d he (.inr hw.f) true;have cf:=r6 hw 10 (dW c.d c.s.c w.f false).dead;unfold kC cY;(repeat rw[ah nD]);rw[ah (show ¬(c.s.op=5∨c.s.op=18∨c.s.op=21) by omega),ah (show ¬(c.s.op=6∨c.s.op=7∨c.s.op=8∨c.s.op=9∨c.s.op=10) by omega),ah (show ¬(c.s.op=16∨c.s.op=17) by omega),aq (show c.s.op=23 by omega)];obtain⟨D,hD⟩:=sU c 10 (dW c.d c.s.c w.f false).dead w;rw[hD]at cf ⊢;generalize dW c.d c.s.c w.f true=F2 at*;generalize dW c.d c.s.c w.f false=F1 at*;refine fo Tryz.func236 ?_;exact aW
def Ze(h:Hd)(y:Sy)(ho:c.s.op=14)(hv:0<=c.s.v):aj Tryz.prog 236 [.ptr 1000 0] (b_ c w) (cY (kC c h y w) (.bR [])) (b_ c (kC c h y w).1):=by
 have o1:(c.s.op==1)=false:=aw
 have o2:(c.s.op==2)=false:=aw
 have o3:(c.s.op==3)=false:=aw
 have o4:(c.s.op==4)=false:=aw
 have Oz:(c.s.op==19)=false:=aw
 have Qc:(c.s.op==20)=false:=aw
 have o5:(c.s.op==5)=false:=aw
 have TZ:(c.s.op==18)=false:=aw
 have U6:(c.s.op==21)=false:=aw
 have o6:(c.s.op==6)=false:=aw
 have o7:(c.s.op==7)=false:=aw
 have o8:(c.s.op==8)=false:=aw
 have o9:(c.s.op==9)=false:=aw
 have XK:(c.s.op==10)=false:=aw
 have o16:(c.s.op==16)=false:=aw
 have o17:(c.s.op==17)=false:=aw
 have o22:(c.s.op==22)=false:=aw
 have o23:(c.s.op==23)=false:=aw
 have o14:(c.s.op==14)=true:=aw
 have ct:=Sb c w (gZ c.s.v);have cp:=jG c w (b_ c (jt (gZ c.s.v) w));unfold kC cY;(repeat rw[ah nD]);rw[ah (show ¬(c.s.op=5∨c.s.op=18∨c.s.op=21) by omega),ah (show ¬(c.s.op=6∨c.s.op=7∨c.s.op=8∨c.s.op=9∨c.s.op=10) by omega),ah (show ¬(c.s.op=16∨c.s.op=17) by omega),aq (show c.s.op=14 by omega)];unfold gZ at*;generalize jt (IntKind.i64.wrap (1*2^(min c.s.v.toNat IntKind.i64.bits))) w=W at*;refine fo Tryz.func236 ?_;exact aW
theorem do_load(h:Hd)(y:Sy)(hc:kP c)(hw:iK c w)(ho:c.s.op=2){k:Nat}{z:Nat}(he:jY c.d.vars c.d.aK.length k c.s.x z)(hn:0<=c.s.m∧c.s.m<c.d.aK.length)(hv:0<=c.s.n∧c.s.n<c.d.vars):aj Tryz.prog 236 [.ptr 1000 0] (b_ c w) (cY (kC c h y w) (.bR [])) (b_ c (kC c h y w).1):=by
 have o1:(c.s.op==1)=false:=aw
 have o2:(c.s.op==2)=true:=aw
 have ci:=Nt hc hw he hn;obtain⟨hWi,hlv⟩:=CK hc hw he hn;unfold kC cY;rw[ah (show ¬(c.s.op=1) by omega),aq (show c.s.op=2 by omega)];unfold cY at ci;generalize iZ c w=N at*;obtain⟨W,b⟩:=N;cases b with
 |true=>exact Q_
 |false=>
  rw[Rs.xv];have hW:=hlv rfl;dsimp only[if_false,Bool.false_eq_true]at ci hW ⊢;have har:=hW.f.arr;have hx:=KS (l:=W.f.arr) (n:=c.s.m) af;have hn0:=hn.1;have cl:=all_c (dS W.f.arr c.s.m);have ca:=qX hc hW.f hv (Hq (dS W.f.arr c.s.m));generalize g_ c (Hq (dS W.f.arr c.s.m)) W=W2 at*;generalize Hq (dS W.f.arr c.s.m)=A at*;generalize dS W.f.arr c.s.m=I at*;refine fo Tryz.func236 ?_;refine aN ?_;repeat((first|refine a_.at rfl hn0 hx ?_|(apply aE;first|exact cl|exact ca));refine run ?_)
  exact aG
theorem Zf(h:Hd)(y:Sy)(hc:kP c)(hw:iK c w)(ho:c.s.op=3){k:Nat}{z:Nat}(he:jY c.d.vars c.d.aK.length k c.s.x z){k2:Nat}{z2:Nat}(hy:jY c.d.vars c.d.aK.length k2 c.s.y z2)(hn:0<=c.s.m∧c.s.m<c.d.aK.length):aj Tryz.prog 236 [.ptr 1000 0] (b_ c w) (cY (kC c h y w) (.bR [])) (b_ c (kC c h y w).1):=by
 have o1:(c.s.op==1)=false:=aw
 have o2:(c.s.op==2)=false:=aw
 have o3:(c.s.op==3)=true:=aw
 have ci:=Nt hc hw he hn;obtain⟨hWi,hlv⟩:=CK hc hw he hn;unfold kC cY;(repeat rw[ah nD]);rw[aq (show c.s.op=3 by omega)];unfold cY at ci;generalize iZ c w=N at*;obtain⟨W,b⟩:=N;cases b with
 |true=>exact Q_
 |false=>
  rw[Rs.xv];have hW:=hlv rfl;dsimp only[if_false,Bool.false_eq_true]at ci hW ⊢;have har:=hW.f.arr;have han:=hc.d.an;have hx:=KS (l:=W.f.arr) (n:=c.s.m) af;have hn0:=hn.1;have cs:=Cp hc hW hy;have hA:=sF hc hW hy;have k0:=hA.k0;have k1:=hA.k1;obtain⟨U,hU⟩:∃U,kS c c.s.y W={W with us:=U}:=⟨_,rfl⟩;rw[hU]at cs ⊢;have hI:0<=dS W.f.arr c.s.m∧dS W.f.arr c.s.m<=255:=by
   have hlt:c.s.m.toNat<W.f.arr.length:=af;have e:dS W.f.arr c.s.m=W.f.arr[c.s.m.toNat]:=by unfold dS;simp[hlt]
   rw[e];exact hW.f.aa _ (cU hlt)
  have c3:=Oc (W.f.arr.map it) (λe=>by have h:W.f.arr=[]:=ze.1 e;rw[h]at har;simp only[km]at har;omega) ui;have e1:=Bq (dS W.f.arr c.s.m) (iC c c.s.y W).mask;have d1:=rO (a:=dS W.f.arr c.s.m) (b:=(iC c c.s.y W).mask) (n:=8) af hI.1 af k0 af;show aj Tryz.prog 236 [.ptr 1000 0] (b_ c w) (.bR []) (b_ c {W with us:=U,f:={W.f with arr:=W.f.arr.set c.s.m.toNat (iD (dS W.f.arr c.s.m) (iC c c.s.y W).mask)}});have e:b_ c {W with us:=U,f:={W.f with arr:=W.f.arr.set c.s.m.toNat (iD (dS W.f.arr c.s.m) (iC c c.s.y W).mask)}}=ctX c {W with us:=U} (fj 5 ai W.f.v) (fj 6 aO W.f.refs) (.sl 1 ((W.f.arr.map it).set c.s.m.toNat (it (iD (dS W.f.arr c.s.m) (iC c c.s.y W).mask))) false):=by rw[<-jL];rfl
  have el:((W.f.arr.map it).set c.s.m.toNat (it (iD (dS W.f.arr c.s.m) (iC c c.s.y W).mask))).length=(W.f.arr.map it).length:=ag
  rw[e];generalize iD (dS W.f.arr c.s.m) (iC c c.s.y W).mask=O at*;generalize iC c c.s.y W=A at*;generalize dS W.f.arr c.s.m=I at*;refine eg hm Tryz.func236 (λ_=>false) [] (hLay 69) aB ?_;refine aN ?_;repeat((first|refine a_.at rfl hn0 hx ?_|(apply aE;first|exact cs|exact c3));refine run ?_)
  exact aG
end
section
variable{c:Wc}{w:Wk}
def iK.ref{n s:Int}{a:Av}(hw:iK c w)(hs:1<=s∧s<=3)(ha:aU a)(hz:s=1->a=zR):iK c (eh n s a w):=by refine hw.L6 (f:={w.f with refs:=w.f.refs.set n.toNat ⟨s,a⟩}) ?_;have h:=hw.f;exact⟨h.live,h.v,h.va,h.jh,by rw[pO];exact h.refs,mem_set h.ra _ ⟨hs,ha,hz⟩,h.arr,h.aa,h.ew,h.may,h.parts,h.sub⟩
def iK.Hg{n:Int}{a:Av}(hw:iK c w)(ha:aU a):iK c (vF n a w):=by refine hw.L6 (f:={w.f with v:=w.f.v.set n.toNat a}) ?_;have h:=hw.f;exact⟨h.live,by rw[pO];exact h.v,mem_set h.va _ ha,h.jh,h.refs,h.ra,h.arr,h.aa,h.ew,h.may,h.parts,h.sub⟩
def CD(hc:kP c)(hw:iK c w){k:Nat}{e:Ex}{z:Nat}(he:jY c.d.vars c.d.aK.length k e z){r:pL}(hr:nU r){kind:Int}(hk:1<=kind∧kind<=14):iK c (gY c e r kind w).1:=by have hv:=sF hc hw he;have hw1:=hw.set (c:=c) he;have hw2:=hw1.find hk false;unfold gY;split;exact hw1;split;rename_i m hm;dsimp only;split;exact hw2.Hg (EU hv hr.av hm);exact hw2;exact hw2
def MJ(hw:iK c w){n:Int}(hn:0<=n∧n<c.d.refs):HS (aQ w n):=by
 have hr:=hw.f.refs;have hlt:n.toNat<w.f.refs.length:=af
 have e:aQ w n=w.f.refs[n.toNat]:=by unfold aQ;simp[hlt]
 rw[e];exact hw.f.ra _ (cU hlt)
def ptr_ok(hw:iK c w){h:Hd}{n:Int}{i:Nat}:iK c (tT c h n i w).1:=by
 have hw1:=hw.find (c:=c) (k:=2) af (bz (aQ w n).s 1==0);have hw2:=hw1.find (c:=c) (k:=11) af (vT (aQ w n).a (jj (dj h.given i)));have hz:aU zR:=A8;unfold tT iF wF Rs.and;dsimp only;split;exact hw1
 ·try dsimp only
  split;exact hw2;exact hw2.ref ⟨af,af⟩ hz (λ_=>rfl)
theorem Hk{h:Hd}:∀{l:List Ex} {i:Nat} {w:Wk} (k:Nat),(fV c h (l.take k) i w).2=true->fV c h l i w=fV c h (l.take k) i w|[],_,_,k,_=>by simp|e::l,i,w,0,hk=>by simp[fV]at hk|e::l,i,w,k+1,hk=>by rw[List.take_succ_cons]at hk ⊢;unfold fV at hk ⊢;unfold Rs.and at hk ⊢;split;rfl;rename_i h1;rw[ah h1]at hk;exact Hk (l:=l) k hk
theorem Hl{h:Hd}:∀{l:List Ex} {i:Nat} {w:Wk} (e:Ex),(fV c h l i w).2=false->fV c h (l++[e]) i w=gY c e (dj h.params (i+l.length:Nat)) 11 (fV c h l i w).1
 |[],i,w,e,_=>by simp only[List.nil_append,fV,km,kl];unfold Rs.and;split;rfl;rename_i hh;cases hN:gY c e (dj h.params i) 11 w with|mk W b=>rw[hN]at hh;cases b with|true=>exact absurd rfl hh|false=>rfl
 |x::l,i,w,e,hk=>by rw[x_];unfold fV at hk ⊢;unfold Rs.and at hk ⊢;split;rename_i h1;rw[aq h1,h1]at hk;cases hk;rename_i h1;rw[ah h1]at hk;rw[Hl (l:=l) e hk];congr 2;exact aA
theorem FR{h:Hd}:∀{l:List Int} {i:Nat} {w:Wk} (k:Nat),(fO c h (l.take k) i w).2=true->fO c h l i w=fO c h (l.take k) i w|[],_,_,k,_=>by simp|e::l,i,w,0,hk=>by simp[fO]at hk|e::l,i,w,k+1,hk=>by rw[List.take_succ_cons]at hk ⊢;unfold fO at hk ⊢;unfold Rs.and at hk ⊢;split;rfl;rename_i h1;rw[ah h1]at hk;exact FR (l:=l) k hk
theorem FT{h:Hd}:∀{l:List Int} {i:Nat} {w:Wk} (e:Int),(fO c h l i w).2=false->fO c h (l++[e]) i w=tT c h e (i+l.length) (fO c h l i w).1
 |[],i,w,e,_=>by simp only[List.nil_append,fO,km,kl];unfold Rs.and;split;rfl;rename_i hh;cases hN:tT c h e i w with|mk W b=>rw[hN]at hh;cases b with|true=>exact absurd rfl hh|false=>rfl
 |x::l,i,w,e,hk=>by rw[x_];unfold fO at hk ⊢;unfold Rs.and at hk ⊢;split;rename_i h1;rw[aq h1,h1]at hk;cases hk;rename_i h1;rw[ah h1]at hk;rw[FT (l:=l) e hk];congr 1;exact aA
theorem E_(hc:kP c){h:Hd}(hr:∀r∈h.params,nU r):∀{l:List Ex} {i:Nat} {w:Wk},iK c w->(∀e∈l,∃k z,jY c.d.vars c.d.aK.length k e z)->i+l.length<=h.params.length->iK c (fV c h l i w).1
 |[],_,_,hw,_,_=>hw
 |e::l,i,w,hw,he,hl=>by
  obtain⟨k,z,h1⟩:=he e ag;have hlt:i<h.params.length:=by simp at hl;omega
  have hR:nU (dj h.params i):=by have e:dj h.params i=h.params[i]:=(by unfold dj;simp[hlt]);rw[e];exact hr _ (cU hlt)
  have h2:=CD hc hw h1 hR (kind:=11) af;unfold fV Rs.and;split;exact h2;exact E_ hc hr h2 (λx hx=>he x oU) (by simp at hl;omega)
theorem KI{h:Hd}:∀{l:List Int} {i:Nat} {w:Wk},iK c w->iK c (fO c h l i w).1|[],_,_,hw=>hw|e::l,i,w,hw=>by have h2:=ptr_ok (h:=h) (n:=e) (i:=i) hw;unfold fO Rs.and;split;exact h2;exact KI h2
end
end Abs
