/- A part of a proof: an abstract machine, proved sound, or contracts of functions. No condition. -/
import Derived.Deep.RegionLaw
import Derived.Test.YtakobiabkfeelaaGreatProg
import Derived.Laws.IdiomRangeMap
import Derived.WalkLawsBesides
import Derived.Recover
import Derived.Test.YtakobiabkfeelaaGreatTrysShelf
import Derived.Test.YtakobiabkfeelaaGreatT7
set_option linter.unusedVariables false
set_option linter.unusedSimpArgs false
set_option linter.defProp false
set_option maxRecDepth 100000
set_option maxHeartbeats 4000000
namespace Abs
open Go Go.Proofs Go.Sort Tryz
def Yp{w:World}{b:Nat}{c:Array Value}{e:TypeId}{fz:Nat×Nat}{zs:List Int}(hc:w.heap[b]? =some (.cells c e fz))(hfz:Im fz c.size true)(h:∀(j:Nat) (x:Int),zs[j]? =some x->c[j]? =some (Value.int .i64 x)):Go.Sort.Holds (Value.int .i64) w b 0 zs.toArray:=by
 intro j hj;have hj' :j<zs.length:=yc
 have hx:=h j zs[j] (iW hj');have hlt:j<c.size:=(iX.1 hx).1;rw[eI];refine⟨(ep hc).trans ?_,D8 hc hfz.1 hlt⟩;rw[hx];simp[hj']
def ND{vs:Array Value}(h:vs.size=1):∃v,vs= #[v]:=
 ⟨vs[0],by
  apply Array.ext;simp[h];intro i h2 h3;have:i=0:=E
  subst this;rfl⟩
def ahu(zs:List Int)(hsz:zs.length<2^62):aj prog 218 [.ref 1000 (zs.map it).length] ⟨[],[⟨1,true,zs.map it⟩]⟩ (.bS []) ⟨[],[⟨1,true,(zs.mergeSort λx y=>decide (x<=y)).map it⟩]⟩:=by refine⟨⟨_,func218,aA,aA⟩,λγ w vs hs hrep hmem=> ?_⟩;obtain⟨v,rfl⟩:=ND (hs:vs.size=1);have hr:bD γ v (.ref 1000 (zs.map yQ).length):=hrep 0 v _ rfl rfl;by_cases hne:zs=[];subst hne;obtain⟨t,_,_,_,a,cp,rfl⟩:=hr.nS;refine Calls.mono (slices_Sort_int_none a cp w) λe w' he=> ?_;obtain⟨rfl,rfl⟩:=he;exact⟨γ,Ext.refl γ,.bS rfl (λi v d hv=>uJ),by rw[List.mergeSort_nil];exact hmem.names rfl rfl⟩;obtain⟨t,b,c,e,fz,h1,h2,h3,h4,rfl,h6,h7,h8,h9,h10,h11,h12,h13⟩:=row_one hmem hr hne;refine Calls.mono (slices_Sort_int b 0 t.cap zs w (Yp h7 h8 h13) (cI h7) E) λe w' he=> ?_;obtain⟨rfl,n,os,hw⟩:=he;obtain⟨γ',k1,k2,k3,_⟩:=ac0 rfl hmem h1 h4 h3 h6 h7 h8 h9 h10 h11 h12 (ys:=zs.mergeSort λx y=>decide (x<=y)) O n os hw true;exact⟨γ',k1,.bS rfl (λi v d hv=>uJ),k3⟩
end Abs
namespace Abs
open Go Go.Proofs
def yl:=@List.cons_append
mutual
def flS:Sm->Nat->List (Sm×Nat)| .mk a b c d e f g h i j body tw,k=>(.mk a b c d e f g h i j body tw,k)::(wi body (k+1)++wi tw (k+1))
def wi:List Sm->Nat->List (Sm×Nat)|[],_=>[]|s::l,k=>flS s k++wi l k
end
def af2(s:Sm)(k:Nat):flS s k=(s,k)::(wi s.body (k+1)++wi s.tw (k+1)):=by cases s;simp[flS,Sm.body,Sm.tw]
mutual
def szS:Sm->Nat| .mk a b c d e f g h i j body tw=>1+(zI body+zI tw)
def zI:List Sm->Nat|[]=>0|s::l=>szS s+zI l
end
def abi(s:Sm):szS s=1+(zI s.body+zI s.tw):=by cases s;simp[szS,Sm.body,Sm.tw]
mutual
theorem aiy:∀(s:Sm) (k:Nat),(flS s k).length=szS s
 | .mk a b c d e f g h i j body tw,k=>by
   simp only[flS,szS,fw,fx,Ch body,Ch tw];omega
theorem Ch:∀(l:List Sm) (k:Nat),(wi l k).length=zI l|[],_=>rfl|s::l,k=>by simp only[wi,zI,fx,aiy s,Ch l]
end
theorem zG:∀(a b:List Sm),zI (a++b)=zI a+zI b|[],b=>by simp[zI]|s::a,b=>by simp only[yl,zI,zG a b];omega
theorem Ae(k:Nat):∀(a b:List Sm),wi (a++b) k=wi a k++wi b k|[],b=>by simp[wi]|s::a,b=>by simp only[yl,wi,Ae k a b,rH]
def abj{ss:List Sm}{i:Nat}(h:i<ss.length):zI (ss.take (i+1))=zI (ss.take i)+szS ss[i]:=by rw[List.take_add_one,zG];simp[h,zI]
def amf{ss:List Sm}(i:Nat):zI (ss.take i)<=zI ss:=by have:=zG (ss.take i) (ss.drop i);rw[CQ]at this;omega
def ame{ss:List Sm}{i:Nat}(h:i<ss.length):zI (ss.take i)+szS ss[i]<=zI ss:=by rw[<-abj h];exact amf _
def amd(s:Sm):1<=szS s:=by rw[abi];omega
theorem JB:∀ss:List Sm,ss.length<=zI ss|[]=>by simp|s::l=>by have:=JB l;have:=amd s;simp only[fw,zI];omega
structure CR where
 k:Nat
 acc:List au
def aY.of{W:List Nat}{body:St->(Out->St->Prop)->Prop}{K:Out->St->Prop}{s:St}{ι:Type}(J:ι->Prop)(m:ι->we)(μ:ι->Nat)(i0:ι)(h0:J i0)(hh:Holds s (s.with W (m i0)) (m i0))(hd:zj s W=true)(hr:zi s (dm W)=true)(ht:∀i,tidy W (dm W) (m i)=true∧kl s (m i).H=true∧kj s (m i).R=true)(hb:∀i,J i->body (s.with W (m i)) λe s' =>match e with| .normal=>∃j:{i // J i},μ j.1<μ i∧s'.y=s.y∧Holds s' (s.with W (m j.1)) (m j.1)|e=>K e s'):aY W body K s:=⟨{i // J i},⟨i0,h0⟩,λi=>m i.1,λ_=>s.y,λi=>μ i.1,⟨rfl,hh⟩,hd,hr,λi=>⟨ht i.1,hb i.1 i.2⟩⟩
def wl{α:Type}(w:α->List Int)(l:List α):List Int:=(l.length:Int)::l.flatMap w
def am1{α:Type}(w:α->List Int)(l:List α):(wl w l).length=1+(l.flatMap w).length:=by simp[wl];omega
end Abs
namespace Abs
open Go Go.Proofs Tryz
variable{G:Prop}
def dD:=@Bool.eq_false_or_eq_true
def aa8(h:G:=by rw[uX hk];simp[wg,h]):=h
def aa6(h:G:=by rw[uX hk];simp[ix,h]):=h
def Zg(h:G:=by refine⟨⟨k+1,⟨hk,e⟩⟩,iy hk (gb _),?_⟩;exact vQ):=h
def U4(h:G:=by refine run ?_;exact fP.mk (aL (λx:Hd×Bool=>au.bS [oY x.1,bo x.2]) e.symm) rfl):=h
def K5(h:G:=by rw[zu (by omega)];rfl):=h
def T8(h:G:=by refine run ?_;refine bt.map hk rfl ?_;refine run ?_;exact Zg):=h
def qw(h:G:=by simp;exact hk):=h
def wg{α:Type}(p:α->Bool)(z:α):List α->α×Bool|[]=>(z,false)|x::l=>if p x then(x,true)else wg p z l
def ix{α:Type}(p:α->Bool):List α->Nat->Int|[],_=> -1|x::l,i=>if p x then i else ix p l (i+1)
def aiu{α:Type}{p:α->Bool}{z:α}{l:List α}{k:Nat}(hk:k<l.length)(h:p l[k]=true):wg p z (l.drop k)=(l[k],true):=aa8
def ao7{α:Type}{p:α->Bool}{z:α}{l:List α}{k:Nat}(hk:k<l.length)(h:p l[k]=false):wg p z (l.drop k)=wg p z (l.drop (k+1)):=aa8
def aiv{α:Type}{p:α->Bool}{z:α}{l:List α}{k:Nat}(hk:¬k<l.length):wg p z (l.drop k)=(z,false):=K5
def anr{α:Type}{p:α->Bool}{l:List α}{k i:Nat}(hk:k<l.length)(h:p l[k]=true):ix p (l.drop k) i=i:=aa6
def ar1{α:Type}{p:α->Bool}{l:List α}{k i:Nat}(hk:k<l.length)(h:p l[k]=false):ix p (l.drop k) i=ix p (l.drop (k+1)) (i+1):=aa6
def ans{α:Type}{p:α->Bool}{l:List α}{k i:Nat}(hk:¬k<l.length):ix p (l.drop k) i= -1:=K5
theorem aea{α:Type}{p:α->Bool}(z:α):∀(l:List α) (i:Nat),(ix p l i= -1∧wg p z l=(z,false))∨∃j,∃h:j<l.length,ix p l i=((i+j:Nat):Int)∧wg p z l=(l[j],true)|[],i=> .inl ⟨rfl,rfl⟩|x::l,i=>by simp only[ix,wg];cases hx:p x with|true=>exact .inr ⟨0,O,O,O⟩|false=>rcases aea z l (i+1)with⟨h1,h2⟩|⟨j,hj,h1,h2⟩;exact .inl ⟨gK,nE⟩;exact .inr ⟨j+1,by simp;exact hj,by simp[h1];omega,nE⟩
def Iv:Hd:=⟨0,0,0,[],[]⟩
def I6:Sy:=⟨0,0,0,0,0,0,0,0,0,[],0⟩
def wM(p:Pg)(n:Int)(hl:p.aF.length<2^40):aj prog 163 [qe p,it n] fV ((λx:Hd×Bool=>au.bS [oY x.1,bo x.2]) (wg (λx=>x.id==n) Iv p.aF)) fV:=by
 refine fo func163 ?_;refine run ?_;refine bF.mk ⟨[],aY.lp (λk:Nat=>k<=p.aF.length∧wg (λx=>x.id==n) Iv p.aF=wg (λx=>x.id==n) Iv (p.aF.drop k)) (λk=>⟨[(11,it k)],[],[]⟩) (λk=>p.aF.length - k) 0 ⟨dM _,O⟩ ?_⟩;intro k hJ;have h1:=hJ.1;have h2:=hJ.2;by_cases hk:k<p.aF.length;have b1:decide ((k:Int)<((p.aF.map oY).length:Nat))=true:=qw
 refine(dD (p.aF[k].id==n)).elim (λb2=> ?_) (λb2=> ?_);have e:=h2.trans (aiu hk b2);refine run ?_;refine bt.map hk rfl ?_;exact U4;have e:=h2.trans (ao7 hk b2);exact T8;have b1:decide ((k:Int)<((p.aF.map oY).length:Nat))=false:=az
 have e:=h2.trans (aiv hk);exact U4
def O6(s:Sy)(n:Int):aj prog 427 [eO s,.ptr 1000 0] ⟨[it n],[]⟩ (bo (s.id==n)) ⟨[it n],[]⟩:=by refine fo func427 ?_;exact bz
def O5(l:List Sy)(n:Int)(hl:l.length<2^40):aj prog 426 [fj 11 eO l,.gD (.func 427) [] [.ptr 1000 0]] ⟨[it n],[]⟩ (it (ix (λx=>x.id==n) l 0)) ⟨[it n],[]⟩:=by
 refine fo func426 ?_;refine run ?_;refine bF.mk ⟨[],aY.lp (λk:Nat=>k<=l.length∧ix (λx=>x.id==n) l 0=ix (λx=>x.id==n) (l.drop k) k) (λk=>⟨[(8,it k)],[],[]⟩) (λk=>l.length - k) 0 ⟨dM _,O⟩ ?_⟩;intro k hJ;have h1:=hJ.1;have h2:=hJ.2;by_cases hk:k<l.length;have b1:decide ((k:Int)<((l.map eO).length:Nat))=true:=qw
 have hc:=O6 l[k] n;refine(dD (l[k].id==n)).elim (λb2=> ?_) (λb2=> ?_);have e:=h2.trans (anr hk b2);refine run ?_;refine bt.map hk rfl ?_;refine aM ?_;exact fP.mk (aL it e.symm) rfl;have e:=h2.trans (ar1 hk b2);refine run ?_;refine bt.map hk rfl ?_;refine aM ?_;exact Zg;have b1:decide ((k:Int)<((l.map eO).length:Nat))=false:=az
 have e:=h2.trans (ans hk);refine run ?_;exact fP.mk (aL it e.symm) rfl
def Sc(l:List Sy)(n:Int)(hl:l.length<2^40):aj prog 362 [fj 11 eO l,it n] fV ((λx:Sy×Bool=>au.bS [eO x.1,bo x.2]) (wg (λx=>x.id==n) I6 l)) fV:=by
 have hi:=O5 l n hl;rcases aea (p:=λx:Sy=>x.id==n) I6 l 0 with⟨a,b⟩|⟨j,hj,a,b⟩;rw[a]at hi;rw[b];refine fo func362 ?_;exact bp
 rw[a,eI]at hi;rw[b];have b1:decide ((j:Int)<0)=false:=O
 refine fo func362 ?_;refine aM ?_;refine bt.map hj rfl ?_;exact bz
end Abs
namespace Abs
open Go Go.Proofs
abbrev oQ(es:Mp Bool):Row:=⟨0,true,es.map (sO bo)⟩
end Abs
namespace Abs
open Go Go.Proofs Tryz
variable{G:Prop}
def Fi:=@List.take_length
def ER(h:G:=by simp[hq]):=h
def akj(h:G:=by have qV:=aL (λs:Us=>some (ai s.1)) e.symm;have Iu:=aL (λs:Us=>some (oQ s.2)) e.symm;exact y_ hk1):=h
def Zm(h:G:=by refine run ?_;have qV:=aL (λs:Us=>some (ai s.1)) e.symm;have Iu:=(aL (λx=>some (Row.mk 0 true x)) e2.symm).trans (aL (λs:Us=>some (oQ s.2)) e.symm);exact y_ hk1):=h
def K0(h:G:=by rw[uy _ _ _ _ _ hk1];exact hap):=h
def Um(h:G:=by rw[jY h,Bi];rfl):=h
def AE(h:G:=by refine run ?_;refine bt.map hk1 rfl ?_;refine run ?_;exact akj):=h
def T9(h:G:=by refine aM ?_;refine bt.map hk1 rfl ?_;refine aM ?_;exact akj):=h
def T6(h:G:=by have h1:=hro.lo;have h2:=hro.le;have h3:=hro.hi;exact bu):=h
structure IY(r:Ru):Prop where
 lo: -2147483648<=r.lo
 le:r.lo<=r.hi
 hi:r.hi<=2147483647
abbrev Us:=Av×Mp Bool
def si(op:Int)(x y:Av)(s:Us)(r:Ru):Us:=
 if r.op≠op∨x.lo<r.alo∨x.hi>r.ahi∨y.lo<r.blo∨y.hi>r.bhi then s else match jf s.1 (jh ⟨r.lo,r.hi,255⟩)with
  |some m=>if m=s.1 then s else(m,SJ r.id true s.2)
  |none=>s
def pR(op:Int)(x y:Av)(s:Us)(l:List Ru):Us:=l.foldl (si op x y) s
def uy(op:Int)(x y:Av)(s:Us)(l:List Ru){k:Nat}(h:k<l.length):pR op x y s (l.take (k+1))=si op x y (pR op x y s (l.take k)) l[k]:=by unfold pR;exact Um
def ala{r:Ru}(h:IY r):aR (jh ⟨r.lo,r.hi,255⟩):=by have h1:=h.lo;have h2:=h.le;have h3:=h.hi;show aR (mh r.lo r.hi 1 255);exact(ka E E E E E E E).1
def agn{op:Int}{x y:Av}{s:Us}{r:Ru}(h:aR s.1)(hr:IY r):aR (si op x y s r).1:=by unfold si;split;exact h;split;rename_i m hm;split;exact h;exact FP h (ala hr) hm;exact h
theorem Tl{op:Int}{x y:Av}:∀{l:List Ru} {s:Us},aR s.1->(∀r∈l,IY r)->aR (pR op x y s l).1|[],_,h,_=>h|r::l,s,h,hl=>Tl (l:=l) (s:=si op x y s r) (agn h (hl r O)) (λq hq=>hl q ER)
theorem ak6(rules:List Ru)(hl:rules.length<=2^30)(hr:∀r∈rules,IY r)(op:Int)(x y z:Av)(hz:aR z)(u:Mp Bool):aj prog 451 [.dQ 1000,fj 10 gU rules,it op,ai x,ai y,ai z] ⟨[],[oQ u]⟩ (ai (pR op x y (z,u) rules).1) ⟨[],[oQ (pR op x y (z,u) rules).2]⟩:=by
 refine fo func451 ?_;refine run ?_;refine bF.mk ⟨[],aY.np (rules.length) (λ_=>True) (λk=>⟨[(19,it k)],[(11,ai (pR op x y (z,u) (rules.take k)).1)],[(1000,oQ (pR op x y (z,u) (rules.take k)).2)]⟩) trivial ?_⟩;intro k hk hJ;by_cases hk1:k<rules.length;have b1:decide ((k:Int)<((rules.map gU).length:Nat))=true:=gL
 have hro:=hr _ (cU hk1);have hso:aR (pR op x y (z,u) (rules.take k)).1:=Tl hz (λr hq=>hr r (pV hq));have ci:=N6 ⟨rules[k].lo,rules[k].hi,255⟩ T6 T6;have cm:=NP (pR op x y (z,u) (rules.take k)).1 (jh ⟨rules[k].lo,rules[k].hi,255⟩) hso (ala hro);by_cases p0:rules[k].op≠op;have q0:(rules[k].op !=op)=true:=(by simpa using p0);have e:pR op x y (z,u) (rules.take (k+1))=(pR op x y (z,u) (rules.take k)):=by rw[uy _ _ _ _ _ hk1];unfold si;rw[ak (Or.inl p0)]
 exact AE;have q0:(rules[k].op !=op)=false:=(by simpa using p0);by_cases p1:x.lo<rules[k].alo;have q1:decide (x.lo<rules[k].alo)=true:=tB p1;have e:pR op x y (z,u) (rules.take (k+1))=(pR op x y (z,u) (rules.take k)):=by rw[uy _ _ _ _ _ hk1];unfold si;rw[ak (Or.inr (Or.inl p1))]
 exact AE;have q1:decide (x.lo<rules[k].alo)=false:=fB p1;by_cases p2:x.hi>rules[k].ahi;have q2:decide (x.hi>rules[k].ahi)=true:=tB p2;have e:pR op x y (z,u) (rules.take (k+1))=(pR op x y (z,u) (rules.take k)):=by rw[uy _ _ _ _ _ hk1];unfold si;rw[ak (Or.inr (Or.inr (Or.inl p2)))]
 exact AE;have q2:decide (x.hi>rules[k].ahi)=false:=fB p2;by_cases p3:y.lo<rules[k].blo;have q3:decide (y.lo<rules[k].blo)=true:=tB p3;have e:pR op x y (z,u) (rules.take (k+1))=(pR op x y (z,u) (rules.take k)):=by rw[uy _ _ _ _ _ hk1];unfold si;rw[ak (Or.inr (Or.inr (Or.inr (Or.inl p3))))]
 exact AE;have q3:decide (y.lo<rules[k].blo)=false:=fB p3;by_cases p4:y.hi>rules[k].bhi;have q4:decide (y.hi>rules[k].bhi)=true:=tB p4;have e:pR op x y (z,u) (rules.take (k+1))=(pR op x y (z,u) (rules.take k)):=by rw[uy _ _ _ _ _ hk1];unfold si;rw[ak (Or.inr (Or.inr (Or.inr (Or.inr (p4)))))]
 exact AE;have q4:decide (y.hi>rules[k].bhi)=false:=fB p4;have hno:¬(rules[k].op≠op∨x.lo<rules[k].alo∨x.hi>rules[k].ahi∨y.lo<rules[k].blo∨y.hi>rules[k].bhi):=λh=>by rcases h with h|h|h|h|h<;>contradiction
 have hap:si op x y (pR op x y (z,u) (rules.take k)) rules[k]=match jf (pR op x y (z,u) (rules.take k)).1 (jh ⟨rules[k].lo,rules[k].hi,255⟩)with
  |some m=>if m=(pR op x y (z,u) (rules.take k)).1 then(pR op x y (z,u) (rules.take k))else(m,SJ rules[k].id true (pR op x y (z,u) (rules.take k)).2)
  |none=>(pR op x y (z,u) (rules.take k)):=by unfold si;rw[Z hno]
 refine(Exists.intro _ rfl:∃M,M=jf (pR op x y (z,u) (rules.take k)).1 (jh ⟨rules[k].lo,rules[k].hi,255⟩)).elim λM hM=> ?_;rw[<-hM]at cm hap;refine(Exists.intro _ rfl:∃J,J=jh ⟨rules[k].lo,rules[k].hi,255⟩).elim λJ hJ=> ?_;rw[<-hJ]at cm ci
 refine(match M,cm,hap with
  |none,cm,hap=> ?_|some m,cm,hap=> ?_)
 dsimp only at hap;have cm' :C 364 [ai (pR op x y (z,u) (rules.take k)).1,ai J] (.bS [ai zA,bo false]):=cm;have e:pR op x y (z,u) (rules.take (k+1))=(pR op x y (z,u) (rules.take k)):=K0
 exact T9;dsimp only at hap;have cm' :C 364 [ai (pR op x y (z,u) (rules.take k)).1,ai J] (.bS [ai m,bo true]):=cm;by_cases pe:m=(pR op x y (z,u) (rules.take k)).1;have q:(!(m.lo==(pR op x y (z,u) (rules.take k)).1.lo&&(m.hi==(pR op x y (z,u) (rules.take k)).1.hi&&(m.m==(pR op x y (z,u) (rules.take k)).1.m&&(m.r==(pR op x y (z,u) (rules.take k)).1.r&&(m.mask==(pR op x y (z,u) (rules.take k)).1.mask&&true))))))=false:=aL not ((HU m _).trans (decide_eq_true pe));rw[ak pe]at hap;have e:pR op x y (z,u) (rules.take (k+1))=(pR op x y (z,u) (rules.take k)):=K0
 exact T9;have q:(!(m.lo==(pR op x y (z,u) (rules.take k)).1.lo&&(m.hi==(pR op x y (z,u) (rules.take k)).1.hi&&(m.m==(pR op x y (z,u) (rules.take k)).1.m&&(m.r==(pR op x y (z,u) (rules.take k)).1.r&&(m.mask==(pR op x y (z,u) (rules.take k)).1.mask&&true))))))=true:=aL not ((HU m _).trans (decide_eq_false pe));rw[Z pe]at hap;have e:pR op x y (z,u) (rules.take (k+1))=(m,SJ rules[k].id true (pR op x y (z,u) (rules.take k)).2):=K0
 have e2:=ady bo rules[k].id true (pR op x y (z,u) (rules.take k)).2;refine(Option.eq_none_or_eq_some (Yg rules[k].id (pR op x y (z,u) (rules.take k)).2 0)).elim (λhm=> ?_) (λhm=>hm.elim λi hm=> ?_);rw[hm]at e2;dsimp only at e2;refine aM ?_;refine bt.map hk1 rfl ?_;refine aM ?_;refine oB.mk ⟨none,(yB bo _ _ 0).trans (aL some hm),?_⟩;exact Zm;rw[hm]at e2;dsimp only at e2;refine aM ?_;refine bt.map hk1 rfl ?_;refine aM ?_;refine oB.mk ⟨some i,(yB bo _ _ 0).trans (aL some hm),?_⟩;exact Zm;have b1:decide ((k:Int)<((rules.map gU).length:Nat))=false:=az
 have hkk:k=rules.length:=E
 subst hkk;have e:pR op x y (z,u) (rules.take rules.length)=pR op x y (z,u) rules:=by rw[Fi]
 refine run ?_;exact fP.mk (aL (λs:Us=>ai s.1) e) (aL (λs:Us=>Ct.mk [] [oQ s.2]) e)
def gT(d:Df)(rules:List Ru)(f:Fa):Ex->Mp Bool->Us
 | .mk op n v a,u=>if op<4∨op>10 then(iU d f (.mk op n v a),u)else match a with
   |[x,y]=>pR op (gT d rules f x u).1 (gT d rules f y (gT d rules f x u).2).1
    (opA op (gT d rules f x u).1 (gT d rules f y (gT d rules f x u).2).1,(gT d rules f y (gT d rules f x u).2).2) rules
   |_=>(zR,u)
def oX(d:Df)(rules:List Ru)(f:Fa)(op n v:Int)(u:Mp Bool)(h:op<4):gT d rules f (.mk op n v []) u=(iU d f (.mk op n v []),u):=by rw[gT,ak (.inl h)]<;>simp
def Ds(d:Df)(rules:List Ru)(f:Fa)(op:Int)(x y:Ex)(u:Mp Bool)(h:4<=op∧op<=10):gT d rules f (.mk op 0 0 [x,y]) u=pR op (gT d rules f x u).1 (gT d rules f y (gT d rules f x u).2).1 (opA op (gT d rules f x u).1 (gT d rules f y (gT d rules f x u).2).1,(gT d rules f y (gT d rules f x u).2).2) rules:=by rw[gT,Z E]
def HS{d:Df}{f:Fa}{rules:List Ru}(hd:yR d)(hf:pT d f)(hr:∀r∈rules,IY r){k:Nat}{e:Ex}{z:Nat}(he:kh d.vars d.aK.length k e z):∀u,aR (gT d rules f e u).1:=by induction he with|num h=>intro u;rw[oX _ _ _ _ _ _ _ E];exact jJ hd.J9 hf.va (kh.num (vars:=d.vars) (na:=d.aK.length) (k:=0) h)|var h=>intro u;rw[oX _ _ _ _ _ _ _ E];exact jJ hd.J9 hf.va (kh.var (vars:=d.vars) (na:=d.aK.length) (k:=0) h)|len h=>intro u;rw[oX _ _ _ _ _ _ _ E];exact jJ hd.J9 hf.va (kh.len (vars:=d.vars) (na:=d.aK.length) (k:=0) h)|bin h _ _ iha ihb=>intro u;rw[Ds _ _ _ _ _ _ _ h];exact Tl (acv (iha u) (ihb _)) hr
def Oo(d:Df)(f:Fa)(rules:List Ru)(e:Ex)(X:Av)(h:e.op<4)(c:C 423 [bR d,aZ f,cy e] (ai X))(u:Mp Bool):aj prog 406 [.dQ 1000,bR d,fj 10 gU rules,aZ f,cy e] ⟨[],[oQ u]⟩ (ai X) ⟨[],[oQ u]⟩:=by have b:=tB h;refine fo func406 ?_;exact bp
def ajc(d:Df)(f:Fa)(rules:List Ru)(op:Int)(x y:Ex)(h:4<=op∧op<=10)(X Y ag ah:Av)(u u1 u2 u3:Mp Bool)(c1:aj prog 406 [.dQ 1000,bR d,fj 10 gU rules,aZ f,cy x] ⟨[],[oQ u]⟩ (ai X) ⟨[],[oQ u1]⟩)(c2:aj prog 406 [.dQ 1000,bR d,fj 10 gU rules,aZ f,cy y] ⟨[],[oQ u1]⟩ (ai Y) ⟨[],[oQ u2]⟩)(c3:C 452 [it op,ai X,ai Y] (ai ag))(c4:aj prog 451 [.dQ 1000,fj 10 gU rules,it op,ai X,ai Y,ai ag] ⟨[],[oQ u2]⟩ (ai ah) ⟨[],[oQ u3]⟩):aj prog 406 [.dQ 1000,bR d,fj 10 gU rules,aZ f,.agg [it op,it 0,it 0,.sl 4 [cy x,cy y] false]] ⟨[],[oQ u]⟩ (ai ah) ⟨[],[oQ u3]⟩:=by
 have b1:decide (op<4)=false:=fB E;have b2:decide (op>10)=false:=fB E;refine fo func406 ?_;refine aM ?_;repeat((refine bt.at rfl aw rfl ?_);refine run ?_;repeat((apply aE;first|exact c1|exact c2|exact c3|exact c4);refine run ?_))
 exact aG
theorem ajb{d:Df}{f:Fa}{rules:List Ru}(hd:yR d)(hf:pT d f)(hl:rules.length<=2^30)(hr:∀r∈rules,IY r){k:Nat}{e:Ex}{z:Nat}(he:kh d.vars d.aK.length k e z):∀u:Mp Bool,aj prog 406 [.dQ 1000,bR d,fj 10 gU rules,aZ f,cy e] ⟨[],[oQ u]⟩ (ai (gT d rules f e u).1) ⟨[],[oQ (gT d rules f e u).2]⟩:=by
 induction he with
 |num h=>intro u;rw[oX _ _ _ _ _ _ _ E];exact Oo d f rules _ _ (by show(1:Int)<4;omega) (Cm hd hf (kh.num (k:=0) h)) u|var h=>intro u;rw[oX _ _ _ _ _ _ _ E];exact Oo d f rules _ _ (by show(2:Int)<4;omega) (Cm hd hf (kh.var (k:=0) h)) u|len h=>intro u;rw[oX _ _ _ _ _ _ _ E];exact Oo d f rules _ _ (by show(3:Int)<4;omega) (Cm hd hf (kh.len (k:=0) h)) u
 | @bin k op a b x y h ha hb iha ihb=>
   intro u
   have oa:=HS (rules:=rules) hd hf hr ha u
   have ob:=HS (rules:=rules) hd hf hr hb (gT d rules f a u).2
   rw[Ds _ _ _ _ _ _ _ h]
   have eE:cy (.mk op 0 0 [a,b])= .agg [it op,it 0,it 0,.sl 4 [cy a,cy b] false]:=by unfold cy cE;simp[jK,Wm,cE,cy,Ex.op,Ex.n,Ex.v,Ex.a]
   rw[eE]
   exact ajc d f rules op a b h _ _ _ _ u _ _ _ (iha u) (ihb _) (aky op _ _ h oa ob) (ak6 rules hl hr op _ _ _ (acv oa ob) _)
def TQ(h:G:=by rw[h]at this;exact absurd this (Nat.not_lt_zero _)):=h
structure Fd where
 df:Int
 site:Int
 kind:Int
 deriving DecidableEq
def eP(x:Fd):au:= .agg [it x.df,it x.site,it x.kind]
structure Wk where
 nx:Fa
 th:Fa
 DG:Int
 Au:Int
 fd:List Fd
 ps:List Pa
 us:List Int
 f:Fa
structure Wc where
 p:Pg
 level:Int
 rules:List Ru
 d:Df
 s:Sm
 eh:List Sy
def cW(c:Wc)(w:Wk):List au:=cF w.nx++(cF w.th++([it w.DG,it w.Au,.ref 1000 (w.fd.map eP).length,.ref 1001 (w.ps.map bQ).length,.ref 1002 (w.us.map it).length]++(cP c.p++([it c.level,fj 10 gU c.rules]++(cD c.d++(cS c.s++(cF w.f++[fj 11 eO c.eh])))))))
def bZ(c:Wc)(w:Wk):Ct:=⟨[.agg (cW c w)],[⟨3,true,w.fd.map eP⟩,⟨3,true,w.ps.map bQ⟩,⟨1,true,w.us.map it⟩]⟩
def zEx:Ex:= .mk 0 0 0 []
def agj(c:Wc)(w:Wk)(a:Av)(X:Fa)(h:C 281 [bR c.d,aZ w.f,it c.s.n,ai a,cy zEx] (aZ X)):aj prog 284 [.ptr 1000 0,ai a] (bZ c w) (.bS []) (bZ c {w with f:=X}):=by refine fo func284 ?_;exact bp
def vN(n:Int)(a:Av)(w:Wk):Wk:={w with f:={w.f with v:=w.f.v.set n.toNat a}}
def ao2(j:Nat):Nat->List Ad:=λn=>bif Nat.beq n 60000 then[.aS 1000 j]else[]
def ctX(c:Wc)(w:Wk)(v r a:au):Ct:=⟨[.agg (cF w.nx++(cF w.th++([it w.DG,it w.Au,.ref 1000 (w.fd.map eP).length,.ref 1001 (w.ps.map bQ).length,.ref 1002 (w.us.map it).length]++(cP c.p++([it c.level,fj 10 gU c.rules]++(cD c.d++(cS c.s++([bo w.f.dead,v,dI w.f.ju,r,a,it w.f.ei,it w.f.may,it w.f.parts]++[fj 11 eO c.eh]))))))))],[⟨3,true,w.fd.map eP⟩,⟨3,true,w.ps.map bQ⟩,⟨1,true,w.us.map it⟩]⟩
def QV(c:Wc)(w:Wk)(v:Int)(a:Av)(hv:0<=v∧v.toNat<w.f.v.length)(hn:w.f.v.length<=1048576):aj prog 352 [.ptr 1000 0,it v,ai a] (bZ c w) (.bS []) (bZ c (vN v a w)):=by
 have hx:=vA (f:=w.f) (n:=v) hv.2;have hv0:=hv.1;have c3:=xv (w.f.v.map ai) (λe=>by have h:w.f.v=[]:=zp.1 e;have:=hv.2;exact TQ) uA;have e:bZ c (vN v a w)=ctX c w (.sl 5 ((w.f.v.map ai).set v.toNat (ai a)) false) (fj 6 aN w.f.refs) (ints w.f.arr):=by rw[<-jU];rfl
 have el:((w.f.v.map ai).set v.toNat (ai a)).length=(w.f.v.map ai).length:=O
 rw[e];refine d_ hm func352 (λ_=>false) [] (ao2 66) aA ?_;refine aM ?_;repeat((refine bt.at rfl hv0 hx ?_);refine run ?_)
 exact aG
def jL(a b:Int):Int:=if a<b then -1 else if a>b then 1 else 0
def lB(x y:Fd):Int:=jL x.kind y.kind
def fZ(x y:Pa):Int:=if jL x.a y.a≠0 then jL x.a y.a else jL x.b y.b
def yE(a:Int):C 375 [it a] (bo false):=by
 have b1:(!(a==a))=false:=O
 have b2:(a !=a)=false:=O
 refine fo func375 ?_;refine run ?_;first|exact fP.mk (aL bo b1) rfl|exact fP.mk (aL bo b2) rfl|exact fP.mk rfl rfl
def QJ(a b:Int):C 349 [it a,it b] (it (jL a b)):=by
 unfold jL;by_cases h1:a<b
 ·have b1:=tB h1;rw[ak h1];refine fo func349 ?_;refine run ?_;repeat((apply aE;first|exact(yE a)|exact(yE b));refine run ?_)
  exact aG
 ·have b1:=fB h1;rw[Z h1];by_cases h2:a>b
  ·have b2:=tB h2;rw[ak h2];refine fo func349 ?_;refine run ?_;repeat((apply aE;first|exact(yE a)|exact(yE b));refine run ?_)
   exact aG
  ·have b2:=fB h2;rw[Z h2];refine fo func349 ?_;refine run ?_;repeat((apply aE;first|exact(yE a)|exact(yE b));refine run ?_)
   exact aG
def W_(x y:Fd):C 359 [eP x,eP y] (it (lB x y)):=by have c:=QJ x.kind y.kind;refine fo func359 ?_;exact bp
def ajr(a b:Int):C 433 [.sl 1 [it a,it b] false] (it (if a≠0 then a else b)):=by
 refine fo func433 ?_;refine run ?_;refine bF.mk ⟨[],aY.np (2) (λk=>(1<=k->a=0)∧(2<=k->b=0)) (λk=>⟨[(8,it k)],[],[]⟩) (⟨λh=>absurd h E,λh=>absurd h E⟩) ?_⟩;intro k hk hJ;have hk' :k=0∨k=1∨k=2:=E
 refine hk'.elim (λh=> ?_) (λh=>h.elim (λh=> ?_) (λh=> ?_))
 ·subst h;by_cases h1:a=0
  ·have b1:(a !=0)=false:=AS;refine run ?_;repeat((first|refine bt.at rfl E rfl ?_);refine run ?_)
   refine⟨⟨0+1,(by omega:0<2),⟨λ_=>h1,λh=>absurd h E⟩⟩,iy (by omega:0<2) (gb 0),?_⟩;exact vQ
  ·have b1:(a !=0)=true:=(by simp;exact h1);refine run ?_;repeat((first|refine bt.at rfl E rfl ?_);refine run ?_)
   exact fP.mk (aL it (ak h1).symm) rfl
 ·subst h;have h0:=hJ.1 (cJ _);by_cases h1:b=0
  ·have b1:(b !=0)=false:=AS;refine run ?_;repeat((first|refine bt.at rfl E rfl ?_);refine run ?_)
   refine⟨⟨1+1,(by omega:1<2),⟨λ_=>h0,λ_=>h1⟩⟩,iy (by omega:1<2) (gb 1),?_⟩;exact vQ
  ·have b1:(b !=0)=true:=(by simp;exact h1);refine run ?_;repeat((first|refine bt.at rfl E rfl ?_);refine run ?_)
   exact fP.mk (aL it (Z (λh=>h h0)).symm) rfl
 ·subst h;have h0:=hJ.1 E;have h1:=hJ.2 (cJ _);refine run ?_;repeat((first|refine bt.at rfl E rfl ?_);refine run ?_)
  exact fP.mk (aL it ((Z (λh=>h h0)).trans h1).symm) rfl
def W8(x y:Pa):C 432 [bQ x,bQ y] (it (fZ x y)):=by have c1:=QJ x.a y.a;have c2:=QJ x.b y.b;have c3:=ajr (jL x.a y.a) (jL x.b y.b);unfold fZ;refine fo func432 ?_;exact bp
end Abs
namespace Abs
open Go Go.Proofs Go.Shelf Go.RowKit Go.Lib Tryz
variable{G:Prop}
def Gl:=@List.eq_nil_of_length_eq_zero
def zn:=@List.getElem?_drop
def MK:=@List.length_drop
def aah(h:G:=by rw[dO,show W.cell? ⟨vb,vo+j,none⟩=w.cell? ⟨vb,vo+j,none⟩ from fJ (by exact aha)];exact hx j v hj):=h
def akm(h:G:=by rw[dO,show W.cell? ⟨b,i*3+j,none⟩=W1.cell? ⟨b,i*3+j,none⟩ from fJ (by exact UX)];exact U'):=h
def Z5(h:G:=by rw[dO,show W.cell? ⟨vb,vo+j,none⟩=W1.cell? ⟨vb,vo+j,none⟩ from fJ (by rw[hW])];exact ah6):=h
def R4(h:G:=by rw[e1,hW2,hW1];show(Array.setIfInBounds (w.heap.push _) _ _).size=_;simp):=h
def aam(h:G:=by rw[hzs];cases base with|none=>exact alq|some b=>exact alr):=h
def RS(h:G:=by rw[hW1];show _<(w.heap.push _).size;simp):=h
def pU(h:G:=by simp only[Nat.min_def];split<;>omega):=h
def MG(h:G:=by show _<=(w.heap.push _).size;simp):=h
def MC(h:G:=by rw[hzb,hik];exact Vl):=h
def Mz(h:G:=by simp[World.shape?,hs1]):=h
def Mx(h:G:=by rw[hzb];exact Vl):=h
def Mv(h:G:=by simp[World.shape?,hb]):=h
def Mq(h:G:=by rw[hR];exact Kg):=h
def Mn(h:G:=by simp[IQ,hxl];omega):=h
def Mm(h:G:=by rw[hi0];simp[hzs]):=h
def Mj(h:G:=by unfold maxLen;omega):=h
def jS(h:G:=by rw[hMl];try omega):=h
def Mi(h:G:=by rw[hW];exact anx):=h
def Mg(h:G:=by rw[hzs,hxl];omega):=h
def Ma(h:G:=by rw[hW];exact hN2):=h
def L4(h:G:=by rw[hW];exact hN):=h
def A7(h:G:=by simpa using IQ):=h
def LN(h:G:=by rw[hzb];omega):=h
def LM(h:G:=by simp[IQ,hxl]):=h
def xV(h:G:=by rw[hxl]):=h
def Zz(h:G:=by refine⟨rfl,⟨rfl,rfl,rfl,by simp[dA],λk hk hx=>dL _ _ _ _ hx⟩,by simp[dA],_,dt _ _ _ hlt,by simp[aV],λj hj=> ?_⟩;have:=Dk (C:=C) (x:=x) (M:=[]) (p:=n*3) (z:=3) (q:=n*3+3) (N:=n*3) rfl hxl (cJ _) (by simp) (λj hj=>by omega) (by omega) j hj;simpa[iA]using this):=h
def mQ(h:G:=by rw[IntKind.wrap_i64];omega):=h
def RB(h:G:=by rw[dL _ _ _ _ (by omega),e1,hW2,dL _ _ _ _ (by omega),hW1];exact bN w.drew _ k hk):=h
def rB(h:G:=by rw[l7];omega):=h
def Ry(h:G:=by obtain⟨j,hj⟩:=pW.1 hv;have:=OL j v hj;exact h1C _ v (by omega) this.2):=h
def Kg(h:G:=by simp[Builtin.zeroCells,Value.cells];omega):=h
def Zj(h:G:=by rw[hzs];exact Src.ofSlice w Tryz.underlying36 ⟨vb,vo,none⟩ 1 vc x (by rw[hxl]) (λj u hj=>by rw[dO];exact hx j u hj) (λv hv=>by rw[ui];exact h1 v hv)):=h
def Zi(h:G:=by rw[hzs];exact Src.ofSlice w Tryz.underlying68 ⟨vb,vo,none⟩ 1 vc x (by rw[hxl]) (λj u hj=>by rw[dO];exact hx j u hj) (λv hv=>by rw[ui];exact h1 v hv)):=h
def Zh(h:G:=by rw[hzs];exact Src.ofSlice w Tryz.underlying69 ⟨vb,vo,none⟩ 1 vc x (by rw[hxl]) (λj u hj=>by rw[dO];exact hx j u hj) (λv hv=>by rw[ui];exact h1 v hv)):=h
def alr(h:G:=by exact run_firstCells_some w.drew 3 n ⟨b,0,none⟩ n c C.toList (by simpa using IQ) (λj v hj=>by rw[dO,eI];exact hcs b rfl j v (by simpa using hj))):=h
def Rq(h:G:=by obtain⟨j,hj⟩:=pW.1 hv;exact h1C _ v (by rw[<-OL];exact hj)):=h
def alq(h:G:=by have h0:=hnil rfl;subst h0;have:C.toList=[]:=Gl (by simpa using IQ);rw[this];exact run_firstCells_none w.drew 3 0 0 c):=h
def Rk(h:G:=by rename_i hj;rw[zn]at h;exact⟨hj,by simpa using h⟩):=h
def Lq(h:G:=by rw[hW1];exact(fJ (w:=w) (bN w.drew _ k hk)).trans h):=h
def Lm(h:G:=by rw[dO];exact(ep (w:=w.drew) hb).trans (OL j v hj).2):=h
def Vl(h:G:=by exact growslice_fits hroom hbig):=h
def Lk(h:G:=by simp only[World.frozen?,hb];simpa using hf C.size (by omega)):=h
def U'(h:G:=by exact hO _ _ v hbw (hcs _ v (by rw[<-OL];exact hj))):=h
def xS(h:G:=by simp[aV];omega):=h
def Lc(h:G:=by rw[hM,l7,MK,IQ];omega):=h
def K_(h:G:=by simp[Builtin.zeroCells,Value.cells,IQ,hxl];omega):=h
def UX(h:G:=by rw[hW,hW2];exact dL _ _ _ _ (by omega)):=h
def aha(h:G:=by rw[hW,hW1];exact dL _ _ _ _ hvb):=h
def xN(h:G:=by simpa[IQ]using h1):=h
def KZ(h:G:=by rw[hW1];exact dd w.drew _):=h
def KY(h:G:=by rw[hW2];exact dt _ _ _ hlt1):=h
def Uv(h:G:=by simp only[World.frozen?,hb];simpa using hf ((i+1)*3) (by omega)):=h
def Ku(h:G:=by simp[aV]at ho;omega):=h
def ah6(h:G:=by exact hO _ _ v hvw (hx j v hj)):=h
def Ks(h:G:=by rw[hM,MK];omega):=h
def Kr(h:G:=by rw[hik]at h;rw[hkk];exact h):=h
def xI(h:G:=by rw[hW2,hW1];rfl):=h
def Kj(h:G:=by exact hcs j v (by simpa using hj)):=h
def N4(b n c i vb vo vc:Nat)(C:Array Value)(e:TypeId)(fz:Nat×Nat)(x:List Value)(w:World)(hi:i<n)(hroom:n+1<=c)(hn63:n+1<=4611686018427387904)(hb:w.heap[b]? =some (.cells C e fz))(hf:qT fz (C.size+1))(hC:c*3<=C.size)(hvb:vb≠b)(hxl:x.length=3)(hx:∀j v,x[j]? =some v->w.cell? ⟨vb,vo+j,none⟩=some v)(h1:∀v∈x,leaf v=true)(h1C:∀j v,j<n*3->C[j]? =some v->leaf v=true):Calls prog 413 #[.slice (some ⟨b,0,none⟩) n c,.int .i64 i,.slice (some ⟨vb,vo,none⟩) (1:Nat) vc] w λr w' =>jB w w' b n c (i*3) 3 (n*3) C e fz x r:=by
 have hw1:IntKind.i64.wrap ((i:Int)+1)=(i:Int)+1:=mQ
 have hw2:IntKind.i64.wrap ((n:Int)+1)=(n:Int)+1:=mQ
 have hz2:¬((i:Int)=(n:Int)):=E
 have hb1:(0:Int)<=(i:Int)+1:=E
 have hin:i<=n:=E
 have htn:((i:Int)+1).toNat=i+1:=E
 have hb2:¬(c=i+1):=E
 have hb3:(i:Int)<=(n:Int)+1:=E
 have hb4:¬(c=i):=E
 have hlt:=cI hb;have hsz:(prog.info? 77).map (·.size)=some 3:=aA
 have IQ:C.toList.length=C.size:=O
 obtain⟨cv,ev,fv,hs1,hs2⟩:=vM (hx 0 _ (iW E));have hov:∀lb cb,(callFunc 456 #[.slice (some ⟨vb,vo,none⟩) (1:Nat) vc,.slice (some ⟨b,(i+1)*3,none⟩) lb cb]).run prog w= .ok (.value (.bool false)) w:=λlb cb=>by rw[run_callFunc_extern func456 aA aA aA (e:=Extern.SlicesOverlaps.overlaps #[68,68] #[4]) aA,oK w 68 4 77 underlying68 3 sizeOf77 ⟨vb,vo,none⟩ ⟨b,(i+1)*3,none⟩ 1 vc lb cb hvb ev e cv.size C.size Mz Mv hs2 E Uv Lk];rfl
 obtain⟨M,hM⟩:∃M,M=(C.toList.drop (i*3)).take ((n - i)*3):=⟨_,rfl⟩;have hMl:M.length=(n - i)*3:=Lc
 have OL:∀j v,M[j]? =some v->j<(n - i)*3∧C[i*3+j]? =some v:=λj v h=>by rw[hM,lg]at h;split at h;exact Rk;cases h
 have hcp1:∀ty dc sc,(Builtin.copy_ #[68,68] ty #[.slice (some ⟨b,(i+1)*3,none⟩) (n - i) dc,.slice (some ⟨b,i*3,none⟩) (n+1 - i) sc]).run prog w.drew= .ok (goInt (n - i:Nat)) (dA w.drew b (.cells (aI C.toList ((i+1)*3) M).toArray e fz)):=λty dc sc=>
  gn w.drew _ _ ty 77 3 b ((i+1)*3) (n - i) dc ⟨b,i*3,none⟩ (n+1 - i) sc (n - i) M underlying68 hsz pU jS
   (λj v hj=>Lm) hb (λo ho=>hf o E) jS
   (λv hv=>Ry)
 obtain⟨W1,hW1⟩:∃W1,W1=dA w.drew b (.cells (aI C.toList ((i+1)*3) M).toArray e fz):=⟨_,rfl⟩;have anx:W1.heap[b]? =some (.cells (aI C.toList ((i+1)*3) M).toArray e fz):=EK
 have hcp2:∀W:World,W.heap=W1.heap->∀ty dc,(Builtin.copy_ #[68,68] ty #[.slice (some ⟨b,i*3,none⟩) (n+1 - i) dc,.slice (some ⟨vb,vo,none⟩) (1:Nat) vc]).run prog W= .ok (goInt (1:Nat)) (dA W b (.cells (aI (aI C.toList ((i+1)*3) M).toArray.toList (i*3) x).toArray e fz)):=λW hW ty dc=>gn W _ _ ty 77 3 b (i*3) (n+1 - i) dc ⟨vb,vo,none⟩ 1 vc 1 x underlying68 hsz pU xV (λj v hj=>aah) Mi (λo ho=>hf o Ku) xS h1;rw[<-hW1]at hcp1;have hfin:jB w (dA W1 b (.cells (aI (aI C.toList ((i+1)*3) M).toArray.toList (i*3) x).toArray e fz)) b n c (i*3) 3 (n*3) C e fz x (.returned (.slice (some ⟨b,0,none⟩) (n+1) c)):=Hx hW1 hlt E hxl E jS (λj hj=>by rw[hM,lg,ak E,zn];simp) E;rw[hW1,hM]at hfin
 go_enter func413,ntmps413
 go_wp2_with (simp only[hov])
 go_region_law (refine oJ rfl _ _ 68 68 rfl _ _ kT kT (hcp1 _ _ _) ?_)
 go_wp2_with (at_builtin;refine lQ _ rfl _ _ 68 68 rfl _ _ rfl rfl (hcp2 _ rfl _ _) ?_)
 go_ret
 exact hfin
def SR(b n c vb vo vc:Nat)(C:Array Value)(e:TypeId)(fz:Nat×Nat)(x:List Value)(w:World)(hroom:n+1<=c)(hb:w.heap[b]? =some (.cells C e fz))(hf:qT fz (C.size+1))(hC:c*3<=C.size)(hxl:x.length=3)(hx:∀j v,x[j]? =some v->w.cell? ⟨vb,vo+j,none⟩=some v)(h1:∀v∈x,leaf v=true):Calls prog 413 #[.slice (some ⟨b,0,none⟩) n c,.int .i64 n,.slice (some ⟨vb,vo,none⟩) (1:Nat) vc] w λr w' =>jB w w' b n c (n*3) 3 (n*3) C e fz x r:=by
 obtain⟨i0,hi0,hz0,hzs,hzb⟩:=info_parts (P:=prog) (e:=77) (z:= .agg #[.int .i64 0,.int .i64 0,.int .i64 0]) (size:=3) (bytes:=24) aA;have hsrc:Src prog i0.size 68 (.slice (some ⟨vb,vo,none⟩) (1:Nat) vc) 1 x w:=Zi
 have hrun:=λty=>oL w 68 68 ty 77 i0 underlying68 hi0 b n c _ 1 x hsrc hroom hb (λo ho=>hf o E) Mg;simp only[hzs,nG]at hrun;have hlt:=cI hb;have hfin:jB w (dA w b (.cells (aI C.toList (n*3) x).toArray e fz)) b n c (n*3) 3 (n*3) C e fz x (.returned (.slice (some ⟨b,0,none⟩) (n+1) c)):=Zz
 go_enter func413,ntmps413
 go_wp2_with (at_builtin;refine Lib.wpList_append_run _ rfl _ _ _ _ rfl _ _ rfl rfl _ _ (hrun _) ?_)
 go_ret
 exact hfin
theorem HD(base:Option Nat)(n c vb vo vc:Nat)(C:Array Value)(x:List Value)(w:World)(hnc:n<=c)(hroom:c<n+1)(hbig:(n+1)*24<=140737488355328)(hnil:base=none->n=0)(IQ:C.size=n*3)(hcs:∀b,base=some b->∀j v,C[j]? =some v->w.cell? ⟨b,j,none⟩=some v)(hxl:x.length=3)(hx:∀j v,x[j]? =some v->w.cell? ⟨vb,vo+j,none⟩=some v)(h1:∀v∈x,leaf v=true):Calls prog 413 #[.slice (base.map λb=>⟨b,0,none⟩) n c,.int .i64 n,.slice (some ⟨vb,vo,none⟩) (1:Nat) vc] w λr w' =>kc w w' n (n*3) 3 (n*3) C x r:=by
 obtain⟨i0,hi0,hz0,hzs,hzb⟩:=info_parts (P:=prog) (e:=77) (z:= .agg #[.int .i64 0,.int .i64 0,.int .i64 0]) (size:=3) (bytes:=24) aA;have hsrc:Src prog i0.size 68 (.slice (some ⟨vb,vo,none⟩) (1:Nat) vc) 1 x w:=Zi
 have hold:(Builtin.firstCells i0.size n (.slice (base.map λb=>(⟨b,0,none⟩:Addr)) n c)).run prog w.drew= .ok C.toList.toArray w.drew:=aam
 have hrun:∀ty,(Builtin.append_ #[68,68] ty #[.slice (base.map λb=>⟨b,0,none⟩) n c,.slice (some ⟨vb,vo,none⟩) (1:Nat) vc]).run prog w=_:=λty=>run_append_grow_src w 68 68 ty 77 i0 _ underlying68 hi0 hz0 (base.map λb=>⟨b,0,none⟩) n c C.toList hold _ 1 x hsrc hroom E Mx;have hG:=grownCap_ge w (n+1) c 77;have hfin:kc w (w.drew.alloc (.cells ((C.toList++x).toArray++Builtin.zeroCells (.agg #[.int .i64 0,.int .i64 0,.int .i64 0]:Value).cells (grownCap w (n+1) c 77 - (n+1))) 77)) n (n*3) 3 (n*3) C x (.returned (.slice (some ⟨w.heap.size,0,none⟩) (n+1) (grownCap w (n+1) c 77))):=by generalize grownCap w (n+1) c 77=G at hG ⊢;refine⟨G,_,77,rfl,hG,⟨rfl,rfl,rfl,MG,λk hk _=>bN w.drew _ k hk⟩,A_,dd w.drew _,?_,λj hj=> ?_⟩;exact K_;have:=Dk (C:=((C.toList++x).toArray++Builtin.zeroCells (.agg #[.int .i64 0,.int .i64 0,.int .i64 0]:Value).cells (G - (n+1)))) (x:=x) (M:=[]) (p:=n*3) (z:=3) (q:=n*3+3) (N:=n*3) rfl hxl (cJ _) O (λj hj=>E) LM j hj;unfold HB;rw[jC Mn,mU,Bn];by_cases h1:j<n*3;rw[ak xN,ak h1];simp;rw[Z xN,Z h1,ak hj];simp[IQ]
 go_enter func413,ntmps413
 cases base with
 |none=>
  have h0:=hnil rfl;subst h0
  go_wp2_with (at_builtin;refine Lib.wpList_append_run _ rfl _ _ _ _ rfl _ _ rfl rfl _ _ (hrun _) ?_)
  go_ret
  exact hfin
 |some a=>
  go_wp2_with (at_builtin;refine Lib.wpList_append_run _ rfl _ _ _ _ rfl _ _ rfl rfl _ _ (hrun _) ?_)
  all_goals (go_ret;exact hfin)
theorem P'(b n c i vb vo vc:Nat)(C:Array Value)(x:List Value)(w:World)(hi:i<n)(hnc:n<=c)(hroom:c<n+1)(hbig:(n+1)*24<=140737488355328)(IQ:C.size=n*3)(hcs:∀(j:Nat) v,C[j]? =some v->w.cell? ⟨b,j,none⟩=some v)(h1C:∀(j:Nat) v,C[j]? =some v->leaf v=true)(hxl:x.length=3)(hx:∀j v,x[j]? =some v->w.cell? ⟨vb,vo+j,none⟩=some v)(h1:∀v∈x,leaf v=true):Calls prog 413 #[.slice (some ⟨b,0,none⟩) n c,.int .i64 i,.slice (some ⟨vb,vo,none⟩) (1:Nat) vc] w λr w' =>kc w w' n (i*3) 3 (n*3) C x r:=by
 obtain⟨i0,hi0,hz0,hzs,hzb⟩:=info_parts (P:=prog) (e:=77) (z:= .agg #[.int .i64 0,.int .i64 0,.int .i64 0]) (size:=3) (bytes:=24) aA;have hsz:(prog.info? 77).map (·.size)=some 3:=Mm
 have hz2:¬((i:Int)=(n:Int)):=E
 have hz3:(c:Int)<(n:Int)+1:=E
 have hbw:b<w.heap.size:=mM (hcs 0 _ (kJ E));have hvw:vb<w.heap.size:=mM (hx 0 _ (iW E));have hkk:(n:Int)+1 - (i:Int)=((n+1 - i:Nat):Int):=E
 have hik:i+(n+1 - i)=n+1:=E
 have hCt:C.toList.length=n*3:=A7
 have hold:(Builtin.firstCells i0.size i (.slice (some ⟨b,0,none⟩) i c)).run prog w.drew= .ok (C.toList.take (i*3)).toArray w.drew:=by rw[hzs];exact run_firstCells_some w.drew 3 i ⟨b,0,none⟩ i c (C.toList.take (i*3)) rB (λj v hj=>by rw[dO,eI];rw[lg]at hj;split at hj;exact Kj;cases hj)
 have hrz:∀ty,(Builtin.append_ #[68,3] ty #[.slice (some ⟨b,0,none⟩) i c,.int .i64 ((n:Int)+1 - (i:Int))]).run prog w=
  .ok (.slice (some ⟨w.heap.size,0,none⟩) (n+1) (grownCap w (n+1) c 77)) (w.drew.alloc (.cells ((C.toList.take (i*3)).toArray++Builtin.zeroCells (.agg #[.int .i64 0,.int .i64 0,.int .i64 0]:Value).cells (n+1 - i)++Builtin.zeroCells (.agg #[.int .i64 0,.int .i64 0,.int .i64 0]:Value).cells (grownCap w (n+1) c 77 - (n+1))) 77)):=λty=>by
  have h:=Lib.run_append_grow_zeros w 68 3 ty 77 i0 _ .i64 .i64 underlying68 underlying3 hi0 hz0 (some ⟨b,0,none⟩) i c (C.toList.take (i*3)) hold (n+1 - i) E E E E LN MC;exact Kr
 have hG:=grownCap_ge w (n+1) c 77;have hG63:grownCap w (n+1) c 77<=9223372036854775807:=by have:=grownCap_le_maxLen w (n+1) c 77 Mj;unfold maxLen at this;omega
 obtain⟨G,hGe⟩:∃G,G=grownCap w (n+1) c 77:=⟨_,rfl⟩;rw[<-hGe]at hrz hG hG63;obtain⟨R,hR⟩:∃R:Array Value,R=(C.toList.take (i*3)).toArray++Builtin.zeroCells (.agg #[.int .i64 0,.int .i64 0,.int .i64 0]:Value).cells (n+1 - i)++Builtin.zeroCells (.agg #[.int .i64 0,.int .i64 0,.int .i64 0]:Value).cells (G - (n+1)):=⟨_,rfl⟩;rw[<-hR]at hrz;have hRl:R.size=G*3:=Mq
 have hRC:∀j,j<i*3->R[j]? =C[j]? :=λj hj=>by rw[hR,jC Kg,jC az,mU,lg,ak hj];simp
 obtain⟨W1,hW1⟩:∃W1,W1=w.drew.alloc (.cells R 77):=⟨_,rfl⟩;rw[<-hW1]at hrz;have hN:W1.heap[w.heap.size]? =some (.cells R 77 (0,0)):=KZ
 have hO:∀k j v,k<w.heap.size->w.cell? ⟨k,j,none⟩=some v->W1.cell? ⟨k,j,none⟩=some v:=λk j v hk h=>Lq
 have hcpA:∀W:World,W.heap=W1.heap->∀ty dc,(Builtin.copy_ #[68,68] ty #[.slice (some ⟨w.heap.size,i*3,none⟩) (n+1 - i) dc,.slice (some ⟨vb,vo,none⟩) (1:Nat) vc]).run prog W= .ok (goInt (1:Nat)) (dA W w.heap.size (.cells (aI R.toList (i*3) x).toArray 77 (0,0))):=λW hW ty dc=>
  gn W _ _ ty 77 3 w.heap.size (i*3) (n+1 - i) dc ⟨vb,vo,none⟩ 1 vc 1 x underlying68 hsz pU xV
   (λj v hj=>Z5)
   L4 (λo _=>O) E h1
 obtain⟨M,hM⟩:∃M,M=C.toList.drop (i*3):=⟨_,rfl⟩;have hMl:M.length=(n - i)*3:=Ks
 have OL:∀j:Nat,M[j]? =C[i*3+j]? :=λj=>by rw[hM,zn];simp
 obtain⟨W2,hW2⟩:∃W2,W2=dA W1 w.heap.size (.cells (aI R.toList (i*3) x).toArray 77 (0,0)):=⟨_,rfl⟩;have hlt1:w.heap.size<W1.heap.size:=RS
 have hN2:W2.heap[w.heap.size]? =some (.cells (aI R.toList (i*3) x).toArray 77 (0,0)):=KY
 have hcpB:∀W:World,W.heap=W2.heap->∀ty dc sc,(Builtin.copy_ #[68,68] ty #[.slice (some ⟨w.heap.size,(i+1)*3,none⟩) (n - i) dc,.slice (some ⟨b,i*3,none⟩) (n - i) sc]).run prog W= .ok (goInt (n - i:Nat)) (dA W w.heap.size (.cells (aI (aI R.toList (i*3) x).toArray.toList ((i+1)*3) M).toArray 77 (0,0))):=λW hW ty dc sc=>
  gn W _ _ ty 77 3 w.heap.size ((i+1)*3) (n - i) dc ⟨b,i*3,none⟩ (n - i) sc (n - i) M underlying68 hsz pU jS
   (λj v hj=>akm)
   Ma (λo _=>O) xS (λv hv=>Rq)
 have hfin:∀(W:World),W.heap=W2.heap->W.os=w.os->W.tape=w.tape->W.output=w.output->kc w (dA W w.heap.size (.cells (aI (aI R.toList (i*3) x).toArray.toList ((i+1)*3) M).toArray 77 (0,0))) n (i*3) 3 (n*3) C x (.returned (.slice (some ⟨w.heap.size,0,none⟩) (n+1) G)):=λW e1 e2 e3 e4=>by
  have hs:W.heap.size=w.heap.size+1:=R4
  refine⟨G,_,77,rfl,hG,⟨e2,e3,e4,po,λk hk _=> ?_⟩,po,dt _ _ _ E,?_,λj hj=> ?_⟩;exact RB;simp[aV,hRl];·exact N2 E hxl E jS (λj _=>OL j) hRC E j hj
 have hGi:¬(G=i):=E
 have hGim:¬(G=i+1):=E
 have hci:¬(c=i):=E
 have hw1:IntKind.i64.wrap ((i:Int)+1)=(i:Int)+1:=mQ
 have hw2:IntKind.i64.wrap ((n:Int)+1)=(n:Int)+1:=mQ
 have hw3:IntKind.i64.wrap ((n:Int)+1 - (i:Int))=(n:Int)+1 - (i:Int):=mQ
 have hb1:(0:Int)<=(i:Int)+1:=E
 have hin:i<=n:=E
 have htn:((i:Int)+1).toNat=i+1:=E
 have hb3:(i:Int)<=(n:Int):=E
 have WO:=hfin (dA (w.alloc (.cells R 77)).drew w.heap.size (.cells (aI R.toList (i*3) x).toArray 77)).drew xI rfl rfl rfl;rw[hM]at WO;have hfB:=hcpB (dA (w.alloc (.cells R 77)).drew w.heap.size (.cells (aI R.toList (i*3) x).toArray 77)).drew xI;clear hkk hik hold hGe hR hRl
 go_enter func413,ntmps413
 go_wp2_with (first
  |(at_builtin;refine Lib.wpList_append_run _ rfl _ _ _ _ rfl _ _ rfl rfl _ _ (hrz _) ?_)|(at_builtin;refine lQ _ rfl _ _ 68 68 rfl _ _ rfl rfl (hcpA _ rfl _ _) ?_))
 go_region_law (refine oJ rfl _ _ 68 68 rfl (.slice (some ⟨w.heap.size,(i+1)*3,none⟩) (n - i) (G - (i+1))) (.slice (some ⟨b,i*3,none⟩) (n - i) (c - i)) kT kT (hfB 3 (G - (i+1)) (c - i)) ?_)
 go_wp2
 go_ret
 exact WO
def N3(b n c i vb vo vc:Nat)(C:Array Value)(e:TypeId)(fz:Nat×Nat)(x:List Value)(w:World)(hi:i<n)(hroom:n+1<=c)(hn63:n+1<=4611686018427387904)(hb:w.heap[b]? =some (.cells C e fz))(hf:qT fz (C.size+1))(hC:c*3<=C.size)(hvb:vb≠b)(hxl:x.length=3)(hx:∀j v,x[j]? =some v->w.cell? ⟨vb,vo+j,none⟩=some v)(h1:∀v∈x,leaf v=true)(h1C:∀j v,j<n*3->C[j]? =some v->leaf v=true):Calls prog 464 #[.slice (some ⟨b,0,none⟩) n c,.int .i64 i,.slice (some ⟨vb,vo,none⟩) (1:Nat) vc] w λr w' =>jB w w' b n c (i*3) 3 (n*3) C e fz x r:=by
 have hw1:IntKind.i64.wrap ((i:Int)+1)=(i:Int)+1:=mQ
 have hw2:IntKind.i64.wrap ((n:Int)+1)=(n:Int)+1:=mQ
 have hz2:¬((i:Int)=(n:Int)):=E
 have hb1:(0:Int)<=(i:Int)+1:=E
 have hin:i<=n:=E
 have htn:((i:Int)+1).toNat=i+1:=E
 have hb2:¬(c=i+1):=E
 have hb3:(i:Int)<=(n:Int)+1:=E
 have hb4:¬(c=i):=E
 have hlt:=cI hb;have hsz:(prog.info? 80).map (·.size)=some 3:=aA
 have IQ:C.toList.length=C.size:=O
 obtain⟨cv,ev,fv,hs1,hs2⟩:=vM (hx 0 _ (iW E));have hov:∀lb cb,(callFunc 488 #[.slice (some ⟨vb,vo,none⟩) (1:Nat) vc,.slice (some ⟨b,(i+1)*3,none⟩) lb cb]).run prog w= .ok (.value (.bool false)) w:=λlb cb=>by rw[run_callFunc_extern func488 aA aA aA (e:=Extern.SlicesOverlaps.overlaps #[69,69] #[4]) aA,oK w 69 4 80 underlying69 3 sizeOf80 ⟨vb,vo,none⟩ ⟨b,(i+1)*3,none⟩ 1 vc lb cb hvb ev e cv.size C.size Mz Mv hs2 E Uv Lk];rfl
 obtain⟨M,hM⟩:∃M,M=(C.toList.drop (i*3)).take ((n - i)*3):=⟨_,rfl⟩;have hMl:M.length=(n - i)*3:=Lc
 have OL:∀j v,M[j]? =some v->j<(n - i)*3∧C[i*3+j]? =some v:=λj v h=>by rw[hM,lg]at h;split at h;exact Rk;cases h
 have hcp1:∀ty dc sc,(Builtin.copy_ #[69,69] ty #[.slice (some ⟨b,(i+1)*3,none⟩) (n - i) dc,.slice (some ⟨b,i*3,none⟩) (n+1 - i) sc]).run prog w.drew= .ok (goInt (n - i:Nat)) (dA w.drew b (.cells (aI C.toList ((i+1)*3) M).toArray e fz)):=λty dc sc=>
  gn w.drew _ _ ty 80 3 b ((i+1)*3) (n - i) dc ⟨b,i*3,none⟩ (n+1 - i) sc (n - i) M underlying69 hsz pU jS
   (λj v hj=>Lm) hb (λo ho=>hf o E) jS
   (λv hv=>Ry)
 obtain⟨W1,hW1⟩:∃W1,W1=dA w.drew b (.cells (aI C.toList ((i+1)*3) M).toArray e fz):=⟨_,rfl⟩;have anx:W1.heap[b]? =some (.cells (aI C.toList ((i+1)*3) M).toArray e fz):=EK
 have hcp2:∀W:World,W.heap=W1.heap->∀ty dc,(Builtin.copy_ #[69,69] ty #[.slice (some ⟨b,i*3,none⟩) (n+1 - i) dc,.slice (some ⟨vb,vo,none⟩) (1:Nat) vc]).run prog W= .ok (goInt (1:Nat)) (dA W b (.cells (aI (aI C.toList ((i+1)*3) M).toArray.toList (i*3) x).toArray e fz)):=λW hW ty dc=>gn W _ _ ty 80 3 b (i*3) (n+1 - i) dc ⟨vb,vo,none⟩ 1 vc 1 x underlying69 hsz pU xV (λj v hj=>aah) Mi (λo ho=>hf o Ku) xS h1;rw[<-hW1]at hcp1;have hfin:jB w (dA W1 b (.cells (aI (aI C.toList ((i+1)*3) M).toArray.toList (i*3) x).toArray e fz)) b n c (i*3) 3 (n*3) C e fz x (.returned (.slice (some ⟨b,0,none⟩) (n+1) c)):=Hx hW1 hlt E hxl E jS (λj hj=>by rw[hM,lg,ak E,zn];simp) E;rw[hW1,hM]at hfin
 go_enter func464,ntmps464
 go_wp2_with (simp only[hov])
 go_region_law (refine oJ rfl _ _ 69 69 rfl _ _ kT kT (hcp1 _ _ _) ?_)
 go_wp2_with (at_builtin;refine lQ _ rfl _ _ 69 69 rfl _ _ rfl rfl (hcp2 _ rfl _ _) ?_)
 go_ret
 exact hfin
def SQ(b n c vb vo vc:Nat)(C:Array Value)(e:TypeId)(fz:Nat×Nat)(x:List Value)(w:World)(hroom:n+1<=c)(hb:w.heap[b]? =some (.cells C e fz))(hf:qT fz (C.size+1))(hC:c*3<=C.size)(hxl:x.length=3)(hx:∀j v,x[j]? =some v->w.cell? ⟨vb,vo+j,none⟩=some v)(h1:∀v∈x,leaf v=true):Calls prog 464 #[.slice (some ⟨b,0,none⟩) n c,.int .i64 n,.slice (some ⟨vb,vo,none⟩) (1:Nat) vc] w λr w' =>jB w w' b n c (n*3) 3 (n*3) C e fz x r:=by
 obtain⟨i0,hi0,hz0,hzs,hzb⟩:=info_parts (P:=prog) (e:=80) (z:= .agg #[.int .i64 0,.int .i64 0,.int .i64 0]) (size:=3) (bytes:=24) aA;have hsrc:Src prog i0.size 69 (.slice (some ⟨vb,vo,none⟩) (1:Nat) vc) 1 x w:=Zh
 have hrun:=λty=>oL w 69 69 ty 80 i0 underlying69 hi0 b n c _ 1 x hsrc hroom hb (λo ho=>hf o E) Mg;simp only[hzs,nG]at hrun;have hlt:=cI hb;have hfin:jB w (dA w b (.cells (aI C.toList (n*3) x).toArray e fz)) b n c (n*3) 3 (n*3) C e fz x (.returned (.slice (some ⟨b,0,none⟩) (n+1) c)):=Zz
 go_enter func464,ntmps464
 go_wp2_with (at_builtin;refine Lib.wpList_append_run _ rfl _ _ _ _ rfl _ _ rfl rfl _ _ (hrun _) ?_)
 go_ret
 exact hfin
theorem HC(base:Option Nat)(n c vb vo vc:Nat)(C:Array Value)(x:List Value)(w:World)(hnc:n<=c)(hroom:c<n+1)(hbig:(n+1)*24<=140737488355328)(hnil:base=none->n=0)(IQ:C.size=n*3)(hcs:∀b,base=some b->∀j v,C[j]? =some v->w.cell? ⟨b,j,none⟩=some v)(hxl:x.length=3)(hx:∀j v,x[j]? =some v->w.cell? ⟨vb,vo+j,none⟩=some v)(h1:∀v∈x,leaf v=true):Calls prog 464 #[.slice (base.map λb=>⟨b,0,none⟩) n c,.int .i64 n,.slice (some ⟨vb,vo,none⟩) (1:Nat) vc] w λr w' =>kc w w' n (n*3) 3 (n*3) C x r:=by
 obtain⟨i0,hi0,hz0,hzs,hzb⟩:=info_parts (P:=prog) (e:=80) (z:= .agg #[.int .i64 0,.int .i64 0,.int .i64 0]) (size:=3) (bytes:=24) aA;have hsrc:Src prog i0.size 69 (.slice (some ⟨vb,vo,none⟩) (1:Nat) vc) 1 x w:=Zh
 have hold:(Builtin.firstCells i0.size n (.slice (base.map λb=>(⟨b,0,none⟩:Addr)) n c)).run prog w.drew= .ok C.toList.toArray w.drew:=aam
 have hrun:∀ty,(Builtin.append_ #[69,69] ty #[.slice (base.map λb=>⟨b,0,none⟩) n c,.slice (some ⟨vb,vo,none⟩) (1:Nat) vc]).run prog w=_:=λty=>run_append_grow_src w 69 69 ty 80 i0 _ underlying69 hi0 hz0 (base.map λb=>⟨b,0,none⟩) n c C.toList hold _ 1 x hsrc hroom E Mx;have hG:=grownCap_ge w (n+1) c 80;have hfin:kc w (w.drew.alloc (.cells ((C.toList++x).toArray++Builtin.zeroCells (.agg #[.int .i64 0,.int .i64 0,.int .i64 0]:Value).cells (grownCap w (n+1) c 80 - (n+1))) 80)) n (n*3) 3 (n*3) C x (.returned (.slice (some ⟨w.heap.size,0,none⟩) (n+1) (grownCap w (n+1) c 80))):=by generalize grownCap w (n+1) c 80=G at hG ⊢;refine⟨G,_,80,rfl,hG,⟨rfl,rfl,rfl,MG,λk hk _=>bN w.drew _ k hk⟩,A_,dd w.drew _,?_,λj hj=> ?_⟩;exact K_;have:=Dk (C:=((C.toList++x).toArray++Builtin.zeroCells (.agg #[.int .i64 0,.int .i64 0,.int .i64 0]:Value).cells (G - (n+1)))) (x:=x) (M:=[]) (p:=n*3) (z:=3) (q:=n*3+3) (N:=n*3) rfl hxl (cJ _) O (λj hj=>E) LM j hj;unfold HB;rw[jC Mn,mU,Bn];by_cases h1:j<n*3;rw[ak xN,ak h1];simp;rw[Z xN,Z h1,ak hj];simp[IQ]
 go_enter func464,ntmps464
 cases base with
 |none=>
  have h0:=hnil rfl;subst h0
  go_wp2_with (at_builtin;refine Lib.wpList_append_run _ rfl _ _ _ _ rfl _ _ rfl rfl _ _ (hrun _) ?_)
  go_ret
  exact hfin
 |some a=>
  go_wp2_with (at_builtin;refine Lib.wpList_append_run _ rfl _ _ _ _ rfl _ _ rfl rfl _ _ (hrun _) ?_)
  all_goals (go_ret;exact hfin)
theorem P9(b n c i vb vo vc:Nat)(C:Array Value)(x:List Value)(w:World)(hi:i<n)(hnc:n<=c)(hroom:c<n+1)(hbig:(n+1)*24<=140737488355328)(IQ:C.size=n*3)(hcs:∀(j:Nat) v,C[j]? =some v->w.cell? ⟨b,j,none⟩=some v)(h1C:∀(j:Nat) v,C[j]? =some v->leaf v=true)(hxl:x.length=3)(hx:∀j v,x[j]? =some v->w.cell? ⟨vb,vo+j,none⟩=some v)(h1:∀v∈x,leaf v=true):Calls prog 464 #[.slice (some ⟨b,0,none⟩) n c,.int .i64 i,.slice (some ⟨vb,vo,none⟩) (1:Nat) vc] w λr w' =>kc w w' n (i*3) 3 (n*3) C x r:=by
 obtain⟨i0,hi0,hz0,hzs,hzb⟩:=info_parts (P:=prog) (e:=80) (z:= .agg #[.int .i64 0,.int .i64 0,.int .i64 0]) (size:=3) (bytes:=24) aA;have hsz:(prog.info? 80).map (·.size)=some 3:=Mm
 have hz2:¬((i:Int)=(n:Int)):=E
 have hz3:(c:Int)<(n:Int)+1:=E
 have hbw:b<w.heap.size:=mM (hcs 0 _ (kJ E));have hvw:vb<w.heap.size:=mM (hx 0 _ (iW E));have hkk:(n:Int)+1 - (i:Int)=((n+1 - i:Nat):Int):=E
 have hik:i+(n+1 - i)=n+1:=E
 have hCt:C.toList.length=n*3:=A7
 have hold:(Builtin.firstCells i0.size i (.slice (some ⟨b,0,none⟩) i c)).run prog w.drew= .ok (C.toList.take (i*3)).toArray w.drew:=by rw[hzs];exact run_firstCells_some w.drew 3 i ⟨b,0,none⟩ i c (C.toList.take (i*3)) rB (λj v hj=>by rw[dO,eI];rw[lg]at hj;split at hj;exact Kj;cases hj)
 have hrz:∀ty,(Builtin.append_ #[69,3] ty #[.slice (some ⟨b,0,none⟩) i c,.int .i64 ((n:Int)+1 - (i:Int))]).run prog w=
  .ok (.slice (some ⟨w.heap.size,0,none⟩) (n+1) (grownCap w (n+1) c 80)) (w.drew.alloc (.cells ((C.toList.take (i*3)).toArray++Builtin.zeroCells (.agg #[.int .i64 0,.int .i64 0,.int .i64 0]:Value).cells (n+1 - i)++Builtin.zeroCells (.agg #[.int .i64 0,.int .i64 0,.int .i64 0]:Value).cells (grownCap w (n+1) c 80 - (n+1))) 80)):=λty=>by
  have h:=Lib.run_append_grow_zeros w 69 3 ty 80 i0 _ .i64 .i64 underlying69 underlying3 hi0 hz0 (some ⟨b,0,none⟩) i c (C.toList.take (i*3)) hold (n+1 - i) E E E E LN MC;exact Kr
 have hG:=grownCap_ge w (n+1) c 80;have hG63:grownCap w (n+1) c 80<=9223372036854775807:=by have:=grownCap_le_maxLen w (n+1) c 80 Mj;unfold maxLen at this;omega
 obtain⟨G,hGe⟩:∃G,G=grownCap w (n+1) c 80:=⟨_,rfl⟩;rw[<-hGe]at hrz hG hG63;obtain⟨R,hR⟩:∃R:Array Value,R=(C.toList.take (i*3)).toArray++Builtin.zeroCells (.agg #[.int .i64 0,.int .i64 0,.int .i64 0]:Value).cells (n+1 - i)++Builtin.zeroCells (.agg #[.int .i64 0,.int .i64 0,.int .i64 0]:Value).cells (G - (n+1)):=⟨_,rfl⟩;rw[<-hR]at hrz;have hRl:R.size=G*3:=Mq
 have hRC:∀j,j<i*3->R[j]? =C[j]? :=λj hj=>by rw[hR,jC Kg,jC az,mU,lg,ak hj];simp
 obtain⟨W1,hW1⟩:∃W1,W1=w.drew.alloc (.cells R 80):=⟨_,rfl⟩;rw[<-hW1]at hrz;have hN:W1.heap[w.heap.size]? =some (.cells R 80 (0,0)):=KZ
 have hO:∀k j v,k<w.heap.size->w.cell? ⟨k,j,none⟩=some v->W1.cell? ⟨k,j,none⟩=some v:=λk j v hk h=>Lq
 have hcpA:∀W:World,W.heap=W1.heap->∀ty dc,(Builtin.copy_ #[69,69] ty #[.slice (some ⟨w.heap.size,i*3,none⟩) (n+1 - i) dc,.slice (some ⟨vb,vo,none⟩) (1:Nat) vc]).run prog W= .ok (goInt (1:Nat)) (dA W w.heap.size (.cells (aI R.toList (i*3) x).toArray 80 (0,0))):=λW hW ty dc=>
  gn W _ _ ty 80 3 w.heap.size (i*3) (n+1 - i) dc ⟨vb,vo,none⟩ 1 vc 1 x underlying69 hsz pU xV
   (λj v hj=>Z5)
   L4 (λo _=>O) E h1
 obtain⟨M,hM⟩:∃M,M=C.toList.drop (i*3):=⟨_,rfl⟩;have hMl:M.length=(n - i)*3:=Ks
 have OL:∀j:Nat,M[j]? =C[i*3+j]? :=λj=>by rw[hM,zn];simp
 obtain⟨W2,hW2⟩:∃W2,W2=dA W1 w.heap.size (.cells (aI R.toList (i*3) x).toArray 80 (0,0)):=⟨_,rfl⟩;have hlt1:w.heap.size<W1.heap.size:=RS
 have hN2:W2.heap[w.heap.size]? =some (.cells (aI R.toList (i*3) x).toArray 80 (0,0)):=KY
 have hcpB:∀W:World,W.heap=W2.heap->∀ty dc sc,(Builtin.copy_ #[69,69] ty #[.slice (some ⟨w.heap.size,(i+1)*3,none⟩) (n - i) dc,.slice (some ⟨b,i*3,none⟩) (n - i) sc]).run prog W= .ok (goInt (n - i:Nat)) (dA W w.heap.size (.cells (aI (aI R.toList (i*3) x).toArray.toList ((i+1)*3) M).toArray 80 (0,0))):=λW hW ty dc sc=>
  gn W _ _ ty 80 3 w.heap.size ((i+1)*3) (n - i) dc ⟨b,i*3,none⟩ (n - i) sc (n - i) M underlying69 hsz pU jS
   (λj v hj=>akm)
   Ma (λo _=>O) xS (λv hv=>Rq)
 have hfin:∀(W:World),W.heap=W2.heap->W.os=w.os->W.tape=w.tape->W.output=w.output->kc w (dA W w.heap.size (.cells (aI (aI R.toList (i*3) x).toArray.toList ((i+1)*3) M).toArray 80 (0,0))) n (i*3) 3 (n*3) C x (.returned (.slice (some ⟨w.heap.size,0,none⟩) (n+1) G)):=λW e1 e2 e3 e4=>by
  have hs:W.heap.size=w.heap.size+1:=R4
  refine⟨G,_,80,rfl,hG,⟨e2,e3,e4,po,λk hk _=> ?_⟩,po,dt _ _ _ E,?_,λj hj=> ?_⟩;exact RB;simp[aV,hRl];·exact N2 E hxl E jS (λj _=>OL j) hRC E j hj
 have hGi:¬(G=i):=E
 have hGim:¬(G=i+1):=E
 have hci:¬(c=i):=E
 have hw1:IntKind.i64.wrap ((i:Int)+1)=(i:Int)+1:=mQ
 have hw2:IntKind.i64.wrap ((n:Int)+1)=(n:Int)+1:=mQ
 have hw3:IntKind.i64.wrap ((n:Int)+1 - (i:Int))=(n:Int)+1 - (i:Int):=mQ
 have hb1:(0:Int)<=(i:Int)+1:=E
 have hin:i<=n:=E
 have htn:((i:Int)+1).toNat=i+1:=E
 have hb3:(i:Int)<=(n:Int):=E
 have WO:=hfin (dA (w.alloc (.cells R 80)).drew w.heap.size (.cells (aI R.toList (i*3) x).toArray 80)).drew xI rfl rfl rfl;rw[hM]at WO;have hfB:=hcpB (dA (w.alloc (.cells R 80)).drew w.heap.size (.cells (aI R.toList (i*3) x).toArray 80)).drew xI;clear hkk hik hold hGe hR hRl
 go_enter func464,ntmps464
 go_wp2_with (first
  |(at_builtin;refine Lib.wpList_append_run _ rfl _ _ _ _ rfl _ _ rfl rfl _ _ (hrz _) ?_)|(at_builtin;refine lQ _ rfl _ _ 69 69 rfl _ _ rfl rfl (hcpA _ rfl _ _) ?_))
 go_region_law (refine oJ rfl _ _ 69 69 rfl (.slice (some ⟨w.heap.size,(i+1)*3,none⟩) (n - i) (G - (i+1))) (.slice (some ⟨b,i*3,none⟩) (n - i) (c - i)) kT kT (hfB 3 (G - (i+1)) (c - i)) ?_)
 go_wp2
 go_ret
 exact WO
def N5(b n c i vb vo vc:Nat)(C:Array Value)(e:TypeId)(fz:Nat×Nat)(x:List Value)(w:World)(hi:i<n)(hroom:n+1<=c)(hn63:n+1<=4611686018427387904)(hb:w.heap[b]? =some (.cells C e fz))(hf:qT fz (C.size+1))(hC:c<=C.size)(hvb:vb≠b)(hxl:x.length=1)(hx:∀j v,x[j]? =some v->w.cell? ⟨vb,vo+j,none⟩=some v)(h1:∀v∈x,leaf v=true)(h1C:∀j v,j<n->C[j]? =some v->leaf v=true):Calls prog 409 #[.slice (some ⟨b,0,none⟩) n c,.int .i64 i,.slice (some ⟨vb,vo,none⟩) (1:Nat) vc] w λr w' =>jB w w' b n c (i) 1 (n) C e fz x r:=by
 have hw1:IntKind.i64.wrap ((i:Int)+1)=(i:Int)+1:=mQ
 have hw2:IntKind.i64.wrap ((n:Int)+1)=(n:Int)+1:=mQ
 have hz2:¬((i:Int)=(n:Int)):=E
 have hb1:(0:Int)<=(i:Int)+1:=E
 have hin:i<=n:=E
 have htn:((i:Int)+1).toNat=i+1:=E
 have hb2:¬(c=i+1):=E
 have hb3:(i:Int)<=(n:Int)+1:=E
 have hb4:¬(c=i):=E
 have hlt:=cI hb;have hsz:(prog.info? 3).map (·.size)=some 1:=aA
 have IQ:C.toList.length=C.size:=O
 obtain⟨cv,ev,fv,hs1,hs2⟩:=vM (hx 0 _ (iW E));have hov:∀lb cb,(callFunc 453 #[.slice (some ⟨vb,vo,none⟩) (1:Nat) vc,.slice (some ⟨b,(i+1),none⟩) lb cb]).run prog w= .ok (.value (.bool false)) w:=λlb cb=>by rw[run_callFunc_extern func453 aA aA aA (e:=Extern.SlicesOverlaps.overlaps #[36,36] #[4]) aA,oK w 36 4 3 underlying36 1 sizeOf3 ⟨vb,vo,none⟩ ⟨b,(i+1),none⟩ 1 vc lb cb hvb ev e cv.size C.size Mz Mv hs2 E (by simp only[World.frozen?,hb];simpa using hf ((i+1)) E) Lk];rfl
 obtain⟨M,hM⟩:∃M,M=(C.toList.drop (i)).take ((n - i)):=⟨_,rfl⟩;have hMl:M.length=(n - i):=Lc
 have OL:∀j v,M[j]? =some v->j<(n - i)∧C[i+j]? =some v:=λj v h=>by rw[hM,lg]at h;split at h;exact Rk;cases h
 have hcp1:∀ty dc sc,(Builtin.copy_ #[36,36] ty #[.slice (some ⟨b,(i+1),none⟩) (n - i) dc,.slice (some ⟨b,i,none⟩) (n+1 - i) sc]).run prog w.drew= .ok (goInt (n - i:Nat)) (dA w.drew b (.cells (aI C.toList ((i+1)) M).toArray e fz)):=λty dc sc=>
  gn w.drew _ _ ty 3 1 b ((i+1)) (n - i) dc ⟨b,i,none⟩ (n+1 - i) sc (n - i) M underlying36 hsz pU jS
   (λj v hj=>Lm) hb (λo ho=>hf o E) jS
   (λv hv=>Ry)
 obtain⟨W1,hW1⟩:∃W1,W1=dA w.drew b (.cells (aI C.toList ((i+1)) M).toArray e fz):=⟨_,rfl⟩;have anx:W1.heap[b]? =some (.cells (aI C.toList ((i+1)) M).toArray e fz):=EK
 have hcp2:∀W:World,W.heap=W1.heap->∀ty dc,(Builtin.copy_ #[36,36] ty #[.slice (some ⟨b,i,none⟩) (n+1 - i) dc,.slice (some ⟨vb,vo,none⟩) (1:Nat) vc]).run prog W= .ok (goInt (1:Nat)) (dA W b (.cells (aI (aI C.toList ((i+1)) M).toArray.toList (i) x).toArray e fz)):=λW hW ty dc=>gn W _ _ ty 3 1 b (i) (n+1 - i) dc ⟨vb,vo,none⟩ 1 vc 1 x underlying36 hsz pU xV (λj v hj=>aah) Mi (λo ho=>hf o Ku) xS h1;rw[<-hW1]at hcp1;have hfin:jB w (dA W1 b (.cells (aI (aI C.toList ((i+1)) M).toArray.toList (i) x).toArray e fz)) b n c (i) 1 (n) C e fz x (.returned (.slice (some ⟨b,0,none⟩) (n+1) c)):=Hx hW1 hlt E hxl E jS (λj hj=>by rw[hM,lg,ak E,zn];simp) E;rw[hW1,hM]at hfin
 go_enter func409,ntmps409
 go_wp2_with (simp only[hov])
 go_region_law (refine oJ rfl _ _ 36 36 rfl _ _ kT kT (hcp1 _ _ _) ?_)
 go_wp2_with (at_builtin;refine lQ _ rfl _ _ 36 36 rfl _ _ rfl rfl (hcp2 _ rfl _ _) ?_)
 go_ret
 exact hfin
def SS(b n c vb vo vc:Nat)(C:Array Value)(e:TypeId)(fz:Nat×Nat)(x:List Value)(w:World)(hroom:n+1<=c)(hb:w.heap[b]? =some (.cells C e fz))(hf:qT fz (C.size+1))(hC:c<=C.size)(hxl:x.length=1)(hx:∀j v,x[j]? =some v->w.cell? ⟨vb,vo+j,none⟩=some v)(h1:∀v∈x,leaf v=true):Calls prog 409 #[.slice (some ⟨b,0,none⟩) n c,.int .i64 n,.slice (some ⟨vb,vo,none⟩) (1:Nat) vc] w λr w' =>jB w w' b n c (n) 1 (n) C e fz x r:=by
 obtain⟨i0,hi0,hz0,hzs,hzb⟩:=info_parts (P:=prog) (e:=3) (z:= .int .i64 0) (size:=1) (bytes:=8) aA;have hsrc:Src prog i0.size 36 (.slice (some ⟨vb,vo,none⟩) (1:Nat) vc) 1 x w:=Zj
 have hrun:=λty=>oL w 36 36 ty 3 i0 underlying36 hi0 b n c _ 1 x hsrc hroom hb (λo ho=>hf o E) Mg;simp only[hzs,nG]at hrun;have hlt:=cI hb;have hfin:jB w (dA w b (.cells (aI C.toList (n) x).toArray e fz)) b n c (n) 1 (n) C e fz x (.returned (.slice (some ⟨b,0,none⟩) (n+1) c)):=by refine⟨rfl,⟨rfl,rfl,rfl,ET,λk hk hx=>dL _ _ _ _ hx⟩,ET,_,dt _ _ _ hlt,by simp[aV],λj hj=> ?_⟩;have:=Dk (C:=C) (x:=x) (M:=[]) (p:=n) (z:=1) (q:=n+1) (N:=n) rfl hxl (cJ _) O (λj hj=>E) E j hj;simpa[iA]using this
 go_enter func409,ntmps409
 go_wp2_with (at_builtin;refine Lib.wpList_append_run _ rfl _ _ _ _ rfl _ _ rfl rfl _ _ (hrun _) ?_)
 go_ret
 exact hfin
theorem HE(base:Option Nat)(n c vb vo vc:Nat)(C:Array Value)(x:List Value)(w:World)(hnc:n<=c)(hroom:c<n+1)(hbig:(n+1)*8<=140737488355328)(hnil:base=none->n=0)(IQ:C.size=n)(hcs:∀b,base=some b->∀j v,C[j]? =some v->w.cell? ⟨b,j,none⟩=some v)(hxl:x.length=1)(hx:∀j v,x[j]? =some v->w.cell? ⟨vb,vo+j,none⟩=some v)(h1:∀v∈x,leaf v=true):Calls prog 409 #[.slice (base.map λb=>⟨b,0,none⟩) n c,.int .i64 n,.slice (some ⟨vb,vo,none⟩) (1:Nat) vc] w λr w' =>kc w w' n (n) 1 (n) C x r:=by
 obtain⟨i0,hi0,hz0,hzs,hzb⟩:=info_parts (P:=prog) (e:=3) (z:= .int .i64 0) (size:=1) (bytes:=8) aA;have hsrc:Src prog i0.size 36 (.slice (some ⟨vb,vo,none⟩) (1:Nat) vc) 1 x w:=Zj
 have hold:(Builtin.firstCells i0.size n (.slice (base.map λb=>(⟨b,0,none⟩:Addr)) n c)).run prog w.drew= .ok C.toList.toArray w.drew:=by rw[hzs];cases base with|none=>have h0:=hnil rfl;subst h0;have:C.toList=[]:=Gl A7;rw[this];exact run_firstCells_none w.drew 1 0 0 c|some b=>exact run_firstCells_some w.drew 1 n ⟨b,0,none⟩ n c C.toList A7 (λj v hj=>by rw[dO,eI];exact hcs b rfl j v yc)
 have hrun:∀ty,(Builtin.append_ #[36,36] ty #[.slice (base.map λb=>⟨b,0,none⟩) n c,.slice (some ⟨vb,vo,none⟩) (1:Nat) vc]).run prog w=_:=λty=>run_append_grow_src w 36 36 ty 3 i0 _ underlying36 hi0 hz0 (base.map λb=>⟨b,0,none⟩) n c C.toList hold _ 1 x hsrc hroom E Mx;have hG:=grownCap_ge w (n+1) c 3;have hfin:kc w (w.drew.alloc (.cells ((C.toList++x).toArray++Builtin.zeroCells (.int .i64 0:Value).cells (grownCap w (n+1) c 3 - (n+1))) 3)) n (n) 1 (n) C x (.returned (.slice (some ⟨w.heap.size,0,none⟩) (n+1) (grownCap w (n+1) c 3))):=by generalize grownCap w (n+1) c 3=G at hG ⊢;refine⟨G,_,3,rfl,hG,⟨rfl,rfl,rfl,MG,λk hk _=>bN w.drew _ k hk⟩,A_,dd w.drew _,?_,λj hj=> ?_⟩;exact K_;have:=Dk (C:=((C.toList++x).toArray++Builtin.zeroCells (.int .i64 0:Value).cells (G - (n+1)))) (x:=x) (M:=[]) (p:=n) (z:=1) (q:=n+1) (N:=n) rfl hxl (cJ _) O (λj hj=>E) LM j hj;unfold HB;rw[jC Mn,mU,Bn];by_cases h1:j<n;rw[ak xN,ak h1];simp;rw[Z xN,Z h1,ak hj];simp[IQ]
 go_enter func409,ntmps409
 cases base with
 |none=>
  have h0:=hnil rfl;subst h0
  go_wp2_with (at_builtin;refine Lib.wpList_append_run _ rfl _ _ _ _ rfl _ _ rfl rfl _ _ (hrun _) ?_)
  go_ret
  exact hfin
 |some a=>
  go_wp2_with (at_builtin;refine Lib.wpList_append_run _ rfl _ _ _ _ rfl _ _ rfl rfl _ _ (hrun _) ?_)
  all_goals (go_ret;exact hfin)
theorem Qb(b n c i vb vo vc:Nat)(C:Array Value)(x:List Value)(w:World)(hi:i<n)(hnc:n<=c)(hroom:c<n+1)(hbig:(n+1)*8<=140737488355328)(IQ:C.size=n)(hcs:∀(j:Nat) v,C[j]? =some v->w.cell? ⟨b,j,none⟩=some v)(h1C:∀(j:Nat) v,C[j]? =some v->leaf v=true)(hxl:x.length=1)(hx:∀j v,x[j]? =some v->w.cell? ⟨vb,vo+j,none⟩=some v)(h1:∀v∈x,leaf v=true):Calls prog 409 #[.slice (some ⟨b,0,none⟩) n c,.int .i64 i,.slice (some ⟨vb,vo,none⟩) (1:Nat) vc] w λr w' =>kc w w' n (i) 1 (n) C x r:=by
 obtain⟨i0,hi0,hz0,hzs,hzb⟩:=info_parts (P:=prog) (e:=3) (z:= .int .i64 0) (size:=1) (bytes:=8) aA;have hsz:(prog.info? 3).map (·.size)=some 1:=Mm
 have hz2:¬((i:Int)=(n:Int)):=E
 have hz3:(c:Int)<(n:Int)+1:=E
 have hbw:b<w.heap.size:=mM (hcs 0 _ (kJ E));have hvw:vb<w.heap.size:=mM (hx 0 _ (iW E));have hkk:(n:Int)+1 - (i:Int)=((n+1 - i:Nat):Int):=E
 have hik:i+(n+1 - i)=n+1:=E
 have hCt:C.toList.length=n:=A7
 have hold:(Builtin.firstCells i0.size i (.slice (some ⟨b,0,none⟩) i c)).run prog w.drew= .ok (C.toList.take (i)).toArray w.drew:=by rw[hzs];exact run_firstCells_some w.drew 1 i ⟨b,0,none⟩ i c (C.toList.take (i)) rB (λj v hj=>by rw[dO,eI];rw[lg]at hj;split at hj;exact Kj;cases hj)
 have hrz:∀ty,(Builtin.append_ #[36,3] ty #[.slice (some ⟨b,0,none⟩) i c,.int .i64 ((n:Int)+1 - (i:Int))]).run prog w=
  .ok (.slice (some ⟨w.heap.size,0,none⟩) (n+1) (grownCap w (n+1) c 3)) (w.drew.alloc (.cells ((C.toList.take (i)).toArray++Builtin.zeroCells (.int .i64 0:Value).cells (n+1 - i)++Builtin.zeroCells (.int .i64 0:Value).cells (grownCap w (n+1) c 3 - (n+1))) 3)):=λty=>by
  have h:=Lib.run_append_grow_zeros w 36 3 ty 3 i0 _ .i64 .i64 underlying36 underlying3 hi0 hz0 (some ⟨b,0,none⟩) i c (C.toList.take (i)) hold (n+1 - i) E E E E LN MC;exact Kr
 have hG:=grownCap_ge w (n+1) c 3;have hG63:grownCap w (n+1) c 3<=9223372036854775807:=by have:=grownCap_le_maxLen w (n+1) c 3 Mj;unfold maxLen at this;omega
 obtain⟨G,hGe⟩:∃G,G=grownCap w (n+1) c 3:=⟨_,rfl⟩;rw[<-hGe]at hrz hG hG63;obtain⟨R,hR⟩:∃R:Array Value,R=(C.toList.take (i)).toArray++Builtin.zeroCells (.int .i64 0:Value).cells (n+1 - i)++Builtin.zeroCells (.int .i64 0:Value).cells (G - (n+1)):=⟨_,rfl⟩;rw[<-hR]at hrz;have hRl:R.size=G:=Mq
 have hRC:∀j,j<i->R[j]? =C[j]? :=λj hj=>by rw[hR,jC Kg,jC az,mU,lg,ak hj];simp
 obtain⟨W1,hW1⟩:∃W1,W1=w.drew.alloc (.cells R 3):=⟨_,rfl⟩;rw[<-hW1]at hrz;have hN:W1.heap[w.heap.size]? =some (.cells R 3 (0,0)):=KZ
 have hO:∀k j v,k<w.heap.size->w.cell? ⟨k,j,none⟩=some v->W1.cell? ⟨k,j,none⟩=some v:=λk j v hk h=>Lq
 have hcpA:∀W:World,W.heap=W1.heap->∀ty dc,(Builtin.copy_ #[36,36] ty #[.slice (some ⟨w.heap.size,i,none⟩) (n+1 - i) dc,.slice (some ⟨vb,vo,none⟩) (1:Nat) vc]).run prog W= .ok (goInt (1:Nat)) (dA W w.heap.size (.cells (aI R.toList (i) x).toArray 3 (0,0))):=λW hW ty dc=>
  gn W _ _ ty 3 1 w.heap.size (i) (n+1 - i) dc ⟨vb,vo,none⟩ 1 vc 1 x underlying36 hsz pU xV
   (λj v hj=>Z5)
   L4 (λo _=>O) E h1
 obtain⟨M,hM⟩:∃M,M=C.toList.drop (i):=⟨_,rfl⟩;have hMl:M.length=(n - i):=Ks
 have OL:∀j:Nat,M[j]? =C[i+j]? :=λj=>by rw[hM,zn];simp
 obtain⟨W2,hW2⟩:∃W2,W2=dA W1 w.heap.size (.cells (aI R.toList (i) x).toArray 3 (0,0)):=⟨_,rfl⟩;have hlt1:w.heap.size<W1.heap.size:=RS
 have hN2:W2.heap[w.heap.size]? =some (.cells (aI R.toList (i) x).toArray 3 (0,0)):=KY
 have hcpB:∀W:World,W.heap=W2.heap->∀ty dc sc,(Builtin.copy_ #[36,36] ty #[.slice (some ⟨w.heap.size,(i+1),none⟩) (n - i) dc,.slice (some ⟨b,i,none⟩) (n - i) sc]).run prog W= .ok (goInt (n - i:Nat)) (dA W w.heap.size (.cells (aI (aI R.toList (i) x).toArray.toList ((i+1)) M).toArray 3 (0,0))):=λW hW ty dc sc=>
  gn W _ _ ty 3 1 w.heap.size ((i+1)) (n - i) dc ⟨b,i,none⟩ (n - i) sc (n - i) M underlying36 hsz pU jS
   (λj v hj=>by rw[dO,show W.cell? ⟨b,i+j,none⟩=W1.cell? ⟨b,i+j,none⟩ from fJ UX];exact U')
   Ma (λo _=>O) xS (λv hv=>Rq)
 have hfin:∀(W:World),W.heap=W2.heap->W.os=w.os->W.tape=w.tape->W.output=w.output->kc w (dA W w.heap.size (.cells (aI (aI R.toList (i) x).toArray.toList ((i+1)) M).toArray 3 (0,0))) n (i) 1 (n) C x (.returned (.slice (some ⟨w.heap.size,0,none⟩) (n+1) G)):=λW e1 e2 e3 e4=>by
  have hs:W.heap.size=w.heap.size+1:=R4
  refine⟨G,_,3,rfl,hG,⟨e2,e3,e4,po,λk hk _=> ?_⟩,po,dt _ _ _ E,?_,λj hj=> ?_⟩;exact RB;simp[aV,hRl];·exact N2 E hxl E jS (λj _=>OL j) hRC E j hj
 have hGi:¬(G=i):=E
 have hGim:¬(G=i+1):=E
 have hci:¬(c=i):=E
 have hw1:IntKind.i64.wrap ((i:Int)+1)=(i:Int)+1:=mQ
 have hw2:IntKind.i64.wrap ((n:Int)+1)=(n:Int)+1:=mQ
 have hw3:IntKind.i64.wrap ((n:Int)+1 - (i:Int))=(n:Int)+1 - (i:Int):=mQ
 have hb1:(0:Int)<=(i:Int)+1:=E
 have hin:i<=n:=E
 have htn:((i:Int)+1).toNat=i+1:=E
 have hb3:(i:Int)<=(n:Int):=E
 have WO:=hfin (dA (w.alloc (.cells R 3)).drew w.heap.size (.cells (aI R.toList (i) x).toArray 3)).drew xI rfl rfl rfl;rw[hM]at WO;have hfB:=hcpB (dA (w.alloc (.cells R 3)).drew w.heap.size (.cells (aI R.toList (i) x).toArray 3)).drew xI;clear hkk hik hold hGe hR hRl
 go_enter func409,ntmps409
 go_wp2_with (first
  |(at_builtin;refine Lib.wpList_append_run _ rfl _ _ _ _ rfl _ _ rfl rfl _ _ (hrz _) ?_)|(at_builtin;refine lQ _ rfl _ _ 36 36 rfl _ _ rfl rfl (hcpA _ rfl _ _) ?_))
 go_region_law (refine oJ rfl _ _ 36 36 rfl (.slice (some ⟨w.heap.size,(i+1),none⟩) (n - i) (G - (i+1))) (.slice (some ⟨b,i,none⟩) (n - i) (c - i)) kT kT (hfB 3 (G - (i+1)) (c - i)) ?_)
 go_wp2
 go_ret
 exact WO
end Abs
namespace Abs
open Go Go.Proofs Tryz
variable{G:Prop}
def E4(h:G:=by simp at hs;omega):=h
def LG(h:G:=by simpa using h5):=h
structure F_(P:Program)(f z by' :Nat):Prop where
 fn:∃fn,P.funcs[f]? =some fn∧fn.body.isNone=false∧(fn.name== "runtime.NumGoroutine")=false
 shift:∀(b n c i vb vo vc:Nat) (C:Array Value) (e:TypeId) (fz:Nat×Nat) (x:List Value) (w:World) (_:i<n) (_:n+1<=c) (_:n+1<=4611686018427387904)
  (_:w.heap[b]? =some (.cells C e fz)) (_:qT fz (C.size+1)) (_:c*z<=C.size) (_:vb≠b) (_:x.length=z)
  (_:∀j v,x[j]? =some v->w.cell? ⟨vb,vo+j,none⟩=some v) (_:∀v∈x,leaf v=true) (_:∀j v,j<n*z->C[j]? =some v->leaf v=true),Calls P f #[.slice (some ⟨b,0,none⟩) n c,.int .i64 i,.slice (some ⟨vb,vo,none⟩) (1:Nat) vc] w λr w' =>jB w w' b n c (i*z) z (n*z) C e fz x r
 Ta :∀(b n c vb vo vc:Nat) (C:Array Value) (e:TypeId) (fz:Nat×Nat) (x:List Value) (w:World) (_:n+1<=c)
  (_:w.heap[b]? =some (.cells C e fz)) (_:qT fz (C.size+1)) (_:c*z<=C.size) (_:x.length=z)
  (_:∀j v,x[j]? =some v->w.cell? ⟨vb,vo+j,none⟩=some v) (_:∀v∈x,leaf v=true),Calls P f #[.slice (some ⟨b,0,none⟩) n c,.int .i64 n,.slice (some ⟨vb,vo,none⟩) (1:Nat) vc] w λr w' =>jB w w' b n c (n*z) z (n*z) C e fz x r
 full:∀(base:Option Nat) (n c vb vo vc:Nat) (C:Array Value) (x:List Value) (w:World) (_:n<=c) (_:c<n+1) (_:(n+1)*by' <=140737488355328)
  (_:base=none->n=0) (_:C.size=n*z) (_:∀b,base=some b->∀(j:Nat) v,C[j]? =some v->w.cell? ⟨b,j,none⟩=some v) (_:x.length=z)
  (_:∀j v,x[j]? =some v->w.cell? ⟨vb,vo+j,none⟩=some v) (_:∀v∈x,leaf v=true),Calls P f #[.slice (base.map λb=>⟨b,0,none⟩) n c,.int .i64 n,.slice (some ⟨vb,vo,none⟩) (1:Nat) vc] w λr w' =>kc w w' n (n*z) z (n*z) C x r
 grow:∀(b n c i vb vo vc:Nat) (C:Array Value) (x:List Value) (w:World) (_:i<n) (_:n<=c) (_:c<n+1) (_:(n+1)*by' <=140737488355328)
  (_:C.size=n*z) (_:∀(j:Nat) v,C[j]? =some v->w.cell? ⟨b,j,none⟩=some v) (_:∀(j:Nat) v,C[j]? =some v->leaf v=true) (_:x.length=z)
  (_:∀j v,x[j]? =some v->w.cell? ⟨vb,vo+j,none⟩=some v) (_:∀v∈x,leaf v=true),Calls P f #[.slice (some ⟨b,0,none⟩) n c,.int .i64 i,.slice (some ⟨vb,vo,none⟩) (1:Nat) vc] w λr w' =>kc w w' n (i*z) z (n*z) C x r
def oA(es:List au)(i:Nat)(x:au):List au:=es.take i++x::es.drop i
def uo{es:List au}{i:Nat}(x:au)(h:i<=es.length):(oA es i x).length=es.length+1:=by unfold oA;exact az
def D4{es:List au}{i z:Nat}{x:au}(h:∀e∈es,(cells e).length=z)(hx:(cells x).length=z):∀e∈oA es i x,(cells e).length=z:=λe he=>by unfold oA at he;rcases dY.1 he with he|he;exact h e (pV he);rcases b_.1 he with rfl|he;exact hx;exact h e (M0 he)
def aed{es:List au}{i z:Nat}{x:au}(h:∀e∈es,(cells e).length=z)(hx:(cells x).length=z)(hi:i<=es.length)(j:Nat):nth ((oA es i x).flatMap cells) j=if j<i*z then nth (es.flatMap cells) j else if j<i*z+z then nth (cells x) (j - i*z)else nth (es.flatMap cells) (j - z):=by
 have hl:(es.take i).length=i:=rB
 have e0:=pP (es.take i) (es.drop i) (λe he=>h e (pV he));rw[CQ,hl]at e0;have e1:=pP (es.take i) (x::es.drop i) (λe he=>h e (pV he)) j;rw[hl]at e1;unfold oA;rw[e1];by_cases h1:j<i*z;rw[ak h1,ak h1,e0,ak h1];rw[Z h1,Z h1];have e2:=pP [x] (es.drop i) (sz:=z) (λe he=>by rw[gg.1 he];exact hx) (j - i*z);rw[List.singleton_append]at e2;rw[e2];simp only[tI,Nat.one_mul,mS,Bh,jV];by_cases h2:j<i*z+z;rw[ak E,ak h2];rw[Z E,Z h2,e0,Z E];congr 1;omega
def Dj{I:Nat->Nat->Option Value}{es:List au}{i z:Nat}{x:au}{C C' :Array Value}{xl:List Value}(h:∀e∈es,(cells e).length=z)(hx:(cells x).length=z)(hi:i<=es.length)(hC:∀(j:Nat) d,nth (es.flatMap cells) j=some d->∃v,C[j]? =some v∧bM I v d∧leaf v=true)(hX:∀(j:Nat) d,nth (cells x) j=some d->∃v,xl[j]? =some v∧bM I v d∧leaf v=true)(hC' :∀j,j<es.length*z+z->C'[j]? =HB C xl (i*z) z j):∀(j:Nat) d,nth ((oA es i x).flatMap cells) j=some d->∃v,C'[j]? =some v∧bM I v d∧leaf v=true:=λj d hd=>by have hj:=aH hd;rw[dS (D4 h hx),uo x hi,rF]at hj;rw[aed h hx hi]at hd;rw[hC' j hj];unfold HB;split at hd;rename_i h1;rw[ak h1];exact hC j d hd;rename_i h1;rw[Z h1];split at hd;rename_i h2;rw[ak h2];exact hX _ d hd;rename_i h2;rw[Z h2];exact hC _ d hd
def att{α:Type}(a b c:α):aW (aW (λ_=>none) 1000 (some a)) 1001 (some b)=aW (aW (aW (λ_=>none) 1000 (some c)) 1001 (some b)) 1000 (some a):=by funext k;by_cases h1:k=1000;subst h1;rw[aO _ _ _ _ aw,bw,bw];rw[aO _ 1000 _ _ h1];by_cases h2:k=1001;subst h2;rw[bw,bw];rw[aO _ _ _ _ h2,aO _ _ _ _ h1,aO _ _ _ _ h2,aO _ _ _ _ h1]
theorem aee{P:Program}{f z by' :Nat}(S:F_ P f z by')(hz:z≠0)(hby:8<=by')(es:List au)(x:au)(i:Nat)(hi:i<=es.length)(hbig:(es.length+1)*by' <=140737488355328):aj P f [.ref 1000 es.length,.int .i64 i,.ref 1001 1] ⟨[],[⟨z,true,es⟩,⟨z,true,[x]⟩]⟩ (.ref 1000 (es.length+1)) ⟨[],[⟨z,true,oA es i x⟩,⟨z,true,[x]⟩]⟩:=by
 refine⟨S.fn,λγ w vs hs hrep hm=> ?_⟩;obtain⟨v0,v1,v2,rfl⟩:∃a b c,vs= #[a,b,c]:=by
  refine⟨vs[0]' E4,vs[1]' E4,vs[2]' E4,?_⟩;apply Array.ext;exact qo;intro k h1 h2;have:k=0∨k=1∨k=2:=E4
  rcases this with rfl|rfl|rfl<;>rfl
 have r0:=hrep 0 v0 _ rfl rfl;have r1:=(hrep 1 v1 _ rfl rfl).gC;have r2:=hrep 2 v2 _ rfl rfl;subst r1;obtain⟨t,t1,t2,t3,rfl,t5,t6⟩:=hm.pA r0 (row:=⟨z,true,es⟩) rfl rfl;obtain⟨u,u1,u2,u3,rfl,u5,u6⟩:=hm.pA r2 (row:=⟨z,true,[x]⟩) rfl rfl;have tn:=t6.1 hz;have un:=u6.1 hz;have tO:=t6.2.o hz tn;have uO:=u6.2.o hz un;dsimp only at t2 t3 u2 u3 t5 u5;have hx:(cells x).length=z:=u5 x O;unfold jv at uO;cases hub:u.base with|none=>rw[hub]at uO;have:=uO.1;simp at this|some vb=>
 rw[hub]at uO;obtain⟨q1,q2,q3,c,e,fz,q4,q5,q6,q7,q8,q9⟩:=uO;dsimp only at q6 q9;simp only[mS,Bh,jV]at q9;have hu1:u.n=1:=u3;have hcz:z<=c.size:=by rw[hu1]at q1;have:=CP z q1;omega
 obtain⟨xl,hxl⟩:∃xl,xl=c.toList.take z:=⟨_,rfl⟩;have aeh:xl.length=z:=by rw[hxl,l7];exact az
 have hxc:∀(j:Nat) v,xl[j]? =some v->j<z∧c[j]? =some v:=λj v h=>by rw[hxl,lg]at h;split at h;rename_i hj;exact⟨hj,eQ⟩;cases h
 have hxs:∀j v,xl[j]? =some v->w.cell? ⟨vb,0+j,none⟩=some v:=λj v h=>by rw[eI];exact(ep q4).trans (hxc j v h).2
 have hX:∀(j:Nat) d,nth (cells x) j=some d->∃v,xl[j]? =some v∧bM γ.I v d∧leaf v=true:=λj d hd=>by obtain⟨v,v1,v2,v3,_⟩:=q9 j d hd;have hj:=aH hd;exact⟨v,by rw[hxl,lg,ak E];simpa using v1,v2,v3⟩
 have hx1:∀v∈xl,leaf v=true:=λv hv=>by obtain⟨j,hj⟩:=pW.1 hv;obtain⟨h1,h2⟩:=hxc j v hj;obtain⟨d,hd⟩:=bO (l:=cells x) (i:=j) E;obtain⟨v',v1,_,v3⟩:=hX j d hd;rw[hj]at v1;cases v1;exact v3
 have hu:u.value= .slice (some ⟨vb,0,none⟩) (1:Nat) u.cap:=by unfold Tv.value;rw[hub,hu1]
 rw[hu];have hne:∀b,t.base=some b->vb≠b:=λb hb e=>by subst e;exact absurd (hm.k_ 1000 1001 t u vb t1 u1 (.inl hb) (.inl hub)) aw
 have hsl:=D4 (i:=i) t5 hx;have hlen:=uo x hi;have fin:∀(b:Nat) (cap:Nat) (C' :Array Value) (e' :TypeId) (fz' :Nat×Nat) (w' :World),(t.base=some b∧cap=t.cap∨b=w.heap.size)->es.length+1<=cap->Frame w w' (λk=>k=b)->w'.heap[b]? =some (.cells C' e' fz')->qT fz' (C'.size+1)->cap*z<=C'.size->
  (∀(j:Nat) d,nth ((oA es i x).flatMap cells) j=some d->∃v,C'[j]? =some v∧bM γ.I v d∧leaf v=true)->
  ∃γ',Ext γ γ' ∧bD γ' (.slice (some ⟨b,0,none⟩) (es.length+1) cap) (.ref 1000 (es.length+1))∧Mem (Cx.of 0 γ.X w γ.I) γ' (init [] ⟨[],[⟨z,true,oA es i x⟩,⟨z,true,[x]⟩]⟩) w' :=by
  intro b cap C' e' fz' w' hb hcap hfr hblk hfree hC' hcells;have tV:∀j,γ.I b j=none:=λj=>by rcases hb with⟨hb,_⟩|rfl;unfold jv at tO;rw[hb]at tO;exact tO.2.2.2.choose_spec.choose_spec.choose_spec.2.2.2.2.1 rfl j;cases hj:γ.I w.heap.size j with|none=>rfl|some v=>exact absurd (hm.Il hj) (fQ _)
  have hmu:∀l,γ.mu l≠some b:=λl h=>by rcases hb with⟨hb,_⟩|rfl;unfold jv at tO;rw[hb]at tO;exact tO.2.2.1 l h;exact absurd (hm.vU h) (fQ _)
  have te:(Cx.of 0 γ.X w γ.I).dX b:=by rcases hb with⟨hb,_⟩|rfl;exact(t6.2.wc (.inl hb)).2.1;exact .inl (cJ _)
  have hx0:Ext γ (γ.row 1000 (Tv.pl z (es.length+1) (some b) cap)):=γ.pz (.inr ⟨t,t1,t2.symm,λe=>absurd (t2.symm.trans e) hz,.inl (by show t.n<es.length+1;omega)⟩);refine⟨_,hx0,.ref (Tv.pl z (es.length+1) (some b) cap) qD (cJ _) (λ_=>rfl) ⟨_,_,rfl⟩,?_⟩;refine(hm.names (s' :=init [] ⟨[],[⟨z,true,es⟩,⟨z,true,[x]⟩]⟩) rfl rfl).setRow (k:=1000) (r:=⟨z,true,oA es i x⟩) (t:=Tv.pl z (es.length+1) (some b) cap) hx0 rfl rfl (λ_ _=>rfl) (hfr.sub λk _ hk=> .inl (by rw[hk])) rfl hlen.symm hsl ?_ ?_ rfl (att _ _ _);refine⟨rfl,λ_ _=> ?_,λ_ e=>bK,λe=>absurd e hz,λe=>absurd e hz⟩;exact⟨hcap,te,hmu,C',e',fz',hblk,⟨λo ho=>hfree o E,λ_=>hfree⟩,hC',λj _=>tV j,λ_ j=>tV j,λj d hd=>aas⟩;intro k hk;have hk:=hk.plain rfl;cases hk;refine⟨λj y hj hy hyb=> ?_,λo v hv=>by have:γ.I b o=some v:=hv;rw[tV o]at this;cases this⟩;rcases hb with⟨hb,_⟩|rfl;exact hj (hm.k_ j 1000 y t b hy t1 hyb (.inl hb));exact absurd (hm.kK hy hyb).1 (fQ _)
 unfold jv at tO;cases htb:t.base with
 |none=>
  rw[htb]at tO;have he:es=[]:=tO.1;subst he;have hi0:i=0:=uN
  subst hi0;have ht:t.value= .slice ((none:Option Nat).map λb=>⟨b,0,none⟩) 0 0:=by unfold Tv.value;rw[htb];rfl
  rw[ht];refine Calls.mono (S.full none 0 0 vb 0 u.cap #[] xl w E E hbig (λ_=>rfl) O (λb h=>ie) aeh hxs hx1) λr w' hr=> ?_;obtain⟨G,c',e',rfl,g1,g2,g3,g4,g5,g6⟩:=hr.out;exact fin w.heap.size G c' e' (0,0) w' (.inr rfl) g1 (g2.sub λ_ _ h=>h.elim) g4 (λ_ _=>O) g5 (Dj t5 hx hi (C:= #[]) (λj d hd=>qC) hX (by simpa using g6))
 |some b=>
  rw[htb]at tO;obtain⟨p1,p2,p3,C,eC,fzC,p4,p5,p6,p7,p8,p9⟩:=tO;dsimp only at p5 p6 p9;have htn:t.n=es.length:=t3;have ht:t.value= .slice (some ⟨b,0,none⟩) es.length t.cap:=by unfold Tv.value;rw[htb,htn]
  rw[ht];have hfl:=dS t5;have hCs:∀(j:Nat) d,nth (es.flatMap cells) j=some d->∃v,C[j]? =some v∧bM γ.I v d∧leaf v=true:=λj d hd=>by obtain⟨v,a1,a2,a3,_⟩:=p9 j d hd;exact⟨v,a1,a2,a3⟩
  have Qh:∀j v,j<es.length*z->C[j]? =some v->leaf v=true:=λj v hj hv=>by obtain⟨d,hd⟩:=bO (l:=es.flatMap cells) (i:=j) E;obtain⟨v',a1,a2,a3⟩:=hCs j d hd;rw[hv]at a1;cases a1;exact a3
  have hn63:es.length+1<=4611686018427387904:=by have:=Nat.mul_le_mul_left (es.length+1) hby;omega
  have room:∀(r:Ending) (w' :World),jB w w' b es.length t.cap (i*z) z (es.length*z) C eC fzC xl r->es.length+1<=t.cap->∃v,r= .returned v∧∃γ',Ext γ γ' ∧bD γ' v (.ref 1000 (es.length+1))∧Mem (Cx.of 0 γ.X w γ.I) γ' (init [] ⟨[],[⟨z,true,oA es i x⟩,⟨z,true,[x]⟩]⟩) w' :=λr w' hr hc=>by obtain⟨C',g1,g2,g3⟩:=hr.wc;exact⟨_,hr.r,fin b t.cap C' eC fzC w' (.inl ⟨htb,rfl⟩) hc hr.fr g1 (by rw[g2];exact p5.2 rfl) (by rw[g2];exact p6) (Dj t5 hx hi hCs hX g3)⟩
  obtain⟨C0,hC0⟩:∃C0:Array Value,C0=(C.toList.take (es.length*z)).toArray:=⟨_,rfl⟩;have hle:es.length*z<=C.size:=by rw[<-htn];exact eW (CP z p1) p6
  have as2:C0.size=es.length*z:=by rw[hC0];exact az
  have ao4:∀j:Nat,C0[j]? =if j<es.length*z then C[j]? else none:=λj=>by rw[hC0,mU,lg];simp
  have as3:∀(j:Nat) v,C0[j]? =some v->w.cell? ⟨b,j,none⟩=some v:=λj v hv=>by rw[ao4]at hv;split at hv;exact(ep p4).trans hv;cases hv
  have auw:∀(j:Nat) d,nth (es.flatMap cells) j=some d->∃v,C0[j]? =some v∧bM γ.I v d∧leaf v=true:=λj d hd=>by obtain⟨v,a1,a2,a3⟩:=hCs j d hd;have:=aH hd;exact⟨v,by rw[ao4,ak E];exact a1,a2,a3⟩
  have full:∀(r:Ending) (w' :World),kc w w' es.length (i*z) z (es.length*z) C0 xl r->∃v,r= .returned v∧∃γ',Ext γ γ' ∧bD γ' v (.ref 1000 (es.length+1))∧Mem (Cx.of 0 γ.X w γ.I) γ' (init [] ⟨[],[⟨z,true,oA es i x⟩,⟨z,true,[x]⟩]⟩) w' :=λr w' hr=>by obtain⟨G,c',e',g0,g1,g2,g3,g4,g5,g6⟩:=hr.out;exact⟨_,g0,fin w.heap.size G c' e' (0,0) w' (.inr rfl) g1 (g2.sub λ_ _ h=>h.elim) g4 (λ_ _=>O) g5 (Dj t5 hx hi auw hX g6)⟩
  have pack:∀{r:Ending} {w' :World},(∃v,r= .returned v∧∃γ',Ext γ γ' ∧bD γ' v (.ref 1000 (es.length+1))∧Mem (Cx.of 0 γ.X w γ.I) γ' (init [] ⟨[],[⟨z,true,oA es i x⟩,⟨z,true,[x]⟩]⟩) w')->match r with| .returned v=>∃γ',Ext γ γ' ∧bD γ' v (.ref 1000 (es.length+1))∧Mem (Cx.of 0 γ.X w γ.I) γ' (init [] ⟨[],[⟨z,true,oA es i x⟩,⟨z,true,[x]⟩]⟩) w'| .panicked ch=>∃γ' q,Ext γ γ' ∧rT (.ref 1000 (es.length+1))=some q∧ch=qh q∧Mem (Cx.of 0 γ.X w γ.I) γ' (init [] ⟨[],[⟨z,true,oA es i x⟩,⟨z,true,[x]⟩]⟩) w'| .outgrown=>False:=λh=>by obtain⟨v,rfl,h⟩:=h;exact h
  by_cases hroom:es.length+1<=t.cap;by_cases hin:i<es.length;exact Calls.mono (S.shift b es.length t.cap i vb 0 u.cap C eC fzC xl w hin hroom hn63 p4 (p5.2 rfl) p6 (hne b htb) aeh hxs hx1 Qh) λr w' hr=>pack (room r w' hr hroom);have:i=es.length:=E;subst this;exact Calls.mono (S.Ta b es.length t.cap vb 0 u.cap C eC fzC xl w hroom p4 (p5.2 rfl) p6 aeh hxs hx1) λr w' hr=>pack (room r w' hr hroom);by_cases hin:i<es.length;exact Calls.mono (S.grow b es.length t.cap i vb 0 u.cap C0 xl w hin (by rw[<-htn];exact p1) E hbig as2 as3 (λj v hv=>by rw[ao4]at hv;split at hv;rename_i hj;exact Qh j v hj hv;cases hv) aeh hxs hx1) λr w' hr=>pack (full r w' hr);have:i=es.length:=E;subst this;exact Calls.mono (S.full (some b) es.length t.cap vb 0 u.cap C0 xl w (by rw[<-htn];exact p1) E hbig (λh=>ie) as2 (λb' hb' =>by cases hb';exact as3) aeh hxs hx1) λr w' hr=>pack (full r w' hr)
def P_:F_ prog 413 3 24 where
 fn:=⟨_,func413,aA,aA⟩
 shift:=N4
 Ta :=SR
 full:=HD
 grow:=P'
def P8:F_ prog 464 3 24 where
 fn:=⟨_,func464,aA,aA⟩
 shift:=N3
 Ta :=SQ
 full:=HC
 grow:=P9
def Qa:F_ prog 409 1 8 where
 fn:=⟨_,func409,aA,aA⟩
 shift b n c i vb vo vc C e fz x w h1 h2 h3 h4 h5 h6 h7 h8 h9 h10 h11:=by simpa using N5 b n c i vb vo vc C e fz x w h1 h2 h3 h4 h5 (by simpa using h6) h7 h8 h9 h10 (by simpa using h11)
 Ta b n c vb vo vc C e fz x w h1 h2 h3 h4 h5 h6 h7:=by simpa using SS b n c vb vo vc C e fz x w h1 h2 h3 (by simpa using h4) h5 h6 h7
 full base n c vb vo vc C x w h1 h2 h3 h4 h5 h6 h7 h8 h9:=by simpa using HE base n c vb vo vc C x w h1 h2 h3 h4 LG h6 h7 h8 h9
 grow b n c i vb vo vc C x w h1 h2 h3 h4 h5 h6 h7 h8 h9 h10:=by simpa using Qb b n c i vb vo vc C x w h1 h2 h3 h4 LG h6 h7 h8 h9 h10
def MQ:=@Bool.eq_false_iff
def R5(h:G:=by subst eN;rcases hh with⟨h1,h2,h3⟩|⟨h1,h2⟩;rw[h1,h3];rfl;rw[h1];exact fE (h2 hn)):=h
def RY(h:G:=by rcases hh with⟨h1,h2,h3⟩|⟨h1,h2⟩;exact absurd h2 hn;exact h1.symm):=h
def VG(h:G:=by simp only[e];simpa using h0):=h
def LI(h:G:=by simpa using h0):=h
def EN(h:G:=by exact fP.mk (atu eN eH) rfl):=h
def KQ(h:G:=by refine aM ?_;refine⟨⟨⟨r.i,(r.i+r.j) / 2⟩,⟨j1,by exact bu,by exact bu⟩⟩,hm',?_⟩;exact vQ):=h
def KO(h:G:=by refine aM ?_;refine⟨⟨⟨(r.i+r.j) / 2+1,r.j⟩,⟨by exact bu,j2,j3⟩⟩,hm',?_⟩;exact vQ):=h
def Kn(h:G:=by refine aM ?_;exact EN):=h
def TH(h:G:=by refine d_ hm Tryz.func348 (λ_=>true) [true] (λ_=>[]) (by exact aA) ?_;exact bp):=h
def TG(h:G:=by refine d_ hm Tryz.func358 (λ_=>true) [true] (λ_=>[]) (by exact aA) ?_;exact bp):=h
def TF(h:G:=by refine d_ hm Tryz.func431 (λ_=>true) [true] (λ_=>[]) (by exact aA) ?_;exact bp):=h
def Ik{α:Type}(c:α->Int)(l:List α):Prop:=∀i j (hi:i<l.length) (hj:j<l.length),i<j->c l[j]<=0->c l[i]<0
def posOf{α:Type}(c:α->Int):List α->Nat|[]=>0|x::l=>if c x<0 then posOf c l+1 else 0
def pO{α:Type}(c:α->Int):List α->Bool|[]=>false|x::l=>if c x<0 then pO c l else c x==0
theorem rR{α:Type}(c:α->Int):∀l:List α,posOf c l<=l.length|[]=>cJ _|x::l=>by unfold posOf;split;have:=rR c l;exact az;simp
def Ik.tail{α:Type}{c:α->Int}{x:α}{l:List α}(h:Ik c (x::l)):Ik c l:=λi j hi hj hij=>by have:=h (i+1) (j+1) az az E;exact mO
theorem BL{α:Type}{c:α->Int}:∀{l:List α},Ik c l->∀h (hh:h<l.length),c l[h]<0↔h<posOf c l
 |x::l,hm,0,hh=>by unfold posOf;split;rename_i hx;exact pj;rename_i hx;exact pj
 |x::l,hm,h+1,hh=>by
  have hh' :h<l.length:=by simpa using hh
  have ih:=BL hm.tail h hh';unfold posOf;split;rename_i hx;simp only[List.getElem_cons_succ];omega;rename_i hx;simp only[List.getElem_cons_succ];have:=hm 0 (h+1) O (by simpa using hh) E;simp at this;constructor;intro h2;exact absurd (this E) hx;intro h2;omega
theorem B9{α:Type}{c:α->Int}:∀{l:List α},(pO c l=true∧∃h:posOf c l<l.length,c l[posOf c l]=0)∨(pO c l=false∧∀h:posOf c l<l.length,c l[posOf c l]≠0)|[]=> .inr ⟨rfl,λh=>by simp at h⟩|x::l=>by unfold pO;by_cases hx:c x<0;have e:posOf c (x::l)=posOf c l+1:=(by rw[posOf,ak hx]);rw[ak hx];rcases B9 (c:=c) (l:=l)with⟨h1,h2,h3⟩|⟨h1,h2⟩;exact .inl ⟨h1,by rw[e];exact nE,by simp only[e];exact qv⟩;exact .inr ⟨h1,λh=>by simp only[e];simpa using h2 (by simpa[e]using h)⟩;have e:posOf c (x::l)=0:=(by rw[posOf,Z hx]);rw[Z hx];by_cases h0:c x=0;exact .inl ⟨by simp[h0],uK,VG⟩;exact .inr ⟨LI,λh=>VG⟩
structure BI where
 i:Nat
 j:Nat
def ahf{y:Int}(h1:0<=y)(h2:y<2^64):IntKind.u64.wrap y=y:=Lf
def Arith.Ja{x y:Int}{K:Int->Prop}(e:x=y)(h1:0<=y)(h2:y<2^64)(h:K y):Arith .u64 x K:=by subst e;exact⟨by rw[ahf h1 h2];exact h⟩
def aet(a:Nat):((a:Nat):Int).fdiv (2^(min (Int.toNat 1) IntKind.u64.bits))=((a / 2:Nat):Int):=by
 have:(2:Int)^(min (Int.toNat 1) IntKind.u64.bits)=2:=aw
 rw[this,Int.fdiv_eq_ediv_of_nonneg _ E];omega
def atu{a a' :Nat}{b b' :Bool}(h1:a=a')(h2:b=b'):au.bS [it a,bo b]=au.bS [it a',bo b']:=by rw[h1,h2]
def qb{α:Type}(c:α->Int)(x:α)(l:List α):List α:=if pO c l=true then l else l.take (posOf c l)++x::l.drop (posOf c l)
def HA{α:Type}(n:Nat)(x:α)(f:α->au)(l:List α):oA (l.map f) n (f x)=(l.take n++x::l.drop n).map f:=by unfold oA;simp
def asy(l:List Fd)(x:Fd)(hl:l.length<2^40)(hM:Ik (λy=>lB y x) l):aj prog 412 [.ref 1000 (l.map eP).length,eP x,.gD (.func 359) [] []] ⟨[],[⟨3,true,l.map eP⟩]⟩ (.bS [it (posOf (λy=>lB y x) l),bo (pO (λy=>lB y x) l)]) ⟨[],[⟨3,true,l.map eP⟩]⟩:=by
 have hp:=rR (λy=>lB y x) l;have hlen:(l.map eP).length=l.length:=O
 have hlt:=λh hh=>BL hM h hh;have hh:=B9 (c:=λy=>lB y x) (l:=l);generalize hN:posOf (λy=>lB y x) l=N at hp hlt hh ⊢;generalize pO (λy=>lB y x) l=H at hh ⊢;try dsimp only at hlt hh
 refine fo func412 ?_;refine run ?_;refine bF.mk ⟨[],aY.lp (λr:BI=>r.i<=N∧N<=r.j∧r.j<=l.length) (λr=>⟨[(9,it r.i),(10,it r.j)],[],[]⟩) (λr=>r.j - r.i) ⟨0,(l.map eP).length⟩ ⟨dM _,bu,bu⟩ ?_⟩;intro r hJ;have j1:=hJ.1;have j2:=hJ.2.1;have j3:=hJ.2.2;by_cases hr:r.i<r.j
 ·have b1:decide ((r.i:Int)<(r.j:Int))=true:=tB E;have e1:(r.i:Int)+(r.j:Int)=((r.i+r.j:Nat):Int):=by omega
  have e2:=aet (r.i+r.j);have hk:(r.i+r.j) / 2<l.length:=E
  have c1:=W_ l[(r.i+r.j) / 2] x;have hlt' :=hlt _ hk;by_cases hc:lB l[(r.i+r.j) / 2] x<0
  ·have b2:=tB hc;have hk2:=hlt'.1 hc;have hm' :r.j - ((r.i+r.j) / 2+1)<r.j - r.i:=by omega
   refine run ?_;refine Arith.Ja rfl E E ?_;refine run ?_;repeat((refine bt.map hk rfl ?_);refine run ?_)
   exact KO
  ·have b2:=fB hc;have hk2:¬(r.i+r.j) / 2<N:=λh=>hc (hlt'.2 h);have hm' :(r.i+r.j) / 2 - r.i<r.j - r.i:=by omega
   refine run ?_;refine Arith.Ja rfl E E ?_;refine run ?_;repeat((refine bt.map hk rfl ?_);refine run ?_)
   exact KQ
 ·have b1:decide ((r.i:Int)<(r.j:Int))=false:=fB E;have eN:r.i=N:=by omega
  by_cases hn:N<l.length
  ·have b2:decide ((r.i:Int)<((l.map eP).length:Nat))=true:=tB E;have hk:r.i<l.length:=by omega
   have c1:=W_ l[r.i] x;have eH:(lB l[r.i] x==0)=H:=R5
   refine run ?_;repeat((refine bt.map hk rfl ?_);refine run ?_)
   exact Kn
  have b2:decide ((r.i:Int)<((l.map eP).length:Nat))=false:=fB E;have eH:false=H:=RY
  refine run ?_;exact EN
def Yn(l:List Fd)(x:Fd)(hl:l.length<2^32)(hM:Ik (λy=>lB y x) l):aj prog 358 [.ref 1000 (l.map eP).length,eP x,.gD (.func 359) [] []] ⟨[],[⟨3,true,l.map eP⟩]⟩ (.ref 1000 ((qb (λy=>lB y x) x l).map eP).length) ⟨[],[⟨3,true,(qb (λy=>lB y x) x l).map eP⟩]⟩:=by have c1:=asy l x E hM;have hp:=rR (λy=>lB y x) l;unfold qb;by_cases h:pO (λy=>lB y x) l=true;rw[ak h];rw[h]at c1;generalize posOf (λy=>lB y x) l=N at c1 hp;exact TG;have h' :=MQ.2 h;rw[Z h];rw[h']at c1;have e:=HA (posOf (λy=>lB y x) l) x eP l;have el:=aL List.length e;rw[uo (eP x) qp]at el;have c2:=aee P_ aw aw (l.map eP) (eP x) (posOf (λy=>lB y x) l) qp az;rw[e]at c2;generalize posOf (λy=>lB y x) l=N at c1 c2 el ⊢;exact TG
def asx(l:List Pa)(x:Pa)(hl:l.length<2^40)(hM:Ik (λy=>fZ y x) l):aj prog 463 [.ref 1000 (l.map bQ).length,bQ x,.gD (.func 432) [] []] ⟨[],[⟨3,true,l.map bQ⟩]⟩ (.bS [it (posOf (λy=>fZ y x) l),bo (pO (λy=>fZ y x) l)]) ⟨[],[⟨3,true,l.map bQ⟩]⟩:=by
 have hp:=rR (λy=>fZ y x) l;have hlen:(l.map bQ).length=l.length:=O
 have hlt:=λh hh=>BL hM h hh;have hh:=B9 (c:=λy=>fZ y x) (l:=l);generalize hN:posOf (λy=>fZ y x) l=N at hp hlt hh ⊢;generalize pO (λy=>fZ y x) l=H at hh ⊢;try dsimp only at hlt hh
 refine fo func463 ?_;refine run ?_;refine bF.mk ⟨[],aY.lp (λr:BI=>r.i<=N∧N<=r.j∧r.j<=l.length) (λr=>⟨[(9,it r.i),(10,it r.j)],[],[]⟩) (λr=>r.j - r.i) ⟨0,(l.map bQ).length⟩ ⟨dM _,bu,bu⟩ ?_⟩;intro r hJ;have j1:=hJ.1;have j2:=hJ.2.1;have j3:=hJ.2.2;by_cases hr:r.i<r.j
 ·have b1:decide ((r.i:Int)<(r.j:Int))=true:=tB E;have e1:(r.i:Int)+(r.j:Int)=((r.i+r.j:Nat):Int):=by omega
  have e2:=aet (r.i+r.j);have hk:(r.i+r.j) / 2<l.length:=E
  have c1:=W8 l[(r.i+r.j) / 2] x;have hlt' :=hlt _ hk;by_cases hc:fZ l[(r.i+r.j) / 2] x<0
  ·have b2:=tB hc;have hk2:=hlt'.1 hc;have hm' :r.j - ((r.i+r.j) / 2+1)<r.j - r.i:=by omega
   refine run ?_;refine Arith.Ja rfl E E ?_;refine run ?_;repeat((refine bt.map hk rfl ?_);refine run ?_)
   exact KO
  ·have b2:=fB hc;have hk2:¬(r.i+r.j) / 2<N:=λh=>hc (hlt'.2 h);have hm' :(r.i+r.j) / 2 - r.i<r.j - r.i:=by omega
   refine run ?_;refine Arith.Ja rfl E E ?_;refine run ?_;repeat((refine bt.map hk rfl ?_);refine run ?_)
   exact KQ
 ·have b1:decide ((r.i:Int)<(r.j:Int))=false:=fB E;have eN:r.i=N:=by omega
  by_cases hn:N<l.length
  ·have b2:decide ((r.i:Int)<((l.map bQ).length:Nat))=true:=tB E;have hk:r.i<l.length:=by omega
   have c1:=W8 l[r.i] x;have eH:(fZ l[r.i] x==0)=H:=R5
   refine run ?_;repeat((refine bt.map hk rfl ?_);refine run ?_)
   exact Kn
  have b2:decide ((r.i:Int)<((l.map bQ).length:Nat))=false:=fB E;have eH:false=H:=RY
  refine run ?_;exact EN
def Ym(l:List Pa)(x:Pa)(hl:l.length<2^32)(hM:Ik (λy=>fZ y x) l):aj prog 431 [.ref 1000 (l.map bQ).length,bQ x,.gD (.func 432) [] []] ⟨[],[⟨3,true,l.map bQ⟩]⟩ (.ref 1000 ((qb (λy=>fZ y x) x l).map bQ).length) ⟨[],[⟨3,true,(qb (λy=>fZ y x) x l).map bQ⟩]⟩:=by have c1:=asx l x E hM;have hp:=rR (λy=>fZ y x) l;unfold qb;by_cases h:pO (λy=>fZ y x) l=true;rw[ak h];rw[h]at c1;generalize posOf (λy=>fZ y x) l=N at c1 hp;exact TF;have h' :=MQ.2 h;rw[Z h];rw[h']at c1;have e:=HA (posOf (λy=>fZ y x) l) x bQ l;have el:=aL List.length e;rw[uo (bQ x) qp]at el;have c2:=aee P8 aw aw (l.map bQ) (bQ x) (posOf (λy=>fZ y x) l) qp az;rw[e]at c2;generalize posOf (λy=>fZ y x) l=N at c1 c2 el ⊢;exact TF
def asz(l:List Int)(x:Int)(hl:l.length<2^40)(hM:Ik (λy=>jL y x) l):aj prog 408 [.ref 1000 (l.map it).length,it x,.gD (.func 349) [] []] ⟨[],[⟨1,true,l.map it⟩]⟩ (.bS [it (posOf (λy=>jL y x) l),bo (pO (λy=>jL y x) l)]) ⟨[],[⟨1,true,l.map it⟩]⟩:=by
 have hp:=rR (λy=>jL y x) l;have hlen:(l.map it).length=l.length:=O
 have hlt:=λh hh=>BL hM h hh;have hh:=B9 (c:=λy=>jL y x) (l:=l);generalize hN:posOf (λy=>jL y x) l=N at hp hlt hh ⊢;generalize pO (λy=>jL y x) l=H at hh ⊢;try dsimp only at hlt hh
 refine fo func408 ?_;refine run ?_;refine bF.mk ⟨[],aY.lp (λr:BI=>r.i<=N∧N<=r.j∧r.j<=l.length) (λr=>⟨[(9,it r.i),(10,it r.j)],[],[]⟩) (λr=>r.j - r.i) ⟨0,(l.map it).length⟩ ⟨dM _,bu,bu⟩ ?_⟩;intro r hJ;have j1:=hJ.1;have j2:=hJ.2.1;have j3:=hJ.2.2;by_cases hr:r.i<r.j
 ·have b1:decide ((r.i:Int)<(r.j:Int))=true:=tB E;have e1:(r.i:Int)+(r.j:Int)=((r.i+r.j:Nat):Int):=by omega
  have e2:=aet (r.i+r.j);have hk:(r.i+r.j) / 2<l.length:=E
  have c1:=QJ l[(r.i+r.j) / 2] x;have hlt' :=hlt _ hk;by_cases hc:jL l[(r.i+r.j) / 2] x<0
  ·have b2:=tB hc;have hk2:=hlt'.1 hc;have hm' :r.j - ((r.i+r.j) / 2+1)<r.j - r.i:=by omega
   refine run ?_;refine Arith.Ja rfl E E ?_;refine run ?_;repeat((refine bt.map hk rfl ?_);refine run ?_)
   exact KO
  ·have b2:=fB hc;have hk2:¬(r.i+r.j) / 2<N:=λh=>hc (hlt'.2 h);have hm' :(r.i+r.j) / 2 - r.i<r.j - r.i:=by omega
   refine run ?_;refine Arith.Ja rfl E E ?_;refine run ?_;repeat((refine bt.map hk rfl ?_);refine run ?_)
   exact KQ
 ·have b1:decide ((r.i:Int)<(r.j:Int))=false:=fB E;have eN:r.i=N:=by omega
  by_cases hn:N<l.length
  ·have b2:decide ((r.i:Int)<((l.map it).length:Nat))=true:=tB E;have hk:r.i<l.length:=by omega
   have c1:=QJ l[r.i] x;have eH:(jL l[r.i] x==0)=H:=R5
   refine run ?_;repeat((refine bt.map hk rfl ?_);refine run ?_)
   exact Kn
  have b2:decide ((r.i:Int)<((l.map it).length:Nat))=false:=fB E;have eH:false=H:=RY
  refine run ?_;exact EN
def Yo(l:List Int)(x:Int)(hl:l.length<2^32)(hM:Ik (λy=>jL y x) l):aj prog 348 [.ref 1000 (l.map it).length,it x,.gD (.func 349) [] []] ⟨[],[⟨1,true,l.map it⟩]⟩ (.ref 1000 ((qb (λy=>jL y x) x l).map it).length) ⟨[],[⟨1,true,(qb (λy=>jL y x) x l).map it⟩]⟩:=by have c1:=asz l x E hM;have hp:=rR (λy=>jL y x) l;unfold qb;by_cases h:pO (λy=>jL y x) l=true;rw[ak h];rw[h]at c1;generalize posOf (λy=>jL y x) l=N at c1 hp;exact TH;have h' :=MQ.2 h;rw[Z h];rw[h']at c1;have e:=HA (posOf (λy=>jL y x) l) x it l;have el:=aL List.length e;rw[uo (it x) qp]at el;have c2:=aee Qa aw aw (l.map it) (it x) (posOf (λy=>jL y x) l) qp az;rw[e]at c2;generalize posOf (λy=>jL y x) l=N at c1 c2 el ⊢;exact TH
end Abs
namespace Abs
open Go
variable{G:Prop}
def Gk:=@Array.getElem?_setIfInBounds
def U8(h:G:=by refine .inl (Oper.wp_mono (λa' w' ⟨⟨s',g',e1,e2,e3⟩,e4⟩=> ?_) hs);exact go e1 e2 e3 e4):=h
section
variable{P:Program}
def IF(w:World)(b:Nat)(o:Obj):World:={w with heap:=w.heap.setIfInBounds b o}
def ai8(w:World)(ty:TypeId)(bi bm since c0:Nat)(seen:Array Nat)(es:Array MapEntry)(clock:Nat)(hi:w.heap[bi]? =some (.mapIter (some bm) since seen c0))(hb:w.heap[bm]? =some (.map es clock))(hold:∀x∈es.toList,x.born<since)(hsc:since<=c0):((leftOf es seen).size=0∧(Instr.next (.pointer (some ⟨bi,0,none⟩)) false ty).run P w= .ok (.tuple #[.bool false]) w)∨∃e∈(leftOf es seen).toList,∃w1:World,(w1=w∨w1=w.drew)∧(Instr.next (.pointer (some ⟨bi,0,none⟩)) false ty).run P w= .ok (.tuple #[.bool true,e.key,e.val]) (IF w1 bi (.mapIter (some bm) since (seen.push e.born) clock)):=by
 simp only[Instr.next,getObj,Sem.run_bind,Sem.run,hi,hb,Result.andThen,next_test_false seen es since c0 hold hsc,uV,jZ];unfold leftOf;have hmem:∀x∈(Array.filter (λe=> !seen.contains e.born) es).toList,x.born<since:=λx hx=>hold x (by simp at hx ⊢;exact hx.1);generalize Array.filter (λe=> !seen.contains e.born) es=L at hmem ⊢;have e1:L.filter (λx=>decide (x.born<since))=L:=Array.filter_eq_self.2 (λx hx=>by simpa using hmem x pj);have e2:L.filter (λx=>decide (x.born>=since))= #[]:=by rw[Array.filter_eq_empty_iff];intro x hx;have:=hmem x pj;exact az
 simp only[e1,e2,Array.append_empty];by_cases h0:L.size=0;left;have:L= #[]:=Array.eq_empty_of_size_eq_zero h0;subst this;refine⟨rfl,?_⟩;simp[choose,Sem.run,Question.forced];right;have hne:L.isEmpty=false:=by simp[Array.isEmpty,h0]
 simp only[hne,uV,jZ,Array.empty_append,Array.size_map];have hch:∃(j:Nat) (w1:World),j<L.size∧(w1=w∨w1=w.drew)∧(choose (Question.mapNext L.size)).run P w= .ok j w1:=by by_cases hf:L.size<=1;exact⟨0,w,E,.inl rfl,by simp[choose,Sem.run,Question.forced,hf]⟩;exact⟨_,w.drew,A' _ E,.inr rfl,by simp only[choose,Sem.run,Question.forced,wu,hf,jZ,Question.cut];rfl⟩
 obtain⟨j,w1,hj,hal,hrun⟩:=hch;refine⟨L[j],O,w1,hal,?_⟩;have hi1:w1.heap[bi]? =some (.mapIter (some bm) since seen c0):=by rcases hal with rfl|rfl<;>exact hi
 have hset:∀(o' :Obj),(setObj bi o').run P w1= .ok () (IF w1 bi o'):=λo' =>by simp only[setObj,Sem.run];rw[hi1];rfl
 simp only[hrun,Array.getElem?_map,kJ hj,wq,Sem.run_bind,hset,Result.andThen];rfl
def af9(w:World)(bi bm since:Nat)(seen:Array Nat)(es:Array MapEntry)(clock:Nat)(e:MapEntry)(hi:w.heap[bi]? =some (.mapIter (some bm) since (seen.push e.born) clock))(hb:w.heap[bm]? =some (.map es clock))(he:e∈es.toList)(hn:(es.toList.map (·.born)).Nodup):(Instr.entry (.pointer (some ⟨bi,0,none⟩))).run P w= .ok (.tuple #[e.key,e.val]) w:=by
 have hf:es.find? (·.born==e.born)=some e:=by rw[<-Array.find?_toList];exact find_born e es.toList hn he
 simp only[Instr.entry,getObj,Sem.run_bind,Sem.run,hi,hb,Result.andThen,Array.back?_push,bne_self_eq_false,uV,jZ,hf];rfl
def iC{a:Act}{dst:Option Nat}{v:Value}{t:Nat}(h:dst≠some t):(a.put dst v).tmps[t]? =a.tmps[t]? :=by cases dst with|none=>rfl|some d=>have hd:d≠t:=λe=>h (by rw[e]);show(a.tmps.setIfInBounds d v)[t]? =_;rw[Gk,Z hd]
theorem VY{o:Oper}{a:Act}{w:World}{N:Act->World->Prop}{Q:Exit->Act->World->Prop}{t:Nat}(h:o.wp P a w N Q)(hd:o.dst≠some t):o.wp P a w (λa' w' =>N a' w' ∧a'.tmps[t]? =a.tmps[t]?) Q:=by
 unfold Oper.wp at*;generalize (execOp a.eval o).run P w=r at*;cases r with
 |ok x w' =>
  cases x with
  |value v=>exact⟨h,iC hd⟩|skip=>exact⟨h,iC hd⟩|defer d=>exact⟨h,iC (a:={a with defers:=d::a.defers}) hd⟩|enter f args=>refine Calls.mono h λe w2 he=> ?_;cases e with|returned v=>exact⟨he,iC hd⟩|panicked ch=>exact he|outgrown=>exact he
  |row r args=>exact Rows.mono h λv w2 he=>⟨he,iC hd⟩|_=>exact h
 |halt s w' =>cases s with|panic v=>exact h|_=>exact h
end
section
variable{P:Program}{c:mN}
theorem Jz{all:Array Oper}(hok:v8 P c){Q:Go.Exit->Act->World->Prop}{cx:Cx}{t:Nat}:∀(l:List Oper) (i:Nat) (_:∀k o,nth l k=some o->nth all.toList (i+k)=some o) (_:∀o∈l,lD o=false∧o.guard=none∧o.dst≠some t) (_:G2 P cx.n all=true) {s:St} {K:Out->St->Prop} {g:Gh} {a:Act} {w:World},eM P c all.toList l s K->Rel cx g s a w->(∀s' g' a' w',K .normal s' ->Ext g g' ->Rel cx g' s' a' w' ->a'.tmps[t]? =a.tmps[t]?->Q .normal a' w')->wpOps P all Q (List.range' i l.length) a w
 |[],i,_,_,hB,s,K,g,a,w,hk,h,hq=>hq s g a w hk (Ext.refl g) h rfl
 |o::l,i,hl,hc,hB,s,K,g,a,w,hk,h,hq=>by
  have ho:nth all.toList i=some o:=hl 0 o rfl;have ho' :all[i]? =some o:=AK
  have hb:opB P cx.n o=true:=Rl
  have hd:ji cx.n o.dst=true:=Lh
  have hl' :∀k o,nth l k=some o->nth all.toList (i+1+k)=some o:=λk o hk=>aap
  obtain⟨hcb,hgd,hdt⟩:=hc o (zo ..);rw[fw,MO,wpOps_cons];unfold wpOp;rw[ho'];dsimp only;rw[tu]at hk;rcases xh h hk with⟨h1,h2⟩|⟨h1,h2⟩
  rotate_left
  unfold Region.wanted at h1;rw[hgd]at h1;cases h1;rw[ak h1];have go:∀{s1:St} {g1:Gh} {a1:Act} {w1:World},eM P c all.toList l s1 K->Ext g g1->Rel cx g1 s1 a1 w1->a1.tmps[t]? =a.tmps[t]?->wpOps P all Q (List.range' (i+1) l.length) a1 w1:=λ{s1 g1 a1 w1} e1 e5 e6 e7=>Jz hok l (i+1) hl' (λo ho=>hc o (mT _ ho)) hB e1 e6 λs' g' a' w' k1 k4 k5 k6=>hq s' g' a' w' k1 (e5.trans k4) k5 (k6.trans e7);rcases JP h2 with⟨hcb',_⟩|⟨hcb',_⟩|hp|⟨es,ne,hp,hnil⟩|⟨hcb',_⟩
  rw[hcb]at hcb';cases hcb';rw[hcb]at hcb';cases hcb';replace hp:aC P c o.dst s (λs1=>norm o.dst (cu P o (cY P s)) s1 λs' =>eM P c all.toList l s' K) (cu P o (cY P s)):=hp.elim (·.1) (·.2);have hp' :=qX (K' :=λs1=>eM P c all.toList l s1 K) hp λs1 _ h1 h2=>ME
  have hs:=VY (Gr (Q:=Q) h hb hok.C hp') hdt;exact U8;obtain⟨op,t',x,y,t'',z,z2,e,n1,n2,n3,n4,n5⟩:=Jr hp;have cont:∀{d:au},norm o.dst (cu P o (cY P s)) (s.put o.dst d) (λs' =>eM P c all.toList l s' K)->eM P c all.toList l (s.put o.dst d) K:=λ{d} h=>by rw[norm_eq]at h;exact h
  have hs:=VY (vg (Q:=Q) (K:=λs1=>eM P c all.toList l s1 K) h hd n1 n2 n3 n4 n5 ⟨(λe=>bK),λ_ e=>cont (hnil.t e),λ_=> .inl (cont hnil.f)⟩) hdt;exact U8;rw[hcb]at hcb';cases hcb'
end
end Abs
namespace Abs
open Go Go.Proofs
variable{G:Prop}
def Nc:=@Array.getD_eq_getD_getElem?
def EY(h:G:=by cases h';rfl):=h
def cxl(n:Nat)(X:Nat->Prop)(w0:World)(I0:Nat->Nat->Option Value)(bi bm:Nat)(oi om:Obj):Cx where
 n:=n
 dX b:=(w0.heap.size<=b∨X b)∧b≠bi∧b≠bm
 I0:=I0
 D:=[]
 Fr _ w:=Frame w0 w X∧bi<w.heap.size∧bm<w.heap.size∧w.heap[bi]? =some oi∧w.heap[bm]? =some om
 st _ _ w w' h _ k _ _:=by obtain⟨h1,h2,h3,h4,h5⟩:=h;refine⟨⟨k.os.trans h1.os,k.tape.trans h1.tape,k.output.trans h1.output,eW h1.size k.size,λb hb hx=> ?_⟩,jm h2 k.size,jm h3 k.size,?_,?_⟩;exact(k.block b (jm hb h1.size) (λe=>by rcases e.1 with e|e;omega;exact hx e)).trans (h1.block b hb hx);exact(k.block bi h2 (λe=>e.2.1 rfl)).trans h4;exact(k.block bm h3 (λe=>e.2.2 rfl)).trans h5
def sR(es:List au):St:={env:=aW (λ_=>none) 3 (some (.ref 9 es.length)),H:=λ_=>none,hn:=[],R:=aW (λ_=>none) 9 (some ⟨1,true,es⟩),rn:=[9],y:= .off}
def Ss{es:List au}{t:Nat}{d:au}(h:(sR es).env t=some d):t=3∧d= .ref 9 es.length:=by have h' :aW (λ_=>none) 3 (some (au.ref 9 es.length)) t=some d:=h;unfold aW at h';cases hb:Nat.beq t 3 with|true=>rw[hb]at h';exact⟨dw hb,EY⟩|false=>rw[hb]at h';cases h'
def amo{es:List au}{k:Nat}{r:Row}(h:(sR es).R k=some r):k=9∧r=⟨1,true,es⟩:=by have h' :aW (λ_=>none) 9 (some (Row.mk 1 true es)) k=some r:=h;unfold aW at h';cases hb:Nat.beq k 9 with|true=>rw[hb]at h';exact⟨dw hb,EY⟩|false=>rw[hb]at h';cases h'
def Rel.only{cx:Cx}{g:Gh}{s:St}{a:Act}{w:World}(h:Rel cx g s a w){es:List au}(h3:s.env 3=some (.ref 9 es.length))(h9:s.R 9=some ⟨1,true,es⟩):∃g',g'.I=g.I∧Rel cx g' (sR es) a w:=by
 obtain⟨t,h1,h2,h4,h5,h6⟩:=h.mem.row 9 _ h9;refine⟨⟨g.I,λ_=>none,λk=>if k=9 then some t else none⟩,rfl,?_,h.size,h.defers,?_⟩;intro u d hd;obtain⟨rfl,rfl⟩:=Ss hd;have hr:=h.env 3 _ h3;obtain⟨t',ht',hn,hv,hx⟩:=hr.nS;rw[h1]at ht';cases ht';exact .ref t (show(if 9=9 then some t else none)=some t from ak rfl) hn hv hx;have m:=h.mem;refine⟨m.iw,λl d hd=>EP,λl b e=>bK,λl _ b e=>bK,λl b e=>bK,λk r hr=> ?_,λk u hu=> ?_,λk j t1 t2 b e1 e2=> ?_,m.kN,m.frame,m.new⟩;obtain⟨rfl,rfl⟩:=amo hr;refine⟨t,show(if 9=9 then some t else none)=some t from ak rfl,h2,h4,h5,h6.z,λhz hn=> ?_,h6.h,λhz=>absurd hz tG,λhz=>absurd hz tG⟩;have k:=h6.o hz hn;unfold jv at k ⊢;cases hb:t.base with|none=>rw[hb]at k;exact k|some b=>rw[hb]at k;obtain⟨k1,k2,k3,k4⟩:=k;exact⟨k1,k2,(λl e=>bK),k4⟩
 have hu' :(if k=9 then some t else none)=some u:=hu;split at hu';rename_i e;subst e;exact⟨⟨1,true,es⟩,rfl⟩;cases hu';intro _ _;have e1' :(if k=9 then some t else none)=some t1:=e1;have e2' :(if j=9 then some t else none)=some t2:=e2;split at e1';split at e2';omega;cases e2';cases e1'
def Rel.C8{cx:Cx}{g:Gh}{s:St}{a:Act}{w:World}(h:Rel cx g s a w){t:Nat}(ht:s.env t=none)(v:Value):Rel cx g s (a.put (some t) v) w:=by
 refine⟨λu d hd=> ?_,Mt,h.defers,h.mem⟩;have hu:u≠t:=λe=>by rw[e,ht]at hd;cases hd
 have:=h.env u d hd;rw[Nc]at this ⊢;rw[iC (a:=a) (dst:=some t) (v:=v) (t:=u) (λe=>hu (by cases e;rfl))];exact dj
def YM{w w1:World}{bi:Nat}{a1 a2 c1 c2:_}{seen seen' :Array Nat}{I:Nat->Nat->Option Value}(hc:Cells I w)(hi:w.heap[bi]? =some (.mapIter a1 c1 seen c2))(h1:w1.heap=w.heap):Cells I (IF w1 bi (.mapIter a1 c1 seen' a2)):=by intro b o v e;obtain⟨k1,k2⟩:=hc b o v e;refine⟨?_,k2⟩;by_cases hb:b=bi;subst hb;exfalso;obtain⟨_,_,_,h⟩:=sf k1 hi;cases h;rw[<-k1];refine fJ ?_;show(w1.heap.setIfInBounds bi _)[b]? =_;rw[Gk,Z (λe=>hb e.symm),h1]
def Rel.next{n:Nat}{X:Nat->Prop}{w0:World}{I0:Nat->Nat->Option Value}{bi bm:Nat}{om:Obj}{x1:Option Nat}{c1 c2 c3:Nat}{seen seen' :Array Nat}{g:Gh}{s:St}{a:Act}{w w1:World}(h:Rel (cxl n X w0 I0 bi bm (.mapIter x1 c1 seen c2) om) g s a w)(hw:w1=w∨w1=w.drew)(hb0:w0.heap.size<=bi)(hne:bm≠bi):Rel (cxl n X w0 I0 bi bm (.mapIter x1 c1 seen' c3) om) g s a (IF w1 bi (.mapIter x1 c1 seen' c3)):=by
 obtain⟨f1,f2,f3,f4,f5⟩:=h.mem.frame;have hh:w1.heap=w.heap:=by rcases hw with rfl|rfl<;>rfl
 have hsz:(IF w1 bi (.mapIter x1 c1 seen' c3)).heap.size=w.heap.size:=by show(w1.heap.setIfInBounds bi _).size=_;rw[Array.size_setIfInBounds,hh]
 have hoth:∀b,b≠bi->(IF w1 bi (.mapIter x1 c1 seen' c3)).heap[b]? =w.heap[b]? :=λb hb=>by show(w1.heap.setIfInBounds bi _)[b]? =_;rw[Gk,Z (λe=>hb e.symm),hh]
 have hself:(IF w1 bi (.mapIter x1 c1 seen' c3)).heap[bi]? =some (.mapIter x1 c1 seen' c3):=by show(w1.heap.setIfInBounds bi _)[bi]? =_;rw[Gk,ak rfl,ak (by rw[hh];exact f2)]
 have fr:Frame w0 (IF w1 bi (.mapIter x1 c1 seen' c3)) X:=by refine⟨?_,?_,?_,by rw[hsz];exact f1.size,λb hb hx=> ?_⟩;rcases hw with rfl|rfl<;>exact f1.os;rcases hw with rfl|rfl<;>exact f1.tape;rcases hw with rfl|rfl<;>exact f1.output;rw[hoth b E];exact f1.block b hb hx
 have m:=h.mem.after (gX :=cxl n X w0 I0 bi bm (.mapIter x1 c1 seen' c3) om) (w' :=IF w1 bi (.mapIter x1 c1 seen' c3)) (I' :=g.I) (λ_ _ _ e=>e) (YM h.mem.iw f4 hh) (λb _ hb=>hoth b hb.2.1) (λb o v e _ _=>e) (λb _ hb=>hb) h.mem.kN ⟨fr,by rw[hsz];exact f2,by rw[hsz];exact f3,hself,by rw[hoth bm hne];exact f5⟩ (λb hb=>h.mem.new b (by rw[hsz]at hb;exact hb));exact⟨h.env,h.size,h.defers,m⟩
end Abs
namespace Abs
open Go Go.Proofs Tryz
def lX{β:Type}:Mp β->List Int|[]=>[]|some (k,_)::r=>k::lX r|none::r=>lX r
theorem oR{β:Type}:∀(a b:Mp β),lX (a++b)=lX a++lX b|[],_=>rfl|some (k,_)::r,b=>by simp only[yl,lX,oR r b]|none::r,b=>by simp only[yl,lX,oR r b]
def pH(u:Mp Bool):List Int:=(lX u).mergeSort λx y=>decide (x<=y)
def qa(e:MapEntry):Int:=match e.key with| .int _ n=>n|_=>0
theorem wY{I:Nat->Nat->Option Value}:∀(u:Mp Bool) (es:List MapEntry),ik I es (u.map (sO bo))->es.map qa=lX u∧∀e∈es,e.key= .int .i64 (qa e)
 |[],es,h=>by cases h;exact⟨rfl,λe he=>(by cases he)⟩|none::r,es,h=>by cases h with|del h=>exact wY r es h
 |some (k,v)::r,es,h=>by
  cases h with
  | @cons e es _ _ _ _ hk hv h=>
    obtain⟨h1,h2⟩:=wY r es h
    have hke:qa e=k:=by unfold qa;rw[hk]
    refine⟨by rw[oD,h1,hke];rfl,λx hx=> ?_⟩
    rcases b_.1 hx with rfl|hx
    ·rw[hke];exact hk
    ·exact h2 x hx
def R_{u:Mp Bool}{xs:List Int}(h:xs.Perm (lX u)):(xs.mergeSort λx y=>decide (x<=y))=pH u:=by
 have tr:∀a b c:Int,decide (a<=b)=true->decide (b<=c)=true->decide (a<=c)=true:=λa b c h1 h2=>by simp at*;omega
 have tot:∀a b:Int,(decide (a<=b)||decide (b<=a))=true:=λa b=>az
 refine List.Perm.eq_of_pairwise (le:=λx y=>decide (x<=y)=true) (λa b _ _ h1 h2=>by simp at*;omega) (List.pairwise_mergeSort tr tot xs) (List.pairwise_mergeSort tr tot _) ?_;exact(List.mergeSort_perm xs _).trans (h.trans (List.mergeSort_perm _ _).symm)
def xD(es:List MapEntry)(seen:Array Nat)(ys:List MapEntry):Prop:=∃rest,(ys++rest).Perm es∧∀e∈rest,seen.contains e.born=false
def xD.nil(es:List MapEntry):xD es #[] []:=⟨es,.refl _,λe _=>O⟩
theorem xD.push{es:Array MapEntry}{seen:Array Nat}{ys:List MapEntry}(h:xD es.toList seen ys)(hn:(es.toList.map (·.born)).Nodup)(hs:∀y∈ys,seen.contains y.born=true){e:MapEntry}(he:e∈(leftOf es seen).toList):xD es.toList (seen.push e.born) (ys++[e])∧∀y∈ys++[e],(seen.push e.born).contains y.born=true:=by
 obtain⟨rest,h1,h2⟩:=h;obtain⟨k1,k2⟩:=mem_left he;have hr:e∈rest:=by rcases dY.1 (h1.mem_iff.2 k1)with h|h;rw[hs e h]at k2;cases k2;exact h
 obtain⟨r1,r2,rfl⟩:=List.append_of_mem hr;have nd:((ys++(r1++e::r2)).map (·.born)).Nodup:=(List.Perm.nodup_iff (h1.map _)).2 hn;refine⟨⟨r1++r2,?_,λx hx=> ?_⟩,λy hy=> ?_⟩;rw[rH];have pm:(e::(r1++r2)).Perm (r1++e::r2):=(List.perm_middle (a:=e) (l₁:=r1) (l₂:=r2)).symm;exact(List.Perm.append_left ys pm).trans h1;rw[contains_push,MZ];refine⟨h2 x ?_,?_⟩;rcases dY.1 hx with h|h;exact CO _ h;exact zt _ (mT _ h);rw[beq_eq_false_iff_ne];intro hb;rw[eu,wt]at nd;have nd2:=nd.2.1;rw[eu,oD,wt,uR]at nd2;rcases dY.1 hx with h|h;exact nd2.2.2 _ (dV.2 ⟨x,h,rfl⟩) _ (zo ..) hb;exact nd2.2.1.1 (dV.2 ⟨x,h,hb⟩);rw[contains_push];rcases dY.1 hy with h|h;rw[hs y h];rfl;rw[gg.1 h];simp
def xD.all{es:Array MapEntry}{seen:Array Nat}{ys:List MapEntry}(h:xD es.toList seen ys)(h0:(leftOf es seen).size=0):ys.Perm es.toList:=by obtain⟨rest,h1,h2⟩:=h;have:=all_seen es seen h0;cases rest with|nil=>exact gK|cons e r=>have k:=this e (h1.mem_iff.1 O);rw[h2 e O]at k;cases k
def au3{P:Program}{ops:Array Oper}{Q:Go.Exit->Act->World->Prop}{i:Nat}{rest:List Nat}{a:Act}{w w' :World}{o:Oper}{v:Value}(ho:ops[i]? =some o)(hg:o.guard=none)(hr:(execOp a.eval o).run P w= .ok (.value v) w')(k:wpOps P ops Q rest (a.put o.dst v) w'):wpOps P ops Q (i::rest) a w:=by
 unfold wpOps;rw[ho];dsimp only;have h1:Region.wanted o (yielded ops a.tmps)=true:=by unfold Region.wanted;rw[hg]
 rw[ak h1];refine .inl ?_;unfold Oper.wp;rw[hr];exact k
def yx{P:Program}{ops:Array Oper}{Q:Go.Exit->Act->World->Prop}{a:Act}{w:World}(h:Q .normal a w):wpOps P ops Q [] a w:=h
def zF{next:Act->World->Prop}{Q:Go.Exit->Act->World->Prop}{a:Act}{w:World}(h:next a w):Go.Exit.then next Q .normal a w:=h
def av6:mN:=cfA prog (λn=>Nat.beq n 218) (λ_=>[])
def akz:v8 prog av6:=⟨λ_ _ _ _ _ h=>h,λ_ _ _ _ h=>False.elim h,λ_ _ h=>h⟩
def pE{a:Act}{t:Nat}{v:Value}(h:a.tmps[t]? =some v):a.eval (.tmp t)=v:=by show a.tmps.getD t undef=v;rw[Nc,h];rfl
def putAt{a:Act}{t:Nat}{v:Value}(h:t<a.tmps.size):(a.put (some t) v).tmps[t]? =some v:=by show(a.tmps.setIfInBounds t v)[t]? =_;rw[Gk,ak rfl,ak h]
def qG{a:Act}{d:Option Nat}{v:Value}:(a.put d v).tmps.size=a.tmps.size:=by cases d<;>simp[Act.put]
end Abs
namespace Abs
open Go Go.Proofs
variable{G:Prop}
def RJ(h:G:=by simp[execOp,h,hr,Result.andThen]):=h
section
variable{P:Program}{a:Act}{o:Oper}{w:World}
def Dr{x:Operand}(h:o.op= .assign x):(execOp a.eval o).run P w= .ok (.value (a.eval x)) w:=by simp[execOp,h]
def aj7{x:Operand}(h:o.op= .move x):(execOp a.eval o).run P w= .ok (.value (a.eval x)) w:=by simp[execOp,h]
def af6{t:TypeId}{x:Operand}(h:o.op= .range t x){v:Value}{w' :World}(hr:(Instr.range t (a.eval x)).run P w= .ok v w'):(execOp a.eval o).run P w= .ok (.value v) w' :=RJ
def WX{x:Operand}{b:Bool}(h:o.op= .next x b){v:Value}{w' :World}(hr:(Instr.next (a.eval x) b o.type).run P w= .ok v w'):(execOp a.eval o).run P w= .ok (.value v) w' :=RJ
def af7{x:Operand}(h:o.op= .entry x){v:Value}{w' :World}(hr:(Instr.entry (a.eval x)).run P w= .ok v w'):(execOp a.eval o).run P w= .ok (.value v) w' :=RJ
def Ag{x:Operand}{i:Nat}(h:o.op= .extract x i){vs:Array Value}{v:Value}(hx:a.eval x= .tuple vs)(hv:vs[i]? =some v):(execOp a.eval o).run P w= .ok (.value v) w:=by
 have hr:(Instr.extract (a.eval x) i).run P w= .ok v w:=by rw[hx];simp[Instr.extract,hv]
 simp[execOp,h,hr,Result.andThen]
end
def G1{P:Program}{ops:Array Oper}{Q:Go.Exit->Act->World->Prop}{i:Nat}{rest:List Nat}{a:Act}{w w' :World}{o:Oper}{v:Value}{t:Nat}(ho:ops[i]? =some o)(hg:o.guard=none)(hd:o.dst=some t)(hr:(execOp a.eval o).run P w= .ok (.value v) w')(k:∀a',a' =a.put (some t) v->wpOps P ops Q rest a' w'):wpOps P ops Q (i::rest) a w:=au3 ho hg hr (k _ (by rw[hd]))
def Pp{P:Program}{c:mN}{id:Nat}{ops:Array Oper}(hok:v8 P c){Q:Go.Exit->Act->World->Prop}{cx:Cx}{t:Nat}(hc:ops.toList.all (λo=> !lD o&&o.guard.isNone&&o.dst !=some t)=true)(hB:G2 P cx.n ops=true){s:St}{K:Out->St->Prop}{g:Gh}{a:Act}{w:World}(hx:eM P c ops.toList ops.toList s K)(h:Rel cx g s a w)(hq:∀s' g' a' w',K .normal s' ->Ext g g' ->Rel cx g' s' a' w' ->a'.tmps[t]? =a.tmps[t]?->Q .normal a' w'):(Code.region id ops false).wp P Q a w:=by refine wp_region ?_;rw[List.range_eq_range',<-rJ];refine Jz hok ops.toList 0 (λk o h=>by rw[eI];exact h) (λo ho=> ?_) hB hx h hq;rw[jW]at hc;have:=hc o ho;simp only[aX,mR,bne_iff_ne,Option.isNone_iff_eq_none]at this;exact⟨this.1.1,this.1.2,this.2⟩
def sW(es:List au)(r:Row):St:={env:=aW (λ_=>none) 3 (some (.ref 9 es.length)),H:=λ_=>none,hn:=[],R:=aW (aW (λ_=>none) 1000 (some r)) 9 (some ⟨1,true,es⟩),rn:=[1000,9],y:= .off}
def aq3{es:List au}{r0:Row}{k:Nat}{r:Row}(h:(sW es r0).R k=some r):(k=9∧r=⟨1,true,es⟩)∨(k=1000∧r=r0):=by have h' :aW (aW (λ_=>none) 1000 (some r0)) 9 (some (Row.mk 1 true es)) k=some r:=h;unfold aW at h';cases hb:Nat.beq k 9 with|true=>rw[hb]at h';exact .inl ⟨dw hb,EY⟩|false=>rw[hb]at h';cases hb2:Nat.beq k 1000 with|true=>rw[hb2]at h';exact .inr ⟨dw hb2,EY⟩|false=>rw[hb2]at h';cases h'
def Rel.whole{n:Nat}{γ g:Gh}{w0 w:World}{bi bm:Nat}{oi:Obj}{es0:Array MapEntry}{clock:Nat}{ds es:List au}{a:Act}{t:Tv}(h:Rel (cxl n γ.X w0 γ.I bi bm oi (.map es0 clock)) g (sR es) a w)(hm:∀l b,γ.mu l≠some b)(ht:γ.tv 1000=some t)(ho:∀k t',γ.tv k=some t' ->k=1000)(hz:t.sz=0∧t.nest=false)(hn:t.n=ds.length)(hb:t.base=some bm)(hds:∀e∈ds,(cells e).length=0)(hI:ku γ.I g.I)(hmo:Q7 γ.I es0.toList clock ds):∃g',Ext γ g' ∧Rel (Cx.of n γ.X w0 γ.I) g' (sW es ⟨0,true,ds⟩) a w:=by
 have m:=h.mem;have SD:∀l b,g.mu l≠some b:=λl b e=>by obtain⟨d,hd⟩:=m.gx l b e;cases hd
 have f:=m.frame;have tv9:∀k t',g.tv k=some t' ->k=9:=λk t' e=>by obtain⟨r,hr⟩:=m.gE k t' e;exact(amo hr).1
 have bX:γ.X bm:= .inr ⟨1000,t,ht,.inl hb⟩;have bI:∀j,g.I bm j=none:=λj=>by cases e:g.I bm j with|none=>rfl|some v=>obtain⟨_,_,_,k⟩:=sf (m.iw bm j v e).1 f.2.2.2.2;cases k
 have t1:∀k,k≠1000->aW g.tv 1000 (some t) k=g.tv k:=λk hk=>aO _ _ _ _ hk;refine⟨{g with tv:=aW g.tv 1000 (some t)},⟨hI,λl b e=>absurd e (hm l b),λk t' e=> ?_⟩,?_,h.size,h.defers,?_⟩;have:=ho k t' e;subst this;rw[ht]at e;cases e;exact⟨t,show aW g.tv 1000 (some t) 1000=some t from bw _ _ _,.refl t⟩;intro u d hd;have hd' :(sR es).env u=some d:=hd;obtain⟨rfl,rfl⟩:=Ss hd';obtain⟨t',ht',h1,h2,h3⟩:=(h.env 3 _ hd').nS;exact .ref t' ((t1 9 aw).trans ht') h1 h2 h3;refine⟨m.iw,λl d hd=>EP,λl b e=>absurd e (SD l b),λl _ b e=>absurd e (SD l b),λl b e=>absurd e (SD l b),λk r hr=> ?_,λk u hu=> ?_,λk j u1 u2 b e1 e2 b1 b2=> ?_,λb o v e=>(m.kN b o v e).imp id (λq=>q.1),f.1,λb hb=> .inl (eW f.1.size hb)⟩;rcases aq3 hr with⟨rfl,rfl⟩|⟨rfl,rfl⟩;obtain⟨t',k1,k2,k3,k4,k5⟩:=m.row 9 ⟨1,true,es⟩ rfl;refine⟨t',(t1 9 aw).trans k1,k2,k3,k4,?_⟩;refine jk.dX (cx:=cxl n γ.X w0 γ.I bi bm oi (.map es0 clock)) (λb _ q=>q.1) ?_;exact @jk.adj _ g {g with tv:=aW g.tv 1000 (some t)} w w t' _ (λ_ _ _ e=>e) (λb hb=>⟨rfl,λl=>SD l b,λ_=>rfl⟩) k5;refine⟨t,show aW g.tv 1000 (some t) 1000=some t from bw _ _ _,hz.1,hn,hds,hz.1,λq=>absurd rfl q,λq=>absurd rfl q,λ_ _=>⟨rfl,bm,es0,clock,hb,.inr bX,λl=>SD l bm,bI,f.2.2.2.2,hmo.rep.mono hI,hmo.lt,hmo.nd⟩,λ_ e=> ?_⟩;rw[hz.2]at e;cases e;have hu' :aW g.tv 1000 (some t) k=some u:=hu;by_cases hk:k=1000;subst hk;exact nF;rw[t1 k hk]at hu';have:=tv9 k u hu';subst this;exact nF;have e1' :aW g.tv 1000 (some t) k=some u1:=e1;have e2' :aW g.tv 1000 (some t) j=some u2:=e2;have key:∀{u:Tv},g.tv 9=some u->u.wj bm->False:=λ{u} hu hb=>(m.kK hu hb).2.1.2.2 rfl;have aqu:∀{b:Nat},t.wj b->b=bm:=λ{b} hb' =>by rcases hb' with e|⟨_,e,_⟩;rw[hb]at e;cases e;rfl;rw[hz.2]at e;cases e
 by_cases hk:k=1000<;>by_cases hj:j=1000;omega;subst hk;rw[bw]at e1';cases e1';rw[t1 j hj]at e2';have:=tv9 j u2 e2';subst this;rw[aqu b1]at b2;exact(key e2' b2).elim;subst hj;rw[bw]at e2';cases e2';rw[t1 k hk]at e1';have:=tv9 k u1 e1';subst this;rw[aqu b2]at b1;exact(key e1' b1).elim;rw[t1 k hk]at e1';rw[t1 j hj]at e2';rw[tv9 k u1 e1',tv9 j u2 e2']
end Abs
namespace Abs
open Go Go.Proofs Tryz
variable{G:Prop}
def Vy(h:G:=by rw[pE q6];exact hrun):=h
def xO(h:G:=by exact putAt (by omega)):=h
def T4(h:G:=by have:=Da r;simp only[lX,fw];omega):=h
def af5{N:Act->World->Prop}{M M' :Act->World->Prop}{Q:Go.Exit->Act->World->Prop}{a:Act}{w:World}(h:N a w):Go.Exit.then M' (Go.Exit.then M (Go.Exit.inBlock 0 (Go.Exit.then N Q))) (.exit 0) a w:=by show Go.Exit.inBlock 0 (Go.Exit.then N Q) (.exit 0) a w;simp only[Go.Exit.inBlock,jX];exact h
def Da{β:Type}:∀u:Mp β,(lX u).length<=u.length|[]=>cJ _|some (k,v)::r=>by exact T4|none::r=>T4
def Sk(u:Mp Bool):∀e∈u.map (sO bo),(cells e).length=0:=λe he=>by obtain⟨x,_,rfl⟩:=dV.1 he;cases x with|none=>rfl|some p=>rfl
def aq2(es:List au)(r:Row):Nm (sW es r):=by refine⟨λl hl=>absurd rfl hl,λk hk=> ?_⟩;cases h:(sW es r).R k with|none=>exact absurd h hk|some x=>rcases aq3 h with⟨rfl,_⟩|⟨rfl,_⟩;exact mT _ (zo ..);exact zo ..
def SM(u:Mp Bool)(hl:u.length<=2^30)(γ:Gh)(w0:World)(bm:Nat)(t:Tv)(es:Array MapEntry)(clock:Nat)(hmem:Mem (Cx.of 0 γ.X w0 γ.I) γ (init [.dQ 1000] ⟨[],[oQ u]⟩) w0)(ht:γ.tv 1000=some t)(hz:t.sz=0∧t.nest=false)(hn:t.n=(u.map (sO bo)).length)(hb:t.base=some bm)(hes:w0.heap[bm]? =some (.map es clock))(hmo:Q7 γ.I es.toList clock (u.map (sO bo))):Calls prog 407 #[.map (some bm)] w0 λe w' =>match e with| .returned v=>∃γ',Ext γ γ' ∧bD γ' v (ints (pH u))∧Mem (Cx.of 0 γ.X w0 γ.I) γ' (init [] ⟨[],[oQ u]⟩) w' |_=>False:=by
 have SD:∀l b,γ.mu l≠some b:=λl b e=>by obtain⟨d,hd⟩:=hmem.gx l b e;cases hd
 have only:∀k t',γ.tv k=some t' ->k=1000:=λk t' e=>by obtain⟨r,hr⟩:=hmem.gE k t' e;have hr' :mJ [oQ u] 1000 (λ_=>none) k=some r:=hr;rw[zO]at hr';split at hr';rename_i hle;have:=aH hr';simp at this;omega;cases hr'
 have hbl:bm<w0.heap.size:=cI hes;obtain⟨hkeys,hkey⟩:=wY u es.toList hmo.rep;refine calls_of_wp (fn:=f407) func407 rfl ?_;have z0:∃a0:Act,a0={tmps:= #[.map (some bm)]++Array.replicate (f407.ntmps - #[Value.map (some bm)].size) undef,defers:=[]}∧a0.tmps.size=18∧a0.tmps[0]? =some (.map (some bm))∧a0.defers=[]:=⟨_,rfl,rfl,rfl,rfl⟩;obtain⟨a0,e0,s0,t0,d0⟩:=z0;rw[<-e0];clear e0;have hrange:(Instr.range 470 (.map (some bm))).run prog w0= .ok (.pointer (some ⟨w0.heap.size,0,none⟩)) (w0.alloc (.mapIter (some bm) clock #[] clock)):=run_range_map w0 470 3 4 bm es clock aA hes;refine wp_seq (wp_region (G1 rfl rfl rfl (Dr rfl) λa1 h1=>yx (zF ?_)));refine wp_seq (wp_region (G1 rfl rfl rfl (Dr rfl) λa2 h2=>yx (zF ?_)));have f1:a1.tmps.size=18:=by rw[h1,qG];exact s0
 have f2:a2.tmps.size=18:=by rw[h2,qG];exact f1
 have g2:a2.tmps[0]? =some (.map (some bm)):=by rw[h2,iC aw,h1,iC aw];exact t0
 have g3:a2.tmps[3]? =some (.slice none 0 0):=by rw[h2,putAt E];rfl
 refine wp_seq (wp_seq (wp_region (G1 rfl rfl rfl (aj7 rfl) λa3 h3=> ?_)));have h3' :a3=a2.put (some 5) (.map (some bm)):=by rw[h3,pE g2]
 have f3:a3.tmps.size=18:=by rw[h3',qG];exact f2
 have g5:a3.tmps[5]? =some (.map (some bm)):=by rw[h3',putAt E]
 refine G1 rfl rfl rfl (af6 rfl (by rw[pE g5];exact hrange)) λa4 h4=>yx (zF ?_);have f4:a4.tmps.size=18:=by rw[h4,qG];exact f3
 have g6:a4.tmps[6]? =some (.pointer (some ⟨w0.heap.size,0,none⟩)):=by rw[h4,putAt E]
 have g7:a4.tmps[3]? =some (.slice none 0 0):=by rw[h4,iC aw,h3',iC aw];exact g3
 have d4:a4.defers=[]:=by rw[h4,h3',h2,h1];exact d0
 have mI:∀j,γ.I w0.heap.size j=none:=λj=>by cases e:γ.I w0.heap.size j with|none=>rfl|some v=>exact absurd (mM (hmem.iw _ j v e).1) (fQ _)
 have hp:=hmem.push (.mapIter (some bm) clock #[] clock);have heq:w0.alloc (.mapIter (some bm) clock #[] clock)=dN w0 (.mapIter (some bm) clock #[] clock):=rfl;have hsz:(w0.alloc (.mapIter (some bm) clock #[] clock)).heap.size=w0.heap.size+1:=by rw[heq];simp[dN]
 have amv:Rel (cxl 18 γ.X w0 γ.I w0.heap.size bm (.mapIter (some bm) clock #[] clock) (.map es clock)) ⟨γ.I,λ_=>none,aW (λ_=>none) 9 (some (Tv.pl 1 0 none 0))⟩ (sR []) a4 (w0.alloc (.mapIter (some bm) clock #[] clock)):=by
  have tv9:∀k t',aW (λ_=>none) 9 (some (Tv.pl 1 0 none 0)) k=some t' ->k=9∧t' =Tv.pl 1 0 none 0:=λk t' e=>by by_cases hk:k=9;subst hk;rw[bw]at e;cases e;exact sD;rw[aO _ _ _ _ hk]at e;cases e
  refine⟨λx d hd=> ?_,f4,d4,?_⟩;obtain⟨rfl,rfl⟩:=Ss hd;have h0:a4.tmps.getD 3 undef= .slice none 0 0:=by rw[Nc,g7];rfl
  rw[h0];exact .ref (Tv.pl 1 0 none 0) rfl (cJ 0) (λ_=>rfl) ⟨none,0,rfl⟩;refine⟨hp.iw,λl d hd=>EP,λl b e=>bK,λl _ b e=>bK,λl b e=>bK,λk r hr=> ?_,λk u hu=> ?_,λk j u1 u2 b e1 e2 _ _=> ?_,λb o v e=> .inl e,⟨⟨rfl,rfl,rfl,E,λb hb _=>heap_alloc_old w0 _ hb⟩,E,E,heap_alloc_new w0 _,(heap_alloc_old w0 _ hbl).trans hes⟩,λb hb=>⟨.inl E,E,E⟩⟩;obtain⟨rfl,rfl⟩:=amo hr;exact⟨Tv.pl 1 0 none 0,rfl,rfl,rfl,(λe he=>by cases he),⟨rfl,λ_ _=>⟨rfl,rfl⟩,λ_ e=>bK,λe=>absurd e tG,λe=>absurd e tG⟩⟩;obtain⟨rfl,rfl⟩:=tv9 k u hu;exact nF;rw[(tv9 k u1 e1).1,(tv9 j u2 e2).1]
 refine wp_block (wp_loop (λa w=>∃seen ys g,Rel (cxl 18 γ.X w0 γ.I w0.heap.size bm (.mapIter (some bm) clock seen clock) (.map es clock)) g (sR ((ys.map qa).map it)) a w∧a.tmps[6]? =some (.pointer (some ⟨w0.heap.size,0,none⟩))∧ku γ.I g.I∧xD es.toList seen ys∧∀y∈ys,seen.contains y.born=true)
  (λa w=>(leftOf es (w.iterSeen w0.heap.size)).size) ⟨#[],[],⟨γ.I,λ_=>none,aW (λ_=>none) 9 (some (Tv.pl 1 0 none 0))⟩,amv,g6,λ_ _ _ h=>h,xD.nil _,λy hy=>by cases hy⟩ ?_)
 rintro a w ⟨seen,ys,g,rel,q6,hI,hs1,hs2⟩
 obtain⟨fr1,fr2,fr3,fr4,fr5⟩:=rel.mem.frame;have hse:w.iterSeen w0.heap.size=seen:=by unfold World.iterSeen;rw[fr4]
 have ar7:a.tmps.size=18:=rel.size;rcases ai8 (P:=prog) w 0 w0.heap.size bm clock clock seen es clock fr4 fr5 hmo.lt (cJ _)with⟨hdone,hrun⟩|⟨e,he,w1,hw1,hrun⟩;refine wp_seq (wp_region (G1 rfl rfl rfl (WX rfl Vy) λb1 k1=> ?_));have z1:b1.tmps.size=18:=by rw[k1,qG];exact ar7
 refine G1 rfl rfl rfl (Ag rfl (pE (by rw[k1];exact xO)) rfl) λb2 k2=>yx (zF ?_);refine wp_seq (wp_cond_split (t:=false) (pE (by rw[k2];exact xO)) (λe=>bK) (λ_=>wp_exit (af5 ?_)));have aq5:Rel (cxl 18 γ.X w0 γ.I w0.heap.size bm (.mapIter (some bm) clock seen clock) (.map es clock)) g (sR ((ys.map qa).map it)) b2 w:=by rw[k2,k1];exact(rel.C8 rfl _).C8 rfl _
 have hperm:=xD.all hs1 hdone;have hsort:((ys.map qa).mergeSort λx y=>decide (x<=y))=pH u:=R_ (by rw[<-hkeys];exact hperm.map _);have hlen:(ys.map qa).length<2^62:=by have h1:=Da u;have h2:=(hperm.map qa).length_eq;rw[hkeys]at h2;omega
 obtain⟨g',hE,ams⟩:=Rel.whole aq5 SD ht only hz hn hb (λe he=>Sk u e he) hI hmo;have e1:((ys.map qa).mergeSort λx y=>decide (x<=y)).map it=(pH u).map it:=by rw[hsort]
 clear aq5 rel hs1 hs2 hperm hsort;generalize ys.map qa=zs at ams hlen e1;have cs:=ahu zs hlen;refine wpIn_wide.1 (mD (P:=prog) hm akz (M:=none) (ro:=none) (n:=0) (cx:=Cx.of 18 γ.X w0 γ.I) _ aA (.inr rfl) (sW (zs.map it) ⟨0,true,u.map (sO bo)⟩) (λe s=>match e with| .exit _=>False| .Ej _=>False|_=>fin prog [] s f407.results.toList 0 1 (ints (pH u)) ⟨[],[oQ u]⟩) g' b2 w _ ?_ ams rfl (aq2 _ _) λe s' gX g2 a' w' k1 k2 k3 k4 k5 k6=> ?_);clear hrange hmem hes hmo hkey z1 k1 k2 ams amv hp hrun fr1 fr2 fr3 fr4 fr5;refine aM ?_;exact fP.mk (aL (λx=>au.sl 1 x false) e1) rfl;have hcx:gX =Cx.of 18 γ.X w0 γ.I:=k3.same rfl rfl;subst hcx;have key:fin prog [] s' f407.results.toList 0 1 (ints (pH u)) ⟨[],[oQ u]⟩->a'.defers=[]∧∃v,(results f407 a'.tmps).run prog w' = .ok v w' ∧∃γ',Ext γ γ' ∧bD γ' v (ints (pH u))∧Mem (Cx.of 0 γ.X w0 γ.I) γ' (init [] ⟨[],[oQ u]⟩) w' :=λhf=>⟨k6.defers,JO (P:=prog) k6 (hE.trans k5) hmem aA hf⟩;cases e with|normal=>exact key k1|ret=>exact key k1|exit id=>exact iN|Ej q=>exact iN
 ·obtain⟨he1,he2⟩:=mem_left he;have ai2:=rel.next (seen' :=seen.push e.born) (c3:=clock) hw1 (cJ _) (λx=>E)
  obtain⟨_,_,_,y4,y5⟩:=ai2.mem.frame;have hent:=af9 (P:=prog) _ w0.heap.size bm clock seen es clock e y4 y5 he1 hmo.nd;generalize IF w1 w0.heap.size (.mapIter (some bm) clock (seen.push e.born) clock)=w2 at ai2 y4 y5 hrun hent;refine wp_seq (wp_region (G1 rfl rfl rfl (WX rfl Vy) λb1 k1=> ?_));have z1:b1.tmps.size=18:=by rw[k1,qG];exact ar7
  refine G1 rfl rfl rfl (Ag rfl (pE (by rw[k1];exact xO)) rfl) λb2 k2=>yx (zF ?_);have z2:b2.tmps.size=18:=by rw[k2,qG];exact z1
  refine wp_seq (wp_cond_split (t:=true) (pE (by rw[k2];exact xO)) (λ_=>wp_skip (zF ?_)) (λe=>bK));have q62:b2.tmps[6]? =some (.pointer (some ⟨w0.heap.size,0,none⟩)):=by rw[k2,iC aw,k1,iC aw];exact q6
  refine wp_block (wp_seq (wp_region (G1 rfl rfl rfl (af7 rfl (by rw[pE q62];exact hent)) λb3 k3=> ?_)));have z3:b3.tmps.size=18:=by rw[k3,qG];exact z2
  refine G1 rfl rfl rfl (Ag rfl (pE (by rw[k3];exact xO)) rfl) λb4 k4=> ?_;have z4:b4.tmps.size=18:=by rw[k4,qG];exact z3
  refine G1 rfl rfl rfl (Dr rfl) λb5 k5=>yx (zF ?_);have k5' :b5=b4.put (some 4) (.int .i64 (qa e)):=by rw[k5,pE (by rw[k4];exact xO),hkey e he1];rfl
  have ai1:Rel (cxl 18 γ.X w0 γ.I w0.heap.size bm (.mapIter (some bm) clock (seen.push e.born) clock) (.map es clock)) g (sR ((ys.map qa).map it)) b4 w2:=by rw[k4,k3,k2,k1];exact(((ai2.C8 rfl _).C8 rfl _).C8 rfl _).C8 rfl _
  have amu:=ai1.put (dst:=some 4) rfl (v:= .int .i64 (qa e)) (d:=it (qa e)) (.pure (.int _ _));rw[<-k5']at amu;have q65:b5.tmps[6]? =some (.pointer (some ⟨w0.heap.size,0,none⟩)):=by rw[k5',iC aw,k4,iC aw,k3,iC aw];exact q62
  have av2:((ys++[e]).map qa).map it=(ys.map qa).map it++[it (qa e)]:=O
  refine Pp akz (t:=6) (cx:=cxl 18 γ.X w0 γ.I w0.heap.size bm (.mapIter (some bm) clock (seen.push e.born) clock) (.map es clock)) (K:=λ_ s' =>s'.env 3=some (.ref 9 ((ys.map qa).map it++[it (qa e)]).length)∧s'.R 9=some ⟨1,true,(ys.map qa).map it++[it (qa e)]⟩) aA aA ?_ amu λs' g' a' w' hK hx hr hk=> ?_;have hzl:((ys.map qa).map it).length<=2^30:=(by obtain⟨rest,p1,_⟩:=hs1;have p2:=p1.length_eq;have p3:=Da u;rw[<-hkeys]at p3;simp at p2 p3 ⊢;omega);generalize (ys.map qa).map it=zs at hzl ⊢;generalize qa e=kk;clear hrange hmem hes hmo hkey z1 k1 k2 amv hp hrun fr1 fr2 fr3 fr4 fr5 rel ai2 ai1 amu;refine run ?_;exact sD;obtain⟨g'',auu,amt⟩:=hr.only hK.1 hK.2;rw[<-av2]at amt;obtain⟨_,_,_,x4,_⟩:=amt.mem.frame;have hp2:=xD.push hs1 hmo.nd hs2 he;have au8 :w'.iterSeen w0.heap.size=seen.push e.born:=by unfold World.iterSeen;rw[x4]
  show(∃seen ys g,_)∧_;refine⟨⟨seen.push e.born,ys++[e],g'',amt,hk.trans q65,λb o v h=>by rw[auu];exact hx.I _ _ _ (hI _ _ _ h),hp2.1,hp2.2⟩,?_⟩;show(leftOf es (w'.iterSeen w0.heap.size)).size<(leftOf es (w.iterSeen w0.heap.size)).size;rw[au8,hse];exact left_shrinks es seen e he
def ank(u:Mp Bool)(hl:u.length<=2^30)(hk:u.length=(lX u).length):aj prog 407 [.dQ 1000] ⟨[],[oQ u]⟩ (ints (pH u)) ⟨[],[oQ u]⟩:=by refine⟨⟨_,func407,aA,aA⟩,λγ w vs hs hrep hmem=> ?_⟩;obtain⟨v0,rfl⟩:=ND (hs:vs.size=1);obtain⟨t,b,ht,hz,hb,rfl⟩:=(hrep 0 v0 _ rfl rfl).PG;obtain⟨t',ht',h1,h2,h3,h4⟩:=hmem.row 1000 (oQ u) rfl;rw[ht]at ht';cases ht';obtain⟨_,b',es,clock,k1,k2,k3,k4,k5,k6⟩:=h4.m rfl hz.2;rw[hb]at k1;cases k1;refine Calls.mono (SM u hl γ w b t es clock hmem ht hz h2 hb k5 k6) λe w' h=> ?_;cases e with|returned v=>exact h|panicked ch=>exact kS|outgrown=>exact kS
def Lj(h:G:=by intro u hu;rw[oX _ _ _ _ _ _ _ (by omega)];exact hu):=h
structure Q4(ids:List Int)(u:Mp Bool):Prop where
 len:u.length=(lX u).length
 mem:∀k∈lX u,k∈ids
 nd:(lX u).Nodup
def Q4.nil(ids:List Int):Q4 ids []:=⟨rfl,λ_ h=>ie,yi⟩
theorem z6{β:Type}{n:Int}:∀{u:Mp β},wZ n u=none->n∉lX u
 |[],_,h=>by cases h|some (k,v)::r,h,hm=>by simp only[wZ]at h;cases hb:n==k with|true=>rw[hb]at h;cases h|false=>rw[hb]at h;rcases b_.1 hm with e|hm;rw[e]at hb;simp at hb;exact z6 (u:=r) h hm
 |none::r,h,hm=>z6 (u:=r) h hm
def Q4.put{ids:List Int}{u:Mp Bool}(h:Q4 ids u){n:Int}(hn:n∈ids):Q4 ids (SJ n true u):=by
 unfold SJ;split;rename_i i hi;obtain⟨l,v,r,rfl,hj,_,_⟩:=Hg hi;have hil:i=l.length:=E
 subst hil;have e:(l++some (n,v)::r).set l.length (some (n,true))=l++some (n,true)::r:=O
 rw[e];have hk:lX (l++some (n,true)::r)=lX (l++some (n,v)::r):=by rw[oR,oR];rfl
 exact⟨by rw[hk,<-h.len];simp,by rw[hk];exact h.mem,by rw[hk];exact h.nd⟩;rename_i hi;have hno:=z6 (Hh hi);refine⟨by rw[oR];simp[h.len,lX],λk hk=> ?_,?_⟩;rw[oR]at hk;rcases dY.1 hk with hk|hk;exact h.mem k hk;rcases b_.1 hk with rfl|hk;exact hn;cases hk;rw[oR,wt];refine⟨h.nd,by simp[lX],λa ha b hb=> ?_⟩;rcases b_.1 hb with rfl|hb;intro e;subst e;exact hno ha;cases hb
theorem BS{α:Type}[DecidableEq α]:∀{l m:List α},l.Nodup->(∀x∈l,x∈m)->l.length<=m.length|[],_,_,_=>dM _|x::l,m,hn,hs=>by have hx:=hs x O;have hn' :=uR.1 hn;have:=BS (l:=l) (m:=m.erase x) hn'.2 (λy hy=>(List.mem_erase_of_ne (λe=>hn'.1 (by rw[<-e];exact hy))).2 (hs y pk));rw[List.length_erase_of_mem hx]at this;have:=List.length_pos_of_mem hx;exact az
def Q4.le{ids:List Int}{u:Mp Bool}(h:Q4 ids u):u.length<=ids.length:=by rw[h.len];exact BS h.nd h.mem
def ak7{ids:List Int}{op:Int}{x y:Av}{s:Us}{r:Ru}(h:Q4 ids s.2)(hr:r.id∈ids):Q4 ids (si op x y s r).2:=by unfold si;split;exact h;split;split;exact h;exact h.put hr;exact h
theorem alk{ids:List Int}{op:Int}{x y:Av}:∀{l:List Ru} {s:Us},Q4 ids s.2->(∀r∈l,r.id∈ids)->Q4 ids (pR op x y s l).2|[],_,h,_=>h|r::l,s,h,hl=>alk (l:=l) (s:=si op x y s r) (ak7 h (hl r O)) (λq hq=>hl q ER)
def On{d:Df}{f:Fa}{rules:List Ru}{vars na:Int}{k:Nat}{e:Ex}{z:Nat}(he:kh vars na k e z):∀u,Q4 (rules.map (·.id)) u->Q4 (rules.map (·.id)) (gT d rules f e u).2:=by have hl:∀r∈rules,r.id∈rules.map (·.id):=λr hr=>dV.2 ⟨r,hr,rfl⟩;induction he with|num h=>exact Lj|var h=>exact Lj|len h=>exact Lj|bin h _ _ iha ihb=>intro u hu;rw[Ds _ _ _ _ _ _ _ h];exact alk (ihb _ (iha u hu)) hl
def I_{u:Mp Bool}{k:Int}:k∈pH u↔k∈lX u:=by unfold pH;exact List.mem_mergeSort
def Xn{ids:List Int}{u:Mp Bool}(h:Q4 ids u):(pH u).length<=ids.length:=by have:=h.le;rw[h.len]at this;unfold pH;rw[List.length_mergeSort];exact dj
def aol{d:Df}{f:Fa}{rules:List Ru}(hd:yR d)(hf:pT d f)(hl:rules.length<=2^30)(hr:∀r∈rules,IY r){k:Nat}{e:Ex}{z:Nat}(he:kh d.vars d.aK.length k e z):C 347 [bR d,fj 10 gU rules,aZ f,cy e] (.bS [ai (gT d rules f e []).1,ints (pH (gT d rules f e []).2)]):=by have c1:=ajb hd hf hl hr he [];have hu:=On (d:=d) (f:=f) (rules:=rules) he [] (Q4.nil _);have hle:=hu.le;rw[dn]at hle;have c2:=ank (gT d rules f e []).2 E hu.len;generalize gT d rules f e []=R at c1 c2 ⊢;obtain⟨a,u⟩:=R;dsimp only at c1 c2 ⊢;refine fo func347 ?_;exact bp
end Abs
namespace Abs
open Go Go.Proofs
variable{G:Prop}
abbrev Rs:=Wk×Bool
def Rs.and(r:Rs)(k:Wk->Rs):Rs:=if r.2=true then r else k r.1
def p_(w:Wk)(ok:Bool):Rs:=(w,!ok)
def bP(c:Wc)(kind:Int)(ajt:Bool)(w:Wk):Wk:=if ajt=true then w else{w with fd:=qb (λy=>lB y ⟨c.d.id,c.s.site,kind⟩) ⟨c.d.id,c.s.site,kind⟩ w.fd}
def vT(c:Wc)(a b:Int)(w:Wk):Wk:={w with ps:=qb (λy=>fZ y ⟨a,b,c.s.site⟩) ⟨a,b,c.s.site⟩ w.ps}
def wA(l:List Int)(id:Int):List Int:=qb (λy=>jL y id) id l
def kZ(c:Wc)(e:Ex)(w:Wk):Wk:={w with us:=(pH (gT c.d c.rules w.f e []).2).foldl wA w.us}
def iP(c:Wc)(e:Ex)(w:Wk):Av:=(gT c.d c.rules w.f e []).1
def gW(c:Wc)(a:Av)(w:Wk):Wk:={w with f:=IC w.f c.s.n a zEx}
def ij(c:Wc)(e:Ex)(r:pG)(kind:Int)(w:Wk):Rs:=if sr (iP c e w) (jh r)=true then(kZ c e w,false)else match jf (iP c e w) (jh r)with|some m=>(if e.op=2 then vN e.n m (bP c kind false (kZ c e w))else bP c kind false (kZ c e w),false)|none=>(bP c kind false (kZ c e w),true)
def Yh(x:Ex):Co:= .mk 3 [.mk 1 0 0 [],x] []
def JI(m:Int)(x:Ex):Co:= .mk 2 [x,.mk 3 m 0 []] []
def jg(c:Wc)(w:Wk):Rs:=if aef c.d w.f c.s.m c.s.x (iP c c.s.x w)=true then(kZ c c.s.x w,false)else({bP c 1 false (kZ c c.s.x w)with f:=da c.d (.mk 6 [] [Yh c.s.x,JI c.s.m c.s.x]) w.f true},(da c.d (.mk 6 [] [Yh c.s.x,JI c.s.m c.s.x]) w.f true).dead)
def aP(w:Wk)(n:Int):Rf:=w.f.refs.getD n.toNat ⟨0,zR⟩
def eg(n s:Int)(a:Av)(w:Wk):Wk:={w with f:={w.f with refs:=w.f.refs.set n.toNat ⟨s,a⟩}}
def iT(c:Wc)(n:Int)(w:Wk):Rs:=p_ (bP c 2 (a_ (aP w n).s 1==0) w) (!((aP w n).s==1))
def sb(c:Wc)(n:Int)(a:Av)(w:Wk):Rs:=(p_ (bP c 3 (a_ (aP w n).s 2==0) w) (!((aP w n).s==2))).and λw=>(eg n 2 a w,false)
def uc(x:Int)(k:Nat):Bool:=a_ (x.fdiv (2^(min k 64))) 1==1
def IG(site may aQ:Int)(a:Nat)(ps:List Pa)(b:Nat):List Pa:=if (!(a==b)&&(uc may a&&uc aQ b))=true then qb (λy=>fZ y ⟨a,b,site⟩) ⟨a,b,site⟩ ps else ps
def GQ(site may aQ:Int)(ps:List Pa)(a:Nat):List Pa:=(List.range 8).foldl (IG site may aQ a) ps
def akv(site may aQ:Int)(ps:List Pa):List Pa:=(List.range 8).foldl (GQ site may aQ) ps
def nJ(c:Wc)(aQ:Int)(w:Wk):Wk:={w with Au:=iQ w.Au aQ,ps:=akv c.s.site w.f.may aQ w.ps}
def gF(c:Wc)(w:Wk):Rs:=
 if c.s.op=6 then sb c c.s.n zR w
 else if c.s.op=7 then(iT c c.s.n w).and λw=>(eg c.s.n 1 zR w,false)
 else if c.s.op=8 then(iT c c.s.m w).and λw=>if c.s.n=c.s.m then(eg c.s.n 2 (aP w c.s.m).a w,false)else(sb c c.s.n (aP w c.s.m).a w).and λw=>(eg c.s.m 1 zR w,false)
 else if c.s.op=9 then(iT c c.s.n w).and λw=>(eg c.s.n 2 (iP c c.s.x w) (kZ c c.s.x w),false)
 else if c.s.op=10 then(iT c c.s.m w).and λw=>(gW c (aP w c.s.m).a (eg c.s.m 2 (aP w c.s.m).a w),false)
 else(w,false)
def cZ(l:List pG)(n:Int):pG:=l.getD n.toNat ⟨0,0,0⟩
def pZ(l:List Qu)(n:Int):Qu:=l.getD n.toNat ⟨0,⟨0,0,0⟩⟩
def dR(l:List Int)(n:Int):Int:=l.getD n.toNat 0
def Ww(a:Av)(sink:Int):Av:={a with mask:=a_ a.mask sink}
def rU(c:Wc)(w:Wk):Rs:=
 if c.s.op=5 then ij c c.s.x (cZ c.p.d.globals c.s.m) 12 w
 else if c.s.op=18 then ij c c.s.x (pZ c.p.d.eJ c.s.m).r 12 w
 else if c.s.op=21 then
  (if c.s.x.op=2 then vN c.s.x.n (Ww (gV w.f c.s.x.n) (dR c.p.d.sinks c.s.m)) (bP c 7 (kq (iP c c.s.x w).mask (dR c.p.d.sinks c.s.m)==0) (kZ c c.s.x w))
   else bP c 7 (kq (iP c c.s.x w).mask (dR c.p.d.sinks c.s.m)==0) (kZ c c.s.x w),false)
 else(w,false)
def gw(m:Int):Int:=IntKind.i64.wrap (1*2^(min m.toNat IntKind.i64.bits))
def ta(c:Wc)(w:Wk):Rs:=
 if c.s.op=17 then(p_ (bP c 5 (!(a_ w.f.ei (gw c.s.m)==0)) w) (!(a_ w.f.may (gw c.s.m)==0))).and λw=>({w with f:={w.f with ei:=kq w.f.ei (gw c.s.m),may:=kq w.f.may (gw c.s.m)}},false)
 else(p_ (bP c 4 (a_ w.f.may (gw c.s.m)==0) w) (a_ w.f.ei (gw c.s.m)==0)).and λw=>((λw:Wk=>{w with f:={w.f with ei:=iQ w.f.ei (gw c.s.m),may:=iQ w.f.may (gw c.s.m)}}) (nJ c (gw c.s.m) w),false)
def gj(bits:Int)(w:Wk):Wk:=if bits=0 then w else{w with DG:=bits,th:=w.f}
def tK(b:Int)(w:Wk):Wk:={w with f:={w.f with parts:=iQ w.f.parts b}}
def fu(c:Wc)(h:Hd):List Ex->Nat->Wk->Rs|[],_,w=>(w,false)|e::l,i,w=>(ij c e (cZ h.params i) 11 w).and (fu c h l (i+1))
def tQ(c:Wc)(h:Hd)(n:Int)(i:Nat)(w:Wk):Rs:=(iT c n w).and λw1=>(p_ (bP c 11 (sr (aP w n).a (jh (cZ h.given i))) w1) (jf (aP w n).a (jh (cZ h.given i))).isSome).and λw=>(eg n 1 zR w,false)
def fe(c:Wc)(h:Hd):List Int->Nat->Wk->Rs|[],_,w=>(w,false)|n::l,i,w=>(tQ c h n i w).and (fe c h l (i+1))
def Gq(c:Wc)(y:Sy)(w:Wk):Wk:=
 let w:=bP c 4 (a_ y.aQ w.f.may==0) w;let w:=y.fD.foldl (λw (x:Pa)=>vT c x.a x.b w) w;let w:=tK y.kV (gj y.jo (nJ c y.aQ w))
 if c.s.n>=0 then gW c ⟨y.Nx,y.Ny,y.rm,y.rr,y.nO⟩ w else w
def qj(c:Wc)(h:Hd)(y:Sy)(w:Wk):Rs:=(fu c h c.s.args 0 (tK (gw h.part) (bP c 13 (uc w.f.parts h.part.toNat) w))).and λw=>(fe c h c.s.cO 0 w).and λw=>(Gq c y w,false)
def kF(c:Wc)(h:Hd)(y:Sy)(w:Wk):Rs:=
 if c.s.op=1 then({kZ c c.s.x w with f:=IC w.f c.s.n (iP c c.s.x w) c.s.x},false)
 else if c.s.op=2 then(jg c w).and λw=>(gW c (Ig (dR w.f.arr c.s.m)) w,false)
 else if c.s.op=3 then(jg c w).and λw=>((λv:Wk=>{v with f:={v.f with arr:=v.f.arr.set c.s.m.toNat (iQ (dR v.f.arr c.s.m) (iP c c.s.y w).mask)}}) (kZ c c.s.y w),false)
 else if c.s.op=4 then(gW c (jh (cZ c.p.d.globals c.s.m)) w,false)
 else if c.s.op=19 then(gW c (jh (pZ c.p.d.eJ c.s.m).r) w,false)
 else if c.s.op=20 then(gW c (jh (cZ c.p.d.fq c.s.m)) w,false)
 else if c.s.op=5∨c.s.op=18∨c.s.op=21 then rU c w
 else if c.s.op=6∨c.s.op=7∨c.s.op=8∨c.s.op=9∨c.s.op=10 then gF c w
 else if c.s.op=16∨c.s.op=17 then ta c w
 else if c.s.op=22 then(tK (gw c.s.m) w,false)
 else if c.s.op=23 then({bP c 10 (da c.d c.s.c w.f false).dead w with f:=da c.d c.s.c w.f true},false)
 else if c.s.op=14 then(gj (gw c.s.v) w,true)
 else if c.s.op=13 then qj c h y w
 else(w,false)
def Cd(c:Wc)(h:Hd)(y:Sy)(w:Wk):Wk:=if (kF c h y w).2=true then{(kF c h y w).1 with f:=iq}else(kF c h y w).1
def aps:Fa:=⟨false,[],[],[],[],0,0,0⟩
def wk0(f:Fa):Wk:=⟨aps,iq,0,0,[],[],[],f⟩
def nL(c:Wc)(h:Hd)(y:Sy)(f:Fa):Wk:=if f.dead=true then{wk0 f with nx:=iq}else(λw:Wk=>{w with nx:=oq c.d c.level w.f,th:=oq c.d c.level w.th}) (Cd c h y (wk0 f))
def Fu:=@List.pairwise_cons
def ZW(h:G:=by rw[Ox.2 h];exact λe=>e rfl):=h
def RK(h:G:=by unfold jL;(repeat' split)<;>omega):=h
section
variable{α:Type}
def Hy(c:α->Int)(x:α):qb c x []=[x]:=rfl
def Dl(c:α->Int)(x y:α)(l:List α):qb c x (y::l)=if c y<0 then y::qb c x l else if c y=0 then y::l else x::y::l:=by unfold qb;by_cases h:c y<0;simp only[pO,posOf,ak h];split<;>simp;simp only[pO,posOf,Z h];by_cases h0:c y=0;simp[h0];have:(c y==0)=false:=LI;simp[this,h0]
theorem B0{c:α->Int}{x:α}:∀{l:List α} {z:α},z∈qb c x l->z=x∨z∈l|[],z,h=>by rw[Hy]at h;exact eQ|y::l,z,h=>by rw[Dl]at h;split at h;rcases b_.1 h with rfl|h;simp;rcases B0 h with h|h;exact iM;simp[h];split at h;exact .inr h;exact eQ
theorem Hz{c:α->Int}{x:α}:∀{l:List α},(qb c x l).length<=l.length+1|[]=>by simp[Hy]|y::l=>by rw[Dl];split;have:=Hz (c:=c) (x:=x) (l:=l);exact az;split<;>simp
structure Q'(c:α->α->Int):Prop where
 tr:∀{x y z},c x y<0->c y z<=0->c x z<0
 sym:∀{x y},0<c x y->c y x<0
def IX(c:α->α->Int)(l:List α):Prop:=l.Pairwise λx y=>c x y<0
def IX.mono{c:α->α->Int}(hc:Q' c){l:List α}(h:IX c l)(x:α):Ik (λy=>c y x) l:=λi j hi hj hij hle=>hc.tr (List.pairwise_iff_getElem.1 h i j hi hj hij) hle
theorem IX.ins{c:α->α->Int}(hc:Q' c){x:α}:∀{l:List α},IX c l->IX c (qb (λy=>c y x) x l)|[],_=>by rw[Hy];exact List.pairwise_singleton _ _|y::l,h=>by have h' :=Fu.1 h;rw[Dl];split;rename_i hy;refine Fu.2 ⟨λz hz=> ?_,IX.ins hc h'.2⟩;rcases B0 hz with rfl|hz;exact hy;exact h'.1 z hz;rename_i hy;split;exact h;rename_i h0;have hxy:c x y<0:=hc.sym E;refine Fu.2 ⟨λz hz=> ?_,h⟩;rcases b_.1 hz with rfl|hz;exact hxy;exact hc.tr hxy (yh (h'.1 z hz))
end
def F5:Q' jL:=⟨λ{x y z} h1 h2=>by unfold jL at*;split at h1<;>split at h2<;>(repeat' split at h1)<;>(repeat' split at h2)<;>(repeat' split)<;>omega,λ{x y} h=>by unfold jL at*;(repeat' split at h)<;>(repeat' split)<;>omega⟩
def F6{x y:Int}:jL x y<0↔x<y:=RK
def W9{x y:Int}:jL x y<=0↔x<=y:=RK
def Ox{x y:Int}:jL x y=0↔x=y:=RK
def QM:Q' lB:=⟨λh1 h2=>F5.tr h1 h2,λh=>F5.sym h⟩
def QK{x y:Pa}:fZ x y<0↔x.a<y.a∨(x.a=y.a∧x.b<y.b):=by unfold fZ;by_cases h:x.a=y.a;rw[Z ZW,F6];omega;rw[ak (λe=>h (Ox.1 e)),F6];omega
def QL{x y:Pa}:fZ x y<=0↔x.a<y.a∨(x.a=y.a∧x.b<=y.b):=by unfold fZ;by_cases h:x.a=y.a;rw[Z ZW,W9];omega;rw[ak (λe=>h (Ox.1 e)),W9];omega
def HY:Q' fZ:=⟨λ{x y z} h1 h2=>by rw[QK]at*;rw[QL]at h2;omega,λ{x y} h=>by
 have:¬fZ x y<=0:=E
 rw[QL]at this;rw[QK];omega⟩
structure ic(c:Wc)(w:Wk):Prop where
 f:pT c.d w.f
 fd:IX lB w.fd
 fk:∀x∈w.fd,1<=x.kind∧x.kind<=14
 ps:IX fZ w.ps
 us:IX jL w.us
 um:∀k∈w.us,k∈c.rules.map (·.id)
def IX.nodup{l:List Int}(h:IX jL l):l.Nodup:=List.Pairwise.imp (λ{a b} h e=>by rw[F6]at h;omega) h
def ic.fl{c:Wc}{w:Wk}(h:ic c w):w.fd.length<=15:=by have h1:(w.fd.map (·.kind)).Nodup:=List.pairwise_map.2 (List.Pairwise.imp (λ{a b} h e=>by have:jL a.kind b.kind<0:=h;rw[F6]at this;omega) h.fd);have:=BS (m:=(List.range 15).map (λn:Nat=>(n:Int))) h1 (λx hx=>by obtain⟨y,hy,rfl⟩:=dV.1 hx;have:=h.fk y hy;exact dV.2 ⟨y.kind.toNat,Be.2 E,E⟩);exact mO
def ic.find{c:Wc}{w:Wk}(h:ic c w){k:Int}(hk:1<=k∧k<=14)(b:Bool):ic c (bP c k b w):=by unfold bP;split;exact h;exact⟨h.f,h.fd.ins QM,λx hx=>by rcases B0 hx with rfl|hx;exact hk;exact h.fk x hx,h.ps,h.us,h.um⟩
def ic.pair{c:Wc}{w:Wk}(h:ic c w)(a b:Int):ic c (vT c a b w):=⟨h.f,h.fd,h.fk,h.ps.ins HY,h.us,h.um⟩
theorem Ng{ids:List Int}:∀{l us:List Int},IX jL us->(∀k∈us,k∈ids)->(∀k∈l,k∈ids)->IX jL (l.foldl wA us)∧∀k∈l.foldl wA us,k∈ids|[],us,h1,h2,_=>⟨h1,h2⟩|x::l,us,h1,h2,h3=>Ng (l:=l) (us:=wA us x) (h1.ins F5) (λk hk=>by rcases B0 hk with rfl|hk;exact h3 _ O;exact h2 k hk) (λk hk=>h3 k AP)
def ic.set{c:Wc}{w:Wk}(h:ic c w){vars na:Int}{k:Nat}{e:Ex}{z:Nat}(he:kh vars na k e z):ic c (kZ c e w):=by have hu:=On (d:=c.d) (f:=w.f) (rules:=c.rules) he [] (Q4.nil _);obtain⟨h1,h2⟩:=Ng (l:=pH (gT c.d c.rules w.f e []).2) h.us h.um (λk hk=>hu.mem k (I_.1 hk));exact⟨h.f,h.fd,h.fk,h.ps,h1,h2⟩
def ic.OT{c:Wc}{w:Wk}(h:ic c w){f:Fa}(hf:pT c.d f):ic c {w with f:=f}:=⟨hf,h.fd,h.fk,h.ps,h.us,h.um⟩
end Abs
namespace Abs
open Go Go.Proofs Tryz
structure kf(c:Wc):Prop where
 d:yR c.d
 rl:c.rules.length<=2^30
 ru:∀r∈c.rules,IY r
def CV{c:Wc}{w:Wk}(hc:kf c)(hw:ic c w){k:Nat}{e:Ex}{z:Nat}(he:kh c.d.vars c.d.aK.length k e z):aj prog 282 [.ptr 1000 0,cy e] (bZ c w) (ai (iP c e w)) (bZ c (kZ c e w)):=by
 have c1:=aol hc.d hw.f hc.rl hc.ru he;have hu:=On (d:=c.d) (f:=w.f) (rules:=c.rules) he [] (Q4.nil _);have hl:∀x∈pH (gT c.d c.rules w.f e []).2,x∈c.rules.map (·.id):=λx hx=>hu.mem x (I_.1 hx);have hLl:=Xn hu;rw[dn]at hLl;unfold iP kZ;generalize gT c.d c.rules w.f e []=R at c1 hl hLl ⊢;obtain⟨a,u⟩:=R;dsimp only at c1 hl hLl ⊢;generalize pH u=L at c1 hl hLl ⊢;obtain⟨U,hU,hU0,hUs⟩:∃U:Nat->List Int,(∀k,U k=(L.take k).foldl wA w.us)∧U 0=w.us∧∀k (h:k<L.length),qb (λy=>jL y L[k]) L[k] (U k)=U (k+1):=⟨λk=>(L.take k).foldl wA w.us,λ_=>rfl,rfl,λk h=>by show _=(L.take (k+1)).foldl wA w.us;exact Um⟩;have hUn:U L.length=L.foldl wA w.us:=by rw[hU,Fi]
 have hok:∀k,IX jL (U k)∧(U k).length<=c.rules.length:=λk=>by have:=Ng (l:=L.take k) hw.us hw.um (λx hx=>hl x (pV hx));rw[hU];refine⟨this.1,?_⟩;have:=BS this.1.nodup this.2;rwa[dn]at this
 have hrl:=hc.rl;have hwu:w.us=U 0:=hU0.symm;rw[<-hUn];have hc0:bZ c w=bZ c {w with us:=U 0}:=by rw[hU0]
 rw[hc0];refine d_ hm func282 (λn=>Nat.beq n 348) [] (λ_=>[]) aA ?_;refine aM ?_;refine bF.mk ⟨[],aY.np (L.length) (λ_=>True) (λk=>⟨[(29,it k)],[(1000,.agg (cW c {w with us:=U k}))],[(1002,⟨1,true,(U k).map it⟩)]⟩) trivial ?_⟩;intro k hk hJ;by_cases hk1:k<L.length;have b1:decide ((k:Int)<((L.map it).length:Nat))=true:=gL
 have hs:=hok k;have c2:=Yo (U k) L[k] E (hs.1.mono F5 L[k]);rw[hUs k hk1]at c2;refine run ?_;refine bt.map hk1 rfl ?_;refine aM ?_;exact y_ hk1;have b1:decide ((k:Int)<((L.map it).length:Nat))=false:=az
 have hkk:k=L.length:=E
 subst hkk;exact bz
def sa{c:Wc}{w:Wk}(hw:ic c w)(k:Int)(b:Bool):aj prog 289 [.ptr 1000 0,it k,bo b] (bZ c w) (.bS []) (bZ c (bP c k b w)):=by have hfl:=hw.fl;unfold bP;cases b with|true=>rw[ak rfl];refine fo func289 ?_;exact bz|false=>rw[Z O];have c2:=Yn w.fd ⟨c.d.id,c.s.site,k⟩ E (hw.fd.mono QM _);generalize qb (λy=>lB y ⟨c.d.id,c.s.site,k⟩) ⟨c.d.id,c.s.site,k⟩ w.fd=X at c2 ⊢;refine d_ hm func289 (λn=>Nat.beq n 358) [] (λ_=>[]) aA ?_;exact bp
def acn{c:Wc}{w:Wk}(hw:ic c w)(hl:w.ps.length<2^32)(a b:Int):aj prog 365 [.ptr 1000 0,it a,it b] (bZ c w) (.bS []) (bZ c (vT c a b w)):=by have c2:=Ym w.ps ⟨a,b,c.s.site⟩ hl (hw.ps.mono HY _);unfold vT;generalize qb (λy=>fZ y ⟨a,b,c.s.site⟩) ⟨a,b,c.s.site⟩ w.ps=X at c2 ⊢;refine d_ hm func365 (λn=>Nat.beq n 431) [] (λ_=>[]) aA ?_;exact bp
end Abs
namespace Abs
open Go Go.Proofs Go.RowKit Tryz
theorem GR(p:Option Addr)(b:Bool)(w:World):Calls prog 292 #[.pointer p,.bool b] w λe w' =>w' =w∧((b=true∧e= .returned (.tuple #[]))∨(b=false∧e= .panicked (qh 347))):=by
 cases b with
 |true=>
  go_enter func292,ntmps292
  go_wp2
  go_end0
  exact⟨rfl,.inl ⟨trivial,rfl⟩⟩
 |false=>
  go_enter func292,ntmps292
  go_wp2
  exact⟨rfl,rfl,.inr ⟨trivial,rfl⟩⟩
def GP{γ:Gh}{v:Value}{l:Nat}(r:bD γ v (.ptr l 0)):∃b,γ.mu l=some b∧v= .pointer (some ⟨b,0,none⟩):=aaf
def OX{vs:Array Value}(h:vs.size=2):∃a b,vs= #[a,b]:=
 ⟨vs[0],vs[1],by
  apply Array.ext;exact eQ;intro i h2 h3;have:i=0∨i=1:=E
  rcases this with rfl|rfl<;>rfl⟩
def sX(c:Wc)(w:Wk)(m:Ct):aj prog 292 [.ptr 1000 0,bo true] m (.bS []) m:=by refine⟨⟨_,func292,aA,aA⟩,λγ w vs hs hrep hmem=> ?_⟩;obtain⟨v0,v1,rfl⟩:=OX (hs:vs.size=2);obtain⟨b,_,rfl⟩:=GP (hrep 0 v0 _ rfl rfl);have:=(hrep 1 v1 _ rfl rfl).ot;subst this;refine Calls.mono (GR _ _ w) λe w' h=> ?_;obtain⟨rfl,⟨_,rfl⟩|⟨h,_⟩⟩:=h;exact⟨γ,Ext.refl γ,.bS rfl (λi v d hv=>uJ),hmem.names rfl rfl⟩;cases h
def pL(c:Wc)(w:Wk)(m:Ct):aj prog 292 [.ptr 1000 0,bo false] m (vw 347) m:=by refine⟨⟨_,func292,aA,aA⟩,λγ w vs hs hrep hmem=> ?_⟩;obtain⟨v0,v1,rfl⟩:=OX (hs:vs.size=2);obtain⟨b,_,rfl⟩:=GP (hrep 0 v0 _ rfl rfl);have:=(hrep 1 v1 _ rfl rfl).ot;subst this;refine Calls.mono (GR _ _ w) λe w' h=> ?_;obtain⟨rfl,⟨h,_⟩|⟨_,rfl⟩⟩:=h;cases h;exact⟨γ,347,Ext.refl γ,rfl,rfl,hmem.names rfl rfl⟩
end Abs
namespace Abs
open Go Go.Proofs Tryz
variable{G:Prop}
def Ev(h:G:=by exact pL c w _):=h
def Eu(h:G:=by exact sX c w _):=h
def NJ{w:Wk}{n:Int}(h:n.toNat<w.f.refs.length):nth (w.f.refs.map aN) n.toNat=some (.agg [it (aP w n).s,it (aP w n).a.lo,it (aP w n).a.hi,it (aP w n).a.m,it (aP w n).a.r,it (aP w n).a.mask]):=by rw[c_,gQ h];unfold aP;simp[h,aN]
def sE :C 354 [] (ai zR):=by refine fo func354 ?_;exact bz
def rQ(c:Wc)(w:Wk)(n s:Int)(a:Av)(hn:0<=n∧n.toNat<w.f.refs.length)(hl:w.f.refs.length<=1048576):aj prog 356 [.ptr 1000 0,it n,it s,ai a] (bZ c w) (.bS []) (bZ c (eg n s a w)):=by
 have hx:=NJ (w:=w) hn.2;have hn0:=hn.1;have c3:=QO (w.f.refs.map aN) (λe=>by have h:w.f.refs=[]:=zp.1 e;have:=hn.2;exact TQ) uA;have e:bZ c (eg n s a w)=ctX c w (fj 5 ai w.f.v) (.sl 6 ((w.f.refs.map aN).set n.toNat (.agg [it s,it a.lo,it a.hi,it a.m,it a.r,it a.mask])) false) (ints w.f.arr):=by rw[show au.agg [it s,it a.lo,it a.hi,it a.m,it a.r,it a.mask]=aN ⟨s,a⟩ from rfl,<-jU];rfl
 have el:((w.f.refs.map aN).set n.toNat (.agg [it s,it a.lo,it a.hi,it a.m,it a.r,it a.mask])).length=(w.f.refs.map aN).length:=O
 rw[e];refine d_ hm func356 (λ_=>false) [] (ao2 68) aA ?_;refine aM ?_;repeat((refine bt.at rfl hn0 hx ?_);refine run ?_)
 exact aG
def cV(r:Rs)(d:au):au:=if r.2=true then vw 347 else d
def ane{c:Wc}{w:Wk}(hw:ic c w)(n:Int)(hn:0<=n∧n.toNat<w.f.refs.length):aj prog 355 [.ptr 1000 0,it n] (bZ c w) (cV (iT c n w) (ai (aP w n).a)) (bZ c (iT c n w).1):=by
 have hx:=NJ (w:=w) hn.2;have hn0:=hn.1;have e1:=ov (aP w n).s 1;have e2:=iZ (a:=(aP w n).s) (b:=1) (n:=1) E E E;have cf:=sa hw 2 (a_ (aP w n).s 1==0);have hr:(bP c 2 (a_ (aP w n).s 1==0) w).f=w.f:=by unfold bP;split<;>rfl
 unfold iT p_ cV;have hxx:=hx;rw[<-hr]at hxx;generalize bP c 2 (a_ (aP w n).s 1==0) w=W at*;generalize a_ (aP w n).s 1=A at*;by_cases hs:(aP w n).s=1
 ·have b1:(!((aP w n).s==1))=false:=by rw[hs];rfl
  have cp:aj prog 292 [.ptr 1000 0,bo ((aP w n).s !=1)] (bZ c W) (vw 347) (bZ c W):=by rw[show((aP w n).s !=1)=false from b1];exact Ev
  rw[b1];generalize aP w n=R at*;refine fo func355 ?_;refine aM ?_;repeat((first|refine bt.at rfl hn0 hx ?_|refine bt.at rfl hn0 hxx ?_|(apply aE;first|exact cf|exact cp));refine run ?_)
  exact aG
 ·have b1:(!((aP w n).s==1))=true:=by exact qo
  have cp:aj prog 292 [.ptr 1000 0,bo ((aP w n).s !=1)] (bZ c W) (.bS []) (bZ c W):=by rw[show((aP w n).s !=1)=true from b1];exact Eu
  rw[b1];generalize aP w n=R at*;refine fo func355 ?_;refine aM ?_;repeat((first|refine bt.at rfl hn0 hx ?_|refine bt.at rfl hn0 hxx ?_|(apply aE;first|exact cf|exact cp));refine run ?_)
  exact aG
def aob{c:Wc}{w:Wk}(hw:ic c w)(n:Int)(a:Av)(hn:0<=n∧n.toNat<w.f.refs.length)(hl:w.f.refs.length<=1048576):aj prog 353 [.ptr 1000 0,it n,ai a] (bZ c w) (cV (sb c n a w) (.bS [])) (bZ c (sb c n a w).1):=by
 have hx:=NJ (w:=w) hn.2;have hn0:=hn.1;have e1:=ov (aP w n).s 2;have e2:=iZ (a:=(aP w n).s) (b:=2) (n:=2) E E E;have cf:=sa hw 3 (a_ (aP w n).s 2==0);have hr:(bP c 3 (a_ (aP w n).s 2==0) w).f=w.f:=by unfold bP;split<;>rfl
 unfold sb p_ cV Rs.and;have cr:=rQ c (bP c 3 (a_ (aP w n).s 2==0) w) n 2 a (by rw[hr];exact hn) (by rw[hr];exact hl);generalize bP c 3 (a_ (aP w n).s 2==0) w=W at*;generalize a_ (aP w n).s 2=A at*;by_cases hs:(aP w n).s=2
 ·have b1:(!((aP w n).s==2))=false:=by rw[hs];rfl
  have cp:aj prog 292 [.ptr 1000 0,bo ((aP w n).s !=2)] (bZ c W) (vw 347) (bZ c W):=by rw[show((aP w n).s !=2)=false from b1];exact Ev
  rw[b1];generalize aP w n=R at*;refine fo func353 ?_;refine aM ?_;repeat((first|refine bt.at rfl hn0 hx ?_|(apply aE;first|exact cf|exact cp));refine run ?_)
  exact aG
 ·have b1:(!((aP w n).s==2))=true:=by exact qo
  have cp:aj prog 292 [.ptr 1000 0,bo ((aP w n).s !=2)] (bZ c W) (.bS []) (bZ c W):=by rw[show((aP w n).s !=2)=true from b1];exact Eu
  rw[b1];generalize aP w n=R at*;refine fo func353 ?_;refine aM ?_;repeat((first|refine bt.at rfl hn0 hx ?_|(apply aE;first|exact cf|exact cp|exact cr));refine run ?_)
  exact aG
def KR(h:G:=by generalize iP c e w=A at*;generalize bP c kind false (kZ c e w)=W2 at*;generalize kZ c e w=W1 at*;generalize jh r=I at*;refine fo Tryz.func351 ?_;exact bp):=h
def Ot{vars na:Int}{k:Nat}{e:Ex}{z:Nat}(he:kh vars na k e z)(h:e.op=2):0<=e.n∧e.n<vars:=by cases he with|num h1=>exact absurd h (by show ¬(1:Int)=2;omega)|var h1=>exact h1|len h1=>exact absurd h (by show ¬(3:Int)=2;omega)|bin ho _ _=>exact absurd (show _=(2:Int) from h) (by show ¬_=(2:Int);have:=ho.1;simp only[Ex.op];omega)
structure m7(r:pG):Prop where
 lo: -2147483648<=r.lo
 le:r.lo<=r.hi
 hi:r.hi<=2147483647
 k0:0<=r.mask
 k1:r.mask<=255
def m7.av{r:pG}(h:m7 r):aR (jh r):=by show aR (mh r.lo r.hi 1 r.mask);have h1:=h.lo;have h2:=h.le;have h3:=h.hi;exact(ka E E E h.k0 h.k1 E E).1
def sQ{c:Wc}{w:Wk}(hc:kf c)(hw:ic c w){k:Nat}{e:Ex}{z:Nat}(he:kh c.d.vars c.d.aK.length k e z):aR (iP c e w):=HS hc.d hw.f hc.ru he []
def Ha{c:Wc}{w:Wk}(hc:kf c)(hw:ic c w){k:Nat}{e:Ex}{z:Nat}(he:kh c.d.vars c.d.aK.length k e z){r:pG}(hr:m7 r)(kind:Int)(hk:1<=kind∧kind<=14):aj prog 351 [.ptr 1000 0,cy e,bc r,it kind] (bZ c w) (cV (ij c e r kind w) (.bS [])) (bZ c (ij c e r kind w).1):=by
 have c1:=CV hc hw he;have hv:=sQ hc hw he;have h1:=hr.lo;have h2:=hr.le;have h3:=hr.hi;have ci:=N6 r E E;have cl:=al6 (iP c e w) (jh r) hv hr.av;have cm:=NP (iP c e w) (jh r) hv hr.av;have hw1:=hw.set (c:=c) he;have cf:=sa hw1 kind false;have hf2:(bP c kind false (kZ c e w)).f=w.f:=rfl;have hv2:=hw.f.v;have hdv:=hc.d.vars;unfold ij cV;by_cases hle:sr (iP c e w) (jh r)=true;rw[ak hle];generalize iP c e w=A at*;generalize kZ c e w=W1 at*;generalize jh r=I at*;refine fo func351 ?_;exact bp;have avs :sr (iP c e w) (jh r)=false:=by simpa using hle
 rw[Z hle];cases hmt:jf (iP c e w) (jh r)with|none=>rw[hmt]at cm;have cp:=pL c w (bZ c (bP c kind false (kZ c e w)));exact KR|some m=>rw[hmt]at cm;have cp:=sX c w (bZ c (bP c kind false (kZ c e w)));by_cases ho:e.op=2;have b1:=tE ho;have hn:=Ot he ho;have cb:=QV c (bP c kind false (kZ c e w)) e.n m (by rw[hf2];omega) (by rw[hf2];omega);dsimp only;rw[ak ho];exact KR;have b1:=fE ho;dsimp only;rw[Z ho];exact KR
def KE(h:G:=by refine fo Tryz.func283 ?_;exact bp):=h
def abt(f:Fa):C 345 [aZ f,cy zEx] (.bS [it (qg f zEx).1,it (qg f zEx).2.1,bo (qg f zEx).2.2]):=by
 have e:qg f zEx=(0,0,false):=by simp[qg,zEx,Ex.op]
 rw[e];exact ED
def rb{c:Wc}{w:Wk}(hc:kf c)(hf:pT c.d w.f)(hn:0<=c.s.n∧c.s.n<c.d.vars)(a:Av):aj prog 284 [.ptr 1000 0,ai a] (bZ c w) (.bS []) (bZ c (gW c a w)):=agj c w a _ (abv hc.d hf c.s.n hn a (.inl rfl) (abt w.f))
def asb{vars na:Int}{k:Nat}{e:Ex}{z:Nat}(he:kh vars na k e z):∃k0,k=k0+1:=by cases he<;>exact nF
def Hw{vars na:Int}{k:Nat}{e:Ex}{z:Nat}(he:kh vars na k e z){m:Int}(hm:0<=m∧m<na):En vars na (k+2) (.mk 6 [] [Yh e,JI m e]) (1+(1+1+z)+(1+z+1)):=by obtain⟨k0,rfl⟩:=asb he;exact .and E (.test E (.num E) he) (.test E he (.len hm))
def P7{c:Wc}{w:Wk}(hc:kf c)(hw:ic c w){k:Nat}{z:Nat}(he:kh c.d.vars c.d.aK.length k c.s.x z)(hn:0<=c.s.m∧c.s.m<c.d.aK.length):aj prog 283 [.ptr 1000 0] (bZ c w) (cV (jg c w) (.bS [])) (bZ c (jg c w).1):=by
 have c1:=CV hc hw he;have hv:=sQ hc hw he;have ci:=SP hc.d hw.f c.s.m hn (iP c c.s.x w) hv he;have hw1:=hw.set (c:=c) he;have cf:=sa hw1 1 false;have ca:=Dy hc.d (Hw he hn) (.inr hw.f) true;have hfk:=mZ hc.d.J9 (Hw he hn) (.inr hw.f) true;have eC:fO (.mk 6 [] [Yh c.s.x,JI c.s.m c.s.x])= .agg [it 6,.sl 4 [] false,.sl 3 [.agg [it 3,.sl 4 [.agg [it 1,it 0,it 0,.sl 4 [] false],cy c.s.x] false,.sl 3 [] false],.agg [it 2,.sl 4 [cy c.s.x,.agg [it 3,it c.s.m,it 0,.sl 4 [] false]] false,.sl 3 [] false]] false]:=by simp[fO,cC,Yh,JI,Cq,rC,jK,rE,Wm,cy,cE,Co.op,Co.a,Co.c]
 rw[eC]at ca;unfold jg cV;by_cases hi:aef c.d w.f c.s.m c.s.x (iP c c.s.x w)=true;rw[ak hi];rw[hi]at ci;generalize iP c c.s.x w=A at*;exact KE;have hi' :aef c.d w.f c.s.m c.s.x (iP c c.s.x w)=false:=uN
 rw[Z hi];rw[hi']at ci;generalize iP c c.s.x w=A at*;generalize da c.d (.mk 6 [] [Yh c.s.x,JI c.s.m c.s.x]) w.f true=F at*;obtain⟨U,hU⟩:∃U,kZ c c.s.x w={w with us:=U}:=⟨_,rfl⟩;rw[hU]at c1 cf ⊢;obtain⟨D,hD⟩:∃D,bP c 1 false {w with us:=U}={w with us:=U,fd:=D}:=⟨_,rfl⟩;rw[hD]at cf ⊢;dsimp only;by_cases hdd:F.dead=true;have cp:=pL c w (bZ c {w with us:=U,fd:=D,f:=F});rw[ak hdd];obtain⟨fd,fv,fg,fr,fa,fm,fy,fp⟩:=F;dsimp only at hdd;subst hdd;exact KE;have arn :F.dead=false:=(by simpa using hdd);have cp:=sX c w (bZ c {w with us:=U,fd:=D,f:=F});rw[Z hdd];obtain⟨fd,fv,fg,fr,fa,fm,fy,fp⟩:=F;dsimp only at arn;subst arn;exact KE
def MP:=@List.length_range
def RE(h:G:=by refine run ?_;have qV:=aL (λu=>some (au.agg (cW c {w with Au:=ag,ps:=u}))) hst;have Iu:=aL (λu=>some (Row.mk 3 true (u.map bQ))) hst;exact y_ hb1):=h
def TK(h:G:=by simp only[sN,fw];omega):=h
def ai4{site may aQ:Int}{a:Nat}{ps:List Pa}(h:IX fZ ps)(b:Nat):IX fZ (IG site may aQ a ps b):=by unfold IG;split;exact h.ins HY;exact h
def acj{site may aQ:Int}{a:Nat}{ps:List Pa}(b:Nat):(IG site may aQ a ps b).length<=ps.length+1:=by unfold IG;split;exact Hz;omega
theorem an2{site may aQ:Int}{a:Nat}:∀{l:List Nat} {ps:List Pa},IX fZ ps->IX fZ (l.foldl (IG site may aQ a) ps)∧(l.foldl (IG site may aQ a) ps).length<=ps.length+l.length|[],ps,h=>⟨h,O⟩|b::l,ps,h=>by have h1:=an2 (site:=site) (may:=may) (aQ:=aQ) (a:=a) (l:=l) (ai4 (site:=site) (may:=may) (aQ:=aQ) (a:=a) h b);have h2:=acj (site:=site) (may:=may) (aQ:=aQ) (a:=a) (ps:=ps) b;exact⟨h1.1,by have:=h1.2;exact TK⟩
theorem akx{site may aQ:Int}:∀{l:List Nat} {ps:List Pa},IX fZ ps->IX fZ (l.foldl (GQ site may aQ) ps)∧(l.foldl (GQ site may aQ) ps).length<=ps.length+8*l.length
 |[],ps,h=>⟨h,O⟩
 |b::l,ps,h=>by
  have h0:=an2 (site:=site) (may:=may) (aQ:=aQ) (a:=b) (l:=List.range 8) h;have h1:=akx (site:=site) (may:=may) (aQ:=aQ) (l:=l) (ps:=GQ site may aQ ps b) h0.1;refine⟨h1.1,?_⟩;have h2:=h1.2;have h3:(GQ site may aQ ps b).length<=ps.length+8:=by have:=h0.2;rwa[MP]at this
  exact TK
def abh{c:Wc}{w:Wk}(hw:ic c w)(hl:w.ps.length+64<2^32)(aQ:Int)(hlk:0<=aQ∧aQ<2^60)(hwl:0<=w.Au∧w.Au<2^60):aj prog 357 [.ptr 1000 0,it aQ] (bZ c w) (.bS []) (bZ c (nJ c aQ w)):=by
 have e1:=BO w.Au aQ;have e2:=sY (a:=w.Au) (b:=aQ) (n:=60) E hwl.1 E hlk.1 E;have hmay:=hw.f.may;unfold nJ;generalize hO:iQ w.Au aQ=ag at*;obtain⟨P,hP0,hPs,hPn,hPe,hPk⟩:∃P:Nat->Nat->List Pa,P 0 0=w.ps∧(∀a b,b<8->IG c.s.site w.f.may aQ a (P a b) b=P a (b+1))∧(∀a,a<8->P a 8=P (a+1) 0)∧P 8 0=akv c.s.site w.f.may aQ w.ps∧(∀a b,a<=8->b<=8->a*8+b<=64->IX fZ (P a b)∧(P a b).length<=w.ps.length+64):=by refine⟨λa b=>(List.range b).foldl (IG c.s.site w.f.may aQ a) ((List.range a).foldl (GQ c.s.site w.f.may aQ) w.ps),rfl,λa b _=> ?_,λa _=> ?_,rfl,λa b ha hb hab=> ?_⟩;dsimp only;rw[uZ,Bi];rfl;show _=(List.range (a+1)).foldl (GQ c.s.site w.f.may aQ) w.ps;rw[show List.range (a+1)=List.range a++[a] from uZ,Bi];rfl;have h1:=akx (site:=c.s.site) (may:=w.f.may) (aQ:=aQ) (l:=List.range a) hw.ps;have h2:=an2 (site:=c.s.site) (may:=w.f.may) (aQ:=aQ) (a:=a) (l:=List.range b) h1.1;refine⟨h2.1,?_⟩;have h3:=h1.2;have h4:=h2.2;simp only[MP]at h3 h4;exact bu
 obtain⟨FA,hFA⟩:∃FA:Nat->Int,∀a:Nat,(((BitVec.ofInt IntKind.i64.bits (w.f.may.fdiv (2^(min (Int.toNat (a:Int)) IntKind.i64.bits)))&&&BitVec.ofInt IntKind.i64.bits 1).toNat:Nat):Int)=FA a∧(0<=FA a∧FA a<2^1)∧uc w.f.may a=(FA a==1):=⟨λa=>a_ (w.f.may.fdiv (2^(min (Int.toNat (a:Int)) IntKind.i64.bits))) 1,λa=>⟨ov _ _,iZ (n:=1) E E E,rfl⟩⟩;obtain⟨FB,hFB⟩:∃FB:Nat->Int,∀b:Nat,(((BitVec.ofInt IntKind.i64.bits (aQ.fdiv (2^(min (Int.toNat (b:Int)) IntKind.i64.bits)))&&&BitVec.ofInt IntKind.i64.bits 1).toNat:Nat):Int)=FB b∧(0<=FB b∧FB b<2^1)∧uc aQ b=(FB b==1):=⟨λb=>a_ (aQ.fdiv (2^(min (Int.toNat (b:Int)) IntKind.i64.bits))) 1,λb=>⟨ov _ _,iZ (n:=1) E E E,rfl⟩⟩;rw[<-hPe];have hc0:bZ c {w with Au:=ag}=bZ c {w with Au:=ag,ps:=P 0 0}:=by rw[hP0]
 have hw0:w.ps=P 0 0:=hP0.symm;have hc1:bZ c w=bZ c {w with ps:=P 0 0}:=by rw[hP0]
 rw[hc1];refine fo func357 ?_;refine run ?_;refine bF.mk ⟨[],aY.np 8 (λ_=>True) (λa=>⟨[(16,it a)],[(1000,.agg (cW c {w with Au:=ag,ps:=P a 0}))],[(1001,⟨3,true,(P a 0).map bQ⟩)]⟩) trivial ?_⟩;intro a ha hJ;by_cases ha1:a<8;have b1:decide ((a:Int)<8)=true:=az
 have hn:=hPn a ha1;refine run ?_;refine bF.mk ⟨[],aY.np 8 (λ_=>True) (λb=>⟨[(19,it b)],[(1000,.agg (cW c {w with Au:=ag,ps:=P a b}))],[(1001,⟨3,true,(P a b).map bQ⟩)]⟩) trivial ?_⟩;intro b hb hJ2;by_cases hb1:b<8;have b2:decide ((b:Int)<8)=true:=az;have hpk:=hPk a b E E E;have hst:=hPs a b hb1;unfold IG at hst;rw[(hFA a).2.2,(hFB b).2.2]at hst;have fa:=hFA a;have fb:=hFB b;have e3:=fa.1;have e4:=fa.2.1;have e5:=fb.1;have e6:=fb.2.1;have cp:=acn (c:=c) (w:={w with Au:=ag,ps:=P a b}) ⟨hw.f,hw.fd,hw.fk,hpk.1,hw.us,hw.um⟩ bu a b;unfold vT at cp;dsimp only at cp;by_cases hab:a=b;have q1:((a:Int) !=(b:Int))=false:=(by rw[hab];simp);rw[Z (by rw[hab];simp)]at hst;exact RE;have q1:((a:Int) !=(b:Int))=true:=az;have q0:(!(a==b))=true:=by simpa using hab
 rw[q0,Bool.true_and]at hst;by_cases h1:(FA a==1)=true;by_cases h2:(FB b==1)=true;rw[ak (by rw[h1,h2];rfl)]at hst;rw[hst]at cp;refine aM ?_;exact y_ hb1;have h2' :(FB b==1)=false:=nE;rw[Z (by rw[h1,h2'];simp)]at hst;exact RE;have h1' :(FA a==1)=false:=gK;rw[Z (by rw[h1'];simp)]at hst;exact RE;have b2:decide ((b:Int)<8)=false:=az;have hbb:b=8:=E
 subst hbb;refine run ?_;have qV:=aL (λu=>some (au.agg (cW c {w with Au:=ag,ps:=u}))) hn;have Iu:=aL (λu=>some (Row.mk 3 true (u.map bQ))) hn;exact y_ ha1;have b1:decide ((a:Int)<8)=false:=az
 have haa:a=8:=E
 subst haa;exact bz
def RV(h:G:=by unfold bP;split;exact⟨w.fd,rfl⟩;exact nF):=h
def Ui(h:G:=by generalize a_ w.f.ei (IntKind.i64.wrap (1*2^(min c.s.m.toNat IntKind.i64.bits)))=A1 at*;generalize a_ w.f.may (IntKind.i64.wrap (1*2^(min c.s.m.toNat IntKind.i64.bits)))=A2 at*;refine fo Tryz.func288 ?_;exact bp):=h
def V7(c:Wc)(w:Wk)(bits:Int):aj prog 291 [.ptr 1000 0,it bits] (bZ c w) (.bS []) (bZ c (gj bits w)):=by
 unfold gj;by_cases h:bits=0;have b1:(bits !=0)=false:=by rw[h];rfl
 rw[ak h];refine fo func291 ?_;exact bz;have b1:(bits !=0)=true:=eQ
 rw[Z h];refine fo func291 ?_;exact bz
def Al{m:Int}(h:0<=m∧m<16):0<gw m∧gw m<2^16:=by
 have:m=0∨m=1∨m=2∨m=3∨m=4∨m=5∨m=6∨m=7∨m=8∨m=9∨m=10∨m=11∨m=12∨m=13∨m=14∨m=15:=E
 rcases this with rfl|rfl|rfl|rfl|rfl|rfl|rfl|rfl|rfl|rfl|rfl|rfl|rfl|rfl|rfl|rfl<;>decide
def adz{c:Wc}{w:Wk}(hw:ic c w)(hl:w.ps.length+64<2^32)(hop:c.s.op=16∨c.s.op=17)(hm' :0<=c.s.m∧c.s.m<8)(hwl:0<=w.Au∧w.Au<2^60):aj prog 288 [.ptr 1000 0] (bZ c w) (cV (ta c w) (.bS [])) (bZ c (ta c w).1):=by
 have hb:=Al (m:=c.s.m) E;have hmu:=hw.f.ei;have hma:=hw.f.may;have hm0:=hm'.1;unfold ta cV Rs.and;unfold gw at hb ⊢;have e1:=ov w.f.ei (IntKind.i64.wrap (1*2^(min c.s.m.toNat IntKind.i64.bits)));have e2:=ov w.f.may (IntKind.i64.wrap (1*2^(min c.s.m.toNat IntKind.i64.bits)));have d1:=iZ (a:=w.f.ei) (b:=(IntKind.i64.wrap (1*2^(min c.s.m.toNat IntKind.i64.bits)))) (n:=16) E E hb.2;have d2:=iZ (a:=w.f.may) (b:=(IntKind.i64.wrap (1*2^(min c.s.m.toNat IntKind.i64.bits)))) (n:=16) E E hb.2;by_cases ho:c.s.op=17;rw[ak ho];have b1:=tE ho;have e3:=Tm w.f.ei (IntKind.i64.wrap (1*2^(min c.s.m.toNat IntKind.i64.bits)));have e4:=Tm w.f.may (IntKind.i64.wrap (1*2^(min c.s.m.toNat IntKind.i64.bits)));have d3:=CB (a:=w.f.ei) (b:=(IntKind.i64.wrap (1*2^(min c.s.m.toNat IntKind.i64.bits)))) (n:=16) E E E;have d4:=CB (a:=w.f.may) (b:=(IntKind.i64.wrap (1*2^(min c.s.m.toNat IntKind.i64.bits)))) (n:=16) E E E;have cf:=sa hw 5 (!(a_ w.f.ei (IntKind.i64.wrap (1*2^(min c.s.m.toNat IntKind.i64.bits)))==0));obtain⟨D,hD⟩:∃D,bP c 5 (!(a_ w.f.ei (IntKind.i64.wrap (1*2^(min c.s.m.toNat IntKind.i64.bits)))==0)) w={w with fd:=D}:=RV
 rw[hD]at cf ⊢;dsimp only;by_cases hp:a_ w.f.may (IntKind.i64.wrap (1*2^(min c.s.m.toNat IntKind.i64.bits)))=0;have p1:(!(a_ w.f.may (IntKind.i64.wrap (1*2^(min c.s.m.toNat IntKind.i64.bits)))==0))=false:=Lu;have cp:aj prog 292 [.ptr 1000 0,bo (a_ w.f.may (IntKind.i64.wrap (1*2^(min c.s.m.toNat IntKind.i64.bits))) !=0)] (bZ c {w with fd:=D}) (vw 347) (bZ c {w with fd:=D}):=by rw[show(a_ w.f.may (IntKind.i64.wrap (1*2^(min c.s.m.toNat IntKind.i64.bits))) !=0)=false from p1];exact Ev
 rw[p1];exact Ui;have p1:(!(a_ w.f.may (IntKind.i64.wrap (1*2^(min c.s.m.toNat IntKind.i64.bits)))==0))=true:=qp;have cp:aj prog 292 [.ptr 1000 0,bo (a_ w.f.may (IntKind.i64.wrap (1*2^(min c.s.m.toNat IntKind.i64.bits))) !=0)] (bZ c {w with fd:=D}) (.bS []) (bZ c {w with fd:=D}):=by rw[show(a_ w.f.may (IntKind.i64.wrap (1*2^(min c.s.m.toNat IntKind.i64.bits))) !=0)=true from p1];exact Eu
 rw[p1];show aj prog 288 [.ptr 1000 0] (bZ c w) (.bS []) (bZ c {w with fd:=D,f:={w.f with ei:=kq w.f.ei (IntKind.i64.wrap (1*2^(min c.s.m.toNat IntKind.i64.bits))),may:=kq w.f.may (IntKind.i64.wrap (1*2^(min c.s.m.toNat IntKind.i64.bits)))}});generalize a_ w.f.ei (IntKind.i64.wrap (1*2^(min c.s.m.toNat IntKind.i64.bits)))=A1 at*;generalize a_ w.f.may (IntKind.i64.wrap (1*2^(min c.s.m.toNat IntKind.i64.bits)))=A2 at*;generalize kq w.f.ei (IntKind.i64.wrap (1*2^(min c.s.m.toNat IntKind.i64.bits)))=A3 at*;generalize kq w.f.may (IntKind.i64.wrap (1*2^(min c.s.m.toNat IntKind.i64.bits)))=A4 at*;refine fo func288 ?_;exact bp;rw[Z ho];have b1:=fE ho;have e3:=BO w.f.ei (IntKind.i64.wrap (1*2^(min c.s.m.toNat IntKind.i64.bits)));have e4:=BO w.f.may (IntKind.i64.wrap (1*2^(min c.s.m.toNat IntKind.i64.bits)));have d3:=sY (a:=w.f.ei) (b:=(IntKind.i64.wrap (1*2^(min c.s.m.toNat IntKind.i64.bits)))) (n:=16) E E E E E;have d4:=sY (a:=w.f.may) (b:=(IntKind.i64.wrap (1*2^(min c.s.m.toNat IntKind.i64.bits)))) (n:=16) E E E E E;have hw1:=hw.find (c:=c) (k:=4) E (a_ w.f.may (IntKind.i64.wrap (1*2^(min c.s.m.toNat IntKind.i64.bits)))==0);have cf:=sa hw 4 (a_ w.f.may (IntKind.i64.wrap (1*2^(min c.s.m.toNat IntKind.i64.bits)))==0);obtain⟨D,hD⟩:∃D,bP c 4 (a_ w.f.may (IntKind.i64.wrap (1*2^(min c.s.m.toNat IntKind.i64.bits)))==0) w={w with fd:=D}:=RV
 rw[hD]at cf hw1 ⊢;have ct:=abh hw1 hl (IntKind.i64.wrap (1*2^(min c.s.m.toNat IntKind.i64.bits))) E hwl;obtain⟨ag,P,hT⟩:∃ag P,nJ c (IntKind.i64.wrap (1*2^(min c.s.m.toNat IntKind.i64.bits))) {w with fd:=D}={w with fd:=D,Au:=ag,ps:=P}:=⟨_,_,rfl⟩;rw[hT]at ct;dsimp only;by_cases hp:a_ w.f.ei (IntKind.i64.wrap (1*2^(min c.s.m.toNat IntKind.i64.bits)))=0;have p1:(a_ w.f.ei (IntKind.i64.wrap (1*2^(min c.s.m.toNat IntKind.i64.bits)))==0)=true:=Lu;have cp:aj prog 292 [.ptr 1000 0,bo (a_ w.f.ei (IntKind.i64.wrap (1*2^(min c.s.m.toNat IntKind.i64.bits)))==0)] (bZ c {w with fd:=D}) (.bS []) (bZ c {w with fd:=D}):=by rw[p1];exact Eu
 have hT' :=hT;rw[p1];show aj prog 288 [.ptr 1000 0] (bZ c w) (.bS []) (bZ c ((λw:Wk=>{w with f:={w.f with ei:=iQ w.f.ei (IntKind.i64.wrap (1*2^(min c.s.m.toNat IntKind.i64.bits))),may:=iQ w.f.may (IntKind.i64.wrap (1*2^(min c.s.m.toNat IntKind.i64.bits)))}}) (nJ c (IntKind.i64.wrap (1*2^(min c.s.m.toNat IntKind.i64.bits))) {w with fd:=D})));rw[hT];dsimp only;generalize a_ w.f.ei (IntKind.i64.wrap (1*2^(min c.s.m.toNat IntKind.i64.bits)))=A1 at*;generalize a_ w.f.may (IntKind.i64.wrap (1*2^(min c.s.m.toNat IntKind.i64.bits)))=A2 at*;generalize iQ w.f.ei (IntKind.i64.wrap (1*2^(min c.s.m.toNat IntKind.i64.bits)))=A3 at*;generalize iQ w.f.may (IntKind.i64.wrap (1*2^(min c.s.m.toNat IntKind.i64.bits)))=A4 at*;refine fo func288 ?_;exact bp;have p1:(a_ w.f.ei (IntKind.i64.wrap (1*2^(min c.s.m.toNat IntKind.i64.bits)))==0)=false:=qp;have cp:aj prog 292 [.ptr 1000 0,bo (a_ w.f.ei (IntKind.i64.wrap (1*2^(min c.s.m.toNat IntKind.i64.bits)))==0)] (bZ c {w with fd:=D}) (vw 347) (bZ c {w with fd:=D}):=by rw[p1];exact Ev
 rw[p1];show aj prog 288 [.ptr 1000 0] (bZ c w) (vw 347) (bZ c {w with fd:=D});exact Ui
def KM(h:G:=by generalize aP w c.s.m=R at*;refine fo Tryz.func287 ?_;exact bp):=h
def tj(c:Wc)(k:Int)(b:Bool)(w:Wk):∃D,bP c k b w={w with fd:=D}:=RV
def G'{c:Wc}{w:Wk}(hw:ic c w)(n:Int)(hn:0<=n∧n.toNat<w.f.refs.length):∃D,ic c {w with fd:=D}∧((aP w n).s=1∧iT c n w=({w with fd:=D},true)∧aj prog 355 [.ptr 1000 0,it n] (bZ c w) (vw 347) (bZ c {w with fd:=D})∨(aP w n).s≠1∧iT c n w=({w with fd:=D},false)∧aj prog 355 [.ptr 1000 0,it n] (bZ c w) (ai (aP w n).a) (bZ c {w with fd:=D})):=by
 have cn:=ane hw n hn;have hw1:=hw.find (c:=c) (k:=2) E (a_ (aP w n).s 1==0);obtain⟨D,hD⟩:=tj c 2 (a_ (aP w n).s 1==0) w;rw[hD]at hw1;refine⟨D,hw1,?_⟩;unfold cV at cn;unfold iT p_ at cn ⊢;rw[hD]at cn ⊢;by_cases hs:(aP w n).s=1;have b1:(!((aP w n).s==1))=false:=by rw[hs];rfl
 rw[b1]at cn ⊢;exact .inl ⟨hs,rfl,cn⟩;have b1:(!((aP w n).s==1))=true:=qo
 rw[b1]at cn ⊢;exact .inr ⟨hs,rfl,cn⟩
def af3{c:Wc}{w:Wk}(hw:ic c w)(n:Int)(a:Av)(hn:0<=n∧n.toNat<w.f.refs.length)(hl:w.f.refs.length<=1048576):∃D,ic c {w with fd:=D}∧((aP w n).s=2∧sb c n a w=({w with fd:=D},true)∧aj prog 353 [.ptr 1000 0,it n,ai a] (bZ c w) (vw 347) (bZ c {w with fd:=D})∨(aP w n).s≠2∧sb c n a w=(eg n 2 a {w with fd:=D},false)∧aj prog 353 [.ptr 1000 0,it n,ai a] (bZ c w) (.bS []) (bZ c (eg n 2 a {w with fd:=D}))):=by
 have cn:=aob hw n a hn hl;have hw1:=hw.find (c:=c) (k:=3) E (a_ (aP w n).s 2==0);obtain⟨D,hD⟩:=tj c 3 (a_ (aP w n).s 2==0) w;rw[hD]at hw1;refine⟨D,hw1,?_⟩;unfold cV at cn;unfold sb p_ Rs.and at cn ⊢;rw[hD]at cn ⊢;by_cases hs:(aP w n).s=2;have b1:(!((aP w n).s==2))=false:=by rw[hs];rfl
 rw[b1]at cn ⊢;exact .inl ⟨hs,rfl,cn⟩;have b1:(!((aP w n).s==2))=true:=qo
 rw[b1]at cn ⊢;exact .inr ⟨hs,rfl,cn⟩
def Rs.xB(w:Wk)(k:Wk->Rs):Rs.and (w,false) k=k w:=by unfold Rs.and;exact Z O
def Rs.CA(w:Wk)(k:Wk->Rs):Rs.and (w,true) k=(w,true):=by unfold Rs.and;exact ak rfl
def pT.yv{d:Df}{f:Fa}(h:pT d f)(hd:yR d):f.refs.length<=1048576:=by have:=h.refs;have:=hd.refs;omega
section
variable{c:Wc}{w:Wk}
def adh(hc:kf c)(hw:ic c w)(ho:c.s.op=6)(hn:0<=c.s.n∧c.s.n<c.d.refs):aj prog 287 [.ptr 1000 0] (bZ c w) (cV (gF c w) (.bS [])) (bZ c (gF c w).1):=by
 have b1:=tE ho;have hr:=hw.f.refs;obtain⟨D,hD,h⟩:=af3 hw c.s.n zR E (hw.f.yv hc.d);unfold gF cV;rw[ak ho];rcases h with⟨_,e,cf⟩|⟨_,e,cf⟩<;>rw[e]
 ·refine fo func287 ?_;refine run ?_;repeat((apply aE;first|exact(sE)|exact(cf));refine run ?_)
  exact aG
 ·refine fo func287 ?_;refine run ?_;repeat((apply aE;first|exact(sE)|exact(cf));refine run ?_)
  exact aG
def X7(hc:kf c)(hw:ic c w)(ho:c.s.op=7)(hn:0<=c.s.n∧c.s.n<c.d.refs):aj prog 287 [.ptr 1000 0] (bZ c w) (cV (gF c w) (.bS [])) (bZ c (gF c w).1):=by
 have b0:=fE (show c.s.op≠6 by omega);have b1:=tE ho;have hr:=hw.f.refs;obtain⟨D,hD,h⟩:=G' hw c.s.n E;have cr:=rQ c {w with fd:=D} c.s.n 1 zR bu (hw.f.yv hc.d);unfold gF cV Rs.and;rw[Z (show c.s.op≠6 by omega),ak ho];rcases h with⟨_,e,cf⟩|⟨_,e,cf⟩<;>rw[e]
 ·refine fo func287 ?_;refine run ?_;repeat((apply aE;first|exact(sE)|exact(cf));refine run ?_)
  exact aG
 ·show aj prog 287 [.ptr 1000 0] (bZ c w) (.bS []) (bZ c (eg c.s.n 1 zR {w with fd:=D}));refine fo func287 ?_;refine run ?_;repeat((apply aE;first|exact(sE)|exact(cf)|exact(cr));refine run ?_)
  exact aG
def adg(hc:kf c)(hw:ic c w)(ho:c.s.op=9)(hn:0<=c.s.n∧c.s.n<c.d.refs){k:Nat}{z:Nat}(he:kh c.d.vars c.d.aK.length k c.s.x z):aj prog 287 [.ptr 1000 0] (bZ c w) (cV (gF c w) (.bS [])) (bZ c (gF c w).1):=by
 have b0:=fE (show c.s.op≠6 by omega);have b7:=fE (show c.s.op≠7 by omega);have b8:=fE (show c.s.op≠8 by omega);have b1:=tE ho;have hr:=hw.f.refs;obtain⟨D,hD,h⟩:=G' hw c.s.n E;have cs:=CV hc hD he;have cr:=rQ c (kZ c c.s.x {w with fd:=D}) c.s.n 2 (iP c c.s.x {w with fd:=D}) (by show _∧_<w.f.refs.length;omega) (hw.f.yv hc.d);unfold gF cV Rs.and;rw[Z (show c.s.op≠6 by omega),Z (show c.s.op≠7 by omega),Z (show c.s.op≠8 by omega),ak ho];rcases h with⟨_,e,cf⟩|⟨_,e,cf⟩<;>rw[e]
 ·refine fo func287 ?_;refine run ?_;repeat((apply aE;first|exact(sE)|exact(cf));refine run ?_)
  exact aG
 show aj prog 287 [.ptr 1000 0] (bZ c w) (.bS []) (bZ c (eg c.s.n 2 (iP c c.s.x {w with fd:=D}) (kZ c c.s.x {w with fd:=D})));obtain⟨U,hU⟩:∃U,kZ c c.s.x {w with fd:=D}={w with fd:=D,us:=U}:=⟨_,rfl⟩;rw[hU]at cs cr ⊢;generalize iP c c.s.x {w with fd:=D}=A at*;refine fo func287 ?_;exact bp
def adi(hc:kf c)(hw:ic c w)(ho:c.s.op=10)(hn:0<=c.s.m∧c.s.m<c.d.refs)(hv:0<=c.s.n∧c.s.n<c.d.vars):aj prog 287 [.ptr 1000 0] (bZ c w) (cV (gF c w) (.bS [])) (bZ c (gF c w).1):=by
 have b0:=fE (show c.s.op≠6 by omega);have b7:=fE (show c.s.op≠7 by omega);have b8:=fE (show c.s.op≠8 by omega);have b9:=fE (show c.s.op≠9 by omega);have b1:=tE ho;have hr:=hw.f.refs;obtain⟨D,hD,h⟩:=G' hw c.s.m E;have ha:aR (aP w c.s.m).a:=by
  unfold aP;have hlt:c.s.m.toNat<w.f.refs.length:=E
  have e:w.f.refs.getD c.s.m.toNat ⟨0,zR⟩=w.f.refs[c.s.m.toNat]:=by simp[hlt]
  rw[e];exact(hw.f.ra _ (cU hlt)).a
 have hL:pT c.d (eg c.s.m 2 (aP w c.s.m).a {w with fd:=D}).f:=by have h:=hw.f;exact⟨h.live,h.v,h.va,h.ju,by show(List.set _ _ _).length=_;rw[rG];exact h.refs,mem_set h.ra _ ⟨⟨by show(1:Int)<=2;omega,by show(2:Int)<=3;omega⟩,ha,λe=>by have e:(2:Int)=1:=e;omega⟩,h.arr,h.aa,h.ei,h.may,h.parts,h.sub⟩
 have cr:=rQ c {w with fd:=D} c.s.m 2 (aP w c.s.m).a bu (hw.f.yv hc.d);have ca:=rb hc hL hv (aP w c.s.m).a;unfold gF cV Rs.and;rw[Z (show c.s.op≠6 by omega),Z (show c.s.op≠7 by omega),Z (show c.s.op≠8 by omega),Z (show c.s.op≠9 by omega),ak ho];rcases h with⟨_,e,cf⟩|⟨_,e,cf⟩<;>rw[e]
 ·refine fo func287 ?_;refine run ?_;repeat((apply aE;first|exact(sE)|exact(cf));refine run ?_)
  exact aG
 show aj prog 287 [.ptr 1000 0] (bZ c w) (.bS []) (bZ c (gW c (aP w c.s.m).a (eg c.s.m 2 (aP w c.s.m).a {w with fd:=D})));generalize gW c (aP w c.s.m).a (eg c.s.m 2 (aP w c.s.m).a {w with fd:=D})=W3 at*;generalize eg c.s.m 2 (aP w c.s.m).a {w with fd:=D}=W2 at*;exact KM
def X6(hc:kf c)(hw:ic c w)(ho:c.s.op=8)(hn:0<=c.s.n∧c.s.n<c.d.refs)(hm' :0<=c.s.m∧c.s.m<c.d.refs):aj prog 287 [.ptr 1000 0] (bZ c w) (cV (gF c w) (.bS [])) (bZ c (gF c w).1):=by
 have b0:=fE (show c.s.op≠6 by omega);have b7:=fE (show c.s.op≠7 by omega);have b1:=tE ho;have hr:=hw.f.refs;have hrl:=hw.f.yv hc.d;obtain⟨D,hD,h⟩:=G' hw c.s.m E;have hr1:aP {w with fd:=D} c.s.n=aP w c.s.n:=rfl;unfold gF cV;rw[Z (show c.s.op≠6 by omega),Z (show c.s.op≠7 by omega),ak ho];rcases h with⟨_,e,cf⟩|⟨_,e,cf⟩<;>rw[e];show aj prog 287 [.ptr 1000 0] (bZ c w) (vw 347) (bZ c {w with fd:=D});refine fo func287 ?_;exact bp
 ·by_cases hnm:c.s.n=c.s.m;have b2:=tE hnm;have cr:=rQ c {w with fd:=D} c.s.n 2 (aP w c.s.m).a bu hrl;rw[Rs.xB,ak hnm];show aj prog 287 [.ptr 1000 0] (bZ c w) (.bS []) (bZ c (eg c.s.n 2 (aP w c.s.m).a {w with fd:=D}));generalize eg c.s.n 2 (aP w c.s.m).a {w with fd:=D}=W2 at*;exact KM
  ·have b2:=fE hnm;obtain⟨af,hE,h2⟩:=af3 hD c.s.n (aP w c.s.m).a bu hrl;rw[Rs.xB,Z hnm,show aP {w with fd:=D} c.s.m=aP w c.s.m from rfl];rcases h2 with⟨_,e3,ck⟩|⟨_,e3,ck⟩<;>rw[e3];show aj prog 287 [.ptr 1000 0] (bZ c w) (vw 347) (bZ c {w with fd:=af});exact KM
   ·have cr:=rQ c (eg c.s.n 2 (aP w c.s.m).a {w with fd:=af}) c.s.m 1 zR (by show _∧_<(List.set _ _ _).length;rw[rG];exact bu) (by show(List.set _ _ _).length<=_;rw[rG];exact hrl);show aj prog 287 [.ptr 1000 0] (bZ c w) (.bS []) (bZ c (eg c.s.m 1 zR (eg c.s.n 2 (aP w c.s.m).a {w with fd:=af})));dsimp only at ck;generalize eg c.s.m 1 zR (eg c.s.n 2 (aP w c.s.m).a {w with fd:=af})=W3 at*;generalize eg c.s.n 2 (aP w c.s.m).a {w with fd:=af}=W2 at*;generalize aP w c.s.m=R at*;refine fo func287 ?_;refine run ?_;repeat((apply aE;first|exact(cf)|exact(ck)|exact(sE)|exact(cr));refine run ?_)
    exact aG
end
def E'(h:G:=by unfold cZ;simp[hn.2]):=h
def CH(h:G:=by rw[e];exact hr _ (cU hn.2)):=h
def NI{l:List pG}{n:Int}(h:n.toNat<l.length):nth (l.map bc) n.toNat=some (.agg [it (cZ l n).lo,it (cZ l n).hi,it (cZ l n).mask]):=by rw[c_,gQ h];unfold cZ;simp[h,bc]
def acz{l:List Qu}{n:Int}(h:n.toNat<l.length):nth (l.map aon) n.toNat=some (.agg [it (pZ l n).cap,it (pZ l n).r.lo,it (pZ l n).r.hi,it (pZ l n).r.mask]):=by rw[c_,gQ h];unfold pZ;simp[h,aon]
def NK{l:List Int}{n:Int}(h:n.toNat<l.length):nth (l.map it) n.toNat=some (it (dR l n)):=by rw[c_,gQ h];unfold dR;simp[h]
def air(r t:Nat):Nat->List Ad:=λn=>bif Nat.beq n (50000+r)then[.tmp t 0]else[]
section
variable{c:Wc}{w:Wk}
theorem XV(hc:kf c)(hw:ic c w)(ho:c.s.op=5){k:Nat}{z:Nat}(he:kh c.d.vars c.d.aK.length k c.s.x z)(hn:0<=c.s.m∧c.s.m.toNat<c.p.d.globals.length)(hr:∀r∈c.p.d.globals,m7 r):aj prog 286 [.ptr 1000 0] (bZ c w) (cV (rU c w) (.bS [])) (bZ c (rU c w).1):=by
 have b1:=tE ho;have hx:=NI hn.2;have hn0:=hn.1;have hR:m7 (cZ c.p.d.globals c.s.m):=by
  have e:cZ c.p.d.globals c.s.m=c.p.d.globals[c.s.m.toNat]:=E'
  exact CH
 have cn:=Ha hc hw he hR 12 E;unfold rU cV;rw[ak ho];unfold cV at cn;generalize ij c c.s.x (cZ c.p.d.globals c.s.m) 12 w=N at*;obtain⟨W,b⟩:=N;cases b with
 |false=>
  dsimp only[if_false,Bool.false_eq_true]at cn ⊢;generalize cZ c.p.d.globals c.s.m=R at*;refine fo func286 ?_;refine aM ?_;repeat((first|refine bt.at rfl hn0 hx ?_|(apply aE;exact cn));refine run ?_)
  exact aG
 |true=>
  dsimp only[if_true]at cn ⊢;generalize cZ c.p.d.globals c.s.m=R at*;refine d_ hm func286 (λ_=>false) [] (air 3 34) aA ?_;refine run ?_;refine Tt.mk (.inr ?_);refine aM ?_;repeat((first|refine bt.at rfl hn0 hx ?_|(apply aE;exact cn));refine run ?_)
  exact aG
theorem acp(hc:kf c)(hw:ic c w)(ho:c.s.op=18){k:Nat}{z:Nat}(he:kh c.d.vars c.d.aK.length k c.s.x z)(hn:0<=c.s.m∧c.s.m.toNat<c.p.d.eJ.length)(hr:∀q∈c.p.d.eJ,m7 q.r):aj prog 286 [.ptr 1000 0] (bZ c w) (cV (rU c w) (.bS [])) (bZ c (rU c w).1):=by
 have b0:=fE (show c.s.op≠5 by omega);have b1:=tE ho;have hx:=acz hn.2;have hn0:=hn.1;have hR:m7 (pZ c.p.d.eJ c.s.m).r:=by
  have e:pZ c.p.d.eJ c.s.m=c.p.d.eJ[c.s.m.toNat]:=by unfold pZ;simp[hn.2]
  exact CH
 have cn:=Ha hc hw he hR 12 E;unfold rU cV;rw[Z (show c.s.op≠5 by omega),ak ho];unfold cV at cn;generalize ij c c.s.x (pZ c.p.d.eJ c.s.m).r 12 w=N at*;obtain⟨W,b⟩:=N;cases b with
 |false=>
  dsimp only[if_false,Bool.false_eq_true]at cn ⊢;generalize pZ c.p.d.eJ c.s.m=R at*;refine fo func286 ?_;refine aM ?_;repeat((first|refine bt.at rfl hn0 hx ?_|(apply aE;exact cn));refine run ?_)
  exact aG
 |true=>
  dsimp only[if_true]at cn ⊢;generalize pZ c.p.d.eJ c.s.m=R at*;refine d_ hm func286 (λ_=>false) [] (air 5 49) aA ?_;refine run ?_;refine Tt.mk (.inr ?_);refine aM ?_;repeat((first|refine bt.at rfl hn0 hx ?_|(apply aE;exact cn));refine run ?_)
  exact aG
def aco(hc:kf c)(hw:ic c w)(ho:c.s.op=21){k:Nat}{z:Nat}(he:kh c.d.vars c.d.aK.length k c.s.x z)(hn:0<=c.s.m∧c.s.m.toNat<c.p.d.sinks.length)(hr:∀s∈c.p.d.sinks,0<=s∧s<=255):aj prog 286 [.ptr 1000 0] (bZ c w) (cV (rU c w) (.bS [])) (bZ c (rU c w).1):=by
 have b0:=fE (show c.s.op≠5 by omega);have b9:=fE (show c.s.op≠18 by omega);have b1:=tE ho;have hx:=NK hn.2;have hn0:=hn.1;have hS:0<=dR c.p.d.sinks c.s.m∧dR c.p.d.sinks c.s.m<=255:=by
  have e:dR c.p.d.sinks c.s.m=c.p.d.sinks[c.s.m.toNat]:=by unfold dR;simp[hn.2]
  exact CH
 have cs:=CV hc hw he;have hA:=sQ hc hw he;have hw1:=hw.set (c:=c) he;have k0:=hA.k0;have k1:=hA.k1;have hv:=hw.f.v;have hvl:=hc.d.vars;unfold rU cV;rw[Z (show c.s.op≠5 by omega),Z (show c.s.op≠18 by omega),ak ho];obtain⟨U,hU⟩:∃U,kZ c c.s.x w={w with us:=U}:=⟨_,rfl⟩;rw[hU]at cs hw1 ⊢;have e1:=Tm (iP c c.s.x w).mask (dR c.p.d.sinks c.s.m);have d1:=CB (a:=(iP c c.s.x w).mask) (b:=dR c.p.d.sinks c.s.m) (n:=8) E k0 E;have cf:=sa hw1 7 (kq (iP c c.s.x w).mask (dR c.p.d.sinks c.s.m)==0);obtain⟨D,hD⟩:=tj c 7 (kq (iP c c.s.x w).mask (dR c.p.d.sinks c.s.m)==0) {w with us:=U};rw[hD]at cf ⊢;by_cases hx2:c.s.x.op=2
 ·have b2:=tE hx2;have hvn:=Ot he hx2;have hxv:=vA (f:=w.f) (n:=c.s.x.n) E;have au7:=hvn.1;have e2:=ov (gV w.f c.s.x.n).mask (dR c.p.d.sinks c.s.m);have d2:=iZ (a:=(gV w.f c.s.x.n).mask) (b:=dR c.p.d.sinks c.s.m) (n:=8) E hS.1 E;have cb:=QV c {w with us:=U,fd:=D} c.s.x.n (Ww (gV w.f c.s.x.n) (dR c.p.d.sinks c.s.m)) bu bu;rw[ak hx2];generalize hB:vN c.s.x.n (Ww (gV w.f c.s.x.n) (dR c.p.d.sinks c.s.m)) {w with us:=U,fd:=D}=W3 at*;unfold Ww ai at cb;dsimp only at cb;generalize iP c c.s.x w=A at*;generalize a_ (gV w.f c.s.x.n).mask (dR c.p.d.sinks c.s.m)=M at*;generalize kq A.mask (dR c.p.d.sinks c.s.m)=M2 at*;generalize dR c.p.d.sinks c.s.m=S at*;generalize gV w.f c.s.x.n=G at*;obtain⟨g1,g2,g3,g4,g5⟩:=G;dsimp only at cb e2 hxv;refine fo func286 ?_;refine aM ?_;repeat((first|refine bt.at rfl hn0 hx ?_|refine bt.at rfl au7 hxv ?_|(apply aE;first|exact cs|exact cf|exact cb));refine run ?_)
  exact aG
 ·have b2:=fE hx2;rw[Z hx2];generalize iP c c.s.x w=A at*;generalize kq A.mask (dR c.p.d.sinks c.s.m)=M2 at*;generalize dR c.p.d.sinks c.s.m=S at*;refine fo func286 ?_;refine aM ?_;repeat((first|refine bt.at rfl hn0 hx ?_|(apply aE;first|exact cs|exact cf));refine run ?_)
  exact aG
def Di(hc:kf c)(hw:ic c w){k:Nat}{z:Nat}(he:kh c.d.vars c.d.aK.length k c.s.x z)(hn:0<=c.s.m∧c.s.m<c.d.aK.length):True∧((jg c w).2=false->ic c (jg c w).1):=by refine⟨trivial,?_⟩;have hfk:=mZ hc.d.J9 (Hw he hn) (.inr hw.f) true;have hw1:=(hw.set (c:=c) he).find (c:=c) (k:=1) E false;unfold jg;split;intro _;exact hw.set he;intro hdd;dsimp only at hdd ⊢;rcases hfk with e|hfk;rw[e]at hdd;cases hdd;exact hw1.OT hfk
end
end Abs
