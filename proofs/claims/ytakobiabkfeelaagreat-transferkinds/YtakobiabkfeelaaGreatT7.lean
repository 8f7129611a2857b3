/- A part of a proof: an abstract machine, proved sound, or contracts of functions. No condition. -/
import Derived.Test.YtakobiabkfeelaaGreatT6
set_option linter.unusedVariables false
set_option linter.unusedSimpArgs false
set_option linter.defProp false
set_option maxRecDepth 100000
set_option maxHeartbeats 4000000
namespace Abs
open Go Go.Proofs
def Ww{G:Prop}(h:G:=by rw[<-vp hs hk1,jL];congr 1;show _=ai ((V.map dU)[k]);rw[List.getElem_map]):G:=h
def Wr{G:Prop}(h:G:=by rw[(hf.jh.row _ (cU h1)).1,(hgo.row _ (cU h2)).1]):G:=h
def PB{G:Prop}(h:G:=by rw[vr (cZ ..).symm,LZ (cZ ..).symm]):G:=h
def PA{G:Prop}(h:G:=by rw[cZ,cZ,kH (cZ ..).symm]):G:=h
def Pp{G:Prop}(h:G:=by rw[cZ,cZ,hml]):G:=h
def Pj{G:Prop}(h:G:=by rw[bW,aI,CE hs hk1];rfl):G:=h
def Ob(es:List au)(h:es≠[])(hl:es.length<=2^32):aj Tryz.prog 180 [.sl 6 es false] fZ (.ref 1000 es.length) ⟨[],[⟨6,true,es⟩]⟩:=by refine eg hm Tryz.func180 (λ_=>false) [true] (λ_=>[]) aB ?_;exact D6
def UR:aj Tryz.prog 180 [.sl 6 [] false] fZ (.sl 6 [] false) fZ:=by refine fo Tryz.func180 ?_;refine run ?_;refine aa4.mk (λ_=> ?_) ?_;exact aT;exact aT
def Qz(a:Av):C 178 [ai a] (ai (dU a)):=by unfold dU;by_cases h:a.lo<a.hi;have b:=tB h;rw[aq h];refine fo Tryz.func178 ?_;exact aT;have b:=fB h;rw[ah h];refine fo Tryz.func178 ?_;exact aT
def tZ(r:Rf):Rf:=⟨r.s,dU r.a⟩
def mZ{α:Type}(_ y:α):α:=y
theorem LZ{α:Type}:∀{a b:List α},a.length=b.length->List.zipWith mZ a b=b|[],[],_=>rfl|x::a,y::b,h=>by simp only[EH,LZ (a:=a) (b:=b) gI,mZ]
def UH(d:Df)(level:Int):C 107 [bQ d,it level,bg gU] (bg gU):=by refine fo Tryz.func107 ?_;exact aT
def drop_2(d:Df)(f:Fa)(hl:f.dead=false)(level:Int)(h:level>=2):C 107 [bQ d,it level,bg f] (bg f):=by have b:=tB h;obtain⟨dead,v1,g1,r1,a1,u1,y1,p1⟩:=f;dsimp only at hl;subst hl;refine fo Tryz.func107 ?_;exact aT
def drop_1(d:Df)(f:Fa)(hl:f.dead=false)(level:Int)(h:¬level>=2)(h1:level>=1)(N G:mY)(hN:C 105 [it d.vars,it ((d.params.map bp).length:Nat)] (dF N))(hG:C 177 [dF f.jh,dF N] (dF G)):C 107 [bQ d,it level,bg f] (bg {f with jh:=G}):=by have b:=fB h;have b2:=tB h1;obtain⟨dead,v1,g1,r1,a1,u1,y1,p1⟩:=f;dsimp only at hl hG ⊢;subst hl;refine fo Tryz.func107 ?_;exact aW
def drop_0n(d:Df)(f:Fa)(hl:f.dead=false)(hv:f.v≠[])(hvn:f.v.length<=1048576)(hr:f.refs=[])(level:Int)(h:¬level>=2)(h1:¬level>=1)(N G:mY)(hN:C 105 [it d.vars,it ((d.params.map bp).length:Nat)] (dF N))(hG:C 177 [dF f.jh,dF N] (dF G)):C 107 [bQ d,it level,bg f] (bg {f with jh:=G,v:=f.v.map dU,refs:=f.refs.map λr=>⟨r.s,dU r.a⟩}):=by
 have b:=fB h;have b2:=fB h1;have c3:=xq (f.v.map ai) (λe=>hv (ze.1 e)) ui;obtain⟨dead,V,g1,RR,a1,u1,y1,p1⟩:=f;dsimp only at hl hG hv hvn c3 hr ⊢;subst hl hr;have c4:=UR;refine eg hm Tryz.func107 (λ_=>false) [] (λn=>bif Nat.beq n 18 then[.aR 5 1]else[]) aB ?_;refine aN ?_;have hvl:(V.map ai).length=V.length:=cZ ..;have e0:V.map ai=(aV mZ V (V.map dU) 0).map ai:=Aw
 have pM:=aL (λx=>some (Row.mk 5 true x)) e0;refine bB.mk ⟨[],aZ.np (V.length) (λ_=>True) (λk=>⟨[(43,it k)],[],[(5340,⟨5,true,(aV mZ V (V.map dU) k).map ai⟩)]⟩) trivial ?_⟩;intro k hk hJ;by_cases hk1:k<V.length
 ·have b3:decide ((k:Int)<((V.map ai).length:Nat))=true:=by exact gw
  have hs:V.length=(V.map dU).length:=(cZ ..).symm;have hml:(aV mZ V (V.map dU) k).length=V.length:=kH hs;have hat:nth ((aV mZ V (V.map dU) k).map ai) k=some (ai V[k]):=Pj
  have hlen:(V.map ai).length=((aV mZ V (V.map dU) k).map ai).length:=Pp
  have es:((aV mZ V (V.map dU) k).map ai).set k (ai (dU V[k]))=(aV mZ V (V.map dU) (k+1)).map ai:=Ww
  have c:=Qz V[k];refine(Exists.intro _ rfl:∃R,R=dU V[k]).elim λR hR=> ?_;rw[<-hR]at c es;refine aN ?_;repeat((first|refine a_.at hlen af hat ?_|refine a_.at rfl af hat ?_);refine run ?_;repeat((apply aE;exact c);refine run ?_))
  exact JJ
 have b3:decide ((k:Int)<((V.map ai).length:Nat))=false:=aA
 have hkk:k=V.length:=af
 subst hkk;have e1:(aV mZ V (V.map dU) V.length).map ai=(V.map dU).map ai:=PB
 have hLn:(V.map ai).length=((aV mZ V (V.map dU) V.length).map ai).length:=PA
 refine run ?_;refine bB.mk ⟨[],aZ.np 0 (λ_=>True) (λk=>⟨[(59,it k)],[],[]⟩) trivial ?_⟩;intro k hk hJ;have hk0:k=0:=af
 subst hk0;have hln:=hLn;refine run ?_;exact fu.mk (aL (λx=>au.agg [bo false,au.sl 5 x false,dF G,.sl 6 [] false,ints a1,it u1,it y1,it p1]) e1) rfl
def drop_0(d:Df)(f:Fa)(hl:f.dead=false)(hv:f.v≠[])(hvn:f.v.length<=1048576)(hr:f.refs≠[]∧f.refs.length<=1048576)(level:Int)(h:¬level>=2)(h1:¬level>=1)(N G:mY)(hN:C 105 [it d.vars,it ((d.params.map bp).length:Nat)] (dF N))(hG:C 177 [dF f.jh,dF N] (dF G)):C 107 [bQ d,it level,bg f] (bg {f with jh:=G,v:=f.v.map dU,refs:=f.refs.map λr=>⟨r.s,dU r.a⟩}):=by
 have b:=fB h;have b2:=fB h1;have c3:=xq (f.v.map ai) (λe=>hv (ze.1 e)) ui;obtain⟨dead,V,g1,RR,a1,u1,y1,p1⟩:=f;dsimp only at hl hG hv hvn c3 hr ⊢;subst hl;have hr0:=hr.1;have c4:=Ob (RR.map aO) (λe=>hr0 (ze.1 e)) (by have:=hr.2;exact ui);refine eg hm Tryz.func107 (λ_=>false) [] (λn=>bif Nat.beq n 18 then[.aR 5 1,.aR 5 3]else[]) aB ?_;refine aN ?_;have hvl:(V.map ai).length=V.length:=cZ ..;have e0:V.map ai=(aV mZ V (V.map dU) 0).map ai:=Aw
 have pM:=aL (λx=>some (Row.mk 5 true x)) e0;refine bB.mk ⟨[],aZ.np (V.length) (λ_=>True) (λk=>⟨[(43,it k)],[],[(5340,⟨5,true,(aV mZ V (V.map dU) k).map ai⟩)]⟩) trivial ?_⟩;intro k hk hJ;by_cases hk1:k<V.length
 ·have b3:decide ((k:Int)<((V.map ai).length:Nat))=true:=by exact gw
  have hs:V.length=(V.map dU).length:=(cZ ..).symm;have hml:(aV mZ V (V.map dU) k).length=V.length:=kH hs;have hat:nth ((aV mZ V (V.map dU) k).map ai) k=some (ai V[k]):=Pj
  have hlen:(V.map ai).length=((aV mZ V (V.map dU) k).map ai).length:=Pp
  have es:((aV mZ V (V.map dU) k).map ai).set k (ai (dU V[k]))=(aV mZ V (V.map dU) (k+1)).map ai:=Ww
  have c:=Qz V[k];refine(Exists.intro _ rfl:∃R,R=dU V[k]).elim λR hR=> ?_;rw[<-hR]at c es;refine aN ?_;repeat((first|refine a_.at hlen af hat ?_|refine a_.at rfl af hat ?_);refine run ?_;repeat((apply aE;exact c);refine run ?_))
  exact JJ
 have b3:decide ((k:Int)<((V.map ai).length:Nat))=false:=aA
 have hkk:k=V.length:=af
 subst hkk;have e1:(aV mZ V (V.map dU) V.length).map ai=(V.map dU).map ai:=PB
 have hLn:(V.map ai).length=((aV mZ V (V.map dU) V.length).map ai).length:=PA
 refine run ?_;have hrl:(RR.map aO).length=RR.length:=cZ ..;have f0:RR.map aO=(aV mZ RR (RR.map tZ) 0).map aO:=Aw
 have pM:=aL (λx=>some (Row.mk 6 true x)) f0;refine bB.mk ⟨[],aZ.np (RR.length) (λ_=>True) (λk=>⟨[(59,it k)],[],[(5370,⟨6,true,(aV mZ RR (RR.map tZ) k).map aO⟩)]⟩) trivial ?_⟩;intro k hk hJ;by_cases hk1:k<RR.length
 ·have b3:decide ((k:Int)<((RR.map aO).length:Nat))=true:=by exact gw
  have hs:RR.length=(RR.map tZ).length:=(cZ ..).symm;have hml:(aV mZ RR (RR.map tZ) k).length=RR.length:=kH hs;have hat:nth ((aV mZ RR (RR.map tZ) k).map aO) k=some (aO RR[k]):=Pj
  have hlen:(RR.map aO).length=((aV mZ RR (RR.map tZ) k).map aO).length:=Pp
  have es:((aV mZ RR (RR.map tZ) k).map aO).set k (aO ⟨RR[k].s,dU RR[k].a⟩)=(aV mZ RR (RR.map tZ) (k+1)).map aO:=by rw[<-vp hs hk1,jL];congr 1;show _=aO ((RR.map tZ)[k]);rw[List.getElem_map];rfl
  have c:=Qz RR[k].a;refine(Exists.intro _ rfl:∃R,R=dU RR[k].a).elim λR hR=> ?_;rw[<-hR]at c es;refine aN ?_;repeat((first|refine a_.at hlen af hat ?_|refine a_.at rfl af hat ?_);refine run ?_;repeat((apply aE;exact c);refine run ?_))
  have pM:=aL (λx=>some (Row.mk 6 true x)) es;exact tM hk1
 have b3:decide ((k:Int)<((RR.map aO).length:Nat))=false:=aA
 have hkk:k=RR.length:=af
 subst hkk;have e2:(aV mZ RR (RR.map tZ) RR.length).map aO=(RR.map tZ).map aO:=PB
 have hLn2:(RR.map aO).length=((aV mZ RR (RR.map tZ) RR.length).map aO).length:=PA
 have hln:=hLn;refine run ?_;exact fu.mk ((aL (λx=>au.agg [bo false,au.sl 5 x false,dF G,.sl 6 ((aV mZ RR (RR.map tZ) RR.length).map aO) false,ints a1,it u1,it y1,it p1]) e1).trans (aL (λx=>au.agg [bo false,fj 5 ai (V.map dU),dF G,.sl 6 x false,ints a1,it u1,it y1,it p1]) e2)) rfl
def LB{d:Df}{f:Fa}(hd:yG d)(hf:se d f)(hN:C 105 [it d.vars,it ((d.params.map bp).length:Nat)] (dF (fM d.vars.toNat d.params.length)))(level:Int):C 107 [bQ d,it level,bg f] (bg (pI d level f)):=by
 rcases hf with rfl|hf;have e:pI d level gU=gU:=by unfold pI;rw[aq (by simp[gU])]
 rw[e];exact UH d level;have hvs:=hd.vars;have hpn:=hd.pn;have hrs:=hd.refs;have hgo:=ET d.vars.toNat d.params.length;have hG:=NM f.jh (fM d.vars.toNat d.params.length) (by rw[hf.jh.len];omega) (GW hf.jh af) (by rw[hf.jh.len,hgo.len]) (λv h1 h2=>Wr) (hf.gne hd);unfold pI;by_cases h2:level>=2;rw[aq (by simp[h2])];exact drop_2 d f hf.live level h2;rw[ah (by simp[hf.live];omega)];by_cases h1:level>=1;rw[aq uo];exact drop_1 d f hf.live level h2 h1 _ _ hN hG;rw[ah aA];have hv:=hf.v;have hvne:f.v≠[]:=λe=>by rw[e]at hv;simp only[km]at hv;omega
 by_cases hr:f.refs=[];have:=drop_0n d f hf.live hvne af hr level h2 h1 _ _ hN hG;rw[hr]at this ⊢;exact this;have hrl:=hf.refs;exact drop_0 d f hf.live hvne af ⟨hr,af⟩ level h2 h1 _ _ hN hG
def Wl{G:Prop}(h:G:=by rw[fA,cZ,mF];exact aA):G:=h
def VF{G:Prop}(h:G:=by refine aN ?_;have pM:=aL (λx=>some (Row.mk 6 true x)) e;have Hx:=aL (λx=>some (bx5 (.ref 20003 (d.params.length+(d.vars.toNat - d.params.length))) (.ref 20010 x) (.ref 19 (((d.aK.map kz).length:Nat):Int).toNat) (fM d.vars.toNat d.params.length) (iD 1 (lZ d)))) eL;exact tM hk1):G:=h
def VC{G:Prop}(h:G:=by refine aN ?_;have pM:=aL (λx=>some (Row.mk 5 true x)) e;have Hx:=aL (λx=>some (bx5 (.ref 20003 x) (.sl 6 [] true) (.ref 19 (((d.aK.map kz).length:Nat):Int).toNat) (fM d.vars.toNat d.params.length) (iD 1 (lZ d)))) eL;exact tM hk1):G:=h
def JH{G:Prop}(h:G:=by rw[jd hk1,eI];rfl):G:=h
def lZ(d:Df):Int:=IntKind.i64.wrap (1*2^(min d.part.toNat IntKind.i64.bits))
def A_(d:Df):List Av:=d.params.map jj++List.replicate (d.vars.toNat - d.params.length) (kv 0 0)
def Ca(d:Df):List Rf:=(d.given.map λr=>(⟨2,jj r⟩:Rf))++List.replicate (d.refs.toNat - d.given.length) ⟨1,kv 0 0⟩
def ku(d:Df):Fa:=⟨false,A_ d,fM d.vars.toNat d.params.length,Ca d,List.replicate d.aK.length 0,0,0,iD 1 (lZ d)⟩
def ES{d:Df}(h:0<=d.part∧d.part<=15):0<=iD 1 (lZ d)∧iD 1 (lZ d)<=65535:=by
 have key:∀n:Fin 16,0<=iD 1 (IntKind.i64.wrap (1*2^(min n.val 64)))∧iD 1 (IntKind.i64.wrap (1*2^(min n.val 64)))<=65535:=az
 exact key ⟨d.part.toNat,af⟩
def RgOk(l:List pL):Prop:=∀r∈l,(-(2^60)<r.lo∧r.lo<2^60)∧(-(2^60)<r.hi∧r.hi<2^60)
def bx5(v r a:au)(N:mY)(P:Int):au:= .agg [bo false,v,dF N,r,a,it 0,it 0,it P]
def start_c{d:Df}(hd:yG d)(hp:RgOk d.params)(hg:RgOk d.given)(hgn:d.given.length<=d.refs)(hpt:0<=d.part∧d.part<=15)(hN:C 105 [it d.vars,it ((d.params.map bp).length:Nat)] (dF (fM d.vars.toNat d.params.length)))(level:Int)(X:Fa)(hD:C 107 [bQ d,it level,bg (ku d)] (bg X)):C 30 [bQ d,it level] (bg X):=by
 have pb:=ES hpt;have pb1:=pb.1;have pb2:=pb.2;have pt1:=hpt.1;have oe:(((BitVec.ofInt IntKind.i64.bits 1|||BitVec.ofInt IntKind.i64.bits (IntKind.i64.wrap (1*2^min d.part.toNat IntKind.i64.bits))).toNat:Nat):Int)=iD 1 (lZ d):=rfl;have hvs:=hd.vars;have hpn:=hd.pn;have hrs:=hd.refs;have han:=hd.an;have hpv:=hd.pv;have hal:(d.aK.map kz).length=d.aK.length:=cZ ..;have hA:0<=((d.aK.map kz).length:Int)∧((d.aK.map kz).length:Int)<=2^20:=by rw[hal];omega
 refine eg hm Tryz.func30 (λ_=>false) [] (λn=>bif Nat.beq n 16 then[.aR 5 1,.aR 5 3,.aR 5 4]else[]) aB ?_;refine aN ?_;refine bB.mk ⟨[.cell 5 1 20003],aZ.np (d.params.length) (λ_=>True) (λk=>⟨[(28,it k)],[(5,bx5 (.ref 20003 k) (.sl 6 [] true) (.ref 19 (((d.aK.map kz).length:Nat):Int).toNat) (fM d.vars.toNat d.params.length) (iD 1 (lZ d)))],[(20003,⟨5,true,(d.params.take k).map (λr=>ai (jj r))⟩)]⟩) trivial ?_⟩;intro k hk hJ;by_cases hk1:k<d.params.length;have b1:decide ((k:Int)<((d.params.map bp).length:Nat))=true:=gw
 have c:=Lf d.params[k] (hp _ (cU hk1)).1 (hp _ (cU hk1)).2;have e:(d.params.take k).map (λr=>ai (jj r))++[((λr=>ai (jj r))) d.params[k]]=(d.params.take (k+1)).map (λr=>ai (jj r)):=JH
 refine(Exists.intro _ rfl:∃R,R=jj d.params[k]).elim λR hR=> ?_;dsimp only at e;rw[<-hR]at c e;have eL:((d.params.take k).map (λr=>ai (jj r))++[ai R]).length=k+1:=Wl
 refine aN ?_;refine a_.map hk1 rfl ?_;exact VC;have b1:decide ((k:Int)<((d.params.map bp).length:Nat))=false:=aA
 have hkk:k=d.params.length:=af
 subst hkk;refine run ?_;have f20003:(d.params.take d.params.length).map (λr=>ai (jj r))=(d.params.map (λr=>ai (jj r)))++List.replicate 0 (ai (kv 0 0)):=ag
 have pM:=aL (λx=>some (Row.mk 5 true x)) f20003;refine bB.mk ⟨[],aZ.np (d.vars.toNat - d.params.length) (λ_=>True) (λk=>⟨[],[(5,bx5 (.ref 20003 (d.params.length+k)) (.sl 6 [] true) (.ref 19 (((d.aK.map kz).length:Nat):Int).toNat) (fM d.vars.toNat d.params.length) (iD 1 (lZ d)))],[(20003,⟨5,true,(d.params.map (λr=>ai (jj r)))++List.replicate k (ai (kv 0 0))⟩)]⟩) trivial ?_⟩;intro k hk hJ;by_cases hk1:k<d.vars.toNat - d.params.length;have b1:decide (((d.params.length+k:Nat):Int)<d.vars)=true:=tB af;have e:((d.params.map (λr=>ai (jj r)))++List.replicate k (ai (kv 0 0)))++[(ai (kv 0 0))]=(d.params.map (λr=>ai (jj r)))++List.replicate (k+1) (ai (kv 0 0)):=by rw[pP,<-List.replicate_succ']
 have c:=VO;have eL:(((d.params.map (λr=>ai (jj r)))++List.replicate k (ai (kv 0 0)))++[(ai (kv 0 0))]).length=d.params.length+(k+1):=by simp[sw]
 exact VC;have b1:decide (((d.params.length+k:Nat):Int)<d.vars)=false:=fB af;have hkk:k=d.vars.toNat - d.params.length:=af
 subst hkk;refine run ?_;refine bB.mk ⟨[.cell 5 3 20010],aZ.np (d.given.length) (λ_=>True) (λk=>⟨[(55,it k)],[(5,bx5 (.ref 20003 (d.params.length+(d.vars.toNat - d.params.length))) (.ref 20010 k) (.ref 19 (((d.aK.map kz).length:Nat):Int).toNat) (fM d.vars.toNat d.params.length) (iD 1 (lZ d)))],[(20010,⟨6,true,(d.given.take k).map (λr=>aO ⟨2,jj r⟩)⟩)]⟩) trivial ?_⟩;intro k hk hJ;by_cases hk1:k<d.given.length;have b1:decide ((k:Int)<((d.given.map bp).length:Nat))=true:=gw
 have c:=Lf d.given[k] (hg _ (cU hk1)).1 (hg _ (cU hk1)).2;have e:(d.given.take k).map (λr=>aO ⟨2,jj r⟩)++[((λr=>aO ⟨2,jj r⟩)) d.given[k]]=(d.given.take (k+1)).map (λr=>aO ⟨2,jj r⟩):=JH
 refine(Exists.intro _ rfl:∃R,R=jj d.given[k]).elim λR hR=> ?_;dsimp only at e;rw[<-hR]at c e;have eL:((d.given.take k).map (λr=>aO ⟨2,jj r⟩)++[aO ⟨2,R⟩]).length=k+1:=Wl
 refine aN ?_;refine a_.map hk1 rfl ?_;exact VF;have b1:decide ((k:Int)<((d.given.map bp).length:Nat))=false:=aA
 have hkk:k=d.given.length:=af
 subst hkk;refine run ?_;have f20010:(d.given.take d.given.length).map (λr=>aO ⟨2,jj r⟩)=(d.given.map (λr=>aO ⟨2,jj r⟩))++List.replicate 0 (aO ⟨1,kv 0 0⟩):=ag
 have pM:=aL (λx=>some (Row.mk 6 true x)) f20010;refine bB.mk ⟨[],aZ.np (d.refs.toNat - d.given.length) (λ_=>True) (λk=>⟨[],[(5,bx5 (.ref 20003 (d.params.length+(d.vars.toNat - d.params.length))) (.ref 20010 (d.given.length+k)) (.ref 19 (((d.aK.map kz).length:Nat):Int).toNat) (fM d.vars.toNat d.params.length) (iD 1 (lZ d)))],[(20010,⟨6,true,(d.given.map (λr=>aO ⟨2,jj r⟩))++List.replicate k (aO ⟨1,kv 0 0⟩)⟩)]⟩) trivial ?_⟩;intro k hk hJ;by_cases hk1:k<d.refs.toNat - d.given.length;have b1:decide (((d.given.length+k:Nat):Int)<d.refs)=true:=tB af;have e:((d.given.map (λr=>aO ⟨2,jj r⟩))++List.replicate k (aO ⟨1,kv 0 0⟩))++[(aO ⟨1,kv 0 0⟩)]=(d.given.map (λr=>aO ⟨2,jj r⟩))++List.replicate (k+1) (aO ⟨1,kv 0 0⟩):=by rw[pP,<-List.replicate_succ']
 have c:=VO;have eL:(((d.given.map (λr=>aO ⟨2,jj r⟩))++List.replicate k (aO ⟨1,kv 0 0⟩))++[(aO ⟨1,kv 0 0⟩)]).length=d.given.length+(k+1):=by simp[sw]
 exact VF;have b1:decide (((d.given.length+k:Nat):Int)<d.refs)=false:=fB af;have hkk:k=d.refs.toNat - d.given.length:=af
 subst hkk;have hL1:(d.params.length+(d.vars.toNat - d.params.length))=((d.params.map (λr=>ai (jj r)))++List.replicate (d.vars.toNat - d.params.length) (ai (kv 0 0))).length:=ag
 have hL2:(d.given.length+(d.refs.toNat - d.given.length))=((d.given.map (λr=>aO ⟨2,jj r⟩))++List.replicate (d.refs.toNat - d.given.length) (aO ⟨1,kv 0 0⟩)).length:=ag
 have hL3:(((d.aK.map kz).length:Nat):Int).toNat=(List.replicate (((d.aK.map kz).length:Nat):Int).toNat (it 0)).length:=ag
 have eF:bg (ku d)= .agg [bo false,.sl 5 ((d.params.map (λr=>ai (jj r)))++List.replicate (d.vars.toNat - d.params.length) (ai (kv 0 0))) false,dF (fM d.vars.toNat d.params.length),.sl 6 ((d.given.map (λr=>aO ⟨2,jj r⟩))++List.replicate (d.refs.toNat - d.given.length) (aO ⟨1,kv 0 0⟩)) false,.sl 1 (List.replicate (((d.aK.map kz).length:Nat):Int).toNat (it 0)) false,it 0,it 0,it (iD 1 (lZ d))]:=by unfold bg cF ku A_ Ca fj ints;simp[eI,List.map_replicate,Function.comp_def]
 rw[eF]at hD;exact aW
def EI:=@List.getElem?_replicate
def Wn{G:Prop}(h:G:=by obtain⟨v,a1,a2,a3⟩:=hcells j d hd;exact⟨v,a1,a2,a3,λho=>by cases ho⟩):G:=h
def Ux{γ:Gh}{w w' :World}{args:List au}{z cap:Nat}{es:List au}{C:Array Value}{e:TypeId}{fz:Nat×Nat}(hm:Mem (Cx.of 0 γ.X w γ.I) γ (init args fZ) w)(hz:z≠0)(hs:∀e∈es,(cells e).length=z)(hcap:es.length<=cap)(hfr:Frame w w' (λ_=>False))(hb:w'.heap[w.heap.size]? =some (.cells C e fz))(hf:qQ fz (C.size+1))(hC:cap*z<=C.size)(hcells:∀(j:Nat) d,nth (es.flatMap cells) j=some d->∃v,C[j]? =some v∧bN γ.I v d∧leaf v=true):∃γ',Ext γ γ' ∧bG γ' (.slice (some ⟨w.heap.size,0,none⟩) es.length cap) (.ref 1000 es.length)∧Mem (Cx.of 0 γ.X w γ.I) γ' (init [] ⟨[],[⟨z,true,es⟩]⟩) w' :=by
 have tG:∀j,γ.I w.heap.size j=none:=λj=>by cases hj:γ.I w.heap.size j with|none=>rfl|some v=>exact absurd (hm.Hu hj) (fP _)
 have hx0:Ext γ (γ.row 1000 (Tv.pl z es.length (some w.heap.size) cap)):=γ.ph (.inl (hm.yh rfl));refine⟨_,hx0,.ref (Tv.pl z es.length (some w.heap.size) cap) qz (cu _) (λ_=>rfl) ⟨_,_,rfl⟩,?_⟩;refine(hm.names (s' :=init [] fZ) rfl rfl).setRow (k:=1000) (r:=⟨z,true,es⟩) (t:=Tv.pl z es.length (some w.heap.size) cap) hx0 rfl rfl (λ_ _=>rfl) (hfr.sub λ_ _ h=>h.elim) rfl rfl hs ?_ ?_ rfl rfl;refine⟨rfl,λ_ _=> ?_,λ_ e=>bM,λe=>absurd e hz,λe=>absurd e hz⟩;exact⟨hcap,.inl (cu _),λl hl=>absurd (hm.vK hl) (fP _),C,e,fz,hb,⟨λo ho=>hf o af,λ_=>hf⟩,hC,λj _=>tG j,λ_ j=>tG j,λj d hd=>Wn⟩;intro k hk;have hk:=hk.plain rfl;cases hk;exact⟨λj y hj hy hyb=>absurd (hm.kr hy hyb).1 (fP _),λo v hv=>by have:γ.I w.heap.size o=some v:=hv;rw[tG o]at this;cases this⟩
def Tl{vs:Array Value}(h:vs.size=2):∃a b,vs= #[a,b]:=
 ⟨vs[0],vs[1],by
  apply Array.ext;exact gI;intro i h2 h3;have:i=0∨i=1:=af
  rcases this with rfl|rfl<;>rfl⟩
theorem NO(x:Int):∀n,(List.replicate n (it x)).flatMap cells=List.replicate n (it x)|0=>rfl|n+1=>by rw[EE,mH,NO x n];rfl
def Xl(x:Int)(p:Nat)(hp:p<=2):aj Tryz.prog 176 [.sl 1 [it x] false,it p] fZ (.ref 1000 (List.replicate p (it x)).length) ⟨[],[⟨1,true,List.replicate p (it x)⟩]⟩:=by
 refine⟨⟨_,Tryz.func176,aB,aB⟩,λγ w vs hs hrep hm=> ?_⟩;obtain⟨v0,v1,rfl⟩:=Tl (hs:vs.size=2);have r1:=(hrep 1 v1 _ rfl rfl).gy;subst r1;have r0:bG γ v0 (.sl 1 [it x] false):=hrep 0 v0 _ rfl rfl;obtain⟨vb,vo,vc,rfl,hx⟩:∃vb vo vc,v0= .slice (some ⟨vb,vo,none⟩) (1:Nat) vc∧w.cell? ⟨vb,vo,none⟩=some (.int .i64 x):=by cases r0 with|pure r=>cases r with|sl b o cap _ _ f hc h1 hi hr=>have e:=hr 0 (it x) rfl;have i:=hi 0 (it x) rfl;cases hf:f 0 with|int k n=>rw[hf]at e i;cases e;exact⟨b,o,cap,rfl,(hm.iw _ _ _ i).1⟩|_=>rw[hf]at e;cases e
 have key:∀(n:Nat),Calls Tryz.prog 176 #[.slice (some ⟨vb,vo,none⟩) (1:Nat) vc,.int .i64 (n:Nat)] w (λe w' =>e= .returned (.slice (some ⟨w.heap.size,0,none⟩) n n)∧Frame w w' (λ_=>False)∧w'.heap.size=w.heap.size+1∧w'.heap[w.heap.size]? =some (.cells (List.replicate n (Value.int .i64 x)).toArray 3 (0,0)))->
  Calls Tryz.prog 176 #[.slice (some ⟨vb,vo,none⟩) (1:Nat) vc,.int .i64 (n:Nat)] w λe w' =>match e with| .returned v=>∃γ',Ext γ γ' ∧bG γ' v (.ref 1000 (List.replicate n (it x)).length)∧Mem (Cx.of 0 γ.X w γ.I) γ' (init [] ⟨[],[⟨1,true,List.replicate n (it x)⟩]⟩) w'| .panicked ch=>∃γ' q,Ext γ γ' ∧rM (.ref 1000 (List.replicate n (it x)).length)=some q∧ch=qe q∧Mem (Cx.of 0 γ.X w γ.I) γ' (init [] ⟨[],[⟨1,true,List.replicate n (it x)⟩]⟩) w'| .outgrown=>False:=λn h=>by
  refine h.mono ?_
  rintro e w' ⟨rfl,h1,h2,h3⟩
  have hl:(List.replicate n (it x)).length=n:=ag
  have:=Ux (cap:=n) (es:=List.replicate n (it x)) hm (s_) (λe he=>by rw[Cm he];rfl) ag h1 h3 (λ_ _=>ag) ag (λj d hd=> ?_);rw[hl]at this;dsimp only;rw[hl];exact this;rw[NO,aI,EI]at hd;split at hd;rename_i hj;cases hd;exact⟨.int .i64 x,by simp[EI,hj],.int _ _,rfl⟩;cases hd
 have h:p=0∨p=1∨p=2:=af
 rcases h with rfl|rfl|rfl;exact key 0 (rep0 vb vo vc x w hx);exact key 1 (rep1 vb vo vc x w hx);exact key 2 (rep2 vb vo vc x w hx)
def tu(params v:Nat):List Int:=(List.range params).map λp=>if v=p then 0 else NG
def vn(vars params v:Nat):List au:=((fM vars params).take v).map bV++List.replicate (vars - v) (.shr [])
def MY{vars params v:Nat}(h:v<(fM vars params).length):(fM vars params)[v]=tu params v:=by simp[fM,tu]
def XV{vars params v:Nat}(h:v<=vars):(vn vars params v).length=vars:=by simp[vn,fM];omega
def XU{vars params v:Nat}(h:v<vars):nth (vn vars params v) v=some (.shr []):=by
 rw[aI];unfold vn;rw[jc (by simp[fM];omega)];have hl:((List.take v (fM vars params)).map bV).length=v:=by simp[fM];omega
 rw[hl,lP,EI,aq af]
def XT{vars params v:Nat}(h:v<vars):(vn vars params v).set v (bV (tu params v))=vn vars params (v+1):=by
 have hl:((List.take v (fM vars params)).map bV).length=v:=by simp[fM];omega
 have hg:v<(fM vars params).length:=by simpa[fM]using h
 unfold vn;rw[A6 _ _ af,hl,lP,show vars - v=(vars - (v+1))+1 by omega,EE,AW,jd hg,eI,MY hg];simp
def hNew:Nat->List Ad:=λn=>bif Nat.beq n 2 then[.nest 5 5]else bif Nat.beq n 9 then[.Gy 5]else[]
theorem new_c(vars params:Nat)(hv:vars<=1048576)(hp:params<=2):C 105 [it vars,it params] (dF (fM vars params)):=by
 have c1:=Xl NG params hp;refine eg hm Tryz.func105 (λ_=>false) [] hNew aB ?_;refine aN ?_;refine kE.mk ⟨ag,λe he=>⟨[],Cm he⟩⟩ ?_;refine aN ?_;have e0:(List.replicate ((vars:Nat):Int).toNat (au.sl 1 [] false)).map wq=vn vars params 0:=by unfold vn;simp[wq]
 have pM:=aL (λx=>some (Row.mk 0 true x)) e0;refine bB.mk ⟨[],aZ.np vars (λ_=>True) (λv=>⟨[(11,it v)],[],[(5,⟨0,true,vn vars params v⟩)]⟩) trivial ?_⟩;intro v hv hJ;have hn:=XV (params:=params) hv;by_cases hv1:v<vars
 ·have b1:decide ((v:Int)<((vars:Nat):Int))=true:=by simp;exact hv1
  have hx:nth (vn vars params v) ((v:Int)).toNat=some (.shr []):=XU hv1;have hown:nth ((vn vars params v).set v (.own (List.replicate params (it NG)))) v=some (.own (List.replicate params (it NG))):=by rw[aI,zi af]
  have hs:=XT (params:=params) hv1;have hn2:((vn vars params v).set v (.own (List.replicate params (it NG)))).length=vars:=by simp[hn]
  by_cases hv2:v<params
  ·have b2:decide ((v:Int)<((params:Nat):Int))=true:=(by simp;exact hv2);have hrow:(List.replicate params (it NG)).set v (it 0)=(tu params v).map it:=by unfold tu;apply uH;intro j;rw[EA];by_cases hj:v=j;subst hj;simp[hv2];rw[ah hj];by_cases hj2:j<params;simp[hj2,hj];simp[uR hj2]
   have e1:((vn vars params v).set v (.own (List.replicate params (it NG)))).set v (.own ((List.replicate params (it NG)).set v (it 0)))=vn vars params (v+1):=(by rw[xS,hrow];exact hs);refine aN ?_
   repeat((first
    |refine a_.at hn.symm af hx ?_|refine a_.at hn2.symm af hown ?_|refine Hs.mk ⟨_,hown,?_⟩|refine aE c1 ?_);refine run ?_)
   have pM:=aL (λx=>some (Row.mk 0 true x)) e1;exact tM hv1
  ·have b2:decide ((v:Int)<((params:Nat):Int))=false:=aA;have hrow:List.replicate params (it NG)=(tu params v).map it:=by unfold tu;apply uH;intro j;by_cases hj2:j<params;have:v≠j:=af;simp[hj2,this];simp[uR hj2]
   have e1:(vn vars params v).set v (.own (List.replicate params (it NG)))=vn vars params (v+1):=(by rw[hrow];exact hs);refine aN ?_
   repeat((first
    |refine a_.at hn.symm af hx ?_|refine aE c1 ?_);refine run ?_)
   have pM:=aL (λx=>some (Row.mk 0 true x)) e1;exact tM hv1
 have b1:decide ((v:Int)<((vars:Nat):Int))=false:=aA
 have hvv:v=vars:=af
 subst hvv;have e:(vn v params v).map f_=(fM v params).map ints:=by unfold vn;have:List.take v (fM v params)=fM v params:=og (by simp[fM]);simp[this,f_,bV,ints]
 exact D7
def za{G:Prop}(h:G:=by rw[og (by omega)]):G:=h
def Vm{G:Prop}(h:G:=by refine run ?_;have pM:=aL (λx:List au=>some (au.ref 15 x.length)) hstep;have Hx:=aL (λx=>some (Row.mk 1 true x)) hstep;exact tM hp1):G:=h
def hNewR:Nat->List Ad:=λn=>bif Nat.beq n 12 then[.lay 7]else[]
def newR_ok(vars params:Nat)(hv:vars<=2^30)(hp:params<=2^30):C 118 [it vars,it params] (dF (fM vars params)):=by
 have hlen:(fM vars params).length=vars:=by simp[fM]
 have hgl:∀v,v<=vars->(((fM vars params).take v).map ints).length=v:=λv h=>by simp[hlen];omega
 refine eg hm Tryz.func118 (λ_=>false) [] hNewR aB ?_;refine run ?_;refine bB.mk ⟨[],aZ.np vars (λ_=>True) (λv=>⟨[(6,it v),(5,.ref 9 (((fM vars params).take v).map ints).length)],[],[(9,⟨1,true,((fM vars params).take v).map ints⟩)]⟩) trivial ?_⟩;intro v hv0 hJ;have hlv:=hgl v hv0;by_cases hv1:v<vars;have b1:decide ((v:Int)<((vars:Nat):Int))=true:=by simp;exact hv1
 have hrl:∀p,p<=params->(((tu params v).take p).map it).length=p:=λp h=>by simp[tu];omega
 have hnext:((fM vars params).take v).map ints++[ints (tu params v)]=((fM vars params).take (v+1)).map ints:=by have hg:v<(fM vars params).length:=af;rw[jd hg,eI,MY hg];rfl
 refine run ?_;refine bB.mk ⟨[],aZ.np params (λ_=>True) (λp=>⟨[(8,it p),(7,.ref 15 (((tu params v).take p).map it).length)],[],[(15,⟨1,true,((tu params v).take p).map it⟩)]⟩) trivial ?_⟩;intro p hp0 hJ2;have hlp:=hrl p hp0;by_cases hp1:p<params;have b2:decide ((p:Int)<((params:Nat):Int))=true:=(by simp;exact hp1);have hstep:((tu params v).take p).map it++[it (if v=p then 0 else NG)]=((tu params v).take (p+1)).map it:=by have hg:p<(tu params v).length:=(by simpa[tu]using hp1);rw[jd hg,eI];simp[tu]
 by_cases hvp:v=p;have b3:((v:Int)==(p:Int))=true:=aA;rw[aq hvp]at hstep;exact Vm;have b3:((v:Int)==(p:Int))=false:=aA;rw[ah hvp]at hstep;exact Vm;have b2:decide ((p:Int)<((params:Nat):Int))=false:=aA;have hpp:p=params:=af
 have hrow:((tu params v).take p).map it=(tu params v).map it:=(by rw[og (by simp[tu];omega)]);have hn2:((fM vars params).take v).map ints++[au.sl 1 (((tu params v).take p).map it) false]=((fM vars params).take (v+1)).map ints:=by rw[hrow];exact hnext
 refine run ?_;have pM:=aL (λx:List au=>some (au.ref 9 x.length)) hn2;have Hx:=aL (λx=>some (Row.mk 1 true x)) hn2;exact tM hv1;have b1:decide ((v:Int)<((vars:Nat):Int))=false:=aA
 have e:((fM vars params).take v).map ints=(fM vars params).map ints:=za
 exact D7
end Abs
