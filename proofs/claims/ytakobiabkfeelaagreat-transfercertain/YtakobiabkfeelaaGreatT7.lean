/- A part of a proof: an abstract machine, proved sound, or contracts of functions. No condition. -/
import Derived.Test.YtakobiabkfeelaaGreatT6
set_option linter.unusedVariables false
set_option linter.unusedSimpArgs false
set_option linter.defProp false
set_option maxRecDepth 100000
set_option maxHeartbeats 4000000
namespace Abs
open Go Go.Proofs Tryz
variable{G:Prop}
def ab1(h:G:=by rw[<-yA hs hk1,jU];congr 1;show _=ai ((V.map dU)[k]);rw[List.getElem_map]):=h
def aav(h:G:=by rw[(hf.ju.row _ (cU h1)).1,(hgo.row _ (cU h2)).1]):=h
def R3(h:G:=by rw[BX (dn ..).symm,OP (dn ..).symm]):=h
def R1(h:G:=by rw[dn,dn,kU (dn ..).symm]):=h
def RP(h:G:=by rw[dn,dn,hml]):=h
def ahd(h:G:=by simp[iq]):=h
def KX(h:G:=by rw[c_,aJ,C_ hs hk1];rfl):=h
def QO(es:List au)(h:es≠[])(hl:es.length<=2^32):aj prog 180 [.sl 6 es false] fV (.ref 1000 es.length) ⟨[],[⟨6,true,es⟩]⟩:=by refine d_ hm func180 (λ_=>false) [true] (λ_=>[]) aA ?_;exact EE
def YN:aj prog 180 [.sl 6 [] false] fV (.sl 6 [] false) fV:=by refine fo func180 ?_;refine run ?_;refine agy.mk (λ_=> ?_) ?_;exact bz;exact bz
def S4(a:Av):C 178 [ai a] (ai (dU a)):=by unfold dU;by_cases h:a.lo<a.hi;have b:=tB h;rw[ak h];refine fo func178 ?_;exact bz;have b:=fB h;rw[Z h];refine fo func178 ?_;exact bz
def ur(r:Rf):Rf:=⟨r.s,dU r.a⟩
def nk{α:Type}(_ y:α):α:=y
theorem OP{α:Type}:∀{a b:List α},a.length=b.length->List.zipWith nk a b=b|[],[],_=>rfl|x::a,y::b,h=>by simp only[Fy,OP (a:=a) (b:=b) eQ,nk]
def YE(d:Df)(level:Int):C 107 [bR d,it level,aZ iq] (aZ iq):=by refine fo func107 ?_;exact bz
def aor(d:Df)(f:Fa)(hl:f.dead=false)(level:Int)(h:level>=2):C 107 [bR d,it level,aZ f] (aZ f):=by have b:=tB h;obtain⟨dead,v1,g1,r1,a1,u1,y1,p1⟩:=f;dsimp only at hl;subst hl;refine fo func107 ?_;exact bz
def aos(d:Df)(f:Fa)(hl:f.dead=false)(level:Int)(h:¬level>=2)(h1:level>=1)(N G:nj)(hN:C 105 [it d.vars,it ((d.params.map bc).length:Nat)] (dI N))(hG:C 177 [dI f.ju,dI N] (dI G)):C 107 [bR d,it level,aZ f] (aZ {f with ju:=G}):=by have b:=fB h;have b2:=tB h1;obtain⟨dead,v1,g1,r1,a1,u1,y1,p1⟩:=f;dsimp only at hl hG ⊢;subst hl;refine fo func107 ?_;exact bp
def ajf(d:Df)(f:Fa)(hl:f.dead=false)(hv:f.v≠[])(hvn:f.v.length<=1048576)(hr:f.refs=[])(level:Int)(h:¬level>=2)(h1:¬level>=1)(N G:nj)(hN:C 105 [it d.vars,it ((d.params.map bc).length:Nat)] (dI N))(hG:C 177 [dI f.ju,dI N] (dI G)):C 107 [bR d,it level,aZ f] (aZ {f with ju:=G,v:=f.v.map dU,refs:=f.refs.map λr=>⟨r.s,dU r.a⟩}):=by
 have b:=fB h;have b2:=fB h1;have c3:=xv (f.v.map ai) (λe=>hv (zp.1 e)) uA;obtain⟨dead,V,g1,RR,a1,u1,y1,p1⟩:=f;dsimp only at hl hG hv hvn c3 hr ⊢;subst hl hr;have c4:=YN;refine d_ hm func107 (λ_=>false) [] (λn=>bif Nat.beq n 18 then[.aS 5 1]else[]) aA ?_;refine aM ?_;have hvl:(V.map ai).length=V.length:=dn ..;have e0:V.map ai=(aU nk V (V.map dU) 0).map ai:=AX
 have qV:=aL (λx=>some (Row.mk 5 true x)) e0;refine bF.mk ⟨[],aY.np (V.length) (λ_=>True) (λk=>⟨[(43,it k)],[],[(5340,⟨5,true,(aU nk V (V.map dU) k).map ai⟩)]⟩) trivial ?_⟩;intro k hk hJ;by_cases hk1:k<V.length
 ·have b3:decide ((k:Int)<((V.map ai).length:Nat))=true:=by exact gL
  have hs:V.length=(V.map dU).length:=(dn ..).symm;have hml:(aU nk V (V.map dU) k).length=V.length:=kU hs;have hat:nth ((aU nk V (V.map dU) k).map ai) k=some (ai V[k]):=KX
  have hlen:(V.map ai).length=((aU nk V (V.map dU) k).map ai).length:=RP
  have es:((aU nk V (V.map dU) k).map ai).set k (ai (dU V[k]))=(aU nk V (V.map dU) (k+1)).map ai:=ab1
  have c:=S4 V[k];refine(Exists.intro _ rfl:∃R,R=dU V[k]).elim λR hR=> ?_;rw[<-hR]at c es;refine aM ?_;repeat((first|refine bt.at hlen E hat ?_|refine bt.at rfl E hat ?_);refine run ?_;repeat((apply aE;exact c);refine run ?_))
  exact Ln
 have b3:decide ((k:Int)<((V.map ai).length:Nat))=false:=az
 have hkk:k=V.length:=E
 subst hkk;have e1:(aU nk V (V.map dU) V.length).map ai=(V.map dU).map ai:=R3
 have hLn:(V.map ai).length=((aU nk V (V.map dU) V.length).map ai).length:=R1
 refine run ?_;refine bF.mk ⟨[],aY.np 0 (λ_=>True) (λk=>⟨[(59,it k)],[],[]⟩) trivial ?_⟩;intro k hk hJ;have hk0:k=0:=E
 subst hk0;have hln:=hLn;refine run ?_;exact fP.mk (aL (λx=>au.agg [bo false,au.sl 5 x false,dI G,.sl 6 [] false,ints a1,it u1,it y1,it p1]) e1) rfl
def aot(d:Df)(f:Fa)(hl:f.dead=false)(hv:f.v≠[])(hvn:f.v.length<=1048576)(hr:f.refs≠[]∧f.refs.length<=1048576)(level:Int)(h:¬level>=2)(h1:¬level>=1)(N G:nj)(hN:C 105 [it d.vars,it ((d.params.map bc).length:Nat)] (dI N))(hG:C 177 [dI f.ju,dI N] (dI G)):C 107 [bR d,it level,aZ f] (aZ {f with ju:=G,v:=f.v.map dU,refs:=f.refs.map λr=>⟨r.s,dU r.a⟩}):=by
 have b:=fB h;have b2:=fB h1;have c3:=xv (f.v.map ai) (λe=>hv (zp.1 e)) uA;obtain⟨dead,V,g1,RR,a1,u1,y1,p1⟩:=f;dsimp only at hl hG hv hvn c3 hr ⊢;subst hl;have hr0:=hr.1;have c4:=QO (RR.map aN) (λe=>hr0 (zp.1 e)) (by have:=hr.2;exact uA);refine d_ hm func107 (λ_=>false) [] (λn=>bif Nat.beq n 18 then[.aS 5 1,.aS 5 3]else[]) aA ?_;refine aM ?_;have hvl:(V.map ai).length=V.length:=dn ..;have e0:V.map ai=(aU nk V (V.map dU) 0).map ai:=AX
 have qV:=aL (λx=>some (Row.mk 5 true x)) e0;refine bF.mk ⟨[],aY.np (V.length) (λ_=>True) (λk=>⟨[(43,it k)],[],[(5340,⟨5,true,(aU nk V (V.map dU) k).map ai⟩)]⟩) trivial ?_⟩;intro k hk hJ;by_cases hk1:k<V.length
 ·have b3:decide ((k:Int)<((V.map ai).length:Nat))=true:=by exact gL
  have hs:V.length=(V.map dU).length:=(dn ..).symm;have hml:(aU nk V (V.map dU) k).length=V.length:=kU hs;have hat:nth ((aU nk V (V.map dU) k).map ai) k=some (ai V[k]):=KX
  have hlen:(V.map ai).length=((aU nk V (V.map dU) k).map ai).length:=RP
  have es:((aU nk V (V.map dU) k).map ai).set k (ai (dU V[k]))=(aU nk V (V.map dU) (k+1)).map ai:=ab1
  have c:=S4 V[k];refine(Exists.intro _ rfl:∃R,R=dU V[k]).elim λR hR=> ?_;rw[<-hR]at c es;refine aM ?_;repeat((first|refine bt.at hlen E hat ?_|refine bt.at rfl E hat ?_);refine run ?_;repeat((apply aE;exact c);refine run ?_))
  exact Ln
 have b3:decide ((k:Int)<((V.map ai).length:Nat))=false:=az
 have hkk:k=V.length:=E
 subst hkk;have e1:(aU nk V (V.map dU) V.length).map ai=(V.map dU).map ai:=R3
 have hLn:(V.map ai).length=((aU nk V (V.map dU) V.length).map ai).length:=R1
 refine run ?_;have hrl:(RR.map aN).length=RR.length:=dn ..;have f0:RR.map aN=(aU nk RR (RR.map ur) 0).map aN:=AX
 have qV:=aL (λx=>some (Row.mk 6 true x)) f0;refine bF.mk ⟨[],aY.np (RR.length) (λ_=>True) (λk=>⟨[(59,it k)],[],[(5370,⟨6,true,(aU nk RR (RR.map ur) k).map aN⟩)]⟩) trivial ?_⟩;intro k hk hJ;by_cases hk1:k<RR.length
 ·have b3:decide ((k:Int)<((RR.map aN).length:Nat))=true:=by exact gL
  have hs:RR.length=(RR.map ur).length:=(dn ..).symm;have hml:(aU nk RR (RR.map ur) k).length=RR.length:=kU hs;have hat:nth ((aU nk RR (RR.map ur) k).map aN) k=some (aN RR[k]):=KX
  have hlen:(RR.map aN).length=((aU nk RR (RR.map ur) k).map aN).length:=RP
  have es:((aU nk RR (RR.map ur) k).map aN).set k (aN ⟨RR[k].s,dU RR[k].a⟩)=(aU nk RR (RR.map ur) (k+1)).map aN:=by rw[<-yA hs hk1,jU];congr 1;show _=aN ((RR.map ur)[k]);rw[List.getElem_map];rfl
  have c:=S4 RR[k].a;refine(Exists.intro _ rfl:∃R,R=dU RR[k].a).elim λR hR=> ?_;rw[<-hR]at c es;refine aM ?_;repeat((first|refine bt.at hlen E hat ?_|refine bt.at rfl E hat ?_);refine run ?_;repeat((apply aE;exact c);refine run ?_))
  exact UA
 have b3:decide ((k:Int)<((RR.map aN).length:Nat))=false:=az
 have hkk:k=RR.length:=E
 subst hkk;have e2:(aU nk RR (RR.map ur) RR.length).map aN=(RR.map ur).map aN:=R3
 have avv:(RR.map aN).length=((aU nk RR (RR.map ur) RR.length).map aN).length:=R1
 have hln:=hLn;refine run ?_;exact fP.mk ((aL (λx=>au.agg [bo false,au.sl 5 x false,dI G,.sl 6 ((aU nk RR (RR.map ur) RR.length).map aN) false,ints a1,it u1,it y1,it p1]) e1).trans (aL (λx=>au.agg [bo false,fj 5 ai (V.map dU),dI G,.sl 6 x false,ints a1,it u1,it y1,it p1]) e2)) rfl
def Ov{d:Df}{f:Fa}(hd:yR d)(hf:sn d f)(hN:C 105 [it d.vars,it ((d.params.map bc).length:Nat)] (dI (fR d.vars.toNat d.params.length)))(level:Int):C 107 [bR d,it level,aZ f] (aZ (oq d level f)):=by
 rcases hf with rfl|hf;have e:oq d level iq=iq:=by unfold oq;rw[ak ahd]
 rw[e];exact YE d level;have hvs:=hd.vars;have hpn:=hd.pn;have hrs:=hd.refs;have hgo:=FO d.vars.toNat d.params.length;have hG:=Qm f.ju (fR d.vars.toNat d.params.length) (by rw[hf.ju.len];omega) (HM hf.ju E) (by rw[hf.ju.len,hgo.len]) (λv h1 h2=>aav) (hf.gne hd);unfold oq;by_cases h2:level>=2;rw[ak (by simp[h2])];exact aor d f hf.live level h2;rw[Z (by simp[hf.live];omega)];by_cases h1:level>=1;rw[ak uI];exact aos d f hf.live level h2 h1 _ _ hN hG;rw[Z az];have hv:=hf.v;have ar5:f.v≠[]:=λe=>by rw[e]at hv;simp only[kI]at hv;omega
 by_cases hr:f.refs=[];have:=ajf d f hf.live ar5 E hr level h2 h1 _ _ hN hG;rw[hr]at this ⊢;exact dj;have hrl:=hf.refs;exact aot d f hf.live ar5 E ⟨hr,E⟩ level h2 h1 _ _ hN hG
def aa4(h:G:=by rw[rH,<-List.replicate_succ']):=h
def Zw(h:G:=by refine aM ?_;have qV:=aL (λx=>some (Row.mk 6 true x)) e;have Iu:=aL (λx=>some (bx5 (.ref 20003 (d.params.length+(d.vars.toNat - d.params.length))) (.ref 20010 x) (.ref 19 (((d.aK.map kO).length:Nat):Int).toNat) (fR d.vars.toNat d.params.length) (iQ 1 (mm d)))) eL;exact y_ hk1):=h
def Zs(h:G:=by refine aM ?_;have qV:=aL (λx=>some (Row.mk 5 true x)) e;have Iu:=aL (λx=>some (bx5 (.ref 20003 x) (.sl 6 [] true) (.ref 19 (((d.aK.map kO).length:Nat):Int).toNat) (fR d.vars.toNat d.params.length) (iQ 1 (mm d)))) eL;exact y_ hk1):=h
def Ll(h:G:=by rw[jY hk1,eu];rfl):=h
def T_(h:G:=by rw[fx,dn,l7];exact az):=h
def mm(d:Df):Int:=IntKind.i64.wrap (1*2^(min d.part.toNat IntKind.i64.bits))
def Bw(d:Df):List Av:=d.params.map jh++List.replicate (d.vars.toNat - d.params.length) (kM 0 0)
def CF(d:Df):List Rf:=(d.given.map λr=>(⟨2,jh r⟩:Rf))++List.replicate (d.refs.toNat - d.given.length) ⟨1,kM 0 0⟩
def kL(d:Df):Fa:=⟨false,Bw d,fR d.vars.toNat d.params.length,CF d,List.replicate d.aK.length 0,0,0,iQ 1 (mm d)⟩
def FN{d:Df}(h:0<=d.part∧d.part<=15):0<=iQ 1 (mm d)∧iQ 1 (mm d)<=65535:=by
 have key:∀n:Fin 16,0<=iQ 1 (IntKind.i64.wrap (1*2^(min n.val 64)))∧iQ 1 (IntKind.i64.wrap (1*2^(min n.val 64)))<=65535:=aw
 exact key ⟨d.part.toNat,E⟩
def atk(l:List pG):Prop:=∀r∈l,(-(2^60)<r.lo∧r.lo<2^60)∧(-(2^60)<r.hi∧r.hi<2^60)
def bx5(v r a:au)(N:nj)(P:Int):au:= .agg [bo false,v,dI N,r,a,it 0,it 0,it P]
def ahs{d:Df}(hd:yR d)(hp:atk d.params)(hg:atk d.given)(hgn:d.given.length<=d.refs)(hpt:0<=d.part∧d.part<=15)(hN:C 105 [it d.vars,it ((d.params.map bc).length:Nat)] (dI (fR d.vars.toNat d.params.length)))(level:Int)(X:Fa)(hD:C 107 [bR d,it level,aZ (kL d)] (aZ X)):C 30 [bR d,it level] (aZ X):=by
 have pb:=FN hpt;have pb1:=pb.1;have pb2:=pb.2;have pt1:=hpt.1;have oe:(((BitVec.ofInt IntKind.i64.bits 1|||BitVec.ofInt IntKind.i64.bits (IntKind.i64.wrap (1*2^min d.part.toNat IntKind.i64.bits))).toNat:Nat):Int)=iQ 1 (mm d):=rfl;have hvs:=hd.vars;have hpn:=hd.pn;have hrs:=hd.refs;have han:=hd.an;have hpv:=hd.pv;have hal:(d.aK.map kO).length=d.aK.length:=dn ..;have hA:0<=((d.aK.map kO).length:Int)∧((d.aK.map kO).length:Int)<=2^20:=by rw[hal];omega
 refine d_ hm func30 (λ_=>false) [] (λn=>bif Nat.beq n 16 then[.aS 5 1,.aS 5 3,.aS 5 4]else[]) aA ?_;refine aM ?_;refine bF.mk ⟨[.cell 5 1 20003],aY.np (d.params.length) (λ_=>True) (λk=>⟨[(28,it k)],[(5,bx5 (.ref 20003 k) (.sl 6 [] true) (.ref 19 (((d.aK.map kO).length:Nat):Int).toNat) (fR d.vars.toNat d.params.length) (iQ 1 (mm d)))],[(20003,⟨5,true,(d.params.take k).map (λr=>ai (jh r))⟩)]⟩) trivial ?_⟩;intro k hk hJ;by_cases hk1:k<d.params.length;have b1:decide ((k:Int)<((d.params.map bc).length:Nat))=true:=gL
 have c:=N6 d.params[k] (hp _ (cU hk1)).1 (hp _ (cU hk1)).2;have e:(d.params.take k).map (λr=>ai (jh r))++[((λr=>ai (jh r))) d.params[k]]=(d.params.take (k+1)).map (λr=>ai (jh r)):=Ll
 refine(Exists.intro _ rfl:∃R,R=jh d.params[k]).elim λR hR=> ?_;dsimp only at e;rw[<-hR]at c e;have eL:((d.params.take k).map (λr=>ai (jh r))++[ai R]).length=k+1:=T_
 refine aM ?_;refine bt.map hk1 rfl ?_;exact Zs;have b1:decide ((k:Int)<((d.params.map bc).length:Nat))=false:=az
 have hkk:k=d.params.length:=E
 subst hkk;refine run ?_;have aoe:(d.params.take d.params.length).map (λr=>ai (jh r))=(d.params.map (λr=>ai (jh r)))++List.replicate 0 (ai (kM 0 0)):=O
 have qV:=aL (λx=>some (Row.mk 5 true x)) aoe;refine bF.mk ⟨[],aY.np (d.vars.toNat - d.params.length) (λ_=>True) (λk=>⟨[],[(5,bx5 (.ref 20003 (d.params.length+k)) (.sl 6 [] true) (.ref 19 (((d.aK.map kO).length:Nat):Int).toNat) (fR d.vars.toNat d.params.length) (iQ 1 (mm d)))],[(20003,⟨5,true,(d.params.map (λr=>ai (jh r)))++List.replicate k (ai (kM 0 0))⟩)]⟩) trivial ?_⟩;intro k hk hJ;by_cases hk1:k<d.vars.toNat - d.params.length;have b1:decide (((d.params.length+k:Nat):Int)<d.vars)=true:=tB E;have e:((d.params.map (λr=>ai (jh r)))++List.replicate k (ai (kM 0 0)))++[(ai (kM 0 0))]=(d.params.map (λr=>ai (jh r)))++List.replicate (k+1) (ai (kM 0 0)):=aa4
 have c:=ZG;have eL:(((d.params.map (λr=>ai (jh r)))++List.replicate k (ai (kM 0 0)))++[(ai (kM 0 0))]).length=d.params.length+(k+1):=by simp[sL]
 exact Zs;have b1:decide (((d.params.length+k:Nat):Int)<d.vars)=false:=fB E;have hkk:k=d.vars.toNat - d.params.length:=E
 subst hkk;refine run ?_;refine bF.mk ⟨[.cell 5 3 20010],aY.np (d.given.length) (λ_=>True) (λk=>⟨[(55,it k)],[(5,bx5 (.ref 20003 (d.params.length+(d.vars.toNat - d.params.length))) (.ref 20010 k) (.ref 19 (((d.aK.map kO).length:Nat):Int).toNat) (fR d.vars.toNat d.params.length) (iQ 1 (mm d)))],[(20010,⟨6,true,(d.given.take k).map (λr=>aN ⟨2,jh r⟩)⟩)]⟩) trivial ?_⟩;intro k hk hJ;by_cases hk1:k<d.given.length;have b1:decide ((k:Int)<((d.given.map bc).length:Nat))=true:=gL
 have c:=N6 d.given[k] (hg _ (cU hk1)).1 (hg _ (cU hk1)).2;have e:(d.given.take k).map (λr=>aN ⟨2,jh r⟩)++[((λr=>aN ⟨2,jh r⟩)) d.given[k]]=(d.given.take (k+1)).map (λr=>aN ⟨2,jh r⟩):=Ll
 refine(Exists.intro _ rfl:∃R,R=jh d.given[k]).elim λR hR=> ?_;dsimp only at e;rw[<-hR]at c e;have eL:((d.given.take k).map (λr=>aN ⟨2,jh r⟩)++[aN ⟨2,R⟩]).length=k+1:=T_
 refine aM ?_;refine bt.map hk1 rfl ?_;exact Zw;have b1:decide ((k:Int)<((d.given.map bc).length:Nat))=false:=az
 have hkk:k=d.given.length:=E
 subst hkk;refine run ?_;have aod:(d.given.take d.given.length).map (λr=>aN ⟨2,jh r⟩)=(d.given.map (λr=>aN ⟨2,jh r⟩))++List.replicate 0 (aN ⟨1,kM 0 0⟩):=O
 have qV:=aL (λx=>some (Row.mk 6 true x)) aod;refine bF.mk ⟨[],aY.np (d.refs.toNat - d.given.length) (λ_=>True) (λk=>⟨[],[(5,bx5 (.ref 20003 (d.params.length+(d.vars.toNat - d.params.length))) (.ref 20010 (d.given.length+k)) (.ref 19 (((d.aK.map kO).length:Nat):Int).toNat) (fR d.vars.toNat d.params.length) (iQ 1 (mm d)))],[(20010,⟨6,true,(d.given.map (λr=>aN ⟨2,jh r⟩))++List.replicate k (aN ⟨1,kM 0 0⟩)⟩)]⟩) trivial ?_⟩;intro k hk hJ;by_cases hk1:k<d.refs.toNat - d.given.length;have b1:decide (((d.given.length+k:Nat):Int)<d.refs)=true:=tB E;have e:((d.given.map (λr=>aN ⟨2,jh r⟩))++List.replicate k (aN ⟨1,kM 0 0⟩))++[(aN ⟨1,kM 0 0⟩)]=(d.given.map (λr=>aN ⟨2,jh r⟩))++List.replicate (k+1) (aN ⟨1,kM 0 0⟩):=aa4
 have c:=ZG;have eL:(((d.given.map (λr=>aN ⟨2,jh r⟩))++List.replicate k (aN ⟨1,kM 0 0⟩))++[(aN ⟨1,kM 0 0⟩)]).length=d.given.length+(k+1):=by simp[sL]
 exact Zw;have b1:decide (((d.given.length+k:Nat):Int)<d.refs)=false:=fB E;have hkk:k=d.refs.toNat - d.given.length:=E
 subst hkk;have hL1:(d.params.length+(d.vars.toNat - d.params.length))=((d.params.map (λr=>ai (jh r)))++List.replicate (d.vars.toNat - d.params.length) (ai (kM 0 0))).length:=O
 have hL2:(d.given.length+(d.refs.toNat - d.given.length))=((d.given.map (λr=>aN ⟨2,jh r⟩))++List.replicate (d.refs.toNat - d.given.length) (aN ⟨1,kM 0 0⟩)).length:=O
 have hL3:(((d.aK.map kO).length:Nat):Int).toNat=(List.replicate (((d.aK.map kO).length:Nat):Int).toNat (it 0)).length:=O
 have eF:aZ (kL d)= .agg [bo false,.sl 5 ((d.params.map (λr=>ai (jh r)))++List.replicate (d.vars.toNat - d.params.length) (ai (kM 0 0))) false,dI (fR d.vars.toNat d.params.length),.sl 6 ((d.given.map (λr=>aN ⟨2,jh r⟩))++List.replicate (d.refs.toNat - d.given.length) (aN ⟨1,kM 0 0⟩)) false,.sl 1 (List.replicate (((d.aK.map kO).length:Nat):Int).toNat (it 0)) false,it 0,it 0,it (iQ 1 (mm d))]:=by unfold aZ cF kL Bw CF fj ints;simp[eu,List.map_replicate,Function.comp_def]
 rw[eF]at hD;exact bp
def FC:=@List.getElem?_replicate
def aas(h:G:=by obtain⟨v,a1,a2,a3⟩:=hcells j d hd;exact⟨v,a1,a2,a3,λho=>by cases ho⟩):=h
def Yt{γ:Gh}{w w' :World}{args:List au}{z cap:Nat}{es:List au}{C:Array Value}{e:TypeId}{fz:Nat×Nat}(hm:Mem (Cx.of 0 γ.X w γ.I) γ (init args fV) w)(hz:z≠0)(hs:∀e∈es,(cells e).length=z)(hcap:es.length<=cap)(hfr:Frame w w' (λ_=>False))(hb:w'.heap[w.heap.size]? =some (.cells C e fz))(hf:qT fz (C.size+1))(hC:cap*z<=C.size)(hcells:∀(j:Nat) d,nth (es.flatMap cells) j=some d->∃v,C[j]? =some v∧bM γ.I v d∧leaf v=true):∃γ',Ext γ γ' ∧bD γ' (.slice (some ⟨w.heap.size,0,none⟩) es.length cap) (.ref 1000 es.length)∧Mem (Cx.of 0 γ.X w γ.I) γ' (init [] ⟨[],[⟨z,true,es⟩]⟩) w' :=by
 have tV:∀j,γ.I w.heap.size j=none:=λj=>by cases hj:γ.I w.heap.size j with|none=>rfl|some v=>exact absurd (hm.Il hj) (fQ _)
 have hx0:Ext γ (γ.row 1000 (Tv.pl z es.length (some w.heap.size) cap)):=γ.pz (.inl (hm.yr rfl));refine⟨_,hx0,.ref (Tv.pl z es.length (some w.heap.size) cap) qD (cJ _) (λ_=>rfl) ⟨_,_,rfl⟩,?_⟩;refine(hm.names (s' :=init [] fV) rfl rfl).setRow (k:=1000) (r:=⟨z,true,es⟩) (t:=Tv.pl z es.length (some w.heap.size) cap) hx0 rfl rfl (λ_ _=>rfl) (hfr.sub λ_ _ h=>h.elim) rfl rfl hs ?_ ?_ rfl rfl;refine⟨rfl,λ_ _=> ?_,λ_ e=>bK,λe=>absurd e hz,λe=>absurd e hz⟩;exact⟨hcap,.inl (cJ _),λl hl=>absurd (hm.vU hl) (fQ _),C,e,fz,hb,⟨λo ho=>hf o E,λ_=>hf⟩,hC,λj _=>tV j,λ_ j=>tV j,λj d hd=>aas⟩;intro k hk;have hk:=hk.plain rfl;cases hk;exact⟨λj y hj hy hyb=>absurd (hm.kK hy hyb).1 (fQ _),λo v hv=>by have:γ.I w.heap.size o=some v:=hv;rw[tV o]at this;cases this⟩
def Xo{vs:Array Value}(h:vs.size=2):∃a b,vs= #[a,b]:=
 ⟨vs[0],vs[1],by
  apply Array.ext;exact eQ;intro i h2 h3;have:i=0∨i=1:=E
  rcases this with rfl|rfl<;>rfl⟩
theorem Qo(x:Int):∀n,(List.replicate n (it x)).flatMap cells=List.replicate n (it x)|0=>rfl|n+1=>by rw[Fw,mS,Qo x n];rfl
def ac5(x:Int)(p:Nat)(hp:p<=2):aj prog 176 [.sl 1 [it x] false,it p] fV (.ref 1000 (List.replicate p (it x)).length) ⟨[],[⟨1,true,List.replicate p (it x)⟩]⟩:=by
 refine⟨⟨_,func176,aA,aA⟩,λγ w vs hs hrep hm=> ?_⟩;obtain⟨v0,v1,rfl⟩:=Xo (hs:vs.size=2);have r1:=(hrep 1 v1 _ rfl rfl).gC;subst r1;have r0:bD γ v0 (.sl 1 [it x] false):=hrep 0 v0 _ rfl rfl;obtain⟨vb,vo,vc,rfl,hx⟩:∃vb vo vc,v0= .slice (some ⟨vb,vo,none⟩) (1:Nat) vc∧w.cell? ⟨vb,vo,none⟩=some (.int .i64 x):=by cases r0 with|pure r=>cases r with|sl b o cap _ _ f hc h1 hi hr=>have e:=hr 0 (it x) rfl;have i:=hi 0 (it x) rfl;cases hf:f 0 with|int k n=>rw[hf]at e i;cases e;exact⟨b,o,cap,rfl,(hm.iw _ _ _ i).1⟩|_=>rw[hf]at e;cases e
 have key:∀(n:Nat),Calls prog 176 #[.slice (some ⟨vb,vo,none⟩) (1:Nat) vc,.int .i64 (n:Nat)] w (λe w' =>e= .returned (.slice (some ⟨w.heap.size,0,none⟩) n n)∧Frame w w' (λ_=>False)∧w'.heap.size=w.heap.size+1∧w'.heap[w.heap.size]? =some (.cells (List.replicate n (Value.int .i64 x)).toArray 3 (0,0)))->
  Calls prog 176 #[.slice (some ⟨vb,vo,none⟩) (1:Nat) vc,.int .i64 (n:Nat)] w λe w' =>match e with| .returned v=>∃γ',Ext γ γ' ∧bD γ' v (.ref 1000 (List.replicate n (it x)).length)∧Mem (Cx.of 0 γ.X w γ.I) γ' (init [] ⟨[],[⟨1,true,List.replicate n (it x)⟩]⟩) w'| .panicked ch=>∃γ' q,Ext γ γ' ∧rT (.ref 1000 (List.replicate n (it x)).length)=some q∧ch=qh q∧Mem (Cx.of 0 γ.X w γ.I) γ' (init [] ⟨[],[⟨1,true,List.replicate n (it x)⟩]⟩) w'| .outgrown=>False:=λn h=>by
  refine h.mono ?_
  rintro e w' ⟨rfl,h1,h2,h3⟩
  have hl:(List.replicate n (it x)).length=n:=O
  have:=Yt (cap:=n) (es:=List.replicate n (it x)) hm (tG) (λe he=>by rw[Gg he];rfl) O h1 h3 (λ_ _=>O) O (λj d hd=> ?_);rw[hl]at this;dsimp only;rw[hl];exact dj;rw[Qo,aJ,FC]at hd;split at hd;rename_i hj;cases hd;exact⟨.int .i64 x,by simp[FC,hj],.int _ _,rfl⟩;cases hd
 have h:p=0∨p=1∨p=2:=E
 rcases h with rfl|rfl|rfl;exact key 0 (atx vb vo vc x w hx);exact key 1 (atw vb vo vc x w hx);exact key 2 (atv vb vo vc x w hx)
def L7(h:G:=by simp[fR];omega):=h
def UB(h:G:=by have qV:=aL (λx=>some (Row.mk 0 true x)) e1;exact y_ hv1):=h
def tL(params v:Nat):List Int:=(List.range params).map λp=>if v=p then 0 else NG
def vC(vars params v:Nat):List au:=((fR vars params).take v).map bV++List.replicate (vars - v) (.shr [])
def PD{vars params v:Nat}(h:v<(fR vars params).length):(fR vars params)[v]=tL params v:=by simp[fR,tL]
def ad8{vars params v:Nat}(h:v<=vars):(vC vars params v).length=vars:=by simp[vC,fR];omega
def ad7{vars params v:Nat}(h:v<vars):nth (vC vars params v) v=some (.shr []):=by
 rw[aJ];unfold vC;rw[jn L7];have hl:((List.take v (fR vars params)).map bV).length=v:=L7
 rw[hl,lZ,FC,ak E]
def ad6{vars params v:Nat}(h:v<vars):(vC vars params v).set v (bV (tL params v))=vC vars params (v+1):=by
 have hl:((List.take v (fR vars params)).map bV).length=v:=L7
 have hg:v<(fR vars params).length:=by simpa[fR]using h
 unfold vC;rw[Bo _ _ E,hl,lZ,show vars - v=(vars - (v+1))+1 by omega,Fw,Bj,jY hg,eu,PD hg];simp
def aut:Nat->List Ad:=λn=>bif Nat.beq n 2 then[.nest 5 5]else bif Nat.beq n 9 then[.Hr 5]else[]
theorem al2(vars params:Nat)(hv:vars<=1048576)(hp:params<=2):C 105 [it vars,it params] (dI (fR vars params)):=by
 have c1:=ac5 NG params hp;refine d_ hm func105 (λ_=>false) [] aut aA ?_;refine aM ?_;refine kQ.mk ⟨O,λe he=>⟨[],Gg he⟩⟩ ?_;refine aM ?_;have e0:(List.replicate ((vars:Nat):Int).toNat (au.sl 1 [] false)).map wG=vC vars params 0:=by unfold vC;simp[wG]
 have qV:=aL (λx=>some (Row.mk 0 true x)) e0;refine bF.mk ⟨[],aY.np vars (λ_=>True) (λv=>⟨[(11,it v)],[],[(5,⟨0,true,vC vars params v⟩)]⟩) trivial ?_⟩;intro v hv hJ;have hn:=ad8 (params:=params) hv;by_cases hv1:v<vars
 ·have b1:decide ((v:Int)<((vars:Nat):Int))=true:=by simp;exact hv1
  have hx:nth (vC vars params v) ((v:Int)).toNat=some (.shr []):=ad7 hv1;have hown:nth ((vC vars params v).set v (.own (List.replicate params (it NG)))) v=some (.own (List.replicate params (it NG))):=by rw[aJ,CS E]
  have hs:=ad6 (params:=params) hv1;have hn2:((vC vars params v).set v (.own (List.replicate params (it NG)))).length=vars:=uH
  by_cases hv2:v<params
  ·have b2:decide ((v:Int)<((params:Nat):Int))=true:=(by simp;exact hv2);have hrow:(List.replicate params (it NG)).set v (it 0)=(tL params v).map it:=by unfold tL;apply uU;intro j;rw[Fq];by_cases hj:v=j;subst hj;simp[hv2];rw[Z hj];by_cases hj2:j<params;simp[hj2,hj];simp[u7 hj2]
   have e1:((vC vars params v).set v (.own (List.replicate params (it NG)))).set v (.own ((List.replicate params (it NG)).set v (it 0)))=vC vars params (v+1):=(by rw[yg,hrow];exact hs);refine aM ?_
   repeat((first
    |refine bt.at hn.symm E hx ?_|refine bt.at hn2.symm E hown ?_|refine Ij.mk ⟨_,hown,?_⟩|refine aE c1 ?_);refine run ?_)
   exact UB
  ·have b2:decide ((v:Int)<((params:Nat):Int))=false:=az;have hrow:List.replicate params (it NG)=(tL params v).map it:=by unfold tL;apply uU;intro j;by_cases hj2:j<params;have:v≠j:=E;simp[hj2,this];simp[u7 hj2]
   have e1:(vC vars params v).set v (.own (List.replicate params (it NG)))=vC vars params (v+1):=(by rw[hrow];exact hs);refine aM ?_
   repeat((first
    |refine bt.at hn.symm E hx ?_|refine aE c1 ?_);refine run ?_)
   exact UB
 have b1:decide ((v:Int)<((vars:Nat):Int))=false:=az
 have hvv:v=vars:=E
 subst hvv;have e:(vC v params v).map fW=(fR v params).map ints:=by unfold vC;have:List.take v (fR v params)=fR v params:=oG (by simp[fR]);simp[this,fW,bV,ints]
 exact EF
end Abs
namespace Abs
open Go Go.Proofs
variable{G:Prop}
def VO(h:G:=by rw[h2,fw];omega):=h
abbrev Mp(β:Type):=List (Option (Int×β))
section
variable{β:Type}{enc:β->au}
def sO(enc:β->au):Option (Int×β)->au|some (k,v)=> .me (.int .i64 k) (enc v)|none=> .md
def Yg(n:Int):Mp β->Nat->Option Nat
 |[],_=>none|some (k,_)::r,i=>match n==k with|true=>some i|false=>Yg n r (i+1)
 |none::r,i=>Yg n r (i+1)
def wZ(n:Int):Mp β->Option β
 |[]=>none|some (k,v)::r=>match n==k with|true=>some v|false=>wZ n r
 |none::r=>wZ n r
def SJ(n:Int)(v:β)(es:Mp β):Mp β:=match Yg n es 0 with|some i=>es.set i (some (n,v))|none=>es++[some (n,v)]
theorem yB(enc:β->au)(n:Int):∀(es:Mp β) (i:Nat),uh .i64 n (es.map (sO enc)) i=some (Yg n es i)|[],_=>rfl|some (k,v)::r,i=>by simp only[oD,sO,uh,Yg,B7];cases n==k;exact yB enc n r (i+1);rfl|none::r,i=>by simp only[oD,sO,uh,Yg];exact yB enc n r (i+1)
theorem Hh{n:Int}:∀{es:Mp β} {i:Nat},Yg n es i=none->wZ n es=none
 |[],_,_=>rfl|some (k,v)::r,i,h=>by simp only[Yg]at h;simp only[wZ];cases hb:n==k with|true=>rw[hb]at h;cases h|false=>rw[hb]at h;exact Hh h
 |none::r,i,h=>Hh (es:=r) (i:=i+1) h
theorem Hg{n:Int}:∀{es:Mp β} {i j:Nat},Yg n es i=some j->∃l v r,es=l++some (n,v)::r∧j=i+l.length∧wZ n l=none∧wZ n es=some v
 |[],_,_,h=>ie
 |some (k,v)::r,i,j,h=>by
  simp only[Yg]at h;cases hb:n==k with
  |true=>
   rw[hb]at h;cases h;have e:n=k:=qu
   subst e;exact⟨[],v,r,rfl,O,rfl,by simp only[wZ,hb]⟩
  |false=>rw[hb]at h;obtain⟨l,v',r',h1,h2,h3,h4⟩:=Hg (es:=r) h;exact⟨some (k,v)::l,v',r',AS,VO,by simp only[wZ,hb];exact h3,by simp only[wZ,hb];exact h4⟩
 |none::r,i,j,h=>by obtain⟨l,v',r',h1,h2,h3,h4⟩:=Hg (es:=r) (i:=i+1) h;exact⟨none::l,v',r',AS,VO,h3,h4⟩
def ady(enc:β->au)(n:Int)(v:β)(es:Mp β):(SJ n v es).map (sO enc)=match Yg n es 0 with|some i=>(es.map (sO enc)).set i (.me (.int .i64 n) (enc v))|none=>es.map (sO enc)++[.me (.int .i64 n) (enc v)]:=by unfold SJ;cases Yg n es 0 with|none=>simp[sO]|some i=>simp[jU,sO]
end
end Abs
