/- A part of a proof: an abstract machine, proved sound, or contracts of functions. No condition. -/
import Derived.OpenShut
import Derived.Carry
import Derived.WalkKit
import Derived.ProofKit
import Derived.JoinedCond
import Derived.Test.YtakobiabkfeelaaGreatT11
set_option linter.unusedVariables false
set_option linter.unusedSimpArgs false
set_option linter.defProp false
set_option maxRecDepth 100000
set_option maxHeartbeats 4000000
namespace Abs
open Go Go.Proofs
variable{G:Prop}
def T0(h:G:=by exact r _ _ _ (by omega) (by omega) (by omega) (by omega)):=h
def TN(h:G:=by exact⟨by decide,by decide,by decide,by decide⟩):=h
def Df.fn(d:Df)(fm:Int)(nm:List UInt8):Df:=⟨d.id,d.site,nm,fm,d.part,d.params,d.given,d.vars,d.refs,d.aK,d.mf,d.body⟩
structure agz(hs:List Hd)(id:Int)(s t:Nat)(d:Df):Prop where
 id:d.id=id
 base:∀fm nm,ake nm->0<=fm∧fm<=1->OK (d.fn fm nm) cq
 xj:0<=d.xj∧d.xj<=1
 name:ake d.name
 calls:∀z∈wi d.body 1,Kd hs z.1
 sites:Up s t (We d)
 np:d.params.length<=12∧d.given.length<=4
def afy:avk cq:=by
 have r:∀a b c:Int,-2147483648<=a->a<=b->b<=2147483647->0<=c∧c<=255->CD ⟨a,b,c⟩:=λa b c h1 h2 h3 h4=>⟨h1,h2,h3,h4⟩;refine⟨⟨λx hx=> ?_,aw⟩,⟨λx hx=> ?_,aw⟩,⟨λx hx=> ?_,aw⟩,⟨λx hx=> ?_,aw⟩,aw,aw,aw⟩;simp only[cq,b_,uT,qE]at hx;rcases hx with rfl|rfl<;>exact T0
 simp only[cq,b_,uT,qE]at hx;rcases hx with rfl|rfl<;>exact T0;simp only[cq,b_,uT,qE]at hx;subst hx;exact⟨r _ _ _ E E E E,aw⟩;simp only[cq,b_,uT,qE]at hx;rcases hx with rfl|rfl|rfl<;>omega
theorem Mk.BN(m:Mk)(a:Nat):∀i,∀r∈m.params a i,CD r|0=>λr hr=>by simp[Mk.params]at hr|i+1=>λr hr=>by simp only[Mk.params]at hr;rcases dY.1 hr with hr|hr;exact Mk.BN m a i r hr;rw[gg.1 hr];have h:=wx (m.Nw (a+i));simp only[XN,b_,uT,qE]at h;rcases h with h|h|h|h<;>rw[h]<;>exact TN
def Mk.OE(m:Mk)(a:Nat):1<=m.mf a∧m.mf a<=20000:=by have h:=wx (m.yL a);simp only[Cs,b_,uT,qE]at h;rcases h with h|h|h|h<;>rw[h]<;>omega
def aqi(j:Nat)(h:j<4):ake (nameOf (11+j)):=by rcases(show j=0∨j=1∨j=2∨j=3 by omega)with rfl|rfl|rfl|rfl<;>exact CG
def Mk.ack(m:Mk)(a:Nat):0<=m.dE a∧m.dE a<=2:=by
 have h:=m.bT (a+1) (n:=6) E;have h1:0<=(m.nx (a+1) 6).tdiv 2∧(m.nx (a+1) 6).tdiv 2<6:=by rw[gh h.1];omega
 have h2:IntKind.i64.wrap ((m.nx (a+1) 6).tdiv 2)=(m.nx (a+1) 6).tdiv 2:=Lf
 unfold Mk.dE;rw[h2,Gi h1.1];omega
def Mk.Tc(m:Mk)(hh:∀h∈m.aF,(1<=h.id∧h.id<=100)∧h.params.length<=12∧h.given.length<=4)(j:Nat)(hj:j<4)(a s:Nat)(hs:s+200<1000000)(part:Int)(hp:0<=part∧part<=2)(c:Nat)(hc:c<=2)(gs:List pG)(hg:gs=[]∨gs=[di])(b2:Nat)(ar:List Ar)(ha:ar=[⟨4,0⟩]∨(ar=[⟨4,0⟩,⟨8,1⟩]∧0<c)):agz m.aF (11+j) s ((m.dh (11+j) a s part c gs b2 ar).2.s+1) (m.dh (11+j) a s part c gs b2 ar).1:=by
 have pl:=m.jr (a+1+1+1+1+1) c;have pl2:((m.params (a+1+1+1+1+1) c).map bc).length=c:=EH
 have bv:=m.bT ((a+1+1+1+1+1+c)+1) (n:=2) E;have bf:=m.bT a (n:=2) E;have bb:=m.OE (a+1+1);have pr:=m.BN (a+1+1+1+1+1) c;have gl:gs.length<=1:=by rcases hg with rfl|rfl<;>simp
 have gr:∀r∈gs,CD r:=by rcases hg with rfl|rfl;intro r hr;simp at hr;intro r hr;rw[gg.1 hr];exact TN
 have al:0<ar.length∧ar.length<=2:=by rcases ha with rfl|⟨rfl,_⟩<;>simp
 have ao:∀x∈ar,(1<=x.len∧x.len<=64)∧0<=x.yP ∧x.yP <=(c:Int):=by rcases ha with rfl|⟨rfl,h0⟩;intro x hx;rw[gg.1 hx];exact bu;intro x hx;simp only[b_,uT,qE]at hx;rcases hx with rfl|rfl<;>dsimp only<;>omega
 obtain⟨D0,hD0⟩:∃D0,D0=m.dG (11+j) a part (m.params (a+1+1+1+1+1) c) gs ((((m.params (a+1+1+1+1+1) c).map bc).length:Nat)+2+m.nx ((a+1+1+1+1+1+c)+1) 2) 2 ar [] 0:=⟨_,rfl⟩;have rok:(m.bU D0).Rok:=by rw[hD0];exact⟨by show((m.params (a+1+1+1+1+1) c).length:Int)<(((m.params (a+1+1+1+1+1) c).map bc).length:Nat)+2+m.nx ((a+1+1+1+1+1+c)+1) 2;rw[pl,pl2];omega,al.1,rfl,hh⟩
 have rt:=(m.bU D0).O8 rok 2 (1+m.nx b2 5).toNat ⟨b2+1,s,9,0⟩ 1 bu;have us:=(m.bU D0).lM (λh hx=>by have:=hh h hx;omega) 2 (1+m.nx b2 5).toNat ⟨b2+1,s,9,0⟩;simp only[jN]at us;have eR:m.dh (11+j) a s part c gs b2 ar=(m.dG (11+j) a part (m.params (a+1+1+1+1+1) c) gs ((((m.params (a+1+1+1+1+1) c).map bc).length:Nat)+2+m.nx ((a+1+1+1+1+1+c)+1) 2) 2 ar ((m.bU D0).stmts 2 (1+m.nx b2 5).toNat ⟨b2+1,s,9,0⟩).1 (((m.bU D0).stmts 2 (1+m.nx b2 5).toNat ⟨b2+1,s,9,0⟩).2.s+1:Nat),((m.bU D0).stmts 2 (1+m.nx b2 5).toNat ⟨b2+1,s,9,0⟩).2):=by rw[hD0];rfl
 rw[eR];generalize (m.bU D0).stmts 2 (1+m.nx b2 5).toNat ⟨b2+1,s,9,0⟩=r at*;dsimp only at rt;have hup:Up s (r.2.s+1) (vi (wi r.1 1)++[((r.2.s+1:Nat):Int)]):=rt.up.app (Up.one r.2.s);have hlen:=rt.up.len;rw[vi,dn,Ch]at hlen;have hse:=rt.up.le;refine⟨rfl,λfm nm hn hf=> ?_,by show 0<=m.nx a 2∧m.nx a 2<=1;omega,aqi j hj,λz hz=>(rt.ok z hz).2.1,hup,⟨by show(m.params _ _).length<=12;omega,by show gs.length<=4;omega⟩⟩;refine⟨⟨?_,?_,?_,aw,aw,aw,aw,aw,aw,aw⟩,?_,?_,hn,?_,?_,?_,?_,bb,pr,gr,⟨λx hx=> ?_,?_⟩,?_,λz hz=> ?_,λz hz=> ?_,?_⟩;show((((m.params _ _).map bc).length:Nat):Int)+2+_<_;rw[pl2];omega;show(2:Int)<_;omega;show ar.length<_;omega;show(1:Int)<=11+j∧(11:Int)+j<=_;omega;show(1:Int)<=((r.2.s+1:Nat):Int)∧((r.2.s+1:Nat):Int)<=_;omega;show 0<=fm∧fm<=2 - 1;omega;show 0<=part∧part<=3 - 1;omega;show((m.params _ _).length:Int)<=((((m.params _ _).map bc).length:Nat):Int)+2+_∧((((m.params _ _).map bc).length:Nat):Int)+2+_<=_;rw[pl,pl2];omega;show(gs.length:Int)<=2∧(2:Int)<=4;omega;have:=ao x hx;exact⟨this.1,by show 0<=x.yP ∧x.yP <=((m.params _ _).length:Int);rw[pl];exact this.2⟩;show ar.length<=4;omega;show zI r.1<=199;omega;exact eW (rt.ok z hz).2.2 E;obtain⟨o,ho⟩:=(rt.ok z hz).1;subst hD0;exact⟨o,ho.op,ho.kind,ho.site,ho.n,ho.m,ho.v,ho.x,ho.y,ho.c,ho.args,ho.body,ho.tw⟩;have hi:=hup.inc;have hnd:(vi (wi r.1 1)++[((r.2.s+1:Nat):Int)]).Nodup:=hi.imp (λh=>E);show(((r.2.s+1:Nat):Int)::vi (wi r.1 1)).Nodup;exact(List.perm_append_singleton _ _).nodup_iff.1 hnd
def Mk.YL(m:Mk)(hh:∀h∈m.aF,(1<=h.id∧h.id<=100)∧h.params.length<=12∧h.given.length<=4)(j:Nat)(hj:j<4)(th:Bool)(a s:Nat)(hs:s+200<1000000):agz m.aF (11+j) s ((m.mE (11+j) th a s).2.s+1) (m.mE (11+j) th a s).1:=by
 have bX:=m.bT (a+1+1+1+1) (n:=3) E;have hp:=m.ack a;obtain⟨c,hc,hc2⟩:∃c,(if th then 0 else(m.nx (a+1+1+1+1) 3).toNat)=c∧c<=2:=⟨_,rfl,i_⟩;have g1:∀b:Bool,(if b then[di]else[])=[]∨(if b then[di]else[])=[di]:=My
 have g2:∀b:Bool,(if b then[⟨4,0⟩,⟨8,1⟩]else[⟨4,0⟩]:List Ar)=[⟨4,0⟩]∨(if b then[⟨4,0⟩,⟨8,1⟩]else[⟨4,0⟩]:List Ar)=[⟨4,0⟩,⟨8,1⟩]:=My
 unfold Mk.mE;rw[hc];refine m.Tc hh j hj a s hs _ ?_ _ hc2 _ (g1 _) _ _ ?_;split<;>omega;by_cases h0:c=0;rw[ak h0];exact .inl rfl;rw[Z h0];exact(g2 _).imp id λe=>⟨e,E⟩
def CM:=@List.mem_iff_getElem
structure Tx(ds:List Df)(t:Nat):Prop where
 get:∀k (hk:k<ds.length),∃u v,agz ((ds.take k).map l_) (11+k) u v ds[k]
 sites:Up 100 t (ds.flatMap We)
def Tx.snoc{ds:List Df}{t u:Nat}{d:Df}(h:Tx ds t)(hd:agz (ds.map l_) (11+ds.length) t u d):Tx (ds++[d]) u:=by refine⟨λk hk=> ?_,?_⟩;rw[fx,tI]at hk;by_cases hlt:k<ds.length;rw[List.take_append_of_le_length E,List.getElem_append_left hlt];exact h.get k hlt;have e:k=ds.length:=E;subst e;rw[List.take_left,List.getElem_append_right (cJ _)];simp only[lZ,List.getElem_cons_zero];exact⟨t,u,hd⟩;rw[Bl,List.flatMap_singleton];exact h.sites.app hd.sites
def Tx.aF{ds:List Df}{t:Nat}(h:Tx ds t)(hl:ds.length<=80):∀x∈ds.map l_,(1<=x.id∧x.id<=100)∧x.params.length<=12∧x.given.length<=4:=λx hx=>by obtain⟨d,hd,rfl⟩:=dV.1 hx;obtain⟨k,hk,rfl⟩:=CM.1 hd;obtain⟨u,v,g⟩:=h.get k hk;refine⟨?_,g.np⟩;show 1<=ds[k].id∧ds[k].id<=100;rw[g.id];omega
theorem Jy(L:List UInt8)(n:Nat):∀i,i<=4->Tx (cd L n i).defs (cd L n i).s|0,_=>⟨λk hk=>by simp[cd]at hk,Up.nil 100⟩|i+1,hi=>by have ih:=Jy L n i E;have ok:=nV L n i;have hs:=ok.s;have hn:=ok.nd;have hh:=wX L n i;have g:=((cd L n i).mk' L).YL (by rw[show((cd L n i).mk' L).aF=(cd L n i).aF from rfl,hh];exact ih.aF E) i E (P3 L (i+1==n) (cd L n i)) (Hs (i+1==n) (cd L n i)) (cd L n i).s E;rw[show((cd L n i).mk' L).aF=(cd L n i).aF from rfl,hh]at g;refine ih.snoc ?_;rw[hn];exact g
def Ye(L:List UInt8):∃t,t<=464∧Tx (mo L).defs t:=by obtain⟨n,e,h1,h2⟩:=zZ L;rw[e];exact⟨_,by have:=(nV L n n).s;omega,Jy L n n h1⟩
end Abs
namespace Abs
open Go Go.Proofs Tryz
variable{G:Prop}
def UG(h:G:=by refine run ?_;exact fP.mk (aL (λx=>au.sl 10 x false) e) rfl):=h
def zN(l:List Rw):List Ru:=(l.take 6).map zd
def XK(l:List Rw)(hl:l.length<2^63)(hok:∀x∈l,Ts x):C 33 [fj 9 D_ l,it 6] (fj 10 gU (zN l)):=by
 unfold zN;have hm6:(l.take 6).length<=6:=rB
 have hml:(l.take 6).length<=l.length:=rB
 have hmin:(l.take 6).length=l.length∨(l.take 6).length=6:=rB
 have hget:∀k (h:k<(l.take 6).length) (h2:k<l.length),l[k]=(l.take 6)[k]:=λk h h2=>O
 have hmm:∀k (h:k<l.length),Ts l[k]:=λk h=>hok _ (cU h);generalize l.take 6=m at hm6 hml hmin hget ⊢;refine fo func33 ?_;refine run ?_;refine bF.mk ⟨[],aY.lp (λr:CR=>r.k<=m.length∧r.acc=((m.take r.k).map zd).map gU) (λr=>⟨[(6,it r.k),(5,.ref 7 r.acc.length)],[],[(7,⟨10,true,r.acc⟩)]⟩) (λr=>m.length - r.k) ⟨0,[]⟩ ⟨dM _,rfl⟩ ?_⟩;intro r hJ;have h1:=hJ.1;have h2:=hJ.2;have hlen:r.acc.length=r.k:=Uo
 by_cases hk:r.k<m.length;have hkl:r.k<l.length:=E
 have b1:decide ((r.k:Int)<((l.map D_).length:Nat))=true:=by simp;exact hkl
 have b2:decide ((r.k:Int)<6)=true:=az
 have hc:=adw l[r.k] (hmm r.k hkl);have hN:r.acc++[gU (zd l[r.k])]=((m.take (r.k+1)).map zd).map gU:=by rw[hget r.k hk hkl,h2,map_take hk,eu];rfl
 refine run ?_;refine bt.map hkl rfl ?_;refine aM ?_;exact Rz;have e:r.acc=(m.map zd).map gU:=by rw[h2,oG E]
 by_cases hkl:r.k<l.length;have b1:decide ((r.k:Int)<((l.map D_).length:Nat))=true:=(by simp;exact hkl);have b2:decide ((r.k:Int)<6)=false:=az
 exact UG;have b1:decide ((r.k:Int)<((l.map D_).length:Nat))=false:=az;exact UG
end Abs
namespace Abs
open Go Go.Proofs
variable{G:Prop}
def SmR(r:pG):Prop:=(-16<=r.lo∧r.lo<=r.hi∧r.hi<=16)∧(0<=r.mask∧r.mask<=3)
structure Tn(d:Df):Prop where
 np:d.params.length<=2
 pr:∀r∈d.params,SmR r
 gr:∀r∈d.given,SmR r
 vars:1<=d.vars
theorem Mk.Jn(m:Mk)(a:Nat):∀i,∀r∈m.params a i,SmR r|0=>λr hr=>by simp[Mk.params]at hr|i+1=>λr hr=>by simp only[Mk.params]at hr;rcases dY.1 hr with hr|hr;exact Mk.Jn m a i r hr;rw[gg.1 hr];have h:=wx (m.Nw (a+i));simp only[XN,b_,uT,qE]at h;rcases h with h|h|h|h<;>rw[h]<;>exact CG
def Mk.aoz(m:Mk)(id:Int)(th:Bool)(a s:Nat):Tn (m.mE id th a s).1:=by
 have bX:=m.bT (a+1+1+1+1) (n:=3) E;have key:∀(part:Int) (c:Nat) (gs:List pG) (b2:Nat) (ar:List Ar),c<=2->(∀r∈gs,SmR r)->Tn (m.dh id a s part c gs b2 ar).1:=λpart c gs b2 ar hc hg=>by refine⟨?_,?_,hg,?_⟩;show(m.params (a+1+1+1+1+1) c).length<=2;rw[m.jr];exact hc;exact m.Jn _ c;have:=m.bT ((a+1+1+1+1+1+c)+1) (n:=2) E;show 1<=((((m.params (a+1+1+1+1+1) c).map bc).length:Nat):Int)+2+m.nx ((a+1+1+1+1+1+c)+1) 2;omega
 unfold Mk.mE;refine key _ _ _ _ _ ?_ ?_;split<;>omega;have:∀b:Bool,∀r∈(if b then[di]else[]),SmR r:=by intro b;cases b;intro r hr;cases hr;intro r hr;rw[gg.1 hr];exact CG
 exact this _
theorem PO(L:List UInt8)(n:Nat):∀i,∀d∈(cd L n i).defs,Tn d|0=>λd hd=>by simp[cd]at hd|i+1=>λd hd=>by rcases dY.1 hd with hx|hx;exact PO L n i d hx;have e:=gg.1 hx;subst e;exact((cd L n i).mk' L).aoz (11+i) _ _ _
def Df.aiw(d:Df):d.fn d.xj d.name=d:=rfl
structure Aq(p:Pg):Prop where
 d:p.d=cq
 aF:p.aF=p.defs.map l_
 pos:0<p.defs.length
 le:p.defs.length<=4
 ids:Ids p.defs
 right:∀d∈p.defs,OK d cq
 calls:∀d∈p.defs,∀z∈wi d.body 1,Kd p.aF z.1
 tn:∀d∈p.defs,Tn d
 sz:∀d∈p.defs,ah3 0 d
 own:∀d∈p.defs,∀z∈wi d.body 1,z.1.op=13->z.1.m≠d.id
def SI(L:List UInt8):Aq (mo L):=by
 have h1:=adx L;obtain⟨t,_,ha⟩:=Ye L;have get:∀d∈(mo L).defs,∃k u v,∃hk:k<(mo L).defs.length,agz (((mo L).defs.take k).map l_) (11+k) u v d:=λd hd=>by obtain⟨k,hk,rfl⟩:=CM.1 hd;obtain⟨u,v,h⟩:=ha.get k hk;exact⟨k,u,v,hk,h⟩
 refine⟨rfl,h1.aF,h1.pos,h1.nd,Yf L,λd hd=> ?_,λd hd z hz ho=> ?_,λd hd=> ?_,h1.ok,λd hd z hz ho=> ?_⟩;obtain⟨k,u,v,hk,h⟩:=get d hd;have:=h.base d.xj d.name h.name h.xj;rwa[d.aiw]at this;obtain⟨k,u,v,hk,h⟩:=get d hd;obtain⟨x,hx,h2⟩:=h.calls z hz ho;refine⟨x,?_,h2⟩;rw[h1.aF];obtain⟨y,hy,rfl⟩:=dV.1 hx;exact dV.2 ⟨y,pV hy,rfl⟩;obtain⟨n,e,_,_⟩:=zZ L;rw[e]at hd;exact PO L n n d hd;obtain⟨k,u,v,hk,h⟩:=get d hd;obtain⟨x,hx,h2,_⟩:=h.calls z hz ho;obtain⟨y,hy,rfl⟩:=dV.1 hx;obtain⟨j,hj,rfl⟩:=CM.1 hy;rw[l7]at hj;obtain⟨u2,v2,g⟩:=ha.get j E;have e1:=h.id;have e2:=g.id;have e3:((mo L).defs.take k)[j].id=z.1.m:=h2.symm;rw[List.getElem_take]at e3;omega
def BH{r:pG}(h:CD r):m7 r:=⟨h.lo,h.le,h.hi,h.mask.1,h.mask.2⟩
def QH{p:Pg}(h:p.d=cq):PIn p:=by have k:=afy;rw[<-h]at k;exact⟨λr hr=>BH (k.globals.1 r hr),λq hq=>BH (k.eJ.1 q hq).r,λr hr=>BH (k.fq.1 r hr),λs hs=>k.sinks.1 s hs⟩
def aou{d:Df}(h:OK d cq)(t:Tn d):yR d:=by have h1:=h.vars;have h2:=h.refs;have h3:=h.aK;have h4:=t.vars;have h5:=t.np;exact⟨⟨λa ha=>(h3.1 a ha).yP,λa ha=>(h3.1 a ha).len⟩,h1.1,⟨h4,E⟩,⟨E,E⟩,E,E⟩
theorem Dm{α β:Type}{P:β->Prop}{f:β->α->β}(h:∀s x,P s->P (f s x)):∀(l:List α) (s:β),P s->P (l.foldl f s)|[],_,hs=>hs|x::l,s,hs=>Dm h l (f s x) (h s x hs)
def Wr(op a b:Int)(ha: -2147483648<=a∧a<=2147483647)(hb: -2147483648<=b∧b<=2147483647): -2147483648<=BP op a b∧BP op a b<=2147483647:=by
 have w:=zv;unfold BP;have hm: -2147483648<=a.tmod b∧a.tmod b<=2147483647:=by
  have h1:(a.tmod b).natAbs<=a.natAbs:=by rw[Int.natAbs_tmod];exact Nat.mod_le _ _
  have h2:0<=a->0<=a.tmod b:=λh=>dz b h;have h3:a<=0->a.tmod b<=0:=λh=>by have:=dz b (show 0<=-a by omega);rw[Int.neg_tmod]at this;omega
  omega
 repeat' split
 all_goals first|exact w _|omega
def YW(s:LH):Prop:=s.lo<=s.hi∧-2147483648<=s.lo∧s.hi<=2147483647
def amj(op a b0:Int)(s:LH)(j:Nat)(h:YW s):YW (stB op a b0 s j):=by have b:=Wr op (Iy a) (Iy (b0+j)) (zv _) (zv _);obtain⟨h1,h2,h3⟩:=h;have e:II op a (b0+j)=BP op (Iy a) (Iy (b0+j)):=rfl;unfold stB YW;rw[e];generalize BP op (Iy a) (Iy (b0+j))=v at b ⊢;dsimp only;split<;>split<;>omega
def adv(x:Rw)(h:Ts x):IY (zd x):=by
 have h1:=h.lo;have h2:=h.hi;unfold zd;split;·unfold ru0;refine⟨?_,?_,?_⟩<;>dsimp only<;>(repeat' split)<;>omega
 have b:=Wr (4+x.op.tmod 7) (Iy (x.a - 20)) (Iy (x.b - 20)) (zv _) (zv _);have k:YW (PX x):=by unfold PX To;refine Dm (P:=YW) (λs i hs=> ?_) _ _ ⟨pt _,b.1,b.2⟩;unfold XM;exact Dm (P:=YW) (λs j hs=>amj _ _ _ s j hs) _ _ hs
 exact⟨k.2.1,k.1,k.2.2⟩
def XJ{l:List Rw}(h:∀x∈l,Ts x):(∀r∈zN l,IY r)∧(zN l).length<=6:=by refine⟨λr hr=> ?_,by unfold zN;exact uB⟩;obtain⟨x,hx,rfl⟩:=dV.1 hr;exact adv x (h x (pV hx))
def ap9{L:List Sm}{n:Int}{s:Sm}(h:J8 L n=some s):s∈L∧s.site=n:=by unfold J8 at h;exact⟨List.mem_of_find?_eq_some h,by simpa using List.find?_some h⟩
def WW{l:List Sm}{s:Sm}(h:s∈wa l)(k:Nat):∃z∈wi l k,z.1=s:=by rw[<-Ci l k]at h;obtain⟨z,hz,e⟩:=dV.1 h;exact⟨z,hz,e⟩
def hdF(p:Pg)(s:Sm):Hd:=(wg (λx:Hd=>x.id==s.m) Iv p.aF).1
def Ec(p:Pg)(s:Sm)(eh:List Sy):Sy:=if (wg (λx:Sy=>x.id==s.m) I6 eh).2 then(wg (λx:Sy=>x.id==s.m) I6 eh).1 else rN s.m
def LB(h:G:=by rw[hp.d];rfl):=h
def EL(h:G:=by have h1:=hx.1;have h2:=hx.2;rw[eD];omega):=h
def EJ(h:G:=by have h1:=hx.1;have h2:=hx.2;omega):=h
structure SyR(y:Sy):Prop where
 s:Q6 y
 n:y.fD.length<=9
theorem Cg{α:Type}{p:α->Bool}{z:α}:∀{l:List α},(wg p z l).2=true->(wg p z l).1∈l∧p (wg p z l).1=true|[],h=>by cases h|x::l,h=>by unfold wg at h ⊢;by_cases hx:p x=true;rw[ak hx];exact⟨zo ..,hx⟩;rw[Z hx]at h ⊢;have:=Cg (l:=l) h;exact⟨mT _ this.1,this.2⟩
theorem HN{α:Type}{p:α->Bool}{z:α}:∀{l:List α} {x:α},x∈l->p x=true->(wg p z l).2=true|y::l,x,h,hx=>by unfold wg;by_cases hy:p y=true;rw[ak hy];rw[Z hy];rcases b_.1 h with rfl|h;exact absurd hx hy;exact HN h hx
def abe(c:Int):aR ⟨(rN c).Nx,(rN c).Ny,(rN c).rm,(rN c).rr,(rN c).nO⟩:=by show aR ⟨-2147483648,2147483647,1,0,255⟩;exact⟨aw,aw,aw,aw,aw,aw,aw,aw,aw,aw⟩
def abd(c:Int):(0<=(rN c).aQ∧(rN c).aQ<=7)∧(0<=(rN c).kV∧(rN c).kV<=7)∧(rN c).fD.length<=9:=by show(0<=(7:Int)∧(7:Int)<=7)∧(0<=(0:Int)∧(0:Int)<=7)∧(p' 3).length<=9;decide
section
variable{p:Pg}{d:Df}{s:Sm}{eh:List Sy}
def Yq(hp:Aq p)(hd:d∈p.defs)(hs:s∈wa d.body)(ho:s.op=13):(wg (λx:Hd=>x.id==s.m) Iv p.aF).2=true∧hdF p s∈p.aF∧(hdF p s).params.length=s.args.length∧(hdF p s).given.length=s.cO.length:=by
 obtain⟨z,hz,rfl⟩:=WW hs 1;obtain⟨x,hx,h1,h2,h3⟩:=hp.calls d hd z hz ho;have hf:(wg (λx:Hd=>x.id==z.1.m) Iv p.aF).2=true:=HN hx uI;obtain⟨k1,k2⟩:=Cg hf;have e:hdF p z.1=x:=by
  unfold hdF;generalize (wg (λx:Hd=>x.id==z.1.m) Iv p.aF).1=y at k1 k2;rw[hp.aF]at k1 hx;obtain⟨a,ha,rfl⟩:=dV.1 k1;obtain⟨b,hb,rfl⟩:=dV.1 hx;obtain⟨i,hi,rfl⟩:=CM.1 ha;obtain⟨j,hj,rfl⟩:=CM.1 hb;have k3:p.defs[i].id=z.1.m:=by simpa[l_]using k2
  have:i=j:=hp.ids i hi j hj (by rw[k3];exact h1);subst this;rfl
 rw[e];exact⟨hf,hx,h2,h3⟩
def Gw(hp:Aq p)(hd:d∈p.defs)(hs:s∈wa d.body):∃o,SOk d cq o s:=by obtain⟨z,hz,rfl⟩:=WW hs 1;exact(hp.right d hd).stmts z hz
def Sb(hsy:∀y∈eh,SyR y):aR ⟨(Ec p s eh).Nx,(Ec p s eh).Ny,(Ec p s eh).rm,(Ec p s eh).rr,(Ec p s eh).nO⟩∧(0<=(Ec p s eh).aQ∧(Ec p s eh).aQ<=7)∧(0<=(Ec p s eh).kV∧(Ec p s eh).kV<=7)∧(Ec p s eh).fD.length<=9:=by unfold Ec;split;rename_i h;have h1:=hsy _ (Cg h).1;exact⟨abn h1.s,h1.s.l,h1.s.d,h1.n⟩;exact⟨abe _,abd _⟩
def ag4(hp:Aq p)(hd:d∈p.defs)(hs:s∈wa d.body)(ho:s.op=13)(hsl:eh.length<2^40)(hsy:∀y∈eh,SyR y)(c:Wc)(hcp:c.p=p)(hcd:c.d=d)(hcs:c.s=s)(hcy:c.eh=eh):CIn c (hdF p s) (Ec p s eh):=by
 subst hcp hcd hcs hcy;obtain⟨h1,h2,h3,h4⟩:=Yq hp hd hs ho;obtain⟨o,k⟩:=Gw hp hd hs;have hh:c.p.aF.length<=4:=by rw[hp.aF,dn];exact hp.le
 have k0:=k.op;have eo:o=13:=E
 subst eo;obtain⟨⟨a1,a2⟩,a3,a4⟩:=(show((∀e∈c.s.args,VOk c.d e)∧c.s.args.length<=12)∧(∀p∈c.s.cO,iK c.d cq 3 p)∧c.s.cO.length<=4 from k.args);have hdr:∃x∈c.p.defs,hdF c.p c.s=l_ x:=by rw[hp.aF]at h2;obtain⟨x,hx,e⟩:=dV.1 h2;exact⟨x,hx,e.symm⟩
 obtain⟨x,hx,ex⟩:=hdr;have rx:=hp.right x hx;obtain⟨_,y1,y2,y3⟩:=Sb (p:=c.p) (s:=c.s) hsy;have kn:iK c.d cq 2 c.s.n:=k.n;have hxp:=rx.part;refine⟨⟨true,?_⟩,?_,by rw[ex];exact⟨hxp.1,by have:(cq.parts:Int)=3:=rfl;show x.part<16;omega⟩,E,E,λe he=> ?_,λr hr=> ?_,λr hr=> ?_,E,E,λn hn=> ?_,E,E,E,?_⟩;have:=wM c.p c.s.m E;have e:wg (λx:Hd=>x.id==c.s.m) Iv c.p.aF=(hdF c.p c.s,true):=yf rfl h1;rw[e]at this;exact dj;have hf:=Sc c.eh c.s.m hsl;unfold Ec;by_cases hb:(wg (λx:Sy=>x.id==c.s.m) I6 c.eh).2=true;rw[ak hb];left;have e:wg (λx:Sy=>x.id==c.s.m) I6 c.eh=((wg (λx:Sy=>x.id==c.s.m) I6 c.eh).1,true):=yf rfl hb;rw[e]at hf;exact hf;rw[Z hb];right;have ht:=Xp c.p c.s.m LB E;have e1:V5 c.p c.s.m=rN c.s.m:=ak h1;rw[e1]at ht;have e:wg (λx:Sy=>x.id==c.s.m) I6 c.eh=((wg (λx:Sy=>x.id==c.s.m) I6 c.eh).1,false):=yf rfl qu;rw[e]at hf;exact⟨_,_,hf,ht⟩;obtain⟨n,_,h⟩:=a1 e he;exact⟨10,n,h⟩;rw[ex]at hr;exact BH (rx.params r hr);rw[ex]at hr;exact BH (rx.given r hr);have:iK c.d cq 3 n:=a3 n hn;exact⟨this.1,by have:=this.2;omega⟩;have:=kn.2;omega
def abp(hp:Aq p)(hd:d∈p.defs)(hs:s∈wa d.body)(hop:s.op≠24)(hsl:eh.length<2^40)(hsy:∀y∈eh,SyR y)(c:Wc)(hcp:c.p=p)(hcd:c.d=d)(hcs:c.s=s)(hcy:c.eh=eh):Xi c (hdF p s) (Ec p s eh):=by
 have hcall:=λho=>ag4 hp hd hs ho hsl hsy c hcp hcd hcs hcy;subst hcp hcd hcs hcy;obtain⟨o,k⟩:=Gw hp hd hs;have k0:=k.op;have kk:=k.kind;have hr:=hp.right _ hd;have hpv:(0:Int)<=c.d.params.length:=ft _;have eD:=hp.d;refine⟨E,λh=> ?_,λh=> ?_,λh=> ?_,λh=> ?_,λh=> ?_,λh=> ?_,λh=> ?_,λh=> ?_,λh=> ?_,λh=> ?_,λh=> ?_,λh=> ?_,λh=> ?_,λh=> ?_,hcall⟩;have hx:VOk c.d c.s.x:=by rcases(show o=1∨o=2∨o=3∨o=5∨o=9∨o=18∨o=21 by omega)with rfl|rfl|rfl|rfl|rfl|rfl|rfl<;>exact k.x
 obtain⟨n,_,h⟩:=hx;exact⟨10,n,h⟩;obtain rfl:o=3:=E
 obtain⟨n,_,h⟩:=(show VOk c.d c.s.y from k.y);exact⟨10,n,h⟩;obtain rfl:o=23:=E
 obtain⟨n,_,h⟩:=(show ∃n,n<=60∧En c.d.vars c.d.aK.length 10 c.s.c n from k.c);exact⟨10,n,h⟩;have hx:iK c.d cq 1 c.s.n:=by rcases(show o=1∨o=2∨o=4∨o=10∨o=19∨o=20 by omega)with rfl|rfl|rfl|rfl|rfl|rfl<;>exact k.n
 exact EJ;have hx:iK c.d cq 3 c.s.n:=by rcases(show o=6∨o=7∨o=8∨o=9 by omega)with rfl|rfl|rfl|rfl<;>exact k.n
 exact EJ;have hx:iK c.d cq 3 c.s.m:=by rcases(show o=8∨o=10 by omega)with rfl|rfl<;>exact k.m
 exact EJ;have hx:iK c.d cq 4 c.s.m:=by rcases(show o=2∨o=3 by omega)with rfl|rfl<;>exact k.m
 exact EJ;have hx:iK c.d cq 5 c.s.m:=by rcases(show o=4∨o=5 by omega)with rfl|rfl<;>exact k.m
 exact EL;have hx:iK c.d cq 7 c.s.m:=by rcases(show o=18∨o=19 by omega)with rfl|rfl<;>exact k.m
 exact EL;have hx:iK c.d cq 6 c.s.m:=by obtain rfl:o=20:=E;exact k.m
 exact EL;have hx:iK c.d cq 8 c.s.m:=by obtain rfl:o=21:=E;exact k.m
 exact EL;have hx:iK c.d cq 9 c.s.m:=by rcases(show o=16∨o=17 by omega)with rfl|rfl<;>exact k.m
 have h1:=hx.1;have h2:c.s.m<=3 - 1:=hx.2;omega;have hx:iK c.d cq 10 c.s.m:=by obtain rfl:o=22:=E;exact k.m
 have h1:=hx.1;have h2:c.s.m<=3 - 1:=hx.2;omega;have hx:iK c.d cq 13 c.s.v:=by obtain rfl:o=14:=E;exact k.v
 have h1:=hx.1;omega
end
end Abs
namespace Abs
open Go Go.Proofs Tryz
def Ck:Df:=⟨7,9,[102],0,0,[⟨0,5,0⟩],[],2,1,[⟨4,0⟩],10,[]⟩
def auv:Nat->List Ad:=λn=>bif Nat.beq n 60000 then[.aS 0 5,.aS 0 6,.aS 0 9,.aS 0 11]else[]
def aoj:C 39 [] (bR Ck):=by refine d_ hm func39 (λ_=>false) [] auv aA ?_;exact bz
end Abs
namespace Abs
open Go Go.Proofs
variable{G:Prop}
def VM(h:G:=by rw[fY,h,ha];simp only[ho]):=h
def YF{d:Df}{f:Fa}(hd:yR d)(hf:pT d f)(level:Int):pT d (oq d level f):=by have hgo:=FO d.vars.toNat d.params.length;have hj:kx (pN f.ju (fR d.vars.toNat d.params.length)) d.vars.toNat d.params.length:=P4 hf.ju hgo;unfold oq;split;exact hf;split;exact⟨hf.live,hf.v,hf.va,hj,hf.refs,hf.ra,hf.arr,hf.aa,hf.ei,hf.may,hf.parts,hf.sub⟩;refine⟨hf.live,by show(f.v.map dU).length=_;rw[dn];exact hf.v,λa ha=> ?_,hj,by show(f.refs.map _).length=_;rw[dn];exact hf.refs,λr hr=> ?_,hf.arr,hf.aa,hf.ei,hf.may,hf.parts,hf.sub⟩;obtain⟨b,hb,rfl⟩:=dV.1 ha;exact WU (hf.va b hb);obtain⟨b,hb,rfl⟩:=dV.1 hr;have k:=hf.ra b hb;exact⟨k.s,WU k.a,λh=>by have:=k.z h;show dU b.a=zR;exact nw⟩
def wT(s:Sm):Bool:=(s.op !=11)&&(s.op !=12)&&(s.op !=15)&&(s.op !=24)
def fY(d:Df)(L:List Int)(q:Int):Nat->Sm×Bool
 |0=>(zSm,false)
 |k+1=>match (fY d L q k).2 with
  |true=>fY d L q k
  |false=>match J8 (wa d.body) (L.getD (((k:Int)+q).tmod L.length).toNat 0)with
   |some s=>match wT s with|true=>(s,true)|false=>fY d L q k
   |none=>fY d L q k
theorem GV{d:Df}{L:List Int}{q:Int}{k:Nat}(h:(fY d L q k).2=true):∀j,fY d L q (k+j)=fY d L q k|0=>rfl|j+1=>by have ih:=GV h j;show fY d L q ((k+j)+1)=_;rw[fY,ih,h]
theorem Pt(d:Df)(L:List Int)(q:Int):∀k,(fY d L q k).2=true->(fY d L q k).1∈wa d.body∧wT (fY d L q k).1=true|0,h=>by cases h|k+1,h=>by have ih:=Pt d L q k;rw[fY]at h ⊢;cases hb:(fY d L q k).2 with|true=>simp only[hb]at h ⊢;exact ih hb|false=>simp only[hb]at h ⊢;cases ha:J8 (wa d.body) (L.getD (((k:Int)+q).tmod L.length).toNat 0)with|none=>rw[ha]at h;simp only at h;rw[hb]at h;cases h|some s=>rw[ha]at h;simp only at h ⊢;cases ho:wT s with|true=>exact⟨(ap9 ha).1,ho⟩|false=>rw[ho]at h;simp only at h;rw[hb]at h;cases h
def SA{d:Df}{L:List Int}{q:Int}{k:Nat}(h:(fY d L q k).2=false)(ha:J8 (wa d.body) (L.getD (((k:Int)+q).tmod L.length).toNat 0)=none):fY d L q (k+1)=fY d L q k:=by rw[fY,h,ha]
def XS{d:Df}{L:List Int}{q:Int}{k:Nat}{s:Sm}(h:(fY d L q k).2=false)(ha:J8 (wa d.body) (L.getD (((k:Int)+q).tmod L.length).toNat 0)=some s)(ho:wT s=false):fY d L q (k+1)=fY d L q k:=VM
def SB{d:Df}{L:List Int}{q:Int}{k:Nat}{s:Sm}(h:(fY d L q k).2=false)(ha:J8 (wa d.body) (L.getD (((k:Int)+q).tmod L.length).toNat 0)=some s)(ho:wT s=true):fY d L q (k+1)=(s,true):=VM
def nK(B:Nat->Bool)(Y:Nat->Sy):Nat->List Sy|0=>[]|k+1=>nK B Y k++(if B k=true then[Y k]else[])
theorem yt(B:Nat->Bool)(Y:Nat->Sy):∀k,(nK B Y k).length<=k|0=>cJ _|k+1=>by have:=yt B Y k;unfold nK;rw[fx];split<;>simp<;>omega
theorem Jc(B:Nat->Bool)(Y:Nat->Sy):∀k,∀y∈nK B Y k,∃i,i<k∧y=Y i|0,y,h=>by cases h|k+1,y,h=>by unfold nK at h;rcases dY.1 h with h|h;obtain⟨i,h1,h2⟩:=Jc B Y k y h;exact⟨i,E,h2⟩;split at h;exact⟨k,E,gg.1 h⟩;cases h
end Abs
namespace Abs
open Go Go.Proofs Tryz
variable{G:Prop}
def aa7(h:G:=by rw[c_,oF,gQ hk2];rfl):=h
def Vt(h:G:=by rw[hpl2];simp;exact hk2):=h
def TA(h:G:=by have e:fY d sites x.p1 (r.k+1)=(r.s,r.b):=(XS hst2 hO.symm ho).trans hst;refine aM ?_;refine bt.at rfl (ft _) rfl ?_;refine aM ?_;refine bt.at rfl m1 hxN ?_;refine aM ?_;refine⟨⟨⟨r.k+1,r.s,r.b⟩,⟨hk,e⟩⟩,iy hk (gb _),?_⟩;exact zh2):=h
def ZC(h:G:=by refine run ?_;refine bt.at rfl (ft _) rfl ?_;refine run ?_;refine Arith.ahk (ft _) (by omega) ?_;refine run ?_;refine bt.at rfl (ft _) hnd ?_;refine aM ?_;refine⟨⟨⟨r2.k+1,r2.l++[Y r2.k]⟩,⟨hk2,e.symm⟩⟩,iy hk2 (gb _),?_⟩;have qV:=aL (λz=>some (Row.mk 11 true z)) e5;have Iu:=aL (λz:List au=>some (plA p d r.s (cF f) x.level rs (.ref 20016 z.length) r.b)) e5;exact zh2):=h
def ZB(h:G:=by have e:nK B Y (r2.k+1)=r2.l:=(by rw[nK,Z (by rw[b5];simp),<-hs2,jV]);have b6:=(hB r2.k).symm.trans b5;refine run ?_;refine bt.at rfl (ft _) rfl ?_;refine run ?_;refine Arith.ahk (ft _) (by omega) ?_;refine run ?_;refine⟨⟨⟨r2.k+1,r2.l⟩,⟨hk2,e.symm⟩⟩,iy hk2 (gb _),?_⟩;exact zh2):=h
def Zr(h:G:=by have e7:plA p d r.s (cF f) x.level rs (fj 11 eO r2.l) r.b=plA p d (fY d sites x.p1 sites.length).1 (cF f) x.level rs (fj 11 eO (nK B Y p.defs.length)) (fY d sites x.p1 sites.length).2:=(by rw[hfin,e6]);refine run ?_;exact fP.mk e7 rfl):=h
def atc(x:Int):(((BitVec.ofInt IntKind.i64.bits x&&&BitVec.ofInt IntKind.i64.bits 1).toNat:Nat):Int)<=1∧0<=(((BitVec.ofInt IntKind.i64.bits x&&&BitVec.ofInt IntKind.i64.bits 1).toNat:Nat):Int):=by
 refine⟨?_,ft _⟩;have h:(BitVec.ofInt IntKind.i64.bits x&&&BitVec.ofInt IntKind.i64.bits 1).toNat<=(BitVec.ofInt IntKind.i64.bits 1).toNat:=aa5
 have h2:(BitVec.ofInt IntKind.i64.bits 1).toNat=1:=aw
 omega
structure Inp where
 L:List UInt8
 rules:List Rw
 level:Int
 n:Ns
 p0:Int
 p1:Int
 eh:N8
def av5(x:Inp):List au:=[Y2 x.L,fj 9 D_ x.rules,it x.level,sd x.n.w,sd x.n.b,.int .u8 x.p0,.int .u8 x.p1,u16 x.eh.a,u16 x.eh.b,u16 x.eh.c,u16 x.eh.d,u16 x.eh.e,u16 x.eh.f,u16 x.eh.g,u16 x.eh.h]
def vJ(x:Inp):au:= .agg (av5 x)
structure Xj(x:Inp):Prop where
 rl:x.rules.length<2^63
 ro:∀r∈x.rules,Ts r
 w:x.n.w.length<2^63
 b:x.n.b.length<2^63
 p0:0<=x.p0∧x.p0<256
 p1:0<=x.p1∧x.p1<256
 s:apr x.eh
def cF0:List au:=[bo false,.sl 5 [] true,.sl 1 [] true,.sl 6 [] true,.sl 1 [] true,it 0,it 0,it 0]
def plA(p:Pg)(d:Df)(s:Sm)(F:List au)(level:Int)(rs:List Ru)(eh:au)(b:Bool):au:= .agg (cP p++(cD d++(cS s++(F++[it level,fj 10 gU rs,eh,bo b]))))
structure PI where
 k:Nat
 s:Sm
 b:Bool
structure SI' where
 k:Nat
 l:List Sy
def hPl:Nat->List Ad:=λn=>bif Nat.beq n 7 then[.aS 7 30,.aS 7 34,.aS 7 36,.aS 7 37,.aS 7 38,.aS 7 39,.aS 7 40,.aS 7 41]else[]
def au2{α:Type}{P:Option α->Prop}(a:P none)(b:∀x,P (some x)):∀o,P o|none=>a|some x=>b x
def aci{x:Inp}{p:Pg}{d:Df}{rs:List Ru}{sites:List Int}{f:Fa}{n0:Nat}(hn0:n0<p.defs.length)(hd:p.defs[n0]=d)(hi0:x.p0.tmod (p.defs.length:Int)=n0)(hx:Xj x)(hpl:p.defs.length<=4)(hsl:0<sites.length∧sites.length<2^30)(c1:C 25 [.agg [Y2 x.L]] (qe p))(c2:C 33 [fj 9 D_ x.rules,it 6] (fj 10 gU rs))(c3:C 49 [bR d] (ints sites))(c4:∀n,C 50 [bR d,it n] (atD (J8 (wa d.body) n))){ws:List Wd}{f0:Fa}(c5:C 53 [bR d,WZ x.n] (fj 2 jR ws))(c6:C 52 [bR d,fj 2 jR ws,WZ x.n] (aZ f0))(c7:C 51 [bR d,it x.level,aZ f0] (aZ f)){Y:Nat->Sy}(c8:∀k (h:k<p.defs.length),C 16 [qe p,it p.defs[k].id,W0 x.eh] (eO (Y k))):∃B:Nat->Bool,C 11 [vJ x,bo false] (plA p d (fY d sites x.p1 sites.length).1 (cF f) x.level rs (fj 11 eO (nK B Y p.defs.length)) (fY d sites x.p1 sites.length).2):=by
 have hBB:∃B:Nat->Bool,∀k,B k=((((BitVec.ofInt IntKind.i64.bits (x.eh.a.fdiv (2^min ((k:Nat):Int).toNat IntKind.i64.bits))&&&BitVec.ofInt IntKind.i64.bits 1).toNat:Nat):Int)==1):=⟨λk=>_,λ_=>rfl⟩;refine hBB.elim λB hB=>⟨B,?_⟩;have hb0:=hx.p0;have hb1:=hx.p1;have hsa:=hx.s.a;have hpl2:(p.defs.map bR).length=p.defs.length:=dn ..;have hi1:x.p0.tmod (((p.defs.map bR).length:Nat):Int)=n0:=by rw[hpl2];exact hi0
 have hi2:0<=x.p0.tmod (((p.defs.map bR).length:Nat):Int):=by rw[hi1];omega
 have hxd:nth (p.defs.map bR) (x.p0.tmod (((p.defs.map bR).length:Nat):Int)).toNat=some (bR d):=by rw[hi1,c_,oF,gQ hn0,hd];rfl
 refine d_ hm func11 (λ_=>false) [] hPl aA ?_;refine aM ?_;refine bt.at rfl (ft _) rfl ?_;refine aM ?_;refine bt.at rfl hi2 hxd ?_;refine aM ?_;refine bF.mk ⟨[],aY.lp (λr:PI=>r.k<=sites.length∧fY d sites x.p1 r.k=(r.s,r.b)) (λr=>⟨[(9,it r.k)],[(7,plA p d r.s cF0 x.level rs (.sl 11 [] true) r.b)],[]⟩) (λr=>sites.length - r.k) ⟨0,zSm,false⟩ ⟨dM _,rfl⟩ ?_⟩;intro r hJ;have hr1:=hJ.1;have hst:=hJ.2;have hst1:(fY d sites x.p1 r.k).2=r.b:=by rw[hst]
 by_cases hk:r.k<sites.length;have b1:decide ((r.k:Int)<((sites.map it).length:Nat))=true:=qw
 refine(dD r.b).elim (λb2=> ?_) (λb2=> ?_);have hfin:fY d sites x.p1 sites.length=(r.s,r.b):=(by have:=GV (hst1.trans b2) (sites.length - r.k);rw[show r.k+(sites.length - r.k)=sites.length by omega]at this;rw[this];exact hst);have b3:(!r.b)=false:=by rw[b2];rfl
 refine aM ?_;refine bF.mk ⟨[.cell 7 52 20016],aY.lp (λr2:SI' =>r2.k<=p.defs.length∧r2.l=nK B Y r2.k) (λr2=>⟨[(12,it r2.k)],[(7,plA p d r.s (cF f) x.level rs (.ref 20016 (r2.l.map eO).length) r.b)],[(20016,⟨11,true,r2.l.map eO⟩)]⟩) (λr2=>p.defs.length - r2.k) ⟨0,[]⟩ ⟨dM _,rfl⟩ ?_⟩;intro r2 hJ2;have hr2:=hJ2.1;have hs2:=hJ2.2;have hll:=yt B Y r2.k;rw[<-hs2]at hll;by_cases hk2:r2.k<p.defs.length;have b4:decide ((r2.k:Int)<((p.defs.map bR).length:Nat))=true:=Vt;have c9:=c8 r2.k hk2;have ha1:=atc (x.eh.a.fdiv (2^min ((r2.k:Nat):Int).toNat IntKind.i64.bits));have ha2:=ha1.1;have ha3:=ha1.2;clear ha1;have hnd:nth (p.defs.map bR) ((r2.k:Nat):Int).toNat=some (bR p.defs[r2.k]):=aa7
 have hl2:(r2.l.map eO).length=r2.l.length:=dn ..;refine(dD (B r2.k)).elim (λb5=> ?_) (λb5=> ?_);have e:nK B Y (r2.k+1)=r2.l++[Y r2.k]:=(by rw[nK,ak b5,<-hs2]);have b6:=(hB r2.k).symm.trans b5;have e5:r2.l.map eO++[eO (Y r2.k)]=(r2.l++[Y r2.k]).map eO:=by rw[eu];rfl
 exact ZC;exact ZB;have b4:decide ((r2.k:Int)<((p.defs.map bR).length:Nat))=false:=(by rw[hpl2];exact az);have e6:r2.l=nK B Y p.defs.length:=by rw[hs2];congr 1;omega
 exact Zr;have b3:(!r.b)=true:=(by rw[b2];rfl);have hst2:=hst1.trans b2;have ar8:(sites.map it).length=sites.length:=dn ..;have m1:=dz (((sites.map it).length:Nat):Int) (show 0<=(r.k:Int)+x.p1 by omega);have m2:=fi ((r.k:Int)+x.p1) (show(0:Int)<(((sites.map it).length:Nat):Int) by rw[ar8];omega);have hN:∃N,nth (sites.map it) (((r.k:Int)+x.p1).tmod (((sites.map it).length:Nat):Int)).toNat=some (it N)∧N=sites.getD (((r.k:Int)+x.p1).tmod sites.length).toNat 0:=by
  rw[ar8]at m1 m2 ⊢;have hlt:(((r.k:Int)+x.p1).tmod sites.length).toNat<sites.length:=E
  refine⟨_,by rw[c_,gQ hlt];rfl,by simp[hlt]⟩
 refine hN.elim λN hN=> ?_;have hxN:=hN.1;have hNe:=hN.2;have cAt:=c4 N;have hO:∃o,o=J8 (wa d.body) N:=⟨_,rfl⟩;refine hO.elim λo hO=> ?_;rw[<-hO]at cAt;rw[hNe]at hO;clear hN;revert cAt hO;refine au2 (P:=λo=>C 50 [bR d,it N] (atD o)->o=J8 (wa d.body) (sites.getD (((r.k:Int)+x.p1).tmod sites.length).toNat 0)->_) (λc hO=> ?_) (λs c hO=> ?_) o;have e:fY d sites x.p1 (r.k+1)=(r.s,r.b):=(SA hst2 hO.symm).trans hst;have c:C 50 [bR d,it N] (.bS [encS zSm,bo false]):=c;refine aM ?_;refine bt.at rfl (ft _) rfl ?_;refine aM ?_;refine bt.at rfl m1 hxN ?_;refine aM ?_;refine⟨⟨⟨r.k+1,r.s,r.b⟩,⟨hk,e⟩⟩,iy hk (gb _),?_⟩;exact zh2;have c:C 50 [bR d,it N] (.bS [encS s,bo true]):=c;refine(dD (s.op !=11)).elim (λh11=> ?_) (λh11=> ?_);have hq11:(!(s.op==11))=true:=h11;refine(dD (s.op !=12)).elim (λh12=> ?_) (λh12=> ?_);have hq12:(!(s.op==12))=true:=h12;refine(dD (s.op !=15)).elim (λh15=> ?_) (λh15=> ?_);have aua:(!(s.op==15))=true:=h15;refine(dD (s.op !=24)).elim (λh24=> ?_) (λh24=> ?_);have au9:(!(s.op==24))=true:=h24;have ho:wT s=true:=by unfold wT;rw[h11,h12,h15,h24];rfl
 have e:fY d sites x.p1 (r.k+1)=(s,true):=SB hst2 hO.symm ho;refine aM ?_;refine bt.at rfl (ft _) rfl ?_;refine aM ?_;refine bt.at rfl m1 hxN ?_;refine aM ?_;refine⟨⟨⟨r.k+1,s,true⟩,⟨hk,e⟩⟩,iy hk (gb _),?_⟩;exact zh2;have au9:(!(s.op==24))=false:=h24;have ho:wT s=false:=by unfold wT;rw[h11,h12,h15,h24];simp
 exact TA;have aua:(!(s.op==15))=false:=h15;have ho:wT s=false:=by unfold wT;rw[h11,h12,h15];simp
 exact TA;have hq12:(!(s.op==12))=false:=h12;have ho:wT s=false:=by unfold wT;rw[h11,h12];simp
 exact TA;have hq11:(!(s.op==11))=false:=h11;have ho:wT s=false:=by unfold wT;rw[h11];simp
 exact TA;have b1:decide ((r.k:Int)<((sites.map it).length:Nat))=false:=az
 have hfin:fY d sites x.p1 sites.length=(r.s,r.b):=by rw[<-hst];congr 1;omega
 refine aM ?_;refine bF.mk ⟨[.cell 7 52 20016],aY.lp (λr2:SI' =>r2.k<=p.defs.length∧r2.l=nK B Y r2.k) (λr2=>⟨[(12,it r2.k)],[(7,plA p d r.s (cF f) x.level rs (.ref 20016 (r2.l.map eO).length) r.b)],[(20016,⟨11,true,r2.l.map eO⟩)]⟩) (λr2=>p.defs.length - r2.k) ⟨0,[]⟩ ⟨dM _,rfl⟩ ?_⟩;intro r2 hJ2;have hr2:=hJ2.1;have hs2:=hJ2.2;have hll:=yt B Y r2.k;rw[<-hs2]at hll;by_cases hk2:r2.k<p.defs.length;have b4:decide ((r2.k:Int)<((p.defs.map bR).length:Nat))=true:=Vt;have c9:=c8 r2.k hk2;have ha1:=atc (x.eh.a.fdiv (2^min ((r2.k:Nat):Int).toNat IntKind.i64.bits));have ha2:=ha1.1;have ha3:=ha1.2;clear ha1;have hnd:nth (p.defs.map bR) ((r2.k:Nat):Int).toNat=some (bR p.defs[r2.k]):=aa7
 have hl2:(r2.l.map eO).length=r2.l.length:=dn ..;refine(dD (B r2.k)).elim (λb5=> ?_) (λb5=> ?_);have e:nK B Y (r2.k+1)=r2.l++[Y r2.k]:=(by rw[nK,ak b5,<-hs2]);have b6:=(hB r2.k).symm.trans b5;have e5:r2.l.map eO++[eO (Y r2.k)]=(r2.l++[Y r2.k]).map eO:=by rw[eu];rfl
 exact ZC;exact ZB;have b4:decide ((r2.k:Int)<((p.defs.map bR).length:Nat))=false:=(by rw[hpl2];exact az);have e6:r2.l=nK B Y p.defs.length:=by rw[hs2];congr 1;omega
 exact Zr
def Tb(c:Wc):au:= .agg [it c.level,fj 10 gU c.rules]
def Jf{c:Wc}{f:Fa}{W:Wk}(h:C 108 [qe c.p,Tb c,bR c.d,encS c.s,aZ f,fj 11 eO c.eh] (Ai W)):C 31 [qe c.p,Tb c,bR c.d,encS c.s,aZ f,fj 11 eO c.eh] (Ai W):=by refine fo func31 ?_;exact bp
def Dv(c:Wc)(f:Fa)(is:Bool):au:= .agg (cP c.p++(cD c.d++(cS c.s++(cF f++[it c.level,fj 10 gU c.rules,fj 11 eO c.eh,bo is]))))
def ahr{c:Wc}{f:Fa}{is:Bool}{W:Wk}(h:C 31 [qe c.p,Tb c,bR c.d,encS c.s,aZ f,fj 11 eO c.eh] (Ai W)):C 13 [Dv c f is] (Ai W):=by refine fo func13 ?_;exact bp
def NV(x:Ex):C 43 [cy x] (encS (.mk 1 2 1 0 0 x (.mk 0 0 0 []) (.mk 0 [] []) [] [] [] [])):=by refine fo func43 ?_;exact bz
def arz:Nat->List Ad:=λn=>bif Nat.beq n 2 then[.aS 2 11]else[]
def FX(d:Df)(s:Sm):C 42 [bR d,encS s] (bR {d with body:=[s]}):=by refine d_ hm func42 (λ_=>false) [] arz aA ?_;exact bz
end Abs
namespace Abs
open Go Go.Proofs
variable{G:Prop}
def R6{d:Df}{n:Ns}(hp:∀r∈d.params,SmR r):∀w∈gi d n,(-(2^18)<w.v∧w.v<2^18)∧(0<=w.mask∧w.mask<=255):=λw hw=>by unfold gi at hw;obtain⟨k,_,rfl⟩:=dV.1 hw;have a1:=kP n.w (2*(k:Int));have a2:=kP n.w (2*(k:Int)+1);unfold rL;generalize qk n.w (2*(k:Int))=a at a1 ⊢;generalize qk n.w (2*(k:Int)+1)=b at a2 ⊢;have m1:=dz 24 a1.1;have m2:=fi a (show(0:Int)<24 by decide);have m3:=dz 4 a2.1;have m4:=fi b (show(0:Int)<4 by decide);split;rename_i hk;have hr:=hp _ (cU hk);generalize d.params[k]=R at hr ⊢;obtain⟨⟨r1,r2,r3⟩,r4,r5⟩:=hr;have m5:=dz (R.hi - R.lo+1) (show 0<=a.tmod 24 - 6+6 by omega);have m6:=fi (a.tmod 24 - 6+6) (show(0:Int)<R.hi - R.lo+1 by omega);have d4:=iZ (a:=b.tmod 4) (b:=R.mask) (n:=8) E r4 E;unfold wdP wd0;exact bu;unfold wd0;exact bu
def abc(c:Int):∀x∈(rN c).fD,x.a≠x.b:=by show ∀x∈p' 3,x.a≠x.b;decide
def amg{p:Pg}{s:Sm}{eh:List Sy}(hsy:∀y∈eh,SyR y):∀x∈(Ec p s eh).fD,x.a≠x.b:=by unfold Ec;split;rename_i h;exact(hsy _ (Cg h).1).s.ne;exact abc _
structure avg(x:Inp)(c:Wc)(f:Fa)(b:Bool):Prop where
 run:C 11 [vJ x,bo false] (Dv c f b)
 p:Aq c.p
 d:c.d∈c.p.defs
 ck:kf c
 f:pT c.d f
 pi:PIn c.p
 np:c.d.params.length<=2
 s:b=true->c.s∈wa c.d.body∧wT c.s=true∧Xi c (hdF c.p c.s) (Ec c.p c.s c.eh)
 ne:∀x∈(Ec c.p c.s c.eh).fD,x.a≠x.b
 yn:(Ec c.p c.s c.eh).fD.length<=9
 av:aR ⟨(Ec c.p c.s c.eh).Nx,(Ec c.p c.s c.eh).Ny,(Ec c.p c.s c.eh).rm,(Ec c.p c.s c.eh).rr,(Ec c.p c.s c.eh).nO⟩
def XR{x:Inp}(hx:Xj x):∃c f b,avg x c f b:=by
 have hp:=SI x.L;have c1:=akf x.L;generalize mo x.L=p at hp c1;have hpos:=hp.pos;have hle:=hp.le;have hp0:=hx.p0;have m1:=dz (p.defs.length:Int) hp0.1;have m2:=fi x.p0 (show(0:Int)<(p.defs.length:Int) by omega);obtain⟨n0,hn0⟩:∃n0:Nat,x.p0.tmod (p.defs.length:Int)=n0:=⟨(x.p0.tmod (p.defs.length:Int)).toNat,E⟩;have hlt:n0<p.defs.length:=E
 have hdm:p.defs[n0]∈p.defs:=cU hlt;have hdr:=hp.right _ hdm;have htn:=hp.tn _ hdm;have hdo:=aou hdr htn;have hv:=hdr.vars;have hrf:=hdr.refs;have hpt:=hdr.part;have avq:p.defs[n0].part<=2:=by have:(cq.parts:Int)=3:=rfl;omega
 have hsz:zI p.defs[n0].body<2^30:=by have:=hdr.size;omega
 have hpr:∀r∈p.defs[n0].params,-(2^20)<r.lo∧r.lo<=r.hi∧r.hi<2^20∧0<=r.mask∧r.mask<=255:=λr hr=>by have:=htn.pr r hr;unfold SmR at this;omega
 have aub:∀r∈p.defs[n0].params,-(2^20)<r.lo∧r.lo<=r.hi∧r.hi<2^20:=λr hr=>by have:=hpr r hr;omega
 have hgr:∀r∈p.defs[n0].given,-(2^20)<r.lo∧r.lo<=r.hi∧r.hi<2^20:=λr hr=>by have:=htn.gr r hr;unfold SmR at this;omega
 have c2:=XK x.rules hx.rl hx.ro;have c3:=Sl p.defs[n0] hsz;have c4:=λn=>at4 p.defs[n0] n hsz;have c5:=ab3 p.defs[n0] x.n E hx.w hpr;have hw:=OR (n:=x.n) hpr;have hw2:∀w∈gi p.defs[n0] x.n,(-(2^18)<w.v∧w.v<2^18)∧(0<=w.mask∧w.mask<=255):=R6 htn.pr;have c6:=Tk hdo x.n (gi p.defs[n0] x.n) hx.b (I7 _ _) hw2 aub hgr E E;have hal:=YV hdo x.n (gi p.defs[n0] x.n) (I7 _ _) hw E;have c7:=afc hdo hal x.level;have hdl:=YF hdo hal x.level;have hY:∃Y:Nat->Sy,∀k (h:k<p.defs.length),SyR (Y k)∧C 16 [qe p,it p.defs[k].id,W0 x.eh] (eO (Y k)):=by
  have key:∀k,∃y:Sy,∀(h:k<p.defs.length),SyR y∧C 16 [qe p,it p.defs[k].id,W0 x.eh] (eO y):=λk=>by by_cases h:k<p.defs.length;obtain⟨y,_,h2,h3,h4⟩:=Xz p p.defs[k].id x.eh hx.s LB LB;exact⟨y,λ_=>⟨⟨h3,h2⟩,h4⟩⟩;exact⟨I6,λh2=>absurd h2 h⟩
  exact⟨λk=>(key k).choose,λk h=>(key k).choose_spec h⟩
 obtain⟨Y,hY⟩:=hY;have hsl:0<(rO p.defs[n0]).length∧(rO p.defs[n0]).length<2^30:=by unfold rO;rw[fx,dn,Dq];have:=hdr.size;exact az
 obtain⟨B,hB⟩:=aci hlt rfl hn0 hx hle hsl c1 c2 c3 c4 c5 c6 c7 (λk h=>(hY k h).2);have hsy:∀y∈nK B Y p.defs.length,SyR y:=λy hy=>by obtain⟨i,hi,rfl⟩:=Jc B Y _ y hy;exact(hY i hi).1
 have hsn:=yt B Y p.defs.length;have hru:=XJ hx.ro;refine⟨⟨p,x.level,zN x.rules,p.defs[n0],(fY p.defs[n0] (rO p.defs[n0]) x.p1 (rO p.defs[n0]).length).1,nK B Y p.defs.length⟩,oq p.defs[n0] x.level (eB p.defs[n0] x.n (gi p.defs[n0] x.n)),(fY p.defs[n0] (rO p.defs[n0]) x.p1 (rO p.defs[n0]).length).2,hB,hp,hdm,⟨hdo,by have:=hru.2;show(zN x.rules).length<=_;omega,hru.1⟩,hdl,QH hp.d,htn.np,λhb=> ?_,amg hsy,(Sb hsy).2.2.2,(Sb hsy).1⟩;have hpk:=Pt p.defs[n0] (rO p.defs[n0]) x.p1 _ hb;refine⟨hpk.1,hpk.2,abp hp hdm hpk.1 ?_ E hsy _ rfl rfl rfl rfl⟩;have:=hpk.2;unfold wT at this;intro e;rw[e]at this;simp at this
def Z_(h:G:=by rw[gg.1 ha];exact CG):=h
def exP:Pg:=⟨cq,[l_ Ck],[Ck],[]⟩
def Y1(lv:Int)(s:Sm):Wc:=⟨exP,lv,[],{Ck with body:=[s]},s,[]⟩
def sS(x:Ex):Sm:= .mk 1 2 1 0 0 x (.mk 0 0 0 []) (.mk 0 [] []) [] [] [] []
def Jj:Sm:= .mk 2 7 0 0 0 (.mk 0 0 0 []) (.mk 0 0 0 []) (.mk 0 [] []) [] [] [] []
def f0:Fa:=kL Ck
def f1:Fa:={f0 with refs:=[⟨3,zR⟩]}
def kxA:Wk:=nL (Y1 2 (sS (IV 0))) Iv I6 f0
def kxB:Wk:=nL (Y1 2 (sS (qf 1))) Iv I6 f0
def kxC:Wk:=nL (Y1 2 (sS (qf 7))) Iv I6 f0
def kxE:Wk:=nL (Y1 0 Jj) Iv I6 f1
def anq:kxA.fd=[⟨7,1,1⟩]:=aA
def ar0:kxA.nx.v=[jh ⟨0,3,0⟩,Ig 0]:=aA
def anp:kxB.fd=[]:=aA
def ano:kxC.fd=[⟨7,1,1⟩]:=aA
def aqz:kxC.nx.dead=true:=aA
def aqy:kxC.th.dead=true:=aA
def ann:kxE.fd=[⟨7,2,2⟩]:=aA
def aqx:kxE.nx.refs=[⟨1,zR⟩]:=aA
theorem yR.body{d:Df}(h:yR d)(b:List Sm):yR {d with body:=b}:=⟨⟨h.J9.yP,h.J9.len⟩,h.pv,h.vars,h.refs,h.pn,h.an⟩
def Om :yR Ck:=⟨⟨λa ha=>Z_,λa ha=>Z_⟩,aw,⟨aw,aw⟩,⟨aw,aw⟩,aw,aw⟩
def aja(b:List Sm):yR {Ck with body:=b}:=Om.body b
def aok(lv:Int)(s:Sm):kf (Y1 lv s):=⟨aja [s],(by show(0:Nat)<=2^30;decide),λr hr=>(by cases hr)⟩
theorem pT.body{d:Df}{f:Fa}(h:pT d f)(b:List Sm):pT {d with body:=b} f:=⟨h.live,h.v,h.va,h.ju,h.refs,h.ra,h.arr,h.aa,h.ei,h.may,h.parts,h.sub⟩
def xn:pT Ck f0:=by
 refine⟨rfl,rfl,λa ha=> ?_,FO 2 1,rfl,λr hr=> ?_,rfl,λn hn=> ?_,⟨aw,aw⟩,⟨aw,aw⟩,⟨aw,aw⟩,aw⟩;have e:f0.v=[jh ⟨0,5,0⟩,zR]:=aA
 rw[e]at ha;rcases b_.1 ha with rfl|ha;exact m7.av ⟨aw,aw,aw,aw,aw⟩;rw[gg.1 ha];exact Bt;have e:f0.refs=[⟨1,zR⟩]:=aA
 rw[e]at hr;rw[gg.1 hr];exact TT;have e:f0.arr=[0]:=aA
 rw[e]at hn;rw[gg.1 hn];exact CG
def as8:pT Ck f1:=⟨rfl,xn.v,xn.va,xn.ju,rfl,λr hr=>by have e:f1.refs=[⟨3,zR⟩]:=rfl;rw[e]at hr;rw[gg.1 hr];exact⟨⟨aw,aw⟩,Bt,λh=>by exact absurd h aw⟩,xn.arr,xn.aa,xn.ei,xn.may,xn.parts,xn.sub⟩
def S8(b:List Sm):pT {Ck with body:=b} f0:=xn.body b
def aof(b:List Sm):pT {Ck with body:=b} f1:=as8.body b
def NU(lv:Int){x:Ex}(hx:∃k z,kh 2 1 k x z):Xi (Y1 lv (sS x)) Iv I6:=by have ho:(Y1 lv (sS x)).s.op=2:=rfl;refine⟨by rw[ho];decide,λ_=>hx,λh=> ?_,λh=> ?_,λ_=>(show(0:Int)<=1∧(1:Int)<2 by decide),λh=> ?_,λh=> ?_,λ_=>(show(0:Int)<=0∧(0:Int)<((1:Nat):Int) by decide),λh=> ?_,λh=> ?_,λh=> ?_,λh=> ?_,λh=> ?_,λh=> ?_,λh=> ?_,λh=> ?_⟩<;>(rw[ho]at h;exact absurd h aw)
def ait(lv:Int):Xi (Y1 lv Jj) Iv I6:=by have ho:(Y1 lv Jj).s.op=7:=rfl;refine⟨by rw[ho];decide,λh=> ?_,λh=> ?_,λh=> ?_,λh=> ?_,λ_=>(show(0:Int)<=0∧(0:Int)<1 by decide),λh=> ?_,λh=> ?_,λh=> ?_,λh=> ?_,λh=> ?_,λh=> ?_,λh=> ?_,λh=> ?_,λh=> ?_,λh=> ?_⟩<;>(rw[ho]at h;exact absurd h aw)
def Oi{lv:Int}{s:Sm}{f:Fa}(hf:pT {Ck with body:=[s]} f)(hi:Xi (Y1 lv s) Iv I6)(ho:s.op≠13):C 31 [qe exP,.agg [it lv,fj 10 gU []],bR {Ck with body:=[s]},encS s,aZ f,fj 11 eO []] (Ai (nL (Y1 lv s) Iv I6 f)):=Jf (Wb (c:=Y1 lv s) (aok lv s) (.inr hf) (QH rfl) hi (show 1<=2 by decide) (λh=>absurd h ho))
def aog:C 30 [bR Ck,it 2] (aZ f0):=by have hN:C 105 [it Ck.vars,it ((Ck.params.map bc).length:Nat)] (dI (fR Ck.vars.toNat Ck.params.length)):=al2 2 1 E E;have hD:=Ov Om (.inr xn) hN 2;have e:oq Ck 2 f0=f0:=rfl;rw[e]at hD;exact ahs Om (λr hr=>by rw[gg.1 hr];decide) (λr hr=>by cases hr) aw aw hN 2 f0 hD
end Abs
namespace Abs
open Go Go.Proofs Tryz
def wO(a:List Fd)(hl:a.length<2^40):C 46 [fj 3 eP a,fj 3 eP a] (bo true):=by
 have b0:((((a.map eP).length:Nat):Int) !=(((a.map eP).length:Nat):Int))=false:=O
 refine fo func46 ?_;refine run ?_;refine bF.mk ⟨[],aY.np a.length (λ_=>True) (λk=>⟨[(5,it k)],[],[]⟩) trivial ?_⟩;intro k hk hJ;by_cases hk1:k<a.length;have b1:decide ((k:Int)<((a.map eP).length:Nat))=true:=gL
 have b2:(!(a[k].df==a[k].df&&(a[k].site==a[k].site&&(a[k].kind==a[k].kind&&true))))=false:=O
 have b3:(!(a[k].df==a[k].df&&(a[k].site==a[k].site&&a[k].kind==a[k].kind)))=false:=O
 refine run ?_;refine bt.map hk1 rfl ?_;refine run ?_;refine bt.map hk1 rfl ?_;refine run ?_;exact y_ hk1;have b1:decide ((k:Int)<((a.map eP).length:Nat))=false:=az
 exact bz
def S9{F:Fa}{WA WB WC WE:Wk}{A:Av}(cF0:C 30 [bR Ck,it 2] (aZ F))(hFv:F.v.length=2)(cA:C 31 [qe exP,.agg [it 2,fj 10 gU []],bR {Ck with body:=[sS (IV 0)]},encS (sS (IV 0)),aZ F,fj 11 eO []] (Ai WA))(cB:C 31 [qe exP,.agg [it 2,fj 10 gU []],bR {Ck with body:=[sS (qf 1)]},encS (sS (qf 1)),aZ F,fj 11 eO []] (Ai WB))(cC:C 31 [qe exP,.agg [it 2,fj 10 gU []],bR {Ck with body:=[sS (qf 7)]},encS (sS (qf 7)),aZ F,fj 11 eO []] (Ai WC))(cE:C 31 [qe exP,.agg [it 0,fj 10 gU []],bR {Ck with body:=[Jj]},encS Jj,aZ {F with refs:=[⟨3,zR⟩]},fj 11 eO []] (Ai WE))(a1:WA.fd=[⟨7,1,1⟩])(a2:WA.nx.v=[A,Ig 0])(c47:C 47 [.agg [it 0,it 3,it 0]] (ai A))(bb:WB.fd=[])(d1:WC.fd=[⟨7,1,1⟩])(d2:WC.nx.dead=true)(d3:WC.th.dead=true)(e1:WE.fd=[⟨7,2,2⟩])(e2:WE.nx.refs=[⟨1,zR⟩]):C 10 [] (bo true):=by
 have c1:=aoj;have c2:=D';have c3:=FY Ck;have v1:=ab7 0;have v2:=fN 1;have v3:=fN 7;have l1:=NV (IV 0);have l2:=NV (qf 1);have l3:=NV (qf 7);have h1:=FX Ck (sS (IV 0));have h2:=FX Ck (sS (qf 1));have h3:=FX Ck (sS (qf 7));have h4:=FX Ck Jj;have f1:C 46 [fj 3 eP WA.fd,.sl 3 [.agg [it 7,it 1,it 1]] false] (bo true):=by rw[a1];exact wO [⟨7,1,1⟩] aw
 have f2:C 46 [fj 3 eP WC.fd,.sl 3 [.agg [it 7,it 1,it 1]] false] (bo true):=by rw[d1];exact wO [⟨7,1,1⟩] aw
 have f3:C 46 [fj 3 eP WE.fd,.sl 3 [.agg [it 7,it 2,it 2]] false] (bo true):=by rw[e1];exact wO [⟨7,2,2⟩] aw
 have cz:=AN;have t1:((((F.v.map ai).length:Nat):Int) !=2)=false:=by rw[dn,hFv];rfl
 have t2:((((WA.nx.v.map ai).length:Nat):Int) !=2)=false:=by rw[a2];rfl
 have t3:((((WB.fd.map eP).length:Nat):Int) !=0)=false:=by rw[bb];rfl
 have t4:(!WC.nx.dead)=false:=by rw[d2];rfl
 have t5:(!WC.th.dead)=false:=by rw[d3];rfl
 have t6:((((WE.nx.refs.map aN).length:Nat):Int)==1)=true:=by rw[e2];rfl
 have x1:nth (WA.nx.v.map ai) ((0:Int)).toNat=some (ai A):=by rw[a2];rfl
 have x2:nth (WE.nx.refs.map aN) ((0:Int)).toNat=some (aN ⟨1,zR⟩):=by rw[e2];rfl
 have t7:(!(A.lo==A.lo&&(A.hi==A.hi&&(A.m==A.m&&(A.r==A.r&&(A.mask==A.mask&&true))))))=false:=O
 refine fo func10 ?_;refine aM ?_;refine bt.at rfl aw x1 ?_;refine aM ?_;refine bt.at rfl aw x2 ?_;exact bp
def Qv:C 10 [] (bo true):=
 S9 (F:=f0) (WA:=kxA) (WB:=kxB) (WC:=kxC) (WE:=kxE) (A:=jh ⟨0,3,0⟩) aog rfl
  (Oi (lv:=2) (S8 _) (NU 2 ⟨1,1,.var ⟨aw,aw⟩⟩) aw) (Oi (lv:=2) (S8 _) (NU 2 ⟨1,1,.num ⟨aw,aw⟩⟩) aw) (Oi (lv:=2) (S8 _) (NU 2 ⟨1,1,.num ⟨aw,aw⟩⟩) aw)
  (Oi (lv:=0) (aof _) (ait 0) aw) anq ar0 (SV ⟨0,3,0⟩ aw aw aw) anp ano aqz aqy ann aqx
def Fs:=@Bool.false_ne_true
def Tf{x:Inp}{c:Wc}{f:Fa}(c10:C 10 [] (bo true))(c11:C 11 [vJ x,bo false] (Dv c f false)):C 4 [vJ x] (bo true):=by refine fo func4 ?_;exact bp
def YQ{x:Inp}{c:Wc}{f:Fa}{W:Wk}(c10:C 10 [] (bo true))(c11:C 11 [vJ x,bo false] (Dv c f true))(c13:C 13 [Dv c f true] (Ai W))(l:Cl c W)(hv:c.s.op=14->0<=c.s.v∧c.s.v<32):C 4 [vJ x] (bo true):=by
 have hfl:(W.fd.map eP).length=W.fd.length:=dn ..;have n0:((((W.fd.map eP).length:Nat):Int)==0)=true->W.fd=[]:=λh=>by
  rw[hfl]at h;have:W.fd.length=0:=eQ
  exact Gl this
 have n1:decide ((((W.fd.map eP).length:Nat):Int)>0)=false->W.fd=[]:=λh=>by
  rw[hfl]at h;have:¬W.fd.length>0:=eQ
  exact Gl E
 have b:=l.b;have tb:((W.DG==0) !=W.th.dead)=false:=by rw[b];simp
 have a:(W.nx.dead&&(W.th.dead&&((((W.fd.map eP).length:Nat):Int)==0)))=false:=by cases h1:W.nx.dead with|false=>rfl|true=>cases h2:W.th.dead with|false=>rfl|true=>cases h3:((((W.fd.map eP).length:Nat):Int)==0)with|false=>rfl|true=>exact absurd (n0 h3) (l.a h1 h2)
 refine(dD (c.s.op==14)).elim (λo1=> ?_) (λo1=> ?_);have ho:c.s.op=14:=by simpa using o1
 obtain⟨t1,t2,t3⟩:=l.t ho;have hv:=hv ho;have hb:=agd hv;have e0:(W.DG==0)=false:=by rw[t2];exact qu
 have t4:W.th.dead=false:=by rw[<-b];exact e0
 have e1:((((W.fd.map eP).length:Nat):Int)==0)=true:=by rw[t3];rfl
 have e2:(W.DG==IntKind.i64.wrap (1*2^min c.s.v.toNat IntKind.i64.bits))=true:=by rw[t2];exact beq_self_eq_true _
 refine fo func4 ?_;refine aM ?_;refine Arith.ahk hv.1 E ?_;refine run ?_;exact fP.mk (aL au.bool e1) rfl
 ·have ho:c.s.op≠14:=by simpa using o1
  obtain⟨q1,q2⟩:=l.o ho;have fin:∀nd nn td f0 f1 o3 t0:Bool,W.nx.dead=nd->(!W.nx.dead)=nn->W.th.dead=td->((((W.fd.map eP).length:Nat):Int)==0)=f0->decide ((((W.fd.map eP).length:Nat):Int)>0)=f1->(c.s.op==13)=o3->(W.DG==0)=t0->C 4 [vJ x] (bo true):=by
   intro nd nn td f0 f1 o3 t0 h1 h7 h2 h3 h4 h5 h6;have k3:nn= !nd:=by rw[<-h7,h1]
   have b:t0=td:=(by rw[<-h6,<-h2];exact l.b);subst b;have hf:f0= !f1:=by rw[<-h3,<-h4];cases hn:(W.fd.map eP).length<;>simp<;>omega
   subst hf;have k1:nd=true->f1=true:=λe=>by cases f1 with|true=>rfl|false=>exact absurd (n1 h4) (q1 (h1.trans e))
   have k2:o3=false->t0=true:=λe=>(by rw[e]at h5;have q:=q2.resolve_left LG;rw[<-h6,q];rfl);cases nd<;>cases nn<;>cases t0<;>cases f1<;>cases o3<;>first|exact absurd k3 Fs|exact absurd k3.symm Fs|exact absurd (k1 rfl) Fs|exact absurd (k2 rfl) Fs|skip
   all_goals (refine fo func4 ?_)
   all_goals (refine aM ?_)
   all_goals first|exact fP.mk rfl rfl|exact fP.mk (aL au.bool h6) rfl
  exact fin _ _ _ _ _ _ _ rfl rfl rfl rfl rfl rfl rfl
def abf{p:Pg}{d:Df}{s:Sm}(hp:Aq p)(hd:d∈p.defs)(hs:s∈wa d.body)(h:s.op=14):0<=s.v∧s.v<32:=by
 obtain⟨o,k⟩:=Gw hp hd hs;have k0:=k.op;have hx:iK d cq 13 s.v:=by
  obtain rfl:o=14:=E
  exact k.v
 have h1:=hx.1;have h2:s.v<=31:=hx.2;omega
def QS{x:Inp}(hx:Xj x):C 4 [vJ x] (bo true):=by obtain⟨c,f,b,p⟩:=XR hx;have c10:=Qv;cases b with|false=>exact Tf c10 p.run|true=>obtain⟨h1,h2,h3⟩:=p.s rfl;have hc:C 13 [Dv c f true] (Ai (nL c (hdF c.p c.s) (Ec c.p c.s c.eh) f)):=ahr (Jf (Wb p.ck (.inr p.f) p.pi h3 p.np (λ_ _=>p.av)));have hv:=abf p.p p.d h1;exact YQ c10 p.run hc (XD p.ck p.f h3 hv) hv
end Abs
namespace Abs
open Go Go.RowKit
variable{G:Prop}
def RU(h:G:=by rw[Ty]at h;obtain⟨b,rfl,_⟩:=h;simp[iY]):=h
def TB(h:G:=by exact⟨l,by simpa using hr,by rw[Ty];exact hty⟩):=h
inductive Sh where
 |bool
 |int (k:IntKind)
 |str
 |sl (e:Sh)
 |st (fs:List Sh)
 |arr (n:Nat) (e:Sh)
mutual
def iY:Sh->Nat| .bool=>1| .int _=>1| .str=>1| .sl _=>1| .st fs=>DL fs| .arr n e=>n*iY e
def DL:List Sh->Nat|[]=>0|s::l=>iY s+DL l
end
def ant:Sh->Bool| .st _=>true| .arr _ _=>true|_=>false
def NN(s:Sh)(c:List au):au:=if ant s then .agg c else c.headD .any
def Q5(T:List au->Prop):Nat->List au->Prop|0,l=>l=[]|n+1,l=>∃a b,l=a++b∧T a∧Q5 T n b
mutual
def Ty:Sh->List au->Prop| .bool,l=>∃b,l=[.bool b]| .int k,l=>∃n,l=[.int k n]∧(Lit.int k n).wf=true| .str,l=>∃s:List UInt8,l=[.str s]∧s.length<=maxLen| .sl e,l=>∃es,l=[.sl (iY e) es false]∧es.length<=maxLen∧∀x∈es,∃c,x=NN e c∧Ty e c| .st fs,l=>pS fs l| .arr n e,l=>Q5 (Ty e) n l
def pS:List Sh->List au->Prop|[],l=>l=[]|s::fs,l=>∃a b,l=a++b∧Ty s a∧pS fs b
end
theorem Q5.len{T:List au->Prop}{k:Nat}(h:∀l,T l->l.length=k):∀(n:Nat) (l:List au),Q5 T n l->l.length=n*k|0,l,e=>by rw[Q5]at e;subst e;simp|n+1,l,e=>by rw[Q5]at e;obtain⟨a,b,rfl,ha,hb⟩:=e;rw[fx,h a ha,Q5.len h n b hb,rF];omega
mutual
theorem Ty.len:∀(s:Sh) (l:List au),Ty s l->l.length=iY s
 | .bool,l,h=>by rw[Ty]at h;obtain⟨b,rfl⟩:=h;simp[iY]
 | .int k,l,h=>RU
 | .str,l,h=>RU
 | .sl e,l,h=>RU
 | .st fs,l,h=>by rw[Ty]at h;rw[iY];exact pS.len fs l h| .arr n e,l,h=>by rw[Ty]at h;rw[iY];exact Q5.len (Ty.len e) n l h
theorem pS.len:∀(fs:List Sh) (l:List au),pS fs l->l.length=DL fs|[],l,h=>by rw[pS]at h;subst h;simp[DL]|s::fs,l,h=>by rw[pS]at h;obtain⟨a,b,rfl,ha,hb⟩:=h;rw[fx,Ty.len s a ha,pS.len fs b hb,DL]
end
theorem Ty.cells{s:Sh}{c:List au}(h:Ty s c):Abs.cells (NN s c)=c:=by cases s<;>rw[Ty]at h;obtain⟨b,rfl⟩:=h;rfl;obtain⟨b,rfl,_⟩:=h;rfl;obtain⟨b,rfl,_⟩:=h;rfl;obtain⟨b,rfl,_⟩:=h;rfl;rfl;rfl
def Yv(P:Program)(F:TypeId->Sh->Bool):Nat->List Field->List Sh->Bool|_,[],[]=>true|off,g::gs,s::fs=>Nat.beq g.offset off&&(Nat.beq (P.cellsOf g.type) (iY s)&&(F g.type s&&Yv P F (off+iY s) gs fs))|_,_,_=>false
def Gx(P:Program):Nat->TypeId->Sh->Bool|0,_,_=>false|n+1,t,s=>Nat.beq (P.cellsOf t) (iY s)&&match P.underlying t,s with|some .bool,.bool=>true|some (.int k),.int k' =>decide (k=k')|some .string,.str=>true|some (.slice e),.sl u=>Nat.blt 0 (iY u)&&(Nat.beq (P.cellsOf e) (iY u)&&Gx P n e u)|some (.struct gs),.st fs=>Yv P (Gx P n) 0 gs.toList fs|some (.array m e),.arr m' u=>Nat.beq m m' &&(Nat.beq (P.cellsOf e) (iY u)&&Gx P n e u)|_,_=>false
def Iw(W:World)(b o:Nat):Option Value:=match W.cell? ⟨b,o,none⟩with
 |some v=>if leaf v then some v else none
 |none=>none
def akg{W:World}{b o:Nat}{v:Value}(h:W.cell? ⟨b,o,none⟩=some v)(hl:leaf v=true):Iw W b o=some v:=by unfold Iw;rw[h];simp[hl]
def atm{W:World}{b o:Nat}{v:Value}(h:Iw W b o=some v):W.cell? ⟨b,o,none⟩=some v∧leaf v=true:=by unfold Iw at h;split at h;split at h;cases h;exact⟨gy,gy⟩;cases h;cases h
def Reads(I:Nat->Nat->Option Value)(cs:List Value)(l:List au):Prop:=l.length=cs.length∧∀(i:Nat) v x,cs[i]? =some v->nth l i=some x->bM I v x∧leaf v=true
def Reads.nil{I:Nat->Nat->Option Value}:Reads I [] []:=⟨rfl,λi v x h=>by simp at h⟩
def Reads.one{I:Nat->Nat->Option Value}{v:Value}{d:au}(r:bM I v d)(h:leaf v=true):Reads I [v] [d]:=by refine⟨rfl,λi u x hu hx=> ?_⟩;cases i with|zero=>simp at hu;simp[nth]at hx;subst hu hx;exact⟨r,h⟩|succ i=>simp at hu
def Reads.append{I:Nat->Nat->Option Value}{a b:List Value}{l m:List au}(h:Reads I a l)(k:Reads I b m):Reads I (a++b) (l++m):=by refine⟨by rw[fx,fx,h.1,k.1],λi v x hv hx=> ?_⟩;rw[aJ]at hx;rcases jl i a.length with hi|hi;rw[lj hi]at hv;rw[lj (by rw[h.1];exact hi)]at hx;exact h.2 i v x hv E9;rw[jn hi]at hv;rw[jn (by rw[h.1];exact hi),h.1]at hx;exact k.2 _ v x hv E9
section
variable{H:Type}{enc:TypeId×Value->H}{P:Program}{W:World}{sp:Nat->Bool}{held:Bool}
theorem WT{F:TypeId->Sh->Bool}{m:Nat}{cs:List Value}(IH:∀t s cs x,F t s=true->DataW.trod enc P W 0 sp held m t cs=some x->∃l,Reads (Iw W) cs l∧Ty s l):∀(gs:List Field) (fs:List Sh) (off:Nat),Yv P F off gs fs=true->cs.length=off+DL fs->(∀f∈gs,∃x,DataW.trod enc P W 0 sp held m f.type ((cs.drop f.offset).take (P.cellsOf f.type))=some x)->∃l,Reads (Iw W) (cs.drop off) l∧pS fs l
 |[],fs,off,hb,hl,hx=>by cases fs with|cons s fs=>simp[Yv]at hb|nil=>refine⟨[],?_,by rw[pS]⟩;rw[zu (by rw[hl];simp[DL])];exact Reads.nil
 |g::gs,fs,off,hb,hl,hx=>by
  cases fs with
  |nil=>simp[Yv]at hb
  |cons s fs=>
   simp only[Yv,aX]at hb;obtain⟨h1,h2,h3,h4⟩:=hb;have e1:g.offset=off:=dw h1;have e2:P.cellsOf g.type=iY s:=dw h2;rw[DL]at hl;obtain⟨x,hx1⟩:=hx g O;rw[e1,e2]at hx1;obtain⟨l,hr,ht⟩:=IH _ _ _ _ h3 hx1;obtain⟨l',hr',ht'⟩:=WT IH gs fs (off+iY s) h4 E (λf hf=>hx f (by simp[hf]));refine⟨l++l',?_,by rw[pS];exact⟨l,l',rfl,ht,ht'⟩⟩;have e:cs.drop off=(cs.drop off).take (iY s)++cs.drop (off+iY s):=by rw[<-List.drop_drop,CQ]
   rw[e];exact hr.append hr'
theorem agl{m e k:Nat}{u:Sh}{cs:List Value}(IH:∀cs x,DataW.trod enc P W 0 sp held m e cs=some x->∃l,Reads (Iw W) cs l∧Ty u l)(n:Nat)(hl:cs.length=n*k)(hx:∀i,i<n->∃x,DataW.trod enc P W 0 sp held m e ((cs.drop (i*k)).take k)=some x):∀(r i:Nat),i+r=n->∃l,Reads (Iw W) (cs.drop (i*k)) l∧Q5 (Ty u) r l
 |0,i,hi=>by refine⟨[],?_,by rw[Q5]⟩;rw[zu (by rw[hl,<-hi];simp)];exact Reads.nil
 |r+1,i,hi=>by
  obtain⟨x,hx1⟩:=hx i E;obtain⟨l,hr,ht⟩:=IH _ _ hx1;obtain⟨l',hr',ht'⟩:=agl IH n hl hx r (i+1) E;refine⟨l++l',?_,by rw[Q5];exact⟨l,l',rfl,ht,ht'⟩⟩;have e:cs.drop (i*k)=(cs.drop (i*k)).take k++cs.drop ((i+1)*k):=by rw[rF,<-List.drop_drop,CQ]
  rw[e];exact hr.append hr'
def J4{a:Addr}{n:Nat}{cs:List Value}(h:W.cells? 0 a n=some cs):cs.length=n∧∀i,i<n->W.cell? (a.add i)=cs[i]? :=by unfold World.cells? at h;rw[ak (dM _)]at h;exact⟨by simpa using mapM_some_length h,λi hi=>mapM_some_get h i i (by simp[hi])⟩
def add_plain(b o n:Nat):Addr.add ⟨b,o,none⟩ n=⟨b,o+n,none⟩:=VU
theorem ahm:∀(n fuel:Nat) (t:TypeId) (s:Sh) (cs:List Value) (x:DataW H×List MemPlace),Gx P n t s=true->DataW.trod enc P W 0 sp held fuel t cs=some x->∃l,Reads (Iw W) cs l∧Ty s l:=by
 intro n;induction n with
 |zero=>intro fuel t s cs x hb;simp[Gx]at hb
 |succ n ih=>
  intro fuel t s cs x hb h;simp only[Gx,aX]at hb;obtain⟨hc0,hb⟩:=hb;have hc:=dw hc0;clear hc0;split at hb;rename_i ht;obtain⟨b,rfl,rfl⟩:=DataW.trod_bool ht h;exact⟨[.bool b],.one (.bool b) rfl,by rw[Ty];exact⟨b,rfl⟩⟩;rename_i k k' ht;have e:k=k' :=tH hb;subst e;obtain⟨b,rfl,rfl,hw⟩:=DataW.trod_int ht h;exact⟨[.int k b],.one (.int k b) rfl,by rw[Ty];exact⟨b,rfl,hw⟩⟩;rename_i ht;obtain⟨b,rfl,rfl,hw⟩:=DataW.trod_string ht h;refine⟨[.str b.data.toList],.one ?_ rfl,by rw[Ty];exact⟨_,rfl,hw⟩⟩;exact .str b.data.toList
  ·rename_i e u ht;simp only[aX]at hb;obtain⟨h0,h1,h2⟩:=hb;have h0:0<iY u:=by simpa[Nat.blt_eq]using h0
   have h1:=dw h1;rcases DataW.trod_slice ht h with⟨rfl,_⟩|⟨a,len,cap,elems,rest,m,_,rfl,_,_,hlc,hcap,hlen,hel,_⟩;exact⟨[.sl (iY u) [] false],.one (.slnil _ _) rfl,by rw[Ty];exact⟨[],rfl,dM _,λx hx=>by simp at hx⟩⟩
   ·have hall:∀i,i<len->∃c,(∃vs,W.cells? 0 (a.add (i*iY u)) (iY u)=some vs∧Reads (Iw W) vs c)∧Ty u c:=(by intro i hi;have hE:=hel i hi;rw[h1]at hE;have hx:∃y,elems[i]? =some y:=⟨elems[i]' E,iW E⟩;obtain⟨y,hy⟩:=hx;rw[hy]at hE;obtain⟨vs,hv,ht2⟩:=M9.1 hE;obtain⟨c,hr,hty⟩:=ih m e u vs y h2 ht2;exact⟨c,⟨vs,hv,hr⟩,hty⟩);obtain⟨C,hC⟩:∃C:Nat->List au,∀i,i<len->(∃vs,W.cells? 0 (a.add (i*iY u)) (iY u)=some vs∧Reads (Iw W) vs (C i))∧Ty u (C i):=by refine⟨λi=>if h:i<len then(hall i h).choose else[],λi hi=> ?_⟩;simp only[hi,dif_pos];exact(hall i hi).choose_spec
    have hes:∃es,es=(List.range len).map λi=>NN u (C i):=⟨_,rfl⟩;obtain⟨es,hes⟩:=hes;have arl:es.length=len:=by rw[hes];simp
    have hty:∀x∈es,∃c,x=NN u c∧Ty u c:=(by intro x hx;rw[hes]at hx;obtain⟨i,hi,rfl⟩:=dV.1 hx;exact⟨C i,rfl,(hC i (Be.1 hi)).2⟩);have hsz:∀x∈es,(Abs.cells x).length=iY u:=by intro x hx;obtain⟨c,rfl,hc⟩:=hty x hx;rw[hc.cells,Ty.len u c hc]
    refine⟨[.sl (iY u) es false],.one ?_ rfl,by rw[Ty];exact⟨es,rfl,E,hty⟩⟩;by_cases hz:len=0;have:es=[]:=Gl E;rw[this,hz];exact Ay;have hsp:a.spot=none:=by
     obtain⟨⟨vs,hv,_⟩,_⟩:=hC 0 E;obtain⟨hl,hg⟩:=J4 hv;have:=hg 0 h0;rw[iW E]at this;unfold World.cell? at this;split at this;·split at this;cases this;·next q=>simpa[Addr.add]using q
     cases this
    have hkey:∀j d,nth (es.flatMap Abs.cells) j=some d->∃v,W.cell? ⟨a.block,a.off+j,none⟩=some v∧bM (Iw W) v d∧leaf v=true:=by
     intro j d hj;have hjl:j<len*iY u:=by have:=dS (sz:=iY u) hsz;rw[aJ]at hj;have:=(rK.1 hj).1;rw[arl]at*;omega
     have hq:j / iY u<len:=M5 (by rw[Bc];exact hjl);have hr:j%iY u<iY u:=A' _ h0;have hen:nth es (j / iY u)=some (NN u (C (j / iY u))):=by rw[aJ,hes,rI,List.getElem?_range hq];rfl
     have ej:j=j / iY u*iY u+j%iY u:=(by rw[Bc];exact(Nat.div_add_mod j (iY u)).symm);have hf:=gZ es (iY u) (j / iY u) (j%iY u) _ hsz hen hr;rw[<-ej,hj]at hf;obtain⟨⟨vs,hv,hrd⟩,hct⟩:=hC _ hq;rw[hct.cells]at hf;obtain⟨hl,hg⟩:=J4 hv;have hcell:=hg _ hr;rw[iW E]at hcell;have:=hrd.2 _ _ _ (iW E) hf.symm;refine⟨_,?_,this⟩;rw[<-hcell];congr 1;obtain⟨b0,o0,so0⟩:=a;have hso:so0=none:=hsp;subst hso;rw[add_plain,add_plain];dsimp only;congr 1;omega
    obtain⟨b,o,so⟩:=a;have hsp' :so=none:=hsp;subst hsp';rw[<-arl];refine .sl b o cap (iY u) es (λj=>((W.cell? ⟨b,o+j,none⟩).getD (.bool false))) E hsz ?_ ?_;intro j d hj;obtain⟨v,hv,_,hlf⟩:=hkey j d hj;dsimp only at hv ⊢;rw[hv];exact akg hv hlf;intro j d hj;obtain⟨v,hv,hr,hlf⟩:=hkey j d hj;dsimp only at hv ⊢;rw[hv];exact hr
  rename_i gs fs ht;obtain⟨xs,m,_,_,hl,hxl,hf⟩:=DataW.trod_struct ht h;have:=WT (F:=Gx P n) (m:=m) (cs:=cs) (λt s cs x hb hx=>ih m t s cs x hb hx) gs.toList fs 0 hb (by rw[hl,hc,iY];omega) (λf hf' =>by
   obtain⟨i,hi,e⟩:=CM.1 hf';have hi' :i<gs.size:=uN
   have:=hf i f (by rw[kJ hi'];simpa using e);rw[this];exact⟨xs[i]' E,iW E⟩)
  obtain⟨l,hr,hty⟩:=this;exact TB;rename_i m e m' u ht;simp only[aX]at hb;obtain⟨h0,h1,h2⟩:=hb;have h0:=dw h0;have h1:=dw h1;subst h0;obtain⟨xs,k,_,_,hl,hxl,hf⟩:=DataW.trod_array ht h;rw[h1]at hf;obtain⟨l,hr,hty⟩:=agl (e:=e) (m:=k) (k:=iY u) (u:=u) (cs:=cs) (λcs x hx=>ih k e u cs x h2 hx) m (by rw[hl,hc,iY]) (λi hi=>by rw[hf i hi];exact⟨xs[i]' E,iW E⟩) m 0 E;exact TB;cases hb
end
end Abs
namespace Abs
open Go Go.RowKit Go.ChangeShapes
variable{G:Prop}
def Kf(h:G:=by rename_i ht;exact one (aik hv (by rw[ht];trivial)) rfl):=h
def U6(h:G:=by rename_i ht;unfold Value.okWide at hv;rw[ht]at hv;obtain⟨cs,e,_⟩:=hv;exact two cs e rfl):=h
def Ao:List Sh->List au->Prop|[],[]=>True|s::ss,d::ds=>(∃l,d=NN s l∧Ty s l)∧Ao ss ds|_,_=>False
def XE(P:Program)(n:Nat):List TypeId->List Sh->Bool|[],[]=>true|t::ts,s::ss=>Gx P n t s&&XE P n ts ss|_,_=>false
section
variable{H:Type}{enc:TypeId×Value->H}{P:Program}{W:World}
theorem aik{t:TypeId}{r:Reach}{b0:Nat}{v:Value}(hv:Value.okWide P W r b0 t v)(h:(match P.underlying t with|some (.struct _)=>False|some (.array _ _)=>False|some .bool=>True|some (.int _)=>True|some .string=>True|some (.slice _)=>True|_=>False)):leaf v=true:=by
 unfold Value.okWide at hv;split at hv;rename_i e;rw[e]at h;exact kS;rename_i e;rw[e]at h;exact kS
 cases v<;>first|rfl|(exfalso;revert hv h;unfold Cell.okWide Cell.ok;cases P.underlying t with
  |none=>simp|some d=>cases d<;>simp)
theorem apj{n:Nat}{t:TypeId}{s:Sh}{sp:Nat->Bool}{held:Bool}{v:Value}{d:DataW H}{ps:List MemPlace}{r:Reach}{b0:Nat}(hb:Gx P n t s=true)(hv:Value.okWide P W r b0 t v)(h:DataW.Trod enc P W 0 sp held t v d ps):∃l,Ty s l∧bM (Iw W) v (NN s l):=by
 obtain⟨fuel,h⟩:=h;obtain⟨l,hr,hty⟩:=ahm n fuel t s _ _ hb h;refine⟨l,hty,?_⟩;cases n with
 |zero=>simp[Gx]at hb
 |succ n=>
  simp only[Gx,aX]at hb;obtain⟨hc0,hb⟩:=hb;clear hc0;have one:leaf v=true->ant s=false->bM (Iw W) v (NN s l):=by
   intro hlv hs;have hc:v.cells= #[v]:=by cases v<;>first|rfl|simp[leaf]at hlv
   rw[hc]at hr;have hlen:=hr.1;match l,hlen with|[x],_=>unfold NN;rw[hs];exact(hr.2 0 v x rfl rfl).1
  have two:∀cs,v= .agg cs->ant s=true->bM (Iw W) v (NN s l):=by
   intro cs e hs;subst e;unfold NN;rw[hs];have hc:(Value.agg cs).cells=cs:=rfl;rw[hc]at hr;refine .agg cs l (by rw[hr.1];simp) (λi u hu=> ?_) (λi u x hu hx=> ?_);have hi:i<l.length:=(by rw[hr.1];simpa using(iX.1 hu).1);have:nth l i=some l[i]:=by rw[aJ];exact iW hi
   exact(hr.2 i u _ (by simpa using hu) this).2;exact(hr.2 i u x (by simpa using hu) hx).1
  split at hb;exact Kf;exact Kf;exact Kf;exact Kf;exact U6;exact U6;cases hb
theorem Xd{n:Nat}{sp:Nat->Bool}{held:Bool}{r:Reach}{b0:Nat}:∀(ts:List TypeId) (ss:List Sh) (vs:List Value) (ds:List (DataW H)) (ps:List MemPlace),XE P n ts ss=true->(∀(j:Nat) t v,ts[j]? =some t->vs[j]? =some v->Value.okWide P W r b0 t v)->DataW.TrodAll enc P W 0 sp held ts vs ds ps->∃xs,Ao ss xs∧xs.length=vs.length∧∀(i:Nat) v x,vs[i]? =some v->nth xs i=some x->bM (Iw W) v x
 |[],ss,vs,ds,ps,hb,hv,h=>by obtain⟨rfl,rfl,rfl⟩:=trodAll_nil h;cases ss with|cons s ss=>simp[XE]at hb|nil=>exact⟨[],trivial,rfl,λi v x hi=>by simp at hi⟩
 |t::ts,ss,vs,ds,ps,hb,hv,h=>by cases ss with|nil=>simp[XE]at hb|cons s ss=>simp only[XE,aX]at hb;obtain⟨v0,Bw,d0,ds0,p0,q0,rfl,rfl,rfl,h0,r0⟩:=trodAll_cons h;obtain⟨l,hty,hrep⟩:=apj hb.1 (hv 0 t v0 rfl rfl) h0;obtain⟨xs,hxs,hlen,ar9⟩:=Xd ts ss Bw ds0 q0 hb.2 (λj t v ht hv' =>hv (j+1) t v (by simpa using ht) (by simpa using hv')) r0;refine⟨NN s l::xs,⟨⟨l,rfl,hty⟩,hxs⟩,by simp[hlen],λi v x hi hx=> ?_⟩;cases i with|zero=>simp at hi;simp[nth]at hx;subst hi hx;exact hrep|succ i=>exact ar9 i v x uN uC
theorem yV{W' :World}{sp:Nat->Bool}(hl:laidOutB P=true):∀(ts:List TypeId) (vs:List Value) (ds:List (DataW H)) (ps:List MemPlace),(∀t∈ts,P.readableRec t=true∧t<P.types.size)->DataW.TrodAll enc P W 0 (λ_=>true) true ts vs ds ps->(∀p∈ps,W.sameAt W' p)->(∀p∈ps,sp p.block=true)->DataW.TrodAll enc P W' 0 sp true ts vs ds ps
 |[],vs,ds,ps,_,h,_,_=>by obtain⟨rfl,rfl,rfl⟩:=trodAll_nil h;exact trodAll_mk0
 |t::ts,vs,ds,ps,hr,h,hs,hp=>by obtain⟨v0,Bw,d0,ds0,p0,q0,rfl,rfl,rfl,h0,r0⟩:=trodAll_cons h;have h1:=hr t O;exact⟨p0,q0,WideElems.Trod_stays hl h1.1 h1.2 h0 (λp hp=>hs p (by simp[hp])) (λp hq=>hp p ER),yV hl ts Bw ds0 q0 (λt ht=>hr t (by simp[ht])) r0 (λp hp=>hs p (by simp[hp])) (λp hq=>hp p ER),rfl⟩
def Ya{args:List au}(W:World):Mem (Cx.of 0 (Gh.X ⟨Iw W,λ_=>none,λ_=>none⟩) W (Iw W)) ⟨Iw W,λ_=>none,λ_=>none⟩ (init args ⟨[],[]⟩) W:=by refine⟨λb o v h=>atm h,λl d h=> ?_,λl b h=> ?_,λl m b h _=> ?_,λl b h=> ?_,λk r h=> ?_,λk t h=> ?_,λk j t u b h=> ?_,λb o v h=> .inl h,Frame.refl _ _,λb h=> .inl h⟩;have:lV [] 1000 (λ_=>none) l=some d:=h;cases this;cases h;cases h;cases h;have:mJ [] 1000 (λ_=>none) k=some r:=h;cases this;cases h;cases h
theorem Yj{f:FuncId}{fn:Func}{ts:List TypeId}{ss:List Sh}{s:ChangeSpec}{tb:TypeId}(hp:fn.params.toList=ts)(hres:fn.resultTypes= #[tb])(htb:P.underlying tb=some .bool)(hb:XE P 20 ts ss=true)(hl:laidOutB P=true)(hro:ts.all (λt=>P.readableRec t&&decide (t<P.types.size))=true)(hsv:s.vars=[])(hs:∀ds:List (DataW H),ds.length=ts.length->s.fn H ds={results:=[.lit (.bool true)],args:=ds})(law:∀xs,Ao ss xs->aj P f xs ⟨[],[]⟩ (.bool true) ⟨[],[]⟩){base:Nat}{args:Array Value}{ds gs:List (DataW H)}{before:List MemPlace}(hval:∀(j:Nat) t v,fn.params[j]? =some t->args[j]? =some v->Value.okWide P W .any base t v)(hW:DataW.Whole enc P fn.params.toList s.vars false W args.toList ds gs before):Calls P f args W λe W' =>∃v,e= .returned v∧s.post enc P fn false true false false W args v W' :=by
 have hW' :=hW;have hlt:=hW.lt;obtain⟨p,q,hA,hV,rfl,_,_⟩:=hW;rw[hsv]at hV;obtain⟨rfl,rfl⟩:=trodVars_none hV;simp only[jV]at hlt hW';rw[hp]at hA;have hdl:ds.length=ts.length:=by
  have:∀(ts:List TypeId) (vs:List Value) (ds:List (DataW H)) (ps:List MemPlace),DataW.TrodAll enc P W 0 (λ_=>true) true ts vs ds ps->ds.length=ts.length:=by
   intro ts;induction ts with
   |nil=>intro vs ds ps h;obtain⟨rfl,rfl,rfl⟩:=trodAll_nil h;rfl
   |cons t ts ih=>intro vs ds ps h;obtain⟨v0,Bw,d0,ds0,p0,q0,rfl,rfl,rfl,h0,r0⟩:=trodAll_cons h;simp[ih _ _ _ r0]
  exact this _ _ _ _ hA
 obtain⟨xs,hxs,hlen,hrep⟩:=Xd ts ss args.toList ds p hb (λj t v ht hv=>hval j t v (by rw[<-hp]at ht;simpa using ht) lK) hA;have hc:=(law xs hxs).go ⟨Iw W,λ_=>none,λ_=>none⟩ W args (by simpa using hlen.symm) (λi v d hv hd=> .pure (hrep i v d lK hd)) (Ya W);refine hc.mono λe W' he=> ?_;cases e with
 |returned v=>
  obtain⟨γ',HH,hr,hm⟩:=he;have hv:v= .bool true:=by cases hr with|pure r=>cases r;rfl
  have hfr:Frame W W' (Gh.X ⟨Iw W,λ_=>none,λ_=>none⟩):=hm.frame;have hsame:∀b,b<W.heap.size->W'.heap[b]? =W.heap[b]? :=λb hb=>hfr.block b hb (λh=>by rcases h with⟨l,h⟩|⟨k,t,h,_⟩;cases h;cases h);have hat:∀x∈p,W.sameAt W' x:=λx hx=>by have:=hsame _ (hlt x hx);cases x with|cell b off=>show W'.cell? _=W.cell? _;unfold World.cell?;dsimp only;rw[show W'.heap[b]? =W.heap[b]? from this]|map b=>exact dj
  subst hv;refine⟨_,rfl,ds,[],p,[],p,[],hW',?_,?_,?_,?_,λh=>ie⟩;rw[jV,hs ds hdl,hres];exact trodAll_mk1 (shut_bool htb true);rw[jV,hs ds hdl,hp];refine yV hl ts _ _ _ (λt ht=> ?_) hA hat (λx hx=>by simpa using hlt x hx);have:=jW.1 hro t ht;exact mO;rw[jV,hs ds hdl,hsv];rfl;refine⟨hfr.os,hfr.output,λi hi=> ?_⟩;rw[hsame i hi];cases W.heap[i]? with|none=>rfl|some o=>cases o<;>first|rfl|exact⟨rfl,rfl,rfl,λ_ _=>rfl⟩|exact .inr ⟨rfl,rfl⟩
 |panicked ch=>obtain⟨_,q,_,hq,_⟩:=he;cases hq
 |outgrown=>exact he.elim
end
end Abs
namespace Abs
open Go Go.Proofs Tryz
variable{G:Prop}
def Rn(h:G:=by simpa[Lit.wf,IntKind.min,IntKind.max,IntKind.signed,IntKind.bits]using hw):=h
def KV(h:G:=by exact⟨n,rfl,by omega,by omega⟩):=h
def iO{s:Sh}{fs:List Sh}{l:List au}(h:pS (s::fs) l):∃a b,l=a++b∧Ty s a∧pS fs b:=by rw[pS]at h;exact h
def Nh{l:List au}(h:pS [] l):l=[]:=by rw[pS]at h;exact h
def V4{fs:List Sh}{l:List au}(h:Ty (.st fs) l):pS fs l:=by rw[Ty]at h;exact h
def yT{l:List au}(h:Ty (.int .u8) l):∃n,l=[u8 n]∧0<=n∧n<256:=by
 rw[Ty]at h;obtain⟨n,rfl,hw⟩:=h;have:0<=n∧n<=255:=Rn
 exact KV
def wD{l:List au}(h:Ty (.int .u16) l):∃n,l=[u16 n]∧0<=n∧n<65536:=by
 rw[Ty]at h;obtain⟨n,rfl,hw⟩:=h;have:0<=n∧n<=65535:=Rn
 exact KV
def aba{l:List au}(h:Ty (.int .i16) l):∃n,l=[i16 n]∧-32768<=n∧n<32768:=by
 rw[Ty]at h;obtain⟨n,rfl,hw⟩:=h;have: -32768<=n∧n<=32767:=Rn
 exact KV
def am7{l:List au}(h:Ty (.int .i64) l):∃n,l=[it n]:=by rw[Ty]at h;obtain⟨n,rfl,hw⟩:=h;exact⟨n,rfl⟩
def aks{e:Sh}{l:List au}(h:Ty (.sl e) l):∃es,l=[.sl (iY e) es false]∧es.length<=maxLen∧∀x∈es,∃c,x=NN e c∧Ty e c:=by rw[Ty]at h;exact h
def yU{T:List au->Prop}{n:Nat}{l:List au}(h:Q5 T (n+1) l):∃a b,l=a++b∧T a∧Q5 T n b:=by rw[Q5]at h;exact h
def akt{T:List au->Prop}{l:List au}(h:Q5 T 0 l):l=[]:=by rw[Q5]at h;exact h
theorem NW{α:Type}{e:Sh}{enc:α->au}{ok:α->Prop}(h:∀c,Ty e c->∃z,NN e c=enc z∧ok z):∀es:List au,(∀x∈es,∃c,x=NN e c∧Ty e c)->∃zs:List α,es=zs.map enc∧∀z∈zs,ok z|[],_=>⟨[],rfl,λz hz=>by simp at hz⟩|x::es,hx=>by obtain⟨zs,rfl,hz⟩:=NW h es (λy hy=>hx y pk);obtain⟨c,rfl,hc⟩:=hx x O;obtain⟨z,hz1,hz2⟩:=h c hc;refine⟨z::zs,by rw[oD,hz1],λy hy=> ?_⟩;rcases b_.1 hy with rfl|hy;exact hz2;exact hz y hy
def ajz{c:List au}(h:Ty (.int .u8) c):∃z:UInt8,NN (.int .u8) c= .int .u8 z.toNat∧True:=by
 obtain⟨n,rfl,h0,h1⟩:=yT h;refine⟨UInt8.ofNat n.toNat,?_,trivial⟩;have e:(((UInt8.ofNat n.toNat).toNat:Nat):Int)=n:=by rw[UInt8.toNat_ofNat'];omega
 show u8 n=_;rw[e];rfl
def amx:Sh:= .st [.int .u8,.int .u8,.int .u8,.int .u8,.int .u8,.int .i16,.int .i16,.int .u8,.int .u8]
def amw{c:List au}(h:Ty amx c):∃z,NN amx c=D_ z∧Ts z:=by obtain⟨_,_,rfl,h1,h⟩:=iO (V4 h);obtain⟨_,_,rfl,h2,h⟩:=iO h;obtain⟨_,_,rfl,h3,h⟩:=iO h;obtain⟨_,_,rfl,h4,h⟩:=iO h;obtain⟨_,_,rfl,h5,h⟩:=iO h;obtain⟨_,_,rfl,h6,h⟩:=iO h;obtain⟨_,_,rfl,h7,h⟩:=iO h;obtain⟨_,_,rfl,h8,h⟩:=iO h;obtain⟨_,_,rfl,h9,h⟩:=iO h;have:=Nh h;subst this;obtain⟨n1,rfl,b1⟩:=yT h1;obtain⟨n2,rfl,b2⟩:=yT h2;obtain⟨n3,rfl,b3⟩:=yT h3;obtain⟨n4,rfl,b4⟩:=yT h4;obtain⟨n5,rfl,b5⟩:=yT h5;obtain⟨n6,rfl,b6⟩:=aba h6;obtain⟨n7,rfl,b7⟩:=aba h7;obtain⟨n8,rfl,b8⟩:=yT h8;obtain⟨n9,rfl,b9⟩:=yT h9;exact⟨⟨n1,n2,n3,n4,n5,n6,n7,n8,n9⟩,rfl,⟨b1,b2,b3,b4,b5,b6,b7,b8,b9⟩⟩
def aqk{c:List au}(h:Q5 (Ty (.int .u16)) 8 c):∃z:N8,c=[u16 z.a,u16 z.b,u16 z.c,u16 z.d,u16 z.e,u16 z.f,u16 z.g,u16 z.h]∧apr z:=by obtain⟨_,_,rfl,h1,h⟩:=yU h;obtain⟨_,_,rfl,h2,h⟩:=yU h;obtain⟨_,_,rfl,h3,h⟩:=yU h;obtain⟨_,_,rfl,h4,h⟩:=yU h;obtain⟨_,_,rfl,h5,h⟩:=yU h;obtain⟨_,_,rfl,h6,h⟩:=yU h;obtain⟨_,_,rfl,h7,h⟩:=yU h;obtain⟨_,_,rfl,h8,h⟩:=yU h;have:=akt h;subst this;obtain⟨n1,rfl,b1⟩:=wD h1;obtain⟨n2,rfl,b2⟩:=wD h2;obtain⟨n3,rfl,b3⟩:=wD h3;obtain⟨n4,rfl,b4⟩:=wD h4;obtain⟨n5,rfl,b5⟩:=wD h5;obtain⟨n6,rfl,b6⟩:=wD h6;obtain⟨n7,rfl,b7⟩:=wD h7;obtain⟨n8,rfl,b8⟩:=wD h8;exact⟨⟨n1,n2,n3,n4,n5,n6,n7,n8⟩,rfl,⟨b1,b2,b3,b4,b5,b6,b7,b8⟩⟩
def abb{s:Sh}{ss:List Sh}{xs:List au}(h:Ao (s::ss) xs):∃l ys,xs=NN s l::ys∧Ty s l∧Ao ss ys:=by cases xs with|nil=>exact kS|cons d ys=>obtain⟨⟨l,e,hl⟩,hy⟩:=h;exact⟨l,ys,by rw[e],hl,hy⟩
def ahl{xs:List au}(h:Ao [] xs):xs=[]:=by cases xs with|nil=>rfl|cons d ys=>exact kS
def aip:Sh:= .st [.st [.sl (.int .u8)],.sl amx,.int .i64,.st [.sl (.int .u8),.sl (.int .u8)],.arr 2 (.int .u8),.arr 8 (.int .u16)]
def HZ{c:List au}(h:Ty (.sl (.int .u8)) c):∃bs:List UInt8,c=[Y2 bs]∧bs.length<2^63:=by
 obtain⟨e1,rfl,hl,he1⟩:=aks h;obtain⟨bs,rfl,_⟩:=NW (λc hc=>ajz hc) e1 he1;rw[dn]at hl;have hm:maxLen<2^63:=aw
 exact⟨bs,rfl,E⟩
def anv{c:List au}(h:Ty aip c):∃z,NN aip c=vJ z∧Xj z:=by
 obtain⟨_,_,rfl,h1,h⟩:=iO (V4 h);obtain⟨_,_,rfl,h2,h⟩:=iO h;obtain⟨_,_,rfl,h3,h⟩:=iO h;obtain⟨_,_,rfl,h4,h⟩:=iO h;obtain⟨_,_,rfl,h5,h⟩:=iO h;obtain⟨_,_,rfl,h6,h⟩:=iO h;have:=Nh h;subst this;obtain⟨_,_,rfl,k1,h0⟩:=iO (V4 h1);have:=Nh h0;subst this;obtain⟨bs,rfl,_⟩:=HZ k1;obtain⟨e3,rfl,hl3,he3⟩:=aks h2;obtain⟨rs,rfl,hrs⟩:=NW (λc hc=>amw hc) e3 he3;obtain⟨lv,rfl⟩:=am7 h3;obtain⟨_,_,rfl,k2,h0⟩:=iO (V4 h4);obtain⟨_,_,rfl,k3,h0⟩:=iO h0;have:=Nh h0;subst this;obtain⟨w,rfl,hw⟩:=HZ k2;obtain⟨b,rfl,hb⟩:=HZ k3;rw[Ty]at h5;obtain⟨_,_,rfl,p0,h5⟩:=yU h5;obtain⟨_,_,rfl,p1,h5⟩:=yU h5;have:=akt h5;subst this;obtain⟨q0,rfl,hq0⟩:=yT p0;obtain⟨q1,rfl,hq1⟩:=yT p1;rw[Ty]at h6;obtain⟨s,rfl,hs⟩:=aqk h6;rw[dn]at hl3;have hm:maxLen<2^63:=aw
 exact⟨⟨bs,rs,lv,⟨w,b⟩,q0,q1,s⟩,rfl,⟨by show rs.length<2^63;omega,hrs,hw,hb,hq0,hq1,hs⟩⟩
def law6(xs:List au)(h:Ao [aip] xs):aj prog 4 xs ⟨[],[]⟩ (.bool true) ⟨[],[]⟩:=by obtain⟨l1,_,rfl,h1,h⟩:=abb h;have:=ahl h;subst this;obtain⟨z,e,hz⟩:=anv h1;rw[e];exact QS hz
end Abs
