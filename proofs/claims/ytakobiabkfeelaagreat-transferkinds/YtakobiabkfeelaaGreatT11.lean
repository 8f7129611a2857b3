/- A part of a proof: an abstract machine, proved sound, or contracts of functions. No condition. -/
import Derived.Test.YtakobiabkfeelaaGreatT10
set_option linter.unusedVariables false
set_option linter.unusedSimpArgs false
set_option linter.defProp false
set_option maxRecDepth 100000
set_option maxHeartbeats 4000000
namespace Abs
open Go Go.Proofs
def JS{G:Prop}(h:G:=by rw[ua,cZ]):G:=h
def Bu{c:Wc}(k:Nat)(hk:k<c.s.args.length):nth (jz c.s.args) ((k:Int)).toNat=some (cI c.s.args[k]):=by rw[ua,bW,lQ,fq hk];rfl
theorem zY(B:Nat->Bool)(h0:B 0=false):∀n,(∀k,k<=n->B k=false)∨∃m,m<n∧(∀k,k<=m->B k=false)∧B (m+1)=true
 |0=> .inl (λk hk=>(show k=0 by omega)▸h0)
 |n+1=>by
  rcases zY B h0 n with h|⟨m,hm,h1,h2⟩;cases hb:B (n+1)with|true=>exact .inr ⟨n,af,h,hb⟩|false=>refine .inl (λk hk=> ?_);by_cases hk2:k=n+1;rw[hk2];exact hb;exact h k af
  exact .inr ⟨m,af,h1,h2⟩
abbrev bx(c:Wc)(w:Wk)(s k:Nat):vX:=⟨[(s,it k)],[(1000,.agg (cW c w))],[(1000,⟨3,true,w.fd.map fx⟩),(1001,⟨3,true,w.ps.map bF⟩),(1002,⟨1,true,w.us.map it⟩)]⟩
def aZ.nq{W:List Nat}{body:St->(Out->St->Prop)->Prop}{K:Out->St->Prop}{s:St}(n:Nat)(c:Wc)(F:Nat->Wk)(t:Nat)(hb:∀k,k<=n->True->body (s.with W (bx c (F k) t k)) λe s' =>match e with| .normal=>∃j:{k // k<=n∧True},n - j.1<n - k∧s'.y=s.y∧Holds s' (s.with W (bx c (F j.1) t j.1)) (bx c (F j.1) t j.1)|e=>K e s')(hh:Holds s (s.with W (bx c (F 0) t 0)) (bx c (F 0) t 0):=by repeat' (first|exact trivial|exact rfl|exact aL (λu=>some (au.agg (cW c u))) hW0.symm|exact aL (λu=>some (Row.mk 3 true (u.map fx))) hW0f.symm|exact aL (λu=>some (Row.mk 3 true (u.map bF))) hW0p.symm|exact aL (λu=>some (Row.mk 1 true (u.map it))) hW0u.symm|exact aL (λu=>some (au.agg (cW c u))) hV0.symm|exact aL (λu=>some (Row.mk 3 true (u.map fx))) hV0f.symm|exact aL (λu=>some (Row.mk 3 true (u.map bF))) hV0p.symm|exact aL (λu=>some (Row.mk 1 true (u.map it))) hV0u.symm|refine And.intro ?_ ?_|refine Holds.mk ?_ ?_ ?_))(hd:yZ s W=true:=by exact aB)(hr:yY s (di W)=true:=by exact aB)(ht:∀k,tidy W (di W) (bx c (F k) t k)=true∧j8 s (bx c (F k) t k).H=true∧j7 s (bx c (F k) t k).R=true:=by intro k;exact s9):aZ W body K s:=aZ.nat n (λ_=>True) (λk=>bx c (F k) t k) trivial hh hd hr ht hb
def xA{G:Prop}(h:G:=by
 have b1:decide ((k:Int)<((jz c.s.args).length:Nat))=true:=by rw[hEl];exact gw
 have c1:=cA k hk1;have hk2:k<h.params.length:=af
 refine run ?_;refine a_.at rfl (dX k) (hEx k hk1) ?_;refine run ?_;refine a_.map hk2 rfl ?_;refine aN ?_;exact tM hk1):G:=h
def xP{G:Prop}(h:G:=by
 have Q:=hall k af;have q1:=Q.1;have q2:=p2 k hk1;have q3:=p3 k hk1;have q4:=Q.2.1;have q5:=Q.2.2.1;have q6:=p6 k;have q7:=Q.2.2.2;refine aN ?_;repeat((first|refine a_.map hk2 rfl ?_|(apply aE;assumption));refine run ?_)
 refine aN ?_;exact tM af):G:=h
def xX{G:Prop}(h:G:=by
 have b1:decide ((k:Int)<((y.dY.map bF).length:Nat))=true:=gw
 have c1:=cX k hk1;refine run ?_;refine a_.map hk1 rfl ?_;refine aN ?_;exact tM hk1):G:=h
def callA{G:Prop}(h:G:=by
 have hEl:(jz c.s.args).length=c.s.args.length:=JS
 have hEx:=Bu (c:=c);refine eg hm Tryz.func293 (λ_=>false) [] (hPan 9 99) aB ?_;refine aN ?_;refine bB.mk ⟨[],aZ.nq m c W 87 ?_⟩;intro k hk hJ;have hk1:k<c.s.args.length:=af
 have b1:decide ((k:Int)<((jz c.s.args).length:Nat))=true:=by rw[hEl];exact gw
 have hk2:k<h.params.length:=af
 refine run ?_;refine a_.at rfl (dX k) (hEx k hk1) ?_;refine run ?_;by_cases hkm:k<m;have c1:=cA k hkm;refine QZ.mk (.inl ?_);refine run ?_;refine a_.map hk2 rfl ?_;refine aN ?_;exact tM hkm
 ·have hkk:k=m:=by omega
  subst hkk;refine QZ.mk (.inr ?_);refine aN ?_;repeat((first|refine a_.map hk2 rfl ?_|(apply aE;exact cB));refine run ?_)
  exact aG):G:=h
def callN{G:Prop}(h:G:=by
 have hEl:(jz c.s.args).length=c.s.args.length:=JS
 have hEx:=Bu (c:=c);refine eg hm Tryz.func293 (λ_=>false) [] (hPan 14 114) aB ?_;refine aN ?_;refine bB.mk ⟨[],aZ.nq c.s.args.length c W 87 ?_⟩;intro k hk hJ;by_cases hk1:k<c.s.args.length;exact xA;have b1:decide ((k:Int)<((jz c.s.args).length:Nat))=false:=by rw[hEl];exact aA
 have hkk:k=c.s.args.length:=af
 subst hkk;refine aN ?_;refine bB.mk ⟨[],aZ.nq m c V 107 ?_⟩;intro k hk hJ;have hk1:k<c.s.cO.length:=af
 have b1:decide ((k:Int)<((c.s.cO.map it).length:Nat))=true:=gw
 have hk2:k<h.given.length:=af
 refine run ?_;refine a_.map hk1 rfl ?_;refine run ?_;by_cases hkm:k<m;refine QZ.mk (.inl ?_);exact xP;have hkk:k=m:=af
 subst hkk;refine QZ.mk (.inr ?_);have q2:=p2 k hk1;refine aN ?_;repeat((first|refine a_.map hk2 rfl ?_|(apply aE;first|exact q|exact q2));refine run ?_)
 refine Q3.mk (Q3.mk ?_ ?_) (Q3.mk ?_ ?_)<;>(exact aW)):G:=h
def callP{G:Prop}(h:G:=by
 have hEl:(jz c.s.args).length=c.s.args.length:=JS
 have hEx:=Bu (c:=c);refine fo Tryz.func293 ?_;refine aN ?_;refine bB.mk ⟨[],aZ.nq c.s.args.length c W 87 ?_⟩;intro k hk hJ;by_cases hk1:k<c.s.args.length;exact xA;have b1:decide ((k:Int)<((jz c.s.args).length:Nat))=false:=by rw[hEl];exact aA
 have hkk:k=c.s.args.length:=af
 subst hkk;refine aN ?_;refine bB.mk ⟨[],aZ.nq m c V 107 ?_⟩;intro k hk hJ;have hk1:k<c.s.cO.length:=af
 have b1:decide ((k:Int)<((c.s.cO.map it).length:Nat))=true:=gw
 have hk2:k<h.given.length:=af
 refine run ?_;refine a_.map hk1 rfl ?_;refine run ?_;by_cases hkm:k<m;exact xP;have hkk:k=m:=af
 subst hkk;have q2:=p2 k hk1;refine aN ?_;repeat((first|refine a_.map hk2 rfl ?_|(apply aE;first|exact q1|exact q2));refine run ?_)
 exact aW):G:=h
def callE{G:Prop}(h:G:=by
 have hEl:(jz c.s.args).length=c.s.args.length:=JS
 have hEx:=Bu (c:=c);refine fo Tryz.func293 ?_;refine aN ?_;refine bB.mk ⟨[],aZ.nq c.s.args.length c W 87 ?_⟩;intro k hk hJ;by_cases hk1:k<c.s.args.length;exact xA;have b1:decide ((k:Int)<((jz c.s.args).length:Nat))=false:=by rw[hEl];exact aA
 have hkk:k=c.s.args.length:=af
 subst hkk;refine aN ?_;refine bB.mk ⟨[],aZ.nq c.s.cO.length c V 107 ?_⟩;intro k hk hJ;by_cases hk1:k<c.s.cO.length;have b1:decide ((k:Int)<((c.s.cO.map it).length:Nat))=true:=gw
 have hk2:k<h.given.length:=af
 refine run ?_;refine a_.map hk1 rfl ?_;refine run ?_;exact xP;have b1:decide ((k:Int)<((c.s.cO.map it).length:Nat))=false:=aA
 have hkk:k=c.s.cO.length:=af
 subst hkk;refine aN ?_;refine bB.mk ⟨[],aZ.nq y.dY.length c X 154 ?_⟩;intro k hk hJ;by_cases hk1:k<y.dY.length;exact xX;have b1:decide ((k:Int)<((y.dY.map bF).length:Nat))=false:=aA
 have hkk:k=y.dY.length:=af
 subst hkk;exact aW):G:=h
structure CIn(c:Wc)(h:Hd)(y:Sy):Prop where
 cH:∃b,C 163 [qb c.p,it c.s.m] (.bR [oL h,bo b])
 cS:C 362 [fj 11 eU c.ei,it c.s.m] (.bR [eU y,bo true])∨∃ys ye,C 362 [fj 11 eU c.ei,it c.s.m] (.bR [eU ys,bo false])∧C 363 [qb c.p,it c.s.m] (.bR [eU y,it ye])
 part:0<=h.part∧h.part<16
 al:c.s.args.length<=h.params.length
 ab:c.s.args.length<2^40
 ae:∀e∈c.s.args,∃k z,jY c.d.vars c.d.aK.length k e z
 pr:∀r∈h.params,nU r
 gr:∀r∈h.given,nU r
 pl:c.s.cO.length<=h.given.length
 pb:c.s.cO.length<2^40
 pn:∀n∈c.s.cO,0<=n∧n<c.d.refs
 lk:0<=y.aM∧y.aM<2^16
 ld:0<=y.mS∧y.mS<=65535
 yb:y.dY.length<2^20
 nv:c.s.n<c.d.vars
def uh(w w' :Wk):Prop:=w'.wR=w.wR∧w'.ps=w.ps
theorem uh.trans{a b d:Wk}(h:uh a b)(k:uh b d):uh a d:=⟨k.1.trans h.1,k.2.trans h.2⟩
def yy(c:Wc)(k:Int)(b:Bool)(w:Wk):uh w (cV c k b w):=by obtain⟨D,hD⟩:=sU c k b w;rw[hD];exact⟨rfl,rfl⟩
def CP(c:Wc)(k:Int)(b:Bool)(w:Wk):(cV c k b w).f=w.f:=by obtain⟨D,hD⟩:=sU c k b w;rw[hD]
def M0(c:Wc)(e:Ex)(r:pL)(k:Int)(w:Wk):uh w (gY c e r k w).1:=by have h:=yy c k false (kS c e w);have h2:uh w (cV c k false (kS c e w)):=⟨h.1,h.2⟩;unfold gY;split;exact⟨rfl,rfl⟩;split;dsimp only;split;exact⟨h2.1,h2.2⟩;exact h2;exact h2
theorem Jd(c:Wc)(h:Hd):∀(l:List Ex) (i:Nat) (w:Wk),uh w (fV c h l i w).1|[],_,_=>⟨rfl,rfl⟩|e::l,i,w=>by have h1:=M0 c e (dj h.params i) 11 w;unfold fV Rs.and;split;exact h1;exact h1.trans (Jd c h l (i+1) _)
def Xv(c:Wc)(h:Hd)(n:Int)(i:Nat)(w:Wk):uh w (tT c h n i w).1:=by
 have h1:=yy c 2 (bz (aQ w n).s 1==0) w;have h2:=h1.trans (yy c 11 (vT (aQ w n).a (jj (dj h.given i))) _);unfold tT iF wF Rs.and;dsimp only;split;exact h1
 ·try dsimp only
  split;exact h2;exact⟨h2.1,h2.2⟩
theorem Ic(c:Wc)(h:Hd):∀(l:List Int) (i:Nat) (w:Wk),uh w (fO c h l i w).1|[],_,_=>⟨rfl,rfl⟩|e::l,i,w=>by have h1:=Xv c h e i w;unfold fO Rs.and;split;exact h1;exact h1.trans (Ic c h l (i+1) _)
def Cy{l:List pL}{k:Nat}(hk:k<l.length):dj l (k:Nat)=l[k]:=by unfold dj;simp[hk]
def qO.part{d:Df}{f:Fa}(h:qO d f){P:Int}(hP:0<=P∧P<=65535):qO d {f with parts:=P}:=⟨h.live,h.v,h.va,h.jh,h.refs,h.ra,h.arr,h.aa,h.ew,h.may,hP,h.sub⟩
section
variable{c:Wc}{h:Hd}{y:Sy}
def Z4{w:Wk}{k:Nat}(hk:k<c.s.args.length)(hs:(fV c h (c.s.args.take k) 0 w).2=false):fV c h (c.s.args.take (k+1)) 0 w=gY c c.s.args[k] (dj h.params (k:Nat)) 11 (fV c h (c.s.args.take k) 0 w).1:=by rw[jd hk,Hl _ hs,mF,eO,xZ (Er hk)]
def Xu{w:Wk}{k:Nat}(hk:k<c.s.cO.length)(hs:(fO c h (c.s.cO.take k) 0 w).2=false):fO c h (c.s.cO.take (k+1)) 0 w=tT c h c.s.cO[k] k (fO c h (c.s.cO.take k) 0 w).1:=by rw[jd hk,FT _ hs,mF,eO,xZ (Er hk)]
def Sl(hc:kP c)(hi:CIn c h y){w:Wk}(hw:iK c w){k:Nat}(hk:k<c.s.args.length)(hk2:k<h.params.length)(hs:(fV c h (c.s.args.take k) 0 w).2=false):aj Tryz.prog 351 [.ptr 1000 0,cI c.s.args[k],bp h.params[k],it 11] (b_ c (fV c h (c.s.args.take k) 0 w).1) (cY (fV c h (c.s.args.take (k+1)) 0 w) (.bR [])) (b_ c (fV c h (c.s.args.take (k+1)) 0 w).1):=by obtain⟨kk,z,he⟩:=hi.ae c.s.args[k] (cU hk);rw[Z4 hk hs,Cy hk2];exact Gf hc (E_ hc hi.pr hw (λe he=>hi.ae e (pQ he)) (by rw[mF];have:=hi.al;omega)) he (hi.pr _ (cU hk2)) 11 af
def TS{V:Wk}(hV:iK c V){n:Int}{k:Nat}(hn:0<=n∧n.toNat<V.f.refs.length)(hrl:V.f.refs.length<=1048576):((tT c h n k V).2=true∧aj Tryz.prog 355 [.ptr 1000 0,it n] (b_ c V) (vh 347) (b_ c (tT c h n k V).1))∨(aj Tryz.prog 355 [.ptr 1000 0,it n] (b_ c V) (ai (aQ V n).a) (b_ c (iF c n V).1)∧aj Tryz.prog 289 [.ptr 1000 0,it 11,bo (vT (aQ V n).a (jj (dj h.given k)))] (b_ c (iF c n V).1) (.bR []) (b_ c (cV c 11 (vT (aQ V n).a (jj (dj h.given k))) (iF c n V).1))∧((kY (aQ V n).a (jj (dj h.given k))).isSome=false∧tT c h n k V=(cV c 11 (vT (aQ V n).a (jj (dj h.given k))) (iF c n V).1,true)∨(kY (aQ V n).a (jj (dj h.given k))).isSome=true∧tT c h n k V=(eh n 1 zR (cV c 11 (vT (aQ V n).a (jj (dj h.given k))) (iF c n V).1),false)∧aj Tryz.prog 356 [.ptr 1000 0,it n,it 1,ai zR] (b_ c (cV c 11 (vT (aQ V n).a (jj (dj h.given k))) (iF c n V).1)) (.bR []) (b_ c (eh n 1 zR (cV c 11 (vT (aQ V n).a (jj (dj h.given k))) (iF c n V).1))))):=by
 obtain⟨D,hD,hx⟩:=Ge hV n hn;rcases hx with⟨hs,e,cf⟩|⟨hs,e,cf⟩;left;have hp:tT c h n k V=({V with fd:=D},true):=by unfold tT;rw[e,Rs.xu]
 rw[hp];exact⟨rfl,cf⟩;right;have hp:tT c h n k V=(wF (cV c 11 (vT (aQ V n).a (jj (dj h.given k))) {V with fd:=D}) (kY (aQ V n).a (jj (dj h.given k))).isSome).and λw=>(eh n 1 zR w,false):=by unfold tT;rw[e,Rs.xv]
 have e1:(iF c n V).1={V with fd:=D}:=by rw[e]
 rw[e1];refine⟨cf,r6 hD 11 _,?_⟩;unfold wF at hp;have hf:=CP c 11 (vT (aQ V n).a (jj (dj h.given k))) {V with fd:=D};cases hm:(kY (aQ V n).a (jj (dj h.given k))).isSome with|false=>left;rw[hm]at hp;exact⟨rfl,hp.trans (Rs.xu _ _)⟩|true=>right;rw[hm]at hp;exact⟨rfl,hp.trans (Rs.xv _ _),rK c _ n 1 zR (by rw[hf];exact hn) (by rw[hf];exact hrl)⟩
def lT(c:Wc)(l:List Pa)(w:Wk):Wk:=l.foldl (λw (x:Pa)=>sK c x.a x.b w) w
theorem F4:∀{l:List Pa} {w:Wk},iK c w->iK c (lT c l w)∧(lT c l w).ps.length<=w.ps.length+l.length∧(lT c l w).wR=w.wR∧(lT c l w).f=w.f|[],w,hw=>⟨hw,by simp[lT],rfl,rfl⟩|x::l,w,hw=>by have h1:=F4 (l:=l) (hw.pair x.a x.b);have h2:(sK c x.a x.b w).ps.length<=w.ps.length+1:=wW;refine⟨h1.1,?_,h1.2.2.1,h1.2.2.2⟩;have h3:=h1.2.1;show(lT c l (sK c x.a x.b w)).ps.length<=_;simp only[eJ];omega
def Xz{l:List Pa}{w:Wk}{k:Nat}(hk:k<l.length):lT c (l.take (k+1)) w=sK c l[k].a l[k].b (lT c (l.take k) w):=by unfold lT;rw[jd hk,zc];rfl
end
def uM:=@Prod.ext
section
variable{c:Wc}{w:Wk}{h:Hd}{y:Sy}
def call_c(hc:kP c)(hw:iK c w)(hi:CIn c h y)(hl:0<=w.wR∧w.wR<2^60)(hps:w.ps.length<2^20):aj Tryz.prog 293 [.ptr 1000 0] (b_ c w) (cY (qh c h y w) (.bR [])) (b_ c (qh c h y w).1):=by
 obtain⟨bh,cH⟩:=hi.cH;have hp:=hi.part;have hwp:=hw.f.parts;have hal:=hi.al;have hab:=hi.ab;have hpl:=hi.pl;have hpb:=hi.pb;obtain⟨FS,hFS⟩:∃x,x=bz (w.f.parts.fdiv (2^(min h.part.toNat IntKind.i64.bits))) 1:=⟨_,rfl⟩;have e1:(((BitVec.ofInt IntKind.i64.bits (w.f.parts.fdiv (2^(min h.part.toNat IntKind.i64.bits)))&&&BitVec.ofInt IntKind.i64.bits 1).toNat:Nat):Int)=FS:=(nS _ _).trans hFS.symm;have d1:0<=FS∧FS<2:=by rw[hFS];exact iP (n:=1) af af af
 have hsh:pV w.f.parts h.part.toNat=(FS==1):=by rw[hFS];rfl
 have cf:=r6 hw 13 (FS==1);have hw1:=hw.find (c:=c) (k:=13) af (FS==1);obtain⟨D,hD⟩:=sU c 13 (FS==1) w;have d3' :=C4 (m:=h.part) af;have d3:0<IntKind.i64.wrap (1*2^(min h.part.toNat IntKind.i64.bits))∧IntKind.i64.wrap (1*2^(min h.part.toNat IntKind.i64.bits))<2^16:=C4 (m:=h.part) af;obtain⟨PP,hPP⟩:∃x,x=iD w.f.parts (gZ h.part):=⟨_,rfl⟩;have e2:(((BitVec.ofInt IntKind.i64.bits w.f.parts|||BitVec.ofInt IntKind.i64.bits (IntKind.i64.wrap (1*2^(min h.part.toNat IntKind.i64.bits)))).toNat:Nat):Int)=PP:=(Bq _ _).trans hPP.symm;have d2:0<=PP∧PP<2^16:=by rw[hPP];exact rO (n:=16) af af af af af
 have h0:A' (gZ h.part) (cV c 13 (pV w.f.parts h.part.toNat) w)={w with fd:=D,f:={w.f with parts:=PP}}:=by rw[hsh,hD,hPP];rfl
 rw[hD]at cf hw1;have hw0:iK c {w with fd:=D,f:={w.f with parts:=PP}}:=hw1.L6 (f:={w.f with parts:=PP}) (hw.f.part af);have hcall:qh c h y w=(fV c h c.s.args 0 {w with fd:=D,f:={w.f with parts:=PP}}).and (λw=>(fO c h c.s.cO 0 w).and λw=>(PQ c y w,false)):=by unfold qh;rw[h0]
 have k0:uh w {w with fd:=D,f:={w.f with parts:=PP}}:=⟨rfl,rfl⟩;obtain⟨w0,hW⟩:∃w0:Wk,w0={w with fd:=D,f:={w.f with parts:=PP}}:=⟨_,rfl⟩;rw[<-hW]at hw0 hcall k0;have hWk:∀k,iK c (fV c h (c.s.args.take k) 0 w0).1:=λk=>E_ hc hi.pr hw0 (λe he=>hi.ae e (pQ he)) q_;have hWK:∀k,uh w (fV c h (c.s.args.take k) 0 w0).1:=λk=>k0.trans (Jd c h _ 0 w0);obtain⟨W,hWd⟩:∃W:Nat->Wk,∀k,W k=(fV c h (c.s.args.take k) 0 w0).1:=⟨λk=>(fV c h (c.s.args.take k) 0 w0).1,λ_=>rfl⟩;have hW0:W 0={w with fd:=D,f:={w.f with parts:=PP}}:=(hWd 0).trans hW;have hW0f:(W 0).fd=D:=by rw[hW0]
 have hW0p:(W 0).ps=w.ps:=by rw[hW0]
 have hW0u:(W 0).us=w.us:=by rw[hW0]
 have cG:∀k (hk:k<c.s.args.length) (hk2:k<h.params.length),(fV c h (c.s.args.take k) 0 w0).2=false->(fV c h (c.s.args.take (k+1)) 0 w0).2=false->aj Tryz.prog 351 [.ptr 1000 0,cI c.s.args[k],bp h.params[k],it 11] (b_ c (W k)) (.bR []) (b_ c (W (k+1))):=λk hk hk2 hs ht=>by have:=Sl hc hi hw0 hk hk2 hs;unfold cY at this;rw[ah sr,<-hWd,<-hWd]at this;exact this
 rcases zY (λk=>(fV c h (c.s.args.take k) 0 w0).2) rfl c.s.args.length with hgo|⟨m,hm1,hgo,hst⟩;case inr=>
  have hB:fV c h c.s.args 0 w0=(W (m+1),true):=(Hk (m+1) hst).trans (uM (hWd (m+1)).symm hst);have hres:qh c h y w=(W (m+1),true):=by rw[hcall,hB];exact Rs.xu _ _
  have cB:aj Tryz.prog 351 [.ptr 1000 0,cI c.s.args[m],bp (h.params[m]' af),it 11] (b_ c (W m)) (vh 347) (b_ c (W (m+1))):=by have:=Sl hc hi hw0 hm1 af (hgo m (cu m));unfold cY at this;rw[aq hst,<-hWd,<-hWd]at this;exact this
  rw[hres];show aj Tryz.prog 293 [.ptr 1000 0] (b_ c w) (vh 347) (b_ c (W (m+1)));have cA:∀k (hk:k<m),aj Tryz.prog 351 [.ptr 1000 0,cI (c.s.args[k]' af),bp (h.params[k]' af),it 11] (b_ c (W k)) (.bR []) (b_ c (W (k+1))):=λk hk=>cG k af af (hgo k af) (hgo (k+1) af);rcases hi.cS with cS|⟨ys,ye,cS,cT⟩<;>exact callA
 have cA:∀k (hk:k<c.s.args.length),aj Tryz.prog 351 [.ptr 1000 0,cI c.s.args[k],bp (h.params[k]' af),it 11] (b_ c (W k)) (.bR []) (b_ c (W (k+1))):=λk hk=>cG k hk af (hgo k af) (hgo (k+1) af);have hA:fV c h c.s.args 0 w0=(W c.s.args.length,false):=by have h1:=hgo c.s.args.length (cu _);have h2:=hWd c.s.args.length;rw[AS]at h1 h2;exact uM h2.symm h1
 rw[hA,Rs.xv]at hcall;have hu:=hWk c.s.args.length;have hK:=hWK c.s.args.length;rw[<-hWd]at hu hK;obtain⟨u,hud⟩:∃u,u=W c.s.args.length:=⟨_,rfl⟩;rw[<-hud]at hcall hu hK;have hVk:∀k,iK c (fO c h (c.s.cO.take k) 0 u).1:=λk=>KI hu;have hVK:∀k,uh w (fO c h (c.s.cO.take k) 0 u).1:=λk=>hK.trans (Ic c h _ 0 u);obtain⟨V,hVd⟩:∃V:Nat->Wk,∀k,V k=(fO c h (c.s.cO.take k) 0 u).1:=⟨λk=>(fO c h (c.s.cO.take k) 0 u).1,λ_=>rfl⟩;have hV0:V 0=W c.s.args.length:=(hVd 0).trans hud;have hV0f:(V 0).fd=(W c.s.args.length).fd:=by rw[hV0]
 have hV0p:(V 0).ps=(W c.s.args.length).ps:=by rw[hV0]
 have hV0u:(V 0).us=(W c.s.args.length).us:=by rw[hV0]
 have cM:=si;obtain⟨N,hN⟩:∃N:Nat->Int,∀k (hk:k<c.s.cO.length),c.s.cO[k]=N k:=⟨λk=>c.s.cO.getD k 0,λk hk=>by simp[hk]⟩;obtain⟨A,hAd⟩:∃A:Nat->Av,∀k,A k=(aQ (V k) (N k)).a:=⟨_,λ_=>rfl⟩;obtain⟨I,hId⟩:∃I:Nat->Av,∀k:Nat,I k=jj (dj h.given k):=⟨_,λ_=>rfl⟩;obtain⟨B,hBd⟩:∃B:Nat->Bool,∀k,B k=vT (A k) (I k):=⟨_,λ_=>rfl⟩;obtain⟨V1,hV1⟩:∃V1:Nat->Wk,∀k,V1 k=(iF c (N k) (V k)).1:=⟨_,λ_=>rfl⟩;obtain⟨V2,hV2⟩:∃V2:Nat->Wk,∀k,V2 k=cV c 11 (B k) (V1 k):=⟨_,λ_=>rfl⟩;obtain⟨MM,hMM⟩:∃MM:Nat->Av,∀k,MM k=KL (kY (A k) (I k)):=⟨_,λ_=>rfl⟩;have p2:∀k (hk:k<c.s.cO.length),C 106 [bp (h.given[k]' af)] (ai (I k)):=λk hk=>by
  have hk2:k<h.given.length:=af
  have hR:=hi.gr _ (cU hk2);have h1:=hR.lo;have h2:=hR.le;have h3:=hR.hi;rw[hId,Cy hk2];exact Lf _ af af
 have hIok:∀k,k<c.s.cO.length->aU (I k):=λk hk=>by
  have hk2:k<h.given.length:=af
  rw[hId,Cy hk2];exact(hi.gr _ (cU hk2)).av
 have hNn:∀k,k<c.s.cO.length->0<=N k∧N k<c.d.refs:=λk hk=>by rw[<-hN k hk];exact hi.pn _ (cU hk)
 have hVw:∀k,iK c (V k):=λk=>by rw[hVd];exact hVk k
 have hAok:∀k,k<c.s.cO.length->aU (A k):=λk hk=>by rw[hAd];exact(MJ (hVw k) (hNn k hk)).a
 have p3:∀k,k<c.s.cO.length->C 73 [ai (A k),ai (I k)] (bo (B k)):=λk hk=>by rw[hBd];exact leq_c _ _ (hAok k hk) (hIok k hk)
 have p5:∀k,k<c.s.cO.length->C 364 [ai (A k),ai (I k)] (.bR [ai (MM k),bo (kY (A k) (I k)).isSome]):=λk hk=>by rw[hMM];exact KX _ _ (hAok k hk) (hIok k hk)
 have hR:∀k (hk:k<c.s.cO.length),(fO c h (c.s.cO.take k) 0 u).2=false->
  ((fO c h (c.s.cO.take (k+1)) 0 u).2=true∧aj Tryz.prog 355 [.ptr 1000 0,it c.s.cO[k]] (b_ c (V k)) (vh 347) (b_ c (V (k+1))))∨
  (aj Tryz.prog 355 [.ptr 1000 0,it c.s.cO[k]] (b_ c (V k)) (ai (A k)) (b_ c (V1 k))∧
   aj Tryz.prog 289 [.ptr 1000 0,it 11,bo (B k)] (b_ c (V1 k)) (.bR []) (b_ c (V2 k))∧
   ((kY (A k) (I k)).isSome=false∧(fO c h (c.s.cO.take (k+1)) 0 u).2=true∧V (k+1)=V2 k∨
     (kY (A k) (I k)).isSome=true∧(fO c h (c.s.cO.take (k+1)) 0 u).2=false∧
      aj Tryz.prog 356 [.ptr 1000 0,it c.s.cO[k],it 1,ai zR] (b_ c (V2 k)) (.bR []) (b_ c (V (k+1))))):=λk hk hs=>by
  have hr:=(hVw k).f.refs;have hn:=hNn k hk;have q:=TS (h:=h) (hVw k) (n:=N k) (k:=k) af ((hVw k).f.yk hc.d);have e:=Xu (w:=u) hk hs;rw[hN k hk,<-hVd]at e;rw[<-hAd,<-hId,<-hBd,<-hV1,<-hV2]at q;rw[hVd (k+1),e,hN k hk];rcases q with q|⟨q1,q2,q3⟩;exact .inl q;refine .inr ⟨q1,q2,?_⟩;rcases q3 with⟨q3,q4⟩|⟨q3,q4,q5⟩;left;rw[q4];exact⟨q3,rfl,rfl⟩;right;rw[q4];exact⟨q3,rfl,q5⟩
 have hgoR:∀k (hk:k<c.s.cO.length),(fO c h (c.s.cO.take k) 0 u).2=false->(fO c h (c.s.cO.take (k+1)) 0 u).2=false->
  aj Tryz.prog 355 [.ptr 1000 0,it c.s.cO[k]] (b_ c (V k)) (ai (A k)) (b_ c (V1 k))∧aj Tryz.prog 289 [.ptr 1000 0,it 11,bo (B k)] (b_ c (V1 k)) (.bR []) (b_ c (V2 k))∧C 364 [ai (A k),ai (I k)] (.bR [ai (MM k),bo true])∧aj Tryz.prog 356 [.ptr 1000 0,it c.s.cO[k],it 1,ai zR] (b_ c (V2 k)) (.bR []) (b_ c (V (k+1))):=λk hk hs ht=>by
  have q5:=p5 k hk;rcases hR k hk hs with⟨q,_⟩|⟨q1,q2,⟨_,q,_⟩|⟨q3,_,q4⟩⟩;rw[q]at ht;cases ht;rw[q]at ht;cases ht;rw[q3]at q5;exact⟨q1,q2,q5,q4⟩
 have p6:∀k,aj Tryz.prog 292 [.ptr 1000 0,bo true] (b_ c (V2 k)) (.bR []) (b_ c (V2 k)):=λk=>kW c w _;rcases zY (λk=>(fO c h (c.s.cO.take k) 0 u).2) rfl c.s.cO.length with Qx|⟨m,hm1,Qx,hst⟩
 case inr=>
  have hB:fO c h c.s.cO 0 u=(V (m+1),true):=(FR (m+1) hst).trans (uM (hVd (m+1)).symm hst);have hres:qh c h y w=(V (m+1),true):=by rw[hcall,hB];exact Rs.xu _ _
  rw[hres];show aj Tryz.prog 293 [.ptr 1000 0] (b_ c w) (vh 347) (b_ c (V (m+1)));have hall:=λk (hk:k<m)=>hgoR k af (Qx k af) (Qx (k+1) af);rcases hR m hm1 (Qx m (cu m))with⟨_,q⟩|⟨q1,q2,⟨q3,_,q4⟩|⟨_,q,_⟩⟩
  rcases hi.cS with cS|⟨ys,ye,cS,cT⟩<;>exact callN;have q5:=p5 m hm1;rw[q3]at q5;rw[q4];have q6:aj Tryz.prog 292 [.ptr 1000 0,bo false] (b_ c (V2 m)) (vh 347) (b_ c (V2 m)):=jG c w _;have p3m:=p3 m hm1;rcases hi.cS with cS|⟨ys,ye,cS,cT⟩<;>exact callP;rw[hst]at q;cases q
 have hall:=λk (hk:k<c.s.cO.length)=>hgoR k hk (Qx k af) (Qx (k+1) af);have hP:fO c h c.s.cO 0 u=(V c.s.cO.length,false):=by have h1:=Qx c.s.cO.length (cu _);have h2:=hVd c.s.cO.length;rw[AS]at h1 h2;exact uM h2.symm h1
 rw[hP,Rs.xv]at hcall;have hv:=hVw c.s.cO.length;have hvK:=hVK c.s.cO.length;rw[<-hVd]at hvK;have hlk:=hi.lk;have hld:=hi.ld;have hyb:=hi.yb;have hmay:=hv.f.may;obtain⟨FL,hFL⟩:∃x,x=bz y.aM (V c.s.cO.length).f.may:=⟨_,rfl⟩;have e3:(((BitVec.ofInt IntKind.i64.bits y.aM&&&BitVec.ofInt IntKind.i64.bits (V c.s.cO.length).f.may).toNat:Nat):Int)=FL:=(nS _ _).trans hFL.symm;have d4:0<=FL∧FL<2^16:=by rw[hFL];exact iP (n:=16) af af af
 have cL:=r6 hv 4 (FL==0);have hv3:=hv.find (c:=c) (k:=4) af (FL==0);have hk3:=hvK.trans (yy c 4 (FL==0) _);have hf3:=CP c 4 (FL==0) (V c.s.cO.length);obtain⟨w3,hw3⟩:∃w3,w3=cV c 4 (FL==0) (V c.s.cO.length):=⟨_,rfl⟩;rw[<-hw3]at cL hv3 hk3 hf3;obtain⟨X,hX⟩:∃X:Nat->Wk,∀k,X k=lT c (y.dY.take k) w3:=⟨_,λ_=>rfl⟩;have hX0:X 0=w3:=hX 0;have hXk:∀k,iK c (X k)∧(X k).ps.length<=w3.ps.length+y.dY.length∧(X k).wR=w3.wR∧(X k).f=w3.f:=λk=>by have:=F4 (c:=c) (l:=y.dY.take k) hv3;rw[hX];refine⟨this.1,?_,this.2.2⟩;have h2:=this.2.1;rw[mF]at h2;omega
 have hw3p:w3.ps.length<2^20:=by rw[hk3.2];exact hps
 have cX:∀k (hk:k<y.dY.length),aj Tryz.prog 365 [.ptr 1000 0,it y.dY[k].a,it y.dY[k].b] (b_ c (X k)) (.bR []) (b_ c (X (k+1))):=λk hk=>by have h1:=hXk k;rw[show X (k+1)=sK c y.dY[k].a y.dY[k].b (X k) by rw[hX,hX,Xz hk]];exact XA h1.1 af _ _
 have hXn:=hXk y.dY.length;have hXl:X y.dY.length=lT c y.dY w3:=by rw[hX,AS]
 have cK:=WV hXn.1 af y.aM af (by rw[hXn.2.2.1,hk3.1];exact hl);obtain⟨T1,hT1⟩:∃T1,T1=nV c y.aM (X y.dY.length):=⟨_,rfl⟩;have hT1f:T1.f=(V c.s.cO.length).f:=by rw[hT1];show(X y.dY.length).f=_;rw[hXn.2.2.2,hf3]
 rw[<-hT1]at cK;have cR:=Sb c T1 y.pU;obtain⟨T2,hT2⟩:∃T2,T2=jt y.pU T1:=⟨_,rfl⟩;have hT2f:T2.f=(V c.s.cO.length).f:=by rw[hT2,<-hT1f];unfold jt;split<;>rfl
 rw[<-hT2]at cR;obtain⟨QQ,hQQ⟩:∃x,x=iD T2.f.parts y.mS:=⟨_,rfl⟩;have e4:(((BitVec.ofInt IntKind.i64.bits T2.f.parts|||BitVec.ofInt IntKind.i64.bits y.mS).toNat:Nat):Int)=QQ:=(Bq _ _).trans hQQ.symm;have hvp:=hv.f.parts;have d5:0<=QQ∧QQ<2^16:=by rw[hQQ,hT2f];exact rO (n:=16) af af af af af
 have hLf:qO c.d ({T2 with f:={T2.f with parts:=QQ}}:Wk).f:=by show qO c.d {T2.f with parts:=QQ};rw[hT2f];exact hv.f.part af
 have hsum:PQ c y (V c.s.cO.length)=(if c.s.n>=0 then g_ c ⟨y.LR,y.LS,y.rm,y.rr,y.nW⟩ {T2 with f:={T2.f with parts:=QQ}}else{T2 with f:={T2.f with parts:=QQ}}):=by rw[hQQ,hT2,hT1,hXl,hw3,hFL];rfl
 have hcX0:aj Tryz.prog 289 [.ptr 1000 0,it 4,bo (FL==0)] (b_ c (V c.s.cO.length)) (.bR []) (b_ c (X 0)):=by rw[hX0];exact cL
 by_cases hn:c.s.n>=0;have hng:decide (c.s.n>=0)=true:=by simpa using hn
 have hres:qh c h y w=(g_ c ⟨y.LR,y.LS,y.rm,y.rr,y.nW⟩ {T2 with f:={T2.f with parts:=QQ}},false):=by rw[hcall,hsum,aq hn]
 have cGG:=qX (w:={T2 with f:={T2.f with parts:=QQ}}) hc hLf ⟨af,hi.nv⟩ ⟨y.LR,y.LS,y.rm,y.rr,y.nW⟩;rw[hres];show aj Tryz.prog 293 [.ptr 1000 0] (b_ c w) (.bR []) (b_ c (g_ c ⟨y.LR,y.LS,y.rm,y.rr,y.nW⟩ {T2 with f:={T2.f with parts:=QQ}}));rcases hi.cS with cS|⟨ys,ye,cS,cT⟩<;>exact callE;have hng:decide (c.s.n>=0)=false:=by simpa using hn
 have hres:qh c h y w=({T2 with f:={T2.f with parts:=QQ}},false):=by rw[hcall,hsum,ah hn]
 rw[hres];show aj Tryz.prog 293 [.ptr 1000 0] (b_ c w) (.bR []) (b_ c {T2 with f:={T2.f with parts:=QQ}});rcases hi.cS with cS|⟨ys,ye,cS,cT⟩<;>exact callE
end
section
variable{c:Wc}{w:Wk}
def do_call(h:Hd)(y:Sy)(ho:c.s.op=13)(cc:aj Tryz.prog 293 [.ptr 1000 0] (b_ c w) (cY (qh c h y w) (.bR [])) (b_ c (qh c h y w).1)):aj Tryz.prog 236 [.ptr 1000 0] (b_ c w) (cY (kC c h y w) (.bR [])) (b_ c (kC c h y w).1):=by
 have o1:(c.s.op==1)=false:=aw
 have o2:(c.s.op==2)=false:=aw
 have o3:(c.s.op==3)=false:=aw
 have o4:(c.s.op==4)=false:=aw
 have Oz:(c.s.op==19)=false:=aw
 have Qc:(c.s.op==20)=false:=aw
 have o5:(c.s.op==5)=false:=aw
 have TZ:(c.s.op==18)=false:=aw
 have U6:(c.s.op==21)=false:=aw
 have o6:(c.s.op==6)=false:=aw
 have o7:(c.s.op==7)=false:=aw
 have o8:(c.s.op==8)=false:=aw
 have o9:(c.s.op==9)=false:=aw
 have XK:(c.s.op==10)=false:=aw
 have o16:(c.s.op==16)=false:=aw
 have o17:(c.s.op==17)=false:=aw
 have o22:(c.s.op==22)=false:=aw
 have o23:(c.s.op==23)=false:=aw
 have o14:(c.s.op==14)=false:=aw
 have o13:(c.s.op==13)=true:=aw
 unfold kC cY;(repeat rw[ah nD]);rw[ah (show ¬(c.s.op=5∨c.s.op=18∨c.s.op=21) by omega),ah (show ¬(c.s.op=6∨c.s.op=7∨c.s.op=8∨c.s.op=9∨c.s.op=10) by omega),ah (show ¬(c.s.op=16∨c.s.op=17) by omega),aq (show c.s.op=13 by omega)];unfold cY at cc;generalize qh c h y w=N at*;obtain⟨W,b⟩:=N;cases b with|false=>exact nc|true=>exact m_
def do_none(h:Hd)(y:Sy)(ho:c.s.op=11∨c.s.op=12∨c.s.op=15):aj Tryz.prog 236 [.ptr 1000 0] (b_ c w) (cY (kC c h y w) (.bR [])) (b_ c (kC c h y w).1):=by have o1:=fE (show c.s.op≠1 by omega);have o2:=fE (show c.s.op≠2 by omega);have o3:=fE (show c.s.op≠3 by omega);have o4:=fE (show c.s.op≠4 by omega);have Oz:=fE (show c.s.op≠19 by omega);have Qc:=fE (show c.s.op≠20 by omega);have o5:=fE (show c.s.op≠5 by omega);have TZ:=fE (show c.s.op≠18 by omega);have U6:=fE (show c.s.op≠21 by omega);have o6:=fE (show c.s.op≠6 by omega);have o7:=fE (show c.s.op≠7 by omega);have o8:=fE (show c.s.op≠8 by omega);have o9:=fE (show c.s.op≠9 by omega);have XK:=fE (show c.s.op≠10 by omega);have o16:=fE (show c.s.op≠16 by omega);have o17:=fE (show c.s.op≠17 by omega);have o22:=fE (show c.s.op≠22 by omega);have o23:=fE (show c.s.op≠23 by omega);have o14:=fE (show c.s.op≠14 by omega);have o13:=fE (show c.s.op≠13 by omega);unfold kC cY;(repeat rw[ah nD]);rw[ah (show ¬(c.s.op=5∨c.s.op=18∨c.s.op=21) by omega),ah (show ¬(c.s.op=6∨c.s.op=7∨c.s.op=8∨c.s.op=9∨c.s.op=10) by omega),ah (show ¬(c.s.op=16∨c.s.op=17) by omega)];show aj Tryz.prog 236 [.ptr 1000 0] (b_ c w) (.bR []) (b_ c w);refine fo Tryz.func236 ?_;exact aT
end
end Abs
namespace Abs
open Go Go.Proofs Go.RowKit
def Ql{P:Program}(w:World){ops:Array Oper}{rest:List Oper}{o:Oper}{a:Act}{Q:Go.Exit->Act->World->Prop}(hg:o.guard=none)(t:TypeId)(p x:Operand)(ho:o.op= .store t p x)(v u:Value)(hv:a.eval p=v)(hu:a.eval x=u){w' :World}(hr:(Instr.storeAt t v u).run P w= .ok () w')(h:wpList P ops Q rest (a.put o.dst undef) w'):wpList P ops Q (o::rest) a w:=wpList_plain hg λ_ hK=>by unfold Oper.wp execOp;simp only[ho,hv,hu,Sem.run_bind,hr,Result.andThen_ok,Sem.run_pure];exact hK _ _ h
def S6:Value:= .agg #[.bool true,.slice none 0 0,.slice none 0 0,.slice none 0 0,.slice none 0 0,.int .i64 0,.int .i64 0,.int .i64 0]
def I8(γ:Gh):bG γ S6 (bg gU):=by refine .agg rfl (λi v hv=> ?_) (λi v d hv hd=> ?_);rcases i with _|_|_|_|_|_|_|_|i<;>simp at hv<;>subst hv<;>rfl;rcases i with _|_|_|_|_|_|_|_|i<;>simp at hv<;>subst hv<;>simp[cF,nth,gU]at hd<;>subst hd;exact .pure (.bool _);exact .pure (.slnil _ _);exact .pure (.slnil _ _);exact .pure (.slnil _ _);exact .pure (.slnil _ _);exact .pure (.int _ _);exact .pure (.int _ _);exact .pure (.int _ _)
def UU(pb bx:Nat)(w:World)(hp:w.cell? ⟨pb,0,none⟩=some (.pointer (some ⟨bx,0,none⟩))){C:Array Value}{e:TypeId}{fz:Nat×Nat}(hb:w.heap[bx]? =some (.cells C e fz))(hf:qQ fz C.size)(hC:C.size=74)(L:List Value)(hL:L=S6.cells.toList):CallsD Tryz.prog 235 #[.pointer (some ⟨pb,0,none⟩)] (.panicking (qe 347)) w λe' u' w' =>e' = .returned (.tuple #[])∧u' = .panicking [{v:= .iface 347 (.agg #[]),recovered:=true}]∧w' =dr (w.alloc (.cells #[] 347)) bx (.cells (aJ C.toList 65 L).toArray e fz):=by
 have hta:∀w:World,(Instr.typeAssert (.iface 347 (.agg #[])) 20 347 true).run Tryz.prog w= .ok (.tuple #[.agg #[],.bool true]) w:=λ_=>rfl;have hlt:=cJ hb;have hpl:=mB hp;have hb1:(w.alloc (.cells #[] 347)).heap[bx]? =some (.cells C e fz):=(bO w _ bx hlt).trans hb;have hp1:(w.alloc (.cells #[] 347)).cell? ⟨pb,0,none⟩=some (.pointer (some ⟨bx,0,none⟩)):=(fh (w:=w) (bO w _ pb hpl)).trans hp;have hst:=kT (P:=Tryz.prog) (w:=w.alloc (.cells #[] 347)) (t:=59) (off:=65) aB (I8 ⟨λ_ _=>none,λ_=>none,λ_=>none⟩) iU aB hb1 hf (by rw[hC];decide);rw[<-hL]at hst;clear hL;refine callsD_of_wpS Tryz.func235 rfl λc₀ cs hu=> ?_;apply wpS_seq;apply wpS_region;simp[wpOpsS,go_sem,recoverD,hu,qe,Tryz.ntmps235,Exit.thenS];refine wpS_of_wp ?_
 go_wp2_with (refine Ql _ rfl 59 _ _ rfl _ _ rfl rfl hst ?_)
 simp[bodyPostS,results,Tryz.results235,Act.put]
def QM(p:Addr)(w:World):CallsD Tryz.prog 235 #[.pointer (some p)] .returning w λe' u' w' =>e' = .returned (.tuple #[])∧u' = .returning∧w' =w:=by
 refine callsD_of_wpS Tryz.func235 rfl λc₀ cs hu=> ?_;apply wpS_seq;apply wpS_region;simp[wpOpsS,go_sem,recoverD,hu,Tryz.ntmps235,Exit.thenS];refine wpS_of_wp ?_
 go_wp2
 trace_state
 cases c₀;simp_all [bodyPostS,results,Tryz.results235,Act.put]
def goes_w(bx:Nat)(w:World)(R R' :Ending->World->Prop)(L:List Value)(hL:L=S6.cells.toList)(hdo:Calls Tryz.prog 236 #[.pointer (some ⟨bx,0,none⟩)] (w.alloc (.cells #[.pointer (some ⟨bx,0,none⟩)] 288)) R)(hret:∀v w2,R (.returned v) w2->R' (.returned (.tuple #[])) w2)(hpan:∀ch w2,R (.panicked ch) w2->ch=qe 347∧w2.cell? ⟨w.heap.size,0,none⟩=some (.pointer (some ⟨bx,0,none⟩))∧∃C e fz,w2.heap[bx]? =some (.cells C e fz)∧qQ fz C.size∧C.size=74∧R' (.returned (.tuple #[])) (dr (w2.alloc (.cells #[] 347)) bx (.cells (aJ C.toList 65 L).toArray e fz)))(hout:∀w2,¬R .outgrown w2):Calls Tryz.prog 181 #[.pointer (some ⟨bx,0,none⟩)] w R' :=by
 have hmf:∀(fn:Fn) (first cap:Array Value) (w:World),(Instr.makeFunc fn first cap).run Tryz.prog w= .ok (.func fn first cap) w:=λ_ _ _ _=>rfl
 go_enter_defers Tryz.func181,Tryz.ntmps181
 go_wp2_with (fail)
 refine hdo.mono ?_
 rintro (v|ch|_) w2 h
 ·dsimp only
  go_wp2
  refine leaves_cons (f:=235) (args:= #[.pointer (some ⟨w.heap.size,0,none⟩)]) ag (by simp[go_sem]) ?_;refine(QM ⟨w.heap.size,0,none⟩ w2).mono ?_
  rintro e u' w'' ⟨rfl,rfl,rfl⟩
  have:=hret v w'' h;simpa[Leaves,settle,results,Tryz.results181,go_sem]using this
 ·dsimp only;obtain⟨rfl,h1,C,e,fz,h2,h3,h4,h5⟩:=hpan ch w2 h;refine leaves_cons (f:=235) (args:= #[.pointer (some ⟨w.heap.size,0,none⟩)]) ag (by simp[go_sem]) ?_;refine(UU w.heap.size bx w2 h1 h2 h3 h4 L hL).mono ?_
  rintro e u' w'' ⟨rfl,rfl,rfl⟩
  simpa[Leaves,settle,results,Tryz.results181,go_sem]using h5
 exact absurd h (hout w2)
end Abs
namespace Abs
open Go Go.Proofs
def Mem.enter1{X:Nat->Prop}{γ:Gh}{s:St}{w:World}(m:Mem (Cx.of 0 γ.X w γ.I) γ s w)(o:Obj):Mem (Cx.of 0 γ.X (dN w o) γ.I) γ s (dN w o):=by have p:=m.push o;refine⟨p.iw,λl d h=> ?_,p.gv,p.inj,p.E5,λk r h=> ?_,p.gD,p.kN,λb o v h=> .inl h,Frame.refl _ _,λb hb=> .inl hb⟩;obtain⟨b,h1,h2,h3⟩:=p.box l d h;exact⟨b,h1,h2,.inr (.inl ⟨l,h1⟩)⟩;obtain⟨t,h1,h2,h3,h4,h5⟩:=p.row k r h;exact⟨t,h1,h2,h3,h4,h5.dZ λb hb _=> .inr (.inr ⟨k,t,h1,hb⟩)⟩
def Mem.Yp{X:Nat->Prop}{I:Nat->Nat->Option Value}{γ:Gh}{s:St}{w w2:World}{o:Obj}(m:Mem (Cx.of 0 X (dN w o) I) γ s w2):Mem (Cx.of 0 X w I) γ s w2:=by
 have hs:w.heap.size<(dN w o).heap.size:=xJ
 have hm:∀b,(Cx.of 0 X (dN w o) I).dZ b->(Cx.of 0 X w I).dZ b:=λb h=>by rcases h with h|h;exact .inl af;exact .inr h
 refine⟨m.iw,λl d h=> ?_,m.gv,m.inj,m.E5,λk r h=> ?_,m.gD,m.kN,λb o v h=> ?_,?_,λb hb=>hm b (m.new b hb)⟩;obtain⟨b,h1,h2,h3⟩:=m.box l d h;exact⟨b,h1,h2,hm b h3⟩;obtain⟨t,h1,h2,h3,h4,h5⟩:=m.row k r h;exact⟨t,h1,h2,h3,h4,h5.dZ λb _ h=>hm b h⟩;rcases m.kx b o v h with h|h;exact .inl h;exact .inr (hm b h);have f:Frame (dN w o) w2 X:=m.frame;exact⟨f.os,f.tape,f.output,by have:=f.size;omega,λb hb hx=>(f.block b af hx).trans (bO w o b hb)⟩
theorem NL{cs cs' :List au}{R R' :List Row}{r:au}{out:List au}(h:aj Tryz.prog 236 [.ptr 1000 0] ⟨[.agg cs],R⟩ r ⟨[.agg cs'],R'⟩)(hr:(rM r=none∧out=cs')∨(rM r=some 347∧cs'.length=74∧out=aJ cs' 65 (cF gU))):aj Tryz.prog 181 [.ptr 1000 0] ⟨[.agg cs],R⟩ (.bR []) ⟨[.agg out],R'⟩:=by
 refine⟨⟨_,Tryz.func181,aB,aB⟩,λγ w vs hs hrep hmem=> ?_⟩;obtain⟨v0,rfl⟩:=KM (hs:vs.size=1);obtain⟨bx,hbx,rfl⟩:=FV (hrep 0 v0 _ rfl rfl);have hX:γ.X bx:= .inl ⟨1000,hbx⟩;have hnew:¬γ.X w.heap.size:=λhh=>by rcases hh with⟨l,hl⟩|⟨k,t,ht,hb⟩;exact absurd (hmem.vK hl) (fP _);exact absurd (hmem.kr ht hb).1 (fP _)
 have hdo:=h.go γ (dN w (.cells #[.pointer (some ⟨bx,0,none⟩)] 288)) #[.pointer (some ⟨bx,0,none⟩)] rfl hrep ((hmem.enter1 (X:=γ.X) _).names rfl rfl);refine Calls.mono (goes_w bx w _ (λe w' =>∃v,e= .returned v∧v= .tuple #[]∧∃γ',Ext γ γ' ∧Mem (Cx.of 0 γ.X w γ.I) γ' (init [] ⟨[.agg out],R'⟩) w') _ rfl hdo ?_ ?_ ?_) ?_
 ·rintro v w2 ⟨γ',h1,h2,h3⟩
  rcases hr with⟨_,rfl⟩|⟨hp,_,_⟩;exact⟨_,rfl,rfl,γ',h1,h3.Yp⟩;exfalso;have:=Jb hp;unfold rM at hp;split at hp;split at hp
  ·cases h2 with
   |pure r=>cases r
   | @bR us ds hl hh=>
     have hp0:0<us.size:=su
     have:=hh 0 us[0] _ (kq hp0) rfl
     exact this.tU.2 rfl
  cases hp;cases hp
 ·rintro ch w2 ⟨γ',q,h1,h2,h3,h4⟩
  rcases hr with⟨hp,_⟩|⟨hp,hl,rfl⟩;rw[hp]at h2;cases h2;rw[hp]at h2;cases h2;have hf:Frame (dN w (.cells #[.pointer (some ⟨bx,0,none⟩)] 288)) w2 γ.X:=h4.frame;have hmu' :=h1.mu _ _ hbx;obtain⟨b,hb1,⟨C,e,fz,c1,c2,c3,c4⟩,hb3⟩:=h4.box 1000 (.agg cs') rfl;rw[hmu']at hb1;cases hb1;have hcell:w2.heap[w.heap.size]? =some (.cells #[.pointer (some ⟨bx,0,none⟩)] 288 (0,0)):=(hf.block _ xJ hnew).trans (da w _);refine⟨h3,by rw[eB hcell];rfl,C,e,fz,c1,c2,by rw[c3];exact hl,_,rfl,rfl,γ',h1,?_⟩;have hp:=(h4.Yp).push (.cells #[] 347);have dv:=ju (I8 γ') iU;have hdl:S6.cells.toList.length=8:=rfl;have D1:C.toList.length=C.size:=ag
  refine Mem.names (s:=init [] ⟨[.agg (aJ cs' 65 (cF gU))],R'⟩) ?_ rfl rfl;refine hp.P4 (l:=1000) (b:=bx) (d:= .agg cs') (d' := .agg (aJ cs' 65 (cF gU))) rfl hmu' xG (by rw[show(cells (.agg (aJ cs' 65 (cF gU))))=aJ cs' 65 (cF gU) from rfl,aX];have c3' :C.size=cs'.length:=c3;simpa[aX]using c3') (λi v x hv hx=> ?_) ?_ rfl;rw[tP,hdl,D1]at hv;have hx' :nth (aJ cs' 65 (cF gU)) i=some x:=hx;rw[fC,show(cF gU).length=8 from rfl]at hx';have c3' :C.size=cs'.length:=c3;by_cases hi:65<=i∧i<65+8∧i<C.size;rw[aq hi]at hv;rw[aq ⟨hi.1,hi.2.1,af⟩]at hx';exact dv.2 (i - 65) v x oV hx';rw[ah hi]at hv;rw[ah af]at hx';exact c4 i v x oV hx';funext k;by_cases hk:k=1000;subst hk;rfl;show aY (λ_=>none) 1000 _ k=aY (aY (λ_=>none) 1000 _) 1000 _ k;rw[aP _ _ _ _ hk,aP _ _ _ _ hk,aP _ _ _ _ hk]
 intro w2 h;exact h
 ·rintro e w' ⟨v,rfl,rfl,γ',h1,h2⟩
  exact⟨γ',h1,.bR rfl (λi v d hv=>ur),h2⟩
def cW_len(c:Wc)(w:Wk):(cW c w).length=74:=rfl
def cW_dead(c:Wc)(w:Wk):aJ (cW c w) 65 (cF gU)=cW c {w with f:=gU}:=rfl
def goes_c{c:Wc}{w:Wk}{h:Hd}{y:Sy}(hd:aj Tryz.prog 236 [.ptr 1000 0] (b_ c w) (cY (kC c h y w) (.bR [])) (b_ c (kC c h y w).1)):aj Tryz.prog 181 [.ptr 1000 0] (b_ c w) (.bR []) (b_ c (yW c h y w)):=by unfold yW;unfold cY at hd;generalize kC c h y w=N at hd ⊢;obtain⟨W,b⟩:=N;cases b with|false=>exact NL (out:=cW c W) hd (.inl ⟨rfl,rfl⟩)|true=>exact NL (out:=cW c {W with f:=gU}) hd (.inr ⟨rfl,cW_len c W,(cW_dead c W).symm⟩)
def z_(w:Wk):au:= .agg (cF w.nx++(cF w.th++[it w.ths,it w.wR,fj 3 fx w.fd,fj 3 bF w.ps,ints w.us]))
def hSim:Nat->List Ad:=λn=>
 bif Nat.beq n 5 then[.aR 23 1,.aR 23 2,.aR 23 3,.aR 23 4,.aR 23 9,.aR 23 10,.aR 23 11,.aR 23 12,.cell 23 18 39,.cell 23 19 5390,.cell 23 20 5391]
 else bif Nat.beq n 7 then[.aR 23 18,.aR 23 19,.aR 23 20]
 else bif Nat.beq n 4 then[.aR 23 1,.aR 23 2,.aR 23 3,.aR 23 4,.aR 23 9,.aR 23 10,.aR 23 11,.aR 23 12,.aR 23 18,.aR 23 19,.aR 23 20]
 else[]
def MB(c:Wc){f:Fa}(hf:f.dead=true):C 108 [qb c.p,.agg [it c.level,fj 10 gM c.rules],bQ c.d,encS c.s,bg f,fj 11 eU c.ei] (z_ {wk0 f with nx:=gU}):=by refine eg hm Tryz.func108 (λ_=>false) [] hSim aB ?_;exact aT
def Mz(c:Wc){f:Fa}{G:Wk}{X Y:Fa}(hf:f.dead=false)(cg:aj Tryz.prog 181 [.ptr 1000 0] (b_ c (wk0 f)) (.bR []) (b_ c G))(c1:C 107 [bQ c.d,it c.level,bg G.f] (bg X))(c2:C 107 [bQ c.d,it c.level,bg G.th] (bg Y)):C 108 [qb c.p,.agg [it c.level,fj 10 gM c.rules],bQ c.d,encS c.s,bg f,fj 11 eU c.ei] (z_ {G with nx:=X,th:=Y}):=by refine eg hm Tryz.func108 (λ_=>false) [] hSim aB ?_;exact aW
def Wg{G:Prop}(h:G:=by rcases hf with rfl|hf;exact absurd hd (by simp[gU]);exact hf):G:=h
structure PIn(p:Pg):Prop where
 g:∀r∈p.d.globals,nU r
 q:∀q∈p.d.eP,nU q.r
 c:∀r∈p.d.ft,nU r
 s:∀s∈p.d.sinks,0<=s∧s<=255
structure Vb(c:Wc)(h:Hd)(y:Sy):Prop where
 op:1<=c.s.op∧c.s.op<=23
 ex:c.s.op=1∨c.s.op=2∨c.s.op=3∨c.s.op=5∨c.s.op=9∨c.s.op=18∨c.s.op=21->∃k z,jY c.d.vars c.d.aK.length k c.s.x z
 ey:c.s.op=3->∃k z,jY c.d.vars c.d.aK.length k c.s.y z
 ec:c.s.op=23->∃k z,Ff c.d.vars c.d.aK.length k c.s.c z
 nv:c.s.op=1∨c.s.op=2∨c.s.op=4∨c.s.op=10∨c.s.op=19∨c.s.op=20->0<=c.s.n∧c.s.n<c.d.vars
 nr:c.s.op=6∨c.s.op=7∨c.s.op=8∨c.s.op=9->0<=c.s.n∧c.s.n<c.d.refs
 mr:c.s.op=8∨c.s.op=10->0<=c.s.m∧c.s.m<c.d.refs
 ma:c.s.op=2∨c.s.op=3->0<=c.s.m∧c.s.m<c.d.aK.length
 mg:c.s.op=4∨c.s.op=5->0<=c.s.m∧c.s.m.toNat<c.p.d.globals.length
 mq:c.s.op=18∨c.s.op=19->0<=c.s.m∧c.s.m.toNat<c.p.d.eP.length
 mc:c.s.op=20->0<=c.s.m∧c.s.m.toNat<c.p.d.ft.length
 ms:c.s.op=21->0<=c.s.m∧c.s.m.toNat<c.p.d.sinks.length
 ml:c.s.op=16∨c.s.op=17->0<=c.s.m∧c.s.m<8
 mu:c.s.op=22->0<=c.s.m∧c.s.m<16
 v:c.s.op=14->0<=c.s.v
 call:c.s.op=13->CIn c h y
def do_c{c:Wc}{w:Wk}{h:Hd}{y:Sy}(hc:kP c)(hw:iK c w)(hp:PIn c.p)(hi:Vb c h y)(hl:0<=w.wR∧w.wR<2^60)(hps:w.ps.length<2^20):aj Tryz.prog 236 [.ptr 1000 0] (b_ c w) (cY (kC c h y w) (.bR [])) (b_ c (kC c h y w).1):=by
 have hop:=hi.op;have hcase:c.s.op=1∨c.s.op=2∨c.s.op=3∨c.s.op=4∨c.s.op=5∨c.s.op=6∨c.s.op=7∨c.s.op=8∨c.s.op=9∨c.s.op=10∨(c.s.op=11∨c.s.op=12∨c.s.op=15)∨c.s.op=13∨c.s.op=14∨c.s.op=16∨c.s.op=17∨c.s.op=18∨c.s.op=19∨c.s.op=20∨c.s.op=21∨c.s.op=22∨c.s.op=23:=af
 rcases hcase with ho|ho|ho|ho|ho|ho|ho|ho|ho|ho|ho|ho|ho|ho|ho|ho|ho|ho|ho|ho|ho;obtain⟨k,z,he⟩:=hi.ex af;exact do_set h y hc hw ho he (hi.nv af);obtain⟨k,z,he⟩:=hi.ex af;exact do_load h y hc hw ho he (hi.ma af) (hi.nv af);obtain⟨k,z,he⟩:=hi.ex af;obtain⟨k2,z2,hy⟩:=hi.ey ho;exact Zf h y hc hw ho he hy (hi.ma af);exact do_read h y hc hw ho (hi.nv af) (hi.mg af) hp.g;obtain⟨k,z,he⟩:=hi.ex af;exact do_out5 h y ho (TY hc hw ho he (hi.mg af) hp.g);exact Zl h y ho (X5 hc hw ho (hi.nr af));exact Zk h y ho (T9 hc hw ho (hi.nr af));exact Zj h y ho (T8 hc hw ho (hi.nr af) (hi.mr af));obtain⟨k,z,he⟩:=hi.ex af;exact Zi h y ho (X4 hc hw ho (hi.nr af) he);exact UK h y ho (X6 hc hw ho (hi.mr af) (hi.nv af));exact do_none h y ho;exact do_call h y ho (call_c hc hw (hi.call ho) hl hps);exact Ze h y ho (hi.v ho);exact UM h y ho (Yl hw af af (hi.ml af) hl);exact UL h y ho (Yl hw af af (hi.ml af) hl);obtain⟨k,z,he⟩:=hi.ex af;exact Zh h y ho (XC hc hw ho he (hi.mq af) hp.q);exact do_recv h y hc hw ho (hi.nv af) (hi.mq af) hp.q;exact UJ h y hc hw ho (hi.nv af) (hi.mc af) hp.c;obtain⟨k,z,he⟩:=hi.ex af;exact Zg h y ho (XB hc hw ho he (hi.ms af) hp.s);exact do_use h y hw ho (hi.mu ho);obtain⟨k,z,he⟩:=hi.ec ho;exact UN h y hc hw ho he
def PH{c:Wc}{f:Fa}(hf:qO c.d f):iK c (wk0 f):=⟨hf,List.Pairwise.nil,λx hx=>qm,List.Pairwise.nil,List.Pairwise.nil,λx hx=>qm⟩
def XW{d:Df}(hd:yG d)(hp:d.params.length<=2):C 105 [it d.vars,it ((d.params.map bp).length:Nat)] (dF (fM d.vars.toNat d.params.length)):=by have hv:=hd.vars;have h:=new_c d.vars.toNat d.params.length af af;rwa[EF af,show(d.params.length:Int)=(((d.params.map bp).length:Nat):Int) by rw[cZ]]at h
theorem W8{c:Wc}{f:Fa}{h:Hd}{y:Sy}(hc:kP c)(hf:se c.d f)(hp:PIn c.p)(hi:Vb c h y)(hpn:c.d.params.length<=2)(h1:f.dead=false->se c.d (yW c h y (wk0 f)).f)(h2:f.dead=false->se c.d (yW c h y (wk0 f)).th):C 108 [qb c.p,.agg [it c.level,fj 10 gM c.rules],bQ c.d,encS c.s,bg f,fj 11 eU c.ei] (z_ (nk c h y f)):=by
 unfold nk;cases hd:f.dead with
 |true=>rw[aq rfl];exact MB c hd
 |false=>
  rw[ah ag];have hl:qO c.d f:=Wg
  have cg:=goes_c (do_c hc (PH hl) hp hi ⟨pd 0,by show(0:Int)<2^60;decide⟩ (by show 0<2^20;decide));exact Mz c hd cg (LB hc.d (h1 hd) (XW hc.d hpn) c.level) (LB hc.d (h2 hd) (XW hc.d hpn) c.level)
def zby2_{G:Prop}(h:G:=by apply BitVec.eq_of_getLsbD_eq;intro i hi;have h2:=aL (λv=>v.getLsbD i) h1;simp[hi]at h2 ⊢;cases hx:x.getLsbD i<;>cases hy:y.getLsbD i<;>cases hz:z.getLsbD i<;>simp_all):G:=h
def AJ{G:Prop}(h:G:=by rw[sS];exact ht):G:=h
def El{G:Prop}(h:G:=by rw[Sz];exact ht):G:=h
def Vf{G:Prop}(h:G:=by have e:dj c.p.d.globals c.s.m=c.p.d.globals[c.s.m.toNat]:=(by unfold dj;simp[hn.2]);rw[e];exact hp.g _ (cU hn.2)):G:=h
def RX{G:Prop}(h:G:=by have e:pW c.p.d.eP c.s.m=c.p.d.eP[c.s.m.toNat]:=(by unfold pW;simp[hn.2]);rw[e];exact hp.q _ (cU hn.2)):G:=h
def wH(x:BitVec 64):BitVec.ofInt 64 ((x.toNat:Nat):Int)=x:=ag
def Jf{a m:Int}(h:kO a m=0):BitVec.ofInt 64 a&&& ~~~BitVec.ofInt 64 m=0#64:=by
 unfold kO at h;apply BitVec.eq_of_toNat_eq;have:(BitVec.ofInt 64 a&&& ~~~BitVec.ofInt 64 m).toNat=0:=af
 rw[this];rfl
def andN_or{a m b:Int}(h:kO a m=0):kO (iD a b) (iD m b)=0:=by
 have h1:=Jf h;unfold kO iD;rw[wH,wH];generalize BitVec.ofInt 64 a=x at*;generalize BitVec.ofInt 64 m=y at*;generalize BitVec.ofInt 64 b=z at*;have:(x|||z)&&& ~~~(y|||z)=0#64:=zby2_
 rw[this];rfl
def Z7{a m b:Int}(h:kO a m=0):kO (kO a b) (kO m b)=0:=by
 have h1:=Jf h;unfold kO;rw[wH,wH];generalize BitVec.ofInt 64 a=x at*;generalize BitVec.ofInt 64 m=y at*;generalize BitVec.ofInt 64 b=z at*;have:(x&&& ~~~z)&&& ~~~(y&&& ~~~z)=0#64:=zby2_
 rw[this];rfl
def bit8{m:Int}(h:0<=m∧m<8):0<gZ m∧gZ m<2^8:=by
 have:m=0∨m=1∨m=2∨m=3∨m=4∨m=5∨m=6∨m=7:=af
 rcases this with rfl|rfl|rfl|rfl|rfl|rfl|rfl|rfl<;>decide
def sS(c:Wc)(k:Int)(b:Bool)(w:Wk):(cV c k b w).th=w.th:=by obtain⟨D,hD⟩:=sU c k b w;rw[hD]
def CC(c:Wc)(e:Ex)(r:pL)(k:Int)(w:Wk):(gY c e r k w).1.th=w.th:=by have h:=sS c k false (kS c e w);have h2:(cV c k false (kS c e w)).th=w.th:=h;unfold gY;split;rfl;split;dsimp only;split;exact h2;exact h2;exact h2
def Un(c:Wc)(w:Wk):(iZ c w).1.th=w.th:=by have h:=sS c 1 false (kS c c.s.x w);unfold iZ;split;rfl;exact h
theorem Tc(c:Wc)(h:Hd):∀(l:List Ex) (i:Nat) (w:Wk),(fV c h l i w).1.th=w.th|[],_,_=>rfl|e::l,i,w=>by have h1:=CC c e (dj h.params i) 11 w;unfold fV Rs.and;split;exact h1;exact(Tc c h l (i+1) _).trans h1
def ptr_th(c:Wc)(h:Hd)(n:Int)(i:Nat)(w:Wk):(tT c h n i w).1.th=w.th:=by
 have h1:=sS c 2 (bz (aQ w n).s 1==0) w;have h2:=(sS c 11 (vT (aQ w n).a (jj (dj h.given i))) _).trans h1;unfold tT iF wF Rs.and;dsimp only;split;exact h1
 ·try dsimp only
  split;exact h2;exact h2
theorem Su(c:Wc)(h:Hd):∀(l:List Int) (i:Nat) (w:Wk),(fO c h l i w).1.th=w.th|[],_,_=>rfl|e::l,i,w=>by have h1:=ptr_th c h e i w;unfold fO Rs.and;split;exact h1;exact(Su c h l (i+1) _).trans h1
theorem MP(c:Wc):∀(l:List Pa) (w:Wk),(lT c l w).th=w.th|[],_=>rfl|x::l,w=>(MP c l (sK c x.a x.b w)).trans rfl
def Sq{c:Wc}{w:Wk}(hw:iK c w){n:Int}(hn:0<=n∧n<c.d.refs):aU (aQ w n).a:=(MJ hw hn).a
structure Kp(c:Wc)(r:Rs):Prop where
 f:r.2=false->se c.d r.1.f
 t:se c.d r.1.th
def Kp.of{c:Wc}{r:Rs}(h1:iK c r.1)(h2:se c.d r.1.th):Kp c r:=⟨λ_=> .inr h1.f,h2⟩
section
variable{c:Wc}{w:Wk}{h:Hd}{y:Sy}
def uf(hw:iK c w)(ht:se c.d w.th)(hn:0<=c.s.n∧c.s.n<c.d.vars){a:Av}(ha:aU a):Kp c (g_ c a w,false):=⟨λ_=> .inr (hw.f.set hn.1 hn.2 ha zEx),ht⟩
def yp(hw:iK c w)(n:Int):iK c (iF c n w).1:=by have h1:=hw.find (c:=c) (k:=2) af (bz (aQ w n).s 1==0);exact h1
def Sz(n:Int):(iF c n w).1.th=w.th:=sS c 2 _ w
def SV(hw:iK c w)(ht:se c.d w.th)(n:Int){a:Av}(ha:aU a):Kp c (r7 c n a w)∧((r7 c n a w).2=false->iK c (r7 c n a w).1):=by
 have h1:=hw.find (c:=c) (k:=3) af (bz (aQ w n).s 2==0);have h2:=sS c 3 (bz (aQ w n).s 2==0) w;have h3:iK c (r7 c n a w).1∧(r7 c n a w).1.th=w.th:=by unfold r7 wF Rs.and;split;exact⟨h1,h2⟩;exact⟨h1.ref ⟨af,af⟩ ha (λe=>absurd e az),h2⟩
 exact⟨.of h3.1 (by rw[h3.2];exact ht),λ_=>h3.1⟩
def move_kp(hc:kP c)(hw:iK c w)(ht:se c.d w.th)(hi:Vb c h y):Kp c (gE c w):=by
 unfold gE;split;exact(SV hw ht _ A8).1;split;unfold Rs.and;split;exact .of (yp hw _) El;exact .of ((yp hw _).ref ⟨af,af⟩ A8 (λ_=>rfl)) (by show se c.d (iF c c.s.n w).1.th;rw[Sz];exact ht);split;rename_i ho;have ha:=Sq (yp hw c.s.m) (hi.mr af);have hn:=yp hw c.s.m;have htt:se c.d (iF c c.s.m w).1.th:=El
 unfold Rs.and;split;exact .of hn htt;dsimp only;split;exact .of (hn.ref ⟨af,af⟩ ha (λe=>absurd e az)) htt;have hf:=SV hn htt c.s.n ha;split;exact hf.1;rename_i h2;exact .of ((hf.2 qx).ref ⟨af,af⟩ A8 (λ_=>rfl)) hf.1.t;split;rename_i ho;obtain⟨k,z,he⟩:=hi.ex af;have hn:=yp hw c.s.n;have htt:se c.d (iF c c.s.n w).1.th:=El
 unfold Rs.and;split;exact .of hn htt;exact .of ((hn.set he).ref ⟨af,af⟩ (sF hc hn he) (λe=>absurd e az)) htt;split;rename_i ho;have hn:=yp hw c.s.m;have htt:se c.d (iF c c.s.m w).1.th:=El
 have ha:=Sq hn (hi.mr af);unfold Rs.and;split;exact .of hn htt;exact uf (hn.ref ⟨af,af⟩ ha (λe=>absurd e az)) htt (hi.nv af) ha;exact .of hw ht
def out_kp(hc:kP c)(hw:iK c w)(ht:se c.d w.th)(hi:Vb c h y)(hp:PIn c.p)(ho:c.s.op=5∨c.s.op=18∨c.s.op=21):Kp c (rN c w):=by
 obtain⟨k,z,he⟩:=hi.ex af;unfold rN;split;rename_i h5;have hn:=hi.mg af;have hR:nU (dj c.p.d.globals c.s.m):=Vf
 exact .of (CD hc hw he hR af) (by rw[CC];exact ht);split;rename_i h18;have hn:=hi.mq af;have hR:nU (pW c.p.d.eP c.s.m).r:=RX
 exact .of (CD hc hw he hR af) (by rw[CC];exact ht);split;rename_i h21;have hn:=hi.ms h21;have hS:0<=dS c.p.d.sinks c.s.m∧dS c.p.d.sinks c.s.m<=255:=by have e:dS c.p.d.sinks c.s.m=c.p.d.sinks[c.s.m.toNat]:=(by unfold dS;simp[hn.2]);rw[e];exact hp.s _ (cU hn.2)
 have hw2:=(hw.set (c:=c) he).find (c:=c) (k:=7) af (kO (iC c c.s.x w).mask (dS c.p.d.sinks c.s.m)==0);have htt:se c.d (cV c 7 (kO (iC c c.s.x w).mask (dS c.p.d.sinks c.s.m)==0) (kS c c.s.x w)).th:=AJ
 split;rename_i h2;have hx:=Ly he h2;have hv:=hw.f.v;have hlt:c.s.x.n.toNat<w.f.v.length:=af
 have hA:aU (gV w.f c.s.x.n):=(by have e:gV w.f c.s.x.n=w.f.v[c.s.x.n.toNat]:=(by unfold gV;simp[hlt]);rw[e];exact hw.f.va _ (cU hlt));have hb:=iP (a:=(gV w.f c.s.x.n).mask) (b:=dS c.p.d.sinks c.s.m) (n:=8) af hS.1 af;exact .of (hw2.Hg (EV hA hb.1 af)) htt;exact .of hw2 htt;exact .of hw ht
def lock_kp(hw:iK c w)(ht:se c.d w.th)(hm' :0<=c.s.m∧c.s.m<8):Kp c (sN c w):=by
 have hb:=bit8 hm';have hmu:=hw.f.ew;have hma:=hw.f.may;unfold sN;split;have hw1:=hw.find (c:=c) (k:=5) af (!(bz w.f.ew (gZ c.s.m)==0));have ht1:se c.d (cV c 5 (!(bz w.f.ew (gZ c.s.m)==0)) w).th:=AJ
 have hf:=CP c 5 (!(bz w.f.ew (gZ c.s.m)==0)) w;unfold wF Rs.and;split;exact .of hw1 ht1;refine⟨λ_=> .inr ?_,ht1⟩;dsimp only;rw[hf];have h:=hw.f;have b1:=B8 (a:=w.f.ew) (b:=gZ c.s.m) (n:=8) af hmu.1 af;have b2:=B8 (a:=w.f.may) (b:=gZ c.s.m) (n:=8) af hma.1 af;exact⟨h.live,h.v,h.va,h.jh,h.refs,h.ra,h.arr,h.aa,bu,bu,h.parts,Z7 h.sub⟩;have hw1:=hw.find (c:=c) (k:=4) af (bz w.f.may (gZ c.s.m)==0);have ht1:se c.d (cV c 4 (bz w.f.may (gZ c.s.m)==0) w).th:=AJ
 have hf:=CP c 4 (bz w.f.may (gZ c.s.m)==0) w;unfold wF Rs.and;split;exact .of hw1 ht1;refine⟨λ_=> .inr ?_,ht1⟩;dsimp only[nV];rw[hf];have h:=hw.f;have b1:=rO (a:=w.f.ew) (b:=gZ c.s.m) (n:=8) af hmu.1 af af hb.2;have b2:=rO (a:=w.f.may) (b:=gZ c.s.m) (n:=8) af hma.1 af af hb.2;exact⟨h.live,h.v,h.va,h.jh,h.refs,h.ra,h.arr,h.aa,bu,bu,h.parts,andN_or h.sub⟩
end
def arV(n:Ns)(w:Wd)(v:Nat):Av:=
 let x:=qi n.b v;let a:=kv w.v w.mask;let a:=if x.tmod 3>0 then fR a (kv (w.v+(1+(x.tdiv 3).tmod 5)*x.tdiv 16) (x.tmod 4))else a
 if x.tmod 3>1 then fR a (kv (w.v - x.tdiv 32) 0)else a
def arK(n:Ns)(ws:List Wd)(v p:Nat):Int:=
 let x:=qi n.b (7*(v:Int)+p)
 if x.tmod 2=1 then(ws.getD v ⟨0,0⟩).v - (ws.getD p ⟨0,0⟩).v+(x.tdiv 2).tmod 4 else NG
def arR(n:Ns)(i:Nat):Rf:=
 let x:=qi n.b (3*(i:Int)+1)
 if 1+x.tmod 3=1 then⟨1,zR⟩else⟨1+x.tmod 3,fR (kv (x.tdiv 8) 0) (kv (x.tdiv 16) (x.tmod 4))⟩
def eM(d:Df)(n:Ns)(ws:List Wd):Fa:=
 {ku d with
  v:=(List.range ws.length).map λv=>arV n (ws.getD v ⟨0,0⟩) v
  jh:=(List.range ws.length).map λv=>(List.range d.params.length).map λp=>arK n ws v p
  refs:=(List.range d.refs.toNat).map (arR n)
  may:=bz (qi n.b 2) 7
  ew:=bz (bz (qi n.b 2) 7) (qi n.b 5)
  parts:=iD (iD 1 (lZ d)) (bz (qi n.b 6) 7)}
def Z6(a b:Int):kO (bz a b) a=0:=by
 unfold kO bz;rw[wH];generalize BitVec.ofInt 64 a=x;generalize BitVec.ofInt 64 b=y;have:(x&&&y)&&& ~~~x=0#64:=by apply BitVec.eq_of_getLsbD_eq;intro i hi;simp[hi];intro h;simp[h]
 rw[this];rfl
def uA{G:Prop}(h:G:=by rw[e32];omega):G:=h
def AD{G:Prop}(h:G:=by simp[eM]):G:=h
def uw{G:Prop}(h:G:=by rw[e8];omega):G:=h
def y9{G:Prop}(h:G:=by exact⟨by decide,by decide⟩):G:=h
def iS{G:Prop}(h:G:=by rw[e16];omega):G:=h
def arV_ok(n:Ns)(w:Wd)(v:Nat)(h1: -(2^20)<w.v∧w.v<2^20)(h2:0<=w.mask∧w.mask<=255):aU (arV n w v):=by have hx:=kD n.b v;unfold arV;dsimp only;generalize qi n.b v=x at hx ⊢;have d1:=dz 4 hx.1;have d2:=fw x (show(0:Int)<4 by decide);have e3:x.tdiv 3=x / 3:=gP hx.1;have e16:x.tdiv 16=x / 16:=gP hx.1;have e32:x.tdiv 32=x / 32:=gP hx.1;have m1:=dz 5 (show 0<=x.tdiv 3 by rw[e3];omega);have m2:=fw (x.tdiv 3) (show(0:Int)<5 by decide);have p1:0<=(1+(x.tdiv 3).tmod 5)*x.tdiv 16:=oc af iS;have p2:(1+(x.tdiv 3).tmod 5)*x.tdiv 16<=5*15:=sC af iS iS az;have a0:aU (kv w.v w.mask):=jm af af h2.1 h2.2;have a1:aU (kv (w.v+(1+(x.tdiv 3).tmod 5)*x.tdiv 16) (x.tmod 4)):=jm af af d1 af;have a2:aU (kv (w.v - x.tdiv 32) 0):=jm uA uA az az;split;split;exact(qH (qH a0 a1).1 a2).1;exact(qH a0 a2).1;split;exact(qH a0 a1).1;exact a0
def arR_ok(n:Ns)(i:Nat):HS (arR n i):=by have hx:=kD n.b (3*(i:Int)+1);unfold arR;dsimp only;generalize qi n.b (3*(i:Int)+1)=x at hx ⊢;have d1:=dz 4 hx.1;have d2:=fw x (show(0:Int)<4 by decide);have d3:=dz 3 hx.1;have d4:=fw x (show(0:Int)<3 by decide);have e8:x.tdiv 8=x / 8:=gP hx.1;have e16:x.tdiv 16=x / 16:=gP hx.1;have a1:aU (kv (x.tdiv 8) 0):=jm uw uw az az;have a2:aU (kv (x.tdiv 16) (x.tmod 4)):=jm iS iS d1 af;split;exact⟨⟨az,az⟩,A8,λ_=>rfl⟩;rename_i h;exact⟨⟨bu,bu⟩,(qH a1 a2).1,λe=>absurd e h⟩
def U2{d:Df}(hd:yG d)(n:Ns)(ws:List Wd)(hl:ws.length=d.vars.toNat)(hw:∀w∈ws,(-(2^20)<w.v∧w.v<2^20)∧(0<=w.mask∧w.mask<=255))(hpt:0<=d.part∧d.part<=15):qO d (eM d n ws):=by
 have hg:∀k,(-(2^20)<(ws.getD k ⟨0,0⟩).v∧(ws.getD k ⟨0,0⟩).v<2^20)∧(0<=(ws.getD k ⟨0,0⟩).mask∧(ws.getD k ⟨0,0⟩).mask<=255):=λk=>by by_cases hk:k<ws.length;have e:ws.getD k ⟨0,0⟩=ws[k]:=(by simp[hk]);rw[e];exact hw _ (cU hk);have e:ws.getD k ⟨0,0⟩=⟨0,0⟩:=(by simp[uR hk]);rw[e];exact⟨⟨az,az⟩,az,az⟩
 have pb:=ES hpt;have b2:=kD n.b 2;have b5:=kD n.b 5;have b6:=kD n.b 6;have y1:=iP (a:=qi n.b 2) (b:=7) (n:=8) af az az;have y2:=iP (a:=bz (qi n.b 2) 7) (b:=qi n.b 5) (n:=8) af b5.1 af;have y3:=iP (a:=qi n.b 6) (b:=7) (n:=16) af az az;have y4:=rO (a:=iD 1 (lZ d)) (b:=bz (qi n.b 6) 7) (n:=16) af pb.1 af y3.1 y3.2;refine⟨rfl,by simp[eM,hl],?_,⟨by simp[eM,hl],?_⟩,AD,?_,by simp[eM,ku],?_,?_,?_,?_,Z6 _ _⟩;intro a ha;simp only[eM,dM]at ha;obtain⟨v,_,rfl⟩:=ha;exact arV_ok n _ v (hg v).1 (hg v).2;intro l hl2;simp only[eM,dM]at hl2;obtain⟨v,_,rfl⟩:=hl2;refine⟨ag,λk hk=> ?_⟩;simp only[dM]at hk;obtain⟨p,_,rfl⟩:=hk;rw[GO];unfold arK;have hx:=kD n.b (7*(v:Int)+p);dsimp only;generalize qi n.b (7*(v:Int)+p)=x at hx ⊢;split;right;have e2:x.tdiv 2=x / 2:=gP hx.1;have m1:=dz 4 (show 0<=x.tdiv 2 by rw[e2];omega);have m2:=fw (x.tdiv 2) (show(0:Int)<4 by decide);have h1:=(hg v).1;have h2:=(hg p).1;omega;left;rfl;intro r hr;simp only[eM,dM]at hr;obtain⟨i,_,rfl⟩:=hr;exact arR_ok n i;intro x hx;simp only[eM,ku]at hx;rw[Cm hx];exact y9;show 0<=bz (bz (qi n.b 2) 7) (qi n.b 5)∧_<=255;exact⟨y2.1,by show bz (bz (qi n.b 2) 7) (qi n.b 5)<=255;omega⟩;show 0<=bz (qi n.b 2) 7∧_<=255;exact⟨y1.1,by show bz (qi n.b 2) 7<=255;omega⟩;exact⟨y4.1,by show iD (iD 1 (lZ d)) (bz (qi n.b 6) 7)<=65535;omega⟩
def Tj(d:Df)(n:Ns)(k:Nat)(hp:∀r∈d.params,-(2^20)<r.lo∧r.lo<=r.hi∧r.hi<2^20∧0<=r.mask∧r.mask<=255):(-(2^20)<(rG d n k).v∧(rG d n k).v<2^20)∧(0<=(rG d n k).mask∧(rG d n k).mask<=255):=by have a1:=kD n.w (2*(k:Int));have a2:=kD n.w (2*(k:Int)+1);unfold rG;generalize qi n.w (2*(k:Int))=a at a1 ⊢;generalize qi n.w (2*(k:Int)+1)=b at a2 ⊢;have m1:=dz 24 a1.1;have m2:=fw a (show(0:Int)<24 by decide);have m3:=dz 4 a2.1;have m4:=fw b (show(0:Int)<4 by decide);split;rename_i hk;have hr:=hp _ (cU hk);generalize d.params[k]=R at hr ⊢;have m5:=dz (R.hi - R.lo+1) (show 0<=a.tmod 24 - 6+6 by omega);have m6:=fw (a.tmod 24 - 6+6) (show(0:Int)<R.hi - R.lo+1 by omega);have d4:=iP (a:=b.tmod 4) (b:=R.mask) (n:=8) af hr.2.2.2.1 af;unfold wdP wd0;exact bu;unfold wd0;exact bu
def HV(d:Df)(n:Ns):(gi d n).length=d.vars.toNat:=by simp[gi]
def L4{d:Df}{n:Ns}(hp:∀r∈d.params,-(2^20)<r.lo∧r.lo<=r.hi∧r.hi<2^20∧0<=r.mask∧r.mask<=255):∀w∈gi d n,(-(2^20)<w.v∧w.v<2^20)∧(0<=w.mask∧w.mask<=255):=λw hw=>by unfold gi at hw;obtain⟨k,_,rfl⟩:=dM.1 hw;exact Tj d n k hp
def bxA(v g r arr:au)(ew may parts:Int):au:= .agg [bo false,v,g,r,arr,it ew,it may,it parts]
def N2(f:Fa)(h:f.dead=false):bg f=bxA (fj 5 ai f.v) (dF f.jh) (fj 6 aO f.refs) (ints f.arr) f.ew f.may f.parts:=by obtain⟨d,v,g,r,arr,mu,ma,pa⟩:=f;dsimp only at h;subst h;rfl
def F_(v mask:Int)(h: -(2^20)<v∧v<2^20):C 68 [.agg [it v,it mask]] (ai (kv v mask)):=XJ v mask h
def byA_lo(lo hi k:Int)(m:Nat)(h:lo<=hi):(m7 lo hi m k).lo=lo∧(m7 lo hi m k).hi<=hi:=by unfold m7;by_cases hm:(0:Int)<m;rw[aq hm];have h1:=dz (m:Int) (show 0<=hi - lo by omega);split;exact⟨rfl,h⟩;exact⟨rfl,bu⟩;rw[ah hm];split;exact⟨rfl,h⟩;exact⟨rfl,pd _⟩
def Yw(a b:Av)(ha:a.lo<=a.hi)(hb:b.lo<=b.hi):(a.lo<=(fR a b).lo∨b.lo<=(fR a b).lo)∧((fR a b).hi<=a.hi∨(fR a b).hi<=b.hi):=by
 unfold fR;have h:=byA_lo (if b.lo<a.lo then b.lo else a.lo) (if b.hi>a.hi then b.hi else a.hi) (iD a.mask b.mask) (dK (aD a) [aD b,(a.lo - b.lo).natAbs]) (by split<;>split<;>omega);rw[h.1];refine⟨iT,?_⟩;have hmax:(if b.hi>a.hi then b.hi else a.hi)<=a.hi∨(if b.hi>a.hi then b.hi else a.hi)<=b.hi:=iT
 exact hmax.imp (Int.le_trans h.2) (Int.le_trans h.2)
def arV_cs(n:Ns)(w:Wd)(k:Nat)(hn:n.b.length<2^63)(hk:k<2^20)(h1: -(2^18)<w.v∧w.v<2^18)(h2:0<=w.mask∧w.mask<=255):∃x A0 AR,arV n w k=AR∧(0<=x∧x<256)∧C 121 [r8 n.b,it (k:Int)] (it x)∧C 68 [.agg [it w.v,it w.mask]] (ai A0)∧((x.tmod 3=0∧A0=AR)∨(x.tmod 3=1∧∃A1,C 68 [.agg [it (w.v+(1+(x.tdiv 3).tmod 5)*x.tdiv 16),it (x.tmod 4)]] (ai A1)∧C 67 [ai A0,ai A1] (ai AR))∨(x.tmod 3=2∧∃A1 A2 B1,C 68 [.agg [it (w.v+(1+(x.tdiv 3).tmod 5)*x.tdiv 16),it (x.tmod 4)]] (ai A1)∧C 67 [ai A0,ai A1] (ai B1)∧C 68 [.agg [it (w.v - x.tdiv 32),it 0]] (ai A2)∧C 67 [ai B1,ai A2] (ai AR))):=by have cx:=xt n.b (k:Int) hn af;have hx:=kD n.b k;refine⟨qi n.b k,kv w.v w.mask,_,rfl,hx,cx,F_ _ _ af,?_⟩;unfold arV;dsimp only;generalize qi n.b k=x at hx ⊢;have d1:=dz 4 hx.1;have d2:=fw x (show(0:Int)<4 by decide);have d3:=dz 3 hx.1;have d4:=fw x (show(0:Int)<3 by decide);have e3:x.tdiv 3=x / 3:=gP hx.1;have e16:x.tdiv 16=x / 16:=gP hx.1;have e32:x.tdiv 32=x / 32:=gP hx.1;have m1:=dz 5 (show 0<=x.tdiv 3 by rw[e3];omega);have m2:=fw (x.tdiv 3) (show(0:Int)<5 by decide);have p1:0<=(1+(x.tdiv 3).tmod 5)*x.tdiv 16:=oc af iS;have p2:(1+(x.tdiv 3).tmod 5)*x.tdiv 16<=5*15:=sC af iS iS az;have a0:aU (kv w.v w.mask):=jm af af h2.1 h2.2;have a1:aU (kv (w.v+(1+(x.tdiv 3).tmod 5)*x.tdiv 16) (x.tmod 4)):=jm af af d1 af;have a2:aU (kv (w.v - x.tdiv 32) 0):=jm uA uA az az;have c1:=F_ (w.v+(1+(x.tdiv 3).tmod 5)*x.tdiv 16) (x.tmod 4) af;have c2:=F_ (w.v - x.tdiv 32) 0 uA;have j1:=CJ _ _ a0 a1 (by show _<w.v;omega) (by show w.v<_;omega) (by show _<w.v+_;omega) (by show w.v+_<_;omega);have b1:=(qH a0 a1).1;rcases(show x.tmod 3=0∨x.tmod 3=1∨x.tmod 3=2 by omega)with h|h|h;left;rw[ah (show ¬x.tmod 3>1 by omega),ah (show ¬x.tmod 3>0 by omega)];exact⟨h,rfl⟩;right;left;rw[ah (show ¬x.tmod 3>1 by omega),aq (show x.tmod 3>0 by omega)];exact⟨h,_,c1,j1⟩;right;right;rw[aq (show x.tmod 3>1 by omega),aq (show x.tmod 3>0 by omega)];have hle:=Yw (kv w.v w.mask) (kv (w.v+(1+(x.tdiv 3).tmod 5)*x.tdiv 16) (x.tmod 4)) (pd _) (pd _);have q1:(kv w.v w.mask).lo=w.v∧(kv w.v w.mask).hi=w.v:=⟨rfl,rfl⟩;have q2:(kv (w.v+(1+(x.tdiv 3).tmod 5)*x.tdiv 16) (x.tmod 4)).lo=w.v+(1+(x.tdiv 3).tmod 5)*x.tdiv 16∧(kv (w.v+(1+(x.tdiv 3).tmod 5)*x.tdiv 16) (x.tmod 4)).hi=w.v+(1+(x.tdiv 3).tmod 5)*x.tdiv 16:=⟨rfl,rfl⟩;refine⟨h,_,_,_,c1,j1,c2,CJ _ _ b1 a2 ?_ ?_ ?_ ?_⟩;omega;omega;show _<w.v - _;rw[e32];omega;show w.v - _<_;rw[e32];omega
def arK_cs(n:Ns)(ws:List Wd)(v p:Nat)(hn:n.b.length<2^63)(hv:v<ws.length)(hp:p<ws.length)(hl:ws.length<=2^20):∃x K,arK n ws v p=K∧(0<=x∧x<256)∧C 121 [r8 n.b,it (7*(v:Int)+p)] (it x)∧(0<=(x.tdiv 2).tmod 4∧(x.tdiv 2).tmod 4<4)∧((x.tmod 2=1∧K=ws[v].v - ws[p].v+(x.tdiv 2).tmod 4)∨(x.tmod 2≠1∧K=NG)):=by
 have cx:=xt n.b (7*(v:Int)+p) hn af;have hx:=kD n.b (7*(v:Int)+p);refine⟨qi n.b (7*(v:Int)+p),_,rfl,hx,cx,?_,?_⟩;have e2:(qi n.b (7*(v:Int)+p)).tdiv 2=qi n.b (7*(v:Int)+p) / 2:=gP hx.1;exact⟨dz 4 (by rw[e2];omega),fw _ az⟩;unfold arK;dsimp only;have e1:ws.getD v ⟨0,0⟩=ws[v]:=by simp[hv]
 have e2:ws.getD p ⟨0,0⟩=ws[p]:=by simp[hp]
 rw[e1,e2];by_cases h:(qi n.b (7*(v:Int)+p)).tmod 2=1;left;rw[aq h];exact⟨h,rfl⟩;right;rw[ah h];exact⟨h,rfl⟩
def arR_cs(n:Ns)(i:Nat)(hn:n.b.length<2^63)(hi:i<2^21):∃x R,arR n i=R∧(0<=x∧x<256)∧C 121 [r8 n.b,it (3*(i:Int)+1)] (it x)∧(0<=x.tmod 3∧x.tmod 3<3)∧((1+x.tmod 3=1∧R=⟨1+x.tmod 3,zR⟩)∨(1+x.tmod 3≠1∧∃A B J,C 68 [.agg [it (x.tdiv 8),it 0]] (ai A)∧C 68 [.agg [it (x.tdiv 16),it (x.tmod 4)]] (ai B)∧C 67 [ai A,ai B] (ai J)∧R=⟨1+x.tmod 3,J⟩)):=by have cx:=xt n.b (3*(i:Int)+1) hn af;have hx:=kD n.b (3*(i:Int)+1);refine⟨qi n.b (3*(i:Int)+1),_,rfl,hx,cx,?_,?_⟩;exact⟨dz 3 hx.1,fw _ az⟩;unfold arR;dsimp only;generalize qi n.b (3*(i:Int)+1)=x at hx ⊢;by_cases h:1+x.tmod 3=1;left;rw[aq h];exact⟨h,by rw[h]⟩;right;rw[ah h];have d1:=dz 4 hx.1;have d2:=fw x (show(0:Int)<4 by decide);have e8:x.tdiv 8=x / 8:=gP hx.1;have e16:x.tdiv 16=x / 16:=gP hx.1;have a1:aU (kv (x.tdiv 8) 0):=jm uw uw az az;have a2:aU (kv (x.tdiv 16) (x.tmod 4)):=jm iS iS d1 af;exact⟨h,_,_,_,F_ _ _ uw,F_ _ _ iS,CJ _ _ a1 a2 (by show _<x.tdiv 8;rw[e8];omega) (by show x.tdiv 8<_;rw[e8];omega) (by show _<x.tdiv 16;exact iS) (by show x.tdiv 16<_;exact iS),rfl⟩
def rQ(a b:List Rf)(k:Nat):List Rf:=a.take k++b.drop k
def M8{a b:List Rf}(h:a.length=b.length){k:Nat}(hk:k<=a.length):(rQ a b k).length=a.length:=by simp[rQ];omega
def Ya{a b:List Rf}(h:a.length=b.length){k:Nat}(hk:k<a.length):(rQ a b k).set k a[k]=rQ a b (k+1):=by
 unfold rQ;have hk2:k<b.length:=af
 have hl:(a.take k).length=k:=q_
 rw[A6 _ _ af,hl,lP,rF hk2,AW,jd hk,pP];rfl
def sv{G:Prop}(h:G:=by rw[h4.1];rfl):G:=h
def OX{G:Prop}(h:G:=by refine aN ?_;refine a_.at rfl (dX k) hx ?_;refine aN ?_;have pM:=aL (λx=>some (Row.mk 5 true x)) e;have Hx:=aL (λx:List au=>some (bxA (.ref 20004 x.length) (dF G0) (fj 6 aO R0) (ints A) 0 0 P)) e;exact tM hk1):G:=h
def VG{G:Prop}(h:G:=by refine aN ?_;refine a_.at rfl (dX i) hxi ?_;refine aN ?_;refine a_.at rfl (dX i) hxi ?_;refine aN ?_;have pM:=aL (λx:List au=>some (bxA (.sl 5 ((V.take ws.length).map ai) false) (.sl 1 ((G.take v).map ints) false) (.sl 6 x false) (ints A) 0 0 P)) e;exact tM hi1):G:=h
def Vl{G:Prop}(h:G:=by refine aN ?_;have pM:=aL (λx:List au=>some (au.ref 91 x.length)) e;have Hx:=aL (λx=>some (Row.mk 1 true x)) e;exact tM hp1):G:=h
def Vh{G:Prop}(h:G:=by have h:=newR_ok d.vars.toNat d.params.length (by omega) (by omega);rw[EF (by omega)]at h;rw[cZ];exact h):G:=h
def QR{d:Df}(hd:yG d)(n:Ns)(ws:List Wd)(hn:n.b.length<2^63)(hwl:ws.length=d.vars.toNat)(hw:∀w∈ws,(-(2^18)<w.v∧w.v<2^18)∧(0<=w.mask∧w.mask<=255))(hp:∀r∈d.params,-(2^20)<r.lo∧r.lo<=r.hi∧r.hi<2^20)(hg:∀r∈d.given,-(2^20)<r.lo∧r.lo<=r.hi∧r.hi<2^20)(hgn:d.given.length<=d.refs)(hpt:0<=d.part∧d.part<=15):C 52 [bQ d,fj 2 jH ws,SZ n] (bg (eM d n ws)):=by
 have hvs:=hd.vars;have hpn:=hd.pn;have hrs:=hd.refs;have hpv:=hd.pv;have hN:C 118 [it d.vars,it ((d.params.map bp).length:Nat)] (dF (fM d.vars.toNat d.params.length)):=Vh
 have c0:=Tt hd hp hg hgn hpt hN;rw[N2 _ rfl]at c0;rw[N2 _ rfl];have hwv0:ws.length<=2^20:=af
 have hVl:(eM d n ws).v.length=ws.length:=AD
 have hVg:∀k (h:k<ws.length),((eM d n ws).v[k]' af)=arV n ws[k] k:=λk h=>by simp[eM,h]
 have hGl:(eM d n ws).jh.length=ws.length:=AD
 have hGg:∀k (h:k<ws.length),((eM d n ws).jh[k]' af)=(List.range d.params.length).map (arK n ws k):=λk h=>AD
 have hRl:(eM d n ws).refs.length=(Ca d).length:=by rw[EP hgn];simp[eM]
 have hRg:∀k (h:k<(Ca d).length),((eM d n ws).refs[k]' af)=arR n k:=λk h=>AD
 have hrl2:(Ca d).length<=2^20:=by rw[EP hgn];omega
 have hA:(ku d).arr=(eM d n ws).arr:=rfl;have k2:=xt n.b 2 hn af;have k5:=xt n.b 5 hn af;have k6:=xt n.b 6 hn af;have hMay:(eM d n ws).may=bz (qi n.b 2) 7:=rfl;have hMust:(eM d n ws).ew=bz (bz (qi n.b 2) 7) (qi n.b 5):=rfl;have hPts:(eM d n ws).parts=iD (ku d).parts (bz (qi n.b 6) 7):=rfl;rw[hMay,hMust,hPts];rw[hA]at c0;have c1:∃V0 G0,C 120 [bQ d,it 2] (bxA (fj 5 ai V0) (dF G0) (fj 6 aO (Ca d)) (ints (eM d n ws).arr) 0 0 (ku d).parts):=⟨_,_,c0⟩;clear c0 hMay hMust hPts hA;generalize (eM d n ws).arr=A at c1 ⊢;have hPe:(ku d).parts=iD 1 (lZ d):=rfl;have hPb:0<=(ku d).parts∧(ku d).parts<2^16:=by have pb:=ES hpt;rw[hPe];omega
 clear hPe;generalize (ku d).parts=P at c1 hPb ⊢;have hV:∃V,V=(eM d n ws).v∧V.length=ws.length∧∀k (h:k<ws.length) (h2:k<V.length),V[k]=arV n ws[k] k:=⟨_,rfl,hVl,λk h _=>hVg k h⟩;have hG:∃G,G=(eM d n ws).jh∧G.length=ws.length∧∀k (h:k<ws.length) (h2:k<G.length),G[k]=(List.range d.params.length).map (arK n ws k):=⟨_,rfl,hGl,λk h _=>hGg k h⟩;have hR:∃R,R=(eM d n ws).refs∧R.length=(Ca d).length∧∀k (h2:k<R.length),R[k]=arR n k:=⟨_,rfl,hRl,λk h=>hRg k af⟩;clear hVl hVg hGl hGg hRl hRg;obtain⟨V,hVe,hVl,hVg⟩:=hV;obtain⟨G,YT,hGl,hGg⟩:=hG;obtain⟨R,hRe,hRl,hRg⟩:=hR;rw[<-hVe,<-YT,<-hRe];clear hVe YT hRe;generalize Ca d=R0 at hRl hrl2 c1;have n2:=kD n.b 2;have n5:=kD n.b 5;have n6:=kD n.b 6;generalize qi n.b 2=x2 at k2 n2 ⊢;generalize qi n.b 5=x5 at k5 n5 ⊢;generalize qi n.b 6=x6 at k6 n6 ⊢;refine c1.elim λV0 c1=>c1.elim λG0 c1=> ?_;refine eg hm Tryz.func52 (λ_=>false) [] (λn=>bif Nat.beq n 14 then[.aR 7 1]else bif Nat.beq n 27 then[.lay 14]else bif Nat.beq n 28 then[.lay 12]else bif Nat.beq n 31 then[.aR 7 3]else[]) aB ?_;have y2:=nS x2 7;have y5:=nS (bz x2 7) x5;have y6:=nS x6 7;have y7:=Bq P (bz x6 7);have v2:=iP (a:=x2) (b:=7) (n:=8) af az az;have v5:=iP (a:=bz x2 7) (b:=x5) (n:=8) af n5.1 af;have v6:=iP (a:=x6) (b:=7) (n:=16) af az az;have v7:=rO (a:=P) (b:=bz x6 7) (n:=16) af hPb.1 hPb.2 v6.1 v6.2;refine aN ?_;refine bB.mk ⟨[.cell 7 1 20004],aZ.np ws.length (λ_=>True) (λk=>⟨[(8,it k)],[(7,bxA (.ref 20004 ((V.take k).map ai).length) (dF G0) (fj 6 aO R0) (ints A) 0 0 P)],[(20004,⟨5,true,(V.take k).map ai⟩)]⟩) trivial ?_⟩;intro k hk hJ;have hlk:((V.take k).map ai).length=k:=uj
 by_cases hk1:k<ws.length;have b1:decide ((k:Int)<((ws.map jH).length:Nat))=true:=aA
 have hkv:k<V.length:=af
 have hwk:=hw _ (cU hk1);have h3:∃(a b x:Int) (A0 AR:Av),nth (ws.map jH) ((k:Int)).toNat=some (.agg [it a,it b])∧(V.take k).map ai++[ai AR]=(V.take (k+1)).map ai∧((-(2^18)<a∧a<2^18)∧(0<=b∧b<=255))∧(0<=x∧x<256)∧C 121 [r8 n.b,it (k:Int)] (it x)∧C 68 [.agg [it a,it b]] (ai A0)∧
  ((x.tmod 3=0∧A0=AR)∨
   (x.tmod 3=1∧∃A1,C 68 [.agg [it (a+(1+(x.tdiv 3).tmod 5)*x.tdiv 16),it (x.tmod 4)]] (ai A1)∧C 67 [ai A0,ai A1] (ai AR))∨
   (x.tmod 3=2∧∃A1 A2 B1,C 68 [.agg [it (a+(1+(x.tdiv 3).tmod 5)*x.tdiv 16),it (x.tmod 4)]] (ai A1)∧C 67 [ai A0,ai A1] (ai B1)∧C 68 [.agg [it (a - x.tdiv 32),it 0]] (ai A2)∧C 67 [ai B1,ai A2] (ai AR))):=by
  obtain⟨x,A0,AR,e,h1,h2,h3,h4⟩:=arV_cs n ws[k] k hn af hwk.1 hwk.2;refine⟨_,_,x,A0,AR,by rw[bW,lQ,fq hk1];rfl,?_,hwk,h1,h2,h3,h4⟩;rw[jd hkv,eI,hVg k hk1 hkv,e];rfl
 refine h3.elim λa h3=>h3.elim λb h3=>h3.elim λx h3=>h3.elim λA0 h3=>h3.elim λAR h3=> ?_;have hx:=h3.1;have e:=h3.2.1;have hab:=h3.2.2.1;have hxb:=h3.2.2.2.1;have cx:=h3.2.2.2.2.1;have cA:=h3.2.2.2.2.2.1;have d1:=dz 4 hxb.1;have d2:=fw x (show(0:Int)<4 by decide);have e3:x.tdiv 3=x / 3:=gP hxb.1;have e16:x.tdiv 16=x / 16:=gP hxb.1;have e32:x.tdiv 32=x / 32:=gP hxb.1;have w3:IntKind.i64.wrap (x.tdiv 3)=x.tdiv 3:=wrap_i64 (by rw[e3];omega) (by rw[e3];omega);have w16:IntKind.i64.wrap (x.tdiv 16)=x.tdiv 16:=wrap_i64 iS iS;have Ah:IntKind.i64.wrap (x.tdiv 32)=x.tdiv 32:=wrap_i64 uA uA;have m1:0<=(IntKind.i64.wrap (x.tdiv 3)).tmod 5:=dz 5 (show 0<=IntKind.i64.wrap (x.tdiv 3) by rw[w3,e3];omega);have m2:=fw (IntKind.i64.wrap (x.tdiv 3)) (show(0:Int)<5 by decide);have p1:0<=(1+(IntKind.i64.wrap (x.tdiv 3)).tmod 5)*IntKind.i64.wrap (x.tdiv 16):=oc af (by rw[w16,e16];omega);have p2:(1+(IntKind.i64.wrap (x.tdiv 3)).tmod 5)*IntKind.i64.wrap (x.tdiv 16)<=5*15:=sC af (by rw[w16,e16];omega) (by rw[w16,e16];omega) az;have q32:0<=IntKind.i64.wrap (x.tdiv 32)∧IntKind.i64.wrap (x.tdiv 32)<8:=by rw[Ah,e32];omega
 clear e3 e16 e32;refine h3.2.2.2.2.2.2.elim (λh4=> ?_) (λh4=>h4.elim (λh4=> ?_) (λh4=> ?_));have b2:decide (x.tmod 3>0)=false:=sv;have b3:decide (x.tmod 3>1)=false:=sv
 have cB:C 68 [.agg [it a,it b]] (ai AR):=h4.2▸cA;exact OX;have b2:decide (x.tmod 3>0)=true:=sv;have b3:decide (x.tmod 3>1)=false:=sv
 refine h4.2.elim λA1 h5=> ?_;have c2:C 68 [.agg [it (a+(1+(IntKind.i64.wrap (x.tdiv 3)).tmod 5)*IntKind.i64.wrap (x.tdiv 16)),it (x.tmod 4)]] (ai A1):=by rw[w3,w16];exact h5.1
 have c3:=h5.2;refine aN ?_;refine a_.at rfl (dX k) hx ?_;exact OX;have b2:decide (x.tmod 3>0)=true:=sv;have b3:decide (x.tmod 3>1)=true:=sv
 refine h4.2.elim λA1 h5=>h5.elim λA2 h5=>h5.elim λB1 h5=> ?_;have c2:C 68 [.agg [it (a+(1+(IntKind.i64.wrap (x.tdiv 3)).tmod 5)*IntKind.i64.wrap (x.tdiv 16)),it (x.tmod 4)]] (ai A1):=by rw[w3,w16];exact h5.1
 have c3:=h5.2.1;have c4:C 68 [.agg [it (a - IntKind.i64.wrap (x.tdiv 32)),it 0]] (ai A2):=by rw[Ah];exact h5.2.2.1
 have c5:=h5.2.2.2;refine aN ?_;refine a_.at rfl (dX k) hx ?_;refine aN ?_;refine a_.at rfl (dX k) hx ?_;exact OX;have b1:decide ((k:Int)<((ws.map jH).length:Nat))=false:=aA
 have hkk:k=ws.length:=af
 subst hkk;have eV:(V.take ws.length).map ai=V.map ai:=za
 have hgl:∀v,v<=ws.length->((G.take v).map ints).length=v:=λv h=>uj
 refine run ?_;refine bB.mk ⟨[],aZ.np ws.length (λ_=>True) (λv=>⟨[(13,it v),(12,.ref 84 ((G.take v).map ints).length)],[],[(84,⟨1,true,(G.take v).map ints⟩)]⟩) trivial ?_⟩;intro v hv0 hJ2;have hlv:=hgl v hv0;by_cases hv1:v<ws.length;have b2:decide ((v:Int)<((ws.map jH).length:Nat))=true:=aA
 have hgv:v<G.length:=af
 have hrow:∃row:List Int,row=(List.range d.params.length).map (arK n ws v)∧row.length=d.params.length∧∀p (h:p<row.length),row[p]=arK n ws v p:=⟨_,rfl,ag,λp h=>ag⟩;refine hrow.elim λrow hrow=> ?_;have hnext:(G.take v).map ints++[ints row]=(G.take (v+1)).map ints:=by rw[jd hgv,eI,hGg v hv1 hgv,<-hrow.1];rfl
 have hrl:=hrow.2.1;have hrg:=hrow.2.2;have hxv:nth (ws.map jH) ((v:Int)).toNat=some (.agg [it ws[v].v,it ws[v].mask]):=by rw[bW,lQ,fq hv1];rfl
 have hwv:=hw _ (cU hv1);have hh:∃wv mv,nth (ws.map jH) ((v:Int)).toNat=some (.agg [it wv,it mv])∧ws[v].v=wv∧-(2^18)<wv∧wv<2^18:=⟨_,_,hxv,rfl,hwv.1⟩;clear hrow hxv hwv;refine hh.elim λwv hh=>hh.elim λmv hh=> ?_;have hxv:=hh.1;have hwv:=hh.2.1;have hwb:=hh.2.2;have hpl:∀p,p<=d.params.length->((row.take p).map it).length=p:=λp h=>uj
 refine run ?_;refine bB.mk ⟨[],aZ.np d.params.length (λ_=>True) (λp=>⟨[(15,it p),(14,.ref 91 ((row.take p).map it).length)],[],[(91,⟨1,true,(row.take p).map it⟩)]⟩) trivial ?_⟩;intro p hp0 hJ3;have hlp:=hpl p hp0;by_cases hp1:p<d.params.length;have b3:decide ((p:Int)<((d.params.map bp).length:Nat))=true:=aA;have hpw:p<ws.length:=af
 have hwp:=hw _ (cU hpw);have hpr:p<row.length:=af
 have hs:∃(wp mp x K:Int),nth (ws.map jH) ((p:Int)).toNat=some (.agg [it wp,it mp])∧(-(2^18)<wp∧wp<2^18)∧(0<=x∧x<256)∧C 121 [r8 n.b,it (7*(v:Int)+p)] (it x)∧(0<=(IntKind.i64.wrap (x.tdiv 2)).tmod 4∧(IntKind.i64.wrap (x.tdiv 2)).tmod 4<4)∧(row.take p).map it++[it K]=(row.take (p+1)).map it∧
  ((x.tmod 2==1)=true∧K=wv - wp+(IntKind.i64.wrap (x.tdiv 2)).tmod 4∨(x.tmod 2==1)=false∧K=NG):=by
  obtain⟨x,K,e,h1,h2,h3,h4⟩:=arK_cs n ws v p hn hv1 hpw hwv0;have e2:x.tdiv 2=x / 2:=gP h1.1;have w2:IntKind.i64.wrap (x.tdiv 2)=x.tdiv 2:=wrap_i64 (by rw[e2];omega) (by rw[e2];omega);rw[hwv]at h4;refine⟨ws[p].v,ws[p].mask,x,K,by rw[bW,lQ,fq hpw];rfl,hwp.1,h1,h2,by rw[w2];exact h3,?_,?_⟩;rw[jd hpr,eI,hrg p hpr,e];rfl;rw[w2];exact h4.imp (λh=>⟨by simpa using h.1,h.2⟩) (λh=>⟨by simpa using h.1,h.2⟩)
 refine hs.elim λwp hs=>hs.elim λmp hs=>hs.elim λx hs=>hs.elim λK hs=> ?_;have hxp:=hs.1;have hwpb:=hs.2.1;have hxb:=hs.2.2.1;have cx:=hs.2.2.2.1;have hm4:=hs.2.2.2.2.1;have e:=hs.2.2.2.2.2.1;refine hs.2.2.2.2.2.2.elim (λh4=> ?_) (λh4=> ?_);have b4:=h4.1;have e:(row.take p).map it++[it (wv - wp+(IntKind.i64.wrap (x.tdiv 2)).tmod 4)]=(row.take (p+1)).map it:=by rw[<-h4.2];exact e
 refine aN ?_;refine a_.at rfl (dX v) hxv ?_;refine aN ?_;refine a_.at rfl (dX p) hxp ?_;exact Vl;have b4:=h4.1;have e:(row.take p).map it++[it NG]=(row.take (p+1)).map it:=by rw[<-h4.2];exact e
 exact Vl;have b3:decide ((p:Int)<((d.params.map bp).length:Nat))=false:=aA;have hr2:((row.take p).map it)=row.map it:=za
 have hn2:(G.take v).map ints++[au.sl 1 ((row.take p).map it) false]=(G.take (v+1)).map ints:=(by rw[hr2];exact hnext);refine run ?_;have pM:=aL (λx:List au=>some (au.ref 84 x.length)) hn2;have Hx:=aL (λx=>some (Row.mk 1 true x)) hn2;exact tM hv1;have b2:decide ((v:Int)<((ws.map jH).length:Nat))=false:=aA
 have eG:(G.take v).map ints=G.map ints:=za
 refine run ?_;refine bB.mk ⟨[],aZ.np R0.length (λ_=>True) (λi=>⟨[(18,it i)],[(7,bxA (.sl 5 ((V.take ws.length).map ai) false) (.sl 1 ((G.take v).map ints) false) (fj 6 aO (rQ R R0 i)) (ints A) 0 0 P)],[]⟩) trivial ?_⟩;intro i hi0 hJ4;have hml:i<=R0.length->((rQ R R0 i).map aO).length=R0.length:=λh=>by rw[cZ,M8 hRl af];exact hRl
 by_cases hi1:i<R0.length;have hml:=hml hi0;have b3:decide ((i:Int)<(((rQ R R0 i).map aO).length:Nat))=true:=by rw[hml];simp;exact hi1
 have hir:i<R.length:=af
 have hs:∃(x:Int) (Rr:Rf),(0<=x∧x<256)∧C 121 [r8 n.b,it (3*(i:Int)+1)] (it x)∧(0<=x.tmod 3∧x.tmod 3<3)∧((rQ R R0 i).map aO).set i (aO Rr)=(rQ R R0 (i+1)).map aO∧
  ((1+x.tmod 3=1∧Rr=⟨1+x.tmod 3,zR⟩)∨
   (1+x.tmod 3≠1∧∃A B J,C 68 [.agg [it (IntKind.i64.wrap (x.tdiv 8)),it 0]] (ai A)∧C 68 [.agg [it (IntKind.i64.wrap (x.tdiv 16)),it (x.tmod 4)]] (ai B)∧C 67 [ai A,ai B] (ai J)∧Rr=⟨1+x.tmod 3,J⟩)):=by
  obtain⟨x,Rr,e,h1,h2,h3,h4⟩:=arR_cs n i hn af;have e8:x.tdiv 8=x / 8:=gP h1.1;have e16:x.tdiv 16=x / 16:=gP h1.1;have w8:IntKind.i64.wrap (x.tdiv 8)=x.tdiv 8:=wrap_i64 uw uw;have w16:IntKind.i64.wrap (x.tdiv 16)=x.tdiv 16:=wrap_i64 iS iS;refine⟨x,Rr,h1,h2,h3,?_,by rw[w8,w16];exact h4⟩;rw[<-Ya hRl hir,jL,hRg i hir,e]
 refine hs.elim λx hs=>hs.elim λRr hs=> ?_;have hxb:=hs.1;have cx:=hs.2.1;have hm3:=hs.2.2.1;have e:=hs.2.2.2.1;have cz:=Ao;have hml2:(rQ R R0 i).length=R0.length:=by rw[M8 hRl af];exact hRl
 have hrl3:(rQ R R0 i).length<=4294967296:=af
 have hxi:∃X,nth ((rQ R R0 i).map aO) ((i:Nat):Int).toNat=some (aO X):=⟨(rQ R R0 i)[i]' af,by rw[bW,lQ,fq af];rfl⟩;refine hxi.elim λX hxi=> ?_;have hi5:((i:Nat):Int).toNat<((rQ R R0 i).map aO).length:=af
 refine hs.2.2.2.2.elim (λh4=> ?_) (λh4=> ?_);have b4:(1+x.tmod 3 !=1)=false:=sv;have b5:(!(1+x.tmod 3==1))=false:=sv
 have e:((rQ R R0 i).map aO).set i (aO ⟨1+x.tmod 3,zR⟩)=(rQ R R0 (i+1)).map aO:=(by rw[<-h4.2];exact e);exact VG;have b4:(1+x.tmod 3 !=1)=true:=(by simpa using h4.1);have b5:(!(1+x.tmod 3==1))=true:=by simpa using h4.1
 refine h4.2.elim λA1 h5=>h5.elim λB1 h5=>h5.elim λJ1 h5=> ?_;have c1:=h5.1;have c2:=h5.2.1;have c3:=h5.2.2.1;have e:((rQ R R0 i).map aO).set i (aO ⟨1+x.tmod 3,J1⟩)=(rQ R R0 (i+1)).map aO:=by rw[<-h5.2.2.2];exact e
 exact VG;have b3:decide ((i:Int)<(((rQ R R0 i).map aO).length:Nat))=false:=by rw[hml hi0];exact aA
 have eR:(rQ R R0 i).map aO=R.map aO:=by
  have hi6:i=R0.length:=af
  subst hi6;unfold rQ;rw[List.drop_length,jM,og af]
 have eA:bxA (.sl 5 ((V.take ws.length).map ai) false) (.sl 1 ((G.take v).map ints) false) (.sl 6 ((rQ R R0 i).map aO) false) (ints A) (bz (bz x2 7) x5) (bz x2 7) (iD P (bz x6 7))=bxA (fj 5 ai V) (dF G) (fj 6 aO R) (ints A) (bz (bz x2 7) x5) (bz x2 7) (iD P (bz x6 7)):=by rw[eV,eG,eR];rfl
 refine aN ?_;exact fu.mk eA rfl
def hCopy:Nat->List Ad:=λn=>bif Nat.beq n 40019 then[.lay 0]else[]
def Xs(g:mY)(hl:g.length<=2^30)(hi:∀xs∈g,xs.length<=2^30):aj Tryz.prog 185 [dF g] fZ (.cQ 1000 g.length) ⟨[],[TM g]⟩:=by
 refine eg hm Tryz.func185 (λ_=>false) [true] hCopy aB ?_;refine run ?_;refine bB.mk ⟨[.nest 3 20003],kE.mk ⟨rfl,λe he=>by cases he⟩ (aZ.nat (g.length) (λ_=>True) (λk=>⟨[(4,it k),(3,.cQ 20003 k)],[],[(20003,⟨0,true,(g.take k).map bV⟩)]⟩) trivial ?_ ?_ ?_ ?_ ?_)⟩;exact vH;exact aB;exact aB;intro k;exact s9;intro k hk hJ;by_cases hk1:k<g.length
 ·have b1:decide ((k:Int)<((g.map ints).length:Nat))=true:=by exact gw
  have hx:=hi _ (cU hk1);have hln:((g.take k).map bV).length=k:=aA
  have e0:(g.take k).map bV++[bV g[k]]=(g.take (k+1)).map bV:=JH
  refine run ?_;refine a_.map hk1 rfl ?_;refine run ?_;refine nxr hk1 ?_;repeat' (first|exact trivial|exact rfl|exact aL (λx=>some (Row.mk 0 true x)) e0|exact aL (λn=>some (au.cQ 20003 n)) (by rw[hln])|refine⟨?_,?_⟩|refine⟨?_,?_,?_⟩)
 have b1:decide ((k:Int)<((g.map ints).length:Nat))=false:=aA
 have hkk:k=g.length:=af
 subst hkk;have e:(g.take g.length).map bV=g.map bV:=ag
 have hln:((g.take g.length).map bV).length=g.length:=ag
 refine run ?_;exact fu.mk rfl (aL (λx=>Ct.mk [] [Row.mk 0 true x]) e)
theorem Xi(g h:mY)(hl:g.length<=2^30)(hi:∀xs∈g,xs.length<=2^30)(hs:g.length=h.length)(hh:∀v (h1:v<g.length) (h2:v<h.length),g[v].length=h[v].length):aj Tryz.prog 117 [dF g,dF h] fZ (dF (pF g h)) fZ:=by
 have hc:=Xs g hl hi;refine eg hm Tryz.func117 (λ_=>false) [] (λn=>bif Nat.beq n 9 then[.Gy 5]else[]) aB ?_;refine aN ?_;have e00:g.map bV=(aV eX g h 0).map bV:=Aw
 have pM:=aL (λx=>some (Row.mk 0 true x)) e00;refine bB.mk ⟨[],aZ.np (g.length) (λ_=>True) (λv=>⟨[(6,it v)],[],[(5090,⟨0,true,(aV eX g h v).map bV⟩)]⟩) trivial ?_⟩;intro v hv hJ;by_cases hv1:v<g.length
 ·have b1:decide ((v:Int)<((g.map ints).length:Nat))=true:=by simp;exact hv1
  have hv2:v<h.length:=hs▸hv1;have hlv:g[v].length=h[v].length:=hh v hv1 hv2;have hX:(aV eX g h v).length=g.length:=kH hs;have e01:(aV eX g h v).map bV=((aV eX g h v).set v (aV mx g[v] h[v] 0)).map bV:=by rw[wL];congr 1;apply uH;intro j;by_cases hj:j=v;subst hj;rw[zi Ee,CE hs hv1];rw[uJ (gx hj)]
  refine run ?_;have pM:=aL (λx=>some (Row.mk 0 true x)) e01;refine bB.mk ⟨[],aZ.np (g[v].length) (λ_=>True) (λp=>⟨[(7,it p)],[],[(5090,⟨0,true,((aV eX g h v).set v (aV mx g[v] h[v] p)).map bV⟩)]⟩) trivial ?_⟩;intro p hp hJ2;by_cases hp1:p<g[v].length
  ·have b2:decide ((p:Int)<((g[v].map it).length:Nat))=true:=(by simp;exact hp1);have hp2:p<h[v].length:=hlv▸hp1;have hM:(aV mx g[v] h[v] p).length=g[v].length:=kH hlv;have hown:nth (((aV eX g h v).set v (aV mx g[v] h[v] p)).map bV) v=some (bV (aV mx g[v] h[v] p)):=by rw[bW,aI,zi Ee];rfl
   have hlen:(((aV eX g h v).set v (aV mx g[v] h[v] p)).map bV).length=g.length:=(by simp[hX]);have hown' :nth (((aV eX g h v).set v (aV mx g[v] h[v] p)).map bV) ((v:Int)).toNat=some (.own ((aV mx g[v] h[v] p).map it)):=hown;have hat:nth ((aV mx g[v] h[v] p).map it) ((p:Int)).toNat=some (it g[v][p]):=by rw[show((p:Int)).toNat=p from rfl,bW,aI,CE hlv hp1];rfl
   have hlx:=hi _ (cU hv1);have hml:((aV mx g[v] h[v] p).map it).length=g[v].length:=by simp[hM]
   refine run ?_;refine a_.map hv1 rfl ?_;refine run ?_
   repeat((first
    |refine a_.at hlen.symm af hown ?_|refine a_.map hv1 rfl ?_|refine a_.map hv2 rfl ?_|refine a_.map hp1 rfl ?_|refine a_.map hp2 rfl ?_|refine Hs.mk ⟨_,hown',?_⟩);refine run ?_)
   have e02:(((aV eX g h v).set v (aV mx g[v] h[v] p)).map bV).set v (.own (((aV mx g[v] h[v] p).map it).set p (it (mx g[v][p] h[v][p]))))=((aV eX g h v).set v (aV mx g[v] h[v] (p+1))).map bV:=zby1_;exact Ce
  have b2:decide ((p:Int)<((g[v].map it).length:Nat))=false:=aA;have hpp:p=g[v].length:=af
  subst hpp;have e03:((aV eX g h v).set v (aV mx g[v] h[v] g[v].length)).map bV=(aV eX g h (v+1)).map bV:=by rw[vr hlv,<-vp hs hv1];rfl
  refine run ?_;refine a_.map hv1 rfl ?_;refine run ?_;have pM:=aL (λx=>some (Row.mk 0 true x)) e03;exact tM hv1
 have b1:decide ((v:Int)<((g.map ints).length:Nat))=false:=aA
 have hvv:v=g.length:=af
 subst hvv;have hX:((aV eX g h g.length).map bV).length=g.length:=by simp[kH hs]
 have e:((aV eX g h g.length).map bV).map f_=(pF g h).map ints:=by rw[vr hs,AN];rfl
 exact RP
def Zd{d:Df}{f:Fa}(hd:yG d)(hf:qO d f)(level:Int):C 51 [bQ d,it level,bg f] (bg (pI d level f)):=by
 have hvs:=hd.vars;have hpn:=hd.pn;have hrs:=hd.refs;have b0:f.dead=false:=hf.live;refine(dw (decide (level>=2))).elim (λb1=> ?_) (λb1=> ?_);have e:pI d level f=f:=by unfold pI;rw[b1,Bool.or_true];rfl
 rw[e];exact I7 d f level (tf b1);have hN:C 118 [it d.vars,it ((d.params.map bp).length:Nat)] (dF (fM d.vars.toNat d.params.length)):=Vh
 have hgo:=ET d.vars.toNat d.params.length;have hG:=Xi f.jh (fM d.vars.toNat d.params.length) (by rw[hf.jh.len];omega) (GW hf.jh af) (by rw[hf.jh.len,hgo.len]) (λv h1 h2=>Wr);have hvl:f.v.length<=1048576:=by rw[hf.v];omega
 have hrl:f.refs.length<=1048576:=by rw[hf.refs];omega
 refine(dw (decide (level>=1))).elim (λb2=> ?_) (λb2=> ?_);have e:pI d level f={f with jh:=pF f.jh (fM d.vars.toNat d.params.length)}:=by unfold pI;rw[b0,b1,b2];rfl
 rw[e];generalize fM d.vars.toNat d.params.length=N at hN hG ⊢;generalize pF f.jh N=G at hG ⊢;clear hf hgo e;refine fo Tryz.func51 ?_;exact aW;have e:pI d level f={f with jh:=pF f.jh (fM d.vars.toNat d.params.length),v:=f.v.map dU,refs:=f.refs.map λr=>⟨r.s,dU r.a⟩}:=by unfold pI;rw[b0,b1,b2];rfl
 rw[e];generalize fM d.vars.toNat d.params.length=N at hN hG ⊢;generalize pF f.jh N=G at hG ⊢;have hV:∃V,V=f.v.map dU∧V.length=f.v.length∧∀k (h:k<f.v.length) (h2:k<V.length),V[k]=dU f.v[k]:=⟨_,rfl,ag,λk h h2=>ag⟩;have hR:∃R,R=f.refs.map (λr=>(⟨r.s,dU r.a⟩:Rf))∧R.length=f.refs.length∧∀k (h:k<f.refs.length) (h2:k<R.length),R[k]=⟨f.refs[k].s,dU f.refs[k].a⟩:=⟨_,rfl,ag,λk h h2=>ag⟩;obtain⟨V,hVe,hVl,hVg⟩:=hV;obtain⟨R,hRe,hRl,hRg⟩:=hR;rw[<-hVe,<-hRe];clear hf hgo e hVe hRe;refine fo Tryz.func51 ?_;refine aN ?_;refine bB.mk ⟨[],aZ.np f.v.length (λ_=>True) (λk=>⟨[(9,it k),(7,.ref 31 ((V.take k).map ai).length)],[],[(31,⟨5,true,(V.take k).map ai⟩)]⟩) trivial ?_⟩;intro k hk hJ;have hlk:((V.take k).map ai).length=k:=uj
 by_cases hk1:k<f.v.length;have b3:decide ((k:Int)<((f.v.map ai).length:Nat))=true:=gw;have hkv:k<V.length:=af
 have e:((V.take k).map ai)++[ai (dU f.v[k])]=(V.take (k+1)).map ai:=(by rw[jd hkv,eI,hVg k hk1 hkv];rfl);have c:=NQ f.v[k];refine aN ?_;refine a_.map hk1 rfl ?_;refine aN ?_;have pM:=aL (λx=>some (Row.mk 5 true x)) e;have Hx:=aL (λx:List au=>some (au.ref 31 x.length)) e;exact tM hk1;have b3:decide ((k:Int)<((f.v.map ai).length:Nat))=false:=aA
 have eV:(V.take k).map ai=V.map ai:=za
 refine run ?_;refine bB.mk ⟨[],aZ.np f.refs.length (λ_=>True) (λj=>⟨[(10,it j),(8,.ref 32 ((R.take j).map aO).length)],[],[(32,⟨6,true,(R.take j).map aO⟩)]⟩) trivial ?_⟩;intro j hj hJ2;have hlj:((R.take j).map aO).length=j:=uj
 by_cases hj1:j<f.refs.length;have b4:decide ((j:Int)<((f.refs.map aO).length:Nat))=true:=(by simp;exact hj1);have hjr:j<R.length:=af
 have e:((R.take j).map aO)++[aO ⟨f.refs[j].s,dU f.refs[j].a⟩]=(R.take (j+1)).map aO:=(by rw[jd hjr,eI,hRg j hj1 hjr];rfl);have c:=NQ f.refs[j].a;refine aN ?_;refine a_.map hj1 rfl ?_;refine aN ?_;refine a_.map hj1 rfl ?_;refine aN ?_;have pM:=aL (λx=>some (Row.mk 6 true x)) e;have Hx:=aL (λx:List au=>some (au.ref 32 x.length)) e;exact tM hj1;have b4:decide ((j:Int)<((f.refs.map aO).length:Nat))=false:=aA
 have eR:(R.take j).map aO=R.map aO:=za
 have eA:au.agg [bo f.dead,.sl 5 ((V.take k).map ai) false,dF G,.sl 6 ((R.take j).map aO) false,ints f.arr,it f.ew,it f.may,it f.parts]=bg {f with jh:=G,v:=V,refs:=R}:=by rw[eV,eR];rfl
 refine run ?_;exact fu.mk eA rfl
def Pw{G:Prop}(h:G:=by rw[kV,h2];rw[show j=3 by omega]at q2;exact q2):G:=h
def VN{G:Prop}(h:G:=by have hb:(IntKind.u16.wrap (((BitVec.ofInt IntKind.u16.bits (n.h.fdiv (2^min (IntKind.u64.wrap ((3*(k:Int)+(j:Int)).tmod 16)).toNat IntKind.u16.bits))&&&BitVec.ofInt IntKind.u16.bits 1).toNat:Nat):Int)==1)=true:=d3;have e:Dh n.h k qs j=Ti qs ⟨k,j,0⟩:=aq (by rw[d2,d3];rfl);refine run ?_;refine a_.at rfl (dX _) rfl ?_;refine run ?_;refine Arith.mk ?_;refine run ?_;refine Arith.mk ?_;refine aN ?_;refine⟨⟨.Qy (j+1) (Ti qs ⟨k,j,0⟩),⟨g3,hst.trans e⟩⟩,ik g3 (gh _),?_⟩;exact vH):G:=h
def VM{G:Prop}(h:G:=by have hb:(IntKind.u16.wrap (((BitVec.ofInt IntKind.u16.bits (n.h.fdiv (2^min (IntKind.u64.wrap ((3*(k:Int)+(j:Int)).tmod 16)).toNat IntKind.u16.bits))&&&BitVec.ofInt IntKind.u16.bits 1).toNat:Nat):Int)==1)=false:=d3;have e:Dh n.h k qs j=qs:=ah (by rw[d2,d3];simp);refine run ?_;refine a_.at rfl (dX _) rfl ?_;refine run ?_;refine Arith.mk ?_;refine run ?_;refine Arith.mk ?_;refine aN ?_;refine⟨⟨.Qy (j+1) qs,⟨g3,hst.trans e⟩⟩,ik g3 (gh _),?_⟩;exact vH):G:=h
def VJ{G:Prop}(h:G:=by refine run ?_;exact fu.mk (aL (λx=>au.agg [it id,it x1,it x2,it x3,it x4,it (n.b.tmod 4),it (IntKind.i64.wrap (n.d.tmod 8*2^min (1:Int).toNat IntKind.i64.bits)),it (((BitVec.ofInt IntKind.i64.bits n.e&&&BitVec.ofInt IntKind.i64.bits 7).toNat:Nat):Int),it (((BitVec.ofInt IntKind.i64.bits n.f&&&BitVec.ofInt IntKind.i64.bits 7).toNat:Nat):Int),fj 3 bF x,it n.g]) e) rfl):G:=h
def Vu{G:Prop}(h:G:=by have e:Dh n.h k qs j=qs:=ah (by rw[d2];simp);refine run ?_;refine⟨⟨.Qy (j+1) qs,⟨g3,hst.trans e⟩⟩,ik g3 (gh _),?_⟩;exact vH):G:=h
def JL{G:Prop}(h:G:=by exact PJ.both (λk=>⟨rfl,rfl,rfl⟩) (λk a=>⟨rfl,rfl,rfl⟩)):G:=h
def RT{G:Prop}(h:G:=by refine run ?_;refine⟨⟨.Qy (k+1) qs,⟨hk,e⟩⟩,ik hk (gh _),?_⟩;exact vH):G:=h
def RM{G:Prop}(h:G:=by refine⟨⟨.raw (j+1),⟨g3,hst.trans e⟩⟩,ik g3 (gh _),?_⟩;exact vH):G:=h
def u16(n:Int):au:= .int .u16 n
structure N8 where
 a:Int
 b:Int
 c:Int
 d:Int
 e:Int
 f:Int
 g:Int
 h:Int
def S3(n:N8):au:= .agg [u16 n.a,u16 n.b,u16 n.c,u16 n.d,u16 n.e,u16 n.f,u16 n.g,u16 n.h]
structure N8Ok(n:N8):Prop where
 a:0<=n.a∧n.a<65536
 b:0<=n.b∧n.b<65536
 c:0<=n.c∧n.c<65536
 d:0<=n.d∧n.d<65536
 e:0<=n.e∧n.e<65536
 f:0<=n.f∧n.f<65536
 g:0<=n.g∧n.g<65536
 h:0<=n.h∧n.h<65536
def and7(x:Int):(((BitVec.ofInt IntKind.i64.bits x&&&BitVec.ofInt IntKind.i64.bits 7).toNat:Nat):Int)<=7∧0<=(((BitVec.ofInt IntKind.i64.bits x&&&BitVec.ofInt IntKind.i64.bits 7).toNat:Nat):Int):=by
 refine⟨?_,dX _⟩;have h:(BitVec.ofInt IntKind.i64.bits x&&&BitVec.ofInt IntKind.i64.bits 7).toNat<=(BitVec.ofInt IntKind.i64.bits 7).toNat:=by rw[Et];exact J4
 have h2:(BitVec.ofInt IntKind.i64.bits 7).toNat=7:=az
 omega
def PN(x:Int):0<=IntKind.u64.wrap x:=by simp[IntKind.wrap,IntKind.bits,IntKind.signed];omega
def bitP(h:Int)(k j:Nat):Bool:=IntKind.u16.wrap (((BitVec.ofInt IntKind.u16.bits (h.fdiv (2^min (IntKind.u64.wrap ((3*(k:Int)+(j:Int)).tmod 16)).toNat IntKind.u16.bits))&&&BitVec.ofInt IntKind.u16.bits 1).toNat:Nat):Int)==1
def Dh(h:Int)(a:Nat)(ps:List Pa)(b:Nat):List Pa:=if (!decide ((a:Int)=(b:Int)))&&bitP h a b then Ti ps ⟨a,b,0⟩else ps
def U5(h:Int)(ps:List Pa)(a:Nat):List Pa:=(List.range 3).foldl (Dh h a) ps
def allP(h:Int):List Pa:=(List.range 3).foldl (U5 h) []
def wpL_len(l:List Pa)(X:Pa):(Ti l X).length<=l.length+1:=by have:=WU (p:=λx=>ib x X) (q:=λx=>ib X x) (λx h=>by simp[ib]at h ⊢;omega) l;simp only[Ti,fA,tt];omega
inductive PJ where
 |raw (k:Nat)
 |Qy (k:Nat) (ps:List Pa)
def PJ.both{P:PJ->Prop}(a:∀k,P (.raw k))(b:∀k a,P (.Qy k a)):∀i,P i| .raw k=>a k| .Qy k x=>b k x
def PJ.k:PJ->Nat| .raw k=>k| .Qy k _=>k
def stP_len(h:Int)(a:Nat)(ps:List Pa)(b:Nat):(Dh h a ps b).length<=ps.length+1:=by unfold Dh;split;exact wpL_len _ _;omega
theorem Bf(h:Int)(a:Nat)(ps:List Pa):∀j,((List.range j).foldl (Dh h a) ps).length<=ps.length+j|0=>by simp|j+1=>by rw[kV];have:=Bf h a ps j;have:=stP_len h a ((List.range j).foldl (Dh h a) ps) j;omega
theorem Fb(h:Int):∀k,((List.range k).foldl (U5 h) []).length<=3*k|0=>by simp|k+1=>by rw[kV];have:=Fb h k;have:=Bf h k ((List.range k).foldl (U5 h) []) 3;unfold U5 at*;omega
def Z8(h:Int):(allP h).length<=9:=Fb h 3
structure aa0(s:Sy):Prop where
 r:∃lo c m:Int,(-20<=lo∧lo<20)∧(0<=c∧c<30)∧(0<=m∧m<4)∧Ta lo (lo+c) (lo+c - lo) m=uc s.LR s.LS s.rm s.rr s.nW
 l:0<=s.aM∧s.aM<=7
 d:0<=s.mS∧s.mS<=7
 ne:∀x∈s.dY,x.a≠x.b
def wpL_ne{l:List Pa}{X:Pa}(h:∀x∈l,x.a≠x.b)(hX:X.a≠X.b):∀x∈Ti l X,x.a≠x.b:=λx hx=>by unfold Ti at hx;rcases d_.1 hx with hx|hx;rcases d_.1 hx with hx|hx;exact h x (List.takeWhile_subset _ hx);rw[fY.1 hx];exact hX;exact h x (List.mem_filter.1 hx).1
def stP_ne(h:Int)(a b:Nat){ps:List Pa}(hp:∀x∈ps,x.a≠x.b):∀x∈Dh h a ps b,x.a≠x.b:=by unfold Dh;split;rename_i hc;rw[bc]at hc;exact wpL_ne hp (by simpa using hc.1);exact hp
theorem Xe(h:Int)(a:Nat):∀(l:List Nat) {ps:List Pa},(∀x∈ps,x.a≠x.b)->∀x∈l.foldl (Dh h a) ps,x.a≠x.b|[],_,hp=>hp|b::l,_,hp=>Xe h a l (stP_ne h a b hp)
theorem Oi(h:Int):∀(l:List Nat) {ps:List Pa},(∀x∈ps,x.a≠x.b)->∀x∈l.foldl (U5 h) ps,x.a≠x.b|[],_,hp=>hp|a::l,_,hp=>Oi h l (Xe h a _ hp)
def allP_ne(h:Int):∀x∈allP h,x.a≠x.b:=Oi h _ (λx hx=>qm)
def Tz(p:Pg)(id:Int)(n:N8)(hn:N8Ok n)(hL:p.d.aM=3)(hP:p.d.parts=3):∃s:Sy,s.id=id∧s.dY.length<=9∧aa0 s∧aj Tryz.prog 16 [qb p,it id,S3 n] fZ (eU s) fZ:=by
 have ha:=hn.a;have hb:=hn.b;have hc:=hn.c;have hd:=hn.d;have he:=hn.e;have hf:=hn.f;have hg:=hn.g;have t1:=yL ha.1 40 af;have t2:=yL hb.1 4 af;have t3:=yL hc.1 30 af;have t4:=yL hd.1 8 af;have o1:=XJ (n.a.tmod 40 - 20) (n.b.tmod 4) ⟨af,af⟩;have o2:=XJ (n.a.tmod 40 - 20+n.c.tmod 30) 0 ⟨af,af⟩;have j:=Ys (n.a.tmod 40 - 20) (n.a.tmod 40 - 20+n.c.tmod 30) (n.b.tmod 4) af af af t2;have hRs:∃x1 x2 x3 x4,Ta (n.a.tmod 40 - 20) (n.a.tmod 40 - 20+n.c.tmod 30) (n.a.tmod 40 - 20+n.c.tmod 30 - (n.a.tmod 40 - 20)) (n.b.tmod 4)=uc x1 x2 x3 x4 (n.b.tmod 4):=by unfold Ta;split;split<;>exact⟨_,_,_,_,rfl⟩;exact⟨_,_,_,_,rfl⟩
 refine hRs.elim λx1 h=>h.elim λx2 h=>h.elim λx3 h=>h.elim λx4 h=> ?_;rw[h]at j;have s0:IntKind.u64.wrap p.d.aM=3:=by rw[hL];decide
 have z0:0<=IntKind.u64.wrap p.d.aM:=af
 have s1:IntKind.i64.wrap (1*2^(min (IntKind.u64.wrap p.d.aM).toNat IntKind.i64.bits)) - 1=7:=by rw[s0];decide
 have s2:IntKind.u64.wrap p.d.parts=3:=by rw[hP];decide
 have z2:0<=IntKind.u64.wrap p.d.parts:=af
 have s3:IntKind.i64.wrap (1*2^(min (IntKind.u64.wrap p.d.parts).toNat IntKind.i64.bits)) - 1=7:=by rw[s2];decide
 have e1:=(and7 n.e).1;have e2:=(and7 n.e).2;have f1:=(and7 n.f).1;have f2:=(and7 n.f).2;have hAll:∃S,S=allP n.h:=⟨_,rfl⟩;refine hAll.elim λS hS=> ?_;by_cases hSl:S.length<=9
 rotate_left
 exact absurd (by rw[hS];exact Z8 n.h) hSl;refine⟨⟨id,x1,x2,x3,x4,n.b.tmod 4,IntKind.i64.wrap (n.d.tmod 8*2^min (1:Int).toNat IntKind.i64.bits),(((BitVec.ofInt IntKind.i64.bits n.e&&&BitVec.ofInt IntKind.i64.bits 7).toNat:Nat):Int),(((BitVec.ofInt IntKind.i64.bits n.f&&&BitVec.ofInt IntKind.i64.bits 7).toNat:Nat):Int),S,n.g⟩,rfl,hSl,⟨⟨n.a.tmod 40 - 20,n.c.tmod 30,n.b.tmod 4,⟨af,af⟩,⟨af,af⟩,⟨af,af⟩,h⟩,⟨e2,e1⟩,⟨f2,f1⟩,by rw[hS];exact allP_ne n.h⟩,?_⟩;refine fo Tryz.func16 ?_;refine aN ?_;refine a_.at rfl (dX _) rfl ?_;refine aN ?_;refine a_.at rfl (dX _) rfl ?_;refine aN ?_;refine a_.at rfl (dX _) rfl ?_;refine aN ?_;refine a_.at rfl (dX _) rfl ?_;refine aN ?_;refine a_.at rfl (dX _) rfl ?_;refine aN ?_;refine Arith.mk ?_;refine aN ?_;refine a_.at rfl (dX _) rfl ?_;refine aN ?_;refine Arith.mk ?_;refine aN ?_;refine a_.at rfl (dX _) rfl ?_;refine aN ?_;refine bB.mk ⟨[],aZ.of (λi:PJ=>match i with| .raw k=>k<=3∧(List.range k).foldl (U5 n.h) []=[]| .Qy k ps=>k<=3∧(List.range k).foldl (U5 n.h) []=ps) (λi=>match i with| .raw k=>⟨[(9,it k)],[(8,.agg [it id,it x1,it x2,it x3,it x4,it (n.b.tmod 4),it (IntKind.i64.wrap (n.d.tmod 8*2^min (1:Int).toNat IntKind.i64.bits)),it (((BitVec.ofInt IntKind.i64.bits n.e&&&BitVec.ofInt IntKind.i64.bits 7).toNat:Nat):Int),it (((BitVec.ofInt IntKind.i64.bits n.f&&&BitVec.ofInt IntKind.i64.bits 7).toNat:Nat):Int),.sl 3 [] true,it n.g])],[]⟩| .Qy k ps=>⟨[(9,it k)],[(8,.agg [it id,it x1,it x2,it x3,it x4,it (n.b.tmod 4),it (IntKind.i64.wrap (n.d.tmod 8*2^min (1:Int).toNat IntKind.i64.bits)),it (((BitVec.ofInt IntKind.i64.bits n.e&&&BitVec.ofInt IntKind.i64.bits 7).toNat:Nat):Int),it (((BitVec.ofInt IntKind.i64.bits n.f&&&BitVec.ofInt IntKind.i64.bits 7).toNat:Nat):Int),fj 3 bF ps,it n.g])],[]⟩) (λi=>3 - i.k) (.raw 0) ⟨dL _,rfl⟩ ?_ ?_ ?_ ?_ ?_⟩;exact vH;exact aB;exact aB;exact JL;refine PJ.both (λk=> ?_) (λk ps=> ?_);intro hJ;have h1:k<=3:=hJ.1;have h2:(List.range k).foldl (U5 n.h) []=([]:List Pa):=hJ.2;have hpl:=Fb n.h k;rw[h2]at hpl;by_cases hk:k<3;have b1:decide ((k:Int)<p.d.aM)=true:=kF;refine run ?_;refine bB.mk ⟨[],aZ.of (λi:PJ=>match i with| .raw j=>j<=3∧(List.range j).foldl (Dh n.h k) ([]:List Pa)=[]| .Qy j qs=>j<=3∧(List.range j).foldl (Dh n.h k) ([]:List Pa)=qs) (λi=>match i with| .raw j=>⟨[(10,it j)],[(8,.agg [it id,it x1,it x2,it x3,it x4,it (n.b.tmod 4),it (IntKind.i64.wrap (n.d.tmod 8*2^min (1:Int).toNat IntKind.i64.bits)),it (((BitVec.ofInt IntKind.i64.bits n.e&&&BitVec.ofInt IntKind.i64.bits 7).toNat:Nat):Int),it (((BitVec.ofInt IntKind.i64.bits n.f&&&BitVec.ofInt IntKind.i64.bits 7).toNat:Nat):Int),.sl 3 [] true,it n.g])],[]⟩| .Qy j ps=>⟨[(10,it j)],[(8,.agg [it id,it x1,it x2,it x3,it x4,it (n.b.tmod 4),it (IntKind.i64.wrap (n.d.tmod 8*2^min (1:Int).toNat IntKind.i64.bits)),it (((BitVec.ofInt IntKind.i64.bits n.e&&&BitVec.ofInt IntKind.i64.bits 7).toNat:Nat):Int),it (((BitVec.ofInt IntKind.i64.bits n.f&&&BitVec.ofInt IntKind.i64.bits 7).toNat:Nat):Int),fj 3 bF ps,it n.g])],[]⟩) (λi=>3 - i.k) (.raw 0) ⟨dL _,rfl⟩ ?_ ?_ ?_ ?_ ?_⟩;exact vH;exact aB;exact aB;exact JL;refine PJ.both (λj=> ?_) (λj qs=> ?_);intro hq;have q1:j<=3:=hq.1;have q2:(List.range j).foldl (Dh n.h k) ([]:List Pa)=([]:List Pa):=hq.2;have ql:=Bf n.h k ([]:List Pa) j;rw[q2]at ql;by_cases g3:j<3;have d1:decide ((j:Int)<p.d.aM)=true:=kF;have z:=PN ((3*(k:Int)+(j:Int)).tmod 16);have hst:(List.range (j+1)).foldl (Dh n.h k) ([]:List Pa)=Dh n.h k ([]:List Pa) j:=by rw[kV,q2]
 have w:=wi ([]:List Pa) k j ⟨k,j,0⟩ rfl af;refine(dw (!decide ((k:Int)=(j:Int)))).elim (λd2=> ?_) (λd2=> ?_);refine(dw (bitP n.h k j)).elim (λd3=> ?_) (λd3=> ?_);have hb:(IntKind.u16.wrap (((BitVec.ofInt IntKind.u16.bits (n.h.fdiv (2^min (IntKind.u64.wrap ((3*(k:Int)+(j:Int)).tmod 16)).toNat IntKind.u16.bits))&&&BitVec.ofInt IntKind.u16.bits 1).toNat:Nat):Int)==1)=true:=d3;have e:Dh n.h k ([]:List Pa) j=Ti ([]:List Pa) ⟨k,j,0⟩:=aq (by rw[d2,d3];rfl);refine run ?_;refine a_.at rfl (dX _) rfl ?_;refine run ?_;refine Arith.mk ?_;refine run ?_;refine Arith.mk ?_;refine aN ?_;refine⟨⟨.Qy (j+1) (Ti ([]:List Pa) ⟨k,j,0⟩),⟨g3,hst.trans e⟩⟩,ik g3 (gh _),?_⟩;exact vH;have hb:(IntKind.u16.wrap (((BitVec.ofInt IntKind.u16.bits (n.h.fdiv (2^min (IntKind.u64.wrap ((3*(k:Int)+(j:Int)).tmod 16)).toNat IntKind.u16.bits))&&&BitVec.ofInt IntKind.u16.bits 1).toNat:Nat):Int)==1)=false:=d3;have e:Dh n.h k ([]:List Pa) j=([]:List Pa):=ah (by rw[d2,d3];simp);refine run ?_;refine a_.at rfl (dX _) rfl ?_;refine run ?_;refine Arith.mk ?_;refine run ?_;refine Arith.mk ?_;refine aN ?_;exact RM;have e:Dh n.h k ([]:List Pa) j=([]:List Pa):=ah (by rw[d2];simp);refine run ?_;exact RM;have d1:decide ((j:Int)<p.d.aM)=false:=kF;have e:(List.range (k+1)).foldl (U5 n.h) []=([]:List Pa):=Pw
 refine run ?_;refine⟨⟨.raw (k+1),⟨hk,e⟩⟩,ik hk (gh _),?_⟩;exact vH;intro hq;have q1:j<=3:=hq.1;have q2:(List.range j).foldl (Dh n.h k) ([]:List Pa)=qs:=hq.2;have ql:=Bf n.h k ([]:List Pa) j;rw[q2]at ql;by_cases g3:j<3;have d1:decide ((j:Int)<p.d.aM)=true:=kF;have z:=PN ((3*(k:Int)+(j:Int)).tmod 16);have hst:(List.range (j+1)).foldl (Dh n.h k) ([]:List Pa)=Dh n.h k qs j:=by rw[kV,q2]
 have w:=wi qs k j ⟨k,j,0⟩ rfl af;refine(dw (!decide ((k:Int)=(j:Int)))).elim (λd2=> ?_) (λd2=> ?_);refine(dw (bitP n.h k j)).elim (λd3=> ?_) (λd3=> ?_);exact VN;exact VM;exact Vu;have d1:decide ((j:Int)<p.d.aM)=false:=kF;have e:(List.range (k+1)).foldl (U5 n.h) []=qs:=Pw
 exact RT;have b1:decide ((k:Int)<p.d.aM)=false:=kF;have e:([]:List Pa)=S:=by rw[hS,<-h2,show k=3 by omega];rfl
 exact VJ;intro hJ;have h1:k<=3:=hJ.1;have h2:(List.range k).foldl (U5 n.h) []=ps:=hJ.2;have hpl:=Fb n.h k;rw[h2]at hpl;by_cases hk:k<3;have b1:decide ((k:Int)<p.d.aM)=true:=kF;refine run ?_;refine bB.mk ⟨[],aZ.of (λi:PJ=>match i with| .raw j=>False| .Qy j qs=>j<=3∧(List.range j).foldl (Dh n.h k) ps=qs) (λi=>match i with| .raw j=>⟨[(10,it j)],[(8,.agg [it id,it x1,it x2,it x3,it x4,it (n.b.tmod 4),it (IntKind.i64.wrap (n.d.tmod 8*2^min (1:Int).toNat IntKind.i64.bits)),it (((BitVec.ofInt IntKind.i64.bits n.e&&&BitVec.ofInt IntKind.i64.bits 7).toNat:Nat):Int),it (((BitVec.ofInt IntKind.i64.bits n.f&&&BitVec.ofInt IntKind.i64.bits 7).toNat:Nat):Int),.sl 3 [] true,it n.g])],[]⟩| .Qy j ps=>⟨[(10,it j)],[(8,.agg [it id,it x1,it x2,it x3,it x4,it (n.b.tmod 4),it (IntKind.i64.wrap (n.d.tmod 8*2^min (1:Int).toNat IntKind.i64.bits)),it (((BitVec.ofInt IntKind.i64.bits n.e&&&BitVec.ofInt IntKind.i64.bits 7).toNat:Nat):Int),it (((BitVec.ofInt IntKind.i64.bits n.f&&&BitVec.ofInt IntKind.i64.bits 7).toNat:Nat):Int),fj 3 bF ps,it n.g])],[]⟩) (λi=>3 - i.k) (.Qy 0 ps) ⟨dL _,rfl⟩ ?_ ?_ ?_ ?_ ?_⟩;exact vH;exact aB;exact aB;exact JL;refine PJ.both (λj=> ?_) (λj qs=> ?_);intro hq;exact hq.elim;intro hq;have q1:j<=3:=hq.1;have q2:(List.range j).foldl (Dh n.h k) ps=qs:=hq.2;have ql:=Bf n.h k ps j;rw[q2]at ql;by_cases g3:j<3;have d1:decide ((j:Int)<p.d.aM)=true:=kF;have z:=PN ((3*(k:Int)+(j:Int)).tmod 16);have hst:(List.range (j+1)).foldl (Dh n.h k) ps=Dh n.h k qs j:=by rw[kV,q2]
 have w:=wi qs k j ⟨k,j,0⟩ rfl af;refine(dw (!decide ((k:Int)=(j:Int)))).elim (λd2=> ?_) (λd2=> ?_);refine(dw (bitP n.h k j)).elim (λd3=> ?_) (λd3=> ?_);exact VN;exact VM;exact Vu;have d1:decide ((j:Int)<p.d.aM)=false:=kF;have e:(List.range (k+1)).foldl (U5 n.h) []=qs:=Pw
 exact RT;have b1:decide ((k:Int)<p.d.aM)=false:=kF;have e:ps=S:=by rw[hS,<-h2,show k=3 by omega];rfl
 exact VJ
def Wa{G:Prop}(h:G:=by rw[h2,cZ,cZ,mF];omega):G:=h
def rI(d:Df):List Int:=(vY d.body).map (·.site)++[d.site]
def P0(d:Df)(h:zp d.body<2^30):aj Tryz.prog 49 [bQ d] fZ (ints (rI d)) fZ:=by
 have hf:=NP _ d.body (gh _) h;have hfl:=CS d.body;have hL:∃L,L=vY d.body:=⟨_,rfl⟩;refine hL.elim λL hL=> ?_;rw[<-hL]at hf hfl;have hs:rI d=L.map (·.site)++[d.site]:=by rw[hL];rfl
 refine fo Tryz.func49 ?_;refine aN ?_;refine bB.mk ⟨[],aZ.lp (λr:CR=>r.k<=L.length∧r.acc=((L.take r.k).map (·.site)).map it) (λr=>⟨[(5,it r.k),(4,.ref 9 r.acc.length)],[],[(9,⟨1,true,r.acc⟩)]⟩) (λr=>L.length - r.k) ⟨0,[]⟩ ⟨dL _,rfl⟩ ?_⟩;intro r hJ;have h1:=hJ.1;have h2:=hJ.2;have hlen:r.acc.length=r.k:=Wa
 by_cases hk:r.k<L.length;have b1:decide ((r.k:Int)<((L.map encS).length:Nat))=true:=qt
 have hN:r.acc++[it L[r.k].site]=((L.take (r.k+1)).map (·.site)).map it:=by rw[h2,map_take hk,eI];rfl
 refine run ?_;refine a_.map hk rfl ?_;refine run ?_;exact OR;have b1:decide ((r.k:Int)<((L.map encS).length:Nat))=false:=aA
 have e:r.acc++[it d.site]=(rI d).map it:=by rw[h2,og af,hs,eI];rfl
 exact D7
def zSm:Sm:= .mk 0 0 0 0 0 (.mk 0 0 0 []) (.mk 0 0 0 []) (.mk 0 [] []) [] [] [] []
def Jc(L:List Sm)(n:Int):Option Sm:=L.find? (λs=>s.site==n)
def atD:Option Sm->au|some s=> .bR [encS s,bo true]|none=> .bR [encS zSm,bo false]
def atF_yes{L:List Sm}{n:Int}{k:Nat}(hk:k<L.length)(h:(L[k].site==n)=true):Jc (L.drop k) n=some L[k]:=by unfold Jc;rw[rF hk,List.find?_cons,h]
def atF_no{L:List Sm}{n:Int}{k:Nat}(hk:k<L.length)(h:(L[k].site==n)=false):Jc (L.drop k) n=Jc (L.drop (k+1)) n:=by unfold Jc;rw[rF hk,List.find?_cons,h]
def atF_end{L:List Sm}{n:Int}{k:Nat}(hk:¬k<L.length):Jc (L.drop k) n=none:=by unfold Jc;rw[uK af];rfl
def at_ok(d:Df)(n:Int)(h:zp d.body<2^30):C 50 [bQ d,it n] (atD (Jc (vY d.body) n)):=by
 have hf:=NP _ d.body (gh _) h;have hfl:=CS d.body;have hL:∃L,L=vY d.body:=⟨_,rfl⟩;refine hL.elim λL hL=> ?_;rw[<-hL]at hf hfl ⊢;clear hL;refine fo Tryz.func50 ?_;refine aN ?_;refine bB.mk ⟨[],aZ.lp (λk:Nat=>k<=L.length∧Jc L n=Jc (L.drop k) n) (λk=>⟨[(7,it k)],[],[]⟩) (λk=>L.length - k) 0 ⟨dL _,ag⟩ ?_⟩;intro k hJ;have h1:=hJ.1;have h2:=hJ.2;by_cases hk:k<L.length;have b1:decide ((k:Int)<((L.map encS).length:Nat))=true:=qt
 refine(dw (L[k].site==n)).elim (λb2=> ?_) (λb2=> ?_);have e:=h2.trans (atF_yes hk b2);refine run ?_;refine a_.map hk rfl ?_;refine run ?_;refine a_.map hk rfl ?_;refine run ?_;exact fu.mk (aL atD e.symm) rfl;have e:=h2.trans (atF_no hk b2);refine run ?_;refine a_.map hk rfl ?_;refine run ?_;exact OP;have b1:decide ((k:Int)<((L.map encS).length:Nat))=false:=aA
 have e:=h2.trans (atF_end hk);refine run ?_;exact fu.mk (Eq.trans (b:=atD none) aB (aL atD e.symm)) rfl
def W5{s:Sy}(h:aa0 s):aU ⟨s.LR,s.LS,s.rm,s.rr,s.nW⟩:=by obtain⟨lo,c,m,h1,h2,h3,h4⟩:=h.r;have e:Ta lo (lo+c) (lo+c - lo) m=ai (m7 lo (lo+c) (lo+c - lo) m):=ZS af af af af af;have a:aU (m7 lo (lo+c) (lo+c - lo) m):=(kL af af af h3.1 af af af).1;rw[e]at h4;have h5:ai (m7 lo (lo+c) (lo+c - lo) m)= .agg [it s.LR,it s.LS,it s.rm,it s.rr,it s.nW]:=h4;generalize m7 lo (lo+c) (lo+c - lo) m=X at a h5;obtain⟨x1,x2,x3,x4,x5⟩:=X;have h6:au.agg [it x1,it x2,it x3,it x4,it x5]= .agg [it s.LR,it s.LS,it s.rm,it s.rr,it s.nW]:=h5;simp only[au.agg.injEq,List.cons.injEq,it,au.int.injEq,true_and,and_true]at h6;obtain⟨rfl,rfl,rfl,rfl,rfl⟩:=h6;exact a
def live:Mp Bool->Nat|[]=>0|some _::r=>live r+1|none::r=>live r
structure B_(r:pL):Prop where
 lo: -2147483648<=r.lo
 le:r.lo<=r.hi
 hi:r.hi<=2147483647
 mask:0<=r.mask∧r.mask<=255
def Ep:=@Nat.pow_succ
def jY.sz{vars na:Int}{k:Nat}{e:Ex}{n:Nat}(h:jY vars na k e n):n<2^(k+1):=by induction h with|num _=>have:=Nat.one_lt_two_pow (n:=2) af;rename_i k _ _;have:=zg (n:=2) af (show 1<=k+1+1 by omega);omega|var _=>rename_i k _ _;have:=zg (n:=2) af (show 1<=k+1+1 by omega);omega|len _=>rename_i k _ _;have:=zg (n:=2) af (show 1<=k+1+1 by omega);omega|bin _ _ _ iha ihb=>rename_i k _ _ _ _ _ _ _ _;rw[Ep];omega
theorem Ff.sz{vars na:Int}{k:Nat}{c:Co}{n:Nat}(h:Ff vars na k c n):n<2^(k+1):=by induction h with|test _ ha hb=>have:=ha.sz;have:=hb.sz;rw[Ep];omega|not _ ih=>rw[Ep];omega|and _ _ _ iha ihb=>rw[Ep];omega
def jY.up{vars na:Int}{k:Nat}{e:Ex}{n:Nat}(h:jY vars na k e n):jY vars na (k+1) e n:=zby7_
structure Fl where
 n:Nat
 m:Nat
 v:Nat
 x:Bool
 y:Bool
 c:Bool
 call:Bool
 body:Bool
 rest:Bool
def U8(n m v:Nat):Fl:=⟨n,m,v,false,false,false,false,false,false⟩
def flx(n m v:Nat):Fl:=⟨n,m,v,true,false,false,false,false,false⟩
def Ox:Nat->Fl|1=>flx 1 0 0|2=>flx 1 4 0|3=>⟨0,4,0,true,true,false,false,false,false⟩|4=>U8 1 5 0|5=>flx 0 5 0|6=>U8 3 0 0|7=>U8 3 0 0|8=>U8 3 3 0|9=>flx 3 0 0|10=>U8 1 3 0|11=>⟨0,0,0,false,false,true,false,true,true⟩|12=>⟨0,0,12,false,false,true,false,true,false⟩|13=>⟨2,11,0,false,false,false,true,false,false⟩|14=>U8 0 0 13|15=>⟨1,0,0,false,false,false,false,true,true⟩|16=>U8 0 9 0|17=>U8 0 9 0|18=>flx 0 7 0|19=>U8 1 7 0|20=>U8 1 6 0|21=>flx 0 8 0|22=>U8 0 10 0|23=>⟨0,0,0,false,false,true,false,false,false⟩|24=>flx 0 0 0|_=>U8 0 0 0
def iL(d:Df)(x:Dc):Nat->Int->Prop|0,n=>n=0|1,n=>(d.params.length:Int)<=n∧n<=d.vars - 1|2,n=>(d.params.length:Int)<=n∧n<=d.vars - 1|3,n=>0<=n∧n<=d.refs - 1|4,n=>0<=n∧n<=(d.aK.length:Int) - 1|5,n=>0<=n∧n<=(x.globals.length:Int) - 1|6,n=>0<=n∧n<=(x.ft.length:Int) - 1|7,n=>0<=n∧n<=(x.eP.length:Int) - 1|8,n=>0<=n∧n<=(x.sinks.length:Int) - 1|9,n=>0<=n∧n<=x.aM - 1|10,n=>0<=n∧n<=x.parts - 1|11,n=>1<=n∧n<=1073741824|12,n=>1<=n∧n<=16|13,n=>1<=n∧n<=31|_,_=>False
structure DfSm(d:Df)(x:Dc):Prop where
 vars:d.vars<2^40
 refs:d.refs<2^40
 aK:d.aK.length<2^40
 globals:x.globals.length<2^40
 ft:x.ft.length<2^40
 eP:x.eP.length<2^40
 sinks:x.sinks.length<2^40
 aM:x.aM<2^40
 parts:x.parts<2^40
 G2:x.G2<2^40
def VOk(d:Df)(e:Ex):Prop:=∃n,n<=60∧jY d.vars d.aK.length 10 e n
def XOk(d:Df)(b:Bool)(e:Ex):Prop:=match b with|true=>VOk d e|false=>e=zE
def TOk(d:Df)(b:Bool)(c:Co):Prop:=match b with|true=>∃n,n<=60∧Ff d.vars d.aK.length 10 c n|false=>c=zC
structure SOk(d:Df)(x0:Dc)(o:Nat)(s:Sm):Prop where
 op:s.op=o
 kind:1<=o∧o<=24
 site:1<=s.site∧s.site<=1073741824
 n:iL d x0 (Ox o).n s.n
 m:iL d x0 (Ox o).m s.m
 v:iL d x0 (Ox o).v s.v
 x:XOk d (Ox o).x s.x
 y:XOk d (Ox o).y s.y
 c:TOk d (Ox o).c s.c
 args:match (Ox o).call with|true=>((∀e∈s.args,VOk d e)∧s.args.length<=12)∧(∀p∈s.cO,iL d x0 3 p)∧s.cO.length<=4|false=>s.args=[]∧s.cO=[]
 body:(Ox o).body=true∨s.body=[]
 sY:(Ox o).rest=true∨s.sY=[]
def NmOk(s:List UInt8):Prop:=(∀b∈s,97<=b.toNat∧b.toNat<=122)∧1<=s.length∧s.length<=20
structure ArOk(d:Df)(a:Ar):Prop where
 len:1<=a.len∧a.len<=64
 yE :0<=a.yE ∧a.yE <=d.params.length
def uX(l:List (Sm×Nat)):List Int:=l.map λx=>x.1.site
structure LQ(d:Df)(x:Dc):Prop where
 sm:DfSm d x
 id:1<=d.id∧d.id<=1073741824
 site:1<=d.site∧d.site<=1073741824
 name:NmOk d.name
 xd:0<=d.xd∧d.xd<=x.G2 - 1
 part:0<=d.part∧d.part<=x.parts - 1
 vars:(d.params.length:Int)<=d.vars∧d.vars<=12
 refs:(d.given.length:Int)<=d.refs∧d.refs<=4
 lW:1<=d.lW∧d.lW<=20000
 params:∀r∈d.params,B_ r
 given:∀r∈d.given,B_ r
 aK:(∀a∈d.aK,ArOk d a)∧d.aK.length<=4
 size:zp d.body<=199
 depth:∀z∈w9 d.body 1,z.2<=10
 stmts:∀z∈w9 d.body 1,∃o,SOk d x o z.1
 sites:(d.site::uX (w9 d.body 1)).Nodup
structure QuOk(q:Qu):Prop where
 r:B_ q.r
 cap:1<=q.cap∧q.cap<=16
structure DcOk(x:Dc):Prop where
 globals:(∀r∈x.globals,B_ r)∧x.globals.length<=8
 ft:(∀r∈x.ft,B_ r)∧x.ft.length<=8
 eP:(∀q∈x.eP,QuOk q)∧x.eP.length<=4
 sinks:(∀n∈x.sinks,0<=n∧n<=255)∧x.sinks.length<=8
 aM:0<=x.aM∧x.aM<=8
 parts:1<=x.parts∧x.parts<=16
 G2:1<=x.G2∧x.G2<=8
def Si(d:Df):List Int:=uX (w9 d.body 1)++[d.site]
def bE:Nat->Nat|0=>4|n+1=>4+2*bE n
def bE_ge:∀n,4<=bE n|0=>cu _|n+1=>by simp only[bE];omega
def wNum(v:Int):(wE (qc v)).length=4:=by simp[qc,wE,wEs]
def wVar(v:Int):(wE (HP v)).length=4:=by simp[HP,wE,wEs]
def wOne(o n v:Int):(wE (.mk o n v [])).length=4:=by simp[wE,wEs]
def wBin(o:Int)(a b:Ex):(wE (Zc o a b)).length=4+(wE a).length+(wE b).length:=by simp[Zc,wE,wEs];omega
def wZE:(wE zE).length=4:=by simp[zE,wE,wEs]
def wZC:(wC zC).length=3:=by simp[zC,wC,wCs,wl]
def wTest(o:Int)(a b:Ex):(wC (I_ o a b)).length=3+(wE a).length+(wE b).length:=by simp[I_,wC,wCs,wl];omega
def wNot(a:Co):(wC (ZQ a)).length=3+(wC a).length:=by simp[ZQ,wC,wCs,wl];omega
def wAnd(o:Int)(a b:Co):(wC (.mk o [] [a,b])).length=3+(wC a).length+(wC b).length:=by simp[wC,wCs,wl];omega
theorem Mk.kJ(m:Mk):∀n a,(wE (m.expr n a).1).length<=bE n
 |0,a=>by rw[Mk.expr];simp only[wNum,bE];omega
 |n+1,a=>by
  have h1:=Mk.kJ m n (a+1+1);have h2:=Mk.kJ m n (m.expr n (a+1+1)).2;have h3:=bE_ge n;rw[Mk.expr];repeat' split
  all_goals (simp only[wNum,wVar,wOne,wBin,bE];omega)
def bC:Nat->Nat|0=>27|n+1=>3+2*bC n
theorem bC_ge:∀n,27<=bC n|0=>cu _|n+1=>by have:=bC_ge n;simp only[bC];omega
theorem Mk.E6(m:Mk):∀n a,(wC (m.cond n a).1).length<=bC n
 |0,a=>by have h1:=m.kJ 1 (a+1);have h2:=m.kJ 1 (m.expr 1 (a+1)).2;simp only[bE]at h1 h2;rw[Mk.cond];simp only[wTest,bC];omega
 |n+1,a=>by
  have h1:=m.kJ 1 (a+1);have h2:=m.kJ 1 (m.expr 1 (a+1)).2;have h3:=Mk.E6 m n (a+1);have h4:=Mk.E6 m n ((m.cond n (a+1)).2+1);have h5:=bC_ge n;simp only[bE]at h1 h2;rw[Mk.cond];repeat' split
  all_goals (simp only[wTest,wNot,wAnd,bC];omega)
def W(l:List Sm):Nat:=(l.flatMap wS).length
def Hr:W []=0:=rfl
def QW(s:Sm)(l:List Sm):W (s::l)=(wS s).length+W l:=by simp[W]
def W_app(a b:List Sm):W (a++b)=W a+W b:=by simp[W]
def wS0(site op n m v:Int)(x y:Ex)(c:Co):(wS (S0 site op n m v x y c)).length=9+(wE x).length+(wE y).length+(wC c).length:=by rw[PL];simp[S0,Sm.x,Sm.y,Sm.c,Sm.args,Sm.cO,Sm.body,Sm.sY,wl];omega
def wSB(site op n m v:Int)(x y:Ex)(c:Co)(b e:List Sm):(wS (.mk site op n m v x y c [] [] b e)).length=9+(wE x).length+(wE y).length+(wC c).length+W b+W e:=by rw[PL];simp[Sm.x,Sm.y,Sm.c,Sm.args,Sm.cO,Sm.body,Sm.sY,wl,W];omega
def wSC(site op n m v:Int)(x y:Ex)(c:Co)(es:List Ex)(ps:List Int):(wS (.mk site op n m v x y c es ps [] [])).length=9+(wE x).length+(wE y).length+(wC c).length+(es.flatMap wE).length+ps.length:=by
 have e:∀l:List Int,(l.flatMap wI).length=l.length:=λl=>by induction l with|nil=>rfl|cons x l ih=>rw[mH,fA,ih,eJ];show 1+_=_;omega
 rw[PL];simp only[Sm.x,Sm.y,Sm.c,Sm.args,Sm.cO,Sm.body,Sm.sY,wl_len,e,AU,km];omega
def Mk.TB(m:Mk)(a s:Nat):W (m.simple a s).1<=366:=by
 have h1:=m.kJ 1 (a+1);have h2:=m.kJ 2 (a+1+1);simp only[bE]at h1 h2;unfold Mk.simple;repeat' split
 all_goals (simp only[QW,Hr,wS0,wNum,wZE,wZC];omega)
def Mk.Xj(m:Mk)(a s:Nat):(wS (m.risky a s).1).length<=366:=by
 have h1:=m.kJ 1 (a+1);have h2:=m.kJ 1 (a+1+1);have h3:=m.kJ 1 (a+1+1+1);have h4:=m.kJ 1 (m.expr 1 (a+1+1)).2;have h5:=m.E6 1 (a+1);simp only[bE,bC]at h1 h2 h3 h4 h5;have key:(λz:Sm×Nat×Nat=>(wS z.1).length<=366) (m.risky a s):=by
  unfold Mk.risky;repeat' refine Yy (P:=λz:Sm×Nat×Nat=>(wS z.1).length<=366) ?_ ?_
  all_goals (dsimp only;rw[wS0];simp only[wZE,wZC];omega)
 exact key
theorem Mk.Td(m:Mk)(a:Nat):∀i,((m.args a i).1.flatMap wE).length<=12*i|0=>by simp[Mk.args]|i+1=>by have h1:=Mk.Td m a i;have h2:=m.kJ 1 (m.args a i).2;simp only[bE]at h2;simp only[Mk.args,AY,fA,mH,AU,km];omega
theorem Mk.FQ(m:Mk)(a:Nat):∀i,(m.cO a i).length=i|0=>rfl|i+1=>by simp only[Mk.cO,fA,Mk.FQ m a i];rfl
def Mk.YK(m:Mk)(hh:∀h∈m.aF,h.params.length<=12∧h.given.length<=12)(a:Nat):(m.hd a).params.length<=12∧(m.hd a).given.length<=12:=by unfold Mk.hd;rw[Ko];cases h:m.aF[(m.nx a m.nH).toNat]? with|none=>simp[zH]|some x=>exact hh x (we h)
def Mk.call_sz(m:Mk)(hh:∀h∈m.aF,h.params.length<=12∧h.given.length<=12)(a s d:Nat):(wS (m.call a s d).1).length<=366:=by have h1:=m.YK hh (a+1);have h2:=m.Td (a+1+1) (m.hd (a+1)).params.length;have h3:=m.FQ (m.args (a+1+1) (m.hd (a+1)).params.length).2 (m.hd (a+1)).given.length;unfold Mk.call;split;simp only[wS0,wNum,wZE,wZC];omega;simp only[wSC,wZE,wZC,h3];omega
def Mk.XD(m:Mk)(hh:∀h∈m.aF,h.params.length<=12∧h.given.length<=12)(k:Int)(dep:Nat)(x:Ms):W (m.other k dep x).1<=366:=by
 have h1:=m.call_sz hh x.a x.s x.d;have h2:=m.kJ 1 x.a;have h3:=m.TB x.a x.s;have h4:=m.Xj x.a x.s;simp only[bE]at h2;unfold Mk.other;repeat' split
 all_goals (simp only[QW,Hr,wS0,wZE,wZC];omega)
def Mk.T0(m:Mk)(R:Nat->Ms->List Sm×Ms)(B:Nat)(hR:∀n,n<=2->∀x,W (R n x).1<=B)(k:Int)(x:Ms):(wS (m.nested R k x).1).length<=74+2*B:=by
 have c:=m.E6 1 x.a;simp only[bC]at c;have tn:∀b,(1+m.nx b 2).toNat<=2∧(m.nx b 2).toNat<=2:=λb=>by have:=m.bS b (n:=2) af;omega
 unfold Mk.nested;split;have h1:=hR _ (tn ((m.cond 1 x.a).2+1)).1 ⟨(m.cond 1 x.a).2+1+1,x.s+1,x.l,x.d⟩;simp only[wSB,wZE,Hr];omega;split;have h1:=hR _ (tn (x.a+1)).1 ⟨x.a+1+1,x.s+1,x.l,x.d⟩;have h2:=λy=>hR _ (tn (R (1+m.nx (x.a+1) 2).toNat ⟨x.a+1+1,x.s+1,x.l,x.d⟩).2.a).2 y;have h3:=h2 ⟨(R (1+m.nx (x.a+1) 2).toNat ⟨x.a+1+1,x.s+1,x.l,x.d⟩).2.a+1,(R (1+m.nx (x.a+1) 2).toNat ⟨x.a+1+1,x.s+1,x.l,x.d⟩).2.s,(R (1+m.nx (x.a+1) 2).toNat ⟨x.a+1+1,x.s+1,x.l,x.d⟩).2.l,(R (1+m.nx (x.a+1) 2).toNat ⟨x.a+1+1,x.s+1,x.l,x.d⟩).2.d⟩;simp only[wSB,wZE,wZC];omega;have h1:=hR _ (tn (m.cond 1 x.a).2).1 ⟨(m.cond 1 x.a).2+1,x.s+1,x.l,x.d⟩;have h2:=λy=>hR _ (tn (R (1+m.nx (m.cond 1 x.a).2 2).toNat ⟨(m.cond 1 x.a).2+1,x.s+1,x.l,x.d⟩).2.a).2 y;have h3:=h2 ⟨(R (1+m.nx (m.cond 1 x.a).2 2).toNat ⟨(m.cond 1 x.a).2+1,x.s+1,x.l,x.d⟩).2.a+1,(R (1+m.nx (m.cond 1 x.a).2 2).toNat ⟨(m.cond 1 x.a).2+1,x.s+1,x.l,x.d⟩).2.s,(R (1+m.nx (m.cond 1 x.a).2 2).toNat ⟨(m.cond 1 x.a).2+1,x.s+1,x.l,x.d⟩).2.l,(R (1+m.nx (m.cond 1 x.a).2 2).toNat ⟨(m.cond 1 x.a).2+1,x.s+1,x.l,x.d⟩).2.d⟩;simp only[wSB,wZE];omega
theorem EO(step:Ms->List Sm×Ms)(B:Nat)(h:∀x,W (step x).1<=B):∀n x,W (pC step n x).1<=n*B|0,x=>by simp[pC,Hr]|n+1,x=>by have h1:=EO step B h n (step x).2;have h2:=h x;rw[pC,re];split;simp[Hr];simp only[W_app];omega
def Mk.Kx(m:Mk)(hh:∀h∈m.aF,h.params.length<=12∧h.given.length<=12)(dep:Nat)(R:Nat->Ms->List Sm×Ms)(B:Nat)(hR:∀n,n<=2->∀x,W (R n x).1<=B)(x:Ms):W (m.step dep R x).1<=366+2*B:=by unfold Mk.step;split;have:=m.T0 R B hR (m.nx x.a 16) ⟨x.a+1,x.s,x.l-1,x.d⟩;simp only[QW,Hr];omega;have:=m.XD hh (m.nx x.a 16) dep ⟨x.a+1,x.s,x.l-1,x.d⟩;omega
def Mk.Ts(m:Mk)(hh:∀h∈m.aF,h.params.length<=12∧h.given.length<=12)(n:Nat)(x:Ms):W (m.stmts 0 n x).1<=n*366:=by rw[Mk.stmts];exact EO _ 366 (λy=>m.Kx hh 0 _ 0 (λn hn x=>by simp[Hr]) y) n x
def Mk.Tr(m:Mk)(hh:∀h∈m.aF,h.params.length<=12∧h.given.length<=12)(n:Nat)(x:Ms):W (m.stmts 1 n x).1<=n*1830:=by rw[Mk.stmts];exact EO _ 1830 (λy=>m.Kx hh 1 _ 732 (λn hn x=>by have:=m.Ts hh n x;omega) y) n x
def Mk.Tq(m:Mk)(hh:∀h∈m.aF,h.params.length<=12∧h.given.length<=12)(n:Nat)(x:Ms):W (m.stmts 2 n x).1<=n*7686:=by rw[Mk.stmts];exact EO _ 7686 (λy=>m.Kx hh 2 _ 3660 (λn hn x=>by have:=m.Tr hh n x;omega) y) n x
def Qg(id:Int):(nameOf id).length<=100:=by show((letters.drop (id.tmod 8).toNat).take _).length<=100;rw[mF,J0];have:letters.length=8:=rfl;omega
structure aa9(n:Nat)(d:Df):Prop where
 id:0<=d.id∧d.id<100
 np:d.params.length<=12∧d.given.length<=12
 na:d.aK.length<=2
 w:W d.body<=40000+30*n
 nm:d.name.length<=100
def Mk.defR_sz(m:Mk)(hh:∀h∈m.aF,h.params.length<=12∧h.given.length<=12)(id:Int)(a s:Nat)(part:Int)(c:Nat)(gs:List pL)(b2:Nat)(ar:List Ar)(hc:c<=2)(hg:gs.length<=1)(ha:ar.length<=2)(hid:0<=id∧id<100):aa9 0 (m.de id a s part c gs b2 ar).1:=by
 have tn:(1+m.nx b2 5).toNat<=5:=by have:=m.bS b2 (n:=5) af;omega
 refine⟨hid,⟨?_,?_⟩,ha,?_,Qg id⟩;show(m.params (a+1+1+1+1+1) c).length<=12;rw[m.jf];omega;show gs.length<=12;omega;have:=(m.bU (m.dG id a part (m.params (a+1+1+1+1+1) c) gs ((((m.params (a+1+1+1+1+1) c).map bp).length:Nat)+2+m.nx ((a+1+1+1+1+1+c)+1) 2) 2 ar [] 0)).Tq hh (1+m.nx b2 5).toNat ⟨b2+1,s,9,0⟩;show W ((m.bU (m.dG id a part (m.params (a+1+1+1+1+1) c) gs ((((m.params (a+1+1+1+1+1) c).map bp).length:Nat)+2+m.nx ((a+1+1+1+1+1+c)+1) 2) 2 ar [] 0)).stmts 2 (1+m.nx b2 5).toNat ⟨b2+1,s,9,0⟩).1<=_;omega
def Mk.def_sz(m:Mk)(hh:∀h∈m.aF,h.params.length<=12∧h.given.length<=12)(id:Int)(th:Bool)(a s:Nat)(hid:0<=id∧id<100):aa9 0 (m.mj id th a s).1:=by
 have bX:=m.bS (a+1+1+1+1) (n:=3) af;unfold Mk.mj;refine m.defR_sz hh _ _ _ _ _ _ _ _ ?_ ?_ ?_ hid;split<;>omega;have:∀b:Bool,(if b then[dh]else[]).length<=1:=by intro b;cases b<;>simp
 exact this _
 ·repeat' split
  all_goals simp
theorem Nb(L:List UInt8)(n:Nat):∀i,i<=4->∀d∈(cd L n i).defs,aa9 0 d|0,_=>λd hd=>by simp[cd]at hd|i+1,hi=>λd hd=>by have h:=nE L n i;rcases d_.1 hd with hx|hx;exact Nb L n i af d hx;have e:=fY.1 hx;subst e;exact((cd L n i).mk' L).def_sz h.aF (11+i) _ _ _ af
theorem wM(L:List UInt8)(n:Nat):∀i,(cd L n i).aF=(cd L n i).defs.map lV|0=>rfl|i+1=>by show _++[_]=(_++[_]).map lV;rw[eI,<-wM L n i];rfl
structure PgOk(n:Nat)(p:Pg):Prop where
 aM:p.d.aM=3
 parts:p.d.parts=3
 decl:p.d.globals.length=2∧p.d.ft.length=2∧p.d.eP.length=1∧p.d.sinks.length=3
 aF:p.aF=p.defs.map lV
 pos:0<p.defs.length
 nd:p.defs.length<=4+n
 th:0<p.threads.length
 nt:p.threads.length<=2
 ok:∀d∈p.defs,aa9 n d
theorem Md(ds:List Df):∀(k:Nat) (t:List Int),t.length<=2->(j0 ds k t).length<=2|0,t,h=>h|k+1,t,h=>by rw[j0];split;refine Md ds k _ ?_;split;split;rw[fA];exact aA;exact h;exact h;exact h
def Yj(L:List UInt8):PgOk 0 (mR L):=by
 have hb:=(⟨L,cq,[],[],[],zD,false⟩:Mk).bS 0 (n:=4) af;have hN:∃n,n=(1+(⟨L,cq,[],[],[],zD,false⟩:Mk).nx 0 4).toNat:=⟨_,rfl⟩;obtain⟨n,hn⟩:=hN;have e:mR L=⟨cq,(cd L n n).aF,(cd L n n).defs,if ((cd L n n).mk' L).nx (cd L n n).a 3==0 then(j0 (cd L n n).defs n []).take 1 else j0 (cd L n n).defs n []⟩:=by rw[hn];rfl
 have hn0:0<n:=af
 have hn4:n<=4:=af
 have hm:=nE L n n;have ht:=H0 L n hn0 hn4;have ht2:=Md (cd L n n).defs n [] ag;rw[e];refine⟨rfl,rfl,⟨rfl,rfl,rfl,rfl⟩,wM L n n,?_,?_,?_,?_,Nb L n n hn4⟩;show 0<(cd L n n).defs.length;rw[hm.nd];exact hn0;show(cd L n n).defs.length<=4+0;rw[hm.nd];exact hn4;show 0<(if ((cd L n n).mk' L).nx (cd L n n).a 3==0 then(j0 (cd L n n).defs n []).take 1 else j0 (cd L n n).defs n []).length;split;exact q_;exact ht;show(if ((cd L n n).mk' L).nx (cd L n n).a 3==0 then(j0 (cd L n n).defs n []).take 1 else j0 (cd L n n).defs n []).length<=2;split;exact q_;exact ht2
theorem Ir(L:List UInt8)(n:Nat):∀i,(cd L n i).defs.map (·.id)=(List.range i).map λj:Nat=>11+(j:Int)|0=>rfl|i+1=>by show(_++[_]).map _=_;rw[eI,Ir L n i,uQ,eI];rfl
def zO(L:List UInt8):∃n,(mR L).defs=(cd L n n).defs∧n<=4∧0<n:=by have hb:=(⟨L,cq,[],[],[],zD,false⟩:Mk).bS 0 (n:=4) af;exact⟨(1+(⟨L,cq,[],[],[],zD,false⟩:Mk).nx 0 4).toNat,rfl,af,af⟩
def Ue(L:List UInt8):(mR L).defs.map (·.id)=(List.range (mR L).defs.length).map λj:Nat=>11+(j:Int):=by obtain⟨n,e,_,_⟩:=zO L;rw[e,Ir,(nE L n n).nd]
def Nd(L:List UInt8){i:Nat}(h:i<(mR L).defs.length):(mR L).defs[i].id=11+(i:Int):=by have e:=Ue L;have:=aL (λl:List Int=>l[i]?) e;simpa[h]using this
def Ids(l:List Df):Prop:=∀i (hi:i<l.length) j (hj:j<l.length),l[i].id=l[j].id->i=j
def Ug(L:List UInt8):Ids (mR L).defs:=λi hi j hj h=>by rw[Nd L hi,Nd L hj]at h;omega
def AG{G:Prop}(h:G:=by have:=h.vars;omega):G:=h
def eW{G:Prop}(h:G:=by simp[S0,Sm.op]):G:=h
theorem jY.to{vars na:Int}{k:Nat}{e:Ex}{n:Nat}(h:jY vars na k e n):∀j,jY vars na (k+j) e n|0=>h|j+1=>(jY.to h j).up
theorem Ff.up{vars na:Int}{k:Nat}{c:Co}{n:Nat}(h:Ff vars na k c n):Ff vars na (k+1) c n:=by induction h with|test h ha hb=>exact .test h ha.up hb.up|not _ ih=>exact .not ih|and h _ _ iha ihb=>exact .and h iha ihb
theorem Ff.to{vars na:Int}{k:Nat}{c:Co}{n:Nat}(h:Ff vars na k c n):∀j,Ff vars na (k+j) c n|0=>h|j+1=>(Ff.to h j).up
def jY.v{d:Df}{k:Nat}{e:Ex}{n:Nat}(h:jY d.vars d.aK.length k e n)(hk:k<=4):VOk d e:=⟨n,by have:=h.sz;have:=zg (n:=2) af (show k+1<=5 by omega);omega,by have:=h.to (10 - k);rwa[show k+(10 - k)=10 by omega]at this⟩
def WL(d:Df){v:Int}(h: -2147483648<=v∧v<=2147483647):VOk d (qc v):=⟨1,af,.num h⟩
theorem Mk.mN(m:Mk)(hv:0<m.D.vars):∀n a,∃z,jY m.D.vars m.D.aK.length (n+1) (m.expr n a).1 z|0,a=>by have b:=m.bS (a+1) (n:=14) af;rw[Mk.expr];exact⟨1,.num af⟩|n+1,a=>by have b:=m.bS (a+1) (n:=14) af;have b2:=m.bS (a+1) (n:=m.D.vars) hv;have b3:=m.bS (a+1) (n:=7) af;obtain⟨x,hx⟩:=Mk.mN m hv n (a+1+1);obtain⟨y,hy⟩:=Mk.mN m hv n (m.expr n (a+1+1)).2;rw[Mk.expr];split;exact⟨1,.num af⟩;split;exact⟨1,.var b2⟩;split;rename_i h;exact⟨1,.len (m.bS (a+1) (n:=m.D.aK.length) af)⟩;exact⟨_,.bin af hx hy⟩
theorem Mk.Aa(m:Mk)(hv:0<m.D.vars):∀n a,∃z,Ff m.D.vars m.D.aK.length (3+n) (m.cond n a).1 z
 |0,a=>by have b:=m.bS a (n:=8) af;have b2:0<=(m.nx a 8).tmod 3∧(m.nx a 8).tmod 3<3:=⟨dz _ b.1,fw _ af⟩;obtain⟨x,hx⟩:=m.mN hv 1 (a+1);obtain⟨y,hy⟩:=m.mN hv 1 (m.expr 1 (a+1)).2;rw[Mk.cond];exact⟨_,.test af hx hy⟩
 |n+1,a=>by have b:=m.bS a (n:=8) af;have b2:0<=(m.nx a 8).tmod 3∧(m.nx a 8).tmod 3<3:=⟨dz _ b.1,fw _ af⟩;have b3:=m.bS (m.cond n (a+1)).2 (n:=2) af;obtain⟨x,hx⟩:=m.mN hv 1 (a+1);obtain⟨y,hy⟩:=m.mN hv 1 (m.expr 1 (a+1)).2;obtain⟨z,hz⟩:=Mk.Aa m hv n (a+1);obtain⟨w,hw⟩:=Mk.Aa m hv n ((m.cond n (a+1)).2+1);rw[Mk.cond];split;exact⟨_,(Ff.test (k:=2) af hx hy).to (n+1)⟩;split;exact⟨_,.not hz⟩;exact⟨_,.and af hz hw⟩
theorem Mk.v(m:Mk)(hv:0<m.D.vars){n:Nat}(hn:n<=2)(a:Nat):VOk m.D (m.expr n a).1:=(m.mN hv n a).elim λz h=>h.v af
def Mk.t(m:Mk)(hv:0<m.D.vars)(a:Nat):TOk m.D true (m.cond 1 a).1:=(m.Aa hv 1 a).elim λz h=>⟨z,by have:=h.sz;have:2^(3+1+1)=32:=rfl;omega,h.to 6⟩
def Jj(hs:List Hd)(s:Sm):Prop:=s.op=13->∃h∈hs,s.m=h.id∧h.params.length=s.args.length∧h.given.length=s.cO.length
structure Up(s t:Nat)(l:List Int):Prop where
 le:s<=t
 inc:l.Pairwise (· <·)
 bd:∀n∈l,(s:Int)<n∧n<=t
theorem Up.nil(s:Nat):Up s s []:=⟨cu _,.nil,λn h=>jl⟩
def Up.app{s t u:Nat}{a b:List Int}(h:Up s t a)(k:Up t u b):Up s u (a++b):=⟨en h.le k.le,List.pairwise_append.2 ⟨h.inc,k.inc,λx hx y hy=>by have:=h.bd x hx;have:=k.bd y hy;omega⟩,λn hn=>by have:=h.le;have:=k.le;rcases d_.1 hn with hn|hn;have:=h.bd n hn;omega;have:=k.bd n hn;omega⟩
def Up.one(s:Nat):Up s (s+1) [((s+1:Nat):Int)]:=⟨af,List.pairwise_singleton _ _,λn hn=>by rw[fY.1 hn];omega⟩
theorem Up.len:∀{l:List Int} {s t:Nat},Up s t l->l.length<=t - s|[],_,_,_=>by simp|x::l,s,t,h=>by have hx:=h.bd x tj;have hp:=EB.1 h.inc;have:=Up.len (l:=l) (s:=x.toNat) (t:=t) ⟨af,hp.2,λn hn=>by have:=hp.1 n hn;have:=h.bd n (ko _ hn);omega⟩;rw[eJ];omega
structure Rt(m:Mk)(k dep s t:Nat)(ss:List Sm):Prop where
 ok:∀z∈w9 ss k,(∃o,SOk m.D cq o z.1)∧Jj m.aF z.1∧z.2<=k+dep
 up:Up s t (uX (w9 ss k))
theorem Rt.nil(m:Mk)(k dep s:Nat):Rt m k dep s s []:=⟨λz h=>by simp[w9]at h,Up.nil s⟩
theorem Rt.app{m:Mk}{k dep s t u:Nat}{a b:List Sm}(h:Rt m k dep s t a)(g:Rt m k dep t u b):Rt m k dep s u (a++b):=⟨λz hz=>by rw[zX]at hz;rcases d_.1 hz with hz|hz;exact h.ok z hz;exact g.ok z hz,by rw[zX,uX,eI];exact h.up.app g.up⟩
def Rt.nest{m:Mk}{k dep s t u:Nat}{s0:Sm}(hs:s0.site=(s+1:Nat))(ok:∃o,SOk m.D cq o s0)(hc:Jj m.aF s0)(hb:Rt m (k+1) dep (s+1) t s0.body)(he:Rt m (k+1) dep t u s0.sY):Rt m k (dep+1) s u [s0]:=by
 have e:w9 [s0] k=(s0,k)::(w9 s0.body (k+1)++w9 s0.sY (k+1)):=by rw[w9,w9,jM,Y2]
 refine⟨λz hz=> ?_,?_⟩;rw[e]at hz;rcases bT.1 hz with rfl|hz;exact⟨ok,hc,bu⟩;rcases d_.1 hz with hz|hz;have:=hb.ok z hz;exact⟨this.1,this.2.1,af⟩;have:=he.ok z hz;exact⟨this.1,this.2.1,af⟩;rw[e,uX,n_,eI];dsimp only;rw[hs];exact(Up.one s).app (hb.up.app he.up)
def Rt.flat{m:Mk}{k dep s:Nat}{s0:Sm}(hs:s0.site=(s+1:Nat))(hb:s0.body=[])(he:s0.sY=[])(ok:∃o,SOk m.D cq o s0)(hc:Jj m.aF s0):Rt m k dep s (s+1) [s0]:=by
 have e:w9 [s0] k=[(s0,k)]:=by rw[w9,w9,jM,Y2,hb,he];rfl
 refine⟨λz hz=> ?_,?_⟩;rw[e]at hz;rw[fY.1 hz];exact⟨ok,hc,bu⟩;rw[e];show Up s (s+1) [s0.site];rw[hs];exact Up.one s
structure Mk.Rok(m:Mk):Prop where
 vars:(m.D.params.length:Int)<m.D.vars
 arr:0<m.D.aK.length
 refs:m.D.refs=2
 aF:∀h∈m.aF,(1<=h.id∧h.id<=100)∧h.params.length<=12∧h.given.length<=4
def Mk.Bc{m:Mk}(h:m.Rok)(a:Nat):(m.D.params.length:Int)<=m.tg a∧m.tg a<=m.D.vars - 1:=by have h1:=h.vars;have e:=m.M5;have:=m.bS a (n:=m.D.vars - m.nP) af;unfold Mk.tg;omega
def iV{d:Df}{o:Nat}{op:Int}(e:op=o){s:Nat}(hs:s<1000000){n m v:Int}{x y:Ex}{c:Co}(ho:1<=o∧o<=24)(hn:iL d cq (Ox o).n n)(hm:iL d cq (Ox o).m m)(hv:iL d cq (Ox o).v v)(hx:XOk d (Ox o).x x)(hy:XOk d (Ox o).y y)(hc:TOk d (Ox o).c c)(hl:(Ox o).call=false):∃o,SOk d cq o (S0 (s+1:Nat) op n m v x y c):=⟨o,e,ho,⟨by show(1:Int)<=((s+1:Nat):Int);omega,by show((s+1:Nat):Int)<=_;omega⟩,hn,hm,hv,hx,hy,hc,by rw[hl];exact⟨rfl,rfl⟩,.inr rfl,.inr rfl⟩
def dQ{hs:List Hd}{s:Sm}(h:s.op≠13):Jj hs s:=λe=>absurd e h
section
variable{d:Df}
def n3(h:d.refs=2){n:Int}(hn:0<=n∧n<2):iL d cq 3 n:=⟨hn.1,by rw[h];omega⟩
def n5{n:Int}(h:0<=n∧n<2):iL d cq 5 n:=⟨h.1,by show n<=((2:Nat):Int) - 1;omega⟩
def n6{n:Int}(h:0<=n∧n<2):iL d cq 6 n:=⟨h.1,by show n<=((2:Nat):Int) - 1;omega⟩
def n7:iL d cq 7 0:=⟨af,by show(0:Int)<=((1:Nat):Int) - 1;omega⟩
def n8{n:Int}(h:0<=n∧n<3):iL d cq 8 n:=⟨h.1,by show n<=((3:Nat):Int) - 1;omega⟩
def n9{n:Int}(h:0<=n∧n<3):iL d cq 9 n:=⟨h.1,by show n<=3 - 1;omega⟩
def n10{n:Int}(h:0<=n∧n<3):iL d cq 10 n:=⟨h.1,by show n<=3 - 1;omega⟩
def n4{n:Int}(h:0<=n∧n<d.aK.length):iL d cq 4 n:=⟨h.1,af⟩
end
def Mk.TC{m:Mk}(h:m.Rok)(k dep a s:Nat)(hs:s+10<1000000):Rt m k dep s (m.simple a s).2.2 (m.simple a s).1:=by
 have tg:=λa=>m.Bc h a;have hv:0<m.D.vars:=AG
 have na:=h.arr;have b4:=λa=>m.bS a (n:=4) af;have b2:=λa=>m.bS a (n:=2) af;have b3:=λa=>m.bS a (n:=3) af;have b9:=λa=>m.bS a (n:=9) af;have e4:=λa=>WL m.D (v:=m.nx a 4) (by have:=b4 a;omega);have e9:=λa=>WL m.D (v:=m.nx a 9) (by have:=b9 a;omega);unfold Mk.simple;repeat' split
 refine Rt.flat rfl rfl rfl ?_ (dQ eW);exact iV (o:=2) rfl af af (tg _) (n4 af) rfl (e4 _) rfl rfl rfl;refine Rt.flat rfl rfl rfl ?_ (dQ eW);exact iV (o:=3) rfl af af rfl (n4 af) rfl (e4 _) (m.v hv af _) rfl rfl;refine Rt.flat rfl rfl rfl ?_ (dQ eW);exact iV (o:=4) rfl af af (tg _) (n5 (b2 _)) rfl rfl rfl rfl rfl;refine Rt.flat rfl rfl rfl ?_ (dQ eW);exact iV (o:=20) rfl af af (tg _) (n6 (b2 _)) rfl rfl rfl rfl rfl
 exact(Rt.flat rfl rfl rfl (iV (o:=16) rfl af af rfl (n9 (b3 _)) rfl rfl rfl rfl rfl) (dQ eW)).app ((Rt.flat rfl rfl rfl (iV (o:=5) rfl af af rfl (n5 af) rfl (e9 _) rfl rfl rfl) (dQ eW)).app
  (Rt.flat rfl rfl rfl (iV (o:=17) rfl af af rfl (n9 (b3 _)) rfl rfl rfl rfl rfl) (dQ eW)))
 exact(Rt.flat rfl rfl rfl (iV (o:=6) rfl af af (n3 h.refs af) rfl rfl rfl rfl rfl rfl) (dQ eW)).app ((Rt.flat rfl rfl rfl (iV (o:=9) rfl af af (n3 h.refs af) rfl rfl (m.v hv af _) rfl rfl rfl) (dQ eW)).app
  (Rt.flat rfl rfl rfl (iV (o:=7) rfl af af (n3 h.refs af) rfl rfl rfl rfl rfl rfl) (dQ eW)))
 refine Rt.flat rfl rfl rfl ?_ (dQ eW);exact iV (o:=1) rfl af af (tg _) rfl rfl (m.v hv af _) rfl rfl rfl
def Mk.Xk{m:Mk}(h:m.Rok)(k dep a s:Nat)(hs:s+10<1000000):Rt m k dep s (m.risky a s).2.2 [(m.risky a s).1]:=by
 have tg:=λa=>m.Bc h a;have hv:0<m.D.vars:=AG
 have na:=h.arr;have eA:=m.nA_eq;have bA:=λa=>m.bS a (n:=m.nA) af;have b2:=λa=>m.bS a (n:=2) af;have b3:=λa=>m.bS a (n:=3) af;have v1:=λa=>m.v hv (n:=1) af a;have r:=h.refs;have t:=m.t hv;have key:(λz:Sm×Nat×Nat=>Rt m k dep s z.2.2 [z.1]) (m.risky a s):=by
  unfold Mk.risky;repeat' refine Yy (P:=λz:Sm×Nat×Nat=>Rt m k dep s z.2.2 [z.1]) ?_ ?_
  all_goals dsimp only
  refine Rt.flat rfl rfl rfl ?_ (dQ eW);exact iV (o:=2) rfl af af (tg _) (n4 (by have:=bA (a+1+1);omega)) rfl (v1 _) rfl rfl rfl;refine Rt.flat rfl rfl rfl ?_ (dQ eW);exact iV (o:=3) rfl af af rfl (n4 (by have:=bA (a+1);omega)) rfl (v1 _) (v1 _) rfl rfl;refine Rt.flat rfl rfl rfl ?_ (dQ eW);exact iV (o:=5) rfl af af rfl (n5 (b2 _)) rfl (v1 _) rfl rfl rfl;refine Rt.flat rfl rfl rfl ?_ (dQ eW);exact iV (o:=6) rfl af af (n3 r (b2 _)) rfl rfl rfl rfl rfl rfl;refine Rt.flat rfl rfl rfl ?_ (dQ eW);exact iV (o:=7) rfl af af (n3 r (b2 _)) rfl rfl rfl rfl rfl rfl;refine Rt.flat rfl rfl rfl ?_ (dQ eW);exact iV (o:=8) rfl af af (n3 r (b2 _)) (n3 r (b2 _)) rfl rfl rfl rfl rfl;refine Rt.flat rfl rfl rfl ?_ (dQ eW);exact iV (o:=10) rfl af af (tg _) (n3 r (b2 _)) rfl rfl rfl rfl rfl;have q:=b2 (a+1);rcases(show m.nx (a+1) 2=0∨m.nx (a+1) 2=1 by omega)with e|e;refine Rt.flat rfl rfl rfl ?_ (dQ (by show(16+m.nx (a+1) 2)≠13;omega));exact iV (o:=16) af af af rfl (n9 (b3 _)) rfl rfl rfl rfl rfl;refine Rt.flat rfl rfl rfl ?_ (dQ (by show(16+m.nx (a+1) 2)≠13;omega));exact iV (o:=17) af af af rfl (n9 (b3 _)) rfl rfl rfl rfl rfl;refine Rt.flat rfl rfl rfl ?_ (dQ eW);exact iV (o:=18) rfl af af rfl n7 rfl (v1 _) rfl rfl rfl;refine Rt.flat rfl rfl rfl ?_ (dQ eW);exact iV (o:=19) rfl af af (tg _) n7 rfl rfl rfl rfl rfl;refine Rt.flat rfl rfl rfl ?_ (dQ eW);exact iV (o:=21) rfl af af rfl (n8 (b3 _)) rfl (v1 _) rfl rfl rfl;refine Rt.flat rfl rfl rfl ?_ (dQ eW);exact iV (o:=22) rfl af af rfl (n10 (b3 _)) rfl rfl rfl rfl rfl;refine Rt.flat rfl rfl rfl ?_ (dQ eW);exact iV (o:=23) rfl af af rfl rfl rfl rfl rfl (t _) rfl;refine Rt.flat rfl rfl rfl ?_ (dQ eW);exact iV (o:=9) rfl af af (n3 r (b2 _)) rfl rfl (v1 _) rfl rfl rfl
 exact key
theorem Mk.Hj{m:Mk}(hv:0<m.D.vars)(a:Nat):∀i,(m.args a i).1.length=i∧∀e∈(m.args a i).1,VOk m.D e|0=>⟨rfl,λe he=>by simp[Mk.args]at he⟩|i+1=>by have ih:=Mk.Hj hv a i;simp only[Mk.args];refine⟨by rw[fA,ih.1];rfl,λe he=> ?_⟩;rcases d_.1 he with he|he;exact ih.2 e he;rw[fY.1 he];exact m.v hv af _
theorem Mk.FP{m:Mk}(h:m.Rok)(a:Nat):∀i,∀n∈m.cO a i,iL m.D cq 3 n|0=>λn hn=>by simp[Mk.cO]at hn|i+1=>λn hn=>by simp only[Mk.cO]at hn;rcases d_.1 hn with hn|hn;exact Mk.FP h a i n hn;rw[fY.1 hn];exact n3 h.refs (m.bS _ af)
def Mk.hd_of{m:Mk}(h:m.aF.length≠0)(a:Nat):m.hd a∈m.aF:=by
 have e:m.nH=m.aF.length:=by simp[Mk.nH]
 have b:=m.bS a (n:=m.nH) af;unfold Mk.hd;rw[Ko,iM af];exact cU _
def Mk.call_rt{m:Mk}(h:m.Rok)(k dep a s d:Nat)(hs:s+10<1000000):Rt m k dep s (s+1) [(m.call a s d).1]:=by
 have tg:=λa=>m.Bc h a;have hv:0<m.D.vars:=AG
 unfold Mk.call;split;refine Rt.flat rfl rfl rfl ?_ (dQ eW);exact iV (o:=1) rfl af af (tg _) rfl rfl (WL _ af) rfl rfl rfl;rename_i hh;have hm:=m.hd_of (λe=>hh (.inl e)) (a+1);have hd:=h.aF _ hm;have ha:=Mk.Hj hv (a+1+1) (m.hd (a+1)).params.length;have hp:=Mk.FP h (m.args (a+1+1) (m.hd (a+1)).params.length).2 (m.hd (a+1)).given.length;have hpl:=m.FQ (m.args (a+1+1) (m.hd (a+1)).params.length).2 (m.hd (a+1)).given.length;dsimp only;refine Rt.flat rfl rfl rfl ⟨13,rfl,af,⟨by show(1:Int)<=((s+1:Nat):Int);omega,by show((s+1:Nat):Int)<=_;omega⟩,tg _,⟨hd.1.1,by show(m.hd (a+1)).id<=_;omega⟩,rfl,rfl,rfl,rfl,⟨⟨ha.2,by show(m.args _ _).1.length<=12;rw[ha.1];exact hd.2.1⟩,hp,by show(m.cO _ _).length<=4;rw[hpl];exact hd.2.2⟩,.inr rfl,.inr rfl⟩ (λ_=>⟨_,hm,rfl,ha.1.symm,hpl.symm⟩)
def Mk.XE{m:Mk}(h:m.Rok)(kk:Int)(k dep dp:Nat)(x:Ms)(hs:x.s+10<1000000):Rt m k dep x.s (m.other kk dp x).2.s (m.other kk dp x).1:=by
 have hv:0<m.D.vars:=AG
 have b3:=m.bS x.a (n:=3) af;unfold Mk.other;repeat' split
 exact m.call_rt h k dep _ _ _ hs;refine Rt.flat rfl rfl rfl ?_ (dQ eW);exact iV (o:=14) rfl af af rfl rfl (by show 1<=_∧_<=(31:Int);omega) rfl rfl rfl rfl;refine Rt.flat rfl rfl rfl ?_ (dQ eW);exact iV (o:=24) rfl af af rfl rfl rfl (m.v hv af _) rfl rfl rfl;exact m.TC h k dep _ _ hs;exact m.Xk h k dep _ _ hs
def LRt(m:Mk)(dep:Nat)(R:Nat->Ms->List Sm×Ms):Prop:=∀n x k,x.s+10*x.l+10<1000000->Rt m k dep x.s (R n x).2.s (R n x).1
def Mk.T3{m:Mk}(h:m.Rok){dep:Nat}{R:Nat->Ms->List Sm×Ms}(hR:LRt m dep R)(hu:∀n x,jC x (R n x).2)(kk:Int)(x:Ms)(k:Nat)(hs:x.s+10*x.l+12<1000000):Rt m k (dep+1) x.s (m.nested R kk x).2.s [(m.nested R kk x).1]:=by
 have tg:=λa=>m.Bc h a;have hv:0<m.D.vars:=AG
 have t:=m.t hv;have sok:(1:Int)<=((x.s+1:Nat):Int)∧((x.s+1:Nat):Int)<=1073741824:=af
 unfold Mk.nested;split;have b3:=m.bS (m.cond 1 x.a).2 (n:=3) af;dsimp only;refine Rt.nest rfl ⟨12,rfl,af,sok,rfl,rfl,?_,rfl,rfl,t _,⟨rfl,rfl⟩,.inl rfl,.inr rfl⟩ (dQ (by simp[Sm.op])) (hR (1+m.nx ((m.cond 1 x.a).2+1) 2).toNat ⟨(m.cond 1 x.a).2+1+1,x.s+1,x.l,x.d⟩ (k+1) bu) (Rt.nil _ _ _ _);show 1<=1+m.nx (m.cond 1 x.a).2 3∧1+m.nx (m.cond 1 x.a).2 3<=(16:Int);omega;split;have u:=hu (1+m.nx (x.a+1) 2).toNat ⟨x.a+1+1,x.s+1,x.l,x.d⟩;simp only[jC]at u;dsimp only;refine Rt.nest rfl ⟨15,rfl,af,sok,tg _,rfl,rfl,rfl,rfl,rfl,⟨rfl,rfl⟩,.inl rfl,.inl rfl⟩ (dQ (by simp[Sm.op])) (hR (1+m.nx (x.a+1) 2).toNat ⟨x.a+1+1,x.s+1,x.l,x.d⟩ (k+1) bu) ?_;exact hR _ ⟨(R (1+m.nx (x.a+1) 2).toNat ⟨x.a+1+1,x.s+1,x.l,x.d⟩).2.a+1,(R (1+m.nx (x.a+1) 2).toNat ⟨x.a+1+1,x.s+1,x.l,x.d⟩).2.s,(R (1+m.nx (x.a+1) 2).toNat ⟨x.a+1+1,x.s+1,x.l,x.d⟩).2.l,(R (1+m.nx (x.a+1) 2).toNat ⟨x.a+1+1,x.s+1,x.l,x.d⟩).2.d⟩ (k+1) bu;have u:=hu (1+m.nx (m.cond 1 x.a).2 2).toNat ⟨(m.cond 1 x.a).2+1,x.s+1,x.l,x.d⟩;simp only[jC]at u;dsimp only;refine Rt.nest rfl ⟨11,rfl,af,sok,rfl,rfl,rfl,rfl,rfl,t _,⟨rfl,rfl⟩,.inl rfl,.inl rfl⟩ (dQ (by simp[Sm.op])) (hR (1+m.nx (m.cond 1 x.a).2 2).toNat ⟨(m.cond 1 x.a).2+1,x.s+1,x.l,x.d⟩ (k+1) bu) ?_;exact hR _ ⟨(R (1+m.nx (m.cond 1 x.a).2 2).toNat ⟨(m.cond 1 x.a).2+1,x.s+1,x.l,x.d⟩).2.a+1,(R (1+m.nx (m.cond 1 x.a).2 2).toNat ⟨(m.cond 1 x.a).2+1,x.s+1,x.l,x.d⟩).2.s,(R (1+m.nx (m.cond 1 x.a).2 2).toNat ⟨(m.cond 1 x.a).2+1,x.s+1,x.l,x.d⟩).2.l,(R (1+m.nx (m.cond 1 x.a).2 2).toNat ⟨(m.cond 1 x.a).2+1,x.s+1,x.l,x.d⟩).2.d⟩ (k+1) bu
theorem KE{m:Mk}{k dep:Nat}{step:Ms->List Sm×Ms}(h:∀x,x.l≠0->x.s+10*x.l+10<1000000->Rt m k dep x.s (step x).2.s (step x).1)(hu:∀x,x.l≠0->jC x (step x).2):∀n x,x.s+10*x.l+10<1000000->Rt m k dep x.s (pC step n x).2.s (pC step n x).1|0,x,_=>Rt.nil _ _ _ _|n+1,x,hx=>by rw[pC];split;exact Rt.nil _ _ _ _;rename_i hl;have u:=hu x hl;have:=u.2.1;exact(h x hl hx).app (KE h hu n _ af)
def Mk.Sf{m:Mk}(h:m.Rok)(dep:Nat){R:Nat->Ms->List Sm×Ms}(hR:∀e,dep=e+1->LRt m e R)(hu:∀n x,jC x (R n x).2)(k:Nat)(x:Ms)(hl:x.l≠0)(hs:x.s+10*x.l+10<1000000):Rt m k dep x.s (m.step dep R x).2.s (m.step dep R x).1:=by unfold Mk.step;split;rename_i hd;obtain⟨e,rfl⟩:∃e,dep=e+1:=⟨dep - 1,af⟩;exact m.T3 h (hR e rfl) hu _ ⟨x.a+1,x.s,x.l-1,x.d⟩ k bu;exact m.XE h _ k dep dep ⟨x.a+1,x.s,x.l-1,x.d⟩ bu
theorem Mk.Mm{m:Mk}(h:m.Rok):∀dep,LRt m dep (m.stmts dep)
 |0=>λn x k hx=>by
  have hh:∀h∈m.aF,h.params.length<=12∧h.given.length<=12:=λy hy=>by have:=h.aF y hy;omega
  rw[Mk.stmts];exact KE (λy hl hy=>m.Sf h 0 (λe he=>af) (λn x=>jC.refl x) k y hl hy) (λy hl=>(m.wu hh 0 (λn x=>jC.refl x) y hl).1) n x hx
 |dep+1=>λn x k hx=>by
  have hh:∀h∈m.aF,h.params.length<=12∧h.given.length<=12:=λy hy=>by have:=h.aF y hy;omega
  rw[Mk.stmts];exact KE (λy hl hy=>m.Sf h (dep+1) (λe he=>by cases he;exact Mk.Mm h dep) (m.lC hh dep) k y hl hy) (λy hl=>(m.wu hh (dep+1) (m.lC hh dep) y hl).1) n x hx
def Df.fn(d:Df)(fm:Int)(nm:List UInt8):Df:=⟨d.id,d.site,nm,fm,d.part,d.params,d.given,d.vars,d.refs,d.aK,d.lW,d.body⟩
structure aa5(hs:List Hd)(id:Int)(s t:Nat)(d:Df):Prop where
 id:d.id=id
 base:∀fm nm,NmOk nm->0<=fm∧fm<=1->LQ (d.fn fm nm) cq
 xd:0<=d.xd∧d.xd<=1
 name:NmOk d.name
 calls:∀z∈w9 d.body 1,Jj hs z.1
 sites:Up s t (Si d)
 np:d.params.length<=12∧d.given.length<=4
def Zz:DcOk cq:=by
 have r:∀a b c:Int,-2147483648<=a->a<=b->b<=2147483647->0<=c∧c<=255->B_ ⟨a,b,c⟩:=λa b c h1 h2 h3 h4=>⟨h1,h2,h3,h4⟩;refine⟨⟨λx hx=> ?_,az⟩,⟨λx hx=> ?_,az⟩,⟨λx hx=> ?_,az⟩,⟨λx hx=> ?_,az⟩,az,az,az⟩;simp only[cq,bT,te,o_]at hx;rcases hx with rfl|rfl<;>exact r _ _ _ af af af af
 simp only[cq,bT,te,o_]at hx;rcases hx with rfl|rfl<;>exact r _ _ _ af af af af;simp only[cq,bT,te,o_]at hx;subst hx;exact⟨r _ _ _ af af af af,az⟩;simp only[cq,bT,te,o_]at hx;rcases hx with rfl|rfl|rfl<;>omega
theorem Mk.Bp(m:Mk)(a:Nat):∀i,∀r∈m.params a i,B_ r|0=>λr hr=>by simp[Mk.params]at hr|i+1=>λr hr=>by simp only[Mk.params]at hr;rcases d_.1 hr with hr|hr;exact Mk.Bp m a i r hr;rw[fY.1 hr];have h:=we (m.KG (a+i));simp only[TO,bT,te,o_]at h;rcases h with h|h|h|h<;>rw[h]<;>exact⟨az,az,az,az⟩
def Mk.LJ(m:Mk)(a:Nat):1<=m.lW a∧m.lW a<=20000:=by have h:=we (m.yA a);simp only[B3,bT,te,o_]at h;rcases h with h|h|h|h<;>rw[h]<;>omega
def nm_ok(j:Nat)(h:j<4):NmOk (nameOf (11+j)):=by rcases(show j=0∨j=1∨j=2∨j=3 by omega)with rfl|rfl|rfl|rfl<;>exact y9
def Mk.Xy(m:Mk)(a:Nat):0<=m.dD a∧m.dD a<=2:=by
 have h:=m.bS (a+1) (n:=6) af;have h1:0<=(m.nx (a+1) 6).tdiv 2∧(m.nx (a+1) 6).tdiv 2<6:=by rw[gP h.1];omega
 have h2:IntKind.i64.wrap ((m.nx (a+1) 6).tdiv 2)=(m.nx (a+1) 6).tdiv 2:=JC
 unfold Mk.dD;rw[h2,Fp h1.1];omega
def Mk.QJ(m:Mk)(hh:∀h∈m.aF,(1<=h.id∧h.id<=100)∧h.params.length<=12∧h.given.length<=4)(j:Nat)(hj:j<4)(a s:Nat)(hs:s+200<1000000)(part:Int)(hp:0<=part∧part<=2)(c:Nat)(hc:c<=2)(gs:List pL)(hg:gs=[]∨gs=[dh])(b2:Nat)(ar:List Ar)(ha:ar=[⟨4,0⟩]∨(ar=[⟨4,0⟩,⟨8,1⟩]∧0<c)):aa5 m.aF (11+j) s ((m.de (11+j) a s part c gs b2 ar).2.s+1) (m.de (11+j) a s part c gs b2 ar).1:=by
 have pl:=m.jf (a+1+1+1+1+1) c;have pl2:((m.params (a+1+1+1+1+1) c).map bp).length=c:=JQ
 have bv:=m.bS ((a+1+1+1+1+1+c)+1) (n:=2) af;have bf:=m.bS a (n:=2) af;have bb:=m.LJ (a+1+1);have pr:=m.Bp (a+1+1+1+1+1) c;have gl:gs.length<=1:=by rcases hg with rfl|rfl<;>simp
 have gr:∀r∈gs,B_ r:=by rcases hg with rfl|rfl;intro r hr;simp at hr;intro r hr;rw[fY.1 hr];exact⟨az,az,az,az⟩
 have al:0<ar.length∧ar.length<=2:=by rcases ha with rfl|⟨rfl,_⟩<;>simp
 have ao:∀x∈ar,(1<=x.len∧x.len<=64)∧0<=x.yE ∧x.yE <=(c:Int):=by rcases ha with rfl|⟨rfl,h0⟩;intro x hx;rw[fY.1 hx];exact bu;intro x hx;simp only[bT,te,o_]at hx;rcases hx with rfl|rfl<;>dsimp only<;>omega
 obtain⟨D0,hD0⟩:∃D0,D0=m.dG (11+j) a part (m.params (a+1+1+1+1+1) c) gs ((((m.params (a+1+1+1+1+1) c).map bp).length:Nat)+2+m.nx ((a+1+1+1+1+1+c)+1) 2) 2 ar [] 0:=⟨_,rfl⟩;have rok:(m.bU D0).Rok:=by rw[hD0];exact⟨by show((m.params (a+1+1+1+1+1) c).length:Int)<(((m.params (a+1+1+1+1+1) c).map bp).length:Nat)+2+m.nx ((a+1+1+1+1+1+c)+1) 2;rw[pl,pl2];omega,al.1,rfl,hh⟩
 have rt:=(m.bU D0).Mm rok 2 (1+m.nx b2 5).toNat ⟨b2+1,s,9,0⟩ 1 bu;have us:=(m.bU D0).lC (λh hx=>by have:=hh h hx;omega) 2 (1+m.nx b2 5).toNat ⟨b2+1,s,9,0⟩;simp only[jC]at us;have eR:m.de (11+j) a s part c gs b2 ar=(m.dG (11+j) a part (m.params (a+1+1+1+1+1) c) gs ((((m.params (a+1+1+1+1+1) c).map bp).length:Nat)+2+m.nx ((a+1+1+1+1+1+c)+1) 2) 2 ar ((m.bU D0).stmts 2 (1+m.nx b2 5).toNat ⟨b2+1,s,9,0⟩).1 (((m.bU D0).stmts 2 (1+m.nx b2 5).toNat ⟨b2+1,s,9,0⟩).2.s+1:Nat),((m.bU D0).stmts 2 (1+m.nx b2 5).toNat ⟨b2+1,s,9,0⟩).2):=by rw[hD0];rfl
 rw[eR];generalize (m.bU D0).stmts 2 (1+m.nx b2 5).toNat ⟨b2+1,s,9,0⟩=r at*;dsimp only at rt;have hup:Up s (r.2.s+1) (uX (w9 r.1 1)++[((r.2.s+1:Nat):Int)]):=rt.up.app (Up.one r.2.s);have hlen:=rt.up.len;rw[uX,cZ,BQ]at hlen;have hse:=rt.up.le;refine⟨rfl,λfm nm hn hf=> ?_,by show 0<=m.nx a 2∧m.nx a 2<=1;omega,nm_ok j hj,λz hz=>(rt.ok z hz).2.1,hup,⟨by show(m.params _ _).length<=12;omega,by show gs.length<=4;omega⟩⟩;refine⟨⟨?_,?_,?_,az,az,az,az,az,az,az⟩,?_,?_,hn,?_,?_,?_,?_,bb,pr,gr,⟨λx hx=> ?_,?_⟩,?_,λz hz=> ?_,λz hz=> ?_,?_⟩;show((((m.params _ _).map bp).length:Nat):Int)+2+_<_;rw[pl2];omega;show(2:Int)<_;omega;show ar.length<_;omega;show(1:Int)<=11+j∧(11:Int)+j<=_;omega;show(1:Int)<=((r.2.s+1:Nat):Int)∧((r.2.s+1:Nat):Int)<=_;omega;show 0<=fm∧fm<=2 - 1;omega;show 0<=part∧part<=3 - 1;omega;show((m.params _ _).length:Int)<=((((m.params _ _).map bp).length:Nat):Int)+2+_∧((((m.params _ _).map bp).length:Nat):Int)+2+_<=_;rw[pl,pl2];omega;show(gs.length:Int)<=2∧(2:Int)<=4;omega;have:=ao x hx;exact⟨this.1,by show 0<=x.yE ∧x.yE <=((m.params _ _).length:Int);rw[pl];exact this.2⟩;show ar.length<=4;omega;show zp r.1<=199;omega;exact en (rt.ok z hz).2.2 af;obtain⟨o,ho⟩:=(rt.ok z hz).1;subst hD0;exact⟨o,ho.op,ho.kind,ho.site,ho.n,ho.m,ho.v,ho.x,ho.y,ho.c,ho.args,ho.body,ho.sY⟩;have hi:=hup.inc;have hnd:(uX (w9 r.1 1)++[((r.2.s+1:Nat):Int)]).Nodup:=hi.imp (λh=>af);show(((r.2.s+1:Nat):Int)::uX (w9 r.1 1)).Nodup;exact(List.perm_append_singleton _ _).nodup_iff.1 hnd
def Mk.UO(m:Mk)(hh:∀h∈m.aF,(1<=h.id∧h.id<=100)∧h.params.length<=12∧h.given.length<=4)(j:Nat)(hj:j<4)(th:Bool)(a s:Nat)(hs:s+200<1000000):aa5 m.aF (11+j) s ((m.mj (11+j) th a s).2.s+1) (m.mj (11+j) th a s).1:=by
 have bX:=m.bS (a+1+1+1+1) (n:=3) af;have hp:=m.Xy a;obtain⟨c,hc,hc2⟩:∃c,(if th then 0 else(m.nx (a+1+1+1+1) 3).toNat)=c∧c<=2:=⟨_,rfl,iT⟩;have g1:∀b:Bool,(if b then[dh]else[])=[]∨(if b then[dh]else[])=[dh]:=by intro b;cases b<;>simp
 have g2:∀b:Bool,(if b then[⟨4,0⟩,⟨8,1⟩]else[⟨4,0⟩]:List Ar)=[⟨4,0⟩]∨(if b then[⟨4,0⟩,⟨8,1⟩]else[⟨4,0⟩]:List Ar)=[⟨4,0⟩,⟨8,1⟩]:=by intro b;cases b<;>simp
 unfold Mk.mj;rw[hc];refine m.QJ hh j hj a s hs _ ?_ _ hc2 _ (g1 _) _ _ ?_;split<;>omega;by_cases h0:c=0;rw[aq h0];exact .inl rfl;rw[ah h0];exact(g2 _).imp id λe=>⟨e,af⟩
def AZ:=@List.mem_iff_getElem
structure Q4(ds:List Df)(t:Nat):Prop where
 get:∀k (hk:k<ds.length),∃u v,aa5 ((ds.take k).map lV) (11+k) u v ds[k]
 sites:Up 100 t (ds.flatMap Si)
def Q4.snoc{ds:List Df}{t u:Nat}{d:Df}(h:Q4 ds t)(hd:aa5 (ds.map lV) (11+ds.length) t u d):Q4 (ds++[d]) u:=by refine⟨λk hk=> ?_,?_⟩;rw[fA,tt]at hk;by_cases hlt:k<ds.length;rw[List.take_append_of_le_length af,List.getElem_append_left hlt];exact h.get k hlt;have e:k=ds.length:=af;subst e;rw[List.take_left,List.getElem_append_right (cu _)];simp only[lP,List.getElem_cons_zero];exact⟨t,u,hd⟩;rw[AY,List.flatMap_singleton];exact h.sites.app hd.sites
def Q4.aF{ds:List Df}{t:Nat}(h:Q4 ds t)(hl:ds.length<=80):∀x∈ds.map lV,(1<=x.id∧x.id<=100)∧x.params.length<=12∧x.given.length<=4:=λx hx=>by obtain⟨d,hd,rfl⟩:=dM.1 hx;obtain⟨k,hk,rfl⟩:=AZ.1 hd;obtain⟨u,v,g⟩:=h.get k hk;refine⟨?_,g.np⟩;show 1<=ds[k].id∧ds[k].id<=100;rw[g.id];omega
theorem Is(L:List UInt8)(n:Nat):∀i,i<=4->Q4 (cd L n i).defs (cd L n i).s|0,_=>⟨λk hk=>by simp[cd]at hk,Up.nil 100⟩|i+1,hi=>by have ih:=Is L n i af;have ok:=nE L n i;have hs:=ok.s;have hn:=ok.nd;have hh:=wM L n i;have g:=((cd L n i).mk' L).UO (by rw[show((cd L n i).mk' L).aF=(cd L n i).aF from rfl,hh];exact ih.aF af) i af (Np L (i+1==n) (cd L n i)) (Gz (i+1==n) (cd L n i)) (cd L n i).s af;rw[show((cd L n i).mk' L).aF=(cd L n i).aF from rfl,hh]at g;refine ih.snoc ?_;rw[hn];exact g
def Uf(L:List UInt8):∃t,t<=464∧Q4 (mR L).defs t:=by obtain⟨n,e,h1,h2⟩:=zO L;rw[e];exact⟨_,by have:=(nE L n n).s;omega,Is L n n h1⟩
section
variable{c:Wc}{w:Wk}{h:Hd}{y:Sy}
def Mc(hf:se c.d w.f)(ht:se c.d w.th)(b:Int):se c.d (jt b w).th∧(jt b w).f=w.f:=by unfold jt;split;exact⟨ht,rfl⟩;exact⟨hf,rfl⟩
def IC(hc:kP c)(hw:iK c w)(ht:se c.d w.th){k:Nat}{z:Nat}(he:jY c.d.vars c.d.aK.length k c.s.x z)(hn:0<=c.s.m∧c.s.m<c.d.aK.length):Kp c (iZ c w)∧((iZ c w).2=false->iK c (iZ c w).1):=by have h1:=(CK hc hw he hn).2;exact⟨⟨λh=> .inr (h1 h).f,by rw[Un];exact ht⟩,h1⟩
def Nr{l:List Int}(h:∀n∈l,0<=n∧n<=255){n:Int}(hn:n.toNat<l.length):0<=dS l n∧dS l n<=255:=by
 have e:dS l n=l[n.toNat]:=by unfold dS;simp[hn]
 rw[e];exact h _ (cU hn)
def call_kp(hc:kP c)(hw:iK c w)(ht:se c.d w.th)(hi:CIn c h y)(hav:0<=c.s.n->aU ⟨y.LR,y.LS,y.rm,y.rr,y.nW⟩):Kp c (qh c h y w):=by
 have hwp:=hw.f.parts;have hp:=hi.part;have hld:=hi.ld;have d3:=C4 (m:=h.part) af;have hw1:=hw.find (c:=c) (k:=13) af (pV w.f.parts h.part.toNat);have hf1:=CP c 13 (pV w.f.parts h.part.toNat) w;have ht1:se c.d (cV c 13 (pV w.f.parts h.part.toNat) w).th:=AJ
 have hw0:iK c (A' (gZ h.part) (cV c 13 (pV w.f.parts h.part.toNat) w)):=by have b:=rO (a:=w.f.parts) (b:=gZ h.part) (n:=16) af hwp.1 af af d3.2;exact hw1.L6 (f:={(cV c 13 (pV w.f.parts h.part.toNat) w).f with parts:=iD (cV c 13 (pV w.f.parts h.part.toNat) w).f.parts (gZ h.part)}) (hw1.f.part (by rw[hf1];omega))
 have ht0:se c.d (A' (gZ h.part) (cV c 13 (pV w.f.parts h.part.toNat) w)).th:=ht1;unfold qh;generalize A' (gZ h.part) (cV c 13 (pV w.f.parts h.part.toNat) w)=w0 at hw0 ht0 ⊢;have hwA:iK c (fV c h c.s.args 0 w0).1:=E_ hc hi.pr hw0 hi.ae (by have:=hi.al;omega);have htA:se c.d (fV c h c.s.args 0 w0).1.th:=by rw[Tc];exact ht0
 generalize fV c h c.s.args 0 w0=A at hwA htA ⊢;unfold Rs.and;split;exact .of hwA htA;show Kp c (Rs.and (fO c h c.s.cO 0 A.1) λw=>(PQ c y w,false));have hwP:iK c (fO c h c.s.cO 0 A.1).1:=KI hwA;have htP:se c.d (fO c h c.s.cO 0 A.1).1.th:=by rw[Su];exact htA
 generalize fO c h c.s.cO 0 A.1=B at hwP htP ⊢;unfold Rs.and;split;exact .of hwP htP;have h4:=hwP.find (c:=c) (k:=4) af (bz y.aM B.1.f.may==0);have h4t:se c.d (cV c 4 (bz y.aM B.1.f.may==0) B.1).th:=by rw[sS];exact htP
 have h5:=F4 (c:=c) (l:=y.dY) h4;have h5t:se c.d (lT c y.dY (cV c 4 (bz y.aM B.1.f.may==0) B.1)).th:=by rw[MP];exact h4t
 have e:PQ c y B.1=(if c.s.n>=0 then g_ c ⟨y.LR,y.LS,y.rm,y.rr,y.nW⟩ (A' y.mS (jt y.pU (nV c y.aM (lT c y.dY (cV c 4 (bz y.aM B.1.f.may==0) B.1)))))else A' y.mS (jt y.pU (nV c y.aM (lT c y.dY (cV c 4 (bz y.aM B.1.f.may==0) B.1))))):=rfl;generalize lT c y.dY (cV c 4 (bz y.aM B.1.f.may==0) B.1)=u at h5 h5t e;have hu:=h5.1.f;have h6:=Mc (c:=c) (w:=nV c y.aM u) (.inr hu) h5t y.pU;have hup:=hu.parts;have hL:qO c.d (A' y.mS (jt y.pU (nV c y.aM u))).f:=by show qO c.d {(jt y.pU (nV c y.aM u)).f with parts:=iD (jt y.pU (nV c y.aM u)).f.parts y.mS};rw[h6.2];have b:=rO (a:=u.f.parts) (b:=y.mS) (n:=16) af hup.1 af af af;exact hu.part (P:=iD u.f.parts y.mS) af
 have hT:se c.d (A' y.mS (jt y.pU (nV c y.aM u))).th:=h6.1;dsimp only;rw[e];split;rename_i hn;exact⟨λ_=> .inr (hL.set hn hi.nv (hav hn) zEx),hT⟩;exact⟨λ_=> .inr hL,hT⟩
def do_kp(hc:kP c)(hw:iK c w)(ht:se c.d w.th)(hp:PIn c.p)(hi:Vb c h y)(hav:c.s.op=13->0<=c.s.n->aU ⟨y.LR,y.LS,y.rm,y.rr,y.nW⟩):Kp c (kC c h y w):=by
 unfold kC;by_cases ho:c.s.op=1;rw[aq ho];obtain⟨k,z,he⟩:=hi.ex af;have hn:=hi.nv af;exact⟨λ_=> .inr (hw.f.set hn.1 hn.2 (sF hc hw he) c.s.x),ht⟩;rw[ah ho];clear ho;by_cases ho:c.s.op=2;rw[aq ho];obtain⟨k,z,he⟩:=hi.ex af;have hm:=hi.ma af;have h1:=IC hc hw ht he hm;unfold Rs.and;split;exact h1.1;rename_i h2;have hw2:=h1.2 qx;have hb:=Nr hw2.f.aa (n:=c.s.m) (by have:=hw2.f.arr;omega);exact uf hw2 h1.1.t (hi.nv af) (Oh hb.1 hb.2);rw[ah ho];clear ho;by_cases ho:c.s.op=3;rw[aq ho];obtain⟨k,z,he⟩:=hi.ex af;obtain⟨k2,z2,hy⟩:=hi.ey ho;have hm:=hi.ma af;have h1:=IC hc hw ht he hm;unfold Rs.and;split;exact h1.1;rename_i h2;have hw2:=h1.2 qx;have hb:=Nr hw2.f.aa (n:=c.s.m) (by have:=hw2.f.arr;omega);have hv:=sF hc hw2 hy;have k0:=hv.k0;have k1:=hv.k1;have b:=or8 hb.1 hb.2 k0 k1;refine⟨λ_=> .inr ?_,h1.1.t⟩;have hh:=hw2.f;exact⟨hh.live,hh.v,hh.va,hh.jh,hh.refs,hh.ra,by show(List.set _ _ _).length=_;rw[pO];exact hh.arr,mem_set hh.aa _ b,hh.ew,hh.may,hh.parts,hh.sub⟩;rw[ah ho];clear ho;by_cases ho:c.s.op=4;rw[aq ho];have hn:=hi.mg af;have hR:nU (dj c.p.d.globals c.s.m):=Vf
 exact uf hw ht (hi.nv af) hR.av;rw[ah ho];clear ho;by_cases ho:c.s.op=19;rw[aq ho];have hn:=hi.mq af;have hR:nU (pW c.p.d.eP c.s.m).r:=RX
 exact uf hw ht (hi.nv af) hR.av;rw[ah ho];clear ho;by_cases ho:c.s.op=20;rw[aq ho];have hn:=hi.mc af;have hR:nU (dj c.p.d.ft c.s.m):=by have e:dj c.p.d.ft c.s.m=c.p.d.ft[c.s.m.toNat]:=En;rw[e];exact hp.c _ (cU hn.2)
 exact uf hw ht (hi.nv af) hR.av;rw[ah ho];clear ho;by_cases ho:c.s.op=5∨c.s.op=18∨c.s.op=21;rw[aq ho];exact out_kp hc hw ht hi hp ho;rw[ah ho];clear ho;by_cases ho:c.s.op=6∨c.s.op=7∨c.s.op=8∨c.s.op=9∨c.s.op=10;rw[aq ho];exact move_kp hc hw ht hi;rw[ah ho];clear ho;by_cases ho:c.s.op=16∨c.s.op=17;rw[aq ho];exact lock_kp hw ht (hi.ml af);rw[ah ho];clear ho;by_cases ho:c.s.op=22;rw[aq ho];have hb:=C4 (hi.mu ho);have hwp:=hw.f.parts;have b:=rO (a:=w.f.parts) (b:=gZ c.s.m) (n:=16) af hwp.1 af af hb.2;exact⟨λ_=> .inr (hw.f.part af),ht⟩;rw[ah ho];clear ho;by_cases ho:c.s.op=23;rw[aq ho];obtain⟨k,z,he⟩:=hi.ec ho;have ht2:se c.d (cV c 10 (dW c.d c.s.c w.f false).dead w).th:=AJ
 exact⟨λ_=>oN hc.d.LM he (.inr hw.f) true,ht2⟩;rw[ah ho];clear ho;by_cases ho:c.s.op=14;rw[aq ho];have h6:=Mc (c:=c) (w:=w) (.inr hw.f) ht (gZ c.s.v);exact⟨λh=>absurd h ag,h6.1⟩;rw[ah ho];clear ho;by_cases ho:c.s.op=13;rw[aq ho];exact call_kp hc hw ht (hi.call ho) (hav ho);rw[ah ho];exact .of hw ht
def SQ(hc:kP c)(hw:iK c w)(ht:se c.d w.th)(hp:PIn c.p)(hi:Vb c h y)(hav:c.s.op=13->0<=c.s.n->aU ⟨y.LR,y.LS,y.rm,y.rr,y.nW⟩):se c.d (yW c h y w).f∧se c.d (yW c h y w).th:=by have h1:=do_kp hc hw ht hp hi hav;unfold yW;split;exact⟨.inl rfl,h1.t⟩;rename_i h2;exact⟨h1.f qx,h1.t⟩
def Sg{f:Fa}(hc:kP c)(hf:se c.d f)(hp:PIn c.p)(hi:Vb c h y)(hpn:c.d.params.length<=2)(hav:c.s.op=13->0<=c.s.n->aU ⟨y.LR,y.LS,y.rm,y.rr,y.nW⟩):C 108 [qb c.p,.agg [it c.level,fj 10 gM c.rules],bQ c.d,encS c.s,bg f,fj 11 eU c.ei] (z_ (nk c h y f)):=by
 have hl:f.dead=false->qO c.d f:=λhd=>Wg
 exact W8 hc hf hp hi hpn (λhd=>(SQ hc (PH (hl hd)) (.inl rfl) hp hi hav).1) (λhd=>(SQ hc (PH (hl hd)) (.inl rfl) hp hi hav).2)
end
def zv(l:List Rw):List Ru:=(l.take 6).map yS
def TL(l:List Rw)(hl:l.length<2^63)(hok:∀x∈l,QY x):C 33 [fj 9 DK l,it 6] (fj 10 gM (zv l)):=by
 unfold zv;have hm6:(l.take 6).length<=6:=q_
 have hml:(l.take 6).length<=l.length:=q_
 have hmin:(l.take 6).length=l.length∨(l.take 6).length=6:=q_
 have hget:∀k (h:k<(l.take 6).length) (h2:k<l.length),l[k]=(l.take 6)[k]:=λk h h2=>ag
 have hmm:∀k (h:k<l.length),QY l[k]:=λk h=>hok _ (cU h);generalize l.take 6=m at hm6 hml hmin hget ⊢;refine fo Tryz.func33 ?_;refine run ?_;refine bB.mk ⟨[],aZ.lp (λr:CR=>r.k<=m.length∧r.acc=((m.take r.k).map yS).map gM) (λr=>⟨[(6,it r.k),(5,.ref 7 r.acc.length)],[],[(7,⟨10,true,r.acc⟩)]⟩) (λr=>m.length - r.k) ⟨0,[]⟩ ⟨dL _,rfl⟩ ?_⟩;intro r hJ;have h1:=hJ.1;have h2:=hJ.2;have hlen:r.acc.length=r.k:=Wa
 by_cases hk:r.k<m.length;have hkl:r.k<l.length:=af
 have b1:decide ((r.k:Int)<((l.map DK).length:Nat))=true:=by simp;exact hkl
 have b2:decide ((r.k:Int)<6)=true:=aA
 have hc:=Yi l[r.k] (hmm r.k hkl);have hN:r.acc++[gM (yS l[r.k])]=((m.take (r.k+1)).map yS).map gM:=by rw[hget r.k hk hkl,h2,map_take hk,eI];rfl
 refine run ?_;refine a_.map hkl rfl ?_;refine aN ?_;exact OR;have e:r.acc=(m.map yS).map gM:=by rw[h2,og af]
 by_cases hkl:r.k<l.length;have b1:decide ((r.k:Int)<((l.map DK).length:Nat))=true:=(by simp;exact hkl);have b2:decide ((r.k:Int)<6)=false:=aA
 refine run ?_;exact fu.mk (aL (λx=>au.sl 10 x false) e) rfl;have b1:decide ((r.k:Int)<((l.map DK).length:Nat))=false:=aA;refine run ?_;exact fu.mk (aL (λx=>au.sl 10 x false) e) rfl
def SmR(r:pL):Prop:=(-16<=r.lo∧r.lo<=r.hi∧r.hi<=16)∧(0<=r.mask∧r.mask<=3)
structure Tn(d:Df):Prop where
 np:d.params.length<=2
 pr:∀r∈d.params,SmR r
 gr:∀r∈d.given,SmR r
 vars:1<=d.vars
theorem Mk.Ig(m:Mk)(a:Nat):∀i,∀r∈m.params a i,SmR r|0=>λr hr=>by simp[Mk.params]at hr|i+1=>λr hr=>by simp only[Mk.params]at hr;rcases d_.1 hr with hr|hr;exact Mk.Ig m a i r hr;rw[fY.1 hr];have h:=we (m.KG (a+i));simp only[TO,bT,te,o_]at h;rcases h with h|h|h|h<;>rw[h]<;>exact y9
def Mk.def_tn(m:Mk)(id:Int)(th:Bool)(a s:Nat):Tn (m.mj id th a s).1:=by
 have bX:=m.bS (a+1+1+1+1) (n:=3) af;have key:∀(part:Int) (c:Nat) (gs:List pL) (b2:Nat) (ar:List Ar),c<=2->(∀r∈gs,SmR r)->Tn (m.de id a s part c gs b2 ar).1:=λpart c gs b2 ar hc hg=>by refine⟨?_,?_,hg,?_⟩;show(m.params (a+1+1+1+1+1) c).length<=2;rw[m.jf];exact hc;exact m.Ig _ c;have:=m.bS ((a+1+1+1+1+1+c)+1) (n:=2) af;show 1<=((((m.params (a+1+1+1+1+1) c).map bp).length:Nat):Int)+2+m.nx ((a+1+1+1+1+1+c)+1) 2;omega
 unfold Mk.mj;refine key _ _ _ _ _ ?_ ?_;split<;>omega;have:∀b:Bool,∀r∈(if b then[dh]else[]),SmR r:=by intro b;cases b;intro r hr;cases hr;intro r hr;rw[fY.1 hr];exact y9
 exact this _
theorem Na(L:List UInt8)(n:Nat):∀i,∀d∈(cd L n i).defs,Tn d|0=>λd hd=>by simp[cd]at hd|i+1=>λd hd=>by rcases d_.1 hd with hx|hx;exact Na L n i d hx;have e:=fY.1 hx;subst e;exact((cd L n i).mk' L).def_tn (11+i) _ _ _
def Df.fn_self(d:Df):d.fn d.xd d.name=d:=rfl
structure C_(p:Pg):Prop where
 d:p.d=cq
 aF:p.aF=p.defs.map lV
 pos:0<p.defs.length
 le:p.defs.length<=4
 ids:Ids p.defs
 right:∀d∈p.defs,LQ d cq
 calls:∀d∈p.defs,∀z∈w9 d.body 1,Jj p.aF z.1
 tn:∀d∈p.defs,Tn d
 sz:∀d∈p.defs,aa9 0 d
def Qi(L:List UInt8):C_ (mR L):=by
 have h1:=Yj L;obtain⟨t,_,ha⟩:=Uf L;have get:∀d∈(mR L).defs,∃k u v,∃hk:k<(mR L).defs.length,aa5 (((mR L).defs.take k).map lV) (11+k) u v d:=λd hd=>by obtain⟨k,hk,rfl⟩:=AZ.1 hd;obtain⟨u,v,h⟩:=ha.get k hk;exact⟨k,u,v,hk,h⟩
 refine⟨rfl,h1.aF,h1.pos,h1.nd,Ug L,λd hd=> ?_,λd hd z hz ho=> ?_,λd hd=> ?_,h1.ok⟩;obtain⟨k,u,v,hk,h⟩:=get d hd;have:=h.base d.xd d.name h.name h.xd;rwa[d.fn_self]at this;obtain⟨k,u,v,hk,h⟩:=get d hd;obtain⟨x,hx,h2⟩:=h.calls z hz ho;refine⟨x,?_,h2⟩;rw[h1.aF];obtain⟨y,hy,rfl⟩:=dM.1 hx;exact dM.2 ⟨y,pQ hy,rfl⟩;obtain⟨n,e,_,_⟩:=zO L;rw[e]at hd;exact Na L n n d hd
def Bj{r:pL}(h:B_ r):nU r:=⟨h.lo,h.le,h.hi,h.mask.1,h.mask.2⟩
def N7{p:Pg}(h:p.d=cq):PIn p:=by have k:=Zz;rw[<-h]at k;exact⟨λr hr=>Bj (k.globals.1 r hr),λq hq=>Bj (k.eP.1 q hq).r,λr hr=>Bj (k.ft.1 r hr),λs hs=>k.sinks.1 s hs⟩
def dok_of{d:Df}(h:LQ d cq)(t:Tn d):yG d:=by have h1:=h.vars;have h2:=h.refs;have h3:=h.aK;have h4:=t.vars;have h5:=t.np;exact⟨⟨λa ha=>(h3.1 a ha).yE,λa ha=>(h3.1 a ha).len⟩,h1.1,⟨h4,af⟩,⟨af,af⟩,af,af⟩
theorem CO{α β:Type}{P:β->Prop}{f:β->α->β}(h:∀s x,P s->P (f s x)):∀(l:List α) (s:β),P s->P (l.foldl f s)|[],_,hs=>hs|x::l,s,hs=>CO h l (f s x) (h s x hs)
def Sv(op a b:Int)(ha: -2147483648<=a∧a<=2147483647)(hb: -2147483648<=b∧b<=2147483647): -2147483648<=Bs op a b∧Bs op a b<=2147483647:=by
 have w:=zj;unfold Bs;have hm: -2147483648<=a.tmod b∧a.tmod b<=2147483647:=by
  have h1:(a.tmod b).natAbs<=a.natAbs:=by rw[Int.natAbs_tmod];exact Nat.mod_le _ _
  have h2:0<=a->0<=a.tmod b:=λh=>dz b h;have h3:a<=0->a.tmod b<=0:=λh=>by have:=dz b (show 0<=-a by omega);rw[Int.neg_tmod]at this;omega
  omega
 repeat' split
 all_goals first|exact w _|omega
def U3(s:LH):Prop:=s.lo<=s.hi∧-2147483648<=s.lo∧s.hi<=2147483647
def stB_ok(op a b0:Int)(s:LH)(j:Nat)(h:U3 s):U3 (stB op a b0 s j):=by have b:=Sv op (HC a) (HC (b0+j)) (zj _) (zj _);obtain⟨h1,h2,h3⟩:=h;have e:HJ op a (b0+j)=Bs op (HC a) (HC (b0+j)):=rfl;unfold stB U3;rw[e];generalize Bs op (HC a) (HC (b0+j))=v at b ⊢;dsimp only;split<;>split<;>omega
def Yh(x:Rw)(h:QY x):HR (yS x):=by
 have h1:=h.lo;have h2:=h.hi;unfold yS;split;·unfold ru0;refine⟨?_,?_,?_⟩<;>dsimp only<;>(repeat' split)<;>omega
 have b:=Sv (4+x.op.tmod 7) (HC (x.a - 20)) (HC (x.b - 20)) (zj _) (zj _);have k:U3 (Ni x):=by unfold Ni QU;refine CO (P:=U3) (λs i hs=> ?_) _ _ ⟨pd _,b.1,b.2⟩;unfold TN;exact CO (P:=U3) (λs j hs=>stB_ok _ _ _ s j hs) _ _ hs
 exact⟨k.2.1,k.1,k.2.2⟩
def TK{l:List Rw}(h:∀x∈l,QY x):(∀r∈zv l,HR r)∧(zv l).length<=6:=by refine⟨λr hr=> ?_,by unfold zv;exact uj⟩;obtain⟨x,hx,rfl⟩:=dM.1 hr;exact Yh x (h x (pQ hx))
def atF_in{L:List Sm}{n:Int}{s:Sm}(h:Jc L n=some s):s∈L∧s.site=n:=by unfold Jc at h;exact⟨List.mem_of_find?_eq_some h,by simpa using List.find?_some h⟩
def SW{l:List Sm}{s:Sm}(h:s∈vY l)(k:Nat):∃z∈w9 l k,z.1=s:=by rw[<-BR l k]at h;obtain⟨z,hz,e⟩:=dM.1 h;exact⟨z,hz,e⟩
def U7(p:Pg)(s:Sm):Hd:=(vV (λx:Hd=>x.id==s.m) HA p.aF).1
def Dg(p:Pg)(s:Sm)(ei:List Sy):Sy:=if (vV (λx:Sy=>x.id==s.m) HU ei).2 then(vV (λx:Sy=>x.id==s.m) HU ei).1 else rH s.m
def D_{G:Prop}(h:G:=by have h1:=hx.1;have h2:=hx.2;rw[eD];omega):G:=h
structure SyR(y:Sy):Prop where
 s:aa0 y
 n:y.dY.length<=9
theorem BP{α:Type}{p:α->Bool}{z:α}:∀{l:List α},(vV p z l).2=true->(vV p z l).1∈l∧p (vV p z l).1=true|[],h=>by cases h|x::l,h=>by unfold vV at h ⊢;by_cases hx:p x=true;rw[aq hx];exact⟨tj ..,hx⟩;rw[ah hx]at h ⊢;have:=BP (l:=l) h;exact⟨ko _ this.1,this.2⟩
theorem GY{α:Type}{p:α->Bool}{z:α}:∀{l:List α} {x:α},x∈l->p x=true->(vV p z l).2=true|y::l,x,h,hx=>by unfold vV;by_cases hy:p y=true;rw[aq hy];rw[ah hy];rcases bT.1 h with rfl|h;exact absurd hx hy;exact GY h hx
def WT(c:Int):aU ⟨(rH c).LR,(rH c).LS,(rH c).rm,(rH c).rr,(rH c).nW⟩:=by show aU ⟨-2147483648,2147483647,1,0,255⟩;exact⟨az,az,az,az,az,az,az,az,az,az⟩
def WS(c:Int):(0<=(rH c).aM∧(rH c).aM<=7)∧(0<=(rH c).mS∧(rH c).mS<=7)∧(rH c).dY.length<=9:=by show(0<=(7:Int)∧(7:Int)<=7)∧(0<=(0:Int)∧(0:Int)<=7)∧(pX 3).length<=9;decide
section
variable{p:Pg}{d:Df}{s:Sm}{ei:List Sy}
def Uu(hp:C_ p)(hd:d∈p.defs)(hs:s∈vY d.body)(ho:s.op=13):(vV (λx:Hd=>x.id==s.m) HA p.aF).2=true∧U7 p s∈p.aF∧(U7 p s).params.length=s.args.length∧(U7 p s).given.length=s.cO.length:=by
 obtain⟨z,hz,rfl⟩:=SW hs 1;obtain⟨x,hx,h1,h2,h3⟩:=hp.calls d hd z hz ho;have hf:(vV (λx:Hd=>x.id==z.1.m) HA p.aF).2=true:=GY hx uo;obtain⟨k1,k2⟩:=BP hf;have e:U7 p z.1=x:=by
  unfold U7;generalize (vV (λx:Hd=>x.id==z.1.m) HA p.aF).1=y at k1 k2;rw[hp.aF]at k1 hx;obtain⟨a,ha,rfl⟩:=dM.1 k1;obtain⟨b,hb,rfl⟩:=dM.1 hx;obtain⟨i,hi,rfl⟩:=AZ.1 ha;obtain⟨j,hj,rfl⟩:=AZ.1 hb;have k3:p.defs[i].id=z.1.m:=by simpa[lV]using k2
  have:i=j:=hp.ids i hi j hj (by rw[k3];exact h1);subst this;rfl
 rw[e];exact⟨hf,hx,h2,h3⟩
def My(hp:C_ p)(hd:d∈p.defs)(hs:s∈vY d.body):∃o,SOk d cq o s:=by obtain⟨z,hz,rfl⟩:=SW hs 1;exact(hp.right d hd).stmts z hz
def PO(hsy:∀y∈ei,SyR y):aU ⟨(Dg p s ei).LR,(Dg p s ei).LS,(Dg p s ei).rm,(Dg p s ei).rr,(Dg p s ei).nW⟩∧(0<=(Dg p s ei).aM∧(Dg p s ei).aM<=7)∧(0<=(Dg p s ei).mS∧(Dg p s ei).mS<=7)∧(Dg p s ei).dY.length<=9:=by unfold Dg;split;rename_i h;have h1:=hsy _ (BP h).1;exact⟨W5 h1.s,h1.s.l,h1.s.d,h1.n⟩;exact⟨WT _,WS _⟩
def ZE(hp:C_ p)(hd:d∈p.defs)(hs:s∈vY d.body)(ho:s.op=13)(hsl:ei.length<2^40)(hsy:∀y∈ei,SyR y)(c:Wc)(hcp:c.p=p)(hcd:c.d=d)(hcs:c.s=s)(hcy:c.ei=ei):CIn c (U7 p s) (Dg p s ei):=by
 subst hcp hcd hcs hcy;obtain⟨h1,h2,h3,h4⟩:=Uu hp hd hs ho;obtain⟨o,k⟩:=My hp hd hs;have hh:c.p.aF.length<=4:=by rw[hp.aF,cZ];exact hp.le
 have k0:=k.op;have eo:o=13:=af
 subst eo;obtain⟨⟨a1,a2⟩,a3,a4⟩:=(show((∀e∈c.s.args,VOk c.d e)∧c.s.args.length<=12)∧(∀p∈c.s.cO,iL c.d cq 3 p)∧c.s.cO.length<=4 from k.args);have hdr:∃x∈c.p.defs,U7 c.p c.s=lV x:=by rw[hp.aF]at h2;obtain⟨x,hx,e⟩:=dM.1 h2;exact⟨x,hx,e.symm⟩
 obtain⟨x,hx,ex⟩:=hdr;have rx:=hp.right x hx;obtain⟨_,y1,y2,y3⟩:=PO (p:=c.p) (s:=c.s) hsy;have kn:iL c.d cq 2 c.s.n:=k.n;have hxp:=rx.part;refine⟨⟨true,?_⟩,?_,by rw[ex];exact⟨hxp.1,by have:(cq.parts:Int)=3:=rfl;show x.part<16;omega⟩,af,af,λe he=> ?_,λr hr=> ?_,λr hr=> ?_,af,af,λn hn=> ?_,af,af,af,?_⟩;have:=wy c.p c.s.m af;have e:vV (λx:Hd=>x.id==c.s.m) HA c.p.aF=(U7 c.p c.s,true):=uM rfl h1;rw[e]at this;exact this;have hf:=PS c.ei c.s.m hsl;unfold Dg;by_cases hb:(vV (λx:Sy=>x.id==c.s.m) HU c.ei).2=true;rw[aq hb];left;have e:vV (λx:Sy=>x.id==c.s.m) HU c.ei=((vV (λx:Sy=>x.id==c.s.m) HU c.ei).1,true):=uM rfl hb;rw[e]at hf;exact hf;rw[ah hb];right;have ht:=Tm c.p c.s.m (by rw[hp.d];rfl) af;have e1:R_ c.p c.s.m=rH c.s.m:=aq h1;rw[e1]at ht;have e:vV (λx:Sy=>x.id==c.s.m) HU c.ei=((vV (λx:Sy=>x.id==c.s.m) HU c.ei).1,false):=uM rfl AA;rw[e]at hf;exact⟨_,_,hf,ht⟩;obtain⟨n,_,h⟩:=a1 e he;exact⟨10,n,h⟩;rw[ex]at hr;exact Bj (rx.params r hr);rw[ex]at hr;exact Bj (rx.given r hr);have:iL c.d cq 3 n:=a3 n hn;exact⟨this.1,by have:=this.2;omega⟩;have:=kn.2;omega
def W7(hp:C_ p)(hd:d∈p.defs)(hs:s∈vY d.body)(hop:s.op≠24)(hsl:ei.length<2^40)(hsy:∀y∈ei,SyR y)(c:Wc)(hcp:c.p=p)(hcd:c.d=d)(hcs:c.s=s)(hcy:c.ei=ei):Vb c (U7 p s) (Dg p s ei):=by
 have hcall:=λho=>ZE hp hd hs ho hsl hsy c hcp hcd hcs hcy;subst hcp hcd hcs hcy;obtain⟨o,k⟩:=My hp hd hs;have k0:=k.op;have kk:=k.kind;have hr:=hp.right _ hd;have hpv:(0:Int)<=c.d.params.length:=dX _;have eD:=hp.d;refine⟨af,λh=> ?_,λh=> ?_,λh=> ?_,λh=> ?_,λh=> ?_,λh=> ?_,λh=> ?_,λh=> ?_,λh=> ?_,λh=> ?_,λh=> ?_,λh=> ?_,λh=> ?_,λh=> ?_,hcall⟩;have hx:VOk c.d c.s.x:=by rcases(show o=1∨o=2∨o=3∨o=5∨o=9∨o=18∨o=21 by omega)with rfl|rfl|rfl|rfl|rfl|rfl|rfl<;>exact k.x
 obtain⟨n,_,h⟩:=hx;exact⟨10,n,h⟩;obtain rfl:o=3:=af
 obtain⟨n,_,h⟩:=(show VOk c.d c.s.y from k.y);exact⟨10,n,h⟩;obtain rfl:o=23:=af
 obtain⟨n,_,h⟩:=(show ∃n,n<=60∧Ff c.d.vars c.d.aK.length 10 c.s.c n from k.c);exact⟨10,n,h⟩;have hx:iL c.d cq 1 c.s.n:=by rcases(show o=1∨o=2∨o=4∨o=10∨o=19∨o=20 by omega)with rfl|rfl|rfl|rfl|rfl|rfl<;>exact k.n
 have h1:=hx.1;have h2:=hx.2;omega;have hx:iL c.d cq 3 c.s.n:=by rcases(show o=6∨o=7∨o=8∨o=9 by omega)with rfl|rfl|rfl|rfl<;>exact k.n
 have h1:=hx.1;have h2:=hx.2;omega;have hx:iL c.d cq 3 c.s.m:=by rcases(show o=8∨o=10 by omega)with rfl|rfl<;>exact k.m
 have h1:=hx.1;have h2:=hx.2;omega;have hx:iL c.d cq 4 c.s.m:=by rcases(show o=2∨o=3 by omega)with rfl|rfl<;>exact k.m
 have h1:=hx.1;have h2:=hx.2;omega;have hx:iL c.d cq 5 c.s.m:=by rcases(show o=4∨o=5 by omega)with rfl|rfl<;>exact k.m
 exact D_;have hx:iL c.d cq 7 c.s.m:=by rcases(show o=18∨o=19 by omega)with rfl|rfl<;>exact k.m
 exact D_;have hx:iL c.d cq 6 c.s.m:=by obtain rfl:o=20:=af;exact k.m
 exact D_;have hx:iL c.d cq 8 c.s.m:=by obtain rfl:o=21:=af;exact k.m
 exact D_;have hx:iL c.d cq 9 c.s.m:=by rcases(show o=16∨o=17 by omega)with rfl|rfl<;>exact k.m
 have h1:=hx.1;have h2:c.s.m<=3 - 1:=hx.2;omega;have hx:iL c.d cq 10 c.s.m:=by obtain rfl:o=22:=af;exact k.m
 have h1:=hx.1;have h2:c.s.m<=3 - 1:=hx.2;omega;have hx:iL c.d cq 13 c.s.v:=by obtain rfl:o=14:=af;exact k.v
 have h1:=hx.1;omega
end
def BT:Df:=⟨7,9,[102],0,0,[⟨0,5,0⟩],[],2,1,[⟨4,0⟩],10,[]⟩
def hExD:Nat->List Ad:=λn=>bif Nat.beq n 60000 then[.aR 0 5,.aR 0 6,.aR 0 9,.aR 0 11]else[]
def exD_ok:C 39 [] (bQ BT):=by refine eg hm Tryz.func39 (λ_=>false) [] hExD aB ?_;exact aT
def UI{d:Df}{f:Fa}(hd:yG d)(hf:qO d f)(level:Int):qO d (pI d level f):=by have hgo:=ET d.vars.toNat d.params.length;have hj:kc (pF f.jh (fM d.vars.toNat d.params.length)) d.vars.toNat d.params.length:=Nq hf.jh hgo;unfold pI;split;exact hf;split;exact⟨hf.live,hf.v,hf.va,hj,hf.refs,hf.ra,hf.arr,hf.aa,hf.ew,hf.may,hf.parts,hf.sub⟩;refine⟨hf.live,by show(f.v.map dU).length=_;rw[cZ];exact hf.v,λa ha=> ?_,hj,by show(f.refs.map _).length=_;rw[cZ];exact hf.refs,λr hr=> ?_,hf.arr,hf.aa,hf.ew,hf.may,hf.parts,hf.sub⟩;obtain⟨b,hb,rfl⟩:=dM.1 ha;exact SU (hf.va b hb);obtain⟨b,hb,rfl⟩:=dM.1 hr;have k:=hf.ra b hb;exact⟨k.s,SU k.a,λh=>by have:=k.z h;show dU b.a=zR;rw[this];rfl⟩
def wG(s:Sm):Bool:=(s.op !=11)&&(s.op !=12)&&(s.op !=15)&&(s.op !=24)
def fW(d:Df)(L:List Int)(q:Int):Nat->Sm×Bool
 |0=>(zSm,false)
 |k+1=>match (fW d L q k).2 with
  |true=>fW d L q k
  |false=>match Jc (vY d.body) (L.getD (((k:Int)+q).tmod L.length).toNat 0)with
   |some s=>match wG s with|true=>(s,true)|false=>fW d L q k
   |none=>fW d L q k
theorem F0{d:Df}{L:List Int}{q:Int}{k:Nat}(h:(fW d L q k).2=true):∀j,fW d L q (k+j)=fW d L q k|0=>rfl|j+1=>by have ih:=F0 h j;show fW d L q ((k+j)+1)=_;rw[fW,ih,h]
theorem MO(d:Df)(L:List Int)(q:Int):∀k,(fW d L q k).2=true->(fW d L q k).1∈vY d.body∧wG (fW d L q k).1=true|0,h=>by cases h|k+1,h=>by have ih:=MO d L q k;rw[fW]at h ⊢;cases hb:(fW d L q k).2 with|true=>simp only[hb]at h ⊢;exact ih hb|false=>simp only[hb]at h ⊢;cases ha:Jc (vY d.body) (L.getD (((k:Int)+q).tmod L.length).toNat 0)with|none=>rw[ha]at h;simp only at h;rw[hb]at h;cases h|some s=>rw[ha]at h;simp only at h ⊢;cases ho:wG s with|true=>exact⟨(atF_in ha).1,ho⟩|false=>rw[ho]at h;simp only at h;rw[hb]at h;cases h
def Qa{d:Df}{L:List Int}{q:Int}{k:Nat}(h:(fW d L q k).2=false)(ha:Jc (vY d.body) (L.getD (((k:Int)+q).tmod L.length).toNat 0)=none):fW d L q (k+1)=fW d L q k:=by rw[fW,h,ha]
def TV{d:Df}{L:List Int}{q:Int}{k:Nat}{s:Sm}(h:(fW d L q k).2=false)(ha:Jc (vY d.body) (L.getD (((k:Int)+q).tmod L.length).toNat 0)=some s)(ho:wG s=false):fW d L q (k+1)=fW d L q k:=by rw[fW,h,ha];simp only[ho]
def Qb{d:Df}{L:List Int}{q:Int}{k:Nat}{s:Sm}(h:(fW d L q k).2=false)(ha:Jc (vY d.body) (L.getD (((k:Int)+q).tmod L.length).toNat 0)=some s)(ho:wG s=true):fW d L q (k+1)=(s,true):=by rw[fW,h,ha];simp only[ho]
def nj(B:Nat->Bool)(Y:Nat->Sy):Nat->List Sy|0=>[]|k+1=>nj B Y k++(if B k=true then[Y k]else[])
theorem yi(B:Nat->Bool)(Y:Nat->Sy):∀k,(nj B Y k).length<=k|0=>cu _|k+1=>by have:=yi B Y k;unfold nj;rw[fA];split<;>simp<;>omega
theorem H3(B:Nat->Bool)(Y:Nat->Sy):∀k,∀y∈nj B Y k,∃i,i<k∧y=Y i|0,y,h=>by cases h|k+1,y,h=>by unfold nj at h;rcases d_.1 h with h|h;obtain⟨i,h1,h2⟩:=H3 B Y k y h;exact⟨i,af,h2⟩;split at h;exact⟨k,af,fY.1 h⟩;cases h
def JX{G:Prop}(h:G:=by rw[hpl2];exact aA):G:=h
def Q6{G:Prop}(h:G:=by have e:fW d sites x.p1 (r.k+1)=(r.s,r.b):=(TV hst2 hO.symm ho).trans hst;refine aN ?_;refine a_.at rfl (dX _) rfl ?_;refine aN ?_;refine a_.at rfl m1 hxN ?_;refine aN ?_;refine⟨⟨⟨r.k+1,r.s,r.b⟩,⟨hk,e⟩⟩,ik hk (gh _),?_⟩;exact zh2):G:=h
def VL{G:Prop}(h:G:=by refine run ?_;refine a_.at rfl (dX _) rfl ?_;refine run ?_;refine Arith.WN (dX _) (by omega) ?_;refine run ?_;refine a_.at rfl (dX _) hnd ?_;refine aN ?_;refine⟨⟨⟨r2.k+1,r2.l++[Y r2.k]⟩,⟨hk2,e.symm⟩⟩,ik hk2 (gh _),?_⟩;have pM:=aL (λz=>some (Row.mk 11 true z)) e5;have Hx:=aL (λz:List au=>some (plA p d r.s (cF f) x.level rs (.ref 20016 z.length) r.b)) e5;exact zh2):G:=h
def VK{G:Prop}(h:G:=by have e:nj B Y (r2.k+1)=r2.l:=(by rw[nj,ah (by rw[b5];simp),<-hs2,jM]);have b6:=(hB r2.k).symm.trans b5;refine run ?_;refine a_.at rfl (dX _) rfl ?_;refine run ?_;refine Arith.WN (dX _) (by omega) ?_;refine run ?_;refine⟨⟨⟨r2.k+1,r2.l⟩,⟨hk2,e.symm⟩⟩,ik hk2 (gh _),?_⟩;exact zh2):G:=h
def VB{G:Prop}(h:G:=by have e7:plA p d r.s (cF f) x.level rs (fj 11 eU r2.l) r.b=plA p d (fW d sites x.p1 sites.length).1 (cF f) x.level rs (fj 11 eU (nj B Y p.defs.length)) (fW d sites x.p1 sites.length).2:=(by rw[hfin,e6]);refine run ?_;exact fu.mk e7 rfl):G:=h
def Og(x:Int):(((BitVec.ofInt IntKind.i64.bits x&&&BitVec.ofInt IntKind.i64.bits 1).toNat:Nat):Int)<=1∧0<=(((BitVec.ofInt IntKind.i64.bits x&&&BitVec.ofInt IntKind.i64.bits 1).toNat:Nat):Int):=by
 refine⟨?_,dX _⟩;have h:(BitVec.ofInt IntKind.i64.bits x&&&BitVec.ofInt IntKind.i64.bits 1).toNat<=(BitVec.ofInt IntKind.i64.bits 1).toNat:=by rw[Et];exact J4
 have h2:(BitVec.ofInt IntKind.i64.bits 1).toNat=1:=az
 omega
structure Inp where
 L:List UInt8
 rules:List Rw
 level:Int
 n:Ns
 p0:Int
 p1:Int
 ei:N8
def cInp(x:Inp):List au:=[U_ x.L,fj 9 DK x.rules,it x.level,r8 x.n.w,r8 x.n.b,.int .u8 x.p0,.int .u8 x.p1,u16 x.ei.a,u16 x.ei.b,u16 x.ei.c,u16 x.ei.d,u16 x.ei.e,u16 x.ei.f,u16 x.ei.g,u16 x.ei.h]
def xk(x:Inp):au:= .agg (cInp x)
structure Tg(x:Inp):Prop where
 rl:x.rules.length<2^63
 ro:∀r∈x.rules,QY r
 w:x.n.w.length<2^63
 b:x.n.b.length<2^63
 p0:0<=x.p0∧x.p0<256
 p1:0<=x.p1∧x.p1<256
 s:N8Ok x.ei
def cF0:List au:=[bo false,.sl 5 [] true,.sl 1 [] true,.sl 6 [] true,.sl 1 [] true,it 0,it 0,it 0]
def plA(p:Pg)(d:Df)(s:Sm)(F:List au)(level:Int)(rs:List Ru)(ei:au)(b:Bool):au:= .agg (cP p++(cD d++(cS s++(F++[it level,fj 10 gM rs,ei,bo b]))))
structure PI where
 k:Nat
 s:Sm
 b:Bool
structure SI' where
 k:Nat
 l:List Sy
def hPl:Nat->List Ad:=λn=>bif Nat.beq n 7 then[.aR 7 30,.aR 7 34,.aR 7 36,.aR 7 37,.aR 7 38,.aR 7 39,.aR 7 40,.aR 7 41]else[]
def optE{α:Type}{P:Option α->Prop}(a:P none)(b:∀x,P (some x)):∀o,P o|none=>a|some x=>b x
def Xw{x:Inp}{p:Pg}{d:Df}{rs:List Ru}{sites:List Int}{f:Fa}{n0:Nat}(hn0:n0<p.defs.length)(hd:p.defs[n0]=d)(hi0:x.p0.tmod (p.defs.length:Int)=n0)(hx:Tg x)(hpl:p.defs.length<=4)(hsl:0<sites.length∧sites.length<2^30)(c1:C 25 [.agg [U_ x.L]] (qb p))(c2:C 33 [fj 9 DK x.rules,it 6] (fj 10 gM rs))(c3:C 49 [bQ d] (ints sites))(c4:∀n,C 50 [bQ d,it n] (atD (Jc (vY d.body) n))){ws:List Wd}{f0:Fa}(c5:C 53 [bQ d,SZ x.n] (fj 2 jH ws))(c6:C 52 [bQ d,fj 2 jH ws,SZ x.n] (bg f0))(c7:C 51 [bQ d,it x.level,bg f0] (bg f)){Y:Nat->Sy}(c8:∀k (h:k<p.defs.length),C 16 [qb p,it p.defs[k].id,S3 x.ei] (eU (Y k))):∃B:Nat->Bool,C 11 [xk x,bo false] (plA p d (fW d sites x.p1 sites.length).1 (cF f) x.level rs (fj 11 eU (nj B Y p.defs.length)) (fW d sites x.p1 sites.length).2):=by
 have hBB:∃B:Nat->Bool,∀k,B k=((((BitVec.ofInt IntKind.i64.bits (x.ei.a.fdiv (2^min ((k:Nat):Int).toNat IntKind.i64.bits))&&&BitVec.ofInt IntKind.i64.bits 1).toNat:Nat):Int)==1):=⟨λk=>_,λ_=>rfl⟩;refine hBB.elim λB hB=>⟨B,?_⟩;have hb0:=hx.p0;have hb1:=hx.p1;have hsa:=hx.s.a;have hpl2:(p.defs.map bQ).length=p.defs.length:=cZ ..;have hi1:x.p0.tmod (((p.defs.map bQ).length:Nat):Int)=n0:=by rw[hpl2];exact hi0
 have hi2:0<=x.p0.tmod (((p.defs.map bQ).length:Nat):Int):=by rw[hi1];omega
 have hxd:nth (p.defs.map bQ) (x.p0.tmod (((p.defs.map bQ).length:Nat):Int)).toNat=some (bQ d):=by rw[hi1,bW,lQ,fq hn0,hd];rfl
 refine eg hm Tryz.func11 (λ_=>false) [] hPl aB ?_;refine aN ?_;refine a_.at rfl (dX _) rfl ?_;refine aN ?_;refine a_.at rfl hi2 hxd ?_;refine aN ?_;refine bB.mk ⟨[],aZ.lp (λr:PI=>r.k<=sites.length∧fW d sites x.p1 r.k=(r.s,r.b)) (λr=>⟨[(9,it r.k)],[(7,plA p d r.s cF0 x.level rs (.sl 11 [] true) r.b)],[]⟩) (λr=>sites.length - r.k) ⟨0,zSm,false⟩ ⟨dL _,rfl⟩ ?_⟩;intro r hJ;have hr1:=hJ.1;have hst:=hJ.2;have hst1:(fW d sites x.p1 r.k).2=r.b:=by rw[hst]
 by_cases hk:r.k<sites.length;have b1:decide ((r.k:Int)<((sites.map it).length:Nat))=true:=qt
 refine(dw r.b).elim (λb2=> ?_) (λb2=> ?_);have hfin:fW d sites x.p1 sites.length=(r.s,r.b):=(by have:=F0 (hst1.trans b2) (sites.length - r.k);rw[show r.k+(sites.length - r.k)=sites.length by omega]at this;rw[this];exact hst);have b3:(!r.b)=false:=by rw[b2];rfl
 refine aN ?_;refine bB.mk ⟨[.cell 7 52 20016],aZ.lp (λr2:SI' =>r2.k<=p.defs.length∧r2.l=nj B Y r2.k) (λr2=>⟨[(12,it r2.k)],[(7,plA p d r.s (cF f) x.level rs (.ref 20016 (r2.l.map eU).length) r.b)],[(20016,⟨11,true,r2.l.map eU⟩)]⟩) (λr2=>p.defs.length - r2.k) ⟨0,[]⟩ ⟨dL _,rfl⟩ ?_⟩;intro r2 hJ2;have hr2:=hJ2.1;have hs2:=hJ2.2;have hll:=yi B Y r2.k;rw[<-hs2]at hll;by_cases hk2:r2.k<p.defs.length;have b4:decide ((r2.k:Int)<((p.defs.map bQ).length:Nat))=true:=(by rw[hpl2];simp;exact hk2);have c9:=c8 r2.k hk2;have ha1:=Og (x.ei.a.fdiv (2^min ((r2.k:Nat):Int).toNat IntKind.i64.bits));have ha2:=ha1.1;have ha3:=ha1.2;clear ha1;have hnd:nth (p.defs.map bQ) ((r2.k:Nat):Int).toNat=some (bQ p.defs[r2.k]):=by rw[bW,lQ,fq hk2];rfl
 have hl2:(r2.l.map eU).length=r2.l.length:=cZ ..;refine(dw (B r2.k)).elim (λb5=> ?_) (λb5=> ?_);have e:nj B Y (r2.k+1)=r2.l++[Y r2.k]:=(by rw[nj,aq b5,<-hs2]);have b6:=(hB r2.k).symm.trans b5;have e5:r2.l.map eU++[eU (Y r2.k)]=(r2.l++[Y r2.k]).map eU:=by rw[eI];rfl
 exact VL;exact VK;have b4:decide ((r2.k:Int)<((p.defs.map bQ).length:Nat))=false:=JX;have e6:r2.l=nj B Y p.defs.length:=by rw[hs2];congr 1;omega
 exact VB;have b3:(!r.b)=true:=(by rw[b2];rfl);have hst2:=hst1.trans b2;have hslm:(sites.map it).length=sites.length:=cZ ..;have m1:=dz (((sites.map it).length:Nat):Int) (show 0<=(r.k:Int)+x.p1 by omega);have m2:=fw ((r.k:Int)+x.p1) (show(0:Int)<(((sites.map it).length:Nat):Int) by rw[hslm];omega);have hN:∃N,nth (sites.map it) (((r.k:Int)+x.p1).tmod (((sites.map it).length:Nat):Int)).toNat=some (it N)∧N=sites.getD (((r.k:Int)+x.p1).tmod sites.length).toNat 0:=by
  rw[hslm]at m1 m2 ⊢;have hlt:(((r.k:Int)+x.p1).tmod sites.length).toNat<sites.length:=af
  refine⟨_,by rw[bW,fq hlt];rfl,by simp[hlt]⟩
 refine hN.elim λN hN=> ?_;have hxN:=hN.1;have hNe:=hN.2;have cAt:=c4 N;have hO:∃o,o=Jc (vY d.body) N:=⟨_,rfl⟩;refine hO.elim λo hO=> ?_;rw[<-hO]at cAt;rw[hNe]at hO;clear hN;revert cAt hO;refine optE (P:=λo=>C 50 [bQ d,it N] (atD o)->o=Jc (vY d.body) (sites.getD (((r.k:Int)+x.p1).tmod sites.length).toNat 0)->_) (λc hO=> ?_) (λs c hO=> ?_) o;have e:fW d sites x.p1 (r.k+1)=(r.s,r.b):=(Qa hst2 hO.symm).trans hst;have c:C 50 [bQ d,it N] (.bR [encS zSm,bo false]):=c;refine aN ?_;refine a_.at rfl (dX _) rfl ?_;refine aN ?_;refine a_.at rfl m1 hxN ?_;refine aN ?_;refine⟨⟨⟨r.k+1,r.s,r.b⟩,⟨hk,e⟩⟩,ik hk (gh _),?_⟩;exact zh2;have c:C 50 [bQ d,it N] (.bR [encS s,bo true]):=c;refine(dw (s.op !=11)).elim (λh11=> ?_) (λh11=> ?_);have hq11:(!(s.op==11))=true:=h11;refine(dw (s.op !=12)).elim (λh12=> ?_) (λh12=> ?_);have hq12:(!(s.op==12))=true:=h12;refine(dw (s.op !=15)).elim (λh15=> ?_) (λh15=> ?_);have hq15:(!(s.op==15))=true:=h15;refine(dw (s.op !=24)).elim (λh24=> ?_) (λh24=> ?_);have hq24:(!(s.op==24))=true:=h24;have ho:wG s=true:=by unfold wG;rw[h11,h12,h15,h24];rfl
 have e:fW d sites x.p1 (r.k+1)=(s,true):=Qb hst2 hO.symm ho;refine aN ?_;refine a_.at rfl (dX _) rfl ?_;refine aN ?_;refine a_.at rfl m1 hxN ?_;refine aN ?_;refine⟨⟨⟨r.k+1,s,true⟩,⟨hk,e⟩⟩,ik hk (gh _),?_⟩;exact zh2;have hq24:(!(s.op==24))=false:=h24;have ho:wG s=false:=by unfold wG;rw[h11,h12,h15,h24];simp
 exact Q6;have hq15:(!(s.op==15))=false:=h15;have ho:wG s=false:=by unfold wG;rw[h11,h12,h15];simp
 exact Q6;have hq12:(!(s.op==12))=false:=h12;have ho:wG s=false:=by unfold wG;rw[h11,h12];simp
 exact Q6;have hq11:(!(s.op==11))=false:=h11;have ho:wG s=false:=by unfold wG;rw[h11];simp
 exact Q6;have b1:decide ((r.k:Int)<((sites.map it).length:Nat))=false:=aA
 have hfin:fW d sites x.p1 sites.length=(r.s,r.b):=by rw[<-hst];congr 1;omega
 refine aN ?_;refine bB.mk ⟨[.cell 7 52 20016],aZ.lp (λr2:SI' =>r2.k<=p.defs.length∧r2.l=nj B Y r2.k) (λr2=>⟨[(12,it r2.k)],[(7,plA p d r.s (cF f) x.level rs (.ref 20016 (r2.l.map eU).length) r.b)],[(20016,⟨11,true,r2.l.map eU⟩)]⟩) (λr2=>p.defs.length - r2.k) ⟨0,[]⟩ ⟨dL _,rfl⟩ ?_⟩;intro r2 hJ2;have hr2:=hJ2.1;have hs2:=hJ2.2;have hll:=yi B Y r2.k;rw[<-hs2]at hll;by_cases hk2:r2.k<p.defs.length;have b4:decide ((r2.k:Int)<((p.defs.map bQ).length:Nat))=true:=(by rw[hpl2];simp;exact hk2);have c9:=c8 r2.k hk2;have ha1:=Og (x.ei.a.fdiv (2^min ((r2.k:Nat):Int).toNat IntKind.i64.bits));have ha2:=ha1.1;have ha3:=ha1.2;clear ha1;have hnd:nth (p.defs.map bQ) ((r2.k:Nat):Int).toNat=some (bQ p.defs[r2.k]):=by rw[bW,lQ,fq hk2];rfl
 have hl2:(r2.l.map eU).length=r2.l.length:=cZ ..;refine(dw (B r2.k)).elim (λb5=> ?_) (λb5=> ?_);have e:nj B Y (r2.k+1)=r2.l++[Y r2.k]:=(by rw[nj,aq b5,<-hs2]);have b6:=(hB r2.k).symm.trans b5;have e5:r2.l.map eU++[eU (Y r2.k)]=(r2.l++[Y r2.k]).map eU:=by rw[eI];rfl
 exact VL;exact VK;have b4:decide ((r2.k:Int)<((p.defs.map bQ).length:Nat))=false:=JX;have e6:r2.l=nj B Y p.defs.length:=by rw[hs2];congr 1;omega
 exact VB
def QI(c:Wc):au:= .agg [it c.level,fj 10 gM c.rules]
def H6{c:Wc}{f:Fa}{W:Wk}(h:C 108 [qb c.p,QI c,bQ c.d,encS c.s,bg f,fj 11 eU c.ei] (z_ W)):C 31 [qb c.p,QI c,bQ c.d,encS c.s,bg f,fj 11 eU c.ei] (z_ W):=by refine fo Tryz.func31 ?_;exact aW
def CZ(c:Wc)(f:Fa)(is:Bool):au:= .agg (cP c.p++(cD c.d++(cS c.s++(cF f++[it c.level,fj 10 gM c.rules,fj 11 eU c.ei,bo is]))))
def step_fn{c:Wc}{f:Fa}{is:Bool}{W:Wk}(h:C 31 [qb c.p,QI c,bQ c.d,encS c.s,bg f,fj 11 eU c.ei] (z_ W)):C 13 [CZ c f is] (z_ W):=by refine fo Tryz.func13 ?_;exact aW
def K4(x:Ex):C 43 [cI x] (encS (.mk 1 2 1 0 0 x (.mk 0 0 0 []) (.mk 0 [] []) [] [] [] [])):=by refine fo Tryz.func43 ?_;exact aT
def hHold:Nat->List Ad:=λn=>bif Nat.beq n 2 then[.aR 2 11]else[]
def E0(d:Df)(s:Sm):C 42 [bQ d,encS s] (bQ {d with body:=[s]}):=by refine eg hm Tryz.func42 (λ_=>false) [] hHold aB ?_;exact aT
def PG{d:Df}{n:Ns}(hp:∀r∈d.params,SmR r):∀w∈gi d n,(-(2^18)<w.v∧w.v<2^18)∧(0<=w.mask∧w.mask<=255):=λw hw=>by unfold gi at hw;obtain⟨k,_,rfl⟩:=dM.1 hw;have a1:=kD n.w (2*(k:Int));have a2:=kD n.w (2*(k:Int)+1);unfold rG;generalize qi n.w (2*(k:Int))=a at a1 ⊢;generalize qi n.w (2*(k:Int)+1)=b at a2 ⊢;have m1:=dz 24 a1.1;have m2:=fw a (show(0:Int)<24 by decide);have m3:=dz 4 a2.1;have m4:=fw b (show(0:Int)<4 by decide);split;rename_i hk;have hr:=hp _ (cU hk);generalize d.params[k]=R at hr ⊢;obtain⟨⟨r1,r2,r3⟩,r4,r5⟩:=hr;have m5:=dz (R.hi - R.lo+1) (show 0<=a.tmod 24 - 6+6 by omega);have m6:=fw (a.tmod 24 - 6+6) (show(0:Int)<R.hi - R.lo+1 by omega);have d4:=iP (a:=b.tmod 4) (b:=R.mask) (n:=8) af r4 af;unfold wdP wd0;exact bu;unfold wd0;exact bu
def WR(c:Int):∀x∈(rH c).dY,x.a≠x.b:=by show ∀x∈pX 3,x.a≠x.b;decide
def syF_ne{p:Pg}{s:Sm}{ei:List Sy}(hsy:∀y∈ei,SyR y):∀x∈(Dg p s ei).dY,x.a≠x.b:=by unfold Dg;split;rename_i h;exact(hsy _ (BP h).1).s.ne;exact WR _
structure PlOk(x:Inp)(c:Wc)(f:Fa)(b:Bool):Prop where
 run:C 11 [xk x,bo false] (CZ c f b)
 p:C_ c.p
 d:c.d∈c.p.defs
 ck:kP c
 f:qO c.d f
 pi:PIn c.p
 np:c.d.params.length<=2
 s:b=true->c.s∈vY c.d.body∧wG c.s=true∧Vb c (U7 c.p c.s) (Dg c.p c.s c.ei)
 ne:∀x∈(Dg c.p c.s c.ei).dY,x.a≠x.b
 yn:(Dg c.p c.s c.ei).dY.length<=9
 av:aU ⟨(Dg c.p c.s c.ei).LR,(Dg c.p c.s c.ei).LS,(Dg c.p c.s c.ei).rm,(Dg c.p c.s c.ei).rr,(Dg c.p c.s c.ei).nW⟩
def TT{x:Inp}(hx:Tg x):∃c f b,PlOk x c f b:=by
 have hp:=Qi x.L;have c1:=Made_ok x.L;generalize mR x.L=p at hp c1;have hpos:=hp.pos;have hle:=hp.le;have hp0:=hx.p0;have m1:=dz (p.defs.length:Int) hp0.1;have m2:=fw x.p0 (show(0:Int)<(p.defs.length:Int) by omega);obtain⟨n0,hn0⟩:∃n0:Nat,x.p0.tmod (p.defs.length:Int)=n0:=⟨(x.p0.tmod (p.defs.length:Int)).toNat,af⟩;have hlt:n0<p.defs.length:=af
 have hdm:p.defs[n0]∈p.defs:=cU hlt;have hdr:=hp.right _ hdm;have htn:=hp.tn _ hdm;have hdo:=dok_of hdr htn;have hv:=hdr.vars;have hrf:=hdr.refs;have hpt:=hdr.part;have hpt2:p.defs[n0].part<=2:=by have:(cq.parts:Int)=3:=rfl;omega
 have hsz:zp p.defs[n0].body<2^30:=by have:=hdr.size;omega
 have hpr:∀r∈p.defs[n0].params,-(2^20)<r.lo∧r.lo<=r.hi∧r.hi<2^20∧0<=r.mask∧r.mask<=255:=λr hr=>by have:=htn.pr r hr;unfold SmR at this;omega
 have hpr2:∀r∈p.defs[n0].params,-(2^20)<r.lo∧r.lo<=r.hi∧r.hi<2^20:=λr hr=>by have:=hpr r hr;omega
 have hgr:∀r∈p.defs[n0].given,-(2^20)<r.lo∧r.lo<=r.hi∧r.hi<2^20:=λr hr=>by have:=htn.gr r hr;unfold SmR at this;omega
 have c2:=TL x.rules hx.rl hx.ro;have c3:=P0 p.defs[n0] hsz;have c4:=λn=>at_ok p.defs[n0] n hsz;have c5:=WD p.defs[n0] x.n af hx.w hpr;have hw:=L4 (n:=x.n) hpr;have hw2:∀w∈gi p.defs[n0] x.n,(-(2^18)<w.v∧w.v<2^18)∧(0<=w.mask∧w.mask<=255):=PG htn.pr;have c6:=QR hdo x.n (gi p.defs[n0] x.n) hx.b (HV _ _) hw2 hpr2 hgr af af;have hal:=U2 hdo x.n (gi p.defs[n0] x.n) (HV _ _) hw af;have c7:=Zd hdo hal x.level;have hdl:=UI hdo hal x.level;have hY:∃Y:Nat->Sy,∀k (h:k<p.defs.length),SyR (Y k)∧C 16 [qb p,it p.defs[k].id,S3 x.ei] (eU (Y k)):=by
  have key:∀k,∃y:Sy,∀(h:k<p.defs.length),SyR y∧C 16 [qb p,it p.defs[k].id,S3 x.ei] (eU y):=λk=>by by_cases h:k<p.defs.length;obtain⟨y,_,h2,h3,h4⟩:=Tz p p.defs[k].id x.ei hx.s (by rw[hp.d];rfl) (by rw[hp.d];rfl);exact⟨y,λ_=>⟨⟨h3,h2⟩,h4⟩⟩;exact⟨HU,λh2=>absurd h2 h⟩
  exact⟨λk=>(key k).choose,λk h=>(key k).choose_spec h⟩
 obtain⟨Y,hY⟩:=hY;have hsl:0<(rI p.defs[n0]).length∧(rI p.defs[n0]).length<2^30:=by unfold rI;rw[fA,cZ,CS];have:=hdr.size;exact aA
 obtain⟨B,hB⟩:=Xw hlt rfl hn0 hx hle hsl c1 c2 c3 c4 c5 c6 c7 (λk h=>(hY k h).2);have hsy:∀y∈nj B Y p.defs.length,SyR y:=λy hy=>by obtain⟨i,hi,rfl⟩:=H3 B Y _ y hy;exact(hY i hi).1
 have hsn:=yi B Y p.defs.length;have hru:=TK hx.ro;refine⟨⟨p,x.level,zv x.rules,p.defs[n0],(fW p.defs[n0] (rI p.defs[n0]) x.p1 (rI p.defs[n0]).length).1,nj B Y p.defs.length⟩,pI p.defs[n0] x.level (eM p.defs[n0] x.n (gi p.defs[n0] x.n)),(fW p.defs[n0] (rI p.defs[n0]) x.p1 (rI p.defs[n0]).length).2,hB,hp,hdm,⟨hdo,by have:=hru.2;show(zv x.rules).length<=_;omega,hru.1⟩,hdl,N7 hp.d,htn.np,λhb=> ?_,syF_ne hsy,(PO hsy).2.2.2,(PO hsy).1⟩;have hpk:=MO p.defs[n0] (rI p.defs[n0]) x.p1 _ hb;refine⟨hpk.1,hpk.2,W7 hp hdm hpk.1 ?_ af hsy _ rfl rfl rfl rfl⟩;have:=hpk.2;unfold wG at this;intro e;rw[e]at this;simp at this
def iz{G:Prop}(h:G:=by refine fo Tryz.func15 ?_;exact aT):G:=h
def Ha:List (Int×Int):=[(2,1),(3,1),(7,2),(8,2),(9,2),(10,2),(13,2),(6,3),(8,3),(16,4),(13,4),(17,5),(21,7),(23,10),(13,11),(13,13),(5,12),(18,12)]
def can_2_1:C 15 [it 2,it 1] (bo true):=iz
def can_3_1:C 15 [it 3,it 1] (bo true):=iz
def can_7_2:C 15 [it 7,it 2] (bo true):=iz
def can_8_2:C 15 [it 8,it 2] (bo true):=iz
def can_9_2:C 15 [it 9,it 2] (bo true):=iz
def ZO:C 15 [it 10,it 2] (bo true):=iz
def ZN:C 15 [it 13,it 2] (bo true):=iz
def can_6_3:C 15 [it 6,it 3] (bo true):=iz
def can_8_3:C 15 [it 8,it 3] (bo true):=iz
def ZL:C 15 [it 16,it 4] (bo true):=iz
def ZM:C 15 [it 13,it 4] (bo true):=iz
def ZK:C 15 [it 17,it 5] (bo true):=iz
def ZJ:C 15 [it 21,it 7] (bo true):=iz
def UW:C 15 [it 23,it 10] (bo true):=iz
def UZ:C 15 [it 13,it 11] (bo true):=iz
def UY:C 15 [it 13,it 13] (bo true):=iz
def ZI:C 15 [it 5,it 12] (bo true):=iz
def UX:C 15 [it 18,it 12] (bo true):=iz
def can_c{op kind:Int}(h:(op,kind)∈Ha):C 15 [it op,it kind] (bo true):=by simp only[Ha,bT,te,o_,Prod.mk.injEq]at h;rcases h with⟨rfl,rfl⟩|⟨rfl,rfl⟩|⟨rfl,rfl⟩|⟨rfl,rfl⟩|⟨rfl,rfl⟩|⟨rfl,rfl⟩|⟨rfl,rfl⟩|⟨rfl,rfl⟩|⟨rfl,rfl⟩|⟨rfl,rfl⟩|⟨rfl,rfl⟩|⟨rfl,rfl⟩|⟨rfl,rfl⟩|⟨rfl,rfl⟩|⟨rfl,rfl⟩|⟨rfl,rfl⟩|⟨rfl,rfl⟩|⟨rfl,rfl⟩;exact can_2_1;exact can_3_1;exact can_7_2;exact can_8_2;exact can_9_2;exact ZO;exact ZN;exact can_6_3;exact can_8_3;exact ZL;exact ZM;exact ZK;exact ZJ;exact UW;exact UZ;exact UY;exact ZI;exact UX
end Abs
