/- A part of a proof: an abstract machine, proved sound, or contracts of functions. No condition. -/
import Derived.OpenShut
import Derived.Carry
import Derived.WalkKit
import Derived.ProofKit
import Derived.JoinedCond
import Derived.Test.YtakobiabkfeelaaGreatT11
set_option linter.unusedVariables false
set_option linter.unusedSimpArgs false
set_option linter.defProp false
set_option maxRecDepth 100000
set_option maxHeartbeats 4000000
namespace Abs
open Go Go.Proofs
structure Lw(c:Wc)(m0:Int)(n:Nat)(w:Wk):Prop where
 fi:∀x∈w.fd,x.df=c.d.id∧x.site=c.s.site∧(c.s.op,x.kind)∈Ha
 fs:Fc kK w.fd
 pi:∀x∈w.ps,x.site=c.s.site∧x.a≠x.b∧(c.s.op=16∨c.s.op=13)∧(c.s.op=16->x.b=c.s.m∧0<=x.a∧x.a<8∧pV m0 x.a.toNat=true)
 ps:Fc fU w.ps
 lk:c.s.op=16∨c.s.op=13∨w.wR=0
 pn:w.ps.length<=n
section
variable{c:Wc}{m0:Int}{nn:Nat}{w w' :Wk}
def Lw.same(h:Lw c m0 nn w)(h1:w'.fd=w.fd)(h2:w'.ps=w.ps)(h3:w'.wR=w.wR):Lw c m0 nn w' :=⟨by rw[h1];exact h.fi,by rw[h1];exact h.fs,by rw[h2];exact h.pi,by rw[h2];exact h.ps,by rw[h3];exact h.lk,by rw[h2];exact h.pn⟩
def Lw.find(h:Lw c m0 nn w){k:Int}(hk:(c.s.op,k)∈Ha)(b:Bool):Lw c m0 nn (cV c k b w):=by unfold cV;split;exact h;refine⟨λx hx=> ?_,h.fs.ins G',h.pi,h.ps,h.lk,h.pn⟩;rcases rR hx with rfl|hx;exact⟨rfl,rfl,hk⟩;exact h.fi x hx
def Lw.pair(h:Lw c m0 nn w){a b:Int}(hab:a≠b)(ho:c.s.op=13):Lw c m0 (nn+1) (sK c a b w):=by refine⟨h.fi,h.fs,λx hx=> ?_,h.ps.ins xp,h.lk,en wW (Nat.succ_le_succ h.pn)⟩;rcases rR hx with rfl|hx;exact⟨rfl,hab,.inr ho,λh=>af⟩;exact h.pi x hx
def PsL(c:Wc)(m0:Int)(ps:List Pa):Prop:=(∀x∈ps,x.site=c.s.site∧x.a≠x.b∧(c.s.op=16∨c.s.op=13)∧(c.s.op=16->x.b=c.s.m∧0<=x.a∧x.a<8∧pV m0 x.a.toNat=true))∧Fc fU ps
def pinL_lw{may aM:Int}{a b:Nat}{ps:List Pa}(h:PsL c m0 ps)(ho:c.s.op=16∨c.s.op=13)(ha:a<8)(hb:b<8)(hx:c.s.op=16->may=m0∧∀b:Nat,b<8->pV aM b=true->(b:Int)=c.s.m):PsL c m0 (zI c.s.site may aM a ps b):=by
 unfold zI;split;rename_i hc;rw[bc,bc]at hc;obtain⟨h1,h2,h3⟩:=hc;refine⟨λx hx2=> ?_,h.2.ins xp⟩;rcases rR hx2 with rfl|hx2;refine⟨rfl,?_,ho,λe=> ?_⟩;show(a:Int)≠(b:Int);intro e;have:a=b:=af
 subst this;simp at h1;obtain⟨k1,k2⟩:=hx e;exact⟨k2 b hb h3,dX _,by show(a:Int)<8;omega,by rw[<-k1];exact h2⟩;exact h.1 x hx2;exact h
theorem MN{may aM:Int}{a:Nat}(ho:c.s.op=16∨c.s.op=13)(ha:a<8)(hx:c.s.op=16->may=m0∧∀b:Nat,b<8->pV aM b=true->(b:Int)=c.s.m):∀(l:List Nat) (ps:List Pa),(∀b∈l,b<8)->PsL c m0 ps->PsL c m0 (l.foldl (zI c.s.site may aM a) ps)|[],_,_,h=>h|b::l,ps,hl,h=>MN ho ha hx l _ (λy hy=>hl y (ko _ hy)) (pinL_lw h ho ha (hl b (tj ..)) hx)
theorem Mg{may aM:Int}(ho:c.s.op=16∨c.s.op=13)(hx:c.s.op=16->may=m0∧∀b:Nat,b<8->pV aM b=true->(b:Int)=c.s.m):∀(l:List Nat) (ps:List Pa),(∀b∈l,b<8)->PsL c m0 ps->PsL c m0 (l.foldl (Bm c.s.site may aM) ps)|[],_,_,h=>h|a::l,ps,hl,h=>Mg ho hx l _ (λy hy=>hl y (ko _ hy)) (MN ho (hl a (tj ..)) hx _ _ (λb hb=>uP.1 hb) h)
def TU(site may aM:Int)(a:Nat)(ps:List Pa)(b:Nat):(zI site may aM a ps b).length<=ps.length+1:=by unfold zI;split;exact wW;omega
theorem GX{α:Type}{f:List Pa->α->List Pa}{k:Nat}(h:∀ps x,(f ps x).length<=ps.length+k):∀(l:List α) (ps:List Pa),(l.foldl f ps).length<=ps.length+k*l.length|[],ps=>by simp|x::l,ps=>by have h1:=GX h l (f ps x);have h2:=h ps x;rw[ta,eJ,Nat.mul_succ];omega
def P'(site may aM:Int)(ps:List Pa)(a:Nat):(Bm site may aM ps a).length<=ps.length+8:=by have h:=GX (TU site may aM a) (List.range 8) ps;rw[AV]at h;exact h
def Mh(site may aM:Int)(ps:List Pa):(WW site may aM ps).length<=ps.length+64:=by have h:=GX (P' site may aM) (List.range 8) ps;rw[AV]at h;exact h
def Lw.take(h:Lw c m0 nn w){aM:Int}(ho:c.s.op=16∨c.s.op=13)(hx:c.s.op=16->w.f.may=m0∧∀b:Nat,b<8->pV aM b=true->(b:Int)=c.s.m):Lw c m0 (nn+64) (nV c aM w):=by have k:=Mg (c:=c) (m0:=m0) (may:=w.f.may) (aM:=aM) ho hx (List.range 8) w.ps (λb hb=>uP.1 hb) ⟨h.pi,h.ps⟩;exact⟨h.fi,h.fs,k.1,k.2,by rcases ho with e|e;exact .inl e;exact .inr (.inl e),en (Mh _ _ _ _) (Nat.add_le_add_right h.pn 64)⟩
def Lw.up(h:Lw c m0 nn w){n2:Nat}(hn:nn<=n2):Lw c m0 n2 w:=⟨h.fi,h.fs,h.pi,h.ps,h.lk,en h.pn hn⟩
def Rs.lw{r:Rs}{k:Wk->Rs}(h:Lw c m0 nn r.1)(hk:Lw c m0 nn r.1->Lw c m0 nn (k r.1).1):Lw c m0 nn (r.and k).1:=by unfold Rs.and;split;exact h;exact hk h
def Lw.set(h:Lw c m0 nn w)(e:Ex):Lw c m0 nn (kS c e w):=h.same rfl rfl rfl
def Lw.Hg(h:Lw c m0 nn w)(n:Int)(a:Av):Lw c m0 nn (vF n a w):=h.same rfl rfl rfl
def Lw.assign(h:Lw c m0 nn w)(a:Av):Lw c m0 nn (g_ c a w):=h.same rfl rfl rfl
def Lw.record(h:Lw c m0 nn w)(n s:Int)(a:Av):Lw c m0 nn (eh n s a w):=h.same rfl rfl rfl
def Lw.use(h:Lw c m0 nn w)(b:Int):Lw c m0 nn (A' b w):=h.same rfl rfl rfl
def Lw.throw(h:Lw c m0 nn w)(b:Int):Lw c m0 nn (jt b w):=by unfold jt;split;exact h;exact h.same rfl rfl rfl
def Lw.narrow(h:Lw c m0 nn w)(e:Ex)(r:pL){k:Int}(hk:(c.s.op,k)∈Ha):Lw c m0 nn (gY c e r k w).1:=by unfold gY;split;exact h.set e;split;dsimp only;split;exact((h.set e).find hk false).Hg _ _;exact(h.set e).find hk false;exact(h.set e).find hk false
def Lw.inside(h:Lw c m0 nn w)(hk:(c.s.op,1)∈Ha):Lw c m0 nn (iZ c w).1:=by unfold iZ;split;exact h.set _;exact((h.set _).find hk false).same rfl rfl rfl
def Lw.Bw(h:Lw c m0 nn w)(n:Int)(hk:(c.s.op,2)∈Ha):Lw c m0 nn (iF c n w).1:=(h.find hk _)
def Lw.fill(h:Lw c m0 nn w)(n:Int)(a:Av)(hk:(c.s.op,3)∈Ha):Lw c m0 nn (r7 c n a w).1:=Rs.lw (h.find hk _) λk=>k.record _ _ _
end
def oX{G:Prop}(h:G:=by rw[ho];decide):G:=h
section
variable{c:Wc}{m0:Int}{nn:Nat}{w w' :Wk}{h:Hd}{y:Sy}
def Lw.move(l:Lw c m0 nn w)(ho:c.s.op=6∨c.s.op=7∨c.s.op=8∨c.s.op=9∨c.s.op=10):Lw c m0 nn (gE c w).1:=by unfold gE;by_cases h6:c.s.op=6;rw[aq h6];exact l.fill _ _ (by rw[h6];decide);rw[ah h6];by_cases h7:c.s.op=7;rw[aq h7];exact Rs.lw (l.Bw _ (by rw[h7];decide)) λk=>k.record _ _ _;rw[ah h7];by_cases h8:c.s.op=8;rw[aq h8];refine Rs.lw (l.Bw _ (by rw[h8];decide)) λk=> ?_;split;exact k.record _ _ _;exact Rs.lw (k.fill _ _ (by rw[h8];decide)) λk=>k.record _ _ _;rw[ah h8];by_cases h9:c.s.op=9;rw[aq h9];exact Rs.lw (l.Bw _ (by rw[h9];decide)) λk=>(k.set _).record _ _ _;rw[ah h9];by_cases h10:c.s.op=10;rw[aq h10];exact Rs.lw (l.Bw _ (by rw[h10];decide)) λk=>(k.record _ _ _).assign _;rw[ah h10];exact l
def Lw.out(l:Lw c m0 nn w):Lw c m0 nn (rN c w).1:=by unfold rN;by_cases h5:c.s.op=5;rw[aq h5];exact l.narrow _ _ (by rw[h5];decide);rw[ah h5];by_cases h18:c.s.op=18;rw[aq h18];exact l.narrow _ _ (by rw[h18];decide);rw[ah h18];by_cases h21:c.s.op=21;rw[aq h21];have k:=(l.set c.s.x).find (k:=7) (by rw[h21];decide) (kO (iC c c.s.x w).mask (dS c.p.d.sinks c.s.m)==0);dsimp only;split;exact k.Hg _ _;exact k;rw[ah h21];exact l
def ZV{m:Int}(hm:0<=m∧m<8):∀b:Nat,b<8->pV (gZ m) b=true->(b:Int)=m:=by
 intro b hb h;obtain⟨n,rfl⟩:=uL hm.1;have hn:n<8:=af
 have this:∀n:Nat,n<8->∀b:Nat,b<8->pV (gZ (n:Int)) b=true->b=n:=az
 have hh:=this n hn b hb h;omega
def Lw.lock(l:Lw c m0 nn w)(ho:c.s.op=16∨c.s.op=17)(hm:w.f.may=m0)(hml:0<=c.s.m∧c.s.m<8):Lw c m0 (nn+64) (sN c w).1:=by
 unfold sN;by_cases h17:c.s.op=17;rw[aq h17];exact(Rs.lw (l.find (by rw[h17];decide) _) λk=>k.same rfl rfl rfl).up af;rw[ah h17];have h16:c.s.op=16:=af
 have l0:=l.find (k:=4) (by rw[h16];decide) (bz w.f.may (gZ c.s.m)==0);unfold Rs.and;split;exact l0.up af;have k:=l0;refine Lw.same (w:=nV c (gZ c.s.m) (cV c 4 (bz w.f.may (gZ c.s.m)==0) w)) (k.take (.inl h16) λ_=>⟨?_,ZV hml⟩) rfl rfl rfl;show(cV c 4 (bz w.f.may (gZ c.s.m)==0) w).f.may=m0;rw[CP];exact hm
theorem Lw.dY(ho:c.s.op=13):∀(l:List Pa) (w:Wk),∀n,Lw c m0 n w->(∀x∈l,x.a≠x.b)->Lw c m0 (n+l.length) (l.foldl (λw (x:Pa)=>sK c x.a x.b w) w)|[],_,n,h,_=>h|x::l,w,n,h,hx=>by rw[eJ,show n+(l.length+1)=(n+1)+l.length by omega];exact Lw.dY ho l _ _ (h.pair (hx x (tj ..)) ho) λz hz=>hx z (ko _ hz)
def Lw.sum(l:Lw c m0 nn w)(ho:c.s.op=13)(hy:∀x∈y.dY,x.a≠x.b):Lw c m0 (nn+y.dY.length+64) (PQ c y w):=by unfold PQ;have k:=Lw.dY (m0:=m0) ho y.dY _ nn (l.find (k:=4) oX (bz y.aM w.f.may==0)) hy;dsimp only;generalize y.dY.foldl (λw (x:Pa)=>sK c x.a x.b w) (cV c 4 (bz y.aM w.f.may==0) w)=V at k;have k2:Lw c m0 (nn+y.dY.length+64) (A' y.mS (jt y.pU (nV c y.aM V))):=((k.take (.inr ho) λe=>af).throw _).use _;split;exact k2.assign _;exact k2
theorem Lw.args(ho:c.s.op=13):∀(l:List Ex) (i:Nat) (w:Wk),Lw c m0 nn w->Lw c m0 nn (fV c h l i w).1|[],_,_,k=>k|e::l,i,w,k=>Rs.lw (k.narrow _ _ oX) λk=>Lw.args ho l (i+1) _ k
def Lw.ptr(l:Lw c m0 nn w)(ho:c.s.op=13)(n:Int)(i:Nat):Lw c m0 nn (tT c h n i w).1:=by unfold tT;refine Rs.lw (l.Bw _ oX) λk=> ?_;exact Rs.lw (k.find oX _) λk=>k.record _ _ _
theorem Lw.cO(ho:c.s.op=13):∀(l:List Int) (i:Nat) (w:Wk),Lw c m0 nn w->Lw c m0 nn (fO c h l i w).1|[],_,_,k=>k|n::l,i,w,k=>Rs.lw (k.ptr ho n i) λk=>Lw.cO ho l (i+1) _ k
def Lw.call(l:Lw c m0 nn w)(ho:c.s.op=13)(hy:∀x∈y.dY,x.a≠x.b):Lw c m0 (nn+y.dY.length+64) (qh c h y w).1:=by have l1:=Lw.args (h:=h) ho c.s.args 0 _ ((l.find (k:=13) oX (pV w.f.parts h.part.toNat)).use (gZ h.part));unfold qh Rs.and;split;exact l1.up af;have l2:=Lw.cO (h:=h) ho c.s.cO 0 _ l1;dsimp only;split;exact l2.up af;exact l2.sum ho hy
def Lw.do(l:Lw c m0 nn w)(hm:w.f.may=m0)(hml:c.s.op=16∨c.s.op=17->0<=c.s.m∧c.s.m<8)(hy:c.s.op=13->∀x∈y.dY,x.a≠x.b):Lw c m0 (nn+y.dY.length+64) (kC c h y w).1:=by have up:∀{V:Wk},Lw c m0 nn V->Lw c m0 (nn+y.dY.length+64) V:=λk=>k.up af;unfold kC;by_cases ho:c.s.op=1;rw[aq ho];exact up (l.same rfl rfl rfl);rw[ah ho];clear ho;by_cases ho:c.s.op=2;rw[aq ho];exact up (Rs.lw (l.inside oX) λk=>k.assign _);rw[ah ho];clear ho;by_cases ho:c.s.op=3;rw[aq ho];exact up (Rs.lw (l.inside oX) λk=>(k.set c.s.y).same rfl rfl rfl);rw[ah ho];clear ho;by_cases ho:c.s.op=4;rw[aq ho];exact up (l.assign _);rw[ah ho];clear ho;by_cases ho:c.s.op=19;rw[aq ho];exact up (l.assign _);rw[ah ho];clear ho;by_cases ho:c.s.op=20;rw[aq ho];exact up (l.assign _);rw[ah ho];clear ho;by_cases ho:c.s.op=5∨c.s.op=18∨c.s.op=21;rw[aq ho];exact up (l.out);rw[ah ho];clear ho;by_cases ho:c.s.op=6∨c.s.op=7∨c.s.op=8∨c.s.op=9∨c.s.op=10;rw[aq ho];exact up (l.move ho);rw[ah ho];clear ho;by_cases ho:c.s.op=16∨c.s.op=17;rw[aq ho];exact(l.lock ho hm (hml ho)).up af;rw[ah ho];clear ho;by_cases ho:c.s.op=22;rw[aq ho];exact up (l.use _);rw[ah ho];clear ho;by_cases ho:c.s.op=23;rw[aq ho];exact up ((l.find (k:=10) oX _).same rfl rfl rfl);rw[ah ho];clear ho;by_cases ho:c.s.op=14;rw[aq ho];exact up (l.throw _);rw[ah ho];clear ho;by_cases ho:c.s.op=13;rw[aq ho];exact l.call ho (hy ho);rw[ah ho];exact up l
def WG(c:Wc)(f:Fa):Lw c f.may 0 (wk0 f):=⟨λx hx=>qm,List.Pairwise.nil,λx hx=>qm,List.Pairwise.nil,.inr (.inr rfl),cu 0⟩
def TE{f:Fa}(hml:c.s.op=16∨c.s.op=17->0<=c.s.m∧c.s.m<8)(hy:c.s.op=13->∀x∈y.dY,x.a≠x.b):Lw c f.may (0+y.dY.length+64) (nk c h y f):=by
 have k:=(WG c f).do (h:=h) (y:=y) rfl hml hy
 unfold nk;split;exact Lw.up (nn:=0) ((WG c f).same (w' :={wk0 f with nx:=gU}) rfl rfl rfl) af;have g:Lw c f.may (0+y.dY.length+64) (yW c h y (wk0 f)):=by unfold yW;split;exact k.same rfl rfl rfl;exact k
 exact g.same rfl rfl rfl
end
def Wy{G:Prop}(h:G:=by have h:(((BitVec.ofInt IntKind.i64.bits (f.may.fdiv (2^min a.toNat IntKind.i64.bits))&&&BitVec.ofInt IntKind.i64.bits 1).toNat:Nat):Int)=1:=eq_of_beq (show(bz (f.may.fdiv (2^min a.toNat 64)) 1==1)=true from h16.2.2.2);rw[h];rfl):G:=h
def Vo{G:Prop}(h:G:=by refine run ?_;refine a_.at rfl b0 hxp ?_;refine run ?_;refine a_.at rfl b0 hxp ?_;refine run ?_;refine Arith.WN h16a (by omega) ?_;refine run ?_;exact tM hj1):G:=h
def RQ{G:Prop}(h:G:=by refine run ?_;refine a_.at rfl b0 hxp ?_;refine run ?_;refine a_.at rfl b0 hxp ?_;refine run ?_;exact tM hj1):G:=h
def Yr{x:Inp}{c:Wc}{f:Fa}(c10:C 10 [] (bo true))(c11:C 11 [xk x,bo false] (CZ c f false)):C 5 [xk x] (bo true):=by refine fo Tryz.func5 ?_;exact aW
def kinds_a{x:Inp}{c:Wc}{f:Fa}{W:Wk}(c10:C 10 [] (bo true))(c11:C 11 [xk x,bo false] (CZ c f true))(c13:C 13 [CZ c f true] (z_ W)){nn:Nat}(l:Lw c f.may nn W)(hnn:nn<2^30):C 5 [xk x] (bo true):=by
 have hpl:W.ps.length<2^30:=J_ l.pn hnn;have hfl:W.fd.length<2^30:=by have h1:(W.fd.map (·.kind)).Nodup:=List.pairwise_map.2 (J6 (λ{a b} h e=>VY) l.fs);have h2:=wK (m:=Ha.map (·.2)) h1 (λx hx=>by obtain⟨y,hy,rfl⟩:=dM.1 hx;exact dM.2 ⟨_,(l.fi y hy).2.2,rfl⟩);rw[cZ,cZ]at h2;have h3:Ha.length=18:=rfl;omega
 have hfl2:(W.fd.map fx).length=W.fd.length:=cZ ..;have hpl2:(W.ps.map bF).length=W.ps.length:=cZ ..;have hne:∀z:Int,(z !=z)=false:=λz=>ag
 have z1:=hne c.d.id;have z2:=hne c.s.site;have z3:(!(c.d.id==c.d.id))=false:=ag
 have z4:(!(c.s.site==c.s.site))=false:=ag
 refine fo Tryz.func5 ?_;refine aN ?_;refine bB.mk ⟨[],aZ.np W.fd.length (λ_=>True) (λk=>⟨[(6,it k)],[],[]⟩) trivial ?_⟩;intro k hk hJ;by_cases hk1:k<W.fd.length;have b1:decide ((k:Int)<((W.fd.map fx).length:Nat))=true:=by rw[hfl2];exact gw
 have hs:∃kd,nth (W.fd.map fx) ((k:Int)).toNat=some (.agg [it c.d.id,it c.s.site,it kd])∧(c.s.op,kd)∈Ha∧W.fd[k].kind=kd:=by have h:=l.fi _ (cU hk1);refine⟨W.fd[k].kind,?_,h.2.2,rfl⟩;rw[bW,lQ,fq hk1];show some (au.agg [it W.fd[k].df,it W.fd[k].site,it W.fd[k].kind])=_;rw[h.1,h.2.1]
 refine hs.elim λkd hs=> ?_;have hx:=hs.1;have cc:=can_c hs.2.1;by_cases hk0:k=0;have b2:decide ((k:Int)>0)=false:=aA;refine aN ?_;refine a_.at rfl (dX k) hx ?_;refine aN ?_;exact tM hk1;have b2:decide ((k:Int)>0)=true:=aA;have hkp:k - 1<W.fd.length:=af
 have hp:∃kp,nth (W.fd.map fx) ((k:Int) - 1).toNat=some (.agg [it c.d.id,it c.s.site,it kp])∧kp<kd:=(by have h:=l.fi _ (cU hkp);refine⟨W.fd[k - 1].kind,?_,?_⟩;rw[bW,show((k:Int) - 1).toNat=k - 1 by omega,fq hkp];show some (au.agg [it W.fd[k - 1].df,it W.fd[k - 1].site,it W.fd[k - 1].kind])=_;rw[h.1,h.2.1];have h2:=Kl.1 l.fs (k - 1) k hkp hk1 af;rw[<-hs.2.2];exact BZ.1 h2);refine hp.elim λkp hp=> ?_;have hxp:=hp.1;have b3:decide (kp>=kd)=false:=by have:=hp.2;exact aA
 have b0:0<=(k:Int) - 1:=af;refine aN ?_;refine a_.at rfl (dX k) hx ?_;refine aN ?_;refine a_.at rfl b0 hxp ?_;refine aN ?_;exact tM hk1;have b1:decide ((k:Int)<((W.fd.map fx).length:Nat))=false:=by rw[hfl2];exact aA
 refine run ?_;refine bB.mk ⟨[],aZ.np W.ps.length (λ_=>True) (λk=>⟨[(8,it k)],[],[]⟩) trivial ?_⟩;intro j hj hJ2;by_cases hj1:j<W.ps.length;have b4:decide ((j:Int)<((W.ps.map bF).length:Nat))=true:=(by rw[hpl2];simp;exact hj1);have hs:∃a b,nth (W.ps.map bF) ((j:Int)).toNat=some (.agg [it a,it b,it c.s.site])∧a≠b∧(c.s.op=16∨c.s.op=13)∧(c.s.op=16->b=c.s.m∧0<=a∧a<8∧pV f.may a.toNat=true)∧W.ps[j].a=a∧W.ps[j].b=b:=by have h:=l.pi _ (cU hj1);refine⟨W.ps[j].a,W.ps[j].b,?_,h.2.1,h.2.2.1,h.2.2.2,rfl,rfl⟩;rw[bW,lQ,fq hj1];show some (au.agg [it W.ps[j].a,it W.ps[j].b,it W.ps[j].site])=_;rw[h.1]
 refine hs.elim λa hs=>hs.elim λb hs=> ?_;have hx:=hs.1;have z5:(a==b)=false:=by simpa using hs.2.1
 by_cases hj0:j=0;have b2:decide ((j:Int)>0)=false:=aA;refine hs.2.2.1.elim (λho=> ?_) (λho=> ?_);have o1:(c.s.op !=16)=false:=aw;have o2:(c.s.op==16)=true:=aw
 have h16:=hs.2.2.2.1 ho;have z6:(b !=c.s.m)=false:=by rw[h16.1];simp
 have h16a:=h16.2.1;have h16b:=h16.2.2.1;have ha1:=(Og (f.may.fdiv (2^min a.toNat IntKind.i64.bits))).1;have ha2:=(Og (f.may.fdiv (2^min a.toNat IntKind.i64.bits))).2;have z7:((((BitVec.ofInt IntKind.i64.bits (f.may.fdiv (2^min a.toNat IntKind.i64.bits))&&&BitVec.ofInt IntKind.i64.bits 1).toNat:Nat):Int)==0)=false:=Wy
 refine run ?_;refine a_.at rfl (dX j) hx ?_;refine run ?_;refine Arith.WN h16a af ?_;refine run ?_;exact tM hj1;have o1:(c.s.op !=16)=true:=aw;have o2:(c.s.op==16)=false:=aw
 have o3:(c.s.op !=13)=false:=aw;refine run ?_;refine a_.at rfl (dX j) hx ?_;refine run ?_;exact tM hj1;have b2:decide ((j:Int)>0)=true:=aA;have hjp:j - 1<W.ps.length:=af
 have hp:∃pa pb ps,nth (W.ps.map bF) ((j:Int) - 1).toNat=some (.agg [it pa,it pb,it ps])∧(pa<a∨(pa=a∧pb<b)):=(by refine⟨W.ps[j - 1].a,W.ps[j - 1].b,W.ps[j - 1].site,?_,?_⟩;rw[bW,show((j:Int) - 1).toNat=j - 1 by omega,fq hjp];rfl;have h2:=Kl.1 l.ps (j - 1) j hjp hj1 af;have h3:=G_.1 h2;rw[hs.2.2.2.2.1,hs.2.2.2.2.2]at h3;exact h3);refine hp.elim λpa hp=>hp.elim λpb hp=>hp.elim λpss hp=> ?_;have hxp:=hp.1;have b0:0<=(j:Int) - 1:=af
 have b5:decide (pa>a)=false:=(by have:=hp.2;exact aA);refine hp.2.elim (λhlt=> ?_) (λhlt=> ?_);have b6:(pa==a)=false:=aA;refine hs.2.2.1.elim (λho=> ?_) (λho=> ?_);have o1:(c.s.op !=16)=false:=aw;have o2:(c.s.op==16)=true:=aw
 have h16:=hs.2.2.2.1 ho;have z6:(b !=c.s.m)=false:=by rw[h16.1];simp
 have h16a:=h16.2.1;have h16b:=h16.2.2.1;have ha1:=(Og (f.may.fdiv (2^min a.toNat IntKind.i64.bits))).1;have ha2:=(Og (f.may.fdiv (2^min a.toNat IntKind.i64.bits))).2;have z7:((((BitVec.ofInt IntKind.i64.bits (f.may.fdiv (2^min a.toNat IntKind.i64.bits))&&&BitVec.ofInt IntKind.i64.bits 1).toNat:Nat):Int)==0)=false:=Wy
 refine run ?_;refine a_.at rfl (dX j) hx ?_;exact Vo;have o1:(c.s.op !=16)=true:=aw;have o2:(c.s.op==16)=false:=aw
 have o3:(c.s.op !=13)=false:=aw;refine run ?_;refine a_.at rfl (dX j) hx ?_;exact RQ;have b6:(pa==a)=true:=(by simpa using hlt.1);have b7:decide (pb>=b)=false:=by have:=hlt.2;exact aA
 refine hs.2.2.1.elim (λho=> ?_) (λho=> ?_);have o1:(c.s.op !=16)=false:=aw;have o2:(c.s.op==16)=true:=aw
 have h16:=hs.2.2.2.1 ho;have z6:(b !=c.s.m)=false:=by rw[h16.1];simp
 have h16a:=h16.2.1;have h16b:=h16.2.2.1;have ha1:=(Og (f.may.fdiv (2^min a.toNat IntKind.i64.bits))).1;have ha2:=(Og (f.may.fdiv (2^min a.toNat IntKind.i64.bits))).2;have z7:((((BitVec.ofInt IntKind.i64.bits (f.may.fdiv (2^min a.toNat IntKind.i64.bits))&&&BitVec.ofInt IntKind.i64.bits 1).toNat:Nat):Int)==0)=false:=Wy
 refine run ?_;refine a_.at rfl (dX j) hx ?_;refine run ?_;refine a_.at rfl b0 hxp ?_;exact Vo;have o1:(c.s.op !=16)=true:=aw;have o2:(c.s.op==16)=false:=aw
 have o3:(c.s.op !=13)=false:=aw;refine run ?_;refine a_.at rfl (dX j) hx ?_;refine run ?_;refine a_.at rfl b0 hxp ?_;exact RQ;have b4:decide ((j:Int)<((W.ps.map bF).length:Nat))=false:=JX;refine(dw (c.s.op==16)).elim (λo1=> ?_) (λo1=> ?_);exact aT;refine(dw (c.s.op==13)).elim (λo2=> ?_) (λo2=> ?_);exact aT;have hl0:W.wR=0:=by have:=l.lk;simp at o1 o2;omega
 have o3:(W.wR==0)=true:=(by rw[hl0];rfl);refine run ?_;exact fu.mk (aL au.bool o3) rfl
def exP:Pg:=⟨cq,[lV BT],[BT],[]⟩
def U9(lv:Int)(s:Sm):Wc:=⟨exP,lv,[],{BT with body:=[s]},s,[]⟩
def sG(x:Ex):Sm:= .mk 1 2 1 0 0 x (.mk 0 0 0 []) (.mk 0 [] []) [] [] [] []
def H_:Sm:= .mk 2 7 0 0 0 (.mk 0 0 0 []) (.mk 0 0 0 []) (.mk 0 [] []) [] [] [] []
def f0:Fa:=ku BT
def f1:Fa:={f0 with refs:=[⟨3,zR⟩]}
def kxA:Wk:=nk (U9 2 (sG (HP 0))) HA HU f0
def kxB:Wk:=nk (U9 2 (sG (qc 1))) HA HU f0
def kxC:Wk:=nk (U9 2 (sG (qc 7))) HA HU f0
def kxE:Wk:=nk (U9 0 H_) HA HU f1
def kxA_fd:kxA.fd=[⟨7,1,1⟩]:=aB
def kxA_v:kxA.nx.v=[jj ⟨0,3,0⟩,Hq 0]:=aB
def kxB_fd:kxB.fd=[]:=aB
def kxC_fd:kxC.fd=[⟨7,1,1⟩]:=aB
def kxC_d:kxC.nx.dead=true:=aB
def kxC_t:kxC.th.dead=true:=aB
def kxE_fd:kxE.fd=[⟨7,2,2⟩]:=aB
def kxE_r:kxE.nx.refs=[⟨1,zR⟩]:=aB
theorem yG.body{d:Df}(h:yG d)(b:List Sm):yG {d with body:=b}:=⟨⟨h.LM.yE,h.LM.len⟩,h.pv,h.vars,h.refs,h.pn,h.an⟩
def Lt :yG BT:=⟨⟨λa ha=>(by rw[fY.1 ha];exact y9),λa ha=>(by rw[fY.1 ha];exact y9)⟩,az,⟨az,az⟩,⟨az,az⟩,az,az⟩
def exD_dok(b:List Sm):yG {BT with body:=b}:=Lt.body b
def exC_ck(lv:Int)(s:Sm):kP (U9 lv s):=⟨exD_dok [s],(by show(0:Nat)<=2^30;decide),λr hr=>(by cases hr)⟩
theorem qO.body{d:Df}{f:Fa}(h:qO d f)(b:List Sm):qO {d with body:=b} f:=⟨h.live,h.v,h.va,h.jh,h.refs,h.ra,h.arr,h.aa,h.ew,h.may,h.parts,h.sub⟩
def xg:qO BT f0:=by
 refine⟨rfl,rfl,λa ha=> ?_,ET 2 1,rfl,λr hr=> ?_,rfl,λn hn=> ?_,⟨az,az⟩,⟨az,az⟩,⟨az,az⟩,az⟩;have e:f0.v=[jj ⟨0,5,0⟩,zR]:=aB
 rw[e]at ha;rcases bT.1 ha with rfl|ha;exact nU.av ⟨az,az,az,az,az⟩;rw[fY.1 ha];exact A8;have e:f0.refs=[⟨1,zR⟩]:=aB
 rw[e]at hr;rw[fY.1 hr];exact⟨⟨az,az⟩,A8,λ_=>rfl⟩;have e:f0.arr=[0]:=aB
 rw[e]at hn;rw[fY.1 hn];exact y9
def f1_ok:qO BT f1:=⟨rfl,xg.v,xg.va,xg.jh,rfl,λr hr=>by have e:f1.refs=[⟨3,zR⟩]:=rfl;rw[e]at hr;rw[fY.1 hr];exact⟨⟨az,az⟩,A8,λh=>by exact absurd h az⟩,xg.arr,xg.aa,xg.ew,xg.may,xg.parts,xg.sub⟩
def QD(b:List Sm):qO {BT with body:=b} f0:=xg.body b
def f1_lok(b:List Sm):qO {BT with body:=b} f1:=f1_ok.body b
def K3(lv:Int){x:Ex}(hx:∃k z,jY 2 1 k x z):Vb (U9 lv (sG x)) HA HU:=by have ho:(U9 lv (sG x)).s.op=2:=rfl;refine⟨oX,λ_=>hx,λh=> ?_,λh=> ?_,λ_=>(show(0:Int)<=1∧(1:Int)<2 by decide),λh=> ?_,λh=> ?_,λ_=>(show(0:Int)<=0∧(0:Int)<((1:Nat):Int) by decide),λh=> ?_,λh=> ?_,λh=> ?_,λh=> ?_,λh=> ?_,λh=> ?_,λh=> ?_,λh=> ?_⟩<;>(rw[ho]at h;exact absurd h az)
def free_in(lv:Int):Vb (U9 lv H_) HA HU:=by have ho:(U9 lv H_).s.op=7:=rfl;refine⟨oX,λh=> ?_,λh=> ?_,λh=> ?_,λh=> ?_,λ_=>(show(0:Int)<=0∧(0:Int)<1 by decide),λh=> ?_,λh=> ?_,λh=> ?_,λh=> ?_,λh=> ?_,λh=> ?_,λh=> ?_,λh=> ?_,λh=> ?_,λh=> ?_⟩<;>(rw[ho]at h;exact absurd h az)
def Lq{lv:Int}{s:Sm}{f:Fa}(hf:qO {BT with body:=[s]} f)(hi:Vb (U9 lv s) HA HU)(ho:s.op≠13):C 31 [qb exP,.agg [it lv,fj 10 gM []],bQ {BT with body:=[s]},encS s,bg f,fj 11 eU []] (z_ (nk (U9 lv s) HA HU f)):=H6 (Sg (c:=U9 lv s) (exC_ck lv s) (.inr hf) (N7 rfl) hi (show 1<=2 by decide) (λh=>absurd h ho))
def f0_run:C 30 [bQ BT,it 2] (bg f0):=by have hN:C 105 [it BT.vars,it ((BT.params.map bp).length:Nat)] (dF (fM BT.vars.toNat BT.params.length)):=new_c 2 1 af af;have hD:=LB Lt (.inr xg) hN 2;have e:pI BT 2 f0=f0:=rfl;rw[e]at hD;exact start_c Lt (λr hr=>by rw[fY.1 hr];decide) (λr hr=>by cases hr) az az hN 2 f0 hD
def wA(a:List Fd)(hl:a.length<2^40):C 46 [fj 3 fx a,fj 3 fx a] (bo true):=by
 have b0:((((a.map fx).length:Nat):Int) !=(((a.map fx).length:Nat):Int))=false:=ag
 refine fo Tryz.func46 ?_;refine run ?_;refine bB.mk ⟨[],aZ.np a.length (λ_=>True) (λk=>⟨[(5,it k)],[],[]⟩) trivial ?_⟩;intro k hk hJ;by_cases hk1:k<a.length;have b1:decide ((k:Int)<((a.map fx).length:Nat))=true:=gw
 have b2:(!(a[k].df==a[k].df&&(a[k].site==a[k].site&&(a[k].kind==a[k].kind&&true))))=false:=ag
 have b3:(!(a[k].df==a[k].df&&(a[k].site==a[k].site&&a[k].kind==a[k].kind)))=false:=ag
 refine run ?_;refine a_.map hk1 rfl ?_;refine run ?_;refine a_.map hk1 rfl ?_;refine run ?_;exact tM hk1;have b1:decide ((k:Int)<((a.map fx).length:Nat))=false:=aA
 exact aT
def QE{F:Fa}{WA WB WC WE:Wk}{A:Av}(cF0:C 30 [bQ BT,it 2] (bg F))(hFv:F.v.length=2)(cA:C 31 [qb exP,.agg [it 2,fj 10 gM []],bQ {BT with body:=[sG (HP 0)]},encS (sG (HP 0)),bg F,fj 11 eU []] (z_ WA))(cB:C 31 [qb exP,.agg [it 2,fj 10 gM []],bQ {BT with body:=[sG (qc 1)]},encS (sG (qc 1)),bg F,fj 11 eU []] (z_ WB))(cC:C 31 [qb exP,.agg [it 2,fj 10 gM []],bQ {BT with body:=[sG (qc 7)]},encS (sG (qc 7)),bg F,fj 11 eU []] (z_ WC))(cE:C 31 [qb exP,.agg [it 0,fj 10 gM []],bQ {BT with body:=[H_]},encS H_,bg {F with refs:=[⟨3,zR⟩]},fj 11 eU []] (z_ WE))(a1:WA.fd=[⟨7,1,1⟩])(a2:WA.nx.v=[A,Hq 0])(c47:C 47 [.agg [it 0,it 3,it 0]] (ai A))(bb:WB.fd=[])(d1:WC.fd=[⟨7,1,1⟩])(d2:WC.nx.dead=true)(d3:WC.th.dead=true)(e1:WE.fd=[⟨7,2,2⟩])(e2:WE.nx.refs=[⟨1,zR⟩]):C 10 [] (bo true):=by
 have c1:=exD_ok;have c2:=DL;have c3:=E3 BT;have v1:=WK 0;have v2:=fK 1;have v3:=fK 7;have l1:=K4 (HP 0);have l2:=K4 (qc 1);have l3:=K4 (qc 7);have h1:=E0 BT (sG (HP 0));have h2:=E0 BT (sG (qc 1));have h3:=E0 BT (sG (qc 7));have h4:=E0 BT H_;have f1:C 46 [fj 3 fx WA.fd,.sl 3 [.agg [it 7,it 1,it 1]] false] (bo true):=by rw[a1];exact wA [⟨7,1,1⟩] az
 have f2:C 46 [fj 3 fx WC.fd,.sl 3 [.agg [it 7,it 1,it 1]] false] (bo true):=by rw[d1];exact wA [⟨7,1,1⟩] az
 have f3:C 46 [fj 3 fx WE.fd,.sl 3 [.agg [it 7,it 2,it 2]] false] (bo true):=by rw[e1];exact wA [⟨7,2,2⟩] az
 have cz:=Ao;have t1:((((F.v.map ai).length:Nat):Int) !=2)=false:=by rw[cZ,hFv];rfl
 have t2:((((WA.nx.v.map ai).length:Nat):Int) !=2)=false:=by rw[a2];rfl
 have t3:((((WB.fd.map fx).length:Nat):Int) !=0)=false:=by rw[bb];rfl
 have t4:(!WC.nx.dead)=false:=by rw[d2];rfl
 have t5:(!WC.th.dead)=false:=by rw[d3];rfl
 have t6:((((WE.nx.refs.map aO).length:Nat):Int)==1)=true:=by rw[e2];rfl
 have x1:nth (WA.nx.v.map ai) ((0:Int)).toNat=some (ai A):=by rw[a2];rfl
 have x2:nth (WE.nx.refs.map aO) ((0:Int)).toNat=some (aO ⟨1,zR⟩):=by rw[e2];rfl
 have t7:(!(A.lo==A.lo&&(A.hi==A.hi&&(A.m==A.m&&(A.r==A.r&&(A.mask==A.mask&&true))))))=false:=ag
 refine fo Tryz.func10 ?_;refine aN ?_;refine a_.at rfl az x1 ?_;refine aN ?_;refine a_.at rfl az x2 ?_;exact aW
def NU:C 10 [] (bo true):=
 QE (F:=f0) (WA:=kxA) (WB:=kxB) (WC:=kxC) (WE:=kxE) (A:=jj ⟨0,3,0⟩) f0_run rfl
  (Lq (lv:=2) (QD _) (K3 2 ⟨1,1,.var ⟨az,az⟩⟩) az) (Lq (lv:=2) (QD _) (K3 2 ⟨1,1,.num ⟨az,az⟩⟩) az) (Lq (lv:=2) (QD _) (K3 2 ⟨1,1,.num ⟨az,az⟩⟩) az)
  (Lq (lv:=0) (f1_lok _) (free_in 0) az) kxA_fd kxA_v (Qs ⟨0,3,0⟩ az az az) kxB_fd kxC_fd kxC_d kxC_t kxE_fd kxE_r
def Ul{x:Inp}(hx:Tg x):C 5 [xk x] (bo true):=by obtain⟨c,f,b,p⟩:=TT hx;have c10:=NU;cases b with|false=>exact Yr c10 p.run|true=>obtain⟨h1,h2,h3⟩:=p.s rfl;have hc:C 13 [CZ c f true] (z_ (nk c (U7 c.p c.s) (Dg c.p c.s c.ei) f)):=step_fn (H6 (Sg p.ck (.inr p.f) p.pi h3 p.np (λ_ _=>p.av)));have hl:=TE (c:=c) (h:=U7 c.p c.s) (y:=Dg c.p c.s c.ei) (f:=f) (λho=>h3.ml ho) (λ_=>p.ne);exact kinds_a c10 p.run hc hl (by have:=p.yn;omega)
end Abs
namespace Abs
open Go Go.RowKit
def Pt{G:Prop}(h:G:=by rw[Ty]at h;obtain⟨b,rfl,_⟩:=h;simp[iO]):G:=h
inductive Sh where
 |bool
 |int (k:IntKind)
 |str
 |sl (e:Sh)
 |st (fs:List Sh)
 |arr (n:Nat) (e:Sh)
mutual
def iO:Sh->Nat| .bool=>1| .int _=>1| .str=>1| .sl _=>1| .st fs=>Dk fs| .arr n e=>n*iO e
def Dk:List Sh->Nat|[]=>0|s::l=>iO s+Dk l
end
def isAg:Sh->Bool| .st _=>true| .arr _ _=>true|_=>false
def KV(s:Sh)(c:List au):au:=if isAg s then .agg c else c.headD .any
def Oo(T:List au->Prop):Nat->List au->Prop|0,l=>l=[]|n+1,l=>∃a b,l=a++b∧T a∧Oo T n b
mutual
def Ty:Sh->List au->Prop| .bool,l=>∃b,l=[.bool b]| .int k,l=>∃n,l=[.int k n]∧(Lit.int k n).wf=true| .str,l=>∃s:List UInt8,l=[.str s]∧s.length<=maxLen| .sl e,l=>∃es,l=[.sl (iO e) es false]∧es.length<=maxLen∧∀x∈es,∃c,x=KV e c∧Ty e c| .st fs,l=>pK fs l| .arr n e,l=>Oo (Ty e) n l
def pK:List Sh->List au->Prop|[],l=>l=[]|s::fs,l=>∃a b,l=a++b∧Ty s a∧pK fs b
end
theorem Oo.len{T:List au->Prop}{k:Nat}(h:∀l,T l->l.length=k):∀(n:Nat) (l:List au),Oo T n l->l.length=n*k|0,l,e=>by rw[Oo]at e;subst e;simp|n+1,l,e=>by rw[Oo]at e;obtain⟨a,b,rfl,ha,hb⟩:=e;rw[fA,h a ha,Oo.len h n b hb,re];omega
mutual
theorem Ty.len:∀(s:Sh) (l:List au),Ty s l->l.length=iO s
 | .bool,l,h=>by rw[Ty]at h;obtain⟨b,rfl⟩:=h;simp[iO]
 | .int k,l,h=>Pt
 | .str,l,h=>Pt
 | .sl e,l,h=>Pt
 | .st fs,l,h=>by rw[Ty]at h;rw[iO];exact pK.len fs l h| .arr n e,l,h=>by rw[Ty]at h;rw[iO];exact Oo.len (Ty.len e) n l h
theorem pK.len:∀(fs:List Sh) (l:List au),pK fs l->l.length=Dk fs|[],l,h=>by rw[pK]at h;subst h;simp[Dk]|s::fs,l,h=>by rw[pK]at h;obtain⟨a,b,rfl,ha,hb⟩:=h;rw[fA,Ty.len s a ha,pK.len fs b hb,Dk]
end
theorem Ty.cells{s:Sh}{c:List au}(h:Ty s c):Abs.cells (KV s c)=c:=by cases s<;>rw[Ty]at h;obtain⟨b,rfl⟩:=h;rfl;obtain⟨b,rfl,_⟩:=h;rfl;obtain⟨b,rfl,_⟩:=h;rfl;obtain⟨b,rfl,_⟩:=h;rfl;rfl;rfl
def Uz(P:Program)(F:TypeId->Sh->Bool):Nat->List Field->List Sh->Bool|_,[],[]=>true|off,g::gs,s::fs=>Nat.beq g.offset off&&(Nat.beq (P.cellsOf g.type) (iO s)&&(F g.type s&&Uz P F (off+iO s) gs fs))|_,_,_=>false
def FE(P:Program):Nat->TypeId->Sh->Bool|0,_,_=>false|n+1,t,s=>Nat.beq (P.cellsOf t) (iO s)&&match P.underlying t,s with|some .bool,.bool=>true|some (.int k),.int k' =>decide (k=k')|some .string,.str=>true|some (.slice e),.sl u=>Nat.blt 0 (iO u)&&(Nat.beq (P.cellsOf e) (iO u)&&FE P n e u)|some (.struct gs),.st fs=>Uz P (FE P n) 0 gs.toList fs|some (.array m e),.arr m' u=>Nat.beq m m' &&(Nat.beq (P.cellsOf e) (iO u)&&FE P n e u)|_,_=>false
def Iw(W:World)(b o:Nat):Option Value:=match W.cell? ⟨b,o,none⟩with
 |some v=>if leaf v then some v else none
 |none=>none
def Iw_some{W:World}{b o:Nat}{v:Value}(h:W.cell? ⟨b,o,none⟩=some v)(hl:leaf v=true):Iw W b o=some v:=by unfold Iw;rw[h];simp[hl]
def Iw_of{W:World}{b o:Nat}{v:Value}(h:Iw W b o=some v):W.cell? ⟨b,o,none⟩=some v∧leaf v=true:=by unfold Iw at h;split at h;split at h;cases h;exact⟨qn,qn⟩;cases h;cases h
def Reads(I:Nat->Nat->Option Value)(cs:List Value)(l:List au):Prop:=l.length=cs.length∧∀(i:Nat) v x,cs[i]? =some v->nth l i=some x->bN I v x∧leaf v=true
def Reads.nil{I:Nat->Nat->Option Value}:Reads I [] []:=⟨rfl,λi v x h=>by simp at h⟩
def Reads.one{I:Nat->Nat->Option Value}{v:Value}{d:au}(r:bN I v d)(h:leaf v=true):Reads I [v] [d]:=by refine⟨rfl,λi u x hu hx=> ?_⟩;cases i with|zero=>simp at hu;simp[nth]at hx;subst hu hx;exact⟨r,h⟩|succ i=>simp at hu
def Reads.append{I:Nat->Nat->Option Value}{a b:List Value}{l m:List au}(h:Reads I a l)(k:Reads I b m):Reads I (a++b) (l++m):=by refine⟨by rw[fA,fA,h.1,k.1],λi v x hv hx=> ?_⟩;rw[aI]at hx;rcases ja i a.length with hi|hi;rw[kR hi]at hv;rw[kR (by rw[h.1];exact hi)]at hx;exact h.2 i v x hv Ej;rw[jc hi]at hv;rw[jc (by rw[h.1];exact hi),h.1]at hx;exact k.2 _ v x hv Ej
section
variable{H:Type}{enc:TypeId×Value->H}{P:Program}{W:World}{sp:Nat->Bool}{held:Bool}
theorem SS{F:TypeId->Sh->Bool}{m:Nat}{cs:List Value}(IH:∀t s cs x,F t s=true->DataW.trod enc P W 0 sp held m t cs=some x->∃l,Reads (Iw W) cs l∧Ty s l):∀(gs:List Field) (fs:List Sh) (off:Nat),Uz P F off gs fs=true->cs.length=off+Dk fs->(∀f∈gs,∃x,DataW.trod enc P W 0 sp held m f.type ((cs.drop f.offset).take (P.cellsOf f.type))=some x)->∃l,Reads (Iw W) (cs.drop off) l∧pK fs l
 |[],fs,off,hb,hl,hx=>by cases fs with|cons s fs=>simp[Uz]at hb|nil=>refine⟨[],?_,by rw[pK]⟩;rw[uK (by rw[hl];simp[Dk])];exact Reads.nil
 |g::gs,fs,off,hb,hl,hx=>by
  cases fs with
  |nil=>simp[Uz]at hb
  |cons s fs=>
   simp only[Uz,bc]at hb;obtain⟨h1,h2,h3,h4⟩:=hb;have e1:g.offset=off:=dt h1;have e2:P.cellsOf g.type=iO s:=dt h2;rw[Dk]at hl;obtain⟨x,hx1⟩:=hx g ag;rw[e1,e2]at hx1;obtain⟨l,hr,ht⟩:=IH _ _ _ _ h3 hx1;obtain⟨l',hr',ht'⟩:=SS IH gs fs (off+iO s) h4 af (λf hf=>hx f (by simp[hf]));refine⟨l++l',?_,by rw[pK];exact⟨l,l',rfl,ht,ht'⟩⟩;have e:cs.drop off=(cs.drop off).take (iO s)++cs.drop (off+iO s):=by rw[<-List.drop_drop,Ck]
   rw[e];exact hr.append hr'
theorem Z3{m e k:Nat}{u:Sh}{cs:List Value}(IH:∀cs x,DataW.trod enc P W 0 sp held m e cs=some x->∃l,Reads (Iw W) cs l∧Ty u l)(n:Nat)(hl:cs.length=n*k)(hx:∀i,i<n->∃x,DataW.trod enc P W 0 sp held m e ((cs.drop (i*k)).take k)=some x):∀(r i:Nat),i+r=n->∃l,Reads (Iw W) (cs.drop (i*k)) l∧Oo (Ty u) r l
 |0,i,hi=>by refine⟨[],?_,by rw[Oo]⟩;rw[uK (by rw[hl,<-hi];simp)];exact Reads.nil
 |r+1,i,hi=>by
  obtain⟨x,hx1⟩:=hx i af;obtain⟨l,hr,ht⟩:=IH _ _ hx1;obtain⟨l',hr',ht'⟩:=Z3 IH n hl hx r (i+1) af;refine⟨l++l',?_,by rw[Oo];exact⟨l,l',rfl,ht,ht'⟩⟩;have e:cs.drop (i*k)=(cs.drop (i*k)).take k++cs.drop ((i+1)*k):=by rw[re,<-List.drop_drop,Ck]
  rw[e];exact hr.append hr'
def I9{a:Addr}{n:Nat}{cs:List Value}(h:W.cells? 0 a n=some cs):cs.length=n∧∀i,i<n->W.cell? (a.add i)=cs[i]? :=by unfold World.cells? at h;rw[aq (dL _)]at h;exact⟨by simpa using mapM_some_length h,λi hi=>mapM_some_get h i i (by simp[hi])⟩
def add_plain(b o n:Nat):Addr.add ⟨b,o,none⟩ n=⟨b,o+n,none⟩:=by unfold Addr.add;split<;>simp_all
theorem trod_ty:∀(n fuel:Nat) (t:TypeId) (s:Sh) (cs:List Value) (x:DataW H×List MemPlace),FE P n t s=true->DataW.trod enc P W 0 sp held fuel t cs=some x->∃l,Reads (Iw W) cs l∧Ty s l:=by
 intro n;induction n with
 |zero=>intro fuel t s cs x hb;simp[FE]at hb
 |succ n ih=>
  intro fuel t s cs x hb h;simp only[FE,bc]at hb;obtain⟨hc0,hb⟩:=hb;have hc:=dt hc0;clear hc0;split at hb;rename_i ht;obtain⟨b,rfl,rfl⟩:=DataW.trod_bool ht h;exact⟨[.bool b],.one (.bool b) rfl,by rw[Ty];exact⟨b,rfl⟩⟩;rename_i k k' ht;have e:k=k' :=tf hb;subst e;obtain⟨b,rfl,rfl,hw⟩:=DataW.trod_int ht h;exact⟨[.int k b],.one (.int k b) rfl,by rw[Ty];exact⟨b,rfl,hw⟩⟩;rename_i ht;obtain⟨b,rfl,rfl,hw⟩:=DataW.trod_string ht h;refine⟨[.str b.data.toList],.one ?_ rfl,by rw[Ty];exact⟨_,rfl,hw⟩⟩;exact .str b.data.toList
  ·rename_i e u ht;simp only[bc]at hb;obtain⟨h0,h1,h2⟩:=hb;have h0:0<iO u:=by simpa[Nat.blt_eq]using h0
   have h1:=dt h1;rcases DataW.trod_slice ht h with⟨rfl,_⟩|⟨a,len,cap,elems,rest,m,_,rfl,_,_,hlc,hcap,hlen,hel,_⟩;exact⟨[.sl (iO u) [] false],.one (.slnil _ _) rfl,by rw[Ty];exact⟨[],rfl,dL _,λx hx=>by simp at hx⟩⟩
   ·have hall:∀i,i<len->∃c,(∃vs,W.cells? 0 (a.add (i*iO u)) (iO u)=some vs∧Reads (Iw W) vs c)∧Ty u c:=(by intro i hi;have hE:=hel i hi;rw[h1]at hE;have hx:∃y,elems[i]? =some y:=⟨elems[i]' af,iM af⟩;obtain⟨y,hy⟩:=hx;rw[hy]at hE;obtain⟨vs,hv,ht2⟩:=Kk.1 hE;obtain⟨c,hr,hty⟩:=ih m e u vs y h2 ht2;exact⟨c,⟨vs,hv,hr⟩,hty⟩);obtain⟨C,hC⟩:∃C:Nat->List au,∀i,i<len->(∃vs,W.cells? 0 (a.add (i*iO u)) (iO u)=some vs∧Reads (Iw W) vs (C i))∧Ty u (C i):=by refine⟨λi=>if h:i<len then(hall i h).choose else[],λi hi=> ?_⟩;simp only[hi,dif_pos];exact(hall i hi).choose_spec
    have hes:∃es,es=(List.range len).map λi=>KV u (C i):=⟨_,rfl⟩;obtain⟨es,hes⟩:=hes;have hesl:es.length=len:=by rw[hes];simp
    have hty:∀x∈es,∃c,x=KV u c∧Ty u c:=(by intro x hx;rw[hes]at hx;obtain⟨i,hi,rfl⟩:=dM.1 hx;exact⟨C i,rfl,(hC i (uP.1 hi)).2⟩);have hsz:∀x∈es,(Abs.cells x).length=iO u:=by intro x hx;obtain⟨c,rfl,hc⟩:=hty x hx;rw[hc.cells,Ty.len u c hc]
    refine⟨[.sl (iO u) es false],.one ?_ rfl,by rw[Ty];exact⟨es,rfl,af,hty⟩⟩;by_cases hz:len=0;have:es=[]:=Kr af;rw[this,hz];exact .TA _ _ _;have hsp:a.spot=none:=by
     obtain⟨⟨vs,hv,_⟩,_⟩:=hC 0 af;obtain⟨hl,hg⟩:=I9 hv;have:=hg 0 h0;rw[iM af]at this;unfold World.cell? at this;split at this;·split at this;cases this;·next q=>simpa[Addr.add]using q
     cases this
    have hkey:∀j d,nth (es.flatMap Abs.cells) j=some d->∃v,W.cell? ⟨a.block,a.off+j,none⟩=some v∧bN (Iw W) v d∧leaf v=true:=by
     intro j d hj;have hjl:j<len*iO u:=by have:=dJ (sz:=iO u) hsz;rw[aI]at hj;have:=(rD.1 hj).1;rw[hesl]at*;omega
     have hq:j / iO u<len:=Kh (by rw[xU];exact hjl);have hr:j%iO u<iO u:=AM _ h0;have hen:nth es (j / iO u)=some (KV u (C (j / iO u))):=by rw[aI,hes,rA,List.getElem?_range hq];rfl
     have ej:j=j / iO u*iO u+j%iO u:=(by rw[xU];exact(Nat.div_add_mod j (iO u)).symm);have hf:=gQ es (iO u) (j / iO u) (j%iO u) _ hsz hen hr;rw[<-ej,hj]at hf;obtain⟨⟨vs,hv,hrd⟩,hct⟩:=hC _ hq;rw[hct.cells]at hf;obtain⟨hl,hg⟩:=I9 hv;have hcell:=hg _ hr;rw[iM af]at hcell;have:=hrd.2 _ _ _ (iM af) hf.symm;refine⟨_,?_,this⟩;rw[<-hcell];congr 1;obtain⟨b0,o0,so0⟩:=a;have hso:so0=none:=hsp;subst hso;rw[add_plain,add_plain];dsimp only;congr 1;omega
    obtain⟨b,o,so⟩:=a;have hsp' :so=none:=hsp;subst hsp';rw[<-hesl];refine .sl b o cap (iO u) es (λj=>((W.cell? ⟨b,o+j,none⟩).getD (.bool false))) af hsz ?_ ?_;intro j d hj;obtain⟨v,hv,_,hlf⟩:=hkey j d hj;dsimp only at hv ⊢;rw[hv];exact Iw_some hv hlf;intro j d hj;obtain⟨v,hv,hr,hlf⟩:=hkey j d hj;dsimp only at hv ⊢;rw[hv];exact hr
  rename_i gs fs ht;obtain⟨xs,m,_,_,hl,hxl,hf⟩:=DataW.trod_struct ht h;have:=SS (F:=FE P n) (m:=m) (cs:=cs) (λt s cs x hb hx=>ih m t s cs x hb hx) gs.toList fs 0 hb (by rw[hl,hc,iO];omega) (λf hf' =>by
   obtain⟨i,hi,e⟩:=AZ.1 hf';have hi' :i<gs.size:=uy
   have:=hf i f (by rw[kq hi'];simpa using e);rw[this];exact⟨xs[i]' af,iM af⟩)
  obtain⟨l,hr,hty⟩:=this;exact⟨l,by simpa using hr,by rw[Ty];exact hty⟩;rename_i m e m' u ht;simp only[bc]at hb;obtain⟨h0,h1,h2⟩:=hb;have h0:=dt h0;have h1:=dt h1;subst h0;obtain⟨xs,k,_,_,hl,hxl,hf⟩:=DataW.trod_array ht h;rw[h1]at hf;obtain⟨l,hr,hty⟩:=Z3 (e:=e) (m:=k) (k:=iO u) (u:=u) (cs:=cs) (λcs x hx=>ih k e u cs x h2 hx) m (by rw[hl,hc,iO]) (λi hi=>by rw[hf i hi];exact⟨xs[i]' af,iM af⟩) m 0 af;exact⟨l,by simpa using hr,by rw[Ty];exact hty⟩;cases hb
end
end Abs
namespace Abs
open Go Go.RowKit Go.ChangeShapes
def Jm{G:Prop}(h:G:=by rename_i ht;exact one (leaf_of hv (by rw[ht];trivial)) rfl):G:=h
def RC{G:Prop}(h:G:=by rename_i ht;unfold Value.okWide at hv;rw[ht]at hv;obtain⟨cs,e,_⟩:=hv;exact two cs e rfl):G:=h
def Af:List Sh->List au->Prop|[],[]=>True|s::ss,d::ds=>(∃l,d=KV s l∧Ty s l)∧Af ss ds|_,_=>False
def TF(P:Program)(n:Nat):List TypeId->List Sh->Bool|[],[]=>true|t::ts,s::ss=>FE P n t s&&TF P n ts ss|_,_=>false
section
variable{H:Type}{enc:TypeId×Value->H}{P:Program}{W:World}
theorem leaf_of{t:TypeId}{r:Reach}{b0:Nat}{v:Value}(hv:Value.okWide P W r b0 t v)(h:(match P.underlying t with|some (.struct _)=>False|some (.array _ _)=>False|some .bool=>True|some (.int _)=>True|some .string=>True|some (.slice _)=>True|_=>False)):leaf v=true:=by
 unfold Value.okWide at hv;split at hv;rename_i e;rw[e]at h;exact h.elim;rename_i e;rw[e]at h;exact h.elim
 cases v<;>first|rfl|(exfalso;revert hv h;unfold Cell.okWide Cell.ok;cases P.underlying t with
  |none=>simp|some d=>cases d<;>simp)
theorem arg_ty{n:Nat}{t:TypeId}{s:Sh}{sp:Nat->Bool}{held:Bool}{v:Value}{d:DataW H}{ps:List MemPlace}{r:Reach}{b0:Nat}(hb:FE P n t s=true)(hv:Value.okWide P W r b0 t v)(h:DataW.Trod enc P W 0 sp held t v d ps):∃l,Ty s l∧bN (Iw W) v (KV s l):=by
 obtain⟨fuel,h⟩:=h;obtain⟨l,hr,hty⟩:=trod_ty n fuel t s _ _ hb h;refine⟨l,hty,?_⟩;cases n with
 |zero=>simp[FE]at hb
 |succ n=>
  simp only[FE,bc]at hb;obtain⟨hc0,hb⟩:=hb;clear hc0;have one:leaf v=true->isAg s=false->bN (Iw W) v (KV s l):=by
   intro hlv hs;have hc:v.cells= #[v]:=by cases v<;>first|rfl|simp[leaf]at hlv
   rw[hc]at hr;have hlen:=hr.1;match l,hlen with|[x],_=>unfold KV;rw[hs];exact(hr.2 0 v x rfl rfl).1
  have two:∀cs,v= .agg cs->isAg s=true->bN (Iw W) v (KV s l):=by
   intro cs e hs;subst e;unfold KV;rw[hs];have hc:(Value.agg cs).cells=cs:=rfl;rw[hc]at hr;refine .agg cs l (by rw[hr.1];simp) (λi u hu=> ?_) (λi u x hu hx=> ?_);have hi:i<l.length:=(by rw[hr.1];simpa using(iN.1 hu).1);have:nth l i=some l[i]:=by rw[aI];exact iM hi
   exact(hr.2 i u _ (by simpa using hu) this).2;exact(hr.2 i u x (by simpa using hu) hx).1
  split at hb;exact Jm;exact Jm;exact Jm;exact Jm;exact RC;exact RC;cases hb
theorem Tb{n:Nat}{sp:Nat->Bool}{held:Bool}{r:Reach}{b0:Nat}:∀(ts:List TypeId) (ss:List Sh) (vs:List Value) (ds:List (DataW H)) (ps:List MemPlace),TF P n ts ss=true->(∀(j:Nat) t v,ts[j]? =some t->vs[j]? =some v->Value.okWide P W r b0 t v)->DataW.TrodAll enc P W 0 sp held ts vs ds ps->∃xs,Af ss xs∧xs.length=vs.length∧∀(i:Nat) v x,vs[i]? =some v->nth xs i=some x->bN (Iw W) v x
 |[],ss,vs,ds,ps,hb,hv,h=>by obtain⟨rfl,rfl,rfl⟩:=trodAll_nil h;cases ss with|cons s ss=>simp[TF]at hb|nil=>exact⟨[],trivial,rfl,λi v x hi=>by simp at hi⟩
 |t::ts,ss,vs,ds,ps,hb,hv,h=>by cases ss with|nil=>simp[TF]at hb|cons s ss=>simp only[TF,bc]at hb;obtain⟨v0,A_,d0,ds0,p0,q0,rfl,rfl,rfl,h0,r0⟩:=trodAll_cons h;obtain⟨l,hty,hrep⟩:=arg_ty hb.1 (hv 0 t v0 rfl rfl) h0;obtain⟨xs,hxs,hlen,hreps⟩:=Tb ts ss A_ ds0 q0 hb.2 (λj t v ht hv' =>hv (j+1) t v (by simpa using ht) (by simpa using hv')) r0;refine⟨KV s l::xs,⟨⟨l,rfl,hty⟩,hxs⟩,by simp[hlen],λi v x hi hx=> ?_⟩;cases i with|zero=>simp at hi;simp[nth]at hx;subst hi hx;exact hrep|succ i=>exact hreps i v x uy uD
theorem yK{W' :World}{sp:Nat->Bool}(hl:laidOutB P=true):∀(ts:List TypeId) (vs:List Value) (ds:List (DataW H)) (ps:List MemPlace),(∀t∈ts,P.readableRec t=true∧t<P.types.size)->DataW.TrodAll enc P W 0 (λ_=>true) true ts vs ds ps->(∀p∈ps,W.sameAt W' p)->(∀p∈ps,sp p.block=true)->DataW.TrodAll enc P W' 0 sp true ts vs ds ps
 |[],vs,ds,ps,_,h,_,_=>by obtain⟨rfl,rfl,rfl⟩:=trodAll_nil h;exact trodAll_mk0
 |t::ts,vs,ds,ps,hr,h,hs,hp=>by obtain⟨v0,A_,d0,ds0,p0,q0,rfl,rfl,rfl,h0,r0⟩:=trodAll_cons h;have h1:=hr t ag;exact⟨p0,q0,WideElems.Trod_stays hl h1.1 h1.2 h0 (λp hp=>hs p (by simp[hp])) (λp hq=>hp p (by simp[hq])),yK hl ts A_ ds0 q0 (λt ht=>hr t (by simp[ht])) r0 (λp hp=>hs p (by simp[hp])) (λp hq=>hp p (by simp[hq])),rfl⟩
def Ub{args:List au}(W:World):Mem (Cx.of 0 (Gh.X ⟨Iw W,λ_=>none,λ_=>none⟩) W (Iw W)) ⟨Iw W,λ_=>none,λ_=>none⟩ (init args ⟨[],[]⟩) W:=by refine⟨λb o v h=>Iw_of h,λl d h=> ?_,λl b h=> ?_,λl m b h _=> ?_,λl b h=> ?_,λk r h=> ?_,λk t h=> ?_,λk j t u b h=> ?_,λb o v h=> .inl h,Frame.refl _ _,λb h=> .inl h⟩;have:lL [] 1000 (λ_=>none) l=some d:=h;cases this;cases h;cases h;cases h;have:mz [] 1000 (λ_=>none) k=some r:=h;cases this;cases h;cases h
theorem Uk{f:FuncId}{fn:Func}{ts:List TypeId}{ss:List Sh}{s:ChangeSpec}{tb:TypeId}(hp:fn.params.toList=ts)(hres:fn.resultTypes= #[tb])(htb:P.underlying tb=some .bool)(hb:TF P 20 ts ss=true)(hl:laidOutB P=true)(hro:ts.all (λt=>P.readableRec t&&decide (t<P.types.size))=true)(hsv:s.vars=[])(hs:∀ds:List (DataW H),ds.length=ts.length->s.fn H ds={results:=[.lit (.bool true)],args:=ds})(law:∀xs,Af ss xs->aj P f xs ⟨[],[]⟩ (.bool true) ⟨[],[]⟩){base:Nat}{args:Array Value}{ds gs:List (DataW H)}{before:List MemPlace}(hval:∀(j:Nat) t v,fn.params[j]? =some t->args[j]? =some v->Value.okWide P W .any base t v)(hW:DataW.Whole enc P fn.params.toList s.vars false W args.toList ds gs before):Calls P f args W λe W' =>∃v,e= .returned v∧s.post enc P fn false true false false W args v W' :=by
 have hW' :=hW;have hlt:=hW.lt;obtain⟨p,q,hA,hV,rfl,_,_⟩:=hW;rw[hsv]at hV;obtain⟨rfl,rfl⟩:=trodVars_none hV;simp only[jM]at hlt hW';rw[hp]at hA;have hdl:ds.length=ts.length:=by
  have:∀(ts:List TypeId) (vs:List Value) (ds:List (DataW H)) (ps:List MemPlace),DataW.TrodAll enc P W 0 (λ_=>true) true ts vs ds ps->ds.length=ts.length:=by
   intro ts;induction ts with
   |nil=>intro vs ds ps h;obtain⟨rfl,rfl,rfl⟩:=trodAll_nil h;rfl
   |cons t ts ih=>intro vs ds ps h;obtain⟨v0,A_,d0,ds0,p0,q0,rfl,rfl,rfl,h0,r0⟩:=trodAll_cons h;simp[ih _ _ _ r0]
  exact this _ _ _ _ hA
 obtain⟨xs,hxs,hlen,hrep⟩:=Tb ts ss args.toList ds p hb (λj t v ht hv=>hval j t v (by rw[<-hp]at ht;simpa using ht) oV) hA;have hc:=(law xs hxs).go ⟨Iw W,λ_=>none,λ_=>none⟩ W args (by simpa using hlen.symm) (λi v d hv hd=> .pure (hrep i v d oV hd)) (Ub W);refine hc.mono λe W' he=> ?_;cases e with
 |returned v=>
  obtain⟨γ',GQ,hr,hm⟩:=he;have hv:v= .bool true:=by cases hr with|pure r=>cases r;rfl
  have hfr:Frame W W' (Gh.X ⟨Iw W,λ_=>none,λ_=>none⟩):=hm.frame;have hsame:∀b,b<W.heap.size->W'.heap[b]? =W.heap[b]? :=λb hb=>hfr.block b hb (λh=>by rcases h with⟨l,h⟩|⟨k,t,h,_⟩;cases h;cases h);have hat:∀x∈p,W.sameAt W' x:=λx hx=>by have:=hsame _ (hlt x hx);cases x with|cell b off=>show W'.cell? _=W.cell? _;unfold World.cell?;dsimp only;rw[show W'.heap[b]? =W.heap[b]? from this]|map b=>exact this
  subst hv;refine⟨_,rfl,ds,[],p,[],p,[],hW',?_,?_,?_,?_,λh=>jl⟩;rw[jM,hs ds hdl,hres];exact trodAll_mk1 (shut_bool htb true);rw[jM,hs ds hdl,hp];refine yK hl ts _ _ _ (λt ht=> ?_) hA hat (λx hx=>by simpa using hlt x hx);have:=jN.1 hro t ht;exact jI;rw[jM,hs ds hdl,hsv];rfl;refine⟨hfr.os,hfr.output,λi hi=> ?_⟩;rw[hsame i hi];cases W.heap[i]? with|none=>rfl|some o=>cases o<;>first|rfl|exact⟨rfl,rfl,rfl,λ_ _=>rfl⟩|exact .inr ⟨rfl,rfl⟩
 |panicked ch=>obtain⟨_,q,_,hq,_⟩:=he;cases hq
 |outgrown=>exact he.elim
end
end Abs
namespace Abs
open Go Go.Proofs
def OJ{G:Prop}(h:G:=by simpa[Lit.wf,IntKind.min,IntKind.max,IntKind.signed,IntKind.bits]using hw):G:=h
def iB{s:Sh}{fs:List Sh}{l:List au}(h:pK (s::fs) l):∃a b,l=a++b∧Ty s a∧pK fs b:=by rw[pK]at h;exact h
def Ku{l:List au}(h:pK [] l):l=[]:=by rw[pK]at h;exact h
def R9{fs:List Sh}{l:List au}(h:Ty (.st fs) l):pK fs l:=by rw[Ty]at h;exact h
def yI{l:List au}(h:Ty (.int .u8) l):∃n,l=[u8 n]∧0<=n∧n<256:=by
 rw[Ty]at h;obtain⟨n,rfl,hw⟩:=h;have:0<=n∧n<=255:=OJ
 exact⟨n,rfl,af,af⟩
def wm{l:List au}(h:Ty (.int .u16) l):∃n,l=[u16 n]∧0<=n∧n<65536:=by
 rw[Ty]at h;obtain⟨n,rfl,hw⟩:=h;have:0<=n∧n<=65535:=OJ
 exact⟨n,rfl,af,af⟩
def WO{l:List au}(h:Ty (.int .i16) l):∃n,l=[i16 n]∧-32768<=n∧n<32768:=by
 rw[Ty]at h;obtain⟨n,rfl,hw⟩:=h;have: -32768<=n∧n<=32767:=OJ
 exact⟨n,rfl,af,af⟩
def ty_i64{l:List au}(h:Ty (.int .i64) l):∃n,l=[it n]:=by rw[Ty]at h;obtain⟨n,rfl,hw⟩:=h;exact⟨n,rfl⟩
def ty_sl{e:Sh}{l:List au}(h:Ty (.sl e) l):∃es,l=[.sl (iO e) es false]∧es.length<=maxLen∧∀x∈es,∃c,x=KV e c∧Ty e c:=by rw[Ty]at h;exact h
def yJ{T:List au->Prop}{n:Nat}{l:List au}(h:Oo T (n+1) l):∃a b,l=a++b∧T a∧Oo T n b:=by rw[Oo]at h;exact h
def tyN_0{T:List au->Prop}{l:List au}(h:Oo T 0 l):l=[]:=by rw[Oo]at h;exact h
theorem K5{α:Type}{e:Sh}{enc:α->au}{ok:α->Prop}(h:∀c,Ty e c->∃z,KV e c=enc z∧ok z):∀es:List au,(∀x∈es,∃c,x=KV e c∧Ty e c)->∃zs:List α,es=zs.map enc∧∀z∈zs,ok z|[],_=>⟨[],rfl,λz hz=>by simp at hz⟩|x::es,hx=>by obtain⟨zs,rfl,hz⟩:=K5 h es (λy hy=>hx y oT);obtain⟨c,rfl,hc⟩:=hx x ag;obtain⟨z,hz1,hz2⟩:=h c hc;refine⟨z::zs,by rw[n_,hz1],λy hy=> ?_⟩;rcases bT.1 hy with rfl|hy;exact hz2;exact hz y hy
def byte_of{c:List au}(h:Ty (.int .u8) c):∃z:UInt8,KV (.int .u8) c= .int .u8 z.toNat∧True:=by
 obtain⟨n,rfl,h0,h1⟩:=yI h;refine⟨UInt8.ofNat n.toNat,?_,trivial⟩;have e:(((UInt8.ofNat n.toNat).toNat:Nat):Int)=n:=by rw[UInt8.toNat_ofNat'];omega
 show u8 n=_;rw[e];rfl
def rawS:Sh:= .st [.int .u8,.int .u8,.int .u8,.int .u8,.int .u8,.int .i16,.int .i16,.int .u8,.int .u8]
def raw_of{c:List au}(h:Ty rawS c):∃z,KV rawS c=DK z∧QY z:=by obtain⟨_,_,rfl,h1,h⟩:=iB (R9 h);obtain⟨_,_,rfl,h2,h⟩:=iB h;obtain⟨_,_,rfl,h3,h⟩:=iB h;obtain⟨_,_,rfl,h4,h⟩:=iB h;obtain⟨_,_,rfl,h5,h⟩:=iB h;obtain⟨_,_,rfl,h6,h⟩:=iB h;obtain⟨_,_,rfl,h7,h⟩:=iB h;obtain⟨_,_,rfl,h8,h⟩:=iB h;obtain⟨_,_,rfl,h9,h⟩:=iB h;have:=Ku h;subst this;obtain⟨n1,rfl,b1⟩:=yI h1;obtain⟨n2,rfl,b2⟩:=yI h2;obtain⟨n3,rfl,b3⟩:=yI h3;obtain⟨n4,rfl,b4⟩:=yI h4;obtain⟨n5,rfl,b5⟩:=yI h5;obtain⟨n6,rfl,b6⟩:=WO h6;obtain⟨n7,rfl,b7⟩:=WO h7;obtain⟨n8,rfl,b8⟩:=yI h8;obtain⟨n9,rfl,b9⟩:=yI h9;exact⟨⟨n1,n2,n3,n4,n5,n6,n7,n8,n9⟩,rfl,⟨b1,b2,b3,b4,b5,b6,b7,b8,b9⟩⟩
def n8_of{c:List au}(h:Oo (Ty (.int .u16)) 8 c):∃z:N8,c=[u16 z.a,u16 z.b,u16 z.c,u16 z.d,u16 z.e,u16 z.f,u16 z.g,u16 z.h]∧N8Ok z:=by obtain⟨_,_,rfl,h1,h⟩:=yJ h;obtain⟨_,_,rfl,h2,h⟩:=yJ h;obtain⟨_,_,rfl,h3,h⟩:=yJ h;obtain⟨_,_,rfl,h4,h⟩:=yJ h;obtain⟨_,_,rfl,h5,h⟩:=yJ h;obtain⟨_,_,rfl,h6,h⟩:=yJ h;obtain⟨_,_,rfl,h7,h⟩:=yJ h;obtain⟨_,_,rfl,h8,h⟩:=yJ h;have:=tyN_0 h;subst this;obtain⟨n1,rfl,b1⟩:=wm h1;obtain⟨n2,rfl,b2⟩:=wm h2;obtain⟨n3,rfl,b3⟩:=wm h3;obtain⟨n4,rfl,b4⟩:=wm h4;obtain⟨n5,rfl,b5⟩:=wm h5;obtain⟨n6,rfl,b6⟩:=wm h6;obtain⟨n7,rfl,b7⟩:=wm h7;obtain⟨n8,rfl,b8⟩:=wm h8;exact⟨⟨n1,n2,n3,n4,n5,n6,n7,n8⟩,rfl,⟨b1,b2,b3,b4,b5,b6,b7,b8⟩⟩
def WQ{s:Sh}{ss:List Sh}{xs:List au}(h:Af (s::ss) xs):∃l ys,xs=KV s l::ys∧Ty s l∧Af ss ys:=by cases xs with|nil=>exact h.elim|cons d ys=>obtain⟨⟨l,e,hl⟩,hy⟩:=h;exact⟨l,ys,by rw[e],hl,hy⟩
def tyE_nil{xs:List au}(h:Af [] xs):xs=[]:=by cases xs with|nil=>rfl|cons d ys=>exact h.elim
def inpS:Sh:= .st [.st [.sl (.int .u8)],.sl rawS,.int .i64,.st [.sl (.int .u8),.sl (.int .u8)],.arr 2 (.int .u8),.arr 8 (.int .u16)]
def Hb{c:List au}(h:Ty (.sl (.int .u8)) c):∃bs:List UInt8,c=[U_ bs]∧bs.length<2^63:=by
 obtain⟨e1,rfl,hl,he1⟩:=ty_sl h;obtain⟨bs,rfl,_⟩:=K5 (λc hc=>byte_of hc) e1 he1;rw[cZ]at hl;have hm:maxLen<2^63:=az
 exact⟨bs,rfl,af⟩
def inp_of{c:List au}(h:Ty inpS c):∃z,KV inpS c=xk z∧Tg z:=by
 obtain⟨_,_,rfl,h1,h⟩:=iB (R9 h);obtain⟨_,_,rfl,h2,h⟩:=iB h;obtain⟨_,_,rfl,h3,h⟩:=iB h;obtain⟨_,_,rfl,h4,h⟩:=iB h;obtain⟨_,_,rfl,h5,h⟩:=iB h;obtain⟨_,_,rfl,h6,h⟩:=iB h;have:=Ku h;subst this;obtain⟨_,_,rfl,k1,h0⟩:=iB (R9 h1);have:=Ku h0;subst this;obtain⟨bs,rfl,_⟩:=Hb k1;obtain⟨e3,rfl,hl3,he3⟩:=ty_sl h2;obtain⟨rs,rfl,hrs⟩:=K5 (λc hc=>raw_of hc) e3 he3;obtain⟨lv,rfl⟩:=ty_i64 h3;obtain⟨_,_,rfl,k2,h0⟩:=iB (R9 h4);obtain⟨_,_,rfl,k3,h0⟩:=iB h0;have:=Ku h0;subst this;obtain⟨w,rfl,hw⟩:=Hb k2;obtain⟨b,rfl,hb⟩:=Hb k3;rw[Ty]at h5;obtain⟨_,_,rfl,p0,h5⟩:=yJ h5;obtain⟨_,_,rfl,p1,h5⟩:=yJ h5;have:=tyN_0 h5;subst this;obtain⟨q0,rfl,hq0⟩:=yI p0;obtain⟨q1,rfl,hq1⟩:=yI p1;rw[Ty]at h6;obtain⟨s,rfl,hs⟩:=n8_of h6;rw[cZ]at hl3;have hm:maxLen<2^63:=az
 exact⟨⟨bs,rs,lv,⟨w,b⟩,q0,q1,s⟩,rfl,⟨by show rs.length<2^63;omega,hrs,hw,hb,hq0,hq1,hs⟩⟩
def law7(xs:List au)(h:Af [inpS] xs):aj Tryz.prog 5 xs ⟨[],[]⟩ (.bool true) ⟨[],[]⟩:=by obtain⟨l1,_,rfl,h1,h⟩:=WQ h;have:=tyE_nil h;subst this;obtain⟨z,e,hz⟩:=inp_of h1;rw[e];exact Ul hz
end Abs
