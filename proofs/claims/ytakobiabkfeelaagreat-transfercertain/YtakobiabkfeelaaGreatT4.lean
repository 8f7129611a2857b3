/- A part of a proof: an abstract machine, proved sound, or contracts of functions. No condition. -/
import Derived.Tactics
import Derived.RangeFuncLeaves
import Derived.KernelRfl
import Derived.Shelf.Sort.Plain
import Derived.Shelf.Slices.CompactI
import Derived.Lib.AppendZerosOnto
import Derived.Laws.NewBlocks
import Derived.Laws.Externs
import Derived.WalkKit
import Derived.Lib.Walk
import Derived.Shelf.RegionOpenPlain
import Derived.Test.YtakobiabkfeelaaGreatT3
set_option linter.unusedVariables false
set_option linter.unusedSimpArgs false
set_option linter.defProp false
set_option maxRecDepth 100000
set_option maxHeartbeats 4000000
namespace Abs
open Go
variable{G:Prop}
def ab0(h:G:=by show xF Wd s.env t=_;rcases lJ Wd s.env t with⟨x,_⟩|⟨_,x⟩;exact absurd x ht;exact x):=h
def aao(h:G:=by rcases Bk w1.heap.size with k|k;omega;exact ah7):=h
def Mh(h:G:=by rw[hWd];simp[ht]):=h
def ah7(h:G:=by have:=h.lt _ (h.old (w1.heap.size - 1) (by omega));omega):=h
def zY(b:Nat):Deferred:={target:= .collected b,args:= #[]}
def Marks(B:Nat)(cx:Cx):Prop:=∃bs:List Nat,cx.D=bs.map zY∧bs.Nodup∧(∀I w,cx.Fr I w->∀b∈bs,B<=b∧w.heap[b]? =some (.deferred (some [])))∧∀b∈bs,¬cx.dX b
structure OO(cx gX :Cx)(y:YS)(rf:Bool):Prop where
 n:gX.n=cx.n
 I0:y= .off->gX.I0=cx.I0
 dX:y= .off->∀b,gX.dX b->cx.dX b
 fr:y= .off->∀I w,gX.Fr I w->cx.Fr I w
 D:y= .off->∀B,(∀I w,cx.Fr I w->B<=w.heap.size)->Marks B cx->Marks B gX
 same:y= .off->rf=true->gX =cx
def OO.refl(cx:Cx)(y:YS)(rf:Bool):OO cx cx y rf:=⟨rfl,λ_=>rfl,λ_ _ h=>h,λ_ _ _ h=>h,λ_ _ _ h=>h,λ_ _=>rfl⟩
def OO.of{cx gX :Cx}{y:YS}{rf:Bool}(h:Q_ cx gX y):OO cx gX y rf:=⟨h.n,λe=>by rw[h.same e],λe b k=>by rw[h.same e]at k;exact k,λe I w k=>by rw[h.same e]at k;exact k,λe B _ k=>by rw[h.same e];exact k,λe _=>h.same e⟩
theorem OO.trans{a b c:Cx}{y z:YS}{r s:Bool}(h:OO a b y r)(k:OO b c z s)(hy:y= .off->z= .off):OO a c y (r&&s):=⟨k.n.trans h.n,λe=>(k.I0 (hy e)).trans (h.I0 e),λe b x=>h.dX e b (k.dX (hy e) b x),λe I w x=>h.fr e I w (k.fr (hy e) I w x),λe B hB x=>k.D (hy e) B (λI w x=>hB I w (h.fr e I w x)) (h.D e B hB x),λe x=>by rw[aX]at x;exact(k.same (hy e) x.2).trans (h.same e x.1)⟩
def OO.R8{a b:Cx}{y:YS}{r s:Bool}(h:OO a b y r)(hr:s=true->r=true):OO a b y s:=⟨h.n,h.I0,h.dX,h.fr,h.D,λe x=>h.same e (hr x)⟩
theorem GW:∀(ps:List Nat) (ds:List au) (e:Nat->Option au) (tmps:Array Value) (vs:List Value) {g:Gh},vs.length=ds.length->(∀t∈ps,t<tmps.size)->(∀(i:Nat) v d,vs[i]? =some v->nth ds i=some d->bD g v d)->(∀t d,e t=some d->bD g (tmps.getD t undef) d)->∀t d,params ps ds e t=some d->bD g (((ps.zip vs).foldl (λtmps x=>tmps.setIfInBounds x.1 x.2) tmps).getD t undef) d
 |[],ds,e,tmps,vs,g,_,_,_,he,t,d,h=>by
  have:params [] ds e t=e t:=by cases ds<;>rfl
  rw[this]at h;simpa using he t d h
 |p::ps,[],e,tmps,vs,g,hl,_,_,he,t,d,h=>by cases vs with|nil=>simpa using he t d h|cons v vs=>simp at hl
 |p::ps,x::ds,e,tmps,[],g,hl,_,_,he,t,d,h=>by simp at hl
 |p::ps,x::ds,e,tmps,v::vs,g,hl,hp,hr,he,t,d,h=>by
  simp only[List.zip_cons_cons,sN];refine GW ps ds (aW e p (some x)) (tmps.setIfInBounds p v) vs qt (λt ht=>by simpa using hp t (mT _ ht)) (λi v' d' h1 h2=>hr (i+1) v' d' gK xM) (λu y hu=> ?_) t d h;by_cases e1:u=p;subst e1;rw[bw]at hu;cases hu;have hlt:u<tmps.size:=hp u O;have:=hr 0 v x rfl rfl;simpa[hlt]using this;rw[aO _ _ _ _ e1]at hu;have:=he u y hu;have e2:((tmps.setIfInBounds p v).getD u undef)=tmps.getD u undef:=by simp[Gm (gB e1)]
  rw[e2];exact dj
theorem DT:∀(ps:List Nat) (ds:List au) (e:Nat->Option au) (t:Nat),t∉ps->params ps ds e t=e t|[],ds,e,t,_=>by cases ds<;>rfl|p::ps,[],e,t,_=>rfl|p::ps,d::ds,e,t,h=>by rw[b_,not_or]at h;show params ps ds (aW e p (some d)) t=e t;rw[DT ps ds _ t h.2,aO _ _ _ _ h.1]
theorem bW.params(s:St)(ps:List Nat)(ds:List au):bW ps s (s.params ps ds):=⟨λt ht=>DT ps ds s.env t ht,λ_ h=> .inl h,λ_ h=> .inl h,λ_ h=>h,λ_ h=>h,λh=>h,λh=>h⟩
def Dg:Out->Code| .exit id=> .exit id| .ret=> .ret|_=> .skip
section
variable(cx:Cx)(l db:Nat)(N:Nat->Prop)(W1:World)(I0:Nat->Nat->Option Value)
def cxH:Cx where
 n:=cx.n
 dX b:=(cx.dX b∧N b∧b≠l∧b≠db)∨W1.heap.size<=b
 I0:=I0
 D:=[]
 Fr _ _:=True
 st _ _ _ _ _ _ _ _ _:=trivial
def cxR(rec:Obj)(hl:l<W1.heap.size)(hd:db<W1.heap.size)(hN:N l∧N db)(hm:∀b,W1.heap.size<=b->cx.dX b):Cx where
 n:=cx.n
 dX b:=(cx.dX b∧N b∧b≠l∧b≠db)∨W1.heap.size<=b
 I0:=I0
 D:=[]
 Fr I w:=cx.Fr I w∧w.heap[l]? =some rec∧w.heap[db]? =some (.deferred (some []))∧W1.heap.size<=w.heap.size∧∀b,b<W1.heap.size->¬N b->w.heap[b]? =W1.heap[b]?
 st I I' w w' h hs fr hc hnew:=by obtain⟨h1,h2,h3,h4,h5⟩:=h;refine⟨cx.st I I' w w' h1 hs (fr.sub λb _ e=> ?_) hc (λb hb=>hm b (eW h4 hb)),?_,?_,eW h4 fr.size,λb hb hn=> ?_⟩;rcases e with e|e;exact e.1;exact hm b e;rw[fr.block l (jm hl h4) (λe=>by rcases e with e|e;exact e.2.2.1 rfl;omega)];exact h2;rw[fr.block db (jm hd h4) (λe=>by rcases e with e|e;exact e.2.2.2 rfl;omega)];exact h3;rw[fr.block b (jm hb h4) (λe=>by rcases e with e|e;exact hn e.2.1;omega)];exact h5 b hb hn
def cxE(hd:db<W1.heap.size)(hm:∀b,W1.heap.size<=b->cx.dX b):Cx where
 n:=cx.n
 dX b:=cx.dX b∧b≠db
 I0:=cx.I0
 D:=zY db::cx.D
 Fr I w:=cx.Fr I w∧w.heap[db]? =some (.deferred (some []))∧W1.heap.size<=w.heap.size
 st I I' w w' h hs fr hc hnew:=by obtain⟨h1,h2,h3⟩:=h;refine⟨cx.st I I' w w' h1 hs (fr.sub λb _ e=>e.1) hc (λb hb=>(hnew b hb).1),?_,eW h3 fr.size⟩;rw[fr.block db (jm hd h3) (λe=>e.2 rfl)];exact h2
end
def sf{w:World}{b o:Nat}{v:Value}{x:Obj}(h:w.cell? ⟨b,o,none⟩=some v)(hx:w.heap[b]? =some x):∃c e fz,x= .cells c e fz:=by simp only[World.cell?,hx]at h;cases x<;>first|exact⟨_,_,_,rfl⟩|simp at h
structure zk(cx:Cx)(g:Gh)(w1:World)(l db:Nat)(N:Nat->Prop)(Ih:Nat->Nat->Option Value)(W:World)(g' :Gh)(s' :St)(rec:Obj):Prop where
 ext:Ext g g'
 sub:ku Ih g'.I
 shown:∀b o v,g'.I b o=some v->N b∨Ih b o=some v
 kN:∀b o v,g'.I b o=some v->cx.I0 b o=some v∨cx.dX b
 old:∀b,b<w1.heap.size->N b
 lt:∀b,N b->b<W.heap.size
 fr:cx.Fr g'.I W
 mE :W.heap[db]? =some (.deferred (some []))
 rc:W.heap[l]? =some rec
 mem:Mem (cxH cx l db N W g'.I) g' s' W
section
variable{cx:Cx}{g:Gh}{w1:World}{l db:Nat}{N:Nat->Prop}{Ih:Nat->Nat->Option Value}{W W' :World}{g' :Gh}{s' :St}{rec:Obj}
def zk.ac9(h:zk cx g w1 l db N Ih W g' s' rec)(hm1:∀b,w1.heap.size<=b->cx.dX b)(hl:l<w1.heap.size)(hd:db<w1.heap.size)(fr:Frame W W' (λb=>¬N b))(hc:∀b o v,Ih b o=some v->W'.cell? ⟨b,o,none⟩=some v):zk cx g w1 l db N Ih W' g' s' rec:=by
 have same:∀b,N b->W'.heap[b]? =W.heap[b]? :=λb hb=>fr.block b (h.lt b hb) (λe=>e hb);have cells:Cells g'.I W' :=λb o v e=>by have h0:=h.mem.iw b o v e;rcases h.shown b o v e with k|k;exact⟨(fJ (same b k)).trans h0.1,h0.2⟩;exact⟨hc b o v k,h0.2⟩
 have nN:∀b,¬N b->cx.dX b:=λb hb=>hm1 b (by rcases jl b w1.heap.size with k|k;exact absurd (h.old b k) hb;exact k);have big:w1.heap.size<=W.heap.size:=aao
 refine⟨h.ext,h.sub,h.shown,h.kN,h.old,λb hb=>jm (h.lt b hb) fr.size,cx.st _ _ _ _ h.fr (λ_ _ _ e=>e) (fr.sub λb _ e=>nN b e) cells (λb hb=>hm1 b (eW big hb)),(same db (h.old db hd)).trans h.mE,(same l (h.old l hl)).trans h.rc,?_⟩;exact h.mem.after (I' :=g'.I) (λ_ _ _ e=>e) cells (λb h1 h2=>by rcases h2 with h2|h2;exact same b h2.2.1;omega) (λb o v e _ _=>e) (λb h1 h2=>by rcases h2 with h2|h2;exact .inl h2;omega) (λb o v e=> .inl e) trivial (λb hb=> .inr hb)
def zk.big(h:zk cx g w1 l db N Ih W g' s' rec):w1.heap.size<=W.heap.size:=aao
end
def SX{cx:Cx}{g gR g2:Gh}{w1 W1 W2:World}{l db:Nat}{N:Nat->Prop}{I:Nat->Nat->Option Value}{s2:St}{rec v_ :Obj}(hm1:∀b,w1.heap.size<=b->cx.dX b)(hold:∀b,b<w1.heap.size->N b)(hlt:∀b,N b->b<W1.heap.size)(hbig:w1.heap.size<=W1.heap.size)(hl:l<w1.heap.size)(hd:db<w1.heap.size)(hld:l≠db)(hll:cx.dX l){q1 q2 q3 q4}(hx:Ext g g2)(hI:ku I gR.I)(hgR:ku gR.I g2.I)(hsh:∀b o v,gR.I b o=some v->N b∨I b o=some v)(hnew:∀b o v,gR.I b o=some v->cx.I0 b o=some v∨cx.dX b)(m:Mem (cxR cx l db N W1 gR.I rec q1 q2 q3 q4) g2 s2 W2)(hnl:∀c e fz,rec≠.cells c e fz):zk cx g w1 l db (λb=>N b∨(W1.heap.size<=b∧b<(W2.putObj l v_).heap.size)) I (W2.putObj l v_) g2 s2 v_ ∧W1.heap.size<=(W2.putObj l v_).heap.size∧(∀b,b<W1.heap.size->¬N b->(W2.putObj l v_).heap[b]? =W1.heap[b]?)∧Cells I (W2.putObj l v_):=by
 obtain⟨f1,f2,f3,f4,f5⟩:=m.frame;have sz:(W2.putObj l v_).heap.size=W2.heap.size:=O
 have lt2:l<W2.heap.size:=E
 have other:∀b,b≠l->(W2.putObj l v_).heap[b]? =W2.heap[b]? :=λb hb=>World.putObj_heap_other hb;have noI:∀b o v,g2.I b o=some v->b≠l:=λb o v e hb=>by subst hb;obtain⟨c,t,fz,h⟩:=sf (m.iw b o v e).1 f2;exact hnl _ _ _ h
 have cells:Cells g2.I (W2.putObj l v_):=λb o v e=>⟨(fJ (other b (noI b o v e))).trans (m.iw b o v e).1,(m.iw b o v e).2⟩;have fr:Frame W2 (W2.putObj l v_) (λb=>b=l):=⟨rfl,rfl,rfl,O,λb _ hb=>other b hb⟩;refine⟨⟨hx,λb o v e=>hgR b o v (hI b o v e),λb o v e=> ?_,λb o v e=> ?_,λb hb=> .inl (hold b hb),λb hb=> ?_,cx.st _ _ _ _ f1 (λ_ _ _ e=>e) (fr.sub λb _ e=>by rw[e];exact hll) cells (λb hb=>hm1 b E),(other db (gB hld)).trans f3,World.putObj_heap_same lt2,?_⟩,E,λb hb hn=> ?_,λb o v e=>cells b o v (hgR b o v (hI b o v e))⟩;rcases m.kN b o v e with k|k|k;rcases hsh b o v k with k|k;exact .inl (.inl k);exact .inr k;exact .inl (.inl k.2.1);exact .inl (.inr ⟨k,by rw[sz];exact m.Il e⟩)
 rcases m.kN b o v e with k|k|k;exact hnew b o v k;exact .inr k.1;exact .inr (hm1 b E);rcases hb with hb|hb;have:=hlt b hb;omega;exact hb.2;refine m.after (I' :=g2.I) (λ_ _ _ e=>e) cells (λb h1 h2=>other b ?_) (λb o v e _ _=>e) (λb h1 h2=> ?_) (λb o v e=> .inl e) trivial (λb hb=> .inr hb);rcases h2 with h2|h2;exact h2.2.2.1;omega;rcases h2 with h2|h2;exact .inl ⟨h2.1,.inl h2.2.1,h2.2.2⟩;exact .inl ⟨hm1 b E,.inr ⟨h2,by rw[sz];exact h1⟩,E,E⟩;rw[other b (λe=>hn (by rw[e];exact hold l hl))];exact f5 b hb hn
def re(r:Loop):Out->Obj| .normal=> .loop r|e=> .loop {r with state:= .done,pending:=some (Dg e)}
def Nv{P:Program}{l:Nat}{R:Ending->World->Prop}{e:Out}(hp:∀q,e≠.Ej q){a:Act}{w:World}{r:Loop}(hr:w.heap[l]? =some (.loop {r with state:= .busy}))(hr0:r.state= .ready∧r.pending=none)(h:R (.returned (.bool (match e with| .normal=>true|_=>false))) (w.putObj l (re r e))):roundPost P l R (wH e) a w:=by obtain⟨st,pe,fn,tm,pa,Is,bd,df⟩:=r;obtain⟨e1,e2⟩:=hr0;dsimp only at e1 e2;subst e1 e2;cases e with|normal=>exact⟨_,_,run_endRound none hr,h⟩|exit id=>exact⟨_,_,run_endRound (some (.exit id)) hr,h⟩|ret=>exact⟨_,_,run_endRound (some .ret) hr,h⟩|Ej q=>exact absurd rfl (hp q)
theorem Pr{P:Program}{c:mN}(hok:v8 P c){cx:Cx}{f:Operand}{ps:Array Tmp}{Is body:Code}{n:Nat}(hps:∀t∈ps.toList,t<cx.n)(ihA:∀(l:Nat) (Te:Cx),Te.n=cx.n->∀(n:Nat) (s:St) (K:Out->St->Prop) (g:Gh) (a:Act) (w:World) (Q:Go.Exit->Act->World->Prop),ex P c Is s K->Rel Te g s a w->s.y= .off->Nm s->(∀e s' g' a' w',K e s' ->bW (gH c.hint Is) s s' ->Ext g g' ->Rel Te g' s' a' w' ->Q (wH e) a' w')->Is.wpIn (FW (some l)) n P Q a w)(ihB:∀(l:Nat) (Te:Cx),Te.n=cx.n->∀(n:Nat) (s:St) (K:Out->St->Prop) (g:Gh) (a:Act) (w:World) (Q:Go.Exit->Act->World->Prop),ex P c body s K->Rel Te g s a w->s.y= .off->Nm s->(∀e s' g' a' w',K e s' ->bW (gH c.hint body) s s' ->Ext g g' ->Rel Te g' s' a' w' ->Q (wH e) a' w')->body.wpIn (FW (some l)) n P Q a w){s:St}{g:Gh}{a:Act}{w:World}{d:au}{K:Out->St->Prop}{Q:Go.Exit->Act->World->Prop}(hs:s.y= .off)(hd:cY P s 0 f=some d)(h:Rel cx g s a w)(hn:Nm s)(hk:agw c.It (ps.toList++(gH c.hint Is++gH c.hint body)) ps.toList d (λs K=>ex P c Is s K) (λs K=>ex P c body s K) K s)(hq:∀e s' gX g' a' w',K e s' ->bW (ps.toList++(gH c.hint Is++gH c.hint body)) s s' ->OO cx gX .off false->Ext g g' ->Rel gX g' s' a' w' ->Q (wH e) a' w'):(Code.rangeFunc f ps Is body).wpIn (FW none) n P Q a w:=by
 obtain⟨Wd,hWd⟩:∃W,W=ps.toList++(gH c.hint Is++gH c.hint body):=⟨_,rfl⟩;rw[<-hWd]at hk hq;obtain⟨xs,ι,i0,m,pos,hIt,hlen,hp0,hh,hdH,hdR,hall⟩:=hk.out;have fit:∀i,Fit Wd s (m i):=λi=>⟨(hall i).1.1,(hall i).1.2.1,(hall i).1.2.2.1⟩;have aje:∀i t d,(s.with Wd (m i)).env t=some d->s.env t=some d:=λi t d ht=>by
  have e0:=(hall i).1.2.2.2;have:(s.with Wd (m i)).env t=xF Wd s.env t:=by show Over (m i).env _ t=_;rw[e0];rfl
  rw[this]at ht;rcases lJ Wd s.env t with⟨_,k⟩|⟨_,k⟩;rw[k]at ht;cases ht;rw[k]at ht;exact ht
 obtain⟨Yz,first,cap,rfl,aej,hY⟩:=(hok.It _ _ hIt).out;obtain⟨vf,vc,ef,hvf,FV,rf,rc⟩:=(h.get hd).qR;rw[aX]at aej;refine wpIn_rangeFunc λfn _=> ?_;obtain⟨r0,hr0⟩:∃r:Loop,r={state:= .ready,pending:=none,fn,tmps:=a.tmps,params:=ps,assign:=Is,body,defers:=w.heap.size}:=⟨_,rfl⟩;have r0s:r0.state= .ready∧r0.pending=none:=by rw[hr0];exact sD
 obtain⟨w1,hw1⟩:∃w1,w1=(w.alloc (.deferred (some []))).alloc (.loop r0):=⟨_,rfl⟩;have hsz1:w1.heap.size=w.heap.size+1+1:=by rw[hw1];simp
 have hm1:Mem cx g s w1:=by rw[hw1];exact(h.mem.push _).push _
 have hdef:w1.heap[w.heap.size]? =some (.deferred (some [])):=by rw[hw1];show(dN (dN w _) _).heap[_]? =_;rw[bN _ _ _ x_,dd]
 have hrec:w1.heap[w.heap.size+1]? =some (.loop r0):=by
  rw[hw1];have:=dd (dN w (.deferred (some []))) (.loop r0);have e:(dN w (.deferred (some []))).heap.size=w.heap.size+1:=x_
  rw[e]at this;exact dj
 have D6:∀b,w.heap.size<=b->cx.dX b:=h.mem.new;have Qg :∀b,w1.heap.size<=b->cx.dX b:=λb hb=>D6 b E;obtain⟨⟨fnc,hfn,hbody,hname⟩,hgo⟩:=hY (w.heap.size+1);have hinv:(invoke (Target.fn (.func Yz) vc) (vf++ #[.func (.yield (w.heap.size+1)) #[] #[]])).run P w1= .ok (.enter Yz (vf++ #[.func (.yield (w.heap.size+1)) #[] #[]]++vc)) w1:=by
  have hb' :fnc.body≠none:=RM
  have hn' :fnc.name≠ "runtime.NumGoroutine":=RO
  simp[invoke,callFunc,hfn,hn',hb']
 have hres:(resolve a.eval (rangeCall f (w.heap.size+1)) 0).run P w1= .ok {target:= .fn (.func Yz) vc,args:=vf++ #[.func (.yield (w.heap.size+1)) #[] #[]]} w1:=by simp[resolve,rangeCall,ef,Deferred.ofValue];rfl
 refine⟨w.heap.size+1,[zY w.heap.size],w1,_,w1,Yz,_,w1,?_,hres,λ_ _=>trivial,hinv,λe=>EZ,Q9.2 ?_⟩;rw[hw1,hr0];exact run_enterLoop_outer fn a.tmps ps Is body;obtain⟨db,hdb⟩:∃b,b=w.heap.size:=⟨_,rfl⟩;obtain⟨l,hl⟩:∃b,b=w.heap.size+1:=⟨_,rfl⟩;rw[<-hdb]at hdef;rw[<-hl]at hrec;rw[<-hl]at hgo;rw[<-hl,<-hdb];have ll:l<w1.heap.size:=E
 have ld:db<w1.heap.size:=E
 have lne:l≠db:=E
 have mll:cx.dX l:=D6 l E;have avn:∀b o v,g.I b o=some v->b<w.heap.size:=λb o v e=>h.mem.Il e;let J:YS->(Nat->Prop)->(Nat->Nat->Option Value)->World->Prop:=λy N Ih W=>match y with| .off=>False| .run k=>∃i g',pos i=k∧zk cx g w1 l db N Ih W g' (s.with Wd (m i)) (.loop r0)| .stop=>∃e s' g',(e≠.normal∧∀q,e≠.Ej q)∧K e (s'.back (xF Wd s.env))∧bW Wd s (s'.back (xF Wd s.env))∧zk cx g w1 l db N Ih W g' s' (re r0 e)
 have ara:∀y N I w w',J y N I w->Frame w w' (λb=>¬N b)->(∀b o v,I b o=some v->w'.cell? ⟨b,o,none⟩=some v)->J y N I w' :=by
  intro y N I W W' hJ fr hc;cases y with
  |off=>exact hJ.elim|run k=>obtain⟨i,g',h1,h2⟩:=hJ;exact⟨i,g',h1,h2.ac9 Qg ll ld fr hc⟩
  |stop=>obtain⟨e,s',g',h1,h2,h3,h4⟩:=hJ;exact⟨e,s',g',h1,h2,h3,h4.ac9 Qg ll ld fr hc⟩
 have anz:∀k N Ih I W (vs:Array Value) ds,J (.run k) N Ih W->ku Ih I->nth xs k=some ds->vs.size=ds.length->(∀(i:Nat) v d,vs[i]? =some v->nth ds i=some d->bM I v d)->
  Cells I W->(∀b o v,I b o=some v->g.I b o=some v∨¬N b)->(∀b,W.heap.size<=b->¬N b)->
  ∃fn tmps assign body,(Instr.yield l vs).run P W= .ok (.round l fn tmps assign body) W∧∀n,RoundIn Fence.wide n P l fn tmps assign body W (Kb J k N I W):=by
  intro k N Ih I W vs ds hJ hsI hds hsz hrep hcells hI0 hnN;obtain⟨i,g',hpos,hJ⟩:=hJ;have hx:=dr hds;have hvs:vs.size=ps.size:=by rw[hsz,hlen ds hx];simp
  refine⟨r0.fn,(r0.params.zip vs).foldl (λtmps (t,a)=>tmps.setIfInBounds t a) r0.tmps,r0.assign,r0.body,run_yield hJ.rc (by rw[hr0];exact hvs),λn' => ?_⟩;have e0:r0.assign=Is∧r0.body=body∧r0.tmps=a.tmps∧r0.params=ps:=by rw[hr0];exact⟨rfl,rfl,rfl,rfl⟩
  rw[e0.1,e0.2.1,e0.2.2.1,e0.2.2.2];obtain⟨gR,hgR⟩:∃gR:Gh,gR={g' with I:=λb o=>match g'.I b o with|some v=>some v|none=>I b o}:=⟨_,rfl⟩;have ahq:ku g'.I gR.I:=λb o v e=>by rw[hgR];dsimp only;rw[e]
  have apz:ku I gR.I:=λb o v e=>by rw[hgR];dsimp only;cases hx:g'.I b o with|none=>exact e|some u=>have h1:=(hJ.mem.iw b o u hx).1;rw[(hcells b o v e).1]at h1;exact h1.symm
  have back:∀b o v,gR.I b o=some v->g'.I b o=some v∨I b o=some v:=λb o v e=>by rw[hgR]at e;dsimp only at e;cases hx:g'.I b o with|none=>rw[hx]at e;exact .inr e|some u=>rw[hx]at e;exact .inl e
  have ag5:Cells gR.I W:=λb o v e=>by rcases back b o v e with k|k;exact hJ.mem.iw b o v k;exact hcells b o v k
  have q1:l<W.heap.size:=jm ll hJ.big;have q2:db<W.heap.size:=jm ld hJ.big;have q3:N l∧N db:=⟨hJ.old l ll,hJ.old db ld⟩;have q4:∀b,W.heap.size<=b->cx.dX b:=λb hb=>Qg b (eW hJ.big hb);have aj6:Ext g gR:=hJ.ext.trans (by rw[hgR];exact Qt (by rw[hgR]at ahq;exact ahq));have au5:Mem (cxR cx l db N W gR.I (.loop r0) q1 q2 q3 q4) gR (s.with Wd (m i)) W:=by have:=hJ.mem.after (gX :=cxR cx l db N W gR.I (.loop r0) q1 q2 q3 q4) (I' :=gR.I) ahq ag5 (λ_ _ _=>rfl) (λb o v e h1 h2=>by rcases back b o v e with k|k;exact k;rcases hI0 b o v k with k2|k2;exact hJ.ext.I b o v k2;rcases h1 with h1|h1;exact absurd h1.2.1 k2;omega) (λb _ h2=>h2) (λb o v e=> .inl e) ⟨cx.st _ _ _ _ hJ.fr ahq (Frame.refl W _) ag5 q4,hJ.rc,hJ.mE,cJ _,λ_ _ _=>rfl⟩ (λb hb=> .inr hb);rw[hgR]at this ⊢;exact dj
  have aty:Rel (cxR cx l db N W gR.I (.loop r0) q1 q2 q3 q4) gR ((s.with Wd (m i)).params ps.toList ds) {tmps:=(ps.zip vs).foldl (λtmps (t,a)=>tmps.setIfInBounds t a) a.tmps,defers:=[]} W:=by
   have e1:(ps.zip vs).foldl (λtmps (t,a)=>tmps.setIfInBounds t a) a.tmps=(ps.toList.zip vs.toList).foldl (λtmps x=>tmps.setIfInBounds x.1 x.2) a.tmps:=(by rw[<-MT,Array.toList_zip]);refine⟨λt d ht=> ?_,?_,rfl,au5.names rfl rfl⟩;rw[e1];refine GW ps.toList ds _ a.tmps vs.toList (by simpa using hsz) (λt ht=>by rw[h.size];exact hps t ht) (λi v d hv hd=> .pure ((hrep i v d (by rw[aJ]at*;exact lK) hd).mono apz)) (λt d ht=> ?_) t d ht;exact(h.env t d (aje i t d ht)).mono aj6;rw[e1];have:∀(l:List (Nat×Value)) (t:Array Value),(l.foldl (λtmps x=>tmps.setIfInBounds x.1 x.2) t).size=t.size:=by intro l;induction l with|nil=>intro t;rfl|cons x l ih=>intro t;rw[sN,ih];simp
   rw[this];exact h.size
  refine roundIn_of_wpIn (F:=Fence.wide) trivial ?_;have hrun:=(hall i).2.1 ds (by rw[hpos];exact hds);have kp0:bW Wd s (s.with Wd (m i)):=yq (fit i);have nm0:Nm ((s.with Wd (m i)).params ps.toList ds):=kp0.nm hn;have sP:∀t∈ps.toList,t∈Wd:=λt ht=>Mh
  have sA:∀t∈gH c.hint Is,t∈Wd:=λt ht=>Mh
  have sB:∀t∈gH c.hint body,t∈Wd:=λt ht=>Mh
  refine ihA l (cxR cx l db N W gR.I (.loop r0) q1 q2 q3 q4) rfl n' _ _ gR _ W _ hrun aty hs nm0 λe s1 g1 a1 w2 k1 k2 k3 k4=> ?_;cases e with
  |exit id=>exact iN|ret=>exact iN|Ej q=>exact iN
  |normal=>
   have kp1:bW Wd (s.with Wd (m i)) s1:=(bW.params _ _ _).trans k2 sP sA;have fr1:=k4.mem.frame;obtain⟨f1,f2,f3,f4,f5⟩:=fr1;refine⟨_,run_beginRound f2 r0s.1,?_⟩;have lt2:l<w2.heap.size:=E
   have other:∀b,b≠l->(w2.putObj l (.loop {r0 with state:= .busy})).heap[b]? =w2.heap[b]? :=λb hb=>World.putObj_heap_other hb;have noI:∀b o v,g1.I b o=some v->b≠l:=λb o v e hb=>by subst hb;obtain⟨_,_,_,h⟩:=sf (k4.mem.iw b o v e).1 f2;cases h
   have ag6:Cells g1.I (w2.putObj l (.loop {r0 with state:= .busy})):=λb o v e=>⟨(fJ (other b (noI b o v e))).trans (k4.mem.iw b o v e).1,(k4.mem.iw b o v e).2⟩;have je:Mem (cxR cx l db N W gR.I (.loop {r0 with state:= .busy}) q1 q2 q3 q4) g1 s1 (w2.putObj l (.loop {r0 with state:= .busy})):=by refine k4.mem.after (I' :=g1.I) (λ_ _ _ e=>e) ag6 (λb h1 h2=>other b ?_) (λb o v e _ _=>e) (λb _ h2=>h2) (λb o v e=>k4.mem.kN b o v e) ⟨cx.st _ _ _ _ f1 (λ_ _ _ e=>e) ⟨rfl,rfl,rfl,O,λb _ hb=>other b (λe=>hb (by rw[e];exact mll))⟩ ag6 (λb hb=>q4 b E),World.putObj_heap_same lt2,(other db (gB lne)).trans f3,by simpa using f4,λb hb hN=> ?_⟩ (λb hb=> .inr (by simp at hb;omega));rcases h2 with h2|h2;exact h2.2.2.1;omega;rw[other b (λe=>hN (by rw[e];exact q3.1))];exact f5 b hb hN
   have atz:Rel (cxR cx l db N W gR.I (.loop {r0 with state:= .busy}) q1 q2 q3 q4) g1 s1 a1 (w2.putObj l (.loop {r0 with state:= .busy})):=⟨k4.env,k4.size,k4.defers,je⟩;refine ihB l (cxR cx l db N W gR.I (.loop {r0 with state:= .busy}) q1 q2 q3 q4) rfl n' _ _ g1 _ _ _ k1 atz (k2.y hs) (k2.nm nm0) λe s2 g2 a2 w3 j1 j2 j3 j4=> ?_;have kp2:bW Wd (s.with Wd (m i)) s2:=kp1.trans j2 (λ_ h=>h) sB;have hfin:∀(g3:Gh) (s3:St) (v_ :Obj),Ext g g3->ku gR.I g3.I->Mem (cxR cx l db N W gR.I (.loop {r0 with state:= .busy}) q1 q2 q3 q4) g3 s3 w3->
    zk cx g w1 l db (λb=>N b∨(W.heap.size<=b∧b<(w3.putObj l v_).heap.size)) I (w3.putObj l v_) g3 s3 v_ ∧W.heap.size<=(w3.putObj l v_).heap.size∧(∀b,b<W.heap.size->¬N b->(w3.putObj l v_).heap[b]? =W.heap[b]?)∧Cells I (w3.putObj l v_):=λg3 s3 v_ x1 x2 x3=>
    SX Qg hJ.old hJ.lt hJ.big ll ld lne mll x1 apz x2 (λb o v e=>by
     rcases back b o v e with k|k;exact(hJ.shown b o v k).imp id (hsI b o v);exact .inr k) (λb o v e=>by
     rcases back b o v e with k|k;exact hJ.kN b o v k;rcases hI0 b o v k with k2|k2;exact h.mem.kN b o v k2;exact .inr (Qg b (by rcases jl b w1.heap.size with z|z;exact absurd (hJ.old b z) k2;exact z))) x3 (λ_ _ _ e=>bK)
   have frB:=j4.mem.frame;refine Nv (r:=r0) (λq e=>by subst e;exact j1.elim) frB.2.1 r0s ?_;cases e with
   |normal=>obtain⟨j,hj1,hj2⟩:=j1;obtain⟨g3,x1,x2,x3⟩:=Hj h (aj6.trans (k3.trans j3)) j4 hn (fit i) (fit j) kp2 hdH hdR hj2;obtain⟨z1,z2,z3,z4⟩:=hfin g3 (s.with Wd (m j)) (re r0 .normal) x1 (λb o v e=>by rw[x3];exact j3.I b o v (k3.I b o v e)) x2.mem;exact⟨z2,z3,z4,.run (k+1),.inl ⟨rfl,rfl⟩,j,g3,by rw[hj1,hpos],z1⟩
   |exit id=>obtain⟨z1,z2,z3,z4⟩:=hfin g2 s2 (re r0 (.exit id)) (aj6.trans (k3.trans j3)) (λb o v e=>j3.I b o v (k3.I b o v e)) j4.mem;refine⟨z2,z3,z4,.stop,.inr ⟨rfl,rfl⟩,.exit id,s2,g2,⟨(λe=>bK),λq e=>bK⟩,j1,?_,z1⟩;have kb:=kp0.trans kp2 (λ_ h=>h) (λ_ h=>h);exact⟨λt ht=>ab0,kb.H,kb.R,kb.kl,kb.kj,kb.nm,kb.y⟩
   |Ej q=>exact j1.elim|ret=>obtain⟨z1,z2,z3,z4⟩:=hfin g2 s2 (re r0 .ret) (aj6.trans (k3.trans j3)) (λb o v e=>j3.I b o v (k3.I b o v e)) j4.mem;refine⟨z2,z3,z4,.stop,.inr ⟨rfl,rfl⟩,.ret,s2,g2,⟨(λe=>bK),λq e=>bK⟩,j1,?_,z1⟩;have kb:=kp0.trans kp2 (λ_ h=>h) (λ_ h=>h);exact⟨λt ht=>ab0,kb.H,kb.R,kb.kl,kb.kj,kb.nm,kb.y⟩
 let host:Host P l xs:={J:=J,I0:=g.I,on:=λy N I w hJ e=>by subst e;exact hJ,ac9:=ara,round:=anz};have Jv:∀b,b<w.heap.size->cx.dX b->(cxH cx l db (λb=>b<w1.heap.size) w1 g.I).dX b:=λb h1 h2=> .inl ⟨h2,E,E,E⟩;have av8:Mem (cxH cx l db (λb=>b<w1.heap.size) w1 g.I) g s w1:=h.mem.after (I' :=g.I) (λ_ _ _ e=>e) hm1.iw (λb hb _=>by rw[hw1];show(dN (dN w _) _).heap[b]? =_;rw[bN _ _ _ (by simp[dN];omega),bN _ _ _ hb]) (λb o v e _ _=>e) Jv (λb o v e=> .inl e) trivial (λb hb=> .inr hb);have hJ0:J (.run 0) (λb=>b<w1.heap.size) g.I w1:=by refine⟨i0,g,hp0,Ext.refl g,λ_ _ _ e=>e,λb o v e=> .inr e,hm1.kN,λb hb=>hb,λb hb=>hb,hm1.frame,hdef,hrec,?_⟩;have e1:Rel (cxH cx l db (λb=>b<w1.heap.size) w1 g.I) g s {tmps:=a.tmps,defers:=[]} w1:=⟨h.env,h.size,rfl,av8⟩;exact(Hk e1 hn (fit i0) hh).mem
 refine Calls.mono (hgo host (λb=>b<w1.heap.size) g.I w1 _ (by simp[hvf,FV];omega) (λi v d hv hd' => ?_) hm1.iw (λb o v e=> .inl e) (λb hb=>E) ⟨g.I,hJ0,λ_ _ _ e=>e⟩) λe w3 he=> ?_;have pf:∀(i:Nat) v d,vf[i]? =some v->nth first i=some d->bM g.I v d:=λi v d h1 h2=>by obtain⟨p1,p2,p3⟩:=j7 _ aej.1 i d h2;exact yw p1 p2 p3 (rf i v d h1 h2)
 have pc:∀(i:Nat) v d,vc[i]? =some v->nth cap i=some d->bM g.I v d:=λi v d h1 h2=>by obtain⟨p1,p2,p3⟩:=j7 _ aej.2 i d h2;exact yw p1 p2 p3 (rc i v d h1 h2)
 rw[aJ]at hd';by_cases h1:i<first.length
 rw[rH,lj h1]at hd';rw[Array.append_assoc,jC E]at hv;exact pf i v d hv (by rw[aJ];exact hd');by_cases h2:i<first.length+1
 have e1:i=first.length:=E
 subst e1;rw[lj O,jn E]at hd';rw[jC az,CU E]at hv;simp at hd';simp[hvf]at hv;subst hd' hv;exact .Ix _;rw[jn az]at hd';rw[CU az]at hv;refine pc (i - (first++[au.Ix l]).length) v d ?_ (by rw[aJ];exact hd');have:(vf++ #[Value.func (.yield l) #[] #[]]).size=(first++[au.Ix l]).length:=by simp[hvf]
 rw[this]at hv;exact hv;cases e with
 |panicked ch=>exact he.elim|outgrown=>exact he.elim
 |returned v=>
  obtain⟨r,y,N',I',x1,x2,x3,x4,x5,x6,x7,⟨Ih,x8,x9⟩,x10,x11⟩:=he;have aqv:∀{g' :Gh} {s' :St} {rec:Obj} {o:Obj} (_:zk cx g w1 l db N' Ih w3 g' s' rec) (_:∀c e fz,rec≠.cells c e fz),∃gX,OO cx gX .off false∧gX.D=zY db::cx.D∧gX.n=cx.n∧Mem gX g' s' (w3.putObj l o):=λ{g' s' rec o} hJ hr=>by
   have lt3:l<w3.heap.size:=jm ll hJ.big;have other:∀b,b≠l->(w3.putObj l o).heap[b]? =w3.heap[b]? :=λb hb=>World.putObj_heap_other hb;have noI:∀b o v,g'.I b o=some v->b≠l∧b≠db:=λb o v e=>by refine⟨λhb=> ?_,λhb=> ?_⟩;subst hb;obtain⟨c,t,fz,h⟩:=sf (hJ.mem.iw b o v e).1 hJ.rc;exact hr _ _ _ h;subst hb;obtain⟨c,t,fz,h⟩:=sf (hJ.mem.iw b o v e).1 hJ.mE;cases h
   have cells:Cells g'.I (w3.putObj l o):=λb o v e=>⟨(fJ (other b (noI b o v e).1)).trans (hJ.mem.iw b o v e).1,(hJ.mem.iw b o v e).2⟩;have z1:db<w1.heap.size:=ld;refine⟨cxE cx db w1 z1 Qg,⟨rfl,λ_=>rfl,λ_ b k=>k.1,λ_ I w k=>k.1,λ_ B hB ⟨bs,k1,k2,k3,k4⟩=> ?_,λ_ k=>by cases k⟩,rfl,rfl,?_⟩;refine⟨db::bs,by show zY db::cx.D=_;rw[k1];rfl,uR.2 ⟨λhm=> ?_,k2⟩,λI w k b hb=> ?_,λb hb=> ?_⟩;have:=cI (k3 g.I w h.mem.frame db hm).2;omega;rcases b_.1 hb with hb|hb;subst hb;exact⟨by rw[hdb];exact hB _ _ h.mem.frame,k.2.1⟩;exact k3 I w k.1 b hb;rcases b_.1 hb with hb|hb;subst hb;exact λe=>e.2 rfl
   exact λe=>k4 b hb e.1;refine hJ.mem.after (I' :=g'.I) (λ_ _ _ e=>e) cells (λb h1 h2=>other b ?_) (λb o v e _ _=>e) (λb h1 h2=> ?_) (λb o v e=> ?_) ⟨cx.st _ _ _ _ hJ.fr (λ_ _ _ e=>e) ⟨rfl,rfl,rfl,O,λb _ hb=>other b (λe=>hb (by rw[e];exact mll))⟩ cells (λb hb=>Qg b (eW hJ.big hb)),(other db (gB lne)).trans hJ.mE,by simpa using hJ.big⟩ (λb hb=> ?_);rcases h2 with h2|h2;exact h2.2.2.1;omega;rcases h2 with h2|h2;exact⟨h2.1,h2.2.2.2⟩;omega;exact(hJ.kN b o v e).imp id λk=>⟨k,(noI b o v e).2⟩
   have hb' :w3.heap.size<=b:=qu;have:=hJ.big;exact⟨Qg b E,E⟩
  rcases x1 with rfl|rfl;obtain⟨i,g',p1,hJ⟩:=x8;obtain⟨gX,c1,c2,c3,c4⟩:=aqv (o:= .loop {r0 with state:= .exhausted}) hJ (λ_ _ _ e=>bK);refine⟨none,w3.putObj l (.loop {r0 with state:= .exhausted}),?_,?_⟩;exact(run_endLoop (P:=P) hJ.rc (by rw[r0s.1];intro e;cases e)).trans (by rw[r0s.2]);exact hq .normal _ gX g' _ _ ((hall i).2.2 p1) (yq (fit i)) c1 hJ.ext ⟨λt d ht=>(h.env t d (aje i t d ht)).mono hJ.ext,by rw[c3];exact h.size,by rw[c2,<-h.defers];rfl,c4⟩
  ·obtain⟨e,s',g',⟨p1,p0⟩,p2,p3,hJ⟩:=x8;have er:re r0 e= .loop {r0 with state:= .done,pending:=some (Dg e)}:=by cases e<;>first|rfl|exact absurd rfl p1
   have hJ' :=hJ;rw[er]at hJ;obtain⟨gX,c1,c2,c3,c4⟩:=aqv (o:= .loop {r0 with state:= .exhausted,pending:=some (Dg e)}) hJ (λ_ _ _ e=>bK);have hrel:Rel gX g' (s'.back (xF Wd s.env)) {a with defers:=[zY db]++a.defers} (w3.putObj l (.loop {r0 with state:= .exhausted,pending:=some (Dg e)})):=by refine⟨λt d ht=>(h.env t d ?_).mono hJ.ext,by rw[c3];exact h.size,by rw[c2,<-h.defers];rfl,c4.names rfl rfl⟩;rcases lJ Wd s.env t with⟨_,k⟩|⟨_,k⟩;have:xF Wd s.env t=some d:=ht;rw[k]at this;cases this;exact k▸ht
   have hQ:=hq e _ gX g' _ _ p2 p3 c1 hJ.ext hrel;refine⟨some (Dg e),w3.putObj l (.loop {r0 with state:= .exhausted,pending:=some (Dg e)}),?_,?_⟩;exact run_endLoop (P:=P) hJ.rc LU;cases e with|normal=>exact absurd rfl p1|Ej q=>exact absurd rfl (p0 q)|exit id=>exact wpIn_exit hQ|ret=>exact wpIn_ret hQ
theorem G8{sk:Nat}:∀(l:List Oper) (k i:Nat),nth (cN sk l k) i=(nth l i).map λo=>bif qM sk (k+i)then an9 o else o|[],_,_=>by simp[cN,nth]|o::l,k,0=>by simp[cN,nth]|o::l,k,i+1=>by simp only[cN,nth];rw[G8 l (k+1) i,show k+1+i=k+(i+1) by omega]
theorem rX{sk:Nat}:∀(l:List Oper) (k:Nat),(cN sk l k).length=l.length|[],_=>rfl|o::l,k=>by simp[cN,rX l (k+1)]
theorem FR{sk:Nat}{l:List Oper}{i:Nat}{o' :Oper}(h:nth (cN sk l 0) i=some o'):∃o,nth l i=some o∧o'.after=o.after∧(qM sk i=false->o' =o)∧(qM sk i=true->o'.dst=none):=by
 rw[G8,eI]at h;cases ho:nth l i with
 |none=>rw[ho]at h;cases h
 |some o=>
  rw[ho]at h;have h:(bif qM sk i then an9 o else o)=o' :=eQ
  subst h;cases qM sk i with|true=>exact⟨o,rfl,rfl,(λe=>bK),λ_=>rfl⟩|false=>exact⟨o,rfl,rfl,(λ_=>rfl),λe=>bK⟩
def Wv{sk:Nat}{l:List Oper}{i:Nat}{o:Oper}(h:nth l i=some o):∃o',nth (cN sk l 0) i=some o' ∧o'.after=o.after∧(qM sk i=false->o' =o):=by rw[G8,eI,h];cases qM sk i with|true=>exact⟨_,rfl,rfl,λe=>bK⟩|false=>exact⟨_,rfl,rfl,λ_=>rfl⟩
def aeg(j:Nat):qM (Nat.pow 2 j) j=true:=by rw[yF];exact Nat.testBit_two_pow_self
theorem C4(j:Nat):∀(l:List Nat) (k:Nat),qM (wL j l k) j=true|[],_=>aeg j|b::l,k=>by unfold wL;cases qM b j with|true=>show qM (Nat.lor _ _) j=true;rw[FU,C4 j l (k+1),Bool.or_true]|false=>exact C4 j l (k+1)
theorem Je(j:Nat):∀(l:List Nat) (k i:Nat),qM (wL j l k) i=true->i=j∨∃b,k<=i∧nth l (i - k)=some b∧qM b j=true
 |[],_,i,h=> .inl (N7 h)
 |b::l,k,i,h=>by
  unfold wL at h;have rest:qM (wL j l (k+1)) i=true->i=j∨∃b',k<=i∧nth (b::l) (i - k)=some b' ∧qM b' j=true:=λh=>by rcases Je j l (k+1) i h with e|⟨b',h1,h2,h3⟩;exact .inl e;refine .inr ⟨b',E,?_,h3⟩;rw[show i - k=(i - (k+1))+1 by omega];exact h2
  cases hb:qM b j with|false=>rw[hb]at h;exact rest h|true=>rw[hb]at h;have h' :qM (Nat.lor (Nat.pow 2 k) (wL j l (k+1))) i=true:=h;rw[FU,uS]at h';rcases h' with h' |h';have e:=N7 h';subst e;exact .inr ⟨b,cJ _,by rw[lZ];rfl,hb⟩;exact rest h'
def xC(x:Oper)(l:List Oper):lE (x::l)=match oz x,x.dst with|true,some t=>t::lE l|_,_=>lE l:=rfl
theorem vD{t:Nat}:∀{l:List Oper},t∈lE l↔∃i o,nth l i=some o∧oz o=true∧o.dst=some t
 |[]=>⟨λh=>by simp[lE]at h,λ⟨i,o,h,_⟩=>LQ⟩
 |x::l=>by
  have ih:=vD (t:=t) (l:=l);have go:(∃i o,nth (x::l) i=some o∧oz o=true∧o.dst=some t)↔((oz x=true∧x.dst=some t)∨∃i o,nth l i=some o∧oz o=true∧o.dst=some t):=by
   constructor
   ·rintro ⟨i,o,h1,h2,h3⟩
    cases i with|zero=>simp[nth]at h1;subst h1;exact .inl ⟨h2,h3⟩|succ i=>exact .inr ⟨i,o,h1,h2,h3⟩
   ·rintro (⟨h2,h3⟩|⟨i,o,h1,h2,h3⟩)
    exact⟨0,x,rfl,h2,h3⟩;exact⟨i+1,o,h1,h2,h3⟩
  rw[go,<-ih,xC];cases ha:oz x with|false=>simp|true=>cases hd:x.dst with|none=>simp|some u=>simp[eq_comm]
theorem DV:∀{l:List Nat},NM l=true->l.Nodup|[],_=> .nil|x::l,h=>by unfold NM at h;rw[aX,mR]at h;refine uR.2 ⟨λhx=> ?_,DV h.2⟩;rw[iF.2 hx]at h;cases h.1
theorem Ie{t:Nat}:∀{l:List Oper} {i k:Nat} {o p:Oper},(lE l).Nodup->nth l i=some o->nth l k=some p->oz o=true->oz p=true->o.dst=some t->p.dst=some t->i=k
 |[],_,_,_,_,_,h,_,_,_,_,_=>LQ
 |x::l,i,k,o,p,hn,h1,h2,h3,h4,h5,h6=>by
  have tl:(lE l).Nodup:=by rw[xC]at hn;split at hn;exact(uR.1 hn).2;exact hn
  have hd:∀{i:Nat} {o:Oper},nth l i=some o->oz o=true->o.dst=some t->oz x=true->x.dst=some t->False:=λ{i o} e1 e2 e3 e4 e5=>by rw[xC,e4,e5]at hn;exact(uR.1 hn).1 (vD.2 ⟨i,o,e1,e2,e3⟩)
  cases i with
  |zero=>simp[nth]at h1;subst h1;cases k with|zero=>rfl|succ k=>exact(hd xM h4 h6 h3 h5).elim
  |succ i=>cases k with|zero=>simp[nth]at h2;subst h2;exact(hd (by simpa[nth]using h1) h3 h5 h4 h6).elim|succ k=>exact aL (· +1) (Ie (i:=i) (k:=k) tl (by simpa[nth]using h1) xM h3 h4 h5 h6)
theorem BC:∀{a b:List Nat},Ji a b=true->a=b|[],[],_=>rfl|x::xs,y::ys,h=>by unfold Ji at h;rw[aX]at h;have e1:=dw h.1;have e2:xs=ys:=BC h.2;rw[e1,e2]|[],_::_,h=>by cases h|_::_,[],h=>ie
open Classical in
theorem An{s' :St}(A:Nat->Prop):∀{l:List Nat} {s:St} {K:St->Prop},Q1 s' l s K->∃s1,K s1∧s1.env=s.env∧s1.R=s.R∧s1.rn=s.rn∧s1.y=s.y∧(∀x,s1.H x=if x∈l∧A x then s'.H x else s.H x)∧(∀x,s1.H x≠none->s.H x≠none∨x∈l)∧(∀x,s.H x≠none->s1.H x≠none)∧((∀x,s.H x≠none->x∈s.hn)->∀x,s1.H x≠none->x∈s1.hn)
 |[],s,K,h=>⟨s,h,rfl,rfl,rfl,rfl,λx=>O,λx hx=> .inl hx,λx hx=>hx,λh=>h⟩
 |t::l,s,K,h=>by
  rw[Tp]at h;by_cases hA:A t;have hb:=h.b;split at hb;rename_i d hd;obtain⟨s1,k1,e1,e2,e3,e4,e5,e6,e7,e8⟩:=An A hb;have up:∀x,aW s.H t (some d) x=if x=t then some d else s.H x:=λx=>by by_cases hx:x=t;subst hx;rw[bw,ak rfl];rw[aO _ _ _ _ hx,Z hx]
  refine⟨s1,k1,e1,e2,e3,e4,λx=> ?_,λx hx=> ?_,λx hx=> ?_,λhs x hx=> ?_⟩;rw[e5 x];dsimp only;rw[up x];by_cases hx:x=t;subst hx;rw[ak rfl,ak (⟨O,hA⟩:x∈x::l∧A x),hd];split<;>rfl;rw[Z hx];simp[hx];rcases e6 x hx with q|q;dsimp only at q;rw[up x]at q;by_cases hx:x=t;exact .inr xY;rw[Z hx]at q;exact .inl q;exact .inr (by simp[q]);refine e7 x ?_;dsimp only;rw[up x];split;simp;exact hx;refine e8 (λy hy=> ?_) x hx;dsimp only at hy ⊢;rw[up y]at hy;by_cases h1:y=t;simp[h1];rw[Z h1]at hy;simp[hs y hy];exact hb.elim;obtain⟨s1,k1,e1,e2,e3,e4,e5,e6,e7,e8⟩:=An A h.a;refine⟨s1,k1,e1,e2,e3,e4,λx=> ?_,λx hx=>(e6 x hx).imp id (λq=>by simp[q]),e7,e8⟩;rw[e5 x];by_cases hx:x=t;subst hx;simp[hA];simp[hx]
section
variable{P:Program}{cx:Cx}{c:mN}{ops:Array Oper}{S:Nat->St}{T:List Rec}
theorem XU{j sk bj:Nat}{oj:Oper}(hj:nth ops.toList j=some oj)(hsk:sk=wL j (jA ops.toList []) 0)(hI:Xk (cN sk ops.toList 0).toArray T)(hIL:OJ (cN sk ops.toList 0).toArray T)(hlen:T.length=(cN sk ops.toList 0).toArray.size)(hB:G2 P cx.n ops=true)(hok:v8 P c)(hg:∀o∈ops.toList,o.guard=none){ro:Option Nat}{n:Nat}(hL:∀(i:Nat) o r,nth (cN sk ops.toList 0).toArray.toList i=some o->nth T i=some r->yO P c (cN sk ops.toList 0).toArray.toList o (S i) (S (i+1)) r){Q:Go.Exit->Act->World->Prop}{g0:Gh}(hP:∀(D:Nat->Prop) u g a w M,xG ops.toList D->Pre oj D->(∀i,D i->qM sk i=false)->Inv (cN sk ops.toList 0).toArray S T D u->Ext g0 g->Rel cx g u a w->wpOpIn (FW ro) n P ops Q j M a w):∀(fuel:Nat) (listed:Array Bool) (u:St) (g:Gh) (a:Act) (w:World),listed.size=ops.size->ops.size<=fuel+listed.toList.count true->xG ops.toList (λi=>listed.getD i false=true)->(∀i,listed.getD i false=true->qM sk i=false)->Inv (cN sk ops.toList 0).toArray S T (λi=>listed.getD i false=true) u->Ext g0 g->Rel cx g u a w->wpAnyIn (FW ro) n P .any ops Q fuel listed a w:=by
 have skj:qM sk j=true:=by rw[hsk];exact C4 j _ 0
 have hjlt:j<ops.size:=by have:=aH hj;exact mO
 have hall:∀{listed:Array Bool},listed.size=ops.size->Region.ready .any ops listed=[]->∀i,i<ops.size->listed.getD i false=true:=by
  intro listed hs hr i;induction i using Nat.strongRecOn with
  |_ i ih=>
   intro hi;cases hl:listed.getD i false with
   |true=>rfl
   |false=>
    exfalso;obtain⟨o,ho⟩:=bO (l:=ops.toList) (i:=i) uN;obtain⟨o',ho',ea,_⟩:=Wv (sk:=sk) ho;have:i∈Region.ready .any ops listed:=by rw[mem_ready];refine⟨?_,o,AK,λe he hbd=> ?_⟩;exact Un;have:=hI.down i o' (by simpa using ho') e (by rw[ea];exact he) hbd;exact ih e.on this E
    rw[hr]at this;cases this
 intro fuel;induction fuel with
 |zero=>
  intro listed u g a w hs hf hcl hns hu hx h;exfalso;have hfull:listed.toList.count true=listed.toList.length:=UY
  rw[List.count_eq_length]at hfull;have hjl:j<listed.size:=E
  have:=hfull listed[j] O;have e:listed.getD j false=true:=by simp[hjl,<-this]
  have:=hns j e;rw[skj]at this;cases this
 |succ fuel ih=>
  intro listed u g a w hs hf hcl hns hu hx h;refine⟨λhr=> ?_,λi hi=> ?_⟩;exfalso;have:=hns j (hall hs hr j hjlt);rw[skj]at this;cases this;obtain⟨h0,o,ho,hpre⟩:=mem_ready.1 hi;have ho' :nth ops.toList i=some o:=by rw[aJ];simpa using ho
  have hlt:i<listed.size:=by rw[hs];exact(iX.1 ho).1
  have hnD:¬listed.getD i false=true:=by simp[hlt]at h0 ⊢;exact h0
  have ao1:Pre o (λi=>listed.getD i false=true):=λe he hb=>hpre e he hb;cases hsi:qM sk i with
  |true=>rw[hsk]at hsi;rcases Je j _ 0 i hsi with e|⟨b,_,hb,hbj⟩;subst e;rw[hj]at ho';cases ho';exact hP _ u g a w _ hcl ao1 hns hu hx h;exfalso;rw[Nat.sub_zero]at hb;have hDj:=ou hcl (l:=ops.toList) (acc:=[]) (λk o hk=>A5) (λk o b _ hb=>E5) i o b ho' hb ao1 j hbj;have:=hns j hDj;rw[skj]at this;cases this
  |false=>
   obtain⟨o',hm1,ea,eo⟩:=Wv (sk:=sk) ho';have:=eo hsi;subst this;have hcl' :xG (cN sk ops.toList 0).toArray.toList (λi=>listed.getD i false=true):=λk p hk hDk e he hb=>by obtain⟨p0,q1,q2,_⟩:=FR (by simpa using hk:nth (cN sk ops.toList 0) k=some p);exact hcl k p0 q1 hDk e (by rw[<-q2];exact he) hb
   obtain⟨u',q,hu'⟩:=GY hI hIL hlen hL hcl' hu (by simpa using hm1) hnD ao1;have q' :acw P c ops.toList o' u u' :=by unfold acw guardOf at q ⊢;rw[hg o' (dr ho')]at q ⊢;exact q
   refine G3 h hB ho' hok q' λg' a' w' e1 e2=> ?_;have hset:∀k,(listed.setIfInBounds i true).getD k false=true↔(listed.getD k false=true∨k=i):=by
    intro k;by_cases hij:i=k;subst hij;simp[hlt];rw[getD_set_ne false hij];constructor;exact .inl
    ·rintro (h|h)
     exact h;exact absurd h.symm hij
   refine ih _ u' g' a' w' qo ?_ ?_ ?_ ?_ (hx.trans e1) e2;have hl:listed[i]=false:=Vu;have hne:(listed.setIfInBounds i true).toList.count true=listed.toList.count true+1:=aau
   omega;intro k ok hok hk e he hb;rw[hset]at hk ⊢;rcases hk with hk|hk;exact .inl (hcl k ok hok hk e he hb);subst hk;rw[ho']at hok;cases hok;exact .inl (hpre e he hb);intro k hk;rw[hset]at hk;rcases hk with hk|hk;exact hns k hk;subst hk;exact hsi;have:(λk=>(listed.setIfInBounds i true).getD k false=true)=λk=>(listed.getD k false=true∨k=i):=funext λk=>propext (hset k);rw[this];exact hu'
open Classical in
def XT(hm:P.follows .mixedOrders=true)(hB:G2 P cx.n ops=true)(hok:v8 P c){ro:Option Nat}{n:Nat}{id t:Nat}{W:List Nat}{s:St}{KP:Nat->St->Prop}{g:Gh}{a:Act}{w:World}{Q:Go.Exit->Act->World->Prop}(hk:WY P c ops.toList W t s KP)(hW:∀o∈ops.toList,∀t,o.dst=some t->t∈W)(h:Rel cx g s a w)(hq:∀q s' g' a' w',KP q s' ->bW W s s' ->s'.y=s.y->Ext g g' ->Rel cx g' s' a' w' ->Q (.panic (qh q)) a' w'):(Code.region id ops true).wpIn (FW ro) n P Q a w:=by
 unfold WY at hk;split at hk;exact aq;rename_i j hfj;split at hk;exact aq;rename_i oj hoj;obtain⟨sk,hsk⟩:∃sk,sk=wL j (jA ops.toList []) 0:=⟨_,rfl⟩;rw[<-hsk,Cj]at hk;refine wpIn_region_any hm ?_;obtain⟨S,T,e1,e2,k1,l1⟩:=xp (all:=(cN sk ops.toList 0).toArray.toList) (l:=(cN sk ops.toList 0).toArray.toList) hk;rw[jV,List.reverse_reverse]at k1;have hI:=D5 (ops:=(cN sk ops.toList 0).toArray) (by simpa using k1.h);have hlen:T.length=(cN sk ops.toList 0).toArray.size:=by simpa using e2
 have hlen2:T.length=ops.size:=by rw[hlen];simp[rX]
 have hwv:∀r∈T,∀x∈r.wv,x.1∈r.wh:=λr hr=>by obtain⟨i,hi⟩:=MY hr;rw[<-aJ]at hi;have hlt:=aH hi;obtain⟨o,ho⟩:=bO (l:=(cN sk ops.toList 0).toArray.toList) (i:=i) (by simpa using(by rw[<-hlen];exact hlt:i<(cN sk ops.toList 0).toArray.size));exact(l1 i o r ho hi).wv'
 have hpb:=k1.k.h;have k3:=k1.k.k;obtain⟨k2,hIL⟩:=Qy (ops:=(cN sk ops.toList 0).toArray) (by simpa using k3) hwv;have hSn:S (cN sk ops.toList 0).toArray.toList.length=S ops.size:=by congr 1;simp[rX]
 rw[hSn]at k2;unfold aqb at hpb;rw[hoj]at hpb;obtain⟨bj,hbj⟩:∃bj,nth (jA ops.toList []) j=some bj:=by cases hb:nth (jA ops.toList []) j with|none=>rw[hb]at hpb;cases hpb|some b=>exact⟨b,rfl⟩
 rw[hbj]at hpb;simp only[aX]at hpb;obtain⟨⟨⟨hco,hgs⟩,hnd⟩,hch⟩:=hpb;have hg:∀o∈ops.toList,o.guard=none:=λo ho=>by have:=jW.1 hgs o ho;cases hg:o.guard with|none=>rfl|some x=>rw[hg]at this;cases this
 have hnd:=DV hnd;have Y3 :∀{i:Nat} {o:Oper} {r:Rec},nth (cN sk ops.toList 0) i=some o->nth T i=some r->r.wr=[]∧(∀x∈r.wh,oz o=true∧o.dst=some x)∧(qM sk i=true∨qM bj i=true∨∀x,o.dst=some x->x∉jc ops.toList oj):=λ{i o r} h1 h2=>by
  have hlt:i<ops.toList.length:=by have:=aH h1;rwa[rX]at this
  have:=jW.1 hch i (Be.2 hlt);rw[h1,h2]at this;simp only[aX,uS,mR]at this;obtain⟨_,⟨c1,c2⟩,c3⟩:=this;refine⟨BC c1,λx hx=> ?_,?_⟩;rcases c2 with c2|⟨c2,c4⟩;rw[BC c2]at hx;cases hx;rw[BC c4]at hx;exact⟨c2,kz.1 hx⟩;rcases c3 with(c3|c3)|c3;exact .inl c3;exact .inr (.inl c3);exact .inr (.inr λx hx hr=>iv c3 (kz.2 hx) hr)
 have recAt:∀{i:Nat} {r:Rec},nth T i=some r->∃o,nth (cN sk ops.toList 0) i=some o:=λ{i r} hr=>by have hlt:=aH hr;exact bO (by rw[rX];rw[hlen2]at hlt;simpa using hlt)
 split at k2
 rotate_left
 exact k2.elim;rename_i f args arb;have hnone:∀i,(Array.replicate ops.size false).getD i false=true->False:=aaz
 have hdj:ji cx.n oj.dst=true:=by unfold G2 at hB;rw[jW]at hB;have hb:=hB oj (dr hoj);exact Lh
 refine XU (g0:=g) (sk:=sk) (bj:=bj) hoj hsk hI hIL hlen hB hok hg l1 (λD u g1 a1 w1 M hD hpre hns hu hx hr=> ?_) ops.size (Array.replicate ops.size false) s g a _ O E (λk o _ hk=>(hnone k hk).elim) (λi hi=>(hnone i hi).elim) ?_ (Ext.refl g) ⟨h.env,h.size,h.defers,h.mem.drew _⟩;have before:∀i,qM bj i=true->D i:=ou hD (l:=ops.toList) (acc:=[]) (λk o hk=>A5) (λk o b _ hb=>E5) j oj bj hoj hbj hpre;have hsz:ops.size<=(cN sk ops.toList 0).toArray.size:=by simp[rX]
 have av1:∀x∈jc ops.toList oj,(S ops.size).env x=u.env x:=λx hx=>by refine(hu.env x ops.size hsz (λi o hi ho hd=> ?_) (λi o hi ho hd=> ?_)).symm;have ho:nth (cN sk ops.toList 0) i=some o:=(by simpa using ho);obtain⟨r,hr⟩:=bO (l:=T) (i:=i) E;rcases(Y3 ho hr).2.2 with c|c|c;obtain⟨_,_,_,_,q⟩:=FR ho;rw[q c]at hd;cases hd;exact before i c;exact absurd hx (c x hd);have:=aH ho;simp[rX]at this;omega
 have hp:cu P oj (cY P u)= .call f args:=by rw[<-arb];exact GS λt x hx=>(HK (all:=ops.toList) av1 t x hx).symm
 obtain⟨s1,k4,f1,f2,f3,f4,f5,f6,f7,f8⟩:=An (λt=>∃i o,nth (cN sk ops.toList 0) i=some o∧oz o=true∧o.dst=some t∧D i) k2;have hH:s1.H=u.H:=by funext x;rw[f5 x];split;rename_i hA;obtain⟨_,i0,o0,a1,a2,a3,a4⟩:=hA;refine(hu.H x ops.size hsz (λi r hi hr hxw=> ?_) (λi r hi hr hxw=> ?_)).symm;obtain⟨o,ho⟩:=recAt hr;obtain⟨b1,b2⟩:=(Y3 ho hr).2.1 x hxw;rw[Ie hnd ho a1 b1 a2 b2 a3];exact a4;have:=aH hr;omega;rename_i hA;have:=hu.H x 0 (dM _) (λi r hi=>E) (λi r _ hr hxw hDi=>hA ?_);rw[this,e1];obtain⟨o,ho⟩:=recAt hr;obtain⟨b1,b2⟩:=(Y3 ho hr).2.1 x hxw;exact⟨vD.2 ⟨i,o,ho,b1,b2⟩,i,o,ho,b1,b2,hDi⟩
 have hR:s1.R=u.R:=by funext x;rw[f2];have:=hu.R x 0 (dM _) (λi r hi=>E) (λi r _ hr hxw=>by obtain⟨o,ho⟩:=recAt hr;rw[(Y3 ho hr).1]at hxw;cases hxw);rw[this,e1]
 have aje:∀x,x∉W->u.env x=s.env x:=λx hx=>by have:=hu.env x 0 (dM _) (λi o hi=>E) (λi o _ ho hd _=> ?_);rw[this,e1];have ho:nth (cN sk ops.toList 0) i=some o:=(by simpa using ho);obtain⟨o0,q1,_,q3,q4⟩:=FR ho;cases hsi:qM sk i with|true=>rw[q4 hsi]at hd;cases hd|false=>have:=q3 hsi;subst this;exact hx (hW o (dr q1) x hd)
 have hid:∀x,x∉W->xF W s.env x=s.env x:=λx hx=>by rcases lJ W s.env x with⟨q,_⟩|⟨_,q⟩;exact absurd q hx;exact q
 have hrel:Rel cx g1 s1 a1 w1:=by refine⟨λt d ht=> ?_,hr.size,hr.defers,hr.mem.names hH hR⟩;rw[f1]at ht;dsimp only at ht;rcases lJ W s.env t with⟨_,q⟩|⟨q,q2⟩;rw[q]at ht;cases ht;rw[q2]at ht;exact hr.env t d (by rw[aje t q];exact ht)
 have ho' :ops[j]? =some oj:=by rw[aJ]at hoj;simpa using hoj
 have hwt:Region.wanted oj (yielded ops a1.tmps)=true:=by simp[Region.wanted,hg oj (dr hoj)]
 unfold wpOpIn;rw[ho'];dsimp only;rw[ak hwt];have kp1:bW W s s1:=
  {env:=λx hx=>by rw[f1];exact hid x hx
   H:=λl hl=>(f6 l hl).imp (λq=>q) (λq=>by obtain⟨i,o,q1,q2,q3⟩:=vD.1 q;obtain⟨o0,p1,_,p3,p4⟩:=FR q1;cases hsi:qM sk i with|true=>rw[p4 hsi]at q3;cases q3|false=>have:=p3 hsi;subst this;exact hW o (dr p1) l q3)
   R:=λk hk=>by rw[f2]at hk;exact .inl hk
   kl:=f7
   kj:=λk hk=>by rw[f2];exact hk
   nm:=λhn=>⟨f8 hn.1,λk hk=>by rw[f3];rw[f2]at hk;exact hn.2 k hk⟩
   y:=λe=>by rw[f4];exact e}
 have hdW:∀x∈dg oj.dst,x∈W:=λx hx=>hW oj (dr hoj) x (kz.1 hx);have k5:=vL (K' :=λ_=>False) (KP' :=λq s' =>bW W s s' ∧s'.y=s.y∧KP q s') k4 (λ_ _ _ h=>h) λq s' kk hy h=>⟨kp1.trans kk (λ_ h=>h) hdW,hy.trans f4,h⟩;refine oH (by obtain⟨c',f',ho1,_⟩:=tz (P:=P) hco (ρ:=cY P u);intro d e;rw[ho1]at e;cases e) (Bu (DK hrel hr hdj hco hok.C hp k5 λq s' g' w' z1 z2 z3=>hq q s' g' a1 w' z1.2.2 z1.1 z1.2.1 (hx.trans z2) z3) λs' g' a' w' z=>z.elim);have both:∀{i:Nat},i<(cN sk ops.toList 0).toArray.size->∃x y,nth (cN sk ops.toList 0).toArray.toList i=some x∧nth T i=some y:=λ{i} h=>by obtain⟨x,hx⟩:=bO (l:=(cN sk ops.toList 0).toArray.toList) (i:=i) eQ;obtain⟨y,hy⟩:=bO (l:=T) (i:=i) E;exact⟨x,y,hx,hy⟩
 have stay:∀{i:Nat} {x:Oper} {y:Rec},nth (cN sk ops.toList 0).toArray.toList i=some x->nth T i=some y->
  (∀t,x.dst≠some t->(S (i+1)).env t=(S i).env t)∧(∀l,l∉y.wh->(S (i+1)).H l=(S i).H l)∧(∀l,l∉y.wr->(S (i+1)).R l=(S i).R l):=λ{i x y} h1 h2=>by
  obtain⟨u',p,_⟩:=(l1 i x y h1 h2).out (S i) ⟨λ_ _=>rfl,λ_ _=>rfl,λ_ _=>rfl⟩ (λ_ _=>rfl);refine⟨λt ht=> ?_,λt ht=> ?_,λt ht=> ?_⟩;rcases p.env t with⟨a,_⟩|⟨_,b⟩;exact a;exact qA;rcases p.H t with⟨a,_⟩|⟨_,b⟩;exact a;exact qA;rcases p.R t with⟨a,_⟩|⟨_,b⟩;exact a;exact qA
 exact JF e1 both stay hnone
end
def aa1(h:G:=by intro t ht;simp at ht;subst ht;simp[gH]):=h
def yd(h:G:=by simp[gH,ht]):=h
def zl(h:G:=by unfold qJ at e;rw[aX]at e;exact e.1):=h
def Ld(h:G:=by unfold qJ at e;rw[aX]at e;exact e.2):=h
def UU(h:G:=by rw[hd]at h0;exact⟨h0.env,h0.H,h0.R,h0.kl,h0.kj,h0.nm,λe=>absurd e y0⟩):=h
def KW(h:G:=by exact⟨hk.h,tD (K:=K) hk.k⟩):=h
def TP(h:G:=by exact hq .normal s' gX g' a' w' h1 h2 h3 hy' h4 h5):=h
def ux(P:Program)(n:Nat):Code->Bool| .region _ ops _=>G2 P n ops| .seq a b=>ux P n a&&ux P n b| .cond _ a b=>ux P n a&&ux P n b| .block _ b=>ux P n b| .loop b=>ux P n b| .rangeFunc _ ps a b=>ps.toList.all (λt=>Nat.blt t n)&&(ux P n a&&(ux P n b&&(qJ a&&qJ b)))|_=>true
def least{p:Nat->Prop}(h:∃j,p j):∃j,p j∧∀i,i<j->¬p i:=by obtain⟨j,hj⟩:=h;induction j using Nat.strongRecOn with|_ j ih=>by_cases hx:∃i,i<j∧p i;obtain⟨i,hi,hp⟩:=hx;exact ih i hi hp;exact⟨j,hj,λi hi hp=>hx ⟨i,hi,hp⟩⟩
section
variable{P:Program}{c:mN}
def Rel.Y3{cx:Cx}{g:Gh}{s:St}{a:Act}{w:World}(h:Rel cx g s a w)(y:YS):Rel cx g (s.at y) a w:=⟨h.env,h.size,h.defers,h.mem.names rfl rfl⟩
theorem tt{all:List Oper}:∀{l:List Oper} {s:St} {K:Out->St->Prop},eM P c all l s K->eM P c all l s λe s' =>bW (l.flatMap λo=>dg o.dst) s s' ∧K e s'
 |[],s,K,hk=>⟨bW.refl _ _,hk⟩
 |o::l,s,K,hk=>by
  rw[tu]at hk ⊢;have up:∀{a b:St},bW (dg o.dst) s a->bW (l.flatMap λo=>dg o.dst) a b->bW ((o::l).flatMap λo=>dg o.dst) s b:=λha hb=>ha.trans hb (λt ht=>by simp[ht]) (λt ht=>TU);refine qN hk (λh1=> ?_) (λh1=>pQ (tt h1) λe s' h3=>⟨up (bW.forget s o.dst) h3.1,h3.2⟩);have nx:∀s1,bW (dg o.dst) s s1->(norm o.dst (cu P o (cY P s)) s1 λs' =>eM P c all l s' K)->
   norm o.dst (cu P o (cY P s)) s1 λs' =>eM P c all l s' λe s' =>bW ((o::l).flatMap λo=>dg o.dst) s s' ∧K e s' :=λs1 k h2=>by
   rw[norm_eq]at h2 ⊢;exact pQ (tt h2) λe s' h3=>⟨up k h3.1,h3.2⟩
  have pl:aC P c o.dst s (λs1=>norm o.dst (cu P o (cY P s)) s1 λs' =>eM P c all l s' K) (cu P o (cY P s))->
   aC P c o.dst s (λs1=>norm o.dst (cu P o (cY P s)) s1 λs' =>eM P c all l s' λe s' =>bW ((o::l).flatMap λo=>dg o.dst) s s' ∧K e s') (cu P o (cY P s)):=λh1=>
   qX h1 λs1 k _ h2=>nx s1 k h2
  have py:∀(s1:St) (k1:kv s s1) (y0:s.y≠.off) (d:au) (y:YS),bW (dg o.dst) s (s1.IE o.dst d y):=λs1 k1 y0 d y=>by have h0:=(bW.vz k1 (dg o.dst)).trans (bW.put s1 o.dst d) (U:=dg o.dst) (λ_ h=>h) (λ_ h=>h);cases hd:o.dst with|none=>exact UU|some t=>exact UU
  revert h1 nx pl;generalize cu P o (cY P s)=p;generalize lD o=b;intro h1 nx pl;cases b with
  |false=>
   cases p with
   |Ek es nl ne=>cases nl with|true=>exact pl h1|false=>exact⟨λe=>nx _ (bW.put s o.dst _) (h1.t e),nx _ (bW.put s o.dst _) h1.f⟩
   |_=>exact pl h1
  |true=>
   cases p with
   |yield ly args=>
    simp only[OM]at h1 ⊢;split at h1;rename_i k hk1;have y0:s.y≠.off:=by rw[hk1];intro e;cases e
    refine j9 (qK h1) λs1 ds ⟨k1,h2⟩=> ?_;exact⟨h2.h,nx _ (py s1 k1 y0 _ _) h2.k.a,nx _ (py s1 k1 y0 _ _) h2.k.b⟩;exact jx
   |yS f args=>
    simp only[OM]at h1 ⊢;split at h1;rename_i k hk1;have y0:s.y≠.off:=by rw[hk1];intro e;cases e
    refine j9 (qK h1) λs1 ds ⟨k1,h2⟩=> ?_;obtain⟨Q,q1,q2⟩:=h2.out;exact⟨Q,q1,DC (λr y hQ=>nx _ (py s1 k1 y0 _ _) hQ) q2⟩;exact jx
   |call f args=>exact vL h1 (λs1 k _ h2=>nx s1 k h2) λq s1 k _ h2=>⟨k.sub λt ht=>by rw[mS];exact CO _ ht,h2⟩|_=>exact pl h1
 where pQ:∀{l:List Oper} {s:St} {K K' :Out->St->Prop},eM P c all l s K->(∀e s,K e s->K' e s)->eM P c all l s K'
  |[],s,K,K',hk,h=>h _ _ hk
  |o::l,s,K,K',hk,h=>by
   rw[tu]at hk ⊢;refine qN hk (λh1=> ?_) (λh1=>pQ h1 h);have nx:∀s1,(norm o.dst (cu P o (cY P s)) s1 λs' =>eM P c all l s' K)->norm o.dst (cu P o (cY P s)) s1 λs' =>eM P c all l s' K' :=λs1 h2=>by rw[norm_eq]at h2 ⊢;exact pQ h2 h
   have pl:aC P c o.dst s (λs1=>norm o.dst (cu P o (cY P s)) s1 λs' =>eM P c all l s' K) (cu P o (cY P s))->
    aC P c o.dst s (λs1=>norm o.dst (cu P o (cY P s)) s1 λs' =>eM P c all l s' K') (cu P o (cY P s)):=λh1=>
    qX h1 λs1 _ _ h2=>nx s1 h2
   revert h1 nx pl;generalize cu P o (cY P s)=p;generalize lD o=b;intro h1 nx pl;cases b with
   |false=>
    cases p with
    |Ek es nl ne=>cases nl with|true=>exact pl h1|false=>exact⟨λe=>nx _ (h1.t e),nx _ h1.f⟩
    |_=>exact pl h1
   |true=>
    cases p with
    |yield ly args=>simp only[OM]at h1 ⊢;split at h1;refine j9 h1 λs1 ds h2=> ?_;exact⟨h2.h,nx _ h2.k.a,nx _ h2.k.b⟩;exact jx|yS f args=>simp only[OM]at h1 ⊢;split at h1;refine j9 h1 λs1 ds h2=> ?_;obtain⟨Q,q1,q2⟩:=h2.out;exact⟨Q,q1,DC (λr y hQ=>nx _ hQ) q2⟩;exact jx
    |call f args=>exact vL h1 (λs1 _ _ h2=>nx s1 h2) λq s1 _ _ h2=>h _ _ h2|_=>exact pl h1
theorem tD{V W:List Nat}:∀{ad:List Ad} {s:St} {K:St->Prop},kr V W ad s K->kr V W ad s λs' =>s'.y=s.y∧K s'
 |[],s,K,hk=>⟨rfl,hk⟩
 | .tmp t k::ad,s,K,hk=>by
   rw[ng]at hk ⊢
   split at hk
   ·split at hk
    ·exact tD (K:=K) hk
    ·exact aq
   ·exact aq
 | .cell l j k::ad,s,K,hk=>by
   rw[lI]at hk ⊢
   split at hk
   ·split at hk
    ·split at hk
     ·exact tD (K:=K) hk
     ·exact aq
    ·exact aq
   ·exact aq
 | .lay t::ad,s,K,hk=>by
   rw[ni]at hk ⊢
   split at hk
   ·split at hk
    ·refine oT (oU hk) λs1 d1 ⟨k1,h1⟩=> ?_
     have:=tD (K:=K) h1
     rw[<-k1.y];exact dj
    ·exact aq
   ·exact aq
 | .aS l j::ad,s,K,hk=>by
   rw[ir]at hk ⊢
   split at hk
   ·split at hk
    ·refine mw (my hk) λs1 d1 ⟨k1,h1⟩=> ?_
     split at h1
     ·exact jx
     ·have:=tD (K:=K) h1
      rw[<-k1.y];exact dj
    ·exact aq
   ·exact aq
 | .nest t k::ad,s,K,hk=>by
   rw[lF]at hk ⊢
   split at hk
   ·split at hk
    ·split at hk
     ·exact KW
     ·exact aq
    ·exact aq
   ·exact aq
 | .Hr t::ad,s,K,hk=>by
   rw[lG]at hk ⊢
   split at hk
   ·split at hk
    ·split at hk
     ·exact KW
     ·exact aq
    ·exact aq
   ·exact aq
 | .uj l j::ad,s,K,hk=>by
   rw[gJ]at hk ⊢
   split at hk
   ·split at hk
    ·split at hk
     ·split at hk
      ·exact KW
      ·exact aq
     ·exact aq
    ·exact aq
   ·exact aq
open Classical in
theorem mD(hm:P.follows .mixedOrders=true)(hok:v8 P c){M:Option (Mode P c)}:∀(code:Code) {ro:Option Nat} {n:Nat} {cx:Cx},ux P cx.n code=true->(qJ code=true∨ro=none)->∀(s:St) (K:Out->St->Prop) (g:Gh) (a:Act) (w:World) (Q:Go.Exit->Act->World->Prop),ex P c code s K->Rel cx g s a w->YOk M cx s.y->Nm s->(∀e s' gX g' a' w',K e s' ->bW (gH c.hint code) s s' ->OO cx gX s.y (qJ code)->YOk M gX s'.y->Ext g g' ->Rel gX g' s' a' w' ->Q (wH e) a' w')->code.wpIn (FW ro) n P Q a w
 | .skip,ro,n,cx,_,_,s,K,g,a,w,Q,hk,h,hy,hn,hq=>wpIn_skip (hq .normal s cx g a w hk (bW.refl _ _) (.refl _ _ _) hy (Ext.refl g) h)| .label l,ro,n,cx,_,_,s,K,g,a,w,Q,hk,h,hy,hn,hq=>wpIn_label (hq .normal s cx g a w hk (bW.refl _ _) (.refl _ _ _) hy (Ext.refl g) h)
 | .region id ops d,ro,n,cx,hB,_,s,K,g,a,w,Q,hk,h,hy,hn,hq=>by
   rw[YA]at hk
   obtain⟨s0,g0,⟨ey,hk⟩,hg0,h,kp⟩:=gI (U:=gH c.hint (.region id ops d)) (λ_ h=>h) (λ_ h=>h) (tD hk) h
   have sub:∀t∈(ops.toList.flatMap λo=>dg o.dst),t∈gH c.hint (.region id ops d):=λt ht=>zt _ ht
   have mode:(∃t,d=true∧WY P c ops.toList (gH c.hint (.region id ops d)) t s0 λq s' =>K (.Ej q) s')∨(match d with
    |true=>xq P c ops.toList ops.toList [] s0 λrs s' =>Rh (oV ops.toList rs.reverse) (eqP ops.toList rs.reverse (K .normal s'))
    |false=>eM P c ops.toList ops.toList s0 K):=by
    cases d with
    |false=>exact .inr hk
    |true=>
     dsimp only at hk
     unfold S_ at hk
     split at hk
     ·exact .inr hk
     ·rcases hk.out with q|q
      ·exact .inr q
      ·exact .inl ⟨_,rfl,q⟩
     ·exact aq
   rcases mode with⟨t,rfl,hp⟩|hk
   ·exact XT hm hB hok hp (λo ho t ht=>sub t (Fk.2 ⟨o,ho,kz.2 ht⟩)) h λq s' g' a' w' k1 k2 k3 k4 k5=>hq (.Ej q) s' cx g' a' w' k1 (kp.trans k2 (λ_ h=>h) (λ_ h=>h)) (.refl _ _ _) (by rw[k3,ey];exact hy) (hg0.trans k4) k5
   refine Nz (K:=λe s' =>bW (gH c.hint (.region id ops d)) s s' ∧K e s') hm hB hok ?_ h (by rw[ey];exact hy) λe s' gX g' a' w' k1 k2 k3 k4 k5=>hq e s' gX g' a' w' k1.2 k1.1 (OO.of (by rw[<-ey];exact k2)) k3 (hg0.trans k4) k5
   cases d with
   |true=>
    dsimp only at hk ⊢
    rw[Cj]at hk
    refine oW hk λrs s' k1 h1=>⟨h1.h,(F0 h1.k).2 _ ⟨kp.trans k1 (λ_ h=>h) sub,(F0 h1.k).1⟩⟩
   |false=>
    dsimp only at hk ⊢
    exact tt.pQ (tt hk) λe s' h1=>⟨kp.trans h1.1 (λ_ h=>h) sub,h1.2⟩
 | .seq x y,ro,n,cx,hB,hr,s,K,g,a,w,Q,hk,h,hy,hn,hq=>by
   unfold ux at hB
   rw[aX]at hB
   have hr1:qJ x=true∨ro=none:=hr.imp (λe=>zl) id
   have hr2:qJ y=true∨ro=none:=hr.imp (λe=>Ld) id
   rw[aoi]at hk
   refine wpIn_seq (mD hm hok x hB.1 hr1 s _ g a w _ hk h hy hn λe s' gX g' a' w' h1 h2 h3 hy' h4 h5=> ?_)
   have up:bW (gH c.hint (.seq x y)) s s' :=h2.sub (λt ht=>yd)
   have R8:∀{s'' :Bool},qJ (.seq x y)=true->qJ x=true:=λe=>zl
   cases e with
   |normal=>
    refine mD hm hok y (by rw[h3.n];exact hB.2) hr2 s' _ g' a' w' _ h1 h5 hy' (h2.nm hn) λe s'' av4 g'' a'' w'' k1 k2 k3 ky k4 k5=>hq e s'' av4 g'' a'' w'' k1 ?_ ?_ ky (h4.trans k4) k5
    ·exact h2.trans k2 (λt ht=>yd) (λt ht=>yd)
    ·exact h3.trans k3 h2.y
   |exit id=>exact hq (.exit id) s' gX g' a' w' h1 up (h3.R8 (λe=>zl)) hy' h4 h5
   |ret=>exact hq .ret s' gX g' a' w' h1 up (h3.R8 (λe=>zl)) hy' h4 h5
   |Ej q=>exact hq (.Ej q) s' gX g' a' w' h1 up (h3.R8 (λe=>zl)) hy' h4 h5
 | .cond x y z,ro,n,cx,hB,hr,s,K,g,a,w,Q,hk,h,hy,hn,hq=>by
   unfold ux at hB
   rw[aX]at hB
   have hr1:qJ y=true∨ro=none:=hr.imp (λe=>zl) id
   have hr2:qJ z=true∨ro=none:=hr.imp (λe=>Ld) id
   rw[aj9]at hk
   split at hk
   ·rename_i t ht
    have hb:a.eval x= .bool t:=by
     have key:∀{v:Value},bD g v (.bool t)->v= .bool t:=λ{v} hr=>by
      cases hr with
      |pure r=>cases r;rfl
     exact key (h.get ht)
    refine wpIn_cond_split hb (λe=> ?_) (λe=> ?_)
    ·exact mD hm hok y hB.1 hr1 s K g a w Q (hk.t e) h hy hn λe s' gX g' a' w' h1 h2 h3 hy' h4 h5=>hq e s' gX g' a' w' h1 (h2.sub (λt ht=>yd)) (h3.R8 (λe=>zl)) hy' h4 h5
    ·exact mD hm hok z hB.2 hr2 s K g a w Q (hk.f e) h hy hn λe s' gX g' a' w' h1 h2 h3 hy' h4 h5=>hq e s' gX g' a' w' h1 (h2.sub (λt ht=>yd)) (h3.R8 (λe=>Ld)) hy' h4 h5
   ·exact aq
 | .block id b,ro,n,cx,hB,hr,s,K,g,a,w,Q,hk,h,hy,hn,hq=>by
   rw[af8]at hk
   refine wpIn_block (mD hm hok b hB hr s _ g a w _ hk h hy hn λe s' gX g' a' w' h1 h2 h3 hy' h4 h5=> ?_)
   cases e with
   |normal=>exact TP
   |ret=>exact hq .ret s' gX g' a' w' h1 h2 h3 hy' h4 h5
   |Ej q=>exact hq (.Ej q) s' gX g' a' w' h1 h2 h3 hy' h4 h5
   |exit i=>
    show if i=id then Q .normal a' w' else Q (.exit i) a' w'
    dsimp only at h1
    split at h1
    ·rename_i hi
     rw[ak (dw hi)]
     exact TP
    ·rename_i hi
     rw[Z (λe=>by subst e;simp at hi)]
     exact hq (.exit i) s' gX g' a' w' h1 h2 h3 hy' h4 h5
 | .exit id,ro,n,cx,_,_,s,K,g,a,w,Q,hk,h,hy,hn,hq=>wpIn_exit (hq (.exit id) s cx g a w hk (bW.refl _ _) (.refl _ _ _) hy (Ext.refl g) h)| .ret,ro,n,cx,_,_,s,K,g,a,w,Q,hk,h,hy,hn,hq=>wpIn_ret (hq .ret s cx g a w hk (bW.refl _ _) (.refl _ _ _) hy (Ext.refl g) h)
 | .loop b,ro,n,cx,hB,hr,s,K,g,a,w,Q,hk,h,hy,hn,hq=>by
   rw[aj8]at hk
   obtain⟨ad,hk⟩:=hk.out
   have sub:∀t∈gH c.hint b,t∈gH c.hint (.loop b):=λt ht=>yd
   obtain⟨s1,g0,⟨ey,hk⟩,hg0,h,kp⟩:=gI (U:=gH c.hint (.loop b)) (qF aa1) sub (tD hk) h
   rw[<-ey]at hy
   have hq:∀e s' gX g' a' w',K e s' ->bW (gH c.hint (.loop b)) s s' ->OO cx gX s1.y (qJ b)->YOk M gX s'.y->Ext g g' ->Rel gX g' s' a' w' ->Q (wH e) a' w' :=by rw[ey];exact hq
   have hn:=kp.nm hn
   obtain⟨ι,i0,m,ys,μ,⟨hy0,hh⟩,hdH,hdR,hall⟩:=hk.out
   have fit:∀i,Fit (gH c.hint b) s1 (m i):=λi=>⟨(hall i).1.1,(hall i).1.2.1,(hall i).1.2.2⟩
   let J:Act->World->Nat->Prop:=λa w j=>∃i g' gX,μ i=j∧Ext g0 g' ∧OO cx gX s1.y (qJ b)∧(s1.y= .off->ys i= .off)∧YOk M gX (ys i)∧Rel gX g' (s1.with (gH c.hint b) (m i)) a w
   let ν:Act->World->Nat:=λa w=>if hx:∃j,J a w j then(least hx).choose else 0
   have Tz:∀a w,(∃j,J a w j)->J a w (ν a w)∧∀i,i<ν a w->¬J a w i:=λa w hx=>by
    show J a w (if hx:∃j,J a w j then(least hx).choose else 0)∧∀i,i<(if hx:∃j,J a w j then(least hx).choose else 0)->¬J a w i
    rw[dif_pos hx]
    exact(least hx).choose_spec
   refine wpIn_loop (λa w=>∃j,J a w j) ν ⟨_,i0,g0,cx,rfl,Ext.refl g0,.refl _ _ _,λe=>hy0.trans e,by rw[hy0];exact hy,Hk h hn (fit i0) hh⟩ λa1 w1 h1=> ?_
   obtain⟨⟨i,g1,Te,x2,x3,xc,xo,xy,x4⟩,_⟩:=Tz a1 w1 h1
   have hf:=fit i
   have knm:Nm ((s1.with (gH c.hint b) (m i)).at (ys i)):=(yq hf).nm hn
   refine mD hm hok b (by rw[xc.n];exact hB) hr _ _ g1 a1 w1 _ (hall i).2 (x4.Y3 _) xy knm λe s' gX g' a' w' k1 k2 k3 ky k4 k5=> ?_
   have k2' :bW (gH c.hint b) (s1.with (gH c.hint b) (m i)) s' :=⟨k2.env,k2.H,k2.R,k2.kl,k2.kj,k2.nm,λe=>k2.y (xo e)⟩
   have up:bW (gH c.hint (.loop b)) _ s' :=kp.trans ((yq hf).trans k2' (λ_ h=>h) (λ_ h=>h)) (λ_ h=>h) sub
   have tc:OO cx gX s1.y (qJ b):=(xc.trans k3 xo).R8 (λe=>by rw[e];rfl)
   cases e with
   |normal=>
    dsimp only at k1
    obtain⟨j,hlt,hyj,hh'⟩:=k1
    obtain⟨g2,y1,y2,_⟩:=Hj h (x3.trans k4) k5 hn hf (fit j) k2' hdH hdR hh'
    have hJ:J a' w' (μ j):=⟨j,g2,gX,rfl,y1,tc,λe=>by rw[<-hyj];exact k2.y (xo e),by rw[<-hyj];exact ky,y2⟩
    refine⟨⟨_,hJ⟩,?_⟩
    obtain⟨_,hmin⟩:=Tz a' w' ⟨_,hJ⟩
    have:¬(μ j<ν a' w'):=λhx=>hmin _ hx hJ
    omega
   |exit id=>exact hq (.exit id) s' gX g' a' w' k1 up tc ky (hg0.trans (x3.trans k4)) k5
   |ret=>exact hq .ret s' gX g' a' w' k1 up tc ky (hg0.trans (x3.trans k4)) k5
   |Ej q=>exact hq (.Ej q) s' gX g' a' w' k1 up tc ky (hg0.trans (x3.trans k4)) k5
 | .rangeFunc f ps x y,ro,n,cx,hB,hr,s,K,g,a,w,Q,hk,h,hy,hn,hq=>by
   unfold ux at hB
   simp only[aX,jW]at hB
   obtain⟨hps,hBx,hBy,hRx,hRy⟩:=hB
   have hro:ro=none:=hr.resolve_left (by simp[qJ])
   subst hro
   rw[Oj]at hk
   split at hk
   ·rename_i ho
    have hoff:s.y= .off:=by
     cases hx:s.y with
     |off=>rfl
     |run k=>rw[hx]at ho;cases ho
     |stop=>rw[hx]at ho;cases ho
    obtain⟨ad,hk⟩:=hk.out
    have sub:∀t∈ps.toList++(gH c.hint x++gH c.hint y),t∈gH c.hint (.rangeFunc f ps x y):=λt ht=>mT _ ht
    obtain⟨s1,g0,⟨ey,d,hx,hk⟩,hg0,h,kp⟩:=gI (U:=gH c.hint (.rangeFunc f ps x y)) (qF aa1) sub (tD hk) h
    have hM:M=none:=by rw[hoff]at hy;exact hy
    subst hM
    refine Pr hok (λt ht=>by have:=hps t ht;simpa[Nat.blt_eq]using this) (λl Te e1 n1 s2 K2 g2 a2 w2 Q2 j1 j2 j3 j4 j5=> ?_) (λl Te e1 n1 s2 K2 g2 a2 w2 Q2 j1 j2 j3 j4 j5=> ?_) (ey.trans hoff) hx h (kp.nm hn) hk
     (λe s' gX g' a' w' k1 k2 k3 k4 k5=>hq e s' gX g' a' w' k1 (kp.trans k2 (λ_ h=>h) sub) (by rw[hoff];exact k3) ?_ (hg0.trans k4) k5)
    ·refine mD (M:=none) hm hok x (by rw[e1];exact hBx) (.inl hRx) s2 K2 g2 a2 w2 Q2 j1 j2 (by rw[j3];rfl) j4 λe s' gX g' a' w' k1 k2 k3 k4 k5 k6=> ?_
     have:=k3.same j3 hRx
     subst this
     exact j5 e s' g' a' w' k1 k2 k5 k6
    ·refine mD (M:=none) hm hok y (by rw[e1];exact hBy) (.inl hRy) s2 K2 g2 a2 w2 Q2 j1 j2 (by rw[j3];rfl) j4 λe s' gX g' a' w' k1 k2 k3 k4 k5 k6=> ?_
     have:=k3.same j3 hRy
     subst this
     exact j5 e s' g' a' w' k1 k2 k5 k6
    ·rw[k2.y (ey.trans hoff)];rfl
   ·exact aq
 | .scope _,ro,n,cx,_,_,s,K,g,a,w,Q,hk,h,hy,hn,hq=>hk.elim| .goto _,ro,n,cx,_,_,s,K,g,a,w,Q,hk,h,hy,hn,hq=>hk.elim| .refuse _,ro,n,cx,_,_,s,K,g,a,w,Q,hk,h,hy,hn,hq=>hk.elim
end
def MF(h:G:=by subst e;rw[mn]at hu;cases hu):=h
def uD(h:G:=by rw[hg'];exact e1):=h
section
variable{P:Program}{cx:Cx}{a:Act}{w:World}
theorem y9(ls:List Nat):∀(ds:List au) {fs:List Bool} {g:Gh} {s:St} {ks:List Nat} (_:Rel cx g s a w) {K:St->List Nat->List au->Prop},qI s ks fs ds K->∃s' ks' ds' g',K s' ks' ds' ∧Laid cx g s a w s' g' ∧fh ks ks' ∧ds'.length=ds.length∧∀(i:Nat) d,nth ds i=some d->∃d',nth ds' i=some d' ∧Handed g' ls ks' g d d'
 |[],fs,g,s,ks,h,K,hk=>⟨s,ks,[],g,hk,Laid.refl h,fh.refl _,rfl,λi d hd=>qC⟩
 |d::ds,fs,g,s,ks,h,K,hk=>by
  have join:∀{s1:St} {nZ:List Nat} {d1:au} {g1:Gh},Laid cx g s a w s1 g1->fh ks nZ->Handed g1 ls nZ g d d1->
   qI s1 nZ fs.tail ds (λs ks ds=>K s ks (d1::ds))->
   ∃s' ks' ds' g',K s' ks' ds' ∧Laid cx g s a w s' g' ∧fh ks ks' ∧ds'.length=(d::ds).length∧∀(i:Nat) x,nth (d::ds) i=some x->∃d',nth ds' i=some d' ∧Handed g' ls ks' g x d' :=by
   intro s1 nZ d1 g1 l1 m1 hh hk;obtain⟨s2,su,ds2,g2,k2,l2,m2,n2,r2⟩:=y9 ls ds l1.rel hk;refine⟨s2,su,d1::ds2,g2,k2,l1.trans l2,m1.trans m2,sG,λi x hx=> ?_⟩;cases i with|zero=>simp[nth]at hx;subst hx;exact⟨d1,rfl,hh.mono l2.ext (ym _) m2.pre⟩|succ i=>exact Rx
  simp only[Pw,NB]at hk;split at hk;rename_i k n _;obtain⟨ks',d',h1,h2,h3⟩:=vH hk;exact join (Laid.refl h) h2 (Handed.row h.mem.fz h3 (Ext.refl g)) h1;obtain⟨ks',i,h1,h2,h3⟩:=vI hk;exact join (Laid.refl h) h2 (Handed.dQ h3 (Ext.refl g)) h1;obtain⟨ks',i,h1,h2,h3⟩:=tX hk;exact join (Laid.refl h) h2 (Handed.cQ h3 (Ext.refl g)) h1;exact Va
end
theorem G6(b:Nat):∀(n i:Nat),nth (mi b n) i=if i<n then some (b+i)else none
 |0,i=>by simp[mi,nth]
 |n+1,i=>by
  have len:∀n,(mi b n).length=n:=by intro n;induction n with|zero=>rfl|succ n ih=>simp[mi,ih]
  simp only[mi];rw[aJ];by_cases h:i<n;rw[lj (by rw[len];exact h),<-aJ,G6 b n i,ak h,ak E];rw[jn (by rw[len];omega),len];by_cases h2:i=n;subst h2;rw[ak E];simp;rw[Z E];rw[Bq az]
def He{b n x:Nat}:x∈mi b n↔b<=x∧x<b+n:=by induction n with|zero=>simp[mi]|succ n ih=>simp only[mi,dY,ih,gg];omega
theorem vB(b:Nat):∀n,(mi b n).Nodup|0=>yi|n+1=>by simp only[mi];rw[wt];refine⟨vB b n,O,λx hx y hy e=> ?_⟩;rw[He]at hx;simp at hy;omega
theorem J':∀(ds:List au) (n:Nat) (e:Nat->Option au) (l:Nat),DA ds n e l=if n<=l∧l<n+ds.length then nth ds (l - n)else e l|[],n,e,l=>by simp only[DA,kI,kH];rw[Z E]|d::ds,n,e,l=>by simp only[DA,fw];rw[J' ds (n+1) _ l];by_cases h1:n+1<=l∧l<n+1+ds.length;rw[ak h1,ak E,show l - n=(l - (n+1))+1 by omega];rfl;rw[Z h1];by_cases h2:l=n;subst h2;rw[bw,ak E];simp[nth];rw[aO _ _ _ _ h2,Z E]
def Sx(P:Program):List ResultVar->Bool|[]=>true| .tmp _::r=>Sx P r| .cell _ t::r=>oI P t&&Sx P r
def fnB(P:Program)(fn:Func)(n:Nat):Bool:=(match fn.body with|some c=>ux P fn.ntmps c|none=>false)&& !(fn.name== "runtime.NumGoroutine")&&Nat.ble n fn.ntmps&&Sx P fn.results.toList
def rd1(tmps:Array Value):ResultVar->Sem Value| .tmp t=>pure (tmps.getD t undef)| .cell a t=>do loadVar t (<-asAddr (tmps.getD a undef))
theorem GH{P:Program}{cx:Cx}{g:Gh}{s:St}{a:Act}{w:World}(h:Rel cx g s a w):∀{L:List ResultVar} (_:Sx P L=true) {ds:List au} (_:sV P s L=some ds),∃vs:List Value,(L.mapM (rd1 a.tmps)).run P w= .ok vs w∧vs.length=ds.length∧∀(i:Nat) v d,nth vs i=some v->nth ds i=some d->bD g v d
 |[],_,ds,hr=>by simp[sV]at hr;subst hr;exact⟨[],O,rfl,λi v d hv=>by simp[nth]at hv⟩
 | .tmp t::L,hb,ds,hr=>by
   simp only[sV]at hr
   split at hr
   ·rename_i d hd
    split at hr
    ·rename_i l hl
     cases hr
     obtain⟨vs,h1,h2,h3⟩:=GH h (L:=L) hb hl
     refine⟨a.tmps.getD t undef::vs,?_,by simp[h2],λi v x hv hx=> ?_⟩
     ·rw[List.mapM_cons]
      simp[rd1,h1]
     ·cases i with
      |zero=>cases hv;cases hx;exact h.env t _ hd
      |succ i=>exact h3 i v x hv hx
    ·cases hr
   ·cases hr
 | .cell b t::L,hb,ds,hr=>by
   have hb' :(oI P t&&Sx P L)=true:=hb
   rw[aX]at hb'
   simp only[sV]at hr
   split at hr
   ·rename_i l off he
    split at hr
    ·rename_i d hd
     split at hr
     ·rename_i c hc
      split at hr
      ·rename_i l' hl'
       cases hr
       obtain⟨vs,h1,h2,h3⟩:=GH h (L:=L) hb'.2 hl'
       obtain⟨wc,e1,e2⟩:=(h.env b _ he).vu
       obtain⟨blk',f1,f2,_⟩:=h.mem.box l d hd
       rw[e1]at f1;cases f1
       obtain⟨v,hv1,hv2⟩:=lP (P:=P) hb'.1 f2.OC hc
       rw[eI]at hv1
       refine⟨v::vs,?_,by simp[h2],λi y x hy hx=> ?_⟩
       ·rw[List.mapM_cons]
        have e3:(rd1 a.tmps (.cell b t)).run P w= .ok v w:=by
         show(asAddr (a.tmps.getD b undef)>>=λy=>loadVar t y).run P w=_
         rw[e2]
         simpa[asAddr]using hv1
        simp[e3,h1]
       ·cases i with
        |zero=>cases hy;cases hx;exact hv2
        |succ i=>exact h3 i y x hy hx
      ·cases hr
     ·cases hr
    ·cases hr
   ·cases hr
def Po{P:Program}{cx:Cx}{g:Gh}{s:St}{a:Act}{w:World}(h:Rel cx g s a w){fn:Func}(hb:Sx P fn.results.toList=true){ds:List au}(hr:sV P s fn.results.toList=some ds){g' :Gh}{ls ks:List Nat}{ds' :List au}(hlen:ds'.length=ds.length)(hh:∀(i:Nat) d,nth ds i=some d->∃d',nth ds' i=some d' ∧∀v,bD g v d->bD (g'.sub ls ks) v d'):∃v,(results fn a.tmps).run P w= .ok v w∧bD (g'.sub ls ks) v (WJ ds'):=by
 obtain⟨vs,h1,h2,h3⟩:=GH (P:=P) h hb hr;have e:(results fn a.tmps)=(fn.results.mapM (rd1 a.tmps))>>=λvs=>pure (if h:vs.size=1 then vs[0]else .tuple vs):=by unfold results;congr 1
 have e2:(fn.results.mapM (rd1 a.tmps)).run P w= .ok vs.toArray w:=by rw[Array.mapM_eq_mapM_toList];simp[h1]
 have all:∀(i:Nat) v d',nth vs i=some v->nth ds' i=some d' ->bD (g'.sub ls ks) v d' :=λi v d' hv hd=>by
  have hi:i<ds.length:=by have:=aH hd;omega
  obtain⟨d,hd0⟩:=bO hi;obtain⟨x,e1,e2⟩:=hh i d hd0;rw[hd]at e1;cases e1;exact e2 v (h3 i v d hv hd0)
 refine⟨if h:vs.toArray.size=1 then vs.toArray[0]else .tuple vs.toArray,by rw[e];simp[e2],?_⟩;have hl0:=h2.trans hlen.symm;clear e e2 h1 h2 h3;match vs,ds',hl0,all with|[],[],_,_=>exact .bS rfl λi v d hv hd=>by simp[nth]at hd|[v],[d],_,all=>exact all 0 v d rfl rfl|v1::v2::vs,d1::d2::ds,hl,all=>rw[dif_neg O];refine .bS qt λi v d hv hd=>all i v d (by rw[aJ];exact lK) hd
def aiq(args:List au)(m:Ct):Nm (init args m):=by
 refine⟨λl hl=> ?_,λk hk=> ?_⟩;show l∈mi 1000 m.H.length;have:lV m.H 1000 (λ_=>none) l≠none:=hl;rw[Ak]at this;split at this;cases hx:nth m.H (l - 1000)with|none=>exact absurd hx this|some d=>rw[He];have:=aH hx;omega
 exact absurd rfl this;show k∈mi 1000 m.R.length;have:mJ m.R 1000 (λ_=>none) k≠none:=hk;rw[zO]at this;split at this;cases hx:nth m.R (k - 1000)with|none=>exact absurd hx this|some d=>rw[He];have:=aH hx;omega
 exact absurd rfl this
def adp{n:Nat}{γ g:Gh}{w0 w:World}{s:St}{a:Act}(h:Rel (Cx.of n (γ.X) w0 (γ.I)) g s a w)(he:Ext γ g){args:List au}{m:Ct}(h0:Mem (Cx.of 0 (γ.X) w0 (γ.I)) γ (init args m) w0){su:List Nat}(pre:mi 1000 m.R.length<+:su)(nd:su.Nodup){H:List au}{R:List Row}(n1:H.length=(mi 1000 m.H.length).length)(r1:∀(i l:Nat),nth (mi 1000 m.H.length) i=some l->∃d d',s.H l=some d∧nth H i=some d' ∧pg s su d d')(hR:rowsOf s su=some R):Ext γ (g.sub (mi 1000 m.H.length) su)∧Mem (Cx.of 0 (γ.X) w0 (γ.I)) (g.sub (mi 1000 m.H.length) su) (init [] ⟨H,R⟩) w:=by
 have hRs:=pK s su hR;have mu1:∀l b,γ.mu l=some b->(g.sub (mi 1000 m.H.length) su).mu l=some b:=λl b hl=>by
  obtain⟨d,hd⟩:=h0.gx l b hl;have:lV m.H 1000 (λ_=>none) l=some d:=hd;rw[Ak]at this;split at this;rename_i hle;have hlt:=aH this;have hn:nth (mi 1000 m.H.length) (l - 1000)=some l:=by rw[G6,ak hlt,show 1000+(l - 1000)=l by omega]
  have e:=Nj g (ks:=su) hn;rw[show 1000+(l - 1000)=l by omega]at e;rw[e];exact he.mu l b hl;cases this
 have tv1:∀k t,γ.tv k=some t->∃t',(g.sub (mi 1000 m.H.length) su).tv k=some t' ∧t.Le t' :=λk t hk=>by
  obtain⟨d,hd⟩:=h0.gE k t hk;have:mJ m.R 1000 (λ_=>none) k=some d:=hd;rw[zO]at this;split at this;rename_i hle;have hlt:=aH this;have hn:nth (mi 1000 m.R.length) (k - 1000)=some k:=by rw[G6,ak hlt,show 1000+(k - 1000)=k by omega]
  have e:=zJ g (ls:=mi 1000 m.H.length) (lu pre hn);rw[show 1000+(k - 1000)=k by omega]at e;rw[e];exact he.tv k t hk;cases this
 refine⟨⟨he.I,mu1,tv1⟩,?_⟩;refine h.mem.sub (vB _ _) nd ⟨n1,r1⟩ hRs (λb hb=> ?_) (λb o x hx=> ?_) ?_ ?_ rfl rfl;rcases hb with⟨l,hl⟩|⟨k,t,hk,ht⟩;obtain⟨i,l',rfl,_,h4⟩:=j0 hl;obtain⟨d,hd⟩:=h.mem.gx l' b h4;obtain⟨b',e1,_,e3⟩:=h.mem.box l' d hd;rw[h4]at e1;cases e1;exact e3;obtain⟨i,k',rfl,_,h4⟩:=mV hk;obtain⟨r0,hr0⟩:=h.mem.gE k' t h4;obtain⟨t',e1,_,_,_,e5⟩:=h.mem.row k' r0 hr0;rw[h4]at e1;cases e1;exact(e5.wc ht).2.1;exact h.mem.kN b o x hx;exact h.mem.frame;exact h.mem.new
def JO{P:Program}{n:Nat}{γ g:Gh}{w0 w:World}{s:St}{a:Act}(h:Rel (Cx.of n (γ.X) w0 (γ.I)) g s a w)(he:Ext γ g){args:List au}{m:Ct}(h0:Mem (Cx.of 0 (γ.X) w0 (γ.I)) γ (init args m) w0){fn:Func}(hb:Sx P fn.results.toList=true){fs:List Bool}{r:au}{m' :Ct}(hf:fin P fs s fn.results.toList m.H.length m.R.length r m'):∃v,(results fn a.tmps).run P w= .ok v w∧∃γ',Ext γ γ' ∧bD γ' v r∧Mem (Cx.of 0 (γ.X) w0 (γ.I)) γ' (init [] m') w:=by
 unfold fin at hf;split at hf;exact hf.elim;rename_i ds hds;obtain⟨s2,nZ,ds2,g2,k1,l2,m1,n2,r2⟩:=y9 (mi 1000 m.H.length) ds h hf;obtain⟨su,H,k2,m2,n1,r1⟩:=oc s2 _ k1;split at k2
 rotate_left
 exact k2.elim;rename_i R hR;obtain⟨q1,q2⟩:=k2;obtain⟨v,v1,v2⟩:=Po (P:=P) h hb hds (g' :=g2) (ls:=mi 1000 m.H.length) (ks:=su) n2 λi d hd=>by obtain⟨d',e1,e2⟩:=r2 i d hd;exact⟨d',e1,e2 g2 _ _ (Ext.refl _) (ym _) m2.pre⟩
 have pre:mi 1000 m.R.length<+:su:=m1.pre.trans m2.pre;have nd:su.Nodup:=m2.nodup (m1.nodup (vB _ _));obtain⟨z1,z2⟩:=adp l2.rel (he.trans l2.ext) h0 pre nd n1 r1 hR;subst q2;exact⟨v,v1,_,z1,q1▸v2,z2⟩
def S7{n:Nat}{γ g:Gh}{w0 w:World}{s:St}{a:Act}(h:Rel (Cx.of n (γ.X) w0 (γ.I)) g s a w)(he:Ext γ g){args:List au}{m:Ct}(h0:Mem (Cx.of 0 (γ.X) w0 (γ.I)) γ (init args m) w0){q:Nat}{r:au}{m' :Ct}(hf:aoa s q m.H.length m.R.length r m'):∃γ' q',Ext γ γ' ∧rT r=some q' ∧qh q=qh q' ∧Mem (Cx.of 0 (γ.X) w0 (γ.I)) γ' (init [] m') w:=by
 unfold aoa at hf;obtain⟨su,H,k2,m2,n1,r1⟩:=oc s _ hf;split at k2
 rotate_left
 exact k2.elim;rename_i R hR;obtain⟨q1,q2⟩:=k2;obtain⟨z1,z2⟩:=adp h he h0 m2.pre (m2.nodup (vB _ _)) n1 r1 hR;subst q2 q1;exact⟨_,q,z1,by simp[rT,vw],rfl,z2⟩
def shut(w:World)(bs:List Nat):World:=bs.foldl (λw b=>w.putObj b (.deferred none)) w
def Jg(bs:List Nat):∀w,(shut w bs).heap.size=w.heap.size:=by induction bs with|nil=>intro w;rfl|cons b bs ih=>intro w;show(shut (w.putObj b _) bs).heap.size=_;rw[ih];simp
def zL(bs:List Nat):∀(w:World) (b:Nat),b∉bs->(shut w bs).heap[b]? =w.heap[b]? :=by induction bs with|nil=>intro w b _;rfl|cons x bs ih=>intro w b hb;rw[b_,not_or]at hb;show(shut (w.putObj x _) bs).heap[b]? =_;rw[ih _ _ hb.2];exact World.putObj_heap_other hb.1
def Sp(bs:List Nat):∀(w:World),Frame w (shut w bs) (λb=>b∈bs):=by induction bs with|nil=>intro w;exact Frame.refl _ _|cons x bs ih=>intro w;have h1:Frame w (w.putObj x (.deferred none)) (λb=>b∈x::bs):=⟨rfl,rfl,rfl,O,λb _ hb=>World.putObj_heap_other (λe=>hb uK)⟩;exact h1.trans ((ih _).sub λb _ hb=>mT _ hb)
theorem D2{P:Program}{n:Nat}{fn:Func}{tmps:Array Value}{R:Ending->World->Prop}:∀(bs:List Nat) (w:World),bs.Nodup->(∀b∈bs,w.heap[b]? =some (.deferred (some [])))->(∃v,(results fn tmps).run P (shut w bs)= .ok v (shut w bs)∧R (.returned v) (shut w bs))->LeavesInM (FW none) n P fn tmps R (bs.map zY) .returning w|[],w,_,_,h=>h|b::bs,w,hn,hb,h=>by rw[uR]at hn;refine⟨(λe=>bK),.inl ⟨b,w.putObj b (.deferred none),rfl,run_takeDeferred (hb b O),D2 bs _ hn.2 (λx hx=> ?_) h⟩⟩;rw[World.putObj_heap_other (λe=>hn.1 (by rw[<-e];exact hx))];exact hb x (mT _ hx)
def HP{l:Nat}{d x:au}:cells (aj0 l d x)=(cells x).map (fixC l d):=by
 by_cases h:∃cs,x= .agg cs;obtain⟨cs,rfl⟩:=h;rfl;have h1:∀cs,x≠.agg cs:=λcs e=>h ⟨cs,e⟩;by_cases hm:(∃k v,x= .me k v)∨x= .md;rcases hm with⟨k,v,rfl⟩|rfl<;>rfl
 by_cases hm2:(∃k,x= .own k)∨∃k,x= .shr k;rcases hm2 with⟨k,rfl⟩|⟨k,rfl⟩<;>rfl;have e1:aj0 l d x=fixC l d x:=by cases x<;>first|rfl|exact absurd rfl (h1 _)
 have e2:cells x=[x]:=by cases x<;>first|rfl|exact absurd rfl (h1 _)|exact absurd (.inl ⟨_,_,rfl⟩) hm|exact absurd (.inr rfl) hm|exact absurd (.inl ⟨_,rfl⟩) hm2|exact absurd (.inr ⟨_,rfl⟩) hm2
 have e3:cells (fixC l d x)=[fixC l d x]:=by cases x with|ptr k off=>simp only[fixC];cases Nat.beq k l<;>rfl|jw k off=>simp only[fixC];cases Nat.beq k l<;>rfl|gD f a b=>simp only[fixC];split<;>rfl|agg cs=>exact absurd rfl (h1 _)|me k v=>exact absurd (.inl ⟨_,_,rfl⟩) hm|md=>exact absurd (.inr rfl) hm|own k=>exact absurd (.inl ⟨_,rfl⟩) hm2|shr k=>exact absurd (.inr ⟨_,rfl⟩) hm2|_=>rfl
 rw[e1,e2,e3];rfl
theorem S6{cx:Cx}{g:Gh}{s:St}{a:Act}{w:World}(h:Rel cx g s a w){l:Nat}{d:au}(hl:s.H l=some d){K:St->Prop}(hk:aj2 s l d K):∃s' g',K s' ∧Rel cx g' s' a w∧ku g.I g'.I∧(∀k,1000<=k->g'.mu k=g.mu k)∧g'.tv=g.tv:=by
 unfold aj2 at hk;split at hk
 rotate_left
 exact aq;rename_i hp;rw[aX]at hp;obtain⟨hp,hlt⟩:=hp;have hlt:l<1000:=by simpa[Nat.blt_eq]using hlt
 obtain⟨b,hb,hbox,te⟩:=h.mem.box l d hl;obtain⟨c,et,fz,c1,c2,c3,c4⟩:=hbox;obtain⟨g',hg'⟩:∃g' :Gh,g' ={I:=λx o=>if x=b then c[o]? else g.I x o,mu:=aW g.mu l none,tv:=g.tv}:=⟨_,rfl⟩;have I1:∀o,g'.I b o=c[o]? :=λo=>by rw[hg'];simp
 have I2:∀x o,x≠b->g'.I x o=g.I x o:=λx o e=>by rw[hg'];simp[e]
 have hs:ku g.I g'.I:=λx o v e=>by by_cases hx:x=b;subst hx;rw[h.mem.F3 l x hb o]at e;cases e;rw[I2 x o hx];exact e
 have ml:∀k,k≠l->g'.mu k=g.mu k:=λk e=>by rw[hg'];exact aO _ _ _ _ e
 have mn:g'.mu l=none:=by rw[hg'];exact bw _ _ _
 have cl:∀o v,c[o]? =some v->w.cell? ⟨b,o,none⟩=some v∧leaf v=true:=λo v e=>by
  refine⟨(ep c1).trans e,?_⟩;have:o<(cells d).length:=by rw[<-c3];exact(iX.1 e).1
  obtain⟨x,hx⟩:=bO this;exact(c4 o v x e hx).2
 have cells' :Cells g'.I w:=λx o v e=>by by_cases hx:x=b;subst hx;rw[I1]at e;exact cl o v e;rw[I2 x o hx]at e;exact h.mem.iw x o v e
 have pc:∀j x,nth (cells d) j=some x->ew x=true:=λj x hx=>zQ hp hx;have mA:∀off,bM g'.I (.pointer (some ⟨b,off,none⟩)) (.mA d off):=λoff=>by
  have:=bM.mA (I:=g'.I) b 0 off d (λj=>(c[j]?).getD undef) (λj x hx=>by
   have:j<c.size:=AA;rw[I1];simp[this]) (λj x hx=>by
   have hj:j<c.size:=AA;have e:c[j]? =some c[j]:=sH
   rw[e];exact(c4 j _ x e hx).2) (λj x hx=>by
   have hj:j<c.size:=AA;have e:c[j]? =some c[j]:=sH
   rw[e];exact(jF (pc j x hx) (c4 j _ x e hx).1).mono hs)
  rwa[eI]at this
 have fc:∀v x,leaf v=true∨(∀cs,x≠.agg cs)->(∀ds,x≠.bS ds)->bD g v x->bD g' v (fixC l d x):=λv x hv ht r=>by
  cases x with
  |ptr k off=>obtain⟨b',e1,e2⟩:=r.vu;simp only[fixC];cases hkl:Nat.beq k l with|true=>have:=dw hkl;subst this;rw[hb]at e1;cases e1;subst e2;exact .pure (mA off)|false=>have hne:k≠l:=λe=>(by subst e;simp at hkl);subst e2;exact .ptr (by rw[ml k hne];exact e1)
  |jw k off=>obtain⟨b',e1,e2⟩:=r.Gn;simp only[fixC];cases hkl:Nat.beq k l with|true=>subst e2;exact .pure (.any _ rfl)|false=>have hne:k≠l:=λe=>(by subst e;simp at hkl);subst e2;exact .jw (by rw[ml k hne];exact e1)
  |gD f x y=>simp only[fixC];split;rename_i hpp;exact .pure ((jF hpp r).mono hs);obtain⟨vf,vc,e,_⟩:=r.qR;subst e;exact .pure (.any _ rfl)
  |tT y=>obtain⟨b,x,e,_⟩:=r.NA;subst e;exact .pure (.any _ rfl)
  |ref k n=>obtain⟨t,e1,e2,e3,e4⟩:=r.nS;exact .ref t uD e2 e3 e4
  |dQ k=>cases r with|pure r=>cases r|dQ t e1 e2 e3=>exact .dQ t uD e2 e3
  |me k v=>exact absurd rfl (r.uf.1 _ _)|md=>exact absurd rfl r.uf.2|own x=>exact absurd rfl (r.G_.1 _)|shr x=>exact absurd rfl (r.G_.2 _)|cQ k n=>cases r with|pure r=>cases r|cQ t e1 e2 e3 e4 e5=>exact .cQ t uD e2 e3 e4 e5
  |j8 k n i=>cases r with|pure r=>cases r|j8 t e1 e2 e3 e4 e5=>exact .j8 t uD e2 e3 e4 e5
  |sub k j n=>cases r with|pure r=>cases r|sub t e1 e2 e3 e4=>exact .sub t uD e2 e3 e4
  |fT k j i=>cases r with|pure r=>cases r|fT t e1 e2 e3 e4=>exact .fT t uD e2 e3 e4
  |lit q n=>cases r with|pure r=>cases r|lit x e1 e2 e3=>obtain⟨t,q1,q2,q3,q4⟩:=e3.nS;exact .lit x (hs _ _ _ e1) e2 (.ref t (by rw[hg'];exact q1) q2 q3 q4)
  |iS k n i off=>cases r with|pure r=>cases r|iS t e1 e2 e3 e4 e5=>exact .iS t uD e2 e3 e4 e5
  |bS ds=>exact absurd rfl (ht _)
  |agg cs=>
   rcases hv with hv|hv;have:∃vs,v= .agg vs:=by cases r with|pure r=>cases r;exact nF|agg=>exact nF
   obtain⟨vs,rfl⟩:=this;cases hv;exact absurd rfl (hv _)
  |sl z es bb=>cases r with|pure r=>exact .pure (r.mono hs)
  |any=>cases r with|pure r=>exact .pure (r.mono hs)
  |_=>exact .pure ((jF rfl r).mono hs)
 refine⟨_,g',hk,⟨λt x ht=> ?_,h.size,h.defers,?_⟩,hs,λk hk=>ml k E,xW⟩
 ·dsimp only at ht;split at ht
  rotate_left
  cases ht;rename_i y hy;have r:=h.env t y hy;have other:(∀cs,y≠.agg cs)->(∀ds,y≠.bS ds)->aj1 l d y=some (fixC l d y)->bD g' (a.tmps.getD t undef) x:=λh1 h2 h3=>by rw[h3]at ht;cases ht;exact fc _ y (.inr h1) h2 r
  cases y with
  |gD f x1 y1=>
   simp only[aj1]at ht;split at ht;rename_i hok;cases ht;rw[aX,jW,jW]at hok;obtain⟨vf,vc,e,k1,k2,k3,k4⟩:=r.qR;rw[e];have one:∀v z,okC z=true->bD g v z->bD g' v (fixC l d z):=λv z hz rz=>by refine fc v z (.inr λcs e=> ?_) (λds e=> ?_) rz;subst e;simp[okC]at hz;subst e;simp[okC,ew]at hz
   refine .gD (by rw[k1];simp) (by rw[k2];simp) (λi v z hv hz=> ?_) (λi v z hv hz=> ?_);rw[c_]at hz;cases hq:nth x1 i with|none=>rw[hq]at hz;cases hz|some q=>rw[hq]at hz;cases hz;exact one v q (hok.1 q (dr hq)) (k3 i v q hv hq)
   rw[c_]at hz;cases hq:nth y1 i with|none=>rw[hq]at hz;cases hz|some q=>rw[hq]at hz;cases hz;exact one v q (hok.2 q (dr hq)) (k4 i v q hv hq)
   cases ht
  |agg cs=>simp only[aj1]at ht;split at ht;rename_i hpp;cases ht;exact .pure ((jF hpp r).mono hs);cases ht|bS ds=>cases ht|_=>exact other (by intro cs e;cases e) (by intro cs e;cases e) rfl
 ·have atn:∀{v:Value} {x:au},bM g.I v x->bM g'.I v x:=λr=>r.mono hs;refine⟨cells',λu x hx=> ?_,λu b' hu=> ?_,λu v b' h1 h2=> ?_,λu b' hu o=> ?_,λk r hr=> ?_,λk t hk=> ?_,λk j t u b' h1 h2 h3 h4=> ?_,λx o v e=> ?_,?_,h.mem.new⟩
  ·dsimp only at hx;cases hul:Nat.beq u l with
   |true=>rw[hul]at hx;cases hx
   |false=>
    rw[hul]at hx;dsimp only[cond]at hx;have hne:u≠l:=λe=>by subst e;simp at hul
    split at hx
    rotate_left
    cases hx;rename_i y hy;cases hx;obtain⟨b2,p1,p2,p3⟩:=h.mem.box u y hy;obtain⟨cc,t2,fz2,q1,q2,q3,q4⟩:=p2;refine⟨b2,by rw[ml u hne];exact p1,⟨cc,t2,fz2,q1,q2,by rw[q3,HP];simp,λi v z hv hz=> ?_⟩,p3⟩;rw[HP,c_]at hz;cases hq:nth (cells y) i with|none=>rw[hq]at hz;cases hz|some q=>rw[hq]at hz;cases hz;obtain⟨r1,r2⟩:=q4 i v q hv hq;refine⟨fc v q (.inl r2) (λds e=> ?_) r1,r2⟩;subst e;obtain⟨vs,e,_⟩:=r1.FE;subst e;cases r2
  have hne:u≠l:=λe=>MF;rw[ml u hne]at hu;obtain⟨x,hx⟩:=h.mem.gx u b' hu;have:Nat.beq u l=false:=H4 hne;exact⟨aj0 l d x,by dsimp only;rw[this];dsimp only[cond];rw[hx]⟩;have n1:u≠l:=λe=>(by subst e;rw[mn]at h1;cases h1);have n2:v≠l:=λe=>by subst e;rw[mn]at h2;cases h2
  rw[ml u n1]at h1;rw[ml v n2]at h2;exact h.mem.inj u v b' h1 h2;have n1:u≠l:=λe=>MF;rw[ml u n1]at hu;have hbb:b' ≠b:=λe=>by subst e;exact n1 (h.mem.inj u l b' hu hb)
  rw[I2 b' o hbb];exact h.mem.F3 u b' hu o;obtain⟨t,t1,t2,t3,t4,t5⟩:=h.mem.row k r hr;refine⟨t,by rw[hg'];exact t1,t2,t3,t4,?_⟩;refine t5.adj hs λb2 hb2=>⟨rfl,λu hu=> ?_,λj=>I2 b2 j λe=>by subst e;exact(t5.wc hb2).2.2 l hb⟩;have n1:u≠l:=λe=>MF
  rw[ml u n1]at hu;exact(t5.wc hb2).2.2 u hu;rw[hg']at hk;exact h.mem.gE k t hk;rw[hg']at h1 h2;exact h.mem.k_ k j t u b' h1 h2 h3 h4;by_cases hx:x=b;subst hx;exact .inr te;rw[I2 x o hx]at e;exact h.mem.kN x o v e;exact cx.st _ _ _ _ h.mem.frame hs (Frame.refl w _) cells' h.mem.new
theorem xi{cx:Cx}{a:Act}{w:World}:∀{ls:List Nat} {g:Gh} {s:St} (_:Rel cx g s a w) {K:St->Prop} (_:JN ls s K),∃s' g',K s' ∧Rel cx g' s' a w∧ku g.I g'.I∧(∀k,1000<=k->g'.mu k=g.mu k)∧g'.tv=g.tv|[],g,s,h,K,hk=>⟨s,g,hk,h,λ_ _ _ e=>e,λ_ _=>rfl,rfl⟩|l::ls,g,s,h,K,hk=>by rw[S5]at hk;split at hk;rename_i d hd;obtain⟨s1,g1,k1,h1,e1,e2,e3⟩:=S6 h hd hk;obtain⟨s2,g2,k2,h2,f1,f2,f3⟩:=xi h1 k1;exact⟨s2,g2,k2,h2,λ_ _ _ e=>f1 _ _ _ (e1 _ _ _ e),λk hk=>(f2 k hk).trans (e2 k hk),f3.trans e3⟩;exact aq
theorem aez{P:Program}(hm:P.follows .mixedOrders=true){cf:mN}(hok:v8 P cf){f:FuncId}{fn:Func}(hf:P.funcs[f]? =some fn){fs:List Bool}{args:List au}{m:Ct}{r:au}{m' :Ct}(hB:fnB P fn args.length=true)(hx:exF P cf fs fn args m r m'):aj P f args m r m' :=by
 unfold fnB at hB;simp only[aX]at hB;obtain⟨⟨⟨hB1,hB2⟩,hB3⟩,hB4⟩:=hB;unfold exF at hx;cases hbody:fn.body with
 |none=>rw[hbody]at hx;exact hx.elim
 |some c=>
  rw[hbody]at hx hB1;dsimp only at hx hB1;refine⟨⟨fn,hf,by rw[hbody];rfl,by simpa using hB2⟩,λγ w vs hsz hrep hmem=> ?_⟩;have hle:args.length<=fn.ntmps:=pX hB3;have hrel:Rel (Cx.of fn.ntmps γ.X w γ.I) γ (init args m) {tmps:=vs++Array.replicate (fn.ntmps - vs.size) undef,defers:=[]} w:=by
   refine⟨λt d ht=> ?_,by simp[Cx.of];omega,rfl,⟨hmem.iw,hmem.box,hmem.gx,hmem.inj,hmem.F3,(λk r hr=>let ⟨t,t1,t2,t3,t4,t5⟩:=hmem.row k r hr;⟨t,t1,t2,t3,t4,jk.dX (cx:=Cx.of 0 γ.X w γ.I) (λ_ _ h=>h) t5⟩),hmem.gE,hmem.k_,hmem.kN,hmem.frame,hmem.new⟩⟩;have ht' :DA args 0 (λ_=>none) t=some d:=ht;rw[J']at ht';split at ht';rename_i hlt;have hlt' :t<vs.size:=E
   have e:(vs++Array.replicate (fn.ntmps - vs.size) undef).getD t undef=vs[t]:=(by simp[Array.getD,show t<vs.size+(fn.ntmps - vs.size) by omega,hlt']);show bD γ ((vs++Array.replicate (fn.ntmps - vs.size) undef).getD t undef) d;rw[e];exact hrep t _ d (by simp[hlt']) (by simpa using ht');cases ht'
  refine(callsIn_wide (n:=0)).1 (callsIn_of_wp_marks (F:=FW none) hf hbody trivial (mD hm hok (M:=none) (cx:=Cx.of fn.ntmps γ.X w γ.I) c hB1 (.inr rfl) _ _ γ _ w _ hx hrel rfl (aiq _ _) λe s' gX g' a' w' k1 k2 k3 k4 k5 k6=> ?_));have as9:∀{g1 g2:Gh},Ext γ g1->ku g1.I g2.I->(∀l,1000<=l->g2.mu l=g1.mu l)->g2.tv=g1.tv->Ext γ g2:=by intro g1 g2 k5 h3 h4 h5;refine⟨λb o v e=>h3 _ _ _ (k5.I _ _ _ e),λl b e=> ?_,λk t e=>by rw[h5];exact k5.tv k t e⟩;obtain⟨d,hd⟩:=hmem.gx l b e;have:lV m.H 1000 (λ_=>none) l=some d:=hd;rw[Ak]at this;split at this;rename_i hle;rw[h4 l hle];exact k5.mu l b e;cases this
  have fin:∀{e:Go.Exit},(e= .normal∨e= .ret)->(kr [] [] (cf.hint 60000) s' λs=>JN cf.fix s λs=>fin P fs s fn.results.toList m.H.length m.R.length r m')->
   bodyPostM (FW none) 0 P fn (λe w' =>match e with
    | .returned v=>∃γ',Ext γ γ' ∧bD γ' v r∧Mem (Cx.of 0 γ.X w γ.I) γ' (init [] m') w'| .panicked ch=>∃γ' q,Ext γ γ' ∧rT r=some q∧ch=qh q∧Mem (Cx.of 0 γ.X w γ.I) γ' (init [] m') w'| .outgrown=>False) e a' w' :=λ{e} he hk=>by
   obtain⟨bs,b1,b2,b3,b4⟩:=k3.D rfl w.heap.size (λI w' (hw:Frame w w' γ.X)=>hw.size) ⟨[],rfl,yi,(λ_ _ _ b hb=>(by cases hb)),λb hb=>(by cases hb)⟩;have hf0:Frame w w' γ.X:=k3.fr rfl _ _ k6.mem.frame;have hb3:=b3 _ _ k6.mem.frame;have hn0:gX.n=fn.ntmps:=k3.n;have au4:∀b o v,g'.I b o=some v->b∉bs:=λb o v e hb=>by obtain⟨_,_,_,h⟩:=sf (k6.mem.iw b o v e).1 (hb3 b hb).2;cases h
   have cl:Cells g'.I (shut w' bs):=λb o v e=>⟨(fJ (zL bs w' b (au4 b o v e))).trans (k6.mem.iw b o v e).1,(k6.mem.iw b o v e).2⟩;have fr1:Frame w (shut w' bs) γ.X:=by have h1:=Sp bs w';refine⟨h1.os.trans hf0.os,h1.tape.trans hf0.tape,h1.output.trans hf0.output,by rw[Jg];exact hf0.size,λb hb hX=> ?_⟩;rw[zL bs w' b (λhm=>by have:=(hb3 b hm).1;omega)];exact hf0.block b hb hX
   have au0:Rel (Cx.of fn.ntmps γ.X w γ.I) g' s' {a' with defers:=[]} (shut w' bs):=(by refine⟨k6.env,by rw[<-hn0];exact k6.size,rfl,?_⟩;exact k6.mem.after (I' :=g'.I) (λ_ _ _ e=>e) cl (λb _ hb=>zL bs w' b (λhm=>b4 b hm hb)) (λb o v e _ _=>e) (λb _ hb=>k3.dX rfl b hb) (λb o v e=>(k6.mem.kN b o v e).imp (λq=>by rw[<-k3.I0 rfl];exact q) (k3.dX rfl b)) fr1 (λb hb=>by rw[Jg]at hb;exact k3.dX rfl b (k6.mem.new b hb)));obtain⟨s3,g3,hk3,x3,ai1,_⟩:=gI (U:=[]) (λk h=>ie) (λt h=>ie) hk au0;obtain⟨s2,g2,h1,h2,h3,h4,h5⟩:=xi ai1 hk3;have HH:=as9 (k5.trans x3) h3 h4 h5;obtain⟨v,v1,v2⟩:=JO (P:=P) h2 HH hmem hB4 h1
   have hlv:LeavesInM (FW none) 0 P fn a'.tmps (λe w' =>match e with
    | .returned v=>∃γ',Ext γ γ' ∧bD γ' v r∧Mem (Cx.of 0 γ.X w γ.I) γ' (init [] m') w'| .panicked ch=>∃γ' q,Ext γ γ' ∧rT r=some q∧ch=qh q∧Mem (Cx.of 0 γ.X w γ.I) γ' (init [] m') w'| .outgrown=>False) a'.defers .returning w' :=by
    rw[k6.defers,b1];exact D2 bs w' b2 (λb hb=>(hb3 b hb).2) ⟨v,v1,v2⟩
   rcases he with rfl|rfl;exact hlv;exact hlv
  cases e with
  |exit id=>exact iN|Ej q=>have ec:gX =Cx.of fn.ntmps γ.X w γ.I:=k3.same rfl k1.h;subst ec;obtain⟨s2,g2,h1,h2,h3,h4,h5⟩:=xi k6 k1.k;show LeavesInM (FW none) 0 P fn a'.tmps _ a'.defers (.panicking (qh q)) w';rw[show a'.defers=[] from k6.defers];exact S7 h2 (as9 k5 h3 h4 h5) hmem h1
  |normal=>exact fin (.inl rfl) k1|ret=>exact fin (.inr rfl) k1
def cfA(P:Program)(f_:FuncId->Bool)(hint:Nat->List Ad:=λ_=>[])(fix:List Nat:=[]):mN:=⟨f_,aj P,hint,fix,0,[],λ_ _ _ _=>False,alp P⟩
def d_{P:Program}(hm:P.follows .mixedOrders=true){f:FuncId}{fn:Func}(hf:P.funcs[f]? =some fn)(f_:FuncId->Bool)(fs:List Bool)(hint:Nat->List Ad){args:List au}{m:Ct}{r:au}{m' :Ct}(hB:fnB P fn args.length=true)(hx:exF P (cfA P f_ hint) fs fn args m r m'):aj P f args m r m' :=aez hm ⟨λ_ _ _ _ _ h=>h,λ_ _ _ _ h=>False.elim h,λ_ _ h=>h⟩ hf hB hx
def wrap_i64{x:Int}(h1: -(2^63)<=x)(h2:x<2^63):IntKind.i64.wrap x=x:=Ux
theorem Arith.i64{x:Int}{K:Int->Prop}(h1: -(2^63)<=x)(h2:x<2^63)(h:K x):Arith .i64 x K:=⟨by rw[wrap_i64 h1 h2];exact h⟩
def Arith.to{x y:Int}{K:Int->Prop}(e:x=y)(h1: -(2^63)<=y)(h2:y<2^63)(h:K y):Arith .i64 x K:=by subst e;exact .i64 h1 h2 h
def bt.at{n:Nat}{es:List au}{i:Int}{K:au->Prop}{d:au}(h1:n=es.length)(h2:0<=i)(h3:nth es i.toNat=some d)(h:K d):bt n es i K:=⟨d,h1,h2,h3,h⟩
def gQ{α:Type}{l:List α}{i:Nat}(h:i<l.length):nth l i=some l[i]:=by rw[aJ];simp[h]
def aE{P:Program}{f:FuncId}{args:List au}{m:Ct}{K:au->Ct->Prop}{r:au}{m' :Ct}(h:aj P f args m r m')(k:K r m'):ah5 P (aj P) f args m K:=⟨r,m',h,k⟩
theorem bt.map{α:Type}{xs:List α}{f:α->au}{k:Nat}{n:Nat}{K:au->Prop}(hk:k<xs.length)(hn:n=(xs.map f).length)(h:K (f xs[k])):bt n (xs.map f) (k:Int) K:=⟨f xs[k],hn,E,by rw[c_,show((k:Int).toNat)=k from rfl,gQ hk];rfl,h⟩
def aY.nat{W:List Nat}{body:St->(Out->St->Prop)->Prop}{K:Out->St->Prop}{s:St}(n:Nat)(J:Nat->Prop)(m:Nat->we)(h0:J 0)(hh:Holds s (s.with W (m 0)) (m 0))(hd:zj s W=true)(hr:zi s (dm W)=true)(ht:∀k,tidy W (dm W) (m k)=true∧kl s (m k).H=true∧kj s (m k).R=true)(hb:∀k,k<=n->J k->body (s.with W (m k)) λe s' =>match e with| .normal=>∃j:{k // k<=n∧J k},n - j.1<n - k∧s'.y=s.y∧Holds s' (s.with W (m j.1)) (m j.1)|e=>K e s'):aY W body K s:=⟨{k // k<=n∧J k},⟨0,dM _,h0⟩,λk=>m k.1,λ_=>s.y,λk=>n - k.1,⟨rfl,hh⟩,hd,hr,λk=>⟨ht k.1,hb k.1 k.2.1 k.2.2⟩⟩
end Abs
namespace Abs
open Go Go.Proofs Go.Shelf Go.Sort Go.RowKit
variable{G:Prop}
def tG:=@Nat.one_ne_zero
def MR:=@Array.size_modify
def EU(h:G:=by rw[hw];rfl):=h
def yQ(n:Int):au:= .int .i64 n
def JM(l:List Int):(l.map yQ).flatMap cells=l.map yQ:=by induction l with|nil=>rfl|cons x l ih=>rw[oD,mS,ih];rfl
theorem row_one{γ:Gh}{w:World}{zs:List Int}{cx:Cx}(hm:Mem cx γ (init [.ref 1000 (zs.map yQ).length] ⟨[],[⟨1,true,zs.map yQ⟩]⟩) w){v:Value}(hv:bD γ v (.ref 1000 (zs.map yQ).length))(hne:zs≠[]):∃(t:Tv) (b:Nat) (c:Array Value) (e:TypeId) (fz:Nat×Nat),γ.tv 1000=some t∧t.sz=1∧t.n=zs.length∧t.base=some b∧v= .slice (some ⟨b,0,none⟩) zs.length t.cap∧t.n<=t.cap∧w.heap[b]? =some (.cells c e fz)∧Im fz c.size true∧t.cap<=c.size∧cx.dX b∧(∀l,γ.mu l≠some b)∧(∀j,γ.I b j=none)∧∀(j:Nat) (x:Int),zs[j]? =some x->c[j]? =some (Value.int .i64 x):=by
 obtain⟨t,h1,h2,h3,h4,h5⟩:=hm.row 1000 ⟨1,true,zs.map yQ⟩ rfl;obtain⟨t',k1,k2,k3,k4⟩:=hv.nS;rw[h1]at k1;cases k1;have h3' :t.n=zs.length:=qv
 have hv' :=k3 (by simp[h3']);have hnn:t.nest=false:=by cases hn:t.nest with|false=>rfl|true=>obtain⟨a,c,e⟩:=k4;unfold Tv.value at hv';rw[(h5.h tG hn).1]at hv';dsimp only at hv';rw[e]at hv';injection hv' with _ e3 _;simp at e3;exact absurd e3 hne
 have h5:=h5.o tG hnn;unfold jv at h5;cases hb:t.base with
 |none=>rw[hb]at h5;have:=h5.1;simp at this;exact absurd this hne
 |some b=>
  rw[hb]at h5;obtain⟨p1,p2,p3,c,e,fz,p4,p5,p6,p7,p8,p9⟩:=h5;refine⟨t,b,c,e,fz,h1,h2,h3',hb,?_,p1,p4,p5,by simpa using p6,p2,p3,p8 rfl,λj x hx=> ?_⟩;rw[hv'];unfold Tv.value;rw[hb];simp[h3'];have hn:nth ((zs.map yQ).flatMap cells) j=some (yQ x):=(by rw[JM,aJ,rI,hx];rfl);obtain⟨v,v1,v2,_⟩:=p9 j _ hn;have:v= .int .i64 x:=by cases v2;rfl
  rw[<-this];exact v1
def Qj{w:World}{b:Nat}{d:Array Int}{c:Array Value}{e:TypeId}{fz:Nat×Nat}(h:w.heap[b]? =some (.cells c e fz)):(putRow (Value.int .i64) w b 0 d).heap[b]? =some (.cells (putCells (Value.int .i64) 0 d c) e fz):=by
 have hlt:=cI h;show(w.heap.modify b _)[b]? =_;rw[kJ (by rw[MR];exact hlt),Array.getElem_modify_self];have:w.heap[b]= .cells c e fz:=by rw[kJ hlt]at h;exact Option.some.inj h
 exact nw
def HI{w:World}{b k:Nat}{d:Array Int}(h:k≠b):(putRow (Value.int .i64) w b 0 d).heap[k]? =w.heap[k]? :=by show(w.heap.modify b _)[k]? =_;by_cases hk:k<w.heap.size;rw[kJ (by rw[MR];exact hk),Array.getElem_modify_of_ne (gB h),kJ hk];rw[CT (by rw[MR];omega),CT E]
def JJ{w:World}{os:Array Obj}{k:Nat}(h:k<w.heap.size):(grow w os).heap[k]? =w.heap[k]? :=by show(w.heap++os)[k]? =_;rw[jC h]
def ac0{γ:Gh}{w w' :World}{zs ys:List Int}{X:Nat->Prop}(hX:X=γ.X)(hm:Mem (Cx.of 0 X w γ.I) γ (init [.ref 1000 (zs.map yQ).length] ⟨[],[⟨1,true,zs.map yQ⟩]⟩) w){t:Tv}{b:Nat}{c:Array Value}{e:TypeId}{fz:Nat×Nat}(h1:γ.tv 1000=some t)(hb:t.base=some b)(hn:t.n=zs.length)(hcap:t.n<=t.cap)(hc:w.heap[b]? =some (.cells c e fz))(hfz:Im fz c.size true)(hcs:t.cap<=c.size)(te:(Cx.of 0 X w γ.I).dX b)(hmu:∀l,γ.mu l≠some b)(hI:∀j,γ.I b j=none)(hlen:ys.length=zs.length)(q:Nat)(os:Array Obj)(hw:w' =grow (putRow (Value.int .i64) (Sort.ahead w q) b 0 ys.toArray) os)(own:Bool):∃γ' :Gh,Ext γ γ' ∧γ'.tv=γ.tv∧Mem (Cx.of 0 X w γ.I) γ' (init [] ⟨[],[⟨1,own,ys.map yQ⟩]⟩) w' ∧(own=false->∀j x,ys[j]? =some x->γ'.I b j=some (Value.int .i64 x)):=by
 have hb1:w'.heap[b]? =some (.cells (putCells (Value.int .i64) 0 ys.toArray c) e fz):=by rw[hw,JJ (by have:=cI hc;simpa[putRow,mapBlock,Sort.ahead]using this)];exact Qj (w:=Sort.ahead w q) hc
 have hsz:w.heap.size<=w'.heap.size:=by rw[hw];simp[grow,putRow,mapBlock,Sort.ahead]
 have hoth:∀k,k<w.heap.size->k≠b->w'.heap[k]? =w.heap[k]? :=λk hk hne=>by rw[hw,JJ (by simpa[putRow,mapBlock,Sort.ahead]using hk)];exact HI (w:=Sort.ahead w q) hne
 have hpc:∀j x,ys[j]? =some x->(putCells (Value.int .i64) 0 ys.toArray c)[j]? =some (Value.int .i64 x):=λj x hx=>by
  have hj:j<ys.length:=(rK.1 hx).1;have hjc:j<c.size:=E
  have hx' :ys[j]=x:=(rK.1 hx).2;unfold putCells;rw[kJ (by simpa using hjc)];simp[hj,hx']
 have arc:(putCells (Value.int .i64) 0 ys.toArray c).size=c.size:=by simp[putCells]
 obtain⟨γ',Ab⟩:∃γ' :Gh,γ' ={γ with I:=λx o=>if x=b∧own=false∧o<ys.length then(ys[o]?).map (Value.int .i64)else γ.I x o}:=⟨_,rfl⟩;have hs:ku γ.I γ'.I:=λx o v hv=>by rw[Ab];dsimp only;split;rename_i hcond;rw[hcond.1,hI o]at hv;cases hv;exact hv
 have I1:∀x o,x≠b->γ'.I x o=γ.I x o:=λx o hx=>by rw[Ab];dsimp only;rw[Z (λh=>hx h.1)]
 have I2:own=true->∀j,γ'.I b j=none:=λho j=>by rw[Ab];dsimp only;rw[Z (λh=>by rw[ho]at h;cases h.2.1)];exact hI j
 have I3:own=false->∀j x,ys[j]? =some x->γ'.I b j=some (Value.int .i64 x):=λho j x hx=>by have hj:j<ys.length:=(rK.1 hx).1;rw[Ab];dsimp only;rw[ak ⟨rfl,ho,hj⟩,hx];rfl
 have I4:∀j,ys.length<=j->γ'.I b j=none:=λj hj=>by rw[Ab];dsimp only;rw[Z (λh=>E)];exact hI j
 have HH:Ext γ γ' :=⟨hs,λl x h=>by rw[Ab];exact h,λk u h=>⟨u,by rw[Ab];exact h,.refl u⟩⟩;have hiw:Cells γ'.I w' :=λx o v hv=>by
  by_cases hx:x=b;subst hx;cases hown:own with|true=>rw[I2 hown]at hv;cases hv|false=>rcases jl o ys.length with h|h;have hx0:ys[o]? =some ys[o]:=iW h;rw[I3 hown o _ hx0]at hv;cases hv;exact⟨(ep hb1).trans (hpc o _ hx0),rfl⟩;rw[I4 o h]at hv;cases hv
  rw[I1 x o hx]at hv;have:=hm.iw x o v hv;exact⟨(fJ (hoth x (mM this.1) hx)).trans this.1,this.2⟩
 refine⟨γ',HH,by rw[Ab],?_,I3⟩;have only:∀k u,γ.tv k=some u->k=1000:=λk u hk=>by obtain⟨r,hr⟩:=hm.gE k u hk;have:mJ [⟨1,true,zs.map yQ⟩] 1000 (λ_=>none) k=some r:=hr;by_cases h:k=1000;exact h;have:aW (λ_=>none) 1000 (some (⟨1,true,zs.map yQ⟩:Row)) k=some r:=this;rw[aO _ _ _ _ h]at this;cases this
 have gx:∀l x,γ.mu l≠some x:=λl x h=>by obtain⟨d,hd⟩:=hm.gx l x h;have:lV [] 1000 (λ_=>none) l=some d:=hd;cases this
 refine⟨hiw,λl d h=> ?_,λl x h=> ?_,λl m x h1 h2=> ?_,λl x h o=> ?_,λk r hr=> ?_,λk u hk=> ?_,λk j u v x h1 h2 h3 h4=> ?_,λx o v hv=> ?_,?_,λk hk=> ?_⟩;have:lV [] 1000 (λ_=>none) l=some d:=h;cases this;rw[Ab]at h;exact absurd h (gx l x);rw[Ab]at h1;exact absurd h1 (gx l x);rw[Ab]at h;exact absurd h (gx l x);have hr' :aW (λ_=>none) 1000 (some (⟨1,own,ys.map yQ⟩:Row)) k=some r:=hr;by_cases h:k=1000;subst h;rw[bw]at hr';cases hr';obtain⟨t',k1,k2,k3,k4,k5⟩:=hm.row 1000 ⟨1,true,zs.map yQ⟩ rfl;rw[h1]at k1;cases k1;refine⟨t,by rw[Ab];exact h1,k2,by simp[hn,hlen],λe he=>by obtain⟨x,_,rfl⟩:=dV.1 he;rfl,?_⟩;refine⟨k2,λ_ _=> ?_,λ_ e=>by(rw[(k5.h tG e).1]at hb;cases hb),λe=>absurd e tG,λe=>absurd e tG⟩;unfold jv;rw[hb];refine⟨hcap,te,λl=>by rw[Ab];exact hmu l,_,e,fz,hb1,by rw[arc];exact⟨hfz.1,λ_=>hfz.2 rfl⟩,by rw[arc];simpa using hcs,λj hj=>I4 j (by rw[hn]at hj;dsimp only at hj;omega),λho j=>I2 ho j,λj d hd=> ?_⟩;rw[JM,aJ,rI]at hd;cases hx:ys[j]? with|none=>rw[hx]at hd;cases hd|some x=>rw[hx]at hd;cases hd;exact⟨_,hpc j x hx,.int _ _,rfl,λho=>I3 ho j x hx⟩
 rw[aO _ _ _ _ h]at hr';cases hr';rw[Ab]at hk;have:=only k u hk;subst this;exact nF;rw[Ab]at h1 h2;exact(only k u h1).trans (only j v h2).symm;by_cases hx:x=b;subst hx;exact .inr te;rw[I1 x o hx]at hv;exact .inl hv;show Frame w w' X;refine⟨EU,EU,EU,hsz,λk hk hx=>hoth k hk λe=>hx ?_⟩;rw[e,hX];exact .inr ⟨1000,t,h1,.inl hb⟩;exact .inl (eW hsz hk)
end Abs
namespace Abs
open Go Go.Proofs Go.Shelf Go.RowKit Go.Lib
variable{G:Prop}
def ET(h:G:=by simp[dA]):=h
theorem gn{P:Program}(w:World)(dT sT ty elem:TypeId)(z b o dLen dCap:Nat)(a:Addr)(sLen sCap k:Nat)(cs:List Value){c:Array Value}{e:TypeId}{fz:Nat×Nat}(hu:P.underlying dT=some (.slice elem))(hs:(P.info? elem).map (·.size)=some z)(hk:Nat.min sLen dLen=k)(hn:cs.length=k*z)(hsrc:∀j v,cs[j]? =some v->w.cell? (a.add j)=some v)(hb:w.heap[b]? =some (.cells c e fz))(hf:qT fz c.size)(hl:o+cs.length<=c.size)(h1:∀v∈cs,leaf v=true):(Builtin.copy_ #[dT,sT] ty #[.slice (some ⟨b,o,none⟩) dLen dCap,.slice (some a) sLen sCap]).run P w= .ok (goInt k) (dA w b (.cells (aI c.toList o cs).toArray e fz)):=by
 have hl0:=run_loadCells_list (P:=P) w a cs hsrc;have hst:=i6 (P:=P) (o:=o) cs 0 c w hb hf E h1;rw[kH]at hst;cases hq:P.info? elem with
 |none=>simp[hq]at hs
 |some i=>
  have hi:i.size=z:=by simpa[hq]using hs
  simp[Builtin.copy_,run_underlying hu,Builtin.lenOf,Builtin.firstCells,Go.sizeOf,typeInfo,hq,hi,hk,<-hn,hl0,hst]
theorem oK{P:Program}(w:World)(tS tR e:TypeId)(ht:P.underlying tS=some (.slice e))(size:Nat)(hz:∀w,(Go.sizeOf e).run P w= .ok size w)(a b:Addr)(la ca lb cb:Nat)(hne:a.block≠b.block)(tA tB:TypeId)(kA kB:Nat)(hsa:w.shape? a.block=some (tA,kA))(hsb:w.shape? b.block=some (tB,kB))(hkA:kA≠0)(hkB:kB≠0)(hfa:w.frozen? b=false)(hfe:w.frozen? {block:=b.block,off:=kB}=false):(Extern.SlicesOverlaps.overlaps #[tS,tS] #[tR] #[.slice (some a) la ca,.slice (some b) lb cb]).run P w= .ok (.bool false) w:=by
 have hnb:(a.block !=b.block)=true:=LO
 have hnb' :(a.block==b.block)=false:=LO
 change Sem.run P (α:=Value) (do
  let some t:=(#[tS,tS]:Array TypeId)[0]? |stuck "slices.overlaps: no parameter types"
  let .slice elem <-underlying t|stuck "slices.overlaps: slice type expected"
  let size <-sizeOf elem;match (some a:Option Addr),(some b:Option Addr)with
  |some a,some b=>
   if la=0∨lb=0∨size=0 then pure (Value.bool false)
   else if a.block !=b.block&&(<-frozen a)&&(<-frozen b)then unsupported .addressObserved
   else do
    if a.block !=b.block then do
     noView a;noView b
     if <-mayBeOne a b then return Value.bool ((<-choose (.extern "sameAddr.stringBytes" 2))==1)
    pure (Value.bool (a.block==b.block&&a.off<b.off+lb*size&&b.off<a.off+la*size))
  |_,_=>pure (Value.bool false)) w=_
 by_cases h0:la=0∨lb=0∨size=0;simp[run_underlying ht,hz,h0];cases kB with|zero=>exact absurd rfl hkB|succ kB=>
 cases kA with|zero=>exact absurd rfl hkA|succ kA=>cases hs:w.frozen? a<;>simp[run_underlying ht,hz,h0,hnb,hnb',frozen,noView,viewAt,mayBeOne,stringish,shape,Sem.run,hsa,hsb,hfa,hfe,hs]
def lQ{P:Program}(w:World){ops:Array Oper}{rest:List Oper}{o:Oper}{a:Act}{Q:Go.Exit->Act->World->Prop}(hg:o.guard=none)(d s:Operand)(t t' :TypeId)(ho:o.op= .call {callee:= .builtin .copy,args:= #[d,s],argTypes:= #[t,t']})(v u:Value)(hd:a.eval d=v)(hs:a.eval s=u){v' :Value}{w' :World}(hr:(Builtin.copy_ #[t,t'] o.type #[v,u]).run P w= .ok v' w')(h:wpList P ops Q rest (a.put o.dst v') w'):wpList P ops Q (o::rest) a w:=wpList_plain hg λ_ hK=>by unfold Oper.wp execOp;simp only[ho,resolve,invoke,builtin,Sem.run_bind,Sem.run_pure,Result.andThen_ok,List.map_toArray,oD,List.map_nil,hd,hs,hr];exact hK _ _ h
def oJ{P:Program}{ops:Array Oper}{o:Oper}{a:Act}{w:World}{K:Act->World->Prop}{Q:Go.Exit->Act->World->Prop}{af:Prop}(hg:o.guard=none)(d s:Operand)(t t' :TypeId)(ho:o.op= .call {callee:= .builtin .copy,args:= #[d,s],argTypes:= #[t,t']})(v u:Value)(hd:a.eval d=v)(hs:a.eval s=u){v' :Value}{w' :World}(hr:(Builtin.copy_ #[t,t'] o.type #[v,u]).run P w= .ok v' w')(hK:K (a.put o.dst v') w'):if Region.wanted o (yielded ops a.tmps)=true then Oper.wp P o a w K Q else af:=by
 have hw:Region.wanted o (yielded ops a.tmps)=true:=by simp[Region.wanted,hg]
 rw[ak hw];unfold Oper.wp execOp;simp only[ho,resolve,invoke,builtin,Sem.run_bind,Sem.run_pure,Result.andThen_ok,List.map_toArray,oD,List.map_nil,hd,hs,hr];exact hK
def HB(C:Array Value)(x:List Value)(p z j:Nat):Option Value:=if j<p then C[j]? else if j<p+z then x[j - p]? else C[j - z]?
structure jB(w w' :World)(b n c p z N:Nat)(C:Array Value)(e:TypeId)(fz:Nat×Nat)(x:List Value)(r:Ending):Prop where
 r:r= .returned (.slice (some ⟨b,0,none⟩) (n+1) c)
 fr:Frame w w' (λk=>k=b)
 size:w'.heap.size=w.heap.size
 wc:∃C',w'.heap[b]? =some (.cells C' e fz)∧C'.size=C.size∧∀j,j<N+z->C'[j]? =HB C x p z j
structure kc(w w' :World)(n p z N:Nat)(C:Array Value)(x:List Value)(r:Ending):Prop where
 out:∃G c' e',r= .returned (.slice (some ⟨w.heap.size,0,none⟩) (n+1) G)∧n+1<=G∧Frame w w' (λ_=>False)∧w'.heap.size=w.heap.size+1∧w'.heap[w.heap.size]? =some (.cells c' e' (0,0))∧G*z<=c'.size∧∀j,j<N+z->c'[j]? =HB C x p z j
def ua(c vs:List Value)(o j:Nat):(aI c o vs).toArray[j]? =if o<=j∧j<o+vs.length∧j<c.length then vs[j - o]? else c[j]? :=by have h:=fA vs c o j;rw[aJ,aJ,aJ]at h;exact eQ
def Dk{C:Array Value}{x M:List Value}{p z q N:Nat}(hq:q=p+z)(hx:x.length=z)(hp:p<=N)(hM:M.length=N - p)(OL:∀j,j<N - p->M[j]? =C[p+j]?)(hC:N+z<=C.size)(j:Nat)(hj:j<N+z):(aI (aI C.toList q M) p x).toArray[j]? =HB C x p z j:=by
 rw[ua];unfold HB;have hl:(aI C.toList q M).length=C.size:=by rw[aV];simp
 rw[hl,hx];have h2:=ua C.toList M q j;rw[mU]at h2;by_cases h1:j<p;rw[Z E,ak h1,h2,Z E];simp;rw[Z h1];by_cases h3:j<p+z;rw[ak ⟨E,h3,E⟩,ak h3];rw[Z E,Z h3,h2,ak ⟨E,E,az⟩,OL _ E];congr 1;omega
def vM{w:World}{b o:Nat}{v:Value}(h:w.cell? ⟨b,o,none⟩=some v):∃c e fz,w.heap[b]? =some (.cells c e fz)∧c.size≠0:=by unfold World.cell? at h;split at h<;>simp at h;rename_i c e fz hh;exact⟨c,e,fz,gy,by have:=(iX.1 h).1;omega⟩
def Yu{w W:World}{b:Nat}{o o' :Obj}(h:W=dA w.drew b o):Frame w (dA W b o') (λk=>k=b)∧(dA W b o').heap.size=w.heap.size:=by subst h;exact⟨⟨rfl,rfl,rfl,ET,λk hk hx=>by rw[dL _ _ _ _ hx,dL _ _ _ _ hx];rfl⟩,ET⟩
def Hx{w W:World}{b n c p z q N:Nat}{C:Array Value}{e:TypeId}{fz:Nat×Nat}{x M:List Value}(hW:W=dA w.drew b (.cells (aI C.toList q M).toArray e fz))(hlt:b<w.heap.size)(hq:q=p+z)(hx:x.length=z)(hp:p<=N)(hM:M.length=N - p)(OL:∀j,j<N - p->M[j]? =C[p+j]?)(hC:N+z<=C.size):jB w (dA W b (.cells (aI (aI C.toList q M).toArray.toList p x).toArray e fz)) b n c p z N C e fz x (.returned (.slice (some ⟨b,0,none⟩) (n+1) c)):=by obtain⟨h1,h2⟩:=Yu (o' := .cells (aI (aI C.toList q M).toArray.toList p x).toArray e fz) hW;exact⟨rfl,h1,h2,_,dt _ _ _ (by rw[hW];simpa[dA]using hlt),by simp[aV],Dk hq hx hp hM OL hC⟩
def oL{P:Program}(w:World)(t tx ty e:TypeId)(i:TypeInfo)(ht:P.underlying t=some (.slice e))(hi:P.info? e=some i)(b sLen sCap:Nat)(x:Value)(n:Nat)(news:List Value)(hs:Src P i.size tx x n news w)(hroom:sLen+n<=sCap){c:Array Value}{e' :TypeId}{fz:Nat×Nat}(hb:w.heap[b]? =some (.cells c e' fz))(hf:qT fz c.size)(hl:sLen*i.size+news.length<=c.size):(Builtin.append_ #[t,tx] ty #[.slice (some ⟨b,0,none⟩) sLen sCap,x]).run P w= .ok (.slice (some ⟨b,0,none⟩) (sLen+n) sCap) (dA w b (.cells (aI c.toList (sLen*i.size) news).toArray e' fz)):=by have hst:=i6 (P:=P) (o:=sLen*i.size) news 0 c w hb hf E (λv hv=>by rw[<-ui];exact hs.one v hv);simp only[kH]at hst;rcases hs.kind with⟨e',hk⟩|hk<;>simp[Builtin.append_,run_underlying ht,run_underlying hk,Go.sizeOf,typeInfo,hi,hs.len,hroom,hs.cells,dO,hst]
def N2{R C:Array Value}{x M:List Value}{p z q N:Nat}(hq:q=p+z)(hx:x.length=z)(hp:p<=N)(hM:M.length=N - p)(OL:∀j,j<N - p->M[j]? =C[p+j]?)(hR:∀j,j<p->R[j]? =C[j]?)(hC:N+z<=R.size)(j:Nat)(hj:j<N+z):(aI (aI R.toList p x).toArray.toList q M).toArray[j]? =HB C x p z j:=by
 rw[ua];unfold HB;have hl:(aI R.toList p x).length=R.size:=by rw[aV];simp
 have h2:=ua R.toList x p j;rw[mU]at h2;rw[hM];dsimp only;rw[hl];by_cases h1:j<p;rw[Z E,ak h1,h2,Z E,<-hR j h1];simp;rw[Z h1];by_cases h3:j<p+z;rw[Z E,ak h3,h2,ak ⟨E,E,az⟩];rw[ak ⟨E,E,E⟩,Z h3,OL _ E];congr 1;omega
end Abs
