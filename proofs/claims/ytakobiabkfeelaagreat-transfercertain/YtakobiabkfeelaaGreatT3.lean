/- A part of a proof: an abstract machine, proved sound, or contracts of functions. No condition. -/
import Derived.RangeFuncCalls
import Derived.RangeFuncRecord
import Derived.RangeFuncLeaves
import Derived.OrdersIn
import Derived.Test.YtakobiabkfeelaaGreatT2
set_option linter.unusedVariables false
set_option linter.unusedSimpArgs false
set_option linter.defProp false
set_option maxRecDepth 100000
set_option maxHeartbeats 4000000
namespace Abs
open Go
variable{G:Prop}
def ZN(h:G:=by simp[St.freeze,aO _ _ _ _ hx]):=h
def VE(h:G:=by unfold named;rw[hi];exact h):=h
def Ml(h:G:=by simp[ig.go,hx]):=h
def LV(h:G:=by simp[ig.go]):=h
def AP(h:G:=by simp[hk]):=h
def Rp(h:G:=by simp only[lT,kE];exact h3 u (hu k (by rw[er];simp)) _ h):=h
def Y8(h:G:=by obtain⟨u1,p1,q1⟩:=l1 u hu.left;obtain⟨u2,p2,q2⟩:=l2 u1 (p1.agr hu.right);exact⟨u2,p1.trans p2,λK' hK=>q1 K' (q2 _ hK)⟩):=h
def U1(h:G:=by obtain⟨u',p,q⟩:=l1 u hu;refine⟨u',p,λK' h=> ?_⟩;unfold nY;rw[hp];exact q _ h):=h
def iM(h:G:=by exact .inl h):=h
def xL(h:G:=by exact .inr (.inl h)):=h
def xK(h:G:=by exact .inr (.inr h)):=h
def TM(h:G:=by obtain⟨u',p,_⟩:=l1 s (λk _=>rfl);exact p.h1):=h
def TJ(h:G:=by simp only[n_,js,hi];exact h):=h
structure jO(W:List Nat)(s u s' u' :St):Prop where
 e1:s'.env=s.env
 e2:u'.env=u.env
 h1:s'.H=s.H
 h2:u'.H=u.H
 R:∀k,(s'.R k=s.R k∧u'.R k=u.R k)∨(s'.R k=u'.R k∧k∈W)
def nu(W:List Nat)(s u:St):Prop:=∀k∈W,s.R k=u.R k
def jO.refl(W:List Nat)(s u:St):jO W s u s u:=⟨rfl,rfl,rfl,rfl,λ_=> .inl ⟨rfl,rfl⟩⟩
theorem jO.trans{W V:List Nat}{s u s1 u1 s2 u2:St}(h:jO W s u s1 u1)(k:jO V s1 u1 s2 u2):jO (W++V) s u s2 u2:=⟨k.e1.trans h.e1,k.e2.trans h.e2,k.h1.trans h.h1,k.h2.trans h.h2,λx=>by rcases k.R x with⟨a,b⟩|⟨a,b⟩;rcases h.R x with⟨c,d⟩|⟨c,d⟩;exact .inl ⟨a.trans c,b.trans d⟩;exact .inr ⟨by rw[a,b,c],by simp[d]⟩;exact .inr ⟨a,by simp[b]⟩⟩
def jO.sub{W V:List Nat}{s u s1 u1:St}(h:jO W s u s1 u1)(hs:∀k∈W,k∈V):jO V s u s1 u1:=⟨h.e1,h.e2,h.h1,h.h2,λx=>(h.R x).imp id λ⟨a,b⟩=>⟨a,hs _ b⟩⟩
def jO.agr{W V:List Nat}{s u s1 u1:St}(h:jO W s u s1 u1)(k:nu V s u):nu V s1 u1:=λx hx=>by rcases h.R x with⟨a,b⟩|⟨a,_⟩;rw[a,b];exact k x hx;exact a
def nu.left{W V:List Nat}{s u:St}(h:nu (W++V) s u):nu W s u:=λk hk=>h k AP
def nu.right{W V:List Nat}{s u:St}(h:nu (W++V) s u):nu V s u:=λk hk=>h k AP
def nQ(d:au):List Nat:=match ew d with|true=>[]|false=>ig d
theorem vE{s:St}{d:au}{K:St->au->Prop}(hk:dZ s d K)(W:List Nat)(hW:∀k n,d= .ref k n->k∈W):∃s' d',K s' d' ∧∀u,nu W s u->∃u',jO W s u s' u' ∧∀K',K' u' d' ->dZ u d K' :=by
 cases d with
 |ref k n=>
  simp only[dZ]at hk;cases hr:s.R k with
  |none=>exact nB
  |some r=>
   rw[hr]at hk;dsimp only at hk;split at hk;exact aq;rename_i hz;refine⟨_,_,hk.k,λu hu=> ?_⟩;have hu' :u.R k=some r:=by rw[<-hu k (hW k n rfl)];exact hr
   refine⟨u.freeze k r,⟨rfl,rfl,rfl,rfl,λx=> ?_⟩,λK' hK' => ?_⟩;by_cases hx:x=k;subst hx;exact .inr ⟨by simp[St.freeze,bw],hW x n rfl⟩;exact .inl ⟨ZN,ZN⟩;simp only[dZ,hu',hz];exact⟨hk.h,hK'⟩
 |sl z es b=>simp only[dZ]at hk;exact⟨s,_,hk,λu _=>⟨u,jO.refl _ _ _,λK' h=>h⟩⟩|_=>simp only[dZ]at hk;split at hk;rename_i hp;exact⟨s,_,hk,λu _=>⟨u,jO.refl _ _ _,λK' h=>by simp only[dZ];rw[hp];exact h⟩⟩;exact aq
theorem ze:∀{ds:List au} {s:St} {K:St->List au->Prop},jI s ds K->∃s' ds',K s' ds' ∧∀u,nu (ig.go ds) s u->∃u',jO (ig.go ds) s u s' u' ∧∀K',K' u' ds' ->jI u ds K'
 |[],s,K,hk=>⟨s,[],hk,λu _=>⟨u,jO.refl _ _ _,λK' h=>h⟩⟩
 |d::ds,s,K,hk=>by
  have e1:∀k n,d= .ref k n->k∈ig.go (d::ds):=by intro k n e;subst e;simp[ig.go]
  have e2:∀k∈ig.go ds,k∈ig.go (d::ds):=by intro x hx;clear hk;cases d<;>first|exact hx|exact mT _ hx
  rw[lx]at hk;obtain⟨s1,d1,k1,l1⟩:=vE hk (ig.go (d::ds)) e1;obtain⟨s2,ds2,k2,l2⟩:=ze k1;refine⟨s2,d1::ds2,k2,λu hu=> ?_⟩;obtain⟨u1,p1,q1⟩:=l1 u hu;obtain⟨u2,p2,q2⟩:=l2 u1 (p1.agr λk hk=>hu k (e2 k hk));refine⟨u2,(p1.trans p2).sub λk hk=> ?_,λK' hK=>by rw[lx];exact q1 _ (q2 _ hK)⟩;rcases dY.1 hk with h|h;exact h;exact e2 k h
def w7{s:St}{d:au}{K:St->au->Prop}(hk:nY s d K):∃s' d',K s' d' ∧∀u,nu (nQ d) s u->∃u',jO (nQ d) s u s' u' ∧∀K',K' u' d' ->nY u d K' :=by
 unfold nY at hk;split at hk;rename_i hp;refine⟨s,d,hk,λu _=>⟨u,jO.refl _ _ _,λK' h=> ?_⟩⟩;unfold nY;rw[hp];exact h;rename_i hp;have er:nQ d=ig d:=by simp[nQ,hp]
 rw[er];split at hk;rename_i cs;obtain⟨s',ds',k1,l1⟩:=ze hk;refine⟨s',_,k1,λu hu=> ?_⟩;exact U1;rename_i k n;obtain⟨s',d',k1,l1⟩:=vE hk [k] (by intro k' n' e;cases e;simp);refine⟨s',d',k1,λu hu=> ?_⟩;exact U1;rename_i z es b;obtain⟨s',d',k1,l1⟩:=vE hk [] (by intro k' n' e;cases e);refine⟨s',d',k1,λu hu=> ?_⟩;obtain⟨u',p,q⟩:=l1 u (λk hk=>by cases hk);refine⟨u',p.sub O,λK' h=> ?_⟩;unfold nY;rw[hp];exact q _ h;exact aq
def GF{d:au}:∀{r:List au},(∀fn f c,d≠.gD fn f c)->refsOf (d::r)=nQ d++refsOf r:=by intro r h;cases d<;>first|rfl|exact absurd rfl (h _ _ _)
def wP(d:au)(r:List au):refsOf (d::r)=refsOf [d]++refsOf r:=by cases d<;>simp[refsOf]
def BJ{d:au}{x:Nat}(hx:x∈nQ d):x∈refsOf [d]:=by
 by_cases hc:∃fn f c,d= .gD fn f c;obtain⟨fn,f,c,rfl⟩:=hc;have:nQ (.gD fn f c)=[]:=by unfold nQ;split<;>rfl
 rw[this]at hx;cases hx;rw[GF (λfn f c e=>hc ⟨fn,f,c,e⟩)];simp[hx]
theorem DX:∀{ds:List au} {s:St} {K:St->List au->Prop},lS s ds K->∃s' ds',K s' ds' ∧∀u,nu (refsOf ds) s u->∃u',jO (refsOf ds) s u s' u' ∧∀K',K' u' ds' ->lS u ds K' |[],s,K,hk=>⟨s,[],hk,λu _=>⟨u,jO.refl _ _ _,λK' h=>h⟩⟩|d::ds,s,K,hk=>by rw[nX]at hk;obtain⟨s1,d1,k1,l1⟩:=w7 hk;obtain⟨s2,ds2,k2,l2⟩:=DX k1;refine⟨s2,d1::ds2,k2,λu hu=> ?_⟩;rw[wP]at hu ⊢;obtain⟨u1,p1,q1⟩:=l1 u (λx hx=>hu.left x (BJ hx));obtain⟨u2,p2,q2⟩:=l2 u1 (p1.agr hu.right);exact⟨u2,(p1.sub λ_ h=>BJ h).trans p2,λK' hK=>by rw[nX];exact q1 _ (q2 _ hK)⟩
theorem vF:∀{ds:List au} {ls:List Nat} {K:List Nat->List au->Prop},ia ls ds K->∃ls' ds',K ls' ds' ∧(∀l∈ls',l∈ls∨l∈vS ds)∧∀K',K' ls' ds' ->ia ls ds K'
 |[],ls,K,hk=>⟨ls,[],hk,λl h=> .inl h,λK' h=>h⟩
 |d::ds,ls,K,hk=>by
  have join:∀{sq:List Nat} {d1:au},(∀l∈sq,l∈ls∨l∈vS [d])->(∀K' :List Nat->List au->Prop,ia sq ds (λls ds=>K' ls (d1::ds))->ia ls (d::ds) K')->
   ia sq ds (λls ds=>K ls (d1::ds))->∃ls' ds',K ls' ds' ∧(∀l∈ls',l∈ls∨l∈vS (d::ds))∧∀K',K' ls' ds' ->ia ls (d::ds) K' :=by
   intro sq d1 m1 l1 hk;obtain⟨SK,ds2,k2,m2,l2⟩:=vF hk;refine⟨SK,d1::ds2,k2,λl hl=> ?_,λK' hK=>l1 K' (l2 _ hK)⟩;rcases m2 l hl with h|h;rcases m1 l h with h|h;exact iM;refine .inr ?_;cases d<;>simp[vS]at h ⊢;exact iM;refine .inr ?_;cases d<;>simp[vS]at h ⊢<;>first|exact h|exact .inr h
  simp only[pC]at hk;split at hk;rename_i l off;split at hk;rename_i i hi;refine join (λl h=> .inl h) (λK' h=> ?_) hk;simp only[pC,hi];exact h;rename_i hi;refine join (λx h=> ?_) (λK' h=> ?_) hk;rcases dY.1 h with h|h;exact iM;exact .inr (by simpa[vS]using h);simp only[pC,hi];exact h;rename_i hnp;split at hk;rename_i hp;refine join (λl h=> .inl h) (λK' h=> ?_) hk;have e:ia ls (d::ds) K' =match ew d with
   |true=>ia ls ds λls ds=>K' ls (d::ds)|false=>False:=by
   cases d<;>first|rfl|exact absurd rfl (hnp _ _)
  rw[e,hp];exact h;exact aq
def w9{ls:List Nat}{d:au}{K:List Nat->au->Prop}(hk:pD ls d K):∃ls' d',K ls' d' ∧(∀l∈ls',l∈ls∨l∈an3 d)∧∀K',K' ls' d' ->pD ls d K' :=by unfold pD at hk;split at hk;rename_i f a b;obtain⟨sq,a',k1,m1,l1⟩:=vF hk;obtain⟨SK,b',k2,m2,l2⟩:=vF k1;refine⟨SK,_,k2,λl hl=> ?_,λK' h=> ?_⟩;show l∈ls∨l∈vS a++vS b;rcases m2 l hl with h|h;rcases m1 l h with h|h;exact iM;exact .inr (CO _ h);exact .inr (zt _ h);exact l1 _ (l2 _ h);exact aq
theorem vG:∀{ds:List au} {s:St} {ls ks:List Nat} {K:St->List Nat->List Nat->List au->Prop},fI s ls ks ds K->∃s' ls' ks' ds',K s' ls' ks' ds' ∧(∀l∈ls',l∈ls∨l∈oN.go ds)∧ks' =ks∧s'.H=s.H∧∀u,nu (refsOf.IW ds) s u->∃u',jO (refsOf.IW ds) s u s' u' ∧∀K',K' u' ls' ks' ds' ->fI u ls ks ds K'
 |[],s,ls,ks,K,hk=>⟨s,ls,ks,[],hk,λl h=> .inl h,rfl,rfl,λu _=>⟨u,jO.refl _ _ _,λK' h=>h⟩⟩
 |d::ds,s,ls,ks,K,hk=>by
  have join:∀{s1:St} {sq:List Nat} {d1:au},(∀l∈sq,l∈ls∨l∈oN.go [d])->s1.H=s.H->
   (∀u,nu (nQ d) s u->∃u',jO (nQ d) s u s1 u' ∧∀K' :St->List Nat->List Nat->List au->Prop,fI u' sq ks ds (λs ls ks ds=>K' s ls ks (d1::ds))->fI u ls ks (d::ds) K')->
   fI s1 sq ks ds (λs ls ks ds=>K s ls ks (d1::ds))->
   ∃s' ls' ks' ds',K s' ls' ks' ds' ∧(∀l∈ls',l∈ls∨l∈oN.go (d::ds))∧ks' =ks∧s'.H=s.H∧∀u,nu (refsOf.IW (d::ds)) s u->∃u',jO (refsOf.IW (d::ds)) s u s' u' ∧∀K',K' u' ls' ks' ds' ->fI u ls ks (d::ds) K' :=by
   intro s1 sq d1 m1 h1 l1 hk;obtain⟨s2,SK,su,ds2,k2,m2,n2,h2,l2⟩:=vG hk;subst n2;refine⟨s2,SK,su,d1::ds2,k2,λl hl=> ?_,rfl,h2.trans h1,λu hu=> ?_⟩
   ·rcases m2 l hl with h|h;·rcases m1 l h with h|h;exact iM;·refine .inr ?_;cases d<;>simp[oN.go]at h ⊢;all_goals exact iM
    refine .inr ?_;cases d<;>simp[oN.go]at h ⊢<;>first|exact h|exact .inr h
   have hu:nu (nQ d++refsOf.IW ds) s u:=hu;exact Y8
  simp only[n_,js]at hk;split at hk;rename_i l off;split at hk;rename_i i hi;refine join (λl h=> .inl h) rfl (λu _=>⟨u,jO.refl _ _ _,λK' h=> ?_⟩) hk;exact TJ;rename_i hi;refine join (λx h=> ?_) rfl (λu _=>⟨u,jO.refl _ _ _,λK' h=> ?_⟩) hk;rcases dY.1 h with h|h;exact iM;exact .inr (by simpa[oN.go]using h);exact TJ;rename_i x;obtain⟨sq,d1,k1,m1,l1⟩:=w9 hk;refine join (λy h=>(m1 y h).imp id λh=>by simpa[oN.go]using h) rfl (λu _=>⟨u,jO.refl _ _ _,λK' h=> ?_⟩) k1;simp only[js];exact l1 _ h;rename_i hnp hnq;obtain⟨s1,d1,k1,l1⟩:=w7 hk;have hH:s1.H=s.H:=TM
  refine join (λl h=> .inl h) hH (λu hu=> ?_) k1;obtain⟨u1,p1,q1⟩:=l1 u hu;refine⟨u1,p1,λK' h=> ?_⟩;have e:fI u ls ks (d::ds) K' =nY u d (λs d=>fI s ls ks ds λs ls ks ds=>K' s ls ks (d::ds)):=by cases d<;>first|rfl|exact absurd rfl (hnp _ _)|exact absurd rfl (hnq _)
  rw[e];exact q1 _ h
def NT{d:au}{s:St}{ls ks:List Nat}{K:St->List Nat->List Nat->au->Prop}(hk:fH s ls ks d K):∃s' ls' d',K s' ls' ks d' ∧(∀l∈ls',l∈ls∨l∈oN d)∧s'.H=s.H∧∀u,nu (refsOf [d]) s u->∃u',jO (refsOf [d]) s u s' u' ∧∀K',K' u' ls' ks d' ->fH u ls ks d K' :=by
 unfold fH at hk;split at hk;rename_i l off;split at hk;rename_i i hi;refine⟨s,ls,_,hk,λl h=> .inl h,rfl,λu _=>⟨u,jO.refl _ _ _,λK' h=> ?_⟩⟩;simp only[fH,hi];exact h;rename_i hi;refine⟨s,_,_,hk,λl h=> ?_,rfl,λu _=>⟨u,jO.refl _ _ _,λK' h=> ?_⟩⟩;rcases dY.1 h with h|h;exact iM;exact .inr (by simpa[oN]using h);simp only[fH,hi];exact h;rename_i fn first cap
 obtain⟨s1,sq,nZ,first',k0,m0,n0,h0,l0⟩:=vG hk;subst n0;obtain⟨s',ls',ks',ds',k1,m1,n1,h1,l1⟩:=vG k0;subst n1;refine⟨s',ls',_,k1,λl hl=> ?_,h1.trans h0,λu hu=> ?_⟩;show l∈ls∨l∈oN.go first++oN.go cap
 rcases m1 l hl with h|h;rcases m0 l h with h|h;exact iM;exact .inr (CO _ h);exact .inr (zt _ h);have er:refsOf [au.gD fn first cap]=(refsOf.IW first++refsOf.IW cap)++[]:=rfl;rw[er,jV]at hu ⊢;obtain⟨u1,p1,q1⟩:=l0 u hu.left;obtain⟨u2,p2,q2⟩:=l1 u1 (p1.agr hu.right);exact⟨u2,p1.trans p2,λK' h=>q1 _ (q2 _ h)⟩;rename_i x;obtain⟨sq,d1,k1,m1,l1⟩:=w9 hk;exact⟨s,sq,d1,k1,m1,rfl,λu _=>⟨u,jO.refl _ _ _,λK' h=>by simp only[fH];exact l1 _ h⟩⟩;rename_i hnp hnc hnq;obtain⟨s',d',k1,l1⟩:=w7 hk;have hH:s'.H=s.H:=TM
 refine⟨s',ls,d',k1,λl h=> .inl h,hH,λu hu=> ?_⟩;rw[GF hnc]at hu ⊢;simp only[refsOf,jV]at hu ⊢;obtain⟨u',p,q⟩:=l1 u hu;refine⟨u',p,λK' h=> ?_⟩;have e:fH u ls ks d K' =nY u d (λs d=>K' s ls ks d):=by cases d<;>first|rfl|exact absurd rfl (hnp _ _)|exact absurd rfl (hnc _ _ _)|exact absurd rfl (hnq _)
 rw[e];exact q _ h
def Db{ks:List Nat}{k:Nat}{K:List Nat->Nat->Prop}(hk:named ks k K):∃ks' i,K ks' i∧(∀x∈ks',x∈ks∨x=k)∧∀K',K' ks' i->named ks k K' :=by unfold named at hk;split at hk;rename_i i hi;exact⟨ks,_,hk,λx h=> .inl h,λK' h=>VE⟩;rename_i hi;refine⟨_,_,hk,λx h=> ?_,λK' h=>VE⟩;rcases dY.1 h with h|h;exact iM;exact .inr eQ
def DY{s:St}{ks:List Nat}{k n:Nat}{K:List Nat->au->Prop}(hk:jz s ks k n K):∃ks' d',K ks' d' ∧(∀x∈ks',x∈ks∨x=k)∧∀u:St,s.R k=u.R k->∀K',K' ks' d' ->jz u ks k n K' :=by unfold jz at hk;split at hk;rename_i r hr;obtain⟨hn,hk⟩:=hk;split at hk;rename_i hown;obtain⟨ks',i,h1,h2,h3⟩:=Db hk;refine⟨ks',_,h1,h2,λu hu K' h=> ?_⟩;unfold jz;rw[<-hu,hr];refine⟨hn,?_⟩;rw[hown];exact h3 _ h;rename_i hown;split at hk;exact aq;rename_i hz;refine⟨ks,_,hk,λx h=> .inl h,λu hu K' h=> ?_⟩;unfold jz;rw[<-hu,hr];refine⟨hn,?_⟩;rw[hown];dsimp only;rw[hz];exact h;exact aq
def B4{s:St}{ks:List Nat}{k n:Nat}{K:List Nat->au->Prop}(hk:iI s ks k n K):∃ks' d',K ks' d' ∧(∀x∈ks',x∈ks∨x=k)∧∀u:St,s.R k=u.R k->∀K',K' ks' d' ->iI u ks k n K' :=by unfold iI at hk;split at hk;rename_i r hr;obtain⟨ks',i,h1,h2,h3⟩:=Db hk;refine⟨ks',_,h1,h2,λu hu K' h=> ?_⟩;unfold iI;rw[<-hu,hr];exact h3 _ h;exact aq
def DZ{s:St}{ks:List Nat}{k:Nat}{K:List Nat->au->Prop}(hk:j_ s ks k K):∃ks' d',K ks' d' ∧(∀x∈ks',x∈ks∨x=k)∧∀u:St,s.R k=u.R k->∀K',K' ks' d' ->j_ u ks k K' :=by unfold j_ at hk;split at hk;rename_i r hr;obtain⟨ks',i,h1,h2,h3⟩:=Db hk;refine⟨ks',_,h1,h2,λu hu K' h=> ?_⟩;unfold j_;rw[<-hu,hr];exact h3 _ h;exact aq
theorem B5{f_:Bool}:∀{ds:List au} {s:St} {ls ks:List Nat} {K:St->List Nat->List Nat->List au->Prop},eY f_ s ls ks ds K->∃s' ls' ks' ds',K s' ls' ks' ds' ∧(∀l∈ls',l∈ls∨l∈zS ds)∧(∀k∈ks',k∈ks∨k∈refsOf ds)∧s'.H=s.H∧∀u,nu (refsOf ds) s u->∃u',jO (refsOf ds) s u s' u' ∧∀K',K' u' ls' ks' ds' ->eY f_ u ls ks ds K'
 |[],s,ls,ks,K,hk=>⟨s,ls,ks,[],hk,λl h=> .inl h,λl h=> .inl h,rfl,λu _=>⟨u,jO.refl _ _ _,λK' h=>h⟩⟩
 |d::ds,s,ls,ks,K,hk=>by
  have join:∀{s1:St} {sq nZ:List Nat} {d1:au},(∀l∈sq,l∈ls∨l∈oN d)->(∀l∈nZ,l∈ks∨l∈refsOf [d])->s1.H=s.H->
   (∀u,nu (refsOf [d]) s u->∃u',jO (refsOf [d]) s u s1 u' ∧∀K' :St->List Nat->List Nat->List au->Prop,eY f_ u' sq nZ ds (λs ls ks ds=>K' s ls ks (d1::ds))->eY f_ u ls ks (d::ds) K')->
   eY f_ s1 sq nZ ds (λs ls ks ds=>K s ls ks (d1::ds))->
   ∃s' ls' ks' ds',K s' ls' ks' ds' ∧(∀l∈ls',l∈ls∨l∈zS (d::ds))∧(∀k∈ks',k∈ks∨k∈refsOf (d::ds))∧s'.H=s.H∧∀u,nu (refsOf (d::ds)) s u->∃u',jO (refsOf (d::ds)) s u s' u' ∧∀K',K' u' ls' ks' ds' ->eY f_ u ls ks (d::ds) K' :=by
   intro s1 sq nZ d1 m1 n1 h1 l1 hk;obtain⟨s2,SK,su,ds2,k2,m2,n2,h2,l2⟩:=B5 hk;refine⟨s2,SK,su,d1::ds2,k2,λl hl=> ?_,λl hl=> ?_,h2.trans h1,λu hu=> ?_⟩;simp only[zS,dY];rcases m2 l hl with h|h;rcases m1 l h with h|h;exact iM;exact xL;exact xK;rw[wP,dY];rcases n2 l hl with h|h;rcases n1 l h with h|h;exact iM;exact xL;exact xK;rw[wP]at hu ⊢;exact Y8
  simp only[lT,kE]at hk;split at hk;rename_i k n;obtain⟨ks',d',h1,h2,h3⟩:=DY hk;have er:refsOf [au.ref k n]=[k]:=rfl;refine join (λl h=> .inl h) (λx h=> ?_) rfl (λu hu=>⟨u,jO.refl _ _ _,λK' h=> ?_⟩) h1;rw[er];simpa using h2 x h;exact Rp;rename_i k;obtain⟨ks',d',h1,h2,h3⟩:=DZ hk;have er:refsOf [au.dQ k]=[k]:=rfl;refine join (λl h=> .inl h) (λx h=> ?_) rfl (λu hu=>⟨u,jO.refl _ _ _,λK' h=> ?_⟩) h1;rw[er];simpa using h2 x h;exact Rp;rename_i k n;obtain⟨ks',d',h1,h2,h3⟩:=B4 hk;have er:refsOf [au.cQ k n]=[k]:=rfl;refine join (λl h=> .inl h) (λx h=> ?_) rfl (λu hu=>⟨u,jO.refl _ _ _,λK' h=> ?_⟩) h1;rw[er];simpa using h2 x h;exact Rp;rename_i hnm hnn hnr;obtain⟨s1,sq,d1,k1,m1,h1,l1⟩:=NT hk;refine join m1 (λl h=> .inl h) h1 (λu hu=> ?_) k1;obtain⟨u1,p1,q1⟩:=l1 u hu;refine⟨u1,p1,λK' h=> ?_⟩;have e:eY f_ u ls ks (d::ds) K' =fH u ls ks d (λs ls ks d=>eY f_ s ls ks ds λs ls ks ds=>K' s ls ks (d::ds)):=by
   cases d with
   |ref k n=>cases f_ with|false=>rfl|true=>exact absurd rfl (hnr k n rfl)
   |dQ k=>exact absurd rfl (hnm k)|cQ k n=>exact absurd rfl (hnn k n)|_=>rfl
  rw[e];exact q1 _ h
theorem lO{s:St}:∀{ds:List au} {ks:List Nat} {K:List Nat->List au->Prop},gG s ks ds K->∃ks' ds',K ks' ds' ∧(∀k∈ks',k∈ks∨k∈ig.go ds)∧∀u:St,nu (ig.go ds) s u->∀K',K' ks' ds' ->gG u ks ds K'
 |[],ks,K,hk=>⟨ks,[],hk,λk h=> .inl h,λu _ K' h=>h⟩
 |d::ds,ks,K,hk=>by
  cases d with
  |ref k n=>simp only[dW,dF]at hk;obtain⟨nZ,d1,k1,m1,l1⟩:=DY hk;obtain⟨su,ds2,k2,m2,l2⟩:=lO k1;refine⟨su,_,k2,λx hx=> ?_,λu hu K' h=> ?_⟩;simp only[ig.go,b_];rcases m2 x hx with h|h;rcases m1 x h with h|h;exact iM;exact xL;exact xK;simp only[dW,dF];refine l1 u (hu k LV) _ (l2 u (λx hx=>hu x Ml) _ h)
  |dQ k=>simp only[dW,dF]at hk;obtain⟨nZ,d1,k1,m1,l1⟩:=DZ hk;obtain⟨su,ds2,k2,m2,l2⟩:=lO k1;refine⟨su,_,k2,λx hx=> ?_,λu hu K' h=> ?_⟩;simp only[ig.go,b_];rcases m2 x hx with h|h;rcases m1 x h with h|h;exact iM;exact xL;exact xK;simp only[dW,dF];refine l1 u (hu k LV) _ (l2 u (λx hx=>hu x Ml) _ h)
  |cQ k n=>simp only[dW,dF]at hk;obtain⟨nZ,d1,k1,m1,l1⟩:=B4 hk;obtain⟨su,ds2,k2,m2,l2⟩:=lO k1;refine⟨su,_,k2,λx hx=> ?_,λu hu K' h=> ?_⟩;simp only[ig.go,b_];rcases m2 x hx with h|h;rcases m1 x h with h|h;exact iM;exact xL;exact xK;simp only[dW,dF];refine l1 u (hu k LV) _ (l2 u (λx hx=>hu x Ml) _ h)
  |_=>
   first
    |(simp only[dW,dF]at hk;done)
    |(simp only[dW,dF]at hk
      obtain⟨su,ds2,k2,m2,l2⟩:=lO hk
      refine⟨su,_,k2,m2,λu hu K' h=> ?_⟩
      simp only[dW,dF]
      exact l2 u hu _ h)
def PU{s:St}{ks:List Nat}{d:au}{K:List Nat->au->Prop}(hk:kW s ks d K):∃ks' d',K ks' d' ∧(∀k∈ks',k∈ks∨k∈nQ d)∧∀u:St,nu (nQ d) s u->∀K',K' ks' d' ->kW u ks d K' :=by
 unfold kW at hk;split at hk;rename_i hp;exact⟨ks,d,hk,λk h=> .inl h,λu _ K' h=>by unfold kW;rw[hp];exact h⟩;rename_i hp;have er:nQ d=ig d:=by simp[nQ,hp]
 rw[er];split at hk;rename_i cs;obtain⟨ks',ds',k1,m1,l1⟩:=lO hk;exact⟨ks',_,k1,m1,λu hu K' h=>by unfold kW;rw[hp];exact l1 u hu _ h⟩;rename_i hna;obtain⟨ks',ds',k1,m1,l1⟩:=lO hk;split at k1;rename_i d';have e:ig.go [d]=ig d:=by cases d<;>first|rfl|exact absurd rfl (hna _)
 rw[e]at m1 l1;refine⟨ks',d',k1,m1,λu hu K' h=> ?_⟩;have e2:kW u ks d K' =gG u ks [d] (λks ds=>match ds with|[d]=>K' ks d|_=>False):=by unfold kW;rw[hp];cases d<;>first|rfl|exact absurd rfl (hna _)
 rw[e2];exact l1 u hu _ h;exact iN
def DM(H:Nat->Option au)(l:Nat)(ls:List Nat):tM H (l::ls)=(match H l with|some d=>nQ d|none=>[])++tM H ls:=rfl
theorem zf{s:St}:∀{ls ks:List Nat} {K:List Nat->List au->Prop},gS s ks ls K->∃ks' H,K ks' H∧(∀k∈ks',k∈ks∨k∈tM s.H ls)∧∀u:St,(∀l∈ls,s.H l=u.H l)->nu (tM s.H ls) s u->∀K',K' ks' H->gS u ks ls K' |[],ks,K,hk=>⟨ks,[],hk,λk h=> .inl h,λu _ _ K' h=>h⟩|l::ls,ks,K,hk=>by simp only[mB,lA]at hk;split at hk;rename_i d hd;obtain⟨nZ,d1,k1,m1,l1⟩:=PU hk;obtain⟨su,H2,k2,m2,l2⟩:=zf k1;rw[DM,hd];refine⟨su,_,k2,λx hx=> ?_,λu hH hu K' h=> ?_⟩;rw[dY];rcases m2 x hx with h|h;rcases m1 x h with h|h;exact iM;exact xL;exact xK;simp only[mB,lA];rw[<-hH l O,hd];exact l1 u hu.left _ (l2 u (λx hx=>hH x xY) hu.right _ h);exact aq
theorem Hl{s u:St}:∀{ks:List Nat},nu ks s u->rowsOf s ks=rowsOf u ks|[],_=>rfl|k::ks,h=>by simp only[rowsOf];rw[h k O,Hl (λx hx=>h x xY)]
theorem GG{H:Nat->Option au}{ls ms:List Nat}(h:∀l∈ls,l∈ms):∀k∈tM H ls,k∈tM H ms:=by
 have key:∀(ls:List Nat) (k:Nat),k∈tM H ls↔∃l∈ls,∃d,H l=some d∧k∈nQ d:=by
  intro ls;induction ls with
  |nil=>intro k;simp[tM]
  |cons l ls ih=>
   intro k;rw[DM,dY,ih];constructor
   ·rintro (h1|⟨x,hx,d,hd,hk⟩)
    cases hl:H l with|none=>rw[hl]at h1;cases h1|some d=>rw[hl]at h1;exact⟨l,O,d,hl,h1⟩
    exact⟨x,xY,d,hd,hk⟩
   ·rintro ⟨x,hx,d,hd,hk⟩
    rcases b_.1 hx with e|e;subst e;rw[hd];exact .inl hk;exact .inr ⟨x,e,d,hd,hk⟩
 intro k hk;rw[key]at hk ⊢;obtain⟨l,hl,r⟩:=hk;exact⟨l,h l hl,r⟩
theorem vV{ks:List Nat}{t:Nat}{R R' :Nat->Option Row}:∀{rs:List Row} {i:Nat},i+rs.length<=ks.length+4->(∀j,j<4->R (5000+10*t+j)=R' (5000+10*t+j))->fF ks t R i rs=fF ks t R' i rs|[],_,_,_=>rfl|r::rs,i,h1,h2=>by simp only[fF];simp only[fw]at h1;rw[vV (i:=i+1) E h2];cases hn:nth ks i with|some k=>rfl|none=>have hge:ks.length<=i:=(by rcases jl i ks.length with h|h;obtain⟨x,hx⟩:=bO h;rw[hn]at hx;cases hx;exact h);dsimp only;rw[h2 (i - ks.length) E]
def uT:=@List.not_mem_nil
def Bh:=@List.flatMap_nil
def qE:=@or_false
def RX(h:G:=by rw[<-hz];simp only[gO];rw[hu.R k (.inl (by simp[fX]))]):=h
def VV(h:G:=by simp[fX,refsOf,ig,ew]):=h
def Fb(h:G:=by simp[refsOf,ew,ig]):=h
def Vw(h:G:=by simp only[gO];rw[hku]):=h
def pq(h:G:=by simp[fX,dg]):=h
def E0(h:G:=by simp[fX,hx]):=h
def ed(h:G:=by simp[fX]):=h
def Rv(h:G:=by simp only[aC];rw[<-hu.R t (.inr (by simp[fX,dg])),ht];exact⟨hk.h,h⟩):=h
def AM(h:G:=by exact .inl ⟨by rw[a],by rw[b]⟩):=h
def Vk(h:G:=by simp only[aC];rw[hzu u hu];dsimp only;rw[<-hu.R k (.inl (by simp[fX])),hr];dsimp only;rw[hown];exact h2 _ h):=h
def Vf(h:G:=by simp only[mS,Bh,jV,b_,uT,qE];omega):=h
def Li(h:G:=by rw[<-hu.R t (.inr (by simp[fX,dg])),ht];exact h):=h
def U7(h:G:=by simp only[aC];rw[<-hu.R k (.inl (by simp[fX])),hr,hz];dsimp only;rw[ho];exact h2 _ h):=h
def U3(h:G:=by exact⟨λ_=> .inl ⟨rfl,rfl⟩,λ_=> .inl ⟨rfl,rfl⟩,λ_=> .inl ⟨rfl,rfl⟩⟩):=h
def UT(h:G:=by rw[<-hu.R k (.inr (by simp[fX])),hr];dsimp only;rw[hz];exact⟨some i,hf,h⟩):=h
def jx(h:G:=by exact h1.elim):=h
def UR(h:G:=by rw[<-hu.R k (.inr (by simp[fX])),hr];dsimp only;rw[hz];exact⟨none,hf,h⟩):=h
def Uz(h:G:=by simp only[aC];rw[hh];dsimp only;unfold wR;rw[hp];exact h):=h
def Eo(h:G:=by simpa[fX]using hx):=h
structure vP(s u s' u' :St)(dst:Option Nat)(wh wr:List Nat):Prop where
 env:∀t,(s'.env t=s.env t∧u'.env t=u.env t)∨(s'.env t=u'.env t∧dst=some t)
 H:∀l,(s'.H l=s.H l∧u'.H l=u.H l)∨(s'.H l=u'.H l∧l∈wh)
 R:∀k,(s'.R k=s.R k∧u'.R k=u.R k)∨(s'.R k=u'.R k∧k∈wr)
structure Agr(r:Rec)(s u:St):Prop where
 H:∀l,l∈r.rh∨l∈r.wh->s.H l=u.H l
 R:∀k,k∈r.rr∨k∈r.wr->s.R k=u.R k
 L:∀q∈r.ld,pr (s.H q.1) q=pr (u.H q.1) q
def nT{α:Type}(e f:Nat->Option α)(t:Nat)(d:Option α)(x:Nat):(aW e t d x=e x∧aW f t d x=f x)∨(aW e t d x=aW f t d x∧x=t):=by by_cases h:x=t;exact .inr ⟨by rw[h,bw,bw],h⟩;exact .inl ⟨aO _ _ _ _ h,aO _ _ _ _ h⟩
theorem vP.put(s u:St)(dst:Option Nat)(d:au)(wh wr:List Nat):vP s u (s.put dst d) (u.put dst d) dst wh wr:=by cases dst with|none=>exact U3|some t=>refine⟨λx=> ?_,λ_=> .inl ⟨rfl,rfl⟩,λ_=> .inl ⟨rfl,rfl⟩⟩;exact(nT s.env u.env t (some d) x).imp id λ⟨a,b⟩=>⟨a,by rw[b]⟩
theorem vP.forget(s u:St)(dst:Option Nat)(wh wr:List Nat):vP s u (s.forget dst) (u.forget dst) dst wh wr:=by cases dst with|none=>exact U3|some t=>refine⟨λx=> ?_,λ_=> .inl ⟨rfl,rfl⟩,λ_=> .inl ⟨rfl,rfl⟩⟩;exact(nT s.env u.env t (some (.bS [])) x).imp id λ⟨a,b⟩=>⟨a,by rw[b]⟩
def jO.comp{W:List Nat}{s u s1 u1 s2 u2:St}{dst:Option Nat}{wh wr:List Nat}(h:jO W s u s1 u1)(hW:∀k∈W,k∈wr)(k:vP s1 u1 s2 u2 dst wh wr):vP s u s2 u2 dst wh wr:=⟨λt=>by have:=k.env t;rw[h.e1,h.e2]at this;exact dj,λt=>by have:=k.H t;rw[h.h1,h.h2]at this;exact dj,λx=>by rcases k.R x with⟨a,b⟩|⟨a,b⟩;rcases h.R x with⟨c,d⟩|⟨c,d⟩;exact .inl ⟨a.trans c,b.trans d⟩;exact .inr ⟨by rw[a,b,c],hW x d⟩;exact .inr ⟨a,b⟩⟩
def vP.of{s u s' u' :St}{dst:Option Nat}{wh wr:List Nat}(he:(s'.env=s.env∧u'.env=u.env)∨∃t d,dst=some t∧s'.env=aW s.env t d∧u'.env=aW u.env t d)(hH:(s'.H=s.H∧u'.H=u.H)∨∃t d,t∈wh∧s'.H=aW s.H t d∧u'.H=aW u.H t d)(hR:(s'.R=s.R∧u'.R=u.R)∨∃t d,t∈wr∧s'.R=aW s.R t d∧u'.R=aW u.R t d):vP s u s' u' dst wh wr:=by
 refine⟨λx=> ?_,λx=> ?_,λx=> ?_⟩;rcases he with⟨a,b⟩|⟨t,d,h,a,b⟩;exact AM;rw[a,b];exact(nT _ _ t d x).imp id λ⟨a,b⟩=>⟨a,by rw[b,h]⟩
 rcases hH with⟨a,b⟩|⟨t,d,h,a,b⟩;exact AM;rw[a,b];exact(nT _ _ t d x).imp id λ⟨a,b⟩=>⟨a,by rw[b];exact h⟩
 rcases hR with⟨a,b⟩|⟨t,d,h,a,b⟩;exact AM;rw[a,b];exact(nT _ _ t d x).imp id λ⟨a,b⟩=>⟨a,by rw[b];exact h⟩
def vP.two{s u s' u' :St}{dst:Option Nat}{wh wr:List Nat}(he:(s'.env=s.env∧u'.env=u.env)∨∃t d,dst=some t∧s'.env=aW s.env t d∧u'.env=aW u.env t d)(hH:s'.H=s.H∧u'.H=u.H){q k:Nat}{dq dk:Option Row}(hq:q∈wr)(hk:k∈wr)(a:s'.R=aW (aW s.R q dq) k dk)(b:u'.R=aW (aW u.R q dq) k dk):vP s u s' u' dst wh wr:=by
 have h1:vP s u s' u' dst wh wr∨True:= .inr trivial;refine⟨λx=> ?_,λx=> .inl ⟨by rw[hH.1],by rw[hH.2]⟩,λx=> ?_⟩;rcases he with⟨a,b⟩|⟨t,d,h,a,b⟩;exact AM;rw[a,b];exact(nT _ _ t d x).imp id λ⟨a,b⟩=>⟨a,by rw[b,h]⟩
 rw[a,b];by_cases e1:x=k;exact .inr ⟨by rw[e1,bw,bw],e1▸hk⟩;rw[aO _ _ _ _ e1,aO _ _ _ _ e1];exact(nT _ _ q dq x).imp id λ⟨a,b⟩=>⟨a,b▸hq⟩
def yD{s u:St}{sz:Nat}{d:au}(h:nu (refsOf [d]) s u):gO s sz d=gO u sz d:=by cases d with|ref k n=>simp only[gO];rw[h k Fb]|cQ k n=>simp only[gO];rw[h k Fb]|sub k j n=>simp only[gO];rw[h k Fb]|_=>rfl
def qY{s u:St}{d:au}{K:List au->Prop}(hk:lq s d K):∃es,K es∧(nu (refsOf [d]) s u->∀K',K' es->lq u d K'):=by cases d with|ref k n=>simp only[lq]at hk;split at hk;rename_i r hr;refine⟨_,hk.k,λh K' hK=> ?_⟩;simp only[lq];rw[<-h k Fb,hr];exact⟨hk.h,hK⟩;exact aq|sl z es b=>exact⟨_,hk,λ_ K' h=>h⟩|str b=>exact⟨_,hk,λ_ K' h=>h⟩|_=>exact aq
def mL{n:Nat}{es:List au}{i:Int}{K:au->Prop}(hk:bt n es i K):∃d,K d∧nth es i.toNat=some d∧∀K' :au->Prop,K' d->bt n es i K' :=by obtain⟨d,h1,h2,h3,h4⟩:=hk.out;exact⟨d,h4,h3,λK' h=>⟨d,h1,h2,h3,h⟩⟩
theorem BK{ks:List Nat}{t:Nat}:∀{ls:List Nat} {ds:List au} {H H' :Nat->Option au} (l:Nat),(fC ks t H ls ds l=H l∧fC ks t H' ls ds l=H' l)∨(fC ks t H ls ds l=fC ks t H' ls ds l∧l∈ls)
 |[],ds,H,H',l=>by cases ds<;>exact .inl ⟨rfl,rfl⟩|x::ls,[],H,H',l=> .inl ⟨rfl,rfl⟩
 |x::ls,d::ds,H,H',l=>by
  simp only[fC];rcases BK (ks:=ks) (t:=t) (ls:=ls) (ds:=ds) (H:=aW H x (some (back ks t d))) (H' :=aW H' x (some (back ks t d))) l with⟨a,b⟩|⟨a,b⟩;rw[a,b];exact(nT H H' x _ l).imp id λ⟨c,d⟩=>⟨c,by simp[d]⟩
  exact .inr ⟨a,by simp[b]⟩
theorem wQ{ks:List Nat}{t:Nat}(hn:ks.Nodup∨True):∀{rs:List Row} {i:Nat} {R R' :Nat->Option Row} {rn rn' :List Nat} (_:i+rs.length<=ks.length+4) (k:Nat),((dC ks t R rn i rs).1 k=R k∧(dC ks t R' rn' i rs).1 k=R' k)∨((dC ks t R rn i rs).1 k=(dC ks t R' rn' i rs).1 k∧(k∈ks∨∃j,j<4∧k=5000+10*t+j))
 |[],i,R,R',rn,rn',_,k=> .inl ⟨rfl,rfl⟩
 |r::rs,i,R,R',rn,rn',h,k=>by
  simp only[fw]at h;simp only[dC];cases hi:nth ks i with
  |some k0=>
   dsimp only;rcases wQ (ks:=ks) (t:=t) hn (rs:=rs) (i:=i+1) (R:=aW R k0 (some r)) (R' :=aW R' k0 (some r)) (rn:=rn) (rn' :=rn') E k with⟨a,b⟩|⟨a,b⟩;rw[a,b];exact(nT R R' k0 _ k).imp id λ⟨c,d⟩=>⟨c,.inl (by rw[d];exact dr hi)⟩
   exact .inr ⟨a,b⟩
  |none=>
   dsimp only;have hge:ks.length<=i:=ZH
   rcases wQ (ks:=ks) (t:=t) hn (rs:=rs) (i:=i+1) (R:=aW R (5000+10*t+(i - ks.length)) (some r)) (R' :=aW R' (5000+10*t+(i - ks.length)) (some r)) (rn:=(5000+10*t+(i - ks.length))::rn) (rn' :=(5000+10*t+(i - ks.length))::rn') E k with⟨a,b⟩|⟨a,b⟩;rw[a,b];exact(nT R R' _ _ k).imp id λ⟨c,d⟩=>⟨c,.inr ⟨i - ks.length,E,d⟩⟩
   exact .inr ⟨a,b⟩
theorem ae0{P:Program}{c:mN}{dst:Option Nat}{s:St}{K:St->Prop}{p:DD}(hk:aC P c dst s K p):∃s',K s' ∧∀u,Agr (fX dst s p) s u->∃u',vP s u s' u' dst (fX dst s p).wh (fX dst s p).wr∧∀K' :St->Prop,K' u' ->aC P c dst u K' p:=by
 have en:∀{d:au} {r:Rec},K (s.put dst d)->(∀u,Agr r s u->∀K' :St->Prop,K' (u.put dst d)->aC P c dst u K' p)->
  ∃s',K s' ∧∀u,Agr r s u->∃u',vP s u s' u' dst r.wh r.wr∧∀K' :St->Prop,K' u' ->aC P c dst u K' p:=
  λ{d r} h1 h2=>⟨_,h1,λu hu=>⟨_,vP.put s u dst d _ _,h2 u hu⟩⟩
 cases p with
 |val d=>exact en hk λu _ K' h=>h|BU q d=>exact en hk.k λu _ K' h=>⟨hk.h,h⟩|arith k x=>exact en hk.out λu _ K' h=>⟨h⟩
 |load a n agg=>
  cases a with
  |ptr l off=>
   simp only[aC]at hk;split at hk;rename_i d hd;split at hk;rename_i e he;refine en hk λu hu K' h=> ?_;simp only[aC];have hq:=hu.L (l,off,n,agg) ed;rw[hd]at hq;simp only[pr,he]at hq;cases hdu:u.H l with|none=>rw[hdu]at hq;cases hq|some du=>rw[hdu]at hq;dsimp only at hq ⊢;rw[<-hq];exact h
   exact aq;exact aq
  |jw l off=>simp only[aC]at hk;split at hk;rename_i d hd;obtain⟨e,h1,_,h2⟩:=mL hk;refine en h1 λu hu K' h=> ?_;simp only[aC];rw[<-hu.H l (.inl ed),hd];exact h2 _ h;exact aq
  |mA d off=>simp only[aC]at hk;split at hk;rename_i e he;refine en hk λu hu K' h=> ?_;simp only[aC];rw[he];exact h;exact aq|tT d=>simp only[aC]at hk;split at hk;rename_i f p q hz;refine en hk λu hu K' h=> ?_;simp only[aC];rw[hz];exact h;exact aq
  |iS k m i off=>
   simp only[aC]at hk;split at hk
   ·rename_i r hr;obtain⟨e,h1,_,h2⟩:=mL hk;split at h1
    ·rename_i x hx;refine en h1 λu hu K' h=> ?_;simp only[aC];rw[<-hu.R k (.inl ed),hr];refine h2 _ ?_;try dsimp only
     rw[hx];exact h
    exact jx
   exact aq
  |j8 k m i=>simp only[aC]at hk;split at hk;rename_i r hr hz;split at hk;rename_i ho;obtain⟨e,h1,_,h2⟩:=mL hk;split at h1;refine en h1 λu hu K' h=> ?_;exact U7;refine en h1 λu hu K' h=> ?_;exact U7;exact jx;exact aq;exact aq
  |fT k j i=>simp only[aC]at hk;split at hk;rename_i r hr hz;split at hk;rename_i ho;obtain⟨xs,j1,j2⟩:=hk.out;obtain⟨e,h1,_,h2⟩:=mL j2;split at h1;refine en h1 λu hu K' h=> ?_;simp only[aC];rw[<-hu.R k (.inl ed),hr,hz];dsimp only;rw[ho];exact⟨xs,j1,h2 _ h⟩;exact jx;exact aq;exact aq
  |_=>exact aq
 |store a v n=>
  simp only[aC]at hk;split at hk;exact aq;rename_i hlen;cases a with
  |ptr l off=>dsimp only at hk;split at hk;rename_i d hd;split at hk;rename_i d' hd';refine⟨_,hk,λu hu=>⟨{u with H:=aW u.H l (some d')},vP.of (.inl ⟨rfl,rfl⟩) (.inr ⟨l,some d',ed,rfl,rfl⟩) (.inl ⟨rfl,rfl⟩),λK' h=> ?_⟩⟩;simp only[aC];rw[hlen];dsimp only;rw[<-hu.H l (.inr ed),hd];dsimp only;rw[hd'];exact h;exact aq;exact aq
  |jw l off=>
   dsimp only at hk;split at hk;rename_i cs hd;split at hk;exact aq;exact aq;rename_i hn1 hn2;refine⟨_,hk.k,λu hu=>⟨{u with H:=aW u.H l (some (.agg (cs.set off v)))},vP.of (.inl ⟨rfl,rfl⟩) (.inr ⟨l,_,ed,rfl,rfl⟩) (.inl ⟨rfl,rfl⟩),λK' h=> ?_⟩⟩;simp only[aC];rw[hlen];dsimp only;rw[<-hu.H l (.inr ed),hd];dsimp only;cases v with|agg xs=>exact absurd rfl (hn1 _)|bS xs=>exact absurd rfl (hn2 _)|_=>exact⟨hk.h,h⟩
   exact aq
  |iS k m i off=>
   dsimp only at hk;obtain⟨s1,v1,k1,l1⟩:=w7 hk;split at k1
   ·rename_i r hr;split at k1
    ·rename_i hown;obtain⟨e,h1,_,h2⟩:=mL k1;split at h1
     ·rename_i d' hd';have hW:∀x∈nQ v,x∈(fX dst s (.store (.iS k m i off) v n)).wr:=by intro x hx;simp only[fX];refine mT _ ?_;exact BJ hx
      refine⟨_,h1,λu hu=> ?_⟩;obtain⟨u1,p1,q1⟩:=l1 u (λx hx=>hu.R x (.inr (hW x hx)));have hk1:s1.R k=u1.R k:=by rcases p1.R k with⟨a,b⟩|⟨a,_⟩;rw[a,b];exact hu.R k (.inr ed);exact a
      refine⟨{u1 with R:=aW u1.R k (some {r with es:=r.es.set i.toNat d' })},p1.comp hW (vP.of (.inl ⟨rfl,rfl⟩) (.inl ⟨rfl,rfl⟩) (.inr ⟨k,_,ed,rfl,rfl⟩)),λK' h=> ?_⟩;simp only[aC];rw[hlen];dsimp only;refine q1 _ ?_;rw[<-hk1,hr];dsimp only;rw[hown];dsimp only;refine h2 _ ?_;try dsimp only
      rw[hd'];exact h
     exact jx
    exact iN
   exact iN
  |j8 k m i=>
   dsimp only at hk;split at hk
   rotate_left
   ·split at hk
    rotate_left
    exact aq;rename_i r hr;split at hk
    rotate_left
    exact aq;rename_i hc;obtain⟨e,h1,_,h2⟩:=mL hk;split at h1;refine⟨_,h1,λu hu=>⟨{u with R:=aW u.R k (some {r with es:=r.es.set i.toNat (.own [])})},vP.of (.inl ⟨rfl,rfl⟩) (.inl ⟨rfl,rfl⟩) (.inr ⟨k,_,ed,rfl,rfl⟩),λK' h=> ?_⟩⟩;simp only[aC];rw[hlen];dsimp only;rw[<-hu.R k (.inr ed),hr];dsimp only;rw[hc];exact h2 _ h;exact jx
   exact aq;rename_i q n';split at hk
   rotate_left
   exact aq;rename_i r rq hr hq;split at hk
   rotate_left
   exact aq;rename_i hc;obtain⟨e,h1,_,h2⟩:=mL hk.k;split at h1;refine⟨_,h1,λu hu=>⟨{u with R:=aW (aW u.R q (some (qd rq))) k (some {r with es:=r.es.set i.toNat (.own rq.es)})},vP.two (.inl ⟨rfl,rfl⟩) ⟨rfl,rfl⟩ VV ed rfl rfl,λK' h=> ?_⟩⟩;simp only[aC];rw[hlen];dsimp only;rw[<-hu.R k (.inr ed),<-hu.R q (.inr VV),hr,hq];dsimp only;rw[hc];exact⟨hk.h,h2 _ h⟩;exact jx
  |fT k j i=>
   dsimp only at hk;split at hk
   rotate_left
   exact aq;rename_i q x r hr;split at hk
   rotate_left
   exact aq;rename_i hc;obtain⟨xs,j1,j2⟩:=hk.out;refine⟨_,j2.k,λu hu=>⟨{u with R:=aW u.R k (some {r with es:=r.es.set j (.own (xs.set i.toNat (.int q x)))})},vP.of (.inl ⟨rfl,rfl⟩) (.inl ⟨rfl,rfl⟩) (.inr ⟨k,_,ed,rfl,rfl⟩),λK' h=> ?_⟩⟩;simp only[aC];rw[hlen];dsimp only;rw[<-hu.R k (.inr ed),hr];dsimp only;rw[hc];exact⟨xs,j1,j2.h,h⟩
  |_=>exact aq
 |alloc d=>simp only[aC]at hk;split at hk;rename_i t;split at hk;rename_i hh;split at hk;rename_i ht;refine⟨_,hk,λu hu=>⟨{env:=aW u.env t (some (.ptr t 0)),H:=aW u.H t (some d),hn:=t::u.hn,R:=u.R,rn:=u.rn,y:=u.y},vP.of (.inr ⟨t,_,rfl,rfl,rfl⟩) (.inr ⟨t,_,pq,rfl,rfl⟩) (.inl ⟨rfl,rfl⟩),λK' h=> ?_⟩⟩;simp only[aC];rw[hh];dsimp only;rw[<-hu.H t (.inr pq),ht];exact h;exact aq;rename_i hh;unfold wR at hk;split at hk;rename_i hp;refine⟨_,hk,λu hu=>⟨{env:=aW u.env t (some (.mA d 0)),H:=u.H,hn:=u.hn,R:=u.R,rn:=u.rn,y:=u.y},vP.of (.inr ⟨t,_,rfl,rfl,rfl⟩) (.inl ⟨rfl,rfl⟩) (.inl ⟨rfl,rfl⟩),λK' h=> ?_⟩⟩;exact Uz;rename_i hp;split at hk;rename_i f p q;refine⟨_,hk,λu hu=>⟨{env:=aW u.env t (some (.tT (.gD f p q))),H:=u.H,hn:=u.hn,R:=u.R,rn:=u.rn,y:=u.y},vP.of (.inr ⟨t,_,rfl,rfl,rfl⟩) (.inl ⟨rfl,rfl⟩) (.inl ⟨rfl,rfl⟩),λK' h=> ?_⟩⟩;exact Uz;exact aq;exact aq
 |row sz es=>
  simp only[aC]at hk;split at hk;rename_i t;split at hk;rename_i hh;split at hk;rename_i q n hz;refine en hk λu hu K' h=> ?_;simp only[aC];rw[hh];dsimp only;rw[hz];exact h;exact aq;rename_i hh;obtain⟨s1,es1,k1,l1⟩:=DX hk;split at k1;rename_i ht;refine⟨_,k1,λu hu=> ?_⟩;obtain⟨u1,p1,q1⟩:=l1 u (λx hx=>hu.R x (.inr E0));have hk1:s1.R t=u1.R t:=by rcases p1.R t with⟨a,b⟩|⟨a,_⟩;rw[a,b];exact hu.R t (.inr pq);exact a
  refine⟨{env:=aW u1.env t (some (.ref t es1.length)),H:=u1.H,hn:=u1.hn,R:=aW u1.R t (some ⟨sz,true,es1⟩),rn:=t::u1.rn,y:=u1.y},p1.comp (λx hx=>E0) (vP.of (.inr ⟨t,_,rfl,rfl,rfl⟩) (.inl ⟨rfl,rfl⟩) (.inr ⟨t,_,pq,rfl,rfl⟩)),λK' h=> ?_⟩;simp only[aC];rw[hh];dsimp only;refine q1 _ ?_;rw[<-hk1,ht];exact h;exact iN;exact aq
 |idx sz a i=>
  simp only[aC]at hk;split at hk;exact aq;rename_i hz;cases a with
  |sl z es b=>obtain⟨e,h1,_,h2⟩:=mL hk;refine en h1 λu hu K' h=> ?_;simp only[aC];have hz' :gO u sz (.sl z es b)=true:=hz;rw[hz'];exact h2 _ h
  |ref k n=>
   dsimp only at hk;have hzu:∀u,Agr (fX dst s (.idx sz (.ref k n) i)) s u->gO u sz (.ref k n)=true:=λu hu=>RX
   split at hk;rename_i r hr;split at hk;rename_i hown;obtain⟨e,h1,_,h2⟩:=mL hk;refine en h1 λu hu K' h=> ?_;exact Vk;rename_i hown;obtain⟨e,h1,_,h2⟩:=mL hk;refine en h1 λu hu K' h=> ?_;exact Vk;exact aq
  |cQ k n=>
   dsimp only at hk;have hzu:∀u,Agr (fX dst s (.idx sz (.cQ k n) i)) s u->gO u sz (.cQ k n)=true:=λu hu=>RX
   split at hk;rename_i r hr;obtain⟨e,h1,_,h2⟩:=mL hk;refine en h1 λu hu K' h=> ?_;simp only[aC];rw[hzu u hu];dsimp only;rw[<-hu.R k (.inl ed),hr];exact h2 _ h;exact aq
  |sub k j n=>
   dsimp only at hk;have hzu:∀u,Agr (fX dst s (.idx sz (.sub k j n) i)) s u->gO u sz (.sub k j n)=true:=λu hu=>RX
   split at hk;rename_i r hr;obtain⟨xs,j1,j2⟩:=hk.out;refine en j2.k λu hu K' h=> ?_;simp only[aC];rw[hzu u hu];dsimp only;rw[<-hu.R k (.inl ed),hr];exact⟨xs,j1,j2.h,h⟩;exact aq
  |_=>exact aq
 |make sz z n m=>
  simp only[aC]at hk;split at hk;rename_i t;split at hk
  ·rename_i ht;cases z with
   |sl y es b=>cases es with|nil=>dsimp only at hk;refine⟨_,hk.k,λu hu=>⟨{env:=aW u.env t (some (.ref t n.toNat)),H:=u.H,hn:=u.hn,R:=aW u.R t (some ⟨sz,true,List.replicate n.toNat (.sl y [] false)⟩),rn:=t::u.rn,y:=u.y},vP.of (.inr ⟨t,_,rfl,rfl,rfl⟩) (.inl ⟨rfl,rfl⟩) (.inr ⟨t,_,pq,rfl,rfl⟩),λK' h=> ?_⟩⟩;exact Rv|cons x xs=>dsimp only at hk;refine⟨_,hk.k,λu hu=>⟨{env:=aW u.env t (some (.ref t n.toNat)),H:=u.H,hn:=u.hn,R:=aW u.R t (some ⟨sz,true,List.replicate n.toNat (.sl y (x::xs) b)⟩),rn:=t::u.rn,y:=u.y},vP.of (.inr ⟨t,_,rfl,rfl,rfl⟩) (.inl ⟨rfl,rfl⟩) (.inr ⟨t,_,pq,rfl,rfl⟩),λK' h=> ?_⟩⟩;exact Rv
   |_=>dsimp only at hk;refine⟨_,hk.k,λu hu=>⟨{env:=aW u.env t (some (.ref t n.toNat)),H:=u.H,hn:=u.hn,R:=aW u.R t (some ⟨sz,true,List.replicate n.toNat _⟩),rn:=t::u.rn,y:=u.y},vP.of (.inr ⟨t,_,rfl,rfl,rfl⟩) (.inl ⟨rfl,rfl⟩) (.inr ⟨t,_,pq,rfl,rfl⟩),λK' h=> ?_⟩⟩;exact Rv
  exact aq;exact aq
 |adk=>simp only[aC]at hk;split at hk;rename_i t;split at hk;rename_i ht;refine⟨_,hk,λu hu=>⟨{env:=aW u.env t (some (.dQ t)),H:=u.H,hn:=u.hn,R:=aW u.R t (some ⟨0,true,[]⟩),rn:=t::u.rn,y:=u.y},vP.of (.inr ⟨t,_,rfl,rfl,rfl⟩) (.inl ⟨rfl,rfl⟩) (.inr ⟨t,_,pq,rfl,rfl⟩),λK' h=> ?_⟩⟩;simp only[aC];exact Li;exact aq;exact aq
 |X5 k q n v=>
  simp only[aC]at hk;split at hk;exact aq;split at hk;exact aq;rename_i hp;split at hk;rename_i r hr;split at hk;rename_i hz;obtain⟨i,hf,hk⟩:=hk;cases i with|none=>refine⟨_,hk,λu hu=>⟨{u with R:=aW u.R k (some ⟨0,true,r.es++[.me (.int q n) v]⟩)},vP.of (.inl ⟨rfl,rfl⟩) (.inl ⟨rfl,rfl⟩) (.inr ⟨k,_,ed,rfl,rfl⟩),λK' h=> ?_⟩⟩;simp only[aC];rw[hp];dsimp only;exact UR|some i=>refine⟨_,hk,λu hu=>⟨{u with R:=aW u.R k (some ⟨0,true,r.es.set i (.me (.int q n) v)⟩)},vP.of (.inl ⟨rfl,rfl⟩) (.inl ⟨rfl,rfl⟩) (.inr ⟨k,_,ed,rfl,rfl⟩),λK' h=> ?_⟩⟩;simp only[aC];rw[hp];dsimp only;exact UT
  exact aq;exact aq
 |ado k q n z ok=>
  simp only[aC]at hk;split at hk;rename_i r hr;split at hk;rename_i hz;obtain⟨i,hf,hk⟩:=hk;cases i with|none=>refine en hk λu hu K' h=> ?_;simp only[aC];rw[<-hu.R k (.inl ed),hr];dsimp only;rw[hz];exact⟨none,hf,h⟩|some i=>obtain⟨kd,v,hv,hk⟩:=hk;refine en hk λu hu K' h=> ?_;simp only[aC];rw[<-hu.R k (.inl ed),hr];dsimp only;rw[hz];exact⟨some i,hf,kd,v,hv,h⟩
  exact aq;exact aq
 |adr k q n=>
  simp only[aC]at hk;split at hk;exact aq;split at hk;rename_i r hr;split at hk;rename_i hz;obtain⟨i,hf,hk⟩:=hk;cases i with|none=>refine⟨_,hk,λu hu=>⟨u,vP.of (.inl ⟨rfl,rfl⟩) (.inl ⟨rfl,rfl⟩) (.inl ⟨rfl,rfl⟩),λK' h=> ?_⟩⟩;simp only[aC];exact UR|some i=>refine⟨_,hk,λu hu=>⟨{u with R:=aW u.R k (some ⟨0,true,r.es.set i .md⟩)},vP.of (.inl ⟨rfl,rfl⟩) (.inl ⟨rfl,rfl⟩) (.inr ⟨k,_,ed,rfl,rfl⟩),λK' h=> ?_⟩⟩;simp only[aC];exact UT
  exact aq;exact aq
 |adl k=>simp only[aC]at hk;split at hk;rename_i r hr;split at hk;rename_i hz;refine en hk λu hu K' h=> ?_;simp only[aC];rw[<-hu.R k (.inl ed),hr];dsimp only;rw[hz];exact h;exact aq;exact aq|Ek es nl ne=>simp only[aC]at hk;cases nl with|true=>exact en hk λu hu K' h=>h|false=>exact en hk.k λu hu K' h=>⟨hk.h,h⟩
 |akd l off m sz i=>exact en hk.k λu hu K' h=>⟨hk.h,h⟩|part cs i=>obtain⟨e,h1,_,h2⟩:=mL hk;exact en h1 λu hu K' h=>h2 _ h
 |ahv b i=>obtain⟨x,h1,h2,h3⟩:=hk.out;exact en h3 λu hu K' h=>⟨x,h1,h2,h⟩
 |app sz a b=>
  simp only[aC]at hk;split at hk;exact aq;rename_i hz;split at hk;rename_i z es t;obtain⟨xs,h1,h2⟩:=qY (u:=s) hk;have key:∀u,Agr (fX (some t) s (.app sz (.sl z es true) b)) s u->nu (refsOf [b]) s u:=λu hu x hx=>hu.R x (.inl Eo);have hR:=h1.k;split at hR;rename_i ht;refine⟨_,hR,λu hu=>⟨{env:=aW u.env t (some (.ref t xs.length)),H:=u.H,hn:=u.hn,R:=aW u.R t (some ⟨sz,true,xs⟩),rn:=t::u.rn,y:=u.y},vP.of (.inr ⟨t,_,rfl,rfl,rfl⟩) (.inl ⟨rfl,rfl⟩) (.inr ⟨t,_,pq,rfl,rfl⟩),λK' h=> ?_⟩⟩;simp only[aC];have hz' :(gO u sz (.sl z es true)&&gO u sz b)=true:=by rw[<-yD (key u hu)];exact hz
  rw[hz'];dsimp only;have hk' :lq s b λys=>ys=xs:=h2 (λ_ _=>rfl) _ rfl;obtain⟨ys,e1,e2⟩:=qY (u:=u) hk';subst e1;refine e2 (key u hu) _ ⟨h1.h,?_⟩;exact Li;exact hR.elim;rename_i k n t;have key:∀u,Agr (fX (some t) s (.app sz (.ref k n) b)) s u->nu (refsOf [b]) s u:=λu hu x hx=>hu.R x (.inl Eo);split at hk;rename_i r hr;obtain⟨xs,h1,h2⟩:=qY (u:=s) hk;refine⟨_,h1.k,λu hu=>⟨{u with env:=aW u.env t (some (.ref k (r.es++xs).length)),R:=aW u.R k (some {r with es:=r.es++xs})},vP.of (.inr ⟨t,_,rfl,rfl,rfl⟩) (.inl ⟨rfl,rfl⟩) (.inr ⟨k,_,ed,rfl,rfl⟩),λK' h=> ?_⟩⟩;simp only[aC];have hku:s.R k=u.R k:=hu.R k (.inr ed);have hz' :(gO u sz (.ref k n)&&gO u sz b)=true:=by
   rw[<-yD (key u hu)];have:gO u sz (.ref k n)=gO s sz (.ref k n):=Vw
   rw[this];exact hz
  rw[hz'];dsimp only;rw[<-hku,hr];dsimp only;have hk' :lq s b λys=>ys=xs:=h2 (λ_ _=>rfl) _ rfl;obtain⟨ys,e1,e2⟩:=qY (u:=u) hk';subst e1;exact e2 (key u hu) _ ⟨h1.h,h⟩;exact aq
  ·rename_i k n t;split at hk
   rotate_left
   exact aq;rename_i q n';split at hk
   rotate_left
   exact aq;rename_i r rq hr hq;split at hk
   rotate_left
   exact aq;rename_i hc;refine⟨_,hk.k,λu hu=>⟨{u with env:=aW u.env t (some (.cQ k (r.es.length+1))),R:=aW (aW u.R q (some (qd rq))) k (some {r with es:=r.es++[.own rq.es]})},vP.two (.inr ⟨t,_,rfl,rfl,rfl⟩) ⟨rfl,rfl⟩ ed ed rfl rfl,λK' h=> ?_⟩⟩;have hku:s.R k=u.R k:=hu.R k (.inr ed);have hqu:s.R q=u.R q:=hu.R q (.inr ed);simp only[aC];have hz' :(gO u sz (.cQ k n)&&gO u sz (.lit q n'))=true:=by have:gO u sz (.cQ k n)=gO s sz (.cQ k n):=Vw;rw[this];exact hz
   rw[hz'];dsimp only;rw[<-hku,<-hqu,hr,hq];dsimp only;rw[hc];exact⟨hk.h,h⟩
  exact aq
 |sub sz a lo hi=>
  simp only[aC]at hk;split at hk;rename_i b;exact en hk.k λu hu K' h=>⟨hk.h,h⟩;rename_i hns;split at hk;exact aq;rename_i hz;obtain⟨s1,a1,k1,l1⟩:=w7 hk;have hW:∀x∈nQ a,x∈refsOf [a]:=by intro x hx;exact BJ hx
  split at k1;rename_i z es bb;split at k1;rename_i hzz;refine⟨_,k1.k,λu hu=> ?_⟩;have hag:nu (refsOf [a]) s u:=λx hx=>hu.R x (.inr Eo);obtain⟨u1,p1,q1⟩:=l1 u (λx hx=>hag x (hW x hx));refine⟨_,p1.comp (wr:=(fX dst s (.sub sz a lo hi)).wr) (λx hx=>by simpa[fX]using hW x hx) (vP.put s1 u1 dst (.sl sz (cut es lo hi) false) _ _),λK' h=> ?_⟩
  have e:aC P c dst u K' (.sub sz a lo hi)=(match gO u sz a with
   |false=>False
   |true=>nY u a λs a=>match a with
    | .sl z es _=>match Nat.beq z sz with
      |true=>kQ (0<=lo.getD 0∧lo.getD 0<=hi.getD es.length∧hi.getD es.length<=es.length) (K' (s.put dst (.sl sz (cut es lo hi) false)))
      |false=>False
    |_=>False):=by
   cases a<;>first|rfl|exact absurd rfl (hns _)
  rw[e,<-yD hag,hz];refine q1 _ ?_;dsimp only;rw[hzz];exact⟨k1.h,h⟩;exact iN;exact iN
 |sel b x y=>simp only[aC]at hk;cases b with|true=>have:=hk.t rfl;split at this;rename_i d;exact en this λu _ K' h=>⟨λ_=>h,λe=>bK⟩;exact this.elim|false=>have:=hk.f rfl;split at this;rename_i d;exact en this λu _ K' h=>⟨λe=>bK,λ_=>h⟩;exact this.elim
 |bytes e b=>simp only[aC]at hk;split at hk;rename_i t;split at hk;rename_i ht;refine⟨_,hk,λu hu=>⟨{env:=aW u.env t (some (.ref t b.length)),H:=u.H,hn:=u.hn,R:=aW u.R t (some ⟨1,false,b.map λc=> .int .u8 c.toNat⟩),rn:=t::u.rn,y:=u.y},vP.of (.inr ⟨t,_,rfl,rfl,rfl⟩) (.inl ⟨rfl,rfl⟩) (.inr ⟨t,_,pq,rfl,rfl⟩),λK' h=> ?_⟩⟩;simp only[aC];exact Li;exact aq;exact aq|text a=>simp only[aC]at hk;split at hk;exact aq;rename_i hz;obtain⟨es,h1,h2⟩:=qY (u:=s) hk;obtain⟨b,hb,h1⟩:=h1.out;refine en h1 λu hu K' h=> ?_;have hag:nu (refsOf [a]) s u:=λx hx=>hu.R x (.inl Eo);simp only[aC];rw[<-yD hag,hz];dsimp only;have hk' :lq s a λys=>ys=es:=h2 (λ_ _=>rfl) _ rfl;obtain⟨ys,e1,e2⟩:=qY (u:=u) hk';subst e1;refine e2 hag _ ?_;exact⟨b,hb,h⟩
 |call f args=>
  simp only[aC]at hk;split at hk
  rotate_left
  exact aq;rename_i t;obtain⟨s1,ls,nZ,args',k1,m1,n1,hH1,l1⟩:=B5 hk;obtain⟨ks,H,k2,m2,l2⟩:=zf k1;split at k2
  rotate_left
  exact k2.elim;rename_i R hR;obtain⟨r,m,hc,k3⟩:=k2.out;split at k3
  rotate_left
  exact k3.elim;rename_i hb;have hb' :=hb;simp only[aX]at hb';have hlen:=pX hb'.2.2;have hls:∀l∈ls,l∈zS args:=λl hl=>(m1 l hl).resolve_left O;have aui:∀k∈nZ,k∈refsOf args:=λl hl=>(n1 l hl).resolve_left O;have hks:∀k∈ks,k∈(fX (some t) s (.call f args)).wr:=λk hk=>by simp only[fX,dY];refine .inr ?_;rcases m2 k hk with h|h;exact .inl (aui k h);rw[hH1]at h;exact .inr (GG hls k h)
  refine⟨_,k3,λu hu=> ?_⟩;have hRu:∀k∈(fX (some t) s (.call f args)).wr,s.R k=u.R k:=λk hk=>hu.R k (.inr hk);obtain⟨u1,p1,q1⟩:=l1 u (λx hx=>hRu x E0);have hR1:∀k∈(fX (some t) s (.call f args)).wr,s1.R k=u1.R k:=λk hk=>by rcases p1.R k with⟨a,b⟩|⟨a,_⟩;rw[a,b];exact hRu k hk;exact a
  have hHu:∀l∈ls,s1.H l=u1.H l:=λl hl=>by rw[hH1,p1.h2];exact hu.H l (.inr (by simpa[fX]using hls l hl))
  have aqj:∀j,j<4->(5000+10*t+j)∈(fX (some t) s (.call f args)).wr:=λj hj=>by
   simp only[fX,dg,dY];refine .inl ?_;have:j=0∨j=1∨j=2∨j=3:=E
   exact Vf
  refine⟨{env:=aW u1.env t (some (back ks t r)),H:=fC ks t u1.H ls m.H,hn:=u1.hn,R:=(dC ks t u1.R u1.rn 0 m.R).1,rn:=(dC ks t u1.R u1.rn 0 m.R).2,y:=u1.y},p1.comp (λx hx=>E0) ⟨λx=> ?_,λx=> ?_,λx=> ?_⟩,λK' h=> ?_⟩;exact(nT s1.env u1.env t _ x).imp id λ⟨a,b⟩=>⟨a,by rw[b]⟩;exact(BK x).imp id λ⟨a,b⟩=>⟨a,by simpa[fX]using hls x b⟩;refine(wQ (.inr trivial) E x).imp id λ⟨a,b⟩=>⟨a,?_⟩;rcases b with b|⟨j,hj,rfl⟩
  exact hks x b;exact aqj j hj;simp only[aC];refine q1 _ (l2 u1 hHu (λx hx=>hR1 x ?_) _ ?_);simp only[fX,dY];rw[hH1]at hx;exact .inr (.inr (GG hls x hx));rw[<-Hl (s:=s1) (λx hx=>hR1 x (hks x hx)),hR];dsimp only;refine⟨r,m,hc,?_⟩;rw[<-vV (R:=s1.R) E (λj hj=>hR1 _ (aqj j hj)),hb];exact h
 |yield=>exact aq|yS=>exact aq|bad=>exact aq
def tH:=@of_decide_eq_true
def Be:=@List.mem_range
def Fk:=@List.mem_flatMap
def MZ:=@Bool.or_eq_false_iff
def MV:=@List.map_congr_left
def Z0(h:G:=by rw[ho];simpa[Op.operands]using hx):=h
def ZS(h:G:=by subst hy;rw[ho];simp[Op.operands]):=h
def L0(h:G:=by rw[ho];exact hz):=h
def E5(h:G:=by simp[nth]at hb):=h
def LF(h:G:=by simpa using he):=h
def A5(h:G:=by simpa using hk):=h
def uK(h:G:=by rw[e];simp):=h
def aD(h:G:=by rw[ho];rfl):=h
def AH(h:G:=by simpa[nth]using hk):=h
def kS(h:G:=by exact h.elim):=h
theorem t_{ρ ρ' :TypeId->Operand->Option au}:∀{l:List Operand} {ts:List TypeId},(∀t x,x∈l->ρ t x=ρ' t x)->iu ρ l ts=iu ρ' l ts|[],ts,_=>by cases ts<;>rfl|x::l,[],h=>by simp only[iu];rw[h 0 x O,t_ (λt y hy=>h t y pk)]|x::l,t::ts,h=>by simp only[iu];rw[h t x O,t_ (λt y hy=>h t y pk)]
theorem GS{P:Program}{o:Oper}{ρ ρ' :TypeId->Operand->Option au}(h:∀t x,x∈o.op.operands->ρ t x=ρ' t x):cu P o ρ=cu P o ρ' :=by
 have two:∀{x y:Operand},o.op.operands= #[x,y]->(∀t,ρ t x=ρ' t x)∧∀t,ρ t y=ρ' t y:=λ{x y} e=>⟨λt=>h t x uK,λt=>h t y uK⟩;have one:∀{x:Operand},o.op.operands= #[x]->∀t,ρ t x=ρ' t x:=λ{x} e t=>h t x uK;have parts:∀(ps:Array (Nat×Operand)) (τ:Nat×Operand->TypeId),(∀x∈ps.toList.map (·.2),∀t,ρ t x=ρ' t x)->(ps.toList.map λp=>(p.1,ρ (τ p) p.2))=ps.toList.map λp=>(p.1,ρ' (τ p) p.2):=by intro ps τ hp;refine MV λp hm=> ?_;rw[hp p.2 (dV.2 ⟨p,hm,rfl⟩)]
 have opt:∀{x:Option Operand},(∀y,x=some y->∀t,ρ t y=ρ' t y)->zU ρ x=zU ρ' x:=by intro x hx;cases x with|none=>rfl|some y=>simp only[zU];rw[hx y rfl]
 unfold cu;cases ho:o.op with
 |move x=>dsimp only;rw[one aD]|assign x=>dsimp only;rw[one aD]|pick c x y=>have hh:∀z∈#[c,x,y],∀t,ρ t z=ρ' t z:=λz hz t=>h t z L0;dsimp only;rw[hh c O,hh x O,hh y O]|alloc t=>rfl|box t x=>dsimp only;rw[one aD]|build t ps=>dsimp only;rw[parts ps (λp=>(fieldAt P t p.1).2) λx hx t=>h t x Z0]|buildSlice t n ps=>dsimp only;rw[parts ps (λp=>xt P t) λx hx t=>h t x Z0]|load t x=>dsimp only;rw[one aD]|store t x y=>obtain⟨h1,h2⟩:=two aD;dsimp only;rw[h1,h2]
 |nilCheck x=>dsimp only;rw[one aD]|binOp op t x y t' =>obtain⟨h1,h2⟩:=two aD;dsimp only;rw[h1,h2]
 |unOp op t x=>dsimp only;rw[one aD]|convert s d x=>dsimp only;rw[one aD]|makeFunc fn first cap=>dsimp only;rw[MV (l:=first.toList) λx hx=>h 0 x (by rw[ho];simp[Op.operands];exact .inl pj),MV (l:=cap.toList) λx hx=>h 0 x (by rw[ho];simp[Op.operands];exact .inr pj)]
 |slice t x lo hi mx=>cases mx with|some m=>rfl|none=>dsimp only;rw[h t x (by rw[ho];simp[Op.operands]),opt (x:=lo) λy hy t=>h t y ZS,opt (x:=hi) λy hy t=>h t y ZS]
 |fieldAddr t x f=>dsimp only;rw[one aD]|field t x f=>dsimp only;rw[one aD]|indexAddr t x y=>obtain⟨h1,h2⟩:=two aD;dsimp only;rw[h1,h2]
 |index t x y=>obtain⟨h1,h2⟩:=two aD;dsimp only;rw[h1,h2]
 |extract x i=>dsimp only;rw[one aD]|call c=>dsimp only;unfold mF;rw[t_ (ρ:=ρ) (ρ' :=ρ') (l:=c.args.toList) λt x hx=>h t x (by rw[ho];simp[Op.operands,Call.operands];exact .inr pj)];cases hc:c.callee with|value f=>dsimp only;rw[h 0 f (by rw[ho];simp[Op.operands,Call.operands,hc])]|_=>rfl
 |makeMap t r=>cases r<;>rfl|makeSlice t x y=>obtain⟨h1,h2⟩:=two aD;dsimp only;rw[h1,h2]
 |mapUpdate t m k x=>have hh:∀z∈#[m,k,x],∀t,ρ t z=ρ' t z:=λz hz t=>h t z L0;dsimp only;rw[hh m O,hh k O,hh x O]|insert t m k x=>have hh:∀z∈#[m,k,x],∀t,ρ t z=ρ' t z:=λz hz t=>h t z L0;dsimp only;rw[hh m O,hh k O,hh x O]|lookup t x i ok=>obtain⟨h1,h2⟩:=two aD;dsimp only;rw[h1,h2]
 |_=>rfl
def aqe(P:Program)(c:mN)(all:List Oper)(o:Oper)(s:St)(K:Rec->St->Prop):Prop:=guardOf all s o (aC P c o.dst s (λs' =>K ((fX o.dst s (cu P o (cY P s))).seen s s') s') (cu P o (cY P s))) (K .nil (s.forget o.dst))
def acw(P:Program)(c:mN)(all:List Oper)(o:Oper)(u u' :St):Prop:=guardOf all u o (∀K:St->Prop,K u' ->aC P c o.dst u K (cu P o (cY P u))) (u' =u.forget o.dst)
structure yO(P:Program)(c:mN)(all:List Oper)(o:Oper)(s s' :St)(r:Rec):Prop where
 out:∀u,Agr r s u->(∀t∈jc all o,s.env t=u.env t)->∃u',vP s u s' u' o.dst r.wh r.wr∧acw P c all o u u'
 wv:∀l∈r.wh,(l,s.H l,s'.H l)∈r.wv
 wv' :∀x∈r.wv,x.1∈r.wh
def qN{all:List Oper}{s:St}{o:Oper}{X Y X' Y' :Prop}(h:guardOf all s o X Y)(hx:X->X')(hy:Y->Y'):guardOf all s o X' Y' :=by unfold guardOf at*;split at h;exact hx h;split at h;split at h;split at h;exact Tu ⟨λe=>hx ((DE h).t e),λe=>hy ((DE h).f e)⟩;exact hy h;exact kS;exact kS;exact kS
def IU{all:List Oper}{s:St}{o:Oper}{X Y:Prop}(h:guardOf all s o X Y):(X∧∀u:St,(∀t∈jc all o,s.env t=u.env t)->∀X' Y' :Prop,X' ->guardOf all u o X' Y')∨(Y∧∀u:St,(∀t∈jc all o,s.env t=u.env t)->∀X' Y' :Prop,Y' ->guardOf all u o X' Y'):=by
 unfold guardOf at h;split at h;rename_i hg;exact .inl ⟨h,λu _ X' Y' hx=>by unfold guardOf;rw[hg];exact hx⟩;rename_i j want hg;split at h;rename_i oj hj;split at h;rename_i t ht;have hmem:t∈jc all o:=by unfold jc Oper.looksAt;refine zt _ ?_;rw[hg];rw[aJ]at hj;simp[hj,ht]
 split at h;rename_i b hb;cases hbw:(b==want)with|true=>refine .inl ⟨(DE h).t hbw,λu hu X' Y' hx=> ?_⟩;unfold guardOf;rw[hg];dsimp only;rw[hj];dsimp only;rw[ht];dsimp only;rw[<-hu t hmem,hb];exact Tu ⟨λ_=>hx,λe=>by rw[hbw]at e;cases e⟩|false=>refine .inr ⟨(DE h).f hbw,λu hu X' Y' hx=> ?_⟩;unfold guardOf;rw[hg];dsimp only;rw[hj];dsimp only;rw[ht];dsimp only;rw[<-hu t hmem,hb];exact Tu ⟨λe=>by(rw[hbw]at e;cases e),λ_=>hx⟩
 rename_i hb;refine .inr ⟨h,λu hu X' Y' hx=> ?_⟩;unfold guardOf;rw[hg];dsimp only;rw[hj];dsimp only;rw[ht];dsimp only;rw[<-hu t hmem,hb];exact hx;exact kS;exact kS;exact kS
def HK{P:Program}{s u:St}{o:Oper}{all:List Oper}(h:∀t∈jc all o,s.env t=u.env t):∀t x,x∈o.op.operands->cY P s t x=cY P u t x:=by intro t x hx;cases x with|tmp n=>refine h n ?_;unfold jc Oper.looksAt;refine CO _ (List.mem_filterMap.2 ⟨.tmp n,pj,rfl⟩)|_=>rfl
def anj{P:Program}{c:mN}{all:List Oper}{o:Oper}{s:St}{K:Rec->St->Prop}(hk:aqe P c all o s K):∃r s',K r s' ∧yO P c all o s s' r:=by rcases IU hk with⟨h,hg⟩|⟨h,hg⟩;obtain⟨s',k1,l1⟩:=ae0 h;refine⟨_,s',k1,⟨λu hu he=> ?_,λl hl=>dV.2 ⟨l,hl,rfl⟩,λx hx=>by obtain⟨l,hl,rfl⟩:=dV.1 hx;exact hl⟩⟩;obtain⟨u',p,q⟩:=l1 u ⟨hu.H,hu.R,hu.L⟩;refine⟨u',p,?_⟩;have e:=GS (P:=P) (o:=o) (HK (P:=P) he);refine hg u he _ _ ?_;rw[<-e];exact q;refine⟨_,_,h,⟨λu _ he=>⟨u.forget o.dst,vP.forget s u _ _ _,?_⟩,(λl hl=>by cases hl),(λx hx=>uG)⟩⟩;exact hg u he _ _ rfl
theorem xp{P:Program}{c:mN}{all:List Oper}:∀{l:List Oper} {rs:List Rec} {s:St} {K:List Rec->St->Prop},uu P c all l rs s K->∃(S:Nat->St) (T:List Rec),S 0=s∧T.length=l.length∧K (T.reverse++rs) (S l.length)∧∀(i:Nat) o r,nth l i=some o->nth T i=some r->yO P c all o (S i) (S (i+1)) r|[],rs,s,K,h=>⟨λ_=>s,[],rfl,rfl,h,λi o r hi=>by simp[nth]at hi⟩|o::l,rs,s,K,h=>by have h' :aqe P c all o s (λr s' =>uu P c all l (r::rs) s' K):=h;obtain⟨r,s',k1,l1⟩:=anj h';obtain⟨S,T,e1,e2,k2,l2⟩:=xp k1;refine⟨λi=>match i with|0=>s|i+1=>S i,r::T,rfl,by simp[e2],by simpa using k2,λi o' r' ho hr=> ?_⟩;cases i with|zero=>simp[nth]at ho hr;subst ho hr;show yO P c all o s (S 0) r;rw[e1];exact l1|succ i=>exact l2 i o' r' (by simpa[nth]using ho) (by simpa[nth]using hr)
def xG(all:List Oper)(D:Nat->Prop):Prop:=∀k o,nth all k=some o->D k->∀e∈o.after,Region.binds .any e=true->D e.on
def Pre(o:Oper)(D:Nat->Prop):Prop:=∀e∈o.after,Region.binds .any e=true->D e.on
theorem iF{l:List Nat}{x:Nat}:je l x=true↔x∈l:=by
 induction l with
 |nil=>simp[je]
 |cons y l ih=>
  simp only[je,uS,b_,ih];constructor
  ·rintro (h|h)
   exact .inl (dw h).symm;exact .inr h
  ·rintro (h|h)
   subst h;exact .inl O;exact .inr h
def yF(b i:Nat):qM b i=b.testBit i:=by have h:Nat.land (Nat.shiftRight b i) 1=(b>>>i)%2:=Nat.and_one_is_mod _;unfold qM;rw[h,Nat.testBit_eq_decide_div_mod_eq,Nat.shiftRight_eq_div_pow];rcases Nat.mod_two_eq_zero_or_one (b / 2^i)with e|e<;>rw[e]<;>rfl
def FU(a b i:Nat):qM (Nat.lor a b) i=(qM a i||qM b i):=by rw[yF,yF,yF];exact Nat.testBit_or a b i
def N7{n i:Nat}(h:qM (Nat.pow 2 n) i=true):i=n:=by rw[yF]at h;have:(2^n).testBit i=true:=h;rw[Nat.testBit_two_pow]at this;exact(tH this).symm
def Qd(i:Nat):qM 0 i=false:=by rw[yF];exact Nat.zero_testBit i
theorem ou{all:List Oper}{D:Nat->Prop}(hD:xG all D):∀{l:List Oper} {acc:List Nat} (_:∀k o,nth l k=some o->nth all (acc.length+k)=some o) (_:∀(k:Nat) o b,nth all k=some o->nth acc k=some b->Pre o D->∀i,qM b i=true->D i),∀(k:Nat) o b,nth all k=some o->nth (l.foldl (λacc o=>acc++[o.after.toList.foldl (λm e=>bif Region.binds .any e then Nat.lor m (Nat.lor (Nat.pow 2 e.on) ((nth acc e.on).getD 0))else m) 0]) acc) k=some b->Pre o D->∀i,qM b i=true->D i
 |[],acc,_,h,k,o,b,ho,hb,hp=>h k o b ho hb hp
 |x::l,acc,hl,h,k,o,b,ho,hb,hp=>by
  simp only[sN]at hb;refine ou hD (l:=l) ?_ ?_ k o b ho hb hp;intro k o hk;have:=hl (k+1) o AH;simp only[fx,fw,kI];rw[show acc.length+(0+1)+k=acc.length+(k+1) by omega];exact dj;intro k o b ho hb hp;by_cases hk:k<acc.length;refine h k o b ho ?_ hp;rw[aJ]at hb ⊢;rwa[lj hk]at hb;have hk2:k=acc.length:=(by have:=aH hb;simp at this;omega);subst hk2;have hx:nth all acc.length=some x:=hl 0 x rfl;rw[ho]at hx;cases hx;rw[aJ,jn (cJ _),lZ]at hb;simp at hb;subst hb;have key:∀(es:List Edge) (l0:Nat),(∀e∈es,Region.binds .any e=true->D e.on)->(∀i,qM l0 i=true->D i)->
   ∀i,qM (es.foldl (λm e=>bif Region.binds .any e then Nat.lor m (Nat.lor (Nat.pow 2 e.on) ((nth acc e.on).getD 0))else m) l0) i=true->D i:=by
   intro es;induction es with
   |nil=>intro l0 _ h0;exact h0
   |cons e es ih=>
    intro l0 he h0;simp only[sN];refine ih _ (λe' he' =>he e' (by simp[he'])) ?_;cases hbind:Region.binds .any e with
    |true=>
     have hon:=he e O hbind;intro i hi;simp only[cond_true]at hi;rw[FU,FU,uS,uS]at hi;rcases hi with e2|e1|e2;exact h0 i e2;have:=N7 e1;subst this;exact hon
     ·cases hn:nth acc e.on with
      |none=>rw[hn,show(Option.none.getD 0:Nat)=0 from rfl,Qd]at e2;cases e2
      |some b' =>
       rw[hn]at e2;cases hoe:nth all e.on with
       |none=>
        exfalso;have h1:=aH hn;have h2:=aH ho;have h3:e.on<all.length:=E
        obtain⟨y,hy⟩:=bO h3;rw[hoe]at hy;cases hy
       |some oe=>exact h e.on oe b' hoe hn (λe' he' hb' =>hD e.on oe hoe hon e' he' hb') i e2
    |false=>exact h0
  have:=key x.after.toList 0 (λe he hb=>hp e LF hb) (λi hi=>by rw[Qd]at hi;cases hi);exact mO
def Yb{a b:List Nat}:meets a b=true↔∃x,x∈a∧x∈b:=by
 unfold meets;rw[List.any_eq_true];constructor;·rintro ⟨x,h1,h2⟩;exact⟨x,h1,iF.1 h2⟩
 ·rintro ⟨x,h1,h2⟩;exact⟨x,h1,iF.2 h2⟩
def iv{a b:List Nat}(h:meets a b=false){x:Nat}(h1:x∈a)(h2:x∈b):False:=by rw[Yb.2 ⟨x,h1,h2⟩]at h;cases h
structure Xk(ops:Array Oper)(T:List Rec):Prop where
 down:∀j o,nth ops.toList j=some o->∀e∈o.after,Region.binds .any e=true->e.on<j
 apart:∀(D:Nat->Prop),xG ops.toList D->∀i j,i<j->∀oi oj ri rj,nth ops.toList i=some oi->nth ops.toList j=some oj->nth T i=some ri->nth T j=some rj->Am ops.toList oi oj ri rj=true∨(Pre oj D->D i)
def xE(qs:List (Nat×Nat×Nat×Bool))(wv:List (Nat×Option au×Option au)):Prop:=∀q∈qs,∀x∈wv,q.1=x.1->pr x.2.1 q=pr x.2.2 q
structure OJ(ops:Array Oper)(T:List Rec):Prop where
 ld:∀(D:Nat->Prop),xG ops.toList D->∀i j,i<j->∀oj ri rj,nth ops.toList j=some oj->nth T i=some ri->nth T j=some rj->(xE ri.ld rj.wv∧xE rj.ld ri.wv)∨(Pre oj D->D i)
theorem z8{q:Nat×Nat×Nat×Bool}:∀{wv:List (Nat×Option au×Option au)} {K:Prop},D3 q wv K->K∧∀x∈wv,q.1=x.1->pr x.2.1 q=pr x.2.2 q
 |[],K,h=>⟨h,λx hx=>uG⟩
 |(l,a,b)::r,K,h=>by
  simp only[JC,Hp]at h;cases hb:Nat.beq q.1 l with
  |true=>rw[hb]at h;obtain⟨h1,h2⟩:=z8 h.k;refine⟨h1,λx hx e=> ?_⟩;rcases b_.1 hx with rfl|hx;exact h.h;exact h2 x hx e
  |false=>rw[hb]at h;obtain⟨h1,h2⟩:=z8 h;refine⟨h1,λx hx e=> ?_⟩;rcases b_.1 hx with rfl|hx;exfalso;have e' :q.1=l:=e;rw[e',Nat.beq_refl]at hb;cases hb;exact h2 x hx e
theorem z_:∀{qs:List (Nat×Nat×Nat×Bool)} {wv:List (Nat×Option au×Option au)} {K:Prop},Hq qs wv K->K∧xE qs wv|[],wv,K,h=>⟨h,λq hq=>by cases hq⟩|q::qs,wv,K,h=>by obtain⟨h1,h2⟩:=z8 h;obtain⟨h3,h4⟩:=z_ h1;refine⟨h3,λq' hq=> ?_⟩;rcases b_.1 hq with rfl|hq;exact h2;exact h4 q' hq
theorem Ah{bj:Nat}{rj:Rec}:∀{rs:List Rec} {i:Nat} {K:Prop},Cn bj rj i rs K->K∧∀k ri,nth rs k=some ri->qM bj (i+k)=true∨(xE ri.ld rj.wv∧xE rj.ld ri.wv)
 |[],i,K,h=>⟨h,λk ri hk=>LW⟩
 |r::rs,i,K,h=>by
  simp only[JU,HT]at h;cases hb:qM bj i with
  |true=>rw[hb]at h;obtain⟨h1,h2⟩:=Ah h;refine⟨h1,λk ri hk=> ?_⟩;cases k with|zero=>exact .inl hb|succ k=>rw[show i+(k+1)=i+1+k by omega];exact h2 k ri AH
  |false=>rw[hb]at h;obtain⟨h1,h2⟩:=z_ h;obtain⟨h3,h4⟩:=z_ h1;obtain⟨h5,h6⟩:=Ah h3;refine⟨h5,λk ri hk=> ?_⟩;cases k with|zero=>simp[nth]at hk;subst hk;exact .inr ⟨h2,h4⟩|succ k=>rw[show i+(k+1)=i+1+k by omega];exact h6 k ri AH
theorem JV{all:List Rec}{bs:List Nat}:∀{rs:List Rec} {j:Nat} {K:Prop},S' all bs j rs K->K∧∀k rj,nth rs k=some rj->∃bj,nth bs (j+k)=some bj∧∀i ri,i<j+k->nth all i=some ri->qM bj i=true∨(xE ri.ld rj.wv∧xE rj.ld ri.wv)
 |[],j,K,h=>⟨h,λk ri hk=>LW⟩
 |r::rs,j,K,h=>by
  simp only[Qz,JW]at h;split at h;rename_i bj hbj;obtain⟨h1,h2⟩:=Ah h;obtain⟨h3,h4⟩:=JV h1;refine⟨h3,λk rj hk=> ?_⟩;cases k with|zero=>simp[nth]at hk;subst hk;refine⟨bj,hbj,λi ri hi hr=> ?_⟩;have:=h2 i ri (by rw[aJ]at hr ⊢;rw[lg];simp[show i<j by omega,hr]);exact mO|succ k=>rw[show j+(k+1)=j+1+k by omega];exact h4 k rj AH
  exact kS
theorem Ic{ls:List Nat}:∀{rs:List Rec},Xh ls rs=false->∀r∈rs,∀q∈r.ld,q.1∉ls|[],_,r,hr=>by cases hr|x::rs,h,r,hr=>by simp only[Xh,MZ]at h;rcases b_.1 hr with rfl|hr;intro q hq hm;have:=List.any_eq_false.1 h.1 q hq;exact this (iF.2 hm);exact Ic h.2 r hr
def yC{α:Type}{l:List α}{i:Nat}{x:α}(h:nth l i=some x):x∈l:=K6
def Qy{ops:Array Oper}{T:List Rec}{K:Prop}(h:eqP ops.toList T K)(hw:∀r∈T,∀x∈r.wv,x.1∈r.wh):K∧OJ ops T:=by
 unfold eqP at h;split at h;rename_i hn;refine⟨h,⟨λD hD i j hij oj ri rj ho hi hj=> .inl ⟨λq hq x hx e=> ?_,λq hq x hx e=> ?_⟩⟩⟩;exact absurd (Fk.2 ⟨rj,yC hj,e▸hw rj (yC hj) x hx⟩) (Ic hn ri (yC hi) q hq);exact absurd (Fk.2 ⟨ri,yC hi,e▸hw ri (yC hi) x hx⟩) (Ic hn rj (yC hj) q hq);obtain⟨h1,h2⟩:=JV h;refine⟨h1,⟨λD hD i j hij oj ri rj ho hi hj=> ?_⟩⟩;obtain⟨bj,hb,hr⟩:=h2 j rj hj;rw[eI]at hb hr;rcases hr i ri hij hi with hm|hm;refine .inr λhp=> ?_;exact ou hD (l:=ops.toList) (acc:=[]) (λk o hk=>A5) (λk o b _ hb=>E5) j oj bj ho hb hp i hm
 exact .inl hm
theorem Dd{q:Nat×Nat×Nat×Bool}:∀{wv:List (Nat×Option au×Option au)} {K:Prop},D3 q wv K->K∧∀K',K' ->D3 q wv K'
 |[],K,h=>⟨h,λ_ h=>h⟩
 |(l,a,b)::r,K,h=>by
  simp only[JC,Hp]at h ⊢;cases hb:Nat.beq q.1 l with
  |true=>rw[hb]at h;obtain⟨h1,h2⟩:=Dd h.k;exact⟨h1,λK' hk=>⟨h.h,h2 K' hk⟩⟩
  |false=>rw[hb]at h;exact Dd h
theorem De:∀{qs:List (Nat×Nat×Nat×Bool)} {wv:List (Nat×Option au×Option au)} {K:Prop},Hq qs wv K->K∧∀K',K' ->Hq qs wv K' |[],wv,K,h=>⟨h,λ_ h=>h⟩|q::qs,wv,K,h=>by obtain⟨h1,h2⟩:=Dd (q:=q) h;obtain⟨h3,h4⟩:=De h1;exact⟨h3,λK' hk=>h2 _ (h4 K' hk)⟩
theorem Dt{bj:Nat}{rj:Rec}:∀{rs:List Rec} {i:Nat} {K:Prop},Cn bj rj i rs K->K∧∀K',K' ->Cn bj rj i rs K' |[],i,K,h=>⟨h,λ_ h=>h⟩|r::rs,i,K,h=>by simp only[JU,HT]at h ⊢;cases hb:qM bj i with|true=>rw[hb]at h;exact Dt h|false=>rw[hb]at h;obtain⟨h1,q1⟩:=De h;obtain⟨h3,q2⟩:=De h1;obtain⟨h5,q3⟩:=Dt h3;exact⟨h5,λK' hk=>q1 _ (q2 _ (q3 K' hk))⟩
theorem QA{all:List Rec}{bs:List Nat}:∀{rs:List Rec} {j:Nat} {K:Prop},S' all bs j rs K->K∧∀K',K' ->S' all bs j rs K' |[],j,K,h=>⟨h,λ_ h=>h⟩|r::rs,j,K,h=>by simp only[Qz,JW]at h ⊢;split at h;obtain⟨h1,q1⟩:=Dt h;obtain⟨h3,q2⟩:=QA h1;exact⟨h3,λK' hk=>q1 _ (q2 K' hk)⟩;exact kS
def F0{ops:List Oper}{T:List Rec}{K:Prop}(h:eqP ops T K):K∧∀K',K' ->eqP ops T K' :=by unfold eqP at*;split at h;exact⟨h,λ_ h=>h⟩;exact QA h
theorem D5{ops:Array Oper}{T:List Rec}(h:oV ops.toList T=true):Xk ops T:=by
 have h' :∀j,j<ops.toList.length->yK ops.toList j=true∧(match nth ops.toList j,nth T j,nth (jA ops.toList []) j with
  |some oj,some rj,some bj=>(List.range j).all λi=>qM bj i||match nth ops.toList i,nth T i with|some oi,some ri=>Am ops.toList oi oj ri rj|_,_=>false
  |_,_,_=>false)=true:=by
  intro j hj;have h:=h;unfold oV at h;simp only[jW,Be,aX]at h;obtain⟨h1,h2⟩:=h j hj;refine⟨h1,?_⟩;split;rename_i oj rj bj e1 e2 e3;rw[e1,e2,e3]at h2;dsimp only at h2;exact h2;rename_i hno;split at h2;rename_i oj rj bj e1 e2 e3;exact(hno _ _ _ e1 e2 e3).elim;exact h2
 refine⟨λj o ho e he hbd=> ?_,λD hD i j hij oi oj ri rj h1 h2 h3 h4=> ?_⟩;have h1:=(h' j (aH ho)).1;unfold yK at h1;dsimp only at h1;rw[ho]at h1;simp only[jW]at h1;have:=h1 e LF;rw[hbd]at this;simpa[Nat.blt_eq]using this;have hb:=(h' j (aH h2)).2;rw[h2,h4]at hb;split at hb;rename_i oj' rj' bj e1 e2 e3;cases e1;cases e2;simp only[jW,Be]at hb;have hbi:=hb i hij;rw[h1,h3]at hbi;dsimp only at hbi;rw[uS]at hbi;rcases hbi with hbi|hbi;refine .inr λhp=> ?_;exact ou hD (l:=ops.toList) (acc:=[]) (λk o hk=>A5) (λk o b _ hb=>E5) j oj bj h2 e3 hp i hbi
 exact .inl hbi;cases hb
section
variable{P:Program}{cx:Cx}{c:mN}{ops:Array Oper}{S:Nat->St}{T:List Rec}
structure Inv(ops:Array Oper)(S:Nat->St)(T:List Rec)(D:Nat->Prop)(u:St):Prop where
 env:∀x m,m<=ops.size->(∀i o,i<m->nth ops.toList i=some o->o.dst=some x->D i)->(∀i o,m<=i->nth ops.toList i=some o->o.dst=some x->¬D i)->u.env x=(S m).env x
 H:∀x m,m<=ops.size->(∀i r,i<m->nth T i=some r->x∈r.wh->D i)->(∀i r,m<=i->nth T i=some r->x∈r.wh->¬D i)->u.H x=(S m).H x
 R:∀x m,m<=ops.size->(∀i r,i<m->nth T i=some r->x∈r.wr->D i)->(∀i r,m<=i->nth T i=some r->x∈r.wr->¬D i)->u.R x=(S m).R x
 L:∀q m,m<=ops.size->(∀i,i<m->i<ops.size->pr ((S (i+1)).H q.1) q≠pr ((S i).H q.1) q->D i)->(∀i,m<=i->i<ops.size->pr ((S (i+1)).H q.1) q≠pr ((S i).H q.1) q->¬D i)->pr (u.H q.1) q=pr ((S m).H q.1) q
theorem B8{α:Type}{n:Nat}{V:Nat->α}{W:Nat->Prop}{D:Nat->Prop}{j:Nat}(hj:j<n){v v' :α}(hinv:∀m,m<=n->(∀i,i<m->W i->D i)->(∀i,m<=i->W i->¬D i)->v=V m)(hkeep:∀i,i<n->¬W i->V (i+1)=V i)(hWn:∀i,W i->i<n)(Qi:¬D j)(aek:∀i,i<j->W i->W j->D i)(WN:∀i,j<i->W i->W j->¬D i)(hp:(V (j+1)=V j∧v' =v)∨(V (j+1)=v' ∧W j)):∀m,m<=n->(∀i,i<m->W i->(D i∨i=j))->(∀i,m<=i->W i->¬(D i∨i=j))->v' =V m:=by
 intro m hm h1 h2;by_cases hW:W j;have hjm:j<m:=by rcases jl j m with h|h;exact h;exact absurd (.inr rfl) (h2 j h hW)
 have hconst:∀k,j+1+k<=m->V (j+1+k)=V (j+1):=by
  intro k;induction k with
  |zero=>intro _;rfl
  |succ k ih=>
   intro hk;have hnw:¬W (j+1+k):=by intro hw;rcases h1 (j+1+k) E hw with h|h;exact WN (j+1+k) E hw hW h;omega
   rw[show j+1+(k+1)=(j+1+k)+1 by omega,hkeep (j+1+k) E hnw];exact ih E
 have hVm:V m=V (j+1):=by have:=hconst (m - (j+1)) E;rwa[show j+1+(m - (j+1))=m by omega]at this
 rcases hp with⟨a,b⟩|⟨a,_⟩;rw[hVm,a,b];refine hinv j E (λi hi hw=>aek i hi hw hW) (λi hi hw=> ?_);rcases jl j i with h|h;exact WN i h hw hW;have:i=j:=E;subst this;exact Qi;rw[hVm,a];rcases hp with⟨a,b⟩|⟨_,b⟩;rw[b];refine hinv m hm (λi hi hw=> ?_) (λi hi hw hd=>h2 i hi hw (.inl hd));rcases h1 i hi hw with h|h;exact h;subst h;exact absurd hw hW;exact absurd b hW
def NY{α:Type}{n:Nat}{V:Nat->α}{W:Nat->Prop}{D:Nat->Prop}{j:Nat}(hj:j<n){v:α}(hinv:∀m,m<=n->(∀i,i<m->W i->D i)->(∀i,m<=i->W i->¬D i)->v=V m)(Qi:¬D j)(aek:∀i,i<j->W i->D i)(WN:∀i,j<i->W i->¬D i):v=V j:=by
 refine hinv j E aek (λi hi hw=> ?_);rcases jl j i with h|h;exact WN i h hw;have:i=j:=E
 subst this;exact Qi
end
def EZ(h:G:=by simp[FW]at e):=h
def FW(ro:Option Nat):Fence:={fn:=λ_=>True,depth:=none,alive:=false,round:=ro}
def Q9{ro:Option Nat}{n:Nat}{P:Program}{f:FuncId}{args:Array Value}{w:World}{R:Ending->World->Prop}:CallsIn (FW ro) n P f args w R↔Calls P f args w R:=by cases ro with|none=>exact callsIn_wide|some l=>exact⟨λh=>(callsIn_wide (n:=n)).1 (CallsIn.outOfRound (F:=Fence.wide) (l:=l) h),λh=>CallsIn.inRound (F:=Fence.wide) l (callsIn_wide.2 h)⟩
def akh{ro:Option Nat}{n:Nat}{P:Program}{row:String}{args:Array Value}{w:World}{R:Value->World->Prop}(h:Rows P row args w R):RowsIn (FW ro) n P row args w R:=by cases ro with|none=>exact λc cs _=>let ⟨v,w',r,s⟩:=h c cs;⟨v,w',r,stepsIn_wide.2 s⟩|some l=>exact λc cs _=>let ⟨v,w',r,s⟩:=h c cs;⟨v,w',r,stepsIn_wide.2 s⟩
def ah2{ro:Option Nat}{n:Nat}{P:Program}{l:Nat}{f:FuncId}{tmps:Array Value}{Is body:Code}{w:World}{R:Ending->World->Prop}(h:RoundIn Fence.wide n P l f tmps Is body w R):RoundIn (FW ro) n P l f tmps Is body w R:=by cases ro with|none=>exact h|some l=>exact h
theorem oH{P:Program}{ro:Option Nat}{n:Nat}{o:Oper}{a:Act}{w:World}{M:Act->World->Prop}{Q:Go.Exit->Act->World->Prop}(hd:∀c,o.op≠.defer c)(h:o.wp P a w M Q):o.wpIn (FW ro) n P a w M Q:=by
 refine⟨λ_ _=>trivial,?_⟩;rw[Oper.semAt_eq _ _ _ hd];unfold Oper.wp at h;generalize (execOp a.eval o).run P w=r at h;cases r with
 |ok x w' =>cases x<;>simp only[Oper.upon,Oper.uponIn]at h ⊢<;>first|exact h|exact⟨λe=>EZ,Q9.2 h⟩|exact⟨λe=>EZ,akh h⟩|exact h.elim
 |halt x w' =>cases x<;>simp only[Oper.upon,Oper.uponIn]at h ⊢<;>exact h
theorem jk.dX{cx gX :Cx}{g:Gh}{w:World}{t:Tv}{r:Row}(h:∀b,t.wj b->cx.dX b->gX.dX b)(k:jk cx g w t r):jk gX g w t r:=by
 refine⟨k.z,λhz hn=> ?_,k.h,λhz hn=> ?_,λhz hn=> ?_⟩;have k:=k.o hz hn;have h:∀b,t.base=some b->cx.dX b->gX.dX b:=λb hb=>h b (.inl hb);unfold jv at*;cases hb:t.base with|none=>rw[hb]at k;exact k|some b=>rw[hb]at k;exact⟨k.1,h b hb k.2.1,k.2.2⟩
 obtain⟨o1,b,es,clock,k1,k2,k3⟩:=k.m hz hn;exact⟨o1,b,es,clock,k1,h b (.inl k1) k2,k3⟩;have q:=k.q hz hn;refine⟨λj b hj=> ?_,λb hb=> ?_,q.live⟩;obtain⟨h1,h2,h3⟩:=q.ow j b hj;exact⟨h1,h b (.inr ⟨k.z.trans hz,hn,j,hj⟩) h2,h3⟩;obtain⟨h1,h2,h3⟩:=q.base b hb;exact⟨h1,h b (.inl hb) h2,h3⟩
def Qt{g:Gh}{I' :Nat->Nat->Option Value}(h:ku g.I I'):Ext g {g with I:=I' }:=⟨h,λ_ _ e=>e,λ_ t e=>⟨t,e,.refl t⟩⟩
def Mem.after{cx gX :Cx}{g:Gh}{s:St}{w w' :World}(m:Mem cx g s w){I' :Nat->Nat->Option Value}(hI:ku g.I I')(hc:Cells I' w')(hkeep:∀b,b<w.heap.size->cx.dX b->w'.heap[b]? =w.heap[b]?)(hold:∀b o v,I' b o=some v->cx.dX b->b<w.heap.size->g.I b o=some v)(te:∀b,b<w.heap.size->cx.dX b->gX.dX b)(JH:∀b o v,I' b o=some v->gX.I0 b o=some v∨gX.dX b)(hfr:gX.Fr I' w')(hnew:∀b,w'.heap.size<=b->gX.dX b):Mem gX {g with I:=I' } s w' where
 iw:=hc
 box l d h:=by obtain⟨b,h1,h2,h3⟩:=m.box l d h;exact⟨b,h1,h2.mono (Qt hI) (hkeep b h2.lt h3),te b h2.lt h3⟩
 gx:=m.gx
 inj:=m.inj
 F3 l b h o:=by obtain⟨d,hd⟩:=m.gx l b h;obtain⟨b',h1,h2,h3⟩:=m.box l d hd;have h1' :g.mu l=some b:=h;rw[h1']at h1;cases h1;show I' b o=none;cases hx:I' b o with|none=>rfl|some v=>rw[<-hold b o v hx h3 h2.lt];exact(m.F3 l b h o).symm▸rfl
 row k r h:=by obtain⟨t,h1,h2,h3,h4,h5⟩:=m.row k r h;refine⟨t,h1,h2,h3,h4,jk.dX (cx:=cx) (λb hb=>te b (h5.wc hb).1) (h5.mono (Qt hI) λb hb=>⟨hkeep b (h5.wc hb).1 (h5.wc hb).2.1,(h5.wc hb).2.2,λj=> ?_⟩)⟩;show I' b j=g.I b j;cases hx:I' b j with|some v=>exact(hold b j v hx (h5.wc hb).2.1 (h5.wc hb).1).symm|none=>cases hy:g.I b j with|none=>rfl|some v=>have:=hI b j v hy;rw[hx]at this;cases this
 gE:=m.gE
 k_:=m.k_
 kN:=JH
 frame:=hfr
 new:=hnew
structure Kb(J:YS->(Nat->Prop)->(Nat->Nat->Option Value)->World->Prop)(k:Nat)(N:Nat->Prop)(I:Nat->Nat->Option Value)(w:World)(e:Ending)(w' :World):Prop where
 size:w.heap.size<=w'.heap.size
 keep:∀b,b<w.heap.size->¬N b->w'.heap[b]? =w.heap[b]?
 cells:Cells I w'
 out:∃y,((e= .returned (.bool true)∧y= .run (k+1))∨(e= .returned (.bool false)∧y= .stop))∧J y (λb=>N b∨(w.heap.size<=b∧b<w'.heap.size)) I w'
structure Host(P:Program)(l:Nat)(xs:List (List au)) where
 J:YS->(Nat->Prop)->(Nat->Nat->Option Value)->World->Prop
 I0:Nat->Nat->Option Value
 on:∀y N I w,J y N I w->y≠.off
 ac9:∀y N I w w',J y N I w->Frame w w' (λb=>¬N b)->(∀b o v,I b o=some v->w'.cell? ⟨b,o,none⟩=some v)->J y N I w'
 round:∀k N Ih I w (vs:Array Value) ds,J (.run k) N Ih w->ku Ih I->nth xs k=some ds->vs.size=ds.length->(∀(i:Nat) v d,vs[i]? =some v->nth ds i=some d->bM I v d)->
  Cells I w->(∀b o v,I b o=some v->I0 b o=some v∨¬N b)->(∀b,w.heap.size<=b->¬N b)->
  ∃fn tmps assign body,(Instr.yield l vs).run P w= .ok (.round l fn tmps assign body) w∧∀n,RoundIn Fence.wide n P l fn tmps assign body w (Kb J k N I w)
def Host.cx{P:Program}{l:Nat}{xs:List (List au)}(h:Host P l xs)(n:Nat)(w0:World)(I0:Nat->Nat->Option Value)(y:YS)(N:Nat->Prop):Cx where
 n:=n
 dX b:=w0.heap.size<=b∧¬N b
 I0:=I0
 D:=[]
 Fr I w:=(∃Ih,h.J y N Ih w∧ku Ih I)∧w0.heap.size<=w.heap.size∧∀b,b<w0.heap.size->¬N b->w.heap[b]? =w0.heap[b]?
 st I I' w w' hf hs fr hc _:=by obtain⟨⟨Ih,h1,h2⟩,h3,h4⟩:=hf;refine⟨⟨Ih,h.ac9 y N Ih w w' h1 (fr.sub λi _ e=>e.2) (λb o v e=>(hc b o v (hs _ _ _ (h2 _ _ _ e))).1),λb o v e=>hs _ _ _ (h2 _ _ _ e)⟩,eW h3 fr.size,λb hb hn=> ?_⟩;exact(fr.block b (jm hb h3) (λe=>by have:=e.1;omega)).trans (h4 b hb hn)
structure ah4(P:Program)(l:Nat)(xs:List (List au))(f:FuncId)(args:List au)(k:Nat)(Q:au->YS->Prop):Prop where
 fn:∃fn,P.funcs[f]? =some fn∧fn.body.isNone=false∧(fn.name== "runtime.NumGoroutine")=false
 go:∀(h:Host P l xs) (N:Nat->Prop) (I:Nat->Nat->Option Value) (w:World) (vs:Array Value),vs.size=args.length->(∀(i:Nat) v d,vs[i]? =some v->nth args i=some d->bM I v d)->
  Cells I w->(∀b o v,I b o=some v->h.I0 b o=some v∨¬N b)->(∀b,w.heap.size<=b->¬N b)->(∃Ih,h.J (.run k) N Ih w∧ku Ih I)->
  Calls P f vs w λe w' =>match e with
   | .returned v=>∃r y N' I',Q r y∧(∀b,N' b->N b∨(w.heap.size<=b∧b<w'.heap.size))∧(∀b,N b->N' b)∧ku I I' ∧bD ⟨I',λ_=>none,λ_=>none⟩ v r∧
    Cells I' w' ∧(∀b o v,I' b o=some v->I b o=some v∨(w.heap.size<=b∧¬N' b))∧(∃Ih,h.J y N' Ih w' ∧ku Ih I')∧
    w.heap.size<=w'.heap.size∧∀b,b<w.heap.size->¬N' b->w'.heap[b]? =w.heap[b]?
   |_=>False
structure alp(P:Program)(d:au)(xs:List (List au)):Prop where
 out:∃f first cap,d= .gD (.func f) first cap∧(ew.go first&&ew.go cap)=true∧∀l,ah4 P l xs f (first++[.Ix l]++cap) 0 λ_ y=>y= .run xs.length∨y= .stop
structure v8(P:Program)(c:mN):Prop where
 C:∀f args m r m',c.C f args m r m' ->aj P f args m r m'
 CY:∀f args k outs,c.CY f args k outs->ah4 P c.l c.xs f args k λr y=>(r,y)∈outs
 It:∀d xs,c.It d xs->alp P d xs
structure Mode(P:Program)(c:mN) where
 h:Host P c.l c.xs
 n:Nat
 w0:World
 I0:Nat->Nat->Option Value
 N0:Nat->Prop
structure At{P:Program}{c:mN}(M:Mode P c)(cx:Cx)(y:YS)(N:Nat->Prop):Prop where
 cx:cx=M.h.cx M.n M.w0 M.I0 y N
 I0:∀b o v,M.I0 b o=some v->b<M.w0.heap.size∧(M.h.I0 b o=some v∨¬N b)
 up:∀b,N b->M.N0 b∨M.w0.heap.size<=b
 lo:∀b,M.N0 b->N b
def YOk{P:Program}{c:mN}(M:Option (Mode P c))(cx:Cx):YS->Prop| .off=>M=none|y=>∃m N,M=some m∧At m cx y N
def uL(h:G:=by simp[dg]):=h
def sw(h:G:=by exact h _ _ hk):=h
structure kv(s s' :St):Prop where
 env:s'.env=s.env
 H:s'.H=s.H
 hn:s'.hn=s.hn
 rn:s'.rn=s.rn
 R:∀k,s'.R k=none↔s.R k=none
 y:s'.y=s.y
def kv.refl(s:St):kv s s:=⟨rfl,rfl,rfl,rfl,λ_=>Iff.rfl,rfl⟩
theorem kv.trans{a b c:St}(h:kv a b)(k:kv b c):kv a c:=⟨k.env.trans h.env,k.H.trans h.H,k.hn.trans h.hn,k.rn.trans h.rn,λx=>(k.R x).trans (h.R x),k.y.trans h.y⟩
theorem my{s:St}{d:au}{K:St->au->Prop}(hk:dZ s d K):dZ s d λs' d' =>kv s s' ∧K s' d' :=by
 cases d with
 |ref k n=>simp only[dZ]at hk ⊢;cases hr:s.R k with|none=>exact nB|some r=>rw[hr]at hk;dsimp only at hk ⊢;split at hk;exact aq;refine⟨hk.h,⟨rfl,rfl,rfl,rfl,λx=> ?_,rfl⟩,hk.k⟩;simp only[St.freeze];by_cases hx:x=k;subst hx;rw[bw,hr];simp;rw[aO _ _ _ _ hx]
 |sl z es b=>exact⟨kv.refl s,hk⟩|_=>simp only[dZ]at hk ⊢;split at hk;rename_i hp;exact⟨kv.refl s,hk⟩;exact aq
def mw{s:St}{d:au}{K K' :St->au->Prop}(hk:dZ s d K)(h:∀s d,K s d->K' s d):dZ s d K' :=by cases d with|ref k n=>simp only[dZ]at hk ⊢;split at hk;split at hk;exact aq;exact⟨hk.h,h _ _ hk.k⟩;exact aq|sl z es b=>exact sw|_=>simp only[dZ]at hk ⊢;split at hk;exact sw;exact aq
theorem r7:∀{ds:List au} {s:St} {K:St->List au->Prop},jI s ds K->jI s ds λs' ds' =>kv s s' ∧K s' ds'
 |[],s,K,hk=>⟨kv.refl s,hk⟩|d::ds,s,K,hk=>by simp only[IM,lx]at hk ⊢;refine mw (my hk) λs1 d1 ⟨k1,h1⟩=> ?_;have h2:=r7 h1;exact rZ h2 λs2 ds2 ⟨k2,h3⟩=>⟨k1.trans k2,h3⟩
 where rZ:∀{ds:List au} {s:St} {K K' :St->List au->Prop},jI s ds K->(∀s d,K s d->K' s d)->jI s ds K' |[],_,_,_,hk,h=>h _ _ hk|d::ds,_,_,_,hk,h=>by rw[lx]at hk ⊢;exact mw hk λ_ _ h1=>rZ h1 λ_ _ h2=>h _ _ h2
def oT{s:St}{d:au}{K K' :St->au->Prop}(hk:nY s d K)(h:∀s d,K s d->K' s d):nY s d K' :=by unfold nY at*;split;rename_i hp;rw[hp]at hk;exact sw;rename_i hp;rw[hp]at hk;cases d with|agg cs=>exact r7.rZ hk λ_ _ h2=>h _ _ h2|ref k n=>exact mw (d:= .ref k n) hk h|sl z es b=>exact mw (d:= .sl z es b) hk h|_=>exact aq
def oU{s:St}{d:au}{K:St->au->Prop}(hk:nY s d K):nY s d λs' d' =>kv s s' ∧K s' d' :=by unfold nY at*;split;rename_i hp;rw[hp]at hk;exact⟨kv.refl s,hk⟩;rename_i hp;rw[hp]at hk;cases d with|agg cs=>exact r7 hk|ref k n=>exact my (d:= .ref k n) hk|sl z es b=>exact my (d:= .sl z es b) hk|_=>exact aq
theorem j9:∀{ds:List au} {s:St} {K K' :St->List au->Prop},lS s ds K->(∀s d,K s d->K' s d)->lS s ds K' |[],_,_,_,hk,h=>h _ _ hk|d::ds,_,_,_,hk,h=>by rw[nX]at hk ⊢;exact oT hk λ_ _ h1=>j9 h1 λ_ _ h2=>h _ _ h2
theorem qK:∀{ds:List au} {s:St} {K:St->List au->Prop},lS s ds K->lS s ds λs' ds' =>kv s s' ∧K s' ds' |[],s,K,hk=>⟨kv.refl s,hk⟩|d::ds,s,K,hk=>by simp only[P0,nX]at hk ⊢;refine oT (oU hk) λs1 d1 ⟨k1,h1⟩=> ?_;exact j9 (qK h1) λs2 ds2 ⟨k2,h3⟩=>⟨k1.trans k2,h3⟩
def Ca{ls:List Nat}{d:au}{K K' :List Nat->au->Prop}(hk:pD ls d K)(h:∀ls d,K ls d->K' ls d):pD ls d K' :=by obtain⟨ls',d',k1,_,l1⟩:=w9 hk;exact l1 _ (h _ _ k1)
theorem kC:∀{ds:List au} {s:St} {ls ks:List Nat} {K K' :St->List Nat->List Nat->List au->Prop},fI s ls ks ds K->(∀s' ls ks ds,kv s s' ->K s' ls ks ds->K' s' ls ks ds)->fI s ls ks ds K' |[],s,ls,ks,K,K',hk,h=>h _ _ _ _ (kv.refl s) hk|d::ds,s,ls,ks,K,K',hk,h=>by cases d with|ptr l off=>simp only[n_,js]at hk ⊢;split at hk;exact kC hk λs' ls' ks' ds' k1 h1=>h _ _ _ _ k1 h1;exact kC hk λs' ls' ks' ds' k1 h1=>h _ _ _ _ k1 h1|tT x=>simp only[js]at hk ⊢;exact Ca hk λsq d1 h1=>kC h1 λs' ls' ks' ds' k1 h1=>h _ _ _ _ k1 h1|_=>simp only[n_,js]at hk ⊢;exact oT (oU hk) λs1 d1 ⟨k1,h1⟩=>kC h1 λs' ls' ks' ds' k2 h2=>h _ _ _ _ (k1.trans k2) h2
theorem IP{d:au}{s:St}{ls ks:List Nat}{K K' :St->List Nat->List Nat->au->Prop}(hk:fH s ls ks d K)(h:∀s' ls ks d,kv s s' ->K s' ls ks d->K' s' ls ks d):fH s ls ks d K' :=by
 cases d with
 |ptr l off=>simp only[fH]at hk ⊢;split at hk;exact h _ _ _ _ (kv.refl s) hk;exact h _ _ _ _ (kv.refl s) hk|gD fn first cap=>simp only[fH]at hk ⊢;exact kC hk λs1 sq nZ ds1 k1 h1=>kC h1 λs' ls' ks' ds' k2 h2=>h _ _ _ _ (k1.trans k2) h2
 |tT x=>simp only[fH]at hk ⊢;exact Ca hk λsq d1 h1=>h _ _ _ _ (kv.refl s) h1|_=>simp only[fH]at hk ⊢;exact oT (oU hk) λs1 d1 ⟨k1,h1⟩=>h _ _ _ _ k1 h1
def B_{s:St}{ks:List Nat}{k n:Nat}{K K' :List Nat->au->Prop}(hk:jz s ks k n K)(h:∀ks d,K ks d->K' ks d):jz s ks k n K' :=by unfold jz at*;split at hk;refine⟨hk.h,?_⟩;have h2:=hk.k;split at h2;unfold named at h2 ⊢;split at h2;exact h _ _ h2;exact h _ _ h2;split at h2;exact h2.elim;exact h _ _ h2;exact aq
def zg{s:St}{ks:List Nat}{k n:Nat}{K K' :List Nat->au->Prop}(hk:iI s ks k n K)(h:∀ks d,K ks d->K' ks d):iI s ks k n K' :=by unfold iI at*;split at hk;unfold named at hk ⊢;split at hk;exact sw;exact sw;exact aq
def Cb{s:St}{ks:List Nat}{k:Nat}{K K' :List Nat->au->Prop}(hk:j_ s ks k K)(h:∀ks d,K ks d->K' ks d):j_ s ks k K' :=by unfold j_ at*;split at hk;unfold named at hk ⊢;split at hk;exact sw;exact sw;exact aq
theorem jt{f_:Bool}:∀{ds:List au} {s:St} {ls ks:List Nat} {K K' :St->List Nat->List Nat->List au->Prop},eY f_ s ls ks ds K->(∀s' ls ks ds,kv s s' ->K s' ls ks ds->K' s' ls ks ds)->eY f_ s ls ks ds K'
 |[],s,ls,ks,K,K',hk,h=>h _ _ _ _ (kv.refl s) hk
 |d::ds,s,ls,ks,K,K',hk,h=>by
  have other:fH s ls ks d (λs ls ks d=>eY f_ s ls ks ds λs ls ks ds=>K s ls ks (d::ds))->
   fH s ls ks d (λs ls ks d=>eY f_ s ls ks ds λs ls ks ds=>K' s ls ks (d::ds)):=λh0=>
   IP h0 λs1 sq nZ d1 k1 h1=>jt h1 λs' ls' ks' ds' k2 h2=>h _ _ _ _ (k1.trans k2) h2
  cases d with
  |ref k n=>cases f_ with|true=>simp only[lT,kE]at hk ⊢;exact B_ hk λnZ d1 h1=>jt h1 λs' ls' ks' ds' k2 h2=>h _ _ _ _ k2 h2|false=>exact other hk
  |dQ k=>simp only[lT,kE]at hk ⊢;exact Cb hk λnZ d1 h1=>jt h1 λs' ls' ks' ds' k2 h2=>h _ _ _ _ k2 h2|cQ k n=>simp only[lT,kE]at hk ⊢;exact zg hk λnZ d1 h1=>jt h1 λs' ls' ks' ds' k2 h2=>h _ _ _ _ k2 h2|_=>exact other hk
theorem kD{s:St}:∀{ds:List au} {ks:List Nat} {K K' :List Nat->List au->Prop},gG s ks ds K->(∀ks d,K ks d->K' ks d)->gG s ks ds K'
 |[],ks,K,K',hk,h=>h _ _ hk
 |d::ds,ks,K,K',hk,h=>by
  cases d with
  |ref k n=>simp only[dW,dF]at hk ⊢;exact B_ hk λnZ d1 h1=>kD h1 λsu ds2 h2=>h _ _ h2|dQ k=>simp only[dW,dF]at hk ⊢;exact Cb hk λnZ d1 h1=>kD h1 λsu ds2 h2=>h _ _ h2|cQ k n=>simp only[dW,dF]at hk ⊢;exact zg hk λnZ d1 h1=>kD h1 λsu ds2 h2=>h _ _ h2
  |_=>
   first
    |(simp only[dW,dF]at hk;done)
    |(simp only[dW,dF]at hk ⊢
      exact kD hk λsu ds2 h2=>h _ _ h2)
def Cc{s:St}{ks:List Nat}{d:au}{K K' :List Nat->au->Prop}(hk:kW s ks d K)(h:∀ks d,K ks d->K' ks d):kW s ks d K' :=by
 unfold kW at*;split;rename_i hp;rw[hp]at hk;exact sw;rename_i hp;rw[hp]at hk;have one:∀{d:au},(gG s ks [d] λks ds=>match ds with|[d]=>K ks d|_=>False)->gG s ks [d] λks ds=>match ds with|[d]=>K' ks d|_=>False:=λh0=>kD h0 λnZ ds1 h2=>by cases ds1 with|nil=>exact h2|cons x xs=>cases xs with|nil=>exact h _ _ h2|cons y ys=>exact h2
 cases d with|agg cs=>exact kD hk λ_ _ h2=>h _ _ h2|_=>exact one hk
theorem lz{s:St}:∀{ls ks:List Nat} {K K' :List Nat->List au->Prop},gS s ks ls K->(∀ks d,K ks d->K' ks d)->gS s ks ls K' |[],ks,K,K',hk,h=>h _ _ hk|l::ls,ks,K,K',hk,h=>by simp only[mB,lA]at hk ⊢;split at hk;exact Cc hk λnZ d1 h1=>lz h1 λsu ds2 h2=>h _ _ h2;exact aq
def Nm(s:St):Prop:=(∀l,s.H l≠none->l∈s.hn)∧∀k,s.R k≠none->k∈s.rn
structure bW(W:List Nat)(s s' :St):Prop where
 env:∀t,t∉W->s'.env t=s.env t
 H:∀l,s'.H l≠none->s.H l≠none∨l∈W
 R:∀k,s'.R k≠none->s.R k≠none∨k∈dm W
 kl:∀l,s.H l≠none->s'.H l≠none
 kj:∀k,s.R k≠none->s'.R k≠none
 nm:Nm s->Nm s'
 y:s.y= .off->s'.y= .off
def qF{W V:List Nat}(h:∀t∈W,t∈V):∀k∈dm W,k∈dm V:=by intro k hk;unfold dm at*;rw[Fk]at*;obtain⟨t,ht,hk⟩:=hk;exact⟨t,h t ht,hk⟩
def bW.refl(W:List Nat)(s:St):bW W s s:=⟨λ_ _=>rfl,λ_ h=> .inl h,λ_ h=> .inl h,λ_ h=>h,λ_ h=>h,λh=>h,λh=>h⟩
theorem bW.trans{W V U:List Nat}{a b c:St}(h:bW W a b)(k:bW V b c)(h1:∀t∈W,t∈U)(h2:∀t∈V,t∈U):bW U a c where
 env t ht:=(k.env t (λe=>ht (h2 t e))).trans (h.env t (λe=>ht (h1 t e)))
 H l hl:=by rcases k.H l hl with e|e;rcases h.H l e with e|e;exact .inl e;exact .inr (h1 l e);exact .inr (h2 l e)
 R l hl:=by rcases k.R l hl with e|e;rcases h.R l e with e|e;exact .inl e;exact .inr (qF h1 l e);exact .inr (qF h2 l e)
 kl l hl:=k.kl l (h.kl l hl)
 kj l hl:=k.kj l (h.kj l hl)
 nm hn:=k.nm (h.nm hn)
 y h0:=k.y (h.y h0)
def bW.sub{W U:List Nat}{a b:St}(h:bW W a b)(h1:∀t∈W,t∈U):bW U a b:=h.trans (bW.refl U b) h1 (λ_ h=>h)
def bW.vz{s s' :St}(h:kv s s')(W:List Nat):bW W s s' where
 env t _:=by rw[h.env]
 H l hl:=by rw[h.H]at hl;exact .inl hl
 R k hk:= .inl λe=>hk ((h.R k).2 e)
 kl l hl:=by rw[h.H];exact hl
 kj k hk e:=hk ((h.R k).1 e)
 nm hn:=⟨λl hl=>by rw[h.H]at hl;rw[h.hn];exact hn.1 l hl,λk hk=>by rw[h.rn];exact hn.2 k λe=>hk ((h.R k).2 e)⟩
 y h0:=h.y.trans h0
def bW.iE{s s' :St}{W:List Nat}(he:s'.env=s.env∨∃t d,t∈W∧s'.env=aW s.env t d)(hH:(s'.H=s.H∧s'.hn=s.hn)∨(∃l d,s.H l≠none∧s'.H=aW s.H l (some d)∧s'.hn=s.hn)∨(∃l d,l∈W∧s'.H=aW s.H l (some d)∧s'.hn=l::s.hn))(hR:(s'.R=s.R∧s'.rn=s.rn)∨(∃l d,s.R l≠none∧s'.R=aW s.R l (some d)∧s'.rn=s.rn)∨(∃l d,l∈dm W∧s'.R=aW s.R l (some d)∧s'.rn=l::s.rn))(hy:s'.y=s.y:=by rfl):bW W s s' :=by
 have sp:∀{α:Type} {H H' :Nat->Option α} {hn hn' :List Nat} {V:List Nat},((H' =H∧hn' =hn)∨(∃l d,H l≠none∧H' =aW H l (some d)∧hn' =hn)∨(∃l d,l∈V∧H' =aW H l (some d)∧hn' =l::hn))->
  (∀l,H' l≠none->H l≠none∨l∈V)∧(∀l,H l≠none->H' l≠none)∧((∀l,H l≠none->l∈hn)->∀l,H' l≠none->l∈hn'):=by
  intro α H H' hn hn' V h;rcases h with⟨rfl,rfl⟩|⟨l,d,h0,rfl,rfl⟩|⟨l,d,h0,rfl,rfl⟩;exact⟨λ_ h=> .inl h,λ_ h=>h,λh=>h⟩;refine⟨λx hx=> ?_,λx hx=> ?_,λh x hx=> ?_⟩;by_cases e:x=l;subst e;exact .inl h0;rw[aO _ _ _ _ e]at hx;exact .inl hx;by_cases e:x=l;subst e;rw[bw];simp;rw[aO _ _ _ _ e];exact hx;by_cases e:x=l;subst e;exact h x h0;rw[aO _ _ _ _ e]at hx;exact h x hx;refine⟨λx hx=> ?_,λx hx=> ?_,λh x hx=> ?_⟩;by_cases e:x=l;subst e;exact .inr h0;rw[aO _ _ _ _ e]at hx;exact .inl hx;by_cases e:x=l;subst e;rw[bw];simp;rw[aO _ _ _ _ e];exact hx;by_cases e:x=l;subst e;simp;rw[aO _ _ _ _ e]at hx;exact mT _ (h x hx)
 obtain⟨a1,a2,a3⟩:=sp hH;obtain⟨b1,b2,b3⟩:=sp hR;refine⟨λt ht=> ?_,a1,b1,a2,b2,λhn=>⟨a3 hn.1,b3 hn.2⟩,λh=>hy.trans h⟩;rcases he with e|⟨u,d,h0,e⟩;rw[e];rw[e,aO _ _ _ _ (by intro x;subst x;exact ht h0)]
theorem bW.put(s:St)(dst:Option Nat)(d:au):bW (dg dst) s (s.put dst d):=by cases dst with|none=>exact bW.refl _ _|some t=>exact bW.iE (.inr ⟨t,some d,uL,rfl⟩) (.inl ⟨rfl,rfl⟩) (.inl ⟨rfl,rfl⟩)
theorem bW.forget(s:St)(dst:Option Nat):bW (dg dst) s (s.forget dst):=by cases dst with|none=>exact bW.refl _ _|some t=>exact bW.iE (.inr ⟨t,some (.bS []),uL,rfl⟩) (.inl ⟨rfl,rfl⟩) (.inl ⟨rfl,rfl⟩)
theorem qH{ks:List Nat}{t:Nat}:∀{rs:List Row} {i:Nat} {R:Nat->Option Row} {rn:List Nat} (_:∀k∈ks,R k≠none) (_:i+rs.length<=ks.length+4),(∀k,(dC ks t R rn i rs).1 k≠none->R k≠none∨k∈dm [t])∧(∀k,R k≠none->(dC ks t R rn i rs).1 k≠none)∧((∀k,R k≠none->k∈rn)->∀k,(dC ks t R rn i rs).1 k≠none->k∈(dC ks t R rn i rs).2)
 |[],i,R,rn,_,_=>⟨λ_ h=> .inl h,λ_ h=>h,λh=>h⟩
 |r::rs,i,R,rn,hl,hlen=>by
  simp only[fw]at hlen;simp only[dC];cases hi:nth ks i with
  |some k0=>
   dsimp only;have h0:=hl k0 (dr hi);have hl' :∀k∈ks,aW R k0 (some r) k≠none:=λk hk=>by by_cases e:k=k0;subst e;rw[bw];simp;rw[aO _ _ _ _ e];exact hl k hk
   obtain⟨a1,a2,a3⟩:=qH (t:=t) (rs:=rs) (i:=i+1) (R:=aW R k0 (some r)) (rn:=rn) hl' E;have un:∀k,aW R k0 (some r) k≠none->R k≠none:=λk hk=>by by_cases e:k=k0;subst e;exact h0;rw[aO _ _ _ _ e]at hk;exact hk
   refine⟨λk hk=>(a1 k hk).imp (un k) id,λk hk=>a2 k ?_,λh=>a3 λk hk=>h k (un k hk)⟩;by_cases e:k=k0;subst e;rw[bw];simp;rw[aO _ _ _ _ e];exact hk
  |none=>
   dsimp only;have hge:ks.length<=i:=ZH
   have hup:∀k,R k≠none->aW R (5000+10*t+(i - ks.length)) (some r) k≠none:=λk hk=>(by by_cases e:k=5000+10*t+(i - ks.length);subst e;rw[bw];simp;rw[aO _ _ _ _ e];exact hk);obtain⟨a1,a2,a3⟩:=qH (t:=t) (rs:=rs) (i:=i+1) (R:=aW R (5000+10*t+(i - ks.length)) (some r)) (rn:=(5000+10*t+(i - ks.length))::rn) (λk hk=>hup k (hl k hk)) E;refine⟨λk hk=> ?_,λk hk=>a2 k (hup k hk),λh=>a3 λk hk=> ?_⟩;rcases a1 k hk with e|e;by_cases e2:k=5000+10*t+(i - ks.length);refine .inr ?_;unfold dm;exact Vf;rw[aO _ _ _ _ e2]at e;exact .inl e;exact .inr e
   by_cases e2:k=5000+10*t+(i - ks.length);subst e2;simp;rw[aO _ _ _ _ e2]at hk;exact mT _ (h k hk)
theorem tP{ks:List Nat}{t:Nat}:∀{ls:List Nat} {ds:List au} {H:Nat->Option au} (_:∀l∈ls,H l≠none),(∀l,fC ks t H ls ds l≠none↔H l≠none)
 |[],ds,H,_,l=>by cases ds<;>exact Iff.rfl|x::ls,[],H,_,l=>Iff.rfl
 |x::ls,d::ds,H,h,l=>by
  simp only[fC];have hu:∀l,aW H x (some (back ks t d)) l≠none↔H l≠none:=λl=>by by_cases e:l=x;subst e;rw[bw];simp[h l O];rw[aO _ _ _ _ e]
  rw[tP (λy hy=>(hu y).2 (h y pk))];exact hu l
def aay(h:G:=by rw[<-Pz]at hk;obtain⟨i,hi⟩:=hk;obtain⟨r,hr,_⟩:=hlive i k hi;rw[hr];simp):=h
def aa2(h:G:=by intro e;subst e;exact hu (by simp[dg])):=h
def E7(h:G:=by cases o.dst<;>rfl):=h
def CI(h:G:=by obtain⟨d,a1,a2,a3,a4⟩:=hk.out;exact⟨d,a1,a2,a3,put a4⟩):=h
def RC(h:G:=by exact h _ (bW.iE (.inr ⟨t,_,by simp[dg],rfl⟩) (.inl ⟨rfl,rfl⟩) (.inr (.inr ⟨t,_,by simp[dg,dm],rfl,rfl⟩))) rfl hk):=h
def RA(h:G:=by exact h _ (bW.iE (.inl rfl) (.inl ⟨rfl,rfl⟩) (.inr (.inl ⟨k,_,by rw[hr];simp,rfl,rfl⟩))) rfl hk):=h
def Zd(h:G:=by exact⟨hk.h,h _ (bW.iE (.inr ⟨t,_,by simp[dg],rfl⟩) (.inl ⟨rfl,rfl⟩) (.inr (.inr ⟨t,_,by simp[dg,dm],rfl,rfl⟩))) rfl hk.k⟩):=h
def Vg(h:G:=by exact h _ (bW.iE (.inr ⟨t,_,by simp[dg],rfl⟩) (.inl ⟨rfl,rfl⟩) (.inl ⟨rfl,rfl⟩)) rfl hk):=h
def Ez(h:G:=by exact⟨hk.h,put hk.k⟩):=h
def TU(h:G:=by rw[mS];exact zt _ ht):=h
def qu(h:G:=by simpa using hb):=h
def Pz{α:Type}{l:List α}{x:α}:(∃i,nth l i=some x)↔x∈l:=by
 constructor;·rintro ⟨i,hi⟩;exact dr hi
 intro h;obtain⟨i,hi⟩:=pW.1 h;exact⟨i,by rw[aJ];exact hi⟩
theorem r_{s:St}:∀{ls ks:List Nat} {K:List Nat->List au->Prop},gS s ks ls K->gS s ks ls λks ds=>(∀l∈ls,s.H l≠none)∧K ks ds
 |[],ks,K,hk=>⟨O,hk⟩
 |l::ls,ks,K,hk=>by
  simp only[mB,lA]at hk ⊢;split at hk;rename_i d hd;refine Cc hk λnZ d1 h1=>lz (r_ h1) λsu ds2 ⟨h2,h3⟩=>⟨?_,h3⟩;intro x hx;rcases b_.1 hx with e|e
  subst e;rw[hd];simp;exact h2 x e;exact aq
theorem qX{P:Program}{c:mN}{dst:Option Nat}{s:St}{K K' :St->Prop}{p:DD}(hk:aC P c dst s K p)(h:∀s',bW (dg dst) s s' ->s'.y=s.y->K s' ->K' s'):aC P c dst s K' p:=by
 have put:∀{d:au},K (s.put dst d)->K' (s.put dst d):=λ{d} hk=>h _ (bW.put s dst d) (by cases dst<;>rfl) hk;have setH:∀{l:Nat} {d d' :au},s.H l=some d->K {s with H:=aW s.H l (some d')}->K' {s with H:=aW s.H l (some d')}:=λ{l d d'} hl hk=>h _ (bW.iE (.inl rfl) (.inr (.inl ⟨l,d',sJ,rfl,rfl⟩)) (.inl ⟨rfl,rfl⟩)) rfl hk;have two:∀{dst:Option Nat} {q k:Nat} {r rq rq' rk:Row} {env' :Nat->Option au},s.R k=some r->s.R q=some rq->(env' =s.env∨∃t d,t∈dg dst∧env' =aW s.env t d)->
  bW (dg dst) s {env:=env',H:=s.H,hn:=s.hn,R:=aW (aW s.R q (some rq')) k (some rk),rn:=s.rn,y:=s.y}:=λ{dst q k r rq rq' rk env'} hr hq he=>by
  have k1:bW (dg dst) s {s with R:=aW s.R q (some rq')}:=bW.iE (.inl rfl) (.inl ⟨rfl,rfl⟩) (.inr (.inl ⟨q,_,by rw[hq];simp,rfl,rfl⟩));refine k1.trans (V:=dg dst) (bW.iE he (.inl ⟨rfl,rfl⟩) (.inr (.inl ⟨k,rk,?_,rfl,rfl⟩))) (λ_ h=>h) (λ_ h=>h);show aW s.R q (some rq') k≠none;by_cases e:k=q;rw[e,bw];simp;rw[aO _ _ _ _ e,hr];simp
 cases p with
 |val d=>exact put hk|BU q d=>exact Ez|arith k x=>exact⟨put hk.out⟩
 |load a n agg=>
  cases a with
  |ptr l off=>simp only[aC]at hk ⊢;split at hk;split at hk;exact put hk;exact aq;exact aq|jw l off=>simp only[aC]at hk ⊢;split at hk;exact CI;exact aq
  |mA d off=>simp only[aC]at hk ⊢;split at hk;exact put hk;exact aq|tT d=>simp only[aC]at hk ⊢;split at hk;exact put hk;exact aq|iS k m i off=>simp only[aC]at hk ⊢;split at hk;obtain⟨d,a1,a2,a3,a4⟩:=hk.out;refine⟨d,a1,a2,a3,?_⟩;split at a4;exact put a4;exact a4.elim;exact aq
  |j8 k m i=>simp only[aC]at hk ⊢;split at hk;split at hk;obtain⟨d,a1,a2,a3,a4⟩:=hk.out;refine⟨d,a1,a2,a3,?_⟩;split at a4;exact put a4;exact put a4;exact a4.elim;exact aq;exact aq
  |fT k j i=>simp only[aC]at hk ⊢;split at hk;split at hk;obtain⟨xs,b1,b2⟩:=hk.out;obtain⟨d,a1,a2,a3,a4⟩:=b2.out;refine⟨xs,b1,d,a1,a2,a3,?_⟩;split at a4;exact put a4;exact a4.elim;exact aq;exact aq
  |_=>exact aq
 |store a v n=>
  simp only[aC]at hk ⊢;split at hk;exact aq
  ·cases a with
   |ptr l off=>dsimp only at hk ⊢;split at hk;rename_i hl;split at hk;exact setH hl hk;exact aq;exact aq
   |jw l off=>
    dsimp only at hk ⊢;split at hk;rename_i hl;cases v with|agg _=>exact aq|bS _=>exact aq|_=>exact⟨hk.h,setH hl hk.k⟩
    exact aq
   |iS k m i off=>dsimp only at hk ⊢;refine oT (oU hk) λs1 v1 ⟨k1,h1⟩=> ?_;split at h1;rename_i r hr;split at h1;obtain⟨d,a1,a2,a3,a4⟩:=h1.out;refine⟨d,a1,a2,a3,?_⟩;split at a4;refine h _ ((bW.vz k1 (dg dst)).trans (bW.iE (W:=dg dst) (.inl rfl) (.inl ⟨rfl,rfl⟩) (.inr (.inl ⟨k,_,qB,rfl,rfl⟩))) (λ_ h=>h) (λ_ h=>h)) k1.y a4;exact a4.elim;exact jx;exact jx
   |j8 k m i=>
    dsimp only at hk ⊢;split at hk
    ·split at hk
     rotate_left
     exact aq;rename_i q n' _ _ r rq hr hq;split at hk
     rotate_left
     exact aq;obtain⟨d,a1,a2,a3,a4⟩:=hk.k.out;refine⟨hk.h,d,a1,a2,a3,?_⟩;split at a4;exact h _ (two (dst:=dst) hr hq (.inl rfl)) rfl a4;exact a4.elim
    ·split at hk
     rotate_left
     exact aq;rename_i r hr;split at hk
     rotate_left
     exact aq;obtain⟨d,a1,a2,a3,a4⟩:=hk.out;refine⟨d,a1,a2,a3,?_⟩;split at a4;exact h _ (bW.iE (.inl rfl) (.inl ⟨rfl,rfl⟩) (.inr (.inl ⟨k,_,qB,rfl,rfl⟩))) rfl a4;exact a4.elim
    exact aq
   |fT k j i=>
    dsimp only at hk ⊢;split at hk
    rotate_left
    exact aq;rename_i q x r hr _;split at hk
    rotate_left
    exact aq;obtain⟨xs,b1,b2⟩:=hk.out;exact⟨xs,b1,b2.h,h _ (bW.iE (.inl rfl) (.inl ⟨rfl,rfl⟩) (.inr (.inl ⟨k,_,qB,rfl,rfl⟩))) rfl b2.k⟩
   |_=>exact aq
 |alloc d=>simp only[aC]at hk ⊢;split at hk;rename_i t;split at hk;split at hk;exact h _ (bW.iE (.inr ⟨t,_,uL,rfl⟩) (.inr (.inr ⟨t,_,uL,rfl,rfl⟩)) (.inl ⟨rfl,rfl⟩)) rfl hk;exact aq;unfold wR at hk ⊢;split at hk;exact Vg;split at hk;exact Vg;exact aq;exact aq
 |row sz es=>
  simp only[aC]at hk ⊢;split at hk;rename_i t;split at hk;split at hk;exact put hk;exact aq;refine j9 (qK hk) λs1 es1 ⟨k1,h1⟩=> ?_;split at h1
  have:=(bW.vz k1 (dg (some t))).trans (U:=dg (some t)) (bW.iE (W:=dg (some t)) (s' :={env:=aW s1.env t (some (.ref t es1.length)),H:=s1.H,hn:=s1.hn,R:=aW s1.R t (some ⟨sz,true,es1⟩),rn:=t::s1.rn,y:=s1.y})
   (.inr ⟨t,_,uL,rfl⟩) (.inl ⟨rfl,rfl⟩) (.inr (.inr ⟨t,_,by simp[dg,dm],rfl,rfl⟩))) (λ_ h=>h) (λ_ h=>h)
  exact h _ this k1.y h1;exact jx;exact aq
 |idx sz a i=>
  simp only[aC]at hk ⊢;split at hk;exact aq
  ·cases a with
   |sl z es b=>exact CI
   |ref k n=>dsimp only at hk ⊢;split at hk;split at hk;exact CI;exact CI;exact aq
   |cQ k n=>dsimp only at hk ⊢;split at hk;exact CI;exact aq
   |sub k j n=>dsimp only at hk ⊢;split at hk;obtain⟨xs,b1,b2⟩:=hk.out;exact⟨xs,b1,b2.h,put b2.k⟩;exact aq
   |_=>exact aq
 |adk=>simp only[aC]at hk ⊢;split at hk;rename_i t;split at hk;exact RC;exact aq;exact aq
 |X5 k q n v=>
  simp only[aC]at hk ⊢;split at hk;exact aq;split at hk;exact aq;split at hk;rename_i r hr;split at hk;obtain⟨i,hf,hk⟩:=hk;refine⟨i,hf,?_⟩;cases i with|none=>exact RA|some i=>exact RA
  exact aq;exact aq
 |ado k q n z ok=>
  simp only[aC]at hk ⊢;split at hk;split at hk;obtain⟨i,hf,hk⟩:=hk;refine⟨i,hf,?_⟩;cases i with|none=>exact put hk|some i=>obtain⟨kd,v,hv,hk⟩:=hk;exact⟨kd,v,hv,put hk⟩
  exact aq;exact aq
 |adr k q n=>
  simp only[aC]at hk ⊢;split at hk;exact aq;split at hk;rename_i r hr;split at hk;obtain⟨i,hf,hk⟩:=hk;refine⟨i,hf,?_⟩;cases i with|none=>exact h _ (bW.refl _ _) rfl hk|some i=>exact RA
  exact aq;exact aq
 |adl k=>simp only[aC]at hk ⊢;split at hk;split at hk;exact put hk;exact aq;exact aq|akd l off m sz i=>exact Ez|part cs i=>exact CI
 |ahv b i=>obtain⟨d,a1,a2,a3⟩:=hk.out;exact⟨d,a1,a2,put a3⟩
 |app sz a b=>
  simp only[aC]at hk ⊢;split at hk;exact aq
  ·split at hk;rename_i _ _ t _;have rd:∀{X X' :List au->Prop},lq s b X->(∀xs,X xs->X' xs)->lq s b X' :=λ{X X'} h0 hx=>by unfold lq at*;cases b with|ref k n=>dsimp only at h0 ⊢;split at h0;exact⟨h0.h,hx _ h0.k⟩;exact h0.elim|sl _ _ _=>exact hx _ h0|str _=>exact hx _ h0|_=>exact h0.elim
   refine rd hk λxs hn=>⟨hn.h,?_⟩;have hk:=hn.k;split at hk;exact RC;exact aq;rename_i k n t _;split at hk;rename_i r hr;have rd:∀{X X' :List au->Prop},lq s b X->(∀xs,X xs->X' xs)->lq s b X' :=λ{X X'} h0 hx=>by unfold lq at*;cases b with|ref k n=>dsimp only at h0 ⊢;split at h0;exact⟨h0.h,hx _ h0.k⟩;exact h0.elim|sl _ _ _=>exact hx _ h0|str _=>exact hx _ h0|_=>exact h0.elim
   refine rd hk λxs hn=>⟨hn.h,h _ (bW.iE (.inr ⟨t,_,uL,rfl⟩) (.inl ⟨rfl,rfl⟩) (.inr (.inl ⟨k,_,qB,rfl,rfl⟩))) rfl hn.k⟩;exact aq
   ·rename_i k n t _;split at hk
    rotate_left
    exact aq;rename_i q n' _;split at hk
    rotate_left
    exact aq;rename_i r rq hr hq;split at hk
    rotate_left
    exact aq;exact⟨hk.h,h _ (two (dst:=some t) hr hq (.inr ⟨t,_,uL,rfl⟩)) rfl hk.k⟩
   exact aq
 |sub sz a lo hi=>simp only[aC]at hk ⊢;cases a with|str b=>exact Ez|_=>dsimp only at hk ⊢;split at hk;exact aq;refine oT (oU hk) λs1 v1 ⟨k1,h1⟩=> ?_;cases v1 with|sl z es b=>dsimp only at h1 ⊢;split at h1;exact⟨h1.h,h _ ((bW.vz k1 (dg dst)).trans (bW.put s1 dst _) (λ_ h=>h) (λ_ h=>h)) ((show(s1.put dst _).y=s1.y by cases dst<;>rfl).trans k1.y) h1.k⟩;exact jx|_=>exact jx
 |make sz z n m=>simp only[aC]at hk ⊢;split at hk;rename_i t;split at hk;split at hk;exact Zd;exact Zd;exact aq;exact aq|Ek es nl ne=>simp only[aC]at hk ⊢;cases nl with|true=>exact put hk|false=>exact Ez
 |sel b x y=>simp only[aC]at hk ⊢;refine⟨λe=> ?_,λe=> ?_⟩;have:=hk.t e;split at this;exact put this;exact this.elim;have:=hk.f e;split at this;exact put this;exact this.elim|bytes e b=>simp only[aC]at hk ⊢;split at hk;rename_i t;split at hk;exact RC;exact aq;exact aq
 |text a=>
  simp only[aC]at hk ⊢;split at hk;exact aq;have rd:∀{X X' :List au->Prop},lq s a X->(∀xs,X xs->X' xs)->lq s a X' :=λ{X X'} h0 hx=>by unfold lq at*;cases a with|ref k n=>dsimp only at h0 ⊢;split at h0;exact⟨h0.h,hx _ h0.k⟩;exact h0.elim|sl _ _ _=>exact hx _ h0|str _=>exact hx _ h0|_=>exact h0.elim
  refine rd hk λxs hn=> ?_;obtain⟨b,hb,hn⟩:=hn.out;exact⟨b,hb,put hn⟩
 |call f args=>
  simp only[aC]at hk ⊢;split at hk;rename_i t;refine jt hk λs1 ls ks asl k1 h1=> ?_;refine lz (r_ h1) λnZ H1 ⟨hl,h2⟩=> ?_;split at h2;rename_i R hR;obtain⟨hlen,hlive⟩:=pK _ _ hR;obtain⟨r,m',hc,h3⟩:=h2.out;refine⟨r,m',hc,?_⟩;split at h3;rename_i hb;rw[aX,aX,Nat.ble_eq]at hb;obtain⟨b1,b2,b3⟩:=qH (ks:=nZ) (t:=t) (rs:=m'.R) (i:=0) (R:=s1.R) (rn:=s1.rn) (λk hk=>aay) (by simpa using hb.2.2);have bx:=λl=>tP (ks:=nZ) (t:=t) (ls:=ls) (ds:=m'.H) (H:=s1.H) hl l;have kk:bW (dg (some t)) s1 {env:=aW s1.env t (some (back nZ t r)),H:=fC nZ t s1.H ls m'.H,hn:=s1.hn,R:=(dC nZ t s1.R s1.rn 0 m'.R).1,rn:=(dC nZ t s1.R s1.rn 0 m'.R).2,y:=s1.y}:=
   {env:=λu hu=>aO _ _ _ _ aa2
    H:=λl hl=> .inl ((bx l).1 hl)
    R:=b1
    kl:=λl hl=>(bx l).2 hl
    kj:=b2
    nm:=λhn=>⟨λl hl=>hn.1 l ((bx l).1 hl),b3 hn.2⟩
    y:=λh=>h}
  exact h _ ((bW.vz k1 (dg (some t))).trans kk (λ_ h=>h) (λ_ h=>h)) k1.y h3;exact h3.elim;exact h2.elim;exact aq
 |yield=>exact aq|yS=>exact aq|bad=>exact aq
def vL{P:Program}{c:mN}{dst:Option Nat}{s:St}{K K' :St->Prop}{KP KP' :Nat->St->Prop}{f:FuncId}{args:List au}(hk:OM P c true dst s K KP (.call f args))(h:∀s',bW (dg dst) s s' ->s'.y=s.y->K s' ->K' s')(hP:∀q s',bW (dg dst) s s' ->s'.y=s.y->KP q s' ->KP' q s'):OM P c true dst s K' KP' (.call f args):=by
 simp only[OM]at hk ⊢;split at hk;rename_i t;refine jt hk λs1 ls ks asl k1 h1=> ?_;refine lz (r_ h1) λnZ H1 ⟨hl,h2⟩=> ?_;split at h2;rename_i R hR;obtain⟨hlen,hlive⟩:=pK _ _ hR;obtain⟨r,m',hc,h3⟩:=h2.out;refine⟨r,m',hc,?_⟩;have kk:∀(hb:Nat.ble m'.R.length (nZ.length+4)=true) (e:Nat->Option au) (he:∀u,u∉dg (some t)->e u=s1.env u),bW (dg (some t)) s {env:=e,H:=fC nZ t s1.H ls m'.H,hn:=s1.hn,R:=(dC nZ t s1.R s1.rn 0 m'.R).1,rn:=(dC nZ t s1.R s1.rn 0 m'.R).2,y:=s1.y}:=λhb e he=>by
  obtain⟨b1,b2,b3⟩:=qH (ks:=nZ) (t:=t) (rs:=m'.R) (i:=0) (R:=s1.R) (rn:=s1.rn) (λk hk=>aay) qu;have bx:=λl=>tP (ks:=nZ) (t:=t) (ls:=ls) (ds:=m'.H) (H:=s1.H) hl l;exact(bW.vz k1 (dg (some t))).trans (c:={env:=e,H:=fC nZ t s1.H ls m'.H,hn:=s1.hn,R:=(dC nZ t s1.R s1.rn 0 m'.R).1,rn:=(dC nZ t s1.R s1.rn 0 m'.R).2,y:=s1.y})
   {env:=λu hu=>he u hu
    H:=λl hl=> .inl ((bx l).1 hl)
    R:=b1
    kl:=λl hl=>(bx l).2 hl
    kj:=b2
    nm:=λhn=>⟨λl hl=>hn.1 l ((bx l).1 hl),b3 hn.2⟩
    y:=λh=>h} (λ_ h=>h) (λ_ h=>h)
 split at h3;split at h3;rename_i hb;rw[aX,aX]at hb;exact h _ (kk hb.2.2 _ λu hu=>aO _ _ _ _ aa2) k1.y h3;exact h3.elim;split at h3;rename_i hb;rw[aX,aX]at hb;exact hP _ _ (kk hb.2.2 _ λ_ _=>rfl) k1.y h3;exact h3.elim;exact h2.elim;exact aq
theorem Cr{α:Type}:∀(l:List α) (K:List α->Prop),build l K=K l|[],K=>rfl|x::l,K=>by simp only[YU,Th];exact Cr l _
def wB{α:Type}{e:Nat->Option α}{t:Nat}{x:Option α}(h:e t=x):aW e t x=e:=by funext u;by_cases hu:u=t;subst hu;rw[bw,h];rw[aO _ _ _ _ hu]
def norm_eq(dst:Option Nat)(p:DD)(s:St)(K:St->Prop):norm dst p s K=K s:=by unfold norm;split;split;split;rename_i he;split;rw[Cr,wB he];rw[Cr,wB he];rw[wB he];rfl;split;split;rename_i he;split;rw[Cr,wB he];rw[wB he];rfl;rfl
theorem Cj(P:Program)(c:mN)(all:List Oper):∀(l:List Oper) (rs:List Rec) (s:St) (K:List Rec->St->Prop),xq P c all l rs s K=uu P c all l rs s K|[],rs,s,K=>rfl|o::l,rs,s,K=>by simp only[Qx,uu];congr 1;congr 1;funext s';rw[norm_eq,Cj P c all l];rw[Cj P c all l]
theorem oW{P:Program}{c:mN}{all:List Oper}:∀{l:List Oper} {rs:List Rec} {s:St} {K K' :List Rec->St->Prop},uu P c all l rs s K->(∀rs' s',bW (l.flatMap λo=>dg o.dst) s s' ->K rs' s' ->K' rs' s')->uu P c all l rs s K' |[],rs,s,K,K',hk,h=>h _ _ (bW.refl _ _) hk|o::l,rs,s,K,K',hk,h=>by simp only[uu]at hk ⊢;have up:∀{a b:St},bW (dg o.dst) s a->bW (l.flatMap λo=>dg o.dst) a b->bW ((o::l).flatMap λo=>dg o.dst) s b:=λha hb=>ha.trans hb (λt ht=>by simp[ht]) (λt ht=>TU);exact qN hk (λh1=>qX h1 λs1 k1 _ h2=>oW h2 λrs' s' k2 h3=>h _ _ (up k1 k2) h3) (λh1=>oW h1 λrs' s' k2 h3=>h _ _ (up (bW.forget s o.dst) k2) h3)
theorem Ol{P:Program}{c:mN}{all:List Oper}:∀{l:List Oper} {rs:List Rec} {s:St} {K:List Rec->St->Prop},uu P c all l rs s K->uu P c all l rs s λrs' s' =>s'.y=s.y∧K rs' s' |[],rs,s,K,hk=>⟨rfl,hk⟩|o::l,rs,s,K,hk=>by simp only[uu]at hk ⊢;exact qN hk (λh1=>qX h1 λs1 _ k1 h2=>oW (Ol h2) λrs' s' _ h3=>⟨h3.1.trans k1,h3.2⟩) (λh1=>oW (Ol h1) λrs' s' _ h3=>⟨h3.1.trans E7,h3.2⟩)
def Na:=@Classical.byContradiction
def MY:=@List.getElem?_of_mem
def aaz(h:G:=by intro i hi;rcases jl i ops.size with hlt|hge;simp[hlt]at hi;simp[hge]at hi):=h
def aau(h:G:=by rw[Gj,List.count_set (by simpa using hlt)];simp[hl]):=h
def aaq(h:G:=by rcases JH b o v e with q|q;exact(hA.I0 b o v q).2;exact .inr q.2):=h
def aap(h:G:=by rw[show i+1+k=i+(k+1) by omega];exact hl (k+1) o (by exact AH)):=h
def VS(h:G:=by intro d e;rw[ho1]at e;cases e):=h
def VD(h:G:=by cases o.dst<;>exact Ky):=h
def ME(h:G:=by rw[norm_eq]at h2;exact h2):=h
def Vu(h:G:=by simp[hlt]at h0;exact h0):=h
def A8(h:G:=by rw[hk1]at e;cases e):=h
def Ro(h:G:=by exact go e1.2 (.refl _ _) (λe=>e1.1.trans e) (by rw[e1.1];exact hy) e2 e3):=h
def Y_(h:G:=by obtain⟨x,hx⟩:=bO (l:=ops.toList) (i:=i) (by simpa using h);obtain⟨y,hy⟩:=bO (l:=T) (i:=i) (by omega);exact⟨x,y,hx,hy⟩):=h
def Rl(h:G:=by unfold G2 at hB;rw[jW]at hB;exact hB o (dr ho)):=h
def AK(h:G:=by rw[aJ]at ho;simpa using ho):=h
def Lh(h:G:=by unfold opB at hb;rw[aX]at hb;exact hb.1):=h
def UY(h:G:=by have:=List.count_le_length (a:=true) (l:=listed.toList);simp at this ⊢;simp at hf;omega):=h
def UP(h:G:=by obtain⟨y,z,hy,hz⟩:=both hi;exact(stay hy hz).2.1 x (λe=>hw ⟨z,hz,e⟩)):=h
def UO(h:G:=by obtain⟨y,z,hy,hz⟩:=both hi;exact(stay hy hz).2.2 x (λe=>hw ⟨z,hz,e⟩)):=h
def qA(h:G:=by exact absurd b ht):=h
def UM(h:G:=by obtain⟨y,z,hy,hz⟩:=both hi;exact(stay hy hz).1 x (λe=>hw ⟨y,hy,e⟩)):=h
def Uw(h:G:=by exact⟨this.env,this.size,this.defers,this.mem.names rfl rfl⟩):=h
def Un(h:G:=by have:i<listed.size:=(by omega);simp[this]at hl ⊢;exact hl):=h
def Ky(h:G:=by exact⟨m,_,rfl,hA1.1⟩):=h
def qo(h:G:=by simpa using hs):=h
section
variable{P:Program}{cx:Cx}{c:mN}{ops:Array Oper}{S:Nat->St}{T:List Rec}
def kz{d:Option Nat}{t:Nat}:t∈dg d↔d=some t:=by cases d<;>simp[dg,eq_comm]
def apart_spec{ops:List Oper}{x y:Oper}{rx ry:Rec}(h:Am ops x y rx ry=true):(∀t,x.dst=some t->¬(t∈jc ops y∨y.dst=some t))∧(∀t,y.dst=some t->¬(t∈jc ops x∨x.dst=some t))∧(∀l,l∈rx.wh->¬(l∈ry.rh∨l∈ry.wh))∧(∀l,l∈ry.wh->¬(l∈rx.rh∨l∈rx.wh))∧(∀l,l∈rx.wr->¬(l∈ry.rr∨l∈ry.wr))∧(∀l,l∈ry.wr->¬(l∈rx.rr∨l∈rx.wr)):=by
 unfold Am at h;simp only[mR,MZ]at h;obtain⟨⟨⟨⟨⟨⟨⟨⟨a1,a2⟩,a3⟩,b1⟩,b2⟩,b3⟩,c1⟩,c2⟩,c3⟩:=h;refine⟨λt ht=> ?_,λt ht=> ?_,λl hl=> ?_,λl hl=> ?_,λl hl=> ?_,λl hl=> ?_⟩
 ·rintro (h|h)
  exact iv a1 (kz.2 ht) h;exact iv a2 (kz.2 ht) (kz.2 h)
 ·rintro (h|h)
  exact iv a3 (kz.2 ht) h;exact iv a2 (kz.2 h) (kz.2 ht)
 ·rintro (h|h)
  exact iv b1 hl h;exact iv b2 hl h
 ·rintro (h|h)
  exact iv b3 h hl;exact iv b2 h hl
 ·rintro (h|h)
  exact iv c1 hl h;exact iv c2 hl h
 ·rintro (h|h)
  exact iv c3 h hl;exact iv c2 h hl
def GY(hI:Xk ops T)(hIL:OJ ops T)(hlen:T.length=ops.size)(hL:∀(i:Nat) o r,nth ops.toList i=some o->nth T i=some r->yO P c ops.toList o (S i) (S (i+1)) r){D:Nat->Prop}(hD:xG ops.toList D){u:St}(hu:Inv ops S T D u){j:Nat}{o:Oper}(ho:nth ops.toList j=some o)(Qi:¬D j)(hpre:Pre o D):∃u',acw P c ops.toList o u u' ∧Inv ops S T (λi=>D i∨i=j) u' :=by
 have hj:j<ops.size:=by have:=aH ho;exact mO
 obtain⟨r,hr⟩:=bO (l:=T) (i:=j) E;have hn:∀{i:Nat} {x:Oper},nth ops.toList i=some x->i<ops.size:=λh=>Kt
 have hnT:∀{i:Nat} {x:Rec},nth T i=some x->i<ops.size:=λh=>by have:=aH h;omega
 have both:∀{i:Nat},i<ops.size->∃x y,nth ops.toList i=some x∧nth T i=some y:=λ{i} h=>Y_
 have an6:∀{i:Nat} {x:Oper} {y:Rec},i<j->nth ops.toList i=some x->nth T i=some y->¬Am ops.toList x o y r=true->D i:=λ{i x y} h1 h2 h3 h4=>(hI.apart D hD i j h1 x o y r h2 ho h3 hr).resolve_left h4 hpre;have an5:∀{i:Nat} {x:Oper} {y:Rec},j<i->nth ops.toList i=some x->nth T i=some y->¬Am ops.toList o x r y=true->¬D i:=λ{i x y} h1 h2 h3 h4 h5=>Qi ((hI.apart D hD j i h1 o x r y ho h2 hr h3).resolve_left h4 (λe he hb=>hD i x h2 h5 e he hb));have stay:∀{i:Nat} {x:Oper} {y:Rec},nth ops.toList i=some x->nth T i=some y->
  (∀t,x.dst≠some t->(S (i+1)).env t=(S i).env t)∧(∀l,l∉y.wh->(S (i+1)).H l=(S i).H l)∧(∀l,l∉y.wr->(S (i+1)).R l=(S i).R l):=λ{i x y} h1 h2=>by
  obtain⟨u',p,_⟩:=(hL i x y h1 h2).out (S i) ⟨λ_ _=>rfl,λ_ _=>rfl,λ_ _=>rfl⟩ (λ_ _=>rfl);refine⟨λt ht=> ?_,λt ht=> ?_,λt ht=> ?_⟩;rcases p.env t with⟨a,_⟩|⟨_,b⟩;exact a;exact qA;rcases p.H t with⟨a,_⟩|⟨_,b⟩;exact a;exact qA;rcases p.R t with⟨a,_⟩|⟨_,b⟩;exact a;exact qA
 have ar4:∀x m,m<=ops.size->(∀i,i<m->(∃y,nth ops.toList i=some y∧y.dst=some x)->D i)->(∀i,m<=i->(∃y,nth ops.toList i=some y∧y.dst=some x)->¬D i)->u.env x=(S m).env x:=λx m hm h1 h2=>hu.env x m hm (λi y hi hy hd=>h1 i hi ⟨y,hy,hd⟩) (λi y hi hy hd=>h2 i hi ⟨y,hy,hd⟩);have iH:∀x m,m<=ops.size->(∀i,i<m->(∃y,nth T i=some y∧x∈y.wh)->D i)->(∀i,m<=i->(∃y,nth T i=some y∧x∈y.wh)->¬D i)->u.H x=(S m).H x:=λx m hm h1 h2=>hu.H x m hm (λi y hi hy hd=>h1 i hi ⟨y,hy,hd⟩) (λi y hi hy hd=>h2 i hi ⟨y,hy,hd⟩);have iR:∀x m,m<=ops.size->(∀i,i<m->(∃y,nth T i=some y∧x∈y.wr)->D i)->(∀i,m<=i->(∃y,nth T i=some y∧x∈y.wr)->¬D i)->u.R x=(S m).R x:=λx m hm h1 h2=>hu.R x m hm (λi y hi hy hd=>h1 i hi ⟨y,hy,hd⟩) (λi y hi hy hd=>h2 i hi ⟨y,hy,hd⟩);have al1:∀{x i},(x∈jc ops.toList o∨o.dst=some x)->i<j->(∃y,nth ops.toList i=some y∧y.dst=some x)->D i:=λ{x i} hx hi hy=>by obtain⟨y,hy,hd⟩:=hy;obtain⟨_,z,_,hz⟩:=both (hn hy);exact an6 hi hy hz (λh=>(apart_spec h).1 x hd hx)
 have al0:∀{x i},(x∈jc ops.toList o∨o.dst=some x)->j<i->(∃y,nth ops.toList i=some y∧y.dst=some x)->¬D i:=λ{x i} hx hi hy=>by obtain⟨y,hy,hd⟩:=hy;obtain⟨_,z,_,hz⟩:=both (hn hy);exact an5 hi hy hz (λh=>(apart_spec h).2.1 x hd hx)
 have oH1:∀{x i},(x∈r.rh∨x∈r.wh)->i<j->(∃y,nth T i=some y∧x∈y.wh)->D i:=λ{x i} hx hi hy=>by obtain⟨y,hy,hd⟩:=hy;obtain⟨z,_,hz,_⟩:=both (hnT hy);exact an6 hi hz hy (λh=>(apart_spec h).2.2.1 x hd hx)
 have oH2:∀{x i},(x∈r.rh∨x∈r.wh)->j<i->(∃y,nth T i=some y∧x∈y.wh)->¬D i:=λ{x i} hx hi hy=>by obtain⟨y,hy,hd⟩:=hy;obtain⟨z,_,hz,_⟩:=both (hnT hy);exact an5 hi hz hy (λh=>(apart_spec h).2.2.2.1 x hd hx)
 have oR1:∀{x i},(x∈r.rr∨x∈r.wr)->i<j->(∃y,nth T i=some y∧x∈y.wr)->D i:=λ{x i} hx hi hy=>by obtain⟨y,hy,hd⟩:=hy;obtain⟨z,_,hz,_⟩:=both (hnT hy);exact an6 hi hz hy (λh=>(apart_spec h).2.2.2.2.1 x hd hx)
 have oR2:∀{x i},(x∈r.rr∨x∈r.wr)->j<i->(∃y,nth T i=some y∧x∈y.wr)->¬D i:=λ{x i} hx hi hy=>by obtain⟨y,hy,hd⟩:=hy;obtain⟨z,_,hz,_⟩:=both (hnT hy);exact an5 hi hz hy (λh=>(apart_spec h).2.2.2.2.2 x hd hx)
 have turned:∀{q:Nat×Nat×Nat×Bool} {i:Nat} {x:Oper} {y:Rec},nth ops.toList i=some x->nth T i=some y->pr ((S (i+1)).H q.1) q≠pr ((S i).H q.1) q->q.1∈y.wh:=λ{q i x y} h1 h2 h3=>Na λhno=>h3 (by rw[(stay h1 h2).2.1 _ hno]);have ldj:∀{q:Nat×Nat×Nat×Bool},q∈r.ld->∀{i:Nat} {x:Oper} {y:Rec},nth ops.toList i=some x->nth T i=some y->pr ((S (i+1)).H q.1) q≠pr ((S i).H q.1) q->¬xE r.ld y.wv:=λ{q} hq {i x y} h1 h2 h3 h4=>h3 (h4 q hq _ ((hL i x y h1 h2).wv _ (turned h1 h2 h3)) rfl).symm;have ava:∀q∈r.ld,pr ((S j).H q.1) q=pr (u.H q.1) q:=λq hq=>by refine(hu.L q j E (λi hi hlt hch=> ?_) (λi hi hlt hch hd=> ?_)).symm;obtain⟨x,y,hx,hy⟩:=both hlt;rcases hIL.ld D hD i j hi o y r ho hy hr with h|h;exact absurd h.2 (ldj hq hx hy hch);exact h hpre;rcases jl j i with h' |h';obtain⟨x,y,hx,hy⟩:=both hlt;rcases hIL.ld D hD j i h' x r y hx hr hy with h|h;exact absurd h.1 (ldj hq hx hy hch);exact Qi (h (λe he hb=>hD i x hx hd e he hb));have:i=j:=E;subst this;exact Qi hd
 have agr:Agr r (S j) u:=⟨λx hx=>(NY (V:=λm=>(S m).H x) hj (iH x) Qi (λi=>oH1 hx) (λi=>oH2 hx)).symm,λx hx=>(NY (V:=λm=>(S m).R x) hj (iR x) Qi (λi=>oR1 hx) (λi=>oR2 hx)).symm,ava⟩;have avb:∀t∈jc ops.toList o,(S j).env t=u.env t:=λx hx=>(NY (V:=λm=>(S m).env x) hj (ar4 x) Qi (λi=>al1 (.inl hx)) (λi=>al0 (.inl hx))).symm;obtain⟨u',p,q⟩:=(hL j o r ho hr).out u agr avb;refine⟨u',q,⟨λx m hm h1 h2=> ?_,λx m hm h1 h2=> ?_,λx m hm h1 h2=> ?_,λq m hm h1 h2=> ?_⟩⟩
 rotate_left 3
 have inv:=λm hm (a:∀i,i<m->(i<ops.size∧pr ((S (i+1)).H q.1) q≠pr ((S i).H q.1) q)->D i) (b:∀i,m<=i->(i<ops.size∧pr ((S (i+1)).H q.1) q≠pr ((S i).H q.1) q)->¬D i)=>hu.L q m hm (λi hi hlt hch=>a i hi ⟨hlt,hch⟩) (λi hi hlt hch=>b i hi ⟨hlt,hch⟩);have before:q.1∈r.wh->∀i,i<j->(i<ops.size∧pr ((S (i+1)).H q.1) q≠pr ((S i).H q.1) q)->D i:=λhw i hi hc=>by obtain⟨x,y,hx,hy⟩:=both hc.1;exact oH1 (.inr hw) hi ⟨y,hy,turned hx hy hc.2⟩
 have behind:q.1∈r.wh->∀i,j<i->(i<ops.size∧pr ((S (i+1)).H q.1) q≠pr ((S i).H q.1) q)->¬D i:=λhw i hi hc=>by obtain⟨x,y,hx,hy⟩:=both hc.1;exact oH2 (.inr hw) hi ⟨y,hy,turned hx hy hc.2⟩
 refine B8 (V:=λm=>pr ((S m).H q.1) q) (W:=λi=>i<ops.size∧pr ((S (i+1)).H q.1) q≠pr ((S i).H q.1) q) hj inv (λi hi hw=> ?_) (λi h=>h.1) Qi (λi hi hw SW=>before (turned ho hr SW.2) i hi hw) (λi hi hw SW=>behind (turned ho hr SW.2) i hi hw) ?_ m hm (λi hi hc=>h1 i hi hc.1 hc.2) (λi hi hc=>h2 i hi hc.1 hc.2);exact Na λhc=>hw ⟨hi,hc⟩;rcases p.H q.1 with⟨a,b⟩|⟨a,b⟩;exact AM;by_cases hw:pr ((S (j+1)).H q.1) q=pr ((S j).H q.1) q;refine .inl ⟨hw,?_⟩;have hv:=NY (V:=λm=>pr ((S m).H q.1) q) (W:=λi=>i<ops.size∧pr ((S (i+1)).H q.1) q≠pr ((S i).H q.1) q) hj inv Qi (before b) (behind b);rw[hv,<-a];exact hw;exact .inr ⟨by rw[a],hj,hw⟩
 refine B8 (V:=λm=>(S m).env x) (W:=λi=>∃y,nth ops.toList i=some y∧y.dst=some x) hj (ar4 x) (λi hi hw=> ?_) (λi ⟨y,hy,_⟩=>hn hy) Qi (λi hi hw SW=> ?_) (λi hi hw SW=> ?_) ?_ m hm (λi hi ⟨y,hy,hd⟩=>h1 i y hi hy hd) (λi hi ⟨y,hy,hd⟩=>h2 i y hi hy hd);exact UM;obtain⟨y,hy,hd⟩:=SW;rw[ho]at hy;cases hy;exact al1 (.inr hd) hi hw;obtain⟨y,hy,hd⟩:=SW;rw[ho]at hy;cases hy;exact al0 (.inr hd) hi hw;exact(p.env x).imp id λ⟨a,b⟩=>⟨a,o,ho,b⟩;refine B8 (V:=λm=>(S m).H x) (W:=λi=>∃y,nth T i=some y∧x∈y.wh) hj (iH x) (λi hi hw=> ?_) (λi ⟨y,hy,_⟩=>hnT hy) Qi (λi hi hw SW=> ?_) (λi hi hw SW=> ?_) ?_ m hm (λi hi ⟨y,hy,hd⟩=>h1 i y hi hy hd) (λi hi ⟨y,hy,hd⟩=>h2 i y hi hy hd);exact UP;obtain⟨y,hy,hd⟩:=SW;rw[hr]at hy;cases hy;exact oH1 (.inr hd) hi hw;obtain⟨y,hy,hd⟩:=SW;rw[hr]at hy;cases hy;exact oH2 (.inr hd) hi hw;exact(p.H x).imp id λ⟨a,b⟩=>⟨a,r,hr,b⟩;refine B8 (V:=λm=>(S m).R x) (W:=λi=>∃y,nth T i=some y∧x∈y.wr) hj (iR x) (λi hi hw=> ?_) (λi ⟨y,hy,_⟩=>hnT hy) Qi (λi hi hw SW=> ?_) (λi hi hw SW=> ?_) ?_ m hm (λi hi ⟨y,hy,hd⟩=>h1 i y hi hy hd) (λi hi ⟨y,hy,hd⟩=>h2 i y hi hy hd);exact UO;obtain⟨y,hy,hd⟩:=SW;rw[hr]at hy;cases hy;exact oR1 (.inr hd) hi hw;obtain⟨y,hy,hd⟩:=SW;rw[hr]at hy;cases hy;exact oR2 (.inr hd) hi hw;exact(p.R x).imp id λ⟨a,b⟩=>⟨a,r,hr,b⟩
def xh{g:Gh}{u:St}{a:Act}{w:World}(h:Rel cx g u a w){o:Oper}{X Y:Prop}(hg:guardOf ops.toList u o X Y):(Region.wanted o (yielded ops a.tmps)=true∧X)∨(Region.wanted o (yielded ops a.tmps)=false∧Y):=by
 unfold guardOf at hg;unfold Region.wanted;split at hg;rename_i e;rw[e];exact .inl ⟨rfl,hg⟩;rename_i j want e;rw[e];dsimp only;split at hg;rename_i oj hj;split at hg;rename_i t ht;split at hg;rename_i b hb;have hv:=(h.env t _ hb).ot;have hy:yielded ops a.tmps j=some b:=by
  unfold yielded;rw[aJ]at hj;have hj' :ops[j]? =some oj:=yc
  rw[hj'];simp only[Option.bind_some,ht];have:a.tmps[t]? =some (.bool b):=by rw[<-hv];rcases jl t a.tmps.size with hlt|hge;simp[hlt];simp[CT hge,undef]at hv
  rw[this]
 rw[hy];cases hbw:(b==want)with|true=>exact .inl ⟨by simpa using hbw,(DE hg).t hbw⟩|false=>exact .inr ⟨by simpa using hbw,(DE hg).f hbw⟩
 rename_i hb;refine .inr ⟨?_,hg⟩;obtain⟨vs,hv,_⟩:=(h.env t _ hb).FE;have hy:yielded ops a.tmps j=none:=by
  unfold yielded;rw[aJ]at hj;have hj' :ops[j]? =some oj:=yc
  rw[hj'];simp only[Option.bind_some,ht];rcases jl t a.tmps.size with hlt|hge;have:a.tmps[t]? =some (.tuple vs):=(by rw[<-hv];simp[hlt]);rw[this];rw[CT hge]
 rw[hy];rfl;exact hg.elim;exact hg.elim;exact hg.elim
def Bu{g:Gh}{o:Oper}{a:Act}{w:World}{K:St->Prop}{Q:Go.Exit->Act->World->Prop}{M:Act->World->Prop}(h:o.wp P a w (fK cx g K) Q)(hm:∀s' g' a' w',K s' ->Ext g g' ->Rel cx g' s' a' w' ->M a' w'):o.wp P a w M Q:=Oper.wp_mono (λ_ _ ⟨s',g',k,e,r⟩=>hm s' g' _ _ k e r) h
def G2(P:Program)(n:Nat)(ops:Array Oper):Bool:=ops.toList.all (opB P n)
def BM{ρ:TypeId->Operand->Option au}{dst:Option Nat}{s:St}{K:St->Prop}{o:Oper}(hk:aC P c dst s K (cu P o ρ)):∀d,o.op≠.defer d:=λd e=>by simp only[cu,e,aC]at hk
def YT{o:Oper}(hc:lD o=true){ρ:TypeId->Operand->Option au}{dst:Option Nat}{s:St}{K:St->Prop}(hk:aC P c dst s K (cu P o ρ)):∃f asl,cu P o ρ= .call f asl:=by
 unfold lD at hc;split at hc
 rotate_left
 cases hc;rename_i c' ho;split at hc
 rotate_left
 cases hc;rename_i f hce;simp only[cu,ho,mF,hce]at hk ⊢;split at hk;exact aq;rename_i args hargs;split at hk;rename_i Yz first cap hf
 split at hk;exact aq;rename_i hy;exact Az;exact aq;exact aq
def Qw{dst:Option Nat}{s:St}{K:St->Prop}{KP:Nat->St->Prop}{f:FuncId}{asl:List au}(hk:aC P c dst s K (.call f asl)):OM P c true dst s K KP (.call f asl):=by
 simp only[aC]at hk;simp only[OM];split at hk
 rotate_left
 exact aq;refine jt hk λs1 ls ks as' _ h1=>lz h1 λks H h2=> ?_;split at h2
 rotate_left
 exact h2.elim;obtain⟨r,m',h3,h4⟩:=h2.out;refine⟨r,m',h3,?_⟩;split;exact h4;rename_i q hq;rw[J7 hq]at h4;simp at h4
theorem Gr{g:Gh}{s:St}{a:Act}{w:World}(h:Rel cx g s a w){o:Oper}(hB:opB P cx.n o=true)(hC:∀f args m r m',c.C f args m r m' ->aj P f args m r m'){K:St->Prop}{Q:Go.Exit->Act->World->Prop}(hk:aC P c o.dst s K (cu P o (cY P s))):o.wp P a w (fK cx g K) Q:=by
 cases hc:lD o with
 |false=>exact Pb h hB hc hk
 |true=>
  have hd:ji cx.n o.dst=true:=by unfold opB at hB;rw[aX]at hB;exact hB.1
  obtain⟨f0,as0,hp⟩:=YT hc hk;rw[hp]at hk;exact DJ h hd hc hC (KP:=λ_ _=>False) hp (Qw hk) λ_ _ _ _ h=>h.elim
def G3{ro:Option Nat}{n:Nat}{g:Gh}{u u' :St}{a:Act}{w:World}{o:Oper}{j:Nat}(h:Rel cx g u a w)(hB:G2 P cx.n ops=true)(ho:nth ops.toList j=some o)(hok:v8 P c)(ht:acw P c ops.toList o u u'){Q:Go.Exit->Act->World->Prop}{M:Act->World->Prop}(hm:∀g' a' w',Ext g g' ->Rel cx g' u' a' w' ->M a' w'):wpOpIn (FW ro) n P ops Q j M a w:=by
 have ho' :ops[j]? =some o:=AK
 have hb:opB P cx.n o=true:=Rl
 unfold wpOpIn;rw[ho'];dsimp only;rcases xh h ht with⟨h1,h2⟩|⟨h1,h2⟩;rw[ak h1];have hx:=h2 (λs' =>s' =u') rfl;refine oH (BM hx) (Bu (Gr h hb hok.C hx) λs' g' a' w' e1 e2 e3=> ?_);subst e1;exact hm g' a' w' e2 e3;rw[Z (by rw[h1];simp)];subst h2;exact⟨λ_ _=>trivial,hm g _ w (Ext.refl g) (h.forget o.dst)⟩
def Rel.same{g:Gh}{s s' :St}{a:Act}{w:World}(h:Rel cx g s a w)(e1:s'.env=s.env)(e2:s'.H=s.H)(e3:s'.R=s.R):Rel cx g s' a w:=⟨by rw[e1];exact h.env,h.size,h.defers,h.mem.names e2 e3⟩
theorem Px(hI:Xk ops T)(hIL:OJ ops T)(hlen:T.length=ops.size)(hB:G2 P cx.n ops=true)(hok:v8 P c){ro:Option Nat}{n:Nat}(hL:∀(i:Nat) o r,nth ops.toList i=some o->nth T i=some r->yO P c ops.toList o (S i) (S (i+1)) r){Q:Go.Exit->Act->World->Prop}:∀(fuel:Nat) (listed:Array Bool) (u:St) (g:Gh) (a:Act) (w:World),listed.size=ops.size->ops.size<=fuel+listed.toList.count true->xG ops.toList (λi=>listed.getD i false=true)->Inv ops S T (λi=>listed.getD i false=true) u->Rel cx g u a w->(∀g' a' w',Ext g g' ->Rel cx g' (S ops.size) a' w' ->Q .normal a' w')->wpAnyIn (FW ro) n P .any ops Q fuel listed a w:=by
 have hall:∀{listed:Array Bool},listed.size=ops.size->Region.ready .any ops listed=[]->∀i,i<ops.size->listed.getD i false=true:=by
  intro listed hs hr i;induction i using Nat.strongRecOn with
  |_ i ih=>
   intro hi;cases hl:listed.getD i false with
   |true=>rfl
   |false=>
    exfalso;obtain⟨o,ho⟩:=bO (l:=ops.toList) (i:=i) uN;have:i∈Region.ready .any ops listed:=by rw[mem_ready];refine⟨?_,o,AK,λe he hbd=> ?_⟩;exact Un;have:=hI.down i o ho e he hbd;exact ih e.on this E
    rw[hr]at this;cases this
 have hend:∀{listed:Array Bool} {u:St} {g:Gh} {a:Act} {w:World},listed.size=ops.size->Region.ready .any ops listed=[]->Inv ops S T (λi=>listed.getD i false=true) u->Rel cx g u a w->
  (∀g' a' w',Ext g g' ->Rel cx g' (S ops.size) a' w' ->Q .normal a' w')->Q .normal a w:=by
  intro listed u g a w hs hr hu h hq;have hd:=hall hs hr;have lt1:∀{i:Nat} {x:Oper},nth ops.toList i=some x->i<ops.size:=λh=>Kt
  have lt2:∀{i:Nat} {x:Rec},nth T i=some x->i<ops.size:=λh=>by have:=aH h;omega
  refine hq g a w (Ext.refl g) (h.same ?_ ?_ ?_);funext x;exact(hu.env x ops.size (cJ _) (λi o _ ho _=>hd i (lt1 ho)) (λi o hi ho _=>absurd (lt1 ho) E)).symm;funext x;exact(hu.H x ops.size (cJ _) (λi o _ ho _=>hd i (lt2 ho)) (λi o hi ho _=>absurd (lt2 ho) E)).symm;funext x;exact(hu.R x ops.size (cJ _) (λi o _ ho _=>hd i (lt2 ho)) (λi o hi ho _=>absurd (lt2 ho) E)).symm
 intro fuel;induction fuel with
 |zero=>
  intro listed u g a w hs hf hcl hu h hq;have hr:Region.ready .any ops listed=[]:=by
   cases hr:Region.ready .any ops listed with
   |nil=>rfl
   |cons i rest=>
    exfalso;have hi:i∈Region.ready .any ops listed:=qB
    obtain⟨h0,o,ho,_⟩:=mem_ready.1 hi;have hlt:i<listed.size:=by rw[hs];exact(iX.1 ho).1
    have hfull:listed.toList.count true=listed.toList.length:=UY;rw[List.count_eq_length]at hfull;have:=hfull listed[i] O;simp[hlt]at h0;rw[h0]at this;cases this
  exact⟨hr,hend hs hr hu h hq⟩
 |succ fuel ih=>
  intro listed u g a w hs hf hcl hu h hq;refine⟨λhr=>hend hs hr hu h hq,λj hj=> ?_⟩;obtain⟨h0,o,ho,hpre⟩:=mem_ready.1 hj;have ho' :nth ops.toList j=some o:=by rw[aJ];simpa using ho
  have hlt:j<listed.size:=by rw[hs];exact(iX.1 ho).1
  have Qi:¬listed.getD j false=true:=by simp[hlt]at h0 ⊢;exact h0
  obtain⟨u',q,hu'⟩:=GY hI hIL hlen hL hcl hu ho' Qi hpre;have hset:∀i,(listed.setIfInBounds j true).getD i false=true↔(listed.getD i false=true∨i=j):=by
   intro i;by_cases hij:j=i;subst hij;simp[hlt];rw[getD_set_ne false hij];constructor;exact .inl
   ·rintro (h|h)
    exact h;exact absurd h.symm hij
  refine G3 h hB ho' hok q λg' a' w' e1 e2=> ?_;refine ih _ u' g' a' w' qo ?_ ?_ ?_ e2 (λg'' a'' w'' e3 e4=>hq g'' a'' w'' (e1.trans e3) e4);have hl:listed[j]=false:=Vu;have hne:(listed.setIfInBounds j true).toList.count true=listed.toList.count true+1:=aau
  omega;intro k ok hok hk e he hb;rw[hset]at hk ⊢;rcases hk with hk|hk;exact .inl (hcl k ok hok hk e he hb);subst hk;rw[ho']at hok;cases hok;exact .inl (hpre e he hb);have:(λi=>(listed.setIfInBounds j true).getD i false=true)=λi=>(listed.getD i false=true∨i=j):=funext λi=>propext (hset i);rw[this];exact hu'
structure Q_(cx gX :Cx)(y:YS):Prop where
 n:gX.n=cx.n
 same:y= .off->gX =cx
def Q_.refl(cx:Cx)(y:YS):Q_ cx cx y:=⟨rfl,λ_=>rfl⟩
theorem JP{b:Bool}{dst:Option Nat}{s:St}{K:St->Prop}{KP:Nat->St->Prop}{p:DD}(hk:OM P c b dst s K KP p):(b=true∧∃l args,p= .yield l args)∨(b=true∧∃f args,p= .yS f args)∨(aC P c dst s K p∧b=false∨b=true∧aC P c dst s K p)∨(∃es ne,p= .Ek es false ne∧agy es λr=>K (s.put dst (.bool (r !=ne))))∨(b=true∧∃f args,p= .call f args):=by
 cases p with
 |Ek es nl ne=>cases b with|true=>exact .inr (.inr (.inl (.inr ⟨rfl,hk⟩)))|false=>cases nl with|true=>exact .inr (.inr (.inl (.inl ⟨hk,rfl⟩)))|false=>exact .inr (.inr (.inr (.inl ⟨es,ne,rfl,hk⟩)))
 |_=>cases b<;>first|exact .inr (.inr (.inl (.inl ⟨hk,rfl⟩)))|exact .inl ⟨rfl,_,_,rfl⟩|exact .inr (.inl ⟨rfl,_,_,rfl⟩)|exact .inr (.inr (.inr (.inr ⟨rfl,_,_,rfl⟩)))|exact .inr (.inr (.inl (.inr ⟨rfl,hk⟩)))
theorem Jr{o:Oper}{ρ:TypeId->Operand->Option au}{es:List au}{nl ne:Bool}(hp:cu P o ρ= .Ek es nl ne):∃op t x y t' z z2 e,o.op= .binOp op t x y t' ∧mH P t= .slice e∧ρ t x=some (.sl z es nl)∧ρ t' y=some (.sl z2 [] true)∧((op= .eql∧ne=false)∨(op= .neq∧ne=true)):=by
 cases ho:o.op with
 |binOp op t x y t' =>
  simp only[cu,ho]at hp;cases hx:ρ t x with|none=>rw[hx]at hp;cases hp|some u=>
  cases hy:ρ t' y with|none=>rw[hx,hy]at hp;cases hp|some v=>
  rw[hx,hy]at hp;dsimp only at hp;unfold OH at hp;split at hp
  ·split at hp;cases hp;cases hp
   ·split at hp
    ·unfold FT at hp;repeat' split at hp
     all_goals cases hp
    cases hp
  split at hp<;>cases hp
  ·repeat' split at hp
   all_goals cases hp
  ·repeat' split at hp
   all_goals cases hp
  split at hp;rename_i e hut;split at hp;cases hp;exact⟨_,_,_,_,_,_,_,e,rfl,hut,hx,hy,.inl ⟨rfl,rfl⟩⟩;cases hp;exact⟨_,_,_,_,_,_,_,e,rfl,hut,hx,hy,.inr ⟨rfl,rfl⟩⟩;cases hp;cases hp;cases hp
 |call c=>
  simp only[cu,ho]at hp;unfold mF at hp;repeat' split at hp
  all_goals cases hp
 |convert a b x=>
  simp only[cu,ho]at hp;unfold HX at hp;repeat' split at hp
  all_goals cases hp
 |_=>
  simp only[cu,ho]at hp;repeat' split at hp
  all_goals first|contradiction|cases hp
def tz{o:Oper}(hc:lD o=true){ρ:TypeId->Operand->Option au}:∃c' f,o.op= .call c' ∧c'.callee= .value f∧((∃l args,cu P o ρ= .yield l args∧ρ 0 f=some (.Ix l)∧jj (iu ρ c'.args.toList c'.argTypes.toList)=some args)∨(∃Yz first cap args,cu P o ρ= .yS Yz (first++args++cap)∧ρ 0 f=some (.gD (.func Yz) first cap)∧jj (iu ρ c'.args.toList c'.argTypes.toList)=some args)∨((∀l args,cu P o ρ≠.yield l args)∧∀f args,cu P o ρ≠.yS f args)):=by
 unfold lD at hc;split at hc
 rotate_left
 cases hc;rename_i c' ho;split at hc
 rotate_left
 cases hc;rename_i f hce;refine⟨c',f,ho,hce,?_⟩;simp only[cu,ho,mF,hce];split;exact .inr (.inr ⟨λ_ _ e=>bK,λ_ _ e=>bK⟩);rename_i args hargs;split;rename_i Yz first cap hf
 split;exact .inr (.inl ⟨Yz,first,cap,args,rfl,hf,hargs⟩);exact .inr (.inr ⟨λ_ _ e=>bK,λ_ _ e=>bK⟩);rename_i l hf;exact .inl ⟨l,args,rfl,hf,hargs⟩;exact .inr (.inr ⟨λ_ _ e=>bK,λ_ _ e=>bK⟩)
def bD.ahe{g:Gh}{l:Nat}{v:Value}(r:bD g v (.Ix l)):v= .func (.yield l) #[] #[]:=CL
theorem Rel.IE{g:Gh}{s:St}{a:Act}{w:World}(h:Rel cx g s a w){dst:Option Nat}(hd:ji cx.n dst=true){v:Value}{d:au}(r:bD g v d)(y:YS):Rel cx g (s.IE dst d y) (a.put dst v) w:=by have:=h.put hd r;cases dst with|none=>exact Uw|some t=>exact Uw
def At.al4{M:Mode P c}{g:Gh}{s:St}{a:Act}{w w' :World}{y y' :YS}{N N' :Nat->Prop}(hA:At M cx y N)(h:Rel cx g s a w){I' :Nat->Nat->Option Value}(hI:ku g.I I')(hc:Cells I' w')(hN:∀b,N' b->N b∨(w.heap.size<=b∧b<w'.heap.size))(hN1:∀b,N b->N' b)(hnew:∀b o v,I' b o=some v->g.I b o=some v∨(w.heap.size<=b∧¬N' b))(hJ:∃Ih,M.h.J y' N' Ih w' ∧ku Ih I')(hsz:w.heap.size<=w'.heap.size)(hkeep:∀b,b<w.heap.size->¬N' b->w'.heap[b]? =w.heap[b]?):At M (M.h.cx M.n M.w0 M.I0 y' N') y' N' ∧Rel (M.h.cx M.n M.w0 M.I0 y' N') {g with I:=I' } s a w' :=by
 obtain⟨rfl,hI0,hup,hlo⟩:=hA;have hf:=h.mem.frame;obtain⟨_,f2,f3⟩:=hf;have nN:∀b,b<w.heap.size->¬N b->¬N' b:=λb h1 h2 h3=>by rcases hN b h3 with h4|h4;exact h2 h4;omega
 refine⟨⟨rfl,λb o v e=>⟨(hI0 b o v e).1,(hI0 b o v e).2.imp id (nN b (jm (hI0 b o v e).1 f2))⟩,λb e=>(by rcases hN b e with k|k;exact hup b k;exact .inr (eW f2 k.1)),λb e=>hN1 b (hlo b e)⟩,λt d ht=>(h.env t d ht).mono (Qt hI),h.size,h.defers,?_⟩;refine h.mem.after hI hc (λb h1 h2=>hkeep b h1 (nN b h1 h2.2)) (λb o v h1 h2 h3=> ?_) (λb h1 h2=>⟨h2.1,nN b h1 h2.2⟩) (λb o v e=> ?_) ⟨hJ,eW f2 hsz,λb h1 h2=> ?_⟩ (λb hb=> ?_);rcases hnew b o v h1 with e|e;exact e;omega;rcases hnew b o v e with e|e;rcases h.mem.kN b o v e with k|k;exact .inl k;exact .inr ⟨k.1,nN b (h.mem.Il e) k.2⟩;exact .inr ⟨eW f2 e.1,e.2⟩;exact(hkeep b (jm h1 f2) h2).trans (f3 b h1 (λe=>h2 (hN1 b e)));refine⟨eW f2 (eW hsz hb),λe=> ?_⟩;rcases hN b e with k|k;exact(h.mem.new b (eW hsz hb)).2 k;omega
theorem z7{all:Array Oper}(hok:v8 P c){M:Option (Mode P c)}{ro:Option Nat}{n:Nat}{Q:Go.Exit->Act->World->Prop}:∀(l:List Oper) (i:Nat) (_:∀k o,nth l k=some o->nth all.toList (i+k)=some o) {cx:Cx} (_:G2 P cx.n all=true) {s:St} {K:Out->St->Prop} {g:Gh} {a:Act} {w:World},eM P c all.toList l s K->Rel cx g s a w->YOk M cx s.y->(∀e s' gX g' a' w',K e s' ->Q_ cx gX s.y->YOk M gX s'.y->Ext g g' ->Rel gX g' s' a' w' ->Q (wH e) a' w')->wpOpsIn (FW ro) n P all Q (List.range' i l.length) a w
 |[],i,_,cx,hB,s,K,g,a,w,hk,h,hy,hq=>by exact hq .normal s cx g a w hk (.refl _ _) hy (Ext.refl g) h
 |o::l,i,hl,cx,hB,s,K,g,a,w,hk,h,hy,hq=>by
  have ho:nth all.toList i=some o:=hl 0 o rfl;have ho' :all[i]? =some o:=AK
  have hb:opB P cx.n o=true:=Rl
  have hd:ji cx.n o.dst=true:=Lh
  have hl' :∀k o,nth l k=some o->nth all.toList (i+1+k)=some o:=λk o hk=>aap
  rw[fw,MO,wpOpsIn_cons];unfold wpOpIn;rw[ho'];dsimp only;rw[tu]at hk;rcases xh h hk with⟨h1,h2⟩|⟨h1,h2⟩
  rotate_left
  rw[Z (by rw[h1];simp)];have ey:(s.forget o.dst).y=s.y:=E7
  exact⟨λ_ _=>trivial,z7 hok l (i+1) hl' hB h2 (h.forget o.dst) (by rw[ey];exact hy) λe s' gX g' a' w' k1 k2 k3 k4 k5=>hq e s' gX g' a' w' k1 (by rw[ey]at k2;exact k2) k3 k4 k5⟩;rw[ak h1];have go:∀{s1:St} {Te:Cx} {g1:Gh} {a1:Act} {w1:World},eM P c all.toList l s1 K->Q_ cx Te s.y->(s.y= .off->s1.y= .off)->YOk M Te s1.y->Ext g g1->Rel Te g1 s1 a1 w1->wpOpsIn (FW ro) n P all Q (List.range' (i+1) l.length) a1 w1:=λ{s1 Te g1 a1 w1} e1 e2 e3 e4 e5 e6=>z7 hok l (i+1) hl' (by rw[e2.n];exact hB) e1 e6 e4 λe s' gX g' a' w' k1 k2 k3 k4 k5=>hq e s' gX g' a' w' k1 ⟨k2.n.trans e2.n,λe=>(k2.same (e3 e)).trans (e2.same e)⟩ k3 (e5.trans k4) k5;rcases JP h2 with⟨hcb,ly,args,hp⟩|⟨hcb,f,args,hp⟩|hp|⟨es,ne,hp,hnil⟩|⟨hcb,f,args,hp⟩
  ·obtain⟨c',f,ho1,hce,(⟨l2,Ia,p1,hf,hargs⟩|⟨Yz,first,cap,Ia,p1,_⟩|⟨p1,_⟩)⟩:=tz (P:=P) hcb (ρ:=cY P s)
   rotate_left
   rw[hp]at p1;cases p1;exact absurd hp (p1 _ _);rw[hp]at p1;cases p1;rw[hp,hcb]at h2;simp only[OM]at h2;split at h2
   rotate_left
   exact h2.elim;rename_i k hk1;have hev:=lW h hargs;have ef:=(h.get hf).ahe;obtain⟨s1,args',g1,k2,l1,n1,r1⟩:=pB args h h2;obtain⟨⟨rfl,hds⟩,k3⟩:=k2;rw[hk1]at hy;obtain⟨m,N,rfl,hA⟩:=hy;have hcx:=hA.cx;have hfr:=l1.rel.mem.frame;have D6:=l1.rel.mem.new;have JH:=l1.rel.mem.kN;rw[hcx]at hfr D6 JH;obtain⟨⟨Ih,hJ,hs⟩,f2,f3⟩:=hfr;have e1:(c'.args.map a.eval).toList=c'.args.toList.map a.eval:=O
   obtain⟨fn,tmps,Is,body,y1,y2⟩:=m.h.round k N Ih g1.I w (c'.args.map a.eval) args' hJ hs hds (by rw[n1];have:=hev.1;simp at this;simp[this])
    (λi v d hv hd' =>by have hi:=aH hd';rw[n1]at hi;obtain⟨x,hx⟩:=bO hi;obtain⟨d2,q1,_,q2⟩:=r1 i x hx;rw[hd']at q1;cases q1;exact q2 v (hev.2 i v x (by rw[<-e1];exact lK) hx)) l1.rel.mem.iw
    (λb o v e=>aaq) (λb hb=>(D6 b hb).2)
   have hrun:(execOp a.eval o).run P w= .ok (.round c.l fn tmps Is body) w:=(by rw[<-y1];simp[execOp,ho1,resolve,hce,ef,Deferred.ofValue,invoke]);refine⟨λ_ _=>trivial,?_⟩;rw[Oper.semAt_eq _ _ _ VS,hrun,Oper.uponIn_round];refine⟨λe=>EZ,(ah2 (y2 _)).mono λe w' he=> ?_⟩;obtain⟨z1,z2,z3,y',z4,z5⟩:=he
   have hA1:=(At.al4 (y' :=y') (N' :=λb=>N b∨(w.heap.size<=b∧b<w'.heap.size)) hA l1.rel (I' :=g1.I) (λ_ _ _ h=>h) z3 (λb h=>h) (λb h=> .inl h) (λb o v e=> .inl e)
    ⟨g1.I,z5,λ_ _ _ h=>h⟩ z1 (λb hb hn=>z2 b hb λe=>hn (.inl e)))
   have hto:Q_ cx (m.h.cx m.n m.w0 m.I0 y' λb=>N b∨(w.heap.size<=b∧b<w'.heap.size)) s.y:=⟨by rw[hcx];rfl,λe=>A8⟩;have hd1:ji (m.h.cx m.n m.w0 m.I0 y' λb=>N b∨(w.heap.size<=b∧b<w'.heap.size)).n o.dst=true:=by rw[hto.n];exact hd
   rcases z4 with⟨rfl,rfl⟩|⟨rfl,rfl⟩;have:=k3.a;rw[norm_eq]at this;exact go this hto (λe=>A8) VD l1.ext (hA1.2.IE hd1 (.pure (.bool _)) _);have:=k3.b;rw[norm_eq]at this;exact go this hto (λe=>A8) VD l1.ext (hA1.2.IE hd1 (.pure (.bool _)) _)
  ·obtain⟨c',f',ho1,hce,(⟨l2,Ia,p1,_⟩|⟨Yz,first,cap,Ia,p1,hf,hargs⟩|⟨_,p1⟩)⟩:=tz (P:=P) hcb (ρ:=cY P s);rw[hp]at p1;cases p1
   rotate_left
   exact absurd hp (p1 _ _);rw[hp]at p1;injection p1 with p1 p2;subst p1 p2;rw[hp,hcb]at h2;simp only[OM]at h2;split at h2
   rotate_left
   exact h2.elim;rename_i k hk1;have hev:=lW h hargs;obtain⟨vf,vc,ef,hvf,FV,rf,rc⟩:=(h.get hf).qR;obtain⟨s1,args',g1,k2,l1,n1,r1⟩:=pB _ h h2;obtain⟨Q0,hcall,k3⟩:=k2.out;rw[hk1]at hy;obtain⟨m,N,rfl,hA⟩:=hy;have hcx:=hA.cx;have hfr:=l1.rel.mem.frame;have D6:=l1.rel.mem.new;have JH:=l1.rel.mem.kN;rw[hcx]at hfr D6 JH;obtain⟨⟨Ih,hJ,hs⟩,f2,f3⟩:=hfr;obtain⟨⟨fn,hfn,hbody,hname⟩,hgo⟩:=hok.CY _ _ _ _ hcall;have e1:(c'.args.map a.eval).toList=c'.args.toList.map a.eval:=O
   have lf:(c'.args.map a.eval).size=Ia.length:=Z3;have hrun:(execOp a.eval o).run P w= .ok (.enter f (vf++c'.args.map a.eval++vc)) w:=by
    have hb' :fn.body≠none:=RM;have hn' :fn.name≠ "runtime.NumGoroutine":=RO
    simp[execOp,ho1,resolve,hce,ef,Deferred.ofValue,invoke,callFunc,hfn,hn',hb']
   refine oH VS ?_;unfold Oper.wp;rw[hrun,Oper.upon_enter];refine Calls.mono (hgo m.h N g1.I w _ (by rw[n1];exact uE) (λi v d hv hd' => ?_) l1.rel.mem.iw (λb o v e=>aaq) (λb hb=>(D6 b hb).2) ⟨Ih,hJ,hs⟩) λe w' he=> ?_;have hi:=aH hd';rw[n1]at hi;obtain⟨x,hx⟩:=bO hi;have key:bD g v x:=by
    have hx0:=hx;rw[aJ]at hx;by_cases h1:i<first.length
    exact Zf;by_cases h2:i<first.length+Ia.length
    rw[lj az,jn E]at hx;rw[jC uE,CU E,hvf]at hv;exact Ud;rw[jn az]at hx;rw[CU uE]at hv;refine rc (i - (first++Ia).length) v x ?_ E9;have:(vf++Array.map a.eval c'.args).size=(first++Ia).length:=uE
    rw[this]at hv;exact hv
   obtain⟨d2,q1,_,q2⟩:=r1 i x hx;rw[hd']at q1;cases q1;exact q2 v key
   ·cases e with
    |panicked ch=>exact he.elim|outgrown=>exact he.elim
    |returned v=>
     obtain⟨r,y',N',I',x1,x2,x3,x4,x5,x6,x7,x8,x9,x10⟩:=he;have hA1:=(At.al4 (y' :=y') (N' :=N') hA l1.rel (I' :=I') x4 x6 x2 x3 x7 x8 x9 x10);have hto:Q_ cx (m.h.cx m.n m.w0 m.I0 y' N') s.y:=⟨by rw[hcx];rfl,λe=>A8⟩;have hd1:ji (m.h.cx m.n m.w0 m.I0 y' N').n o.dst=true:=by rw[hto.n];exact hd
     have hx:Ext ⟨I',λ_=>none,λ_=>none⟩ {g1 with I:=I' }:=⟨λ_ _ _ h=>h,λ_ _ h=>ie,λ_ _ h=>ie⟩;have hr1:bD {g1 with I:=I' } v r:=x5.mono hx;have:=QZ k3 x1;rw[norm_eq]at this;refine go this hto (λe=>A8) ?_ (l1.ext.trans (Qt x4)) (hA1.2.IE hd1 hr1 y');have hy' :(s1.IE o.dst r y').y=y' :=E7
     rw[hy'];cases y' with
     |off=>obtain⟨_,hj,_⟩:=x8;exact absurd rfl (m.h.on _ _ _ _ hj)
     |run k=>exact Ky|stop=>exact Ky
  replace hp:aC P c o.dst s (λs1=>norm o.dst (cu P o (cY P s)) s1 λs' =>eM P c all.toList l s' K) (cu P o (cY P s)):=hp.elim (·.1) (·.2);have hp' :=qX (K' :=λs1=>s1.y=s.y∧eM P c all.toList l s1 K) hp λs1 _ h1 h2=>⟨h1,ME⟩;refine oH (BM hp) (Bu (Gr h hb hok.C hp') λs' g' a' w' e1 e2 e3=> ?_);exact Ro;obtain⟨op,t,x,y,t',z,z2,e,n1,n2,n3,n4,n5⟩:=Jr hp;have cont:∀{d:au},norm o.dst (cu P o (cY P s)) (s.put o.dst d) (λs' =>eM P c all.toList l s' K)->(s.put o.dst d).y=s.y∧eM P c all.toList l (s.put o.dst d) K:=λ{d} h=>by rw[norm_eq]at h;exact⟨E7,h⟩
  refine oH (by rw[n1];intro c' e;cases e) (Bu (vg (K:=λs1=>s1.y=s.y∧eM P c all.toList l s1 K) h hd n1 n2 n3 n4 n5 ⟨(λe=>bK),λ_ e=>cont (hnil.t e),λ_=> .inl (cont hnil.f)⟩) λs' g' a' w' e1 e2 e3=> ?_);exact Ro;rw[hp,hcb]at h2;have h3:=vL (K' :=λs1=>s1.y=s.y∧eM P c all.toList l s1 K) (KP' :=λq s1=>s1.y=s.y∧K (.Ej q) s1) h2 (λs1 _ h1 h2=>⟨h1,ME⟩) λq s1 _ h1 h2=>⟨h1,h2⟩;refine oH (by obtain⟨c',f',ho1,_⟩:=tz (P:=P) hcb (ρ:=cY P s);intro d e;rw[ho1]at e;cases e) (Bu (DJ h hd hcb hok.C hp h3 λq s' g' w' e1 e2 e3=> ?_) λs' g' a' w' e1 e2 e3=> ?_);exact hq (.Ej q) s' cx g' a w' e1.2 (.refl _ _) (by rw[e1.1];exact hy) e2 e3;exact Ro
def JF{D:Nat->Prop}{s:St}(e1:S 0=s)(both:∀{i:Nat},i<ops.size->∃x y,nth ops.toList i=some x∧nth T i=some y)(stay:∀{i:Nat} {x:Oper} {y:Rec},nth ops.toList i=some x->nth T i=some y->(∀t,x.dst≠some t->(S (i+1)).env t=(S i).env t)∧(∀l,l∉y.wh->(S (i+1)).H l=(S i).H l)∧(∀l,l∉y.wr->(S (i+1)).R l=(S i).R l))(hnone:∀i,D i->False):Inv ops S T D s:=by
 have hfix:∀{α:Type} (V:Nat->α) (W:Nat->Prop),(∀i,i<ops.size->¬W i->V (i+1)=V i)->∀m,m<=ops.size->(∀i,i<m->¬W i)->V m=V 0:=by intro α V W hV m;induction m with|zero=>intro _ _;rfl|succ m ih=>intro hm hw;rw[hV m E (hw m E)];exact ih E (λi hi=>hw i E)
 refine⟨λx m hm h1 h2=> ?_,λx m hm h1 h2=> ?_,λx m hm h1 h2=> ?_,λq m hm h1 h2=> ?_⟩
 rotate_left 3
 have:=hfix (λm=>pr ((S m).H q.1) q) (λi=>i<ops.size∧pr ((S (i+1)).H q.1) q≠pr ((S i).H q.1) q) (λi hi hw=>Na λhc=>hw ⟨hi,hc⟩) m hm (λi hi hc=>hnone i (h1 i hi hc.1 hc.2));rw[this,e1];have:=hfix (λm=>(S m).env x) (λi=>∃y,nth ops.toList i=some y∧y.dst=some x) (λi hi hw=>UM) m hm (λi hi ⟨y,hy,hd⟩=>hnone i (h1 i y hi hy hd));rw[this,e1];have:=hfix (λm=>(S m).H x) (λi=>∃y,nth T i=some y∧x∈y.wh) (λi hi hw=>UP) m hm (λi hi ⟨y,hy,hd⟩=>hnone i (h1 i y hi hy hd));rw[this,e1];have:=hfix (λm=>(S m).R x) (λi=>∃y,nth T i=some y∧x∈y.wr) (λi hi hw=>UO) m hm (λi hi ⟨y,hy,hd⟩=>hnone i (h1 i y hi hy hd));rw[this,e1]
theorem Nz(hm:P.follows .mixedOrders=true)(hB:G2 P cx.n ops=true)(hok:v8 P c){M:Option (Mode P c)}{ro:Option Nat}{n:Nat}{id:Nat}{d:Bool}{s:St}{K:Out->St->Prop}{g:Gh}{a:Act}{w:World}{Q:Go.Exit->Act->World->Prop}(hk:match d with|true=>uu P c ops.toList ops.toList [] s λrs s' =>Rh (oV ops.toList rs.reverse) (eqP ops.toList rs.reverse (K .normal s'))|false=>eM P c ops.toList ops.toList s K)(h:Rel cx g s a w)(hy:YOk M cx s.y)(hq:∀e s' gX g' a' w',K e s' ->Q_ cx gX s.y->YOk M gX s'.y->Ext g g' ->Rel gX g' s' a' w' ->Q (wH e) a' w'):(Code.region id ops d).wpIn (FW ro) n P Q a w:=by
 cases d with
 |false=>refine wpIn_region ?_;have:=z7 (ro:=ro) (n:=n) hok ops.toList 0 (λk o hk=>A5) hB hk h hy hq;rw[List.range_eq_range'];exact mO
 |true=>
  refine wpIn_region_any hm ?_;dsimp only at hk;replace hk:=oW (K' :=λrs s' =>Rh (oV ops.toList rs.reverse) (eqP ops.toList rs.reverse (K .normal s' ∧s'.y=s.y))) (Ol hk) λrs s' _ k2=>⟨k2.2.h,(F0 k2.2.k).2 _ ⟨(F0 k2.2.k).1,k2.1⟩⟩;obtain⟨S,T,e1,e2,k1,l1⟩:=xp hk;rw[jV,List.reverse_reverse]at k1;have hI:=D5 k1.h;have hw:∀r∈T,∀x∈r.wv,x.1∈r.wh:=λr hr=>by obtain⟨i,hi⟩:=MY hr;rw[<-aJ]at hi;have hlt:=aH hi;obtain⟨o,ho⟩:=bO (l:=ops.toList) (i:=i) E;exact(l1 i o r ho hi).wv'
  obtain⟨k2,hIL⟩:=Qy k1.k hw;have hlen:T.length=ops.size:=by simpa using e2
  have hnone:∀i,(Array.replicate ops.size false).getD i false=true->False:=aaz
  have both:∀{i:Nat},i<ops.size->∃x y,nth ops.toList i=some x∧nth T i=some y:=λ{i} h=>Y_
  refine Px hI hIL hlen hB hok l1 ops.size (Array.replicate ops.size false) s g a _ O E (λk o _ hk=>(hnone k hk).elim) ?_ ⟨h.env,h.size,h.defers,h.mem.drew _⟩ (λg' a' w' x1 x2=>hq .normal (S ops.size) cx g' a' w' (by have:=k2.1;exact mO) (.refl _ _) (by have:=k2.2;simp at this;rw[this];exact hy) x1 x2);have stay:∀{i:Nat} {x:Oper} {y:Rec},nth ops.toList i=some x->nth T i=some y->
   (∀t,x.dst≠some t->(S (i+1)).env t=(S i).env t)∧(∀l,l∉y.wh->(S (i+1)).H l=(S i).H l)∧(∀l,l∉y.wr->(S (i+1)).R l=(S i).R l):=λ{i x y} h1 h2=>by
   obtain⟨u',p,_⟩:=(l1 i x y h1 h2).out (S i) ⟨λ_ _=>rfl,λ_ _=>rfl,λ_ _=>rfl⟩ (λ_ _=>rfl);refine⟨λt ht=> ?_,λt ht=> ?_,λt ht=> ?_⟩;rcases p.env t with⟨a,_⟩|⟨_,b⟩;exact a;exact qA;rcases p.H t with⟨a,_⟩|⟨_,b⟩;exact a;exact qA;rcases p.R t with⟨a,_⟩|⟨_,b⟩;exact a;exact qA
  exact JF e1 both stay hnone
end
def aae(h:G:=by have:some d=some (.sl 1 xs false):=hfl;cases this;rfl):=h
def LZ(h:G:=by rw[z1];exact c3):=h
def AW(h:G:=by rw[hd];simp):=h
def sI(h:G:=by rw[ht];simp):=h
def Vm(h:G:=by exact .gD (λi d hd=>let ⟨v,hv⟩:=H6 hf hd;ihf i v d hv hd) (λi d hd=>let ⟨v,hv⟩:=H6 hc hd;ihc i v d hv hd)):=h
def EM(h:G:=by exact k0.trans kk (λ_ h=>h) (λ_ h=>h)):=h
def U9(h:G:=by exact((bW.vz lk U).trans k0 (λ_ h=>h) (λ_ h=>h)).trans kk (λ_ h=>h) (λ_ h=>h)):=h
def AA(h:G:=by rw[c3];exact xU):=h
def TW(h:G:=by exact .inr ⟨by omega,by simpa[setAt,nth]using hz⟩):=h
def Kq(h:G:=by exact(h.env u d hu').mono e1):=h
def jk.at2{cx:Cx}{g:Gh}{w:World}{t:Tv}{r:Row}(k:jk cx g w t r){b:Nat}(hb:t.wj b):cx.dX b∧∀l,g.mu l≠some b:=(k.wc hb).2
inductive sj(h r:Nat->Prop):au->Prop where
 |any:sj h r .any
 |bool (b:Bool):sj h r (.bool b)
 |int (k:IntKind) (n:Int):sj h r (.int k n)
 |str (l:List UInt8):sj h r (.str l)
 |sl (sz:Nat) (es:List au) (b:Bool):sj h r (.sl sz es b)
 |mA (d:au) (off:Nat):sj h r (.mA d off)
 |Ix (l:Nat):sj h r (.Ix l)
 |jG:sj h r .jG
 |m_:sj h r .m_
 |jH:sj h r .jH
 |m9:sj h r .m9
 |ref {k n:Nat} (hk:r k):sj h r (.ref k n)
 |ptr {l off:Nat} (hl:h l):sj h r (.ptr l off)
 |jw {l off:Nat} (hl:h l):sj h r (.jw l off)
 |iS {k n off:Nat} {i:Int} (hk:r k):sj h r (.iS k n i off)
 |dQ {k:Nat} (hk:r k):sj h r (.dQ k)
 |me (k v:au):sj h r (.me k v)
 |md:sj h r .md
 |agg {ds:List au} (hr:∀(i:Nat) d,nth ds i=some d->sj h r d):sj h r (.agg ds)
 |bS {ds:List au} (hr:∀(i:Nat) d,nth ds i=some d->sj h r d):sj h r (.bS ds)
 |gD {fn:Fn} {df dc:List au} (rf:∀(i:Nat) d,nth df i=some d->sj h r d) (rc:∀(i:Nat) d,nth dc i=some d->sj h r d):sj h r (.gD fn df dc)
 |tT {d:au} (hd:sj h r d):sj h r (.tT d)
 |cQ {k n:Nat} (hk:r k):sj h r (.cQ k n)
 |j8 {k n:Nat} {i:Int} (hk:r k):sj h r (.j8 k n i)
 |sub {k j n:Nat} (hk:r k):sj h r (.sub k j n)
 |fT {k j:Nat} {i:Int} (hk:r k):sj h r (.fT k j i)
 |lit {q n:Nat} (hk:r q):sj h r (.lit q n)
 |own (es:List au):sj h r (.own es)
 |shr (es:List au):sj h r (.shr es)
def H6{vs:Array Value}{ds:List au}(hl:vs.size=ds.length){i:Nat}{d:au}(hd:nth ds i=some d):∃v,vs[i]? =some v:=by have h1:=aH hd;exact⟨vs[i]' E,by simp[show i<vs.size by omega]⟩
def bM.nms{I:Nat->Nat->Option Value}{v:Value}{d:au}(x:bM I v d)(h r:Nat->Prop):sj h r d:=by induction x with|any v hv=>exact .any|bool b=>exact .bool b|int k n=>exact .int k n|str l=>exact .str l|slnil sz b=>exact .sl _ _ _|sl0 a cap sz=>exact .sl _ _ _|sl b o cap sz es f hc hs hi _ ih=>exact .sl _ _ _|agg vs ds hl h1 _ ih=>exact .agg λi d hd=>let ⟨v,hv⟩:=H6 hl hd;ih i v d hv hd|mA b o off d f hi h1 _ ih=>exact .mA _ _|gD hf hc _ _ ihf ihc=>exact Vm|Ix l=>exact .Ix l|jG=>exact .jG|m_=>exact .m_|jH=>exact .jH|m9=>exact .m9
theorem bD.nms{g:Gh}{v:Value}{d:au}(x:bD g v d):sj (λl=>g.mu l≠none) (λk=>g.tv k≠none) d:=by induction x with|pure r=>exact r.nms _ _|ref t ht hn hv h1=>exact .ref sI|ptr hb=>exact .ptr (by rw[hb];simp)|jw hb=>exact .jw (by rw[hb];simp)|iS t ht hn hi hb hp=>exact .iS sI|dQ t ht hz hb=>exact .dQ sI|agg hl h1 _ ih=>exact .agg λi d hd=>let ⟨v,hv⟩:=H6 hl hd;ih i v d hv hd|bS hl _ ih=>exact .bS λi d hd=>let ⟨v,hv⟩:=H6 hl hd;ih i v d hv hd|gD hf hc _ _ ihf ihc=>exact Vm|tT v hi h1 _ ih=>exact .tT ih|cQ t ht hz hn hv h1=>exact .cQ sI|j8 t ht hz hn hi hb=>exact .j8 sI|sub t ht hz h1 hb=>exact .sub sI|fT t ht hz hi hb=>exact .fT sI|lit v hi h1 _ ih=>cases ih with|ref hk=>exact .lit hk
theorem bD.restrict{g g' :Gh}{h r:Nat->Prop}{v:Value}{d:au}(x:bD g v d)(n:sj h r d)(hI:g'.I=g.I)(hm:∀l b,h l->g.mu l=some b->g'.mu l=some b)(ht:∀k t,r k->g.tv k=some t->g'.tv k=some t):bD g' v d:=by
 induction x with
 |pure x=>exact .pure (by rw[hI];exact x)|ref t e hn hv h1=>cases n with|ref hk=>exact .ref t (ht _ _ hk e) hn hv h1
 |ptr hb=>cases n with|ptr hl=>exact .ptr (hm _ _ hl hb)
 |jw hb=>cases n with|jw hl=>exact .jw (hm _ _ hl hb)
 |iS t e hn hi hb hp=>cases n with|iS hk=>exact .iS t (ht _ _ hk e) hn hi hb hp
 |dQ t e hz hb=>cases n with|dQ hk=>exact .dQ t (ht _ _ hk e) hz hb
 |agg hl h1 _ ih=>cases n with|agg hr=>exact .agg hl h1 λi v d hv hd=>ih i v d hv hd (hr i d hd)
 |bS hl _ ih=>cases n with|bS hr=>exact .bS hl λi v d hv hd=>ih i v d hv hd (hr i d hd)
 |gD hf hc _ _ ihf ihc=>cases n with|gD rf rc=>exact .gD hf hc (λi v d hv hd=>ihf i v d hv hd (rf i d hd)) (λi v d hv hd=>ihc i v d hv hd (rc i d hd))
 |tT v hi h1 _ ih=>cases n with|tT hn=>exact .tT v (by rw[hI];exact hi) h1 (ih hn)
 |cQ t e hz hn hv h1=>cases n with|cQ hk=>exact .cQ t (ht _ _ hk e) hz hn hv h1
 |j8 t e hz hn hi hb=>cases n with|j8 hk=>exact .j8 t (ht _ _ hk e) hz hn hi hb
 |sub t e hz h1 hb=>cases n with|sub hk=>exact .sub t (ht _ _ hk e) hz h1 hb
 |fT t e hz hi hb=>cases n with|fT hk=>exact .fT t (ht _ _ hk e) hz hi hb
 |lit v hi h1 _ ih=>cases n with|lit hk=>exact .lit v (by rw[hI];exact hi) h1 (ih (.ref hk))
def g_{l:List Nat}{x:Nat}(h:(!je l x)=true):x∉l:=by intro hx;rw[iF.2 hx]at h;cases h
theorem Bz{W V:List Nat}:∀{ds:List au},yX.go W V ds=true->∀(i:Nat) d,nth ds i=some d->sj (λl=>l∉W) (λk=>k∉V) d
 |[],_,i,d,hd=>qC
 |x::ds,h,i,d,hd=>by
  have two:∀{b:Bool},(b&&yX.go W V ds)=true->b=true∧yX.go W V ds=true:=λh=>by rwa[aX]at h
  cases i with
  |zero=>simp[nth]at hd;subst hd;cases x with|ptr l off=>exact .ptr (g_ (two h).1)|jw l off=>exact .jw (g_ (two h).1)|ref k n=>exact .ref (g_ (two h).1)|iS k n i off=>exact .iS (g_ (two h).1)|dQ k=>exact .dQ (g_ (two h).1)|cQ k n=>exact .cQ (g_ (two h).1)|j8 _ _ _=>cases h|sub _ _ _=>cases h|fT _ _ _=>cases h|lit _ _=>cases h|own es=>exact .own es|shr es=>exact .shr es|me k v=>exact .me k v|md=>exact .md|gD _ _ _=>cases h|tT _=>cases h|bS _=>cases h|agg _=>cases h|any=>exact .any|bool b=>exact .bool b|int k n=>exact .int k n|str l=>exact .str l|sl _ _ _=>exact .sl _ _ _|mA _ _=>exact .mA _ _|Ix l=>exact .Ix l|jG=>exact .jG|m_=>exact .m_|jH=>exact .jH|m9=>exact .m9
  |succ i=>
   have hg:yX.go W V ds=true:=by cases x with|ptr l off=>exact(two h).2|jw l off=>exact(two h).2|ref k n=>exact(two h).2|iS k n i off=>exact(two h).2|dQ k=>exact(two h).2|cQ k n=>exact(two h).2|j8 _ _ _=>cases h|sub _ _ _=>cases h|fT _ _ _=>cases h|lit _ _=>cases h|gD _ _ _=>cases h|tT _=>cases h|bS _=>cases h|agg _=>cases h|_=>exact h
   exact Bz hg i d (by simpa[nth]using hd)
def OZ{W V:List Nat}{d:au}(h:yX W V d=true):sj (λl=>l∉W) (λk=>k∉V) d:=by cases d with|ptr l off=>exact .ptr (g_ h)|jw l off=>exact .jw (g_ h)|ref k n=>exact .ref (g_ h)|iS k n i off=>exact .iS (g_ h)|dQ k=>exact .dQ (g_ h)|cQ k n=>exact .cQ (g_ h)|j8 k n i=>exact .j8 (g_ h)|sub k j n=>exact .sub (g_ h)|fT k j i=>exact .fT (g_ h)|lit q n=>exact .lit (g_ h)|own es=>exact .own es|shr es=>exact .shr es|me k v=>exact .me k v|md=>exact .md|gD fn df dc=>have h2:(yX.go W V df&&yX.go W V dc)=true:=h;rw[aX]at h2;exact .gD (Bz h2.1) (Bz h2.2)|tT _=>cases h|agg cs=>exact .agg (Bz h)|bS cs=>exact .bS (Bz h)|any=>exact .any|bool b=>exact .bool b|int k n=>exact .int k n|str l=>exact .str l|sl _ _ _=>exact .sl _ _ _|mA _ _=>exact .mA _ _|Ix l=>exact .Ix l|jG=>exact .jG|m_=>exact .m_|jH=>exact .jH|m9=>exact .m9
theorem sj.cells{h r:Nat->Prop}{d x:au}(n:sj h r d){j:Nat}(hj:nth (cells d) j=some x):sj h r x:=by
 have one:∀{d:au},sj h r d->nth [d] j=some x->sj h r x:=λ{d} n hj=>by cases j with|zero=>simp[nth]at hj;subst hj;exact n|succ j=>simp[nth]at hj
 cases d with
 |agg cs=>cases n with|agg hr=>exact hr j x hj
 |me k v=>simp[Abs.cells,nth]at hj|md=>simp[Abs.cells,nth]at hj|own es=>simp[Abs.cells,nth]at hj|shr es=>simp[Abs.cells,nth]at hj|_=>exact one n hj
theorem Gp{W V:List Nat}:∀{l:List (Nat×au)},O0 W V l=true->∀p∈l,yX W V p.2=true|[],_,p,hp=>by cases hp|(t,d)::l,h,p,hp=>by have h2:(yX W V d&&O0 W V l)=true:=h;rw[aX]at h2;rcases b_.1 hp with e|e;subst e;exact h2.1;exact Gp h2.2 p e
theorem JE{W:List Nat}:∀{l:List (Nat×au)},Ht W l=true->∀p∈l,p.1∈W|[],_,p,hp=>by cases hp|(t,d)::l,h,p,hp=>by have h2:(je W t&&Ht W l)=true:=h;rw[aX]at h2;rcases b_.1 hp with e|e;subst e;exact iF.1 h2.1;exact JE h2.2 p e
theorem m8{α:Type}{e:Nat->Option α}:∀(ms:List (Nat×α)) (t:Nat),(∃d,(t,d)∈ms∧Over ms e t=some d)∨((∀p∈ms,p.1≠t)∧Over ms e t=e t)
 |[],t=> .inr ⟨O,rfl⟩
 |(u,d)::ms,t=>by
  simp only[Over];by_cases h:t=u;subst h;exact .inl ⟨d,O,by rw[show Nat.beq t t=true by simp];rfl⟩;have hb:Nat.beq t u=false:=by cases hb:Nat.beq t u with|false=>rfl|true=>exact absurd (dw hb) h
  rw[hb];rcases m8 (e:=e) ms t with⟨d',h1,h2⟩|⟨h1,h2⟩;exact .inl ⟨d',uI,h2⟩;refine .inr ⟨λp hp=> ?_,h2⟩;rcases b_.1 hp with e|e;subst e;exact λh' =>h h'.symm
  exact h1 p e
def lJ{α:Type}(W:List Nat)(e:Nat->Option α)(t:Nat):(t∈W∧xF W e t=none)∨(t∉W∧xF W e t=e t):=by unfold xF;cases h:je W t with|true=>exact .inl ⟨iF.1 h,rfl⟩|false=>exact .inr ⟨λhm=>(by rw[iF.2 hm]at h;cases h),rfl⟩
theorem PW{s:St}:∀{W:List (Nat×au)},kl s W=true->∀p∈W,s.H p.1≠none|[],_,l,hl=>by cases hl|(x,d)::W,h,l,hl=>by simp only[kl]at h;cases hx:s.H x with|none=>rw[hx]at h;cases h|some d=>rw[hx]at h;rcases b_.1 hl with e|e;subst e;rw[hx];simp;exact PW h l e
theorem PV{s:St}:∀{W:List (Nat×Row)},kj s W=true->∀p∈W,s.R p.1≠none|[],_,l,hl=>by cases hl|(x,d)::W,h,l,hl=>by simp only[kj]at h;cases hx:s.R x with|none=>rw[hx]at h;cases h|some d=>rw[hx]at h;rcases b_.1 hl with e|e;subst e;rw[hx];simp;exact PV h l e
theorem Gz{s t:St}:∀{l:List Nat},abx s t l->∀x∈l,s.H x=t.H x|[],_,x,hx=>by cases hx|y::l,h,x,hx=>by rcases b_.1 hx with e|e;subst e;exact h.1;exact Gz h.2 x e
theorem Gy{s t:St}:∀{l:List Nat},abw s t l->∀x∈l,s.R x=t.R x|[],_,x,hx=>by cases hx|y::l,h,x,hx=>by rcases b_.1 hx with e|e;subst e;exact h.1;exact Gy h.2 x e
theorem xe{s:St}:∀{l:List (Nat×au)},HG s l->∀p∈l,s.env p.1=some p.2|[],_,x,hx=>by cases hx|(t,d)::l,h,x,hx=>by rcases b_.1 hx with e|e;subst e;exact h.1;exact xe h.2 x e
section
variable{cx:Cx}{g:Gh}{s:St}{a:Act}{w:World}
def Mem.acd(m:Mem cx g s w){l b:Nat}{d d' :au}(hl:s.H l=some d)(hb:g.mu l=some b)(hx:qn g w b d'){s' :St}(hH:s'.H=aW s.H l (some d'))(hR:s'.R=s.R):Mem cx g s' w where
 iw:=m.iw
 box x y hy:=by rw[hH]at hy;by_cases e:x=l;subst e;rw[bw]at hy;cases hy;obtain⟨b',h1,_,h3⟩:=m.box x d hl;rw[hb]at h1;cases h1;exact⟨b,hb,hx,h3⟩;rw[aO _ _ _ _ e]at hy;exact m.box x y hy
 gx x y hy:=by rw[hH];by_cases e:x=l;subst e;rw[bw];exact nF;rw[aO _ _ _ _ e];exact m.gx x y hy
 inj:=m.inj
 F3:=m.F3
 row:=by rw[hR];exact m.row
 gE:=by rw[hR];exact m.gE
 k_:=m.k_
 kN:=m.kN
 frame:=m.frame
 new:=m.new
def Ka(m:Mem cx g s w){k sz:Nat}(hz0:sz≠0)(hk:s.R k=none){s' :St}(hH:s'.H=s.H)(hR:s'.R=aW s.R k (some ⟨sz,true,[]⟩)):∃g',Ext g g' ∧Mem cx g' s' w∧g'.mu=g.mu∧g'.I=g.I∧∀v,bD g v (.sl sz [] true)->bD g' v (.ref k 0):=by
 have hg:g.tv k=none:=by cases h:g.tv k with|none=>rfl|some t=>obtain⟨r,hr⟩:=m.gE k t h;rw[hk]at hr;cases hr
 let g' :Gh:={I:=g.I,mu:=g.mu,tv:=aW g.tv k (some (Tv.pl sz 0 none 0))};have he:Ext g g' :=⟨λ_ _ _ h=>h,λ_ _ h=>h,λj t hj=>⟨t,by show aW g.tv k _ j=some t;rw[aO _ _ _ _ (by intro e;subst e;rw[hg]at hj;cases hj)];exact hj,.refl t⟩⟩;refine⟨g',he,m.setRow (k:=k) (r:=⟨sz,true,[]⟩) (t:=(Tv.pl sz 0 none 0)) he rfl rfl (λ_ _=>rfl) (Frame.refl _ _) rfl rfl (λe h=>ie) ⟨rfl,λ_ _=>⟨rfl,rfl⟩,λ_ e=>by(cases e),λe=>absurd e hz0,λe=>absurd e hz0⟩ (λb h=>by have h:=h.plain rfl;cases h) hH hR,rfl,rfl,λv hv=> ?_⟩;have hv' :v= .slice none 0 0:=by cases hv with|pure r=>cases r with|slnil=>rfl
 subst hv';exact .ref (Tv.pl sz 0 none 0) (by show aW g.tv k _ k=_;rw[bw]) (cJ _) (λ_=>rfl) ⟨none,0,rfl⟩
def adb(m:Mem cx g s w){q k n:Nat}{r:Row}(hq:s.R q=some r)(hk:s.R k=none)(ho:r.own=true)(hz:r.sz=1)(hqk:q≠k)(hes:∀e∈r.es,∃xs,e= .sl 1 xs false){v:Value}(hv:bD g v (.ref q n))(hn:n=r.es.length){s' :St}(hH:s'.H=s.H)(hR:s'.R=aW (aW s.R q (some (qd r))) k (some ⟨0,true,r.es.map wG⟩)):∃g',Ext g g' ∧Mem cx g' s' w∧g'.mu=g.mu∧g'.I=g.I∧bD g' v (.cQ k n):=by
 obtain⟨t,t1,t2,t3,t4,t5,t6⟩:=m.pA hv hq hn;have t7:=t6.o (by omega:r.sz≠0);obtain⟨g1,e1,m1,i1,u1,tvs,uq,tq,nb⟩:=m.WM hq hz;have hk1:({s with R:=aW s.R q (some (qd r))}:St).R k=none:=by show aW s.R q (some (qd r)) k=none;rw[aO _ _ _ _ (gB hqk)];exact hk
 have far:∀b,t.base=some b->∀j u,g1.tv j=some u->¬u.wj b:=by intro b hb j u hu hbl;by_cases hj:j=q;subst hj;rw[tq]at hu;cases hu;exact nb b hbl;rw[tvs j hj]at hu;exact hj (m.k_ j q u t b hu t1 hbl (.inl hb))
 obtain⟨t',ht'⟩:∃t' :Tv,t' ={sz:=0,n:=t.n,base:=t.base,cap:=t.cap,nest:=true}:=⟨_,rfl⟩;have hx:Ext g1 (g1.row k t'):=g1.pz (.inl (m1.yr hk1));have tb:∀b,t'.wj b->t.base=some b:=by
  rintro b (h|⟨_,_,j,h⟩)
  rw[ht']at h;exact h;rw[ht']at h;cases h
 have hen:∀j d,nth (r.es.map wG) j=some d->∃xs,d= .shr xs∧nth r.es j=some (.sl 1 xs false):=by intro j d hd;rw[c_]at hd;obtain⟨x,hx,rfl⟩:=Bs.1 hd;obtain⟨xs,rfl⟩:=hes x (gu hx);exact⟨xs,rfl,hx⟩
 have hI0:∀b,t.base=some b->∀o,g1.I b o=none:=by intro b hb o;unfold jv at t7;rw[hb]at t7;obtain⟨_,_,_,c,e,fz,_,_,_,_,k8,_⟩:=t7;rw[i1];exact k8 ho o
 refine⟨g1.row k t',e1.trans hx,?_,u1,i1,?_⟩;refine m1.setRow (k:=k) (r:=⟨0,true,r.es.map wG⟩) (t:=t') hx rfl rfl (λ_ _=>rfl) (Frame.refl _ _) AO (by rw[ht'];simpa using t3) ?_ ?_ ?_ hH hR;intro e he;obtain⟨j,hj⟩:=pW.1 he;obtain⟨xs,rfl,_⟩:=hen j e (by rw[aJ];exact hj);rfl;refine⟨AO,λe=>absurd rfl e,λe=>absurd rfl e,λ_ e=>by(rw[ht']at e;cases e),λ_ _=>⟨λj b hj=>by(rw[ht']at hj;cases hj),λb hb=> ?_,λ_=>⟨λe he=> ?_,λj b hj=>by(rw[ht']at hj;cases hj),?_⟩⟩⟩;have hb' :t.base=some b:=tb b (.inl hb);have:=m.kK t1 (.inl hb');exact⟨this.1,this.2.1,by rw[show(g1.row k t').mu=g1.mu from rfl,u1];exact this.2.2⟩;obtain⟨j,hj⟩:=pW.1 he;obtain⟨xs,rfl,_⟩:=hen j e (by rw[aJ];exact hj);exact .inr ⟨xs,rfl⟩;unfold jv at t7;rw[ht'];cases hb:t.base with|none=>rw[hb]at t7;dsimp only at t7 ⊢;exact⟨by rw[t7.1];rfl,t7.2⟩|some b=>rw[hb]at t7;obtain⟨k1,k2,k3,c,e,fz,k4,k5,k6,k7,k8,k9⟩:=t7;refine⟨k1,λj=>hI0 b hb j,c,e,fz,k4,k5.1,by rw[hz]at k6;simpa using k6,λj d hd=> ?_⟩;obtain⟨xs,rfl,hj⟩:=hen j d hd;have hfl:=gZ r.es 1 j 0 _ L8 hj E;rw[nG,kH]at hfl;obtain⟨v,v1,v2,v3,_⟩:=k9 j _ hfl;exact⟨v,v1,λys hy=>by(cases hy),λys hy=>by cases hy;exact⟨v2.mono (λ_ _ _ h=>by show g1.I _ _=_;rw[i1];exact h),v3⟩⟩
 intro b hb;have hb:=tb b hb;refine⟨λj u _ hu=>far b hb j u hu,λo v hv=> ?_⟩;have hv:g1.I b o=some v:=hv;rw[hI0 b hb o]at hv;cases hv;obtain⟨_,_,_,_,h1⟩:=hv.nS;refine .cQ t' qD (by rw[ht'];exact sD) (by rw[ht',hn];exact Nat.le_of_eq t3.symm) (λ_=> ?_) h1;rw[t4,ht'];rfl
open Classical in
theorem PE(m:Mem cx g s w){k:Nat}{r:Row}(hr:s.R k=some r)(ho:r.own=true)(hz:r.sz=0){s' :St}(hH:s'.H=s.H)(hR:s'.R=aW s.R k (some ⟨0,false,r.es⟩)){v0:Value}{n0:Nat}(hv0:bD g v0 (.cQ k n0)):∃g',Ext g g' ∧Mem cx g' s' w∧g'.mu=g.mu∧g'.tv=g.tv∧∀v n,bD g v (.cQ k n)->n=r.es.length->bM g'.I v (.sl 1 (r.es.map fW) false):=by
 obtain⟨t,t1,t2,_⟩:=hv0.wV;obtain⟨q1,q2,q3⟩:=m.sZ t1 t2 hr;obtain⟨l1,l2,l3⟩:=q3.live ho;obtain⟨g',hg'⟩:∃g' :Gh,g' ={I:=λb o=>if t.base=some b then(if o<t.n then w.cell? ⟨b,o,none⟩else none)else(if ∃j xs,t.ow j=some b∧nth r.es j=some (.own xs)∧o<xs.length then w.cell? ⟨b,o,none⟩else g.I b o),mu:=g.mu,tv:=g.tv}:=⟨_,rfl⟩;have SY:∀{j b},t.ow j=some b->∃xs,nth r.es j=some (.own xs)∧qS g w b xs:=by intro j b hj;obtain⟨xs,z1,z2⟩:=l2 j b hj;obtain⟨b',z3,z4⟩:=q3.inner ho z1 z2;rw[hj]at z3;cases z3;exact⟨xs,z1,z4⟩
 have Ib:∀b,t.base=some b->∀o,g'.I b o=if o<t.n then w.cell? ⟨b,o,none⟩else none:=λb hb o=>by rw[hg'];simp[hb]
 have Io:∀j b xs,t.ow j=some b->nth r.es j=some (.own xs)->∀o,o<xs.length->g'.I b o=w.cell? ⟨b,o,none⟩:=λj b xs h1 h2 o h3=>by rw[hg'];dsimp only;rw[Z (q3.ow j b h1).2.2.2.1,ak ⟨j,xs,h1,h2,h3⟩]
 have In:∀b,¬t.wj b->g'.I b=g.I b:=λb hb=>by funext o;rw[hg'];dsimp only;rw[Z (λe=>hb (.inl e)),Z (by rintro ⟨j,xs,h1,_⟩;exact hb (.inr ⟨t2.1,t2.2,j,h1⟩))]
 have hBI:∀b,t.base=some b->∀o,g.I b o=none:=λb hb o=>by rw[hb]at l3;exact l3.2.1 o
 have hOI:∀j b,t.ow j=some b->∀o,g.I b o=none:=λj b hj o=>by obtain⟨xs,_,_,_,_,_,_,_,_,h5,_⟩:=SY hj;exact h5 o
 have hs:ku g.I g'.I:=λb o x hx=>by by_cases hb:t.wj b;rcases hb with hb|⟨_,_,j,hb⟩;rw[hBI b hb o]at hx;cases hx;rw[hOI j b hb o]at hx;cases hx;rw[In b hb];exact hx
 have he:Ext g g' :=⟨hs,λl b h=>by rw[hg'];exact h,λk t h=>⟨t,by rw[hg'];exact h,.refl t⟩⟩;have cb:∀b,t.base=some b->∀j d,nth r.es j=some d->∃v,w.cell? ⟨b,j,none⟩=some v∧leaf v=true∧Ip g w t j v d:=by intro b hb j d hd;rw[hb]at l3;obtain⟨_,_,c,e,fz,c1,_,_,c4⟩:=l3;obtain⟨v,v1,v2⟩:=c4 j d hd;refine⟨v,(ep c1).trans v1,?_,v2⟩;rcases l1 d (gu hd)with⟨xs,rfl⟩|⟨xs,rfl⟩;obtain⟨a,c,e,_⟩:=v2.own xs rfl;rw[e];rfl;exact(v2.shr xs rfl).2
 have ci:∀j b xs,t.ow j=some b->nth r.es j=some (.own xs)->∀o,o<xs.length->∃d v,nth (xs.flatMap cells) o=some d∧w.cell? ⟨b,o,none⟩=some v∧bM g.I v d∧leaf v=true:=by intro j b xs h1 h2 o h3;obtain⟨ys,y1,c,e,fz,c1,c2,c3,c4,c5,c6⟩:=SY h1;rw[h2]at y1;cases y1;obtain⟨x,hx⟩:=bO h3;have hfl:=gZ xs 1 o 0 x c4 hx E;rw[nG,kH]at hfl;have hc:=c4 x (gu hx);obtain⟨d,hd⟩:=bO (l:=cells x) (i:=0) E;rw[hd]at hfl;obtain⟨v,v1,v2,v3⟩:=c6 o d hfl;exact⟨d,v,hfl,(ep c1).trans v1,v2,v3⟩
 refine⟨g',he,?_,xW,xW,λv n hv hn=> ?_⟩;refine m.setRow (k:=k) (r:=⟨0,false,r.es⟩) (t:=t) he xW ?_ In (Frame.refl _ _) t2.1 q2 ?_ ?_ ?_ hH hR;funext x;rw[hg'];by_cases hx:x=k;subst hx;rw[bw];exact t1;rw[aO _ _ _ _ hx];intro e he;rcases l1 e he with⟨_,rfl⟩|⟨_,rfl⟩<;>rfl
 refine⟨t2.1,λe=>absurd rfl e,λe=>absurd rfl e,λ_ e=>by(rw[t2.2]at e;cases e),λ_ _=>⟨λj b hj=> ?_,λb hb=> ?_,λe=>bK⟩⟩;rw[hg'];exact q3.ow j b hj;rw[hg'];exact q3.base b hb;intro b hb;refine⟨λj u hj hu hbl=>hj (m.k_ j k u t b hu t1 hbl hb),λo x hx=> ?_⟩;by_cases hbb:t.base=some b;rw[Ib b hbb o]at hx;split at hx;rename_i hlt;obtain⟨d,hd⟩:=bO (l:=r.es) (i:=o) E;obtain⟨v,v1,v2,_⟩:=cb b hbb o d hd;rw[v1]at hx;cases hx;exact⟨v1,v2⟩;cases hx;rcases hb with hb|⟨_,_,j,hj⟩;exact absurd hb hbb;obtain⟨xs,z1,_⟩:=SY hj;by_cases hlt:o<xs.length;rw[Io j b xs hj z1 o hlt]at hx;obtain⟨_,v,_,v1,_,v2⟩:=ci j b xs hj z1 o hlt;rw[v1]at hx;cases hx;exact⟨v1,v2⟩;have:g'.I b o=none:=by
  rw[hg'];dsimp only;rw[Z hbb,Z (by
   rintro ⟨j',ys,h1,h2,h3⟩
   have:=(q3.ow j b hj).2.2.2.2 j' h1;subst this;rw[z1]at h2;cases h2;exact hlt h3)]
  exact hOI j b hj o
 rw[this]at hx;cases hx
 ·obtain⟨t',y1,_,y2,y3,y4⟩:=hv.wV;rw[t1]at y1;cases y1;have hv' :=y3 E;subst hv';unfold Tv.value;cases hb:t.base with
  |none=>rw[hb]at l3;dsimp only at l3 ⊢;rw[l3.1];exact Ax
  |some b=>
   dsimp only;have hcap:r.es.length<=t.cap:=by rw[hb]at l3;have:=l3.1;omega
   rw[q2];have hlen:(r.es.map fW).length=r.es.length:=O
   rw[<-hlen];have key:∀j d,nth ((r.es.map fW).flatMap cells) j=some d->∃v,g'.I b j=some v∧bM g'.I v d:=by
    intro j d hd;have hone:∀e∈r.es.map fW,(cells e).length=1:=by intro e he;obtain⟨x,hx,rfl⟩:=dV.1 he;rcases l1 x hx with⟨_,rfl⟩|⟨_,rfl⟩<;>rfl
    have hj:j<r.es.length:=by
     have h1:=aH hd;have:∀l:List au,(∀e∈l,(cells e).length=1)->(l.flatMap cells).length=l.length:=Ls
     rw[this _ hone,hlen]at h1;exact h1
    obtain⟨x,hx⟩:=bO hj;have hfl:=gZ (r.es.map fW) 1 j 0 (fW x) hone (by rw[c_,hx];rfl) E;rw[nG,kH,hd]at hfl;obtain⟨v,v1,v2,v3⟩:=cb b hb j x hx;refine⟨v,by rw[Ib b hb,ak E];exact v1,?_⟩;rcases l1 x (gu hx)with⟨xs,rfl⟩|⟨xs,rfl⟩;have hd' :d= .sl 1 xs false:=aae;subst hd';obtain⟨a,c,e1,e2,e3⟩:=v3.own xs rfl;by_cases hne:xs=[];subst hne;rw[e1];exact Ay;obtain⟨b',e4,e5,e6⟩:=e3 hne;rw[e1,e5];obtain⟨_,_,_,_,_,_,e7,_,_⟩:=e6;refine .sl b' 0 c 1 xs (λo=>(w.cell? ⟨b',o,none⟩).getD undef) e2 e7 (λo d hd=> ?_) (λo d hd=> ?_);have ho:o<xs.length:=by
     have h1:=aH hd;have:∀l:List au,(∀e∈l,(cells e).length=1)->(l.flatMap cells).length=l.length:=Ls
     rw[this _ e7]at h1;exact h1
    obtain⟨_,u,_,u1,_⟩:=ci j b' xs e4 hx o ho;rw[eI,Io j b' xs e4 hx o ho,u1];rfl;have ho:o<xs.length:=by
     have h1:=aH hd;have:∀l:List au,(∀e∈l,(cells e).length=1)->(l.flatMap cells).length=l.length:=Ls
     rw[this _ e7]at h1;exact h1
    obtain⟨d',u,u0,u1,u2,_⟩:=ci j b' xs e4 hx o ho;rw[hd]at u0;cases u0;rw[u1];exact u2.mono hs;have hd' :d= .sl 1 xs false:=aae;subst hd';exact(v3.shr xs rfl).1.mono hs
   refine .sl b 0 t.cap 1 (r.es.map fW) (λj=>(g'.I b j).getD undef) Mo ?_ (λj d hd=> ?_) (λj d hd=> ?_);intro e he;obtain⟨x,hx,rfl⟩:=dV.1 he;rcases l1 x hx with⟨_,rfl⟩|⟨_,rfl⟩<;>rfl;obtain⟨v,h1,_⟩:=key j d hd;rw[eI,h1];rfl;obtain⟨v,h1,h2⟩:=key j d hd;rw[h1];exact h2
theorem vj{d x:au}{j:Nat}{y:au}(h:nth (cells d) j=some y)(hc:cells x=[x]):(cells (setCell d j x)).length=(cells d).length∧∀(i:Nat) z,nth (cells (setCell d j x)) i=some z->(i=j∧z=x)∨(i≠j∧nth (cells d) i=some z):=by
 have one:∀{d:au},nth [d] j=some y->cells x=[x]->(cells x).length=[d].length∧∀(i:Nat) z,nth (cells x) i=some z->(i=j∧z=x)∨(i≠j∧nth [d] i=some z):=λ{d} h hc=>by rw[hc];refine⟨rfl,λi z hz=> ?_⟩;cases j with|succ j=>simp[nth]at h|zero=>cases i with|zero=>simp[nth]at hz;exact .inl ⟨rfl,hz.symm⟩|succ i=>simp[nth]at hz
 cases d with
 |agg cs=>
  have len:∀(cs:List au) (j:Nat),(setAt cs j x).length=cs.length:=by intro cs;induction cs with|nil=>intro j;cases j<;>rfl|cons c cs ih=>intro j;cases j with|zero=>rfl|succ j=>simp[setAt,ih]
  have Y3 :∀(cs:List au) (j i:Nat) z,nth (setAt cs j x) i=some z->(i=j∧z=x)∨(i≠j∧nth cs i=some z):=by
   intro cs;induction cs with
   |nil=>intro j i z hz;cases j<;>simp[setAt,nth]at hz
   |cons c cs ih=>
    intro j i z hz;cases j with
    |zero=>cases i with|zero=>simp[setAt,nth]at hz;exact .inl ⟨rfl,hz.symm⟩|succ i=>exact TW
    |succ j=>cases i with|zero=>exact TW|succ i=>rcases ih j i z (by simpa[setAt,nth]using hz)with⟨e1,e2⟩|⟨e1,e2⟩;exact .inl ⟨E,e2⟩;exact .inr ⟨E,by simpa[nth]using e2⟩
  exact⟨len cs j,Y3 cs j⟩
 |me k v=>simp[cells,nth]at h|md=>simp[cells,nth]at h|own es=>simp[cells,nth]at h|shr es=>simp[cells,nth]at h|_=>exact one h hc
theorem gI{V W U:List Nat}(hV:∀k∈V,k∈dm U)(hW:∀t∈W,t∈U):∀{ad:List Ad} {g:Gh} {s:St} {K:St->Prop},kr V W ad s K->Rel cx g s a w->∃s' g',K s' ∧Ext g g' ∧Rel cx g' s' a w∧bW U s s'
 |[],g,s,K,hk,h=>⟨s,g,hk,Ext.refl g,h,bW.refl _ _⟩
 | .tmp t k::ad,g,s,K,hk,h=>by
   simp only[pd,ng,lI,ni,ir,lF,lG,gJ]at hk
   split at hk
   ·rename_i sz ht
    split at hk
    ·rename_i hm hR
     rw[aX,aX]at hm
     obtain⟨hm,hzb⟩:=hm
     have hz0:sz≠0:=λe=>by subst e;cases hzb
     obtain⟨g1,e1,m1,q1,q2,r1⟩:=Ka h.mem hz0 hR (sz:=sz) (s' :={env:=aW s.env t (some (.ref k 0)),H:=s.H,hn:=s.hn,R:=aW s.R k (some ⟨sz,true,[]⟩),rn:=k::s.rn,y:=s.y}) rfl rfl
     have h1:Rel cx g1 {env:=aW s.env t (some (.ref k 0)),H:=s.H,hn:=s.hn,R:=aW s.R k (some ⟨sz,true,[]⟩),rn:=k::s.rn,y:=s.y} a w:=
      ⟨λu d hu=>by
       by_cases e:u=t
       ·subst e
        have hu' :aW s.env u (some (.ref k 0)) u=some d:=hu
        rw[bw]at hu';cases hu'
        exact r1 _ (h.env u _ ht)
       ·have hu' :aW s.env t (some (.ref k 0)) u=some d:=hu
        rw[aO _ _ _ _ e]at hu'
        exact Kq,h.size,h.defers,m1⟩
     obtain⟨s2,g2,k2,e2,h2,kk⟩:=gI hV hW hk h1
     refine⟨s2,g2,k2,e1.trans e2,h2,?_⟩
     have k0:bW U s {env:=aW s.env t (some (.ref k 0)),H:=s.H,hn:=s.hn,R:=aW s.R k (some ⟨sz,true,[]⟩),rn:=k::s.rn,y:=s.y}:=
      bW.iE (.inr ⟨t,_,hW t (iF.1 hm.2),rfl⟩) (.inl ⟨rfl,rfl⟩) (.inr (.inr ⟨k,_,hV k (iF.1 hm.1),rfl,rfl⟩))
     exact EM
    ·exact aq
   ·exact aq
 | .cell l j k::ad,g,s,K,hk,h=>by
   simp only[pd,ng,lI,ni,ir,lF,lG,gJ]at hk
   split at hk
   ·rename_i d hd
    split at hk
    ·rename_i sz hc
     split at hk
     ·rename_i hm hR
      rw[aX]at hm
      obtain⟨hm,hzb⟩:=hm
      have hz0:sz≠0:=λe=>by subst e;cases hzb
      obtain⟨g1,e1,m1,q1,q2,r1⟩:=Ka h.mem hz0 hR (sz:=sz) (s' :={env:=s.env,H:=s.H,hn:=s.hn,R:=aW s.R k (some ⟨sz,true,[]⟩),rn:=k::s.rn,y:=s.y}) rfl rfl
      obtain⟨b,b1,b2,b3⟩:=m1.box l d hd
      obtain⟨z1,z2⟩:=vj (x:= .ref k 0) hc rfl
      have hbox:qn g1 w b (setCell d j (.ref k 0)):=by
       obtain⟨c,e,fz,c1,c2,c3,c4⟩:=b2
       refine⟨c,e,fz,c1,c2,LZ,λi v x hv hx=> ?_⟩
       rcases z2 i x hx with⟨rfl,rfl⟩|⟨_,hx'⟩
       ·obtain⟨p1,p2⟩:=c4 i v _ hv hc
        refine⟨?_,p2⟩
        have:bD g v (.sl sz [] true):=by
         cases p1 with
         |pure r=>exact .pure (by rw[<-q2];exact r)
        exact r1 v this
       ·exact c4 i v x hv hx'
      have m2:Mem cx g1 {env:=s.env,H:=aW s.H l (some (setCell d j (.ref k 0))),hn:=s.hn,R:=aW s.R k (some ⟨sz,true,[]⟩),rn:=k::s.rn,y:=s.y} w:=m1.acd hd b1 hbox rfl rfl
      have h1:Rel cx g1 {env:=s.env,H:=aW s.H l (some (setCell d j (.ref k 0))),hn:=s.hn,R:=aW s.R k (some ⟨sz,true,[]⟩),rn:=k::s.rn,y:=s.y} a w:=
       ⟨λu d hu=>(h.env u d hu).mono e1,h.size,h.defers,m2⟩
      obtain⟨s2,g2,k2,e2,h2,kk⟩:=gI hV hW hk h1
      refine⟨s2,g2,k2,e1.trans e2,h2,?_⟩
      have k0:bW U s {env:=s.env,H:=aW s.H l (some (setCell d j (.ref k 0))),hn:=s.hn,R:=aW s.R k (some ⟨sz,true,[]⟩),rn:=k::s.rn,y:=s.y}:=
       bW.iE (.inl rfl) (.inr (.inl ⟨l,_,AW,rfl,rfl⟩)) (.inr (.inr ⟨k,_,hV k (iF.1 hm),rfl,rfl⟩))
      exact EM
     ·exact aq
    ·exact aq
   ·exact aq
 | .lay t::ad,g,s,K,hk,h=>by
   simp only[pd,ng,lI,ni,ir,lF,lG,gJ]at hk
   split at hk
   ·rename_i d hd
    split at hk
    ·rename_i hm
     obtain⟨s1,d1,g1,k1,l1,_,_,r1⟩:=oS h (oU hk)
     obtain⟨lk,k1⟩:=k1
     have h1:Rel cx g1 {env:=aW s1.env t (some d1),H:=s1.H,hn:=s1.hn,R:=s1.R,rn:=s1.rn,y:=s1.y} a w:=
      ⟨λu x hu=>by
       have hu' :aW s1.env t (some d1) u=some x:=hu
       by_cases e:u=t
       ·subst e
        rw[bw]at hu';cases hu'
        exact .pure (r1 _ (h.env u _ hd))
       ·rw[aO _ _ _ _ e]at hu'
        exact l1.rel.env u x hu',l1.rel.size,l1.rel.defers,l1.rel.mem.names rfl rfl⟩
     obtain⟨s2,g2,k2,e2,h2,kk⟩:=gI hV hW k1 h1
     refine⟨s2,g2,k2,l1.ext.trans e2,h2,?_⟩
     have k0:bW U s1 {env:=aW s1.env t (some d1),H:=s1.H,hn:=s1.hn,R:=s1.R,rn:=s1.rn,y:=s1.y}:=
      bW.iE (.inr ⟨t,_,hW t (iF.1 hm),rfl⟩) (.inl ⟨rfl,rfl⟩) (.inl ⟨rfl,rfl⟩)
     exact U9
    ·exact aq
   ·exact aq
 | .aS l j::ad,g,s,K,hk,h=>by
   simp only[pd,ng,lI,ni,ir,lF,lG,gJ]at hk
   split at hk
   ·rename_i d hd
    split at hk
    ·rename_i x hx
     obtain⟨s1,x1,g1,k1,l1,_,_,r1⟩:=nW h (my hk)
     obtain⟨lk,k1⟩:=k1
     have hna:∀cs,x1≠.agg cs:=λcs e=>by subst e;exact k1
     have k1' :kr V W ad {env:=s1.env,H:=aW s1.H l (some (setCell d j x1)),hn:=s1.hn,R:=s1.R,rn:=s1.rn,y:=s1.y} K:=by
      cases x1<;>first|exact k1|exact k1.elim
     have hd1:s1.H l=some d:=by rw[l1.H];exact hd
     obtain⟨b,b1,b2,b3⟩:=l1.rel.mem.box l d hd1
     obtain⟨b',b1',b2',_⟩:=h.mem.box l d hd
     have hc1:cells x1=[x1]:=by
      obtain⟨c,e,fz,c1,c2,c3,c4⟩:=b2'
      have hj:j<c.size:=AA
      have:=(bD.pure (g:=g1) (r1 _ (c4 j c[j] x O hx).1)).uf
      have aku:=(bD.pure (g:=g1) (r1 _ (c4 j c[j] x O hx).1)).G_
      cases x1<;>first|rfl|exact absurd rfl (hna _)|exact absurd rfl (this.1 _ _)|exact absurd rfl this.2|exact absurd rfl (aku.1 _)|exact absurd rfl (aku.2 _)
     obtain⟨z1,z2⟩:=vj (x:=x1) hx hc1
     have hbox:qn g1 w b (setCell d j x1):=by
      obtain⟨c,e,fz,c1,c2,c3,c4⟩:=b2
      have e1:b=b' :=by rw[l1.mu,b1']at b1;cases b1;rfl
      subst e1
      obtain⟨c',e',fz',c1',_,_,c4'⟩:=b2'
      rw[c1]at c1';cases c1'
      refine⟨c,e,fz,c1,c2,LZ,λi v y hv hy=> ?_⟩
      rcases z2 i y hy with⟨rfl,rfl⟩|⟨_,hx'⟩
      ·obtain⟨p1,p2⟩:=c4' i v _ hv hx
       exact⟨.pure (r1 v p1),p2⟩
      ·exact c4 i v y hv hx'
     have m2:Mem cx g1 {env:=s1.env,H:=aW s1.H l (some (setCell d j x1)),hn:=s1.hn,R:=s1.R,rn:=s1.rn,y:=s1.y} w:=l1.rel.mem.acd hd1 b1 hbox rfl rfl
     have h1:Rel cx g1 {env:=s1.env,H:=aW s1.H l (some (setCell d j x1)),hn:=s1.hn,R:=s1.R,rn:=s1.rn,y:=s1.y} a w:=⟨l1.rel.env,l1.rel.size,l1.rel.defers,m2⟩
     obtain⟨s2,g2,k2,e2,h2,kk⟩:=gI hV hW k1' h1
     refine⟨s2,g2,k2,l1.ext.trans e2,h2,?_⟩
     have k0:bW U s1 {env:=s1.env,H:=aW s1.H l (some (setCell d j x1)),hn:=s1.hn,R:=s1.R,rn:=s1.rn,y:=s1.y}:=
      bW.iE (.inl rfl) (.inr (.inl ⟨l,_,by rw[hd1];simp,rfl,rfl⟩)) (.inl ⟨rfl,rfl⟩)
     exact U9
    ·exact aq
   ·exact aq
 | .nest t k::ad,g,s,K,hk,h=>by
   simp only[pd,ng,lI,ni,ir,lF,lG,gJ]at hk
   split at hk
   rotate_left
   ·exact aq
   rename_i q n ht
   split at hk
   rotate_left
   ·exact aq
   rename_i r hq hkn
   split at hk
   rotate_left
   ·exact aq
   rename_i hm
   simp only[aX,mR]at hm
   obtain⟨⟨hm1,hm2⟩,⟨ho,hz⟩,hqk⟩:=hm
   have hqk:q≠k:=λe=>RN
   obtain⟨g1,e1,m1,q1,q2,r1⟩:=adb h.mem hq hkn ho (dw hz) hqk hk.h.2 (h.env t _ ht) hk.h.1 (s' :={env:=aW s.env t (some (.cQ k n)),H:=s.H,hn:=s.hn,R:=aW (aW s.R q (some (qd r))) k (some ⟨0,true,r.es.map wG⟩),rn:=k::s.rn,y:=s.y}) rfl rfl
   have h1:Rel cx g1 {env:=aW s.env t (some (.cQ k n)),H:=s.H,hn:=s.hn,R:=aW (aW s.R q (some (qd r))) k (some ⟨0,true,r.es.map wG⟩),rn:=k::s.rn,y:=s.y} a w:=
    ⟨λu d hu=>by
     by_cases e:u=t
     ·subst e
      have hu' :aW s.env u (some (.cQ k n)) u=some d:=hu
      rw[bw]at hu';cases hu'
      exact r1
     ·have hu' :aW s.env t (some (.cQ k n)) u=some d:=hu
      rw[aO _ _ _ _ e]at hu'
      exact Kq,h.size,h.defers,m1⟩
   obtain⟨s2,g2,k2,e2,h2,kk⟩:=gI hV hW hk.k h1
   refine⟨s2,g2,k2,e1.trans e2,h2,?_⟩
   have k0:bW U s {env:=s.env,H:=s.H,hn:=s.hn,R:=aW s.R q (some (qd r)),rn:=s.rn,y:=s.y}:=bW.iE (.inl rfl) (.inl ⟨rfl,rfl⟩) (.inr (.inl ⟨q,_,by rw[hq];simp,rfl,rfl⟩))
   have k1:bW U {env:=s.env,H:=s.H,hn:=s.hn,R:=aW s.R q (some (qd r)),rn:=s.rn,y:=s.y} {env:=aW s.env t (some (.cQ k n)),H:=s.H,hn:=s.hn,R:=aW (aW s.R q (some (qd r))) k (some ⟨0,true,r.es.map wG⟩),rn:=k::s.rn,y:=s.y}:=
    bW.iE (.inr ⟨t,_,hW t (iF.1 hm2),rfl⟩) (.inl ⟨rfl,rfl⟩) (.inr (.inr ⟨k,_,hV k (iF.1 hm1),rfl,rfl⟩))
   exact(k0.trans k1 (λ_ h=>h) (λ_ h=>h)).trans kk (λ_ h=>h) (λ_ h=>h)
 | .Hr t::ad,g,s,K,hk,h=>by
   simp only[pd,ng,lI,ni,ir,lF,lG,gJ]at hk
   split at hk
   rotate_left
   ·exact aq
   rename_i k n ht
   split at hk
   rotate_left
   ·exact aq
   rename_i r hr
   split at hk
   rotate_left
   ·exact aq
   rename_i hm
   simp only[aX]at hm
   obtain⟨hm1,hz,ho⟩:=hm
   obtain⟨g1,e1,m1,q1,q2,r1⟩:=PE h.mem hr ho (dw hz) (s' :={env:=aW s.env t (some (.sl 1 (r.es.map fW) false)),H:=s.H,hn:=s.hn,R:=aW s.R k (some ⟨0,false,r.es⟩),rn:=s.rn,y:=s.y}) rfl rfl (h.env t _ ht)
   have h1:Rel cx g1 {env:=aW s.env t (some (.sl 1 (r.es.map fW) false)),H:=s.H,hn:=s.hn,R:=aW s.R k (some ⟨0,false,r.es⟩),rn:=s.rn,y:=s.y} a w:=
    ⟨λu d hu=>by
     by_cases e:u=t
     ·subst e
      have hu' :aW s.env u (some (.sl 1 (r.es.map fW) false)) u=some d:=hu
      rw[bw]at hu';cases hu'
      exact .pure (r1 _ n (h.env u _ ht) hk.h)
     ·have hu' :aW s.env t (some (.sl 1 (r.es.map fW) false)) u=some d:=hu
      rw[aO _ _ _ _ e]at hu'
      exact Kq,h.size,h.defers,m1⟩
   obtain⟨s2,g2,k2,e2,h2,kk⟩:=gI hV hW hk.k h1
   refine⟨s2,g2,k2,e1.trans e2,h2,?_⟩
   have k0:bW U s {env:=aW s.env t (some (.sl 1 (r.es.map fW) false)),H:=s.H,hn:=s.hn,R:=aW s.R k (some ⟨0,false,r.es⟩),rn:=s.rn,y:=s.y}:=
    bW.iE (.inr ⟨t,_,hW t (iF.1 hm1),rfl⟩) (.inl ⟨rfl,rfl⟩) (.inr (.inl ⟨k,_,qB,rfl,rfl⟩))
   exact EM
 | .uj l j::ad,g,s,K,hk,h=>by
   simp only[pd,ng,lI,ni,ir,lF,lG,gJ]at hk
   split at hk
   rotate_left
   ·exact aq
   rename_i d hd
   split at hk
   rotate_left
   ·exact aq
   rename_i k n hx
   split at hk
   rotate_left
   ·exact aq
   rename_i r hr
   split at hk
   rotate_left
   ·exact aq
   rename_i hm
   simp only[aX]at hm
   obtain⟨hz,ho⟩:=hm
   obtain⟨b',b1',b2',_⟩:=h.mem.box l d hd
   obtain⟨v0,hv0⟩:∃v0,bD g v0 (.cQ k n):=by
    obtain⟨c,e,fz,c1,c2,c3,c4⟩:=b2'
    have hj:j<c.size:=AA
    exact⟨c[j],(c4 j c[j] _ O hx).1⟩
   obtain⟨g1,e1,m1,q1,q2,r1⟩:=PE h.mem hr ho (dw hz) (s' :={env:=s.env,H:=s.H,hn:=s.hn,R:=aW s.R k (some ⟨0,false,r.es⟩),rn:=s.rn,y:=s.y}) rfl rfl hv0
   obtain⟨b,b1,b2,b3⟩:=m1.box l d hd
   obtain⟨z1,z2⟩:=vj (x:= .sl 1 (r.es.map fW) false) hx rfl
   have hbox:qn g1 w b (setCell d j (.sl 1 (r.es.map fW) false)):=by
    have eb:b=b' :=by rw[q1,b1']at b1;cases b1;rfl
    subst eb
    obtain⟨c,e,fz,c1,c2,c3,c4⟩:=b2
    obtain⟨c',e',fz',c1',_,_,c4'⟩:=b2'
    rw[c1]at c1';cases c1'
    refine⟨c,e,fz,c1,c2,LZ,λi v y hv hy=> ?_⟩
    rcases z2 i y hy with⟨rfl,rfl⟩|⟨_,hx'⟩
    ·obtain⟨p1,p2⟩:=c4' i v _ hv hx
     exact⟨.pure (r1 v n p1 hk.h),p2⟩
    ·exact c4 i v y hv hx'
   have m2:Mem cx g1 {env:=s.env,H:=aW s.H l (some (setCell d j (.sl 1 (r.es.map fW) false))),hn:=s.hn,R:=aW s.R k (some ⟨0,false,r.es⟩),rn:=s.rn,y:=s.y} w:=m1.acd hd b1 hbox rfl rfl
   have h1:Rel cx g1 {env:=s.env,H:=aW s.H l (some (setCell d j (.sl 1 (r.es.map fW) false))),hn:=s.hn,R:=aW s.R k (some ⟨0,false,r.es⟩),rn:=s.rn,y:=s.y} a w:=
    ⟨λu d hu=>(h.env u d hu).mono e1,h.size,h.defers,m2⟩
   obtain⟨s2,g2,k2,e2,h2,kk⟩:=gI hV hW hk.k h1
   refine⟨s2,g2,k2,e1.trans e2,h2,?_⟩
   have k0:bW U s {env:=s.env,H:=aW s.H l (some (setCell d j (.sl 1 (r.es.map fW) false))),hn:=s.hn,R:=aW s.R k (some ⟨0,false,r.es⟩),rn:=s.rn,y:=s.y}:=
    bW.iE (.inl rfl) (.inr (.inl ⟨l,_,AW,rfl,rfl⟩)) (.inr (.inl ⟨k,_,qB,rfl,rfl⟩))
   exact EM
end
structure Fit(W:List Nat)(s:St)(m:we):Prop where
 td:tidy W (dm W) m=true
 lh:kl s m.H=true
 lr:kj s m.R=true
def zB{W:List Nat}{s:St}{m:we}(hf:Fit W s m)(l:Nat):(s.with W m).H l≠none↔s.H l≠none:=by show Over m.H s.H l≠none↔_;rcases m8 (e:=s.H) m.H l with⟨d,h1,h2⟩|⟨_,h2⟩;rw[h2];have:=PW hf.lh _ h1;exact⟨λ_=>this,λ_=>O⟩;rw[h2]
def zz{W:List Nat}{s:St}{m:we}(hf:Fit W s m)(l:Nat):(s.with W m).R l≠none↔s.R l≠none:=by show Over m.R s.R l≠none↔_;rcases m8 (e:=s.R) m.R l with⟨d,h1,h2⟩|⟨_,h2⟩;rw[h2];have:=PV hf.lr _ h1;exact⟨λ_=>this,λ_=>O⟩;rw[h2]
def OS{W:List Nat}{s:St}{m:we}(hf:Fit W s m){t:Nat}(ht:t∉W):(s.with W m).env t=s.env t:=by
 show Over m.env (xF W s.env) t=_;have hk:Ht W m.env=true:=by have:=hf.td;unfold tidy at this;rw[aX]at this;exact this.2
 rcases m8 (e:=xF W s.env) m.env t with⟨d,h1,h2⟩|⟨_,h2⟩;exact absurd (JE hk _ h1) ht;rw[h2];rcases lJ W s.env t with⟨h3,_⟩|⟨_,h3⟩;exact absurd h3 ht;exact h3
def yq{W:List Nat}{s:St}{m:we}(hf:Fit W s m):bW W s (s.with W m) where
 env t ht:=OS hf ht
 H l hl:= .inl ((zB hf l).1 hl)
 R l hl:= .inl ((zz hf l).1 hl)
 kl l hl:=(zB hf l).2 hl
 kj l hl:=(zz hf l).2 hl
 nm hn:=⟨λl hl=>hn.1 l ((zB hf l).1 hl),λl hl=>hn.2 l ((zz hf l).1 hl)⟩
 y h:=h
theorem Hk{cx:Cx}{g:Gh}{W:List Nat}{s:St}{m:we}{a:Act}{w:World}(h:Rel cx g s a w)(hn:Nm s)(hf:Fit W s m)(hh:Holds s (s.with W m) m):Rel cx g (s.with W m) a w:=by
 have eH:(s.with W m).H=s.H:=by
  funext l;cases hl:s.H l with
  |none=>cases hx:(s.with W m).H l with|none=>rfl|some d=>exact absurd hl ((zB hf l).1 (by rw[hx];simp))
  |some d=>rw[<-hl];exact(Gz hh.H l (hn.1 l sJ)).symm
 have eR:(s.with W m).R=s.R:=by
  funext l;cases hl:s.R l with
  |none=>cases hx:(s.with W m).R l with|none=>rfl|some d=>exact absurd hl ((zz hf l).1 (by rw[hx];simp))
  |some d=>rw[<-hl];exact(Gy hh.R l (hn.2 l sJ)).symm
 refine⟨λt d ht=> ?_,h.size,h.defers,h.mem.names eH eR⟩;rcases m8 (e:=xF W s.env) m.env t with⟨d',h1,h2⟩|⟨_,h2⟩;have:(s.with W m).env t=some d' :=h2;rw[ht]at this;cases this;exact h.env t d (xe hh.env _ h1);rcases lJ W s.env t with⟨_,h3⟩|⟨_,h3⟩;have:(s.with W m).env t=none:=h2.trans h3;rw[ht]at this;cases this;have:(s.with W m).env t=s.env t:=h2.trans h3;exact h.env t d (by rw[<-this];exact ht)
open Classical in
def Hj{cx0 cx:Cx}{g0 g' :Gh}{W:List Nat}{s s' :St}{m m' :we}{a0 a' :Act}{w0 w' :World}(h0:Rel cx0 g0 s a0 w0)(he:Ext g0 g')(h:Rel cx g' s' a' w')(hn:Nm s)(hf:Fit W s m)(hf' :Fit W s m')(hk:bW W (s.with W m) s')(hd:zj s W=true)(hdr:zi s (dm W)=true)(hh:Holds s' (s.with W m') m'):∃g'',Ext g0 g'' ∧Rel cx g'' (s.with W m') a' w' ∧g''.I=g'.I:=by
 refine⟨{I:=g'.I,mu:=λl=>if s.H l=none then none else g'.mu l,tv:=λk=>if s.R k=none then none else g'.tv k},?_,?_⟩;refine⟨he.I,λl b hl=> ?_,λk t hk=> ?_⟩;obtain⟨d,hd⟩:=h0.mem.gx l b hl;show(if s.H l=none then none else g'.mu l)=some b;rw[Z AW];exact he.mu l b hl;obtain⟨r,hr⟩:=h0.mem.gE k t hk;obtain⟨t',h1,h2⟩:=he.tv k t hk;refine⟨t',?_,h2⟩;show(if s.R k=none then none else g'.tv k)=some t';rw[Z qB];exact h1;have mu0:∀l,s.H l≠none->(if s.H l=none then none else g'.mu l)=g'.mu l:=λl hl=>Z hl;have tv0:∀l,s.R l≠none->(if s.R l=none then none else g'.tv l)=g'.tv l:=λl hl=>Z hl;have lH:∀l b,g'.mu l=some b->l∉W->s.H l≠none:=λl b hl hw=>by obtain⟨d,hd⟩:=h.mem.gx l b hl;rcases hk.H l AW with e|e;exact(zB hf l).1 e;exact absurd e hw
 have lR:∀l b,g'.tv l=some b->l∉dm W->s.R l≠none:=λl b hl hw=>by obtain⟨d,hd⟩:=h.mem.gE l b hl;rcases hk.R l AW with e|e;exact(zz hf l).1 e;exact absurd e hw
 let g'' :Gh:={I:=g'.I,mu:=λl=>if s.H l=none then none else g'.mu l,tv:=λk=>if s.R k=none then none else g'.tv k};have toT:∀{v:Value} {d:au},bD g' v d->sj (λl=>l∉W) (λk=>k∉dm W) d->bD g'' v d:=λ{v d} x n=>x.restrict n rfl (λl b hl hb=>by show(if s.H l=none then none else g'.mu l)=some b;rw[mu0 l (lH l b hb hl)];exact hb) (λk t hl hb=>by show(if s.R k=none then none else g'.tv k)=some t;rw[tv0 k (lR k t hb hl)];exact hb);have toS:∀{v:Value} {d:au},bD g' v d->sj (λl=>g0.mu l≠none) (λk=>g0.tv k≠none) d->bD g'' v d:=λ{v d} x n=>
  x.restrict n rfl (λl b hl hb=>by
   have:s.H l≠none:=by cases h1:g0.mu l with|none=>exact absurd h1 hl|some b' =>obtain⟨d,hd⟩:=h0.mem.gx l b' h1;rw[hd];simp
   show(if s.H l=none then none else g'.mu l)=some b;rw[mu0 l this];exact hb)
   (λk t hl hb=>by
    have:s.R k≠none:=by cases h1:g0.tv k with|none=>exact absurd h1 hl|some b' =>obtain⟨d,hd⟩:=h0.mem.gE k b' h1;rw[hd];simp
    show(if s.R k=none then none else g'.tv k)=some t;rw[tv0 k this];exact hb)
 have td:=hf'.td;unfold tidy at td;rw[aX,aX]at td;have lvH:∀l d,(s.with W m').H l=some d->s.H l≠none∧s'.H l=some d:=λl d hl=>by have h1:s.H l≠none:=(zB hf' l).1 sJ;exact⟨h1,by rw[Gz hh.H l (hn.1 l h1)];exact hl⟩
 have lvR:∀l d,(s.with W m').R l=some d->s.R l≠none∧s'.R l=some d:=λl d hl=>by have h1:s.R l≠none:=(zz hf' l).1 sJ;exact⟨h1,by rw[Gy hh.R l (hn.2 l h1)];exact hl⟩
 refine⟨⟨λt d ht=> ?_,h.size,h.defers,?_⟩,rfl⟩;rcases m8 (e:=xF W s.env) m'.env t with⟨d',h1,h2⟩|⟨_,h2⟩;have:(s.with W m').env t=some d' :=h2;rw[ht]at this;cases this;exact toT (h.env t d (xe hh.env _ h1)) (OZ (Gp td.1.1 _ h1));rcases lJ W s.env t with⟨_,h3⟩|⟨h4,h3⟩;have:(s.with W m').env t=none:=h2.trans h3;rw[ht]at this;cases this;have e1:(s.with W m').env t=s.env t:=h2.trans h3;rw[ht]at e1;have e2:s'.env t=some d:=by rw[hk.env t h4,OS hf h4];exact e1.symm
 exact toS (h.env t d e2) (h0.env t d e1.symm).nms;refine{iw:=h.mem.iw,box:=λl d hl=> ?_,gx:=λl b hl=> ?_,inj:=λl m b h1 h2=> ?_,F3:=λl b hl=> ?_,row:=λk r hr=> ?_,gE:=λk t hk=> ?_,k_:=λk j t u b h1 h2 h3 h4=> ?_,kN:=h.mem.kN,frame:=h.mem.frame,new:=h.mem.new};obtain⟨h1,h2⟩:=lvH l d hl;obtain⟨b,hb,hx,hm⟩:=h.mem.box l d h2;refine⟨b,by show(if s.H l=none then none else g'.mu l)=some b;rw[mu0 l h1];exact hb,?_,hm⟩;obtain⟨c,e,fz,y1,y2,y3,y4⟩:=hx;refine⟨c,e,fz,y1,y2,y3,λi v x hv hx=>⟨?_,(y4 i v x hv hx).2⟩⟩;have hrep:=(y4 i v x hv hx).1;rcases m8 (e:=s.H) m'.H l with⟨d',z1,z2⟩|⟨_,z2⟩;have:(s.with W m').H l=some d' :=z2;rw[hl]at this;cases this;exact toT hrep ((OZ (Gp td.1.2 _ z1)).cells hx);have e1:(s.with W m').H l=s.H l:=z2;rw[hl]at e1;obtain⟨b0,_,⟨c0,_,_,x1,_,x3,x4⟩,_⟩:=h0.mem.box l d e1.symm;obtain⟨v0,hv0⟩:∃v0,c0[i]? =some v0:=⟨c0[i]'(by have:=aH hx;omega),by simp[show i<c0.size by have:=aH hx;omega]⟩;exact toS hrep (x4 i v0 x hv0 hx).1.nms;have hl' :(if s.H l=none then none else g'.mu l)=some b:=hl;split at hl';cases hl';rename_i hne;cases hx:(s.with W m').H l with|some d=>exact⟨d,rfl⟩|none=>exact absurd hx ((zB hf' l).2 hne)
 have h1' :(if s.H l=none then none else g'.mu l)=some b:=h1;have h2' :(if s.H m=none then none else g'.mu m)=some b:=h2;split at h1';cases h1';split at h2';cases h2';exact h.mem.inj l m b h1' h2';have h1' :(if s.H l=none then none else g'.mu l)=some b:=hl;split at h1';cases h1';exact h.mem.F3 l b h1';obtain⟨h1,h2⟩:=lvR k r hr;obtain⟨t,x1,x2,x3,x4,x5⟩:=h.mem.row k r h2;refine⟨t,by show(if s.R k=none then none else g'.tv k)=some t;rw[tv0 k h1];exact x1,x2,x3,x4,?_⟩;refine x5.names rfl λb hb=> ?_;obtain⟨y2,y3⟩:=x5.at2 hb;refine⟨y2,λl hl=> ?_⟩;have h1' :(if s.H l=none then none else g'.mu l)=some b:=hl;split at h1';cases h1';exact y3 l h1';have h1' :(if s.R k=none then none else g'.tv k)=some t:=hk;split at h1';cases h1';rename_i hne;cases hx:(s.with W m').R k with|some d=>exact⟨d,rfl⟩|none=>exact absurd hx ((zz hf' k).2 hne)
 have h1' :(if s.R k=none then none else g'.tv k)=some t:=h1;have h2' :(if s.R j=none then none else g'.tv j)=some u:=h2;split at h1';cases h1';split at h2';cases h2';exact h.mem.k_ k j t u b h1' h2' h3 h4
end Abs
